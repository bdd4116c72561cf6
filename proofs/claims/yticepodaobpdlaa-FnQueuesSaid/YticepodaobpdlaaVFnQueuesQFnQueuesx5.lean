/- Printed by a program of the session. Conditions: none. (squeezed). -/
import Derived.Test.YticepodaobpdlaaVFnQueuesQFnQueuesx5a
namespace Go.Proofs.Yticepodaobpdlaa.QFnQueues
set_option maxHeartbeats 80000000
set_option maxRecDepth 100000
open Go.RowKit Go.Proofs.YticepodaobpdlaaW.PrintWords Go.Proofs.YticepodaobpdlaaW.PrintLast Go.Proofs.YticepodaobpdlaaW.PrintMore Go.Proofs.Yticepodaobpdlaa.Open Go.Proofs.Yticepodaobpdlaa.Sq
attribute [local go_sem] max2_int min2_int max_two min_two max_three min_three max_four min_four   -- for this text's walks alone
attribute [local go_sem] isSome_set
set_option linter.unusedVariables false
set_option linter.unusedSimpArgs false

attribute [local go_sem high] eqA28
theorem laws_FnQueues.calls (k : Nat) (A0 : Option Addr) (c0 : Nat) (l0 : List Int) (r : Bool) (w : World) (hr0 : Kd.C (Kd.int .u8) w A0 l0.length l0) (hc0 : l0.length ≤ c0) (h : laws_FnQueues.f k l0 = some r) :
    Calls Try.prog 3 #[.slice A0 l0.length c0] w fun e w' => e = .returned (.bool r) ∧ Below w.heap.size w w' := by
 have hu26 := Try.underlying26
 have hu28 := Try.underlying28
 have HR0 := am hr0
 have HC0 := am hc0
 clear hr0 hc0
 have HB := am (Below.refl w.heap.size w)
 have H := h; unfold laws_FnQueues.f at H
 clear h
 obtain ⟨t307, A2, H⟩ := bnd H
 obtain rfl | rfl := tt t307
 ·replace H := ip H
  obtain rfl := Option.some.inj H
  go_enter Try.func3, Try.ntmps3
  go_wp2_with (first | ((with_reducible refine gc 4 rfl ?_); refine gL (some 15) Try.func4 #[.slice A0 l0.length c0] ?_; (with_reducible refine (laws_big.calls _ _ l0 true _ ?side1 ?side2 A2.out).mono ?_); (case side1 => repeat (first | exact HR0.out | (with_reducible refine Kd.C_alloc ?_ _) | (with_reducible refine Kd.C_drewN ?_ _) | (with_reducible refine Kd.C_drew ?_))); (case side2 => exact HC0.out); rintro e w' ⟨rfl, ⟨nd, rfl⟩⟩; refine ⟨_, rfl, ?_⟩))
  go_ret
  exact ⟨se, sb⟩
 ·replace H := im H
  obtain ⟨⟨t308, t311, t312, t313, t314, t315, t316⟩, A4, H⟩ := bnd H
  try dsimp only at H
  obtain ⟨⟨t319, t322⟩, A5, H⟩ := bnd H
  try dsimp only at H
  have HC6 := am H
  clear H
  go_enter Try.func3, Try.ntmps3
  go_upto_region 5 with (first | ((with_reducible refine gc 4 rfl ?_); refine gL (some 15) Try.func4 #[.slice A0 l0.length c0] ?_; (with_reducible refine (laws_big.calls _ _ l0 false _ ?side1 ?side2 A2.out).mono ?_); (case side1 => repeat (first | exact HR0.out | (with_reducible refine Kd.C_alloc ?_ _) | (with_reducible refine Kd.C_drewN ?_ _) | (with_reducible refine Kd.C_drew ?_))); (case side2 => exact HC0.out); rintro e w' ⟨rfl, ⟨nd, rfl⟩⟩; refine ⟨_, rfl, ?_⟩) | ((with_reducible refine gc 5 rfl ?_); refine gL (some 18) Try.func5 #[.slice A0 l0.length c0] ?_; (with_reducible refine (spec_DrawPushPacket.calls k _ _ l0 t308 t311 t312 t313 t314 t315 t316 _ ?side1 ?side2 A4.out).mono ?_); (case side1 => repeat (first | exact HR0.out | (with_reducible refine Kd.C_alloc ?_ _) | (with_reducible refine Kd.C_drewN ?_ _) | (with_reducible refine Kd.C_drew ?_))); (case side2 => exact HC0.out); rintro e w7 ⟨v309, rfl, ho0, hb⟩; refine ⟨_, rfl, ?_⟩; have HO310 := am (Kd.R_lower ho0 (below_size (sb))); replace HB := bs hb; (try clear hb); (try clear hk); (try clear ho0)) | ((with_reducible refine gd 3 rfl ?_); (try (refine gate_guard (by rfl) ?_; dsimp only)); refine bx 3 #[.slice none 0 0] 26 ?_; intro gb317 hg w8 hbox hb; replace HO310 := rb HO310 hb; have GW317 := bz w hg; have GE317 := bz w hg; replace HB := bs hb; have BK317 := am hbox; clear hb hbox hg) | ((with_reducible refine gd 4 rfl ?_); (try (refine gate_guard (by rfl) ?_; dsimp only)); refine bx 4 #[.int .i64 0, .int .i64 0, .int .i64 0, .int .i64 0, .int .i64 0, .int .i64 0] 28 ?_; intro gb318 hg w9 hbox hb; replace HO310 := am (Kd.R_below (Kd.R_elderB (sr HO310) gb318 (Nat.le_of_eq hg.symm)) hb); have GW318 := bzw w hg; have GE318 := bzw w hg; replace HB := bsw hb; have BK318 := am hbox; have NB317_318 := nl BK317 hg; have NB318_317 := ng BK317 hg; replace BK317 := bb BK317 hb; clear hb hbox hg; obtain ⟨Ao10, co10, eo10⟩ := Kd.R_slice HO310.out; subst eo10; have hnb11 := NB317_318.out; have hnc11 := NB318_317.out; obtain ⟨hcz12_0, hfz12_0⟩ := cc1 BK317; obtain ⟨hcz13_0, hcz13_1, hcz13_2, hcz13_3, hcz13_4, hcz13_5, hfz13_0, hfz13_1, hfz13_2, hfz13_3, hfz13_4, hfz13_5⟩ := cc6 BK318) | ((with_reducible refine gc 6 rfl ?_); refine gL (some 24) Try.func6 #[.agg #[.slice Ao10 t308.length co10], .agg #[.int .i64 t311, .int .i64 t312, .int .i64 t313, .int .i64 t314, .int .i64 t315, .int .i64 t316]] ?_; (with_reducible refine (impl_PushPacket.calls _ _ t308 t311 t312 t313 t314 t315 t316 t319 t322 _ ?side1 ?side2 A5.out).mono ?_); (case side1 => refine (Kd.R_reads' (e := 28) (base := w.heap.size) (ok := fun k_ => (True ∧ k_ ≠ gb318)) (n := t308.length) (c := co10) ?_).2.2; exact a5_0); (case side2 => exact (Kd.R_reads' HO310.out).2.1); rintro e w14 ⟨v320, rfl, ho0, hb⟩; refine ⟨_, rfl, ?_⟩; have HO321 := am (Kd.R_lower (Kd.R_newB (Kd.R_new' ho0 (Kd.R_lt a5_0)) (g := gb318) (o := .cells #[.int .i64 t311, .int .i64 t312, .int .i64 t313, .int .i64 t314, .int .i64 t315, .int .i64 t316] 28 (0, 0)) (sp BK318)) (below_size (sbw))); replace HO310 := am (Kd.R_elder' a5_0 (Kd.R_base ho0) hb); replace BK317 := am (blk_below (g := gb317) (o := .cells #[.slice Ao10 t308.length co10] 26 (0, 0)) (sp BK317) hb); replace BK318 := am (blk_below (g := gb318) (o := .cells #[.int .i64 t311, .int .i64 t312, .int .i64 t313, .int .i64 t314, .int .i64 t315, .int .i64 t316] 28 (0, 0)) (sp BK318) hb); replace HB := bsw hb; (try clear hb); (try clear hk); (try clear ho0)) | ((with_reducible refine gd 5 rfl ?_); (try (refine gate_guard (by rfl) ?_; dsimp only)); refine bx 5 #[.slice none 0 0] 26 ?_; intro gb323 hg w15 hbox hb; replace HO310 := rb HO310 hb; replace HO321 := rb HO321 hb; have GW323 := bzw w hg; have GE323 := bzw w hg; replace HB := bsw hb; have BK323 := am hbox; have NB317_323 := nl BK317 hg; have NB323_317 := ng BK317 hg; replace BK317 := bb BK317 hb; have NB318_323 := nl BK318 hg; have NB323_318 := ng BK318 hg; replace BK318 := bb BK318 hb; clear hb hbox hg; obtain ⟨Ao16, co16, eo16⟩ := Kd.R_slice HO321.out; subst eo16; have hnb17 := NB323_317.out; have hnc17 := NB317_323.out; have hnb18 := NB323_318.out; have hnc18 := NB318_323.out; obtain ⟨hcz19_0, hfz19_0⟩ := cc1 BK323))
  (try simp only [Act.put, List.setIfInBounds_toArray, List.set_cons_zero, List.set_cons_succ])
  go_cut [60] (fun v60 wc => ∃ (kq : Nat) (x60_5 : Bool), v60 = .bool x60_5 ∧ Aside0 (laws_FnQueues.j0 kq l0 x60_5 t319 = some r) ∧ Aside0 (kq ≤ k) ∧ Aside0 (Kd.R k28 28 wc w.heap.size (fun k_ => some k_ ≠ ((.slice Ao16 t319.length co16) : Value).ownBlock ∧ k_ ≠ gb318) (.slice Ao10 t308.length co10) t308) ∧ Aside0 (Kd.R k28 28 wc w.heap.size (fun k_ => some k_ ≠ ((.slice Ao10 t308.length co10) : Value).ownBlock ∧ k_ ≠ gb318) (.slice Ao16 t319.length co16) t319) ∧ Aside0 (wc.heap[gb317]? = some (.cells #[(.slice Ao10 t308.length co10)] 26 (0, 0))) ∧ Aside0 (wc.heap[gb318]? = some (.cells #[.int .i64 t311, .int .i64 t312, .int .i64 t313, .int .i64 t314, .int .i64 t315, .int .i64 t316] 28 (0, 0))) ∧ Aside0 (wc.heap[gb323]? = some (.cells #[(.slice Ao16 t319.length co16)] 26 (0, 0))) ∧ Aside0 (Below w.heap.size w wc))
  case first =>
   have H := HC6.out
   clear HC6
   obtain rfl | rfl := tt t322
   ·replace H := ip H
    obtain ⟨-, c21b0, c21b1, H⟩ | ⟨c21, c21b0, c21b1, H⟩ := ib_ H
    ·(first | rw [c21b0] | (simp only [i64_w, i32_w]; rw [c21b0]) | rw [c21b1] | skip)
     obtain ⟨t324, A22, H⟩ := bnd H
     obtain ⟨-, c23b0, c23b1, H⟩ | ⟨c23, c23b0, c23b1, H⟩ := ib_ H
     ·have H' := am H
      clear H
      try go_wp2
      have n0_ : Aside0 (Kd.R k28 28 (w15.setCell ⟨gb323, 0, none⟩ (.slice Ao16 t319.length co16)) w.heap.size (fun k_ => some k_ ≠ (.slice Ao16 t319.length co16 : Value).ownBlock ∧ k_ ≠ gb318) (.slice Ao10 t308.length co10) t308) := ⟨a5_6⟩
      have n1_ : Aside0 (Kd.R k28 28 (w15.setCell ⟨gb323, 0, none⟩ (.slice Ao16 t319.length co16)) w.heap.size (fun k_ => some k_ ≠ (.slice Ao10 t308.length co10 : Value).ownBlock ∧ k_ ≠ gb318) (.slice Ao16 t319.length co16) t319) := ⟨a5_7⟩
      have n2_ : Aside0 ((w15.setCell ⟨gb323, 0, none⟩ (.slice Ao16 t319.length co16)).heap[gb317]? = some (.cells #[.slice Ao10 t308.length co10] 26 (0, 0))) := ⟨sp BK317⟩
      have n3_ : Aside0 ((w15.setCell ⟨gb323, 0, none⟩ (.slice Ao16 t319.length co16)).heap[gb318]? = some (.cells #[.int .i64 t311, .int .i64 t312, .int .i64 t313, .int .i64 t314, .int .i64 t315, .int .i64 t316] 28 (0, 0))) := ⟨sp BK318⟩
      have n4_ : Aside0 ((w15.setCell ⟨gb323, 0, none⟩ (.slice Ao16 t319.length co16)).heap[gb323]? = some (.cells #[.slice Ao16 t319.length co16] 26 (0, 0))) := ⟨sp BK323⟩
      have n5_ : Aside0 (Below w.heap.size w (w15.setCell ⟨gb323, 0, none⟩ (.slice Ao16 t319.length co16))) := ⟨sbw⟩
      (try clear HO310)
      (try clear HO321)
      (try clear BK317)
      (try clear BK318)
      (try clear BK323)
      (try clear HB)
      generalize (w15.setCell ⟨gb323, 0, none⟩ (.slice Ao16 t319.length co16)) = w24 at n0_ n1_ n2_ n3_ n4_ n5_ ⊢
      have HO310 := n0_
      have HO321 := n1_
      have BK317 := n2_
      have BK318 := n3_
      have BK323 := n4_
      have HB := n5_
      clear n0_ n1_ n2_ n3_ n4_ n5_
      replace HO310 := am (Kd.R_drew HO310.out)
      replace HO321 := am (Kd.R_drew HO321.out)
      replace BK317 := am (blk_drew BK317.out)
      replace BK318 := am (blk_drew BK318.out)
      replace BK323 := am (blk_drew BK323.out)
      replace HB := am (below_drew1 HB.out)
      as_aux_lemma =>
       refine start_ (n := 34) (S := fun w' => w'.cell? ⟨gb323, 0, none⟩ = some (.slice Ao16 t319.length co16) ∧ w'.cell? ⟨gb317, 0, none⟩ = some (.slice Ao10 t308.length co10) ∧ w'.cell? ⟨gb318, 0, none⟩ = some (.int .i64 t311) ∧ w'.cell? ⟨gb318, 1, none⟩ = some (.int .i64 t312) ∧ w'.cell? ⟨gb318, 2, none⟩ = some (.int .i64 t313) ∧ w'.cell? ⟨gb318, 3, none⟩ = some (.int .i64 t314) ∧ w'.cell? ⟨gb318, 4, none⟩ = some (.int .i64 t315) ∧ w'.cell? ⟨gb318, 5, none⟩ = some (.int .i64 t316)) (ds := []) #[false, false, false, false, false, false, false, false, false, false, false, false, false, false, false, false, false, false, false, false, false, false, false, false, false, false, false, false, false, false, false, false, false, false] (by kernel_rfl) rfl rfl ⟨bc0 BK323, bc0 BK317, bc0 BK318, bc1 BK318, bc2 BK318, bc3 BK318, bc4 BK318, bc5 BK318⟩ (fun hHeld => ?_); refine with_tabW laws_FnQueues.tab5 laws_FnQueues.bits5 (fun HT_ HW_ => ?_)
       generalize w24.drew = w25 at HO310 HO321 BK317 BK318 BK323 HB hHeld ⊢
       refine put 0 27 (bt 34 1) HT_ ?_
       refine put 1 28 (bt 34 3) HT_ ?_
       refine put 2 29 (bt 34 7) HT_ ?_
       refine put 5 32 (bt 34 39) HT_ ?_
       refine tat8 3 30 (bt 34 47) HT_ HW_ hHeld ?_
       refine put 4 31 (bt 34 63) HT_ ?_
       refine tat8 6 33 (bt 34 127) HT_ HW_ hHeld ?_
       refine put 7 34 (bt 34 255) HT_ ?_
       refine put 8 35 (bt 34 511) HT_ ?_
       refine put 9 36 (bt 34 1023) HT_ ?_
       refine put 10 37 (bt 34 2047) HT_ ?_
       refine put 12 39 (bt 34 6143) HT_ ?_
       refine put 15 42 (bt 34 38911) HT_ ?_
       refine tat8 11 38 (bt 34 40959) HT_ HW_ hHeld ?_
       refine tat8 13 40 (bt 34 49151) HT_ HW_ hHeld ?_
       refine tat8 16 43 (bt 34 114687) HT_ HW_ hHeld ?_
       refine put 17 44 (bt 34 245759) HT_ ?_
       refine on 14 41 (bt 34 262143) HT_ (fun K hK => ?_)
       refine goes_ Try.func7 (by kernel_rfl) rfl #[.agg #[.slice Ao16 t319.length co16], .int .i64 t311] (by rfl) rfl rfl sl ?_
       with_reducible refine (impl_FindPacket.calls _ _ t319 t311 t324 _ ?side1 ?side2 A22.out).mono ?_
       (case side1 => exact cr HO321)
       (case side2 => exact (Kd.R_reads' HO321.out).2.1)
       rintro e w26 ⟨rfl, hb⟩
       refine ⟨_, rfl, ?_⟩
       replace HO310 := rb HO310 hb
       replace HO321 := rb HO321 hb
       replace BK317 := bb BK317 hb
       replace BK318 := bb BK318 hb
       replace BK323 := bb BK323 hb
       replace HB := bsw hb
       (try clear hb)
       (try clear hb2)
       (try clear hk)
       (try clear hi)
       refine hK.out _ _ ⟨bc0 BK323, bc0 BK317, bc0 BK318, bc1 BK318, bc2 BK318, bc3 BK318, bc4 BK318, bc5 BK318⟩ (fun hHeld => ?_)
       clear hK K
       refine nm 41 ?_
       refine put 18 45 (bt 34 524287) HT_ ?_
       refine put 19 46 (bt 34 1048575) HT_ ?_
       refine put 20 47 (bt 34 2097151) HT_ ?_
       refine put 21 48 (bt 34 4194303) HT_ ?_
       refine put 22 49 (bt 34 8388607) HT_ ?_
       refine put 23 50 (bt 34 16777215) HT_ ?_
       refine put 24 51 (bt 34 33554431) HT_ ?_
       refine pn 25 52 (bt 34 67108863) HT_ ?_
       refine pn 26 53 (bt 34 134217727) HT_ ?_
       refine pn 27 54 (bt 34 268435455) HT_ ?_
       refine pn 28 55 (bt 34 536870911) HT_ ?_
       refine pn 29 56 (bt 34 1073741823) HT_ ?_
       refine pn 30 57 (bt 34 2147483647) HT_ ?_
       refine pn 31 58 (bt 34 4294967295) HT_ ?_
       refine put 32 59 (bt 34 8589934591) HT_ ?_
       refine put 33 60 (bt 34 17179869183) HT_ ?_
       refine done_ (done_of HT_.out (by kernel_rfl)) ?_
       try go_wp2
       go_meet
       case rel => exact ⟨_, (false), sc, H', ⟨by first | omega | exact Nat.le_refl _⟩, ⟨sr HO310⟩, ⟨sr HO321⟩, ⟨sk BK317⟩, ⟨sk BK318⟩, ⟨sk BK323⟩, ⟨sbw⟩⟩
     ·have H' := am H
      clear H
      try go_wp2
      have n0_ : Aside0 (Kd.R k28 28 (w15.setCell ⟨gb323, 0, none⟩ (.slice Ao16 t319.length co16)) w.heap.size (fun k_ => some k_ ≠ (.slice Ao16 t319.length co16 : Value).ownBlock ∧ k_ ≠ gb318) (.slice Ao10 t308.length co10) t308) := ⟨a5_6⟩
      have n1_ : Aside0 (Kd.R k28 28 (w15.setCell ⟨gb323, 0, none⟩ (.slice Ao16 t319.length co16)) w.heap.size (fun k_ => some k_ ≠ (.slice Ao10 t308.length co10 : Value).ownBlock ∧ k_ ≠ gb318) (.slice Ao16 t319.length co16) t319) := ⟨a5_7⟩
      have n2_ : Aside0 ((w15.setCell ⟨gb323, 0, none⟩ (.slice Ao16 t319.length co16)).heap[gb317]? = some (.cells #[.slice Ao10 t308.length co10] 26 (0, 0))) := ⟨sp BK317⟩
      have n3_ : Aside0 ((w15.setCell ⟨gb323, 0, none⟩ (.slice Ao16 t319.length co16)).heap[gb318]? = some (.cells #[.int .i64 t311, .int .i64 t312, .int .i64 t313, .int .i64 t314, .int .i64 t315, .int .i64 t316] 28 (0, 0))) := ⟨sp BK318⟩
      have n4_ : Aside0 ((w15.setCell ⟨gb323, 0, none⟩ (.slice Ao16 t319.length co16)).heap[gb323]? = some (.cells #[.slice Ao16 t319.length co16] 26 (0, 0))) := ⟨sp BK323⟩
      have n5_ : Aside0 (Below w.heap.size w (w15.setCell ⟨gb323, 0, none⟩ (.slice Ao16 t319.length co16))) := ⟨sbw⟩
      (try clear HO310)
      (try clear HO321)
      (try clear BK317)
      (try clear BK318)
      (try clear BK323)
      (try clear HB)
      generalize (w15.setCell ⟨gb323, 0, none⟩ (.slice Ao16 t319.length co16)) = w27 at n0_ n1_ n2_ n3_ n4_ n5_ ⊢
      have HO310 := n0_
      have HO321 := n1_
      have BK317 := n2_
      have BK318 := n3_
      have BK323 := n4_
      have HB := n5_
      clear n0_ n1_ n2_ n3_ n4_ n5_
      replace HO310 := am (Kd.R_drew HO310.out)
      replace HO321 := am (Kd.R_drew HO321.out)
      replace BK317 := am (blk_drew BK317.out)
      replace BK318 := am (blk_drew BK318.out)
      replace BK323 := am (blk_drew BK323.out)
      replace HB := am (below_drew1 HB.out)
      as_aux_lemma =>
       refine start_ (n := 34) (S := fun w' => w'.cell? ⟨gb323, 0, none⟩ = some (.slice Ao16 t319.length co16) ∧ w'.cell? ⟨gb317, 0, none⟩ = some (.slice Ao10 t308.length co10) ∧ w'.cell? ⟨gb318, 0, none⟩ = some (.int .i64 t311) ∧ w'.cell? ⟨gb318, 1, none⟩ = some (.int .i64 t312) ∧ w'.cell? ⟨gb318, 2, none⟩ = some (.int .i64 t313) ∧ w'.cell? ⟨gb318, 3, none⟩ = some (.int .i64 t314) ∧ w'.cell? ⟨gb318, 4, none⟩ = some (.int .i64 t315) ∧ w'.cell? ⟨gb318, 5, none⟩ = some (.int .i64 t316)) (ds := []) #[false, false, false, false, false, false, false, false, false, false, false, false, false, false, false, false, false, false, false, false, false, false, false, false, false, false, false, false, false, false, false, false, false, false] (by kernel_rfl) rfl rfl ⟨bc0 BK323, bc0 BK317, bc0 BK318, bc1 BK318, bc2 BK318, bc3 BK318, bc4 BK318, bc5 BK318⟩ (fun hHeld => ?_); refine with_tabW laws_FnQueues.tab5 laws_FnQueues.bits5 (fun HT_ HW_ => ?_)
       generalize w27.drew = w28 at HO310 HO321 BK317 BK318 BK323 HB hHeld ⊢
       refine put 0 27 (bt 34 1) HT_ ?_
       refine put 1 28 (bt 34 3) HT_ ?_
       refine put 2 29 (bt 34 7) HT_ ?_
       refine put 5 32 (bt 34 39) HT_ ?_
       refine tat8 3 30 (bt 34 47) HT_ HW_ hHeld ?_
       refine put 4 31 (bt 34 63) HT_ ?_
       refine tat8 6 33 (bt 34 127) HT_ HW_ hHeld ?_
       refine put 7 34 (bt 34 255) HT_ ?_
       refine put 8 35 (bt 34 511) HT_ ?_
       refine put 9 36 (bt 34 1023) HT_ ?_
       refine put 10 37 (bt 34 2047) HT_ ?_
       refine put 12 39 (bt 34 6143) HT_ ?_
       refine put 15 42 (bt 34 38911) HT_ ?_
       refine tat8 11 38 (bt 34 40959) HT_ HW_ hHeld ?_
       refine tat8 13 40 (bt 34 49151) HT_ HW_ hHeld ?_
       refine tat8 16 43 (bt 34 114687) HT_ HW_ hHeld ?_
       refine put 17 44 (bt 34 245759) HT_ ?_
       refine on 14 41 (bt 34 262143) HT_ (fun K hK => ?_)
       refine goes_ Try.func7 (by kernel_rfl) rfl #[.agg #[.slice Ao16 t319.length co16], .int .i64 t311] (by rfl) rfl rfl sl ?_
       with_reducible refine (impl_FindPacket.calls _ _ t319 t311 t324 _ ?side1 ?side2 A22.out).mono ?_
       (case side1 => exact cr HO321)
       (case side2 => exact (Kd.R_reads' HO321.out).2.1)
       rintro e w29 ⟨rfl, hb⟩
       refine ⟨_, rfl, ?_⟩
       replace HO310 := rb HO310 hb
       replace HO321 := rb HO321 hb
       replace BK317 := bb BK317 hb
       replace BK318 := bb BK318 hb
       replace BK323 := bb BK323 hb
       replace HB := bsw hb
       (try clear hb)
       (try clear hb2)
       (try clear hk)
       (try clear hi)
       refine hK.out _ _ ⟨bc0 BK323, bc0 BK317, bc0 BK318, bc1 BK318, bc2 BK318, bc3 BK318, bc4 BK318, bc5 BK318⟩ (fun hHeld => ?_)
       clear hK K
       refine nm 41 ?_
       refine put 18 45 (bt 34 524287) HT_ ?_
       refine put 19 46 (bt 34 1048575) HT_ ?_
       refine put 20 47 (bt 34 2097151) HT_ ?_
       refine put 21 48 (bt 34 4194303) HT_ ?_
       refine pn 22 49 (bt 34 8388607) HT_ ?_
       refine pn 23 50 (bt 34 16777215) HT_ ?_
       refine pn 24 51 (bt 34 33554431) HT_ ?_
       refine pn 25 52 (bt 34 67108863) HT_ ?_
       refine pn 26 53 (bt 34 134217727) HT_ ?_
       refine pn 27 54 (bt 34 268435455) HT_ ?_
       refine pn 28 55 (bt 34 536870911) HT_ ?_
       refine pn 29 56 (bt 34 1073741823) HT_ ?_
       refine pn 30 57 (bt 34 2147483647) HT_ ?_
       refine pn 31 58 (bt 34 4294967295) HT_ ?_
       refine pn 32 59 (bt 34 8589934591) HT_ ?_
       refine put 33 60 (bt 34 17179869183) HT_ ?_
       refine done_ (done_of HT_.out (by kernel_rfl)) ?_
       try go_wp2
       go_meet
       case rel => exact ⟨_, (true), sc, H', ⟨by first | omega | exact Nat.le_refl _⟩, ⟨sr HO310⟩, ⟨sr HO321⟩, ⟨sk BK317⟩, ⟨sk BK318⟩, ⟨sk BK323⟩, ⟨sbw⟩⟩
    ·(first | rw [c21b0] | (simp only [i64_w, i32_w]; rw [c21b0]) | rw [c21b1] | skip)
     have H' := am H
     clear H
     try go_wp2
     have n0_ : Aside0 (Kd.R k28 28 (w15.setCell ⟨gb323, 0, none⟩ (.slice Ao16 t319.length co16)) w.heap.size (fun k_ => some k_ ≠ (.slice Ao16 t319.length co16 : Value).ownBlock ∧ k_ ≠ gb318) (.slice Ao10 t308.length co10) t308) := ⟨a5_6⟩
     have n1_ : Aside0 (Kd.R k28 28 (w15.setCell ⟨gb323, 0, none⟩ (.slice Ao16 t319.length co16)) w.heap.size (fun k_ => some k_ ≠ (.slice Ao10 t308.length co10 : Value).ownBlock ∧ k_ ≠ gb318) (.slice Ao16 t319.length co16) t319) := ⟨a5_7⟩
     have n2_ : Aside0 ((w15.setCell ⟨gb323, 0, none⟩ (.slice Ao16 t319.length co16)).heap[gb317]? = some (.cells #[.slice Ao10 t308.length co10] 26 (0, 0))) := ⟨sp BK317⟩
     have n3_ : Aside0 ((w15.setCell ⟨gb323, 0, none⟩ (.slice Ao16 t319.length co16)).heap[gb318]? = some (.cells #[.int .i64 t311, .int .i64 t312, .int .i64 t313, .int .i64 t314, .int .i64 t315, .int .i64 t316] 28 (0, 0))) := ⟨sp BK318⟩
     have n4_ : Aside0 ((w15.setCell ⟨gb323, 0, none⟩ (.slice Ao16 t319.length co16)).heap[gb323]? = some (.cells #[.slice Ao16 t319.length co16] 26 (0, 0))) := ⟨sp BK323⟩
     have n5_ : Aside0 (Below w.heap.size w (w15.setCell ⟨gb323, 0, none⟩ (.slice Ao16 t319.length co16))) := ⟨sbw⟩
     (try clear HO310)
     (try clear HO321)
     (try clear BK317)
     (try clear BK318)
     (try clear BK323)
     (try clear HB)
     generalize (w15.setCell ⟨gb323, 0, none⟩ (.slice Ao16 t319.length co16)) = w30 at n0_ n1_ n2_ n3_ n4_ n5_ ⊢
     have HO310 := n0_
     have HO321 := n1_
     have BK317 := n2_
     have BK318 := n3_
     have BK323 := n4_
     have HB := n5_
     clear n0_ n1_ n2_ n3_ n4_ n5_
     replace HO310 := am (Kd.R_drew HO310.out)
     replace HO321 := am (Kd.R_drew HO321.out)
     replace BK317 := am (blk_drew BK317.out)
     replace BK318 := am (blk_drew BK318.out)
     replace BK323 := am (blk_drew BK323.out)
     replace HB := am (below_drew1 HB.out)
     as_aux_lemma =>
      refine start_ (n := 34) (S := fun w' => w'.cell? ⟨gb323, 0, none⟩ = some (.slice Ao16 t319.length co16) ∧ w'.cell? ⟨gb317, 0, none⟩ = some (.slice Ao10 t308.length co10)) (ds := []) #[false, false, false, false, false, false, false, false, false, false, false, false, false, false, false, false, false, false, false, false, false, false, false, false, false, false, false, false, false, false, false, false, false, false] (by kernel_rfl) rfl rfl ⟨bc0 BK323, bc0 BK317⟩ (fun hHeld => ?_); refine with_tabW laws_FnQueues.tab5 laws_FnQueues.bits5 (fun HT_ HW_ => ?_)
      generalize w30.drew = w31 at HO310 HO321 BK317 BK318 BK323 HB hHeld ⊢
      refine put 0 27 (bt 34 1) HT_ ?_
      refine put 1 28 (bt 34 3) HT_ ?_
      refine put 2 29 (bt 34 7) HT_ ?_
      refine put 5 32 (bt 34 39) HT_ ?_
      refine tat2 3 30 (bt 34 47) HT_ HW_ hHeld ?_
      refine put 4 31 (bt 34 63) HT_ ?_
      refine tat2 6 33 (bt 34 127) HT_ HW_ hHeld ?_
      refine put 7 34 (bt 34 255) HT_ ?_
      refine put 8 35 (bt 34 511) HT_ ?_
      refine put 9 36 (bt 34 1023) HT_ ?_
      refine put 10 37 (bt 34 2047) HT_ ?_
      refine pn 11 38 (bt 34 4095) HT_ ?_
      refine pn 12 39 (bt 34 8191) HT_ ?_
      refine pn 13 40 (bt 34 16383) HT_ ?_
      refine pn 14 41 (bt 34 32767) HT_ ?_
      refine pn 15 42 (bt 34 65535) HT_ ?_
      refine pn 16 43 (bt 34 131071) HT_ ?_
      refine pn 17 44 (bt 34 262143) HT_ ?_
      refine pn 18 45 (bt 34 524287) HT_ ?_
      refine put 19 46 (bt 34 1048575) HT_ ?_
      refine put 20 47 (bt 34 2097151) HT_ ?_
      refine put 21 48 (bt 34 4194303) HT_ ?_
      refine pn 22 49 (bt 34 8388607) HT_ ?_
      refine pn 23 50 (bt 34 16777215) HT_ ?_
      refine pn 24 51 (bt 34 33554431) HT_ ?_
      refine pn 25 52 (bt 34 67108863) HT_ ?_
      refine pn 26 53 (bt 34 134217727) HT_ ?_
      refine pn 27 54 (bt 34 268435455) HT_ ?_
      refine pn 28 55 (bt 34 536870911) HT_ ?_
      refine pn 29 56 (bt 34 1073741823) HT_ ?_
      refine pn 30 57 (bt 34 2147483647) HT_ ?_
      refine pn 31 58 (bt 34 4294967295) HT_ ?_
      refine pn 32 59 (bt 34 8589934591) HT_ ?_
      refine put 33 60 (bt 34 17179869183) HT_ ?_
      refine done_ (done_of HT_.out (by kernel_rfl)) ?_
      try go_wp2
      go_meet
      case rel => exact ⟨_, (true), sc, H', ⟨by first | omega | exact Nat.le_refl _⟩, ⟨sr HO310⟩, ⟨sr HO321⟩, ⟨sk BK317⟩, ⟨sk BK318⟩, ⟨sk BK323⟩, ⟨sbw⟩⟩
   ·replace H := im H
    have H' := am H
    clear H
    try go_wp2
    have n0_ : Aside0 (Kd.R k28 28 (w15.setCell ⟨gb323, 0, none⟩ (.slice Ao16 t319.length co16)) w.heap.size (fun k_ => some k_ ≠ (.slice Ao16 t319.length co16 : Value).ownBlock ∧ k_ ≠ gb318) (.slice Ao10 t308.length co10) t308) := ⟨a5_6⟩
    have n1_ : Aside0 (Kd.R k28 28 (w15.setCell ⟨gb323, 0, none⟩ (.slice Ao16 t319.length co16)) w.heap.size (fun k_ => some k_ ≠ (.slice Ao10 t308.length co10 : Value).ownBlock ∧ k_ ≠ gb318) (.slice Ao16 t319.length co16) t319) := ⟨a5_7⟩
    have n2_ : Aside0 ((w15.setCell ⟨gb323, 0, none⟩ (.slice Ao16 t319.length co16)).heap[gb317]? = some (.cells #[.slice Ao10 t308.length co10] 26 (0, 0))) := ⟨sp BK317⟩
    have n3_ : Aside0 ((w15.setCell ⟨gb323, 0, none⟩ (.slice Ao16 t319.length co16)).heap[gb318]? = some (.cells #[.int .i64 t311, .int .i64 t312, .int .i64 t313, .int .i64 t314, .int .i64 t315, .int .i64 t316] 28 (0, 0))) := ⟨sp BK318⟩
    have n4_ : Aside0 ((w15.setCell ⟨gb323, 0, none⟩ (.slice Ao16 t319.length co16)).heap[gb323]? = some (.cells #[.slice Ao16 t319.length co16] 26 (0, 0))) := ⟨sp BK323⟩
    have n5_ : Aside0 (Below w.heap.size w (w15.setCell ⟨gb323, 0, none⟩ (.slice Ao16 t319.length co16))) := ⟨sbw⟩
    (try clear HO310)
    (try clear HO321)
    (try clear BK317)
    (try clear BK318)
    (try clear BK323)
    (try clear HB)
    generalize (w15.setCell ⟨gb323, 0, none⟩ (.slice Ao16 t319.length co16)) = w32 at n0_ n1_ n2_ n3_ n4_ n5_ ⊢
    have HO310 := n0_
    have HO321 := n1_
    have BK317 := n2_
    have BK318 := n3_
    have BK323 := n4_
    have HB := n5_
    clear n0_ n1_ n2_ n3_ n4_ n5_
    replace HO310 := am (Kd.R_drew HO310.out)
    replace HO321 := am (Kd.R_drew HO321.out)
    replace BK317 := am (blk_drew BK317.out)
    replace BK318 := am (blk_drew BK318.out)
    replace BK323 := am (blk_drew BK323.out)
    replace HB := am (below_drew1 HB.out)
    as_aux_lemma =>
     refine start_ (n := 34) (S := fun w' => w'.cell? ⟨gb323, 0, none⟩ = some (.slice Ao16 t319.length co16) ∧ w'.cell? ⟨gb317, 0, none⟩ = some (.slice Ao10 t308.length co10)) (ds := []) #[false, false, false, false, false, false, false, false, false, false, false, false, false, false, false, false, false, false, false, false, false, false, false, false, false, false, false, false, false, false, false, false, false, false] (by kernel_rfl) rfl rfl ⟨bc0 BK323, bc0 BK317⟩ (fun hHeld => ?_); refine with_tabW laws_FnQueues.tab5 laws_FnQueues.bits5 (fun HT_ HW_ => ?_)
     generalize w32.drew = w33 at HO310 HO321 BK317 BK318 BK323 HB hHeld ⊢
     refine put 0 27 (bt 34 1) HT_ ?_
     refine put 1 28 (bt 34 3) HT_ ?_
     refine pn 2 29 (bt 34 7) HT_ ?_
     refine pn 3 30 (bt 34 15) HT_ ?_
     refine pn 4 31 (bt 34 31) HT_ ?_
     refine pn 5 32 (bt 34 63) HT_ ?_
     refine pn 6 33 (bt 34 127) HT_ ?_
     refine pn 7 34 (bt 34 255) HT_ ?_
     refine pn 8 35 (bt 34 511) HT_ ?_
     refine pn 9 36 (bt 34 1023) HT_ ?_
     refine pn 10 37 (bt 34 2047) HT_ ?_
     refine pn 11 38 (bt 34 4095) HT_ ?_
     refine pn 12 39 (bt 34 8191) HT_ ?_
     refine pn 13 40 (bt 34 16383) HT_ ?_
     refine pn 14 41 (bt 34 32767) HT_ ?_
     refine pn 15 42 (bt 34 65535) HT_ ?_
     refine pn 16 43 (bt 34 131071) HT_ ?_
     refine pn 17 44 (bt 34 262143) HT_ ?_
     refine pn 18 45 (bt 34 524287) HT_ ?_
     refine pn 19 46 (bt 34 1048575) HT_ ?_
     refine put 20 47 (bt 34 2097151) HT_ ?_
     refine put 21 48 (bt 34 4194303) HT_ ?_
     refine put 22 49 (bt 34 8388607) HT_ ?_
     refine put 23 50 (bt 34 16777215) HT_ ?_
     refine put 24 51 (bt 34 33554431) HT_ ?_
     refine put 25 52 (bt 34 67108863) HT_ ?_
     refine put 28 55 (bt 34 335544319) HT_ ?_
     refine tat2 26 53 (bt 34 402653183) HT_ HW_ hHeld ?_
     refine put 27 54 (bt 34 536870911) HT_ ?_
     refine tat2 29 56 (bt 34 1073741823) HT_ HW_ hHeld ?_
     refine put 30 57 (bt 34 2147483647) HT_ ?_
     refine put 31 58 (bt 34 4294967295) HT_ ?_
     refine put 32 59 (bt 34 8589934591) HT_ ?_
     refine put 33 60 (bt 34 17179869183) HT_ ?_
     refine done_ (done_of HT_.out (by kernel_rfl)) ?_
     try go_wp2
     go_meet
     case rel => exact ⟨_, (((t319.length : Int) != (t308.length : Int))), sc, H', ⟨by first | omega | exact Nat.le_refl _⟩, ⟨sr HO310⟩, ⟨sr HO321⟩, ⟨sk BK317⟩, ⟨sk BK318⟩, ⟨sk BK323⟩, ⟨sbw⟩⟩
  case rest =>
   clear HC6
   obtain ⟨kq, x60_5, rfl, HA, HJ5, HO_318000, HO_324000, BK317, BK318, BK323, HB⟩ := hcut
   cases kq with
   | zero => exact absurd HA.out (by simp [laws_FnQueues.j0])
   | succ kj5 =>
    have H := HA.out
    clear HA
    simp only [laws_FnQueues.j0] at H
    obtain rfl | rfl := tt x60_5
    ·replace H := ip H
     obtain rfl := Option.some.inj H
     go_wp2
     go_ret
     exact ⟨se, sbw⟩
    ·replace H := im H
     obtain ⟨t325, A35, H⟩ := bnd H
     have H' := am H
     clear H
     have hnb36 := NB323_317.out
     have hnc36 := NB317_323.out
     have hnb37 := NB323_318.out
     have hnc37 := NB318_323.out
     obtain ⟨hcz38_0, hfz38_0⟩ := cc1 BK323
     go_wp2_with (first | ((with_reducible refine gc 8 rfl ?_); refine gL (some 62) Try.func8 #[.agg #[.slice Ao16 t319.length co16]] ?_; (with_reducible refine (impl_OrderOf.calls kj5 _ _ t319 t325 _ ?side1 ?side2 A35.out).mono ?_); (case side1 => exact cr HO_324000); (case side2 => exact (Kd.R_reads' HO_324000.out).2.1); rintro e w39 ⟨v326, rfl, ho0, hb⟩; refine ⟨_, rfl, ?_⟩; replace HO_318000 := rb HO_318000 hb; replace HO_324000 := rb HO_324000 hb; have HO327 := am (Kd.R_lower ho0 (below_size (sbw))); replace BK317 := bb BK317 hb; replace BK318 := bb BK318 hb; replace BK323 := bb BK323 hb; replace HB := bsw hb; (try clear hb); (try clear ho0)))
     go_loopg [8] kj5 (fun kq v8 w' => ∃ (x8_2 : Int), v8 = .int .i64 x8_2 ∧ Aside0 (laws_FnQueues.l0 kq l0 t325 x8_2 t319 = some r) ∧ Aside0 (kq ≤ kj5) ∧ Aside0 (Kd.R (Kd.int .i64) 3 w' w.heap.size (fun _ => True) v326 t325) ∧ Aside0 (Kd.R k28 28 w' w.heap.size (fun k_ => some k_ ≠ ((.slice Ao16 t319.length co16) : Value).ownBlock ∧ k_ ≠ gb318) (.slice Ao10 t308.length co10) t308) ∧ Aside0 (Kd.R k28 28 w' w.heap.size (fun k_ => some k_ ≠ ((.slice Ao10 t308.length co10) : Value).ownBlock ∧ k_ ≠ gb318) (.slice Ao16 t319.length co16) t319) ∧ Aside0 (w'.heap[gb317]? = some (.cells #[(.slice Ao10 t308.length co10)] 26 (0, 0))) ∧ Aside0 (w'.heap[gb318]? = some (.cells #[.int .i64 t311, .int .i64 t312, .int .i64 t313, .int .i64 t314, .int .i64 t315, .int .i64 t316] 28 (0, 0))) ∧ Aside0 (w'.heap[gb323]? = some (.cells #[(.slice Ao16 t319.length co16)] 26 (0, 0))) ∧ Aside0 (Below w.heap.size w w'))
     case atStart => exact ⟨(0), sc, H', kk0, ⟨sr HO327⟩, ⟨sr HO_318000⟩, ⟨sr HO_324000⟩, ⟨sk BK317⟩, ⟨sk BK318⟩, ⟨sk BK323⟩, ⟨sbw⟩⟩
     case round =>
      clear H'
      try clear hcz38_0
      try clear hfz38_0
      obtain ⟨x8_2, rfl, HA, HK2, HO_7, HO_318000, HO_324000, BK317, BK318, BK323, HB⟩ := hrel
      cases gk with
      | zero => exact absurd HA.out (by simp [laws_FnQueues.l0])
      | succ k2 =>
       have H := HA.out
       clear HA
       simp only [laws_FnQueues.l0] at H
       obtain ⟨-, c40b0, H⟩ | ⟨-, c40b0, H⟩ := ic_ H
       ·obtain ⟨c41, H⟩ := ia_ H
        have c41b0 := eq_true c41
        have c41b1 := decide_eq_true c41
        clear c41
        obtain ⟨c42, H⟩ := ia_ H
        have c42b0 := eq_true c42
        have c42b1 := decide_eq_true c42
        clear c42
        obtain ⟨y328, hy328⟩ : ∃ y_ : List Int, y_ = (t325.take (x8_2 : Int).toNat) := ⟨_, rfl⟩
        replace H : ((laws_contains.f k2 y328 (rd t325 x8_2)).bind fun t333 => (if t333 = true then (some false) else (if x8_2 > 0 then (if 0 ≤ (wrap64 (x8_2 - 1)) then (if (wrap64 (x8_2 - 1)) < (t325.length : Int) then (if 0 ≤ (rd t325 (wrap64 (x8_2 - 1))) then (if (rd t325 (wrap64 (x8_2 - 1))) < (t319.length : Int) then (if 0 ≤ (rd t325 x8_2) then (if (rd t325 x8_2) < (t319.length : Int) then (if ((rd_T28 t319 (rd t325 (wrap64 (x8_2 - 1)))).f5) = ((rd_T28 t319 (rd t325 x8_2)).f5) then (if (rd t325 (wrap64 (x8_2 - 1))) ≥ (rd t325 x8_2) then (some false) else (if ((rd_T28 t319 (rd t325 (wrap64 (x8_2 - 1)))).f5) = 1 then (laws_FnQueues.l0 k2 l0 t325 (wrap64 (x8_2 + 1)) t319) else (if ((rd_T28 t319 (rd t325 x8_2)).f5) = 1 then (some false) else (laws_FnQueues.l0 k2 l0 t325 (wrap64 (x8_2 + 1)) t319)))) else (if ((rd_T28 t319 (rd t325 (wrap64 (x8_2 - 1)))).f5) = 1 then (laws_FnQueues.l0 k2 l0 t325 (wrap64 (x8_2 + 1)) t319) else (if ((rd_T28 t319 (rd t325 x8_2)).f5) = 1 then (some false) else (laws_FnQueues.l0 k2 l0 t325 (wrap64 (x8_2 + 1)) t319)))) else (none)) else (none)) else (none)) else (none)) else (none)) else (none)) else (laws_FnQueues.l0 k2 l0 t325 (wrap64 (x8_2 + 1)) t319)))) = some r := ry hy328 H
        have Ny328 := am hy328
        clear hy328
        obtain ⟨t333, A43, H⟩ := bnd H
        obtain rfl | rfl := tt t333
        ·replace H := ip H
         obtain rfl := Option.some.inj H
         obtain ⟨Ao45, co45, eo45⟩ := Kd.R_slice HO_7.out
         subst eo45
         try go_wp2
         replace HO_7 := am (Kd.R_drew HO_7.out)
         replace HO_318000 := am (Kd.R_drew HO_318000.out)
         replace HO_324000 := am (Kd.R_drew HO_324000.out)
         replace BK317 := am (blk_drew BK317.out)
         replace BK318 := am (blk_drew BK318.out)
         replace BK323 := am (blk_drew BK323.out)
         replace HB := am (below_drew1 HB.out)
         have q47 : (x8_2 : Int) ≤ ((t325.length : Int) : Int) := sa
         obtain ⟨i047, hi047, _, hsz47, _⟩ := info_parts info3
         have hroom47 : t325.length ≤ co45 := (Kd.R_reads' HO_7.out).2.1
         have hC47 : Kd.C (Kd.int .i64) _ Ao45 t325.length t325 := (Kd.R_reads' HO_7.out).2.2
         have hcut47 := cut_to (P := Try.prog) 34 3 .i64 Try.underlying34 hi047 Ao45 t325.length co45 x8_2 (sa) q47 hroom47
         have hr47 := Kd.C_take (m := (x8_2 : Int).toNat) hC47 (by omega)
         have hy47 : y328.length = (x8_2 : Int).toNat := a5_15
         rw [← Ny328.out] at hr47
         rw [← hy47] at hcut47
         have HR331 := am hr47
         have HC331 := am (show y328.length ≤ co45 from by omega)
         clear hr47 hC47 hroom47 hi047 hsz47
         have KY47 := am hy47
         clear hy47
         have KL47 := am (show (x8_2 : Int).toNat ≤ t325.length from by omega)
         replace q47 := eq_true q47
         have p332 : 0 ≤ (x8_2 : Int) := sa
         have q332 : x8_2 < (t325.length : Int) := sa
         obtain ⟨ad332, e332, hx332_0⟩ := Kd.at_int (Kd.R_reads' HO_7.out).2.2 x8_2 p332 q332
         cases e332
         replace p332 := eq_true p332
         replace q332 := eq_true q332
         as_aux_lemma =>
          refine start_ (n := 75) (S := fun w' => w'.cell? (ad332.add (x8_2).toNat) = some (.int .i64 (rd t325 x8_2))) (ds := []) #[false, false, false, false, false, false, false, false, false, false, false, false, false, false, false, false, false, false, false, false, false, false, false, false, false, false, false, false, false, false, false, false, false, false, false, false, false, false, false, false, false, false, false, false, false, false, false, false, false, false, false, false, false, false, false, false, false, false, false, false, false, false, false, false, false, false, false, false, false, false, false, false, false, false, false] (by kernel_rfl) rfl rfl (hx332_0) (fun hHeld => ?_); refine with_tabW laws_FnQueues.tab11 laws_FnQueues.bits11 (fun HT_ HW_ => ?_)
          generalize wr.drew = w46 at HO_7 HO_318000 HO_324000 BK317 BK318 BK323 HB HR331 hx332_0 hHeld ⊢
          refine put 0 69 (bt 75 1) HT_ ?_
          refine put 1 70 (bt 75 3) HT_ ?_
          refine put 2 71 (bt 75 7) HT_ ?_
          refine put 3 72 (bt 75 15) HT_ ?_
          refine put 4 73 (bt 75 31) HT_ ?_
          refine put 5 74 (bt 75 63) HT_ ?_
          refine take_ (i := 6) (N := some 75) (v := ?_) (a' := ?_) (bt 75 127) rfl rfl (take_ofW HT_.out HW_.out (by kernel_rfl)) (fun _ _ _ h => h) (Or.inl ⟨by rfl, ?_⟩) hHeld ?_ ?_
          rotate_left
          ·intro w' s0
           go_simp
           with_reducible rfl
          rotate_left
          ·exact ap
          refine on 7 76 (bt 75 255) HT_ (fun K hK => ?_)
          refine goes_ Try.func9 (by kernel_rfl) rfl #[.slice (some ad332) y328.length co45, .int .i64 (rd t325 x8_2)] (by rfl) rfl rfl sl ?_
          with_reducible refine (laws_contains.calls k2 _ _ y328 (rd t325 x8_2) true _ ?side1 ?side2 A43.out).mono ?_
          (case side1 => repeat (first | exact (cq HR331) | (with_reducible refine Kd.C_alloc ?_ _) | (with_reducible refine Kd.C_drewN ?_ _) | (with_reducible refine Kd.C_drew ?_)))
          (case side2 => exact HC331.out)
          rintro e w' ⟨rfl, ⟨nd, rfl⟩⟩
          refine ⟨_, rfl, ?_⟩
          refine hK.out _ _ (hHeld) (fun hHeld => ?_)
          clear hK K
          refine nm 76 ?_
          refine put 8 77 (bt 75 511) HT_ ?_
          refine pn 9 78 (bt 75 1023) HT_ ?_
          refine pn 10 79 (bt 75 2047) HT_ ?_
          refine pn 11 80 (bt 75 4095) HT_ ?_
          refine pn 12 81 (bt 75 8191) HT_ ?_
          refine pn 13 82 (bt 75 16383) HT_ ?_
          refine pn 14 83 (bt 75 32767) HT_ ?_
          refine pn 15 84 (bt 75 65535) HT_ ?_
          refine pn 16 85 (bt 75 131071) HT_ ?_
          refine pn 17 86 (bt 75 262143) HT_ ?_
          refine pn 18 87 (bt 75 524287) HT_ ?_
          refine pn 19 88 (bt 75 1048575) HT_ ?_
          refine pn 20 89 (bt 75 2097151) HT_ ?_
          refine pn 21 90 (bt 75 4194303) HT_ ?_
          refine pn 22 91 (bt 75 8388607) HT_ ?_
          refine pn 23 92 (bt 75 16777215) HT_ ?_
          refine pn 24 93 (bt 75 33554431) HT_ ?_
          refine pn 25 94 (bt 75 67108863) HT_ ?_
          refine pn 26 95 (bt 75 134217727) HT_ ?_
          refine pn 27 96 (bt 75 268435455) HT_ ?_
          refine pn 28 97 (bt 75 536870911) HT_ ?_
          refine pn 29 98 (bt 75 1073741823) HT_ ?_
          refine pn 30 99 (bt 75 2147483647) HT_ ?_
          refine pn 31 100 (bt 75 4294967295) HT_ ?_
          refine pn 32 101 (bt 75 8589934591) HT_ ?_
          refine pn 33 102 (bt 75 17179869183) HT_ ?_
          refine pn 34 103 (bt 75 34359738367) HT_ ?_
          refine pn 35 104 (bt 75 68719476735) HT_ ?_
          refine pn 36 105 (bt 75 137438953471) HT_ ?_
          refine pn 37 106 (bt 75 274877906943) HT_ ?_
          refine pn 38 107 (bt 75 549755813887) HT_ ?_
          refine pn 39 108 (bt 75 1099511627775) HT_ ?_
          refine pn 40 109 (bt 75 2199023255551) HT_ ?_
          refine pn 41 110 (bt 75 4398046511103) HT_ ?_
          refine pn 42 111 (bt 75 8796093022207) HT_ ?_
          refine pn 43 112 (bt 75 17592186044415) HT_ ?_
          refine pn 44 113 (bt 75 35184372088831) HT_ ?_
          refine put 45 114 (bt 75 70368744177663) HT_ ?_
          refine put 46 115 (bt 75 140737488355327) HT_ ?_
          refine pn 47 116 (bt 75 281474976710655) HT_ ?_
          refine pn 48 117 (bt 75 562949953421311) HT_ ?_
          refine pn 49 118 (bt 75 1125899906842623) HT_ ?_
          refine pn 50 119 (bt 75 2251799813685247) HT_ ?_
          refine pn 51 120 (bt 75 4503599627370495) HT_ ?_
          refine pn 52 121 (bt 75 9007199254740991) HT_ ?_
          refine pn 53 122 (bt 75 18014398509481983) HT_ ?_
          refine pn 54 123 (bt 75 36028797018963967) HT_ ?_
          refine pn 55 124 (bt 75 72057594037927935) HT_ ?_
          refine pn 56 125 (bt 75 144115188075855871) HT_ ?_
          refine pn 57 126 (bt 75 288230376151711743) HT_ ?_
          refine pn 58 127 (bt 75 576460752303423487) HT_ ?_
          refine pn 59 128 (bt 75 1152921504606846975) HT_ ?_
          refine pn 60 129 (bt 75 2305843009213693951) HT_ ?_
          refine pn 61 130 (bt 75 4611686018427387903) HT_ ?_
          refine pn 62 131 (bt 75 9223372036854775807) HT_ ?_
          refine pn 63 132 (bt 75 18446744073709551615) HT_ ?_
          refine pn 64 133 (bt 75 36893488147419103231) HT_ ?_
          refine pn 65 134 (bt 75 73786976294838206463) HT_ ?_
          refine pn 66 135 (bt 75 147573952589676412927) HT_ ?_
          refine pn 67 136 (bt 75 295147905179352825855) HT_ ?_
          refine pn 68 137 (bt 75 590295810358705651711) HT_ ?_
          refine pn 69 138 (bt 75 1180591620717411303423) HT_ ?_
          refine pn 70 139 (bt 75 2361183241434822606847) HT_ ?_
          refine pn 71 140 (bt 75 4722366482869645213695) HT_ ?_
          refine pn 72 141 (bt 75 9444732965739290427391) HT_ ?_
          refine pn 73 142 (bt 75 18889465931478580854783) HT_ ?_
          refine put 74 143 (bt 75 37778931862957161709567) HT_ ?_
          refine done_ (done_of HT_.out (by kernel_rfl)) ?_
          try go_wp2
          go_ret
          exact ⟨se, sbw⟩
        ·replace H := im H
         obtain ⟨-, c48b0, H⟩ | ⟨-, c48b0, H⟩ := ic_ H
         ·obtain ⟨ji49, hji49⟩ : ∃ j_ : Int, (wrap64 (x8_2 - 1)) = j_ := ⟨_, rfl⟩
          replace H : (if 0 ≤ (ji49) then (if (ji49) < (t325.length : Int) then (if 0 ≤ (rd t325 (ji49)) then (if (rd t325 (ji49)) < (t319.length : Int) then (if 0 ≤ (rd t325 x8_2) then (if (rd t325 x8_2) < (t319.length : Int) then (if ((rd_T28 t319 (rd t325 (ji49))).f5) = ((rd_T28 t319 (rd t325 x8_2)).f5) then (if (rd t325 (ji49)) ≥ (rd t325 x8_2) then (some false) else (if ((rd_T28 t319 (rd t325 (ji49))).f5) = 1 then (laws_FnQueues.l0 k2 l0 t325 (wrap64 (x8_2 + 1)) t319) else (if ((rd_T28 t319 (rd t325 x8_2)).f5) = 1 then (some false) else (laws_FnQueues.l0 k2 l0 t325 (wrap64 (x8_2 + 1)) t319)))) else (if ((rd_T28 t319 (rd t325 (ji49))).f5) = 1 then (laws_FnQueues.l0 k2 l0 t325 (wrap64 (x8_2 + 1)) t319) else (if ((rd_T28 t319 (rd t325 x8_2)).f5) = 1 then (some false) else (laws_FnQueues.l0 k2 l0 t325 (wrap64 (x8_2 + 1)) t319)))) else (none)) else (none)) else (none)) else (none)) else (none)) else (none)) = some r := by first | (rw [hji49] at H; exact H) | (simp only [hji49] at H ⊢; exact H)
          (try rw [hji49] at A43)
          have hji49w : (IntKind.i64.wrap (x8_2 - 1)) = ji49 := (i64_w _).trans hji49
          obtain ⟨c50b0, H⟩ := id_ H
          obtain ⟨c51b0, H⟩ := id_ H
          obtain ⟨c52b0, H⟩ := id_ H
          obtain ⟨c53b0, H⟩ := id_ H
          obtain ⟨c54b0, H⟩ := id_ H
          obtain ⟨c55b0, H⟩ := id_ H
          obtain ⟨-, c56b0, c56b1, H⟩ | ⟨c56, c56b0, c56b1, H⟩ := ib_ H
          ·obtain ⟨-, c57b0, H⟩ | ⟨-, c57b0, H⟩ := ic_ H
           ·obtain rfl := Option.some.inj H
            obtain ⟨Ao58, co58, eo58⟩ := Kd.R_slice HO_7.out
            subst eo58
            try go_wp2
            replace HO_7 := am (Kd.R_drew HO_7.out)
            replace HO_318000 := am (Kd.R_drew HO_318000.out)
            replace HO_324000 := am (Kd.R_drew HO_324000.out)
            replace BK317 := am (blk_drew BK317.out)
            replace BK318 := am (blk_drew BK318.out)
            replace BK323 := am (blk_drew BK323.out)
            replace HB := am (below_drew1 HB.out)
            have q60 : (x8_2 : Int) ≤ ((t325.length : Int) : Int) := sa
            obtain ⟨i060, hi060, _, hsz60, _⟩ := info_parts info3
            have hroom60 : t325.length ≤ co58 := (Kd.R_reads' HO_7.out).2.1
            have hC60 : Kd.C (Kd.int .i64) _ Ao58 t325.length t325 := (Kd.R_reads' HO_7.out).2.2
            have hcut60 := cut_to (P := Try.prog) 34 3 .i64 Try.underlying34 hi060 Ao58 t325.length co58 x8_2 (sa) q60 hroom60
            have hr60 := Kd.C_take (m := (x8_2 : Int).toNat) hC60 (by omega)
            have hy60 : y328.length = (x8_2 : Int).toNat := a5_15
            rw [← Ny328.out] at hr60
            rw [← hy60] at hcut60
            have HR331 := am hr60
            have HC331 := am (show y328.length ≤ co58 from by omega)
            clear hr60 hC60 hroom60 hi060 hsz60
            have KY60 := am hy60
            clear hy60
            have KL60 := am (show (x8_2 : Int).toNat ≤ t325.length from by omega)
            replace q60 := eq_true q60
            have p332 : 0 ≤ (x8_2 : Int) := sa
            have q332 : x8_2 < (t325.length : Int) := sa
            obtain ⟨ad332, e332, hx332_0⟩ := Kd.at_int (Kd.R_reads' HO_7.out).2.2 x8_2 p332 q332
            cases e332
            replace p332 := eq_true p332
            replace q332 := eq_true q332
            have p334 : 0 ≤ ((ji49) : Int) := sa
            have q334 : (ji49) < (t325.length : Int) := sa
            obtain ⟨ad334, e334, hx334_0⟩ := Kd.at_int (Kd.R_reads' HO_7.out).2.2 (ji49) p334 q334
            obtain rfl : ad332 = ad334 := (by injection e334)
            replace p334 := eq_true p334
            replace q334 := eq_true q334
            have p335 : 0 ≤ ((rd t325 (ji49)) : Int) := sa
            have q335 : (rd t325 (ji49)) < (t319.length : Int) := sa
            obtain ⟨ad335, e335, hx335_0, hx335_1, hx335_2, hx335_3, hx335_4, hx335_5⟩ := at_T28 (Kd.R_reads' HO_324000.out).2.2 (rd t325 (ji49)) p335 q335
            cases e335
            replace p335 := eq_true p335
            replace q335 := eq_true q335
            have p336 : 0 ≤ (x8_2 : Int) := sa
            have q336 : x8_2 < (t325.length : Int) := sa
            obtain ⟨ad336, e336, hx336_0⟩ := Kd.at_int (Kd.R_reads' HO_7.out).2.2 x8_2 p336 q336
            obtain rfl : ad332 = ad336 := (by injection e336)
            replace p336 := eq_true p336
            replace q336 := eq_true q336
            have p337 : 0 ≤ ((rd t325 x8_2) : Int) := sa
            have q337 : (rd t325 x8_2) < (t319.length : Int) := sa
            obtain ⟨ad337, e337, hx337_0, hx337_1, hx337_2, hx337_3, hx337_4, hx337_5⟩ := at_T28 (Kd.R_reads' HO_324000.out).2.2 (rd t325 x8_2) p337 q337
            obtain rfl : ad335 = ad337 := (by injection e337)
            replace p337 := eq_true p337
            replace q337 := eq_true q337
            have p338 : 0 ≤ ((ji49) : Int) := sa
            have q338 : (ji49) < (t325.length : Int) := sa
            obtain ⟨ad338, e338, hx338_0⟩ := Kd.at_int (Kd.R_reads' HO_7.out).2.2 (ji49) p338 q338
            obtain rfl : ad332 = ad338 := (by injection e338)
            replace p338 := eq_true p338
            replace q338 := eq_true q338
            have p339 : 0 ≤ (x8_2 : Int) := sa
            have q339 : x8_2 < (t325.length : Int) := sa
            obtain ⟨ad339, e339, hx339_0⟩ := Kd.at_int (Kd.R_reads' HO_7.out).2.2 x8_2 p339 q339
            obtain rfl : ad332 = ad339 := (by injection e339)
            replace p339 := eq_true p339
            replace q339 := eq_true q339
            as_aux_lemma =>
             refine start_ (n := 75) (S := fun w' => w'.cell? ⟨gb323, 0, none⟩ = some (.slice (some ad335) t319.length co16) ∧ w'.cell? (ad332.add (x8_2).toNat) = some (.int .i64 (rd t325 x8_2)) ∧ w'.cell? (ad332.add ((ji49)).toNat) = some (.int .i64 (rd t325 (ji49))) ∧ w'.cell? (ad335.add (((rd t325 (ji49))).toNat * 6)) = some (.int .i64 ((rd_T28 t319 (rd t325 (ji49))).f0)) ∧ w'.cell? ⟨(ad335.add (((rd t325 (ji49))).toNat * 6)).block, (ad335.add (((rd t325 (ji49))).toNat * 6)).off + 1, none⟩ = some (.int .i64 ((rd_T28 t319 (rd t325 (ji49))).f1)) ∧ w'.cell? ⟨(ad335.add (((rd t325 (ji49))).toNat * 6)).block, (ad335.add (((rd t325 (ji49))).toNat * 6)).off + 2, none⟩ = some (.int .i64 ((rd_T28 t319 (rd t325 (ji49))).f2)) ∧ w'.cell? ⟨(ad335.add (((rd t325 (ji49))).toNat * 6)).block, (ad335.add (((rd t325 (ji49))).toNat * 6)).off + 3, none⟩ = some (.int .i64 ((rd_T28 t319 (rd t325 (ji49))).f3)) ∧ w'.cell? ⟨(ad335.add (((rd t325 (ji49))).toNat * 6)).block, (ad335.add (((rd t325 (ji49))).toNat * 6)).off + 4, none⟩ = some (.int .i64 ((rd_T28 t319 (rd t325 (ji49))).f4)) ∧ w'.cell? ⟨(ad335.add (((rd t325 (ji49))).toNat * 6)).block, (ad335.add (((rd t325 (ji49))).toNat * 6)).off + 5, none⟩ = some (.int .i64 ((rd_T28 t319 (rd t325 (ji49))).f5)) ∧ w'.cell? (ad332.add (x8_2).toNat) = some (.int .i64 (rd t325 x8_2)) ∧ w'.cell? (ad335.add (((rd t325 x8_2)).toNat * 6)) = some (.int .i64 ((rd_T28 t319 (rd t325 x8_2)).f0)) ∧ w'.cell? ⟨(ad335.add (((rd t325 x8_2)).toNat * 6)).block, (ad335.add (((rd t325 x8_2)).toNat * 6)).off + 1, none⟩ = some (.int .i64 ((rd_T28 t319 (rd t325 x8_2)).f1)) ∧ w'.cell? ⟨(ad335.add (((rd t325 x8_2)).toNat * 6)).block, (ad335.add (((rd t325 x8_2)).toNat * 6)).off + 2, none⟩ = some (.int .i64 ((rd_T28 t319 (rd t325 x8_2)).f2)) ∧ w'.cell? ⟨(ad335.add (((rd t325 x8_2)).toNat * 6)).block, (ad335.add (((rd t325 x8_2)).toNat * 6)).off + 3, none⟩ = some (.int .i64 ((rd_T28 t319 (rd t325 x8_2)).f3)) ∧ w'.cell? ⟨(ad335.add (((rd t325 x8_2)).toNat * 6)).block, (ad335.add (((rd t325 x8_2)).toNat * 6)).off + 4, none⟩ = some (.int .i64 ((rd_T28 t319 (rd t325 x8_2)).f4)) ∧ w'.cell? ⟨(ad335.add (((rd t325 x8_2)).toNat * 6)).block, (ad335.add (((rd t325 x8_2)).toNat * 6)).off + 5, none⟩ = some (.int .i64 ((rd_T28 t319 (rd t325 x8_2)).f5)) ∧ w'.cell? (ad332.add ((ji49)).toNat) = some (.int .i64 (rd t325 (ji49))) ∧ w'.cell? (ad332.add (x8_2).toNat) = some (.int .i64 (rd t325 x8_2))) (ds := []) #[false, false, false, false, false, false, false, false, false, false, false, false, false, false, false, false, false, false, false, false, false, false, false, false, false, false, false, false, false, false, false, false, false, false, false, false, false, false, false, false, false, false, false, false, false, false, false, false, false, false, false, false, false, false, false, false, false, false, false, false, false, false, false, false, false, false, false, false, false, false, false, false, false, false, false] (by kernel_rfl) rfl rfl ⟨bc0 BK323, hx332_0, hx334_0, hx335_0, hx335_1, hx335_2, hx335_3, hx335_4, hx335_5, hx336_0, hx337_0, hx337_1, hx337_2, hx337_3, hx337_4, hx337_5, hx338_0, hx339_0⟩ (fun hHeld => ?_); refine with_tabW laws_FnQueues.tab11 laws_FnQueues.bits11 (fun HT_ HW_ => ?_)
             generalize wr.drew = w59 at HO_7 HO_318000 HO_324000 BK317 BK318 BK323 HB HR331 hx332_0 hx334_0 hx335_0 hx335_1 hx335_2 hx335_3 hx335_4 hx335_5 hx336_0 hx337_0 hx337_1 hx337_2 hx337_3 hx337_4 hx337_5 hx338_0 hx339_0 hHeld ⊢
             refine put 0 69 (bt 75 1) HT_ ?_
             refine put 1 70 (bt 75 3) HT_ ?_
             refine put 2 71 (bt 75 7) HT_ ?_
             refine put 3 72 (bt 75 15) HT_ ?_
             refine put 4 73 (bt 75 31) HT_ ?_
             refine put 5 74 (bt 75 63) HT_ ?_
             refine take_ (i := 6) (N := some 75) (v := ?_) (a' := ?_) (bt 75 127) rfl rfl (take_ofW HT_.out HW_.out (by kernel_rfl)) (fun _ _ _ h => h) (Or.inl ⟨by rfl, ?_⟩) hHeld ?_ ?_
             rotate_left
             ·rintro w' ⟨s0, s1, s2, s3, s4, s5, s6, s7, s8, s9, s10, s11, s12, s13, s14, s15, s16, s17⟩
              go_simp
              with_reducible rfl
             rotate_left
             ·exact ap
             refine on 7 76 (bt 75 255) HT_ (fun K hK => ?_)
             refine goes_ Try.func9 (by kernel_rfl) rfl #[.slice (some ad332) y328.length co58, .int .i64 (rd t325 x8_2)] (by rfl) rfl rfl sl ?_
             with_reducible refine (laws_contains.calls k2 _ _ y328 (rd t325 x8_2) false _ ?side1 ?side2 A43.out).mono ?_
             (case side1 => repeat (first | exact (cq HR331) | (with_reducible refine Kd.C_alloc ?_ _) | (with_reducible refine Kd.C_drewN ?_ _) | (with_reducible refine Kd.C_drew ?_)))
             (case side2 => exact HC331.out)
             rintro e w' ⟨rfl, ⟨nd, rfl⟩⟩
             refine ⟨_, rfl, ?_⟩
             refine hK.out _ _ ⟨bc0 BK323, hHeld.2.1, hHeld.2.2.1, hHeld.2.2.2.1, hHeld.2.2.2.2.1, hHeld.2.2.2.2.2.1, hHeld.2.2.2.2.2.2.1, hHeld.2.2.2.2.2.2.2.1, hHeld.2.2.2.2.2.2.2.2.1, hHeld.2.2.2.2.2.2.2.2.2.1, hHeld.2.2.2.2.2.2.2.2.2.2.1, hHeld.2.2.2.2.2.2.2.2.2.2.2.1, hHeld.2.2.2.2.2.2.2.2.2.2.2.2.1, hHeld.2.2.2.2.2.2.2.2.2.2.2.2.2.1, hHeld.2.2.2.2.2.2.2.2.2.2.2.2.2.2.1, hHeld.2.2.2.2.2.2.2.2.2.2.2.2.2.2.2.1, hHeld.2.2.2.2.2.2.2.2.2.2.2.2.2.2.2.2.1, hHeld.2.2.2.2.2.2.2.2.2.2.2.2.2.2.2.2.2⟩ (fun hHeld => ?_)
             clear hK K
             refine nm 76 ?_
             refine put 8 77 (bt 75 511) HT_ ?_
             refine put 9 78 (bt 75 1023) HT_ ?_
             refine put 10 79 (bt 75 2047) HT_ ?_
             refine put 11 80 (bt 75 4095) HT_ ?_
             refine put 12 81 (bt 75 8191) HT_ ?_
             refine put 14 83 (bt 75 24575) HT_ ?_
             refine put 15 84 (bt 75 57343) HT_ ?_
             refine put 16 85 (bt 75 122879) HT_ ?_
             refine put 17 86 (bt 75 253951) HT_ ?_
             refine put 22 91 (bt 75 4448255) HT_ ?_
             refine put 24 93 (bt 75 21225471) HT_ ?_
             refine put 25 94 (bt 75 54779903) HT_ ?_
             refine put 26 95 (bt 75 121888767) HT_ ?_
             refine take_ (i := 13) (N := some 82) (v := ?_) (a' := ?_) (bt 75 121896959) rfl rfl (take_ofW HT_.out HW_.out (by kernel_rfl)) (fun _ _ _ h => h) (Or.inl ⟨by rfl, ?_⟩) hHeld ?_ ?_
             rotate_left
             ·rintro w' ⟨s0, s1, s2, s3, s4, s5, s6, s7, s8, s9, s10, s11, s12, s13, s14, s15, s16, s17⟩
              go_simp
              with_reducible rfl
             rotate_left
             ·exact ap
             refine take_ (i := 18) (N := some 87) (v := ?_) (a' := ?_) (bt 75 122159103) rfl rfl (take_ofW HT_.out HW_.out (by kernel_rfl)) (fun _ _ _ h => h) (Or.inl ⟨by rfl, ?_⟩) hHeld ?_ ?_
             rotate_left
             ·rintro w' ⟨s0, s1, s2, s3, s4, s5, s6, s7, s8, s9, s10, s11, s12, s13, s14, s15, s16, s17⟩
              go_simp
              with_reducible rfl
             rotate_left
             ·exact ap
             refine put 19 88 (bt 75 122683391) HT_ ?_
             refine put 20 89 (bt 75 123731967) HT_ ?_
             refine take_ (i := 21) (N := some 90) (v := ?_) (a' := ?_) (bt 75 125829119) rfl rfl (take_ofW HT_.out HW_.out (by kernel_rfl)) (fun _ _ _ h => h) (Or.inl ⟨by rfl, ?_⟩) hHeld ?_ ?_
             rotate_left
             ·rintro w' ⟨s0, s1, s2, s3, s4, s5, s6, s7, s8, s9, s10, s11, s12, s13, s14, s15, s16, s17⟩
              go_simp
              with_reducible rfl
             rotate_left
             ·exact ap
             refine take_ (i := 23) (N := some 92) (v := ?_) (a' := ?_) (bt 75 134217727) rfl rfl (take_ofW HT_.out HW_.out (by kernel_rfl)) (fun _ _ _ h => h) (Or.inl ⟨by rfl, ?_⟩) hHeld ?_ ?_
             rotate_left
             ·rintro w' ⟨s0, s1, s2, s3, s4, s5, s6, s7, s8, s9, s10, s11, s12, s13, s14, s15, s16, s17⟩
              go_simp
              with_reducible rfl
             rotate_left
             ·exact ap
             refine take_ (i := 27) (N := some 96) (v := ?_) (a' := ?_) (bt 75 268435455) rfl rfl (take_ofW HT_.out HW_.out (by kernel_rfl)) (fun _ _ _ h => h) (Or.inl ⟨by rfl, ?_⟩) hHeld ?_ ?_
             rotate_left
             ·rintro w' ⟨s0, s1, s2, s3, s4, s5, s6, s7, s8, s9, s10, s11, s12, s13, s14, s15, s16, s17⟩
              go_simp
              with_reducible rfl
             rotate_left
             ·exact ap
             refine put 28 97 (bt 75 536870911) HT_ ?_
             refine put 29 98 (bt 75 1073741823) HT_ ?_
             refine take_ (i := 30) (N := some 99) (v := ?_) (a' := ?_) (bt 75 2147483647) rfl rfl (take_ofW HT_.out HW_.out (by kernel_rfl)) (fun _ _ _ h => h) (Or.inl ⟨by rfl, ?_⟩) hHeld ?_ ?_
             rotate_left
             ·rintro w' ⟨s0, s1, s2, s3, s4, s5, s6, s7, s8, s9, s10, s11, s12, s13, s14, s15, s16, s17⟩
              go_simp
              with_reducible rfl
             rotate_left
             ·exact ap
             refine put 31 100 (bt 75 4294967295) HT_ ?_
             refine put 32 101 (bt 75 8589934591) HT_ ?_
             refine put 33 102 (bt 75 17179869183) HT_ ?_
             refine put 34 103 (bt 75 34359738367) HT_ ?_
             refine put 35 104 (bt 75 68719476735) HT_ ?_
             refine put 36 105 (bt 75 137438953471) HT_ ?_
             refine put 37 106 (bt 75 274877906943) HT_ ?_
             refine put 39 108 (bt 75 824633720831) HT_ ?_
             refine put 40 109 (bt 75 1924145348607) HT_ ?_
             refine put 41 110 (bt 75 4123168604159) HT_ ?_
             refine take_ (i := 38) (N := some 107) (v := ?_) (a' := ?_) (bt 75 4398046511103) rfl rfl (take_ofW HT_.out HW_.out (by kernel_rfl)) (fun _ _ _ h => h) (Or.inl ⟨by rfl, ?_⟩) hHeld ?_ ?_
             rotate_left
             ·rintro w' ⟨s0, s1, s2, s3, s4, s5, s6, s7, s8, s9, s10, s11, s12, s13, s14, s15, s16, s17⟩
              go_simp
              with_reducible rfl
             rotate_left
             ·exact ap
             refine take_ (i := 42) (N := some 111) (v := ?_) (a' := ?_) (bt 75 8796093022207) rfl rfl (take_ofW HT_.out HW_.out (by kernel_rfl)) (fun _ _ _ h => h) (Or.inl ⟨by rfl, ?_⟩) hHeld ?_ ?_
             rotate_left
             ·rintro w' ⟨s0, s1, s2, s3, s4, s5, s6, s7, s8, s9, s10, s11, s12, s13, s14, s15, s16, s17⟩
              go_simp
              with_reducible rfl
             rotate_left
             ·exact ap
             refine put 43 112 (bt 75 17592186044415) HT_ ?_
             refine put 44 113 (bt 75 35184372088831) HT_ ?_
             refine put 45 114 (bt 75 70368744177663) HT_ ?_
             refine put 46 115 (bt 75 140737488355327) HT_ ?_
             refine pn 47 116 (bt 75 281474976710655) HT_ ?_
             refine pn 48 117 (bt 75 562949953421311) HT_ ?_
             refine pn 49 118 (bt 75 1125899906842623) HT_ ?_
             refine pn 50 119 (bt 75 2251799813685247) HT_ ?_
             refine pn 51 120 (bt 75 4503599627370495) HT_ ?_
             refine pn 52 121 (bt 75 9007199254740991) HT_ ?_
             refine pn 53 122 (bt 75 18014398509481983) HT_ ?_
             refine pn 54 123 (bt 75 36028797018963967) HT_ ?_
             refine pn 55 124 (bt 75 72057594037927935) HT_ ?_
             refine pn 56 125 (bt 75 144115188075855871) HT_ ?_
             refine pn 57 126 (bt 75 288230376151711743) HT_ ?_
             refine pn 58 127 (bt 75 576460752303423487) HT_ ?_
             refine pn 59 128 (bt 75 1152921504606846975) HT_ ?_
             refine pn 60 129 (bt 75 2305843009213693951) HT_ ?_
             refine pn 61 130 (bt 75 4611686018427387903) HT_ ?_
             refine pn 62 131 (bt 75 9223372036854775807) HT_ ?_
             refine pn 63 132 (bt 75 18446744073709551615) HT_ ?_
             refine pn 64 133 (bt 75 36893488147419103231) HT_ ?_
             refine pn 65 134 (bt 75 73786976294838206463) HT_ ?_
             refine pn 66 135 (bt 75 147573952589676412927) HT_ ?_
             refine pn 67 136 (bt 75 295147905179352825855) HT_ ?_
             refine pn 68 137 (bt 75 590295810358705651711) HT_ ?_
             refine pn 69 138 (bt 75 1180591620717411303423) HT_ ?_
             refine pn 70 139 (bt 75 2361183241434822606847) HT_ ?_
             refine pn 71 140 (bt 75 4722366482869645213695) HT_ ?_
             refine pn 72 141 (bt 75 9444732965739290427391) HT_ ?_
             refine pn 73 142 (bt 75 18889465931478580854783) HT_ ?_
             refine put 74 143 (bt 75 37778931862957161709567) HT_ ?_
             refine done_ (done_of HT_.out (by kernel_rfl)) ?_
             try go_wp2
             go_ret
             exact ⟨a5_14, sbw⟩
           ·obtain ⟨-, c61b0, c61b1, H⟩ | ⟨c61, c61b0, c61b1, H⟩ := ib_ H
            ·have H' := am H
             clear H
             obtain ⟨Ao62, co62, eo62⟩ := Kd.R_slice HO_7.out
             subst eo62
             try go_wp2
             replace HO_7 := am (Kd.R_drew HO_7.out)
             replace HO_318000 := am (Kd.R_drew HO_318000.out)
             replace HO_324000 := am (Kd.R_drew HO_324000.out)
             replace BK317 := am (blk_drew BK317.out)
             replace BK318 := am (blk_drew BK318.out)
             replace BK323 := am (blk_drew BK323.out)
             replace HB := am (below_drew1 HB.out)
             have q64 : (x8_2 : Int) ≤ ((t325.length : Int) : Int) := sa
             obtain ⟨i064, hi064, _, hsz64, _⟩ := info_parts info3
             have hroom64 : t325.length ≤ co62 := (Kd.R_reads' HO_7.out).2.1
             have hC64 : Kd.C (Kd.int .i64) _ Ao62 t325.length t325 := (Kd.R_reads' HO_7.out).2.2
             have hcut64 := cut_to (P := Try.prog) 34 3 .i64 Try.underlying34 hi064 Ao62 t325.length co62 x8_2 (sa) q64 hroom64
             have hr64 := Kd.C_take (m := (x8_2 : Int).toNat) hC64 (by omega)
             have hy64 : y328.length = (x8_2 : Int).toNat := a5_15
             rw [← Ny328.out] at hr64
             rw [← hy64] at hcut64
             have HR331 := am hr64
             have HC331 := am (show y328.length ≤ co62 from by omega)
             clear hr64 hC64 hroom64 hi064 hsz64
             have KY64 := am hy64
             clear hy64
             have KL64 := am (show (x8_2 : Int).toNat ≤ t325.length from by omega)
             replace q64 := eq_true q64
             have p332 : 0 ≤ (x8_2 : Int) := sa
             have q332 : x8_2 < (t325.length : Int) := sa
             obtain ⟨ad332, e332, hx332_0⟩ := Kd.at_int (Kd.R_reads' HO_7.out).2.2 x8_2 p332 q332
             cases e332
             replace p332 := eq_true p332
             replace q332 := eq_true q332
             have p334 : 0 ≤ ((ji49) : Int) := sa
             have q334 : (ji49) < (t325.length : Int) := sa
             obtain ⟨ad334, e334, hx334_0⟩ := Kd.at_int (Kd.R_reads' HO_7.out).2.2 (ji49) p334 q334
             obtain rfl : ad332 = ad334 := (by injection e334)
             replace p334 := eq_true p334
             replace q334 := eq_true q334
             have p335 : 0 ≤ ((rd t325 (ji49)) : Int) := sa
             have q335 : (rd t325 (ji49)) < (t319.length : Int) := sa
             obtain ⟨ad335, e335, hx335_0, hx335_1, hx335_2, hx335_3, hx335_4, hx335_5⟩ := at_T28 (Kd.R_reads' HO_324000.out).2.2 (rd t325 (ji49)) p335 q335
             cases e335
             replace p335 := eq_true p335
             replace q335 := eq_true q335
             have p336 : 0 ≤ (x8_2 : Int) := sa
             have q336 : x8_2 < (t325.length : Int) := sa
             obtain ⟨ad336, e336, hx336_0⟩ := Kd.at_int (Kd.R_reads' HO_7.out).2.2 x8_2 p336 q336
             obtain rfl : ad332 = ad336 := (by injection e336)
             replace p336 := eq_true p336
             replace q336 := eq_true q336
             have p337 : 0 ≤ ((rd t325 x8_2) : Int) := sa
             have q337 : (rd t325 x8_2) < (t319.length : Int) := sa
             obtain ⟨ad337, e337, hx337_0, hx337_1, hx337_2, hx337_3, hx337_4, hx337_5⟩ := at_T28 (Kd.R_reads' HO_324000.out).2.2 (rd t325 x8_2) p337 q337
             obtain rfl : ad335 = ad337 := (by injection e337)
             replace p337 := eq_true p337
             replace q337 := eq_true q337
             have p338 : 0 ≤ ((ji49) : Int) := sa
             have q338 : (ji49) < (t325.length : Int) := sa
             obtain ⟨ad338, e338, hx338_0⟩ := Kd.at_int (Kd.R_reads' HO_7.out).2.2 (ji49) p338 q338
             obtain rfl : ad332 = ad338 := (by injection e338)
             replace p338 := eq_true p338
             replace q338 := eq_true q338
             have p339 : 0 ≤ (x8_2 : Int) := sa
             have q339 : x8_2 < (t325.length : Int) := sa
             obtain ⟨ad339, e339, hx339_0⟩ := Kd.at_int (Kd.R_reads' HO_7.out).2.2 x8_2 p339 q339
             obtain rfl : ad332 = ad339 := (by injection e339)
             replace p339 := eq_true p339
             replace q339 := eq_true q339
             have p340 : 0 ≤ ((ji49) : Int) := sa
             have q340 : (ji49) < (t325.length : Int) := sa
             obtain ⟨ad340, e340, hx340_0⟩ := Kd.at_int (Kd.R_reads' HO_7.out).2.2 (ji49) p340 q340
             obtain rfl : ad332 = ad340 := (by injection e340)
             replace p340 := eq_true p340
             replace q340 := eq_true q340
             have p341 : 0 ≤ ((rd t325 (ji49)) : Int) := sa
             have q341 : (rd t325 (ji49)) < (t319.length : Int) := sa
             obtain ⟨ad341, e341, hx341_0, hx341_1, hx341_2, hx341_3, hx341_4, hx341_5⟩ := at_T28 (Kd.R_reads' HO_324000.out).2.2 (rd t325 (ji49)) p341 q341
             obtain rfl : ad335 = ad341 := (by injection e341)
             replace p341 := eq_true p341
             replace q341 := eq_true q341
             as_aux_lemma =>
              refine start_ (n := 75) (S := fun w' => w'.cell? ⟨gb323, 0, none⟩ = some (.slice (some ad335) t319.length co16) ∧ w'.cell? (ad332.add (x8_2).toNat) = some (.int .i64 (rd t325 x8_2)) ∧ w'.cell? (ad332.add ((ji49)).toNat) = some (.int .i64 (rd t325 (ji49))) ∧ w'.cell? (ad335.add (((rd t325 (ji49))).toNat * 6)) = some (.int .i64 ((rd_T28 t319 (rd t325 (ji49))).f0)) ∧ w'.cell? ⟨(ad335.add (((rd t325 (ji49))).toNat * 6)).block, (ad335.add (((rd t325 (ji49))).toNat * 6)).off + 1, none⟩ = some (.int .i64 ((rd_T28 t319 (rd t325 (ji49))).f1)) ∧ w'.cell? ⟨(ad335.add (((rd t325 (ji49))).toNat * 6)).block, (ad335.add (((rd t325 (ji49))).toNat * 6)).off + 2, none⟩ = some (.int .i64 ((rd_T28 t319 (rd t325 (ji49))).f2)) ∧ w'.cell? ⟨(ad335.add (((rd t325 (ji49))).toNat * 6)).block, (ad335.add (((rd t325 (ji49))).toNat * 6)).off + 3, none⟩ = some (.int .i64 ((rd_T28 t319 (rd t325 (ji49))).f3)) ∧ w'.cell? ⟨(ad335.add (((rd t325 (ji49))).toNat * 6)).block, (ad335.add (((rd t325 (ji49))).toNat * 6)).off + 4, none⟩ = some (.int .i64 ((rd_T28 t319 (rd t325 (ji49))).f4)) ∧ w'.cell? ⟨(ad335.add (((rd t325 (ji49))).toNat * 6)).block, (ad335.add (((rd t325 (ji49))).toNat * 6)).off + 5, none⟩ = some (.int .i64 ((rd_T28 t319 (rd t325 (ji49))).f5)) ∧ w'.cell? (ad332.add (x8_2).toNat) = some (.int .i64 (rd t325 x8_2)) ∧ w'.cell? (ad335.add (((rd t325 x8_2)).toNat * 6)) = some (.int .i64 ((rd_T28 t319 (rd t325 x8_2)).f0)) ∧ w'.cell? ⟨(ad335.add (((rd t325 x8_2)).toNat * 6)).block, (ad335.add (((rd t325 x8_2)).toNat * 6)).off + 1, none⟩ = some (.int .i64 ((rd_T28 t319 (rd t325 x8_2)).f1)) ∧ w'.cell? ⟨(ad335.add (((rd t325 x8_2)).toNat * 6)).block, (ad335.add (((rd t325 x8_2)).toNat * 6)).off + 2, none⟩ = some (.int .i64 ((rd_T28 t319 (rd t325 x8_2)).f2)) ∧ w'.cell? ⟨(ad335.add (((rd t325 x8_2)).toNat * 6)).block, (ad335.add (((rd t325 x8_2)).toNat * 6)).off + 3, none⟩ = some (.int .i64 ((rd_T28 t319 (rd t325 x8_2)).f3)) ∧ w'.cell? ⟨(ad335.add (((rd t325 x8_2)).toNat * 6)).block, (ad335.add (((rd t325 x8_2)).toNat * 6)).off + 4, none⟩ = some (.int .i64 ((rd_T28 t319 (rd t325 x8_2)).f4)) ∧ w'.cell? ⟨(ad335.add (((rd t325 x8_2)).toNat * 6)).block, (ad335.add (((rd t325 x8_2)).toNat * 6)).off + 5, none⟩ = some (.int .i64 ((rd_T28 t319 (rd t325 x8_2)).f5)) ∧ w'.cell? (ad332.add ((ji49)).toNat) = some (.int .i64 (rd t325 (ji49))) ∧ w'.cell? (ad332.add (x8_2).toNat) = some (.int .i64 (rd t325 x8_2)) ∧ w'.cell? (ad332.add ((ji49)).toNat) = some (.int .i64 (rd t325 (ji49))) ∧ w'.cell? (ad335.add (((rd t325 (ji49))).toNat * 6)) = some (.int .i64 ((rd_T28 t319 (rd t325 (ji49))).f0)) ∧ w'.cell? ⟨(ad335.add (((rd t325 (ji49))).toNat * 6)).block, (ad335.add (((rd t325 (ji49))).toNat * 6)).off + 1, none⟩ = some (.int .i64 ((rd_T28 t319 (rd t325 (ji49))).f1)) ∧ w'.cell? ⟨(ad335.add (((rd t325 (ji49))).toNat * 6)).block, (ad335.add (((rd t325 (ji49))).toNat * 6)).off + 2, none⟩ = some (.int .i64 ((rd_T28 t319 (rd t325 (ji49))).f2)) ∧ w'.cell? ⟨(ad335.add (((rd t325 (ji49))).toNat * 6)).block, (ad335.add (((rd t325 (ji49))).toNat * 6)).off + 3, none⟩ = some (.int .i64 ((rd_T28 t319 (rd t325 (ji49))).f3)) ∧ w'.cell? ⟨(ad335.add (((rd t325 (ji49))).toNat * 6)).block, (ad335.add (((rd t325 (ji49))).toNat * 6)).off + 4, none⟩ = some (.int .i64 ((rd_T28 t319 (rd t325 (ji49))).f4)) ∧ w'.cell? ⟨(ad335.add (((rd t325 (ji49))).toNat * 6)).block, (ad335.add (((rd t325 (ji49))).toNat * 6)).off + 5, none⟩ = some (.int .i64 ((rd_T28 t319 (rd t325 (ji49))).f5))) (ds := []) #[false, false, false, false, false, false, false, false, false, false, false, false, false, false, false, false, false, false, false, false, false, false, false, false, false, false, false, false, false, false, false, false, false, false, false, false, false, false, false, false, false, false, false, false, false, false, false, false, false, false, false, false, false, false, false, false, false, false, false, false, false, false, false, false, false, false, false, false, false, false, false, false, false, false, false] (by kernel_rfl) rfl rfl ⟨bc0 BK323, hx332_0, hx334_0, hx335_0, hx335_1, hx335_2, hx335_3, hx335_4, hx335_5, hx336_0, hx337_0, hx337_1, hx337_2, hx337_3, hx337_4, hx337_5, hx338_0, hx339_0, hx340_0, hx341_0, hx341_1, hx341_2, hx341_3, hx341_4, hx341_5⟩ (fun hHeld => ?_); refine with_tabW laws_FnQueues.tab11 laws_FnQueues.bits11 (fun HT_ HW_ => ?_)
              generalize wr.drew = w63 at HO_7 HO_318000 HO_324000 BK317 BK318 BK323 HB HR331 hx332_0 hx334_0 hx335_0 hx335_1 hx335_2 hx335_3 hx335_4 hx335_5 hx336_0 hx337_0 hx337_1 hx337_2 hx337_3 hx337_4 hx337_5 hx338_0 hx339_0 hx340_0 hx341_0 hx341_1 hx341_2 hx341_3 hx341_4 hx341_5 hHeld ⊢
              refine put 0 69 (bt 75 1) HT_ ?_
              refine put 1 70 (bt 75 3) HT_ ?_
              refine put 2 71 (bt 75 7) HT_ ?_
              refine put 3 72 (bt 75 15) HT_ ?_
              refine put 4 73 (bt 75 31) HT_ ?_
              refine put 5 74 (bt 75 63) HT_ ?_
              refine take_ (i := 6) (N := some 75) (v := ?_) (a' := ?_) (bt 75 127) rfl rfl (take_ofW HT_.out HW_.out (by kernel_rfl)) (fun _ _ _ h => h) (Or.inl ⟨by rfl, ?_⟩) hHeld ?_ ?_
              rotate_left
              ·rintro w' ⟨s0, s1, s2, s3, s4, s5, s6, s7, s8, s9, s10, s11, s12, s13, s14, s15, s16, s17, s18, s19, s20, s21, s22, s23, s24⟩
               go_simp
               with_reducible rfl
              rotate_left
              ·exact ap
              refine on 7 76 (bt 75 255) HT_ (fun K hK => ?_)
              refine goes_ Try.func9 (by kernel_rfl) rfl #[.slice (some ad332) y328.length co62, .int .i64 (rd t325 x8_2)] (by rfl) rfl rfl sl ?_
              with_reducible refine (laws_contains.calls k2 _ _ y328 (rd t325 x8_2) false _ ?side1 ?side2 A43.out).mono ?_
              (case side1 => repeat (first | exact (cq HR331) | (with_reducible refine Kd.C_alloc ?_ _) | (with_reducible refine Kd.C_drewN ?_ _) | (with_reducible refine Kd.C_drew ?_)))
              (case side2 => exact HC331.out)
              rintro e w' ⟨rfl, ⟨nd, rfl⟩⟩
              refine ⟨_, rfl, ?_⟩
              refine hK.out _ _ ⟨bc0 BK323, hHeld.2.1, hHeld.2.2.1, hHeld.2.2.2.1, hHeld.2.2.2.2.1, hHeld.2.2.2.2.2.1, hHeld.2.2.2.2.2.2.1, hHeld.2.2.2.2.2.2.2.1, hHeld.2.2.2.2.2.2.2.2.1, hHeld.2.2.2.2.2.2.2.2.2.1, hHeld.2.2.2.2.2.2.2.2.2.2.1, hHeld.2.2.2.2.2.2.2.2.2.2.2.1, hHeld.2.2.2.2.2.2.2.2.2.2.2.2.1, hHeld.2.2.2.2.2.2.2.2.2.2.2.2.2.1, hHeld.2.2.2.2.2.2.2.2.2.2.2.2.2.2.1, hHeld.2.2.2.2.2.2.2.2.2.2.2.2.2.2.2.1, hHeld.2.2.2.2.2.2.2.2.2.2.2.2.2.2.2.2.1, hHeld.2.2.2.2.2.2.2.2.2.2.2.2.2.2.2.2.2.1, hHeld.2.2.2.2.2.2.2.2.2.2.2.2.2.2.2.2.2.2.1, hHeld.2.2.2.2.2.2.2.2.2.2.2.2.2.2.2.2.2.2.2.1, hHeld.2.2.2.2.2.2.2.2.2.2.2.2.2.2.2.2.2.2.2.2.1, hHeld.2.2.2.2.2.2.2.2.2.2.2.2.2.2.2.2.2.2.2.2.2.1, hHeld.2.2.2.2.2.2.2.2.2.2.2.2.2.2.2.2.2.2.2.2.2.2.1, hHeld.2.2.2.2.2.2.2.2.2.2.2.2.2.2.2.2.2.2.2.2.2.2.2.1, hHeld.2.2.2.2.2.2.2.2.2.2.2.2.2.2.2.2.2.2.2.2.2.2.2.2⟩ (fun hHeld => ?_)
              clear hK K
              refine nm 76 ?_
              refine put 8 77 (bt 75 511) HT_ ?_
              refine put 9 78 (bt 75 1023) HT_ ?_
              refine put 10 79 (bt 75 2047) HT_ ?_
              refine put 11 80 (bt 75 4095) HT_ ?_
              refine put 12 81 (bt 75 8191) HT_ ?_
              refine put 14 83 (bt 75 24575) HT_ ?_
              refine put 15 84 (bt 75 57343) HT_ ?_
              refine put 16 85 (bt 75 122879) HT_ ?_
              refine put 17 86 (bt 75 253951) HT_ ?_
              refine put 22 91 (bt 75 4448255) HT_ ?_
              refine put 24 93 (bt 75 21225471) HT_ ?_
              refine put 25 94 (bt 75 54779903) HT_ ?_
              refine put 26 95 (bt 75 121888767) HT_ ?_
              refine take_ (i := 13) (N := some 82) (v := ?_) (a' := ?_) (bt 75 121896959) rfl rfl (take_ofW HT_.out HW_.out (by kernel_rfl)) (fun _ _ _ h => h) (Or.inl ⟨by rfl, ?_⟩) hHeld ?_ ?_
              rotate_left
              ·rintro w' ⟨s0, s1, s2, s3, s4, s5, s6, s7, s8, s9, s10, s11, s12, s13, s14, s15, s16, s17, s18, s19, s20, s21, s22, s23, s24⟩
               go_simp
               with_reducible rfl
              rotate_left
              ·exact ap
              refine take_ (i := 18) (N := some 87) (v := ?_) (a' := ?_) (bt 75 122159103) rfl rfl (take_ofW HT_.out HW_.out (by kernel_rfl)) (fun _ _ _ h => h) (Or.inl ⟨by rfl, ?_⟩) hHeld ?_ ?_
              rotate_left
              ·rintro w' ⟨s0, s1, s2, s3, s4, s5, s6, s7, s8, s9, s10, s11, s12, s13, s14, s15, s16, s17, s18, s19, s20, s21, s22, s23, s24⟩
               go_simp
               with_reducible rfl
              rotate_left
              ·exact ap
              refine put 19 88 (bt 75 122683391) HT_ ?_
              refine put 20 89 (bt 75 123731967) HT_ ?_
              refine take_ (i := 21) (N := some 90) (v := ?_) (a' := ?_) (bt 75 125829119) rfl rfl (take_ofW HT_.out HW_.out (by kernel_rfl)) (fun _ _ _ h => h) (Or.inl ⟨by rfl, ?_⟩) hHeld ?_ ?_
              rotate_left
              ·rintro w' ⟨s0, s1, s2, s3, s4, s5, s6, s7, s8, s9, s10, s11, s12, s13, s14, s15, s16, s17, s18, s19, s20, s21, s22, s23, s24⟩
               go_simp
               with_reducible rfl
              rotate_left
              ·exact ap
              refine take_ (i := 23) (N := some 92) (v := ?_) (a' := ?_) (bt 75 134217727) rfl rfl (take_ofW HT_.out HW_.out (by kernel_rfl)) (fun _ _ _ h => h) (Or.inl ⟨by rfl, ?_⟩) hHeld ?_ ?_
              rotate_left
              ·rintro w' ⟨s0, s1, s2, s3, s4, s5, s6, s7, s8, s9, s10, s11, s12, s13, s14, s15, s16, s17, s18, s19, s20, s21, s22, s23, s24⟩
               go_simp
               with_reducible rfl
              rotate_left
              ·exact ap
              refine take_ (i := 27) (N := some 96) (v := ?_) (a' := ?_) (bt 75 268435455) rfl rfl (take_ofW HT_.out HW_.out (by kernel_rfl)) (fun _ _ _ h => h) (Or.inl ⟨by rfl, ?_⟩) hHeld ?_ ?_
              rotate_left
              ·rintro w' ⟨s0, s1, s2, s3, s4, s5, s6, s7, s8, s9, s10, s11, s12, s13, s14, s15, s16, s17, s18, s19, s20, s21, s22, s23, s24⟩
               go_simp
               with_reducible rfl
              rotate_left
              ·exact ap
              refine put 28 97 (bt 75 536870911) HT_ ?_
              refine put 29 98 (bt 75 1073741823) HT_ ?_
              refine take_ (i := 30) (N := some 99) (v := ?_) (a' := ?_) (bt 75 2147483647) rfl rfl (take_ofW HT_.out HW_.out (by kernel_rfl)) (fun _ _ _ h => h) (Or.inl ⟨by rfl, ?_⟩) hHeld ?_ ?_
              rotate_left
              ·rintro w' ⟨s0, s1, s2, s3, s4, s5, s6, s7, s8, s9, s10, s11, s12, s13, s14, s15, s16, s17, s18, s19, s20, s21, s22, s23, s24⟩
               go_simp
               with_reducible rfl
              rotate_left
              ·exact ap
              refine put 31 100 (bt 75 4294967295) HT_ ?_
              refine put 32 101 (bt 75 8589934591) HT_ ?_
              refine put 33 102 (bt 75 17179869183) HT_ ?_
              refine put 34 103 (bt 75 34359738367) HT_ ?_
              refine put 35 104 (bt 75 68719476735) HT_ ?_
              refine put 36 105 (bt 75 137438953471) HT_ ?_
              refine put 37 106 (bt 75 274877906943) HT_ ?_
              refine put 39 108 (bt 75 824633720831) HT_ ?_
              refine put 40 109 (bt 75 1924145348607) HT_ ?_
              refine put 41 110 (bt 75 4123168604159) HT_ ?_
              refine take_ (i := 38) (N := some 107) (v := ?_) (a' := ?_) (bt 75 4398046511103) rfl rfl (take_ofW HT_.out HW_.out (by kernel_rfl)) (fun _ _ _ h => h) (Or.inl ⟨by rfl, ?_⟩) hHeld ?_ ?_
              rotate_left
              ·rintro w' ⟨s0, s1, s2, s3, s4, s5, s6, s7, s8, s9, s10, s11, s12, s13, s14, s15, s16, s17, s18, s19, s20, s21, s22, s23, s24⟩
               go_simp
               with_reducible rfl
              rotate_left
              ·exact ap
              refine take_ (i := 42) (N := some 111) (v := ?_) (a' := ?_) (bt 75 8796093022207) rfl rfl (take_ofW HT_.out HW_.out (by kernel_rfl)) (fun _ _ _ h => h) (Or.inl ⟨by rfl, ?_⟩) hHeld ?_ ?_
              rotate_left
              ·rintro w' ⟨s0, s1, s2, s3, s4, s5, s6, s7, s8, s9, s10, s11, s12, s13, s14, s15, s16, s17, s18, s19, s20, s21, s22, s23, s24⟩
               go_simp
               with_reducible rfl
              rotate_left
              ·exact ap
              refine put 43 112 (bt 75 17592186044415) HT_ ?_
              refine put 44 113 (bt 75 35184372088831) HT_ ?_
              refine put 45 114 (bt 75 70368744177663) HT_ ?_
              refine put 46 115 (bt 75 140737488355327) HT_ ?_
              refine put 47 116 (bt 75 281474976710655) HT_ ?_
              refine put 48 117 (bt 75 562949953421311) HT_ ?_
              refine put 49 118 (bt 75 1125899906842623) HT_ ?_
              refine put 50 119 (bt 75 2251799813685247) HT_ ?_
              refine put 52 121 (bt 75 6755399441055743) HT_ ?_
              refine put 53 122 (bt 75 15762598695796735) HT_ ?_
              refine put 54 123 (bt 75 33776997205278719) HT_ ?_
              refine put 55 124 (bt 75 69805794224242687) HT_ ?_
              refine take_ (i := 51) (N := some 120) (v := ?_) (a' := ?_) (bt 75 72057594037927935) rfl rfl (take_ofW HT_.out HW_.out (by kernel_rfl)) (fun _ _ _ h => h) (Or.inl ⟨by rfl, ?_⟩) hHeld ?_ ?_
              rotate_left
              ·rintro w' ⟨s0, s1, s2, s3, s4, s5, s6, s7, s8, s9, s10, s11, s12, s13, s14, s15, s16, s17, s18, s19, s20, s21, s22, s23, s24⟩
               go_simp
               with_reducible rfl
              rotate_left
              ·exact ap
              refine take_ (i := 56) (N := some 125) (v := ?_) (a' := ?_) (bt 75 144115188075855871) rfl rfl (take_ofW HT_.out HW_.out (by kernel_rfl)) (fun _ _ _ h => h) (Or.inl ⟨by rfl, ?_⟩) hHeld ?_ ?_
              rotate_left
              ·rintro w' ⟨s0, s1, s2, s3, s4, s5, s6, s7, s8, s9, s10, s11, s12, s13, s14, s15, s16, s17, s18, s19, s20, s21, s22, s23, s24⟩
               go_simp
               with_reducible rfl
              rotate_left
              ·exact ap
              refine put 57 126 (bt 75 288230376151711743) HT_ ?_
              refine put 58 127 (bt 75 576460752303423487) HT_ ?_
              refine take_ (i := 59) (N := some 128) (v := ?_) (a' := ?_) (bt 75 1152921504606846975) rfl rfl (take_ofW HT_.out HW_.out (by kernel_rfl)) (fun _ _ _ h => h) (Or.inl ⟨by rfl, ?_⟩) hHeld ?_ ?_
              rotate_left
              ·rintro w' ⟨s0, s1, s2, s3, s4, s5, s6, s7, s8, s9, s10, s11, s12, s13, s14, s15, s16, s17, s18, s19, s20, s21, s22, s23, s24⟩
               go_simp
               with_reducible rfl
              rotate_left
              ·exact ap
              refine put 60 129 (bt 75 2305843009213693951) HT_ ?_
              refine put 61 130 (bt 75 4611686018427387903) HT_ ?_
              refine put 62 131 (bt 75 9223372036854775807) HT_ ?_
              refine pn 63 132 (bt 75 18446744073709551615) HT_ ?_
              refine pn 64 133 (bt 75 36893488147419103231) HT_ ?_
              refine pn 65 134 (bt 75 73786976294838206463) HT_ ?_
              refine pn 66 135 (bt 75 147573952589676412927) HT_ ?_
              refine pn 67 136 (bt 75 295147905179352825855) HT_ ?_
              refine pn 68 137 (bt 75 590295810358705651711) HT_ ?_
              refine pn 69 138 (bt 75 1180591620717411303423) HT_ ?_
              refine pn 70 139 (bt 75 2361183241434822606847) HT_ ?_
              refine pn 71 140 (bt 75 4722366482869645213695) HT_ ?_
              refine pn 72 141 (bt 75 9444732965739290427391) HT_ ?_
              refine put 73 142 (bt 75 18889465931478580854783) HT_ ?_
              refine put 74 143 (bt 75 37778931862957161709567) HT_ ?_
              refine done_ (done_of HT_.out (by kernel_rfl)) ?_
              try go_wp2
              go_roundg k2
              case measure => have := HJ5.out; have := HK2.out; omega
              case rel => exact ⟨(wrap64 (x8_2 + 1)), sc, H', ⟨a5_23⟩, ⟨sr HO_7⟩, ⟨sr HO_318000⟩, ⟨sr HO_324000⟩, ⟨sk BK317⟩, ⟨sk BK318⟩, ⟨sk BK323⟩, ⟨sbw⟩⟩
            ·obtain ⟨-, c65b0, c65b1, H⟩ | ⟨c65, c65b0, c65b1, H⟩ := ib_ H
             ·obtain rfl := Option.some.inj H
              obtain ⟨Ao66, co66, eo66⟩ := Kd.R_slice HO_7.out
              subst eo66
              try go_wp2
              replace HO_7 := am (Kd.R_drew HO_7.out)
              replace HO_318000 := am (Kd.R_drew HO_318000.out)
              replace HO_324000 := am (Kd.R_drew HO_324000.out)
              replace BK317 := am (blk_drew BK317.out)
              replace BK318 := am (blk_drew BK318.out)
              replace BK323 := am (blk_drew BK323.out)
              replace HB := am (below_drew1 HB.out)
              have q68 : (x8_2 : Int) ≤ ((t325.length : Int) : Int) := sa
              obtain ⟨i068, hi068, _, hsz68, _⟩ := info_parts info3
              have hroom68 : t325.length ≤ co66 := (Kd.R_reads' HO_7.out).2.1
              have hC68 : Kd.C (Kd.int .i64) _ Ao66 t325.length t325 := (Kd.R_reads' HO_7.out).2.2
              have hcut68 := cut_to (P := Try.prog) 34 3 .i64 Try.underlying34 hi068 Ao66 t325.length co66 x8_2 (sa) q68 hroom68
              have hr68 := Kd.C_take (m := (x8_2 : Int).toNat) hC68 (by omega)
              have hy68 : y328.length = (x8_2 : Int).toNat := a5_15
              rw [← Ny328.out] at hr68
              rw [← hy68] at hcut68
              have HR331 := am hr68
              have HC331 := am (show y328.length ≤ co66 from by omega)
              clear hr68 hC68 hroom68 hi068 hsz68
              have KY68 := am hy68
              clear hy68
              have KL68 := am (show (x8_2 : Int).toNat ≤ t325.length from by omega)
              replace q68 := eq_true q68
              have p332 : 0 ≤ (x8_2 : Int) := sa
              have q332 : x8_2 < (t325.length : Int) := sa
              obtain ⟨ad332, e332, hx332_0⟩ := Kd.at_int (Kd.R_reads' HO_7.out).2.2 x8_2 p332 q332
              cases e332
              replace p332 := eq_true p332
              replace q332 := eq_true q332
              have p334 : 0 ≤ ((ji49) : Int) := sa
              have q334 : (ji49) < (t325.length : Int) := sa
              obtain ⟨ad334, e334, hx334_0⟩ := Kd.at_int (Kd.R_reads' HO_7.out).2.2 (ji49) p334 q334
              obtain rfl : ad332 = ad334 := (by injection e334)
              replace p334 := eq_true p334
              replace q334 := eq_true q334
              have p335 : 0 ≤ ((rd t325 (ji49)) : Int) := sa
              have q335 : (rd t325 (ji49)) < (t319.length : Int) := sa
              obtain ⟨ad335, e335, hx335_0, hx335_1, hx335_2, hx335_3, hx335_4, hx335_5⟩ := at_T28 (Kd.R_reads' HO_324000.out).2.2 (rd t325 (ji49)) p335 q335
              cases e335
              replace p335 := eq_true p335
              replace q335 := eq_true q335
              have p336 : 0 ≤ (x8_2 : Int) := sa
              have q336 : x8_2 < (t325.length : Int) := sa
              obtain ⟨ad336, e336, hx336_0⟩ := Kd.at_int (Kd.R_reads' HO_7.out).2.2 x8_2 p336 q336
              obtain rfl : ad332 = ad336 := (by injection e336)
              replace p336 := eq_true p336
              replace q336 := eq_true q336
              have p337 : 0 ≤ ((rd t325 x8_2) : Int) := sa
              have q337 : (rd t325 x8_2) < (t319.length : Int) := sa
              obtain ⟨ad337, e337, hx337_0, hx337_1, hx337_2, hx337_3, hx337_4, hx337_5⟩ := at_T28 (Kd.R_reads' HO_324000.out).2.2 (rd t325 x8_2) p337 q337
              obtain rfl : ad335 = ad337 := (by injection e337)
              replace p337 := eq_true p337
              replace q337 := eq_true q337
              have p338 : 0 ≤ ((ji49) : Int) := sa
              have q338 : (ji49) < (t325.length : Int) := sa
              obtain ⟨ad338, e338, hx338_0⟩ := Kd.at_int (Kd.R_reads' HO_7.out).2.2 (ji49) p338 q338
              obtain rfl : ad332 = ad338 := (by injection e338)
              replace p338 := eq_true p338
              replace q338 := eq_true q338
              have p339 : 0 ≤ (x8_2 : Int) := sa
              have q339 : x8_2 < (t325.length : Int) := sa
              obtain ⟨ad339, e339, hx339_0⟩ := Kd.at_int (Kd.R_reads' HO_7.out).2.2 x8_2 p339 q339
              obtain rfl : ad332 = ad339 := (by injection e339)
              replace p339 := eq_true p339
              replace q339 := eq_true q339
              have p340 : 0 ≤ ((ji49) : Int) := sa
              have q340 : (ji49) < (t325.length : Int) := sa
              obtain ⟨ad340, e340, hx340_0⟩ := Kd.at_int (Kd.R_reads' HO_7.out).2.2 (ji49) p340 q340
              obtain rfl : ad332 = ad340 := (by injection e340)
              replace p340 := eq_true p340
              replace q340 := eq_true q340
              have p341 : 0 ≤ ((rd t325 (ji49)) : Int) := sa
              have q341 : (rd t325 (ji49)) < (t319.length : Int) := sa
              obtain ⟨ad341, e341, hx341_0, hx341_1, hx341_2, hx341_3, hx341_4, hx341_5⟩ := at_T28 (Kd.R_reads' HO_324000.out).2.2 (rd t325 (ji49)) p341 q341
              obtain rfl : ad335 = ad341 := (by injection e341)
              replace p341 := eq_true p341
              replace q341 := eq_true q341
              have p342 : 0 ≤ (x8_2 : Int) := sa
              have q342 : x8_2 < (t325.length : Int) := sa
              obtain ⟨ad342, e342, hx342_0⟩ := Kd.at_int (Kd.R_reads' HO_7.out).2.2 x8_2 p342 q342
              obtain rfl : ad332 = ad342 := (by injection e342)
              replace p342 := eq_true p342
              replace q342 := eq_true q342
              have p343 : 0 ≤ ((rd t325 x8_2) : Int) := sa
              have q343 : (rd t325 x8_2) < (t319.length : Int) := sa
              obtain ⟨ad343, e343, hx343_0, hx343_1, hx343_2, hx343_3, hx343_4, hx343_5⟩ := at_T28 (Kd.R_reads' HO_324000.out).2.2 (rd t325 x8_2) p343 q343
              obtain rfl : ad335 = ad343 := (by injection e343)
              replace p343 := eq_true p343
              replace q343 := eq_true q343
              as_aux_lemma =>
               refine start_ (n := 75) (S := fun w' => w'.cell? ⟨gb323, 0, none⟩ = some (.slice (some ad335) t319.length co16) ∧ w'.cell? (ad332.add (x8_2).toNat) = some (.int .i64 (rd t325 x8_2)) ∧ w'.cell? (ad332.add ((ji49)).toNat) = some (.int .i64 (rd t325 (ji49))) ∧ w'.cell? (ad335.add (((rd t325 (ji49))).toNat * 6)) = some (.int .i64 ((rd_T28 t319 (rd t325 (ji49))).f0)) ∧ w'.cell? ⟨(ad335.add (((rd t325 (ji49))).toNat * 6)).block, (ad335.add (((rd t325 (ji49))).toNat * 6)).off + 1, none⟩ = some (.int .i64 ((rd_T28 t319 (rd t325 (ji49))).f1)) ∧ w'.cell? ⟨(ad335.add (((rd t325 (ji49))).toNat * 6)).block, (ad335.add (((rd t325 (ji49))).toNat * 6)).off + 2, none⟩ = some (.int .i64 ((rd_T28 t319 (rd t325 (ji49))).f2)) ∧ w'.cell? ⟨(ad335.add (((rd t325 (ji49))).toNat * 6)).block, (ad335.add (((rd t325 (ji49))).toNat * 6)).off + 3, none⟩ = some (.int .i64 ((rd_T28 t319 (rd t325 (ji49))).f3)) ∧ w'.cell? ⟨(ad335.add (((rd t325 (ji49))).toNat * 6)).block, (ad335.add (((rd t325 (ji49))).toNat * 6)).off + 4, none⟩ = some (.int .i64 ((rd_T28 t319 (rd t325 (ji49))).f4)) ∧ w'.cell? ⟨(ad335.add (((rd t325 (ji49))).toNat * 6)).block, (ad335.add (((rd t325 (ji49))).toNat * 6)).off + 5, none⟩ = some (.int .i64 ((rd_T28 t319 (rd t325 (ji49))).f5)) ∧ w'.cell? (ad332.add (x8_2).toNat) = some (.int .i64 (rd t325 x8_2)) ∧ w'.cell? (ad335.add (((rd t325 x8_2)).toNat * 6)) = some (.int .i64 ((rd_T28 t319 (rd t325 x8_2)).f0)) ∧ w'.cell? ⟨(ad335.add (((rd t325 x8_2)).toNat * 6)).block, (ad335.add (((rd t325 x8_2)).toNat * 6)).off + 1, none⟩ = some (.int .i64 ((rd_T28 t319 (rd t325 x8_2)).f1)) ∧ w'.cell? ⟨(ad335.add (((rd t325 x8_2)).toNat * 6)).block, (ad335.add (((rd t325 x8_2)).toNat * 6)).off + 2, none⟩ = some (.int .i64 ((rd_T28 t319 (rd t325 x8_2)).f2)) ∧ w'.cell? ⟨(ad335.add (((rd t325 x8_2)).toNat * 6)).block, (ad335.add (((rd t325 x8_2)).toNat * 6)).off + 3, none⟩ = some (.int .i64 ((rd_T28 t319 (rd t325 x8_2)).f3)) ∧ w'.cell? ⟨(ad335.add (((rd t325 x8_2)).toNat * 6)).block, (ad335.add (((rd t325 x8_2)).toNat * 6)).off + 4, none⟩ = some (.int .i64 ((rd_T28 t319 (rd t325 x8_2)).f4)) ∧ w'.cell? ⟨(ad335.add (((rd t325 x8_2)).toNat * 6)).block, (ad335.add (((rd t325 x8_2)).toNat * 6)).off + 5, none⟩ = some (.int .i64 ((rd_T28 t319 (rd t325 x8_2)).f5)) ∧ w'.cell? (ad332.add ((ji49)).toNat) = some (.int .i64 (rd t325 (ji49))) ∧ w'.cell? (ad332.add (x8_2).toNat) = some (.int .i64 (rd t325 x8_2)) ∧ w'.cell? (ad332.add ((ji49)).toNat) = some (.int .i64 (rd t325 (ji49))) ∧ w'.cell? (ad335.add (((rd t325 (ji49))).toNat * 6)) = some (.int .i64 ((rd_T28 t319 (rd t325 (ji49))).f0)) ∧ w'.cell? ⟨(ad335.add (((rd t325 (ji49))).toNat * 6)).block, (ad335.add (((rd t325 (ji49))).toNat * 6)).off + 1, none⟩ = some (.int .i64 ((rd_T28 t319 (rd t325 (ji49))).f1)) ∧ w'.cell? ⟨(ad335.add (((rd t325 (ji49))).toNat * 6)).block, (ad335.add (((rd t325 (ji49))).toNat * 6)).off + 2, none⟩ = some (.int .i64 ((rd_T28 t319 (rd t325 (ji49))).f2)) ∧ w'.cell? ⟨(ad335.add (((rd t325 (ji49))).toNat * 6)).block, (ad335.add (((rd t325 (ji49))).toNat * 6)).off + 3, none⟩ = some (.int .i64 ((rd_T28 t319 (rd t325 (ji49))).f3)) ∧ w'.cell? ⟨(ad335.add (((rd t325 (ji49))).toNat * 6)).block, (ad335.add (((rd t325 (ji49))).toNat * 6)).off + 4, none⟩ = some (.int .i64 ((rd_T28 t319 (rd t325 (ji49))).f4)) ∧ w'.cell? ⟨(ad335.add (((rd t325 (ji49))).toNat * 6)).block, (ad335.add (((rd t325 (ji49))).toNat * 6)).off + 5, none⟩ = some (.int .i64 ((rd_T28 t319 (rd t325 (ji49))).f5)) ∧ w'.cell? (ad332.add (x8_2).toNat) = some (.int .i64 (rd t325 x8_2)) ∧ w'.cell? (ad335.add (((rd t325 x8_2)).toNat * 6)) = some (.int .i64 ((rd_T28 t319 (rd t325 x8_2)).f0)) ∧ w'.cell? ⟨(ad335.add (((rd t325 x8_2)).toNat * 6)).block, (ad335.add (((rd t325 x8_2)).toNat * 6)).off + 1, none⟩ = some (.int .i64 ((rd_T28 t319 (rd t325 x8_2)).f1)) ∧ w'.cell? ⟨(ad335.add (((rd t325 x8_2)).toNat * 6)).block, (ad335.add (((rd t325 x8_2)).toNat * 6)).off + 2, none⟩ = some (.int .i64 ((rd_T28 t319 (rd t325 x8_2)).f2)) ∧ w'.cell? ⟨(ad335.add (((rd t325 x8_2)).toNat * 6)).block, (ad335.add (((rd t325 x8_2)).toNat * 6)).off + 3, none⟩ = some (.int .i64 ((rd_T28 t319 (rd t325 x8_2)).f3)) ∧ w'.cell? ⟨(ad335.add (((rd t325 x8_2)).toNat * 6)).block, (ad335.add (((rd t325 x8_2)).toNat * 6)).off + 4, none⟩ = some (.int .i64 ((rd_T28 t319 (rd t325 x8_2)).f4)) ∧ w'.cell? ⟨(ad335.add (((rd t325 x8_2)).toNat * 6)).block, (ad335.add (((rd t325 x8_2)).toNat * 6)).off + 5, none⟩ = some (.int .i64 ((rd_T28 t319 (rd t325 x8_2)).f5))) (ds := []) #[false, false, false, false, false, false, false, false, false, false, false, false, false, false, false, false, false, false, false, false, false, false, false, false, false, false, false, false, false, false, false, false, false, false, false, false, false, false, false, false, false, false, false, false, false, false, false, false, false, false, false, false, false, false, false, false, false, false, false, false, false, false, false, false, false, false, false, false, false, false, false, false, false, false, false] (by kernel_rfl) rfl rfl ⟨bc0 BK323, hx332_0, hx334_0, hx335_0, hx335_1, hx335_2, hx335_3, hx335_4, hx335_5, hx336_0, hx337_0, hx337_1, hx337_2, hx337_3, hx337_4, hx337_5, hx338_0, hx339_0, hx340_0, hx341_0, hx341_1, hx341_2, hx341_3, hx341_4, hx341_5, hx342_0, hx343_0, hx343_1, hx343_2, hx343_3, hx343_4, hx343_5⟩ (fun hHeld => ?_); refine with_tabW laws_FnQueues.tab11 laws_FnQueues.bits11 (fun HT_ HW_ => ?_)
               generalize wr.drew = w67 at HO_7 HO_318000 HO_324000 BK317 BK318 BK323 HB HR331 hx332_0 hx334_0 hx335_0 hx335_1 hx335_2 hx335_3 hx335_4 hx335_5 hx336_0 hx337_0 hx337_1 hx337_2 hx337_3 hx337_4 hx337_5 hx338_0 hx339_0 hx340_0 hx341_0 hx341_1 hx341_2 hx341_3 hx341_4 hx341_5 hx342_0 hx343_0 hx343_1 hx343_2 hx343_3 hx343_4 hx343_5 hHeld ⊢
               refine put 0 69 (bt 75 1) HT_ ?_
               refine put 1 70 (bt 75 3) HT_ ?_
               refine put 2 71 (bt 75 7) HT_ ?_
               refine put 3 72 (bt 75 15) HT_ ?_
               refine put 4 73 (bt 75 31) HT_ ?_
               refine put 5 74 (bt 75 63) HT_ ?_
               refine take_ (i := 6) (N := some 75) (v := ?_) (a' := ?_) (bt 75 127) rfl rfl (take_ofW HT_.out HW_.out (by kernel_rfl)) (fun _ _ _ h => h) (Or.inl ⟨by rfl, ?_⟩) hHeld ?_ ?_
               rotate_left
               ·rintro w' ⟨s0, s1, s2, s3, s4, s5, s6, s7, s8, s9, s10, s11, s12, s13, s14, s15, s16, s17, s18, s19, s20, s21, s22, s23, s24, s25, s26, s27, s28, s29, s30, s31⟩
                go_simp
                with_reducible rfl
               rotate_left
               ·exact ap
               refine on 7 76 (bt 75 255) HT_ (fun K hK => ?_)
               refine goes_ Try.func9 (by kernel_rfl) rfl #[.slice (some ad332) y328.length co66, .int .i64 (rd t325 x8_2)] (by rfl) rfl rfl sl ?_
               with_reducible refine (laws_contains.calls k2 _ _ y328 (rd t325 x8_2) false _ ?side1 ?side2 A43.out).mono ?_
               (case side1 => repeat (first | exact (cq HR331) | (with_reducible refine Kd.C_alloc ?_ _) | (with_reducible refine Kd.C_drewN ?_ _) | (with_reducible refine Kd.C_drew ?_)))
               (case side2 => exact HC331.out)
               rintro e w' ⟨rfl, ⟨nd, rfl⟩⟩
               refine ⟨_, rfl, ?_⟩
               refine hK.out _ _ ⟨bc0 BK323, hHeld.2.1, hHeld.2.2.1, hHeld.2.2.2.1, hHeld.2.2.2.2.1, hHeld.2.2.2.2.2.1, hHeld.2.2.2.2.2.2.1, hHeld.2.2.2.2.2.2.2.1, hHeld.2.2.2.2.2.2.2.2.1, hHeld.2.2.2.2.2.2.2.2.2.1, hHeld.2.2.2.2.2.2.2.2.2.2.1, hHeld.2.2.2.2.2.2.2.2.2.2.2.1, hHeld.2.2.2.2.2.2.2.2.2.2.2.2.1, hHeld.2.2.2.2.2.2.2.2.2.2.2.2.2.1, hHeld.2.2.2.2.2.2.2.2.2.2.2.2.2.2.1, hHeld.2.2.2.2.2.2.2.2.2.2.2.2.2.2.2.1, hHeld.2.2.2.2.2.2.2.2.2.2.2.2.2.2.2.2.1, hHeld.2.2.2.2.2.2.2.2.2.2.2.2.2.2.2.2.2.1, hHeld.2.2.2.2.2.2.2.2.2.2.2.2.2.2.2.2.2.2.1, hHeld.2.2.2.2.2.2.2.2.2.2.2.2.2.2.2.2.2.2.2.1, hHeld.2.2.2.2.2.2.2.2.2.2.2.2.2.2.2.2.2.2.2.2.1, hHeld.2.2.2.2.2.2.2.2.2.2.2.2.2.2.2.2.2.2.2.2.2.1, hHeld.2.2.2.2.2.2.2.2.2.2.2.2.2.2.2.2.2.2.2.2.2.2.1, hHeld.2.2.2.2.2.2.2.2.2.2.2.2.2.2.2.2.2.2.2.2.2.2.2.1, hHeld.2.2.2.2.2.2.2.2.2.2.2.2.2.2.2.2.2.2.2.2.2.2.2.2.1, hHeld.2.2.2.2.2.2.2.2.2.2.2.2.2.2.2.2.2.2.2.2.2.2.2.2.2.1, hHeld.2.2.2.2.2.2.2.2.2.2.2.2.2.2.2.2.2.2.2.2.2.2.2.2.2.2.1, hHeld.2.2.2.2.2.2.2.2.2.2.2.2.2.2.2.2.2.2.2.2.2.2.2.2.2.2.2.1, hHeld.2.2.2.2.2.2.2.2.2.2.2.2.2.2.2.2.2.2.2.2.2.2.2.2.2.2.2.2.1, hHeld.2.2.2.2.2.2.2.2.2.2.2.2.2.2.2.2.2.2.2.2.2.2.2.2.2.2.2.2.2.1, hHeld.2.2.2.2.2.2.2.2.2.2.2.2.2.2.2.2.2.2.2.2.2.2.2.2.2.2.2.2.2.2.1, hHeld.2.2.2.2.2.2.2.2.2.2.2.2.2.2.2.2.2.2.2.2.2.2.2.2.2.2.2.2.2.2.2⟩ (fun hHeld => ?_)
               clear hK K
               refine nm 76 ?_
               refine put 8 77 (bt 75 511) HT_ ?_
               refine put 9 78 (bt 75 1023) HT_ ?_
               refine put 10 79 (bt 75 2047) HT_ ?_
               refine put 11 80 (bt 75 4095) HT_ ?_
               refine put 12 81 (bt 75 8191) HT_ ?_
               refine put 14 83 (bt 75 24575) HT_ ?_
               refine put 15 84 (bt 75 57343) HT_ ?_
               refine put 16 85 (bt 75 122879) HT_ ?_
               refine put 17 86 (bt 75 253951) HT_ ?_
               refine put 22 91 (bt 75 4448255) HT_ ?_
               refine put 24 93 (bt 75 21225471) HT_ ?_
               refine put 25 94 (bt 75 54779903) HT_ ?_
               refine put 26 95 (bt 75 121888767) HT_ ?_
               refine take_ (i := 13) (N := some 82) (v := ?_) (a' := ?_) (bt 75 121896959) rfl rfl (take_ofW HT_.out HW_.out (by kernel_rfl)) (fun _ _ _ h => h) (Or.inl ⟨by rfl, ?_⟩) hHeld ?_ ?_
               rotate_left
               ·rintro w' ⟨s0, s1, s2, s3, s4, s5, s6, s7, s8, s9, s10, s11, s12, s13, s14, s15, s16, s17, s18, s19, s20, s21, s22, s23, s24, s25, s26, s27, s28, s29, s30, s31⟩
                go_simp
                with_reducible rfl
               rotate_left
               ·exact ap
               refine take_ (i := 18) (N := some 87) (v := ?_) (a' := ?_) (bt 75 122159103) rfl rfl (take_ofW HT_.out HW_.out (by kernel_rfl)) (fun _ _ _ h => h) (Or.inl ⟨by rfl, ?_⟩) hHeld ?_ ?_
               rotate_left
               ·rintro w' ⟨s0, s1, s2, s3, s4, s5, s6, s7, s8, s9, s10, s11, s12, s13, s14, s15, s16, s17, s18, s19, s20, s21, s22, s23, s24, s25, s26, s27, s28, s29, s30, s31⟩
                go_simp
                with_reducible rfl
               rotate_left
               ·exact ap
               refine put 19 88 (bt 75 122683391) HT_ ?_
               refine put 20 89 (bt 75 123731967) HT_ ?_
               refine take_ (i := 21) (N := some 90) (v := ?_) (a' := ?_) (bt 75 125829119) rfl rfl (take_ofW HT_.out HW_.out (by kernel_rfl)) (fun _ _ _ h => h) (Or.inl ⟨by rfl, ?_⟩) hHeld ?_ ?_
               rotate_left
               ·rintro w' ⟨s0, s1, s2, s3, s4, s5, s6, s7, s8, s9, s10, s11, s12, s13, s14, s15, s16, s17, s18, s19, s20, s21, s22, s23, s24, s25, s26, s27, s28, s29, s30, s31⟩
                go_simp
                with_reducible rfl
               rotate_left
               ·exact ap
               refine take_ (i := 23) (N := some 92) (v := ?_) (a' := ?_) (bt 75 134217727) rfl rfl (take_ofW HT_.out HW_.out (by kernel_rfl)) (fun _ _ _ h => h) (Or.inl ⟨by rfl, ?_⟩) hHeld ?_ ?_
               rotate_left
               ·rintro w' ⟨s0, s1, s2, s3, s4, s5, s6, s7, s8, s9, s10, s11, s12, s13, s14, s15, s16, s17, s18, s19, s20, s21, s22, s23, s24, s25, s26, s27, s28, s29, s30, s31⟩
                go_simp
                with_reducible rfl
               rotate_left
               ·exact ap
               refine take_ (i := 27) (N := some 96) (v := ?_) (a' := ?_) (bt 75 268435455) rfl rfl (take_ofW HT_.out HW_.out (by kernel_rfl)) (fun _ _ _ h => h) (Or.inl ⟨by rfl, ?_⟩) hHeld ?_ ?_
               rotate_left
               ·rintro w' ⟨s0, s1, s2, s3, s4, s5, s6, s7, s8, s9, s10, s11, s12, s13, s14, s15, s16, s17, s18, s19, s20, s21, s22, s23, s24, s25, s26, s27, s28, s29, s30, s31⟩
                go_simp
                with_reducible rfl
               rotate_left
               ·exact ap
               refine put 28 97 (bt 75 536870911) HT_ ?_
               refine put 29 98 (bt 75 1073741823) HT_ ?_
               refine take_ (i := 30) (N := some 99) (v := ?_) (a' := ?_) (bt 75 2147483647) rfl rfl (take_ofW HT_.out HW_.out (by kernel_rfl)) (fun _ _ _ h => h) (Or.inl ⟨by rfl, ?_⟩) hHeld ?_ ?_
               rotate_left
               ·rintro w' ⟨s0, s1, s2, s3, s4, s5, s6, s7, s8, s9, s10, s11, s12, s13, s14, s15, s16, s17, s18, s19, s20, s21, s22, s23, s24, s25, s26, s27, s28, s29, s30, s31⟩
                go_simp
                with_reducible rfl
               rotate_left
               ·exact ap
               refine put 31 100 (bt 75 4294967295) HT_ ?_
               refine put 32 101 (bt 75 8589934591) HT_ ?_
               refine put 33 102 (bt 75 17179869183) HT_ ?_
               refine put 34 103 (bt 75 34359738367) HT_ ?_
               refine put 35 104 (bt 75 68719476735) HT_ ?_
               refine put 36 105 (bt 75 137438953471) HT_ ?_
               refine put 37 106 (bt 75 274877906943) HT_ ?_
               refine put 39 108 (bt 75 824633720831) HT_ ?_
               refine put 40 109 (bt 75 1924145348607) HT_ ?_
               refine put 41 110 (bt 75 4123168604159) HT_ ?_
               refine take_ (i := 38) (N := some 107) (v := ?_) (a' := ?_) (bt 75 4398046511103) rfl rfl (take_ofW HT_.out HW_.out (by kernel_rfl)) (fun _ _ _ h => h) (Or.inl ⟨by rfl, ?_⟩) hHeld ?_ ?_
               rotate_left
               ·rintro w' ⟨s0, s1, s2, s3, s4, s5, s6, s7, s8, s9, s10, s11, s12, s13, s14, s15, s16, s17, s18, s19, s20, s21, s22, s23, s24, s25, s26, s27, s28, s29, s30, s31⟩
                go_simp
                with_reducible rfl
               rotate_left
               ·exact ap
               refine take_ (i := 42) (N := some 111) (v := ?_) (a' := ?_) (bt 75 8796093022207) rfl rfl (take_ofW HT_.out HW_.out (by kernel_rfl)) (fun _ _ _ h => h) (Or.inl ⟨by rfl, ?_⟩) hHeld ?_ ?_
               rotate_left
               ·rintro w' ⟨s0, s1, s2, s3, s4, s5, s6, s7, s8, s9, s10, s11, s12, s13, s14, s15, s16, s17, s18, s19, s20, s21, s22, s23, s24, s25, s26, s27, s28, s29, s30, s31⟩
                go_simp
                with_reducible rfl
               rotate_left
               ·exact ap
               refine put 43 112 (bt 75 17592186044415) HT_ ?_
               refine put 44 113 (bt 75 35184372088831) HT_ ?_
               refine put 45 114 (bt 75 70368744177663) HT_ ?_
               refine put 46 115 (bt 75 140737488355327) HT_ ?_
               refine put 47 116 (bt 75 281474976710655) HT_ ?_
               refine put 48 117 (bt 75 562949953421311) HT_ ?_
               refine put 49 118 (bt 75 1125899906842623) HT_ ?_
               refine put 50 119 (bt 75 2251799813685247) HT_ ?_
               refine put 52 121 (bt 75 6755399441055743) HT_ ?_
               refine put 53 122 (bt 75 15762598695796735) HT_ ?_
               refine put 54 123 (bt 75 33776997205278719) HT_ ?_
               refine put 55 124 (bt 75 69805794224242687) HT_ ?_
               refine take_ (i := 51) (N := some 120) (v := ?_) (a' := ?_) (bt 75 72057594037927935) rfl rfl (take_ofW HT_.out HW_.out (by kernel_rfl)) (fun _ _ _ h => h) (Or.inl ⟨by rfl, ?_⟩) hHeld ?_ ?_
               rotate_left
               ·rintro w' ⟨s0, s1, s2, s3, s4, s5, s6, s7, s8, s9, s10, s11, s12, s13, s14, s15, s16, s17, s18, s19, s20, s21, s22, s23, s24, s25, s26, s27, s28, s29, s30, s31⟩
                go_simp
                with_reducible rfl
               rotate_left
               ·exact ap
               refine take_ (i := 56) (N := some 125) (v := ?_) (a' := ?_) (bt 75 144115188075855871) rfl rfl (take_ofW HT_.out HW_.out (by kernel_rfl)) (fun _ _ _ h => h) (Or.inl ⟨by rfl, ?_⟩) hHeld ?_ ?_
               rotate_left
               ·rintro w' ⟨s0, s1, s2, s3, s4, s5, s6, s7, s8, s9, s10, s11, s12, s13, s14, s15, s16, s17, s18, s19, s20, s21, s22, s23, s24, s25, s26, s27, s28, s29, s30, s31⟩
                go_simp
                with_reducible rfl
               rotate_left
               ·exact ap
               refine put 57 126 (bt 75 288230376151711743) HT_ ?_
               refine put 58 127 (bt 75 576460752303423487) HT_ ?_
               refine take_ (i := 59) (N := some 128) (v := ?_) (a' := ?_) (bt 75 1152921504606846975) rfl rfl (take_ofW HT_.out HW_.out (by kernel_rfl)) (fun _ _ _ h => h) (Or.inl ⟨by rfl, ?_⟩) hHeld ?_ ?_
               rotate_left
               ·rintro w' ⟨s0, s1, s2, s3, s4, s5, s6, s7, s8, s9, s10, s11, s12, s13, s14, s15, s16, s17, s18, s19, s20, s21, s22, s23, s24, s25, s26, s27, s28, s29, s30, s31⟩
                go_simp
                with_reducible rfl
               rotate_left
               ·exact ap
               refine put 60 129 (bt 75 2305843009213693951) HT_ ?_
               refine put 61 130 (bt 75 4611686018427387903) HT_ ?_
               refine put 62 131 (bt 75 9223372036854775807) HT_ ?_
               refine put 63 132 (bt 75 18446744073709551615) HT_ ?_
               refine put 65 134 (bt 75 55340232221128654847) HT_ ?_
               refine put 66 135 (bt 75 129127208515966861311) HT_ ?_
               refine put 67 136 (bt 75 276701161105643274239) HT_ ?_
               refine take_ (i := 64) (N := some 133) (v := ?_) (a' := ?_) (bt 75 295147905179352825855) rfl rfl (take_ofW HT_.out HW_.out (by kernel_rfl)) (fun _ _ _ h => h) (Or.inl ⟨by rfl, ?_⟩) hHeld ?_ ?_
               rotate_left
               ·rintro w' ⟨s0, s1, s2, s3, s4, s5, s6, s7, s8, s9, s10, s11, s12, s13, s14, s15, s16, s17, s18, s19, s20, s21, s22, s23, s24, s25, s26, s27, s28, s29, s30, s31⟩
                go_simp
                with_reducible rfl
               rotate_left
               ·exact ap
               refine take_ (i := 68) (N := some 137) (v := ?_) (a' := ?_) (bt 75 590295810358705651711) rfl rfl (take_ofW HT_.out HW_.out (by kernel_rfl)) (fun _ _ _ h => h) (Or.inl ⟨by rfl, ?_⟩) hHeld ?_ ?_
               rotate_left
               ·rintro w' ⟨s0, s1, s2, s3, s4, s5, s6, s7, s8, s9, s10, s11, s12, s13, s14, s15, s16, s17, s18, s19, s20, s21, s22, s23, s24, s25, s26, s27, s28, s29, s30, s31⟩
                go_simp
                with_reducible rfl
               rotate_left
               ·exact ap
               refine put 69 138 (bt 75 1180591620717411303423) HT_ ?_
               refine put 70 139 (bt 75 2361183241434822606847) HT_ ?_
               refine take_ (i := 71) (N := some 140) (v := ?_) (a' := ?_) (bt 75 4722366482869645213695) rfl rfl (take_ofW HT_.out HW_.out (by kernel_rfl)) (fun _ _ _ h => h) (Or.inl ⟨by rfl, ?_⟩) hHeld ?_ ?_
               rotate_left
               ·rintro w' ⟨s0, s1, s2, s3, s4, s5, s6, s7, s8, s9, s10, s11, s12, s13, s14, s15, s16, s17, s18, s19, s20, s21, s22, s23, s24, s25, s26, s27, s28, s29, s30, s31⟩
                go_simp
                with_reducible rfl
               rotate_left
               ·exact ap
               refine put 72 141 (bt 75 9444732965739290427391) HT_ ?_
               refine put 73 142 (bt 75 18889465931478580854783) HT_ ?_
               refine put 74 143 (bt 75 37778931862957161709567) HT_ ?_
               refine done_ (done_of HT_.out (by kernel_rfl)) ?_
               try go_wp2
               go_ret
               exact ⟨a5_14, sbw⟩
             ·have H' := am H
              clear H
              obtain ⟨Ao69, co69, eo69⟩ := Kd.R_slice HO_7.out
              subst eo69
              try go_wp2
              replace HO_7 := am (Kd.R_drew HO_7.out)
              replace HO_318000 := am (Kd.R_drew HO_318000.out)
              replace HO_324000 := am (Kd.R_drew HO_324000.out)
              replace BK317 := am (blk_drew BK317.out)
              replace BK318 := am (blk_drew BK318.out)
              replace BK323 := am (blk_drew BK323.out)
              replace HB := am (below_drew1 HB.out)
              have q71 : (x8_2 : Int) ≤ ((t325.length : Int) : Int) := sa
              obtain ⟨i071, hi071, _, hsz71, _⟩ := info_parts info3
              have hroom71 : t325.length ≤ co69 := (Kd.R_reads' HO_7.out).2.1
              have hC71 : Kd.C (Kd.int .i64) _ Ao69 t325.length t325 := (Kd.R_reads' HO_7.out).2.2
              have hcut71 := cut_to (P := Try.prog) 34 3 .i64 Try.underlying34 hi071 Ao69 t325.length co69 x8_2 (sa) q71 hroom71
              have hr71 := Kd.C_take (m := (x8_2 : Int).toNat) hC71 (by omega)
              have hy71 : y328.length = (x8_2 : Int).toNat := a5_15
              rw [← Ny328.out] at hr71
              rw [← hy71] at hcut71
              have HR331 := am hr71
              have HC331 := am (show y328.length ≤ co69 from by omega)
              clear hr71 hC71 hroom71 hi071 hsz71
              have KY71 := am hy71
              clear hy71
              have KL71 := am (show (x8_2 : Int).toNat ≤ t325.length from by omega)
              replace q71 := eq_true q71
              have p332 : 0 ≤ (x8_2 : Int) := sa
              have q332 : x8_2 < (t325.length : Int) := sa
              obtain ⟨ad332, e332, hx332_0⟩ := Kd.at_int (Kd.R_reads' HO_7.out).2.2 x8_2 p332 q332
              cases e332
              replace p332 := eq_true p332
              replace q332 := eq_true q332
              have p334 : 0 ≤ ((ji49) : Int) := sa
              have q334 : (ji49) < (t325.length : Int) := sa
              obtain ⟨ad334, e334, hx334_0⟩ := Kd.at_int (Kd.R_reads' HO_7.out).2.2 (ji49) p334 q334
              obtain rfl : ad332 = ad334 := (by injection e334)
              replace p334 := eq_true p334
              replace q334 := eq_true q334
              have p335 : 0 ≤ ((rd t325 (ji49)) : Int) := sa
              have q335 : (rd t325 (ji49)) < (t319.length : Int) := sa
              obtain ⟨ad335, e335, hx335_0, hx335_1, hx335_2, hx335_3, hx335_4, hx335_5⟩ := at_T28 (Kd.R_reads' HO_324000.out).2.2 (rd t325 (ji49)) p335 q335
              cases e335
              replace p335 := eq_true p335
              replace q335 := eq_true q335
              have p336 : 0 ≤ (x8_2 : Int) := sa
              have q336 : x8_2 < (t325.length : Int) := sa
              obtain ⟨ad336, e336, hx336_0⟩ := Kd.at_int (Kd.R_reads' HO_7.out).2.2 x8_2 p336 q336
              obtain rfl : ad332 = ad336 := (by injection e336)
              replace p336 := eq_true p336
              replace q336 := eq_true q336
              have p337 : 0 ≤ ((rd t325 x8_2) : Int) := sa
              have q337 : (rd t325 x8_2) < (t319.length : Int) := sa
              obtain ⟨ad337, e337, hx337_0, hx337_1, hx337_2, hx337_3, hx337_4, hx337_5⟩ := at_T28 (Kd.R_reads' HO_324000.out).2.2 (rd t325 x8_2) p337 q337
              obtain rfl : ad335 = ad337 := (by injection e337)
              replace p337 := eq_true p337
              replace q337 := eq_true q337
              have p338 : 0 ≤ ((ji49) : Int) := sa
              have q338 : (ji49) < (t325.length : Int) := sa
              obtain ⟨ad338, e338, hx338_0⟩ := Kd.at_int (Kd.R_reads' HO_7.out).2.2 (ji49) p338 q338
              obtain rfl : ad332 = ad338 := (by injection e338)
              replace p338 := eq_true p338
              replace q338 := eq_true q338
              have p339 : 0 ≤ (x8_2 : Int) := sa
              have q339 : x8_2 < (t325.length : Int) := sa
              obtain ⟨ad339, e339, hx339_0⟩ := Kd.at_int (Kd.R_reads' HO_7.out).2.2 x8_2 p339 q339
              obtain rfl : ad332 = ad339 := (by injection e339)
              replace p339 := eq_true p339
              replace q339 := eq_true q339
              have p340 : 0 ≤ ((ji49) : Int) := sa
              have q340 : (ji49) < (t325.length : Int) := sa
              obtain ⟨ad340, e340, hx340_0⟩ := Kd.at_int (Kd.R_reads' HO_7.out).2.2 (ji49) p340 q340
              obtain rfl : ad332 = ad340 := (by injection e340)
              replace p340 := eq_true p340
              replace q340 := eq_true q340
              have p341 : 0 ≤ ((rd t325 (ji49)) : Int) := sa
              have q341 : (rd t325 (ji49)) < (t319.length : Int) := sa
              obtain ⟨ad341, e341, hx341_0, hx341_1, hx341_2, hx341_3, hx341_4, hx341_5⟩ := at_T28 (Kd.R_reads' HO_324000.out).2.2 (rd t325 (ji49)) p341 q341
              obtain rfl : ad335 = ad341 := (by injection e341)
              replace p341 := eq_true p341
              replace q341 := eq_true q341
              have p342 : 0 ≤ (x8_2 : Int) := sa
              have q342 : x8_2 < (t325.length : Int) := sa
              obtain ⟨ad342, e342, hx342_0⟩ := Kd.at_int (Kd.R_reads' HO_7.out).2.2 x8_2 p342 q342
              obtain rfl : ad332 = ad342 := (by injection e342)
              replace p342 := eq_true p342
              replace q342 := eq_true q342
              have p343 : 0 ≤ ((rd t325 x8_2) : Int) := sa
              have q343 : (rd t325 x8_2) < (t319.length : Int) := sa
              obtain ⟨ad343, e343, hx343_0, hx343_1, hx343_2, hx343_3, hx343_4, hx343_5⟩ := at_T28 (Kd.R_reads' HO_324000.out).2.2 (rd t325 x8_2) p343 q343
              obtain rfl : ad335 = ad343 := (by injection e343)
              replace p343 := eq_true p343
              replace q343 := eq_true q343
              as_aux_lemma =>
               refine start_ (n := 75) (S := fun w' => w'.cell? ⟨gb323, 0, none⟩ = some (.slice (some ad335) t319.length co16) ∧ w'.cell? (ad332.add (x8_2).toNat) = some (.int .i64 (rd t325 x8_2)) ∧ w'.cell? (ad332.add ((ji49)).toNat) = some (.int .i64 (rd t325 (ji49))) ∧ w'.cell? (ad335.add (((rd t325 (ji49))).toNat * 6)) = some (.int .i64 ((rd_T28 t319 (rd t325 (ji49))).f0)) ∧ w'.cell? ⟨(ad335.add (((rd t325 (ji49))).toNat * 6)).block, (ad335.add (((rd t325 (ji49))).toNat * 6)).off + 1, none⟩ = some (.int .i64 ((rd_T28 t319 (rd t325 (ji49))).f1)) ∧ w'.cell? ⟨(ad335.add (((rd t325 (ji49))).toNat * 6)).block, (ad335.add (((rd t325 (ji49))).toNat * 6)).off + 2, none⟩ = some (.int .i64 ((rd_T28 t319 (rd t325 (ji49))).f2)) ∧ w'.cell? ⟨(ad335.add (((rd t325 (ji49))).toNat * 6)).block, (ad335.add (((rd t325 (ji49))).toNat * 6)).off + 3, none⟩ = some (.int .i64 ((rd_T28 t319 (rd t325 (ji49))).f3)) ∧ w'.cell? ⟨(ad335.add (((rd t325 (ji49))).toNat * 6)).block, (ad335.add (((rd t325 (ji49))).toNat * 6)).off + 4, none⟩ = some (.int .i64 ((rd_T28 t319 (rd t325 (ji49))).f4)) ∧ w'.cell? ⟨(ad335.add (((rd t325 (ji49))).toNat * 6)).block, (ad335.add (((rd t325 (ji49))).toNat * 6)).off + 5, none⟩ = some (.int .i64 ((rd_T28 t319 (rd t325 (ji49))).f5)) ∧ w'.cell? (ad332.add (x8_2).toNat) = some (.int .i64 (rd t325 x8_2)) ∧ w'.cell? (ad335.add (((rd t325 x8_2)).toNat * 6)) = some (.int .i64 ((rd_T28 t319 (rd t325 x8_2)).f0)) ∧ w'.cell? ⟨(ad335.add (((rd t325 x8_2)).toNat * 6)).block, (ad335.add (((rd t325 x8_2)).toNat * 6)).off + 1, none⟩ = some (.int .i64 ((rd_T28 t319 (rd t325 x8_2)).f1)) ∧ w'.cell? ⟨(ad335.add (((rd t325 x8_2)).toNat * 6)).block, (ad335.add (((rd t325 x8_2)).toNat * 6)).off + 2, none⟩ = some (.int .i64 ((rd_T28 t319 (rd t325 x8_2)).f2)) ∧ w'.cell? ⟨(ad335.add (((rd t325 x8_2)).toNat * 6)).block, (ad335.add (((rd t325 x8_2)).toNat * 6)).off + 3, none⟩ = some (.int .i64 ((rd_T28 t319 (rd t325 x8_2)).f3)) ∧ w'.cell? ⟨(ad335.add (((rd t325 x8_2)).toNat * 6)).block, (ad335.add (((rd t325 x8_2)).toNat * 6)).off + 4, none⟩ = some (.int .i64 ((rd_T28 t319 (rd t325 x8_2)).f4)) ∧ w'.cell? ⟨(ad335.add (((rd t325 x8_2)).toNat * 6)).block, (ad335.add (((rd t325 x8_2)).toNat * 6)).off + 5, none⟩ = some (.int .i64 ((rd_T28 t319 (rd t325 x8_2)).f5)) ∧ w'.cell? (ad332.add ((ji49)).toNat) = some (.int .i64 (rd t325 (ji49))) ∧ w'.cell? (ad332.add (x8_2).toNat) = some (.int .i64 (rd t325 x8_2)) ∧ w'.cell? (ad332.add ((ji49)).toNat) = some (.int .i64 (rd t325 (ji49))) ∧ w'.cell? (ad335.add (((rd t325 (ji49))).toNat * 6)) = some (.int .i64 ((rd_T28 t319 (rd t325 (ji49))).f0)) ∧ w'.cell? ⟨(ad335.add (((rd t325 (ji49))).toNat * 6)).block, (ad335.add (((rd t325 (ji49))).toNat * 6)).off + 1, none⟩ = some (.int .i64 ((rd_T28 t319 (rd t325 (ji49))).f1)) ∧ w'.cell? ⟨(ad335.add (((rd t325 (ji49))).toNat * 6)).block, (ad335.add (((rd t325 (ji49))).toNat * 6)).off + 2, none⟩ = some (.int .i64 ((rd_T28 t319 (rd t325 (ji49))).f2)) ∧ w'.cell? ⟨(ad335.add (((rd t325 (ji49))).toNat * 6)).block, (ad335.add (((rd t325 (ji49))).toNat * 6)).off + 3, none⟩ = some (.int .i64 ((rd_T28 t319 (rd t325 (ji49))).f3)) ∧ w'.cell? ⟨(ad335.add (((rd t325 (ji49))).toNat * 6)).block, (ad335.add (((rd t325 (ji49))).toNat * 6)).off + 4, none⟩ = some (.int .i64 ((rd_T28 t319 (rd t325 (ji49))).f4)) ∧ w'.cell? ⟨(ad335.add (((rd t325 (ji49))).toNat * 6)).block, (ad335.add (((rd t325 (ji49))).toNat * 6)).off + 5, none⟩ = some (.int .i64 ((rd_T28 t319 (rd t325 (ji49))).f5)) ∧ w'.cell? (ad332.add (x8_2).toNat) = some (.int .i64 (rd t325 x8_2)) ∧ w'.cell? (ad335.add (((rd t325 x8_2)).toNat * 6)) = some (.int .i64 ((rd_T28 t319 (rd t325 x8_2)).f0)) ∧ w'.cell? ⟨(ad335.add (((rd t325 x8_2)).toNat * 6)).block, (ad335.add (((rd t325 x8_2)).toNat * 6)).off + 1, none⟩ = some (.int .i64 ((rd_T28 t319 (rd t325 x8_2)).f1)) ∧ w'.cell? ⟨(ad335.add (((rd t325 x8_2)).toNat * 6)).block, (ad335.add (((rd t325 x8_2)).toNat * 6)).off + 2, none⟩ = some (.int .i64 ((rd_T28 t319 (rd t325 x8_2)).f2)) ∧ w'.cell? ⟨(ad335.add (((rd t325 x8_2)).toNat * 6)).block, (ad335.add (((rd t325 x8_2)).toNat * 6)).off + 3, none⟩ = some (.int .i64 ((rd_T28 t319 (rd t325 x8_2)).f3)) ∧ w'.cell? ⟨(ad335.add (((rd t325 x8_2)).toNat * 6)).block, (ad335.add (((rd t325 x8_2)).toNat * 6)).off + 4, none⟩ = some (.int .i64 ((rd_T28 t319 (rd t325 x8_2)).f4)) ∧ w'.cell? ⟨(ad335.add (((rd t325 x8_2)).toNat * 6)).block, (ad335.add (((rd t325 x8_2)).toNat * 6)).off + 5, none⟩ = some (.int .i64 ((rd_T28 t319 (rd t325 x8_2)).f5))) (ds := []) #[false, false, false, false, false, false, false, false, false, false, false, false, false, false, false, false, false, false, false, false, false, false, false, false, false, false, false, false, false, false, false, false, false, false, false, false, false, false, false, false, false, false, false, false, false, false, false, false, false, false, false, false, false, false, false, false, false, false, false, false, false, false, false, false, false, false, false, false, false, false, false, false, false, false, false] (by kernel_rfl) rfl rfl ⟨bc0 BK323, hx332_0, hx334_0, hx335_0, hx335_1, hx335_2, hx335_3, hx335_4, hx335_5, hx336_0, hx337_0, hx337_1, hx337_2, hx337_3, hx337_4, hx337_5, hx338_0, hx339_0, hx340_0, hx341_0, hx341_1, hx341_2, hx341_3, hx341_4, hx341_5, hx342_0, hx343_0, hx343_1, hx343_2, hx343_3, hx343_4, hx343_5⟩ (fun hHeld => ?_); refine with_tabW laws_FnQueues.tab11 laws_FnQueues.bits11 (fun HT_ HW_ => ?_)
               generalize wr.drew = w70 at HO_7 HO_318000 HO_324000 BK317 BK318 BK323 HB HR331 hx332_0 hx334_0 hx335_0 hx335_1 hx335_2 hx335_3 hx335_4 hx335_5 hx336_0 hx337_0 hx337_1 hx337_2 hx337_3 hx337_4 hx337_5 hx338_0 hx339_0 hx340_0 hx341_0 hx341_1 hx341_2 hx341_3 hx341_4 hx341_5 hx342_0 hx343_0 hx343_1 hx343_2 hx343_3 hx343_4 hx343_5 hHeld ⊢
               refine put 0 69 (bt 75 1) HT_ ?_
               refine put 1 70 (bt 75 3) HT_ ?_
               refine put 2 71 (bt 75 7) HT_ ?_
               refine put 3 72 (bt 75 15) HT_ ?_
               refine put 4 73 (bt 75 31) HT_ ?_
               refine put 5 74 (bt 75 63) HT_ ?_
               refine take_ (i := 6) (N := some 75) (v := ?_) (a' := ?_) (bt 75 127) rfl rfl (take_ofW HT_.out HW_.out (by kernel_rfl)) (fun _ _ _ h => h) (Or.inl ⟨by rfl, ?_⟩) hHeld ?_ ?_
               rotate_left
               ·rintro w' ⟨s0, s1, s2, s3, s4, s5, s6, s7, s8, s9, s10, s11, s12, s13, s14, s15, s16, s17, s18, s19, s20, s21, s22, s23, s24, s25, s26, s27, s28, s29, s30, s31⟩
                go_simp
                with_reducible rfl
               rotate_left
               ·exact ap
               refine on 7 76 (bt 75 255) HT_ (fun K hK => ?_)
               refine goes_ Try.func9 (by kernel_rfl) rfl #[.slice (some ad332) y328.length co69, .int .i64 (rd t325 x8_2)] (by rfl) rfl rfl sl ?_
               with_reducible refine (laws_contains.calls k2 _ _ y328 (rd t325 x8_2) false _ ?side1 ?side2 A43.out).mono ?_
               (case side1 => repeat (first | exact (cq HR331) | (with_reducible refine Kd.C_alloc ?_ _) | (with_reducible refine Kd.C_drewN ?_ _) | (with_reducible refine Kd.C_drew ?_)))
               (case side2 => exact HC331.out)
               rintro e w' ⟨rfl, ⟨nd, rfl⟩⟩
               refine ⟨_, rfl, ?_⟩
               refine hK.out _ _ ⟨bc0 BK323, hHeld.2.1, hHeld.2.2.1, hHeld.2.2.2.1, hHeld.2.2.2.2.1, hHeld.2.2.2.2.2.1, hHeld.2.2.2.2.2.2.1, hHeld.2.2.2.2.2.2.2.1, hHeld.2.2.2.2.2.2.2.2.1, hHeld.2.2.2.2.2.2.2.2.2.1, hHeld.2.2.2.2.2.2.2.2.2.2.1, hHeld.2.2.2.2.2.2.2.2.2.2.2.1, hHeld.2.2.2.2.2.2.2.2.2.2.2.2.1, hHeld.2.2.2.2.2.2.2.2.2.2.2.2.2.1, hHeld.2.2.2.2.2.2.2.2.2.2.2.2.2.2.1, hHeld.2.2.2.2.2.2.2.2.2.2.2.2.2.2.2.1, hHeld.2.2.2.2.2.2.2.2.2.2.2.2.2.2.2.2.1, hHeld.2.2.2.2.2.2.2.2.2.2.2.2.2.2.2.2.2.1, hHeld.2.2.2.2.2.2.2.2.2.2.2.2.2.2.2.2.2.2.1, hHeld.2.2.2.2.2.2.2.2.2.2.2.2.2.2.2.2.2.2.2.1, hHeld.2.2.2.2.2.2.2.2.2.2.2.2.2.2.2.2.2.2.2.2.1, hHeld.2.2.2.2.2.2.2.2.2.2.2.2.2.2.2.2.2.2.2.2.2.1, hHeld.2.2.2.2.2.2.2.2.2.2.2.2.2.2.2.2.2.2.2.2.2.2.1, hHeld.2.2.2.2.2.2.2.2.2.2.2.2.2.2.2.2.2.2.2.2.2.2.2.1, hHeld.2.2.2.2.2.2.2.2.2.2.2.2.2.2.2.2.2.2.2.2.2.2.2.2.1, hHeld.2.2.2.2.2.2.2.2.2.2.2.2.2.2.2.2.2.2.2.2.2.2.2.2.2.1, hHeld.2.2.2.2.2.2.2.2.2.2.2.2.2.2.2.2.2.2.2.2.2.2.2.2.2.2.1, hHeld.2.2.2.2.2.2.2.2.2.2.2.2.2.2.2.2.2.2.2.2.2.2.2.2.2.2.2.1, hHeld.2.2.2.2.2.2.2.2.2.2.2.2.2.2.2.2.2.2.2.2.2.2.2.2.2.2.2.2.1, hHeld.2.2.2.2.2.2.2.2.2.2.2.2.2.2.2.2.2.2.2.2.2.2.2.2.2.2.2.2.2.1, hHeld.2.2.2.2.2.2.2.2.2.2.2.2.2.2.2.2.2.2.2.2.2.2.2.2.2.2.2.2.2.2.1, hHeld.2.2.2.2.2.2.2.2.2.2.2.2.2.2.2.2.2.2.2.2.2.2.2.2.2.2.2.2.2.2.2⟩ (fun hHeld => ?_)
               clear hK K
               refine nm 76 ?_
               refine put 8 77 (bt 75 511) HT_ ?_
               refine put 9 78 (bt 75 1023) HT_ ?_
               refine put 10 79 (bt 75 2047) HT_ ?_
               refine put 11 80 (bt 75 4095) HT_ ?_
               refine put 12 81 (bt 75 8191) HT_ ?_
               refine put 14 83 (bt 75 24575) HT_ ?_
               refine put 15 84 (bt 75 57343) HT_ ?_
               refine put 16 85 (bt 75 122879) HT_ ?_
               refine put 17 86 (bt 75 253951) HT_ ?_
               refine put 22 91 (bt 75 4448255) HT_ ?_
               refine put 24 93 (bt 75 21225471) HT_ ?_
               refine put 25 94 (bt 75 54779903) HT_ ?_
               refine put 26 95 (bt 75 121888767) HT_ ?_
               refine take_ (i := 13) (N := some 82) (v := ?_) (a' := ?_) (bt 75 121896959) rfl rfl (take_ofW HT_.out HW_.out (by kernel_rfl)) (fun _ _ _ h => h) (Or.inl ⟨by rfl, ?_⟩) hHeld ?_ ?_
               rotate_left
               ·rintro w' ⟨s0, s1, s2, s3, s4, s5, s6, s7, s8, s9, s10, s11, s12, s13, s14, s15, s16, s17, s18, s19, s20, s21, s22, s23, s24, s25, s26, s27, s28, s29, s30, s31⟩
                go_simp
                with_reducible rfl
               rotate_left
               ·exact ap
               refine take_ (i := 18) (N := some 87) (v := ?_) (a' := ?_) (bt 75 122159103) rfl rfl (take_ofW HT_.out HW_.out (by kernel_rfl)) (fun _ _ _ h => h) (Or.inl ⟨by rfl, ?_⟩) hHeld ?_ ?_
               rotate_left
               ·rintro w' ⟨s0, s1, s2, s3, s4, s5, s6, s7, s8, s9, s10, s11, s12, s13, s14, s15, s16, s17, s18, s19, s20, s21, s22, s23, s24, s25, s26, s27, s28, s29, s30, s31⟩
                go_simp
                with_reducible rfl
               rotate_left
               ·exact ap
               refine put 19 88 (bt 75 122683391) HT_ ?_
               refine put 20 89 (bt 75 123731967) HT_ ?_
               refine take_ (i := 21) (N := some 90) (v := ?_) (a' := ?_) (bt 75 125829119) rfl rfl (take_ofW HT_.out HW_.out (by kernel_rfl)) (fun _ _ _ h => h) (Or.inl ⟨by rfl, ?_⟩) hHeld ?_ ?_
               rotate_left
               ·rintro w' ⟨s0, s1, s2, s3, s4, s5, s6, s7, s8, s9, s10, s11, s12, s13, s14, s15, s16, s17, s18, s19, s20, s21, s22, s23, s24, s25, s26, s27, s28, s29, s30, s31⟩
                go_simp
                with_reducible rfl
               rotate_left
               ·exact ap
               refine take_ (i := 23) (N := some 92) (v := ?_) (a' := ?_) (bt 75 134217727) rfl rfl (take_ofW HT_.out HW_.out (by kernel_rfl)) (fun _ _ _ h => h) (Or.inl ⟨by rfl, ?_⟩) hHeld ?_ ?_
               rotate_left
               ·rintro w' ⟨s0, s1, s2, s3, s4, s5, s6, s7, s8, s9, s10, s11, s12, s13, s14, s15, s16, s17, s18, s19, s20, s21, s22, s23, s24, s25, s26, s27, s28, s29, s30, s31⟩
                go_simp
                with_reducible rfl
               rotate_left
               ·exact ap
               refine take_ (i := 27) (N := some 96) (v := ?_) (a' := ?_) (bt 75 268435455) rfl rfl (take_ofW HT_.out HW_.out (by kernel_rfl)) (fun _ _ _ h => h) (Or.inl ⟨by rfl, ?_⟩) hHeld ?_ ?_
               rotate_left
               ·rintro w' ⟨s0, s1, s2, s3, s4, s5, s6, s7, s8, s9, s10, s11, s12, s13, s14, s15, s16, s17, s18, s19, s20, s21, s22, s23, s24, s25, s26, s27, s28, s29, s30, s31⟩
                go_simp
                with_reducible rfl
               rotate_left
               ·exact ap
               refine put 28 97 (bt 75 536870911) HT_ ?_
               refine put 29 98 (bt 75 1073741823) HT_ ?_
               refine take_ (i := 30) (N := some 99) (v := ?_) (a' := ?_) (bt 75 2147483647) rfl rfl (take_ofW HT_.out HW_.out (by kernel_rfl)) (fun _ _ _ h => h) (Or.inl ⟨by rfl, ?_⟩) hHeld ?_ ?_
               rotate_left
               ·rintro w' ⟨s0, s1, s2, s3, s4, s5, s6, s7, s8, s9, s10, s11, s12, s13, s14, s15, s16, s17, s18, s19, s20, s21, s22, s23, s24, s25, s26, s27, s28, s29, s30, s31⟩
                go_simp
                with_reducible rfl
               rotate_left
               ·exact ap
               refine put 31 100 (bt 75 4294967295) HT_ ?_
               refine put 32 101 (bt 75 8589934591) HT_ ?_
               refine put 33 102 (bt 75 17179869183) HT_ ?_
               refine put 34 103 (bt 75 34359738367) HT_ ?_
               refine put 35 104 (bt 75 68719476735) HT_ ?_
               refine put 36 105 (bt 75 137438953471) HT_ ?_
               refine put 37 106 (bt 75 274877906943) HT_ ?_
               refine put 39 108 (bt 75 824633720831) HT_ ?_
               refine put 40 109 (bt 75 1924145348607) HT_ ?_
               refine put 41 110 (bt 75 4123168604159) HT_ ?_
               refine take_ (i := 38) (N := some 107) (v := ?_) (a' := ?_) (bt 75 4398046511103) rfl rfl (take_ofW HT_.out HW_.out (by kernel_rfl)) (fun _ _ _ h => h) (Or.inl ⟨by rfl, ?_⟩) hHeld ?_ ?_
               rotate_left
               ·rintro w' ⟨s0, s1, s2, s3, s4, s5, s6, s7, s8, s9, s10, s11, s12, s13, s14, s15, s16, s17, s18, s19, s20, s21, s22, s23, s24, s25, s26, s27, s28, s29, s30, s31⟩
                go_simp
                with_reducible rfl
               rotate_left
               ·exact ap
               refine take_ (i := 42) (N := some 111) (v := ?_) (a' := ?_) (bt 75 8796093022207) rfl rfl (take_ofW HT_.out HW_.out (by kernel_rfl)) (fun _ _ _ h => h) (Or.inl ⟨by rfl, ?_⟩) hHeld ?_ ?_
               rotate_left
               ·rintro w' ⟨s0, s1, s2, s3, s4, s5, s6, s7, s8, s9, s10, s11, s12, s13, s14, s15, s16, s17, s18, s19, s20, s21, s22, s23, s24, s25, s26, s27, s28, s29, s30, s31⟩
                go_simp
                with_reducible rfl
               rotate_left
               ·exact ap
               refine put 43 112 (bt 75 17592186044415) HT_ ?_
               refine put 44 113 (bt 75 35184372088831) HT_ ?_
               refine put 45 114 (bt 75 70368744177663) HT_ ?_
               refine put 46 115 (bt 75 140737488355327) HT_ ?_
               refine put 47 116 (bt 75 281474976710655) HT_ ?_
               refine put 48 117 (bt 75 562949953421311) HT_ ?_
               refine put 49 118 (bt 75 1125899906842623) HT_ ?_
               refine put 50 119 (bt 75 2251799813685247) HT_ ?_
               refine put 52 121 (bt 75 6755399441055743) HT_ ?_
               refine put 53 122 (bt 75 15762598695796735) HT_ ?_
               refine put 54 123 (bt 75 33776997205278719) HT_ ?_
               refine put 55 124 (bt 75 69805794224242687) HT_ ?_
               refine take_ (i := 51) (N := some 120) (v := ?_) (a' := ?_) (bt 75 72057594037927935) rfl rfl (take_ofW HT_.out HW_.out (by kernel_rfl)) (fun _ _ _ h => h) (Or.inl ⟨by rfl, ?_⟩) hHeld ?_ ?_
               rotate_left
               ·rintro w' ⟨s0, s1, s2, s3, s4, s5, s6, s7, s8, s9, s10, s11, s12, s13, s14, s15, s16, s17, s18, s19, s20, s21, s22, s23, s24, s25, s26, s27, s28, s29, s30, s31⟩
                go_simp
                with_reducible rfl
               rotate_left
               ·exact ap
               refine take_ (i := 56) (N := some 125) (v := ?_) (a' := ?_) (bt 75 144115188075855871) rfl rfl (take_ofW HT_.out HW_.out (by kernel_rfl)) (fun _ _ _ h => h) (Or.inl ⟨by rfl, ?_⟩) hHeld ?_ ?_
               rotate_left
               ·rintro w' ⟨s0, s1, s2, s3, s4, s5, s6, s7, s8, s9, s10, s11, s12, s13, s14, s15, s16, s17, s18, s19, s20, s21, s22, s23, s24, s25, s26, s27, s28, s29, s30, s31⟩
                go_simp
                with_reducible rfl
               rotate_left
               ·exact ap
               refine put 57 126 (bt 75 288230376151711743) HT_ ?_
               refine put 58 127 (bt 75 576460752303423487) HT_ ?_
               refine take_ (i := 59) (N := some 128) (v := ?_) (a' := ?_) (bt 75 1152921504606846975) rfl rfl (take_ofW HT_.out HW_.out (by kernel_rfl)) (fun _ _ _ h => h) (Or.inl ⟨by rfl, ?_⟩) hHeld ?_ ?_
               rotate_left
               ·rintro w' ⟨s0, s1, s2, s3, s4, s5, s6, s7, s8, s9, s10, s11, s12, s13, s14, s15, s16, s17, s18, s19, s20, s21, s22, s23, s24, s25, s26, s27, s28, s29, s30, s31⟩
                go_simp
                with_reducible rfl
               rotate_left
               ·exact ap
               refine put 60 129 (bt 75 2305843009213693951) HT_ ?_
               refine put 61 130 (bt 75 4611686018427387903) HT_ ?_
               refine put 62 131 (bt 75 9223372036854775807) HT_ ?_
               refine put 63 132 (bt 75 18446744073709551615) HT_ ?_
               refine put 65 134 (bt 75 55340232221128654847) HT_ ?_
               refine put 66 135 (bt 75 129127208515966861311) HT_ ?_
               refine put 67 136 (bt 75 276701161105643274239) HT_ ?_
               refine take_ (i := 64) (N := some 133) (v := ?_) (a' := ?_) (bt 75 295147905179352825855) rfl rfl (take_ofW HT_.out HW_.out (by kernel_rfl)) (fun _ _ _ h => h) (Or.inl ⟨by rfl, ?_⟩) hHeld ?_ ?_
               rotate_left
               ·rintro w' ⟨s0, s1, s2, s3, s4, s5, s6, s7, s8, s9, s10, s11, s12, s13, s14, s15, s16, s17, s18, s19, s20, s21, s22, s23, s24, s25, s26, s27, s28, s29, s30, s31⟩
                go_simp
                with_reducible rfl
               rotate_left
               ·exact ap
               refine take_ (i := 68) (N := some 137) (v := ?_) (a' := ?_) (bt 75 590295810358705651711) rfl rfl (take_ofW HT_.out HW_.out (by kernel_rfl)) (fun _ _ _ h => h) (Or.inl ⟨by rfl, ?_⟩) hHeld ?_ ?_
               rotate_left
               ·rintro w' ⟨s0, s1, s2, s3, s4, s5, s6, s7, s8, s9, s10, s11, s12, s13, s14, s15, s16, s17, s18, s19, s20, s21, s22, s23, s24, s25, s26, s27, s28, s29, s30, s31⟩
                go_simp
                with_reducible rfl
               rotate_left
               ·exact ap
               refine put 69 138 (bt 75 1180591620717411303423) HT_ ?_
               refine put 70 139 (bt 75 2361183241434822606847) HT_ ?_
               refine take_ (i := 71) (N := some 140) (v := ?_) (a' := ?_) (bt 75 4722366482869645213695) rfl rfl (take_ofW HT_.out HW_.out (by kernel_rfl)) (fun _ _ _ h => h) (Or.inl ⟨by rfl, ?_⟩) hHeld ?_ ?_
               rotate_left
               ·rintro w' ⟨s0, s1, s2, s3, s4, s5, s6, s7, s8, s9, s10, s11, s12, s13, s14, s15, s16, s17, s18, s19, s20, s21, s22, s23, s24, s25, s26, s27, s28, s29, s30, s31⟩
                go_simp
                with_reducible rfl
               rotate_left
               ·exact ap
               refine put 72 141 (bt 75 9444732965739290427391) HT_ ?_
               refine put 73 142 (bt 75 18889465931478580854783) HT_ ?_
               refine put 74 143 (bt 75 37778931862957161709567) HT_ ?_
               refine done_ (done_of HT_.out (by kernel_rfl)) ?_
               try go_wp2
               go_roundg k2
               case measure => have := HJ5.out; have := HK2.out; omega
               case rel => exact ⟨(wrap64 (x8_2 + 1)), sc, H', ⟨a5_23⟩, ⟨sr HO_7⟩, ⟨sr HO_318000⟩, ⟨sr HO_324000⟩, ⟨sk BK317⟩, ⟨sk BK318⟩, ⟨sk BK323⟩, ⟨sbw⟩⟩
          ·obtain ⟨-, c72b0, c72b1, H⟩ | ⟨c72, c72b0, c72b1, H⟩ := ib_ H
           ·have H' := am H
            clear H
            obtain ⟨Ao73, co73, eo73⟩ := Kd.R_slice HO_7.out
            subst eo73
            try go_wp2
            replace HO_7 := am (Kd.R_drew HO_7.out)
            replace HO_318000 := am (Kd.R_drew HO_318000.out)
            replace HO_324000 := am (Kd.R_drew HO_324000.out)
            replace BK317 := am (blk_drew BK317.out)
            replace BK318 := am (blk_drew BK318.out)
            replace BK323 := am (blk_drew BK323.out)
            replace HB := am (below_drew1 HB.out)
            have q75 : (x8_2 : Int) ≤ ((t325.length : Int) : Int) := sa
            obtain ⟨i075, hi075, _, hsz75, _⟩ := info_parts info3
            have hroom75 : t325.length ≤ co73 := (Kd.R_reads' HO_7.out).2.1
            have hC75 : Kd.C (Kd.int .i64) _ Ao73 t325.length t325 := (Kd.R_reads' HO_7.out).2.2
            have hcut75 := cut_to (P := Try.prog) 34 3 .i64 Try.underlying34 hi075 Ao73 t325.length co73 x8_2 (sa) q75 hroom75
            have hr75 := Kd.C_take (m := (x8_2 : Int).toNat) hC75 (by omega)
            have hy75 : y328.length = (x8_2 : Int).toNat := a5_15
            rw [← Ny328.out] at hr75
            rw [← hy75] at hcut75
            have HR331 := am hr75
            have HC331 := am (show y328.length ≤ co73 from by omega)
            clear hr75 hC75 hroom75 hi075 hsz75
            have KY75 := am hy75
            clear hy75
            have KL75 := am (show (x8_2 : Int).toNat ≤ t325.length from by omega)
            replace q75 := eq_true q75
            have p332 : 0 ≤ (x8_2 : Int) := sa
            have q332 : x8_2 < (t325.length : Int) := sa
            obtain ⟨ad332, e332, hx332_0⟩ := Kd.at_int (Kd.R_reads' HO_7.out).2.2 x8_2 p332 q332
            cases e332
            replace p332 := eq_true p332
            replace q332 := eq_true q332
            have p334 : 0 ≤ ((ji49) : Int) := sa
            have q334 : (ji49) < (t325.length : Int) := sa
            obtain ⟨ad334, e334, hx334_0⟩ := Kd.at_int (Kd.R_reads' HO_7.out).2.2 (ji49) p334 q334
            obtain rfl : ad332 = ad334 := (by injection e334)
            replace p334 := eq_true p334
            replace q334 := eq_true q334
            have p335 : 0 ≤ ((rd t325 (ji49)) : Int) := sa
            have q335 : (rd t325 (ji49)) < (t319.length : Int) := sa
            obtain ⟨ad335, e335, hx335_0, hx335_1, hx335_2, hx335_3, hx335_4, hx335_5⟩ := at_T28 (Kd.R_reads' HO_324000.out).2.2 (rd t325 (ji49)) p335 q335
            cases e335
            replace p335 := eq_true p335
            replace q335 := eq_true q335
            have p336 : 0 ≤ (x8_2 : Int) := sa
            have q336 : x8_2 < (t325.length : Int) := sa
            obtain ⟨ad336, e336, hx336_0⟩ := Kd.at_int (Kd.R_reads' HO_7.out).2.2 x8_2 p336 q336
            obtain rfl : ad332 = ad336 := (by injection e336)
            replace p336 := eq_true p336
            replace q336 := eq_true q336
            have p337 : 0 ≤ ((rd t325 x8_2) : Int) := sa
            have q337 : (rd t325 x8_2) < (t319.length : Int) := sa
            obtain ⟨ad337, e337, hx337_0, hx337_1, hx337_2, hx337_3, hx337_4, hx337_5⟩ := at_T28 (Kd.R_reads' HO_324000.out).2.2 (rd t325 x8_2) p337 q337
            obtain rfl : ad335 = ad337 := (by injection e337)
            replace p337 := eq_true p337
            replace q337 := eq_true q337
            have p344 : 0 ≤ ((ji49) : Int) := sa
            have q344 : (ji49) < (t325.length : Int) := sa
            obtain ⟨ad344, e344, hx344_0⟩ := Kd.at_int (Kd.R_reads' HO_7.out).2.2 (ji49) p344 q344
            obtain rfl : ad332 = ad344 := (by injection e344)
            replace p344 := eq_true p344
            replace q344 := eq_true q344
            have p345 : 0 ≤ ((rd t325 (ji49)) : Int) := sa
            have q345 : (rd t325 (ji49)) < (t319.length : Int) := sa
            obtain ⟨ad345, e345, hx345_0, hx345_1, hx345_2, hx345_3, hx345_4, hx345_5⟩ := at_T28 (Kd.R_reads' HO_324000.out).2.2 (rd t325 (ji49)) p345 q345
            obtain rfl : ad335 = ad345 := (by injection e345)
            replace p345 := eq_true p345
            replace q345 := eq_true q345
            as_aux_lemma =>
             refine start_ (n := 75) (S := fun w' => w'.cell? ⟨gb323, 0, none⟩ = some (.slice (some ad335) t319.length co16) ∧ w'.cell? (ad332.add (x8_2).toNat) = some (.int .i64 (rd t325 x8_2)) ∧ w'.cell? (ad332.add ((ji49)).toNat) = some (.int .i64 (rd t325 (ji49))) ∧ w'.cell? (ad335.add (((rd t325 (ji49))).toNat * 6)) = some (.int .i64 ((rd_T28 t319 (rd t325 (ji49))).f0)) ∧ w'.cell? ⟨(ad335.add (((rd t325 (ji49))).toNat * 6)).block, (ad335.add (((rd t325 (ji49))).toNat * 6)).off + 1, none⟩ = some (.int .i64 ((rd_T28 t319 (rd t325 (ji49))).f1)) ∧ w'.cell? ⟨(ad335.add (((rd t325 (ji49))).toNat * 6)).block, (ad335.add (((rd t325 (ji49))).toNat * 6)).off + 2, none⟩ = some (.int .i64 ((rd_T28 t319 (rd t325 (ji49))).f2)) ∧ w'.cell? ⟨(ad335.add (((rd t325 (ji49))).toNat * 6)).block, (ad335.add (((rd t325 (ji49))).toNat * 6)).off + 3, none⟩ = some (.int .i64 ((rd_T28 t319 (rd t325 (ji49))).f3)) ∧ w'.cell? ⟨(ad335.add (((rd t325 (ji49))).toNat * 6)).block, (ad335.add (((rd t325 (ji49))).toNat * 6)).off + 4, none⟩ = some (.int .i64 ((rd_T28 t319 (rd t325 (ji49))).f4)) ∧ w'.cell? ⟨(ad335.add (((rd t325 (ji49))).toNat * 6)).block, (ad335.add (((rd t325 (ji49))).toNat * 6)).off + 5, none⟩ = some (.int .i64 ((rd_T28 t319 (rd t325 (ji49))).f5)) ∧ w'.cell? (ad332.add (x8_2).toNat) = some (.int .i64 (rd t325 x8_2)) ∧ w'.cell? (ad335.add (((rd t325 x8_2)).toNat * 6)) = some (.int .i64 ((rd_T28 t319 (rd t325 x8_2)).f0)) ∧ w'.cell? ⟨(ad335.add (((rd t325 x8_2)).toNat * 6)).block, (ad335.add (((rd t325 x8_2)).toNat * 6)).off + 1, none⟩ = some (.int .i64 ((rd_T28 t319 (rd t325 x8_2)).f1)) ∧ w'.cell? ⟨(ad335.add (((rd t325 x8_2)).toNat * 6)).block, (ad335.add (((rd t325 x8_2)).toNat * 6)).off + 2, none⟩ = some (.int .i64 ((rd_T28 t319 (rd t325 x8_2)).f2)) ∧ w'.cell? ⟨(ad335.add (((rd t325 x8_2)).toNat * 6)).block, (ad335.add (((rd t325 x8_2)).toNat * 6)).off + 3, none⟩ = some (.int .i64 ((rd_T28 t319 (rd t325 x8_2)).f3)) ∧ w'.cell? ⟨(ad335.add (((rd t325 x8_2)).toNat * 6)).block, (ad335.add (((rd t325 x8_2)).toNat * 6)).off + 4, none⟩ = some (.int .i64 ((rd_T28 t319 (rd t325 x8_2)).f4)) ∧ w'.cell? ⟨(ad335.add (((rd t325 x8_2)).toNat * 6)).block, (ad335.add (((rd t325 x8_2)).toNat * 6)).off + 5, none⟩ = some (.int .i64 ((rd_T28 t319 (rd t325 x8_2)).f5)) ∧ w'.cell? (ad332.add ((ji49)).toNat) = some (.int .i64 (rd t325 (ji49))) ∧ w'.cell? (ad335.add (((rd t325 (ji49))).toNat * 6)) = some (.int .i64 ((rd_T28 t319 (rd t325 (ji49))).f0)) ∧ w'.cell? ⟨(ad335.add (((rd t325 (ji49))).toNat * 6)).block, (ad335.add (((rd t325 (ji49))).toNat * 6)).off + 1, none⟩ = some (.int .i64 ((rd_T28 t319 (rd t325 (ji49))).f1)) ∧ w'.cell? ⟨(ad335.add (((rd t325 (ji49))).toNat * 6)).block, (ad335.add (((rd t325 (ji49))).toNat * 6)).off + 2, none⟩ = some (.int .i64 ((rd_T28 t319 (rd t325 (ji49))).f2)) ∧ w'.cell? ⟨(ad335.add (((rd t325 (ji49))).toNat * 6)).block, (ad335.add (((rd t325 (ji49))).toNat * 6)).off + 3, none⟩ = some (.int .i64 ((rd_T28 t319 (rd t325 (ji49))).f3)) ∧ w'.cell? ⟨(ad335.add (((rd t325 (ji49))).toNat * 6)).block, (ad335.add (((rd t325 (ji49))).toNat * 6)).off + 4, none⟩ = some (.int .i64 ((rd_T28 t319 (rd t325 (ji49))).f4)) ∧ w'.cell? ⟨(ad335.add (((rd t325 (ji49))).toNat * 6)).block, (ad335.add (((rd t325 (ji49))).toNat * 6)).off + 5, none⟩ = some (.int .i64 ((rd_T28 t319 (rd t325 (ji49))).f5))) (ds := []) #[false, false, false, false, false, false, false, false, false, false, false, false, false, false, false, false, false, false, false, false, false, false, false, false, false, false, false, false, false, false, false, false, false, false, false, false, false, false, false, false, false, false, false, false, false, false, false, false, false, false, false, false, false, false, false, false, false, false, false, false, false, false, false, false, false, false, false, false, false, false, false, false, false, false, false] (by kernel_rfl) rfl rfl ⟨bc0 BK323, hx332_0, hx334_0, hx335_0, hx335_1, hx335_2, hx335_3, hx335_4, hx335_5, hx336_0, hx337_0, hx337_1, hx337_2, hx337_3, hx337_4, hx337_5, hx344_0, hx345_0, hx345_1, hx345_2, hx345_3, hx345_4, hx345_5⟩ (fun hHeld => ?_); refine with_tabW laws_FnQueues.tab11 laws_FnQueues.bits11 (fun HT_ HW_ => ?_)
             generalize wr.drew = w74 at HO_7 HO_318000 HO_324000 BK317 BK318 BK323 HB HR331 hx332_0 hx334_0 hx335_0 hx335_1 hx335_2 hx335_3 hx335_4 hx335_5 hx336_0 hx337_0 hx337_1 hx337_2 hx337_3 hx337_4 hx337_5 hx344_0 hx345_0 hx345_1 hx345_2 hx345_3 hx345_4 hx345_5 hHeld ⊢
             refine put 0 69 (bt 75 1) HT_ ?_
             refine put 1 70 (bt 75 3) HT_ ?_
             refine put 2 71 (bt 75 7) HT_ ?_
             refine put 3 72 (bt 75 15) HT_ ?_
             refine put 4 73 (bt 75 31) HT_ ?_
             refine put 5 74 (bt 75 63) HT_ ?_
             refine take_ (i := 6) (N := some 75) (v := ?_) (a' := ?_) (bt 75 127) rfl rfl (take_ofW HT_.out HW_.out (by kernel_rfl)) (fun _ _ _ h => h) (Or.inl ⟨by rfl, ?_⟩) hHeld ?_ ?_
             rotate_left
             ·rintro w' ⟨s0, s1, s2, s3, s4, s5, s6, s7, s8, s9, s10, s11, s12, s13, s14, s15, s16, s17, s18, s19, s20, s21, s22⟩
              go_simp
              with_reducible rfl
             rotate_left
             ·exact ap
             refine on 7 76 (bt 75 255) HT_ (fun K hK => ?_)
             refine goes_ Try.func9 (by kernel_rfl) rfl #[.slice (some ad332) y328.length co73, .int .i64 (rd t325 x8_2)] (by rfl) rfl rfl sl ?_
             with_reducible refine (laws_contains.calls k2 _ _ y328 (rd t325 x8_2) false _ ?side1 ?side2 A43.out).mono ?_
             (case side1 => repeat (first | exact (cq HR331) | (with_reducible refine Kd.C_alloc ?_ _) | (with_reducible refine Kd.C_drewN ?_ _) | (with_reducible refine Kd.C_drew ?_)))
             (case side2 => exact HC331.out)
             rintro e w' ⟨rfl, ⟨nd, rfl⟩⟩
             refine ⟨_, rfl, ?_⟩
             refine hK.out _ _ ⟨bc0 BK323, hHeld.2.1, hHeld.2.2.1, hHeld.2.2.2.1, hHeld.2.2.2.2.1, hHeld.2.2.2.2.2.1, hHeld.2.2.2.2.2.2.1, hHeld.2.2.2.2.2.2.2.1, hHeld.2.2.2.2.2.2.2.2.1, hHeld.2.2.2.2.2.2.2.2.2.1, hHeld.2.2.2.2.2.2.2.2.2.2.1, hHeld.2.2.2.2.2.2.2.2.2.2.2.1, hHeld.2.2.2.2.2.2.2.2.2.2.2.2.1, hHeld.2.2.2.2.2.2.2.2.2.2.2.2.2.1, hHeld.2.2.2.2.2.2.2.2.2.2.2.2.2.2.1, hHeld.2.2.2.2.2.2.2.2.2.2.2.2.2.2.2.1, hHeld.2.2.2.2.2.2.2.2.2.2.2.2.2.2.2.2.1, hHeld.2.2.2.2.2.2.2.2.2.2.2.2.2.2.2.2.2.1, hHeld.2.2.2.2.2.2.2.2.2.2.2.2.2.2.2.2.2.2.1, hHeld.2.2.2.2.2.2.2.2.2.2.2.2.2.2.2.2.2.2.2.1, hHeld.2.2.2.2.2.2.2.2.2.2.2.2.2.2.2.2.2.2.2.2.1, hHeld.2.2.2.2.2.2.2.2.2.2.2.2.2.2.2.2.2.2.2.2.2.1, hHeld.2.2.2.2.2.2.2.2.2.2.2.2.2.2.2.2.2.2.2.2.2.2⟩ (fun hHeld => ?_)
             clear hK K
             refine nm 76 ?_
             refine put 8 77 (bt 75 511) HT_ ?_
             refine put 9 78 (bt 75 1023) HT_ ?_
             refine put 10 79 (bt 75 2047) HT_ ?_
             refine put 11 80 (bt 75 4095) HT_ ?_
             refine put 12 81 (bt 75 8191) HT_ ?_
             refine put 14 83 (bt 75 24575) HT_ ?_
             refine put 15 84 (bt 75 57343) HT_ ?_
             refine put 16 85 (bt 75 122879) HT_ ?_
             refine put 17 86 (bt 75 253951) HT_ ?_
             refine put 22 91 (bt 75 4448255) HT_ ?_
             refine put 24 93 (bt 75 21225471) HT_ ?_
             refine put 25 94 (bt 75 54779903) HT_ ?_
             refine put 26 95 (bt 75 121888767) HT_ ?_
             refine take_ (i := 13) (N := some 82) (v := ?_) (a' := ?_) (bt 75 121896959) rfl rfl (take_ofW HT_.out HW_.out (by kernel_rfl)) (fun _ _ _ h => h) (Or.inl ⟨by rfl, ?_⟩) hHeld ?_ ?_
             rotate_left
             ·rintro w' ⟨s0, s1, s2, s3, s4, s5, s6, s7, s8, s9, s10, s11, s12, s13, s14, s15, s16, s17, s18, s19, s20, s21, s22⟩
              go_simp
              with_reducible rfl
             rotate_left
             ·exact ap
             refine take_ (i := 18) (N := some 87) (v := ?_) (a' := ?_) (bt 75 122159103) rfl rfl (take_ofW HT_.out HW_.out (by kernel_rfl)) (fun _ _ _ h => h) (Or.inl ⟨by rfl, ?_⟩) hHeld ?_ ?_
             rotate_left
             ·rintro w' ⟨s0, s1, s2, s3, s4, s5, s6, s7, s8, s9, s10, s11, s12, s13, s14, s15, s16, s17, s18, s19, s20, s21, s22⟩
              go_simp
              with_reducible rfl
             rotate_left
             ·exact ap
             refine put 19 88 (bt 75 122683391) HT_ ?_
             refine put 20 89 (bt 75 123731967) HT_ ?_
             refine take_ (i := 21) (N := some 90) (v := ?_) (a' := ?_) (bt 75 125829119) rfl rfl (take_ofW HT_.out HW_.out (by kernel_rfl)) (fun _ _ _ h => h) (Or.inl ⟨by rfl, ?_⟩) hHeld ?_ ?_
             rotate_left
             ·rintro w' ⟨s0, s1, s2, s3, s4, s5, s6, s7, s8, s9, s10, s11, s12, s13, s14, s15, s16, s17, s18, s19, s20, s21, s22⟩
              go_simp
              with_reducible rfl
             rotate_left
             ·exact ap
             refine take_ (i := 23) (N := some 92) (v := ?_) (a' := ?_) (bt 75 134217727) rfl rfl (take_ofW HT_.out HW_.out (by kernel_rfl)) (fun _ _ _ h => h) (Or.inl ⟨by rfl, ?_⟩) hHeld ?_ ?_
             rotate_left
             ·rintro w' ⟨s0, s1, s2, s3, s4, s5, s6, s7, s8, s9, s10, s11, s12, s13, s14, s15, s16, s17, s18, s19, s20, s21, s22⟩
              go_simp
              with_reducible rfl
             rotate_left
             ·exact ap
             refine take_ (i := 27) (N := some 96) (v := ?_) (a' := ?_) (bt 75 268435455) rfl rfl (take_ofW HT_.out HW_.out (by kernel_rfl)) (fun _ _ _ h => h) (Or.inl ⟨by rfl, ?_⟩) hHeld ?_ ?_
             rotate_left
             ·rintro w' ⟨s0, s1, s2, s3, s4, s5, s6, s7, s8, s9, s10, s11, s12, s13, s14, s15, s16, s17, s18, s19, s20, s21, s22⟩
              go_simp
              with_reducible rfl
             rotate_left
             ·exact ap
             refine put 28 97 (bt 75 536870911) HT_ ?_
             refine put 29 98 (bt 75 1073741823) HT_ ?_
             refine take_ (i := 30) (N := some 99) (v := ?_) (a' := ?_) (bt 75 2147483647) rfl rfl (take_ofW HT_.out HW_.out (by kernel_rfl)) (fun _ _ _ h => h) (Or.inl ⟨by rfl, ?_⟩) hHeld ?_ ?_
             rotate_left
             ·rintro w' ⟨s0, s1, s2, s3, s4, s5, s6, s7, s8, s9, s10, s11, s12, s13, s14, s15, s16, s17, s18, s19, s20, s21, s22⟩
              go_simp
              with_reducible rfl
             rotate_left
             ·exact ap
             refine put 31 100 (bt 75 4294967295) HT_ ?_
             refine put 32 101 (bt 75 8589934591) HT_ ?_
             refine put 33 102 (bt 75 17179869183) HT_ ?_
             refine pn 34 103 (bt 75 34359738367) HT_ ?_
             refine pn 35 104 (bt 75 68719476735) HT_ ?_
             refine pn 36 105 (bt 75 137438953471) HT_ ?_
             refine pn 37 106 (bt 75 274877906943) HT_ ?_
             refine pn 38 107 (bt 75 549755813887) HT_ ?_
             refine pn 39 108 (bt 75 1099511627775) HT_ ?_
             refine pn 40 109 (bt 75 2199023255551) HT_ ?_
             refine pn 41 110 (bt 75 4398046511103) HT_ ?_
             refine pn 42 111 (bt 75 8796093022207) HT_ ?_
             refine pn 43 112 (bt 75 17592186044415) HT_ ?_
             refine put 44 113 (bt 75 35184372088831) HT_ ?_
             refine put 45 114 (bt 75 70368744177663) HT_ ?_
             refine put 46 115 (bt 75 140737488355327) HT_ ?_
             refine put 47 116 (bt 75 281474976710655) HT_ ?_
             refine put 48 117 (bt 75 562949953421311) HT_ ?_
             refine put 49 118 (bt 75 1125899906842623) HT_ ?_
             refine put 50 119 (bt 75 2251799813685247) HT_ ?_
             refine put 52 121 (bt 75 6755399441055743) HT_ ?_
             refine put 53 122 (bt 75 15762598695796735) HT_ ?_
             refine put 54 123 (bt 75 33776997205278719) HT_ ?_
             refine put 55 124 (bt 75 69805794224242687) HT_ ?_
             refine take_ (i := 51) (N := some 120) (v := ?_) (a' := ?_) (bt 75 72057594037927935) rfl rfl (take_ofW HT_.out HW_.out (by kernel_rfl)) (fun _ _ _ h => h) (Or.inl ⟨by rfl, ?_⟩) hHeld ?_ ?_
             rotate_left
             ·rintro w' ⟨s0, s1, s2, s3, s4, s5, s6, s7, s8, s9, s10, s11, s12, s13, s14, s15, s16, s17, s18, s19, s20, s21, s22⟩
              go_simp
              with_reducible rfl
             rotate_left
             ·exact ap
             refine take_ (i := 56) (N := some 125) (v := ?_) (a' := ?_) (bt 75 144115188075855871) rfl rfl (take_ofW HT_.out HW_.out (by kernel_rfl)) (fun _ _ _ h => h) (Or.inl ⟨by rfl, ?_⟩) hHeld ?_ ?_
             rotate_left
             ·rintro w' ⟨s0, s1, s2, s3, s4, s5, s6, s7, s8, s9, s10, s11, s12, s13, s14, s15, s16, s17, s18, s19, s20, s21, s22⟩
              go_simp
              with_reducible rfl
             rotate_left
             ·exact ap
             refine put 57 126 (bt 75 288230376151711743) HT_ ?_
             refine put 58 127 (bt 75 576460752303423487) HT_ ?_
             refine take_ (i := 59) (N := some 128) (v := ?_) (a' := ?_) (bt 75 1152921504606846975) rfl rfl (take_ofW HT_.out HW_.out (by kernel_rfl)) (fun _ _ _ h => h) (Or.inl ⟨by rfl, ?_⟩) hHeld ?_ ?_
             rotate_left
             ·rintro w' ⟨s0, s1, s2, s3, s4, s5, s6, s7, s8, s9, s10, s11, s12, s13, s14, s15, s16, s17, s18, s19, s20, s21, s22⟩
              go_simp
              with_reducible rfl
             rotate_left
             ·exact ap
             refine put 60 129 (bt 75 2305843009213693951) HT_ ?_
             refine put 61 130 (bt 75 4611686018427387903) HT_ ?_
             refine put 62 131 (bt 75 9223372036854775807) HT_ ?_
             refine pn 63 132 (bt 75 18446744073709551615) HT_ ?_
             refine pn 64 133 (bt 75 36893488147419103231) HT_ ?_
             refine pn 65 134 (bt 75 73786976294838206463) HT_ ?_
             refine pn 66 135 (bt 75 147573952589676412927) HT_ ?_
             refine pn 67 136 (bt 75 295147905179352825855) HT_ ?_
             refine pn 68 137 (bt 75 590295810358705651711) HT_ ?_
             refine pn 69 138 (bt 75 1180591620717411303423) HT_ ?_
             refine pn 70 139 (bt 75 2361183241434822606847) HT_ ?_
             refine pn 71 140 (bt 75 4722366482869645213695) HT_ ?_
             refine pn 72 141 (bt 75 9444732965739290427391) HT_ ?_
             refine put 73 142 (bt 75 18889465931478580854783) HT_ ?_
             refine put 74 143 (bt 75 37778931862957161709567) HT_ ?_
             refine done_ (done_of HT_.out (by kernel_rfl)) ?_
             try go_wp2
             go_roundg k2
             case measure => have := HJ5.out; have := HK2.out; omega
             case rel => exact ⟨(wrap64 (x8_2 + 1)), sc, H', ⟨a5_23⟩, ⟨sr HO_7⟩, ⟨sr HO_318000⟩, ⟨sr HO_324000⟩, ⟨sk BK317⟩, ⟨sk BK318⟩, ⟨sk BK323⟩, ⟨sbw⟩⟩
           ·obtain ⟨-, c76b0, c76b1, H⟩ | ⟨c76, c76b0, c76b1, H⟩ := ib_ H
            ·obtain rfl := Option.some.inj H
             obtain ⟨Ao77, co77, eo77⟩ := Kd.R_slice HO_7.out
             subst eo77
             try go_wp2
             replace HO_7 := am (Kd.R_drew HO_7.out)
             replace HO_318000 := am (Kd.R_drew HO_318000.out)
             replace HO_324000 := am (Kd.R_drew HO_324000.out)
             replace BK317 := am (blk_drew BK317.out)
             replace BK318 := am (blk_drew BK318.out)
             replace BK323 := am (blk_drew BK323.out)
             replace HB := am (below_drew1 HB.out)
             have q79 : (x8_2 : Int) ≤ ((t325.length : Int) : Int) := sa
             obtain ⟨i079, hi079, _, hsz79, _⟩ := info_parts info3
             have hroom79 : t325.length ≤ co77 := (Kd.R_reads' HO_7.out).2.1
             have hC79 : Kd.C (Kd.int .i64) _ Ao77 t325.length t325 := (Kd.R_reads' HO_7.out).2.2
             have hcut79 := cut_to (P := Try.prog) 34 3 .i64 Try.underlying34 hi079 Ao77 t325.length co77 x8_2 (sa) q79 hroom79
             have hr79 := Kd.C_take (m := (x8_2 : Int).toNat) hC79 (by omega)
             have hy79 : y328.length = (x8_2 : Int).toNat := a5_15
             rw [← Ny328.out] at hr79
             rw [← hy79] at hcut79
             have HR331 := am hr79
             have HC331 := am (show y328.length ≤ co77 from by omega)
             clear hr79 hC79 hroom79 hi079 hsz79
             have KY79 := am hy79
             clear hy79
             have KL79 := am (show (x8_2 : Int).toNat ≤ t325.length from by omega)
             replace q79 := eq_true q79
             have p332 : 0 ≤ (x8_2 : Int) := sa
             have q332 : x8_2 < (t325.length : Int) := sa
             obtain ⟨ad332, e332, hx332_0⟩ := Kd.at_int (Kd.R_reads' HO_7.out).2.2 x8_2 p332 q332
             cases e332
             replace p332 := eq_true p332
             replace q332 := eq_true q332
             have p334 : 0 ≤ ((ji49) : Int) := sa
             have q334 : (ji49) < (t325.length : Int) := sa
             obtain ⟨ad334, e334, hx334_0⟩ := Kd.at_int (Kd.R_reads' HO_7.out).2.2 (ji49) p334 q334
             obtain rfl : ad332 = ad334 := (by injection e334)
             replace p334 := eq_true p334
             replace q334 := eq_true q334
             have p335 : 0 ≤ ((rd t325 (ji49)) : Int) := sa
             have q335 : (rd t325 (ji49)) < (t319.length : Int) := sa
             obtain ⟨ad335, e335, hx335_0, hx335_1, hx335_2, hx335_3, hx335_4, hx335_5⟩ := at_T28 (Kd.R_reads' HO_324000.out).2.2 (rd t325 (ji49)) p335 q335
             cases e335
             replace p335 := eq_true p335
             replace q335 := eq_true q335
             have p336 : 0 ≤ (x8_2 : Int) := sa
             have q336 : x8_2 < (t325.length : Int) := sa
             obtain ⟨ad336, e336, hx336_0⟩ := Kd.at_int (Kd.R_reads' HO_7.out).2.2 x8_2 p336 q336
             obtain rfl : ad332 = ad336 := (by injection e336)
             replace p336 := eq_true p336
             replace q336 := eq_true q336
             have p337 : 0 ≤ ((rd t325 x8_2) : Int) := sa
             have q337 : (rd t325 x8_2) < (t319.length : Int) := sa
             obtain ⟨ad337, e337, hx337_0, hx337_1, hx337_2, hx337_3, hx337_4, hx337_5⟩ := at_T28 (Kd.R_reads' HO_324000.out).2.2 (rd t325 x8_2) p337 q337
             obtain rfl : ad335 = ad337 := (by injection e337)
             replace p337 := eq_true p337
             replace q337 := eq_true q337
             have p344 : 0 ≤ ((ji49) : Int) := sa
             have q344 : (ji49) < (t325.length : Int) := sa
             obtain ⟨ad344, e344, hx344_0⟩ := Kd.at_int (Kd.R_reads' HO_7.out).2.2 (ji49) p344 q344
             obtain rfl : ad332 = ad344 := (by injection e344)
             replace p344 := eq_true p344
             replace q344 := eq_true q344
             have p345 : 0 ≤ ((rd t325 (ji49)) : Int) := sa
             have q345 : (rd t325 (ji49)) < (t319.length : Int) := sa
             obtain ⟨ad345, e345, hx345_0, hx345_1, hx345_2, hx345_3, hx345_4, hx345_5⟩ := at_T28 (Kd.R_reads' HO_324000.out).2.2 (rd t325 (ji49)) p345 q345
             obtain rfl : ad335 = ad345 := (by injection e345)
             replace p345 := eq_true p345
             replace q345 := eq_true q345
             have p346 : 0 ≤ (x8_2 : Int) := sa
             have q346 : x8_2 < (t325.length : Int) := sa
             obtain ⟨ad346, e346, hx346_0⟩ := Kd.at_int (Kd.R_reads' HO_7.out).2.2 x8_2 p346 q346
             obtain rfl : ad332 = ad346 := (by injection e346)
             replace p346 := eq_true p346
             replace q346 := eq_true q346
             have p347 : 0 ≤ ((rd t325 x8_2) : Int) := sa
             have q347 : (rd t325 x8_2) < (t319.length : Int) := sa
             obtain ⟨ad347, e347, hx347_0, hx347_1, hx347_2, hx347_3, hx347_4, hx347_5⟩ := at_T28 (Kd.R_reads' HO_324000.out).2.2 (rd t325 x8_2) p347 q347
             obtain rfl : ad335 = ad347 := (by injection e347)
             replace p347 := eq_true p347
             replace q347 := eq_true q347
             as_aux_lemma =>
              refine start_ (n := 75) (S := fun w' => w'.cell? ⟨gb323, 0, none⟩ = some (.slice (some ad335) t319.length co16) ∧ w'.cell? (ad332.add (x8_2).toNat) = some (.int .i64 (rd t325 x8_2)) ∧ w'.cell? (ad332.add ((ji49)).toNat) = some (.int .i64 (rd t325 (ji49))) ∧ w'.cell? (ad335.add (((rd t325 (ji49))).toNat * 6)) = some (.int .i64 ((rd_T28 t319 (rd t325 (ji49))).f0)) ∧ w'.cell? ⟨(ad335.add (((rd t325 (ji49))).toNat * 6)).block, (ad335.add (((rd t325 (ji49))).toNat * 6)).off + 1, none⟩ = some (.int .i64 ((rd_T28 t319 (rd t325 (ji49))).f1)) ∧ w'.cell? ⟨(ad335.add (((rd t325 (ji49))).toNat * 6)).block, (ad335.add (((rd t325 (ji49))).toNat * 6)).off + 2, none⟩ = some (.int .i64 ((rd_T28 t319 (rd t325 (ji49))).f2)) ∧ w'.cell? ⟨(ad335.add (((rd t325 (ji49))).toNat * 6)).block, (ad335.add (((rd t325 (ji49))).toNat * 6)).off + 3, none⟩ = some (.int .i64 ((rd_T28 t319 (rd t325 (ji49))).f3)) ∧ w'.cell? ⟨(ad335.add (((rd t325 (ji49))).toNat * 6)).block, (ad335.add (((rd t325 (ji49))).toNat * 6)).off + 4, none⟩ = some (.int .i64 ((rd_T28 t319 (rd t325 (ji49))).f4)) ∧ w'.cell? ⟨(ad335.add (((rd t325 (ji49))).toNat * 6)).block, (ad335.add (((rd t325 (ji49))).toNat * 6)).off + 5, none⟩ = some (.int .i64 ((rd_T28 t319 (rd t325 (ji49))).f5)) ∧ w'.cell? (ad332.add (x8_2).toNat) = some (.int .i64 (rd t325 x8_2)) ∧ w'.cell? (ad335.add (((rd t325 x8_2)).toNat * 6)) = some (.int .i64 ((rd_T28 t319 (rd t325 x8_2)).f0)) ∧ w'.cell? ⟨(ad335.add (((rd t325 x8_2)).toNat * 6)).block, (ad335.add (((rd t325 x8_2)).toNat * 6)).off + 1, none⟩ = some (.int .i64 ((rd_T28 t319 (rd t325 x8_2)).f1)) ∧ w'.cell? ⟨(ad335.add (((rd t325 x8_2)).toNat * 6)).block, (ad335.add (((rd t325 x8_2)).toNat * 6)).off + 2, none⟩ = some (.int .i64 ((rd_T28 t319 (rd t325 x8_2)).f2)) ∧ w'.cell? ⟨(ad335.add (((rd t325 x8_2)).toNat * 6)).block, (ad335.add (((rd t325 x8_2)).toNat * 6)).off + 3, none⟩ = some (.int .i64 ((rd_T28 t319 (rd t325 x8_2)).f3)) ∧ w'.cell? ⟨(ad335.add (((rd t325 x8_2)).toNat * 6)).block, (ad335.add (((rd t325 x8_2)).toNat * 6)).off + 4, none⟩ = some (.int .i64 ((rd_T28 t319 (rd t325 x8_2)).f4)) ∧ w'.cell? ⟨(ad335.add (((rd t325 x8_2)).toNat * 6)).block, (ad335.add (((rd t325 x8_2)).toNat * 6)).off + 5, none⟩ = some (.int .i64 ((rd_T28 t319 (rd t325 x8_2)).f5)) ∧ w'.cell? (ad332.add ((ji49)).toNat) = some (.int .i64 (rd t325 (ji49))) ∧ w'.cell? (ad335.add (((rd t325 (ji49))).toNat * 6)) = some (.int .i64 ((rd_T28 t319 (rd t325 (ji49))).f0)) ∧ w'.cell? ⟨(ad335.add (((rd t325 (ji49))).toNat * 6)).block, (ad335.add (((rd t325 (ji49))).toNat * 6)).off + 1, none⟩ = some (.int .i64 ((rd_T28 t319 (rd t325 (ji49))).f1)) ∧ w'.cell? ⟨(ad335.add (((rd t325 (ji49))).toNat * 6)).block, (ad335.add (((rd t325 (ji49))).toNat * 6)).off + 2, none⟩ = some (.int .i64 ((rd_T28 t319 (rd t325 (ji49))).f2)) ∧ w'.cell? ⟨(ad335.add (((rd t325 (ji49))).toNat * 6)).block, (ad335.add (((rd t325 (ji49))).toNat * 6)).off + 3, none⟩ = some (.int .i64 ((rd_T28 t319 (rd t325 (ji49))).f3)) ∧ w'.cell? ⟨(ad335.add (((rd t325 (ji49))).toNat * 6)).block, (ad335.add (((rd t325 (ji49))).toNat * 6)).off + 4, none⟩ = some (.int .i64 ((rd_T28 t319 (rd t325 (ji49))).f4)) ∧ w'.cell? ⟨(ad335.add (((rd t325 (ji49))).toNat * 6)).block, (ad335.add (((rd t325 (ji49))).toNat * 6)).off + 5, none⟩ = some (.int .i64 ((rd_T28 t319 (rd t325 (ji49))).f5)) ∧ w'.cell? (ad332.add (x8_2).toNat) = some (.int .i64 (rd t325 x8_2)) ∧ w'.cell? (ad335.add (((rd t325 x8_2)).toNat * 6)) = some (.int .i64 ((rd_T28 t319 (rd t325 x8_2)).f0)) ∧ w'.cell? ⟨(ad335.add (((rd t325 x8_2)).toNat * 6)).block, (ad335.add (((rd t325 x8_2)).toNat * 6)).off + 1, none⟩ = some (.int .i64 ((rd_T28 t319 (rd t325 x8_2)).f1)) ∧ w'.cell? ⟨(ad335.add (((rd t325 x8_2)).toNat * 6)).block, (ad335.add (((rd t325 x8_2)).toNat * 6)).off + 2, none⟩ = some (.int .i64 ((rd_T28 t319 (rd t325 x8_2)).f2)) ∧ w'.cell? ⟨(ad335.add (((rd t325 x8_2)).toNat * 6)).block, (ad335.add (((rd t325 x8_2)).toNat * 6)).off + 3, none⟩ = some (.int .i64 ((rd_T28 t319 (rd t325 x8_2)).f3)) ∧ w'.cell? ⟨(ad335.add (((rd t325 x8_2)).toNat * 6)).block, (ad335.add (((rd t325 x8_2)).toNat * 6)).off + 4, none⟩ = some (.int .i64 ((rd_T28 t319 (rd t325 x8_2)).f4)) ∧ w'.cell? ⟨(ad335.add (((rd t325 x8_2)).toNat * 6)).block, (ad335.add (((rd t325 x8_2)).toNat * 6)).off + 5, none⟩ = some (.int .i64 ((rd_T28 t319 (rd t325 x8_2)).f5))) (ds := []) #[false, false, false, false, false, false, false, false, false, false, false, false, false, false, false, false, false, false, false, false, false, false, false, false, false, false, false, false, false, false, false, false, false, false, false, false, false, false, false, false, false, false, false, false, false, false, false, false, false, false, false, false, false, false, false, false, false, false, false, false, false, false, false, false, false, false, false, false, false, false, false, false, false, false, false] (by kernel_rfl) rfl rfl ⟨bc0 BK323, hx332_0, hx334_0, hx335_0, hx335_1, hx335_2, hx335_3, hx335_4, hx335_5, hx336_0, hx337_0, hx337_1, hx337_2, hx337_3, hx337_4, hx337_5, hx344_0, hx345_0, hx345_1, hx345_2, hx345_3, hx345_4, hx345_5, hx346_0, hx347_0, hx347_1, hx347_2, hx347_3, hx347_4, hx347_5⟩ (fun hHeld => ?_); refine with_tabW laws_FnQueues.tab11 laws_FnQueues.bits11 (fun HT_ HW_ => ?_)
              generalize wr.drew = w78 at HO_7 HO_318000 HO_324000 BK317 BK318 BK323 HB HR331 hx332_0 hx334_0 hx335_0 hx335_1 hx335_2 hx335_3 hx335_4 hx335_5 hx336_0 hx337_0 hx337_1 hx337_2 hx337_3 hx337_4 hx337_5 hx344_0 hx345_0 hx345_1 hx345_2 hx345_3 hx345_4 hx345_5 hx346_0 hx347_0 hx347_1 hx347_2 hx347_3 hx347_4 hx347_5 hHeld ⊢
              refine put 0 69 (bt 75 1) HT_ ?_
              refine put 1 70 (bt 75 3) HT_ ?_
              refine put 2 71 (bt 75 7) HT_ ?_
              refine put 3 72 (bt 75 15) HT_ ?_
              refine put 4 73 (bt 75 31) HT_ ?_
              refine put 5 74 (bt 75 63) HT_ ?_
              refine take_ (i := 6) (N := some 75) (v := ?_) (a' := ?_) (bt 75 127) rfl rfl (take_ofW HT_.out HW_.out (by kernel_rfl)) (fun _ _ _ h => h) (Or.inl ⟨by rfl, ?_⟩) hHeld ?_ ?_
              rotate_left
              ·rintro w' ⟨s0, s1, s2, s3, s4, s5, s6, s7, s8, s9, s10, s11, s12, s13, s14, s15, s16, s17, s18, s19, s20, s21, s22, s23, s24, s25, s26, s27, s28, s29⟩
               go_simp
               with_reducible rfl
              rotate_left
              ·exact ap
              refine on 7 76 (bt 75 255) HT_ (fun K hK => ?_)
              refine goes_ Try.func9 (by kernel_rfl) rfl #[.slice (some ad332) y328.length co77, .int .i64 (rd t325 x8_2)] (by rfl) rfl rfl sl ?_
              with_reducible refine (laws_contains.calls k2 _ _ y328 (rd t325 x8_2) false _ ?side1 ?side2 A43.out).mono ?_
              (case side1 => repeat (first | exact (cq HR331) | (with_reducible refine Kd.C_alloc ?_ _) | (with_reducible refine Kd.C_drewN ?_ _) | (with_reducible refine Kd.C_drew ?_)))
              (case side2 => exact HC331.out)
              rintro e w' ⟨rfl, ⟨nd, rfl⟩⟩
              refine ⟨_, rfl, ?_⟩
              refine hK.out _ _ ⟨bc0 BK323, hHeld.2.1, hHeld.2.2.1, hHeld.2.2.2.1, hHeld.2.2.2.2.1, hHeld.2.2.2.2.2.1, hHeld.2.2.2.2.2.2.1, hHeld.2.2.2.2.2.2.2.1, hHeld.2.2.2.2.2.2.2.2.1, hHeld.2.2.2.2.2.2.2.2.2.1, hHeld.2.2.2.2.2.2.2.2.2.2.1, hHeld.2.2.2.2.2.2.2.2.2.2.2.1, hHeld.2.2.2.2.2.2.2.2.2.2.2.2.1, hHeld.2.2.2.2.2.2.2.2.2.2.2.2.2.1, hHeld.2.2.2.2.2.2.2.2.2.2.2.2.2.2.1, hHeld.2.2.2.2.2.2.2.2.2.2.2.2.2.2.2.1, hHeld.2.2.2.2.2.2.2.2.2.2.2.2.2.2.2.2.1, hHeld.2.2.2.2.2.2.2.2.2.2.2.2.2.2.2.2.2.1, hHeld.2.2.2.2.2.2.2.2.2.2.2.2.2.2.2.2.2.2.1, hHeld.2.2.2.2.2.2.2.2.2.2.2.2.2.2.2.2.2.2.2.1, hHeld.2.2.2.2.2.2.2.2.2.2.2.2.2.2.2.2.2.2.2.2.1, hHeld.2.2.2.2.2.2.2.2.2.2.2.2.2.2.2.2.2.2.2.2.2.1, hHeld.2.2.2.2.2.2.2.2.2.2.2.2.2.2.2.2.2.2.2.2.2.2.1, hHeld.2.2.2.2.2.2.2.2.2.2.2.2.2.2.2.2.2.2.2.2.2.2.2.1, hHeld.2.2.2.2.2.2.2.2.2.2.2.2.2.2.2.2.2.2.2.2.2.2.2.2.1, hHeld.2.2.2.2.2.2.2.2.2.2.2.2.2.2.2.2.2.2.2.2.2.2.2.2.2.1, hHeld.2.2.2.2.2.2.2.2.2.2.2.2.2.2.2.2.2.2.2.2.2.2.2.2.2.2.1, hHeld.2.2.2.2.2.2.2.2.2.2.2.2.2.2.2.2.2.2.2.2.2.2.2.2.2.2.2.1, hHeld.2.2.2.2.2.2.2.2.2.2.2.2.2.2.2.2.2.2.2.2.2.2.2.2.2.2.2.2.1, hHeld.2.2.2.2.2.2.2.2.2.2.2.2.2.2.2.2.2.2.2.2.2.2.2.2.2.2.2.2.2⟩ (fun hHeld => ?_)
              clear hK K
              refine nm 76 ?_
              refine put 8 77 (bt 75 511) HT_ ?_
              refine put 9 78 (bt 75 1023) HT_ ?_
              refine put 10 79 (bt 75 2047) HT_ ?_
              refine put 11 80 (bt 75 4095) HT_ ?_
              refine put 12 81 (bt 75 8191) HT_ ?_
              refine put 14 83 (bt 75 24575) HT_ ?_
              refine put 15 84 (bt 75 57343) HT_ ?_
              refine put 16 85 (bt 75 122879) HT_ ?_
              refine put 17 86 (bt 75 253951) HT_ ?_
              refine put 22 91 (bt 75 4448255) HT_ ?_
              refine put 24 93 (bt 75 21225471) HT_ ?_
              refine put 25 94 (bt 75 54779903) HT_ ?_
              refine put 26 95 (bt 75 121888767) HT_ ?_
              refine take_ (i := 13) (N := some 82) (v := ?_) (a' := ?_) (bt 75 121896959) rfl rfl (take_ofW HT_.out HW_.out (by kernel_rfl)) (fun _ _ _ h => h) (Or.inl ⟨by rfl, ?_⟩) hHeld ?_ ?_
              rotate_left
              ·rintro w' ⟨s0, s1, s2, s3, s4, s5, s6, s7, s8, s9, s10, s11, s12, s13, s14, s15, s16, s17, s18, s19, s20, s21, s22, s23, s24, s25, s26, s27, s28, s29⟩
               go_simp
               with_reducible rfl
              rotate_left
              ·exact ap
              refine take_ (i := 18) (N := some 87) (v := ?_) (a' := ?_) (bt 75 122159103) rfl rfl (take_ofW HT_.out HW_.out (by kernel_rfl)) (fun _ _ _ h => h) (Or.inl ⟨by rfl, ?_⟩) hHeld ?_ ?_
              rotate_left
              ·rintro w' ⟨s0, s1, s2, s3, s4, s5, s6, s7, s8, s9, s10, s11, s12, s13, s14, s15, s16, s17, s18, s19, s20, s21, s22, s23, s24, s25, s26, s27, s28, s29⟩
               go_simp
               with_reducible rfl
              rotate_left
              ·exact ap
              refine put 19 88 (bt 75 122683391) HT_ ?_
              refine put 20 89 (bt 75 123731967) HT_ ?_
              refine take_ (i := 21) (N := some 90) (v := ?_) (a' := ?_) (bt 75 125829119) rfl rfl (take_ofW HT_.out HW_.out (by kernel_rfl)) (fun _ _ _ h => h) (Or.inl ⟨by rfl, ?_⟩) hHeld ?_ ?_
              rotate_left
              ·rintro w' ⟨s0, s1, s2, s3, s4, s5, s6, s7, s8, s9, s10, s11, s12, s13, s14, s15, s16, s17, s18, s19, s20, s21, s22, s23, s24, s25, s26, s27, s28, s29⟩
               go_simp
               with_reducible rfl
              rotate_left
              ·exact ap
              refine take_ (i := 23) (N := some 92) (v := ?_) (a' := ?_) (bt 75 134217727) rfl rfl (take_ofW HT_.out HW_.out (by kernel_rfl)) (fun _ _ _ h => h) (Or.inl ⟨by rfl, ?_⟩) hHeld ?_ ?_
              rotate_left
              ·rintro w' ⟨s0, s1, s2, s3, s4, s5, s6, s7, s8, s9, s10, s11, s12, s13, s14, s15, s16, s17, s18, s19, s20, s21, s22, s23, s24, s25, s26, s27, s28, s29⟩
               go_simp
               with_reducible rfl
              rotate_left
              ·exact ap
              refine take_ (i := 27) (N := some 96) (v := ?_) (a' := ?_) (bt 75 268435455) rfl rfl (take_ofW HT_.out HW_.out (by kernel_rfl)) (fun _ _ _ h => h) (Or.inl ⟨by rfl, ?_⟩) hHeld ?_ ?_
              rotate_left
              ·rintro w' ⟨s0, s1, s2, s3, s4, s5, s6, s7, s8, s9, s10, s11, s12, s13, s14, s15, s16, s17, s18, s19, s20, s21, s22, s23, s24, s25, s26, s27, s28, s29⟩
               go_simp
               with_reducible rfl
              rotate_left
              ·exact ap
              refine put 28 97 (bt 75 536870911) HT_ ?_
              refine put 29 98 (bt 75 1073741823) HT_ ?_
              refine take_ (i := 30) (N := some 99) (v := ?_) (a' := ?_) (bt 75 2147483647) rfl rfl (take_ofW HT_.out HW_.out (by kernel_rfl)) (fun _ _ _ h => h) (Or.inl ⟨by rfl, ?_⟩) hHeld ?_ ?_
              rotate_left
              ·rintro w' ⟨s0, s1, s2, s3, s4, s5, s6, s7, s8, s9, s10, s11, s12, s13, s14, s15, s16, s17, s18, s19, s20, s21, s22, s23, s24, s25, s26, s27, s28, s29⟩
               go_simp
               with_reducible rfl
              rotate_left
              ·exact ap
              refine put 31 100 (bt 75 4294967295) HT_ ?_
              refine put 32 101 (bt 75 8589934591) HT_ ?_
              refine put 33 102 (bt 75 17179869183) HT_ ?_
              refine pn 34 103 (bt 75 34359738367) HT_ ?_
              refine pn 35 104 (bt 75 68719476735) HT_ ?_
              refine pn 36 105 (bt 75 137438953471) HT_ ?_
              refine pn 37 106 (bt 75 274877906943) HT_ ?_
              refine pn 38 107 (bt 75 549755813887) HT_ ?_
              refine pn 39 108 (bt 75 1099511627775) HT_ ?_
              refine pn 40 109 (bt 75 2199023255551) HT_ ?_
              refine pn 41 110 (bt 75 4398046511103) HT_ ?_
              refine pn 42 111 (bt 75 8796093022207) HT_ ?_
              refine pn 43 112 (bt 75 17592186044415) HT_ ?_
              refine put 44 113 (bt 75 35184372088831) HT_ ?_
              refine put 45 114 (bt 75 70368744177663) HT_ ?_
              refine put 46 115 (bt 75 140737488355327) HT_ ?_
              refine put 47 116 (bt 75 281474976710655) HT_ ?_
              refine put 48 117 (bt 75 562949953421311) HT_ ?_
              refine put 49 118 (bt 75 1125899906842623) HT_ ?_
              refine put 50 119 (bt 75 2251799813685247) HT_ ?_
              refine put 52 121 (bt 75 6755399441055743) HT_ ?_
              refine put 53 122 (bt 75 15762598695796735) HT_ ?_
              refine put 54 123 (bt 75 33776997205278719) HT_ ?_
              refine put 55 124 (bt 75 69805794224242687) HT_ ?_
              refine take_ (i := 51) (N := some 120) (v := ?_) (a' := ?_) (bt 75 72057594037927935) rfl rfl (take_ofW HT_.out HW_.out (by kernel_rfl)) (fun _ _ _ h => h) (Or.inl ⟨by rfl, ?_⟩) hHeld ?_ ?_
              rotate_left
              ·rintro w' ⟨s0, s1, s2, s3, s4, s5, s6, s7, s8, s9, s10, s11, s12, s13, s14, s15, s16, s17, s18, s19, s20, s21, s22, s23, s24, s25, s26, s27, s28, s29⟩
               go_simp
               with_reducible rfl
              rotate_left
              ·exact ap
              refine take_ (i := 56) (N := some 125) (v := ?_) (a' := ?_) (bt 75 144115188075855871) rfl rfl (take_ofW HT_.out HW_.out (by kernel_rfl)) (fun _ _ _ h => h) (Or.inl ⟨by rfl, ?_⟩) hHeld ?_ ?_
              rotate_left
              ·rintro w' ⟨s0, s1, s2, s3, s4, s5, s6, s7, s8, s9, s10, s11, s12, s13, s14, s15, s16, s17, s18, s19, s20, s21, s22, s23, s24, s25, s26, s27, s28, s29⟩
               go_simp
               with_reducible rfl
              rotate_left
              ·exact ap
              refine put 57 126 (bt 75 288230376151711743) HT_ ?_
              refine put 58 127 (bt 75 576460752303423487) HT_ ?_
              refine take_ (i := 59) (N := some 128) (v := ?_) (a' := ?_) (bt 75 1152921504606846975) rfl rfl (take_ofW HT_.out HW_.out (by kernel_rfl)) (fun _ _ _ h => h) (Or.inl ⟨by rfl, ?_⟩) hHeld ?_ ?_
              rotate_left
              ·rintro w' ⟨s0, s1, s2, s3, s4, s5, s6, s7, s8, s9, s10, s11, s12, s13, s14, s15, s16, s17, s18, s19, s20, s21, s22, s23, s24, s25, s26, s27, s28, s29⟩
               go_simp
               with_reducible rfl
              rotate_left
              ·exact ap
              refine put 60 129 (bt 75 2305843009213693951) HT_ ?_
              refine put 61 130 (bt 75 4611686018427387903) HT_ ?_
              refine put 62 131 (bt 75 9223372036854775807) HT_ ?_
              refine put 63 132 (bt 75 18446744073709551615) HT_ ?_
              refine put 65 134 (bt 75 55340232221128654847) HT_ ?_
              refine put 66 135 (bt 75 129127208515966861311) HT_ ?_
              refine put 67 136 (bt 75 276701161105643274239) HT_ ?_
              refine take_ (i := 64) (N := some 133) (v := ?_) (a' := ?_) (bt 75 295147905179352825855) rfl rfl (take_ofW HT_.out HW_.out (by kernel_rfl)) (fun _ _ _ h => h) (Or.inl ⟨by rfl, ?_⟩) hHeld ?_ ?_
              rotate_left
              ·rintro w' ⟨s0, s1, s2, s3, s4, s5, s6, s7, s8, s9, s10, s11, s12, s13, s14, s15, s16, s17, s18, s19, s20, s21, s22, s23, s24, s25, s26, s27, s28, s29⟩
               go_simp
               with_reducible rfl
              rotate_left
              ·exact ap
              refine take_ (i := 68) (N := some 137) (v := ?_) (a' := ?_) (bt 75 590295810358705651711) rfl rfl (take_ofW HT_.out HW_.out (by kernel_rfl)) (fun _ _ _ h => h) (Or.inl ⟨by rfl, ?_⟩) hHeld ?_ ?_
              rotate_left
              ·rintro w' ⟨s0, s1, s2, s3, s4, s5, s6, s7, s8, s9, s10, s11, s12, s13, s14, s15, s16, s17, s18, s19, s20, s21, s22, s23, s24, s25, s26, s27, s28, s29⟩
               go_simp
               with_reducible rfl
              rotate_left
              ·exact ap
              refine put 69 138 (bt 75 1180591620717411303423) HT_ ?_
              refine put 70 139 (bt 75 2361183241434822606847) HT_ ?_
              refine take_ (i := 71) (N := some 140) (v := ?_) (a' := ?_) (bt 75 4722366482869645213695) rfl rfl (take_ofW HT_.out HW_.out (by kernel_rfl)) (fun _ _ _ h => h) (Or.inl ⟨by rfl, ?_⟩) hHeld ?_ ?_
              rotate_left
              ·rintro w' ⟨s0, s1, s2, s3, s4, s5, s6, s7, s8, s9, s10, s11, s12, s13, s14, s15, s16, s17, s18, s19, s20, s21, s22, s23, s24, s25, s26, s27, s28, s29⟩
               go_simp
               with_reducible rfl
              rotate_left
              ·exact ap
              refine put 72 141 (bt 75 9444732965739290427391) HT_ ?_
              refine put 73 142 (bt 75 18889465931478580854783) HT_ ?_
              refine put 74 143 (bt 75 37778931862957161709567) HT_ ?_
              refine done_ (done_of HT_.out (by kernel_rfl)) ?_
              try go_wp2
              go_ret
              exact ⟨a5_14, sbw⟩
            ·have H' := am H
             clear H
             obtain ⟨Ao80, co80, eo80⟩ := Kd.R_slice HO_7.out
             subst eo80
             try go_wp2
             replace HO_7 := am (Kd.R_drew HO_7.out)
             replace HO_318000 := am (Kd.R_drew HO_318000.out)
             replace HO_324000 := am (Kd.R_drew HO_324000.out)
             replace BK317 := am (blk_drew BK317.out)
             replace BK318 := am (blk_drew BK318.out)
             replace BK323 := am (blk_drew BK323.out)
             replace HB := am (below_drew1 HB.out)
             have q82 : (x8_2 : Int) ≤ ((t325.length : Int) : Int) := sa
             obtain ⟨i082, hi082, _, hsz82, _⟩ := info_parts info3
             have hroom82 : t325.length ≤ co80 := (Kd.R_reads' HO_7.out).2.1
             have hC82 : Kd.C (Kd.int .i64) _ Ao80 t325.length t325 := (Kd.R_reads' HO_7.out).2.2
             have hcut82 := cut_to (P := Try.prog) 34 3 .i64 Try.underlying34 hi082 Ao80 t325.length co80 x8_2 (sa) q82 hroom82
             have hr82 := Kd.C_take (m := (x8_2 : Int).toNat) hC82 (by omega)
             have hy82 : y328.length = (x8_2 : Int).toNat := a5_15
             rw [← Ny328.out] at hr82
             rw [← hy82] at hcut82
             have HR331 := am hr82
             have HC331 := am (show y328.length ≤ co80 from by omega)
             clear hr82 hC82 hroom82 hi082 hsz82
             have KY82 := am hy82
             clear hy82
             have KL82 := am (show (x8_2 : Int).toNat ≤ t325.length from by omega)
             replace q82 := eq_true q82
             have p332 : 0 ≤ (x8_2 : Int) := sa
             have q332 : x8_2 < (t325.length : Int) := sa
             obtain ⟨ad332, e332, hx332_0⟩ := Kd.at_int (Kd.R_reads' HO_7.out).2.2 x8_2 p332 q332
             cases e332
             replace p332 := eq_true p332
             replace q332 := eq_true q332
             have p334 : 0 ≤ ((ji49) : Int) := sa
             have q334 : (ji49) < (t325.length : Int) := sa
             obtain ⟨ad334, e334, hx334_0⟩ := Kd.at_int (Kd.R_reads' HO_7.out).2.2 (ji49) p334 q334
             obtain rfl : ad332 = ad334 := (by injection e334)
             replace p334 := eq_true p334
             replace q334 := eq_true q334
             have p335 : 0 ≤ ((rd t325 (ji49)) : Int) := sa
             have q335 : (rd t325 (ji49)) < (t319.length : Int) := sa
             obtain ⟨ad335, e335, hx335_0, hx335_1, hx335_2, hx335_3, hx335_4, hx335_5⟩ := at_T28 (Kd.R_reads' HO_324000.out).2.2 (rd t325 (ji49)) p335 q335
             cases e335
             replace p335 := eq_true p335
             replace q335 := eq_true q335
             have p336 : 0 ≤ (x8_2 : Int) := sa
             have q336 : x8_2 < (t325.length : Int) := sa
             obtain ⟨ad336, e336, hx336_0⟩ := Kd.at_int (Kd.R_reads' HO_7.out).2.2 x8_2 p336 q336
             obtain rfl : ad332 = ad336 := (by injection e336)
             replace p336 := eq_true p336
             replace q336 := eq_true q336
             have p337 : 0 ≤ ((rd t325 x8_2) : Int) := sa
             have q337 : (rd t325 x8_2) < (t319.length : Int) := sa
             obtain ⟨ad337, e337, hx337_0, hx337_1, hx337_2, hx337_3, hx337_4, hx337_5⟩ := at_T28 (Kd.R_reads' HO_324000.out).2.2 (rd t325 x8_2) p337 q337
             obtain rfl : ad335 = ad337 := (by injection e337)
             replace p337 := eq_true p337
             replace q337 := eq_true q337
             have p344 : 0 ≤ ((ji49) : Int) := sa
             have q344 : (ji49) < (t325.length : Int) := sa
             obtain ⟨ad344, e344, hx344_0⟩ := Kd.at_int (Kd.R_reads' HO_7.out).2.2 (ji49) p344 q344
             obtain rfl : ad332 = ad344 := (by injection e344)
             replace p344 := eq_true p344
             replace q344 := eq_true q344
             have p345 : 0 ≤ ((rd t325 (ji49)) : Int) := sa
             have q345 : (rd t325 (ji49)) < (t319.length : Int) := sa
             obtain ⟨ad345, e345, hx345_0, hx345_1, hx345_2, hx345_3, hx345_4, hx345_5⟩ := at_T28 (Kd.R_reads' HO_324000.out).2.2 (rd t325 (ji49)) p345 q345
             obtain rfl : ad335 = ad345 := (by injection e345)
             replace p345 := eq_true p345
             replace q345 := eq_true q345
             have p346 : 0 ≤ (x8_2 : Int) := sa
             have q346 : x8_2 < (t325.length : Int) := sa
             obtain ⟨ad346, e346, hx346_0⟩ := Kd.at_int (Kd.R_reads' HO_7.out).2.2 x8_2 p346 q346
             obtain rfl : ad332 = ad346 := (by injection e346)
             replace p346 := eq_true p346
             replace q346 := eq_true q346
             have p347 : 0 ≤ ((rd t325 x8_2) : Int) := sa
             have q347 : (rd t325 x8_2) < (t319.length : Int) := sa
             obtain ⟨ad347, e347, hx347_0, hx347_1, hx347_2, hx347_3, hx347_4, hx347_5⟩ := at_T28 (Kd.R_reads' HO_324000.out).2.2 (rd t325 x8_2) p347 q347
             obtain rfl : ad335 = ad347 := (by injection e347)
             replace p347 := eq_true p347
             replace q347 := eq_true q347
             as_aux_lemma =>
              refine start_ (n := 75) (S := fun w' => w'.cell? ⟨gb323, 0, none⟩ = some (.slice (some ad335) t319.length co16) ∧ w'.cell? (ad332.add (x8_2).toNat) = some (.int .i64 (rd t325 x8_2)) ∧ w'.cell? (ad332.add ((ji49)).toNat) = some (.int .i64 (rd t325 (ji49))) ∧ w'.cell? (ad335.add (((rd t325 (ji49))).toNat * 6)) = some (.int .i64 ((rd_T28 t319 (rd t325 (ji49))).f0)) ∧ w'.cell? ⟨(ad335.add (((rd t325 (ji49))).toNat * 6)).block, (ad335.add (((rd t325 (ji49))).toNat * 6)).off + 1, none⟩ = some (.int .i64 ((rd_T28 t319 (rd t325 (ji49))).f1)) ∧ w'.cell? ⟨(ad335.add (((rd t325 (ji49))).toNat * 6)).block, (ad335.add (((rd t325 (ji49))).toNat * 6)).off + 2, none⟩ = some (.int .i64 ((rd_T28 t319 (rd t325 (ji49))).f2)) ∧ w'.cell? ⟨(ad335.add (((rd t325 (ji49))).toNat * 6)).block, (ad335.add (((rd t325 (ji49))).toNat * 6)).off + 3, none⟩ = some (.int .i64 ((rd_T28 t319 (rd t325 (ji49))).f3)) ∧ w'.cell? ⟨(ad335.add (((rd t325 (ji49))).toNat * 6)).block, (ad335.add (((rd t325 (ji49))).toNat * 6)).off + 4, none⟩ = some (.int .i64 ((rd_T28 t319 (rd t325 (ji49))).f4)) ∧ w'.cell? ⟨(ad335.add (((rd t325 (ji49))).toNat * 6)).block, (ad335.add (((rd t325 (ji49))).toNat * 6)).off + 5, none⟩ = some (.int .i64 ((rd_T28 t319 (rd t325 (ji49))).f5)) ∧ w'.cell? (ad332.add (x8_2).toNat) = some (.int .i64 (rd t325 x8_2)) ∧ w'.cell? (ad335.add (((rd t325 x8_2)).toNat * 6)) = some (.int .i64 ((rd_T28 t319 (rd t325 x8_2)).f0)) ∧ w'.cell? ⟨(ad335.add (((rd t325 x8_2)).toNat * 6)).block, (ad335.add (((rd t325 x8_2)).toNat * 6)).off + 1, none⟩ = some (.int .i64 ((rd_T28 t319 (rd t325 x8_2)).f1)) ∧ w'.cell? ⟨(ad335.add (((rd t325 x8_2)).toNat * 6)).block, (ad335.add (((rd t325 x8_2)).toNat * 6)).off + 2, none⟩ = some (.int .i64 ((rd_T28 t319 (rd t325 x8_2)).f2)) ∧ w'.cell? ⟨(ad335.add (((rd t325 x8_2)).toNat * 6)).block, (ad335.add (((rd t325 x8_2)).toNat * 6)).off + 3, none⟩ = some (.int .i64 ((rd_T28 t319 (rd t325 x8_2)).f3)) ∧ w'.cell? ⟨(ad335.add (((rd t325 x8_2)).toNat * 6)).block, (ad335.add (((rd t325 x8_2)).toNat * 6)).off + 4, none⟩ = some (.int .i64 ((rd_T28 t319 (rd t325 x8_2)).f4)) ∧ w'.cell? ⟨(ad335.add (((rd t325 x8_2)).toNat * 6)).block, (ad335.add (((rd t325 x8_2)).toNat * 6)).off + 5, none⟩ = some (.int .i64 ((rd_T28 t319 (rd t325 x8_2)).f5)) ∧ w'.cell? (ad332.add ((ji49)).toNat) = some (.int .i64 (rd t325 (ji49))) ∧ w'.cell? (ad335.add (((rd t325 (ji49))).toNat * 6)) = some (.int .i64 ((rd_T28 t319 (rd t325 (ji49))).f0)) ∧ w'.cell? ⟨(ad335.add (((rd t325 (ji49))).toNat * 6)).block, (ad335.add (((rd t325 (ji49))).toNat * 6)).off + 1, none⟩ = some (.int .i64 ((rd_T28 t319 (rd t325 (ji49))).f1)) ∧ w'.cell? ⟨(ad335.add (((rd t325 (ji49))).toNat * 6)).block, (ad335.add (((rd t325 (ji49))).toNat * 6)).off + 2, none⟩ = some (.int .i64 ((rd_T28 t319 (rd t325 (ji49))).f2)) ∧ w'.cell? ⟨(ad335.add (((rd t325 (ji49))).toNat * 6)).block, (ad335.add (((rd t325 (ji49))).toNat * 6)).off + 3, none⟩ = some (.int .i64 ((rd_T28 t319 (rd t325 (ji49))).f3)) ∧ w'.cell? ⟨(ad335.add (((rd t325 (ji49))).toNat * 6)).block, (ad335.add (((rd t325 (ji49))).toNat * 6)).off + 4, none⟩ = some (.int .i64 ((rd_T28 t319 (rd t325 (ji49))).f4)) ∧ w'.cell? ⟨(ad335.add (((rd t325 (ji49))).toNat * 6)).block, (ad335.add (((rd t325 (ji49))).toNat * 6)).off + 5, none⟩ = some (.int .i64 ((rd_T28 t319 (rd t325 (ji49))).f5)) ∧ w'.cell? (ad332.add (x8_2).toNat) = some (.int .i64 (rd t325 x8_2)) ∧ w'.cell? (ad335.add (((rd t325 x8_2)).toNat * 6)) = some (.int .i64 ((rd_T28 t319 (rd t325 x8_2)).f0)) ∧ w'.cell? ⟨(ad335.add (((rd t325 x8_2)).toNat * 6)).block, (ad335.add (((rd t325 x8_2)).toNat * 6)).off + 1, none⟩ = some (.int .i64 ((rd_T28 t319 (rd t325 x8_2)).f1)) ∧ w'.cell? ⟨(ad335.add (((rd t325 x8_2)).toNat * 6)).block, (ad335.add (((rd t325 x8_2)).toNat * 6)).off + 2, none⟩ = some (.int .i64 ((rd_T28 t319 (rd t325 x8_2)).f2)) ∧ w'.cell? ⟨(ad335.add (((rd t325 x8_2)).toNat * 6)).block, (ad335.add (((rd t325 x8_2)).toNat * 6)).off + 3, none⟩ = some (.int .i64 ((rd_T28 t319 (rd t325 x8_2)).f3)) ∧ w'.cell? ⟨(ad335.add (((rd t325 x8_2)).toNat * 6)).block, (ad335.add (((rd t325 x8_2)).toNat * 6)).off + 4, none⟩ = some (.int .i64 ((rd_T28 t319 (rd t325 x8_2)).f4)) ∧ w'.cell? ⟨(ad335.add (((rd t325 x8_2)).toNat * 6)).block, (ad335.add (((rd t325 x8_2)).toNat * 6)).off + 5, none⟩ = some (.int .i64 ((rd_T28 t319 (rd t325 x8_2)).f5))) (ds := []) #[false, false, false, false, false, false, false, false, false, false, false, false, false, false, false, false, false, false, false, false, false, false, false, false, false, false, false, false, false, false, false, false, false, false, false, false, false, false, false, false, false, false, false, false, false, false, false, false, false, false, false, false, false, false, false, false, false, false, false, false, false, false, false, false, false, false, false, false, false, false, false, false, false, false, false] (by kernel_rfl) rfl rfl ⟨bc0 BK323, hx332_0, hx334_0, hx335_0, hx335_1, hx335_2, hx335_3, hx335_4, hx335_5, hx336_0, hx337_0, hx337_1, hx337_2, hx337_3, hx337_4, hx337_5, hx344_0, hx345_0, hx345_1, hx345_2, hx345_3, hx345_4, hx345_5, hx346_0, hx347_0, hx347_1, hx347_2, hx347_3, hx347_4, hx347_5⟩ (fun hHeld => ?_); refine with_tabW laws_FnQueues.tab11 laws_FnQueues.bits11 (fun HT_ HW_ => ?_)
              generalize wr.drew = w81 at HO_7 HO_318000 HO_324000 BK317 BK318 BK323 HB HR331 hx332_0 hx334_0 hx335_0 hx335_1 hx335_2 hx335_3 hx335_4 hx335_5 hx336_0 hx337_0 hx337_1 hx337_2 hx337_3 hx337_4 hx337_5 hx344_0 hx345_0 hx345_1 hx345_2 hx345_3 hx345_4 hx345_5 hx346_0 hx347_0 hx347_1 hx347_2 hx347_3 hx347_4 hx347_5 hHeld ⊢
              refine put 0 69 (bt 75 1) HT_ ?_
              refine put 1 70 (bt 75 3) HT_ ?_
              refine put 2 71 (bt 75 7) HT_ ?_
              refine put 3 72 (bt 75 15) HT_ ?_
              refine put 4 73 (bt 75 31) HT_ ?_
              refine put 5 74 (bt 75 63) HT_ ?_
              refine take_ (i := 6) (N := some 75) (v := ?_) (a' := ?_) (bt 75 127) rfl rfl (take_ofW HT_.out HW_.out (by kernel_rfl)) (fun _ _ _ h => h) (Or.inl ⟨by rfl, ?_⟩) hHeld ?_ ?_
              rotate_left
              ·rintro w' ⟨s0, s1, s2, s3, s4, s5, s6, s7, s8, s9, s10, s11, s12, s13, s14, s15, s16, s17, s18, s19, s20, s21, s22, s23, s24, s25, s26, s27, s28, s29⟩
               go_simp
               with_reducible rfl
              rotate_left
              ·exact ap
              refine on 7 76 (bt 75 255) HT_ (fun K hK => ?_)
              refine goes_ Try.func9 (by kernel_rfl) rfl #[.slice (some ad332) y328.length co80, .int .i64 (rd t325 x8_2)] (by rfl) rfl rfl sl ?_
              with_reducible refine (laws_contains.calls k2 _ _ y328 (rd t325 x8_2) false _ ?side1 ?side2 A43.out).mono ?_
              (case side1 => repeat (first | exact (cq HR331) | (with_reducible refine Kd.C_alloc ?_ _) | (with_reducible refine Kd.C_drewN ?_ _) | (with_reducible refine Kd.C_drew ?_)))
              (case side2 => exact HC331.out)
              rintro e w' ⟨rfl, ⟨nd, rfl⟩⟩
              refine ⟨_, rfl, ?_⟩
              refine hK.out _ _ ⟨bc0 BK323, hHeld.2.1, hHeld.2.2.1, hHeld.2.2.2.1, hHeld.2.2.2.2.1, hHeld.2.2.2.2.2.1, hHeld.2.2.2.2.2.2.1, hHeld.2.2.2.2.2.2.2.1, hHeld.2.2.2.2.2.2.2.2.1, hHeld.2.2.2.2.2.2.2.2.2.1, hHeld.2.2.2.2.2.2.2.2.2.2.1, hHeld.2.2.2.2.2.2.2.2.2.2.2.1, hHeld.2.2.2.2.2.2.2.2.2.2.2.2.1, hHeld.2.2.2.2.2.2.2.2.2.2.2.2.2.1, hHeld.2.2.2.2.2.2.2.2.2.2.2.2.2.2.1, hHeld.2.2.2.2.2.2.2.2.2.2.2.2.2.2.2.1, hHeld.2.2.2.2.2.2.2.2.2.2.2.2.2.2.2.2.1, hHeld.2.2.2.2.2.2.2.2.2.2.2.2.2.2.2.2.2.1, hHeld.2.2.2.2.2.2.2.2.2.2.2.2.2.2.2.2.2.2.1, hHeld.2.2.2.2.2.2.2.2.2.2.2.2.2.2.2.2.2.2.2.1, hHeld.2.2.2.2.2.2.2.2.2.2.2.2.2.2.2.2.2.2.2.2.1, hHeld.2.2.2.2.2.2.2.2.2.2.2.2.2.2.2.2.2.2.2.2.2.1, hHeld.2.2.2.2.2.2.2.2.2.2.2.2.2.2.2.2.2.2.2.2.2.2.1, hHeld.2.2.2.2.2.2.2.2.2.2.2.2.2.2.2.2.2.2.2.2.2.2.2.1, hHeld.2.2.2.2.2.2.2.2.2.2.2.2.2.2.2.2.2.2.2.2.2.2.2.2.1, hHeld.2.2.2.2.2.2.2.2.2.2.2.2.2.2.2.2.2.2.2.2.2.2.2.2.2.1, hHeld.2.2.2.2.2.2.2.2.2.2.2.2.2.2.2.2.2.2.2.2.2.2.2.2.2.2.1, hHeld.2.2.2.2.2.2.2.2.2.2.2.2.2.2.2.2.2.2.2.2.2.2.2.2.2.2.2.1, hHeld.2.2.2.2.2.2.2.2.2.2.2.2.2.2.2.2.2.2.2.2.2.2.2.2.2.2.2.2.1, hHeld.2.2.2.2.2.2.2.2.2.2.2.2.2.2.2.2.2.2.2.2.2.2.2.2.2.2.2.2.2⟩ (fun hHeld => ?_)
              clear hK K
              refine nm 76 ?_
              refine put 8 77 (bt 75 511) HT_ ?_
              refine put 9 78 (bt 75 1023) HT_ ?_
              refine put 10 79 (bt 75 2047) HT_ ?_
              refine put 11 80 (bt 75 4095) HT_ ?_
              refine put 12 81 (bt 75 8191) HT_ ?_
              refine put 14 83 (bt 75 24575) HT_ ?_
              refine put 15 84 (bt 75 57343) HT_ ?_
              refine put 16 85 (bt 75 122879) HT_ ?_
              refine put 17 86 (bt 75 253951) HT_ ?_
              refine put 22 91 (bt 75 4448255) HT_ ?_
              refine put 24 93 (bt 75 21225471) HT_ ?_
              refine put 25 94 (bt 75 54779903) HT_ ?_
              refine put 26 95 (bt 75 121888767) HT_ ?_
              refine take_ (i := 13) (N := some 82) (v := ?_) (a' := ?_) (bt 75 121896959) rfl rfl (take_ofW HT_.out HW_.out (by kernel_rfl)) (fun _ _ _ h => h) (Or.inl ⟨by rfl, ?_⟩) hHeld ?_ ?_
              rotate_left
              ·rintro w' ⟨s0, s1, s2, s3, s4, s5, s6, s7, s8, s9, s10, s11, s12, s13, s14, s15, s16, s17, s18, s19, s20, s21, s22, s23, s24, s25, s26, s27, s28, s29⟩
               go_simp
               with_reducible rfl
              rotate_left
              ·exact ap
              refine take_ (i := 18) (N := some 87) (v := ?_) (a' := ?_) (bt 75 122159103) rfl rfl (take_ofW HT_.out HW_.out (by kernel_rfl)) (fun _ _ _ h => h) (Or.inl ⟨by rfl, ?_⟩) hHeld ?_ ?_
              rotate_left
              ·rintro w' ⟨s0, s1, s2, s3, s4, s5, s6, s7, s8, s9, s10, s11, s12, s13, s14, s15, s16, s17, s18, s19, s20, s21, s22, s23, s24, s25, s26, s27, s28, s29⟩
               go_simp
               with_reducible rfl
              rotate_left
              ·exact ap
              refine put 19 88 (bt 75 122683391) HT_ ?_
              refine put 20 89 (bt 75 123731967) HT_ ?_
              refine take_ (i := 21) (N := some 90) (v := ?_) (a' := ?_) (bt 75 125829119) rfl rfl (take_ofW HT_.out HW_.out (by kernel_rfl)) (fun _ _ _ h => h) (Or.inl ⟨by rfl, ?_⟩) hHeld ?_ ?_
              rotate_left
              ·rintro w' ⟨s0, s1, s2, s3, s4, s5, s6, s7, s8, s9, s10, s11, s12, s13, s14, s15, s16, s17, s18, s19, s20, s21, s22, s23, s24, s25, s26, s27, s28, s29⟩
               go_simp
               with_reducible rfl
              rotate_left
              ·exact ap
              refine take_ (i := 23) (N := some 92) (v := ?_) (a' := ?_) (bt 75 134217727) rfl rfl (take_ofW HT_.out HW_.out (by kernel_rfl)) (fun _ _ _ h => h) (Or.inl ⟨by rfl, ?_⟩) hHeld ?_ ?_
              rotate_left
              ·rintro w' ⟨s0, s1, s2, s3, s4, s5, s6, s7, s8, s9, s10, s11, s12, s13, s14, s15, s16, s17, s18, s19, s20, s21, s22, s23, s24, s25, s26, s27, s28, s29⟩
               go_simp
               with_reducible rfl
              rotate_left
              ·exact ap
              refine take_ (i := 27) (N := some 96) (v := ?_) (a' := ?_) (bt 75 268435455) rfl rfl (take_ofW HT_.out HW_.out (by kernel_rfl)) (fun _ _ _ h => h) (Or.inl ⟨by rfl, ?_⟩) hHeld ?_ ?_
              rotate_left
              ·rintro w' ⟨s0, s1, s2, s3, s4, s5, s6, s7, s8, s9, s10, s11, s12, s13, s14, s15, s16, s17, s18, s19, s20, s21, s22, s23, s24, s25, s26, s27, s28, s29⟩
               go_simp
               with_reducible rfl
              rotate_left
              ·exact ap
              refine put 28 97 (bt 75 536870911) HT_ ?_
              refine put 29 98 (bt 75 1073741823) HT_ ?_
              refine take_ (i := 30) (N := some 99) (v := ?_) (a' := ?_) (bt 75 2147483647) rfl rfl (take_ofW HT_.out HW_.out (by kernel_rfl)) (fun _ _ _ h => h) (Or.inl ⟨by rfl, ?_⟩) hHeld ?_ ?_
              rotate_left
              ·rintro w' ⟨s0, s1, s2, s3, s4, s5, s6, s7, s8, s9, s10, s11, s12, s13, s14, s15, s16, s17, s18, s19, s20, s21, s22, s23, s24, s25, s26, s27, s28, s29⟩
               go_simp
               with_reducible rfl
              rotate_left
              ·exact ap
              refine put 31 100 (bt 75 4294967295) HT_ ?_
              refine put 32 101 (bt 75 8589934591) HT_ ?_
              refine put 33 102 (bt 75 17179869183) HT_ ?_
              refine pn 34 103 (bt 75 34359738367) HT_ ?_
              refine pn 35 104 (bt 75 68719476735) HT_ ?_
              refine pn 36 105 (bt 75 137438953471) HT_ ?_
              refine pn 37 106 (bt 75 274877906943) HT_ ?_
              refine pn 38 107 (bt 75 549755813887) HT_ ?_
              refine pn 39 108 (bt 75 1099511627775) HT_ ?_
              refine pn 40 109 (bt 75 2199023255551) HT_ ?_
              refine pn 41 110 (bt 75 4398046511103) HT_ ?_
              refine pn 42 111 (bt 75 8796093022207) HT_ ?_
              refine pn 43 112 (bt 75 17592186044415) HT_ ?_
              refine put 44 113 (bt 75 35184372088831) HT_ ?_
              refine put 45 114 (bt 75 70368744177663) HT_ ?_
              refine put 46 115 (bt 75 140737488355327) HT_ ?_
              refine put 47 116 (bt 75 281474976710655) HT_ ?_
              refine put 48 117 (bt 75 562949953421311) HT_ ?_
              refine put 49 118 (bt 75 1125899906842623) HT_ ?_
              refine put 50 119 (bt 75 2251799813685247) HT_ ?_
              refine put 52 121 (bt 75 6755399441055743) HT_ ?_
              refine put 53 122 (bt 75 15762598695796735) HT_ ?_
              refine put 54 123 (bt 75 33776997205278719) HT_ ?_
              refine put 55 124 (bt 75 69805794224242687) HT_ ?_
              refine take_ (i := 51) (N := some 120) (v := ?_) (a' := ?_) (bt 75 72057594037927935) rfl rfl (take_ofW HT_.out HW_.out (by kernel_rfl)) (fun _ _ _ h => h) (Or.inl ⟨by rfl, ?_⟩) hHeld ?_ ?_
              rotate_left
              ·rintro w' ⟨s0, s1, s2, s3, s4, s5, s6, s7, s8, s9, s10, s11, s12, s13, s14, s15, s16, s17, s18, s19, s20, s21, s22, s23, s24, s25, s26, s27, s28, s29⟩
               go_simp
               with_reducible rfl
              rotate_left
              ·exact ap
              refine take_ (i := 56) (N := some 125) (v := ?_) (a' := ?_) (bt 75 144115188075855871) rfl rfl (take_ofW HT_.out HW_.out (by kernel_rfl)) (fun _ _ _ h => h) (Or.inl ⟨by rfl, ?_⟩) hHeld ?_ ?_
              rotate_left
              ·rintro w' ⟨s0, s1, s2, s3, s4, s5, s6, s7, s8, s9, s10, s11, s12, s13, s14, s15, s16, s17, s18, s19, s20, s21, s22, s23, s24, s25, s26, s27, s28, s29⟩
               go_simp
               with_reducible rfl
              rotate_left
              ·exact ap
              refine put 57 126 (bt 75 288230376151711743) HT_ ?_
              refine put 58 127 (bt 75 576460752303423487) HT_ ?_
              refine take_ (i := 59) (N := some 128) (v := ?_) (a' := ?_) (bt 75 1152921504606846975) rfl rfl (take_ofW HT_.out HW_.out (by kernel_rfl)) (fun _ _ _ h => h) (Or.inl ⟨by rfl, ?_⟩) hHeld ?_ ?_
              rotate_left
              ·rintro w' ⟨s0, s1, s2, s3, s4, s5, s6, s7, s8, s9, s10, s11, s12, s13, s14, s15, s16, s17, s18, s19, s20, s21, s22, s23, s24, s25, s26, s27, s28, s29⟩
               go_simp
               with_reducible rfl
              rotate_left
              ·exact ap
              refine put 60 129 (bt 75 2305843009213693951) HT_ ?_
              refine put 61 130 (bt 75 4611686018427387903) HT_ ?_
              refine put 62 131 (bt 75 9223372036854775807) HT_ ?_
              refine put 63 132 (bt 75 18446744073709551615) HT_ ?_
              refine put 65 134 (bt 75 55340232221128654847) HT_ ?_
              refine put 66 135 (bt 75 129127208515966861311) HT_ ?_
              refine put 67 136 (bt 75 276701161105643274239) HT_ ?_
              refine take_ (i := 64) (N := some 133) (v := ?_) (a' := ?_) (bt 75 295147905179352825855) rfl rfl (take_ofW HT_.out HW_.out (by kernel_rfl)) (fun _ _ _ h => h) (Or.inl ⟨by rfl, ?_⟩) hHeld ?_ ?_
              rotate_left
              ·rintro w' ⟨s0, s1, s2, s3, s4, s5, s6, s7, s8, s9, s10, s11, s12, s13, s14, s15, s16, s17, s18, s19, s20, s21, s22, s23, s24, s25, s26, s27, s28, s29⟩
               go_simp
               with_reducible rfl
              rotate_left
              ·exact ap
              refine take_ (i := 68) (N := some 137) (v := ?_) (a' := ?_) (bt 75 590295810358705651711) rfl rfl (take_ofW HT_.out HW_.out (by kernel_rfl)) (fun _ _ _ h => h) (Or.inl ⟨by rfl, ?_⟩) hHeld ?_ ?_
              rotate_left
              ·rintro w' ⟨s0, s1, s2, s3, s4, s5, s6, s7, s8, s9, s10, s11, s12, s13, s14, s15, s16, s17, s18, s19, s20, s21, s22, s23, s24, s25, s26, s27, s28, s29⟩
               go_simp
               with_reducible rfl
              rotate_left
              ·exact ap
              refine put 69 138 (bt 75 1180591620717411303423) HT_ ?_
              refine put 70 139 (bt 75 2361183241434822606847) HT_ ?_
              refine take_ (i := 71) (N := some 140) (v := ?_) (a' := ?_) (bt 75 4722366482869645213695) rfl rfl (take_ofW HT_.out HW_.out (by kernel_rfl)) (fun _ _ _ h => h) (Or.inl ⟨by rfl, ?_⟩) hHeld ?_ ?_
              rotate_left
              ·rintro w' ⟨s0, s1, s2, s3, s4, s5, s6, s7, s8, s9, s10, s11, s12, s13, s14, s15, s16, s17, s18, s19, s20, s21, s22, s23, s24, s25, s26, s27, s28, s29⟩
               go_simp
               with_reducible rfl
              rotate_left
              ·exact ap
              refine put 72 141 (bt 75 9444732965739290427391) HT_ ?_
              refine put 73 142 (bt 75 18889465931478580854783) HT_ ?_
              refine put 74 143 (bt 75 37778931862957161709567) HT_ ?_
              refine done_ (done_of HT_.out (by kernel_rfl)) ?_
              try go_wp2
              go_roundg k2
              case measure => have := HJ5.out; have := HK2.out; omega
              case rel => exact ⟨(wrap64 (x8_2 + 1)), sc, H', ⟨a5_23⟩, ⟨sr HO_7⟩, ⟨sr HO_318000⟩, ⟨sr HO_324000⟩, ⟨sk BK317⟩, ⟨sk BK318⟩, ⟨sk BK323⟩, ⟨sbw⟩⟩
         ·have H' := am H
          clear H
          obtain ⟨Ao83, co83, eo83⟩ := Kd.R_slice HO_7.out
          subst eo83
          try go_wp2
          replace HO_7 := am (Kd.R_drew HO_7.out)
          replace HO_318000 := am (Kd.R_drew HO_318000.out)
          replace HO_324000 := am (Kd.R_drew HO_324000.out)
          replace BK317 := am (blk_drew BK317.out)
          replace BK318 := am (blk_drew BK318.out)
          replace BK323 := am (blk_drew BK323.out)
          replace HB := am (below_drew1 HB.out)
          have q85 : (x8_2 : Int) ≤ ((t325.length : Int) : Int) := sa
          obtain ⟨i085, hi085, _, hsz85, _⟩ := info_parts info3
          have hroom85 : t325.length ≤ co83 := (Kd.R_reads' HO_7.out).2.1
          have hC85 : Kd.C (Kd.int .i64) _ Ao83 t325.length t325 := (Kd.R_reads' HO_7.out).2.2
          have hcut85 := cut_to (P := Try.prog) 34 3 .i64 Try.underlying34 hi085 Ao83 t325.length co83 x8_2 (sa) q85 hroom85
          have hr85 := Kd.C_take (m := (x8_2 : Int).toNat) hC85 (by omega)
          have hy85 : y328.length = (x8_2 : Int).toNat := a5_15
          rw [← Ny328.out] at hr85
          rw [← hy85] at hcut85
          have HR331 := am hr85
          have HC331 := am (show y328.length ≤ co83 from by omega)
          clear hr85 hC85 hroom85 hi085 hsz85
          have KY85 := am hy85
          clear hy85
          have KL85 := am (show (x8_2 : Int).toNat ≤ t325.length from by omega)
          replace q85 := eq_true q85
          have p332 : 0 ≤ (x8_2 : Int) := sa
          have q332 : x8_2 < (t325.length : Int) := sa
          obtain ⟨ad332, e332, hx332_0⟩ := Kd.at_int (Kd.R_reads' HO_7.out).2.2 x8_2 p332 q332
          cases e332
          replace p332 := eq_true p332
          replace q332 := eq_true q332
          as_aux_lemma =>
           refine start_ (n := 75) (S := fun w' => w'.cell? (ad332.add (x8_2).toNat) = some (.int .i64 (rd t325 x8_2))) (ds := []) #[false, false, false, false, false, false, false, false, false, false, false, false, false, false, false, false, false, false, false, false, false, false, false, false, false, false, false, false, false, false, false, false, false, false, false, false, false, false, false, false, false, false, false, false, false, false, false, false, false, false, false, false, false, false, false, false, false, false, false, false, false, false, false, false, false, false, false, false, false, false, false, false, false, false, false] (by kernel_rfl) rfl rfl (hx332_0) (fun hHeld => ?_); refine with_tabW laws_FnQueues.tab11 laws_FnQueues.bits11 (fun HT_ HW_ => ?_)
           generalize wr.drew = w84 at HO_7 HO_318000 HO_324000 BK317 BK318 BK323 HB HR331 hx332_0 hHeld ⊢
           refine put 0 69 (bt 75 1) HT_ ?_
           refine put 1 70 (bt 75 3) HT_ ?_
           refine put 2 71 (bt 75 7) HT_ ?_
           refine put 3 72 (bt 75 15) HT_ ?_
           refine put 4 73 (bt 75 31) HT_ ?_
           refine put 5 74 (bt 75 63) HT_ ?_
           refine take_ (i := 6) (N := some 75) (v := ?_) (a' := ?_) (bt 75 127) rfl rfl (take_ofW HT_.out HW_.out (by kernel_rfl)) (fun _ _ _ h => h) (Or.inl ⟨by rfl, ?_⟩) hHeld ?_ ?_
           rotate_left
           ·intro w' s0
            go_simp
            with_reducible rfl
           rotate_left
           ·exact ap
           refine on 7 76 (bt 75 255) HT_ (fun K hK => ?_)
           refine goes_ Try.func9 (by kernel_rfl) rfl #[.slice (some ad332) y328.length co83, .int .i64 (rd t325 x8_2)] (by rfl) rfl rfl sl ?_
           with_reducible refine (laws_contains.calls k2 _ _ y328 (rd t325 x8_2) false _ ?side1 ?side2 A43.out).mono ?_
           (case side1 => repeat (first | exact (cq HR331) | (with_reducible refine Kd.C_alloc ?_ _) | (with_reducible refine Kd.C_drewN ?_ _) | (with_reducible refine Kd.C_drew ?_)))
           (case side2 => exact HC331.out)
           rintro e w' ⟨rfl, ⟨nd, rfl⟩⟩
           refine ⟨_, rfl, ?_⟩
           refine hK.out _ _ (hHeld) (fun hHeld => ?_)
           clear hK K
           refine nm 76 ?_
           refine put 8 77 (bt 75 511) HT_ ?_
           refine put 9 78 (bt 75 1023) HT_ ?_
           refine put 10 79 (bt 75 2047) HT_ ?_
           refine put 11 80 (bt 75 4095) HT_ ?_
           refine pn 12 81 (bt 75 8191) HT_ ?_
           refine pn 13 82 (bt 75 16383) HT_ ?_
           refine pn 14 83 (bt 75 32767) HT_ ?_
           refine pn 15 84 (bt 75 65535) HT_ ?_
           refine pn 16 85 (bt 75 131071) HT_ ?_
           refine pn 17 86 (bt 75 262143) HT_ ?_
           refine pn 18 87 (bt 75 524287) HT_ ?_
           refine pn 19 88 (bt 75 1048575) HT_ ?_
           refine pn 20 89 (bt 75 2097151) HT_ ?_
           refine pn 21 90 (bt 75 4194303) HT_ ?_
           refine pn 22 91 (bt 75 8388607) HT_ ?_
           refine pn 23 92 (bt 75 16777215) HT_ ?_
           refine pn 24 93 (bt 75 33554431) HT_ ?_
           refine pn 25 94 (bt 75 67108863) HT_ ?_
           refine pn 26 95 (bt 75 134217727) HT_ ?_
           refine pn 27 96 (bt 75 268435455) HT_ ?_
           refine pn 28 97 (bt 75 536870911) HT_ ?_
           refine pn 29 98 (bt 75 1073741823) HT_ ?_
           refine pn 30 99 (bt 75 2147483647) HT_ ?_
           refine pn 31 100 (bt 75 4294967295) HT_ ?_
           refine put 32 101 (bt 75 8589934591) HT_ ?_
           refine put 33 102 (bt 75 17179869183) HT_ ?_
           refine pn 34 103 (bt 75 34359738367) HT_ ?_
           refine pn 35 104 (bt 75 68719476735) HT_ ?_
           refine pn 36 105 (bt 75 137438953471) HT_ ?_
           refine pn 37 106 (bt 75 274877906943) HT_ ?_
           refine pn 38 107 (bt 75 549755813887) HT_ ?_
           refine pn 39 108 (bt 75 1099511627775) HT_ ?_
           refine pn 40 109 (bt 75 2199023255551) HT_ ?_
           refine pn 41 110 (bt 75 4398046511103) HT_ ?_
           refine pn 42 111 (bt 75 8796093022207) HT_ ?_
           refine pn 43 112 (bt 75 17592186044415) HT_ ?_
           refine put 44 113 (bt 75 35184372088831) HT_ ?_
           refine put 45 114 (bt 75 70368744177663) HT_ ?_
           refine put 46 115 (bt 75 140737488355327) HT_ ?_
           refine put 47 116 (bt 75 281474976710655) HT_ ?_
           refine put 48 117 (bt 75 562949953421311) HT_ ?_
           refine put 49 118 (bt 75 1125899906842623) HT_ ?_
           refine pn 50 119 (bt 75 2251799813685247) HT_ ?_
           refine pn 51 120 (bt 75 4503599627370495) HT_ ?_
           refine pn 52 121 (bt 75 9007199254740991) HT_ ?_
           refine pn 53 122 (bt 75 18014398509481983) HT_ ?_
           refine pn 54 123 (bt 75 36028797018963967) HT_ ?_
           refine pn 55 124 (bt 75 72057594037927935) HT_ ?_
           refine pn 56 125 (bt 75 144115188075855871) HT_ ?_
           refine pn 57 126 (bt 75 288230376151711743) HT_ ?_
           refine pn 58 127 (bt 75 576460752303423487) HT_ ?_
           refine pn 59 128 (bt 75 1152921504606846975) HT_ ?_
           refine pn 60 129 (bt 75 2305843009213693951) HT_ ?_
           refine put 61 130 (bt 75 4611686018427387903) HT_ ?_
           refine put 62 131 (bt 75 9223372036854775807) HT_ ?_
           refine pn 63 132 (bt 75 18446744073709551615) HT_ ?_
           refine pn 64 133 (bt 75 36893488147419103231) HT_ ?_
           refine pn 65 134 (bt 75 73786976294838206463) HT_ ?_
           refine pn 66 135 (bt 75 147573952589676412927) HT_ ?_
           refine pn 67 136 (bt 75 295147905179352825855) HT_ ?_
           refine pn 68 137 (bt 75 590295810358705651711) HT_ ?_
           refine pn 69 138 (bt 75 1180591620717411303423) HT_ ?_
           refine pn 70 139 (bt 75 2361183241434822606847) HT_ ?_
           refine pn 71 140 (bt 75 4722366482869645213695) HT_ ?_
           refine pn 72 141 (bt 75 9444732965739290427391) HT_ ?_
           refine put 73 142 (bt 75 18889465931478580854783) HT_ ?_
           refine put 74 143 (bt 75 37778931862957161709567) HT_ ?_
           refine done_ (done_of HT_.out (by kernel_rfl)) ?_
           try go_wp2
           go_roundg k2
           case measure => have := HJ5.out; have := HK2.out; omega
           case rel => exact ⟨(wrap64 (x8_2 + 1)), sc, H', ⟨a5_23⟩, ⟨sr HO_7⟩, ⟨sr HO_318000⟩, ⟨sr HO_324000⟩, ⟨sk BK317⟩, ⟨sk BK318⟩, ⟨sk BK323⟩, ⟨sbw⟩⟩
       ·obtain ⟨⟨t348, t351⟩, A86, H⟩ := bnd H
        try dsimp only at H
        obtain ⟨⟨t353, t356, t357, t358, t359, t360, t361, t362⟩, A87, H⟩ := bnd H
        try dsimp only at H
        obtain rfl | rfl := tt t362
        ·replace H := ip H
         obtain ⟨-, c89b0, c89b1, H⟩ | ⟨c89, c89b0, c89b1, H⟩ := ib_ H
         ·obtain ⟨c90b0, H⟩ := id_ H
          obtain ⟨c91b0, H⟩ := id_ H
          obtain ⟨c92, H⟩ | ⟨c92, H⟩ := ie_ H
          ·have c92b0 : (!(t356 == ((rd_T28 t348 t351).f0)) || (!(t357 == ((rd_T28 t348 t351).f1)) || (!(t358 == ((rd_T28 t348 t351).f2)) || (!(t359 == ((rd_T28 t348 t351).f3)) || (!(t360 == ((rd_T28 t348 t351).f4)) || (!(t361 == ((rd_T28 t348 t351).f5)))))))) = true := c92
           clear c92
           obtain rfl := Option.some.inj H
           obtain ⟨Ao93, co93, eo93⟩ := Kd.R_slice HO_7.out
           subst eo93
           exact e5_0
          ·have c92b0 : (!(t356 == ((rd_T28 t348 t351).f0)) || (!(t357 == ((rd_T28 t348 t351).f1)) || (!(t358 == ((rd_T28 t348 t351).f2)) || (!(t359 == ((rd_T28 t348 t351).f3)) || (!(t360 == ((rd_T28 t348 t351).f4)) || (!(t361 == ((rd_T28 t348 t351).f5)))))))) = false := by simpa using c92
           clear c92
           obtain ⟨t366, A118, H⟩ := bnd H
           obtain ⟨t367, A119, H⟩ := bnd H
           obtain ⟨-, c120b0, c120b1, H⟩ | ⟨c120, c120b0, c120b1, H⟩ := ib_ H
           ·obtain rfl := Option.some.inj H
            obtain ⟨Ao121, co121, eo121⟩ := Kd.R_slice HO_7.out
            subst eo121
            exact e5_0
           ·obtain rfl := Option.some.inj H
            obtain ⟨Ao151, co151, eo151⟩ := Kd.R_slice HO_7.out
            subst eo151
            try go_wp2_with (first | ((with_reducible refine gc 10 rfl ?_); refine gL (some 146) Try.func10 #[.slice A0 l0.length c0] ?_; (with_reducible refine (spec_DrawTakePacket.calls k2 _ _ l0 t348 t351 _ ?side1 ?side2 A86.out).mono ?_); (case side1 => exact cb HR0); (case side2 => exact HC0.out); rintro e w152 ⟨v349, rfl, ho0, hb⟩; refine ⟨_, rfl, ?_⟩; replace HO_7 := rb HO_7 hb; have HO350 := am (Kd.R_lower (Kd.R_newB (Kd.R_new' (Kd.R_new' ho0 (Kd.R_lt (sr HO_318000))) (Kd.R_lt (sr HO_324000))) (g := gb318) (o := .cells #[.int .i64 t311, .int .i64 t312, .int .i64 t313, .int .i64 t314, .int .i64 t315, .int .i64 t316] 28 (0, 0)) (sk BK318)) (below_size (sbw))); replace HO_318000 := am (Kd.R_elder' (sr HO_318000) (Kd.R_base ho0) hb); replace HO_324000 := am (Kd.R_elder' (sr HO_324000) (Kd.R_base ho0) hb); replace BK317 := bb BK317 hb; replace BK318 := bb BK318 hb; replace BK323 := bb BK323 hb; replace HB := bsw hb; (try clear hb); (try clear hk); (try clear ho0)) | ((with_reducible refine gd 9 rfl ?_); (try (refine gate_guard (by rfl) ?_; dsimp only)); refine bx 9 #[.slice none 0 0] 26 ?_; intro gb352 hg w153 hbox hb; replace HO_7 := rb HO_7 hb; replace HO_318000 := rb HO_318000 hb; replace HO_324000 := rb HO_324000 hb; replace HO350 := rb HO350 hb; have GW352 := bzw w hg; have GE352 := bzw w hg; replace HB := bsw hb; have BK352 := am hbox; have NB317_352 := nl BK317 hg; have NB352_317 := ng BK317 hg; replace BK317 := bb BK317 hb; have NB318_352 := nl BK318 hg; have NB352_318 := ng BK318 hg; replace BK318 := bb BK318 hb; have NB323_352 := nl BK323 hg; have NB352_323 := ng BK323 hg; replace BK323 := bb BK323 hb; clear hb hbox hg; obtain ⟨Ao154, co154, eo154⟩ := Kd.R_slice HO350.out; subst eo154; have hnb155 := NB352_317.out; have hnc155 := NB317_352.out; have hnb156 := NB352_318.out; have hnc156 := NB318_352.out; have hnb157 := NB352_323.out; have hnc157 := NB323_352.out; obtain ⟨hcz158_0, hfz158_0⟩ := cc1 BK352) | ((with_reducible refine gc 11 rfl ?_); refine gL (some 152) Try.func11 #[.agg #[.slice Ao154 t348.length co154], .int .i64 t351] ?_; (with_reducible refine (impl_TakePacket.calls _ _ t348 t351 t353 t356 t357 t358 t359 t360 t361 true _ ?side1 ?side2 A87.out).mono ?_); (case side1 => refine (Kd.R_reads' (e := 28) (base := w.heap.size) (ok := fun k_ => (((True ∧ some k_ ≠ (.slice Ao10 t308.length co10 : Value).ownBlock) ∧ some k_ ≠ (.slice Ao16 t319.length co16 : Value).ownBlock) ∧ k_ ≠ gb318)) (n := t348.length) (c := co154) ?_).2.2; exact a5_11); (case side2 => exact (Kd.R_reads' HO350.out).2.1); rintro e w159 ⟨v354, rfl, ho0, hb⟩; refine ⟨_, rfl, ?_⟩; replace HO_7 := am (Kd.R_below (by (with_reducible repeat (first | apply Kd.R_alloc | apply Kd.R_drewN | apply Kd.R_drew)); exact (Kd.R_mono (Kd.R_far (p := ⟨gb352, 0, none⟩) (Kd.R_types HO_7.out BK352.out (by decide)) (fun _ hk => hk.2) (.slice Ao154 t348.length co154)) (fun _ h_ => h_.1))) hb); have HO355 := am (Kd.R_lower (Kd.R_newB (Kd.R_new' (Kd.R_new' (Kd.R_new' ho0 (Kd.R_lt a5_16)) (Kd.R_lt a5_17)) (Kd.R_lt a5_11)) (g := gb318) (o := .cells #[.int .i64 t311, .int .i64 t312, .int .i64 t313, .int .i64 t314, .int .i64 t315, .int .i64 t316] 28 (0, 0)) (sp BK318)) (below_size (sbw))); replace HO_318000 := am (Kd.R_elder' a5_16 (Kd.R_base ho0) hb); replace HO_324000 := am (Kd.R_elder' a5_17 (Kd.R_base ho0) hb); replace HO350 := am (Kd.R_elder' a5_11 (Kd.R_base ho0) hb); replace BK317 := am (blk_below (g := gb317) (o := .cells #[.slice Ao10 t308.length co10] 26 (0, 0)) (sp BK317) hb); replace BK318 := am (blk_below (g := gb318) (o := .cells #[.int .i64 t311, .int .i64 t312, .int .i64 t313, .int .i64 t314, .int .i64 t315, .int .i64 t316] 28 (0, 0)) (sp BK318) hb); replace BK323 := am (blk_below (g := gb323) (o := .cells #[.slice Ao16 t319.length co16] 26 (0, 0)) (sp BK323) hb); replace BK352 := am (blk_below (g := gb352) (o := .cells #[.slice Ao154 t348.length co154] 26 (0, 0)) (sp BK352) hb); replace HB := bsw hb; (try clear hb); (try clear hk); (try clear ho0)) | ((with_reducible refine gd 11 rfl ?_); (try (refine gate_guard (by rfl) ?_; dsimp only)); refine bx 11 #[.slice none 0 0] 26 ?_; intro gb363 hg w160 hbox hb; replace HO_7 := rb HO_7 hb; replace HO_318000 := rb HO_318000 hb; replace HO_324000 := rb HO_324000 hb; replace HO350 := rb HO350 hb; replace HO355 := rb HO355 hb; have GW363 := bzw w hg; have GE363 := bzw w hg; replace HB := bsw hb; have BK363 := am hbox; have NB317_363 := nl BK317 hg; have NB363_317 := ng BK317 hg; replace BK317 := bb BK317 hb; have NB318_363 := nl BK318 hg; have NB363_318 := ng BK318 hg; replace BK318 := bb BK318 hb; have NB323_363 := nl BK323 hg; have NB363_323 := ng BK323 hg; replace BK323 := bb BK323 hb; have NB352_363 := nl BK352 hg; have NB363_352 := ng BK352 hg; replace BK352 := bb BK352 hb; clear hb hbox hg) | ((with_reducible refine gd 12 rfl ?_); (try (refine gate_guard (by rfl) ?_; dsimp only)); refine bx 12 #[.int .i64 0, .int .i64 0, .int .i64 0, .int .i64 0, .int .i64 0, .int .i64 0] 28 ?_; intro gb364 hg w161 hbox hb; replace HO_7 := rb HO_7 hb; replace HO_318000 := am (Kd.R_below (Kd.R_elderB (sr HO_318000) gb364 (Nat.le_of_eq hg.symm)) hb); replace HO_324000 := am (Kd.R_below (Kd.R_elderB (sr HO_324000) gb364 (Nat.le_of_eq hg.symm)) hb); replace HO350 := am (Kd.R_below (Kd.R_elderB (sr HO350) gb364 (Nat.le_of_eq hg.symm)) hb); replace HO355 := am (Kd.R_below (Kd.R_elderB (sr HO355) gb364 (Nat.le_of_eq hg.symm)) hb); have GW364 := bzw w hg; have GE364 := bzw w hg; replace HB := bsw hb; have BK364 := am hbox; have NB317_364 := nl BK317 hg; have NB364_317 := ng BK317 hg; replace BK317 := bb BK317 hb; have NB318_364 := nl BK318 hg; have NB364_318 := ng BK318 hg; replace BK318 := bb BK318 hb; have NB323_364 := nl BK323 hg; have NB364_323 := ng BK323 hg; replace BK323 := bb BK323 hb; have NB352_364 := nl BK352 hg; have NB364_352 := ng BK352 hg; replace BK352 := bb BK352 hb; have NB363_364 := nl BK363 hg; have NB364_363 := ng BK363 hg; replace BK363 := bb BK363 hb; clear hb hbox hg; obtain ⟨Ao162, co162, eo162⟩ := Kd.R_slice HO355.out; subst eo162; have hnb163 := NB363_317.out; have hnc163 := NB317_363.out; have hnb164 := NB363_318.out; have hnc164 := NB318_363.out; have hnb165 := NB363_323.out; have hnc165 := NB323_363.out; have hnb166 := NB363_352.out; have hnc166 := NB352_363.out; have hnb167 := NB363_364.out; have hnc167 := NB364_363.out; obtain ⟨hcz168_0, hfz168_0⟩ := cc1 BK363; have hnb169 := NB364_317.out; have hnc169 := NB317_364.out; have hnb170 := NB364_318.out; have hnc170 := NB318_364.out; have hnb171 := NB364_323.out; have hnc171 := NB323_364.out; have hnb172 := NB364_352.out; have hnc172 := NB352_364.out; obtain ⟨hcz173_0, hcz173_1, hcz173_2, hcz173_3, hcz173_4, hcz173_5, hfz173_0, hfz173_1, hfz173_2, hfz173_3, hfz173_4, hfz173_5⟩ := cc6 BK364))
            have n0_ : Aside0 (Kd.R (Kd.int .i64) 3 (((((((w161.setCell ⟨gb363, 0, none⟩ (.slice Ao162 t353.length co162)).setCell ⟨gb364, 0, none⟩ (.int .i64 t356)).setCell ⟨gb364, 1, none⟩ (.int .i64 t357)).setCell ⟨gb364, 2, none⟩ (.int .i64 t358)).setCell ⟨gb364, 3, none⟩ (.int .i64 t359)).setCell ⟨gb364, 4, none⟩ (.int .i64 t360)).setCell ⟨gb364, 5, none⟩ (.int .i64 t361)) w.heap.size (fun _ => True) (.slice Ao151 t325.length co151) t325) := ⟨by (with_reducible repeat (first | apply Kd.R_alloc | apply Kd.R_drewN | apply Kd.R_drew)); exact Kd.R_mono (Kd.R_far (p := ⟨gb364, 5, none⟩) (Kd.R_far (p := ⟨gb364, 4, none⟩) (Kd.R_far (p := ⟨gb364, 3, none⟩) (Kd.R_far (p := ⟨gb364, 2, none⟩) (Kd.R_far (p := ⟨gb364, 1, none⟩) (Kd.R_far (p := ⟨gb364, 0, none⟩) (Kd.R_far (p := ⟨gb363, 0, none⟩) (Kd.R_types (Kd.R_types HO_7.out BK363.out (by decide)) BK364.out (by decide)) (fun _ hk => hk.1.2) (.slice Ao162 t353.length co162)) (fun _ hk => hk.2) (.int .i64 t356)) (fun _ hk => hk.2) (.int .i64 t357)) (fun _ hk => hk.2) (.int .i64 t358)) (fun _ hk => hk.2) (.int .i64 t359)) (fun _ hk => hk.2) (.int .i64 t360)) (fun _ hk => hk.2) (.int .i64 t361)) (fun _ hk => trivial)⟩
            have n1_ : Aside0 (Kd.R k28 28 (((((((w161.setCell ⟨gb363, 0, none⟩ (.slice Ao162 t353.length co162)).setCell ⟨gb364, 0, none⟩ (.int .i64 t356)).setCell ⟨gb364, 1, none⟩ (.int .i64 t357)).setCell ⟨gb364, 2, none⟩ (.int .i64 t358)).setCell ⟨gb364, 3, none⟩ (.int .i64 t359)).setCell ⟨gb364, 4, none⟩ (.int .i64 t360)).setCell ⟨gb364, 5, none⟩ (.int .i64 t361)) w.heap.size (fun k_ => some k_ ≠ (.slice Ao16 t319.length co16 : Value).ownBlock ∧ some k_ ≠ (.slice Ao154 t348.length co154 : Value).ownBlock ∧ some k_ ≠ (.slice Ao162 t353.length co162 : Value).ownBlock ∧ k_ ≠ gb318 ∧ k_ ≠ gb364) (.slice Ao10 t308.length co10) t308) := ⟨by (with_reducible repeat (first | apply Kd.R_alloc | apply Kd.R_drewN | apply Kd.R_drew)); exact Kd.R_mono (Kd.R_far (p := ⟨gb364, 5, none⟩) (Kd.R_far (p := ⟨gb364, 4, none⟩) (Kd.R_far (p := ⟨gb364, 3, none⟩) (Kd.R_far (p := ⟨gb364, 2, none⟩) (Kd.R_far (p := ⟨gb364, 1, none⟩) (Kd.R_far (p := ⟨gb364, 0, none⟩) (Kd.R_far (p := ⟨gb363, 0, none⟩) (Kd.R_mono (Kd.R_types HO_318000.out BK363.out (by decide)) (fun k_ hk => (⟨hk, hk.1.2⟩ : _ ∧ k_ ≠ gb364))) (fun _ hk => hk.1.2) (.slice Ao162 t353.length co162)) (fun _ hk => hk.2) (.int .i64 t356)) (fun _ hk => hk.2) (.int .i64 t357)) (fun _ hk => hk.2) (.int .i64 t358)) (fun _ hk => hk.2) (.int .i64 t359)) (fun _ hk => hk.2) (.int .i64 t360)) (fun _ hk => hk.2) (.int .i64 t361)) (fun _ hk => ⟨hk.1.1.1.1.1.1, ⟨hk.1.1.1.1.2, ⟨hk.1.1.1.2, ⟨hk.1.1.1.1.1.2, hk.1.1.2⟩⟩⟩⟩)⟩
            have n2_ : Aside0 (Kd.R k28 28 (((((((w161.setCell ⟨gb363, 0, none⟩ (.slice Ao162 t353.length co162)).setCell ⟨gb364, 0, none⟩ (.int .i64 t356)).setCell ⟨gb364, 1, none⟩ (.int .i64 t357)).setCell ⟨gb364, 2, none⟩ (.int .i64 t358)).setCell ⟨gb364, 3, none⟩ (.int .i64 t359)).setCell ⟨gb364, 4, none⟩ (.int .i64 t360)).setCell ⟨gb364, 5, none⟩ (.int .i64 t361)) w.heap.size (fun k_ => some k_ ≠ (.slice Ao10 t308.length co10 : Value).ownBlock ∧ some k_ ≠ (.slice Ao154 t348.length co154 : Value).ownBlock ∧ some k_ ≠ (.slice Ao162 t353.length co162 : Value).ownBlock ∧ k_ ≠ gb318 ∧ k_ ≠ gb364) (.slice Ao16 t319.length co16) t319) := ⟨by (with_reducible repeat (first | apply Kd.R_alloc | apply Kd.R_drewN | apply Kd.R_drew)); exact Kd.R_mono (Kd.R_far (p := ⟨gb364, 5, none⟩) (Kd.R_far (p := ⟨gb364, 4, none⟩) (Kd.R_far (p := ⟨gb364, 3, none⟩) (Kd.R_far (p := ⟨gb364, 2, none⟩) (Kd.R_far (p := ⟨gb364, 1, none⟩) (Kd.R_far (p := ⟨gb364, 0, none⟩) (Kd.R_far (p := ⟨gb363, 0, none⟩) (Kd.R_mono (Kd.R_types HO_324000.out BK363.out (by decide)) (fun k_ hk => (⟨hk, hk.1.2⟩ : _ ∧ k_ ≠ gb364))) (fun _ hk => hk.1.2) (.slice Ao162 t353.length co162)) (fun _ hk => hk.2) (.int .i64 t356)) (fun _ hk => hk.2) (.int .i64 t357)) (fun _ hk => hk.2) (.int .i64 t358)) (fun _ hk => hk.2) (.int .i64 t359)) (fun _ hk => hk.2) (.int .i64 t360)) (fun _ hk => hk.2) (.int .i64 t361)) (fun _ hk => ⟨hk.1.1.1.1.1.1, ⟨hk.1.1.1.1.2, ⟨hk.1.1.1.2, ⟨hk.1.1.1.1.1.2, hk.1.1.2⟩⟩⟩⟩)⟩
            have n3_ : Aside0 (Kd.R k28 28 (((((((w161.setCell ⟨gb363, 0, none⟩ (.slice Ao162 t353.length co162)).setCell ⟨gb364, 0, none⟩ (.int .i64 t356)).setCell ⟨gb364, 1, none⟩ (.int .i64 t357)).setCell ⟨gb364, 2, none⟩ (.int .i64 t358)).setCell ⟨gb364, 3, none⟩ (.int .i64 t359)).setCell ⟨gb364, 4, none⟩ (.int .i64 t360)).setCell ⟨gb364, 5, none⟩ (.int .i64 t361)) w.heap.size (fun k_ => some k_ ≠ (.slice Ao10 t308.length co10 : Value).ownBlock ∧ some k_ ≠ (.slice Ao16 t319.length co16 : Value).ownBlock ∧ some k_ ≠ (.slice Ao162 t353.length co162 : Value).ownBlock ∧ k_ ≠ gb318 ∧ k_ ≠ gb364) (.slice Ao154 t348.length co154) t348) := ⟨by (with_reducible repeat (first | apply Kd.R_alloc | apply Kd.R_drewN | apply Kd.R_drew)); exact Kd.R_mono (Kd.R_far (p := ⟨gb364, 5, none⟩) (Kd.R_far (p := ⟨gb364, 4, none⟩) (Kd.R_far (p := ⟨gb364, 3, none⟩) (Kd.R_far (p := ⟨gb364, 2, none⟩) (Kd.R_far (p := ⟨gb364, 1, none⟩) (Kd.R_far (p := ⟨gb364, 0, none⟩) (Kd.R_far (p := ⟨gb363, 0, none⟩) (Kd.R_mono (Kd.R_types HO350.out BK363.out (by decide)) (fun k_ hk => (⟨hk, hk.1.2⟩ : _ ∧ k_ ≠ gb364))) (fun _ hk => hk.1.2) (.slice Ao162 t353.length co162)) (fun _ hk => hk.2) (.int .i64 t356)) (fun _ hk => hk.2) (.int .i64 t357)) (fun _ hk => hk.2) (.int .i64 t358)) (fun _ hk => hk.2) (.int .i64 t359)) (fun _ hk => hk.2) (.int .i64 t360)) (fun _ hk => hk.2) (.int .i64 t361)) (fun _ hk => ⟨hk.1.1.1.1.1.1.2, ⟨hk.1.1.1.1.1.2, ⟨hk.1.1.1.2, ⟨hk.1.1.1.1.2, hk.1.1.2⟩⟩⟩⟩)⟩
            have n4_ : Aside0 (Kd.R k28 28 (((((((w161.setCell ⟨gb363, 0, none⟩ (.slice Ao162 t353.length co162)).setCell ⟨gb364, 0, none⟩ (.int .i64 t356)).setCell ⟨gb364, 1, none⟩ (.int .i64 t357)).setCell ⟨gb364, 2, none⟩ (.int .i64 t358)).setCell ⟨gb364, 3, none⟩ (.int .i64 t359)).setCell ⟨gb364, 4, none⟩ (.int .i64 t360)).setCell ⟨gb364, 5, none⟩ (.int .i64 t361)) w.heap.size (fun k_ => some k_ ≠ (.slice Ao10 t308.length co10 : Value).ownBlock ∧ some k_ ≠ (.slice Ao16 t319.length co16 : Value).ownBlock ∧ some k_ ≠ (.slice Ao154 t348.length co154 : Value).ownBlock ∧ k_ ≠ gb318 ∧ k_ ≠ gb364) (.slice Ao162 t353.length co162) t353) := ⟨by (with_reducible repeat (first | apply Kd.R_alloc | apply Kd.R_drewN | apply Kd.R_drew)); exact Kd.R_mono (Kd.R_far (p := ⟨gb364, 5, none⟩) (Kd.R_far (p := ⟨gb364, 4, none⟩) (Kd.R_far (p := ⟨gb364, 3, none⟩) (Kd.R_far (p := ⟨gb364, 2, none⟩) (Kd.R_far (p := ⟨gb364, 1, none⟩) (Kd.R_far (p := ⟨gb364, 0, none⟩) (Kd.R_far (p := ⟨gb363, 0, none⟩) (Kd.R_mono (Kd.R_types HO355.out BK363.out (by decide)) (fun k_ hk => (⟨hk, hk.1.2⟩ : _ ∧ k_ ≠ gb364))) (fun _ hk => hk.1.2) (.slice Ao162 t353.length co162)) (fun _ hk => hk.2) (.int .i64 t356)) (fun _ hk => hk.2) (.int .i64 t357)) (fun _ hk => hk.2) (.int .i64 t358)) (fun _ hk => hk.2) (.int .i64 t359)) (fun _ hk => hk.2) (.int .i64 t360)) (fun _ hk => hk.2) (.int .i64 t361)) (fun _ hk => ⟨hk.1.1.1.1.1.1.2, ⟨hk.1.1.1.1.1.2, ⟨hk.1.1.1.1.2, ⟨hk.1.1.1.2, hk.1.1.2⟩⟩⟩⟩)⟩
            have n5_ : Aside0 ((((((((w161.setCell ⟨gb363, 0, none⟩ (.slice Ao162 t353.length co162)).setCell ⟨gb364, 0, none⟩ (.int .i64 t356)).setCell ⟨gb364, 1, none⟩ (.int .i64 t357)).setCell ⟨gb364, 2, none⟩ (.int .i64 t358)).setCell ⟨gb364, 3, none⟩ (.int .i64 t359)).setCell ⟨gb364, 4, none⟩ (.int .i64 t360)).setCell ⟨gb364, 5, none⟩ (.int .i64 t361)).heap[gb317]? = some (.cells #[.slice Ao10 t308.length co10] 26 (0, 0))) := ⟨sp BK317⟩
            have n6_ : Aside0 ((((((((w161.setCell ⟨gb363, 0, none⟩ (.slice Ao162 t353.length co162)).setCell ⟨gb364, 0, none⟩ (.int .i64 t356)).setCell ⟨gb364, 1, none⟩ (.int .i64 t357)).setCell ⟨gb364, 2, none⟩ (.int .i64 t358)).setCell ⟨gb364, 3, none⟩ (.int .i64 t359)).setCell ⟨gb364, 4, none⟩ (.int .i64 t360)).setCell ⟨gb364, 5, none⟩ (.int .i64 t361)).heap[gb318]? = some (.cells #[.int .i64 t311, .int .i64 t312, .int .i64 t313, .int .i64 t314, .int .i64 t315, .int .i64 t316] 28 (0, 0))) := ⟨sp BK318⟩
            have n7_ : Aside0 ((((((((w161.setCell ⟨gb363, 0, none⟩ (.slice Ao162 t353.length co162)).setCell ⟨gb364, 0, none⟩ (.int .i64 t356)).setCell ⟨gb364, 1, none⟩ (.int .i64 t357)).setCell ⟨gb364, 2, none⟩ (.int .i64 t358)).setCell ⟨gb364, 3, none⟩ (.int .i64 t359)).setCell ⟨gb364, 4, none⟩ (.int .i64 t360)).setCell ⟨gb364, 5, none⟩ (.int .i64 t361)).heap[gb323]? = some (.cells #[.slice Ao16 t319.length co16] 26 (0, 0))) := ⟨sp BK323⟩
            have n8_ : Aside0 ((((((((w161.setCell ⟨gb363, 0, none⟩ (.slice Ao162 t353.length co162)).setCell ⟨gb364, 0, none⟩ (.int .i64 t356)).setCell ⟨gb364, 1, none⟩ (.int .i64 t357)).setCell ⟨gb364, 2, none⟩ (.int .i64 t358)).setCell ⟨gb364, 3, none⟩ (.int .i64 t359)).setCell ⟨gb364, 4, none⟩ (.int .i64 t360)).setCell ⟨gb364, 5, none⟩ (.int .i64 t361)).heap[gb352]? = some (.cells #[.slice Ao154 t348.length co154] 26 (0, 0))) := ⟨sp BK352⟩
            have n9_ : Aside0 ((((((((w161.setCell ⟨gb363, 0, none⟩ (.slice Ao162 t353.length co162)).setCell ⟨gb364, 0, none⟩ (.int .i64 t356)).setCell ⟨gb364, 1, none⟩ (.int .i64 t357)).setCell ⟨gb364, 2, none⟩ (.int .i64 t358)).setCell ⟨gb364, 3, none⟩ (.int .i64 t359)).setCell ⟨gb364, 4, none⟩ (.int .i64 t360)).setCell ⟨gb364, 5, none⟩ (.int .i64 t361)).heap[gb363]? = some (.cells #[.slice Ao162 t353.length co162] 26 (0, 0))) := ⟨sp BK363⟩
            have n10_ : Aside0 ((((((((w161.setCell ⟨gb363, 0, none⟩ (.slice Ao162 t353.length co162)).setCell ⟨gb364, 0, none⟩ (.int .i64 t356)).setCell ⟨gb364, 1, none⟩ (.int .i64 t357)).setCell ⟨gb364, 2, none⟩ (.int .i64 t358)).setCell ⟨gb364, 3, none⟩ (.int .i64 t359)).setCell ⟨gb364, 4, none⟩ (.int .i64 t360)).setCell ⟨gb364, 5, none⟩ (.int .i64 t361)).heap[gb364]? = some (.cells #[.int .i64 t356, .int .i64 t357, .int .i64 t358, .int .i64 t359, .int .i64 t360, .int .i64 t361] 28 (0, 0))) := ⟨sp BK364⟩
            have n11_ : Aside0 (Below w.heap.size w (((((((w161.setCell ⟨gb363, 0, none⟩ (.slice Ao162 t353.length co162)).setCell ⟨gb364, 0, none⟩ (.int .i64 t356)).setCell ⟨gb364, 1, none⟩ (.int .i64 t357)).setCell ⟨gb364, 2, none⟩ (.int .i64 t358)).setCell ⟨gb364, 3, none⟩ (.int .i64 t359)).setCell ⟨gb364, 4, none⟩ (.int .i64 t360)).setCell ⟨gb364, 5, none⟩ (.int .i64 t361))) := ⟨sbw⟩
            (try clear HO_7)
            (try clear HO_318000)
            (try clear HO_324000)
            (try clear HO350)
            (try clear HO355)
            (try clear BK317)
            (try clear BK318)
            (try clear BK323)
            (try clear BK352)
            (try clear BK363)
            (try clear BK364)
            (try clear HB)
            generalize (((((((w161.setCell ⟨gb363, 0, none⟩ (.slice Ao162 t353.length co162)).setCell ⟨gb364, 0, none⟩ (.int .i64 t356)).setCell ⟨gb364, 1, none⟩ (.int .i64 t357)).setCell ⟨gb364, 2, none⟩ (.int .i64 t358)).setCell ⟨gb364, 3, none⟩ (.int .i64 t359)).setCell ⟨gb364, 4, none⟩ (.int .i64 t360)).setCell ⟨gb364, 5, none⟩ (.int .i64 t361)) = w174 at n0_ n1_ n2_ n3_ n4_ n5_ n6_ n7_ n8_ n9_ n10_ n11_ ⊢
            have HO_7 := n0_
            have HO_318000 := n1_
            have HO_324000 := n2_
            have HO350 := n3_
            have HO355 := n4_
            have BK317 := n5_
            have BK318 := n6_
            have BK323 := n7_
            have BK352 := n8_
            have BK363 := n9_
            have BK364 := n10_
            have HB := n11_
            clear n0_ n1_ n2_ n3_ n4_ n5_ n6_ n7_ n8_ n9_ n10_ n11_
            replace HO_7 := am (Kd.R_drew HO_7.out)
            replace HO_318000 := am (Kd.R_drew HO_318000.out)
            replace HO_324000 := am (Kd.R_drew HO_324000.out)
            replace HO350 := am (Kd.R_drew HO350.out)
            replace HO355 := am (Kd.R_drew HO355.out)
            replace BK317 := am (blk_drew BK317.out)
            replace BK318 := am (blk_drew BK318.out)
            replace BK323 := am (blk_drew BK323.out)
            replace BK352 := am (blk_drew BK352.out)
            replace BK363 := am (blk_drew BK363.out)
            replace BK364 := am (blk_drew BK364.out)
            replace HB := am (below_drew1 HB.out)
            have p365 : 0 ≤ (t351 : Int) := sa
            have q365 : t351 < (t348.length : Int) := sa
            obtain ⟨ad365, e365, hx365_0, hx365_1, hx365_2, hx365_3, hx365_4, hx365_5⟩ := at_T28 (Kd.R_reads' HO350.out).2.2 t351 p365 q365
            cases e365
            replace p365 := eq_true p365
            replace q365 := eq_true q365
            as_aux_lemma =>
             refine start_ (n := 32) (S := fun w' => w'.cell? ⟨gb363, 0, none⟩ = some (.slice Ao162 t353.length co162) ∧ w'.cell? ⟨gb352, 0, none⟩ = some (.slice (some ad365) t348.length co154) ∧ w'.cell? ⟨gb364, 0, none⟩ = some (.int .i64 t356) ∧ w'.cell? ⟨gb364, 1, none⟩ = some (.int .i64 t357) ∧ w'.cell? ⟨gb364, 2, none⟩ = some (.int .i64 t358) ∧ w'.cell? ⟨gb364, 3, none⟩ = some (.int .i64 t359) ∧ w'.cell? ⟨gb364, 4, none⟩ = some (.int .i64 t360) ∧ w'.cell? ⟨gb364, 5, none⟩ = some (.int .i64 t361) ∧ w'.cell? (ad365.add ((t351).toNat * 6)) = some (.int .i64 ((rd_T28 t348 t351).f0)) ∧ w'.cell? ⟨(ad365.add ((t351).toNat * 6)).block, (ad365.add ((t351).toNat * 6)).off + 1, none⟩ = some (.int .i64 ((rd_T28 t348 t351).f1)) ∧ w'.cell? ⟨(ad365.add ((t351).toNat * 6)).block, (ad365.add ((t351).toNat * 6)).off + 2, none⟩ = some (.int .i64 ((rd_T28 t348 t351).f2)) ∧ w'.cell? ⟨(ad365.add ((t351).toNat * 6)).block, (ad365.add ((t351).toNat * 6)).off + 3, none⟩ = some (.int .i64 ((rd_T28 t348 t351).f3)) ∧ w'.cell? ⟨(ad365.add ((t351).toNat * 6)).block, (ad365.add ((t351).toNat * 6)).off + 4, none⟩ = some (.int .i64 ((rd_T28 t348 t351).f4)) ∧ w'.cell? ⟨(ad365.add ((t351).toNat * 6)).block, (ad365.add ((t351).toNat * 6)).off + 5, none⟩ = some (.int .i64 ((rd_T28 t348 t351).f5))) (ds := []) #[false, false, false, false, false, false, false, false, false, false, false, false, false, false, false, false, false, false, false, false, false, false, false, false, false, false, false, false, false, false, false, false] (by kernel_rfl) rfl rfl ⟨bc0 BK363, bc0 BK352, bc0 BK364, bc1 BK364, bc2 BK364, bc3 BK364, bc4 BK364, bc5 BK364, hx365_0, hx365_1, hx365_2, hx365_3, hx365_4, hx365_5⟩ (fun hHeld => ?_); refine with_tabW laws_FnQueues.tab15 laws_FnQueues.bits15 (fun HT_ HW_ => ?_)
             generalize w174.drew = w175 at HO_7 HO_318000 HO_324000 HO350 HO355 BK317 BK318 BK323 BK352 BK363 BK364 HB hx365_0 hx365_1 hx365_2 hx365_3 hx365_4 hx365_5 hHeld ⊢
             refine put 0 156 (bt 32 1) HT_ ?_
             refine put 1 157 (bt 32 3) HT_ ?_
             refine put 2 158 (bt 32 7) HT_ ?_
             refine put 5 161 (bt 32 39) HT_ ?_
             refine take_ (i := 3) (N := some 159) (v := ?_) (a' := ?_) (bt 32 47) rfl rfl (take_ofW HT_.out HW_.out (by kernel_rfl)) (fun _ _ _ h => h) (Or.inl ⟨by rfl, ?_⟩) hHeld ?_ ?_
             rotate_left
             ·rintro w' ⟨s0, s1, s2, s3, s4, s5, s6, s7, s8, s9, s10, s11, s12, s13⟩
              go_simp
              with_reducible rfl
             rotate_left
             ·exact ap
             refine put 4 160 (bt 32 63) HT_ ?_
             refine take_ (i := 6) (N := some 162) (v := ?_) (a' := ?_) (bt 32 127) rfl rfl (take_ofW HT_.out HW_.out (by kernel_rfl)) (fun _ _ _ h => h) (Or.inl ⟨by rfl, ?_⟩) hHeld ?_ ?_
             rotate_left
             ·rintro w' ⟨s0, s1, s2, s3, s4, s5, s6, s7, s8, s9, s10, s11, s12, s13⟩
              go_simp
              with_reducible rfl
             rotate_left
             ·exact ap
             refine put 7 163 (bt 32 255) HT_ ?_
             refine put 8 164 (bt 32 511) HT_ ?_
             refine put 9 165 (bt 32 1023) HT_ ?_
             refine put 10 166 (bt 32 2047) HT_ ?_
             refine put 12 168 (bt 32 6143) HT_ ?_
             refine put 14 170 (bt 32 22527) HT_ ?_
             refine take_ (i := 11) (N := some 167) (v := ?_) (a' := ?_) (bt 32 24575) rfl rfl (take_ofW HT_.out HW_.out (by kernel_rfl)) (fun _ _ _ h => h) (Or.inl ⟨by rfl, ?_⟩) hHeld ?_ ?_
             rotate_left
             ·rintro w' ⟨s0, s1, s2, s3, s4, s5, s6, s7, s8, s9, s10, s11, s12, s13⟩
              go_simp
              with_reducible rfl
             rotate_left
             ·exact ap
             refine take_ (i := 13) (N := some 169) (v := ?_) (a' := ?_) (bt 32 32767) rfl rfl (take_ofW HT_.out HW_.out (by kernel_rfl)) (fun _ _ _ h => h) (Or.inl ⟨by rfl, ?_⟩) hHeld ?_ ?_
             rotate_left
             ·rintro w' ⟨s0, s1, s2, s3, s4, s5, s6, s7, s8, s9, s10, s11, s12, s13⟩
              go_simp
              with_reducible rfl
             rotate_left
             ·exact ap
             refine put 15 171 (bt 32 65535) HT_ ?_
             refine take_ (i := 16) (N := some 172) (v := ?_) (a' := ?_) (bt 32 131071) rfl rfl (take_ofW HT_.out HW_.out (by kernel_rfl)) (fun _ _ _ h => h) (Or.inl ⟨by rfl, ?_⟩) hHeld ?_ ?_
             rotate_left
             ·rintro w' ⟨s0, s1, s2, s3, s4, s5, s6, s7, s8, s9, s10, s11, s12, s13⟩
              go_simp
              with_reducible rfl
             rotate_left
             ·exact ap
             refine put 17 173 (bt 32 262143) HT_ ?_
             refine put 18 174 (bt 32 524287) HT_ ?_
             refine put 19 175 (bt 32 1048575) HT_ ?_
             refine put 21 177 (bt 32 3145727) HT_ ?_
             refine put 25 181 (bt 32 36700159) HT_ ?_
             refine take_ (i := 20) (N := some 176) (v := ?_) (a' := ?_) (bt 32 37748735) rfl rfl (take_ofW HT_.out HW_.out (by kernel_rfl)) (fun _ _ _ h => h) (Or.inl ⟨by rfl, ?_⟩) hHeld ?_ ?_
             rotate_left
             ·rintro w' ⟨s0, s1, s2, s3, s4, s5, s6, s7, s8, s9, s10, s11, s12, s13⟩
              go_simp
              with_reducible rfl
             rotate_left
             ·exact ap
             refine take_ (i := 22) (N := some 178) (v := ?_) (a' := ?_) (bt 32 41943039) rfl rfl (take_ofW HT_.out HW_.out (by kernel_rfl)) (fun _ _ _ h => h) (Or.inl ⟨by rfl, ?_⟩) hHeld ?_ ?_
             rotate_left
             ·rintro w' ⟨s0, s1, s2, s3, s4, s5, s6, s7, s8, s9, s10, s11, s12, s13⟩
              go_simp
              with_reducible rfl
             rotate_left
             ·exact ap
             refine take_ (i := 24) (N := some 180) (v := ?_) (a' := ?_) (bt 32 58720255) rfl rfl (take_ofW HT_.out HW_.out (by kernel_rfl)) (fun _ _ _ h => h) (Or.inl ⟨by rfl, ?_⟩) hHeld ?_ ?_
             rotate_left
             ·rintro w' ⟨s0, s1, s2, s3, s4, s5, s6, s7, s8, s9, s10, s11, s12, s13⟩
              go_simp
              with_reducible rfl
             rotate_left
             ·exact ap
             refine take_ (i := 26) (N := some 182) (v := ?_) (a' := ?_) (bt 32 125829119) rfl rfl (take_ofW HT_.out HW_.out (by kernel_rfl)) (fun _ _ _ h => h) (Or.inl ⟨by rfl, ?_⟩) hHeld ?_ ?_
             rotate_left
             ·rintro w' ⟨s0, s1, s2, s3, s4, s5, s6, s7, s8, s9, s10, s11, s12, s13⟩
              go_simp
              with_reducible rfl
             rotate_left
             ·exact ap
             refine on 23 179 (bt 32 134217727) HT_ (fun K hK => ?_)
             refine goes_ Try.func12 (by kernel_rfl) rfl #[.agg #[.slice Ao162 t353.length co162], .int .i64 t361] (by rfl) rfl rfl sl ?_
             with_reducible refine (impl_CountClass.calls k2 _ _ t353 t361 t366 _ ?side1 ?side2 A118.out).mono ?_
             (case side1 => exact cr HO355)
             (case side2 => exact (Kd.R_reads' HO355.out).2.1)
             rintro e w176 ⟨rfl, hb⟩
             have HS8_ := (hb.cell (World.block_lt_of_cell? _ _ (hHeld.2.2.2.2.2.2.2.2.1))).trans (hHeld.2.2.2.2.2.2.2.2.1)
             have HS9_ := (hb.cell (World.block_lt_of_cell? _ _ (hHeld.2.2.2.2.2.2.2.2.2.1))).trans (hHeld.2.2.2.2.2.2.2.2.2.1)
             have HS10_ := (hb.cell (World.block_lt_of_cell? _ _ (hHeld.2.2.2.2.2.2.2.2.2.2.1))).trans (hHeld.2.2.2.2.2.2.2.2.2.2.1)
             have HS11_ := (hb.cell (World.block_lt_of_cell? _ _ (hHeld.2.2.2.2.2.2.2.2.2.2.2.1))).trans (hHeld.2.2.2.2.2.2.2.2.2.2.2.1)
             have HS12_ := (hb.cell (World.block_lt_of_cell? _ _ (hHeld.2.2.2.2.2.2.2.2.2.2.2.2.1))).trans (hHeld.2.2.2.2.2.2.2.2.2.2.2.2.1)
             have HS13_ := (hb.cell (World.block_lt_of_cell? _ _ (hHeld.2.2.2.2.2.2.2.2.2.2.2.2.2))).trans (hHeld.2.2.2.2.2.2.2.2.2.2.2.2.2)
             refine ⟨_, rfl, ?_⟩
             replace HO_7 := rb HO_7 hb
             replace HO_318000 := rb HO_318000 hb
             replace HO_324000 := rb HO_324000 hb
             replace HO350 := rb HO350 hb
             replace HO355 := rb HO355 hb
             replace BK317 := bb BK317 hb
             replace BK318 := bb BK318 hb
             replace BK323 := bb BK323 hb
             replace BK352 := bb BK352 hb
             replace BK363 := bb BK363 hb
             replace BK364 := bb BK364 hb
             replace HB := bsw hb
             (try clear hb)
             (try clear hb2)
             (try clear hk)
             (try clear hi)
             refine hK.out _ _ ⟨bc0 BK363, bc0 BK352, bc0 BK364, bc1 BK364, bc2 BK364, bc3 BK364, bc4 BK364, bc5 BK364, HS8_, HS9_, HS10_, HS11_, HS12_, HS13_⟩ (fun hHeld => ?_)
             clear hK K
             refine nm 179 ?_
             refine on 27 183 (bt 32 268435455) HT_ (fun K hK => ?_)
             refine goes_ Try.func12 (by kernel_rfl) rfl #[.agg #[.slice (some ad365) t348.length co154], .int .i64 t361] (by rfl) rfl rfl sl ?_
             with_reducible refine (impl_CountClass.calls k2 _ _ t348 t361 t367 _ ?side1 ?side2 A119.out).mono ?_
             (case side1 => exact cr HO350)
             (case side2 => exact (Kd.R_reads' HO350.out).2.1)
             rintro e w177 ⟨rfl, hb⟩
             have HS8_ := (hb.cell (World.block_lt_of_cell? _ _ (hHeld.2.2.2.2.2.2.2.2.1))).trans (hHeld.2.2.2.2.2.2.2.2.1)
             have HS9_ := (hb.cell (World.block_lt_of_cell? _ _ (hHeld.2.2.2.2.2.2.2.2.2.1))).trans (hHeld.2.2.2.2.2.2.2.2.2.1)
             have HS10_ := (hb.cell (World.block_lt_of_cell? _ _ (hHeld.2.2.2.2.2.2.2.2.2.2.1))).trans (hHeld.2.2.2.2.2.2.2.2.2.2.1)
             have HS11_ := (hb.cell (World.block_lt_of_cell? _ _ (hHeld.2.2.2.2.2.2.2.2.2.2.2.1))).trans (hHeld.2.2.2.2.2.2.2.2.2.2.2.1)
             have HS12_ := (hb.cell (World.block_lt_of_cell? _ _ (hHeld.2.2.2.2.2.2.2.2.2.2.2.2.1))).trans (hHeld.2.2.2.2.2.2.2.2.2.2.2.2.1)
             have HS13_ := (hb.cell (World.block_lt_of_cell? _ _ (hHeld.2.2.2.2.2.2.2.2.2.2.2.2.2))).trans (hHeld.2.2.2.2.2.2.2.2.2.2.2.2.2)
             refine ⟨_, rfl, ?_⟩
             replace HO_7 := rb HO_7 hb
             replace HO_318000 := rb HO_318000 hb
             replace HO_324000 := rb HO_324000 hb
             replace HO350 := rb HO350 hb
             replace HO355 := rb HO355 hb
             replace BK317 := bb BK317 hb
             replace BK318 := bb BK318 hb
             replace BK323 := bb BK323 hb
             replace BK352 := bb BK352 hb
             replace BK363 := bb BK363 hb
             replace BK364 := bb BK364 hb
             replace HB := bsw hb
             (try clear hb)
             (try clear hb2)
             (try clear hk)
             (try clear hi)
             refine hK.out _ _ ⟨bc0 BK363, bc0 BK352, bc0 BK364, bc1 BK364, bc2 BK364, bc3 BK364, bc4 BK364, bc5 BK364, HS8_, HS9_, HS10_, HS11_, HS12_, HS13_⟩ (fun hHeld => ?_)
             clear hK K
             refine nm 183 ?_
             refine put 28 184 (bt 32 536870911) HT_ ?_
             refine put 29 185 (bt 32 1073741823) HT_ ?_
             refine put 30 186 (bt 32 2147483647) HT_ ?_
             refine put 31 187 (bt 32 4294967295) HT_ ?_
             refine done_ (done_of HT_.out (by kernel_rfl)) ?_
             try go_wp2
             go_ret
             exact ⟨se, sbw⟩
         ·obtain rfl := Option.some.inj H
          obtain ⟨Ao178, co178, eo178⟩ := Kd.R_slice HO_7.out
          subst eo178
          try go_wp2_with (first | ((with_reducible refine gc 10 rfl ?_); refine gL (some 146) Try.func10 #[.slice A0 l0.length c0] ?_; (with_reducible refine (spec_DrawTakePacket.calls k2 _ _ l0 t348 t351 _ ?side1 ?side2 A86.out).mono ?_); (case side1 => exact cb HR0); (case side2 => exact HC0.out); rintro e w179 ⟨v349, rfl, ho0, hb⟩; refine ⟨_, rfl, ?_⟩; replace HO_7 := rb HO_7 hb; have HO350 := am (Kd.R_lower (Kd.R_newB (Kd.R_new' (Kd.R_new' ho0 (Kd.R_lt (sr HO_318000))) (Kd.R_lt (sr HO_324000))) (g := gb318) (o := .cells #[.int .i64 t311, .int .i64 t312, .int .i64 t313, .int .i64 t314, .int .i64 t315, .int .i64 t316] 28 (0, 0)) (sk BK318)) (below_size (sbw))); replace HO_318000 := am (Kd.R_elder' (sr HO_318000) (Kd.R_base ho0) hb); replace HO_324000 := am (Kd.R_elder' (sr HO_324000) (Kd.R_base ho0) hb); replace BK317 := bb BK317 hb; replace BK318 := bb BK318 hb; replace BK323 := bb BK323 hb; replace HB := bsw hb; (try clear hb); (try clear hk); (try clear ho0)) | ((with_reducible refine gd 9 rfl ?_); (try (refine gate_guard (by rfl) ?_; dsimp only)); refine bx 9 #[.slice none 0 0] 26 ?_; intro gb352 hg w180 hbox hb; replace HO_7 := rb HO_7 hb; replace HO_318000 := rb HO_318000 hb; replace HO_324000 := rb HO_324000 hb; replace HO350 := rb HO350 hb; have GW352 := bzw w hg; have GE352 := bzw w hg; replace HB := bsw hb; have BK352 := am hbox; have NB317_352 := nl BK317 hg; have NB352_317 := ng BK317 hg; replace BK317 := bb BK317 hb; have NB318_352 := nl BK318 hg; have NB352_318 := ng BK318 hg; replace BK318 := bb BK318 hb; have NB323_352 := nl BK323 hg; have NB352_323 := ng BK323 hg; replace BK323 := bb BK323 hb; clear hb hbox hg; obtain ⟨Ao181, co181, eo181⟩ := Kd.R_slice HO350.out; subst eo181; have hnb182 := NB352_317.out; have hnc182 := NB317_352.out; have hnb183 := NB352_318.out; have hnc183 := NB318_352.out; have hnb184 := NB352_323.out; have hnc184 := NB323_352.out; obtain ⟨hcz185_0, hfz185_0⟩ := cc1 BK352) | ((with_reducible refine gc 11 rfl ?_); refine gL (some 152) Try.func11 #[.agg #[.slice Ao181 t348.length co181], .int .i64 t351] ?_; (with_reducible refine (impl_TakePacket.calls _ _ t348 t351 t353 t356 t357 t358 t359 t360 t361 true _ ?side1 ?side2 A87.out).mono ?_); (case side1 => refine (Kd.R_reads' (e := 28) (base := w.heap.size) (ok := fun k_ => (((True ∧ some k_ ≠ (.slice Ao10 t308.length co10 : Value).ownBlock) ∧ some k_ ≠ (.slice Ao16 t319.length co16 : Value).ownBlock) ∧ k_ ≠ gb318)) (n := t348.length) (c := co181) ?_).2.2; exact a5_12); (case side2 => exact (Kd.R_reads' HO350.out).2.1); rintro e w186 ⟨v354, rfl, ho0, hb⟩; refine ⟨_, rfl, ?_⟩; replace HO_7 := am (Kd.R_below (by (with_reducible repeat (first | apply Kd.R_alloc | apply Kd.R_drewN | apply Kd.R_drew)); exact (Kd.R_mono (Kd.R_far (p := ⟨gb352, 0, none⟩) (Kd.R_types HO_7.out BK352.out (by decide)) (fun _ hk => hk.2) (.slice Ao181 t348.length co181)) (fun _ h_ => h_.1))) hb); have HO355 := am (Kd.R_lower (Kd.R_newB (Kd.R_new' (Kd.R_new' (Kd.R_new' ho0 (Kd.R_lt a5_18)) (Kd.R_lt a5_19)) (Kd.R_lt a5_12)) (g := gb318) (o := .cells #[.int .i64 t311, .int .i64 t312, .int .i64 t313, .int .i64 t314, .int .i64 t315, .int .i64 t316] 28 (0, 0)) (sp BK318)) (below_size (sbw))); replace HO_318000 := am (Kd.R_elder' a5_18 (Kd.R_base ho0) hb); replace HO_324000 := am (Kd.R_elder' a5_19 (Kd.R_base ho0) hb); replace HO350 := am (Kd.R_elder' a5_12 (Kd.R_base ho0) hb); replace BK317 := am (blk_below (g := gb317) (o := .cells #[.slice Ao10 t308.length co10] 26 (0, 0)) (sp BK317) hb); replace BK318 := am (blk_below (g := gb318) (o := .cells #[.int .i64 t311, .int .i64 t312, .int .i64 t313, .int .i64 t314, .int .i64 t315, .int .i64 t316] 28 (0, 0)) (sp BK318) hb); replace BK323 := am (blk_below (g := gb323) (o := .cells #[.slice Ao16 t319.length co16] 26 (0, 0)) (sp BK323) hb); replace BK352 := am (blk_below (g := gb352) (o := .cells #[.slice Ao181 t348.length co181] 26 (0, 0)) (sp BK352) hb); replace HB := bsw hb; (try clear hb); (try clear hk); (try clear ho0)) | ((with_reducible refine gd 11 rfl ?_); (try (refine gate_guard (by rfl) ?_; dsimp only)); refine bx 11 #[.slice none 0 0] 26 ?_; intro gb363 hg w187 hbox hb; replace HO_7 := rb HO_7 hb; replace HO_318000 := rb HO_318000 hb; replace HO_324000 := rb HO_324000 hb; replace HO350 := rb HO350 hb; replace HO355 := rb HO355 hb; have GW363 := bzw w hg; have GE363 := bzw w hg; replace HB := bsw hb; have BK363 := am hbox; have NB317_363 := nl BK317 hg; have NB363_317 := ng BK317 hg; replace BK317 := bb BK317 hb; have NB318_363 := nl BK318 hg; have NB363_318 := ng BK318 hg; replace BK318 := bb BK318 hb; have NB323_363 := nl BK323 hg; have NB363_323 := ng BK323 hg; replace BK323 := bb BK323 hb; have NB352_363 := nl BK352 hg; have NB363_352 := ng BK352 hg; replace BK352 := bb BK352 hb; clear hb hbox hg) | ((with_reducible refine gd 12 rfl ?_); (try (refine gate_guard (by rfl) ?_; dsimp only)); refine bx 12 #[.int .i64 0, .int .i64 0, .int .i64 0, .int .i64 0, .int .i64 0, .int .i64 0] 28 ?_; intro gb364 hg w188 hbox hb; replace HO_7 := rb HO_7 hb; replace HO_318000 := am (Kd.R_below (Kd.R_elderB (sr HO_318000) gb364 (Nat.le_of_eq hg.symm)) hb); replace HO_324000 := am (Kd.R_below (Kd.R_elderB (sr HO_324000) gb364 (Nat.le_of_eq hg.symm)) hb); replace HO350 := am (Kd.R_below (Kd.R_elderB (sr HO350) gb364 (Nat.le_of_eq hg.symm)) hb); replace HO355 := am (Kd.R_below (Kd.R_elderB (sr HO355) gb364 (Nat.le_of_eq hg.symm)) hb); have GW364 := bzw w hg; have GE364 := bzw w hg; replace HB := bsw hb; have BK364 := am hbox; have NB317_364 := nl BK317 hg; have NB364_317 := ng BK317 hg; replace BK317 := bb BK317 hb; have NB318_364 := nl BK318 hg; have NB364_318 := ng BK318 hg; replace BK318 := bb BK318 hb; have NB323_364 := nl BK323 hg; have NB364_323 := ng BK323 hg; replace BK323 := bb BK323 hb; have NB352_364 := nl BK352 hg; have NB364_352 := ng BK352 hg; replace BK352 := bb BK352 hb; have NB363_364 := nl BK363 hg; have NB364_363 := ng BK363 hg; replace BK363 := bb BK363 hb; clear hb hbox hg; obtain ⟨Ao189, co189, eo189⟩ := Kd.R_slice HO355.out; subst eo189; have hnb190 := NB363_317.out; have hnc190 := NB317_363.out; have hnb191 := NB363_318.out; have hnc191 := NB318_363.out; have hnb192 := NB363_323.out; have hnc192 := NB323_363.out; have hnb193 := NB363_352.out; have hnc193 := NB352_363.out; have hnb194 := NB363_364.out; have hnc194 := NB364_363.out; obtain ⟨hcz195_0, hfz195_0⟩ := cc1 BK363; have hnb196 := NB364_317.out; have hnc196 := NB317_364.out; have hnb197 := NB364_318.out; have hnc197 := NB318_364.out; have hnb198 := NB364_323.out; have hnc198 := NB323_364.out; have hnb199 := NB364_352.out; have hnc199 := NB352_364.out; obtain ⟨hcz200_0, hcz200_1, hcz200_2, hcz200_3, hcz200_4, hcz200_5, hfz200_0, hfz200_1, hfz200_2, hfz200_3, hfz200_4, hfz200_5⟩ := cc6 BK364))
          have n0_ : Aside0 (Kd.R (Kd.int .i64) 3 (((((((w188.setCell ⟨gb363, 0, none⟩ (.slice Ao189 t353.length co189)).setCell ⟨gb364, 0, none⟩ (.int .i64 t356)).setCell ⟨gb364, 1, none⟩ (.int .i64 t357)).setCell ⟨gb364, 2, none⟩ (.int .i64 t358)).setCell ⟨gb364, 3, none⟩ (.int .i64 t359)).setCell ⟨gb364, 4, none⟩ (.int .i64 t360)).setCell ⟨gb364, 5, none⟩ (.int .i64 t361)) w.heap.size (fun _ => True) (.slice Ao178 t325.length co178) t325) := ⟨by (with_reducible repeat (first | apply Kd.R_alloc | apply Kd.R_drewN | apply Kd.R_drew)); exact Kd.R_mono (Kd.R_far (p := ⟨gb364, 5, none⟩) (Kd.R_far (p := ⟨gb364, 4, none⟩) (Kd.R_far (p := ⟨gb364, 3, none⟩) (Kd.R_far (p := ⟨gb364, 2, none⟩) (Kd.R_far (p := ⟨gb364, 1, none⟩) (Kd.R_far (p := ⟨gb364, 0, none⟩) (Kd.R_far (p := ⟨gb363, 0, none⟩) (Kd.R_types (Kd.R_types HO_7.out BK363.out (by decide)) BK364.out (by decide)) (fun _ hk => hk.1.2) (.slice Ao189 t353.length co189)) (fun _ hk => hk.2) (.int .i64 t356)) (fun _ hk => hk.2) (.int .i64 t357)) (fun _ hk => hk.2) (.int .i64 t358)) (fun _ hk => hk.2) (.int .i64 t359)) (fun _ hk => hk.2) (.int .i64 t360)) (fun _ hk => hk.2) (.int .i64 t361)) (fun _ hk => trivial)⟩
          have n1_ : Aside0 (Kd.R k28 28 (((((((w188.setCell ⟨gb363, 0, none⟩ (.slice Ao189 t353.length co189)).setCell ⟨gb364, 0, none⟩ (.int .i64 t356)).setCell ⟨gb364, 1, none⟩ (.int .i64 t357)).setCell ⟨gb364, 2, none⟩ (.int .i64 t358)).setCell ⟨gb364, 3, none⟩ (.int .i64 t359)).setCell ⟨gb364, 4, none⟩ (.int .i64 t360)).setCell ⟨gb364, 5, none⟩ (.int .i64 t361)) w.heap.size (fun k_ => some k_ ≠ (.slice Ao16 t319.length co16 : Value).ownBlock ∧ some k_ ≠ (.slice Ao181 t348.length co181 : Value).ownBlock ∧ some k_ ≠ (.slice Ao189 t353.length co189 : Value).ownBlock ∧ k_ ≠ gb318 ∧ k_ ≠ gb364) (.slice Ao10 t308.length co10) t308) := ⟨by (with_reducible repeat (first | apply Kd.R_alloc | apply Kd.R_drewN | apply Kd.R_drew)); exact Kd.R_mono (Kd.R_far (p := ⟨gb364, 5, none⟩) (Kd.R_far (p := ⟨gb364, 4, none⟩) (Kd.R_far (p := ⟨gb364, 3, none⟩) (Kd.R_far (p := ⟨gb364, 2, none⟩) (Kd.R_far (p := ⟨gb364, 1, none⟩) (Kd.R_far (p := ⟨gb364, 0, none⟩) (Kd.R_far (p := ⟨gb363, 0, none⟩) (Kd.R_mono (Kd.R_types HO_318000.out BK363.out (by decide)) (fun k_ hk => (⟨hk, hk.1.2⟩ : _ ∧ k_ ≠ gb364))) (fun _ hk => hk.1.2) (.slice Ao189 t353.length co189)) (fun _ hk => hk.2) (.int .i64 t356)) (fun _ hk => hk.2) (.int .i64 t357)) (fun _ hk => hk.2) (.int .i64 t358)) (fun _ hk => hk.2) (.int .i64 t359)) (fun _ hk => hk.2) (.int .i64 t360)) (fun _ hk => hk.2) (.int .i64 t361)) (fun _ hk => ⟨hk.1.1.1.1.1.1, ⟨hk.1.1.1.1.2, ⟨hk.1.1.1.2, ⟨hk.1.1.1.1.1.2, hk.1.1.2⟩⟩⟩⟩)⟩
          have n2_ : Aside0 (Kd.R k28 28 (((((((w188.setCell ⟨gb363, 0, none⟩ (.slice Ao189 t353.length co189)).setCell ⟨gb364, 0, none⟩ (.int .i64 t356)).setCell ⟨gb364, 1, none⟩ (.int .i64 t357)).setCell ⟨gb364, 2, none⟩ (.int .i64 t358)).setCell ⟨gb364, 3, none⟩ (.int .i64 t359)).setCell ⟨gb364, 4, none⟩ (.int .i64 t360)).setCell ⟨gb364, 5, none⟩ (.int .i64 t361)) w.heap.size (fun k_ => some k_ ≠ (.slice Ao10 t308.length co10 : Value).ownBlock ∧ some k_ ≠ (.slice Ao181 t348.length co181 : Value).ownBlock ∧ some k_ ≠ (.slice Ao189 t353.length co189 : Value).ownBlock ∧ k_ ≠ gb318 ∧ k_ ≠ gb364) (.slice Ao16 t319.length co16) t319) := ⟨by (with_reducible repeat (first | apply Kd.R_alloc | apply Kd.R_drewN | apply Kd.R_drew)); exact Kd.R_mono (Kd.R_far (p := ⟨gb364, 5, none⟩) (Kd.R_far (p := ⟨gb364, 4, none⟩) (Kd.R_far (p := ⟨gb364, 3, none⟩) (Kd.R_far (p := ⟨gb364, 2, none⟩) (Kd.R_far (p := ⟨gb364, 1, none⟩) (Kd.R_far (p := ⟨gb364, 0, none⟩) (Kd.R_far (p := ⟨gb363, 0, none⟩) (Kd.R_mono (Kd.R_types HO_324000.out BK363.out (by decide)) (fun k_ hk => (⟨hk, hk.1.2⟩ : _ ∧ k_ ≠ gb364))) (fun _ hk => hk.1.2) (.slice Ao189 t353.length co189)) (fun _ hk => hk.2) (.int .i64 t356)) (fun _ hk => hk.2) (.int .i64 t357)) (fun _ hk => hk.2) (.int .i64 t358)) (fun _ hk => hk.2) (.int .i64 t359)) (fun _ hk => hk.2) (.int .i64 t360)) (fun _ hk => hk.2) (.int .i64 t361)) (fun _ hk => ⟨hk.1.1.1.1.1.1, ⟨hk.1.1.1.1.2, ⟨hk.1.1.1.2, ⟨hk.1.1.1.1.1.2, hk.1.1.2⟩⟩⟩⟩)⟩
          have n3_ : Aside0 (Kd.R k28 28 (((((((w188.setCell ⟨gb363, 0, none⟩ (.slice Ao189 t353.length co189)).setCell ⟨gb364, 0, none⟩ (.int .i64 t356)).setCell ⟨gb364, 1, none⟩ (.int .i64 t357)).setCell ⟨gb364, 2, none⟩ (.int .i64 t358)).setCell ⟨gb364, 3, none⟩ (.int .i64 t359)).setCell ⟨gb364, 4, none⟩ (.int .i64 t360)).setCell ⟨gb364, 5, none⟩ (.int .i64 t361)) w.heap.size (fun k_ => some k_ ≠ (.slice Ao10 t308.length co10 : Value).ownBlock ∧ some k_ ≠ (.slice Ao16 t319.length co16 : Value).ownBlock ∧ some k_ ≠ (.slice Ao189 t353.length co189 : Value).ownBlock ∧ k_ ≠ gb318 ∧ k_ ≠ gb364) (.slice Ao181 t348.length co181) t348) := ⟨by (with_reducible repeat (first | apply Kd.R_alloc | apply Kd.R_drewN | apply Kd.R_drew)); exact Kd.R_mono (Kd.R_far (p := ⟨gb364, 5, none⟩) (Kd.R_far (p := ⟨gb364, 4, none⟩) (Kd.R_far (p := ⟨gb364, 3, none⟩) (Kd.R_far (p := ⟨gb364, 2, none⟩) (Kd.R_far (p := ⟨gb364, 1, none⟩) (Kd.R_far (p := ⟨gb364, 0, none⟩) (Kd.R_far (p := ⟨gb363, 0, none⟩) (Kd.R_mono (Kd.R_types HO350.out BK363.out (by decide)) (fun k_ hk => (⟨hk, hk.1.2⟩ : _ ∧ k_ ≠ gb364))) (fun _ hk => hk.1.2) (.slice Ao189 t353.length co189)) (fun _ hk => hk.2) (.int .i64 t356)) (fun _ hk => hk.2) (.int .i64 t357)) (fun _ hk => hk.2) (.int .i64 t358)) (fun _ hk => hk.2) (.int .i64 t359)) (fun _ hk => hk.2) (.int .i64 t360)) (fun _ hk => hk.2) (.int .i64 t361)) (fun _ hk => ⟨hk.1.1.1.1.1.1.2, ⟨hk.1.1.1.1.1.2, ⟨hk.1.1.1.2, ⟨hk.1.1.1.1.2, hk.1.1.2⟩⟩⟩⟩)⟩
          have n4_ : Aside0 (Kd.R k28 28 (((((((w188.setCell ⟨gb363, 0, none⟩ (.slice Ao189 t353.length co189)).setCell ⟨gb364, 0, none⟩ (.int .i64 t356)).setCell ⟨gb364, 1, none⟩ (.int .i64 t357)).setCell ⟨gb364, 2, none⟩ (.int .i64 t358)).setCell ⟨gb364, 3, none⟩ (.int .i64 t359)).setCell ⟨gb364, 4, none⟩ (.int .i64 t360)).setCell ⟨gb364, 5, none⟩ (.int .i64 t361)) w.heap.size (fun k_ => some k_ ≠ (.slice Ao10 t308.length co10 : Value).ownBlock ∧ some k_ ≠ (.slice Ao16 t319.length co16 : Value).ownBlock ∧ some k_ ≠ (.slice Ao181 t348.length co181 : Value).ownBlock ∧ k_ ≠ gb318 ∧ k_ ≠ gb364) (.slice Ao189 t353.length co189) t353) := ⟨by (with_reducible repeat (first | apply Kd.R_alloc | apply Kd.R_drewN | apply Kd.R_drew)); exact Kd.R_mono (Kd.R_far (p := ⟨gb364, 5, none⟩) (Kd.R_far (p := ⟨gb364, 4, none⟩) (Kd.R_far (p := ⟨gb364, 3, none⟩) (Kd.R_far (p := ⟨gb364, 2, none⟩) (Kd.R_far (p := ⟨gb364, 1, none⟩) (Kd.R_far (p := ⟨gb364, 0, none⟩) (Kd.R_far (p := ⟨gb363, 0, none⟩) (Kd.R_mono (Kd.R_types HO355.out BK363.out (by decide)) (fun k_ hk => (⟨hk, hk.1.2⟩ : _ ∧ k_ ≠ gb364))) (fun _ hk => hk.1.2) (.slice Ao189 t353.length co189)) (fun _ hk => hk.2) (.int .i64 t356)) (fun _ hk => hk.2) (.int .i64 t357)) (fun _ hk => hk.2) (.int .i64 t358)) (fun _ hk => hk.2) (.int .i64 t359)) (fun _ hk => hk.2) (.int .i64 t360)) (fun _ hk => hk.2) (.int .i64 t361)) (fun _ hk => ⟨hk.1.1.1.1.1.1.2, ⟨hk.1.1.1.1.1.2, ⟨hk.1.1.1.1.2, ⟨hk.1.1.1.2, hk.1.1.2⟩⟩⟩⟩)⟩
          have n5_ : Aside0 ((((((((w188.setCell ⟨gb363, 0, none⟩ (.slice Ao189 t353.length co189)).setCell ⟨gb364, 0, none⟩ (.int .i64 t356)).setCell ⟨gb364, 1, none⟩ (.int .i64 t357)).setCell ⟨gb364, 2, none⟩ (.int .i64 t358)).setCell ⟨gb364, 3, none⟩ (.int .i64 t359)).setCell ⟨gb364, 4, none⟩ (.int .i64 t360)).setCell ⟨gb364, 5, none⟩ (.int .i64 t361)).heap[gb317]? = some (.cells #[.slice Ao10 t308.length co10] 26 (0, 0))) := ⟨sp BK317⟩
          have n6_ : Aside0 ((((((((w188.setCell ⟨gb363, 0, none⟩ (.slice Ao189 t353.length co189)).setCell ⟨gb364, 0, none⟩ (.int .i64 t356)).setCell ⟨gb364, 1, none⟩ (.int .i64 t357)).setCell ⟨gb364, 2, none⟩ (.int .i64 t358)).setCell ⟨gb364, 3, none⟩ (.int .i64 t359)).setCell ⟨gb364, 4, none⟩ (.int .i64 t360)).setCell ⟨gb364, 5, none⟩ (.int .i64 t361)).heap[gb318]? = some (.cells #[.int .i64 t311, .int .i64 t312, .int .i64 t313, .int .i64 t314, .int .i64 t315, .int .i64 t316] 28 (0, 0))) := ⟨sp BK318⟩
          have n7_ : Aside0 ((((((((w188.setCell ⟨gb363, 0, none⟩ (.slice Ao189 t353.length co189)).setCell ⟨gb364, 0, none⟩ (.int .i64 t356)).setCell ⟨gb364, 1, none⟩ (.int .i64 t357)).setCell ⟨gb364, 2, none⟩ (.int .i64 t358)).setCell ⟨gb364, 3, none⟩ (.int .i64 t359)).setCell ⟨gb364, 4, none⟩ (.int .i64 t360)).setCell ⟨gb364, 5, none⟩ (.int .i64 t361)).heap[gb323]? = some (.cells #[.slice Ao16 t319.length co16] 26 (0, 0))) := ⟨sp BK323⟩
          have n8_ : Aside0 ((((((((w188.setCell ⟨gb363, 0, none⟩ (.slice Ao189 t353.length co189)).setCell ⟨gb364, 0, none⟩ (.int .i64 t356)).setCell ⟨gb364, 1, none⟩ (.int .i64 t357)).setCell ⟨gb364, 2, none⟩ (.int .i64 t358)).setCell ⟨gb364, 3, none⟩ (.int .i64 t359)).setCell ⟨gb364, 4, none⟩ (.int .i64 t360)).setCell ⟨gb364, 5, none⟩ (.int .i64 t361)).heap[gb352]? = some (.cells #[.slice Ao181 t348.length co181] 26 (0, 0))) := ⟨sp BK352⟩
          have n9_ : Aside0 ((((((((w188.setCell ⟨gb363, 0, none⟩ (.slice Ao189 t353.length co189)).setCell ⟨gb364, 0, none⟩ (.int .i64 t356)).setCell ⟨gb364, 1, none⟩ (.int .i64 t357)).setCell ⟨gb364, 2, none⟩ (.int .i64 t358)).setCell ⟨gb364, 3, none⟩ (.int .i64 t359)).setCell ⟨gb364, 4, none⟩ (.int .i64 t360)).setCell ⟨gb364, 5, none⟩ (.int .i64 t361)).heap[gb363]? = some (.cells #[.slice Ao189 t353.length co189] 26 (0, 0))) := ⟨sp BK363⟩
          have n10_ : Aside0 ((((((((w188.setCell ⟨gb363, 0, none⟩ (.slice Ao189 t353.length co189)).setCell ⟨gb364, 0, none⟩ (.int .i64 t356)).setCell ⟨gb364, 1, none⟩ (.int .i64 t357)).setCell ⟨gb364, 2, none⟩ (.int .i64 t358)).setCell ⟨gb364, 3, none⟩ (.int .i64 t359)).setCell ⟨gb364, 4, none⟩ (.int .i64 t360)).setCell ⟨gb364, 5, none⟩ (.int .i64 t361)).heap[gb364]? = some (.cells #[.int .i64 t356, .int .i64 t357, .int .i64 t358, .int .i64 t359, .int .i64 t360, .int .i64 t361] 28 (0, 0))) := ⟨sp BK364⟩
          have n11_ : Aside0 (Below w.heap.size w (((((((w188.setCell ⟨gb363, 0, none⟩ (.slice Ao189 t353.length co189)).setCell ⟨gb364, 0, none⟩ (.int .i64 t356)).setCell ⟨gb364, 1, none⟩ (.int .i64 t357)).setCell ⟨gb364, 2, none⟩ (.int .i64 t358)).setCell ⟨gb364, 3, none⟩ (.int .i64 t359)).setCell ⟨gb364, 4, none⟩ (.int .i64 t360)).setCell ⟨gb364, 5, none⟩ (.int .i64 t361))) := ⟨sbw⟩
          (try clear HO_7)
          (try clear HO_318000)
          (try clear HO_324000)
          (try clear HO350)
          (try clear HO355)
          (try clear BK317)
          (try clear BK318)
          (try clear BK323)
          (try clear BK352)
          (try clear BK363)
          (try clear BK364)
          (try clear HB)
          generalize (((((((w188.setCell ⟨gb363, 0, none⟩ (.slice Ao189 t353.length co189)).setCell ⟨gb364, 0, none⟩ (.int .i64 t356)).setCell ⟨gb364, 1, none⟩ (.int .i64 t357)).setCell ⟨gb364, 2, none⟩ (.int .i64 t358)).setCell ⟨gb364, 3, none⟩ (.int .i64 t359)).setCell ⟨gb364, 4, none⟩ (.int .i64 t360)).setCell ⟨gb364, 5, none⟩ (.int .i64 t361)) = w201 at n0_ n1_ n2_ n3_ n4_ n5_ n6_ n7_ n8_ n9_ n10_ n11_ ⊢
          have HO_7 := n0_
          have HO_318000 := n1_
          have HO_324000 := n2_
          have HO350 := n3_
          have HO355 := n4_
          have BK317 := n5_
          have BK318 := n6_
          have BK323 := n7_
          have BK352 := n8_
          have BK363 := n9_
          have BK364 := n10_
          have HB := n11_
          clear n0_ n1_ n2_ n3_ n4_ n5_ n6_ n7_ n8_ n9_ n10_ n11_
          replace HO_7 := am (Kd.R_drew HO_7.out)
          replace HO_318000 := am (Kd.R_drew HO_318000.out)
          replace HO_324000 := am (Kd.R_drew HO_324000.out)
          replace HO350 := am (Kd.R_drew HO350.out)
          replace HO355 := am (Kd.R_drew HO355.out)
          replace BK317 := am (blk_drew BK317.out)
          replace BK318 := am (blk_drew BK318.out)
          replace BK323 := am (blk_drew BK323.out)
          replace BK352 := am (blk_drew BK352.out)
          replace BK363 := am (blk_drew BK363.out)
          replace BK364 := am (blk_drew BK364.out)
          replace HB := am (below_drew1 HB.out)
          as_aux_lemma =>
           refine start_ (n := 32) (S := fun w' => w'.cell? ⟨gb363, 0, none⟩ = some (.slice Ao189 t353.length co189) ∧ w'.cell? ⟨gb352, 0, none⟩ = some (.slice Ao181 t348.length co181)) (ds := []) #[false, false, false, false, false, false, false, false, false, false, false, false, false, false, false, false, false, false, false, false, false, false, false, false, false, false, false, false, false, false, false, false] (by kernel_rfl) rfl rfl ⟨bc0 BK363, bc0 BK352⟩ (fun hHeld => ?_); refine with_tabW laws_FnQueues.tab15 laws_FnQueues.bits15 (fun HT_ HW_ => ?_)
           generalize w201.drew = w202 at HO_7 HO_318000 HO_324000 HO350 HO355 BK317 BK318 BK323 BK352 BK363 BK364 HB hHeld ⊢
           refine put 0 156 (bt 32 1) HT_ ?_
           refine put 1 157 (bt 32 3) HT_ ?_
           refine put 2 158 (bt 32 7) HT_ ?_
           refine put 5 161 (bt 32 39) HT_ ?_
           refine tat2 3 159 (bt 32 47) HT_ HW_ hHeld ?_
           refine put 4 160 (bt 32 63) HT_ ?_
           refine tat2 6 162 (bt 32 127) HT_ HW_ hHeld ?_
           refine put 7 163 (bt 32 255) HT_ ?_
           refine put 8 164 (bt 32 511) HT_ ?_
           refine put 9 165 (bt 32 1023) HT_ ?_
           refine put 10 166 (bt 32 2047) HT_ ?_
           refine pn 11 167 (bt 32 4095) HT_ ?_
           refine pn 12 168 (bt 32 8191) HT_ ?_
           refine pn 13 169 (bt 32 16383) HT_ ?_
           refine pn 14 170 (bt 32 32767) HT_ ?_
           refine pn 15 171 (bt 32 65535) HT_ ?_
           refine pn 16 172 (bt 32 131071) HT_ ?_
           refine pn 17 173 (bt 32 262143) HT_ ?_
           refine put 18 174 (bt 32 524287) HT_ ?_
           refine put 19 175 (bt 32 1048575) HT_ ?_
           refine pn 20 176 (bt 32 2097151) HT_ ?_
           refine pn 21 177 (bt 32 4194303) HT_ ?_
           refine pn 22 178 (bt 32 8388607) HT_ ?_
           refine pn 23 179 (bt 32 16777215) HT_ ?_
           refine pn 24 180 (bt 32 33554431) HT_ ?_
           refine pn 25 181 (bt 32 67108863) HT_ ?_
           refine pn 26 182 (bt 32 134217727) HT_ ?_
           refine pn 27 183 (bt 32 268435455) HT_ ?_
           refine pn 28 184 (bt 32 536870911) HT_ ?_
           refine pn 29 185 (bt 32 1073741823) HT_ ?_
           refine put 30 186 (bt 32 2147483647) HT_ ?_
           refine put 31 187 (bt 32 4294967295) HT_ ?_
           refine done_ (done_of HT_.out (by kernel_rfl)) ?_
           try go_wp2
           go_ret
           exact ⟨se, sbw⟩
        ·replace H := im H
         obtain rfl := Option.some.inj H
         obtain ⟨Ao203, co203, eo203⟩ := Kd.R_slice HO_7.out
         subst eo203
         try go_wp2_with (first | ((with_reducible refine gc 10 rfl ?_); refine gL (some 146) Try.func10 #[.slice A0 l0.length c0] ?_; (with_reducible refine (spec_DrawTakePacket.calls k2 _ _ l0 t348 t351 _ ?side1 ?side2 A86.out).mono ?_); (case side1 => exact cb HR0); (case side2 => exact HC0.out); rintro e w204 ⟨v349, rfl, ho0, hb⟩; refine ⟨_, rfl, ?_⟩; replace HO_7 := rb HO_7 hb; have HO350 := am (Kd.R_lower (Kd.R_newB (Kd.R_new' (Kd.R_new' ho0 (Kd.R_lt (sr HO_318000))) (Kd.R_lt (sr HO_324000))) (g := gb318) (o := .cells #[.int .i64 t311, .int .i64 t312, .int .i64 t313, .int .i64 t314, .int .i64 t315, .int .i64 t316] 28 (0, 0)) (sk BK318)) (below_size (sbw))); replace HO_318000 := am (Kd.R_elder' (sr HO_318000) (Kd.R_base ho0) hb); replace HO_324000 := am (Kd.R_elder' (sr HO_324000) (Kd.R_base ho0) hb); replace BK317 := bb BK317 hb; replace BK318 := bb BK318 hb; replace BK323 := bb BK323 hb; replace HB := bsw hb; (try clear hb); (try clear hk); (try clear ho0)) | ((with_reducible refine gd 9 rfl ?_); (try (refine gate_guard (by rfl) ?_; dsimp only)); refine bx 9 #[.slice none 0 0] 26 ?_; intro gb352 hg w205 hbox hb; replace HO_7 := rb HO_7 hb; replace HO_318000 := rb HO_318000 hb; replace HO_324000 := rb HO_324000 hb; replace HO350 := rb HO350 hb; have GW352 := bzw w hg; have GE352 := bzw w hg; replace HB := bsw hb; have BK352 := am hbox; have NB317_352 := nl BK317 hg; have NB352_317 := ng BK317 hg; replace BK317 := bb BK317 hb; have NB318_352 := nl BK318 hg; have NB352_318 := ng BK318 hg; replace BK318 := bb BK318 hb; have NB323_352 := nl BK323 hg; have NB352_323 := ng BK323 hg; replace BK323 := bb BK323 hb; clear hb hbox hg; obtain ⟨Ao206, co206, eo206⟩ := Kd.R_slice HO350.out; subst eo206; have hnb207 := NB352_317.out; have hnc207 := NB317_352.out; have hnb208 := NB352_318.out; have hnc208 := NB318_352.out; have hnb209 := NB352_323.out; have hnc209 := NB323_352.out; obtain ⟨hcz210_0, hfz210_0⟩ := cc1 BK352) | ((with_reducible refine gc 11 rfl ?_); refine gL (some 152) Try.func11 #[.agg #[.slice Ao206 t348.length co206], .int .i64 t351] ?_; (with_reducible refine (impl_TakePacket.calls _ _ t348 t351 t353 t356 t357 t358 t359 t360 t361 false _ ?side1 ?side2 A87.out).mono ?_); (case side1 => refine (Kd.R_reads' (e := 28) (base := w.heap.size) (ok := fun k_ => (((True ∧ some k_ ≠ (.slice Ao10 t308.length co10 : Value).ownBlock) ∧ some k_ ≠ (.slice Ao16 t319.length co16 : Value).ownBlock) ∧ k_ ≠ gb318)) (n := t348.length) (c := co206) ?_).2.2; exact a5_13); (case side2 => exact (Kd.R_reads' HO350.out).2.1); rintro e w211 ⟨v354, rfl, ho0, hb⟩; refine ⟨_, rfl, ?_⟩; replace HO_7 := am (Kd.R_below (by (with_reducible repeat (first | apply Kd.R_alloc | apply Kd.R_drewN | apply Kd.R_drew)); exact (Kd.R_mono (Kd.R_far (p := ⟨gb352, 0, none⟩) (Kd.R_types HO_7.out BK352.out (by decide)) (fun _ hk => hk.2) (.slice Ao206 t348.length co206)) (fun _ h_ => h_.1))) hb); have HO355 := am (Kd.R_lower (Kd.R_newB (Kd.R_new' (Kd.R_new' (Kd.R_new' ho0 (Kd.R_lt a5_20)) (Kd.R_lt a5_21)) (Kd.R_lt a5_13)) (g := gb318) (o := .cells #[.int .i64 t311, .int .i64 t312, .int .i64 t313, .int .i64 t314, .int .i64 t315, .int .i64 t316] 28 (0, 0)) (sp BK318)) (below_size (sbw))); replace HO_318000 := am (Kd.R_elder' a5_20 (Kd.R_base ho0) hb); replace HO_324000 := am (Kd.R_elder' a5_21 (Kd.R_base ho0) hb); replace HO350 := am (Kd.R_elder' a5_13 (Kd.R_base ho0) hb); replace BK317 := am (blk_below (g := gb317) (o := .cells #[.slice Ao10 t308.length co10] 26 (0, 0)) (sp BK317) hb); replace BK318 := am (blk_below (g := gb318) (o := .cells #[.int .i64 t311, .int .i64 t312, .int .i64 t313, .int .i64 t314, .int .i64 t315, .int .i64 t316] 28 (0, 0)) (sp BK318) hb); replace BK323 := am (blk_below (g := gb323) (o := .cells #[.slice Ao16 t319.length co16] 26 (0, 0)) (sp BK323) hb); replace BK352 := am (blk_below (g := gb352) (o := .cells #[.slice Ao206 t348.length co206] 26 (0, 0)) (sp BK352) hb); replace HB := bsw hb; (try clear hb); (try clear hk); (try clear ho0)) | ((with_reducible refine gd 11 rfl ?_); (try (refine gate_guard (by rfl) ?_; dsimp only)); refine bx 11 #[.slice none 0 0] 26 ?_; intro gb363 hg w212 hbox hb; replace HO_7 := rb HO_7 hb; replace HO_318000 := rb HO_318000 hb; replace HO_324000 := rb HO_324000 hb; replace HO350 := rb HO350 hb; replace HO355 := rb HO355 hb; have GW363 := bzw w hg; have GE363 := bzw w hg; replace HB := bsw hb; have BK363 := am hbox; have NB317_363 := nl BK317 hg; have NB363_317 := ng BK317 hg; replace BK317 := bb BK317 hb; have NB318_363 := nl BK318 hg; have NB363_318 := ng BK318 hg; replace BK318 := bb BK318 hb; have NB323_363 := nl BK323 hg; have NB363_323 := ng BK323 hg; replace BK323 := bb BK323 hb; have NB352_363 := nl BK352 hg; have NB363_352 := ng BK352 hg; replace BK352 := bb BK352 hb; clear hb hbox hg) | ((with_reducible refine gd 12 rfl ?_); (try (refine gate_guard (by rfl) ?_; dsimp only)); refine bx 12 #[.int .i64 0, .int .i64 0, .int .i64 0, .int .i64 0, .int .i64 0, .int .i64 0] 28 ?_; intro gb364 hg w213 hbox hb; replace HO_7 := rb HO_7 hb; replace HO_318000 := am (Kd.R_below (Kd.R_elderB (sr HO_318000) gb364 (Nat.le_of_eq hg.symm)) hb); replace HO_324000 := am (Kd.R_below (Kd.R_elderB (sr HO_324000) gb364 (Nat.le_of_eq hg.symm)) hb); replace HO350 := am (Kd.R_below (Kd.R_elderB (sr HO350) gb364 (Nat.le_of_eq hg.symm)) hb); replace HO355 := am (Kd.R_below (Kd.R_elderB (sr HO355) gb364 (Nat.le_of_eq hg.symm)) hb); have GW364 := bzw w hg; have GE364 := bzw w hg; replace HB := bsw hb; have BK364 := am hbox; have NB317_364 := nl BK317 hg; have NB364_317 := ng BK317 hg; replace BK317 := bb BK317 hb; have NB318_364 := nl BK318 hg; have NB364_318 := ng BK318 hg; replace BK318 := bb BK318 hb; have NB323_364 := nl BK323 hg; have NB364_323 := ng BK323 hg; replace BK323 := bb BK323 hb; have NB352_364 := nl BK352 hg; have NB364_352 := ng BK352 hg; replace BK352 := bb BK352 hb; have NB363_364 := nl BK363 hg; have NB364_363 := ng BK363 hg; replace BK363 := bb BK363 hb; clear hb hbox hg; obtain ⟨Ao214, co214, eo214⟩ := Kd.R_slice HO355.out; subst eo214; have hnb215 := NB363_317.out; have hnc215 := NB317_363.out; have hnb216 := NB363_318.out; have hnc216 := NB318_363.out; have hnb217 := NB363_323.out; have hnc217 := NB323_363.out; have hnb218 := NB363_352.out; have hnc218 := NB352_363.out; have hnb219 := NB363_364.out; have hnc219 := NB364_363.out; obtain ⟨hcz220_0, hfz220_0⟩ := cc1 BK363; have hnb221 := NB364_317.out; have hnc221 := NB317_364.out; have hnb222 := NB364_318.out; have hnc222 := NB318_364.out; have hnb223 := NB364_323.out; have hnc223 := NB323_364.out; have hnb224 := NB364_352.out; have hnc224 := NB352_364.out; obtain ⟨hcz225_0, hcz225_1, hcz225_2, hcz225_3, hcz225_4, hcz225_5, hfz225_0, hfz225_1, hfz225_2, hfz225_3, hfz225_4, hfz225_5⟩ := cc6 BK364))
         have n0_ : Aside0 (Kd.R (Kd.int .i64) 3 (((((((w213.setCell ⟨gb363, 0, none⟩ (.slice Ao214 t353.length co214)).setCell ⟨gb364, 0, none⟩ (.int .i64 t356)).setCell ⟨gb364, 1, none⟩ (.int .i64 t357)).setCell ⟨gb364, 2, none⟩ (.int .i64 t358)).setCell ⟨gb364, 3, none⟩ (.int .i64 t359)).setCell ⟨gb364, 4, none⟩ (.int .i64 t360)).setCell ⟨gb364, 5, none⟩ (.int .i64 t361)) w.heap.size (fun _ => True) (.slice Ao203 t325.length co203) t325) := ⟨by (with_reducible repeat (first | apply Kd.R_alloc | apply Kd.R_drewN | apply Kd.R_drew)); exact Kd.R_mono (Kd.R_far (p := ⟨gb364, 5, none⟩) (Kd.R_far (p := ⟨gb364, 4, none⟩) (Kd.R_far (p := ⟨gb364, 3, none⟩) (Kd.R_far (p := ⟨gb364, 2, none⟩) (Kd.R_far (p := ⟨gb364, 1, none⟩) (Kd.R_far (p := ⟨gb364, 0, none⟩) (Kd.R_far (p := ⟨gb363, 0, none⟩) (Kd.R_types (Kd.R_types HO_7.out BK363.out (by decide)) BK364.out (by decide)) (fun _ hk => hk.1.2) (.slice Ao214 t353.length co214)) (fun _ hk => hk.2) (.int .i64 t356)) (fun _ hk => hk.2) (.int .i64 t357)) (fun _ hk => hk.2) (.int .i64 t358)) (fun _ hk => hk.2) (.int .i64 t359)) (fun _ hk => hk.2) (.int .i64 t360)) (fun _ hk => hk.2) (.int .i64 t361)) (fun _ hk => trivial)⟩
         have n1_ : Aside0 (Kd.R k28 28 (((((((w213.setCell ⟨gb363, 0, none⟩ (.slice Ao214 t353.length co214)).setCell ⟨gb364, 0, none⟩ (.int .i64 t356)).setCell ⟨gb364, 1, none⟩ (.int .i64 t357)).setCell ⟨gb364, 2, none⟩ (.int .i64 t358)).setCell ⟨gb364, 3, none⟩ (.int .i64 t359)).setCell ⟨gb364, 4, none⟩ (.int .i64 t360)).setCell ⟨gb364, 5, none⟩ (.int .i64 t361)) w.heap.size (fun k_ => some k_ ≠ (.slice Ao16 t319.length co16 : Value).ownBlock ∧ some k_ ≠ (.slice Ao206 t348.length co206 : Value).ownBlock ∧ some k_ ≠ (.slice Ao214 t353.length co214 : Value).ownBlock ∧ k_ ≠ gb318 ∧ k_ ≠ gb364) (.slice Ao10 t308.length co10) t308) := ⟨by (with_reducible repeat (first | apply Kd.R_alloc | apply Kd.R_drewN | apply Kd.R_drew)); exact Kd.R_mono (Kd.R_far (p := ⟨gb364, 5, none⟩) (Kd.R_far (p := ⟨gb364, 4, none⟩) (Kd.R_far (p := ⟨gb364, 3, none⟩) (Kd.R_far (p := ⟨gb364, 2, none⟩) (Kd.R_far (p := ⟨gb364, 1, none⟩) (Kd.R_far (p := ⟨gb364, 0, none⟩) (Kd.R_far (p := ⟨gb363, 0, none⟩) (Kd.R_mono (Kd.R_types HO_318000.out BK363.out (by decide)) (fun k_ hk => (⟨hk, hk.1.2⟩ : _ ∧ k_ ≠ gb364))) (fun _ hk => hk.1.2) (.slice Ao214 t353.length co214)) (fun _ hk => hk.2) (.int .i64 t356)) (fun _ hk => hk.2) (.int .i64 t357)) (fun _ hk => hk.2) (.int .i64 t358)) (fun _ hk => hk.2) (.int .i64 t359)) (fun _ hk => hk.2) (.int .i64 t360)) (fun _ hk => hk.2) (.int .i64 t361)) (fun _ hk => ⟨hk.1.1.1.1.1.1, ⟨hk.1.1.1.1.2, ⟨hk.1.1.1.2, ⟨hk.1.1.1.1.1.2, hk.1.1.2⟩⟩⟩⟩)⟩
         have n2_ : Aside0 (Kd.R k28 28 (((((((w213.setCell ⟨gb363, 0, none⟩ (.slice Ao214 t353.length co214)).setCell ⟨gb364, 0, none⟩ (.int .i64 t356)).setCell ⟨gb364, 1, none⟩ (.int .i64 t357)).setCell ⟨gb364, 2, none⟩ (.int .i64 t358)).setCell ⟨gb364, 3, none⟩ (.int .i64 t359)).setCell ⟨gb364, 4, none⟩ (.int .i64 t360)).setCell ⟨gb364, 5, none⟩ (.int .i64 t361)) w.heap.size (fun k_ => some k_ ≠ (.slice Ao10 t308.length co10 : Value).ownBlock ∧ some k_ ≠ (.slice Ao206 t348.length co206 : Value).ownBlock ∧ some k_ ≠ (.slice Ao214 t353.length co214 : Value).ownBlock ∧ k_ ≠ gb318 ∧ k_ ≠ gb364) (.slice Ao16 t319.length co16) t319) := ⟨by (with_reducible repeat (first | apply Kd.R_alloc | apply Kd.R_drewN | apply Kd.R_drew)); exact Kd.R_mono (Kd.R_far (p := ⟨gb364, 5, none⟩) (Kd.R_far (p := ⟨gb364, 4, none⟩) (Kd.R_far (p := ⟨gb364, 3, none⟩) (Kd.R_far (p := ⟨gb364, 2, none⟩) (Kd.R_far (p := ⟨gb364, 1, none⟩) (Kd.R_far (p := ⟨gb364, 0, none⟩) (Kd.R_far (p := ⟨gb363, 0, none⟩) (Kd.R_mono (Kd.R_types HO_324000.out BK363.out (by decide)) (fun k_ hk => (⟨hk, hk.1.2⟩ : _ ∧ k_ ≠ gb364))) (fun _ hk => hk.1.2) (.slice Ao214 t353.length co214)) (fun _ hk => hk.2) (.int .i64 t356)) (fun _ hk => hk.2) (.int .i64 t357)) (fun _ hk => hk.2) (.int .i64 t358)) (fun _ hk => hk.2) (.int .i64 t359)) (fun _ hk => hk.2) (.int .i64 t360)) (fun _ hk => hk.2) (.int .i64 t361)) (fun _ hk => ⟨hk.1.1.1.1.1.1, ⟨hk.1.1.1.1.2, ⟨hk.1.1.1.2, ⟨hk.1.1.1.1.1.2, hk.1.1.2⟩⟩⟩⟩)⟩
         have n3_ : Aside0 (Kd.R k28 28 (((((((w213.setCell ⟨gb363, 0, none⟩ (.slice Ao214 t353.length co214)).setCell ⟨gb364, 0, none⟩ (.int .i64 t356)).setCell ⟨gb364, 1, none⟩ (.int .i64 t357)).setCell ⟨gb364, 2, none⟩ (.int .i64 t358)).setCell ⟨gb364, 3, none⟩ (.int .i64 t359)).setCell ⟨gb364, 4, none⟩ (.int .i64 t360)).setCell ⟨gb364, 5, none⟩ (.int .i64 t361)) w.heap.size (fun k_ => some k_ ≠ (.slice Ao10 t308.length co10 : Value).ownBlock ∧ some k_ ≠ (.slice Ao16 t319.length co16 : Value).ownBlock ∧ some k_ ≠ (.slice Ao214 t353.length co214 : Value).ownBlock ∧ k_ ≠ gb318 ∧ k_ ≠ gb364) (.slice Ao206 t348.length co206) t348) := ⟨by (with_reducible repeat (first | apply Kd.R_alloc | apply Kd.R_drewN | apply Kd.R_drew)); exact Kd.R_mono (Kd.R_far (p := ⟨gb364, 5, none⟩) (Kd.R_far (p := ⟨gb364, 4, none⟩) (Kd.R_far (p := ⟨gb364, 3, none⟩) (Kd.R_far (p := ⟨gb364, 2, none⟩) (Kd.R_far (p := ⟨gb364, 1, none⟩) (Kd.R_far (p := ⟨gb364, 0, none⟩) (Kd.R_far (p := ⟨gb363, 0, none⟩) (Kd.R_mono (Kd.R_types HO350.out BK363.out (by decide)) (fun k_ hk => (⟨hk, hk.1.2⟩ : _ ∧ k_ ≠ gb364))) (fun _ hk => hk.1.2) (.slice Ao214 t353.length co214)) (fun _ hk => hk.2) (.int .i64 t356)) (fun _ hk => hk.2) (.int .i64 t357)) (fun _ hk => hk.2) (.int .i64 t358)) (fun _ hk => hk.2) (.int .i64 t359)) (fun _ hk => hk.2) (.int .i64 t360)) (fun _ hk => hk.2) (.int .i64 t361)) (fun _ hk => ⟨hk.1.1.1.1.1.1.2, ⟨hk.1.1.1.1.1.2, ⟨hk.1.1.1.2, ⟨hk.1.1.1.1.2, hk.1.1.2⟩⟩⟩⟩)⟩
         have n4_ : Aside0 (Kd.R k28 28 (((((((w213.setCell ⟨gb363, 0, none⟩ (.slice Ao214 t353.length co214)).setCell ⟨gb364, 0, none⟩ (.int .i64 t356)).setCell ⟨gb364, 1, none⟩ (.int .i64 t357)).setCell ⟨gb364, 2, none⟩ (.int .i64 t358)).setCell ⟨gb364, 3, none⟩ (.int .i64 t359)).setCell ⟨gb364, 4, none⟩ (.int .i64 t360)).setCell ⟨gb364, 5, none⟩ (.int .i64 t361)) w.heap.size (fun k_ => some k_ ≠ (.slice Ao10 t308.length co10 : Value).ownBlock ∧ some k_ ≠ (.slice Ao16 t319.length co16 : Value).ownBlock ∧ some k_ ≠ (.slice Ao206 t348.length co206 : Value).ownBlock ∧ k_ ≠ gb318 ∧ k_ ≠ gb364) (.slice Ao214 t353.length co214) t353) := ⟨by (with_reducible repeat (first | apply Kd.R_alloc | apply Kd.R_drewN | apply Kd.R_drew)); exact Kd.R_mono (Kd.R_far (p := ⟨gb364, 5, none⟩) (Kd.R_far (p := ⟨gb364, 4, none⟩) (Kd.R_far (p := ⟨gb364, 3, none⟩) (Kd.R_far (p := ⟨gb364, 2, none⟩) (Kd.R_far (p := ⟨gb364, 1, none⟩) (Kd.R_far (p := ⟨gb364, 0, none⟩) (Kd.R_far (p := ⟨gb363, 0, none⟩) (Kd.R_mono (Kd.R_types HO355.out BK363.out (by decide)) (fun k_ hk => (⟨hk, hk.1.2⟩ : _ ∧ k_ ≠ gb364))) (fun _ hk => hk.1.2) (.slice Ao214 t353.length co214)) (fun _ hk => hk.2) (.int .i64 t356)) (fun _ hk => hk.2) (.int .i64 t357)) (fun _ hk => hk.2) (.int .i64 t358)) (fun _ hk => hk.2) (.int .i64 t359)) (fun _ hk => hk.2) (.int .i64 t360)) (fun _ hk => hk.2) (.int .i64 t361)) (fun _ hk => ⟨hk.1.1.1.1.1.1.2, ⟨hk.1.1.1.1.1.2, ⟨hk.1.1.1.1.2, ⟨hk.1.1.1.2, hk.1.1.2⟩⟩⟩⟩)⟩
         have n5_ : Aside0 ((((((((w213.setCell ⟨gb363, 0, none⟩ (.slice Ao214 t353.length co214)).setCell ⟨gb364, 0, none⟩ (.int .i64 t356)).setCell ⟨gb364, 1, none⟩ (.int .i64 t357)).setCell ⟨gb364, 2, none⟩ (.int .i64 t358)).setCell ⟨gb364, 3, none⟩ (.int .i64 t359)).setCell ⟨gb364, 4, none⟩ (.int .i64 t360)).setCell ⟨gb364, 5, none⟩ (.int .i64 t361)).heap[gb317]? = some (.cells #[.slice Ao10 t308.length co10] 26 (0, 0))) := ⟨sp BK317⟩
         have n6_ : Aside0 ((((((((w213.setCell ⟨gb363, 0, none⟩ (.slice Ao214 t353.length co214)).setCell ⟨gb364, 0, none⟩ (.int .i64 t356)).setCell ⟨gb364, 1, none⟩ (.int .i64 t357)).setCell ⟨gb364, 2, none⟩ (.int .i64 t358)).setCell ⟨gb364, 3, none⟩ (.int .i64 t359)).setCell ⟨gb364, 4, none⟩ (.int .i64 t360)).setCell ⟨gb364, 5, none⟩ (.int .i64 t361)).heap[gb318]? = some (.cells #[.int .i64 t311, .int .i64 t312, .int .i64 t313, .int .i64 t314, .int .i64 t315, .int .i64 t316] 28 (0, 0))) := ⟨sp BK318⟩
         have n7_ : Aside0 ((((((((w213.setCell ⟨gb363, 0, none⟩ (.slice Ao214 t353.length co214)).setCell ⟨gb364, 0, none⟩ (.int .i64 t356)).setCell ⟨gb364, 1, none⟩ (.int .i64 t357)).setCell ⟨gb364, 2, none⟩ (.int .i64 t358)).setCell ⟨gb364, 3, none⟩ (.int .i64 t359)).setCell ⟨gb364, 4, none⟩ (.int .i64 t360)).setCell ⟨gb364, 5, none⟩ (.int .i64 t361)).heap[gb323]? = some (.cells #[.slice Ao16 t319.length co16] 26 (0, 0))) := ⟨sp BK323⟩
         have n8_ : Aside0 ((((((((w213.setCell ⟨gb363, 0, none⟩ (.slice Ao214 t353.length co214)).setCell ⟨gb364, 0, none⟩ (.int .i64 t356)).setCell ⟨gb364, 1, none⟩ (.int .i64 t357)).setCell ⟨gb364, 2, none⟩ (.int .i64 t358)).setCell ⟨gb364, 3, none⟩ (.int .i64 t359)).setCell ⟨gb364, 4, none⟩ (.int .i64 t360)).setCell ⟨gb364, 5, none⟩ (.int .i64 t361)).heap[gb352]? = some (.cells #[.slice Ao206 t348.length co206] 26 (0, 0))) := ⟨sp BK352⟩
         have n9_ : Aside0 ((((((((w213.setCell ⟨gb363, 0, none⟩ (.slice Ao214 t353.length co214)).setCell ⟨gb364, 0, none⟩ (.int .i64 t356)).setCell ⟨gb364, 1, none⟩ (.int .i64 t357)).setCell ⟨gb364, 2, none⟩ (.int .i64 t358)).setCell ⟨gb364, 3, none⟩ (.int .i64 t359)).setCell ⟨gb364, 4, none⟩ (.int .i64 t360)).setCell ⟨gb364, 5, none⟩ (.int .i64 t361)).heap[gb363]? = some (.cells #[.slice Ao214 t353.length co214] 26 (0, 0))) := ⟨sp BK363⟩
         have n10_ : Aside0 ((((((((w213.setCell ⟨gb363, 0, none⟩ (.slice Ao214 t353.length co214)).setCell ⟨gb364, 0, none⟩ (.int .i64 t356)).setCell ⟨gb364, 1, none⟩ (.int .i64 t357)).setCell ⟨gb364, 2, none⟩ (.int .i64 t358)).setCell ⟨gb364, 3, none⟩ (.int .i64 t359)).setCell ⟨gb364, 4, none⟩ (.int .i64 t360)).setCell ⟨gb364, 5, none⟩ (.int .i64 t361)).heap[gb364]? = some (.cells #[.int .i64 t356, .int .i64 t357, .int .i64 t358, .int .i64 t359, .int .i64 t360, .int .i64 t361] 28 (0, 0))) := ⟨sp BK364⟩
         have n11_ : Aside0 (Below w.heap.size w (((((((w213.setCell ⟨gb363, 0, none⟩ (.slice Ao214 t353.length co214)).setCell ⟨gb364, 0, none⟩ (.int .i64 t356)).setCell ⟨gb364, 1, none⟩ (.int .i64 t357)).setCell ⟨gb364, 2, none⟩ (.int .i64 t358)).setCell ⟨gb364, 3, none⟩ (.int .i64 t359)).setCell ⟨gb364, 4, none⟩ (.int .i64 t360)).setCell ⟨gb364, 5, none⟩ (.int .i64 t361))) := ⟨sbw⟩
         (try clear HO_7)
         (try clear HO_318000)
         (try clear HO_324000)
         (try clear HO350)
         (try clear HO355)
         (try clear BK317)
         (try clear BK318)
         (try clear BK323)
         (try clear BK352)
         (try clear BK363)
         (try clear BK364)
         (try clear HB)
         generalize (((((((w213.setCell ⟨gb363, 0, none⟩ (.slice Ao214 t353.length co214)).setCell ⟨gb364, 0, none⟩ (.int .i64 t356)).setCell ⟨gb364, 1, none⟩ (.int .i64 t357)).setCell ⟨gb364, 2, none⟩ (.int .i64 t358)).setCell ⟨gb364, 3, none⟩ (.int .i64 t359)).setCell ⟨gb364, 4, none⟩ (.int .i64 t360)).setCell ⟨gb364, 5, none⟩ (.int .i64 t361)) = w226 at n0_ n1_ n2_ n3_ n4_ n5_ n6_ n7_ n8_ n9_ n10_ n11_ ⊢
         have HO_7 := n0_
         have HO_318000 := n1_
         have HO_324000 := n2_
         have HO350 := n3_
         have HO355 := n4_
         have BK317 := n5_
         have BK318 := n6_
         have BK323 := n7_
         have BK352 := n8_
         have BK363 := n9_
         have BK364 := n10_
         have HB := n11_
         clear n0_ n1_ n2_ n3_ n4_ n5_ n6_ n7_ n8_ n9_ n10_ n11_
         replace HO_7 := am (Kd.R_drew HO_7.out)
         replace HO_318000 := am (Kd.R_drew HO_318000.out)
         replace HO_324000 := am (Kd.R_drew HO_324000.out)
         replace HO350 := am (Kd.R_drew HO350.out)
         replace HO355 := am (Kd.R_drew HO355.out)
         replace BK317 := am (blk_drew BK317.out)
         replace BK318 := am (blk_drew BK318.out)
         replace BK323 := am (blk_drew BK323.out)
         replace BK352 := am (blk_drew BK352.out)
         replace BK363 := am (blk_drew BK363.out)
         replace BK364 := am (blk_drew BK364.out)
         replace HB := am (below_drew1 HB.out)
         as_aux_lemma =>
          refine start_ (n := 32) (S := fun w' => True) (ds := []) #[false, false, false, false, false, false, false, false, false, false, false, false, false, false, false, false, false, false, false, false, false, false, false, false, false, false, false, false, false, false, false, false] (by kernel_rfl) rfl rfl trivial (fun hHeld => ?_); refine with_tabW laws_FnQueues.tab15 laws_FnQueues.bits15 (fun HT_ HW_ => ?_)
          generalize w226.drew = w227 at HO_7 HO_318000 HO_324000 HO350 HO355 BK317 BK318 BK323 BK352 BK363 BK364 HB hHeld ⊢
          refine put 0 156 (bt 32 1) HT_ ?_
          refine put 1 157 (bt 32 3) HT_ ?_
          refine pn 2 158 (bt 32 7) HT_ ?_
          refine pn 3 159 (bt 32 15) HT_ ?_
          refine pn 4 160 (bt 32 31) HT_ ?_
          refine pn 5 161 (bt 32 63) HT_ ?_
          refine pn 6 162 (bt 32 127) HT_ ?_
          refine pn 7 163 (bt 32 255) HT_ ?_
          refine pn 8 164 (bt 32 511) HT_ ?_
          refine pn 9 165 (bt 32 1023) HT_ ?_
          refine pn 10 166 (bt 32 2047) HT_ ?_
          refine pn 11 167 (bt 32 4095) HT_ ?_
          refine pn 12 168 (bt 32 8191) HT_ ?_
          refine pn 13 169 (bt 32 16383) HT_ ?_
          refine pn 14 170 (bt 32 32767) HT_ ?_
          refine pn 15 171 (bt 32 65535) HT_ ?_
          refine pn 16 172 (bt 32 131071) HT_ ?_
          refine pn 17 173 (bt 32 262143) HT_ ?_
          refine pn 18 174 (bt 32 524287) HT_ ?_
          refine pn 19 175 (bt 32 1048575) HT_ ?_
          refine pn 20 176 (bt 32 2097151) HT_ ?_
          refine pn 21 177 (bt 32 4194303) HT_ ?_
          refine pn 22 178 (bt 32 8388607) HT_ ?_
          refine pn 23 179 (bt 32 16777215) HT_ ?_
          refine pn 24 180 (bt 32 33554431) HT_ ?_
          refine pn 25 181 (bt 32 67108863) HT_ ?_
          refine pn 26 182 (bt 32 134217727) HT_ ?_
          refine pn 27 183 (bt 32 268435455) HT_ ?_
          refine pn 28 184 (bt 32 536870911) HT_ ?_
          refine pn 29 185 (bt 32 1073741823) HT_ ?_
          refine pn 30 186 (bt 32 2147483647) HT_ ?_
          refine put 31 187 (bt 32 4294967295) HT_ ?_
          refine done_ (done_of HT_.out (by kernel_rfl)) ?_
          have hnb228 := NB323_317.out
          have hnc228 := NB317_323.out
          have hnb229 := NB323_318.out
          have hnc229 := NB318_323.out
          obtain ⟨hcz230_0, hfz230_0⟩ := cc1 BK323
          try go_wp2
          go_ret
          exact ⟨se, sbw⟩
 
/-- THE ONE PURE STATEMENT of laws_FnQueues: yours. -/
def laws_FnQueues.Pure : Prop := ∀ (l0 : List Int), l0.length ≤ maxLen → l0.length * 1 ≤ 140737488351232 → (∀ x ∈ l0, (Lit.int .u8 x).wf = true) → ∃ k, laws_FnQueues.f k l0 = some true
theorem laws_FnQueues.walk (P : laws_FnQueues.Pure) (a0 : Option Addr) (len0 cap0 : Nat) (z0 : List Int) (w : World) (w0 : (a0 = none ∧ len0 = 0 ∧ cap0 = 0 ∧ z0 = []) ∨ ∃ x, a0 = some x ∧ len0 ≤ cap0 ∧ cap0 ≤ maxLen ∧ z0.length = cap0 ∧ (∀ i, i < z0.length → w.cell? (x.add i) = some (.int .u8 (z0.getD i 0))) ∧ ∀ n ∈ z0, (Lit.int .u8 n).wf = true) (y0 : len0 * 1 ≤ 140737488351232) :
    Calls Try.prog 3 #[.slice a0 len0 cap0] w fun e w' => e = .returned (.bool true) ∧ Below w.heap.size w w' := by
 obtain ⟨l0, rfl, hr0, hm0, hw0, hc0⟩ := ReadsInt.ofRowC w0
 obtain ⟨k, h⟩ := P l0 hm0 y0 hw0
 refine (laws_FnQueues.calls k _ _ l0 true w (Kd.C_of_reads (d := (0 : Int)) (h1 := fun _ => rfl) hr0) hc0 h).mono ?_
 rintro e w' ⟨rfl, hd⟩
 exact ⟨rfl, hd⟩

end Go.Proofs.Yticepodaobpdlaa.QFnQueues
