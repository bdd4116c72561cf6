/- Printed by a program of the session. Conditions: none. (squeezed). -/
import Derived.Test.YtohbccekdmdmbaaVFnExactCountAltsQFnExactCountAltsx6
namespace Go.Proofs.Ytohbccekdmdmbaa.QFnExactCountAlts
set_option maxHeartbeats 8000000
set_option maxRecDepth 100000
open Go.RowKit Go.Proofs.YtohbccekdmdmbaaW.PrintWords Go.Proofs.YtohbccekdmdmbaaW.PrintLast Go.Proofs.YtohbccekdmdmbaaW.PrintMore Go.Proofs.Ytohbccekdmdmbaa.Open Go.Proofs.Ytohbccekdmdmbaa.Sq
attribute [local go_sem] max2_int min2_int max_two min_two max_three min_three max_four min_four   -- for this text's walks alone
attribute [local go_sem] isSome_set
set_option linter.unusedVariables false
set_option linter.unusedSimpArgs false

def laws_FnExactCountAlts.f (k : Nat) (a0_0 : Int) (l0_1 : List Int) (l0_2 : List Int) (l1 : List (S57)) (a2 : Int) : Option (Bool) := (laws_szTable.f a0_0 l0_1 l0_2 1048576).bind fun t338 => (if t338 < 0 then (some true) else ((laws_szLinkS.f l1 t338).bind fun t339 => (if t339 < 0 then (some true) else ((laws_toTable.f k a0_0 l0_1 l0_2).bind fun bt340 => ((laws_toLinkS.f k l1).bind fun t347 => ((spec_CountAlts.f k bt340.1 bt340.2.1 bt340.2.2 t347 a2).bind fun t350 => ((laws_toTable.f k a0_0 l0_1 l0_2).bind fun bt351 => ((laws_toLinkS.f k l1).bind fun t359 => ((impl_CountAlts.f k bt351.1 bt351.2.1 bt351.2.2 t359 a2).bind fun t362 => (if t362 = t350 then ((laws_toTable.f k a0_0 l0_1 l0_2).bind fun bt363 => ((laws_eqTable.f k bt351.1 bt351.2.1 bt351.2.2 bt363.1 bt363.2.1 bt363.2.2).bind fun t370 => (if t370 = true then ((laws_toLinkS.f k l1).bind fun t371 => ((laws_eqLinkS.f k t359 t371).bind fun t374 => (if t374 = true then (some true) else (some false)))) else (some false)))) else (some false)))))))))))
theorem laws_FnExactCountAlts.mono : ∀ a0 a1 a2 a3 a4 k, LeO (laws_FnExactCountAlts.f k a0 a1 a2 a3 a4) (laws_FnExactCountAlts.f (k + 1) a0 a1 a2 a3 a4) := by
  intro a0 a1 a2 a3 a4 k
  unfold laws_FnExactCountAlts.f
  have m0 := @impl_CountAlts.mono
  have m1 := @laws_eqLinkS.mono
  have m2 := @laws_eqTable.mono
  have m3 := @laws_toLinkS.mono
  have m4 := @laws_toTable.mono
  have m5 := @spec_CountAlts.mono
  exact mo
theorem e7_0 {P : Prop} (h : P := by
 obtain rfl := Option.some.inj H
 go_enter Try.func3, Try.ntmps3
 go_wp2_with (first | ((with_reducible refine gd 3 rfl ?_); refine bx 3 #[.int .i64 a0_0, .slice A0_1 l0_1.length c0_1, .slice A0_2 l0_2.length c0_2] 24 ?_; intro gb337 hg w6 hbox hb; have GW337 := bz w hg; have GE337 := bz w hg; replace HB := bs hb; have BK337 := am hbox; clear hb hbox hg; obtain ⟨hcz7_0, hcz7_1, hcz7_2, hfz7_0, hfz7_1, hfz7_2⟩ := cc3 BK337) | ((with_reducible refine gc 6 rfl ?_); refine gL (some 14) Try.func6 #[.agg #[.int .i64 a0_0, .slice A0_1 l0_1.length c0_1, .slice A0_2 l0_2.length c0_2], .int .i64 1048576] ?_; (with_reducible refine (laws_szTable.calls a0_0 _ _ l0_1 _ _ l0_2 1048576 t338 _ ?side1 ?side2 ?side3 ?side4 A4.out).mono ?_); (case side1 => exact cb HR0_1); (case side2 => exact HC0_1.out); (case side3 => exact cb HR0_2); (case side4 => exact HC0_2.out); rintro e w8 ⟨rfl, hb⟩; refine ⟨_, rfl, ?_⟩; replace BK337 := bb BK337 hb; replace HB := bsw hb; (try clear hb)) | (have _ := A14; (with_reducible refine gc 7 rfl ?_); refine gL (some 19) Try.func7 #[.slice A1 l1.length c1, .int .i64 t338] ?_; (with_reducible refine (laws_szLinkS.calls _ _ l1 t338 t339 _ ?side1 ?side2 A9.out).mono ?_); (case side1 => exact cb HR1); (case side2 => exact HC1.out); rintro e w' ⟨rfl, ⟨nd, rfl⟩⟩; refine ⟨_, rfl, ?_⟩; obtain ⟨hcz114_0, hcz114_1, hcz114_2, hfz114_0, hfz114_1, hfz114_2⟩ := cc3 BK337) | ((with_reducible refine gc 7 rfl ?_); refine gL (some 19) Try.func7 #[.slice A1 l1.length c1, .int .i64 t338] ?_; (with_reducible refine (laws_szLinkS.calls _ _ l1 t338 t339 _ ?side1 ?side2 A9.out).mono ?_); (case side1 => exact cb HR1); (case side2 => exact HC1.out); rintro e w' ⟨rfl, ⟨nd, rfl⟩⟩; refine ⟨_, rfl, ?_⟩) | ((with_reducible refine gc 9 rfl ?_); refine gL (some 23) Try.func9 #[.agg #[.int .i64 a0_0, .slice A0_1 l0_1.length c0_1, .slice A0_2 l0_2.length c0_2]] ?_; (with_reducible refine (laws_toTable.calls k a0_0 _ _ l0_1 _ _ l0_2 t340 t341 t344 _ ?side1 ?side2 ?side3 ?side4 A14.out).mono ?_); (case side1 => exact cb HR0_1); (case side2 => exact HC0_1.out); (case side3 => exact cb HR0_2); (case side4 => exact HC0_2.out); rintro e w115 ⟨v342, v345, rfl, ho0, ho1, hb⟩; refine ⟨_, rfl, ?_⟩; have HO343 := am (Kd.R_lower ho0 (below_size (sbw))); have HO346 := am (Kd.R_lower ho1 (below_size (sbw))); replace BK337 := bb BK337 hb; replace HB := bsw hb; (try clear hb); (try clear ho0); (try clear ho1)) | ((with_reducible refine gc 10 rfl ?_); refine gL (some 25) Try.func10 #[.slice A1 l1.length c1] ?_; (with_reducible refine (laws_toLinkS.calls k _ _ l1 t347 _ ?side1 ?side2 A15.out).mono ?_); (case side1 => exact cb HR1); (case side2 => exact HC1.out); rintro e w116 ⟨v348, rfl, ho0, hb⟩; refine ⟨_, rfl, ?_⟩; replace HO343 := rb HO343 hb; replace HO346 := rb HO346 hb; have HO349 := am (Kd.R_lower ho0 (below_size (sbw))); replace BK337 := bb BK337 hb; replace HB := bsw hb; (try clear hb); (try clear ho0); obtain ⟨Ao117, co117, eo117⟩ := Kd.R_slice HO343.out; subst eo117; obtain ⟨Ao118, co118, eo118⟩ := Kd.R_slice HO346.out; subst eo118; obtain ⟨Ao119, co119, eo119⟩ := Kd.R_slice HO349.out; subst eo119) | ((with_reducible refine gc 8 rfl ?_); refine gL (some 27) Try.func8 #[.agg #[.int .i64 t340, .slice Ao117 t341.length co117, .slice Ao118 t344.length co118], .slice Ao119 t347.length co119, .int .i64 a2] ?_; (with_reducible refine (spec_CountAlts.calls k t340 _ _ t341 _ _ t344 _ _ t347 a2 t350 _ ?side1 ?side2 ?side3 ?side4 ?side5 ?side6 A16.out).mono ?_); (case side1 => exact cr HO343); (case side2 => exact (Kd.R_reads' HO343.out).2.1); (case side3 => exact cr HO346); (case side4 => exact (Kd.R_reads' HO346.out).2.1); (case side5 => exact cr HO349); (case side6 => exact (Kd.R_reads' HO349.out).2.1); rintro e w120 ⟨rfl, hb⟩; refine ⟨_, rfl, ?_⟩; replace HO343 := rb HO343 hb; replace HO346 := rb HO346 hb; replace HO349 := rb HO349 hb; replace BK337 := bb BK337 hb; replace HB := bsw hb; (try clear hb); obtain ⟨hcz121_0, hcz121_1, hcz121_2, hfz121_0, hfz121_1, hfz121_2⟩ := cc3 BK337) | ((with_reducible refine gc 9 rfl ?_); refine gL (some 29) Try.func9 #[.agg #[.int .i64 a0_0, .slice A0_1 l0_1.length c0_1, .slice A0_2 l0_2.length c0_2]] ?_; (with_reducible refine (laws_toTable.calls k a0_0 _ _ l0_1 _ _ l0_2 t351 t352 t355 _ ?side1 ?side2 ?side3 ?side4 A17.out).mono ?_); (case side1 => exact cb HR0_1); (case side2 => exact HC0_1.out); (case side3 => exact cb HR0_2); (case side4 => exact HC0_2.out); rintro e w122 ⟨v353, v356, rfl, ho0, ho1, hb⟩; refine ⟨_, rfl, ?_⟩; replace HO349 := rb HO349 hb; have HO354 := am (Kd.R_lower (Kd.R_new' (Kd.R_new' ho0 (Kd.R_lt (sr HO343))) (Kd.R_lt (sr HO346))) (below_size (sbw))); have HO357 := am (Kd.R_lower (Kd.R_new' (Kd.R_new' ho1 (Kd.R_lt (sr HO343))) (Kd.R_lt (sr HO346))) (below_size (sbw))); replace HO343 := am (Kd.R_mono (Kd.R_told (Kd.R_told (Kd.R_old (sr HO343) hb) (Kd.R_base ho0)) (Kd.R_base ho1)) (fun _ h_ => h_.1)); replace HO346 := am (Kd.R_mono (Kd.R_told (Kd.R_told (Kd.R_old (sr HO346) hb) (Kd.R_base ho0)) (Kd.R_base ho1)) (fun _ h_ => h_.1)); replace BK337 := bb BK337 hb; replace HB := bsw hb; (try clear hb); (try clear ho0); (try clear ho1)) | ((with_reducible refine gd 9 rfl ?_); refine bx 9 #[.int .i64 0, .slice none 0 0, .slice none 0 0] 29 ?_; intro gb358 hg w123 hbox hb; replace HO343 := rb HO343 hb; replace HO346 := rb HO346 hb; replace HO349 := rb HO349 hb; replace HO354 := rb HO354 hb; replace HO357 := rb HO357 hb; have GW358 := bzw w hg; have GE358 := bzw w hg; replace HB := bsw hb; have BK358 := am hbox; have NB337_358 := nl BK337 hg; have NB358_337 := ng BK337 hg; replace BK337 := bb BK337 hb; clear hb hbox hg; have hnb124 := NB358_337.out; have hnc124 := NB337_358.out; obtain ⟨hcz125_0, hcz125_1, hcz125_2, hfz125_0, hfz125_1, hfz125_2⟩ := cc3 BK358; obtain ⟨Ao126, co126, eo126⟩ := Kd.R_slice HO354.out; subst eo126; obtain ⟨Ao127, co127, eo127⟩ := Kd.R_slice HO357.out; subst eo127) | ((with_reducible refine gc 10 rfl ?_); refine gL (some 31) Try.func10 #[.slice A1 l1.length c1] ?_; (with_reducible refine (laws_toLinkS.calls k _ _ l1 t359 _ ?side1 ?side2 A18.out).mono ?_); (case side1 => exact Kd.C_below HR1.out (sbw)); (case side2 => exact HC1.out); rintro e w128 ⟨v360, rfl, ho0, hb⟩; refine ⟨_, rfl, ?_⟩; replace HO343 := am (Kd.R_below (s3 HO343 BK358) hb); replace HO346 := am (Kd.R_below (s3 HO346 BK358) hb); replace HO354 := am (Kd.R_below (s3 HO354 BK358) hb); replace HO357 := am (Kd.R_below (s3 HO357 BK358) hb); have HO361 := am (Kd.R_lower (Kd.R_new' ho0 (Kd.R_lt (s3 HO349 BK358))) (below_size (sbw))); replace HO349 := am (Kd.R_elder' (s3 HO349 BK358) (Kd.R_base ho0) hb); replace BK337 := am (blk_below (g := gb337) (o := .cells #[.int .i64 a0_0, .slice A0_1 l0_1.length c0_1, .slice A0_2 l0_2.length c0_2] 24 (0, 0)) (sp BK337) hb); replace BK358 := am (blk_below (g := gb358) (o := .cells #[.int .i64 t351, .slice Ao126 t352.length co126, .slice Ao127 t355.length co127] 29 (0, 0)) (sp BK358) hb); replace HB := bsw hb; (try clear hb); (try clear ho0); obtain ⟨hcz129_0, hcz129_1, hcz129_2, hfz129_0, hfz129_1, hfz129_2⟩ := cc3 BK358; obtain ⟨Ao130, co130, eo130⟩ := Kd.R_slice HO361.out; subst eo130) | ((with_reducible refine gc 11 rfl ?_); refine gL (some 35) Try.func11 #[.agg #[.int .i64 t351, .slice Ao126 t352.length co126, .slice Ao127 t355.length co127], .slice Ao130 t359.length co130, .int .i64 a2] ?_; (with_reducible refine (impl_CountAlts.calls k t351 _ _ t352 _ _ t355 _ _ t359 a2 t362 _ ?side1 ?side2 ?side3 ?side4 ?side5 ?side6 A19.out).mono ?_); (case side1 => exact cr HO354); (case side2 => exact (Kd.R_reads' HO354.out).2.1); (case side3 => exact cr HO357); (case side4 => exact (Kd.R_reads' HO357.out).2.1); (case side5 => exact cr HO361); (case side6 => exact (Kd.R_reads' HO361.out).2.1); rintro e w131 ⟨rfl, hb⟩; refine ⟨_, rfl, ?_⟩; replace HO343 := rb HO343 hb; replace HO346 := rb HO346 hb; replace HO349 := rb HO349 hb; replace HO354 := rb HO354 hb; replace HO357 := rb HO357 hb; replace HO361 := rb HO361 hb; replace BK337 := bb BK337 hb; replace BK358 := bb BK358 hb; replace HB := bsw hb; (try clear hb)))
 first
 | have _ := A14
   go_ret
   exact ⟨se, sbw⟩
   
 | go_ret
   exact ⟨se, sbw⟩) : P := h
theorem laws_FnExactCountAlts.calls (k : Nat) (a0_0 : Int) (A0_1 : Option Addr) (c0_1 : Nat) (l0_1 : List Int) (A0_2 : Option Addr) (c0_2 : Nat) (l0_2 : List Int) (A1 : Option Addr) (c1 : Nat) (l1 : List (S57)) (a2 : Int) (r : Bool) (w : World) (hr0_1 : Kd.C (Kd.int .i64) w A0_1 l0_1.length l0_1) (hc0_1 : l0_1.length ≤ c0_1) (hr0_2 : Kd.C (Kd.int .i64) w A0_2 l0_2.length l0_2) (hc0_2 : l0_2.length ≤ c0_2) (hr1 : Kd.C k57 w A1 l1.length l1) (hc1 : l1.length ≤ c1) (h : laws_FnExactCountAlts.f k a0_0 l0_1 l0_2 l1 a2 = some r) :
    Calls Try.prog 3 #[.agg #[.int .i64 a0_0, .slice A0_1 l0_1.length c0_1, .slice A0_2 l0_2.length c0_2], .slice A1 l1.length c1, .int .i64 a2] w fun e w' => e = .returned (.bool r) ∧ Below w.heap.size w w' := by
 have hu24 := Try.underlying24
 have hu29 := Try.underlying29
 have HR0_1 := am hr0_1
 have HC0_1 := am hc0_1
 clear hr0_1 hc0_1
 have HR0_2 := am hr0_2
 have HC0_2 := am hc0_2
 clear hr0_2 hc0_2
 have HR1 := am hr1
 have HC1 := am hc1
 clear hr1 hc1
 have HB := am (Below.refl w.heap.size w)
 have H := h; unfold laws_FnExactCountAlts.f at H
 clear h
 obtain ⟨t338, A4, H⟩ := bnd H
 obtain ⟨-, c5b0, H⟩ | ⟨-, c5b0, H⟩ := ic_ H
 ·exact e7_0
 ·obtain ⟨t339, A9, H⟩ := bnd H
  obtain ⟨-, c10b0, H⟩ | ⟨-, c10b0, H⟩ := ic_ H
  ·exact e7_0
  ·obtain ⟨⟨t340, t341, t344⟩, A14, H⟩ := bnd H
   try dsimp only at H
   obtain ⟨t347, A15, H⟩ := bnd H
   obtain ⟨t350, A16, H⟩ := bnd H
   obtain ⟨⟨t351, t352, t355⟩, A17, H⟩ := bnd H
   try dsimp only at H
   obtain ⟨t359, A18, H⟩ := bnd H
   obtain ⟨t362, A19, H⟩ := bnd H
   obtain ⟨-, c20b0, c20b1, H⟩ | ⟨c20, c20b0, c20b1, H⟩ := ib_ H
   ·obtain ⟨⟨t363, t364, t367⟩, A21, H⟩ := bnd H
    try dsimp only at H
    obtain ⟨t370, A22, H⟩ := bnd H
    obtain rfl | rfl := tt t370
    ·replace H := ip H
     obtain ⟨t371, A24, H⟩ := bnd H
     obtain ⟨t374, A25, H⟩ := bnd H
     obtain rfl | rfl := tt t374
     ·replace H := ip H
      obtain rfl := Option.some.inj H
      go_enter Try.func3, Try.ntmps3
      try go_wp2_with (first | ((with_reducible refine gd 3 rfl ?_); refine bx 3 #[.int .i64 a0_0, .slice A0_1 l0_1.length c0_1, .slice A0_2 l0_2.length c0_2] 24 ?_; intro gb337 hg w27 hbox hb; have GW337 := bz w hg; have GE337 := bz w hg; replace HB := bs hb; have BK337 := am hbox; clear hb hbox hg; obtain ⟨hcz28_0, hcz28_1, hcz28_2, hfz28_0, hfz28_1, hfz28_2⟩ := cc3 BK337) | ((with_reducible refine gc 6 rfl ?_); refine gL (some 14) Try.func6 #[.agg #[.int .i64 a0_0, .slice A0_1 l0_1.length c0_1, .slice A0_2 l0_2.length c0_2], .int .i64 1048576] ?_; (with_reducible refine (laws_szTable.calls a0_0 _ _ l0_1 _ _ l0_2 1048576 t338 _ ?side1 ?side2 ?side3 ?side4 A4.out).mono ?_); (case side1 => exact cb HR0_1); (case side2 => exact HC0_1.out); (case side3 => exact cb HR0_2); (case side4 => exact HC0_2.out); rintro e w29 ⟨rfl, hb⟩; refine ⟨_, rfl, ?_⟩; replace BK337 := bb BK337 hb; replace HB := bsw hb; (try clear hb)) | ((with_reducible refine gc 7 rfl ?_); refine gL (some 19) Try.func7 #[.slice A1 l1.length c1, .int .i64 t338] ?_; (with_reducible refine (laws_szLinkS.calls _ _ l1 t338 t339 _ ?side1 ?side2 A9.out).mono ?_); (case side1 => exact cb HR1); (case side2 => exact HC1.out); rintro e w' ⟨rfl, ⟨nd, rfl⟩⟩; refine ⟨_, rfl, ?_⟩; obtain ⟨hcz30_0, hcz30_1, hcz30_2, hfz30_0, hfz30_1, hfz30_2⟩ := cc3 BK337) | ((with_reducible refine gc 9 rfl ?_); refine gL (some 23) Try.func9 #[.agg #[.int .i64 a0_0, .slice A0_1 l0_1.length c0_1, .slice A0_2 l0_2.length c0_2]] ?_; (with_reducible refine (laws_toTable.calls k a0_0 _ _ l0_1 _ _ l0_2 t340 t341 t344 _ ?side1 ?side2 ?side3 ?side4 A14.out).mono ?_); (case side1 => exact cb HR0_1); (case side2 => exact HC0_1.out); (case side3 => exact cb HR0_2); (case side4 => exact HC0_2.out); rintro e w31 ⟨v342, v345, rfl, ho0, ho1, hb⟩; refine ⟨_, rfl, ?_⟩; have HO343 := am (Kd.R_lower ho0 (below_size (sbw))); have HO346 := am (Kd.R_lower ho1 (below_size (sbw))); replace BK337 := bb BK337 hb; replace HB := bsw hb; (try clear hb); (try clear ho0); (try clear ho1)) | ((with_reducible refine gc 10 rfl ?_); refine gL (some 25) Try.func10 #[.slice A1 l1.length c1] ?_; (with_reducible refine (laws_toLinkS.calls k _ _ l1 t347 _ ?side1 ?side2 A15.out).mono ?_); (case side1 => exact cb HR1); (case side2 => exact HC1.out); rintro e w32 ⟨v348, rfl, ho0, hb⟩; refine ⟨_, rfl, ?_⟩; replace HO343 := rb HO343 hb; replace HO346 := rb HO346 hb; have HO349 := am (Kd.R_lower ho0 (below_size (sbw))); replace BK337 := bb BK337 hb; replace HB := bsw hb; (try clear hb); (try clear ho0); obtain ⟨Ao33, co33, eo33⟩ := Kd.R_slice HO343.out; subst eo33; obtain ⟨Ao34, co34, eo34⟩ := Kd.R_slice HO346.out; subst eo34; obtain ⟨Ao35, co35, eo35⟩ := Kd.R_slice HO349.out; subst eo35) | ((with_reducible refine gc 8 rfl ?_); refine gL (some 27) Try.func8 #[.agg #[.int .i64 t340, .slice Ao33 t341.length co33, .slice Ao34 t344.length co34], .slice Ao35 t347.length co35, .int .i64 a2] ?_; (with_reducible refine (spec_CountAlts.calls k t340 _ _ t341 _ _ t344 _ _ t347 a2 t350 _ ?side1 ?side2 ?side3 ?side4 ?side5 ?side6 A16.out).mono ?_); (case side1 => exact cr HO343); (case side2 => exact (Kd.R_reads' HO343.out).2.1); (case side3 => exact cr HO346); (case side4 => exact (Kd.R_reads' HO346.out).2.1); (case side5 => exact cr HO349); (case side6 => exact (Kd.R_reads' HO349.out).2.1); rintro e w36 ⟨rfl, hb⟩; refine ⟨_, rfl, ?_⟩; replace HO343 := rb HO343 hb; replace HO346 := rb HO346 hb; replace HO349 := rb HO349 hb; replace BK337 := bb BK337 hb; replace HB := bsw hb; (try clear hb); obtain ⟨hcz37_0, hcz37_1, hcz37_2, hfz37_0, hfz37_1, hfz37_2⟩ := cc3 BK337) | ((with_reducible refine gc 9 rfl ?_); refine gL (some 29) Try.func9 #[.agg #[.int .i64 a0_0, .slice A0_1 l0_1.length c0_1, .slice A0_2 l0_2.length c0_2]] ?_; (with_reducible refine (laws_toTable.calls k a0_0 _ _ l0_1 _ _ l0_2 t351 t352 t355 _ ?side1 ?side2 ?side3 ?side4 A17.out).mono ?_); (case side1 => exact cb HR0_1); (case side2 => exact HC0_1.out); (case side3 => exact cb HR0_2); (case side4 => exact HC0_2.out); rintro e w38 ⟨v353, v356, rfl, ho0, ho1, hb⟩; refine ⟨_, rfl, ?_⟩; replace HO349 := rb HO349 hb; have HO354 := am (Kd.R_lower (Kd.R_new' (Kd.R_new' ho0 (Kd.R_lt (sr HO343))) (Kd.R_lt (sr HO346))) (below_size (sbw))); have HO357 := am (Kd.R_lower (Kd.R_new' (Kd.R_new' ho1 (Kd.R_lt (sr HO343))) (Kd.R_lt (sr HO346))) (below_size (sbw))); replace HO343 := am (Kd.R_mono (Kd.R_told (Kd.R_told (Kd.R_old (sr HO343) hb) (Kd.R_base ho0)) (Kd.R_base ho1)) (fun _ h_ => h_.1)); replace HO346 := am (Kd.R_mono (Kd.R_told (Kd.R_told (Kd.R_old (sr HO346) hb) (Kd.R_base ho0)) (Kd.R_base ho1)) (fun _ h_ => h_.1)); replace BK337 := bb BK337 hb; replace HB := bsw hb; (try clear hb); (try clear ho0); (try clear ho1)) | ((with_reducible refine gd 9 rfl ?_); refine bx 9 #[.int .i64 0, .slice none 0 0, .slice none 0 0] 29 ?_; intro gb358 hg w39 hbox hb; replace HO343 := rb HO343 hb; replace HO346 := rb HO346 hb; replace HO349 := rb HO349 hb; replace HO354 := rb HO354 hb; replace HO357 := rb HO357 hb; have GW358 := bzw w hg; have GE358 := bzw w hg; replace HB := bsw hb; have BK358 := am hbox; have NB337_358 := nl BK337 hg; have NB358_337 := ng BK337 hg; replace BK337 := bb BK337 hb; clear hb hbox hg; have hnb40 := NB358_337.out; have hnc40 := NB337_358.out; obtain ⟨hcz41_0, hcz41_1, hcz41_2, hfz41_0, hfz41_1, hfz41_2⟩ := cc3 BK358; obtain ⟨Ao42, co42, eo42⟩ := Kd.R_slice HO354.out; subst eo42; obtain ⟨Ao43, co43, eo43⟩ := Kd.R_slice HO357.out; subst eo43) | ((with_reducible refine gc 10 rfl ?_); refine gL (some 31) Try.func10 #[.slice A1 l1.length c1] ?_; (with_reducible refine (laws_toLinkS.calls k _ _ l1 t359 _ ?side1 ?side2 A18.out).mono ?_); (case side1 => exact Kd.C_below HR1.out (sbw)); (case side2 => exact HC1.out); rintro e w44 ⟨v360, rfl, ho0, hb⟩; refine ⟨_, rfl, ?_⟩; replace HO343 := am (Kd.R_below (s3 HO343 BK358) hb); replace HO346 := am (Kd.R_below (s3 HO346 BK358) hb); replace HO354 := am (Kd.R_below (s3 HO354 BK358) hb); replace HO357 := am (Kd.R_below (s3 HO357 BK358) hb); have HO361 := am (Kd.R_lower (Kd.R_new' ho0 (Kd.R_lt (s3 HO349 BK358))) (below_size (sbw))); replace HO349 := am (Kd.R_elder' (s3 HO349 BK358) (Kd.R_base ho0) hb); replace BK337 := am (blk_below (g := gb337) (o := .cells #[.int .i64 a0_0, .slice A0_1 l0_1.length c0_1, .slice A0_2 l0_2.length c0_2] 24 (0, 0)) (sp BK337) hb); replace BK358 := am (blk_below (g := gb358) (o := .cells #[.int .i64 t351, .slice Ao42 t352.length co42, .slice Ao43 t355.length co43] 29 (0, 0)) (sp BK358) hb); replace HB := bsw hb; (try clear hb); (try clear ho0); obtain ⟨hcz45_0, hcz45_1, hcz45_2, hfz45_0, hfz45_1, hfz45_2⟩ := cc3 BK358; obtain ⟨Ao46, co46, eo46⟩ := Kd.R_slice HO361.out; subst eo46) | ((with_reducible refine gc 11 rfl ?_); refine gL (some 35) Try.func11 #[.agg #[.int .i64 t351, .slice Ao42 t352.length co42, .slice Ao43 t355.length co43], .slice Ao46 t359.length co46, .int .i64 a2] ?_; (with_reducible refine (impl_CountAlts.calls k t351 _ _ t352 _ _ t355 _ _ t359 a2 t362 _ ?side1 ?side2 ?side3 ?side4 ?side5 ?side6 A19.out).mono ?_); (case side1 => exact cr HO354); (case side2 => exact (Kd.R_reads' HO354.out).2.1); (case side3 => exact cr HO357); (case side4 => exact (Kd.R_reads' HO357.out).2.1); (case side5 => exact cr HO361); (case side6 => exact (Kd.R_reads' HO361.out).2.1); rintro e w47 ⟨rfl, hb⟩; refine ⟨_, rfl, ?_⟩; replace HO343 := rb HO343 hb; replace HO346 := rb HO346 hb; replace HO349 := rb HO349 hb; replace HO354 := rb HO354 hb; replace HO357 := rb HO357 hb; replace HO361 := rb HO361 hb; replace BK337 := bb BK337 hb; replace BK358 := bb BK358 hb; replace HB := bsw hb; (try clear hb)))
      replace HO343 := am (Kd.R_drew HO343.out)
      replace HO346 := am (Kd.R_drew HO346.out)
      replace HO349 := am (Kd.R_drew HO349.out)
      replace HO354 := am (Kd.R_drew HO354.out)
      replace HO357 := am (Kd.R_drew HO357.out)
      replace HO361 := am (Kd.R_drew HO361.out)
      replace BK337 := am (blk_drew BK337.out)
      replace BK358 := am (blk_drew BK358.out)
      replace HB := am (below_drew1 HB.out)
      refine start_ (n := 5) (S := fun w' => w'.cell? ⟨gb358, 0, none⟩ = some (.int .i64 t351) ∧ w'.cell? ⟨gb358, 1, none⟩ = some (.slice Ao42 t352.length co42) ∧ w'.cell? ⟨gb358, 2, none⟩ = some (.slice Ao43 t355.length co43) ∧ w'.cell? ⟨gb337, 0, none⟩ = some (.int .i64 a0_0) ∧ w'.cell? ⟨gb337, 1, none⟩ = some (.slice A0_1 l0_1.length c0_1) ∧ w'.cell? ⟨gb337, 2, none⟩ = some (.slice A0_2 l0_2.length c0_2)) (ds := []) #[false, false, false, false, false] (by kernel_rfl) rfl rfl ⟨bc0 BK358, bc1 BK358, bc2 BK358, bc0 BK337, bc1 BK337, bc2 BK337⟩ (fun hHeld => ?_)
      generalize w47.drew = w48 at HO343 HO346 HO349 HO354 HO357 HO361 BK337 BK358 HB hHeld ⊢
      refine ta6 0 39 (bt 5 1) hHeld ?_
      refine ta6 1 40 (bt 5 3) hHeld ?_
      refine one_ (i := 2) (N := some 41) (bt 5 7) rfl rfl (by kernel_rfl) (by decide) (fun K hK => ?_)
      refine goes_ Try.func9 (by kernel_rfl) rfl #[.agg #[.int .i64 a0_0, .slice A0_1 l0_1.length c0_1, .slice A0_2 l0_2.length c0_2]] (by rfl) rfl rfl sl ?_
      with_reducible refine (laws_toTable.calls k a0_0 _ _ l0_1 _ _ l0_2 t363 t364 t367 _ ?side1 ?side2 ?side3 ?side4 A21.out).mono ?_
      (case side1 => exact cb HR0_1)
      (case side2 => exact HC0_1.out)
      (case side3 => exact cb HR0_2)
      (case side4 => exact HC0_2.out)
      rintro e w49 ⟨v365, v368, rfl, ho0, ho1, hb⟩
      refine ⟨_, rfl, ?_⟩
      replace HO349 := rb HO349 hb
      replace HO361 := rb HO361 hb
      have HO366 := am (Kd.R_lower (Kd.R_new' (Kd.R_new' (Kd.R_new' (Kd.R_new' ho0 (Kd.R_lt (sr HO343))) (Kd.R_lt (sr HO346))) (Kd.R_lt (sr HO354))) (Kd.R_lt (sr HO357))) (below_size (sbw)))
      have HO369 := am (Kd.R_lower (Kd.R_new' (Kd.R_new' (Kd.R_new' (Kd.R_new' ho1 (Kd.R_lt (sr HO343))) (Kd.R_lt (sr HO346))) (Kd.R_lt (sr HO354))) (Kd.R_lt (sr HO357))) (below_size (sbw)))
      replace HO343 := am (Kd.R_mono (Kd.R_told (Kd.R_told (Kd.R_old (sr HO343) hb) (Kd.R_base ho0)) (Kd.R_base ho1)) (fun _ h_ => h_.1))
      replace HO346 := am (Kd.R_mono (Kd.R_told (Kd.R_told (Kd.R_old (sr HO346) hb) (Kd.R_base ho0)) (Kd.R_base ho1)) (fun _ h_ => h_.1))
      replace HO354 := am (Kd.R_mono (Kd.R_told (Kd.R_told (Kd.R_old (sr HO354) hb) (Kd.R_base ho0)) (Kd.R_base ho1)) (fun _ h_ => h_.1))
      replace HO357 := am (Kd.R_mono (Kd.R_told (Kd.R_told (Kd.R_old (sr HO357) hb) (Kd.R_base ho0)) (Kd.R_base ho1)) (fun _ h_ => h_.1))
      replace BK337 := bb BK337 hb
      replace BK358 := bb BK358 hb
      replace HB := bsw hb
      (try clear hb)
      (try clear hb2)
      (try clear hk)
      (try clear hi)
      (try clear ho0)
      (try clear ho1)
      obtain ⟨Ao50, co50, eo50⟩ := Kd.R_slice HO366.out
      (first | subst eo50 | (injection eo50 with f1_ f2_ f3_; have f4_ := f1_.symm; have f5_ := f3_.symm; clear f1_ f2_ f3_; subst f4_; subst f5_))
      obtain ⟨Ao51, co51, eo51⟩ := Kd.R_slice HO369.out
      (first | subst eo51 | (injection eo51 with f1_ f2_ f3_; have f4_ := f1_.symm; have f5_ := f3_.symm; clear f1_ f2_ f3_; subst f4_; subst f5_))
      refine hK.out _ _ ⟨bc0 BK358, bc1 BK358, bc2 BK358, bc0 BK337, bc1 BK337, bc2 BK337⟩ (fun hHeld => ?_)
      clear hK K
      refine nm 41 ?_
      refine one_ (i := 3) (N := some 42) (bt 5 15) rfl rfl (by kernel_rfl) (by decide) (fun K hK => ?_)
      refine goes_ Try.func12 (by kernel_rfl) rfl #[.agg #[.int .i64 t351, .slice Ao42 t352.length co42, .slice Ao43 t355.length co43], .agg #[.int .i64 t363, .slice Ao50 t364.length co50, .slice Ao51 t367.length co51]] (by rfl) rfl rfl sl ?_
      with_reducible refine (laws_eqTable.calls k t351 _ _ t352 _ _ t355 t363 _ _ t364 _ _ t367 true _ ?side1 ?side2 ?side3 ?side4 ?side5 ?side6 ?side7 ?side8 A22.out).mono ?_
      (case side1 => exact cr HO354)
      (case side2 => exact (Kd.R_reads' HO354.out).2.1)
      (case side3 => exact cr HO357)
      (case side4 => exact (Kd.R_reads' HO357.out).2.1)
      (case side5 => exact cr HO366)
      (case side6 => exact (Kd.R_reads' HO366.out).2.1)
      (case side7 => exact cr HO369)
      (case side8 => exact (Kd.R_reads' HO369.out).2.1)
      rintro e w52 ⟨rfl, hb⟩
      refine ⟨_, rfl, ?_⟩
      replace HO343 := rb HO343 hb
      replace HO346 := rb HO346 hb
      replace HO349 := rb HO349 hb
      replace HO354 := rb HO354 hb
      replace HO357 := rb HO357 hb
      replace HO361 := rb HO361 hb
      replace HO366 := rb HO366 hb
      replace HO369 := rb HO369 hb
      replace BK337 := bb BK337 hb
      replace BK358 := bb BK358 hb
      replace HB := bsw hb
      (try clear hb)
      (try clear hb2)
      (try clear hk)
      (try clear hi)
      refine hK.out _ _ ⟨bc0 BK358, bc1 BK358, bc2 BK358, bc0 BK337, bc1 BK337, bc2 BK337⟩ (fun hHeld => ?_)
      clear hK K
      refine nm 42 ?_
      refine pu 4 43 (bt 5 31) ?_
      refine done_ (by kernel_rfl) ?_
      try go_wp2_with (first | ((with_reducible refine gc 10 rfl ?_); refine gL (some 46) Try.func10 #[.slice A1 l1.length c1] ?_; (with_reducible refine (laws_toLinkS.calls k _ _ l1 t371 _ ?side1 ?side2 A24.out).mono ?_); (case side1 => exact cb HR1); (case side2 => exact HC1.out); rintro e w53 ⟨v372, rfl, ho0, hb⟩; refine ⟨_, rfl, ?_⟩; replace HO343 := rb HO343 hb; replace HO346 := rb HO346 hb; replace HO354 := rb HO354 hb; replace HO357 := rb HO357 hb; replace HO366 := rb HO366 hb; replace HO369 := rb HO369 hb; have HO373 := am (Kd.R_lower (Kd.R_new' (Kd.R_new' ho0 (Kd.R_lt (sr HO349))) (Kd.R_lt (sr HO361))) (below_size (sbw))); replace HO349 := am (Kd.R_elder' (sr HO349) (Kd.R_base ho0) hb); replace HO361 := am (Kd.R_elder' (sr HO361) (Kd.R_base ho0) hb); replace BK337 := bb BK337 hb; replace BK358 := bb BK358 hb; replace HB := bsw hb; (try clear hb); (try clear ho0); obtain ⟨Ao54, co54, eo54⟩ := Kd.R_slice HO373.out; subst eo54) | ((with_reducible refine gc 13 rfl ?_); refine gL (some 47) Try.func13 #[.slice Ao46 t359.length co46, .slice Ao54 t371.length co54] ?_; (with_reducible refine (laws_eqLinkS.calls k _ _ t359 _ _ t371 true _ ?side1 ?side2 ?side3 ?side4 A25.out).mono ?_); (case side1 => exact cr HO361); (case side2 => exact (Kd.R_reads' HO361.out).2.1); (case side3 => exact cr HO373); (case side4 => exact (Kd.R_reads' HO373.out).2.1); rintro e w55 ⟨rfl, hb⟩; refine ⟨_, rfl, ?_⟩; replace HO343 := rb HO343 hb; replace HO346 := rb HO346 hb; replace HO349 := rb HO349 hb; replace HO354 := rb HO354 hb; replace HO357 := rb HO357 hb; replace HO361 := rb HO361 hb; replace HO366 := rb HO366 hb; replace HO369 := rb HO369 hb; replace HO373 := rb HO373 hb; replace BK337 := bb BK337 hb; replace BK358 := bb BK358 hb; replace HB := bsw hb; (try clear hb)))
      go_ret
      exact ⟨se, sbw⟩
     ·replace H := im H
      obtain rfl := Option.some.inj H
      go_enter Try.func3, Try.ntmps3
      try go_wp2_with (first | ((with_reducible refine gd 3 rfl ?_); refine bx 3 #[.int .i64 a0_0, .slice A0_1 l0_1.length c0_1, .slice A0_2 l0_2.length c0_2] 24 ?_; intro gb337 hg w56 hbox hb; have GW337 := bz w hg; have GE337 := bz w hg; replace HB := bs hb; have BK337 := am hbox; clear hb hbox hg; obtain ⟨hcz57_0, hcz57_1, hcz57_2, hfz57_0, hfz57_1, hfz57_2⟩ := cc3 BK337) | ((with_reducible refine gc 6 rfl ?_); refine gL (some 14) Try.func6 #[.agg #[.int .i64 a0_0, .slice A0_1 l0_1.length c0_1, .slice A0_2 l0_2.length c0_2], .int .i64 1048576] ?_; (with_reducible refine (laws_szTable.calls a0_0 _ _ l0_1 _ _ l0_2 1048576 t338 _ ?side1 ?side2 ?side3 ?side4 A4.out).mono ?_); (case side1 => exact cb HR0_1); (case side2 => exact HC0_1.out); (case side3 => exact cb HR0_2); (case side4 => exact HC0_2.out); rintro e w58 ⟨rfl, hb⟩; refine ⟨_, rfl, ?_⟩; replace BK337 := bb BK337 hb; replace HB := bsw hb; (try clear hb)) | ((with_reducible refine gc 7 rfl ?_); refine gL (some 19) Try.func7 #[.slice A1 l1.length c1, .int .i64 t338] ?_; (with_reducible refine (laws_szLinkS.calls _ _ l1 t338 t339 _ ?side1 ?side2 A9.out).mono ?_); (case side1 => exact cb HR1); (case side2 => exact HC1.out); rintro e w' ⟨rfl, ⟨nd, rfl⟩⟩; refine ⟨_, rfl, ?_⟩; obtain ⟨hcz59_0, hcz59_1, hcz59_2, hfz59_0, hfz59_1, hfz59_2⟩ := cc3 BK337) | ((with_reducible refine gc 9 rfl ?_); refine gL (some 23) Try.func9 #[.agg #[.int .i64 a0_0, .slice A0_1 l0_1.length c0_1, .slice A0_2 l0_2.length c0_2]] ?_; (with_reducible refine (laws_toTable.calls k a0_0 _ _ l0_1 _ _ l0_2 t340 t341 t344 _ ?side1 ?side2 ?side3 ?side4 A14.out).mono ?_); (case side1 => exact cb HR0_1); (case side2 => exact HC0_1.out); (case side3 => exact cb HR0_2); (case side4 => exact HC0_2.out); rintro e w60 ⟨v342, v345, rfl, ho0, ho1, hb⟩; refine ⟨_, rfl, ?_⟩; have HO343 := am (Kd.R_lower ho0 (below_size (sbw))); have HO346 := am (Kd.R_lower ho1 (below_size (sbw))); replace BK337 := bb BK337 hb; replace HB := bsw hb; (try clear hb); (try clear ho0); (try clear ho1)) | ((with_reducible refine gc 10 rfl ?_); refine gL (some 25) Try.func10 #[.slice A1 l1.length c1] ?_; (with_reducible refine (laws_toLinkS.calls k _ _ l1 t347 _ ?side1 ?side2 A15.out).mono ?_); (case side1 => exact cb HR1); (case side2 => exact HC1.out); rintro e w61 ⟨v348, rfl, ho0, hb⟩; refine ⟨_, rfl, ?_⟩; replace HO343 := rb HO343 hb; replace HO346 := rb HO346 hb; have HO349 := am (Kd.R_lower ho0 (below_size (sbw))); replace BK337 := bb BK337 hb; replace HB := bsw hb; (try clear hb); (try clear ho0); obtain ⟨Ao62, co62, eo62⟩ := Kd.R_slice HO343.out; subst eo62; obtain ⟨Ao63, co63, eo63⟩ := Kd.R_slice HO346.out; subst eo63; obtain ⟨Ao64, co64, eo64⟩ := Kd.R_slice HO349.out; subst eo64) | ((with_reducible refine gc 8 rfl ?_); refine gL (some 27) Try.func8 #[.agg #[.int .i64 t340, .slice Ao62 t341.length co62, .slice Ao63 t344.length co63], .slice Ao64 t347.length co64, .int .i64 a2] ?_; (with_reducible refine (spec_CountAlts.calls k t340 _ _ t341 _ _ t344 _ _ t347 a2 t350 _ ?side1 ?side2 ?side3 ?side4 ?side5 ?side6 A16.out).mono ?_); (case side1 => exact cr HO343); (case side2 => exact (Kd.R_reads' HO343.out).2.1); (case side3 => exact cr HO346); (case side4 => exact (Kd.R_reads' HO346.out).2.1); (case side5 => exact cr HO349); (case side6 => exact (Kd.R_reads' HO349.out).2.1); rintro e w65 ⟨rfl, hb⟩; refine ⟨_, rfl, ?_⟩; replace HO343 := rb HO343 hb; replace HO346 := rb HO346 hb; replace HO349 := rb HO349 hb; replace BK337 := bb BK337 hb; replace HB := bsw hb; (try clear hb); obtain ⟨hcz66_0, hcz66_1, hcz66_2, hfz66_0, hfz66_1, hfz66_2⟩ := cc3 BK337) | ((with_reducible refine gc 9 rfl ?_); refine gL (some 29) Try.func9 #[.agg #[.int .i64 a0_0, .slice A0_1 l0_1.length c0_1, .slice A0_2 l0_2.length c0_2]] ?_; (with_reducible refine (laws_toTable.calls k a0_0 _ _ l0_1 _ _ l0_2 t351 t352 t355 _ ?side1 ?side2 ?side3 ?side4 A17.out).mono ?_); (case side1 => exact cb HR0_1); (case side2 => exact HC0_1.out); (case side3 => exact cb HR0_2); (case side4 => exact HC0_2.out); rintro e w67 ⟨v353, v356, rfl, ho0, ho1, hb⟩; refine ⟨_, rfl, ?_⟩; replace HO349 := rb HO349 hb; have HO354 := am (Kd.R_lower (Kd.R_new' (Kd.R_new' ho0 (Kd.R_lt (sr HO343))) (Kd.R_lt (sr HO346))) (below_size (sbw))); have HO357 := am (Kd.R_lower (Kd.R_new' (Kd.R_new' ho1 (Kd.R_lt (sr HO343))) (Kd.R_lt (sr HO346))) (below_size (sbw))); replace HO343 := am (Kd.R_mono (Kd.R_told (Kd.R_told (Kd.R_old (sr HO343) hb) (Kd.R_base ho0)) (Kd.R_base ho1)) (fun _ h_ => h_.1)); replace HO346 := am (Kd.R_mono (Kd.R_told (Kd.R_told (Kd.R_old (sr HO346) hb) (Kd.R_base ho0)) (Kd.R_base ho1)) (fun _ h_ => h_.1)); replace BK337 := bb BK337 hb; replace HB := bsw hb; (try clear hb); (try clear ho0); (try clear ho1)) | ((with_reducible refine gd 9 rfl ?_); refine bx 9 #[.int .i64 0, .slice none 0 0, .slice none 0 0] 29 ?_; intro gb358 hg w68 hbox hb; replace HO343 := rb HO343 hb; replace HO346 := rb HO346 hb; replace HO349 := rb HO349 hb; replace HO354 := rb HO354 hb; replace HO357 := rb HO357 hb; have GW358 := bzw w hg; have GE358 := bzw w hg; replace HB := bsw hb; have BK358 := am hbox; have NB337_358 := nl BK337 hg; have NB358_337 := ng BK337 hg; replace BK337 := bb BK337 hb; clear hb hbox hg; have hnb69 := NB358_337.out; have hnc69 := NB337_358.out; obtain ⟨hcz70_0, hcz70_1, hcz70_2, hfz70_0, hfz70_1, hfz70_2⟩ := cc3 BK358; obtain ⟨Ao71, co71, eo71⟩ := Kd.R_slice HO354.out; subst eo71; obtain ⟨Ao72, co72, eo72⟩ := Kd.R_slice HO357.out; subst eo72) | ((with_reducible refine gc 10 rfl ?_); refine gL (some 31) Try.func10 #[.slice A1 l1.length c1] ?_; (with_reducible refine (laws_toLinkS.calls k _ _ l1 t359 _ ?side1 ?side2 A18.out).mono ?_); (case side1 => exact Kd.C_below HR1.out (sbw)); (case side2 => exact HC1.out); rintro e w73 ⟨v360, rfl, ho0, hb⟩; refine ⟨_, rfl, ?_⟩; replace HO343 := am (Kd.R_below (s3 HO343 BK358) hb); replace HO346 := am (Kd.R_below (s3 HO346 BK358) hb); replace HO354 := am (Kd.R_below (s3 HO354 BK358) hb); replace HO357 := am (Kd.R_below (s3 HO357 BK358) hb); have HO361 := am (Kd.R_lower (Kd.R_new' ho0 (Kd.R_lt (s3 HO349 BK358))) (below_size (sbw))); replace HO349 := am (Kd.R_elder' (s3 HO349 BK358) (Kd.R_base ho0) hb); replace BK337 := am (blk_below (g := gb337) (o := .cells #[.int .i64 a0_0, .slice A0_1 l0_1.length c0_1, .slice A0_2 l0_2.length c0_2] 24 (0, 0)) (sp BK337) hb); replace BK358 := am (blk_below (g := gb358) (o := .cells #[.int .i64 t351, .slice Ao71 t352.length co71, .slice Ao72 t355.length co72] 29 (0, 0)) (sp BK358) hb); replace HB := bsw hb; (try clear hb); (try clear ho0); obtain ⟨hcz74_0, hcz74_1, hcz74_2, hfz74_0, hfz74_1, hfz74_2⟩ := cc3 BK358; obtain ⟨Ao75, co75, eo75⟩ := Kd.R_slice HO361.out; subst eo75) | ((with_reducible refine gc 11 rfl ?_); refine gL (some 35) Try.func11 #[.agg #[.int .i64 t351, .slice Ao71 t352.length co71, .slice Ao72 t355.length co72], .slice Ao75 t359.length co75, .int .i64 a2] ?_; (with_reducible refine (impl_CountAlts.calls k t351 _ _ t352 _ _ t355 _ _ t359 a2 t362 _ ?side1 ?side2 ?side3 ?side4 ?side5 ?side6 A19.out).mono ?_); (case side1 => exact cr HO354); (case side2 => exact (Kd.R_reads' HO354.out).2.1); (case side3 => exact cr HO357); (case side4 => exact (Kd.R_reads' HO357.out).2.1); (case side5 => exact cr HO361); (case side6 => exact (Kd.R_reads' HO361.out).2.1); rintro e w76 ⟨rfl, hb⟩; refine ⟨_, rfl, ?_⟩; replace HO343 := rb HO343 hb; replace HO346 := rb HO346 hb; replace HO349 := rb HO349 hb; replace HO354 := rb HO354 hb; replace HO357 := rb HO357 hb; replace HO361 := rb HO361 hb; replace BK337 := bb BK337 hb; replace BK358 := bb BK358 hb; replace HB := bsw hb; (try clear hb)))
      replace HO343 := am (Kd.R_drew HO343.out)
      replace HO346 := am (Kd.R_drew HO346.out)
      replace HO349 := am (Kd.R_drew HO349.out)
      replace HO354 := am (Kd.R_drew HO354.out)
      replace HO357 := am (Kd.R_drew HO357.out)
      replace HO361 := am (Kd.R_drew HO361.out)
      replace BK337 := am (blk_drew BK337.out)
      replace BK358 := am (blk_drew BK358.out)
      replace HB := am (below_drew1 HB.out)
      refine start_ (n := 5) (S := fun w' => w'.cell? ⟨gb358, 0, none⟩ = some (.int .i64 t351) ∧ w'.cell? ⟨gb358, 1, none⟩ = some (.slice Ao71 t352.length co71) ∧ w'.cell? ⟨gb358, 2, none⟩ = some (.slice Ao72 t355.length co72) ∧ w'.cell? ⟨gb337, 0, none⟩ = some (.int .i64 a0_0) ∧ w'.cell? ⟨gb337, 1, none⟩ = some (.slice A0_1 l0_1.length c0_1) ∧ w'.cell? ⟨gb337, 2, none⟩ = some (.slice A0_2 l0_2.length c0_2)) (ds := []) #[false, false, false, false, false] (by kernel_rfl) rfl rfl ⟨bc0 BK358, bc1 BK358, bc2 BK358, bc0 BK337, bc1 BK337, bc2 BK337⟩ (fun hHeld => ?_)
      generalize w76.drew = w77 at HO343 HO346 HO349 HO354 HO357 HO361 BK337 BK358 HB hHeld ⊢
      refine ta6 0 39 (bt 5 1) hHeld ?_
      refine ta6 1 40 (bt 5 3) hHeld ?_
      refine one_ (i := 2) (N := some 41) (bt 5 7) rfl rfl (by kernel_rfl) (by decide) (fun K hK => ?_)
      refine goes_ Try.func9 (by kernel_rfl) rfl #[.agg #[.int .i64 a0_0, .slice A0_1 l0_1.length c0_1, .slice A0_2 l0_2.length c0_2]] (by rfl) rfl rfl sl ?_
      with_reducible refine (laws_toTable.calls k a0_0 _ _ l0_1 _ _ l0_2 t363 t364 t367 _ ?side1 ?side2 ?side3 ?side4 A21.out).mono ?_
      (case side1 => exact cb HR0_1)
      (case side2 => exact HC0_1.out)
      (case side3 => exact cb HR0_2)
      (case side4 => exact HC0_2.out)
      rintro e w78 ⟨v365, v368, rfl, ho0, ho1, hb⟩
      refine ⟨_, rfl, ?_⟩
      replace HO349 := rb HO349 hb
      replace HO361 := rb HO361 hb
      have HO366 := am (Kd.R_lower (Kd.R_new' (Kd.R_new' (Kd.R_new' (Kd.R_new' ho0 (Kd.R_lt (sr HO343))) (Kd.R_lt (sr HO346))) (Kd.R_lt (sr HO354))) (Kd.R_lt (sr HO357))) (below_size (sbw)))
      have HO369 := am (Kd.R_lower (Kd.R_new' (Kd.R_new' (Kd.R_new' (Kd.R_new' ho1 (Kd.R_lt (sr HO343))) (Kd.R_lt (sr HO346))) (Kd.R_lt (sr HO354))) (Kd.R_lt (sr HO357))) (below_size (sbw)))
      replace HO343 := am (Kd.R_mono (Kd.R_told (Kd.R_told (Kd.R_old (sr HO343) hb) (Kd.R_base ho0)) (Kd.R_base ho1)) (fun _ h_ => h_.1))
      replace HO346 := am (Kd.R_mono (Kd.R_told (Kd.R_told (Kd.R_old (sr HO346) hb) (Kd.R_base ho0)) (Kd.R_base ho1)) (fun _ h_ => h_.1))
      replace HO354 := am (Kd.R_mono (Kd.R_told (Kd.R_told (Kd.R_old (sr HO354) hb) (Kd.R_base ho0)) (Kd.R_base ho1)) (fun _ h_ => h_.1))
      replace HO357 := am (Kd.R_mono (Kd.R_told (Kd.R_told (Kd.R_old (sr HO357) hb) (Kd.R_base ho0)) (Kd.R_base ho1)) (fun _ h_ => h_.1))
      replace BK337 := bb BK337 hb
      replace BK358 := bb BK358 hb
      replace HB := bsw hb
      (try clear hb)
      (try clear hb2)
      (try clear hk)
      (try clear hi)
      (try clear ho0)
      (try clear ho1)
      obtain ⟨Ao79, co79, eo79⟩ := Kd.R_slice HO366.out
      (first | subst eo79 | (injection eo79 with f1_ f2_ f3_; have f4_ := f1_.symm; have f5_ := f3_.symm; clear f1_ f2_ f3_; subst f4_; subst f5_))
      obtain ⟨Ao80, co80, eo80⟩ := Kd.R_slice HO369.out
      (first | subst eo80 | (injection eo80 with f1_ f2_ f3_; have f4_ := f1_.symm; have f5_ := f3_.symm; clear f1_ f2_ f3_; subst f4_; subst f5_))
      refine hK.out _ _ ⟨bc0 BK358, bc1 BK358, bc2 BK358, bc0 BK337, bc1 BK337, bc2 BK337⟩ (fun hHeld => ?_)
      clear hK K
      refine nm 41 ?_
      refine one_ (i := 3) (N := some 42) (bt 5 15) rfl rfl (by kernel_rfl) (by decide) (fun K hK => ?_)
      refine goes_ Try.func12 (by kernel_rfl) rfl #[.agg #[.int .i64 t351, .slice Ao71 t352.length co71, .slice Ao72 t355.length co72], .agg #[.int .i64 t363, .slice Ao79 t364.length co79, .slice Ao80 t367.length co80]] (by rfl) rfl rfl sl ?_
      with_reducible refine (laws_eqTable.calls k t351 _ _ t352 _ _ t355 t363 _ _ t364 _ _ t367 true _ ?side1 ?side2 ?side3 ?side4 ?side5 ?side6 ?side7 ?side8 A22.out).mono ?_
      (case side1 => exact cr HO354)
      (case side2 => exact (Kd.R_reads' HO354.out).2.1)
      (case side3 => exact cr HO357)
      (case side4 => exact (Kd.R_reads' HO357.out).2.1)
      (case side5 => exact cr HO366)
      (case side6 => exact (Kd.R_reads' HO366.out).2.1)
      (case side7 => exact cr HO369)
      (case side8 => exact (Kd.R_reads' HO369.out).2.1)
      rintro e w81 ⟨rfl, hb⟩
      refine ⟨_, rfl, ?_⟩
      replace HO343 := rb HO343 hb
      replace HO346 := rb HO346 hb
      replace HO349 := rb HO349 hb
      replace HO354 := rb HO354 hb
      replace HO357 := rb HO357 hb
      replace HO361 := rb HO361 hb
      replace HO366 := rb HO366 hb
      replace HO369 := rb HO369 hb
      replace BK337 := bb BK337 hb
      replace BK358 := bb BK358 hb
      replace HB := bsw hb
      (try clear hb)
      (try clear hb2)
      (try clear hk)
      (try clear hi)
      refine hK.out _ _ ⟨bc0 BK358, bc1 BK358, bc2 BK358, bc0 BK337, bc1 BK337, bc2 BK337⟩ (fun hHeld => ?_)
      clear hK K
      refine nm 42 ?_
      refine pu 4 43 (bt 5 31) ?_
      refine done_ (by kernel_rfl) ?_
      try go_wp2_with (first | ((with_reducible refine gc 10 rfl ?_); refine gL (some 46) Try.func10 #[.slice A1 l1.length c1] ?_; (with_reducible refine (laws_toLinkS.calls k _ _ l1 t371 _ ?side1 ?side2 A24.out).mono ?_); (case side1 => exact cb HR1); (case side2 => exact HC1.out); rintro e w82 ⟨v372, rfl, ho0, hb⟩; refine ⟨_, rfl, ?_⟩; replace HO343 := rb HO343 hb; replace HO346 := rb HO346 hb; replace HO354 := rb HO354 hb; replace HO357 := rb HO357 hb; replace HO366 := rb HO366 hb; replace HO369 := rb HO369 hb; have HO373 := am (Kd.R_lower (Kd.R_new' (Kd.R_new' ho0 (Kd.R_lt (sr HO349))) (Kd.R_lt (sr HO361))) (below_size (sbw))); replace HO349 := am (Kd.R_elder' (sr HO349) (Kd.R_base ho0) hb); replace HO361 := am (Kd.R_elder' (sr HO361) (Kd.R_base ho0) hb); replace BK337 := bb BK337 hb; replace BK358 := bb BK358 hb; replace HB := bsw hb; (try clear hb); (try clear ho0); obtain ⟨Ao83, co83, eo83⟩ := Kd.R_slice HO373.out; subst eo83) | ((with_reducible refine gc 13 rfl ?_); refine gL (some 47) Try.func13 #[.slice Ao75 t359.length co75, .slice Ao83 t371.length co83] ?_; (with_reducible refine (laws_eqLinkS.calls k _ _ t359 _ _ t371 false _ ?side1 ?side2 ?side3 ?side4 A25.out).mono ?_); (case side1 => exact cr HO361); (case side2 => exact (Kd.R_reads' HO361.out).2.1); (case side3 => exact cr HO373); (case side4 => exact (Kd.R_reads' HO373.out).2.1); rintro e w84 ⟨rfl, hb⟩; refine ⟨_, rfl, ?_⟩; replace HO343 := rb HO343 hb; replace HO346 := rb HO346 hb; replace HO349 := rb HO349 hb; replace HO354 := rb HO354 hb; replace HO357 := rb HO357 hb; replace HO361 := rb HO361 hb; replace HO366 := rb HO366 hb; replace HO369 := rb HO369 hb; replace HO373 := rb HO373 hb; replace BK337 := bb BK337 hb; replace BK358 := bb BK358 hb; replace HB := bsw hb; (try clear hb)))
      go_ret
      exact ⟨se, sbw⟩
    ·replace H := im H
     obtain rfl := Option.some.inj H
     go_enter Try.func3, Try.ntmps3
     try go_wp2_with (first | ((with_reducible refine gd 3 rfl ?_); refine bx 3 #[.int .i64 a0_0, .slice A0_1 l0_1.length c0_1, .slice A0_2 l0_2.length c0_2] 24 ?_; intro gb337 hg w85 hbox hb; have GW337 := bz w hg; have GE337 := bz w hg; replace HB := bs hb; have BK337 := am hbox; clear hb hbox hg; obtain ⟨hcz86_0, hcz86_1, hcz86_2, hfz86_0, hfz86_1, hfz86_2⟩ := cc3 BK337) | ((with_reducible refine gc 6 rfl ?_); refine gL (some 14) Try.func6 #[.agg #[.int .i64 a0_0, .slice A0_1 l0_1.length c0_1, .slice A0_2 l0_2.length c0_2], .int .i64 1048576] ?_; (with_reducible refine (laws_szTable.calls a0_0 _ _ l0_1 _ _ l0_2 1048576 t338 _ ?side1 ?side2 ?side3 ?side4 A4.out).mono ?_); (case side1 => exact cb HR0_1); (case side2 => exact HC0_1.out); (case side3 => exact cb HR0_2); (case side4 => exact HC0_2.out); rintro e w87 ⟨rfl, hb⟩; refine ⟨_, rfl, ?_⟩; replace BK337 := bb BK337 hb; replace HB := bsw hb; (try clear hb)) | ((with_reducible refine gc 7 rfl ?_); refine gL (some 19) Try.func7 #[.slice A1 l1.length c1, .int .i64 t338] ?_; (with_reducible refine (laws_szLinkS.calls _ _ l1 t338 t339 _ ?side1 ?side2 A9.out).mono ?_); (case side1 => exact cb HR1); (case side2 => exact HC1.out); rintro e w' ⟨rfl, ⟨nd, rfl⟩⟩; refine ⟨_, rfl, ?_⟩; obtain ⟨hcz88_0, hcz88_1, hcz88_2, hfz88_0, hfz88_1, hfz88_2⟩ := cc3 BK337) | ((with_reducible refine gc 9 rfl ?_); refine gL (some 23) Try.func9 #[.agg #[.int .i64 a0_0, .slice A0_1 l0_1.length c0_1, .slice A0_2 l0_2.length c0_2]] ?_; (with_reducible refine (laws_toTable.calls k a0_0 _ _ l0_1 _ _ l0_2 t340 t341 t344 _ ?side1 ?side2 ?side3 ?side4 A14.out).mono ?_); (case side1 => exact cb HR0_1); (case side2 => exact HC0_1.out); (case side3 => exact cb HR0_2); (case side4 => exact HC0_2.out); rintro e w89 ⟨v342, v345, rfl, ho0, ho1, hb⟩; refine ⟨_, rfl, ?_⟩; have HO343 := am (Kd.R_lower ho0 (below_size (sbw))); have HO346 := am (Kd.R_lower ho1 (below_size (sbw))); replace BK337 := bb BK337 hb; replace HB := bsw hb; (try clear hb); (try clear ho0); (try clear ho1)) | ((with_reducible refine gc 10 rfl ?_); refine gL (some 25) Try.func10 #[.slice A1 l1.length c1] ?_; (with_reducible refine (laws_toLinkS.calls k _ _ l1 t347 _ ?side1 ?side2 A15.out).mono ?_); (case side1 => exact cb HR1); (case side2 => exact HC1.out); rintro e w90 ⟨v348, rfl, ho0, hb⟩; refine ⟨_, rfl, ?_⟩; replace HO343 := rb HO343 hb; replace HO346 := rb HO346 hb; have HO349 := am (Kd.R_lower ho0 (below_size (sbw))); replace BK337 := bb BK337 hb; replace HB := bsw hb; (try clear hb); (try clear ho0); obtain ⟨Ao91, co91, eo91⟩ := Kd.R_slice HO343.out; subst eo91; obtain ⟨Ao92, co92, eo92⟩ := Kd.R_slice HO346.out; subst eo92; obtain ⟨Ao93, co93, eo93⟩ := Kd.R_slice HO349.out; subst eo93) | ((with_reducible refine gc 8 rfl ?_); refine gL (some 27) Try.func8 #[.agg #[.int .i64 t340, .slice Ao91 t341.length co91, .slice Ao92 t344.length co92], .slice Ao93 t347.length co93, .int .i64 a2] ?_; (with_reducible refine (spec_CountAlts.calls k t340 _ _ t341 _ _ t344 _ _ t347 a2 t350 _ ?side1 ?side2 ?side3 ?side4 ?side5 ?side6 A16.out).mono ?_); (case side1 => exact cr HO343); (case side2 => exact (Kd.R_reads' HO343.out).2.1); (case side3 => exact cr HO346); (case side4 => exact (Kd.R_reads' HO346.out).2.1); (case side5 => exact cr HO349); (case side6 => exact (Kd.R_reads' HO349.out).2.1); rintro e w94 ⟨rfl, hb⟩; refine ⟨_, rfl, ?_⟩; replace HO343 := rb HO343 hb; replace HO346 := rb HO346 hb; replace HO349 := rb HO349 hb; replace BK337 := bb BK337 hb; replace HB := bsw hb; (try clear hb); obtain ⟨hcz95_0, hcz95_1, hcz95_2, hfz95_0, hfz95_1, hfz95_2⟩ := cc3 BK337) | ((with_reducible refine gc 9 rfl ?_); refine gL (some 29) Try.func9 #[.agg #[.int .i64 a0_0, .slice A0_1 l0_1.length c0_1, .slice A0_2 l0_2.length c0_2]] ?_; (with_reducible refine (laws_toTable.calls k a0_0 _ _ l0_1 _ _ l0_2 t351 t352 t355 _ ?side1 ?side2 ?side3 ?side4 A17.out).mono ?_); (case side1 => exact cb HR0_1); (case side2 => exact HC0_1.out); (case side3 => exact cb HR0_2); (case side4 => exact HC0_2.out); rintro e w96 ⟨v353, v356, rfl, ho0, ho1, hb⟩; refine ⟨_, rfl, ?_⟩; replace HO349 := rb HO349 hb; have HO354 := am (Kd.R_lower (Kd.R_new' (Kd.R_new' ho0 (Kd.R_lt (sr HO343))) (Kd.R_lt (sr HO346))) (below_size (sbw))); have HO357 := am (Kd.R_lower (Kd.R_new' (Kd.R_new' ho1 (Kd.R_lt (sr HO343))) (Kd.R_lt (sr HO346))) (below_size (sbw))); replace HO343 := am (Kd.R_mono (Kd.R_told (Kd.R_told (Kd.R_old (sr HO343) hb) (Kd.R_base ho0)) (Kd.R_base ho1)) (fun _ h_ => h_.1)); replace HO346 := am (Kd.R_mono (Kd.R_told (Kd.R_told (Kd.R_old (sr HO346) hb) (Kd.R_base ho0)) (Kd.R_base ho1)) (fun _ h_ => h_.1)); replace BK337 := bb BK337 hb; replace HB := bsw hb; (try clear hb); (try clear ho0); (try clear ho1)) | ((with_reducible refine gd 9 rfl ?_); refine bx 9 #[.int .i64 0, .slice none 0 0, .slice none 0 0] 29 ?_; intro gb358 hg w97 hbox hb; replace HO343 := rb HO343 hb; replace HO346 := rb HO346 hb; replace HO349 := rb HO349 hb; replace HO354 := rb HO354 hb; replace HO357 := rb HO357 hb; have GW358 := bzw w hg; have GE358 := bzw w hg; replace HB := bsw hb; have BK358 := am hbox; have NB337_358 := nl BK337 hg; have NB358_337 := ng BK337 hg; replace BK337 := bb BK337 hb; clear hb hbox hg; have hnb98 := NB358_337.out; have hnc98 := NB337_358.out; obtain ⟨hcz99_0, hcz99_1, hcz99_2, hfz99_0, hfz99_1, hfz99_2⟩ := cc3 BK358; obtain ⟨Ao100, co100, eo100⟩ := Kd.R_slice HO354.out; subst eo100; obtain ⟨Ao101, co101, eo101⟩ := Kd.R_slice HO357.out; subst eo101) | ((with_reducible refine gc 10 rfl ?_); refine gL (some 31) Try.func10 #[.slice A1 l1.length c1] ?_; (with_reducible refine (laws_toLinkS.calls k _ _ l1 t359 _ ?side1 ?side2 A18.out).mono ?_); (case side1 => exact Kd.C_below HR1.out (sbw)); (case side2 => exact HC1.out); rintro e w102 ⟨v360, rfl, ho0, hb⟩; refine ⟨_, rfl, ?_⟩; replace HO343 := am (Kd.R_below (s3 HO343 BK358) hb); replace HO346 := am (Kd.R_below (s3 HO346 BK358) hb); replace HO354 := am (Kd.R_below (s3 HO354 BK358) hb); replace HO357 := am (Kd.R_below (s3 HO357 BK358) hb); have HO361 := am (Kd.R_lower (Kd.R_new' ho0 (Kd.R_lt (s3 HO349 BK358))) (below_size (sbw))); replace HO349 := am (Kd.R_elder' (s3 HO349 BK358) (Kd.R_base ho0) hb); replace BK337 := am (blk_below (g := gb337) (o := .cells #[.int .i64 a0_0, .slice A0_1 l0_1.length c0_1, .slice A0_2 l0_2.length c0_2] 24 (0, 0)) (sp BK337) hb); replace BK358 := am (blk_below (g := gb358) (o := .cells #[.int .i64 t351, .slice Ao100 t352.length co100, .slice Ao101 t355.length co101] 29 (0, 0)) (sp BK358) hb); replace HB := bsw hb; (try clear hb); (try clear ho0); obtain ⟨hcz103_0, hcz103_1, hcz103_2, hfz103_0, hfz103_1, hfz103_2⟩ := cc3 BK358; obtain ⟨Ao104, co104, eo104⟩ := Kd.R_slice HO361.out; subst eo104) | ((with_reducible refine gc 11 rfl ?_); refine gL (some 35) Try.func11 #[.agg #[.int .i64 t351, .slice Ao100 t352.length co100, .slice Ao101 t355.length co101], .slice Ao104 t359.length co104, .int .i64 a2] ?_; (with_reducible refine (impl_CountAlts.calls k t351 _ _ t352 _ _ t355 _ _ t359 a2 t362 _ ?side1 ?side2 ?side3 ?side4 ?side5 ?side6 A19.out).mono ?_); (case side1 => exact cr HO354); (case side2 => exact (Kd.R_reads' HO354.out).2.1); (case side3 => exact cr HO357); (case side4 => exact (Kd.R_reads' HO357.out).2.1); (case side5 => exact cr HO361); (case side6 => exact (Kd.R_reads' HO361.out).2.1); rintro e w105 ⟨rfl, hb⟩; refine ⟨_, rfl, ?_⟩; replace HO343 := rb HO343 hb; replace HO346 := rb HO346 hb; replace HO349 := rb HO349 hb; replace HO354 := rb HO354 hb; replace HO357 := rb HO357 hb; replace HO361 := rb HO361 hb; replace BK337 := bb BK337 hb; replace BK358 := bb BK358 hb; replace HB := bsw hb; (try clear hb)))
     replace HO343 := am (Kd.R_drew HO343.out)
     replace HO346 := am (Kd.R_drew HO346.out)
     replace HO349 := am (Kd.R_drew HO349.out)
     replace HO354 := am (Kd.R_drew HO354.out)
     replace HO357 := am (Kd.R_drew HO357.out)
     replace HO361 := am (Kd.R_drew HO361.out)
     replace BK337 := am (blk_drew BK337.out)
     replace BK358 := am (blk_drew BK358.out)
     replace HB := am (below_drew1 HB.out)
     refine start_ (n := 5) (S := fun w' => w'.cell? ⟨gb358, 0, none⟩ = some (.int .i64 t351) ∧ w'.cell? ⟨gb358, 1, none⟩ = some (.slice Ao100 t352.length co100) ∧ w'.cell? ⟨gb358, 2, none⟩ = some (.slice Ao101 t355.length co101) ∧ w'.cell? ⟨gb337, 0, none⟩ = some (.int .i64 a0_0) ∧ w'.cell? ⟨gb337, 1, none⟩ = some (.slice A0_1 l0_1.length c0_1) ∧ w'.cell? ⟨gb337, 2, none⟩ = some (.slice A0_2 l0_2.length c0_2)) (ds := []) #[false, false, false, false, false] (by kernel_rfl) rfl rfl ⟨bc0 BK358, bc1 BK358, bc2 BK358, bc0 BK337, bc1 BK337, bc2 BK337⟩ (fun hHeld => ?_)
     generalize w105.drew = w106 at HO343 HO346 HO349 HO354 HO357 HO361 BK337 BK358 HB hHeld ⊢
     refine ta6 0 39 (bt 5 1) hHeld ?_
     refine ta6 1 40 (bt 5 3) hHeld ?_
     refine one_ (i := 2) (N := some 41) (bt 5 7) rfl rfl (by kernel_rfl) (by decide) (fun K hK => ?_)
     refine goes_ Try.func9 (by kernel_rfl) rfl #[.agg #[.int .i64 a0_0, .slice A0_1 l0_1.length c0_1, .slice A0_2 l0_2.length c0_2]] (by rfl) rfl rfl sl ?_
     with_reducible refine (laws_toTable.calls k a0_0 _ _ l0_1 _ _ l0_2 t363 t364 t367 _ ?side1 ?side2 ?side3 ?side4 A21.out).mono ?_
     (case side1 => exact cb HR0_1)
     (case side2 => exact HC0_1.out)
     (case side3 => exact cb HR0_2)
     (case side4 => exact HC0_2.out)
     rintro e w107 ⟨v365, v368, rfl, ho0, ho1, hb⟩
     refine ⟨_, rfl, ?_⟩
     replace HO349 := rb HO349 hb
     replace HO361 := rb HO361 hb
     have HO366 := am (Kd.R_lower (Kd.R_new' (Kd.R_new' (Kd.R_new' (Kd.R_new' ho0 (Kd.R_lt (sr HO343))) (Kd.R_lt (sr HO346))) (Kd.R_lt (sr HO354))) (Kd.R_lt (sr HO357))) (below_size (sbw)))
     have HO369 := am (Kd.R_lower (Kd.R_new' (Kd.R_new' (Kd.R_new' (Kd.R_new' ho1 (Kd.R_lt (sr HO343))) (Kd.R_lt (sr HO346))) (Kd.R_lt (sr HO354))) (Kd.R_lt (sr HO357))) (below_size (sbw)))
     replace HO343 := am (Kd.R_mono (Kd.R_told (Kd.R_told (Kd.R_old (sr HO343) hb) (Kd.R_base ho0)) (Kd.R_base ho1)) (fun _ h_ => h_.1))
     replace HO346 := am (Kd.R_mono (Kd.R_told (Kd.R_told (Kd.R_old (sr HO346) hb) (Kd.R_base ho0)) (Kd.R_base ho1)) (fun _ h_ => h_.1))
     replace HO354 := am (Kd.R_mono (Kd.R_told (Kd.R_told (Kd.R_old (sr HO354) hb) (Kd.R_base ho0)) (Kd.R_base ho1)) (fun _ h_ => h_.1))
     replace HO357 := am (Kd.R_mono (Kd.R_told (Kd.R_told (Kd.R_old (sr HO357) hb) (Kd.R_base ho0)) (Kd.R_base ho1)) (fun _ h_ => h_.1))
     replace BK337 := bb BK337 hb
     replace BK358 := bb BK358 hb
     replace HB := bsw hb
     (try clear hb)
     (try clear hb2)
     (try clear hk)
     (try clear hi)
     (try clear ho0)
     (try clear ho1)
     obtain ⟨Ao108, co108, eo108⟩ := Kd.R_slice HO366.out
     (first | subst eo108 | (injection eo108 with f1_ f2_ f3_; have f4_ := f1_.symm; have f5_ := f3_.symm; clear f1_ f2_ f3_; subst f4_; subst f5_))
     obtain ⟨Ao109, co109, eo109⟩ := Kd.R_slice HO369.out
     (first | subst eo109 | (injection eo109 with f1_ f2_ f3_; have f4_ := f1_.symm; have f5_ := f3_.symm; clear f1_ f2_ f3_; subst f4_; subst f5_))
     refine hK.out _ _ ⟨bc0 BK358, bc1 BK358, bc2 BK358, bc0 BK337, bc1 BK337, bc2 BK337⟩ (fun hHeld => ?_)
     clear hK K
     refine nm 41 ?_
     refine one_ (i := 3) (N := some 42) (bt 5 15) rfl rfl (by kernel_rfl) (by decide) (fun K hK => ?_)
     refine goes_ Try.func12 (by kernel_rfl) rfl #[.agg #[.int .i64 t351, .slice Ao100 t352.length co100, .slice Ao101 t355.length co101], .agg #[.int .i64 t363, .slice Ao108 t364.length co108, .slice Ao109 t367.length co109]] (by rfl) rfl rfl sl ?_
     with_reducible refine (laws_eqTable.calls k t351 _ _ t352 _ _ t355 t363 _ _ t364 _ _ t367 false _ ?side1 ?side2 ?side3 ?side4 ?side5 ?side6 ?side7 ?side8 A22.out).mono ?_
     (case side1 => exact cr HO354)
     (case side2 => exact (Kd.R_reads' HO354.out).2.1)
     (case side3 => exact cr HO357)
     (case side4 => exact (Kd.R_reads' HO357.out).2.1)
     (case side5 => exact cr HO366)
     (case side6 => exact (Kd.R_reads' HO366.out).2.1)
     (case side7 => exact cr HO369)
     (case side8 => exact (Kd.R_reads' HO369.out).2.1)
     rintro e w110 ⟨rfl, hb⟩
     refine ⟨_, rfl, ?_⟩
     replace HO343 := rb HO343 hb
     replace HO346 := rb HO346 hb
     replace HO349 := rb HO349 hb
     replace HO354 := rb HO354 hb
     replace HO357 := rb HO357 hb
     replace HO361 := rb HO361 hb
     replace HO366 := rb HO366 hb
     replace HO369 := rb HO369 hb
     replace BK337 := bb BK337 hb
     replace BK358 := bb BK358 hb
     replace HB := bsw hb
     (try clear hb)
     (try clear hb2)
     (try clear hk)
     (try clear hi)
     refine hK.out _ _ ⟨bc0 BK358, bc1 BK358, bc2 BK358, bc0 BK337, bc1 BK337, bc2 BK337⟩ (fun hHeld => ?_)
     clear hK K
     refine nm 42 ?_
     refine pu 4 43 (bt 5 31) ?_
     refine done_ (by kernel_rfl) ?_
     try go_wp2
     go_ret
     exact ⟨se, sbw⟩
   ·exact e7_0
end Go.Proofs.Ytohbccekdmdmbaa.QFnExactCountAlts
