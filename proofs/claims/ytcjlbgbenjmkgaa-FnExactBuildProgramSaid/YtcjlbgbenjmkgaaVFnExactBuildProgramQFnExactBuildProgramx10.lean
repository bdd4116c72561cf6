/- What the Go functions of the law FnExactBuildProgram come to, as Lean functions, and that they do: by a program of the session, out of the kit's printer. Conditions: none. (squeezed). -/
import Derived.Test.YtcjlbgbenjmkgaaVFnExactBuildProgramSq2
import Derived.Test.YtcjlbgbenjmkgaaVFnExactBuildProgramFr
import Derived.Test.YtcjlbgbenjmkgaaVFnExactBuildProgramSq
import Derived.Test.YtcjlbgbenjmkgaaVFnExactBuildProgramQFnExactBuildProgramx0
import Derived.Test.YtcjlbgbenjmkgaaVFnExactBuildProgramQFnExactBuildProgramx2
import Derived.Test.YtcjlbgbenjmkgaaVFnExactBuildProgramQFnExactBuildProgramx3
import Derived.Test.YtcjlbgbenjmkgaaVFnExactBuildProgramQFnExactBuildProgramx5
import Derived.Test.YtcjlbgbenjmkgaaVFnExactBuildProgramQFnExactBuildProgramx6
import Derived.Test.YtcjlbgbenjmkgaaVFnExactBuildProgramQFnExactBuildProgramx9
namespace Go.Proofs.Ytcjlbgbenjmkgaa.QFnExactBuildProgram
open Go.RowKit Go.Proofs.YtcjlbgbenjmkgaaW.PrintWords Go.Proofs.YtcjlbgbenjmkgaaW.PrintLast Go.Proofs.YtcjlbgbenjmkgaaW.PrintMore Go.Proofs.Ytcjlbgbenjmkgaa.Open Go.Proofs.Ytcjlbgbenjmkgaa.Sq Go.Proofs.Ytcjlbgbenjmkgaa
attribute [local go_sem] max2_int min2_int max_two min_two max_three min_three max_four min_four   -- for this text's walks alone
attribute [local go_sem] isSome_set
set_option linter.unusedVariables false
set_option linter.unusedSimpArgs false

/-! ### spec_BuildProgram: function 5 -/
mutual
def spec_BuildProgram.j0 : Nat → List (S49) → Int → Int → Int → Int → Int → Bool → Option (Int × Int × Int × (List (S47)) × Bool)
  | 0, _, _, _, _, _, _, _ => none
  | k + 1, x0, x1, x2, x3, x4, x5, x28 => if x28 = true then (some (0, 0, 0, ([] : List (S47)), false)) else ((spec_PiecesOf.f k x0 x3 x4).bind fun t313 => ((spec_l1In.f (t313.length : Int) 1 40).bind fun t316 => (if t316 = true then (spec_BuildProgram.l0 k x0 x1 x2 t313 0 x1 x2 x5 ([] : List (S47))) else (some (0, 0, 0, ([] : List (S47)), false)))))
def spec_BuildProgram.l0 : Nat → List (S49) → Int → Int → List (S43) → Int → Int → Int → Int → List (S47) → Option (Int × Int × Int × (List (S47)) × Bool)
  | 0, _, _, _, _, _, _, _, _, _ => none
  | k + 1, x0, x1, x2, x14, x16, x318000, x318001, x318002, x318003 => if x16 < (x14.length : Int) then (if 0 ≤ x16 then ((spec_LinksAt.f k x0 ((rd_T43 x14 x16).f0)).bind fun t319 => ((spec_l17Tables.f k t319 x1 x2).bind fun t323 => (if x318003.length < 2199023255552 then (spec_BuildProgram.l0 k x0 x1 x2 x14 (wrap64 (x16 + 1)) x318000 x318001 x318002 (x318003 ++ [(⟨(⟨(rd_T43 x14 x16).f0, (rd_T43 x14 x16).f1⟩ : S43), t319, t323⟩ : S47)])) else (none)))) else (none)) else (some (x318000, x318001, x318002, x318003, true))
end
def spec_BuildProgram.f (k : Nat) (l0 : List (S49)) (a1 : Int) (a2 : Int) (a3 : Int) (a4 : Int) (a5 : Int) : Option (Int × Int × Int × (List (S47)) × Bool) := (spec_l17Frame.f a1 a2 a5).bind fun t311 => (if t311 = true then ((spec_IsPlan.f k l0 a1).bind fun t312 => (spec_BuildProgram.j0 k l0 a1 a2 a3 a4 a5 (!t312))) else (spec_BuildProgram.j0 k l0 a1 a2 a3 a4 a5 true))
theorem spec_BuildProgram.mono_l : ∀ k, (∀ y0 y1 y2 y3 y4 y5 y6, LeO (spec_BuildProgram.j0 k y0 y1 y2 y3 y4 y5 y6) (spec_BuildProgram.j0 (k + 1) y0 y1 y2 y3 y4 y5 y6)) ∧ (∀ y0 y1 y2 y3 y4 y5 y6 y7 y8, LeO (spec_BuildProgram.l0 k y0 y1 y2 y3 y4 y5 y6 y7 y8) (spec_BuildProgram.l0 (k + 1) y0 y1 y2 y3 y4 y5 y6 y7 y8))
  | 0 => ⟨fun _ _ _ _ _ _ _ r h => by simp [spec_BuildProgram.j0] at h, fun _ _ _ _ _ _ _ _ _ r h => by simp [spec_BuildProgram.l0] at h⟩
  | k + 1 => by
    obtain ⟨ih0, ih1⟩ := spec_BuildProgram.mono_l k
    refine ⟨?_, ?_⟩
    · intro y0 y1 y2 y3 y4 y5 y6
      unfold spec_BuildProgram.j0
      have m0 := @spec_IsPlan.mono
      have m1 := @spec_LinksAt.mono
      have m2 := @spec_PiecesOf.mono
      have m3 := @spec_l17Tables.mono
      exact mo
    · intro y0 y1 y2 y3 y4 y5 y6 y7 y8
      unfold spec_BuildProgram.l0
      have m0 := @spec_IsPlan.mono
      have m1 := @spec_LinksAt.mono
      have m2 := @spec_PiecesOf.mono
      have m3 := @spec_l17Tables.mono
      exact mo
theorem spec_BuildProgram.mono : ∀ a0 a1 a2 a3 a4 a5 k, LeO (spec_BuildProgram.f k a0 a1 a2 a3 a4 a5) (spec_BuildProgram.f (k + 1) a0 a1 a2 a3 a4 a5) := by
  intro a0 a1 a2 a3 a4 a5 k
  obtain ⟨ih0, ih1⟩ := spec_BuildProgram.mono_l k
  unfold spec_BuildProgram.f
  have m0 := @spec_IsPlan.mono
  have m1 := @spec_LinksAt.mono
  have m2 := @spec_PiecesOf.mono
  have m3 := @spec_l17Tables.mono
  exact mo
def spec_BuildProgram.T11 : Bool × List (List Nat × List Nat) := (true, [([], []), ([0], [0]), ([], []), ([], []), ([2, 3], [2, 3]), ([4], [4]), ([], []), ([], []), ([], []), ([], []), ([7, 8, 9], [7, 8, 9]), ([5, 6, 10], [5, 6, 10]), ([11], [11]), ([1, 12, 10], [1, 12]), ([0, 1, 2, 3, 4, 5, 6, 7, 8, 9, 10, 11, 12, 13], []), ([14, 13, 13, 0, 1, 2, 3, 4, 5, 6, 7, 8, 9, 10, 11, 12, 13], [13, 14])])
def spec_BuildProgram.B11 : List Nat := [0, 1, 0, 0, 12, 28, 0, 0, 0, 0, 896, 2044, 4092, 8191, 16383, 32767]
theorem spec_BuildProgram.tab11 : rtab .any (opsOf Try.f5 11) = spec_BuildProgram.T11 := by kernel_rfl
theorem spec_BuildProgram.bits11 : waitsOk spec_BuildProgram.T11.2 spec_BuildProgram.B11 = true := by kernel_rfl
set_option maxHeartbeats 8000000 in
set_option maxRecDepth 100000 in
theorem spec_BuildProgram.calls (k : Nat) (A0 : Option Addr) (c0 : Nat) (l0 : List (S49)) (a1 : Int) (a2 : Int) (a3 : Int) (a4 : Int) (a5 : Int) (r1 : Int) (r2 : Int) (r3 : Int) (r4 : List (S47)) (r5 : Bool) (w : World) (hr0 : Kd.C k49 w A0 l0.length l0) (hc0 : l0.length ≤ c0) (h : spec_BuildProgram.f k l0 a1 a2 a3 a4 a5 = some (r1, r2, r3, r4, r5)) :
    Calls Try.prog 5 #[.slice A0 l0.length c0, .int .i64 a1, .int .i64 a2, .int .i64 a3, .int .i64 a4, .int .i64 a5] w fun e w' => ∃ v3_ : Value, e = .returned (.tuple #[.agg #[.int .i64 r1, .int .i64 r2, .int .i64 r3, v3_], .bool r5]) ∧ Kd.S k47 47 w' w.heap.size (fun _ => True) v3_ r4 ∧ Below w.heap.size w w' := by
 have hu26 := Try.underlying26
 have hu43 := Try.underlying43
 have hu47 := Try.underlying47
 have HR0 := Aside0.mk hr0
 have HC0 := Aside0.mk hc0
 clear hr0 hc0
 have HB := Aside0.mk (Below.refl w.heap.size w)
 have H : ((spec_l17Frame.f a1 a2 a5).bind fun t311 => (if t311 = true then ((spec_IsPlan.f k l0 a1).bind fun t312 => (spec_BuildProgram.j0 k l0 a1 a2 a3 a4 a5 (!t312))) else (spec_BuildProgram.j0 k l0 a1 a2 a3 a4 a5 true))) = some (r1, r2, r3, r4, r5) := h
 clear h
 have HC7 := Aside0.mk H
 clear H
 go_enter Try.func5, Try.ntmps5
 go_upto_region 1 with (first | ((with_reducible refine gate_dst (N := 12) rfl ?_); refine bx 12 #[.int .i64 0, .int .i64 0, .int .i64 0, .slice none 0 0] 26 ?_; intro gb310 hg w8 hbox hb; have GW310 := bz w hg; have GE310 := bz w hg; replace HB := bs hb; have BK310 := Aside0.mk hbox; clear hb hbox hg))
 (try simp only [Act.put, List.setIfInBounds_toArray, List.set_cons_zero, List.set_cons_succ])
 go_cut [28] (fun v28 wc => ∃ (kq : Nat) (x28_6 : Bool), v28 = .bool x28_6 ∧ Aside0 (spec_BuildProgram.j0 kq l0 a1 a2 a3 a4 a5 x28_6 = some (r1, r2, r3, r4, r5)) ∧ Aside0 (kq ≤ k) ∧ Aside0 (wc.heap[gb310]? = some (.cells #[.int .i64 0, .int .i64 0, .int .i64 0, (.slice none 0 0)] 26 (0, 0))) ∧ Aside0 (Below w.heap.size w wc))
 case first =>
  have H := HC7.out
  clear HC7
  obtain ⟨t311, A9, H⟩ := bnd H
  obtain rfl | rfl := tt t311
  ·replace H := ip H
   obtain ⟨t312, A11, H⟩ := bnd H
   have H' := Aside0.mk H
   clear H
   go_wp2_with (first | ((with_reducible refine gate_callee (f := 13) rfl ?_); refine gL (some 21) Try.func13 #[.int .i64 a1, .int .i64 a2, .int .i64 a5] ?_; (with_reducible refine (spec_l17Frame.calls a1 a2 a5 true _ A9.out).mono ?_); rintro e w' ⟨rfl, ⟨nd, rfl⟩⟩; refine ⟨_, rfl, ?_⟩) | (go_at_call 14; (with_reducible refine (spec_IsPlan.calls k _ _ l0 a1 t312 _ ?side1 ?side2 A11.out).mono ?_); (case side1 => exact cbw HR0); (case side2 => exact HC0.out); rintro e w12 ⟨rfl, hb⟩; replace BK310 := bb BK310 hb; replace HB := bsw hb; (try clear hb); (try clear hb2); (try clear hk); (try clear hi)))
   go_meet
   case rel => exact ⟨_, (!t312), sc, H', ⟨by first | omega | exact Nat.le_refl _⟩, ⟨sk BK310⟩, ⟨sbw⟩⟩
  ·replace H := im H
   have H' := Aside0.mk H
   clear H
   go_wp2_with (first | ((with_reducible refine gate_callee (f := 13) rfl ?_); refine gL (some 21) Try.func13 #[.int .i64 a1, .int .i64 a2, .int .i64 a5] ?_; (with_reducible refine (spec_l17Frame.calls a1 a2 a5 false _ A9.out).mono ?_); rintro e w' ⟨rfl, ⟨nd, rfl⟩⟩; refine ⟨_, rfl, ?_⟩))
   go_meet
   case rel => exact ⟨_, (true), sc, H', ⟨by first | omega | exact Nat.le_refl _⟩, ⟨sk BK310⟩, ⟨sbw⟩⟩
 case rest =>
  clear HC7
  obtain ⟨kq, x28_6, rfl, HA, HJ6, BK310, HB⟩ := hcut
  cases kq with
  | zero => exact absurd HA.out (by simp [spec_BuildProgram.j0])
  | succ kj6 =>
   have H := HA.out
   clear HA
   simp only [spec_BuildProgram.j0] at H
   obtain rfl | rfl := tt x28_6
   ·replace H := ip H
    simp only [Option.some.injEq, Prod.mk.injEq] at H
    obtain ⟨rfl, rfl, rfl, rfl, rfl⟩ := H
    obtain ⟨hcz14_0, hcz14_1, hcz14_2, hcz14_3, hfz14_0, hfz14_1, hfz14_2, hfz14_3⟩ := cc4 BK310
    go_wp2
    refine bodyPost_ret (results_ct rfl _ _ gb310 26 #[.int .i64 0, .int .i64 0, .int .i64 0, .slice none 0 0] (0, 0) _ rfl (sp BK310) Try.underlying26 rfl (by kernel_rfl)) rfl ?_
    exact ⟨_, se, by first | exact Kd.S_nil _ _ _ _ _ | exact Kd.N_nil _ _ _ _ _ | exact Kd.V_nil _ _ _ _ _ | exact Kd.Q_nil _ _ _ _ _ | exact Kd.R_nil _ _ _ _ _, sbw⟩
   ·replace H := im H
    obtain ⟨t313, A15, H⟩ := bnd H
    obtain ⟨t316, A16, H⟩ := bnd H
    obtain rfl | rfl := tt t316
    ·replace H := ip H
     have H' := Aside0.mk H
     clear H
     go_wp2_with (first | ((with_reducible refine gate_callee (f := 15) rfl ?_); refine gL (some 33) Try.func15 #[.slice A0 l0.length c0, .int .i64 a3, .int .i64 a4] ?_; (with_reducible refine (spec_PiecesOf.calls kj6 _ _ l0 a3 a4 t313 _ ?side1 ?side2 A15.out).mono ?_); (case side1 => exact cb HR0); (case side2 => exact HC0.out); rintro e w18 ⟨v314, rfl, ho0, hb⟩; refine ⟨_, rfl, ?_⟩; have HO315 := Aside0.mk (Kd.R_lower ho0 (below_size (sbw))); replace BK310 := bb BK310 hb; replace HB := bsw hb; (try clear hb); (try clear hb2); (try clear hk); (try clear hi); (try clear ho0); obtain ⟨Ao19, co19, eo19⟩ := Kd.R_slice HO315.out; subst eo19) | ((with_reducible refine gate_callee (f := 16) rfl ?_); refine gL (some 36) Try.func16 #[.int .i64 (t313.length : Int), .int .i64 1, .int .i64 40] ?_; (with_reducible refine (spec_l1In.calls (t313.length : Int) 1 40 true _ A16.out).mono ?_); rintro e w' ⟨rfl, ⟨nd, rfl⟩⟩; refine ⟨_, rfl, ?_⟩) | ((with_reducible refine gate_dst (N := 15) rfl ?_); refine bx 15 #[.int .i64 0, .int .i64 0, .int .i64 0, .slice none 0 0] 26 ?_; intro gb317 hg w20 hbox hb; replace HO315 := rb HO315 hb; have GW317 := bzw w hg; have GE317 := bzw w hg; replace HB := bsw hb; have BK317 := Aside0.mk hbox; have NB310_317 := nl BK310 hg; have NB317_310 := ng BK310 hg; replace BK310 := bb BK310 hb; clear hb hbox hg; have hnb21 := NB317_310.out; have hnc21 := NB310_317.out; obtain ⟨hcz22_0, hcz22_1, hcz22_2, hcz22_3, hfz22_0, hfz22_1, hfz22_2, hfz22_3⟩ := cc4 BK317))
     go_loopg [16] kj6 (fun kq v16 w' => ∃ (x16_2 : Int) (x318003_2 : List (S47)) (u318003 : Value), v16 = .int .i64 x16_2 ∧ Aside0 (spec_BuildProgram.l0 kq l0 a1 a2 t313 x16_2 a1 a2 a5 x318003_2 = some (r1, r2, r3, r4, r5)) ∧ Aside0 (kq ≤ kj6) ∧ Aside0 (Kd.R k43 43 w' w.heap.size (fun _ => True) (.slice Ao19 t313.length co19) t313) ∧ Aside0 (Kd.S k47 47 w' w.heap.size (fun _ => True) u318003 x318003_2) ∧ Aside0 (w'.heap[gb310]? = some (.cells #[.int .i64 0, .int .i64 0, .int .i64 0, (.slice none 0 0)] 26 (0, 0))) ∧ Aside0 (w'.heap[gb317]? = some (.cells #[.int .i64 a1, .int .i64 a2, .int .i64 a5, u318003] 26 (0, 0))) ∧ Aside0 (Below w.heap.size w w'))
     case atStart => exact ⟨(0), (([] : List (S47))), (.slice none 0 0), sc, H', kk0, ⟨by (with_reducible repeat (first | apply Kd.R_alloc | apply Kd.R_drewN | apply Kd.R_drew)); exact Kd.R_mono (Kd.R_far (p := ⟨gb317, 3, none⟩) (h3 HO315 BK317) (fun _ hk => hk.2) (.slice none 0 0)) (fun _ hk => trivial)⟩, ⟨by first | exact Kd.S_nil _ _ _ _ _ | exact Kd.N_nil _ _ _ _ _ | exact Kd.V_nil _ _ _ _ _ | exact Kd.Q_nil _ _ _ _ _ | exact Kd.R_nil _ _ _ _ _⟩, ⟨sp BK310⟩, ⟨sp BK317⟩, ⟨sbw⟩⟩
     case round =>
      clear H'
      try clear hcz14_0
      try clear hcz14_1
      try clear hcz14_2
      try clear hcz14_3
      try clear hfz14_0
      try clear hfz14_1
      try clear hfz14_2
      try clear hfz14_3
      obtain ⟨x16_2, x318003_2, u318003, rfl, HA, HK2, HO_14, HO_318003, BK310, BK317, HB⟩ := hrel
      cases gk with
      | zero => exact absurd HA.out (by simp [spec_BuildProgram.l0])
      | succ k2 =>
       have H := HA.out
       clear HA
       simp only [spec_BuildProgram.l0] at H
       obtain ⟨c23, H⟩ | ⟨c23, H⟩ := ie_ H
       ·have c23b0 := decide_eq_true c23
        clear c23
        obtain ⟨c24b0, H⟩ := id_ H
        obtain ⟨t319, A25, H⟩ := bnd H
        obtain ⟨t323, A26, H⟩ := bnd H
        obtain ⟨LMc27, H⟩ := il_ H
        obtain ⟨y326, hy326⟩ : ∃ y_ : List (S47), y_ = (x318003_2 ++ [(⟨(⟨(rd_T43 t313 x16_2).f0, (rd_T43 t313 x16_2).f1⟩ : S43), t319, t323⟩ : S47)]) := ⟨_, rfl⟩
        replace H : (spec_BuildProgram.l0 k2 l0 a1 a2 t313 (wrap64 (x16_2 + 1)) a1 a2 a5 y326) = some (r1, r2, r3, r4, r5) := by first | (rw [hy326]; with_reducible exact H) | (have H2_ := (Option.bind_some _ _).symm.trans H; rw [hy326]; with_reducible exact H2_) | (have H2_ := (Option.bind_some _ _).symm.trans H; with_reducible exact H2_) | with_reducible exact H | (rw [hy326]; exact H) | exact H
        have Ny326 := Aside0.mk hy326
        clear hy326
        have H' := Aside0.mk H
        clear H
        have p318 : 0 ≤ (x16_2 : Int) := sa
        have q318 : x16_2 < (t313.length : Int) := sa
        obtain ⟨ad318, e318, hx318_0, hx318_1⟩ := at_T43 (Kd.R_reads' HO_14.out).2.2 x16_2 p318 q318
        cases e318
        replace p318 := eq_true p318
        replace q318 := eq_true q318
        try go_wp2_with (first | ((with_reducible refine gate_callee (f := 17) rfl ?_); refine gL (some 55) Try.func17 #[.slice A0 l0.length c0, .int .i64 ((rd_T43 t313 x16_2).f0)] ?_; (with_reducible refine (spec_LinksAt.calls k2 _ _ l0 ((rd_T43 t313 x16_2).f0) t319 _ ?side1 ?side2 A25.out).mono ?_); (case side1 => exact cb HR0); (case side2 => exact HC0.out); rintro e w28 ⟨v320, rfl, ho0, hb⟩; refine ⟨_, rfl, ?_⟩; replace HO_14 := rb HO_14 hb; obtain ⟨N_, hN_, OLD_, NEW1_⟩ := Fr.pair (ss HO_318003) ho0 hb (below_size (sbw)); replace HO_318003 := Aside0.mk (Kd.S_elder' (ss HO_318003) (Kd.R_base ho0) hb); have HO321 := Aside0.mk (Kd.R_lower ho0 (below_size (sbw))); replace BK310 := bb BK310 hb; replace BK317 := bb BK317 hb; replace HB := bsw hb; (try clear hb); (try clear hb2); (try clear hk); (try clear hi); (try clear ho0)))
        replace HO_14 := Aside0.mk (Kd.R_drew HO_14.out)
        replace HO_318003 := Aside0.mk (Kd.S_drew HO_318003.out)
        replace HO321 := Aside0.mk (Kd.R_drew HO321.out)
        replace NEW1_ := Aside0.mk (Kd.R_drew NEW1_.out)
        replace OLD_ := Aside0.mk (Kd.S_drew OLD_.out)
        replace hN_ : Aside0 (N_ ≤ w28.drew.heap.size) := ⟨hN_.out⟩
        replace BK310 := Aside0.mk (blk_drew BK310.out)
        replace BK317 := Aside0.mk (blk_drew BK317.out)
        replace HB := Aside0.mk (below_drew1 HB.out)
        have p322 : 0 ≤ (x16_2 : Int) := sa
        have q322 : x16_2 < (t313.length : Int) := sa
        obtain ⟨ad322, e322, hx322_0, hx322_1⟩ := at_T43 (Kd.R_reads' HO_14.out).2.2 x16_2 p322 q322
        obtain rfl : ad318 = ad322 := (by injection e322)
        replace p322 := eq_true p322
        replace q322 := eq_true q322
        obtain ⟨Ao30, co30, eo30⟩ := Kd.R_slice HO321.out
        (first | subst eo30 | (injection eo30 with f1_ f2_ f3_; have f4_ := f1_.symm; have f5_ := f3_.symm; clear f1_ f2_ f3_; subst f4_; subst f5_))
        refine start_ (n := 16) (S := fun w' => w'.cell? ⟨gb317, 0, none⟩ = some (.int .i64 a1) ∧ w'.cell? ⟨gb317, 1, none⟩ = some (.int .i64 a2) ∧ w'.cell? ⟨gb317, 2, none⟩ = some (.int .i64 a5) ∧ w'.cell? ⟨gb317, 3, none⟩ = some (u318003) ∧ w'.cell? (ad318.add ((x16_2).toNat * 2)) = some (.int .i64 ((rd_T43 t313 x16_2).f0)) ∧ w'.cell? ⟨(ad318.add ((x16_2).toNat * 2)).block, (ad318.add ((x16_2).toNat * 2)).off + 1, none⟩ = some (.int .i64 ((rd_T43 t313 x16_2).f1))) (ds := [13, 15]) #[false, false, false, false, false, false, false, false, false, false, false, false, false, false, false, false] (by kernel_rfl) rfl rfl ⟨bc0 BK317, bc1 BK317, bc2 BK317, bc3 BK317, hx322_0, hx322_1⟩ (fun hHeld => ?_); refine with_tabW spec_BuildProgram.tab11 spec_BuildProgram.bits11 (fun HT_ HW_ => ?_)
        generalize w28.drew = w29 at hN_ NEW1_ OLD_ HO_14 HO_318003 HO321 BK310 BK317 HB hx322_0 hx322_1 hHeld ⊢
        refine put 0 56 #[true, false, false, false, false, false, false, false, false, false, false, false, false, false, false, false] HT_ ?_
        refine put 2 58 #[true, false, true, false, false, false, false, false, false, false, false, false, false, false, false, false] HT_ ?_
        refine put 3 59 #[true, false, true, true, false, false, false, false, false, false, false, false, false, false, false, false] HT_ ?_
        refine put 4 60 #[true, false, true, true, true, false, false, false, false, false, false, false, false, false, false, false] HT_ ?_
        refine put 6 62 #[true, false, true, true, true, false, true, false, false, false, false, false, false, false, false, false] HT_ ?_
        refine put 7 63 #[true, false, true, true, true, false, true, true, false, false, false, false, false, false, false, false] HT_ ?_
        refine put 8 64 #[true, false, true, true, true, false, true, true, true, false, false, false, false, false, false, false] HT_ ?_
        refine put 9 65 #[true, false, true, true, true, false, true, true, true, true, false, false, false, false, false, false] HT_ ?_
        refine tat6 1 57 #[true, true, true, true, true, false, true, true, true, true, false, false, false, false, false, false] HT_ HW_ hHeld ?_
        refine tat6 5 61 #[true, true, true, true, true, true, true, true, true, true, false, false, false, false, false, false] HT_ HW_ hHeld ?_
        refine one_ (i := 10) (N := some 66) #[true, true, true, true, true, true, true, true, true, true, true, false, false, false, false, false] rfl rfl (one_of HT_.out (by kernel_rfl)) (by decide) (fun K hK => ?_)
        refine goes_ Try.func18 (by kernel_rfl) rfl #[.slice Ao30 t319.length co30, .int .i64 a1, .int .i64 a2] (by rfl) rfl rfl sl ?_
        with_reducible refine (spec_l17Tables.calls k2 _ _ t319 a1 a2 t323 _ ?side1 ?side2 A26.out).mono ?_
        (case side1 => exact cr HO321)
        (case side2 => exact (Kd.R_reads' HO321.out).2.1)
        rintro e w31 ⟨v324, rfl, ho0, hb⟩
        have HS4_ := (hb.cell (World.block_lt_of_cell? _ _ (hHeld.2.2.2.2.1))).trans (hHeld.2.2.2.2.1)
        have HS5_ := (hb.cell (World.block_lt_of_cell? _ _ (hHeld.2.2.2.2.2))).trans (hHeld.2.2.2.2.2)
        refine ⟨_, rfl, ?_⟩
        replace HO_14 := rb HO_14 hb
        have NEW2_ := Fr.nextS ho0 hN_.out (below_size (sbw))
        replace NEW1_ := rb NEW1_ hb
        replace OLD_ := Aside0.mk (Kd.S_below (ss OLD_) hb)
        replace HO_318003 := Aside0.mk (Kd.S_elder' (ss HO_318003) (Kd.S_base ho0) hb)
        replace HO321 := rb HO321 hb
        have HO325 := Aside0.mk (Kd.S_lower ho0 (below_size (sbw)))
        replace BK310 := bb BK310 hb
        replace BK317 := bb BK317 hb
        replace HB := bsw hb
        (try clear hb)
        (try clear hb2)
        (try clear hk)
        (try clear hi)
        (try clear ho0)
        obtain ⟨Ao32, co32, eo32⟩ := Kd.S_slice HO325.out
        (first | subst eo32 | (injection eo32 with f1_ f2_ f3_; have f4_ := f1_.symm; have f5_ := f3_.symm; clear f1_ f2_ f3_; subst f4_; subst f5_))
        refine hK.out _ _ ⟨bc0 BK317, bc1 BK317, bc2 BK317, bc3 BK317, HS4_, HS5_⟩ (fun hHeld => ?_)
        clear hK K
        refine norm_ (a' := ?_) ?_ ?_
        rotate_left
        ·show Act.put _ (some 66) _ = _
         simp only [Act.put, List.setIfInBounds_toArray, List.set_cons_zero, List.set_cons_succ, i64_w, i32_w]
         rfl
        refine put 11 67 #[true, true, true, true, true, true, true, true, true, true, true, true, false, false, false, false] HT_ ?_
        refine one_ (i := 12) (N := some 68) #[true, true, true, true, true, true, true, true, true, true, true, true, true, false, false, false] rfl rfl (one_of HT_.out (by kernel_rfl)) (by decide) (fun K hK => ?_)
        refine value_ (w1 := ?_) (v := ?_) (by rfl) rfl ?_ ?_
        rotate_left 2
        ·go_simp
         constructor
         ·rfl
         ·rfl
        refine hK.out _ _ ⟨(blk_cell (blk_alloc BK317.out _) 0).trans rfl, (blk_cell (blk_alloc BK317.out _) 1).trans rfl, (blk_cell (blk_alloc BK317.out _) 2).trans rfl, (blk_cell (blk_alloc BK317.out _) 3).trans rfl, (World.cell?_alloc_lt _ _ _ (World.block_lt_of_cell? _ _ (hHeld.2.2.2.2.1))).trans (hHeld.2.2.2.2.1), (World.cell?_alloc_lt _ _ _ (World.block_lt_of_cell? _ _ (hHeld.2.2.2.2.2))).trans (hHeld.2.2.2.2.2)⟩ (fun hHeld => ?_)
        clear hK K
        refine norm_ (a' := ?_) ?_ ?_
        rotate_left
        ·show Act.put _ (some 68) _ = _
         simp only [Act.put, List.setIfInBounds_toArray, List.set_cons_zero, List.set_cons_succ, i64_w, i32_w]
         rfl
        refine last_ (i := 13) (N := some 69) #[true, true, true, true, true, true, true, true, true, true, true, true, true, true, false, false] rfl rfl (one_of HT_.out (by kernel_rfl)) (by decide) (fun K hK => ?_)
        refine Kd.S_append_step k47 (w0 := w) w.heap.size (by rfl) (.tmp 57) (.tmp 68) 24 47 (.agg #[(.int .i64 0), (.int .i64 0), (.slice none 0 0), (.slice none 0 0)]) 64 rfl Try.underlying24 info47 rfl (by decide) (by omega) u318003 x318003_2 (⟨(⟨(rd_T43 t313 x16_2).f0, (rd_T43 t313 x16_2).f1⟩ : S43), t319, t323⟩ : S47) [.int .i64 ((rd_T43 t313 x16_2).f0), .int .i64 ((rd_T43 t313 x16_2).f1), .slice Ao30 t319.length co30, .slice Ao32 t323.length co32] (fun _ => True) (fun k_ => N_ ≤ k_) rfl rfl ?aP (fun k_ hk_ => ⟨trivial, Fr.away OLD_ hk_⟩) ?aF ?aO ?aB ?aS ?aL ?_
        (case aP => exact k47_mkM _ _ _ (⟨(⟨(rd_T43 t313 x16_2).f0, (rd_T43 t313 x16_2).f1⟩ : S43), t319, t323⟩ : S47) NEW1_.out NEW2_.out)
        (case aB => exact (sbw))
        (case aF => exact (fun _ _ => trivial))
        (case aO => exact (by (with_reducible repeat (first | apply Kd.S_alloc | apply Kd.S_drewN | apply Kd.S_drew)); exact Kd.S_mono OLD_.out (fun k_ hk => ⟨trivial, fun h_ => by have := hk.2; omega⟩)))
        (case aS => exact (below_size (sbw)))
        (case aL => have := LMc27.out; omega)
        intro v327 w33 ho hb hg hat
        rw [← Ny326.out] at ho
        replace HO_14 := Aside0.mk (Kd.R_over' (sr HO_14) (Kd.S_typed (ss HO_318003)) (by decide) hg)
        replace BK310 := Aside0.mk (blk_grown (g := gb310) (o := .cells #[.int .i64 0, .int .i64 0, .int .i64 0, .slice none 0 0] 26 (0, 0)) (sk BK310) hg (Kd.S_ne HO_318003.out BK310.out (by decide)))
        replace BK317 := Aside0.mk (blk_grown (g := gb317) (o := .cells #[.int .i64 a1, .int .i64 a2, .int .i64 a5, u318003] 26 (0, 0)) (sk BK317) hg (Kd.S_ne HO_318003.out BK317.out (by decide)))
        replace HB := Aside0.mk hb
        have HO328 := Aside0.mk ho
        clear HO_318003 HO321 HO325 ho hb hg hat
        obtain ⟨Ao34, co34, eo34⟩ := Kd.S_slice HO328.out
        (first | subst eo34 | (injection eo34 with f1_ f2_ f3_; have f4_ := f1_.symm; have f5_ := f3_.symm; clear f1_ f2_ f3_; subst f4_; subst f5_))
        refine hK.out _ _ ?_
        clear hK K
        refine norm_ (a' := ?_) ?_ ?_
        rotate_left
        ·show Act.put _ (some 69) _ = _
         simp only [Act.put, List.setIfInBounds_toArray, List.set_cons_zero, List.set_cons_succ, i64_w, i32_w]
         rfl
        refine put 14 70 #[true, true, true, true, true, true, true, true, true, true, true, true, true, true, true, false] HT_ ?_
        refine last_ (i := 15) (N := none) #[true, true, true, true, true, true, true, true, true, true, true, true, true, true, true, true] rfl rfl (one_of HT_.out (by kernel_rfl)) (by decide) (fun K hK => ?_)
        have hs35 := bc3 BK317
        have hfs35 := bf BK317 3
        have hns35_0 := NB310_317.out
        have hms35_0 := NB317_310.out
        refine skip_ (w1 := ?_) (by rfl) rfl ?_ ?_
        rotate_left
        ·go_simp
         rfl
        refine hK.out _ _ ?_
        clear hK K
        refine done_ (done_of HT_.out (by kernel_rfl)) ?_
        try go_wp2
        go_roundg k2
        case measure => have := HJ6.out; have := HK2.out; omega
        case rel => exact ⟨(wrap64 (x16_2 + 1)), (y326), (.slice Ao34 y326.length co34), sc, H', ⟨by have := HJ6.out; have := HK2.out; omega⟩, ⟨by (with_reducible repeat (first | apply Kd.R_alloc | apply Kd.R_drewN | apply Kd.R_drew)); exact Kd.R_mono (Kd.R_far (p := ⟨gb317, 3, none⟩) (Kd.R_types HO_14.out BK317.out (by decide)) (fun _ hk => hk.2) (.slice Ao34 y326.length co34)) (fun _ hk => trivial)⟩, ⟨by (with_reducible repeat (first | apply Kd.S_alloc | apply Kd.S_drewN | apply Kd.S_drew)); exact Kd.S_mono (Kd.S_far (p := ⟨gb317, 3, none⟩) (Kd.S_types HO328.out BK317.out (by decide)) (fun _ hk => hk.2) (.slice Ao34 y326.length co34)) (fun _ hk => trivial)⟩, ⟨sp BK310⟩, ⟨sp BK317⟩, ⟨sbw⟩⟩
       ·have c23b0 := decide_eq_false c23
        clear c23
        simp only [Option.some.injEq, Prod.mk.injEq] at H
        obtain ⟨rfl, rfl, rfl, rfl, rfl⟩ := H
        have hnb36 := NB317_310.out
        have hnc36 := NB310_317.out
        obtain ⟨hcz37_0, hcz37_1, hcz37_2, hcz37_3, hfz37_0, hfz37_1, hfz37_2, hfz37_3⟩ := cc4 BK317
        obtain ⟨hcz38_0, hcz38_1, hcz38_2, hcz38_3, hfz38_0, hfz38_1, hfz38_2, hfz38_3⟩ := cc4 BK310
        obtain ⟨Ao39, co39, eo39⟩ := Kd.S_slice HO_318003.out
        subst eo39
        go_wp2
        refine bodyPost_ret (results_ct rfl _ _ gb310 26 #[.int .i64 a1, .int .i64 a2, .int .i64 a5, .slice Ao39 x318003_2.length co39] (0, 0) _ rfl (sp BK310) Try.underlying26 rfl (by kernel_rfl)) rfl ?_
        exact ⟨_, se, by (with_reducible repeat (first | apply Kd.S_alloc | apply Kd.S_drewN | apply Kd.S_drew)); exact Kd.S_mono (Kd.S_far (p := ⟨gb310, 3, none⟩) (Kd.S_far (p := ⟨gb310, 2, none⟩) (Kd.S_far (p := ⟨gb310, 1, none⟩) (Kd.S_far (p := ⟨gb310, 0, none⟩) (Kd.S_types HO_318003.out BK310.out (by decide)) (fun _ hk => hk.2) (.int .i64 a1)) (fun _ hk => hk.2) (.int .i64 a2)) (fun _ hk => hk.2) (.int .i64 a5)) (fun _ hk => hk.2) (.slice Ao39 x318003_2.length co39)) (fun _ hk => trivial), sbw⟩
    ·replace H := im H
     simp only [Option.some.injEq, Prod.mk.injEq] at H
     obtain ⟨rfl, rfl, rfl, rfl, rfl⟩ := H
     go_wp2_with (first | ((with_reducible refine gate_callee (f := 15) rfl ?_); refine gL (some 33) Try.func15 #[.slice A0 l0.length c0, .int .i64 a3, .int .i64 a4] ?_; (with_reducible refine (spec_PiecesOf.calls kj6 _ _ l0 a3 a4 t313 _ ?side1 ?side2 A15.out).mono ?_); (case side1 => exact cb HR0); (case side2 => exact HC0.out); rintro e w40 ⟨v314, rfl, ho0, hb⟩; refine ⟨_, rfl, ?_⟩; have HO315 := Aside0.mk (Kd.R_lower ho0 (below_size (sbw))); replace BK310 := bb BK310 hb; replace HB := bsw hb; (try clear hb); (try clear hb2); (try clear hk); (try clear hi); (try clear ho0); obtain ⟨Ao41, co41, eo41⟩ := Kd.R_slice HO315.out; subst eo41) | ((with_reducible refine gate_callee (f := 16) rfl ?_); refine gL (some 36) Try.func16 #[.int .i64 (t313.length : Int), .int .i64 1, .int .i64 40] ?_; (with_reducible refine (spec_l1In.calls (t313.length : Int) 1 40 false _ A16.out).mono ?_); rintro e w' ⟨rfl, ⟨nd, rfl⟩⟩; refine ⟨_, rfl, ?_⟩; obtain ⟨hcz42_0, hcz42_1, hcz42_2, hcz42_3, hfz42_0, hfz42_1, hfz42_2, hfz42_3⟩ := cc4 BK310))
     refine bodyPost_ret (results_ct rfl _ _ gb310 26 #[.int .i64 0, .int .i64 0, .int .i64 0, .slice none 0 0] (0, 0) _ rfl (sp BK310) Try.underlying26 rfl (by kernel_rfl)) rfl ?_
     exact ⟨_, se, by first | exact Kd.S_nil _ _ _ _ _ | exact Kd.N_nil _ _ _ _ _ | exact Kd.V_nil _ _ _ _ _ | exact Kd.Q_nil _ _ _ _ _ | exact Kd.R_nil _ _ _ _ _, sbw⟩

/-! ### laws_toContact: function 19 -/
def laws_toContact.f (a0_0 : Int) (a0_1 : Int) (a0_2 : Int) (a0_3 : Int) : Option (Int × Int × Int × Int) := some (a0_0, a0_1, a0_2, a0_3)
set_option maxHeartbeats 8000000 in
set_option maxRecDepth 100000 in
theorem laws_toContact.calls (a0_0 : Int) (a0_1 : Int) (a0_2 : Int) (a0_3 : Int) (r1 : Int) (r2 : Int) (r3 : Int) (r4 : Int) (w : World) (h : laws_toContact.f a0_0 a0_1 a0_2 a0_3 = some (r1, r2, r3, r4)) :
    Calls Try.prog 19 #[.agg #[.int .i64 a0_0, .int .i64 a0_1, .int .i64 a0_2, .int .i64 a0_3]] w fun e w' => e = .returned (.agg #[.int .i64 r1, .int .i64 r2, .int .i64 r3, .int .i64 r4]) ∧ Below w.heap.size w w' := by
 have hu51 := Try.underlying51
 have hu49 := Try.underlying49
 have HB := Aside0.mk (Below.refl w.heap.size w)
 have H : (some (a0_0, a0_1, a0_2, a0_3)) = some (r1, r2, r3, r4) := h
 clear h
 simp only [Option.some.injEq, Prod.mk.injEq] at H
 obtain ⟨rfl, rfl, rfl, rfl⟩ := H
 go_enter Try.func19, Try.ntmps19
 go_wp2_with (first | ((with_reducible refine gate_dst (N := 1) rfl ?_); refine bx 1 #[.int .i64 a0_0, .int .i64 a0_1, .int .i64 a0_2, .int .i64 a0_3] 51 ?_; intro gb329 hg w2 hbox hb; have GW329 := bz w hg; have GE329 := bz w hg; replace HB := bs hb; have BK329 := Aside0.mk hbox; clear hb hbox hg) | ((with_reducible refine gate_dst (N := 2) rfl ?_); refine bx 2 #[.int .i64 0, .int .i64 0, .int .i64 0, .int .i64 0] 49 ?_; intro gb330 hg w3 hbox hb; have GW330 := bzw w hg; have GE330 := bzw w hg; replace HB := bsw hb; have BK330 := Aside0.mk hbox; have NB329_330 := nl BK329 hg; have NB330_329 := ng BK329 hg; replace BK329 := bb BK329 hb; clear hb hbox hg) | ((with_reducible refine gate_dst (N := 3) rfl ?_); refine bx 3 #[.int .i64 0, .int .i64 0, .int .i64 0, .int .i64 0] 49 ?_; intro gb331 hg w4 hbox hb; have GW331 := bzw w hg; have GE331 := bzw w hg; replace HB := bsw hb; have BK331 := Aside0.mk hbox; have NB329_331 := nl BK329 hg; have NB331_329 := ng BK329 hg; replace BK329 := bb BK329 hb; have NB330_331 := nl BK330 hg; have NB331_330 := ng BK330 hg; replace BK330 := bb BK330 hb; clear hb hbox hg; have hnb5 := NB329_330.out; have hnc5 := NB330_329.out; have hnb6 := NB329_331.out; have hnc6 := NB331_329.out; obtain ⟨hcz7_0, hcz7_1, hcz7_2, hcz7_3, hfz7_0, hfz7_1, hfz7_2, hfz7_3⟩ := cc4 BK329; have hnb8 := NB331_330.out; have hnc8 := NB330_331.out; obtain ⟨hcz9_0, hcz9_1, hcz9_2, hcz9_3, hfz9_0, hfz9_1, hfz9_2, hfz9_3⟩ := cc4 BK331; obtain ⟨hcz10_0, hcz10_1, hcz10_2, hcz10_3, hfz10_0, hfz10_1, hfz10_2, hfz10_3⟩ := cc4 BK330))
 refine bodyPost_ret (results_cell_row rfl _ _ gb330 49 #[.int .i64 a0_0, .int .i64 a0_1, .int .i64 a0_2, .int .i64 a0_3] (0, 0) _ rfl (sp BK330) Try.underlying49 rfl (by kernel_rfl)) rfl ?_
 exact ⟨se, sbw⟩

/-! ### laws_toContactS: function 6 -/
def laws_toContactS.l0 : Nat → List (S51) → List (S49) → Int → Option ((List (S49)))
  | 0, _, _, _ => none
  | k + 1, x0, x3, x4 => if x4 < (x0.length : Int) then (if 0 ≤ x4 then ((laws_toContact.f ((rd_T51 x0 x4).f0) ((rd_T51 x0 x4).f1) ((rd_T51 x0 x4).f2) ((rd_T51 x0 x4).f3)).bind fun bt336 => (if x4 < (x3.length : Int) then (laws_toContactS.l0 k x0 (x3.set (x4 : Int).toNat (⟨bt336.1, bt336.2.1, bt336.2.2.1, bt336.2.2.2⟩ : S49)) (wrap64 (x4 + 1))) else (none))) else (none)) else (some x3)
def laws_toContactS.f (k : Nat) (l0 : List (S51)) : Option ((List (S49))) := if 0 ≤ (l0.length : Int) then (if ((l0.length : Int) : Int).toNat ≤ 8796093022208 then (laws_toContactS.l0 k l0 (List.replicate ((l0.length : Int) : Int).toNat z49) 0) else (none)) else (none)
theorem laws_toContactS.mono_l : ∀ k, (∀ y0 y1 y2, LeO (laws_toContactS.l0 k y0 y1 y2) (laws_toContactS.l0 (k + 1) y0 y1 y2))
  | 0 => fun _ _ _ r h => by simp [laws_toContactS.l0] at h
  | k + 1 => by
    have ih0 := laws_toContactS.mono_l k
    · intro y0 y1 y2
      unfold laws_toContactS.l0
      exact mo
theorem laws_toContactS.mono : ∀ a0 k, LeO (laws_toContactS.f k a0) (laws_toContactS.f (k + 1) a0) := by
  intro a0 k
  have ih0 := laws_toContactS.mono_l k
  unfold laws_toContactS.f
  exact mo
set_option maxHeartbeats 8000000 in
set_option maxRecDepth 100000 in
theorem laws_toContactS.calls (k : Nat) (A0 : Option Addr) (c0 : Nat) (l0 : List (S51)) (r : List (S49)) (w : World) (hr0 : Kd.C k51 w A0 l0.length l0) (hc0 : l0.length ≤ c0) (h : laws_toContactS.f k l0 = some r) :
    Calls Try.prog 6 #[.slice A0 l0.length c0] w fun e w' => ∃ v0_ : Value, e = .returned (v0_) ∧ Kd.R k49 49 w' w.heap.size (fun _ => True) v0_ r ∧ Below w.heap.size w w' := by
 have hu51 := Try.underlying51
 have hu49 := Try.underlying49
 have HR0 := Aside0.mk hr0
 have HC0 := Aside0.mk hc0
 clear hr0 hc0
 have HB := Aside0.mk (Below.refl w.heap.size w)
 have H : (if 0 ≤ (l0.length : Int) then (if ((l0.length : Int) : Int).toNat ≤ 8796093022208 then (laws_toContactS.l0 k l0 (List.replicate ((l0.length : Int) : Int).toNat z49) 0) else (none)) else (none)) = some r := h
 clear h
 obtain ⟨c2, H⟩ := ia_ H
 have c2b0 := eq_true c2
 have c2b1 := decide_eq_true c2
 clear c2
 obtain ⟨c3, H⟩ := ia_ H
 have c3b0 := eq_true c3
 have c3b1 := decide_eq_true c3
 clear c3
 obtain ⟨y332, hy332⟩ : ∃ y_ : List (S49), y_ = (List.replicate ((l0.length : Int) : Int).toNat z49) := ⟨_, rfl⟩
 replace H : (laws_toContactS.l0 k l0 y332 0) = some r := by first | (rw [hy332]; with_reducible exact H) | (have H2_ := (Option.bind_some _ _).symm.trans H; rw [hy332]; with_reducible exact H2_) | (have H2_ := (Option.bind_some _ _).symm.trans H; with_reducible exact H2_) | with_reducible exact H | (rw [hy332]; exact H) | exact H
 have Ny332 := Aside0.mk hy332
 clear hy332
 have H' := Aside0.mk H
 clear H
 go_enter Try.func6, Try.ntmps6
 go_wp2_with (first | ((with_reducible refine gate_dst (N := 7) rfl ?_); refine Kd.R_make k49 _ 49 rfl (N := 7) rfl 29 _ _ rfl (l0.length : Int) rfl rfl Try.underlying29 (.agg #[(.int .i64 0), (.int .i64 0), (.int .i64 0), (.int .i64 0)]) 32 info49 rfl (by decide) (by omega) z49 (ok := fun _ => True) (okp := fun _ => True) (k49_mkM _ _ _ z49 ) (fun _ hk => hk) trivial (sa) (Nat.le_trans (Nat.mul_le_mul_right _ (sa : (l0.length : Int).toNat ≤ 8796093022208)) (by omega)) (Below.refl _ _) (Nat.le_refl _) ?_; intro v333 w4 ho5 hb hg_ hnew_; clear hg_ hnew_; (first | rw [← Ny332.out] at ho5 | (simp only [Int.reduceToNat] at ho5; rw [← Ny332.out] at ho5)); have HO334 := Aside0.mk (Kd.R_lower ho5 (below_size (sb))); replace HB := bs hb; clear hb ho5))
 go_loopg [4] k (fun kq v4 w' => ∃ (x3_1 : List (S49)) (x4_1 : Int), v4 = .int .i64 x4_1 ∧ Aside0 (laws_toContactS.l0 kq l0 x3_1 x4_1 = some r) ∧ Aside0 (kq ≤ k) ∧ Aside0 (Kd.R k49 49 w' w.heap.size (fun _ => True) v333 x3_1) ∧ Aside0 (Below w.heap.size w w'))
 case atStart => exact ⟨(y332), (0), sc, H', kk0, ⟨sr HO334⟩, ⟨sb⟩⟩
 case round =>
  clear H'
  try clear c2
  try clear c2b0
  try clear c2b1
  try clear c3
  try clear c3b0
  try clear c3b1
  obtain ⟨x3_1, x4_1, rfl, HA, HK1, HO_3, HB⟩ := hrel
  cases gk with
  | zero => exact absurd HA.out (by simp [laws_toContactS.l0])
  | succ k1 =>
   have H := HA.out
   clear HA
   simp only [laws_toContactS.l0] at H
   obtain ⟨c6, H⟩ | ⟨c6, H⟩ := ie_ H
   ·have c6b0 := decide_eq_true c6
    clear c6
    obtain ⟨c7b0, H⟩ := id_ H
    obtain ⟨⟨t336, t337, t338, t339⟩, A8, H⟩ := bnd H
    replace H : (if x4_1 < (x3_1.length : Int) then (laws_toContactS.l0 k1 l0 (x3_1.set (x4_1 : Int).toNat (⟨t336, t337, t338, t339⟩ : S49)) (wrap64 (x4_1 + 1))) else (none)) = some r := H
    obtain ⟨c9b0, H⟩ := id_ H
    obtain ⟨y340, hy340⟩ : ∃ y_ : List (S49), y_ = (x3_1.set (x4_1 : Int).toNat (⟨t336, t337, t338, t339⟩ : S49)) := ⟨_, rfl⟩
    replace H : (laws_toContactS.l0 k1 l0 y340 (wrap64 (x4_1 + 1))) = some r := by first | (rw [hy340]; with_reducible exact H) | (have H2_ := (Option.bind_some _ _).symm.trans H; rw [hy340]; with_reducible exact H2_) | (have H2_ := (Option.bind_some _ _).symm.trans H; with_reducible exact H2_) | with_reducible exact H | (rw [hy340]; exact H) | exact H
    have Ny340 := Aside0.mk hy340
    clear hy340
    have H' := Aside0.mk H
    clear H
    obtain ⟨p335, q335, ad335, e335, _, _, _, _, hx335_0, hx335_1, hx335_2, hx335_3⟩ := aT_T51 HR0 HB x4_1
    cases e335
    go_wp2_with (first | ((with_reducible refine gate_callee (f := 19) rfl ?_); refine gL (some 20) Try.func19 #[.agg #[.int .i64 ((rd_T51 l0 x4_1).f0), .int .i64 ((rd_T51 l0 x4_1).f1), .int .i64 ((rd_T51 l0 x4_1).f2), .int .i64 ((rd_T51 l0 x4_1).f3)]] ?_; (with_reducible refine (laws_toContact.calls ((rd_T51 l0 x4_1).f0) ((rd_T51 l0 x4_1).f1) ((rd_T51 l0 x4_1).f2) ((rd_T51 l0 x4_1).f3) t336 t337 t338 t339 _ A8.out).mono ?_); rintro e w11 ⟨rfl, hb⟩; refine ⟨_, rfl, ?_⟩; replace HO_3 := rb HO_3 hb; replace HB := bs hb; (try clear hb); (try clear hb2); (try clear hk); (try clear hi); have p10 : 0 ≤ (x4_1 : Int) := sa; have q10 : (x4_1 : Int) < ((x3_1.length : Int) : Int) := sa; obtain ⟨go10, co10, eo10, gb10, gl10, cl10, HG10⟩ := Kd.R_form HO_3.out (by omega); (first | cases eo10 | (injection eo10 with ea_ en_ ec_; (first | subst ea_ | (injection ea_ with ea_; subst ea_)); subst ec_; clear en_)); have GB10 := Aside0.mk gb10; have GG10 := Aside0.mk HG10; clear gb10 gl10 HG10; obtain ⟨ce10, hcl10, hM10, hcc10, hfr10⟩ := Kd.R_elem HO_3.out z49 (x4_1 : Int) p10 q10; obtain rfl := k49_openM hM10; have hx10_0 : w11.cell? ⟨go10, (x4_1 : Int).toNat * 4, none⟩ = some (.int .i64 ((rd_T49 x3_1 x4_1).f0)) := hcc10 0 _ rfl; have hx10_1 : w11.cell? ⟨go10, (x4_1 : Int).toNat * 4 + 1, none⟩ = some (.int .i64 ((rd_T49 x3_1 x4_1).f1)) := hcc10 1 _ rfl; have hx10_2 : w11.cell? ⟨go10, (x4_1 : Int).toNat * 4 + 2, none⟩ = some (.int .i64 ((rd_T49 x3_1 x4_1).f2)) := hcc10 2 _ rfl; have hx10_3 : w11.cell? ⟨go10, (x4_1 : Int).toNat * 4 + 3, none⟩ = some (.int .i64 ((rd_T49 x3_1 x4_1).f3)) := hcc10 3 _ rfl; have hf10_0 : w11.frozen? ⟨go10, (x4_1 : Int).toNat * 4, none⟩ = false := hfr10 0; have hf10_1 : w11.frozen? ⟨go10, (x4_1 : Int).toNat * 4 + 1, none⟩ = false := hfr10 1; have hf10_2 : w11.frozen? ⟨go10, (x4_1 : Int).toNat * 4 + 2, none⟩ = false := hfr10 2; have hf10_3 : w11.frozen? ⟨go10, (x4_1 : Int).toNat * 4 + 3, none⟩ = false := hfr10 3; (try clear hcl10); (try clear hcc10); (try clear hfr10); (try clear hM10); replace p10 := eq_true p10; replace q10 := eq_true q10; have HX12 := Aside0.mk (show Kd.R k49 49 w11 w.heap.size (fun _ => True) (.slice (some ⟨go10, 0, none⟩) x3_1.length co10) x3_1 from (sr HO_3)); obtain ⟨ce12, hcl12, hM12, hcc12, hfr12⟩ := Kd.R_elem HX12.out z49 (x4_1 : Int) (sa) (by have h_ : (x4_1 : Int) < ((x3_1.length : Int) : Int) := sa; first | exact h_ | (have e_ := (Kd.R_reads' HO_3.out).1; omega) | simpa using h_); obtain rfl := k49_openM hM12; have HP12 := Kd.R_seg HX12.out (x4_1 : Int) (sa) (by have h_ : (x4_1 : Int) < ((x3_1.length : Int) : Int) := sa; first | exact h_ | (have e_ := (Kd.R_reads' HO_3.out).1; omega) | simpa using h_) (seg := [.int .i64 t336, .int .i64 t337, .int .i64 t338, .int .i64 t339]) (j := 0) hcl12 hcc12 (show 4 ≤ 4 from by decide) (x' := (⟨t336, t337, t338, t339⟩ : S49)) (k49_mkM _ _ _ (⟨t336, t337, t338, t339⟩ : S49) ) (fun _ hk => hk); have hx12_0 := hcc12 0 _ rfl; (try simp only [show (k49).sz = 4 from rfl, Nat.mul_one, Nat.add_zero] at hx12_0); have hf12_0 := hfr12 0; (try simp only [show (k49).sz = 4 from rfl, Nat.mul_one, Nat.add_zero] at hf12_0); have hx12_1 := hcc12 1 _ rfl; (try simp only [show (k49).sz = 4 from rfl, Nat.mul_one, Nat.add_zero] at hx12_1); have hf12_1 := hfr12 1; (try simp only [show (k49).sz = 4 from rfl, Nat.mul_one, Nat.add_zero] at hf12_1); have hx12_2 := hcc12 2 _ rfl; (try simp only [show (k49).sz = 4 from rfl, Nat.mul_one, Nat.add_zero] at hx12_2); have hf12_2 := hfr12 2; (try simp only [show (k49).sz = 4 from rfl, Nat.mul_one, Nat.add_zero] at hf12_2); have hx12_3 := hcc12 3 _ rfl; (try simp only [show (k49).sz = 4 from rfl, Nat.mul_one, Nat.add_zero] at hx12_3); have hf12_3 := hfr12 3; (try simp only [show (k49).sz = 4 from rfl, Nat.mul_one, Nat.add_zero] at hf12_3); (try clear hcl12); (try clear hcc12); (try clear hfr12); (try clear hM12)) | ((with_reducible refine gate_store (t := 49) (p := 21) rfl ?_); refine store_event (t := 49) (p := 21) (v := ?vo_w13) (w1 := ((((w11.setCell ⟨go10, (x4_1 : Int).toNat * 4, none⟩ (.int .i64 t336)).setCell ⟨go10, (x4_1 : Int).toNat * 4 + 1, none⟩ (.int .i64 t337)).setCell ⟨go10, (x4_1 : Int).toNat * 4 + 2, none⟩ (.int .i64 t338)).setCell ⟨go10, (x4_1 : Int).toNat * 4 + 3, none⟩ (.int .i64 t339))) ?hg ?ho ?hn ?hr ?_; (case ho => rfl); (case hg => rfl); (case hn => rfl); (case hr => first | (go_simp; done) | (go_simp; rfl)); intro w13 hw; have hg : w11.grownBy w13 (some go10) := (by rw [hw]; exact HP12.2); have hp_ : Kd.R k49 49 w13 w.heap.size (fun _ => True) (.slice (some ⟨go10, 0, none⟩) x3_1.length co10) y340 := (by rw [hw, Ny340.out]; exact HP12.1); clear HP12; replace HO_3 := Aside0.mk hp_; replace HB := Aside0.mk ((by rw [hw]; exact below_set (below_set (below_set (below_set (HB.out) GB10.out) GB10.out) GB10.out) GB10.out : Below w.heap.size w w13)); clear hg hw hp_))
    go_roundg k1
    case measure => have := HK1.out; omega
    case rel => exact ⟨(y340), (wrap64 (x4_1 + 1)), sc, H', kk1, ⟨sr HO_3⟩, ⟨sb⟩⟩
   ·have c6b0 := decide_eq_false c6
    clear c6
    obtain rfl := Option.some.inj H
    go_wp2
    go_ret
    exact ⟨_, se, sr HO_3, sb⟩

/-! ### impl_InRange: function 23 -/
def impl_InRange.f (a0 : Int) (a1 : Int) (a2 : Int) : Option (Bool) := if a1 ≤ a0 then (some (decide (a0 ≤ a2))) else (some false)
set_option maxHeartbeats 8000000 in
set_option maxRecDepth 100000 in
theorem impl_InRange.calls (a0 : Int) (a1 : Int) (a2 : Int) (r : Bool) (w : World) (h : impl_InRange.f a0 a1 a2 = some r) :
    Calls Try.prog 23 #[.int .i64 a0, .int .i64 a1, .int .i64 a2] w fun e w' => e = .returned (.bool r) ∧ Drawn0 w w' := by
 have H : (if a1 ≤ a0 then (some (decide (a0 ≤ a2))) else (some false)) = some r := h
 clear h
 obtain ⟨c4, H⟩ | ⟨c4, H⟩ := ie_ H
 ·have c4b0 := decide_eq_true c4
  clear c4
  obtain rfl := Option.some.inj H
  go_enter Try.func23, Try.ntmps23
  go_wp2
  go_ret
  exact ⟨sc, sd⟩
 ·have c4b0 := decide_eq_false c4
  clear c4
  obtain rfl := Option.some.inj H
  go_enter Try.func23, Try.ntmps23
  go_wp2
  go_ret
  exact ⟨sc, sd⟩

/-! ### impl_isNumber: function 36 -/
def impl_isNumber.f (a0 : Int) : Option (Bool) := (impl_InRange.f a0 1 12).bind fun t341 => (some t341)
set_option maxHeartbeats 8000000 in
set_option maxRecDepth 100000 in
theorem impl_isNumber.calls (a0 : Int) (r : Bool) (w : World) (h : impl_isNumber.f a0 = some r) :
    Calls Try.prog 36 #[.int .i64 a0] w fun e w' => e = .returned (.bool r) ∧ Drawn0 w w' := by
 have H : ((impl_InRange.f a0 1 12).bind fun t341 => (some t341)) = some r := h
 clear h
 obtain ⟨t341, A2, H⟩ := bnd H
 obtain rfl := Option.some.inj H
 go_enter Try.func36, Try.ntmps36
 go_wp2_with (first | ((with_reducible refine gate_callee (f := 23) rfl ?_); refine gL (some 4) Try.func23 #[.int .i64 a0, .int .i64 1, .int .i64 12] ?_; (with_reducible refine (impl_InRange.calls a0 1 12 t341 _ A2.out).mono ?_); rintro e w' ⟨rfl, ⟨nd, rfl⟩⟩; refine ⟨_, rfl, ?_⟩))
 go_ret
 exact ⟨sc, sd⟩

/-! ### impl_isFrame: function 20 -/
def impl_isFrame.f (a0 : Int) (a1 : Int) (a2 : Int) : Option (Bool) := (impl_isNumber.f a0).bind fun t342 => (if t342 = true then ((impl_InRange.f a1 0 a0).bind fun t343 => (if t343 = true then ((impl_InRange.f a2 0 5).bind fun t344 => (some t344)) else (some false))) else (some false))
set_option maxHeartbeats 8000000 in
set_option maxRecDepth 100000 in
theorem impl_isFrame.calls (a0 : Int) (a1 : Int) (a2 : Int) (r : Bool) (w : World) (h : impl_isFrame.f a0 a1 a2 = some r) :
    Calls Try.prog 20 #[.int .i64 a0, .int .i64 a1, .int .i64 a2] w fun e w' => e = .returned (.bool r) ∧ Drawn0 w w' := by
 have H : ((impl_isNumber.f a0).bind fun t342 => (if t342 = true then ((impl_InRange.f a1 0 a0).bind fun t343 => (if t343 = true then ((impl_InRange.f a2 0 5).bind fun t344 => (some t344)) else (some false))) else (some false))) = some r := h
 clear h
 obtain ⟨t342, A4, H⟩ := bnd H
 obtain rfl | rfl := tt t342
 ·replace H := ip H
  obtain ⟨t343, A6, H⟩ := bnd H
  obtain rfl | rfl := tt t343
  ·replace H := ip H
   obtain ⟨t344, A8, H⟩ := bnd H
   obtain rfl := Option.some.inj H
   go_enter Try.func20, Try.ntmps20
   go_wp2_with (first | ((with_reducible refine gate_callee (f := 36) rfl ?_); refine gL (some 8) Try.func36 #[.int .i64 a0] ?_; (with_reducible refine (impl_isNumber.calls a0 true _ A4.out).mono ?_); rintro e w' ⟨rfl, ⟨nd, rfl⟩⟩; refine ⟨_, rfl, ?_⟩) | (go_at_call 23; (with_reducible refine (impl_InRange.calls a1 0 a0 true _ A6.out).mono ?_); rintro e w' ⟨rfl, ⟨nd, rfl⟩⟩) | (go_at_call 23; (with_reducible refine (impl_InRange.calls a2 0 5 t344 _ A8.out).mono ?_); rintro e w' ⟨rfl, ⟨nd, rfl⟩⟩))
   go_ret
   exact ⟨sc, sd⟩
  ·replace H := im H
   obtain rfl := Option.some.inj H
   go_enter Try.func20, Try.ntmps20
   go_wp2_with (first | ((with_reducible refine gate_callee (f := 36) rfl ?_); refine gL (some 8) Try.func36 #[.int .i64 a0] ?_; (with_reducible refine (impl_isNumber.calls a0 true _ A4.out).mono ?_); rintro e w' ⟨rfl, ⟨nd, rfl⟩⟩; refine ⟨_, rfl, ?_⟩) | (go_at_call 23; (with_reducible refine (impl_InRange.calls a1 0 a0 false _ A6.out).mono ?_); rintro e w' ⟨rfl, ⟨nd, rfl⟩⟩))
   go_ret
   exact ⟨sc, sd⟩
 ·replace H := im H
  obtain rfl := Option.some.inj H
  go_enter Try.func20, Try.ntmps20
  go_wp2_with (first | ((with_reducible refine gate_callee (f := 36) rfl ?_); refine gL (some 8) Try.func36 #[.int .i64 a0] ?_; (with_reducible refine (impl_isNumber.calls a0 false _ A4.out).mono ?_); rintro e w' ⟨rfl, ⟨nd, rfl⟩⟩; refine ⟨_, rfl, ?_⟩))
  go_ret
  exact ⟨sc, sd⟩

/-! ### impl_IsSpan: function 40 -/
def impl_IsSpan.f (a0_0 : Int) (a0_1 : Int) : Option (Bool) := if a0_0 ≥ 0 then (if a0_1 ≤ 1000 then (some (decide (a0_0 < a0_1))) else (some false)) else (some false)
set_option maxHeartbeats 8000000 in
set_option maxRecDepth 100000 in
theorem impl_IsSpan.calls (a0_0 : Int) (a0_1 : Int) (r : Bool) (w : World) (h : impl_IsSpan.f a0_0 a0_1 = some r) :
    Calls Try.prog 40 #[.agg #[.int .i64 a0_0, .int .i64 a0_1]] w fun e w' => e = .returned (.bool r) ∧ Below w.heap.size w w' := by
 have hu43 := Try.underlying43
 have HB := Aside0.mk (Below.refl w.heap.size w)
 have H : (if a0_0 ≥ 0 then (if a0_1 ≤ 1000 then (some (decide (a0_0 < a0_1))) else (some false)) else (some false)) = some r := h
 clear h
 obtain ⟨c2, H⟩ | ⟨c2, H⟩ := ie_ H
 ·have c2b0 := decide_eq_true c2
  clear c2
  obtain ⟨c3, H⟩ | ⟨c3, H⟩ := ie_ H
  ·have c3b0 := decide_eq_true c3
   clear c3
   obtain rfl := Option.some.inj H
   go_enter Try.func40, Try.ntmps40
   go_wp2_with (first | ((with_reducible refine gate_dst (N := 1) rfl ?_); refine bx 1 #[.int .i64 a0_0, .int .i64 a0_1] 43 ?_; intro gb345 hg w4 hbox hb; have GW345 := bz w hg; have GE345 := bz w hg; replace HB := bs hb; have BK345 := Aside0.mk hbox; clear hb hbox hg; obtain ⟨hcz5_0, hcz5_1, hfz5_0, hfz5_1⟩ := cc2 BK345))
   go_ret
   exact ⟨se, sbw⟩
  ·have c3b0 := decide_eq_false c3
   clear c3
   obtain rfl := Option.some.inj H
   go_enter Try.func40, Try.ntmps40
   go_wp2_with (first | ((with_reducible refine gate_dst (N := 1) rfl ?_); refine bx 1 #[.int .i64 a0_0, .int .i64 a0_1] 43 ?_; intro gb345 hg w6 hbox hb; have GW345 := bz w hg; have GE345 := bz w hg; replace HB := bs hb; have BK345 := Aside0.mk hbox; clear hb hbox hg; obtain ⟨hcz7_0, hcz7_1, hfz7_0, hfz7_1⟩ := cc2 BK345))
   go_ret
   exact ⟨se, sbw⟩
 ·have c2b0 := decide_eq_false c2
  clear c2
  obtain rfl := Option.some.inj H
  go_enter Try.func40, Try.ntmps40
  go_wp2_with (first | ((with_reducible refine gate_dst (N := 1) rfl ?_); refine bx 1 #[.int .i64 a0_0, .int .i64 a0_1] 43 ?_; intro gb345 hg w8 hbox hb; have GW345 := bz w hg; have GE345 := bz w hg; replace HB := bs hb; have BK345 := Aside0.mk hbox; clear hb hbox hg; obtain ⟨hcz9_0, hcz9_1, hfz9_0, hfz9_1⟩ := cc2 BK345))
  go_ret
  exact ⟨se, sbw⟩

/-! ### impl_spanOf: function 43 -/
def impl_spanOf.f (a0_0 : Int) (a0_1 : Int) (a0_2 : Int) (a0_3 : Int) : Option (Int × Int) := some (a0_2, a0_3)
set_option maxHeartbeats 8000000 in
set_option maxRecDepth 100000 in
theorem impl_spanOf.calls (a0_0 : Int) (a0_1 : Int) (a0_2 : Int) (a0_3 : Int) (r1 : Int) (r2 : Int) (w : World) (h : impl_spanOf.f a0_0 a0_1 a0_2 a0_3 = some (r1, r2)) :
    Calls Try.prog 43 #[.agg #[.int .i64 a0_0, .int .i64 a0_1, .int .i64 a0_2, .int .i64 a0_3]] w fun e w' => e = .returned (.agg #[.int .i64 r1, .int .i64 r2]) ∧ Below w.heap.size w w' := by
 have hu49 := Try.underlying49
 have hu43 := Try.underlying43
 have HB := Aside0.mk (Below.refl w.heap.size w)
 have H : (some (a0_2, a0_3)) = some (r1, r2) := h
 clear h
 simp only [Option.some.injEq, Prod.mk.injEq] at H
 obtain ⟨rfl, rfl⟩ := H
 go_enter Try.func43, Try.ntmps43
 go_wp2_with (first | ((with_reducible refine gate_dst (N := 1) rfl ?_); refine bx 1 #[.int .i64 a0_0, .int .i64 a0_1, .int .i64 a0_2, .int .i64 a0_3] 49 ?_; intro gb346 hg w2 hbox hb; have GW346 := bz w hg; have GE346 := bz w hg; replace HB := bs hb; have BK346 := Aside0.mk hbox; clear hb hbox hg) | ((with_reducible refine gate_dst (N := 2) rfl ?_); refine bx 2 #[.int .i64 0, .int .i64 0] 43 ?_; intro gb347 hg w3 hbox hb; have GW347 := bzw w hg; have GE347 := bzw w hg; replace HB := bsw hb; have BK347 := Aside0.mk hbox; have NB346_347 := nl BK346 hg; have NB347_346 := ng BK346 hg; replace BK346 := bb BK346 hb; clear hb hbox hg; have hnb4 := NB346_347.out; have hnc4 := NB347_346.out; obtain ⟨hcz5_0, hcz5_1, hcz5_2, hcz5_3, hfz5_0, hfz5_1, hfz5_2, hfz5_3⟩ := cc4 BK346; obtain ⟨hcz6_0, hcz6_1, hfz6_0, hfz6_1⟩ := cc2 BK347))
 refine bodyPost_ret (results_cell_row rfl _ _ gb347 43 #[.int .i64 a0_2, .int .i64 a0_3] (0, 0) _ rfl (sp BK347) Try.underlying43 rfl (by kernel_rfl)) rfl ?_
 exact ⟨se, sbw⟩

end Go.Proofs.Ytcjlbgbenjmkgaa.QFnExactBuildProgram
