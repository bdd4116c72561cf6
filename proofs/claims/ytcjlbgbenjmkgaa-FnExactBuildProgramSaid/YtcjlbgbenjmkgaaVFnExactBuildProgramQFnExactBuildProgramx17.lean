/- What the Go functions of the law FnExactBuildProgram come to, as Lean functions, and that they do: by a program of the session, out of the kit's printer. Conditions: none. (squeezed). -/
import Derived.Test.YtcjlbgbenjmkgaaVFnExactBuildProgramSq2
import Derived.Test.YtcjlbgbenjmkgaaVFnExactBuildProgramFr
import Derived.Test.YtcjlbgbenjmkgaaVFnExactBuildProgramSq
import Derived.Test.YtcjlbgbenjmkgaaVFnExactBuildProgramQFnExactBuildProgramx0
import Derived.Test.YtcjlbgbenjmkgaaVFnExactBuildProgramQFnExactBuildProgramx10
import Derived.Test.YtcjlbgbenjmkgaaVFnExactBuildProgramQFnExactBuildProgramx12
import Derived.Test.YtcjlbgbenjmkgaaVFnExactBuildProgramQFnExactBuildProgramx13
import Derived.Test.YtcjlbgbenjmkgaaVFnExactBuildProgramQFnExactBuildProgramx14
import Derived.Test.YtcjlbgbenjmkgaaVFnExactBuildProgramQFnExactBuildProgramx16
namespace Go.Proofs.Ytcjlbgbenjmkgaa.QFnExactBuildProgram
open Go.RowKit Go.Proofs.YtcjlbgbenjmkgaaW.PrintWords Go.Proofs.YtcjlbgbenjmkgaaW.PrintLast Go.Proofs.YtcjlbgbenjmkgaaW.PrintMore Go.Proofs.Ytcjlbgbenjmkgaa.Open Go.Proofs.Ytcjlbgbenjmkgaa.Sq Go.Proofs.Ytcjlbgbenjmkgaa
attribute [local go_sem] max2_int min2_int max_two min_two max_three min_three max_four min_four   -- for this text's walks alone
attribute [local go_sem] isSome_set
set_option linter.unusedVariables false
set_option linter.unusedSimpArgs false

/-! ### impl_BuildProgram: function 7 -/
mutual
def impl_BuildProgram.j0 : Nat → List (S49) → Int → Int → Int → Int → Int → Bool → Option (Int × Int × Int × (List (S47)) × Bool)
  | 0, _, _, _, _, _, _, _ => none
  | k + 1, x0, x1, x2, x3, x4, x5, x29 => if x29 = true then (some (0, 0, 0, ([] : List (S47)), false)) else ((impl_PiecesOf.f k x0 x3 x4).bind fun t503 => ((impl_InRange.f (t503.length : Int) 1 40).bind fun t506 => (if t506 = true then (impl_BuildProgram.l0 k x0 x1 x2 t503 (t503.length : Int) 0 x1 x2 x5 ([] : List (S47))) else (some (0, 0, 0, ([] : List (S47)), false)))))
def impl_BuildProgram.l0 : Nat → List (S49) → Int → Int → List (S43) → Int → Int → Int → Int → Int → List (S47) → Option (Int × Int × Int × (List (S47)) × Bool)
  | 0, _, _, _, _, _, _, _, _, _, _ => none
  | k + 1, x0, x1, x2, x44, x45, x46, x508000, x508001, x508002, x508003 => if x46 < x45 then (if 0 ≤ x46 then (if x46 < (x44.length : Int) then ((impl_LinksAt.f k x0 ((rd_T43 x44 x46).f0)).bind fun t510 => ((impl_tablesOf.f k t510 x1 x2).bind fun t513 => (if x508003.length < 2199023255552 then (impl_BuildProgram.l0 k x0 x1 x2 x44 x45 (wrap64 (x46 + 1)) x508000 x508001 x508002 (x508003 ++ [(⟨(⟨(rd_T43 x44 x46).f0, (rd_T43 x44 x46).f1⟩ : S43), t510, t513⟩ : S47)])) else (none)))) else (none)) else (none)) else (some (x508000, x508001, x508002, x508003, true))
end
def impl_BuildProgram.f (k : Nat) (l0 : List (S49)) (a1 : Int) (a2 : Int) (a3 : Int) (a4 : Int) (a5 : Int) : Option (Int × Int × Int × (List (S47)) × Bool) := (impl_isFrame.f a1 a2 a5).bind fun t501 => (if t501 = true then ((impl_IsPlan.f k l0 a1).bind fun t502 => (impl_BuildProgram.j0 k l0 a1 a2 a3 a4 a5 (!t502))) else (impl_BuildProgram.j0 k l0 a1 a2 a3 a4 a5 true))
theorem impl_BuildProgram.mono_l : ∀ k, (∀ y0 y1 y2 y3 y4 y5 y6, LeO (impl_BuildProgram.j0 k y0 y1 y2 y3 y4 y5 y6) (impl_BuildProgram.j0 (k + 1) y0 y1 y2 y3 y4 y5 y6)) ∧ (∀ y0 y1 y2 y3 y4 y5 y6 y7 y8 y9, LeO (impl_BuildProgram.l0 k y0 y1 y2 y3 y4 y5 y6 y7 y8 y9) (impl_BuildProgram.l0 (k + 1) y0 y1 y2 y3 y4 y5 y6 y7 y8 y9))
  | 0 => ⟨fun _ _ _ _ _ _ _ r h => by simp [impl_BuildProgram.j0] at h, fun _ _ _ _ _ _ _ _ _ _ r h => by simp [impl_BuildProgram.l0] at h⟩
  | k + 1 => by
    obtain ⟨ih0, ih1⟩ := impl_BuildProgram.mono_l k
    refine ⟨?_, ?_⟩
    · intro y0 y1 y2 y3 y4 y5 y6
      unfold impl_BuildProgram.j0
      have m0 := @impl_IsPlan.mono
      have m1 := @impl_LinksAt.mono
      have m2 := @impl_PiecesOf.mono
      have m3 := @impl_tablesOf.mono
      exact mo
    · intro y0 y1 y2 y3 y4 y5 y6 y7 y8 y9
      unfold impl_BuildProgram.l0
      have m0 := @impl_IsPlan.mono
      have m1 := @impl_LinksAt.mono
      have m2 := @impl_PiecesOf.mono
      have m3 := @impl_tablesOf.mono
      exact mo
theorem impl_BuildProgram.mono : ∀ a0 a1 a2 a3 a4 a5 k, LeO (impl_BuildProgram.f k a0 a1 a2 a3 a4 a5) (impl_BuildProgram.f (k + 1) a0 a1 a2 a3 a4 a5) := by
  intro a0 a1 a2 a3 a4 a5 k
  obtain ⟨ih0, ih1⟩ := impl_BuildProgram.mono_l k
  unfold impl_BuildProgram.f
  have m0 := @impl_IsPlan.mono
  have m1 := @impl_LinksAt.mono
  have m2 := @impl_PiecesOf.mono
  have m3 := @impl_tablesOf.mono
  exact mo
def impl_BuildProgram.T11 : Bool × List (List Nat × List Nat) := (true, [([], []), ([0], [0]), ([], []), ([], []), ([], []), ([], []), ([], []), ([4, 5, 6], [4, 5, 6]), ([2, 3, 7], [2, 3, 7]), ([8], [8]), ([1, 9, 7], [1, 9]), ([0, 1, 2, 3, 4, 5, 6, 7, 8, 9, 10], []), ([11, 10, 10, 0, 1, 2, 3, 4, 5, 6, 7, 8, 9, 10], [10, 11])])
def impl_BuildProgram.B11 : List Nat := [0, 1, 0, 0, 0, 0, 0, 112, 252, 508, 1023, 2047, 4095]
theorem impl_BuildProgram.tab11 : rtab .any (opsOf Try.f7 11) = impl_BuildProgram.T11 := by kernel_rfl
theorem impl_BuildProgram.bits11 : waitsOk impl_BuildProgram.T11.2 impl_BuildProgram.B11 = true := by kernel_rfl
set_option maxHeartbeats 8000000 in
set_option maxRecDepth 100000 in
theorem impl_BuildProgram.calls (k : Nat) (A0 : Option Addr) (c0 : Nat) (l0 : List (S49)) (a1 : Int) (a2 : Int) (a3 : Int) (a4 : Int) (a5 : Int) (r1 : Int) (r2 : Int) (r3 : Int) (r4 : List (S47)) (r5 : Bool) (w : World) (hr0 : Kd.C k49 w A0 l0.length l0) (hc0 : l0.length ≤ c0) (h : impl_BuildProgram.f k l0 a1 a2 a3 a4 a5 = some (r1, r2, r3, r4, r5)) :
    Calls Try.prog 7 #[.slice A0 l0.length c0, .int .i64 a1, .int .i64 a2, .int .i64 a3, .int .i64 a4, .int .i64 a5] w fun e w' => ∃ v3_ : Value, e = .returned (.tuple #[.agg #[.int .i64 r1, .int .i64 r2, .int .i64 r3, v3_], .bool r5]) ∧ Kd.S k47 47 w' w.heap.size (fun _ => True) v3_ r4 ∧ Below w.heap.size w w' := by
 have hu26 := Try.underlying26
 have hu43 := Try.underlying43
 have hu47 := Try.underlying47
 have HR0 := Aside0.mk hr0
 have HC0 := Aside0.mk hc0
 clear hr0 hc0
 have HB := Aside0.mk (Below.refl w.heap.size w)
 have H : ((impl_isFrame.f a1 a2 a5).bind fun t501 => (if t501 = true then ((impl_IsPlan.f k l0 a1).bind fun t502 => (impl_BuildProgram.j0 k l0 a1 a2 a3 a4 a5 (!t502))) else (impl_BuildProgram.j0 k l0 a1 a2 a3 a4 a5 true))) = some (r1, r2, r3, r4, r5) := h
 clear h
 have HC7 := Aside0.mk H
 clear H
 go_enter Try.func7, Try.ntmps7
 go_upto_region 1 with (first | ((with_reducible refine gate_dst (N := 12) rfl ?_); refine bx 12 #[.int .i64 0, .int .i64 0, .int .i64 0, .slice none 0 0] 26 ?_; intro gb500 hg w8 hbox hb; have GW500 := bz w hg; have GE500 := bz w hg; replace HB := bs hb; have BK500 := Aside0.mk hbox; clear hb hbox hg))
 (try simp only [Act.put, List.setIfInBounds_toArray, List.set_cons_zero, List.set_cons_succ])
 go_cut [29] (fun v29 wc => ∃ (kq : Nat) (x29_6 : Bool), v29 = .bool x29_6 ∧ Aside0 (impl_BuildProgram.j0 kq l0 a1 a2 a3 a4 a5 x29_6 = some (r1, r2, r3, r4, r5)) ∧ Aside0 (kq ≤ k) ∧ Aside0 (wc.heap[gb500]? = some (.cells #[.int .i64 0, .int .i64 0, .int .i64 0, (.slice none 0 0)] 26 (0, 0))) ∧ Aside0 (Below w.heap.size w wc))
 case first =>
  have H := HC7.out
  clear HC7
  obtain ⟨t501, A9, H⟩ := bnd H
  obtain rfl | rfl := tt t501
  ·replace H := ip H
   obtain ⟨t502, A11, H⟩ := bnd H
   have H' := Aside0.mk H
   clear H
   go_wp2_with (first | ((with_reducible refine gate_callee (f := 20) rfl ?_); refine gL (some 22) Try.func20 #[.int .i64 a1, .int .i64 a2, .int .i64 a5] ?_; (with_reducible refine (impl_isFrame.calls a1 a2 a5 true _ A9.out).mono ?_); rintro e w' ⟨rfl, ⟨nd, rfl⟩⟩; refine ⟨_, rfl, ?_⟩) | (go_at_call 21; (with_reducible refine (impl_IsPlan.calls k _ _ l0 a1 t502 _ ?side1 ?side2 A11.out).mono ?_); (case side1 => exact cbw HR0); (case side2 => exact HC0.out); rintro e w12 ⟨rfl, hb⟩; replace BK500 := bb BK500 hb; replace HB := bsw hb; (try clear hb); (try clear hb2); (try clear hk); (try clear hi)))
   go_meet
   case rel => exact ⟨_, (!t502), sc, H', ⟨by first | omega | exact Nat.le_refl _⟩, ⟨sk BK500⟩, ⟨sbw⟩⟩
  ·replace H := im H
   have H' := Aside0.mk H
   clear H
   go_wp2_with (first | ((with_reducible refine gate_callee (f := 20) rfl ?_); refine gL (some 22) Try.func20 #[.int .i64 a1, .int .i64 a2, .int .i64 a5] ?_; (with_reducible refine (impl_isFrame.calls a1 a2 a5 false _ A9.out).mono ?_); rintro e w' ⟨rfl, ⟨nd, rfl⟩⟩; refine ⟨_, rfl, ?_⟩))
   go_meet
   case rel => exact ⟨_, (true), sc, H', ⟨by first | omega | exact Nat.le_refl _⟩, ⟨sk BK500⟩, ⟨sbw⟩⟩
 case rest =>
  clear HC7
  obtain ⟨kq, x29_6, rfl, HA, HJ6, BK500, HB⟩ := hcut
  cases kq with
  | zero => exact absurd HA.out (by simp [impl_BuildProgram.j0])
  | succ kj6 =>
   have H := HA.out
   clear HA
   simp only [impl_BuildProgram.j0] at H
   obtain rfl | rfl := tt x29_6
   ·replace H := ip H
    simp only [Option.some.injEq, Prod.mk.injEq] at H
    obtain ⟨rfl, rfl, rfl, rfl, rfl⟩ := H
    obtain ⟨hcz14_0, hcz14_1, hcz14_2, hcz14_3, hfz14_0, hfz14_1, hfz14_2, hfz14_3⟩ := cc4 BK500
    go_wp2
    refine bodyPost_ret (results_ct rfl _ _ gb500 26 #[.int .i64 0, .int .i64 0, .int .i64 0, .slice none 0 0] (0, 0) _ rfl (sp BK500) Try.underlying26 rfl (by kernel_rfl)) rfl ?_
    exact ⟨_, se, by first | exact Kd.S_nil _ _ _ _ _ | exact Kd.N_nil _ _ _ _ _ | exact Kd.V_nil _ _ _ _ _ | exact Kd.Q_nil _ _ _ _ _ | exact Kd.R_nil _ _ _ _ _, sbw⟩
   ·replace H := im H
    obtain ⟨t503, A15, H⟩ := bnd H
    obtain ⟨t506, A16, H⟩ := bnd H
    obtain rfl | rfl := tt t506
    ·replace H := ip H
     have H' := Aside0.mk H
     clear H
     go_wp2_with (first | ((with_reducible refine gate_callee (f := 22) rfl ?_); refine gL (some 34) Try.func22 #[.slice A0 l0.length c0, .int .i64 a3, .int .i64 a4] ?_; (with_reducible refine (impl_PiecesOf.calls kj6 _ _ l0 a3 a4 t503 _ ?side1 ?side2 A15.out).mono ?_); (case side1 => exact cb HR0); (case side2 => exact HC0.out); rintro e w18 ⟨v504, rfl, ho0, hb⟩; refine ⟨_, rfl, ?_⟩; have HO505 := Aside0.mk (Kd.R_lower ho0 (below_size (sbw))); replace BK500 := bb BK500 hb; replace HB := bsw hb; (try clear hb); (try clear hb2); (try clear hk); (try clear hi); (try clear ho0); obtain ⟨Ao19, co19, eo19⟩ := Kd.R_slice HO505.out; subst eo19) | ((with_reducible refine gate_callee (f := 23) rfl ?_); refine gL (some 37) Try.func23 #[.int .i64 (t503.length : Int), .int .i64 1, .int .i64 40] ?_; (with_reducible refine (impl_InRange.calls (t503.length : Int) 1 40 true _ A16.out).mono ?_); rintro e w' ⟨rfl, ⟨nd, rfl⟩⟩; refine ⟨_, rfl, ?_⟩) | ((with_reducible refine gate_dst (N := 15) rfl ?_); refine bx 15 #[.int .i64 0, .int .i64 0, .int .i64 0, .slice none 0 0] 26 ?_; intro gb507 hg w20 hbox hb; replace HO505 := rb HO505 hb; have GW507 := bzw w hg; have GE507 := bzw w hg; replace HB := bsw hb; have BK507 := Aside0.mk hbox; have NB500_507 := nl BK500 hg; have NB507_500 := ng BK500 hg; replace BK500 := bb BK500 hb; clear hb hbox hg; have hnb21 := NB507_500.out; have hnc21 := NB500_507.out; obtain ⟨hcz22_0, hcz22_1, hcz22_2, hcz22_3, hfz22_0, hfz22_1, hfz22_2, hfz22_3⟩ := cc4 BK507))
     go_loopg [46] kj6 (fun kq v46 w' => ∃ (x46_2 : Int) (x508003_2 : List (S47)) (u508003 : Value), v46 = .int .i64 x46_2 ∧ Aside0 (impl_BuildProgram.l0 kq l0 a1 a2 t503 (t503.length : Int) x46_2 a1 a2 a5 x508003_2 = some (r1, r2, r3, r4, r5)) ∧ Aside0 (kq ≤ kj6) ∧ Aside0 (Kd.R k43 43 w' w.heap.size (fun _ => True) (.slice Ao19 t503.length co19) t503) ∧ Aside0 (Kd.S k47 47 w' w.heap.size (fun _ => True) u508003 x508003_2) ∧ Aside0 (w'.heap[gb500]? = some (.cells #[.int .i64 0, .int .i64 0, .int .i64 0, (.slice none 0 0)] 26 (0, 0))) ∧ Aside0 (w'.heap[gb507]? = some (.cells #[.int .i64 a1, .int .i64 a2, .int .i64 a5, u508003] 26 (0, 0))) ∧ Aside0 (Below w.heap.size w w'))
     case atStart => exact ⟨(0), (([] : List (S47))), (.slice none 0 0), sc, H', kk0, ⟨by (with_reducible repeat (first | apply Kd.R_alloc | apply Kd.R_drewN | apply Kd.R_drew)); exact Kd.R_mono (Kd.R_far (p := ⟨gb507, 3, none⟩) (h3 HO505 BK507) (fun _ hk => hk.2) (.slice none 0 0)) (fun _ hk => trivial)⟩, ⟨by first | exact Kd.S_nil _ _ _ _ _ | exact Kd.N_nil _ _ _ _ _ | exact Kd.V_nil _ _ _ _ _ | exact Kd.Q_nil _ _ _ _ _ | exact Kd.R_nil _ _ _ _ _⟩, ⟨sp BK500⟩, ⟨sp BK507⟩, ⟨sbw⟩⟩
     case round =>
      clear H'
      try clear hcz14_0
      try clear hcz14_1
      try clear hcz14_2
      try clear hcz14_3
      try clear hfz14_0
      try clear hfz14_1
      try clear hfz14_2
      try clear hfz14_3
      obtain ⟨x46_2, x508003_2, u508003, rfl, HA, HK2, HO_44, HO_508003, BK500, BK507, HB⟩ := hrel
      cases gk with
      | zero => exact absurd HA.out (by simp [impl_BuildProgram.l0])
      | succ k2 =>
       have H := HA.out
       clear HA
       simp only [impl_BuildProgram.l0] at H
       obtain ⟨c23, H⟩ | ⟨c23, H⟩ := ie_ H
       ·have c23b0 := decide_eq_true c23
        clear c23
        obtain ⟨c24b0, H⟩ := id_ H
        obtain ⟨c25b0, H⟩ := id_ H
        obtain ⟨t510, A26, H⟩ := bnd H
        obtain ⟨t513, A27, H⟩ := bnd H
        obtain ⟨LMc28, H⟩ := il_ H
        obtain ⟨y516, hy516⟩ : ∃ y_ : List (S47), y_ = (x508003_2 ++ [(⟨(⟨(rd_T43 t503 x46_2).f0, (rd_T43 t503 x46_2).f1⟩ : S43), t510, t513⟩ : S47)]) := ⟨_, rfl⟩
        replace H : (impl_BuildProgram.l0 k2 l0 a1 a2 t503 (t503.length : Int) (wrap64 (x46_2 + 1)) a1 a2 a5 y516) = some (r1, r2, r3, r4, r5) := by first | (rw [hy516]; with_reducible exact H) | (have H2_ := (Option.bind_some _ _).symm.trans H; rw [hy516]; with_reducible exact H2_) | (have H2_ := (Option.bind_some _ _).symm.trans H; with_reducible exact H2_) | with_reducible exact H | (rw [hy516]; exact H) | exact H
        have Ny516 := Aside0.mk hy516
        clear hy516
        have H' := Aside0.mk H
        clear H
        have p508 : 0 ≤ (x46_2 : Int) := sa
        have q508 : x46_2 < (t503.length : Int) := sa
        obtain ⟨ad508, e508, hx508_0, hx508_1⟩ := at_T43 (Kd.R_reads' HO_44.out).2.2 x46_2 p508 q508
        cases e508
        replace p508 := eq_true p508
        replace q508 := eq_true q508
        try go_wp2_with (first | ((with_reducible refine gate_dst (N := 17) rfl ?_); refine bx 17 #[.int .i64 0, .int .i64 0] 43 ?_; intro gb509 hg w29 hbox hb; replace HO_44 := Aside0.mk (Kd.R_below (Kd.R_elderB (sr HO_44) gb509 (Nat.le_of_eq hg.symm)) hb); replace HO_508003 := Aside0.mk (Kd.S_below (ss HO_508003) hb); have GW509 := bzw w hg; have GE509 := bzw w hg; replace HB := bsw hb; have BK509 := Aside0.mk hbox; have NB500_509 := nl BK500 hg; have NB509_500 := ng BK500 hg; replace BK500 := bb BK500 hb; have NB507_509 := nl BK507 hg; have NB509_507 := ng BK507 hg; replace BK507 := bb BK507 hb; clear hb hbox hg; have hnb30 := NB509_500.out; have hnc30 := NB500_509.out; have hnb31 := NB509_507.out; have hnc31 := NB507_509.out; obtain ⟨hcz32_0, hcz32_1, hfz32_0, hfz32_1⟩ := cc2 BK509) | ((with_reducible refine gate_callee (f := 24) rfl ?_); refine gL (some 53) Try.func24 #[.slice A0 l0.length c0, .int .i64 ((rd_T43 t503 x46_2).f0)] ?_; (with_reducible refine (impl_LinksAt.calls k2 _ _ l0 ((rd_T43 t503 x46_2).f0) t510 _ ?side1 ?side2 A26.out).mono ?_); (case side1 => exact Kd.C_below HR0.out (sbw)); (case side2 => exact HC0.out); rintro e w33 ⟨v511, rfl, ho0, hb⟩; refine ⟨_, rfl, ?_⟩; replace HO_44 := Aside0.mk (Kd.R_below (by (with_reducible repeat (first | apply Kd.R_alloc | apply Kd.R_drewN | apply Kd.R_drew)); exact (Kd.R_mono (Kd.R_far (p := ⟨gb509, 1, none⟩) (Kd.R_far (p := ⟨gb509, 0, none⟩) (Kd.R_mono HO_44.out (fun k_ hk => (⟨hk, hk.2⟩ : _ ∧ k_ ≠ gb509))) (fun _ hk => hk.2) (.int .i64 ((rd_T43 t503 x46_2).f0))) (fun _ hk => hk.2) (.int .i64 ((rd_T43 t503 x46_2).f1))) (fun _ h_ => h_.1))) hb); obtain ⟨N_, hN_, OLD_, NEW1_⟩ := Fr.pair (by (with_reducible repeat (first | apply Kd.S_alloc | apply Kd.S_drewN | apply Kd.S_drew)); exact (Kd.S_mono (Kd.S_far (p := ⟨gb509, 1, none⟩) (Kd.S_far (p := ⟨gb509, 0, none⟩) (Kd.S_types HO_508003.out BK509.out (by decide)) (fun _ hk => hk.2) (.int .i64 ((rd_T43 t503 x46_2).f0))) (fun _ hk => hk.2) (.int .i64 ((rd_T43 t503 x46_2).f1))) (fun _ h_ => h_.1))) ho0 hb (below_size (sbw)); replace HO_508003 := Aside0.mk (Kd.S_elder' (by (with_reducible repeat (first | apply Kd.S_alloc | apply Kd.S_drewN | apply Kd.S_drew)); exact (Kd.S_mono (Kd.S_far (p := ⟨gb509, 1, none⟩) (Kd.S_far (p := ⟨gb509, 0, none⟩) (Kd.S_types HO_508003.out BK509.out (by decide)) (fun _ hk => hk.2) (.int .i64 ((rd_T43 t503 x46_2).f0))) (fun _ hk => hk.2) (.int .i64 ((rd_T43 t503 x46_2).f1))) (fun _ h_ => h_.1))) (Kd.R_base ho0) hb); have HO512 := Aside0.mk (Kd.R_lower ho0 (below_size (sbw))); replace BK500 := Aside0.mk (blk_below (g := gb500) (o := .cells #[.int .i64 0, .int .i64 0, .int .i64 0, .slice none 0 0] 26 (0, 0)) (sp BK500) hb); replace BK507 := Aside0.mk (blk_below (g := gb507) (o := .cells #[.int .i64 a1, .int .i64 a2, .int .i64 a5, u508003] 26 (0, 0)) (sp BK507) hb); replace BK509 := Aside0.mk (blk_below (g := gb509) (o := .cells #[.int .i64 ((rd_T43 t503 x46_2).f0), .int .i64 ((rd_T43 t503 x46_2).f1)] 43 (0, 0)) (sp BK509) hb); replace HB := bsw hb; (try clear hb); (try clear hb2); (try clear hk); (try clear hi); (try clear ho0)))
        replace HO_44 := Aside0.mk (Kd.R_drew HO_44.out)
        replace HO_508003 := Aside0.mk (Kd.S_drew HO_508003.out)
        replace HO512 := Aside0.mk (Kd.R_drew HO512.out)
        replace NEW1_ := Aside0.mk (Kd.R_drew NEW1_.out)
        replace OLD_ := Aside0.mk (Kd.S_drew OLD_.out)
        replace hN_ : Aside0 (N_ ≤ w33.drew.heap.size) := ⟨hN_.out⟩
        replace BK500 := Aside0.mk (blk_drew BK500.out)
        replace BK507 := Aside0.mk (blk_drew BK507.out)
        replace BK509 := Aside0.mk (blk_drew BK509.out)
        replace HB := Aside0.mk (below_drew1 HB.out)
        obtain ⟨Ao35, co35, eo35⟩ := Kd.R_slice HO512.out
        (first | subst eo35 | (injection eo35 with f1_ f2_ f3_; have f4_ := f1_.symm; have f5_ := f3_.symm; clear f1_ f2_ f3_; subst f4_; subst f5_))
        refine start_ (n := 13) (S := fun w' => w'.cell? ⟨gb507, 0, none⟩ = some (.int .i64 a1) ∧ w'.cell? ⟨gb507, 1, none⟩ = some (.int .i64 a2) ∧ w'.cell? ⟨gb507, 2, none⟩ = some (.int .i64 a5) ∧ w'.cell? ⟨gb507, 3, none⟩ = some (u508003) ∧ w'.cell? ⟨gb509, 0, none⟩ = some (.int .i64 ((rd_T43 t503 x46_2).f0)) ∧ w'.cell? ⟨gb509, 1, none⟩ = some (.int .i64 ((rd_T43 t503 x46_2).f1))) (ds := [12]) #[false, false, false, false, false, false, false, false, false, false, false, false, false] (by kernel_rfl) rfl rfl ⟨bc0 BK507, bc1 BK507, bc2 BK507, bc3 BK507, bc0 BK509, bc1 BK509⟩ (fun hHeld => ?_); refine with_tabW impl_BuildProgram.tab11 impl_BuildProgram.bits11 (fun HT_ HW_ => ?_)
        generalize w33.drew = w34 at hN_ NEW1_ OLD_ HO_44 HO_508003 HO512 BK500 BK507 BK509 HB hHeld ⊢
        refine put 0 54 #[true, false, false, false, false, false, false, false, false, false, false, false, false] HT_ ?_
        refine put 3 57 #[true, false, false, true, false, false, false, false, false, false, false, false, false] HT_ ?_
        refine put 4 58 #[true, false, false, true, true, false, false, false, false, false, false, false, false] HT_ ?_
        refine put 5 59 #[true, false, false, true, true, true, false, false, false, false, false, false, false] HT_ ?_
        refine put 6 60 #[true, false, false, true, true, true, true, false, false, false, false, false, false] HT_ ?_
        refine tat6 1 55 #[true, true, false, true, true, true, true, false, false, false, false, false, false] HT_ HW_ hHeld ?_
        refine tat6 2 56 #[true, true, true, true, true, true, true, false, false, false, false, false, false] HT_ HW_ hHeld ?_
        refine one_ (i := 7) (N := some 61) #[true, true, true, true, true, true, true, true, false, false, false, false, false] rfl rfl (one_of HT_.out (by kernel_rfl)) (by decide) (fun K hK => ?_)
        refine goes_ Try.func25 (by kernel_rfl) rfl #[.slice Ao35 t510.length co35, .int .i64 a1, .int .i64 a2] (by rfl) rfl rfl sl ?_
        with_reducible refine (impl_tablesOf.calls k2 _ _ t510 a1 a2 t513 _ ?side1 ?side2 A27.out).mono ?_
        (case side1 => exact cr HO512)
        (case side2 => exact (Kd.R_reads' HO512.out).2.1)
        rintro e w36 ⟨v514, rfl, ho0, hb⟩
        refine ⟨_, rfl, ?_⟩
        replace HO_44 := rb HO_44 hb
        have NEW2_ := Fr.nextS ho0 hN_.out (below_size (sbw))
        replace NEW1_ := rb NEW1_ hb
        replace OLD_ := Aside0.mk (Kd.S_below (ss OLD_) hb)
        replace HO_508003 := Aside0.mk (Kd.S_elder' (ss HO_508003) (Kd.S_base ho0) hb)
        replace HO512 := rb HO512 hb
        have HO515 := Aside0.mk (Kd.S_lower ho0 (below_size (sbw)))
        replace BK500 := bb BK500 hb
        replace BK507 := bb BK507 hb
        replace BK509 := bb BK509 hb
        replace HB := bsw hb
        (try clear hb)
        (try clear hb2)
        (try clear hk)
        (try clear hi)
        (try clear ho0)
        obtain ⟨Ao37, co37, eo37⟩ := Kd.S_slice HO515.out
        (first | subst eo37 | (injection eo37 with f1_ f2_ f3_; have f4_ := f1_.symm; have f5_ := f3_.symm; clear f1_ f2_ f3_; subst f4_; subst f5_))
        refine hK.out _ _ ⟨bc0 BK507, bc1 BK507, bc2 BK507, bc3 BK507, bc0 BK509, bc1 BK509⟩ (fun hHeld => ?_)
        clear hK K
        refine norm_ (a' := ?_) ?_ ?_
        rotate_left
        ·show Act.put _ (some 61) _ = _
         simp only [Act.put, List.setIfInBounds_toArray, List.set_cons_zero, List.set_cons_succ, i64_w, i32_w]
         rfl
        refine put 8 62 #[true, true, true, true, true, true, true, true, true, false, false, false, false] HT_ ?_
        refine one_ (i := 9) (N := some 63) #[true, true, true, true, true, true, true, true, true, true, false, false, false] rfl rfl (one_of HT_.out (by kernel_rfl)) (by decide) (fun K hK => ?_)
        refine value_ (w1 := ?_) (v := ?_) (by rfl) rfl ?_ ?_
        rotate_left 2
        ·go_simp
         constructor
         ·rfl
         ·rfl
        refine hK.out _ _ ⟨(blk_cell (blk_alloc BK507.out _) 0).trans rfl, (blk_cell (blk_alloc BK507.out _) 1).trans rfl, (blk_cell (blk_alloc BK507.out _) 2).trans rfl, (blk_cell (blk_alloc BK507.out _) 3).trans rfl, (blk_cell (blk_alloc BK509.out _) 0).trans rfl, (blk_cell (blk_alloc BK509.out _) 1).trans rfl⟩ (fun hHeld => ?_)
        clear hK K
        refine norm_ (a' := ?_) ?_ ?_
        rotate_left
        ·show Act.put _ (some 63) _ = _
         simp only [Act.put, List.setIfInBounds_toArray, List.set_cons_zero, List.set_cons_succ, i64_w, i32_w]
         rfl
        refine one_ (i := 10) (N := some 64) #[true, true, true, true, true, true, true, true, true, true, true, false, false] rfl rfl (one_of HT_.out (by kernel_rfl)) (by decide) (fun K hK => ?_)
        refine Kd.S_append_step k47 (w0 := w) w.heap.size (by rfl) (.tmp 55) (.tmp 63) 24 47 (.agg #[(.int .i64 0), (.int .i64 0), (.slice none 0 0), (.slice none 0 0)]) 64 rfl Try.underlying24 info47 rfl (by decide) (by omega) u508003 x508003_2 (⟨(⟨(rd_T43 t503 x46_2).f0, (rd_T43 t503 x46_2).f1⟩ : S43), t510, t513⟩ : S47) [.int .i64 ((rd_T43 t503 x46_2).f0), .int .i64 ((rd_T43 t503 x46_2).f1), .slice Ao35 t510.length co35, .slice Ao37 t513.length co37] (fun _ => True) (fun k_ => N_ ≤ k_) rfl rfl ?aP (fun k_ hk_ => ⟨trivial, Fr.away OLD_ hk_⟩) ?aF ?aO ?aB ?aS ?aL ?_
        (case aP => exact k47_mkM _ _ _ (⟨(⟨(rd_T43 t503 x46_2).f0, (rd_T43 t503 x46_2).f1⟩ : S43), t510, t513⟩ : S47) NEW1_.out NEW2_.out)
        (case aB => exact (sbw))
        (case aF => exact (fun _ _ => trivial))
        (case aO => exact (by (with_reducible repeat (first | apply Kd.S_alloc | apply Kd.S_drewN | apply Kd.S_drew)); exact Kd.S_mono OLD_.out (fun k_ hk => ⟨trivial, fun h_ => by have := hk.2; omega⟩)))
        (case aS => exact (below_size (sbw)))
        (case aL => have := LMc28.out; omega)
        intro v517 w38 ho hb hg hat
        rw [← Ny516.out] at ho
        replace HO_44 := Aside0.mk (Kd.R_over' (sr HO_44) (Kd.S_typed (ss HO_508003)) (by decide) hg)
        replace BK500 := Aside0.mk (blk_grown (g := gb500) (o := .cells #[.int .i64 0, .int .i64 0, .int .i64 0, .slice none 0 0] 26 (0, 0)) (sk BK500) hg (Kd.S_ne HO_508003.out BK500.out (by decide)))
        replace BK507 := Aside0.mk (blk_grown (g := gb507) (o := .cells #[.int .i64 a1, .int .i64 a2, .int .i64 a5, u508003] 26 (0, 0)) (sk BK507) hg (Kd.S_ne HO_508003.out BK507.out (by decide)))
        replace BK509 := Aside0.mk (blk_grown (g := gb509) (o := .cells #[.int .i64 ((rd_T43 t503 x46_2).f0), .int .i64 ((rd_T43 t503 x46_2).f1)] 43 (0, 0)) (sk BK509) hg (Kd.S_ne HO_508003.out BK509.out (by decide)))
        replace HB := Aside0.mk hb
        have HO518 := Aside0.mk ho
        clear HO_508003 HO512 HO515 ho hb hg hat
        obtain ⟨Ao39, co39, eo39⟩ := Kd.S_slice HO518.out
        (first | subst eo39 | (injection eo39 with f1_ f2_ f3_; have f4_ := f1_.symm; have f5_ := f3_.symm; clear f1_ f2_ f3_; subst f4_; subst f5_))
        refine hK.out _ _ ⟨bc0 BK507, bc1 BK507, bc2 BK507, bc3 BK507, bc0 BK509, bc1 BK509⟩ (fun hHeld => ?_)
        clear hK K
        refine norm_ (a' := ?_) ?_ ?_
        rotate_left
        ·show Act.put _ (some 64) _ = _
         simp only [Act.put, List.setIfInBounds_toArray, List.set_cons_zero, List.set_cons_succ, i64_w, i32_w]
         rfl
        refine put 11 65 #[true, true, true, true, true, true, true, true, true, true, true, true, false] HT_ ?_
        refine last_ (i := 12) (N := none) #[true, true, true, true, true, true, true, true, true, true, true, true, true] rfl rfl (one_of HT_.out (by kernel_rfl)) (by decide) (fun K hK => ?_)
        have hs40 := bc3 BK507
        have hfs40 := bf BK507 3
        have hns40_0 := NB500_507.out
        have hns40_2 := NB509_507.out
        have hms40_0 := NB507_500.out
        have hms40_2 := NB507_509.out
        refine skip_ (w1 := ?_) (by rfl) rfl ?_ ?_
        rotate_left
        ·go_simp
         rfl
        refine hK.out _ _ ?_
        clear hK K
        refine done_ (done_of HT_.out (by kernel_rfl)) ?_
        try go_wp2
        go_roundg k2
        case measure => have := HJ6.out; have := HK2.out; omega
        case rel => exact ⟨(wrap64 (x46_2 + 1)), (y516), (.slice Ao39 y516.length co39), sc, H', ⟨by have := HJ6.out; have := HK2.out; omega⟩, ⟨by (with_reducible repeat (first | apply Kd.R_alloc | apply Kd.R_drewN | apply Kd.R_drew)); exact Kd.R_mono (Kd.R_far (p := ⟨gb507, 3, none⟩) (Kd.R_types HO_44.out BK507.out (by decide)) (fun _ hk => hk.2) (.slice Ao39 y516.length co39)) (fun _ hk => trivial)⟩, ⟨by (with_reducible repeat (first | apply Kd.S_alloc | apply Kd.S_drewN | apply Kd.S_drew)); exact Kd.S_mono (Kd.S_far (p := ⟨gb507, 3, none⟩) (Kd.S_types HO518.out BK507.out (by decide)) (fun _ hk => hk.2) (.slice Ao39 y516.length co39)) (fun _ hk => trivial)⟩, ⟨sp BK500⟩, ⟨sp BK507⟩, ⟨sbw⟩⟩
       ·have c23b0 := decide_eq_false c23
        clear c23
        simp only [Option.some.injEq, Prod.mk.injEq] at H
        obtain ⟨rfl, rfl, rfl, rfl, rfl⟩ := H
        have hnb41 := NB507_500.out
        have hnc41 := NB500_507.out
        obtain ⟨hcz42_0, hcz42_1, hcz42_2, hcz42_3, hfz42_0, hfz42_1, hfz42_2, hfz42_3⟩ := cc4 BK507
        obtain ⟨hcz43_0, hcz43_1, hcz43_2, hcz43_3, hfz43_0, hfz43_1, hfz43_2, hfz43_3⟩ := cc4 BK500
        obtain ⟨Ao44, co44, eo44⟩ := Kd.S_slice HO_508003.out
        subst eo44
        go_wp2
        refine bodyPost_ret (results_ct rfl _ _ gb500 26 #[.int .i64 a1, .int .i64 a2, .int .i64 a5, .slice Ao44 x508003_2.length co44] (0, 0) _ rfl (sp BK500) Try.underlying26 rfl (by kernel_rfl)) rfl ?_
        exact ⟨_, se, by (with_reducible repeat (first | apply Kd.S_alloc | apply Kd.S_drewN | apply Kd.S_drew)); exact Kd.S_mono (Kd.S_far (p := ⟨gb500, 3, none⟩) (Kd.S_far (p := ⟨gb500, 2, none⟩) (Kd.S_far (p := ⟨gb500, 1, none⟩) (Kd.S_far (p := ⟨gb500, 0, none⟩) (Kd.S_types HO_508003.out BK500.out (by decide)) (fun _ hk => hk.2) (.int .i64 a1)) (fun _ hk => hk.2) (.int .i64 a2)) (fun _ hk => hk.2) (.int .i64 a5)) (fun _ hk => hk.2) (.slice Ao44 x508003_2.length co44)) (fun _ hk => trivial), sbw⟩
    ·replace H := im H
     simp only [Option.some.injEq, Prod.mk.injEq] at H
     obtain ⟨rfl, rfl, rfl, rfl, rfl⟩ := H
     go_wp2_with (first | ((with_reducible refine gate_callee (f := 22) rfl ?_); refine gL (some 34) Try.func22 #[.slice A0 l0.length c0, .int .i64 a3, .int .i64 a4] ?_; (with_reducible refine (impl_PiecesOf.calls kj6 _ _ l0 a3 a4 t503 _ ?side1 ?side2 A15.out).mono ?_); (case side1 => exact cb HR0); (case side2 => exact HC0.out); rintro e w45 ⟨v504, rfl, ho0, hb⟩; refine ⟨_, rfl, ?_⟩; have HO505 := Aside0.mk (Kd.R_lower ho0 (below_size (sbw))); replace BK500 := bb BK500 hb; replace HB := bsw hb; (try clear hb); (try clear hb2); (try clear hk); (try clear hi); (try clear ho0); obtain ⟨Ao46, co46, eo46⟩ := Kd.R_slice HO505.out; subst eo46) | ((with_reducible refine gate_callee (f := 23) rfl ?_); refine gL (some 37) Try.func23 #[.int .i64 (t503.length : Int), .int .i64 1, .int .i64 40] ?_; (with_reducible refine (impl_InRange.calls (t503.length : Int) 1 40 false _ A16.out).mono ?_); rintro e w' ⟨rfl, ⟨nd, rfl⟩⟩; refine ⟨_, rfl, ?_⟩; obtain ⟨hcz47_0, hcz47_1, hcz47_2, hcz47_3, hfz47_0, hfz47_1, hfz47_2, hfz47_3⟩ := cc4 BK500))
     refine bodyPost_ret (results_ct rfl _ _ gb500 26 #[.int .i64 0, .int .i64 0, .int .i64 0, .slice none 0 0] (0, 0) _ rfl (sp BK500) Try.underlying26 rfl (by kernel_rfl)) rfl ?_
     exact ⟨_, se, by first | exact Kd.S_nil _ _ _ _ _ | exact Kd.N_nil _ _ _ _ _ | exact Kd.V_nil _ _ _ _ _ | exact Kd.Q_nil _ _ _ _ _ | exact Kd.R_nil _ _ _ _ _, sbw⟩

/-! ### laws_eqSpan: function 61 -/
def laws_eqSpan.f (a0_0 : Int) (a0_1 : Int) (a1_0 : Int) (a1_1 : Int) : Option (Bool) := if a0_0 = a1_0 then (if a0_1 = a1_1 then (some true) else (some false)) else (some false)
set_option maxHeartbeats 8000000 in
set_option maxRecDepth 100000 in
theorem laws_eqSpan.calls (a0_0 : Int) (a0_1 : Int) (a1_0 : Int) (a1_1 : Int) (r : Bool) (w : World) (h : laws_eqSpan.f a0_0 a0_1 a1_0 a1_1 = some r) :
    Calls Try.prog 61 #[.agg #[.int .i64 a0_0, .int .i64 a0_1], .agg #[.int .i64 a1_0, .int .i64 a1_1]] w fun e w' => e = .returned (.bool r) ∧ Below w.heap.size w w' := by
 have hu43 := Try.underlying43
 have HB := Aside0.mk (Below.refl w.heap.size w)
 have H : (if a0_0 = a1_0 then (if a0_1 = a1_1 then (some true) else (some false)) else (some false)) = some r := h
 clear h
 obtain ⟨c3, H⟩ | ⟨c3, H⟩ := ie_ H
 ·have c3b0 : (a0_0 == a1_0) = true := beq_iff_eq.mpr c3
  have c3b1 : (a0_0 != a1_0) = false := bne_eq_false_iff_eq.mpr c3
  clear c3
  obtain ⟨c4, H⟩ | ⟨c4, H⟩ := ie_ H
  ·have c4b0 : (a0_1 == a1_1) = true := beq_iff_eq.mpr c4
   have c4b1 : (a0_1 != a1_1) = false := bne_eq_false_iff_eq.mpr c4
   clear c4
   obtain rfl := Option.some.inj H
   go_enter Try.func61, Try.ntmps61
   go_wp2_with (first | ((with_reducible refine gate_dst (N := 2) rfl ?_); refine bx 2 #[.int .i64 a0_0, .int .i64 a0_1] 43 ?_; intro gb519 hg w5 hbox hb; have GW519 := bz w hg; have GE519 := bz w hg; replace HB := bs hb; have BK519 := Aside0.mk hbox; clear hb hbox hg) | ((with_reducible refine gate_dst (N := 3) rfl ?_); refine bx 3 #[.int .i64 a1_0, .int .i64 a1_1] 43 ?_; intro gb520 hg w6 hbox hb; have GW520 := bzw w hg; have GE520 := bzw w hg; replace HB := bsw hb; have BK520 := Aside0.mk hbox; have NB519_520 := nl BK519 hg; have NB520_519 := ng BK519 hg; replace BK519 := bb BK519 hb; clear hb hbox hg; have hnb7 := NB519_520.out; have hnc7 := NB520_519.out; obtain ⟨hcz8_0, hcz8_1, hfz8_0, hfz8_1⟩ := cc2 BK519; obtain ⟨hcz9_0, hcz9_1, hfz9_0, hfz9_1⟩ := cc2 BK520))
   go_ret
   exact ⟨se, sbw⟩
  ·have c4b0 : (a0_1 == a1_1) = false := beq_eq_false_iff_ne.mpr c4
   have c4b1 : (a0_1 != a1_1) = true := bne_iff_ne.mpr c4
   obtain rfl := Option.some.inj H
   go_enter Try.func61, Try.ntmps61
   go_wp2_with (first | ((with_reducible refine gate_dst (N := 2) rfl ?_); refine bx 2 #[.int .i64 a0_0, .int .i64 a0_1] 43 ?_; intro gb519 hg w10 hbox hb; have GW519 := bz w hg; have GE519 := bz w hg; replace HB := bs hb; have BK519 := Aside0.mk hbox; clear hb hbox hg) | ((with_reducible refine gate_dst (N := 3) rfl ?_); refine bx 3 #[.int .i64 a1_0, .int .i64 a1_1] 43 ?_; intro gb520 hg w11 hbox hb; have GW520 := bzw w hg; have GE520 := bzw w hg; replace HB := bsw hb; have BK520 := Aside0.mk hbox; have NB519_520 := nl BK519 hg; have NB520_519 := ng BK519 hg; replace BK519 := bb BK519 hb; clear hb hbox hg; have hnb12 := NB519_520.out; have hnc12 := NB520_519.out; obtain ⟨hcz13_0, hcz13_1, hfz13_0, hfz13_1⟩ := cc2 BK519; obtain ⟨hcz14_0, hcz14_1, hfz14_0, hfz14_1⟩ := cc2 BK520))
   go_ret
   exact ⟨se, sbw⟩
 ·have c3b0 : (a0_0 == a1_0) = false := beq_eq_false_iff_ne.mpr c3
  have c3b1 : (a0_0 != a1_0) = true := bne_iff_ne.mpr c3
  obtain rfl := Option.some.inj H
  go_enter Try.func61, Try.ntmps61
  go_wp2_with (first | ((with_reducible refine gate_dst (N := 2) rfl ?_); refine bx 2 #[.int .i64 a0_0, .int .i64 a0_1] 43 ?_; intro gb519 hg w15 hbox hb; have GW519 := bz w hg; have GE519 := bz w hg; replace HB := bs hb; have BK519 := Aside0.mk hbox; clear hb hbox hg) | ((with_reducible refine gate_dst (N := 3) rfl ?_); refine bx 3 #[.int .i64 a1_0, .int .i64 a1_1] 43 ?_; intro gb520 hg w16 hbox hb; have GW520 := bzw w hg; have GE520 := bzw w hg; replace HB := bsw hb; have BK520 := Aside0.mk hbox; have NB519_520 := nl BK519 hg; have NB520_519 := ng BK519 hg; replace BK519 := bb BK519 hb; clear hb hbox hg; have hnb17 := NB519_520.out; have hnc17 := NB520_519.out; obtain ⟨hcz18_0, hcz18_1, hfz18_0, hfz18_1⟩ := cc2 BK519; obtain ⟨hcz19_0, hcz19_1, hfz19_0, hfz19_1⟩ := cc2 BK520))
  go_ret
  exact ⟨se, sbw⟩

/-! ### laws_eqLink: function 71 -/
def laws_eqLink.f (a0_0 : Int) (a0_1 : Int) (a1_0 : Int) (a1_1 : Int) : Option (Bool) := if a0_0 = a1_0 then (if a0_1 = a1_1 then (some true) else (some false)) else (some false)
set_option maxHeartbeats 8000000 in
set_option maxRecDepth 100000 in
theorem laws_eqLink.calls (a0_0 : Int) (a0_1 : Int) (a1_0 : Int) (a1_1 : Int) (r : Bool) (w : World) (h : laws_eqLink.f a0_0 a0_1 a1_0 a1_1 = some r) :
    Calls Try.prog 71 #[.agg #[.int .i64 a0_0, .int .i64 a0_1], .agg #[.int .i64 a1_0, .int .i64 a1_1]] w fun e w' => e = .returned (.bool r) ∧ Below w.heap.size w w' := by
 have hu60 := Try.underlying60
 have HB := Aside0.mk (Below.refl w.heap.size w)
 have H : (if a0_0 = a1_0 then (if a0_1 = a1_1 then (some true) else (some false)) else (some false)) = some r := h
 clear h
 obtain ⟨c3, H⟩ | ⟨c3, H⟩ := ie_ H
 ·have c3b0 : (a0_0 == a1_0) = true := beq_iff_eq.mpr c3
  have c3b1 : (a0_0 != a1_0) = false := bne_eq_false_iff_eq.mpr c3
  clear c3
  obtain ⟨c4, H⟩ | ⟨c4, H⟩ := ie_ H
  ·have c4b0 : (a0_1 == a1_1) = true := beq_iff_eq.mpr c4
   have c4b1 : (a0_1 != a1_1) = false := bne_eq_false_iff_eq.mpr c4
   clear c4
   obtain rfl := Option.some.inj H
   go_enter Try.func71, Try.ntmps71
   go_wp2_with (first | ((with_reducible refine gate_dst (N := 2) rfl ?_); refine bx 2 #[.int .i64 a0_0, .int .i64 a0_1] 60 ?_; intro gb521 hg w5 hbox hb; have GW521 := bz w hg; have GE521 := bz w hg; replace HB := bs hb; have BK521 := Aside0.mk hbox; clear hb hbox hg) | ((with_reducible refine gate_dst (N := 3) rfl ?_); refine bx 3 #[.int .i64 a1_0, .int .i64 a1_1] 60 ?_; intro gb522 hg w6 hbox hb; have GW522 := bzw w hg; have GE522 := bzw w hg; replace HB := bsw hb; have BK522 := Aside0.mk hbox; have NB521_522 := nl BK521 hg; have NB522_521 := ng BK521 hg; replace BK521 := bb BK521 hb; clear hb hbox hg; have hnb7 := NB521_522.out; have hnc7 := NB522_521.out; obtain ⟨hcz8_0, hcz8_1, hfz8_0, hfz8_1⟩ := cc2 BK521; obtain ⟨hcz9_0, hcz9_1, hfz9_0, hfz9_1⟩ := cc2 BK522))
   go_ret
   exact ⟨se, sbw⟩
  ·have c4b0 : (a0_1 == a1_1) = false := beq_eq_false_iff_ne.mpr c4
   have c4b1 : (a0_1 != a1_1) = true := bne_iff_ne.mpr c4
   obtain rfl := Option.some.inj H
   go_enter Try.func71, Try.ntmps71
   go_wp2_with (first | ((with_reducible refine gate_dst (N := 2) rfl ?_); refine bx 2 #[.int .i64 a0_0, .int .i64 a0_1] 60 ?_; intro gb521 hg w10 hbox hb; have GW521 := bz w hg; have GE521 := bz w hg; replace HB := bs hb; have BK521 := Aside0.mk hbox; clear hb hbox hg) | ((with_reducible refine gate_dst (N := 3) rfl ?_); refine bx 3 #[.int .i64 a1_0, .int .i64 a1_1] 60 ?_; intro gb522 hg w11 hbox hb; have GW522 := bzw w hg; have GE522 := bzw w hg; replace HB := bsw hb; have BK522 := Aside0.mk hbox; have NB521_522 := nl BK521 hg; have NB522_521 := ng BK521 hg; replace BK521 := bb BK521 hb; clear hb hbox hg; have hnb12 := NB521_522.out; have hnc12 := NB522_521.out; obtain ⟨hcz13_0, hcz13_1, hfz13_0, hfz13_1⟩ := cc2 BK521; obtain ⟨hcz14_0, hcz14_1, hfz14_0, hfz14_1⟩ := cc2 BK522))
   go_ret
   exact ⟨se, sbw⟩
 ·have c3b0 : (a0_0 == a1_0) = false := beq_eq_false_iff_ne.mpr c3
  have c3b1 : (a0_0 != a1_0) = true := bne_iff_ne.mpr c3
  obtain rfl := Option.some.inj H
  go_enter Try.func71, Try.ntmps71
  go_wp2_with (first | ((with_reducible refine gate_dst (N := 2) rfl ?_); refine bx 2 #[.int .i64 a0_0, .int .i64 a0_1] 60 ?_; intro gb521 hg w15 hbox hb; have GW521 := bz w hg; have GE521 := bz w hg; replace HB := bs hb; have BK521 := Aside0.mk hbox; clear hb hbox hg) | ((with_reducible refine gate_dst (N := 3) rfl ?_); refine bx 3 #[.int .i64 a1_0, .int .i64 a1_1] 60 ?_; intro gb522 hg w16 hbox hb; have GW522 := bzw w hg; have GE522 := bzw w hg; replace HB := bsw hb; have BK522 := Aside0.mk hbox; have NB521_522 := nl BK521 hg; have NB522_521 := ng BK521 hg; replace BK521 := bb BK521 hb; clear hb hbox hg; have hnb17 := NB521_522.out; have hnc17 := NB522_521.out; obtain ⟨hcz18_0, hcz18_1, hfz18_0, hfz18_1⟩ := cc2 BK521; obtain ⟨hcz19_0, hcz19_1, hfz19_0, hfz19_1⟩ := cc2 BK522))
  go_ret
  exact ⟨se, sbw⟩

end Go.Proofs.Ytcjlbgbenjmkgaa.QFnExactBuildProgram
