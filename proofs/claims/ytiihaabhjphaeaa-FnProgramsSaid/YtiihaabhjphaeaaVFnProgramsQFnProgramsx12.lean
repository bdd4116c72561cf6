/- Printed by a program of the session. Conditions: none. (squeezed). -/
import Derived.Test.YtiihaabhjphaeaaVFnProgramsFr
import Derived.Test.YtiihaabhjphaeaaVFnProgramsQFnProgramsx5
import Derived.Test.YtiihaabhjphaeaaVFnProgramsQFnProgramsx10
import Derived.Test.YtiihaabhjphaeaaVFnProgramsQFnProgramsx11
namespace Go.Proofs.Ytiihaabhjphaeaa.QFnPrograms
set_option maxHeartbeats 8000000
set_option maxRecDepth 100000
open Go.RowKit Go.Proofs.YtiihaabhjphaeaaW.PrintWords Go.Proofs.YtiihaabhjphaeaaW.PrintLast Go.Proofs.YtiihaabhjphaeaaW.PrintMore Go.Proofs.Ytiihaabhjphaeaa.Open Go.Proofs.Ytiihaabhjphaeaa.Sq Go.Proofs.Ytiihaabhjphaeaa
attribute [local go_sem] max2_int min2_int max_two min_two max_three min_three max_four min_four   -- for this text's walks alone
attribute [local go_sem] isSome_set
set_option linter.unusedVariables false
set_option linter.unusedSimpArgs false

mutual
def impl_BuildProgram.j0 : Nat → List (S137) → Int → Int → Int → Int → Int → Bool → Option (Int × Int × Int × (List (S105)) × Bool)
  | 0, _, _, _, _, _, _, _ => none
  | k + 1, x0, x1, x2, x3, x4, x5, x29 => if x29 = true then (some (0, 0, 0, ([] : List (S105)), false)) else ((impl_PiecesOf.f k x0 x3 x4).bind fun t442 => ((impl_InRange.f (t442.length : Int) 1 40).bind fun t445 => (if t445 = true then (impl_BuildProgram.l0 k x0 x1 x2 t442 (t442.length : Int) 0 x1 x2 x5 ([] : List (S105))) else (some (0, 0, 0, ([] : List (S105)), false)))))
def impl_BuildProgram.l0 : Nat → List (S137) → Int → Int → List (S102) → Int → Int → Int → Int → Int → List (S105) → Option (Int × Int × Int × (List (S105)) × Bool)
  | 0, _, _, _, _, _, _, _, _, _, _ => none
  | k + 1, x0, x1, x2, x44, x45, x46, x447000, x447001, x447002, x447003 => if x46 < x45 then (if 0 ≤ x46 then (if x46 < (x44.length : Int) then ((impl_LinksAt.f k x0 ((rd_T102 x44 x46).f0)).bind fun t449 => ((impl_tablesOf.f k t449 x1 x2).bind fun t452 => (if x447003.length < 2199023255552 then (impl_BuildProgram.l0 k x0 x1 x2 x44 x45 (wrap64 (x46 + 1)) x447000 x447001 x447002 (x447003 ++ [(⟨(⟨(rd_T102 x44 x46).f0, (rd_T102 x44 x46).f1⟩ : S102), t449, t452⟩ : S105)])) else (none)))) else (none)) else (none)) else (some (x447000, x447001, x447002, x447003, true))
end
def impl_BuildProgram.f (k : Nat) (l0 : List (S137)) (a1 : Int) (a2 : Int) (a3 : Int) (a4 : Int) (a5 : Int) : Option (Int × Int × Int × (List (S105)) × Bool) := (impl_isFrame.f a1 a2 a5).bind fun t440 => (if t440 = true then ((impl_IsPlan.f k l0 a1).bind fun t441 => (impl_BuildProgram.j0 k l0 a1 a2 a3 a4 a5 (!t441))) else (impl_BuildProgram.j0 k l0 a1 a2 a3 a4 a5 true))
theorem impl_BuildProgram.mono_l : ∀ k, (∀ y0 y1 y2 y3 y4 y5 y6, LeO (impl_BuildProgram.j0 k y0 y1 y2 y3 y4 y5 y6) (impl_BuildProgram.j0 (k + 1) y0 y1 y2 y3 y4 y5 y6)) ∧ (∀ y0 y1 y2 y3 y4 y5 y6 y7 y8 y9, LeO (impl_BuildProgram.l0 k y0 y1 y2 y3 y4 y5 y6 y7 y8 y9) (impl_BuildProgram.l0 (k + 1) y0 y1 y2 y3 y4 y5 y6 y7 y8 y9))
  | 0 => ⟨fun _ _ _ _ _ _ _ r h => by simp [impl_BuildProgram.j0] at h, fun _ _ _ _ _ _ _ _ _ _ r h => by simp [impl_BuildProgram.l0] at h⟩
  | k + 1 => by
    obtain ⟨ih0, ih1⟩ := impl_BuildProgram.mono_l k
    refine ⟨?_, ?_⟩
    · intro y0 y1 y2 y3 y4 y5 y6
      unfold impl_BuildProgram.j0
      have m0 := @impl_IsPlan.mono
      have m1 := @impl_LinksAt.mono
      have m2 := @impl_PiecesOf.mono
      have m3 := @impl_tablesOf.mono
      exact mo
    · intro y0 y1 y2 y3 y4 y5 y6 y7 y8 y9
      unfold impl_BuildProgram.l0
      have m0 := @impl_IsPlan.mono
      have m1 := @impl_LinksAt.mono
      have m2 := @impl_PiecesOf.mono
      have m3 := @impl_tablesOf.mono
      exact mo
theorem impl_BuildProgram.mono : ∀ a0 a1 a2 a3 a4 a5 k, LeO (impl_BuildProgram.f k a0 a1 a2 a3 a4 a5) (impl_BuildProgram.f (k + 1) a0 a1 a2 a3 a4 a5) := by
  intro a0 a1 a2 a3 a4 a5 k
  obtain ⟨ih0, ih1⟩ := impl_BuildProgram.mono_l k
  unfold impl_BuildProgram.f
  have m0 := @impl_IsPlan.mono
  have m1 := @impl_LinksAt.mono
  have m2 := @impl_PiecesOf.mono
  have m3 := @impl_tablesOf.mono
  exact mo
def impl_BuildProgram.T11 : Bool × List (List Nat × List Nat) := (true, [([], []), ([0], [0]), ([], []), ([], []), ([], []), ([], []), ([], []), ([4, 5, 6], [4, 5, 6]), ([2, 3, 7], [2, 3, 7]), ([8], [8]), ([1, 9, 7], [1, 9]), ([0, 1, 2, 3, 4, 5, 6, 7, 8, 9, 10], []), ([11, 10, 10, 0, 1, 2, 3, 4, 5, 6, 7, 8, 9, 10], [10, 11])])
def impl_BuildProgram.B11 : List Nat := [0, 1, 0, 0, 0, 0, 0, 112, 252, 508, 1023, 2047, 4095]
theorem impl_BuildProgram.tab11 : rtab .any (opsOf Try.f45 11) = impl_BuildProgram.T11 := by kernel_rfl
theorem impl_BuildProgram.bits11 : waitsOk impl_BuildProgram.T11.2 impl_BuildProgram.B11 = true := by kernel_rfl
theorem impl_BuildProgram.calls (k : Nat) (A0 : Option Addr) (c0 : Nat) (l0 : List (S137)) (a1 : Int) (a2 : Int) (a3 : Int) (a4 : Int) (a5 : Int) (r1 : Int) (r2 : Int) (r3 : Int) (r4 : List (S105)) (r5 : Bool) (w : World) (hr0 : Kd.C k137 w A0 l0.length l0) (hc0 : l0.length ≤ c0) (h : impl_BuildProgram.f k l0 a1 a2 a3 a4 a5 = some (r1, r2, r3, r4, r5)) :
    Calls Try.prog 45 #[.slice A0 l0.length c0, .int .i64 a1, .int .i64 a2, .int .i64 a3, .int .i64 a4, .int .i64 a5] w fun e w' => ∃ v3_ : Value, e = .returned (.tuple #[.agg #[.int .i64 r1, .int .i64 r2, .int .i64 r3, v3_], .bool r5]) ∧ Kd.S k105 105 w' w.heap.size (fun _ => True) v3_ r4 ∧ Below w.heap.size w w' := by
 have hu31 := Try.underlying31
 have hu102 := Try.underlying102
 have hu105 := Try.underlying105
 have HR0 := am hr0
 have HC0 := am hc0
 clear hr0 hc0
 have HB := am (Below.refl w.heap.size w)
 have H := h; unfold impl_BuildProgram.f at H
 clear h
 have HC7 := am H
 clear H
 go_enter Try.func45, Try.ntmps45
 go_upto_region 1 with (first | ((with_reducible refine gd 12 rfl ?_); refine bx 12 #[.int .i64 0, .int .i64 0, .int .i64 0, .slice none 0 0] 31 ?_; intro gb439 hg w8 hbox hb; have GW439 := bz w hg; have GE439 := bz w hg; replace HB := bs hb; have BK439 := am hbox; clear hb hbox hg))
 (try simp only [Act.put, List.setIfInBounds_toArray, List.set_cons_zero, List.set_cons_succ])
 go_cut [29] (fun v29 wc => ∃ (kq : Nat) (x29_6 : Bool), v29 = .bool x29_6 ∧ Aside0 (impl_BuildProgram.j0 kq l0 a1 a2 a3 a4 a5 x29_6 = some (r1, r2, r3, r4, r5)) ∧ Aside0 (kq ≤ k) ∧ Aside0 (wc.heap[gb439]? = some (.cells #[.int .i64 0, .int .i64 0, .int .i64 0, (.slice none 0 0)] 31 (0, 0))) ∧ Aside0 (Below w.heap.size w wc))
 case first =>
  have H := HC7.out
  clear HC7
  obtain ⟨t440, A9, H⟩ := bnd H
  obtain rfl | rfl := tt t440
  ·replace H := ip H
   obtain ⟨t441, A11, H⟩ := bnd H
   have H' := am H
   clear H
   go_wp2_with (first | ((with_reducible refine gc 94 rfl ?_); refine gL (some 22) Try.func94 #[.int .i64 a1, .int .i64 a2, .int .i64 a5] ?_; (with_reducible refine (impl_isFrame.calls a1 a2 a5 true _ A9.out).mono ?_); rintro e w' ⟨rfl, ⟨nd, rfl⟩⟩; refine ⟨_, rfl, ?_⟩) | (go_at_call 110; (with_reducible refine (impl_IsPlan.calls k _ _ l0 a1 t441 _ ?side1 ?side2 A11.out).mono ?_); (case side1 => exact cbw HR0); (case side2 => exact HC0.out); rintro e w12 ⟨rfl, hb⟩; replace BK439 := bb BK439 hb; replace HB := bsw hb; (try clear hb)))
   go_meet
   case rel => exact ⟨_, (!t441), sc, H', ⟨by first | omega | exact Nat.le_refl _⟩, ⟨sk BK439⟩, ⟨sbw⟩⟩
  ·replace H := im H
   have H' := am H
   clear H
   go_wp2_with (first | ((with_reducible refine gc 94 rfl ?_); refine gL (some 22) Try.func94 #[.int .i64 a1, .int .i64 a2, .int .i64 a5] ?_; (with_reducible refine (impl_isFrame.calls a1 a2 a5 false _ A9.out).mono ?_); rintro e w' ⟨rfl, ⟨nd, rfl⟩⟩; refine ⟨_, rfl, ?_⟩))
   go_meet
   case rel => exact ⟨_, (true), sc, H', ⟨by first | omega | exact Nat.le_refl _⟩, ⟨sk BK439⟩, ⟨sbw⟩⟩
 case rest =>
  clear HC7
  obtain ⟨kq, x29_6, rfl, HA, HJ6, BK439, HB⟩ := hcut
  cases kq with
  | zero => exact absurd HA.out (by simp [impl_BuildProgram.j0])
  | succ kj6 =>
   have H := HA.out
   clear HA
   simp only [impl_BuildProgram.j0] at H
   obtain rfl | rfl := tt x29_6
   ·replace H := ip H
    simp only [Option.some.injEq, Prod.mk.injEq] at H
    obtain ⟨rfl, rfl, rfl, rfl, rfl⟩ := H
    obtain ⟨hcz14_0, hcz14_1, hcz14_2, hcz14_3, hfz14_0, hfz14_1, hfz14_2, hfz14_3⟩ := cc4 BK439
    go_wp2
    refine bodyPost_ret (results_ct rfl _ _ gb439 31 #[.int .i64 0, .int .i64 0, .int .i64 0, .slice none 0 0] (0, 0) _ rfl (sp BK439) Try.underlying31 rfl (by kernel_rfl)) rfl ?_
    exact ⟨_, se, by first | exact Kd.S_nil _ _ _ _ _ | exact Kd.N_nil _ _ _ _ _ | exact Kd.V_nil _ _ _ _ _ | exact Kd.Q_nil _ _ _ _ _ | exact Kd.R_nil _ _ _ _ _, sbw⟩
   ·replace H := im H
    obtain ⟨t442, A15, H⟩ := bnd H
    obtain ⟨t445, A16, H⟩ := bnd H
    obtain rfl | rfl := tt t445
    ·replace H := ip H
     have H' := am H
     clear H
     go_wp2_with (first | ((with_reducible refine gc 111 rfl ?_); refine gL (some 34) Try.func111 #[.slice A0 l0.length c0, .int .i64 a3, .int .i64 a4] ?_; (with_reducible refine (impl_PiecesOf.calls kj6 _ _ l0 a3 a4 t442 _ ?side1 ?side2 A15.out).mono ?_); (case side1 => exact cb HR0); (case side2 => exact HC0.out); rintro e w18 ⟨v443, rfl, ho0, hb⟩; refine ⟨_, rfl, ?_⟩; have HO444 := am (Kd.R_lower ho0 (below_size (sbw))); replace BK439 := bb BK439 hb; replace HB := bsw hb; (try clear hb); (try clear ho0); obtain ⟨Ao19, co19, eo19⟩ := Kd.R_slice HO444.out; subst eo19) | ((with_reducible refine gc 95 rfl ?_); refine gL (some 37) Try.func95 #[.int .i64 (t442.length : Int), .int .i64 1, .int .i64 40] ?_; (with_reducible refine (impl_InRange.calls (t442.length : Int) 1 40 true _ A16.out).mono ?_); rintro e w' ⟨rfl, ⟨nd, rfl⟩⟩; refine ⟨_, rfl, ?_⟩) | ((with_reducible refine gd 15 rfl ?_); refine bx 15 #[.int .i64 0, .int .i64 0, .int .i64 0, .slice none 0 0] 31 ?_; intro gb446 hg w20 hbox hb; replace HO444 := rb HO444 hb; have GW446 := bzw w hg; have GE446 := bzw w hg; replace HB := bsw hb; have BK446 := am hbox; have NB439_446 := nl BK439 hg; have NB446_439 := ng BK439 hg; replace BK439 := bb BK439 hb; clear hb hbox hg; have hnb21 := NB446_439.out; have hnc21 := NB439_446.out; obtain ⟨hcz22_0, hcz22_1, hcz22_2, hcz22_3, hfz22_0, hfz22_1, hfz22_2, hfz22_3⟩ := cc4 BK446))
     go_loopg [46] kj6 (fun kq v46 w' => ∃ (x46_2 : Int) (x447003_2 : List (S105)) (u447003 : Value), v46 = .int .i64 x46_2 ∧ Aside0 (impl_BuildProgram.l0 kq l0 a1 a2 t442 (t442.length : Int) x46_2 a1 a2 a5 x447003_2 = some (r1, r2, r3, r4, r5)) ∧ Aside0 (kq ≤ kj6) ∧ Aside0 (Kd.R k102 102 w' w.heap.size (fun _ => True) (.slice Ao19 t442.length co19) t442) ∧ Aside0 (Kd.S k105 105 w' w.heap.size (fun _ => True) u447003 x447003_2) ∧ Aside0 (w'.heap[gb439]? = some (.cells #[.int .i64 0, .int .i64 0, .int .i64 0, (.slice none 0 0)] 31 (0, 0))) ∧ Aside0 (w'.heap[gb446]? = some (.cells #[.int .i64 a1, .int .i64 a2, .int .i64 a5, u447003] 31 (0, 0))) ∧ Aside0 (Below w.heap.size w w'))
     case atStart => exact ⟨(0), (([] : List (S105))), (.slice none 0 0), sc, H', kk0, ⟨by (with_reducible repeat (first | apply Kd.R_alloc | apply Kd.R_drewN | apply Kd.R_drew)); exact Kd.R_mono (Kd.R_far (p := ⟨gb446, 3, none⟩) (h3 HO444 BK446) (fun _ hk => hk.2) (.slice none 0 0)) (fun _ hk => trivial)⟩, ⟨by first | exact Kd.S_nil _ _ _ _ _ | exact Kd.N_nil _ _ _ _ _ | exact Kd.V_nil _ _ _ _ _ | exact Kd.Q_nil _ _ _ _ _ | exact Kd.R_nil _ _ _ _ _⟩, ⟨sp BK439⟩, ⟨sp BK446⟩, ⟨sbw⟩⟩
     case round =>
      clear H'
      try clear hcz14_0
      try clear hcz14_1
      try clear hcz14_2
      try clear hcz14_3
      try clear hfz14_0
      try clear hfz14_1
      try clear hfz14_2
      try clear hfz14_3
      obtain ⟨x46_2, x447003_2, u447003, rfl, HA, HK2, HO_44, HO_447003, BK439, BK446, HB⟩ := hrel
      cases gk with
      | zero => exact absurd HA.out (by simp [impl_BuildProgram.l0])
      | succ k2 =>
       have H := HA.out
       clear HA
       simp only [impl_BuildProgram.l0] at H
       obtain ⟨c23, H⟩ | ⟨c23, H⟩ := ie_ H
       ·have c23b0 := decide_eq_true c23
        clear c23
        obtain ⟨c24b0, H⟩ := id_ H
        obtain ⟨c25b0, H⟩ := id_ H
        obtain ⟨t449, A26, H⟩ := bnd H
        obtain ⟨t452, A27, H⟩ := bnd H
        obtain ⟨LMc28, H⟩ := il_ H
        obtain ⟨y455, hy455⟩ : ∃ y_ : List (S105), y_ = (x447003_2 ++ [(⟨(⟨(rd_T102 t442 x46_2).f0, (rd_T102 t442 x46_2).f1⟩ : S102), t449, t452⟩ : S105)]) := ⟨_, rfl⟩
        replace H : (impl_BuildProgram.l0 k2 l0 a1 a2 t442 (t442.length : Int) (wrap64 (x46_2 + 1)) a1 a2 a5 y455) = some (r1, r2, r3, r4, r5) := ry hy455 H
        have Ny455 := am hy455
        clear hy455
        have H' := am H
        clear H
        have p447 : 0 ≤ (x46_2 : Int) := sa
        have q447 : x46_2 < (t442.length : Int) := sa
        obtain ⟨ad447, e447, hx447_0, hx447_1⟩ := at_T102 (Kd.R_reads' HO_44.out).2.2 x46_2 p447 q447
        cases e447
        replace p447 := eq_true p447
        replace q447 := eq_true q447
        try go_wp2_with (first | ((with_reducible refine gd 17 rfl ?_); refine bx 17 #[.int .i64 0, .int .i64 0] 102 ?_; intro gb448 hg w29 hbox hb; replace HO_44 := am (Kd.R_below (Kd.R_elderB (sr HO_44) gb448 (Nat.le_of_eq hg.symm)) hb); replace HO_447003 := am (Kd.S_below (ss HO_447003) hb); have GW448 := bzw w hg; have GE448 := bzw w hg; replace HB := bsw hb; have BK448 := am hbox; have NB439_448 := nl BK439 hg; have NB448_439 := ng BK439 hg; replace BK439 := bb BK439 hb; have NB446_448 := nl BK446 hg; have NB448_446 := ng BK446 hg; replace BK446 := bb BK446 hb; clear hb hbox hg; have hnb30 := NB448_439.out; have hnc30 := NB439_448.out; have hnb31 := NB448_446.out; have hnc31 := NB446_448.out; obtain ⟨hcz32_0, hcz32_1, hfz32_0, hfz32_1⟩ := cc2 BK448) | ((with_reducible refine gc 112 rfl ?_); refine gL (some 53) Try.func112 #[.slice A0 l0.length c0, .int .i64 ((rd_T102 t442 x46_2).f0)] ?_; (with_reducible refine (impl_LinksAt.calls k2 _ _ l0 ((rd_T102 t442 x46_2).f0) t449 _ ?side1 ?side2 A26.out).mono ?_); (case side1 => exact Kd.C_below HR0.out (sbw)); (case side2 => exact HC0.out); rintro e w33 ⟨v450, rfl, ho0, hb⟩; refine ⟨_, rfl, ?_⟩; replace HO_44 := am (Kd.R_below (by (with_reducible repeat (first | apply Kd.R_alloc | apply Kd.R_drewN | apply Kd.R_drew)); exact (Kd.R_mono (Kd.R_far (p := ⟨gb448, 1, none⟩) (Kd.R_far (p := ⟨gb448, 0, none⟩) (Kd.R_mono HO_44.out (fun k_ hk => (⟨hk, hk.2⟩ : _ ∧ k_ ≠ gb448))) (fun _ hk => hk.2) (.int .i64 ((rd_T102 t442 x46_2).f0))) (fun _ hk => hk.2) (.int .i64 ((rd_T102 t442 x46_2).f1))) (fun _ h_ => h_.1))) hb); obtain ⟨N_, hN_, OLD_, NEW1_⟩ := Fr.pair (by (with_reducible repeat (first | apply Kd.S_alloc | apply Kd.S_drewN | apply Kd.S_drew)); exact (Kd.S_mono (Kd.S_far (p := ⟨gb448, 1, none⟩) (Kd.S_far (p := ⟨gb448, 0, none⟩) (Kd.S_types HO_447003.out BK448.out (by decide)) (fun _ hk => hk.2) (.int .i64 ((rd_T102 t442 x46_2).f0))) (fun _ hk => hk.2) (.int .i64 ((rd_T102 t442 x46_2).f1))) (fun _ h_ => h_.1))) ho0 hb (below_size (sbw)); replace HO_447003 := am (Kd.S_elder' (by (with_reducible repeat (first | apply Kd.S_alloc | apply Kd.S_drewN | apply Kd.S_drew)); exact (Kd.S_mono (Kd.S_far (p := ⟨gb448, 1, none⟩) (Kd.S_far (p := ⟨gb448, 0, none⟩) (Kd.S_types HO_447003.out BK448.out (by decide)) (fun _ hk => hk.2) (.int .i64 ((rd_T102 t442 x46_2).f0))) (fun _ hk => hk.2) (.int .i64 ((rd_T102 t442 x46_2).f1))) (fun _ h_ => h_.1))) (Kd.R_base ho0) hb); have HO451 := am (Kd.R_lower ho0 (below_size (sbw))); replace BK439 := am (blk_below (g := gb439) (o := .cells #[.int .i64 0, .int .i64 0, .int .i64 0, .slice none 0 0] 31 (0, 0)) (sp BK439) hb); replace BK446 := am (blk_below (g := gb446) (o := .cells #[.int .i64 a1, .int .i64 a2, .int .i64 a5, u447003] 31 (0, 0)) (sp BK446) hb); replace BK448 := am (blk_below (g := gb448) (o := .cells #[.int .i64 ((rd_T102 t442 x46_2).f0), .int .i64 ((rd_T102 t442 x46_2).f1)] 102 (0, 0)) (sp BK448) hb); replace HB := bsw hb; (try clear hb); (try clear hk); (try clear ho0)))
        replace HO_44 := am (Kd.R_drew HO_44.out)
        replace HO_447003 := am (Kd.S_drew HO_447003.out)
        replace HO451 := am (Kd.R_drew HO451.out)
        replace NEW1_ := am (Kd.R_drew NEW1_.out)
        replace OLD_ := am (Kd.S_drew OLD_.out)
        replace hN_ : Aside0 (N_ ≤ w33.drew.heap.size) := ⟨hN_.out⟩
        replace BK439 := am (blk_drew BK439.out)
        replace BK446 := am (blk_drew BK446.out)
        replace BK448 := am (blk_drew BK448.out)
        replace HB := am (below_drew1 HB.out)
        obtain ⟨Ao35, co35, eo35⟩ := Kd.R_slice HO451.out
        (first | subst eo35 | (injection eo35 with f1_ f2_ f3_; have f4_ := f1_.symm; have f5_ := f3_.symm; clear f1_ f2_ f3_; subst f4_; subst f5_))
        refine start_ (n := 13) (S := fun w' => w'.cell? ⟨gb446, 0, none⟩ = some (.int .i64 a1) ∧ w'.cell? ⟨gb446, 1, none⟩ = some (.int .i64 a2) ∧ w'.cell? ⟨gb446, 2, none⟩ = some (.int .i64 a5) ∧ w'.cell? ⟨gb446, 3, none⟩ = some (u447003) ∧ w'.cell? ⟨gb448, 0, none⟩ = some (.int .i64 ((rd_T102 t442 x46_2).f0)) ∧ w'.cell? ⟨gb448, 1, none⟩ = some (.int .i64 ((rd_T102 t442 x46_2).f1))) (ds := [12]) #[false, false, false, false, false, false, false, false, false, false, false, false, false] (by kernel_rfl) rfl rfl ⟨bc0 BK446, bc1 BK446, bc2 BK446, bc3 BK446, bc0 BK448, bc1 BK448⟩ (fun hHeld => ?_); refine with_tabW impl_BuildProgram.tab11 impl_BuildProgram.bits11 (fun HT_ HW_ => ?_)
        generalize w33.drew = w34 at hN_ NEW1_ OLD_ HO_44 HO_447003 HO451 BK439 BK446 BK448 HB hHeld ⊢
        refine put 0 54 (bt 13 1) HT_ ?_
        refine put 3 57 (bt 13 9) HT_ ?_
        refine put 4 58 (bt 13 25) HT_ ?_
        refine put 5 59 (bt 13 57) HT_ ?_
        refine put 6 60 (bt 13 121) HT_ ?_
        refine tat6 1 55 (bt 13 123) HT_ HW_ hHeld ?_
        refine tat6 2 56 (bt 13 127) HT_ HW_ hHeld ?_
        refine one_ (i := 7) (N := some 61) (bt 13 255) rfl rfl (one_of HT_.out (by kernel_rfl)) (by decide) (fun K hK => ?_)
        refine goes_ Try.func97 (by kernel_rfl) rfl #[.slice Ao35 t449.length co35, .int .i64 a1, .int .i64 a2] (by rfl) rfl rfl sl ?_
        with_reducible refine (impl_tablesOf.calls k2 _ _ t449 a1 a2 t452 _ ?side1 ?side2 A27.out).mono ?_
        (case side1 => exact cr HO451)
        (case side2 => exact (Kd.R_reads' HO451.out).2.1)
        rintro e w36 ⟨v453, rfl, ho0, hb⟩
        refine ⟨_, rfl, ?_⟩
        replace HO_44 := rb HO_44 hb
        have NEW2_ := Fr.next (Kd.S_R ho0) hN_.out (below_size (sbw))
        replace NEW1_ := rb NEW1_ hb
        replace OLD_ := am (Kd.S_below (ss OLD_) hb)
        replace HO_447003 := am (Kd.S_elder' (ss HO_447003) (Kd.S_base ho0) hb)
        replace HO451 := rb HO451 hb
        have HO454 := am (Kd.S_lower ho0 (below_size (sbw)))
        replace BK439 := bb BK439 hb
        replace BK446 := bb BK446 hb
        replace BK448 := bb BK448 hb
        replace HB := bsw hb
        (try clear hb)
        (try clear hb2)
        (try clear hk)
        (try clear hi)
        (try clear ho0)
        obtain ⟨Ao37, co37, eo37⟩ := Kd.S_slice HO454.out
        (first | subst eo37 | (injection eo37 with f1_ f2_ f3_; have f4_ := f1_.symm; have f5_ := f3_.symm; clear f1_ f2_ f3_; subst f4_; subst f5_))
        refine hK.out _ _ ⟨bc0 BK446, bc1 BK446, bc2 BK446, bc3 BK446, bc0 BK448, bc1 BK448⟩ (fun hHeld => ?_)
        clear hK K
        refine nm 61 ?_
        refine put 8 62 (bt 13 511) HT_ ?_
        refine one_ (i := 9) (N := some 63) (bt 13 1023) rfl rfl (one_of HT_.out (by kernel_rfl)) (by decide) (fun K hK => ?_)
        refine value_ (w1 := ?_) (v := ?_) (by rfl) rfl ?_ ?_
        rotate_left 2
        ·go_simp
         constructor
         ·rfl
         ·rfl
        refine hK.out _ _ ⟨(blk_cell (blk_alloc BK446.out _) 0).trans rfl, (blk_cell (blk_alloc BK446.out _) 1).trans rfl, (blk_cell (blk_alloc BK446.out _) 2).trans rfl, (blk_cell (blk_alloc BK446.out _) 3).trans rfl, (blk_cell (blk_alloc BK448.out _) 0).trans rfl, (blk_cell (blk_alloc BK448.out _) 1).trans rfl⟩ (fun hHeld => ?_)
        clear hK K
        refine nm 63 ?_
        refine one_ (i := 10) (N := some 64) (bt 13 2047) rfl rfl (one_of HT_.out (by kernel_rfl)) (by decide) (fun K hK => ?_)
        refine Kd.S_append_step k105 (w0 := w) w.heap.size (by rfl) (.tmp 55) (.tmp 63) 29 105 (.agg #[(.int .i64 0), (.int .i64 0), (.slice none 0 0), (.slice none 0 0)]) 64 rfl Try.underlying29 info105 rfl (by decide) (by omega) u447003 x447003_2 (⟨(⟨(rd_T102 t442 x46_2).f0, (rd_T102 t442 x46_2).f1⟩ : S102), t449, t452⟩ : S105) [.int .i64 ((rd_T102 t442 x46_2).f0), .int .i64 ((rd_T102 t442 x46_2).f1), .slice Ao35 t449.length co35, .slice Ao37 t452.length co37] (fun _ => True) (fun k_ => N_ ≤ k_) rfl rfl ?aP (fun k_ hk_ => ⟨trivial, Fr.away OLD_ hk_⟩) ?aF ?aO ?aB ?aS ?aL ?_
        (case aP => exact k105_mkM _ _ _ (⟨(⟨(rd_T102 t442 x46_2).f0, (rd_T102 t442 x46_2).f1⟩ : S102), t449, t452⟩ : S105) NEW1_.out NEW2_.out)
        (case aB => exact (sbw))
        (case aF => exact (fun _ _ => trivial))
        (case aO => exact (by (with_reducible repeat (first | apply Kd.S_alloc | apply Kd.S_drewN | apply Kd.S_drew)); exact Kd.S_mono OLD_.out (fun k_ hk => ⟨trivial, fun h_ => by have := hk.2; omega⟩)))
        (case aS => exact (below_size (sbw)))
        (case aL => have := LMc28.out; omega)
        intro v456 w38 ho hb hg hat
        rw [← Ny455.out] at ho
        replace HO_44 := am (Kd.R_over' (sr HO_44) (Kd.S_typed (ss HO_447003)) (by decide) hg)
        replace BK439 := am (blk_grown (g := gb439) (o := .cells #[.int .i64 0, .int .i64 0, .int .i64 0, .slice none 0 0] 31 (0, 0)) (sk BK439) hg (Kd.S_ne HO_447003.out BK439.out (by decide)))
        replace BK446 := am (blk_grown (g := gb446) (o := .cells #[.int .i64 a1, .int .i64 a2, .int .i64 a5, u447003] 31 (0, 0)) (sk BK446) hg (Kd.S_ne HO_447003.out BK446.out (by decide)))
        replace BK448 := am (blk_grown (g := gb448) (o := .cells #[.int .i64 ((rd_T102 t442 x46_2).f0), .int .i64 ((rd_T102 t442 x46_2).f1)] 102 (0, 0)) (sk BK448) hg (Kd.S_ne HO_447003.out BK448.out (by decide)))
        replace HB := am hb
        have HO457 := am ho
        clear HO_447003 HO451 HO454 ho hb hg hat
        obtain ⟨Ao39, co39, eo39⟩ := Kd.S_slice HO457.out
        (first | subst eo39 | (injection eo39 with f1_ f2_ f3_; have f4_ := f1_.symm; have f5_ := f3_.symm; clear f1_ f2_ f3_; subst f4_; subst f5_))
        refine hK.out _ _ ⟨bc0 BK446, bc1 BK446, bc2 BK446, bc3 BK446, bc0 BK448, bc1 BK448⟩ (fun hHeld => ?_)
        clear hK K
        refine nm 64 ?_
        refine put 11 65 (bt 13 4095) HT_ ?_
        refine last_ (i := 12) (N := none) (bt 13 8191) rfl rfl (one_of HT_.out (by kernel_rfl)) (by decide) (fun K hK => ?_)
        have hs40 := bc3 BK446
        have hfs40 := bf BK446 3
        have hns40_0 := NB439_446.out
        have hns40_2 := NB448_446.out
        have hms40_0 := NB446_439.out
        have hms40_2 := NB446_448.out
        refine skip_ (w1 := ?_) (by rfl) rfl ?_ ?_
        rotate_left
        ·go_simp
         rfl
        refine hK.out _ _ ?_
        clear hK K
        refine done_ (done_of HT_.out (by kernel_rfl)) ?_
        try go_wp2
        go_roundg k2
        case measure => have := HJ6.out; have := HK2.out; omega
        case rel => exact ⟨(wrap64 (x46_2 + 1)), (y455), (.slice Ao39 y455.length co39), sc, H', ⟨by have := HJ6.out; have := HK2.out; omega⟩, ⟨by (with_reducible repeat (first | apply Kd.R_alloc | apply Kd.R_drewN | apply Kd.R_drew)); exact Kd.R_mono (Kd.R_far (p := ⟨gb446, 3, none⟩) (Kd.R_types HO_44.out BK446.out (by decide)) (fun _ hk => hk.2) (.slice Ao39 y455.length co39)) (fun _ hk => trivial)⟩, ⟨by (with_reducible repeat (first | apply Kd.S_alloc | apply Kd.S_drewN | apply Kd.S_drew)); exact Kd.S_mono (Kd.S_far (p := ⟨gb446, 3, none⟩) (Kd.S_types HO457.out BK446.out (by decide)) (fun _ hk => hk.2) (.slice Ao39 y455.length co39)) (fun _ hk => trivial)⟩, ⟨sp BK439⟩, ⟨sp BK446⟩, ⟨sbw⟩⟩
       ·have c23b0 := decide_eq_false c23
        clear c23
        simp only [Option.some.injEq, Prod.mk.injEq] at H
        obtain ⟨rfl, rfl, rfl, rfl, rfl⟩ := H
        have hnb41 := NB446_439.out
        have hnc41 := NB439_446.out
        obtain ⟨hcz42_0, hcz42_1, hcz42_2, hcz42_3, hfz42_0, hfz42_1, hfz42_2, hfz42_3⟩ := cc4 BK446
        obtain ⟨hcz43_0, hcz43_1, hcz43_2, hcz43_3, hfz43_0, hfz43_1, hfz43_2, hfz43_3⟩ := cc4 BK439
        obtain ⟨Ao44, co44, eo44⟩ := Kd.S_slice HO_447003.out
        subst eo44
        go_wp2
        refine bodyPost_ret (results_ct rfl _ _ gb439 31 #[.int .i64 a1, .int .i64 a2, .int .i64 a5, .slice Ao44 x447003_2.length co44] (0, 0) _ rfl (sp BK439) Try.underlying31 rfl (by kernel_rfl)) rfl ?_
        exact ⟨_, se, by (with_reducible repeat (first | apply Kd.S_alloc | apply Kd.S_drewN | apply Kd.S_drew)); exact Kd.S_mono (Kd.S_far (p := ⟨gb439, 3, none⟩) (Kd.S_far (p := ⟨gb439, 2, none⟩) (Kd.S_far (p := ⟨gb439, 1, none⟩) (Kd.S_far (p := ⟨gb439, 0, none⟩) (Kd.S_types HO_447003.out BK439.out (by decide)) (fun _ hk => hk.2) (.int .i64 a1)) (fun _ hk => hk.2) (.int .i64 a2)) (fun _ hk => hk.2) (.int .i64 a5)) (fun _ hk => hk.2) (.slice Ao44 x447003_2.length co44)) (fun _ hk => trivial), sbw⟩
    ·replace H := im H
     simp only [Option.some.injEq, Prod.mk.injEq] at H
     obtain ⟨rfl, rfl, rfl, rfl, rfl⟩ := H
     go_wp2_with (first | ((with_reducible refine gc 111 rfl ?_); refine gL (some 34) Try.func111 #[.slice A0 l0.length c0, .int .i64 a3, .int .i64 a4] ?_; (with_reducible refine (impl_PiecesOf.calls kj6 _ _ l0 a3 a4 t442 _ ?side1 ?side2 A15.out).mono ?_); (case side1 => exact cb HR0); (case side2 => exact HC0.out); rintro e w45 ⟨v443, rfl, ho0, hb⟩; refine ⟨_, rfl, ?_⟩; have HO444 := am (Kd.R_lower ho0 (below_size (sbw))); replace BK439 := bb BK439 hb; replace HB := bsw hb; (try clear hb); (try clear ho0); obtain ⟨Ao46, co46, eo46⟩ := Kd.R_slice HO444.out; subst eo46) | ((with_reducible refine gc 95 rfl ?_); refine gL (some 37) Try.func95 #[.int .i64 (t442.length : Int), .int .i64 1, .int .i64 40] ?_; (with_reducible refine (impl_InRange.calls (t442.length : Int) 1 40 false _ A16.out).mono ?_); rintro e w' ⟨rfl, ⟨nd, rfl⟩⟩; refine ⟨_, rfl, ?_⟩; obtain ⟨hcz47_0, hcz47_1, hcz47_2, hcz47_3, hfz47_0, hfz47_1, hfz47_2, hfz47_3⟩ := cc4 BK439))
     refine bodyPost_ret (results_ct rfl _ _ gb439 31 #[.int .i64 0, .int .i64 0, .int .i64 0, .slice none 0 0] (0, 0) _ rfl (sp BK439) Try.underlying31 rfl (by kernel_rfl)) rfl ?_
     exact ⟨_, se, by first | exact Kd.S_nil _ _ _ _ _ | exact Kd.N_nil _ _ _ _ _ | exact Kd.V_nil _ _ _ _ _ | exact Kd.Q_nil _ _ _ _ _ | exact Kd.R_nil _ _ _ _ _, sbw⟩

def spec_l1In.f (a0 : Int) (a1 : Int) (a2 : Int) : Option (Bool) := if a0 ≥ a1 then (some (decide (a0 ≤ a2))) else (some false)
theorem spec_l1In.calls (a0 : Int) (a1 : Int) (a2 : Int) (r : Bool) (w : World) (h : spec_l1In.f a0 a1 a2 = some r) :
    Calls Try.prog 85 #[.int .i64 a0, .int .i64 a1, .int .i64 a2] w fun e w' => e = .returned (.bool r) ∧ Drawn0 w w' := by
 have H := h; unfold spec_l1In.f at H
 clear h
 obtain ⟨c4, H⟩ | ⟨c4, H⟩ := ie_ H
 ·have c4b0 := decide_eq_true c4
  clear c4
  obtain rfl := Option.some.inj H
  go_enter Try.func85, Try.ntmps85
  go_wp2
  go_ret
  exact ⟨sc, sd⟩
 ·have c4b0 := decide_eq_false c4
  clear c4
  obtain rfl := Option.some.inj H
  go_enter Try.func85, Try.ntmps85
  go_wp2
  go_ret
  exact ⟨sc, sd⟩

def spec_l17Frame.f (a0 : Int) (a1 : Int) (a2 : Int) : Option (Bool) := (spec_l1In.f a0 1 12).bind fun t458 => (if t458 = true then ((spec_l1In.f a1 0 a0).bind fun t459 => (if t459 = true then ((spec_l1In.f a2 0 5).bind fun t460 => (some t460)) else (some false))) else (some false))
theorem spec_l17Frame.calls (a0 : Int) (a1 : Int) (a2 : Int) (r : Bool) (w : World) (h : spec_l17Frame.f a0 a1 a2 = some r) :
    Calls Try.prog 101 #[.int .i64 a0, .int .i64 a1, .int .i64 a2] w fun e w' => e = .returned (.bool r) ∧ Drawn0 w w' := by
 have H := h; unfold spec_l17Frame.f at H
 clear h
 obtain ⟨t458, A4, H⟩ := bnd H
 obtain rfl | rfl := tt t458
 ·replace H := ip H
  obtain ⟨t459, A6, H⟩ := bnd H
  obtain rfl | rfl := tt t459
  ·replace H := ip H
   obtain ⟨t460, A8, H⟩ := bnd H
   obtain rfl := Option.some.inj H
   go_enter Try.func101, Try.ntmps101
   go_wp2_with (first | ((with_reducible refine gc 85 rfl ?_); refine gL (some 8) Try.func85 #[.int .i64 a0, .int .i64 1, .int .i64 12] ?_; (with_reducible refine (spec_l1In.calls a0 1 12 true _ A4.out).mono ?_); rintro e w' ⟨rfl, ⟨nd, rfl⟩⟩; refine ⟨_, rfl, ?_⟩) | (go_at_call 85; (with_reducible refine (spec_l1In.calls a1 0 a0 true _ A6.out).mono ?_); rintro e w' ⟨rfl, ⟨nd, rfl⟩⟩) | (go_at_call 85; (with_reducible refine (spec_l1In.calls a2 0 5 t460 _ A8.out).mono ?_); rintro e w' ⟨rfl, ⟨nd, rfl⟩⟩))
   go_ret
   exact ⟨sc, sd⟩
  ·replace H := im H
   obtain rfl := Option.some.inj H
   go_enter Try.func101, Try.ntmps101
   go_wp2_with (first | ((with_reducible refine gc 85 rfl ?_); refine gL (some 8) Try.func85 #[.int .i64 a0, .int .i64 1, .int .i64 12] ?_; (with_reducible refine (spec_l1In.calls a0 1 12 true _ A4.out).mono ?_); rintro e w' ⟨rfl, ⟨nd, rfl⟩⟩; refine ⟨_, rfl, ?_⟩) | (go_at_call 85; (with_reducible refine (spec_l1In.calls a1 0 a0 false _ A6.out).mono ?_); rintro e w' ⟨rfl, ⟨nd, rfl⟩⟩))
   go_ret
   exact ⟨sc, sd⟩
 ·replace H := im H
  obtain rfl := Option.some.inj H
  go_enter Try.func101, Try.ntmps101
  go_wp2_with (first | ((with_reducible refine gc 85 rfl ?_); refine gL (some 8) Try.func85 #[.int .i64 a0, .int .i64 1, .int .i64 12] ?_; (with_reducible refine (spec_l1In.calls a0 1 12 false _ A4.out).mono ?_); rintro e w' ⟨rfl, ⟨nd, rfl⟩⟩; refine ⟨_, rfl, ?_⟩))
  go_ret
  exact ⟨sc, sd⟩

def spec_IsSpan.f (a0_0 : Int) (a0_1 : Int) : Option (Bool) := if a0_0 ≥ 0 then (if a0_1 ≤ 1000 then (some (decide (a0_0 < a0_1))) else (some false)) else (some false)
theorem spec_IsSpan.calls (a0_0 : Int) (a0_1 : Int) (r : Bool) (w : World) (h : spec_IsSpan.f a0_0 a0_1 = some r) :
    Calls Try.prog 80 #[.agg #[.int .i64 a0_0, .int .i64 a0_1]] w fun e w' => e = .returned (.bool r) ∧ Below w.heap.size w w' := by
 have hu102 := Try.underlying102
 have HB := am (Below.refl w.heap.size w)
 have H := h; unfold spec_IsSpan.f at H
 clear h
 obtain ⟨c2, H⟩ | ⟨c2, H⟩ := ie_ H
 ·have c2b0 := decide_eq_true c2
  clear c2
  obtain ⟨c3, H⟩ | ⟨c3, H⟩ := ie_ H
  ·have c3b0 := decide_eq_true c3
   clear c3
   obtain rfl := Option.some.inj H
   go_enter Try.func80, Try.ntmps80
   go_wp2_with (first | ((with_reducible refine gd 1 rfl ?_); refine bx 1 #[.int .i64 a0_0, .int .i64 a0_1] 102 ?_; intro gb461 hg w4 hbox hb; have GW461 := bz w hg; have GE461 := bz w hg; replace HB := bs hb; have BK461 := am hbox; clear hb hbox hg; obtain ⟨hcz5_0, hcz5_1, hfz5_0, hfz5_1⟩ := cc2 BK461))
   go_ret
   exact ⟨se, sbw⟩
  ·have c3b0 := decide_eq_false c3
   clear c3
   obtain rfl := Option.some.inj H
   go_enter Try.func80, Try.ntmps80
   go_wp2_with (first | ((with_reducible refine gd 1 rfl ?_); refine bx 1 #[.int .i64 a0_0, .int .i64 a0_1] 102 ?_; intro gb461 hg w6 hbox hb; have GW461 := bz w hg; have GE461 := bz w hg; replace HB := bs hb; have BK461 := am hbox; clear hb hbox hg; obtain ⟨hcz7_0, hcz7_1, hfz7_0, hfz7_1⟩ := cc2 BK461))
   go_ret
   exact ⟨se, sbw⟩
 ·have c2b0 := decide_eq_false c2
  clear c2
  obtain rfl := Option.some.inj H
  go_enter Try.func80, Try.ntmps80
  go_wp2_with (first | ((with_reducible refine gd 1 rfl ?_); refine bx 1 #[.int .i64 a0_0, .int .i64 a0_1] 102 ?_; intro gb461 hg w8 hbox hb; have GW461 := bz w hg; have GE461 := bz w hg; replace HB := bs hb; have BK461 := am hbox; clear hb hbox hg; obtain ⟨hcz9_0, hcz9_1, hfz9_0, hfz9_1⟩ := cc2 BK461))
  go_ret
  exact ⟨se, sbw⟩

def spec_IsContact.f (a0_0 : Int) (a0_1 : Int) (a0_2 : Int) (a0_3 : Int) (a1 : Int) : Option (Bool) := if a0_0 ≥ 0 then (if a0_0 < a0_1 then (if a0_1 < a1 then ((spec_IsSpan.f a0_2 a0_3).bind fun t463 => (some t463)) else (some false)) else (some false)) else (some false)
theorem spec_IsContact.calls (a0_0 : Int) (a0_1 : Int) (a0_2 : Int) (a0_3 : Int) (a1 : Int) (r : Bool) (w : World) (h : spec_IsContact.f a0_0 a0_1 a0_2 a0_3 a1 = some r) :
    Calls Try.prog 156 #[.agg #[.int .i64 a0_0, .int .i64 a0_1, .int .i64 a0_2, .int .i64 a0_3], .int .i64 a1] w fun e w' => e = .returned (.bool r) ∧ Below w.heap.size w w' := by
 have hu137 := Try.underlying137
 have hu102 := Try.underlying102
 have HB := am (Below.refl w.heap.size w)
 have H := h; unfold spec_IsContact.f at H
 clear h
 obtain ⟨c3, H⟩ | ⟨c3, H⟩ := ie_ H
 ·have c3b0 := decide_eq_true c3
  clear c3
  obtain ⟨c4, H⟩ | ⟨c4, H⟩ := ie_ H
  ·have c4b0 := decide_eq_true c4
   clear c4
   obtain ⟨c5, H⟩ | ⟨c5, H⟩ := ie_ H
   ·have c5b0 := decide_eq_true c5
    clear c5
    obtain ⟨t463, A6, H⟩ := bnd H
    obtain rfl := Option.some.inj H
    go_enter Try.func156, Try.ntmps156
    go_wp2_with (first | ((with_reducible refine gd 2 rfl ?_); refine bx 2 #[.int .i64 a0_0, .int .i64 a0_1, .int .i64 a0_2, .int .i64 a0_3] 137 ?_; intro gb462 hg w7 hbox hb; have GW462 := bz w hg; have GE462 := bz w hg; replace HB := bs hb; have BK462 := am hbox; clear hb hbox hg; obtain ⟨hcz8_0, hcz8_1, hcz8_2, hcz8_3, hfz8_0, hfz8_1, hfz8_2, hfz8_3⟩ := cc4 BK462) | (go_at_call 80; (with_reducible refine (spec_IsSpan.calls a0_2 a0_3 t463 _ A6.out).mono ?_); rintro e w9 ⟨rfl, hb⟩; replace BK462 := bb BK462 hb; replace HB := bsw hb; (try clear hb)))
    go_ret
    exact ⟨se, sbw⟩
   ·have c5b0 := decide_eq_false c5
    clear c5
    obtain rfl := Option.some.inj H
    go_enter Try.func156, Try.ntmps156
    go_wp2_with (first | ((with_reducible refine gd 2 rfl ?_); refine bx 2 #[.int .i64 a0_0, .int .i64 a0_1, .int .i64 a0_2, .int .i64 a0_3] 137 ?_; intro gb462 hg w10 hbox hb; have GW462 := bz w hg; have GE462 := bz w hg; replace HB := bs hb; have BK462 := am hbox; clear hb hbox hg; obtain ⟨hcz11_0, hcz11_1, hcz11_2, hcz11_3, hfz11_0, hfz11_1, hfz11_2, hfz11_3⟩ := cc4 BK462))
    go_ret
    exact ⟨se, sbw⟩
  ·have c4b0 := decide_eq_false c4
   clear c4
   obtain rfl := Option.some.inj H
   go_enter Try.func156, Try.ntmps156
   go_wp2_with (first | ((with_reducible refine gd 2 rfl ?_); refine bx 2 #[.int .i64 a0_0, .int .i64 a0_1, .int .i64 a0_2, .int .i64 a0_3] 137 ?_; intro gb462 hg w12 hbox hb; have GW462 := bz w hg; have GE462 := bz w hg; replace HB := bs hb; have BK462 := am hbox; clear hb hbox hg; obtain ⟨hcz13_0, hcz13_1, hcz13_2, hcz13_3, hfz13_0, hfz13_1, hfz13_2, hfz13_3⟩ := cc4 BK462))
   go_ret
   exact ⟨se, sbw⟩
 ·have c3b0 := decide_eq_false c3
  clear c3
  obtain rfl := Option.some.inj H
  go_enter Try.func156, Try.ntmps156
  go_wp2_with (first | ((with_reducible refine gd 2 rfl ?_); refine bx 2 #[.int .i64 a0_0, .int .i64 a0_1, .int .i64 a0_2, .int .i64 a0_3] 137 ?_; intro gb462 hg w14 hbox hb; have GW462 := bz w hg; have GE462 := bz w hg; replace HB := bs hb; have BK462 := am hbox; clear hb hbox hg; obtain ⟨hcz15_0, hcz15_1, hcz15_2, hcz15_3, hfz15_0, hfz15_1, hfz15_2, hfz15_3⟩ := cc4 BK462))
  go_ret
  exact ⟨se, sbw⟩

def spec_l11Before.f (a0_0 : Int) (a0_1 : Int) (a0_2 : Int) (a0_3 : Int) (a1_0 : Int) (a1_1 : Int) (a1_2 : Int) (a1_3 : Int) : Option (Bool) := if a0_0 = a1_0 then (if a0_1 = a1_1 then (some (decide (a0_3 < a1_2))) else (some (decide (a0_1 < a1_1)))) else (some (decide (a0_0 < a1_0)))
theorem spec_l11Before.calls (a0_0 : Int) (a0_1 : Int) (a0_2 : Int) (a0_3 : Int) (a1_0 : Int) (a1_1 : Int) (a1_2 : Int) (a1_3 : Int) (r : Bool) (w : World) (h : spec_l11Before.f a0_0 a0_1 a0_2 a0_3 a1_0 a1_1 a1_2 a1_3 = some r) :
    Calls Try.prog 157 #[.agg #[.int .i64 a0_0, .int .i64 a0_1, .int .i64 a0_2, .int .i64 a0_3], .agg #[.int .i64 a1_0, .int .i64 a1_1, .int .i64 a1_2, .int .i64 a1_3]] w fun e w' => e = .returned (.bool r) ∧ Below w.heap.size w w' := by
 have hu137 := Try.underlying137
 have HB := am (Below.refl w.heap.size w)
 have H := h; unfold spec_l11Before.f at H
 clear h
 obtain ⟨c3, H⟩ | ⟨c3, H⟩ := ie_ H
 ·have c3b0 : (a0_0 == a1_0) = true := beq_iff_eq.mpr c3
  have c3b1 : (a0_0 != a1_0) = false := bne_eq_false_iff_eq.mpr c3
  clear c3
  obtain ⟨c4, H⟩ | ⟨c4, H⟩ := ie_ H
  ·have c4b0 : (a0_1 == a1_1) = true := beq_iff_eq.mpr c4
   have c4b1 : (a0_1 != a1_1) = false := bne_eq_false_iff_eq.mpr c4
   clear c4
   obtain rfl := Option.some.inj H
   go_enter Try.func157, Try.ntmps157
   go_wp2_with (first | ((with_reducible refine gd 2 rfl ?_); refine bx 2 #[.int .i64 a0_0, .int .i64 a0_1, .int .i64 a0_2, .int .i64 a0_3] 137 ?_; intro gb464 hg w5 hbox hb; have GW464 := bz w hg; have GE464 := bz w hg; replace HB := bs hb; have BK464 := am hbox; clear hb hbox hg) | ((with_reducible refine gd 3 rfl ?_); refine bx 3 #[.int .i64 a1_0, .int .i64 a1_1, .int .i64 a1_2, .int .i64 a1_3] 137 ?_; intro gb465 hg w6 hbox hb; have GW465 := bzw w hg; have GE465 := bzw w hg; replace HB := bsw hb; have BK465 := am hbox; have NB464_465 := nl BK464 hg; have NB465_464 := ng BK464 hg; replace BK464 := bb BK464 hb; clear hb hbox hg; have hnb7 := NB464_465.out; have hnc7 := NB465_464.out; obtain ⟨hcz8_0, hcz8_1, hcz8_2, hcz8_3, hfz8_0, hfz8_1, hfz8_2, hfz8_3⟩ := cc4 BK464; obtain ⟨hcz9_0, hcz9_1, hcz9_2, hcz9_3, hfz9_0, hfz9_1, hfz9_2, hfz9_3⟩ := cc4 BK465))
   go_ret
   exact ⟨se, sbw⟩
  ·have c4b0 : (a0_1 == a1_1) = false := beq_eq_false_iff_ne.mpr c4
   have c4b1 : (a0_1 != a1_1) = true := bne_iff_ne.mpr c4
   obtain rfl := Option.some.inj H
   go_enter Try.func157, Try.ntmps157
   go_wp2_with (first | ((with_reducible refine gd 2 rfl ?_); refine bx 2 #[.int .i64 a0_0, .int .i64 a0_1, .int .i64 a0_2, .int .i64 a0_3] 137 ?_; intro gb464 hg w10 hbox hb; have GW464 := bz w hg; have GE464 := bz w hg; replace HB := bs hb; have BK464 := am hbox; clear hb hbox hg) | ((with_reducible refine gd 3 rfl ?_); refine bx 3 #[.int .i64 a1_0, .int .i64 a1_1, .int .i64 a1_2, .int .i64 a1_3] 137 ?_; intro gb465 hg w11 hbox hb; have GW465 := bzw w hg; have GE465 := bzw w hg; replace HB := bsw hb; have BK465 := am hbox; have NB464_465 := nl BK464 hg; have NB465_464 := ng BK464 hg; replace BK464 := bb BK464 hb; clear hb hbox hg; have hnb12 := NB464_465.out; have hnc12 := NB465_464.out; obtain ⟨hcz13_0, hcz13_1, hcz13_2, hcz13_3, hfz13_0, hfz13_1, hfz13_2, hfz13_3⟩ := cc4 BK464; obtain ⟨hcz14_0, hcz14_1, hcz14_2, hcz14_3, hfz14_0, hfz14_1, hfz14_2, hfz14_3⟩ := cc4 BK465))
   go_ret
   exact ⟨se, sbw⟩
 ·have c3b0 : (a0_0 == a1_0) = false := beq_eq_false_iff_ne.mpr c3
  have c3b1 : (a0_0 != a1_0) = true := bne_iff_ne.mpr c3
  obtain rfl := Option.some.inj H
  go_enter Try.func157, Try.ntmps157
  go_wp2_with (first | ((with_reducible refine gd 2 rfl ?_); refine bx 2 #[.int .i64 a0_0, .int .i64 a0_1, .int .i64 a0_2, .int .i64 a0_3] 137 ?_; intro gb464 hg w15 hbox hb; have GW464 := bz w hg; have GE464 := bz w hg; replace HB := bs hb; have BK464 := am hbox; clear hb hbox hg) | ((with_reducible refine gd 3 rfl ?_); refine bx 3 #[.int .i64 a1_0, .int .i64 a1_1, .int .i64 a1_2, .int .i64 a1_3] 137 ?_; intro gb465 hg w16 hbox hb; have GW465 := bzw w hg; have GE465 := bzw w hg; replace HB := bsw hb; have BK465 := am hbox; have NB464_465 := nl BK464 hg; have NB465_464 := ng BK464 hg; replace BK464 := bb BK464 hb; clear hb hbox hg; have hnb17 := NB464_465.out; have hnc17 := NB465_464.out; obtain ⟨hcz18_0, hcz18_1, hcz18_2, hcz18_3, hfz18_0, hfz18_1, hfz18_2, hfz18_3⟩ := cc4 BK464; obtain ⟨hcz19_0, hcz19_1, hcz19_2, hcz19_3, hfz19_0, hfz19_1, hfz19_2, hfz19_3⟩ := cc4 BK465))
  go_ret
  exact ⟨se, sbw⟩

end Go.Proofs.Ytiihaabhjphaeaa.QFnPrograms
