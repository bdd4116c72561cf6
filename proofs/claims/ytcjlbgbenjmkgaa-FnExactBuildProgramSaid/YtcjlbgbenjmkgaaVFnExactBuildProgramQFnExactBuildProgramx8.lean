/- What the Go functions of the law FnExactBuildProgram come to, as Lean functions, and that they do: by a program of the session, out of the kit's printer. Conditions: none. (squeezed). -/
import Derived.Test.YtcjlbgbenjmkgaaVFnExactBuildProgramSq
import Derived.Test.YtcjlbgbenjmkgaaVFnExactBuildProgramQFnExactBuildProgramx0
import Derived.Test.YtcjlbgbenjmkgaaVFnExactBuildProgramQFnExactBuildProgramx2
import Derived.Test.YtcjlbgbenjmkgaaVFnExactBuildProgramQFnExactBuildProgramx6
import Derived.Test.YtcjlbgbenjmkgaaVFnExactBuildProgramQFnExactBuildProgramx7
namespace Go.Proofs.Ytcjlbgbenjmkgaa.QFnExactBuildProgram
open Go.RowKit Go.Proofs.YtcjlbgbenjmkgaaW.PrintWords Go.Proofs.YtcjlbgbenjmkgaaW.PrintLast Go.Proofs.YtcjlbgbenjmkgaaW.PrintMore Go.Proofs.Ytcjlbgbenjmkgaa.Open Go.Proofs.Ytcjlbgbenjmkgaa.Sq
attribute [local go_sem] max2_int min2_int max_two min_two max_three min_three max_four min_four   -- for this text's walks alone
attribute [local go_sem] isSome_set
set_option linter.unusedVariables false
set_option linter.unusedSimpArgs false

/-! ### spec_DistancesTo: function 54 -/
mutual
def spec_DistancesTo.l0 : Nat → List (S60) → Int → Int → Int → List Int → Int → Option (List Int)
  | 0, _, _, _, _, _, _ => none
  | k + 1, x0, x1, x2, x3, x9, x10 => if x10 < x1 then (if x9.length < 17592186044416 then (spec_DistancesTo.l0 k x0 x1 x2 x3 (x9 ++ [(-1)]) (wrap64 (x10 + 1))) else (none)) else (if 0 ≤ x3 then (if x3 < (x9.length : Int) then (spec_DistancesTo.l1 k x0 x1 x2 x3 (x9.set (x3 : Int).toNat 0) (([x3] : List Int)) 0) else (none)) else (none))
def spec_DistancesTo.l1 : Nat → List (S60) → Int → Int → Int → List Int → List Int → Int → Option (List Int)
  | 0, _, _, _, _, _, _, _ => none
  | k + 1, x0, x1, x2, x3, x9, x11, x12 => if x12 < (x11.length : Int) then (if 0 ≤ x12 then (if (rd x11 x12) = x3 then (spec_DistancesTo.j2 k x0 x1 x2 x3 x9 x11 x12 (rd x11 x12) false) else (spec_DistancesTo.j2 k x0 x1 x2 x3 x9 x11 x12 (rd x11 x12) (decide ((rd x11 x12) ≥ x2)))) else (none)) else (some x9)
def spec_DistancesTo.j2 : Nat → List (S60) → Int → Int → Int → List Int → List Int → Int → Int → Bool → Option (List Int)
  | 0, _, _, _, _, _, _, _, _, _ => none
  | k + 1, x0, x1, x2, x3, x9, x11, x12, x13, x52 => if x52 = true then (spec_DistancesTo.l1 k x0 x1 x2 x3 x9 x11 (wrap64 (x12 + 1))) else ((spec_NeighborsIn.f k x0 x13).bind fun t257 => (spec_DistancesTo.l2 k x0 x1 x2 x3 x9 x11 x12 x13 t257 0))
def spec_DistancesTo.l2 : Nat → List (S60) → Int → Int → Int → List Int → List Int → Int → Int → List Int → Int → Option (List Int)
  | 0, _, _, _, _, _, _, _, _, _, _ => none
  | k + 1, x0, x1, x2, x3, x9, x11, x12, x13, x14, x15 => if x15 < (x14.length : Int) then (if 0 ≤ x15 then ((spec_l1In.f (rd x14 x15) 0 (wrap64 (x1 - 1))).bind fun t261 => (if t261 = true then (if 0 ≤ (rd x14 x15) then (if (rd x14 x15) < (x9.length : Int) then (if (rd x9 (rd x14 x15)) < 0 then (if 0 ≤ x13 then (if x13 < (x9.length : Int) then (if x11.length < 17592186044416 then (spec_DistancesTo.l2 k x0 x1 x2 x3 (x9.set ((rd x14 x15) : Int).toNat (wrap64 ((rd x9 x13) + 1))) (x11 ++ [rd x14 x15]) x12 x13 x14 (wrap64 (x15 + 1))) else (none)) else (none)) else (none)) else (spec_DistancesTo.l2 k x0 x1 x2 x3 x9 x11 x12 x13 x14 (wrap64 (x15 + 1)))) else (none)) else (none)) else (spec_DistancesTo.l2 k x0 x1 x2 x3 x9 x11 x12 x13 x14 (wrap64 (x15 + 1))))) else (none)) else (spec_DistancesTo.l1 k x0 x1 x2 x3 x9 x11 (wrap64 (x12 + 1)))
end
def spec_DistancesTo.f (k : Nat) (l0 : List (S60)) (a1 : Int) (a2 : Int) (a3 : Int) : Option (List Int) := (spec_l14Ok.f a1 a3).bind fun t242 => (if t242 = true then (spec_DistancesTo.l0 k l0 a1 a2 a3 (([] : List Int)) 0) else (some (([] : List Int))))
theorem spec_DistancesTo.mono_l : ∀ k, (∀ y0 y1 y2 y3 y4 y5, LeO (spec_DistancesTo.l0 k y0 y1 y2 y3 y4 y5) (spec_DistancesTo.l0 (k + 1) y0 y1 y2 y3 y4 y5)) ∧ (∀ y0 y1 y2 y3 y4 y5 y6, LeO (spec_DistancesTo.l1 k y0 y1 y2 y3 y4 y5 y6) (spec_DistancesTo.l1 (k + 1) y0 y1 y2 y3 y4 y5 y6)) ∧ (∀ y0 y1 y2 y3 y4 y5 y6 y7 y8, LeO (spec_DistancesTo.j2 k y0 y1 y2 y3 y4 y5 y6 y7 y8) (spec_DistancesTo.j2 (k + 1) y0 y1 y2 y3 y4 y5 y6 y7 y8)) ∧ (∀ y0 y1 y2 y3 y4 y5 y6 y7 y8 y9, LeO (spec_DistancesTo.l2 k y0 y1 y2 y3 y4 y5 y6 y7 y8 y9) (spec_DistancesTo.l2 (k + 1) y0 y1 y2 y3 y4 y5 y6 y7 y8 y9))
  | 0 => ⟨fun _ _ _ _ _ _ r h => by simp [spec_DistancesTo.l0] at h, fun _ _ _ _ _ _ _ r h => by simp [spec_DistancesTo.l1] at h, fun _ _ _ _ _ _ _ _ _ r h => by simp [spec_DistancesTo.j2] at h, fun _ _ _ _ _ _ _ _ _ _ r h => by simp [spec_DistancesTo.l2] at h⟩
  | k + 1 => by
    obtain ⟨ih0, ih1, ih2, ih3⟩ := spec_DistancesTo.mono_l k
    refine ⟨?_, ?_, ?_, ?_⟩
    · intro y0 y1 y2 y3 y4 y5
      unfold spec_DistancesTo.l0
      have m0 := @spec_NeighborsIn.mono
      exact mo
    · intro y0 y1 y2 y3 y4 y5 y6
      unfold spec_DistancesTo.l1
      have m0 := @spec_NeighborsIn.mono
      exact mo
    · intro y0 y1 y2 y3 y4 y5 y6 y7 y8
      unfold spec_DistancesTo.j2
      have m0 := @spec_NeighborsIn.mono
      exact mo
    · intro y0 y1 y2 y3 y4 y5 y6 y7 y8 y9
      unfold spec_DistancesTo.l2
      have m0 := @spec_NeighborsIn.mono
      exact mo
theorem spec_DistancesTo.mono : ∀ a0 a1 a2 a3 k, LeO (spec_DistancesTo.f k a0 a1 a2 a3) (spec_DistancesTo.f (k + 1) a0 a1 a2 a3) := by
  intro a0 a1 a2 a3 k
  obtain ⟨ih0, ih1, ih2, ih3⟩ := spec_DistancesTo.mono_l k
  unfold spec_DistancesTo.f
  have m0 := @spec_NeighborsIn.mono
  exact mo
def spec_DistancesTo.T20 : Bool × List (List Nat × List Nat) := (true, [([], []), ([], []), ([], []), ([1, 2], [1, 2]), ([3], [3]), ([], []), ([], []), ([5, 6], [5, 6]), ([7], [7]), ([8], [8]), ([0, 4, 0, 1, 2, 3, 4, 5, 6, 7, 8, 9], [0, 4]), ([10, 9, 0, 1, 2, 3, 4, 5, 6, 7, 8, 9], [9, 10])])
def spec_DistancesTo.B20 : List Nat := [0, 0, 0, 6, 14, 0, 0, 96, 224, 480, 1023, 2047]
theorem spec_DistancesTo.tab20 : rtab .any (opsOf Try.f54 20) = spec_DistancesTo.T20 := by kernel_rfl
theorem spec_DistancesTo.bits20 : waitsOk spec_DistancesTo.T20.2 spec_DistancesTo.B20 = true := by kernel_rfl
set_option maxHeartbeats 8000000 in
set_option maxRecDepth 100000 in
theorem spec_DistancesTo.calls (k : Nat) (A0 : Option Addr) (c0 : Nat) (l0 : List (S60)) (a1 : Int) (a2 : Int) (a3 : Int) (r : List Int) (w : World) (hr0 : Kd.C k60 w A0 l0.length l0) (hc0 : l0.length ≤ c0) (h : spec_DistancesTo.f k l0 a1 a2 a3 = some r) :
    Calls Try.prog 54 #[.slice A0 l0.length c0, .int .i64 a1, .int .i64 a2, .int .i64 a3] w fun e w' => ∃ v0_ : Value, e = .returned (v0_) ∧ Kd.R (Kd.int .i64) 3 w' w.heap.size (fun _ => True) v0_ r ∧ Below w.heap.size w w' := by
 have HR0 := Aside0.mk hr0
 have HC0 := Aside0.mk hc0
 clear hr0 hc0
 have HB := Aside0.mk (Below.refl w.heap.size w)
 have H : ((spec_l14Ok.f a1 a3).bind fun t242 => (if t242 = true then (spec_DistancesTo.l0 k l0 a1 a2 a3 (([] : List Int)) 0) else (some (([] : List Int))))) = some r := h
 clear h
 obtain ⟨t242, A5, H⟩ := bnd H
 obtain rfl | rfl := tt t242
 ·replace H := ip H
  obtain ⟨y246, hy246⟩ : ∃ y_ : List Int, y_ = (([] : List Int)) := ⟨_, rfl⟩
  replace H : (spec_DistancesTo.l0 k l0 a1 a2 a3 y246 0) = some r := by first | (rw [hy246]; with_reducible exact H) | (have H2_ := (Option.bind_some _ _).symm.trans H; rw [hy246]; with_reducible exact H2_) | (have H2_ := (Option.bind_some _ _).symm.trans H; with_reducible exact H2_) | with_reducible exact H | (rw [hy246]; exact H) | exact H
  have Ny246 := Aside0.mk hy246
  clear hy246
  have H' := Aside0.mk H
  clear H
  go_enter Try.func54, Try.ntmps54
  go_wp2_with (first | ((with_reducible refine gate_callee (f := 66) rfl ?_); refine gL (some 18) Try.func66 #[.int .i64 a1, .int .i64 a3] ?_; (with_reducible refine (spec_l14Ok.calls a1 a3 true _ A5.out).mono ?_); rintro e w' ⟨rfl, ⟨nd, rfl⟩⟩; refine ⟨_, rfl, ?_⟩) | ((with_reducible refine gate_dst (N := 21) rfl ?_); refine Kd.R_lit (Kd.int .i64) _ 3 ?hg (N := 21) ?hd (xs := ([] : List Int)) (inner := []) (ok := fun _ => True) (okp := fun _ => True) ?hr ?hp (fun _ hk => hk) trivial (Below.refl _ _) (Nat.le_refl _) (by simp) ?_; (case hd => rfl); (case hg => rfl); (case hr => first | (go_simp; done) | (go_simp; rfl)); (case hp => exact (Reps.none _ _)); intro v247 w7 ho8 hb hg_ hnew_; clear hg_ hnew_; (first | rw [← Ny246.out] at ho8 | (simp only [Int.reduceToNat] at ho8; rw [← Ny246.out] at ho8)); have HO248 := Aside0.mk (Kd.R_lower ho8 (below_size (sb))); replace HB := bs hb; clear hb ho8))
  go_loopg [9, 10] k (fun kq v9 v10 w' => ∃ (x9_1 : List Int) (x10_1 : Int), v10 = .int .i64 x10_1 ∧ Aside0 (spec_DistancesTo.l0 kq l0 a1 a2 a3 x9_1 x10_1 = some r) ∧ Aside0 (kq ≤ k) ∧ Aside0 (Kd.R (Kd.int .i64) 3 w' w.heap.size (fun _ => True) v9 x9_1) ∧ Aside0 (Below w.heap.size w w'))
  case atStart => exact ⟨(y246), (0), sc, H', kk0, ⟨sr HO248⟩, ⟨sb⟩⟩
  case round =>
   clear H'
   obtain ⟨x9_1, x10_1, rfl, HA, HK1, HO_9, HB⟩ := hrel
   cases gk with
   | zero => exact absurd HA.out (by simp [spec_DistancesTo.l0])
   | succ k1 =>
    have H := HA.out
    clear HA
    simp only [spec_DistancesTo.l0] at H
    obtain ⟨c9, H⟩ | ⟨c9, H⟩ := ie_ H
    ·have c9b0 := decide_eq_true c9
     clear c9
     obtain ⟨LMc10, H⟩ := il_ H
     obtain ⟨y249, hy249⟩ : ∃ y_ : List Int, y_ = (x9_1 ++ [(-1)]) := ⟨_, rfl⟩
     replace H : (spec_DistancesTo.l0 k1 l0 a1 a2 a3 y249 (wrap64 (x10_1 + 1))) = some r := by first | (rw [hy249]; with_reducible exact H) | (have H2_ := (Option.bind_some _ _).symm.trans H; rw [hy249]; with_reducible exact H2_) | (have H2_ := (Option.bind_some _ _).symm.trans H; with_reducible exact H2_) | with_reducible exact H | (rw [hy249]; exact H) | exact H
     have Ny249 := Aside0.mk hy249
     clear hy249
     have H' := Aside0.mk H
     clear H
     go_wp2_with (first | ((with_reducible refine gate_builtin (b := .append) (xs := #[.tmp 27, .tmp 28]) rfl ?_); at_builtin; refine Kd.R_append (Kd.int .i64) (w0 := w) w.heap.size rfl (.tmp 27) (.tmp 28) 57 3 (.int .i64 0) 8 rfl Try.underlying57 info3 rfl (by decide) (by omega) u9 x9_1 (-1) [.int .i64 (-1)] (fun _ => True) (fun _ => False) rfl rfl ?aP (fun _ hk => hk.elim) ?aF ?aO ?aB ?aS ?aL ?_; (case aP => exact rfl); (case aB => exact (sb)); (case aF => exact (fun _ _ => trivial)); (case aO => exact (sr HO_9)); (case aS => exact (below_size (sb))); (case aL => have := LMc10.out; omega); intro v250 w11 ho hb hg hat; rw [← Ny249.out] at ho; replace HB := Aside0.mk hb; have HO251 := Aside0.mk ho; clear HO_9; clear ho hb hg hat))
     go_roundg k1
     case measure => have := HK1.out; omega
     case rel => exact ⟨(y249), (wrap64 (x10_1 + 1)), sc, H', kk1, ⟨sr HO251⟩, ⟨sb⟩⟩
    ·have c9b0 := decide_eq_false c9
     clear c9
     obtain ⟨c12b0, H⟩ := id_ H
     obtain ⟨c13b0, H⟩ := id_ H
     obtain ⟨y252, hy252⟩ : ∃ y_ : List Int, y_ = (x9_1.set (a3 : Int).toNat 0) := ⟨_, rfl⟩
     replace H : (spec_DistancesTo.l1 k1 l0 a1 a2 a3 y252 (([a3] : List Int)) 0) = some r := by first | (rw [hy252]; with_reducible exact H) | (have H2_ := (Option.bind_some _ _).symm.trans H; rw [hy252]; with_reducible exact H2_) | (have H2_ := (Option.bind_some _ _).symm.trans H; with_reducible exact H2_) | with_reducible exact H | (rw [hy252]; exact H) | exact H
     have Ny252 := Aside0.mk hy252
     clear hy252
     obtain ⟨y253, hy253⟩ : ∃ y_ : List Int, y_ = (([a3] : List Int)) := ⟨_, rfl⟩
     replace H : (spec_DistancesTo.l1 k1 l0 a1 a2 a3 y252 y253 0) = some r := by first | (rw [hy253]; with_reducible exact H) | (have H2_ := (Option.bind_some _ _).symm.trans H; rw [hy253]; with_reducible exact H2_) | (have H2_ := (Option.bind_some _ _).symm.trans H; with_reducible exact H2_) | with_reducible exact H | (rw [hy253]; exact H) | exact H
     have Ny253 := Aside0.mk hy253
     clear hy253
     have H' := Aside0.mk H
     clear H
     have p14 : 0 ≤ (a3 : Int) := sa
     have q14 : (a3 : Int) < ((x9_1.length : Int) : Int) := sa
     obtain ⟨go14, co14, eo14, gb14, gl14, cl14, HG14⟩ := Kd.R_form HO_9.out (by omega)
     (first | cases eo14 | (injection eo14 with ea_ en_ ec_; (first | subst ea_ | (injection ea_ with ea_; subst ea_)); subst ec_; clear en_))
     have GB14 := Aside0.mk gb14
     have GG14 := Aside0.mk HG14
     clear gb14 gl14 HG14
     obtain ⟨hx14_0, hf14_0⟩ := Kd.R_celln 0 HO_9.out (a3 : Int) p14 q14
     replace p14 := eq_true p14
     replace q14 := eq_true q14
     have HP15 := Kd.R_putg HO_9.out (a3 : Int) 0
     go_wp2_with (first | ((with_reducible refine gate_store (t := 3) (p := 32) rfl ?_); refine store_event (t := 3) (p := 32) (v := ?vo_w16) (w1 := (wr.setCell ⟨go14, (a3 : Int).toNat, none⟩ (.int .i64 0))) ?hg ?ho ?hn ?hr ?_; (case ho => rfl); (case hg => rfl); (case hn => rfl); (case hr => first | (go_simp; done) | (go_simp; rfl)); intro w16 hw; have hg : wr.grownBy w16 (some go14) := (by rw [hw]; exact HP15.2); have hp_ : Kd.R (Kd.int .i64) 3 w16 w.heap.size (fun _ => True) (.slice (some ⟨go14, 0, none⟩) x9_1.length co14) y252 := (by rw [hw, Ny252.out]; exact HP15.1); clear HP15; replace HO_9 := Aside0.mk hp_; replace HB := Aside0.mk ((by rw [hw]; exact below_set (HB.out) GB14.out : Below w.heap.size w w16)); clear hg hw hp_) | ((with_reducible refine gate_dst (N := 34) rfl ?_); refine Kd.R_lit (Kd.int .i64) _ 3 ?hg (N := 34) ?hd (xs := ([a3] : List Int)) (inner := [.int .i64 a3]) (ok := fun _ => True) (okp := fun _ => True) ?hr ?hp (fun _ hk => hk) trivial (Below.refl _ _) (Nat.le_refl _) (by simp) ?_; (case hd => rfl); (case hg => rfl); (case hr => first | (go_simp; done) | (go_simp; rfl)); (case hp => exact (Reps.one (show Kd.M (Kd.int .i64) _ _ _ a3 [.int .i64 a3] from rfl) (Reps.none _ _))); intro v254 w17 ho18 hb hg_ hnew_; clear hg_ hnew_; (first | rw [← Ny253.out] at ho18 | (simp only [Int.reduceToNat] at ho18; rw [← Ny253.out] at ho18)); have HO255 := Aside0.mk (Kd.R_lower (Kd.R_new' ho18 (Kd.R_lt (sr HO_9))) (below_size (sb))); replace HO_9 := Aside0.mk (Kd.R_elder' (sr HO_9) (Kd.R_base ho18) hb); replace HB := bs hb; clear hb ho18))
     go_loopg [11, 12] k1 (fun kq v11 v12 w' => ∃ (x9_2 : List Int) (x11_2 : List Int) (x12_2 : Int), v12 = .int .i64 x12_2 ∧ Aside0 (spec_DistancesTo.l1 kq l0 a1 a2 a3 x9_2 x11_2 x12_2 = some r) ∧ Aside0 (kq ≤ k1) ∧ Aside0 (Kd.R (Kd.int .i64) 3 w' w.heap.size (fun k_ => some k_ ≠ (v11 : Value).ownBlock) (.slice (some ⟨go14, 0, none⟩) x9_1.length co14) x9_2) ∧ Aside0 (Kd.R (Kd.int .i64) 3 w' w.heap.size (fun k_ => some k_ ≠ ((.slice (some ⟨go14, 0, none⟩) x9_1.length co14) : Value).ownBlock) v11 x11_2) ∧ Aside0 (Below w.heap.size w w'))
     case atStart => exact ⟨(y252), (y253), (0), sc, H', kk0, ⟨by (with_reducible repeat (first | apply Kd.R_alloc | apply Kd.R_drewN | apply Kd.R_drew)); exact Kd.R_mono HO_9.out (fun _ hk => hk.2)⟩, ⟨by (with_reducible repeat (first | apply Kd.R_alloc | apply Kd.R_drewN | apply Kd.R_drew)); exact Kd.R_mono HO255.out (fun _ hk => hk.2)⟩, ⟨sb⟩⟩
     case round =>
      clear H'
      try clear c9
      try clear c9b0
      try clear c12b0
      try clear c13b0
      try clear p14
      try clear q14
      try clear hx14_0
      try clear p14
      try clear q14
      obtain ⟨x9_2, x11_2, x12_2, rfl, HA, HK2, HO_9, HO_11, HB⟩ := hrel
      have hl9_2 := (Kd.R_reads' HO_9.out).1
      rw [hl9_2] at HO_9
      (try simp only [hl9_2])
      (try simp only [hl9_2] at HO_11)
      cases gk with
      | zero => exact absurd HA.out (by simp [spec_DistancesTo.l1])
      | succ k2 =>
       have H := HA.out
       clear HA
       simp only [spec_DistancesTo.l1] at H
       obtain ⟨c19, H⟩ | ⟨c19, H⟩ := ie_ H
       ·have c19b0 := decide_eq_true c19
        clear c19
        obtain ⟨c20b0, H⟩ := id_ H
        have HC21 := Aside0.mk H
        clear H
        obtain ⟨Ao22, co22, eo22⟩ := Kd.R_slice HO_11.out
        subst eo22
        have p256 : 0 ≤ (x12_2 : Int) := sa
        have q256 : x12_2 < (x11_2.length : Int) := sa
        obtain ⟨ad256, e256, hx256_0⟩ := Kd.at_int (Kd.R_reads' HO_11.out).2.2 x12_2 p256 q256
        cases e256
        replace p256 := eq_true p256
        replace q256 := eq_true q256
        go_upto_region 14 with (fail)
        go_cut [52] (fun v52 wc => ∃ (kq : Nat) (x52_20 : Bool), v52 = .bool x52_20 ∧ Aside0 (spec_DistancesTo.j2 kq l0 a1 a2 a3 x9_2 x11_2 x12_2 (rd x11_2 x12_2) x52_20 = some r) ∧ Aside0 (kq ≤ k2) ∧ Aside0 (Kd.R (Kd.int .i64) 3 wc w.heap.size (fun k_ => some k_ ≠ ((.slice (some ad256) x11_2.length co22) : Value).ownBlock) (.slice (some ⟨go14, 0, none⟩) x9_2.length co14) x9_2) ∧ Aside0 (Kd.R (Kd.int .i64) 3 wc w.heap.size (fun k_ => some k_ ≠ ((.slice (some ⟨go14, 0, none⟩) x9_2.length co14) : Value).ownBlock) (.slice (some ad256) x11_2.length co22) x11_2) ∧ Aside0 (Below w.heap.size w wc))
        case first =>
         have H := HC21.out
         clear HC21
         obtain ⟨c23, H⟩ | ⟨c23, H⟩ := ie_ H
         ·have c23b0 : ((rd x11_2 x12_2) == a3) = true := beq_iff_eq.mpr c23
          have c23b1 : ((rd x11_2 x12_2) != a3) = false := bne_eq_false_iff_eq.mpr c23
          clear c23
          (first | rw [c23b0] | (simp only [i64_w, i32_w]; rw [c23b0]) | rw [c23b1] | skip)
          have H' := Aside0.mk H
          clear H
          go_wp2
          go_meet
          case rel => exact ⟨_, (false), sc, H', ⟨by have := HK1.out; have := HK2.out; first | omega | exact Nat.le_refl _⟩, ⟨by (try simp only [hl9_2]); (with_reducible repeat (first | apply Kd.R_alloc | apply Kd.R_drewN | apply Kd.R_drew)); exact HO_9.out⟩, ⟨by (try simp only [hl9_2]); (with_reducible repeat (first | apply Kd.R_alloc | apply Kd.R_drewN | apply Kd.R_drew)); exact HO_11.out⟩, ⟨sb⟩⟩
         ·have c23b0 : ((rd x11_2 x12_2) == a3) = false := beq_eq_false_iff_ne.mpr c23
          have c23b1 : ((rd x11_2 x12_2) != a3) = true := bne_iff_ne.mpr c23
          (first | rw [c23b0] | (simp only [i64_w, i32_w]; rw [c23b0]) | rw [c23b1] | skip)
          have H' := Aside0.mk H
          clear H
          go_wp2
          go_meet
          case rel => exact ⟨_, (decide ((rd x11_2 x12_2) ≥ a2)), sc, H', ⟨by have := HK1.out; have := HK2.out; first | omega | exact Nat.le_refl _⟩, ⟨by (try simp only [hl9_2]); (with_reducible repeat (first | apply Kd.R_alloc | apply Kd.R_drewN | apply Kd.R_drew)); exact HO_9.out⟩, ⟨by (try simp only [hl9_2]); (with_reducible repeat (first | apply Kd.R_alloc | apply Kd.R_drewN | apply Kd.R_drew)); exact HO_11.out⟩, ⟨sb⟩⟩
        case rest =>
         clear HC21
         try clear c9
         try clear c9b0
         try clear c12b0
         try clear c13b0
         try clear p14
         try clear q14
         try clear c19
         try clear c19b0
         try clear c20b0
         try clear c23
         try clear c23b0
         try clear c23b1
         try clear hx14_0
         try clear hx256_0
         try clear p14
         try clear p256
         try clear q14
         try clear q256
         obtain ⟨kq, x52_20, rfl, HA, HJ20, HO_9, HO_11, HB⟩ := hcut
         cases kq with
         | zero => exact absurd HA.out (by simp [spec_DistancesTo.j2])
         | succ kj20 =>
          have H := HA.out
          clear HA
          simp only [spec_DistancesTo.j2] at H
          obtain rfl | rfl := tt x52_20
          ·replace H := ip H
           have H' := Aside0.mk H
           clear H
           go_wp2
           (try simp only [← hl9_2])
           go_roundg kj20
           case measure => have := HK1.out; have := HK2.out; have := HJ20.out; omega
           case rel => exact ⟨(x9_2), (x11_2), (wrap64 (x12_2 + 1)), sc, H', ⟨by have := HK1.out; have := HK2.out; have := HJ20.out; omega⟩, ⟨by (try simp only [hl9_2]); (with_reducible repeat (first | apply Kd.R_alloc | apply Kd.R_drewN | apply Kd.R_drew)); exact HO_9.out⟩, ⟨by (try simp only [hl9_2]); (with_reducible repeat (first | apply Kd.R_alloc | apply Kd.R_drewN | apply Kd.R_drew)); exact HO_11.out⟩, ⟨sb⟩⟩
          ·replace H := im H
           obtain ⟨t257, A25, H⟩ := bnd H
           have H' := Aside0.mk H
           clear H
           go_wp2_with (first | ((with_reducible refine gate_callee (f := 67) rfl ?_); refine gL (some 55) Try.func67 #[.slice A0 l0.length c0, .int .i64 (rd x11_2 x12_2)] ?_; (with_reducible refine (spec_NeighborsIn.calls kj20 _ _ l0 (rd x11_2 x12_2) t257 _ ?side1 ?side2 A25.out).mono ?_); (case side1 => exact cb HR0); (case side2 => exact HC0.out); rintro e w26 ⟨v258, rfl, ho0, hb⟩; refine ⟨_, rfl, ?_⟩; have HO259 := Aside0.mk (Kd.R_lower (Kd.R_new' (Kd.R_new' ho0 (Kd.R_lt (sr HO_9))) (Kd.R_lt (sr HO_11))) (below_size (sb))); replace HO_9 := Aside0.mk (Kd.R_elder' (sr HO_9) (Kd.R_base ho0) hb); replace HO_11 := Aside0.mk (Kd.R_elder' (sr HO_11) (Kd.R_base ho0) hb); replace HB := bs hb; (try clear hb); (try clear hb2); (try clear hk); (try clear hi); (try clear ho0)))
           go_loopg [11, 15] kj20 (fun kq v11 v15 w' => ∃ (x9_4 : List Int) (x11_4 : List Int) (x15_4 : Int), v15 = .int .i64 x15_4 ∧ Aside0 (spec_DistancesTo.l2 kq l0 a1 a2 a3 x9_4 x11_4 x12_2 (rd x11_2 x12_2) t257 x15_4 = some r) ∧ Aside0 (kq ≤ kj20) ∧ Aside0 (Kd.R (Kd.int .i64) 3 w' w.heap.size (fun k_ => some k_ ≠ (v11 : Value).ownBlock ∧ some k_ ≠ (v258 : Value).ownBlock) (.slice (some ⟨go14, 0, none⟩) x9_2.length co14) x9_4) ∧ Aside0 (Kd.R (Kd.int .i64) 3 w' w.heap.size (fun k_ => some k_ ≠ ((.slice (some ⟨go14, 0, none⟩) x9_2.length co14) : Value).ownBlock ∧ some k_ ≠ (v258 : Value).ownBlock) v11 x11_4) ∧ Aside0 (Kd.R (Kd.int .i64) 3 w' w.heap.size (fun k_ => some k_ ≠ ((.slice (some ⟨go14, 0, none⟩) x9_2.length co14) : Value).ownBlock ∧ some k_ ≠ (v11 : Value).ownBlock) v258 t257) ∧ Aside0 (Below w.heap.size w w'))
           case atStart => exact ⟨(x9_2), (x11_2), (0), sc, H', kk0, ⟨by (try simp only [hl9_2]); (with_reducible repeat (first | apply Kd.R_alloc | apply Kd.R_drewN | apply Kd.R_drew)); exact HO_9.out⟩, ⟨by (try simp only [hl9_2]); (with_reducible repeat (first | apply Kd.R_alloc | apply Kd.R_drewN | apply Kd.R_drew)); exact HO_11.out⟩, ⟨by (try simp only [hl9_2]); (with_reducible repeat (first | apply Kd.R_alloc | apply Kd.R_drewN | apply Kd.R_drew)); exact Kd.R_mono HO259.out (fun _ hk => ⟨hk.1.2, hk.2⟩)⟩, ⟨sb⟩⟩
           case round =>
            clear H'
            try clear c9
            try clear c9b0
            try clear c12b0
            try clear c13b0
            try clear p14
            try clear q14
            try clear c19
            try clear c19b0
            try clear c20b0
            try clear c23
            try clear c23b0
            try clear c23b1
            try clear hx14_0
            try clear hx256_0
            try clear p14
            try clear p256
            try clear q14
            try clear q256
            obtain ⟨x9_4, x11_4, x15_4, rfl, HA, HK4, HO_9, HO_11, HO_14, HB⟩ := hrel
            have hl9_4 := (Kd.R_reads' HO_9.out).1
            rw [hl9_4] at HO_9
            (try simp only [hl9_4])
            (try simp only [hl9_4] at HO_11)
            (try simp only [hl9_4] at HO_14)
            cases gk with
            | zero => exact absurd HA.out (by simp [spec_DistancesTo.l2])
            | succ k4 =>
             have H := HA.out
             clear HA
             simp only [spec_DistancesTo.l2] at H
             obtain ⟨c27, H⟩ | ⟨c27, H⟩ := ie_ H
             ·have c27b0 := decide_eq_true c27
              clear c27
              obtain ⟨c28b0, H⟩ := id_ H
              obtain ⟨t261, A29, H⟩ := bnd H
              obtain rfl | rfl := tt t261
              ·replace H := ip H
               obtain ⟨c31b0, H⟩ := id_ H
               obtain ⟨c32b0, H⟩ := id_ H
               obtain ⟨c33, H⟩ | ⟨c33, H⟩ := ie_ H
               ·have c33b0 := decide_eq_true c33
                clear c33
                obtain ⟨c34b0, H⟩ := id_ H
                obtain ⟨c35b0, H⟩ := id_ H
                obtain ⟨y266, hy266⟩ : ∃ y_ : List Int, y_ = (x9_4.set ((rd t257 x15_4) : Int).toNat (wrap64 ((rd x9_4 (rd x11_2 x12_2)) + 1))) := ⟨_, rfl⟩
                replace H : (if x11_4.length < 17592186044416 then (spec_DistancesTo.l2 k4 l0 a1 a2 a3 y266 (x11_4 ++ [rd t257 x15_4]) x12_2 (rd x11_2 x12_2) t257 (wrap64 (x15_4 + 1))) else (none)) = some r := by first | (rw [hy266]; with_reducible exact H) | (have H2_ := (Option.bind_some _ _).symm.trans H; rw [hy266]; with_reducible exact H2_) | (have H2_ := (Option.bind_some _ _).symm.trans H; with_reducible exact H2_) | with_reducible exact H | (rw [hy266]; exact H) | exact H
                have Ny266 := Aside0.mk hy266
                clear hy266
                obtain ⟨LMc37, H⟩ := il_ H
                obtain ⟨y268, hy268⟩ : ∃ y_ : List Int, y_ = (x11_4 ++ [rd t257 x15_4]) := ⟨_, rfl⟩
                replace H : (spec_DistancesTo.l2 k4 l0 a1 a2 a3 y266 y268 x12_2 (rd x11_2 x12_2) t257 (wrap64 (x15_4 + 1))) = some r := by first | (rw [hy268]; with_reducible exact H) | (have H2_ := (Option.bind_some _ _).symm.trans H; rw [hy268]; with_reducible exact H2_) | (have H2_ := (Option.bind_some _ _).symm.trans H; with_reducible exact H2_) | with_reducible exact H | (rw [hy268]; exact H) | exact H
                have Ny268 := Aside0.mk hy268
                clear hy268
                have H' := Aside0.mk H
                clear H
                obtain ⟨Ao38, co38, eo38⟩ := Kd.R_slice HO_14.out
                subst eo38
                have p260 : 0 ≤ (x15_4 : Int) := sa
                have q260 : x15_4 < (t257.length : Int) := sa
                obtain ⟨ad260, e260, hx260_0⟩ := Kd.at_int (Kd.R_reads' HO_14.out).2.2 x15_4 p260 q260
                cases e260
                replace p260 := eq_true p260
                replace q260 := eq_true q260
                try go_wp2_with (first | ((with_reducible refine gate_callee (f := 16) rfl ?_); refine gL (some 68) Try.func16 #[.int .i64 (rd t257 x15_4), .int .i64 0, .int .i64 (wrap64 (a1 - 1))] ?_; (with_reducible refine (spec_l1In.calls (rd t257 x15_4) 0 (wrap64 (a1 - 1)) true _ A29.out).mono ?_); rintro e w' ⟨rfl, ⟨nd, rfl⟩⟩; refine ⟨_, rfl, ?_⟩; (try (rw  [drewN_self wr]; generalize hq_ : World.drewN wr _ = wr; have n0_ : Aside0 (Kd.R (Kd.int .i64) 3 wr w.heap.size _ u11 x11_4) := ⟨by rw [← hq_]; exact (sr HO_11)⟩; have n1_ : Aside0 (Kd.R (Kd.int .i64) 3 wr w.heap.size _ (.slice (some ad260) t257.length co38) t257) := ⟨by rw [← hq_]; exact (sr HO_14)⟩; have n2_ : Aside0 (Kd.R (Kd.int .i64) 3 wr w.heap.size (fun k_ => some k_ ≠ (u11 : Value).ownBlock ∧ some k_ ≠ (.slice (some ad260) t257.length co38 : Value).ownBlock) (.slice (some ⟨go14, 0, none⟩) x9_4.length co14) x9_4) := ⟨by rw [← hq_]; exact (sr HO_9)⟩; have n3_ : Aside0 (Below w.heap.size w wr) := ⟨by rw [← hq_]; exact (sb)⟩; clear HO_11 HO_14 HO_9 HB hq_; have HO_11 := n0_; have HO_14 := n1_; have HO_9 := n2_; have HB := n3_; clear n0_ n1_ n2_ n3_)); have p262 : 0 ≤ (x15_4 : Int) := sa; have q262 : x15_4 < (t257.length : Int) := sa; obtain ⟨ad262, e262, hx262_0⟩ := Kd.at_int (Kd.R_reads' HO_14.out).2.2 x15_4 p262 q262; obtain rfl : ad260 = ad262 := (by injection e262); replace p262 := eq_true p262; replace q262 := eq_true q262; have p263 : 0 ≤ ((rd t257 x15_4) : Int) := sa; have q263 : (rd t257 x15_4) < (x9_4.length : Int) := sa; obtain ⟨ad263, e263, hx263_0⟩ := Kd.at_int (Kd.R_reads' HO_9.out).2.2 (rd t257 x15_4) p263 q263; obtain rfl : (⟨go14, 0, none⟩ : Addr) = ad263 := (by injection e263); (first | simp only [add_plain] at hx263_0 | simp only [add_at] at hx263_0 | simp only [Addr.add, Nat.zero_add] at hx263_0 | skip); replace p263 := eq_true p263; replace q263 := eq_true q263))
                replace HO_9 := Aside0.mk (Kd.R_drew HO_9.out)
                replace HO_11 := Aside0.mk (Kd.R_drew HO_11.out)
                replace HO_14 := Aside0.mk (Kd.R_drew HO_14.out)
                replace HB := Aside0.mk (below_drew1 HB.out)
                have p264 : 0 ≤ (x15_4 : Int) := sa
                have q264 : x15_4 < (t257.length : Int) := sa
                obtain ⟨ad264, e264, hx264_0⟩ := Kd.at_int (Kd.R_reads' HO_14.out).2.2 x15_4 p264 q264
                obtain rfl : ad260 = ad264 := (by injection e264)
                replace p264 := eq_true p264
                replace q264 := eq_true q264
                have p265 : 0 ≤ ((rd x11_2 x12_2) : Int) := sa
                have q265 : (rd x11_2 x12_2) < (x9_4.length : Int) := sa
                obtain ⟨ad265, e265, hx265_0⟩ := Kd.at_int (Kd.R_reads' HO_9.out).2.2 (rd x11_2 x12_2) p265 q265
                obtain rfl : (⟨go14, 0, none⟩ : Addr) = ad265 := (by injection e265)
                (first | simp only [add_plain] at hx265_0 | simp only [add_at] at hx265_0 | simp only [Addr.add, Nat.zero_add] at hx265_0 | skip)
                replace p265 := eq_true p265
                replace q265 := eq_true q265
                have p36 : 0 ≤ ((rd t257 x15_4) : Int) := sa
                have q36 : ((rd t257 x15_4) : Int) < ((x9_4.length : Int) : Int) := sa
                obtain ⟨hx36_0, hf36_0⟩ := Kd.R_celln 0 HO_9.out ((rd t257 x15_4) : Int) p36 q36
                replace p36 := eq_true p36
                replace q36 := eq_true q36
                have HP40 := Kd.R_putn HO_9.out ((rd t257 x15_4) : Int) (wrap64 ((rd x9_4 (rd x11_2 x12_2)) + 1))
                rw [← Ny266.out] at HP40
                have HQ40 := Aside0.mk HP40
                clear HP40
                refine start_ (n := 12) (S := fun w' => w'.cell? (ad260.add (x15_4).toNat) = some (.int .i64 (rd t257 x15_4)) ∧ w'.cell? ⟨go14, ((rd x11_2 x12_2)).toNat, none⟩ = some (.int .i64 (rd x9_4 (rd x11_2 x12_2)))) (ds := [11]) #[false, false, false, false, false, false, false, false, false, false, false, false] (by kernel_rfl) rfl rfl ⟨hx264_0, hx265_0⟩ (fun hHeld => ?_); refine with_tabW spec_DistancesTo.tab20 spec_DistancesTo.bits20 (fun HT_ HW_ => ?_)
                generalize wr.drew = w39 at HO_9 HO_11 HO_14 HB HQ40 hf36_0 hx264_0 hx265_0 hx36_0 hHeld ⊢
                refine put 0 79 #[true, false, false, false, false, false, false, false, false, false, false, false] HT_ ?_
                refine put 1 80 #[true, true, false, false, false, false, false, false, false, false, false, false] HT_ ?_
                refine put 2 81 #[true, true, true, false, false, false, false, false, false, false, false, false] HT_ ?_
                refine put 3 82 #[true, true, true, true, false, false, false, false, false, false, false, false] HT_ ?_
                refine put 5 84 #[true, true, true, true, false, true, false, false, false, false, false, false] HT_ ?_
                refine put 6 85 #[true, true, true, true, false, true, true, false, false, false, false, false] HT_ ?_
                refine put 7 86 #[true, true, true, true, false, true, true, true, false, false, false, false] HT_ ?_
                refine tat2 4 83 #[true, true, true, true, true, true, true, true, false, false, false, false] HT_ HW_ hHeld ?_
                refine tat2 8 87 #[true, true, true, true, true, true, true, true, true, false, false, false] HT_ HW_ hHeld ?_
                refine put 9 88 #[true, true, true, true, true, true, true, true, true, true, false, false] HT_ ?_
                refine put 10 89 #[true, true, true, true, true, true, true, true, true, true, true, false] HT_ ?_
                refine last_ (i := 11) (N := none) #[true, true, true, true, true, true, true, true, true, true, true, true] rfl rfl (one_of HT_.out (by kernel_rfl)) (by decide) (fun K hK => ?_)
                refine skip_ (w1 := ?_) (by rfl) rfl ?_ ?_
                rotate_left
                ·go_simp
                 rfl
                refine hK.out _ _ ?_
                clear hK K
                refine done_ (done_of HT_.out (by kernel_rfl)) ?_
                have p267 : 0 ≤ (x15_4 : Int) := sa
                have q267 : x15_4 < (t257.length : Int) := sa
                obtain ⟨ad267, e267, hx267_0⟩ := Kd.at_int (Kd.R_reads' HO_14.out).2.2 x15_4 p267 q267
                obtain rfl : ad260 = ad267 := (by injection e267)
                have hn267_0 : ad260.block ≠ go14 := (fun he_ => ((HO_14.out.1 _ rfl).1) (by rw [he_]; rfl))
                replace hx267_0 := (cell_far (p := ⟨go14, ((rd t257 x15_4) : Int).toNat, none⟩) (by first | (rw [add_block]; exact hn267_0) | (show (Addr.add _ _).block ≠ _; rw [add_block]; exact hn267_0) | exact hn267_0) (.int .i64 (wrap64 ((rd x9_4 (rd x11_2 x12_2)) + 1)))).trans hx267_0
                clear hn267_0
                replace p267 := eq_true p267
                replace q267 := eq_true q267
                try go_wp2_with (first | ((with_reducible refine gate_builtin (b := .append) (xs := #[.tmp 90, .tmp 95]) rfl ?_); at_builtin; refine Kd.R_append (Kd.int .i64) (w0 := w) w.heap.size rfl (.tmp 90) (.tmp 95) 57 3 (.int .i64 0) 8 rfl Try.underlying57 info3 rfl (by decide) (by omega) u11 x11_4 (rd t257 x15_4) [.int .i64 (rd t257 x15_4)] (fun k_ => some k_ ≠ (.slice (some ⟨go14, 0, none⟩) x9_4.length co14 : Value).ownBlock ∧ some k_ ≠ (.slice (some ad260) t257.length co38 : Value).ownBlock) (fun _ => False) rfl (by first | (go_simp; done) | (go_simp; rfl)) ?aP (fun _ hk => hk.elim) ?aF ?aO ?aB ?aS ?aL ?_; (case aP => exact rfl); (case aB => exact (sbw)); (case aF => exact (fun k_ hk => ⟨Kd.fresh' (Kd.R_lt (sr HQ40)) k_ hk, Kd.fresh' (Kd.R_lt (by (with_reducible repeat (first | apply Kd.R_alloc | apply Kd.R_drewN | apply Kd.R_drew)); exact (Kd.R_mono (Kd.R_far (p := ⟨go14, ((rd t257 x15_4) : Int).toNat, none⟩) (Kd.R_mono HO_14.out (fun k_ hk => (⟨hk, fun e_ => hk.1 (by rw [e_]; rfl)⟩ : _ ∧ k_ ≠ go14))) (fun _ hk => hk.2) (.int .i64 (wrap64 ((rd x9_4 (rd x11_2 x12_2)) + 1)))) (fun _ h_ => h_.1)))) k_ hk⟩)); (case aO => exact (by (with_reducible repeat (first | apply Kd.R_alloc | apply Kd.R_drewN | apply Kd.R_drew)); exact Kd.R_mono (Kd.R_far (p := ⟨go14, ((rd t257 x15_4) : Int).toNat, none⟩) (Kd.R_mono HO_11.out (fun k_ hk => (⟨hk, fun e_ => hk.1 (by rw [e_]; rfl)⟩ : _ ∧ k_ ≠ go14))) (fun _ hk => hk.2) (.int .i64 (wrap64 ((rd x9_4 (rd x11_2 x12_2)) + 1)))) (fun _ hk => ⟨hk.1.1, hk.1.2⟩))); (case aS => exact (below_size (sbw))); (case aL => have := LMc37.out; omega); intro v269 w41 ho hb hg hat; rw [← Ny268.out] at ho; replace HO_9 := Aside0.mk (Kd.R_after (ok := (fun k_ => some k_ ≠ (.slice (some ad260) t257.length co38 : Value).ownBlock)) (by (with_reducible repeat (first | apply Kd.R_alloc | apply Kd.R_drewN | apply Kd.R_drew)); exact Kd.R_mono HQ40.out (fun _ hk => ⟨hk.2, hk.1⟩)) hg hat); replace HO_14 := Aside0.mk (Kd.R_after (ok := (fun k_ => some k_ ≠ (.slice (some ⟨go14, 0, none⟩) x9_4.length co14 : Value).ownBlock)) (by (with_reducible repeat (first | apply Kd.R_alloc | apply Kd.R_drewN | apply Kd.R_drew)); exact Kd.R_mono (Kd.R_far (p := ⟨go14, ((rd t257 x15_4) : Int).toNat, none⟩) (Kd.R_mono HO_14.out (fun k_ hk => (⟨hk, fun e_ => hk.1 (by rw [e_]; rfl)⟩ : _ ∧ k_ ≠ go14))) (fun _ hk => hk.2) (.int .i64 (wrap64 ((rd x9_4 (rd x11_2 x12_2)) + 1)))) (fun _ hk => ⟨hk.1.1, hk.1.2⟩)) hg hat); replace HB := Aside0.mk hb; have HO270 := Aside0.mk ho; clear HO_11; clear ho hb hg hat))
                (try simp only [← hl9_4])
                go_roundg k4
                case measure => have := HK1.out; have := HK2.out; have := HJ20.out; have := HK4.out; omega
                case rel => exact ⟨(y266), (y268), (wrap64 (x15_4 + 1)), sc, H', ⟨by have := HK1.out; have := HK2.out; have := HJ20.out; have := HK4.out; omega⟩, ⟨by (try simp only [hl9_2]); (try simp only [hl9_4]); (with_reducible repeat (first | apply Kd.R_alloc | apply Kd.R_drewN | apply Kd.R_drew)); exact Kd.R_mono HO_9.out (fun _ hk => ⟨hk.2, hk.1⟩)⟩, ⟨by (try simp only [hl9_2]); (try simp only [hl9_4]); (with_reducible repeat (first | apply Kd.R_alloc | apply Kd.R_drewN | apply Kd.R_drew)); exact HO270.out⟩, ⟨by (try simp only [hl9_2]); (try simp only [hl9_4]); (with_reducible repeat (first | apply Kd.R_alloc | apply Kd.R_drewN | apply Kd.R_drew)); exact HO_14.out⟩, ⟨sb⟩⟩
               ·have c33b0 := decide_eq_false c33
                clear c33
                have H' := Aside0.mk H
                clear H
                obtain ⟨Ao42, co42, eo42⟩ := Kd.R_slice HO_14.out
                subst eo42
                have p260 : 0 ≤ (x15_4 : Int) := sa
                have q260 : x15_4 < (t257.length : Int) := sa
                obtain ⟨ad260, e260, hx260_0⟩ := Kd.at_int (Kd.R_reads' HO_14.out).2.2 x15_4 p260 q260
                cases e260
                replace p260 := eq_true p260
                replace q260 := eq_true q260
                go_wp2_with (first | ((with_reducible refine gate_callee (f := 16) rfl ?_); refine gL (some 68) Try.func16 #[.int .i64 (rd t257 x15_4), .int .i64 0, .int .i64 (wrap64 (a1 - 1))] ?_; (with_reducible refine (spec_l1In.calls (rd t257 x15_4) 0 (wrap64 (a1 - 1)) true _ A29.out).mono ?_); rintro e w' ⟨rfl, ⟨nd, rfl⟩⟩; refine ⟨_, rfl, ?_⟩; have p262 : 0 ≤ (x15_4 : Int) := sa; have q262 : x15_4 < (t257.length : Int) := sa; obtain ⟨ad262, e262, hx262_0⟩ := Kd.at_int (Kd.R_reads' HO_14.out).2.2 x15_4 p262 q262; obtain rfl : ad260 = ad262 := (by injection e262); replace p262 := eq_true p262; replace q262 := eq_true q262; have p263 : 0 ≤ ((rd t257 x15_4) : Int) := sa; have q263 : (rd t257 x15_4) < (x9_4.length : Int) := sa; obtain ⟨ad263, e263, hx263_0⟩ := Kd.at_int (Kd.R_reads' HO_9.out).2.2 (rd t257 x15_4) p263 q263; obtain rfl : (⟨go14, 0, none⟩ : Addr) = ad263 := (by injection e263); (first | simp only [add_plain] at hx263_0 | simp only [add_at] at hx263_0 | simp only [Addr.add, Nat.zero_add] at hx263_0 | skip); replace p263 := eq_true p263; replace q263 := eq_true q263))
                (try simp only [← hl9_4])
                go_roundg k4
                case measure => have := HK1.out; have := HK2.out; have := HJ20.out; have := HK4.out; omega
                case rel => exact ⟨(x9_4), (x11_4), (wrap64 (x15_4 + 1)), sc, H', ⟨by have := HK1.out; have := HK2.out; have := HJ20.out; have := HK4.out; omega⟩, ⟨by (try simp only [hl9_2]); (try simp only [hl9_4]); (with_reducible repeat (first | apply Kd.R_alloc | apply Kd.R_drewN | apply Kd.R_drew)); exact HO_9.out⟩, ⟨by (try simp only [hl9_2]); (try simp only [hl9_4]); (with_reducible repeat (first | apply Kd.R_alloc | apply Kd.R_drewN | apply Kd.R_drew)); exact HO_11.out⟩, ⟨by (try simp only [hl9_2]); (try simp only [hl9_4]); (with_reducible repeat (first | apply Kd.R_alloc | apply Kd.R_drewN | apply Kd.R_drew)); exact HO_14.out⟩, ⟨sb⟩⟩
              ·replace H := im H
               have H' := Aside0.mk H
               clear H
               obtain ⟨Ao43, co43, eo43⟩ := Kd.R_slice HO_14.out
               subst eo43
               have p260 : 0 ≤ (x15_4 : Int) := sa
               have q260 : x15_4 < (t257.length : Int) := sa
               obtain ⟨ad260, e260, hx260_0⟩ := Kd.at_int (Kd.R_reads' HO_14.out).2.2 x15_4 p260 q260
               cases e260
               replace p260 := eq_true p260
               replace q260 := eq_true q260
               go_wp2_with (first | ((with_reducible refine gate_callee (f := 16) rfl ?_); refine gL (some 68) Try.func16 #[.int .i64 (rd t257 x15_4), .int .i64 0, .int .i64 (wrap64 (a1 - 1))] ?_; (with_reducible refine (spec_l1In.calls (rd t257 x15_4) 0 (wrap64 (a1 - 1)) false _ A29.out).mono ?_); rintro e w' ⟨rfl, ⟨nd, rfl⟩⟩; refine ⟨_, rfl, ?_⟩))
               (try simp only [← hl9_4])
               go_roundg k4
               case measure => have := HK1.out; have := HK2.out; have := HJ20.out; have := HK4.out; omega
               case rel => exact ⟨(x9_4), (x11_4), (wrap64 (x15_4 + 1)), sc, H', ⟨by have := HK1.out; have := HK2.out; have := HJ20.out; have := HK4.out; omega⟩, ⟨by (try simp only [hl9_2]); (try simp only [hl9_4]); (with_reducible repeat (first | apply Kd.R_alloc | apply Kd.R_drewN | apply Kd.R_drew)); exact HO_9.out⟩, ⟨by (try simp only [hl9_2]); (try simp only [hl9_4]); (with_reducible repeat (first | apply Kd.R_alloc | apply Kd.R_drewN | apply Kd.R_drew)); exact HO_11.out⟩, ⟨by (try simp only [hl9_2]); (try simp only [hl9_4]); (with_reducible repeat (first | apply Kd.R_alloc | apply Kd.R_drewN | apply Kd.R_drew)); exact HO_14.out⟩, ⟨sb⟩⟩
             ·have c27b0 := decide_eq_false c27
              clear c27
              have H' := Aside0.mk H
              clear H
              obtain ⟨Ao44, co44, eo44⟩ := Kd.R_slice HO_14.out
              subst eo44
              go_wp2
              (try simp only [← hl9_2, ← hl9_4])
              go_roundg k4
              case measure => have := HK1.out; have := HK2.out; have := HJ20.out; have := HK4.out; omega
              case rel => exact ⟨(x9_4), (x11_4), (wrap64 (x12_2 + 1)), sc, H', ⟨by have := HK1.out; have := HK2.out; have := HJ20.out; have := HK4.out; omega⟩, ⟨by (try simp only [hl9_2]); (try simp only [hl9_4]); (with_reducible repeat (first | apply Kd.R_alloc | apply Kd.R_drewN | apply Kd.R_drew)); exact Kd.R_mono HO_9.out (fun _ hk => hk.1)⟩, ⟨by (try simp only [hl9_2]); (try simp only [hl9_4]); (with_reducible repeat (first | apply Kd.R_alloc | apply Kd.R_drewN | apply Kd.R_drew)); exact Kd.R_mono HO_11.out (fun _ hk => hk.1)⟩, ⟨sb⟩⟩
       ·have c19b0 := decide_eq_false c19
        clear c19
        obtain rfl := Option.some.inj H
        obtain ⟨Ao45, co45, eo45⟩ := Kd.R_slice HO_11.out
        subst eo45
        go_wp2
        go_ret
        exact ⟨_, se, by (with_reducible repeat (first | apply Kd.R_alloc | apply Kd.R_drewN | apply Kd.R_drew)); exact Kd.R_mono HO_9.out (fun _ hk => trivial), sb⟩
 ·replace H := im H
  obtain ⟨y243, hy243⟩ : ∃ y_ : List Int, y_ = (([] : List Int)) := ⟨_, rfl⟩
  replace H : (some y243) = some r := by first | (rw [hy243]; with_reducible exact H) | (have H2_ := (Option.bind_some _ _).symm.trans H; rw [hy243]; with_reducible exact H2_) | (have H2_ := (Option.bind_some _ _).symm.trans H; with_reducible exact H2_) | with_reducible exact H | (rw [hy243]; exact H) | exact H
  have Ny243 := Aside0.mk hy243
  clear hy243
  obtain rfl := Option.some.inj H
  go_enter Try.func54, Try.ntmps54
  go_wp2_with (first | ((with_reducible refine gate_callee (f := 66) rfl ?_); refine gL (some 18) Try.func66 #[.int .i64 a1, .int .i64 a3] ?_; (with_reducible refine (spec_l14Ok.calls a1 a3 false _ A5.out).mono ?_); rintro e w' ⟨rfl, ⟨nd, rfl⟩⟩; refine ⟨_, rfl, ?_⟩) | ((with_reducible refine gate_dst (N := 20) rfl ?_); refine Kd.R_lit (Kd.int .i64) _ 3 ?hg (N := 20) ?hd (xs := ([] : List Int)) (inner := []) (ok := fun _ => True) (okp := fun _ => True) ?hr ?hp (fun _ hk => hk) trivial (Below.refl _ _) (Nat.le_refl _) (by simp) ?_; (case hd => rfl); (case hg => rfl); (case hr => first | (go_simp; done) | (go_simp; rfl)); (case hp => exact (Reps.none _ _)); intro v244 w46 ho47 hb hg_ hnew_; clear hg_ hnew_; (first | rw [← Ny243.out] at ho47 | (simp only [Int.reduceToNat] at ho47; rw [← Ny243.out] at ho47)); have HO245 := Aside0.mk (Kd.R_lower ho47 (below_size (sb))); replace HB := bs hb; clear hb ho47))
  go_ret
  exact ⟨_, se, sr HO245, sb⟩

end Go.Proofs.Ytcjlbgbenjmkgaa.QFnExactBuildProgram
