/- Printed by a program of the session. Conditions: none. (squeezed). -/
import Derived.Test.YtiihaabhjphaeaaVFnProgramsQFnProgramsx7
namespace Go.Proofs.Ytiihaabhjphaeaa.QFnPrograms
set_option maxHeartbeats 8000000
set_option maxRecDepth 100000
open Go.RowKit Go.Proofs.YtiihaabhjphaeaaW.PrintWords Go.Proofs.YtiihaabhjphaeaaW.PrintLast Go.Proofs.YtiihaabhjphaeaaW.PrintMore Go.Proofs.Ytiihaabhjphaeaa.Open Go.Proofs.Ytiihaabhjphaeaa.Sq
attribute [local go_sem] max2_int min2_int max_two min_two max_three min_three max_four min_four   -- for this text's walks alone
attribute [local go_sem] isSome_set
set_option linter.unusedVariables false
set_option linter.unusedSimpArgs false

mutual
def spec_l11Plan.l0 : Nat → Int → Int → List (S137) → Int → List Int → Int → Int → Option ((List (S137)) × Int × Int)
  | 0, _, _, _, _, _, _, _ => none
  | k + 1, x1, x2, x7, x8, x1000, x1001, x1002 => if x8 < x1 then (spec_l11Plan.l1 k x1 x2 x7 x8 (wrap64 (x8 + 1)) x1000 x1001 x1002) else (some (x7, x1001, x1002))
def spec_l11Plan.l1 : Nat → Int → Int → List (S137) → Int → Int → List Int → Int → Int → Option ((List (S137)) × Int × Int)
  | 0, _, _, _, _, _, _, _, _ => none
  | k + 1, x1, x2, x7, x8, x9, x1000, x1001, x1002 => if x9 < x1 then ((spec_l1Below.f x1000 x1001 x1002 5).bind fun bt260 => ((spec_l1Below.f x1000 bt260.2.1 bt260.2.2 3).bind fun bt263 => (spec_l11Plan.l2 k x1 x2 x7 x8 x9 bt260.1 bt263.1 x1000 bt263.2.1 bt263.2.2))) else (spec_l11Plan.l0 k x1 x2 x7 (wrap64 (x8 + 1)) x1000 x1001 x1002)
def spec_l11Plan.l2 : Nat → Int → Int → List (S137) → Int → Int → Int → Int → List Int → Int → Int → Option ((List (S137)) × Int × Int)
  | 0, _, _, _, _, _, _, _, _, _, _ => none
  | k + 1, x1, x2, x7, x8, x9, x10, x11, x1000, x1001, x1002 => if x11 > 0 then (spec_l11Plan.j3 k x1 x2 x7 x8 x9 x10 x11 (decide (x10 < x2)) x1000 x1001 x1002) else (spec_l11Plan.j3 k x1 x2 x7 x8 x9 x10 x11 false x1000 x1001 x1002)
def spec_l11Plan.j3 : Nat → Int → Int → List (S137) → Int → Int → Int → Int → Bool → List Int → Int → Int → Option ((List (S137)) × Int × Int)
  | 0, _, _, _, _, _, _, _, _, _, _, _ => none
  | k + 1, x1, x2, x7, x8, x9, x10, x11, x36, x1000, x1001, x1002 => if x36 = true then ((spec_l1Below.f x1000 x1001 x1002 9).bind fun bt266 => ((spec_Min.f x2 (wrap64 ((wrap64 (x10 + 2)) + bt266.1))).bind fun t269 => (if x7.length < 4398046511104 then ((spec_l1Below.f x1000 bt266.2.1 bt266.2.2 6).bind fun bt273 => (spec_l11Plan.l2 k x1 x2 (x7 ++ [(⟨x8, x9, x10, t269⟩ : S137)]) x8 x9 (wrap64 ((wrap64 (t269 + 1)) + bt273.1)) (wrap64 (x11 - 1)) x1000 bt273.2.1 bt273.2.2)) else (none)))) else (spec_l11Plan.l1 k x1 x2 x7 x8 (wrap64 (x9 + 1)) x1000 x1001 x1002)
end
def spec_l11Plan.f (k : Nat) (s0_0 : List Int) (s0_1 : Int) (s0_2 : Int) (a1 : Int) (a2 : Int) : Option ((List (S137)) × Int × Int) := spec_l11Plan.l0 k a1 a2 (([] : List (S137))) 0 s0_0 s0_1 s0_2
theorem spec_l11Plan.mono_l : ∀ k, (∀ y0 y1 y2 y3 y4 y5 y6, LeO (spec_l11Plan.l0 k y0 y1 y2 y3 y4 y5 y6) (spec_l11Plan.l0 (k + 1) y0 y1 y2 y3 y4 y5 y6)) ∧ (∀ y0 y1 y2 y3 y4 y5 y6 y7, LeO (spec_l11Plan.l1 k y0 y1 y2 y3 y4 y5 y6 y7) (spec_l11Plan.l1 (k + 1) y0 y1 y2 y3 y4 y5 y6 y7)) ∧ (∀ y0 y1 y2 y3 y4 y5 y6 y7 y8 y9, LeO (spec_l11Plan.l2 k y0 y1 y2 y3 y4 y5 y6 y7 y8 y9) (spec_l11Plan.l2 (k + 1) y0 y1 y2 y3 y4 y5 y6 y7 y8 y9)) ∧ (∀ y0 y1 y2 y3 y4 y5 y6 y7 y8 y9 y10, LeO (spec_l11Plan.j3 k y0 y1 y2 y3 y4 y5 y6 y7 y8 y9 y10) (spec_l11Plan.j3 (k + 1) y0 y1 y2 y3 y4 y5 y6 y7 y8 y9 y10))
  | 0 => ⟨fun _ _ _ _ _ _ _ r h => by simp [spec_l11Plan.l0] at h, fun _ _ _ _ _ _ _ _ r h => by simp [spec_l11Plan.l1] at h, fun _ _ _ _ _ _ _ _ _ _ r h => by simp [spec_l11Plan.l2] at h, fun _ _ _ _ _ _ _ _ _ _ _ r h => by simp [spec_l11Plan.j3] at h⟩
  | k + 1 => by
    obtain ⟨ih0, ih1, ih2, ih3⟩ := spec_l11Plan.mono_l k
    refine ⟨?_, ?_, ?_, ?_⟩
    · intro y0 y1 y2 y3 y4 y5 y6
      unfold spec_l11Plan.l0
      exact mo
    · intro y0 y1 y2 y3 y4 y5 y6 y7
      unfold spec_l11Plan.l1
      exact mo
    · intro y0 y1 y2 y3 y4 y5 y6 y7 y8 y9
      unfold spec_l11Plan.l2
      exact mo
    · intro y0 y1 y2 y3 y4 y5 y6 y7 y8 y9 y10
      unfold spec_l11Plan.j3
      exact mo
theorem spec_l11Plan.mono : ∀ a0 a1 a2 a3 a4 k, LeO (spec_l11Plan.f k a0 a1 a2 a3 a4) (spec_l11Plan.f (k + 1) a0 a1 a2 a3 a4) := by
  intro a0 a1 a2 a3 a4 k
  obtain ⟨ih0, ih1, ih2, ih3⟩ := spec_l11Plan.mono_l k
  unfold spec_l11Plan.f
  exact mo
theorem spec_l11Plan.calls (k : Nat) (g : Nat) (s0_0 : List Int) (s0_1 : Int) (s0_2 : Int) (a1 : Int) (a2 : Int) (r1 : List (S137)) (r2 : Int) (r3 : Int) (w0 w : World) (hI : IsS152 w0 w g s0_0 s0_1 s0_2) (hB : Below w0.heap.size w0 w) (h : spec_l11Plan.f k s0_0 s0_1 s0_2 a1 a2 = some (r1, r2, r3)) :
    Calls Try.prog 106 #[.pointer (some ⟨g, 0, none⟩), .int .i64 a1, .int .i64 a2] w fun e w' => ∃ v0_ : Value, e = .returned (v0_) ∧ Kd.R k137 137 w' w.heap.size (fun _ => True) v0_ r1 ∧ IsS152 w0 w' g s0_0 r2 r3 ∧ Below w0.heap.size w0 w' ∧ KeepBut w w' g none := by
 have hu137 := Try.underlying137
 have HI0 := am hI
 have HK := am (KeepBut.refl w g none)
 have HL := am hB.size
 clear hI
 have HW0 := am hB.size
 have HB := am hB
 clear hB
 have H := h; unfold spec_l11Plan.f at H
 clear h
 obtain ⟨y257, hy257⟩ : ∃ y_ : List (S137), y_ = (([] : List (S137))) := ⟨_, rfl⟩
 replace H : (spec_l11Plan.l0 k a1 a2 y257 0 s0_0 s0_1 s0_2) = some (r1, r2, r3) := ry hy257 H
 have Ny257 := am hy257
 clear hy257
 have H' := am H
 clear H
 go_enter Try.func106, Try.ntmps106
 go_wp2_with (first | ((with_reducible refine gd 13 rfl ?_); refine Kd.R_lit k137 _ 137 ?hg (N := 13) ?hd (xs := ([] : List (S137))) (inner := []) (ok := fun _ => True) (okp := fun _ => True) ?hr ?hp (fun _ hk => hk) trivial (Below.refl _ _) (Nat.le_refl _) (by simp) ?_; (case hd => rfl); (case hg => rfl); (case hr => first | (go_simp; done) | (go_simp; rfl)); (case hp => exact (Reps.none _ _)); intro v258 w4 ho5 hb hg_ hnew_; clear hg_ hnew_; (first | rw [← Ny257.out] at ho5 | (simp only [Int.reduceToNat] at ho5; rw [← Ny257.out] at ho5)); have HO259 := am (Kd.R_lower ho5 (keep_size (w := w) (g := g) (row := none) (by exact kp HK))); replace HK := am (KeepBut.trans (by exact kp HK) (KeepBut.of_below hb g none) (.inl rfl)); replace HB := am (below_step (by exact sj152 HB HI0) hb); replace HI0 := am (IsS152.below (by exact si152 HI0) hb); clear hb ho5))
 go_loopg [7, 8] k (fun kq v7 v8 w' => ∃ (x7_1 : List (S137)) (x8_1 : Int) (x1001_1 : Int) (x1002_1 : Int), v8 = .int .i64 x8_1 ∧ Aside0 (spec_l11Plan.l0 kq a1 a2 x7_1 x8_1 s0_0 x1001_1 x1002_1 = some (r1, r2, r3)) ∧ Aside0 (kq ≤ k) ∧ Aside0 (Kd.R k137 137 w' w.heap.size (fun _ => True) v7 x7_1) ∧ Aside0 (IsS152 w0 w' g s0_0 x1001_1 x1002_1) ∧ Aside0 (KeepBut w w' g none) ∧ Aside0 (Below w0.heap.size w0 w'))
 case atStart => exact ⟨(y257), (0), (s0_1), (s0_2), sc, H', kk0, ⟨sr HO259⟩, ⟨by exact si152 HI0⟩, ⟨by exact kp HK⟩, ⟨by exact sj152 HB HI0⟩⟩
 case round =>
  clear H'
  obtain ⟨x7_1, x8_1, x1001_1, x1002_1, rfl, HA, HK1, HO_7, HI0, HK, HB⟩ := hrel
  cases gk with
  | zero => exact absurd HA.out (by simp [spec_l11Plan.l0])
  | succ k1 =>
   have H := HA.out
   clear HA
   simp only [spec_l11Plan.l0] at H
   obtain ⟨c6, H⟩ | ⟨c6, H⟩ := ie_ H
   ·have c6b0 := decide_eq_true c6
    clear c6
    have H' := am H
    clear H
    go_wp2
    go_loopg [7, 9] k1 (fun kq v7 v9 w' => ∃ (x7_2 : List (S137)) (x9_2 : Int) (x1001_2 : Int) (x1002_2 : Int), v9 = .int .i64 x9_2 ∧ Aside0 (spec_l11Plan.l1 kq a1 a2 x7_2 x8_1 x9_2 s0_0 x1001_2 x1002_2 = some (r1, r2, r3)) ∧ Aside0 (kq ≤ k1) ∧ Aside0 (Kd.R k137 137 w' w.heap.size (fun _ => True) v7 x7_2) ∧ Aside0 (IsS152 w0 w' g s0_0 x1001_2 x1002_2) ∧ Aside0 (KeepBut w w' g none) ∧ Aside0 (Below w0.heap.size w0 w'))
    case atStart => exact ⟨(x7_1), (wrap64 (x8_1 + 1)), (x1001_1), (x1002_1), sc, H', kk0, ⟨sr HO_7⟩, ⟨by exact si152 HI0⟩, ⟨by exact kp HK⟩, ⟨by exact sj152 HB HI0⟩⟩
    case round =>
     clear H'
     try clear c6
     try clear c6b0
     obtain ⟨x7_2, x9_2, x1001_2, x1002_2, rfl, HA, HK2, HO_7, HI0, HK, HB⟩ := hrel
     cases gk with
     | zero => exact absurd HA.out (by simp [spec_l11Plan.l1])
     | succ k2 =>
      have H := HA.out
      clear HA
      simp only [spec_l11Plan.l1] at H
      obtain ⟨c7, H⟩ | ⟨c7, H⟩ := ie_ H
      ·have c7b0 := decide_eq_true c7
       clear c7
       obtain ⟨⟨t260, t261, t262⟩, A8, H⟩ := bnd H
       dsimp only at H
       obtain ⟨⟨t263, t264, t265⟩, A9, H⟩ := bnd H
       dsimp only at H
       have H' := am H
       clear H
       go_wp2_with (first | ((with_reducible refine gc 76 rfl ?_); refine gL (some 27) Try.func76 #[.pointer (some ⟨g, 0, none⟩), .int .i64 5] ?_; (with_reducible refine (spec_l1Below.calls g s0_0 x1001_2 x1002_2 5 t260 t261 t262 w0 _ ?side1 ?side2 A8.out).mono ?_); (case side1 => exact si152 HI0); (case side2 => exact sj152 HB HI0); rintro e w10 ⟨rfl, hi, hb, hk⟩; refine ⟨_, rfl, ?_⟩; replace HO_7 := am (Kd.R_mono (Kd.R_keep (IsS152.apart (show IsS152 w0 _ g s0_0 x1001_2 x1002_2 from by exact si152 HI0) (sr HO_7) (by decide)) hk (fun _ h => h.2)) (fun _ h => h.1)); replace HK := am (KeepBut.trans (by exact kp HK) hk (.inl rfl)); replace HB := am hb; replace HI0 := am hi; (try clear hb); (try clear hk); (try clear hi)) | ((with_reducible refine gc 76 rfl ?_); refine gL (some 29) Try.func76 #[.pointer (some ⟨g, 0, none⟩), .int .i64 3] ?_; (with_reducible refine (spec_l1Below.calls g s0_0 t261 t262 3 t263 t264 t265 w0 _ ?side1 ?side2 A9.out).mono ?_); (case side1 => exact si152 HI0); (case side2 => exact sj152 HB HI0); rintro e w11 ⟨rfl, hi, hb, hk⟩; refine ⟨_, rfl, ?_⟩; replace HO_7 := am (Kd.R_mono (Kd.R_keep (IsS152.apart (show IsS152 w0 _ g s0_0 t261 t262 from by exact si152 HI0) (sr HO_7) (by decide)) hk (fun _ h => h.2)) (fun _ h => h.1)); replace HK := am (KeepBut.trans (by exact kp HK) hk (.inl rfl)); replace HB := am hb; replace HI0 := am hi; (try clear hb); (try clear hk); (try clear hi)))
       go_loopg [7, 10, 11] k2 (fun kq v7 v10 v11 w' => ∃ (x7_3 : List (S137)) (x10_3 : Int) (x11_3 : Int) (x1001_3 : Int) (x1002_3 : Int), v10 = .int .i64 x10_3 ∧ v11 = .int .i64 x11_3 ∧ Aside0 (spec_l11Plan.l2 kq a1 a2 x7_3 x8_1 x9_2 x10_3 x11_3 s0_0 x1001_3 x1002_3 = some (r1, r2, r3)) ∧ Aside0 (kq ≤ k2) ∧ Aside0 (Kd.R k137 137 w' w.heap.size (fun _ => True) v7 x7_3) ∧ Aside0 (IsS152 w0 w' g s0_0 x1001_3 x1002_3) ∧ Aside0 (KeepBut w w' g none) ∧ Aside0 (Below w0.heap.size w0 w'))
       case atStart => exact ⟨(x7_2), (t260), (t263), (t264), (t265), sc, sc, H', kk0, ⟨sr HO_7⟩, ⟨by exact si152 HI0⟩, ⟨by exact kp HK⟩, ⟨by exact sj152 HB HI0⟩⟩
       case round =>
        clear H'
        try clear c6
        try clear c6b0
        try clear c7
        try clear c7b0
        obtain ⟨x7_3, x10_3, x11_3, x1001_3, x1002_3, rfl, rfl, HA, HK3, HO_7, HI0, HK, HB⟩ := hrel
        cases gk with
        | zero => exact absurd HA.out (by simp [spec_l11Plan.l2])
        | succ k3 =>
         have H := HA.out
         clear HA
         simp only [spec_l11Plan.l2] at H
         have HC12 := am H
         clear H
         go_upto_region 10 with (fail)
         go_cut [36] (fun v36 wc => ∃ (kq : Nat) (x36_11 : Bool), v36 = .bool x36_11 ∧ Aside0 (spec_l11Plan.j3 kq a1 a2 x7_3 x8_1 x9_2 x10_3 x11_3 x36_11 s0_0 x1001_3 x1002_3 = some (r1, r2, r3)) ∧ Aside0 (kq ≤ k3) ∧ Aside0 (Kd.R k137 137 wc w.heap.size (fun _ => True) u7 x7_3) ∧ Aside0 (IsS152 w0 wc g s0_0 x1001_3 x1002_3) ∧ Aside0 (KeepBut w wc g none) ∧ Aside0 (Below w0.heap.size w0 wc))
         case first =>
          have H := HC12.out
          clear HC12
          obtain ⟨c13, H⟩ | ⟨c13, H⟩ := ie_ H
          ·have c13b0 := decide_eq_true c13
           clear c13
           (first | rw [c13b0] | (simp only [i64_w, i32_w]; rw [c13b0]) | rw [c13b1] | skip)
           have H' := am H
           clear H
           go_wp2
           go_meet
           case rel => exact ⟨_, (decide (x10_3 < a2)), sc, H', ⟨by have := HK1.out; have := HK2.out; have := HK3.out; first | omega | exact Nat.le_refl _⟩, ⟨sr HO_7⟩, ⟨by exact si152 HI0⟩, ⟨by exact kp HK⟩, ⟨by exact sj152 HB HI0⟩⟩
          ·have c13b0 := decide_eq_false c13
           clear c13
           (first | rw [c13b0] | (simp only [i64_w, i32_w]; rw [c13b0]) | rw [c13b1] | skip)
           have H' := am H
           clear H
           go_wp2
           go_meet
           case rel => exact ⟨_, (false), sc, H', ⟨by have := HK1.out; have := HK2.out; have := HK3.out; first | omega | exact Nat.le_refl _⟩, ⟨sr HO_7⟩, ⟨by exact si152 HI0⟩, ⟨by exact kp HK⟩, ⟨by exact sj152 HB HI0⟩⟩
         case rest =>
          clear HC12
          try clear c6
          try clear c6b0
          try clear c7
          try clear c7b0
          try clear c13
          try clear c13b0
          obtain ⟨kq, x36_11, rfl, HA, HJ11, HO_7, HI0, HK, HB⟩ := hcut
          cases kq with
          | zero => exact absurd HA.out (by simp [spec_l11Plan.j3])
          | succ kj11 =>
           have H := HA.out
           clear HA
           simp only [spec_l11Plan.j3] at H
           obtain rfl | rfl := tt x36_11
           ·replace H := ip H
            obtain ⟨⟨t266, t267, t268⟩, A15, H⟩ := bnd H
            dsimp only at H
            obtain ⟨t269, A16, H⟩ := bnd H
            obtain ⟨LMc17, H⟩ := il_ H
            obtain ⟨y270, hy270⟩ : ∃ y_ : List (S137), y_ = (x7_3 ++ [(⟨x8_1, x9_2, x10_3, t269⟩ : S137)]) := ⟨_, rfl⟩
            replace H : ((spec_l1Below.f s0_0 t267 t268 6).bind fun bt273 => (spec_l11Plan.l2 kj11 a1 a2 y270 x8_1 x9_2 (wrap64 ((wrap64 (t269 + 1)) + bt273.1)) (wrap64 (x11_3 - 1)) s0_0 bt273.2.1 bt273.2.2)) = some (r1, r2, r3) := ry hy270 H
            have Ny270 := am hy270
            clear hy270
            obtain ⟨⟨t273, t274, t275⟩, A18, H⟩ := bnd H
            dsimp only at H
            have H' := am H
            clear H
            go_wp2_with (first | ((with_reducible refine gc 76 rfl ?_); refine gL (some 43) Try.func76 #[.pointer (some ⟨g, 0, none⟩), .int .i64 9] ?_; (with_reducible refine (spec_l1Below.calls g s0_0 x1001_3 x1002_3 9 t266 t267 t268 w0 _ ?side1 ?side2 A15.out).mono ?_); (case side1 => exact si152 HI0); (case side2 => exact sj152 HB HI0); rintro e w19 ⟨rfl, hi, hb, hk⟩; refine ⟨_, rfl, ?_⟩; replace HO_7 := am (Kd.R_mono (Kd.R_keep (IsS152.apart (show IsS152 w0 _ g s0_0 x1001_3 x1002_3 from by exact si152 HI0) (sr HO_7) (by decide)) hk (fun _ h => h.2)) (fun _ h => h.1)); replace HK := am (KeepBut.trans (by exact kp HK) hk (.inl rfl)); replace HB := am hb; replace HI0 := am hi; (try clear hb); (try clear hk); (try clear hi)) | ((with_reducible refine gc 139 rfl ?_); refine gL (some 45) Try.func139 #[.int .i64 a2, .int .i64 (wrap64 ((wrap64 (x10_3 + 2)) + t266))] ?_; (with_reducible refine (spec_Min.calls a2 (wrap64 ((wrap64 (x10_3 + 2)) + t266)) t269 _ A16.out).mono ?_); rintro e w' ⟨rfl, ⟨nd, rfl⟩⟩; refine ⟨_, rfl, ?_⟩) | ((with_reducible refine gate_builtin (b := .append) (xs := #[.tmp 46, .tmp 52]) rfl ?_); at_builtin; refine Kd.R_append k137 w.heap.size rfl (.tmp 46) (.tmp 52) 59 137 (.agg #[(.int .i64 0), (.int .i64 0), (.int .i64 0), (.int .i64 0)]) 32 rfl Try.underlying59 info137 rfl (by decide) (by omega) u7 x7_3 (⟨x8_1, x9_2, x10_3, t269⟩ : S137) [.int .i64 x8_1, .int .i64 x9_2, .int .i64 x10_3, .int .i64 t269] (fun _ => True) (fun _ => False) rfl rfl ?aP (fun _ hk => hk.elim) ?aF ?aO (Below.refl _ _) ?aS ?aL ?_; (case aP => exact k137_mkM _ _ _ (⟨x8_1, x9_2, x10_3, t269⟩ : S137)); (case aF => exact (fun _ _ => trivial)); (case aO => exact (sr HO_7)); (case aS => exact (keep_size (w := w) (g := g) (row := none) (by exact kp HK))); (case aL => have := LMc17.out; omega); intro v271 w20 ho hb hg hat; rw [← Ny270.out] at ho; replace HB := am (below_weaken (by exact sj152 HB HI0) HL.out hb); replace HI0 := am (IsS152.grown (by exact si152 HI0) hg (IsS152.own_ne HI0.out HO_7.out (by decide))); replace HK := am (KeepBut.trans (by exact kp HK) (KeepBut.of_grown hg g) (Kd.R_base2 HO_7.out)); have HO272 := am ho; clear HO_7; clear ho hb hg hat) | ((with_reducible refine gc 76 rfl ?_); refine gL (some 57) Try.func76 #[.pointer (some ⟨g, 0, none⟩), .int .i64 6] ?_; (with_reducible refine (spec_l1Below.calls g s0_0 t267 t268 6 t273 t274 t275 w0 _ ?side1 ?side2 A18.out).mono ?_); (case side1 => exact si152 HI0); (case side2 => exact sj152 HB HI0); rintro e w21 ⟨rfl, hi, hb, hk⟩; refine ⟨_, rfl, ?_⟩; replace HO272 := am (Kd.R_mono (Kd.R_keep (IsS152.apart (show IsS152 w0 _ g s0_0 t267 t268 from by exact si152 HI0) (sr HO272) (by decide)) hk (fun _ h => h.2)) (fun _ h => h.1)); replace HK := am (KeepBut.trans (by exact kp HK) hk (.inl rfl)); replace HB := am hb; replace HI0 := am hi; (try clear hb); (try clear hk); (try clear hi)))
            go_roundg kj11
            case measure => have := HK1.out; have := HK2.out; have := HK3.out; have := HJ11.out; omega
            case rel => exact ⟨(y270), (wrap64 ((wrap64 (t269 + 1)) + t273)), (wrap64 (x11_3 - 1)), (t274), (t275), sc, sc, H', ⟨by have := HK1.out; have := HK2.out; have := HK3.out; have := HJ11.out; omega⟩, ⟨sr HO272⟩, ⟨by exact si152 HI0⟩, ⟨by exact kp HK⟩, ⟨by exact sj152 HB HI0⟩⟩
           ·replace H := im H
            have H' := am H
            clear H
            go_wp2
            go_roundg kj11
            case measure => have := HK1.out; have := HK2.out; have := HK3.out; have := HJ11.out; omega
            case rel => exact ⟨(x7_3), (wrap64 (x9_2 + 1)), (x1001_3), (x1002_3), sc, H', ⟨by have := HK1.out; have := HK2.out; have := HK3.out; have := HJ11.out; omega⟩, ⟨sr HO_7⟩, ⟨by exact si152 HI0⟩, ⟨by exact kp HK⟩, ⟨by exact sj152 HB HI0⟩⟩
      ·have c7b0 := decide_eq_false c7
       clear c7
       have H' := am H
       clear H
       go_wp2
       go_roundg k2
       case measure => have := HK1.out; have := HK2.out; omega
       case rel => exact ⟨(x7_2), (wrap64 (x8_1 + 1)), (x1001_2), (x1002_2), sc, H', kk2, ⟨sr HO_7⟩, ⟨by exact si152 HI0⟩, ⟨by exact kp HK⟩, ⟨by exact sj152 HB HI0⟩⟩
   ·have c6b0 := decide_eq_false c6
    clear c6
    simp only [Option.some.injEq, Prod.mk.injEq] at H
    obtain ⟨rfl, rfl, rfl⟩ := H
    go_wp2
    go_ret
    exact ⟨_, se, sr HO_7, by exact si152 HI0, by exact sj152 HB HI0, by exact kp HK⟩

def spec_l1Once.f (s0_0 : List Int) (s0_1 : Int) (s0_2 : Int) (a1 : Int) : Option (Bool × Int × Int) := (spec_l1Below.f s0_0 s0_1 s0_2 a1).bind fun bt276 => (some ((bt276.1 == 0), bt276.2.1, bt276.2.2))
theorem spec_l1Once.calls (g : Nat) (s0_0 : List Int) (s0_1 : Int) (s0_2 : Int) (a1 : Int) (r1 : Bool) (r2 : Int) (r3 : Int) (w0 w : World) (hI : IsS152 w0 w g s0_0 s0_1 s0_2) (hB : Below w0.heap.size w0 w) (h : spec_l1Once.f s0_0 s0_1 s0_2 a1 = some (r1, r2, r3)) :
    Calls Try.prog 107 #[.pointer (some ⟨g, 0, none⟩), .int .i64 a1] w fun e w' => e = .returned (.bool r1) ∧ IsS152 w0 w' g s0_0 r2 r3 ∧ Below w0.heap.size w0 w' ∧ KeepBut w w' g none := by
 have HI0 := am hI
 have HK := am (KeepBut.refl w g none)
 have HL := am hB.size
 clear hI
 have HW0 := am hB.size
 have HB := am hB
 clear hB
 have H := h; unfold spec_l1Once.f at H
 clear h
 obtain ⟨⟨t276, t277, t278⟩, A3, H⟩ := bnd H
 dsimp only at H
 simp only [Option.some.injEq, Prod.mk.injEq] at H
 obtain ⟨rfl, rfl, rfl⟩ := H
 go_enter Try.func107, Try.ntmps107
 go_wp2_with (first | ((with_reducible refine gc 76 rfl ?_); refine gL (some 7) Try.func76 #[.pointer (some ⟨g, 0, none⟩), .int .i64 a1] ?_; (with_reducible refine (spec_l1Below.calls g s0_0 s0_1 s0_2 a1 t276 t277 t278 w0 _ ?side1 ?side2 A3.out).mono ?_); (case side1 => exact si152 HI0); (case side2 => exact sj152 HB HI0); rintro e w4 ⟨rfl, hi, hb, hk⟩; refine ⟨_, rfl, ?_⟩; replace HK := am (KeepBut.trans (by exact kp HK) hk (.inl rfl)); replace HB := am hb; replace HI0 := am hi; (try clear hb); (try clear hk); (try clear hi)))
 go_ret
 exact ⟨se, by exact si152 HI0, by exact sj152 HB HI0, by exact kp HK⟩

def spec_l1Int.f (s0_0 : List Int) (s0_1 : Int) (s0_2 : Int) (l1 : List Int) : Option (Int × Int × Int) := (spec_l1Below.f s0_0 s0_1 s0_2 (l1.length : Int)).bind fun bt279 => (if 0 ≤ bt279.1 then (if bt279.1 < (l1.length : Int) then (some (rd l1 bt279.1, bt279.2.1, bt279.2.2)) else (none)) else (none))
theorem spec_l1Int.calls (g : Nat) (s0_0 : List Int) (s0_1 : Int) (s0_2 : Int) (A1 : Option Addr) (c1 : Nat) (l1 : List Int) (r1 : Int) (r2 : Int) (r3 : Int) (w0 w : World) (hI : IsS152 w0 w g s0_0 s0_1 s0_2) (hB : Below w0.heap.size w0 w) (hr1 : Kd.C (Kd.int .i64) w A1 l1.length l1) (hc1 : l1.length ≤ c1) (hf1 : ∀ ad, A1 = some ad → 0 < l1.length → ad.block ≠ g) (h : spec_l1Int.f s0_0 s0_1 s0_2 l1 = some (r1, r2, r3)) :
    Calls Try.prog 109 #[.pointer (some ⟨g, 0, none⟩), .slice A1 l1.length c1] w fun e w' => e = .returned (.int .i64 r1) ∧ IsS152 w0 w' g s0_0 r2 r3 ∧ Below w0.heap.size w0 w' ∧ KeepBut w w' g none := by
 have HR1 := am hr1
 have HC1 := am hc1
 clear hr1 hc1
 have HI0 := am hI
 have HK := am (KeepBut.refl w g none)
 have HL := am hB.size
 clear hI
 have HW0 := am hB.size
 have HB := am hB
 clear hB
 have H := h; unfold spec_l1Int.f at H
 clear h
 obtain ⟨⟨t279, t280, t281⟩, A3, H⟩ := bnd H
 dsimp only at H
 obtain ⟨c4b0, H⟩ := id_ H
 obtain ⟨c5b0, H⟩ := id_ H
 simp only [Option.some.injEq, Prod.mk.injEq] at H
 obtain ⟨rfl, rfl, rfl⟩ := H
 go_enter Try.func109, Try.ntmps109
 go_wp2_with (first | ((with_reducible refine gc 76 rfl ?_); refine gL (some 9) Try.func76 #[.pointer (some ⟨g, 0, none⟩), .int .i64 (l1.length : Int)] ?_; (with_reducible refine (spec_l1Below.calls g s0_0 s0_1 s0_2 (l1.length : Int) t279 t280 t281 w0 _ ?side1 ?side2 A3.out).mono ?_); (case side1 => exact si152 HI0); (case side2 => exact sj152 HB HI0); rintro e w6 ⟨rfl, hi, hb, hk⟩; refine ⟨_, rfl, ?_⟩; replace HK := am (KeepBut.trans (by exact kp HK) hk (.inl rfl)); replace HB := am hb; replace HI0 := am hi; (try clear hb); (try clear hk); (try clear hi); have p282 : 0 ≤ (t279 : Int) := sa; have q282 : t279 < (l1.length : Int) := sa; obtain ⟨ad282, e282, hx282_0⟩ := Kd.at_int HR1.out t279 p282 q282; cases e282; replace hx282_0 := keep_cell HK.out hx282_0 (by first | (rw [add_block]; exact hf1 _ rfl (by omega)) | exact hf1 _ rfl (by omega) | exact hf1 ad282 rfl (by omega)); replace p282 := eq_true p282; replace q282 := eq_true q282))
 go_ret
 exact ⟨se, by exact si152 HI0, by exact sj152 HB HI0, by exact kp HK⟩

def spec_l4Raw.f (s0_0 : List Int) (s0_1 : Int) (s0_2 : Int) : Option (Int × Int × Int) := (spec_l1Once.f s0_0 s0_1 s0_2 6).bind fun bt283 => (if bt283.1 = true then ((spec_l1Int.f s0_0 bt283.2.1 bt283.2.2 (([(-1), 0, 1000, 1001, 9223372036854775807, (-9223372036854775808)] : List Int))).bind fun bt289 => (some (bt289.1, bt289.2.1, bt289.2.2))) else ((spec_l1Below.f s0_0 bt283.2.1 bt283.2.2 40).bind fun bt292 => (some (bt292.1, bt292.2.1, bt292.2.2))))
theorem spec_l4Raw.calls (g : Nat) (s0_0 : List Int) (s0_1 : Int) (s0_2 : Int) (r1 : Int) (r2 : Int) (r3 : Int) (w0 w : World) (hI : IsS152 w0 w g s0_0 s0_1 s0_2) (hB : Below w0.heap.size w0 w) (h : spec_l4Raw.f s0_0 s0_1 s0_2 = some (r1, r2, r3)) :
    Calls Try.prog 89 #[.pointer (some ⟨g, 0, none⟩)] w fun e w' => e = .returned (.int .i64 r1) ∧ IsS152 w0 w' g s0_0 r2 r3 ∧ Below w0.heap.size w0 w' ∧ KeepBut w w' g none := by
 have HI0 := am hI
 have HK := am (KeepBut.refl w g none)
 have HL := am hB.size
 clear hI
 have HW0 := am hB.size
 have HB := am hB
 clear hB
 have H := h; unfold spec_l4Raw.f at H
 clear h
 obtain ⟨⟨t283, t284, t285⟩, A2, H⟩ := bnd H
 dsimp only at H
 obtain rfl | rfl := tt t283
 ·replace H := ip H
  obtain ⟨y286, hy286⟩ : ∃ y_ : List Int, y_ = (([(-1), 0, 1000, 1001, 9223372036854775807, (-9223372036854775808)] : List Int)) := ⟨_, rfl⟩
  replace H : ((spec_l1Int.f s0_0 t284 t285 y286).bind fun bt289 => (some (bt289.1, bt289.2.1, bt289.2.2))) = some (r1, r2, r3) := ry hy286 H
  have Ny286 := am hy286
  clear hy286
  obtain ⟨⟨t289, t290, t291⟩, A4, H⟩ := bnd H
  dsimp only at H
  simp only [Option.some.injEq, Prod.mk.injEq] at H
  obtain ⟨rfl, rfl, rfl⟩ := H
  go_enter Try.func89, Try.ntmps89
  go_wp2_with (first | ((with_reducible refine gc 107 rfl ?_); refine gL (some 4) Try.func107 #[.pointer (some ⟨g, 0, none⟩), .int .i64 6] ?_; (with_reducible refine (spec_l1Once.calls g s0_0 s0_1 s0_2 6 true t284 t285 w0 _ ?side1 ?side2 A2.out).mono ?_); (case side1 => exact si152 HI0); (case side2 => exact sj152 HB HI0); rintro e w5 ⟨rfl, hi, hb, hk⟩; refine ⟨_, rfl, ?_⟩; replace HK := am (KeepBut.trans (by exact kp HK) hk (.inl rfl)); replace HB := am hb; replace HI0 := am hi; (try clear hb); (try clear hk); (try clear hi)) | ((with_reducible refine gd 6 rfl ?_); refine Kd.R_lit (Kd.int .i64) _ 3 ?hg (N := 6) ?hd (xs := ([(-1), 0, 1000, 1001, 9223372036854775807, (-9223372036854775808)] : List Int)) (inner := [.int .i64 (-1), .int .i64 0, .int .i64 1000, .int .i64 1001, .int .i64 9223372036854775807, .int .i64 (-9223372036854775808)]) (ok := fun _ => True) (okp := fun _ => True) ?hr ?hp (fun _ hk => hk) trivial (Below.refl _ _) (Nat.le_refl _) (by simp) ?_; (case hd => rfl); (case hg => rfl); (case hr => first | (go_simp; done) | (go_simp; rfl)); (case hp => exact (Reps.one (show Kd.M (Kd.int .i64) _ _ _ (-1) [.int .i64 (-1)] from rfl) (Reps.one (show Kd.M (Kd.int .i64) _ _ _ 0 [.int .i64 0] from rfl) (Reps.one (show Kd.M (Kd.int .i64) _ _ _ 1000 [.int .i64 1000] from rfl) (Reps.one (show Kd.M (Kd.int .i64) _ _ _ 1001 [.int .i64 1001] from rfl) (Reps.one (show Kd.M (Kd.int .i64) _ _ _ 9223372036854775807 [.int .i64 9223372036854775807] from rfl) (Reps.one (show Kd.M (Kd.int .i64) _ _ _ (-9223372036854775808) [.int .i64 (-9223372036854775808)] from rfl) (Reps.none _ _)))))))); intro v287 w6 ho7 hb hg_ hnew_; clear hg_ hnew_; (first | rw [← Ny286.out] at ho7 | (simp only [Int.reduceToNat] at ho7; rw [← Ny286.out] at ho7)); have HO288 := am (Kd.R_lower ho7 (keep_size (w := w) (g := g) (row := none) (by exact kp HK))); replace HK := am (KeepBut.trans (by exact kp HK) (KeepBut.of_below hb g none) (.inl rfl)); replace HB := am (below_step (by exact sj152 HB HI0) hb); replace HI0 := am (IsS152.below (by exact si152 HI0) hb); clear hb ho7; obtain ⟨Ao8, co8, eo8⟩ := Kd.R_slice HO288.out; subst eo8) | ((with_reducible refine gc 109 rfl ?_); refine gL (some 7) Try.func109 #[.pointer (some ⟨g, 0, none⟩), .slice Ao8 y286.length co8] ?_; (with_reducible refine (spec_l1Int.calls g s0_0 t284 t285 _ _ y286 t289 t290 t291 w0 _ ?side1 ?side2 ?side3 ?side4 ?side5 A4.out).mono ?_); (case side1 => exact si152 HI0); (case side2 => exact sj152 HB HI0); (case side3 => exact cr HO288); (case side4 => exact (Kd.R_reads' HO288.out).2.1); (case side5 => exact far_slice (IsS152.own_ne HI0.out HO288.out (by decide))); rintro e w9 ⟨rfl, hi, hb, hk⟩; refine ⟨_, rfl, ?_⟩; replace HO288 := am (Kd.R_mono (Kd.R_keep (IsS152.apart (show IsS152 w0 _ g s0_0 t284 t285 from by exact si152 HI0) (sr HO288) (by decide)) hk (fun _ h => h.2)) (fun _ h => h.1)); replace HK := am (KeepBut.trans (by exact kp HK) hk (.inl rfl)); replace HB := am hb; replace HI0 := am hi; (try clear hb); (try clear hk); (try clear hi)))
  go_ret
  exact ⟨se, by exact si152 HI0, by exact sj152 HB HI0, by exact kp HK⟩
 ·replace H := im H
  obtain ⟨⟨t292, t293, t294⟩, A10, H⟩ := bnd H
  dsimp only at H
  simp only [Option.some.injEq, Prod.mk.injEq] at H
  obtain ⟨rfl, rfl, rfl⟩ := H
  go_enter Try.func89, Try.ntmps89
  go_wp2_with (first | ((with_reducible refine gc 107 rfl ?_); refine gL (some 4) Try.func107 #[.pointer (some ⟨g, 0, none⟩), .int .i64 6] ?_; (with_reducible refine (spec_l1Once.calls g s0_0 s0_1 s0_2 6 false t284 t285 w0 _ ?side1 ?side2 A2.out).mono ?_); (case side1 => exact si152 HI0); (case side2 => exact sj152 HB HI0); rintro e w11 ⟨rfl, hi, hb, hk⟩; refine ⟨_, rfl, ?_⟩; replace HK := am (KeepBut.trans (by exact kp HK) hk (.inl rfl)); replace HB := am hb; replace HI0 := am hi; (try clear hb); (try clear hk); (try clear hi)) | ((with_reducible refine gc 76 rfl ?_); refine gL (some 9) Try.func76 #[.pointer (some ⟨g, 0, none⟩), .int .i64 40] ?_; (with_reducible refine (spec_l1Below.calls g s0_0 t284 t285 40 t292 t293 t294 w0 _ ?side1 ?side2 A10.out).mono ?_); (case side1 => exact si152 HI0); (case side2 => exact sj152 HB HI0); rintro e w12 ⟨rfl, hi, hb, hk⟩; refine ⟨_, rfl, ?_⟩; replace HK := am (KeepBut.trans (by exact kp HK) hk (.inl rfl)); replace HB := am hb; replace HI0 := am hi; (try clear hb); (try clear hk); (try clear hi)))
  go_ret
  exact ⟨se, by exact si152 HI0, by exact sj152 HB HI0, by exact kp HK⟩

def spec_l11Any.f (k : Nat) (s0_0 : List Int) (s0_1 : Int) (s0_2 : Int) : Option ((List (S137)) × Int × Int) := (spec_l11Plan.f k s0_0 s0_1 s0_2 4 20).bind fun bt295 => (if (bt295.1.length : Int) = 0 then (some (bt295.1, bt295.2.1, bt295.2.2)) else ((spec_l1Below.f s0_0 bt295.2.1 bt295.2.2 (bt295.1.length : Int)).bind fun bt300 => ((spec_l1Below.f s0_0 bt300.2.1 bt300.2.2 8).bind fun bt303 => (if bt303.1 = 0 then ((spec_l1Below.f s0_0 bt303.2.1 bt303.2.2 5).bind fun bt306 => (if 0 ≤ bt300.1 then (if bt300.1 < (bt295.1.length : Int) then (some ((bt295.1.set (bt300.1 : Int).toNat (⟨wrap64 (bt306.1 - 1), (rd_T137 bt295.1 bt300.1).f1, (rd_T137 bt295.1 bt300.1).f2, (rd_T137 bt295.1 bt300.1).f3⟩ : S137)), bt306.2.1, bt306.2.2)) else (none)) else (none))) else (if bt303.1 = 1 then ((spec_l4Raw.f s0_0 bt303.2.1 bt303.2.2).bind fun bt310 => (if 0 ≤ bt300.1 then (if bt300.1 < (bt295.1.length : Int) then (some ((bt295.1.set (bt300.1 : Int).toNat (⟨(rd_T137 bt295.1 bt300.1).f0, (rd_T137 bt295.1 bt300.1).f1, (rd_T137 bt295.1 bt300.1).f2, bt310.1⟩ : S137)), bt310.2.1, bt310.2.2)) else (none)) else (none))) else (if bt303.1 = 2 then (if 0 ≤ bt300.1 then (if bt300.1 < (bt295.1.length : Int) then (if bt295.1.length < 4398046511104 then (some ((bt295.1 ++ [(⟨(rd_T137 bt295.1 bt300.1).f0, (rd_T137 bt295.1 bt300.1).f1, (rd_T137 bt295.1 bt300.1).f2, (rd_T137 bt295.1 bt300.1).f3⟩ : S137)]), bt303.2.1, bt303.2.2)) else (none)) else (none)) else (none)) else (if bt303.1 = 3 then ((spec_l1Int.f s0_0 bt303.2.1 bt303.2.2 (([(-1), 4, 9223372036854775807] : List Int))).bind fun bt321 => (if 0 ≤ bt300.1 then (if bt300.1 < (bt295.1.length : Int) then (some ((bt295.1.set (bt300.1 : Int).toNat (⟨(rd_T137 bt295.1 bt300.1).f0, bt321.1, (rd_T137 bt295.1 bt300.1).f2, (rd_T137 bt295.1 bt300.1).f3⟩ : S137)), bt321.2.1, bt321.2.2)) else (none)) else (none))) else (some (bt295.1, bt303.2.1, bt303.2.2)))))))))
theorem spec_l11Any.mono : ∀ a0 a1 a2 k, LeO (spec_l11Any.f k a0 a1 a2) (spec_l11Any.f (k + 1) a0 a1 a2) := by
  intro a0 a1 a2 k
  unfold spec_l11Any.f
  have m0 := @spec_l11Plan.mono
  exact mo
theorem spec_l11Any.calls (k : Nat) (g : Nat) (s0_0 : List Int) (s0_1 : Int) (s0_2 : Int) (r1 : List (S137)) (r2 : Int) (r3 : Int) (w0 w : World) (hI : IsS152 w0 w g s0_0 s0_1 s0_2) (hB : Below w0.heap.size w0 w) (h : spec_l11Any.f k s0_0 s0_1 s0_2 = some (r1, r2, r3)) :
    Calls Try.prog 108 #[.pointer (some ⟨g, 0, none⟩)] w fun e w' => ∃ v0_ : Value, e = .returned (v0_) ∧ Kd.R k137 137 w' w.heap.size (fun _ => True) v0_ r1 ∧ IsS152 w0 w' g s0_0 r2 r3 ∧ Below w0.heap.size w0 w' ∧ KeepBut w w' g none := by
 have hu137 := Try.underlying137
 have HI0 := am hI
 have HK := am (KeepBut.refl w g none)
 have HL := am hB.size
 clear hI
 have HW0 := am hB.size
 have HB := am hB
 clear hB
 have H := h; unfold spec_l11Any.f at H
 clear h
 obtain ⟨⟨t295, t298, t299⟩, A2, H⟩ := bnd H
 dsimp only at H
 obtain ⟨c3, H⟩ | ⟨c3, H⟩ := ie_ H
 ·have c3b0 : ((t295.length : Int) == 0) = true := beq_iff_eq.mpr c3
  have c3b1 : ((t295.length : Int) != 0) = false := bne_eq_false_iff_eq.mpr c3
  clear c3
  simp only [Option.some.injEq, Prod.mk.injEq] at H
  obtain ⟨rfl, rfl, rfl⟩ := H
  go_enter Try.func108, Try.ntmps108
  go_wp2_with (first | ((with_reducible refine gc 106 rfl ?_); refine gL (some 6) Try.func106 #[.pointer (some ⟨g, 0, none⟩), .int .i64 4, .int .i64 20] ?_; (with_reducible refine (spec_l11Plan.calls k g s0_0 s0_1 s0_2 4 20 t295 t298 t299 w0 _ ?side1 ?side2 A2.out).mono ?_); (case side1 => exact si152 HI0); (case side2 => exact sj152 HB HI0); rintro e w4 ⟨v296, rfl, ho0, hi, hb, hk⟩; refine ⟨_, rfl, ?_⟩; have HO297 := am (Kd.R_lower ho0 (keep_size (w := w) (g := g) (row := none) (by exact kp HK))); replace HK := am (KeepBut.trans (by exact kp HK) hk (.inl rfl)); replace HB := am hb; replace HI0 := am hi; (try clear hb); (try clear hk); (try clear hi); (try clear ho0); obtain ⟨Ao5, co5, eo5⟩ := Kd.R_slice HO297.out; subst eo5))
  go_ret
  exact ⟨_, se, sr HO297, by exact si152 HI0, by exact sj152 HB HI0, by exact kp HK⟩
 ·have c3b0 : ((t295.length : Int) == 0) = false := beq_eq_false_iff_ne.mpr c3
  have c3b1 : ((t295.length : Int) != 0) = true := bne_iff_ne.mpr c3
  have c3b2 : ¬ (t295 = []) := fun h_ => c3 (by rw [h_]; rfl)
  obtain ⟨⟨t300, t301, t302⟩, A6, H⟩ := bnd H
  dsimp only at H
  obtain ⟨⟨t303, t304, t305⟩, A7, H⟩ := bnd H
  dsimp only at H
  obtain ⟨c8, H⟩ | ⟨c8, H⟩ := ie_ H
  ·have c8b0 : (t303 == 0) = true := beq_iff_eq.mpr c8
   have c8b1 : (t303 != 0) = false := bne_eq_false_iff_eq.mpr c8
   clear c8
   obtain ⟨⟨t306, t307, t308⟩, A9, H⟩ := bnd H
   dsimp only at H
   obtain ⟨c10b0, H⟩ := id_ H
   obtain ⟨c11b0, H⟩ := id_ H
   obtain ⟨y309, hy309⟩ : ∃ y_ : List (S137), y_ = (t295.set (t300 : Int).toNat (⟨wrap64 (t306 - 1), (rd_T137 t295 t300).f1, (rd_T137 t295 t300).f2, (rd_T137 t295 t300).f3⟩ : S137)) := ⟨_, rfl⟩
   replace H : (some (y309, t307, t308)) = some (r1, r2, r3) := ry hy309 H
   have Ny309 := am hy309
   clear hy309
   simp only [Option.some.injEq, Prod.mk.injEq] at H
   obtain ⟨rfl, rfl, rfl⟩ := H
   go_enter Try.func108, Try.ntmps108
   go_wp2_with (first | ((with_reducible refine gc 106 rfl ?_); refine gL (some 6) Try.func106 #[.pointer (some ⟨g, 0, none⟩), .int .i64 4, .int .i64 20] ?_; (with_reducible refine (spec_l11Plan.calls k g s0_0 s0_1 s0_2 4 20 t295 t298 t299 w0 _ ?side1 ?side2 A2.out).mono ?_); (case side1 => exact si152 HI0); (case side2 => exact sj152 HB HI0); rintro e w13 ⟨v296, rfl, ho0, hi, hb, hk⟩; refine ⟨_, rfl, ?_⟩; have HO297 := am (Kd.R_lower ho0 (keep_size (w := w) (g := g) (row := none) (by exact kp HK))); replace HK := am (KeepBut.trans (by exact kp HK) hk (.inl rfl)); replace HB := am hb; replace HI0 := am hi; (try clear hb); (try clear hk); (try clear hi); (try clear ho0); obtain ⟨Ao14, co14, eo14⟩ := Kd.R_slice HO297.out; subst eo14) | ((with_reducible refine gc 76 rfl ?_); refine gL (some 14) Try.func76 #[.pointer (some ⟨g, 0, none⟩), .int .i64 (t295.length : Int)] ?_; (with_reducible refine (spec_l1Below.calls g s0_0 t298 t299 (t295.length : Int) t300 t301 t302 w0 _ ?side1 ?side2 A6.out).mono ?_); (case side1 => exact si152 HI0); (case side2 => exact sj152 HB HI0); rintro e w15 ⟨rfl, hi, hb, hk⟩; refine ⟨_, rfl, ?_⟩; replace HO297 := am (Kd.R_mono (Kd.R_keep (IsS152.apart (show IsS152 w0 _ g s0_0 t298 t299 from by exact si152 HI0) (sr HO297) (by decide)) hk (fun _ h => h.2)) (fun _ h => h.1)); replace HK := am (KeepBut.trans (by exact kp HK) hk (.inl rfl)); replace HB := am hb; replace HI0 := am hi; (try clear hb); (try clear hk); (try clear hi)) | ((with_reducible refine gc 76 rfl ?_); refine gL (some 16) Try.func76 #[.pointer (some ⟨g, 0, none⟩), .int .i64 8] ?_; (with_reducible refine (spec_l1Below.calls g s0_0 t301 t302 8 t303 t304 t305 w0 _ ?side1 ?side2 A7.out).mono ?_); (case side1 => exact si152 HI0); (case side2 => exact sj152 HB HI0); rintro e w16 ⟨rfl, hi, hb, hk⟩; refine ⟨_, rfl, ?_⟩; replace HO297 := am (Kd.R_mono (Kd.R_keep (IsS152.apart (show IsS152 w0 _ g s0_0 t301 t302 from by exact si152 HI0) (sr HO297) (by decide)) hk (fun _ h => h.2)) (fun _ h => h.1)); replace HK := am (KeepBut.trans (by exact kp HK) hk (.inl rfl)); replace HB := am hb; replace HI0 := am hi; (try clear hb); (try clear hk); (try clear hi)) | ((with_reducible refine gc 76 rfl ?_); refine gL (some 22) Try.func76 #[.pointer (some ⟨g, 0, none⟩), .int .i64 5] ?_; (with_reducible refine (spec_l1Below.calls g s0_0 t304 t305 5 t306 t307 t308 w0 _ ?side1 ?side2 A9.out).mono ?_); (case side1 => exact si152 HI0); (case side2 => exact sj152 HB HI0); rintro e w17 ⟨rfl, hi, hb, hk⟩; refine ⟨_, rfl, ?_⟩; replace HO297 := am (Kd.R_mono (Kd.R_keep (IsS152.apart (show IsS152 w0 _ g s0_0 t304 t305 from by exact si152 HI0) (sr HO297) (by decide)) hk (fun _ h => h.2)) (fun _ h => h.1)); replace HK := am (KeepBut.trans (by exact kp HK) hk (.inl rfl)); replace HB := am hb; replace HI0 := am hi; (try clear hb); (try clear hk); (try clear hi); have p12 : 0 ≤ (t300 : Int) := sa; have q12 : (t300 : Int) < ((t295.length : Int) : Int) := sa; obtain ⟨go12, co12, eo12, gb12, gl12, cl12, HG12⟩ := Kd.R_form HO297.out (by omega); (first | cases eo12 | (injection eo12 with ea_ en_ ec_; (first | subst ea_ | (injection ea_ with ea_; subst ea_)); subst ec_; clear en_)); have GB12 := am gb12; have GG12 := am HG12; clear gb12 gl12 HG12; obtain ⟨ce12, hcl12, hM12, hcc12, hfr12⟩ := Kd.R_elem HO297.out z137 (t300 : Int) p12 q12; obtain rfl := k137_openM hM12; have hx12_0 : w17.cell? ⟨go12, (t300 : Int).toNat * 4, none⟩ = some (.int .i64 ((rd_T137 t295 t300).f0)) := hcc12 0 _ rfl; have hx12_1 : w17.cell? ⟨go12, (t300 : Int).toNat * 4 + 1, none⟩ = some (.int .i64 ((rd_T137 t295 t300).f1)) := hcc12 1 _ rfl; have hx12_2 : w17.cell? ⟨go12, (t300 : Int).toNat * 4 + 2, none⟩ = some (.int .i64 ((rd_T137 t295 t300).f2)) := hcc12 2 _ rfl; have hx12_3 : w17.cell? ⟨go12, (t300 : Int).toNat * 4 + 3, none⟩ = some (.int .i64 ((rd_T137 t295 t300).f3)) := hcc12 3 _ rfl; have hf12_0 : w17.frozen? ⟨go12, (t300 : Int).toNat * 4, none⟩ = false := hfr12 0; have hf12_1 : w17.frozen? ⟨go12, (t300 : Int).toNat * 4 + 1, none⟩ = false := hfr12 1; have hf12_2 : w17.frozen? ⟨go12, (t300 : Int).toNat * 4 + 2, none⟩ = false := hfr12 2; have hf12_3 : w17.frozen? ⟨go12, (t300 : Int).toNat * 4 + 3, none⟩ = false := hfr12 3; (try clear hcl12); (try clear hcc12); (try clear hfr12); (try clear hM12); replace p12 := eq_true p12; replace q12 := eq_true q12; have HX18 := am (show Kd.R k137 137 w17 w.heap.size (fun _ => True) (.slice (some ⟨go12, 0, none⟩) t295.length co14) t295 from (sr HO297)); obtain ⟨ce18, hcl18, hM18, hcc18, hfr18⟩ := Kd.R_elem HX18.out z137 (t300 : Int) (sa) (by have h_ : (t300 : Int) < ((t295.length : Int) : Int) := sa; first | exact h_ | (have e_ := (Kd.R_reads' HO297.out).1; omega) | simpa using h_); obtain rfl := k137_openM hM18; have HP18 := Kd.R_seg HX18.out (t300 : Int) (sa) (by have h_ : (t300 : Int) < ((t295.length : Int) : Int) := sa; first | exact h_ | (have e_ := (Kd.R_reads' HO297.out).1; omega) | simpa using h_) (seg := [.int .i64 (wrap64 (t306 - 1))]) (j := 0) hcl18 hcc18 (show 1 ≤ 4 from by decide) (x' := (⟨wrap64 (t306 - 1), (rd_T137 t295 t300).f1, (rd_T137 t295 t300).f2, (rd_T137 t295 t300).f3⟩ : S137)) (k137_mkM _ _ _ (⟨wrap64 (t306 - 1), (rd_T137 t295 t300).f1, (rd_T137 t295 t300).f2, (rd_T137 t295 t300).f3⟩ : S137) ) (fun _ hk => hk); have hx18_0 := hcc18 0 _ rfl; (try simp only [show (k137).sz = 4 from rfl, Nat.mul_one, Nat.add_zero] at hx18_0); have hf18_0 := hfr18 0; (try simp only [show (k137).sz = 4 from rfl, Nat.mul_one, Nat.add_zero] at hf18_0); (try clear hcl18); (try clear hcc18); (try clear hfr18); (try clear hM18)) | ((with_reducible refine gate_store (t := 3) (p := 25) rfl ?_); refine store_event (t := 3) (p := 25) (v := ?vo_w19) (w1 := (w17.setCell ⟨go12, (t300 : Int).toNat * 4, none⟩ (.int .i64 (wrap64 (t306 - 1))))) ?hg ?ho ?hn ?hr ?_; (case ho => rfl); (case hg => rfl); (case hn => rfl); (case hr => first | (go_simp; done) | (go_simp; rfl)); intro w19 hw; have hg : w17.grownBy w19 (some go12) := (by rw [hw]; exact HP18.2); have hp_ : Kd.R k137 137 w19 w.heap.size (fun _ => True) (.slice (some ⟨go12, 0, none⟩) t295.length co14) y309 := (by rw [hw, Ny309.out]; exact HP18.1); clear HP18; replace HI0 := am (IsS152.grown (by exact si152 HI0) hg (IsS152.own_ne HI0.out HO297.out (by decide))); replace HB := am ((by rw [hw]; exact below_set (HB.out) (Nat.le_trans HL.out GB12.out) : Below w0.heap.size w0 w19)); replace HK := am (KeepBut.trans (by exact kp HK) (KeepBut.of_grown hg g) (Kd.R_base2 HO297.out)); replace HO297 := am hp_; clear hg hw hp_))
   go_ret
   exact ⟨_, se, sr HO297, by exact si152 HI0, by exact sj152 HB HI0, by exact kp HK⟩
  ·have c8b0 : (t303 == 0) = false := beq_eq_false_iff_ne.mpr c8
   have c8b1 : (t303 != 0) = true := bne_iff_ne.mpr c8
   obtain ⟨c20, H⟩ | ⟨c20, H⟩ := ie_ H
   ·have c20b0 : (t303 == 1) = true := beq_iff_eq.mpr c20
    have c20b1 : (t303 != 1) = false := bne_eq_false_iff_eq.mpr c20
    clear c20
    obtain ⟨⟨t310, t311, t312⟩, A21, H⟩ := bnd H
    dsimp only at H
    obtain ⟨c22b0, H⟩ := id_ H
    obtain ⟨c23b0, H⟩ := id_ H
    obtain ⟨y313, hy313⟩ : ∃ y_ : List (S137), y_ = (t295.set (t300 : Int).toNat (⟨(rd_T137 t295 t300).f0, (rd_T137 t295 t300).f1, (rd_T137 t295 t300).f2, t310⟩ : S137)) := ⟨_, rfl⟩
    replace H : (some (y313, t311, t312)) = some (r1, r2, r3) := ry hy313 H
    have Ny313 := am hy313
    clear hy313
    simp only [Option.some.injEq, Prod.mk.injEq] at H
    obtain ⟨rfl, rfl, rfl⟩ := H
    go_enter Try.func108, Try.ntmps108
    go_wp2_with (first | ((with_reducible refine gc 106 rfl ?_); refine gL (some 6) Try.func106 #[.pointer (some ⟨g, 0, none⟩), .int .i64 4, .int .i64 20] ?_; (with_reducible refine (spec_l11Plan.calls k g s0_0 s0_1 s0_2 4 20 t295 t298 t299 w0 _ ?side1 ?side2 A2.out).mono ?_); (case side1 => exact si152 HI0); (case side2 => exact sj152 HB HI0); rintro e w25 ⟨v296, rfl, ho0, hi, hb, hk⟩; refine ⟨_, rfl, ?_⟩; have HO297 := am (Kd.R_lower ho0 (keep_size (w := w) (g := g) (row := none) (by exact kp HK))); replace HK := am (KeepBut.trans (by exact kp HK) hk (.inl rfl)); replace HB := am hb; replace HI0 := am hi; (try clear hb); (try clear hk); (try clear hi); (try clear ho0); obtain ⟨Ao26, co26, eo26⟩ := Kd.R_slice HO297.out; subst eo26) | ((with_reducible refine gc 76 rfl ?_); refine gL (some 14) Try.func76 #[.pointer (some ⟨g, 0, none⟩), .int .i64 (t295.length : Int)] ?_; (with_reducible refine (spec_l1Below.calls g s0_0 t298 t299 (t295.length : Int) t300 t301 t302 w0 _ ?side1 ?side2 A6.out).mono ?_); (case side1 => exact si152 HI0); (case side2 => exact sj152 HB HI0); rintro e w27 ⟨rfl, hi, hb, hk⟩; refine ⟨_, rfl, ?_⟩; replace HO297 := am (Kd.R_mono (Kd.R_keep (IsS152.apart (show IsS152 w0 _ g s0_0 t298 t299 from by exact si152 HI0) (sr HO297) (by decide)) hk (fun _ h => h.2)) (fun _ h => h.1)); replace HK := am (KeepBut.trans (by exact kp HK) hk (.inl rfl)); replace HB := am hb; replace HI0 := am hi; (try clear hb); (try clear hk); (try clear hi)) | ((with_reducible refine gc 76 rfl ?_); refine gL (some 16) Try.func76 #[.pointer (some ⟨g, 0, none⟩), .int .i64 8] ?_; (with_reducible refine (spec_l1Below.calls g s0_0 t301 t302 8 t303 t304 t305 w0 _ ?side1 ?side2 A7.out).mono ?_); (case side1 => exact si152 HI0); (case side2 => exact sj152 HB HI0); rintro e w28 ⟨rfl, hi, hb, hk⟩; refine ⟨_, rfl, ?_⟩; replace HO297 := am (Kd.R_mono (Kd.R_keep (IsS152.apart (show IsS152 w0 _ g s0_0 t301 t302 from by exact si152 HI0) (sr HO297) (by decide)) hk (fun _ h => h.2)) (fun _ h => h.1)); replace HK := am (KeepBut.trans (by exact kp HK) hk (.inl rfl)); replace HB := am hb; replace HI0 := am hi; (try clear hb); (try clear hk); (try clear hi)) | ((with_reducible refine gc 89 rfl ?_); refine gL (some 31) Try.func89 #[.pointer (some ⟨g, 0, none⟩)] ?_; (with_reducible refine (spec_l4Raw.calls g s0_0 t304 t305 t310 t311 t312 w0 _ ?side1 ?side2 A21.out).mono ?_); (case side1 => exact si152 HI0); (case side2 => exact sj152 HB HI0); rintro e w29 ⟨rfl, hi, hb, hk⟩; refine ⟨_, rfl, ?_⟩; replace HO297 := am (Kd.R_mono (Kd.R_keep (IsS152.apart (show IsS152 w0 _ g s0_0 t304 t305 from by exact si152 HI0) (sr HO297) (by decide)) hk (fun _ h => h.2)) (fun _ h => h.1)); replace HK := am (KeepBut.trans (by exact kp HK) hk (.inl rfl)); replace HB := am hb; replace HI0 := am hi; (try clear hb); (try clear hk); (try clear hi); have p24 : 0 ≤ (t300 : Int) := sa; have q24 : (t300 : Int) < ((t295.length : Int) : Int) := sa; obtain ⟨go24, co24, eo24, gb24, gl24, cl24, HG24⟩ := Kd.R_form HO297.out (by omega); (first | cases eo24 | (injection eo24 with ea_ en_ ec_; (first | subst ea_ | (injection ea_ with ea_; subst ea_)); subst ec_; clear en_)); have GB24 := am gb24; have GG24 := am HG24; clear gb24 gl24 HG24; obtain ⟨ce24, hcl24, hM24, hcc24, hfr24⟩ := Kd.R_elem HO297.out z137 (t300 : Int) p24 q24; obtain rfl := k137_openM hM24; have hx24_0 : w29.cell? ⟨go24, (t300 : Int).toNat * 4, none⟩ = some (.int .i64 ((rd_T137 t295 t300).f0)) := hcc24 0 _ rfl; have hx24_1 : w29.cell? ⟨go24, (t300 : Int).toNat * 4 + 1, none⟩ = some (.int .i64 ((rd_T137 t295 t300).f1)) := hcc24 1 _ rfl; have hx24_2 : w29.cell? ⟨go24, (t300 : Int).toNat * 4 + 2, none⟩ = some (.int .i64 ((rd_T137 t295 t300).f2)) := hcc24 2 _ rfl; have hx24_3 : w29.cell? ⟨go24, (t300 : Int).toNat * 4 + 3, none⟩ = some (.int .i64 ((rd_T137 t295 t300).f3)) := hcc24 3 _ rfl; have hf24_0 : w29.frozen? ⟨go24, (t300 : Int).toNat * 4, none⟩ = false := hfr24 0; have hf24_1 : w29.frozen? ⟨go24, (t300 : Int).toNat * 4 + 1, none⟩ = false := hfr24 1; have hf24_2 : w29.frozen? ⟨go24, (t300 : Int).toNat * 4 + 2, none⟩ = false := hfr24 2; have hf24_3 : w29.frozen? ⟨go24, (t300 : Int).toNat * 4 + 3, none⟩ = false := hfr24 3; (try clear hcl24); (try clear hcc24); (try clear hfr24); (try clear hM24); replace p24 := eq_true p24; replace q24 := eq_true q24; have HX30 := am (show Kd.R k137 137 w29 w.heap.size (fun _ => True) (.slice (some ⟨go24, 0, none⟩) t295.length co26) t295 from (sr HO297)); obtain ⟨ce30, hcl30, hM30, hcc30, hfr30⟩ := Kd.R_elem HX30.out z137 (t300 : Int) (sa) (by have h_ : (t300 : Int) < ((t295.length : Int) : Int) := sa; first | exact h_ | (have e_ := (Kd.R_reads' HO297.out).1; omega) | simpa using h_); obtain rfl := k137_openM hM30; have HP30 := Kd.R_seg HX30.out (t300 : Int) (sa) (by have h_ : (t300 : Int) < ((t295.length : Int) : Int) := sa; first | exact h_ | (have e_ := (Kd.R_reads' HO297.out).1; omega) | simpa using h_) (seg := [.int .i64 t310]) (j := 3) hcl30 hcc30 (show 4 ≤ 4 from by decide) (x' := (⟨(rd_T137 t295 t300).f0, (rd_T137 t295 t300).f1, (rd_T137 t295 t300).f2, t310⟩ : S137)) (k137_mkM _ _ _ (⟨(rd_T137 t295 t300).f0, (rd_T137 t295 t300).f1, (rd_T137 t295 t300).f2, t310⟩ : S137) ) (fun _ hk => hk); have hx30_3 := hcc30 3 _ rfl; (try simp only [show (k137).sz = 4 from rfl, Nat.mul_one, Nat.add_zero] at hx30_3); have hf30_3 := hfr30 3; (try simp only [show (k137).sz = 4 from rfl, Nat.mul_one, Nat.add_zero] at hf30_3); (try clear hcl30); (try clear hcc30); (try clear hfr30); (try clear hM30)) | ((with_reducible refine gate_store (t := 3) (p := 33) rfl ?_); refine store_event (t := 3) (p := 33) (v := ?vo_w31) (w1 := (w29.setCell ⟨go24, (t300 : Int).toNat * 4 + 3, none⟩ (.int .i64 t310))) ?hg ?ho ?hn ?hr ?_; (case ho => rfl); (case hg => rfl); (case hn => rfl); (case hr => first | (go_simp; done) | (go_simp; rfl)); intro w31 hw; have hg : w29.grownBy w31 (some go24) := (by rw [hw]; exact HP30.2); have hp_ : Kd.R k137 137 w31 w.heap.size (fun _ => True) (.slice (some ⟨go24, 0, none⟩) t295.length co26) y313 := (by rw [hw, Ny313.out]; exact HP30.1); clear HP30; replace HI0 := am (IsS152.grown (by exact si152 HI0) hg (IsS152.own_ne HI0.out HO297.out (by decide))); replace HB := am ((by rw [hw]; exact below_set (HB.out) (Nat.le_trans HL.out GB24.out) : Below w0.heap.size w0 w31)); replace HK := am (KeepBut.trans (by exact kp HK) (KeepBut.of_grown hg g) (Kd.R_base2 HO297.out)); replace HO297 := am hp_; clear hg hw hp_))
    go_ret
    exact ⟨_, se, sr HO297, by exact si152 HI0, by exact sj152 HB HI0, by exact kp HK⟩
   ·have c20b0 : (t303 == 1) = false := beq_eq_false_iff_ne.mpr c20
    have c20b1 : (t303 != 1) = true := bne_iff_ne.mpr c20
    obtain ⟨c32, H⟩ | ⟨c32, H⟩ := ie_ H
    ·have c32b0 : (t303 == 2) = true := beq_iff_eq.mpr c32
     have c32b1 : (t303 != 2) = false := bne_eq_false_iff_eq.mpr c32
     clear c32
     obtain ⟨c33b0, H⟩ := id_ H
     obtain ⟨c34b0, H⟩ := id_ H
     obtain ⟨LMc35, H⟩ := il_ H
     obtain ⟨y315, hy315⟩ : ∃ y_ : List (S137), y_ = (t295 ++ [(⟨(rd_T137 t295 t300).f0, (rd_T137 t295 t300).f1, (rd_T137 t295 t300).f2, (rd_T137 t295 t300).f3⟩ : S137)]) := ⟨_, rfl⟩
     replace H : (some (y315, t304, t305)) = some (r1, r2, r3) := ry hy315 H
     have Ny315 := am hy315
     clear hy315
     simp only [Option.some.injEq, Prod.mk.injEq] at H
     obtain ⟨rfl, rfl, rfl⟩ := H
     go_enter Try.func108, Try.ntmps108
     go_wp2_with (first | ((with_reducible refine gc 106 rfl ?_); refine gL (some 6) Try.func106 #[.pointer (some ⟨g, 0, none⟩), .int .i64 4, .int .i64 20] ?_; (with_reducible refine (spec_l11Plan.calls k g s0_0 s0_1 s0_2 4 20 t295 t298 t299 w0 _ ?side1 ?side2 A2.out).mono ?_); (case side1 => exact si152 HI0); (case side2 => exact sj152 HB HI0); rintro e w36 ⟨v296, rfl, ho0, hi, hb, hk⟩; refine ⟨_, rfl, ?_⟩; have HO297 := am (Kd.R_lower ho0 (keep_size (w := w) (g := g) (row := none) (by exact kp HK))); replace HK := am (KeepBut.trans (by exact kp HK) hk (.inl rfl)); replace HB := am hb; replace HI0 := am hi; (try clear hb); (try clear hk); (try clear hi); (try clear ho0); obtain ⟨Ao37, co37, eo37⟩ := Kd.R_slice HO297.out; subst eo37) | ((with_reducible refine gc 76 rfl ?_); refine gL (some 14) Try.func76 #[.pointer (some ⟨g, 0, none⟩), .int .i64 (t295.length : Int)] ?_; (with_reducible refine (spec_l1Below.calls g s0_0 t298 t299 (t295.length : Int) t300 t301 t302 w0 _ ?side1 ?side2 A6.out).mono ?_); (case side1 => exact si152 HI0); (case side2 => exact sj152 HB HI0); rintro e w38 ⟨rfl, hi, hb, hk⟩; refine ⟨_, rfl, ?_⟩; replace HO297 := am (Kd.R_mono (Kd.R_keep (IsS152.apart (show IsS152 w0 _ g s0_0 t298 t299 from by exact si152 HI0) (sr HO297) (by decide)) hk (fun _ h => h.2)) (fun _ h => h.1)); replace HK := am (KeepBut.trans (by exact kp HK) hk (.inl rfl)); replace HB := am hb; replace HI0 := am hi; (try clear hb); (try clear hk); (try clear hi)) | ((with_reducible refine gc 76 rfl ?_); refine gL (some 16) Try.func76 #[.pointer (some ⟨g, 0, none⟩), .int .i64 8] ?_; (with_reducible refine (spec_l1Below.calls g s0_0 t301 t302 8 t303 t304 t305 w0 _ ?side1 ?side2 A7.out).mono ?_); (case side1 => exact si152 HI0); (case side2 => exact sj152 HB HI0); rintro e w39 ⟨rfl, hi, hb, hk⟩; refine ⟨_, rfl, ?_⟩; replace HO297 := am (Kd.R_mono (Kd.R_keep (IsS152.apart (show IsS152 w0 _ g s0_0 t301 t302 from by exact si152 HI0) (sr HO297) (by decide)) hk (fun _ h => h.2)) (fun _ h => h.1)); replace HK := am (KeepBut.trans (by exact kp HK) hk (.inl rfl)); replace HB := am hb; replace HI0 := am hi; (try clear hb); (try clear hk); (try clear hi); have p314 : 0 ≤ (t300 : Int) := sa; have q314 : t300 < (t295.length : Int) := sa; obtain ⟨ad314, e314, hx314_0, hx314_1, hx314_2, hx314_3⟩ := at_T137 (Kd.R_reads' HO297.out).2.2 t300 p314 q314; cases e314; replace p314 := eq_true p314; replace q314 := eq_true q314) | ((with_reducible refine gate_builtin (b := .append) (xs := #[.tmp 36, .tmp 41]) rfl ?_); at_builtin; refine Kd.R_append k137 w.heap.size rfl (.tmp 36) (.tmp 41) 59 137 (.agg #[(.int .i64 0), (.int .i64 0), (.int .i64 0), (.int .i64 0)]) 32 rfl Try.underlying59 info137 rfl (by decide) (by omega) (.slice (some ad314) t295.length co37) t295 (⟨(rd_T137 t295 t300).f0, (rd_T137 t295 t300).f1, (rd_T137 t295 t300).f2, (rd_T137 t295 t300).f3⟩ : S137) [.int .i64 ((rd_T137 t295 t300).f0), .int .i64 ((rd_T137 t295 t300).f1), .int .i64 ((rd_T137 t295 t300).f2), .int .i64 ((rd_T137 t295 t300).f3)] (fun _ => True) (fun _ => False) rfl rfl ?aP (fun _ hk => hk.elim) ?aF ?aO (Below.refl _ _) ?aS ?aL ?_; (case aP => exact k137_mkM _ _ _ (⟨(rd_T137 t295 t300).f0, (rd_T137 t295 t300).f1, (rd_T137 t295 t300).f2, (rd_T137 t295 t300).f3⟩ : S137)); (case aF => exact (fun _ _ => trivial)); (case aO => exact (sr HO297)); (case aS => exact (keep_size (w := w) (g := g) (row := none) (by exact kp HK))); (case aL => have := LMc35.out; omega); intro v316 w40 ho hb hg hat; rw [← Ny315.out] at ho; replace HB := am (below_weaken (by exact sj152 HB HI0) HL.out hb); replace HI0 := am (IsS152.grown (by exact si152 HI0) hg (IsS152.own_ne HI0.out HO297.out (by decide))); replace HK := am (KeepBut.trans (by exact kp HK) (KeepBut.of_grown hg g) (Kd.R_base2 HO297.out)); have HO317 := am ho; clear HO297; clear ho hb hg hat))
     go_ret
     exact ⟨_, se, sr HO317, by exact si152 HI0, by exact sj152 HB HI0, by exact kp HK⟩
    ·have c32b0 : (t303 == 2) = false := beq_eq_false_iff_ne.mpr c32
     have c32b1 : (t303 != 2) = true := bne_iff_ne.mpr c32
     obtain ⟨c41, H⟩ | ⟨c41, H⟩ := ie_ H
     ·have c41b0 : (t303 == 3) = true := beq_iff_eq.mpr c41
      have c41b1 : (t303 != 3) = false := bne_eq_false_iff_eq.mpr c41
      clear c41
      obtain ⟨y318, hy318⟩ : ∃ y_ : List Int, y_ = (([(-1), 4, 9223372036854775807] : List Int)) := ⟨_, rfl⟩
      replace H : ((spec_l1Int.f s0_0 t304 t305 y318).bind fun bt321 => (if 0 ≤ t300 then (if t300 < (t295.length : Int) then (some ((t295.set (t300 : Int).toNat (⟨(rd_T137 t295 t300).f0, bt321.1, (rd_T137 t295 t300).f2, (rd_T137 t295 t300).f3⟩ : S137)), bt321.2.1, bt321.2.2)) else (none)) else (none))) = some (r1, r2, r3) := ry hy318 H
      have Ny318 := am hy318
      clear hy318
      obtain ⟨⟨t321, t322, t323⟩, A42, H⟩ := bnd H
      dsimp only at H
      obtain ⟨c43b0, H⟩ := id_ H
      obtain ⟨c44b0, H⟩ := id_ H
      obtain ⟨y324, hy324⟩ : ∃ y_ : List (S137), y_ = (t295.set (t300 : Int).toNat (⟨(rd_T137 t295 t300).f0, t321, (rd_T137 t295 t300).f2, (rd_T137 t295 t300).f3⟩ : S137)) := ⟨_, rfl⟩
      replace H : (some (y324, t322, t323)) = some (r1, r2, r3) := ry hy324 H
      have Ny324 := am hy324
      clear hy324
      simp only [Option.some.injEq, Prod.mk.injEq] at H
      obtain ⟨rfl, rfl, rfl⟩ := H
      go_enter Try.func108, Try.ntmps108
      go_wp2_with (first | ((with_reducible refine gc 106 rfl ?_); refine gL (some 6) Try.func106 #[.pointer (some ⟨g, 0, none⟩), .int .i64 4, .int .i64 20] ?_; (with_reducible refine (spec_l11Plan.calls k g s0_0 s0_1 s0_2 4 20 t295 t298 t299 w0 _ ?side1 ?side2 A2.out).mono ?_); (case side1 => exact si152 HI0); (case side2 => exact sj152 HB HI0); rintro e w46 ⟨v296, rfl, ho0, hi, hb, hk⟩; refine ⟨_, rfl, ?_⟩; have HO297 := am (Kd.R_lower ho0 (keep_size (w := w) (g := g) (row := none) (by exact kp HK))); replace HK := am (KeepBut.trans (by exact kp HK) hk (.inl rfl)); replace HB := am hb; replace HI0 := am hi; (try clear hb); (try clear hk); (try clear hi); (try clear ho0); obtain ⟨Ao47, co47, eo47⟩ := Kd.R_slice HO297.out; subst eo47) | ((with_reducible refine gc 76 rfl ?_); refine gL (some 14) Try.func76 #[.pointer (some ⟨g, 0, none⟩), .int .i64 (t295.length : Int)] ?_; (with_reducible refine (spec_l1Below.calls g s0_0 t298 t299 (t295.length : Int) t300 t301 t302 w0 _ ?side1 ?side2 A6.out).mono ?_); (case side1 => exact si152 HI0); (case side2 => exact sj152 HB HI0); rintro e w48 ⟨rfl, hi, hb, hk⟩; refine ⟨_, rfl, ?_⟩; replace HO297 := am (Kd.R_mono (Kd.R_keep (IsS152.apart (show IsS152 w0 _ g s0_0 t298 t299 from by exact si152 HI0) (sr HO297) (by decide)) hk (fun _ h => h.2)) (fun _ h => h.1)); replace HK := am (KeepBut.trans (by exact kp HK) hk (.inl rfl)); replace HB := am hb; replace HI0 := am hi; (try clear hb); (try clear hk); (try clear hi)) | ((with_reducible refine gc 76 rfl ?_); refine gL (some 16) Try.func76 #[.pointer (some ⟨g, 0, none⟩), .int .i64 8] ?_; (with_reducible refine (spec_l1Below.calls g s0_0 t301 t302 8 t303 t304 t305 w0 _ ?side1 ?side2 A7.out).mono ?_); (case side1 => exact si152 HI0); (case side2 => exact sj152 HB HI0); rintro e w49 ⟨rfl, hi, hb, hk⟩; refine ⟨_, rfl, ?_⟩; replace HO297 := am (Kd.R_mono (Kd.R_keep (IsS152.apart (show IsS152 w0 _ g s0_0 t301 t302 from by exact si152 HI0) (sr HO297) (by decide)) hk (fun _ h => h.2)) (fun _ h => h.1)); replace HK := am (KeepBut.trans (by exact kp HK) hk (.inl rfl)); replace HB := am hb; replace HI0 := am hi; (try clear hb); (try clear hk); (try clear hi)) | ((with_reducible refine gd 48 rfl ?_); refine Kd.R_lit (Kd.int .i64) _ 3 ?hg (N := 48) ?hd (xs := ([(-1), 4, 9223372036854775807] : List Int)) (inner := [.int .i64 (-1), .int .i64 4, .int .i64 9223372036854775807]) (ok := fun _ => True) (okp := fun _ => True) ?hr ?hp (fun _ hk => hk) trivial (Below.refl _ _) (Nat.le_refl _) (by simp) ?_; (case hd => rfl); (case hg => rfl); (case hr => first | (go_simp; done) | (go_simp; rfl)); (case hp => exact (Reps.one (show Kd.M (Kd.int .i64) _ _ _ (-1) [.int .i64 (-1)] from rfl) (Reps.one (show Kd.M (Kd.int .i64) _ _ _ 4 [.int .i64 4] from rfl) (Reps.one (show Kd.M (Kd.int .i64) _ _ _ 9223372036854775807 [.int .i64 9223372036854775807] from rfl) (Reps.none _ _))))); intro v319 w50 ho51 hb hg_ hnew_; clear hg_ hnew_; (first | rw [← Ny318.out] at ho51 | (simp only [Int.reduceToNat] at ho51; rw [← Ny318.out] at ho51)); replace HO297 := rb HO297 hb; have HO320 := am (Kd.R_lower ho51 (keep_size (w := w) (g := g) (row := none) (by exact kp HK))); replace HK := am (KeepBut.trans (by exact kp HK) (KeepBut.of_below hb g none) (.inl rfl)); replace HB := am (below_step (by exact sj152 HB HI0) hb); replace HI0 := am (IsS152.below (by exact si152 HI0) hb); clear hb ho51; obtain ⟨Ao52, co52, eo52⟩ := Kd.R_slice HO320.out; subst eo52) | ((with_reducible refine gc 109 rfl ?_); refine gL (some 49) Try.func109 #[.pointer (some ⟨g, 0, none⟩), .slice Ao52 y318.length co52] ?_; (with_reducible refine (spec_l1Int.calls g s0_0 t304 t305 _ _ y318 t321 t322 t323 w0 _ ?side1 ?side2 ?side3 ?side4 ?side5 A42.out).mono ?_); (case side1 => exact si152 HI0); (case side2 => exact sj152 HB HI0); (case side3 => exact cr HO320); (case side4 => exact (Kd.R_reads' HO320.out).2.1); (case side5 => exact far_slice (IsS152.own_ne HI0.out HO320.out (by decide))); rintro e w53 ⟨rfl, hi, hb, hk⟩; refine ⟨_, rfl, ?_⟩; replace HO297 := am (Kd.R_mono (Kd.R_keep (IsS152.apart (show IsS152 w0 _ g s0_0 t304 t305 from by exact si152 HI0) (sr HO297) (by decide)) hk (fun _ h => h.2)) (fun _ h => h.1)); replace HO320 := am (Kd.R_mono (Kd.R_keep (IsS152.apart (show IsS152 w0 _ g s0_0 t304 t305 from by exact si152 HI0) (sr HO320) (by decide)) hk (fun _ h => h.2)) (fun _ h => h.1)); replace HK := am (KeepBut.trans (by exact kp HK) hk (.inl rfl)); replace HB := am hb; replace HI0 := am hi; (try clear hb); (try clear hk); (try clear hi); have p45 : 0 ≤ (t300 : Int) := sa; have q45 : (t300 : Int) < ((t295.length : Int) : Int) := sa; obtain ⟨go45, co45, eo45, gb45, gl45, cl45, HG45⟩ := Kd.R_form HO297.out (by omega); (first | cases eo45 | (injection eo45 with ea_ en_ ec_; (first | subst ea_ | (injection ea_ with ea_; subst ea_)); subst ec_; clear en_)); have GB45 := am gb45; have GG45 := am HG45; clear gb45 gl45 HG45; obtain ⟨ce45, hcl45, hM45, hcc45, hfr45⟩ := Kd.R_elem HO297.out z137 (t300 : Int) p45 q45; obtain rfl := k137_openM hM45; have hx45_0 : w53.cell? ⟨go45, (t300 : Int).toNat * 4, none⟩ = some (.int .i64 ((rd_T137 t295 t300).f0)) := hcc45 0 _ rfl; have hx45_1 : w53.cell? ⟨go45, (t300 : Int).toNat * 4 + 1, none⟩ = some (.int .i64 ((rd_T137 t295 t300).f1)) := hcc45 1 _ rfl; have hx45_2 : w53.cell? ⟨go45, (t300 : Int).toNat * 4 + 2, none⟩ = some (.int .i64 ((rd_T137 t295 t300).f2)) := hcc45 2 _ rfl; have hx45_3 : w53.cell? ⟨go45, (t300 : Int).toNat * 4 + 3, none⟩ = some (.int .i64 ((rd_T137 t295 t300).f3)) := hcc45 3 _ rfl; have hf45_0 : w53.frozen? ⟨go45, (t300 : Int).toNat * 4, none⟩ = false := hfr45 0; have hf45_1 : w53.frozen? ⟨go45, (t300 : Int).toNat * 4 + 1, none⟩ = false := hfr45 1; have hf45_2 : w53.frozen? ⟨go45, (t300 : Int).toNat * 4 + 2, none⟩ = false := hfr45 2; have hf45_3 : w53.frozen? ⟨go45, (t300 : Int).toNat * 4 + 3, none⟩ = false := hfr45 3; (try clear hcl45); (try clear hcc45); (try clear hfr45); (try clear hM45); replace p45 := eq_true p45; replace q45 := eq_true q45; have HX54 := am (show Kd.R k137 137 w53 w.heap.size (fun _ => True) (.slice (some ⟨go45, 0, none⟩) t295.length co47) t295 from (sr HO297)); obtain ⟨ce54, hcl54, hM54, hcc54, hfr54⟩ := Kd.R_elem HX54.out z137 (t300 : Int) (sa) (by have h_ : (t300 : Int) < ((t295.length : Int) : Int) := sa; first | exact h_ | (have e_ := (Kd.R_reads' HO297.out).1; omega) | simpa using h_); obtain rfl := k137_openM hM54; have HP54 := Kd.R_seg HX54.out (t300 : Int) (sa) (by have h_ : (t300 : Int) < ((t295.length : Int) : Int) := sa; first | exact h_ | (have e_ := (Kd.R_reads' HO297.out).1; omega) | simpa using h_) (seg := [.int .i64 t321]) (j := 1) hcl54 hcc54 (show 2 ≤ 4 from by decide) (x' := (⟨(rd_T137 t295 t300).f0, t321, (rd_T137 t295 t300).f2, (rd_T137 t295 t300).f3⟩ : S137)) (k137_mkM _ _ _ (⟨(rd_T137 t295 t300).f0, t321, (rd_T137 t295 t300).f2, (rd_T137 t295 t300).f3⟩ : S137) ) (fun _ hk => hk); have hx54_1 := hcc54 1 _ rfl; (try simp only [show (k137).sz = 4 from rfl, Nat.mul_one, Nat.add_zero] at hx54_1); have hf54_1 := hfr54 1; (try simp only [show (k137).sz = 4 from rfl, Nat.mul_one, Nat.add_zero] at hf54_1); (try clear hcl54); (try clear hcc54); (try clear hfr54); (try clear hM54)) | ((with_reducible refine gate_store (t := 3) (p := 51) rfl ?_); refine store_event (t := 3) (p := 51) (v := ?vo_w55) (w1 := (w53.setCell ⟨go45, (t300 : Int).toNat * 4 + 1, none⟩ (.int .i64 t321))) ?hg ?ho ?hn ?hr ?_; (case ho => rfl); (case hg => rfl); (case hn => rfl); (case hr => first | (go_simp; done) | (go_simp; rfl)); intro w55 hw; have hg : w53.grownBy w55 (some go45) := (by rw [hw]; exact HP54.2); have hp_ : Kd.R k137 137 w55 w.heap.size (fun _ => True) (.slice (some ⟨go45, 0, none⟩) t295.length co47) y324 := (by rw [hw, Ny324.out]; exact HP54.1); clear HP54; replace HI0 := am (IsS152.grown (by exact si152 HI0) hg (IsS152.own_ne HI0.out HO297.out (by decide))); replace HO320 := am (Kd.R_over' (v := (.slice (some ⟨go45, 0, none⟩) t295.length co47)) (sr HO320) (Kd.R_typed HO297.out) (by decide) hg); replace HB := am ((by rw [hw]; exact below_set (HB.out) (Nat.le_trans HL.out GB45.out) : Below w0.heap.size w0 w55)); replace HK := am (KeepBut.trans (by exact kp HK) (KeepBut.of_grown hg g) (Kd.R_base2 HO297.out)); replace HO297 := am hp_; clear hg hw hp_))
      go_ret
      exact ⟨_, se, sr HO297, by exact si152 HI0, by exact sj152 HB HI0, by exact kp HK⟩
     ·have c41b0 : (t303 == 3) = false := beq_eq_false_iff_ne.mpr c41
      have c41b1 : (t303 != 3) = true := bne_iff_ne.mpr c41
      simp only [Option.some.injEq, Prod.mk.injEq] at H
      obtain ⟨rfl, rfl, rfl⟩ := H
      go_enter Try.func108, Try.ntmps108
      go_wp2_with (first | ((with_reducible refine gc 106 rfl ?_); refine gL (some 6) Try.func106 #[.pointer (some ⟨g, 0, none⟩), .int .i64 4, .int .i64 20] ?_; (with_reducible refine (spec_l11Plan.calls k g s0_0 s0_1 s0_2 4 20 t295 t298 t299 w0 _ ?side1 ?side2 A2.out).mono ?_); (case side1 => exact si152 HI0); (case side2 => exact sj152 HB HI0); rintro e w56 ⟨v296, rfl, ho0, hi, hb, hk⟩; refine ⟨_, rfl, ?_⟩; have HO297 := am (Kd.R_lower ho0 (keep_size (w := w) (g := g) (row := none) (by exact kp HK))); replace HK := am (KeepBut.trans (by exact kp HK) hk (.inl rfl)); replace HB := am hb; replace HI0 := am hi; (try clear hb); (try clear hk); (try clear hi); (try clear ho0); obtain ⟨Ao57, co57, eo57⟩ := Kd.R_slice HO297.out; subst eo57) | ((with_reducible refine gc 76 rfl ?_); refine gL (some 14) Try.func76 #[.pointer (some ⟨g, 0, none⟩), .int .i64 (t295.length : Int)] ?_; (with_reducible refine (spec_l1Below.calls g s0_0 t298 t299 (t295.length : Int) t300 t301 t302 w0 _ ?side1 ?side2 A6.out).mono ?_); (case side1 => exact si152 HI0); (case side2 => exact sj152 HB HI0); rintro e w58 ⟨rfl, hi, hb, hk⟩; refine ⟨_, rfl, ?_⟩; replace HO297 := am (Kd.R_mono (Kd.R_keep (IsS152.apart (show IsS152 w0 _ g s0_0 t298 t299 from by exact si152 HI0) (sr HO297) (by decide)) hk (fun _ h => h.2)) (fun _ h => h.1)); replace HK := am (KeepBut.trans (by exact kp HK) hk (.inl rfl)); replace HB := am hb; replace HI0 := am hi; (try clear hb); (try clear hk); (try clear hi)) | ((with_reducible refine gc 76 rfl ?_); refine gL (some 16) Try.func76 #[.pointer (some ⟨g, 0, none⟩), .int .i64 8] ?_; (with_reducible refine (spec_l1Below.calls g s0_0 t301 t302 8 t303 t304 t305 w0 _ ?side1 ?side2 A7.out).mono ?_); (case side1 => exact si152 HI0); (case side2 => exact sj152 HB HI0); rintro e w59 ⟨rfl, hi, hb, hk⟩; refine ⟨_, rfl, ?_⟩; replace HO297 := am (Kd.R_mono (Kd.R_keep (IsS152.apart (show IsS152 w0 _ g s0_0 t301 t302 from by exact si152 HI0) (sr HO297) (by decide)) hk (fun _ h => h.2)) (fun _ h => h.1)); replace HK := am (KeepBut.trans (by exact kp HK) hk (.inl rfl)); replace HB := am hb; replace HI0 := am hi; (try clear hb); (try clear hk); (try clear hi)))
      go_ret
      exact ⟨_, se, sr HO297, by exact si152 HI0, by exact sj152 HB HI0, by exact kp HK⟩

def spec_DrawBuildProgram.j0 : Nat → List (S137) → List Int → Int → Int → Option ((List (S137)) × Int × Int × Int × Int × Int)
  | 0, _, _, _, _ => none
  | k + 1, x9, x329000, x329001, x329002 => (spec_l1Int.f x329000 x329001 x329002 (([4, 4, 4, 3, 0, 13] : List Int))).bind fun bt345 => ((spec_l1Int.f x329000 bt345.2.1 bt345.2.2 (([3, 3, 2, 4, 5, (-1)] : List Int))).bind fun bt351 => ((spec_l1Int.f x329000 bt351.2.1 bt351.2.2 (([0, 0, 2, (-1)] : List Int))).bind fun bt357 => ((spec_l1Int.f x329000 bt357.2.1 bt357.2.2 (([20, 20, 15, 1001] : List Int))).bind fun bt363 => ((spec_l1Int.f x329000 bt363.2.1 bt363.2.2 (([0, 1, 2, 5, 6] : List Int))).bind fun bt369 => (some (x9, bt345.1, bt351.1, bt357.1, bt363.1, bt369.1))))))
def spec_DrawBuildProgram.f (k : Nat) (l0 : List Int) : Option ((List (S137)) × Int × Int × Int × Int × Int) := (spec_l1New.f k l0).bind fun bt325 => ((spec_l11Plan.f k bt325.1 bt325.2.1 bt325.2.2 4 20).bind fun bt329 => ((spec_l1Once.f bt325.1 bt329.2.1 bt329.2.2 6).bind fun bt334 => (if bt334.1 = true then ((spec_l11Any.f k bt325.1 bt334.2.1 bt334.2.2).bind fun bt337 => (spec_DrawBuildProgram.j0 k bt337.1 bt325.1 bt337.2.1 bt337.2.2)) else (spec_DrawBuildProgram.j0 k bt329.1 bt325.1 bt334.2.1 bt334.2.2))))
theorem spec_DrawBuildProgram.mono_l : ∀ k, (∀ y0 y1 y2 y3, LeO (spec_DrawBuildProgram.j0 k y0 y1 y2 y3) (spec_DrawBuildProgram.j0 (k + 1) y0 y1 y2 y3))
  | 0 => fun _ _ _ _ r h => by simp [spec_DrawBuildProgram.j0] at h
  | k + 1 => by
    have ih0 := spec_DrawBuildProgram.mono_l k
    · intro y0 y1 y2 y3
      unfold spec_DrawBuildProgram.j0
      have m0 := @spec_l11Any.mono
      have m1 := @spec_l11Plan.mono
      have m2 := @spec_l1New.mono
      exact mo
theorem spec_DrawBuildProgram.mono : ∀ a0 k, LeO (spec_DrawBuildProgram.f k a0) (spec_DrawBuildProgram.f (k + 1) a0) := by
  intro a0 k
  have ih0 := spec_DrawBuildProgram.mono_l k
  unfold spec_DrawBuildProgram.f
  have m0 := @spec_l11Any.mono
  have m1 := @spec_l11Plan.mono
  have m2 := @spec_l1New.mono
  exact mo
theorem spec_DrawBuildProgram.calls (k : Nat) (A0 : Option Addr) (c0 : Nat) (l0 : List Int) (r1 : List (S137)) (r2 : Int) (r3 : Int) (r4 : Int) (r5 : Int) (r6 : Int) (w : World) (hr0 : Kd.C (Kd.int .u8) w A0 l0.length l0) (hc0 : l0.length ≤ c0) (h : spec_DrawBuildProgram.f k l0 = some (r1, r2, r3, r4, r5, r6)) :
    Calls Try.prog 44 #[.slice A0 l0.length c0] w fun e w' => ∃ v0_ : Value, e = .returned (.tuple #[v0_, .int .i64 r2, .int .i64 r3, .int .i64 r4, .int .i64 r5, .int .i64 r6]) ∧ Kd.R k137 137 w' w.heap.size (fun _ => True) v0_ r1 ∧ Below w.heap.size w w' := by
 have HR0 := am hr0
 have HC0 := am hc0
 clear hr0 hc0
 have HB := am (Below.refl w.heap.size w)
 have H := h; unfold spec_DrawBuildProgram.f at H
 clear h
 obtain ⟨⟨t325, t326, t327⟩, A2, H⟩ := bnd H
 dsimp only at H
 obtain ⟨⟨t329, t332, t333⟩, A3, H⟩ := bnd H
 dsimp only at H
 obtain ⟨⟨t334, t335, t336⟩, A4, H⟩ := bnd H
 dsimp only at H
 have HC5 := am H
 clear H
 go_enter Try.func44, Try.ntmps44
 go_upto_if 19 with (first | ((with_reducible refine gc 75 rfl ?_); refine goesL_ (some 15) rfl rfl Try.func75 (by kernel_rfl) rfl #[.slice A0 l0.length c0] rfl sl ?_; (with_reducible refine (spec_l1New.calls k _ _ l0 t325 t326 t327 w _ ?side1 ?side2 ?side3 A2.out).mono ?_); (case side1 => repeat (first | (with_reducible first | exact HB.out | apply below_alloc | apply pw_below_drewN | apply below_drew1) | exact HB.out)); (case side2 => exact HR0.out); (case side3 => exact HC0.out); rintro e w6 ⟨g328, rfl, hi, hb, hb2⟩; refine ⟨_, rfl, ?_⟩; have n0_ := am (hb); have n1_ := am (hi); clear HB; have HB := n0_; have HI328 := n1_; clear n0_ n1_; (try clear hb); (try clear hb2); (try clear hk); (try clear hi)) | ((with_reducible refine gc 106 rfl ?_); refine goesL_ (some 17) rfl rfl Try.func106 (by kernel_rfl) rfl #[.pointer (some ⟨g328, 0, none⟩), .int .i64 4, .int .i64 20] rfl sl ?_; (with_reducible refine (spec_l11Plan.calls k g328 t325 t326 t327 4 20 t329 t332 t333 w _ ?side1 ?side2 A3.out).mono ?_); (case side1 => exact si152 HI328); (case side2 => exact sj152 HB HI328); rintro e w7 ⟨v330, rfl, ho0, hi, hb, hk⟩; refine ⟨_, rfl, ?_⟩; have n0_ := am (Kd.R_lower ho0 (below_size (by exact sj152 HB HI328))); have n1_ := am (hb); have n2_ := am (hi); clear HB; clear HI328; have HO331 := n0_; have HB := n1_; have HI328 := n2_; clear n0_ n1_ n2_; (try clear hb); (try clear hb2); (try clear hk); (try clear hi); (try clear ho0)) | ((with_reducible refine gc 107 rfl ?_); refine goesL_ (some 19) rfl rfl Try.func107 (by kernel_rfl) rfl #[.pointer (some ⟨g328, 0, none⟩), .int .i64 6] rfl sl ?_; (with_reducible refine (spec_l1Once.calls g328 t325 t332 t333 6 t334 t335 t336 w _ ?side1 ?side2 A4.out).mono ?_); (case side1 => exact si152 HI328); (case side2 => exact sj152 HB HI328); rintro e w8 ⟨rfl, hi, hb, hk⟩; refine ⟨_, rfl, ?_⟩; have n0_ := am (Kd.R_mono (Kd.R_keep (IsS152.apart (show IsS152 w _ g328 t325 t332 t333 from by exact si152 HI328) (sr HO331) (by decide)) hk (fun _ h => h.2)) (fun _ h => h.1)); have n1_ := am (hb); have n2_ := am (hi); clear HO331; clear HB; clear HI328; have HO331 := n0_; have HB := n1_; have HI328 := n2_; clear n0_ n1_ n2_; (try clear hb); (try clear hb2); (try clear hk); (try clear hi)))
 (try simp only [Act.put, List.setIfInBounds_toArray, List.set_cons_zero, List.set_cons_succ])
 go_cut [9] (fun v9 wc => ∃ (kq : Nat) (x9_4 : List (S137)) (x329001_4 : Int) (x329002_4 : Int), Aside0 (spec_DrawBuildProgram.j0 kq x9_4 t325 x329001_4 x329002_4 = some (r1, r2, r3, r4, r5, r6)) ∧ Aside0 (kq ≤ k) ∧ Aside0 (Kd.R k137 137 wc w.heap.size (fun _ => True) v9 x9_4) ∧ Aside0 (IsS152 w wc g328 t325 x329001_4 x329002_4) ∧ Aside0 (Below w.heap.size w wc))
 case first =>
  have H := HC5.out
  clear HC5
  obtain rfl | rfl := tt t334
  ·replace H := ip H
   obtain ⟨⟨t337, t340, t341⟩, A10, H⟩ := bnd H
   dsimp only at H
   have H' := am H
   clear H
   go_wp2_with (first | ((with_reducible refine gc 108 rfl ?_); refine gL (some 21) Try.func108 #[.pointer (some ⟨g328, 0, none⟩)] ?_; (with_reducible refine (spec_l11Any.calls k g328 t325 t335 t336 t337 t340 t341 w _ ?side1 ?side2 A10.out).mono ?_); (case side1 => exact si152 HI328); (case side2 => exact sj152 HB HI328); rintro e w11 ⟨v338, rfl, ho0, hi, hb, hk⟩; refine ⟨_, rfl, ?_⟩; have HO339 := am (Kd.R_lower (Kd.R_new' ho0 (Kd.R_lt (sr HO331))) (below_size (by exact sj152 HB HI328))); replace HO331 := am (Kd.R_mono (Kd.R_told (Kd.R_oldK (IsS152.apart (show IsS152 w _ g328 t325 t335 t336 from by exact si152 HI328) (sr HO331) (by decide)) hk) (Kd.R_base ho0)) (fun _ h_ => h_.1)); replace HB := am hb; replace HI328 := am hi; (try clear hb); (try clear hk); (try clear hi); (try clear ho0)))
   go_meet
   case rel => exact ⟨_, (t337), (t340), (t341), H', ⟨by first | omega | exact Nat.le_refl _⟩, ⟨by (with_reducible repeat (first | apply Kd.R_alloc | apply Kd.R_drewN | apply Kd.R_drew)); exact Kd.R_mono HO339.out (fun _ hk => trivial)⟩, ⟨by exact si152 HI328⟩, ⟨by exact sj152 HB HI328⟩⟩
  ·replace H := im H
   have H' := am H
   clear H
   go_wp2
   go_meet
   case rel => exact ⟨_, (t329), (t335), (t336), H', ⟨by first | omega | exact Nat.le_refl _⟩, ⟨sr HO331⟩, ⟨by exact si152 HI328⟩, ⟨by exact sj152 HB HI328⟩⟩
 case rest =>
  clear HC5
  obtain ⟨kq, x9_4, x329001_4, x329002_4, HA, HJ4, HO_9, HI328, HB⟩ := hcut
  cases kq with
  | zero => exact absurd HA.out (by simp [spec_DrawBuildProgram.j0])
  | succ kj4 =>
   have H := HA.out
   clear HA
   simp only [spec_DrawBuildProgram.j0] at H
   obtain ⟨y342, hy342⟩ : ∃ y_ : List Int, y_ = (([4, 4, 4, 3, 0, 13] : List Int)) := ⟨_, rfl⟩
   replace H : ((spec_l1Int.f t325 x329001_4 x329002_4 y342).bind fun bt345 => ((spec_l1Int.f t325 bt345.2.1 bt345.2.2 (([3, 3, 2, 4, 5, (-1)] : List Int))).bind fun bt351 => ((spec_l1Int.f t325 bt351.2.1 bt351.2.2 (([0, 0, 2, (-1)] : List Int))).bind fun bt357 => ((spec_l1Int.f t325 bt357.2.1 bt357.2.2 (([20, 20, 15, 1001] : List Int))).bind fun bt363 => ((spec_l1Int.f t325 bt363.2.1 bt363.2.2 (([0, 1, 2, 5, 6] : List Int))).bind fun bt369 => (some (x9_4, bt345.1, bt351.1, bt357.1, bt363.1, bt369.1))))))) = some (r1, r2, r3, r4, r5, r6) := ry hy342 H
   have Ny342 := am hy342
   clear hy342
   obtain ⟨⟨t345, t346, t347⟩, A12, H⟩ := bnd H
   dsimp only at H
   obtain ⟨y348, hy348⟩ : ∃ y_ : List Int, y_ = (([3, 3, 2, 4, 5, (-1)] : List Int)) := ⟨_, rfl⟩
   replace H : ((spec_l1Int.f t325 t346 t347 y348).bind fun bt351 => ((spec_l1Int.f t325 bt351.2.1 bt351.2.2 (([0, 0, 2, (-1)] : List Int))).bind fun bt357 => ((spec_l1Int.f t325 bt357.2.1 bt357.2.2 (([20, 20, 15, 1001] : List Int))).bind fun bt363 => ((spec_l1Int.f t325 bt363.2.1 bt363.2.2 (([0, 1, 2, 5, 6] : List Int))).bind fun bt369 => (some (x9_4, t345, bt351.1, bt357.1, bt363.1, bt369.1)))))) = some (r1, r2, r3, r4, r5, r6) := ry hy348 H
   have Ny348 := am hy348
   clear hy348
   obtain ⟨⟨t351, t352, t353⟩, A13, H⟩ := bnd H
   dsimp only at H
   obtain ⟨y354, hy354⟩ : ∃ y_ : List Int, y_ = (([0, 0, 2, (-1)] : List Int)) := ⟨_, rfl⟩
   replace H : ((spec_l1Int.f t325 t352 t353 y354).bind fun bt357 => ((spec_l1Int.f t325 bt357.2.1 bt357.2.2 (([20, 20, 15, 1001] : List Int))).bind fun bt363 => ((spec_l1Int.f t325 bt363.2.1 bt363.2.2 (([0, 1, 2, 5, 6] : List Int))).bind fun bt369 => (some (x9_4, t345, t351, bt357.1, bt363.1, bt369.1))))) = some (r1, r2, r3, r4, r5, r6) := ry hy354 H
   have Ny354 := am hy354
   clear hy354
   obtain ⟨⟨t357, t358, t359⟩, A14, H⟩ := bnd H
   dsimp only at H
   obtain ⟨y360, hy360⟩ : ∃ y_ : List Int, y_ = (([20, 20, 15, 1001] : List Int)) := ⟨_, rfl⟩
   replace H : ((spec_l1Int.f t325 t358 t359 y360).bind fun bt363 => ((spec_l1Int.f t325 bt363.2.1 bt363.2.2 (([0, 1, 2, 5, 6] : List Int))).bind fun bt369 => (some (x9_4, t345, t351, t357, bt363.1, bt369.1)))) = some (r1, r2, r3, r4, r5, r6) := ry hy360 H
   have Ny360 := am hy360
   clear hy360
   obtain ⟨⟨t363, t364, t365⟩, A15, H⟩ := bnd H
   dsimp only at H
   obtain ⟨y366, hy366⟩ : ∃ y_ : List Int, y_ = (([0, 1, 2, 5, 6] : List Int)) := ⟨_, rfl⟩
   replace H : ((spec_l1Int.f t325 t364 t365 y366).bind fun bt369 => (some (x9_4, t345, t351, t357, t363, bt369.1))) = some (r1, r2, r3, r4, r5, r6) := ry hy366 H
   have Ny366 := am hy366
   clear hy366
   obtain ⟨⟨t369, t370, t371⟩, A16, H⟩ := bnd H
   dsimp only at H
   simp only [Option.some.injEq, Prod.mk.injEq] at H
   obtain ⟨rfl, rfl, rfl, rfl, rfl, rfl⟩ := H
   go_wp2_with (first | ((with_reducible refine gd 23 rfl ?_); refine Kd.R_lit (Kd.int .i64) _ 3 ?hg (N := 23) ?hd (xs := ([4, 4, 4, 3, 0, 13] : List Int)) (inner := [.int .i64 4, .int .i64 4, .int .i64 4, .int .i64 3, .int .i64 0, .int .i64 13]) (ok := fun _ => True) (okp := fun _ => True) ?hr ?hp (fun _ hk => hk) trivial (Below.refl _ _) (Nat.le_refl _) (by simp) ?_; (case hd => rfl); (case hg => rfl); (case hr => first | (go_simp; done) | (go_simp; rfl)); (case hp => exact (Reps.one (show Kd.M (Kd.int .i64) _ _ _ 4 [.int .i64 4] from rfl) (Reps.one (show Kd.M (Kd.int .i64) _ _ _ 4 [.int .i64 4] from rfl) (Reps.one (show Kd.M (Kd.int .i64) _ _ _ 4 [.int .i64 4] from rfl) (Reps.one (show Kd.M (Kd.int .i64) _ _ _ 3 [.int .i64 3] from rfl) (Reps.one (show Kd.M (Kd.int .i64) _ _ _ 0 [.int .i64 0] from rfl) (Reps.one (show Kd.M (Kd.int .i64) _ _ _ 13 [.int .i64 13] from rfl) (Reps.none _ _)))))))); intro v343 w17 ho18 hb hg_ hnew_; clear hg_ hnew_; (first | rw [← Ny342.out] at ho18 | (simp only [Int.reduceToNat] at ho18; rw [← Ny342.out] at ho18)); replace HO_9 := rb HO_9 hb; have HO344 := am (Kd.R_lower ho18 (below_size (by exact sj152 HB HI328))); replace HB := am (below_step (by exact sj152 HB HI328) hb); replace HI328 := am (IsS152.below (by exact si152 HI328) hb); clear hb ho18; obtain ⟨Ao19, co19, eo19⟩ := Kd.R_slice HO344.out; subst eo19) | ((with_reducible refine gc 109 rfl ?_); refine gL (some 24) Try.func109 #[.pointer (some ⟨g328, 0, none⟩), .slice Ao19 y342.length co19] ?_; (with_reducible refine (spec_l1Int.calls g328 t325 x329001_4 x329002_4 _ _ y342 t345 t346 t347 w _ ?side1 ?side2 ?side3 ?side4 ?side5 A12.out).mono ?_); (case side1 => exact si152 HI328); (case side2 => exact sj152 HB HI328); (case side3 => exact cr HO344); (case side4 => exact (Kd.R_reads' HO344.out).2.1); (case side5 => exact far_slice (IsS152.own_ne HI328.out HO344.out (by decide))); rintro e w20 ⟨rfl, hi, hb, hk⟩; refine ⟨_, rfl, ?_⟩; replace HO_9 := am (Kd.R_mono (Kd.R_keep (IsS152.apart (show IsS152 w _ g328 t325 x329001_4 x329002_4 from by exact si152 HI328) (sr HO_9) (by decide)) hk (fun _ h => h.2)) (fun _ h => h.1)); replace HO344 := am (Kd.R_mono (Kd.R_keep (IsS152.apart (show IsS152 w _ g328 t325 x329001_4 x329002_4 from by exact si152 HI328) (sr HO344) (by decide)) hk (fun _ h => h.2)) (fun _ h => h.1)); replace HB := am hb; replace HI328 := am hi; (try clear hb); (try clear hk); (try clear hi)) | ((with_reducible refine gd 26 rfl ?_); refine Kd.R_lit (Kd.int .i64) _ 3 ?hg (N := 26) ?hd (xs := ([3, 3, 2, 4, 5, (-1)] : List Int)) (inner := [.int .i64 3, .int .i64 3, .int .i64 2, .int .i64 4, .int .i64 5, .int .i64 (-1)]) (ok := fun _ => True) (okp := fun _ => True) ?hr ?hp (fun _ hk => hk) trivial (Below.refl _ _) (Nat.le_refl _) (by simp) ?_; (case hd => rfl); (case hg => rfl); (case hr => first | (go_simp; done) | (go_simp; rfl)); (case hp => exact (Reps.one (show Kd.M (Kd.int .i64) _ _ _ 3 [.int .i64 3] from rfl) (Reps.one (show Kd.M (Kd.int .i64) _ _ _ 3 [.int .i64 3] from rfl) (Reps.one (show Kd.M (Kd.int .i64) _ _ _ 2 [.int .i64 2] from rfl) (Reps.one (show Kd.M (Kd.int .i64) _ _ _ 4 [.int .i64 4] from rfl) (Reps.one (show Kd.M (Kd.int .i64) _ _ _ 5 [.int .i64 5] from rfl) (Reps.one (show Kd.M (Kd.int .i64) _ _ _ (-1) [.int .i64 (-1)] from rfl) (Reps.none _ _)))))))); intro v349 w21 ho22 hb hg_ hnew_; clear hg_ hnew_; (first | rw [← Ny348.out] at ho22 | (simp only [Int.reduceToNat] at ho22; rw [← Ny348.out] at ho22)); replace HO_9 := rb HO_9 hb; have HO350 := am (Kd.R_lower (Kd.R_new' ho22 (Kd.R_lt (sr HO344))) (below_size (by exact sj152 HB HI328))); replace HO344 := am (Kd.R_elder' (sr HO344) (Kd.R_base ho22) hb); replace HB := am (below_step (by exact sj152 HB HI328) hb); replace HI328 := am (IsS152.below (by exact si152 HI328) hb); clear hb ho22; obtain ⟨Ao23, co23, eo23⟩ := Kd.R_slice HO350.out; subst eo23) | ((with_reducible refine gc 109 rfl ?_); refine gL (some 27) Try.func109 #[.pointer (some ⟨g328, 0, none⟩), .slice Ao23 y348.length co23] ?_; (with_reducible refine (spec_l1Int.calls g328 t325 t346 t347 _ _ y348 t351 t352 t353 w _ ?side1 ?side2 ?side3 ?side4 ?side5 A13.out).mono ?_); (case side1 => exact si152 HI328); (case side2 => exact sj152 HB HI328); (case side3 => exact cr HO350); (case side4 => exact (Kd.R_reads' HO350.out).2.1); (case side5 => exact far_slice (IsS152.own_ne HI328.out HO350.out (by decide))); rintro e w24 ⟨rfl, hi, hb, hk⟩; refine ⟨_, rfl, ?_⟩; replace HO_9 := am (Kd.R_mono (Kd.R_keep (IsS152.apart (show IsS152 w _ g328 t325 t346 t347 from by exact si152 HI328) (sr HO_9) (by decide)) hk (fun _ h => h.2)) (fun _ h => h.1)); replace HO344 := am (Kd.R_mono (Kd.R_keep (IsS152.apart (show IsS152 w _ g328 t325 t346 t347 from by exact si152 HI328) (sr HO344) (by decide)) hk (fun _ h => h.2)) (fun _ h => h.1)); replace HO350 := am (Kd.R_mono (Kd.R_keep (IsS152.apart (show IsS152 w _ g328 t325 t346 t347 from by exact si152 HI328) (sr HO350) (by decide)) hk (fun _ h => h.2)) (fun _ h => h.1)); replace HB := am hb; replace HI328 := am hi; (try clear hb); (try clear hk); (try clear hi)) | ((with_reducible refine gd 29 rfl ?_); refine Kd.R_lit (Kd.int .i64) _ 3 ?hg (N := 29) ?hd (xs := ([0, 0, 2, (-1)] : List Int)) (inner := [.int .i64 0, .int .i64 0, .int .i64 2, .int .i64 (-1)]) (ok := fun _ => True) (okp := fun _ => True) ?hr ?hp (fun _ hk => hk) trivial (Below.refl _ _) (Nat.le_refl _) (by simp) ?_; (case hd => rfl); (case hg => rfl); (case hr => first | (go_simp; done) | (go_simp; rfl)); (case hp => exact (Reps.one (show Kd.M (Kd.int .i64) _ _ _ 0 [.int .i64 0] from rfl) (Reps.one (show Kd.M (Kd.int .i64) _ _ _ 0 [.int .i64 0] from rfl) (Reps.one (show Kd.M (Kd.int .i64) _ _ _ 2 [.int .i64 2] from rfl) (Reps.one (show Kd.M (Kd.int .i64) _ _ _ (-1) [.int .i64 (-1)] from rfl) (Reps.none _ _)))))); intro v355 w25 ho26 hb hg_ hnew_; clear hg_ hnew_; (first | rw [← Ny354.out] at ho26 | (simp only [Int.reduceToNat] at ho26; rw [← Ny354.out] at ho26)); replace HO_9 := rb HO_9 hb; have HO356 := am (Kd.R_lower (Kd.R_new' (Kd.R_new' ho26 (Kd.R_lt (sr HO344))) (Kd.R_lt (sr HO350))) (below_size (by exact sj152 HB HI328))); replace HO344 := am (Kd.R_elder' (sr HO344) (Kd.R_base ho26) hb); replace HO350 := am (Kd.R_elder' (sr HO350) (Kd.R_base ho26) hb); replace HB := am (below_step (by exact sj152 HB HI328) hb); replace HI328 := am (IsS152.below (by exact si152 HI328) hb); clear hb ho26; obtain ⟨Ao27, co27, eo27⟩ := Kd.R_slice HO356.out; subst eo27) | ((with_reducible refine gc 109 rfl ?_); refine gL (some 30) Try.func109 #[.pointer (some ⟨g328, 0, none⟩), .slice Ao27 y354.length co27] ?_; (with_reducible refine (spec_l1Int.calls g328 t325 t352 t353 _ _ y354 t357 t358 t359 w _ ?side1 ?side2 ?side3 ?side4 ?side5 A14.out).mono ?_); (case side1 => exact si152 HI328); (case side2 => exact sj152 HB HI328); (case side3 => exact cr HO356); (case side4 => exact (Kd.R_reads' HO356.out).2.1); (case side5 => exact far_slice (IsS152.own_ne HI328.out HO356.out (by decide))); rintro e w28 ⟨rfl, hi, hb, hk⟩; refine ⟨_, rfl, ?_⟩; replace HO_9 := am (Kd.R_mono (Kd.R_keep (IsS152.apart (show IsS152 w _ g328 t325 t352 t353 from by exact si152 HI328) (sr HO_9) (by decide)) hk (fun _ h => h.2)) (fun _ h => h.1)); replace HO344 := am (Kd.R_mono (Kd.R_keep (IsS152.apart (show IsS152 w _ g328 t325 t352 t353 from by exact si152 HI328) (sr HO344) (by decide)) hk (fun _ h => h.2)) (fun _ h => h.1)); replace HO350 := am (Kd.R_mono (Kd.R_keep (IsS152.apart (show IsS152 w _ g328 t325 t352 t353 from by exact si152 HI328) (sr HO350) (by decide)) hk (fun _ h => h.2)) (fun _ h => h.1)); replace HO356 := am (Kd.R_mono (Kd.R_keep (IsS152.apart (show IsS152 w _ g328 t325 t352 t353 from by exact si152 HI328) (sr HO356) (by decide)) hk (fun _ h => h.2)) (fun _ h => h.1)); replace HB := am hb; replace HI328 := am hi; (try clear hb); (try clear hk); (try clear hi)) | ((with_reducible refine gd 32 rfl ?_); refine Kd.R_lit (Kd.int .i64) _ 3 ?hg (N := 32) ?hd (xs := ([20, 20, 15, 1001] : List Int)) (inner := [.int .i64 20, .int .i64 20, .int .i64 15, .int .i64 1001]) (ok := fun _ => True) (okp := fun _ => True) ?hr ?hp (fun _ hk => hk) trivial (Below.refl _ _) (Nat.le_refl _) (by simp) ?_; (case hd => rfl); (case hg => rfl); (case hr => first | (go_simp; done) | (go_simp; rfl)); (case hp => exact (Reps.one (show Kd.M (Kd.int .i64) _ _ _ 20 [.int .i64 20] from rfl) (Reps.one (show Kd.M (Kd.int .i64) _ _ _ 20 [.int .i64 20] from rfl) (Reps.one (show Kd.M (Kd.int .i64) _ _ _ 15 [.int .i64 15] from rfl) (Reps.one (show Kd.M (Kd.int .i64) _ _ _ 1001 [.int .i64 1001] from rfl) (Reps.none _ _)))))); intro v361 w29 ho30 hb hg_ hnew_; clear hg_ hnew_; (first | rw [← Ny360.out] at ho30 | (simp only [Int.reduceToNat] at ho30; rw [← Ny360.out] at ho30)); replace HO_9 := rb HO_9 hb; have HO362 := am (Kd.R_lower (Kd.R_new' (Kd.R_new' (Kd.R_new' ho30 (Kd.R_lt (sr HO344))) (Kd.R_lt (sr HO350))) (Kd.R_lt (sr HO356))) (below_size (by exact sj152 HB HI328))); replace HO344 := am (Kd.R_elder' (sr HO344) (Kd.R_base ho30) hb); replace HO350 := am (Kd.R_elder' (sr HO350) (Kd.R_base ho30) hb); replace HO356 := am (Kd.R_elder' (sr HO356) (Kd.R_base ho30) hb); replace HB := am (below_step (by exact sj152 HB HI328) hb); replace HI328 := am (IsS152.below (by exact si152 HI328) hb); clear hb ho30; obtain ⟨Ao31, co31, eo31⟩ := Kd.R_slice HO362.out; subst eo31) | ((with_reducible refine gc 109 rfl ?_); refine gL (some 33) Try.func109 #[.pointer (some ⟨g328, 0, none⟩), .slice Ao31 y360.length co31] ?_; (with_reducible refine (spec_l1Int.calls g328 t325 t358 t359 _ _ y360 t363 t364 t365 w _ ?side1 ?side2 ?side3 ?side4 ?side5 A15.out).mono ?_); (case side1 => exact si152 HI328); (case side2 => exact sj152 HB HI328); (case side3 => exact cr HO362); (case side4 => exact (Kd.R_reads' HO362.out).2.1); (case side5 => exact far_slice (IsS152.own_ne HI328.out HO362.out (by decide))); rintro e w32 ⟨rfl, hi, hb, hk⟩; refine ⟨_, rfl, ?_⟩; replace HO_9 := am (Kd.R_mono (Kd.R_keep (IsS152.apart (show IsS152 w _ g328 t325 t358 t359 from by exact si152 HI328) (sr HO_9) (by decide)) hk (fun _ h => h.2)) (fun _ h => h.1)); replace HO344 := am (Kd.R_mono (Kd.R_keep (IsS152.apart (show IsS152 w _ g328 t325 t358 t359 from by exact si152 HI328) (sr HO344) (by decide)) hk (fun _ h => h.2)) (fun _ h => h.1)); replace HO350 := am (Kd.R_mono (Kd.R_keep (IsS152.apart (show IsS152 w _ g328 t325 t358 t359 from by exact si152 HI328) (sr HO350) (by decide)) hk (fun _ h => h.2)) (fun _ h => h.1)); replace HO356 := am (Kd.R_mono (Kd.R_keep (IsS152.apart (show IsS152 w _ g328 t325 t358 t359 from by exact si152 HI328) (sr HO356) (by decide)) hk (fun _ h => h.2)) (fun _ h => h.1)); replace HO362 := am (Kd.R_mono (Kd.R_keep (IsS152.apart (show IsS152 w _ g328 t325 t358 t359 from by exact si152 HI328) (sr HO362) (by decide)) hk (fun _ h => h.2)) (fun _ h => h.1)); replace HB := am hb; replace HI328 := am hi; (try clear hb); (try clear hk); (try clear hi)) | ((with_reducible refine gd 40 rfl ?_); refine Kd.R_lit (Kd.int .i64) _ 3 ?hg (N := 40) ?hd (xs := ([0, 1, 2, 5, 6] : List Int)) (inner := [.int .i64 0, .int .i64 1, .int .i64 2, .int .i64 5, .int .i64 6]) (ok := fun _ => True) (okp := fun _ => True) ?hr ?hp (fun _ hk => hk) trivial (Below.refl _ _) (Nat.le_refl _) (by simp) ?_; (case hd => rfl); (case hg => rfl); (case hr => first | (go_simp; done) | (go_simp; rfl)); (case hp => exact (Reps.one (show Kd.M (Kd.int .i64) _ _ _ 0 [.int .i64 0] from rfl) (Reps.one (show Kd.M (Kd.int .i64) _ _ _ 1 [.int .i64 1] from rfl) (Reps.one (show Kd.M (Kd.int .i64) _ _ _ 2 [.int .i64 2] from rfl) (Reps.one (show Kd.M (Kd.int .i64) _ _ _ 5 [.int .i64 5] from rfl) (Reps.one (show Kd.M (Kd.int .i64) _ _ _ 6 [.int .i64 6] from rfl) (Reps.none _ _))))))); intro v367 w33 ho34 hb hg_ hnew_; clear hg_ hnew_; (first | rw [← Ny366.out] at ho34 | (simp only [Int.reduceToNat] at ho34; rw [← Ny366.out] at ho34)); replace HO_9 := rb HO_9 hb; have HO368 := am (Kd.R_lower (Kd.R_new' (Kd.R_new' (Kd.R_new' (Kd.R_new' ho34 (Kd.R_lt (sr HO344))) (Kd.R_lt (sr HO350))) (Kd.R_lt (sr HO356))) (Kd.R_lt (sr HO362))) (below_size (by exact sj152 HB HI328))); replace HO344 := am (Kd.R_elder' (sr HO344) (Kd.R_base ho34) hb); replace HO350 := am (Kd.R_elder' (sr HO350) (Kd.R_base ho34) hb); replace HO356 := am (Kd.R_elder' (sr HO356) (Kd.R_base ho34) hb); replace HO362 := am (Kd.R_elder' (sr HO362) (Kd.R_base ho34) hb); replace HB := am (below_step (by exact sj152 HB HI328) hb); replace HI328 := am (IsS152.below (by exact si152 HI328) hb); clear hb ho34; obtain ⟨Ao35, co35, eo35⟩ := Kd.R_slice HO368.out; subst eo35) | ((with_reducible refine gc 109 rfl ?_); refine gL (some 41) Try.func109 #[.pointer (some ⟨g328, 0, none⟩), .slice Ao35 y366.length co35] ?_; (with_reducible refine (spec_l1Int.calls g328 t325 t364 t365 _ _ y366 t369 t370 t371 w _ ?side1 ?side2 ?side3 ?side4 ?side5 A16.out).mono ?_); (case side1 => exact si152 HI328); (case side2 => exact sj152 HB HI328); (case side3 => exact cr HO368); (case side4 => exact (Kd.R_reads' HO368.out).2.1); (case side5 => exact far_slice (IsS152.own_ne HI328.out HO368.out (by decide))); rintro e w36 ⟨rfl, hi, hb, hk⟩; refine ⟨_, rfl, ?_⟩; replace HO_9 := am (Kd.R_mono (Kd.R_keep (IsS152.apart (show IsS152 w _ g328 t325 t364 t365 from by exact si152 HI328) (sr HO_9) (by decide)) hk (fun _ h => h.2)) (fun _ h => h.1)); replace HO344 := am (Kd.R_mono (Kd.R_keep (IsS152.apart (show IsS152 w _ g328 t325 t364 t365 from by exact si152 HI328) (sr HO344) (by decide)) hk (fun _ h => h.2)) (fun _ h => h.1)); replace HO350 := am (Kd.R_mono (Kd.R_keep (IsS152.apart (show IsS152 w _ g328 t325 t364 t365 from by exact si152 HI328) (sr HO350) (by decide)) hk (fun _ h => h.2)) (fun _ h => h.1)); replace HO356 := am (Kd.R_mono (Kd.R_keep (IsS152.apart (show IsS152 w _ g328 t325 t364 t365 from by exact si152 HI328) (sr HO356) (by decide)) hk (fun _ h => h.2)) (fun _ h => h.1)); replace HO362 := am (Kd.R_mono (Kd.R_keep (IsS152.apart (show IsS152 w _ g328 t325 t364 t365 from by exact si152 HI328) (sr HO362) (by decide)) hk (fun _ h => h.2)) (fun _ h => h.1)); replace HO368 := am (Kd.R_mono (Kd.R_keep (IsS152.apart (show IsS152 w _ g328 t325 t364 t365 from by exact si152 HI328) (sr HO368) (by decide)) hk (fun _ h => h.2)) (fun _ h => h.1)); replace HB := am hb; replace HI328 := am hi; (try clear hb); (try clear hk); (try clear hi)))
   refine bodyPost_ret (results_list (rs := [.tmp 2, .tmp 3, .tmp 4, .tmp 5, .tmp 6, .tmp 7]) rfl (by simp) (.tmp (.tmp (.tmp (.tmp (.tmp (.tmp .nil))))))) rfl ?_
   exact ⟨_, se, sr HO_9, by exact sj152 HB HI328⟩

def impl_spanOf.f (a0_0 : Int) (a0_1 : Int) (a0_2 : Int) (a0_3 : Int) : Option (Int × Int) := some (a0_2, a0_3)
theorem impl_spanOf.calls (a0_0 : Int) (a0_1 : Int) (a0_2 : Int) (a0_3 : Int) (r1 : Int) (r2 : Int) (w : World) (h : impl_spanOf.f a0_0 a0_1 a0_2 a0_3 = some (r1, r2)) :
    Calls Try.prog 119 #[.agg #[.int .i64 a0_0, .int .i64 a0_1, .int .i64 a0_2, .int .i64 a0_3]] w fun e w' => e = .returned (.agg #[.int .i64 r1, .int .i64 r2]) ∧ Below w.heap.size w w' := by
 have hu137 := Try.underlying137
 have hu102 := Try.underlying102
 have HB := am (Below.refl w.heap.size w)
 have H := h; unfold impl_spanOf.f at H
 clear h
 simp only [Option.some.injEq, Prod.mk.injEq] at H
 obtain ⟨rfl, rfl⟩ := H
 go_enter Try.func119, Try.ntmps119
 go_wp2_with (first | ((with_reducible refine gd 1 rfl ?_); refine bx 1 #[.int .i64 a0_0, .int .i64 a0_1, .int .i64 a0_2, .int .i64 a0_3] 137 ?_; intro gb372 hg w2 hbox hb; have GW372 := bz w hg; have GE372 := bz w hg; replace HB := bs hb; have BK372 := am hbox; clear hb hbox hg) | ((with_reducible refine gd 2 rfl ?_); refine bx 2 #[.int .i64 0, .int .i64 0] 102 ?_; intro gb373 hg w3 hbox hb; have GW373 := bzw w hg; have GE373 := bzw w hg; replace HB := bsw hb; have BK373 := am hbox; have NB372_373 := nl BK372 hg; have NB373_372 := ng BK372 hg; replace BK372 := bb BK372 hb; clear hb hbox hg; have hnb4 := NB372_373.out; have hnc4 := NB373_372.out; obtain ⟨hcz5_0, hcz5_1, hcz5_2, hcz5_3, hfz5_0, hfz5_1, hfz5_2, hfz5_3⟩ := cc4 BK372; obtain ⟨hcz6_0, hcz6_1, hfz6_0, hfz6_1⟩ := cc2 BK373))
 refine bodyPost_ret (results_cell_row rfl _ _ gb373 102 #[.int .i64 a0_2, .int .i64 a0_3] (0, 0) _ rfl (sp BK373) Try.underlying102 rfl (by kernel_rfl)) rfl ?_
 exact ⟨se, sbw⟩

end Go.Proofs.Ytiihaabhjphaeaa.QFnPrograms
