/- Printed by a program of the session. Conditions: none. (squeezed). -/
import Derived.Test.YthnlkgbhohchoaaGreatVFnExactRepairedAtQFnExactRepairedAtx13
namespace Go.Proofs.YthnlkgbhohchoaaGreat.QFnExactRepairedAt
set_option maxHeartbeats 8000000
set_option maxRecDepth 100000
open Go.RowKit Go.Proofs.YthnlkgbhohchoaaGreatW.PrintWords Go.Proofs.YthnlkgbhohchoaaGreatW.PrintLast Go.Proofs.YthnlkgbhohchoaaGreatW.PrintMore Go.Proofs.YthnlkgbhohchoaaGreat.Open Go.Proofs.YthnlkgbhohchoaaGreat.Sq
attribute [local go_sem] max2_int min2_int max_two min_two max_three min_three max_four min_four   -- for this text's walks alone
attribute [local go_sem] isSome_set
set_option linter.unusedVariables false
set_option linter.unusedSimpArgs false

theorem a16_0 {P : Prop} (h : P := by have := HK1.out; have := HK2.out; have := HK3.out; have := HK4.out; omega) : P := h
mutual
def impl_UnionHasLoop.l0 : Nat → List (List Int) → Int → List (List Int) → Int → Int → Option (Bool)
  | 0, _, _, _, _, _ => none
  | k + 1, x0, x3, x13, x14, x15 => if x15 < x14 then (if 0 ≤ x15 then (if x15 < (x13.length : Int) then (impl_UnionHasLoop.l0 k x0 (mx x3 ((rd_L2 x13 x15).length : Int)) x13 x14 (wrap64 (x15 + 1))) else (none)) else (none)) else (if 0 ≤ x3 then (if (x3 : Int).toNat ≤ 281474976710656 then (impl_UnionHasLoop.l1 k x0 x3 (List.replicate (x3 : Int).toNat false) true) else (none)) else (none))
def impl_UnionHasLoop.l1 : Nat → List (List Int) → Int → List Bool → Bool → Option (Bool)
  | 0, _, _, _, _ => none
  | k + 1, x0, x3, x6, x7 => if x7 = true then (impl_UnionHasLoop.l2 k x0 x3 x6 false x3 0) else (impl_UnionHasLoop.l4 k x6 x3 0)
def impl_UnionHasLoop.l2 : Nat → List (List Int) → Int → List Bool → Bool → Int → Int → Option (Bool)
  | 0, _, _, _, _, _, _ => none
  | k + 1, x0, x3, x6, x7, x27, x28 => if x28 < x27 then (if 0 ≤ x28 then (if x28 < (x6.length : Int) then (if rdOf false x6 x28 = true then (impl_UnionHasLoop.l2 k x0 x3 x6 x7 x27 (wrap64 (x28 + 1))) else (impl_UnionHasLoop.l3 k x0 x3 x6 x7 x28 false x27 x28 x0 (x0.length : Int) 0)) else (none)) else (none)) else (impl_UnionHasLoop.l1 k x0 x3 x6 x7)
def impl_UnionHasLoop.l3 : Nat → List (List Int) → Int → List Bool → Bool → Int → Bool → Int → Int → List (List Int) → Int → Int → Option (Bool)
  | 0, _, _, _, _, _, _, _, _, _, _, _ => none
  | k + 1, x0, x3, x6, x7, x8, x9, x27, x28, x35, x36, x37 => if x37 < x36 then (if 0 ≤ x37 then (if x37 < (x35.length : Int) then (if x9 = true then (impl_UnionHasLoop.l3 k x0 x3 x6 x7 x8 true x27 x28 x35 x36 (wrap64 (x37 + 1))) else (if x8 < ((rd_L2 x35 x37).length : Int) then (if 0 ≤ x8 then ((impl_isIndex.f (rd (rd_L2 x35 x37) x8) x3).bind fun t603 => (if t603 = true then (if 0 ≤ (rd (rd_L2 x35 x37) x8) then (if (rd (rd_L2 x35 x37) x8) < (x6.length : Int) then (impl_UnionHasLoop.l3 k x0 x3 x6 x7 x8 (!(rdOf false x6 (rd (rd_L2 x35 x37) x8))) x27 x28 x35 x36 (wrap64 (x37 + 1))) else (none)) else (none)) else (impl_UnionHasLoop.l3 k x0 x3 x6 x7 x8 false x27 x28 x35 x36 (wrap64 (x37 + 1))))) else (none)) else (impl_UnionHasLoop.l3 k x0 x3 x6 x7 x8 false x27 x28 x35 x36 (wrap64 (x37 + 1))))) else (none)) else (none)) else (if x9 = true then (impl_UnionHasLoop.l2 k x0 x3 x6 x7 x27 (wrap64 (x28 + 1))) else (if 0 ≤ x8 then (if x8 < (x6.length : Int) then (impl_UnionHasLoop.l2 k x0 x3 (x6.set (x8 : Int).toNat true) true x27 (wrap64 (x28 + 1))) else (none)) else (none)))
def impl_UnionHasLoop.l4 : Nat → List Bool → Int → Int → Option (Bool)
  | 0, _, _, _ => none
  | k + 1, x6, x73, x74 => if x74 < x73 then (if 0 ≤ x74 then (if x74 < (x6.length : Int) then (if rdOf false x6 x74 = true then (impl_UnionHasLoop.l4 k x6 x73 (wrap64 (x74 + 1))) else (some true)) else (none)) else (none)) else (some false)
end
def impl_UnionHasLoop.f (k : Nat) (l0 : List (List Int)) : Option (Bool) := impl_UnionHasLoop.l0 k l0 0 l0 (l0.length : Int) 0
theorem impl_UnionHasLoop.mono_l : ∀ k, (∀ y0 y1 y2 y3 y4, LeO (impl_UnionHasLoop.l0 k y0 y1 y2 y3 y4) (impl_UnionHasLoop.l0 (k + 1) y0 y1 y2 y3 y4)) ∧ (∀ y0 y1 y2 y3, LeO (impl_UnionHasLoop.l1 k y0 y1 y2 y3) (impl_UnionHasLoop.l1 (k + 1) y0 y1 y2 y3)) ∧ (∀ y0 y1 y2 y3 y4 y5, LeO (impl_UnionHasLoop.l2 k y0 y1 y2 y3 y4 y5) (impl_UnionHasLoop.l2 (k + 1) y0 y1 y2 y3 y4 y5)) ∧ (∀ y0 y1 y2 y3 y4 y5 y6 y7 y8 y9 y10, LeO (impl_UnionHasLoop.l3 k y0 y1 y2 y3 y4 y5 y6 y7 y8 y9 y10) (impl_UnionHasLoop.l3 (k + 1) y0 y1 y2 y3 y4 y5 y6 y7 y8 y9 y10)) ∧ (∀ y0 y1 y2, LeO (impl_UnionHasLoop.l4 k y0 y1 y2) (impl_UnionHasLoop.l4 (k + 1) y0 y1 y2))
  | 0 => ⟨fun _ _ _ _ _ r h => by simp [impl_UnionHasLoop.l0] at h, fun _ _ _ _ r h => by simp [impl_UnionHasLoop.l1] at h, fun _ _ _ _ _ _ r h => by simp [impl_UnionHasLoop.l2] at h, fun _ _ _ _ _ _ _ _ _ _ _ r h => by simp [impl_UnionHasLoop.l3] at h, fun _ _ _ r h => by simp [impl_UnionHasLoop.l4] at h⟩
  | k + 1 => by
    obtain ⟨ih0, ih1, ih2, ih3, ih4⟩ := impl_UnionHasLoop.mono_l k
    refine ⟨?_, ?_, ?_, ?_, ?_⟩
    · intro y0 y1 y2 y3 y4
      unfold impl_UnionHasLoop.l0
      exact mo
    · intro y0 y1 y2 y3
      unfold impl_UnionHasLoop.l1
      exact mo
    · intro y0 y1 y2 y3 y4 y5
      unfold impl_UnionHasLoop.l2
      exact mo
    · intro y0 y1 y2 y3 y4 y5 y6 y7 y8 y9 y10
      unfold impl_UnionHasLoop.l3
      exact mo
    · intro y0 y1 y2
      unfold impl_UnionHasLoop.l4
      exact mo
theorem impl_UnionHasLoop.mono : ∀ a0 k, LeO (impl_UnionHasLoop.f k a0) (impl_UnionHasLoop.f (k + 1) a0) := by
  intro a0 k
  obtain ⟨ih0, ih1, ih2, ih3, ih4⟩ := impl_UnionHasLoop.mono_l k
  unfold impl_UnionHasLoop.f
  exact mo
theorem impl_UnionHasLoop.calls (k : Nat) (A0 : Option Addr) (c0 : Nat) (l0 : List (List Int)) (r : Bool) (w : World) (hr0 : Kd.C (Kd.slice 3 (Kd.int .i64)) w A0 l0.length l0) (hc0 : l0.length ≤ c0) (h : impl_UnionHasLoop.f k l0 = some r) :
    Calls Tryz.prog 50 #[.slice A0 l0.length c0] w fun e w' => e = .returned (.bool r) ∧ Below w.heap.size w w' := by
 have HR0 := am hr0
 have HC0 := am hc0
 clear hr0 hc0
 have HB := am (Below.refl w.heap.size w)
 have H := h; unfold impl_UnionHasLoop.f at H
 clear h
 have H' := am H
 clear H
 go_enter Tryz.func50, Tryz.ntmps50
 go_wp2
 go_loopg [3, 15] k (fun kq v3 v15 w' => ∃ (x3_1 : Int) (x15_1 : Int), v3 = .int .i64 x3_1 ∧ v15 = .int .i64 x15_1 ∧ Aside0 (impl_UnionHasLoop.l0 kq l0 x3_1 l0 (l0.length : Int) x15_1 = some r) ∧ Aside0 (kq ≤ k) ∧ Aside0 (Below w.heap.size w w'))
 case atStart => exact ⟨(0), (0), sc, sc, H', kk0, ⟨sb⟩⟩
 case round =>
  clear H'
  obtain ⟨x3_1, x15_1, rfl, rfl, HA, HK1, HB⟩ := hrel
  cases gk with
  | zero => exact absurd HA.out (by simp [impl_UnionHasLoop.l0])
  | succ k1 =>
   have H := HA.out
   clear HA
   simp only [impl_UnionHasLoop.l0] at H
   obtain ⟨-, c2b0, H⟩ | ⟨-, c2b0, H⟩ := ic_ H
   ·obtain ⟨c3b0, H⟩ := id_ H
    obtain ⟨c4b0, H⟩ := id_ H
    obtain ⟨ji5, hji5⟩ : ∃ j_ : Int, (mx x3_1 ((rd_L2 l0 x15_1).length : Int)) = j_ := ⟨_, rfl⟩
    replace H : (impl_UnionHasLoop.l0 k1 l0 ji5 l0 (l0.length : Int) (wrap64 (x15_1 + 1))) = some r := by first | (rw [hji5] at H; exact H) | (simp only [hji5] at H ⊢; exact H)
    have hji5_ : (if x3_1 < ((rd_L2 l0 x15_1).length : Int) then ((rd_L2 l0 x15_1).length : Int) else x3_1) = ji5 := hji5
    have H' := am H
    clear H
    obtain ⟨p596, q596, ad596, A596_0, c596_0, e596, _, hx596_0, HC596_0, HR596_0⟩ := aT_L2 HR0 HB x15_1
    cases e596
    go_wp2
    go_roundg k1
    case measure => have := HK1.out; omega
    case rel => exact ⟨(ji5), (wrap64 (x15_1 + 1)), (by first | rfl | (simp; done) | (simp only [← hji5] <;> (first | rfl | simp)) | (simp [*]; done)), sc, H', kk1, ⟨sb⟩⟩
   ·obtain ⟨c6, H⟩ := ia_ H
    have c6b0 := eq_true c6
    have c6b1 := decide_eq_true c6
    clear c6
    obtain ⟨c7, H⟩ := ia_ H
    have c7b0 := eq_true c7
    have c7b1 := decide_eq_true c7
    clear c7
    obtain ⟨y597, hy597⟩ : ∃ y_ : List Bool, y_ = (List.replicate (x3_1 : Int).toNat false) := ⟨_, rfl⟩
    replace H : (impl_UnionHasLoop.l1 k1 l0 x3_1 y597 true) = some r := ry hy597 H
    have Ny597 := am hy597
    clear hy597
    have H' := am H
    clear H
    go_wp2_with (first | ((with_reducible refine gd 25 rfl ?_); (try (refine gate_guard (by rfl) ?_; dsimp only)); refine Kd.R_make Kd.bool _ 4 rfl (N := 25) rfl 116 _ _ rfl x3_1 rfl rfl Tryz.underlying116 (.bool false) 1 info4 rfl (by decide) (by omega) false (ok := fun _ => True) (okp := fun _ => True) rfl (fun _ hk => hk) trivial (sa) (Nat.le_trans (Nat.mul_le_mul_right _ (sa : x3_1.toNat ≤ 281474976710656)) (by omega)) (Below.refl _ _) (Nat.le_refl _) ?_; intro v598 w8 ho9 hb hg_ hnew_; clear hg_ hnew_; (first | rw [← Ny597.out] at ho9 | (simp only [Int.reduceToNat] at ho9; rw [← Ny597.out] at ho9)); have HO599 := am (Kd.R_lower ho9 (below_size (sb))); replace HB := bs hb; clear hb ho9))
    go_loopg [7] k1 (fun kq v7 w' => ∃ (x6_2 : List Bool) (x7_2 : Bool), v7 = .bool x7_2 ∧ Aside0 (impl_UnionHasLoop.l1 kq l0 x3_1 x6_2 x7_2 = some r) ∧ Aside0 (kq ≤ k1) ∧ Aside0 (Kd.R Kd.bool 4 w' w.heap.size (fun _ => True) v598 x6_2) ∧ Aside0 (Below w.heap.size w w'))
    case atStart => exact ⟨(y597), (true), sc, H', kk0, ⟨sr HO599⟩, ⟨sb⟩⟩
    case round =>
     clear H'
     try clear c2
     try clear c2b0
     try clear c6
     try clear c6b0
     try clear c6b1
     try clear c7
     try clear c7b0
     try clear c7b1
     obtain ⟨x6_2, x7_2, rfl, HA, HK2, HO_6, HB⟩ := hrel
     cases gk with
     | zero => exact absurd HA.out (by simp [impl_UnionHasLoop.l1])
     | succ k2 =>
      have H := HA.out
      clear HA
      simp only [impl_UnionHasLoop.l1] at H
      obtain rfl | rfl := tt x7_2
      ·replace H := ip H
       have H' := am H
       clear H
       go_wp2
       go_loopg [7, 28] k2 (fun kq v7 v28 w' => ∃ (x6_3 : List Bool) (x7_3 : Bool) (x28_3 : Int), v7 = .bool x7_3 ∧ v28 = .int .i64 x28_3 ∧ Aside0 (impl_UnionHasLoop.l2 kq l0 x3_1 x6_3 x7_3 x3_1 x28_3 = some r) ∧ Aside0 (kq ≤ k2) ∧ Aside0 (Kd.R Kd.bool 4 w' w.heap.size (fun _ => True) v598 x6_3) ∧ Aside0 (Below w.heap.size w w'))
       case atStart => exact ⟨(x6_2), (false), (0), sc, sc, H', kk0, ⟨sr HO_6⟩, ⟨sb⟩⟩
       case round =>
        clear H'
        try clear c2
        try clear c2b0
        try clear c6
        try clear c6b0
        try clear c6b1
        try clear c7
        try clear c7b0
        try clear c7b1
        obtain ⟨x6_3, x7_3, x28_3, rfl, rfl, HA, HK3, HO_6, HB⟩ := hrel
        cases gk with
        | zero => exact absurd HA.out (by simp [impl_UnionHasLoop.l2])
        | succ k3 =>
         have H := HA.out
         clear HA
         simp only [impl_UnionHasLoop.l2] at H
         obtain ⟨-, c11b0, H⟩ | ⟨-, c11b0, H⟩ := ic_ H
         ·obtain ⟨c12b0, H⟩ := id_ H
          obtain ⟨c13b0, H⟩ := id_ H
          obtain ⟨bq14, hbq14⟩ : ∃ b_ : Bool, b_ = (rdOf false x6_3 x28_3) := ⟨_, rfl⟩
          replace H : (if bq14 = true then (impl_UnionHasLoop.l2 k3 l0 x3_1 x6_3 x7_3 x3_1 (wrap64 (x28_3 + 1))) else (impl_UnionHasLoop.l3 k3 l0 x3_1 x6_3 x7_3 x28_3 false x3_1 x28_3 l0 (l0.length : Int) 0)) = some r := by rw [← hbq14] at H; exact H
          have Nbq14 := am hbq14
          clear hbq14
          obtain rfl | rfl := tt bq14
          ·replace H := ip H
           have H' := am H
           clear H
           obtain ⟨Ao16, co16, eo16⟩ := Kd.R_slice HO_6.out
           subst eo16
           have p600 : 0 ≤ (x28_3 : Int) := sa
           have q600 : x28_3 < (x6_3.length : Int) := sa
           obtain ⟨ad600, e600, hx600_0⟩ := Kd.at_bool (Kd.R_reads' HO_6.out).2.2 x28_3 p600 q600
           (try rw [← Nbq14.out] at hx600_0)
           cases e600
           replace p600 := eq_true p600
           replace q600 := eq_true q600
           go_wp2
           go_roundg k3
           case measure => have := HK1.out; have := HK2.out; have := HK3.out; omega
           case rel => exact ⟨(x6_3), (x7_3), (wrap64 (x28_3 + 1)), sc, sc, H', kk3, ⟨sr HO_6⟩, ⟨sb⟩⟩
          ·replace H := im H
           have H' := am H
           clear H
           obtain ⟨Ao17, co17, eo17⟩ := Kd.R_slice HO_6.out
           subst eo17
           have p600 : 0 ≤ (x28_3 : Int) := sa
           have q600 : x28_3 < (x6_3.length : Int) := sa
           obtain ⟨ad600, e600, hx600_0⟩ := Kd.at_bool (Kd.R_reads' HO_6.out).2.2 x28_3 p600 q600
           (try rw [← Nbq14.out] at hx600_0)
           cases e600
           replace p600 := eq_true p600
           replace q600 := eq_true q600
           go_wp2
           go_loopg [9, 37] k3 (fun kq v9 v37 w' => ∃ (x9_4 : Bool) (x37_4 : Int), v9 = .bool x9_4 ∧ v37 = .int .i64 x37_4 ∧ Aside0 (impl_UnionHasLoop.l3 kq l0 x3_1 x6_3 x7_3 x28_3 x9_4 x3_1 x28_3 l0 (l0.length : Int) x37_4 = some r) ∧ Aside0 (kq ≤ k3) ∧ Aside0 (Kd.R Kd.bool 4 w' w.heap.size (fun _ => True) (.slice (some ad600) x6_3.length co17) x6_3) ∧ Aside0 (Below w.heap.size w w'))
           case atStart => exact ⟨(false), (0), sc, sc, H', kk0, ⟨sr HO_6⟩, ⟨sb⟩⟩
           case round =>
            clear H'
            try clear c2
            try clear c2b0
            try clear c6
            try clear c6b0
            try clear c6b1
            try clear c7
            try clear c7b0
            try clear c7b1
            try clear c11
            try clear c11b0
            try clear c12b0
            try clear c13b0
            try clear hx600_0
            try clear p600
            try clear q600
            obtain ⟨x9_4, x37_4, rfl, rfl, HA, HK4, HO_6, HB⟩ := hrel
            cases gk with
            | zero => exact absurd HA.out (by simp [impl_UnionHasLoop.l3])
            | succ k4 =>
             have H := HA.out
             clear HA
             simp only [impl_UnionHasLoop.l3] at H
             obtain ⟨-, c18b0, H⟩ | ⟨-, c18b0, H⟩ := ic_ H
             ·obtain ⟨c19b0, H⟩ := id_ H
              obtain ⟨c20b0, H⟩ := id_ H
              obtain rfl | rfl := tt x9_4
              ·replace H := ip H
               have H' := am H
               clear H
               obtain ⟨p601, q601, ad601, A601_0, c601_0, e601, _, hx601_0, HC601_0, HR601_0⟩ := aT_L2 HR0 HB x37_4
               cases e601
               go_wp2
               go_roundg k4
               case measure => have := HK1.out; have := HK2.out; have := HK3.out; have := HK4.out; omega
               case rel => exact ⟨(true), (wrap64 (x37_4 + 1)), sc, sc, H', ⟨a16_0⟩, ⟨sr HO_6⟩, ⟨sb⟩⟩
              ·replace H := im H
               obtain ⟨-, c22b0, H⟩ | ⟨-, c22b0, H⟩ := ic_ H
               ·obtain ⟨c23b0, H⟩ := id_ H
                obtain ⟨t603, A24, H⟩ := bnd H
                obtain rfl | rfl := tt t603
                ·replace H := ip H
                 obtain ⟨c26b0, H⟩ := id_ H
                 obtain ⟨c27b0, H⟩ := id_ H
                 have H' := am H
                 clear H
                 obtain ⟨p601, q601, ad601, A601_0, c601_0, e601, _, hx601_0, HC601_0, HR601_0⟩ := aT_L2 HR0 HB x37_4
                 cases e601
                 obtain ⟨p602, q602, ad602, e602, _, hx602_0⟩ := at_i HR601_0 HB x28_3
                 cases e602
                 go_wp2_with (first | (go_at_call 55; (with_reducible refine (impl_isIndex.calls (rd (rd_L2 l0 x37_4) x28_3) x3_1 true _ A24.out).mono ?_); rintro e w' ⟨rfl, ⟨nd, rfl⟩⟩; obtain ⟨p604, q604, ad604, e604, _, hx604_0⟩ := at_i HR601_0 HB x28_3; obtain rfl : ad602 = ad604 := (by injection e604); have p605 : 0 ≤ ((rd (rd_L2 l0 x37_4) x28_3) : Int) := sa; have q605 : (rd (rd_L2 l0 x37_4) x28_3) < (x6_3.length : Int) := sa; obtain ⟨ad605, e605, hx605_0⟩ := Kd.at_bool (Kd.R_reads' HO_6.out).2.2 (rd (rd_L2 l0 x37_4) x28_3) p605 q605; (try rw [← Nbq14.out] at hx605_0); obtain rfl : ad600 = ad605 := (by injection e605); replace p605 := eq_true p605; replace q605 := eq_true q605))
                 go_roundg k4
                 case measure => have := HK1.out; have := HK2.out; have := HK3.out; have := HK4.out; omega
                 case rel => exact ⟨(!(rdOf false x6_3 (rd (rd_L2 l0 x37_4) x28_3))), (wrap64 (x37_4 + 1)), sc, sc, H', ⟨a16_0⟩, ⟨sr HO_6⟩, ⟨sb⟩⟩
                ·replace H := im H
                 have H' := am H
                 clear H
                 obtain ⟨p601, q601, ad601, A601_0, c601_0, e601, _, hx601_0, HC601_0, HR601_0⟩ := aT_L2 HR0 HB x37_4
                 cases e601
                 obtain ⟨p602, q602, ad602, e602, _, hx602_0⟩ := at_i HR601_0 HB x28_3
                 cases e602
                 go_wp2_with (first | (go_at_call 55; (with_reducible refine (impl_isIndex.calls (rd (rd_L2 l0 x37_4) x28_3) x3_1 false _ A24.out).mono ?_); rintro e w' ⟨rfl, ⟨nd, rfl⟩⟩))
                 go_roundg k4
                 case measure => have := HK1.out; have := HK2.out; have := HK3.out; have := HK4.out; omega
                 case rel => exact ⟨(false), (wrap64 (x37_4 + 1)), sc, sc, H', ⟨a16_0⟩, ⟨sr HO_6⟩, ⟨sb⟩⟩
               ·have H' := am H
                clear H
                obtain ⟨p601, q601, ad601, A601_0, c601_0, e601, _, hx601_0, HC601_0, HR601_0⟩ := aT_L2 HR0 HB x37_4
                cases e601
                go_wp2
                go_roundg k4
                case measure => have := HK1.out; have := HK2.out; have := HK3.out; have := HK4.out; omega
                case rel => exact ⟨(false), (wrap64 (x37_4 + 1)), sc, sc, H', ⟨a16_0⟩, ⟨sr HO_6⟩, ⟨sb⟩⟩
             ·obtain rfl | rfl := tt x9_4
              ·replace H := ip H
               have H' := am H
               clear H
               go_wp2
               go_roundg k4
               case measure => have := HK1.out; have := HK2.out; have := HK3.out; have := HK4.out; omega
               case rel => exact ⟨(x6_3), (x7_3), (wrap64 (x28_3 + 1)), sc, sc, H', ⟨a16_0⟩, ⟨sr HO_6⟩, ⟨sb⟩⟩
              ·replace H := im H
               obtain ⟨c29b0, H⟩ := id_ H
               obtain ⟨c30b0, H⟩ := id_ H
               obtain ⟨y606, hy606⟩ : ∃ y_ : List Bool, y_ = (x6_3.set (x28_3 : Int).toNat true) := ⟨_, rfl⟩
               replace H : (impl_UnionHasLoop.l2 k4 l0 x3_1 y606 true x3_1 (wrap64 (x28_3 + 1))) = some r := ry hy606 H
               have Ny606 := am hy606
               clear hy606
               have H' := am H
               clear H
               have p31 : 0 ≤ (x28_3 : Int) := sa
               have q31 : (x28_3 : Int) < ((x6_3.length : Int) : Int) := sa
               obtain ⟨go31, co31, eo31, gb31, gl31, cl31, HG31⟩ := Kd.R_form HO_6.out (by omega)
               (first | cases eo31 | (injection eo31 with ea_ en_ ec_; (first | subst ea_ | (injection ea_ with ea_; subst ea_)); subst ec_; clear en_))
               have GB31 := am gb31
               have GG31 := am HG31
               clear gb31 gl31 HG31
               (first | simp only [add_plain] at hx600_0 | skip)
               (first | simp only [add_plain] at hx605_0 | skip)
               obtain ⟨hx31_0, hf31_0⟩ := Kd.R_celln false HO_6.out (x28_3 : Int) p31 q31
               replace p31 := eq_true p31
               replace q31 := eq_true q31
               have HP32 := Kd.R_putg HO_6.out (x28_3 : Int) true
               go_wp2_with (first | ((with_reducible refine gate_store (t := 4) (p := 71) rfl ?_); refine store_event (t := 4) (p := 71) (v := ?vo_w33) (w1 := (wr.setCell ⟨go31, (x28_3 : Int).toNat, none⟩ (.bool true))) ?hg ?ho ?hn ?hr ?_; (case ho => rfl); (case hg => rfl); (case hn => rfl); (case hr => first | (go_simp; done) | (go_simp; rfl)); intro w33 hw; have hg : wr.grownBy w33 (some go31) := (by rw [hw]; exact HP32.2); have hp_ : Kd.R Kd.bool 4 w33 w.heap.size (fun _ => True) (.slice (some ⟨go31, 0, none⟩) x6_3.length co17) y606 := (by rw [hw, Ny606.out]; exact HP32.1); clear HP32; replace HO_6 := am hp_; replace HB := am ((by rw [hw]; exact below_set (HB.out) GB31.out : Below w.heap.size w w33)); clear hg hw hp_))
               go_roundg k4
               case measure => have := HK1.out; have := HK2.out; have := HK3.out; have := HK4.out; omega
               case rel => exact ⟨(y606), (true), (wrap64 (x28_3 + 1)), sc, sc, H', ⟨a16_0⟩, ⟨sr HO_6⟩, ⟨sb⟩⟩
         ·have H' := am H
          clear H
          go_wp2
          go_roundg k3
          case measure => have := HK1.out; have := HK2.out; have := HK3.out; omega
          case rel => exact ⟨(x6_3), (x7_3), sc, H', kk3, ⟨sr HO_6⟩, ⟨sb⟩⟩
      ·replace H := im H
       have H' := am H
       clear H
       go_wp2
       go_loopg [74] k2 (fun kq v74 w' => ∃ (x74_3 : Int), v74 = .int .i64 x74_3 ∧ Aside0 (impl_UnionHasLoop.l4 kq x6_2 x3_1 x74_3 = some r) ∧ Aside0 (kq ≤ k2) ∧ Aside0 (Kd.R Kd.bool 4 w' w.heap.size (fun _ => True) v598 x6_2) ∧ Aside0 (Below w.heap.size w w'))
       case atStart => exact ⟨(0), sc, H', kk0, ⟨sr HO_6⟩, ⟨sb⟩⟩
       case round =>
        clear H'
        try clear c2
        try clear c2b0
        try clear c6
        try clear c6b0
        try clear c6b1
        try clear c7
        try clear c7b0
        try clear c7b1
        obtain ⟨x74_3, rfl, HA, HK3, HO_6, HB⟩ := hrel
        cases gk with
        | zero => exact absurd HA.out (by simp [impl_UnionHasLoop.l4])
        | succ k3 =>
         have H := HA.out
         clear HA
         simp only [impl_UnionHasLoop.l4] at H
         obtain ⟨-, c34b0, H⟩ | ⟨-, c34b0, H⟩ := ic_ H
         ·obtain ⟨c35b0, H⟩ := id_ H
          obtain ⟨c36b0, H⟩ := id_ H
          obtain ⟨bq37, hbq37⟩ : ∃ b_ : Bool, b_ = (rdOf false x6_2 x74_3) := ⟨_, rfl⟩
          replace H : (if bq37 = true then (impl_UnionHasLoop.l4 k3 x6_2 x3_1 (wrap64 (x74_3 + 1))) else (some true)) = some r := by rw [← hbq37] at H; exact H
          have Nbq37 := am hbq37
          clear hbq37
          obtain rfl | rfl := tt bq37
          ·replace H := ip H
           have H' := am H
           clear H
           obtain ⟨Ao39, co39, eo39⟩ := Kd.R_slice HO_6.out
           subst eo39
           have p607 : 0 ≤ (x74_3 : Int) := sa
           have q607 : x74_3 < (x6_2.length : Int) := sa
           obtain ⟨ad607, e607, hx607_0⟩ := Kd.at_bool (Kd.R_reads' HO_6.out).2.2 x74_3 p607 q607
           (try rw [← Nbq37.out] at hx607_0)
           cases e607
           replace p607 := eq_true p607
           replace q607 := eq_true q607
           go_wp2
           go_roundg k3
           case measure => have := HK1.out; have := HK2.out; have := HK3.out; omega
           case rel => exact ⟨(wrap64 (x74_3 + 1)), sc, H', kk3, ⟨sr HO_6⟩, ⟨sb⟩⟩
          ·replace H := im H
           obtain rfl := Option.some.inj H
           obtain ⟨Ao40, co40, eo40⟩ := Kd.R_slice HO_6.out
           subst eo40
           have p607 : 0 ≤ (x74_3 : Int) := sa
           have q607 : x74_3 < (x6_2.length : Int) := sa
           obtain ⟨ad607, e607, hx607_0⟩ := Kd.at_bool (Kd.R_reads' HO_6.out).2.2 x74_3 p607 q607
           (try rw [← Nbq37.out] at hx607_0)
           cases e607
           replace p607 := eq_true p607
           replace q607 := eq_true q607
           go_wp2
           go_ret
           exact ⟨se, sb⟩
         ·obtain rfl := Option.some.inj H
          go_wp2
          go_ret
          exact ⟨se, sb⟩

end Go.Proofs.YthnlkgbhohchoaaGreat.QFnExactRepairedAt
