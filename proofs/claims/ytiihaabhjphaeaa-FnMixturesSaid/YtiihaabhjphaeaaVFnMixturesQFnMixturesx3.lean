/- What the Go functions of the law FnMixtures come to, as Lean functions, and that they do: by a program of the session, out of the kit's printer. Conditions: none. (squeezed). -/
import Derived.Test.YtiihaabhjphaeaaVFnMixturesSq
import Derived.Test.YtiihaabhjphaeaaVFnMixturesQFnMixturesx0
import Derived.Test.YtiihaabhjphaeaaVFnMixturesQFnMixturesx2
namespace Go.Proofs.Ytiihaabhjphaeaa.QFnMixtures
open Go.RowKit Go.Proofs.YtiihaabhjphaeaaW.PrintWords Go.Proofs.YtiihaabhjphaeaaW.PrintLast Go.Proofs.YtiihaabhjphaeaaW.PrintMore Go.Proofs.Ytiihaabhjphaeaa.Open Go.Proofs.Ytiihaabhjphaeaa.Sq
attribute [local go_sem] max2_int min2_int max_two min_two max_three min_three max_four min_four   -- for this text's walks alone
attribute [local go_sem] isSome_set
set_option linter.unusedVariables false
set_option linter.unusedSimpArgs false

/-! ### impl_UnionHasLoop: function 14 -/
mutual
def impl_UnionHasLoop.l0 : Nat → List (List Int) → Int → List (List Int) → Int → Int → Option (Bool)
  | 0, _, _, _, _, _ => none
  | k + 1, x0, x3, x13, x14, x15 => if x15 < x14 then (if 0 ≤ x15 then (if x15 < (x13.length : Int) then (impl_UnionHasLoop.l0 k x0 (mx x3 ((rd_L2 x13 x15).length : Int)) x13 x14 (wrap64 (x15 + 1))) else (none)) else (none)) else (if 0 ≤ x3 then (if (x3 : Int).toNat ≤ 281474976710656 then (impl_UnionHasLoop.l1 k x0 x3 (List.replicate (x3 : Int).toNat false) true) else (none)) else (none))
def impl_UnionHasLoop.l1 : Nat → List (List Int) → Int → List Bool → Bool → Option (Bool)
  | 0, _, _, _, _ => none
  | k + 1, x0, x3, x6, x7 => if x7 = true then (impl_UnionHasLoop.l2 k x0 x3 x6 false x3 0) else (impl_UnionHasLoop.l4 k x6 x3 0)
def impl_UnionHasLoop.l2 : Nat → List (List Int) → Int → List Bool → Bool → Int → Int → Option (Bool)
  | 0, _, _, _, _, _, _ => none
  | k + 1, x0, x3, x6, x7, x27, x28 => if x28 < x27 then (if 0 ≤ x28 then (if x28 < (x6.length : Int) then (if rdOf false x6 x28 = true then (impl_UnionHasLoop.l2 k x0 x3 x6 x7 x27 (wrap64 (x28 + 1))) else (impl_UnionHasLoop.l3 k x0 x3 x6 x7 x28 false x27 x28 x0 (x0.length : Int) 0)) else (none)) else (none)) else (impl_UnionHasLoop.l1 k x0 x3 x6 x7)
def impl_UnionHasLoop.l3 : Nat → List (List Int) → Int → List Bool → Bool → Int → Bool → Int → Int → List (List Int) → Int → Int → Option (Bool)
  | 0, _, _, _, _, _, _, _, _, _, _, _ => none
  | k + 1, x0, x3, x6, x7, x8, x9, x27, x28, x35, x36, x37 => if x37 < x36 then (if 0 ≤ x37 then (if x37 < (x35.length : Int) then (if x9 = true then (impl_UnionHasLoop.l3 k x0 x3 x6 x7 x8 true x27 x28 x35 x36 (wrap64 (x37 + 1))) else (if x8 < ((rd_L2 x35 x37).length : Int) then (if 0 ≤ x8 then ((impl_isIndex.f (rd (rd_L2 x35 x37) x8) x3).bind fun t149 => (if t149 = true then (if 0 ≤ (rd (rd_L2 x35 x37) x8) then (if (rd (rd_L2 x35 x37) x8) < (x6.length : Int) then (impl_UnionHasLoop.l3 k x0 x3 x6 x7 x8 (!(rdOf false x6 (rd (rd_L2 x35 x37) x8))) x27 x28 x35 x36 (wrap64 (x37 + 1))) else (none)) else (none)) else (impl_UnionHasLoop.l3 k x0 x3 x6 x7 x8 false x27 x28 x35 x36 (wrap64 (x37 + 1))))) else (none)) else (impl_UnionHasLoop.l3 k x0 x3 x6 x7 x8 false x27 x28 x35 x36 (wrap64 (x37 + 1))))) else (none)) else (none)) else (if x9 = true then (impl_UnionHasLoop.l2 k x0 x3 x6 x7 x27 (wrap64 (x28 + 1))) else (if 0 ≤ x8 then (if x8 < (x6.length : Int) then (impl_UnionHasLoop.l2 k x0 x3 (x6.set (x8 : Int).toNat true) true x27 (wrap64 (x28 + 1))) else (none)) else (none)))
def impl_UnionHasLoop.l4 : Nat → List Bool → Int → Int → Option (Bool)
  | 0, _, _, _ => none
  | k + 1, x6, x73, x74 => if x74 < x73 then (if 0 ≤ x74 then (if x74 < (x6.length : Int) then (if rdOf false x6 x74 = true then (impl_UnionHasLoop.l4 k x6 x73 (wrap64 (x74 + 1))) else (some true)) else (none)) else (none)) else (some false)
end
def impl_UnionHasLoop.f (k : Nat) (l0 : List (List Int)) : Option (Bool) := impl_UnionHasLoop.l0 k l0 0 l0 (l0.length : Int) 0
theorem impl_UnionHasLoop.mono_l : ∀ k, (∀ y0 y1 y2 y3 y4, LeO (impl_UnionHasLoop.l0 k y0 y1 y2 y3 y4) (impl_UnionHasLoop.l0 (k + 1) y0 y1 y2 y3 y4)) ∧ (∀ y0 y1 y2 y3, LeO (impl_UnionHasLoop.l1 k y0 y1 y2 y3) (impl_UnionHasLoop.l1 (k + 1) y0 y1 y2 y3)) ∧ (∀ y0 y1 y2 y3 y4 y5, LeO (impl_UnionHasLoop.l2 k y0 y1 y2 y3 y4 y5) (impl_UnionHasLoop.l2 (k + 1) y0 y1 y2 y3 y4 y5)) ∧ (∀ y0 y1 y2 y3 y4 y5 y6 y7 y8 y9 y10, LeO (impl_UnionHasLoop.l3 k y0 y1 y2 y3 y4 y5 y6 y7 y8 y9 y10) (impl_UnionHasLoop.l3 (k + 1) y0 y1 y2 y3 y4 y5 y6 y7 y8 y9 y10)) ∧ (∀ y0 y1 y2, LeO (impl_UnionHasLoop.l4 k y0 y1 y2) (impl_UnionHasLoop.l4 (k + 1) y0 y1 y2))
  | 0 => ⟨fun _ _ _ _ _ r h => by simp [impl_UnionHasLoop.l0] at h, fun _ _ _ _ r h => by simp [impl_UnionHasLoop.l1] at h, fun _ _ _ _ _ _ r h => by simp [impl_UnionHasLoop.l2] at h, fun _ _ _ _ _ _ _ _ _ _ _ r h => by simp [impl_UnionHasLoop.l3] at h, fun _ _ _ r h => by simp [impl_UnionHasLoop.l4] at h⟩
  | k + 1 => by
    obtain ⟨ih0, ih1, ih2, ih3, ih4⟩ := impl_UnionHasLoop.mono_l k
    refine ⟨?_, ?_, ?_, ?_, ?_⟩
    · intro y0 y1 y2 y3 y4
      unfold impl_UnionHasLoop.l0
      exact mo
    · intro y0 y1 y2 y3
      unfold impl_UnionHasLoop.l1
      exact mo
    · intro y0 y1 y2 y3 y4 y5
      unfold impl_UnionHasLoop.l2
      exact mo
    · intro y0 y1 y2 y3 y4 y5 y6 y7 y8 y9 y10
      unfold impl_UnionHasLoop.l3
      exact mo
    · intro y0 y1 y2
      unfold impl_UnionHasLoop.l4
      exact mo
theorem impl_UnionHasLoop.mono : ∀ a0 k, LeO (impl_UnionHasLoop.f k a0) (impl_UnionHasLoop.f (k + 1) a0) := by
  intro a0 k
  obtain ⟨ih0, ih1, ih2, ih3, ih4⟩ := impl_UnionHasLoop.mono_l k
  unfold impl_UnionHasLoop.f
  exact mo
set_option maxHeartbeats 8000000 in
set_option maxRecDepth 100000 in
theorem impl_UnionHasLoop.calls (k : Nat) (A0 : Option Addr) (c0 : Nat) (l0 : List (List Int)) (r : Bool) (w : World) (hr0 : Kd.C (Kd.slice 3 (Kd.int .i64)) w A0 l0.length l0) (hc0 : l0.length ≤ c0) (h : impl_UnionHasLoop.f k l0 = some r) :
    Calls Try.prog 14 #[.slice A0 l0.length c0] w fun e w' => e = .returned (.bool r) ∧ Below w.heap.size w w' := by
 have HR0 := Aside0.mk hr0
 have HC0 := Aside0.mk hc0
 clear hr0 hc0
 have HB := Aside0.mk (Below.refl w.heap.size w)
 have H : (impl_UnionHasLoop.l0 k l0 0 l0 (l0.length : Int) 0) = some r := h
 clear h
 have H' := Aside0.mk H
 clear H
 go_enter Try.func14, Try.ntmps14
 go_wp2
 go_loopg [3, 15] k (fun kq v3 v15 w' => ∃ (x3_1 : Int) (x15_1 : Int), v3 = .int .i64 x3_1 ∧ v15 = .int .i64 x15_1 ∧ Aside0 (impl_UnionHasLoop.l0 kq l0 x3_1 l0 (l0.length : Int) x15_1 = some r) ∧ Aside0 (kq ≤ k) ∧ Aside0 (Below w.heap.size w w'))
 case atStart => exact ⟨(0), (0), sc, sc, H', kk0, ⟨sb⟩⟩
 case round =>
  clear H'
  obtain ⟨x3_1, x15_1, rfl, rfl, HA, HK1, HB⟩ := hrel
  cases gk with
  | zero => exact absurd HA.out (by simp [impl_UnionHasLoop.l0])
  | succ k1 =>
   have H := HA.out
   clear HA
   simp only [impl_UnionHasLoop.l0] at H
   obtain ⟨c2, H⟩ | ⟨c2, H⟩ := ie_ H
   ·have c2b0 := decide_eq_true c2
    clear c2
    obtain ⟨c3b0, H⟩ := id_ H
    obtain ⟨c4b0, H⟩ := id_ H
    obtain ⟨ji5, hji5⟩ : ∃ j_ : Int, (mx x3_1 ((rd_L2 l0 x15_1).length : Int)) = j_ := ⟨_, rfl⟩
    replace H : (impl_UnionHasLoop.l0 k1 l0 ji5 l0 (l0.length : Int) (wrap64 (x15_1 + 1))) = some r := by first | (rw [hji5] at H; exact H) | (simp only [hji5] at H ⊢; exact H)
    have hji5_ : (if x3_1 < ((rd_L2 l0 x15_1).length : Int) then ((rd_L2 l0 x15_1).length : Int) else x3_1) = ji5 := hji5
    have H' := Aside0.mk H
    clear H
    obtain ⟨p142, q142, ad142, A142_0, c142_0, e142, _, hx142_0, HC142_0, HR142_0⟩ := aT_L2 HR0 HB x15_1
    cases e142
    go_wp2
    go_roundg k1
    case measure => have := HK1.out; omega
    case rel => exact ⟨(ji5), (wrap64 (x15_1 + 1)), (by first | rfl | (simp; done) | (simp only [← hji5] <;> (first | rfl | simp)) | (simp [*]; done)), sc, H', kk1, ⟨sb⟩⟩
   ·have c2b0 := decide_eq_false c2
    clear c2
    obtain ⟨c6, H⟩ := ia_ H
    have c6b0 := eq_true c6
    have c6b1 := decide_eq_true c6
    clear c6
    obtain ⟨c7, H⟩ := ia_ H
    have c7b0 := eq_true c7
    have c7b1 := decide_eq_true c7
    clear c7
    obtain ⟨y143, hy143⟩ : ∃ y_ : List Bool, y_ = (List.replicate (x3_1 : Int).toNat false) := ⟨_, rfl⟩
    replace H : (impl_UnionHasLoop.l1 k1 l0 x3_1 y143 true) = some r := by first | (rw [hy143]; with_reducible exact H) | (have H2_ := (Option.bind_some _ _).symm.trans H; rw [hy143]; with_reducible exact H2_) | (have H2_ := (Option.bind_some _ _).symm.trans H; with_reducible exact H2_) | with_reducible exact H | (rw [hy143]; exact H) | exact H
    have Ny143 := Aside0.mk hy143
    clear hy143
    have H' := Aside0.mk H
    clear H
    go_wp2_with (first | ((with_reducible refine gate_dst (N := 25) rfl ?_); (try (refine gate_guard (by rfl) ?_; dsimp only)); refine Kd.R_make Kd.bool _ 4 rfl (N := 25) rfl 98 _ _ rfl x3_1 rfl rfl Try.underlying98 (.bool false) 1 info4 rfl (by decide) (by omega) false (ok := fun _ => True) (okp := fun _ => True) rfl (fun _ hk => hk) trivial (sa) (Nat.le_trans (Nat.mul_le_mul_right _ (sa : x3_1.toNat ≤ 281474976710656)) (by omega)) (Below.refl _ _) (Nat.le_refl _) ?_; intro v144 w8 ho9 hb hg_ hnew_; clear hg_ hnew_; (first | rw [← Ny143.out] at ho9 | (simp only [Int.reduceToNat] at ho9; rw [← Ny143.out] at ho9)); have HO145 := Aside0.mk (Kd.R_lower ho9 (below_size (sb))); replace HB := bs hb; clear hb ho9))
    go_loopg [7] k1 (fun kq v7 w' => ∃ (x6_2 : List Bool) (x7_2 : Bool), v7 = .bool x7_2 ∧ Aside0 (impl_UnionHasLoop.l1 kq l0 x3_1 x6_2 x7_2 = some r) ∧ Aside0 (kq ≤ k1) ∧ Aside0 (Kd.R Kd.bool 4 w' w.heap.size (fun _ => True) v144 x6_2) ∧ Aside0 (Below w.heap.size w w'))
    case atStart => exact ⟨(y143), (true), sc, H', kk0, ⟨sr HO145⟩, ⟨sb⟩⟩
    case round =>
     clear H'
     try clear c2
     try clear c2b0
     try clear c3b0
     try clear c4b0
     try clear c6
     try clear c6b0
     try clear c6b1
     try clear c7
     try clear c7b0
     try clear c7b1
     try clear hx142_0
     try clear p142
     try clear q142
     obtain ⟨x6_2, x7_2, rfl, HA, HK2, HO_6, HB⟩ := hrel
     cases gk with
     | zero => exact absurd HA.out (by simp [impl_UnionHasLoop.l1])
     | succ k2 =>
      have H := HA.out
      clear HA
      simp only [impl_UnionHasLoop.l1] at H
      obtain rfl | rfl := tt x7_2
      ·replace H := ip H
       have H' := Aside0.mk H
       clear H
       go_wp2
       go_loopg [7, 28] k2 (fun kq v7 v28 w' => ∃ (x6_3 : List Bool) (x7_3 : Bool) (x28_3 : Int), v7 = .bool x7_3 ∧ v28 = .int .i64 x28_3 ∧ Aside0 (impl_UnionHasLoop.l2 kq l0 x3_1 x6_3 x7_3 x3_1 x28_3 = some r) ∧ Aside0 (kq ≤ k2) ∧ Aside0 (Kd.R Kd.bool 4 w' w.heap.size (fun _ => True) v144 x6_3) ∧ Aside0 (Below w.heap.size w w'))
       case atStart => exact ⟨(x6_2), (false), (0), sc, sc, H', kk0, ⟨sr HO_6⟩, ⟨sb⟩⟩
       case round =>
        clear H'
        try clear c2
        try clear c2b0
        try clear c3b0
        try clear c4b0
        try clear c6
        try clear c6b0
        try clear c6b1
        try clear c7
        try clear c7b0
        try clear c7b1
        try clear hx142_0
        try clear p142
        try clear q142
        obtain ⟨x6_3, x7_3, x28_3, rfl, rfl, HA, HK3, HO_6, HB⟩ := hrel
        cases gk with
        | zero => exact absurd HA.out (by simp [impl_UnionHasLoop.l2])
        | succ k3 =>
         have H := HA.out
         clear HA
         simp only [impl_UnionHasLoop.l2] at H
         obtain ⟨c11, H⟩ | ⟨c11, H⟩ := ie_ H
         ·have c11b0 := decide_eq_true c11
          clear c11
          obtain ⟨c12b0, H⟩ := id_ H
          obtain ⟨c13b0, H⟩ := id_ H
          obtain ⟨bq14, hbq14⟩ : ∃ b_ : Bool, b_ = (rdOf false x6_3 x28_3) := ⟨_, rfl⟩
          replace H : (if bq14 = true then (impl_UnionHasLoop.l2 k3 l0 x3_1 x6_3 x7_3 x3_1 (wrap64 (x28_3 + 1))) else (impl_UnionHasLoop.l3 k3 l0 x3_1 x6_3 x7_3 x28_3 false x3_1 x28_3 l0 (l0.length : Int) 0)) = some r := by rw [← hbq14] at H; exact H
          have Nbq14 := Aside0.mk hbq14
          clear hbq14
          obtain rfl | rfl := tt bq14
          ·replace H := ip H
           have H' := Aside0.mk H
           clear H
           obtain ⟨Ao16, co16, eo16⟩ := Kd.R_slice HO_6.out
           subst eo16
           have p146 : 0 ≤ (x28_3 : Int) := sa
           have q146 : x28_3 < (x6_3.length : Int) := sa
           obtain ⟨ad146, e146, hx146_0⟩ := Kd.at_bool (Kd.R_reads' HO_6.out).2.2 x28_3 p146 q146
           (try rw [← Nbq14.out] at hx146_0)
           cases e146
           replace p146 := eq_true p146
           replace q146 := eq_true q146
           go_wp2
           go_roundg k3
           case measure => have := HK1.out; have := HK2.out; have := HK3.out; omega
           case rel => exact ⟨(x6_3), (x7_3), (wrap64 (x28_3 + 1)), sc, sc, H', kk3, ⟨sr HO_6⟩, ⟨sb⟩⟩
          ·replace H := im H
           have H' := Aside0.mk H
           clear H
           obtain ⟨Ao17, co17, eo17⟩ := Kd.R_slice HO_6.out
           subst eo17
           have p146 : 0 ≤ (x28_3 : Int) := sa
           have q146 : x28_3 < (x6_3.length : Int) := sa
           obtain ⟨ad146, e146, hx146_0⟩ := Kd.at_bool (Kd.R_reads' HO_6.out).2.2 x28_3 p146 q146
           (try rw [← Nbq14.out] at hx146_0)
           cases e146
           replace p146 := eq_true p146
           replace q146 := eq_true q146
           go_wp2
           go_loopg [9, 37] k3 (fun kq v9 v37 w' => ∃ (x9_4 : Bool) (x37_4 : Int), v9 = .bool x9_4 ∧ v37 = .int .i64 x37_4 ∧ Aside0 (impl_UnionHasLoop.l3 kq l0 x3_1 x6_3 x7_3 x28_3 x9_4 x3_1 x28_3 l0 (l0.length : Int) x37_4 = some r) ∧ Aside0 (kq ≤ k3) ∧ Aside0 (Kd.R Kd.bool 4 w' w.heap.size (fun _ => True) (.slice (some ad146) x6_3.length co17) x6_3) ∧ Aside0 (Below w.heap.size w w'))
           case atStart => exact ⟨(false), (0), sc, sc, H', kk0, ⟨sr HO_6⟩, ⟨sb⟩⟩
           case round =>
            clear H'
            try clear c2
            try clear c2b0
            try clear c3b0
            try clear c4b0
            try clear c6
            try clear c6b0
            try clear c6b1
            try clear c7
            try clear c7b0
            try clear c7b1
            try clear c11
            try clear c11b0
            try clear c12b0
            try clear c13b0
            try clear hx142_0
            try clear hx146_0
            try clear p142
            try clear p146
            try clear q142
            try clear q146
            obtain ⟨x9_4, x37_4, rfl, rfl, HA, HK4, HO_6, HB⟩ := hrel
            cases gk with
            | zero => exact absurd HA.out (by simp [impl_UnionHasLoop.l3])
            | succ k4 =>
             have H := HA.out
             clear HA
             simp only [impl_UnionHasLoop.l3] at H
             obtain ⟨c18, H⟩ | ⟨c18, H⟩ := ie_ H
             ·have c18b0 := decide_eq_true c18
              clear c18
              obtain ⟨c19b0, H⟩ := id_ H
              obtain ⟨c20b0, H⟩ := id_ H
              obtain rfl | rfl := tt x9_4
              ·replace H := ip H
               have H' := Aside0.mk H
               clear H
               obtain ⟨p147, q147, ad147, A147_0, c147_0, e147, _, hx147_0, HC147_0, HR147_0⟩ := aT_L2 HR0 HB x37_4
               cases e147
               go_wp2
               go_roundg k4
               case measure => have := HK1.out; have := HK2.out; have := HK3.out; have := HK4.out; omega
               case rel => exact ⟨(true), (wrap64 (x37_4 + 1)), sc, sc, H', ⟨by have := HK1.out; have := HK2.out; have := HK3.out; have := HK4.out; omega⟩, ⟨sr HO_6⟩, ⟨sb⟩⟩
              ·replace H := im H
               obtain ⟨c22, H⟩ | ⟨c22, H⟩ := ie_ H
               ·have c22b0 := decide_eq_true c22
                clear c22
                obtain ⟨c23b0, H⟩ := id_ H
                obtain ⟨t149, A24, H⟩ := bnd H
                obtain rfl | rfl := tt t149
                ·replace H := ip H
                 obtain ⟨c26b0, H⟩ := id_ H
                 obtain ⟨c27b0, H⟩ := id_ H
                 have H' := Aside0.mk H
                 clear H
                 obtain ⟨p147, q147, ad147, A147_0, c147_0, e147, _, hx147_0, HC147_0, HR147_0⟩ := aT_L2 HR0 HB x37_4
                 cases e147
                 obtain ⟨p148, q148, ad148, e148, _, hx148_0⟩ := at_i HR147_0 HB x28_3
                 cases e148
                 go_wp2_with (first | (go_at_call 77; (with_reducible refine (impl_isIndex.calls (rd (rd_L2 l0 x37_4) x28_3) x3_1 true _ A24.out).mono ?_); rintro e w' ⟨rfl, ⟨nd, rfl⟩⟩; obtain ⟨p150, q150, ad150, e150, _, hx150_0⟩ := at_i HR147_0 HB x28_3; obtain rfl : ad148 = ad150 := (by injection e150); have p151 : 0 ≤ ((rd (rd_L2 l0 x37_4) x28_3) : Int) := sa; have q151 : (rd (rd_L2 l0 x37_4) x28_3) < (x6_3.length : Int) := sa; obtain ⟨ad151, e151, hx151_0⟩ := Kd.at_bool (Kd.R_reads' HO_6.out).2.2 (rd (rd_L2 l0 x37_4) x28_3) p151 q151; (try rw [← Nbq14.out] at hx151_0); obtain rfl : ad146 = ad151 := (by injection e151); replace p151 := eq_true p151; replace q151 := eq_true q151))
                 go_roundg k4
                 case measure => have := HK1.out; have := HK2.out; have := HK3.out; have := HK4.out; omega
                 case rel => exact ⟨(!(rdOf false x6_3 (rd (rd_L2 l0 x37_4) x28_3))), (wrap64 (x37_4 + 1)), sc, sc, H', ⟨by have := HK1.out; have := HK2.out; have := HK3.out; have := HK4.out; omega⟩, ⟨sr HO_6⟩, ⟨sb⟩⟩
                ·replace H := im H
                 have H' := Aside0.mk H
                 clear H
                 obtain ⟨p147, q147, ad147, A147_0, c147_0, e147, _, hx147_0, HC147_0, HR147_0⟩ := aT_L2 HR0 HB x37_4
                 cases e147
                 obtain ⟨p148, q148, ad148, e148, _, hx148_0⟩ := at_i HR147_0 HB x28_3
                 cases e148
                 go_wp2_with (first | (go_at_call 77; (with_reducible refine (impl_isIndex.calls (rd (rd_L2 l0 x37_4) x28_3) x3_1 false _ A24.out).mono ?_); rintro e w' ⟨rfl, ⟨nd, rfl⟩⟩))
                 go_roundg k4
                 case measure => have := HK1.out; have := HK2.out; have := HK3.out; have := HK4.out; omega
                 case rel => exact ⟨(false), (wrap64 (x37_4 + 1)), sc, sc, H', ⟨by have := HK1.out; have := HK2.out; have := HK3.out; have := HK4.out; omega⟩, ⟨sr HO_6⟩, ⟨sb⟩⟩
               ·have c22b0 := decide_eq_false c22
                clear c22
                have H' := Aside0.mk H
                clear H
                obtain ⟨p147, q147, ad147, A147_0, c147_0, e147, _, hx147_0, HC147_0, HR147_0⟩ := aT_L2 HR0 HB x37_4
                cases e147
                go_wp2
                go_roundg k4
                case measure => have := HK1.out; have := HK2.out; have := HK3.out; have := HK4.out; omega
                case rel => exact ⟨(false), (wrap64 (x37_4 + 1)), sc, sc, H', ⟨by have := HK1.out; have := HK2.out; have := HK3.out; have := HK4.out; omega⟩, ⟨sr HO_6⟩, ⟨sb⟩⟩
             ·have c18b0 := decide_eq_false c18
              clear c18
              obtain rfl | rfl := tt x9_4
              ·replace H := ip H
               have H' := Aside0.mk H
               clear H
               go_wp2
               go_roundg k4
               case measure => have := HK1.out; have := HK2.out; have := HK3.out; have := HK4.out; omega
               case rel => exact ⟨(x6_3), (x7_3), (wrap64 (x28_3 + 1)), sc, sc, H', ⟨by have := HK1.out; have := HK2.out; have := HK3.out; have := HK4.out; omega⟩, ⟨sr HO_6⟩, ⟨sb⟩⟩
              ·replace H := im H
               obtain ⟨c29b0, H⟩ := id_ H
               obtain ⟨c30b0, H⟩ := id_ H
               obtain ⟨y152, hy152⟩ : ∃ y_ : List Bool, y_ = (x6_3.set (x28_3 : Int).toNat true) := ⟨_, rfl⟩
               replace H : (impl_UnionHasLoop.l2 k4 l0 x3_1 y152 true x3_1 (wrap64 (x28_3 + 1))) = some r := by first | (rw [hy152]; with_reducible exact H) | (have H2_ := (Option.bind_some _ _).symm.trans H; rw [hy152]; with_reducible exact H2_) | (have H2_ := (Option.bind_some _ _).symm.trans H; with_reducible exact H2_) | with_reducible exact H | (rw [hy152]; exact H) | exact H
               have Ny152 := Aside0.mk hy152
               clear hy152
               have H' := Aside0.mk H
               clear H
               have p31 : 0 ≤ (x28_3 : Int) := sa
               have q31 : (x28_3 : Int) < ((x6_3.length : Int) : Int) := sa
               obtain ⟨go31, co31, eo31, gb31, gl31, cl31, HG31⟩ := Kd.R_form HO_6.out (by omega)
               (first | cases eo31 | (injection eo31 with ea_ en_ ec_; (first | subst ea_ | (injection ea_ with ea_; subst ea_)); subst ec_; clear en_))
               have GB31 := Aside0.mk gb31
               have GG31 := Aside0.mk HG31
               clear gb31 gl31 HG31
               (first | simp only [add_plain] at hx146_0 | skip)
               (first | simp only [add_plain] at hx151_0 | skip)
               obtain ⟨hx31_0, hf31_0⟩ := Kd.R_celln false HO_6.out (x28_3 : Int) p31 q31
               replace p31 := eq_true p31
               replace q31 := eq_true q31
               have HP32 := Kd.R_putg HO_6.out (x28_3 : Int) true
               go_wp2_with (first | ((with_reducible refine gate_store (t := 4) (p := 71) rfl ?_); refine store_event (t := 4) (p := 71) (v := ?vo_w33) (w1 := (wr.setCell ⟨go31, (x28_3 : Int).toNat, none⟩ (.bool true))) ?hg ?ho ?hn ?hr ?_; (case ho => rfl); (case hg => rfl); (case hn => rfl); (case hr => first | (go_simp; done) | (go_simp; rfl)); intro w33 hw; have hg : wr.grownBy w33 (some go31) := (by rw [hw]; exact HP32.2); have hp_ : Kd.R Kd.bool 4 w33 w.heap.size (fun _ => True) (.slice (some ⟨go31, 0, none⟩) x6_3.length co17) y152 := (by rw [hw, Ny152.out]; exact HP32.1); clear HP32; replace HO_6 := Aside0.mk hp_; replace HB := Aside0.mk ((by rw [hw]; exact below_set (HB.out) GB31.out : Below w.heap.size w w33)); clear hg hw hp_))
               go_roundg k4
               case measure => have := HK1.out; have := HK2.out; have := HK3.out; have := HK4.out; omega
               case rel => exact ⟨(y152), (true), (wrap64 (x28_3 + 1)), sc, sc, H', ⟨by have := HK1.out; have := HK2.out; have := HK3.out; have := HK4.out; omega⟩, ⟨sr HO_6⟩, ⟨sb⟩⟩
         ·have c11b0 := decide_eq_false c11
          clear c11
          have H' := Aside0.mk H
          clear H
          go_wp2
          go_roundg k3
          case measure => have := HK1.out; have := HK2.out; have := HK3.out; omega
          case rel => exact ⟨(x6_3), (x7_3), sc, H', kk3, ⟨sr HO_6⟩, ⟨sb⟩⟩
      ·replace H := im H
       have H' := Aside0.mk H
       clear H
       go_wp2
       go_loopg [74] k2 (fun kq v74 w' => ∃ (x74_3 : Int), v74 = .int .i64 x74_3 ∧ Aside0 (impl_UnionHasLoop.l4 kq x6_2 x3_1 x74_3 = some r) ∧ Aside0 (kq ≤ k2) ∧ Aside0 (Kd.R Kd.bool 4 w' w.heap.size (fun _ => True) v144 x6_2) ∧ Aside0 (Below w.heap.size w w'))
       case atStart => exact ⟨(0), sc, H', kk0, ⟨sr HO_6⟩, ⟨sb⟩⟩
       case round =>
        clear H'
        try clear c2
        try clear c2b0
        try clear c3b0
        try clear c4b0
        try clear c6
        try clear c6b0
        try clear c6b1
        try clear c7
        try clear c7b0
        try clear c7b1
        try clear c11
        try clear c11b0
        try clear c12b0
        try clear c13b0
        try clear c18
        try clear c18b0
        try clear c19b0
        try clear c20b0
        try clear c22
        try clear c22b0
        try clear c23b0
        try clear c26b0
        try clear c27b0
        try clear c29b0
        try clear c30b0
        try clear p31
        try clear q31
        try clear hx142_0
        try clear hx146_0
        try clear hx147_0
        try clear hx148_0
        try clear hx150_0
        try clear hx151_0
        try clear hx31_0
        try clear p142
        try clear p146
        try clear p147
        try clear p148
        try clear p150
        try clear p151
        try clear p31
        try clear q142
        try clear q146
        try clear q147
        try clear q148
        try clear q150
        try clear q151
        try clear q31
        obtain ⟨x74_3, rfl, HA, HK3, HO_6, HB⟩ := hrel
        cases gk with
        | zero => exact absurd HA.out (by simp [impl_UnionHasLoop.l4])
        | succ k3 =>
         have H := HA.out
         clear HA
         simp only [impl_UnionHasLoop.l4] at H
         obtain ⟨c34, H⟩ | ⟨c34, H⟩ := ie_ H
         ·have c34b0 := decide_eq_true c34
          clear c34
          obtain ⟨c35b0, H⟩ := id_ H
          obtain ⟨c36b0, H⟩ := id_ H
          obtain ⟨bq37, hbq37⟩ : ∃ b_ : Bool, b_ = (rdOf false x6_2 x74_3) := ⟨_, rfl⟩
          replace H : (if bq37 = true then (impl_UnionHasLoop.l4 k3 x6_2 x3_1 (wrap64 (x74_3 + 1))) else (some true)) = some r := by rw [← hbq37] at H; exact H
          have Nbq37 := Aside0.mk hbq37
          clear hbq37
          obtain rfl | rfl := tt bq37
          ·replace H := ip H
           have H' := Aside0.mk H
           clear H
           obtain ⟨Ao39, co39, eo39⟩ := Kd.R_slice HO_6.out
           subst eo39
           have p153 : 0 ≤ (x74_3 : Int) := sa
           have q153 : x74_3 < (x6_2.length : Int) := sa
           obtain ⟨ad153, e153, hx153_0⟩ := Kd.at_bool (Kd.R_reads' HO_6.out).2.2 x74_3 p153 q153
           (try rw [← Nbq37.out] at hx153_0)
           cases e153
           replace p153 := eq_true p153
           replace q153 := eq_true q153
           go_wp2
           go_roundg k3
           case measure => have := HK1.out; have := HK2.out; have := HK3.out; omega
           case rel => exact ⟨(wrap64 (x74_3 + 1)), sc, H', kk3, ⟨sr HO_6⟩, ⟨sb⟩⟩
          ·replace H := im H
           obtain rfl := Option.some.inj H
           obtain ⟨Ao40, co40, eo40⟩ := Kd.R_slice HO_6.out
           subst eo40
           have p153 : 0 ≤ (x74_3 : Int) := sa
           have q153 : x74_3 < (x6_2.length : Int) := sa
           obtain ⟨ad153, e153, hx153_0⟩ := Kd.at_bool (Kd.R_reads' HO_6.out).2.2 x74_3 p153 q153
           (try rw [← Nbq37.out] at hx153_0)
           cases e153
           replace p153 := eq_true p153
           replace q153 := eq_true q153
           go_wp2
           go_ret
           exact ⟨se, sb⟩
         ·have c34b0 := decide_eq_false c34
          clear c34
          obtain rfl := Option.some.inj H
          go_wp2
          go_ret
          exact ⟨se, sb⟩

/-! ### impl_HasLoop: function 15 -/
def impl_HasLoop.f (k : Nat) (l0 : List Int) : Option (Bool) := (impl_UnionHasLoop.f k (([l0] : List (List Int)))).bind fun t157 => (some t157)
theorem impl_HasLoop.mono : ∀ a0 k, LeO (impl_HasLoop.f k a0) (impl_HasLoop.f (k + 1) a0) := by
  intro a0 k
  unfold impl_HasLoop.f
  have m0 := @impl_UnionHasLoop.mono
  exact mo
set_option maxHeartbeats 8000000 in
set_option maxRecDepth 100000 in
theorem impl_HasLoop.calls0 (k : Nat) (P0_ : Nat → Prop) (A0 : Option Addr) (c0 : Nat) (l0 : List Int) (r : Bool) (w : World) (hs0 : Kd.V (Kd.int .i64) 3 w w.heap.size (fun k_ => P0_ k_) (.slice A0 l0.length c0) l0) (h : impl_HasLoop.f k l0 = some r) :
    Calls Try.prog 15 #[.slice A0 l0.length c0] w fun e w' => e = .returned (.bool r) ∧ Below w.heap.size w w' := by
  have HO0 := Aside0.mk (show Kd.V (Kd.int .i64) 3 w w.heap.size (fun k_ => (P0_ k_ ∨ w.heap.size ≤ k_)) (.slice A0 l0.length c0) l0 from Kd.V_mono hs0 (fun k_ hk => .inl hk))
  have HB := Aside0.mk (Below.refl w.heap.size w)
  have H : ((impl_UnionHasLoop.f k (([l0] : List (List Int)))).bind fun t157 => (some t157)) = some r := h
  clear h
  obtain ⟨y154, hy154⟩ : ∃ y_ : List (List Int), y_ = (([l0] : List (List Int))) := ⟨_, rfl⟩
  replace H : ((impl_UnionHasLoop.f k y154).bind fun t157 => (some t157)) = some r := by first | (rw [hy154]; with_reducible exact H) | (have H2_ := (Option.bind_some _ _).symm.trans H; rw [hy154]; with_reducible exact H2_) | (have H2_ := (Option.bind_some _ _).symm.trans H; with_reducible exact H2_) | with_reducible exact H | (rw [hy154]; exact H) | exact H
  have Ny154 := Aside0.mk hy154
  clear hy154
  replace H := Option.bind_eq_some_iff.mp H
  obtain ⟨t157, A20, H⟩ := H
  replace H : (some t157) = some r := H
  have A2 := Aside0.mk A20
  clear A20
  obtain rfl := Option.some.inj H
  go_enter Try.func15, Try.ntmps15
  go_wp2_with (first | ((with_reducible refine gate_dst (N := 4) rfl ?_); refine Kd.N_lit (Kd.slice 3 (Kd.int .i64)) _ 28 ?hg (N' := 4) ?hd (xs := ([l0] : List (List Int))) (inner := [.slice A0 l0.length c0]) (ok := (fun k_ => (P0_ k_ ∨ w.heap.size ≤ k_))) (okp := (fun k_ => (P0_ k_ ∨ w.heap.size ≤ k_))) ?hr ?hp (fun _ hk => hk) ((show ∀ k_, w.heap.size ≤ k_ → (fun k_ => (P0_ k_ ∨ w.heap.size ≤ k_)) k_ from fun k_ hk => (.inr (Nat.le_trans (below_size (sb)) hk))) _ (Nat.le_refl _)) (Below.refl _ _) (Nat.le_refl _) (by simp) ?_; (case hd => rfl); (case hg => rfl); (case hr => first | (go_simp; done) | (go_simp; rfl)); (case hp => exact (Reps.one (show Kd.FK (Kd.slice 3 (Kd.int .i64)) _ _ l0 [.slice A0 l0.length c0] from (Kd.FK_slice_mk (Kd.V_reads' (Kd.V_mono (ok' := (fun k_ => (P0_ k_ ∨ w.heap.size ≤ k_))) (HO0.out) (fun k_ hk => hk))).2.1 (Kd.V_F (Kd.V_mono (ok' := (fun k_ => (P0_ k_ ∨ w.heap.size ≤ k_))) (HO0.out) (fun k_ hk => hk))))) (Reps.none _ _))); intro v155 w3 ho4 hb hg_ hnew_; clear hg_ hnew_; (first | rw [← Ny154.out] at ho4 | (simp only [Int.reduceToNat] at ho4; rw [← Ny154.out] at ho4)); have n0_ := Aside0.mk (Kd.V_elder' (sv HO0) (Kd.N_base ho4) hb); have n1_ := Aside0.mk (Kd.N_lower ho4 (below_size (sb))); have n2_ := Aside0.mk (below_step (sb) hb); clear HO0; clear HB; have HO0 := n0_; have HO156 := n1_; have HB := n2_; clear n0_ n1_ n2_; clear hb ho4; obtain ⟨Ao5, co5, eo5⟩ := Kd.N_slice HO156.out; subst eo5) | ((with_reducible refine gate_callee (f := 14) rfl ?_); refine goesL_ (some 5) rfl rfl Try.func14 (by kernel_rfl) rfl #[.slice Ao5 y154.length co5] rfl sl ?_; (with_reducible refine (impl_UnionHasLoop.calls k _ _ y154 t157 _ ?side1 ?side2 A2.out).mono ?_); (case side1 => repeat (first | exact (Kd.N_reads' HO156.out).2.2 | (with_reducible refine Kd.C_alloc ?_ _) | (with_reducible refine Kd.C_drewN ?_ _) | (with_reducible refine Kd.C_drew ?_))); (case side2 => exact (Kd.N_reads' HO156.out).2.1); rintro e w6 ⟨rfl, hb⟩; refine ⟨_, rfl, ?_⟩; have n0_ := Aside0.mk (Kd.V_below (sv HO0) hb); have n1_ := Aside0.mk (Kd.N_below (sn_ HO156) hb); have n2_ := Aside0.mk (below_step (sb) hb); clear HO0; clear HO156; clear HB; have HO0 := n0_; have HO156 := n1_; have HB := n2_; clear n0_ n1_ n2_; (try clear hb); (try clear hb2); (try clear hk); (try clear hi)))
  go_ret
  exact ⟨se, sb⟩

theorem impl_HasLoop.calls (k : Nat) (A0 : Option Addr) (c0 : Nat) (l0 : List Int) (r : Bool) (w : World) (hr0 : Kd.C (Kd.int .i64) w A0 l0.length l0) (hc0 : l0.length ≤ c0) (h : impl_HasLoop.f k l0 = some r) :
    Calls Try.prog 15 #[.slice A0 l0.length c0] w fun e w' => e = .returned (.bool r) ∧ Below w.heap.size w w' :=
  impl_HasLoop.calls0 k (fun k_ => k_ < w.heap.size) A0 c0 l0 r w (Kd.V_mk hc0 (Kd.C_F (Kd.heap_int .i64) hr0)) h

/-! ### spec_l1In: function 85 -/
def spec_l1In.f (a0 : Int) (a1 : Int) (a2 : Int) : Option (Bool) := if a0 ≥ a1 then (some (decide (a0 ≤ a2))) else (some false)
set_option maxHeartbeats 8000000 in
set_option maxRecDepth 100000 in
theorem spec_l1In.calls (a0 : Int) (a1 : Int) (a2 : Int) (r : Bool) (w : World) (h : spec_l1In.f a0 a1 a2 = some r) :
    Calls Try.prog 85 #[.int .i64 a0, .int .i64 a1, .int .i64 a2] w fun e w' => e = .returned (.bool r) ∧ Drawn0 w w' := by
 have H : (if a0 ≥ a1 then (some (decide (a0 ≤ a2))) else (some false)) = some r := h
 clear h
 obtain ⟨c4, H⟩ | ⟨c4, H⟩ := ie_ H
 ·have c4b0 := decide_eq_true c4
  clear c4
  obtain rfl := Option.some.inj H
  go_enter Try.func85, Try.ntmps85
  go_wp2
  go_ret
  exact ⟨sc, sd⟩
 ·have c4b0 := decide_eq_false c4
  clear c4
  obtain rfl := Option.some.inj H
  go_enter Try.func85, Try.ntmps85
  go_wp2
  go_ret
  exact ⟨sc, sd⟩

end Go.Proofs.Ytiihaabhjphaeaa.QFnMixtures
