/- What the Go functions of the law FnExactIsSafeMix come to, as Lean functions, and that they do: by a program of the session, out of the kit's printer. Conditions: none. -/
import Derived.Test.YtadpbpocbfjboaaVFnExactIsSafeMixQFnExactIsSafeMixx0
import Derived.Test.YtadpbpocbfjboaaVFnExactIsSafeMixQFnExactIsSafeMixx4
namespace Go.Proofs.Ytadpbpocbfjboaa.QFnExactIsSafeMix
open Go.RowKit Go.Proofs.YtadpbpocbfjboaaW.PrintWords Go.Proofs.YtadpbpocbfjboaaW.PrintLast Go.Proofs.YtadpbpocbfjboaaW.PrintMore Go.Proofs.Ytadpbpocbfjboaa.Open
attribute [local go_sem] max2_int min2_int max_two min_two max_three min_three max_four min_four   -- for this text's walks alone
attribute [local go_sem] isSome_set
set_option linter.unusedVariables false
set_option linter.unusedSimpArgs false

/-! ### impl_UnionHasLoop: function 44 -/
mutual
def impl_UnionHasLoop.l0 : Nat → List (List Int) → Int → List (List Int) → Int → Int → Option (Bool)
  | 0, _, _, _, _, _ => none
  | k + 1, x0, x3, x13, x14, x15 => if x15 < x14 then (if 0 ≤ x15 then (if x15 < (x13.length : Int) then (impl_UnionHasLoop.l0 k x0 (mx x3 ((rd_L2 x13 x15).length : Int)) x13 x14 (wrap64 (x15 + 1))) else (none)) else (none)) else (if 0 ≤ x3 then (if (x3 : Int).toNat ≤ 281474976710656 then (impl_UnionHasLoop.l1 k x0 x3 (List.replicate (x3 : Int).toNat false) true) else (none)) else (none))
def impl_UnionHasLoop.l1 : Nat → List (List Int) → Int → List Bool → Bool → Option (Bool)
  | 0, _, _, _, _ => none
  | k + 1, x0, x3, x6, x7 => if x7 = true then (impl_UnionHasLoop.l2 k x0 x3 x6 false x3 0) else (impl_UnionHasLoop.l4 k x6 x3 0)
def impl_UnionHasLoop.l2 : Nat → List (List Int) → Int → List Bool → Bool → Int → Int → Option (Bool)
  | 0, _, _, _, _, _, _ => none
  | k + 1, x0, x3, x6, x7, x27, x28 => if x28 < x27 then (if 0 ≤ x28 then (if x28 < (x6.length : Int) then (if rdOf false x6 x28 = true then (impl_UnionHasLoop.l2 k x0 x3 x6 x7 x27 (wrap64 (x28 + 1))) else (impl_UnionHasLoop.l3 k x0 x3 x6 x7 x28 false x27 x28 x0 (x0.length : Int) 0)) else (none)) else (none)) else (impl_UnionHasLoop.l1 k x0 x3 x6 x7)
def impl_UnionHasLoop.l3 : Nat → List (List Int) → Int → List Bool → Bool → Int → Bool → Int → Int → List (List Int) → Int → Int → Option (Bool)
  | 0, _, _, _, _, _, _, _, _, _, _, _ => none
  | k + 1, x0, x3, x6, x7, x8, x9, x27, x28, x35, x36, x37 => if x37 < x36 then (if 0 ≤ x37 then (if x37 < (x35.length : Int) then (if x9 = true then (impl_UnionHasLoop.l3 k x0 x3 x6 x7 x8 true x27 x28 x35 x36 (wrap64 (x37 + 1))) else (if x8 < ((rd_L2 x35 x37).length : Int) then (if 0 ≤ x8 then ((impl_isIndex.f (rd (rd_L2 x35 x37) x8) x3).bind fun t249 => (if t249 = true then (if 0 ≤ (rd (rd_L2 x35 x37) x8) then (if (rd (rd_L2 x35 x37) x8) < (x6.length : Int) then (impl_UnionHasLoop.l3 k x0 x3 x6 x7 x8 (!(rdOf false x6 (rd (rd_L2 x35 x37) x8))) x27 x28 x35 x36 (wrap64 (x37 + 1))) else (none)) else (none)) else (impl_UnionHasLoop.l3 k x0 x3 x6 x7 x8 false x27 x28 x35 x36 (wrap64 (x37 + 1))))) else (none)) else (impl_UnionHasLoop.l3 k x0 x3 x6 x7 x8 false x27 x28 x35 x36 (wrap64 (x37 + 1))))) else (none)) else (none)) else (if x9 = true then (impl_UnionHasLoop.l2 k x0 x3 x6 x7 x27 (wrap64 (x28 + 1))) else (if 0 ≤ x8 then (if x8 < (x6.length : Int) then (impl_UnionHasLoop.l2 k x0 x3 (x6.set (x8 : Int).toNat true) true x27 (wrap64 (x28 + 1))) else (none)) else (none)))
def impl_UnionHasLoop.l4 : Nat → List Bool → Int → Int → Option (Bool)
  | 0, _, _, _ => none
  | k + 1, x6, x73, x74 => if x74 < x73 then (if 0 ≤ x74 then (if x74 < (x6.length : Int) then (if rdOf false x6 x74 = true then (impl_UnionHasLoop.l4 k x6 x73 (wrap64 (x74 + 1))) else (some true)) else (none)) else (none)) else (some false)
end
def impl_UnionHasLoop.f (k : Nat) (l0 : List (List Int)) : Option (Bool) := impl_UnionHasLoop.l0 k l0 0 l0 (l0.length : Int) 0
theorem impl_UnionHasLoop.mono_l : ∀ k, (∀ y0 y1 y2 y3 y4, LeO (impl_UnionHasLoop.l0 k y0 y1 y2 y3 y4) (impl_UnionHasLoop.l0 (k + 1) y0 y1 y2 y3 y4)) ∧ (∀ y0 y1 y2 y3, LeO (impl_UnionHasLoop.l1 k y0 y1 y2 y3) (impl_UnionHasLoop.l1 (k + 1) y0 y1 y2 y3)) ∧ (∀ y0 y1 y2 y3 y4 y5, LeO (impl_UnionHasLoop.l2 k y0 y1 y2 y3 y4 y5) (impl_UnionHasLoop.l2 (k + 1) y0 y1 y2 y3 y4 y5)) ∧ (∀ y0 y1 y2 y3 y4 y5 y6 y7 y8 y9 y10, LeO (impl_UnionHasLoop.l3 k y0 y1 y2 y3 y4 y5 y6 y7 y8 y9 y10) (impl_UnionHasLoop.l3 (k + 1) y0 y1 y2 y3 y4 y5 y6 y7 y8 y9 y10)) ∧ (∀ y0 y1 y2, LeO (impl_UnionHasLoop.l4 k y0 y1 y2) (impl_UnionHasLoop.l4 (k + 1) y0 y1 y2))
  | 0 => ⟨fun _ _ _ _ _ r h => by simp [impl_UnionHasLoop.l0] at h, fun _ _ _ _ r h => by simp [impl_UnionHasLoop.l1] at h, fun _ _ _ _ _ _ r h => by simp [impl_UnionHasLoop.l2] at h, fun _ _ _ _ _ _ _ _ _ _ _ r h => by simp [impl_UnionHasLoop.l3] at h, fun _ _ _ r h => by simp [impl_UnionHasLoop.l4] at h⟩
  | k + 1 => by
    obtain ⟨ih0, ih1, ih2, ih3, ih4⟩ := impl_UnionHasLoop.mono_l k
    refine ⟨?_, ?_, ?_, ?_, ?_⟩
    · intro y0 y1 y2 y3 y4
      unfold impl_UnionHasLoop.l0
      repeat' first
      | (with_reducible exact ih0 _ _ _ _ _)
      | (with_reducible exact ih1 _ _ _ _)
      | (with_reducible exact ih2 _ _ _ _ _ _)
      | (with_reducible exact ih3 _ _ _ _ _ _ _ _ _ _ _)
      | (with_reducible exact ih4 _ _ _)
      | (with_reducible exact LeO.refl _)
      | (with_reducible exact LeO.none _)
      | (with_reducible refine LeO.ite ?_ ?_)
      | (with_reducible refine LeO.bind ?_ (fun _ => ?_))
      | exact ih0 _ _ _ _ _
      | exact ih1 _ _ _ _
      | exact ih2 _ _ _ _ _ _
      | exact ih3 _ _ _ _ _ _ _ _ _ _ _
      | exact ih4 _ _ _
      | exact LeO.none _
      | refine LeO.ite ?_ ?_
      | refine LeO.bind ?_ (fun _ => ?_)
    · intro y0 y1 y2 y3
      unfold impl_UnionHasLoop.l1
      repeat' first
      | (with_reducible exact ih0 _ _ _ _ _)
      | (with_reducible exact ih1 _ _ _ _)
      | (with_reducible exact ih2 _ _ _ _ _ _)
      | (with_reducible exact ih3 _ _ _ _ _ _ _ _ _ _ _)
      | (with_reducible exact ih4 _ _ _)
      | (with_reducible exact LeO.refl _)
      | (with_reducible exact LeO.none _)
      | (with_reducible refine LeO.ite ?_ ?_)
      | (with_reducible refine LeO.bind ?_ (fun _ => ?_))
      | exact ih0 _ _ _ _ _
      | exact ih1 _ _ _ _
      | exact ih2 _ _ _ _ _ _
      | exact ih3 _ _ _ _ _ _ _ _ _ _ _
      | exact ih4 _ _ _
      | exact LeO.none _
      | refine LeO.ite ?_ ?_
      | refine LeO.bind ?_ (fun _ => ?_)
    · intro y0 y1 y2 y3 y4 y5
      unfold impl_UnionHasLoop.l2
      repeat' first
      | (with_reducible exact ih0 _ _ _ _ _)
      | (with_reducible exact ih1 _ _ _ _)
      | (with_reducible exact ih2 _ _ _ _ _ _)
      | (with_reducible exact ih3 _ _ _ _ _ _ _ _ _ _ _)
      | (with_reducible exact ih4 _ _ _)
      | (with_reducible exact LeO.refl _)
      | (with_reducible exact LeO.none _)
      | (with_reducible refine LeO.ite ?_ ?_)
      | (with_reducible refine LeO.bind ?_ (fun _ => ?_))
      | exact ih0 _ _ _ _ _
      | exact ih1 _ _ _ _
      | exact ih2 _ _ _ _ _ _
      | exact ih3 _ _ _ _ _ _ _ _ _ _ _
      | exact ih4 _ _ _
      | exact LeO.none _
      | refine LeO.ite ?_ ?_
      | refine LeO.bind ?_ (fun _ => ?_)
    · intro y0 y1 y2 y3 y4 y5 y6 y7 y8 y9 y10
      unfold impl_UnionHasLoop.l3
      repeat' first
      | (with_reducible exact ih0 _ _ _ _ _)
      | (with_reducible exact ih1 _ _ _ _)
      | (with_reducible exact ih2 _ _ _ _ _ _)
      | (with_reducible exact ih3 _ _ _ _ _ _ _ _ _ _ _)
      | (with_reducible exact ih4 _ _ _)
      | (with_reducible exact LeO.refl _)
      | (with_reducible exact LeO.none _)
      | (with_reducible refine LeO.ite ?_ ?_)
      | (with_reducible refine LeO.bind ?_ (fun _ => ?_))
      | exact ih0 _ _ _ _ _
      | exact ih1 _ _ _ _
      | exact ih2 _ _ _ _ _ _
      | exact ih3 _ _ _ _ _ _ _ _ _ _ _
      | exact ih4 _ _ _
      | exact LeO.none _
      | refine LeO.ite ?_ ?_
      | refine LeO.bind ?_ (fun _ => ?_)
    · intro y0 y1 y2
      unfold impl_UnionHasLoop.l4
      repeat' first
      | (with_reducible exact ih0 _ _ _ _ _)
      | (with_reducible exact ih1 _ _ _ _)
      | (with_reducible exact ih2 _ _ _ _ _ _)
      | (with_reducible exact ih3 _ _ _ _ _ _ _ _ _ _ _)
      | (with_reducible exact ih4 _ _ _)
      | (with_reducible exact LeO.refl _)
      | (with_reducible exact LeO.none _)
      | (with_reducible refine LeO.ite ?_ ?_)
      | (with_reducible refine LeO.bind ?_ (fun _ => ?_))
      | exact ih0 _ _ _ _ _
      | exact ih1 _ _ _ _
      | exact ih2 _ _ _ _ _ _
      | exact ih3 _ _ _ _ _ _ _ _ _ _ _
      | exact ih4 _ _ _
      | exact LeO.none _
      | refine LeO.ite ?_ ?_
      | refine LeO.bind ?_ (fun _ => ?_)
theorem impl_UnionHasLoop.mono : ∀ a0 k, LeO (impl_UnionHasLoop.f k a0) (impl_UnionHasLoop.f (k + 1) a0) := by
  intro a0 k
  obtain ⟨ih0, ih1, ih2, ih3, ih4⟩ := impl_UnionHasLoop.mono_l k
  unfold impl_UnionHasLoop.f
  repeat' first
      | (with_reducible exact ih0 _ _ _ _ _)
      | (with_reducible exact ih1 _ _ _ _)
      | (with_reducible exact ih2 _ _ _ _ _ _)
      | (with_reducible exact ih3 _ _ _ _ _ _ _ _ _ _ _)
      | (with_reducible exact ih4 _ _ _)
      | (with_reducible exact LeO.refl _)
      | (with_reducible exact LeO.none _)
      | (with_reducible refine LeO.ite ?_ ?_)
      | (with_reducible refine LeO.bind ?_ (fun _ => ?_))
      | exact ih0 _ _ _ _ _
      | exact ih1 _ _ _ _
      | exact ih2 _ _ _ _ _ _
      | exact ih3 _ _ _ _ _ _ _ _ _ _ _
      | exact ih4 _ _ _
      | exact LeO.none _
      | refine LeO.ite ?_ ?_
      | refine LeO.bind ?_ (fun _ => ?_)
set_option maxHeartbeats 8000000 in
set_option maxRecDepth 100000 in
theorem impl_UnionHasLoop.calls (k : Nat) (A0 : Option Addr) (c0 : Nat) (l0 : List (List Int)) (r : Bool) (w : World) (hr0 : Kd.C (Kd.slice 3 (Kd.int .i64)) w A0 l0.length l0) (hc0 : l0.length ≤ c0) (h : impl_UnionHasLoop.f k l0 = some r) :
    Calls Try.prog 44 #[.slice A0 l0.length c0] w fun e w' => e = .returned (.bool r) ∧ Below w.heap.size w w' := by
  have HR0 := Aside0.mk hr0
  have HC0 := Aside0.mk hc0
  clear hr0 hc0
  have HB := Aside0.mk (Below.refl w.heap.size w)
  have H : (impl_UnionHasLoop.l0 k l0 0 l0 (l0.length : Int) 0) = some r := h
  clear h
  have H' := Aside0.mk H
  clear H
  go_enter Try.func44, Try.ntmps44
  go_wp2
  go_loopg [3, 15] k (fun kq v3 v15 w' => ∃ (x3_1 : Int) (x15_1 : Int), v3 = .int .i64 x3_1 ∧ v15 = .int .i64 x15_1 ∧ Aside0 (impl_UnionHasLoop.l0 kq l0 x3_1 l0 (l0.length : Int) x15_1 = some r) ∧ Aside0 (kq ≤ k) ∧ Aside0 (Below w.heap.size w w'))
  case atStart => exact ⟨(0), (0), (by first | rfl | (simp; done) | (simp [*]; done)), (by first | rfl | (simp; done) | (simp [*]; done)), H', ⟨Nat.le_refl _⟩, ⟨by repeat (first | (with_reducible first | exact HB.out | apply below_alloc | apply pw_below_drewN | apply below_drew1) | exact HB.out)⟩⟩
  case round =>
    clear H'
    obtain ⟨x3_1, x15_1, rfl, rfl, HA, HK1, HB⟩ := hrel
    cases gk with
    | zero => exact absurd HA.out (by simp [impl_UnionHasLoop.l0])
    | succ k1 =>
      have H := HA.out
      clear HA
      simp only [impl_UnionHasLoop.l0] at H
      by_cases c2 : x15_1 < (l0.length : Int)
      · rw [if_pos c2] at H
        have c2b0 : decide (x15_1 < (l0.length : Int)) = true := decide_eq_true c2
        clear c2
        by_cases c3 : 0 ≤ x15_1
        · rw [if_pos c3] at H
          have c3b0 : decide (0 ≤ x15_1) = true := decide_eq_true c3
          clear c3
          by_cases c4 : x15_1 < (l0.length : Int)
          · rw [if_pos c4] at H
            have c4b0 : decide (x15_1 < (l0.length : Int)) = true := decide_eq_true c4
            clear c4
            obtain ⟨ji5, hji5⟩ : ∃ j_ : Int, (mx x3_1 ((rd_L2 l0 x15_1).length : Int)) = j_ := ⟨_, rfl⟩
            replace H : (impl_UnionHasLoop.l0 k1 l0 ji5 l0 (l0.length : Int) (wrap64 (x15_1 + 1))) = some r := by first | (rw [hji5] at H; exact H) | (simp only [hji5] at H ⊢; exact H)
            have hji5_ : (if x3_1 < ((rd_L2 l0 x15_1).length : Int) then ((rd_L2 l0 x15_1).length : Int) else x3_1) = ji5 := hji5
            have H' := Aside0.mk H
            clear H
            have p242 : 0 ≤ (x15_1 : Int) := of_decide_eq_true (by first | (with_reducible assumption) | assumption)
            have q242 : x15_1 < (l0.length : Int) := of_decide_eq_true (by first | (with_reducible assumption) | assumption)
            obtain ⟨ad242, A242_0, c242_0, e242, hx242_0, hl242_0, hi242_0⟩ := at_L2 HR0.out x15_1 p242 q242
            cases e242
            replace hx242_0 := (HB.out.cell (World.block_lt_of_cell? w _ hx242_0)).trans hx242_0
            have HR242_0 := Aside0.mk hi242_0
            have HC242_0 := Aside0.mk hl242_0
            clear hi242_0 hl242_0
            replace p242 := eq_true p242
            replace q242 := eq_true q242
            go_wp2
            go_roundg k1
            case measure => have := HK1.out; omega
            case rel => exact ⟨(ji5), (wrap64 (x15_1 + 1)), (by first | rfl | (simp; done) | (simp only [← hji5] <;> (first | rfl | simp)) | (simp [*]; done)), (by first | rfl | (simp; done) | (simp [*]; done)), H', ⟨by have := HK1.out; omega⟩, ⟨by repeat (first | (with_reducible first | exact HB.out | apply below_alloc | apply pw_below_drewN | apply below_drew1) | exact HB.out)⟩⟩
          · rw [if_neg c4] at H
            exact absurd H (by simp)
        · rw [if_neg c3] at H
          exact absurd H (by simp)
      · rw [if_neg c2] at H
        have c2b0 : decide (x15_1 < (l0.length : Int)) = false := decide_eq_false c2
        clear c2
        by_cases c6 : 0 ≤ x3_1
        · rw [if_pos c6] at H
          have c6b0 := eq_true c6
          have c6b1 : decide (0 ≤ x3_1) = true := decide_eq_true c6
          clear c6
          by_cases c7 : (x3_1 : Int).toNat ≤ 281474976710656
          · rw [if_pos c7] at H
            have c7b0 := eq_true c7
            have c7b1 : decide ((x3_1 : Int).toNat ≤ 281474976710656) = true := decide_eq_true c7
            clear c7
            obtain ⟨y243, hy243⟩ : ∃ y_ : List Bool, y_ = (List.replicate (x3_1 : Int).toNat false) := ⟨_, rfl⟩
            replace H : (impl_UnionHasLoop.l1 k1 l0 x3_1 y243 true) = some r := by first | (rw [hy243]; with_reducible exact H) | (have H2_ := (Option.bind_some _ _).symm.trans H; rw [hy243]; with_reducible exact H2_) | (have H2_ := (Option.bind_some _ _).symm.trans H; with_reducible exact H2_) | with_reducible exact H | (rw [hy243]; exact H) | exact H
            have Ny243 := Aside0.mk hy243
            clear hy243
            have H' := Aside0.mk H
            clear H
            go_wp2_with (first | ((with_reducible refine gate_dst (N := 25) rfl ?_); (try (refine gate_guard (by rfl) ?_; dsimp only)); refine Kd.R_make Kd.bool _ 4 rfl (N := 25) rfl 86 _ _ rfl x3_1 rfl rfl Try.underlying86 (.bool false) 1 info4 rfl (by decide) (by omega) false (ok := fun _ => True) (okp := fun _ => True) rfl (fun _ hk => hk) trivial (of_decide_eq_true (by first | (with_reducible assumption) | assumption)) (Nat.le_trans (Nat.mul_le_mul_right _ (of_decide_eq_true (by first | (with_reducible assumption) | assumption) : x3_1.toNat ≤ 281474976710656)) (by omega)) (Below.refl _ _) (Nat.le_refl _) ?_; intro v244 w8 ho9 hb hg_ hnew_; clear hg_ hnew_; (first | rw [← Ny243.out] at ho9 | (simp only [Int.reduceToNat] at ho9; rw [← Ny243.out] at ho9)); have n0_ := Aside0.mk (Kd.R_lower ho9 (below_size (by repeat (first | (with_reducible first | exact HB.out | apply below_alloc | apply pw_below_drewN | apply below_drew1) | exact HB.out)))); have n1_ := Aside0.mk (below_step (by repeat (first | (with_reducible first | exact HB.out | apply below_alloc | apply pw_below_drewN | apply below_drew1) | exact HB.out)) hb); clear HB; have HO245 := n0_; have HB := n1_; clear n0_ n1_; clear hb ho9))
            go_loopg [7] k1 (fun kq v7 w' => ∃ (x6_2 : List Bool) (x7_2 : Bool), v7 = .bool x7_2 ∧ Aside0 (impl_UnionHasLoop.l1 kq l0 x3_1 x6_2 x7_2 = some r) ∧ Aside0 (kq ≤ k1) ∧ Aside0 (Kd.R Kd.bool 4 w' w.heap.size (fun _ => True) v244 x6_2) ∧ Aside0 (Below w.heap.size w w'))
            case atStart => exact ⟨(y243), (true), (by first | rfl | (simp; done) | (simp [*]; done)), H', ⟨Nat.le_refl _⟩, ⟨by (with_reducible repeat (first | apply Kd.R_alloc | apply Kd.R_drewN | apply Kd.R_drew)); exact HO245.out⟩, ⟨by repeat (first | (with_reducible first | exact HB.out | apply below_alloc | apply pw_below_drewN | apply below_drew1) | exact HB.out)⟩⟩
            case round =>
              clear H'
              try clear c2
              try clear c2b0
              try clear p2
              try clear q2
              try clear hx2
              try clear c3
              try clear c3b0
              try clear c4
              try clear c4b0
              try clear c6
              try clear c6b0
              try clear c6b1
              try clear p6
              try clear c7
              try clear c7b0
              try clear c7b1
              try clear hx242_0
              try clear p242
              try clear q242
              obtain ⟨x6_2, x7_2, rfl, HA, HK2, HO_6, HB⟩ := hrel
              cases gk with
              | zero => exact absurd HA.out (by simp [impl_UnionHasLoop.l1])
              | succ k2 =>
                have H := HA.out
                clear HA
                simp only [impl_UnionHasLoop.l1] at H
                by_cases c10 : x7_2 = true
                · subst c10
                  have H1 : (impl_UnionHasLoop.l2 k2 l0 x3_1 x6_2 false x3_1 0) = some r := by rw [if_pos rfl] at H; exact H
                  clear H
                  have H := H1
                  clear H1
                  have H' := Aside0.mk H
                  clear H
                  go_wp2
                  go_loopg [7, 28] k2 (fun kq v7 v28 w' => ∃ (x6_3 : List Bool) (x7_3 : Bool) (x28_3 : Int), v7 = .bool x7_3 ∧ v28 = .int .i64 x28_3 ∧ Aside0 (impl_UnionHasLoop.l2 kq l0 x3_1 x6_3 x7_3 x3_1 x28_3 = some r) ∧ Aside0 (kq ≤ k2) ∧ Aside0 (Kd.R Kd.bool 4 w' w.heap.size (fun _ => True) v244 x6_3) ∧ Aside0 (Below w.heap.size w w'))
                  case atStart => exact ⟨(x6_2), (false), (0), (by first | rfl | (simp; done) | (simp [*]; done)), (by first | rfl | (simp; done) | (simp [*]; done)), H', ⟨Nat.le_refl _⟩, ⟨by (with_reducible repeat (first | apply Kd.R_alloc | apply Kd.R_drewN | apply Kd.R_drew)); exact HO_6.out⟩, ⟨by repeat (first | (with_reducible first | exact HB.out | apply below_alloc | apply pw_below_drewN | apply below_drew1) | exact HB.out)⟩⟩
                  case round =>
                    clear H'
                    try clear c1
                    try clear c2
                    try clear c2b0
                    try clear p2
                    try clear q2
                    try clear hx2
                    try clear c3
                    try clear c3b0
                    try clear c4
                    try clear c4b0
                    try clear c6
                    try clear c6b0
                    try clear c6b1
                    try clear p6
                    try clear c7
                    try clear c7b0
                    try clear c7b1
                    try clear c10
                    try clear hx242_0
                    try clear p2
                    try clear p242
                    try clear p6
                    try clear q2
                    try clear q242
                    obtain ⟨x6_3, x7_3, x28_3, rfl, rfl, HA, HK3, HO_6, HB⟩ := hrel
                    cases gk with
                    | zero => exact absurd HA.out (by simp [impl_UnionHasLoop.l2])
                    | succ k3 =>
                      have H := HA.out
                      clear HA
                      simp only [impl_UnionHasLoop.l2] at H
                      by_cases c11 : x28_3 < x3_1
                      · rw [if_pos c11] at H
                        have c11b0 : decide (x28_3 < x3_1) = true := decide_eq_true c11
                        clear c11
                        by_cases c12 : 0 ≤ x28_3
                        · rw [if_pos c12] at H
                          have c12b0 : decide (0 ≤ x28_3) = true := decide_eq_true c12
                          clear c12
                          by_cases c13 : x28_3 < (x6_3.length : Int)
                          · rw [if_pos c13] at H
                            have c13b0 : decide (x28_3 < (x6_3.length : Int)) = true := decide_eq_true c13
                            clear c13
                            obtain ⟨bq14, hbq14⟩ : ∃ b_ : Bool, b_ = (rdOf false x6_3 x28_3) := ⟨_, rfl⟩
                            replace H : (if bq14 = true then (impl_UnionHasLoop.l2 k3 l0 x3_1 x6_3 x7_3 x3_1 (wrap64 (x28_3 + 1))) else (impl_UnionHasLoop.l3 k3 l0 x3_1 x6_3 x7_3 x28_3 false x3_1 x28_3 l0 (l0.length : Int) 0)) = some r := by rw [← hbq14] at H; exact H
                            have Nbq14 := Aside0.mk hbq14
                            clear hbq14
                            by_cases c15 : bq14 = true
                            · subst c15
                              have H1 : (impl_UnionHasLoop.l2 k3 l0 x3_1 x6_3 x7_3 x3_1 (wrap64 (x28_3 + 1))) = some r := by rw [if_pos rfl] at H; exact H
                              clear H
                              have H := H1
                              clear H1
                              have H' := Aside0.mk H
                              clear H
                              obtain ⟨Ao16, co16, eo16⟩ := Kd.R_slice HO_6.out
                              subst eo16
                              have p246 : 0 ≤ (x28_3 : Int) := of_decide_eq_true (by first | (with_reducible assumption) | assumption)
                              have q246 : x28_3 < (x6_3.length : Int) := of_decide_eq_true (by first | (with_reducible assumption) | assumption)
                              obtain ⟨ad246, e246, hx246_0⟩ := Kd.at_bool (Kd.R_reads' HO_6.out).2.2 x28_3 p246 q246
                              (try rw [← Nbq14.out] at hx246_0)
                              cases e246
                              replace p246 := eq_true p246
                              replace q246 := eq_true q246
                              go_wp2
                              go_roundg k3
                              case measure => have := HK1.out; have := HK2.out; have := HK3.out; omega
                              case rel => exact ⟨(x6_3), (x7_3), (wrap64 (x28_3 + 1)), (by first | rfl | (simp; done) | (simp [*]; done)), (by first | rfl | (simp; done) | (simp [*]; done)), H', ⟨by have := HK1.out; have := HK2.out; have := HK3.out; omega⟩, ⟨by (with_reducible repeat (first | apply Kd.R_alloc | apply Kd.R_drewN | apply Kd.R_drew)); exact HO_6.out⟩, ⟨by repeat (first | (with_reducible first | exact HB.out | apply below_alloc | apply pw_below_drewN | apply below_drew1) | exact HB.out)⟩⟩
                            · replace c15 := Bool.eq_false_iff.mpr c15
                              subst c15
                              have H1 : (impl_UnionHasLoop.l3 k3 l0 x3_1 x6_3 x7_3 x28_3 false x3_1 x28_3 l0 (l0.length : Int) 0) = some r := by rw [if_neg (show ¬ (false = true) by decide)] at H; exact H
                              clear H
                              have H := H1
                              clear H1
                              have H' := Aside0.mk H
                              clear H
                              obtain ⟨Ao17, co17, eo17⟩ := Kd.R_slice HO_6.out
                              subst eo17
                              have p246 : 0 ≤ (x28_3 : Int) := of_decide_eq_true (by first | (with_reducible assumption) | assumption)
                              have q246 : x28_3 < (x6_3.length : Int) := of_decide_eq_true (by first | (with_reducible assumption) | assumption)
                              obtain ⟨ad246, e246, hx246_0⟩ := Kd.at_bool (Kd.R_reads' HO_6.out).2.2 x28_3 p246 q246
                              (try rw [← Nbq14.out] at hx246_0)
                              cases e246
                              replace p246 := eq_true p246
                              replace q246 := eq_true q246
                              go_wp2
                              go_loopg [9, 37] k3 (fun kq v9 v37 w' => ∃ (x9_4 : Bool) (x37_4 : Int), v9 = .bool x9_4 ∧ v37 = .int .i64 x37_4 ∧ Aside0 (impl_UnionHasLoop.l3 kq l0 x3_1 x6_3 x7_3 x28_3 x9_4 x3_1 x28_3 l0 (l0.length : Int) x37_4 = some r) ∧ Aside0 (kq ≤ k3) ∧ Aside0 (Kd.R Kd.bool 4 w' w.heap.size (fun _ => True) (.slice (some ad246) x6_3.length co17) x6_3) ∧ Aside0 (Below w.heap.size w w'))
                              case atStart => exact ⟨(false), (0), (by first | rfl | (simp; done) | (simp [*]; done)), (by first | rfl | (simp; done) | (simp [*]; done)), H', ⟨Nat.le_refl _⟩, ⟨by (with_reducible repeat (first | apply Kd.R_alloc | apply Kd.R_drewN | apply Kd.R_drew)); exact HO_6.out⟩, ⟨by repeat (first | (with_reducible first | exact HB.out | apply below_alloc | apply pw_below_drewN | apply below_drew1) | exact HB.out)⟩⟩
                              case round =>
                                clear H'
                                try clear c1
                                try clear q1
                                try clear c2
                                try clear c2b0
                                try clear p2
                                try clear q2
                                try clear hx2
                                try clear c3
                                try clear c3b0
                                try clear c4
                                try clear c4b0
                                try clear c6
                                try clear c6b0
                                try clear c6b1
                                try clear p6
                                try clear c7
                                try clear c7b0
                                try clear c7b1
                                try clear c10
                                try clear c11
                                try clear c11b0
                                try clear c12
                                try clear c12b0
                                try clear c13
                                try clear c13b0
                                try clear q14
                                try clear c15
                                try clear hx242_0
                                try clear hx246_0
                                try clear p2
                                try clear p242
                                try clear p246
                                try clear p6
                                try clear q2
                                try clear q242
                                try clear q246
                                obtain ⟨x9_4, x37_4, rfl, rfl, HA, HK4, HO_6, HB⟩ := hrel
                                cases gk with
                                | zero => exact absurd HA.out (by simp [impl_UnionHasLoop.l3])
                                | succ k4 =>
                                  have H := HA.out
                                  clear HA
                                  simp only [impl_UnionHasLoop.l3] at H
                                  by_cases c18 : x37_4 < (l0.length : Int)
                                  · rw [if_pos c18] at H
                                    have c18b0 : decide (x37_4 < (l0.length : Int)) = true := decide_eq_true c18
                                    clear c18
                                    by_cases c19 : 0 ≤ x37_4
                                    · rw [if_pos c19] at H
                                      have c19b0 : decide (0 ≤ x37_4) = true := decide_eq_true c19
                                      clear c19
                                      by_cases c20 : x37_4 < (l0.length : Int)
                                      · rw [if_pos c20] at H
                                        have c20b0 : decide (x37_4 < (l0.length : Int)) = true := decide_eq_true c20
                                        clear c20
                                        by_cases c21 : x9_4 = true
                                        · subst c21
                                          have H1 : (impl_UnionHasLoop.l3 k4 l0 x3_1 x6_3 x7_3 x28_3 true x3_1 x28_3 l0 (l0.length : Int) (wrap64 (x37_4 + 1))) = some r := by rw [if_pos rfl] at H; exact H
                                          clear H
                                          have H := H1
                                          clear H1
                                          have H' := Aside0.mk H
                                          clear H
                                          have p247 : 0 ≤ (x37_4 : Int) := of_decide_eq_true (by first | (with_reducible assumption) | assumption)
                                          have q247 : x37_4 < (l0.length : Int) := of_decide_eq_true (by first | (with_reducible assumption) | assumption)
                                          obtain ⟨ad247, A247_0, c247_0, e247, hx247_0, hl247_0, hi247_0⟩ := at_L2 HR0.out x37_4 p247 q247
                                          cases e247
                                          replace hx247_0 := (HB.out.cell (World.block_lt_of_cell? w _ hx247_0)).trans hx247_0
                                          have HR247_0 := Aside0.mk hi247_0
                                          have HC247_0 := Aside0.mk hl247_0
                                          clear hi247_0 hl247_0
                                          replace p247 := eq_true p247
                                          replace q247 := eq_true q247
                                          go_wp2
                                          go_roundg k4
                                          case measure => have := HK1.out; have := HK2.out; have := HK3.out; have := HK4.out; omega
                                          case rel => exact ⟨(true), (wrap64 (x37_4 + 1)), (by first | rfl | (simp; done) | (simp [*]; done)), (by first | rfl | (simp; done) | (simp [*]; done)), H', ⟨by have := HK1.out; have := HK2.out; have := HK3.out; have := HK4.out; omega⟩, ⟨by (with_reducible repeat (first | apply Kd.R_alloc | apply Kd.R_drewN | apply Kd.R_drew)); exact HO_6.out⟩, ⟨by repeat (first | (with_reducible first | exact HB.out | apply below_alloc | apply pw_below_drewN | apply below_drew1) | exact HB.out)⟩⟩
                                        · replace c21 := Bool.eq_false_iff.mpr c21
                                          subst c21
                                          have H1 : (if x28_3 < ((rd_L2 l0 x37_4).length : Int) then (if 0 ≤ x28_3 then ((impl_isIndex.f (rd (rd_L2 l0 x37_4) x28_3) x3_1).bind fun t249 => (if t249 = true then (if 0 ≤ (rd (rd_L2 l0 x37_4) x28_3) then (if (rd (rd_L2 l0 x37_4) x28_3) < (x6_3.length : Int) then (impl_UnionHasLoop.l3 k4 l0 x3_1 x6_3 x7_3 x28_3 (!(rdOf false x6_3 (rd (rd_L2 l0 x37_4) x28_3))) x3_1 x28_3 l0 (l0.length : Int) (wrap64 (x37_4 + 1))) else (none)) else (none)) else (impl_UnionHasLoop.l3 k4 l0 x3_1 x6_3 x7_3 x28_3 false x3_1 x28_3 l0 (l0.length : Int) (wrap64 (x37_4 + 1))))) else (none)) else (impl_UnionHasLoop.l3 k4 l0 x3_1 x6_3 x7_3 x28_3 false x3_1 x28_3 l0 (l0.length : Int) (wrap64 (x37_4 + 1)))) = some r := by rw [if_neg (show ¬ (false = true) by decide)] at H; exact H
                                          clear H
                                          have H := H1
                                          clear H1
                                          by_cases c22 : x28_3 < ((rd_L2 l0 x37_4).length : Int)
                                          · rw [if_pos c22] at H
                                            have c22b0 : decide (x28_3 < ((rd_L2 l0 x37_4).length : Int)) = true := decide_eq_true c22
                                            clear c22
                                            by_cases c23 : 0 ≤ x28_3
                                            · rw [if_pos c23] at H
                                              have c23b0 : decide (0 ≤ x28_3) = true := decide_eq_true c23
                                              clear c23
                                              replace H := Option.bind_eq_some_iff.mp H
                                              obtain ⟨t249, A240, H⟩ := H
                                              replace H : (if t249 = true then (if 0 ≤ (rd (rd_L2 l0 x37_4) x28_3) then (if (rd (rd_L2 l0 x37_4) x28_3) < (x6_3.length : Int) then (impl_UnionHasLoop.l3 k4 l0 x3_1 x6_3 x7_3 x28_3 (!(rdOf false x6_3 (rd (rd_L2 l0 x37_4) x28_3))) x3_1 x28_3 l0 (l0.length : Int) (wrap64 (x37_4 + 1))) else (none)) else (none)) else (impl_UnionHasLoop.l3 k4 l0 x3_1 x6_3 x7_3 x28_3 false x3_1 x28_3 l0 (l0.length : Int) (wrap64 (x37_4 + 1)))) = some r := H
                                              have A24 := Aside0.mk A240
                                              clear A240
                                              by_cases c25 : t249 = true
                                              · subst c25
                                                have H1 : (if 0 ≤ (rd (rd_L2 l0 x37_4) x28_3) then (if (rd (rd_L2 l0 x37_4) x28_3) < (x6_3.length : Int) then (impl_UnionHasLoop.l3 k4 l0 x3_1 x6_3 x7_3 x28_3 (!(rdOf false x6_3 (rd (rd_L2 l0 x37_4) x28_3))) x3_1 x28_3 l0 (l0.length : Int) (wrap64 (x37_4 + 1))) else (none)) else (none)) = some r := by rw [if_pos rfl] at H; exact H
                                                clear H
                                                have H := H1
                                                clear H1
                                                by_cases c26 : 0 ≤ (rd (rd_L2 l0 x37_4) x28_3)
                                                · rw [if_pos c26] at H
                                                  have c26b0 : decide (0 ≤ (rd (rd_L2 l0 x37_4) x28_3)) = true := decide_eq_true c26
                                                  clear c26
                                                  by_cases c27 : (rd (rd_L2 l0 x37_4) x28_3) < (x6_3.length : Int)
                                                  · rw [if_pos c27] at H
                                                    have c27b0 : decide ((rd (rd_L2 l0 x37_4) x28_3) < (x6_3.length : Int)) = true := decide_eq_true c27
                                                    clear c27
                                                    have H' := Aside0.mk H
                                                    clear H
                                                    have p247 : 0 ≤ (x37_4 : Int) := of_decide_eq_true (by first | (with_reducible assumption) | assumption)
                                                    have q247 : x37_4 < (l0.length : Int) := of_decide_eq_true (by first | (with_reducible assumption) | assumption)
                                                    obtain ⟨ad247, A247_0, c247_0, e247, hx247_0, hl247_0, hi247_0⟩ := at_L2 HR0.out x37_4 p247 q247
                                                    cases e247
                                                    replace hx247_0 := (HB.out.cell (World.block_lt_of_cell? w _ hx247_0)).trans hx247_0
                                                    have HR247_0 := Aside0.mk hi247_0
                                                    have HC247_0 := Aside0.mk hl247_0
                                                    clear hi247_0 hl247_0
                                                    replace p247 := eq_true p247
                                                    replace q247 := eq_true q247
                                                    have p248 : 0 ≤ (x28_3 : Int) := of_decide_eq_true (by first | (with_reducible assumption) | assumption)
                                                    have q248 : x28_3 < ((rd_L2 l0 x37_4).length : Int) := of_decide_eq_true (by first | (with_reducible assumption) | assumption)
                                                    obtain ⟨ad248, e248, hx248_0⟩ := Kd.at_int HR247_0.out x28_3 p248 q248
                                                    cases e248
                                                    replace hx248_0 := (HB.out.cell (World.block_lt_of_cell? w _ hx248_0)).trans hx248_0
                                                    replace p248 := eq_true p248
                                                    replace q248 := eq_true q248
                                                    go_wp2_with (first | (go_at_call 57; (with_reducible refine (impl_isIndex.calls (rd (rd_L2 l0 x37_4) x28_3) x3_1 true _ A24.out).mono ?_); rintro e w' ⟨rfl, ⟨nd, rfl⟩⟩; have p250 : 0 ≤ (x28_3 : Int) := of_decide_eq_true (by first | (with_reducible assumption) | assumption); have q250 : x28_3 < ((rd_L2 l0 x37_4).length : Int) := of_decide_eq_true (by first | (with_reducible assumption) | assumption); obtain ⟨ad250, e250, hx250_0⟩ := Kd.at_int HR247_0.out x28_3 p250 q250; obtain rfl : ad248 = ad250 := (by injection e250); replace hx250_0 := (HB.out.cell (World.block_lt_of_cell? w _ hx250_0)).trans hx250_0; replace p250 := eq_true p250; replace q250 := eq_true q250; have p251 : 0 ≤ ((rd (rd_L2 l0 x37_4) x28_3) : Int) := of_decide_eq_true (by first | (with_reducible assumption) | assumption); have q251 : (rd (rd_L2 l0 x37_4) x28_3) < (x6_3.length : Int) := of_decide_eq_true (by first | (with_reducible assumption) | assumption); obtain ⟨ad251, e251, hx251_0⟩ := Kd.at_bool (Kd.R_reads' HO_6.out).2.2 (rd (rd_L2 l0 x37_4) x28_3) p251 q251; (try rw [← Nbq14.out] at hx251_0); obtain rfl : ad246 = ad251 := (by injection e251); replace p251 := eq_true p251; replace q251 := eq_true q251))
                                                    go_roundg k4
                                                    case measure => have := HK1.out; have := HK2.out; have := HK3.out; have := HK4.out; omega
                                                    case rel => exact ⟨(!(rdOf false x6_3 (rd (rd_L2 l0 x37_4) x28_3))), (wrap64 (x37_4 + 1)), (by first | rfl | (simp; done) | (simp [*]; done)), (by first | rfl | (simp; done) | (simp [*]; done)), H', ⟨by have := HK1.out; have := HK2.out; have := HK3.out; have := HK4.out; omega⟩, ⟨by (with_reducible repeat (first | apply Kd.R_alloc | apply Kd.R_drewN | apply Kd.R_drew)); exact HO_6.out⟩, ⟨by repeat (first | (with_reducible first | exact HB.out | apply below_alloc | apply pw_below_drewN | apply below_drew1) | exact HB.out)⟩⟩
                                                  · rw [if_neg c27] at H
                                                    exact absurd H (by simp)
                                                · rw [if_neg c26] at H
                                                  exact absurd H (by simp)
                                              · replace c25 := Bool.eq_false_iff.mpr c25
                                                subst c25
                                                have H1 : (impl_UnionHasLoop.l3 k4 l0 x3_1 x6_3 x7_3 x28_3 false x3_1 x28_3 l0 (l0.length : Int) (wrap64 (x37_4 + 1))) = some r := by rw [if_neg (show ¬ (false = true) by decide)] at H; exact H
                                                clear H
                                                have H := H1
                                                clear H1
                                                have H' := Aside0.mk H
                                                clear H
                                                have p247 : 0 ≤ (x37_4 : Int) := of_decide_eq_true (by first | (with_reducible assumption) | assumption)
                                                have q247 : x37_4 < (l0.length : Int) := of_decide_eq_true (by first | (with_reducible assumption) | assumption)
                                                obtain ⟨ad247, A247_0, c247_0, e247, hx247_0, hl247_0, hi247_0⟩ := at_L2 HR0.out x37_4 p247 q247
                                                cases e247
                                                replace hx247_0 := (HB.out.cell (World.block_lt_of_cell? w _ hx247_0)).trans hx247_0
                                                have HR247_0 := Aside0.mk hi247_0
                                                have HC247_0 := Aside0.mk hl247_0
                                                clear hi247_0 hl247_0
                                                replace p247 := eq_true p247
                                                replace q247 := eq_true q247
                                                have p248 : 0 ≤ (x28_3 : Int) := of_decide_eq_true (by first | (with_reducible assumption) | assumption)
                                                have q248 : x28_3 < ((rd_L2 l0 x37_4).length : Int) := of_decide_eq_true (by first | (with_reducible assumption) | assumption)
                                                obtain ⟨ad248, e248, hx248_0⟩ := Kd.at_int HR247_0.out x28_3 p248 q248
                                                cases e248
                                                replace hx248_0 := (HB.out.cell (World.block_lt_of_cell? w _ hx248_0)).trans hx248_0
                                                replace p248 := eq_true p248
                                                replace q248 := eq_true q248
                                                go_wp2_with (first | (go_at_call 57; (with_reducible refine (impl_isIndex.calls (rd (rd_L2 l0 x37_4) x28_3) x3_1 false _ A24.out).mono ?_); rintro e w' ⟨rfl, ⟨nd, rfl⟩⟩))
                                                go_roundg k4
                                                case measure => have := HK1.out; have := HK2.out; have := HK3.out; have := HK4.out; omega
                                                case rel => exact ⟨(false), (wrap64 (x37_4 + 1)), (by first | rfl | (simp; done) | (simp [*]; done)), (by first | rfl | (simp; done) | (simp [*]; done)), H', ⟨by have := HK1.out; have := HK2.out; have := HK3.out; have := HK4.out; omega⟩, ⟨by (with_reducible repeat (first | apply Kd.R_alloc | apply Kd.R_drewN | apply Kd.R_drew)); exact HO_6.out⟩, ⟨by repeat (first | (with_reducible first | exact HB.out | apply below_alloc | apply pw_below_drewN | apply below_drew1) | exact HB.out)⟩⟩
                                            · rw [if_neg c23] at H
                                              exact absurd H (by simp)
                                          · rw [if_neg c22] at H
                                            have c22b0 : decide (x28_3 < ((rd_L2 l0 x37_4).length : Int)) = false := decide_eq_false c22
                                            clear c22
                                            have H' := Aside0.mk H
                                            clear H
                                            have p247 : 0 ≤ (x37_4 : Int) := of_decide_eq_true (by first | (with_reducible assumption) | assumption)
                                            have q247 : x37_4 < (l0.length : Int) := of_decide_eq_true (by first | (with_reducible assumption) | assumption)
                                            obtain ⟨ad247, A247_0, c247_0, e247, hx247_0, hl247_0, hi247_0⟩ := at_L2 HR0.out x37_4 p247 q247
                                            cases e247
                                            replace hx247_0 := (HB.out.cell (World.block_lt_of_cell? w _ hx247_0)).trans hx247_0
                                            have HR247_0 := Aside0.mk hi247_0
                                            have HC247_0 := Aside0.mk hl247_0
                                            clear hi247_0 hl247_0
                                            replace p247 := eq_true p247
                                            replace q247 := eq_true q247
                                            go_wp2
                                            go_roundg k4
                                            case measure => have := HK1.out; have := HK2.out; have := HK3.out; have := HK4.out; omega
                                            case rel => exact ⟨(false), (wrap64 (x37_4 + 1)), (by first | rfl | (simp; done) | (simp [*]; done)), (by first | rfl | (simp; done) | (simp [*]; done)), H', ⟨by have := HK1.out; have := HK2.out; have := HK3.out; have := HK4.out; omega⟩, ⟨by (with_reducible repeat (first | apply Kd.R_alloc | apply Kd.R_drewN | apply Kd.R_drew)); exact HO_6.out⟩, ⟨by repeat (first | (with_reducible first | exact HB.out | apply below_alloc | apply pw_below_drewN | apply below_drew1) | exact HB.out)⟩⟩
                                      · rw [if_neg c20] at H
                                        exact absurd H (by simp)
                                    · rw [if_neg c19] at H
                                      exact absurd H (by simp)
                                  · rw [if_neg c18] at H
                                    have c18b0 : decide (x37_4 < (l0.length : Int)) = false := decide_eq_false c18
                                    clear c18
                                    by_cases c28 : x9_4 = true
                                    · subst c28
                                      have H1 : (impl_UnionHasLoop.l2 k4 l0 x3_1 x6_3 x7_3 x3_1 (wrap64 (x28_3 + 1))) = some r := by rw [if_pos rfl] at H; exact H
                                      clear H
                                      have H := H1
                                      clear H1
                                      have H' := Aside0.mk H
                                      clear H
                                      go_wp2
                                      go_roundg k4
                                      case measure => have := HK1.out; have := HK2.out; have := HK3.out; have := HK4.out; omega
                                      case rel => exact ⟨(x6_3), (x7_3), (wrap64 (x28_3 + 1)), (by first | rfl | (simp; done) | (simp [*]; done)), (by first | rfl | (simp; done) | (simp [*]; done)), H', ⟨by have := HK1.out; have := HK2.out; have := HK3.out; have := HK4.out; omega⟩, ⟨by (with_reducible repeat (first | apply Kd.R_alloc | apply Kd.R_drewN | apply Kd.R_drew)); exact HO_6.out⟩, ⟨by repeat (first | (with_reducible first | exact HB.out | apply below_alloc | apply pw_below_drewN | apply below_drew1) | exact HB.out)⟩⟩
                                    · replace c28 := Bool.eq_false_iff.mpr c28
                                      subst c28
                                      have H1 : (if 0 ≤ x28_3 then (if x28_3 < (x6_3.length : Int) then (impl_UnionHasLoop.l2 k4 l0 x3_1 (x6_3.set (x28_3 : Int).toNat true) true x3_1 (wrap64 (x28_3 + 1))) else (none)) else (none)) = some r := by rw [if_neg (show ¬ (false = true) by decide)] at H; exact H
                                      clear H
                                      have H := H1
                                      clear H1
                                      by_cases c29 : 0 ≤ x28_3
                                      · rw [if_pos c29] at H
                                        have c29b0 : decide (0 ≤ x28_3) = true := decide_eq_true c29
                                        clear c29
                                        by_cases c30 : x28_3 < (x6_3.length : Int)
                                        · rw [if_pos c30] at H
                                          have c30b0 : decide (x28_3 < (x6_3.length : Int)) = true := decide_eq_true c30
                                          clear c30
                                          obtain ⟨y252, hy252⟩ : ∃ y_ : List Bool, y_ = (x6_3.set (x28_3 : Int).toNat true) := ⟨_, rfl⟩
                                          replace H : (impl_UnionHasLoop.l2 k4 l0 x3_1 y252 true x3_1 (wrap64 (x28_3 + 1))) = some r := by first | (rw [hy252]; with_reducible exact H) | (have H2_ := (Option.bind_some _ _).symm.trans H; rw [hy252]; with_reducible exact H2_) | (have H2_ := (Option.bind_some _ _).symm.trans H; with_reducible exact H2_) | with_reducible exact H | (rw [hy252]; exact H) | exact H
                                          have Ny252 := Aside0.mk hy252
                                          clear hy252
                                          have H' := Aside0.mk H
                                          clear H
                                          have p31 : 0 ≤ (x28_3 : Int) := of_decide_eq_true (by first | (with_reducible assumption) | assumption)
                                          have q31 : (x28_3 : Int) < ((x6_3.length : Int) : Int) := of_decide_eq_true (by first | (with_reducible assumption) | assumption)
                                          obtain ⟨go31, co31, eo31, gb31, gl31, cl31, HG31⟩ := Kd.R_form HO_6.out (by omega)
                                          (first | cases eo31 | (injection eo31 with ea_ en_ ec_; (first | subst ea_ | (injection ea_ with ea_; subst ea_)); subst ec_; clear en_))
                                          have GB31 := Aside0.mk gb31
                                          have GG31 := Aside0.mk HG31
                                          clear gb31 gl31 HG31
                                          (first | simp only [add_plain] at hx246_0 | skip)
                                          (first | simp only [add_plain] at hx251_0 | skip)
                                          obtain ⟨hx31_0, hf31_0⟩ := Kd.R_celln false HO_6.out (x28_3 : Int) p31 q31
                                          replace p31 := eq_true p31
                                          replace q31 := eq_true q31
                                          have HP32 := Kd.R_putg HO_6.out (x28_3 : Int) true
                                          go_wp2_with (first | ((with_reducible refine gate_store (t := 4) (p := 71) rfl ?_); refine store_event (t := 4) (p := 71) (v := ?vo_w33) (w1 := (wr.setCell ⟨go31, (x28_3 : Int).toNat, none⟩ (.bool true))) ?hg ?ho ?hn ?hr ?_; (case ho => rfl); (case hg => rfl); (case hn => rfl); (case hr => first | (go_simp; done) | (go_simp; rfl)); intro w33 hw; have hg : wr.grownBy w33 (some go31) := (by rw [hw]; exact HP32.2); have hp_ : Kd.R Kd.bool 4 w33 w.heap.size (fun _ => True) (.slice (some ⟨go31, 0, none⟩) x6_3.length co17) y252 := (by rw [hw, Ny252.out]; exact HP32.1); clear HP32; have n0_ := Aside0.mk (hp_); have n1_ := Aside0.mk ((by rw [hw]; exact below_set (HB.out) GB31.out : Below w.heap.size w w33)); clear HO_6; clear HB; have HO_6 := n0_; have HB := n1_; clear n0_ n1_; clear hg hw hp_))
                                          go_roundg k4
                                          case measure => have := HK1.out; have := HK2.out; have := HK3.out; have := HK4.out; omega
                                          case rel => exact ⟨(y252), (true), (wrap64 (x28_3 + 1)), (by first | rfl | (simp; done) | (simp [*]; done)), (by first | rfl | (simp; done) | (simp [*]; done)), H', ⟨by have := HK1.out; have := HK2.out; have := HK3.out; have := HK4.out; omega⟩, ⟨by (with_reducible repeat (first | apply Kd.R_alloc | apply Kd.R_drewN | apply Kd.R_drew)); exact HO_6.out⟩, ⟨by repeat (first | (with_reducible first | exact HB.out | apply below_alloc | apply pw_below_drewN | apply below_drew1) | exact HB.out)⟩⟩
                                        · rw [if_neg c30] at H
                                          exact absurd H (by simp)
                                      · rw [if_neg c29] at H
                                        exact absurd H (by simp)
                          · rw [if_neg c13] at H
                            exact absurd H (by simp)
                        · rw [if_neg c12] at H
                          exact absurd H (by simp)
                      · rw [if_neg c11] at H
                        have c11b0 : decide (x28_3 < x3_1) = false := decide_eq_false c11
                        clear c11
                        have H' := Aside0.mk H
                        clear H
                        go_wp2
                        go_roundg k3
                        case measure => have := HK1.out; have := HK2.out; have := HK3.out; omega
                        case rel => exact ⟨(x6_3), (x7_3), (by first | rfl | (simp; done) | (simp [*]; done)), H', ⟨by have := HK1.out; have := HK2.out; have := HK3.out; omega⟩, ⟨by (with_reducible repeat (first | apply Kd.R_alloc | apply Kd.R_drewN | apply Kd.R_drew)); exact HO_6.out⟩, ⟨by repeat (first | (with_reducible first | exact HB.out | apply below_alloc | apply pw_below_drewN | apply below_drew1) | exact HB.out)⟩⟩
                · replace c10 := Bool.eq_false_iff.mpr c10
                  subst c10
                  have H1 : (impl_UnionHasLoop.l4 k2 x6_2 x3_1 0) = some r := by rw [if_neg (show ¬ (false = true) by decide)] at H; exact H
                  clear H
                  have H := H1
                  clear H1
                  have H' := Aside0.mk H
                  clear H
                  go_wp2
                  go_loopg [74] k2 (fun kq v74 w' => ∃ (x74_3 : Int), v74 = .int .i64 x74_3 ∧ Aside0 (impl_UnionHasLoop.l4 kq x6_2 x3_1 x74_3 = some r) ∧ Aside0 (kq ≤ k2) ∧ Aside0 (Kd.R Kd.bool 4 w' w.heap.size (fun _ => True) v244 x6_2) ∧ Aside0 (Below w.heap.size w w'))
                  case atStart => exact ⟨(0), (by first | rfl | (simp; done) | (simp [*]; done)), H', ⟨Nat.le_refl _⟩, ⟨by (with_reducible repeat (first | apply Kd.R_alloc | apply Kd.R_drewN | apply Kd.R_drew)); exact HO_6.out⟩, ⟨by repeat (first | (with_reducible first | exact HB.out | apply below_alloc | apply pw_below_drewN | apply below_drew1) | exact HB.out)⟩⟩
                  case round =>
                    clear H'
                    try clear c1
                    try clear q1
                    try clear c2
                    try clear c2b0
                    try clear p2
                    try clear q2
                    try clear hx2
                    try clear c3
                    try clear c3b0
                    try clear p3
                    try clear q3
                    try clear hx3
                    try clear hf3
                    try clear c4
                    try clear c4b0
                    try clear c6
                    try clear c6b0
                    try clear c6b1
                    try clear p6
                    try clear c7
                    try clear c7b0
                    try clear c7b1
                    try clear c10
                    try clear c11
                    try clear c11b0
                    try clear c12
                    try clear c12b0
                    try clear c13
                    try clear c13b0
                    try clear q14
                    try clear c15
                    try clear c18
                    try clear c18b0
                    try clear c19
                    try clear c19b0
                    try clear c20
                    try clear c20b0
                    try clear c21
                    try clear c22
                    try clear c22b0
                    try clear c23
                    try clear c23b0
                    try clear c24
                    try clear p24
                    try clear q24
                    try clear hx24
                    try clear c25
                    try clear p25
                    try clear q25
                    try clear hx25
                    try clear c26
                    try clear c26b0
                    try clear c27
                    try clear c27b0
                    try clear c28
                    try clear c29
                    try clear c29b0
                    try clear c30
                    try clear c30b0
                    try clear p31
                    try clear q31
                    try clear hx31
                    try clear hf31
                    try clear hx242_0
                    try clear hx246_0
                    try clear hx247_0
                    try clear hx248_0
                    try clear hx250_0
                    try clear hx251_0
                    try clear hx31_0
                    try clear p2
                    try clear p242
                    try clear p246
                    try clear p247
                    try clear p248
                    try clear p250
                    try clear p251
                    try clear p31
                    try clear p6
                    try clear q1
                    try clear q14
                    try clear q2
                    try clear q242
                    try clear q246
                    try clear q247
                    try clear q248
                    try clear q250
                    try clear q251
                    try clear q31
                    obtain ⟨x74_3, rfl, HA, HK3, HO_6, HB⟩ := hrel
                    cases gk with
                    | zero => exact absurd HA.out (by simp [impl_UnionHasLoop.l4])
                    | succ k3 =>
                      have H := HA.out
                      clear HA
                      simp only [impl_UnionHasLoop.l4] at H
                      by_cases c34 : x74_3 < x3_1
                      · rw [if_pos c34] at H
                        have c34b0 : decide (x74_3 < x3_1) = true := decide_eq_true c34
                        clear c34
                        by_cases c35 : 0 ≤ x74_3
                        · rw [if_pos c35] at H
                          have c35b0 : decide (0 ≤ x74_3) = true := decide_eq_true c35
                          clear c35
                          by_cases c36 : x74_3 < (x6_2.length : Int)
                          · rw [if_pos c36] at H
                            have c36b0 : decide (x74_3 < (x6_2.length : Int)) = true := decide_eq_true c36
                            clear c36
                            obtain ⟨bq37, hbq37⟩ : ∃ b_ : Bool, b_ = (rdOf false x6_2 x74_3) := ⟨_, rfl⟩
                            replace H : (if bq37 = true then (impl_UnionHasLoop.l4 k3 x6_2 x3_1 (wrap64 (x74_3 + 1))) else (some true)) = some r := by rw [← hbq37] at H; exact H
                            have Nbq37 := Aside0.mk hbq37
                            clear hbq37
                            by_cases c38 : bq37 = true
                            · subst c38
                              have H1 : (impl_UnionHasLoop.l4 k3 x6_2 x3_1 (wrap64 (x74_3 + 1))) = some r := by rw [if_pos rfl] at H; exact H
                              clear H
                              have H := H1
                              clear H1
                              have H' := Aside0.mk H
                              clear H
                              obtain ⟨Ao39, co39, eo39⟩ := Kd.R_slice HO_6.out
                              subst eo39
                              have p253 : 0 ≤ (x74_3 : Int) := of_decide_eq_true (by first | (with_reducible assumption) | assumption)
                              have q253 : x74_3 < (x6_2.length : Int) := of_decide_eq_true (by first | (with_reducible assumption) | assumption)
                              obtain ⟨ad253, e253, hx253_0⟩ := Kd.at_bool (Kd.R_reads' HO_6.out).2.2 x74_3 p253 q253
                              (try rw [← Nbq37.out] at hx253_0)
                              cases e253
                              replace p253 := eq_true p253
                              replace q253 := eq_true q253
                              go_wp2
                              go_roundg k3
                              case measure => have := HK1.out; have := HK2.out; have := HK3.out; omega
                              case rel => exact ⟨(wrap64 (x74_3 + 1)), (by first | rfl | (simp; done) | (simp [*]; done)), H', ⟨by have := HK1.out; have := HK2.out; have := HK3.out; omega⟩, ⟨by (with_reducible repeat (first | apply Kd.R_alloc | apply Kd.R_drewN | apply Kd.R_drew)); exact HO_6.out⟩, ⟨by repeat (first | (with_reducible first | exact HB.out | apply below_alloc | apply pw_below_drewN | apply below_drew1) | exact HB.out)⟩⟩
                            · replace c38 := Bool.eq_false_iff.mpr c38
                              subst c38
                              have H1 : (some true) = some r := by rw [if_neg (show ¬ (false = true) by decide)] at H; exact H
                              clear H
                              have H := H1
                              clear H1
                              obtain rfl := Option.some.inj H
                              obtain ⟨Ao40, co40, eo40⟩ := Kd.R_slice HO_6.out
                              subst eo40
                              have p253 : 0 ≤ (x74_3 : Int) := of_decide_eq_true (by first | (with_reducible assumption) | assumption)
                              have q253 : x74_3 < (x6_2.length : Int) := of_decide_eq_true (by first | (with_reducible assumption) | assumption)
                              obtain ⟨ad253, e253, hx253_0⟩ := Kd.at_bool (Kd.R_reads' HO_6.out).2.2 x74_3 p253 q253
                              (try rw [← Nbq37.out] at hx253_0)
                              cases e253
                              replace p253 := eq_true p253
                              replace q253 := eq_true q253
                              go_wp2
                              go_ret
                              exact ⟨by first | rfl | (simp [errW_none, errW_some] <;> rfl) | (simp [*, errW_none, errW_some] <;> rfl), by repeat (first | (with_reducible first | exact HB.out | apply below_alloc | apply pw_below_drewN | apply below_drew1) | exact HB.out)⟩
                          · rw [if_neg c36] at H
                            exact absurd H (by simp)
                        · rw [if_neg c35] at H
                          exact absurd H (by simp)
                      · rw [if_neg c34] at H
                        have c34b0 : decide (x74_3 < x3_1) = false := decide_eq_false c34
                        clear c34
                        obtain rfl := Option.some.inj H
                        go_wp2
                        go_ret
                        exact ⟨by first | rfl | (simp [errW_none, errW_some] <;> rfl) | (simp [*, errW_none, errW_some] <;> rfl), by repeat (first | (with_reducible first | exact HB.out | apply below_alloc | apply pw_below_drewN | apply below_drew1) | exact HB.out)⟩
          · rw [if_neg c7] at H
            exact absurd H (by simp)
        · rw [if_neg c6] at H
          exact absurd H (by simp)

end Go.Proofs.Ytadpbpocbfjboaa.QFnExactIsSafeMix
