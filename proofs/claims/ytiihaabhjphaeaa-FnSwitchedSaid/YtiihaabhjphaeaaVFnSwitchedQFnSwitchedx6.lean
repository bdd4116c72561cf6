/- Printed by a program of the session. Conditions: none. (squeezed). -/
import Derived.Test.YtiihaabhjphaeaaVFnSwitchedQFnSwitchedx5
namespace Go.Proofs.Ytiihaabhjphaeaa.QFnSwitched
set_option maxHeartbeats 8000000
set_option maxRecDepth 100000
open Go.RowKit Go.Proofs.YtiihaabhjphaeaaW.PrintWords Go.Proofs.YtiihaabhjphaeaaW.PrintLast Go.Proofs.YtiihaabhjphaeaaW.PrintMore Go.Proofs.Ytiihaabhjphaeaa.Open Go.Proofs.Ytiihaabhjphaeaa.Sq
attribute [local go_sem] max2_int min2_int max_two min_two max_three min_three max_four min_four   -- for this text's walks alone
attribute [local go_sem] isSome_set
set_option linter.unusedVariables false
set_option linter.unusedSimpArgs false

theorem a6_6 {P : Prop} (h : P := by have := HJ4.out; have := HK2.out; have := HK3.out; first | omega | exact Nat.le_refl _) : P := h
theorem a6_5 {P : Prop} (h : P := by (with_reducible repeat (first | apply Kd.Q_alloc | apply Kd.Q_drewN | apply Kd.Q_drew)); exact Kd.Q_mono HO_10.out (fun _ hk => a6_2)) : P := h
theorem a6_4 {P : Prop} (h : P := by (try simp only [hl9_3]); (try simp only [hl9_5]); (with_reducible repeat (first | apply Kd.R_alloc | apply Kd.R_drewN | apply Kd.R_drew)); exact HO_55.out) : P := h
theorem a6_3 {P : Prop} (h : P := by have := HJ4.out; have := HK2.out; have := HK3.out; have := HJ23.out; have := HK5.out; omega) : P := h
theorem a6_2 {P : Prop} (h : P := by first | exact ⟨hk.2, hk.1⟩ | exact hk | (simp_all; done)) : P := h
theorem a6_1 {P : Prop} (h : P := by (try simp only [hl9_3]); (with_reducible repeat (first | apply Kd.Q_alloc | apply Kd.Q_drewN | apply Kd.Q_drew)); exact HO_10.out) : P := h
theorem a6_0 {P : Prop} (h : P := by (try simp only [hl9_3]); (with_reducible repeat (first | apply Kd.R_alloc | apply Kd.R_drewN | apply Kd.R_drew)); exact HO_9.out) : P := h
mutual
def impl_DistancesTo.j0 : Nat → List (S134) → Int → Int → Int → List Int → Bool → Option (List Int)
  | 0, _, _, _, _, _, _ => none
  | k + 1, x0, x1, x2, x3, x9, x23 => if x23 = true then (some x9) else (impl_DistancesTo.l0 k x0 x1 x2 x3 x9 x1 0)
def impl_DistancesTo.l0 : Nat → List (S134) → Int → Int → Int → List Int → Int → Int → Option (List Int)
  | 0, _, _, _, _, _, _, _ => none
  | k + 1, x0, x1, x2, x3, x9, x25, x26 => if x26 < x25 then (if x9.length < 17592186044416 then (impl_DistancesTo.l0 k x0 x1 x2 x3 (x9 ++ [(-1)]) x25 (wrap64 (x26 + 1))) else (none)) else (if 0 ≤ x3 then (if x3 < (x9.length : Int) then (impl_DistancesTo.l1 k x0 x1 x2 x3 (x9.set (x3 : Int).toNat 0) (([x3] : List Int))) else (none)) else (none))
def impl_DistancesTo.l1 : Nat → List (S134) → Int → Int → Int → List Int → List Int → Option (List Int)
  | 0, _, _, _, _, _, _ => none
  | k + 1, x0, x1, x2, x3, x9, x10 => if (x10.length : Int) > 0 then (if 0 < (x10.length : Int) then (if (rd x10 0) = x3 then (impl_DistancesTo.j3 k x0 x1 x2 x3 x9 x10 (rd x10 0) false) else (impl_DistancesTo.j3 k x0 x1 x2 x3 x9 x10 (rd x10 0) (decide ((rd x10 0) ≥ x2)))) else (none)) else (some x9)
def impl_DistancesTo.j3 : Nat → List (S134) → Int → Int → Int → List Int → List Int → Int → Bool → Option (List Int)
  | 0, _, _, _, _, _, _, _, _ => none
  | k + 1, x0, x1, x2, x3, x9, x10, x11, x52 => if x52 = true then (if 1 ≤ (x10.length : Int) then (impl_DistancesTo.l1 k x0 x1 x2 x3 x9 (x10.drop (1 : Int).toNat)) else (none)) else ((impl_NeighborsIn.f k x0 x11).bind fun t239 => (impl_DistancesTo.l2 k x0 x1 x2 x3 x9 x10 x11 t239 (t239.length : Int) 0))
def impl_DistancesTo.l2 : Nat → List (S134) → Int → Int → Int → List Int → List Int → Int → List Int → Int → Int → Option (List Int)
  | 0, _, _, _, _, _, _, _, _, _, _ => none
  | k + 1, x0, x1, x2, x3, x9, x10, x11, x55, x56, x57 => if x57 < x56 then (if 0 ≤ x57 then (if x57 < (x55.length : Int) then ((impl_isIndex.f (rd x55 x57) x1).bind fun t243 => (if t243 = true then (if 0 ≤ (rd x55 x57) then (if (rd x55 x57) < (x9.length : Int) then (if (rd x9 (rd x55 x57)) < 0 then (if 0 ≤ x11 then (if x11 < (x9.length : Int) then (if x10.length < 17592186044416 then (impl_DistancesTo.l2 k x0 x1 x2 x3 (x9.set ((rd x55 x57) : Int).toNat (wrap64 ((rd x9 x11) + 1))) (x10 ++ [rd x55 x57]) x11 x55 x56 (wrap64 (x57 + 1))) else (none)) else (none)) else (none)) else (impl_DistancesTo.l2 k x0 x1 x2 x3 x9 x10 x11 x55 x56 (wrap64 (x57 + 1)))) else (none)) else (none)) else (impl_DistancesTo.l2 k x0 x1 x2 x3 x9 x10 x11 x55 x56 (wrap64 (x57 + 1))))) else (none)) else (none)) else (if 1 ≤ (x10.length : Int) then (impl_DistancesTo.l1 k x0 x1 x2 x3 x9 (x10.drop (1 : Int).toNat)) else (none))
end
def impl_DistancesTo.f (k : Nat) (l0 : List (S134)) (a1 : Int) (a2 : Int) (a3 : Int) : Option (List Int) := (some (([] : List Int) : List Int)).bind fun y223 => ((impl_isNumber.f a1).bind fun t226 => (if t226 = true then ((impl_isIndex.f a3 a1).bind fun t227 => (impl_DistancesTo.j0 k l0 a1 a2 a3 y223 (!t227))) else (impl_DistancesTo.j0 k l0 a1 a2 a3 y223 true)))
theorem impl_DistancesTo.mono_l : ∀ k, (∀ y0 y1 y2 y3 y4 y5, LeO (impl_DistancesTo.j0 k y0 y1 y2 y3 y4 y5) (impl_DistancesTo.j0 (k + 1) y0 y1 y2 y3 y4 y5)) ∧ (∀ y0 y1 y2 y3 y4 y5 y6, LeO (impl_DistancesTo.l0 k y0 y1 y2 y3 y4 y5 y6) (impl_DistancesTo.l0 (k + 1) y0 y1 y2 y3 y4 y5 y6)) ∧ (∀ y0 y1 y2 y3 y4 y5, LeO (impl_DistancesTo.l1 k y0 y1 y2 y3 y4 y5) (impl_DistancesTo.l1 (k + 1) y0 y1 y2 y3 y4 y5)) ∧ (∀ y0 y1 y2 y3 y4 y5 y6 y7, LeO (impl_DistancesTo.j3 k y0 y1 y2 y3 y4 y5 y6 y7) (impl_DistancesTo.j3 (k + 1) y0 y1 y2 y3 y4 y5 y6 y7)) ∧ (∀ y0 y1 y2 y3 y4 y5 y6 y7 y8 y9, LeO (impl_DistancesTo.l2 k y0 y1 y2 y3 y4 y5 y6 y7 y8 y9) (impl_DistancesTo.l2 (k + 1) y0 y1 y2 y3 y4 y5 y6 y7 y8 y9))
  | 0 => ⟨fun _ _ _ _ _ _ r h => by simp [impl_DistancesTo.j0] at h, fun _ _ _ _ _ _ _ r h => by simp [impl_DistancesTo.l0] at h, fun _ _ _ _ _ _ r h => by simp [impl_DistancesTo.l1] at h, fun _ _ _ _ _ _ _ _ r h => by simp [impl_DistancesTo.j3] at h, fun _ _ _ _ _ _ _ _ _ _ r h => by simp [impl_DistancesTo.l2] at h⟩
  | k + 1 => by
    obtain ⟨ih0, ih1, ih2, ih3, ih4⟩ := impl_DistancesTo.mono_l k
    refine ⟨?_, ?_, ?_, ?_, ?_⟩
    · intro y0 y1 y2 y3 y4 y5
      unfold impl_DistancesTo.j0
      have m0 := @impl_NeighborsIn.mono
      exact mo
    · intro y0 y1 y2 y3 y4 y5 y6
      unfold impl_DistancesTo.l0
      have m0 := @impl_NeighborsIn.mono
      exact mo
    · intro y0 y1 y2 y3 y4 y5
      unfold impl_DistancesTo.l1
      have m0 := @impl_NeighborsIn.mono
      exact mo
    · intro y0 y1 y2 y3 y4 y5 y6 y7
      unfold impl_DistancesTo.j3
      have m0 := @impl_NeighborsIn.mono
      exact mo
    · intro y0 y1 y2 y3 y4 y5 y6 y7 y8 y9
      unfold impl_DistancesTo.l2
      have m0 := @impl_NeighborsIn.mono
      exact mo
theorem impl_DistancesTo.mono : ∀ a0 a1 a2 a3 k, LeO (impl_DistancesTo.f k a0 a1 a2 a3) (impl_DistancesTo.f (k + 1) a0 a1 a2 a3) := by
  intro a0 a1 a2 a3 k
  obtain ⟨ih0, ih1, ih2, ih3, ih4⟩ := impl_DistancesTo.mono_l k
  unfold impl_DistancesTo.f
  have m0 := @impl_NeighborsIn.mono
  exact mo
theorem e6_0 {P : Prop} (h : P := by
 go_wp2_with (first | (have _ := c41b0; (with_reducible refine gc 77 rfl ?_); refine gL (some 63) Try.func77 #[.int .i64 (rd t239 x57_5), .int .i64 a1] ?_; (with_reducible refine (impl_isIndex.calls (rd t239 x57_5) a1 true _ A36.out).mono ?_); rintro e w' ⟨rfl, ⟨nd, rfl⟩⟩; refine ⟨_, rfl, ?_⟩; (try (rw  [drewN_self wr]; generalize hq_ : World.drewN wr _ = wr; have n0_ : Aside0 (Kd.Q (Kd.int .i64) 3 wr w.heap.size _ u10 x10_5) := ⟨by rw [← hq_]; exact (sq HO_10)⟩; have n1_ : Aside0 (Kd.R (Kd.int .i64) 3 wr w.heap.size _ (.slice (some ad242) t239.length co32) t239) := ⟨by rw [← hq_]; exact (sr HO_55)⟩; have n2_ : Aside0 (Kd.R (Kd.int .i64) 3 wr w.heap.size (fun k_ => some k_ ≠ (u10 : Value).ownBlock ∧ some k_ ≠ (.slice (some ad242) t239.length co32 : Value).ownBlock) (.slice (some ⟨go17, 0, none⟩) x9_5.length co17) x9_5) := ⟨by rw [← hq_]; exact (sr HO_9)⟩; have n3_ : Aside0 (Below w.heap.size w wr) := ⟨by rw [← hq_]; exact (sb)⟩; clear HO_10 HO_55 HO_9 HB hq_; have HO_10 := n0_; have HO_55 := n1_; have HO_9 := n2_; have HB := n3_; clear n0_ n1_ n2_ n3_)); have p244 : 0 ≤ ((rd t239 x57_5) : Int) := sa; have q244 : (rd t239 x57_5) < (x9_5.length : Int) := sa; obtain ⟨ad244, e244, hx244_0⟩ := Kd.at_int (Kd.R_reads' HO_9.out).2.2 (rd t239 x57_5) p244 q244; obtain rfl : (⟨go17, 0, none⟩ : Addr) = ad244 := (by injection e244); (first | simp only [add_plain] at hx244_0 | simp only [add_at] at hx244_0 | simp only [Addr.add, Nat.zero_add] at hx244_0 | skip); replace p244 := eq_true p244; replace q244 := eq_true q244; have p245 : 0 ≤ ((rd x10_3 0) : Int) := sa; have q245 : (rd x10_3 0) < (x9_5.length : Int) := sa; obtain ⟨ad245, e245, hx245_0⟩ := Kd.at_int (Kd.R_reads' HO_9.out).2.2 (rd x10_3 0) p245 q245; obtain rfl : (⟨go17, 0, none⟩ : Addr) = ad245 := (by injection e245); (first | simp only [add_plain] at hx245_0 | simp only [add_at] at hx245_0 | simp only [Addr.add, Nat.zero_add] at hx245_0 | skip); replace p245 := eq_true p245; replace q245 := eq_true q245; have p43 : 0 ≤ ((rd t239 x57_5) : Int) := sa; have q43 : ((rd t239 x57_5) : Int) < ((x9_5.length : Int) : Int) := sa; obtain ⟨hx43_0, hf43_0⟩ := Kd.R_celln 0 HO_9.out ((rd t239 x57_5) : Int) p43 q43; replace p43 := eq_true p43; replace q43 := eq_true q43; obtain ⟨hy45_, hz45_⟩ := Kd.R_celln 0 HO_9.out ((rd t239 x57_5) : Int) (sa) (sa); have HP45 := Kd.R_putg HO_9.out ((rd t239 x57_5) : Int) (wrap64 ((rd x9_5 (rd x10_3 0)) + 1))) | (have _ := c41b0; (with_reducible refine gate_store (t := 3) (p := 78) rfl ?_); refine store_event (t := 3) (p := 78) (v := ?vo_w46) (w1 := (wr.setCell ⟨go17, ((rd t239 x57_5) : Int).toNat, none⟩ (.int .i64 (wrap64 ((rd x9_5 (rd x10_3 0)) + 1))))) ?hg ?ho ?hn ?hr ?_; (case ho => rfl); (case hg => rfl); (case hn => rfl); (case hr => first | (go_simp; done) | (go_simp; rfl)); intro w46 hw; have hg : wr.grownBy w46 (some go17) := (by rw [hw]; exact HP45.2); have hp_ : Kd.R (Kd.int .i64) 3 w46 w.heap.size (fun k_ => some k_ ≠ (u10 : Value).ownBlock ∧ some k_ ≠ (.slice (some ad242) t239.length co32 : Value).ownBlock) (.slice (some ⟨go17, 0, none⟩) x9_5.length co17) y246 := (by rw [hw, Ny246.out]; exact HP45.1); clear HP45; replace HO_9 := am hp_; replace HO_10 := am (Kd.Q_after (v := (.slice (some ⟨go17, 0, none⟩) x9_5.length co17)) (v1 := (.slice (some ⟨go17, 0, none⟩) x9_5.length co17)) (ok := (fun k_ => some k_ ≠ (.slice (some ad242) t239.length co32 : Value).ownBlock)) a6_5 hg (.inl rfl)); replace HO_55 := am (Kd.R_after (v := (.slice (some ⟨go17, 0, none⟩) x9_5.length co17)) (v1 := (.slice (some ⟨go17, 0, none⟩) x9_5.length co17)) (ok := (fun k_ => some k_ ≠ (u10 : Value).ownBlock)) (by exact rm HO_55 (fun _ hk => a6_2)) hg (.inl rfl)); replace HB := am ((by rw [hw]; exact below_set (HB.out) GB17.out : Below w.heap.size w w46)); clear hg hw hp_) | (have _ := c41b0; (with_reducible refine gate_builtin (b := .append) (xs := #[.tmp 79, .tmp 81]) rfl ?_); at_builtin; refine Kd.Q_append (Kd.int .i64) (w0 := w) w.heap.size rfl (.tmp 79) (.tmp 81) 28 3 (.int .i64 0) 8 rfl Try.underlying28 info3 rfl (by decide) (by omega) u10 x10_5 (rd t239 x57_5) [.int .i64 (rd t239 x57_5)] (fun k_ => some k_ ≠ (.slice (some ⟨go17, 0, none⟩) x9_5.length co17 : Value).ownBlock ∧ some k_ ≠ (.slice (some ad242) t239.length co32 : Value).ownBlock) (fun _ => False) rfl rfl ?aP (fun _ hk => hk.elim) ?aF ?aO ?aB ?aS ?aL ?_; (case aP => exact rfl); (case aB => exact (sb)); (case aF => exact (fun k_ hk => ⟨Kd.fresh' (Kd.R_lt (sr HO_9)) k_ hk, Kd.fresh' (Kd.R_lt (sr HO_55)) k_ hk⟩)); (case aO => exact a6_5); (case aS => exact (below_size (sb))); (case aL => have := LMc44.out; omega); intro v248 w47 ho hb hg hat; rw [← Ny247.out] at ho; replace HO_9 := am (Kd.R_after (ok := (fun k_ => some k_ ≠ (.slice (some ad242) t239.length co32 : Value).ownBlock)) (by exact rm HO_9 (fun _ hk => a6_2)) hg hat); replace HO_55 := am (Kd.R_after (ok := (fun k_ => some k_ ≠ (.slice (some ⟨go17, 0, none⟩) x9_5.length co17 : Value).ownBlock)) (by exact rm HO_55 (fun _ hk => a6_2)) hg hat); replace HB := am hb; have HO249 := am ho; clear HO_10; clear ho hb hg hat) | (have _ := c38b0; (with_reducible refine gc 77 rfl ?_); refine gL (some 63) Try.func77 #[.int .i64 (rd t239 x57_5), .int .i64 a1] ?_; (with_reducible refine (impl_isIndex.calls (rd t239 x57_5) a1 true _ A36.out).mono ?_); rintro e w' ⟨rfl, ⟨nd, rfl⟩⟩; refine ⟨_, rfl, ?_⟩; have p244 : 0 ≤ ((rd t239 x57_5) : Int) := sa; have q244 : (rd t239 x57_5) < (x9_5.length : Int) := sa; obtain ⟨ad244, e244, hx244_0⟩ := Kd.at_int (Kd.R_reads' HO_9.out).2.2 (rd t239 x57_5) p244 q244; obtain rfl : (⟨go17, 0, none⟩ : Addr) = ad244 := (by injection e244); (first | simp only [add_plain] at hx244_0 | simp only [add_at] at hx244_0 | simp only [Addr.add, Nat.zero_add] at hx244_0 | skip); replace p244 := eq_true p244; replace q244 := eq_true q244) | ((with_reducible refine gc 77 rfl ?_); refine gL (some 63) Try.func77 #[.int .i64 (rd t239 x57_5), .int .i64 a1] ?_; (with_reducible refine (impl_isIndex.calls (rd t239 x57_5) a1 false _ A36.out).mono ?_); rintro e w' ⟨rfl, ⟨nd, rfl⟩⟩; refine ⟨_, rfl, ?_⟩))
 first
 | have _ := c41b0
   (try simp only [← hl9_5])
   go_roundg k5
   case measure => have := HJ4.out; have := HK2.out; have := HK3.out; have := HJ23.out; have := HK5.out; omega
   case rel => exact ⟨(y246), (y247), (wrap64 (x57_5 + 1)), sc, H', ⟨a6_3⟩, ⟨by (try simp only [hl9_3]); (try simp only [hl9_5]); exact rm HO_9 (fun _ hk => ⟨hk.2, hk.1⟩)⟩, ⟨by (try simp only [hl9_3]); (try simp only [hl9_5]); (with_reducible repeat (first | apply Kd.Q_alloc | apply Kd.Q_drewN | apply Kd.Q_drew)); exact HO249.out⟩, ⟨a6_4⟩, ⟨sb⟩⟩
 | (try simp only [← hl9_5])
   go_roundg k5
   case measure => have := HJ4.out; have := HK2.out; have := HK3.out; have := HJ23.out; have := HK5.out; omega
   case rel => exact ⟨(x9_5), (x10_5), (wrap64 (x57_5 + 1)), sc, H', ⟨a6_3⟩, ⟨by (try simp only [hl9_3]); (try simp only [hl9_5]); (with_reducible repeat (first | apply Kd.R_alloc | apply Kd.R_drewN | apply Kd.R_drew)); exact HO_9.out⟩, ⟨by (try simp only [hl9_3]); (try simp only [hl9_5]); (with_reducible repeat (first | apply Kd.Q_alloc | apply Kd.Q_drewN | apply Kd.Q_drew)); exact HO_10.out⟩, ⟨a6_4⟩, ⟨sb⟩⟩) : P := h
theorem impl_DistancesTo.calls (k : Nat) (A0 : Option Addr) (c0 : Nat) (l0 : List (S134)) (a1 : Int) (a2 : Int) (a3 : Int) (r : List Int) (w : World) (hr0 : Kd.C k134 w A0 l0.length l0) (hc0 : l0.length ≤ c0) (h : impl_DistancesTo.f k l0 a1 a2 a3 = some r) :
    Calls Try.prog 55 #[.slice A0 l0.length c0, .int .i64 a1, .int .i64 a2, .int .i64 a3] w fun e w' => ∃ v0_ : Value, e = .returned (v0_) ∧ Kd.R (Kd.int .i64) 3 w' w.heap.size (fun _ => True) v0_ r ∧ Below w.heap.size w w' := by
 have HR0 := am hr0
 have HC0 := am hc0
 clear hr0 hc0
 have HB := am (Below.refl w.heap.size w)
 have H := h; unfold impl_DistancesTo.f at H
 clear h
 obtain ⟨y223, Ny223, H⟩ := iy_ H
 have HC5 := am H
 clear H
 go_enter Try.func55, Try.ntmps55
 go_upto_region 2 with (first | ((with_reducible refine gd 14 rfl ?_); refine Kd.R_lit (Kd.int .i64) _ 3 ?hg (N := 14) ?hd (xs := ([] : List Int)) (inner := []) (ok := fun _ => True) (okp := fun _ => True) ?hr ?hp (fun _ hk => hk) trivial (Below.refl _ _) (Nat.le_refl _) (by simp) ?_; (case hd => rfl); (case hg => rfl); (case hr => first | (go_simp; done) | (go_simp; rfl)); (case hp => exact (Reps.none _ _)); intro v224 w6 ho7 hb hg_ hnew_; clear hg_ hnew_; (first | rw [← Ny223.out] at ho7 | (simp only [Int.reduceToNat] at ho7; rw [← Ny223.out] at ho7)); have HO225 := am (Kd.R_lower ho7 (below_size (sb))); replace HB := bs hb; clear hb ho7))
 (try simp only [Act.put, List.setIfInBounds_toArray, List.set_cons_zero, List.set_cons_succ])
 go_cut [23] (fun v23 wc => ∃ (kq : Nat) (x23_4 : Bool), v23 = .bool x23_4 ∧ Aside0 (impl_DistancesTo.j0 kq l0 a1 a2 a3 y223 x23_4 = some r) ∧ Aside0 (kq ≤ k) ∧ Aside0 (Kd.R (Kd.int .i64) 3 wc w.heap.size (fun _ => True) v224 y223) ∧ Aside0 (Below w.heap.size w wc))
 case first =>
  have H := HC5.out
  clear HC5
  obtain ⟨t226, A8, H⟩ := bnd H
  obtain rfl | rfl := tt t226
  ·replace H := ip H
   obtain ⟨t227, A10, H⟩ := bnd H
   have H' := am H
   clear H
   go_wp2_with (first | ((with_reducible refine gc 120 rfl ?_); refine gL (some 16) Try.func120 #[.int .i64 a1] ?_; (with_reducible refine (impl_isNumber.calls a1 true _ A8.out).mono ?_); rintro e w' ⟨rfl, ⟨nd, rfl⟩⟩; refine ⟨_, rfl, ?_⟩) | (go_at_call 77; (with_reducible refine (impl_isIndex.calls a3 a1 t227 _ A10.out).mono ?_); rintro e w' ⟨rfl, ⟨nd, rfl⟩⟩))
   go_meet
   case rel => exact ⟨_, (!t227), sc, H', ⟨by first | omega | exact Nat.le_refl _⟩, ⟨sr HO225⟩, ⟨sb⟩⟩
  ·replace H := im H
   have H' := am H
   clear H
   go_wp2_with (first | ((with_reducible refine gc 120 rfl ?_); refine gL (some 16) Try.func120 #[.int .i64 a1] ?_; (with_reducible refine (impl_isNumber.calls a1 false _ A8.out).mono ?_); rintro e w' ⟨rfl, ⟨nd, rfl⟩⟩; refine ⟨_, rfl, ?_⟩))
   go_meet
   case rel => exact ⟨_, (true), sc, H', ⟨by first | omega | exact Nat.le_refl _⟩, ⟨sr HO225⟩, ⟨sb⟩⟩
 case rest =>
  clear HC5
  obtain ⟨kq, x23_4, rfl, HA, HJ4, HO_9, HB⟩ := hcut
  cases kq with
  | zero => exact absurd HA.out (by simp [impl_DistancesTo.j0])
  | succ kj4 =>
   have H := HA.out
   clear HA
   simp only [impl_DistancesTo.j0] at H
   obtain rfl | rfl := tt x23_4
   ·replace H := ip H
    obtain rfl := Option.some.inj H
    go_wp2
    go_ret
    exact ⟨_, se, sr HO_9, sb⟩
   ·replace H := im H
    have H' := am H
    clear H
    go_wp2
    go_loopg [9, 26] kj4 (fun kq v9 v26 w' => ∃ (x9_2 : List Int) (x26_2 : Int), v26 = .int .i64 x26_2 ∧ Aside0 (impl_DistancesTo.l0 kq l0 a1 a2 a3 x9_2 a1 x26_2 = some r) ∧ Aside0 (kq ≤ kj4) ∧ Aside0 (Kd.R (Kd.int .i64) 3 w' w.heap.size (fun _ => True) v9 x9_2) ∧ Aside0 (Below w.heap.size w w'))
    case atStart => exact ⟨(y223), (0), sc, H', kk0, ⟨sr HO_9⟩, ⟨sb⟩⟩
    case round =>
     clear H'
     obtain ⟨x9_2, x26_2, rfl, HA, HK2, HO_9, HB⟩ := hrel
     cases gk with
     | zero => exact absurd HA.out (by simp [impl_DistancesTo.l0])
     | succ k2 =>
      have H := HA.out
      clear HA
      simp only [impl_DistancesTo.l0] at H
      obtain ⟨-, c12b0, H⟩ | ⟨-, c12b0, H⟩ := ic_ H
      ·obtain ⟨LMc13, H⟩ := il_ H
       obtain ⟨y228, hy228⟩ : ∃ y_ : List Int, y_ = (x9_2 ++ [(-1)]) := ⟨_, rfl⟩
       replace H : (impl_DistancesTo.l0 k2 l0 a1 a2 a3 y228 a1 (wrap64 (x26_2 + 1))) = some r := ry hy228 H
       have Ny228 := am hy228
       clear hy228
       have H' := am H
       clear H
       go_wp2_with (first | ((with_reducible refine gate_builtin (b := .append) (xs := #[.tmp 28, .tmp 29]) rfl ?_); at_builtin; refine Kd.R_append (Kd.int .i64) (w0 := w) w.heap.size rfl (.tmp 28) (.tmp 29) 28 3 (.int .i64 0) 8 rfl Try.underlying28 info3 rfl (by decide) (by omega) u9 x9_2 (-1) [.int .i64 (-1)] (fun _ => True) (fun _ => False) rfl rfl ?aP (fun _ hk => hk.elim) ?aF ?aO ?aB ?aS ?aL ?_; (case aP => exact rfl); (case aB => exact (sb)); (case aF => exact (fun _ _ => trivial)); (case aO => exact (sr HO_9)); (case aS => exact (below_size (sb))); (case aL => have := LMc13.out; omega); intro v229 w14 ho hb hg hat; rw [← Ny228.out] at ho; replace HB := am hb; have HO230 := am ho; clear HO_9; clear ho hb hg hat))
       go_roundg k2
       case measure => have := HJ4.out; have := HK2.out; omega
       case rel => exact ⟨(y228), (wrap64 (x26_2 + 1)), sc, H', ⟨by have := HJ4.out; have := HK2.out; omega⟩, ⟨sr HO230⟩, ⟨sb⟩⟩
      ·obtain ⟨c15b0, H⟩ := id_ H
       obtain ⟨c16b0, H⟩ := id_ H
       obtain ⟨y231, hy231⟩ : ∃ y_ : List Int, y_ = (x9_2.set (a3 : Int).toNat 0) := ⟨_, rfl⟩
       replace H : (impl_DistancesTo.l1 k2 l0 a1 a2 a3 y231 (([a3] : List Int))) = some r := ry hy231 H
       have Ny231 := am hy231
       clear hy231
       obtain ⟨y232, hy232⟩ : ∃ y_ : List Int, y_ = (([a3] : List Int)) := ⟨_, rfl⟩
       replace H : (impl_DistancesTo.l1 k2 l0 a1 a2 a3 y231 y232) = some r := ry hy232 H
       have Ny232 := am hy232
       clear hy232
       have H' := am H
       clear H
       have p17 : 0 ≤ (a3 : Int) := sa
       have q17 : (a3 : Int) < ((x9_2.length : Int) : Int) := sa
       obtain ⟨go17, co17, eo17, gb17, gl17, cl17, HG17⟩ := Kd.R_form HO_9.out (by omega)
       (first | cases eo17 | (injection eo17 with ea_ en_ ec_; (first | subst ea_ | (injection ea_ with ea_; subst ea_)); subst ec_; clear en_))
       have GB17 := am gb17
       have GG17 := am HG17
       clear gb17 gl17 HG17
       obtain ⟨hx17_0, hf17_0⟩ := Kd.R_celln 0 HO_9.out (a3 : Int) p17 q17
       replace p17 := eq_true p17
       replace q17 := eq_true q17
       have HP18 := Kd.R_putg HO_9.out (a3 : Int) 0
       go_wp2_with (first | ((with_reducible refine gate_store (t := 3) (p := 34) rfl ?_); refine store_event (t := 3) (p := 34) (v := ?vo_w19) (w1 := (wr.setCell ⟨go17, (a3 : Int).toNat, none⟩ (.int .i64 0))) ?hg ?ho ?hn ?hr ?_; (case ho => rfl); (case hg => rfl); (case hn => rfl); (case hr => first | (go_simp; done) | (go_simp; rfl)); intro w19 hw; have hg : wr.grownBy w19 (some go17) := (by rw [hw]; exact HP18.2); have hp_ : Kd.R (Kd.int .i64) 3 w19 w.heap.size (fun _ => True) (.slice (some ⟨go17, 0, none⟩) x9_2.length co17) y231 := (by rw [hw, Ny231.out]; exact HP18.1); clear HP18; replace HO_9 := am hp_; replace HB := am ((by rw [hw]; exact below_set (HB.out) GB17.out : Below w.heap.size w w19)); clear hg hw hp_) | ((with_reducible refine gd 36 rfl ?_); refine Kd.R_lit (Kd.int .i64) _ 3 ?hg (N := 36) ?hd (xs := ([a3] : List Int)) (inner := [.int .i64 a3]) (ok := fun _ => True) (okp := fun _ => True) ?hr ?hp (fun _ hk => hk) trivial (Below.refl _ _) (Nat.le_refl _) (by simp) ?_; (case hd => rfl); (case hg => rfl); (case hr => first | (go_simp; done) | (go_simp; rfl)); (case hp => exact (Reps.one (show Kd.M (Kd.int .i64) _ _ _ a3 [.int .i64 a3] from rfl) (Reps.none _ _))); intro v233 w20 ho21 hb hg_ hnew_; clear hg_ hnew_; (first | rw [← Ny232.out] at ho21 | (simp only [Int.reduceToNat] at ho21; rw [← Ny232.out] at ho21)); have HO234 := am (Kd.R_lower (Kd.R_new' ho21 (Kd.R_lt (sr HO_9))) (below_size (sb))); replace HO_9 := am (Kd.R_elder' (sr HO_9) (Kd.R_base ho21) hb); replace HB := bs hb; clear hb ho21))
       go_loopg [10] k2 (fun kq v10 w' => ∃ (x9_3 : List Int) (x10_3 : List Int), Aside0 (impl_DistancesTo.l1 kq l0 a1 a2 a3 x9_3 x10_3 = some r) ∧ Aside0 (kq ≤ k2) ∧ Aside0 (Kd.R (Kd.int .i64) 3 w' w.heap.size (fun k_ => some k_ ≠ (v10 : Value).ownBlock) (.slice (some ⟨go17, 0, none⟩) x9_2.length co17) x9_3) ∧ Aside0 (Kd.Q (Kd.int .i64) 3 w' w.heap.size (fun k_ => some k_ ≠ ((.slice (some ⟨go17, 0, none⟩) x9_2.length co17) : Value).ownBlock) v10 x10_3) ∧ Aside0 (Below w.heap.size w w'))
       case atStart => exact ⟨(y231), (y232), H', kk0, ⟨by exact rm HO_9 (fun _ hk => hk.2)⟩, ⟨Kd.Q_of_R (by exact rm HO234 (fun _ hk => hk.2))⟩, ⟨sb⟩⟩
       case round =>
        clear H'
        try clear c12
        try clear c12b0
        try clear c15b0
        try clear c16b0
        try clear p17
        try clear q17
        try clear hx17_0
        try clear p17
        try clear q17
        obtain ⟨x9_3, x10_3, HA, HK3, HO_9, HO_10, HB⟩ := hrel
        have hl9_3 := (Kd.R_reads' HO_9.out).1
        rw [hl9_3] at HO_9
        (try simp only [hl9_3])
        (try simp only [hl9_3] at HO_10)
        cases gk with
        | zero => exact absurd HA.out (by simp [impl_DistancesTo.l1])
        | succ k3 =>
         have H := HA.out
         clear HA
         simp only [impl_DistancesTo.l1] at H
         obtain ⟨c22, c22b0, H⟩ | ⟨c22, c22b0, H⟩ := ic_ H
         ·have c22b1 : decide (0 < x10_3.length) = true := decide_eq_true (by omega)
          clear c22
          obtain ⟨c23, H⟩ := ia_ H
          have c23b0 := decide_eq_true c23
          have c23b1 : decide (0 < x10_3.length) = true := decide_eq_true (by omega)
          clear c23
          have HC24 := am H
          clear H
          obtain ⟨Ao25, co25, eo25, _⟩ := Kd.Q_slice HO_10.out
          subst eo25
          have p235 : 0 ≤ (0 : Int) := (by omega)
          have q235 : 0 < (x10_3.length : Int) := sa
          obtain ⟨ad235, e235, hx235_0⟩ := Kd.at_int (Kd.Q_reads' HO_10.out).2.2 0 p235 q235
          cases e235
          have qi235 : (0 < x10_3.length) = True := eq_true (by omega)
          (try rw [show ((0 : Int)).toNat = 0 from rfl] at hx235_0)
          (try rw [Addr.add_zero'] at hx235_0)
          replace p235 := eq_true p235
          replace q235 := eq_true q235
          go_upto_region 13 with (fail)
          go_cut [52] (fun v52 wc => ∃ (kq : Nat) (x52_23 : Bool), v52 = .bool x52_23 ∧ Aside0 (impl_DistancesTo.j3 kq l0 a1 a2 a3 x9_3 x10_3 (rd x10_3 0) x52_23 = some r) ∧ Aside0 (kq ≤ k3) ∧ Aside0 (Kd.R (Kd.int .i64) 3 wc w.heap.size (fun k_ => some k_ ≠ ((.slice (some ad235) x10_3.length co25) : Value).ownBlock) (.slice (some ⟨go17, 0, none⟩) x9_3.length co17) x9_3) ∧ Aside0 (Kd.Q (Kd.int .i64) 3 wc w.heap.size (fun k_ => some k_ ≠ ((.slice (some ⟨go17, 0, none⟩) x9_3.length co17) : Value).ownBlock) (.slice (some ad235) x10_3.length co25) x10_3) ∧ Aside0 (Below w.heap.size w wc))
          case first =>
           have H := HC24.out
           clear HC24
           obtain ⟨-, c26b0, c26b1, H⟩ | ⟨c26, c26b0, c26b1, H⟩ := ib_ H
           ·(first | rw [c26b0] | (simp only [i64_w, i32_w]; rw [c26b0]) | rw [c26b1] | skip)
            have H' := am H
            clear H
            go_wp2
            go_meet
            case rel => exact ⟨_, (false), sc, H', ⟨a6_6⟩, ⟨a6_0⟩, ⟨a6_1⟩, ⟨sb⟩⟩
           ·(first | rw [c26b0] | (simp only [i64_w, i32_w]; rw [c26b0]) | rw [c26b1] | skip)
            have H' := am H
            clear H
            go_wp2
            go_meet
            case rel => exact ⟨_, (decide ((rd x10_3 0) ≥ a2)), sc, H', ⟨a6_6⟩, ⟨a6_0⟩, ⟨a6_1⟩, ⟨sb⟩⟩
          case rest =>
           clear HC24
           try clear c12
           try clear c12b0
           try clear c15b0
           try clear c16b0
           try clear p17
           try clear q17
           try clear c22
           try clear c22b0
           try clear c22b1
           try clear c23
           try clear c23b0
           try clear c23b1
           try clear hx17_0
           try clear hx235_0
           try clear p17
           try clear p235
           try clear q17
           try clear q235
           obtain ⟨kq, x52_23, rfl, HA, HJ23, HO_9, HO_10, HB⟩ := hcut
           cases kq with
           | zero => exact absurd HA.out (by simp [impl_DistancesTo.j3])
           | succ kj23 =>
            have H := HA.out
            clear HA
            simp only [impl_DistancesTo.j3] at H
            obtain rfl | rfl := tt x52_23
            ·replace H := ip H
             obtain ⟨c28, H⟩ := ia_ H
             have c28b0 := eq_true c28
             have c28b1 := decide_eq_true c28
             clear c28
             obtain ⟨y236, hy236⟩ : ∃ y_ : List Int, y_ = (x10_3.drop (1 : Int).toNat) := ⟨_, rfl⟩
             replace H : (impl_DistancesTo.l1 kj23 l0 a1 a2 a3 x9_3 y236) = some r := ry hy236 H
             have Ny236 := am hy236
             clear hy236
             have H' := am H
             clear H
             have q29 : (1 : Int) ≤ ((x10_3.length : Int) : Int) := sa
             obtain ⟨i029, hi029, _, hsz29, _⟩ := info_parts info3
             have hcut29 := cut_from (P := Try.prog) 28 3 .i64 Try.underlying28 hi029 1 hsz29 (some ad235) x10_3.length co25 1 (by omega) q29
             have hr29 := Kd.Q_drop (k := (1 : Int).toNat) HO_10.out (by omega)
             obtain ⟨A29, hA29⟩ : ∃ A1, A1 = (if co25 = (1 : Int).toNat then (some ad235) else ((some ad235) : Option Addr).map (·.add ((1 : Int).toNat * 1))) := ⟨_, rfl⟩
             obtain ⟨c29, hc29⟩ : ∃ c1, c1 = co25 - (1 : Int).toNat := ⟨_, rfl⟩
             have hy29 : y236.length = x10_3.length - (1 : Int).toNat := (by rw [Ny236.out, List.length_drop])
             rw [← Ny236.out] at hr29
             rw [← hy29, ← hA29, ← hc29] at hcut29
             replace hr29 : Kd.Q (Kd.int .i64) 3 wc w.heap.size (fun k_ => some k_ ≠ (.slice (some ⟨go17, 0, none⟩) x9_3.length co17 : Value).ownBlock) (.slice A29 y236.length c29) y236 := (by rw [hA29, hc29, hy29]; exact hr29)
             have HE29 : Aside0 ((Value.slice A29 y236.length c29).ownBlock = (.slice (some ad235) x10_3.length co25 : Value).ownBlock) := ⟨by rw [hA29]; split <;> (cases ((some ad235) : Option Addr) <;> rfl)⟩
             clear hy29 hi029 hsz29 HO_10 hA29 hc29
             have HO238 := am hr29
             clear hr29
             replace q29 := eq_true q29
             have n_ := am (Kd.R_mono (ok' := fun k_ => some k_ ≠ (.slice A29 y236.length c29 : Value).ownBlock) HO_9.out (fun k_ hk => (by rw [HE29.out]; exact hk)))
             clear HO_9
             have HO_9 := n_
             clear n_
             go_wp2
             (try simp only [← hl9_3])
             go_roundg kj23
             case measure => have := HJ4.out; have := HK2.out; have := HK3.out; have := HJ23.out; omega
             case rel => exact ⟨(x9_3), (y236), H', ⟨by have := HJ4.out; have := HK2.out; have := HK3.out; have := HJ23.out; omega⟩, ⟨a6_0⟩, ⟨by (try simp only [hl9_3]); (with_reducible repeat (first | apply Kd.Q_alloc | apply Kd.Q_drewN | apply Kd.Q_drew)); exact HO238.out⟩, ⟨sb⟩⟩
            ·replace H := im H
             obtain ⟨t239, A30, H⟩ := bnd H
             have H' := am H
             clear H
             go_wp2_with (first | ((with_reducible refine gc 60 rfl ?_); refine gL (some 55) Try.func60 #[.slice A0 l0.length c0, .int .i64 (rd x10_3 0)] ?_; (with_reducible refine (impl_NeighborsIn.calls kj23 _ _ l0 (rd x10_3 0) t239 _ ?side1 ?side2 A30.out).mono ?_); (case side1 => exact cb HR0); (case side2 => exact HC0.out); rintro e w31 ⟨v240, rfl, ho0, hb⟩; refine ⟨_, rfl, ?_⟩; have HO241 := am (Kd.R_lower (Kd.R_new' (Kd.R_new' ho0 (Kd.R_lt (sr HO_9))) (Kd.Q_lt (sq HO_10))) (below_size (sb))); replace HO_9 := am (Kd.R_elder' (sr HO_9) (Kd.R_base ho0) hb); replace HO_10 := am (Kd.Q_elder' (sq HO_10) (Kd.R_base ho0) hb); replace HB := bs hb; (try clear hb); (try clear ho0); obtain ⟨Ao32, co32, eo32⟩ := Kd.R_slice HO241.out; subst eo32))
             go_loopg [10, 57] kj23 (fun kq v10 v57 w' => ∃ (x9_5 : List Int) (x10_5 : List Int) (x57_5 : Int), v57 = .int .i64 x57_5 ∧ Aside0 (impl_DistancesTo.l2 kq l0 a1 a2 a3 x9_5 x10_5 (rd x10_3 0) t239 (t239.length : Int) x57_5 = some r) ∧ Aside0 (kq ≤ kj23) ∧ Aside0 (Kd.R (Kd.int .i64) 3 w' w.heap.size (fun k_ => some k_ ≠ (v10 : Value).ownBlock ∧ some k_ ≠ ((.slice Ao32 t239.length co32) : Value).ownBlock) (.slice (some ⟨go17, 0, none⟩) x9_3.length co17) x9_5) ∧ Aside0 (Kd.Q (Kd.int .i64) 3 w' w.heap.size (fun k_ => some k_ ≠ ((.slice (some ⟨go17, 0, none⟩) x9_3.length co17) : Value).ownBlock ∧ some k_ ≠ ((.slice Ao32 t239.length co32) : Value).ownBlock) v10 x10_5) ∧ Aside0 (Kd.R (Kd.int .i64) 3 w' w.heap.size (fun k_ => some k_ ≠ ((.slice (some ⟨go17, 0, none⟩) x9_3.length co17) : Value).ownBlock ∧ some k_ ≠ (v10 : Value).ownBlock) (.slice Ao32 t239.length co32) t239) ∧ Aside0 (Below w.heap.size w w'))
             case atStart => exact ⟨(x9_3), (x10_3), (0), sc, H', kk0, ⟨a6_0⟩, ⟨a6_1⟩, ⟨by (try simp only [hl9_3]); exact rm HO241 (fun _ hk => ⟨hk.1.2, hk.2⟩)⟩, ⟨sb⟩⟩
             case round =>
              clear H'
              try clear c12
              try clear c12b0
              try clear c15b0
              try clear c16b0
              try clear p17
              try clear q17
              try clear c22
              try clear c22b0
              try clear c22b1
              try clear c23
              try clear c23b0
              try clear c23b1
              try clear hx17_0
              try clear hx235_0
              try clear p17
              try clear p235
              try clear q17
              try clear q235
              obtain ⟨x9_5, x10_5, x57_5, rfl, HA, HK5, HO_9, HO_10, HO_55, HB⟩ := hrel
              have hl9_5 := (Kd.R_reads' HO_9.out).1
              rw [hl9_5] at HO_9
              (try simp only [hl9_5])
              (try simp only [hl9_5] at HO_10)
              (try simp only [hl9_5] at HO_55)
              cases gk with
              | zero => exact absurd HA.out (by simp [impl_DistancesTo.l2])
              | succ k5 =>
               have H := HA.out
               clear HA
               simp only [impl_DistancesTo.l2] at H
               obtain ⟨-, c33b0, H⟩ | ⟨-, c33b0, H⟩ := ic_ H
               ·obtain ⟨c34b0, H⟩ := id_ H
                obtain ⟨c35b0, H⟩ := id_ H
                obtain ⟨t243, A36, H⟩ := bnd H
                obtain rfl | rfl := tt t243
                ·replace H := ip H
                 obtain ⟨c38b0, H⟩ := id_ H
                 obtain ⟨c39b0, H⟩ := id_ H
                 obtain ⟨-, c40b0, H⟩ | ⟨-, c40b0, H⟩ := ic_ H
                 ·obtain ⟨c41b0, H⟩ := id_ H
                  obtain ⟨c42b0, H⟩ := id_ H
                  obtain ⟨y246, hy246⟩ : ∃ y_ : List Int, y_ = (x9_5.set ((rd t239 x57_5) : Int).toNat (wrap64 ((rd x9_5 (rd x10_3 0)) + 1))) := ⟨_, rfl⟩
                  replace H : (if x10_5.length < 17592186044416 then (impl_DistancesTo.l2 k5 l0 a1 a2 a3 y246 (x10_5 ++ [rd t239 x57_5]) (rd x10_3 0) t239 (t239.length : Int) (wrap64 (x57_5 + 1))) else (none)) = some r := ry hy246 H
                  have Ny246 := am hy246
                  clear hy246
                  obtain ⟨LMc44, H⟩ := il_ H
                  obtain ⟨y247, hy247⟩ : ∃ y_ : List Int, y_ = (x10_5 ++ [rd t239 x57_5]) := ⟨_, rfl⟩
                  replace H : (impl_DistancesTo.l2 k5 l0 a1 a2 a3 y246 y247 (rd x10_3 0) t239 (t239.length : Int) (wrap64 (x57_5 + 1))) = some r := ry hy247 H
                  have Ny247 := am hy247
                  clear hy247
                  have H' := am H
                  clear H
                  have p242 : 0 ≤ (x57_5 : Int) := sa
                  have q242 : x57_5 < (t239.length : Int) := sa
                  obtain ⟨ad242, e242, hx242_0⟩ := Kd.at_int (Kd.R_reads' HO_55.out).2.2 x57_5 p242 q242
                  cases e242
                  replace p242 := eq_true p242
                  replace q242 := eq_true q242
                  exact e6_0
                 ·have H' := am H
                  clear H
                  have p242 : 0 ≤ (x57_5 : Int) := sa
                  have q242 : x57_5 < (t239.length : Int) := sa
                  obtain ⟨ad242, e242, hx242_0⟩ := Kd.at_int (Kd.R_reads' HO_55.out).2.2 x57_5 p242 q242
                  cases e242
                  replace p242 := eq_true p242
                  replace q242 := eq_true q242
                  exact e6_0
                ·replace H := im H
                 have H' := am H
                 clear H
                 have p242 : 0 ≤ (x57_5 : Int) := sa
                 have q242 : x57_5 < (t239.length : Int) := sa
                 obtain ⟨ad242, e242, hx242_0⟩ := Kd.at_int (Kd.R_reads' HO_55.out).2.2 x57_5 p242 q242
                 cases e242
                 replace p242 := eq_true p242
                 replace q242 := eq_true q242
                 exact e6_0
               ·obtain ⟨c48, H⟩ := ia_ H
                have c48b0 := eq_true c48
                have c48b1 := decide_eq_true c48
                clear c48
                obtain ⟨y250, hy250⟩ : ∃ y_ : List Int, y_ = (x10_5.drop (1 : Int).toNat) := ⟨_, rfl⟩
                replace H : (impl_DistancesTo.l1 k5 l0 a1 a2 a3 x9_5 y250) = some r := ry hy250 H
                have Ny250 := am hy250
                clear hy250
                have H' := am H
                clear H
                obtain ⟨Ao49, co49, eo49, _⟩ := Kd.Q_slice HO_10.out
                subst eo49
                have q50 : (1 : Int) ≤ ((x10_5.length : Int) : Int) := sa
                obtain ⟨i050, hi050, _, hsz50, _⟩ := info_parts info3
                have hcut50 := cut_from (P := Try.prog) 28 3 .i64 Try.underlying28 hi050 1 hsz50 Ao49 x10_5.length co49 1 (by omega) q50
                have hr50 := Kd.Q_drop (k := (1 : Int).toNat) HO_10.out (by omega)
                obtain ⟨A50, hA50⟩ : ∃ A1, A1 = (if co49 = (1 : Int).toNat then Ao49 else (Ao49 : Option Addr).map (·.add ((1 : Int).toNat * 1))) := ⟨_, rfl⟩
                obtain ⟨c50, hc50⟩ : ∃ c1, c1 = co49 - (1 : Int).toNat := ⟨_, rfl⟩
                have hy50 : y250.length = x10_5.length - (1 : Int).toNat := (by rw [Ny250.out, List.length_drop])
                rw [← Ny250.out] at hr50
                rw [← hy50, ← hA50, ← hc50] at hcut50
                replace hr50 : Kd.Q (Kd.int .i64) 3 wr w.heap.size (fun k_ => some k_ ≠ (.slice (some ⟨go17, 0, none⟩) x9_5.length co17 : Value).ownBlock ∧ some k_ ≠ (.slice Ao32 t239.length co32 : Value).ownBlock) (.slice A50 y250.length c50) y250 := (by rw [hA50, hc50, hy50]; exact hr50)
                have HE50 : Aside0 ((Value.slice A50 y250.length c50).ownBlock = (.slice Ao49 x10_5.length co49 : Value).ownBlock) := ⟨by rw [hA50]; split <;> (cases (Ao49 : Option Addr) <;> rfl)⟩
                clear hy50 hi050 hsz50 HO_10 hA50 hc50
                have HO252 := am hr50
                clear hr50
                replace q50 := eq_true q50
                have n_ := am (Kd.R_mono (ok' := fun k_ => (some k_ ≠ (.slice A50 y250.length c50 : Value).ownBlock ∧ some k_ ≠ (.slice Ao32 t239.length co32 : Value).ownBlock)) HO_9.out (fun k_ hk => ⟨(by rw [HE50.out]; exact hk.1), hk.2⟩))
                clear HO_9
                have HO_9 := n_
                clear n_
                have n_ := am (Kd.R_mono (ok' := fun k_ => (some k_ ≠ (.slice (some ⟨go17, 0, none⟩) x9_5.length co17 : Value).ownBlock ∧ some k_ ≠ (.slice A50 y250.length c50 : Value).ownBlock)) HO_55.out (fun k_ hk => ⟨hk.1, (by rw [HE50.out]; exact hk.2)⟩))
                clear HO_55
                have HO_55 := n_
                clear n_
                go_wp2
                (try simp only [← hl9_3, ← hl9_5])
                go_roundg k5
                case measure => have := HJ4.out; have := HK2.out; have := HK3.out; have := HJ23.out; have := HK5.out; omega
                case rel => exact ⟨(x9_5), (y250), H', ⟨a6_3⟩, ⟨by (try simp only [hl9_3]); (try simp only [hl9_5]); exact rm HO_9 (fun _ hk => hk.1)⟩, ⟨by (try simp only [hl9_3]); (try simp only [hl9_5]); (with_reducible repeat (first | apply Kd.Q_alloc | apply Kd.Q_drewN | apply Kd.Q_drew)); exact Kd.Q_mono HO252.out (fun _ hk => hk.1)⟩, ⟨sb⟩⟩
         ·have c22b1 : decide (0 < x10_3.length) = false := decide_eq_false (by omega)
          clear c22
          obtain rfl := Option.some.inj H
          obtain ⟨Ao51, co51, eo51, _⟩ := Kd.Q_slice HO_10.out
          subst eo51
          go_wp2
          go_ret
          exact ⟨_, se, by exact rm HO_9 (fun _ hk => trivial), sb⟩

end Go.Proofs.Ytiihaabhjphaeaa.QFnSwitched
