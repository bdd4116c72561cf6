/- Printed by a program of the session. Conditions: none. (squeezed). -/
import Derived.Test.YtiihaabhjphaeaaVFnProgramsQFnProgramsx1
import Derived.Test.YtiihaabhjphaeaaVFnProgramsQFnProgramsx8
namespace Go.Proofs.Ytiihaabhjphaeaa.QFnPrograms
set_option maxHeartbeats 8000000
set_option maxRecDepth 100000
open Go.RowKit Go.Proofs.YtiihaabhjphaeaaW.PrintWords Go.Proofs.YtiihaabhjphaeaaW.PrintLast Go.Proofs.YtiihaabhjphaeaaW.PrintMore Go.Proofs.Ytiihaabhjphaeaa.Open Go.Proofs.Ytiihaabhjphaeaa.Sq
attribute [local go_sem] max2_int min2_int max_two min_two max_three min_three max_four min_four   -- for this text's walks alone
attribute [local go_sem] isSome_set
set_option linter.unusedVariables false
set_option linter.unusedSimpArgs false

attribute [local go_sem high] eqA134
def impl_Link_179.l0 : Nat → List (S134) → Int → Int → Int → Int → Option (Int)
  | 0, _, _, _, _, _ => none
  | k + 1, x0, x7, x8, x393000, x393001 => if x8 < x7 then (if 0 ≤ x8 then (if x8 < (x0.length : Int) then (if (x393000 == ((rd_T134 x0 x8).f0) && (x393001 == ((rd_T134 x0 x8).f1))) = true then (some x8) else (impl_Link_179.l0 k x0 x7 (wrap64 (x8 + 1)) x393000 x393001)) else (none)) else (none)) else (some (-1))
def impl_Link_179.f (k : Nat) (l0 : List (S134)) (a1_0 : Int) (a1_1 : Int) : Option (Int) := impl_Link_179.l0 k l0 (l0.length : Int) 0 a1_0 a1_1
theorem impl_Link_179.mono_l : ∀ k, (∀ y0 y1 y2 y3 y4, LeO (impl_Link_179.l0 k y0 y1 y2 y3 y4) (impl_Link_179.l0 (k + 1) y0 y1 y2 y3 y4))
  | 0 => fun _ _ _ _ _ r h => by simp [impl_Link_179.l0] at h
  | k + 1 => by
    have ih0 := impl_Link_179.mono_l k
    · intro y0 y1 y2 y3 y4
      unfold impl_Link_179.l0
      exact mo
theorem impl_Link_179.mono : ∀ a0 a1 a2 k, LeO (impl_Link_179.f k a0 a1 a2) (impl_Link_179.f (k + 1) a0 a1 a2) := by
  intro a0 a1 a2 k
  have ih0 := impl_Link_179.mono_l k
  unfold impl_Link_179.f
  exact mo
theorem impl_Link_179.calls (k : Nat) (A0 : Option Addr) (c0 : Nat) (l0 : List (S134)) (a1_0 : Int) (a1_1 : Int) (r : Int) (w : World) (hr0 : Kd.C k134 w A0 l0.length l0) (hc0 : l0.length ≤ c0) (h : impl_Link_179.f k l0 a1_0 a1_1 = some r) :
    Calls Try.prog 179 #[.slice A0 l0.length c0, .agg #[.int .i64 a1_0, .int .i64 a1_1]] w fun e w' => e = .returned (.int .i64 r) ∧ Below w.heap.size w w' := by
 have hu134 := Try.underlying134
 have HR0 := am hr0
 have HC0 := am hc0
 clear hr0 hc0
 have HB := am (Below.refl w.heap.size w)
 have H := h; unfold impl_Link_179.f at H
 clear h
 have H' := am H
 clear H
 go_enter Try.func179, Try.ntmps179
 go_wp2_with (first | ((with_reducible refine gd 3 rfl ?_); refine bx 3 #[.int .i64 a1_0, .int .i64 a1_1] 134 ?_; intro gb392 hg w3 hbox hb; have GW392 := bz w hg; have GE392 := bz w hg; replace HB := bs hb; have BK392 := am hbox; clear hb hbox hg))
 repeat (go_quiet (first | ((with_reducible refine gd 3 rfl ?_); refine box_event ?hg (N := 3) ?hd (cs := #[.int .i64 a1_0, .int .i64 a1_1]) (t := 134) ?hr ?_; (case hd => rfl); (case hg => rfl); (case hr => first | (go_simp; done) | (go_simp; rfl)); intro gb392 hg w3 hbox hb; have n0_ := am (below_step (sb) hb); have n1_ := am (hbox); have n2_ := am ((by rw [hg]; exact (below_size (sb)) : w.heap.size ≤ gb392)); have n3_ := am ((by rw [hg]; exact (below_size (sb)) : w.heap.size ≤ gb392)); clear HB; have HB := n0_; have BK392 := n1_; have GW392 := n2_; have GE392 := n3_; clear n0_ n1_ n2_ n3_; clear hb hbox hg)); try go_wp2_with (first | ((with_reducible refine gd 3 rfl ?_); refine box_event ?hg (N := 3) ?hd (cs := #[.int .i64 a1_0, .int .i64 a1_1]) (t := 134) ?hr ?_; (case hd => rfl); (case hg => rfl); (case hr => first | (go_simp; done) | (go_simp; rfl)); intro gb392 hg w3 hbox hb; have n0_ := am (below_step (sb) hb); have n1_ := am (hbox); have n2_ := am ((by rw [hg]; exact (below_size (sb)) : w.heap.size ≤ gb392)); have n3_ := am ((by rw [hg]; exact (below_size (sb)) : w.heap.size ≤ gb392)); clear HB; have HB := n0_; have BK392 := n1_; have GW392 := n2_; have GE392 := n3_; clear n0_ n1_ n2_ n3_; clear hb hbox hg)))
 go_loopg [8] k (fun kq v8 w' => ∃ (x8_1 : Int), v8 = .int .i64 x8_1 ∧ Aside0 (impl_Link_179.l0 kq l0 (l0.length : Int) x8_1 a1_0 a1_1 = some r) ∧ Aside0 (kq ≤ k) ∧ Aside0 (w'.heap[gb392]? = some (.cells #[.int .i64 a1_0, .int .i64 a1_1] 134 (0, 0))) ∧ Aside0 (Below w.heap.size w w'))
 case atStart => exact ⟨(0), sc, H', kk0, ⟨sk BK392⟩, ⟨sbw⟩⟩
 case round =>
  clear H'
  obtain ⟨x8_1, rfl, HA, HK1, BK392, HB⟩ := hrel
  cases gk with
  | zero => exact absurd HA.out (by simp [impl_Link_179.l0])
  | succ k1 =>
   have H := HA.out
   clear HA
   simp only [impl_Link_179.l0] at H
   obtain ⟨c4, H⟩ | ⟨c4, H⟩ := ie_ H
   ·have c4b0 := decide_eq_true c4
    clear c4
    obtain ⟨c5b0, H⟩ := id_ H
    obtain ⟨c6b0, H⟩ := id_ H
    obtain ⟨c7, H⟩ | ⟨c7, H⟩ := ie_ H
    ·have c7b0 : (a1_0 == ((rd_T134 l0 x8_1).f0) && (a1_1 == ((rd_T134 l0 x8_1).f1))) = true := c7
     (try (have c7b1 : decide (a1_0 = ((rd_T134 l0 x8_1).f0) && (a1_1 == ((rd_T134 l0 x8_1).f1))) = true := by simpa using c7))
     (try (have c7b2 : (a1_0 == ((rd_T134 l0 x8_1).f0) && (a1_1 == ((rd_T134 l0 x8_1).f1))) = true := by simpa using c7))
     clear c7
     obtain rfl := Option.some.inj H
     obtain ⟨hcz8_0, hcz8_1, hfz8_0, hfz8_1⟩ := cc2 BK392
     obtain ⟨p393, q393, ad393, e393, _, _, hx393_0, hx393_1⟩ := aT_T134 HR0 HB x8_1
     cases e393
     go_wp2
     repeat (go_quiet (fail); try go_wp2)
     go_ret
     exact ⟨se, sbw⟩
    ·have c7b0 : (a1_0 == ((rd_T134 l0 x8_1).f0) && (a1_1 == ((rd_T134 l0 x8_1).f1))) = false := by simpa using c7
     (try (have c7b1 : decide (a1_0 = ((rd_T134 l0 x8_1).f0) && (a1_1 == ((rd_T134 l0 x8_1).f1))) = false := by simpa using c7))
     (try (have c7b2 : (a1_0 == ((rd_T134 l0 x8_1).f0) && (a1_1 == ((rd_T134 l0 x8_1).f1))) = false := by simpa using c7))
     (try (have c7b3 : ¬ (a1_0 = ((rd_T134 l0 x8_1).f0) && (a1_1 == ((rd_T134 l0 x8_1).f1))) := by simpa using c7))
     clear c7
     have H' := am H
     clear H
     obtain ⟨hcz9_0, hcz9_1, hfz9_0, hfz9_1⟩ := cc2 BK392
     obtain ⟨p393, q393, ad393, e393, _, _, hx393_0, hx393_1⟩ := aT_T134 HR0 HB x8_1
     cases e393
     go_wp2
     repeat (go_quiet (fail); try go_wp2)
     go_roundg k1
     case measure => have := HK1.out; omega
     case rel => exact ⟨(wrap64 (x8_1 + 1)), sc, H', kk1, ⟨sk BK392⟩, ⟨sbw⟩⟩
   ·have c4b0 := decide_eq_false c4
    clear c4
    obtain rfl := Option.some.inj H
    go_wp2
    repeat (go_quiet (fail); try go_wp2)
    go_ret
    exact ⟨se, sbw⟩

def impl_Link_155.f (k : Nat) (l0 : List (S134)) (a1_0 : Int) (a1_1 : Int) : Option (Bool) := (impl_Link_179.f k l0 a1_0 a1_1).bind fun t395 => (some (decide (t395 ≥ 0)))
theorem impl_Link_155.mono : ∀ a0 a1 a2 k, LeO (impl_Link_155.f k a0 a1 a2) (impl_Link_155.f (k + 1) a0 a1 a2) := by
  intro a0 a1 a2 k
  unfold impl_Link_155.f
  have m0 := @impl_Link_179.mono
  exact mo
theorem impl_Link_155.calls (k : Nat) (A0 : Option Addr) (c0 : Nat) (l0 : List (S134)) (a1_0 : Int) (a1_1 : Int) (r : Bool) (w : World) (hr0 : Kd.C k134 w A0 l0.length l0) (hc0 : l0.length ≤ c0) (h : impl_Link_155.f k l0 a1_0 a1_1 = some r) :
    Calls Try.prog 155 #[.slice A0 l0.length c0, .agg #[.int .i64 a1_0, .int .i64 a1_1]] w fun e w' => e = .returned (.bool r) ∧ Below w.heap.size w w' := by
 have hu134 := Try.underlying134
 have HR0 := am hr0
 have HC0 := am hc0
 clear hr0 hc0
 have HB := am (Below.refl w.heap.size w)
 have H := h; unfold impl_Link_155.f at H
 clear h
 obtain ⟨t395, A3, H⟩ := bnd H
 obtain rfl := Option.some.inj H
 go_enter Try.func155, Try.ntmps155
 go_wp2_with (first | ((with_reducible refine gd 3 rfl ?_); refine bx 3 #[.int .i64 a1_0, .int .i64 a1_1] 134 ?_; intro gb394 hg w4 hbox hb; have GW394 := bz w hg; have GE394 := bz w hg; replace HB := bs hb; have BK394 := am hbox; clear hb hbox hg; obtain ⟨hcz5_0, hcz5_1, hfz5_0, hfz5_1⟩ := cc2 BK394) | ((with_reducible refine gc 179 rfl ?_); refine gL (some 7) Try.func179 #[.slice A0 l0.length c0, .agg #[.int .i64 a1_0, .int .i64 a1_1]] ?_; (with_reducible refine (impl_Link_179.calls k _ _ l0 a1_0 a1_1 t395 _ ?side1 ?side2 A3.out).mono ?_); (case side1 => exact cb HR0); (case side2 => exact HC0.out); rintro e w6 ⟨rfl, hb⟩; refine ⟨_, rfl, ?_⟩; replace BK394 := bb BK394 hb; replace HB := bsw hb; (try clear hb)))
 go_ret
 exact ⟨se, sbw⟩

def impl_LinksAt.l0 : Nat → Int → List (S134) → List (S137) → Int → Int → Option ((List (S134)))
  | 0, _, _, _, _, _ => none
  | k + 1, x1, x5, x10, x11, x12 => if x12 < x11 then (if 0 ≤ x12 then (if x12 < (x10.length : Int) then ((impl_spanOf.f ((rd_T137 x10 x12).f0) ((rd_T137 x10 x12).f1) ((rd_T137 x10 x12).f2) ((rd_T137 x10 x12).f3)).bind fun bt402 => ((impl_InSpan.f bt402.1 bt402.2 x1).bind fun t404 => (if t404 = true then ((impl_Link_155.f k x5 ((rd_T137 x10 x12).f0) ((rd_T137 x10 x12).f1)).bind fun t405 => (if t405 = true then (impl_LinksAt.l0 k x1 x5 x10 x11 (wrap64 (x12 + 1))) else (if x5.length < 8796093022208 then (impl_LinksAt.l0 k x1 (x5 ++ [(⟨(rd_T137 x10 x12).f0, (rd_T137 x10 x12).f1⟩ : S134)]) x10 x11 (wrap64 (x12 + 1))) else (none)))) else (impl_LinksAt.l0 k x1 x5 x10 x11 (wrap64 (x12 + 1)))))) else (none)) else (none)) else (some x5)
def impl_LinksAt.f (k : Nat) (l0 : List (S137)) (a1 : Int) : Option ((List (S134))) := impl_LinksAt.l0 k a1 (([] : List (S134))) l0 (l0.length : Int) 0
theorem impl_LinksAt.mono_l : ∀ k, (∀ y0 y1 y2 y3 y4, LeO (impl_LinksAt.l0 k y0 y1 y2 y3 y4) (impl_LinksAt.l0 (k + 1) y0 y1 y2 y3 y4))
  | 0 => fun _ _ _ _ _ r h => by simp [impl_LinksAt.l0] at h
  | k + 1 => by
    have ih0 := impl_LinksAt.mono_l k
    · intro y0 y1 y2 y3 y4
      unfold impl_LinksAt.l0
      have m0 := @impl_Link_155.mono
      exact mo
theorem impl_LinksAt.mono : ∀ a0 a1 k, LeO (impl_LinksAt.f k a0 a1) (impl_LinksAt.f (k + 1) a0 a1) := by
  intro a0 a1 k
  have ih0 := impl_LinksAt.mono_l k
  unfold impl_LinksAt.f
  have m0 := @impl_Link_155.mono
  exact mo
theorem impl_LinksAt.calls (k : Nat) (A0 : Option Addr) (c0 : Nat) (l0 : List (S137)) (a1 : Int) (r : List (S134)) (w : World) (hr0 : Kd.C k137 w A0 l0.length l0) (hc0 : l0.length ≤ c0) (h : impl_LinksAt.f k l0 a1 = some r) :
    Calls Try.prog 112 #[.slice A0 l0.length c0, .int .i64 a1] w fun e w' => ∃ v0_ : Value, e = .returned (v0_) ∧ Kd.R k134 134 w' w.heap.size (fun _ => True) v0_ r ∧ Below w.heap.size w w' := by
 have hu137 := Try.underlying137
 have hu134 := Try.underlying134
 have HR0 := am hr0
 have HC0 := am hc0
 clear hr0 hc0
 have HB := am (Below.refl w.heap.size w)
 have H := h; unfold impl_LinksAt.f at H
 clear h
 obtain ⟨y396, hy396⟩ : ∃ y_ : List (S134), y_ = (([] : List (S134))) := ⟨_, rfl⟩
 replace H : (impl_LinksAt.l0 k a1 y396 l0 (l0.length : Int) 0) = some r := ry hy396 H
 have Ny396 := am hy396
 clear hy396
 have H' := am H
 clear H
 go_enter Try.func112, Try.ntmps112
 go_wp2_with (first | ((with_reducible refine gd 9 rfl ?_); refine Kd.R_lit k134 _ 134 ?hg (N := 9) ?hd (xs := ([] : List (S134))) (inner := []) (ok := fun _ => True) (okp := fun _ => True) ?hr ?hp (fun _ hk => hk) trivial (Below.refl _ _) (Nat.le_refl _) (by simp) ?_; (case hd => rfl); (case hg => rfl); (case hr => first | (go_simp; done) | (go_simp; rfl)); (case hp => exact (Reps.none _ _)); intro v397 w3 ho4 hb hg_ hnew_; clear hg_ hnew_; (first | rw [← Ny396.out] at ho4 | (simp only [Int.reduceToNat] at ho4; rw [← Ny396.out] at ho4)); have HO398 := am (Kd.R_lower ho4 (below_size (sb))); replace HB := bs hb; clear hb ho4))
 go_loopg [5, 12] k (fun kq v5 v12 w' => ∃ (x5_1 : List (S134)) (x12_1 : Int), v12 = .int .i64 x12_1 ∧ Aside0 (impl_LinksAt.l0 kq a1 x5_1 l0 (l0.length : Int) x12_1 = some r) ∧ Aside0 (kq ≤ k) ∧ Aside0 (Kd.R k134 134 w' w.heap.size (fun _ => True) v5 x5_1) ∧ Aside0 (Below w.heap.size w w'))
 case atStart => exact ⟨(y396), (0), sc, H', kk0, ⟨sr HO398⟩, ⟨sb⟩⟩
 case round =>
  clear H'
  obtain ⟨x5_1, x12_1, rfl, HA, HK1, HO_5, HB⟩ := hrel
  cases gk with
  | zero => exact absurd HA.out (by simp [impl_LinksAt.l0])
  | succ k1 =>
   have H := HA.out
   clear HA
   simp only [impl_LinksAt.l0] at H
   obtain ⟨c5, H⟩ | ⟨c5, H⟩ := ie_ H
   ·have c5b0 := decide_eq_true c5
    clear c5
    obtain ⟨c6b0, H⟩ := id_ H
    obtain ⟨c7b0, H⟩ := id_ H
    obtain ⟨⟨t402, t403⟩, A8, H⟩ := bnd H
    dsimp only at H
    obtain ⟨t404, A9, H⟩ := bnd H
    obtain rfl | rfl := tt t404
    ·replace H := ip H
     obtain ⟨t405, A11, H⟩ := bnd H
     obtain rfl | rfl := tt t405
     ·replace H := ip H
      have H' := am H
      clear H
      obtain ⟨p399, q399, ad399, e399, _, _, _, _, hx399_0, hx399_1, hx399_2, hx399_3⟩ := aT_T137 HR0 HB x12_1
      cases e399
      go_wp2_with (first | ((with_reducible refine gd 7 rfl ?_); refine bx 7 #[.int .i64 0, .int .i64 0, .int .i64 0, .int .i64 0] 137 ?_; intro gb400 hg w13 hbox hb; replace HO_5 := rb HO_5 hb; have GW400 := bz w hg; have GE400 := bz w hg; replace HB := bs hb; have BK400 := am hbox; clear hb hbox hg; obtain ⟨hcz14_0, hcz14_1, hcz14_2, hcz14_3, hfz14_0, hfz14_1, hfz14_2, hfz14_3⟩ := cc4 BK400) | ((with_reducible refine gd 8 rfl ?_); refine bx 8 #[.int .i64 0, .int .i64 0] 134 ?_; intro gb401 hg w15 hbox hb; replace HO_5 := am (Kd.R_below (Kd.R_elderB (by (with_reducible repeat (first | apply Kd.R_alloc | apply Kd.R_drewN | apply Kd.R_drew)); exact (Kd.R_mono (Kd.R_far (p := ⟨gb400, 3, none⟩) (Kd.R_far (p := ⟨gb400, 2, none⟩) (Kd.R_far (p := ⟨gb400, 1, none⟩) (Kd.R_far (p := ⟨gb400, 0, none⟩) (Kd.R_types HO_5.out BK400.out (by decide)) (fun _ hk => hk.2) (.int .i64 ((rd_T137 l0 x12_1).f0))) (fun _ hk => hk.2) (.int .i64 ((rd_T137 l0 x12_1).f1))) (fun _ hk => hk.2) (.int .i64 ((rd_T137 l0 x12_1).f2))) (fun _ hk => hk.2) (.int .i64 ((rd_T137 l0 x12_1).f3))) (fun _ h_ => h_.1))) gb401 (Nat.le_of_eq hg.symm)) hb); have GW401 := bzw w hg; have GE401 := bzw w hg; replace HB := bsw hb; have BK401 := am hbox; have NB400_401 := am ((by rw [hg]; exact Nat.ne_of_lt (blk_lt (g := gb400) (o := .cells #[.int .i64 ((rd_T137 l0 x12_1).f0), .int .i64 ((rd_T137 l0 x12_1).f1), .int .i64 ((rd_T137 l0 x12_1).f2), .int .i64 ((rd_T137 l0 x12_1).f3)] 137 (0, 0)) (sp BK400)) : gb400 ≠ gb401)); have NB401_400 := am ((by rw [hg]; exact Nat.ne_of_gt (blk_lt (g := gb400) (o := .cells #[.int .i64 ((rd_T137 l0 x12_1).f0), .int .i64 ((rd_T137 l0 x12_1).f1), .int .i64 ((rd_T137 l0 x12_1).f2), .int .i64 ((rd_T137 l0 x12_1).f3)] 137 (0, 0)) (sp BK400)) : gb401 ≠ gb400)); replace BK400 := am (blk_below (g := gb400) (o := .cells #[.int .i64 ((rd_T137 l0 x12_1).f0), .int .i64 ((rd_T137 l0 x12_1).f1), .int .i64 ((rd_T137 l0 x12_1).f2), .int .i64 ((rd_T137 l0 x12_1).f3)] 137 (0, 0)) (sp BK400) hb); clear hb hbox hg; have hnb16 := NB401_400.out; have hnc16 := NB400_401.out; obtain ⟨hcz17_0, hcz17_1, hfz17_0, hfz17_1⟩ := cc2 BK401; obtain ⟨hcz18_0, hcz18_1, hcz18_2, hcz18_3, hfz18_0, hfz18_1, hfz18_2, hfz18_3⟩ := cc4 BK400) | ((with_reducible refine gc 119 rfl ?_); refine gL (some 22) Try.func119 #[.agg #[.int .i64 ((rd_T137 l0 x12_1).f0), .int .i64 ((rd_T137 l0 x12_1).f1), .int .i64 ((rd_T137 l0 x12_1).f2), .int .i64 ((rd_T137 l0 x12_1).f3)]] ?_; (with_reducible refine (impl_spanOf.calls ((rd_T137 l0 x12_1).f0) ((rd_T137 l0 x12_1).f1) ((rd_T137 l0 x12_1).f2) ((rd_T137 l0 x12_1).f3) t402 t403 _ A8.out).mono ?_); rintro e w19 ⟨rfl, hb⟩; refine ⟨_, rfl, ?_⟩; replace HO_5 := am (Kd.R_below (by (with_reducible repeat (first | apply Kd.R_alloc | apply Kd.R_drewN | apply Kd.R_drew)); exact (Kd.R_mono (Kd.R_far (p := ⟨gb401, 1, none⟩) (Kd.R_far (p := ⟨gb401, 0, none⟩) (Kd.R_mono HO_5.out (fun k_ hk => (⟨hk, hk.2⟩ : _ ∧ k_ ≠ gb401))) (fun _ hk => hk.2) (.int .i64 ((rd_T137 l0 x12_1).f0))) (fun _ hk => hk.2) (.int .i64 ((rd_T137 l0 x12_1).f1))) (fun _ h_ => h_.1))) hb); replace BK400 := am (blk_below (g := gb400) (o := .cells #[.int .i64 ((rd_T137 l0 x12_1).f0), .int .i64 ((rd_T137 l0 x12_1).f1), .int .i64 ((rd_T137 l0 x12_1).f2), .int .i64 ((rd_T137 l0 x12_1).f3)] 137 (0, 0)) (sp BK400) hb); replace BK401 := am (blk_below (g := gb401) (o := .cells #[.int .i64 ((rd_T137 l0 x12_1).f0), .int .i64 ((rd_T137 l0 x12_1).f1)] 134 (0, 0)) (sp BK401) hb); replace HB := bsw hb; (try clear hb); (try clear hk)) | ((with_reducible refine gc 93 rfl ?_); refine gL (some 24) Try.func93 #[.agg #[.int .i64 t402, .int .i64 t403], .int .i64 a1] ?_; (with_reducible refine (impl_InSpan.calls t402 t403 a1 true _ A9.out).mono ?_); rintro e w20 ⟨rfl, hb⟩; refine ⟨_, rfl, ?_⟩; replace HO_5 := rb HO_5 hb; replace BK400 := bb BK400 hb; replace BK401 := bb BK401 hb; replace HB := bsw hb; (try clear hb); (try clear hk); obtain ⟨hcz21_0, hcz21_1, hfz21_0, hfz21_1⟩ := cc2 BK401; obtain ⟨Ao22, co22, eo22⟩ := Kd.R_slice HO_5.out; subst eo22) | (go_at_call 155; (with_reducible refine (impl_Link_155.calls k1 _ _ x5_1 ((rd_T137 l0 x12_1).f0) ((rd_T137 l0 x12_1).f1) true _ ?side1 ?side2 A11.out).mono ?_); (case side1 => exact cr HO_5); (case side2 => exact (Kd.R_reads' HO_5.out).2.1); rintro e w23 ⟨rfl, hb⟩; replace HO_5 := rb HO_5 hb; replace BK400 := bb BK400 hb; replace BK401 := bb BK401 hb; replace HB := bsw hb; (try clear hb); (try clear hk)))
      go_roundg k1
      case measure => have := HK1.out; omega
      case rel => exact ⟨(x5_1), (wrap64 (x12_1 + 1)), sc, H', kk1, ⟨by (with_reducible repeat (first | apply Kd.R_alloc | apply Kd.R_drewN | apply Kd.R_drew)); exact Kd.R_mono HO_5.out (fun _ hk => trivial)⟩, ⟨sbw⟩⟩
     ·replace H := im H
      obtain ⟨LMc24, H⟩ := il_ H
      obtain ⟨y406, hy406⟩ : ∃ y_ : List (S134), y_ = (x5_1 ++ [(⟨(rd_T137 l0 x12_1).f0, (rd_T137 l0 x12_1).f1⟩ : S134)]) := ⟨_, rfl⟩
      replace H : (impl_LinksAt.l0 k1 a1 y406 l0 (l0.length : Int) (wrap64 (x12_1 + 1))) = some r := ry hy406 H
      have Ny406 := am hy406
      clear hy406
      have H' := am H
      clear H
      obtain ⟨p399, q399, ad399, e399, _, _, _, _, hx399_0, hx399_1, hx399_2, hx399_3⟩ := aT_T137 HR0 HB x12_1
      cases e399
      go_wp2_with (first | ((with_reducible refine gd 7 rfl ?_); refine bx 7 #[.int .i64 0, .int .i64 0, .int .i64 0, .int .i64 0] 137 ?_; intro gb400 hg w25 hbox hb; replace HO_5 := rb HO_5 hb; have GW400 := bz w hg; have GE400 := bz w hg; replace HB := bs hb; have BK400 := am hbox; clear hb hbox hg; obtain ⟨hcz26_0, hcz26_1, hcz26_2, hcz26_3, hfz26_0, hfz26_1, hfz26_2, hfz26_3⟩ := cc4 BK400) | ((with_reducible refine gd 8 rfl ?_); refine bx 8 #[.int .i64 0, .int .i64 0] 134 ?_; intro gb401 hg w27 hbox hb; replace HO_5 := am (Kd.R_below (Kd.R_elderB (by (with_reducible repeat (first | apply Kd.R_alloc | apply Kd.R_drewN | apply Kd.R_drew)); exact (Kd.R_mono (Kd.R_far (p := ⟨gb400, 3, none⟩) (Kd.R_far (p := ⟨gb400, 2, none⟩) (Kd.R_far (p := ⟨gb400, 1, none⟩) (Kd.R_far (p := ⟨gb400, 0, none⟩) (Kd.R_types HO_5.out BK400.out (by decide)) (fun _ hk => hk.2) (.int .i64 ((rd_T137 l0 x12_1).f0))) (fun _ hk => hk.2) (.int .i64 ((rd_T137 l0 x12_1).f1))) (fun _ hk => hk.2) (.int .i64 ((rd_T137 l0 x12_1).f2))) (fun _ hk => hk.2) (.int .i64 ((rd_T137 l0 x12_1).f3))) (fun _ h_ => h_.1))) gb401 (Nat.le_of_eq hg.symm)) hb); have GW401 := bzw w hg; have GE401 := bzw w hg; replace HB := bsw hb; have BK401 := am hbox; have NB400_401 := am ((by rw [hg]; exact Nat.ne_of_lt (blk_lt (g := gb400) (o := .cells #[.int .i64 ((rd_T137 l0 x12_1).f0), .int .i64 ((rd_T137 l0 x12_1).f1), .int .i64 ((rd_T137 l0 x12_1).f2), .int .i64 ((rd_T137 l0 x12_1).f3)] 137 (0, 0)) (sp BK400)) : gb400 ≠ gb401)); have NB401_400 := am ((by rw [hg]; exact Nat.ne_of_gt (blk_lt (g := gb400) (o := .cells #[.int .i64 ((rd_T137 l0 x12_1).f0), .int .i64 ((rd_T137 l0 x12_1).f1), .int .i64 ((rd_T137 l0 x12_1).f2), .int .i64 ((rd_T137 l0 x12_1).f3)] 137 (0, 0)) (sp BK400)) : gb401 ≠ gb400)); replace BK400 := am (blk_below (g := gb400) (o := .cells #[.int .i64 ((rd_T137 l0 x12_1).f0), .int .i64 ((rd_T137 l0 x12_1).f1), .int .i64 ((rd_T137 l0 x12_1).f2), .int .i64 ((rd_T137 l0 x12_1).f3)] 137 (0, 0)) (sp BK400) hb); clear hb hbox hg; have hnb28 := NB401_400.out; have hnc28 := NB400_401.out; obtain ⟨hcz29_0, hcz29_1, hfz29_0, hfz29_1⟩ := cc2 BK401; obtain ⟨hcz30_0, hcz30_1, hcz30_2, hcz30_3, hfz30_0, hfz30_1, hfz30_2, hfz30_3⟩ := cc4 BK400) | ((with_reducible refine gc 119 rfl ?_); refine gL (some 22) Try.func119 #[.agg #[.int .i64 ((rd_T137 l0 x12_1).f0), .int .i64 ((rd_T137 l0 x12_1).f1), .int .i64 ((rd_T137 l0 x12_1).f2), .int .i64 ((rd_T137 l0 x12_1).f3)]] ?_; (with_reducible refine (impl_spanOf.calls ((rd_T137 l0 x12_1).f0) ((rd_T137 l0 x12_1).f1) ((rd_T137 l0 x12_1).f2) ((rd_T137 l0 x12_1).f3) t402 t403 _ A8.out).mono ?_); rintro e w31 ⟨rfl, hb⟩; refine ⟨_, rfl, ?_⟩; replace HO_5 := am (Kd.R_below (by (with_reducible repeat (first | apply Kd.R_alloc | apply Kd.R_drewN | apply Kd.R_drew)); exact (Kd.R_mono (Kd.R_far (p := ⟨gb401, 1, none⟩) (Kd.R_far (p := ⟨gb401, 0, none⟩) (Kd.R_mono HO_5.out (fun k_ hk => (⟨hk, hk.2⟩ : _ ∧ k_ ≠ gb401))) (fun _ hk => hk.2) (.int .i64 ((rd_T137 l0 x12_1).f0))) (fun _ hk => hk.2) (.int .i64 ((rd_T137 l0 x12_1).f1))) (fun _ h_ => h_.1))) hb); replace BK400 := am (blk_below (g := gb400) (o := .cells #[.int .i64 ((rd_T137 l0 x12_1).f0), .int .i64 ((rd_T137 l0 x12_1).f1), .int .i64 ((rd_T137 l0 x12_1).f2), .int .i64 ((rd_T137 l0 x12_1).f3)] 137 (0, 0)) (sp BK400) hb); replace BK401 := am (blk_below (g := gb401) (o := .cells #[.int .i64 ((rd_T137 l0 x12_1).f0), .int .i64 ((rd_T137 l0 x12_1).f1)] 134 (0, 0)) (sp BK401) hb); replace HB := bsw hb; (try clear hb); (try clear hk)) | ((with_reducible refine gc 93 rfl ?_); refine gL (some 24) Try.func93 #[.agg #[.int .i64 t402, .int .i64 t403], .int .i64 a1] ?_; (with_reducible refine (impl_InSpan.calls t402 t403 a1 true _ A9.out).mono ?_); rintro e w32 ⟨rfl, hb⟩; refine ⟨_, rfl, ?_⟩; replace HO_5 := rb HO_5 hb; replace BK400 := bb BK400 hb; replace BK401 := bb BK401 hb; replace HB := bsw hb; (try clear hb); (try clear hk); obtain ⟨hcz33_0, hcz33_1, hfz33_0, hfz33_1⟩ := cc2 BK401; obtain ⟨Ao34, co34, eo34⟩ := Kd.R_slice HO_5.out; subst eo34) | (go_at_call 155; (with_reducible refine (impl_Link_155.calls k1 _ _ x5_1 ((rd_T137 l0 x12_1).f0) ((rd_T137 l0 x12_1).f1) false _ ?side1 ?side2 A11.out).mono ?_); (case side1 => exact cr HO_5); (case side2 => exact (Kd.R_reads' HO_5.out).2.1); rintro e w35 ⟨rfl, hb⟩; replace HO_5 := rb HO_5 hb; replace BK400 := bb BK400 hb; replace BK401 := bb BK401 hb; replace HB := bsw hb; (try clear hb); (try clear hk); obtain ⟨hcz36_0, hcz36_1, hfz36_0, hfz36_1⟩ := cc2 BK401) | ((with_reducible refine gate_builtin (b := .append) (xs := #[.tmp 31, .tmp 33]) rfl ?_); at_builtin; refine Kd.R_append k134 (w0 := w) w.heap.size rfl (.tmp 31) (.tmp 33) 74 134 (.agg #[(.int .i64 0), (.int .i64 0)]) 16 rfl Try.underlying74 info134 rfl (by decide) (by omega) (.slice Ao34 x5_1.length co34) x5_1 (⟨(rd_T137 l0 x12_1).f0, (rd_T137 l0 x12_1).f1⟩ : S134) [.int .i64 ((rd_T137 l0 x12_1).f0), .int .i64 ((rd_T137 l0 x12_1).f1)] (fun k_ => k_ ≠ gb401) (fun _ => False) rfl rfl ?aP (fun _ hk => hk.elim) ?aF ?aO ?aB ?aS ?aL ?_; (case aP => exact k134_mkM _ _ _ (⟨(rd_T137 l0 x12_1).f0, (rd_T137 l0 x12_1).f1⟩ : S134)); (case aB => exact (sbw)); (case aF => exact (fun k_ hk => Kd.freshB (g := gb401) (o := .cells #[.int .i64 ((rd_T137 l0 x12_1).f0), .int .i64 ((rd_T137 l0 x12_1).f1)] 134 (0, 0)) (sk BK401) k_ hk)); (case aO => exact (by (with_reducible repeat (first | apply Kd.R_alloc | apply Kd.R_drewN | apply Kd.R_drew)); exact Kd.R_mono HO_5.out (fun _ hk => hk.2))); (case aS => exact (below_size (sbw))); (case aL => have := LMc24.out; omega); intro v407 w37 ho hb hg hat; rw [← Ny406.out] at ho; replace BK400 := am (blk_grown (g := gb400) (o := .cells #[.int .i64 ((rd_T137 l0 x12_1).f0), .int .i64 ((rd_T137 l0 x12_1).f1), .int .i64 ((rd_T137 l0 x12_1).f2), .int .i64 ((rd_T137 l0 x12_1).f3)] 137 (0, 0)) (sk BK400) hg (Kd.R_ne HO_5.out BK400.out (by decide))); replace BK401 := am (blk_grown (g := gb401) (o := .cells #[.int .i64 ((rd_T137 l0 x12_1).f0), .int .i64 ((rd_T137 l0 x12_1).f1)] 134 (0, 0)) (sk BK401) hg (Kd.R_away HO_5.out (fun _ hk => hk.2))); replace HB := am hb; have HO408 := am ho; clear HO_5; clear ho hb hg hat))
      go_roundg k1
      case measure => have := HK1.out; omega
      case rel => exact ⟨(y406), (wrap64 (x12_1 + 1)), sc, H', kk1, ⟨by (with_reducible repeat (first | apply Kd.R_alloc | apply Kd.R_drewN | apply Kd.R_drew)); exact Kd.R_mono HO408.out (fun _ hk => trivial)⟩, ⟨sbw⟩⟩
    ·replace H := im H
     have H' := am H
     clear H
     obtain ⟨p399, q399, ad399, e399, _, _, _, _, hx399_0, hx399_1, hx399_2, hx399_3⟩ := aT_T137 HR0 HB x12_1
     cases e399
     go_wp2_with (first | ((with_reducible refine gd 7 rfl ?_); refine bx 7 #[.int .i64 0, .int .i64 0, .int .i64 0, .int .i64 0] 137 ?_; intro gb400 hg w38 hbox hb; replace HO_5 := rb HO_5 hb; have GW400 := bz w hg; have GE400 := bz w hg; replace HB := bs hb; have BK400 := am hbox; clear hb hbox hg; obtain ⟨hcz39_0, hcz39_1, hcz39_2, hcz39_3, hfz39_0, hfz39_1, hfz39_2, hfz39_3⟩ := cc4 BK400) | ((with_reducible refine gd 8 rfl ?_); refine bx 8 #[.int .i64 0, .int .i64 0] 134 ?_; intro gb401 hg w40 hbox hb; replace HO_5 := am (Kd.R_below (Kd.R_elderB (by (with_reducible repeat (first | apply Kd.R_alloc | apply Kd.R_drewN | apply Kd.R_drew)); exact (Kd.R_mono (Kd.R_far (p := ⟨gb400, 3, none⟩) (Kd.R_far (p := ⟨gb400, 2, none⟩) (Kd.R_far (p := ⟨gb400, 1, none⟩) (Kd.R_far (p := ⟨gb400, 0, none⟩) (Kd.R_types HO_5.out BK400.out (by decide)) (fun _ hk => hk.2) (.int .i64 ((rd_T137 l0 x12_1).f0))) (fun _ hk => hk.2) (.int .i64 ((rd_T137 l0 x12_1).f1))) (fun _ hk => hk.2) (.int .i64 ((rd_T137 l0 x12_1).f2))) (fun _ hk => hk.2) (.int .i64 ((rd_T137 l0 x12_1).f3))) (fun _ h_ => h_.1))) gb401 (Nat.le_of_eq hg.symm)) hb); have GW401 := bzw w hg; have GE401 := bzw w hg; replace HB := bsw hb; have BK401 := am hbox; have NB400_401 := am ((by rw [hg]; exact Nat.ne_of_lt (blk_lt (g := gb400) (o := .cells #[.int .i64 ((rd_T137 l0 x12_1).f0), .int .i64 ((rd_T137 l0 x12_1).f1), .int .i64 ((rd_T137 l0 x12_1).f2), .int .i64 ((rd_T137 l0 x12_1).f3)] 137 (0, 0)) (sp BK400)) : gb400 ≠ gb401)); have NB401_400 := am ((by rw [hg]; exact Nat.ne_of_gt (blk_lt (g := gb400) (o := .cells #[.int .i64 ((rd_T137 l0 x12_1).f0), .int .i64 ((rd_T137 l0 x12_1).f1), .int .i64 ((rd_T137 l0 x12_1).f2), .int .i64 ((rd_T137 l0 x12_1).f3)] 137 (0, 0)) (sp BK400)) : gb401 ≠ gb400)); replace BK400 := am (blk_below (g := gb400) (o := .cells #[.int .i64 ((rd_T137 l0 x12_1).f0), .int .i64 ((rd_T137 l0 x12_1).f1), .int .i64 ((rd_T137 l0 x12_1).f2), .int .i64 ((rd_T137 l0 x12_1).f3)] 137 (0, 0)) (sp BK400) hb); clear hb hbox hg; have hnb41 := NB401_400.out; have hnc41 := NB400_401.out; obtain ⟨hcz42_0, hcz42_1, hfz42_0, hfz42_1⟩ := cc2 BK401; obtain ⟨hcz43_0, hcz43_1, hcz43_2, hcz43_3, hfz43_0, hfz43_1, hfz43_2, hfz43_3⟩ := cc4 BK400) | ((with_reducible refine gc 119 rfl ?_); refine gL (some 22) Try.func119 #[.agg #[.int .i64 ((rd_T137 l0 x12_1).f0), .int .i64 ((rd_T137 l0 x12_1).f1), .int .i64 ((rd_T137 l0 x12_1).f2), .int .i64 ((rd_T137 l0 x12_1).f3)]] ?_; (with_reducible refine (impl_spanOf.calls ((rd_T137 l0 x12_1).f0) ((rd_T137 l0 x12_1).f1) ((rd_T137 l0 x12_1).f2) ((rd_T137 l0 x12_1).f3) t402 t403 _ A8.out).mono ?_); rintro e w44 ⟨rfl, hb⟩; refine ⟨_, rfl, ?_⟩; replace HO_5 := am (Kd.R_below (by (with_reducible repeat (first | apply Kd.R_alloc | apply Kd.R_drewN | apply Kd.R_drew)); exact (Kd.R_mono (Kd.R_far (p := ⟨gb401, 1, none⟩) (Kd.R_far (p := ⟨gb401, 0, none⟩) (Kd.R_mono HO_5.out (fun k_ hk => (⟨hk, hk.2⟩ : _ ∧ k_ ≠ gb401))) (fun _ hk => hk.2) (.int .i64 ((rd_T137 l0 x12_1).f0))) (fun _ hk => hk.2) (.int .i64 ((rd_T137 l0 x12_1).f1))) (fun _ h_ => h_.1))) hb); replace BK400 := am (blk_below (g := gb400) (o := .cells #[.int .i64 ((rd_T137 l0 x12_1).f0), .int .i64 ((rd_T137 l0 x12_1).f1), .int .i64 ((rd_T137 l0 x12_1).f2), .int .i64 ((rd_T137 l0 x12_1).f3)] 137 (0, 0)) (sp BK400) hb); replace BK401 := am (blk_below (g := gb401) (o := .cells #[.int .i64 ((rd_T137 l0 x12_1).f0), .int .i64 ((rd_T137 l0 x12_1).f1)] 134 (0, 0)) (sp BK401) hb); replace HB := bsw hb; (try clear hb); (try clear hk)) | ((with_reducible refine gc 93 rfl ?_); refine gL (some 24) Try.func93 #[.agg #[.int .i64 t402, .int .i64 t403], .int .i64 a1] ?_; (with_reducible refine (impl_InSpan.calls t402 t403 a1 false _ A9.out).mono ?_); rintro e w45 ⟨rfl, hb⟩; refine ⟨_, rfl, ?_⟩; replace HO_5 := rb HO_5 hb; replace BK400 := bb BK400 hb; replace BK401 := bb BK401 hb; replace HB := bsw hb; (try clear hb); (try clear hk)))
     go_roundg k1
     case measure => have := HK1.out; omega
     case rel => exact ⟨(x5_1), (wrap64 (x12_1 + 1)), sc, H', kk1, ⟨by (with_reducible repeat (first | apply Kd.R_alloc | apply Kd.R_drewN | apply Kd.R_drew)); exact Kd.R_mono HO_5.out (fun _ hk => trivial)⟩, ⟨sbw⟩⟩
   ·have c5b0 := decide_eq_false c5
    clear c5
    obtain rfl := Option.some.inj H
    go_wp2
    go_ret
    exact ⟨_, se, sr HO_5, sb⟩

def impl_Link_206.l0 : Nat → List (S134) → List (S134) → Int → Int → Option (Bool)
  | 0, _, _, _, _ => none
  | k + 1, x0, x1, x12, x13 => if x13 < x12 then (if 0 ≤ x13 then (if x13 < (x0.length : Int) then (if x13 < (x1.length : Int) then (if (!(((rd_T134 x0 x13).f0) == ((rd_T134 x1 x13).f0)) || (!(((rd_T134 x0 x13).f1) == ((rd_T134 x1 x13).f1)))) = true then (some false) else (impl_Link_206.l0 k x0 x1 x12 (wrap64 (x13 + 1)))) else (none)) else (none)) else (none)) else (some true)
def impl_Link_206.f (k : Nat) (l0 : List (S134)) (l1 : List (S134)) : Option (Bool) := if (l0.length : Int) = (l1.length : Int) then (impl_Link_206.l0 k l0 l1 (l0.length : Int) 0) else (some false)
theorem impl_Link_206.mono_l : ∀ k, (∀ y0 y1 y2 y3, LeO (impl_Link_206.l0 k y0 y1 y2 y3) (impl_Link_206.l0 (k + 1) y0 y1 y2 y3))
  | 0 => fun _ _ _ _ r h => by simp [impl_Link_206.l0] at h
  | k + 1 => by
    have ih0 := impl_Link_206.mono_l k
    · intro y0 y1 y2 y3
      unfold impl_Link_206.l0
      exact mo
theorem impl_Link_206.mono : ∀ a0 a1 k, LeO (impl_Link_206.f k a0 a1) (impl_Link_206.f (k + 1) a0 a1) := by
  intro a0 a1 k
  have ih0 := impl_Link_206.mono_l k
  unfold impl_Link_206.f
  exact mo
theorem impl_Link_206.calls (k : Nat) (A0 : Option Addr) (c0 : Nat) (l0 : List (S134)) (A1 : Option Addr) (c1 : Nat) (l1 : List (S134)) (r : Bool) (w : World) (hr0 : Kd.C k134 w A0 l0.length l0) (hc0 : l0.length ≤ c0) (hr1 : Kd.C k134 w A1 l1.length l1) (hc1 : l1.length ≤ c1) (h : impl_Link_206.f k l0 l1 = some r) :
    Calls Try.prog 206 #[.slice A0 l0.length c0, .slice A1 l1.length c1] w fun e w' => e = .returned (.bool r) ∧ Drawn0 w w' := by
 have hu134 := Try.underlying134
 have HR0 := am hr0
 have HC0 := am hc0
 clear hr0 hc0
 have HR1 := am hr1
 have HC1 := am hc1
 clear hr1 hc1
 have H := h; unfold impl_Link_206.f at H
 clear h
 obtain ⟨c3, H⟩ | ⟨c3, H⟩ := ie_ H
 ·have c3b0 : ((l0.length : Int) == (l1.length : Int)) = true := beq_iff_eq.mpr c3
  have c3b1 : ((l0.length : Int) != (l1.length : Int)) = false := bne_eq_false_iff_eq.mpr c3
  have c3b2 : (l0.length == l1.length) = true := by first | simpa using c3 | (simp at c3 ⊢; omega)
  clear c3
  have H' := am H
  clear H
  go_enter Try.func206, Try.ntmps206
  go_wp2
  repeat (go_quiet (fail); try go_wp2)
  go_loopg [13] k (fun kq v13 w' => ∃ (x13_1 : Int), v13 = .int .i64 x13_1 ∧ Aside0 (impl_Link_206.l0 kq l0 l1 (l0.length : Int) x13_1 = some r) ∧ Aside0 (kq ≤ k) ∧ Drawn0 w w')
  case atStart => exact ⟨(0), sc, H', kk0, sd⟩
  case round =>
   clear H'
   try clear c3
   try clear c3b0
   try clear c3b1
   try clear c3b2
   obtain ⟨x13_1, rfl, HA, HK1, ⟨m1, rfl⟩⟩ := hrel
   cases gk with
   | zero => exact absurd HA.out (by simp [impl_Link_206.l0])
   | succ k1 =>
    have H := HA.out
    clear HA
    simp only [impl_Link_206.l0] at H
    obtain ⟨c4, H⟩ | ⟨c4, H⟩ := ie_ H
    ·have c4b0 := decide_eq_true c4
     clear c4
     obtain ⟨c5b0, H⟩ := id_ H
     obtain ⟨c6b0, H⟩ := id_ H
     obtain ⟨c7b0, H⟩ := id_ H
     obtain ⟨c8, H⟩ | ⟨c8, H⟩ := ie_ H
     ·have c8b0 : (!(((rd_T134 l0 x13_1).f0) == ((rd_T134 l1 x13_1).f0)) || (!(((rd_T134 l0 x13_1).f1) == ((rd_T134 l1 x13_1).f1)))) = true := c8
      clear c8
      obtain rfl := Option.some.inj H
      have p409 : 0 ≤ (x13_1 : Int) := sa
      have q409 : x13_1 < (l0.length : Int) := sa
      obtain ⟨ad409, e409, hx409_0, hx409_1⟩ := at_T134 HR0.out x13_1 p409 q409
      cases e409
      replace p409 := eq_true p409
      replace q409 := eq_true q409
      have p410 : 0 ≤ (x13_1 : Int) := sa
      have q410 : x13_1 < (l1.length : Int) := sa
      obtain ⟨ad410, e410, hx410_0, hx410_1⟩ := at_T134 HR1.out x13_1 p410 q410
      cases e410
      replace p410 := eq_true p410
      replace q410 := eq_true q410
      go_wp2
      repeat (go_quiet (fail); try go_wp2)
      go_ret
      exact ⟨sc, sd⟩
     ·have c8b0 : (!(((rd_T134 l0 x13_1).f0) == ((rd_T134 l1 x13_1).f0)) || (!(((rd_T134 l0 x13_1).f1) == ((rd_T134 l1 x13_1).f1)))) = false := by simpa using c8
      clear c8
      have H' := am H
      clear H
      have p409 : 0 ≤ (x13_1 : Int) := sa
      have q409 : x13_1 < (l0.length : Int) := sa
      obtain ⟨ad409, e409, hx409_0, hx409_1⟩ := at_T134 HR0.out x13_1 p409 q409
      cases e409
      replace p409 := eq_true p409
      replace q409 := eq_true q409
      have p410 : 0 ≤ (x13_1 : Int) := sa
      have q410 : x13_1 < (l1.length : Int) := sa
      obtain ⟨ad410, e410, hx410_0, hx410_1⟩ := at_T134 HR1.out x13_1 p410 q410
      cases e410
      replace p410 := eq_true p410
      replace q410 := eq_true q410
      go_wp2
      repeat (go_quiet (fail); try go_wp2)
      go_roundg k1
      case measure => have := HK1.out; omega
      case rel => exact ⟨(wrap64 (x13_1 + 1)), sc, H', kk1, sd⟩
    ·have c4b0 := decide_eq_false c4
     clear c4
     obtain rfl := Option.some.inj H
     go_wp2
     repeat (go_quiet (fail); try go_wp2)
     go_ret
     exact ⟨sc, sd⟩
 ·have c3b0 : ((l0.length : Int) == (l1.length : Int)) = false := beq_eq_false_iff_ne.mpr c3
  have c3b1 : ((l0.length : Int) != (l1.length : Int)) = true := bne_iff_ne.mpr c3
  have c3b2 : (l0.length == l1.length) = false := by first | simpa using c3 | (simp at c3 ⊢; omega)
  obtain rfl := Option.some.inj H
  go_enter Try.func206, Try.ntmps206
  go_wp2
  repeat (go_quiet (fail); try go_wp2)
  go_ret
  exact ⟨sc, sd⟩

def impl_SameLinks.f (k : Nat) (l0 : List (S134)) (l1 : List (S134)) : Option (Bool) := (impl_Link_206.f k l0 l1).bind fun t411 => (some t411)
theorem impl_SameLinks.mono : ∀ a0 a1 k, LeO (impl_SameLinks.f k a0 a1) (impl_SameLinks.f (k + 1) a0 a1) := by
  intro a0 a1 k
  unfold impl_SameLinks.f
  have m0 := @impl_Link_206.mono
  exact mo
theorem impl_SameLinks.calls (k : Nat) (A0 : Option Addr) (c0 : Nat) (l0 : List (S134)) (A1 : Option Addr) (c1 : Nat) (l1 : List (S134)) (r : Bool) (w : World) (hr0 : Kd.C k134 w A0 l0.length l0) (hc0 : l0.length ≤ c0) (hr1 : Kd.C k134 w A1 l1.length l1) (hc1 : l1.length ≤ c1) (h : impl_SameLinks.f k l0 l1 = some r) :
    Calls Try.prog 178 #[.slice A0 l0.length c0, .slice A1 l1.length c1] w fun e w' => e = .returned (.bool r) ∧ Drawn0 w w' := by
 have HR0 := am hr0
 have HC0 := am hc0
 clear hr0 hc0
 have HR1 := am hr1
 have HC1 := am hc1
 clear hr1 hc1
 have H := h; unfold impl_SameLinks.f at H
 clear h
 obtain ⟨t411, A3, H⟩ := bnd H
 obtain rfl := Option.some.inj H
 go_enter Try.func178, Try.ntmps178
 go_wp2_with (first | ((with_reducible refine gc 206 rfl ?_); refine gL (some 7) Try.func206 #[.slice A0 l0.length c0, .slice A1 l1.length c1] ?_; (with_reducible refine (impl_Link_206.calls k _ _ l0 _ _ l1 t411 _ ?side1 ?side2 ?side3 ?side4 A3.out).mono ?_); (case side1 => repeat (first | exact HR0.out | (with_reducible refine Kd.C_alloc ?_ _) | (with_reducible refine Kd.C_drewN ?_ _) | (with_reducible refine Kd.C_drew ?_))); (case side2 => exact HC0.out); (case side3 => repeat (first | exact HR1.out | (with_reducible refine Kd.C_alloc ?_ _) | (with_reducible refine Kd.C_drewN ?_ _) | (with_reducible refine Kd.C_drew ?_))); (case side4 => exact HC1.out); rintro e w' ⟨rfl, ⟨nd, rfl⟩⟩; refine ⟨_, rfl, ?_⟩))
 go_ret
 exact ⟨sc, sd⟩

def impl_ChangesOf.l0 : Nat → List (S137) → Int → Int → List Int → Int → Option (List Int)
  | 0, _, _, _, _, _ => none
  | k + 1, x0, x1, x2, x7, x8 => if x8 < (mn x2 1000) then (if x8 > x1 then ((impl_LinksAt.f k x0 x8).bind fun t415 => ((impl_LinksAt.f k x0 (wrap64 (x8 - 1))).bind fun t418 => ((impl_SameLinks.f k t415 t418).bind fun t421 => (if t421 = true then (impl_ChangesOf.l0 k x0 x1 x2 x7 (wrap64 (x8 + 1))) else (if x7.length < 17592186044416 then (impl_ChangesOf.l0 k x0 x1 x2 (x7 ++ [x8]) (wrap64 (x8 + 1))) else (none)))))) else (impl_ChangesOf.l0 k x0 x1 x2 x7 (wrap64 (x8 + 1)))) else (some x7)
def impl_ChangesOf.f (k : Nat) (l0 : List (S137)) (a1 : Int) (a2 : Int) : Option (List Int) := impl_ChangesOf.l0 k l0 a1 a2 (([] : List Int)) 1
theorem impl_ChangesOf.mono_l : ∀ k, (∀ y0 y1 y2 y3 y4, LeO (impl_ChangesOf.l0 k y0 y1 y2 y3 y4) (impl_ChangesOf.l0 (k + 1) y0 y1 y2 y3 y4))
  | 0 => fun _ _ _ _ _ r h => by simp [impl_ChangesOf.l0] at h
  | k + 1 => by
    have ih0 := impl_ChangesOf.mono_l k
    · intro y0 y1 y2 y3 y4
      unfold impl_ChangesOf.l0
      have m0 := @impl_LinksAt.mono
      have m1 := @impl_SameLinks.mono
      exact mo
theorem impl_ChangesOf.mono : ∀ a0 a1 a2 k, LeO (impl_ChangesOf.f k a0 a1 a2) (impl_ChangesOf.f (k + 1) a0 a1 a2) := by
  intro a0 a1 a2 k
  have ih0 := impl_ChangesOf.mono_l k
  unfold impl_ChangesOf.f
  have m0 := @impl_LinksAt.mono
  have m1 := @impl_SameLinks.mono
  exact mo
theorem impl_ChangesOf.calls (k : Nat) (A0 : Option Addr) (c0 : Nat) (l0 : List (S137)) (a1 : Int) (a2 : Int) (r : List Int) (w : World) (hr0 : Kd.C k137 w A0 l0.length l0) (hc0 : l0.length ≤ c0) (h : impl_ChangesOf.f k l0 a1 a2 = some r) :
    Calls Try.prog 154 #[.slice A0 l0.length c0, .int .i64 a1, .int .i64 a2] w fun e w' => ∃ v0_ : Value, e = .returned (v0_) ∧ Kd.R (Kd.int .i64) 3 w' w.heap.size (fun _ => True) v0_ r ∧ Below w.heap.size w w' := by
 have HR0 := am hr0
 have HC0 := am hc0
 clear hr0 hc0
 have HB := am (Below.refl w.heap.size w)
 have H := h; unfold impl_ChangesOf.f at H
 clear h
 obtain ⟨y412, hy412⟩ : ∃ y_ : List Int, y_ = (([] : List Int)) := ⟨_, rfl⟩
 replace H : (impl_ChangesOf.l0 k l0 a1 a2 y412 1) = some r := ry hy412 H
 have Ny412 := am hy412
 clear hy412
 have H' := am H
 clear H
 go_enter Try.func154, Try.ntmps154
 go_wp2_with (first | ((with_reducible refine gd 9 rfl ?_); refine Kd.R_lit (Kd.int .i64) _ 3 ?hg (N := 9) ?hd (xs := ([] : List Int)) (inner := []) (ok := fun _ => True) (okp := fun _ => True) ?hr ?hp (fun _ hk => hk) trivial (Below.refl _ _) (Nat.le_refl _) (by simp) ?_; (case hd => rfl); (case hg => rfl); (case hr => first | (go_simp; done) | (go_simp; rfl)); (case hp => exact (Reps.none _ _)); intro v413 w4 ho5 hb hg_ hnew_; clear hg_ hnew_; (first | rw [← Ny412.out] at ho5 | (simp only [Int.reduceToNat] at ho5; rw [← Ny412.out] at ho5)); have HO414 := am (Kd.R_lower ho5 (below_size (sb))); replace HB := bs hb; clear hb ho5))
 go_loopg [7, 8] k (fun kq v7 v8 w' => ∃ (x7_1 : List Int) (x8_1 : Int), v8 = .int .i64 x8_1 ∧ Aside0 (impl_ChangesOf.l0 kq l0 a1 a2 x7_1 x8_1 = some r) ∧ Aside0 (kq ≤ k) ∧ Aside0 (Kd.R (Kd.int .i64) 3 w' w.heap.size (fun _ => True) v7 x7_1) ∧ Aside0 (Below w.heap.size w w'))
 case atStart => exact ⟨(y412), (1), sc, H', kk0, ⟨sr HO414⟩, ⟨sb⟩⟩
 case round =>
  clear H'
  obtain ⟨x7_1, x8_1, rfl, HA, HK1, HO_7, HB⟩ := hrel
  cases gk with
  | zero => exact absurd HA.out (by simp [impl_ChangesOf.l0])
  | succ k1 =>
   have H := HA.out
   clear HA
   simp only [impl_ChangesOf.l0] at H
   obtain ⟨ji6, hji6⟩ : ∃ j_ : Int, (mn a2 1000) = j_ := ⟨_, rfl⟩
   replace H : (if x8_1 < (ji6) then (if x8_1 > a1 then ((impl_LinksAt.f k1 l0 x8_1).bind fun t415 => ((impl_LinksAt.f k1 l0 (wrap64 (x8_1 - 1))).bind fun t418 => ((impl_SameLinks.f k1 t415 t418).bind fun t421 => (if t421 = true then (impl_ChangesOf.l0 k1 l0 a1 a2 x7_1 (wrap64 (x8_1 + 1))) else (if x7_1.length < 17592186044416 then (impl_ChangesOf.l0 k1 l0 a1 a2 (x7_1 ++ [x8_1]) (wrap64 (x8_1 + 1))) else (none)))))) else (impl_ChangesOf.l0 k1 l0 a1 a2 x7_1 (wrap64 (x8_1 + 1)))) else (some x7_1)) = some r := by first | (rw [hji6] at H; exact H) | (simp only [hji6] at H ⊢; exact H)
   have hji6_ : (if 1000 < a2 then 1000 else a2) = ji6 := hji6
   obtain ⟨c7, H⟩ | ⟨c7, H⟩ := ie_ H
   ·have c7b0 := decide_eq_true c7
    clear c7
    obtain ⟨c8, H⟩ | ⟨c8, H⟩ := ie_ H
    ·have c8b0 := decide_eq_true c8
     clear c8
     obtain ⟨t415, A9, H⟩ := bnd H
     obtain ⟨t418, A10, H⟩ := bnd H
     obtain ⟨t421, A11, H⟩ := bnd H
     obtain rfl | rfl := tt t421
     ·replace H := ip H
      have H' := am H
      clear H
      go_wp2_with (first | (go_at_call 112; (with_reducible refine (impl_LinksAt.calls k1 _ _ l0 x8_1 t415 _ ?side1 ?side2 A9.out).mono ?_); (case side1 => exact cb HR0); (case side2 => exact HC0.out); rintro e w13 ⟨v416, rfl, ho0, hb⟩; replace HO_7 := rb HO_7 hb; have HO417 := am (Kd.R_lower ho0 (below_size (sb))); replace HB := bs hb; (try clear hb); (try clear ho0)) | (go_at_call 112; (try simp only [i64_w, i32_w]); (with_reducible refine (impl_LinksAt.calls k1 _ _ l0 (wrap64 (x8_1 - 1)) t418 _ ?side1 ?side2 A10.out).mono ?_); (case side1 => exact cb HR0); (case side2 => exact HC0.out); rintro e w14 ⟨v419, rfl, ho0, hb⟩; replace HO_7 := rb HO_7 hb; have HO420 := am (Kd.R_lower (Kd.R_new' ho0 (Kd.R_lt (sr HO417))) (below_size (sb))); replace HO417 := am (Kd.R_elder' (sr HO417) (Kd.R_base ho0) hb); replace HB := bs hb; (try clear hb); (try clear ho0); obtain ⟨Ao15, co15, eo15⟩ := Kd.R_slice HO417.out; subst eo15; obtain ⟨Ao16, co16, eo16⟩ := Kd.R_slice HO420.out; subst eo16) | (go_at_call 178; (with_reducible refine (impl_SameLinks.calls k1 _ _ t415 _ _ t418 true _ ?side1 ?side2 ?side3 ?side4 A11.out).mono ?_); (case side1 => exact cr HO417); (case side2 => exact (Kd.R_reads' HO417.out).2.1); (case side3 => exact cr HO420); (case side4 => exact (Kd.R_reads' HO420.out).2.1); rintro e w' ⟨rfl, ⟨nd, rfl⟩⟩))
      go_roundg k1
      case measure => have := HK1.out; omega
      case rel => exact ⟨(x7_1), (wrap64 (x8_1 + 1)), sc, H', kk1, ⟨sr HO_7⟩, ⟨sb⟩⟩
     ·replace H := im H
      obtain ⟨LMc17, H⟩ := il_ H
      obtain ⟨y422, hy422⟩ : ∃ y_ : List Int, y_ = (x7_1 ++ [x8_1]) := ⟨_, rfl⟩
      replace H : (impl_ChangesOf.l0 k1 l0 a1 a2 y422 (wrap64 (x8_1 + 1))) = some r := ry hy422 H
      have Ny422 := am hy422
      clear hy422
      have H' := am H
      clear H
      go_wp2_with (first | (go_at_call 112; (with_reducible refine (impl_LinksAt.calls k1 _ _ l0 x8_1 t415 _ ?side1 ?side2 A9.out).mono ?_); (case side1 => exact cb HR0); (case side2 => exact HC0.out); rintro e w18 ⟨v416, rfl, ho0, hb⟩; replace HO_7 := rb HO_7 hb; have HO417 := am (Kd.R_lower ho0 (below_size (sb))); replace HB := bs hb; (try clear hb); (try clear hk); (try clear ho0)) | (go_at_call 112; (try simp only [i64_w, i32_w]); (with_reducible refine (impl_LinksAt.calls k1 _ _ l0 (wrap64 (x8_1 - 1)) t418 _ ?side1 ?side2 A10.out).mono ?_); (case side1 => exact cb HR0); (case side2 => exact HC0.out); rintro e w19 ⟨v419, rfl, ho0, hb⟩; replace HO_7 := rb HO_7 hb; have HO420 := am (Kd.R_lower (Kd.R_new' ho0 (Kd.R_lt (sr HO417))) (below_size (sb))); replace HO417 := am (Kd.R_elder' (sr HO417) (Kd.R_base ho0) hb); replace HB := bs hb; (try clear hb); (try clear hk); (try clear ho0); obtain ⟨Ao20, co20, eo20⟩ := Kd.R_slice HO417.out; subst eo20; obtain ⟨Ao21, co21, eo21⟩ := Kd.R_slice HO420.out; subst eo21) | (go_at_call 178; (with_reducible refine (impl_SameLinks.calls k1 _ _ t415 _ _ t418 false _ ?side1 ?side2 ?side3 ?side4 A11.out).mono ?_); (case side1 => exact cr HO417); (case side2 => exact (Kd.R_reads' HO417.out).2.1); (case side3 => exact cr HO420); (case side4 => exact (Kd.R_reads' HO420.out).2.1); rintro e w' ⟨rfl, ⟨nd, rfl⟩⟩) | ((with_reducible refine gate_builtin (b := .append) (xs := #[.tmp 30, .tmp 32]) rfl ?_); at_builtin; refine Kd.R_append (Kd.int .i64) (w0 := w) w.heap.size rfl (.tmp 30) (.tmp 32) 28 3 (.int .i64 0) 8 rfl Try.underlying28 info3 rfl (by decide) (by omega) u7 x7_1 x8_1 [.int .i64 x8_1] (fun _ => True) (fun _ => False) rfl rfl ?aP (fun _ hk => hk.elim) ?aF ?aO ?aB ?aS ?aL ?_; (case aP => exact rfl); (case aB => exact (sb)); (case aF => exact (fun _ _ => trivial)); (case aO => exact (sr HO_7)); (case aS => exact (below_size (sb))); (case aL => have := LMc17.out; omega); intro v423 w22 ho hb hg hat; rw [← Ny422.out] at ho; replace HO417 := am (Kd.R_over' (sr HO417) (Kd.R_typed (sr HO_7)) (by decide) hg); replace HO420 := am (Kd.R_over' (sr HO420) (Kd.R_typed (sr HO_7)) (by decide) hg); replace HB := am hb; have HO424 := am ho; clear HO_7; clear ho hb hg hat))
      go_roundg k1
      case measure => have := HK1.out; omega
      case rel => exact ⟨(y422), (wrap64 (x8_1 + 1)), sc, H', kk1, ⟨sr HO424⟩, ⟨sb⟩⟩
    ·have c8b0 := decide_eq_false c8
     clear c8
     have H' := am H
     clear H
     go_wp2
     go_roundg k1
     case measure => have := HK1.out; omega
     case rel => exact ⟨(x7_1), (wrap64 (x8_1 + 1)), sc, H', kk1, ⟨sr HO_7⟩, ⟨sb⟩⟩
   ·have c7b0 := decide_eq_false c7
    clear c7
    obtain rfl := Option.some.inj H
    go_wp2
    go_ret
    exact ⟨_, by first | rfl | (simp [errW_none, errW_some] <;> rfl) | (simp only [← hji6]; first | rfl | (simp [errW_none, errW_some] <;> rfl)) | (simp [*, errW_none, errW_some] <;> rfl), sr HO_7, sb⟩

def impl_PiecesOf.l0 : Nat → Int → List (S102) → List Int → Int → Int → Option ((List (S102)))
  | 0, _, _, _, _, _ => none
  | k + 1, x1, x7, x23, x24, x25 => if x25 < x24 then (if 0 ≤ x25 then (if x25 < (x23.length : Int) then (if x7.length < 8796093022208 then (impl_PiecesOf.l0 k (rd x23 x25) (x7 ++ [(⟨x1, rd x23 x25⟩ : S102)]) x23 x24 (wrap64 (x25 + 1))) else (none)) else (none)) else (none)) else (some x7)
def impl_PiecesOf.f (k : Nat) (l0 : List (S137)) (a1 : Int) (a2 : Int) : Option ((List (S102))) := (some (([] : List (S102)) : List (S102))).bind fun y425 => ((impl_IsSpan.f a1 a2).bind fun t428 => (if t428 = true then ((impl_ChangesOf.f k l0 a1 a2).bind fun t429 => (if t429.length < 17592186044416 then ((some (t429 ++ [a2] : List Int)).bind fun y432 => (impl_PiecesOf.l0 k a1 y425 y432 (y432.length : Int) 0)) else (none))) else (some y425)))
theorem impl_PiecesOf.mono_l : ∀ k, (∀ y0 y1 y2 y3 y4, LeO (impl_PiecesOf.l0 k y0 y1 y2 y3 y4) (impl_PiecesOf.l0 (k + 1) y0 y1 y2 y3 y4))
  | 0 => fun _ _ _ _ _ r h => by simp [impl_PiecesOf.l0] at h
  | k + 1 => by
    have ih0 := impl_PiecesOf.mono_l k
    · intro y0 y1 y2 y3 y4
      unfold impl_PiecesOf.l0
      have m0 := @impl_ChangesOf.mono
      exact mo
theorem impl_PiecesOf.mono : ∀ a0 a1 a2 k, LeO (impl_PiecesOf.f k a0 a1 a2) (impl_PiecesOf.f (k + 1) a0 a1 a2) := by
  intro a0 a1 a2 k
  have ih0 := impl_PiecesOf.mono_l k
  unfold impl_PiecesOf.f
  have m0 := @impl_ChangesOf.mono
  exact mo
theorem impl_PiecesOf.calls (k : Nat) (A0 : Option Addr) (c0 : Nat) (l0 : List (S137)) (a1 : Int) (a2 : Int) (r : List (S102)) (w : World) (hr0 : Kd.C k137 w A0 l0.length l0) (hc0 : l0.length ≤ c0) (h : impl_PiecesOf.f k l0 a1 a2 = some r) :
    Calls Try.prog 111 #[.slice A0 l0.length c0, .int .i64 a1, .int .i64 a2] w fun e w' => ∃ v0_ : Value, e = .returned (v0_) ∧ Kd.R k102 102 w' w.heap.size (fun _ => True) v0_ r ∧ Below w.heap.size w w' := by
 have hu102 := Try.underlying102
 have HR0 := am hr0
 have HC0 := am hc0
 clear hr0 hc0
 have HB := am (Below.refl w.heap.size w)
 have H := h; unfold impl_PiecesOf.f at H
 clear h
 obtain ⟨y425, hy425⟩ : ∃ y_ : List (S102), y_ = (([] : List (S102))) := ⟨_, rfl⟩
 replace H : ((impl_IsSpan.f a1 a2).bind fun t428 => (if t428 = true then ((impl_ChangesOf.f k l0 a1 a2).bind fun t429 => (if t429.length < 17592186044416 then ((some (t429 ++ [a2] : List Int)).bind fun y432 => (impl_PiecesOf.l0 k a1 y425 y432 (y432.length : Int) 0)) else (none))) else (some y425))) = some r := ry hy425 H
 have Ny425 := am hy425
 clear hy425
 obtain ⟨t428, A4, H⟩ := bnd H
 obtain rfl | rfl := tt t428
 ·replace H := ip H
  obtain ⟨t429, A6, H⟩ := bnd H
  obtain ⟨LMc7, H⟩ := il_ H
  obtain ⟨y432, hy432⟩ : ∃ y_ : List Int, y_ = (t429 ++ [a2]) := ⟨_, rfl⟩
  replace H : (impl_PiecesOf.l0 k a1 y425 y432 (y432.length : Int) 0) = some r := ry hy432 H
  have Ny432 := am hy432
  clear hy432
  have H' := am H
  clear H
  go_enter Try.func111, Try.ntmps111
  go_wp2_with (first | ((with_reducible refine gd 10 rfl ?_); refine Kd.R_lit k102 _ 102 ?hg (N := 10) ?hd (xs := ([] : List (S102))) (inner := []) (ok := fun _ => True) (okp := fun _ => True) ?hr ?hp (fun _ hk => hk) trivial (Below.refl _ _) (Nat.le_refl _) (by simp) ?_; (case hd => rfl); (case hg => rfl); (case hr => first | (go_simp; done) | (go_simp; rfl)); (case hp => exact (Reps.none _ _)); intro v426 w8 ho9 hb hg_ hnew_; clear hg_ hnew_; (first | rw [← Ny425.out] at ho9 | (simp only [Int.reduceToNat] at ho9; rw [← Ny425.out] at ho9)); have HO427 := am (Kd.R_lower ho9 (below_size (sb))); replace HB := bs hb; clear hb ho9) | ((with_reducible refine gc 79 rfl ?_); refine gL (some 14) Try.func79 #[.agg #[.int .i64 a1, .int .i64 a2]] ?_; (with_reducible refine (impl_IsSpan.calls a1 a2 true _ A4.out).mono ?_); rintro e w10 ⟨rfl, hb⟩; refine ⟨_, rfl, ?_⟩; replace HO427 := rb HO427 hb; replace HB := bs hb; (try clear hb); (try clear hk)) | ((with_reducible refine gc 154 rfl ?_); refine gL (some 20) Try.func154 #[.slice A0 l0.length c0, .int .i64 a1, .int .i64 a2] ?_; (with_reducible refine (impl_ChangesOf.calls k _ _ l0 a1 a2 t429 _ ?side1 ?side2 A6.out).mono ?_); (case side1 => exact cb HR0); (case side2 => exact HC0.out); rintro e w11 ⟨v430, rfl, ho0, hb⟩; refine ⟨_, rfl, ?_⟩; replace HO427 := rb HO427 hb; have HO431 := am (Kd.R_lower ho0 (below_size (sb))); replace HB := bs hb; (try clear hb); (try clear hk); (try clear ho0)) | ((with_reducible refine gate_builtin (b := .append) (xs := #[.tmp 20, .tmp 22]) rfl ?_); at_builtin; refine Kd.R_append (Kd.int .i64) (w0 := w) w.heap.size rfl (.tmp 20) (.tmp 22) 28 3 (.int .i64 0) 8 rfl Try.underlying28 info3 rfl (by decide) (by omega) v430 t429 a2 [.int .i64 a2] (fun _ => True) (fun _ => False) rfl rfl ?aP (fun _ hk => hk.elim) ?aF ?aO ?aB ?aS ?aL ?_; (case aP => exact rfl); (case aB => exact (sb)); (case aF => exact (fun _ _ => trivial)); (case aO => exact (sr HO431)); (case aS => exact (below_size (sb))); (case aL => have := LMc7.out; omega); intro v433 w12 ho hb hg hat; rw [← Ny432.out] at ho; replace HO427 := am (Kd.R_over' (sr HO427) (Kd.R_typed (sr HO431)) (by decide) hg); replace HB := am hb; have HO434 := am ho; clear HO431; clear ho hb hg hat; obtain ⟨Ao13, co13, eo13⟩ := Kd.R_slice HO434.out; subst eo13))
  go_loopg [1, 7, 25] k (fun kq v1 v7 v25 w' => ∃ (x1_1 : Int) (x7_1 : List (S102)) (x25_1 : Int), v1 = .int .i64 x1_1 ∧ v25 = .int .i64 x25_1 ∧ Aside0 (impl_PiecesOf.l0 kq x1_1 x7_1 y432 (y432.length : Int) x25_1 = some r) ∧ Aside0 (kq ≤ k) ∧ Aside0 (Kd.R k102 102 w' w.heap.size (fun _ => True) v7 x7_1) ∧ Aside0 (Kd.R (Kd.int .i64) 3 w' w.heap.size (fun _ => True) (.slice Ao13 y432.length co13) y432) ∧ Aside0 (Below w.heap.size w w'))
  case atStart => exact ⟨(a1), (y425), (0), sc, sc, H', kk0, ⟨sr HO427⟩, ⟨sr HO434⟩, ⟨sb⟩⟩
  case round =>
   clear H'
   obtain ⟨x1_1, x7_1, x25_1, rfl, rfl, HA, HK1, HO_7, HO_23, HB⟩ := hrel
   cases gk with
   | zero => exact absurd HA.out (by simp [impl_PiecesOf.l0])
   | succ k1 =>
    have H := HA.out
    clear HA
    simp only [impl_PiecesOf.l0] at H
    obtain ⟨c14, H⟩ | ⟨c14, H⟩ := ie_ H
    ·have c14b0 := decide_eq_true c14
     clear c14
     obtain ⟨c15b0, H⟩ := id_ H
     obtain ⟨c16b0, H⟩ := id_ H
     obtain ⟨LMc17, H⟩ := il_ H
     obtain ⟨y436, hy436⟩ : ∃ y_ : List (S102), y_ = (x7_1 ++ [(⟨x1_1, rd y432 x25_1⟩ : S102)]) := ⟨_, rfl⟩
     replace H : (impl_PiecesOf.l0 k1 (rd y432 x25_1) y436 y432 (y432.length : Int) (wrap64 (x25_1 + 1))) = some r := ry hy436 H
     have Ny436 := am hy436
     clear hy436
     have H' := am H
     clear H
     have p435 : 0 ≤ (x25_1 : Int) := sa
     have q435 : x25_1 < (y432.length : Int) := sa
     obtain ⟨ad435, e435, hx435_0⟩ := Kd.at_int (Kd.R_reads' HO_23.out).2.2 x25_1 p435 q435
     cases e435
     replace p435 := eq_true p435
     replace q435 := eq_true q435
     go_wp2_with (first | ((with_reducible refine gate_builtin (b := .append) (xs := #[.tmp 29, .tmp 33]) rfl ?_); at_builtin; refine Kd.R_append k102 (w0 := w) w.heap.size rfl (.tmp 29) (.tmp 33) 48 102 (.agg #[(.int .i64 0), (.int .i64 0)]) 16 rfl Try.underlying48 info102 rfl (by decide) (by omega) u7 x7_1 (⟨x1_1, rd y432 x25_1⟩ : S102) [.int .i64 x1_1, .int .i64 (rd y432 x25_1)] (fun _ => True) (fun _ => False) rfl rfl ?aP (fun _ hk => hk.elim) ?aF ?aO ?aB ?aS ?aL ?_; (case aP => exact k102_mkM _ _ _ (⟨x1_1, rd y432 x25_1⟩ : S102)); (case aB => exact (sb)); (case aF => exact (fun _ _ => trivial)); (case aO => exact (sr HO_7)); (case aS => exact (below_size (sb))); (case aL => have := LMc17.out; omega); intro v437 w18 ho hb hg hat; rw [← Ny436.out] at ho; replace HO_23 := am (Kd.R_over' (sr HO_23) (Kd.R_typed (sr HO_7)) (by decide) hg); replace HB := am hb; have HO438 := am ho; clear HO_7; clear ho hb hg hat))
     go_roundg k1
     case measure => have := HK1.out; omega
     case rel => exact ⟨(rd y432 x25_1), (y436), (wrap64 (x25_1 + 1)), sc, sc, H', kk1, ⟨sr HO438⟩, ⟨sr HO_23⟩, ⟨sb⟩⟩
    ·have c14b0 := decide_eq_false c14
     clear c14
     obtain rfl := Option.some.inj H
     go_wp2
     go_ret
     exact ⟨_, se, sr HO_7, sb⟩
 ·replace H := im H
  obtain rfl := Option.some.inj H
  go_enter Try.func111, Try.ntmps111
  go_wp2_with (first | ((with_reducible refine gd 10 rfl ?_); refine Kd.R_lit k102 _ 102 ?hg (N := 10) ?hd (xs := ([] : List (S102))) (inner := []) (ok := fun _ => True) (okp := fun _ => True) ?hr ?hp (fun _ hk => hk) trivial (Below.refl _ _) (Nat.le_refl _) (by simp) ?_; (case hd => rfl); (case hg => rfl); (case hr => first | (go_simp; done) | (go_simp; rfl)); (case hp => exact (Reps.none _ _)); intro v426 w19 ho20 hb hg_ hnew_; clear hg_ hnew_; (first | rw [← Ny425.out] at ho20 | (simp only [Int.reduceToNat] at ho20; rw [← Ny425.out] at ho20)); have HO427 := am (Kd.R_lower ho20 (below_size (sb))); replace HB := bs hb; clear hb ho20) | ((with_reducible refine gc 79 rfl ?_); refine gL (some 14) Try.func79 #[.agg #[.int .i64 a1, .int .i64 a2]] ?_; (with_reducible refine (impl_IsSpan.calls a1 a2 false _ A4.out).mono ?_); rintro e w21 ⟨rfl, hb⟩; refine ⟨_, rfl, ?_⟩; replace HO427 := rb HO427 hb; replace HB := bs hb; (try clear hb); (try clear hk)))
  go_ret
  exact ⟨_, se, sr HO427, sb⟩

end Go.Proofs.Ytiihaabhjphaeaa.QFnPrograms
