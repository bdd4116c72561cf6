/- What the Go functions of the law FnExactNextsAt come to, as Lean functions, and that they do: by a program of the session, out of the kit's printer. Conditions: none. (squeezed). -/
import Derived.Test.YtlakjlolahjphaaVFnExactNextsAtSq
import Derived.Test.YtlakjlolahjphaaVFnExactNextsAtQFnExactNextsAtx0
import Derived.Test.YtlakjlolahjphaaVFnExactNextsAtQFnExactNextsAtx5
import Derived.Test.YtlakjlolahjphaaVFnExactNextsAtQFnExactNextsAtx8
import Derived.Test.YtlakjlolahjphaaVFnExactNextsAtQFnExactNextsAtx10
namespace Go.Proofs.Ytlakjlolahjphaa.QFnExactNextsAt
open Go.RowKit Go.Proofs.YtlakjlolahjphaaW.PrintWords Go.Proofs.YtlakjlolahjphaaW.PrintLast Go.Proofs.YtlakjlolahjphaaW.PrintMore Go.Proofs.Ytlakjlolahjphaa.Open Go.Proofs.Ytlakjlolahjphaa.Sq
attribute [local go_sem] max2_int min2_int max_two min_two max_three min_three max_four min_four   -- for this text's walks alone
attribute [local go_sem] isSome_set
set_option linter.unusedVariables false
set_option linter.unusedSimpArgs false

/-! ### spec_HopAt: function 15 -/
def spec_HopAt.f (k : Nat) (a0_0 : Int) (a0_1 : Int) (a0_2 : Int) (l0_3 : List (S106)) (a1 : Int) (a2 : Int) (a3 : Int) : Option (Int) := (spec_l1In.f a0_2 0 5).bind fun t325 => (if t325 = true then ((spec_l1In.f a3 0 1000).bind fun t326 => (if t326 = true then ((spec_IsSafeMix.f k a0_0 a0_1 a0_2 l0_3 a2 (wrap64 (a3 - (wrap64 (2 * a0_2)))) (wrap64 (a3 + (wrap64 (2 * a0_2))))).bind fun t327 => (if t327 = true then ((spec_l19Next.f k a0_0 a0_1 a0_2 l0_3 a1 a2 a3).bind fun t328 => (some t328)) else (some (-1)))) else (some (-1)))) else (some (-1)))
theorem spec_HopAt.mono : ∀ a0 a1 a2 a3 a4 a5 a6 k, LeO (spec_HopAt.f k a0 a1 a2 a3 a4 a5 a6) (spec_HopAt.f (k + 1) a0 a1 a2 a3 a4 a5 a6) := by
  intro a0 a1 a2 a3 a4 a5 a6 k
  unfold spec_HopAt.f
  have m0 := @spec_IsSafeMix.mono
  have m1 := @spec_l19Next.mono
  exact mo
set_option maxHeartbeats 8000000 in
set_option maxRecDepth 100000 in
theorem spec_HopAt.calls (k : Nat) (a0_0 : Int) (a0_1 : Int) (a0_2 : Int) (A0_3 : Option Addr) (c0_3 : Nat) (l0_3 : List (S106)) (a1 : Int) (a2 : Int) (a3 : Int) (r : Int) (w : World) (hr0_3 : Kd.C k106 w A0_3 l0_3.length l0_3) (hc0_3 : l0_3.length ≤ c0_3) (h : spec_HopAt.f k a0_0 a0_1 a0_2 l0_3 a1 a2 a3 = some r) :
    Calls Try.prog 15 #[.agg #[.int .i64 a0_0, .int .i64 a0_1, .int .i64 a0_2, .slice A0_3 l0_3.length c0_3], .int .i64 a1, .int .i64 a2, .int .i64 a3] w fun e w' => e = .returned (.int .i64 r) ∧ Below w.heap.size w w' := by
 have hu29 := Try.underlying29
 have HR0_3 := Aside0.mk hr0_3
 have HC0_3 := Aside0.mk hc0_3
 clear hr0_3 hc0_3
 have HB := Aside0.mk (Below.refl w.heap.size w)
 have H : ((spec_l1In.f a0_2 0 5).bind fun t325 => (if t325 = true then ((spec_l1In.f a3 0 1000).bind fun t326 => (if t326 = true then ((spec_IsSafeMix.f k a0_0 a0_1 a0_2 l0_3 a2 (wrap64 (a3 - (wrap64 (2 * a0_2)))) (wrap64 (a3 + (wrap64 (2 * a0_2))))).bind fun t327 => (if t327 = true then ((spec_l19Next.f k a0_0 a0_1 a0_2 l0_3 a1 a2 a3).bind fun t328 => (some t328)) else (some (-1)))) else (some (-1)))) else (some (-1)))) = some r := h
 clear h
 obtain ⟨t325, A5, H⟩ := bnd H
 obtain rfl | rfl := tt t325
 ·replace H := ip H
  obtain ⟨t326, A7, H⟩ := bnd H
  obtain rfl | rfl := tt t326
  ·replace H := ip H
   obtain ⟨t327, A9, H⟩ := bnd H
   obtain rfl | rfl := tt t327
   ·replace H := ip H
    obtain ⟨t328, A11, H⟩ := bnd H
    obtain rfl := Option.some.inj H
    go_enter Try.func15, Try.ntmps15
    go_wp2_with (first | ((with_reducible refine gate_dst (N := 4) rfl ?_); refine bx 4 #[.int .i64 a0_0, .int .i64 a0_1, .int .i64 a0_2, .slice A0_3 l0_3.length c0_3] 29 ?_; intro gb324 hg w12 hbox hb; have BK324 := Aside0.mk hbox; have GW324 := bz w hg; have GE324 := bz w hg; replace HB := bs hb; clear hb hbox hg; obtain ⟨hcz13_0, hcz13_1, hcz13_2, hcz13_3, hfz13_0, hfz13_1, hfz13_2, hfz13_3⟩ := cc4 BK324) | ((with_reducible refine gate_callee (f := 63) rfl ?_); refine gL (some 11) Try.func63 #[.int .i64 a0_2, .int .i64 0, .int .i64 5] ?_; (with_reducible refine (spec_l1In.calls a0_2 0 5 true _ A5.out).mono ?_); rintro e w' ⟨rfl, ⟨nd, rfl⟩⟩; refine ⟨_, rfl, ?_⟩) | (go_at_call 63; (with_reducible refine (spec_l1In.calls a3 0 1000 true _ A7.out).mono ?_); rintro e w' ⟨rfl, ⟨nd, rfl⟩⟩) | (go_at_call 64; (try simp only [i64_w, i32_w]); (with_reducible refine (spec_IsSafeMix.calls k a0_0 a0_1 a0_2 _ _ l0_3 a2 (wrap64 (a3 - (wrap64 (2 * a0_2)))) (wrap64 (a3 + (wrap64 (2 * a0_2)))) true _ ?side1 ?side2 A9.out).mono ?_); (case side1 => exact cbw HR0_3); (case side2 => exact HC0_3.out); rintro e w14 ⟨rfl, hb⟩; replace BK324 := bb BK324 hb; replace HB := bsw hb; (try clear hb); (try clear hb2); (try clear hk); (try clear hi); obtain ⟨hcz15_0, hcz15_1, hcz15_2, hcz15_3, hfz15_0, hfz15_1, hfz15_2, hfz15_3⟩ := cc4 BK324) | ((with_reducible refine gate_callee (f := 65) rfl ?_); refine gL (some 38) Try.func65 #[.agg #[.int .i64 a0_0, .int .i64 a0_1, .int .i64 a0_2, .slice A0_3 l0_3.length c0_3], .int .i64 a1, .int .i64 a2, .int .i64 a3] ?_; (with_reducible refine (spec_l19Next.calls k a0_0 a0_1 a0_2 _ _ l0_3 a1 a2 a3 t328 _ ?side1 ?side2 A11.out).mono ?_); (case side1 => exact cb HR0_3); (case side2 => exact HC0_3.out); rintro e w16 ⟨rfl, hb⟩; refine ⟨_, rfl, ?_⟩; replace BK324 := bb BK324 hb; replace HB := bsw hb; (try clear hb); (try clear hb2); (try clear hk); (try clear hi)))
    go_ret
    exact ⟨se, sbw⟩
   ·replace H := im H
    obtain rfl := Option.some.inj H
    go_enter Try.func15, Try.ntmps15
    go_wp2_with (first | ((with_reducible refine gate_dst (N := 4) rfl ?_); refine bx 4 #[.int .i64 a0_0, .int .i64 a0_1, .int .i64 a0_2, .slice A0_3 l0_3.length c0_3] 29 ?_; intro gb324 hg w17 hbox hb; have BK324 := Aside0.mk hbox; have GW324 := bz w hg; have GE324 := bz w hg; replace HB := bs hb; clear hb hbox hg; obtain ⟨hcz18_0, hcz18_1, hcz18_2, hcz18_3, hfz18_0, hfz18_1, hfz18_2, hfz18_3⟩ := cc4 BK324) | ((with_reducible refine gate_callee (f := 63) rfl ?_); refine gL (some 11) Try.func63 #[.int .i64 a0_2, .int .i64 0, .int .i64 5] ?_; (with_reducible refine (spec_l1In.calls a0_2 0 5 true _ A5.out).mono ?_); rintro e w' ⟨rfl, ⟨nd, rfl⟩⟩; refine ⟨_, rfl, ?_⟩) | (go_at_call 63; (with_reducible refine (spec_l1In.calls a3 0 1000 true _ A7.out).mono ?_); rintro e w' ⟨rfl, ⟨nd, rfl⟩⟩) | (go_at_call 64; (try simp only [i64_w, i32_w]); (with_reducible refine (spec_IsSafeMix.calls k a0_0 a0_1 a0_2 _ _ l0_3 a2 (wrap64 (a3 - (wrap64 (2 * a0_2)))) (wrap64 (a3 + (wrap64 (2 * a0_2)))) false _ ?side1 ?side2 A9.out).mono ?_); (case side1 => exact cbw HR0_3); (case side2 => exact HC0_3.out); rintro e w19 ⟨rfl, hb⟩; replace BK324 := bb BK324 hb; replace HB := bsw hb; (try clear hb); (try clear hb2); (try clear hk); (try clear hi)))
    go_ret
    exact ⟨se, sbw⟩
  ·replace H := im H
   obtain rfl := Option.some.inj H
   go_enter Try.func15, Try.ntmps15
   go_wp2_with (first | ((with_reducible refine gate_dst (N := 4) rfl ?_); refine bx 4 #[.int .i64 a0_0, .int .i64 a0_1, .int .i64 a0_2, .slice A0_3 l0_3.length c0_3] 29 ?_; intro gb324 hg w20 hbox hb; have BK324 := Aside0.mk hbox; have GW324 := bz w hg; have GE324 := bz w hg; replace HB := bs hb; clear hb hbox hg; obtain ⟨hcz21_0, hcz21_1, hcz21_2, hcz21_3, hfz21_0, hfz21_1, hfz21_2, hfz21_3⟩ := cc4 BK324) | ((with_reducible refine gate_callee (f := 63) rfl ?_); refine gL (some 11) Try.func63 #[.int .i64 a0_2, .int .i64 0, .int .i64 5] ?_; (with_reducible refine (spec_l1In.calls a0_2 0 5 true _ A5.out).mono ?_); rintro e w' ⟨rfl, ⟨nd, rfl⟩⟩; refine ⟨_, rfl, ?_⟩) | (go_at_call 63; (with_reducible refine (spec_l1In.calls a3 0 1000 false _ A7.out).mono ?_); rintro e w' ⟨rfl, ⟨nd, rfl⟩⟩))
   go_ret
   exact ⟨se, sbw⟩
 ·replace H := im H
  obtain rfl := Option.some.inj H
  go_enter Try.func15, Try.ntmps15
  go_wp2_with (first | ((with_reducible refine gate_dst (N := 4) rfl ?_); refine bx 4 #[.int .i64 a0_0, .int .i64 a0_1, .int .i64 a0_2, .slice A0_3 l0_3.length c0_3] 29 ?_; intro gb324 hg w22 hbox hb; have BK324 := Aside0.mk hbox; have GW324 := bz w hg; have GE324 := bz w hg; replace HB := bs hb; clear hb hbox hg; obtain ⟨hcz23_0, hcz23_1, hcz23_2, hcz23_3, hfz23_0, hfz23_1, hfz23_2, hfz23_3⟩ := cc4 BK324) | ((with_reducible refine gate_callee (f := 63) rfl ?_); refine gL (some 11) Try.func63 #[.int .i64 a0_2, .int .i64 0, .int .i64 5] ?_; (with_reducible refine (spec_l1In.calls a0_2 0 5 false _ A5.out).mono ?_); rintro e w' ⟨rfl, ⟨nd, rfl⟩⟩; refine ⟨_, rfl, ?_⟩))
  go_ret
  exact ⟨se, sbw⟩

/-! ### spec_AreOffsets: function 77 -/
def spec_AreOffsets.l0 : Nat → List Int → Int → Int → Int → Int → List (S106) → Option (Bool)
  | 0, _, _, _, _, _, _ => none
  | k + 1, x1, x5, x330000, x330001, x330002, x330003 => if x5 < (x1.length : Int) then ((spec_l1In.f x330002 0 5).bind fun t330 => (if t330 = true then (if 0 ≤ x5 then ((spec_l1In.f (rd x1 x5) (wrap64 (-x330002)) x330002).bind fun t332 => (if t332 = true then (spec_AreOffsets.l0 k x1 (wrap64 (x5 + 1)) x330000 x330001 x330002 x330003) else (some false))) else (none)) else (some false))) else (some ((x1.length : Int) == x330000))
def spec_AreOffsets.f (k : Nat) (a0_0 : Int) (a0_1 : Int) (a0_2 : Int) (l0_3 : List (S106)) (l1 : List Int) : Option (Bool) := spec_AreOffsets.l0 k l1 0 a0_0 a0_1 a0_2 l0_3
theorem spec_AreOffsets.mono_l : ∀ k, (∀ y0 y1 y2 y3 y4 y5, LeO (spec_AreOffsets.l0 k y0 y1 y2 y3 y4 y5) (spec_AreOffsets.l0 (k + 1) y0 y1 y2 y3 y4 y5))
  | 0 => fun _ _ _ _ _ _ r h => by simp [spec_AreOffsets.l0] at h
  | k + 1 => by
    have ih0 := spec_AreOffsets.mono_l k
    · intro y0 y1 y2 y3 y4 y5
      unfold spec_AreOffsets.l0
      exact mo
theorem spec_AreOffsets.mono : ∀ a0 a1 a2 a3 a4 k, LeO (spec_AreOffsets.f k a0 a1 a2 a3 a4) (spec_AreOffsets.f (k + 1) a0 a1 a2 a3 a4) := by
  intro a0 a1 a2 a3 a4 k
  have ih0 := spec_AreOffsets.mono_l k
  unfold spec_AreOffsets.f
  exact mo
set_option maxHeartbeats 8000000 in
set_option maxRecDepth 100000 in
theorem spec_AreOffsets.calls (k : Nat) (a0_0 : Int) (a0_1 : Int) (a0_2 : Int) (A0_3 : Option Addr) (c0_3 : Nat) (l0_3 : List (S106)) (A1 : Option Addr) (c1 : Nat) (l1 : List Int) (r : Bool) (w : World) (hr0_3 : Kd.C k106 w A0_3 l0_3.length l0_3) (hc0_3 : l0_3.length ≤ c0_3) (hr1 : Kd.C (Kd.int .i64) w A1 l1.length l1) (hc1 : l1.length ≤ c1) (h : spec_AreOffsets.f k a0_0 a0_1 a0_2 l0_3 l1 = some r) :
    Calls Try.prog 77 #[.agg #[.int .i64 a0_0, .int .i64 a0_1, .int .i64 a0_2, .slice A0_3 l0_3.length c0_3], .slice A1 l1.length c1] w fun e w' => e = .returned (.bool r) ∧ Below w.heap.size w w' := by
 have hu29 := Try.underlying29
 have HR0_3 := Aside0.mk hr0_3
 have HC0_3 := Aside0.mk hc0_3
 clear hr0_3 hc0_3
 have HR1 := Aside0.mk hr1
 have HC1 := Aside0.mk hc1
 clear hr1 hc1
 have HB := Aside0.mk (Below.refl w.heap.size w)
 have H : (spec_AreOffsets.l0 k l1 0 a0_0 a0_1 a0_2 l0_3) = some r := h
 clear h
 have H' := Aside0.mk H
 clear H
 go_enter Try.func77, Try.ntmps77
 go_wp2_with (first | ((with_reducible refine gate_dst (N := 2) rfl ?_); refine bx 2 #[.int .i64 a0_0, .int .i64 a0_1, .int .i64 a0_2, .slice A0_3 l0_3.length c0_3] 29 ?_; intro gb329 hg w3 hbox hb; have BK329 := Aside0.mk hbox; have GW329 := bz w hg; have GE329 := bz w hg; replace HB := bs hb; clear hb hbox hg))
 repeat (go_quiet (first | ((with_reducible refine gate_dst (N := 2) rfl ?_); refine box_event ?hg (N := 2) ?hd (cs := #[.int .i64 a0_0, .int .i64 a0_1, .int .i64 a0_2, .slice A0_3 l0_3.length c0_3]) (t := 29) ?hr ?_; (case hd => rfl); (case hg => rfl); (case hr => first | (go_simp; done) | (go_simp; rfl)); intro gb329 hg w3 hbox hb; have n0_ := Aside0.mk (below_step (sb) hb); have n1_ := Aside0.mk (hbox); have n2_ := Aside0.mk ((by rw [hg]; exact (below_size (sb)) : w.heap.size ≤ gb329)); have n3_ := Aside0.mk ((by rw [hg]; exact (below_size (sb)) : w.heap.size ≤ gb329)); clear HB; have HB := n0_; have BK329 := n1_; have GW329 := n2_; have GE329 := n3_; clear n0_ n1_ n2_ n3_; clear hb hbox hg)); try go_wp2_with (first | ((with_reducible refine gate_dst (N := 2) rfl ?_); refine box_event ?hg (N := 2) ?hd (cs := #[.int .i64 a0_0, .int .i64 a0_1, .int .i64 a0_2, .slice A0_3 l0_3.length c0_3]) (t := 29) ?hr ?_; (case hd => rfl); (case hg => rfl); (case hr => first | (go_simp; done) | (go_simp; rfl)); intro gb329 hg w3 hbox hb; have n0_ := Aside0.mk (below_step (sb) hb); have n1_ := Aside0.mk (hbox); have n2_ := Aside0.mk ((by rw [hg]; exact (below_size (sb)) : w.heap.size ≤ gb329)); have n3_ := Aside0.mk ((by rw [hg]; exact (below_size (sb)) : w.heap.size ≤ gb329)); clear HB; have HB := n0_; have BK329 := n1_; have GW329 := n2_; have GE329 := n3_; clear n0_ n1_ n2_ n3_; clear hb hbox hg)))
 go_loopg [5] k (fun kq v5 w' => ∃ (x5_1 : Int), v5 = .int .i64 x5_1 ∧ Aside0 (spec_AreOffsets.l0 kq l1 x5_1 a0_0 a0_1 a0_2 l0_3 = some r) ∧ Aside0 (kq ≤ k) ∧ Aside0 (w'.heap[gb329]? = some (.cells #[.int .i64 a0_0, .int .i64 a0_1, .int .i64 a0_2, (.slice A0_3 l0_3.length c0_3)] 29 (0, 0))) ∧ Aside0 (Below w.heap.size w w'))
 case atStart => exact ⟨(0), sc, H', kk0, ⟨sk BK329⟩, ⟨sbw⟩⟩
 case round =>
  clear H'
  obtain ⟨x5_1, rfl, HA, HK1, BK329, HB⟩ := hrel
  cases gk with
  | zero => exact absurd HA.out (by simp [spec_AreOffsets.l0])
  | succ k1 =>
   have H := HA.out
   clear HA
   simp only [spec_AreOffsets.l0] at H
   obtain ⟨c4, H⟩ | ⟨c4, H⟩ := ie_ H
   ·have c4b0 := decide_eq_true c4
    clear c4
    obtain ⟨t330, A5, H⟩ := bnd H
    obtain rfl | rfl := tt t330
    ·replace H := ip H
     obtain ⟨c7b0, H⟩ := id_ H
     obtain ⟨t332, A8, H⟩ := bnd H
     obtain rfl | rfl := tt t332
     ·replace H := ip H
      have H' := Aside0.mk H
      clear H
      obtain ⟨hcz10_0, hcz10_1, hcz10_2, hcz10_3, hfz10_0, hfz10_1, hfz10_2, hfz10_3⟩ := cc4 BK329
      go_wp2_with (first | (go_at_call 63; (with_reducible refine (spec_l1In.calls a0_2 0 5 true _ A5.out).mono ?_); rintro e w' ⟨rfl, ⟨nd, rfl⟩⟩; (try first | exact ⟨rfl, _, World.drewN_drewN _ _ _⟩ | exact ⟨rfl, _, Eq.trans (World.drewN_drewN _ _ _) (congrArg (World.drewN _) (Nat.add_assoc _ _ _))⟩); obtain ⟨p331, q331, ad331, e331, _, hx331_0⟩ := at_i HR1 HB x5_1; cases e331) | (go_at_call 63; (try simp only [i64_w, i32_w]); (with_reducible refine (spec_l1In.calls (rd l1 x5_1) (wrap64 (-a0_2)) a0_2 true _ A8.out).mono ?_); rintro e w' ⟨rfl, ⟨nd, rfl⟩⟩; (try first | exact ⟨rfl, _, World.drewN_drewN _ _ _⟩ | exact ⟨rfl, _, Eq.trans (World.drewN_drewN _ _ _) (congrArg (World.drewN _) (Nat.add_assoc _ _ _))⟩)))
      repeat (go_quiet (first | (go_at_call 63; (with_reducible refine (spec_l1In.calls a0_2 0 5 true _ A5.out).mono ?_); rintro e w' ⟨rfl, ⟨nd, rfl⟩⟩; (try first | exact ⟨rfl, _, World.drewN_drewN _ _ _⟩ | exact ⟨rfl, _, Eq.trans (World.drewN_drewN _ _ _) (congrArg (World.drewN _) (Nat.add_assoc _ _ _))⟩); have p331 : 0 ≤ (x5_1 : Int) := sa; have q331 : x5_1 < (l1.length : Int) := sa; obtain ⟨ad331, e331, hx331_0⟩ := Kd.at_int HR1.out x5_1 p331 q331; cases e331; replace hx331_0 := hb_ HB hx331_0; replace p331 := eq_true p331; replace q331 := eq_true q331) | (go_at_call 63; (try simp only [i64_w, i32_w]); (with_reducible refine (spec_l1In.calls (rd l1 x5_1) (wrap64 (-a0_2)) a0_2 true _ A8.out).mono ?_); rintro e w' ⟨rfl, ⟨nd, rfl⟩⟩; (try first | exact ⟨rfl, _, World.drewN_drewN _ _ _⟩ | exact ⟨rfl, _, Eq.trans (World.drewN_drewN _ _ _) (congrArg (World.drewN _) (Nat.add_assoc _ _ _))⟩))); try go_wp2_with (first | (go_at_call 63; (with_reducible refine (spec_l1In.calls a0_2 0 5 true _ A5.out).mono ?_); rintro e w' ⟨rfl, ⟨nd, rfl⟩⟩; (try first | exact ⟨rfl, _, World.drewN_drewN _ _ _⟩ | exact ⟨rfl, _, Eq.trans (World.drewN_drewN _ _ _) (congrArg (World.drewN _) (Nat.add_assoc _ _ _))⟩); have p331 : 0 ≤ (x5_1 : Int) := sa; have q331 : x5_1 < (l1.length : Int) := sa; obtain ⟨ad331, e331, hx331_0⟩ := Kd.at_int HR1.out x5_1 p331 q331; cases e331; replace hx331_0 := hb_ HB hx331_0; replace p331 := eq_true p331; replace q331 := eq_true q331) | (go_at_call 63; (try simp only [i64_w, i32_w]); (with_reducible refine (spec_l1In.calls (rd l1 x5_1) (wrap64 (-a0_2)) a0_2 true _ A8.out).mono ?_); rintro e w' ⟨rfl, ⟨nd, rfl⟩⟩; (try first | exact ⟨rfl, _, World.drewN_drewN _ _ _⟩ | exact ⟨rfl, _, Eq.trans (World.drewN_drewN _ _ _) (congrArg (World.drewN _) (Nat.add_assoc _ _ _))⟩))))
      go_roundg k1
      case measure => have := HK1.out; omega
      case rel => exact ⟨(wrap64 (x5_1 + 1)), sc, H', kk1, ⟨sk BK329⟩, ⟨sbw⟩⟩
     ·replace H := im H
      obtain rfl := Option.some.inj H
      obtain ⟨hcz11_0, hcz11_1, hcz11_2, hcz11_3, hfz11_0, hfz11_1, hfz11_2, hfz11_3⟩ := cc4 BK329
      go_wp2_with (first | (go_at_call 63; (with_reducible refine (spec_l1In.calls a0_2 0 5 true _ A5.out).mono ?_); rintro e w' ⟨rfl, ⟨nd, rfl⟩⟩; (try first | exact ⟨rfl, _, World.drewN_drewN _ _ _⟩ | exact ⟨rfl, _, Eq.trans (World.drewN_drewN _ _ _) (congrArg (World.drewN _) (Nat.add_assoc _ _ _))⟩); obtain ⟨p331, q331, ad331, e331, _, hx331_0⟩ := at_i HR1 HB x5_1; cases e331) | (go_at_call 63; (try simp only [i64_w, i32_w]); (with_reducible refine (spec_l1In.calls (rd l1 x5_1) (wrap64 (-a0_2)) a0_2 false _ A8.out).mono ?_); rintro e w' ⟨rfl, ⟨nd, rfl⟩⟩; (try first | exact ⟨rfl, _, World.drewN_drewN _ _ _⟩ | exact ⟨rfl, _, Eq.trans (World.drewN_drewN _ _ _) (congrArg (World.drewN _) (Nat.add_assoc _ _ _))⟩)))
      repeat (go_quiet (first | (go_at_call 63; (with_reducible refine (spec_l1In.calls a0_2 0 5 true _ A5.out).mono ?_); rintro e w' ⟨rfl, ⟨nd, rfl⟩⟩; (try first | exact ⟨rfl, _, World.drewN_drewN _ _ _⟩ | exact ⟨rfl, _, Eq.trans (World.drewN_drewN _ _ _) (congrArg (World.drewN _) (Nat.add_assoc _ _ _))⟩); have p331 : 0 ≤ (x5_1 : Int) := sa; have q331 : x5_1 < (l1.length : Int) := sa; obtain ⟨ad331, e331, hx331_0⟩ := Kd.at_int HR1.out x5_1 p331 q331; cases e331; replace hx331_0 := hb_ HB hx331_0; replace p331 := eq_true p331; replace q331 := eq_true q331) | (go_at_call 63; (try simp only [i64_w, i32_w]); (with_reducible refine (spec_l1In.calls (rd l1 x5_1) (wrap64 (-a0_2)) a0_2 false _ A8.out).mono ?_); rintro e w' ⟨rfl, ⟨nd, rfl⟩⟩; (try first | exact ⟨rfl, _, World.drewN_drewN _ _ _⟩ | exact ⟨rfl, _, Eq.trans (World.drewN_drewN _ _ _) (congrArg (World.drewN _) (Nat.add_assoc _ _ _))⟩))); try go_wp2_with (first | (go_at_call 63; (with_reducible refine (spec_l1In.calls a0_2 0 5 true _ A5.out).mono ?_); rintro e w' ⟨rfl, ⟨nd, rfl⟩⟩; (try first | exact ⟨rfl, _, World.drewN_drewN _ _ _⟩ | exact ⟨rfl, _, Eq.trans (World.drewN_drewN _ _ _) (congrArg (World.drewN _) (Nat.add_assoc _ _ _))⟩); have p331 : 0 ≤ (x5_1 : Int) := sa; have q331 : x5_1 < (l1.length : Int) := sa; obtain ⟨ad331, e331, hx331_0⟩ := Kd.at_int HR1.out x5_1 p331 q331; cases e331; replace hx331_0 := hb_ HB hx331_0; replace p331 := eq_true p331; replace q331 := eq_true q331) | (go_at_call 63; (try simp only [i64_w, i32_w]); (with_reducible refine (spec_l1In.calls (rd l1 x5_1) (wrap64 (-a0_2)) a0_2 false _ A8.out).mono ?_); rintro e w' ⟨rfl, ⟨nd, rfl⟩⟩; (try first | exact ⟨rfl, _, World.drewN_drewN _ _ _⟩ | exact ⟨rfl, _, Eq.trans (World.drewN_drewN _ _ _) (congrArg (World.drewN _) (Nat.add_assoc _ _ _))⟩))))
      go_ret
      exact ⟨se, sbw⟩
    ·replace H := im H
     obtain rfl := Option.some.inj H
     obtain ⟨hcz12_0, hcz12_1, hcz12_2, hcz12_3, hfz12_0, hfz12_1, hfz12_2, hfz12_3⟩ := cc4 BK329
     go_wp2_with (first | (go_at_call 63; (with_reducible refine (spec_l1In.calls a0_2 0 5 false _ A5.out).mono ?_); rintro e w' ⟨rfl, ⟨nd, rfl⟩⟩; (try first | exact ⟨rfl, _, World.drewN_drewN _ _ _⟩ | exact ⟨rfl, _, Eq.trans (World.drewN_drewN _ _ _) (congrArg (World.drewN _) (Nat.add_assoc _ _ _))⟩)))
     repeat (go_quiet (first | (go_at_call 63; (with_reducible refine (spec_l1In.calls a0_2 0 5 false _ A5.out).mono ?_); rintro e w' ⟨rfl, ⟨nd, rfl⟩⟩; (try first | exact ⟨rfl, _, World.drewN_drewN _ _ _⟩ | exact ⟨rfl, _, Eq.trans (World.drewN_drewN _ _ _) (congrArg (World.drewN _) (Nat.add_assoc _ _ _))⟩))); try go_wp2_with (first | (go_at_call 63; (with_reducible refine (spec_l1In.calls a0_2 0 5 false _ A5.out).mono ?_); rintro e w' ⟨rfl, ⟨nd, rfl⟩⟩; (try first | exact ⟨rfl, _, World.drewN_drewN _ _ _⟩ | exact ⟨rfl, _, Eq.trans (World.drewN_drewN _ _ _) (congrArg (World.drewN _) (Nat.add_assoc _ _ _))⟩))))
     go_ret
     exact ⟨se, sbw⟩
   ·have c4b0 := decide_eq_false c4
    clear c4
    obtain rfl := Option.some.inj H
    obtain ⟨hcz13_0, hcz13_1, hcz13_2, hcz13_3, hfz13_0, hfz13_1, hfz13_2, hfz13_3⟩ := cc4 BK329
    go_wp2
    repeat (go_quiet (fail); try go_wp2)
    go_ret
    exact ⟨se, sbw⟩

/-! ### spec_NextsAt: function 31 -/
mutual
def spec_NextsAt.j0 : Nat → Int → Int → List Int → List Int → Bool → Int → Int → Int → List (S106) → Option (List Int)
  | 0, _, _, _, _, _, _, _, _, _ => none
  | k + 1, x1, x2, x3, x9, x20, x334000, x334001, x334002, x334003 => if x20 = true then (some x9) else (spec_NextsAt.l0 k x1 x2 x3 x9 0 x334000 x334001 x334002 x334003)
def spec_NextsAt.l0 : Nat → Int → Int → List Int → List Int → Int → Int → Int → Int → List (S106) → Option (List Int)
  | 0, _, _, _, _, _, _, _, _, _ => none
  | k + 1, x1, x2, x3, x9, x10, x334000, x334001, x334002, x334003 => if x10 < (x3.length : Int) then (if 0 ≤ x10 then ((spec_HopAt.f k x334000 x334001 x334002 x334003 x10 x1 (wrap64 (x2 + (rd x3 x10)))).bind fun t340 => (if x9.length < 17592186044416 then (spec_NextsAt.l0 k x1 x2 x3 (x9 ++ [t340]) (wrap64 (x10 + 1)) x334000 x334001 x334002 x334003) else (none))) else (none)) else (some x9)
end
def spec_NextsAt.f (k : Nat) (a0_0 : Int) (a0_1 : Int) (a0_2 : Int) (l0_3 : List (S106)) (a1 : Int) (a2 : Int) (l3 : List Int) : Option (List Int) := (some (([] : List Int) : List Int)).bind fun y334 => ((spec_AreOffsets.f k a0_0 a0_1 a0_2 l0_3 l3).bind fun t337 => (if t337 = true then ((spec_l1In.f a2 0 1000).bind fun t338 => (spec_NextsAt.j0 k a1 a2 l3 y334 (!t338) a0_0 a0_1 a0_2 l0_3)) else (spec_NextsAt.j0 k a1 a2 l3 y334 true a0_0 a0_1 a0_2 l0_3)))
theorem spec_NextsAt.mono_l : ∀ k, (∀ y0 y1 y2 y3 y4 y5 y6 y7 y8, LeO (spec_NextsAt.j0 k y0 y1 y2 y3 y4 y5 y6 y7 y8) (spec_NextsAt.j0 (k + 1) y0 y1 y2 y3 y4 y5 y6 y7 y8)) ∧ (∀ y0 y1 y2 y3 y4 y5 y6 y7 y8, LeO (spec_NextsAt.l0 k y0 y1 y2 y3 y4 y5 y6 y7 y8) (spec_NextsAt.l0 (k + 1) y0 y1 y2 y3 y4 y5 y6 y7 y8))
  | 0 => ⟨fun _ _ _ _ _ _ _ _ _ r h => by simp [spec_NextsAt.j0] at h, fun _ _ _ _ _ _ _ _ _ r h => by simp [spec_NextsAt.l0] at h⟩
  | k + 1 => by
    obtain ⟨ih0, ih1⟩ := spec_NextsAt.mono_l k
    refine ⟨?_, ?_⟩
    · intro y0 y1 y2 y3 y4 y5 y6 y7 y8
      unfold spec_NextsAt.j0
      have m0 := @spec_AreOffsets.mono
      have m1 := @spec_HopAt.mono
      exact mo
    · intro y0 y1 y2 y3 y4 y5 y6 y7 y8
      unfold spec_NextsAt.l0
      have m0 := @spec_AreOffsets.mono
      have m1 := @spec_HopAt.mono
      exact mo
theorem spec_NextsAt.mono : ∀ a0 a1 a2 a3 a4 a5 a6 k, LeO (spec_NextsAt.f k a0 a1 a2 a3 a4 a5 a6) (spec_NextsAt.f (k + 1) a0 a1 a2 a3 a4 a5 a6) := by
  intro a0 a1 a2 a3 a4 a5 a6 k
  obtain ⟨ih0, ih1⟩ := spec_NextsAt.mono_l k
  unfold spec_NextsAt.f
  have m0 := @spec_AreOffsets.mono
  have m1 := @spec_HopAt.mono
  exact mo
def spec_NextsAt.T7 : Bool × List (List Nat × List Nat) := (true, [([], []), ([], []), ([], []), ([], []), ([], []), ([], []), ([], []), ([5, 6], [5, 6]), ([7], [7]), ([4, 8], [4, 8]), ([1, 2, 3, 9], [1, 2, 3, 9]), ([10], [10]), ([0, 11, 10], [0, 11]), ([12, 12, 0, 1, 2, 3, 4, 5, 6, 7, 8, 9, 10, 11, 12], [0, 12])])
def spec_NextsAt.B7 : List Nat := [0, 0, 0, 0, 0, 0, 0, 96, 224, 496, 1022, 2046, 4095, 8191]
theorem spec_NextsAt.tab7 : rtab .any (opsOf Try.f31 7) = spec_NextsAt.T7 := by kernel_rfl
theorem spec_NextsAt.bits7 : waitsOk spec_NextsAt.T7.2 spec_NextsAt.B7 = true := by kernel_rfl
set_option maxHeartbeats 8000000 in
set_option maxRecDepth 100000 in
theorem spec_NextsAt.calls (k : Nat) (a0_0 : Int) (a0_1 : Int) (a0_2 : Int) (A0_3 : Option Addr) (c0_3 : Nat) (l0_3 : List (S106)) (a1 : Int) (a2 : Int) (A3 : Option Addr) (c3 : Nat) (l3 : List Int) (r : List Int) (w : World) (hr0_3 : Kd.C k106 w A0_3 l0_3.length l0_3) (hc0_3 : l0_3.length ≤ c0_3) (hr3 : Kd.C (Kd.int .i64) w A3 l3.length l3) (hc3 : l3.length ≤ c3) (h : spec_NextsAt.f k a0_0 a0_1 a0_2 l0_3 a1 a2 l3 = some r) :
    Calls Try.prog 31 #[.agg #[.int .i64 a0_0, .int .i64 a0_1, .int .i64 a0_2, .slice A0_3 l0_3.length c0_3], .int .i64 a1, .int .i64 a2, .slice A3 l3.length c3] w fun e w' => ∃ v0_ : Value, e = .returned (v0_) ∧ Kd.R (Kd.int .i64) 3 w' w.heap.size (fun _ => True) v0_ r ∧ Below w.heap.size w w' := by
 have hu29 := Try.underlying29
 have HR0_3 := Aside0.mk hr0_3
 have HC0_3 := Aside0.mk hc0_3
 clear hr0_3 hc0_3
 have HR3 := Aside0.mk hr3
 have HC3 := Aside0.mk hc3
 clear hr3 hc3
 have HB := Aside0.mk (Below.refl w.heap.size w)
 have H : ((some (([] : List Int) : List Int)).bind fun y334 => ((spec_AreOffsets.f k a0_0 a0_1 a0_2 l0_3 l3).bind fun t337 => (if t337 = true then ((spec_l1In.f a2 0 1000).bind fun t338 => (spec_NextsAt.j0 k a1 a2 l3 y334 (!t338) a0_0 a0_1 a0_2 l0_3)) else (spec_NextsAt.j0 k a1 a2 l3 y334 true a0_0 a0_1 a0_2 l0_3)))) = some r := h
 clear h
 obtain ⟨y334, hy334⟩ : ∃ y_ : List Int, y_ = (([] : List Int)) := ⟨_, rfl⟩
 replace H : ((spec_AreOffsets.f k a0_0 a0_1 a0_2 l0_3 l3).bind fun t337 => (if t337 = true then ((spec_l1In.f a2 0 1000).bind fun t338 => (spec_NextsAt.j0 k a1 a2 l3 y334 (!t338) a0_0 a0_1 a0_2 l0_3)) else (spec_NextsAt.j0 k a1 a2 l3 y334 true a0_0 a0_1 a0_2 l0_3))) = some r := by first | (rw [hy334]; with_reducible exact H) | (have H2_ := (Option.bind_some _ _).symm.trans H; rw [hy334]; with_reducible exact H2_) | (have H2_ := (Option.bind_some _ _).symm.trans H; with_reducible exact H2_) | with_reducible exact H | (rw [hy334]; exact H) | exact H
 have Ny334 := Aside0.mk hy334
 clear hy334
 have HC5 := Aside0.mk H
 clear H
 go_enter Try.func31, Try.ntmps31
 go_upto_region 2 with (first | ((with_reducible refine gate_dst (N := 4) rfl ?_); refine bx 4 #[.int .i64 a0_0, .int .i64 a0_1, .int .i64 a0_2, .slice A0_3 l0_3.length c0_3] 29 ?_; intro gb333 hg w6 hbox hb; have BK333 := Aside0.mk hbox; have GW333 := bz w hg; have GE333 := bz w hg; replace HB := bs hb; clear hb hbox hg) | ((with_reducible refine gate_dst (N := 11) rfl ?_); refine Kd.R_lit (Kd.int .i64) _ 3 ?hg (N := 11) ?hd (xs := ([] : List Int)) (inner := []) (ok := fun _ => True) (okp := fun _ => True) ?hr ?hp (fun _ hk => hk) trivial (Below.refl _ _) (Nat.le_refl _) (by simp) ?_; (case hd => rfl); (case hg => rfl); (case hr => first | (go_simp; done) | (go_simp; rfl)); (case hp => exact (Reps.none _ _)); intro v335 w7 ho8 hb hg_ hnew_; clear hg_ hnew_; (first | rw [← Ny334.out] at ho8 | (simp only [Int.reduceToNat] at ho8; rw [← Ny334.out] at ho8)); have HO336 := Aside0.mk (Kd.R_lower ho8 (below_size (sbw))); replace BK333 := bb BK333 hb; replace HB := bsw hb; clear hb ho8))
 (try simp only [Act.put, List.setIfInBounds_toArray, List.set_cons_zero, List.set_cons_succ])
 go_cut [20] (fun v20 wc => ∃ (kq : Nat) (x20_4 : Bool), v20 = .bool x20_4 ∧ Aside0 (spec_NextsAt.j0 kq a1 a2 l3 y334 x20_4 a0_0 a0_1 a0_2 l0_3 = some r) ∧ Aside0 (kq ≤ k) ∧ Aside0 (Kd.R (Kd.int .i64) 3 wc w.heap.size (fun _ => True) v335 y334) ∧ Aside0 (wc.heap[gb333]? = some (.cells #[.int .i64 a0_0, .int .i64 a0_1, .int .i64 a0_2, (.slice A0_3 l0_3.length c0_3)] 29 (0, 0))) ∧ Aside0 (Below w.heap.size w wc))
 case first =>
  have H := HC5.out
  clear HC5
  obtain ⟨t337, A9, H⟩ := bnd H
  obtain rfl | rfl := tt t337
  ·replace H := ip H
   obtain ⟨t338, A11, H⟩ := bnd H
   have H' := Aside0.mk H
   clear H
   obtain ⟨hcz12_0, hcz12_1, hcz12_2, hcz12_3, hfz12_0, hfz12_1, hfz12_2, hfz12_3⟩ := cc4 BK333
   go_wp2_with (first | ((with_reducible refine gate_callee (f := 77) rfl ?_); refine gL (some 14) Try.func77 #[.agg #[.int .i64 a0_0, .int .i64 a0_1, .int .i64 a0_2, .slice A0_3 l0_3.length c0_3], .slice A3 l3.length c3] ?_; (with_reducible refine (spec_AreOffsets.calls k a0_0 a0_1 a0_2 _ _ l0_3 _ _ l3 true _ ?side1 ?side2 ?side3 ?side4 A9.out).mono ?_); (case side1 => exact cb HR0_3); (case side2 => exact HC0_3.out); (case side3 => exact cb HR3); (case side4 => exact HC3.out); rintro e w13 ⟨rfl, hb⟩; refine ⟨_, rfl, ?_⟩; replace HO336 := Aside0.mk (Kd.R_below (sr HO336) hb); replace BK333 := bb BK333 hb; replace HB := bsw hb; (try clear hb); (try clear hb2); (try clear hk); (try clear hi)) | (go_at_call 63; (with_reducible refine (spec_l1In.calls a2 0 1000 t338 _ A11.out).mono ?_); rintro e w' ⟨rfl, ⟨nd, rfl⟩⟩))
   go_meet
   case rel => exact ⟨_, (!t338), sc, H', ⟨by first | omega | exact Nat.le_refl _⟩, ⟨sr HO336⟩, ⟨sk BK333⟩, ⟨sbw⟩⟩
  ·replace H := im H
   have H' := Aside0.mk H
   clear H
   obtain ⟨hcz14_0, hcz14_1, hcz14_2, hcz14_3, hfz14_0, hfz14_1, hfz14_2, hfz14_3⟩ := cc4 BK333
   go_wp2_with (first | ((with_reducible refine gate_callee (f := 77) rfl ?_); refine gL (some 14) Try.func77 #[.agg #[.int .i64 a0_0, .int .i64 a0_1, .int .i64 a0_2, .slice A0_3 l0_3.length c0_3], .slice A3 l3.length c3] ?_; (with_reducible refine (spec_AreOffsets.calls k a0_0 a0_1 a0_2 _ _ l0_3 _ _ l3 false _ ?side1 ?side2 ?side3 ?side4 A9.out).mono ?_); (case side1 => exact cb HR0_3); (case side2 => exact HC0_3.out); (case side3 => exact cb HR3); (case side4 => exact HC3.out); rintro e w15 ⟨rfl, hb⟩; refine ⟨_, rfl, ?_⟩; replace HO336 := Aside0.mk (Kd.R_below (sr HO336) hb); replace BK333 := bb BK333 hb; replace HB := bsw hb; (try clear hb); (try clear hb2); (try clear hk); (try clear hi)))
   go_meet
   case rel => exact ⟨_, (true), sc, H', ⟨by first | omega | exact Nat.le_refl _⟩, ⟨sr HO336⟩, ⟨sk BK333⟩, ⟨sbw⟩⟩
 case rest =>
  clear HC5
  try clear hcz12_0
  try clear hcz12_1
  try clear hcz12_2
  try clear hcz12_3
  try clear hcz14_0
  try clear hcz14_1
  try clear hcz14_2
  try clear hcz14_3
  try clear hfz12_0
  try clear hfz12_1
  try clear hfz12_2
  try clear hfz12_3
  try clear hfz14_0
  try clear hfz14_1
  try clear hfz14_2
  try clear hfz14_3
  obtain ⟨kq, x20_4, rfl, HA, HJ4, HO_9, BK333, HB⟩ := hcut
  cases kq with
  | zero => exact absurd HA.out (by simp [spec_NextsAt.j0])
  | succ kj4 =>
   have H := HA.out
   clear HA
   simp only [spec_NextsAt.j0] at H
   obtain rfl | rfl := tt x20_4
   ·replace H := ip H
    obtain rfl := Option.some.inj H
    go_wp2
    go_ret
    exact ⟨_, se, sr HO_9, sbw⟩
   ·replace H := im H
    have H' := Aside0.mk H
    clear H
    go_wp2
    go_loopg [9, 10] kj4 (fun kq v9 v10 w' => ∃ (x9_2 : List Int) (x10_2 : Int), v10 = .int .i64 x10_2 ∧ Aside0 (spec_NextsAt.l0 kq a1 a2 l3 x9_2 x10_2 a0_0 a0_1 a0_2 l0_3 = some r) ∧ Aside0 (kq ≤ kj4) ∧ Aside0 (Kd.R (Kd.int .i64) 3 w' w.heap.size (fun _ => True) v9 x9_2) ∧ Aside0 (w'.heap[gb333]? = some (.cells #[.int .i64 a0_0, .int .i64 a0_1, .int .i64 a0_2, (.slice A0_3 l0_3.length c0_3)] 29 (0, 0))) ∧ Aside0 (Below w.heap.size w w'))
    case atStart => exact ⟨(y334), (0), sc, H', kk0, ⟨sr HO_9⟩, ⟨sk BK333⟩, ⟨sbw⟩⟩
    case round =>
     clear H'
     try clear hcz12_0
     try clear hcz12_1
     try clear hcz12_2
     try clear hcz12_3
     try clear hcz14_0
     try clear hcz14_1
     try clear hcz14_2
     try clear hcz14_3
     try clear hfz12_0
     try clear hfz12_1
     try clear hfz12_2
     try clear hfz12_3
     try clear hfz14_0
     try clear hfz14_1
     try clear hfz14_2
     try clear hfz14_3
     obtain ⟨x9_2, x10_2, rfl, HA, HK2, HO_9, BK333, HB⟩ := hrel
     cases gk with
     | zero => exact absurd HA.out (by simp [spec_NextsAt.l0])
     | succ k2 =>
      have H := HA.out
      clear HA
      simp only [spec_NextsAt.l0] at H
      obtain ⟨c17, H⟩ | ⟨c17, H⟩ := ie_ H
      ·have c17b0 := decide_eq_true c17
       clear c17
       obtain ⟨c18b0, H⟩ := id_ H
       obtain ⟨t340, A19, H⟩ := bnd H
       obtain ⟨LMc20, H⟩ := il_ H
       obtain ⟨y341, hy341⟩ : ∃ y_ : List Int, y_ = (x9_2 ++ [t340]) := ⟨_, rfl⟩
       replace H : (spec_NextsAt.l0 k2 a1 a2 l3 y341 (wrap64 (x10_2 + 1)) a0_0 a0_1 a0_2 l0_3) = some r := by first | (rw [hy341]; with_reducible exact H) | (have H2_ := (Option.bind_some _ _).symm.trans H; rw [hy341]; with_reducible exact H2_) | (have H2_ := (Option.bind_some _ _).symm.trans H; with_reducible exact H2_) | with_reducible exact H | (rw [hy341]; exact H) | exact H
       have Ny341 := Aside0.mk hy341
       clear hy341
       have H' := Aside0.mk H
       clear H
       try go_wp2
       replace HO_9 := Aside0.mk (Kd.R_drew HO_9.out)
       replace BK333 := Aside0.mk (blk_drew BK333.out)
       replace HB := Aside0.mk (below_drew1 HB.out)
       obtain ⟨p339, q339, ad339, e339, hw339_0, hx339_0⟩ := at_i HR3 HB x10_2
       cases e339
       refine start_ (n := 14) (S := fun w' => w'.cell? ⟨gb333, 0, none⟩ = some (.int .i64 a0_0) ∧ w'.cell? ⟨gb333, 1, none⟩ = some (.int .i64 a0_1) ∧ w'.cell? ⟨gb333, 2, none⟩ = some (.int .i64 a0_2) ∧ w'.cell? ⟨gb333, 3, none⟩ = some (.slice A0_3 l0_3.length c0_3) ∧ w'.cell? (ad339.add (x10_2).toNat) = some (.int .i64 (rd l3 x10_2))) (ds := []) #[false, false, false, false, false, false, false, false, false, false, false, false, false, false] (by kernel_rfl) rfl rfl ⟨bc0 BK333, bc1 BK333, bc2 BK333, bc3 BK333, (hb_ HB hw339_0)⟩ (fun hHeld => ?_); refine with_tabW spec_NextsAt.tab7 spec_NextsAt.bits7 (fun HT_ HW_ => ?_)
       generalize wr.drew = w21 at HO_9 BK333 HB hx339_0 hHeld ⊢
       refine put 0 28 #[true, false, false, false, false, false, false, false, false, false, false, false, false, false] HT_ ?_
       refine put 2 30 #[true, false, true, false, false, false, false, false, false, false, false, false, false, false] HT_ ?_
       refine put 3 31 #[true, false, true, true, false, false, false, false, false, false, false, false, false, false] HT_ ?_
       refine put 4 32 #[true, false, true, true, true, false, false, false, false, false, false, false, false, false] HT_ ?_
       refine put 5 33 #[true, false, true, true, true, true, false, false, false, false, false, false, false, false] HT_ ?_
       refine put 6 34 #[true, false, true, true, true, true, true, false, false, false, false, false, false, false] HT_ ?_
       refine put 7 35 #[true, false, true, true, true, true, true, true, false, false, false, false, false, false] HT_ ?_
       refine tat5 1 29 #[true, true, true, true, true, true, true, true, false, false, false, false, false, false] HT_ HW_ hHeld ?_
       refine tat5 8 36 #[true, true, true, true, true, true, true, true, true, false, false, false, false, false] HT_ HW_ hHeld ?_
       refine put 9 37 #[true, true, true, true, true, true, true, true, true, true, false, false, false, false] HT_ ?_
       refine one_ (i := 10) (N := some 38) #[true, true, true, true, true, true, true, true, true, true, true, false, false, false] rfl rfl (one_of HT_.out (by kernel_rfl)) (by decide) (fun K hK => ?_)
       refine goes_ Try.func15 (by kernel_rfl) rfl #[.agg #[.int .i64 a0_0, .int .i64 a0_1, .int .i64 a0_2, .slice A0_3 l0_3.length c0_3], .int .i64 x10_2, .int .i64 a1, .int .i64 (wrap64 (a2 + (rd l3 x10_2)))] (by rfl) rfl rfl sl ?_
       with_reducible refine (spec_HopAt.calls k2 a0_0 a0_1 a0_2 _ _ l0_3 x10_2 a1 (wrap64 (a2 + (rd l3 x10_2))) t340 _ ?side1 ?side2 A19.out).mono ?_
       (case side1 => exact cb HR0_3)
       (case side2 => exact HC0_3.out)
       rintro e w22 ⟨rfl, hb⟩
       refine ⟨_, rfl, ?_⟩
       replace HO_9 := Aside0.mk (Kd.R_below (sr HO_9) hb)
       replace BK333 := bb BK333 hb
       replace HB := bsw hb
       (try clear hb)
       (try clear hb2)
       (try clear hk)
       (try clear hi)
       refine hK.out _ _ ⟨bc0 BK333, bc1 BK333, bc2 BK333, bc3 BK333, (hb_ HB hw339_0)⟩ (fun hHeld => ?_)
       clear hK K
       refine norm_ (a' := ?_) ?_ ?_
       rotate_left
       ·show Act.put _ (some 38) _ = _
        simp only [Act.put, List.setIfInBounds_toArray, List.set_cons_zero, List.set_cons_succ, i64_w, i32_w]
        rfl
       refine one_ (i := 11) (N := some 39) #[true, true, true, true, true, true, true, true, true, true, true, true, false, false] rfl rfl (one_of HT_.out (by kernel_rfl)) (by decide) (fun K hK => ?_)
       refine value_ (w1 := ?_) (v := ?_) (by rfl) rfl ?_ ?_
       rotate_left 2
       ·go_simp
        constructor
        ·rfl
        ·rfl
       refine hK.out _ _ ⟨(blk_cell (blk_alloc BK333.out _) 0).trans rfl, (blk_cell (blk_alloc BK333.out _) 1).trans rfl, (blk_cell (blk_alloc BK333.out _) 2).trans rfl, (blk_cell (blk_alloc BK333.out _) 3).trans rfl, (World.cell?_alloc_lt _ _ _ (World.block_lt_of_cell? _ _ ((hb_ HB hw339_0)))).trans ((hb_ HB hw339_0))⟩ (fun hHeld => ?_)
       clear hK K
       refine norm_ (a' := ?_) ?_ ?_
       rotate_left
       ·show Act.put _ (some 39) _ = _
        simp only [Act.put, List.setIfInBounds_toArray, List.set_cons_zero, List.set_cons_succ, i64_w, i32_w]
        rfl
       refine one_ (i := 12) (N := some 40) #[true, true, true, true, true, true, true, true, true, true, true, true, true, false] rfl rfl (one_of HT_.out (by kernel_rfl)) (by decide) (fun K hK => ?_)
       refine Kd.R_append_step (Kd.int .i64) (w0 := w) w.heap.size (by rfl) (.tmp 28) (.tmp 39) 40 3 (.int .i64 0) 8 rfl Try.underlying40 info3 rfl (by decide) (by omega) u9 x9_2 t340 [.int .i64 t340] (fun _ => True) (fun _ => False) rfl rfl ?aP (fun _ hk => hk.elim) ?aF ?aO ?aB ?aS ?aL ?_
       (case aP => exact rfl)
       (case aB => exact (sbw))
       (case aF => exact (fun _ _ => trivial))
       (case aO => exact (sr HO_9))
       (case aS => exact (below_size (sbw)))
       (case aL => have := LMc20.out; omega)
       intro v342 w23 ho hb hg hat
       rw [← Ny341.out] at ho
       replace BK333 := Aside0.mk (blk_grown (g := gb333) (o := .cells #[.int .i64 a0_0, .int .i64 a0_1, .int .i64 a0_2, .slice A0_3 l0_3.length c0_3] 29 (0, 0)) (sk BK333) hg (Kd.R_ne HO_9.out BK333.out (by decide)))
       replace HB := Aside0.mk hb
       have HO343 := Aside0.mk ho
       clear HO_9 ho hb hg hat
       refine hK.out _ _ ⟨bc0 BK333, bc1 BK333, bc2 BK333, bc3 BK333, (hb_ HB hw339_0)⟩ (fun hHeld => ?_)
       clear hK K
       refine norm_ (a' := ?_) ?_ ?_
       rotate_left
       ·show Act.put _ (some 40) _ = _
        simp only [Act.put, List.setIfInBounds_toArray, List.set_cons_zero, List.set_cons_succ, i64_w, i32_w]
        rfl
       refine put 13 9 #[true, true, true, true, true, true, true, true, true, true, true, true, true, true] HT_ ?_
       refine done_ (done_of HT_.out (by kernel_rfl)) ?_
       try go_wp2
       go_roundg k2
       case measure => have := HJ4.out; have := HK2.out; omega
       case rel => exact ⟨(y341), (wrap64 (x10_2 + 1)), sc, H', ⟨by have := HJ4.out; have := HK2.out; omega⟩, ⟨sr HO343⟩, ⟨sk BK333⟩, ⟨sbw⟩⟩
      ·have c17b0 := decide_eq_false c17
       clear c17
       obtain rfl := Option.some.inj H
       go_wp2
       go_ret
       exact ⟨_, se, sr HO_9, sbw⟩

-- NOT PRINTED: function 100 (impl_Piece)

/-! ### impl_IsSpan: function 90 -/
def impl_IsSpan.f (a0_0 : Int) (a0_1 : Int) : Option (Bool) := if a0_0 ≥ 0 then (if a0_1 ≤ 1000 then (some (decide (a0_0 < a0_1))) else (some false)) else (some false)
set_option maxHeartbeats 8000000 in
set_option maxRecDepth 100000 in
theorem impl_IsSpan.calls (a0_0 : Int) (a0_1 : Int) (r : Bool) (w : World) (h : impl_IsSpan.f a0_0 a0_1 = some r) :
    Calls Try.prog 90 #[.agg #[.int .i64 a0_0, .int .i64 a0_1]] w fun e w' => e = .returned (.bool r) ∧ Below w.heap.size w w' := by
 have hu91 := Try.underlying91
 have HB := Aside0.mk (Below.refl w.heap.size w)
 have H : (if a0_0 ≥ 0 then (if a0_1 ≤ 1000 then (some (decide (a0_0 < a0_1))) else (some false)) else (some false)) = some r := h
 clear h
 obtain ⟨c2, H⟩ | ⟨c2, H⟩ := ie_ H
 ·have c2b0 := decide_eq_true c2
  clear c2
  obtain ⟨c3, H⟩ | ⟨c3, H⟩ := ie_ H
  ·have c3b0 := decide_eq_true c3
   clear c3
   obtain rfl := Option.some.inj H
   go_enter Try.func90, Try.ntmps90
   go_wp2_with (first | ((with_reducible refine gate_dst (N := 1) rfl ?_); refine bx 1 #[.int .i64 a0_0, .int .i64 a0_1] 91 ?_; intro gb344 hg w4 hbox hb; have BK344 := Aside0.mk hbox; have GW344 := bz w hg; have GE344 := bz w hg; replace HB := bs hb; clear hb hbox hg; obtain ⟨hcz5_0, hcz5_1, hfz5_0, hfz5_1⟩ := cc2 BK344))
   go_ret
   exact ⟨se, sbw⟩
  ·have c3b0 := decide_eq_false c3
   clear c3
   obtain rfl := Option.some.inj H
   go_enter Try.func90, Try.ntmps90
   go_wp2_with (first | ((with_reducible refine gate_dst (N := 1) rfl ?_); refine bx 1 #[.int .i64 a0_0, .int .i64 a0_1] 91 ?_; intro gb344 hg w6 hbox hb; have BK344 := Aside0.mk hbox; have GW344 := bz w hg; have GE344 := bz w hg; replace HB := bs hb; clear hb hbox hg; obtain ⟨hcz7_0, hcz7_1, hfz7_0, hfz7_1⟩ := cc2 BK344))
   go_ret
   exact ⟨se, sbw⟩
 ·have c2b0 := decide_eq_false c2
  clear c2
  obtain rfl := Option.some.inj H
  go_enter Try.func90, Try.ntmps90
  go_wp2_with (first | ((with_reducible refine gate_dst (N := 1) rfl ?_); refine bx 1 #[.int .i64 a0_0, .int .i64 a0_1] 91 ?_; intro gb344 hg w8 hbox hb; have BK344 := Aside0.mk hbox; have GW344 := bz w hg; have GE344 := bz w hg; replace HB := bs hb; clear hb hbox hg; obtain ⟨hcz9_0, hcz9_1, hfz9_0, hfz9_1⟩ := cc2 BK344))
  go_ret
  exact ⟨se, sbw⟩

/-! ### impl_InSpan: function 87 -/
def impl_InSpan.f (a0_0 : Int) (a0_1 : Int) (a1 : Int) : Option (Bool) := (impl_IsSpan.f a0_0 a0_1).bind fun t346 => (if t346 = true then (if a0_0 ≤ a1 then (some (decide (a1 < a0_1))) else (some false)) else (some false))
set_option maxHeartbeats 8000000 in
set_option maxRecDepth 100000 in
theorem impl_InSpan.calls (a0_0 : Int) (a0_1 : Int) (a1 : Int) (r : Bool) (w : World) (h : impl_InSpan.f a0_0 a0_1 a1 = some r) :
    Calls Try.prog 87 #[.agg #[.int .i64 a0_0, .int .i64 a0_1], .int .i64 a1] w fun e w' => e = .returned (.bool r) ∧ Below w.heap.size w w' := by
 have hu91 := Try.underlying91
 have HB := Aside0.mk (Below.refl w.heap.size w)
 have H : ((impl_IsSpan.f a0_0 a0_1).bind fun t346 => (if t346 = true then (if a0_0 ≤ a1 then (some (decide (a1 < a0_1))) else (some false)) else (some false))) = some r := h
 clear h
 obtain ⟨t346, A3, H⟩ := bnd H
 obtain rfl | rfl := tt t346
 ·replace H := ip H
  obtain ⟨c5, H⟩ | ⟨c5, H⟩ := ie_ H
  ·have c5b0 := decide_eq_true c5
   clear c5
   obtain rfl := Option.some.inj H
   go_enter Try.func87, Try.ntmps87
   go_wp2_with (first | ((with_reducible refine gate_dst (N := 2) rfl ?_); refine bx 2 #[.int .i64 a0_0, .int .i64 a0_1] 91 ?_; intro gb345 hg w6 hbox hb; have BK345 := Aside0.mk hbox; have GW345 := bz w hg; have GE345 := bz w hg; replace HB := bs hb; clear hb hbox hg; obtain ⟨hcz7_0, hcz7_1, hfz7_0, hfz7_1⟩ := cc2 BK345) | ((with_reducible refine gate_callee (f := 90) rfl ?_); refine gL (some 6) Try.func90 #[.agg #[.int .i64 a0_0, .int .i64 a0_1]] ?_; (with_reducible refine (impl_IsSpan.calls a0_0 a0_1 true _ A3.out).mono ?_); rintro e w8 ⟨rfl, hb⟩; refine ⟨_, rfl, ?_⟩; replace BK345 := bb BK345 hb; replace HB := bsw hb; (try clear hb); (try clear hb2); (try clear hk); (try clear hi); obtain ⟨hcz9_0, hcz9_1, hfz9_0, hfz9_1⟩ := cc2 BK345))
   go_ret
   exact ⟨se, sbw⟩
  ·have c5b0 := decide_eq_false c5
   clear c5
   obtain rfl := Option.some.inj H
   go_enter Try.func87, Try.ntmps87
   go_wp2_with (first | ((with_reducible refine gate_dst (N := 2) rfl ?_); refine bx 2 #[.int .i64 a0_0, .int .i64 a0_1] 91 ?_; intro gb345 hg w10 hbox hb; have BK345 := Aside0.mk hbox; have GW345 := bz w hg; have GE345 := bz w hg; replace HB := bs hb; clear hb hbox hg; obtain ⟨hcz11_0, hcz11_1, hfz11_0, hfz11_1⟩ := cc2 BK345) | ((with_reducible refine gate_callee (f := 90) rfl ?_); refine gL (some 6) Try.func90 #[.agg #[.int .i64 a0_0, .int .i64 a0_1]] ?_; (with_reducible refine (impl_IsSpan.calls a0_0 a0_1 true _ A3.out).mono ?_); rintro e w12 ⟨rfl, hb⟩; refine ⟨_, rfl, ?_⟩; replace BK345 := bb BK345 hb; replace HB := bsw hb; (try clear hb); (try clear hb2); (try clear hk); (try clear hi); obtain ⟨hcz13_0, hcz13_1, hfz13_0, hfz13_1⟩ := cc2 BK345))
   go_ret
   exact ⟨se, sbw⟩
 ·replace H := im H
  obtain rfl := Option.some.inj H
  go_enter Try.func87, Try.ntmps87
  go_wp2_with (first | ((with_reducible refine gate_dst (N := 2) rfl ?_); refine bx 2 #[.int .i64 a0_0, .int .i64 a0_1] 91 ?_; intro gb345 hg w14 hbox hb; have BK345 := Aside0.mk hbox; have GW345 := bz w hg; have GE345 := bz w hg; replace HB := bs hb; clear hb hbox hg; obtain ⟨hcz15_0, hcz15_1, hfz15_0, hfz15_1⟩ := cc2 BK345) | ((with_reducible refine gate_callee (f := 90) rfl ?_); refine gL (some 6) Try.func90 #[.agg #[.int .i64 a0_0, .int .i64 a0_1]] ?_; (with_reducible refine (impl_IsSpan.calls a0_0 a0_1 false _ A3.out).mono ?_); rintro e w16 ⟨rfl, hb⟩; refine ⟨_, rfl, ?_⟩; replace BK345 := bb BK345 hb; replace HB := bsw hb; (try clear hb); (try clear hb2); (try clear hk); (try clear hi)))
  go_ret
  exact ⟨se, sbw⟩

-- NOT PRINTED: function 101 (impl_PieceAt_1)

end Go.Proofs.Ytlakjlolahjphaa.QFnExactNextsAt
