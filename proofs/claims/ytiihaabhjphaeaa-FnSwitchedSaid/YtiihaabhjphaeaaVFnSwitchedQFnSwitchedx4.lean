/- Printed by a program of the session. Conditions: none. (squeezed). -/
import Derived.Test.YtiihaabhjphaeaaVFnSwitchedQFnSwitchedx3
namespace Go.Proofs.Ytiihaabhjphaeaa.QFnSwitched
set_option maxHeartbeats 8000000
set_option maxRecDepth 100000
open Go.RowKit Go.Proofs.YtiihaabhjphaeaaW.PrintWords Go.Proofs.YtiihaabhjphaeaaW.PrintLast Go.Proofs.YtiihaabhjphaeaaW.PrintMore Go.Proofs.Ytiihaabhjphaeaa.Open Go.Proofs.Ytiihaabhjphaeaa.Sq
attribute [local go_sem] max2_int min2_int max_two min_two max_three min_three max_four min_four   -- for this text's walks alone
attribute [local go_sem] isSome_set
set_option linter.unusedVariables false
set_option linter.unusedSimpArgs false

def impl_nextIn.f (a0_0 : Int) (a0_1 : Int) (a0_2 : Int) (l0_3 : List (S105)) (a1 : Int) (a2 : Int) (a3 : Int) : Option (Int × Bool) := (impl_TableIn.f a0_0 a0_1 a0_2 l0_3 a1 a2).bind fun bt170 => (if bt170.2.2.2 = true then ((impl_isIndex.f a3 (bt170.2.2.1.length : Int)).bind fun t179 => (if t179 = true then (if 0 ≤ a3 then (if a3 < (bt170.2.2.1.length : Int) then (some (rd bt170.2.2.1 a3, true)) else (none)) else (none)) else (some ((-1), false)))) else (some ((-1), false)))
theorem e4_0 {P : Prop} (h : P := by
 go_enter Try.func81, Try.ntmps81
 go_wp2_with (first | ((with_reducible refine gd 4 rfl ?_); (try (refine gate_guard (by rfl) ?_; dsimp only)); refine bx 4 #[.int .i64 a0_0, .int .i64 a0_1, .int .i64 a0_2, .slice A0_3 l0_3.length c0_3] 31 ?_; intro gb169 hg w11 hbox hb; have GW169 := bz w hg; have GE169 := bz w hg; replace HB := bs hb; have BK169 := am hbox; clear hb hbox hg; obtain ⟨hcz12_0, hcz12_1, hcz12_2, hcz12_3, hfz12_0, hfz12_1, hfz12_2, hfz12_3⟩ := cc4 BK169) | (have _ := A7; (with_reducible refine gc 41 rfl ?_); refine gL (some 16) Try.func41 #[.agg #[.int .i64 a0_0, .int .i64 a0_1, .int .i64 a0_2, .slice A0_3 l0_3.length c0_3], .int .i64 a1, .int .i64 a2] ?_; (with_reducible refine (impl_TableIn.calls a0_0 a0_1 a0_2 _ _ l0_3 a1 a2 t170 t171 t174 true _ ?side1 ?side2 A5.out).mono ?_); (case side1 => exact cb HR0_3); (case side2 => exact HC0_3.out); rintro e w13 ⟨v172, v175, rfl, ho0, ho1, hb⟩; refine ⟨_, rfl, ?_⟩; have HO173 := am (Kd.R_lower ho0 (below_size (sbw))); have HO176 := am (Kd.R_lower ho1 (below_size (sbw))); replace BK169 := bb BK169 hb; replace HB := bsw hb; (try clear hb); (try clear ho0); (try clear ho1)) | ((with_reducible refine gd 10 rfl ?_); (try (refine gate_guard (by rfl) ?_; dsimp only)); refine bx 10 #[.int .i64 0, .slice none 0 0, .slice none 0 0] 55 ?_; intro gb178 hg w14 hbox hb; replace HO173 := rb HO173 hb; replace HO176 := rb HO176 hb; have GW178 := bzw w hg; have GE178 := bzw w hg; replace HB := bsw hb; have BK178 := am hbox; have NB169_178 := nl BK169 hg; have NB178_169 := ng BK169 hg; replace BK169 := bb BK169 hb; clear hb hbox hg; have hnb15 := NB178_169.out; have hnc15 := NB169_178.out; obtain ⟨hcz16_0, hcz16_1, hcz16_2, hfz16_0, hfz16_1, hfz16_2⟩ := cc3 BK178; obtain ⟨Ao17, co17, eo17⟩ := Kd.R_slice HO173.out; subst eo17; obtain ⟨Ao18, co18, eo18⟩ := Kd.R_slice HO176.out; subst eo18) | (have _ := c9b0; go_at_call 77; (with_reducible refine (impl_isIndex.calls a3 (t174.length : Int) true _ A7.out).mono ?_); rintro e w' ⟨rfl, ⟨nd, rfl⟩⟩; have p180 : 0 ≤ (a3 : Int) := sa; have q180 : a3 < (t174.length : Int) := sa; obtain ⟨ad180, e180, hx180_0⟩ := Kd.at_int (Kd.R_reads' HO176.out).2.2 a3 p180 q180; cases e180; have hn180_0 : ad180.block ≠ gb178 := Kd.own_blk (Kd.R_ne HO176.out BK178.out (by decide)); have hn180_1 : ad180.block ≠ gb178 := Kd.own_blk (Kd.R_ne HO176.out BK178.out (by decide)); have hn180_2 : ad180.block ≠ gb178 := Kd.own_blk (Kd.R_ne HO176.out BK178.out (by decide)); replace hx180_0 := (cell_far (p := ⟨gb178, 0, none⟩) (by first | (rw [add_block]; exact hn180_0) | exact hn180_0) (.int .i64 t170)).trans hx180_0; replace hx180_0 := (cell_far (p := ⟨gb178, 1, none⟩) (by first | (rw [add_block]; exact hn180_1) | exact hn180_1) (.slice Ao17 t171.length co17)).trans hx180_0; replace hx180_0 := (cell_far (p := ⟨gb178, 2, none⟩) (by first | (rw [add_block]; exact hn180_2) | exact hn180_2) (.slice (some ad180) t174.length co18)).trans hx180_0; clear hn180_0; clear hn180_1; clear hn180_2; replace p180 := eq_true p180; replace q180 := eq_true q180) | (have _ := A7; go_at_call 77; (with_reducible refine (impl_isIndex.calls a3 (t174.length : Int) false _ A7.out).mono ?_); rintro e w' ⟨rfl, ⟨nd, rfl⟩⟩) | ((with_reducible refine gc 41 rfl ?_); refine gL (some 16) Try.func41 #[.agg #[.int .i64 a0_0, .int .i64 a0_1, .int .i64 a0_2, .slice A0_3 l0_3.length c0_3], .int .i64 a1, .int .i64 a2] ?_; (with_reducible refine (impl_TableIn.calls a0_0 a0_1 a0_2 _ _ l0_3 a1 a2 t170 t171 t174 false _ ?side1 ?side2 A5.out).mono ?_); (case side1 => exact cb HR0_3); (case side2 => exact HC0_3.out); rintro e w29 ⟨v172, v175, rfl, ho0, ho1, hb⟩; refine ⟨_, rfl, ?_⟩; have HO173 := am (Kd.R_lower ho0 (below_size (sbw))); have HO176 := am (Kd.R_lower ho1 (below_size (sbw))); replace BK169 := bb BK169 hb; replace HB := bsw hb; (try clear hb); (try clear ho0); (try clear ho1)))
 first
 | have _ := A7
   go_ret2
   exact ⟨se, sbw⟩
 | go_ret2
   exact ⟨se, sbw⟩
   ) : P := h
theorem impl_nextIn.calls (a0_0 : Int) (a0_1 : Int) (a0_2 : Int) (A0_3 : Option Addr) (c0_3 : Nat) (l0_3 : List (S105)) (a1 : Int) (a2 : Int) (a3 : Int) (r1 : Int) (r2 : Bool) (w : World) (hr0_3 : Kd.C k105 w A0_3 l0_3.length l0_3) (hc0_3 : l0_3.length ≤ c0_3) (h : impl_nextIn.f a0_0 a0_1 a0_2 l0_3 a1 a2 a3 = some (r1, r2)) :
    Calls Try.prog 81 #[.agg #[.int .i64 a0_0, .int .i64 a0_1, .int .i64 a0_2, .slice A0_3 l0_3.length c0_3], .int .i64 a1, .int .i64 a2, .int .i64 a3] w fun e w' => e = .returned (.tuple #[.int .i64 r1, .bool r2]) ∧ Below w.heap.size w w' := by
 have hu31 := Try.underlying31
 have hu55 := Try.underlying55
 have HR0_3 := am hr0_3
 have HC0_3 := am hc0_3
 clear hr0_3 hc0_3
 have HB := am (Below.refl w.heap.size w)
 have H := h; unfold impl_nextIn.f at H
 clear h
 obtain ⟨⟨t170, t171, t174, t177⟩, A5, H⟩ := bnd H
 try dsimp only at H
 obtain rfl | rfl := tt t177
 ·replace H := ip H
  obtain ⟨t179, A7, H⟩ := bnd H
  obtain rfl | rfl := tt t179
  ·replace H := ip H
   obtain ⟨c9b0, H⟩ := id_ H
   obtain ⟨c10b0, H⟩ := id_ H
   simp only [Option.some.injEq, Prod.mk.injEq] at H
   obtain ⟨rfl, rfl⟩ := H
   exact e4_0
  ·replace H := im H
   simp only [Option.some.injEq, Prod.mk.injEq] at H
   obtain ⟨rfl, rfl⟩ := H
   exact e4_0
 ·replace H := im H
  simp only [Option.some.injEq, Prod.mk.injEq] at H
  obtain ⟨rfl, rfl⟩ := H
  exact e4_0
def impl_InRange.f (a0 : Int) (a1 : Int) (a2 : Int) : Option (Bool) := if a1 ≤ a0 then (some (decide (a0 ≤ a2))) else (some false)
theorem impl_InRange.calls (a0 : Int) (a1 : Int) (a2 : Int) (r : Bool) (w : World) (h : impl_InRange.f a0 a1 a2 = some r) :
    Calls Try.prog 95 #[.int .i64 a0, .int .i64 a1, .int .i64 a2] w fun e w' => e = .returned (.bool r) ∧ Drawn0 w w' := by
 have H := h; unfold impl_InRange.f at H
 clear h
 obtain ⟨-, c4b0, H⟩ | ⟨-, c4b0, H⟩ := ic_ H
 ·obtain rfl := Option.some.inj H
  go_enter Try.func95, Try.ntmps95
  go_wp2
  go_ret
  exact ⟨sc, sd⟩
 ·obtain rfl := Option.some.inj H
  go_enter Try.func95, Try.ntmps95
  go_wp2
  go_ret
  exact ⟨sc, sd⟩

def impl_isSkewed.f (a0_0 : Int) (a0_1 : Int) (a0_2 : Int) (l0_3 : List (S105)) (a1 : Int) : Option (Bool) := (impl_InRange.f a0_2 0 5).bind fun t182 => (if t182 = true then ((impl_InRange.f a1 0 1000).bind fun t183 => (some t183)) else (some false))
theorem e4_1 {P : Prop} (h : P := by
 obtain rfl := Option.some.inj H
 go_enter Try.func88, Try.ntmps88
 go_wp2_with (first | ((with_reducible refine gd 2 rfl ?_); refine bx 2 #[.int .i64 a0_0, .int .i64 a0_1, .int .i64 a0_2, .slice A0_3 l0_3.length c0_3] 31 ?_; intro gb181 hg w6 hbox hb; have GW181 := bz w hg; have GE181 := bz w hg; replace HB := bs hb; have BK181 := am hbox; clear hb hbox hg; obtain ⟨hcz7_0, hcz7_1, hcz7_2, hcz7_3, hfz7_0, hfz7_1, hfz7_2, hfz7_3⟩ := cc4 BK181) | (have _ := A5; (with_reducible refine gc 95 rfl ?_); refine gL (some 7) Try.func95 #[.int .i64 a0_2, .int .i64 0, .int .i64 5] ?_; (with_reducible refine (impl_InRange.calls a0_2 0 5 true _ A3.out).mono ?_); rintro e w' ⟨rfl, ⟨nd, rfl⟩⟩; refine ⟨_, rfl, ?_⟩) | (have _ := A5; go_at_call 95; (with_reducible refine (impl_InRange.calls a1 0 1000 t183 _ A5.out).mono ?_); rintro e w' ⟨rfl, ⟨nd, rfl⟩⟩) | ((with_reducible refine gc 95 rfl ?_); refine gL (some 7) Try.func95 #[.int .i64 a0_2, .int .i64 0, .int .i64 5] ?_; (with_reducible refine (impl_InRange.calls a0_2 0 5 false _ A3.out).mono ?_); rintro e w' ⟨rfl, ⟨nd, rfl⟩⟩; refine ⟨_, rfl, ?_⟩))
 first
 | have _ := A5
   go_ret
   exact ⟨se, sbw⟩
 | go_ret
   exact ⟨se, sbw⟩
   ) : P := h
theorem impl_isSkewed.calls (a0_0 : Int) (a0_1 : Int) (a0_2 : Int) (A0_3 : Option Addr) (c0_3 : Nat) (l0_3 : List (S105)) (a1 : Int) (r : Bool) (w : World) (hr0_3 : Kd.C k105 w A0_3 l0_3.length l0_3) (hc0_3 : l0_3.length ≤ c0_3) (h : impl_isSkewed.f a0_0 a0_1 a0_2 l0_3 a1 = some r) :
    Calls Try.prog 88 #[.agg #[.int .i64 a0_0, .int .i64 a0_1, .int .i64 a0_2, .slice A0_3 l0_3.length c0_3], .int .i64 a1] w fun e w' => e = .returned (.bool r) ∧ Below w.heap.size w w' := by
 have hu31 := Try.underlying31
 have HR0_3 := am hr0_3
 have HC0_3 := am hc0_3
 clear hr0_3 hc0_3
 have HB := am (Below.refl w.heap.size w)
 have H := h; unfold impl_isSkewed.f at H
 clear h
 obtain ⟨t182, A3, H⟩ := bnd H
 obtain rfl | rfl := tt t182
 ·replace H := ip H
  obtain ⟨t183, A5, H⟩ := bnd H
  exact e4_1
 ·replace H := im H
  exact e4_1
def impl_HopAt.f (k : Nat) (a0_0 : Int) (a0_1 : Int) (a0_2 : Int) (l0_3 : List (S105)) (a1 : Int) (a2 : Int) (a3 : Int) : Option (Int) := (impl_PieceAt.f a0_0 a0_1 a0_2 l0_3 a3).bind fun t185 => ((impl_nextIn.f a0_0 a0_1 a0_2 l0_3 t185 a2 a1).bind fun bt186 => (if bt186.2 = true then ((impl_isSkewed.f a0_0 a0_1 a0_2 l0_3 a3).bind fun t188 => (if t188 = true then ((impl_IsSafeMix.f k a0_0 a0_1 a0_2 l0_3 a2 (wrap64 (a3 - (wrap64 (2 * a0_2)))) (wrap64 (a3 + (wrap64 (2 * a0_2))))).bind fun t189 => (if t189 = true then (some bt186.1) else (some (-1)))) else (some (-1)))) else (some (-1))))
theorem impl_HopAt.mono : ∀ a0 a1 a2 a3 a4 a5 a6 k, LeO (impl_HopAt.f k a0 a1 a2 a3 a4 a5 a6) (impl_HopAt.f (k + 1) a0 a1 a2 a3 a4 a5 a6) := by
  intro a0 a1 a2 a3 a4 a5 a6 k
  unfold impl_HopAt.f
  have m0 := @impl_IsSafeMix.mono
  exact mo
def impl_HopAt.T1 : Bool × List (List Nat × List Nat) := (true, [([], []), ([], []), ([], []), ([1, 2], [1, 2]), ([], []), ([], []), ([0, 3, 4, 5, 3], [0, 3, 4, 5]), ([6], [6]), ([7], [7]), ([7], [7]), ([8, 6, 0, 1, 2, 3, 4, 5, 6, 7, 8], [8]), ([9, 10, 0, 1, 2, 3, 4, 5, 6, 7, 8, 9, 10], [9])])
def impl_HopAt.B1 : List Nat := [0, 0, 0, 6, 0, 0, 63, 127, 255, 255, 511, 2047]
theorem impl_HopAt.tab1 : rtab .any (opsOf Try.f27 1) = impl_HopAt.T1 := by kernel_rfl
theorem impl_HopAt.bits1 : waitsOk impl_HopAt.T1.2 impl_HopAt.B1 = true := by kernel_rfl
theorem e4_2 {P : Prop} (h : P := by
 obtain rfl := Option.some.inj H
 go_enter Try.func27, Try.ntmps27
 try go_wp2_with (first | ((with_reducible refine gd 4 rfl ?_); refine bx 4 #[.int .i64 a0_0, .int .i64 a0_1, .int .i64 a0_2, .slice A0_3 l0_3.length c0_3] 31 ?_; intro gb184 hg w12 hbox hb; have GW184 := bz w hg; have GE184 := bz w hg; replace HB := bs hb; have BK184 := am hbox; clear hb hbox hg))
 replace BK184 := am (blk_drew BK184.out)
 replace HB := am (below_drew1 HB.out)
 refine start_ (n := 12) (S := fun w' => w'.cell? ⟨gb184, 0, none⟩ = some (.int .i64 a0_0) ∧ w'.cell? ⟨gb184, 1, none⟩ = some (.int .i64 a0_1) ∧ w'.cell? ⟨gb184, 2, none⟩ = some (.int .i64 a0_2) ∧ w'.cell? ⟨gb184, 3, none⟩ = some (.slice A0_3 l0_3.length c0_3)) (ds := []) #[false, false, false, false, false, false, false, false, false, false, false, false] (by kernel_rfl) rfl rfl ⟨bc0 BK184, bc1 BK184, bc2 BK184, bc3 BK184⟩ (fun hHeld => ?_); refine with_tabW impl_HopAt.tab1 impl_HopAt.bits1 (fun HT_ HW_ => ?_)
 generalize w12.drew = w13 at BK184 HB hHeld ⊢
 refine put 2 14 (bt 12 4) HT_ ?_
 refine put 4 16 (bt 12 20) HT_ ?_
 refine put 5 17 (bt 12 52) HT_ ?_
 refine tat4 0 12 (bt 12 53) HT_ HW_ hHeld ?_
 refine tat4 1 13 (bt 12 55) HT_ HW_ hHeld ?_
 refine on 3 15 (bt 12 63) HT_ (fun K hK => ?_)
 refine goes_ Try.func42 (by kernel_rfl) rfl #[.agg #[.int .i64 a0_0, .int .i64 a0_1, .int .i64 a0_2, .slice A0_3 l0_3.length c0_3], .int .i64 a3] (by rfl) rfl rfl sl ?_
 with_reducible refine (impl_PieceAt.calls a0_0 a0_1 a0_2 _ _ l0_3 a3 t185 _ ?side1 ?side2 A5.out).mono ?_
 (case side1 => exact cb HR0_3)
 (case side2 => exact HC0_3.out)
 rintro e w14 ⟨rfl, hb⟩
 refine ⟨_, rfl, ?_⟩
 replace BK184 := bb BK184 hb
 replace HB := bsw hb
 (try clear hb)
 (try clear hb2)
 (try clear hk)
 (try clear hi)
 refine hK.out _ _ ⟨bc0 BK184, bc1 BK184, bc2 BK184, bc3 BK184⟩ (fun hHeld => ?_)
 clear hK K
 refine nm 15 ?_
 refine on 6 18 (bt 12 127) HT_ (fun K hK => ?_)
 refine goes_ Try.func81 (by kernel_rfl) rfl #[.agg #[.int .i64 a0_0, .int .i64 a0_1, .int .i64 a0_2, .slice A0_3 l0_3.length c0_3], .int .i64 t185, .int .i64 a2, .int .i64 a1] (by rfl) rfl rfl sl ?_
 with_reducible refine (impl_nextIn.calls a0_0 a0_1 a0_2 _ _ l0_3 t185 a2 a1 t186 true _ ?side1 ?side2 A6.out).mono ?_
 (case side1 => exact cb HR0_3)
 (case side2 => exact HC0_3.out)
 rintro e w15 ⟨rfl, hb⟩
 refine ⟨_, rfl, ?_⟩
 replace BK184 := bb BK184 hb
 replace HB := bsw hb
 (try clear hb)
 (try clear hb2)
 (try clear hk)
 (try clear hi)
 refine hK.out _ _ ⟨bc0 BK184, bc1 BK184, bc2 BK184, bc3 BK184⟩ (fun hHeld => ?_)
 clear hK K
 refine nm 18 ?_
 refine put 7 11 (bt 12 255) HT_ ?_
 refine put 8 19 (bt 12 511) HT_ ?_
 refine put 9 20 (bt 12 1023) HT_ ?_
 refine put 10 9 (bt 12 2047) HT_ ?_
 refine put 11 10 (bt 12 4095) HT_ ?_
 refine done_ (done_of HT_.out (by kernel_rfl)) ?_
 obtain ⟨hcz16_0, hcz16_1, hcz16_2, hcz16_3, hfz16_0, hfz16_1, hfz16_2, hfz16_3⟩ := cc4 BK184
 try go_wp2_with (first | (have _ := A10; go_at_call 88; (with_reducible refine (impl_isSkewed.calls a0_0 a0_1 a0_2 _ _ l0_3 a3 true _ ?side1 ?side2 A8.out).mono ?_); (case side1 => exact cb HR0_3); (case side2 => exact HC0_3.out); rintro e w17 ⟨rfl, hb⟩; replace BK184 := bb BK184 hb; replace HB := bsw hb; (try clear hb); obtain ⟨hcz18_0, hcz18_1, hcz18_2, hcz18_3, hfz18_0, hfz18_1, hfz18_2, hfz18_3⟩ := cc4 BK184) | (have _ := A10; go_at_call 19; (try simp only [i64_w, i32_w]); (with_reducible refine (impl_IsSafeMix.calls k a0_0 a0_1 a0_2 _ _ l0_3 a2 (wrap64 (a3 - (wrap64 (2 * a0_2)))) (wrap64 (a3 + (wrap64 (2 * a0_2)))) true _ ?side1 ?side2 A10.out).mono ?_); (case side1 => exact cb HR0_3); (case side2 => exact HC0_3.out); rintro e w19 ⟨rfl, hb⟩; replace BK184 := bb BK184 hb; replace HB := bsw hb; (try clear hb)) | (go_at_call 88; (with_reducible refine (impl_isSkewed.calls a0_0 a0_1 a0_2 _ _ l0_3 a3 false _ ?side1 ?side2 A8.out).mono ?_); (case side1 => exact cb HR0_3); (case side2 => exact HC0_3.out); rintro e w33 ⟨rfl, hb⟩; replace BK184 := bb BK184 hb; replace HB := bsw hb; (try clear hb)))
 go_ret
 exact ⟨se, sbw⟩) : P := h
theorem impl_HopAt.calls (k : Nat) (a0_0 : Int) (a0_1 : Int) (a0_2 : Int) (A0_3 : Option Addr) (c0_3 : Nat) (l0_3 : List (S105)) (a1 : Int) (a2 : Int) (a3 : Int) (r : Int) (w : World) (hr0_3 : Kd.C k105 w A0_3 l0_3.length l0_3) (hc0_3 : l0_3.length ≤ c0_3) (h : impl_HopAt.f k a0_0 a0_1 a0_2 l0_3 a1 a2 a3 = some r) :
    Calls Try.prog 27 #[.agg #[.int .i64 a0_0, .int .i64 a0_1, .int .i64 a0_2, .slice A0_3 l0_3.length c0_3], .int .i64 a1, .int .i64 a2, .int .i64 a3] w fun e w' => e = .returned (.int .i64 r) ∧ Below w.heap.size w w' := by
 have hu31 := Try.underlying31
 have HR0_3 := am hr0_3
 have HC0_3 := am hc0_3
 clear hr0_3 hc0_3
 have HB := am (Below.refl w.heap.size w)
 have H := h; unfold impl_HopAt.f at H
 clear h
 obtain ⟨t185, A5, H⟩ := bnd H
 obtain ⟨⟨t186, t187⟩, A6, H⟩ := bnd H
 try dsimp only at H
 obtain rfl | rfl := tt t187
 ·replace H := ip H
  obtain ⟨t188, A8, H⟩ := bnd H
  obtain rfl | rfl := tt t188
  ·replace H := ip H
   obtain ⟨t189, A10, H⟩ := bnd H
   obtain rfl | rfl := tt t189
   ·replace H := ip H
    exact e4_2
   ·replace H := im H
    obtain rfl := Option.some.inj H
    go_enter Try.func27, Try.ntmps27
    try go_wp2_with (first | ((with_reducible refine gd 4 rfl ?_); refine bx 4 #[.int .i64 a0_0, .int .i64 a0_1, .int .i64 a0_2, .slice A0_3 l0_3.length c0_3] 31 ?_; intro gb184 hg w20 hbox hb; have GW184 := bz w hg; have GE184 := bz w hg; replace HB := bs hb; have BK184 := am hbox; clear hb hbox hg))
    replace BK184 := am (blk_drew BK184.out)
    replace HB := am (below_drew1 HB.out)
    refine start_ (n := 12) (S := fun w' => w'.cell? ⟨gb184, 0, none⟩ = some (.int .i64 a0_0) ∧ w'.cell? ⟨gb184, 1, none⟩ = some (.int .i64 a0_1) ∧ w'.cell? ⟨gb184, 2, none⟩ = some (.int .i64 a0_2) ∧ w'.cell? ⟨gb184, 3, none⟩ = some (.slice A0_3 l0_3.length c0_3)) (ds := []) #[false, false, false, false, false, false, false, false, false, false, false, false] (by kernel_rfl) rfl rfl ⟨bc0 BK184, bc1 BK184, bc2 BK184, bc3 BK184⟩ (fun hHeld => ?_); refine with_tabW impl_HopAt.tab1 impl_HopAt.bits1 (fun HT_ HW_ => ?_)
    generalize w20.drew = w21 at BK184 HB hHeld ⊢
    refine put 2 14 (bt 12 4) HT_ ?_
    refine put 4 16 (bt 12 20) HT_ ?_
    refine put 5 17 (bt 12 52) HT_ ?_
    refine tat4 0 12 (bt 12 53) HT_ HW_ hHeld ?_
    refine tat4 1 13 (bt 12 55) HT_ HW_ hHeld ?_
    refine on 3 15 (bt 12 63) HT_ (fun K hK => ?_)
    refine goes_ Try.func42 (by kernel_rfl) rfl #[.agg #[.int .i64 a0_0, .int .i64 a0_1, .int .i64 a0_2, .slice A0_3 l0_3.length c0_3], .int .i64 a3] (by rfl) rfl rfl sl ?_
    with_reducible refine (impl_PieceAt.calls a0_0 a0_1 a0_2 _ _ l0_3 a3 t185 _ ?side1 ?side2 A5.out).mono ?_
    (case side1 => exact cb HR0_3)
    (case side2 => exact HC0_3.out)
    rintro e w22 ⟨rfl, hb⟩
    refine ⟨_, rfl, ?_⟩
    replace BK184 := bb BK184 hb
    replace HB := bsw hb
    (try clear hb)
    (try clear hb2)
    (try clear hk)
    (try clear hi)
    refine hK.out _ _ ⟨bc0 BK184, bc1 BK184, bc2 BK184, bc3 BK184⟩ (fun hHeld => ?_)
    clear hK K
    refine nm 15 ?_
    refine on 6 18 (bt 12 127) HT_ (fun K hK => ?_)
    refine goes_ Try.func81 (by kernel_rfl) rfl #[.agg #[.int .i64 a0_0, .int .i64 a0_1, .int .i64 a0_2, .slice A0_3 l0_3.length c0_3], .int .i64 t185, .int .i64 a2, .int .i64 a1] (by rfl) rfl rfl sl ?_
    with_reducible refine (impl_nextIn.calls a0_0 a0_1 a0_2 _ _ l0_3 t185 a2 a1 t186 true _ ?side1 ?side2 A6.out).mono ?_
    (case side1 => exact cb HR0_3)
    (case side2 => exact HC0_3.out)
    rintro e w23 ⟨rfl, hb⟩
    refine ⟨_, rfl, ?_⟩
    replace BK184 := bb BK184 hb
    replace HB := bsw hb
    (try clear hb)
    (try clear hb2)
    (try clear hk)
    (try clear hi)
    refine hK.out _ _ ⟨bc0 BK184, bc1 BK184, bc2 BK184, bc3 BK184⟩ (fun hHeld => ?_)
    clear hK K
    refine nm 18 ?_
    refine put 7 11 (bt 12 255) HT_ ?_
    refine put 8 19 (bt 12 511) HT_ ?_
    refine put 9 20 (bt 12 1023) HT_ ?_
    refine put 10 9 (bt 12 2047) HT_ ?_
    refine put 11 10 (bt 12 4095) HT_ ?_
    refine done_ (done_of HT_.out (by kernel_rfl)) ?_
    obtain ⟨hcz24_0, hcz24_1, hcz24_2, hcz24_3, hfz24_0, hfz24_1, hfz24_2, hfz24_3⟩ := cc4 BK184
    try go_wp2_with (first | (go_at_call 88; (with_reducible refine (impl_isSkewed.calls a0_0 a0_1 a0_2 _ _ l0_3 a3 true _ ?side1 ?side2 A8.out).mono ?_); (case side1 => exact cb HR0_3); (case side2 => exact HC0_3.out); rintro e w25 ⟨rfl, hb⟩; replace BK184 := bb BK184 hb; replace HB := bsw hb; (try clear hb); obtain ⟨hcz26_0, hcz26_1, hcz26_2, hcz26_3, hfz26_0, hfz26_1, hfz26_2, hfz26_3⟩ := cc4 BK184) | (go_at_call 19; (try simp only [i64_w, i32_w]); (with_reducible refine (impl_IsSafeMix.calls k a0_0 a0_1 a0_2 _ _ l0_3 a2 (wrap64 (a3 - (wrap64 (2 * a0_2)))) (wrap64 (a3 + (wrap64 (2 * a0_2)))) false _ ?side1 ?side2 A10.out).mono ?_); (case side1 => exact cb HR0_3); (case side2 => exact HC0_3.out); rintro e w27 ⟨rfl, hb⟩; replace BK184 := bb BK184 hb; replace HB := bsw hb; (try clear hb)))
    go_ret
    exact ⟨se, sbw⟩
  ·replace H := im H
   exact e4_2
 ·replace H := im H
  obtain rfl := Option.some.inj H
  go_enter Try.func27, Try.ntmps27
  try go_wp2_with (first | ((with_reducible refine gd 4 rfl ?_); refine bx 4 #[.int .i64 a0_0, .int .i64 a0_1, .int .i64 a0_2, .slice A0_3 l0_3.length c0_3] 31 ?_; intro gb184 hg w34 hbox hb; have GW184 := bz w hg; have GE184 := bz w hg; replace HB := bs hb; have BK184 := am hbox; clear hb hbox hg))
  replace BK184 := am (blk_drew BK184.out)
  replace HB := am (below_drew1 HB.out)
  refine start_ (n := 12) (S := fun w' => w'.cell? ⟨gb184, 0, none⟩ = some (.int .i64 a0_0) ∧ w'.cell? ⟨gb184, 1, none⟩ = some (.int .i64 a0_1) ∧ w'.cell? ⟨gb184, 2, none⟩ = some (.int .i64 a0_2) ∧ w'.cell? ⟨gb184, 3, none⟩ = some (.slice A0_3 l0_3.length c0_3)) (ds := []) #[false, false, false, false, false, false, false, false, false, false, false, false] (by kernel_rfl) rfl rfl ⟨bc0 BK184, bc1 BK184, bc2 BK184, bc3 BK184⟩ (fun hHeld => ?_); refine with_tabW impl_HopAt.tab1 impl_HopAt.bits1 (fun HT_ HW_ => ?_)
  generalize w34.drew = w35 at BK184 HB hHeld ⊢
  refine put 2 14 (bt 12 4) HT_ ?_
  refine put 4 16 (bt 12 20) HT_ ?_
  refine put 5 17 (bt 12 52) HT_ ?_
  refine tat4 0 12 (bt 12 53) HT_ HW_ hHeld ?_
  refine tat4 1 13 (bt 12 55) HT_ HW_ hHeld ?_
  refine on 3 15 (bt 12 63) HT_ (fun K hK => ?_)
  refine goes_ Try.func42 (by kernel_rfl) rfl #[.agg #[.int .i64 a0_0, .int .i64 a0_1, .int .i64 a0_2, .slice A0_3 l0_3.length c0_3], .int .i64 a3] (by rfl) rfl rfl sl ?_
  with_reducible refine (impl_PieceAt.calls a0_0 a0_1 a0_2 _ _ l0_3 a3 t185 _ ?side1 ?side2 A5.out).mono ?_
  (case side1 => exact cb HR0_3)
  (case side2 => exact HC0_3.out)
  rintro e w36 ⟨rfl, hb⟩
  refine ⟨_, rfl, ?_⟩
  replace BK184 := bb BK184 hb
  replace HB := bsw hb
  (try clear hb)
  (try clear hb2)
  (try clear hk)
  (try clear hi)
  refine hK.out _ _ ⟨bc0 BK184, bc1 BK184, bc2 BK184, bc3 BK184⟩ (fun hHeld => ?_)
  clear hK K
  refine nm 15 ?_
  refine on 6 18 (bt 12 127) HT_ (fun K hK => ?_)
  refine goes_ Try.func81 (by kernel_rfl) rfl #[.agg #[.int .i64 a0_0, .int .i64 a0_1, .int .i64 a0_2, .slice A0_3 l0_3.length c0_3], .int .i64 t185, .int .i64 a2, .int .i64 a1] (by rfl) rfl rfl sl ?_
  with_reducible refine (impl_nextIn.calls a0_0 a0_1 a0_2 _ _ l0_3 t185 a2 a1 t186 false _ ?side1 ?side2 A6.out).mono ?_
  (case side1 => exact cb HR0_3)
  (case side2 => exact HC0_3.out)
  rintro e w37 ⟨rfl, hb⟩
  refine ⟨_, rfl, ?_⟩
  replace BK184 := bb BK184 hb
  replace HB := bsw hb
  (try clear hb)
  (try clear hb2)
  (try clear hk)
  (try clear hi)
  refine hK.out _ _ ⟨bc0 BK184, bc1 BK184, bc2 BK184, bc3 BK184⟩ (fun hHeld => ?_)
  clear hK K
  refine nm 18 ?_
  refine put 7 11 (bt 12 255) HT_ ?_
  refine put 8 19 (bt 12 511) HT_ ?_
  refine put 9 20 (bt 12 1023) HT_ ?_
  refine put 10 9 (bt 12 2047) HT_ ?_
  refine put 11 10 (bt 12 4095) HT_ ?_
  refine done_ (done_of HT_.out (by kernel_rfl)) ?_
  try go_wp2
  go_ret
  exact ⟨se, sbw⟩

def impl_isNumber.f (a0 : Int) : Option (Bool) := (impl_InRange.f a0 1 12).bind fun t190 => (some t190)
theorem impl_isNumber.calls (a0 : Int) (r : Bool) (w : World) (h : impl_isNumber.f a0 = some r) :
    Calls Try.prog 120 #[.int .i64 a0] w fun e w' => e = .returned (.bool r) ∧ Drawn0 w w' := by
 have H := h; unfold impl_isNumber.f at H
 clear h
 obtain ⟨t190, A2, H⟩ := bnd H
 obtain rfl := Option.some.inj H
 go_enter Try.func120, Try.ntmps120
 go_wp2_with (first | ((with_reducible refine gc 95 rfl ?_); refine gL (some 4) Try.func95 #[.int .i64 a0, .int .i64 1, .int .i64 12] ?_; (with_reducible refine (impl_InRange.calls a0 1 12 t190 _ A2.out).mono ?_); rintro e w' ⟨rfl, ⟨nd, rfl⟩⟩; refine ⟨_, rfl, ?_⟩))
 go_ret
 exact ⟨sc, sd⟩

end Go.Proofs.Ytiihaabhjphaeaa.QFnSwitched
