/- Printed by a program of the session. Conditions: none. (squeezed). -/
import Derived.Test.YtiihaabhjphaeaaVFnMarginsQFnMarginsx14
namespace Go.Proofs.Ytiihaabhjphaeaa.QFnMargins
set_option maxHeartbeats 8000000
set_option maxRecDepth 100000
open Go.RowKit Go.Proofs.YtiihaabhjphaeaaW.PrintWords Go.Proofs.YtiihaabhjphaeaaW.PrintLast Go.Proofs.YtiihaabhjphaeaaW.PrintMore Go.Proofs.Ytiihaabhjphaeaa.Open Go.Proofs.Ytiihaabhjphaeaa.Sq
attribute [local go_sem] max2_int min2_int max_two min_two max_three min_three max_four min_four   -- for this text's walks alone
attribute [local go_sem] isSome_set
set_option linter.unusedVariables false
set_option linter.unusedSimpArgs false

mutual
def spec_MayUse.j0 : Nat → Int → Int → Int → Bool → Int → Int → Int → List (S105) → Option (Bool)
  | 0, _, _, _, _, _, _, _, _ => none
  | k + 1, x1, x2, x3, x18, x499000, x499001, x499002, x499003 => if x18 = true then (some false) else (spec_MayUse.l0 k x1 x2 x3 (wrap64 (x3 - x499002)) x499000 x499001 x499002 x499003)
def spec_MayUse.l0 : Nat → Int → Int → Int → Int → Int → Int → Int → List (S105) → Option (Bool)
  | 0, _, _, _, _, _, _, _, _ => none
  | k + 1, x1, x2, x3, x9, x499000, x499001, x499002, x499003 => if x9 ≤ (wrap64 (x3 + x499002)) then ((spec_IsLinked.f k x499000 x499001 x499002 x499003 x1 x2 x9).bind fun t501 => (if t501 = true then (spec_MayUse.l0 k x1 x2 x3 (wrap64 (x9 + 1)) x499000 x499001 x499002 x499003) else (some false))) else (some true)
end
def spec_MayUse.f (k : Nat) (a0_0 : Int) (a0_1 : Int) (a0_2 : Int) (l0_3 : List (S105)) (a1 : Int) (a2 : Int) (a3 : Int) : Option (Bool) := (spec_l1In.f a0_2 0 5).bind fun t499 => (if t499 = true then ((spec_l1In.f a3 0 1000).bind fun t500 => (spec_MayUse.j0 k a1 a2 a3 (!t500) a0_0 a0_1 a0_2 l0_3)) else (spec_MayUse.j0 k a1 a2 a3 true a0_0 a0_1 a0_2 l0_3))
theorem spec_MayUse.mono_l : ∀ k, (∀ y0 y1 y2 y3 y4 y5 y6 y7, LeO (spec_MayUse.j0 k y0 y1 y2 y3 y4 y5 y6 y7) (spec_MayUse.j0 (k + 1) y0 y1 y2 y3 y4 y5 y6 y7)) ∧ (∀ y0 y1 y2 y3 y4 y5 y6 y7, LeO (spec_MayUse.l0 k y0 y1 y2 y3 y4 y5 y6 y7) (spec_MayUse.l0 (k + 1) y0 y1 y2 y3 y4 y5 y6 y7))
  | 0 => ⟨fun _ _ _ _ _ _ _ _ r h => by simp [spec_MayUse.j0] at h, fun _ _ _ _ _ _ _ _ r h => by simp [spec_MayUse.l0] at h⟩
  | k + 1 => by
    obtain ⟨ih0, ih1⟩ := spec_MayUse.mono_l k
    refine ⟨?_, ?_⟩
    · intro y0 y1 y2 y3 y4 y5 y6 y7
      unfold spec_MayUse.j0
      have m0 := @spec_IsLinked.mono
      exact mo
    · intro y0 y1 y2 y3 y4 y5 y6 y7
      unfold spec_MayUse.l0
      have m0 := @spec_IsLinked.mono
      exact mo
theorem spec_MayUse.mono : ∀ a0 a1 a2 a3 a4 a5 a6 k, LeO (spec_MayUse.f k a0 a1 a2 a3 a4 a5 a6) (spec_MayUse.f (k + 1) a0 a1 a2 a3 a4 a5 a6) := by
  intro a0 a1 a2 a3 a4 a5 a6 k
  obtain ⟨ih0, ih1⟩ := spec_MayUse.mono_l k
  unfold spec_MayUse.f
  have m0 := @spec_IsLinked.mono
  exact mo
theorem spec_MayUse.calls (k : Nat) (a0_0 : Int) (a0_1 : Int) (a0_2 : Int) (A0_3 : Option Addr) (c0_3 : Nat) (l0_3 : List (S105)) (a1 : Int) (a2 : Int) (a3 : Int) (r : Bool) (w : World) (hr0_3 : Kd.C k105 w A0_3 l0_3.length l0_3) (hc0_3 : l0_3.length ≤ c0_3) (h : spec_MayUse.f k a0_0 a0_1 a0_2 l0_3 a1 a2 a3 = some r) :
    Calls Try.prog 31 #[.agg #[.int .i64 a0_0, .int .i64 a0_1, .int .i64 a0_2, .slice A0_3 l0_3.length c0_3], .int .i64 a1, .int .i64 a2, .int .i64 a3] w fun e w' => e = .returned (.bool r) ∧ Below w.heap.size w w' := by
 have hu31 := Try.underlying31
 have HR0_3 := am hr0_3
 have HC0_3 := am hc0_3
 clear hr0_3 hc0_3
 have HB := am (Below.refl w.heap.size w)
 have H : ((spec_l1In.f a0_2 0 5).bind fun t499 => (if t499 = true then ((spec_l1In.f a3 0 1000).bind fun t500 => (spec_MayUse.j0 k a1 a2 a3 (!t500) a0_0 a0_1 a0_2 l0_3)) else (spec_MayUse.j0 k a1 a2 a3 true a0_0 a0_1 a0_2 l0_3))) = some r := h
 clear h
 have HC5 := am H
 clear H
 go_enter Try.func31, Try.ntmps31
 go_upto_region 1 with (first | ((with_reducible refine gd 4 rfl ?_); refine bx 4 #[.int .i64 a0_0, .int .i64 a0_1, .int .i64 a0_2, .slice A0_3 l0_3.length c0_3] 31 ?_; intro gb498 hg w6 hbox hb; have GW498 := bz w hg; have GE498 := bz w hg; replace HB := bs hb; have BK498 := am hbox; clear hb hbox hg))
 (try simp only [Act.put, List.setIfInBounds_toArray, List.set_cons_zero, List.set_cons_succ])
 go_cut [18] (fun v18 wc => ∃ (kq : Nat) (x18_4 : Bool), v18 = .bool x18_4 ∧ Aside0 (spec_MayUse.j0 kq a1 a2 a3 x18_4 a0_0 a0_1 a0_2 l0_3 = some r) ∧ Aside0 (kq ≤ k) ∧ Aside0 (wc.heap[gb498]? = some (.cells #[.int .i64 a0_0, .int .i64 a0_1, .int .i64 a0_2, (.slice A0_3 l0_3.length c0_3)] 31 (0, 0))) ∧ Aside0 (Below w.heap.size w wc))
 case first =>
  have H := HC5.out
  clear HC5
  obtain ⟨t499, A7, H⟩ := bnd H
  obtain rfl | rfl := tt t499
  ·replace H := ip H
   obtain ⟨t500, A9, H⟩ := bnd H
   have H' := am H
   clear H
   obtain ⟨hcz10_0, hcz10_1, hcz10_2, hcz10_3, hfz10_0, hfz10_1, hfz10_2, hfz10_3⟩ := cc4 BK498
   go_wp2_with (first | ((with_reducible refine gc 85 rfl ?_); refine gL (some 12) Try.func85 #[.int .i64 a0_2, .int .i64 0, .int .i64 5] ?_; (with_reducible refine (spec_l1In.calls a0_2 0 5 true _ A7.out).mono ?_); rintro e w' ⟨rfl, ⟨nd, rfl⟩⟩; refine ⟨_, rfl, ?_⟩) | (go_at_call 85; (with_reducible refine (spec_l1In.calls a3 0 1000 t500 _ A9.out).mono ?_); rintro e w' ⟨rfl, ⟨nd, rfl⟩⟩))
   go_meet
   case rel => exact ⟨_, (!t500), sc, H', ⟨by first | omega | exact Nat.le_refl _⟩, ⟨sk BK498⟩, ⟨sbw⟩⟩
  ·replace H := im H
   have H' := am H
   clear H
   obtain ⟨hcz11_0, hcz11_1, hcz11_2, hcz11_3, hfz11_0, hfz11_1, hfz11_2, hfz11_3⟩ := cc4 BK498
   go_wp2_with (first | ((with_reducible refine gc 85 rfl ?_); refine gL (some 12) Try.func85 #[.int .i64 a0_2, .int .i64 0, .int .i64 5] ?_; (with_reducible refine (spec_l1In.calls a0_2 0 5 false _ A7.out).mono ?_); rintro e w' ⟨rfl, ⟨nd, rfl⟩⟩; refine ⟨_, rfl, ?_⟩))
   go_meet
   case rel => exact ⟨_, (true), sc, H', ⟨by first | omega | exact Nat.le_refl _⟩, ⟨sk BK498⟩, ⟨sbw⟩⟩
 case rest =>
  clear HC5
  try clear hcz10_0
  try clear hcz10_1
  try clear hcz10_2
  try clear hcz10_3
  try clear hcz11_0
  try clear hcz11_1
  try clear hcz11_2
  try clear hcz11_3
  try clear hfz10_0
  try clear hfz10_1
  try clear hfz10_2
  try clear hfz10_3
  try clear hfz11_0
  try clear hfz11_1
  try clear hfz11_2
  try clear hfz11_3
  obtain ⟨kq, x18_4, rfl, HA, HJ4, BK498, HB⟩ := hcut
  cases kq with
  | zero => exact absurd HA.out (by simp [spec_MayUse.j0])
  | succ kj4 =>
   have H := HA.out
   clear HA
   simp only [spec_MayUse.j0] at H
   obtain rfl | rfl := tt x18_4
   ·replace H := ip H
    obtain rfl := Option.some.inj H
    go_wp2
    go_ret
    exact ⟨se, sbw⟩
   ·replace H := im H
    have H' := am H
    clear H
    obtain ⟨hcz13_0, hcz13_1, hcz13_2, hcz13_3, hfz13_0, hfz13_1, hfz13_2, hfz13_3⟩ := cc4 BK498
    go_wp2
    go_loopg [9] kj4 (fun kq v9 w' => ∃ (x9_2 : Int), v9 = .int .i64 x9_2 ∧ Aside0 (spec_MayUse.l0 kq a1 a2 a3 x9_2 a0_0 a0_1 a0_2 l0_3 = some r) ∧ Aside0 (kq ≤ kj4) ∧ Aside0 (w'.heap[gb498]? = some (.cells #[.int .i64 a0_0, .int .i64 a0_1, .int .i64 a0_2, (.slice A0_3 l0_3.length c0_3)] 31 (0, 0))) ∧ Aside0 (Below w.heap.size w w'))
    case atStart => exact ⟨(wrap64 (a3 - a0_2)), sc, H', kk0, ⟨sk BK498⟩, ⟨sbw⟩⟩
    case round =>
     clear H'
     try clear hcz10_0
     try clear hcz10_1
     try clear hcz10_2
     try clear hcz10_3
     try clear hcz11_0
     try clear hcz11_1
     try clear hcz11_2
     try clear hcz11_3
     try clear hcz13_0
     try clear hcz13_1
     try clear hcz13_2
     try clear hcz13_3
     try clear hfz10_0
     try clear hfz10_1
     try clear hfz10_2
     try clear hfz10_3
     try clear hfz11_0
     try clear hfz11_1
     try clear hfz11_2
     try clear hfz11_3
     try clear hfz13_0
     try clear hfz13_1
     try clear hfz13_2
     try clear hfz13_3
     obtain ⟨x9_2, rfl, HA, HK2, BK498, HB⟩ := hrel
     cases gk with
     | zero => exact absurd HA.out (by simp [spec_MayUse.l0])
     | succ k2 =>
      have H := HA.out
      clear HA
      simp only [spec_MayUse.l0] at H
      obtain ⟨c14, H⟩ | ⟨c14, H⟩ := ie_ H
      ·have c14b0 := decide_eq_true c14
       clear c14
       obtain ⟨t501, A15, H⟩ := bnd H
       obtain rfl | rfl := tt t501
       ·replace H := ip H
        have H' := am H
        clear H
        obtain ⟨hcz17_0, hcz17_1, hcz17_2, hcz17_3, hfz17_0, hfz17_1, hfz17_2, hfz17_3⟩ := cc4 BK498
        go_wp2_with (first | ((with_reducible refine gc 90 rfl ?_); refine gL (some 35) Try.func90 #[.agg #[.int .i64 a0_0, .int .i64 a0_1, .int .i64 a0_2, .slice A0_3 l0_3.length c0_3], .int .i64 a1, .int .i64 a2, .int .i64 x9_2] ?_; (with_reducible refine (spec_IsLinked.calls k2 a0_0 a0_1 a0_2 _ _ l0_3 a1 a2 x9_2 true _ ?side1 ?side2 A15.out).mono ?_); (case side1 => exact cb HR0_3); (case side2 => exact HC0_3.out); rintro e w18 ⟨rfl, hb⟩; refine ⟨_, rfl, ?_⟩; replace BK498 := bb BK498 hb; replace HB := bsw hb; (try clear hb); (try clear hb2); (try clear hk); (try clear hi)))
        go_roundg k2
        case measure => have := HJ4.out; have := HK2.out; omega
        case rel => exact ⟨(wrap64 (x9_2 + 1)), sc, H', ⟨by have := HJ4.out; have := HK2.out; omega⟩, ⟨sk BK498⟩, ⟨sbw⟩⟩
       ·replace H := im H
        obtain rfl := Option.some.inj H
        obtain ⟨hcz19_0, hcz19_1, hcz19_2, hcz19_3, hfz19_0, hfz19_1, hfz19_2, hfz19_3⟩ := cc4 BK498
        go_wp2_with (first | ((with_reducible refine gc 90 rfl ?_); refine gL (some 35) Try.func90 #[.agg #[.int .i64 a0_0, .int .i64 a0_1, .int .i64 a0_2, .slice A0_3 l0_3.length c0_3], .int .i64 a1, .int .i64 a2, .int .i64 x9_2] ?_; (with_reducible refine (spec_IsLinked.calls k2 a0_0 a0_1 a0_2 _ _ l0_3 a1 a2 x9_2 false _ ?side1 ?side2 A15.out).mono ?_); (case side1 => exact cb HR0_3); (case side2 => exact HC0_3.out); rintro e w20 ⟨rfl, hb⟩; refine ⟨_, rfl, ?_⟩; replace BK498 := bb BK498 hb; replace HB := bsw hb; (try clear hb); (try clear hb2); (try clear hk); (try clear hi)))
        go_ret
        exact ⟨se, sbw⟩
      ·have c14b0 := decide_eq_false c14
       clear c14
       obtain rfl := Option.some.inj H
       obtain ⟨hcz21_0, hcz21_1, hcz21_2, hcz21_3, hfz21_0, hfz21_1, hfz21_2, hfz21_3⟩ := cc4 BK498
       go_wp2
       go_ret
       exact ⟨se, sbw⟩

def spec_DrawUseSpans.f (k : Nat) (l0 : List Int) : Option (Int × Int × Int × (List (S105)) × Int × Int) := (spec_DrawMayUse.f k l0).bind fun bt503 => (some (bt503.1, bt503.2.1, bt503.2.2.1, bt503.2.2.2.1, bt503.2.2.2.2.1, bt503.2.2.2.2.2.1))
theorem spec_DrawUseSpans.mono : ∀ a0 k, LeO (spec_DrawUseSpans.f k a0) (spec_DrawUseSpans.f (k + 1) a0) := by
  intro a0 k
  unfold spec_DrawUseSpans.f
  have m0 := @spec_DrawMayUse.mono
  exact mo
theorem spec_DrawUseSpans.calls (k : Nat) (A0 : Option Addr) (c0 : Nat) (l0 : List Int) (r1 : Int) (r2 : Int) (r3 : Int) (r4 : List (S105)) (r5 : Int) (r6 : Int) (w : World) (hr0 : Kd.C (Kd.int .u8) w A0 l0.length l0) (hc0 : l0.length ≤ c0) (h : spec_DrawUseSpans.f k l0 = some (r1, r2, r3, r4, r5, r6)) :
    Calls Try.prog 33 #[.slice A0 l0.length c0] w fun e w' => ∃ v3_ : Value, e = .returned (.tuple #[.agg #[.int .i64 r1, .int .i64 r2, .int .i64 r3, v3_], .int .i64 r5, .int .i64 r6]) ∧ Kd.S k105 105 w' w.heap.size (fun _ => True) v3_ r4 ∧ Below w.heap.size w w' := by
 have hu31 := Try.underlying31
 have HR0 := am hr0
 have HC0 := am hc0
 clear hr0 hc0
 have HB := am (Below.refl w.heap.size w)
 have H : ((spec_DrawMayUse.f k l0).bind fun bt503 => (some (bt503.1, bt503.2.1, bt503.2.2.1, bt503.2.2.2.1, bt503.2.2.2.2.1, bt503.2.2.2.2.2.1))) = some (r1, r2, r3, r4, r5, r6) := h
 clear h
 obtain ⟨⟨t503, t504, t505, t506, t509, t510, t511⟩, A2, H⟩ := bnd H
 replace H : (some (t503, t504, t505, t506, t509, t510)) = some (r1, r2, r3, r4, r5, r6) := H
 simp only [Option.some.injEq, Prod.mk.injEq] at H
 obtain ⟨rfl, rfl, rfl, rfl, rfl, rfl⟩ := H
 go_enter Try.func33, Try.ntmps33
 go_wp2_with (first | ((with_reducible refine gd 2 rfl ?_); refine bx 2 #[.int .i64 0, .int .i64 0, .int .i64 0, .slice none 0 0] 31 ?_; intro gb502 hg w3 hbox hb; have GW502 := bz w hg; have GE502 := bz w hg; replace HB := bs hb; have BK502 := am hbox; clear hb hbox hg) | ((with_reducible refine gc 29 rfl ?_); refine gL (some 11) Try.func29 #[.slice A0 l0.length c0] ?_; (with_reducible refine (spec_DrawMayUse.calls k _ _ l0 t503 t504 t505 t506 t509 t510 t511 _ ?side1 ?side2 A2.out).mono ?_); (case side1 => exact cb HR0); (case side2 => exact HC0.out); rintro e w4 ⟨v507, rfl, ho0, hb⟩; refine ⟨_, rfl, ?_⟩; have HO508 := am (Kd.S_lower ho0 (below_size (sbw))); replace BK502 := bb BK502 hb; replace HB := bsw hb; (try clear hb); (try clear hb2); (try clear hk); (try clear hi); (try clear ho0)) | ((with_reducible refine gd 5 rfl ?_); refine bx 5 #[.int .i64 0, .int .i64 0, .int .i64 0, .slice none 0 0] 31 ?_; intro gb512 hg w5 hbox hb; replace HO508 := am (Kd.S_below (ss HO508) hb); have GW512 := bzw w hg; have GE512 := bzw w hg; replace HB := bsw hb; have BK512 := am hbox; have NB502_512 := nl BK502 hg; have NB512_502 := ng BK502 hg; replace BK502 := bb BK502 hb; clear hb hbox hg; have hnb6 := NB512_502.out; have hnc6 := NB502_512.out; obtain ⟨hcz7_0, hcz7_1, hcz7_2, hcz7_3, hfz7_0, hfz7_1, hfz7_2, hfz7_3⟩ := cc4 BK512; obtain ⟨Ao8, co8, eo8⟩ := Kd.S_slice HO508.out; subst eo8; obtain ⟨hcz9_0, hcz9_1, hcz9_2, hcz9_3, hfz9_0, hfz9_1, hfz9_2, hfz9_3⟩ := cc4 BK502))
 refine bodyPost_ret (results_ctt rfl _ _ gb502 31 #[.int .i64 t503, .int .i64 t504, .int .i64 t505, .slice Ao8 t506.length co8] (0, 0) _ rfl (sp BK502) Try.underlying31 rfl (by kernel_rfl)) rfl ?_
 exact ⟨_, se, by (with_reducible repeat (first | apply Kd.S_alloc | apply Kd.S_drewN | apply Kd.S_drew)); exact Kd.S_mono (Kd.S_far (p := ⟨gb502, 3, none⟩) (Kd.S_far (p := ⟨gb502, 2, none⟩) (Kd.S_far (p := ⟨gb502, 1, none⟩) (Kd.S_far (p := ⟨gb502, 0, none⟩) (Kd.S_far (p := ⟨gb512, 3, none⟩) (Kd.S_far (p := ⟨gb512, 2, none⟩) (Kd.S_far (p := ⟨gb512, 1, none⟩) (Kd.S_far (p := ⟨gb512, 0, none⟩) (Kd.S_types (Kd.S_types HO508.out BK512.out (by decide)) BK502.out (by decide)) (fun _ hk => hk.1.2) (.int .i64 t503)) (fun _ hk => hk.1.2) (.int .i64 t504)) (fun _ hk => hk.1.2) (.int .i64 t505)) (fun _ hk => hk.1.2) (.slice Ao8 t506.length co8)) (fun _ hk => hk.2) (.int .i64 t503)) (fun _ hk => hk.2) (.int .i64 t504)) (fun _ hk => hk.2) (.int .i64 t505)) (fun _ hk => hk.2) (.slice Ao8 t506.length co8)) (fun _ hk => trivial), sbw⟩

-- impl_spansWhere: at each literal
-- NOT PRINTED: function 92 (impl_UseSpans_1)

theorem impl_UseSpans.lit (k : Nat) (n f s : Int) (A3 : Option Addr) (c3 : Nat) (l3 : List (S105)) (a b t : Int) (q : Bool) (gp ga gb : Nat) (W : World) (hr3 : Kd.C k105 W A3 l3.length l3) (hc3 : l3.length ≤ c3)
    (hp0 : W.cell? ⟨gp, 0, none⟩ = some (.int .i64 n)) (hp1 : W.cell? ⟨gp, 1, none⟩ = some (.int .i64 f)) (hp2 : W.cell? ⟨gp, 2, none⟩ = some (.int .i64 s)) (hp3 : W.cell? ⟨gp, 3, none⟩ = some (.slice A3 l3.length c3)) (ha : W.cell? ⟨ga, 0, none⟩ = some (.int .i64 a)) (hb : W.cell? ⟨gb, 0, none⟩ = some (.int .i64 b))
    (h : impl_MayUse.f k n f s l3 a b t = some q) :
    Calls Try.prog 92 #[.int .i64 t, .pointer (some ⟨gp, 0, none⟩), .pointer (some ⟨ga, 0, none⟩), .pointer (some ⟨gb, 0, none⟩)] W fun e w' => e = .returned (.bool q) ∧ Below W.heap.size W w' := by
  have hu := Try.underlying31
  go_enter Try.func92, Try.ntmps92
  go_wp2_with (go_at_call 30; refine (impl_MayUse.calls k n f s A3 c3 l3 a b t q _ hr3 hc3 h).mono ?_; rintro e w' ⟨rfl, hb'⟩)
  go_ret
  exact ⟨rfl, hb'⟩
def impl_UseSpans.sw.l0 (h_ : Int → Option Bool) : Nat → Int → List (S102) → Int → Option ((List (S102)))
  | 0, _, _, _ => none
  | k + 1, x1, x7, x8 => if x8 < (mn x1 1000) then ((h_ x8).bind fun t516 => (if t516 = true then (if (wrap64 ((x7.length : Int) - 1)) ≥ 0 then (if 0 ≤ (wrap64 ((x7.length : Int) - 1)) then (if (wrap64 ((x7.length : Int) - 1)) < (x7.length : Int) then (if ((rd_T102 x7 (wrap64 ((x7.length : Int) - 1))).f1) = x8 then (impl_UseSpans.sw.l0 h_ k x1 (x7.set ((wrap64 ((x7.length : Int) - 1)) : Int).toNat (⟨(rd_T102 x7 (wrap64 ((x7.length : Int) - 1))).f0, wrap64 (((rd_T102 x7 (wrap64 ((x7.length : Int) - 1))).f1) + 1)⟩ : S102)) (wrap64 (x8 + 1))) else (if x7.length < 8796093022208 then (impl_UseSpans.sw.l0 h_ k x1 (x7 ++ [(⟨x8, wrap64 (x8 + 1)⟩ : S102)]) (wrap64 (x8 + 1))) else (none))) else (none)) else (none)) else (if x7.length < 8796093022208 then (impl_UseSpans.sw.l0 h_ k x1 (x7 ++ [(⟨x8, wrap64 (x8 + 1)⟩ : S102)]) (wrap64 (x8 + 1))) else (none))) else (impl_UseSpans.sw.l0 h_ k x1 x7 (wrap64 (x8 + 1))))) else (some x7)
def impl_UseSpans.sw.f (h_ : Int → Option Bool) (k : Nat) (a0 : Int) (a1 : Int) (a2 : Int) : Option ((List (S102))) := impl_UseSpans.sw.l0 h_ k a1 (([] : List (S102))) (mx a0 0)
theorem impl_UseSpans.sw.mono_l (h_ : Int → Option Bool) : ∀ k, (∀ y0 y1 y2, LeO (impl_UseSpans.sw.l0 h_ k y0 y1 y2) (impl_UseSpans.sw.l0 h_ (k + 1) y0 y1 y2))
  | 0 => fun _ _ _ r h => by simp [impl_UseSpans.sw.l0] at h
  | k + 1 => by
    have ih0 := impl_UseSpans.sw.mono_l h_ k
    · intro y0 y1 y2
      unfold impl_UseSpans.sw.l0
      exact mo
theorem impl_UseSpans.sw.mono (h_ : Int → Option Bool) : ∀ a0 a1 a2 k, LeO (impl_UseSpans.sw.f h_ k a0 a1 a2) (impl_UseSpans.sw.f h_ (k + 1) a0 a1 a2) := by
  intro a0 a1 a2 k
  have ih0 := impl_UseSpans.sw.mono_l h_ k
  unfold impl_UseSpans.sw.f
  exact mo
theorem impl_UseSpans.sw.mono_h {h_ h2_ : Int → Option Bool} (hh : ∀ t, LeO (h_ t) (h2_ t)) : ∀ k, (∀ y0 y1 y2, LeO (impl_UseSpans.sw.l0 h_ k y0 y1 y2) (impl_UseSpans.sw.l0 h2_ k y0 y1 y2))
  | 0 => fun _ _ _ r h => by simp [impl_UseSpans.sw.l0] at h
  | k + 1 => by
    have ih0 := impl_UseSpans.sw.mono_h hh k
    have m7 := hh
    intro y0 y1 y2
    unfold impl_UseSpans.sw.l0
    exact mo
theorem impl_UseSpans.sw.calls (h_ : Int → Option Bool) (gp ga gb : Nat) (k : Nat) (a0 : Int) (a1 : Int) (a2 : Int) (r : List (S102)) (w : World) (hh : ∀ (t : Int) (q : Bool) (W : World), Below w.heap.size w W → h_ t = some q → Calls Try.prog 92 #[.int .i64 t, .pointer (some ⟨gp, 0, none⟩), .pointer (some ⟨ga, 0, none⟩), .pointer (some ⟨gb, 0, none⟩)] W fun e w' => e = .returned (.bool q) ∧ Below W.heap.size W w') (h : impl_UseSpans.sw.f h_ k a0 a1 a2 = some r) :
    Calls Try.prog 91 #[.int .i64 a0, .int .i64 a1, .func (.func 92) #[] #[.pointer (some ⟨gp, 0, none⟩), .pointer (some ⟨ga, 0, none⟩), .pointer (some ⟨gb, 0, none⟩)]] w fun e w' => ∃ v0_ : Value, e = .returned (v0_) ∧ Kd.R k102 102 w' w.heap.size (fun _ => True) v0_ r ∧ Below w.heap.size w w' := by
 have hu102 := Try.underlying102
 have HB := am (Below.refl w.heap.size w)
 have H : (impl_UseSpans.sw.l0 h_ k a1 (([] : List (S102))) (mx a0 0)) = some r := h
 clear h
 obtain ⟨y513, hy513⟩ : ∃ y_ : List (S102), y_ = (([] : List (S102))) := ⟨_, rfl⟩
 replace H : (impl_UseSpans.sw.l0 h_ k a1 y513 (mx a0 0)) = some r := ry hy513 H
 have Ny513 := am hy513
 clear hy513
 obtain ⟨ji4, hji4⟩ : ∃ j_ : Int, (mx a0 0) = j_ := ⟨_, rfl⟩
 replace H : (impl_UseSpans.sw.l0 h_ k a1 y513 ji4) = some r := by first | (rw [hji4] at H; exact H) | (simp only [hji4] at H ⊢; exact H)
 (try (have hji4l : 0 ≤ ji4 := by (rw [← hji4]; unfold mx; (repeat' split) <;> omega)))
 (try (have hji4m : 0 ≤ ji4 := by omega))
 have hji4_ : (if a0 < 0 then 0 else a0) = ji4 := hji4
 have H' := am H
 clear H
 go_enter Try.func91, Try.ntmps91
 go_wp2_with (first | ((with_reducible refine gd 10 rfl ?_); refine Kd.R_lit k102 _ 102 ?hg (N := 10) ?hd (xs := ([] : List (S102))) (inner := []) (ok := fun _ => True) (okp := fun _ => True) ?hr ?hp (fun _ hk => hk) trivial (Below.refl _ _) (Nat.le_refl _) (by simp) ?_; (case hd => rfl); (case hg => rfl); (case hr => first | (go_simp; done) | (go_simp; rfl)); (case hp => exact (Reps.none _ _)); intro v514 w5 ho6 hb hg_ hnew_; clear hg_ hnew_; (first | rw [← Ny513.out] at ho6 | (simp only [Int.reduceToNat] at ho6; rw [← Ny513.out] at ho6)); have HO515 := am (Kd.R_lower ho6 (below_size (sb))); replace HB := bs hb; clear hb ho6))
 go_loopg [7, 8] k (fun kq v7 v8 w' => ∃ (x7_1 : List (S102)) (x8_1 : Int), v8 = .int .i64 x8_1 ∧ Aside0 (impl_UseSpans.sw.l0 h_ kq a1 x7_1 x8_1 = some r) ∧ Aside0 (kq ≤ k) ∧ Aside0 (Kd.R k102 102 w' w.heap.size (fun _ => True) v7 x7_1) ∧ Aside0 (Below w.heap.size w w'))
 case atStart => exact ⟨(y513), (ji4), (by first | rfl | (simp; done) | (simp only [← hji4] <;> (first | rfl | simp)) | (simp [*]; done)), H', kk0, ⟨sr HO515⟩, ⟨sb⟩⟩
 case round =>
  clear H'
  obtain ⟨x7_1, x8_1, rfl, HA, HK1, HO_7, HB⟩ := hrel
  cases gk with
  | zero => exact absurd HA.out (by simp [impl_UseSpans.sw.l0])
  | succ k1 =>
   have H := HA.out
   clear HA
   simp only [impl_UseSpans.sw.l0] at H
   obtain ⟨ji7, hji7⟩ : ∃ j_ : Int, (mn a1 1000) = j_ := ⟨_, rfl⟩
   replace H : (if x8_1 < (ji7) then ((h_ x8_1).bind fun t516 => (if t516 = true then (if (wrap64 ((x7_1.length : Int) - 1)) ≥ 0 then (if 0 ≤ (wrap64 ((x7_1.length : Int) - 1)) then (if (wrap64 ((x7_1.length : Int) - 1)) < (x7_1.length : Int) then (if ((rd_T102 x7_1 (wrap64 ((x7_1.length : Int) - 1))).f1) = x8_1 then (impl_UseSpans.sw.l0 h_ k1 a1 (x7_1.set ((wrap64 ((x7_1.length : Int) - 1)) : Int).toNat (⟨(rd_T102 x7_1 (wrap64 ((x7_1.length : Int) - 1))).f0, wrap64 (((rd_T102 x7_1 (wrap64 ((x7_1.length : Int) - 1))).f1) + 1)⟩ : S102)) (wrap64 (x8_1 + 1))) else (if x7_1.length < 8796093022208 then (impl_UseSpans.sw.l0 h_ k1 a1 (x7_1 ++ [(⟨x8_1, wrap64 (x8_1 + 1)⟩ : S102)]) (wrap64 (x8_1 + 1))) else (none))) else (none)) else (none)) else (if x7_1.length < 8796093022208 then (impl_UseSpans.sw.l0 h_ k1 a1 (x7_1 ++ [(⟨x8_1, wrap64 (x8_1 + 1)⟩ : S102)]) (wrap64 (x8_1 + 1))) else (none))) else (impl_UseSpans.sw.l0 h_ k1 a1 x7_1 (wrap64 (x8_1 + 1))))) else (some x7_1)) = some r := by first | (rw [hji7] at H; exact H) | (simp only [hji7] at H ⊢; exact H)
   have hji7_ : (if 1000 < a1 then 1000 else a1) = ji7 := hji7
   obtain ⟨c8, H⟩ | ⟨c8, H⟩ := ie_ H
   ·have c8b0 := decide_eq_true c8
    clear c8
    obtain ⟨t516, A9, H⟩ := bnd H
    obtain rfl | rfl := tt t516
    ·replace H := ip H
     obtain ⟨c11, H⟩ | ⟨c11, H⟩ := ie_ H
     ·have c11b0 := decide_eq_true c11
      clear c11
      obtain ⟨ji12, hji12⟩ : ∃ j_ : Int, (wrap64 ((x7_1.length : Int) - 1)) = j_ := ⟨_, rfl⟩
      replace H : (if 0 ≤ (ji12) then (if (ji12) < (x7_1.length : Int) then (if ((rd_T102 x7_1 (ji12)).f1) = x8_1 then (impl_UseSpans.sw.l0 h_ k1 a1 (x7_1.set ((ji12) : Int).toNat (⟨(rd_T102 x7_1 (ji12)).f0, wrap64 (((rd_T102 x7_1 (ji12)).f1) + 1)⟩ : S102)) (wrap64 (x8_1 + 1))) else (if x7_1.length < 8796093022208 then (impl_UseSpans.sw.l0 h_ k1 a1 (x7_1 ++ [(⟨x8_1, wrap64 (x8_1 + 1)⟩ : S102)]) (wrap64 (x8_1 + 1))) else (none))) else (none)) else (none)) = some r := by first | (rw [hji12] at H; exact H) | (simp only [hji12] at H ⊢; exact H)
      (try rw [hji12] at c11b0)
      (try rw [hji12] at A9)
      have hji12w : (IntKind.i64.wrap ((x7_1.length : Int) - 1)) = ji12 := (i64_w _).trans hji12
      obtain ⟨c13b0, H⟩ := id_ H
      obtain ⟨c14b0, H⟩ := id_ H
      obtain ⟨c15, H⟩ | ⟨c15, H⟩ := ie_ H
      ·have c15b0 : (((rd_T102 x7_1 (ji12)).f1) == x8_1) = true := beq_iff_eq.mpr c15
       have c15b1 : (((rd_T102 x7_1 (ji12)).f1) != x8_1) = false := bne_eq_false_iff_eq.mpr c15
       clear c15
       obtain ⟨y519, hy519⟩ : ∃ y_ : List (S102), y_ = (x7_1.set ((ji12) : Int).toNat (⟨(rd_T102 x7_1 (ji12)).f0, wrap64 (((rd_T102 x7_1 (ji12)).f1) + 1)⟩ : S102)) := ⟨_, rfl⟩
       replace H : (impl_UseSpans.sw.l0 h_ k1 a1 y519 (wrap64 (x8_1 + 1))) = some r := ry hy519 H
       have Ny519 := am hy519
       clear hy519
       have H' := am H
       clear H
       go_wp2_with (first | (go_at_call 92; refine (hh x8_1 true _ (sb) A9.out).mono ?_; rintro e w17 ⟨rfl, hb⟩; replace HO_7 := rb HO_7 hb; replace HB := bs hb; (try clear hb); (try clear hb2); (try clear hk); (try clear hi); obtain ⟨Ao18, co18, eo18⟩ := Kd.R_slice HO_7.out; subst eo18; have p517 : 0 ≤ ((ji12) : Int) := sa; have q517 : (ji12) < (x7_1.length : Int) := sa; obtain ⟨ad517, e517, hx517_0, hx517_1⟩ := at_T102 (Kd.R_reads' HO_7.out).2.2 (ji12) p517 q517; cases e517; replace p517 := eq_true p517; replace q517 := eq_true q517; have p518 : 0 ≤ ((ji12) : Int) := sa; have q518 : (ji12) < (x7_1.length : Int) := sa; obtain ⟨ad518, e518, hx518_0, hx518_1⟩ := at_T102 (Kd.R_reads' HO_7.out).2.2 (ji12) p518 q518; obtain rfl : ad517 = ad518 := (by injection e518); replace p518 := eq_true p518; replace q518 := eq_true q518; have p16 : 0 ≤ ((ji12) : Int) := sa; have q16 : ((ji12) : Int) < ((x7_1.length : Int) : Int) := sa; obtain ⟨go16, co16, eo16, gb16, gl16, cl16, HG16⟩ := Kd.R_form HO_7.out (by omega); (first | cases eo16 | (injection eo16 with ea_ en_ ec_; (first | subst ea_ | (injection ea_ with ea_; subst ea_)); subst ec_; clear en_)); have GB16 := am gb16; have GG16 := am HG16; clear gb16 gl16 HG16; (first | simp only [add_plain] at hx517_0 | skip); (first | simp only [add_plain] at hx517_1 | skip); (first | simp only [add_plain] at hx518_0 | skip); (first | simp only [add_plain] at hx518_1 | skip); obtain ⟨ce16, hcl16, hM16, hcc16, hfr16⟩ := Kd.R_elem HO_7.out z102 ((ji12) : Int) p16 q16; obtain rfl := k102_openM hM16; have hx16_0 : w17.cell? ⟨go16, ((ji12) : Int).toNat * 2, none⟩ = some (.int .i64 ((rd_T102 x7_1 (ji12)).f0)) := hcc16 0 _ rfl; have hx16_1 : w17.cell? ⟨go16, ((ji12) : Int).toNat * 2 + 1, none⟩ = some (.int .i64 ((rd_T102 x7_1 (ji12)).f1)) := hcc16 1 _ rfl; have hf16_0 : w17.frozen? ⟨go16, ((ji12) : Int).toNat * 2, none⟩ = false := hfr16 0; have hf16_1 : w17.frozen? ⟨go16, ((ji12) : Int).toNat * 2 + 1, none⟩ = false := hfr16 1; (try clear hcl16); (try clear hcc16); (try clear hfr16); (try clear hM16); replace p16 := eq_true p16; replace q16 := eq_true q16; have HX19 := am (show Kd.R k102 102 w17 w.heap.size (fun _ => True) (.slice (some ⟨go16, 0, none⟩) x7_1.length co18) x7_1 from (sr HO_7)); obtain ⟨ce19, hcl19, hM19, hcc19, hfr19⟩ := Kd.R_elem HX19.out z102 ((ji12) : Int) (sa) (by have h_ : ((ji12) : Int) < ((x7_1.length : Int) : Int) := sa; first | exact h_ | (have e_ := (Kd.R_reads' HO_7.out).1; omega) | simpa using h_); obtain rfl := k102_openM hM19; have HP19 := Kd.R_seg HX19.out ((ji12) : Int) (sa) (by have h_ : ((ji12) : Int) < ((x7_1.length : Int) : Int) := sa; first | exact h_ | (have e_ := (Kd.R_reads' HO_7.out).1; omega) | simpa using h_) (seg := [.int .i64 (wrap64 (((rd_T102 x7_1 (ji12)).f1) + 1))]) (j := 1) hcl19 hcc19 (show 2 ≤ 2 from by decide) (x' := (⟨(rd_T102 x7_1 (ji12)).f0, wrap64 (((rd_T102 x7_1 (ji12)).f1) + 1)⟩ : S102)) (k102_mkM _ _ _ (⟨(rd_T102 x7_1 (ji12)).f0, wrap64 (((rd_T102 x7_1 (ji12)).f1) + 1)⟩ : S102) ) (fun _ hk => hk); have hx19_1 := hcc19 1 _ rfl; (try simp only [show (k102).sz = 2 from rfl, Nat.mul_one, Nat.add_zero] at hx19_1); have hf19_1 := hfr19 1; (try simp only [show (k102).sz = 2 from rfl, Nat.mul_one, Nat.add_zero] at hf19_1); (try clear hcl19); (try clear hcc19); (try clear hfr19); (try clear hM19)) | ((with_reducible refine gate_store (t := 3) (p := 44) rfl ?_); refine store_event (t := 3) (p := 44) (v := ?vo_w20) (w1 := (w17.setCell ⟨go16, ((ji12) : Int).toNat * 2 + 1, none⟩ (.int .i64 (wrap64 (((rd_T102 x7_1 (ji12)).f1) + 1))))) ?hg ?ho ?hn ?hr ?_; (case ho => rfl); (case hg => rfl); (case hn => rfl); (case hr => first | (go_simp; done) | (go_simp; rfl)); intro w20 hw; have hg : w17.grownBy w20 (some go16) := (by rw [hw]; exact HP19.2); have hp_ : Kd.R k102 102 w20 w.heap.size (fun _ => True) (.slice (some ⟨go16, 0, none⟩) x7_1.length co18) y519 := (by rw [hw, Ny519.out]; exact HP19.1); clear HP19; replace HO_7 := am hp_; replace HB := am ((by rw [hw]; exact below_set (HB.out) GB16.out : Below w.heap.size w w20)); clear hg hw hp_))
       go_roundg k1
       case measure => have := HK1.out; omega
       case rel => exact ⟨(y519), (wrap64 (x8_1 + 1)), sc, H', kk1, ⟨sr HO_7⟩, ⟨sb⟩⟩
      ·have c15b0 : (((rd_T102 x7_1 (ji12)).f1) == x8_1) = false := beq_eq_false_iff_ne.mpr c15
       have c15b1 : (((rd_T102 x7_1 (ji12)).f1) != x8_1) = true := bne_iff_ne.mpr c15
       obtain ⟨LMc21, H⟩ := il_ H
       obtain ⟨y520, hy520⟩ : ∃ y_ : List (S102), y_ = (x7_1 ++ [(⟨x8_1, wrap64 (x8_1 + 1)⟩ : S102)]) := ⟨_, rfl⟩
       replace H : (impl_UseSpans.sw.l0 h_ k1 a1 y520 (wrap64 (x8_1 + 1))) = some r := ry hy520 H
       have Ny520 := am hy520
       clear hy520
       have H' := am H
       clear H
       go_wp2_with (first | (go_at_call 92; refine (hh x8_1 true _ (sb) A9.out).mono ?_; rintro e w22 ⟨rfl, hb⟩; replace HO_7 := rb HO_7 hb; replace HB := bs hb; (try clear hb); (try clear hb2); (try clear hk); (try clear hi); obtain ⟨Ao23, co23, eo23⟩ := Kd.R_slice HO_7.out; subst eo23; have p517 : 0 ≤ ((ji12) : Int) := sa; have q517 : (ji12) < (x7_1.length : Int) := sa; obtain ⟨ad517, e517, hx517_0, hx517_1⟩ := at_T102 (Kd.R_reads' HO_7.out).2.2 (ji12) p517 q517; cases e517; replace p517 := eq_true p517; replace q517 := eq_true q517) | ((with_reducible refine gate_builtin (b := .append) (xs := #[.tmp 45, .tmp 50]) rfl ?_); at_builtin; refine Kd.R_append k102 (w0 := w) w.heap.size rfl (.tmp 45) (.tmp 50) 48 102 (.agg #[(.int .i64 0), (.int .i64 0)]) 16 rfl Try.underlying48 info102 rfl (by decide) (by omega) (.slice (some ad517) x7_1.length co23) x7_1 (⟨x8_1, wrap64 (x8_1 + 1)⟩ : S102) [.int .i64 x8_1, .int .i64 (wrap64 (x8_1 + 1))] (fun _ => True) (fun _ => False) rfl rfl ?aP (fun _ hk => hk.elim) ?aF ?aO ?aB ?aS ?aL ?_; (case aP => exact k102_mkM _ _ _ (⟨x8_1, wrap64 (x8_1 + 1)⟩ : S102)); (case aB => exact (sb)); (case aF => exact (fun _ _ => trivial)); (case aO => exact (sr HO_7)); (case aS => exact (below_size (sb))); (case aL => have := LMc21.out; omega); intro v521 w24 ho hb hg hat; rw [← Ny520.out] at ho; replace HB := am hb; have HO522 := am ho; clear HO_7; clear ho hb hg hat))
       go_roundg k1
       case measure => have := HK1.out; omega
       case rel => exact ⟨(y520), (wrap64 (x8_1 + 1)), sc, H', kk1, ⟨sr HO522⟩, ⟨sb⟩⟩
     ·have c11b0 := decide_eq_false c11
      clear c11
      obtain ⟨LMc25, H⟩ := il_ H
      obtain ⟨y523, hy523⟩ : ∃ y_ : List (S102), y_ = (x7_1 ++ [(⟨x8_1, wrap64 (x8_1 + 1)⟩ : S102)]) := ⟨_, rfl⟩
      replace H : (impl_UseSpans.sw.l0 h_ k1 a1 y523 (wrap64 (x8_1 + 1))) = some r := ry hy523 H
      have Ny523 := am hy523
      clear hy523
      have H' := am H
      clear H
      go_wp2_with (first | (go_at_call 92; refine (hh x8_1 true _ (sb) A9.out).mono ?_; rintro e w26 ⟨rfl, hb⟩; replace HO_7 := rb HO_7 hb; replace HB := bs hb; (try clear hb); (try clear hb2); (try clear hk); (try clear hi); obtain ⟨Ao27, co27, eo27⟩ := Kd.R_slice HO_7.out; subst eo27) | ((with_reducible refine gate_builtin (b := .append) (xs := #[.tmp 45, .tmp 50]) rfl ?_); at_builtin; refine Kd.R_append k102 (w0 := w) w.heap.size rfl (.tmp 45) (.tmp 50) 48 102 (.agg #[(.int .i64 0), (.int .i64 0)]) 16 rfl Try.underlying48 info102 rfl (by decide) (by omega) (.slice Ao27 x7_1.length co27) x7_1 (⟨x8_1, wrap64 (x8_1 + 1)⟩ : S102) [.int .i64 x8_1, .int .i64 (wrap64 (x8_1 + 1))] (fun _ => True) (fun _ => False) rfl rfl ?aP (fun _ hk => hk.elim) ?aF ?aO ?aB ?aS ?aL ?_; (case aP => exact k102_mkM _ _ _ (⟨x8_1, wrap64 (x8_1 + 1)⟩ : S102)); (case aB => exact (sb)); (case aF => exact (fun _ _ => trivial)); (case aO => exact (sr HO_7)); (case aS => exact (below_size (sb))); (case aL => have := LMc25.out; omega); intro v524 w28 ho hb hg hat; rw [← Ny523.out] at ho; replace HB := am hb; have HO525 := am ho; clear HO_7; clear ho hb hg hat))
      go_roundg k1
      case measure => have := HK1.out; omega
      case rel => exact ⟨(y523), (wrap64 (x8_1 + 1)), sc, H', kk1, ⟨sr HO525⟩, ⟨sb⟩⟩
    ·replace H := im H
     have H' := am H
     clear H
     go_wp2_with (first | (go_at_call 92; refine (hh x8_1 false _ (sb) A9.out).mono ?_; rintro e w29 ⟨rfl, hb⟩; replace HO_7 := rb HO_7 hb; replace HB := bs hb; (try clear hb); (try clear hb2); (try clear hk); (try clear hi)))
     go_roundg k1
     case measure => have := HK1.out; omega
     case rel => exact ⟨(x7_1), (wrap64 (x8_1 + 1)), sc, H', kk1, ⟨sr HO_7⟩, ⟨sb⟩⟩
   ·have c8b0 := decide_eq_false c8
    clear c8
    obtain rfl := Option.some.inj H
    go_wp2
    go_ret
    exact ⟨_, by first | rfl | (simp [errW_none, errW_some] <;> rfl) | (simp only [← hji4, ← hji7]; first | rfl | (simp [errW_none, errW_some] <;> rfl)) | (simp [*, errW_none, errW_some] <;> rfl), sr HO_7, sb⟩

def impl_UseSpans.f (k : Nat) (a0_0 : Int) (a0_1 : Int) (a0_2 : Int) (l0_3 : List (S105)) (a1 : Int) (a2 : Int) : Option (List (S102)) := impl_UseSpans.sw.f (fun t => impl_MayUse.f k a0_0 a0_1 a0_2 l0_3 a1 a2 t) k 0 1000 0
theorem impl_UseSpans.mono : ∀ a0 a1 a2 a3 a4 a5 k, LeO (impl_UseSpans.f k a0 a1 a2 a3 a4 a5) (impl_UseSpans.f (k + 1) a0 a1 a2 a3 a4 a5) := fun a0 a1 a2 a3 a4 a5 k =>
  (impl_UseSpans.sw.mono _ _ _ _ _).trans (impl_UseSpans.sw.mono_h (fun t => impl_MayUse.mono a0 a1 a2 a3 a4 a5 t k) _ _ _ _)
theorem impl_UseSpans.calls (k : Nat) (a0_0 : Int) (a0_1 : Int) (a0_2 : Int) (A0_3 : Option Addr) (c0_3 : Nat) (l0_3 : List (S105)) (a1 : Int) (a2 : Int) (r : List (S102)) (w : World) (hr0_3 : Kd.C k105 w A0_3 l0_3.length l0_3) (hc0_3 : l0_3.length ≤ c0_3) (h : impl_UseSpans.f k a0_0 a0_1 a0_2 l0_3 a1 a2 = some r) :
    Calls Try.prog 34 #[.agg #[.int .i64 a0_0, .int .i64 a0_1, .int .i64 a0_2, .slice A0_3 l0_3.length c0_3], .int .i64 a1, .int .i64 a2] w fun e w' => ∃ v0_ : Value, e = .returned (v0_) ∧ Kd.R k102 102 w' w.heap.size (fun _ => True) v0_ r ∧ Below w.heap.size w w' := by
 have hu := Try.underlying31
 have H := am h
 clear h
 go_enter Try.func34, Try.ntmps34
 go_wp2_with (first | ((with_reducible refine gd 3 rfl ?_); refine bx 3 #[.int .i64 a0_0, .int .i64 a0_1, .int .i64 a0_2, .slice A0_3 l0_3.length c0_3] 31 ?_; intro g3 hg3 w3 hbox3 hb3; clear hg3; have B3 := am hbox3; have M3 := am hb3; clear hbox3 hb3) | ((with_reducible refine gd 4 rfl ?_); refine bx 4 #[.int .i64 a1] 3 ?_; intro g4 hg4 w4 hbox4 hb4; clear hg4; have B4 := am hbox4; have B3' := am (blk_below B3.out hb4); have M4 := am (below_step M3.out hb4); clear hbox4 hb4) | ((with_reducible refine gd 5 rfl ?_); refine bx 5 #[.int .i64 a2] 3 ?_; intro g5 hg5 w5 hbox5 hb5; clear hg5; have B5 := am hbox5; have B4' := am (blk_below B4.out hb5); have B3'' := am (blk_below B3'.out hb5); have M5 := am (below_step M4.out hb5); clear hbox5 hb5) | (go_at_call 91; refine (impl_UseSpans.sw.calls (fun t => impl_MayUse.f k a0_0 a0_1 a0_2 l0_3 a1 a2 t) g3 g4 g5 k 0 1000 0 r _ (fun t q W hB hq => impl_UseSpans.lit k a0_0 a0_1 a0_2 A0_3 c0_3 l0_3 a1 a2 t q g3 g4 g5 W (Kd.C_below hr0_3 (below_step M5.out hB)) hc0_3 ((blk_cell (blk_below B3''.out hB) 0).trans rfl) ((blk_cell (blk_below B3''.out hB) 1).trans rfl) ((blk_cell (blk_below B3''.out hB) 2).trans rfl) ((blk_cell (blk_below B3''.out hB) 3).trans rfl) ((blk_cell (blk_below B4'.out hB) 0).trans rfl) ((blk_cell (blk_below B5.out hB) 0).trans rfl) hq) H.out).mono ?_; rintro e w6 ⟨v6, rfl, ho6, hb6⟩; have HO6 := am ho6; have M6 := am hb6; clear ho6 hb6))
 go_ret
 exact ⟨_, rfl, Kd.R_lower HO6.out (below_size M5.out), below_step M5.out M6.out⟩

def impl_InSpans.l0 : Nat → Int → List (S102) → Int → Int → Option (Bool)
  | 0, _, _, _, _ => none
  | k + 1, x1, x7, x8, x9 => if x9 < x8 then (if 0 ≤ x9 then (if x9 < (x7.length : Int) then ((impl_InSpan.f ((rd_T102 x7 x9).f0) ((rd_T102 x7 x9).f1) x1).bind fun t528 => (if t528 = true then (some true) else (impl_InSpans.l0 k x1 x7 x8 (wrap64 (x9 + 1))))) else (none)) else (none)) else (some false)
def impl_InSpans.f (k : Nat) (l0 : List (S102)) (a1 : Int) : Option (Bool) := impl_InSpans.l0 k a1 l0 (l0.length : Int) 0
theorem impl_InSpans.mono_l : ∀ k, (∀ y0 y1 y2 y3, LeO (impl_InSpans.l0 k y0 y1 y2 y3) (impl_InSpans.l0 (k + 1) y0 y1 y2 y3))
  | 0 => fun _ _ _ _ r h => by simp [impl_InSpans.l0] at h
  | k + 1 => by
    have ih0 := impl_InSpans.mono_l k
    · intro y0 y1 y2 y3
      unfold impl_InSpans.l0
      exact mo
theorem impl_InSpans.mono : ∀ a0 a1 k, LeO (impl_InSpans.f k a0 a1) (impl_InSpans.f (k + 1) a0 a1) := by
  intro a0 a1 k
  have ih0 := impl_InSpans.mono_l k
  unfold impl_InSpans.f
  exact mo
theorem impl_InSpans.calls (k : Nat) (A0 : Option Addr) (c0 : Nat) (l0 : List (S102)) (a1 : Int) (r : Bool) (w : World) (hr0 : Kd.C k102 w A0 l0.length l0) (hc0 : l0.length ≤ c0) (h : impl_InSpans.f k l0 a1 = some r) :
    Calls Try.prog 35 #[.slice A0 l0.length c0, .int .i64 a1] w fun e w' => e = .returned (.bool r) ∧ Below w.heap.size w w' := by
 have hu102 := Try.underlying102
 have HR0 := am hr0
 have HC0 := am hc0
 clear hr0 hc0
 have HB := am (Below.refl w.heap.size w)
 have H : (impl_InSpans.l0 k a1 l0 (l0.length : Int) 0) = some r := h
 clear h
 have H' := am H
 clear H
 go_enter Try.func35, Try.ntmps35
 go_wp2
 go_loopg [9] k (fun kq v9 w' => ∃ (x9_1 : Int), v9 = .int .i64 x9_1 ∧ Aside0 (impl_InSpans.l0 kq a1 l0 (l0.length : Int) x9_1 = some r) ∧ Aside0 (kq ≤ k) ∧ Aside0 (Below w.heap.size w w'))
 case atStart => exact ⟨(0), sc, H', kk0, ⟨sb⟩⟩
 case round =>
  clear H'
  obtain ⟨x9_1, rfl, HA, HK1, HB⟩ := hrel
  cases gk with
  | zero => exact absurd HA.out (by simp [impl_InSpans.l0])
  | succ k1 =>
   have H := HA.out
   clear HA
   simp only [impl_InSpans.l0] at H
   obtain ⟨c3, H⟩ | ⟨c3, H⟩ := ie_ H
   ·have c3b0 := decide_eq_true c3
    clear c3
    obtain ⟨c4b0, H⟩ := id_ H
    obtain ⟨c5b0, H⟩ := id_ H
    obtain ⟨t528, A6, H⟩ := bnd H
    obtain rfl | rfl := tt t528
    ·replace H := ip H
     obtain rfl := Option.some.inj H
     obtain ⟨p526, q526, ad526, e526, _, _, hx526_0, hx526_1⟩ := aT_T102 HR0 HB x9_1
     cases e526
     go_wp2_with (first | ((with_reducible refine gd 6 rfl ?_); refine bx 6 #[.int .i64 0, .int .i64 0] 102 ?_; intro gb527 hg w8 hbox hb; have GW527 := bz w hg; have GE527 := bz w hg; replace HB := bs hb; have BK527 := am hbox; clear hb hbox hg; obtain ⟨hcz9_0, hcz9_1, hfz9_0, hfz9_1⟩ := cc2 BK527) | ((with_reducible refine gc 93 rfl ?_); refine gL (some 15) Try.func93 #[.agg #[.int .i64 ((rd_T102 l0 x9_1).f0), .int .i64 ((rd_T102 l0 x9_1).f1)], .int .i64 a1] ?_; (with_reducible refine (impl_InSpan.calls ((rd_T102 l0 x9_1).f0) ((rd_T102 l0 x9_1).f1) a1 true _ A6.out).mono ?_); rintro e w10 ⟨rfl, hb⟩; refine ⟨_, rfl, ?_⟩; replace BK527 := am (blk_below (g := gb527) (o := .cells #[.int .i64 ((rd_T102 l0 x9_1).f0), .int .i64 ((rd_T102 l0 x9_1).f1)] 102 (0, 0)) (sp BK527) hb); replace HB := bsw hb; (try clear hb); (try clear hb2); (try clear hk); (try clear hi)))
     go_ret
     exact ⟨se, sbw⟩
    ·replace H := im H
     have H' := am H
     clear H
     obtain ⟨p526, q526, ad526, e526, _, _, hx526_0, hx526_1⟩ := aT_T102 HR0 HB x9_1
     cases e526
     go_wp2_with (first | ((with_reducible refine gd 6 rfl ?_); refine bx 6 #[.int .i64 0, .int .i64 0] 102 ?_; intro gb527 hg w11 hbox hb; have GW527 := bz w hg; have GE527 := bz w hg; replace HB := bs hb; have BK527 := am hbox; clear hb hbox hg; obtain ⟨hcz12_0, hcz12_1, hfz12_0, hfz12_1⟩ := cc2 BK527) | ((with_reducible refine gc 93 rfl ?_); refine gL (some 15) Try.func93 #[.agg #[.int .i64 ((rd_T102 l0 x9_1).f0), .int .i64 ((rd_T102 l0 x9_1).f1)], .int .i64 a1] ?_; (with_reducible refine (impl_InSpan.calls ((rd_T102 l0 x9_1).f0) ((rd_T102 l0 x9_1).f1) a1 false _ A6.out).mono ?_); rintro e w13 ⟨rfl, hb⟩; refine ⟨_, rfl, ?_⟩; replace BK527 := am (blk_below (g := gb527) (o := .cells #[.int .i64 ((rd_T102 l0 x9_1).f0), .int .i64 ((rd_T102 l0 x9_1).f1)] 102 (0, 0)) (sp BK527) hb); replace HB := bsw hb; (try clear hb); (try clear hb2); (try clear hk); (try clear hi)))
     go_roundg k1
     case measure => have := HK1.out; omega
     case rel => exact ⟨(wrap64 (x9_1 + 1)), sc, H', kk1, ⟨sbw⟩⟩
   ·have c3b0 := decide_eq_false c3
    clear c3
    obtain rfl := Option.some.inj H
    go_wp2
    go_ret
    exact ⟨se, sb⟩

def impl_isNumber.f (a0 : Int) : Option (Bool) := (impl_InRange.f a0 1 12).bind fun t529 => (some t529)
theorem impl_isNumber.calls (a0 : Int) (r : Bool) (w : World) (h : impl_isNumber.f a0 = some r) :
    Calls Try.prog 120 #[.int .i64 a0] w fun e w' => e = .returned (.bool r) ∧ Drawn0 w w' := by
 have H : ((impl_InRange.f a0 1 12).bind fun t529 => (some t529)) = some r := h
 clear h
 obtain ⟨t529, A2, H⟩ := bnd H
 obtain rfl := Option.some.inj H
 go_enter Try.func120, Try.ntmps120
 go_wp2_with (first | ((with_reducible refine gc 95 rfl ?_); refine gL (some 4) Try.func95 #[.int .i64 a0, .int .i64 1, .int .i64 12] ?_; (with_reducible refine (impl_InRange.calls a0 1 12 t529 _ A2.out).mono ?_); rintro e w' ⟨rfl, ⟨nd, rfl⟩⟩; refine ⟨_, rfl, ?_⟩))
 go_ret
 exact ⟨sc, sd⟩

def impl_isFrame.f (a0 : Int) (a1 : Int) (a2 : Int) : Option (Bool) := (impl_isNumber.f a0).bind fun t530 => (if t530 = true then ((impl_InRange.f a1 0 a0).bind fun t531 => (if t531 = true then ((impl_InRange.f a2 0 5).bind fun t532 => (some t532)) else (some false))) else (some false))
theorem impl_isFrame.calls (a0 : Int) (a1 : Int) (a2 : Int) (r : Bool) (w : World) (h : impl_isFrame.f a0 a1 a2 = some r) :
    Calls Try.prog 94 #[.int .i64 a0, .int .i64 a1, .int .i64 a2] w fun e w' => e = .returned (.bool r) ∧ Drawn0 w w' := by
 have H : ((impl_isNumber.f a0).bind fun t530 => (if t530 = true then ((impl_InRange.f a1 0 a0).bind fun t531 => (if t531 = true then ((impl_InRange.f a2 0 5).bind fun t532 => (some t532)) else (some false))) else (some false))) = some r := h
 clear h
 obtain ⟨t530, A4, H⟩ := bnd H
 obtain rfl | rfl := tt t530
 ·replace H := ip H
  obtain ⟨t531, A6, H⟩ := bnd H
  obtain rfl | rfl := tt t531
  ·replace H := ip H
   obtain ⟨t532, A8, H⟩ := bnd H
   obtain rfl := Option.some.inj H
   go_enter Try.func94, Try.ntmps94
   go_wp2_with (first | ((with_reducible refine gc 120 rfl ?_); refine gL (some 8) Try.func120 #[.int .i64 a0] ?_; (with_reducible refine (impl_isNumber.calls a0 true _ A4.out).mono ?_); rintro e w' ⟨rfl, ⟨nd, rfl⟩⟩; refine ⟨_, rfl, ?_⟩) | (go_at_call 95; (with_reducible refine (impl_InRange.calls a1 0 a0 true _ A6.out).mono ?_); rintro e w' ⟨rfl, ⟨nd, rfl⟩⟩) | (go_at_call 95; (with_reducible refine (impl_InRange.calls a2 0 5 t532 _ A8.out).mono ?_); rintro e w' ⟨rfl, ⟨nd, rfl⟩⟩))
   go_ret
   exact ⟨sc, sd⟩
  ·replace H := im H
   obtain rfl := Option.some.inj H
   go_enter Try.func94, Try.ntmps94
   go_wp2_with (first | ((with_reducible refine gc 120 rfl ?_); refine gL (some 8) Try.func120 #[.int .i64 a0] ?_; (with_reducible refine (impl_isNumber.calls a0 true _ A4.out).mono ?_); rintro e w' ⟨rfl, ⟨nd, rfl⟩⟩; refine ⟨_, rfl, ?_⟩) | (go_at_call 95; (with_reducible refine (impl_InRange.calls a1 0 a0 false _ A6.out).mono ?_); rintro e w' ⟨rfl, ⟨nd, rfl⟩⟩))
   go_ret
   exact ⟨sc, sd⟩
 ·replace H := im H
  obtain rfl := Option.some.inj H
  go_enter Try.func94, Try.ntmps94
  go_wp2_with (first | ((with_reducible refine gc 120 rfl ?_); refine gL (some 8) Try.func120 #[.int .i64 a0] ?_; (with_reducible refine (impl_isNumber.calls a0 false _ A4.out).mono ?_); rintro e w' ⟨rfl, ⟨nd, rfl⟩⟩; refine ⟨_, rfl, ?_⟩))
  go_ret
  exact ⟨sc, sd⟩

end Go.Proofs.Ytiihaabhjphaeaa.QFnMargins
