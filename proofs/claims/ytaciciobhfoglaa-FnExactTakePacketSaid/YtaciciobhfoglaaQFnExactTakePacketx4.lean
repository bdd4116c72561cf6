/- What the Go functions of the law FnExactTakePacket come to, as Lean functions, and that they do: by a program of the session, out of the kit's printer. Conditions: none. (squeezed). -/
import Derived.Test.YtaciciobhfoglaaSq
import Derived.Test.YtaciciobhfoglaaQFnExactTakePacketx0
import Derived.Test.YtaciciobhfoglaaQFnExactTakePacketx1
import Derived.Test.YtaciciobhfoglaaQFnExactTakePacketx2
import Derived.Test.YtaciciobhfoglaaQFnExactTakePacketx3
namespace Go.Proofs.Ytaciciobhfoglaa.QFnExactTakePacket
open Go.RowKit Go.Proofs.YtaciciobhfoglaaW.PrintWords Go.Proofs.YtaciciobhfoglaaW.PrintLast Go.Proofs.YtaciciobhfoglaaW.PrintMore Go.Proofs.Ytaciciobhfoglaa.Open Go.Proofs.Ytaciciobhfoglaa.Sq
attribute [local go_sem] max2_int min2_int max_two min_two max_three min_three max_four min_four   -- for this text's walks alone
attribute [local go_sem] isSome_set
set_option linter.unusedVariables false
set_option linter.unusedSimpArgs false

/-! ### laws_FnExactTakePacket: function 5 -/
mutual
def laws_FnExactTakePacket.j0 : Nat → Int → Bool → Bool → Bool → List (S140) → List (S49) → Int → Int → Int → Int → Int → Int → List (S49) → List (S49) → Int → Int → Int → Int → Int → Int → Option (Bool)
  | 0, _, _, _, _, _, _, _, _, _, _, _, _, _, _, _, _, _, _, _, _ => none
  | k + 1, x1, x8, x12, x55, x199000, x214000, x215000, x215001, x215002, x215003, x215004, x215005, x219000, x230000, x231000, x231001, x231002, x231003, x231004, x231005 => if x55 = true then (some false) else ((laws_toQueue.f k x199000).bind fun t233 => ((laws_eqQueue.f k x219000 t233).bind fun t236 => (if t236 = true then ((laws_markQueue.f k x219000 1).bind fun bt237 => (if bt237.1 < 0 then (laws_FnExactTakePacket.j1 k x1 x8 true x199000 x214000 x215000 x215001 x215002 x215003 x215004 x215005 x230000) else ((laws_eqQueue.f k x230000 x214000).bind fun t239 => (if t239 = true then ((laws_eqPacket.f x231000 x231001 x231002 x231003 x231004 x231005 x215000 x215001 x215002 x215003 x215004 x215005).bind fun t240 => (if t240 = true then (laws_FnExactTakePacket.j1 k x1 x8 (x12 != x8) x199000 x214000 x215000 x215001 x215002 x215003 x215004 x215005 x230000) else (laws_FnExactTakePacket.j1 k x1 x8 true x199000 x214000 x215000 x215001 x215002 x215003 x215004 x215005 x230000))) else (laws_FnExactTakePacket.j1 k x1 x8 true x199000 x214000 x215000 x215001 x215002 x215003 x215004 x215005 x230000))))) else (some false))))
def laws_FnExactTakePacket.j1 : Nat → Int → Bool → Bool → List (S140) → List (S49) → Int → Int → Int → Int → Int → Int → List (S49) → Option (Bool)
  | 0, _, _, _, _, _, _, _, _, _, _, _, _ => none
  | k + 1, x1, x8, x82, x199000, x214000, x215000, x215001, x215002, x215003, x215004, x215005, x230000 => if x82 = true then (some false) else ((laws_markQueue.f k x230000 1).bind fun bt241 => ((laws_heldQueue.f k bt241.2 1).bind fun t243 => (if t243 < 0 then (some false) else (if t243 = bt241.1 then ((laws_toQueue.f k x199000).bind fun t244 => ((impl_TakePacket.f t244 x1).bind fun bt247 => ((laws_eqQueue.f k bt247.1 x214000).bind fun t259 => (if t259 = true then ((laws_eqPacket.f bt247.2.1 bt247.2.2.1 bt247.2.2.2.1 bt247.2.2.2.2.1 bt247.2.2.2.2.2.1 bt247.2.2.2.2.2.2.1 x215000 x215001 x215002 x215003 x215004 x215005).bind fun t260 => (if t260 = true then (laws_FnExactTakePacket.j2 k bt241.1 (bt247.2.2.2.2.2.2.2 != x8) bt241.2) else (laws_FnExactTakePacket.j2 k bt241.1 true bt241.2))) else (laws_FnExactTakePacket.j2 k bt241.1 true bt241.2))))) else (some false)))))
def laws_FnExactTakePacket.j2 : Nat → Int → Bool → List (S49) → Option (Bool)
  | 0, _, _, _ => none
  | k + 1, x14, x116, x230000 => if x116 = true then (some false) else ((laws_heldQueue.f k x230000 1).bind fun t261 => (if t261 < 0 then (some false) else (if t261 = x14 then (some true) else (some false))))
end
def laws_FnExactTakePacket.f (k : Nat) (l0_0 : List (S140)) (a1 : Int) : Option (Bool) := (laws_szQueue.f l0_0 1048576).bind fun t199 => (if t199 < 0 then (some true) else ((laws_toQueue.f k l0_0).bind fun t200 => ((spec_TakePacket.f t200 a1).bind fun bt203 => ((laws_toQueue.f k l0_0).bind fun t215 => ((impl_TakePacket.f t215 a1).bind fun bt219 => ((laws_eqQueue.f k bt219.1 bt203.1).bind fun t231 => (if t231 = true then ((laws_eqPacket.f bt219.2.1 bt219.2.2.1 bt219.2.2.2.1 bt219.2.2.2.2.1 bt219.2.2.2.2.2.1 bt219.2.2.2.2.2.2.1 bt203.2.1 bt203.2.2.1 bt203.2.2.2.1 bt203.2.2.2.2.1 bt203.2.2.2.2.2.1 bt203.2.2.2.2.2.2.1).bind fun t232 => (if t232 = true then (laws_FnExactTakePacket.j0 k a1 bt203.2.2.2.2.2.2.2 bt219.2.2.2.2.2.2.2 (bt219.2.2.2.2.2.2.2 != bt203.2.2.2.2.2.2.2) l0_0 bt203.1 bt203.2.1 bt203.2.2.1 bt203.2.2.2.1 bt203.2.2.2.2.1 bt203.2.2.2.2.2.1 bt203.2.2.2.2.2.2.1 t215 bt219.1 bt219.2.1 bt219.2.2.1 bt219.2.2.2.1 bt219.2.2.2.2.1 bt219.2.2.2.2.2.1 bt219.2.2.2.2.2.2.1) else (laws_FnExactTakePacket.j0 k a1 bt203.2.2.2.2.2.2.2 bt219.2.2.2.2.2.2.2 true l0_0 bt203.1 bt203.2.1 bt203.2.2.1 bt203.2.2.2.1 bt203.2.2.2.2.1 bt203.2.2.2.2.2.1 bt203.2.2.2.2.2.2.1 t215 bt219.1 bt219.2.1 bt219.2.2.1 bt219.2.2.2.1 bt219.2.2.2.2.1 bt219.2.2.2.2.2.1 bt219.2.2.2.2.2.2.1))) else (laws_FnExactTakePacket.j0 k a1 bt203.2.2.2.2.2.2.2 bt219.2.2.2.2.2.2.2 true l0_0 bt203.1 bt203.2.1 bt203.2.2.1 bt203.2.2.2.1 bt203.2.2.2.2.1 bt203.2.2.2.2.2.1 bt203.2.2.2.2.2.2.1 t215 bt219.1 bt219.2.1 bt219.2.2.1 bt219.2.2.2.1 bt219.2.2.2.2.1 bt219.2.2.2.2.2.1 bt219.2.2.2.2.2.2.1))))))))
theorem laws_FnExactTakePacket.mono_l : ∀ k, (∀ y0 y1 y2 y3 y4 y5 y6 y7 y8 y9 y10 y11 y12 y13 y14 y15 y16 y17 y18 y19, LeO (laws_FnExactTakePacket.j0 k y0 y1 y2 y3 y4 y5 y6 y7 y8 y9 y10 y11 y12 y13 y14 y15 y16 y17 y18 y19) (laws_FnExactTakePacket.j0 (k + 1) y0 y1 y2 y3 y4 y5 y6 y7 y8 y9 y10 y11 y12 y13 y14 y15 y16 y17 y18 y19)) ∧ (∀ y0 y1 y2 y3 y4 y5 y6 y7 y8 y9 y10 y11, LeO (laws_FnExactTakePacket.j1 k y0 y1 y2 y3 y4 y5 y6 y7 y8 y9 y10 y11) (laws_FnExactTakePacket.j1 (k + 1) y0 y1 y2 y3 y4 y5 y6 y7 y8 y9 y10 y11)) ∧ (∀ y0 y1 y2, LeO (laws_FnExactTakePacket.j2 k y0 y1 y2) (laws_FnExactTakePacket.j2 (k + 1) y0 y1 y2))
  | 0 => ⟨fun _ _ _ _ _ _ _ _ _ _ _ _ _ _ _ _ _ _ _ _ r h => by simp [laws_FnExactTakePacket.j0] at h, fun _ _ _ _ _ _ _ _ _ _ _ _ r h => by simp [laws_FnExactTakePacket.j1] at h, fun _ _ _ r h => by simp [laws_FnExactTakePacket.j2] at h⟩
  | k + 1 => by
    obtain ⟨ih0, ih1, ih2⟩ := laws_FnExactTakePacket.mono_l k
    refine ⟨?_, ?_, ?_⟩
    · intro y0 y1 y2 y3 y4 y5 y6 y7 y8 y9 y10 y11 y12 y13 y14 y15 y16 y17 y18 y19
      unfold laws_FnExactTakePacket.j0
      have m0 := @laws_eqQueue.mono
      have m1 := @laws_heldQueue.mono
      have m2 := @laws_markQueue.mono
      have m3 := @laws_toQueue.mono
      exact mo
    · intro y0 y1 y2 y3 y4 y5 y6 y7 y8 y9 y10 y11
      unfold laws_FnExactTakePacket.j1
      have m0 := @laws_eqQueue.mono
      have m1 := @laws_heldQueue.mono
      have m2 := @laws_markQueue.mono
      have m3 := @laws_toQueue.mono
      exact mo
    · intro y0 y1 y2
      unfold laws_FnExactTakePacket.j2
      have m0 := @laws_eqQueue.mono
      have m1 := @laws_heldQueue.mono
      have m2 := @laws_markQueue.mono
      have m3 := @laws_toQueue.mono
      exact mo
theorem laws_FnExactTakePacket.mono : ∀ a0 a1 k, LeO (laws_FnExactTakePacket.f k a0 a1) (laws_FnExactTakePacket.f (k + 1) a0 a1) := by
  intro a0 a1 k
  obtain ⟨ih0, ih1, ih2⟩ := laws_FnExactTakePacket.mono_l k
  unfold laws_FnExactTakePacket.f
  have m0 := @laws_eqQueue.mono
  have m1 := @laws_heldQueue.mono
  have m2 := @laws_markQueue.mono
  have m3 := @laws_toQueue.mono
  exact mo
set_option maxHeartbeats 8000000 in
set_option maxRecDepth 100000 in
theorem laws_FnExactTakePacket.calls (k : Nat) (A0_0 : Option Addr) (c0_0 : Nat) (l0_0 : List (S140)) (a1 : Int) (r : Bool) (w : World) (hr0_0 : Kd.C k140 w A0_0 l0_0.length l0_0) (hc0_0 : l0_0.length ≤ c0_0) (h : laws_FnExactTakePacket.f k l0_0 a1 = some r) :
    Calls Try.prog 5 #[.agg #[.slice A0_0 l0_0.length c0_0], .int .i64 a1] w fun e w' => e = .returned (.bool r) ∧ Below w.heap.size w w' := by
 have hu35 := Try.underlying35
 have hu41 := Try.underlying41
 have hu49 := Try.underlying49
 have HR0_0 := Aside0.mk hr0_0
 have HC0_0 := Aside0.mk hc0_0
 clear hr0_0 hc0_0
 have HB := Aside0.mk (Below.refl w.heap.size w)
 have H : ((laws_szQueue.f l0_0 1048576).bind fun t199 => (if t199 < 0 then (some true) else ((laws_toQueue.f k l0_0).bind fun t200 => ((spec_TakePacket.f t200 a1).bind fun bt203 => ((laws_toQueue.f k l0_0).bind fun t215 => ((impl_TakePacket.f t215 a1).bind fun bt219 => ((laws_eqQueue.f k bt219.1 bt203.1).bind fun t231 => (if t231 = true then ((laws_eqPacket.f bt219.2.1 bt219.2.2.1 bt219.2.2.2.1 bt219.2.2.2.2.1 bt219.2.2.2.2.2.1 bt219.2.2.2.2.2.2.1 bt203.2.1 bt203.2.2.1 bt203.2.2.2.1 bt203.2.2.2.2.1 bt203.2.2.2.2.2.1 bt203.2.2.2.2.2.2.1).bind fun t232 => (if t232 = true then (laws_FnExactTakePacket.j0 k a1 bt203.2.2.2.2.2.2.2 bt219.2.2.2.2.2.2.2 (bt219.2.2.2.2.2.2.2 != bt203.2.2.2.2.2.2.2) l0_0 bt203.1 bt203.2.1 bt203.2.2.1 bt203.2.2.2.1 bt203.2.2.2.2.1 bt203.2.2.2.2.2.1 bt203.2.2.2.2.2.2.1 t215 bt219.1 bt219.2.1 bt219.2.2.1 bt219.2.2.2.1 bt219.2.2.2.2.1 bt219.2.2.2.2.2.1 bt219.2.2.2.2.2.2.1) else (laws_FnExactTakePacket.j0 k a1 bt203.2.2.2.2.2.2.2 bt219.2.2.2.2.2.2.2 true l0_0 bt203.1 bt203.2.1 bt203.2.2.1 bt203.2.2.2.1 bt203.2.2.2.2.1 bt203.2.2.2.2.2.1 bt203.2.2.2.2.2.2.1 t215 bt219.1 bt219.2.1 bt219.2.2.1 bt219.2.2.2.1 bt219.2.2.2.2.1 bt219.2.2.2.2.2.1 bt219.2.2.2.2.2.2.1))) else (laws_FnExactTakePacket.j0 k a1 bt203.2.2.2.2.2.2.2 bt219.2.2.2.2.2.2.2 true l0_0 bt203.1 bt203.2.1 bt203.2.2.1 bt203.2.2.2.1 bt203.2.2.2.2.1 bt203.2.2.2.2.2.1 bt203.2.2.2.2.2.2.1 t215 bt219.1 bt219.2.1 bt219.2.2.1 bt219.2.2.2.1 bt219.2.2.2.2.1 bt219.2.2.2.2.2.1 bt219.2.2.2.2.2.2.1))))))))) = some r := h
 clear h
 obtain ⟨t199, A3, H⟩ := bnd H
 obtain ⟨c4, H⟩ | ⟨c4, H⟩ := ie_ H
 ·have c4b0 := decide_eq_true c4
  clear c4
  obtain rfl := Option.some.inj H
  go_enter Try.func5, Try.ntmps5
  go_wp2_with (first | ((with_reducible refine gate_dst (N := 2) rfl ?_); refine bx 2 #[.slice A0_0 l0_0.length c0_0] 35 ?_; intro gb198 hg w5 hbox hb; have GW198 := bz w hg; have GE198 := bz w hg; replace HB := bs hb; have BK198 := Aside0.mk hbox; clear hb hbox hg; obtain ⟨hcz6_0, hfz6_0⟩ := cc1 BK198) | ((with_reducible refine gate_callee (f := 21) rfl ?_); refine gL (some 21) Try.func21 #[.agg #[.slice A0_0 l0_0.length c0_0], .int .i64 1048576] ?_; (with_reducible refine (laws_szQueue.calls _ _ l0_0 1048576 t199 _ ?side1 ?side2 A3.out).mono ?_); (case side1 => exact cb HR0_0); (case side2 => exact HC0_0.out); rintro e w7 ⟨rfl, hb⟩; refine ⟨_, rfl, ?_⟩; replace BK198 := bb BK198 hb; replace HB := bsw hb; (try clear hb); (try clear hb2); (try clear hk); (try clear hi)))
  go_ret
  exact ⟨se, sbw⟩
 ·have c4b0 := decide_eq_false c4
  clear c4
  obtain ⟨t200, A8, H⟩ := bnd H
  obtain ⟨⟨t203, t206, t207, t208, t209, t210, t211, t212⟩, A9, H⟩ := bnd H
  replace H : ((laws_toQueue.f k l0_0).bind fun t215 => ((impl_TakePacket.f t215 a1).bind fun bt219 => ((laws_eqQueue.f k bt219.1 t203).bind fun t231 => (if t231 = true then ((laws_eqPacket.f bt219.2.1 bt219.2.2.1 bt219.2.2.2.1 bt219.2.2.2.2.1 bt219.2.2.2.2.2.1 bt219.2.2.2.2.2.2.1 t206 t207 t208 t209 t210 t211).bind fun t232 => (if t232 = true then (laws_FnExactTakePacket.j0 k a1 t212 bt219.2.2.2.2.2.2.2 (bt219.2.2.2.2.2.2.2 != t212) l0_0 t203 t206 t207 t208 t209 t210 t211 t215 bt219.1 bt219.2.1 bt219.2.2.1 bt219.2.2.2.1 bt219.2.2.2.2.1 bt219.2.2.2.2.2.1 bt219.2.2.2.2.2.2.1) else (laws_FnExactTakePacket.j0 k a1 t212 bt219.2.2.2.2.2.2.2 true l0_0 t203 t206 t207 t208 t209 t210 t211 t215 bt219.1 bt219.2.1 bt219.2.2.1 bt219.2.2.2.1 bt219.2.2.2.2.1 bt219.2.2.2.2.2.1 bt219.2.2.2.2.2.2.1))) else (laws_FnExactTakePacket.j0 k a1 t212 bt219.2.2.2.2.2.2.2 true l0_0 t203 t206 t207 t208 t209 t210 t211 t215 bt219.1 bt219.2.1 bt219.2.2.1 bt219.2.2.2.1 bt219.2.2.2.2.1 bt219.2.2.2.2.2.1 bt219.2.2.2.2.2.2.1))))) = some r := H
  obtain ⟨t215, A10, H⟩ := bnd H
  obtain ⟨⟨t219, t222, t223, t224, t225, t226, t227, t228⟩, A11, H⟩ := bnd H
  replace H : ((laws_eqQueue.f k t219 t203).bind fun t231 => (if t231 = true then ((laws_eqPacket.f t222 t223 t224 t225 t226 t227 t206 t207 t208 t209 t210 t211).bind fun t232 => (if t232 = true then (laws_FnExactTakePacket.j0 k a1 t212 t228 (t228 != t212) l0_0 t203 t206 t207 t208 t209 t210 t211 t215 t219 t222 t223 t224 t225 t226 t227) else (laws_FnExactTakePacket.j0 k a1 t212 t228 true l0_0 t203 t206 t207 t208 t209 t210 t211 t215 t219 t222 t223 t224 t225 t226 t227))) else (laws_FnExactTakePacket.j0 k a1 t212 t228 true l0_0 t203 t206 t207 t208 t209 t210 t211 t215 t219 t222 t223 t224 t225 t226 t227))) = some r := H
  have HC12 := Aside0.mk H
  clear H
  go_enter Try.func5, Try.ntmps5
  go_upto_region 8 with (first | ((with_reducible refine gate_dst (N := 2) rfl ?_); refine bx 2 #[.slice A0_0 l0_0.length c0_0] 35 ?_; intro gb198 hg w13 hbox hb; have GW198 := bz w hg; have GE198 := bz w hg; replace HB := bs hb; have BK198 := Aside0.mk hbox; clear hb hbox hg; obtain ⟨hcz14_0, hfz14_0⟩ := cc1 BK198) | ((with_reducible refine gate_callee (f := 21) rfl ?_); refine gL (some 21) Try.func21 #[.agg #[.slice A0_0 l0_0.length c0_0], .int .i64 1048576] ?_; (with_reducible refine (laws_szQueue.calls _ _ l0_0 1048576 t199 _ ?side1 ?side2 A3.out).mono ?_); (case side1 => exact cb HR0_0); (case side2 => exact HC0_0.out); rintro e w15 ⟨rfl, hb⟩; refine ⟨_, rfl, ?_⟩; replace BK198 := bb BK198 hb; replace HB := bsw hb; (try clear hb); (try clear hb2); (try clear hk); (try clear hi); obtain ⟨hcz16_0, hfz16_0⟩ := cc1 BK198) | ((with_reducible refine gate_callee (f := 23) rfl ?_); refine gL (some 26) Try.func23 #[.agg #[.slice A0_0 l0_0.length c0_0]] ?_; (with_reducible refine (laws_toQueue.calls k _ _ l0_0 t200 _ ?side1 ?side2 A8.out).mono ?_); (case side1 => exact cb HR0_0); (case side2 => exact HC0_0.out); rintro e w17 ⟨v201, rfl, ho0, hb⟩; refine ⟨_, rfl, ?_⟩; have HO202 := Aside0.mk (Kd.R_lower ho0 (below_size (sbw))); replace BK198 := bb BK198 hb; replace HB := bsw hb; (try clear hb); (try clear hb2); (try clear hk); (try clear hi); (try clear ho0); obtain ⟨Ao18, co18, eo18⟩ := Kd.R_slice HO202.out; subst eo18) | ((with_reducible refine gate_callee (f := 30) rfl ?_); refine gL (some 28) Try.func30 #[.agg #[.slice Ao18 t200.length co18], .int .i64 a1] ?_; (with_reducible refine (spec_TakePacket.calls _ _ t200 a1 t203 t206 t207 t208 t209 t210 t211 t212 _ ?side1 ?side2 A9.out).mono ?_); (case side1 => repeat (first | exact (Kd.R_reads' HO202.out).2.2 | (with_reducible refine Kd.C_alloc ?_ _) | (with_reducible refine Kd.C_drewN ?_ _) | (with_reducible refine Kd.C_drew ?_))); (case side2 => exact (Kd.R_reads' HO202.out).2.1); rintro e w19 ⟨v204, rfl, ho0, hb⟩; refine ⟨_, rfl, ?_⟩; have HO205 := Aside0.mk (Kd.R_lower (Kd.R_new' ho0 (Kd.R_lt (sr HO202))) (below_size (sbw))); replace HO202 := Aside0.mk (Kd.R_elder' (sr HO202) (Kd.R_base ho0) hb); replace BK198 := bb BK198 hb; replace HB := bsw hb; (try clear hb); (try clear hb2); (try clear hk); (try clear hi); (try clear ho0)) | ((with_reducible refine gate_dst (N := 6) rfl ?_); refine bx 6 #[.slice none 0 0] 41 ?_; intro gb213 hg w20 hbox hb; replace HO202 := Aside0.mk (Kd.R_below (sr HO202) hb); replace HO205 := Aside0.mk (Kd.R_below (sr HO205) hb); have GW213 := bzw w hg; have GE213 := bzw w hg; replace HB := bsw hb; have BK213 := Aside0.mk hbox; have NB198_213 := nl BK198 hg; have NB213_198 := ng BK198 hg; replace BK198 := bb BK198 hb; clear hb hbox hg) | ((with_reducible refine gate_dst (N := 7) rfl ?_); refine bx 7 #[.int .i64 0, .int .i64 0, .int .i64 0, .int .i64 0, .int .i64 0, .int .i64 0] 49 ?_; intro gb214 hg w21 hbox hb; replace HO202 := Aside0.mk (Kd.R_below (Kd.R_elderB (sr HO202) gb214 (Nat.le_of_eq hg.symm)) hb); replace HO205 := Aside0.mk (Kd.R_below (Kd.R_elderB (sr HO205) gb214 (Nat.le_of_eq hg.symm)) hb); have GW214 := bzw w hg; have GE214 := bzw w hg; replace HB := bsw hb; have BK214 := Aside0.mk hbox; have NB198_214 := nl BK198 hg; have NB214_198 := ng BK198 hg; replace BK198 := bb BK198 hb; have NB213_214 := nl BK213 hg; have NB214_213 := ng BK213 hg; replace BK213 := bb BK213 hb; clear hb hbox hg; obtain ⟨Ao22, co22, eo22⟩ := Kd.R_slice HO205.out; subst eo22; have hnb23 := NB213_198.out; have hnc23 := NB198_213.out; have hnb24 := NB213_214.out; have hnc24 := NB214_213.out; obtain ⟨hcz25_0, hfz25_0⟩ := cc1 BK213; have hnb26 := NB214_198.out; have hnc26 := NB198_214.out; obtain ⟨hcz27_0, hcz27_1, hcz27_2, hcz27_3, hcz27_4, hcz27_5, hfz27_0, hfz27_1, hfz27_2, hfz27_3, hfz27_4, hfz27_5⟩ := cc6 BK214; obtain ⟨hcz28_0, hfz28_0⟩ := cc1 BK198) | ((with_reducible refine gate_callee (f := 23) rfl ?_); refine gL (some 33) Try.func23 #[.agg #[.slice A0_0 l0_0.length c0_0]] ?_; (with_reducible refine (laws_toQueue.calls k _ _ l0_0 t215 _ ?side1 ?side2 A10.out).mono ?_); (case side1 => exact Kd.C_below HR0_0.out (sbw)); (case side2 => exact HC0_0.out); rintro e w29 ⟨v216, rfl, ho0, hb⟩; refine ⟨_, rfl, ?_⟩; have HO217 := Aside0.mk (Kd.R_lower (Kd.R_newB (Kd.R_new' (Kd.R_new' ho0 (Kd.R_lt (by (with_reducible repeat (first | apply Kd.R_alloc | apply Kd.R_drewN | apply Kd.R_drew)); exact (Kd.R_mono (Kd.R_mono (Kd.R_far (p := ⟨gb214, 5, none⟩) (Kd.R_far (p := ⟨gb214, 4, none⟩) (Kd.R_far (p := ⟨gb214, 3, none⟩) (Kd.R_far (p := ⟨gb214, 2, none⟩) (Kd.R_far (p := ⟨gb214, 1, none⟩) (Kd.R_far (p := ⟨gb214, 0, none⟩) (Kd.R_far (p := ⟨gb213, 0, none⟩) (Kd.R_mono (Kd.R_types HO202.out BK213.out (by decide)) (fun k_ hk => (⟨hk, hk.1.2⟩ : _ ∧ k_ ≠ gb214))) (fun _ hk => hk.1.2) (.slice Ao22 t203.length co22)) (fun _ hk => hk.2) (.int .i64 t206)) (fun _ hk => hk.2) (.int .i64 t207)) (fun _ hk => hk.2) (.int .i64 t208)) (fun _ hk => hk.2) (.int .i64 t209)) (fun _ hk => hk.2) (.int .i64 t210)) (fun _ hk => hk.2) (.int .i64 t211)) (fun _ h_ => h_.1)) (fun _ h_ => h_.1))))) (Kd.R_lt (by (with_reducible repeat (first | apply Kd.R_alloc | apply Kd.R_drewN | apply Kd.R_drew)); exact (Kd.R_mono (Kd.R_mono (Kd.R_far (p := ⟨gb214, 5, none⟩) (Kd.R_far (p := ⟨gb214, 4, none⟩) (Kd.R_far (p := ⟨gb214, 3, none⟩) (Kd.R_far (p := ⟨gb214, 2, none⟩) (Kd.R_far (p := ⟨gb214, 1, none⟩) (Kd.R_far (p := ⟨gb214, 0, none⟩) (Kd.R_far (p := ⟨gb213, 0, none⟩) (Kd.R_mono (Kd.R_types HO205.out BK213.out (by decide)) (fun k_ hk => (⟨hk, hk.1.2⟩ : _ ∧ k_ ≠ gb214))) (fun _ hk => hk.1.2) (.slice Ao22 t203.length co22)) (fun _ hk => hk.2) (.int .i64 t206)) (fun _ hk => hk.2) (.int .i64 t207)) (fun _ hk => hk.2) (.int .i64 t208)) (fun _ hk => hk.2) (.int .i64 t209)) (fun _ hk => hk.2) (.int .i64 t210)) (fun _ hk => hk.2) (.int .i64 t211)) (fun _ h_ => h_.1)) (fun _ h_ => h_.1))))) (g := gb214) (o := .cells #[.int .i64 t206, .int .i64 t207, .int .i64 t208, .int .i64 t209, .int .i64 t210, .int .i64 t211] 49 (0, 0)) (sp BK214)) (below_size (sbw))); replace HO202 := Aside0.mk (Kd.R_elder' (by (with_reducible repeat (first | apply Kd.R_alloc | apply Kd.R_drewN | apply Kd.R_drew)); exact (Kd.R_mono (Kd.R_mono (Kd.R_far (p := ⟨gb214, 5, none⟩) (Kd.R_far (p := ⟨gb214, 4, none⟩) (Kd.R_far (p := ⟨gb214, 3, none⟩) (Kd.R_far (p := ⟨gb214, 2, none⟩) (Kd.R_far (p := ⟨gb214, 1, none⟩) (Kd.R_far (p := ⟨gb214, 0, none⟩) (Kd.R_far (p := ⟨gb213, 0, none⟩) (Kd.R_mono (Kd.R_types HO202.out BK213.out (by decide)) (fun k_ hk => (⟨hk, hk.1.2⟩ : _ ∧ k_ ≠ gb214))) (fun _ hk => hk.1.2) (.slice Ao22 t203.length co22)) (fun _ hk => hk.2) (.int .i64 t206)) (fun _ hk => hk.2) (.int .i64 t207)) (fun _ hk => hk.2) (.int .i64 t208)) (fun _ hk => hk.2) (.int .i64 t209)) (fun _ hk => hk.2) (.int .i64 t210)) (fun _ hk => hk.2) (.int .i64 t211)) (fun _ h_ => h_.1)) (fun _ h_ => h_.1))) (Kd.R_base ho0) hb); replace HO205 := Aside0.mk (Kd.R_elder' (by (with_reducible repeat (first | apply Kd.R_alloc | apply Kd.R_drewN | apply Kd.R_drew)); exact (Kd.R_mono (Kd.R_mono (Kd.R_far (p := ⟨gb214, 5, none⟩) (Kd.R_far (p := ⟨gb214, 4, none⟩) (Kd.R_far (p := ⟨gb214, 3, none⟩) (Kd.R_far (p := ⟨gb214, 2, none⟩) (Kd.R_far (p := ⟨gb214, 1, none⟩) (Kd.R_far (p := ⟨gb214, 0, none⟩) (Kd.R_far (p := ⟨gb213, 0, none⟩) (Kd.R_mono (Kd.R_types HO205.out BK213.out (by decide)) (fun k_ hk => (⟨hk, hk.1.2⟩ : _ ∧ k_ ≠ gb214))) (fun _ hk => hk.1.2) (.slice Ao22 t203.length co22)) (fun _ hk => hk.2) (.int .i64 t206)) (fun _ hk => hk.2) (.int .i64 t207)) (fun _ hk => hk.2) (.int .i64 t208)) (fun _ hk => hk.2) (.int .i64 t209)) (fun _ hk => hk.2) (.int .i64 t210)) (fun _ hk => hk.2) (.int .i64 t211)) (fun _ h_ => h_.1)) (fun _ h_ => h_.1))) (Kd.R_base ho0) hb); replace BK198 := Aside0.mk (blk_below (g := gb198) (o := .cells #[.slice A0_0 l0_0.length c0_0] 35 (0, 0)) (sp BK198) hb); replace BK213 := Aside0.mk (blk_below (g := gb213) (o := .cells #[.slice Ao22 t203.length co22] 41 (0, 0)) (sp BK213) hb); replace BK214 := Aside0.mk (blk_below (g := gb214) (o := .cells #[.int .i64 t206, .int .i64 t207, .int .i64 t208, .int .i64 t209, .int .i64 t210, .int .i64 t211] 49 (0, 0)) (sp BK214) hb); replace HB := bsw hb; (try clear hb); (try clear hb2); (try clear hk); (try clear hi); (try clear ho0)) | ((with_reducible refine gate_dst (N := 9) rfl ?_); refine bx 9 #[.slice none 0 0] 41 ?_; intro gb218 hg w30 hbox hb; replace HO202 := Aside0.mk (Kd.R_below (sr HO202) hb); replace HO205 := Aside0.mk (Kd.R_below (sr HO205) hb); replace HO217 := Aside0.mk (Kd.R_below (sr HO217) hb); have GW218 := bzw w hg; have GE218 := bzw w hg; replace HB := bsw hb; have BK218 := Aside0.mk hbox; have NB198_218 := nl BK198 hg; have NB218_198 := ng BK198 hg; replace BK198 := bb BK198 hb; have NB213_218 := nl BK213 hg; have NB218_213 := ng BK213 hg; replace BK213 := bb BK213 hb; have NB214_218 := nl BK214 hg; have NB218_214 := ng BK214 hg; replace BK214 := bb BK214 hb; clear hb hbox hg; obtain ⟨Ao31, co31, eo31⟩ := Kd.R_slice HO217.out; subst eo31; have hnb32 := NB218_198.out; have hnc32 := NB198_218.out; have hnb33 := NB218_213.out; have hnc33 := NB213_218.out; have hnb34 := NB218_214.out; have hnc34 := NB214_218.out; obtain ⟨hcz35_0, hfz35_0⟩ := cc1 BK218) | ((with_reducible refine gate_callee (f := 31) rfl ?_); refine gL (some 37) Try.func31 #[.agg #[.slice Ao31 t215.length co31], .int .i64 a1] ?_; (with_reducible refine (impl_TakePacket.calls _ _ t215 a1 t219 t222 t223 t224 t225 t226 t227 t228 _ ?side1 ?side2 A11.out).mono ?_); (case side1 => refine (Kd.R_reads' (e := 49) (base := w.heap.size) (ok := fun k_ => (((True ∧ some k_ ≠ (.slice Ao18 t200.length co18 : Value).ownBlock) ∧ some k_ ≠ (.slice Ao22 t203.length co22 : Value).ownBlock) ∧ k_ ≠ gb214)) (n := t215.length) (c := co31) ?_).2.2; exact (by (with_reducible repeat (first | apply Kd.R_alloc | apply Kd.R_drewN | apply Kd.R_drew)); exact (Kd.R_mono (Kd.R_far (p := ⟨gb218, 0, none⟩) (Kd.R_types HO217.out BK218.out (by decide)) (fun _ hk => hk.2) (.slice Ao31 t215.length co31)) (fun _ h_ => h_.1)))); (case side2 => exact (Kd.R_reads' HO217.out).2.1); rintro e w36 ⟨v220, rfl, ho0, hb⟩; refine ⟨_, rfl, ?_⟩; have HO221 := Aside0.mk (Kd.R_lower (Kd.R_newB (Kd.R_new' (Kd.R_new' (Kd.R_new' ho0 (Kd.R_lt (by (with_reducible repeat (first | apply Kd.R_alloc | apply Kd.R_drewN | apply Kd.R_drew)); exact (Kd.R_mono (Kd.R_far (p := ⟨gb218, 0, none⟩) (Kd.R_types HO202.out BK218.out (by decide)) (fun _ hk => hk.2) (.slice Ao31 t215.length co31)) (fun _ h_ => h_.1))))) (Kd.R_lt (by (with_reducible repeat (first | apply Kd.R_alloc | apply Kd.R_drewN | apply Kd.R_drew)); exact (Kd.R_mono (Kd.R_far (p := ⟨gb218, 0, none⟩) (Kd.R_types HO205.out BK218.out (by decide)) (fun _ hk => hk.2) (.slice Ao31 t215.length co31)) (fun _ h_ => h_.1))))) (Kd.R_lt (by (with_reducible repeat (first | apply Kd.R_alloc | apply Kd.R_drewN | apply Kd.R_drew)); exact (Kd.R_mono (Kd.R_far (p := ⟨gb218, 0, none⟩) (Kd.R_types HO217.out BK218.out (by decide)) (fun _ hk => hk.2) (.slice Ao31 t215.length co31)) (fun _ h_ => h_.1))))) (g := gb214) (o := .cells #[.int .i64 t206, .int .i64 t207, .int .i64 t208, .int .i64 t209, .int .i64 t210, .int .i64 t211] 49 (0, 0)) (sp BK214)) (below_size (sbw))); replace HO202 := Aside0.mk (Kd.R_elder' (by (with_reducible repeat (first | apply Kd.R_alloc | apply Kd.R_drewN | apply Kd.R_drew)); exact (Kd.R_mono (Kd.R_far (p := ⟨gb218, 0, none⟩) (Kd.R_types HO202.out BK218.out (by decide)) (fun _ hk => hk.2) (.slice Ao31 t215.length co31)) (fun _ h_ => h_.1))) (Kd.R_base ho0) hb); replace HO205 := Aside0.mk (Kd.R_elder' (by (with_reducible repeat (first | apply Kd.R_alloc | apply Kd.R_drewN | apply Kd.R_drew)); exact (Kd.R_mono (Kd.R_far (p := ⟨gb218, 0, none⟩) (Kd.R_types HO205.out BK218.out (by decide)) (fun _ hk => hk.2) (.slice Ao31 t215.length co31)) (fun _ h_ => h_.1))) (Kd.R_base ho0) hb); replace HO217 := Aside0.mk (Kd.R_elder' (by (with_reducible repeat (first | apply Kd.R_alloc | apply Kd.R_drewN | apply Kd.R_drew)); exact (Kd.R_mono (Kd.R_far (p := ⟨gb218, 0, none⟩) (Kd.R_types HO217.out BK218.out (by decide)) (fun _ hk => hk.2) (.slice Ao31 t215.length co31)) (fun _ h_ => h_.1))) (Kd.R_base ho0) hb); replace BK198 := Aside0.mk (blk_below (g := gb198) (o := .cells #[.slice A0_0 l0_0.length c0_0] 35 (0, 0)) (sp BK198) hb); replace BK213 := Aside0.mk (blk_below (g := gb213) (o := .cells #[.slice Ao22 t203.length co22] 41 (0, 0)) (sp BK213) hb); replace BK214 := Aside0.mk (blk_below (g := gb214) (o := .cells #[.int .i64 t206, .int .i64 t207, .int .i64 t208, .int .i64 t209, .int .i64 t210, .int .i64 t211] 49 (0, 0)) (sp BK214) hb); replace BK218 := Aside0.mk (blk_below (g := gb218) (o := .cells #[.slice Ao31 t215.length co31] 41 (0, 0)) (sp BK218) hb); replace HB := bsw hb; (try clear hb); (try clear hb2); (try clear hk); (try clear hi); (try clear ho0)) | ((with_reducible refine gate_dst (N := 10) rfl ?_); refine bx 10 #[.slice none 0 0] 41 ?_; intro gb229 hg w37 hbox hb; replace HO202 := Aside0.mk (Kd.R_below (sr HO202) hb); replace HO205 := Aside0.mk (Kd.R_below (sr HO205) hb); replace HO217 := Aside0.mk (Kd.R_below (sr HO217) hb); replace HO221 := Aside0.mk (Kd.R_below (sr HO221) hb); have GW229 := bzw w hg; have GE229 := bzw w hg; replace HB := bsw hb; have BK229 := Aside0.mk hbox; have NB198_229 := nl BK198 hg; have NB229_198 := ng BK198 hg; replace BK198 := bb BK198 hb; have NB213_229 := nl BK213 hg; have NB229_213 := ng BK213 hg; replace BK213 := bb BK213 hb; have NB214_229 := nl BK214 hg; have NB229_214 := ng BK214 hg; replace BK214 := bb BK214 hb; have NB218_229 := nl BK218 hg; have NB229_218 := ng BK218 hg; replace BK218 := bb BK218 hb; clear hb hbox hg) | ((with_reducible refine gate_dst (N := 11) rfl ?_); refine bx 11 #[.int .i64 0, .int .i64 0, .int .i64 0, .int .i64 0, .int .i64 0, .int .i64 0] 49 ?_; intro gb230 hg w38 hbox hb; replace HO202 := Aside0.mk (Kd.R_below (Kd.R_elderB (sr HO202) gb230 (Nat.le_of_eq hg.symm)) hb); replace HO205 := Aside0.mk (Kd.R_below (Kd.R_elderB (sr HO205) gb230 (Nat.le_of_eq hg.symm)) hb); replace HO217 := Aside0.mk (Kd.R_below (Kd.R_elderB (sr HO217) gb230 (Nat.le_of_eq hg.symm)) hb); replace HO221 := Aside0.mk (Kd.R_below (Kd.R_elderB (sr HO221) gb230 (Nat.le_of_eq hg.symm)) hb); have GW230 := bzw w hg; have GE230 := bzw w hg; replace HB := bsw hb; have BK230 := Aside0.mk hbox; have NB198_230 := nl BK198 hg; have NB230_198 := ng BK198 hg; replace BK198 := bb BK198 hb; have NB213_230 := nl BK213 hg; have NB230_213 := ng BK213 hg; replace BK213 := bb BK213 hb; have NB214_230 := nl BK214 hg; have NB230_214 := ng BK214 hg; replace BK214 := bb BK214 hb; have NB218_230 := nl BK218 hg; have NB230_218 := ng BK218 hg; replace BK218 := bb BK218 hb; have NB229_230 := nl BK229 hg; have NB230_229 := ng BK229 hg; replace BK229 := bb BK229 hb; clear hb hbox hg; obtain ⟨Ao39, co39, eo39⟩ := Kd.R_slice HO221.out; subst eo39; have hnb40 := NB229_198.out; have hnc40 := NB198_229.out; have hnb41 := NB229_213.out; have hnc41 := NB213_229.out; have hnb42 := NB229_214.out; have hnc42 := NB214_229.out; have hnb43 := NB229_218.out; have hnc43 := NB218_229.out; have hnb44 := NB229_230.out; have hnc44 := NB230_229.out; obtain ⟨hcz45_0, hfz45_0⟩ := cc1 BK229; have hnb46 := NB230_198.out; have hnc46 := NB198_230.out; have hnb47 := NB230_213.out; have hnc47 := NB213_230.out; have hnb48 := NB230_214.out; have hnc48 := NB214_230.out; have hnb49 := NB230_218.out; have hnc49 := NB218_230.out; obtain ⟨hcz50_0, hcz50_1, hcz50_2, hcz50_3, hcz50_4, hcz50_5, hfz50_0, hfz50_1, hfz50_2, hfz50_3, hfz50_4, hfz50_5⟩ := cc6 BK230))
  (try simp only [Act.put, List.setIfInBounds_toArray, List.set_cons_zero, List.set_cons_succ])
  go_cut [55] (fun v55 wc => ∃ (kq : Nat) (x55_11 : Bool), v55 = .bool x55_11 ∧ Aside0 (laws_FnExactTakePacket.j0 kq a1 t212 t228 x55_11 l0_0 t203 t206 t207 t208 t209 t210 t211 t215 t219 t222 t223 t224 t225 t226 t227 = some r) ∧ Aside0 (kq ≤ k) ∧ Aside0 (Kd.R k49 49 wc w.heap.size (fun k_ => some k_ ≠ ((.slice Ao31 t215.length co31) : Value).ownBlock ∧ some k_ ≠ ((.slice Ao39 t219.length co39) : Value).ownBlock ∧ k_ ≠ gb214 ∧ k_ ≠ gb230) (.slice Ao22 t203.length co22) t203) ∧ Aside0 (Kd.R k49 49 wc w.heap.size (fun k_ => some k_ ≠ ((.slice Ao22 t203.length co22) : Value).ownBlock ∧ some k_ ≠ ((.slice Ao39 t219.length co39) : Value).ownBlock ∧ k_ ≠ gb214 ∧ k_ ≠ gb230) (.slice Ao31 t215.length co31) t215) ∧ Aside0 (Kd.R k49 49 wc w.heap.size (fun k_ => some k_ ≠ ((.slice Ao22 t203.length co22) : Value).ownBlock ∧ some k_ ≠ ((.slice Ao31 t215.length co31) : Value).ownBlock ∧ k_ ≠ gb214 ∧ k_ ≠ gb230) (.slice Ao39 t219.length co39) t219) ∧ Aside0 (wc.heap[gb198]? = some (.cells #[(.slice A0_0 l0_0.length c0_0)] 35 (0, 0))) ∧ Aside0 (wc.heap[gb213]? = some (.cells #[(.slice Ao22 t203.length co22)] 41 (0, 0))) ∧ Aside0 (wc.heap[gb214]? = some (.cells #[.int .i64 t206, .int .i64 t207, .int .i64 t208, .int .i64 t209, .int .i64 t210, .int .i64 t211] 49 (0, 0))) ∧ Aside0 (wc.heap[gb218]? = some (.cells #[(.slice Ao31 t215.length co31)] 41 (0, 0))) ∧ Aside0 (wc.heap[gb229]? = some (.cells #[(.slice Ao39 t219.length co39)] 41 (0, 0))) ∧ Aside0 (wc.heap[gb230]? = some (.cells #[.int .i64 t222, .int .i64 t223, .int .i64 t224, .int .i64 t225, .int .i64 t226, .int .i64 t227] 49 (0, 0))) ∧ Aside0 (Below w.heap.size w wc))
  case first =>
   have H := HC12.out
   clear HC12
   obtain ⟨t231, A51, H⟩ := bnd H
   obtain rfl | rfl := tt t231
   ·replace H := ip H
    obtain ⟨t232, A53, H⟩ := bnd H
    obtain rfl | rfl := tt t232
    ·replace H := ip H
     have H' := Aside0.mk H
     clear H
     have hnb55 := NB229_198.out
     have hnc55 := NB198_229.out
     have hnb56 := NB229_213.out
     have hnc56 := NB213_229.out
     have hnb57 := NB229_214.out
     have hnc57 := NB214_229.out
     have hnb58 := NB229_218.out
     have hnc58 := NB218_229.out
     have hnb59 := NB229_230.out
     have hnc59 := NB230_229.out
     obtain ⟨hcz60_0, hfz60_0⟩ := cc1 BK229
     have hnb61 := NB213_198.out
     have hnc61 := NB198_213.out
     have hnb62 := NB213_214.out
     have hnc62 := NB214_213.out
     have hnb63 := NB213_218.out
     have hnc63 := NB218_213.out
     have hnb64 := NB213_230.out
     have hnc64 := NB230_213.out
     obtain ⟨hcz65_0, hfz65_0⟩ := cc1 BK213
     go_wp2_with (first | ((with_reducible refine gate_callee (f := 26) rfl ?_); refine gL (some 43) Try.func26 #[.agg #[.slice Ao39 t219.length co39], .agg #[.slice Ao22 t203.length co22]] ?_; (with_reducible refine (laws_eqQueue.calls k _ _ t219 _ _ t203 true _ ?side1 ?side2 ?side3 ?side4 A51.out).mono ?_); (case side1 => refine (Kd.R_reads' (e := 49) (base := w.heap.size) (ok := fun k_ => (((((True ∧ some k_ ≠ (.slice Ao18 t200.length co18 : Value).ownBlock) ∧ some k_ ≠ (.slice Ao22 t203.length co22 : Value).ownBlock) ∧ some k_ ≠ (.slice Ao31 t215.length co31 : Value).ownBlock) ∧ k_ ≠ gb214) ∧ k_ ≠ gb230)) (n := t219.length) (c := co39) ?_).2.2; exact (by (with_reducible repeat (first | apply Kd.R_alloc | apply Kd.R_drewN | apply Kd.R_drew)); exact (Kd.R_mono (Kd.R_mono (Kd.R_far (p := ⟨gb230, 5, none⟩) (Kd.R_far (p := ⟨gb230, 4, none⟩) (Kd.R_far (p := ⟨gb230, 3, none⟩) (Kd.R_far (p := ⟨gb230, 2, none⟩) (Kd.R_far (p := ⟨gb230, 1, none⟩) (Kd.R_far (p := ⟨gb230, 0, none⟩) (Kd.R_far (p := ⟨gb229, 0, none⟩) (Kd.R_mono (Kd.R_types HO221.out BK229.out (by decide)) (fun k_ hk => (⟨hk, hk.1.2⟩ : _ ∧ k_ ≠ gb230))) (fun _ hk => hk.1.2) (.slice Ao39 t219.length co39)) (fun _ hk => hk.2) (.int .i64 t222)) (fun _ hk => hk.2) (.int .i64 t223)) (fun _ hk => hk.2) (.int .i64 t224)) (fun _ hk => hk.2) (.int .i64 t225)) (fun _ hk => hk.2) (.int .i64 t226)) (fun _ hk => hk.2) (.int .i64 t227)) (fun _ h_ => h_.1)) (fun _ h_ => h_.1)))); (case side2 => exact (Kd.R_reads' HO221.out).2.1); (case side3 => refine (Kd.R_reads' (e := 49) (base := w.heap.size) (ok := fun k_ => (((((True ∧ some k_ ≠ (.slice Ao18 t200.length co18 : Value).ownBlock) ∧ k_ ≠ gb214) ∧ some k_ ≠ (.slice Ao31 t215.length co31 : Value).ownBlock) ∧ some k_ ≠ (.slice Ao39 t219.length co39 : Value).ownBlock) ∧ k_ ≠ gb230)) (n := t203.length) (c := co22) ?_).2.2; exact (by (with_reducible repeat (first | apply Kd.R_alloc | apply Kd.R_drewN | apply Kd.R_drew)); exact (Kd.R_mono (Kd.R_mono (Kd.R_far (p := ⟨gb230, 5, none⟩) (Kd.R_far (p := ⟨gb230, 4, none⟩) (Kd.R_far (p := ⟨gb230, 3, none⟩) (Kd.R_far (p := ⟨gb230, 2, none⟩) (Kd.R_far (p := ⟨gb230, 1, none⟩) (Kd.R_far (p := ⟨gb230, 0, none⟩) (Kd.R_far (p := ⟨gb229, 0, none⟩) (Kd.R_mono (Kd.R_types HO205.out BK229.out (by decide)) (fun k_ hk => (⟨hk, hk.1.2⟩ : _ ∧ k_ ≠ gb230))) (fun _ hk => hk.1.2) (.slice Ao39 t219.length co39)) (fun _ hk => hk.2) (.int .i64 t222)) (fun _ hk => hk.2) (.int .i64 t223)) (fun _ hk => hk.2) (.int .i64 t224)) (fun _ hk => hk.2) (.int .i64 t225)) (fun _ hk => hk.2) (.int .i64 t226)) (fun _ hk => hk.2) (.int .i64 t227)) (fun _ h_ => h_.1)) (fun _ h_ => h_.1)))); (case side4 => exact (Kd.R_reads' HO205.out).2.1); rintro e w66 ⟨rfl, hb⟩; refine ⟨_, rfl, ?_⟩; replace HO202 := Aside0.mk (Kd.R_below (by (with_reducible repeat (first | apply Kd.R_alloc | apply Kd.R_drewN | apply Kd.R_drew)); exact (Kd.R_mono (Kd.R_mono (Kd.R_far (p := ⟨gb230, 5, none⟩) (Kd.R_far (p := ⟨gb230, 4, none⟩) (Kd.R_far (p := ⟨gb230, 3, none⟩) (Kd.R_far (p := ⟨gb230, 2, none⟩) (Kd.R_far (p := ⟨gb230, 1, none⟩) (Kd.R_far (p := ⟨gb230, 0, none⟩) (Kd.R_far (p := ⟨gb229, 0, none⟩) (Kd.R_mono (Kd.R_types HO202.out BK229.out (by decide)) (fun k_ hk => (⟨hk, hk.1.2⟩ : _ ∧ k_ ≠ gb230))) (fun _ hk => hk.1.2) (.slice Ao39 t219.length co39)) (fun _ hk => hk.2) (.int .i64 t222)) (fun _ hk => hk.2) (.int .i64 t223)) (fun _ hk => hk.2) (.int .i64 t224)) (fun _ hk => hk.2) (.int .i64 t225)) (fun _ hk => hk.2) (.int .i64 t226)) (fun _ hk => hk.2) (.int .i64 t227)) (fun _ h_ => h_.1)) (fun _ h_ => h_.1))) hb); replace HO205 := Aside0.mk (Kd.R_below (by (with_reducible repeat (first | apply Kd.R_alloc | apply Kd.R_drewN | apply Kd.R_drew)); exact (Kd.R_mono (Kd.R_mono (Kd.R_far (p := ⟨gb230, 5, none⟩) (Kd.R_far (p := ⟨gb230, 4, none⟩) (Kd.R_far (p := ⟨gb230, 3, none⟩) (Kd.R_far (p := ⟨gb230, 2, none⟩) (Kd.R_far (p := ⟨gb230, 1, none⟩) (Kd.R_far (p := ⟨gb230, 0, none⟩) (Kd.R_far (p := ⟨gb229, 0, none⟩) (Kd.R_mono (Kd.R_types HO205.out BK229.out (by decide)) (fun k_ hk => (⟨hk, hk.1.2⟩ : _ ∧ k_ ≠ gb230))) (fun _ hk => hk.1.2) (.slice Ao39 t219.length co39)) (fun _ hk => hk.2) (.int .i64 t222)) (fun _ hk => hk.2) (.int .i64 t223)) (fun _ hk => hk.2) (.int .i64 t224)) (fun _ hk => hk.2) (.int .i64 t225)) (fun _ hk => hk.2) (.int .i64 t226)) (fun _ hk => hk.2) (.int .i64 t227)) (fun _ h_ => h_.1)) (fun _ h_ => h_.1))) hb); replace HO217 := Aside0.mk (Kd.R_below (by (with_reducible repeat (first | apply Kd.R_alloc | apply Kd.R_drewN | apply Kd.R_drew)); exact (Kd.R_mono (Kd.R_mono (Kd.R_far (p := ⟨gb230, 5, none⟩) (Kd.R_far (p := ⟨gb230, 4, none⟩) (Kd.R_far (p := ⟨gb230, 3, none⟩) (Kd.R_far (p := ⟨gb230, 2, none⟩) (Kd.R_far (p := ⟨gb230, 1, none⟩) (Kd.R_far (p := ⟨gb230, 0, none⟩) (Kd.R_far (p := ⟨gb229, 0, none⟩) (Kd.R_mono (Kd.R_types HO217.out BK229.out (by decide)) (fun k_ hk => (⟨hk, hk.1.2⟩ : _ ∧ k_ ≠ gb230))) (fun _ hk => hk.1.2) (.slice Ao39 t219.length co39)) (fun _ hk => hk.2) (.int .i64 t222)) (fun _ hk => hk.2) (.int .i64 t223)) (fun _ hk => hk.2) (.int .i64 t224)) (fun _ hk => hk.2) (.int .i64 t225)) (fun _ hk => hk.2) (.int .i64 t226)) (fun _ hk => hk.2) (.int .i64 t227)) (fun _ h_ => h_.1)) (fun _ h_ => h_.1))) hb); replace HO221 := Aside0.mk (Kd.R_below (by (with_reducible repeat (first | apply Kd.R_alloc | apply Kd.R_drewN | apply Kd.R_drew)); exact (Kd.R_mono (Kd.R_mono (Kd.R_far (p := ⟨gb230, 5, none⟩) (Kd.R_far (p := ⟨gb230, 4, none⟩) (Kd.R_far (p := ⟨gb230, 3, none⟩) (Kd.R_far (p := ⟨gb230, 2, none⟩) (Kd.R_far (p := ⟨gb230, 1, none⟩) (Kd.R_far (p := ⟨gb230, 0, none⟩) (Kd.R_far (p := ⟨gb229, 0, none⟩) (Kd.R_mono (Kd.R_types HO221.out BK229.out (by decide)) (fun k_ hk => (⟨hk, hk.1.2⟩ : _ ∧ k_ ≠ gb230))) (fun _ hk => hk.1.2) (.slice Ao39 t219.length co39)) (fun _ hk => hk.2) (.int .i64 t222)) (fun _ hk => hk.2) (.int .i64 t223)) (fun _ hk => hk.2) (.int .i64 t224)) (fun _ hk => hk.2) (.int .i64 t225)) (fun _ hk => hk.2) (.int .i64 t226)) (fun _ hk => hk.2) (.int .i64 t227)) (fun _ h_ => h_.1)) (fun _ h_ => h_.1))) hb); replace BK198 := Aside0.mk (blk_below (g := gb198) (o := .cells #[.slice A0_0 l0_0.length c0_0] 35 (0, 0)) (sp BK198) hb); replace BK213 := Aside0.mk (blk_below (g := gb213) (o := .cells #[.slice Ao22 t203.length co22] 41 (0, 0)) (sp BK213) hb); replace BK214 := Aside0.mk (blk_below (g := gb214) (o := .cells #[.int .i64 t206, .int .i64 t207, .int .i64 t208, .int .i64 t209, .int .i64 t210, .int .i64 t211] 49 (0, 0)) (sp BK214) hb); replace BK218 := Aside0.mk (blk_below (g := gb218) (o := .cells #[.slice Ao31 t215.length co31] 41 (0, 0)) (sp BK218) hb); replace BK229 := Aside0.mk (blk_below (g := gb229) (o := .cells #[.slice Ao39 t219.length co39] 41 (0, 0)) (sp BK229) hb); replace BK230 := Aside0.mk (blk_below (g := gb230) (o := .cells #[.int .i64 t222, .int .i64 t223, .int .i64 t224, .int .i64 t225, .int .i64 t226, .int .i64 t227] 49 (0, 0)) (sp BK230) hb); replace HB := bsw hb; (try clear hb); (try clear hb2); (try clear hk); (try clear hi); have hnb67 := NB230_198.out; have hnc67 := NB198_230.out; have hnb68 := NB230_214.out; have hnc68 := NB214_230.out; have hnb69 := NB230_218.out; have hnc69 := NB218_230.out; obtain ⟨hcz70_0, hcz70_1, hcz70_2, hcz70_3, hcz70_4, hcz70_5, hfz70_0, hfz70_1, hfz70_2, hfz70_3, hfz70_4, hfz70_5⟩ := cc6 BK230; have hnb71 := NB214_198.out; have hnc71 := NB198_214.out; have hnb72 := NB214_218.out; have hnc72 := NB218_214.out; obtain ⟨hcz73_0, hcz73_1, hcz73_2, hcz73_3, hcz73_4, hcz73_5, hfz73_0, hfz73_1, hfz73_2, hfz73_3, hfz73_4, hfz73_5⟩ := cc6 BK214) | (go_at_call 32; (with_reducible refine (laws_eqPacket.calls t222 t223 t224 t225 t226 t227 t206 t207 t208 t209 t210 t211 true _ A53.out).mono ?_); rintro e w74 ⟨rfl, hb⟩; replace HO202 := Aside0.mk (Kd.R_below (sr HO202) hb); replace HO205 := Aside0.mk (Kd.R_below (sr HO205) hb); replace HO217 := Aside0.mk (Kd.R_below (sr HO217) hb); replace HO221 := Aside0.mk (Kd.R_below (sr HO221) hb); replace BK198 := bb BK198 hb; replace BK213 := bb BK213 hb; replace BK214 := bb BK214 hb; replace BK218 := bb BK218 hb; replace BK229 := bb BK229 hb; replace BK230 := bb BK230 hb; replace HB := bsw hb; (try clear hb); (try clear hb2); (try clear hk); (try clear hi)))
     go_meet
     case rel => exact ⟨_, ((t228 != t212)), sc, H', ⟨by first | omega | exact Nat.le_refl _⟩, ⟨by (with_reducible repeat (first | apply Kd.R_alloc | apply Kd.R_drewN | apply Kd.R_drew)); exact Kd.R_mono HO205.out (fun _ hk => ⟨hk.1.1.2, ⟨hk.1.2, ⟨hk.1.1.1.2, hk.2⟩⟩⟩)⟩, ⟨by (with_reducible repeat (first | apply Kd.R_alloc | apply Kd.R_drewN | apply Kd.R_drew)); exact Kd.R_mono HO217.out (fun _ hk => ⟨hk.1.1.1.2, ⟨hk.1.2, ⟨hk.1.1.2, hk.2⟩⟩⟩)⟩, ⟨by (with_reducible repeat (first | apply Kd.R_alloc | apply Kd.R_drewN | apply Kd.R_drew)); exact Kd.R_mono HO221.out (fun _ hk => ⟨hk.1.1.1.2, ⟨hk.1.1.2, ⟨hk.1.2, hk.2⟩⟩⟩)⟩, ⟨sk BK198⟩, ⟨sk BK213⟩, ⟨sk BK214⟩, ⟨sk BK218⟩, ⟨sk BK229⟩, ⟨sk BK230⟩, ⟨sbw⟩⟩
    ·replace H := im H
     have H' := Aside0.mk H
     clear H
     have hnb75 := NB229_198.out
     have hnc75 := NB198_229.out
     have hnb76 := NB229_213.out
     have hnc76 := NB213_229.out
     have hnb77 := NB229_214.out
     have hnc77 := NB214_229.out
     have hnb78 := NB229_218.out
     have hnc78 := NB218_229.out
     have hnb79 := NB229_230.out
     have hnc79 := NB230_229.out
     obtain ⟨hcz80_0, hfz80_0⟩ := cc1 BK229
     have hnb81 := NB213_198.out
     have hnc81 := NB198_213.out
     have hnb82 := NB213_214.out
     have hnc82 := NB214_213.out
     have hnb83 := NB213_218.out
     have hnc83 := NB218_213.out
     have hnb84 := NB213_230.out
     have hnc84 := NB230_213.out
     obtain ⟨hcz85_0, hfz85_0⟩ := cc1 BK213
     go_wp2_with (first | ((with_reducible refine gate_callee (f := 26) rfl ?_); refine gL (some 43) Try.func26 #[.agg #[.slice Ao39 t219.length co39], .agg #[.slice Ao22 t203.length co22]] ?_; (with_reducible refine (laws_eqQueue.calls k _ _ t219 _ _ t203 true _ ?side1 ?side2 ?side3 ?side4 A51.out).mono ?_); (case side1 => refine (Kd.R_reads' (e := 49) (base := w.heap.size) (ok := fun k_ => (((((True ∧ some k_ ≠ (.slice Ao18 t200.length co18 : Value).ownBlock) ∧ some k_ ≠ (.slice Ao22 t203.length co22 : Value).ownBlock) ∧ some k_ ≠ (.slice Ao31 t215.length co31 : Value).ownBlock) ∧ k_ ≠ gb214) ∧ k_ ≠ gb230)) (n := t219.length) (c := co39) ?_).2.2; exact (by (with_reducible repeat (first | apply Kd.R_alloc | apply Kd.R_drewN | apply Kd.R_drew)); exact (Kd.R_mono (Kd.R_mono (Kd.R_far (p := ⟨gb230, 5, none⟩) (Kd.R_far (p := ⟨gb230, 4, none⟩) (Kd.R_far (p := ⟨gb230, 3, none⟩) (Kd.R_far (p := ⟨gb230, 2, none⟩) (Kd.R_far (p := ⟨gb230, 1, none⟩) (Kd.R_far (p := ⟨gb230, 0, none⟩) (Kd.R_far (p := ⟨gb229, 0, none⟩) (Kd.R_mono (Kd.R_types HO221.out BK229.out (by decide)) (fun k_ hk => (⟨hk, hk.1.2⟩ : _ ∧ k_ ≠ gb230))) (fun _ hk => hk.1.2) (.slice Ao39 t219.length co39)) (fun _ hk => hk.2) (.int .i64 t222)) (fun _ hk => hk.2) (.int .i64 t223)) (fun _ hk => hk.2) (.int .i64 t224)) (fun _ hk => hk.2) (.int .i64 t225)) (fun _ hk => hk.2) (.int .i64 t226)) (fun _ hk => hk.2) (.int .i64 t227)) (fun _ h_ => h_.1)) (fun _ h_ => h_.1)))); (case side2 => exact (Kd.R_reads' HO221.out).2.1); (case side3 => refine (Kd.R_reads' (e := 49) (base := w.heap.size) (ok := fun k_ => (((((True ∧ some k_ ≠ (.slice Ao18 t200.length co18 : Value).ownBlock) ∧ k_ ≠ gb214) ∧ some k_ ≠ (.slice Ao31 t215.length co31 : Value).ownBlock) ∧ some k_ ≠ (.slice Ao39 t219.length co39 : Value).ownBlock) ∧ k_ ≠ gb230)) (n := t203.length) (c := co22) ?_).2.2; exact (by (with_reducible repeat (first | apply Kd.R_alloc | apply Kd.R_drewN | apply Kd.R_drew)); exact (Kd.R_mono (Kd.R_mono (Kd.R_far (p := ⟨gb230, 5, none⟩) (Kd.R_far (p := ⟨gb230, 4, none⟩) (Kd.R_far (p := ⟨gb230, 3, none⟩) (Kd.R_far (p := ⟨gb230, 2, none⟩) (Kd.R_far (p := ⟨gb230, 1, none⟩) (Kd.R_far (p := ⟨gb230, 0, none⟩) (Kd.R_far (p := ⟨gb229, 0, none⟩) (Kd.R_mono (Kd.R_types HO205.out BK229.out (by decide)) (fun k_ hk => (⟨hk, hk.1.2⟩ : _ ∧ k_ ≠ gb230))) (fun _ hk => hk.1.2) (.slice Ao39 t219.length co39)) (fun _ hk => hk.2) (.int .i64 t222)) (fun _ hk => hk.2) (.int .i64 t223)) (fun _ hk => hk.2) (.int .i64 t224)) (fun _ hk => hk.2) (.int .i64 t225)) (fun _ hk => hk.2) (.int .i64 t226)) (fun _ hk => hk.2) (.int .i64 t227)) (fun _ h_ => h_.1)) (fun _ h_ => h_.1)))); (case side4 => exact (Kd.R_reads' HO205.out).2.1); rintro e w86 ⟨rfl, hb⟩; refine ⟨_, rfl, ?_⟩; replace HO202 := Aside0.mk (Kd.R_below (by (with_reducible repeat (first | apply Kd.R_alloc | apply Kd.R_drewN | apply Kd.R_drew)); exact (Kd.R_mono (Kd.R_mono (Kd.R_far (p := ⟨gb230, 5, none⟩) (Kd.R_far (p := ⟨gb230, 4, none⟩) (Kd.R_far (p := ⟨gb230, 3, none⟩) (Kd.R_far (p := ⟨gb230, 2, none⟩) (Kd.R_far (p := ⟨gb230, 1, none⟩) (Kd.R_far (p := ⟨gb230, 0, none⟩) (Kd.R_far (p := ⟨gb229, 0, none⟩) (Kd.R_mono (Kd.R_types HO202.out BK229.out (by decide)) (fun k_ hk => (⟨hk, hk.1.2⟩ : _ ∧ k_ ≠ gb230))) (fun _ hk => hk.1.2) (.slice Ao39 t219.length co39)) (fun _ hk => hk.2) (.int .i64 t222)) (fun _ hk => hk.2) (.int .i64 t223)) (fun _ hk => hk.2) (.int .i64 t224)) (fun _ hk => hk.2) (.int .i64 t225)) (fun _ hk => hk.2) (.int .i64 t226)) (fun _ hk => hk.2) (.int .i64 t227)) (fun _ h_ => h_.1)) (fun _ h_ => h_.1))) hb); replace HO205 := Aside0.mk (Kd.R_below (by (with_reducible repeat (first | apply Kd.R_alloc | apply Kd.R_drewN | apply Kd.R_drew)); exact (Kd.R_mono (Kd.R_mono (Kd.R_far (p := ⟨gb230, 5, none⟩) (Kd.R_far (p := ⟨gb230, 4, none⟩) (Kd.R_far (p := ⟨gb230, 3, none⟩) (Kd.R_far (p := ⟨gb230, 2, none⟩) (Kd.R_far (p := ⟨gb230, 1, none⟩) (Kd.R_far (p := ⟨gb230, 0, none⟩) (Kd.R_far (p := ⟨gb229, 0, none⟩) (Kd.R_mono (Kd.R_types HO205.out BK229.out (by decide)) (fun k_ hk => (⟨hk, hk.1.2⟩ : _ ∧ k_ ≠ gb230))) (fun _ hk => hk.1.2) (.slice Ao39 t219.length co39)) (fun _ hk => hk.2) (.int .i64 t222)) (fun _ hk => hk.2) (.int .i64 t223)) (fun _ hk => hk.2) (.int .i64 t224)) (fun _ hk => hk.2) (.int .i64 t225)) (fun _ hk => hk.2) (.int .i64 t226)) (fun _ hk => hk.2) (.int .i64 t227)) (fun _ h_ => h_.1)) (fun _ h_ => h_.1))) hb); replace HO217 := Aside0.mk (Kd.R_below (by (with_reducible repeat (first | apply Kd.R_alloc | apply Kd.R_drewN | apply Kd.R_drew)); exact (Kd.R_mono (Kd.R_mono (Kd.R_far (p := ⟨gb230, 5, none⟩) (Kd.R_far (p := ⟨gb230, 4, none⟩) (Kd.R_far (p := ⟨gb230, 3, none⟩) (Kd.R_far (p := ⟨gb230, 2, none⟩) (Kd.R_far (p := ⟨gb230, 1, none⟩) (Kd.R_far (p := ⟨gb230, 0, none⟩) (Kd.R_far (p := ⟨gb229, 0, none⟩) (Kd.R_mono (Kd.R_types HO217.out BK229.out (by decide)) (fun k_ hk => (⟨hk, hk.1.2⟩ : _ ∧ k_ ≠ gb230))) (fun _ hk => hk.1.2) (.slice Ao39 t219.length co39)) (fun _ hk => hk.2) (.int .i64 t222)) (fun _ hk => hk.2) (.int .i64 t223)) (fun _ hk => hk.2) (.int .i64 t224)) (fun _ hk => hk.2) (.int .i64 t225)) (fun _ hk => hk.2) (.int .i64 t226)) (fun _ hk => hk.2) (.int .i64 t227)) (fun _ h_ => h_.1)) (fun _ h_ => h_.1))) hb); replace HO221 := Aside0.mk (Kd.R_below (by (with_reducible repeat (first | apply Kd.R_alloc | apply Kd.R_drewN | apply Kd.R_drew)); exact (Kd.R_mono (Kd.R_mono (Kd.R_far (p := ⟨gb230, 5, none⟩) (Kd.R_far (p := ⟨gb230, 4, none⟩) (Kd.R_far (p := ⟨gb230, 3, none⟩) (Kd.R_far (p := ⟨gb230, 2, none⟩) (Kd.R_far (p := ⟨gb230, 1, none⟩) (Kd.R_far (p := ⟨gb230, 0, none⟩) (Kd.R_far (p := ⟨gb229, 0, none⟩) (Kd.R_mono (Kd.R_types HO221.out BK229.out (by decide)) (fun k_ hk => (⟨hk, hk.1.2⟩ : _ ∧ k_ ≠ gb230))) (fun _ hk => hk.1.2) (.slice Ao39 t219.length co39)) (fun _ hk => hk.2) (.int .i64 t222)) (fun _ hk => hk.2) (.int .i64 t223)) (fun _ hk => hk.2) (.int .i64 t224)) (fun _ hk => hk.2) (.int .i64 t225)) (fun _ hk => hk.2) (.int .i64 t226)) (fun _ hk => hk.2) (.int .i64 t227)) (fun _ h_ => h_.1)) (fun _ h_ => h_.1))) hb); replace BK198 := Aside0.mk (blk_below (g := gb198) (o := .cells #[.slice A0_0 l0_0.length c0_0] 35 (0, 0)) (sp BK198) hb); replace BK213 := Aside0.mk (blk_below (g := gb213) (o := .cells #[.slice Ao22 t203.length co22] 41 (0, 0)) (sp BK213) hb); replace BK214 := Aside0.mk (blk_below (g := gb214) (o := .cells #[.int .i64 t206, .int .i64 t207, .int .i64 t208, .int .i64 t209, .int .i64 t210, .int .i64 t211] 49 (0, 0)) (sp BK214) hb); replace BK218 := Aside0.mk (blk_below (g := gb218) (o := .cells #[.slice Ao31 t215.length co31] 41 (0, 0)) (sp BK218) hb); replace BK229 := Aside0.mk (blk_below (g := gb229) (o := .cells #[.slice Ao39 t219.length co39] 41 (0, 0)) (sp BK229) hb); replace BK230 := Aside0.mk (blk_below (g := gb230) (o := .cells #[.int .i64 t222, .int .i64 t223, .int .i64 t224, .int .i64 t225, .int .i64 t226, .int .i64 t227] 49 (0, 0)) (sp BK230) hb); replace HB := bsw hb; (try clear hb); (try clear hb2); (try clear hk); (try clear hi); have hnb87 := NB230_198.out; have hnc87 := NB198_230.out; have hnb88 := NB230_214.out; have hnc88 := NB214_230.out; have hnb89 := NB230_218.out; have hnc89 := NB218_230.out; obtain ⟨hcz90_0, hcz90_1, hcz90_2, hcz90_3, hcz90_4, hcz90_5, hfz90_0, hfz90_1, hfz90_2, hfz90_3, hfz90_4, hfz90_5⟩ := cc6 BK230; have hnb91 := NB214_198.out; have hnc91 := NB198_214.out; have hnb92 := NB214_218.out; have hnc92 := NB218_214.out; obtain ⟨hcz93_0, hcz93_1, hcz93_2, hcz93_3, hcz93_4, hcz93_5, hfz93_0, hfz93_1, hfz93_2, hfz93_3, hfz93_4, hfz93_5⟩ := cc6 BK214) | (go_at_call 32; (with_reducible refine (laws_eqPacket.calls t222 t223 t224 t225 t226 t227 t206 t207 t208 t209 t210 t211 false _ A53.out).mono ?_); rintro e w94 ⟨rfl, hb⟩; replace HO202 := Aside0.mk (Kd.R_below (sr HO202) hb); replace HO205 := Aside0.mk (Kd.R_below (sr HO205) hb); replace HO217 := Aside0.mk (Kd.R_below (sr HO217) hb); replace HO221 := Aside0.mk (Kd.R_below (sr HO221) hb); replace BK198 := bb BK198 hb; replace BK213 := bb BK213 hb; replace BK214 := bb BK214 hb; replace BK218 := bb BK218 hb; replace BK229 := bb BK229 hb; replace BK230 := bb BK230 hb; replace HB := bsw hb; (try clear hb); (try clear hb2); (try clear hk); (try clear hi)))
     go_meet
     case rel => exact ⟨_, (true), sc, H', ⟨by first | omega | exact Nat.le_refl _⟩, ⟨by (with_reducible repeat (first | apply Kd.R_alloc | apply Kd.R_drewN | apply Kd.R_drew)); exact Kd.R_mono HO205.out (fun _ hk => ⟨hk.1.1.2, ⟨hk.1.2, ⟨hk.1.1.1.2, hk.2⟩⟩⟩)⟩, ⟨by (with_reducible repeat (first | apply Kd.R_alloc | apply Kd.R_drewN | apply Kd.R_drew)); exact Kd.R_mono HO217.out (fun _ hk => ⟨hk.1.1.1.2, ⟨hk.1.2, ⟨hk.1.1.2, hk.2⟩⟩⟩)⟩, ⟨by (with_reducible repeat (first | apply Kd.R_alloc | apply Kd.R_drewN | apply Kd.R_drew)); exact Kd.R_mono HO221.out (fun _ hk => ⟨hk.1.1.1.2, ⟨hk.1.1.2, ⟨hk.1.2, hk.2⟩⟩⟩)⟩, ⟨sk BK198⟩, ⟨sk BK213⟩, ⟨sk BK214⟩, ⟨sk BK218⟩, ⟨sk BK229⟩, ⟨sk BK230⟩, ⟨sbw⟩⟩
   ·replace H := im H
    have H' := Aside0.mk H
    clear H
    have hnb95 := NB229_198.out
    have hnc95 := NB198_229.out
    have hnb96 := NB229_213.out
    have hnc96 := NB213_229.out
    have hnb97 := NB229_214.out
    have hnc97 := NB214_229.out
    have hnb98 := NB229_218.out
    have hnc98 := NB218_229.out
    have hnb99 := NB229_230.out
    have hnc99 := NB230_229.out
    obtain ⟨hcz100_0, hfz100_0⟩ := cc1 BK229
    have hnb101 := NB213_198.out
    have hnc101 := NB198_213.out
    have hnb102 := NB213_214.out
    have hnc102 := NB214_213.out
    have hnb103 := NB213_218.out
    have hnc103 := NB218_213.out
    have hnb104 := NB213_230.out
    have hnc104 := NB230_213.out
    obtain ⟨hcz105_0, hfz105_0⟩ := cc1 BK213
    go_wp2_with (first | ((with_reducible refine gate_callee (f := 26) rfl ?_); refine gL (some 43) Try.func26 #[.agg #[.slice Ao39 t219.length co39], .agg #[.slice Ao22 t203.length co22]] ?_; (with_reducible refine (laws_eqQueue.calls k _ _ t219 _ _ t203 false _ ?side1 ?side2 ?side3 ?side4 A51.out).mono ?_); (case side1 => refine (Kd.R_reads' (e := 49) (base := w.heap.size) (ok := fun k_ => (((((True ∧ some k_ ≠ (.slice Ao18 t200.length co18 : Value).ownBlock) ∧ some k_ ≠ (.slice Ao22 t203.length co22 : Value).ownBlock) ∧ some k_ ≠ (.slice Ao31 t215.length co31 : Value).ownBlock) ∧ k_ ≠ gb214) ∧ k_ ≠ gb230)) (n := t219.length) (c := co39) ?_).2.2; exact (by (with_reducible repeat (first | apply Kd.R_alloc | apply Kd.R_drewN | apply Kd.R_drew)); exact (Kd.R_mono (Kd.R_mono (Kd.R_far (p := ⟨gb230, 5, none⟩) (Kd.R_far (p := ⟨gb230, 4, none⟩) (Kd.R_far (p := ⟨gb230, 3, none⟩) (Kd.R_far (p := ⟨gb230, 2, none⟩) (Kd.R_far (p := ⟨gb230, 1, none⟩) (Kd.R_far (p := ⟨gb230, 0, none⟩) (Kd.R_far (p := ⟨gb229, 0, none⟩) (Kd.R_mono (Kd.R_types HO221.out BK229.out (by decide)) (fun k_ hk => (⟨hk, hk.1.2⟩ : _ ∧ k_ ≠ gb230))) (fun _ hk => hk.1.2) (.slice Ao39 t219.length co39)) (fun _ hk => hk.2) (.int .i64 t222)) (fun _ hk => hk.2) (.int .i64 t223)) (fun _ hk => hk.2) (.int .i64 t224)) (fun _ hk => hk.2) (.int .i64 t225)) (fun _ hk => hk.2) (.int .i64 t226)) (fun _ hk => hk.2) (.int .i64 t227)) (fun _ h_ => h_.1)) (fun _ h_ => h_.1)))); (case side2 => exact (Kd.R_reads' HO221.out).2.1); (case side3 => refine (Kd.R_reads' (e := 49) (base := w.heap.size) (ok := fun k_ => (((((True ∧ some k_ ≠ (.slice Ao18 t200.length co18 : Value).ownBlock) ∧ k_ ≠ gb214) ∧ some k_ ≠ (.slice Ao31 t215.length co31 : Value).ownBlock) ∧ some k_ ≠ (.slice Ao39 t219.length co39 : Value).ownBlock) ∧ k_ ≠ gb230)) (n := t203.length) (c := co22) ?_).2.2; exact (by (with_reducible repeat (first | apply Kd.R_alloc | apply Kd.R_drewN | apply Kd.R_drew)); exact (Kd.R_mono (Kd.R_mono (Kd.R_far (p := ⟨gb230, 5, none⟩) (Kd.R_far (p := ⟨gb230, 4, none⟩) (Kd.R_far (p := ⟨gb230, 3, none⟩) (Kd.R_far (p := ⟨gb230, 2, none⟩) (Kd.R_far (p := ⟨gb230, 1, none⟩) (Kd.R_far (p := ⟨gb230, 0, none⟩) (Kd.R_far (p := ⟨gb229, 0, none⟩) (Kd.R_mono (Kd.R_types HO205.out BK229.out (by decide)) (fun k_ hk => (⟨hk, hk.1.2⟩ : _ ∧ k_ ≠ gb230))) (fun _ hk => hk.1.2) (.slice Ao39 t219.length co39)) (fun _ hk => hk.2) (.int .i64 t222)) (fun _ hk => hk.2) (.int .i64 t223)) (fun _ hk => hk.2) (.int .i64 t224)) (fun _ hk => hk.2) (.int .i64 t225)) (fun _ hk => hk.2) (.int .i64 t226)) (fun _ hk => hk.2) (.int .i64 t227)) (fun _ h_ => h_.1)) (fun _ h_ => h_.1)))); (case side4 => exact (Kd.R_reads' HO205.out).2.1); rintro e w106 ⟨rfl, hb⟩; refine ⟨_, rfl, ?_⟩; replace HO202 := Aside0.mk (Kd.R_below (by (with_reducible repeat (first | apply Kd.R_alloc | apply Kd.R_drewN | apply Kd.R_drew)); exact (Kd.R_mono (Kd.R_mono (Kd.R_far (p := ⟨gb230, 5, none⟩) (Kd.R_far (p := ⟨gb230, 4, none⟩) (Kd.R_far (p := ⟨gb230, 3, none⟩) (Kd.R_far (p := ⟨gb230, 2, none⟩) (Kd.R_far (p := ⟨gb230, 1, none⟩) (Kd.R_far (p := ⟨gb230, 0, none⟩) (Kd.R_far (p := ⟨gb229, 0, none⟩) (Kd.R_mono (Kd.R_types HO202.out BK229.out (by decide)) (fun k_ hk => (⟨hk, hk.1.2⟩ : _ ∧ k_ ≠ gb230))) (fun _ hk => hk.1.2) (.slice Ao39 t219.length co39)) (fun _ hk => hk.2) (.int .i64 t222)) (fun _ hk => hk.2) (.int .i64 t223)) (fun _ hk => hk.2) (.int .i64 t224)) (fun _ hk => hk.2) (.int .i64 t225)) (fun _ hk => hk.2) (.int .i64 t226)) (fun _ hk => hk.2) (.int .i64 t227)) (fun _ h_ => h_.1)) (fun _ h_ => h_.1))) hb); replace HO205 := Aside0.mk (Kd.R_below (by (with_reducible repeat (first | apply Kd.R_alloc | apply Kd.R_drewN | apply Kd.R_drew)); exact (Kd.R_mono (Kd.R_mono (Kd.R_far (p := ⟨gb230, 5, none⟩) (Kd.R_far (p := ⟨gb230, 4, none⟩) (Kd.R_far (p := ⟨gb230, 3, none⟩) (Kd.R_far (p := ⟨gb230, 2, none⟩) (Kd.R_far (p := ⟨gb230, 1, none⟩) (Kd.R_far (p := ⟨gb230, 0, none⟩) (Kd.R_far (p := ⟨gb229, 0, none⟩) (Kd.R_mono (Kd.R_types HO205.out BK229.out (by decide)) (fun k_ hk => (⟨hk, hk.1.2⟩ : _ ∧ k_ ≠ gb230))) (fun _ hk => hk.1.2) (.slice Ao39 t219.length co39)) (fun _ hk => hk.2) (.int .i64 t222)) (fun _ hk => hk.2) (.int .i64 t223)) (fun _ hk => hk.2) (.int .i64 t224)) (fun _ hk => hk.2) (.int .i64 t225)) (fun _ hk => hk.2) (.int .i64 t226)) (fun _ hk => hk.2) (.int .i64 t227)) (fun _ h_ => h_.1)) (fun _ h_ => h_.1))) hb); replace HO217 := Aside0.mk (Kd.R_below (by (with_reducible repeat (first | apply Kd.R_alloc | apply Kd.R_drewN | apply Kd.R_drew)); exact (Kd.R_mono (Kd.R_mono (Kd.R_far (p := ⟨gb230, 5, none⟩) (Kd.R_far (p := ⟨gb230, 4, none⟩) (Kd.R_far (p := ⟨gb230, 3, none⟩) (Kd.R_far (p := ⟨gb230, 2, none⟩) (Kd.R_far (p := ⟨gb230, 1, none⟩) (Kd.R_far (p := ⟨gb230, 0, none⟩) (Kd.R_far (p := ⟨gb229, 0, none⟩) (Kd.R_mono (Kd.R_types HO217.out BK229.out (by decide)) (fun k_ hk => (⟨hk, hk.1.2⟩ : _ ∧ k_ ≠ gb230))) (fun _ hk => hk.1.2) (.slice Ao39 t219.length co39)) (fun _ hk => hk.2) (.int .i64 t222)) (fun _ hk => hk.2) (.int .i64 t223)) (fun _ hk => hk.2) (.int .i64 t224)) (fun _ hk => hk.2) (.int .i64 t225)) (fun _ hk => hk.2) (.int .i64 t226)) (fun _ hk => hk.2) (.int .i64 t227)) (fun _ h_ => h_.1)) (fun _ h_ => h_.1))) hb); replace HO221 := Aside0.mk (Kd.R_below (by (with_reducible repeat (first | apply Kd.R_alloc | apply Kd.R_drewN | apply Kd.R_drew)); exact (Kd.R_mono (Kd.R_mono (Kd.R_far (p := ⟨gb230, 5, none⟩) (Kd.R_far (p := ⟨gb230, 4, none⟩) (Kd.R_far (p := ⟨gb230, 3, none⟩) (Kd.R_far (p := ⟨gb230, 2, none⟩) (Kd.R_far (p := ⟨gb230, 1, none⟩) (Kd.R_far (p := ⟨gb230, 0, none⟩) (Kd.R_far (p := ⟨gb229, 0, none⟩) (Kd.R_mono (Kd.R_types HO221.out BK229.out (by decide)) (fun k_ hk => (⟨hk, hk.1.2⟩ : _ ∧ k_ ≠ gb230))) (fun _ hk => hk.1.2) (.slice Ao39 t219.length co39)) (fun _ hk => hk.2) (.int .i64 t222)) (fun _ hk => hk.2) (.int .i64 t223)) (fun _ hk => hk.2) (.int .i64 t224)) (fun _ hk => hk.2) (.int .i64 t225)) (fun _ hk => hk.2) (.int .i64 t226)) (fun _ hk => hk.2) (.int .i64 t227)) (fun _ h_ => h_.1)) (fun _ h_ => h_.1))) hb); replace BK198 := Aside0.mk (blk_below (g := gb198) (o := .cells #[.slice A0_0 l0_0.length c0_0] 35 (0, 0)) (sp BK198) hb); replace BK213 := Aside0.mk (blk_below (g := gb213) (o := .cells #[.slice Ao22 t203.length co22] 41 (0, 0)) (sp BK213) hb); replace BK214 := Aside0.mk (blk_below (g := gb214) (o := .cells #[.int .i64 t206, .int .i64 t207, .int .i64 t208, .int .i64 t209, .int .i64 t210, .int .i64 t211] 49 (0, 0)) (sp BK214) hb); replace BK218 := Aside0.mk (blk_below (g := gb218) (o := .cells #[.slice Ao31 t215.length co31] 41 (0, 0)) (sp BK218) hb); replace BK229 := Aside0.mk (blk_below (g := gb229) (o := .cells #[.slice Ao39 t219.length co39] 41 (0, 0)) (sp BK229) hb); replace BK230 := Aside0.mk (blk_below (g := gb230) (o := .cells #[.int .i64 t222, .int .i64 t223, .int .i64 t224, .int .i64 t225, .int .i64 t226, .int .i64 t227] 49 (0, 0)) (sp BK230) hb); replace HB := bsw hb; (try clear hb); (try clear hb2); (try clear hk); (try clear hi)))
    go_meet
    case rel => exact ⟨_, (true), sc, H', ⟨by first | omega | exact Nat.le_refl _⟩, ⟨by (with_reducible repeat (first | apply Kd.R_alloc | apply Kd.R_drewN | apply Kd.R_drew)); exact Kd.R_mono HO205.out (fun _ hk => ⟨hk.1.1.2, ⟨hk.1.2, ⟨hk.1.1.1.2, hk.2⟩⟩⟩)⟩, ⟨by (with_reducible repeat (first | apply Kd.R_alloc | apply Kd.R_drewN | apply Kd.R_drew)); exact Kd.R_mono HO217.out (fun _ hk => ⟨hk.1.1.1.2, ⟨hk.1.2, ⟨hk.1.1.2, hk.2⟩⟩⟩)⟩, ⟨by (with_reducible repeat (first | apply Kd.R_alloc | apply Kd.R_drewN | apply Kd.R_drew)); exact Kd.R_mono HO221.out (fun _ hk => ⟨hk.1.1.1.2, ⟨hk.1.1.2, ⟨hk.1.2, hk.2⟩⟩⟩)⟩, ⟨sk BK198⟩, ⟨sk BK213⟩, ⟨sk BK214⟩, ⟨sk BK218⟩, ⟨sk BK229⟩, ⟨sk BK230⟩, ⟨sbw⟩⟩
  case rest =>
   clear HC12
   try clear c4
   try clear c4b0
   try clear hcz100_0
   try clear hcz105_0
   try clear hcz60_0
   try clear hcz65_0
   try clear hcz80_0
   try clear hcz85_0
   try clear hfz100_0
   try clear hfz105_0
   try clear hfz60_0
   try clear hfz65_0
   try clear hfz80_0
   try clear hfz85_0
   obtain ⟨kq, x55_11, rfl, HA, HJ11, HO_214000, HO_219000, HO_230000, BK198, BK213, BK214, BK218, BK229, BK230, HB⟩ := hcut
   cases kq with
   | zero => exact absurd HA.out (by simp [laws_FnExactTakePacket.j0])
   | succ kj11 =>
    have H := HA.out
    clear HA
    simp only [laws_FnExactTakePacket.j0] at H
    obtain rfl | rfl := tt x55_11
    ·replace H := ip H
     obtain rfl := Option.some.inj H
     go_wp2
     go_ret
     exact ⟨se, sbw⟩
    ·replace H := im H
     obtain ⟨t233, A108, H⟩ := bnd H
     obtain ⟨t236, A109, H⟩ := bnd H
     obtain rfl | rfl := tt t236
     ·replace H := ip H
      obtain ⟨⟨t237, t238⟩, A111, H⟩ := bnd H
      replace H : (if t237 < 0 then (laws_FnExactTakePacket.j1 kj11 a1 t212 true l0_0 t203 t206 t207 t208 t209 t210 t211 t219) else ((laws_eqQueue.f kj11 t219 t203).bind fun t239 => (if t239 = true then ((laws_eqPacket.f t222 t223 t224 t225 t226 t227 t206 t207 t208 t209 t210 t211).bind fun t240 => (if t240 = true then (laws_FnExactTakePacket.j1 kj11 a1 t212 (t228 != t212) l0_0 t203 t206 t207 t208 t209 t210 t211 t219) else (laws_FnExactTakePacket.j1 kj11 a1 t212 true l0_0 t203 t206 t207 t208 t209 t210 t211 t219))) else (laws_FnExactTakePacket.j1 kj11 a1 t212 true l0_0 t203 t206 t207 t208 t209 t210 t211 t219)))) = some r := H
      have HC112 := Aside0.mk H
      clear H
      try go_wp2
      replace HO_214000 := Aside0.mk (Kd.R_drew HO_214000.out)
      replace HO_219000 := Aside0.mk (Kd.R_drew HO_219000.out)
      replace HO_230000 := Aside0.mk (Kd.R_drew HO_230000.out)
      replace BK198 := Aside0.mk (blk_drew BK198.out)
      replace BK213 := Aside0.mk (blk_drew BK213.out)
      replace BK214 := Aside0.mk (blk_drew BK214.out)
      replace BK218 := Aside0.mk (blk_drew BK218.out)
      replace BK229 := Aside0.mk (blk_drew BK229.out)
      replace BK230 := Aside0.mk (blk_drew BK230.out)
      replace HB := Aside0.mk (below_drew1 HB.out)
      refine start_ (n := 5) (S := fun w' => w'.cell? ⟨gb218, 0, none⟩ = some (.slice Ao31 t215.length co31) ∧ w'.cell? ⟨gb198, 0, none⟩ = some (.slice A0_0 l0_0.length c0_0)) (ds := []) #[false, false, false, false, false] (by kernel_rfl) rfl rfl ⟨bc0 BK218, bc0 BK198⟩ (fun hHeld => ?_)
      generalize wc.drew = w113 at HO_214000 HO_219000 HO_230000 BK198 BK213 BK214 BK218 BK229 BK230 HB hHeld ⊢
      refine ta2 0 56 #[true, false, false, false, false] hHeld ?_
      refine ta2 1 57 #[true, true, false, false, false] hHeld ?_
      refine one_ (i := 2) (N := some 58) #[true, true, true, false, false] rfl rfl (by kernel_rfl) (by decide) (fun K hK => ?_)
      refine goes_ Try.func23 (by kernel_rfl) rfl #[.agg #[.slice A0_0 l0_0.length c0_0]] (by rfl) rfl rfl sl ?_
      with_reducible refine (laws_toQueue.calls kj11 _ _ l0_0 t233 _ ?side1 ?side2 A108.out).mono ?_
      (case side1 => exact cb HR0_0)
      (case side2 => exact HC0_0.out)
      rintro e w114 ⟨v234, rfl, ho0, hb⟩
      refine ⟨_, rfl, ?_⟩
      have HO235 := Aside0.mk (Kd.R_lower (Kd.R_newB (Kd.R_newB (Kd.R_new' (Kd.R_new' (Kd.R_new' ho0 (Kd.R_lt (sr HO_214000))) (Kd.R_lt (sr HO_219000))) (Kd.R_lt (sr HO_230000))) (g := gb214) (o := .cells #[.int .i64 t206, .int .i64 t207, .int .i64 t208, .int .i64 t209, .int .i64 t210, .int .i64 t211] 49 (0, 0)) (sk BK214)) (g := gb230) (o := .cells #[.int .i64 t222, .int .i64 t223, .int .i64 t224, .int .i64 t225, .int .i64 t226, .int .i64 t227] 49 (0, 0)) (sk BK230)) (below_size (sbw)))
      replace HO_214000 := Aside0.mk (Kd.R_elder' (sr HO_214000) (Kd.R_base ho0) hb)
      replace HO_219000 := Aside0.mk (Kd.R_elder' (sr HO_219000) (Kd.R_base ho0) hb)
      replace HO_230000 := Aside0.mk (Kd.R_elder' (sr HO_230000) (Kd.R_base ho0) hb)
      replace BK198 := bb BK198 hb
      replace BK213 := bb BK213 hb
      replace BK214 := bb BK214 hb
      replace BK218 := bb BK218 hb
      replace BK229 := bb BK229 hb
      replace BK230 := bb BK230 hb
      replace HB := bsw hb
      (try clear hb)
      (try clear hb2)
      (try clear hk)
      (try clear hi)
      (try clear ho0)
      obtain ⟨Ao115, co115, eo115⟩ := Kd.R_slice HO235.out
      (first | subst eo115 | (injection eo115 with f1_ f2_ f3_; have f4_ := f1_.symm; have f5_ := f3_.symm; clear f1_ f2_ f3_; subst f4_; subst f5_))
      refine hK.out _ _ ⟨bc0 BK218, bc0 BK198⟩ (fun hHeld => ?_)
      clear hK K
      refine norm_ (a' := ?_) ?_ ?_
      rotate_left
      ·show Act.put _ (some 58) _ = _
       simp only [Act.put, List.setIfInBounds_toArray, List.set_cons_zero, List.set_cons_succ, i64_w, i32_w]
       rfl
      refine one_ (i := 3) (N := some 59) #[true, true, true, true, false] rfl rfl (by kernel_rfl) (by decide) (fun K hK => ?_)
      refine goes_ Try.func26 (by kernel_rfl) rfl #[.agg #[.slice Ao31 t215.length co31], .agg #[.slice Ao115 t233.length co115]] (by rfl) rfl rfl sl ?_
      with_reducible refine (laws_eqQueue.calls kj11 _ _ t215 _ _ t233 true _ ?side1 ?side2 ?side3 ?side4 A109.out).mono ?_
      (case side1 => repeat (first | exact (Kd.R_reads' HO_219000.out).2.2 | (with_reducible refine Kd.C_alloc ?_ _) | (with_reducible refine Kd.C_drewN ?_ _) | (with_reducible refine Kd.C_drew ?_)))
      (case side2 => exact (Kd.R_reads' HO_219000.out).2.1)
      (case side3 => repeat (first | exact (Kd.R_reads' HO235.out).2.2 | (with_reducible refine Kd.C_alloc ?_ _) | (with_reducible refine Kd.C_drewN ?_ _) | (with_reducible refine Kd.C_drew ?_)))
      (case side4 => exact (Kd.R_reads' HO235.out).2.1)
      rintro e w116 ⟨rfl, hb⟩
      refine ⟨_, rfl, ?_⟩
      replace HO_214000 := Aside0.mk (Kd.R_below (sr HO_214000) hb)
      replace HO_219000 := Aside0.mk (Kd.R_below (sr HO_219000) hb)
      replace HO_230000 := Aside0.mk (Kd.R_below (sr HO_230000) hb)
      replace HO235 := Aside0.mk (Kd.R_below (sr HO235) hb)
      replace BK198 := bb BK198 hb
      replace BK213 := bb BK213 hb
      replace BK214 := bb BK214 hb
      replace BK218 := bb BK218 hb
      replace BK229 := bb BK229 hb
      replace BK230 := bb BK230 hb
      replace HB := bsw hb
      (try clear hb)
      (try clear hb2)
      (try clear hk)
      (try clear hi)
      refine hK.out _ _ ⟨bc0 BK218, bc0 BK198⟩ (fun hHeld => ?_)
      clear hK K
      refine norm_ (a' := ?_) ?_ ?_
      rotate_left
      ·show Act.put _ (some 59) _ = _
       simp only [Act.put, List.setIfInBounds_toArray, List.set_cons_zero, List.set_cons_succ, i64_w, i32_w]
       rfl
      refine pu 4 60 #[true, true, true, true, true] ?_
      refine done_ (by kernel_rfl) ?_
      have hnb117 := NB218_198.out
      have hnc117 := NB198_218.out
      have hnb118 := NB218_213.out
      have hnc118 := NB213_218.out
      have hnb119 := NB218_214.out
      have hnc119 := NB214_218.out
      have hnb120 := NB218_229.out
      have hnc120 := NB229_218.out
      have hnb121 := NB218_230.out
      have hnc121 := NB230_218.out
      obtain ⟨hcz122_0, hfz122_0⟩ := cc1 BK218
      go_upto_region 14 with (first | ((with_reducible refine gate_callee (f := 27) rfl ?_); refine gL (some 63) Try.func27 #[.agg #[.slice Ao31 t215.length co31], .int .i64 1] ?_; (with_reducible refine (laws_markQueue.calls kj11 (fun k_ => some k_ = (.slice Ao31 t215.length co31 : Value).ownBlock) (.slice Ao31 t215.length co31) t215 1 t237 t238 w _ ?side1 ?side2 A111.out).mono ?_); (case side1 => repeat (first | (with_reducible first | exact HB.out | apply below_alloc | apply pw_below_drewN | apply below_drew1 | refine below_set ?_ GE198.out | refine below_set ?_ GE213.out | refine below_set ?_ GE214.out | refine below_set ?_ GE218.out | refine below_set ?_ GE229.out | refine below_set ?_ GE230.out) | exact HB.out)); (case side2 => exact Kd.R_tight rfl HO_219000.out); rintro e w123 ⟨rfl, hy0, hb, hkp⟩; refine ⟨_, rfl, ?_⟩; replace HO_214000 := Aside0.mk (Kd.R_mono (ok' := fun k_ => some k_ ≠ (.slice Ao31 t215.length co31 : Value).ownBlock ∧ some k_ ≠ (.slice Ao39 t219.length co39 : Value).ownBlock ∧ some k_ ≠ (.slice Ao115 t233.length co115 : Value).ownBlock ∧ k_ ≠ gb214 ∧ k_ ≠ gb230) (Kd.R_keptB (HO_214000.out) hkp (fun k_ hk_ hs_ => (by first | exact (hk_.1.1) hs_ | exact hk_ hs_ | exact hk_.1 hs_ | exact hk_.2 hs_ | exact hk_.1.1 hs_ | exact hk_.1.2 hs_ | exact hk_.1.1.1 hs_ | exact hk_.1.1.2 hs_))) (fun k_ hk_ => ⟨(ca hk_), (ca hk_), (ca hk_), (ca hk_), (ca hk_)⟩)); replace HO_230000 := Aside0.mk (Kd.R_mono (ok' := fun k_ => some k_ ≠ (.slice Ao22 t203.length co22 : Value).ownBlock ∧ some k_ ≠ (.slice Ao31 t215.length co31 : Value).ownBlock ∧ some k_ ≠ (.slice Ao115 t233.length co115 : Value).ownBlock ∧ k_ ≠ gb214 ∧ k_ ≠ gb230) (Kd.R_keptB (HO_230000.out) hkp (fun k_ hk_ hs_ => (by first | exact (hk_.1.2.1) hs_ | exact hk_ hs_ | exact hk_.1 hs_ | exact hk_.2 hs_ | exact hk_.1.1 hs_ | exact hk_.1.2 hs_ | exact hk_.1.1.1 hs_ | exact hk_.1.1.2 hs_))) (fun k_ hk_ => ⟨(ca hk_), (ca hk_), (ca hk_), (ca hk_), (ca hk_)⟩)); replace BK198 := Aside0.mk (blk_kept (sk BK198) hkp (fun hs_ => (fun e_ => (Kd.R_ne HO_219000.out BK198.out (by decide)) e_) hs_)); replace BK213 := Aside0.mk (blk_kept (sk BK213) hkp (fun hs_ => (fun e_ => (Kd.R_ne HO_219000.out BK213.out (by decide)) e_) hs_)); replace BK214 := Aside0.mk (blk_kept (sk BK214) hkp (fun hs_ => (fun e_ => (Kd.R_away HO_219000.out (fun _ hk => hk.1.2.2.1)) e_) hs_)); replace BK218 := Aside0.mk (blk_kept (sk BK218) hkp (fun hs_ => (fun e_ => (Kd.R_ne HO_219000.out BK218.out (by decide)) e_) hs_)); replace BK229 := Aside0.mk (blk_kept (sk BK229) hkp (fun hs_ => (fun e_ => (Kd.R_ne HO_219000.out BK229.out (by decide)) e_) hs_)); replace BK230 := Aside0.mk (blk_kept (sk BK230) hkp (fun hs_ => (fun e_ => (Kd.R_away HO_219000.out (fun _ hk => hk.1.2.2.2)) e_) hs_)); replace HO_219000 := Aside0.mk (Kd.R_reok rfl hy0 (fun k_ e_ => HO_219000.out.1 k_ e_)); replace HO235 := Aside0.mk (Kd.R_mono (ok' := fun k_ => some k_ ≠ (.slice Ao22 t203.length co22 : Value).ownBlock ∧ some k_ ≠ (.slice Ao31 t215.length co31 : Value).ownBlock ∧ some k_ ≠ (.slice Ao39 t219.length co39 : Value).ownBlock ∧ k_ ≠ gb214 ∧ k_ ≠ gb230) (Kd.R_keptB (HO235.out) hkp (fun k_ hk_ hs_ => (by first | exact (hk_.1.1.1.2) hs_ | exact hk_ hs_ | exact hk_.1 hs_ | exact hk_.2 hs_ | exact hk_.1.1 hs_ | exact hk_.1.2 hs_ | exact hk_.1.1.1 hs_ | exact hk_.1.1.2 hs_))) (fun k_ hk_ => ⟨(ca hk_), (ca hk_), (ca hk_), (ca hk_), (ca hk_)⟩)); replace HB := Aside0.mk hb; (try clear hb); (try clear hkp); (try clear hy0)))
      (try simp only [Act.put, List.setIfInBounds_toArray, List.set_cons_zero, List.set_cons_succ])
      go_cut [82] (fun v82 wc => ∃ (kq : Nat) (x82_111 : Bool), v82 = .bool x82_111 ∧ Aside0 (laws_FnExactTakePacket.j1 kq a1 t212 x82_111 l0_0 t203 t206 t207 t208 t209 t210 t211 t219 = some r) ∧ Aside0 (kq ≤ kj11) ∧ Aside0 (Kd.R k49 49 wc w.heap.size (fun k_ => some k_ ≠ ((.slice Ao31 t215.length co31) : Value).ownBlock ∧ some k_ ≠ ((.slice Ao39 t219.length co39) : Value).ownBlock ∧ k_ ≠ gb214 ∧ k_ ≠ gb230) (.slice Ao22 t203.length co22) t203) ∧ Aside0 (Kd.R k49 49 wc w.heap.size (fun k_ => some k_ ≠ ((.slice Ao22 t203.length co22) : Value).ownBlock ∧ some k_ ≠ ((.slice Ao39 t219.length co39) : Value).ownBlock ∧ k_ ≠ gb214 ∧ k_ ≠ gb230) (.slice Ao31 t215.length co31) t238) ∧ Aside0 (Kd.R k49 49 wc w.heap.size (fun k_ => some k_ ≠ ((.slice Ao22 t203.length co22) : Value).ownBlock ∧ some k_ ≠ ((.slice Ao31 t215.length co31) : Value).ownBlock ∧ k_ ≠ gb214 ∧ k_ ≠ gb230) (.slice Ao39 t219.length co39) t219) ∧ Aside0 (wc.heap[gb198]? = some (.cells #[(.slice A0_0 l0_0.length c0_0)] 35 (0, 0))) ∧ Aside0 (wc.heap[gb213]? = some (.cells #[(.slice Ao22 t203.length co22)] 41 (0, 0))) ∧ Aside0 (wc.heap[gb214]? = some (.cells #[.int .i64 t206, .int .i64 t207, .int .i64 t208, .int .i64 t209, .int .i64 t210, .int .i64 t211] 49 (0, 0))) ∧ Aside0 (wc.heap[gb218]? = some (.cells #[(.slice Ao31 t215.length co31)] 41 (0, 0))) ∧ Aside0 (wc.heap[gb229]? = some (.cells #[(.slice Ao39 t219.length co39)] 41 (0, 0))) ∧ Aside0 (wc.heap[gb230]? = some (.cells #[.int .i64 t222, .int .i64 t223, .int .i64 t224, .int .i64 t225, .int .i64 t226, .int .i64 t227] 49 (0, 0))) ∧ Aside0 (Below w.heap.size w wc))
      case first =>
       have H := HC112.out
       clear HC112
       obtain ⟨c124, H⟩ | ⟨c124, H⟩ := ie_ H
       ·have c124b0 := decide_eq_true c124
        clear c124
        (first | rw [c124b0] | (simp only [i64_w, i32_w]; rw [c124b0]) | skip)
        have H' := Aside0.mk H
        clear H
        go_wp2
        go_meet
        case rel => exact ⟨_, (true), sc, H', ⟨by have := HJ11.out; first | omega | exact Nat.le_refl _⟩, ⟨by (with_reducible repeat (first | apply Kd.R_alloc | apply Kd.R_drewN | apply Kd.R_drew)); exact Kd.R_mono HO_214000.out (fun _ hk => ⟨hk.1, ⟨hk.2.1, ⟨hk.2.2.2.1, hk.2.2.2.2⟩⟩⟩)⟩, ⟨by (with_reducible repeat (first | apply Kd.R_alloc | apply Kd.R_drewN | apply Kd.R_drew)); exact Kd.R_mono HO_219000.out (fun _ hk => ⟨hk.1.1, ⟨hk.1.2.1, ⟨hk.1.2.2.1, hk.1.2.2.2⟩⟩⟩)⟩, ⟨by (with_reducible repeat (first | apply Kd.R_alloc | apply Kd.R_drewN | apply Kd.R_drew)); exact Kd.R_mono HO_230000.out (fun _ hk => ⟨hk.1, ⟨hk.2.1, ⟨hk.2.2.2.1, hk.2.2.2.2⟩⟩⟩)⟩, ⟨sk BK198⟩, ⟨sk BK213⟩, ⟨sk BK214⟩, ⟨sk BK218⟩, ⟨sk BK229⟩, ⟨sk BK230⟩, ⟨sbw⟩⟩
       ·have c124b0 := decide_eq_false c124
        clear c124
        (first | rw [c124b0] | (simp only [i64_w, i32_w]; rw [c124b0]) | skip)
        obtain ⟨t239, A125, H⟩ := bnd H
        obtain rfl | rfl := tt t239
        ·replace H := ip H
         obtain ⟨t240, A127, H⟩ := bnd H
         obtain rfl | rfl := tt t240
         ·replace H := ip H
          have H' := Aside0.mk H
          clear H
          have hnb129 := NB229_198.out
          have hnc129 := NB198_229.out
          have hnb130 := NB229_213.out
          have hnc130 := NB213_229.out
          have hnb131 := NB229_214.out
          have hnc131 := NB214_229.out
          have hnb132 := NB229_218.out
          have hnc132 := NB218_229.out
          have hnb133 := NB229_230.out
          have hnc133 := NB230_229.out
          obtain ⟨hcz134_0, hfz134_0⟩ := cc1 BK229
          have hnb135 := NB213_198.out
          have hnc135 := NB198_213.out
          have hnb136 := NB213_214.out
          have hnc136 := NB214_213.out
          have hnb137 := NB213_218.out
          have hnc137 := NB218_213.out
          have hnb138 := NB213_230.out
          have hnc138 := NB230_213.out
          obtain ⟨hcz139_0, hfz139_0⟩ := cc1 BK213
          go_wp2_with (first | (go_at_call 26; (with_reducible refine (laws_eqQueue.calls kj11 _ _ t219 _ _ t203 true _ ?side1 ?side2 ?side3 ?side4 A125.out).mono ?_); (case side1 => repeat (first | exact (Kd.R_reads' HO_230000.out).2.2 | (with_reducible refine Kd.C_alloc ?_ _) | (with_reducible refine Kd.C_drewN ?_ _) | (with_reducible refine Kd.C_drew ?_))); (case side2 => exact (Kd.R_reads' HO_230000.out).2.1); (case side3 => repeat (first | exact (Kd.R_reads' HO_214000.out).2.2 | (with_reducible refine Kd.C_alloc ?_ _) | (with_reducible refine Kd.C_drewN ?_ _) | (with_reducible refine Kd.C_drew ?_))); (case side4 => exact (Kd.R_reads' HO_214000.out).2.1); rintro e w140 ⟨rfl, hb⟩; replace HO_214000 := Aside0.mk (Kd.R_below (sr HO_214000) hb); replace HO_219000 := Aside0.mk (Kd.R_below (sr HO_219000) hb); replace HO_230000 := Aside0.mk (Kd.R_below (sr HO_230000) hb); replace HO235 := Aside0.mk (Kd.R_below (sr HO235) hb); replace BK198 := bb BK198 hb; replace BK213 := bb BK213 hb; replace BK214 := bb BK214 hb; replace BK218 := bb BK218 hb; replace BK229 := bb BK229 hb; replace BK230 := bb BK230 hb; replace HB := bsw hb; (try clear hb); (try clear hb2); (try clear hk); (try clear hi); have hnb141 := NB230_198.out; have hnc141 := NB198_230.out; have hnb142 := NB230_214.out; have hnc142 := NB214_230.out; have hnb143 := NB230_218.out; have hnc143 := NB218_230.out; obtain ⟨hcz144_0, hcz144_1, hcz144_2, hcz144_3, hcz144_4, hcz144_5, hfz144_0, hfz144_1, hfz144_2, hfz144_3, hfz144_4, hfz144_5⟩ := cc6 BK230; have hnb145 := NB214_198.out; have hnc145 := NB198_214.out; have hnb146 := NB214_218.out; have hnc146 := NB218_214.out; obtain ⟨hcz147_0, hcz147_1, hcz147_2, hcz147_3, hcz147_4, hcz147_5, hfz147_0, hfz147_1, hfz147_2, hfz147_3, hfz147_4, hfz147_5⟩ := cc6 BK214) | (go_at_call 32; (with_reducible refine (laws_eqPacket.calls t222 t223 t224 t225 t226 t227 t206 t207 t208 t209 t210 t211 true _ A127.out).mono ?_); rintro e w148 ⟨rfl, hb⟩; replace HO_214000 := Aside0.mk (Kd.R_below (sr HO_214000) hb); replace HO_219000 := Aside0.mk (Kd.R_below (sr HO_219000) hb); replace HO_230000 := Aside0.mk (Kd.R_below (sr HO_230000) hb); replace HO235 := Aside0.mk (Kd.R_below (sr HO235) hb); replace BK198 := bb BK198 hb; replace BK213 := bb BK213 hb; replace BK214 := bb BK214 hb; replace BK218 := bb BK218 hb; replace BK229 := bb BK229 hb; replace BK230 := bb BK230 hb; replace HB := bsw hb; (try clear hb); (try clear hb2); (try clear hk); (try clear hi)))
          go_meet
          case rel => exact ⟨_, ((t228 != t212)), sc, H', ⟨by have := HJ11.out; first | omega | exact Nat.le_refl _⟩, ⟨by (with_reducible repeat (first | apply Kd.R_alloc | apply Kd.R_drewN | apply Kd.R_drew)); exact Kd.R_mono HO_214000.out (fun _ hk => ⟨hk.1, ⟨hk.2.1, ⟨hk.2.2.2.1, hk.2.2.2.2⟩⟩⟩)⟩, ⟨by (with_reducible repeat (first | apply Kd.R_alloc | apply Kd.R_drewN | apply Kd.R_drew)); exact Kd.R_mono HO_219000.out (fun _ hk => ⟨hk.1.1, ⟨hk.1.2.1, ⟨hk.1.2.2.1, hk.1.2.2.2⟩⟩⟩)⟩, ⟨by (with_reducible repeat (first | apply Kd.R_alloc | apply Kd.R_drewN | apply Kd.R_drew)); exact Kd.R_mono HO_230000.out (fun _ hk => ⟨hk.1, ⟨hk.2.1, ⟨hk.2.2.2.1, hk.2.2.2.2⟩⟩⟩)⟩, ⟨sk BK198⟩, ⟨sk BK213⟩, ⟨sk BK214⟩, ⟨sk BK218⟩, ⟨sk BK229⟩, ⟨sk BK230⟩, ⟨sbw⟩⟩
         ·replace H := im H
          have H' := Aside0.mk H
          clear H
          have hnb149 := NB229_198.out
          have hnc149 := NB198_229.out
          have hnb150 := NB229_213.out
          have hnc150 := NB213_229.out
          have hnb151 := NB229_214.out
          have hnc151 := NB214_229.out
          have hnb152 := NB229_218.out
          have hnc152 := NB218_229.out
          have hnb153 := NB229_230.out
          have hnc153 := NB230_229.out
          obtain ⟨hcz154_0, hfz154_0⟩ := cc1 BK229
          have hnb155 := NB213_198.out
          have hnc155 := NB198_213.out
          have hnb156 := NB213_214.out
          have hnc156 := NB214_213.out
          have hnb157 := NB213_218.out
          have hnc157 := NB218_213.out
          have hnb158 := NB213_230.out
          have hnc158 := NB230_213.out
          obtain ⟨hcz159_0, hfz159_0⟩ := cc1 BK213
          go_wp2_with (first | (go_at_call 26; (with_reducible refine (laws_eqQueue.calls kj11 _ _ t219 _ _ t203 true _ ?side1 ?side2 ?side3 ?side4 A125.out).mono ?_); (case side1 => repeat (first | exact (Kd.R_reads' HO_230000.out).2.2 | (with_reducible refine Kd.C_alloc ?_ _) | (with_reducible refine Kd.C_drewN ?_ _) | (with_reducible refine Kd.C_drew ?_))); (case side2 => exact (Kd.R_reads' HO_230000.out).2.1); (case side3 => repeat (first | exact (Kd.R_reads' HO_214000.out).2.2 | (with_reducible refine Kd.C_alloc ?_ _) | (with_reducible refine Kd.C_drewN ?_ _) | (with_reducible refine Kd.C_drew ?_))); (case side4 => exact (Kd.R_reads' HO_214000.out).2.1); rintro e w160 ⟨rfl, hb⟩; replace HO_214000 := Aside0.mk (Kd.R_below (sr HO_214000) hb); replace HO_219000 := Aside0.mk (Kd.R_below (sr HO_219000) hb); replace HO_230000 := Aside0.mk (Kd.R_below (sr HO_230000) hb); replace HO235 := Aside0.mk (Kd.R_below (sr HO235) hb); replace BK198 := bb BK198 hb; replace BK213 := bb BK213 hb; replace BK214 := bb BK214 hb; replace BK218 := bb BK218 hb; replace BK229 := bb BK229 hb; replace BK230 := bb BK230 hb; replace HB := bsw hb; (try clear hb); (try clear hb2); (try clear hk); (try clear hi); have hnb161 := NB230_198.out; have hnc161 := NB198_230.out; have hnb162 := NB230_214.out; have hnc162 := NB214_230.out; have hnb163 := NB230_218.out; have hnc163 := NB218_230.out; obtain ⟨hcz164_0, hcz164_1, hcz164_2, hcz164_3, hcz164_4, hcz164_5, hfz164_0, hfz164_1, hfz164_2, hfz164_3, hfz164_4, hfz164_5⟩ := cc6 BK230; have hnb165 := NB214_198.out; have hnc165 := NB198_214.out; have hnb166 := NB214_218.out; have hnc166 := NB218_214.out; obtain ⟨hcz167_0, hcz167_1, hcz167_2, hcz167_3, hcz167_4, hcz167_5, hfz167_0, hfz167_1, hfz167_2, hfz167_3, hfz167_4, hfz167_5⟩ := cc6 BK214) | (go_at_call 32; (with_reducible refine (laws_eqPacket.calls t222 t223 t224 t225 t226 t227 t206 t207 t208 t209 t210 t211 false _ A127.out).mono ?_); rintro e w168 ⟨rfl, hb⟩; replace HO_214000 := Aside0.mk (Kd.R_below (sr HO_214000) hb); replace HO_219000 := Aside0.mk (Kd.R_below (sr HO_219000) hb); replace HO_230000 := Aside0.mk (Kd.R_below (sr HO_230000) hb); replace HO235 := Aside0.mk (Kd.R_below (sr HO235) hb); replace BK198 := bb BK198 hb; replace BK213 := bb BK213 hb; replace BK214 := bb BK214 hb; replace BK218 := bb BK218 hb; replace BK229 := bb BK229 hb; replace BK230 := bb BK230 hb; replace HB := bsw hb; (try clear hb); (try clear hb2); (try clear hk); (try clear hi)))
          go_meet
          case rel => exact ⟨_, (true), sc, H', ⟨by have := HJ11.out; first | omega | exact Nat.le_refl _⟩, ⟨by (with_reducible repeat (first | apply Kd.R_alloc | apply Kd.R_drewN | apply Kd.R_drew)); exact Kd.R_mono HO_214000.out (fun _ hk => ⟨hk.1, ⟨hk.2.1, ⟨hk.2.2.2.1, hk.2.2.2.2⟩⟩⟩)⟩, ⟨by (with_reducible repeat (first | apply Kd.R_alloc | apply Kd.R_drewN | apply Kd.R_drew)); exact Kd.R_mono HO_219000.out (fun _ hk => ⟨hk.1.1, ⟨hk.1.2.1, ⟨hk.1.2.2.1, hk.1.2.2.2⟩⟩⟩)⟩, ⟨by (with_reducible repeat (first | apply Kd.R_alloc | apply Kd.R_drewN | apply Kd.R_drew)); exact Kd.R_mono HO_230000.out (fun _ hk => ⟨hk.1, ⟨hk.2.1, ⟨hk.2.2.2.1, hk.2.2.2.2⟩⟩⟩)⟩, ⟨sk BK198⟩, ⟨sk BK213⟩, ⟨sk BK214⟩, ⟨sk BK218⟩, ⟨sk BK229⟩, ⟨sk BK230⟩, ⟨sbw⟩⟩
        ·replace H := im H
         have H' := Aside0.mk H
         clear H
         have hnb169 := NB229_198.out
         have hnc169 := NB198_229.out
         have hnb170 := NB229_213.out
         have hnc170 := NB213_229.out
         have hnb171 := NB229_214.out
         have hnc171 := NB214_229.out
         have hnb172 := NB229_218.out
         have hnc172 := NB218_229.out
         have hnb173 := NB229_230.out
         have hnc173 := NB230_229.out
         obtain ⟨hcz174_0, hfz174_0⟩ := cc1 BK229
         have hnb175 := NB213_198.out
         have hnc175 := NB198_213.out
         have hnb176 := NB213_214.out
         have hnc176 := NB214_213.out
         have hnb177 := NB213_218.out
         have hnc177 := NB218_213.out
         have hnb178 := NB213_230.out
         have hnc178 := NB230_213.out
         obtain ⟨hcz179_0, hfz179_0⟩ := cc1 BK213
         go_wp2_with (first | (go_at_call 26; (with_reducible refine (laws_eqQueue.calls kj11 _ _ t219 _ _ t203 false _ ?side1 ?side2 ?side3 ?side4 A125.out).mono ?_); (case side1 => repeat (first | exact (Kd.R_reads' HO_230000.out).2.2 | (with_reducible refine Kd.C_alloc ?_ _) | (with_reducible refine Kd.C_drewN ?_ _) | (with_reducible refine Kd.C_drew ?_))); (case side2 => exact (Kd.R_reads' HO_230000.out).2.1); (case side3 => repeat (first | exact (Kd.R_reads' HO_214000.out).2.2 | (with_reducible refine Kd.C_alloc ?_ _) | (with_reducible refine Kd.C_drewN ?_ _) | (with_reducible refine Kd.C_drew ?_))); (case side4 => exact (Kd.R_reads' HO_214000.out).2.1); rintro e w180 ⟨rfl, hb⟩; replace HO_214000 := Aside0.mk (Kd.R_below (sr HO_214000) hb); replace HO_219000 := Aside0.mk (Kd.R_below (sr HO_219000) hb); replace HO_230000 := Aside0.mk (Kd.R_below (sr HO_230000) hb); replace HO235 := Aside0.mk (Kd.R_below (sr HO235) hb); replace BK198 := bb BK198 hb; replace BK213 := bb BK213 hb; replace BK214 := bb BK214 hb; replace BK218 := bb BK218 hb; replace BK229 := bb BK229 hb; replace BK230 := bb BK230 hb; replace HB := bsw hb; (try clear hb); (try clear hb2); (try clear hk); (try clear hi)))
         go_meet
         case rel => exact ⟨_, (true), sc, H', ⟨by have := HJ11.out; first | omega | exact Nat.le_refl _⟩, ⟨by (with_reducible repeat (first | apply Kd.R_alloc | apply Kd.R_drewN | apply Kd.R_drew)); exact Kd.R_mono HO_214000.out (fun _ hk => ⟨hk.1, ⟨hk.2.1, ⟨hk.2.2.2.1, hk.2.2.2.2⟩⟩⟩)⟩, ⟨by (with_reducible repeat (first | apply Kd.R_alloc | apply Kd.R_drewN | apply Kd.R_drew)); exact Kd.R_mono HO_219000.out (fun _ hk => ⟨hk.1.1, ⟨hk.1.2.1, ⟨hk.1.2.2.1, hk.1.2.2.2⟩⟩⟩)⟩, ⟨by (with_reducible repeat (first | apply Kd.R_alloc | apply Kd.R_drewN | apply Kd.R_drew)); exact Kd.R_mono HO_230000.out (fun _ hk => ⟨hk.1, ⟨hk.2.1, ⟨hk.2.2.2.1, hk.2.2.2.2⟩⟩⟩)⟩, ⟨sk BK198⟩, ⟨sk BK213⟩, ⟨sk BK214⟩, ⟨sk BK218⟩, ⟨sk BK229⟩, ⟨sk BK230⟩, ⟨sbw⟩⟩
      case rest =>
       clear HC112
       try clear c4
       try clear c4b0
       try clear c124
       try clear c124b0
       try clear hcz100_0
       try clear hcz105_0
       try clear hcz122_0
       try clear hcz134_0
       try clear hcz139_0
       try clear hcz154_0
       try clear hcz159_0
       try clear hcz174_0
       try clear hcz179_0
       try clear hcz60_0
       try clear hcz65_0
       try clear hcz80_0
       try clear hcz85_0
       try clear hfz100_0
       try clear hfz105_0
       try clear hfz122_0
       try clear hfz134_0
       try clear hfz139_0
       try clear hfz154_0
       try clear hfz159_0
       try clear hfz174_0
       try clear hfz179_0
       try clear hfz60_0
       try clear hfz65_0
       try clear hfz80_0
       try clear hfz85_0
       obtain ⟨kq, x82_111, rfl, HA, HJ111, HO_214000, HO_219000, HO_230000, BK198, BK213, BK214, BK218, BK229, BK230, HB⟩ := hcut
       have hl219000_111 := (Kd.R_reads' HO_219000.out).1
       rw [hl219000_111] at HO_219000
       (try simp only [hl219000_111])
       (try simp only [hl219000_111] at BK198)
       (try simp only [hl219000_111] at BK213)
       (try simp only [hl219000_111] at BK214)
       (try simp only [hl219000_111] at BK218)
       (try simp only [hl219000_111] at BK229)
       (try simp only [hl219000_111] at BK230)
       (try simp only [hl219000_111] at HO_214000)
       (try simp only [hl219000_111] at HO_230000)
       cases kq with
       | zero => exact absurd HA.out (by simp [laws_FnExactTakePacket.j1])
       | succ kj111 =>
        have H := HA.out
        clear HA
        simp only [laws_FnExactTakePacket.j1] at H
        obtain rfl | rfl := tt x82_111
        ·replace H := ip H
         obtain rfl := Option.some.inj H
         go_wp2
         go_ret
         exact ⟨se, sbw⟩
        ·replace H := im H
         obtain ⟨⟨t241, t242⟩, A182, H⟩ := bnd H
         replace H : ((laws_heldQueue.f kj111 t242 1).bind fun t243 => (if t243 < 0 then (some false) else (if t243 = t241 then ((laws_toQueue.f kj111 l0_0).bind fun t244 => ((impl_TakePacket.f t244 a1).bind fun bt247 => ((laws_eqQueue.f kj111 bt247.1 t203).bind fun t259 => (if t259 = true then ((laws_eqPacket.f bt247.2.1 bt247.2.2.1 bt247.2.2.2.1 bt247.2.2.2.2.1 bt247.2.2.2.2.2.1 bt247.2.2.2.2.2.2.1 t206 t207 t208 t209 t210 t211).bind fun t260 => (if t260 = true then (laws_FnExactTakePacket.j2 kj111 t241 (bt247.2.2.2.2.2.2.2 != t212) t242) else (laws_FnExactTakePacket.j2 kj111 t241 true t242))) else (laws_FnExactTakePacket.j2 kj111 t241 true t242))))) else (some false)))) = some r := H
         obtain ⟨t243, A183, H⟩ := bnd H
         obtain ⟨c184, H⟩ | ⟨c184, H⟩ := ie_ H
         ·have c184b0 := decide_eq_true c184
          clear c184
          obtain rfl := Option.some.inj H
          have hnb185 := NB229_198.out
          have hnc185 := NB198_229.out
          have hnb186 := NB229_213.out
          have hnc186 := NB213_229.out
          have hnb187 := NB229_214.out
          have hnc187 := NB214_229.out
          have hnb188 := NB229_218.out
          have hnc188 := NB218_229.out
          have hnb189 := NB229_230.out
          have hnc189 := NB230_229.out
          obtain ⟨hcz190_0, hfz190_0⟩ := cc1 BK229
          go_wp2_with (first | ((with_reducible refine gate_callee (f := 27) rfl ?_); refine gL (some 85) Try.func27 #[.agg #[.slice Ao39 t219.length co39], .int .i64 1] ?_; (with_reducible refine (laws_markQueue.calls kj111 (fun k_ => some k_ = (.slice Ao39 t219.length co39 : Value).ownBlock) (.slice Ao39 t219.length co39) t219 1 t241 t242 w _ ?side1 ?side2 A182.out).mono ?_); (case side1 => repeat (first | (with_reducible first | exact HB.out | apply below_alloc | apply pw_below_drewN | apply below_drew1 | refine below_set ?_ GE198.out | refine below_set ?_ GE213.out | refine below_set ?_ GE214.out | refine below_set ?_ GE218.out | refine below_set ?_ GE229.out | refine below_set ?_ GE230.out) | exact HB.out)); (case side2 => exact Kd.R_tight rfl HO_230000.out); rintro e w191 ⟨rfl, hy0, hb, hkp⟩; refine ⟨_, rfl, ?_⟩; replace HO_214000 := Aside0.mk (Kd.R_mono (ok' := fun k_ => some k_ ≠ (.slice Ao31 t238.length co31 : Value).ownBlock ∧ some k_ ≠ (.slice Ao39 t219.length co39 : Value).ownBlock ∧ k_ ≠ gb214 ∧ k_ ≠ gb230) (Kd.R_keptB (HO_214000.out) hkp (fun k_ hk_ hs_ => (hk_.2.1) hs_)) (fun k_ hk_ => ⟨hk_.1.1, hk_.1.2.1, hk_.1.2.2.1, hk_.1.2.2.2⟩)); replace HO_219000 := Aside0.mk (Kd.R_mono (ok' := fun k_ => some k_ ≠ (.slice Ao22 t203.length co22 : Value).ownBlock ∧ some k_ ≠ (.slice Ao39 t219.length co39 : Value).ownBlock ∧ k_ ≠ gb214 ∧ k_ ≠ gb230) (Kd.R_keptB (HO_219000.out) hkp (fun k_ hk_ hs_ => (hk_.2.1) hs_)) (fun k_ hk_ => ⟨hk_.1.1, hk_.1.2.1, hk_.1.2.2.1, hk_.1.2.2.2⟩)); replace BK198 := Aside0.mk (blk_kept (sk BK198) hkp (fun hs_ => (fun e_ => (Kd.R_ne HO_230000.out BK198.out (by decide)) e_) hs_)); replace BK213 := Aside0.mk (blk_kept (sk BK213) hkp (fun hs_ => (fun e_ => (Kd.R_ne HO_230000.out BK213.out (by decide)) e_) hs_)); replace BK214 := Aside0.mk (blk_kept (sk BK214) hkp (fun hs_ => (fun e_ => (Kd.R_away HO_230000.out (fun _ hk => hk.2.2.1)) e_) hs_)); replace BK218 := Aside0.mk (blk_kept (sk BK218) hkp (fun hs_ => (fun e_ => (Kd.R_ne HO_230000.out BK218.out (by decide)) e_) hs_)); replace BK229 := Aside0.mk (blk_kept (sk BK229) hkp (fun hs_ => (fun e_ => (Kd.R_ne HO_230000.out BK229.out (by decide)) e_) hs_)); replace BK230 := Aside0.mk (blk_kept (sk BK230) hkp (fun hs_ => (fun e_ => (Kd.R_away HO_230000.out (fun _ hk => hk.2.2.2)) e_) hs_)); replace HO_230000 := Aside0.mk (Kd.R_reok rfl hy0 (fun k_ e_ => HO_230000.out.1 k_ e_)); replace HB := Aside0.mk hb; (try clear hb); (try clear hkp); (try clear hy0); obtain ⟨hcz192_0, hfz192_0⟩ := cc1 BK229) | ((with_reducible refine gate_callee (f := 33) rfl ?_); refine goesL_ (some 88) rfl rfl Try.func33 (by kernel_rfl) rfl #[.agg #[.slice Ao39 t242.length co39], .int .i64 1] rfl (by (try simp only [List.map_toArray, List.map_cons, List.map_nil]); first | done | (rw [show t242.length = t219.length from (Kd.R_reads' HO_230000.out).1.symm] <;> rfl) | rfl | (simp only [List.length_drop, List.length_take]; rfl)) ?_; (with_reducible refine (laws_heldQueue.calls kj111 _ _ t242 1 t243 _ ?side1 ?side2 A183.out).mono ?_); (case side1 => repeat (first | exact (Kd.R_reads' HO_230000.out).2.2 | (with_reducible refine Kd.C_alloc ?_ _) | (with_reducible refine Kd.C_drewN ?_ _) | (with_reducible refine Kd.C_drew ?_))); (case side2 => rw [show t242.length = t219.length from (Kd.R_reads' HO_230000.out).1.symm]; exact (Kd.R_reads' HO_230000.out).2.1); rintro e w193 ⟨rfl, hb⟩; refine ⟨_, rfl, ?_⟩; replace HO_214000 := Aside0.mk (Kd.R_below (sr HO_214000) hb); replace HO_219000 := Aside0.mk (Kd.R_below (sr HO_219000) hb); replace HO_230000 := Aside0.mk (Kd.R_below (sr HO_230000) hb); replace BK198 := bb BK198 hb; replace BK213 := bb BK213 hb; replace BK214 := bb BK214 hb; replace BK218 := bb BK218 hb; replace BK229 := bb BK229 hb; replace BK230 := bb BK230 hb; replace HB := bsw hb; (try clear hb); (try clear hb2); (try clear hk); (try clear hi)))
          go_ret
          exact ⟨se, sbw⟩
         ·have c184b0 := decide_eq_false c184
          clear c184
          obtain ⟨c194, H⟩ | ⟨c194, H⟩ := ie_ H
          ·have c194b0 : (t243 == t241) = true := beq_iff_eq.mpr c194
           have c194b1 : (t243 != t241) = false := bne_eq_false_iff_eq.mpr c194
           clear c194
           obtain ⟨t244, A195, H⟩ := bnd H
           obtain ⟨⟨t247, t250, t251, t252, t253, t254, t255, t256⟩, A196, H⟩ := bnd H
           replace H : ((laws_eqQueue.f kj111 t247 t203).bind fun t259 => (if t259 = true then ((laws_eqPacket.f t250 t251 t252 t253 t254 t255 t206 t207 t208 t209 t210 t211).bind fun t260 => (if t260 = true then (laws_FnExactTakePacket.j2 kj111 t241 (t256 != t212) t242) else (laws_FnExactTakePacket.j2 kj111 t241 true t242))) else (laws_FnExactTakePacket.j2 kj111 t241 true t242))) = some r := H
           have HC197 := Aside0.mk H
           clear H
           have hnb198 := NB229_198.out
           have hnc198 := NB198_229.out
           have hnb199 := NB229_213.out
           have hnc199 := NB213_229.out
           have hnb200 := NB229_214.out
           have hnc200 := NB214_229.out
           have hnb201 := NB229_218.out
           have hnc201 := NB218_229.out
           have hnb202 := NB229_230.out
           have hnc202 := NB230_229.out
           obtain ⟨hcz203_0, hfz203_0⟩ := cc1 BK229
           go_upto_region 25 with (first | ((with_reducible refine gate_callee (f := 27) rfl ?_); refine gL (some 85) Try.func27 #[.agg #[.slice Ao39 t219.length co39], .int .i64 1] ?_; (with_reducible refine (laws_markQueue.calls kj111 (fun k_ => some k_ = (.slice Ao39 t219.length co39 : Value).ownBlock) (.slice Ao39 t219.length co39) t219 1 t241 t242 w _ ?side1 ?side2 A182.out).mono ?_); (case side1 => repeat (first | (with_reducible first | exact HB.out | apply below_alloc | apply pw_below_drewN | apply below_drew1 | refine below_set ?_ GE198.out | refine below_set ?_ GE213.out | refine below_set ?_ GE214.out | refine below_set ?_ GE218.out | refine below_set ?_ GE229.out | refine below_set ?_ GE230.out) | exact HB.out)); (case side2 => exact Kd.R_tight rfl HO_230000.out); rintro e w204 ⟨rfl, hy0, hb, hkp⟩; refine ⟨_, rfl, ?_⟩; replace HO_214000 := Aside0.mk (Kd.R_mono (ok' := fun k_ => some k_ ≠ (.slice Ao31 t238.length co31 : Value).ownBlock ∧ some k_ ≠ (.slice Ao39 t219.length co39 : Value).ownBlock ∧ k_ ≠ gb214 ∧ k_ ≠ gb230) (Kd.R_keptB (HO_214000.out) hkp (fun k_ hk_ hs_ => (by first | exact (hk_.2.1) hs_ | exact hk_ hs_ | exact hk_.1 hs_ | exact hk_.2 hs_ | exact hk_.1.1 hs_ | exact hk_.1.2 hs_ | exact hk_.1.1.1 hs_ | exact hk_.1.1.2 hs_))) (fun k_ hk_ => ⟨(ca hk_), (ca hk_), (ca hk_), (ca hk_)⟩)); replace HO_219000 := Aside0.mk (Kd.R_mono (ok' := fun k_ => some k_ ≠ (.slice Ao22 t203.length co22 : Value).ownBlock ∧ some k_ ≠ (.slice Ao39 t219.length co39 : Value).ownBlock ∧ k_ ≠ gb214 ∧ k_ ≠ gb230) (Kd.R_keptB (HO_219000.out) hkp (fun k_ hk_ hs_ => (by first | exact (hk_.2.1) hs_ | exact hk_ hs_ | exact hk_.1 hs_ | exact hk_.2 hs_ | exact hk_.1.1 hs_ | exact hk_.1.2 hs_ | exact hk_.1.1.1 hs_ | exact hk_.1.1.2 hs_))) (fun k_ hk_ => ⟨(ca hk_), (ca hk_), (ca hk_), (ca hk_)⟩)); replace BK198 := Aside0.mk (blk_kept (sk BK198) hkp (fun hs_ => (fun e_ => (Kd.R_ne HO_230000.out BK198.out (by decide)) e_) hs_)); replace BK213 := Aside0.mk (blk_kept (sk BK213) hkp (fun hs_ => (fun e_ => (Kd.R_ne HO_230000.out BK213.out (by decide)) e_) hs_)); replace BK214 := Aside0.mk (blk_kept (sk BK214) hkp (fun hs_ => (fun e_ => (Kd.R_away HO_230000.out (fun _ hk => hk.2.2.1)) e_) hs_)); replace BK218 := Aside0.mk (blk_kept (sk BK218) hkp (fun hs_ => (fun e_ => (Kd.R_ne HO_230000.out BK218.out (by decide)) e_) hs_)); replace BK229 := Aside0.mk (blk_kept (sk BK229) hkp (fun hs_ => (fun e_ => (Kd.R_ne HO_230000.out BK229.out (by decide)) e_) hs_)); replace BK230 := Aside0.mk (blk_kept (sk BK230) hkp (fun hs_ => (fun e_ => (Kd.R_away HO_230000.out (fun _ hk => hk.2.2.2)) e_) hs_)); replace HO_230000 := Aside0.mk (Kd.R_reok rfl hy0 (fun k_ e_ => HO_230000.out.1 k_ e_)); replace HB := Aside0.mk hb; (try clear hb); (try clear hkp); (try clear hy0); obtain ⟨hcz205_0, hfz205_0⟩ := cc1 BK229) | ((with_reducible refine gate_callee (f := 33) rfl ?_); refine goesL_ (some 88) rfl rfl Try.func33 (by kernel_rfl) rfl #[.agg #[.slice Ao39 t242.length co39], .int .i64 1] rfl (by (try simp only [List.map_toArray, List.map_cons, List.map_nil]); first | done | (rw [show t242.length = t219.length from (Kd.R_reads' HO_230000.out).1.symm] <;> rfl) | rfl | (simp only [List.length_drop, List.length_take]; rfl)) ?_; (with_reducible refine (laws_heldQueue.calls kj111 _ _ t242 1 t243 _ ?side1 ?side2 A183.out).mono ?_); (case side1 => repeat (first | exact (Kd.R_reads' HO_230000.out).2.2 | (with_reducible refine Kd.C_alloc ?_ _) | (with_reducible refine Kd.C_drewN ?_ _) | (with_reducible refine Kd.C_drew ?_))); (case side2 => rw [show t242.length = t219.length from (Kd.R_reads' HO_230000.out).1.symm]; exact (Kd.R_reads' HO_230000.out).2.1); rintro e w206 ⟨rfl, hb⟩; refine ⟨_, rfl, ?_⟩; replace HO_214000 := Aside0.mk (Kd.R_below (sr HO_214000) hb); replace HO_219000 := Aside0.mk (Kd.R_below (sr HO_219000) hb); replace HO_230000 := Aside0.mk (Kd.R_below (sr HO_230000) hb); replace BK198 := bb BK198 hb; replace BK213 := bb BK213 hb; replace BK214 := bb BK214 hb; replace BK218 := bb BK218 hb; replace BK229 := bb BK229 hb; replace BK230 := bb BK230 hb; replace HB := bsw hb; (try clear hb); (try clear hb2); (try clear hk); (try clear hi); have hnb207 := NB198_213.out; have hnc207 := NB213_198.out; have hnb208 := NB198_214.out; have hnc208 := NB214_198.out; have hnb209 := NB198_218.out; have hnc209 := NB218_198.out; have hnb210 := NB198_230.out; have hnc210 := NB230_198.out; obtain ⟨hcz211_0, hfz211_0⟩ := cc1 BK198) | ((with_reducible refine gate_callee (f := 23) rfl ?_); refine gL (some 96) Try.func23 #[.agg #[.slice A0_0 l0_0.length c0_0]] ?_; (with_reducible refine (laws_toQueue.calls kj111 _ _ l0_0 t244 _ ?side1 ?side2 A195.out).mono ?_); (case side1 => exact cb HR0_0); (case side2 => exact HC0_0.out); rintro e w212 ⟨v245, rfl, ho0, hb⟩; refine ⟨_, rfl, ?_⟩; have HO246 := Aside0.mk (Kd.R_lower (Kd.R_newB (Kd.R_newB (Kd.R_new' (Kd.R_new' (Kd.R_new' ho0 (Kd.R_lt (sr HO_214000))) (Kd.R_lt (sr HO_219000))) (Kd.R_lt (sr HO_230000))) (g := gb214) (o := .cells #[.int .i64 t206, .int .i64 t207, .int .i64 t208, .int .i64 t209, .int .i64 t210, .int .i64 t211] 49 (0, 0)) (sk BK214)) (g := gb230) (o := .cells #[.int .i64 t222, .int .i64 t223, .int .i64 t224, .int .i64 t225, .int .i64 t226, .int .i64 t227] 49 (0, 0)) (sk BK230)) (below_size (sbw))); replace HO_214000 := Aside0.mk (Kd.R_elder' (sr HO_214000) (Kd.R_base ho0) hb); replace HO_219000 := Aside0.mk (Kd.R_elder' (sr HO_219000) (Kd.R_base ho0) hb); replace HO_230000 := Aside0.mk (Kd.R_elder' (sr HO_230000) (Kd.R_base ho0) hb); replace BK198 := bb BK198 hb; replace BK213 := bb BK213 hb; replace BK214 := bb BK214 hb; replace BK218 := bb BK218 hb; replace BK229 := bb BK229 hb; replace BK230 := bb BK230 hb; replace HB := bsw hb; (try clear hb); (try clear hb2); (try clear hk); (try clear hi); (try clear ho0); obtain ⟨Ao213, co213, eo213⟩ := Kd.R_slice HO246.out; subst eo213) | ((with_reducible refine gate_callee (f := 31) rfl ?_); refine gL (some 98) Try.func31 #[.agg #[.slice Ao213 t244.length co213], .int .i64 a1] ?_; (with_reducible refine (impl_TakePacket.calls _ _ t244 a1 t247 t250 t251 t252 t253 t254 t255 t256 _ ?side1 ?side2 A196.out).mono ?_); (case side1 => repeat (first | exact (Kd.R_reads' HO246.out).2.2 | (with_reducible refine Kd.C_alloc ?_ _) | (with_reducible refine Kd.C_drewN ?_ _) | (with_reducible refine Kd.C_drew ?_))); (case side2 => exact (Kd.R_reads' HO246.out).2.1); rintro e w214 ⟨v248, rfl, ho0, hb⟩; refine ⟨_, rfl, ?_⟩; have HO249 := Aside0.mk (Kd.R_lower (Kd.R_newB (Kd.R_newB (Kd.R_new' (Kd.R_new' (Kd.R_new' (Kd.R_new' ho0 (Kd.R_lt (sr HO_214000))) (Kd.R_lt (sr HO_219000))) (Kd.R_lt (sr HO_230000))) (Kd.R_lt (sr HO246))) (g := gb214) (o := .cells #[.int .i64 t206, .int .i64 t207, .int .i64 t208, .int .i64 t209, .int .i64 t210, .int .i64 t211] 49 (0, 0)) (sk BK214)) (g := gb230) (o := .cells #[.int .i64 t222, .int .i64 t223, .int .i64 t224, .int .i64 t225, .int .i64 t226, .int .i64 t227] 49 (0, 0)) (sk BK230)) (below_size (sbw))); replace HO_214000 := Aside0.mk (Kd.R_elder' (sr HO_214000) (Kd.R_base ho0) hb); replace HO_219000 := Aside0.mk (Kd.R_elder' (sr HO_219000) (Kd.R_base ho0) hb); replace HO_230000 := Aside0.mk (Kd.R_elder' (sr HO_230000) (Kd.R_base ho0) hb); replace HO246 := Aside0.mk (Kd.R_elder' (sr HO246) (Kd.R_base ho0) hb); replace BK198 := bb BK198 hb; replace BK213 := bb BK213 hb; replace BK214 := bb BK214 hb; replace BK218 := bb BK218 hb; replace BK229 := bb BK229 hb; replace BK230 := bb BK230 hb; replace HB := bsw hb; (try clear hb); (try clear hb2); (try clear hk); (try clear hi); (try clear ho0)) | ((with_reducible refine gate_dst (N := 16) rfl ?_); refine bx 16 #[.slice none 0 0] 41 ?_; intro gb257 hg w215 hbox hb; replace HO_214000 := Aside0.mk (Kd.R_below (sr HO_214000) hb); replace HO_219000 := Aside0.mk (Kd.R_below (sr HO_219000) hb); replace HO_230000 := Aside0.mk (Kd.R_below (sr HO_230000) hb); replace HO246 := Aside0.mk (Kd.R_below (sr HO246) hb); replace HO249 := Aside0.mk (Kd.R_below (sr HO249) hb); have GW257 := bzw w hg; have GE257 := bzw w hg; replace HB := bsw hb; have BK257 := Aside0.mk hbox; have NB198_257 := nl BK198 hg; have NB257_198 := ng BK198 hg; replace BK198 := bb BK198 hb; have NB213_257 := nl BK213 hg; have NB257_213 := ng BK213 hg; replace BK213 := bb BK213 hb; have NB214_257 := nl BK214 hg; have NB257_214 := ng BK214 hg; replace BK214 := bb BK214 hb; have NB218_257 := nl BK218 hg; have NB257_218 := ng BK218 hg; replace BK218 := bb BK218 hb; have NB229_257 := nl BK229 hg; have NB257_229 := ng BK229 hg; replace BK229 := bb BK229 hb; have NB230_257 := nl BK230 hg; have NB257_230 := ng BK230 hg; replace BK230 := bb BK230 hb; clear hb hbox hg) | ((with_reducible refine gate_dst (N := 17) rfl ?_); refine bx 17 #[.int .i64 0, .int .i64 0, .int .i64 0, .int .i64 0, .int .i64 0, .int .i64 0] 49 ?_; intro gb258 hg w216 hbox hb; replace HO_214000 := Aside0.mk (Kd.R_below (Kd.R_elderB (sr HO_214000) gb258 (Nat.le_of_eq hg.symm)) hb); replace HO_219000 := Aside0.mk (Kd.R_below (Kd.R_elderB (sr HO_219000) gb258 (Nat.le_of_eq hg.symm)) hb); replace HO_230000 := Aside0.mk (Kd.R_below (Kd.R_elderB (sr HO_230000) gb258 (Nat.le_of_eq hg.symm)) hb); replace HO246 := Aside0.mk (Kd.R_below (Kd.R_elderB (sr HO246) gb258 (Nat.le_of_eq hg.symm)) hb); replace HO249 := Aside0.mk (Kd.R_below (Kd.R_elderB (sr HO249) gb258 (Nat.le_of_eq hg.symm)) hb); have GW258 := bzw w hg; have GE258 := bzw w hg; replace HB := bsw hb; have BK258 := Aside0.mk hbox; have NB198_258 := nl BK198 hg; have NB258_198 := ng BK198 hg; replace BK198 := bb BK198 hb; have NB213_258 := nl BK213 hg; have NB258_213 := ng BK213 hg; replace BK213 := bb BK213 hb; have NB214_258 := nl BK214 hg; have NB258_214 := ng BK214 hg; replace BK214 := bb BK214 hb; have NB218_258 := nl BK218 hg; have NB258_218 := ng BK218 hg; replace BK218 := bb BK218 hb; have NB229_258 := nl BK229 hg; have NB258_229 := ng BK229 hg; replace BK229 := bb BK229 hb; have NB230_258 := nl BK230 hg; have NB258_230 := ng BK230 hg; replace BK230 := bb BK230 hb; have NB257_258 := nl BK257 hg; have NB258_257 := ng BK257 hg; replace BK257 := bb BK257 hb; clear hb hbox hg; obtain ⟨Ao217, co217, eo217⟩ := Kd.R_slice HO249.out; subst eo217; have hnb218 := NB257_198.out; have hnc218 := NB198_257.out; have hnb219 := NB257_213.out; have hnc219 := NB213_257.out; have hnb220 := NB257_214.out; have hnc220 := NB214_257.out; have hnb221 := NB257_218.out; have hnc221 := NB218_257.out; have hnb222 := NB257_229.out; have hnc222 := NB229_257.out; have hnb223 := NB257_230.out; have hnc223 := NB230_257.out; have hnb224 := NB257_258.out; have hnc224 := NB258_257.out; obtain ⟨hcz225_0, hfz225_0⟩ := cc1 BK257; have hnb226 := NB258_198.out; have hnc226 := NB198_258.out; have hnb227 := NB258_213.out; have hnc227 := NB213_258.out; have hnb228 := NB258_214.out; have hnc228 := NB214_258.out; have hnb229 := NB258_218.out; have hnc229 := NB218_258.out; have hnb230 := NB258_229.out; have hnc230 := NB229_258.out; have hnb231 := NB258_230.out; have hnc231 := NB230_258.out; obtain ⟨hcz232_0, hcz232_1, hcz232_2, hcz232_3, hcz232_4, hcz232_5, hfz232_0, hfz232_1, hfz232_2, hfz232_3, hfz232_4, hfz232_5⟩ := cc6 BK258))
           (try simp only [Act.put, List.setIfInBounds_toArray, List.set_cons_zero, List.set_cons_succ])
           go_cut [116] (fun v116 wc => ∃ (kq : Nat) (x116_196 : Bool), v116 = .bool x116_196 ∧ Aside0 (laws_FnExactTakePacket.j2 kq t241 x116_196 t242 = some r) ∧ Aside0 (kq ≤ kj111) ∧ Aside0 (Kd.R k49 49 wc w.heap.size (fun k_ => some k_ ≠ ((.slice Ao31 t238.length co31) : Value).ownBlock ∧ some k_ ≠ ((.slice Ao39 t219.length co39) : Value).ownBlock ∧ some k_ ≠ ((.slice Ao217 t247.length co217) : Value).ownBlock ∧ k_ ≠ gb214 ∧ k_ ≠ gb230 ∧ k_ ≠ gb258) (.slice Ao22 t203.length co22) t203) ∧ Aside0 (Kd.R k49 49 wc w.heap.size (fun k_ => some k_ ≠ ((.slice Ao22 t203.length co22) : Value).ownBlock ∧ some k_ ≠ ((.slice Ao39 t219.length co39) : Value).ownBlock ∧ some k_ ≠ ((.slice Ao217 t247.length co217) : Value).ownBlock ∧ k_ ≠ gb214 ∧ k_ ≠ gb230 ∧ k_ ≠ gb258) (.slice Ao31 t238.length co31) t238) ∧ Aside0 (Kd.R k49 49 wc w.heap.size (fun k_ => some k_ ≠ ((.slice Ao22 t203.length co22) : Value).ownBlock ∧ some k_ ≠ ((.slice Ao31 t238.length co31) : Value).ownBlock ∧ some k_ ≠ ((.slice Ao217 t247.length co217) : Value).ownBlock ∧ k_ ≠ gb214 ∧ k_ ≠ gb230 ∧ k_ ≠ gb258) (.slice Ao39 t219.length co39) t242) ∧ Aside0 (Kd.R k49 49 wc w.heap.size (fun k_ => some k_ ≠ ((.slice Ao22 t203.length co22) : Value).ownBlock ∧ some k_ ≠ ((.slice Ao31 t238.length co31) : Value).ownBlock ∧ some k_ ≠ ((.slice Ao39 t219.length co39) : Value).ownBlock ∧ k_ ≠ gb214 ∧ k_ ≠ gb230 ∧ k_ ≠ gb258) (.slice Ao217 t247.length co217) t247) ∧ Aside0 (wc.heap[gb198]? = some (.cells #[(.slice A0_0 l0_0.length c0_0)] 35 (0, 0))) ∧ Aside0 (wc.heap[gb213]? = some (.cells #[(.slice Ao22 t203.length co22)] 41 (0, 0))) ∧ Aside0 (wc.heap[gb214]? = some (.cells #[.int .i64 t206, .int .i64 t207, .int .i64 t208, .int .i64 t209, .int .i64 t210, .int .i64 t211] 49 (0, 0))) ∧ Aside0 (wc.heap[gb218]? = some (.cells #[(.slice Ao31 t238.length co31)] 41 (0, 0))) ∧ Aside0 (wc.heap[gb229]? = some (.cells #[(.slice Ao39 t219.length co39)] 41 (0, 0))) ∧ Aside0 (wc.heap[gb230]? = some (.cells #[.int .i64 t222, .int .i64 t223, .int .i64 t224, .int .i64 t225, .int .i64 t226, .int .i64 t227] 49 (0, 0))) ∧ Aside0 (wc.heap[gb257]? = some (.cells #[(.slice Ao217 t247.length co217)] 41 (0, 0))) ∧ Aside0 (wc.heap[gb258]? = some (.cells #[.int .i64 t250, .int .i64 t251, .int .i64 t252, .int .i64 t253, .int .i64 t254, .int .i64 t255] 49 (0, 0))) ∧ Aside0 (Below w.heap.size w wc))
           case first =>
            have H := HC197.out
            clear HC197
            obtain ⟨t259, A233, H⟩ := bnd H
            obtain rfl | rfl := tt t259
            ·replace H := ip H
             obtain ⟨t260, A235, H⟩ := bnd H
             obtain rfl | rfl := tt t260
             ·replace H := ip H
              have H' := Aside0.mk H
              clear H
              have hnb237 := NB257_198.out
              have hnc237 := NB198_257.out
              have hnb238 := NB257_213.out
              have hnc238 := NB213_257.out
              have hnb239 := NB257_214.out
              have hnc239 := NB214_257.out
              have hnb240 := NB257_218.out
              have hnc240 := NB218_257.out
              have hnb241 := NB257_229.out
              have hnc241 := NB229_257.out
              have hnb242 := NB257_230.out
              have hnc242 := NB230_257.out
              have hnb243 := NB257_258.out
              have hnc243 := NB258_257.out
              obtain ⟨hcz244_0, hfz244_0⟩ := cc1 BK257
              have hnb245 := NB213_198.out
              have hnc245 := NB198_213.out
              have hnb246 := NB213_214.out
              have hnc246 := NB214_213.out
              have hnb247 := NB213_218.out
              have hnc247 := NB218_213.out
              have hnb248 := NB213_229.out
              have hnc248 := NB229_213.out
              have hnb249 := NB213_230.out
              have hnc249 := NB230_213.out
              have hnb250 := NB213_258.out
              have hnc250 := NB258_213.out
              obtain ⟨hcz251_0, hfz251_0⟩ := cc1 BK213
              go_wp2_with (first | ((with_reducible refine gate_callee (f := 26) rfl ?_); refine gL (some 104) Try.func26 #[.agg #[.slice Ao217 t247.length co217], .agg #[.slice Ao22 t203.length co22]] ?_; (with_reducible refine (laws_eqQueue.calls kj111 _ _ t247 _ _ t203 true _ ?side1 ?side2 ?side3 ?side4 A233.out).mono ?_); (case side1 => refine (Kd.R_reads' (e := 49) (base := w.heap.size) (ok := fun k_ => (((((((True ∧ some k_ ≠ (.slice Ao22 t203.length co22 : Value).ownBlock) ∧ some k_ ≠ (.slice Ao31 t238.length co31 : Value).ownBlock) ∧ some k_ ≠ (.slice Ao39 t219.length co39 : Value).ownBlock) ∧ some k_ ≠ (.slice Ao213 t244.length co213 : Value).ownBlock) ∧ k_ ≠ gb214) ∧ k_ ≠ gb230) ∧ k_ ≠ gb258)) (n := t247.length) (c := co217) ?_).2.2; exact (by (with_reducible repeat (first | apply Kd.R_alloc | apply Kd.R_drewN | apply Kd.R_drew)); exact (Kd.R_mono (Kd.R_mono (Kd.R_far (p := ⟨gb258, 5, none⟩) (Kd.R_far (p := ⟨gb258, 4, none⟩) (Kd.R_far (p := ⟨gb258, 3, none⟩) (Kd.R_far (p := ⟨gb258, 2, none⟩) (Kd.R_far (p := ⟨gb258, 1, none⟩) (Kd.R_far (p := ⟨gb258, 0, none⟩) (Kd.R_far (p := ⟨gb257, 0, none⟩) (Kd.R_mono (Kd.R_types HO249.out BK257.out (by decide)) (fun k_ hk => (⟨hk, hk.1.2⟩ : _ ∧ k_ ≠ gb258))) (fun _ hk => hk.1.2) (.slice Ao217 t247.length co217)) (fun _ hk => hk.2) (.int .i64 t250)) (fun _ hk => hk.2) (.int .i64 t251)) (fun _ hk => hk.2) (.int .i64 t252)) (fun _ hk => hk.2) (.int .i64 t253)) (fun _ hk => hk.2) (.int .i64 t254)) (fun _ hk => hk.2) (.int .i64 t255)) (fun _ h_ => h_.1)) (fun _ h_ => h_.1)))); (case side2 => exact (Kd.R_reads' HO249.out).2.1); (case side3 => refine (Kd.R_reads' (e := 49) (base := w.heap.size) (ok := fun k_ => ((((some k_ ≠ (.slice Ao31 t238.length co31 : Value).ownBlock ∧ (some k_ ≠ (.slice Ao39 t219.length co39 : Value).ownBlock ∧ (k_ ≠ gb214 ∧ k_ ≠ gb230))) ∧ some k_ ≠ (.slice Ao213 t244.length co213 : Value).ownBlock) ∧ some k_ ≠ (.slice Ao217 t247.length co217 : Value).ownBlock) ∧ k_ ≠ gb258)) (n := t203.length) (c := co22) ?_).2.2; exact (by (with_reducible repeat (first | apply Kd.R_alloc | apply Kd.R_drewN | apply Kd.R_drew)); exact (Kd.R_mono (Kd.R_mono (Kd.R_far (p := ⟨gb258, 5, none⟩) (Kd.R_far (p := ⟨gb258, 4, none⟩) (Kd.R_far (p := ⟨gb258, 3, none⟩) (Kd.R_far (p := ⟨gb258, 2, none⟩) (Kd.R_far (p := ⟨gb258, 1, none⟩) (Kd.R_far (p := ⟨gb258, 0, none⟩) (Kd.R_far (p := ⟨gb257, 0, none⟩) (Kd.R_mono (Kd.R_types HO_214000.out BK257.out (by decide)) (fun k_ hk => (⟨hk, hk.1.2⟩ : _ ∧ k_ ≠ gb258))) (fun _ hk => hk.1.2) (.slice Ao217 t247.length co217)) (fun _ hk => hk.2) (.int .i64 t250)) (fun _ hk => hk.2) (.int .i64 t251)) (fun _ hk => hk.2) (.int .i64 t252)) (fun _ hk => hk.2) (.int .i64 t253)) (fun _ hk => hk.2) (.int .i64 t254)) (fun _ hk => hk.2) (.int .i64 t255)) (fun _ h_ => h_.1)) (fun _ h_ => h_.1)))); (case side4 => exact (Kd.R_reads' HO_214000.out).2.1); rintro e w252 ⟨rfl, hb⟩; refine ⟨_, rfl, ?_⟩; replace HO_214000 := Aside0.mk (Kd.R_below (by (with_reducible repeat (first | apply Kd.R_alloc | apply Kd.R_drewN | apply Kd.R_drew)); exact (Kd.R_mono (Kd.R_mono (Kd.R_far (p := ⟨gb258, 5, none⟩) (Kd.R_far (p := ⟨gb258, 4, none⟩) (Kd.R_far (p := ⟨gb258, 3, none⟩) (Kd.R_far (p := ⟨gb258, 2, none⟩) (Kd.R_far (p := ⟨gb258, 1, none⟩) (Kd.R_far (p := ⟨gb258, 0, none⟩) (Kd.R_far (p := ⟨gb257, 0, none⟩) (Kd.R_mono (Kd.R_types HO_214000.out BK257.out (by decide)) (fun k_ hk => (⟨hk, hk.1.2⟩ : _ ∧ k_ ≠ gb258))) (fun _ hk => hk.1.2) (.slice Ao217 t247.length co217)) (fun _ hk => hk.2) (.int .i64 t250)) (fun _ hk => hk.2) (.int .i64 t251)) (fun _ hk => hk.2) (.int .i64 t252)) (fun _ hk => hk.2) (.int .i64 t253)) (fun _ hk => hk.2) (.int .i64 t254)) (fun _ hk => hk.2) (.int .i64 t255)) (fun _ h_ => h_.1)) (fun _ h_ => h_.1))) hb); replace HO_219000 := Aside0.mk (Kd.R_below (by (with_reducible repeat (first | apply Kd.R_alloc | apply Kd.R_drewN | apply Kd.R_drew)); exact (Kd.R_mono (Kd.R_mono (Kd.R_far (p := ⟨gb258, 5, none⟩) (Kd.R_far (p := ⟨gb258, 4, none⟩) (Kd.R_far (p := ⟨gb258, 3, none⟩) (Kd.R_far (p := ⟨gb258, 2, none⟩) (Kd.R_far (p := ⟨gb258, 1, none⟩) (Kd.R_far (p := ⟨gb258, 0, none⟩) (Kd.R_far (p := ⟨gb257, 0, none⟩) (Kd.R_mono (Kd.R_types HO_219000.out BK257.out (by decide)) (fun k_ hk => (⟨hk, hk.1.2⟩ : _ ∧ k_ ≠ gb258))) (fun _ hk => hk.1.2) (.slice Ao217 t247.length co217)) (fun _ hk => hk.2) (.int .i64 t250)) (fun _ hk => hk.2) (.int .i64 t251)) (fun _ hk => hk.2) (.int .i64 t252)) (fun _ hk => hk.2) (.int .i64 t253)) (fun _ hk => hk.2) (.int .i64 t254)) (fun _ hk => hk.2) (.int .i64 t255)) (fun _ h_ => h_.1)) (fun _ h_ => h_.1))) hb); replace HO_230000 := Aside0.mk (Kd.R_below (by (with_reducible repeat (first | apply Kd.R_alloc | apply Kd.R_drewN | apply Kd.R_drew)); exact (Kd.R_mono (Kd.R_mono (Kd.R_far (p := ⟨gb258, 5, none⟩) (Kd.R_far (p := ⟨gb258, 4, none⟩) (Kd.R_far (p := ⟨gb258, 3, none⟩) (Kd.R_far (p := ⟨gb258, 2, none⟩) (Kd.R_far (p := ⟨gb258, 1, none⟩) (Kd.R_far (p := ⟨gb258, 0, none⟩) (Kd.R_far (p := ⟨gb257, 0, none⟩) (Kd.R_mono (Kd.R_types HO_230000.out BK257.out (by decide)) (fun k_ hk => (⟨hk, hk.1.2⟩ : _ ∧ k_ ≠ gb258))) (fun _ hk => hk.1.2) (.slice Ao217 t247.length co217)) (fun _ hk => hk.2) (.int .i64 t250)) (fun _ hk => hk.2) (.int .i64 t251)) (fun _ hk => hk.2) (.int .i64 t252)) (fun _ hk => hk.2) (.int .i64 t253)) (fun _ hk => hk.2) (.int .i64 t254)) (fun _ hk => hk.2) (.int .i64 t255)) (fun _ h_ => h_.1)) (fun _ h_ => h_.1))) hb); replace HO246 := Aside0.mk (Kd.R_below (by (with_reducible repeat (first | apply Kd.R_alloc | apply Kd.R_drewN | apply Kd.R_drew)); exact (Kd.R_mono (Kd.R_mono (Kd.R_far (p := ⟨gb258, 5, none⟩) (Kd.R_far (p := ⟨gb258, 4, none⟩) (Kd.R_far (p := ⟨gb258, 3, none⟩) (Kd.R_far (p := ⟨gb258, 2, none⟩) (Kd.R_far (p := ⟨gb258, 1, none⟩) (Kd.R_far (p := ⟨gb258, 0, none⟩) (Kd.R_far (p := ⟨gb257, 0, none⟩) (Kd.R_mono (Kd.R_types HO246.out BK257.out (by decide)) (fun k_ hk => (⟨hk, hk.1.2⟩ : _ ∧ k_ ≠ gb258))) (fun _ hk => hk.1.2) (.slice Ao217 t247.length co217)) (fun _ hk => hk.2) (.int .i64 t250)) (fun _ hk => hk.2) (.int .i64 t251)) (fun _ hk => hk.2) (.int .i64 t252)) (fun _ hk => hk.2) (.int .i64 t253)) (fun _ hk => hk.2) (.int .i64 t254)) (fun _ hk => hk.2) (.int .i64 t255)) (fun _ h_ => h_.1)) (fun _ h_ => h_.1))) hb); replace HO249 := Aside0.mk (Kd.R_below (by (with_reducible repeat (first | apply Kd.R_alloc | apply Kd.R_drewN | apply Kd.R_drew)); exact (Kd.R_mono (Kd.R_mono (Kd.R_far (p := ⟨gb258, 5, none⟩) (Kd.R_far (p := ⟨gb258, 4, none⟩) (Kd.R_far (p := ⟨gb258, 3, none⟩) (Kd.R_far (p := ⟨gb258, 2, none⟩) (Kd.R_far (p := ⟨gb258, 1, none⟩) (Kd.R_far (p := ⟨gb258, 0, none⟩) (Kd.R_far (p := ⟨gb257, 0, none⟩) (Kd.R_mono (Kd.R_types HO249.out BK257.out (by decide)) (fun k_ hk => (⟨hk, hk.1.2⟩ : _ ∧ k_ ≠ gb258))) (fun _ hk => hk.1.2) (.slice Ao217 t247.length co217)) (fun _ hk => hk.2) (.int .i64 t250)) (fun _ hk => hk.2) (.int .i64 t251)) (fun _ hk => hk.2) (.int .i64 t252)) (fun _ hk => hk.2) (.int .i64 t253)) (fun _ hk => hk.2) (.int .i64 t254)) (fun _ hk => hk.2) (.int .i64 t255)) (fun _ h_ => h_.1)) (fun _ h_ => h_.1))) hb); replace BK198 := Aside0.mk (blk_below (g := gb198) (o := .cells #[.slice A0_0 l0_0.length c0_0] 35 (0, 0)) (sp BK198) hb); replace BK213 := Aside0.mk (blk_below (g := gb213) (o := .cells #[.slice Ao22 t203.length co22] 41 (0, 0)) (sp BK213) hb); replace BK214 := Aside0.mk (blk_below (g := gb214) (o := .cells #[.int .i64 t206, .int .i64 t207, .int .i64 t208, .int .i64 t209, .int .i64 t210, .int .i64 t211] 49 (0, 0)) (sp BK214) hb); replace BK218 := Aside0.mk (blk_below (g := gb218) (o := .cells #[.slice Ao31 t238.length co31] 41 (0, 0)) (sp BK218) hb); replace BK229 := Aside0.mk (blk_below (g := gb229) (o := .cells #[.slice Ao39 t219.length co39] 41 (0, 0)) (sp BK229) hb); replace BK230 := Aside0.mk (blk_below (g := gb230) (o := .cells #[.int .i64 t222, .int .i64 t223, .int .i64 t224, .int .i64 t225, .int .i64 t226, .int .i64 t227] 49 (0, 0)) (sp BK230) hb); replace BK257 := Aside0.mk (blk_below (g := gb257) (o := .cells #[.slice Ao217 t247.length co217] 41 (0, 0)) (sp BK257) hb); replace BK258 := Aside0.mk (blk_below (g := gb258) (o := .cells #[.int .i64 t250, .int .i64 t251, .int .i64 t252, .int .i64 t253, .int .i64 t254, .int .i64 t255] 49 (0, 0)) (sp BK258) hb); replace HB := bsw hb; (try clear hb); (try clear hb2); (try clear hk); (try clear hi); have hnb253 := NB258_198.out; have hnc253 := NB198_258.out; have hnb254 := NB258_214.out; have hnc254 := NB214_258.out; have hnb255 := NB258_218.out; have hnc255 := NB218_258.out; have hnb256 := NB258_229.out; have hnc256 := NB229_258.out; have hnb257 := NB258_230.out; have hnc257 := NB230_258.out; obtain ⟨hcz258_0, hcz258_1, hcz258_2, hcz258_3, hcz258_4, hcz258_5, hfz258_0, hfz258_1, hfz258_2, hfz258_3, hfz258_4, hfz258_5⟩ := cc6 BK258; have hnb259 := NB214_198.out; have hnc259 := NB198_214.out; have hnb260 := NB214_218.out; have hnc260 := NB218_214.out; have hnb261 := NB214_229.out; have hnc261 := NB229_214.out; have hnb262 := NB214_230.out; have hnc262 := NB230_214.out; obtain ⟨hcz263_0, hcz263_1, hcz263_2, hcz263_3, hcz263_4, hcz263_5, hfz263_0, hfz263_1, hfz263_2, hfz263_3, hfz263_4, hfz263_5⟩ := cc6 BK214) | (go_at_call 32; (with_reducible refine (laws_eqPacket.calls t250 t251 t252 t253 t254 t255 t206 t207 t208 t209 t210 t211 true _ A235.out).mono ?_); rintro e w264 ⟨rfl, hb⟩; replace HO_214000 := Aside0.mk (Kd.R_below (sr HO_214000) hb); replace HO_219000 := Aside0.mk (Kd.R_below (sr HO_219000) hb); replace HO_230000 := Aside0.mk (Kd.R_below (sr HO_230000) hb); replace HO246 := Aside0.mk (Kd.R_below (sr HO246) hb); replace HO249 := Aside0.mk (Kd.R_below (sr HO249) hb); replace BK198 := bb BK198 hb; replace BK213 := bb BK213 hb; replace BK214 := bb BK214 hb; replace BK218 := bb BK218 hb; replace BK229 := bb BK229 hb; replace BK230 := bb BK230 hb; replace BK257 := bb BK257 hb; replace BK258 := bb BK258 hb; replace HB := bsw hb; (try clear hb); (try clear hb2); (try clear hk); (try clear hi)))
              go_meet
              case rel => exact ⟨_, ((t256 != t212)), sc, H', ⟨by have := HJ11.out; have := HJ111.out; first | omega | exact Nat.le_refl _⟩, ⟨by (try simp only [hl219000_111]); (with_reducible repeat (first | apply Kd.R_alloc | apply Kd.R_drewN | apply Kd.R_drew)); exact Kd.R_mono HO_214000.out (fun _ hk => ⟨hk.1.1.1.1, ⟨hk.1.1.1.2.1, ⟨hk.1.2, ⟨hk.1.1.1.2.2.1, ⟨hk.1.1.1.2.2.2, hk.2⟩⟩⟩⟩⟩)⟩, ⟨by (try simp only [hl219000_111]); (with_reducible repeat (first | apply Kd.R_alloc | apply Kd.R_drewN | apply Kd.R_drew)); exact Kd.R_mono HO_219000.out (fun _ hk => ⟨hk.1.1.1.1, ⟨hk.1.1.1.2.1, ⟨hk.1.2, ⟨hk.1.1.1.2.2.1, ⟨hk.1.1.1.2.2.2, hk.2⟩⟩⟩⟩⟩)⟩, ⟨by (try simp only [hl219000_111]); (with_reducible repeat (first | apply Kd.R_alloc | apply Kd.R_drewN | apply Kd.R_drew)); exact Kd.R_mono HO_230000.out (fun _ hk => ⟨hk.1.1.1.1, ⟨hk.1.1.1.2.1, ⟨hk.1.2, ⟨hk.1.1.1.2.2.1, ⟨hk.1.1.1.2.2.2, hk.2⟩⟩⟩⟩⟩)⟩, ⟨by (try simp only [hl219000_111]); (with_reducible repeat (first | apply Kd.R_alloc | apply Kd.R_drewN | apply Kd.R_drew)); exact Kd.R_mono HO249.out (fun _ hk => ⟨hk.1.1.1.1.1.1.2, ⟨hk.1.1.1.1.1.2, ⟨hk.1.1.1.1.2, ⟨hk.1.1.2, ⟨hk.1.2, hk.2⟩⟩⟩⟩⟩)⟩, ⟨by (try simp only [hl219000_111]); (with_reducible repeat (first | refine blk_drewN ?_ _ | refine blk_drew ?_ | refine blk_alloc ?_ _)); exact BK198.out⟩, ⟨by (try simp only [hl219000_111]); (with_reducible repeat (first | refine blk_drewN ?_ _ | refine blk_drew ?_ | refine blk_alloc ?_ _)); exact BK213.out⟩, ⟨by (try simp only [hl219000_111]); (with_reducible repeat (first | refine blk_drewN ?_ _ | refine blk_drew ?_ | refine blk_alloc ?_ _)); exact BK214.out⟩, ⟨by (try simp only [hl219000_111]); (with_reducible repeat (first | refine blk_drewN ?_ _ | refine blk_drew ?_ | refine blk_alloc ?_ _)); exact BK218.out⟩, ⟨by (try simp only [hl219000_111]); (with_reducible repeat (first | refine blk_drewN ?_ _ | refine blk_drew ?_ | refine blk_alloc ?_ _)); exact BK229.out⟩, ⟨by (try simp only [hl219000_111]); (with_reducible repeat (first | refine blk_drewN ?_ _ | refine blk_drew ?_ | refine blk_alloc ?_ _)); exact BK230.out⟩, ⟨by (try simp only [hl219000_111]); (with_reducible repeat (first | refine blk_drewN ?_ _ | refine blk_drew ?_ | refine blk_alloc ?_ _)); exact BK257.out⟩, ⟨by (try simp only [hl219000_111]); (with_reducible repeat (first | refine blk_drewN ?_ _ | refine blk_drew ?_ | refine blk_alloc ?_ _)); exact BK258.out⟩, ⟨sbw⟩⟩
             ·replace H := im H
              have H' := Aside0.mk H
              clear H
              have hnb265 := NB257_198.out
              have hnc265 := NB198_257.out
              have hnb266 := NB257_213.out
              have hnc266 := NB213_257.out
              have hnb267 := NB257_214.out
              have hnc267 := NB214_257.out
              have hnb268 := NB257_218.out
              have hnc268 := NB218_257.out
              have hnb269 := NB257_229.out
              have hnc269 := NB229_257.out
              have hnb270 := NB257_230.out
              have hnc270 := NB230_257.out
              have hnb271 := NB257_258.out
              have hnc271 := NB258_257.out
              obtain ⟨hcz272_0, hfz272_0⟩ := cc1 BK257
              have hnb273 := NB213_198.out
              have hnc273 := NB198_213.out
              have hnb274 := NB213_214.out
              have hnc274 := NB214_213.out
              have hnb275 := NB213_218.out
              have hnc275 := NB218_213.out
              have hnb276 := NB213_229.out
              have hnc276 := NB229_213.out
              have hnb277 := NB213_230.out
              have hnc277 := NB230_213.out
              have hnb278 := NB213_258.out
              have hnc278 := NB258_213.out
              obtain ⟨hcz279_0, hfz279_0⟩ := cc1 BK213
              go_wp2_with (first | ((with_reducible refine gate_callee (f := 26) rfl ?_); refine gL (some 104) Try.func26 #[.agg #[.slice Ao217 t247.length co217], .agg #[.slice Ao22 t203.length co22]] ?_; (with_reducible refine (laws_eqQueue.calls kj111 _ _ t247 _ _ t203 true _ ?side1 ?side2 ?side3 ?side4 A233.out).mono ?_); (case side1 => refine (Kd.R_reads' (e := 49) (base := w.heap.size) (ok := fun k_ => (((((((True ∧ some k_ ≠ (.slice Ao22 t203.length co22 : Value).ownBlock) ∧ some k_ ≠ (.slice Ao31 t238.length co31 : Value).ownBlock) ∧ some k_ ≠ (.slice Ao39 t219.length co39 : Value).ownBlock) ∧ some k_ ≠ (.slice Ao213 t244.length co213 : Value).ownBlock) ∧ k_ ≠ gb214) ∧ k_ ≠ gb230) ∧ k_ ≠ gb258)) (n := t247.length) (c := co217) ?_).2.2; exact (by (with_reducible repeat (first | apply Kd.R_alloc | apply Kd.R_drewN | apply Kd.R_drew)); exact (Kd.R_mono (Kd.R_mono (Kd.R_far (p := ⟨gb258, 5, none⟩) (Kd.R_far (p := ⟨gb258, 4, none⟩) (Kd.R_far (p := ⟨gb258, 3, none⟩) (Kd.R_far (p := ⟨gb258, 2, none⟩) (Kd.R_far (p := ⟨gb258, 1, none⟩) (Kd.R_far (p := ⟨gb258, 0, none⟩) (Kd.R_far (p := ⟨gb257, 0, none⟩) (Kd.R_mono (Kd.R_types HO249.out BK257.out (by decide)) (fun k_ hk => (⟨hk, hk.1.2⟩ : _ ∧ k_ ≠ gb258))) (fun _ hk => hk.1.2) (.slice Ao217 t247.length co217)) (fun _ hk => hk.2) (.int .i64 t250)) (fun _ hk => hk.2) (.int .i64 t251)) (fun _ hk => hk.2) (.int .i64 t252)) (fun _ hk => hk.2) (.int .i64 t253)) (fun _ hk => hk.2) (.int .i64 t254)) (fun _ hk => hk.2) (.int .i64 t255)) (fun _ h_ => h_.1)) (fun _ h_ => h_.1)))); (case side2 => exact (Kd.R_reads' HO249.out).2.1); (case side3 => refine (Kd.R_reads' (e := 49) (base := w.heap.size) (ok := fun k_ => ((((some k_ ≠ (.slice Ao31 t238.length co31 : Value).ownBlock ∧ (some k_ ≠ (.slice Ao39 t219.length co39 : Value).ownBlock ∧ (k_ ≠ gb214 ∧ k_ ≠ gb230))) ∧ some k_ ≠ (.slice Ao213 t244.length co213 : Value).ownBlock) ∧ some k_ ≠ (.slice Ao217 t247.length co217 : Value).ownBlock) ∧ k_ ≠ gb258)) (n := t203.length) (c := co22) ?_).2.2; exact (by (with_reducible repeat (first | apply Kd.R_alloc | apply Kd.R_drewN | apply Kd.R_drew)); exact (Kd.R_mono (Kd.R_mono (Kd.R_far (p := ⟨gb258, 5, none⟩) (Kd.R_far (p := ⟨gb258, 4, none⟩) (Kd.R_far (p := ⟨gb258, 3, none⟩) (Kd.R_far (p := ⟨gb258, 2, none⟩) (Kd.R_far (p := ⟨gb258, 1, none⟩) (Kd.R_far (p := ⟨gb258, 0, none⟩) (Kd.R_far (p := ⟨gb257, 0, none⟩) (Kd.R_mono (Kd.R_types HO_214000.out BK257.out (by decide)) (fun k_ hk => (⟨hk, hk.1.2⟩ : _ ∧ k_ ≠ gb258))) (fun _ hk => hk.1.2) (.slice Ao217 t247.length co217)) (fun _ hk => hk.2) (.int .i64 t250)) (fun _ hk => hk.2) (.int .i64 t251)) (fun _ hk => hk.2) (.int .i64 t252)) (fun _ hk => hk.2) (.int .i64 t253)) (fun _ hk => hk.2) (.int .i64 t254)) (fun _ hk => hk.2) (.int .i64 t255)) (fun _ h_ => h_.1)) (fun _ h_ => h_.1)))); (case side4 => exact (Kd.R_reads' HO_214000.out).2.1); rintro e w280 ⟨rfl, hb⟩; refine ⟨_, rfl, ?_⟩; replace HO_214000 := Aside0.mk (Kd.R_below (by (with_reducible repeat (first | apply Kd.R_alloc | apply Kd.R_drewN | apply Kd.R_drew)); exact (Kd.R_mono (Kd.R_mono (Kd.R_far (p := ⟨gb258, 5, none⟩) (Kd.R_far (p := ⟨gb258, 4, none⟩) (Kd.R_far (p := ⟨gb258, 3, none⟩) (Kd.R_far (p := ⟨gb258, 2, none⟩) (Kd.R_far (p := ⟨gb258, 1, none⟩) (Kd.R_far (p := ⟨gb258, 0, none⟩) (Kd.R_far (p := ⟨gb257, 0, none⟩) (Kd.R_mono (Kd.R_types HO_214000.out BK257.out (by decide)) (fun k_ hk => (⟨hk, hk.1.2⟩ : _ ∧ k_ ≠ gb258))) (fun _ hk => hk.1.2) (.slice Ao217 t247.length co217)) (fun _ hk => hk.2) (.int .i64 t250)) (fun _ hk => hk.2) (.int .i64 t251)) (fun _ hk => hk.2) (.int .i64 t252)) (fun _ hk => hk.2) (.int .i64 t253)) (fun _ hk => hk.2) (.int .i64 t254)) (fun _ hk => hk.2) (.int .i64 t255)) (fun _ h_ => h_.1)) (fun _ h_ => h_.1))) hb); replace HO_219000 := Aside0.mk (Kd.R_below (by (with_reducible repeat (first | apply Kd.R_alloc | apply Kd.R_drewN | apply Kd.R_drew)); exact (Kd.R_mono (Kd.R_mono (Kd.R_far (p := ⟨gb258, 5, none⟩) (Kd.R_far (p := ⟨gb258, 4, none⟩) (Kd.R_far (p := ⟨gb258, 3, none⟩) (Kd.R_far (p := ⟨gb258, 2, none⟩) (Kd.R_far (p := ⟨gb258, 1, none⟩) (Kd.R_far (p := ⟨gb258, 0, none⟩) (Kd.R_far (p := ⟨gb257, 0, none⟩) (Kd.R_mono (Kd.R_types HO_219000.out BK257.out (by decide)) (fun k_ hk => (⟨hk, hk.1.2⟩ : _ ∧ k_ ≠ gb258))) (fun _ hk => hk.1.2) (.slice Ao217 t247.length co217)) (fun _ hk => hk.2) (.int .i64 t250)) (fun _ hk => hk.2) (.int .i64 t251)) (fun _ hk => hk.2) (.int .i64 t252)) (fun _ hk => hk.2) (.int .i64 t253)) (fun _ hk => hk.2) (.int .i64 t254)) (fun _ hk => hk.2) (.int .i64 t255)) (fun _ h_ => h_.1)) (fun _ h_ => h_.1))) hb); replace HO_230000 := Aside0.mk (Kd.R_below (by (with_reducible repeat (first | apply Kd.R_alloc | apply Kd.R_drewN | apply Kd.R_drew)); exact (Kd.R_mono (Kd.R_mono (Kd.R_far (p := ⟨gb258, 5, none⟩) (Kd.R_far (p := ⟨gb258, 4, none⟩) (Kd.R_far (p := ⟨gb258, 3, none⟩) (Kd.R_far (p := ⟨gb258, 2, none⟩) (Kd.R_far (p := ⟨gb258, 1, none⟩) (Kd.R_far (p := ⟨gb258, 0, none⟩) (Kd.R_far (p := ⟨gb257, 0, none⟩) (Kd.R_mono (Kd.R_types HO_230000.out BK257.out (by decide)) (fun k_ hk => (⟨hk, hk.1.2⟩ : _ ∧ k_ ≠ gb258))) (fun _ hk => hk.1.2) (.slice Ao217 t247.length co217)) (fun _ hk => hk.2) (.int .i64 t250)) (fun _ hk => hk.2) (.int .i64 t251)) (fun _ hk => hk.2) (.int .i64 t252)) (fun _ hk => hk.2) (.int .i64 t253)) (fun _ hk => hk.2) (.int .i64 t254)) (fun _ hk => hk.2) (.int .i64 t255)) (fun _ h_ => h_.1)) (fun _ h_ => h_.1))) hb); replace HO246 := Aside0.mk (Kd.R_below (by (with_reducible repeat (first | apply Kd.R_alloc | apply Kd.R_drewN | apply Kd.R_drew)); exact (Kd.R_mono (Kd.R_mono (Kd.R_far (p := ⟨gb258, 5, none⟩) (Kd.R_far (p := ⟨gb258, 4, none⟩) (Kd.R_far (p := ⟨gb258, 3, none⟩) (Kd.R_far (p := ⟨gb258, 2, none⟩) (Kd.R_far (p := ⟨gb258, 1, none⟩) (Kd.R_far (p := ⟨gb258, 0, none⟩) (Kd.R_far (p := ⟨gb257, 0, none⟩) (Kd.R_mono (Kd.R_types HO246.out BK257.out (by decide)) (fun k_ hk => (⟨hk, hk.1.2⟩ : _ ∧ k_ ≠ gb258))) (fun _ hk => hk.1.2) (.slice Ao217 t247.length co217)) (fun _ hk => hk.2) (.int .i64 t250)) (fun _ hk => hk.2) (.int .i64 t251)) (fun _ hk => hk.2) (.int .i64 t252)) (fun _ hk => hk.2) (.int .i64 t253)) (fun _ hk => hk.2) (.int .i64 t254)) (fun _ hk => hk.2) (.int .i64 t255)) (fun _ h_ => h_.1)) (fun _ h_ => h_.1))) hb); replace HO249 := Aside0.mk (Kd.R_below (by (with_reducible repeat (first | apply Kd.R_alloc | apply Kd.R_drewN | apply Kd.R_drew)); exact (Kd.R_mono (Kd.R_mono (Kd.R_far (p := ⟨gb258, 5, none⟩) (Kd.R_far (p := ⟨gb258, 4, none⟩) (Kd.R_far (p := ⟨gb258, 3, none⟩) (Kd.R_far (p := ⟨gb258, 2, none⟩) (Kd.R_far (p := ⟨gb258, 1, none⟩) (Kd.R_far (p := ⟨gb258, 0, none⟩) (Kd.R_far (p := ⟨gb257, 0, none⟩) (Kd.R_mono (Kd.R_types HO249.out BK257.out (by decide)) (fun k_ hk => (⟨hk, hk.1.2⟩ : _ ∧ k_ ≠ gb258))) (fun _ hk => hk.1.2) (.slice Ao217 t247.length co217)) (fun _ hk => hk.2) (.int .i64 t250)) (fun _ hk => hk.2) (.int .i64 t251)) (fun _ hk => hk.2) (.int .i64 t252)) (fun _ hk => hk.2) (.int .i64 t253)) (fun _ hk => hk.2) (.int .i64 t254)) (fun _ hk => hk.2) (.int .i64 t255)) (fun _ h_ => h_.1)) (fun _ h_ => h_.1))) hb); replace BK198 := Aside0.mk (blk_below (g := gb198) (o := .cells #[.slice A0_0 l0_0.length c0_0] 35 (0, 0)) (sp BK198) hb); replace BK213 := Aside0.mk (blk_below (g := gb213) (o := .cells #[.slice Ao22 t203.length co22] 41 (0, 0)) (sp BK213) hb); replace BK214 := Aside0.mk (blk_below (g := gb214) (o := .cells #[.int .i64 t206, .int .i64 t207, .int .i64 t208, .int .i64 t209, .int .i64 t210, .int .i64 t211] 49 (0, 0)) (sp BK214) hb); replace BK218 := Aside0.mk (blk_below (g := gb218) (o := .cells #[.slice Ao31 t238.length co31] 41 (0, 0)) (sp BK218) hb); replace BK229 := Aside0.mk (blk_below (g := gb229) (o := .cells #[.slice Ao39 t219.length co39] 41 (0, 0)) (sp BK229) hb); replace BK230 := Aside0.mk (blk_below (g := gb230) (o := .cells #[.int .i64 t222, .int .i64 t223, .int .i64 t224, .int .i64 t225, .int .i64 t226, .int .i64 t227] 49 (0, 0)) (sp BK230) hb); replace BK257 := Aside0.mk (blk_below (g := gb257) (o := .cells #[.slice Ao217 t247.length co217] 41 (0, 0)) (sp BK257) hb); replace BK258 := Aside0.mk (blk_below (g := gb258) (o := .cells #[.int .i64 t250, .int .i64 t251, .int .i64 t252, .int .i64 t253, .int .i64 t254, .int .i64 t255] 49 (0, 0)) (sp BK258) hb); replace HB := bsw hb; (try clear hb); (try clear hb2); (try clear hk); (try clear hi); have hnb281 := NB258_198.out; have hnc281 := NB198_258.out; have hnb282 := NB258_214.out; have hnc282 := NB214_258.out; have hnb283 := NB258_218.out; have hnc283 := NB218_258.out; have hnb284 := NB258_229.out; have hnc284 := NB229_258.out; have hnb285 := NB258_230.out; have hnc285 := NB230_258.out; obtain ⟨hcz286_0, hcz286_1, hcz286_2, hcz286_3, hcz286_4, hcz286_5, hfz286_0, hfz286_1, hfz286_2, hfz286_3, hfz286_4, hfz286_5⟩ := cc6 BK258; have hnb287 := NB214_198.out; have hnc287 := NB198_214.out; have hnb288 := NB214_218.out; have hnc288 := NB218_214.out; have hnb289 := NB214_229.out; have hnc289 := NB229_214.out; have hnb290 := NB214_230.out; have hnc290 := NB230_214.out; obtain ⟨hcz291_0, hcz291_1, hcz291_2, hcz291_3, hcz291_4, hcz291_5, hfz291_0, hfz291_1, hfz291_2, hfz291_3, hfz291_4, hfz291_5⟩ := cc6 BK214) | (go_at_call 32; (with_reducible refine (laws_eqPacket.calls t250 t251 t252 t253 t254 t255 t206 t207 t208 t209 t210 t211 false _ A235.out).mono ?_); rintro e w292 ⟨rfl, hb⟩; replace HO_214000 := Aside0.mk (Kd.R_below (sr HO_214000) hb); replace HO_219000 := Aside0.mk (Kd.R_below (sr HO_219000) hb); replace HO_230000 := Aside0.mk (Kd.R_below (sr HO_230000) hb); replace HO246 := Aside0.mk (Kd.R_below (sr HO246) hb); replace HO249 := Aside0.mk (Kd.R_below (sr HO249) hb); replace BK198 := bb BK198 hb; replace BK213 := bb BK213 hb; replace BK214 := bb BK214 hb; replace BK218 := bb BK218 hb; replace BK229 := bb BK229 hb; replace BK230 := bb BK230 hb; replace BK257 := bb BK257 hb; replace BK258 := bb BK258 hb; replace HB := bsw hb; (try clear hb); (try clear hb2); (try clear hk); (try clear hi)))
              go_meet
              case rel => exact ⟨_, (true), sc, H', ⟨by have := HJ11.out; have := HJ111.out; first | omega | exact Nat.le_refl _⟩, ⟨by (try simp only [hl219000_111]); (with_reducible repeat (first | apply Kd.R_alloc | apply Kd.R_drewN | apply Kd.R_drew)); exact Kd.R_mono HO_214000.out (fun _ hk => ⟨hk.1.1.1.1, ⟨hk.1.1.1.2.1, ⟨hk.1.2, ⟨hk.1.1.1.2.2.1, ⟨hk.1.1.1.2.2.2, hk.2⟩⟩⟩⟩⟩)⟩, ⟨by (try simp only [hl219000_111]); (with_reducible repeat (first | apply Kd.R_alloc | apply Kd.R_drewN | apply Kd.R_drew)); exact Kd.R_mono HO_219000.out (fun _ hk => ⟨hk.1.1.1.1, ⟨hk.1.1.1.2.1, ⟨hk.1.2, ⟨hk.1.1.1.2.2.1, ⟨hk.1.1.1.2.2.2, hk.2⟩⟩⟩⟩⟩)⟩, ⟨by (try simp only [hl219000_111]); (with_reducible repeat (first | apply Kd.R_alloc | apply Kd.R_drewN | apply Kd.R_drew)); exact Kd.R_mono HO_230000.out (fun _ hk => ⟨hk.1.1.1.1, ⟨hk.1.1.1.2.1, ⟨hk.1.2, ⟨hk.1.1.1.2.2.1, ⟨hk.1.1.1.2.2.2, hk.2⟩⟩⟩⟩⟩)⟩, ⟨by (try simp only [hl219000_111]); (with_reducible repeat (first | apply Kd.R_alloc | apply Kd.R_drewN | apply Kd.R_drew)); exact Kd.R_mono HO249.out (fun _ hk => ⟨hk.1.1.1.1.1.1.2, ⟨hk.1.1.1.1.1.2, ⟨hk.1.1.1.1.2, ⟨hk.1.1.2, ⟨hk.1.2, hk.2⟩⟩⟩⟩⟩)⟩, ⟨by (try simp only [hl219000_111]); (with_reducible repeat (first | refine blk_drewN ?_ _ | refine blk_drew ?_ | refine blk_alloc ?_ _)); exact BK198.out⟩, ⟨by (try simp only [hl219000_111]); (with_reducible repeat (first | refine blk_drewN ?_ _ | refine blk_drew ?_ | refine blk_alloc ?_ _)); exact BK213.out⟩, ⟨by (try simp only [hl219000_111]); (with_reducible repeat (first | refine blk_drewN ?_ _ | refine blk_drew ?_ | refine blk_alloc ?_ _)); exact BK214.out⟩, ⟨by (try simp only [hl219000_111]); (with_reducible repeat (first | refine blk_drewN ?_ _ | refine blk_drew ?_ | refine blk_alloc ?_ _)); exact BK218.out⟩, ⟨by (try simp only [hl219000_111]); (with_reducible repeat (first | refine blk_drewN ?_ _ | refine blk_drew ?_ | refine blk_alloc ?_ _)); exact BK229.out⟩, ⟨by (try simp only [hl219000_111]); (with_reducible repeat (first | refine blk_drewN ?_ _ | refine blk_drew ?_ | refine blk_alloc ?_ _)); exact BK230.out⟩, ⟨by (try simp only [hl219000_111]); (with_reducible repeat (first | refine blk_drewN ?_ _ | refine blk_drew ?_ | refine blk_alloc ?_ _)); exact BK257.out⟩, ⟨by (try simp only [hl219000_111]); (with_reducible repeat (first | refine blk_drewN ?_ _ | refine blk_drew ?_ | refine blk_alloc ?_ _)); exact BK258.out⟩, ⟨sbw⟩⟩
            ·replace H := im H
             have H' := Aside0.mk H
             clear H
             have hnb293 := NB257_198.out
             have hnc293 := NB198_257.out
             have hnb294 := NB257_213.out
             have hnc294 := NB213_257.out
             have hnb295 := NB257_214.out
             have hnc295 := NB214_257.out
             have hnb296 := NB257_218.out
             have hnc296 := NB218_257.out
             have hnb297 := NB257_229.out
             have hnc297 := NB229_257.out
             have hnb298 := NB257_230.out
             have hnc298 := NB230_257.out
             have hnb299 := NB257_258.out
             have hnc299 := NB258_257.out
             obtain ⟨hcz300_0, hfz300_0⟩ := cc1 BK257
             have hnb301 := NB213_198.out
             have hnc301 := NB198_213.out
             have hnb302 := NB213_214.out
             have hnc302 := NB214_213.out
             have hnb303 := NB213_218.out
             have hnc303 := NB218_213.out
             have hnb304 := NB213_229.out
             have hnc304 := NB229_213.out
             have hnb305 := NB213_230.out
             have hnc305 := NB230_213.out
             have hnb306 := NB213_258.out
             have hnc306 := NB258_213.out
             obtain ⟨hcz307_0, hfz307_0⟩ := cc1 BK213
             go_wp2_with (first | ((with_reducible refine gate_callee (f := 26) rfl ?_); refine gL (some 104) Try.func26 #[.agg #[.slice Ao217 t247.length co217], .agg #[.slice Ao22 t203.length co22]] ?_; (with_reducible refine (laws_eqQueue.calls kj111 _ _ t247 _ _ t203 false _ ?side1 ?side2 ?side3 ?side4 A233.out).mono ?_); (case side1 => refine (Kd.R_reads' (e := 49) (base := w.heap.size) (ok := fun k_ => (((((((True ∧ some k_ ≠ (.slice Ao22 t203.length co22 : Value).ownBlock) ∧ some k_ ≠ (.slice Ao31 t238.length co31 : Value).ownBlock) ∧ some k_ ≠ (.slice Ao39 t219.length co39 : Value).ownBlock) ∧ some k_ ≠ (.slice Ao213 t244.length co213 : Value).ownBlock) ∧ k_ ≠ gb214) ∧ k_ ≠ gb230) ∧ k_ ≠ gb258)) (n := t247.length) (c := co217) ?_).2.2; exact (by (with_reducible repeat (first | apply Kd.R_alloc | apply Kd.R_drewN | apply Kd.R_drew)); exact (Kd.R_mono (Kd.R_mono (Kd.R_far (p := ⟨gb258, 5, none⟩) (Kd.R_far (p := ⟨gb258, 4, none⟩) (Kd.R_far (p := ⟨gb258, 3, none⟩) (Kd.R_far (p := ⟨gb258, 2, none⟩) (Kd.R_far (p := ⟨gb258, 1, none⟩) (Kd.R_far (p := ⟨gb258, 0, none⟩) (Kd.R_far (p := ⟨gb257, 0, none⟩) (Kd.R_mono (Kd.R_types HO249.out BK257.out (by decide)) (fun k_ hk => (⟨hk, hk.1.2⟩ : _ ∧ k_ ≠ gb258))) (fun _ hk => hk.1.2) (.slice Ao217 t247.length co217)) (fun _ hk => hk.2) (.int .i64 t250)) (fun _ hk => hk.2) (.int .i64 t251)) (fun _ hk => hk.2) (.int .i64 t252)) (fun _ hk => hk.2) (.int .i64 t253)) (fun _ hk => hk.2) (.int .i64 t254)) (fun _ hk => hk.2) (.int .i64 t255)) (fun _ h_ => h_.1)) (fun _ h_ => h_.1)))); (case side2 => exact (Kd.R_reads' HO249.out).2.1); (case side3 => refine (Kd.R_reads' (e := 49) (base := w.heap.size) (ok := fun k_ => ((((some k_ ≠ (.slice Ao31 t238.length co31 : Value).ownBlock ∧ (some k_ ≠ (.slice Ao39 t219.length co39 : Value).ownBlock ∧ (k_ ≠ gb214 ∧ k_ ≠ gb230))) ∧ some k_ ≠ (.slice Ao213 t244.length co213 : Value).ownBlock) ∧ some k_ ≠ (.slice Ao217 t247.length co217 : Value).ownBlock) ∧ k_ ≠ gb258)) (n := t203.length) (c := co22) ?_).2.2; exact (by (with_reducible repeat (first | apply Kd.R_alloc | apply Kd.R_drewN | apply Kd.R_drew)); exact (Kd.R_mono (Kd.R_mono (Kd.R_far (p := ⟨gb258, 5, none⟩) (Kd.R_far (p := ⟨gb258, 4, none⟩) (Kd.R_far (p := ⟨gb258, 3, none⟩) (Kd.R_far (p := ⟨gb258, 2, none⟩) (Kd.R_far (p := ⟨gb258, 1, none⟩) (Kd.R_far (p := ⟨gb258, 0, none⟩) (Kd.R_far (p := ⟨gb257, 0, none⟩) (Kd.R_mono (Kd.R_types HO_214000.out BK257.out (by decide)) (fun k_ hk => (⟨hk, hk.1.2⟩ : _ ∧ k_ ≠ gb258))) (fun _ hk => hk.1.2) (.slice Ao217 t247.length co217)) (fun _ hk => hk.2) (.int .i64 t250)) (fun _ hk => hk.2) (.int .i64 t251)) (fun _ hk => hk.2) (.int .i64 t252)) (fun _ hk => hk.2) (.int .i64 t253)) (fun _ hk => hk.2) (.int .i64 t254)) (fun _ hk => hk.2) (.int .i64 t255)) (fun _ h_ => h_.1)) (fun _ h_ => h_.1)))); (case side4 => exact (Kd.R_reads' HO_214000.out).2.1); rintro e w308 ⟨rfl, hb⟩; refine ⟨_, rfl, ?_⟩; replace HO_214000 := Aside0.mk (Kd.R_below (by (with_reducible repeat (first | apply Kd.R_alloc | apply Kd.R_drewN | apply Kd.R_drew)); exact (Kd.R_mono (Kd.R_mono (Kd.R_far (p := ⟨gb258, 5, none⟩) (Kd.R_far (p := ⟨gb258, 4, none⟩) (Kd.R_far (p := ⟨gb258, 3, none⟩) (Kd.R_far (p := ⟨gb258, 2, none⟩) (Kd.R_far (p := ⟨gb258, 1, none⟩) (Kd.R_far (p := ⟨gb258, 0, none⟩) (Kd.R_far (p := ⟨gb257, 0, none⟩) (Kd.R_mono (Kd.R_types HO_214000.out BK257.out (by decide)) (fun k_ hk => (⟨hk, hk.1.2⟩ : _ ∧ k_ ≠ gb258))) (fun _ hk => hk.1.2) (.slice Ao217 t247.length co217)) (fun _ hk => hk.2) (.int .i64 t250)) (fun _ hk => hk.2) (.int .i64 t251)) (fun _ hk => hk.2) (.int .i64 t252)) (fun _ hk => hk.2) (.int .i64 t253)) (fun _ hk => hk.2) (.int .i64 t254)) (fun _ hk => hk.2) (.int .i64 t255)) (fun _ h_ => h_.1)) (fun _ h_ => h_.1))) hb); replace HO_219000 := Aside0.mk (Kd.R_below (by (with_reducible repeat (first | apply Kd.R_alloc | apply Kd.R_drewN | apply Kd.R_drew)); exact (Kd.R_mono (Kd.R_mono (Kd.R_far (p := ⟨gb258, 5, none⟩) (Kd.R_far (p := ⟨gb258, 4, none⟩) (Kd.R_far (p := ⟨gb258, 3, none⟩) (Kd.R_far (p := ⟨gb258, 2, none⟩) (Kd.R_far (p := ⟨gb258, 1, none⟩) (Kd.R_far (p := ⟨gb258, 0, none⟩) (Kd.R_far (p := ⟨gb257, 0, none⟩) (Kd.R_mono (Kd.R_types HO_219000.out BK257.out (by decide)) (fun k_ hk => (⟨hk, hk.1.2⟩ : _ ∧ k_ ≠ gb258))) (fun _ hk => hk.1.2) (.slice Ao217 t247.length co217)) (fun _ hk => hk.2) (.int .i64 t250)) (fun _ hk => hk.2) (.int .i64 t251)) (fun _ hk => hk.2) (.int .i64 t252)) (fun _ hk => hk.2) (.int .i64 t253)) (fun _ hk => hk.2) (.int .i64 t254)) (fun _ hk => hk.2) (.int .i64 t255)) (fun _ h_ => h_.1)) (fun _ h_ => h_.1))) hb); replace HO_230000 := Aside0.mk (Kd.R_below (by (with_reducible repeat (first | apply Kd.R_alloc | apply Kd.R_drewN | apply Kd.R_drew)); exact (Kd.R_mono (Kd.R_mono (Kd.R_far (p := ⟨gb258, 5, none⟩) (Kd.R_far (p := ⟨gb258, 4, none⟩) (Kd.R_far (p := ⟨gb258, 3, none⟩) (Kd.R_far (p := ⟨gb258, 2, none⟩) (Kd.R_far (p := ⟨gb258, 1, none⟩) (Kd.R_far (p := ⟨gb258, 0, none⟩) (Kd.R_far (p := ⟨gb257, 0, none⟩) (Kd.R_mono (Kd.R_types HO_230000.out BK257.out (by decide)) (fun k_ hk => (⟨hk, hk.1.2⟩ : _ ∧ k_ ≠ gb258))) (fun _ hk => hk.1.2) (.slice Ao217 t247.length co217)) (fun _ hk => hk.2) (.int .i64 t250)) (fun _ hk => hk.2) (.int .i64 t251)) (fun _ hk => hk.2) (.int .i64 t252)) (fun _ hk => hk.2) (.int .i64 t253)) (fun _ hk => hk.2) (.int .i64 t254)) (fun _ hk => hk.2) (.int .i64 t255)) (fun _ h_ => h_.1)) (fun _ h_ => h_.1))) hb); replace HO246 := Aside0.mk (Kd.R_below (by (with_reducible repeat (first | apply Kd.R_alloc | apply Kd.R_drewN | apply Kd.R_drew)); exact (Kd.R_mono (Kd.R_mono (Kd.R_far (p := ⟨gb258, 5, none⟩) (Kd.R_far (p := ⟨gb258, 4, none⟩) (Kd.R_far (p := ⟨gb258, 3, none⟩) (Kd.R_far (p := ⟨gb258, 2, none⟩) (Kd.R_far (p := ⟨gb258, 1, none⟩) (Kd.R_far (p := ⟨gb258, 0, none⟩) (Kd.R_far (p := ⟨gb257, 0, none⟩) (Kd.R_mono (Kd.R_types HO246.out BK257.out (by decide)) (fun k_ hk => (⟨hk, hk.1.2⟩ : _ ∧ k_ ≠ gb258))) (fun _ hk => hk.1.2) (.slice Ao217 t247.length co217)) (fun _ hk => hk.2) (.int .i64 t250)) (fun _ hk => hk.2) (.int .i64 t251)) (fun _ hk => hk.2) (.int .i64 t252)) (fun _ hk => hk.2) (.int .i64 t253)) (fun _ hk => hk.2) (.int .i64 t254)) (fun _ hk => hk.2) (.int .i64 t255)) (fun _ h_ => h_.1)) (fun _ h_ => h_.1))) hb); replace HO249 := Aside0.mk (Kd.R_below (by (with_reducible repeat (first | apply Kd.R_alloc | apply Kd.R_drewN | apply Kd.R_drew)); exact (Kd.R_mono (Kd.R_mono (Kd.R_far (p := ⟨gb258, 5, none⟩) (Kd.R_far (p := ⟨gb258, 4, none⟩) (Kd.R_far (p := ⟨gb258, 3, none⟩) (Kd.R_far (p := ⟨gb258, 2, none⟩) (Kd.R_far (p := ⟨gb258, 1, none⟩) (Kd.R_far (p := ⟨gb258, 0, none⟩) (Kd.R_far (p := ⟨gb257, 0, none⟩) (Kd.R_mono (Kd.R_types HO249.out BK257.out (by decide)) (fun k_ hk => (⟨hk, hk.1.2⟩ : _ ∧ k_ ≠ gb258))) (fun _ hk => hk.1.2) (.slice Ao217 t247.length co217)) (fun _ hk => hk.2) (.int .i64 t250)) (fun _ hk => hk.2) (.int .i64 t251)) (fun _ hk => hk.2) (.int .i64 t252)) (fun _ hk => hk.2) (.int .i64 t253)) (fun _ hk => hk.2) (.int .i64 t254)) (fun _ hk => hk.2) (.int .i64 t255)) (fun _ h_ => h_.1)) (fun _ h_ => h_.1))) hb); replace BK198 := Aside0.mk (blk_below (g := gb198) (o := .cells #[.slice A0_0 l0_0.length c0_0] 35 (0, 0)) (sp BK198) hb); replace BK213 := Aside0.mk (blk_below (g := gb213) (o := .cells #[.slice Ao22 t203.length co22] 41 (0, 0)) (sp BK213) hb); replace BK214 := Aside0.mk (blk_below (g := gb214) (o := .cells #[.int .i64 t206, .int .i64 t207, .int .i64 t208, .int .i64 t209, .int .i64 t210, .int .i64 t211] 49 (0, 0)) (sp BK214) hb); replace BK218 := Aside0.mk (blk_below (g := gb218) (o := .cells #[.slice Ao31 t238.length co31] 41 (0, 0)) (sp BK218) hb); replace BK229 := Aside0.mk (blk_below (g := gb229) (o := .cells #[.slice Ao39 t219.length co39] 41 (0, 0)) (sp BK229) hb); replace BK230 := Aside0.mk (blk_below (g := gb230) (o := .cells #[.int .i64 t222, .int .i64 t223, .int .i64 t224, .int .i64 t225, .int .i64 t226, .int .i64 t227] 49 (0, 0)) (sp BK230) hb); replace BK257 := Aside0.mk (blk_below (g := gb257) (o := .cells #[.slice Ao217 t247.length co217] 41 (0, 0)) (sp BK257) hb); replace BK258 := Aside0.mk (blk_below (g := gb258) (o := .cells #[.int .i64 t250, .int .i64 t251, .int .i64 t252, .int .i64 t253, .int .i64 t254, .int .i64 t255] 49 (0, 0)) (sp BK258) hb); replace HB := bsw hb; (try clear hb); (try clear hb2); (try clear hk); (try clear hi)))
             go_meet
             case rel => exact ⟨_, (true), sc, H', ⟨by have := HJ11.out; have := HJ111.out; first | omega | exact Nat.le_refl _⟩, ⟨by (try simp only [hl219000_111]); (with_reducible repeat (first | apply Kd.R_alloc | apply Kd.R_drewN | apply Kd.R_drew)); exact Kd.R_mono HO_214000.out (fun _ hk => ⟨hk.1.1.1.1, ⟨hk.1.1.1.2.1, ⟨hk.1.2, ⟨hk.1.1.1.2.2.1, ⟨hk.1.1.1.2.2.2, hk.2⟩⟩⟩⟩⟩)⟩, ⟨by (try simp only [hl219000_111]); (with_reducible repeat (first | apply Kd.R_alloc | apply Kd.R_drewN | apply Kd.R_drew)); exact Kd.R_mono HO_219000.out (fun _ hk => ⟨hk.1.1.1.1, ⟨hk.1.1.1.2.1, ⟨hk.1.2, ⟨hk.1.1.1.2.2.1, ⟨hk.1.1.1.2.2.2, hk.2⟩⟩⟩⟩⟩)⟩, ⟨by (try simp only [hl219000_111]); (with_reducible repeat (first | apply Kd.R_alloc | apply Kd.R_drewN | apply Kd.R_drew)); exact Kd.R_mono HO_230000.out (fun _ hk => ⟨hk.1.1.1.1, ⟨hk.1.1.1.2.1, ⟨hk.1.2, ⟨hk.1.1.1.2.2.1, ⟨hk.1.1.1.2.2.2, hk.2⟩⟩⟩⟩⟩)⟩, ⟨by (try simp only [hl219000_111]); (with_reducible repeat (first | apply Kd.R_alloc | apply Kd.R_drewN | apply Kd.R_drew)); exact Kd.R_mono HO249.out (fun _ hk => ⟨hk.1.1.1.1.1.1.2, ⟨hk.1.1.1.1.1.2, ⟨hk.1.1.1.1.2, ⟨hk.1.1.2, ⟨hk.1.2, hk.2⟩⟩⟩⟩⟩)⟩, ⟨by (try simp only [hl219000_111]); (with_reducible repeat (first | refine blk_drewN ?_ _ | refine blk_drew ?_ | refine blk_alloc ?_ _)); exact BK198.out⟩, ⟨by (try simp only [hl219000_111]); (with_reducible repeat (first | refine blk_drewN ?_ _ | refine blk_drew ?_ | refine blk_alloc ?_ _)); exact BK213.out⟩, ⟨by (try simp only [hl219000_111]); (with_reducible repeat (first | refine blk_drewN ?_ _ | refine blk_drew ?_ | refine blk_alloc ?_ _)); exact BK214.out⟩, ⟨by (try simp only [hl219000_111]); (with_reducible repeat (first | refine blk_drewN ?_ _ | refine blk_drew ?_ | refine blk_alloc ?_ _)); exact BK218.out⟩, ⟨by (try simp only [hl219000_111]); (with_reducible repeat (first | refine blk_drewN ?_ _ | refine blk_drew ?_ | refine blk_alloc ?_ _)); exact BK229.out⟩, ⟨by (try simp only [hl219000_111]); (with_reducible repeat (first | refine blk_drewN ?_ _ | refine blk_drew ?_ | refine blk_alloc ?_ _)); exact BK230.out⟩, ⟨by (try simp only [hl219000_111]); (with_reducible repeat (first | refine blk_drewN ?_ _ | refine blk_drew ?_ | refine blk_alloc ?_ _)); exact BK257.out⟩, ⟨by (try simp only [hl219000_111]); (with_reducible repeat (first | refine blk_drewN ?_ _ | refine blk_drew ?_ | refine blk_alloc ?_ _)); exact BK258.out⟩, ⟨sbw⟩⟩
           case rest =>
            clear HC197
            try clear c4
            try clear c4b0
            try clear c124
            try clear c124b0
            try clear c184
            try clear c184b0
            try clear c194
            try clear c194b0
            try clear c194b1
            try clear hcz100_0
            try clear hcz105_0
            try clear hcz122_0
            try clear hcz134_0
            try clear hcz139_0
            try clear hcz154_0
            try clear hcz159_0
            try clear hcz174_0
            try clear hcz179_0
            try clear hcz190_0
            try clear hcz203_0
            try clear hcz244_0
            try clear hcz251_0
            try clear hcz272_0
            try clear hcz279_0
            try clear hcz300_0
            try clear hcz307_0
            try clear hcz60_0
            try clear hcz65_0
            try clear hcz80_0
            try clear hcz85_0
            try clear hfz100_0
            try clear hfz105_0
            try clear hfz122_0
            try clear hfz134_0
            try clear hfz139_0
            try clear hfz154_0
            try clear hfz159_0
            try clear hfz174_0
            try clear hfz179_0
            try clear hfz190_0
            try clear hfz203_0
            try clear hfz244_0
            try clear hfz251_0
            try clear hfz272_0
            try clear hfz279_0
            try clear hfz300_0
            try clear hfz307_0
            try clear hfz60_0
            try clear hfz65_0
            try clear hfz80_0
            try clear hfz85_0
            obtain ⟨kq, x116_196, rfl, HA, HJ196, HO_214000, HO_219000, HO_230000, HO_258000, BK198, BK213, BK214, BK218, BK229, BK230, BK257, BK258, HB⟩ := hcut
            have hl230000_196 := (Kd.R_reads' HO_230000.out).1
            rw [hl230000_196] at HO_230000
            (try simp only [hl230000_196])
            (try simp only [hl230000_196] at BK198)
            (try simp only [hl230000_196] at BK213)
            (try simp only [hl230000_196] at BK214)
            (try simp only [hl230000_196] at BK218)
            (try simp only [hl230000_196] at BK229)
            (try simp only [hl230000_196] at BK230)
            (try simp only [hl230000_196] at BK257)
            (try simp only [hl230000_196] at BK258)
            (try simp only [hl230000_196] at HO_214000)
            (try simp only [hl230000_196] at HO_219000)
            (try simp only [hl230000_196] at HO_258000)
            cases kq with
            | zero => exact absurd HA.out (by simp [laws_FnExactTakePacket.j2])
            | succ kj196 =>
             have H := HA.out
             clear HA
             simp only [laws_FnExactTakePacket.j2] at H
             obtain rfl | rfl := tt x116_196
             ·replace H := ip H
              obtain rfl := Option.some.inj H
              go_wp2
              go_ret
              exact ⟨se, sbw⟩
             ·replace H := im H
              obtain ⟨t261, A310, H⟩ := bnd H
              obtain ⟨c311, H⟩ | ⟨c311, H⟩ := ie_ H
              ·have c311b0 := decide_eq_true c311
               clear c311
               obtain rfl := Option.some.inj H
               have hnb312 := NB229_198.out
               have hnc312 := NB198_229.out
               have hnb313 := NB229_213.out
               have hnc313 := NB213_229.out
               have hnb314 := NB229_214.out
               have hnc314 := NB214_229.out
               have hnb315 := NB229_218.out
               have hnc315 := NB218_229.out
               have hnb316 := NB229_230.out
               have hnc316 := NB230_229.out
               have hnb317 := NB229_257.out
               have hnc317 := NB257_229.out
               have hnb318 := NB229_258.out
               have hnc318 := NB258_229.out
               obtain ⟨hcz319_0, hfz319_0⟩ := cc1 BK229
               go_wp2_with (first | ((with_reducible refine gate_callee (f := 33) rfl ?_); refine gL (some 119) Try.func33 #[.agg #[.slice Ao39 t242.length co39], .int .i64 1] ?_; (with_reducible refine (laws_heldQueue.calls kj196 _ _ t242 1 t261 _ ?side1 ?side2 A310.out).mono ?_); (case side1 => repeat (first | exact (Kd.R_reads' HO_230000.out).2.2 | (with_reducible refine Kd.C_alloc ?_ _) | (with_reducible refine Kd.C_drewN ?_ _) | (with_reducible refine Kd.C_drew ?_))); (case side2 => exact (Kd.R_reads' HO_230000.out).2.1); rintro e w320 ⟨rfl, hb⟩; refine ⟨_, rfl, ?_⟩; replace HO_214000 := Aside0.mk (Kd.R_below (sr HO_214000) hb); replace HO_219000 := Aside0.mk (Kd.R_below (sr HO_219000) hb); replace HO_230000 := Aside0.mk (Kd.R_below (sr HO_230000) hb); replace HO_258000 := Aside0.mk (Kd.R_below (sr HO_258000) hb); replace BK198 := bb BK198 hb; replace BK213 := bb BK213 hb; replace BK214 := bb BK214 hb; replace BK218 := bb BK218 hb; replace BK229 := bb BK229 hb; replace BK230 := bb BK230 hb; replace BK257 := bb BK257 hb; replace BK258 := bb BK258 hb; replace HB := bsw hb; (try clear hb); (try clear hb2); (try clear hk); (try clear hi)))
               go_ret
               exact ⟨se, sbw⟩
              ·have c311b0 := decide_eq_false c311
               clear c311
               obtain ⟨c321, H⟩ | ⟨c321, H⟩ := ie_ H
               ·have c321b0 : (t261 == t241) = true := beq_iff_eq.mpr c321
                have c321b1 : (t261 != t241) = false := bne_eq_false_iff_eq.mpr c321
                clear c321
                obtain rfl := Option.some.inj H
                have hnb322 := NB229_198.out
                have hnc322 := NB198_229.out
                have hnb323 := NB229_213.out
                have hnc323 := NB213_229.out
                have hnb324 := NB229_214.out
                have hnc324 := NB214_229.out
                have hnb325 := NB229_218.out
                have hnc325 := NB218_229.out
                have hnb326 := NB229_230.out
                have hnc326 := NB230_229.out
                have hnb327 := NB229_257.out
                have hnc327 := NB257_229.out
                have hnb328 := NB229_258.out
                have hnc328 := NB258_229.out
                obtain ⟨hcz329_0, hfz329_0⟩ := cc1 BK229
                go_wp2_with (first | ((with_reducible refine gate_callee (f := 33) rfl ?_); refine gL (some 119) Try.func33 #[.agg #[.slice Ao39 t242.length co39], .int .i64 1] ?_; (with_reducible refine (laws_heldQueue.calls kj196 _ _ t242 1 t261 _ ?side1 ?side2 A310.out).mono ?_); (case side1 => repeat (first | exact (Kd.R_reads' HO_230000.out).2.2 | (with_reducible refine Kd.C_alloc ?_ _) | (with_reducible refine Kd.C_drewN ?_ _) | (with_reducible refine Kd.C_drew ?_))); (case side2 => exact (Kd.R_reads' HO_230000.out).2.1); rintro e w330 ⟨rfl, hb⟩; refine ⟨_, rfl, ?_⟩; replace HO_214000 := Aside0.mk (Kd.R_below (sr HO_214000) hb); replace HO_219000 := Aside0.mk (Kd.R_below (sr HO_219000) hb); replace HO_230000 := Aside0.mk (Kd.R_below (sr HO_230000) hb); replace HO_258000 := Aside0.mk (Kd.R_below (sr HO_258000) hb); replace BK198 := bb BK198 hb; replace BK213 := bb BK213 hb; replace BK214 := bb BK214 hb; replace BK218 := bb BK218 hb; replace BK229 := bb BK229 hb; replace BK230 := bb BK230 hb; replace BK257 := bb BK257 hb; replace BK258 := bb BK258 hb; replace HB := bsw hb; (try clear hb); (try clear hb2); (try clear hk); (try clear hi)))
                go_ret
                exact ⟨se, sbw⟩
               ·have c321b0 : (t261 == t241) = false := beq_eq_false_iff_ne.mpr c321
                have c321b1 : (t261 != t241) = true := bne_iff_ne.mpr c321
                obtain rfl := Option.some.inj H
                have hnb331 := NB229_198.out
                have hnc331 := NB198_229.out
                have hnb332 := NB229_213.out
                have hnc332 := NB213_229.out
                have hnb333 := NB229_214.out
                have hnc333 := NB214_229.out
                have hnb334 := NB229_218.out
                have hnc334 := NB218_229.out
                have hnb335 := NB229_230.out
                have hnc335 := NB230_229.out
                have hnb336 := NB229_257.out
                have hnc336 := NB257_229.out
                have hnb337 := NB229_258.out
                have hnc337 := NB258_229.out
                obtain ⟨hcz338_0, hfz338_0⟩ := cc1 BK229
                go_wp2_with (first | ((with_reducible refine gate_callee (f := 33) rfl ?_); refine gL (some 119) Try.func33 #[.agg #[.slice Ao39 t242.length co39], .int .i64 1] ?_; (with_reducible refine (laws_heldQueue.calls kj196 _ _ t242 1 t261 _ ?side1 ?side2 A310.out).mono ?_); (case side1 => repeat (first | exact (Kd.R_reads' HO_230000.out).2.2 | (with_reducible refine Kd.C_alloc ?_ _) | (with_reducible refine Kd.C_drewN ?_ _) | (with_reducible refine Kd.C_drew ?_))); (case side2 => exact (Kd.R_reads' HO_230000.out).2.1); rintro e w339 ⟨rfl, hb⟩; refine ⟨_, rfl, ?_⟩; replace HO_214000 := Aside0.mk (Kd.R_below (sr HO_214000) hb); replace HO_219000 := Aside0.mk (Kd.R_below (sr HO_219000) hb); replace HO_230000 := Aside0.mk (Kd.R_below (sr HO_230000) hb); replace HO_258000 := Aside0.mk (Kd.R_below (sr HO_258000) hb); replace BK198 := bb BK198 hb; replace BK213 := bb BK213 hb; replace BK214 := bb BK214 hb; replace BK218 := bb BK218 hb; replace BK229 := bb BK229 hb; replace BK230 := bb BK230 hb; replace BK257 := bb BK257 hb; replace BK258 := bb BK258 hb; replace HB := bsw hb; (try clear hb); (try clear hb2); (try clear hk); (try clear hi)))
                go_ret
                exact ⟨se, sbw⟩
          ·have c194b0 : (t243 == t241) = false := beq_eq_false_iff_ne.mpr c194
           have c194b1 : (t243 != t241) = true := bne_iff_ne.mpr c194
           obtain rfl := Option.some.inj H
           have hnb340 := NB229_198.out
           have hnc340 := NB198_229.out
           have hnb341 := NB229_213.out
           have hnc341 := NB213_229.out
           have hnb342 := NB229_214.out
           have hnc342 := NB214_229.out
           have hnb343 := NB229_218.out
           have hnc343 := NB218_229.out
           have hnb344 := NB229_230.out
           have hnc344 := NB230_229.out
           obtain ⟨hcz345_0, hfz345_0⟩ := cc1 BK229
           go_wp2_with (first | ((with_reducible refine gate_callee (f := 27) rfl ?_); refine gL (some 85) Try.func27 #[.agg #[.slice Ao39 t219.length co39], .int .i64 1] ?_; (with_reducible refine (laws_markQueue.calls kj111 (fun k_ => some k_ = (.slice Ao39 t219.length co39 : Value).ownBlock) (.slice Ao39 t219.length co39) t219 1 t241 t242 w _ ?side1 ?side2 A182.out).mono ?_); (case side1 => repeat (first | (with_reducible first | exact HB.out | apply below_alloc | apply pw_below_drewN | apply below_drew1 | refine below_set ?_ GE198.out | refine below_set ?_ GE213.out | refine below_set ?_ GE214.out | refine below_set ?_ GE218.out | refine below_set ?_ GE229.out | refine below_set ?_ GE230.out) | exact HB.out)); (case side2 => exact Kd.R_tight rfl HO_230000.out); rintro e w346 ⟨rfl, hy0, hb, hkp⟩; refine ⟨_, rfl, ?_⟩; replace HO_214000 := Aside0.mk (Kd.R_mono (ok' := fun k_ => some k_ ≠ (.slice Ao31 t238.length co31 : Value).ownBlock ∧ some k_ ≠ (.slice Ao39 t219.length co39 : Value).ownBlock ∧ k_ ≠ gb214 ∧ k_ ≠ gb230) (Kd.R_keptB (HO_214000.out) hkp (fun k_ hk_ hs_ => (hk_.2.1) hs_)) (fun k_ hk_ => ⟨hk_.1.1, hk_.1.2.1, hk_.1.2.2.1, hk_.1.2.2.2⟩)); replace HO_219000 := Aside0.mk (Kd.R_mono (ok' := fun k_ => some k_ ≠ (.slice Ao22 t203.length co22 : Value).ownBlock ∧ some k_ ≠ (.slice Ao39 t219.length co39 : Value).ownBlock ∧ k_ ≠ gb214 ∧ k_ ≠ gb230) (Kd.R_keptB (HO_219000.out) hkp (fun k_ hk_ hs_ => (hk_.2.1) hs_)) (fun k_ hk_ => ⟨hk_.1.1, hk_.1.2.1, hk_.1.2.2.1, hk_.1.2.2.2⟩)); replace BK198 := Aside0.mk (blk_kept (sk BK198) hkp (fun hs_ => (fun e_ => (Kd.R_ne HO_230000.out BK198.out (by decide)) e_) hs_)); replace BK213 := Aside0.mk (blk_kept (sk BK213) hkp (fun hs_ => (fun e_ => (Kd.R_ne HO_230000.out BK213.out (by decide)) e_) hs_)); replace BK214 := Aside0.mk (blk_kept (sk BK214) hkp (fun hs_ => (fun e_ => (Kd.R_away HO_230000.out (fun _ hk => hk.2.2.1)) e_) hs_)); replace BK218 := Aside0.mk (blk_kept (sk BK218) hkp (fun hs_ => (fun e_ => (Kd.R_ne HO_230000.out BK218.out (by decide)) e_) hs_)); replace BK229 := Aside0.mk (blk_kept (sk BK229) hkp (fun hs_ => (fun e_ => (Kd.R_ne HO_230000.out BK229.out (by decide)) e_) hs_)); replace BK230 := Aside0.mk (blk_kept (sk BK230) hkp (fun hs_ => (fun e_ => (Kd.R_away HO_230000.out (fun _ hk => hk.2.2.2)) e_) hs_)); replace HO_230000 := Aside0.mk (Kd.R_reok rfl hy0 (fun k_ e_ => HO_230000.out.1 k_ e_)); replace HB := Aside0.mk hb; (try clear hb); (try clear hkp); (try clear hy0); obtain ⟨hcz347_0, hfz347_0⟩ := cc1 BK229) | ((with_reducible refine gate_callee (f := 33) rfl ?_); refine goesL_ (some 88) rfl rfl Try.func33 (by kernel_rfl) rfl #[.agg #[.slice Ao39 t242.length co39], .int .i64 1] rfl (by (try simp only [List.map_toArray, List.map_cons, List.map_nil]); first | done | (rw [show t242.length = t219.length from (Kd.R_reads' HO_230000.out).1.symm] <;> rfl) | rfl | (simp only [List.length_drop, List.length_take]; rfl)) ?_; (with_reducible refine (laws_heldQueue.calls kj111 _ _ t242 1 t243 _ ?side1 ?side2 A183.out).mono ?_); (case side1 => repeat (first | exact (Kd.R_reads' HO_230000.out).2.2 | (with_reducible refine Kd.C_alloc ?_ _) | (with_reducible refine Kd.C_drewN ?_ _) | (with_reducible refine Kd.C_drew ?_))); (case side2 => rw [show t242.length = t219.length from (Kd.R_reads' HO_230000.out).1.symm]; exact (Kd.R_reads' HO_230000.out).2.1); rintro e w348 ⟨rfl, hb⟩; refine ⟨_, rfl, ?_⟩; replace HO_214000 := Aside0.mk (Kd.R_below (sr HO_214000) hb); replace HO_219000 := Aside0.mk (Kd.R_below (sr HO_219000) hb); replace HO_230000 := Aside0.mk (Kd.R_below (sr HO_230000) hb); replace BK198 := bb BK198 hb; replace BK213 := bb BK213 hb; replace BK214 := bb BK214 hb; replace BK218 := bb BK218 hb; replace BK229 := bb BK229 hb; replace BK230 := bb BK230 hb; replace HB := bsw hb; (try clear hb); (try clear hb2); (try clear hk); (try clear hi)))
           go_ret
           exact ⟨se, sbw⟩
     ·replace H := im H
      obtain rfl := Option.some.inj H
      try go_wp2
      replace HO_214000 := Aside0.mk (Kd.R_drew HO_214000.out)
      replace HO_219000 := Aside0.mk (Kd.R_drew HO_219000.out)
      replace HO_230000 := Aside0.mk (Kd.R_drew HO_230000.out)
      replace BK198 := Aside0.mk (blk_drew BK198.out)
      replace BK213 := Aside0.mk (blk_drew BK213.out)
      replace BK214 := Aside0.mk (blk_drew BK214.out)
      replace BK218 := Aside0.mk (blk_drew BK218.out)
      replace BK229 := Aside0.mk (blk_drew BK229.out)
      replace BK230 := Aside0.mk (blk_drew BK230.out)
      replace HB := Aside0.mk (below_drew1 HB.out)
      refine start_ (n := 5) (S := fun w' => w'.cell? ⟨gb218, 0, none⟩ = some (.slice Ao31 t215.length co31) ∧ w'.cell? ⟨gb198, 0, none⟩ = some (.slice A0_0 l0_0.length c0_0)) (ds := []) #[false, false, false, false, false] (by kernel_rfl) rfl rfl ⟨bc0 BK218, bc0 BK198⟩ (fun hHeld => ?_)
      generalize wc.drew = w349 at HO_214000 HO_219000 HO_230000 BK198 BK213 BK214 BK218 BK229 BK230 HB hHeld ⊢
      refine ta2 0 56 #[true, false, false, false, false] hHeld ?_
      refine ta2 1 57 #[true, true, false, false, false] hHeld ?_
      refine one_ (i := 2) (N := some 58) #[true, true, true, false, false] rfl rfl (by kernel_rfl) (by decide) (fun K hK => ?_)
      refine goes_ Try.func23 (by kernel_rfl) rfl #[.agg #[.slice A0_0 l0_0.length c0_0]] (by rfl) rfl rfl sl ?_
      with_reducible refine (laws_toQueue.calls kj11 _ _ l0_0 t233 _ ?side1 ?side2 A108.out).mono ?_
      (case side1 => exact cb HR0_0)
      (case side2 => exact HC0_0.out)
      rintro e w350 ⟨v234, rfl, ho0, hb⟩
      refine ⟨_, rfl, ?_⟩
      have HO235 := Aside0.mk (Kd.R_lower (Kd.R_newB (Kd.R_newB (Kd.R_new' (Kd.R_new' (Kd.R_new' ho0 (Kd.R_lt (sr HO_214000))) (Kd.R_lt (sr HO_219000))) (Kd.R_lt (sr HO_230000))) (g := gb214) (o := .cells #[.int .i64 t206, .int .i64 t207, .int .i64 t208, .int .i64 t209, .int .i64 t210, .int .i64 t211] 49 (0, 0)) (sk BK214)) (g := gb230) (o := .cells #[.int .i64 t222, .int .i64 t223, .int .i64 t224, .int .i64 t225, .int .i64 t226, .int .i64 t227] 49 (0, 0)) (sk BK230)) (below_size (sbw)))
      replace HO_214000 := Aside0.mk (Kd.R_elder' (sr HO_214000) (Kd.R_base ho0) hb)
      replace HO_219000 := Aside0.mk (Kd.R_elder' (sr HO_219000) (Kd.R_base ho0) hb)
      replace HO_230000 := Aside0.mk (Kd.R_elder' (sr HO_230000) (Kd.R_base ho0) hb)
      replace BK198 := bb BK198 hb
      replace BK213 := bb BK213 hb
      replace BK214 := bb BK214 hb
      replace BK218 := bb BK218 hb
      replace BK229 := bb BK229 hb
      replace BK230 := bb BK230 hb
      replace HB := bsw hb
      (try clear hb)
      (try clear hb2)
      (try clear hk)
      (try clear hi)
      (try clear ho0)
      obtain ⟨Ao351, co351, eo351⟩ := Kd.R_slice HO235.out
      (first | subst eo351 | (injection eo351 with f1_ f2_ f3_; have f4_ := f1_.symm; have f5_ := f3_.symm; clear f1_ f2_ f3_; subst f4_; subst f5_))
      refine hK.out _ _ ⟨bc0 BK218, bc0 BK198⟩ (fun hHeld => ?_)
      clear hK K
      refine norm_ (a' := ?_) ?_ ?_
      rotate_left
      ·show Act.put _ (some 58) _ = _
       simp only [Act.put, List.setIfInBounds_toArray, List.set_cons_zero, List.set_cons_succ, i64_w, i32_w]
       rfl
      refine one_ (i := 3) (N := some 59) #[true, true, true, true, false] rfl rfl (by kernel_rfl) (by decide) (fun K hK => ?_)
      refine goes_ Try.func26 (by kernel_rfl) rfl #[.agg #[.slice Ao31 t215.length co31], .agg #[.slice Ao351 t233.length co351]] (by rfl) rfl rfl sl ?_
      with_reducible refine (laws_eqQueue.calls kj11 _ _ t215 _ _ t233 false _ ?side1 ?side2 ?side3 ?side4 A109.out).mono ?_
      (case side1 => repeat (first | exact (Kd.R_reads' HO_219000.out).2.2 | (with_reducible refine Kd.C_alloc ?_ _) | (with_reducible refine Kd.C_drewN ?_ _) | (with_reducible refine Kd.C_drew ?_)))
      (case side2 => exact (Kd.R_reads' HO_219000.out).2.1)
      (case side3 => repeat (first | exact (Kd.R_reads' HO235.out).2.2 | (with_reducible refine Kd.C_alloc ?_ _) | (with_reducible refine Kd.C_drewN ?_ _) | (with_reducible refine Kd.C_drew ?_)))
      (case side4 => exact (Kd.R_reads' HO235.out).2.1)
      rintro e w352 ⟨rfl, hb⟩
      refine ⟨_, rfl, ?_⟩
      replace HO_214000 := Aside0.mk (Kd.R_below (sr HO_214000) hb)
      replace HO_219000 := Aside0.mk (Kd.R_below (sr HO_219000) hb)
      replace HO_230000 := Aside0.mk (Kd.R_below (sr HO_230000) hb)
      replace HO235 := Aside0.mk (Kd.R_below (sr HO235) hb)
      replace BK198 := bb BK198 hb
      replace BK213 := bb BK213 hb
      replace BK214 := bb BK214 hb
      replace BK218 := bb BK218 hb
      replace BK229 := bb BK229 hb
      replace BK230 := bb BK230 hb
      replace HB := bsw hb
      (try clear hb)
      (try clear hb2)
      (try clear hk)
      (try clear hi)
      refine hK.out _ _ ⟨bc0 BK218, bc0 BK198⟩ (fun hHeld => ?_)
      clear hK K
      refine norm_ (a' := ?_) ?_ ?_
      rotate_left
      ·show Act.put _ (some 59) _ = _
       simp only [Act.put, List.setIfInBounds_toArray, List.set_cons_zero, List.set_cons_succ, i64_w, i32_w]
       rfl
      refine pu 4 60 #[true, true, true, true, true] ?_
      refine done_ (by kernel_rfl) ?_
      try go_wp2
      go_ret
      exact ⟨se, sbw⟩

end Go.Proofs.Ytaciciobhfoglaa.QFnExactTakePacket
