/- What the Go functions of the law FnExactTableIn come to, as Lean functions, and that they do: by a program of the session, out of the kit's printer. Conditions: none. (squeezed). -/
import Derived.Test.YtadpbpocbfjboaaSq
import Derived.Test.YtadpbpocbfjboaaQFnExactTableInx0
import Derived.Test.YtadpbpocbfjboaaQFnExactTableInx1
import Derived.Test.YtadpbpocbfjboaaQFnExactTableInx2
import Derived.Test.YtadpbpocbfjboaaQFnExactTableInx3
import Derived.Test.YtadpbpocbfjboaaQFnExactTableInx4
import Derived.Test.YtadpbpocbfjboaaQFnExactTableInx5
import Derived.Test.YtadpbpocbfjboaaQFnExactTableInx6
namespace Go.Proofs.Ytadpbpocbfjboaa.QFnExactTableIn
open Go.RowKit Go.Proofs.YtadpbpocbfjboaaW.PrintWords Go.Proofs.YtadpbpocbfjboaaW.PrintLast Go.Proofs.YtadpbpocbfjboaaW.PrintMore Go.Proofs.Ytadpbpocbfjboaa.Open Go.Proofs.Ytadpbpocbfjboaa.Sq
attribute [local go_sem] max2_int min2_int max_two min_two max_three min_three max_four min_four   -- for this text's walks alone
attribute [local go_sem] isSome_set
set_option linter.unusedVariables false
set_option linter.unusedSimpArgs false

/-! ### laws_FnExactTableIn: function 9 -/
mutual
def laws_FnExactTableIn.j0 : Nat → Int → Int → Bool → Bool → Bool → Int → Int → Int → List (S97) → Int → List Int → List Int → Int → Int → Int → List (S69) → Int → List Int → List Int → Option (Bool)
  | 0, _, _, _, _, _, _, _, _, _, _, _, _, _, _, _, _, _, _, _ => none
  | k + 1, x1, x2, x9, x12, x48, x273000, x273001, x273002, x273003, x289000, x289001, x289002, x296000, x296001, x296002, x296003, x305000, x305001, x305002 => if x48 = true then (some false) else ((laws_toProgram.f k x273000 x273001 x273002 x273003).bind fun bt306 => ((laws_eqProgram.f k x296000 x296001 x296002 x296003 bt306.1 bt306.2.1 bt306.2.2.1 bt306.2.2.2).bind fun t312 => (if t312 = true then ((laws_markProgram.f x296000 x296001 x296002 x296003 1).bind fun t313 => (if t313 < 0 then (laws_FnExactTableIn.j1 k x1 x2 x9 true x273000 x273001 x273002 x273003 x289000 x289001 x289002 x305000 x305001 x305002) else ((laws_eqTable.f k x305000 x305001 x305002 x289000 x289001 x289002).bind fun t314 => (if t314 = true then (laws_FnExactTableIn.j1 k x1 x2 x9 (x12 != x9) x273000 x273001 x273002 x273003 x289000 x289001 x289002 x305000 x305001 x305002) else (laws_FnExactTableIn.j1 k x1 x2 x9 true x273000 x273001 x273002 x273003 x289000 x289001 x289002 x305000 x305001 x305002))))) else (some false))))
def laws_FnExactTableIn.j1 : Nat → Int → Int → Bool → Bool → Int → Int → Int → List (S97) → Int → List Int → List Int → Int → List Int → List Int → Option (Bool)
  | 0, _, _, _, _, _, _, _, _, _, _, _, _, _, _ => none
  | k + 1, x1, x2, x9, x69, x273000, x273001, x273002, x273003, x289000, x289001, x289002, x305000, x305001, x305002 => if x69 = true then (some false) else ((laws_markTable.f k x305000 x305001 x305002 1).bind fun bt315 => ((laws_heldTable.f k x305000 bt315.2.1 bt315.2.2 1).bind fun t318 => (if t318 < 0 then (some false) else (if t318 = bt315.1 then ((laws_toProgram.f k x273000 x273001 x273002 x273003).bind fun bt319 => ((impl_TableIn.f bt319.1 bt319.2.1 bt319.2.2.1 bt319.2.2.2 x1 x2).bind fun bt325 => ((laws_eqTable.f k bt325.1 bt325.2.1 bt325.2.2.1 x289000 x289001 x289002).bind fun t334 => (if t334 = true then (laws_FnExactTableIn.j2 k bt315.1 (bt325.2.2.2 != x9) x305000 bt315.2.1 bt315.2.2) else (laws_FnExactTableIn.j2 k bt315.1 true x305000 bt315.2.1 bt315.2.2))))) else (some false)))))
def laws_FnExactTableIn.j2 : Nat → Int → Bool → Int → List Int → List Int → Option (Bool)
  | 0, _, _, _, _, _ => none
  | k + 1, x14, x97, x305000, x305001, x305002 => if x97 = true then (some false) else ((laws_heldTable.f k x305000 x305001 x305002 1).bind fun t335 => (if t335 < 0 then (some false) else (if t335 = x14 then (some true) else (some false))))
end
def laws_FnExactTableIn.f (k : Nat) (a0_0 : Int) (a0_1 : Int) (a0_2 : Int) (l0_3 : List (S97)) (a1 : Int) (a2 : Int) : Option (Bool) := (laws_szProgram.f k a0_0 a0_1 a0_2 l0_3 1048576).bind fun t273 => (if t273 < 0 then (some true) else ((laws_toProgram.f k a0_0 a0_1 a0_2 l0_3).bind fun bt274 => ((spec_TableIn.f bt274.1 bt274.2.1 bt274.2.2.1 bt274.2.2.2 a1 a2).bind fun bt280 => ((laws_toProgram.f k a0_0 a0_1 a0_2 l0_3).bind fun bt289 => ((impl_TableIn.f bt289.1 bt289.2.1 bt289.2.2.1 bt289.2.2.2 a1 a2).bind fun bt296 => ((laws_eqTable.f k bt296.1 bt296.2.1 bt296.2.2.1 bt280.1 bt280.2.1 bt280.2.2.1).bind fun t305 => (if t305 = true then (laws_FnExactTableIn.j0 k a1 a2 bt280.2.2.2 bt296.2.2.2 (bt296.2.2.2 != bt280.2.2.2) a0_0 a0_1 a0_2 l0_3 bt280.1 bt280.2.1 bt280.2.2.1 bt289.1 bt289.2.1 bt289.2.2.1 bt289.2.2.2 bt296.1 bt296.2.1 bt296.2.2.1) else (laws_FnExactTableIn.j0 k a1 a2 bt280.2.2.2 bt296.2.2.2 true a0_0 a0_1 a0_2 l0_3 bt280.1 bt280.2.1 bt280.2.2.1 bt289.1 bt289.2.1 bt289.2.2.1 bt289.2.2.2 bt296.1 bt296.2.1 bt296.2.2.1))))))))
theorem laws_FnExactTableIn.mono_l : ∀ k, (∀ y0 y1 y2 y3 y4 y5 y6 y7 y8 y9 y10 y11 y12 y13 y14 y15 y16 y17 y18, LeO (laws_FnExactTableIn.j0 k y0 y1 y2 y3 y4 y5 y6 y7 y8 y9 y10 y11 y12 y13 y14 y15 y16 y17 y18) (laws_FnExactTableIn.j0 (k + 1) y0 y1 y2 y3 y4 y5 y6 y7 y8 y9 y10 y11 y12 y13 y14 y15 y16 y17 y18)) ∧ (∀ y0 y1 y2 y3 y4 y5 y6 y7 y8 y9 y10 y11 y12 y13, LeO (laws_FnExactTableIn.j1 k y0 y1 y2 y3 y4 y5 y6 y7 y8 y9 y10 y11 y12 y13) (laws_FnExactTableIn.j1 (k + 1) y0 y1 y2 y3 y4 y5 y6 y7 y8 y9 y10 y11 y12 y13)) ∧ (∀ y0 y1 y2 y3 y4, LeO (laws_FnExactTableIn.j2 k y0 y1 y2 y3 y4) (laws_FnExactTableIn.j2 (k + 1) y0 y1 y2 y3 y4))
  | 0 => ⟨fun _ _ _ _ _ _ _ _ _ _ _ _ _ _ _ _ _ _ _ r h => by simp [laws_FnExactTableIn.j0] at h, fun _ _ _ _ _ _ _ _ _ _ _ _ _ _ r h => by simp [laws_FnExactTableIn.j1] at h, fun _ _ _ _ _ r h => by simp [laws_FnExactTableIn.j2] at h⟩
  | k + 1 => by
    obtain ⟨ih0, ih1, ih2⟩ := laws_FnExactTableIn.mono_l k
    refine ⟨?_, ?_, ?_⟩
    · intro y0 y1 y2 y3 y4 y5 y6 y7 y8 y9 y10 y11 y12 y13 y14 y15 y16 y17 y18
      unfold laws_FnExactTableIn.j0
      have m0 := @laws_eqProgram.mono
      have m1 := @laws_eqTable.mono
      have m2 := @laws_heldTable.mono
      have m3 := @laws_markTable.mono
      have m4 := @laws_szProgram.mono
      have m5 := @laws_toProgram.mono
      exact mo
    · intro y0 y1 y2 y3 y4 y5 y6 y7 y8 y9 y10 y11 y12 y13
      unfold laws_FnExactTableIn.j1
      have m0 := @laws_eqProgram.mono
      have m1 := @laws_eqTable.mono
      have m2 := @laws_heldTable.mono
      have m3 := @laws_markTable.mono
      have m4 := @laws_szProgram.mono
      have m5 := @laws_toProgram.mono
      exact mo
    · intro y0 y1 y2 y3 y4
      unfold laws_FnExactTableIn.j2
      have m0 := @laws_eqProgram.mono
      have m1 := @laws_eqTable.mono
      have m2 := @laws_heldTable.mono
      have m3 := @laws_markTable.mono
      have m4 := @laws_szProgram.mono
      have m5 := @laws_toProgram.mono
      exact mo
theorem laws_FnExactTableIn.mono : ∀ a0 a1 a2 a3 a4 a5 k, LeO (laws_FnExactTableIn.f k a0 a1 a2 a3 a4 a5) (laws_FnExactTableIn.f (k + 1) a0 a1 a2 a3 a4 a5) := by
  intro a0 a1 a2 a3 a4 a5 k
  obtain ⟨ih0, ih1, ih2⟩ := laws_FnExactTableIn.mono_l k
  unfold laws_FnExactTableIn.f
  have m0 := @laws_eqProgram.mono
  have m1 := @laws_eqTable.mono
  have m2 := @laws_heldTable.mono
  have m3 := @laws_markTable.mono
  have m4 := @laws_szProgram.mono
  have m5 := @laws_toProgram.mono
  exact mo
set_option maxHeartbeats 8000000 in
set_option maxRecDepth 100000 in
theorem laws_FnExactTableIn.calls (k : Nat) (a0_0 : Int) (a0_1 : Int) (a0_2 : Int) (A0_3 : Option Addr) (c0_3 : Nat) (l0_3 : List (S97)) (a1 : Int) (a2 : Int) (r : Bool) (w : World) (hr0_3 : Kd.C k97 w A0_3 l0_3.length l0_3) (hc0_3 : l0_3.length ≤ c0_3) (h : laws_FnExactTableIn.f k a0_0 a0_1 a0_2 l0_3 a1 a2 = some r) :
    Calls Try.prog 9 #[.agg #[.int .i64 a0_0, .int .i64 a0_1, .int .i64 a0_2, .slice A0_3 l0_3.length c0_3], .int .i64 a1, .int .i64 a2] w fun e w' => e = .returned (.bool r) ∧ Below w.heap.size w w' := by
 have hu24 := Try.underlying24
 have hu44 := Try.underlying44
 have hu29 := Try.underlying29
 have HR0_3 := Aside0.mk hr0_3
 have HC0_3 := Aside0.mk hc0_3
 clear hr0_3 hc0_3
 have HB := Aside0.mk (Below.refl w.heap.size w)
 have H : ((laws_szProgram.f k a0_0 a0_1 a0_2 l0_3 1048576).bind fun t273 => (if t273 < 0 then (some true) else ((laws_toProgram.f k a0_0 a0_1 a0_2 l0_3).bind fun bt274 => ((spec_TableIn.f bt274.1 bt274.2.1 bt274.2.2.1 bt274.2.2.2 a1 a2).bind fun bt280 => ((laws_toProgram.f k a0_0 a0_1 a0_2 l0_3).bind fun bt289 => ((impl_TableIn.f bt289.1 bt289.2.1 bt289.2.2.1 bt289.2.2.2 a1 a2).bind fun bt296 => ((laws_eqTable.f k bt296.1 bt296.2.1 bt296.2.2.1 bt280.1 bt280.2.1 bt280.2.2.1).bind fun t305 => (if t305 = true then (laws_FnExactTableIn.j0 k a1 a2 bt280.2.2.2 bt296.2.2.2 (bt296.2.2.2 != bt280.2.2.2) a0_0 a0_1 a0_2 l0_3 bt280.1 bt280.2.1 bt280.2.2.1 bt289.1 bt289.2.1 bt289.2.2.1 bt289.2.2.2 bt296.1 bt296.2.1 bt296.2.2.1) else (laws_FnExactTableIn.j0 k a1 a2 bt280.2.2.2 bt296.2.2.2 true a0_0 a0_1 a0_2 l0_3 bt280.1 bt280.2.1 bt280.2.2.1 bt289.1 bt289.2.1 bt289.2.2.1 bt289.2.2.2 bt296.1 bt296.2.1 bt296.2.2.1))))))))) = some r := h
 clear h
 obtain ⟨t273, A4, H⟩ := bnd H
 obtain ⟨c5, H⟩ | ⟨c5, H⟩ := ie_ H
 ·have c5b0 := decide_eq_true c5
  clear c5
  obtain rfl := Option.some.inj H
  go_enter Try.func9, Try.ntmps9
  go_wp2_with (first | ((with_reducible refine gate_dst (N := 3) rfl ?_); refine bx 3 #[.int .i64 a0_0, .int .i64 a0_1, .int .i64 a0_2, .slice A0_3 l0_3.length c0_3] 24 ?_; intro gb272 hg w6 hbox hb; have BK272 := Aside0.mk hbox; have GW272 := bz w hg; have GE272 := bz w hg; replace HB := bs hb; clear hb hbox hg; obtain ⟨hcz7_0, hcz7_1, hcz7_2, hcz7_3, hfz7_0, hfz7_1, hfz7_2, hfz7_3⟩ := cc4 BK272) | ((with_reducible refine gate_callee (f := 15) rfl ?_); refine gL (some 20) Try.func15 #[.agg #[.int .i64 a0_0, .int .i64 a0_1, .int .i64 a0_2, .slice A0_3 l0_3.length c0_3], .int .i64 1048576] ?_; (with_reducible refine (laws_szProgram.calls k a0_0 a0_1 a0_2 _ _ l0_3 1048576 t273 _ ?side1 ?side2 A4.out).mono ?_); (case side1 => exact cb HR0_3); (case side2 => exact HC0_3.out); rintro e w8 ⟨rfl, hb⟩; refine ⟨_, rfl, ?_⟩; replace BK272 := bb BK272 hb; replace HB := bsw hb; (try clear hb); (try clear hb2); (try clear hk); (try clear hi)))
  go_ret
  exact ⟨se, sbw⟩
 ·have c5b0 := decide_eq_false c5
  clear c5
  obtain ⟨⟨t274, t275, t276, t277⟩, A9, H⟩ := bnd H
  replace H : ((spec_TableIn.f t274 t275 t276 t277 a1 a2).bind fun bt280 => ((laws_toProgram.f k a0_0 a0_1 a0_2 l0_3).bind fun bt289 => ((impl_TableIn.f bt289.1 bt289.2.1 bt289.2.2.1 bt289.2.2.2 a1 a2).bind fun bt296 => ((laws_eqTable.f k bt296.1 bt296.2.1 bt296.2.2.1 bt280.1 bt280.2.1 bt280.2.2.1).bind fun t305 => (if t305 = true then (laws_FnExactTableIn.j0 k a1 a2 bt280.2.2.2 bt296.2.2.2 (bt296.2.2.2 != bt280.2.2.2) a0_0 a0_1 a0_2 l0_3 bt280.1 bt280.2.1 bt280.2.2.1 bt289.1 bt289.2.1 bt289.2.2.1 bt289.2.2.2 bt296.1 bt296.2.1 bt296.2.2.1) else (laws_FnExactTableIn.j0 k a1 a2 bt280.2.2.2 bt296.2.2.2 true a0_0 a0_1 a0_2 l0_3 bt280.1 bt280.2.1 bt280.2.2.1 bt289.1 bt289.2.1 bt289.2.2.1 bt289.2.2.2 bt296.1 bt296.2.1 bt296.2.2.1)))))) = some r := H
  obtain ⟨⟨t280, t281, t284, t287⟩, A10, H⟩ := bnd H
  replace H : ((laws_toProgram.f k a0_0 a0_1 a0_2 l0_3).bind fun bt289 => ((impl_TableIn.f bt289.1 bt289.2.1 bt289.2.2.1 bt289.2.2.2 a1 a2).bind fun bt296 => ((laws_eqTable.f k bt296.1 bt296.2.1 bt296.2.2.1 t280 t281 t284).bind fun t305 => (if t305 = true then (laws_FnExactTableIn.j0 k a1 a2 t287 bt296.2.2.2 (bt296.2.2.2 != t287) a0_0 a0_1 a0_2 l0_3 t280 t281 t284 bt289.1 bt289.2.1 bt289.2.2.1 bt289.2.2.2 bt296.1 bt296.2.1 bt296.2.2.1) else (laws_FnExactTableIn.j0 k a1 a2 t287 bt296.2.2.2 true a0_0 a0_1 a0_2 l0_3 t280 t281 t284 bt289.1 bt289.2.1 bt289.2.2.1 bt289.2.2.2 bt296.1 bt296.2.1 bt296.2.2.1))))) = some r := H
  obtain ⟨⟨t289, t290, t291, t292⟩, A11, H⟩ := bnd H
  replace H : ((impl_TableIn.f t289 t290 t291 t292 a1 a2).bind fun bt296 => ((laws_eqTable.f k bt296.1 bt296.2.1 bt296.2.2.1 t280 t281 t284).bind fun t305 => (if t305 = true then (laws_FnExactTableIn.j0 k a1 a2 t287 bt296.2.2.2 (bt296.2.2.2 != t287) a0_0 a0_1 a0_2 l0_3 t280 t281 t284 t289 t290 t291 t292 bt296.1 bt296.2.1 bt296.2.2.1) else (laws_FnExactTableIn.j0 k a1 a2 t287 bt296.2.2.2 true a0_0 a0_1 a0_2 l0_3 t280 t281 t284 t289 t290 t291 t292 bt296.1 bt296.2.1 bt296.2.2.1)))) = some r := H
  obtain ⟨⟨t296, t297, t300, t303⟩, A12, H⟩ := bnd H
  replace H : ((laws_eqTable.f k t296 t297 t300 t280 t281 t284).bind fun t305 => (if t305 = true then (laws_FnExactTableIn.j0 k a1 a2 t287 t303 (t303 != t287) a0_0 a0_1 a0_2 l0_3 t280 t281 t284 t289 t290 t291 t292 t296 t297 t300) else (laws_FnExactTableIn.j0 k a1 a2 t287 t303 true a0_0 a0_1 a0_2 l0_3 t280 t281 t284 t289 t290 t291 t292 t296 t297 t300))) = some r := H
  have HC13 := Aside0.mk H
  clear H
  go_enter Try.func9, Try.ntmps9
  go_upto_region 8 with (first | ((with_reducible refine gate_dst (N := 3) rfl ?_); refine bx 3 #[.int .i64 a0_0, .int .i64 a0_1, .int .i64 a0_2, .slice A0_3 l0_3.length c0_3] 24 ?_; intro gb272 hg w14 hbox hb; have BK272 := Aside0.mk hbox; have GW272 := bz w hg; have GE272 := bz w hg; replace HB := bs hb; clear hb hbox hg; obtain ⟨hcz15_0, hcz15_1, hcz15_2, hcz15_3, hfz15_0, hfz15_1, hfz15_2, hfz15_3⟩ := cc4 BK272) | ((with_reducible refine gate_callee (f := 15) rfl ?_); refine gL (some 20) Try.func15 #[.agg #[.int .i64 a0_0, .int .i64 a0_1, .int .i64 a0_2, .slice A0_3 l0_3.length c0_3], .int .i64 1048576] ?_; (with_reducible refine (laws_szProgram.calls k a0_0 a0_1 a0_2 _ _ l0_3 1048576 t273 _ ?side1 ?side2 A4.out).mono ?_); (case side1 => exact cb HR0_3); (case side2 => exact HC0_3.out); rintro e w16 ⟨rfl, hb⟩; refine ⟨_, rfl, ?_⟩; replace BK272 := bb BK272 hb; replace HB := bsw hb; (try clear hb); (try clear hb2); (try clear hk); (try clear hi); obtain ⟨hcz17_0, hcz17_1, hcz17_2, hcz17_3, hfz17_0, hfz17_1, hfz17_2, hfz17_3⟩ := cc4 BK272) | ((with_reducible refine gate_callee (f := 17) rfl ?_); refine gL (some 25) Try.func17 #[.agg #[.int .i64 a0_0, .int .i64 a0_1, .int .i64 a0_2, .slice A0_3 l0_3.length c0_3]] ?_; (with_reducible refine (laws_toProgram.calls k a0_0 a0_1 a0_2 _ _ l0_3 t274 t275 t276 t277 _ ?side1 ?side2 A9.out).mono ?_); (case side1 => exact cb HR0_3); (case side2 => exact HC0_3.out); rintro e w18 ⟨v278, rfl, ho0, hb⟩; refine ⟨_, rfl, ?_⟩; have HO279 := Aside0.mk (Kd.R_lower ho0 (below_size (sbw))); replace BK272 := bb BK272 hb; replace HB := bsw hb; (try clear hb); (try clear hb2); (try clear hk); (try clear hi); (try clear ho0); obtain ⟨Ao19, co19, eo19⟩ := Kd.R_slice HO279.out; subst eo19) | ((with_reducible refine gate_callee (f := 34) rfl ?_); refine gL (some 28) Try.func34 #[.agg #[.int .i64 t274, .int .i64 t275, .int .i64 t276, .slice Ao19 t277.length co19], .int .i64 a1, .int .i64 a2] ?_; (with_reducible refine (spec_TableIn.calls t274 t275 t276 _ _ t277 a1 a2 t280 t281 t284 t287 _ ?side1 ?side2 A10.out).mono ?_); (case side1 => repeat (first | exact (Kd.R_reads' HO279.out).2.2 | (with_reducible refine Kd.C_alloc ?_ _) | (with_reducible refine Kd.C_drewN ?_ _) | (with_reducible refine Kd.C_drew ?_))); (case side2 => exact (Kd.R_reads' HO279.out).2.1); rintro e w20 ⟨v282, v285, rfl, ho0, ho1, hb⟩; refine ⟨_, rfl, ?_⟩; replace HO279 := Aside0.mk (Kd.R_mono (Kd.R_told (Kd.R_told (Kd.R_old (sr HO279) hb) (Kd.R_base ho0)) (Kd.R_base ho1)) (fun _ h_ => h_.1)); have HO283 := Aside0.mk (Kd.R_lower ho0 (below_size (sbw))); have HO286 := Aside0.mk (Kd.R_lower ho1 (below_size (sbw))); replace BK272 := bb BK272 hb; replace HB := bsw hb; (try clear hb); (try clear hb2); (try clear hk); (try clear hi); (try clear ho0); (try clear ho1)) | ((with_reducible refine gate_dst (N := 8) rfl ?_); refine bx 8 #[.int .i64 0, .slice none 0 0, .slice none 0 0] 44 ?_; intro gb288 hg w21 hbox hb; replace HO279 := Aside0.mk (Kd.R_below (Kd.R_elderB (sr HO279) gb288 (Nat.le_of_eq hg.symm)) hb); replace HO283 := Aside0.mk (Kd.R_below (sr HO283) hb); replace HO286 := Aside0.mk (Kd.R_below (sr HO286) hb); have BK288 := Aside0.mk hbox; have GW288 := bzw w hg; have GE288 := bzw w hg; replace HB := bsw hb; have NB272_288 := nl BK272 hg; have NB288_272 := ng BK272 hg; replace BK272 := bb BK272 hb; clear hb hbox hg; have hnb22 := NB288_272.out; have hnc22 := NB272_288.out; obtain ⟨hcz23_0, hcz23_1, hcz23_2, hfz23_0, hfz23_1, hfz23_2⟩ := cc3 BK288; obtain ⟨Ao24, co24, eo24⟩ := Kd.R_slice HO283.out; subst eo24; obtain ⟨Ao25, co25, eo25⟩ := Kd.R_slice HO286.out; subst eo25; obtain ⟨hcz26_0, hcz26_1, hcz26_2, hcz26_3, hfz26_0, hfz26_1, hfz26_2, hfz26_3⟩ := cc4 BK272) | ((with_reducible refine gate_callee (f := 17) rfl ?_); refine gL (some 32) Try.func17 #[.agg #[.int .i64 a0_0, .int .i64 a0_1, .int .i64 a0_2, .slice A0_3 l0_3.length c0_3]] ?_; (with_reducible refine (laws_toProgram.calls k a0_0 a0_1 a0_2 _ _ l0_3 t289 t290 t291 t292 _ ?side1 ?side2 A11.out).mono ?_); (case side1 => exact Kd.C_below HR0_3.out (sbw)); (case side2 => exact HC0_3.out); rintro e w27 ⟨v293, rfl, ho0, hb⟩; refine ⟨_, rfl, ?_⟩; have HO294 := Aside0.mk (Kd.R_lower (Kd.R_newB (Kd.R_new' (Kd.R_new' (Kd.R_new' ho0 (Kd.R_lt (by (with_reducible repeat (first | apply Kd.R_alloc | apply Kd.R_drewN | apply Kd.R_drew)); exact (Kd.R_mono (Kd.R_far (p := ⟨gb288, 2, none⟩) (Kd.R_far (p := ⟨gb288, 1, none⟩) (Kd.R_far (p := ⟨gb288, 0, none⟩) (Kd.R_mono HO279.out (fun k_ hk => (⟨hk, hk.2⟩ : _ ∧ k_ ≠ gb288))) (fun _ hk => hk.2) (.int .i64 t280)) (fun _ hk => hk.2) (.slice Ao24 t281.length co24)) (fun _ hk => hk.2) (.slice Ao25 t284.length co25)) (fun _ h_ => h_.1))))) (Kd.R_lt (by (with_reducible repeat (first | apply Kd.R_alloc | apply Kd.R_drewN | apply Kd.R_drew)); exact (Kd.R_mono (Kd.R_far (p := ⟨gb288, 2, none⟩) (Kd.R_far (p := ⟨gb288, 1, none⟩) (Kd.R_far (p := ⟨gb288, 0, none⟩) (Kd.R_types HO283.out BK288.out (by decide)) (fun _ hk => hk.2) (.int .i64 t280)) (fun _ hk => hk.2) (.slice Ao24 t281.length co24)) (fun _ hk => hk.2) (.slice Ao25 t284.length co25)) (fun _ h_ => h_.1))))) (Kd.R_lt (by (with_reducible repeat (first | apply Kd.R_alloc | apply Kd.R_drewN | apply Kd.R_drew)); exact (Kd.R_mono (Kd.R_far (p := ⟨gb288, 2, none⟩) (Kd.R_far (p := ⟨gb288, 1, none⟩) (Kd.R_far (p := ⟨gb288, 0, none⟩) (Kd.R_types HO286.out BK288.out (by decide)) (fun _ hk => hk.2) (.int .i64 t280)) (fun _ hk => hk.2) (.slice Ao24 t281.length co24)) (fun _ hk => hk.2) (.slice Ao25 t284.length co25)) (fun _ h_ => h_.1))))) (g := gb288) (o := .cells #[.int .i64 t280, .slice Ao24 t281.length co24, .slice Ao25 t284.length co25] 44 (0, 0)) (sp BK288)) (below_size (sbw))); replace HO279 := Aside0.mk (Kd.R_elder' (by (with_reducible repeat (first | apply Kd.R_alloc | apply Kd.R_drewN | apply Kd.R_drew)); exact (Kd.R_mono (Kd.R_far (p := ⟨gb288, 2, none⟩) (Kd.R_far (p := ⟨gb288, 1, none⟩) (Kd.R_far (p := ⟨gb288, 0, none⟩) (Kd.R_mono HO279.out (fun k_ hk => (⟨hk, hk.2⟩ : _ ∧ k_ ≠ gb288))) (fun _ hk => hk.2) (.int .i64 t280)) (fun _ hk => hk.2) (.slice Ao24 t281.length co24)) (fun _ hk => hk.2) (.slice Ao25 t284.length co25)) (fun _ h_ => h_.1))) (Kd.R_base ho0) hb); replace HO283 := Aside0.mk (Kd.R_below (by (with_reducible repeat (first | apply Kd.R_alloc | apply Kd.R_drewN | apply Kd.R_drew)); exact (Kd.R_mono (Kd.R_far (p := ⟨gb288, 2, none⟩) (Kd.R_far (p := ⟨gb288, 1, none⟩) (Kd.R_far (p := ⟨gb288, 0, none⟩) (Kd.R_types HO283.out BK288.out (by decide)) (fun _ hk => hk.2) (.int .i64 t280)) (fun _ hk => hk.2) (.slice Ao24 t281.length co24)) (fun _ hk => hk.2) (.slice Ao25 t284.length co25)) (fun _ h_ => h_.1))) hb); replace HO286 := Aside0.mk (Kd.R_below (by (with_reducible repeat (first | apply Kd.R_alloc | apply Kd.R_drewN | apply Kd.R_drew)); exact (Kd.R_mono (Kd.R_far (p := ⟨gb288, 2, none⟩) (Kd.R_far (p := ⟨gb288, 1, none⟩) (Kd.R_far (p := ⟨gb288, 0, none⟩) (Kd.R_types HO286.out BK288.out (by decide)) (fun _ hk => hk.2) (.int .i64 t280)) (fun _ hk => hk.2) (.slice Ao24 t281.length co24)) (fun _ hk => hk.2) (.slice Ao25 t284.length co25)) (fun _ h_ => h_.1))) hb); replace BK272 := Aside0.mk (blk_below (g := gb272) (o := .cells #[.int .i64 a0_0, .int .i64 a0_1, .int .i64 a0_2, .slice A0_3 l0_3.length c0_3] 24 (0, 0)) (sp BK272) hb); replace BK288 := Aside0.mk (blk_below (g := gb288) (o := .cells #[.int .i64 t280, .slice Ao24 t281.length co24, .slice Ao25 t284.length co25] 44 (0, 0)) (sp BK288) hb); replace HB := bsw hb; (try clear hb); (try clear hb2); (try clear hk); (try clear hi); (try clear ho0)) | ((with_reducible refine gate_dst (N := 10) rfl ?_); refine bx 10 #[.int .i64 0, .int .i64 0, .int .i64 0, .slice none 0 0] 29 ?_; intro gb295 hg w28 hbox hb; replace HO279 := Aside0.mk (Kd.R_below (sr HO279) hb); replace HO283 := Aside0.mk (Kd.R_below (sr HO283) hb); replace HO286 := Aside0.mk (Kd.R_below (sr HO286) hb); replace HO294 := Aside0.mk (Kd.R_below (sr HO294) hb); have BK295 := Aside0.mk hbox; have GW295 := bzw w hg; have GE295 := bzw w hg; replace HB := bsw hb; have NB272_295 := nl BK272 hg; have NB295_272 := ng BK272 hg; replace BK272 := bb BK272 hb; have NB288_295 := nl BK288 hg; have NB295_288 := ng BK288 hg; replace BK288 := bb BK288 hb; clear hb hbox hg; have hnb29 := NB295_272.out; have hnc29 := NB272_295.out; have hnb30 := NB295_288.out; have hnc30 := NB288_295.out; obtain ⟨hcz31_0, hcz31_1, hcz31_2, hcz31_3, hfz31_0, hfz31_1, hfz31_2, hfz31_3⟩ := cc4 BK295; obtain ⟨Ao32, co32, eo32⟩ := Kd.R_slice HO294.out; subst eo32) | ((with_reducible refine gate_callee (f := 35) rfl ?_); refine gL (some 37) Try.func35 #[.agg #[.int .i64 t289, .int .i64 t290, .int .i64 t291, .slice Ao32 t292.length co32], .int .i64 a1, .int .i64 a2] ?_; (with_reducible refine (impl_TableIn.calls t289 t290 t291 _ _ t292 a1 a2 t296 t297 t300 t303 _ ?side1 ?side2 A12.out).mono ?_); (case side1 => refine (Kd.R_reads' (e := 69) (base := w.heap.size) (ok := fun k_ => ((((True ∧ some k_ ≠ (.slice Ao19 t277.length co19 : Value).ownBlock) ∧ some k_ ≠ (.slice Ao24 t281.length co24 : Value).ownBlock) ∧ some k_ ≠ (.slice Ao25 t284.length co25 : Value).ownBlock) ∧ k_ ≠ gb288)) (n := t292.length) (c := co32) ?_).2.2; exact (by (with_reducible repeat (first | apply Kd.R_alloc | apply Kd.R_drewN | apply Kd.R_drew)); exact (Kd.R_mono (Kd.R_far (p := ⟨gb295, 3, none⟩) (Kd.R_far (p := ⟨gb295, 2, none⟩) (Kd.R_far (p := ⟨gb295, 1, none⟩) (Kd.R_far (p := ⟨gb295, 0, none⟩) (Kd.R_types HO294.out BK295.out (by decide)) (fun _ hk => hk.2) (.int .i64 t289)) (fun _ hk => hk.2) (.int .i64 t290)) (fun _ hk => hk.2) (.int .i64 t291)) (fun _ hk => hk.2) (.slice Ao32 t292.length co32)) (fun _ h_ => h_.1)))); (case side2 => exact (Kd.R_reads' HO294.out).2.1); rintro e w33 ⟨v298, v301, rfl, ho0, ho1, hb⟩; refine ⟨_, rfl, ?_⟩; replace HO279 := Aside0.mk (Kd.R_mono (Kd.R_told (Kd.R_told (Kd.R_old (by (with_reducible repeat (first | apply Kd.R_alloc | apply Kd.R_drewN | apply Kd.R_drew)); exact (Kd.R_mono (Kd.R_far (p := ⟨gb295, 3, none⟩) (Kd.R_far (p := ⟨gb295, 2, none⟩) (Kd.R_far (p := ⟨gb295, 1, none⟩) (Kd.R_far (p := ⟨gb295, 0, none⟩) (Kd.R_types HO279.out BK295.out (by decide)) (fun _ hk => hk.2) (.int .i64 t289)) (fun _ hk => hk.2) (.int .i64 t290)) (fun _ hk => hk.2) (.int .i64 t291)) (fun _ hk => hk.2) (.slice Ao32 t292.length co32)) (fun _ h_ => h_.1))) hb) (Kd.R_base ho0)) (Kd.R_base ho1)) (fun _ h_ => h_.1)); replace HO294 := Aside0.mk (Kd.R_mono (Kd.R_told (Kd.R_told (Kd.R_old (by (with_reducible repeat (first | apply Kd.R_alloc | apply Kd.R_drewN | apply Kd.R_drew)); exact (Kd.R_mono (Kd.R_far (p := ⟨gb295, 3, none⟩) (Kd.R_far (p := ⟨gb295, 2, none⟩) (Kd.R_far (p := ⟨gb295, 1, none⟩) (Kd.R_far (p := ⟨gb295, 0, none⟩) (Kd.R_types HO294.out BK295.out (by decide)) (fun _ hk => hk.2) (.int .i64 t289)) (fun _ hk => hk.2) (.int .i64 t290)) (fun _ hk => hk.2) (.int .i64 t291)) (fun _ hk => hk.2) (.slice Ao32 t292.length co32)) (fun _ h_ => h_.1))) hb) (Kd.R_base ho0)) (Kd.R_base ho1)) (fun _ h_ => h_.1)); have HO299 := Aside0.mk (Kd.R_lower (Kd.R_new' (Kd.R_new' ho0 (Kd.R_lt (by (with_reducible repeat (first | apply Kd.R_alloc | apply Kd.R_drewN | apply Kd.R_drew)); exact (Kd.R_mono (Kd.R_far (p := ⟨gb295, 3, none⟩) (Kd.R_far (p := ⟨gb295, 2, none⟩) (Kd.R_far (p := ⟨gb295, 1, none⟩) (Kd.R_far (p := ⟨gb295, 0, none⟩) (Kd.R_types HO283.out BK295.out (by decide)) (fun _ hk => hk.2) (.int .i64 t289)) (fun _ hk => hk.2) (.int .i64 t290)) (fun _ hk => hk.2) (.int .i64 t291)) (fun _ hk => hk.2) (.slice Ao32 t292.length co32)) (fun _ h_ => h_.1))))) (Kd.R_lt (by (with_reducible repeat (first | apply Kd.R_alloc | apply Kd.R_drewN | apply Kd.R_drew)); exact (Kd.R_mono (Kd.R_far (p := ⟨gb295, 3, none⟩) (Kd.R_far (p := ⟨gb295, 2, none⟩) (Kd.R_far (p := ⟨gb295, 1, none⟩) (Kd.R_far (p := ⟨gb295, 0, none⟩) (Kd.R_types HO286.out BK295.out (by decide)) (fun _ hk => hk.2) (.int .i64 t289)) (fun _ hk => hk.2) (.int .i64 t290)) (fun _ hk => hk.2) (.int .i64 t291)) (fun _ hk => hk.2) (.slice Ao32 t292.length co32)) (fun _ h_ => h_.1))))) (below_size (sbw))); have HO302 := Aside0.mk (Kd.R_lower (Kd.R_new' (Kd.R_new' ho1 (Kd.R_lt (by (with_reducible repeat (first | apply Kd.R_alloc | apply Kd.R_drewN | apply Kd.R_drew)); exact (Kd.R_mono (Kd.R_far (p := ⟨gb295, 3, none⟩) (Kd.R_far (p := ⟨gb295, 2, none⟩) (Kd.R_far (p := ⟨gb295, 1, none⟩) (Kd.R_far (p := ⟨gb295, 0, none⟩) (Kd.R_types HO283.out BK295.out (by decide)) (fun _ hk => hk.2) (.int .i64 t289)) (fun _ hk => hk.2) (.int .i64 t290)) (fun _ hk => hk.2) (.int .i64 t291)) (fun _ hk => hk.2) (.slice Ao32 t292.length co32)) (fun _ h_ => h_.1))))) (Kd.R_lt (by (with_reducible repeat (first | apply Kd.R_alloc | apply Kd.R_drewN | apply Kd.R_drew)); exact (Kd.R_mono (Kd.R_far (p := ⟨gb295, 3, none⟩) (Kd.R_far (p := ⟨gb295, 2, none⟩) (Kd.R_far (p := ⟨gb295, 1, none⟩) (Kd.R_far (p := ⟨gb295, 0, none⟩) (Kd.R_types HO286.out BK295.out (by decide)) (fun _ hk => hk.2) (.int .i64 t289)) (fun _ hk => hk.2) (.int .i64 t290)) (fun _ hk => hk.2) (.int .i64 t291)) (fun _ hk => hk.2) (.slice Ao32 t292.length co32)) (fun _ h_ => h_.1))))) (below_size (sbw))); replace HO283 := Aside0.mk (Kd.R_mono (Kd.R_told (Kd.R_told (Kd.R_old (by (with_reducible repeat (first | apply Kd.R_alloc | apply Kd.R_drewN | apply Kd.R_drew)); exact (Kd.R_mono (Kd.R_far (p := ⟨gb295, 3, none⟩) (Kd.R_far (p := ⟨gb295, 2, none⟩) (Kd.R_far (p := ⟨gb295, 1, none⟩) (Kd.R_far (p := ⟨gb295, 0, none⟩) (Kd.R_types HO283.out BK295.out (by decide)) (fun _ hk => hk.2) (.int .i64 t289)) (fun _ hk => hk.2) (.int .i64 t290)) (fun _ hk => hk.2) (.int .i64 t291)) (fun _ hk => hk.2) (.slice Ao32 t292.length co32)) (fun _ h_ => h_.1))) hb) (Kd.R_base ho0)) (Kd.R_base ho1)) (fun _ h_ => h_.1)); replace HO286 := Aside0.mk (Kd.R_mono (Kd.R_told (Kd.R_told (Kd.R_old (by (with_reducible repeat (first | apply Kd.R_alloc | apply Kd.R_drewN | apply Kd.R_drew)); exact (Kd.R_mono (Kd.R_far (p := ⟨gb295, 3, none⟩) (Kd.R_far (p := ⟨gb295, 2, none⟩) (Kd.R_far (p := ⟨gb295, 1, none⟩) (Kd.R_far (p := ⟨gb295, 0, none⟩) (Kd.R_types HO286.out BK295.out (by decide)) (fun _ hk => hk.2) (.int .i64 t289)) (fun _ hk => hk.2) (.int .i64 t290)) (fun _ hk => hk.2) (.int .i64 t291)) (fun _ hk => hk.2) (.slice Ao32 t292.length co32)) (fun _ h_ => h_.1))) hb) (Kd.R_base ho0)) (Kd.R_base ho1)) (fun _ h_ => h_.1)); replace BK272 := Aside0.mk (blk_below (g := gb272) (o := .cells #[.int .i64 a0_0, .int .i64 a0_1, .int .i64 a0_2, .slice A0_3 l0_3.length c0_3] 24 (0, 0)) (sp BK272) hb); replace BK288 := Aside0.mk (blk_below (g := gb288) (o := .cells #[.int .i64 t280, .slice Ao24 t281.length co24, .slice Ao25 t284.length co25] 44 (0, 0)) (sp BK288) hb); replace BK295 := Aside0.mk (blk_below (g := gb295) (o := .cells #[.int .i64 t289, .int .i64 t290, .int .i64 t291, .slice Ao32 t292.length co32] 29 (0, 0)) (sp BK295) hb); replace HB := bsw hb; (try clear hb); (try clear hb2); (try clear hk); (try clear hi); (try clear ho0); (try clear ho1)) | ((with_reducible refine gate_dst (N := 11) rfl ?_); refine bx 11 #[.int .i64 0, .slice none 0 0, .slice none 0 0] 44 ?_; intro gb304 hg w34 hbox hb; replace HO279 := Aside0.mk (Kd.R_below (Kd.R_elderB (sr HO279) gb304 (Nat.le_of_eq hg.symm)) hb); replace HO283 := Aside0.mk (Kd.R_below (sr HO283) hb); replace HO286 := Aside0.mk (Kd.R_below (sr HO286) hb); replace HO294 := Aside0.mk (Kd.R_below (Kd.R_elderB (sr HO294) gb304 (Nat.le_of_eq hg.symm)) hb); replace HO299 := Aside0.mk (Kd.R_below (sr HO299) hb); replace HO302 := Aside0.mk (Kd.R_below (sr HO302) hb); have BK304 := Aside0.mk hbox; have GW304 := bzw w hg; have GE304 := bzw w hg; replace HB := bsw hb; have NB272_304 := nl BK272 hg; have NB304_272 := ng BK272 hg; replace BK272 := bb BK272 hb; have NB288_304 := nl BK288 hg; have NB304_288 := ng BK288 hg; replace BK288 := bb BK288 hb; have NB295_304 := nl BK295 hg; have NB304_295 := ng BK295 hg; replace BK295 := bb BK295 hb; clear hb hbox hg; have hnb35 := NB304_272.out; have hnc35 := NB272_304.out; have hnb36 := NB304_288.out; have hnc36 := NB288_304.out; have hnb37 := NB304_295.out; have hnc37 := NB295_304.out; obtain ⟨hcz38_0, hcz38_1, hcz38_2, hfz38_0, hfz38_1, hfz38_2⟩ := cc3 BK304; obtain ⟨Ao39, co39, eo39⟩ := Kd.R_slice HO299.out; subst eo39; obtain ⟨Ao40, co40, eo40⟩ := Kd.R_slice HO302.out; subst eo40))
  (try simp only [Act.put, List.setIfInBounds_toArray, List.set_cons_zero, List.set_cons_succ])
  go_cut [48] (fun v48 wc => ∃ (kq : Nat) (x48_12 : Bool), v48 = .bool x48_12 ∧ Aside0 (laws_FnExactTableIn.j0 kq a1 a2 t287 t303 x48_12 a0_0 a0_1 a0_2 l0_3 t280 t281 t284 t289 t290 t291 t292 t296 t297 t300 = some r) ∧ Aside0 (kq ≤ k) ∧ Aside0 (Kd.R (Kd.int .i64) 3 wc w.heap.size (fun k_ => some k_ ≠ ((.slice Ao25 t284.length co25) : Value).ownBlock ∧ some k_ ≠ ((.slice Ao39 t297.length co39) : Value).ownBlock ∧ some k_ ≠ ((.slice Ao40 t300.length co40) : Value).ownBlock) (.slice Ao24 t281.length co24) t281) ∧ Aside0 (Kd.R (Kd.int .i64) 3 wc w.heap.size (fun k_ => some k_ ≠ ((.slice Ao24 t281.length co24) : Value).ownBlock ∧ some k_ ≠ ((.slice Ao39 t297.length co39) : Value).ownBlock ∧ some k_ ≠ ((.slice Ao40 t300.length co40) : Value).ownBlock) (.slice Ao25 t284.length co25) t284) ∧ Aside0 (Kd.R k69 69 wc w.heap.size (fun k_ => some k_ ≠ ((.slice Ao24 t281.length co24) : Value).ownBlock ∧ some k_ ≠ ((.slice Ao25 t284.length co25) : Value).ownBlock ∧ some k_ ≠ ((.slice Ao39 t297.length co39) : Value).ownBlock ∧ some k_ ≠ ((.slice Ao40 t300.length co40) : Value).ownBlock ∧ k_ ≠ gb288 ∧ k_ ≠ gb304) (.slice Ao32 t292.length co32) t292) ∧ Aside0 (Kd.R (Kd.int .i64) 3 wc w.heap.size (fun k_ => some k_ ≠ ((.slice Ao24 t281.length co24) : Value).ownBlock ∧ some k_ ≠ ((.slice Ao25 t284.length co25) : Value).ownBlock ∧ some k_ ≠ ((.slice Ao40 t300.length co40) : Value).ownBlock) (.slice Ao39 t297.length co39) t297) ∧ Aside0 (Kd.R (Kd.int .i64) 3 wc w.heap.size (fun k_ => some k_ ≠ ((.slice Ao24 t281.length co24) : Value).ownBlock ∧ some k_ ≠ ((.slice Ao25 t284.length co25) : Value).ownBlock ∧ some k_ ≠ ((.slice Ao39 t297.length co39) : Value).ownBlock) (.slice Ao40 t300.length co40) t300) ∧ Aside0 (wc.heap[gb272]? = some (.cells #[.int .i64 a0_0, .int .i64 a0_1, .int .i64 a0_2, (.slice A0_3 l0_3.length c0_3)] 24 (0, 0))) ∧ Aside0 (wc.heap[gb288]? = some (.cells #[.int .i64 t280, (.slice Ao24 t281.length co24), (.slice Ao25 t284.length co25)] 44 (0, 0))) ∧ Aside0 (wc.heap[gb295]? = some (.cells #[.int .i64 t289, .int .i64 t290, .int .i64 t291, (.slice Ao32 t292.length co32)] 29 (0, 0))) ∧ Aside0 (wc.heap[gb304]? = some (.cells #[.int .i64 t296, (.slice Ao39 t297.length co39), (.slice Ao40 t300.length co40)] 44 (0, 0))) ∧ Aside0 (Below w.heap.size w wc))
  case first =>
   have H := HC13.out
   clear HC13
   obtain ⟨t305, A41, H⟩ := bnd H
   obtain rfl | rfl := tt t305
   ·replace H := ip H
    have H' := Aside0.mk H
    clear H
    have hnb43 := NB304_272.out
    have hnc43 := NB272_304.out
    have hnb44 := NB304_288.out
    have hnc44 := NB288_304.out
    have hnb45 := NB304_295.out
    have hnc45 := NB295_304.out
    obtain ⟨hcz46_0, hcz46_1, hcz46_2, hfz46_0, hfz46_1, hfz46_2⟩ := cc3 BK304
    have hnb47 := NB288_272.out
    have hnc47 := NB272_288.out
    have hnb48 := NB288_295.out
    have hnc48 := NB295_288.out
    obtain ⟨hcz49_0, hcz49_1, hcz49_2, hfz49_0, hfz49_1, hfz49_2⟩ := cc3 BK288
    go_wp2_with (first | ((with_reducible refine gate_callee (f := 36) rfl ?_); refine gL (some 42) Try.func36 #[.agg #[.int .i64 t296, .slice Ao39 t297.length co39, .slice Ao40 t300.length co40], .agg #[.int .i64 t280, .slice Ao24 t281.length co24, .slice Ao25 t284.length co25]] ?_; (with_reducible refine (laws_eqTable.calls k t296 _ _ t297 _ _ t300 t280 _ _ t281 _ _ t284 true _ ?side1 ?side2 ?side3 ?side4 ?side5 ?side6 ?side7 ?side8 A41.out).mono ?_); (case side1 => refine (Kd.R_reads' (e := 3) (base := w.heap.size) (ok := fun k_ => ((some k_ ≠ (.slice Ao40 t300.length co40 : Value).ownBlock ∧ some k_ ≠ (.slice Ao24 t281.length co24 : Value).ownBlock) ∧ some k_ ≠ (.slice Ao25 t284.length co25 : Value).ownBlock)) (n := t297.length) (c := co39) ?_).2.2; exact (by (with_reducible repeat (first | apply Kd.R_alloc | apply Kd.R_drewN | apply Kd.R_drew)); exact (Kd.R_mono (Kd.R_far (p := ⟨gb304, 2, none⟩) (Kd.R_far (p := ⟨gb304, 1, none⟩) (Kd.R_far (p := ⟨gb304, 0, none⟩) (Kd.R_types HO299.out BK304.out (by decide)) (fun _ hk => hk.2) (.int .i64 t296)) (fun _ hk => hk.2) (.slice Ao39 t297.length co39)) (fun _ hk => hk.2) (.slice Ao40 t300.length co40)) (fun _ h_ => h_.1)))); (case side2 => exact (Kd.R_reads' HO299.out).2.1); (case side3 => refine (Kd.R_reads' (e := 3) (base := w.heap.size) (ok := fun k_ => ((some k_ ≠ (.slice Ao39 t297.length co39 : Value).ownBlock ∧ some k_ ≠ (.slice Ao24 t281.length co24 : Value).ownBlock) ∧ some k_ ≠ (.slice Ao25 t284.length co25 : Value).ownBlock)) (n := t300.length) (c := co40) ?_).2.2; exact (by (with_reducible repeat (first | apply Kd.R_alloc | apply Kd.R_drewN | apply Kd.R_drew)); exact (Kd.R_mono (Kd.R_far (p := ⟨gb304, 2, none⟩) (Kd.R_far (p := ⟨gb304, 1, none⟩) (Kd.R_far (p := ⟨gb304, 0, none⟩) (Kd.R_types HO302.out BK304.out (by decide)) (fun _ hk => hk.2) (.int .i64 t296)) (fun _ hk => hk.2) (.slice Ao39 t297.length co39)) (fun _ hk => hk.2) (.slice Ao40 t300.length co40)) (fun _ h_ => h_.1)))); (case side4 => exact (Kd.R_reads' HO302.out).2.1); (case side5 => refine (Kd.R_reads' (e := 3) (base := w.heap.size) (ok := fun k_ => ((some k_ ≠ (.slice Ao25 t284.length co25 : Value).ownBlock ∧ some k_ ≠ (.slice Ao39 t297.length co39 : Value).ownBlock) ∧ some k_ ≠ (.slice Ao40 t300.length co40 : Value).ownBlock)) (n := t281.length) (c := co24) ?_).2.2; exact (by (with_reducible repeat (first | apply Kd.R_alloc | apply Kd.R_drewN | apply Kd.R_drew)); exact (Kd.R_mono (Kd.R_far (p := ⟨gb304, 2, none⟩) (Kd.R_far (p := ⟨gb304, 1, none⟩) (Kd.R_far (p := ⟨gb304, 0, none⟩) (Kd.R_types HO283.out BK304.out (by decide)) (fun _ hk => hk.2) (.int .i64 t296)) (fun _ hk => hk.2) (.slice Ao39 t297.length co39)) (fun _ hk => hk.2) (.slice Ao40 t300.length co40)) (fun _ h_ => h_.1)))); (case side6 => exact (Kd.R_reads' HO283.out).2.1); (case side7 => refine (Kd.R_reads' (e := 3) (base := w.heap.size) (ok := fun k_ => ((some k_ ≠ (.slice Ao24 t281.length co24 : Value).ownBlock ∧ some k_ ≠ (.slice Ao39 t297.length co39 : Value).ownBlock) ∧ some k_ ≠ (.slice Ao40 t300.length co40 : Value).ownBlock)) (n := t284.length) (c := co25) ?_).2.2; exact (by (with_reducible repeat (first | apply Kd.R_alloc | apply Kd.R_drewN | apply Kd.R_drew)); exact (Kd.R_mono (Kd.R_far (p := ⟨gb304, 2, none⟩) (Kd.R_far (p := ⟨gb304, 1, none⟩) (Kd.R_far (p := ⟨gb304, 0, none⟩) (Kd.R_types HO286.out BK304.out (by decide)) (fun _ hk => hk.2) (.int .i64 t296)) (fun _ hk => hk.2) (.slice Ao39 t297.length co39)) (fun _ hk => hk.2) (.slice Ao40 t300.length co40)) (fun _ h_ => h_.1)))); (case side8 => exact (Kd.R_reads' HO286.out).2.1); rintro e w50 ⟨rfl, hb⟩; refine ⟨_, rfl, ?_⟩; replace HO279 := Aside0.mk (Kd.R_below (by (with_reducible repeat (first | apply Kd.R_alloc | apply Kd.R_drewN | apply Kd.R_drew)); exact (Kd.R_mono (Kd.R_far (p := ⟨gb304, 2, none⟩) (Kd.R_far (p := ⟨gb304, 1, none⟩) (Kd.R_far (p := ⟨gb304, 0, none⟩) (Kd.R_mono HO279.out (fun k_ hk => (⟨hk, hk.2⟩ : _ ∧ k_ ≠ gb304))) (fun _ hk => hk.2) (.int .i64 t296)) (fun _ hk => hk.2) (.slice Ao39 t297.length co39)) (fun _ hk => hk.2) (.slice Ao40 t300.length co40)) (fun _ h_ => h_.1))) hb); replace HO283 := Aside0.mk (Kd.R_below (by (with_reducible repeat (first | apply Kd.R_alloc | apply Kd.R_drewN | apply Kd.R_drew)); exact (Kd.R_mono (Kd.R_far (p := ⟨gb304, 2, none⟩) (Kd.R_far (p := ⟨gb304, 1, none⟩) (Kd.R_far (p := ⟨gb304, 0, none⟩) (Kd.R_types HO283.out BK304.out (by decide)) (fun _ hk => hk.2) (.int .i64 t296)) (fun _ hk => hk.2) (.slice Ao39 t297.length co39)) (fun _ hk => hk.2) (.slice Ao40 t300.length co40)) (fun _ h_ => h_.1))) hb); replace HO286 := Aside0.mk (Kd.R_below (by (with_reducible repeat (first | apply Kd.R_alloc | apply Kd.R_drewN | apply Kd.R_drew)); exact (Kd.R_mono (Kd.R_far (p := ⟨gb304, 2, none⟩) (Kd.R_far (p := ⟨gb304, 1, none⟩) (Kd.R_far (p := ⟨gb304, 0, none⟩) (Kd.R_types HO286.out BK304.out (by decide)) (fun _ hk => hk.2) (.int .i64 t296)) (fun _ hk => hk.2) (.slice Ao39 t297.length co39)) (fun _ hk => hk.2) (.slice Ao40 t300.length co40)) (fun _ h_ => h_.1))) hb); replace HO294 := Aside0.mk (Kd.R_below (by (with_reducible repeat (first | apply Kd.R_alloc | apply Kd.R_drewN | apply Kd.R_drew)); exact (Kd.R_mono (Kd.R_far (p := ⟨gb304, 2, none⟩) (Kd.R_far (p := ⟨gb304, 1, none⟩) (Kd.R_far (p := ⟨gb304, 0, none⟩) (Kd.R_mono HO294.out (fun k_ hk => (⟨hk, hk.2⟩ : _ ∧ k_ ≠ gb304))) (fun _ hk => hk.2) (.int .i64 t296)) (fun _ hk => hk.2) (.slice Ao39 t297.length co39)) (fun _ hk => hk.2) (.slice Ao40 t300.length co40)) (fun _ h_ => h_.1))) hb); replace HO299 := Aside0.mk (Kd.R_below (by (with_reducible repeat (first | apply Kd.R_alloc | apply Kd.R_drewN | apply Kd.R_drew)); exact (Kd.R_mono (Kd.R_far (p := ⟨gb304, 2, none⟩) (Kd.R_far (p := ⟨gb304, 1, none⟩) (Kd.R_far (p := ⟨gb304, 0, none⟩) (Kd.R_types HO299.out BK304.out (by decide)) (fun _ hk => hk.2) (.int .i64 t296)) (fun _ hk => hk.2) (.slice Ao39 t297.length co39)) (fun _ hk => hk.2) (.slice Ao40 t300.length co40)) (fun _ h_ => h_.1))) hb); replace HO302 := Aside0.mk (Kd.R_below (by (with_reducible repeat (first | apply Kd.R_alloc | apply Kd.R_drewN | apply Kd.R_drew)); exact (Kd.R_mono (Kd.R_far (p := ⟨gb304, 2, none⟩) (Kd.R_far (p := ⟨gb304, 1, none⟩) (Kd.R_far (p := ⟨gb304, 0, none⟩) (Kd.R_types HO302.out BK304.out (by decide)) (fun _ hk => hk.2) (.int .i64 t296)) (fun _ hk => hk.2) (.slice Ao39 t297.length co39)) (fun _ hk => hk.2) (.slice Ao40 t300.length co40)) (fun _ h_ => h_.1))) hb); replace BK272 := Aside0.mk (blk_below (g := gb272) (o := .cells #[.int .i64 a0_0, .int .i64 a0_1, .int .i64 a0_2, .slice A0_3 l0_3.length c0_3] 24 (0, 0)) (sp BK272) hb); replace BK288 := Aside0.mk (blk_below (g := gb288) (o := .cells #[.int .i64 t280, .slice Ao24 t281.length co24, .slice Ao25 t284.length co25] 44 (0, 0)) (sp BK288) hb); replace BK295 := Aside0.mk (blk_below (g := gb295) (o := .cells #[.int .i64 t289, .int .i64 t290, .int .i64 t291, .slice Ao32 t292.length co32] 29 (0, 0)) (sp BK295) hb); replace BK304 := Aside0.mk (blk_below (g := gb304) (o := .cells #[.int .i64 t296, .slice Ao39 t297.length co39, .slice Ao40 t300.length co40] 44 (0, 0)) (sp BK304) hb); replace HB := bsw hb; (try clear hb); (try clear hb2); (try clear hk); (try clear hi)))
    go_meet
    case rel => exact ⟨_, ((t303 != t287)), sc, H', ⟨by first | omega | exact Nat.le_refl _⟩, ⟨by (with_reducible repeat (first | apply Kd.R_alloc | apply Kd.R_drewN | apply Kd.R_drew)); exact Kd.R_mono HO283.out (fun _ hk => ⟨hk.1.1, ⟨hk.1.2, hk.2⟩⟩)⟩, ⟨by (with_reducible repeat (first | apply Kd.R_alloc | apply Kd.R_drewN | apply Kd.R_drew)); exact Kd.R_mono HO286.out (fun _ hk => ⟨hk.1.1, ⟨hk.1.2, hk.2⟩⟩)⟩, ⟨by (with_reducible repeat (first | apply Kd.R_alloc | apply Kd.R_drewN | apply Kd.R_drew)); exact Kd.R_mono HO294.out (fun _ hk => ⟨hk.1.1.1.1.1.2, ⟨hk.1.1.1.1.2, ⟨hk.1.1.2, ⟨hk.1.2, ⟨hk.1.1.1.2, hk.2⟩⟩⟩⟩⟩)⟩, ⟨by (with_reducible repeat (first | apply Kd.R_alloc | apply Kd.R_drewN | apply Kd.R_drew)); exact Kd.R_mono HO299.out (fun _ hk => ⟨hk.1.2, ⟨hk.2, hk.1.1⟩⟩)⟩, ⟨by (with_reducible repeat (first | apply Kd.R_alloc | apply Kd.R_drewN | apply Kd.R_drew)); exact Kd.R_mono HO302.out (fun _ hk => ⟨hk.1.2, ⟨hk.2, hk.1.1⟩⟩)⟩, ⟨sk BK272⟩, ⟨sk BK288⟩, ⟨sk BK295⟩, ⟨sk BK304⟩, ⟨sbw⟩⟩
   ·replace H := im H
    have H' := Aside0.mk H
    clear H
    have hnb51 := NB304_272.out
    have hnc51 := NB272_304.out
    have hnb52 := NB304_288.out
    have hnc52 := NB288_304.out
    have hnb53 := NB304_295.out
    have hnc53 := NB295_304.out
    obtain ⟨hcz54_0, hcz54_1, hcz54_2, hfz54_0, hfz54_1, hfz54_2⟩ := cc3 BK304
    have hnb55 := NB288_272.out
    have hnc55 := NB272_288.out
    have hnb56 := NB288_295.out
    have hnc56 := NB295_288.out
    obtain ⟨hcz57_0, hcz57_1, hcz57_2, hfz57_0, hfz57_1, hfz57_2⟩ := cc3 BK288
    go_wp2_with (first | ((with_reducible refine gate_callee (f := 36) rfl ?_); refine gL (some 42) Try.func36 #[.agg #[.int .i64 t296, .slice Ao39 t297.length co39, .slice Ao40 t300.length co40], .agg #[.int .i64 t280, .slice Ao24 t281.length co24, .slice Ao25 t284.length co25]] ?_; (with_reducible refine (laws_eqTable.calls k t296 _ _ t297 _ _ t300 t280 _ _ t281 _ _ t284 false _ ?side1 ?side2 ?side3 ?side4 ?side5 ?side6 ?side7 ?side8 A41.out).mono ?_); (case side1 => refine (Kd.R_reads' (e := 3) (base := w.heap.size) (ok := fun k_ => ((some k_ ≠ (.slice Ao40 t300.length co40 : Value).ownBlock ∧ some k_ ≠ (.slice Ao24 t281.length co24 : Value).ownBlock) ∧ some k_ ≠ (.slice Ao25 t284.length co25 : Value).ownBlock)) (n := t297.length) (c := co39) ?_).2.2; exact (by (with_reducible repeat (first | apply Kd.R_alloc | apply Kd.R_drewN | apply Kd.R_drew)); exact (Kd.R_mono (Kd.R_far (p := ⟨gb304, 2, none⟩) (Kd.R_far (p := ⟨gb304, 1, none⟩) (Kd.R_far (p := ⟨gb304, 0, none⟩) (Kd.R_types HO299.out BK304.out (by decide)) (fun _ hk => hk.2) (.int .i64 t296)) (fun _ hk => hk.2) (.slice Ao39 t297.length co39)) (fun _ hk => hk.2) (.slice Ao40 t300.length co40)) (fun _ h_ => h_.1)))); (case side2 => exact (Kd.R_reads' HO299.out).2.1); (case side3 => refine (Kd.R_reads' (e := 3) (base := w.heap.size) (ok := fun k_ => ((some k_ ≠ (.slice Ao39 t297.length co39 : Value).ownBlock ∧ some k_ ≠ (.slice Ao24 t281.length co24 : Value).ownBlock) ∧ some k_ ≠ (.slice Ao25 t284.length co25 : Value).ownBlock)) (n := t300.length) (c := co40) ?_).2.2; exact (by (with_reducible repeat (first | apply Kd.R_alloc | apply Kd.R_drewN | apply Kd.R_drew)); exact (Kd.R_mono (Kd.R_far (p := ⟨gb304, 2, none⟩) (Kd.R_far (p := ⟨gb304, 1, none⟩) (Kd.R_far (p := ⟨gb304, 0, none⟩) (Kd.R_types HO302.out BK304.out (by decide)) (fun _ hk => hk.2) (.int .i64 t296)) (fun _ hk => hk.2) (.slice Ao39 t297.length co39)) (fun _ hk => hk.2) (.slice Ao40 t300.length co40)) (fun _ h_ => h_.1)))); (case side4 => exact (Kd.R_reads' HO302.out).2.1); (case side5 => refine (Kd.R_reads' (e := 3) (base := w.heap.size) (ok := fun k_ => ((some k_ ≠ (.slice Ao25 t284.length co25 : Value).ownBlock ∧ some k_ ≠ (.slice Ao39 t297.length co39 : Value).ownBlock) ∧ some k_ ≠ (.slice Ao40 t300.length co40 : Value).ownBlock)) (n := t281.length) (c := co24) ?_).2.2; exact (by (with_reducible repeat (first | apply Kd.R_alloc | apply Kd.R_drewN | apply Kd.R_drew)); exact (Kd.R_mono (Kd.R_far (p := ⟨gb304, 2, none⟩) (Kd.R_far (p := ⟨gb304, 1, none⟩) (Kd.R_far (p := ⟨gb304, 0, none⟩) (Kd.R_types HO283.out BK304.out (by decide)) (fun _ hk => hk.2) (.int .i64 t296)) (fun _ hk => hk.2) (.slice Ao39 t297.length co39)) (fun _ hk => hk.2) (.slice Ao40 t300.length co40)) (fun _ h_ => h_.1)))); (case side6 => exact (Kd.R_reads' HO283.out).2.1); (case side7 => refine (Kd.R_reads' (e := 3) (base := w.heap.size) (ok := fun k_ => ((some k_ ≠ (.slice Ao24 t281.length co24 : Value).ownBlock ∧ some k_ ≠ (.slice Ao39 t297.length co39 : Value).ownBlock) ∧ some k_ ≠ (.slice Ao40 t300.length co40 : Value).ownBlock)) (n := t284.length) (c := co25) ?_).2.2; exact (by (with_reducible repeat (first | apply Kd.R_alloc | apply Kd.R_drewN | apply Kd.R_drew)); exact (Kd.R_mono (Kd.R_far (p := ⟨gb304, 2, none⟩) (Kd.R_far (p := ⟨gb304, 1, none⟩) (Kd.R_far (p := ⟨gb304, 0, none⟩) (Kd.R_types HO286.out BK304.out (by decide)) (fun _ hk => hk.2) (.int .i64 t296)) (fun _ hk => hk.2) (.slice Ao39 t297.length co39)) (fun _ hk => hk.2) (.slice Ao40 t300.length co40)) (fun _ h_ => h_.1)))); (case side8 => exact (Kd.R_reads' HO286.out).2.1); rintro e w58 ⟨rfl, hb⟩; refine ⟨_, rfl, ?_⟩; replace HO279 := Aside0.mk (Kd.R_below (by (with_reducible repeat (first | apply Kd.R_alloc | apply Kd.R_drewN | apply Kd.R_drew)); exact (Kd.R_mono (Kd.R_far (p := ⟨gb304, 2, none⟩) (Kd.R_far (p := ⟨gb304, 1, none⟩) (Kd.R_far (p := ⟨gb304, 0, none⟩) (Kd.R_mono HO279.out (fun k_ hk => (⟨hk, hk.2⟩ : _ ∧ k_ ≠ gb304))) (fun _ hk => hk.2) (.int .i64 t296)) (fun _ hk => hk.2) (.slice Ao39 t297.length co39)) (fun _ hk => hk.2) (.slice Ao40 t300.length co40)) (fun _ h_ => h_.1))) hb); replace HO283 := Aside0.mk (Kd.R_below (by (with_reducible repeat (first | apply Kd.R_alloc | apply Kd.R_drewN | apply Kd.R_drew)); exact (Kd.R_mono (Kd.R_far (p := ⟨gb304, 2, none⟩) (Kd.R_far (p := ⟨gb304, 1, none⟩) (Kd.R_far (p := ⟨gb304, 0, none⟩) (Kd.R_types HO283.out BK304.out (by decide)) (fun _ hk => hk.2) (.int .i64 t296)) (fun _ hk => hk.2) (.slice Ao39 t297.length co39)) (fun _ hk => hk.2) (.slice Ao40 t300.length co40)) (fun _ h_ => h_.1))) hb); replace HO286 := Aside0.mk (Kd.R_below (by (with_reducible repeat (first | apply Kd.R_alloc | apply Kd.R_drewN | apply Kd.R_drew)); exact (Kd.R_mono (Kd.R_far (p := ⟨gb304, 2, none⟩) (Kd.R_far (p := ⟨gb304, 1, none⟩) (Kd.R_far (p := ⟨gb304, 0, none⟩) (Kd.R_types HO286.out BK304.out (by decide)) (fun _ hk => hk.2) (.int .i64 t296)) (fun _ hk => hk.2) (.slice Ao39 t297.length co39)) (fun _ hk => hk.2) (.slice Ao40 t300.length co40)) (fun _ h_ => h_.1))) hb); replace HO294 := Aside0.mk (Kd.R_below (by (with_reducible repeat (first | apply Kd.R_alloc | apply Kd.R_drewN | apply Kd.R_drew)); exact (Kd.R_mono (Kd.R_far (p := ⟨gb304, 2, none⟩) (Kd.R_far (p := ⟨gb304, 1, none⟩) (Kd.R_far (p := ⟨gb304, 0, none⟩) (Kd.R_mono HO294.out (fun k_ hk => (⟨hk, hk.2⟩ : _ ∧ k_ ≠ gb304))) (fun _ hk => hk.2) (.int .i64 t296)) (fun _ hk => hk.2) (.slice Ao39 t297.length co39)) (fun _ hk => hk.2) (.slice Ao40 t300.length co40)) (fun _ h_ => h_.1))) hb); replace HO299 := Aside0.mk (Kd.R_below (by (with_reducible repeat (first | apply Kd.R_alloc | apply Kd.R_drewN | apply Kd.R_drew)); exact (Kd.R_mono (Kd.R_far (p := ⟨gb304, 2, none⟩) (Kd.R_far (p := ⟨gb304, 1, none⟩) (Kd.R_far (p := ⟨gb304, 0, none⟩) (Kd.R_types HO299.out BK304.out (by decide)) (fun _ hk => hk.2) (.int .i64 t296)) (fun _ hk => hk.2) (.slice Ao39 t297.length co39)) (fun _ hk => hk.2) (.slice Ao40 t300.length co40)) (fun _ h_ => h_.1))) hb); replace HO302 := Aside0.mk (Kd.R_below (by (with_reducible repeat (first | apply Kd.R_alloc | apply Kd.R_drewN | apply Kd.R_drew)); exact (Kd.R_mono (Kd.R_far (p := ⟨gb304, 2, none⟩) (Kd.R_far (p := ⟨gb304, 1, none⟩) (Kd.R_far (p := ⟨gb304, 0, none⟩) (Kd.R_types HO302.out BK304.out (by decide)) (fun _ hk => hk.2) (.int .i64 t296)) (fun _ hk => hk.2) (.slice Ao39 t297.length co39)) (fun _ hk => hk.2) (.slice Ao40 t300.length co40)) (fun _ h_ => h_.1))) hb); replace BK272 := Aside0.mk (blk_below (g := gb272) (o := .cells #[.int .i64 a0_0, .int .i64 a0_1, .int .i64 a0_2, .slice A0_3 l0_3.length c0_3] 24 (0, 0)) (sp BK272) hb); replace BK288 := Aside0.mk (blk_below (g := gb288) (o := .cells #[.int .i64 t280, .slice Ao24 t281.length co24, .slice Ao25 t284.length co25] 44 (0, 0)) (sp BK288) hb); replace BK295 := Aside0.mk (blk_below (g := gb295) (o := .cells #[.int .i64 t289, .int .i64 t290, .int .i64 t291, .slice Ao32 t292.length co32] 29 (0, 0)) (sp BK295) hb); replace BK304 := Aside0.mk (blk_below (g := gb304) (o := .cells #[.int .i64 t296, .slice Ao39 t297.length co39, .slice Ao40 t300.length co40] 44 (0, 0)) (sp BK304) hb); replace HB := bsw hb; (try clear hb); (try clear hb2); (try clear hk); (try clear hi)))
    go_meet
    case rel => exact ⟨_, (true), sc, H', ⟨by first | omega | exact Nat.le_refl _⟩, ⟨by (with_reducible repeat (first | apply Kd.R_alloc | apply Kd.R_drewN | apply Kd.R_drew)); exact Kd.R_mono HO283.out (fun _ hk => ⟨hk.1.1, ⟨hk.1.2, hk.2⟩⟩)⟩, ⟨by (with_reducible repeat (first | apply Kd.R_alloc | apply Kd.R_drewN | apply Kd.R_drew)); exact Kd.R_mono HO286.out (fun _ hk => ⟨hk.1.1, ⟨hk.1.2, hk.2⟩⟩)⟩, ⟨by (with_reducible repeat (first | apply Kd.R_alloc | apply Kd.R_drewN | apply Kd.R_drew)); exact Kd.R_mono HO294.out (fun _ hk => ⟨hk.1.1.1.1.1.2, ⟨hk.1.1.1.1.2, ⟨hk.1.1.2, ⟨hk.1.2, ⟨hk.1.1.1.2, hk.2⟩⟩⟩⟩⟩)⟩, ⟨by (with_reducible repeat (first | apply Kd.R_alloc | apply Kd.R_drewN | apply Kd.R_drew)); exact Kd.R_mono HO299.out (fun _ hk => ⟨hk.1.2, ⟨hk.2, hk.1.1⟩⟩)⟩, ⟨by (with_reducible repeat (first | apply Kd.R_alloc | apply Kd.R_drewN | apply Kd.R_drew)); exact Kd.R_mono HO302.out (fun _ hk => ⟨hk.1.2, ⟨hk.2, hk.1.1⟩⟩)⟩, ⟨sk BK272⟩, ⟨sk BK288⟩, ⟨sk BK295⟩, ⟨sk BK304⟩, ⟨sbw⟩⟩
  case rest =>
   clear HC13
   try clear c5
   try clear c5b0
   try clear hcz46_0
   try clear hcz46_1
   try clear hcz46_2
   try clear hcz49_0
   try clear hcz49_1
   try clear hcz49_2
   try clear hcz54_0
   try clear hcz54_1
   try clear hcz54_2
   try clear hcz57_0
   try clear hcz57_1
   try clear hcz57_2
   try clear hfz46_0
   try clear hfz46_1
   try clear hfz46_2
   try clear hfz49_0
   try clear hfz49_1
   try clear hfz49_2
   try clear hfz54_0
   try clear hfz54_1
   try clear hfz54_2
   try clear hfz57_0
   try clear hfz57_1
   try clear hfz57_2
   obtain ⟨kq, x48_12, rfl, HA, HJ12, HO_289001, HO_289002, HO_296003, HO_305001, HO_305002, BK272, BK288, BK295, BK304, HB⟩ := hcut
   cases kq with
   | zero => exact absurd HA.out (by simp [laws_FnExactTableIn.j0])
   | succ kj12 =>
    have H := HA.out
    clear HA
    simp only [laws_FnExactTableIn.j0] at H
    obtain rfl | rfl := tt x48_12
    ·replace H := ip H
     obtain rfl := Option.some.inj H
     go_wp2
     go_ret
     exact ⟨se, sbw⟩
    ·replace H := im H
     obtain ⟨⟨t306, t307, t308, t309⟩, A60, H⟩ := bnd H
     replace H : ((laws_eqProgram.f kj12 t289 t290 t291 t292 t306 t307 t308 t309).bind fun t312 => (if t312 = true then ((laws_markProgram.f t289 t290 t291 t292 1).bind fun t313 => (if t313 < 0 then (laws_FnExactTableIn.j1 kj12 a1 a2 t287 true a0_0 a0_1 a0_2 l0_3 t280 t281 t284 t296 t297 t300) else ((laws_eqTable.f kj12 t296 t297 t300 t280 t281 t284).bind fun t314 => (if t314 = true then (laws_FnExactTableIn.j1 kj12 a1 a2 t287 (t303 != t287) a0_0 a0_1 a0_2 l0_3 t280 t281 t284 t296 t297 t300) else (laws_FnExactTableIn.j1 kj12 a1 a2 t287 true a0_0 a0_1 a0_2 l0_3 t280 t281 t284 t296 t297 t300))))) else (some false))) = some r := H
     obtain ⟨t312, A61, H⟩ := bnd H
     obtain rfl | rfl := tt t312
     ·replace H := ip H
      obtain ⟨t313, A63, H⟩ := bnd H
      have HC64 := Aside0.mk H
      clear H
      try go_wp2
      replace HO_289001 := Aside0.mk (Kd.R_drew HO_289001.out)
      replace HO_289002 := Aside0.mk (Kd.R_drew HO_289002.out)
      replace HO_296003 := Aside0.mk (Kd.R_drew HO_296003.out)
      replace HO_305001 := Aside0.mk (Kd.R_drew HO_305001.out)
      replace HO_305002 := Aside0.mk (Kd.R_drew HO_305002.out)
      replace BK272 := Aside0.mk (blk_drew BK272.out)
      replace BK288 := Aside0.mk (blk_drew BK288.out)
      replace BK295 := Aside0.mk (blk_drew BK295.out)
      replace BK304 := Aside0.mk (blk_drew BK304.out)
      replace HB := Aside0.mk (below_drew1 HB.out)
      refine start_ (n := 5) (S := fun w' => w'.cell? ⟨gb295, 0, none⟩ = some (.int .i64 t289) ∧ w'.cell? ⟨gb295, 1, none⟩ = some (.int .i64 t290) ∧ w'.cell? ⟨gb295, 2, none⟩ = some (.int .i64 t291) ∧ w'.cell? ⟨gb295, 3, none⟩ = some (.slice Ao32 t292.length co32) ∧ w'.cell? ⟨gb272, 0, none⟩ = some (.int .i64 a0_0) ∧ w'.cell? ⟨gb272, 1, none⟩ = some (.int .i64 a0_1) ∧ w'.cell? ⟨gb272, 2, none⟩ = some (.int .i64 a0_2) ∧ w'.cell? ⟨gb272, 3, none⟩ = some (.slice A0_3 l0_3.length c0_3)) (ds := []) #[false, false, false, false, false] (by kernel_rfl) rfl rfl ⟨bc0 BK295, bc1 BK295, bc2 BK295, bc3 BK295, bc0 BK272, bc1 BK272, bc2 BK272, bc3 BK272⟩ (fun hHeld => ?_)
      generalize wc.drew = w65 at HO_289001 HO_289002 HO_296003 HO_305001 HO_305002 BK272 BK288 BK295 BK304 HB hHeld ⊢
      refine ta8 0 49 #[true, false, false, false, false] hHeld ?_
      refine ta8 1 50 #[true, true, false, false, false] hHeld ?_
      refine one_ (i := 2) (N := some 51) #[true, true, true, false, false] rfl rfl (by kernel_rfl) (by decide) (fun K hK => ?_)
      refine goes_ Try.func17 (by kernel_rfl) rfl #[.agg #[.int .i64 a0_0, .int .i64 a0_1, .int .i64 a0_2, .slice A0_3 l0_3.length c0_3]] (by rfl) rfl rfl sl ?_
      with_reducible refine (laws_toProgram.calls kj12 a0_0 a0_1 a0_2 _ _ l0_3 t306 t307 t308 t309 _ ?side1 ?side2 A60.out).mono ?_
      (case side1 => exact cb HR0_3)
      (case side2 => exact HC0_3.out)
      rintro e w66 ⟨v310, rfl, ho0, hb⟩
      refine ⟨_, rfl, ?_⟩
      have HO311 := Aside0.mk (Kd.R_lower (Kd.R_newB (Kd.R_newB (Kd.R_new' (Kd.R_new' (Kd.R_new' (Kd.R_new' (Kd.R_new' ho0 (Kd.R_lt (sr HO_289001))) (Kd.R_lt (sr HO_289002))) (Kd.R_lt (sr HO_296003))) (Kd.R_lt (sr HO_305001))) (Kd.R_lt (sr HO_305002))) (g := gb288) (o := .cells #[.int .i64 t280, .slice Ao24 t281.length co24, .slice Ao25 t284.length co25] 44 (0, 0)) (sk BK288)) (g := gb304) (o := .cells #[.int .i64 t296, .slice Ao39 t297.length co39, .slice Ao40 t300.length co40] 44 (0, 0)) (sk BK304)) (below_size (sbw)))
      replace HO_289001 := Aside0.mk (Kd.R_below (sr HO_289001) hb)
      replace HO_289002 := Aside0.mk (Kd.R_below (sr HO_289002) hb)
      replace HO_296003 := Aside0.mk (Kd.R_elder' (sr HO_296003) (Kd.R_base ho0) hb)
      replace HO_305001 := Aside0.mk (Kd.R_below (sr HO_305001) hb)
      replace HO_305002 := Aside0.mk (Kd.R_below (sr HO_305002) hb)
      replace BK272 := bb BK272 hb
      replace BK288 := bb BK288 hb
      replace BK295 := bb BK295 hb
      replace BK304 := bb BK304 hb
      replace HB := bsw hb
      (try clear hb)
      (try clear hb2)
      (try clear hk)
      (try clear hi)
      (try clear ho0)
      obtain ⟨Ao67, co67, eo67⟩ := Kd.R_slice HO311.out
      (first | subst eo67 | (injection eo67 with f1_ f2_ f3_; have f4_ := f1_.symm; have f5_ := f3_.symm; clear f1_ f2_ f3_; subst f4_; subst f5_))
      refine hK.out _ _ ⟨bc0 BK295, bc1 BK295, bc2 BK295, bc3 BK295, bc0 BK272, bc1 BK272, bc2 BK272, bc3 BK272⟩ (fun hHeld => ?_)
      clear hK K
      refine norm_ (a' := ?_) ?_ ?_
      rotate_left
      ·show Act.put _ (some 51) _ = _
       simp only [Act.put, List.setIfInBounds_toArray, List.set_cons_zero, List.set_cons_succ, i64_w, i32_w]
       rfl
      refine one_ (i := 3) (N := some 52) #[true, true, true, true, false] rfl rfl (by kernel_rfl) (by decide) (fun K hK => ?_)
      refine goes_ Try.func19 (by kernel_rfl) rfl #[.agg #[.int .i64 t289, .int .i64 t290, .int .i64 t291, .slice Ao32 t292.length co32], .agg #[.int .i64 t306, .int .i64 t307, .int .i64 t308, .slice Ao67 t309.length co67]] (by rfl) rfl rfl sl ?_
      with_reducible refine (laws_eqProgram.calls kj12 t289 t290 t291 _ _ t292 t306 t307 t308 _ _ t309 true _ ?side1 ?side2 ?side3 ?side4 A61.out).mono ?_
      (case side1 => repeat (first | exact (Kd.R_reads' HO_296003.out).2.2 | (with_reducible refine Kd.C_alloc ?_ _) | (with_reducible refine Kd.C_drewN ?_ _) | (with_reducible refine Kd.C_drew ?_)))
      (case side2 => exact (Kd.R_reads' HO_296003.out).2.1)
      (case side3 => repeat (first | exact (Kd.R_reads' HO311.out).2.2 | (with_reducible refine Kd.C_alloc ?_ _) | (with_reducible refine Kd.C_drewN ?_ _) | (with_reducible refine Kd.C_drew ?_)))
      (case side4 => exact (Kd.R_reads' HO311.out).2.1)
      rintro e w68 ⟨rfl, hb⟩
      refine ⟨_, rfl, ?_⟩
      replace HO_289001 := Aside0.mk (Kd.R_below (sr HO_289001) hb)
      replace HO_289002 := Aside0.mk (Kd.R_below (sr HO_289002) hb)
      replace HO_296003 := Aside0.mk (Kd.R_below (sr HO_296003) hb)
      replace HO_305001 := Aside0.mk (Kd.R_below (sr HO_305001) hb)
      replace HO_305002 := Aside0.mk (Kd.R_below (sr HO_305002) hb)
      replace HO311 := Aside0.mk (Kd.R_below (sr HO311) hb)
      replace BK272 := bb BK272 hb
      replace BK288 := bb BK288 hb
      replace BK295 := bb BK295 hb
      replace BK304 := bb BK304 hb
      replace HB := bsw hb
      (try clear hb)
      (try clear hb2)
      (try clear hk)
      (try clear hi)
      refine hK.out _ _ ⟨bc0 BK295, bc1 BK295, bc2 BK295, bc3 BK295, bc0 BK272, bc1 BK272, bc2 BK272, bc3 BK272⟩ (fun hHeld => ?_)
      clear hK K
      refine norm_ (a' := ?_) ?_ ?_
      rotate_left
      ·show Act.put _ (some 52) _ = _
       simp only [Act.put, List.setIfInBounds_toArray, List.set_cons_zero, List.set_cons_succ, i64_w, i32_w]
       rfl
      refine pu 4 53 #[true, true, true, true, true] ?_
      refine done_ (by kernel_rfl) ?_
      have hnb69 := NB295_272.out
      have hnc69 := NB272_295.out
      have hnb70 := NB295_288.out
      have hnc70 := NB288_295.out
      have hnb71 := NB295_304.out
      have hnc71 := NB304_295.out
      obtain ⟨hcz72_0, hcz72_1, hcz72_2, hcz72_3, hfz72_0, hfz72_1, hfz72_2, hfz72_3⟩ := cc4 BK295
      go_upto_region 14 with (first | ((with_reducible refine gate_callee (f := 29) rfl ?_); refine gL (some 56) Try.func29 #[.agg #[.int .i64 t289, .int .i64 t290, .int .i64 t291, .slice Ao32 t292.length co32], .int .i64 1] ?_; (with_reducible refine (laws_markProgram.calls t289 t290 t291 (fun k_ => some k_ ≠ (.slice Ao24 t281.length co24 : Value).ownBlock ∧ some k_ ≠ (.slice Ao25 t284.length co25 : Value).ownBlock ∧ some k_ ≠ (.slice Ao39 t297.length co39 : Value).ownBlock ∧ some k_ ≠ (.slice Ao40 t300.length co40 : Value).ownBlock ∧ k_ ≠ gb272 ∧ k_ ≠ gb288 ∧ k_ ≠ gb295 ∧ k_ ≠ gb304) (.slice Ao32 t292.length co32) t292 1 t313 w _ ?side1 ?side2 A63.out).mono ?_); (case side1 => repeat (first | (with_reducible first | exact HB.out | apply below_alloc | apply pw_below_drewN | apply below_drew1 | refine below_set ?_ GE272.out | refine below_set ?_ GE288.out | refine below_set ?_ GE295.out | refine below_set ?_ GE304.out) | exact HB.out)); (case side2 => exact Kd.R_mono (Kd.R_types (Kd.R_types HO_296003.out BK272.out (by decide)) BK295.out (by decide)) (fun k_ hk_ => ⟨(ca hk_), (ca hk_), (ca hk_), (ca hk_), (ca hk_), (ca hk_), (ca hk_), (ca hk_)⟩)); rintro e w73 ⟨rfl, hb, hkp⟩; refine ⟨_, rfl, ?_⟩; replace HO_289001 := Aside0.mk (Kd.R_mono (ok' := fun k_ => some k_ ≠ (.slice Ao25 t284.length co25 : Value).ownBlock ∧ some k_ ≠ (.slice Ao39 t297.length co39 : Value).ownBlock ∧ some k_ ≠ (.slice Ao40 t300.length co40 : Value).ownBlock) (Kd.R_mono (Kd.R_keptB (Kd.R_tight2 rfl HO_289001.out) hkp (fun _ h1_ h2_ => (h2_.1) h1_.1)) (fun _ h1_ => (⟨h1_.1.2, trivial⟩ : _ ∧ True))) (fun k_ hk_ => ⟨(ca hk_), (ca hk_), (ca hk_)⟩)); replace HO_289002 := Aside0.mk (Kd.R_mono (ok' := fun k_ => some k_ ≠ (.slice Ao24 t281.length co24 : Value).ownBlock ∧ some k_ ≠ (.slice Ao39 t297.length co39 : Value).ownBlock ∧ some k_ ≠ (.slice Ao40 t300.length co40 : Value).ownBlock) (Kd.R_mono (Kd.R_keptB (Kd.R_tight2 rfl HO_289002.out) hkp (fun _ h1_ h2_ => (h2_.2.1) h1_.1)) (fun _ h1_ => (⟨h1_.1.2, trivial⟩ : _ ∧ True))) (fun k_ hk_ => ⟨(ca hk_), (ca hk_), (ca hk_)⟩)); replace HO_305001 := Aside0.mk (Kd.R_mono (ok' := fun k_ => some k_ ≠ (.slice Ao24 t281.length co24 : Value).ownBlock ∧ some k_ ≠ (.slice Ao25 t284.length co25 : Value).ownBlock ∧ some k_ ≠ (.slice Ao40 t300.length co40 : Value).ownBlock) (Kd.R_mono (Kd.R_keptB (Kd.R_tight2 rfl HO_305001.out) hkp (fun _ h1_ h2_ => (h2_.2.2.1) h1_.1)) (fun _ h1_ => (⟨h1_.1.2, trivial⟩ : _ ∧ True))) (fun k_ hk_ => ⟨(ca hk_), (ca hk_), (ca hk_)⟩)); replace HO_305002 := Aside0.mk (Kd.R_mono (ok' := fun k_ => some k_ ≠ (.slice Ao24 t281.length co24 : Value).ownBlock ∧ some k_ ≠ (.slice Ao25 t284.length co25 : Value).ownBlock ∧ some k_ ≠ (.slice Ao39 t297.length co39 : Value).ownBlock) (Kd.R_mono (Kd.R_keptB (Kd.R_tight2 rfl HO_305002.out) hkp (fun _ h1_ h2_ => (h2_.2.2.2.1) h1_.1)) (fun _ h1_ => (⟨h1_.1.2, trivial⟩ : _ ∧ True))) (fun k_ hk_ => ⟨(ca hk_), (ca hk_), (ca hk_)⟩)); replace BK272 := Aside0.mk (blk_kept (sk BK272) hkp (fun hs_ => (hs_.2.2.2.2.1) rfl)); replace BK288 := Aside0.mk (blk_kept (sk BK288) hkp (fun hs_ => (hs_.2.2.2.2.2.1) rfl)); replace BK295 := Aside0.mk (blk_kept (sk BK295) hkp (fun hs_ => (hs_.2.2.2.2.2.2.1) rfl)); replace BK304 := Aside0.mk (blk_kept (sk BK304) hkp (fun hs_ => (hs_.2.2.2.2.2.2.2) rfl)); replace HB := Aside0.mk hb; clear HO311 HO_296003; (try clear hb); (try clear hkp)))
      (try simp only [Act.put, List.setIfInBounds_toArray, List.set_cons_zero, List.set_cons_succ])
      go_cut [69] (fun v69 wc => ∃ (kq : Nat) (x69_63 : Bool), v69 = .bool x69_63 ∧ Aside0 (laws_FnExactTableIn.j1 kq a1 a2 t287 x69_63 a0_0 a0_1 a0_2 l0_3 t280 t281 t284 t296 t297 t300 = some r) ∧ Aside0 (kq ≤ kj12) ∧ Aside0 (Kd.R (Kd.int .i64) 3 wc w.heap.size (fun k_ => some k_ ≠ ((.slice Ao25 t284.length co25) : Value).ownBlock ∧ some k_ ≠ ((.slice Ao39 t297.length co39) : Value).ownBlock ∧ some k_ ≠ ((.slice Ao40 t300.length co40) : Value).ownBlock) (.slice Ao24 t281.length co24) t281) ∧ Aside0 (Kd.R (Kd.int .i64) 3 wc w.heap.size (fun k_ => some k_ ≠ ((.slice Ao24 t281.length co24) : Value).ownBlock ∧ some k_ ≠ ((.slice Ao39 t297.length co39) : Value).ownBlock ∧ some k_ ≠ ((.slice Ao40 t300.length co40) : Value).ownBlock) (.slice Ao25 t284.length co25) t284) ∧ Aside0 (Kd.R (Kd.int .i64) 3 wc w.heap.size (fun k_ => some k_ ≠ ((.slice Ao24 t281.length co24) : Value).ownBlock ∧ some k_ ≠ ((.slice Ao25 t284.length co25) : Value).ownBlock ∧ some k_ ≠ ((.slice Ao40 t300.length co40) : Value).ownBlock) (.slice Ao39 t297.length co39) t297) ∧ Aside0 (Kd.R (Kd.int .i64) 3 wc w.heap.size (fun k_ => some k_ ≠ ((.slice Ao24 t281.length co24) : Value).ownBlock ∧ some k_ ≠ ((.slice Ao25 t284.length co25) : Value).ownBlock ∧ some k_ ≠ ((.slice Ao39 t297.length co39) : Value).ownBlock) (.slice Ao40 t300.length co40) t300) ∧ Aside0 (wc.heap[gb272]? = some (.cells #[.int .i64 a0_0, .int .i64 a0_1, .int .i64 a0_2, (.slice A0_3 l0_3.length c0_3)] 24 (0, 0))) ∧ Aside0 (wc.heap[gb288]? = some (.cells #[.int .i64 t280, (.slice Ao24 t281.length co24), (.slice Ao25 t284.length co25)] 44 (0, 0))) ∧ Aside0 (wc.heap[gb304]? = some (.cells #[.int .i64 t296, (.slice Ao39 t297.length co39), (.slice Ao40 t300.length co40)] 44 (0, 0))) ∧ Aside0 (Below w.heap.size w wc))
      case first =>
       have H := HC64.out
       clear HC64
       obtain ⟨c74, H⟩ | ⟨c74, H⟩ := ie_ H
       ·have c74b0 := decide_eq_true c74
        clear c74
        (first | rw [c74b0] | (simp only [i64_w, i32_w]; rw [c74b0]) | skip)
        have H' := Aside0.mk H
        clear H
        go_wp2
        go_meet
        case rel => exact ⟨_, (true), sc, H', ⟨by have := HJ12.out; first | omega | exact Nat.le_refl _⟩, ⟨sr HO_289001⟩, ⟨sr HO_289002⟩, ⟨sr HO_305001⟩, ⟨sr HO_305002⟩, ⟨sk BK272⟩, ⟨sk BK288⟩, ⟨sk BK304⟩, ⟨sbw⟩⟩
       ·have c74b0 := decide_eq_false c74
        clear c74
        (first | rw [c74b0] | (simp only [i64_w, i32_w]; rw [c74b0]) | skip)
        obtain ⟨t314, A75, H⟩ := bnd H
        obtain rfl | rfl := tt t314
        ·replace H := ip H
         have H' := Aside0.mk H
         clear H
         have hnb77 := NB304_272.out
         have hnc77 := NB272_304.out
         have hnb78 := NB304_288.out
         have hnc78 := NB288_304.out
         have hnb79 := NB304_295.out
         have hnc79 := NB295_304.out
         obtain ⟨hcz80_0, hcz80_1, hcz80_2, hfz80_0, hfz80_1, hfz80_2⟩ := cc3 BK304
         have hnb81 := NB288_272.out
         have hnc81 := NB272_288.out
         have hnb82 := NB288_295.out
         have hnc82 := NB295_288.out
         obtain ⟨hcz83_0, hcz83_1, hcz83_2, hfz83_0, hfz83_1, hfz83_2⟩ := cc3 BK288
         go_wp2_with (first | (go_at_call 36; (with_reducible refine (laws_eqTable.calls kj12 t296 _ _ t297 _ _ t300 t280 _ _ t281 _ _ t284 true _ ?side1 ?side2 ?side3 ?side4 ?side5 ?side6 ?side7 ?side8 A75.out).mono ?_); (case side1 => repeat (first | exact (Kd.R_reads' HO_305001.out).2.2 | (with_reducible refine Kd.C_alloc ?_ _) | (with_reducible refine Kd.C_drewN ?_ _) | (with_reducible refine Kd.C_drew ?_))); (case side2 => exact (Kd.R_reads' HO_305001.out).2.1); (case side3 => repeat (first | exact (Kd.R_reads' HO_305002.out).2.2 | (with_reducible refine Kd.C_alloc ?_ _) | (with_reducible refine Kd.C_drewN ?_ _) | (with_reducible refine Kd.C_drew ?_))); (case side4 => exact (Kd.R_reads' HO_305002.out).2.1); (case side5 => repeat (first | exact (Kd.R_reads' HO_289001.out).2.2 | (with_reducible refine Kd.C_alloc ?_ _) | (with_reducible refine Kd.C_drewN ?_ _) | (with_reducible refine Kd.C_drew ?_))); (case side6 => exact (Kd.R_reads' HO_289001.out).2.1); (case side7 => repeat (first | exact (Kd.R_reads' HO_289002.out).2.2 | (with_reducible refine Kd.C_alloc ?_ _) | (with_reducible refine Kd.C_drewN ?_ _) | (with_reducible refine Kd.C_drew ?_))); (case side8 => exact (Kd.R_reads' HO_289002.out).2.1); rintro e w84 ⟨rfl, hb⟩; replace HO_289001 := Aside0.mk (Kd.R_below (sr HO_289001) hb); replace HO_289002 := Aside0.mk (Kd.R_below (sr HO_289002) hb); replace HO_305001 := Aside0.mk (Kd.R_below (sr HO_305001) hb); replace HO_305002 := Aside0.mk (Kd.R_below (sr HO_305002) hb); replace BK272 := bb BK272 hb; replace BK288 := bb BK288 hb; replace BK295 := bb BK295 hb; replace BK304 := bb BK304 hb; replace HB := bsw hb; (try clear hb); (try clear hb2); (try clear hk); (try clear hi)))
         go_meet
         case rel => exact ⟨_, ((t303 != t287)), sc, H', ⟨by have := HJ12.out; first | omega | exact Nat.le_refl _⟩, ⟨sr HO_289001⟩, ⟨sr HO_289002⟩, ⟨sr HO_305001⟩, ⟨sr HO_305002⟩, ⟨sk BK272⟩, ⟨sk BK288⟩, ⟨sk BK304⟩, ⟨sbw⟩⟩
        ·replace H := im H
         have H' := Aside0.mk H
         clear H
         have hnb85 := NB304_272.out
         have hnc85 := NB272_304.out
         have hnb86 := NB304_288.out
         have hnc86 := NB288_304.out
         have hnb87 := NB304_295.out
         have hnc87 := NB295_304.out
         obtain ⟨hcz88_0, hcz88_1, hcz88_2, hfz88_0, hfz88_1, hfz88_2⟩ := cc3 BK304
         have hnb89 := NB288_272.out
         have hnc89 := NB272_288.out
         have hnb90 := NB288_295.out
         have hnc90 := NB295_288.out
         obtain ⟨hcz91_0, hcz91_1, hcz91_2, hfz91_0, hfz91_1, hfz91_2⟩ := cc3 BK288
         go_wp2_with (first | (go_at_call 36; (with_reducible refine (laws_eqTable.calls kj12 t296 _ _ t297 _ _ t300 t280 _ _ t281 _ _ t284 false _ ?side1 ?side2 ?side3 ?side4 ?side5 ?side6 ?side7 ?side8 A75.out).mono ?_); (case side1 => repeat (first | exact (Kd.R_reads' HO_305001.out).2.2 | (with_reducible refine Kd.C_alloc ?_ _) | (with_reducible refine Kd.C_drewN ?_ _) | (with_reducible refine Kd.C_drew ?_))); (case side2 => exact (Kd.R_reads' HO_305001.out).2.1); (case side3 => repeat (first | exact (Kd.R_reads' HO_305002.out).2.2 | (with_reducible refine Kd.C_alloc ?_ _) | (with_reducible refine Kd.C_drewN ?_ _) | (with_reducible refine Kd.C_drew ?_))); (case side4 => exact (Kd.R_reads' HO_305002.out).2.1); (case side5 => repeat (first | exact (Kd.R_reads' HO_289001.out).2.2 | (with_reducible refine Kd.C_alloc ?_ _) | (with_reducible refine Kd.C_drewN ?_ _) | (with_reducible refine Kd.C_drew ?_))); (case side6 => exact (Kd.R_reads' HO_289001.out).2.1); (case side7 => repeat (first | exact (Kd.R_reads' HO_289002.out).2.2 | (with_reducible refine Kd.C_alloc ?_ _) | (with_reducible refine Kd.C_drewN ?_ _) | (with_reducible refine Kd.C_drew ?_))); (case side8 => exact (Kd.R_reads' HO_289002.out).2.1); rintro e w92 ⟨rfl, hb⟩; replace HO_289001 := Aside0.mk (Kd.R_below (sr HO_289001) hb); replace HO_289002 := Aside0.mk (Kd.R_below (sr HO_289002) hb); replace HO_305001 := Aside0.mk (Kd.R_below (sr HO_305001) hb); replace HO_305002 := Aside0.mk (Kd.R_below (sr HO_305002) hb); replace BK272 := bb BK272 hb; replace BK288 := bb BK288 hb; replace BK295 := bb BK295 hb; replace BK304 := bb BK304 hb; replace HB := bsw hb; (try clear hb); (try clear hb2); (try clear hk); (try clear hi)))
         go_meet
         case rel => exact ⟨_, (true), sc, H', ⟨by have := HJ12.out; first | omega | exact Nat.le_refl _⟩, ⟨sr HO_289001⟩, ⟨sr HO_289002⟩, ⟨sr HO_305001⟩, ⟨sr HO_305002⟩, ⟨sk BK272⟩, ⟨sk BK288⟩, ⟨sk BK304⟩, ⟨sbw⟩⟩
      case rest =>
       clear HC64
       try clear c5
       try clear c5b0
       try clear c74
       try clear c74b0
       try clear hcz46_0
       try clear hcz46_1
       try clear hcz46_2
       try clear hcz49_0
       try clear hcz49_1
       try clear hcz49_2
       try clear hcz54_0
       try clear hcz54_1
       try clear hcz54_2
       try clear hcz57_0
       try clear hcz57_1
       try clear hcz57_2
       try clear hcz72_0
       try clear hcz72_1
       try clear hcz72_2
       try clear hcz72_3
       try clear hcz80_0
       try clear hcz80_1
       try clear hcz80_2
       try clear hcz83_0
       try clear hcz83_1
       try clear hcz83_2
       try clear hcz88_0
       try clear hcz88_1
       try clear hcz88_2
       try clear hcz91_0
       try clear hcz91_1
       try clear hcz91_2
       try clear hfz46_0
       try clear hfz46_1
       try clear hfz46_2
       try clear hfz49_0
       try clear hfz49_1
       try clear hfz49_2
       try clear hfz54_0
       try clear hfz54_1
       try clear hfz54_2
       try clear hfz57_0
       try clear hfz57_1
       try clear hfz57_2
       try clear hfz72_0
       try clear hfz72_1
       try clear hfz72_2
       try clear hfz72_3
       try clear hfz80_0
       try clear hfz80_1
       try clear hfz80_2
       try clear hfz83_0
       try clear hfz83_1
       try clear hfz83_2
       try clear hfz88_0
       try clear hfz88_1
       try clear hfz88_2
       try clear hfz91_0
       try clear hfz91_1
       try clear hfz91_2
       obtain ⟨kq, x69_63, rfl, HA, HJ63, HO_289001, HO_289002, HO_305001, HO_305002, BK272, BK288, BK304, HB⟩ := hcut
       cases kq with
       | zero => exact absurd HA.out (by simp [laws_FnExactTableIn.j1])
       | succ kj63 =>
        have H := HA.out
        clear HA
        simp only [laws_FnExactTableIn.j1] at H
        obtain rfl | rfl := tt x69_63
        ·replace H := ip H
         obtain rfl := Option.some.inj H
         go_wp2
         go_ret
         exact ⟨se, sbw⟩
        ·replace H := im H
         obtain ⟨⟨t315, t316, t317⟩, A94, H⟩ := bnd H
         replace H : ((laws_heldTable.f kj63 t296 t316 t317 1).bind fun t318 => (if t318 < 0 then (some false) else (if t318 = t315 then ((laws_toProgram.f kj63 a0_0 a0_1 a0_2 l0_3).bind fun bt319 => ((impl_TableIn.f bt319.1 bt319.2.1 bt319.2.2.1 bt319.2.2.2 a1 a2).bind fun bt325 => ((laws_eqTable.f kj63 bt325.1 bt325.2.1 bt325.2.2.1 t280 t281 t284).bind fun t334 => (if t334 = true then (laws_FnExactTableIn.j2 kj63 t315 (bt325.2.2.2 != t287) t296 t316 t317) else (laws_FnExactTableIn.j2 kj63 t315 true t296 t316 t317))))) else (some false)))) = some r := H
         obtain ⟨t318, A95, H⟩ := bnd H
         obtain ⟨c96, H⟩ | ⟨c96, H⟩ := ie_ H
         ·have c96b0 := decide_eq_true c96
          clear c96
          obtain rfl := Option.some.inj H
          have hnb97 := NB304_272.out
          have hnc97 := NB272_304.out
          have hnb98 := NB304_288.out
          have hnc98 := NB288_304.out
          obtain ⟨hcz99_0, hcz99_1, hcz99_2, hfz99_0, hfz99_1, hfz99_2⟩ := cc3 BK304
          go_wp2_with (first | ((with_reducible refine gate_callee (f := 37) rfl ?_); refine gL (some 72) Try.func37 #[.agg #[.int .i64 t296, .slice Ao39 t297.length co39, .slice Ao40 t300.length co40], .int .i64 1] ?_; (with_reducible refine (laws_markTable.calls kj63 t296 (fun k_ => some k_ = (.slice Ao39 t297.length co39 : Value).ownBlock) (.slice Ao39 t297.length co39) t297 (fun k_ => some k_ = (.slice Ao40 t300.length co40 : Value).ownBlock) (.slice Ao40 t300.length co40) t300 1 t315 t316 t317 w _ ?side1 ?side2 ?side3 ?side4 ?side5 A94.out).mono ?_); (case side1 => repeat (first | (with_reducible first | exact HB.out | apply below_alloc | apply pw_below_drewN | apply below_drew1 | refine below_set ?_ GE272.out | refine below_set ?_ GE288.out | refine below_set ?_ GE304.out) | exact HB.out)); (case side2 => exact Kd.R_tight rfl HO_305001.out); (case side3 => exact fun k_ e_ => (HO_305001.out.1 k_ e_.symm).2.2); (case side4 => exact Kd.R_tight rfl HO_305002.out); (case side5 => exact fun k_ e_ => (HO_305002.out.1 k_ e_.symm).2.2); rintro e w100 ⟨rfl, hy0, hy1, hb, hkp⟩; refine ⟨_, rfl, ?_⟩; replace HO_289001 := Aside0.mk (Kd.R_mono (ok' := fun k_ => some k_ ≠ (.slice Ao25 t284.length co25 : Value).ownBlock ∧ some k_ ≠ (.slice Ao39 t297.length co39 : Value).ownBlock ∧ some k_ ≠ (.slice Ao40 t300.length co40 : Value).ownBlock) (Kd.R_keptB (HO_289001.out) hkp (fun k_ hk_ hs_ => Or.elim hs_ (fun e_ => (hk_.2.1) e_) (fun e_ => (hk_.2.2) e_))) (fun k_ hk_ => ⟨hk_.1.1, hk_.1.2.1, hk_.1.2.2⟩)); replace HO_289002 := Aside0.mk (Kd.R_mono (ok' := fun k_ => some k_ ≠ (.slice Ao24 t281.length co24 : Value).ownBlock ∧ some k_ ≠ (.slice Ao39 t297.length co39 : Value).ownBlock ∧ some k_ ≠ (.slice Ao40 t300.length co40 : Value).ownBlock) (Kd.R_keptB (HO_289002.out) hkp (fun k_ hk_ hs_ => Or.elim hs_ (fun e_ => (hk_.2.1) e_) (fun e_ => (hk_.2.2) e_))) (fun k_ hk_ => ⟨hk_.1.1, hk_.1.2.1, hk_.1.2.2⟩)); replace BK272 := Aside0.mk (blk_kept (sk BK272) hkp (fun hs_ => Or.elim hs_ (fun e_ => (fun e_ => (Kd.R_ne HO_305001.out BK272.out (by decide)) e_) e_) (fun e_ => (fun e_ => (Kd.R_ne HO_305002.out BK272.out (by decide)) e_) e_))); replace BK288 := Aside0.mk (blk_kept (sk BK288) hkp (fun hs_ => Or.elim hs_ (fun e_ => (fun e_ => (Kd.R_ne HO_305001.out BK288.out (by decide)) e_) e_) (fun e_ => (fun e_ => (Kd.R_ne HO_305002.out BK288.out (by decide)) e_) e_))); replace BK304 := Aside0.mk (blk_kept (sk BK304) hkp (fun hs_ => Or.elim hs_ (fun e_ => (fun e_ => (Kd.R_ne HO_305001.out BK304.out (by decide)) e_) e_) (fun e_ => (fun e_ => (Kd.R_ne HO_305002.out BK304.out (by decide)) e_) e_))); replace HO_305001 := Aside0.mk (Kd.R_reok rfl hy0 (fun k_ e_ => HO_305001.out.1 k_ e_)); replace HO_305002 := Aside0.mk (Kd.R_reok rfl hy1 (fun k_ e_ => HO_305002.out.1 k_ e_)); replace HB := Aside0.mk hb; (try clear hb); (try clear hkp); (try clear hy0); (try clear hy1); obtain ⟨hcz101_0, hcz101_1, hcz101_2, hfz101_0, hfz101_1, hfz101_2⟩ := cc3 BK304) | ((with_reducible refine gate_callee (f := 38) rfl ?_); refine goesL_ (some 75) rfl rfl Try.func38 (by kernel_rfl) rfl #[.agg #[.int .i64 t296, .slice Ao39 t316.length co39, .slice Ao40 t317.length co40], .int .i64 1] rfl (by (try simp only [List.map_toArray, List.map_cons, List.map_nil]); first | done | (rw [show t316.length = t297.length from (Kd.R_reads' HO_305001.out).1.symm, show t317.length = t300.length from (Kd.R_reads' HO_305002.out).1.symm] <;> rfl) | rfl | (simp only [List.length_drop, List.length_take]; rfl)) ?_; (with_reducible refine (laws_heldTable.calls kj63 t296 _ _ t316 _ _ t317 1 t318 _ ?side1 ?side2 ?side3 ?side4 A95.out).mono ?_); (case side1 => repeat (first | exact (Kd.R_reads' HO_305001.out).2.2 | (with_reducible refine Kd.C_alloc ?_ _) | (with_reducible refine Kd.C_drewN ?_ _) | (with_reducible refine Kd.C_drew ?_))); (case side2 => rw [show t316.length = t297.length from (Kd.R_reads' HO_305001.out).1.symm]; exact (Kd.R_reads' HO_305001.out).2.1); (case side3 => repeat (first | exact (Kd.R_reads' HO_305002.out).2.2 | (with_reducible refine Kd.C_alloc ?_ _) | (with_reducible refine Kd.C_drewN ?_ _) | (with_reducible refine Kd.C_drew ?_))); (case side4 => rw [show t317.length = t300.length from (Kd.R_reads' HO_305002.out).1.symm]; exact (Kd.R_reads' HO_305002.out).2.1); rintro e w102 ⟨rfl, hb⟩; refine ⟨_, rfl, ?_⟩; replace HO_289001 := Aside0.mk (Kd.R_below (sr HO_289001) hb); replace HO_289002 := Aside0.mk (Kd.R_below (sr HO_289002) hb); replace HO_305001 := Aside0.mk (Kd.R_below (sr HO_305001) hb); replace HO_305002 := Aside0.mk (Kd.R_below (sr HO_305002) hb); replace BK272 := bb BK272 hb; replace BK288 := bb BK288 hb; replace BK304 := bb BK304 hb; replace HB := bsw hb; (try clear hb); (try clear hb2); (try clear hk); (try clear hi)))
          go_ret
          exact ⟨se, sbw⟩
         ·have c96b0 := decide_eq_false c96
          clear c96
          obtain ⟨c103, H⟩ | ⟨c103, H⟩ := ie_ H
          ·have c103b0 : (t318 == t315) = true := beq_iff_eq.mpr c103
           have c103b1 : (t318 != t315) = false := bne_eq_false_iff_eq.mpr c103
           clear c103
           obtain ⟨⟨t319, t320, t321, t322⟩, A104, H⟩ := bnd H
           replace H : ((impl_TableIn.f t319 t320 t321 t322 a1 a2).bind fun bt325 => ((laws_eqTable.f kj63 bt325.1 bt325.2.1 bt325.2.2.1 t280 t281 t284).bind fun t334 => (if t334 = true then (laws_FnExactTableIn.j2 kj63 t315 (bt325.2.2.2 != t287) t296 t316 t317) else (laws_FnExactTableIn.j2 kj63 t315 true t296 t316 t317)))) = some r := H
           obtain ⟨⟨t325, t326, t329, t332⟩, A105, H⟩ := bnd H
           replace H : ((laws_eqTable.f kj63 t325 t326 t329 t280 t281 t284).bind fun t334 => (if t334 = true then (laws_FnExactTableIn.j2 kj63 t315 (t332 != t287) t296 t316 t317) else (laws_FnExactTableIn.j2 kj63 t315 true t296 t316 t317))) = some r := H
           have HC106 := Aside0.mk H
           clear H
           have hnb107 := NB304_272.out
           have hnc107 := NB272_304.out
           have hnb108 := NB304_288.out
           have hnc108 := NB288_304.out
           obtain ⟨hcz109_0, hcz109_1, hcz109_2, hfz109_0, hfz109_1, hfz109_2⟩ := cc3 BK304
           go_upto_region 25 with (first | ((with_reducible refine gate_callee (f := 37) rfl ?_); refine gL (some 72) Try.func37 #[.agg #[.int .i64 t296, .slice Ao39 t297.length co39, .slice Ao40 t300.length co40], .int .i64 1] ?_; (with_reducible refine (laws_markTable.calls kj63 t296 (fun k_ => some k_ = (.slice Ao39 t297.length co39 : Value).ownBlock) (.slice Ao39 t297.length co39) t297 (fun k_ => some k_ = (.slice Ao40 t300.length co40 : Value).ownBlock) (.slice Ao40 t300.length co40) t300 1 t315 t316 t317 w _ ?side1 ?side2 ?side3 ?side4 ?side5 A94.out).mono ?_); (case side1 => repeat (first | (with_reducible first | exact HB.out | apply below_alloc | apply pw_below_drewN | apply below_drew1 | refine below_set ?_ GE272.out | refine below_set ?_ GE288.out | refine below_set ?_ GE304.out) | exact HB.out)); (case side2 => exact Kd.R_tight rfl HO_305001.out); (case side3 => exact fun k_ e_ => (HO_305001.out.1 k_ e_.symm).2.2); (case side4 => exact Kd.R_tight rfl HO_305002.out); (case side5 => exact fun k_ e_ => (HO_305002.out.1 k_ e_.symm).2.2); rintro e w110 ⟨rfl, hy0, hy1, hb, hkp⟩; refine ⟨_, rfl, ?_⟩; replace HO_289001 := Aside0.mk (Kd.R_mono (ok' := fun k_ => some k_ ≠ (.slice Ao25 t284.length co25 : Value).ownBlock ∧ some k_ ≠ (.slice Ao39 t297.length co39 : Value).ownBlock ∧ some k_ ≠ (.slice Ao40 t300.length co40 : Value).ownBlock) (Kd.R_keptB (HO_289001.out) hkp (fun k_ hk_ hs_ => Or.elim hs_ (fun e_ => (hk_.2.1) e_) (fun e_ => (hk_.2.2) e_))) (fun k_ hk_ => ⟨(ca hk_), (ca hk_), (ca hk_)⟩)); replace HO_289002 := Aside0.mk (Kd.R_mono (ok' := fun k_ => some k_ ≠ (.slice Ao24 t281.length co24 : Value).ownBlock ∧ some k_ ≠ (.slice Ao39 t297.length co39 : Value).ownBlock ∧ some k_ ≠ (.slice Ao40 t300.length co40 : Value).ownBlock) (Kd.R_keptB (HO_289002.out) hkp (fun k_ hk_ hs_ => Or.elim hs_ (fun e_ => (hk_.2.1) e_) (fun e_ => (hk_.2.2) e_))) (fun k_ hk_ => ⟨(ca hk_), (ca hk_), (ca hk_)⟩)); replace BK272 := Aside0.mk (blk_kept (sk BK272) hkp (fun hs_ => Or.elim hs_ (fun e_ => (fun e_ => (Kd.R_ne HO_305001.out BK272.out (by decide)) e_) e_) (fun e_ => (fun e_ => (Kd.R_ne HO_305002.out BK272.out (by decide)) e_) e_))); replace BK288 := Aside0.mk (blk_kept (sk BK288) hkp (fun hs_ => Or.elim hs_ (fun e_ => (fun e_ => (Kd.R_ne HO_305001.out BK288.out (by decide)) e_) e_) (fun e_ => (fun e_ => (Kd.R_ne HO_305002.out BK288.out (by decide)) e_) e_))); replace BK304 := Aside0.mk (blk_kept (sk BK304) hkp (fun hs_ => Or.elim hs_ (fun e_ => (fun e_ => (Kd.R_ne HO_305001.out BK304.out (by decide)) e_) e_) (fun e_ => (fun e_ => (Kd.R_ne HO_305002.out BK304.out (by decide)) e_) e_))); replace HO_305001 := Aside0.mk (Kd.R_reok rfl hy0 (fun k_ e_ => HO_305001.out.1 k_ e_)); replace HO_305002 := Aside0.mk (Kd.R_reok rfl hy1 (fun k_ e_ => HO_305002.out.1 k_ e_)); replace HB := Aside0.mk hb; (try clear hb); (try clear hkp); (try clear hy0); (try clear hy1); obtain ⟨hcz111_0, hcz111_1, hcz111_2, hfz111_0, hfz111_1, hfz111_2⟩ := cc3 BK304) | ((with_reducible refine gate_callee (f := 38) rfl ?_); refine goesL_ (some 75) rfl rfl Try.func38 (by kernel_rfl) rfl #[.agg #[.int .i64 t296, .slice Ao39 t316.length co39, .slice Ao40 t317.length co40], .int .i64 1] rfl (by (try simp only [List.map_toArray, List.map_cons, List.map_nil]); first | done | (rw [show t316.length = t297.length from (Kd.R_reads' HO_305001.out).1.symm, show t317.length = t300.length from (Kd.R_reads' HO_305002.out).1.symm] <;> rfl) | rfl | (simp only [List.length_drop, List.length_take]; rfl)) ?_; (with_reducible refine (laws_heldTable.calls kj63 t296 _ _ t316 _ _ t317 1 t318 _ ?side1 ?side2 ?side3 ?side4 A95.out).mono ?_); (case side1 => repeat (first | exact (Kd.R_reads' HO_305001.out).2.2 | (with_reducible refine Kd.C_alloc ?_ _) | (with_reducible refine Kd.C_drewN ?_ _) | (with_reducible refine Kd.C_drew ?_))); (case side2 => rw [show t316.length = t297.length from (Kd.R_reads' HO_305001.out).1.symm]; exact (Kd.R_reads' HO_305001.out).2.1); (case side3 => repeat (first | exact (Kd.R_reads' HO_305002.out).2.2 | (with_reducible refine Kd.C_alloc ?_ _) | (with_reducible refine Kd.C_drewN ?_ _) | (with_reducible refine Kd.C_drew ?_))); (case side4 => rw [show t317.length = t300.length from (Kd.R_reads' HO_305002.out).1.symm]; exact (Kd.R_reads' HO_305002.out).2.1); rintro e w112 ⟨rfl, hb⟩; refine ⟨_, rfl, ?_⟩; replace HO_289001 := Aside0.mk (Kd.R_below (sr HO_289001) hb); replace HO_289002 := Aside0.mk (Kd.R_below (sr HO_289002) hb); replace HO_305001 := Aside0.mk (Kd.R_below (sr HO_305001) hb); replace HO_305002 := Aside0.mk (Kd.R_below (sr HO_305002) hb); replace BK272 := bb BK272 hb; replace BK288 := bb BK288 hb; replace BK304 := bb BK304 hb; replace HB := bsw hb; (try clear hb); (try clear hb2); (try clear hk); (try clear hi); have hnb113 := NB272_288.out; have hnc113 := NB288_272.out; obtain ⟨hcz114_0, hcz114_1, hcz114_2, hcz114_3, hfz114_0, hfz114_1, hfz114_2, hfz114_3⟩ := cc4 BK272) | ((with_reducible refine gate_callee (f := 17) rfl ?_); refine gL (some 83) Try.func17 #[.agg #[.int .i64 a0_0, .int .i64 a0_1, .int .i64 a0_2, .slice A0_3 l0_3.length c0_3]] ?_; (with_reducible refine (laws_toProgram.calls kj63 a0_0 a0_1 a0_2 _ _ l0_3 t319 t320 t321 t322 _ ?side1 ?side2 A104.out).mono ?_); (case side1 => exact cb HR0_3); (case side2 => exact HC0_3.out); rintro e w115 ⟨v323, rfl, ho0, hb⟩; refine ⟨_, rfl, ?_⟩; have HO324 := Aside0.mk (Kd.R_lower (Kd.R_newB (Kd.R_newB (Kd.R_new' (Kd.R_new' (Kd.R_new' (Kd.R_new' ho0 (Kd.R_lt (sr HO_289001))) (Kd.R_lt (sr HO_289002))) (Kd.R_lt (sr HO_305001))) (Kd.R_lt (sr HO_305002))) (g := gb288) (o := .cells #[.int .i64 t280, .slice Ao24 t281.length co24, .slice Ao25 t284.length co25] 44 (0, 0)) (sk BK288)) (g := gb304) (o := .cells #[.int .i64 t296, .slice Ao39 t297.length co39, .slice Ao40 t300.length co40] 44 (0, 0)) (sk BK304)) (below_size (sbw))); replace HO_289001 := Aside0.mk (Kd.R_below (sr HO_289001) hb); replace HO_289002 := Aside0.mk (Kd.R_below (sr HO_289002) hb); replace HO_305001 := Aside0.mk (Kd.R_below (sr HO_305001) hb); replace HO_305002 := Aside0.mk (Kd.R_below (sr HO_305002) hb); replace BK272 := bb BK272 hb; replace BK288 := bb BK288 hb; replace BK304 := bb BK304 hb; replace HB := bsw hb; (try clear hb); (try clear hb2); (try clear hk); (try clear hi); (try clear ho0); obtain ⟨Ao116, co116, eo116⟩ := Kd.R_slice HO324.out; subst eo116) | ((with_reducible refine gate_callee (f := 35) rfl ?_); refine gL (some 86) Try.func35 #[.agg #[.int .i64 t319, .int .i64 t320, .int .i64 t321, .slice Ao116 t322.length co116], .int .i64 a1, .int .i64 a2] ?_; (with_reducible refine (impl_TableIn.calls t319 t320 t321 _ _ t322 a1 a2 t325 t326 t329 t332 _ ?side1 ?side2 A105.out).mono ?_); (case side1 => repeat (first | exact (Kd.R_reads' HO324.out).2.2 | (with_reducible refine Kd.C_alloc ?_ _) | (with_reducible refine Kd.C_drewN ?_ _) | (with_reducible refine Kd.C_drew ?_))); (case side2 => exact (Kd.R_reads' HO324.out).2.1); rintro e w117 ⟨v327, v330, rfl, ho0, ho1, hb⟩; refine ⟨_, rfl, ?_⟩; replace HO324 := Aside0.mk (Kd.R_mono (Kd.R_told (Kd.R_told (Kd.R_old (sr HO324) hb) (Kd.R_base ho0)) (Kd.R_base ho1)) (fun _ h_ => h_.1)); have HO328 := Aside0.mk (Kd.R_lower (Kd.R_new' (Kd.R_new' (Kd.R_new' (Kd.R_new' ho0 (Kd.R_lt (sr HO_289001))) (Kd.R_lt (sr HO_289002))) (Kd.R_lt (sr HO_305001))) (Kd.R_lt (sr HO_305002))) (below_size (sbw))); have HO331 := Aside0.mk (Kd.R_lower (Kd.R_new' (Kd.R_new' (Kd.R_new' (Kd.R_new' ho1 (Kd.R_lt (sr HO_289001))) (Kd.R_lt (sr HO_289002))) (Kd.R_lt (sr HO_305001))) (Kd.R_lt (sr HO_305002))) (below_size (sbw))); replace HO_289001 := Aside0.mk (Kd.R_mono (Kd.R_told (Kd.R_told (Kd.R_old (sr HO_289001) hb) (Kd.R_base ho0)) (Kd.R_base ho1)) (fun _ h_ => h_.1)); replace HO_289002 := Aside0.mk (Kd.R_mono (Kd.R_told (Kd.R_told (Kd.R_old (sr HO_289002) hb) (Kd.R_base ho0)) (Kd.R_base ho1)) (fun _ h_ => h_.1)); replace HO_305001 := Aside0.mk (Kd.R_mono (Kd.R_told (Kd.R_told (Kd.R_old (sr HO_305001) hb) (Kd.R_base ho0)) (Kd.R_base ho1)) (fun _ h_ => h_.1)); replace HO_305002 := Aside0.mk (Kd.R_mono (Kd.R_told (Kd.R_told (Kd.R_old (sr HO_305002) hb) (Kd.R_base ho0)) (Kd.R_base ho1)) (fun _ h_ => h_.1)); replace BK272 := bb BK272 hb; replace BK288 := bb BK288 hb; replace BK304 := bb BK304 hb; replace HB := bsw hb; (try clear hb); (try clear hb2); (try clear hk); (try clear hi); (try clear ho0); (try clear ho1)) | ((with_reducible refine gate_dst (N := 16) rfl ?_); refine bx 16 #[.int .i64 0, .slice none 0 0, .slice none 0 0] 44 ?_; intro gb333 hg w118 hbox hb; replace HO_289001 := Aside0.mk (Kd.R_below (sr HO_289001) hb); replace HO_289002 := Aside0.mk (Kd.R_below (sr HO_289002) hb); replace HO_305001 := Aside0.mk (Kd.R_below (sr HO_305001) hb); replace HO_305002 := Aside0.mk (Kd.R_below (sr HO_305002) hb); replace HO324 := Aside0.mk (Kd.R_below (Kd.R_elderB (sr HO324) gb333 (Nat.le_of_eq hg.symm)) hb); replace HO328 := Aside0.mk (Kd.R_below (sr HO328) hb); replace HO331 := Aside0.mk (Kd.R_below (sr HO331) hb); have BK333 := Aside0.mk hbox; have GW333 := bzw w hg; have GE333 := bzw w hg; replace HB := bsw hb; have NB272_333 := nl BK272 hg; have NB333_272 := ng BK272 hg; replace BK272 := bb BK272 hb; have NB288_333 := nl BK288 hg; have NB333_288 := ng BK288 hg; replace BK288 := bb BK288 hb; have NB304_333 := nl BK304 hg; have NB333_304 := ng BK304 hg; replace BK304 := bb BK304 hb; clear hb hbox hg; have hnb119 := NB333_272.out; have hnc119 := NB272_333.out; have hnb120 := NB333_288.out; have hnc120 := NB288_333.out; have hnb121 := NB333_304.out; have hnc121 := NB304_333.out; obtain ⟨hcz122_0, hcz122_1, hcz122_2, hfz122_0, hfz122_1, hfz122_2⟩ := cc3 BK333; obtain ⟨Ao123, co123, eo123⟩ := Kd.R_slice HO328.out; subst eo123; obtain ⟨Ao124, co124, eo124⟩ := Kd.R_slice HO331.out; subst eo124))
           (try simp only [Act.put, List.setIfInBounds_toArray, List.set_cons_zero, List.set_cons_succ])
           go_cut [97] (fun v97 wc => ∃ (kq : Nat) (x97_105 : Bool), v97 = .bool x97_105 ∧ Aside0 (laws_FnExactTableIn.j2 kq t315 x97_105 t296 t316 t317 = some r) ∧ Aside0 (kq ≤ kj63) ∧ Aside0 (Kd.R (Kd.int .i64) 3 wc w.heap.size (fun k_ => some k_ ≠ ((.slice Ao25 t284.length co25) : Value).ownBlock ∧ some k_ ≠ ((.slice Ao39 t297.length co39) : Value).ownBlock ∧ some k_ ≠ ((.slice Ao40 t300.length co40) : Value).ownBlock ∧ some k_ ≠ ((.slice Ao123 t326.length co123) : Value).ownBlock ∧ some k_ ≠ ((.slice Ao124 t329.length co124) : Value).ownBlock) (.slice Ao24 t281.length co24) t281) ∧ Aside0 (Kd.R (Kd.int .i64) 3 wc w.heap.size (fun k_ => some k_ ≠ ((.slice Ao24 t281.length co24) : Value).ownBlock ∧ some k_ ≠ ((.slice Ao39 t297.length co39) : Value).ownBlock ∧ some k_ ≠ ((.slice Ao40 t300.length co40) : Value).ownBlock ∧ some k_ ≠ ((.slice Ao123 t326.length co123) : Value).ownBlock ∧ some k_ ≠ ((.slice Ao124 t329.length co124) : Value).ownBlock) (.slice Ao25 t284.length co25) t284) ∧ Aside0 (Kd.R (Kd.int .i64) 3 wc w.heap.size (fun k_ => some k_ ≠ ((.slice Ao24 t281.length co24) : Value).ownBlock ∧ some k_ ≠ ((.slice Ao25 t284.length co25) : Value).ownBlock ∧ some k_ ≠ ((.slice Ao40 t300.length co40) : Value).ownBlock ∧ some k_ ≠ ((.slice Ao123 t326.length co123) : Value).ownBlock ∧ some k_ ≠ ((.slice Ao124 t329.length co124) : Value).ownBlock) (.slice Ao39 t297.length co39) t316) ∧ Aside0 (Kd.R (Kd.int .i64) 3 wc w.heap.size (fun k_ => some k_ ≠ ((.slice Ao24 t281.length co24) : Value).ownBlock ∧ some k_ ≠ ((.slice Ao25 t284.length co25) : Value).ownBlock ∧ some k_ ≠ ((.slice Ao39 t297.length co39) : Value).ownBlock ∧ some k_ ≠ ((.slice Ao123 t326.length co123) : Value).ownBlock ∧ some k_ ≠ ((.slice Ao124 t329.length co124) : Value).ownBlock) (.slice Ao40 t300.length co40) t317) ∧ Aside0 (Kd.R (Kd.int .i64) 3 wc w.heap.size (fun k_ => some k_ ≠ ((.slice Ao24 t281.length co24) : Value).ownBlock ∧ some k_ ≠ ((.slice Ao25 t284.length co25) : Value).ownBlock ∧ some k_ ≠ ((.slice Ao39 t297.length co39) : Value).ownBlock ∧ some k_ ≠ ((.slice Ao40 t300.length co40) : Value).ownBlock ∧ some k_ ≠ ((.slice Ao124 t329.length co124) : Value).ownBlock) (.slice Ao123 t326.length co123) t326) ∧ Aside0 (Kd.R (Kd.int .i64) 3 wc w.heap.size (fun k_ => some k_ ≠ ((.slice Ao24 t281.length co24) : Value).ownBlock ∧ some k_ ≠ ((.slice Ao25 t284.length co25) : Value).ownBlock ∧ some k_ ≠ ((.slice Ao39 t297.length co39) : Value).ownBlock ∧ some k_ ≠ ((.slice Ao40 t300.length co40) : Value).ownBlock ∧ some k_ ≠ ((.slice Ao123 t326.length co123) : Value).ownBlock) (.slice Ao124 t329.length co124) t329) ∧ Aside0 (wc.heap[gb272]? = some (.cells #[.int .i64 a0_0, .int .i64 a0_1, .int .i64 a0_2, (.slice A0_3 l0_3.length c0_3)] 24 (0, 0))) ∧ Aside0 (wc.heap[gb288]? = some (.cells #[.int .i64 t280, (.slice Ao24 t281.length co24), (.slice Ao25 t284.length co25)] 44 (0, 0))) ∧ Aside0 (wc.heap[gb304]? = some (.cells #[.int .i64 t296, (.slice Ao39 t297.length co39), (.slice Ao40 t300.length co40)] 44 (0, 0))) ∧ Aside0 (wc.heap[gb333]? = some (.cells #[.int .i64 t325, (.slice Ao123 t326.length co123), (.slice Ao124 t329.length co124)] 44 (0, 0))) ∧ Aside0 (Below w.heap.size w wc))
           case first =>
            have H := HC106.out
            clear HC106
            obtain ⟨t334, A125, H⟩ := bnd H
            obtain rfl | rfl := tt t334
            ·replace H := ip H
             have H' := Aside0.mk H
             clear H
             have hnb127 := NB333_272.out
             have hnc127 := NB272_333.out
             have hnb128 := NB333_288.out
             have hnc128 := NB288_333.out
             have hnb129 := NB333_304.out
             have hnc129 := NB304_333.out
             obtain ⟨hcz130_0, hcz130_1, hcz130_2, hfz130_0, hfz130_1, hfz130_2⟩ := cc3 BK333
             have hnb131 := NB288_272.out
             have hnc131 := NB272_288.out
             have hnb132 := NB288_304.out
             have hnc132 := NB304_288.out
             obtain ⟨hcz133_0, hcz133_1, hcz133_2, hfz133_0, hfz133_1, hfz133_2⟩ := cc3 BK288
             go_wp2_with (first | ((with_reducible refine gate_callee (f := 36) rfl ?_); refine gL (some 91) Try.func36 #[.agg #[.int .i64 t325, .slice Ao123 t326.length co123, .slice Ao124 t329.length co124], .agg #[.int .i64 t280, .slice Ao24 t281.length co24, .slice Ao25 t284.length co25]] ?_; (with_reducible refine (laws_eqTable.calls kj63 t325 _ _ t326 _ _ t329 t280 _ _ t281 _ _ t284 true _ ?side1 ?side2 ?side3 ?side4 ?side5 ?side6 ?side7 ?side8 A125.out).mono ?_); (case side1 => refine (Kd.R_reads' (e := 3) (base := w.heap.size) (ok := fun k_ => ((((some k_ ≠ (.slice Ao124 t329.length co124 : Value).ownBlock ∧ some k_ ≠ (.slice Ao24 t281.length co24 : Value).ownBlock) ∧ some k_ ≠ (.slice Ao25 t284.length co25 : Value).ownBlock) ∧ some k_ ≠ (.slice Ao39 t297.length co39 : Value).ownBlock) ∧ some k_ ≠ (.slice Ao40 t300.length co40 : Value).ownBlock)) (n := t326.length) (c := co123) ?_).2.2; exact (by (with_reducible repeat (first | apply Kd.R_alloc | apply Kd.R_drewN | apply Kd.R_drew)); exact (Kd.R_mono (Kd.R_far (p := ⟨gb333, 2, none⟩) (Kd.R_far (p := ⟨gb333, 1, none⟩) (Kd.R_far (p := ⟨gb333, 0, none⟩) (Kd.R_types HO328.out BK333.out (by decide)) (fun _ hk => hk.2) (.int .i64 t325)) (fun _ hk => hk.2) (.slice Ao123 t326.length co123)) (fun _ hk => hk.2) (.slice Ao124 t329.length co124)) (fun _ h_ => h_.1)))); (case side2 => exact (Kd.R_reads' HO328.out).2.1); (case side3 => refine (Kd.R_reads' (e := 3) (base := w.heap.size) (ok := fun k_ => ((((some k_ ≠ (.slice Ao123 t326.length co123 : Value).ownBlock ∧ some k_ ≠ (.slice Ao24 t281.length co24 : Value).ownBlock) ∧ some k_ ≠ (.slice Ao25 t284.length co25 : Value).ownBlock) ∧ some k_ ≠ (.slice Ao39 t297.length co39 : Value).ownBlock) ∧ some k_ ≠ (.slice Ao40 t300.length co40 : Value).ownBlock)) (n := t329.length) (c := co124) ?_).2.2; exact (by (with_reducible repeat (first | apply Kd.R_alloc | apply Kd.R_drewN | apply Kd.R_drew)); exact (Kd.R_mono (Kd.R_far (p := ⟨gb333, 2, none⟩) (Kd.R_far (p := ⟨gb333, 1, none⟩) (Kd.R_far (p := ⟨gb333, 0, none⟩) (Kd.R_types HO331.out BK333.out (by decide)) (fun _ hk => hk.2) (.int .i64 t325)) (fun _ hk => hk.2) (.slice Ao123 t326.length co123)) (fun _ hk => hk.2) (.slice Ao124 t329.length co124)) (fun _ h_ => h_.1)))); (case side4 => exact (Kd.R_reads' HO331.out).2.1); (case side5 => refine (Kd.R_reads' (e := 3) (base := w.heap.size) (ok := fun k_ => (((some k_ ≠ (.slice Ao25 t284.length co25 : Value).ownBlock ∧ (some k_ ≠ (.slice Ao39 t297.length co39 : Value).ownBlock ∧ some k_ ≠ (.slice Ao40 t300.length co40 : Value).ownBlock)) ∧ some k_ ≠ (.slice Ao123 t326.length co123 : Value).ownBlock) ∧ some k_ ≠ (.slice Ao124 t329.length co124 : Value).ownBlock)) (n := t281.length) (c := co24) ?_).2.2; exact (by (with_reducible repeat (first | apply Kd.R_alloc | apply Kd.R_drewN | apply Kd.R_drew)); exact (Kd.R_mono (Kd.R_far (p := ⟨gb333, 2, none⟩) (Kd.R_far (p := ⟨gb333, 1, none⟩) (Kd.R_far (p := ⟨gb333, 0, none⟩) (Kd.R_types HO_289001.out BK333.out (by decide)) (fun _ hk => hk.2) (.int .i64 t325)) (fun _ hk => hk.2) (.slice Ao123 t326.length co123)) (fun _ hk => hk.2) (.slice Ao124 t329.length co124)) (fun _ h_ => h_.1)))); (case side6 => exact (Kd.R_reads' HO_289001.out).2.1); (case side7 => refine (Kd.R_reads' (e := 3) (base := w.heap.size) (ok := fun k_ => (((some k_ ≠ (.slice Ao24 t281.length co24 : Value).ownBlock ∧ (some k_ ≠ (.slice Ao39 t297.length co39 : Value).ownBlock ∧ some k_ ≠ (.slice Ao40 t300.length co40 : Value).ownBlock)) ∧ some k_ ≠ (.slice Ao123 t326.length co123 : Value).ownBlock) ∧ some k_ ≠ (.slice Ao124 t329.length co124 : Value).ownBlock)) (n := t284.length) (c := co25) ?_).2.2; exact (by (with_reducible repeat (first | apply Kd.R_alloc | apply Kd.R_drewN | apply Kd.R_drew)); exact (Kd.R_mono (Kd.R_far (p := ⟨gb333, 2, none⟩) (Kd.R_far (p := ⟨gb333, 1, none⟩) (Kd.R_far (p := ⟨gb333, 0, none⟩) (Kd.R_types HO_289002.out BK333.out (by decide)) (fun _ hk => hk.2) (.int .i64 t325)) (fun _ hk => hk.2) (.slice Ao123 t326.length co123)) (fun _ hk => hk.2) (.slice Ao124 t329.length co124)) (fun _ h_ => h_.1)))); (case side8 => exact (Kd.R_reads' HO_289002.out).2.1); rintro e w134 ⟨rfl, hb⟩; refine ⟨_, rfl, ?_⟩; replace HO_289001 := Aside0.mk (Kd.R_below (by (with_reducible repeat (first | apply Kd.R_alloc | apply Kd.R_drewN | apply Kd.R_drew)); exact (Kd.R_mono (Kd.R_far (p := ⟨gb333, 2, none⟩) (Kd.R_far (p := ⟨gb333, 1, none⟩) (Kd.R_far (p := ⟨gb333, 0, none⟩) (Kd.R_types HO_289001.out BK333.out (by decide)) (fun _ hk => hk.2) (.int .i64 t325)) (fun _ hk => hk.2) (.slice Ao123 t326.length co123)) (fun _ hk => hk.2) (.slice Ao124 t329.length co124)) (fun _ h_ => h_.1))) hb); replace HO_289002 := Aside0.mk (Kd.R_below (by (with_reducible repeat (first | apply Kd.R_alloc | apply Kd.R_drewN | apply Kd.R_drew)); exact (Kd.R_mono (Kd.R_far (p := ⟨gb333, 2, none⟩) (Kd.R_far (p := ⟨gb333, 1, none⟩) (Kd.R_far (p := ⟨gb333, 0, none⟩) (Kd.R_types HO_289002.out BK333.out (by decide)) (fun _ hk => hk.2) (.int .i64 t325)) (fun _ hk => hk.2) (.slice Ao123 t326.length co123)) (fun _ hk => hk.2) (.slice Ao124 t329.length co124)) (fun _ h_ => h_.1))) hb); replace HO_305001 := Aside0.mk (Kd.R_below (by (with_reducible repeat (first | apply Kd.R_alloc | apply Kd.R_drewN | apply Kd.R_drew)); exact (Kd.R_mono (Kd.R_far (p := ⟨gb333, 2, none⟩) (Kd.R_far (p := ⟨gb333, 1, none⟩) (Kd.R_far (p := ⟨gb333, 0, none⟩) (Kd.R_types HO_305001.out BK333.out (by decide)) (fun _ hk => hk.2) (.int .i64 t325)) (fun _ hk => hk.2) (.slice Ao123 t326.length co123)) (fun _ hk => hk.2) (.slice Ao124 t329.length co124)) (fun _ h_ => h_.1))) hb); replace HO_305002 := Aside0.mk (Kd.R_below (by (with_reducible repeat (first | apply Kd.R_alloc | apply Kd.R_drewN | apply Kd.R_drew)); exact (Kd.R_mono (Kd.R_far (p := ⟨gb333, 2, none⟩) (Kd.R_far (p := ⟨gb333, 1, none⟩) (Kd.R_far (p := ⟨gb333, 0, none⟩) (Kd.R_types HO_305002.out BK333.out (by decide)) (fun _ hk => hk.2) (.int .i64 t325)) (fun _ hk => hk.2) (.slice Ao123 t326.length co123)) (fun _ hk => hk.2) (.slice Ao124 t329.length co124)) (fun _ h_ => h_.1))) hb); replace HO324 := Aside0.mk (Kd.R_below (by (with_reducible repeat (first | apply Kd.R_alloc | apply Kd.R_drewN | apply Kd.R_drew)); exact (Kd.R_mono (Kd.R_far (p := ⟨gb333, 2, none⟩) (Kd.R_far (p := ⟨gb333, 1, none⟩) (Kd.R_far (p := ⟨gb333, 0, none⟩) (Kd.R_mono HO324.out (fun k_ hk => (⟨hk, hk.2⟩ : _ ∧ k_ ≠ gb333))) (fun _ hk => hk.2) (.int .i64 t325)) (fun _ hk => hk.2) (.slice Ao123 t326.length co123)) (fun _ hk => hk.2) (.slice Ao124 t329.length co124)) (fun _ h_ => h_.1))) hb); replace HO328 := Aside0.mk (Kd.R_below (by (with_reducible repeat (first | apply Kd.R_alloc | apply Kd.R_drewN | apply Kd.R_drew)); exact (Kd.R_mono (Kd.R_far (p := ⟨gb333, 2, none⟩) (Kd.R_far (p := ⟨gb333, 1, none⟩) (Kd.R_far (p := ⟨gb333, 0, none⟩) (Kd.R_types HO328.out BK333.out (by decide)) (fun _ hk => hk.2) (.int .i64 t325)) (fun _ hk => hk.2) (.slice Ao123 t326.length co123)) (fun _ hk => hk.2) (.slice Ao124 t329.length co124)) (fun _ h_ => h_.1))) hb); replace HO331 := Aside0.mk (Kd.R_below (by (with_reducible repeat (first | apply Kd.R_alloc | apply Kd.R_drewN | apply Kd.R_drew)); exact (Kd.R_mono (Kd.R_far (p := ⟨gb333, 2, none⟩) (Kd.R_far (p := ⟨gb333, 1, none⟩) (Kd.R_far (p := ⟨gb333, 0, none⟩) (Kd.R_types HO331.out BK333.out (by decide)) (fun _ hk => hk.2) (.int .i64 t325)) (fun _ hk => hk.2) (.slice Ao123 t326.length co123)) (fun _ hk => hk.2) (.slice Ao124 t329.length co124)) (fun _ h_ => h_.1))) hb); replace BK272 := Aside0.mk (blk_below (g := gb272) (o := .cells #[.int .i64 a0_0, .int .i64 a0_1, .int .i64 a0_2, .slice A0_3 l0_3.length c0_3] 24 (0, 0)) (sp BK272) hb); replace BK288 := Aside0.mk (blk_below (g := gb288) (o := .cells #[.int .i64 t280, .slice Ao24 t281.length co24, .slice Ao25 t284.length co25] 44 (0, 0)) (sp BK288) hb); replace BK304 := Aside0.mk (blk_below (g := gb304) (o := .cells #[.int .i64 t296, .slice Ao39 t297.length co39, .slice Ao40 t300.length co40] 44 (0, 0)) (sp BK304) hb); replace BK333 := Aside0.mk (blk_below (g := gb333) (o := .cells #[.int .i64 t325, .slice Ao123 t326.length co123, .slice Ao124 t329.length co124] 44 (0, 0)) (sp BK333) hb); replace HB := bsw hb; (try clear hb); (try clear hb2); (try clear hk); (try clear hi)))
             go_meet
             case rel => exact ⟨_, ((t332 != t287)), sc, H', ⟨by have := HJ12.out; have := HJ63.out; first | omega | exact Nat.le_refl _⟩, ⟨by (with_reducible repeat (first | apply Kd.R_alloc | apply Kd.R_drewN | apply Kd.R_drew)); exact Kd.R_mono HO_289001.out (fun _ hk => ⟨hk.1.1.1, ⟨hk.1.1.2.1, ⟨hk.1.1.2.2, ⟨hk.1.2, hk.2⟩⟩⟩⟩)⟩, ⟨by (with_reducible repeat (first | apply Kd.R_alloc | apply Kd.R_drewN | apply Kd.R_drew)); exact Kd.R_mono HO_289002.out (fun _ hk => ⟨hk.1.1.1, ⟨hk.1.1.2.1, ⟨hk.1.1.2.2, ⟨hk.1.2, hk.2⟩⟩⟩⟩)⟩, ⟨by (with_reducible repeat (first | apply Kd.R_alloc | apply Kd.R_drewN | apply Kd.R_drew)); exact Kd.R_mono HO_305001.out (fun _ hk => ⟨hk.1.1.1, ⟨hk.1.1.2.1, ⟨hk.1.1.2.2, ⟨hk.1.2, hk.2⟩⟩⟩⟩)⟩, ⟨by (with_reducible repeat (first | apply Kd.R_alloc | apply Kd.R_drewN | apply Kd.R_drew)); exact Kd.R_mono HO_305002.out (fun _ hk => ⟨hk.1.1.1, ⟨hk.1.1.2.1, ⟨hk.1.1.2.2, ⟨hk.1.2, hk.2⟩⟩⟩⟩)⟩, ⟨by (with_reducible repeat (first | apply Kd.R_alloc | apply Kd.R_drewN | apply Kd.R_drew)); exact Kd.R_mono HO328.out (fun _ hk => ⟨hk.1.1.1.2, ⟨hk.1.1.2, ⟨hk.1.2, ⟨hk.2, hk.1.1.1.1⟩⟩⟩⟩)⟩, ⟨by (with_reducible repeat (first | apply Kd.R_alloc | apply Kd.R_drewN | apply Kd.R_drew)); exact Kd.R_mono HO331.out (fun _ hk => ⟨hk.1.1.1.2, ⟨hk.1.1.2, ⟨hk.1.2, ⟨hk.2, hk.1.1.1.1⟩⟩⟩⟩)⟩, ⟨sk BK272⟩, ⟨sk BK288⟩, ⟨sk BK304⟩, ⟨sk BK333⟩, ⟨sbw⟩⟩
            ·replace H := im H
             have H' := Aside0.mk H
             clear H
             have hnb135 := NB333_272.out
             have hnc135 := NB272_333.out
             have hnb136 := NB333_288.out
             have hnc136 := NB288_333.out
             have hnb137 := NB333_304.out
             have hnc137 := NB304_333.out
             obtain ⟨hcz138_0, hcz138_1, hcz138_2, hfz138_0, hfz138_1, hfz138_2⟩ := cc3 BK333
             have hnb139 := NB288_272.out
             have hnc139 := NB272_288.out
             have hnb140 := NB288_304.out
             have hnc140 := NB304_288.out
             obtain ⟨hcz141_0, hcz141_1, hcz141_2, hfz141_0, hfz141_1, hfz141_2⟩ := cc3 BK288
             go_wp2_with (first | ((with_reducible refine gate_callee (f := 36) rfl ?_); refine gL (some 91) Try.func36 #[.agg #[.int .i64 t325, .slice Ao123 t326.length co123, .slice Ao124 t329.length co124], .agg #[.int .i64 t280, .slice Ao24 t281.length co24, .slice Ao25 t284.length co25]] ?_; (with_reducible refine (laws_eqTable.calls kj63 t325 _ _ t326 _ _ t329 t280 _ _ t281 _ _ t284 false _ ?side1 ?side2 ?side3 ?side4 ?side5 ?side6 ?side7 ?side8 A125.out).mono ?_); (case side1 => refine (Kd.R_reads' (e := 3) (base := w.heap.size) (ok := fun k_ => ((((some k_ ≠ (.slice Ao124 t329.length co124 : Value).ownBlock ∧ some k_ ≠ (.slice Ao24 t281.length co24 : Value).ownBlock) ∧ some k_ ≠ (.slice Ao25 t284.length co25 : Value).ownBlock) ∧ some k_ ≠ (.slice Ao39 t297.length co39 : Value).ownBlock) ∧ some k_ ≠ (.slice Ao40 t300.length co40 : Value).ownBlock)) (n := t326.length) (c := co123) ?_).2.2; exact (by (with_reducible repeat (first | apply Kd.R_alloc | apply Kd.R_drewN | apply Kd.R_drew)); exact (Kd.R_mono (Kd.R_far (p := ⟨gb333, 2, none⟩) (Kd.R_far (p := ⟨gb333, 1, none⟩) (Kd.R_far (p := ⟨gb333, 0, none⟩) (Kd.R_types HO328.out BK333.out (by decide)) (fun _ hk => hk.2) (.int .i64 t325)) (fun _ hk => hk.2) (.slice Ao123 t326.length co123)) (fun _ hk => hk.2) (.slice Ao124 t329.length co124)) (fun _ h_ => h_.1)))); (case side2 => exact (Kd.R_reads' HO328.out).2.1); (case side3 => refine (Kd.R_reads' (e := 3) (base := w.heap.size) (ok := fun k_ => ((((some k_ ≠ (.slice Ao123 t326.length co123 : Value).ownBlock ∧ some k_ ≠ (.slice Ao24 t281.length co24 : Value).ownBlock) ∧ some k_ ≠ (.slice Ao25 t284.length co25 : Value).ownBlock) ∧ some k_ ≠ (.slice Ao39 t297.length co39 : Value).ownBlock) ∧ some k_ ≠ (.slice Ao40 t300.length co40 : Value).ownBlock)) (n := t329.length) (c := co124) ?_).2.2; exact (by (with_reducible repeat (first | apply Kd.R_alloc | apply Kd.R_drewN | apply Kd.R_drew)); exact (Kd.R_mono (Kd.R_far (p := ⟨gb333, 2, none⟩) (Kd.R_far (p := ⟨gb333, 1, none⟩) (Kd.R_far (p := ⟨gb333, 0, none⟩) (Kd.R_types HO331.out BK333.out (by decide)) (fun _ hk => hk.2) (.int .i64 t325)) (fun _ hk => hk.2) (.slice Ao123 t326.length co123)) (fun _ hk => hk.2) (.slice Ao124 t329.length co124)) (fun _ h_ => h_.1)))); (case side4 => exact (Kd.R_reads' HO331.out).2.1); (case side5 => refine (Kd.R_reads' (e := 3) (base := w.heap.size) (ok := fun k_ => (((some k_ ≠ (.slice Ao25 t284.length co25 : Value).ownBlock ∧ (some k_ ≠ (.slice Ao39 t297.length co39 : Value).ownBlock ∧ some k_ ≠ (.slice Ao40 t300.length co40 : Value).ownBlock)) ∧ some k_ ≠ (.slice Ao123 t326.length co123 : Value).ownBlock) ∧ some k_ ≠ (.slice Ao124 t329.length co124 : Value).ownBlock)) (n := t281.length) (c := co24) ?_).2.2; exact (by (with_reducible repeat (first | apply Kd.R_alloc | apply Kd.R_drewN | apply Kd.R_drew)); exact (Kd.R_mono (Kd.R_far (p := ⟨gb333, 2, none⟩) (Kd.R_far (p := ⟨gb333, 1, none⟩) (Kd.R_far (p := ⟨gb333, 0, none⟩) (Kd.R_types HO_289001.out BK333.out (by decide)) (fun _ hk => hk.2) (.int .i64 t325)) (fun _ hk => hk.2) (.slice Ao123 t326.length co123)) (fun _ hk => hk.2) (.slice Ao124 t329.length co124)) (fun _ h_ => h_.1)))); (case side6 => exact (Kd.R_reads' HO_289001.out).2.1); (case side7 => refine (Kd.R_reads' (e := 3) (base := w.heap.size) (ok := fun k_ => (((some k_ ≠ (.slice Ao24 t281.length co24 : Value).ownBlock ∧ (some k_ ≠ (.slice Ao39 t297.length co39 : Value).ownBlock ∧ some k_ ≠ (.slice Ao40 t300.length co40 : Value).ownBlock)) ∧ some k_ ≠ (.slice Ao123 t326.length co123 : Value).ownBlock) ∧ some k_ ≠ (.slice Ao124 t329.length co124 : Value).ownBlock)) (n := t284.length) (c := co25) ?_).2.2; exact (by (with_reducible repeat (first | apply Kd.R_alloc | apply Kd.R_drewN | apply Kd.R_drew)); exact (Kd.R_mono (Kd.R_far (p := ⟨gb333, 2, none⟩) (Kd.R_far (p := ⟨gb333, 1, none⟩) (Kd.R_far (p := ⟨gb333, 0, none⟩) (Kd.R_types HO_289002.out BK333.out (by decide)) (fun _ hk => hk.2) (.int .i64 t325)) (fun _ hk => hk.2) (.slice Ao123 t326.length co123)) (fun _ hk => hk.2) (.slice Ao124 t329.length co124)) (fun _ h_ => h_.1)))); (case side8 => exact (Kd.R_reads' HO_289002.out).2.1); rintro e w142 ⟨rfl, hb⟩; refine ⟨_, rfl, ?_⟩; replace HO_289001 := Aside0.mk (Kd.R_below (by (with_reducible repeat (first | apply Kd.R_alloc | apply Kd.R_drewN | apply Kd.R_drew)); exact (Kd.R_mono (Kd.R_far (p := ⟨gb333, 2, none⟩) (Kd.R_far (p := ⟨gb333, 1, none⟩) (Kd.R_far (p := ⟨gb333, 0, none⟩) (Kd.R_types HO_289001.out BK333.out (by decide)) (fun _ hk => hk.2) (.int .i64 t325)) (fun _ hk => hk.2) (.slice Ao123 t326.length co123)) (fun _ hk => hk.2) (.slice Ao124 t329.length co124)) (fun _ h_ => h_.1))) hb); replace HO_289002 := Aside0.mk (Kd.R_below (by (with_reducible repeat (first | apply Kd.R_alloc | apply Kd.R_drewN | apply Kd.R_drew)); exact (Kd.R_mono (Kd.R_far (p := ⟨gb333, 2, none⟩) (Kd.R_far (p := ⟨gb333, 1, none⟩) (Kd.R_far (p := ⟨gb333, 0, none⟩) (Kd.R_types HO_289002.out BK333.out (by decide)) (fun _ hk => hk.2) (.int .i64 t325)) (fun _ hk => hk.2) (.slice Ao123 t326.length co123)) (fun _ hk => hk.2) (.slice Ao124 t329.length co124)) (fun _ h_ => h_.1))) hb); replace HO_305001 := Aside0.mk (Kd.R_below (by (with_reducible repeat (first | apply Kd.R_alloc | apply Kd.R_drewN | apply Kd.R_drew)); exact (Kd.R_mono (Kd.R_far (p := ⟨gb333, 2, none⟩) (Kd.R_far (p := ⟨gb333, 1, none⟩) (Kd.R_far (p := ⟨gb333, 0, none⟩) (Kd.R_types HO_305001.out BK333.out (by decide)) (fun _ hk => hk.2) (.int .i64 t325)) (fun _ hk => hk.2) (.slice Ao123 t326.length co123)) (fun _ hk => hk.2) (.slice Ao124 t329.length co124)) (fun _ h_ => h_.1))) hb); replace HO_305002 := Aside0.mk (Kd.R_below (by (with_reducible repeat (first | apply Kd.R_alloc | apply Kd.R_drewN | apply Kd.R_drew)); exact (Kd.R_mono (Kd.R_far (p := ⟨gb333, 2, none⟩) (Kd.R_far (p := ⟨gb333, 1, none⟩) (Kd.R_far (p := ⟨gb333, 0, none⟩) (Kd.R_types HO_305002.out BK333.out (by decide)) (fun _ hk => hk.2) (.int .i64 t325)) (fun _ hk => hk.2) (.slice Ao123 t326.length co123)) (fun _ hk => hk.2) (.slice Ao124 t329.length co124)) (fun _ h_ => h_.1))) hb); replace HO324 := Aside0.mk (Kd.R_below (by (with_reducible repeat (first | apply Kd.R_alloc | apply Kd.R_drewN | apply Kd.R_drew)); exact (Kd.R_mono (Kd.R_far (p := ⟨gb333, 2, none⟩) (Kd.R_far (p := ⟨gb333, 1, none⟩) (Kd.R_far (p := ⟨gb333, 0, none⟩) (Kd.R_mono HO324.out (fun k_ hk => (⟨hk, hk.2⟩ : _ ∧ k_ ≠ gb333))) (fun _ hk => hk.2) (.int .i64 t325)) (fun _ hk => hk.2) (.slice Ao123 t326.length co123)) (fun _ hk => hk.2) (.slice Ao124 t329.length co124)) (fun _ h_ => h_.1))) hb); replace HO328 := Aside0.mk (Kd.R_below (by (with_reducible repeat (first | apply Kd.R_alloc | apply Kd.R_drewN | apply Kd.R_drew)); exact (Kd.R_mono (Kd.R_far (p := ⟨gb333, 2, none⟩) (Kd.R_far (p := ⟨gb333, 1, none⟩) (Kd.R_far (p := ⟨gb333, 0, none⟩) (Kd.R_types HO328.out BK333.out (by decide)) (fun _ hk => hk.2) (.int .i64 t325)) (fun _ hk => hk.2) (.slice Ao123 t326.length co123)) (fun _ hk => hk.2) (.slice Ao124 t329.length co124)) (fun _ h_ => h_.1))) hb); replace HO331 := Aside0.mk (Kd.R_below (by (with_reducible repeat (first | apply Kd.R_alloc | apply Kd.R_drewN | apply Kd.R_drew)); exact (Kd.R_mono (Kd.R_far (p := ⟨gb333, 2, none⟩) (Kd.R_far (p := ⟨gb333, 1, none⟩) (Kd.R_far (p := ⟨gb333, 0, none⟩) (Kd.R_types HO331.out BK333.out (by decide)) (fun _ hk => hk.2) (.int .i64 t325)) (fun _ hk => hk.2) (.slice Ao123 t326.length co123)) (fun _ hk => hk.2) (.slice Ao124 t329.length co124)) (fun _ h_ => h_.1))) hb); replace BK272 := Aside0.mk (blk_below (g := gb272) (o := .cells #[.int .i64 a0_0, .int .i64 a0_1, .int .i64 a0_2, .slice A0_3 l0_3.length c0_3] 24 (0, 0)) (sp BK272) hb); replace BK288 := Aside0.mk (blk_below (g := gb288) (o := .cells #[.int .i64 t280, .slice Ao24 t281.length co24, .slice Ao25 t284.length co25] 44 (0, 0)) (sp BK288) hb); replace BK304 := Aside0.mk (blk_below (g := gb304) (o := .cells #[.int .i64 t296, .slice Ao39 t297.length co39, .slice Ao40 t300.length co40] 44 (0, 0)) (sp BK304) hb); replace BK333 := Aside0.mk (blk_below (g := gb333) (o := .cells #[.int .i64 t325, .slice Ao123 t326.length co123, .slice Ao124 t329.length co124] 44 (0, 0)) (sp BK333) hb); replace HB := bsw hb; (try clear hb); (try clear hb2); (try clear hk); (try clear hi)))
             go_meet
             case rel => exact ⟨_, (true), sc, H', ⟨by have := HJ12.out; have := HJ63.out; first | omega | exact Nat.le_refl _⟩, ⟨by (with_reducible repeat (first | apply Kd.R_alloc | apply Kd.R_drewN | apply Kd.R_drew)); exact Kd.R_mono HO_289001.out (fun _ hk => ⟨hk.1.1.1, ⟨hk.1.1.2.1, ⟨hk.1.1.2.2, ⟨hk.1.2, hk.2⟩⟩⟩⟩)⟩, ⟨by (with_reducible repeat (first | apply Kd.R_alloc | apply Kd.R_drewN | apply Kd.R_drew)); exact Kd.R_mono HO_289002.out (fun _ hk => ⟨hk.1.1.1, ⟨hk.1.1.2.1, ⟨hk.1.1.2.2, ⟨hk.1.2, hk.2⟩⟩⟩⟩)⟩, ⟨by (with_reducible repeat (first | apply Kd.R_alloc | apply Kd.R_drewN | apply Kd.R_drew)); exact Kd.R_mono HO_305001.out (fun _ hk => ⟨hk.1.1.1, ⟨hk.1.1.2.1, ⟨hk.1.1.2.2, ⟨hk.1.2, hk.2⟩⟩⟩⟩)⟩, ⟨by (with_reducible repeat (first | apply Kd.R_alloc | apply Kd.R_drewN | apply Kd.R_drew)); exact Kd.R_mono HO_305002.out (fun _ hk => ⟨hk.1.1.1, ⟨hk.1.1.2.1, ⟨hk.1.1.2.2, ⟨hk.1.2, hk.2⟩⟩⟩⟩)⟩, ⟨by (with_reducible repeat (first | apply Kd.R_alloc | apply Kd.R_drewN | apply Kd.R_drew)); exact Kd.R_mono HO328.out (fun _ hk => ⟨hk.1.1.1.2, ⟨hk.1.1.2, ⟨hk.1.2, ⟨hk.2, hk.1.1.1.1⟩⟩⟩⟩)⟩, ⟨by (with_reducible repeat (first | apply Kd.R_alloc | apply Kd.R_drewN | apply Kd.R_drew)); exact Kd.R_mono HO331.out (fun _ hk => ⟨hk.1.1.1.2, ⟨hk.1.1.2, ⟨hk.1.2, ⟨hk.2, hk.1.1.1.1⟩⟩⟩⟩)⟩, ⟨sk BK272⟩, ⟨sk BK288⟩, ⟨sk BK304⟩, ⟨sk BK333⟩, ⟨sbw⟩⟩
           case rest =>
            clear HC106
            try clear c5
            try clear c5b0
            try clear c74
            try clear c74b0
            try clear c96
            try clear c96b0
            try clear c103
            try clear c103b0
            try clear c103b1
            try clear hcz109_0
            try clear hcz109_1
            try clear hcz109_2
            try clear hcz130_0
            try clear hcz130_1
            try clear hcz130_2
            try clear hcz133_0
            try clear hcz133_1
            try clear hcz133_2
            try clear hcz138_0
            try clear hcz138_1
            try clear hcz138_2
            try clear hcz141_0
            try clear hcz141_1
            try clear hcz141_2
            try clear hcz46_0
            try clear hcz46_1
            try clear hcz46_2
            try clear hcz49_0
            try clear hcz49_1
            try clear hcz49_2
            try clear hcz54_0
            try clear hcz54_1
            try clear hcz54_2
            try clear hcz57_0
            try clear hcz57_1
            try clear hcz57_2
            try clear hcz72_0
            try clear hcz72_1
            try clear hcz72_2
            try clear hcz72_3
            try clear hcz80_0
            try clear hcz80_1
            try clear hcz80_2
            try clear hcz83_0
            try clear hcz83_1
            try clear hcz83_2
            try clear hcz88_0
            try clear hcz88_1
            try clear hcz88_2
            try clear hcz91_0
            try clear hcz91_1
            try clear hcz91_2
            try clear hcz99_0
            try clear hcz99_1
            try clear hcz99_2
            try clear hfz109_0
            try clear hfz109_1
            try clear hfz109_2
            try clear hfz130_0
            try clear hfz130_1
            try clear hfz130_2
            try clear hfz133_0
            try clear hfz133_1
            try clear hfz133_2
            try clear hfz138_0
            try clear hfz138_1
            try clear hfz138_2
            try clear hfz141_0
            try clear hfz141_1
            try clear hfz141_2
            try clear hfz46_0
            try clear hfz46_1
            try clear hfz46_2
            try clear hfz49_0
            try clear hfz49_1
            try clear hfz49_2
            try clear hfz54_0
            try clear hfz54_1
            try clear hfz54_2
            try clear hfz57_0
            try clear hfz57_1
            try clear hfz57_2
            try clear hfz72_0
            try clear hfz72_1
            try clear hfz72_2
            try clear hfz72_3
            try clear hfz80_0
            try clear hfz80_1
            try clear hfz80_2
            try clear hfz83_0
            try clear hfz83_1
            try clear hfz83_2
            try clear hfz88_0
            try clear hfz88_1
            try clear hfz88_2
            try clear hfz91_0
            try clear hfz91_1
            try clear hfz91_2
            try clear hfz99_0
            try clear hfz99_1
            try clear hfz99_2
            obtain ⟨kq, x97_105, rfl, HA, HJ105, HO_289001, HO_289002, HO_305001, HO_305002, HO_334001, HO_334002, BK272, BK288, BK304, BK333, HB⟩ := hcut
            have hl305001_105 := (Kd.R_reads' HO_305001.out).1
            rw [hl305001_105] at HO_305001
            (try simp only [hl305001_105])
            (try simp only [hl305001_105] at BK272)
            (try simp only [hl305001_105] at BK288)
            (try simp only [hl305001_105] at BK304)
            (try simp only [hl305001_105] at BK333)
            (try simp only [hl305001_105] at HO_289001)
            (try simp only [hl305001_105] at HO_289002)
            (try simp only [hl305001_105] at HO_305002)
            (try simp only [hl305001_105] at HO_334001)
            (try simp only [hl305001_105] at HO_334002)
            have hl305002_105 := (Kd.R_reads' HO_305002.out).1
            rw [hl305002_105] at HO_305002
            (try simp only [hl305002_105])
            (try simp only [hl305002_105] at BK272)
            (try simp only [hl305002_105] at BK288)
            (try simp only [hl305002_105] at BK304)
            (try simp only [hl305002_105] at BK333)
            (try simp only [hl305002_105] at HO_289001)
            (try simp only [hl305002_105] at HO_289002)
            (try simp only [hl305002_105] at HO_305001)
            (try simp only [hl305002_105] at HO_334001)
            (try simp only [hl305002_105] at HO_334002)
            cases kq with
            | zero => exact absurd HA.out (by simp [laws_FnExactTableIn.j2])
            | succ kj105 =>
             have H := HA.out
             clear HA
             simp only [laws_FnExactTableIn.j2] at H
             obtain rfl | rfl := tt x97_105
             ·replace H := ip H
              obtain rfl := Option.some.inj H
              go_wp2
              go_ret
              exact ⟨se, sbw⟩
             ·replace H := im H
              obtain ⟨t335, A144, H⟩ := bnd H
              obtain ⟨c145, H⟩ | ⟨c145, H⟩ := ie_ H
              ·have c145b0 := decide_eq_true c145
               clear c145
               obtain rfl := Option.some.inj H
               have hnb146 := NB304_272.out
               have hnc146 := NB272_304.out
               have hnb147 := NB304_288.out
               have hnc147 := NB288_304.out
               have hnb148 := NB304_333.out
               have hnc148 := NB333_304.out
               obtain ⟨hcz149_0, hcz149_1, hcz149_2, hfz149_0, hfz149_1, hfz149_2⟩ := cc3 BK304
               go_wp2_with (first | ((with_reducible refine gate_callee (f := 38) rfl ?_); refine gL (some 100) Try.func38 #[.agg #[.int .i64 t296, .slice Ao39 t316.length co39, .slice Ao40 t317.length co40], .int .i64 1] ?_; (with_reducible refine (laws_heldTable.calls kj105 t296 _ _ t316 _ _ t317 1 t335 _ ?side1 ?side2 ?side3 ?side4 A144.out).mono ?_); (case side1 => repeat (first | exact (Kd.R_reads' HO_305001.out).2.2 | (with_reducible refine Kd.C_alloc ?_ _) | (with_reducible refine Kd.C_drewN ?_ _) | (with_reducible refine Kd.C_drew ?_))); (case side2 => exact (Kd.R_reads' HO_305001.out).2.1); (case side3 => repeat (first | exact (Kd.R_reads' HO_305002.out).2.2 | (with_reducible refine Kd.C_alloc ?_ _) | (with_reducible refine Kd.C_drewN ?_ _) | (with_reducible refine Kd.C_drew ?_))); (case side4 => exact (Kd.R_reads' HO_305002.out).2.1); rintro e w150 ⟨rfl, hb⟩; refine ⟨_, rfl, ?_⟩; replace HO_289001 := Aside0.mk (Kd.R_below (sr HO_289001) hb); replace HO_289002 := Aside0.mk (Kd.R_below (sr HO_289002) hb); replace HO_305001 := Aside0.mk (Kd.R_below (sr HO_305001) hb); replace HO_305002 := Aside0.mk (Kd.R_below (sr HO_305002) hb); replace HO_334001 := Aside0.mk (Kd.R_below (sr HO_334001) hb); replace HO_334002 := Aside0.mk (Kd.R_below (sr HO_334002) hb); replace BK272 := bb BK272 hb; replace BK288 := bb BK288 hb; replace BK304 := bb BK304 hb; replace BK333 := bb BK333 hb; replace HB := bsw hb; (try clear hb); (try clear hb2); (try clear hk); (try clear hi)))
               go_ret
               exact ⟨se, sbw⟩
              ·have c145b0 := decide_eq_false c145
               clear c145
               obtain ⟨c151, H⟩ | ⟨c151, H⟩ := ie_ H
               ·have c151b0 : (t335 == t315) = true := beq_iff_eq.mpr c151
                have c151b1 : (t335 != t315) = false := bne_eq_false_iff_eq.mpr c151
                clear c151
                obtain rfl := Option.some.inj H
                have hnb152 := NB304_272.out
                have hnc152 := NB272_304.out
                have hnb153 := NB304_288.out
                have hnc153 := NB288_304.out
                have hnb154 := NB304_333.out
                have hnc154 := NB333_304.out
                obtain ⟨hcz155_0, hcz155_1, hcz155_2, hfz155_0, hfz155_1, hfz155_2⟩ := cc3 BK304
                go_wp2_with (first | ((with_reducible refine gate_callee (f := 38) rfl ?_); refine gL (some 100) Try.func38 #[.agg #[.int .i64 t296, .slice Ao39 t316.length co39, .slice Ao40 t317.length co40], .int .i64 1] ?_; (with_reducible refine (laws_heldTable.calls kj105 t296 _ _ t316 _ _ t317 1 t335 _ ?side1 ?side2 ?side3 ?side4 A144.out).mono ?_); (case side1 => repeat (first | exact (Kd.R_reads' HO_305001.out).2.2 | (with_reducible refine Kd.C_alloc ?_ _) | (with_reducible refine Kd.C_drewN ?_ _) | (with_reducible refine Kd.C_drew ?_))); (case side2 => exact (Kd.R_reads' HO_305001.out).2.1); (case side3 => repeat (first | exact (Kd.R_reads' HO_305002.out).2.2 | (with_reducible refine Kd.C_alloc ?_ _) | (with_reducible refine Kd.C_drewN ?_ _) | (with_reducible refine Kd.C_drew ?_))); (case side4 => exact (Kd.R_reads' HO_305002.out).2.1); rintro e w156 ⟨rfl, hb⟩; refine ⟨_, rfl, ?_⟩; replace HO_289001 := Aside0.mk (Kd.R_below (sr HO_289001) hb); replace HO_289002 := Aside0.mk (Kd.R_below (sr HO_289002) hb); replace HO_305001 := Aside0.mk (Kd.R_below (sr HO_305001) hb); replace HO_305002 := Aside0.mk (Kd.R_below (sr HO_305002) hb); replace HO_334001 := Aside0.mk (Kd.R_below (sr HO_334001) hb); replace HO_334002 := Aside0.mk (Kd.R_below (sr HO_334002) hb); replace BK272 := bb BK272 hb; replace BK288 := bb BK288 hb; replace BK304 := bb BK304 hb; replace BK333 := bb BK333 hb; replace HB := bsw hb; (try clear hb); (try clear hb2); (try clear hk); (try clear hi)))
                go_ret
                exact ⟨se, sbw⟩
               ·have c151b0 : (t335 == t315) = false := beq_eq_false_iff_ne.mpr c151
                have c151b1 : (t335 != t315) = true := bne_iff_ne.mpr c151
                obtain rfl := Option.some.inj H
                have hnb157 := NB304_272.out
                have hnc157 := NB272_304.out
                have hnb158 := NB304_288.out
                have hnc158 := NB288_304.out
                have hnb159 := NB304_333.out
                have hnc159 := NB333_304.out
                obtain ⟨hcz160_0, hcz160_1, hcz160_2, hfz160_0, hfz160_1, hfz160_2⟩ := cc3 BK304
                go_wp2_with (first | ((with_reducible refine gate_callee (f := 38) rfl ?_); refine gL (some 100) Try.func38 #[.agg #[.int .i64 t296, .slice Ao39 t316.length co39, .slice Ao40 t317.length co40], .int .i64 1] ?_; (with_reducible refine (laws_heldTable.calls kj105 t296 _ _ t316 _ _ t317 1 t335 _ ?side1 ?side2 ?side3 ?side4 A144.out).mono ?_); (case side1 => repeat (first | exact (Kd.R_reads' HO_305001.out).2.2 | (with_reducible refine Kd.C_alloc ?_ _) | (with_reducible refine Kd.C_drewN ?_ _) | (with_reducible refine Kd.C_drew ?_))); (case side2 => exact (Kd.R_reads' HO_305001.out).2.1); (case side3 => repeat (first | exact (Kd.R_reads' HO_305002.out).2.2 | (with_reducible refine Kd.C_alloc ?_ _) | (with_reducible refine Kd.C_drewN ?_ _) | (with_reducible refine Kd.C_drew ?_))); (case side4 => exact (Kd.R_reads' HO_305002.out).2.1); rintro e w161 ⟨rfl, hb⟩; refine ⟨_, rfl, ?_⟩; replace HO_289001 := Aside0.mk (Kd.R_below (sr HO_289001) hb); replace HO_289002 := Aside0.mk (Kd.R_below (sr HO_289002) hb); replace HO_305001 := Aside0.mk (Kd.R_below (sr HO_305001) hb); replace HO_305002 := Aside0.mk (Kd.R_below (sr HO_305002) hb); replace HO_334001 := Aside0.mk (Kd.R_below (sr HO_334001) hb); replace HO_334002 := Aside0.mk (Kd.R_below (sr HO_334002) hb); replace BK272 := bb BK272 hb; replace BK288 := bb BK288 hb; replace BK304 := bb BK304 hb; replace BK333 := bb BK333 hb; replace HB := bsw hb; (try clear hb); (try clear hb2); (try clear hk); (try clear hi)))
                go_ret
                exact ⟨se, sbw⟩
          ·have c103b0 : (t318 == t315) = false := beq_eq_false_iff_ne.mpr c103
           have c103b1 : (t318 != t315) = true := bne_iff_ne.mpr c103
           obtain rfl := Option.some.inj H
           have hnb162 := NB304_272.out
           have hnc162 := NB272_304.out
           have hnb163 := NB304_288.out
           have hnc163 := NB288_304.out
           obtain ⟨hcz164_0, hcz164_1, hcz164_2, hfz164_0, hfz164_1, hfz164_2⟩ := cc3 BK304
           go_wp2_with (first | ((with_reducible refine gate_callee (f := 37) rfl ?_); refine gL (some 72) Try.func37 #[.agg #[.int .i64 t296, .slice Ao39 t297.length co39, .slice Ao40 t300.length co40], .int .i64 1] ?_; (with_reducible refine (laws_markTable.calls kj63 t296 (fun k_ => some k_ = (.slice Ao39 t297.length co39 : Value).ownBlock) (.slice Ao39 t297.length co39) t297 (fun k_ => some k_ = (.slice Ao40 t300.length co40 : Value).ownBlock) (.slice Ao40 t300.length co40) t300 1 t315 t316 t317 w _ ?side1 ?side2 ?side3 ?side4 ?side5 A94.out).mono ?_); (case side1 => repeat (first | (with_reducible first | exact HB.out | apply below_alloc | apply pw_below_drewN | apply below_drew1 | refine below_set ?_ GE272.out | refine below_set ?_ GE288.out | refine below_set ?_ GE304.out) | exact HB.out)); (case side2 => exact Kd.R_tight rfl HO_305001.out); (case side3 => exact fun k_ e_ => (HO_305001.out.1 k_ e_.symm).2.2); (case side4 => exact Kd.R_tight rfl HO_305002.out); (case side5 => exact fun k_ e_ => (HO_305002.out.1 k_ e_.symm).2.2); rintro e w165 ⟨rfl, hy0, hy1, hb, hkp⟩; refine ⟨_, rfl, ?_⟩; replace HO_289001 := Aside0.mk (Kd.R_mono (ok' := fun k_ => some k_ ≠ (.slice Ao25 t284.length co25 : Value).ownBlock ∧ some k_ ≠ (.slice Ao39 t297.length co39 : Value).ownBlock ∧ some k_ ≠ (.slice Ao40 t300.length co40 : Value).ownBlock) (Kd.R_keptB (HO_289001.out) hkp (fun k_ hk_ hs_ => Or.elim hs_ (fun e_ => (hk_.2.1) e_) (fun e_ => (hk_.2.2) e_))) (fun k_ hk_ => ⟨hk_.1.1, hk_.1.2.1, hk_.1.2.2⟩)); replace HO_289002 := Aside0.mk (Kd.R_mono (ok' := fun k_ => some k_ ≠ (.slice Ao24 t281.length co24 : Value).ownBlock ∧ some k_ ≠ (.slice Ao39 t297.length co39 : Value).ownBlock ∧ some k_ ≠ (.slice Ao40 t300.length co40 : Value).ownBlock) (Kd.R_keptB (HO_289002.out) hkp (fun k_ hk_ hs_ => Or.elim hs_ (fun e_ => (hk_.2.1) e_) (fun e_ => (hk_.2.2) e_))) (fun k_ hk_ => ⟨hk_.1.1, hk_.1.2.1, hk_.1.2.2⟩)); replace BK272 := Aside0.mk (blk_kept (sk BK272) hkp (fun hs_ => Or.elim hs_ (fun e_ => (fun e_ => (Kd.R_ne HO_305001.out BK272.out (by decide)) e_) e_) (fun e_ => (fun e_ => (Kd.R_ne HO_305002.out BK272.out (by decide)) e_) e_))); replace BK288 := Aside0.mk (blk_kept (sk BK288) hkp (fun hs_ => Or.elim hs_ (fun e_ => (fun e_ => (Kd.R_ne HO_305001.out BK288.out (by decide)) e_) e_) (fun e_ => (fun e_ => (Kd.R_ne HO_305002.out BK288.out (by decide)) e_) e_))); replace BK304 := Aside0.mk (blk_kept (sk BK304) hkp (fun hs_ => Or.elim hs_ (fun e_ => (fun e_ => (Kd.R_ne HO_305001.out BK304.out (by decide)) e_) e_) (fun e_ => (fun e_ => (Kd.R_ne HO_305002.out BK304.out (by decide)) e_) e_))); replace HO_305001 := Aside0.mk (Kd.R_reok rfl hy0 (fun k_ e_ => HO_305001.out.1 k_ e_)); replace HO_305002 := Aside0.mk (Kd.R_reok rfl hy1 (fun k_ e_ => HO_305002.out.1 k_ e_)); replace HB := Aside0.mk hb; (try clear hb); (try clear hkp); (try clear hy0); (try clear hy1); obtain ⟨hcz166_0, hcz166_1, hcz166_2, hfz166_0, hfz166_1, hfz166_2⟩ := cc3 BK304) | ((with_reducible refine gate_callee (f := 38) rfl ?_); refine goesL_ (some 75) rfl rfl Try.func38 (by kernel_rfl) rfl #[.agg #[.int .i64 t296, .slice Ao39 t316.length co39, .slice Ao40 t317.length co40], .int .i64 1] rfl (by (try simp only [List.map_toArray, List.map_cons, List.map_nil]); first | done | (rw [show t316.length = t297.length from (Kd.R_reads' HO_305001.out).1.symm, show t317.length = t300.length from (Kd.R_reads' HO_305002.out).1.symm] <;> rfl) | rfl | (simp only [List.length_drop, List.length_take]; rfl)) ?_; (with_reducible refine (laws_heldTable.calls kj63 t296 _ _ t316 _ _ t317 1 t318 _ ?side1 ?side2 ?side3 ?side4 A95.out).mono ?_); (case side1 => repeat (first | exact (Kd.R_reads' HO_305001.out).2.2 | (with_reducible refine Kd.C_alloc ?_ _) | (with_reducible refine Kd.C_drewN ?_ _) | (with_reducible refine Kd.C_drew ?_))); (case side2 => rw [show t316.length = t297.length from (Kd.R_reads' HO_305001.out).1.symm]; exact (Kd.R_reads' HO_305001.out).2.1); (case side3 => repeat (first | exact (Kd.R_reads' HO_305002.out).2.2 | (with_reducible refine Kd.C_alloc ?_ _) | (with_reducible refine Kd.C_drewN ?_ _) | (with_reducible refine Kd.C_drew ?_))); (case side4 => rw [show t317.length = t300.length from (Kd.R_reads' HO_305002.out).1.symm]; exact (Kd.R_reads' HO_305002.out).2.1); rintro e w167 ⟨rfl, hb⟩; refine ⟨_, rfl, ?_⟩; replace HO_289001 := Aside0.mk (Kd.R_below (sr HO_289001) hb); replace HO_289002 := Aside0.mk (Kd.R_below (sr HO_289002) hb); replace HO_305001 := Aside0.mk (Kd.R_below (sr HO_305001) hb); replace HO_305002 := Aside0.mk (Kd.R_below (sr HO_305002) hb); replace BK272 := bb BK272 hb; replace BK288 := bb BK288 hb; replace BK304 := bb BK304 hb; replace HB := bsw hb; (try clear hb); (try clear hb2); (try clear hk); (try clear hi)))
           go_ret
           exact ⟨se, sbw⟩
     ·replace H := im H
      obtain rfl := Option.some.inj H
      try go_wp2
      replace HO_289001 := Aside0.mk (Kd.R_drew HO_289001.out)
      replace HO_289002 := Aside0.mk (Kd.R_drew HO_289002.out)
      replace HO_296003 := Aside0.mk (Kd.R_drew HO_296003.out)
      replace HO_305001 := Aside0.mk (Kd.R_drew HO_305001.out)
      replace HO_305002 := Aside0.mk (Kd.R_drew HO_305002.out)
      replace BK272 := Aside0.mk (blk_drew BK272.out)
      replace BK288 := Aside0.mk (blk_drew BK288.out)
      replace BK295 := Aside0.mk (blk_drew BK295.out)
      replace BK304 := Aside0.mk (blk_drew BK304.out)
      replace HB := Aside0.mk (below_drew1 HB.out)
      refine start_ (n := 5) (S := fun w' => w'.cell? ⟨gb295, 0, none⟩ = some (.int .i64 t289) ∧ w'.cell? ⟨gb295, 1, none⟩ = some (.int .i64 t290) ∧ w'.cell? ⟨gb295, 2, none⟩ = some (.int .i64 t291) ∧ w'.cell? ⟨gb295, 3, none⟩ = some (.slice Ao32 t292.length co32) ∧ w'.cell? ⟨gb272, 0, none⟩ = some (.int .i64 a0_0) ∧ w'.cell? ⟨gb272, 1, none⟩ = some (.int .i64 a0_1) ∧ w'.cell? ⟨gb272, 2, none⟩ = some (.int .i64 a0_2) ∧ w'.cell? ⟨gb272, 3, none⟩ = some (.slice A0_3 l0_3.length c0_3)) (ds := []) #[false, false, false, false, false] (by kernel_rfl) rfl rfl ⟨bc0 BK295, bc1 BK295, bc2 BK295, bc3 BK295, bc0 BK272, bc1 BK272, bc2 BK272, bc3 BK272⟩ (fun hHeld => ?_)
      generalize wc.drew = w168 at HO_289001 HO_289002 HO_296003 HO_305001 HO_305002 BK272 BK288 BK295 BK304 HB hHeld ⊢
      refine ta8 0 49 #[true, false, false, false, false] hHeld ?_
      refine ta8 1 50 #[true, true, false, false, false] hHeld ?_
      refine one_ (i := 2) (N := some 51) #[true, true, true, false, false] rfl rfl (by kernel_rfl) (by decide) (fun K hK => ?_)
      refine goes_ Try.func17 (by kernel_rfl) rfl #[.agg #[.int .i64 a0_0, .int .i64 a0_1, .int .i64 a0_2, .slice A0_3 l0_3.length c0_3]] (by rfl) rfl rfl sl ?_
      with_reducible refine (laws_toProgram.calls kj12 a0_0 a0_1 a0_2 _ _ l0_3 t306 t307 t308 t309 _ ?side1 ?side2 A60.out).mono ?_
      (case side1 => exact cb HR0_3)
      (case side2 => exact HC0_3.out)
      rintro e w169 ⟨v310, rfl, ho0, hb⟩
      refine ⟨_, rfl, ?_⟩
      have HO311 := Aside0.mk (Kd.R_lower (Kd.R_newB (Kd.R_newB (Kd.R_new' (Kd.R_new' (Kd.R_new' (Kd.R_new' (Kd.R_new' ho0 (Kd.R_lt (sr HO_289001))) (Kd.R_lt (sr HO_289002))) (Kd.R_lt (sr HO_296003))) (Kd.R_lt (sr HO_305001))) (Kd.R_lt (sr HO_305002))) (g := gb288) (o := .cells #[.int .i64 t280, .slice Ao24 t281.length co24, .slice Ao25 t284.length co25] 44 (0, 0)) (sk BK288)) (g := gb304) (o := .cells #[.int .i64 t296, .slice Ao39 t297.length co39, .slice Ao40 t300.length co40] 44 (0, 0)) (sk BK304)) (below_size (sbw)))
      replace HO_289001 := Aside0.mk (Kd.R_below (sr HO_289001) hb)
      replace HO_289002 := Aside0.mk (Kd.R_below (sr HO_289002) hb)
      replace HO_296003 := Aside0.mk (Kd.R_elder' (sr HO_296003) (Kd.R_base ho0) hb)
      replace HO_305001 := Aside0.mk (Kd.R_below (sr HO_305001) hb)
      replace HO_305002 := Aside0.mk (Kd.R_below (sr HO_305002) hb)
      replace BK272 := bb BK272 hb
      replace BK288 := bb BK288 hb
      replace BK295 := bb BK295 hb
      replace BK304 := bb BK304 hb
      replace HB := bsw hb
      (try clear hb)
      (try clear hb2)
      (try clear hk)
      (try clear hi)
      (try clear ho0)
      obtain ⟨Ao170, co170, eo170⟩ := Kd.R_slice HO311.out
      (first | subst eo170 | (injection eo170 with f1_ f2_ f3_; have f4_ := f1_.symm; have f5_ := f3_.symm; clear f1_ f2_ f3_; subst f4_; subst f5_))
      refine hK.out _ _ ⟨bc0 BK295, bc1 BK295, bc2 BK295, bc3 BK295, bc0 BK272, bc1 BK272, bc2 BK272, bc3 BK272⟩ (fun hHeld => ?_)
      clear hK K
      refine norm_ (a' := ?_) ?_ ?_
      rotate_left
      ·show Act.put _ (some 51) _ = _
       simp only [Act.put, List.setIfInBounds_toArray, List.set_cons_zero, List.set_cons_succ, i64_w, i32_w]
       rfl
      refine one_ (i := 3) (N := some 52) #[true, true, true, true, false] rfl rfl (by kernel_rfl) (by decide) (fun K hK => ?_)
      refine goes_ Try.func19 (by kernel_rfl) rfl #[.agg #[.int .i64 t289, .int .i64 t290, .int .i64 t291, .slice Ao32 t292.length co32], .agg #[.int .i64 t306, .int .i64 t307, .int .i64 t308, .slice Ao170 t309.length co170]] (by rfl) rfl rfl sl ?_
      with_reducible refine (laws_eqProgram.calls kj12 t289 t290 t291 _ _ t292 t306 t307 t308 _ _ t309 false _ ?side1 ?side2 ?side3 ?side4 A61.out).mono ?_
      (case side1 => repeat (first | exact (Kd.R_reads' HO_296003.out).2.2 | (with_reducible refine Kd.C_alloc ?_ _) | (with_reducible refine Kd.C_drewN ?_ _) | (with_reducible refine Kd.C_drew ?_)))
      (case side2 => exact (Kd.R_reads' HO_296003.out).2.1)
      (case side3 => repeat (first | exact (Kd.R_reads' HO311.out).2.2 | (with_reducible refine Kd.C_alloc ?_ _) | (with_reducible refine Kd.C_drewN ?_ _) | (with_reducible refine Kd.C_drew ?_)))
      (case side4 => exact (Kd.R_reads' HO311.out).2.1)
      rintro e w171 ⟨rfl, hb⟩
      refine ⟨_, rfl, ?_⟩
      replace HO_289001 := Aside0.mk (Kd.R_below (sr HO_289001) hb)
      replace HO_289002 := Aside0.mk (Kd.R_below (sr HO_289002) hb)
      replace HO_296003 := Aside0.mk (Kd.R_below (sr HO_296003) hb)
      replace HO_305001 := Aside0.mk (Kd.R_below (sr HO_305001) hb)
      replace HO_305002 := Aside0.mk (Kd.R_below (sr HO_305002) hb)
      replace HO311 := Aside0.mk (Kd.R_below (sr HO311) hb)
      replace BK272 := bb BK272 hb
      replace BK288 := bb BK288 hb
      replace BK295 := bb BK295 hb
      replace BK304 := bb BK304 hb
      replace HB := bsw hb
      (try clear hb)
      (try clear hb2)
      (try clear hk)
      (try clear hi)
      refine hK.out _ _ ⟨bc0 BK295, bc1 BK295, bc2 BK295, bc3 BK295, bc0 BK272, bc1 BK272, bc2 BK272, bc3 BK272⟩ (fun hHeld => ?_)
      clear hK K
      refine norm_ (a' := ?_) ?_ ?_
      rotate_left
      ·show Act.put _ (some 52) _ = _
       simp only [Act.put, List.setIfInBounds_toArray, List.set_cons_zero, List.set_cons_succ, i64_w, i32_w]
       rfl
      refine pu 4 53 #[true, true, true, true, true] ?_
      refine done_ (by kernel_rfl) ?_
      try go_wp2
      go_ret
      exact ⟨se, sbw⟩

end Go.Proofs.Ytadpbpocbfjboaa.QFnExactTableIn
