/- The row of the law FnExactIsSafeCourse out of its pure statement 'PureFnExactIsSafeCourse': for every input the law returns true and each argument reads as before. Conditions: none. -/
import Derived.Test.YtaciciobhfoglaaRows
import Derived.Test.YtaciciobhfoglaaQFnExactIsSafeCoursex5
import Derived.Test.YtaciciobhfoglaaOpen
import Derived.WalkKit
import Derived.ProofKit
import Derived.OpenShut
import Derived.ShutString
import Derived.ChangeOld
import Derived.Below
import Derived.SizedLaws
namespace Go.Proofs.Ytaciciobhfoglaa.fnExactIsSafeCourse
open Go.ChangeShapes Go.WideShapes Go.ChangeAt Go.RowKit
open Go.ChangeMaps (open_string shut_string)
open Go.Proofs.YtaciciobhfoglaaW.PrintWords Go.Proofs.Ytaciciobhfoglaa.Open Go.Proofs.Ytaciciobhfoglaa.QFnExactIsSafeCourse
set_option linter.unusedVariables false
theorem own : ownKnob Try.prog.godebug = none := by kernel_rfl
theorem laidOut : laidOutB Try.prog = true := by kernel_rfl
def g23 (a : (Int × (Int × (Int × (Int × (Int × Int)))))) : Prop := (I64 a.1) ∧ (I64 a.2.1) ∧ (I64 a.2.2.1) ∧ (I64 a.2.2.2.1) ∧ (I64 a.2.2.2.2.1) ∧ (I64 a.2.2.2.2.2)
theorem open23 : Opens Try.prog 23 (Kd.pair (Kd.int .i64) (Kd.pair (Kd.int .i64) (Kd.pair (Kd.int .i64) (Kd.pair (Kd.int .i64) (Kd.pair (Kd.int .i64) (Kd.int .i64)))))) g23 :=
  Opens.imp (Opens.struct0 (d := (Kd.pair (Kd.int .i64) (Kd.pair (Kd.int .i64) (Kd.pair (Kd.int .i64) (Kd.pair (Kd.int .i64) (Kd.pair (Kd.int .i64) (Kd.int .i64))))))) Try.underlying23 (FOpens.cons (Opens.i64 Try.underlying3) (by kernel_rfl) (by kernel_rfl) (FOpens.cons (Opens.i64 Try.underlying3) (by kernel_rfl) (by kernel_rfl) (FOpens.cons (Opens.i64 Try.underlying3) (by kernel_rfl) (by kernel_rfl) (FOpens.cons (Opens.i64 Try.underlying3) (by kernel_rfl) (by kernel_rfl) (FOpens.cons (Opens.i64 Try.underlying3) (by kernel_rfl) (by kernel_rfl) (FOpens.one (Opens.i64 Try.underlying3) (by kernel_rfl) (by kernel_rfl))))))) (by kernel_rfl)) (fun _ h => h)
def g102 (a : S102) : Prop := (I64 a.f0) ∧ (I64 a.f1)
theorem open102 : Opens Try.prog 102 k102 g102 :=
  Opens.imp (Opens.struct (d := (Kd.pair (Kd.int .i64) (Kd.int .i64))) Try.underlying102 (FOpens.cons (Opens.i64 Try.underlying3) (by kernel_rfl) (by kernel_rfl) (FOpens.one (Opens.i64 Try.underlying3) (by kernel_rfl) (by kernel_rfl))) (by kernel_rfl) (fun x : S102 => (x.f0, x.f1)) (fun a => ⟨a.1, a.2⟩) (fun _ => rfl)) (fun _ h => h)
/-- THE PURE STATEMENT. -/
def PureFnExactIsSafeCourse : Prop := ∀ (a0_0 : Int) (a0_1 : Int) (a0_2 : Int) (a0_3 : Int) (a0_4 : Int) (a0_5 : Int) (l1 : (List S102)) (a2 : Int) (l3 : (List Int)), (I64 a0_0) → (I64 a0_1) → (I64 a0_2) → (I64 a0_3) → (I64 a0_4) → (I64 a0_5) → (Len 16 l1 ∧ ∀ y ∈ l1, g102 y) → (I64 a2) → (Len 8 l3 ∧ ∀ y ∈ l3, I64 y) → ∃ k, laws_FnExactIsSafeCourse.f k a0_0 a0_1 a0_2 a0_3 a0_4 a0_5 l1 a2 l3 = some true
set_option maxRecDepth 100000 in
theorem lifted (Pu : PureFnExactIsSafeCourse) (os : Os) (started : os.Started) (H : Type) (enc : TypeId × Value → H) :
    ReturnsInHanded {} Try.checked os 9 .any (Rows.fnExactIsSafeCourseSpec.pre6 enc Try.prog Try.f9 Rows.fnExactIsSafeCourseRow.domain false) (Rows.fnExactIsSafeCourseSpec.post enc Try.prog Try.f9 false true false false) := by
  refine returnsInHanded_of_change_sized (C := Try.checked) own started (by kernel_rfl) Try.func9
    (ChangeSpec.witness6 (enc := enc) (C := Try.checked) false ⟨#[], #[.agg #[.int .i64 0, .int .i64 0, .int .i64 0, .int .i64 0, .int .i64 0, .int .i64 0], .slice none 0 0, .int .i64 0, .slice none 0 0], []⟩ 8 (by kernel_rfl) (by kernel_rfl) (by kernel_rfl) (by kernel_rfl)) ?_
  intro W base args ds gs before hval0 hW hcnd hsz0 _
  have hsz : (DataW.weightsEach Try.prog (Try.f9.params.toList ++ Rows.fnExactIsSafeCourseSpec.plain.varTypes Try.prog) (ds ++ gs)).all (· ≤ reachBytes) = true := hsz0
  have hval : ∀ (j : Nat) t v, Try.f9.params[j]? = some t → args[j]? = some v → Value.okWide Try.prog W .any base t v := hval0
  have hW' := hW
  obtain ⟨p, q, hA0, hV, rfl, hfz, hnd⟩ := hW
  have hA : DataW.TrodAll enc Try.prog W 0 (fun _ => true) true Try.f9.params.toList args.toList ds p := hA0
  rw [Try.params9] at hA hval hsz
  obtain ⟨v0, vs0, d0, ds0, p0, q0, hargs, rfl, rfl, h0, r0⟩ := trodAll_cons hA
  obtain ⟨v1, vs1, d1, ds1, p1, q1, rfl, rfl, rfl, h1, r1⟩ := trodAll_cons r0
  obtain ⟨v2, vs2, d2, ds2, p2, q2, rfl, rfl, rfl, h2, r2⟩ := trodAll_cons r1
  obtain ⟨v3, vs3, d3, ds3, p3, q3, rfl, rfl, rfl, h3, r3⟩ := trodAll_cons r2
  obtain ⟨rfl, rfl, rfl⟩ := trodAll_nil r3
  obtain rfl : args = #[v0, v1, v2, v3] := by cases args; simp_all
  obtain ⟨rfl, rfl⟩ := trodVars_none hV
  have kk0 := h0
  have lt0 : ∀ x ∈ p0, x.block < W.heap.size := by obtain ⟨m, hm⟩ := kk0; exact DataW.trod_lt m _ _ _ hm
  obtain ⟨x0, hK0, hg0⟩ := Opens.arg open23 hsz (j := 0) (t := 23) rfl rfl h0
  obtain ⟨cs0, rfl⟩ := okWide_agg Try.underlying23 (hval 0 23 v0 rfl rfl)
  obtain ⟨y0_0, y0_1, y0_2, y0_3, y0_4, y0_5⟩ := x0
  obtain ⟨u0_0, z0_0, e0_0, m0_0, b0_0⟩ := hK0
  obtain ⟨u0_1, z0_1, e0_1, m0_1, b0_1⟩ := b0_0
  obtain ⟨u0_2, z0_2, e0_2, m0_2, b0_2⟩ := b0_1
  obtain ⟨u0_3, z0_3, e0_3, m0_3, b0_3⟩ := b0_2
  obtain ⟨u0_4, z0_4, e0_4, m0_4, b0_4⟩ := b0_3
  obtain ⟨gg0_0, gg0_1, gg0_2, gg0_3, gg0_4, gg0_5⟩ := hg0
  replace m0_0 := show _ = [_] from m0_0
  replace m0_1 := show _ = [_] from m0_1
  replace m0_2 := show _ = [_] from m0_2
  replace m0_3 := show _ = [_] from m0_3
  replace m0_4 := show _ = [_] from m0_4
  replace b0_4 := show _ = [_] from b0_4
  have hcs0 : (Value.agg cs0).cells.toList = [.int .i64 y0_0, .int .i64 y0_1, .int .i64 y0_2, .int .i64 y0_3, .int .i64 y0_4, .int .i64 y0_5] := by rw [e0_0, m0_0, e0_1, m0_1, e0_2, m0_2, e0_3, m0_3, e0_4, m0_4, b0_4]; rfl
  obtain rfl := agg_form hcs0
  have kk1 := h1
  have lt1 : ∀ x ∈ p1, x.block < W.heap.size := by obtain ⟨m, hm⟩ := kk1; exact DataW.trod_lt m _ _ _ hm
  obtain ⟨x1, hK1, hg1⟩ := Opens.arg (Opens.slice' (d := k102) (g := (fun x => g102 x)) (B := 16) Try.underlying24 open102 (by kernel_rfl) (by kernel_rfl)) hsz (j := 1) (t := 24) rfl rfl h1
  obtain ⟨A1, n1, c1, rfl⟩ := okWide_slice Try.underlying24 (hval 1 24 v1 rfl rfl)
  obtain ⟨rfl, hc1, hr1⟩ := slice_form hK1
  obtain ⟨a2, rfl, rfl, rfl, w2⟩ := open_int Try.underlying3 (hval 2 3 v2 rfl rfl) h2
  have x2 := I64.of w2
  have kk3 := h3
  have lt3 : ∀ x ∈ p3, x.block < W.heap.size := by obtain ⟨m, hm⟩ := kk3; exact DataW.trod_lt m _ _ _ hm
  obtain ⟨x3, hK3, hg3⟩ := Opens.arg (Opens.slice' (d := (Kd.int .i64)) (g := (fun x => I64 x)) (B := 8) Try.underlying37 (Opens.i64 Try.underlying3) (by kernel_rfl) (by kernel_rfl)) hsz (j := 3) (t := 37) rfl rfl h3
  obtain ⟨A3, n3, c3, rfl⟩ := okWide_slice Try.underlying37 (hval 3 37 v3 rfl rfl)
  obtain ⟨rfl, hc3, hr3⟩ := slice_form hK3
  obtain ⟨k, hres⟩ := Pu y0_0 y0_1 y0_2 y0_3 y0_4 y0_5 x1 a2 x3 gg0_0 gg0_1 gg0_2 gg0_3 gg0_4 gg0_5 hg1 x2 hg3
  clear hA0 hval0 hsz0 hsz
  refine (laws_FnExactIsSafeCourse.calls k y0_0 y0_1 y0_2 y0_3 y0_4 y0_5 _ _ x1 a2 _ _ x3 true W hr1 hc1 hr3 hc3 hres).mono ?_
  rintro e W' ⟨rfl, hd⟩
  have bel : Below W.heap.size W W' := hd
  exact ⟨_, rfl, _, _, _, [], _, [], hW', trodAll_mk1 (shut_bool Try.underlying4 _), (trodAll_cons_mk (Below.trod laidOut (by kernel_rfl) (of_decide_eq_true (by kernel_rfl)) kk0 bel lt0) (trodAll_cons_mk (Below.trod laidOut (by kernel_rfl) (of_decide_eq_true (by kernel_rfl)) kk1 bel lt1) (trodAll_cons_mk (shut_int Try.underlying3 w2) (trodAll_cons_mk (Below.trod laidOut (by kernel_rfl) (of_decide_eq_true (by kernel_rfl)) kk3 bel lt3) trodAll_mk0)))), rfl, bel.frame _, fun h => by cases h⟩
theorem row (Pu : PureFnExactIsSafeCourse) : Rows.FnExactIsSafeCourseSaid :=
  OpenClaim.holds_of_wide 9 Try.f9 rfl rfl rfl rfl rfl rfl rfl ⟨rfl, rfl, rfl, rfl, rfl⟩ rfl rfl rfl rfl rfl (by kernel_rfl) Try.func9 (by kernel_rfl)
    (of_decide_eq_true (by kernel_rfl)) (by unfold Func.isWrapper; first | (rw [if_pos (by decide +kernel)]; kernel_rfl) | (rw [if_neg (by decide +kernel)]; exact ⟨rfl, rfl⟩))
    (fun os started H enc _ => lifted Pu os started H enc)
end Go.Proofs.Ytaciciobhfoglaa.fnExactIsSafeCourse
