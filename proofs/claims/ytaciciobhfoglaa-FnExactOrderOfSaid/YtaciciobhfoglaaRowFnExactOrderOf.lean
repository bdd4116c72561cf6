/- The row of the law FnExactOrderOf out of its pure statement 'PureFnExactOrderOf': for every input the law returns true and each argument reads as before. Conditions: none. -/
import Derived.Test.YtaciciobhfoglaaRows
import Derived.Test.YtaciciobhfoglaaQFnExactOrderOfx3
import Derived.Test.YtaciciobhfoglaaOpen
import Derived.WalkKit
import Derived.ProofKit
import Derived.OpenShut
import Derived.ShutString
import Derived.ChangeOld
import Derived.Below
import Derived.SizedLaws
namespace Go.Proofs.Ytaciciobhfoglaa.fnExactOrderOf
open Go.ChangeShapes Go.WideShapes Go.ChangeAt Go.RowKit
open Go.ChangeMaps (open_string shut_string)
open Go.Proofs.YtaciciobhfoglaaW.PrintWords Go.Proofs.Ytaciciobhfoglaa.Open Go.Proofs.Ytaciciobhfoglaa.QFnExactOrderOf
set_option linter.unusedVariables false
theorem own : ownKnob Try.prog.godebug = none := by kernel_rfl
theorem laidOut : laidOutB Try.prog = true := by kernel_rfl
def g140 (a : S140) : Prop := (I64 a.f0) ∧ (I64 a.f1) ∧ (I64 a.f2) ∧ (I64 a.f3) ∧ (I64 a.f4) ∧ (I64 a.f5)
theorem open140 : Opens Try.prog 140 k140 g140 :=
  Opens.imp (Opens.struct (d := (Kd.pair (Kd.int .i64) (Kd.pair (Kd.int .i64) (Kd.pair (Kd.int .i64) (Kd.pair (Kd.int .i64) (Kd.pair (Kd.int .i64) (Kd.int .i64))))))) Try.underlying140 (FOpens.cons (Opens.i64 Try.underlying3) (by kernel_rfl) (by kernel_rfl) (FOpens.cons (Opens.i64 Try.underlying3) (by kernel_rfl) (by kernel_rfl) (FOpens.cons (Opens.i64 Try.underlying3) (by kernel_rfl) (by kernel_rfl) (FOpens.cons (Opens.i64 Try.underlying3) (by kernel_rfl) (by kernel_rfl) (FOpens.cons (Opens.i64 Try.underlying3) (by kernel_rfl) (by kernel_rfl) (FOpens.one (Opens.i64 Try.underlying3) (by kernel_rfl) (by kernel_rfl))))))) (by kernel_rfl) (fun x : S140 => (x.f0, x.f1, x.f2, x.f3, x.f4, x.f5)) (fun a => ⟨a.1, a.2.1, a.2.2.1, a.2.2.2.1, a.2.2.2.2.1, a.2.2.2.2.2⟩) (fun _ => rfl)) (fun _ h => h)
def g35 (a : (List S140)) : Prop := (Len 48 a ∧ ∀ y ∈ a, g140 y)
theorem open35 : Opens Try.prog 35 (Kd.slice 140 k140) g35 :=
  Opens.imp (Opens.struct0 (d := (Kd.slice 140 k140)) Try.underlying35 (FOpens.one (Opens.slice' (d := k140) (g := (fun x => g140 x)) (B := 48) Try.underlying33 open140 (by kernel_rfl) (by kernel_rfl)) (by kernel_rfl) (by kernel_rfl)) (by kernel_rfl)) (fun _ h => h)
/-- THE PURE STATEMENT. -/
def PureFnExactOrderOf : Prop := ∀ (l0_0 : (List S140)), (Len 48 l0_0 ∧ ∀ y ∈ l0_0, g140 y) → ∃ k, laws_FnExactOrderOf.f k l0_0 = some true
set_option maxRecDepth 100000 in
theorem lifted (Pu : PureFnExactOrderOf) (os : Os) (started : os.Started) (H : Type) (enc : TypeId × Value → H) :
    ReturnsInHanded {} Try.checked os 4 .any (Rows.fnExactOrderOfSpec.pre6 enc Try.prog Try.f4 Rows.fnExactOrderOfRow.domain false) (Rows.fnExactOrderOfSpec.post enc Try.prog Try.f4 false true false false) := by
  refine returnsInHanded_of_change_sized (C := Try.checked) own started (by kernel_rfl) Try.func4
    (ChangeSpec.witness6 (enc := enc) (C := Try.checked) false ⟨#[], #[.agg #[.slice none 0 0]], []⟩ 8 (by kernel_rfl) (by kernel_rfl) (by kernel_rfl) (by kernel_rfl)) ?_
  intro W base args ds gs before hval0 hW hcnd hsz0 _
  have hsz : (DataW.weightsEach Try.prog (Try.f4.params.toList ++ Rows.fnExactOrderOfSpec.plain.varTypes Try.prog) (ds ++ gs)).all (· ≤ reachBytes) = true := hsz0
  have hval : ∀ (j : Nat) t v, Try.f4.params[j]? = some t → args[j]? = some v → Value.okWide Try.prog W .any base t v := hval0
  have hW' := hW
  obtain ⟨p, q, hA0, hV, rfl, hfz, hnd⟩ := hW
  have hA : DataW.TrodAll enc Try.prog W 0 (fun _ => true) true Try.f4.params.toList args.toList ds p := hA0
  rw [Try.params4] at hA hval hsz
  obtain ⟨v0, vs0, d0, ds0, p0, q0, hargs, rfl, rfl, h0, r0⟩ := trodAll_cons hA
  obtain ⟨rfl, rfl, rfl⟩ := trodAll_nil r0
  obtain rfl : args = #[v0] := by cases args; simp_all
  obtain ⟨rfl, rfl⟩ := trodVars_none hV
  have kk0 := h0
  have lt0 : ∀ x ∈ p0, x.block < W.heap.size := by obtain ⟨m, hm⟩ := kk0; exact DataW.trod_lt m _ _ _ hm
  obtain ⟨x0, hK0, hg0⟩ := Opens.arg open35 hsz (j := 0) (t := 35) rfl rfl h0
  obtain ⟨cs0, rfl⟩ := okWide_agg Try.underlying35 (hval 0 35 v0 rfl rfl)
  have gg0_0 := hg0
  obtain ⟨A0_0, c0_0, s0_0, hc0_0, hr0_0⟩ := hK0
  have hcs0 : (Value.agg cs0).cells.toList = [.slice A0_0 x0.length c0_0] := by rw [s0_0]
  obtain rfl := agg_form hcs0
  obtain ⟨k, hres⟩ := Pu x0 gg0_0
  clear hA0 hval0 hsz0 hsz
  refine (laws_FnExactOrderOf.calls k _ _ x0 true W hr0_0 hc0_0 hres).mono ?_
  rintro e W' ⟨rfl, hd⟩
  have bel : Below W.heap.size W W' := hd
  exact ⟨_, rfl, _, _, _, [], _, [], hW', trodAll_mk1 (shut_bool Try.underlying4 _), (trodAll_cons_mk (Below.trod laidOut (by kernel_rfl) (of_decide_eq_true (by kernel_rfl)) kk0 bel lt0) trodAll_mk0), rfl, bel.frame _, fun h => by cases h⟩
theorem row (Pu : PureFnExactOrderOf) : Rows.FnExactOrderOfSaid :=
  OpenClaim.holds_of_wide 4 Try.f4 rfl rfl rfl rfl rfl rfl rfl ⟨rfl, rfl, rfl, rfl, rfl⟩ rfl rfl rfl rfl rfl (by kernel_rfl) Try.func4 (by kernel_rfl)
    (of_decide_eq_true (by kernel_rfl)) (by unfold Func.isWrapper; first | (rw [if_pos (by decide +kernel)]; kernel_rfl) | (rw [if_neg (by decide +kernel)]; exact ⟨rfl, rfl⟩))
    (fun os started H enc _ => lifted Pu os started H enc)
end Go.Proofs.Ytaciciobhfoglaa.fnExactOrderOf
