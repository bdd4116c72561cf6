/- The row of the law FnExactIsProgram out of its pure statement 'PureFnExactIsProgram': for every input the law returns true and each argument reads as before. Conditions: none. -/
import Derived.Test.YtiihaabhjphaeaaRows
import Derived.Test.YtiihaabhjphaeaaVFnExactIsProgramQFnExactIsProgramx15
import Derived.Test.YtiihaabhjphaeaaVFnExactIsProgramOpen
import Derived.WalkKit
import Derived.ProofKit
import Derived.OpenShut
import Derived.ShutString
import Derived.ChangeOld
import Derived.Below
import Derived.SizedLaws
namespace Go.Proofs.Ytiihaabhjphaeaa.fnExactIsProgram
open Go.ChangeShapes Go.WideShapes Go.ChangeAt Go.RowKit
open Go.ChangeMaps (open_string shut_string)
open Go.Proofs.YtiihaabhjphaeaaW.PrintWords Go.Proofs.Ytiihaabhjphaeaa.Open Go.Proofs.Ytiihaabhjphaeaa.QFnExactIsProgram
set_option linter.unusedVariables false
theorem own : ownKnob Try.prog.godebug = none := by kernel_rfl
theorem laidOut : laidOutB Try.prog = true := by kernel_rfl
def g164 (a : S164) : Prop := (I64 a.f0) ∧ (I64 a.f1)
theorem open164 : Opens Try.prog 164 k164 g164 :=
  Opens.imp (Opens.struct (d := (Kd.pair (Kd.int .i64) (Kd.int .i64))) Try.underlying164 (FOpens.cons (Opens.i64 Try.underlying3) (by kernel_rfl) (by kernel_rfl) (FOpens.one (Opens.i64 Try.underlying3) (by kernel_rfl) (by kernel_rfl))) (by kernel_rfl) (fun x : S164 => (x.f0, x.f1)) (fun a => ⟨a.1, a.2⟩) (fun _ => rfl)) (fun _ h => h)
def g205 (a : S205) : Prop := (I64 a.f0) ∧ (I64 a.f1)
theorem open205 : Opens Try.prog 205 k205 g205 :=
  Opens.imp (Opens.struct (d := (Kd.pair (Kd.int .i64) (Kd.int .i64))) Try.underlying205 (FOpens.cons (Opens.i64 Try.underlying3) (by kernel_rfl) (by kernel_rfl) (FOpens.one (Opens.i64 Try.underlying3) (by kernel_rfl) (by kernel_rfl))) (by kernel_rfl) (fun x : S205 => (x.f0, x.f1)) (fun a => ⟨a.1, a.2⟩) (fun _ => rfl)) (fun _ h => h)
def g203 (a : S203) : Prop := (I64 a.f0) ∧ (Len 8 a.f1 ∧ ∀ y ∈ a.f1, I64 y) ∧ (Len 8 a.f2 ∧ ∀ y ∈ a.f2, I64 y)
theorem open203 : Opens Try.prog 203 k203 g203 :=
  Opens.imp (Opens.struct (d := (Kd.pair (Kd.int .i64) (Kd.pair (Kd.slice 3 (Kd.int .i64)) (Kd.slice 3 (Kd.int .i64))))) Try.underlying203 (FOpens.cons (Opens.i64 Try.underlying3) (by kernel_rfl) (by kernel_rfl) (FOpens.cons (Opens.slice' (d := (Kd.int .i64)) (g := (fun x => I64 x)) (B := 8) Try.underlying28 (Opens.i64 Try.underlying3) (by kernel_rfl) (by kernel_rfl)) (by kernel_rfl) (by kernel_rfl) (FOpens.one (Opens.slice' (d := (Kd.int .i64)) (g := (fun x => I64 x)) (B := 8) Try.underlying28 (Opens.i64 Try.underlying3) (by kernel_rfl) (by kernel_rfl)) (by kernel_rfl) (by kernel_rfl)))) (by kernel_rfl) (fun x : S203 => (x.f0, x.f1, x.f2)) (fun a => ⟨a.1, a.2.1, a.2.2⟩) (fun _ => rfl)) (fun _ h => h)
def g168 (a : S168) : Prop := (g164 a.f0) ∧ (Len 16 a.f1 ∧ ∀ y ∈ a.f1, g205 y) ∧ (Len 56 a.f2 ∧ ∀ y ∈ a.f2, g203 y)
theorem open168 : Opens Try.prog 168 k168 g168 :=
  Opens.imp (Opens.struct (d := (Kd.pair k164 (Kd.pair (Kd.slice 205 k205) (Kd.slice 203 k203)))) Try.underlying168 (FOpens.cons open164 (by kernel_rfl) (by kernel_rfl) (FOpens.cons (Opens.slice' (d := k205) (g := (fun x => g205 x)) (B := 16) Try.underlying165 open205 (by kernel_rfl) (by kernel_rfl)) (by kernel_rfl) (by kernel_rfl) (FOpens.one (Opens.slice' (d := k203) (g := (fun x => g203 x)) (B := 56) Try.underlying166 open203 (by kernel_rfl) (by kernel_rfl)) (by kernel_rfl) (by kernel_rfl)))) (by kernel_rfl) (fun x : S168 => (x.f0, x.f1, x.f2)) (fun a => ⟨a.1, a.2.1, a.2.2⟩) (fun _ => rfl)) (fun _ h => h)
def g69 (a : (Int × (Int × (Int × (List S168))))) : Prop := (I64 a.1) ∧ (I64 a.2.1) ∧ (I64 a.2.2.1) ∧ (Len 64 a.2.2.2 ∧ ∀ y ∈ a.2.2.2, g168 y)
theorem open69 : Opens Try.prog 69 (Kd.pair (Kd.int .i64) (Kd.pair (Kd.int .i64) (Kd.pair (Kd.int .i64) (Kd.slice 168 k168)))) g69 :=
  Opens.imp (Opens.struct0 (d := (Kd.pair (Kd.int .i64) (Kd.pair (Kd.int .i64) (Kd.pair (Kd.int .i64) (Kd.slice 168 k168))))) Try.underlying69 (FOpens.cons (Opens.i64 Try.underlying3) (by kernel_rfl) (by kernel_rfl) (FOpens.cons (Opens.i64 Try.underlying3) (by kernel_rfl) (by kernel_rfl) (FOpens.cons (Opens.i64 Try.underlying3) (by kernel_rfl) (by kernel_rfl) (FOpens.one (Opens.slice' (d := k168) (g := (fun x => g168 x)) (B := 64) Try.underlying67 open168 (by kernel_rfl) (by kernel_rfl)) (by kernel_rfl) (by kernel_rfl))))) (by kernel_rfl)) (fun _ h => h)
/-- THE PURE STATEMENT. -/
def PureFnExactIsProgram : Prop := ∀ (a0_0 : Int) (a0_1 : Int) (a0_2 : Int) (l0_3 : (List S168)), (I64 a0_0) → (I64 a0_1) → (I64 a0_2) → (Len 64 l0_3 ∧ ∀ y ∈ l0_3, g168 y) → ∃ k, laws_FnExactIsProgram.f k a0_0 a0_1 a0_2 l0_3 = some true
set_option maxRecDepth 100000 in
theorem lifted (Pu : PureFnExactIsProgram) (os : Os) (started : os.Started) (H : Type) (enc : TypeId × Value → H) :
    ReturnsInHanded {} Try.checked os 8 .any (Rows.fnExactIsProgramSpec.pre6 enc Try.prog Try.f8 Rows.fnExactIsProgramRow.domain false) (Rows.fnExactIsProgramSpec.post enc Try.prog Try.f8 false true false false) := by
  refine returnsInHanded_of_change_sized (C := Try.checked) own started (by kernel_rfl) Try.func8
    (ChangeSpec.witness6 (enc := enc) (C := Try.checked) false ⟨#[], #[.agg #[.int .i64 0, .int .i64 0, .int .i64 0, .slice none 0 0]], []⟩ 8 (by kernel_rfl) (by kernel_rfl) (by kernel_rfl) (by kernel_rfl)) ?_
  intro W base args ds gs before hval0 hW hcnd hsz0 _
  have hsz : (DataW.weightsEach Try.prog (Try.f8.params.toList ++ Rows.fnExactIsProgramSpec.plain.varTypes Try.prog) (ds ++ gs)).all (· ≤ reachBytes) = true := hsz0
  have hval : ∀ (j : Nat) t v, Try.f8.params[j]? = some t → args[j]? = some v → Value.okWide Try.prog W .any base t v := hval0
  have hW' := hW
  obtain ⟨p, q, hA0, hV, rfl, hfz, hnd⟩ := hW
  have hA : DataW.TrodAll enc Try.prog W 0 (fun _ => true) true Try.f8.params.toList args.toList ds p := hA0
  rw [Try.params8] at hA hval hsz
  obtain ⟨v0, vs0, d0, ds0, p0, q0, hargs, rfl, rfl, h0, r0⟩ := trodAll_cons hA
  obtain ⟨rfl, rfl, rfl⟩ := trodAll_nil r0
  obtain rfl : args = #[v0] := by cases args; simp_all
  obtain ⟨rfl, rfl⟩ := trodVars_none hV
  have kk0 := h0
  have lt0 : ∀ x ∈ p0, x.block < W.heap.size := by obtain ⟨m, hm⟩ := kk0; exact DataW.trod_lt m _ _ _ hm
  obtain ⟨x0, hK0, hg0⟩ := Opens.arg open69 hsz (j := 0) (t := 69) rfl rfl h0
  obtain ⟨cs0, rfl⟩ := okWide_agg Try.underlying69 (hval 0 69 v0 rfl rfl)
  obtain ⟨y0_0, y0_1, y0_2, y0_3⟩ := x0
  obtain ⟨u0_0, z0_0, e0_0, m0_0, b0_0⟩ := hK0
  obtain ⟨u0_1, z0_1, e0_1, m0_1, b0_1⟩ := b0_0
  obtain ⟨u0_2, z0_2, e0_2, m0_2, b0_2⟩ := b0_1
  obtain ⟨gg0_0, gg0_1, gg0_2, gg0_3⟩ := hg0
  replace m0_0 := show _ = [_] from m0_0
  replace m0_1 := show _ = [_] from m0_1
  replace m0_2 := show _ = [_] from m0_2
  obtain ⟨A0_3, c0_3, s0_3, hc0_3, hr0_3⟩ := b0_2
  have hcs0 : (Value.agg cs0).cells.toList = [.int .i64 y0_0, .int .i64 y0_1, .int .i64 y0_2, .slice A0_3 y0_3.length c0_3] := by rw [e0_0, m0_0, e0_1, m0_1, e0_2, m0_2, s0_3]; rfl
  obtain rfl := agg_form hcs0
  obtain ⟨k, hres⟩ := Pu y0_0 y0_1 y0_2 y0_3 gg0_0 gg0_1 gg0_2 gg0_3
  clear hA0 hval0 hsz0 hsz
  refine (laws_FnExactIsProgram.calls k y0_0 y0_1 y0_2 _ _ y0_3 true W hr0_3 hc0_3 hres).mono ?_
  rintro e W' ⟨rfl, hd⟩
  have bel : Below W.heap.size W W' := hd
  exact ⟨_, rfl, _, _, _, [], _, [], hW', trodAll_mk1 (shut_bool Try.underlying4 _), (trodAll_cons_mk (Below.trod laidOut (by kernel_rfl) (of_decide_eq_true (by kernel_rfl)) kk0 bel lt0) trodAll_mk0), rfl, bel.frame _, fun h => by cases h⟩
theorem row (Pu : PureFnExactIsProgram) : Rows.FnExactIsProgramSaid :=
  OpenClaim.holds_of_wide 8 Try.f8 rfl rfl rfl rfl rfl rfl rfl ⟨rfl, rfl, rfl, rfl, rfl⟩ rfl rfl rfl rfl rfl (by kernel_rfl) Try.func8 (by kernel_rfl)
    (of_decide_eq_true (by kernel_rfl)) (by unfold Func.isWrapper; first | (rw [if_pos (by decide +kernel)]; kernel_rfl) | (rw [if_neg (by decide +kernel)]; exact ⟨rfl, rfl⟩))
    (fun os started H enc _ => lifted Pu os started H enc)
end Go.Proofs.Ytiihaabhjphaeaa.fnExactIsProgram
