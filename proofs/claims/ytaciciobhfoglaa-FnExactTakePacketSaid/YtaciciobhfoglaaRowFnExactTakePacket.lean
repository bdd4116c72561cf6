/- The row of the law FnExactTakePacket out of its pure statement 'PureFnExactTakePacket': for every input the law returns true and each argument reads as before. Conditions: none. -/
import Derived.Test.YtaciciobhfoglaaRows
import Derived.Test.YtaciciobhfoglaaQFnExactTakePacketx4
import Derived.Test.YtaciciobhfoglaaOpen
import Derived.WalkKit
import Derived.ProofKit
import Derived.OpenShut
import Derived.ShutString
import Derived.ChangeOld
import Derived.Below
import Derived.SizedLaws
namespace Go.Proofs.Ytaciciobhfoglaa.fnExactTakePacket
open Go.ChangeShapes Go.WideShapes Go.ChangeAt Go.RowKit
open Go.ChangeMaps (open_string shut_string)
open Go.Proofs.YtaciciobhfoglaaW.PrintWords Go.Proofs.Ytaciciobhfoglaa.Open Go.Proofs.Ytaciciobhfoglaa.QFnExactTakePacket
set_option linter.unusedVariables false
theorem own : ownKnob Try.prog.godebug = none := by kernel_rfl
theorem laidOut : laidOutB Try.prog = true := by kernel_rfl
def g140 (a : S140) : Prop := (I64 a.f0) ∧ (I64 a.f1) ∧ (I64 a.f2) ∧ (I64 a.f3) ∧ (I64 a.f4) ∧ (I64 a.f5)
theorem open140 : Opens Try.prog 140 k140 g140 :=
  Opens.imp (Opens.struct (d := (Kd.pair (Kd.int .i64) (Kd.pair (Kd.int .i64) (Kd.pair (Kd.int .i64) (Kd.pair (Kd.int .i64) (Kd.pair (Kd.int .i64) (Kd.int .i64))))))) Try.underlying140 (FOpens.cons (Opens.i64 Try.underlying3) (by kernel_rfl) (by kernel_rfl) (FOpens.cons (Opens.i64 Try.underlying3) (by kernel_rfl) (by kernel_rfl) (FOpens.cons (Opens.i64 Try.underlying3) (by kernel_rfl) (by kernel_rfl) (FOpens.cons (Opens.i64 Try.underlying3) (by kernel_rfl) (by kernel_rfl) (FOpens.cons (Opens.i64 Try.underlying3) (by kernel_rfl) (by kernel_rfl) (FOpens.one (Opens.i64 Try.underlying3) (by kernel_rfl) (by kernel_rfl))))))) (by kernel_rfl) (fun x : S140 => (x.f0, x.f1, x.f2, x.f3, x.f4, x.f5)) (fun a => ⟨a.1, a.2.1, a.2.2.1, a.2.2.2.1, a.2.2.2.2.1, a.2.2.2.2.2⟩) (fun _ => rfl)) (fun _ h => h)
def g35 (a : (List S140)) : Prop := (Len 48 a ∧ ∀ y ∈ a, g140 y)
theorem open35 : Opens Try.prog 35 (Kd.slice 140 k140) g35 :=
  Opens.imp (Opens.struct0 (d := (Kd.slice 140 k140)) Try.underlying35 (FOpens.one (Opens.slice' (d := k140) (g := (fun x => g140 x)) (B := 48) Try.underlying33 open140 (by kernel_rfl) (by kernel_rfl)) (by kernel_rfl) (by kernel_rfl)) (by kernel_rfl)) (fun _ h => h)
/-- THE PURE STATEMENT. -/
def PureFnExactTakePacket : Prop := ∀ (l0_0 : (List S140)) (a1 : Int), (Len 48 l0_0 ∧ ∀ y ∈ l0_0, g140 y) → (I64 a1) → ∃ k, laws_FnExactTakePacket.f k l0_0 a1 = some true
set_option maxRecDepth 100000 in
theorem lifted (Pu : PureFnExactTakePacket) (os : Os) (started : os.Started) (H : Type) (enc : TypeId × Value → H) :
    ReturnsInHanded {} Try.checked os 5 .any (Rows.fnExactTakePacketSpec.pre6 enc Try.prog Try.f5 Rows.fnExactTakePacketRow.domain false) (Rows.fnExactTakePacketSpec.post enc Try.prog Try.f5 false true false false) := by
  refine returnsInHanded_of_change_sized (C := Try.checked) own started (by kernel_rfl) Try.func5
    (ChangeSpec.witness6 (enc := enc) (C := Try.checked) false ⟨#[], #[.agg #[.slice none 0 0], .int .i64 0], []⟩ 8 (by kernel_rfl) (by kernel_rfl) (by kernel_rfl) (by kernel_rfl)) ?_
  intro W base args ds gs before hval0 hW hcnd hsz0 _
  have hsz : (DataW.weightsEach Try.prog (Try.f5.params.toList ++ Rows.fnExactTakePacketSpec.plain.varTypes Try.prog) (ds ++ gs)).all (· ≤ reachBytes) = true := hsz0
  have hval : ∀ (j : Nat) t v, Try.f5.params[j]? = some t → args[j]? = some v → Value.okWide Try.prog W .any base t v := hval0
  have hW' := hW
  obtain ⟨p, q, hA0, hV, rfl, hfz, hnd⟩ := hW
  have hA : DataW.TrodAll enc Try.prog W 0 (fun _ => true) true Try.f5.params.toList args.toList ds p := hA0
  rw [Try.params5] at hA hval hsz
  obtain ⟨v0, vs0, d0, ds0, p0, q0, hargs, rfl, rfl, h0, r0⟩ := trodAll_cons hA
  obtain ⟨v1, vs1, d1, ds1, p1, q1, rfl, rfl, rfl, h1, r1⟩ := trodAll_cons r0
  obtain ⟨rfl, rfl, rfl⟩ := trodAll_nil r1
  obtain rfl : args = #[v0, v1] := by cases args; simp_all
  obtain ⟨rfl, rfl⟩ := trodVars_none hV
  have kk0 := h0
  have lt0 : ∀ x ∈ p0, x.block < W.heap.size := by obtain ⟨m, hm⟩ := kk0; exact DataW.trod_lt m _ _ _ hm
  obtain ⟨x0, hK0, hg0⟩ := Opens.arg open35 hsz (j := 0) (t := 35) rfl rfl h0
  obtain ⟨cs0, rfl⟩ := okWide_agg Try.underlying35 (hval 0 35 v0 rfl rfl)
  have gg0_0 := hg0
  obtain ⟨A0_0, c0_0, s0_0, hc0_0, hr0_0⟩ := hK0
  have hcs0 : (Value.agg cs0).cells.toList = [.slice A0_0 x0.length c0_0] := by rw [s0_0]
  obtain rfl := agg_form hcs0
  obtain ⟨a1, rfl, rfl, rfl, w1⟩ := open_int Try.underlying3 (hval 1 3 v1 rfl rfl) h1
  have x1 := I64.of w1
  obtain ⟨k, hres⟩ := Pu x0 a1 gg0_0 x1
  clear hA0 hval0 hsz0 hsz
  refine (laws_FnExactTakePacket.calls k _ _ x0 a1 true W hr0_0 hc0_0 hres).mono ?_
  rintro e W' ⟨rfl, hd⟩
  have bel : Below W.heap.size W W' := hd
  exact ⟨_, rfl, _, _, _, [], _, [], hW', trodAll_mk1 (shut_bool Try.underlying4 _), (trodAll_cons_mk (Below.trod laidOut (by kernel_rfl) (of_decide_eq_true (by kernel_rfl)) kk0 bel lt0) (trodAll_cons_mk (shut_int Try.underlying3 w1) trodAll_mk0)), rfl, bel.frame _, fun h => by cases h⟩
theorem row (Pu : PureFnExactTakePacket) : Rows.FnExactTakePacketSaid :=
  OpenClaim.holds_of_wide 5 Try.f5 rfl rfl rfl rfl rfl rfl rfl ⟨rfl, rfl, rfl, rfl, rfl⟩ rfl rfl rfl rfl rfl (by kernel_rfl) Try.func5 (by kernel_rfl)
    (of_decide_eq_true (by kernel_rfl)) (by unfold Func.isWrapper; first | (rw [if_pos (by decide +kernel)]; kernel_rfl) | (rw [if_neg (by decide +kernel)]; exact ⟨rfl, rfl⟩))
    (fun os started H enc _ => lifted Pu os started H enc)
end Go.Proofs.Ytaciciobhfoglaa.fnExactTakePacket
