/- The row of the law FnExactCountAlts out of its pure statement 'PureFnExactCountAlts': for every input the law returns true and each argument reads as before. Conditions: none. -/
import Derived.Test.YtohbccekdmdmbaaRows
import Derived.Test.YtohbccekdmdmbaaVFnExactCountAltsQFnExactCountAltsx7
import Derived.WalkKit
import Derived.ProofKit
import Derived.OpenShut
import Derived.ShutString
import Derived.ChangeOld
import Derived.Below
import Derived.SizedLaws
namespace Go.Proofs.Ytohbccekdmdmbaa.fnExactCountAlts
open Go.ChangeShapes Go.WideShapes Go.ChangeAt Go.RowKit
open Go.ChangeMaps (open_string shut_string)
open Go.Proofs.YtohbccekdmdmbaaW.PrintWords Go.Proofs.Ytohbccekdmdmbaa.Open Go.Proofs.Ytohbccekdmdmbaa.QFnExactCountAlts
set_option linter.unusedVariables false
theorem own : ownKnob Try.prog.godebug = none := by kernel_rfl
theorem laidOut : laidOutB Try.prog = true := by kernel_rfl
def g24 (a : (Int × ((List Int) × (List Int)))) : Prop := (I64 a.1) ∧ (Len 8 a.2.1 ∧ ∀ y ∈ a.2.1, I64 y) ∧ (Len 8 a.2.2 ∧ ∀ y ∈ a.2.2, I64 y)
theorem open24 : Opens Try.prog 24 (Kd.pair (Kd.int .i64) (Kd.pair (Kd.slice 3 (Kd.int .i64)) (Kd.slice 3 (Kd.int .i64)))) g24 :=
  Opens.imp (Opens.struct0 (d := (Kd.pair (Kd.int .i64) (Kd.pair (Kd.slice 3 (Kd.int .i64)) (Kd.slice 3 (Kd.int .i64))))) Try.underlying24 (FOpens.cons (Opens.i64 Try.underlying3) (by kernel_rfl) (by kernel_rfl) (FOpens.cons (Opens.slice' (d := (Kd.int .i64)) (g := (fun x => I64 x)) (B := 8) Try.underlying22 (Opens.i64 Try.underlying3) (by kernel_rfl) (by kernel_rfl)) (by kernel_rfl) (by kernel_rfl) (FOpens.one (Opens.slice' (d := (Kd.int .i64)) (g := (fun x => I64 x)) (B := 8) Try.underlying22 (Opens.i64 Try.underlying3) (by kernel_rfl) (by kernel_rfl)) (by kernel_rfl) (by kernel_rfl)))) (by kernel_rfl)) (fun _ h => h)
def g57 (a : S57) : Prop := (I64 a.f0) ∧ (I64 a.f1)
theorem open57 : Opens Try.prog 57 k57 g57 :=
  Opens.imp (Opens.struct (d := (Kd.pair (Kd.int .i64) (Kd.int .i64))) Try.underlying57 (FOpens.cons (Opens.i64 Try.underlying3) (by kernel_rfl) (by kernel_rfl) (FOpens.one (Opens.i64 Try.underlying3) (by kernel_rfl) (by kernel_rfl))) (by kernel_rfl) (fun x : S57 => (x.f0, x.f1)) (fun a => ⟨a.1, a.2⟩) (fun _ => rfl)) (fun _ h => h)
/-- THE PURE STATEMENT. -/
def PureFnExactCountAlts : Prop := ∀ (a0_0 : Int) (l0_1 : (List Int)) (l0_2 : (List Int)) (l1 : (List S57)) (a2 : Int), (I64 a0_0) → (Len 8 l0_1 ∧ ∀ y ∈ l0_1, I64 y) → (Len 8 l0_2 ∧ ∀ y ∈ l0_2, I64 y) → (Len 16 l1 ∧ ∀ y ∈ l1, g57 y) → (I64 a2) → ∃ k, laws_FnExactCountAlts.f k a0_0 l0_1 l0_2 l1 a2 = some true
set_option maxRecDepth 100000 in
theorem lifted (Pu : PureFnExactCountAlts) (os : Os) (started : os.Started) (H : Type) (enc : TypeId × Value → H) :
    ReturnsInHanded {} Try.checked os 3 .any (Rows.fnExactCountAltsSpec.pre6 enc Try.prog Try.f3 Rows.fnExactCountAltsRow.domain false) (Rows.fnExactCountAltsSpec.post enc Try.prog Try.f3 false true false false) := by
  refine returnsInHanded_of_change_sized (C := Try.checked) own started (by kernel_rfl) Try.func3
    (ChangeSpec.witness6 (enc := enc) (C := Try.checked) false ⟨#[], #[.agg #[.int .i64 0, .slice none 0 0, .slice none 0 0], .slice none 0 0, .int .i64 0], []⟩ 8 (by kernel_rfl) (by kernel_rfl) (by kernel_rfl) (by kernel_rfl)) ?_
  intro W base args ds gs before hval0 hW hcnd hsz0 _
  have hsz : (DataW.weightsEach Try.prog (Try.f3.params.toList ++ Rows.fnExactCountAltsSpec.plain.varTypes Try.prog) (ds ++ gs)).all (· ≤ reachBytes) = true := hsz0
  have hval : ∀ (j : Nat) t v, Try.f3.params[j]? = some t → args[j]? = some v → Value.okWide Try.prog W .any base t v := hval0
  have hW' := hW
  obtain ⟨p, q, hA0, hV, rfl, hfz, hnd⟩ := hW
  have hA : DataW.TrodAll enc Try.prog W 0 (fun _ => true) true Try.f3.params.toList args.toList ds p := hA0
  rw [Try.params3] at hA hval hsz
  obtain ⟨v0, vs0, d0, ds0, p0, q0, hargs, rfl, rfl, h0, r0⟩ := trodAll_cons hA
  obtain ⟨v1, vs1, d1, ds1, p1, q1, rfl, rfl, rfl, h1, r1⟩ := trodAll_cons r0
  obtain ⟨v2, vs2, d2, ds2, p2, q2, rfl, rfl, rfl, h2, r2⟩ := trodAll_cons r1
  obtain ⟨rfl, rfl, rfl⟩ := trodAll_nil r2
  obtain rfl : args = #[v0, v1, v2] := by cases args; simp_all
  obtain ⟨rfl, rfl⟩ := trodVars_none hV
  have kk0 := h0
  have lt0 : ∀ x ∈ p0, x.block < W.heap.size := by obtain ⟨m, hm⟩ := kk0; exact DataW.trod_lt m _ _ _ hm
  obtain ⟨x0, hK0, hg0⟩ := Opens.arg open24 hsz (j := 0) (t := 24) rfl rfl h0
  obtain ⟨cs0, rfl⟩ := okWide_agg Try.underlying24 (hval 0 24 v0 rfl rfl)
  obtain ⟨y0_0, y0_1, y0_2⟩ := x0
  obtain ⟨u0_0, z0_0, e0_0, m0_0, b0_0⟩ := hK0
  obtain ⟨u0_1, z0_1, e0_1, m0_1, b0_1⟩ := b0_0
  obtain ⟨gg0_0, gg0_1, gg0_2⟩ := hg0
  replace m0_0 := show _ = [_] from m0_0
  obtain ⟨A0_1, c0_1, s0_1, hc0_1, hr0_1⟩ := m0_1
  obtain ⟨A0_2, c0_2, s0_2, hc0_2, hr0_2⟩ := b0_1
  have hcs0 : (Value.agg cs0).cells.toList = [.int .i64 y0_0, .slice A0_1 y0_1.length c0_1, .slice A0_2 y0_2.length c0_2] := by rw [e0_0, m0_0, e0_1, s0_1, s0_2]; rfl
  obtain rfl := agg_form hcs0
  have kk1 := h1
  have lt1 : ∀ x ∈ p1, x.block < W.heap.size := by obtain ⟨m, hm⟩ := kk1; exact DataW.trod_lt m _ _ _ hm
  obtain ⟨x1, hK1, hg1⟩ := Opens.arg (Opens.slice' (d := k57) (g := (fun x => g57 x)) (B := 16) Try.underlying25 open57 (by kernel_rfl) (by kernel_rfl)) hsz (j := 1) (t := 25) rfl rfl h1
  obtain ⟨A1, n1, c1, rfl⟩ := okWide_slice Try.underlying25 (hval 1 25 v1 rfl rfl)
  obtain ⟨rfl, hc1, hr1⟩ := slice_form hK1
  obtain ⟨a2, rfl, rfl, rfl, w2⟩ := open_int Try.underlying3 (hval 2 3 v2 rfl rfl) h2
  have x2 := I64.of w2
  obtain ⟨k, hres⟩ := Pu y0_0 y0_1 y0_2 x1 a2 gg0_0 gg0_1 gg0_2 hg1 x2
  clear hA0 hval0 hsz0 hsz
  refine (laws_FnExactCountAlts.calls k y0_0 _ _ y0_1 _ _ y0_2 _ _ x1 a2 true W hr0_1 hc0_1 hr0_2 hc0_2 hr1 hc1 hres).mono ?_
  rintro e W' ⟨rfl, hd⟩
  have bel : Below W.heap.size W W' := hd
  exact ⟨_, rfl, _, _, _, [], _, [], hW', trodAll_mk1 (shut_bool Try.underlying4 _), (trodAll_cons_mk (Below.trod laidOut (by kernel_rfl) (of_decide_eq_true (by kernel_rfl)) kk0 bel lt0) (trodAll_cons_mk (Below.trod laidOut (by kernel_rfl) (of_decide_eq_true (by kernel_rfl)) kk1 bel lt1) (trodAll_cons_mk (shut_int Try.underlying3 w2) trodAll_mk0))), rfl, bel.frame _, fun h => by cases h⟩
theorem row (Pu : PureFnExactCountAlts) : Rows.FnExactCountAltsSaid :=
  OpenClaim.holds_of_wide 3 Try.f3 rfl rfl rfl rfl rfl rfl rfl ⟨rfl, rfl, rfl, rfl, rfl⟩ rfl rfl rfl rfl rfl (by kernel_rfl) Try.func3 (by kernel_rfl)
    (of_decide_eq_true (by kernel_rfl)) (by unfold Func.isWrapper; first | (rw [if_pos (by decide +kernel)]; kernel_rfl) | (rw [if_neg (by decide +kernel)]; exact ⟨rfl, rfl⟩))
    (fun os started H enc _ => lifted Pu os started H enc)
end Go.Proofs.Ytohbccekdmdmbaa.fnExactCountAlts
