/- The row of the law FnExactRepairHop out of its pure statement 'PureFnExactRepairHop': for every input the law returns true and each argument reads as before. Conditions: none. -/
import Derived.Test.YtohbccekdmdmbaaRows
import Derived.Test.YtohbccekdmdmbaaVFnExactRepairHopQFnExactRepairHopx21
import Derived.WalkKit
import Derived.ProofKit
import Derived.OpenShut
import Derived.ShutString
import Derived.ChangeOld
import Derived.Below
import Derived.SizedLaws
namespace Go.Proofs.Ytohbccekdmdmbaa.fnExactRepairHop
open Go.ChangeShapes Go.WideShapes Go.ChangeAt Go.RowKit
open Go.ChangeMaps (open_string shut_string)
open Go.Proofs.YtohbccekdmdmbaaW.PrintWords Go.Proofs.Ytohbccekdmdmbaa.Open Go.Proofs.Ytohbccekdmdmbaa.QFnExactRepairHop
set_option linter.unusedVariables false
theorem own : ownKnob Try.prog.godebug = none := by kernel_rfl
theorem laidOut : laidOutB Try.prog = true := by kernel_rfl
def g82 (a : S82) : Prop := (I64 a.f0) ∧ (I64 a.f1)
theorem open82 : Opens Try.prog 82 k82 g82 :=
  Opens.imp (Opens.struct (d := (Kd.pair (Kd.int .i64) (Kd.int .i64))) Try.underlying82 (FOpens.cons (Opens.i64 Try.underlying3) (by kernel_rfl) (by kernel_rfl) (FOpens.one (Opens.i64 Try.underlying3) (by kernel_rfl) (by kernel_rfl))) (by kernel_rfl) (fun x : S82 => (x.f0, x.f1)) (fun a => ⟨a.1, a.2⟩) (fun _ => rfl)) (fun _ h => h)
def g57 (a : S57) : Prop := (I64 a.f0) ∧ (I64 a.f1)
theorem open57 : Opens Try.prog 57 k57 g57 :=
  Opens.imp (Opens.struct (d := (Kd.pair (Kd.int .i64) (Kd.int .i64))) Try.underlying57 (FOpens.cons (Opens.i64 Try.underlying3) (by kernel_rfl) (by kernel_rfl) (FOpens.one (Opens.i64 Try.underlying3) (by kernel_rfl) (by kernel_rfl))) (by kernel_rfl) (fun x : S57 => (x.f0, x.f1)) (fun a => ⟨a.1, a.2⟩) (fun _ => rfl)) (fun _ h => h)
def g24 (a : S24) : Prop := (I64 a.f0) ∧ (Len 8 a.f1 ∧ ∀ y ∈ a.f1, I64 y) ∧ (Len 8 a.f2 ∧ ∀ y ∈ a.f2, I64 y)
theorem open24 : Opens Try.prog 24 k24 g24 :=
  Opens.imp (Opens.struct (d := (Kd.pair (Kd.int .i64) (Kd.pair (Kd.slice 3 (Kd.int .i64)) (Kd.slice 3 (Kd.int .i64))))) Try.underlying24 (FOpens.cons (Opens.i64 Try.underlying3) (by kernel_rfl) (by kernel_rfl) (FOpens.cons (Opens.slice' (d := (Kd.int .i64)) (g := (fun x => I64 x)) (B := 8) Try.underlying22 (Opens.i64 Try.underlying3) (by kernel_rfl) (by kernel_rfl)) (by kernel_rfl) (by kernel_rfl) (FOpens.one (Opens.slice' (d := (Kd.int .i64)) (g := (fun x => I64 x)) (B := 8) Try.underlying22 (Opens.i64 Try.underlying3) (by kernel_rfl) (by kernel_rfl)) (by kernel_rfl) (by kernel_rfl)))) (by kernel_rfl) (fun x : S24 => (x.f0, x.f1, x.f2)) (fun a => ⟨a.1, a.2.1, a.2.2⟩) (fun _ => rfl)) (fun _ h => h)
def g85 (a : S85) : Prop := (g82 a.f0) ∧ (Len 16 a.f1 ∧ ∀ y ∈ a.f1, g57 y) ∧ (Len 56 a.f2 ∧ ∀ y ∈ a.f2, g24 y)
theorem open85 : Opens Try.prog 85 k85 g85 :=
  Opens.imp (Opens.struct (d := (Kd.pair k82 (Kd.pair (Kd.slice 57 k57) (Kd.slice 24 k24)))) Try.underlying85 (FOpens.cons open82 (by kernel_rfl) (by kernel_rfl) (FOpens.cons (Opens.slice' (d := k57) (g := (fun x => g57 x)) (B := 16) Try.underlying25 open57 (by kernel_rfl) (by kernel_rfl)) (by kernel_rfl) (by kernel_rfl) (FOpens.one (Opens.slice' (d := k24) (g := (fun x => g24 x)) (B := 56) Try.underlying83 open24 (by kernel_rfl) (by kernel_rfl)) (by kernel_rfl) (by kernel_rfl)))) (by kernel_rfl) (fun x : S85 => (x.f0, x.f1, x.f2)) (fun a => ⟨a.1, a.2.1, a.2.2⟩) (fun _ => rfl)) (fun _ h => h)
def g44 (a : (Int × (Int × (Int × (List S85))))) : Prop := (I64 a.1) ∧ (I64 a.2.1) ∧ (I64 a.2.2.1) ∧ (Len 64 a.2.2.2 ∧ ∀ y ∈ a.2.2.2, g85 y)
theorem open44 : Opens Try.prog 44 (Kd.pair (Kd.int .i64) (Kd.pair (Kd.int .i64) (Kd.pair (Kd.int .i64) (Kd.slice 85 k85)))) g44 :=
  Opens.imp (Opens.struct0 (d := (Kd.pair (Kd.int .i64) (Kd.pair (Kd.int .i64) (Kd.pair (Kd.int .i64) (Kd.slice 85 k85))))) Try.underlying44 (FOpens.cons (Opens.i64 Try.underlying3) (by kernel_rfl) (by kernel_rfl) (FOpens.cons (Opens.i64 Try.underlying3) (by kernel_rfl) (by kernel_rfl) (FOpens.cons (Opens.i64 Try.underlying3) (by kernel_rfl) (by kernel_rfl) (FOpens.one (Opens.slice' (d := k85) (g := (fun x => g85 x)) (B := 64) Try.underlying42 open85 (by kernel_rfl) (by kernel_rfl)) (by kernel_rfl) (by kernel_rfl))))) (by kernel_rfl)) (fun _ h => h)
/-- THE PURE STATEMENT. -/
def PureFnExactRepairHop : Prop := ∀ (a0_0 : Int) (a0_1 : Int) (a0_2 : Int) (l0_3 : (List S85)) (a1 : Int) (a2 : Int) (a3 : Int) (l4 : (List Int)), (I64 a0_0) → (I64 a0_1) → (I64 a0_2) → (Len 64 l0_3 ∧ ∀ y ∈ l0_3, g85 y) → (I64 a1) → (I64 a2) → (I64 a3) → (Len 8 l4 ∧ ∀ y ∈ l4, I64 y) → ∃ k, laws_FnExactRepairHop.f k a0_0 a0_1 a0_2 l0_3 a1 a2 a3 l4 = some true
set_option maxRecDepth 100000 in
theorem lifted (Pu : PureFnExactRepairHop) (os : Os) (started : os.Started) (H : Type) (enc : TypeId × Value → H) :
    ReturnsInHanded {} Try.checked os 5 .any (Rows.fnExactRepairHopSpec.pre6 enc Try.prog Try.f5 Rows.fnExactRepairHopRow.domain false) (Rows.fnExactRepairHopSpec.post enc Try.prog Try.f5 false true false false) := by
  refine returnsInHanded_of_change_sized (C := Try.checked) own started (by kernel_rfl) Try.func5
    (ChangeSpec.witness6 (enc := enc) (C := Try.checked) false ⟨#[], #[.agg #[.int .i64 0, .int .i64 0, .int .i64 0, .slice none 0 0], .int .i64 0, .int .i64 0, .int .i64 0, .slice none 0 0], []⟩ 8 (by kernel_rfl) (by kernel_rfl) (by kernel_rfl) (by kernel_rfl)) ?_
  intro W base args ds gs before hval0 hW hcnd hsz0 _
  have hsz : (DataW.weightsEach Try.prog (Try.f5.params.toList ++ Rows.fnExactRepairHopSpec.plain.varTypes Try.prog) (ds ++ gs)).all (· ≤ reachBytes) = true := hsz0
  have hval : ∀ (j : Nat) t v, Try.f5.params[j]? = some t → args[j]? = some v → Value.okWide Try.prog W .any base t v := hval0
  have hW' := hW
  obtain ⟨p, q, hA0, hV, rfl, hfz, hnd⟩ := hW
  have hA : DataW.TrodAll enc Try.prog W 0 (fun _ => true) true Try.f5.params.toList args.toList ds p := hA0
  rw [Try.params5] at hA hval hsz
  obtain ⟨v0, vs0, d0, ds0, p0, q0, hargs, rfl, rfl, h0, r0⟩ := trodAll_cons hA
  obtain ⟨v1, vs1, d1, ds1, p1, q1, rfl, rfl, rfl, h1, r1⟩ := trodAll_cons r0
  obtain ⟨v2, vs2, d2, ds2, p2, q2, rfl, rfl, rfl, h2, r2⟩ := trodAll_cons r1
  obtain ⟨v3, vs3, d3, ds3, p3, q3, rfl, rfl, rfl, h3, r3⟩ := trodAll_cons r2
  obtain ⟨v4, vs4, d4, ds4, p4, q4, rfl, rfl, rfl, h4, r4⟩ := trodAll_cons r3
  obtain ⟨rfl, rfl, rfl⟩ := trodAll_nil r4
  obtain rfl : args = #[v0, v1, v2, v3, v4] := by cases args; simp_all
  obtain ⟨rfl, rfl⟩ := trodVars_none hV
  have kk0 := h0
  have lt0 : ∀ x ∈ p0, x.block < W.heap.size := by obtain ⟨m, hm⟩ := kk0; exact DataW.trod_lt m _ _ _ hm
  obtain ⟨x0, hK0, hg0⟩ := Opens.arg open44 hsz (j := 0) (t := 44) rfl rfl h0
  obtain ⟨cs0, rfl⟩ := okWide_agg Try.underlying44 (hval 0 44 v0 rfl rfl)
  obtain ⟨y0_0, y0_1, y0_2, y0_3⟩ := x0
  obtain ⟨u0_0, z0_0, e0_0, m0_0, b0_0⟩ := hK0
  obtain ⟨u0_1, z0_1, e0_1, m0_1, b0_1⟩ := b0_0
  obtain ⟨u0_2, z0_2, e0_2, m0_2, b0_2⟩ := b0_1
  obtain ⟨gg0_0, gg0_1, gg0_2, gg0_3⟩ := hg0
  replace m0_0 := show _ = [_] from m0_0
  replace m0_1 := show _ = [_] from m0_1
  replace m0_2 := show _ = [_] from m0_2
  obtain ⟨A0_3, c0_3, s0_3, hc0_3, hr0_3⟩ := b0_2
  have hcs0 : (Value.agg cs0).cells.toList = [.int .i64 y0_0, .int .i64 y0_1, .int .i64 y0_2, .slice A0_3 y0_3.length c0_3] := by rw [e0_0, m0_0, e0_1, m0_1, e0_2, m0_2, s0_3]; rfl
  obtain rfl := agg_form hcs0
  obtain ⟨a1, rfl, rfl, rfl, w1⟩ := open_int Try.underlying3 (hval 1 3 v1 rfl rfl) h1
  have x1 := I64.of w1
  obtain ⟨a2, rfl, rfl, rfl, w2⟩ := open_int Try.underlying3 (hval 2 3 v2 rfl rfl) h2
  have x2 := I64.of w2
  obtain ⟨a3, rfl, rfl, rfl, w3⟩ := open_int Try.underlying3 (hval 3 3 v3 rfl rfl) h3
  have x3 := I64.of w3
  have kk4 := h4
  have lt4 : ∀ x ∈ p4, x.block < W.heap.size := by obtain ⟨m, hm⟩ := kk4; exact DataW.trod_lt m _ _ _ hm
  obtain ⟨x4, hK4, hg4⟩ := Opens.arg (Opens.slice' (d := (Kd.int .i64)) (g := (fun x => I64 x)) (B := 8) Try.underlying22 (Opens.i64 Try.underlying3) (by kernel_rfl) (by kernel_rfl)) hsz (j := 4) (t := 22) rfl rfl h4
  obtain ⟨A4, n4, c4, rfl⟩ := okWide_slice Try.underlying22 (hval 4 22 v4 rfl rfl)
  obtain ⟨rfl, hc4, hr4⟩ := slice_form hK4
  obtain ⟨k, hres⟩ := Pu y0_0 y0_1 y0_2 y0_3 a1 a2 a3 x4 gg0_0 gg0_1 gg0_2 gg0_3 x1 x2 x3 hg4
  clear hA0 hval0 hsz0 hsz
  refine (laws_FnExactRepairHop.calls k y0_0 y0_1 y0_2 _ _ y0_3 a1 a2 a3 _ _ x4 true W hr0_3 hc0_3 hr4 hc4 hres).mono ?_
  rintro e W' ⟨rfl, hd⟩
  have bel : Below W.heap.size W W' := hd
  exact ⟨_, rfl, _, _, _, [], _, [], hW', trodAll_mk1 (shut_bool Try.underlying4 _), (trodAll_cons_mk (Below.trod laidOut (by kernel_rfl) (of_decide_eq_true (by kernel_rfl)) kk0 bel lt0) (trodAll_cons_mk (shut_int Try.underlying3 w1) (trodAll_cons_mk (shut_int Try.underlying3 w2) (trodAll_cons_mk (shut_int Try.underlying3 w3) (trodAll_cons_mk (Below.trod laidOut (by kernel_rfl) (of_decide_eq_true (by kernel_rfl)) kk4 bel lt4) trodAll_mk0))))), rfl, bel.frame _, fun h => by cases h⟩
theorem row (Pu : PureFnExactRepairHop) : Rows.FnExactRepairHopSaid :=
  OpenClaim.holds_of_wide 5 Try.f5 rfl rfl rfl rfl rfl rfl rfl ⟨rfl, rfl, rfl, rfl, rfl⟩ rfl rfl rfl rfl rfl (by kernel_rfl) Try.func5 (by kernel_rfl)
    (of_decide_eq_true (by kernel_rfl)) (by unfold Func.isWrapper; first | (rw [if_pos (by decide +kernel)]; kernel_rfl) | (rw [if_neg (by decide +kernel)]; exact ⟨rfl, rfl⟩))
    (fun os started H enc _ => lifted Pu os started H enc)
end Go.Proofs.Ytohbccekdmdmbaa.fnExactRepairHop
