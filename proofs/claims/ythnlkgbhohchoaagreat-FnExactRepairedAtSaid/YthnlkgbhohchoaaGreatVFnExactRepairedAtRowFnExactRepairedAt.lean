/- The row of the law FnExactRepairedAt out of its pure statement 'PureFnExactRepairedAt': for every input the law returns true and each argument reads as before. Conditions: none. -/
import Derived.Test.YthnlkgbhohchoaaGreatRows
import Derived.Test.YthnlkgbhohchoaaGreatVFnExactRepairedAtQFnExactRepairedAtx24
import Derived.WalkKit
import Derived.ProofKit
import Derived.OpenShut
import Derived.ShutString
import Derived.ChangeOld
import Derived.Below
import Derived.SizedLaws
namespace Go.Proofs.YthnlkgbhohchoaaGreat.fnExactRepairedAt
open Go.ChangeShapes Go.WideShapes Go.ChangeAt Go.RowKit
open Go.ChangeMaps (open_string shut_string)
open Go.Proofs.YthnlkgbhohchoaaGreatW.PrintWords Go.Proofs.YthnlkgbhohchoaaGreat.Open Go.Proofs.YthnlkgbhohchoaaGreat.QFnExactRepairedAt
set_option linter.unusedVariables false
theorem own : ownKnob Tryz.prog.godebug = none := by kernel_rfl
theorem laidOut : laidOutB Tryz.prog = true := by kernel_rfl
def g93 (a : S93) : Prop := (I64 a.f0) ∧ (I64 a.f1)
theorem open93 : Opens Tryz.prog 93 k93 g93 :=
  Opens.imp (Opens.struct (d := (Kd.pair (Kd.int .i64) (Kd.int .i64))) Tryz.underlying93 (FOpens.cons (Opens.i64 Tryz.underlying3) (by kernel_rfl) (by kernel_rfl) (FOpens.one (Opens.i64 Tryz.underlying3) (by kernel_rfl) (by kernel_rfl))) (by kernel_rfl) (fun x : S93 => (x.f0, x.f1)) (fun a => ⟨a.1, a.2⟩) (fun _ => rfl)) (fun _ h => h)
def g161 (a : S161) : Prop := (I64 a.f0) ∧ (I64 a.f1)
theorem open161 : Opens Tryz.prog 161 k161 g161 :=
  Opens.imp (Opens.struct (d := (Kd.pair (Kd.int .i64) (Kd.int .i64))) Tryz.underlying161 (FOpens.cons (Opens.i64 Tryz.underlying3) (by kernel_rfl) (by kernel_rfl) (FOpens.one (Opens.i64 Tryz.underlying3) (by kernel_rfl) (by kernel_rfl))) (by kernel_rfl) (fun x : S161 => (x.f0, x.f1)) (fun a => ⟨a.1, a.2⟩) (fun _ => rfl)) (fun _ h => h)
def g159 (a : S159) : Prop := (I64 a.f0) ∧ (Len 8 a.f1 ∧ ∀ y ∈ a.f1, I64 y) ∧ (Len 8 a.f2 ∧ ∀ y ∈ a.f2, I64 y)
theorem open159 : Opens Tryz.prog 159 k159 g159 :=
  Opens.imp (Opens.struct (d := (Kd.pair (Kd.int .i64) (Kd.pair (Kd.slice 3 (Kd.int .i64)) (Kd.slice 3 (Kd.int .i64))))) Tryz.underlying159 (FOpens.cons (Opens.i64 Tryz.underlying3) (by kernel_rfl) (by kernel_rfl) (FOpens.cons (Opens.slice' (d := (Kd.int .i64)) (g := (fun x => I64 x)) (B := 8) Tryz.underlying25 (Opens.i64 Tryz.underlying3) (by kernel_rfl) (by kernel_rfl)) (by kernel_rfl) (by kernel_rfl) (FOpens.one (Opens.slice' (d := (Kd.int .i64)) (g := (fun x => I64 x)) (B := 8) Tryz.underlying25 (Opens.i64 Tryz.underlying3) (by kernel_rfl) (by kernel_rfl)) (by kernel_rfl) (by kernel_rfl)))) (by kernel_rfl) (fun x : S159 => (x.f0, x.f1, x.f2)) (fun a => ⟨a.1, a.2.1, a.2.2⟩) (fun _ => rfl)) (fun _ h => h)
def g97 (a : S97) : Prop := (g93 a.f0) ∧ (Len 16 a.f1 ∧ ∀ y ∈ a.f1, g161 y) ∧ (Len 56 a.f2 ∧ ∀ y ∈ a.f2, g159 y)
theorem open97 : Opens Tryz.prog 97 k97 g97 :=
  Opens.imp (Opens.struct (d := (Kd.pair k93 (Kd.pair (Kd.slice 161 k161) (Kd.slice 159 k159)))) Tryz.underlying97 (FOpens.cons open93 (by kernel_rfl) (by kernel_rfl) (FOpens.cons (Opens.slice' (d := k161) (g := (fun x => g161 x)) (B := 16) Tryz.underlying94 open161 (by kernel_rfl) (by kernel_rfl)) (by kernel_rfl) (by kernel_rfl) (FOpens.one (Opens.slice' (d := k159) (g := (fun x => g159 x)) (B := 56) Tryz.underlying95 open159 (by kernel_rfl) (by kernel_rfl)) (by kernel_rfl) (by kernel_rfl)))) (by kernel_rfl) (fun x : S97 => (x.f0, x.f1, x.f2)) (fun a => ⟨a.1, a.2.1, a.2.2⟩) (fun _ => rfl)) (fun _ h => h)
def g24 (a : (Int × (Int × (Int × (List S97))))) : Prop := (I64 a.1) ∧ (I64 a.2.1) ∧ (I64 a.2.2.1) ∧ (Len 64 a.2.2.2 ∧ ∀ y ∈ a.2.2.2, g97 y)
theorem open24 : Opens Tryz.prog 24 (Kd.pair (Kd.int .i64) (Kd.pair (Kd.int .i64) (Kd.pair (Kd.int .i64) (Kd.slice 97 k97)))) g24 :=
  Opens.imp (Opens.struct0 (d := (Kd.pair (Kd.int .i64) (Kd.pair (Kd.int .i64) (Kd.pair (Kd.int .i64) (Kd.slice 97 k97))))) Tryz.underlying24 (FOpens.cons (Opens.i64 Tryz.underlying3) (by kernel_rfl) (by kernel_rfl) (FOpens.cons (Opens.i64 Tryz.underlying3) (by kernel_rfl) (by kernel_rfl) (FOpens.cons (Opens.i64 Tryz.underlying3) (by kernel_rfl) (by kernel_rfl) (FOpens.one (Opens.slice' (d := k97) (g := (fun x => g97 x)) (B := 64) Tryz.underlying22 open97 (by kernel_rfl) (by kernel_rfl)) (by kernel_rfl) (by kernel_rfl))))) (by kernel_rfl)) (fun _ h => h)
/-- THE PURE STATEMENT. -/
def PureFnExactRepairedAt : Prop := ∀ (a0_0 : Int) (a0_1 : Int) (a0_2 : Int) (l0_3 : (List S97)) (a1 : Int) (a2 : Int) (l3 : (List Int)) (l4 : (List (List Int))), (I64 a0_0) → (I64 a0_1) → (I64 a0_2) → (Len 64 l0_3 ∧ ∀ y ∈ l0_3, g97 y) → (I64 a1) → (I64 a2) → (Len 8 l3 ∧ ∀ y ∈ l3, I64 y) → (Len 24 l4 ∧ ∀ y ∈ l4, Len 8 y ∧ ∀ y2 ∈ y, I64 y2) → ∃ k, laws_FnExactRepairedAt.Ok k a0_0 a0_1 a0_2 l0_3 a1 a2 l3 l4
set_option maxRecDepth 100000 in
theorem lifted (Pu : PureFnExactRepairedAt) (os : Os) (started : os.Started) (H : Type) (enc : TypeId × Value → H) :
    ReturnsInHanded {} Tryz.checked os 3 .any (Rows.fnExactRepairedAtSpec.pre6 enc Tryz.prog Tryz.f3 Rows.fnExactRepairedAtRow.domain false) (Rows.fnExactRepairedAtSpec.post enc Tryz.prog Tryz.f3 false true false false) := by
  refine returnsInHanded_of_change_sized (C := Tryz.checked) own started (by kernel_rfl) Tryz.func3
    (ChangeSpec.witness6 (enc := enc) (C := Tryz.checked) false ⟨#[], #[.agg #[.int .i64 0, .int .i64 0, .int .i64 0, .slice none 0 0], .int .i64 0, .int .i64 0, .slice none 0 0, .slice none 0 0], []⟩ 8 (by kernel_rfl) (by kernel_rfl) (by kernel_rfl) (by kernel_rfl)) ?_
  intro W base args ds gs before hval0 hW hcnd hsz0 _
  have hsz : (DataW.weightsEach Tryz.prog (Tryz.f3.params.toList ++ Rows.fnExactRepairedAtSpec.plain.varTypes Tryz.prog) (ds ++ gs)).all (· ≤ reachBytes) = true := hsz0
  have hval : ∀ (j : Nat) t v, Tryz.f3.params[j]? = some t → args[j]? = some v → Value.okWide Tryz.prog W .any base t v := hval0
  have hW' := hW
  obtain ⟨p, q, hA0, hV, rfl, hfz, hnd⟩ := hW
  have hA : DataW.TrodAll enc Tryz.prog W 0 (fun _ => true) true Tryz.f3.params.toList args.toList ds p := hA0
  rw [Tryz.params3] at hA hval hsz
  obtain ⟨v0, vs0, d0, ds0, p0, q0, hargs, rfl, rfl, h0, r0⟩ := trodAll_cons hA
  obtain ⟨v1, vs1, d1, ds1, p1, q1, rfl, rfl, rfl, h1, r1⟩ := trodAll_cons r0
  obtain ⟨v2, vs2, d2, ds2, p2, q2, rfl, rfl, rfl, h2, r2⟩ := trodAll_cons r1
  obtain ⟨v3, vs3, d3, ds3, p3, q3, rfl, rfl, rfl, h3, r3⟩ := trodAll_cons r2
  obtain ⟨v4, vs4, d4, ds4, p4, q4, rfl, rfl, rfl, h4, r4⟩ := trodAll_cons r3
  obtain ⟨rfl, rfl, rfl⟩ := trodAll_nil r4
  obtain rfl : args = #[v0, v1, v2, v3, v4] := by cases args; simp_all
  obtain ⟨rfl, rfl⟩ := trodVars_none hV
  have kk0 := h0
  have lt0 : ∀ x ∈ p0, x.block < W.heap.size := by obtain ⟨m, hm⟩ := kk0; exact DataW.trod_lt m _ _ _ hm
  obtain ⟨x0, hK0, hg0⟩ := Opens.arg open24 hsz (j := 0) (t := 24) rfl rfl h0
  obtain ⟨cs0, rfl⟩ := okWide_agg Tryz.underlying24 (hval 0 24 v0 rfl rfl)
  obtain ⟨y0_0, y0_1, y0_2, y0_3⟩ := x0
  obtain ⟨u0_0, z0_0, e0_0, m0_0, b0_0⟩ := hK0
  obtain ⟨u0_1, z0_1, e0_1, m0_1, b0_1⟩ := b0_0
  obtain ⟨u0_2, z0_2, e0_2, m0_2, b0_2⟩ := b0_1
  obtain ⟨gg0_0, gg0_1, gg0_2, gg0_3⟩ := hg0
  replace m0_0 := show _ = [_] from m0_0
  replace m0_1 := show _ = [_] from m0_1
  replace m0_2 := show _ = [_] from m0_2
  obtain ⟨A0_3, c0_3, s0_3, hc0_3, hr0_3⟩ := b0_2
  have hcs0 : (Value.agg cs0).cells.toList = [.int .i64 y0_0, .int .i64 y0_1, .int .i64 y0_2, .slice A0_3 y0_3.length c0_3] := by rw [e0_0, m0_0, e0_1, m0_1, e0_2, m0_2, s0_3]; rfl
  obtain rfl := agg_form hcs0
  obtain ⟨a1, rfl, rfl, rfl, w1⟩ := open_int Tryz.underlying3 (hval 1 3 v1 rfl rfl) h1
  have x1 := I64.of w1
  obtain ⟨a2, rfl, rfl, rfl, w2⟩ := open_int Tryz.underlying3 (hval 2 3 v2 rfl rfl) h2
  have x2 := I64.of w2
  have kk3 := h3
  have lt3 : ∀ x ∈ p3, x.block < W.heap.size := by obtain ⟨m, hm⟩ := kk3; exact DataW.trod_lt m _ _ _ hm
  obtain ⟨x3, hK3, hg3⟩ := Opens.arg (Opens.slice' (d := (Kd.int .i64)) (g := (fun x => I64 x)) (B := 8) Tryz.underlying25 (Opens.i64 Tryz.underlying3) (by kernel_rfl) (by kernel_rfl)) hsz (j := 3) (t := 25) rfl rfl h3
  obtain ⟨A3, n3, c3, rfl⟩ := okWide_slice Tryz.underlying25 (hval 3 25 v3 rfl rfl)
  obtain ⟨rfl, hc3, hr3⟩ := slice_form hK3
  have kk4 := h4
  have lt4 : ∀ x ∈ p4, x.block < W.heap.size := by obtain ⟨m, hm⟩ := kk4; exact DataW.trod_lt m _ _ _ hm
  obtain ⟨x4, hK4, hg4⟩ := Opens.arg (Opens.slice' (d := (Kd.slice 3 (Kd.int .i64))) (g := (fun x => Len 8 x ∧ ∀ y ∈ x, I64 y)) (B := 24) Tryz.underlying26 (Opens.slice' (d := (Kd.int .i64)) (g := (fun x => I64 x)) (B := 8) Tryz.underlying25 (Opens.i64 Tryz.underlying3) (by kernel_rfl) (by kernel_rfl)) (by kernel_rfl) (by kernel_rfl)) hsz (j := 4) (t := 26) rfl rfl h4
  obtain ⟨A4, n4, c4, rfl⟩ := okWide_slice Tryz.underlying26 (hval 4 26 v4 rfl rfl)
  obtain ⟨rfl, hc4, hr4⟩ := slice_form hK4
  obtain ⟨k, hres⟩ := Pu y0_0 y0_1 y0_2 y0_3 a1 a2 x3 x4 gg0_0 gg0_1 gg0_2 gg0_3 x1 x2 hg3 hg4
  clear hA0 hval0 hsz0 hsz
  refine (laws_FnExactRepairedAt.calls k y0_0 y0_1 y0_2 _ _ y0_3 a1 a2 _ _ x3 _ _ x4 true W hr0_3 hc0_3 hr3 hc3 hr4 hc4 ⟨hres, rfl⟩).mono ?_
  rintro e W' ⟨rfl, hd⟩
  have bel : Below W.heap.size W W' := hd
  exact ⟨_, rfl, _, _, _, [], _, [], hW', trodAll_mk1 (shut_bool Tryz.underlying4 _), (trodAll_cons_mk (Below.trod laidOut (by kernel_rfl) (of_decide_eq_true (by kernel_rfl)) kk0 bel lt0) (trodAll_cons_mk (shut_int Tryz.underlying3 w1) (trodAll_cons_mk (shut_int Tryz.underlying3 w2) (trodAll_cons_mk (Below.trod laidOut (by kernel_rfl) (of_decide_eq_true (by kernel_rfl)) kk3 bel lt3) (trodAll_cons_mk (Below.trod laidOut (by kernel_rfl) (of_decide_eq_true (by kernel_rfl)) kk4 bel lt4) trodAll_mk0))))), rfl, bel.frame _, fun h => by cases h⟩
theorem row (Pu : PureFnExactRepairedAt) : Rows.FnExactRepairedAtSaid :=
  OpenClaim.holds_of_wide 3 Tryz.f3 rfl rfl rfl rfl rfl rfl rfl ⟨rfl, rfl, rfl, rfl, rfl⟩ rfl rfl rfl rfl rfl (by kernel_rfl) Tryz.func3 (by kernel_rfl)
    (of_decide_eq_true (by kernel_rfl)) (by unfold Func.isWrapper; first | (rw [if_pos (by decide +kernel)]; kernel_rfl) | (rw [if_neg (by decide +kernel)]; exact ⟨rfl, rfl⟩))
    (fun os started H enc _ => lifted Pu os started H enc)
end Go.Proofs.YthnlkgbhohchoaaGreat.fnExactRepairedAt
