/-
  No cell of these rows narrows 'for every input' (looked for: loops, veiled, ifaces, maps, wideKeys, modest, calm, conditions, laid).
  DERIVED. THE GIVEN ROWS OF THIS SEAT. 9 by the template 'for every input the law returns true; each argument reads behind the call as it read before'; 0 by the template 'total and deterministic' (their statements: YtiihaabhjphaeaaTotals.lean).
  GIVEN WITH THE SEED: the statements are not yours to turn. If you find one false, say at which input.
  Laid BY PROGRAM, IN A SANDBOX (cutbox-rows.mjs): the forced cells as the released guide's own fill.sh prints them over the translation 592b3d5fb25b400e… (all of the seat's roots in one cut). By AI agents, Wed Nov 11 2026. No macro, syntax, notation, axiom, sorry.
-/
import Derived.Test.YtiihaabhjphaeaaChecked
import GoSem.Claim
import GoSem.ClaimJoined
import GoSem.ClaimMapViews
import Derived.JoinedTies
import Derived.KernelRfl
namespace Go.Proofs.Ytiihaabhjphaeaa
/- THE CELL 'sum', in the pinned program and in every row, IS THE sha256 OF THE DUMP (.gsa) THAT YtiihaabhjphaeaaProg.lean LOADS. Nothing in Lean hashes anything: it is a label: what it is worth is what the hold of that sum in a sandbox is worth. -/
noncomputable def Try.pinned : Pinned := { name := "ytiihaabhjphaeaa", sum := "592b3d5fb25b400eac4a14832a6aca2bfae8114755e7148ff970f0c4e3138f26", checked := Try.checked }
namespace Rows
def none {H : Type} : Left H := { results := [], args := [] }

/-- 'laws.FnMixtures': WHATEVER THE INPUT: true; the input reads as it did. -/
def fnMixturesSpec : ChangeSpec := { name := "fnMixtures", fn := fun _ => fun
  | [d] => { results := [.lit (.bool true)], args := [d] }
  | _ => none }
def fnMixturesRow : OpenClaim := { program := "ytiihaabhjphaeaa", sum := "592b3d5fb25b400eac4a14832a6aca2bfae8114755e7148ff970f0c4e3138f26", func := "loop.example/g00599/laws.FnMixtures", spec := "fnMixtures", apart := false }
def FnMixturesSaid : Prop := fnMixturesRow.holds Try.pinned (OpenSpec.ofChange fnMixturesSpec)

/-- ITS FALSE NEIGHBOUR: 'it returns false'. Refute it at one input. -/
def fnMixturesWrong : ChangeSpec := { name := "fnMixtures", fn := fun _ => fun
  | [d] => { results := [.lit (.bool false)], args := [d] }
  | _ => none }
def FnMixturesWrongFalsely : Prop := fnMixturesRow.holds Try.pinned (OpenSpec.ofChange fnMixturesWrong)

/-- 'laws.FnNoLoops': WHATEVER THE INPUT: true; the input reads as it did. -/
def fnNoLoopsSpec : ChangeSpec := { name := "fnNoLoops", fn := fun _ => fun
  | [d] => { results := [.lit (.bool true)], args := [d] }
  | _ => none }
def fnNoLoopsRow : OpenClaim := { program := "ytiihaabhjphaeaa", sum := "592b3d5fb25b400eac4a14832a6aca2bfae8114755e7148ff970f0c4e3138f26", func := "loop.example/g00599/laws.FnNoLoops", spec := "fnNoLoops", unfollowed := true, recurses := true, apart := false }
def FnNoLoopsSaid : Prop := fnNoLoopsRow.holds Try.pinned (OpenSpec.ofChange fnNoLoopsSpec)

/-- ITS FALSE NEIGHBOUR: 'it returns false'. Refute it at one input. -/
def fnNoLoopsWrong : ChangeSpec := { name := "fnNoLoops", fn := fun _ => fun
  | [d] => { results := [.lit (.bool false)], args := [d] }
  | _ => none }
def FnNoLoopsWrongFalsely : Prop := fnNoLoopsRow.holds Try.pinned (OpenSpec.ofChange fnNoLoopsWrong)

/-- 'laws.FnMargins': WHATEVER THE INPUT: true; the input reads as it did. -/
def fnMarginsSpec : ChangeSpec := { name := "fnMargins", fn := fun _ => fun
  | [d] => { results := [.lit (.bool true)], args := [d] }
  | _ => none }
def fnMarginsRow : OpenClaim := { program := "ytiihaabhjphaeaa", sum := "592b3d5fb25b400eac4a14832a6aca2bfae8114755e7148ff970f0c4e3138f26", func := "loop.example/g00599/laws.FnMargins", spec := "fnMargins", unfollowed := true, recurses := true, apart := false }
def FnMarginsSaid : Prop := fnMarginsRow.holds Try.pinned (OpenSpec.ofChange fnMarginsSpec)

/-- ITS FALSE NEIGHBOUR: 'it returns false'. Refute it at one input. -/
def fnMarginsWrong : ChangeSpec := { name := "fnMargins", fn := fun _ => fun
  | [d] => { results := [.lit (.bool false)], args := [d] }
  | _ => none }
def FnMarginsWrongFalsely : Prop := fnMarginsRow.holds Try.pinned (OpenSpec.ofChange fnMarginsWrong)

/-- 'laws.FnSwitched': WHATEVER THE INPUT: true; the input reads as it did. -/
def fnSwitchedSpec : ChangeSpec := { name := "fnSwitched", fn := fun _ => fun
  | [d] => { results := [.lit (.bool true)], args := [d] }
  | _ => none }
def fnSwitchedRow : OpenClaim := { program := "ytiihaabhjphaeaa", sum := "592b3d5fb25b400eac4a14832a6aca2bfae8114755e7148ff970f0c4e3138f26", func := "loop.example/g00599/laws.FnSwitched", spec := "fnSwitched", unfollowed := true, recurses := true, apart := false }
def FnSwitchedSaid : Prop := fnSwitchedRow.holds Try.pinned (OpenSpec.ofChange fnSwitchedSpec)

/-- ITS FALSE NEIGHBOUR: 'it returns false'. Refute it at one input. -/
def fnSwitchedWrong : ChangeSpec := { name := "fnSwitched", fn := fun _ => fun
  | [d] => { results := [.lit (.bool false)], args := [d] }
  | _ => none }
def FnSwitchedWrongFalsely : Prop := fnSwitchedRow.holds Try.pinned (OpenSpec.ofChange fnSwitchedWrong)

/-- 'laws.FnPrograms': WHATEVER THE INPUT: true; the input reads as it did. -/
def fnProgramsSpec : ChangeSpec := { name := "fnPrograms", fn := fun _ => fun
  | [d] => { results := [.lit (.bool true)], args := [d] }
  | _ => none }
def fnProgramsRow : OpenClaim := { program := "ytiihaabhjphaeaa", sum := "592b3d5fb25b400eac4a14832a6aca2bfae8114755e7148ff970f0c4e3138f26", func := "loop.example/g00599/laws.FnPrograms", spec := "fnPrograms", unfollowed := true, recurses := true, apart := false }
def FnProgramsSaid : Prop := fnProgramsRow.holds Try.pinned (OpenSpec.ofChange fnProgramsSpec)

/-- ITS FALSE NEIGHBOUR: 'it returns false'. Refute it at one input. -/
def fnProgramsWrong : ChangeSpec := { name := "fnPrograms", fn := fun _ => fun
  | [d] => { results := [.lit (.bool false)], args := [d] }
  | _ => none }
def FnProgramsWrongFalsely : Prop := fnProgramsRow.holds Try.pinned (OpenSpec.ofChange fnProgramsWrong)

/-- 'laws.FnExactIsProgram': WHATEVER THE INPUT: true; the input reads as it did. -/
def fnExactIsProgramSpec : ChangeSpec := { name := "fnExactIsProgram", fn := fun _ => fun
  | [d] => { results := [.lit (.bool true)], args := [d] }
  | _ => none }
def fnExactIsProgramRow : OpenClaim := { program := "ytiihaabhjphaeaa", sum := "592b3d5fb25b400eac4a14832a6aca2bfae8114755e7148ff970f0c4e3138f26", func := "loop.example/g00599/laws.FnExactIsProgram", spec := "fnExactIsProgram", unfollowed := true, recurses := true, apart := false }
def FnExactIsProgramSaid : Prop := fnExactIsProgramRow.holds Try.pinned (OpenSpec.ofChange fnExactIsProgramSpec)

/-- ITS FALSE NEIGHBOUR: 'it returns false'. Refute it at one input. -/
def fnExactIsProgramWrong : ChangeSpec := { name := "fnExactIsProgram", fn := fun _ => fun
  | [d] => { results := [.lit (.bool false)], args := [d] }
  | _ => none }
def FnExactIsProgramWrongFalsely : Prop := fnExactIsProgramRow.holds Try.pinned (OpenSpec.ofChange fnExactIsProgramWrong)

/-- 'laws.FnPaths': WHATEVER THE INPUT: true; the input reads as it did. -/
def fnPathsSpec : ChangeSpec := { name := "fnPaths", fn := fun _ => fun
  | [d] => { results := [.lit (.bool true)], args := [d] }
  | _ => none }
def fnPathsRow : OpenClaim := { program := "ytiihaabhjphaeaa", sum := "592b3d5fb25b400eac4a14832a6aca2bfae8114755e7148ff970f0c4e3138f26", func := "loop.example/g00599/laws.FnPaths", spec := "fnPaths", recurses := true, apart := false }
def FnPathsSaid : Prop := fnPathsRow.holds Try.pinned (OpenSpec.ofChange fnPathsSpec)

/-- ITS FALSE NEIGHBOUR: 'it returns false'. Refute it at one input. -/
def fnPathsWrong : ChangeSpec := { name := "fnPaths", fn := fun _ => fun
  | [d] => { results := [.lit (.bool false)], args := [d] }
  | _ => none }
def FnPathsWrongFalsely : Prop := fnPathsRow.holds Try.pinned (OpenSpec.ofChange fnPathsWrong)

/-- 'laws.FnTables': WHATEVER THE INPUT: true; the input reads as it did. -/
def fnTablesSpec : ChangeSpec := { name := "fnTables", fn := fun _ => fun
  | [d] => { results := [.lit (.bool true)], args := [d] }
  | _ => none }
def fnTablesRow : OpenClaim := { program := "ytiihaabhjphaeaa", sum := "592b3d5fb25b400eac4a14832a6aca2bfae8114755e7148ff970f0c4e3138f26", func := "loop.example/g00599/laws.FnTables", spec := "fnTables", recurses := true, apart := false }
def FnTablesSaid : Prop := fnTablesRow.holds Try.pinned (OpenSpec.ofChange fnTablesSpec)

/-- ITS FALSE NEIGHBOUR: 'it returns false'. Refute it at one input. -/
def fnTablesWrong : ChangeSpec := { name := "fnTables", fn := fun _ => fun
  | [d] => { results := [.lit (.bool false)], args := [d] }
  | _ => none }
def FnTablesWrongFalsely : Prop := fnTablesRow.holds Try.pinned (OpenSpec.ofChange fnTablesWrong)

/-- 'laws.FnExactBuildProgram': WHATEVER THE INPUT: true; the input reads as it did. -/
def fnExactBuildProgramSpec : ChangeSpec := { name := "fnExactBuildProgram", fn := fun _ => fun
  | [d1, d2, d3, d4, d5, d6] => { results := [.lit (.bool true)], args := [d1, d2, d3, d4, d5, d6] }
  | _ => none }
def fnExactBuildProgramRow : OpenClaim := { program := "ytiihaabhjphaeaa", sum := "592b3d5fb25b400eac4a14832a6aca2bfae8114755e7148ff970f0c4e3138f26", func := "loop.example/g00599/laws.FnExactBuildProgram", spec := "fnExactBuildProgram", recurses := true, apart := false }
def FnExactBuildProgramSaid : Prop := fnExactBuildProgramRow.holds Try.pinned (OpenSpec.ofChange fnExactBuildProgramSpec)

/-- ITS FALSE NEIGHBOUR: 'it returns false'. Refute it at one input. -/
def fnExactBuildProgramWrong : ChangeSpec := { name := "fnExactBuildProgram", fn := fun _ => fun
  | [d1, d2, d3, d4, d5, d6] => { results := [.lit (.bool false)], args := [d1, d2, d3, d4, d5, d6] }
  | _ => none }
def FnExactBuildProgramWrongFalsely : Prop := fnExactBuildProgramRow.holds Try.pinned (OpenSpec.ofChange fnExactBuildProgramWrong)

/- THE SECOND FORM. 'bulk': how many values and letters a reading holds, each counted each time it is reached (what is shared counts as often as it is met; a slice's spare places count too). A statement '..UptoSaid' is the law's where the arguments, and the package variables that the reading takes, are together of bulk at most 1048576: NARROWER than '..Said'. Prove '..Said' where nothing that the law and all that it calls make is longer than what came in: it says more and counts as full. Else prove '..UptoSaid'. A law counts once. -/
mutual
def uptoBulk {H : Type} : DataW H → Nat
  | .lit (.string bytes) => bytes.length + 1
  | .lit _ => 1
  | .nil => 1
  | .ptr d => uptoBulk d + 1
  | .slice elems spare => uptoBulkAll elems + uptoBulkAll spare + 1
  | .agg parts => uptoBulkAll parts + 1
  | .iface _ d => uptoBulk d + 1
  | .map entries => uptoBulkEntries entries + 1
  | .held _ => 1
def uptoBulkAll {H : Type} : List (DataW H) → Nat
  | [] => 0
  | d :: r => uptoBulk d + uptoBulkAll r
def uptoBulkEntries {H : Type} : List (Lit × DataW H) → Nat
  | [] => 0
  | x :: r => uptoBulkEntry x + uptoBulkEntries r
def uptoBulkEntry {H : Type} : Lit × DataW H → Nat
  | (.string bytes, d) => bytes.length + uptoBulk d + 1
  | (_, d) => uptoBulk d + 1
 end
def uptoSmall : (H : Type) → List (DataW H) → Bool := fun _ ds => decide (uptoBulkAll ds ≤ 1048576)
def OpenSpec.upto (s : _root_.Go.ChangeSpec) : _root_.Go.OpenSpec := { _root_.Go.OpenSpec.ofChange s with cond := some uptoSmall }

/-- 'laws.FnMixtures', WHERE WHAT IT READS IS OF BULK AT MOST 1048576: true; the input reads as it did. -/
def fnMixturesUptoRow : OpenClaim := { program := "ytiihaabhjphaeaa", sum := "592b3d5fb25b400eac4a14832a6aca2bfae8114755e7148ff970f0c4e3138f26", func := "loop.example/g00599/laws.FnMixtures", spec := "fnMixtures", apart := false, narrowed := true }
def FnMixturesUptoSaid : Prop := fnMixturesUptoRow.holds Try.pinned (OpenSpec.upto fnMixturesSpec)

/-- 'laws.FnNoLoops', WHERE WHAT IT READS IS OF BULK AT MOST 1048576: true; the input reads as it did. -/
def fnNoLoopsUptoRow : OpenClaim := { program := "ytiihaabhjphaeaa", sum := "592b3d5fb25b400eac4a14832a6aca2bfae8114755e7148ff970f0c4e3138f26", func := "loop.example/g00599/laws.FnNoLoops", spec := "fnNoLoops", unfollowed := true, recurses := true, apart := false, narrowed := true }
def FnNoLoopsUptoSaid : Prop := fnNoLoopsUptoRow.holds Try.pinned (OpenSpec.upto fnNoLoopsSpec)

/-- 'laws.FnMargins', WHERE WHAT IT READS IS OF BULK AT MOST 1048576: true; the input reads as it did. -/
def fnMarginsUptoRow : OpenClaim := { program := "ytiihaabhjphaeaa", sum := "592b3d5fb25b400eac4a14832a6aca2bfae8114755e7148ff970f0c4e3138f26", func := "loop.example/g00599/laws.FnMargins", spec := "fnMargins", unfollowed := true, recurses := true, apart := false, narrowed := true }
def FnMarginsUptoSaid : Prop := fnMarginsUptoRow.holds Try.pinned (OpenSpec.upto fnMarginsSpec)

/-- 'laws.FnSwitched', WHERE WHAT IT READS IS OF BULK AT MOST 1048576: true; the input reads as it did. -/
def fnSwitchedUptoRow : OpenClaim := { program := "ytiihaabhjphaeaa", sum := "592b3d5fb25b400eac4a14832a6aca2bfae8114755e7148ff970f0c4e3138f26", func := "loop.example/g00599/laws.FnSwitched", spec := "fnSwitched", unfollowed := true, recurses := true, apart := false, narrowed := true }
def FnSwitchedUptoSaid : Prop := fnSwitchedUptoRow.holds Try.pinned (OpenSpec.upto fnSwitchedSpec)

/-- 'laws.FnPrograms', WHERE WHAT IT READS IS OF BULK AT MOST 1048576: true; the input reads as it did. -/
def fnProgramsUptoRow : OpenClaim := { program := "ytiihaabhjphaeaa", sum := "592b3d5fb25b400eac4a14832a6aca2bfae8114755e7148ff970f0c4e3138f26", func := "loop.example/g00599/laws.FnPrograms", spec := "fnPrograms", unfollowed := true, recurses := true, apart := false, narrowed := true }
def FnProgramsUptoSaid : Prop := fnProgramsUptoRow.holds Try.pinned (OpenSpec.upto fnProgramsSpec)

/-- 'laws.FnExactIsProgram', WHERE WHAT IT READS IS OF BULK AT MOST 1048576: true; the input reads as it did. -/
def fnExactIsProgramUptoRow : OpenClaim := { program := "ytiihaabhjphaeaa", sum := "592b3d5fb25b400eac4a14832a6aca2bfae8114755e7148ff970f0c4e3138f26", func := "loop.example/g00599/laws.FnExactIsProgram", spec := "fnExactIsProgram", unfollowed := true, recurses := true, apart := false, narrowed := true }
def FnExactIsProgramUptoSaid : Prop := fnExactIsProgramUptoRow.holds Try.pinned (OpenSpec.upto fnExactIsProgramSpec)

/-- 'laws.FnPaths', WHERE WHAT IT READS IS OF BULK AT MOST 1048576: true; the input reads as it did. -/
def fnPathsUptoRow : OpenClaim := { program := "ytiihaabhjphaeaa", sum := "592b3d5fb25b400eac4a14832a6aca2bfae8114755e7148ff970f0c4e3138f26", func := "loop.example/g00599/laws.FnPaths", spec := "fnPaths", recurses := true, apart := false, narrowed := true }
def FnPathsUptoSaid : Prop := fnPathsUptoRow.holds Try.pinned (OpenSpec.upto fnPathsSpec)

/-- 'laws.FnTables', WHERE WHAT IT READS IS OF BULK AT MOST 1048576: true; the input reads as it did. -/
def fnTablesUptoRow : OpenClaim := { program := "ytiihaabhjphaeaa", sum := "592b3d5fb25b400eac4a14832a6aca2bfae8114755e7148ff970f0c4e3138f26", func := "loop.example/g00599/laws.FnTables", spec := "fnTables", recurses := true, apart := false, narrowed := true }
def FnTablesUptoSaid : Prop := fnTablesUptoRow.holds Try.pinned (OpenSpec.upto fnTablesSpec)

/-- 'laws.FnExactBuildProgram', WHERE WHAT IT READS IS OF BULK AT MOST 1048576: true; the input reads as it did. -/
def fnExactBuildProgramUptoRow : OpenClaim := { program := "ytiihaabhjphaeaa", sum := "592b3d5fb25b400eac4a14832a6aca2bfae8114755e7148ff970f0c4e3138f26", func := "loop.example/g00599/laws.FnExactBuildProgram", spec := "fnExactBuildProgram", recurses := true, apart := false, narrowed := true }
def FnExactBuildProgramUptoSaid : Prop := fnExactBuildProgramUptoRow.holds Try.pinned (OpenSpec.upto fnExactBuildProgramSpec)

end Rows
end Go.Proofs.Ytiihaabhjphaeaa
