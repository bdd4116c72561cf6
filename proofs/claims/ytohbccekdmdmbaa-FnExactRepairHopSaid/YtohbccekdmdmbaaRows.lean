/-
  No cell of these rows narrows 'for every input' (looked for: loops, veiled, ifaces, maps, wideKeys, modest, calm, conditions, laid).
  DERIVED. THE GIVEN ROWS OF THIS SEAT. 3 by the template 'for every input the law returns true; each argument reads behind the call as it read before'; 0 by the template 'total and deterministic' (their statements: YtohbccekdmdmbaaTotals.lean).
  GIVEN WITH THE SEED: the statements are not yours to turn. If you find one false, say at which input.
  Laid BY PROGRAM, IN A SANDBOX (cutbox-rows.mjs): the forced cells as the released guide's own fill.sh prints them over the translation 424e2f6ce9562d3d… (all of the seat's roots in one cut). By AI agents, Wed Nov 11 2026. No macro, syntax, notation, axiom, sorry.
-/
import Derived.Test.YtohbccekdmdmbaaChecked
import GoSem.Claim
import GoSem.ClaimJoined
import GoSem.ClaimMapViews
import Derived.JoinedTies
import Derived.KernelRfl
namespace Go.Proofs.Ytohbccekdmdmbaa
/- THE CELL 'sum', in the pinned program and in every row, IS THE sha256 OF THE DUMP (.gsa) THAT YtohbccekdmdmbaaProg.lean LOADS. Nothing in Lean hashes anything: it is a label: what it is worth is what the hold of that sum in a sandbox is worth. -/
noncomputable def Try.pinned : Pinned := { name := "ytohbccekdmdmbaa", sum := "424e2f6ce9562d3d1970ba365c06ede9b773ea9b277ad7e5935d5b4f2b74635d", checked := Try.checked }
namespace Rows
def none {H : Type} : Left H := { results := [], args := [] }

/-- 'laws.FnExactCountAlts': WHATEVER THE INPUT: true; the input reads as it did. -/
def fnExactCountAltsSpec : ChangeSpec := { name := "fnExactCountAlts", fn := fun _ => fun
  | [d1, d2, d3] => { results := [.lit (.bool true)], args := [d1, d2, d3] }
  | _ => none }
def fnExactCountAltsRow : OpenClaim := { program := "ytohbccekdmdmbaa", sum := "424e2f6ce9562d3d1970ba365c06ede9b773ea9b277ad7e5935d5b4f2b74635d", func := "loop.example/g00599/laws.FnExactCountAlts", spec := "fnExactCountAlts", unfollowed := true, recurses := true, apart := false }
def FnExactCountAltsSaid : Prop := fnExactCountAltsRow.holds Try.pinned (OpenSpec.ofChange fnExactCountAltsSpec)

/-- ITS FALSE NEIGHBOUR: 'it returns false'. Refute it at one input. -/
def fnExactCountAltsWrong : ChangeSpec := { name := "fnExactCountAlts", fn := fun _ => fun
  | [d1, d2, d3] => { results := [.lit (.bool false)], args := [d1, d2, d3] }
  | _ => none }
def FnExactCountAltsWrongFalsely : Prop := fnExactCountAltsRow.holds Try.pinned (OpenSpec.ofChange fnExactCountAltsWrong)

/-- 'laws.FnExactAltsOf': WHATEVER THE INPUT: true; the input reads as it did. -/
def fnExactAltsOfSpec : ChangeSpec := { name := "fnExactAltsOf", fn := fun _ => fun
  | [d1, d2, d3, d4] => { results := [.lit (.bool true)], args := [d1, d2, d3, d4] }
  | _ => none }
def fnExactAltsOfRow : OpenClaim := { program := "ytohbccekdmdmbaa", sum := "424e2f6ce9562d3d1970ba365c06ede9b773ea9b277ad7e5935d5b4f2b74635d", func := "loop.example/g00599/laws.FnExactAltsOf", spec := "fnExactAltsOf", unfollowed := true, recurses := true, apart := false }
def FnExactAltsOfSaid : Prop := fnExactAltsOfRow.holds Try.pinned (OpenSpec.ofChange fnExactAltsOfSpec)

/-- ITS FALSE NEIGHBOUR: 'it returns false'. Refute it at one input. -/
def fnExactAltsOfWrong : ChangeSpec := { name := "fnExactAltsOf", fn := fun _ => fun
  | [d1, d2, d3, d4] => { results := [.lit (.bool false)], args := [d1, d2, d3, d4] }
  | _ => none }
def FnExactAltsOfWrongFalsely : Prop := fnExactAltsOfRow.holds Try.pinned (OpenSpec.ofChange fnExactAltsOfWrong)

/-- 'laws.FnExactRepairHop': WHATEVER THE INPUT: true; the input reads as it did. -/
def fnExactRepairHopSpec : ChangeSpec := { name := "fnExactRepairHop", fn := fun _ => fun
  | [d1, d2, d3, d4, d5] => { results := [.lit (.bool true)], args := [d1, d2, d3, d4, d5] }
  | _ => none }
def fnExactRepairHopRow : OpenClaim := { program := "ytohbccekdmdmbaa", sum := "424e2f6ce9562d3d1970ba365c06ede9b773ea9b277ad7e5935d5b4f2b74635d", func := "loop.example/g00599/laws.FnExactRepairHop", spec := "fnExactRepairHop", unfollowed := true, recurses := true, apart := false }
def FnExactRepairHopSaid : Prop := fnExactRepairHopRow.holds Try.pinned (OpenSpec.ofChange fnExactRepairHopSpec)

/-- ITS FALSE NEIGHBOUR: 'it returns false'. Refute it at one input. -/
def fnExactRepairHopWrong : ChangeSpec := { name := "fnExactRepairHop", fn := fun _ => fun
  | [d1, d2, d3, d4, d5] => { results := [.lit (.bool false)], args := [d1, d2, d3, d4, d5] }
  | _ => none }
def FnExactRepairHopWrongFalsely : Prop := fnExactRepairHopRow.holds Try.pinned (OpenSpec.ofChange fnExactRepairHopWrong)

/- THE SECOND FORM. 'bulk': how many values and letters a reading holds, each counted each time it is reached (what is shared counts as often as it is met; a slice's spare places count too). A statement '..UptoSaid' is the law's where the arguments, and the package variables that the reading takes, are together of bulk at most 1048576: NARROWER than '..Said'. Prove '..Said' where nothing that the law and all that it calls make is longer than what came in: it says more and counts as full. Else prove '..UptoSaid'. A law counts once. -/
mutual
def uptoBulk {H : Type} : DataW H → Nat
  | .lit (.string bytes) => bytes.length + 1
  | .lit _ => 1
  | .nil => 1
  | .ptr d => uptoBulk d + 1
  | .slice elems spare => uptoBulkAll elems + uptoBulkAll spare + 1
  | .agg parts => uptoBulkAll parts + 1
  | .iface _ d => uptoBulk d + 1
  | .map entries => uptoBulkEntries entries + 1
  | .held _ => 1
def uptoBulkAll {H : Type} : List (DataW H) → Nat
  | [] => 0
  | d :: r => uptoBulk d + uptoBulkAll r
def uptoBulkEntries {H : Type} : List (Lit × DataW H) → Nat
  | [] => 0
  | x :: r => uptoBulkEntry x + uptoBulkEntries r
def uptoBulkEntry {H : Type} : Lit × DataW H → Nat
  | (.string bytes, d) => bytes.length + uptoBulk d + 1
  | (_, d) => uptoBulk d + 1
 end
def uptoSmall : (H : Type) → List (DataW H) → Bool := fun _ ds => decide (uptoBulkAll ds ≤ 1048576)
def OpenSpec.upto (s : _root_.Go.ChangeSpec) : _root_.Go.OpenSpec := { _root_.Go.OpenSpec.ofChange s with cond := some uptoSmall }

/-- 'laws.FnExactCountAlts', WHERE WHAT IT READS IS OF BULK AT MOST 1048576: true; the input reads as it did. -/
def fnExactCountAltsUptoRow : OpenClaim := { program := "ytohbccekdmdmbaa", sum := "424e2f6ce9562d3d1970ba365c06ede9b773ea9b277ad7e5935d5b4f2b74635d", func := "loop.example/g00599/laws.FnExactCountAlts", spec := "fnExactCountAlts", unfollowed := true, recurses := true, apart := false, narrowed := true }
def FnExactCountAltsUptoSaid : Prop := fnExactCountAltsUptoRow.holds Try.pinned (OpenSpec.upto fnExactCountAltsSpec)

/-- 'laws.FnExactAltsOf', WHERE WHAT IT READS IS OF BULK AT MOST 1048576: true; the input reads as it did. -/
def fnExactAltsOfUptoRow : OpenClaim := { program := "ytohbccekdmdmbaa", sum := "424e2f6ce9562d3d1970ba365c06ede9b773ea9b277ad7e5935d5b4f2b74635d", func := "loop.example/g00599/laws.FnExactAltsOf", spec := "fnExactAltsOf", unfollowed := true, recurses := true, apart := false, narrowed := true }
def FnExactAltsOfUptoSaid : Prop := fnExactAltsOfUptoRow.holds Try.pinned (OpenSpec.upto fnExactAltsOfSpec)

/-- 'laws.FnExactRepairHop', WHERE WHAT IT READS IS OF BULK AT MOST 1048576: true; the input reads as it did. -/
def fnExactRepairHopUptoRow : OpenClaim := { program := "ytohbccekdmdmbaa", sum := "424e2f6ce9562d3d1970ba365c06ede9b773ea9b277ad7e5935d5b4f2b74635d", func := "loop.example/g00599/laws.FnExactRepairHop", spec := "fnExactRepairHop", unfollowed := true, recurses := true, apart := false, narrowed := true }
def FnExactRepairHopUptoSaid : Prop := fnExactRepairHopUptoRow.holds Try.pinned (OpenSpec.upto fnExactRepairHopSpec)

end Rows
end Go.Proofs.Ytohbccekdmdmbaa
