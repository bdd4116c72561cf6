/-
  No cell of these rows narrows 'for every input' (looked for: loops, veiled, ifaces, maps, wideKeys, modest, calm, conditions, laid).
  DERIVED. THE GIVEN ROWS OF THIS SEAT. 11 by the template 'for every input the law returns true; each argument reads behind the call as it read before'; 0 by the template 'total and deterministic' (their statements: YtlakjlolahjphaaTotals.lean).
  GIVEN WITH THE SEED: the statements are not yours to turn. If you find one false, say at which input.
  Laid BY PROGRAM, IN A SANDBOX (cutbox-rows.mjs): the forced cells as the released guide's own fill.sh prints them over the translation 06fff6874965ba34… (all of the seat's roots in one cut). By AI agents, Wed Nov 11 2026. No macro, syntax, notation, axiom, sorry.
-/
import Derived.Test.YtlakjlolahjphaaChecked
import GoSem.Claim
import GoSem.ClaimJoined
import GoSem.ClaimMapViews
import Derived.JoinedTies
import Derived.KernelRfl
namespace Go.Proofs.Ytlakjlolahjphaa
/- THE CELL 'sum', in the pinned program and in every row, IS THE sha256 OF THE DUMP (.gsa) THAT YtlakjlolahjphaaProg.lean LOADS. Nothing in Lean hashes anything: it is a label: what it is worth is what the hold of that sum in a sandbox is worth. -/
noncomputable def Try.pinned : Pinned := { name := "ytlakjlolahjphaa", sum := "06fff6874965ba3414b1416dc900a16b1c55774db750e8c9f4f367cdb3d09712", checked := Try.checked }
namespace Rows
def none {H : Type} : Left H := { results := [], args := [] }

/-- 'laws.FnExactHopAt': WHATEVER THE INPUT: true; the input reads as it did. -/
def fnExactHopAtSpec : ChangeSpec := { name := "fnExactHopAt", fn := fun _ => fun
  | [d1, d2, d3, d4] => { results := [.lit (.bool true)], args := [d1, d2, d3, d4] }
  | _ => none }
def fnExactHopAtRow : OpenClaim := { program := "ytlakjlolahjphaa", sum := "06fff6874965ba3414b1416dc900a16b1c55774db750e8c9f4f367cdb3d09712", func := "loop.example/g00599/laws.FnExactHopAt", spec := "fnExactHopAt", unfollowed := true, recurses := true, apart := false }
def FnExactHopAtSaid : Prop := fnExactHopAtRow.holds Try.pinned (OpenSpec.ofChange fnExactHopAtSpec)

/-- ITS FALSE NEIGHBOUR: 'it returns false'. Refute it at one input. -/
def fnExactHopAtWrong : ChangeSpec := { name := "fnExactHopAt", fn := fun _ => fun
  | [d1, d2, d3, d4] => { results := [.lit (.bool false)], args := [d1, d2, d3, d4] }
  | _ => none }
def FnExactHopAtWrongFalsely : Prop := fnExactHopAtRow.holds Try.pinned (OpenSpec.ofChange fnExactHopAtWrong)

/-- 'laws.FnExactUseSpans': WHATEVER THE INPUT: true; the input reads as it did. -/
def fnExactUseSpansSpec : ChangeSpec := { name := "fnExactUseSpans", fn := fun _ => fun
  | [d1, d2, d3] => { results := [.lit (.bool true)], args := [d1, d2, d3] }
  | _ => none }
def fnExactUseSpansRow : OpenClaim := { program := "ytlakjlolahjphaa", sum := "06fff6874965ba3414b1416dc900a16b1c55774db750e8c9f4f367cdb3d09712", func := "loop.example/g00599/laws.FnExactUseSpans", spec := "fnExactUseSpans", unfollowed := true, recurses := true, apart := false }
def FnExactUseSpansSaid : Prop := fnExactUseSpansRow.holds Try.pinned (OpenSpec.ofChange fnExactUseSpansSpec)

/-- ITS FALSE NEIGHBOUR: 'it returns false'. Refute it at one input. -/
def fnExactUseSpansWrong : ChangeSpec := { name := "fnExactUseSpans", fn := fun _ => fun
  | [d1, d2, d3] => { results := [.lit (.bool false)], args := [d1, d2, d3] }
  | _ => none }
def FnExactUseSpansWrongFalsely : Prop := fnExactUseSpansRow.holds Try.pinned (OpenSpec.ofChange fnExactUseSpansWrong)

/-- 'laws.FnExactIsHolding': WHATEVER THE INPUT: true; the input reads as it did. -/
def fnExactIsHoldingSpec : ChangeSpec := { name := "fnExactIsHolding", fn := fun _ => fun
  | [d1, d2, d3, d4] => { results := [.lit (.bool true)], args := [d1, d2, d3, d4] }
  | _ => none }
def fnExactIsHoldingRow : OpenClaim := { program := "ytlakjlolahjphaa", sum := "06fff6874965ba3414b1416dc900a16b1c55774db750e8c9f4f367cdb3d09712", func := "loop.example/g00599/laws.FnExactIsHolding", spec := "fnExactIsHolding", unfollowed := true, recurses := true, apart := false }
def FnExactIsHoldingSaid : Prop := fnExactIsHoldingRow.holds Try.pinned (OpenSpec.ofChange fnExactIsHoldingSpec)

/-- ITS FALSE NEIGHBOUR: 'it returns false'. Refute it at one input. -/
def fnExactIsHoldingWrong : ChangeSpec := { name := "fnExactIsHolding", fn := fun _ => fun
  | [d1, d2, d3, d4] => { results := [.lit (.bool false)], args := [d1, d2, d3, d4] }
  | _ => none }
def FnExactIsHoldingWrongFalsely : Prop := fnExactIsHoldingRow.holds Try.pinned (OpenSpec.ofChange fnExactIsHoldingWrong)

/-- 'laws.FnExactHeldAt': WHATEVER THE INPUT: true; the input reads as it did. -/
def fnExactHeldAtSpec : ChangeSpec := { name := "fnExactHeldAt", fn := fun _ => fun
  | [d1, d2, d3] => { results := [.lit (.bool true)], args := [d1, d2, d3] }
  | _ => none }
def fnExactHeldAtRow : OpenClaim := { program := "ytlakjlolahjphaa", sum := "06fff6874965ba3414b1416dc900a16b1c55774db750e8c9f4f367cdb3d09712", func := "loop.example/g00599/laws.FnExactHeldAt", spec := "fnExactHeldAt", unfollowed := true, recurses := true, apart := false }
def FnExactHeldAtSaid : Prop := fnExactHeldAtRow.holds Try.pinned (OpenSpec.ofChange fnExactHeldAtSpec)

/-- ITS FALSE NEIGHBOUR: 'it returns false'. Refute it at one input. -/
def fnExactHeldAtWrong : ChangeSpec := { name := "fnExactHeldAt", fn := fun _ => fun
  | [d1, d2, d3] => { results := [.lit (.bool false)], args := [d1, d2, d3] }
  | _ => none }
def FnExactHeldAtWrongFalsely : Prop := fnExactHeldAtRow.holds Try.pinned (OpenSpec.ofChange fnExactHeldAtWrong)

/-- 'laws.FnExactNextsAt': WHATEVER THE INPUT: true; the input reads as it did. -/
def fnExactNextsAtSpec : ChangeSpec := { name := "fnExactNextsAt", fn := fun _ => fun
  | [d1, d2, d3, d4] => { results := [.lit (.bool true)], args := [d1, d2, d3, d4] }
  | _ => none }
def fnExactNextsAtRow : OpenClaim := { program := "ytlakjlolahjphaa", sum := "06fff6874965ba3414b1416dc900a16b1c55774db750e8c9f4f367cdb3d09712", func := "loop.example/g00599/laws.FnExactNextsAt", spec := "fnExactNextsAt", unfollowed := true, recurses := true, apart := false }
def FnExactNextsAtSaid : Prop := fnExactNextsAtRow.holds Try.pinned (OpenSpec.ofChange fnExactNextsAtSpec)

/-- ITS FALSE NEIGHBOUR: 'it returns false'. Refute it at one input. -/
def fnExactNextsAtWrong : ChangeSpec := { name := "fnExactNextsAt", fn := fun _ => fun
  | [d1, d2, d3, d4] => { results := [.lit (.bool false)], args := [d1, d2, d3, d4] }
  | _ => none }
def FnExactNextsAtWrongFalsely : Prop := fnExactNextsAtRow.holds Try.pinned (OpenSpec.ofChange fnExactNextsAtWrong)

/-- 'laws.FnNoLoops': WHATEVER THE INPUT: true; the input reads as it did. -/
def fnNoLoopsSpec : ChangeSpec := { name := "fnNoLoops", fn := fun _ => fun
  | [d] => { results := [.lit (.bool true)], args := [d] }
  | _ => none }
def fnNoLoopsRow : OpenClaim := { program := "ytlakjlolahjphaa", sum := "06fff6874965ba3414b1416dc900a16b1c55774db750e8c9f4f367cdb3d09712", func := "loop.example/g00599/laws.FnNoLoops", spec := "fnNoLoops", unfollowed := true, recurses := true, apart := false }
def FnNoLoopsSaid : Prop := fnNoLoopsRow.holds Try.pinned (OpenSpec.ofChange fnNoLoopsSpec)

/-- ITS FALSE NEIGHBOUR: 'it returns false'. Refute it at one input. -/
def fnNoLoopsWrong : ChangeSpec := { name := "fnNoLoops", fn := fun _ => fun
  | [d] => { results := [.lit (.bool false)], args := [d] }
  | _ => none }
def FnNoLoopsWrongFalsely : Prop := fnNoLoopsRow.holds Try.pinned (OpenSpec.ofChange fnNoLoopsWrong)

/-- 'laws.FnMargins': WHATEVER THE INPUT: true; the input reads as it did. -/
def fnMarginsSpec : ChangeSpec := { name := "fnMargins", fn := fun _ => fun
  | [d] => { results := [.lit (.bool true)], args := [d] }
  | _ => none }
def fnMarginsRow : OpenClaim := { program := "ytlakjlolahjphaa", sum := "06fff6874965ba3414b1416dc900a16b1c55774db750e8c9f4f367cdb3d09712", func := "loop.example/g00599/laws.FnMargins", spec := "fnMargins", unfollowed := true, recurses := true, apart := false }
def FnMarginsSaid : Prop := fnMarginsRow.holds Try.pinned (OpenSpec.ofChange fnMarginsSpec)

/-- ITS FALSE NEIGHBOUR: 'it returns false'. Refute it at one input. -/
def fnMarginsWrong : ChangeSpec := { name := "fnMargins", fn := fun _ => fun
  | [d] => { results := [.lit (.bool false)], args := [d] }
  | _ => none }
def FnMarginsWrongFalsely : Prop := fnMarginsRow.holds Try.pinned (OpenSpec.ofChange fnMarginsWrong)

/-- 'laws.FnSwitched': WHATEVER THE INPUT: true; the input reads as it did. -/
def fnSwitchedSpec : ChangeSpec := { name := "fnSwitched", fn := fun _ => fun
  | [d] => { results := [.lit (.bool true)], args := [d] }
  | _ => none }
def fnSwitchedRow : OpenClaim := { program := "ytlakjlolahjphaa", sum := "06fff6874965ba3414b1416dc900a16b1c55774db750e8c9f4f367cdb3d09712", func := "loop.example/g00599/laws.FnSwitched", spec := "fnSwitched", unfollowed := true, recurses := true, apart := false }
def FnSwitchedSaid : Prop := fnSwitchedRow.holds Try.pinned (OpenSpec.ofChange fnSwitchedSpec)

/-- ITS FALSE NEIGHBOUR: 'it returns false'. Refute it at one input. -/
def fnSwitchedWrong : ChangeSpec := { name := "fnSwitched", fn := fun _ => fun
  | [d] => { results := [.lit (.bool false)], args := [d] }
  | _ => none }
def FnSwitchedWrongFalsely : Prop := fnSwitchedRow.holds Try.pinned (OpenSpec.ofChange fnSwitchedWrong)

/-- 'laws.FnExactRepairHop': WHATEVER THE INPUT: true; the input reads as it did. -/
def fnExactRepairHopSpec : ChangeSpec := { name := "fnExactRepairHop", fn := fun _ => fun
  | [d1, d2, d3, d4, d5] => { results := [.lit (.bool true)], args := [d1, d2, d3, d4, d5] }
  | _ => none }
def fnExactRepairHopRow : OpenClaim := { program := "ytlakjlolahjphaa", sum := "06fff6874965ba3414b1416dc900a16b1c55774db750e8c9f4f367cdb3d09712", func := "loop.example/g00599/laws.FnExactRepairHop", spec := "fnExactRepairHop", unfollowed := true, recurses := true, apart := false }
def FnExactRepairHopSaid : Prop := fnExactRepairHopRow.holds Try.pinned (OpenSpec.ofChange fnExactRepairHopSpec)

/-- ITS FALSE NEIGHBOUR: 'it returns false'. Refute it at one input. -/
def fnExactRepairHopWrong : ChangeSpec := { name := "fnExactRepairHop", fn := fun _ => fun
  | [d1, d2, d3, d4, d5] => { results := [.lit (.bool false)], args := [d1, d2, d3, d4, d5] }
  | _ => none }
def FnExactRepairHopWrongFalsely : Prop := fnExactRepairHopRow.holds Try.pinned (OpenSpec.ofChange fnExactRepairHopWrong)

/-- 'laws.FnExactIsProgram': WHATEVER THE INPUT: true; the input reads as it did. -/
def fnExactIsProgramSpec : ChangeSpec := { name := "fnExactIsProgram", fn := fun _ => fun
  | [d] => { results := [.lit (.bool true)], args := [d] }
  | _ => none }
def fnExactIsProgramRow : OpenClaim := { program := "ytlakjlolahjphaa", sum := "06fff6874965ba3414b1416dc900a16b1c55774db750e8c9f4f367cdb3d09712", func := "loop.example/g00599/laws.FnExactIsProgram", spec := "fnExactIsProgram", unfollowed := true, recurses := true, apart := false }
def FnExactIsProgramSaid : Prop := fnExactIsProgramRow.holds Try.pinned (OpenSpec.ofChange fnExactIsProgramSpec)

/-- ITS FALSE NEIGHBOUR: 'it returns false'. Refute it at one input. -/
def fnExactIsProgramWrong : ChangeSpec := { name := "fnExactIsProgram", fn := fun _ => fun
  | [d] => { results := [.lit (.bool false)], args := [d] }
  | _ => none }
def FnExactIsProgramWrongFalsely : Prop := fnExactIsProgramRow.holds Try.pinned (OpenSpec.ofChange fnExactIsProgramWrong)

/-- 'laws.FnPrograms': WHATEVER THE INPUT: true; the input reads as it did. -/
def fnProgramsSpec : ChangeSpec := { name := "fnPrograms", fn := fun _ => fun
  | [d] => { results := [.lit (.bool true)], args := [d] }
  | _ => none }
def fnProgramsRow : OpenClaim := { program := "ytlakjlolahjphaa", sum := "06fff6874965ba3414b1416dc900a16b1c55774db750e8c9f4f367cdb3d09712", func := "loop.example/g00599/laws.FnPrograms", spec := "fnPrograms", unfollowed := true, recurses := true, apart := false }
def FnProgramsSaid : Prop := fnProgramsRow.holds Try.pinned (OpenSpec.ofChange fnProgramsSpec)

/-- ITS FALSE NEIGHBOUR: 'it returns false'. Refute it at one input. -/
def fnProgramsWrong : ChangeSpec := { name := "fnPrograms", fn := fun _ => fun
  | [d] => { results := [.lit (.bool false)], args := [d] }
  | _ => none }
def FnProgramsWrongFalsely : Prop := fnProgramsRow.holds Try.pinned (OpenSpec.ofChange fnProgramsWrong)

/- THE SECOND FORM. 'bulk': how many values and letters a reading holds, each counted each time it is reached (what is shared counts as often as it is met; a slice's spare places count too). A statement '..UptoSaid' is the law's where the arguments, and the package variables that the reading takes, are together of bulk at most 1048576: NARROWER than '..Said'. Prove '..Said' where nothing that the law and all that it calls make is longer than what came in: it says more and counts as full. Else prove '..UptoSaid'. A law counts once. -/
mutual
def uptoBulk {H : Type} : DataW H → Nat
  | .lit (.string bytes) => bytes.length + 1
  | .lit _ => 1
  | .nil => 1
  | .ptr d => uptoBulk d + 1
  | .slice elems spare => uptoBulkAll elems + uptoBulkAll spare + 1
  | .agg parts => uptoBulkAll parts + 1
  | .iface _ d => uptoBulk d + 1
  | .map entries => uptoBulkEntries entries + 1
  | .held _ => 1
def uptoBulkAll {H : Type} : List (DataW H) → Nat
  | [] => 0
  | d :: r => uptoBulk d + uptoBulkAll r
def uptoBulkEntries {H : Type} : List (Lit × DataW H) → Nat
  | [] => 0
  | x :: r => uptoBulkEntry x + uptoBulkEntries r
def uptoBulkEntry {H : Type} : Lit × DataW H → Nat
  | (.string bytes, d) => bytes.length + uptoBulk d + 1
  | (_, d) => uptoBulk d + 1
 end
def uptoSmall : (H : Type) → List (DataW H) → Bool := fun _ ds => decide (uptoBulkAll ds ≤ 1048576)
def OpenSpec.upto (s : _root_.Go.ChangeSpec) : _root_.Go.OpenSpec := { _root_.Go.OpenSpec.ofChange s with cond := some uptoSmall }

/-- 'laws.FnExactHopAt', WHERE WHAT IT READS IS OF BULK AT MOST 1048576: true; the input reads as it did. -/
def fnExactHopAtUptoRow : OpenClaim := { program := "ytlakjlolahjphaa", sum := "06fff6874965ba3414b1416dc900a16b1c55774db750e8c9f4f367cdb3d09712", func := "loop.example/g00599/laws.FnExactHopAt", spec := "fnExactHopAt", unfollowed := true, recurses := true, apart := false, narrowed := true }
def FnExactHopAtUptoSaid : Prop := fnExactHopAtUptoRow.holds Try.pinned (OpenSpec.upto fnExactHopAtSpec)

/-- 'laws.FnExactUseSpans', WHERE WHAT IT READS IS OF BULK AT MOST 1048576: true; the input reads as it did. -/
def fnExactUseSpansUptoRow : OpenClaim := { program := "ytlakjlolahjphaa", sum := "06fff6874965ba3414b1416dc900a16b1c55774db750e8c9f4f367cdb3d09712", func := "loop.example/g00599/laws.FnExactUseSpans", spec := "fnExactUseSpans", unfollowed := true, recurses := true, apart := false, narrowed := true }
def FnExactUseSpansUptoSaid : Prop := fnExactUseSpansUptoRow.holds Try.pinned (OpenSpec.upto fnExactUseSpansSpec)

/-- 'laws.FnExactIsHolding', WHERE WHAT IT READS IS OF BULK AT MOST 1048576: true; the input reads as it did. -/
def fnExactIsHoldingUptoRow : OpenClaim := { program := "ytlakjlolahjphaa", sum := "06fff6874965ba3414b1416dc900a16b1c55774db750e8c9f4f367cdb3d09712", func := "loop.example/g00599/laws.FnExactIsHolding", spec := "fnExactIsHolding", unfollowed := true, recurses := true, apart := false, narrowed := true }
def FnExactIsHoldingUptoSaid : Prop := fnExactIsHoldingUptoRow.holds Try.pinned (OpenSpec.upto fnExactIsHoldingSpec)

/-- 'laws.FnExactHeldAt', WHERE WHAT IT READS IS OF BULK AT MOST 1048576: true; the input reads as it did. -/
def fnExactHeldAtUptoRow : OpenClaim := { program := "ytlakjlolahjphaa", sum := "06fff6874965ba3414b1416dc900a16b1c55774db750e8c9f4f367cdb3d09712", func := "loop.example/g00599/laws.FnExactHeldAt", spec := "fnExactHeldAt", unfollowed := true, recurses := true, apart := false, narrowed := true }
def FnExactHeldAtUptoSaid : Prop := fnExactHeldAtUptoRow.holds Try.pinned (OpenSpec.upto fnExactHeldAtSpec)

/-- 'laws.FnExactNextsAt', WHERE WHAT IT READS IS OF BULK AT MOST 1048576: true; the input reads as it did. -/
def fnExactNextsAtUptoRow : OpenClaim := { program := "ytlakjlolahjphaa", sum := "06fff6874965ba3414b1416dc900a16b1c55774db750e8c9f4f367cdb3d09712", func := "loop.example/g00599/laws.FnExactNextsAt", spec := "fnExactNextsAt", unfollowed := true, recurses := true, apart := false, narrowed := true }
def FnExactNextsAtUptoSaid : Prop := fnExactNextsAtUptoRow.holds Try.pinned (OpenSpec.upto fnExactNextsAtSpec)

/-- 'laws.FnNoLoops', WHERE WHAT IT READS IS OF BULK AT MOST 1048576: true; the input reads as it did. -/
def fnNoLoopsUptoRow : OpenClaim := { program := "ytlakjlolahjphaa", sum := "06fff6874965ba3414b1416dc900a16b1c55774db750e8c9f4f367cdb3d09712", func := "loop.example/g00599/laws.FnNoLoops", spec := "fnNoLoops", unfollowed := true, recurses := true, apart := false, narrowed := true }
def FnNoLoopsUptoSaid : Prop := fnNoLoopsUptoRow.holds Try.pinned (OpenSpec.upto fnNoLoopsSpec)

/-- 'laws.FnMargins', WHERE WHAT IT READS IS OF BULK AT MOST 1048576: true; the input reads as it did. -/
def fnMarginsUptoRow : OpenClaim := { program := "ytlakjlolahjphaa", sum := "06fff6874965ba3414b1416dc900a16b1c55774db750e8c9f4f367cdb3d09712", func := "loop.example/g00599/laws.FnMargins", spec := "fnMargins", unfollowed := true, recurses := true, apart := false, narrowed := true }
def FnMarginsUptoSaid : Prop := fnMarginsUptoRow.holds Try.pinned (OpenSpec.upto fnMarginsSpec)

/-- 'laws.FnSwitched', WHERE WHAT IT READS IS OF BULK AT MOST 1048576: true; the input reads as it did. -/
def fnSwitchedUptoRow : OpenClaim := { program := "ytlakjlolahjphaa", sum := "06fff6874965ba3414b1416dc900a16b1c55774db750e8c9f4f367cdb3d09712", func := "loop.example/g00599/laws.FnSwitched", spec := "fnSwitched", unfollowed := true, recurses := true, apart := false, narrowed := true }
def FnSwitchedUptoSaid : Prop := fnSwitchedUptoRow.holds Try.pinned (OpenSpec.upto fnSwitchedSpec)

/-- 'laws.FnExactRepairHop', WHERE WHAT IT READS IS OF BULK AT MOST 1048576: true; the input reads as it did. -/
def fnExactRepairHopUptoRow : OpenClaim := { program := "ytlakjlolahjphaa", sum := "06fff6874965ba3414b1416dc900a16b1c55774db750e8c9f4f367cdb3d09712", func := "loop.example/g00599/laws.FnExactRepairHop", spec := "fnExactRepairHop", unfollowed := true, recurses := true, apart := false, narrowed := true }
def FnExactRepairHopUptoSaid : Prop := fnExactRepairHopUptoRow.holds Try.pinned (OpenSpec.upto fnExactRepairHopSpec)

/-- 'laws.FnExactIsProgram', WHERE WHAT IT READS IS OF BULK AT MOST 1048576: true; the input reads as it did. -/
def fnExactIsProgramUptoRow : OpenClaim := { program := "ytlakjlolahjphaa", sum := "06fff6874965ba3414b1416dc900a16b1c55774db750e8c9f4f367cdb3d09712", func := "loop.example/g00599/laws.FnExactIsProgram", spec := "fnExactIsProgram", unfollowed := true, recurses := true, apart := false, narrowed := true }
def FnExactIsProgramUptoSaid : Prop := fnExactIsProgramUptoRow.holds Try.pinned (OpenSpec.upto fnExactIsProgramSpec)

/-- 'laws.FnPrograms', WHERE WHAT IT READS IS OF BULK AT MOST 1048576: true; the input reads as it did. -/
def fnProgramsUptoRow : OpenClaim := { program := "ytlakjlolahjphaa", sum := "06fff6874965ba3414b1416dc900a16b1c55774db750e8c9f4f367cdb3d09712", func := "loop.example/g00599/laws.FnPrograms", spec := "fnPrograms", unfollowed := true, recurses := true, apart := false, narrowed := true }
def FnProgramsUptoSaid : Prop := fnProgramsUptoRow.holds Try.pinned (OpenSpec.upto fnProgramsSpec)

end Rows
end Go.Proofs.Ytlakjlolahjphaa
