/-
  No cell of these rows narrows 'for every input' (looked for: loops, veiled, ifaces, maps, wideKeys, modest, calm, conditions, laid).
  DERIVED. THE GIVEN ROWS OF THIS SEAT. 12 by the template 'for every input the law returns true; each argument reads behind the call as it read before'; 0 by the template 'total and deterministic' (their statements: YtadpbpocbfjboaaTotals.lean).
  GIVEN WITH THE SEED: the statements are not yours to turn. If you find one false, say at which input.
  Laid BY PROGRAM, IN A SANDBOX (cutbox-rows.mjs): the forced cells as the released guide's own fill.sh prints them over the translation efb1293cc1d467fd… (all of the seat's roots in one cut). By AI agents, Wed Nov 11 2026. No macro, syntax, notation, axiom, sorry.
-/
import Derived.Test.YtadpbpocbfjboaaChecked
import GoSem.Claim
import GoSem.ClaimJoined
import GoSem.ClaimMapViews
import Derived.JoinedTies
import Derived.KernelRfl
namespace Go.Proofs.Ytadpbpocbfjboaa
/- THE CELL 'sum', in the pinned program and in every row, IS THE sha256 OF THE DUMP (.gsa) THAT YtadpbpocbfjboaaProg.lean LOADS. Nothing in Lean hashes anything: it is a label: what it is worth is what the hold of that sum in a sandbox is worth. -/
noncomputable def Try.pinned : Pinned := { name := "ytadpbpocbfjboaa", sum := "efb1293cc1d467fde3f9ee4d3e044affde2f0be7a7ba8a1eb21e97b1fe6d96c2", checked := Try.checked }
namespace Rows
def none {H : Type} : Left H := { results := [], args := [] }

/-- 'laws.FnExactHasLink': WHATEVER THE INPUT: true; the input reads as it did. -/
def fnExactHasLinkSpec : ChangeSpec := { name := "fnExactHasLink", fn := fun _ => fun
  | [d1, d2, d3, d4] => { results := [.lit (.bool true)], args := [d1, d2, d3, d4] }
  | _ => none }
def fnExactHasLinkRow : OpenClaim := { program := "ytadpbpocbfjboaa", sum := "efb1293cc1d467fde3f9ee4d3e044affde2f0be7a7ba8a1eb21e97b1fe6d96c2", func := "loop.example/g00599/laws.FnExactHasLink", spec := "fnExactHasLink", unfollowed := true, recurses := true, apart := false }
def FnExactHasLinkSaid : Prop := fnExactHasLinkRow.holds Try.pinned (OpenSpec.ofChange fnExactHasLinkSpec)

/-- ITS FALSE NEIGHBOUR: 'it returns false'. Refute it at one input. -/
def fnExactHasLinkWrong : ChangeSpec := { name := "fnExactHasLink", fn := fun _ => fun
  | [d1, d2, d3, d4] => { results := [.lit (.bool false)], args := [d1, d2, d3, d4] }
  | _ => none }
def FnExactHasLinkWrongFalsely : Prop := fnExactHasLinkRow.holds Try.pinned (OpenSpec.ofChange fnExactHasLinkWrong)

/-- 'laws.FnExactIsCalm': WHATEVER THE INPUT: true; the input reads as it did. -/
def fnExactIsCalmSpec : ChangeSpec := { name := "fnExactIsCalm", fn := fun _ => fun
  | [d1, d2] => { results := [.lit (.bool true)], args := [d1, d2] }
  | _ => none }
def fnExactIsCalmRow : OpenClaim := { program := "ytadpbpocbfjboaa", sum := "efb1293cc1d467fde3f9ee4d3e044affde2f0be7a7ba8a1eb21e97b1fe6d96c2", func := "loop.example/g00599/laws.FnExactIsCalm", spec := "fnExactIsCalm", apart := false }
def FnExactIsCalmSaid : Prop := fnExactIsCalmRow.holds Try.pinned (OpenSpec.ofChange fnExactIsCalmSpec)

/-- ITS FALSE NEIGHBOUR: 'it returns false'. Refute it at one input. -/
def fnExactIsCalmWrong : ChangeSpec := { name := "fnExactIsCalm", fn := fun _ => fun
  | [d1, d2] => { results := [.lit (.bool false)], args := [d1, d2] }
  | _ => none }
def FnExactIsCalmWrongFalsely : Prop := fnExactIsCalmRow.holds Try.pinned (OpenSpec.ofChange fnExactIsCalmWrong)

/-- 'laws.FnExactIsLinked': WHATEVER THE INPUT: true; the input reads as it did. -/
def fnExactIsLinkedSpec : ChangeSpec := { name := "fnExactIsLinked", fn := fun _ => fun
  | [d1, d2, d3, d4] => { results := [.lit (.bool true)], args := [d1, d2, d3, d4] }
  | _ => none }
def fnExactIsLinkedRow : OpenClaim := { program := "ytadpbpocbfjboaa", sum := "efb1293cc1d467fde3f9ee4d3e044affde2f0be7a7ba8a1eb21e97b1fe6d96c2", func := "loop.example/g00599/laws.FnExactIsLinked", spec := "fnExactIsLinked", unfollowed := true, recurses := true, apart := false }
def FnExactIsLinkedSaid : Prop := fnExactIsLinkedRow.holds Try.pinned (OpenSpec.ofChange fnExactIsLinkedSpec)

/-- ITS FALSE NEIGHBOUR: 'it returns false'. Refute it at one input. -/
def fnExactIsLinkedWrong : ChangeSpec := { name := "fnExactIsLinked", fn := fun _ => fun
  | [d1, d2, d3, d4] => { results := [.lit (.bool false)], args := [d1, d2, d3, d4] }
  | _ => none }
def FnExactIsLinkedWrongFalsely : Prop := fnExactIsLinkedRow.holds Try.pinned (OpenSpec.ofChange fnExactIsLinkedWrong)

/-- 'laws.FnExactProgramSize': WHATEVER THE INPUT: true; the input reads as it did. -/
def fnExactProgramSizeSpec : ChangeSpec := { name := "fnExactProgramSize", fn := fun _ => fun
  | [d] => { results := [.lit (.bool true)], args := [d] }
  | _ => none }
def fnExactProgramSizeRow : OpenClaim := { program := "ytadpbpocbfjboaa", sum := "efb1293cc1d467fde3f9ee4d3e044affde2f0be7a7ba8a1eb21e97b1fe6d96c2", func := "loop.example/g00599/laws.FnExactProgramSize", spec := "fnExactProgramSize", apart := false }
def FnExactProgramSizeSaid : Prop := fnExactProgramSizeRow.holds Try.pinned (OpenSpec.ofChange fnExactProgramSizeSpec)

/-- ITS FALSE NEIGHBOUR: 'it returns false'. Refute it at one input. -/
def fnExactProgramSizeWrong : ChangeSpec := { name := "fnExactProgramSize", fn := fun _ => fun
  | [d] => { results := [.lit (.bool false)], args := [d] }
  | _ => none }
def FnExactProgramSizeWrongFalsely : Prop := fnExactProgramSizeRow.holds Try.pinned (OpenSpec.ofChange fnExactProgramSizeWrong)

/-- 'laws.FnExactPiecesIn': WHATEVER THE INPUT: true; the input reads as it did. -/
def fnExactPiecesInSpec : ChangeSpec := { name := "fnExactPiecesIn", fn := fun _ => fun
  | [d1, d2, d3] => { results := [.lit (.bool true)], args := [d1, d2, d3] }
  | _ => none }
def fnExactPiecesInRow : OpenClaim := { program := "ytadpbpocbfjboaa", sum := "efb1293cc1d467fde3f9ee4d3e044affde2f0be7a7ba8a1eb21e97b1fe6d96c2", func := "loop.example/g00599/laws.FnExactPiecesIn", spec := "fnExactPiecesIn", apart := false }
def FnExactPiecesInSaid : Prop := fnExactPiecesInRow.holds Try.pinned (OpenSpec.ofChange fnExactPiecesInSpec)

/-- ITS FALSE NEIGHBOUR: 'it returns false'. Refute it at one input. -/
def fnExactPiecesInWrong : ChangeSpec := { name := "fnExactPiecesIn", fn := fun _ => fun
  | [d1, d2, d3] => { results := [.lit (.bool false)], args := [d1, d2, d3] }
  | _ => none }
def FnExactPiecesInWrongFalsely : Prop := fnExactPiecesInRow.holds Try.pinned (OpenSpec.ofChange fnExactPiecesInWrong)

/-- 'laws.FnExactMayUse': WHATEVER THE INPUT: true; the input reads as it did. -/
def fnExactMayUseSpec : ChangeSpec := { name := "fnExactMayUse", fn := fun _ => fun
  | [d1, d2, d3, d4] => { results := [.lit (.bool true)], args := [d1, d2, d3, d4] }
  | _ => none }
def fnExactMayUseRow : OpenClaim := { program := "ytadpbpocbfjboaa", sum := "efb1293cc1d467fde3f9ee4d3e044affde2f0be7a7ba8a1eb21e97b1fe6d96c2", func := "loop.example/g00599/laws.FnExactMayUse", spec := "fnExactMayUse", unfollowed := true, recurses := true, apart := false }
def FnExactMayUseSaid : Prop := fnExactMayUseRow.holds Try.pinned (OpenSpec.ofChange fnExactMayUseSpec)

/-- ITS FALSE NEIGHBOUR: 'it returns false'. Refute it at one input. -/
def fnExactMayUseWrong : ChangeSpec := { name := "fnExactMayUse", fn := fun _ => fun
  | [d1, d2, d3, d4] => { results := [.lit (.bool false)], args := [d1, d2, d3, d4] }
  | _ => none }
def FnExactMayUseWrongFalsely : Prop := fnExactMayUseRow.holds Try.pinned (OpenSpec.ofChange fnExactMayUseWrong)

/-- 'laws.FnExactTableIn': WHATEVER THE INPUT: true; the input reads as it did. -/
def fnExactTableInSpec : ChangeSpec := { name := "fnExactTableIn", fn := fun _ => fun
  | [d1, d2, d3] => { results := [.lit (.bool true)], args := [d1, d2, d3] }
  | _ => none }
def fnExactTableInRow : OpenClaim := { program := "ytadpbpocbfjboaa", sum := "efb1293cc1d467fde3f9ee4d3e044affde2f0be7a7ba8a1eb21e97b1fe6d96c2", func := "loop.example/g00599/laws.FnExactTableIn", spec := "fnExactTableIn", apart := false }
def FnExactTableInSaid : Prop := fnExactTableInRow.holds Try.pinned (OpenSpec.ofChange fnExactTableInSpec)

/-- ITS FALSE NEIGHBOUR: 'it returns false'. Refute it at one input. -/
def fnExactTableInWrong : ChangeSpec := { name := "fnExactTableIn", fn := fun _ => fun
  | [d1, d2, d3] => { results := [.lit (.bool false)], args := [d1, d2, d3] }
  | _ => none }
def FnExactTableInWrongFalsely : Prop := fnExactTableInRow.holds Try.pinned (OpenSpec.ofChange fnExactTableInWrong)

/-- 'laws.FnExactMixOf': WHATEVER THE INPUT: true; the input reads as it did. -/
def fnExactMixOfSpec : ChangeSpec := { name := "fnExactMixOf", fn := fun _ => fun
  | [d1, d2, d3] => { results := [.lit (.bool true)], args := [d1, d2, d3] }
  | _ => none }
def fnExactMixOfRow : OpenClaim := { program := "ytadpbpocbfjboaa", sum := "efb1293cc1d467fde3f9ee4d3e044affde2f0be7a7ba8a1eb21e97b1fe6d96c2", func := "loop.example/g00599/laws.FnExactMixOf", spec := "fnExactMixOf", apart := false }
def FnExactMixOfSaid : Prop := fnExactMixOfRow.holds Try.pinned (OpenSpec.ofChange fnExactMixOfSpec)

/-- ITS FALSE NEIGHBOUR: 'it returns false'. Refute it at one input. -/
def fnExactMixOfWrong : ChangeSpec := { name := "fnExactMixOf", fn := fun _ => fun
  | [d1, d2, d3] => { results := [.lit (.bool false)], args := [d1, d2, d3] }
  | _ => none }
def FnExactMixOfWrongFalsely : Prop := fnExactMixOfRow.holds Try.pinned (OpenSpec.ofChange fnExactMixOfWrong)

/-- 'laws.FnMixtures': WHATEVER THE INPUT: true; the input reads as it did. -/
def fnMixturesSpec : ChangeSpec := { name := "fnMixtures", fn := fun _ => fun
  | [d] => { results := [.lit (.bool true)], args := [d] }
  | _ => none }
def fnMixturesRow : OpenClaim := { program := "ytadpbpocbfjboaa", sum := "efb1293cc1d467fde3f9ee4d3e044affde2f0be7a7ba8a1eb21e97b1fe6d96c2", func := "loop.example/g00599/laws.FnMixtures", spec := "fnMixtures", apart := false }
def FnMixturesSaid : Prop := fnMixturesRow.holds Try.pinned (OpenSpec.ofChange fnMixturesSpec)

/-- ITS FALSE NEIGHBOUR: 'it returns false'. Refute it at one input. -/
def fnMixturesWrong : ChangeSpec := { name := "fnMixtures", fn := fun _ => fun
  | [d] => { results := [.lit (.bool false)], args := [d] }
  | _ => none }
def FnMixturesWrongFalsely : Prop := fnMixturesRow.holds Try.pinned (OpenSpec.ofChange fnMixturesWrong)

/-- 'laws.FnExactLostToClocks': WHATEVER THE INPUT: true; the input reads as it did. -/
def fnExactLostToClocksSpec : ChangeSpec := { name := "fnExactLostToClocks", fn := fun _ => fun
  | [d1, d2, d3] => { results := [.lit (.bool true)], args := [d1, d2, d3] }
  | _ => none }
def fnExactLostToClocksRow : OpenClaim := { program := "ytadpbpocbfjboaa", sum := "efb1293cc1d467fde3f9ee4d3e044affde2f0be7a7ba8a1eb21e97b1fe6d96c2", func := "loop.example/g00599/laws.FnExactLostToClocks", spec := "fnExactLostToClocks", unfollowed := true, recurses := true, apart := false }
def FnExactLostToClocksSaid : Prop := fnExactLostToClocksRow.holds Try.pinned (OpenSpec.ofChange fnExactLostToClocksSpec)

/-- ITS FALSE NEIGHBOUR: 'it returns false'. Refute it at one input. -/
def fnExactLostToClocksWrong : ChangeSpec := { name := "fnExactLostToClocks", fn := fun _ => fun
  | [d1, d2, d3] => { results := [.lit (.bool false)], args := [d1, d2, d3] }
  | _ => none }
def FnExactLostToClocksWrongFalsely : Prop := fnExactLostToClocksRow.holds Try.pinned (OpenSpec.ofChange fnExactLostToClocksWrong)

/-- 'laws.FnExactIsSafeMix': WHATEVER THE INPUT: true; the input reads as it did. -/
def fnExactIsSafeMixSpec : ChangeSpec := { name := "fnExactIsSafeMix", fn := fun _ => fun
  | [d1, d2, d3, d4] => { results := [.lit (.bool true)], args := [d1, d2, d3, d4] }
  | _ => none }
def fnExactIsSafeMixRow : OpenClaim := { program := "ytadpbpocbfjboaa", sum := "efb1293cc1d467fde3f9ee4d3e044affde2f0be7a7ba8a1eb21e97b1fe6d96c2", func := "loop.example/g00599/laws.FnExactIsSafeMix", spec := "fnExactIsSafeMix", apart := false }
def FnExactIsSafeMixSaid : Prop := fnExactIsSafeMixRow.holds Try.pinned (OpenSpec.ofChange fnExactIsSafeMixSpec)

/-- ITS FALSE NEIGHBOUR: 'it returns false'. Refute it at one input. -/
def fnExactIsSafeMixWrong : ChangeSpec := { name := "fnExactIsSafeMix", fn := fun _ => fun
  | [d1, d2, d3, d4] => { results := [.lit (.bool false)], args := [d1, d2, d3, d4] }
  | _ => none }
def FnExactIsSafeMixWrongFalsely : Prop := fnExactIsSafeMixRow.holds Try.pinned (OpenSpec.ofChange fnExactIsSafeMixWrong)

/-- 'laws.FnExactCountUnsafe': WHATEVER THE INPUT: true; the input reads as it did. -/
def fnExactCountUnsafeSpec : ChangeSpec := { name := "fnExactCountUnsafe", fn := fun _ => fun
  | [d1, d2] => { results := [.lit (.bool true)], args := [d1, d2] }
  | _ => none }
def fnExactCountUnsafeRow : OpenClaim := { program := "ytadpbpocbfjboaa", sum := "efb1293cc1d467fde3f9ee4d3e044affde2f0be7a7ba8a1eb21e97b1fe6d96c2", func := "loop.example/g00599/laws.FnExactCountUnsafe", spec := "fnExactCountUnsafe", apart := false }
def FnExactCountUnsafeSaid : Prop := fnExactCountUnsafeRow.holds Try.pinned (OpenSpec.ofChange fnExactCountUnsafeSpec)

/-- ITS FALSE NEIGHBOUR: 'it returns false'. Refute it at one input. -/
def fnExactCountUnsafeWrong : ChangeSpec := { name := "fnExactCountUnsafe", fn := fun _ => fun
  | [d1, d2] => { results := [.lit (.bool false)], args := [d1, d2] }
  | _ => none }
def FnExactCountUnsafeWrongFalsely : Prop := fnExactCountUnsafeRow.holds Try.pinned (OpenSpec.ofChange fnExactCountUnsafeWrong)

/- THE SECOND FORM. 'bulk': how many values and letters a reading holds, each counted each time it is reached (what is shared counts as often as it is met; a slice's spare places count too). A statement '..UptoSaid' is the law's where the arguments, and the package variables that the reading takes, are together of bulk at most 1048576: NARROWER than '..Said'. Prove '..Said' where nothing that the law and all that it calls make is longer than what came in: it says more and counts as full. Else prove '..UptoSaid'. A law counts once. -/
mutual
def uptoBulk {H : Type} : DataW H → Nat
  | .lit (.string bytes) => bytes.length + 1
  | .lit _ => 1
  | .nil => 1
  | .ptr d => uptoBulk d + 1
  | .slice elems spare => uptoBulkAll elems + uptoBulkAll spare + 1
  | .agg parts => uptoBulkAll parts + 1
  | .iface _ d => uptoBulk d + 1
  | .map entries => uptoBulkEntries entries + 1
  | .held _ => 1
def uptoBulkAll {H : Type} : List (DataW H) → Nat
  | [] => 0
  | d :: r => uptoBulk d + uptoBulkAll r
def uptoBulkEntries {H : Type} : List (Lit × DataW H) → Nat
  | [] => 0
  | x :: r => uptoBulkEntry x + uptoBulkEntries r
def uptoBulkEntry {H : Type} : Lit × DataW H → Nat
  | (.string bytes, d) => bytes.length + uptoBulk d + 1
  | (_, d) => uptoBulk d + 1
 end
def uptoSmall : (H : Type) → List (DataW H) → Bool := fun _ ds => decide (uptoBulkAll ds ≤ 1048576)
def OpenSpec.upto (s : _root_.Go.ChangeSpec) : _root_.Go.OpenSpec := { _root_.Go.OpenSpec.ofChange s with cond := some uptoSmall }

/-- 'laws.FnExactHasLink', WHERE WHAT IT READS IS OF BULK AT MOST 1048576: true; the input reads as it did. -/
def fnExactHasLinkUptoRow : OpenClaim := { program := "ytadpbpocbfjboaa", sum := "efb1293cc1d467fde3f9ee4d3e044affde2f0be7a7ba8a1eb21e97b1fe6d96c2", func := "loop.example/g00599/laws.FnExactHasLink", spec := "fnExactHasLink", unfollowed := true, recurses := true, apart := false, narrowed := true }
def FnExactHasLinkUptoSaid : Prop := fnExactHasLinkUptoRow.holds Try.pinned (OpenSpec.upto fnExactHasLinkSpec)

/-- 'laws.FnExactIsCalm', WHERE WHAT IT READS IS OF BULK AT MOST 1048576: true; the input reads as it did. -/
def fnExactIsCalmUptoRow : OpenClaim := { program := "ytadpbpocbfjboaa", sum := "efb1293cc1d467fde3f9ee4d3e044affde2f0be7a7ba8a1eb21e97b1fe6d96c2", func := "loop.example/g00599/laws.FnExactIsCalm", spec := "fnExactIsCalm", apart := false, narrowed := true }
def FnExactIsCalmUptoSaid : Prop := fnExactIsCalmUptoRow.holds Try.pinned (OpenSpec.upto fnExactIsCalmSpec)

/-- 'laws.FnExactIsLinked', WHERE WHAT IT READS IS OF BULK AT MOST 1048576: true; the input reads as it did. -/
def fnExactIsLinkedUptoRow : OpenClaim := { program := "ytadpbpocbfjboaa", sum := "efb1293cc1d467fde3f9ee4d3e044affde2f0be7a7ba8a1eb21e97b1fe6d96c2", func := "loop.example/g00599/laws.FnExactIsLinked", spec := "fnExactIsLinked", unfollowed := true, recurses := true, apart := false, narrowed := true }
def FnExactIsLinkedUptoSaid : Prop := fnExactIsLinkedUptoRow.holds Try.pinned (OpenSpec.upto fnExactIsLinkedSpec)

/-- 'laws.FnExactProgramSize', WHERE WHAT IT READS IS OF BULK AT MOST 1048576: true; the input reads as it did. -/
def fnExactProgramSizeUptoRow : OpenClaim := { program := "ytadpbpocbfjboaa", sum := "efb1293cc1d467fde3f9ee4d3e044affde2f0be7a7ba8a1eb21e97b1fe6d96c2", func := "loop.example/g00599/laws.FnExactProgramSize", spec := "fnExactProgramSize", apart := false, narrowed := true }
def FnExactProgramSizeUptoSaid : Prop := fnExactProgramSizeUptoRow.holds Try.pinned (OpenSpec.upto fnExactProgramSizeSpec)

/-- 'laws.FnExactPiecesIn', WHERE WHAT IT READS IS OF BULK AT MOST 1048576: true; the input reads as it did. -/
def fnExactPiecesInUptoRow : OpenClaim := { program := "ytadpbpocbfjboaa", sum := "efb1293cc1d467fde3f9ee4d3e044affde2f0be7a7ba8a1eb21e97b1fe6d96c2", func := "loop.example/g00599/laws.FnExactPiecesIn", spec := "fnExactPiecesIn", apart := false, narrowed := true }
def FnExactPiecesInUptoSaid : Prop := fnExactPiecesInUptoRow.holds Try.pinned (OpenSpec.upto fnExactPiecesInSpec)

/-- 'laws.FnExactMayUse', WHERE WHAT IT READS IS OF BULK AT MOST 1048576: true; the input reads as it did. -/
def fnExactMayUseUptoRow : OpenClaim := { program := "ytadpbpocbfjboaa", sum := "efb1293cc1d467fde3f9ee4d3e044affde2f0be7a7ba8a1eb21e97b1fe6d96c2", func := "loop.example/g00599/laws.FnExactMayUse", spec := "fnExactMayUse", unfollowed := true, recurses := true, apart := false, narrowed := true }
def FnExactMayUseUptoSaid : Prop := fnExactMayUseUptoRow.holds Try.pinned (OpenSpec.upto fnExactMayUseSpec)

/-- 'laws.FnExactTableIn', WHERE WHAT IT READS IS OF BULK AT MOST 1048576: true; the input reads as it did. -/
def fnExactTableInUptoRow : OpenClaim := { program := "ytadpbpocbfjboaa", sum := "efb1293cc1d467fde3f9ee4d3e044affde2f0be7a7ba8a1eb21e97b1fe6d96c2", func := "loop.example/g00599/laws.FnExactTableIn", spec := "fnExactTableIn", apart := false, narrowed := true }
def FnExactTableInUptoSaid : Prop := fnExactTableInUptoRow.holds Try.pinned (OpenSpec.upto fnExactTableInSpec)

/-- 'laws.FnExactMixOf', WHERE WHAT IT READS IS OF BULK AT MOST 1048576: true; the input reads as it did. -/
def fnExactMixOfUptoRow : OpenClaim := { program := "ytadpbpocbfjboaa", sum := "efb1293cc1d467fde3f9ee4d3e044affde2f0be7a7ba8a1eb21e97b1fe6d96c2", func := "loop.example/g00599/laws.FnExactMixOf", spec := "fnExactMixOf", apart := false, narrowed := true }
def FnExactMixOfUptoSaid : Prop := fnExactMixOfUptoRow.holds Try.pinned (OpenSpec.upto fnExactMixOfSpec)

/-- 'laws.FnMixtures', WHERE WHAT IT READS IS OF BULK AT MOST 1048576: true; the input reads as it did. -/
def fnMixturesUptoRow : OpenClaim := { program := "ytadpbpocbfjboaa", sum := "efb1293cc1d467fde3f9ee4d3e044affde2f0be7a7ba8a1eb21e97b1fe6d96c2", func := "loop.example/g00599/laws.FnMixtures", spec := "fnMixtures", apart := false, narrowed := true }
def FnMixturesUptoSaid : Prop := fnMixturesUptoRow.holds Try.pinned (OpenSpec.upto fnMixturesSpec)

/-- 'laws.FnExactLostToClocks', WHERE WHAT IT READS IS OF BULK AT MOST 1048576: true; the input reads as it did. -/
def fnExactLostToClocksUptoRow : OpenClaim := { program := "ytadpbpocbfjboaa", sum := "efb1293cc1d467fde3f9ee4d3e044affde2f0be7a7ba8a1eb21e97b1fe6d96c2", func := "loop.example/g00599/laws.FnExactLostToClocks", spec := "fnExactLostToClocks", unfollowed := true, recurses := true, apart := false, narrowed := true }
def FnExactLostToClocksUptoSaid : Prop := fnExactLostToClocksUptoRow.holds Try.pinned (OpenSpec.upto fnExactLostToClocksSpec)

/-- 'laws.FnExactIsSafeMix', WHERE WHAT IT READS IS OF BULK AT MOST 1048576: true; the input reads as it did. -/
def fnExactIsSafeMixUptoRow : OpenClaim := { program := "ytadpbpocbfjboaa", sum := "efb1293cc1d467fde3f9ee4d3e044affde2f0be7a7ba8a1eb21e97b1fe6d96c2", func := "loop.example/g00599/laws.FnExactIsSafeMix", spec := "fnExactIsSafeMix", apart := false, narrowed := true }
def FnExactIsSafeMixUptoSaid : Prop := fnExactIsSafeMixUptoRow.holds Try.pinned (OpenSpec.upto fnExactIsSafeMixSpec)

/-- 'laws.FnExactCountUnsafe', WHERE WHAT IT READS IS OF BULK AT MOST 1048576: true; the input reads as it did. -/
def fnExactCountUnsafeUptoRow : OpenClaim := { program := "ytadpbpocbfjboaa", sum := "efb1293cc1d467fde3f9ee4d3e044affde2f0be7a7ba8a1eb21e97b1fe6d96c2", func := "loop.example/g00599/laws.FnExactCountUnsafe", spec := "fnExactCountUnsafe", apart := false, narrowed := true }
def FnExactCountUnsafeUptoSaid : Prop := fnExactCountUnsafeUptoRow.holds Try.pinned (OpenSpec.upto fnExactCountUnsafeSpec)

end Rows
end Go.Proofs.Ytadpbpocbfjboaa
