/-
  No cell of these rows narrows 'for every input' (looked for: loops, veiled, ifaces, maps, wideKeys, modest, calm, conditions, laid).
  DERIVED. THE GIVEN ROWS OF THIS SEAT. 12 by the template 'for every input the law returns true; each argument reads behind the call as it read before'; 0 by the template 'total and deterministic' (their statements: YtjeobpoonfhjdaaTotals.lean).
  GIVEN WITH THE SEED: the statements are not yours to turn. If you find one false, say at which input.
  Laid BY PROGRAM, IN A SANDBOX (cutbox-rows.mjs): the forced cells as the released guide's own fill.sh prints them over the translation bd8fccdfe1ab2769… (all of the seat's roots in one cut). By AI agents, Wed Nov 11 2026. No macro, syntax, notation, axiom, sorry.
-/
import Derived.Test.YtjeobpoonfhjdaaChecked
import GoSem.Claim
import GoSem.ClaimJoined
import GoSem.ClaimMapViews
import Derived.JoinedTies
import Derived.KernelRfl
namespace Go.Proofs.Ytjeobpoonfhjdaa
/- THE CELL 'sum', in the pinned program and in every row, IS THE sha256 OF THE DUMP (.gsa) THAT YtjeobpoonfhjdaaProg.lean LOADS. Nothing in Lean hashes anything: it is a label: what it is worth is what the hold of that sum in a sandbox is worth. -/
noncomputable def Try.pinned : Pinned := { name := "ytjeobpoonfhjdaa", sum := "bd8fccdfe1ab2769a222e3e030d738b111ff6d2dbb1db08b228c4af80b0d880d", checked := Try.checked }
namespace Rows
def none {H : Type} : Left H := { results := [], args := [] }

/-- 'laws.FnExactIsBattery': WHATEVER THE INPUT: true; the input reads as it did. -/
def fnExactIsBatterySpec : ChangeSpec := { name := "fnExactIsBattery", fn := fun _ => fun
  | [d] => { results := [.lit (.bool true)], args := [d] }
  | _ => none }
def fnExactIsBatteryRow : OpenClaim := { program := "ytjeobpoonfhjdaa", sum := "bd8fccdfe1ab2769a222e3e030d738b111ff6d2dbb1db08b228c4af80b0d880d", func := "loop.example/g00599/laws.FnExactIsBattery", spec := "fnExactIsBattery", apart := false }
def FnExactIsBatterySaid : Prop := fnExactIsBatteryRow.holds Try.pinned (OpenSpec.ofChange fnExactIsBatterySpec)

/-- ITS FALSE NEIGHBOUR: 'it returns false'. Refute it at one input. -/
def fnExactIsBatteryWrong : ChangeSpec := { name := "fnExactIsBattery", fn := fun _ => fun
  | [d] => { results := [.lit (.bool false)], args := [d] }
  | _ => none }
def FnExactIsBatteryWrongFalsely : Prop := fnExactIsBatteryRow.holds Try.pinned (OpenSpec.ofChange fnExactIsBatteryWrong)

/-- 'laws.FnExactIsPacket': WHATEVER THE INPUT: true; the input reads as it did. -/
def fnExactIsPacketSpec : ChangeSpec := { name := "fnExactIsPacket", fn := fun _ => fun
  | [d1, d2] => { results := [.lit (.bool true)], args := [d1, d2] }
  | _ => none }
def fnExactIsPacketRow : OpenClaim := { program := "ytjeobpoonfhjdaa", sum := "bd8fccdfe1ab2769a222e3e030d738b111ff6d2dbb1db08b228c4af80b0d880d", func := "loop.example/g00599/laws.FnExactIsPacket", spec := "fnExactIsPacket", apart := false }
def FnExactIsPacketSaid : Prop := fnExactIsPacketRow.holds Try.pinned (OpenSpec.ofChange fnExactIsPacketSpec)

/-- ITS FALSE NEIGHBOUR: 'it returns false'. Refute it at one input. -/
def fnExactIsPacketWrong : ChangeSpec := { name := "fnExactIsPacket", fn := fun _ => fun
  | [d1, d2] => { results := [.lit (.bool false)], args := [d1, d2] }
  | _ => none }
def FnExactIsPacketWrongFalsely : Prop := fnExactIsPacketRow.holds Try.pinned (OpenSpec.ofChange fnExactIsPacketWrong)

/-- 'laws.FnExactMaySend': WHATEVER THE INPUT: true; the input reads as it did. -/
def fnExactMaySendSpec : ChangeSpec := { name := "fnExactMaySend", fn := fun _ => fun
  | [d1, d2] => { results := [.lit (.bool true)], args := [d1, d2] }
  | _ => none }
def fnExactMaySendRow : OpenClaim := { program := "ytjeobpoonfhjdaa", sum := "bd8fccdfe1ab2769a222e3e030d738b111ff6d2dbb1db08b228c4af80b0d880d", func := "loop.example/g00599/laws.FnExactMaySend", spec := "fnExactMaySend", apart := false }
def FnExactMaySendSaid : Prop := fnExactMaySendRow.holds Try.pinned (OpenSpec.ofChange fnExactMaySendSpec)

/-- ITS FALSE NEIGHBOUR: 'it returns false'. Refute it at one input. -/
def fnExactMaySendWrong : ChangeSpec := { name := "fnExactMaySend", fn := fun _ => fun
  | [d1, d2] => { results := [.lit (.bool false)], args := [d1, d2] }
  | _ => none }
def FnExactMaySendWrongFalsely : Prop := fnExactMaySendRow.holds Try.pinned (OpenSpec.ofChange fnExactMaySendWrong)

/-- 'laws.FnExactSendsLeft': WHATEVER THE INPUT: true; the input reads as it did. -/
def fnExactSendsLeftSpec : ChangeSpec := { name := "fnExactSendsLeft", fn := fun _ => fun
  | [d1, d2] => { results := [.lit (.bool true)], args := [d1, d2] }
  | _ => none }
def fnExactSendsLeftRow : OpenClaim := { program := "ytjeobpoonfhjdaa", sum := "bd8fccdfe1ab2769a222e3e030d738b111ff6d2dbb1db08b228c4af80b0d880d", func := "loop.example/g00599/laws.FnExactSendsLeft", spec := "fnExactSendsLeft", apart := false }
def FnExactSendsLeftSaid : Prop := fnExactSendsLeftRow.holds Try.pinned (OpenSpec.ofChange fnExactSendsLeftSpec)

/-- ITS FALSE NEIGHBOUR: 'it returns false'. Refute it at one input. -/
def fnExactSendsLeftWrong : ChangeSpec := { name := "fnExactSendsLeft", fn := fun _ => fun
  | [d1, d2] => { results := [.lit (.bool false)], args := [d1, d2] }
  | _ => none }
def FnExactSendsLeftWrongFalsely : Prop := fnExactSendsLeftRow.holds Try.pinned (OpenSpec.ofChange fnExactSendsLeftWrong)

/-- 'laws.FnExactHasLoop': WHATEVER THE INPUT: true; the input reads as it did. -/
def fnExactHasLoopSpec : ChangeSpec := { name := "fnExactHasLoop", fn := fun _ => fun
  | [d] => { results := [.lit (.bool true)], args := [d] }
  | _ => none }
def fnExactHasLoopRow : OpenClaim := { program := "ytjeobpoonfhjdaa", sum := "bd8fccdfe1ab2769a222e3e030d738b111ff6d2dbb1db08b228c4af80b0d880d", func := "loop.example/g00599/laws.FnExactHasLoop", spec := "fnExactHasLoop", apart := false }
def FnExactHasLoopSaid : Prop := fnExactHasLoopRow.holds Try.pinned (OpenSpec.ofChange fnExactHasLoopSpec)

/-- ITS FALSE NEIGHBOUR: 'it returns false'. Refute it at one input. -/
def fnExactHasLoopWrong : ChangeSpec := { name := "fnExactHasLoop", fn := fun _ => fun
  | [d] => { results := [.lit (.bool false)], args := [d] }
  | _ => none }
def FnExactHasLoopWrongFalsely : Prop := fnExactHasLoopRow.holds Try.pinned (OpenSpec.ofChange fnExactHasLoopWrong)

/-- 'laws.FnExactTickBattery': WHATEVER THE INPUT: true; the input reads as it did. -/
def fnExactTickBatterySpec : ChangeSpec := { name := "fnExactTickBattery", fn := fun _ => fun
  | [d1, d2, d3] => { results := [.lit (.bool true)], args := [d1, d2, d3] }
  | _ => none }
def fnExactTickBatteryRow : OpenClaim := { program := "ytjeobpoonfhjdaa", sum := "bd8fccdfe1ab2769a222e3e030d738b111ff6d2dbb1db08b228c4af80b0d880d", func := "loop.example/g00599/laws.FnExactTickBattery", spec := "fnExactTickBattery", apart := false }
def FnExactTickBatterySaid : Prop := fnExactTickBatteryRow.holds Try.pinned (OpenSpec.ofChange fnExactTickBatterySpec)

/-- ITS FALSE NEIGHBOUR: 'it returns false'. Refute it at one input. -/
def fnExactTickBatteryWrong : ChangeSpec := { name := "fnExactTickBattery", fn := fun _ => fun
  | [d1, d2, d3] => { results := [.lit (.bool false)], args := [d1, d2, d3] }
  | _ => none }
def FnExactTickBatteryWrongFalsely : Prop := fnExactTickBatteryRow.holds Try.pinned (OpenSpec.ofChange fnExactTickBatteryWrong)

/-- 'laws.FnExactCountClass': WHATEVER THE INPUT: true; the input reads as it did. -/
def fnExactCountClassSpec : ChangeSpec := { name := "fnExactCountClass", fn := fun _ => fun
  | [d1, d2] => { results := [.lit (.bool true)], args := [d1, d2] }
  | _ => none }
def fnExactCountClassRow : OpenClaim := { program := "ytjeobpoonfhjdaa", sum := "bd8fccdfe1ab2769a222e3e030d738b111ff6d2dbb1db08b228c4af80b0d880d", func := "loop.example/g00599/laws.FnExactCountClass", spec := "fnExactCountClass", apart := false }
def FnExactCountClassSaid : Prop := fnExactCountClassRow.holds Try.pinned (OpenSpec.ofChange fnExactCountClassSpec)

/-- ITS FALSE NEIGHBOUR: 'it returns false'. Refute it at one input. -/
def fnExactCountClassWrong : ChangeSpec := { name := "fnExactCountClass", fn := fun _ => fun
  | [d1, d2] => { results := [.lit (.bool false)], args := [d1, d2] }
  | _ => none }
def FnExactCountClassWrongFalsely : Prop := fnExactCountClassRow.holds Try.pinned (OpenSpec.ofChange fnExactCountClassWrong)

/-- 'laws.FnExactFindPacket': WHATEVER THE INPUT: true; the input reads as it did. -/
def fnExactFindPacketSpec : ChangeSpec := { name := "fnExactFindPacket", fn := fun _ => fun
  | [d1, d2] => { results := [.lit (.bool true)], args := [d1, d2] }
  | _ => none }
def fnExactFindPacketRow : OpenClaim := { program := "ytjeobpoonfhjdaa", sum := "bd8fccdfe1ab2769a222e3e030d738b111ff6d2dbb1db08b228c4af80b0d880d", func := "loop.example/g00599/laws.FnExactFindPacket", spec := "fnExactFindPacket", unfollowed := true, recurses := true, apart := false }
def FnExactFindPacketSaid : Prop := fnExactFindPacketRow.holds Try.pinned (OpenSpec.ofChange fnExactFindPacketSpec)

/-- ITS FALSE NEIGHBOUR: 'it returns false'. Refute it at one input. -/
def fnExactFindPacketWrong : ChangeSpec := { name := "fnExactFindPacket", fn := fun _ => fun
  | [d1, d2] => { results := [.lit (.bool false)], args := [d1, d2] }
  | _ => none }
def FnExactFindPacketWrongFalsely : Prop := fnExactFindPacketRow.holds Try.pinned (OpenSpec.ofChange fnExactFindPacketWrong)

/-- 'laws.FnExactNeedAt': WHATEVER THE INPUT: true; the input reads as it did. -/
def fnExactNeedAtSpec : ChangeSpec := { name := "fnExactNeedAt", fn := fun _ => fun
  | [d1, d2, d3, d4] => { results := [.lit (.bool true)], args := [d1, d2, d3, d4] }
  | _ => none }
def fnExactNeedAtRow : OpenClaim := { program := "ytjeobpoonfhjdaa", sum := "bd8fccdfe1ab2769a222e3e030d738b111ff6d2dbb1db08b228c4af80b0d880d", func := "loop.example/g00599/laws.FnExactNeedAt", spec := "fnExactNeedAt", apart := false }
def FnExactNeedAtSaid : Prop := fnExactNeedAtRow.holds Try.pinned (OpenSpec.ofChange fnExactNeedAtSpec)

/-- ITS FALSE NEIGHBOUR: 'it returns false'. Refute it at one input. -/
def fnExactNeedAtWrong : ChangeSpec := { name := "fnExactNeedAt", fn := fun _ => fun
  | [d1, d2, d3, d4] => { results := [.lit (.bool false)], args := [d1, d2, d3, d4] }
  | _ => none }
def FnExactNeedAtWrongFalsely : Prop := fnExactNeedAtRow.holds Try.pinned (OpenSpec.ofChange fnExactNeedAtWrong)

/-- 'laws.FnExactUnpackNext': WHATEVER THE INPUT: true; the input reads as it did. -/
def fnExactUnpackNextSpec : ChangeSpec := { name := "fnExactUnpackNext", fn := fun _ => fun
  | [d] => { results := [.lit (.bool true)], args := [d] }
  | _ => none }
def fnExactUnpackNextRow : OpenClaim := { program := "ytjeobpoonfhjdaa", sum := "bd8fccdfe1ab2769a222e3e030d738b111ff6d2dbb1db08b228c4af80b0d880d", func := "loop.example/g00599/laws.FnExactUnpackNext", spec := "fnExactUnpackNext", apart := false }
def FnExactUnpackNextSaid : Prop := fnExactUnpackNextRow.holds Try.pinned (OpenSpec.ofChange fnExactUnpackNextSpec)

/-- ITS FALSE NEIGHBOUR: 'it returns false'. Refute it at one input. -/
def fnExactUnpackNextWrong : ChangeSpec := { name := "fnExactUnpackNext", fn := fun _ => fun
  | [d] => { results := [.lit (.bool false)], args := [d] }
  | _ => none }
def FnExactUnpackNextWrongFalsely : Prop := fnExactUnpackNextRow.holds Try.pinned (OpenSpec.ofChange fnExactUnpackNextWrong)

/-- 'laws.FnExactPackedSize': WHATEVER THE INPUT: true; the input reads as it did. -/
def fnExactPackedSizeSpec : ChangeSpec := { name := "fnExactPackedSize", fn := fun _ => fun
  | [d] => { results := [.lit (.bool true)], args := [d] }
  | _ => none }
def fnExactPackedSizeRow : OpenClaim := { program := "ytjeobpoonfhjdaa", sum := "bd8fccdfe1ab2769a222e3e030d738b111ff6d2dbb1db08b228c4af80b0d880d", func := "loop.example/g00599/laws.FnExactPackedSize", spec := "fnExactPackedSize", apart := false }
def FnExactPackedSizeSaid : Prop := fnExactPackedSizeRow.holds Try.pinned (OpenSpec.ofChange fnExactPackedSizeSpec)

/-- ITS FALSE NEIGHBOUR: 'it returns false'. Refute it at one input. -/
def fnExactPackedSizeWrong : ChangeSpec := { name := "fnExactPackedSize", fn := fun _ => fun
  | [d] => { results := [.lit (.bool false)], args := [d] }
  | _ => none }
def FnExactPackedSizeWrongFalsely : Prop := fnExactPackedSizeRow.holds Try.pinned (OpenSpec.ofChange fnExactPackedSizeWrong)

/-- 'laws.FnExactUnionHasLoop': WHATEVER THE INPUT: true; the input reads as it did. -/
def fnExactUnionHasLoopSpec : ChangeSpec := { name := "fnExactUnionHasLoop", fn := fun _ => fun
  | [d] => { results := [.lit (.bool true)], args := [d] }
  | _ => none }
def fnExactUnionHasLoopRow : OpenClaim := { program := "ytjeobpoonfhjdaa", sum := "bd8fccdfe1ab2769a222e3e030d738b111ff6d2dbb1db08b228c4af80b0d880d", func := "loop.example/g00599/laws.FnExactUnionHasLoop", spec := "fnExactUnionHasLoop", apart := false }
def FnExactUnionHasLoopSaid : Prop := fnExactUnionHasLoopRow.holds Try.pinned (OpenSpec.ofChange fnExactUnionHasLoopSpec)

/-- ITS FALSE NEIGHBOUR: 'it returns false'. Refute it at one input. -/
def fnExactUnionHasLoopWrong : ChangeSpec := { name := "fnExactUnionHasLoop", fn := fun _ => fun
  | [d] => { results := [.lit (.bool false)], args := [d] }
  | _ => none }
def FnExactUnionHasLoopWrongFalsely : Prop := fnExactUnionHasLoopRow.holds Try.pinned (OpenSpec.ofChange fnExactUnionHasLoopWrong)

/- THE SECOND FORM. 'bulk': how many values and letters a reading holds, each counted each time it is reached (what is shared counts as often as it is met; a slice's spare places count too). A statement '..UptoSaid' is the law's where the arguments, and the package variables that the reading takes, are together of bulk at most 1048576: NARROWER than '..Said'. Prove '..Said' where nothing that the law and all that it calls make is longer than what came in: it says more and counts as full. Else prove '..UptoSaid'. A law counts once. -/
mutual
def uptoBulk {H : Type} : DataW H → Nat
  | .lit (.string bytes) => bytes.length + 1
  | .lit _ => 1
  | .nil => 1
  | .ptr d => uptoBulk d + 1
  | .slice elems spare => uptoBulkAll elems + uptoBulkAll spare + 1
  | .agg parts => uptoBulkAll parts + 1
  | .iface _ d => uptoBulk d + 1
  | .map entries => uptoBulkEntries entries + 1
  | .held _ => 1
def uptoBulkAll {H : Type} : List (DataW H) → Nat
  | [] => 0
  | d :: r => uptoBulk d + uptoBulkAll r
def uptoBulkEntries {H : Type} : List (Lit × DataW H) → Nat
  | [] => 0
  | x :: r => uptoBulkEntry x + uptoBulkEntries r
def uptoBulkEntry {H : Type} : Lit × DataW H → Nat
  | (.string bytes, d) => bytes.length + uptoBulk d + 1
  | (_, d) => uptoBulk d + 1
 end
def uptoSmall : (H : Type) → List (DataW H) → Bool := fun _ ds => decide (uptoBulkAll ds ≤ 1048576)
def OpenSpec.upto (s : _root_.Go.ChangeSpec) : _root_.Go.OpenSpec := { _root_.Go.OpenSpec.ofChange s with cond := some uptoSmall }

/-- 'laws.FnExactIsBattery', WHERE WHAT IT READS IS OF BULK AT MOST 1048576: true; the input reads as it did. -/
def fnExactIsBatteryUptoRow : OpenClaim := { program := "ytjeobpoonfhjdaa", sum := "bd8fccdfe1ab2769a222e3e030d738b111ff6d2dbb1db08b228c4af80b0d880d", func := "loop.example/g00599/laws.FnExactIsBattery", spec := "fnExactIsBattery", apart := false, narrowed := true }
def FnExactIsBatteryUptoSaid : Prop := fnExactIsBatteryUptoRow.holds Try.pinned (OpenSpec.upto fnExactIsBatterySpec)

/-- 'laws.FnExactIsPacket', WHERE WHAT IT READS IS OF BULK AT MOST 1048576: true; the input reads as it did. -/
def fnExactIsPacketUptoRow : OpenClaim := { program := "ytjeobpoonfhjdaa", sum := "bd8fccdfe1ab2769a222e3e030d738b111ff6d2dbb1db08b228c4af80b0d880d", func := "loop.example/g00599/laws.FnExactIsPacket", spec := "fnExactIsPacket", apart := false, narrowed := true }
def FnExactIsPacketUptoSaid : Prop := fnExactIsPacketUptoRow.holds Try.pinned (OpenSpec.upto fnExactIsPacketSpec)

/-- 'laws.FnExactMaySend', WHERE WHAT IT READS IS OF BULK AT MOST 1048576: true; the input reads as it did. -/
def fnExactMaySendUptoRow : OpenClaim := { program := "ytjeobpoonfhjdaa", sum := "bd8fccdfe1ab2769a222e3e030d738b111ff6d2dbb1db08b228c4af80b0d880d", func := "loop.example/g00599/laws.FnExactMaySend", spec := "fnExactMaySend", apart := false, narrowed := true }
def FnExactMaySendUptoSaid : Prop := fnExactMaySendUptoRow.holds Try.pinned (OpenSpec.upto fnExactMaySendSpec)

/-- 'laws.FnExactSendsLeft', WHERE WHAT IT READS IS OF BULK AT MOST 1048576: true; the input reads as it did. -/
def fnExactSendsLeftUptoRow : OpenClaim := { program := "ytjeobpoonfhjdaa", sum := "bd8fccdfe1ab2769a222e3e030d738b111ff6d2dbb1db08b228c4af80b0d880d", func := "loop.example/g00599/laws.FnExactSendsLeft", spec := "fnExactSendsLeft", apart := false, narrowed := true }
def FnExactSendsLeftUptoSaid : Prop := fnExactSendsLeftUptoRow.holds Try.pinned (OpenSpec.upto fnExactSendsLeftSpec)

/-- 'laws.FnExactHasLoop', WHERE WHAT IT READS IS OF BULK AT MOST 1048576: true; the input reads as it did. -/
def fnExactHasLoopUptoRow : OpenClaim := { program := "ytjeobpoonfhjdaa", sum := "bd8fccdfe1ab2769a222e3e030d738b111ff6d2dbb1db08b228c4af80b0d880d", func := "loop.example/g00599/laws.FnExactHasLoop", spec := "fnExactHasLoop", apart := false, narrowed := true }
def FnExactHasLoopUptoSaid : Prop := fnExactHasLoopUptoRow.holds Try.pinned (OpenSpec.upto fnExactHasLoopSpec)

/-- 'laws.FnExactTickBattery', WHERE WHAT IT READS IS OF BULK AT MOST 1048576: true; the input reads as it did. -/
def fnExactTickBatteryUptoRow : OpenClaim := { program := "ytjeobpoonfhjdaa", sum := "bd8fccdfe1ab2769a222e3e030d738b111ff6d2dbb1db08b228c4af80b0d880d", func := "loop.example/g00599/laws.FnExactTickBattery", spec := "fnExactTickBattery", apart := false, narrowed := true }
def FnExactTickBatteryUptoSaid : Prop := fnExactTickBatteryUptoRow.holds Try.pinned (OpenSpec.upto fnExactTickBatterySpec)

/-- 'laws.FnExactCountClass', WHERE WHAT IT READS IS OF BULK AT MOST 1048576: true; the input reads as it did. -/
def fnExactCountClassUptoRow : OpenClaim := { program := "ytjeobpoonfhjdaa", sum := "bd8fccdfe1ab2769a222e3e030d738b111ff6d2dbb1db08b228c4af80b0d880d", func := "loop.example/g00599/laws.FnExactCountClass", spec := "fnExactCountClass", apart := false, narrowed := true }
def FnExactCountClassUptoSaid : Prop := fnExactCountClassUptoRow.holds Try.pinned (OpenSpec.upto fnExactCountClassSpec)

/-- 'laws.FnExactFindPacket', WHERE WHAT IT READS IS OF BULK AT MOST 1048576: true; the input reads as it did. -/
def fnExactFindPacketUptoRow : OpenClaim := { program := "ytjeobpoonfhjdaa", sum := "bd8fccdfe1ab2769a222e3e030d738b111ff6d2dbb1db08b228c4af80b0d880d", func := "loop.example/g00599/laws.FnExactFindPacket", spec := "fnExactFindPacket", unfollowed := true, recurses := true, apart := false, narrowed := true }
def FnExactFindPacketUptoSaid : Prop := fnExactFindPacketUptoRow.holds Try.pinned (OpenSpec.upto fnExactFindPacketSpec)

/-- 'laws.FnExactNeedAt', WHERE WHAT IT READS IS OF BULK AT MOST 1048576: true; the input reads as it did. -/
def fnExactNeedAtUptoRow : OpenClaim := { program := "ytjeobpoonfhjdaa", sum := "bd8fccdfe1ab2769a222e3e030d738b111ff6d2dbb1db08b228c4af80b0d880d", func := "loop.example/g00599/laws.FnExactNeedAt", spec := "fnExactNeedAt", apart := false, narrowed := true }
def FnExactNeedAtUptoSaid : Prop := fnExactNeedAtUptoRow.holds Try.pinned (OpenSpec.upto fnExactNeedAtSpec)

/-- 'laws.FnExactUnpackNext', WHERE WHAT IT READS IS OF BULK AT MOST 1048576: true; the input reads as it did. -/
def fnExactUnpackNextUptoRow : OpenClaim := { program := "ytjeobpoonfhjdaa", sum := "bd8fccdfe1ab2769a222e3e030d738b111ff6d2dbb1db08b228c4af80b0d880d", func := "loop.example/g00599/laws.FnExactUnpackNext", spec := "fnExactUnpackNext", apart := false, narrowed := true }
def FnExactUnpackNextUptoSaid : Prop := fnExactUnpackNextUptoRow.holds Try.pinned (OpenSpec.upto fnExactUnpackNextSpec)

/-- 'laws.FnExactPackedSize', WHERE WHAT IT READS IS OF BULK AT MOST 1048576: true; the input reads as it did. -/
def fnExactPackedSizeUptoRow : OpenClaim := { program := "ytjeobpoonfhjdaa", sum := "bd8fccdfe1ab2769a222e3e030d738b111ff6d2dbb1db08b228c4af80b0d880d", func := "loop.example/g00599/laws.FnExactPackedSize", spec := "fnExactPackedSize", apart := false, narrowed := true }
def FnExactPackedSizeUptoSaid : Prop := fnExactPackedSizeUptoRow.holds Try.pinned (OpenSpec.upto fnExactPackedSizeSpec)

/-- 'laws.FnExactUnionHasLoop', WHERE WHAT IT READS IS OF BULK AT MOST 1048576: true; the input reads as it did. -/
def fnExactUnionHasLoopUptoRow : OpenClaim := { program := "ytjeobpoonfhjdaa", sum := "bd8fccdfe1ab2769a222e3e030d738b111ff6d2dbb1db08b228c4af80b0d880d", func := "loop.example/g00599/laws.FnExactUnionHasLoop", spec := "fnExactUnionHasLoop", apart := false, narrowed := true }
def FnExactUnionHasLoopUptoSaid : Prop := fnExactUnionHasLoopUptoRow.holds Try.pinned (OpenSpec.upto fnExactUnionHasLoopSpec)

end Rows
end Go.Proofs.Ytjeobpoonfhjdaa
