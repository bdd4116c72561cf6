/-
  No cell of these rows narrows 'for every input' (looked for: loops, veiled, ifaces, maps, wideKeys, modest, calm, conditions, laid).
  DERIVED. THE GIVEN ROWS OF THIS SEAT. 12 by the template 'for every input the law returns true; each argument reads behind the call as it read before'; 0 by the template 'total and deterministic' (their statements: YtaciciobhfoglaaTotals.lean).
  GIVEN WITH THE SEED: the statements are not yours to turn. If you find one false, say at which input.
  Laid BY PROGRAM, IN A SANDBOX (cutbox-rows.mjs): the forced cells as the released guide's own fill.sh prints them over the translation 131be02255bcb4da… (all of the seat's roots in one cut). By AI agents, Wed Nov 11 2026. No macro, syntax, notation, axiom, sorry.
-/
import Derived.Test.YtaciciobhfoglaaChecked
import GoSem.Claim
import GoSem.ClaimJoined
import GoSem.ClaimMapViews
import Derived.JoinedTies
import Derived.KernelRfl
namespace Go.Proofs.Ytaciciobhfoglaa
/- THE CELL 'sum', in the pinned program and in every row, IS THE sha256 OF THE DUMP (.gsa) THAT YtaciciobhfoglaaProg.lean LOADS. Nothing in Lean hashes anything: it is a label: what it is worth is what the hold of that sum in a sandbox is worth. -/
noncomputable def Try.pinned : Pinned := { name := "ytaciciobhfoglaa", sum := "131be02255bcb4da9317117020be82a74ccd26ed1c718f0b203c50d055ec93ac", checked := Try.checked }
namespace Rows
def none {H : Type} : Left H := { results := [], args := [] }

/-- 'laws.FnExactIsFeasible': WHATEVER THE INPUT: true; the input reads as it did. -/
def fnExactIsFeasibleSpec : ChangeSpec := { name := "fnExactIsFeasible", fn := fun _ => fun
  | [d1, d2, d3, d4] => { results := [.lit (.bool true)], args := [d1, d2, d3, d4] }
  | _ => none }
def fnExactIsFeasibleRow : OpenClaim := { program := "ytaciciobhfoglaa", sum := "131be02255bcb4da9317117020be82a74ccd26ed1c718f0b203c50d055ec93ac", func := "loop.example/g00599/laws.FnExactIsFeasible", spec := "fnExactIsFeasible", apart := false }
def FnExactIsFeasibleSaid : Prop := fnExactIsFeasibleRow.holds Try.pinned (OpenSpec.ofChange fnExactIsFeasibleSpec)

/-- ITS FALSE NEIGHBOUR: 'it returns false'. Refute it at one input. -/
def fnExactIsFeasibleWrong : ChangeSpec := { name := "fnExactIsFeasible", fn := fun _ => fun
  | [d1, d2, d3, d4] => { results := [.lit (.bool false)], args := [d1, d2, d3, d4] }
  | _ => none }
def FnExactIsFeasibleWrongFalsely : Prop := fnExactIsFeasibleRow.holds Try.pinned (OpenSpec.ofChange fnExactIsFeasibleWrong)

/-- 'laws.FnExactOrderOf': WHATEVER THE INPUT: true; the input reads as it did. -/
def fnExactOrderOfSpec : ChangeSpec := { name := "fnExactOrderOf", fn := fun _ => fun
  | [d] => { results := [.lit (.bool true)], args := [d] }
  | _ => none }
def fnExactOrderOfRow : OpenClaim := { program := "ytaciciobhfoglaa", sum := "131be02255bcb4da9317117020be82a74ccd26ed1c718f0b203c50d055ec93ac", func := "loop.example/g00599/laws.FnExactOrderOf", spec := "fnExactOrderOf", apart := false }
def FnExactOrderOfSaid : Prop := fnExactOrderOfRow.holds Try.pinned (OpenSpec.ofChange fnExactOrderOfSpec)

/-- ITS FALSE NEIGHBOUR: 'it returns false'. Refute it at one input. -/
def fnExactOrderOfWrong : ChangeSpec := { name := "fnExactOrderOf", fn := fun _ => fun
  | [d] => { results := [.lit (.bool false)], args := [d] }
  | _ => none }
def FnExactOrderOfWrongFalsely : Prop := fnExactOrderOfRow.holds Try.pinned (OpenSpec.ofChange fnExactOrderOfWrong)

/-- 'laws.FnExactTakePacket': WHATEVER THE INPUT: true; the input reads as it did. -/
def fnExactTakePacketSpec : ChangeSpec := { name := "fnExactTakePacket", fn := fun _ => fun
  | [d1, d2] => { results := [.lit (.bool true)], args := [d1, d2] }
  | _ => none }
def fnExactTakePacketRow : OpenClaim := { program := "ytaciciobhfoglaa", sum := "131be02255bcb4da9317117020be82a74ccd26ed1c718f0b203c50d055ec93ac", func := "loop.example/g00599/laws.FnExactTakePacket", spec := "fnExactTakePacket", apart := false }
def FnExactTakePacketSaid : Prop := fnExactTakePacketRow.holds Try.pinned (OpenSpec.ofChange fnExactTakePacketSpec)

/-- ITS FALSE NEIGHBOUR: 'it returns false'. Refute it at one input. -/
def fnExactTakePacketWrong : ChangeSpec := { name := "fnExactTakePacket", fn := fun _ => fun
  | [d1, d2] => { results := [.lit (.bool false)], args := [d1, d2] }
  | _ => none }
def FnExactTakePacketWrongFalsely : Prop := fnExactTakePacketRow.holds Try.pinned (OpenSpec.ofChange fnExactTakePacketWrong)

/-- 'laws.FnQueues': WHATEVER THE INPUT: true; the input reads as it did. -/
def fnQueuesSpec : ChangeSpec := { name := "fnQueues", fn := fun _ => fun
  | [d] => { results := [.lit (.bool true)], args := [d] }
  | _ => none }
def fnQueuesRow : OpenClaim := { program := "ytaciciobhfoglaa", sum := "131be02255bcb4da9317117020be82a74ccd26ed1c718f0b203c50d055ec93ac", func := "loop.example/g00599/laws.FnQueues", spec := "fnQueues", unfollowed := true, recurses := true, apart := false }
def FnQueuesSaid : Prop := fnQueuesRow.holds Try.pinned (OpenSpec.ofChange fnQueuesSpec)

/-- ITS FALSE NEIGHBOUR: 'it returns false'. Refute it at one input. -/
def fnQueuesWrong : ChangeSpec := { name := "fnQueues", fn := fun _ => fun
  | [d] => { results := [.lit (.bool false)], args := [d] }
  | _ => none }
def FnQueuesWrongFalsely : Prop := fnQueuesRow.holds Try.pinned (OpenSpec.ofChange fnQueuesWrong)

/-- 'laws.FnExactLowestOf': WHATEVER THE INPUT: true; the input reads as it did. -/
def fnExactLowestOfSpec : ChangeSpec := { name := "fnExactLowestOf", fn := fun _ => fun
  | [d1, d2, d3, d4] => { results := [.lit (.bool true)], args := [d1, d2, d3, d4] }
  | _ => none }
def fnExactLowestOfRow : OpenClaim := { program := "ytaciciobhfoglaa", sum := "131be02255bcb4da9317117020be82a74ccd26ed1c718f0b203c50d055ec93ac", func := "loop.example/g00599/laws.FnExactLowestOf", spec := "fnExactLowestOf", apart := false }
def FnExactLowestOfSaid : Prop := fnExactLowestOfRow.holds Try.pinned (OpenSpec.ofChange fnExactLowestOfSpec)

/-- ITS FALSE NEIGHBOUR: 'it returns false'. Refute it at one input. -/
def fnExactLowestOfWrong : ChangeSpec := { name := "fnExactLowestOf", fn := fun _ => fun
  | [d1, d2, d3, d4] => { results := [.lit (.bool false)], args := [d1, d2, d3, d4] }
  | _ => none }
def FnExactLowestOfWrongFalsely : Prop := fnExactLowestOfRow.holds Try.pinned (OpenSpec.ofChange fnExactLowestOfWrong)

/-- 'laws.FnExactForecastOf': WHATEVER THE INPUT: true; the input reads as it did. -/
def fnExactForecastOfSpec : ChangeSpec := { name := "fnExactForecastOf", fn := fun _ => fun
  | [d1, d2, d3, d4] => { results := [.lit (.bool true)], args := [d1, d2, d3, d4] }
  | _ => none }
def fnExactForecastOfRow : OpenClaim := { program := "ytaciciobhfoglaa", sum := "131be02255bcb4da9317117020be82a74ccd26ed1c718f0b203c50d055ec93ac", func := "loop.example/g00599/laws.FnExactForecastOf", spec := "fnExactForecastOf", apart := false }
def FnExactForecastOfSaid : Prop := fnExactForecastOfRow.holds Try.pinned (OpenSpec.ofChange fnExactForecastOfSpec)

/-- ITS FALSE NEIGHBOUR: 'it returns false'. Refute it at one input. -/
def fnExactForecastOfWrong : ChangeSpec := { name := "fnExactForecastOf", fn := fun _ => fun
  | [d1, d2, d3, d4] => { results := [.lit (.bool false)], args := [d1, d2, d3, d4] }
  | _ => none }
def FnExactForecastOfWrongFalsely : Prop := fnExactForecastOfRow.holds Try.pinned (OpenSpec.ofChange fnExactForecastOfWrong)

/-- 'laws.FnExactIsSafeCourse': WHATEVER THE INPUT: true; the input reads as it did. -/
def fnExactIsSafeCourseSpec : ChangeSpec := { name := "fnExactIsSafeCourse", fn := fun _ => fun
  | [d1, d2, d3, d4] => { results := [.lit (.bool true)], args := [d1, d2, d3, d4] }
  | _ => none }
def fnExactIsSafeCourseRow : OpenClaim := { program := "ytaciciobhfoglaa", sum := "131be02255bcb4da9317117020be82a74ccd26ed1c718f0b203c50d055ec93ac", func := "loop.example/g00599/laws.FnExactIsSafeCourse", spec := "fnExactIsSafeCourse", apart := false }
def FnExactIsSafeCourseSaid : Prop := fnExactIsSafeCourseRow.holds Try.pinned (OpenSpec.ofChange fnExactIsSafeCourseSpec)

/-- ITS FALSE NEIGHBOUR: 'it returns false'. Refute it at one input. -/
def fnExactIsSafeCourseWrong : ChangeSpec := { name := "fnExactIsSafeCourse", fn := fun _ => fun
  | [d1, d2, d3, d4] => { results := [.lit (.bool false)], args := [d1, d2, d3, d4] }
  | _ => none }
def FnExactIsSafeCourseWrongFalsely : Prop := fnExactIsSafeCourseRow.holds Try.pinned (OpenSpec.ofChange fnExactIsSafeCourseWrong)

/-- 'laws.FnBatteries': WHATEVER THE INPUT: true; the input reads as it did. -/
def fnBatteriesSpec : ChangeSpec := { name := "fnBatteries", fn := fun _ => fun
  | [d] => { results := [.lit (.bool true)], args := [d] }
  | _ => none }
def fnBatteriesRow : OpenClaim := { program := "ytaciciobhfoglaa", sum := "131be02255bcb4da9317117020be82a74ccd26ed1c718f0b203c50d055ec93ac", func := "loop.example/g00599/laws.FnBatteries", spec := "fnBatteries", apart := false }
def FnBatteriesSaid : Prop := fnBatteriesRow.holds Try.pinned (OpenSpec.ofChange fnBatteriesSpec)

/-- ITS FALSE NEIGHBOUR: 'it returns false'. Refute it at one input. -/
def fnBatteriesWrong : ChangeSpec := { name := "fnBatteries", fn := fun _ => fun
  | [d] => { results := [.lit (.bool false)], args := [d] }
  | _ => none }
def FnBatteriesWrongFalsely : Prop := fnBatteriesRow.holds Try.pinned (OpenSpec.ofChange fnBatteriesWrong)

/-- 'laws.FnForecasts': WHATEVER THE INPUT: true; the input reads as it did. -/
def fnForecastsSpec : ChangeSpec := { name := "fnForecasts", fn := fun _ => fun
  | [d] => { results := [.lit (.bool true)], args := [d] }
  | _ => none }
def fnForecastsRow : OpenClaim := { program := "ytaciciobhfoglaa", sum := "131be02255bcb4da9317117020be82a74ccd26ed1c718f0b203c50d055ec93ac", func := "loop.example/g00599/laws.FnForecasts", spec := "fnForecasts", apart := false }
def FnForecastsSaid : Prop := fnForecastsRow.holds Try.pinned (OpenSpec.ofChange fnForecastsSpec)

/-- ITS FALSE NEIGHBOUR: 'it returns false'. Refute it at one input. -/
def fnForecastsWrong : ChangeSpec := { name := "fnForecasts", fn := fun _ => fun
  | [d] => { results := [.lit (.bool false)], args := [d] }
  | _ => none }
def FnForecastsWrongFalsely : Prop := fnForecastsRow.holds Try.pinned (OpenSpec.ofChange fnForecastsWrong)

/-- 'laws.FnExactSafeSends': WHATEVER THE INPUT: true; the input reads as it did. -/
def fnExactSafeSendsSpec : ChangeSpec := { name := "fnExactSafeSends", fn := fun _ => fun
  | [d1, d2, d3, d4, d5] => { results := [.lit (.bool true)], args := [d1, d2, d3, d4, d5] }
  | _ => none }
def fnExactSafeSendsRow : OpenClaim := { program := "ytaciciobhfoglaa", sum := "131be02255bcb4da9317117020be82a74ccd26ed1c718f0b203c50d055ec93ac", func := "loop.example/g00599/laws.FnExactSafeSends", spec := "fnExactSafeSends", apart := false }
def FnExactSafeSendsSaid : Prop := fnExactSafeSendsRow.holds Try.pinned (OpenSpec.ofChange fnExactSafeSendsSpec)

/-- ITS FALSE NEIGHBOUR: 'it returns false'. Refute it at one input. -/
def fnExactSafeSendsWrong : ChangeSpec := { name := "fnExactSafeSends", fn := fun _ => fun
  | [d1, d2, d3, d4, d5] => { results := [.lit (.bool false)], args := [d1, d2, d3, d4, d5] }
  | _ => none }
def FnExactSafeSendsWrongFalsely : Prop := fnExactSafeSendsRow.holds Try.pinned (OpenSpec.ofChange fnExactSafeSendsWrong)

/-- 'laws.FnExactAreOffsets': WHATEVER THE INPUT: true; the input reads as it did. -/
def fnExactAreOffsetsSpec : ChangeSpec := { name := "fnExactAreOffsets", fn := fun _ => fun
  | [d1, d2] => { results := [.lit (.bool true)], args := [d1, d2] }
  | _ => none }
def fnExactAreOffsetsRow : OpenClaim := { program := "ytaciciobhfoglaa", sum := "131be02255bcb4da9317117020be82a74ccd26ed1c718f0b203c50d055ec93ac", func := "loop.example/g00599/laws.FnExactAreOffsets", spec := "fnExactAreOffsets", apart := false }
def FnExactAreOffsetsSaid : Prop := fnExactAreOffsetsRow.holds Try.pinned (OpenSpec.ofChange fnExactAreOffsetsSpec)

/-- ITS FALSE NEIGHBOUR: 'it returns false'. Refute it at one input. -/
def fnExactAreOffsetsWrong : ChangeSpec := { name := "fnExactAreOffsets", fn := fun _ => fun
  | [d1, d2] => { results := [.lit (.bool false)], args := [d1, d2] }
  | _ => none }
def FnExactAreOffsetsWrongFalsely : Prop := fnExactAreOffsetsRow.holds Try.pinned (OpenSpec.ofChange fnExactAreOffsetsWrong)

/-- 'laws.FnExactPieceAt': WHATEVER THE INPUT: true; the input reads as it did. -/
def fnExactPieceAtSpec : ChangeSpec := { name := "fnExactPieceAt", fn := fun _ => fun
  | [d1, d2] => { results := [.lit (.bool true)], args := [d1, d2] }
  | _ => none }
def fnExactPieceAtRow : OpenClaim := { program := "ytaciciobhfoglaa", sum := "131be02255bcb4da9317117020be82a74ccd26ed1c718f0b203c50d055ec93ac", func := "loop.example/g00599/laws.FnExactPieceAt", spec := "fnExactPieceAt", unfollowed := true, recurses := true, apart := false }
def FnExactPieceAtSaid : Prop := fnExactPieceAtRow.holds Try.pinned (OpenSpec.ofChange fnExactPieceAtSpec)

/-- ITS FALSE NEIGHBOUR: 'it returns false'. Refute it at one input. -/
def fnExactPieceAtWrong : ChangeSpec := { name := "fnExactPieceAt", fn := fun _ => fun
  | [d1, d2] => { results := [.lit (.bool false)], args := [d1, d2] }
  | _ => none }
def FnExactPieceAtWrongFalsely : Prop := fnExactPieceAtRow.holds Try.pinned (OpenSpec.ofChange fnExactPieceAtWrong)

/- THE SECOND FORM. 'bulk': how many values and letters a reading holds, each counted each time it is reached (what is shared counts as often as it is met; a slice's spare places count too). A statement '..UptoSaid' is the law's where the arguments, and the package variables that the reading takes, are together of bulk at most 1048576: NARROWER than '..Said'. Prove '..Said' where nothing that the law and all that it calls make is longer than what came in: it says more and counts as full. Else prove '..UptoSaid'. A law counts once. -/
mutual
def uptoBulk {H : Type} : DataW H → Nat
  | .lit (.string bytes) => bytes.length + 1
  | .lit _ => 1
  | .nil => 1
  | .ptr d => uptoBulk d + 1
  | .slice elems spare => uptoBulkAll elems + uptoBulkAll spare + 1
  | .agg parts => uptoBulkAll parts + 1
  | .iface _ d => uptoBulk d + 1
  | .map entries => uptoBulkEntries entries + 1
  | .held _ => 1
def uptoBulkAll {H : Type} : List (DataW H) → Nat
  | [] => 0
  | d :: r => uptoBulk d + uptoBulkAll r
def uptoBulkEntries {H : Type} : List (Lit × DataW H) → Nat
  | [] => 0
  | x :: r => uptoBulkEntry x + uptoBulkEntries r
def uptoBulkEntry {H : Type} : Lit × DataW H → Nat
  | (.string bytes, d) => bytes.length + uptoBulk d + 1
  | (_, d) => uptoBulk d + 1
 end
def uptoSmall : (H : Type) → List (DataW H) → Bool := fun _ ds => decide (uptoBulkAll ds ≤ 1048576)
def OpenSpec.upto (s : _root_.Go.ChangeSpec) : _root_.Go.OpenSpec := { _root_.Go.OpenSpec.ofChange s with cond := some uptoSmall }

/-- 'laws.FnExactIsFeasible', WHERE WHAT IT READS IS OF BULK AT MOST 1048576: true; the input reads as it did. -/
def fnExactIsFeasibleUptoRow : OpenClaim := { program := "ytaciciobhfoglaa", sum := "131be02255bcb4da9317117020be82a74ccd26ed1c718f0b203c50d055ec93ac", func := "loop.example/g00599/laws.FnExactIsFeasible", spec := "fnExactIsFeasible", apart := false, narrowed := true }
def FnExactIsFeasibleUptoSaid : Prop := fnExactIsFeasibleUptoRow.holds Try.pinned (OpenSpec.upto fnExactIsFeasibleSpec)

/-- 'laws.FnExactOrderOf', WHERE WHAT IT READS IS OF BULK AT MOST 1048576: true; the input reads as it did. -/
def fnExactOrderOfUptoRow : OpenClaim := { program := "ytaciciobhfoglaa", sum := "131be02255bcb4da9317117020be82a74ccd26ed1c718f0b203c50d055ec93ac", func := "loop.example/g00599/laws.FnExactOrderOf", spec := "fnExactOrderOf", apart := false, narrowed := true }
def FnExactOrderOfUptoSaid : Prop := fnExactOrderOfUptoRow.holds Try.pinned (OpenSpec.upto fnExactOrderOfSpec)

/-- 'laws.FnExactTakePacket', WHERE WHAT IT READS IS OF BULK AT MOST 1048576: true; the input reads as it did. -/
def fnExactTakePacketUptoRow : OpenClaim := { program := "ytaciciobhfoglaa", sum := "131be02255bcb4da9317117020be82a74ccd26ed1c718f0b203c50d055ec93ac", func := "loop.example/g00599/laws.FnExactTakePacket", spec := "fnExactTakePacket", apart := false, narrowed := true }
def FnExactTakePacketUptoSaid : Prop := fnExactTakePacketUptoRow.holds Try.pinned (OpenSpec.upto fnExactTakePacketSpec)

/-- 'laws.FnQueues', WHERE WHAT IT READS IS OF BULK AT MOST 1048576: true; the input reads as it did. -/
def fnQueuesUptoRow : OpenClaim := { program := "ytaciciobhfoglaa", sum := "131be02255bcb4da9317117020be82a74ccd26ed1c718f0b203c50d055ec93ac", func := "loop.example/g00599/laws.FnQueues", spec := "fnQueues", unfollowed := true, recurses := true, apart := false, narrowed := true }
def FnQueuesUptoSaid : Prop := fnQueuesUptoRow.holds Try.pinned (OpenSpec.upto fnQueuesSpec)

/-- 'laws.FnExactLowestOf', WHERE WHAT IT READS IS OF BULK AT MOST 1048576: true; the input reads as it did. -/
def fnExactLowestOfUptoRow : OpenClaim := { program := "ytaciciobhfoglaa", sum := "131be02255bcb4da9317117020be82a74ccd26ed1c718f0b203c50d055ec93ac", func := "loop.example/g00599/laws.FnExactLowestOf", spec := "fnExactLowestOf", apart := false, narrowed := true }
def FnExactLowestOfUptoSaid : Prop := fnExactLowestOfUptoRow.holds Try.pinned (OpenSpec.upto fnExactLowestOfSpec)

/-- 'laws.FnExactForecastOf', WHERE WHAT IT READS IS OF BULK AT MOST 1048576: true; the input reads as it did. -/
def fnExactForecastOfUptoRow : OpenClaim := { program := "ytaciciobhfoglaa", sum := "131be02255bcb4da9317117020be82a74ccd26ed1c718f0b203c50d055ec93ac", func := "loop.example/g00599/laws.FnExactForecastOf", spec := "fnExactForecastOf", apart := false, narrowed := true }
def FnExactForecastOfUptoSaid : Prop := fnExactForecastOfUptoRow.holds Try.pinned (OpenSpec.upto fnExactForecastOfSpec)

/-- 'laws.FnExactIsSafeCourse', WHERE WHAT IT READS IS OF BULK AT MOST 1048576: true; the input reads as it did. -/
def fnExactIsSafeCourseUptoRow : OpenClaim := { program := "ytaciciobhfoglaa", sum := "131be02255bcb4da9317117020be82a74ccd26ed1c718f0b203c50d055ec93ac", func := "loop.example/g00599/laws.FnExactIsSafeCourse", spec := "fnExactIsSafeCourse", apart := false, narrowed := true }
def FnExactIsSafeCourseUptoSaid : Prop := fnExactIsSafeCourseUptoRow.holds Try.pinned (OpenSpec.upto fnExactIsSafeCourseSpec)

/-- 'laws.FnBatteries', WHERE WHAT IT READS IS OF BULK AT MOST 1048576: true; the input reads as it did. -/
def fnBatteriesUptoRow : OpenClaim := { program := "ytaciciobhfoglaa", sum := "131be02255bcb4da9317117020be82a74ccd26ed1c718f0b203c50d055ec93ac", func := "loop.example/g00599/laws.FnBatteries", spec := "fnBatteries", apart := false, narrowed := true }
def FnBatteriesUptoSaid : Prop := fnBatteriesUptoRow.holds Try.pinned (OpenSpec.upto fnBatteriesSpec)

/-- 'laws.FnForecasts', WHERE WHAT IT READS IS OF BULK AT MOST 1048576: true; the input reads as it did. -/
def fnForecastsUptoRow : OpenClaim := { program := "ytaciciobhfoglaa", sum := "131be02255bcb4da9317117020be82a74ccd26ed1c718f0b203c50d055ec93ac", func := "loop.example/g00599/laws.FnForecasts", spec := "fnForecasts", apart := false, narrowed := true }
def FnForecastsUptoSaid : Prop := fnForecastsUptoRow.holds Try.pinned (OpenSpec.upto fnForecastsSpec)

/-- 'laws.FnExactSafeSends', WHERE WHAT IT READS IS OF BULK AT MOST 1048576: true; the input reads as it did. -/
def fnExactSafeSendsUptoRow : OpenClaim := { program := "ytaciciobhfoglaa", sum := "131be02255bcb4da9317117020be82a74ccd26ed1c718f0b203c50d055ec93ac", func := "loop.example/g00599/laws.FnExactSafeSends", spec := "fnExactSafeSends", apart := false, narrowed := true }
def FnExactSafeSendsUptoSaid : Prop := fnExactSafeSendsUptoRow.holds Try.pinned (OpenSpec.upto fnExactSafeSendsSpec)

/-- 'laws.FnExactAreOffsets', WHERE WHAT IT READS IS OF BULK AT MOST 1048576: true; the input reads as it did. -/
def fnExactAreOffsetsUptoRow : OpenClaim := { program := "ytaciciobhfoglaa", sum := "131be02255bcb4da9317117020be82a74ccd26ed1c718f0b203c50d055ec93ac", func := "loop.example/g00599/laws.FnExactAreOffsets", spec := "fnExactAreOffsets", apart := false, narrowed := true }
def FnExactAreOffsetsUptoSaid : Prop := fnExactAreOffsetsUptoRow.holds Try.pinned (OpenSpec.upto fnExactAreOffsetsSpec)

/-- 'laws.FnExactPieceAt', WHERE WHAT IT READS IS OF BULK AT MOST 1048576: true; the input reads as it did. -/
def fnExactPieceAtUptoRow : OpenClaim := { program := "ytaciciobhfoglaa", sum := "131be02255bcb4da9317117020be82a74ccd26ed1c718f0b203c50d055ec93ac", func := "loop.example/g00599/laws.FnExactPieceAt", spec := "fnExactPieceAt", unfollowed := true, recurses := true, apart := false, narrowed := true }
def FnExactPieceAtUptoSaid : Prop := fnExactPieceAtUptoRow.holds Try.pinned (OpenSpec.upto fnExactPieceAtSpec)

end Rows
end Go.Proofs.Ytaciciobhfoglaa
