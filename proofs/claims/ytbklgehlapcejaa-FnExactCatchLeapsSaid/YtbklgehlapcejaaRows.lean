/-
  No cell of these rows narrows 'for every input' (looked for: loops, veiled, ifaces, maps, wideKeys, modest, calm, conditions, laid).
  DERIVED. THE GIVEN ROWS OF THIS SEAT. 12 by the template 'for every input the law returns true; each argument reads behind the call as it read before'; 0 by the template 'total and deterministic' (their statements: YtbklgehlapcejaaTotals.lean).
  GIVEN WITH THE SEED: the statements are not yours to turn. If you find one false, say at which input.
  Laid BY PROGRAM, IN A SANDBOX (cutbox-rows.mjs): the forced cells as the released guide's own fill.sh prints them over the translation 80b4b7b5574033ac… (all of the seat's roots in one cut). By AI agents, Wed Nov 11 2026. No macro, syntax, notation, axiom, sorry.
-/
import Derived.Test.YtbklgehlapcejaaChecked
import GoSem.Claim
import GoSem.ClaimJoined
import GoSem.ClaimMapViews
import Derived.JoinedTies
import Derived.KernelRfl
namespace Go.Proofs.Ytbklgehlapcejaa
/- THE CELL 'sum', in the pinned program and in every row, IS THE sha256 OF THE DUMP (.gsa) THAT YtbklgehlapcejaaProg.lean LOADS. Nothing in Lean hashes anything: it is a label: what it is worth is what the hold of that sum in a sandbox is worth. -/
noncomputable def Try.pinned : Pinned := { name := "ytbklgehlapcejaa", sum := "80b4b7b5574033acfbeadd89f784c8b6c2107284fb08cf301ed569985052ffc7", checked := Try.checked }
namespace Rows
def none {H : Type} : Left H := { results := [], args := [] }

/-- 'laws.FnExactIsTrain': WHATEVER THE INPUT: true; the input reads as it did. -/
def fnExactIsTrainSpec : ChangeSpec := { name := "fnExactIsTrain", fn := fun _ => fun
  | [d] => { results := [.lit (.bool true)], args := [d] }
  | _ => none }
def fnExactIsTrainRow : OpenClaim := { program := "ytbklgehlapcejaa", sum := "80b4b7b5574033acfbeadd89f784c8b6c2107284fb08cf301ed569985052ffc7", func := "loop.example/g01335/laws.FnExactIsTrain", spec := "fnExactIsTrain", apart := false }
def FnExactIsTrainSaid : Prop := fnExactIsTrainRow.holds Try.pinned (OpenSpec.ofChange fnExactIsTrainSpec)

/-- ITS FALSE NEIGHBOUR: 'it returns false'. Refute it at one input. -/
def fnExactIsTrainWrong : ChangeSpec := { name := "fnExactIsTrain", fn := fun _ => fun
  | [d] => { results := [.lit (.bool false)], args := [d] }
  | _ => none }
def FnExactIsTrainWrongFalsely : Prop := fnExactIsTrainRow.holds Try.pinned (OpenSpec.ofChange fnExactIsTrainWrong)

/-- 'laws.FnExactCountTrainsMet': WHATEVER THE INPUT: true; the input reads as it did. -/
def fnExactCountTrainsMetSpec : ChangeSpec := { name := "fnExactCountTrainsMet", fn := fun _ => fun
  | [d1, d2, d3] => { results := [.lit (.bool true)], args := [d1, d2, d3] }
  | _ => none }
def fnExactCountTrainsMetRow : OpenClaim := { program := "ytbklgehlapcejaa", sum := "80b4b7b5574033acfbeadd89f784c8b6c2107284fb08cf301ed569985052ffc7", func := "loop.example/g01335/laws.FnExactCountTrainsMet", spec := "fnExactCountTrainsMet", apart := false }
def FnExactCountTrainsMetSaid : Prop := fnExactCountTrainsMetRow.holds Try.pinned (OpenSpec.ofChange fnExactCountTrainsMetSpec)

/-- ITS FALSE NEIGHBOUR: 'it returns false'. Refute it at one input. -/
def fnExactCountTrainsMetWrong : ChangeSpec := { name := "fnExactCountTrainsMet", fn := fun _ => fun
  | [d1, d2, d3] => { results := [.lit (.bool false)], args := [d1, d2, d3] }
  | _ => none }
def FnExactCountTrainsMetWrongFalsely : Prop := fnExactCountTrainsMetRow.holds Try.pinned (OpenSpec.ofChange fnExactCountTrainsMetWrong)

/-- 'laws.FnExactIsChase': WHATEVER THE INPUT: true; the input reads as it did. -/
def fnExactIsChaseSpec : ChangeSpec := { name := "fnExactIsChase", fn := fun _ => fun
  | [d] => { results := [.lit (.bool true)], args := [d] }
  | _ => none }
def fnExactIsChaseRow : OpenClaim := { program := "ytbklgehlapcejaa", sum := "80b4b7b5574033acfbeadd89f784c8b6c2107284fb08cf301ed569985052ffc7", func := "loop.example/g01335/laws.FnExactIsChase", spec := "fnExactIsChase", apart := false }
def FnExactIsChaseSaid : Prop := fnExactIsChaseRow.holds Try.pinned (OpenSpec.ofChange fnExactIsChaseSpec)

/-- ITS FALSE NEIGHBOUR: 'it returns false'. Refute it at one input. -/
def fnExactIsChaseWrong : ChangeSpec := { name := "fnExactIsChase", fn := fun _ => fun
  | [d] => { results := [.lit (.bool false)], args := [d] }
  | _ => none }
def FnExactIsChaseWrongFalsely : Prop := fnExactIsChaseRow.holds Try.pinned (OpenSpec.ofChange fnExactIsChaseWrong)

/-- 'laws.FnExactCanCatch': WHATEVER THE INPUT: true; the input reads as it did. -/
def fnExactCanCatchSpec : ChangeSpec := { name := "fnExactCanCatch", fn := fun _ => fun
  | [d1, d2, d3, d4] => { results := [.lit (.bool true)], args := [d1, d2, d3, d4] }
  | _ => none }
def fnExactCanCatchRow : OpenClaim := { program := "ytbklgehlapcejaa", sum := "80b4b7b5574033acfbeadd89f784c8b6c2107284fb08cf301ed569985052ffc7", func := "loop.example/g01335/laws.FnExactCanCatch", spec := "fnExactCanCatch", apart := false }
def FnExactCanCatchSaid : Prop := fnExactCanCatchRow.holds Try.pinned (OpenSpec.ofChange fnExactCanCatchSpec)

/-- ITS FALSE NEIGHBOUR: 'it returns false'. Refute it at one input. -/
def fnExactCanCatchWrong : ChangeSpec := { name := "fnExactCanCatch", fn := fun _ => fun
  | [d1, d2, d3, d4] => { results := [.lit (.bool false)], args := [d1, d2, d3, d4] }
  | _ => none }
def FnExactCanCatchWrongFalsely : Prop := fnExactCanCatchRow.holds Try.pinned (OpenSpec.ofChange fnExactCanCatchWrong)

/-- 'laws.FnExactCatchLeaps': WHATEVER THE INPUT: true; the input reads as it did. -/
def fnExactCatchLeapsSpec : ChangeSpec := { name := "fnExactCatchLeaps", fn := fun _ => fun
  | [d1, d2, d3, d4, d5] => { results := [.lit (.bool true)], args := [d1, d2, d3, d4, d5] }
  | _ => none }
def fnExactCatchLeapsRow : OpenClaim := { program := "ytbklgehlapcejaa", sum := "80b4b7b5574033acfbeadd89f784c8b6c2107284fb08cf301ed569985052ffc7", func := "loop.example/g01335/laws.FnExactCatchLeaps", spec := "fnExactCatchLeaps", apart := false }
def FnExactCatchLeapsSaid : Prop := fnExactCatchLeapsRow.holds Try.pinned (OpenSpec.ofChange fnExactCatchLeapsSpec)

/-- ITS FALSE NEIGHBOUR: 'it returns false'. Refute it at one input. -/
def fnExactCatchLeapsWrong : ChangeSpec := { name := "fnExactCatchLeaps", fn := fun _ => fun
  | [d1, d2, d3, d4, d5] => { results := [.lit (.bool false)], args := [d1, d2, d3, d4, d5] }
  | _ => none }
def FnExactCatchLeapsWrongFalsely : Prop := fnExactCatchLeapsRow.holds Try.pinned (OpenSpec.ofChange fnExactCatchLeapsWrong)

/-- 'laws.FnExactTrainFromTimes': WHATEVER THE INPUT: true; the input reads as it did. -/
def fnExactTrainFromTimesSpec : ChangeSpec := { name := "fnExactTrainFromTimes", fn := fun _ => fun
  | [d1, d2, d3] => { results := [.lit (.bool true)], args := [d1, d2, d3] }
  | _ => none }
def fnExactTrainFromTimesRow : OpenClaim := { program := "ytbklgehlapcejaa", sum := "80b4b7b5574033acfbeadd89f784c8b6c2107284fb08cf301ed569985052ffc7", func := "loop.example/g01335/laws.FnExactTrainFromTimes", spec := "fnExactTrainFromTimes", apart := false }
def FnExactTrainFromTimesSaid : Prop := fnExactTrainFromTimesRow.holds Try.pinned (OpenSpec.ofChange fnExactTrainFromTimesSpec)

/-- ITS FALSE NEIGHBOUR: 'it returns false'. Refute it at one input. -/
def fnExactTrainFromTimesWrong : ChangeSpec := { name := "fnExactTrainFromTimes", fn := fun _ => fun
  | [d1, d2, d3] => { results := [.lit (.bool false)], args := [d1, d2, d3] }
  | _ => none }
def FnExactTrainFromTimesWrongFalsely : Prop := fnExactTrainFromTimesRow.holds Try.pinned (OpenSpec.ofChange fnExactTrainFromTimesWrong)

/-- 'laws.FnExactCatchSpeed': WHATEVER THE INPUT: true; the input reads as it did. -/
def fnExactCatchSpeedSpec : ChangeSpec := { name := "fnExactCatchSpeed", fn := fun _ => fun
  | [d1, d2, d3] => { results := [.lit (.bool true)], args := [d1, d2, d3] }
  | _ => none }
def fnExactCatchSpeedRow : OpenClaim := { program := "ytbklgehlapcejaa", sum := "80b4b7b5574033acfbeadd89f784c8b6c2107284fb08cf301ed569985052ffc7", func := "loop.example/g01335/laws.FnExactCatchSpeed", spec := "fnExactCatchSpeed", apart := false }
def FnExactCatchSpeedSaid : Prop := fnExactCatchSpeedRow.holds Try.pinned (OpenSpec.ofChange fnExactCatchSpeedSpec)

/-- ITS FALSE NEIGHBOUR: 'it returns false'. Refute it at one input. -/
def fnExactCatchSpeedWrong : ChangeSpec := { name := "fnExactCatchSpeed", fn := fun _ => fun
  | [d1, d2, d3] => { results := [.lit (.bool false)], args := [d1, d2, d3] }
  | _ => none }
def FnExactCatchSpeedWrongFalsely : Prop := fnExactCatchSpeedRow.holds Try.pinned (OpenSpec.ofChange fnExactCatchSpeedWrong)

/-- 'laws.FnExactMetAt': WHATEVER THE INPUT: true; the input reads as it did. -/
def fnExactMetAtSpec : ChangeSpec := { name := "fnExactMetAt", fn := fun _ => fun
  | [d1, d2, d3] => { results := [.lit (.bool true)], args := [d1, d2, d3] }
  | _ => none }
def fnExactMetAtRow : OpenClaim := { program := "ytbklgehlapcejaa", sum := "80b4b7b5574033acfbeadd89f784c8b6c2107284fb08cf301ed569985052ffc7", func := "loop.example/g01335/laws.FnExactMetAt", spec := "fnExactMetAt", apart := false }
def FnExactMetAtSaid : Prop := fnExactMetAtRow.holds Try.pinned (OpenSpec.ofChange fnExactMetAtSpec)

/-- ITS FALSE NEIGHBOUR: 'it returns false'. Refute it at one input. -/
def fnExactMetAtWrong : ChangeSpec := { name := "fnExactMetAt", fn := fun _ => fun
  | [d1, d2, d3] => { results := [.lit (.bool false)], args := [d1, d2, d3] }
  | _ => none }
def FnExactMetAtWrongFalsely : Prop := fnExactMetAtRow.holds Try.pinned (OpenSpec.ofChange fnExactMetAtWrong)

/-- 'laws.FnExactTurnChase': WHATEVER THE INPUT: true; the input reads as it did. -/
def fnExactTurnChaseSpec : ChangeSpec := { name := "fnExactTurnChase", fn := fun _ => fun
  | [d] => { results := [.lit (.bool true)], args := [d] }
  | _ => none }
def fnExactTurnChaseRow : OpenClaim := { program := "ytbklgehlapcejaa", sum := "80b4b7b5574033acfbeadd89f784c8b6c2107284fb08cf301ed569985052ffc7", func := "loop.example/g01335/laws.FnExactTurnChase", spec := "fnExactTurnChase", apart := false }
def FnExactTurnChaseSaid : Prop := fnExactTurnChaseRow.holds Try.pinned (OpenSpec.ofChange fnExactTurnChaseSpec)

/-- ITS FALSE NEIGHBOUR: 'it returns false'. Refute it at one input. -/
def fnExactTurnChaseWrong : ChangeSpec := { name := "fnExactTurnChase", fn := fun _ => fun
  | [d] => { results := [.lit (.bool false)], args := [d] }
  | _ => none }
def FnExactTurnChaseWrongFalsely : Prop := fnExactTurnChaseRow.holds Try.pinned (OpenSpec.ofChange fnExactTurnChaseWrong)

/-- 'laws.FnExactSlowestDog': WHATEVER THE INPUT: true; the input reads as it did. -/
def fnExactSlowestDogSpec : ChangeSpec := { name := "fnExactSlowestDog", fn := fun _ => fun
  | [d1, d2, d3] => { results := [.lit (.bool true)], args := [d1, d2, d3] }
  | _ => none }
def fnExactSlowestDogRow : OpenClaim := { program := "ytbklgehlapcejaa", sum := "80b4b7b5574033acfbeadd89f784c8b6c2107284fb08cf301ed569985052ffc7", func := "loop.example/g01335/laws.FnExactSlowestDog", spec := "fnExactSlowestDog", apart := false }
def FnExactSlowestDogSaid : Prop := fnExactSlowestDogRow.holds Try.pinned (OpenSpec.ofChange fnExactSlowestDogSpec)

/-- ITS FALSE NEIGHBOUR: 'it returns false'. Refute it at one input. -/
def fnExactSlowestDogWrong : ChangeSpec := { name := "fnExactSlowestDog", fn := fun _ => fun
  | [d1, d2, d3] => { results := [.lit (.bool false)], args := [d1, d2, d3] }
  | _ => none }
def FnExactSlowestDogWrongFalsely : Prop := fnExactSlowestDogRow.holds Try.pinned (OpenSpec.ofChange fnExactSlowestDogWrong)

/-- 'laws.FnExactPolePassing': WHATEVER THE INPUT: true; the input reads as it did. -/
def fnExactPolePassingSpec : ChangeSpec := { name := "fnExactPolePassing", fn := fun _ => fun
  | [d] => { results := [.lit (.bool true)], args := [d] }
  | _ => none }
def fnExactPolePassingRow : OpenClaim := { program := "ytbklgehlapcejaa", sum := "80b4b7b5574033acfbeadd89f784c8b6c2107284fb08cf301ed569985052ffc7", func := "loop.example/g01335/laws.FnExactPolePassing", spec := "fnExactPolePassing", apart := false }
def FnExactPolePassingSaid : Prop := fnExactPolePassingRow.holds Try.pinned (OpenSpec.ofChange fnExactPolePassingSpec)

/-- ITS FALSE NEIGHBOUR: 'it returns false'. Refute it at one input. -/
def fnExactPolePassingWrong : ChangeSpec := { name := "fnExactPolePassing", fn := fun _ => fun
  | [d] => { results := [.lit (.bool false)], args := [d] }
  | _ => none }
def FnExactPolePassingWrongFalsely : Prop := fnExactPolePassingRow.holds Try.pinned (OpenSpec.ofChange fnExactPolePassingWrong)

/-- 'laws.FnExactPassEachOther': WHATEVER THE INPUT: true; the input reads as it did. -/
def fnExactPassEachOtherSpec : ChangeSpec := { name := "fnExactPassEachOther", fn := fun _ => fun
  | [d1, d2] => { results := [.lit (.bool true)], args := [d1, d2] }
  | _ => none }
def fnExactPassEachOtherRow : OpenClaim := { program := "ytbklgehlapcejaa", sum := "80b4b7b5574033acfbeadd89f784c8b6c2107284fb08cf301ed569985052ffc7", func := "loop.example/g01335/laws.FnExactPassEachOther", spec := "fnExactPassEachOther", apart := false }
def FnExactPassEachOtherSaid : Prop := fnExactPassEachOtherRow.holds Try.pinned (OpenSpec.ofChange fnExactPassEachOtherSpec)

/-- ITS FALSE NEIGHBOUR: 'it returns false'. Refute it at one input. -/
def fnExactPassEachOtherWrong : ChangeSpec := { name := "fnExactPassEachOther", fn := fun _ => fun
  | [d1, d2] => { results := [.lit (.bool false)], args := [d1, d2] }
  | _ => none }
def FnExactPassEachOtherWrongFalsely : Prop := fnExactPassEachOtherRow.holds Try.pinned (OpenSpec.ofChange fnExactPassEachOtherWrong)

/- THE SECOND FORM. 'bulk': how many values and letters a reading holds, each counted each time it is reached (what is shared counts as often as it is met; a slice's spare places count too). A statement '..UptoSaid' is the law's where the arguments, and the package variables that the reading takes, are together of bulk at most 1048576: NARROWER than '..Said'. Prove '..Said' where nothing that the law and all that it calls make is longer than what came in: it says more and counts as full. Else prove '..UptoSaid'. A law counts once. -/
mutual
def uptoBulk {H : Type} : DataW H → Nat
  | .lit (.string bytes) => bytes.length + 1
  | .lit _ => 1
  | .nil => 1
  | .ptr d => uptoBulk d + 1
  | .slice elems spare => uptoBulkAll elems + uptoBulkAll spare + 1
  | .agg parts => uptoBulkAll parts + 1
  | .iface _ d => uptoBulk d + 1
  | .map entries => uptoBulkEntries entries + 1
  | .held _ => 1
def uptoBulkAll {H : Type} : List (DataW H) → Nat
  | [] => 0
  | d :: r => uptoBulk d + uptoBulkAll r
def uptoBulkEntries {H : Type} : List (Lit × DataW H) → Nat
  | [] => 0
  | x :: r => uptoBulkEntry x + uptoBulkEntries r
def uptoBulkEntry {H : Type} : Lit × DataW H → Nat
  | (.string bytes, d) => bytes.length + uptoBulk d + 1
  | (_, d) => uptoBulk d + 1
 end
def uptoSmall : (H : Type) → List (DataW H) → Bool := fun _ ds => decide (uptoBulkAll ds ≤ 1048576)
def OpenSpec.upto (s : _root_.Go.ChangeSpec) : _root_.Go.OpenSpec := { _root_.Go.OpenSpec.ofChange s with cond := some uptoSmall }

/-- 'laws.FnExactIsTrain', WHERE WHAT IT READS IS OF BULK AT MOST 1048576: true; the input reads as it did. -/
def fnExactIsTrainUptoRow : OpenClaim := { program := "ytbklgehlapcejaa", sum := "80b4b7b5574033acfbeadd89f784c8b6c2107284fb08cf301ed569985052ffc7", func := "loop.example/g01335/laws.FnExactIsTrain", spec := "fnExactIsTrain", apart := false, narrowed := true }
def FnExactIsTrainUptoSaid : Prop := fnExactIsTrainUptoRow.holds Try.pinned (OpenSpec.upto fnExactIsTrainSpec)

/-- 'laws.FnExactCountTrainsMet', WHERE WHAT IT READS IS OF BULK AT MOST 1048576: true; the input reads as it did. -/
def fnExactCountTrainsMetUptoRow : OpenClaim := { program := "ytbklgehlapcejaa", sum := "80b4b7b5574033acfbeadd89f784c8b6c2107284fb08cf301ed569985052ffc7", func := "loop.example/g01335/laws.FnExactCountTrainsMet", spec := "fnExactCountTrainsMet", apart := false, narrowed := true }
def FnExactCountTrainsMetUptoSaid : Prop := fnExactCountTrainsMetUptoRow.holds Try.pinned (OpenSpec.upto fnExactCountTrainsMetSpec)

/-- 'laws.FnExactIsChase', WHERE WHAT IT READS IS OF BULK AT MOST 1048576: true; the input reads as it did. -/
def fnExactIsChaseUptoRow : OpenClaim := { program := "ytbklgehlapcejaa", sum := "80b4b7b5574033acfbeadd89f784c8b6c2107284fb08cf301ed569985052ffc7", func := "loop.example/g01335/laws.FnExactIsChase", spec := "fnExactIsChase", apart := false, narrowed := true }
def FnExactIsChaseUptoSaid : Prop := fnExactIsChaseUptoRow.holds Try.pinned (OpenSpec.upto fnExactIsChaseSpec)

/-- 'laws.FnExactCanCatch', WHERE WHAT IT READS IS OF BULK AT MOST 1048576: true; the input reads as it did. -/
def fnExactCanCatchUptoRow : OpenClaim := { program := "ytbklgehlapcejaa", sum := "80b4b7b5574033acfbeadd89f784c8b6c2107284fb08cf301ed569985052ffc7", func := "loop.example/g01335/laws.FnExactCanCatch", spec := "fnExactCanCatch", apart := false, narrowed := true }
def FnExactCanCatchUptoSaid : Prop := fnExactCanCatchUptoRow.holds Try.pinned (OpenSpec.upto fnExactCanCatchSpec)

/-- 'laws.FnExactCatchLeaps', WHERE WHAT IT READS IS OF BULK AT MOST 1048576: true; the input reads as it did. -/
def fnExactCatchLeapsUptoRow : OpenClaim := { program := "ytbklgehlapcejaa", sum := "80b4b7b5574033acfbeadd89f784c8b6c2107284fb08cf301ed569985052ffc7", func := "loop.example/g01335/laws.FnExactCatchLeaps", spec := "fnExactCatchLeaps", apart := false, narrowed := true }
def FnExactCatchLeapsUptoSaid : Prop := fnExactCatchLeapsUptoRow.holds Try.pinned (OpenSpec.upto fnExactCatchLeapsSpec)

/-- 'laws.FnExactTrainFromTimes', WHERE WHAT IT READS IS OF BULK AT MOST 1048576: true; the input reads as it did. -/
def fnExactTrainFromTimesUptoRow : OpenClaim := { program := "ytbklgehlapcejaa", sum := "80b4b7b5574033acfbeadd89f784c8b6c2107284fb08cf301ed569985052ffc7", func := "loop.example/g01335/laws.FnExactTrainFromTimes", spec := "fnExactTrainFromTimes", apart := false, narrowed := true }
def FnExactTrainFromTimesUptoSaid : Prop := fnExactTrainFromTimesUptoRow.holds Try.pinned (OpenSpec.upto fnExactTrainFromTimesSpec)

/-- 'laws.FnExactCatchSpeed', WHERE WHAT IT READS IS OF BULK AT MOST 1048576: true; the input reads as it did. -/
def fnExactCatchSpeedUptoRow : OpenClaim := { program := "ytbklgehlapcejaa", sum := "80b4b7b5574033acfbeadd89f784c8b6c2107284fb08cf301ed569985052ffc7", func := "loop.example/g01335/laws.FnExactCatchSpeed", spec := "fnExactCatchSpeed", apart := false, narrowed := true }
def FnExactCatchSpeedUptoSaid : Prop := fnExactCatchSpeedUptoRow.holds Try.pinned (OpenSpec.upto fnExactCatchSpeedSpec)

/-- 'laws.FnExactMetAt', WHERE WHAT IT READS IS OF BULK AT MOST 1048576: true; the input reads as it did. -/
def fnExactMetAtUptoRow : OpenClaim := { program := "ytbklgehlapcejaa", sum := "80b4b7b5574033acfbeadd89f784c8b6c2107284fb08cf301ed569985052ffc7", func := "loop.example/g01335/laws.FnExactMetAt", spec := "fnExactMetAt", apart := false, narrowed := true }
def FnExactMetAtUptoSaid : Prop := fnExactMetAtUptoRow.holds Try.pinned (OpenSpec.upto fnExactMetAtSpec)

/-- 'laws.FnExactTurnChase', WHERE WHAT IT READS IS OF BULK AT MOST 1048576: true; the input reads as it did. -/
def fnExactTurnChaseUptoRow : OpenClaim := { program := "ytbklgehlapcejaa", sum := "80b4b7b5574033acfbeadd89f784c8b6c2107284fb08cf301ed569985052ffc7", func := "loop.example/g01335/laws.FnExactTurnChase", spec := "fnExactTurnChase", apart := false, narrowed := true }
def FnExactTurnChaseUptoSaid : Prop := fnExactTurnChaseUptoRow.holds Try.pinned (OpenSpec.upto fnExactTurnChaseSpec)

/-- 'laws.FnExactSlowestDog', WHERE WHAT IT READS IS OF BULK AT MOST 1048576: true; the input reads as it did. -/
def fnExactSlowestDogUptoRow : OpenClaim := { program := "ytbklgehlapcejaa", sum := "80b4b7b5574033acfbeadd89f784c8b6c2107284fb08cf301ed569985052ffc7", func := "loop.example/g01335/laws.FnExactSlowestDog", spec := "fnExactSlowestDog", apart := false, narrowed := true }
def FnExactSlowestDogUptoSaid : Prop := fnExactSlowestDogUptoRow.holds Try.pinned (OpenSpec.upto fnExactSlowestDogSpec)

/-- 'laws.FnExactPolePassing', WHERE WHAT IT READS IS OF BULK AT MOST 1048576: true; the input reads as it did. -/
def fnExactPolePassingUptoRow : OpenClaim := { program := "ytbklgehlapcejaa", sum := "80b4b7b5574033acfbeadd89f784c8b6c2107284fb08cf301ed569985052ffc7", func := "loop.example/g01335/laws.FnExactPolePassing", spec := "fnExactPolePassing", apart := false, narrowed := true }
def FnExactPolePassingUptoSaid : Prop := fnExactPolePassingUptoRow.holds Try.pinned (OpenSpec.upto fnExactPolePassingSpec)

/-- 'laws.FnExactPassEachOther', WHERE WHAT IT READS IS OF BULK AT MOST 1048576: true; the input reads as it did. -/
def fnExactPassEachOtherUptoRow : OpenClaim := { program := "ytbklgehlapcejaa", sum := "80b4b7b5574033acfbeadd89f784c8b6c2107284fb08cf301ed569985052ffc7", func := "loop.example/g01335/laws.FnExactPassEachOther", spec := "fnExactPassEachOther", apart := false, narrowed := true }
def FnExactPassEachOtherUptoSaid : Prop := fnExactPassEachOtherUptoRow.holds Try.pinned (OpenSpec.upto fnExactPassEachOtherSpec)

end Rows
end Go.Proofs.Ytbklgehlapcejaa
