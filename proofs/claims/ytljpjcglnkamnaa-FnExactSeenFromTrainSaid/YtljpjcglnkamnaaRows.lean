/-
  No cell of these rows narrows 'for every input' (looked for: loops, veiled, ifaces, maps, wideKeys, modest, calm, conditions, laid).
  DERIVED. THE GIVEN ROWS OF THIS SEAT. 12 by the template 'for every input the law returns true; each argument reads behind the call as it read before'; 0 by the template 'total and deterministic' (their statements: YtljpjcglnkamnaaTotals.lean).
  GIVEN WITH THE SEED: the statements are not yours to turn. If you find one false, say at which input.
  Laid BY PROGRAM, IN A SANDBOX (cutbox-rows.mjs): the forced cells as the released guide's own fill.sh prints them over the translation 87d4a1255c8121d9… (all of the seat's roots in one cut). By AI agents, Wed Nov 11 2026. No macro, syntax, notation, axiom, sorry.
-/
import Derived.Test.YtljpjcglnkamnaaChecked
import GoSem.Claim
import GoSem.ClaimJoined
import GoSem.ClaimMapViews
import Derived.JoinedTies
import Derived.KernelRfl
namespace Go.Proofs.Ytljpjcglnkamnaa
/- THE CELL 'sum', in the pinned program and in every row, IS THE sha256 OF THE DUMP (.gsa) THAT YtljpjcglnkamnaaProg.lean LOADS. Nothing in Lean hashes anything: it is a label: what it is worth is what the hold of that sum in a sandbox is worth. -/
noncomputable def Try.pinned : Pinned := { name := "ytljpjcglnkamnaa", sum := "87d4a1255c8121d94cf7666cfd9be6e3764d03f0d87057861686b9277cb4c1f0", checked := Try.checked }
namespace Rows
def none {H : Type} : Left H := { results := [], args := [] }

/-- 'laws.FnExactPassOvertaking': WHATEVER THE INPUT: true; the input reads as it did. -/
def fnExactPassOvertakingSpec : ChangeSpec := { name := "fnExactPassOvertaking", fn := fun _ => fun
  | [d1, d2] => { results := [.lit (.bool true)], args := [d1, d2] }
  | _ => none }
def fnExactPassOvertakingRow : OpenClaim := { program := "ytljpjcglnkamnaa", sum := "87d4a1255c8121d94cf7666cfd9be6e3764d03f0d87057861686b9277cb4c1f0", func := "loop.example/g01335/laws.FnExactPassOvertaking", spec := "fnExactPassOvertaking", apart := false }
def FnExactPassOvertakingSaid : Prop := fnExactPassOvertakingRow.holds Try.pinned (OpenSpec.ofChange fnExactPassOvertakingSpec)

/-- ITS FALSE NEIGHBOUR: 'it returns false'. Refute it at one input. -/
def fnExactPassOvertakingWrong : ChangeSpec := { name := "fnExactPassOvertaking", fn := fun _ => fun
  | [d1, d2] => { results := [.lit (.bool false)], args := [d1, d2] }
  | _ => none }
def FnExactPassOvertakingWrongFalsely : Prop := fnExactPassOvertakingRow.holds Try.pinned (OpenSpec.ofChange fnExactPassOvertakingWrong)

/-- 'laws.FnExactBridgePassing': WHATEVER THE INPUT: true; the input reads as it did. -/
def fnExactBridgePassingSpec : ChangeSpec := { name := "fnExactBridgePassing", fn := fun _ => fun
  | [d1, d2] => { results := [.lit (.bool true)], args := [d1, d2] }
  | _ => none }
def fnExactBridgePassingRow : OpenClaim := { program := "ytljpjcglnkamnaa", sum := "87d4a1255c8121d94cf7666cfd9be6e3764d03f0d87057861686b9277cb4c1f0", func := "loop.example/g01335/laws.FnExactBridgePassing", spec := "fnExactBridgePassing", apart := false }
def FnExactBridgePassingSaid : Prop := fnExactBridgePassingRow.holds Try.pinned (OpenSpec.ofChange fnExactBridgePassingSpec)

/-- ITS FALSE NEIGHBOUR: 'it returns false'. Refute it at one input. -/
def fnExactBridgePassingWrong : ChangeSpec := { name := "fnExactBridgePassing", fn := fun _ => fun
  | [d1, d2] => { results := [.lit (.bool false)], args := [d1, d2] }
  | _ => none }
def FnExactBridgePassingWrongFalsely : Prop := fnExactBridgePassingRow.holds Try.pinned (OpenSpec.ofChange fnExactBridgePassingWrong)

/-- 'laws.FnExactInsideTunnel': WHATEVER THE INPUT: true; the input reads as it did. -/
def fnExactInsideTunnelSpec : ChangeSpec := { name := "fnExactInsideTunnel", fn := fun _ => fun
  | [d1, d2] => { results := [.lit (.bool true)], args := [d1, d2] }
  | _ => none }
def fnExactInsideTunnelRow : OpenClaim := { program := "ytljpjcglnkamnaa", sum := "87d4a1255c8121d94cf7666cfd9be6e3764d03f0d87057861686b9277cb4c1f0", func := "loop.example/g01335/laws.FnExactInsideTunnel", spec := "fnExactInsideTunnel", apart := false }
def FnExactInsideTunnelSaid : Prop := fnExactInsideTunnelRow.holds Try.pinned (OpenSpec.ofChange fnExactInsideTunnelSpec)

/-- ITS FALSE NEIGHBOUR: 'it returns false'. Refute it at one input. -/
def fnExactInsideTunnelWrong : ChangeSpec := { name := "fnExactInsideTunnel", fn := fun _ => fun
  | [d1, d2] => { results := [.lit (.bool false)], args := [d1, d2] }
  | _ => none }
def FnExactInsideTunnelWrongFalsely : Prop := fnExactInsideTunnelRow.holds Try.pinned (OpenSpec.ofChange fnExactInsideTunnelWrong)

/-- 'laws.FnExactDogDistance': WHATEVER THE INPUT: true; the input reads as it did. -/
def fnExactDogDistanceSpec : ChangeSpec := { name := "fnExactDogDistance", fn := fun _ => fun
  | [d] => { results := [.lit (.bool true)], args := [d] }
  | _ => none }
def fnExactDogDistanceRow : OpenClaim := { program := "ytljpjcglnkamnaa", sum := "87d4a1255c8121d94cf7666cfd9be6e3764d03f0d87057861686b9277cb4c1f0", func := "loop.example/g01335/laws.FnExactDogDistance", spec := "fnExactDogDistance", apart := false }
def FnExactDogDistanceSaid : Prop := fnExactDogDistanceRow.holds Try.pinned (OpenSpec.ofChange fnExactDogDistanceSpec)

/-- ITS FALSE NEIGHBOUR: 'it returns false'. Refute it at one input. -/
def fnExactDogDistanceWrong : ChangeSpec := { name := "fnExactDogDistance", fn := fun _ => fun
  | [d] => { results := [.lit (.bool false)], args := [d] }
  | _ => none }
def FnExactDogDistanceWrongFalsely : Prop := fnExactDogDistanceRow.holds Try.pinned (OpenSpec.ofChange fnExactDogDistanceWrong)

/-- 'laws.FnExactTimeToMeet': WHATEVER THE INPUT: true; the input reads as it did. -/
def fnExactTimeToMeetSpec : ChangeSpec := { name := "fnExactTimeToMeet", fn := fun _ => fun
  | [d] => { results := [.lit (.bool true)], args := [d] }
  | _ => none }
def fnExactTimeToMeetRow : OpenClaim := { program := "ytljpjcglnkamnaa", sum := "87d4a1255c8121d94cf7666cfd9be6e3764d03f0d87057861686b9277cb4c1f0", func := "loop.example/g01335/laws.FnExactTimeToMeet", spec := "fnExactTimeToMeet", apart := false }
def FnExactTimeToMeetSaid : Prop := fnExactTimeToMeetRow.holds Try.pinned (OpenSpec.ofChange fnExactTimeToMeetSpec)

/-- ITS FALSE NEIGHBOUR: 'it returns false'. Refute it at one input. -/
def fnExactTimeToMeetWrong : ChangeSpec := { name := "fnExactTimeToMeet", fn := fun _ => fun
  | [d] => { results := [.lit (.bool false)], args := [d] }
  | _ => none }
def FnExactTimeToMeetWrongFalsely : Prop := fnExactTimeToMeetRow.holds Try.pinned (OpenSpec.ofChange fnExactTimeToMeetWrong)

/-- 'laws.FnExactMeetAfter': WHATEVER THE INPUT: true; the input reads as it did. -/
def fnExactMeetAfterSpec : ChangeSpec := { name := "fnExactMeetAfter", fn := fun _ => fun
  | [d1, d2, d3] => { results := [.lit (.bool true)], args := [d1, d2, d3] }
  | _ => none }
def fnExactMeetAfterRow : OpenClaim := { program := "ytljpjcglnkamnaa", sum := "87d4a1255c8121d94cf7666cfd9be6e3764d03f0d87057861686b9277cb4c1f0", func := "loop.example/g01335/laws.FnExactMeetAfter", spec := "fnExactMeetAfter", apart := false }
def FnExactMeetAfterSaid : Prop := fnExactMeetAfterRow.holds Try.pinned (OpenSpec.ofChange fnExactMeetAfterSpec)

/-- ITS FALSE NEIGHBOUR: 'it returns false'. Refute it at one input. -/
def fnExactMeetAfterWrong : ChangeSpec := { name := "fnExactMeetAfter", fn := fun _ => fun
  | [d1, d2, d3] => { results := [.lit (.bool false)], args := [d1, d2, d3] }
  | _ => none }
def FnExactMeetAfterWrongFalsely : Prop := fnExactMeetAfterRow.holds Try.pinned (OpenSpec.ofChange fnExactMeetAfterWrong)

/-- 'laws.FnExactDistanceOf': WHATEVER THE INPUT: true; the input reads as it did. -/
def fnExactDistanceOfSpec : ChangeSpec := { name := "fnExactDistanceOf", fn := fun _ => fun
  | [d] => { results := [.lit (.bool true)], args := [d] }
  | _ => none }
def fnExactDistanceOfRow : OpenClaim := { program := "ytljpjcglnkamnaa", sum := "87d4a1255c8121d94cf7666cfd9be6e3764d03f0d87057861686b9277cb4c1f0", func := "loop.example/g01335/laws.FnExactDistanceOf", spec := "fnExactDistanceOf", apart := false }
def FnExactDistanceOfSaid : Prop := fnExactDistanceOfRow.holds Try.pinned (OpenSpec.ofChange fnExactDistanceOfSpec)

/-- ITS FALSE NEIGHBOUR: 'it returns false'. Refute it at one input. -/
def fnExactDistanceOfWrong : ChangeSpec := { name := "fnExactDistanceOf", fn := fun _ => fun
  | [d] => { results := [.lit (.bool false)], args := [d] }
  | _ => none }
def FnExactDistanceOfWrongFalsely : Prop := fnExactDistanceOfRow.holds Try.pinned (OpenSpec.ofChange fnExactDistanceOfWrong)

/-- 'laws.FnExactRatioOfTurns': WHATEVER THE INPUT: true; the input reads as it did. -/
def fnExactRatioOfTurnsSpec : ChangeSpec := { name := "fnExactRatioOfTurns", fn := fun _ => fun
  | [d] => { results := [.lit (.bool true)], args := [d] }
  | _ => none }
def fnExactRatioOfTurnsRow : OpenClaim := { program := "ytljpjcglnkamnaa", sum := "87d4a1255c8121d94cf7666cfd9be6e3764d03f0d87057861686b9277cb4c1f0", func := "loop.example/g01335/laws.FnExactRatioOfTurns", spec := "fnExactRatioOfTurns", apart := false }
def FnExactRatioOfTurnsSaid : Prop := fnExactRatioOfTurnsRow.holds Try.pinned (OpenSpec.ofChange fnExactRatioOfTurnsSpec)

/-- ITS FALSE NEIGHBOUR: 'it returns false'. Refute it at one input. -/
def fnExactRatioOfTurnsWrong : ChangeSpec := { name := "fnExactRatioOfTurns", fn := fun _ => fun
  | [d] => { results := [.lit (.bool false)], args := [d] }
  | _ => none }
def FnExactRatioOfTurnsWrongFalsely : Prop := fnExactRatioOfTurnsRow.holds Try.pinned (OpenSpec.ofChange fnExactRatioOfTurnsWrong)

/-- 'laws.FnExactLeastHeadway': WHATEVER THE INPUT: true; the input reads as it did. -/
def fnExactLeastHeadwaySpec : ChangeSpec := { name := "fnExactLeastHeadway", fn := fun _ => fun
  | [d1, d2, d3] => { results := [.lit (.bool true)], args := [d1, d2, d3] }
  | _ => none }
def fnExactLeastHeadwayRow : OpenClaim := { program := "ytljpjcglnkamnaa", sum := "87d4a1255c8121d94cf7666cfd9be6e3764d03f0d87057861686b9277cb4c1f0", func := "loop.example/g01335/laws.FnExactLeastHeadway", spec := "fnExactLeastHeadway", apart := false }
def FnExactLeastHeadwaySaid : Prop := fnExactLeastHeadwayRow.holds Try.pinned (OpenSpec.ofChange fnExactLeastHeadwaySpec)

/-- ITS FALSE NEIGHBOUR: 'it returns false'. Refute it at one input. -/
def fnExactLeastHeadwayWrong : ChangeSpec := { name := "fnExactLeastHeadway", fn := fun _ => fun
  | [d1, d2, d3] => { results := [.lit (.bool false)], args := [d1, d2, d3] }
  | _ => none }
def FnExactLeastHeadwayWrongFalsely : Prop := fnExactLeastHeadwayRow.holds Try.pinned (OpenSpec.ofChange fnExactLeastHeadwayWrong)

/-- 'laws.FnExactOvertakeAfter': WHATEVER THE INPUT: true; the input reads as it did. -/
def fnExactOvertakeAfterSpec : ChangeSpec := { name := "fnExactOvertakeAfter", fn := fun _ => fun
  | [d1, d2, d3] => { results := [.lit (.bool true)], args := [d1, d2, d3] }
  | _ => none }
def fnExactOvertakeAfterRow : OpenClaim := { program := "ytljpjcglnkamnaa", sum := "87d4a1255c8121d94cf7666cfd9be6e3764d03f0d87057861686b9277cb4c1f0", func := "loop.example/g01335/laws.FnExactOvertakeAfter", spec := "fnExactOvertakeAfter", apart := false }
def FnExactOvertakeAfterSaid : Prop := fnExactOvertakeAfterRow.holds Try.pinned (OpenSpec.ofChange fnExactOvertakeAfterSpec)

/-- ITS FALSE NEIGHBOUR: 'it returns false'. Refute it at one input. -/
def fnExactOvertakeAfterWrong : ChangeSpec := { name := "fnExactOvertakeAfter", fn := fun _ => fun
  | [d1, d2, d3] => { results := [.lit (.bool false)], args := [d1, d2, d3] }
  | _ => none }
def FnExactOvertakeAfterWrongFalsely : Prop := fnExactOvertakeAfterRow.holds Try.pinned (OpenSpec.ofChange fnExactOvertakeAfterWrong)

/-- 'laws.FnExactPassWalker': WHATEVER THE INPUT: true; the input reads as it did. -/
def fnExactPassWalkerSpec : ChangeSpec := { name := "fnExactPassWalker", fn := fun _ => fun
  | [d1, d2, d3] => { results := [.lit (.bool true)], args := [d1, d2, d3] }
  | _ => none }
def fnExactPassWalkerRow : OpenClaim := { program := "ytljpjcglnkamnaa", sum := "87d4a1255c8121d94cf7666cfd9be6e3764d03f0d87057861686b9277cb4c1f0", func := "loop.example/g01335/laws.FnExactPassWalker", spec := "fnExactPassWalker", apart := false }
def FnExactPassWalkerSaid : Prop := fnExactPassWalkerRow.holds Try.pinned (OpenSpec.ofChange fnExactPassWalkerSpec)

/-- ITS FALSE NEIGHBOUR: 'it returns false'. Refute it at one input. -/
def fnExactPassWalkerWrong : ChangeSpec := { name := "fnExactPassWalker", fn := fun _ => fun
  | [d1, d2, d3] => { results := [.lit (.bool false)], args := [d1, d2, d3] }
  | _ => none }
def FnExactPassWalkerWrongFalsely : Prop := fnExactPassWalkerRow.holds Try.pinned (OpenSpec.ofChange fnExactPassWalkerWrong)

/-- 'laws.FnExactSeenFromTrain': WHATEVER THE INPUT: true; the input reads as it did. -/
def fnExactSeenFromTrainSpec : ChangeSpec := { name := "fnExactSeenFromTrain", fn := fun _ => fun
  | [d1, d2, d3] => { results := [.lit (.bool true)], args := [d1, d2, d3] }
  | _ => none }
def fnExactSeenFromTrainRow : OpenClaim := { program := "ytljpjcglnkamnaa", sum := "87d4a1255c8121d94cf7666cfd9be6e3764d03f0d87057861686b9277cb4c1f0", func := "loop.example/g01335/laws.FnExactSeenFromTrain", spec := "fnExactSeenFromTrain", apart := false }
def FnExactSeenFromTrainSaid : Prop := fnExactSeenFromTrainRow.holds Try.pinned (OpenSpec.ofChange fnExactSeenFromTrainSpec)

/-- ITS FALSE NEIGHBOUR: 'it returns false'. Refute it at one input. -/
def fnExactSeenFromTrainWrong : ChangeSpec := { name := "fnExactSeenFromTrain", fn := fun _ => fun
  | [d1, d2, d3] => { results := [.lit (.bool false)], args := [d1, d2, d3] }
  | _ => none }
def FnExactSeenFromTrainWrongFalsely : Prop := fnExactSeenFromTrainRow.holds Try.pinned (OpenSpec.ofChange fnExactSeenFromTrainWrong)

/- THE SECOND FORM. 'bulk': how many values and letters a reading holds, each counted each time it is reached (what is shared counts as often as it is met; a slice's spare places count too). A statement '..UptoSaid' is the law's where the arguments, and the package variables that the reading takes, are together of bulk at most 1048576: NARROWER than '..Said'. Prove '..Said' where nothing that the law and all that it calls make is longer than what came in: it says more and counts as full. Else prove '..UptoSaid'. A law counts once. -/
mutual
def uptoBulk {H : Type} : DataW H → Nat
  | .lit (.string bytes) => bytes.length + 1
  | .lit _ => 1
  | .nil => 1
  | .ptr d => uptoBulk d + 1
  | .slice elems spare => uptoBulkAll elems + uptoBulkAll spare + 1
  | .agg parts => uptoBulkAll parts + 1
  | .iface _ d => uptoBulk d + 1
  | .map entries => uptoBulkEntries entries + 1
  | .held _ => 1
def uptoBulkAll {H : Type} : List (DataW H) → Nat
  | [] => 0
  | d :: r => uptoBulk d + uptoBulkAll r
def uptoBulkEntries {H : Type} : List (Lit × DataW H) → Nat
  | [] => 0
  | x :: r => uptoBulkEntry x + uptoBulkEntries r
def uptoBulkEntry {H : Type} : Lit × DataW H → Nat
  | (.string bytes, d) => bytes.length + uptoBulk d + 1
  | (_, d) => uptoBulk d + 1
 end
def uptoSmall : (H : Type) → List (DataW H) → Bool := fun _ ds => decide (uptoBulkAll ds ≤ 1048576)
def OpenSpec.upto (s : _root_.Go.ChangeSpec) : _root_.Go.OpenSpec := { _root_.Go.OpenSpec.ofChange s with cond := some uptoSmall }

/-- 'laws.FnExactPassOvertaking', WHERE WHAT IT READS IS OF BULK AT MOST 1048576: true; the input reads as it did. -/
def fnExactPassOvertakingUptoRow : OpenClaim := { program := "ytljpjcglnkamnaa", sum := "87d4a1255c8121d94cf7666cfd9be6e3764d03f0d87057861686b9277cb4c1f0", func := "loop.example/g01335/laws.FnExactPassOvertaking", spec := "fnExactPassOvertaking", apart := false, narrowed := true }
def FnExactPassOvertakingUptoSaid : Prop := fnExactPassOvertakingUptoRow.holds Try.pinned (OpenSpec.upto fnExactPassOvertakingSpec)

/-- 'laws.FnExactBridgePassing', WHERE WHAT IT READS IS OF BULK AT MOST 1048576: true; the input reads as it did. -/
def fnExactBridgePassingUptoRow : OpenClaim := { program := "ytljpjcglnkamnaa", sum := "87d4a1255c8121d94cf7666cfd9be6e3764d03f0d87057861686b9277cb4c1f0", func := "loop.example/g01335/laws.FnExactBridgePassing", spec := "fnExactBridgePassing", apart := false, narrowed := true }
def FnExactBridgePassingUptoSaid : Prop := fnExactBridgePassingUptoRow.holds Try.pinned (OpenSpec.upto fnExactBridgePassingSpec)

/-- 'laws.FnExactInsideTunnel', WHERE WHAT IT READS IS OF BULK AT MOST 1048576: true; the input reads as it did. -/
def fnExactInsideTunnelUptoRow : OpenClaim := { program := "ytljpjcglnkamnaa", sum := "87d4a1255c8121d94cf7666cfd9be6e3764d03f0d87057861686b9277cb4c1f0", func := "loop.example/g01335/laws.FnExactInsideTunnel", spec := "fnExactInsideTunnel", apart := false, narrowed := true }
def FnExactInsideTunnelUptoSaid : Prop := fnExactInsideTunnelUptoRow.holds Try.pinned (OpenSpec.upto fnExactInsideTunnelSpec)

/-- 'laws.FnExactDogDistance', WHERE WHAT IT READS IS OF BULK AT MOST 1048576: true; the input reads as it did. -/
def fnExactDogDistanceUptoRow : OpenClaim := { program := "ytljpjcglnkamnaa", sum := "87d4a1255c8121d94cf7666cfd9be6e3764d03f0d87057861686b9277cb4c1f0", func := "loop.example/g01335/laws.FnExactDogDistance", spec := "fnExactDogDistance", apart := false, narrowed := true }
def FnExactDogDistanceUptoSaid : Prop := fnExactDogDistanceUptoRow.holds Try.pinned (OpenSpec.upto fnExactDogDistanceSpec)

/-- 'laws.FnExactTimeToMeet', WHERE WHAT IT READS IS OF BULK AT MOST 1048576: true; the input reads as it did. -/
def fnExactTimeToMeetUptoRow : OpenClaim := { program := "ytljpjcglnkamnaa", sum := "87d4a1255c8121d94cf7666cfd9be6e3764d03f0d87057861686b9277cb4c1f0", func := "loop.example/g01335/laws.FnExactTimeToMeet", spec := "fnExactTimeToMeet", apart := false, narrowed := true }
def FnExactTimeToMeetUptoSaid : Prop := fnExactTimeToMeetUptoRow.holds Try.pinned (OpenSpec.upto fnExactTimeToMeetSpec)

/-- 'laws.FnExactMeetAfter', WHERE WHAT IT READS IS OF BULK AT MOST 1048576: true; the input reads as it did. -/
def fnExactMeetAfterUptoRow : OpenClaim := { program := "ytljpjcglnkamnaa", sum := "87d4a1255c8121d94cf7666cfd9be6e3764d03f0d87057861686b9277cb4c1f0", func := "loop.example/g01335/laws.FnExactMeetAfter", spec := "fnExactMeetAfter", apart := false, narrowed := true }
def FnExactMeetAfterUptoSaid : Prop := fnExactMeetAfterUptoRow.holds Try.pinned (OpenSpec.upto fnExactMeetAfterSpec)

/-- 'laws.FnExactDistanceOf', WHERE WHAT IT READS IS OF BULK AT MOST 1048576: true; the input reads as it did. -/
def fnExactDistanceOfUptoRow : OpenClaim := { program := "ytljpjcglnkamnaa", sum := "87d4a1255c8121d94cf7666cfd9be6e3764d03f0d87057861686b9277cb4c1f0", func := "loop.example/g01335/laws.FnExactDistanceOf", spec := "fnExactDistanceOf", apart := false, narrowed := true }
def FnExactDistanceOfUptoSaid : Prop := fnExactDistanceOfUptoRow.holds Try.pinned (OpenSpec.upto fnExactDistanceOfSpec)

/-- 'laws.FnExactRatioOfTurns', WHERE WHAT IT READS IS OF BULK AT MOST 1048576: true; the input reads as it did. -/
def fnExactRatioOfTurnsUptoRow : OpenClaim := { program := "ytljpjcglnkamnaa", sum := "87d4a1255c8121d94cf7666cfd9be6e3764d03f0d87057861686b9277cb4c1f0", func := "loop.example/g01335/laws.FnExactRatioOfTurns", spec := "fnExactRatioOfTurns", apart := false, narrowed := true }
def FnExactRatioOfTurnsUptoSaid : Prop := fnExactRatioOfTurnsUptoRow.holds Try.pinned (OpenSpec.upto fnExactRatioOfTurnsSpec)

/-- 'laws.FnExactLeastHeadway', WHERE WHAT IT READS IS OF BULK AT MOST 1048576: true; the input reads as it did. -/
def fnExactLeastHeadwayUptoRow : OpenClaim := { program := "ytljpjcglnkamnaa", sum := "87d4a1255c8121d94cf7666cfd9be6e3764d03f0d87057861686b9277cb4c1f0", func := "loop.example/g01335/laws.FnExactLeastHeadway", spec := "fnExactLeastHeadway", apart := false, narrowed := true }
def FnExactLeastHeadwayUptoSaid : Prop := fnExactLeastHeadwayUptoRow.holds Try.pinned (OpenSpec.upto fnExactLeastHeadwaySpec)

/-- 'laws.FnExactOvertakeAfter', WHERE WHAT IT READS IS OF BULK AT MOST 1048576: true; the input reads as it did. -/
def fnExactOvertakeAfterUptoRow : OpenClaim := { program := "ytljpjcglnkamnaa", sum := "87d4a1255c8121d94cf7666cfd9be6e3764d03f0d87057861686b9277cb4c1f0", func := "loop.example/g01335/laws.FnExactOvertakeAfter", spec := "fnExactOvertakeAfter", apart := false, narrowed := true }
def FnExactOvertakeAfterUptoSaid : Prop := fnExactOvertakeAfterUptoRow.holds Try.pinned (OpenSpec.upto fnExactOvertakeAfterSpec)

/-- 'laws.FnExactPassWalker', WHERE WHAT IT READS IS OF BULK AT MOST 1048576: true; the input reads as it did. -/
def fnExactPassWalkerUptoRow : OpenClaim := { program := "ytljpjcglnkamnaa", sum := "87d4a1255c8121d94cf7666cfd9be6e3764d03f0d87057861686b9277cb4c1f0", func := "loop.example/g01335/laws.FnExactPassWalker", spec := "fnExactPassWalker", apart := false, narrowed := true }
def FnExactPassWalkerUptoSaid : Prop := fnExactPassWalkerUptoRow.holds Try.pinned (OpenSpec.upto fnExactPassWalkerSpec)

/-- 'laws.FnExactSeenFromTrain', WHERE WHAT IT READS IS OF BULK AT MOST 1048576: true; the input reads as it did. -/
def fnExactSeenFromTrainUptoRow : OpenClaim := { program := "ytljpjcglnkamnaa", sum := "87d4a1255c8121d94cf7666cfd9be6e3764d03f0d87057861686b9277cb4c1f0", func := "loop.example/g01335/laws.FnExactSeenFromTrain", spec := "fnExactSeenFromTrain", apart := false, narrowed := true }
def FnExactSeenFromTrainUptoSaid : Prop := fnExactSeenFromTrainUptoRow.holds Try.pinned (OpenSpec.upto fnExactSeenFromTrainSpec)

end Rows
end Go.Proofs.Ytljpjcglnkamnaa
