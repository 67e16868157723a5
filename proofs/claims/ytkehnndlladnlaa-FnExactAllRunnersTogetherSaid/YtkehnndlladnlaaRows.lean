/-
  No cell of these rows narrows 'for every input' (looked for: loops, veiled, ifaces, maps, wideKeys, modest, calm, conditions, laid).
  DERIVED. THE GIVEN ROWS OF THIS SEAT. 9 by the template 'for every input the law returns true; each argument reads behind the call as it read before'; 0 by the template 'total and deterministic' (their statements: YtkehnndlladnlaaTotals.lean).
  GIVEN WITH THE SEED: the statements are not yours to turn. If you find one false, say at which input.
  Laid BY PROGRAM, IN A SANDBOX (cutbox-rows.mjs): the forced cells as the released guide's own fill.sh prints them over the translation 4d3288bc0130c268… (all of the seat's roots in one cut). By AI agents, Wed Nov 11 2026. No macro, syntax, notation, axiom, sorry.
-/
import Derived.Test.YtkehnndlladnlaaChecked
import GoSem.Claim
import GoSem.ClaimJoined
import GoSem.ClaimMapViews
import Derived.JoinedTies
import Derived.KernelRfl
namespace Go.Proofs.Ytkehnndlladnlaa
/- THE CELL 'sum', in the pinned program and in every row, IS THE sha256 OF THE DUMP (.gsa) THAT YtkehnndlladnlaaProg.lean LOADS. Nothing in Lean hashes anything: it is a label: what it is worth is what the hold of that sum in a sandbox is worth. -/
noncomputable def Try.pinned : Pinned := { name := "ytkehnndlladnlaa", sum := "4d3288bc0130c2689e51562209aadcf040f342095c7fd02ef77cb8742d3315ff", checked := Try.checked }
namespace Rows
def none {H : Type} : Left H := { results := [], args := [] }

/-- 'laws.FnExactCountOvertakings': WHATEVER THE INPUT: true; the input reads as it did. -/
def fnExactCountOvertakingsSpec : ChangeSpec := { name := "fnExactCountOvertakings", fn := fun _ => fun
  | [d1, d2, d3, d4] => { results := [.lit (.bool true)], args := [d1, d2, d3, d4] }
  | _ => none }
def fnExactCountOvertakingsRow : OpenClaim := { program := "ytkehnndlladnlaa", sum := "4d3288bc0130c2689e51562209aadcf040f342095c7fd02ef77cb8742d3315ff", func := "loop.example/g01335/laws.FnExactCountOvertakings", spec := "fnExactCountOvertakings", unfollowed := true, recurses := true, apart := false }
def FnExactCountOvertakingsSaid : Prop := fnExactCountOvertakingsRow.holds Try.pinned (OpenSpec.ofChange fnExactCountOvertakingsSpec)

/-- ITS FALSE NEIGHBOUR: 'it returns false'. Refute it at one input. -/
def fnExactCountOvertakingsWrong : ChangeSpec := { name := "fnExactCountOvertakings", fn := fun _ => fun
  | [d1, d2, d3, d4] => { results := [.lit (.bool false)], args := [d1, d2, d3, d4] }
  | _ => none }
def FnExactCountOvertakingsWrongFalsely : Prop := fnExactCountOvertakingsRow.holds Try.pinned (OpenSpec.ofChange fnExactCountOvertakingsWrong)

/-- 'laws.FnExactAreRunners': WHATEVER THE INPUT: true; the input reads as it did. -/
def fnExactAreRunnersSpec : ChangeSpec := { name := "fnExactAreRunners", fn := fun _ => fun
  | [d1, d2] => { results := [.lit (.bool true)], args := [d1, d2] }
  | _ => none }
def fnExactAreRunnersRow : OpenClaim := { program := "ytkehnndlladnlaa", sum := "4d3288bc0130c2689e51562209aadcf040f342095c7fd02ef77cb8742d3315ff", func := "loop.example/g01335/laws.FnExactAreRunners", spec := "fnExactAreRunners", unfollowed := true, recurses := true, apart := false }
def FnExactAreRunnersSaid : Prop := fnExactAreRunnersRow.holds Try.pinned (OpenSpec.ofChange fnExactAreRunnersSpec)

/-- ITS FALSE NEIGHBOUR: 'it returns false'. Refute it at one input. -/
def fnExactAreRunnersWrong : ChangeSpec := { name := "fnExactAreRunners", fn := fun _ => fun
  | [d1, d2] => { results := [.lit (.bool false)], args := [d1, d2] }
  | _ => none }
def FnExactAreRunnersWrongFalsely : Prop := fnExactAreRunnersRow.holds Try.pinned (OpenSpec.ofChange fnExactAreRunnersWrong)

/-- 'laws.FnExactMeetingTimes': WHATEVER THE INPUT: true; the input reads as it did. -/
def fnExactMeetingTimesSpec : ChangeSpec := { name := "fnExactMeetingTimes", fn := fun _ => fun
  | [d1, d2, d3, d4] => { results := [.lit (.bool true)], args := [d1, d2, d3, d4] }
  | _ => none }
def fnExactMeetingTimesRow : OpenClaim := { program := "ytkehnndlladnlaa", sum := "4d3288bc0130c2689e51562209aadcf040f342095c7fd02ef77cb8742d3315ff", func := "loop.example/g01335/laws.FnExactMeetingTimes", spec := "fnExactMeetingTimes", unfollowed := true, recurses := true, apart := false }
def FnExactMeetingTimesSaid : Prop := fnExactMeetingTimesRow.holds Try.pinned (OpenSpec.ofChange fnExactMeetingTimesSpec)

/-- ITS FALSE NEIGHBOUR: 'it returns false'. Refute it at one input. -/
def fnExactMeetingTimesWrong : ChangeSpec := { name := "fnExactMeetingTimes", fn := fun _ => fun
  | [d1, d2, d3, d4] => { results := [.lit (.bool false)], args := [d1, d2, d3, d4] }
  | _ => none }
def FnExactMeetingTimesWrongFalsely : Prop := fnExactMeetingTimesRow.holds Try.pinned (OpenSpec.ofChange fnExactMeetingTimesWrong)

/-- 'laws.FnExactFitsSiding': WHATEVER THE INPUT: true; the input reads as it did. -/
def fnExactFitsSidingSpec : ChangeSpec := { name := "fnExactFitsSiding", fn := fun _ => fun
  | [d1, d2] => { results := [.lit (.bool true)], args := [d1, d2] }
  | _ => none }
def fnExactFitsSidingRow : OpenClaim := { program := "ytkehnndlladnlaa", sum := "4d3288bc0130c2689e51562209aadcf040f342095c7fd02ef77cb8742d3315ff", func := "loop.example/g01335/laws.FnExactFitsSiding", spec := "fnExactFitsSiding", unfollowed := true, recurses := true, apart := false }
def FnExactFitsSidingSaid : Prop := fnExactFitsSidingRow.holds Try.pinned (OpenSpec.ofChange fnExactFitsSidingSpec)

/-- ITS FALSE NEIGHBOUR: 'it returns false'. Refute it at one input. -/
def fnExactFitsSidingWrong : ChangeSpec := { name := "fnExactFitsSiding", fn := fun _ => fun
  | [d1, d2] => { results := [.lit (.bool false)], args := [d1, d2] }
  | _ => none }
def FnExactFitsSidingWrongFalsely : Prop := fnExactFitsSidingRow.holds Try.pinned (OpenSpec.ofChange fnExactFitsSidingWrong)

/-- 'laws.FnExactRunPeriod': WHATEVER THE INPUT: true; the input reads as it did. -/
def fnExactRunPeriodSpec : ChangeSpec := { name := "fnExactRunPeriod", fn := fun _ => fun
  | [d1, d2] => { results := [.lit (.bool true)], args := [d1, d2] }
  | _ => none }
def fnExactRunPeriodRow : OpenClaim := { program := "ytkehnndlladnlaa", sum := "4d3288bc0130c2689e51562209aadcf040f342095c7fd02ef77cb8742d3315ff", func := "loop.example/g01335/laws.FnExactRunPeriod", spec := "fnExactRunPeriod", unfollowed := true, recurses := true, apart := false }
def FnExactRunPeriodSaid : Prop := fnExactRunPeriodRow.holds Try.pinned (OpenSpec.ofChange fnExactRunPeriodSpec)

/-- ITS FALSE NEIGHBOUR: 'it returns false'. Refute it at one input. -/
def fnExactRunPeriodWrong : ChangeSpec := { name := "fnExactRunPeriod", fn := fun _ => fun
  | [d1, d2] => { results := [.lit (.bool false)], args := [d1, d2] }
  | _ => none }
def FnExactRunPeriodWrongFalsely : Prop := fnExactRunPeriodRow.holds Try.pinned (OpenSpec.ofChange fnExactRunPeriodWrong)

/-- 'laws.FnExactAllRunnersTogether': WHATEVER THE INPUT: true; the input reads as it did. -/
def fnExactAllRunnersTogetherSpec : ChangeSpec := { name := "fnExactAllRunnersTogether", fn := fun _ => fun
  | [d1, d2] => { results := [.lit (.bool true)], args := [d1, d2] }
  | _ => none }
def fnExactAllRunnersTogetherRow : OpenClaim := { program := "ytkehnndlladnlaa", sum := "4d3288bc0130c2689e51562209aadcf040f342095c7fd02ef77cb8742d3315ff", func := "loop.example/g01335/laws.FnExactAllRunnersTogether", spec := "fnExactAllRunnersTogether", unfollowed := true, recurses := true, apart := false }
def FnExactAllRunnersTogetherSaid : Prop := fnExactAllRunnersTogetherRow.holds Try.pinned (OpenSpec.ofChange fnExactAllRunnersTogetherSpec)

/-- ITS FALSE NEIGHBOUR: 'it returns false'. Refute it at one input. -/
def fnExactAllRunnersTogetherWrong : ChangeSpec := { name := "fnExactAllRunnersTogether", fn := fun _ => fun
  | [d1, d2] => { results := [.lit (.bool false)], args := [d1, d2] }
  | _ => none }
def FnExactAllRunnersTogetherWrongFalsely : Prop := fnExactAllRunnersTogetherRow.holds Try.pinned (OpenSpec.ofChange fnExactAllRunnersTogetherWrong)

/-- 'laws.FnExactNearestOthers': WHATEVER THE INPUT: true; the input reads as it did. -/
def fnExactNearestOthersSpec : ChangeSpec := { name := "fnExactNearestOthers", fn := fun _ => fun
  | [d1, d2, d3, d4] => { results := [.lit (.bool true)], args := [d1, d2, d3, d4] }
  | _ => none }
def fnExactNearestOthersRow : OpenClaim := { program := "ytkehnndlladnlaa", sum := "4d3288bc0130c2689e51562209aadcf040f342095c7fd02ef77cb8742d3315ff", func := "loop.example/g01335/laws.FnExactNearestOthers", spec := "fnExactNearestOthers", unfollowed := true, recurses := true, apart := false }
def FnExactNearestOthersSaid : Prop := fnExactNearestOthersRow.holds Try.pinned (OpenSpec.ofChange fnExactNearestOthersSpec)

/-- ITS FALSE NEIGHBOUR: 'it returns false'. Refute it at one input. -/
def fnExactNearestOthersWrong : ChangeSpec := { name := "fnExactNearestOthers", fn := fun _ => fun
  | [d1, d2, d3, d4] => { results := [.lit (.bool false)], args := [d1, d2, d3, d4] }
  | _ => none }
def FnExactNearestOthersWrongFalsely : Prop := fnExactNearestOthersRow.holds Try.pinned (OpenSpec.ofChange fnExactNearestOthersWrong)

/-- 'laws.FnExactWinnerOfLaps': WHATEVER THE INPUT: true; the input reads as it did. -/
def fnExactWinnerOfLapsSpec : ChangeSpec := { name := "fnExactWinnerOfLaps", fn := fun _ => fun
  | [d1, d2, d3] => { results := [.lit (.bool true)], args := [d1, d2, d3] }
  | _ => none }
def fnExactWinnerOfLapsRow : OpenClaim := { program := "ytkehnndlladnlaa", sum := "4d3288bc0130c2689e51562209aadcf040f342095c7fd02ef77cb8742d3315ff", func := "loop.example/g01335/laws.FnExactWinnerOfLaps", spec := "fnExactWinnerOfLaps", unfollowed := true, recurses := true, apart := false }
def FnExactWinnerOfLapsSaid : Prop := fnExactWinnerOfLapsRow.holds Try.pinned (OpenSpec.ofChange fnExactWinnerOfLapsSpec)

/-- ITS FALSE NEIGHBOUR: 'it returns false'. Refute it at one input. -/
def fnExactWinnerOfLapsWrong : ChangeSpec := { name := "fnExactWinnerOfLaps", fn := fun _ => fun
  | [d1, d2, d3] => { results := [.lit (.bool false)], args := [d1, d2, d3] }
  | _ => none }
def FnExactWinnerOfLapsWrongFalsely : Prop := fnExactWinnerOfLapsRow.holds Try.pinned (OpenSpec.ofChange fnExactWinnerOfLapsWrong)

/-- 'laws.FnExactLonelyTime': WHATEVER THE INPUT: true; the input reads as it did. -/
def fnExactLonelyTimeSpec : ChangeSpec := { name := "fnExactLonelyTime", fn := fun _ => fun
  | [d1, d2, d3] => { results := [.lit (.bool true)], args := [d1, d2, d3] }
  | _ => none }
def fnExactLonelyTimeRow : OpenClaim := { program := "ytkehnndlladnlaa", sum := "4d3288bc0130c2689e51562209aadcf040f342095c7fd02ef77cb8742d3315ff", func := "loop.example/g01335/laws.FnExactLonelyTime", spec := "fnExactLonelyTime", unfollowed := true, recurses := true, apart := false }
def FnExactLonelyTimeSaid : Prop := fnExactLonelyTimeRow.holds Try.pinned (OpenSpec.ofChange fnExactLonelyTimeSpec)

/-- ITS FALSE NEIGHBOUR: 'it returns false'. Refute it at one input. -/
def fnExactLonelyTimeWrong : ChangeSpec := { name := "fnExactLonelyTime", fn := fun _ => fun
  | [d1, d2, d3] => { results := [.lit (.bool false)], args := [d1, d2, d3] }
  | _ => none }
def FnExactLonelyTimeWrongFalsely : Prop := fnExactLonelyTimeRow.holds Try.pinned (OpenSpec.ofChange fnExactLonelyTimeWrong)

/- THE SECOND FORM. 'bulk': how many values and letters a reading holds, each counted each time it is reached (what is shared counts as often as it is met; a slice's spare places count too). A statement '..UptoSaid' is the law's where the arguments, and the package variables that the reading takes, are together of bulk at most 1048576: NARROWER than '..Said'. Prove '..Said' where nothing that the law and all that it calls make is longer than what came in: it says more and counts as full. Else prove '..UptoSaid'. A law counts once. -/
mutual
def uptoBulk {H : Type} : DataW H → Nat
  | .lit (.string bytes) => bytes.length + 1
  | .lit _ => 1
  | .nil => 1
  | .ptr d => uptoBulk d + 1
  | .slice elems spare => uptoBulkAll elems + uptoBulkAll spare + 1
  | .agg parts => uptoBulkAll parts + 1
  | .iface _ d => uptoBulk d + 1
  | .map entries => uptoBulkEntries entries + 1
  | .held _ => 1
def uptoBulkAll {H : Type} : List (DataW H) → Nat
  | [] => 0
  | d :: r => uptoBulk d + uptoBulkAll r
def uptoBulkEntries {H : Type} : List (Lit × DataW H) → Nat
  | [] => 0
  | x :: r => uptoBulkEntry x + uptoBulkEntries r
def uptoBulkEntry {H : Type} : Lit × DataW H → Nat
  | (.string bytes, d) => bytes.length + uptoBulk d + 1
  | (_, d) => uptoBulk d + 1
 end
def uptoSmall : (H : Type) → List (DataW H) → Bool := fun _ ds => decide (uptoBulkAll ds ≤ 1048576)
def OpenSpec.upto (s : _root_.Go.ChangeSpec) : _root_.Go.OpenSpec := { _root_.Go.OpenSpec.ofChange s with cond := some uptoSmall }

/-- 'laws.FnExactCountOvertakings', WHERE WHAT IT READS IS OF BULK AT MOST 1048576: true; the input reads as it did. -/
def fnExactCountOvertakingsUptoRow : OpenClaim := { program := "ytkehnndlladnlaa", sum := "4d3288bc0130c2689e51562209aadcf040f342095c7fd02ef77cb8742d3315ff", func := "loop.example/g01335/laws.FnExactCountOvertakings", spec := "fnExactCountOvertakings", unfollowed := true, recurses := true, apart := false, narrowed := true }
def FnExactCountOvertakingsUptoSaid : Prop := fnExactCountOvertakingsUptoRow.holds Try.pinned (OpenSpec.upto fnExactCountOvertakingsSpec)

/-- 'laws.FnExactAreRunners', WHERE WHAT IT READS IS OF BULK AT MOST 1048576: true; the input reads as it did. -/
def fnExactAreRunnersUptoRow : OpenClaim := { program := "ytkehnndlladnlaa", sum := "4d3288bc0130c2689e51562209aadcf040f342095c7fd02ef77cb8742d3315ff", func := "loop.example/g01335/laws.FnExactAreRunners", spec := "fnExactAreRunners", unfollowed := true, recurses := true, apart := false, narrowed := true }
def FnExactAreRunnersUptoSaid : Prop := fnExactAreRunnersUptoRow.holds Try.pinned (OpenSpec.upto fnExactAreRunnersSpec)

/-- 'laws.FnExactMeetingTimes', WHERE WHAT IT READS IS OF BULK AT MOST 1048576: true; the input reads as it did. -/
def fnExactMeetingTimesUptoRow : OpenClaim := { program := "ytkehnndlladnlaa", sum := "4d3288bc0130c2689e51562209aadcf040f342095c7fd02ef77cb8742d3315ff", func := "loop.example/g01335/laws.FnExactMeetingTimes", spec := "fnExactMeetingTimes", unfollowed := true, recurses := true, apart := false, narrowed := true }
def FnExactMeetingTimesUptoSaid : Prop := fnExactMeetingTimesUptoRow.holds Try.pinned (OpenSpec.upto fnExactMeetingTimesSpec)

/-- 'laws.FnExactFitsSiding', WHERE WHAT IT READS IS OF BULK AT MOST 1048576: true; the input reads as it did. -/
def fnExactFitsSidingUptoRow : OpenClaim := { program := "ytkehnndlladnlaa", sum := "4d3288bc0130c2689e51562209aadcf040f342095c7fd02ef77cb8742d3315ff", func := "loop.example/g01335/laws.FnExactFitsSiding", spec := "fnExactFitsSiding", unfollowed := true, recurses := true, apart := false, narrowed := true }
def FnExactFitsSidingUptoSaid : Prop := fnExactFitsSidingUptoRow.holds Try.pinned (OpenSpec.upto fnExactFitsSidingSpec)

/-- 'laws.FnExactRunPeriod', WHERE WHAT IT READS IS OF BULK AT MOST 1048576: true; the input reads as it did. -/
def fnExactRunPeriodUptoRow : OpenClaim := { program := "ytkehnndlladnlaa", sum := "4d3288bc0130c2689e51562209aadcf040f342095c7fd02ef77cb8742d3315ff", func := "loop.example/g01335/laws.FnExactRunPeriod", spec := "fnExactRunPeriod", unfollowed := true, recurses := true, apart := false, narrowed := true }
def FnExactRunPeriodUptoSaid : Prop := fnExactRunPeriodUptoRow.holds Try.pinned (OpenSpec.upto fnExactRunPeriodSpec)

/-- 'laws.FnExactAllRunnersTogether', WHERE WHAT IT READS IS OF BULK AT MOST 1048576: true; the input reads as it did. -/
def fnExactAllRunnersTogetherUptoRow : OpenClaim := { program := "ytkehnndlladnlaa", sum := "4d3288bc0130c2689e51562209aadcf040f342095c7fd02ef77cb8742d3315ff", func := "loop.example/g01335/laws.FnExactAllRunnersTogether", spec := "fnExactAllRunnersTogether", unfollowed := true, recurses := true, apart := false, narrowed := true }
def FnExactAllRunnersTogetherUptoSaid : Prop := fnExactAllRunnersTogetherUptoRow.holds Try.pinned (OpenSpec.upto fnExactAllRunnersTogetherSpec)

/-- 'laws.FnExactNearestOthers', WHERE WHAT IT READS IS OF BULK AT MOST 1048576: true; the input reads as it did. -/
def fnExactNearestOthersUptoRow : OpenClaim := { program := "ytkehnndlladnlaa", sum := "4d3288bc0130c2689e51562209aadcf040f342095c7fd02ef77cb8742d3315ff", func := "loop.example/g01335/laws.FnExactNearestOthers", spec := "fnExactNearestOthers", unfollowed := true, recurses := true, apart := false, narrowed := true }
def FnExactNearestOthersUptoSaid : Prop := fnExactNearestOthersUptoRow.holds Try.pinned (OpenSpec.upto fnExactNearestOthersSpec)

/-- 'laws.FnExactWinnerOfLaps', WHERE WHAT IT READS IS OF BULK AT MOST 1048576: true; the input reads as it did. -/
def fnExactWinnerOfLapsUptoRow : OpenClaim := { program := "ytkehnndlladnlaa", sum := "4d3288bc0130c2689e51562209aadcf040f342095c7fd02ef77cb8742d3315ff", func := "loop.example/g01335/laws.FnExactWinnerOfLaps", spec := "fnExactWinnerOfLaps", unfollowed := true, recurses := true, apart := false, narrowed := true }
def FnExactWinnerOfLapsUptoSaid : Prop := fnExactWinnerOfLapsUptoRow.holds Try.pinned (OpenSpec.upto fnExactWinnerOfLapsSpec)

/-- 'laws.FnExactLonelyTime', WHERE WHAT IT READS IS OF BULK AT MOST 1048576: true; the input reads as it did. -/
def fnExactLonelyTimeUptoRow : OpenClaim := { program := "ytkehnndlladnlaa", sum := "4d3288bc0130c2689e51562209aadcf040f342095c7fd02ef77cb8742d3315ff", func := "loop.example/g01335/laws.FnExactLonelyTime", spec := "fnExactLonelyTime", unfollowed := true, recurses := true, apart := false, narrowed := true }
def FnExactLonelyTimeUptoSaid : Prop := fnExactLonelyTimeUptoRow.holds Try.pinned (OpenSpec.upto fnExactLonelyTimeSpec)

end Rows
end Go.Proofs.Ytkehnndlladnlaa
