/-
  No cell of these rows narrows 'for every input' (looked for: loops, veiled, ifaces, maps, wideKeys, modest, calm, conditions, laid).
  DERIVED. THE GIVEN ROWS OF THIS SEAT. 4 by the template 'for every input the law returns true; each argument reads behind the call as it read before'; 0 by the template 'total and deterministic' (their statements: YtgpepcjbndhdjaaTotals.lean).
  GIVEN WITH THE SEED: the statements are not yours to turn. If you find one false, say at which input.
  Laid BY PROGRAM, IN A SANDBOX (cutbox-rows.mjs): the forced cells as the released guide's own fill.sh prints them over the translation a950099410080642… (all of the seat's roots in one cut). By AI agents, Wed Nov 11 2026. No macro, syntax, notation, axiom, sorry.
-/
import Derived.Test.YtgpepcjbndhdjaaChecked
import GoSem.Claim
import GoSem.ClaimJoined
import GoSem.ClaimMapViews
import Derived.JoinedTies
import Derived.KernelRfl
namespace Go.Proofs.Ytgpepcjbndhdjaa
/- THE CELL 'sum', in the pinned program and in every row, IS THE sha256 OF THE DUMP (.gsa) THAT YtgpepcjbndhdjaaProg.lean LOADS. Nothing in Lean hashes anything: it is a label: what it is worth is what the hold of that sum in a sandbox is worth. -/
noncomputable def Try.pinned : Pinned := { name := "ytgpepcjbndhdjaa", sum := "a950099410080642409dd22667946b77c352ffb4717a1ffcaddae5b8b3c74a10", checked := Try.checked }
namespace Rows
def none {H : Type} : Left H := { results := [], args := [] }

/-- 'laws.FnExactOrderOnTrack': WHATEVER THE INPUT: true; the input reads as it did. -/
def fnExactOrderOnTrackSpec : ChangeSpec := { name := "fnExactOrderOnTrack", fn := fun _ => fun
  | [d1, d2, d3] => { results := [.lit (.bool true)], args := [d1, d2, d3] }
  | _ => none }
def fnExactOrderOnTrackRow : OpenClaim := { program := "ytgpepcjbndhdjaa", sum := "a950099410080642409dd22667946b77c352ffb4717a1ffcaddae5b8b3c74a10", func := "loop.example/g01335/laws.FnExactOrderOnTrack", spec := "fnExactOrderOnTrack", unfollowed := true, recurses := true, apart := false }
def FnExactOrderOnTrackSaid : Prop := fnExactOrderOnTrackRow.holds Try.pinned (OpenSpec.ofChange fnExactOrderOnTrackSpec)

/-- ITS FALSE NEIGHBOUR: 'it returns false'. Refute it at one input. -/
def fnExactOrderOnTrackWrong : ChangeSpec := { name := "fnExactOrderOnTrack", fn := fun _ => fun
  | [d1, d2, d3] => { results := [.lit (.bool false)], args := [d1, d2, d3] }
  | _ => none }
def FnExactOrderOnTrackWrongFalsely : Prop := fnExactOrderOnTrackRow.holds Try.pinned (OpenSpec.ofChange fnExactOrderOnTrackWrong)

/-- 'laws.FnExactMeetingPlaces': WHATEVER THE INPUT: true; the input reads as it did. -/
def fnExactMeetingPlacesSpec : ChangeSpec := { name := "fnExactMeetingPlaces", fn := fun _ => fun
  | [d1, d2, d3] => { results := [.lit (.bool true)], args := [d1, d2, d3] }
  | _ => none }
def fnExactMeetingPlacesRow : OpenClaim := { program := "ytgpepcjbndhdjaa", sum := "a950099410080642409dd22667946b77c352ffb4717a1ffcaddae5b8b3c74a10", func := "loop.example/g01335/laws.FnExactMeetingPlaces", spec := "fnExactMeetingPlaces", unfollowed := true, recurses := true, apart := false }
def FnExactMeetingPlacesSaid : Prop := fnExactMeetingPlacesRow.holds Try.pinned (OpenSpec.ofChange fnExactMeetingPlacesSpec)

/-- ITS FALSE NEIGHBOUR: 'it returns false'. Refute it at one input. -/
def fnExactMeetingPlacesWrong : ChangeSpec := { name := "fnExactMeetingPlaces", fn := fun _ => fun
  | [d1, d2, d3] => { results := [.lit (.bool false)], args := [d1, d2, d3] }
  | _ => none }
def FnExactMeetingPlacesWrongFalsely : Prop := fnExactMeetingPlacesRow.holds Try.pinned (OpenSpec.ofChange fnExactMeetingPlacesWrong)

/-- 'laws.FnRunnersMeetOfAll': WHATEVER THE INPUT: true; the input reads as it did. -/
def fnRunnersMeetOfAllSpec : ChangeSpec := { name := "fnRunnersMeetOfAll", fn := fun _ => fun
  | [d1, d2, d3, d4, d5, d6] => { results := [.lit (.bool true)], args := [d1, d2, d3, d4, d5, d6] }
  | _ => none }
def fnRunnersMeetOfAllRow : OpenClaim := { program := "ytgpepcjbndhdjaa", sum := "a950099410080642409dd22667946b77c352ffb4717a1ffcaddae5b8b3c74a10", func := "loop.example/g01335/laws.FnRunnersMeetOfAll", spec := "fnRunnersMeetOfAll", unfollowed := true, recurses := true, apart := false }
def FnRunnersMeetOfAllSaid : Prop := fnRunnersMeetOfAllRow.holds Try.pinned (OpenSpec.ofChange fnRunnersMeetOfAllSpec)

/-- ITS FALSE NEIGHBOUR: 'it returns false'. Refute it at one input. -/
def fnRunnersMeetOfAllWrong : ChangeSpec := { name := "fnRunnersMeetOfAll", fn := fun _ => fun
  | [d1, d2, d3, d4, d5, d6] => { results := [.lit (.bool false)], args := [d1, d2, d3, d4, d5, d6] }
  | _ => none }
def FnRunnersMeetOfAllWrongFalsely : Prop := fnRunnersMeetOfAllRow.holds Try.pinned (OpenSpec.ofChange fnRunnersMeetOfAllWrong)

/-- 'laws.FnRunnersMeet': WHATEVER THE INPUT: true; the input reads as it did. -/
def fnRunnersMeetSpec : ChangeSpec := { name := "fnRunnersMeet", fn := fun _ => fun
  | [d1, d2] => { results := [.lit (.bool true)], args := [d1, d2] }
  | _ => none }
def fnRunnersMeetRow : OpenClaim := { program := "ytgpepcjbndhdjaa", sum := "a950099410080642409dd22667946b77c352ffb4717a1ffcaddae5b8b3c74a10", func := "loop.example/g01335/laws.FnRunnersMeet", spec := "fnRunnersMeet", unfollowed := true, recurses := true, apart := false }
def FnRunnersMeetSaid : Prop := fnRunnersMeetRow.holds Try.pinned (OpenSpec.ofChange fnRunnersMeetSpec)

/-- ITS FALSE NEIGHBOUR: 'it returns false'. Refute it at one input. -/
def fnRunnersMeetWrong : ChangeSpec := { name := "fnRunnersMeet", fn := fun _ => fun
  | [d1, d2] => { results := [.lit (.bool false)], args := [d1, d2] }
  | _ => none }
def FnRunnersMeetWrongFalsely : Prop := fnRunnersMeetRow.holds Try.pinned (OpenSpec.ofChange fnRunnersMeetWrong)

/- THE SECOND FORM. 'bulk': how many values and letters a reading holds, each counted each time it is reached (what is shared counts as often as it is met; a slice's spare places count too). A statement '..UptoSaid' is the law's where the arguments, and the package variables that the reading takes, are together of bulk at most 1048576: NARROWER than '..Said'. Prove '..Said' where nothing that the law and all that it calls make is longer than what came in: it says more and counts as full. Else prove '..UptoSaid'. A law counts once. -/
mutual
def uptoBulk {H : Type} : DataW H → Nat
  | .lit (.string bytes) => bytes.length + 1
  | .lit _ => 1
  | .nil => 1
  | .ptr d => uptoBulk d + 1
  | .slice elems spare => uptoBulkAll elems + uptoBulkAll spare + 1
  | .agg parts => uptoBulkAll parts + 1
  | .iface _ d => uptoBulk d + 1
  | .map entries => uptoBulkEntries entries + 1
  | .held _ => 1
def uptoBulkAll {H : Type} : List (DataW H) → Nat
  | [] => 0
  | d :: r => uptoBulk d + uptoBulkAll r
def uptoBulkEntries {H : Type} : List (Lit × DataW H) → Nat
  | [] => 0
  | x :: r => uptoBulkEntry x + uptoBulkEntries r
def uptoBulkEntry {H : Type} : Lit × DataW H → Nat
  | (.string bytes, d) => bytes.length + uptoBulk d + 1
  | (_, d) => uptoBulk d + 1
 end
def uptoSmall : (H : Type) → List (DataW H) → Bool := fun _ ds => decide (uptoBulkAll ds ≤ 1048576)
def OpenSpec.upto (s : _root_.Go.ChangeSpec) : _root_.Go.OpenSpec := { _root_.Go.OpenSpec.ofChange s with cond := some uptoSmall }

/-- 'laws.FnExactOrderOnTrack', WHERE WHAT IT READS IS OF BULK AT MOST 1048576: true; the input reads as it did. -/
def fnExactOrderOnTrackUptoRow : OpenClaim := { program := "ytgpepcjbndhdjaa", sum := "a950099410080642409dd22667946b77c352ffb4717a1ffcaddae5b8b3c74a10", func := "loop.example/g01335/laws.FnExactOrderOnTrack", spec := "fnExactOrderOnTrack", unfollowed := true, recurses := true, apart := false, narrowed := true }
def FnExactOrderOnTrackUptoSaid : Prop := fnExactOrderOnTrackUptoRow.holds Try.pinned (OpenSpec.upto fnExactOrderOnTrackSpec)

/-- 'laws.FnExactMeetingPlaces', WHERE WHAT IT READS IS OF BULK AT MOST 1048576: true; the input reads as it did. -/
def fnExactMeetingPlacesUptoRow : OpenClaim := { program := "ytgpepcjbndhdjaa", sum := "a950099410080642409dd22667946b77c352ffb4717a1ffcaddae5b8b3c74a10", func := "loop.example/g01335/laws.FnExactMeetingPlaces", spec := "fnExactMeetingPlaces", unfollowed := true, recurses := true, apart := false, narrowed := true }
def FnExactMeetingPlacesUptoSaid : Prop := fnExactMeetingPlacesUptoRow.holds Try.pinned (OpenSpec.upto fnExactMeetingPlacesSpec)

/-- 'laws.FnRunnersMeetOfAll', WHERE WHAT IT READS IS OF BULK AT MOST 1048576: true; the input reads as it did. -/
def fnRunnersMeetOfAllUptoRow : OpenClaim := { program := "ytgpepcjbndhdjaa", sum := "a950099410080642409dd22667946b77c352ffb4717a1ffcaddae5b8b3c74a10", func := "loop.example/g01335/laws.FnRunnersMeetOfAll", spec := "fnRunnersMeetOfAll", unfollowed := true, recurses := true, apart := false, narrowed := true }
def FnRunnersMeetOfAllUptoSaid : Prop := fnRunnersMeetOfAllUptoRow.holds Try.pinned (OpenSpec.upto fnRunnersMeetOfAllSpec)

/-- 'laws.FnRunnersMeet', WHERE WHAT IT READS IS OF BULK AT MOST 1048576: true; the input reads as it did. -/
def fnRunnersMeetUptoRow : OpenClaim := { program := "ytgpepcjbndhdjaa", sum := "a950099410080642409dd22667946b77c352ffb4717a1ffcaddae5b8b3c74a10", func := "loop.example/g01335/laws.FnRunnersMeet", spec := "fnRunnersMeet", unfollowed := true, recurses := true, apart := false, narrowed := true }
def FnRunnersMeetUptoSaid : Prop := fnRunnersMeetUptoRow.holds Try.pinned (OpenSpec.upto fnRunnersMeetSpec)

end Rows
end Go.Proofs.Ytgpepcjbndhdjaa
