/-
  No cell of these rows narrows 'for every input' (looked for: loops, veiled, ifaces, maps, wideKeys, modest, calm, conditions, laid).
  DERIVED. THE GIVEN ROWS OF THIS SEAT. 4 by the template 'for every input the law returns true; each argument reads behind the call as it read before'; 0 by the template 'total and deterministic' (their statements: YtgobnhoblofglaaTotals.lean).
  GIVEN WITH THE SEED: the statements are not yours to turn. If you find one false, say at which input.
  Laid BY PROGRAM, IN A SANDBOX (cutbox-rows.mjs): the forced cells as the released guide's own fill.sh prints them over the translation 8b2a39dfcb07c24d… (all of the seat's roots in one cut). By AI agents, Wed Nov 11 2026. No macro, syntax, notation, axiom, sorry.
-/
import Derived.Test.YtgobnhoblofglaaChecked
import GoSem.Claim
import GoSem.ClaimJoined
import GoSem.ClaimMapViews
import Derived.JoinedTies
import Derived.KernelRfl
namespace Go.Proofs.Ytgobnhoblofglaa
/- THE CELL 'sum', in the pinned program and in every row, IS THE sha256 OF THE DUMP (.gsa) THAT YtgobnhoblofglaaProg.lean LOADS. Nothing in Lean hashes anything: it is a label: what it is worth is what the hold of that sum in a sandbox is worth. -/
noncomputable def Try.pinned : Pinned := { name := "ytgobnhoblofglaa", sum := "8b2a39dfcb07c24dadec666651d49a14bacfd7e5a4161c03ea93916b92afa16b", checked := Try.checked }
namespace Rows
def none {H : Type} : Left H := { results := [], args := [] }

/-- 'laws.FnExactDogTurns': WHATEVER THE INPUT: true; the input reads as it did. -/
def fnExactDogTurnsSpec : ChangeSpec := { name := "fnExactDogTurns", fn := fun _ => fun
  | [d1, d2] => { results := [.lit (.bool true)], args := [d1, d2] }
  | _ => none }
def fnExactDogTurnsRow : OpenClaim := { program := "ytgobnhoblofglaa", sum := "8b2a39dfcb07c24dadec666651d49a14bacfd7e5a4161c03ea93916b92afa16b", func := "loop.example/g01335/laws.FnExactDogTurns", spec := "fnExactDogTurns", apart := false }
def FnExactDogTurnsSaid : Prop := fnExactDogTurnsRow.holds Try.pinned (OpenSpec.ofChange fnExactDogTurnsSpec)

/-- ITS FALSE NEIGHBOUR: 'it returns false'. Refute it at one input. -/
def fnExactDogTurnsWrong : ChangeSpec := { name := "fnExactDogTurns", fn := fun _ => fun
  | [d1, d2] => { results := [.lit (.bool false)], args := [d1, d2] }
  | _ => none }
def FnExactDogTurnsWrongFalsely : Prop := fnExactDogTurnsRow.holds Try.pinned (OpenSpec.ofChange fnExactDogTurnsWrong)

/-- 'laws.FnExactOrderOnTrack': WHATEVER THE INPUT: true; the input reads as it did. -/
def fnExactOrderOnTrackSpec : ChangeSpec := { name := "fnExactOrderOnTrack", fn := fun _ => fun
  | [d1, d2, d3] => { results := [.lit (.bool true)], args := [d1, d2, d3] }
  | _ => none }
def fnExactOrderOnTrackRow : OpenClaim := { program := "ytgobnhoblofglaa", sum := "8b2a39dfcb07c24dadec666651d49a14bacfd7e5a4161c03ea93916b92afa16b", func := "loop.example/g01335/laws.FnExactOrderOnTrack", spec := "fnExactOrderOnTrack", unfollowed := true, recurses := true, apart := false }
def FnExactOrderOnTrackSaid : Prop := fnExactOrderOnTrackRow.holds Try.pinned (OpenSpec.ofChange fnExactOrderOnTrackSpec)

/-- ITS FALSE NEIGHBOUR: 'it returns false'. Refute it at one input. -/
def fnExactOrderOnTrackWrong : ChangeSpec := { name := "fnExactOrderOnTrack", fn := fun _ => fun
  | [d1, d2, d3] => { results := [.lit (.bool false)], args := [d1, d2, d3] }
  | _ => none }
def FnExactOrderOnTrackWrongFalsely : Prop := fnExactOrderOnTrackRow.holds Try.pinned (OpenSpec.ofChange fnExactOrderOnTrackWrong)

/-- 'laws.FnRunnersMeetOfAll': WHATEVER THE INPUT: true; the input reads as it did. -/
def fnRunnersMeetOfAllSpec : ChangeSpec := { name := "fnRunnersMeetOfAll", fn := fun _ => fun
  | [d1, d2, d3, d4, d5, d6] => { results := [.lit (.bool true)], args := [d1, d2, d3, d4, d5, d6] }
  | _ => none }
def fnRunnersMeetOfAllRow : OpenClaim := { program := "ytgobnhoblofglaa", sum := "8b2a39dfcb07c24dadec666651d49a14bacfd7e5a4161c03ea93916b92afa16b", func := "loop.example/g01335/laws.FnRunnersMeetOfAll", spec := "fnRunnersMeetOfAll", unfollowed := true, recurses := true, apart := false }
def FnRunnersMeetOfAllSaid : Prop := fnRunnersMeetOfAllRow.holds Try.pinned (OpenSpec.ofChange fnRunnersMeetOfAllSpec)

/-- ITS FALSE NEIGHBOUR: 'it returns false'. Refute it at one input. -/
def fnRunnersMeetOfAllWrong : ChangeSpec := { name := "fnRunnersMeetOfAll", fn := fun _ => fun
  | [d1, d2, d3, d4, d5, d6] => { results := [.lit (.bool false)], args := [d1, d2, d3, d4, d5, d6] }
  | _ => none }
def FnRunnersMeetOfAllWrongFalsely : Prop := fnRunnersMeetOfAllRow.holds Try.pinned (OpenSpec.ofChange fnRunnersMeetOfAllWrong)

/-- 'laws.FnRunnersMeet': WHATEVER THE INPUT: true; the input reads as it did. -/
def fnRunnersMeetSpec : ChangeSpec := { name := "fnRunnersMeet", fn := fun _ => fun
  | [d1, d2] => { results := [.lit (.bool true)], args := [d1, d2] }
  | _ => none }
def fnRunnersMeetRow : OpenClaim := { program := "ytgobnhoblofglaa", sum := "8b2a39dfcb07c24dadec666651d49a14bacfd7e5a4161c03ea93916b92afa16b", func := "loop.example/g01335/laws.FnRunnersMeet", spec := "fnRunnersMeet", unfollowed := true, recurses := true, apart := false }
def FnRunnersMeetSaid : Prop := fnRunnersMeetRow.holds Try.pinned (OpenSpec.ofChange fnRunnersMeetSpec)

/-- ITS FALSE NEIGHBOUR: 'it returns false'. Refute it at one input. -/
def fnRunnersMeetWrong : ChangeSpec := { name := "fnRunnersMeet", fn := fun _ => fun
  | [d1, d2] => { results := [.lit (.bool false)], args := [d1, d2] }
  | _ => none }
def FnRunnersMeetWrongFalsely : Prop := fnRunnersMeetRow.holds Try.pinned (OpenSpec.ofChange fnRunnersMeetWrong)

/- THE SECOND FORM. 'bulk': how many values and letters a reading holds, each counted each time it is reached (what is shared counts as often as it is met; a slice's spare places count too). A statement '..UptoSaid' is the law's where the arguments, and the package variables that the reading takes, are together of bulk at most 1048576: NARROWER than '..Said'. Prove '..Said' where nothing that the law and all that it calls make is longer than what came in: it says more and counts as full. Else prove '..UptoSaid'. A law counts once. -/
mutual
def uptoBulk {H : Type} : DataW H → Nat
  | .lit (.string bytes) => bytes.length + 1
  | .lit _ => 1
  | .nil => 1
  | .ptr d => uptoBulk d + 1
  | .slice elems spare => uptoBulkAll elems + uptoBulkAll spare + 1
  | .agg parts => uptoBulkAll parts + 1
  | .iface _ d => uptoBulk d + 1
  | .map entries => uptoBulkEntries entries + 1
  | .held _ => 1
def uptoBulkAll {H : Type} : List (DataW H) → Nat
  | [] => 0
  | d :: r => uptoBulk d + uptoBulkAll r
def uptoBulkEntries {H : Type} : List (Lit × DataW H) → Nat
  | [] => 0
  | x :: r => uptoBulkEntry x + uptoBulkEntries r
def uptoBulkEntry {H : Type} : Lit × DataW H → Nat
  | (.string bytes, d) => bytes.length + uptoBulk d + 1
  | (_, d) => uptoBulk d + 1
 end
def uptoSmall : (H : Type) → List (DataW H) → Bool := fun _ ds => decide (uptoBulkAll ds ≤ 1048576)
def OpenSpec.upto (s : _root_.Go.ChangeSpec) : _root_.Go.OpenSpec := { _root_.Go.OpenSpec.ofChange s with cond := some uptoSmall }

/-- 'laws.FnExactDogTurns', WHERE WHAT IT READS IS OF BULK AT MOST 1048576: true; the input reads as it did. -/
def fnExactDogTurnsUptoRow : OpenClaim := { program := "ytgobnhoblofglaa", sum := "8b2a39dfcb07c24dadec666651d49a14bacfd7e5a4161c03ea93916b92afa16b", func := "loop.example/g01335/laws.FnExactDogTurns", spec := "fnExactDogTurns", apart := false, narrowed := true }
def FnExactDogTurnsUptoSaid : Prop := fnExactDogTurnsUptoRow.holds Try.pinned (OpenSpec.upto fnExactDogTurnsSpec)

/-- 'laws.FnExactOrderOnTrack', WHERE WHAT IT READS IS OF BULK AT MOST 1048576: true; the input reads as it did. -/
def fnExactOrderOnTrackUptoRow : OpenClaim := { program := "ytgobnhoblofglaa", sum := "8b2a39dfcb07c24dadec666651d49a14bacfd7e5a4161c03ea93916b92afa16b", func := "loop.example/g01335/laws.FnExactOrderOnTrack", spec := "fnExactOrderOnTrack", unfollowed := true, recurses := true, apart := false, narrowed := true }
def FnExactOrderOnTrackUptoSaid : Prop := fnExactOrderOnTrackUptoRow.holds Try.pinned (OpenSpec.upto fnExactOrderOnTrackSpec)

/-- 'laws.FnRunnersMeetOfAll', WHERE WHAT IT READS IS OF BULK AT MOST 1048576: true; the input reads as it did. -/
def fnRunnersMeetOfAllUptoRow : OpenClaim := { program := "ytgobnhoblofglaa", sum := "8b2a39dfcb07c24dadec666651d49a14bacfd7e5a4161c03ea93916b92afa16b", func := "loop.example/g01335/laws.FnRunnersMeetOfAll", spec := "fnRunnersMeetOfAll", unfollowed := true, recurses := true, apart := false, narrowed := true }
def FnRunnersMeetOfAllUptoSaid : Prop := fnRunnersMeetOfAllUptoRow.holds Try.pinned (OpenSpec.upto fnRunnersMeetOfAllSpec)

/-- 'laws.FnRunnersMeet', WHERE WHAT IT READS IS OF BULK AT MOST 1048576: true; the input reads as it did. -/
def fnRunnersMeetUptoRow : OpenClaim := { program := "ytgobnhoblofglaa", sum := "8b2a39dfcb07c24dadec666651d49a14bacfd7e5a4161c03ea93916b92afa16b", func := "loop.example/g01335/laws.FnRunnersMeet", spec := "fnRunnersMeet", unfollowed := true, recurses := true, apart := false, narrowed := true }
def FnRunnersMeetUptoSaid : Prop := fnRunnersMeetUptoRow.holds Try.pinned (OpenSpec.upto fnRunnersMeetSpec)

end Rows
end Go.Proofs.Ytgobnhoblofglaa
