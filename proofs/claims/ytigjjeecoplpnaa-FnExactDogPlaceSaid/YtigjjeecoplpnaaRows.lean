/-
  No cell of these rows narrows 'for every input' (looked for: loops, veiled, ifaces, maps, wideKeys, modest, calm, conditions, laid).
  DERIVED. THE GIVEN ROWS OF THIS SEAT. 5 by the template 'for every input the law returns true; each argument reads behind the call as it read before'; 0 by the template 'total and deterministic' (their statements: YtigjjeecoplpnaaTotals.lean).
  GIVEN WITH THE SEED: the statements are not yours to turn. If you find one false, say at which input.
  Laid BY PROGRAM, IN A SANDBOX (cutbox-rows.mjs): the forced cells as the released guide's own fill.sh prints them over the translation f09d4999e9490252… (all of the seat's roots in one cut). By AI agents, Wed Nov 11 2026. No macro, syntax, notation, axiom, sorry.
-/
import Derived.Test.YtigjjeecoplpnaaChecked
import GoSem.Claim
import GoSem.ClaimJoined
import GoSem.ClaimMapViews
import Derived.JoinedTies
import Derived.KernelRfl
namespace Go.Proofs.Ytigjjeecoplpnaa
/- THE CELL 'sum', in the pinned program and in every row, IS THE sha256 OF THE DUMP (.gsa) THAT YtigjjeecoplpnaaProg.lean LOADS. Nothing in Lean hashes anything: it is a label: what it is worth is what the hold of that sum in a sandbox is worth. -/
noncomputable def Try.pinned : Pinned := { name := "ytigjjeecoplpnaa", sum := "f09d4999e94902526c1fc7f87ae69a2077a246472c9b0ade8d71dd894e99f146", checked := Try.checked }
namespace Rows
def none {H : Type} : Left H := { results := [], args := [] }

/-- 'laws.FnExactApartAfterTurn': WHATEVER THE INPUT: true; the input reads as it did. -/
def fnExactApartAfterTurnSpec : ChangeSpec := { name := "fnExactApartAfterTurn", fn := fun _ => fun
  | [d1, d2] => { results := [.lit (.bool true)], args := [d1, d2] }
  | _ => none }
def fnExactApartAfterTurnRow : OpenClaim := { program := "ytigjjeecoplpnaa", sum := "f09d4999e94902526c1fc7f87ae69a2077a246472c9b0ade8d71dd894e99f146", func := "loop.example/g01335/laws.FnExactApartAfterTurn", spec := "fnExactApartAfterTurn", apart := false }
def FnExactApartAfterTurnSaid : Prop := fnExactApartAfterTurnRow.holds Try.pinned (OpenSpec.ofChange fnExactApartAfterTurnSpec)

/-- ITS FALSE NEIGHBOUR: 'it returns false'. Refute it at one input. -/
def fnExactApartAfterTurnWrong : ChangeSpec := { name := "fnExactApartAfterTurn", fn := fun _ => fun
  | [d1, d2] => { results := [.lit (.bool false)], args := [d1, d2] }
  | _ => none }
def FnExactApartAfterTurnWrongFalsely : Prop := fnExactApartAfterTurnRow.holds Try.pinned (OpenSpec.ofChange fnExactApartAfterTurnWrong)

/-- 'laws.FnExactRunToRight': WHATEVER THE INPUT: true; the input reads as it did. -/
def fnExactRunToRightSpec : ChangeSpec := { name := "fnExactRunToRight", fn := fun _ => fun
  | [d1, d2] => { results := [.lit (.bool true)], args := [d1, d2] }
  | _ => none }
def fnExactRunToRightRow : OpenClaim := { program := "ytigjjeecoplpnaa", sum := "f09d4999e94902526c1fc7f87ae69a2077a246472c9b0ade8d71dd894e99f146", func := "loop.example/g01335/laws.FnExactRunToRight", spec := "fnExactRunToRight", apart := false }
def FnExactRunToRightSaid : Prop := fnExactRunToRightRow.holds Try.pinned (OpenSpec.ofChange fnExactRunToRightSpec)

/-- ITS FALSE NEIGHBOUR: 'it returns false'. Refute it at one input. -/
def fnExactRunToRightWrong : ChangeSpec := { name := "fnExactRunToRight", fn := fun _ => fun
  | [d1, d2] => { results := [.lit (.bool false)], args := [d1, d2] }
  | _ => none }
def FnExactRunToRightWrongFalsely : Prop := fnExactRunToRightRow.holds Try.pinned (OpenSpec.ofChange fnExactRunToRightWrong)

/-- 'laws.FnExactTurnsUntil': WHATEVER THE INPUT: true; the input reads as it did. -/
def fnExactTurnsUntilSpec : ChangeSpec := { name := "fnExactTurnsUntil", fn := fun _ => fun
  | [d1, d2, d3] => { results := [.lit (.bool true)], args := [d1, d2, d3] }
  | _ => none }
def fnExactTurnsUntilRow : OpenClaim := { program := "ytigjjeecoplpnaa", sum := "f09d4999e94902526c1fc7f87ae69a2077a246472c9b0ade8d71dd894e99f146", func := "loop.example/g01335/laws.FnExactTurnsUntil", spec := "fnExactTurnsUntil", apart := false }
def FnExactTurnsUntilSaid : Prop := fnExactTurnsUntilRow.holds Try.pinned (OpenSpec.ofChange fnExactTurnsUntilSpec)

/-- ITS FALSE NEIGHBOUR: 'it returns false'. Refute it at one input. -/
def fnExactTurnsUntilWrong : ChangeSpec := { name := "fnExactTurnsUntil", fn := fun _ => fun
  | [d1, d2, d3] => { results := [.lit (.bool false)], args := [d1, d2, d3] }
  | _ => none }
def FnExactTurnsUntilWrongFalsely : Prop := fnExactTurnsUntilRow.holds Try.pinned (OpenSpec.ofChange fnExactTurnsUntilWrong)

/-- 'laws.FnExactDogPlace': WHATEVER THE INPUT: true; the input reads as it did. -/
def fnExactDogPlaceSpec : ChangeSpec := { name := "fnExactDogPlace", fn := fun _ => fun
  | [d1, d2, d3] => { results := [.lit (.bool true)], args := [d1, d2, d3] }
  | _ => none }
def fnExactDogPlaceRow : OpenClaim := { program := "ytigjjeecoplpnaa", sum := "f09d4999e94902526c1fc7f87ae69a2077a246472c9b0ade8d71dd894e99f146", func := "loop.example/g01335/laws.FnExactDogPlace", spec := "fnExactDogPlace", apart := false }
def FnExactDogPlaceSaid : Prop := fnExactDogPlaceRow.holds Try.pinned (OpenSpec.ofChange fnExactDogPlaceSpec)

/-- ITS FALSE NEIGHBOUR: 'it returns false'. Refute it at one input. -/
def fnExactDogPlaceWrong : ChangeSpec := { name := "fnExactDogPlace", fn := fun _ => fun
  | [d1, d2, d3] => { results := [.lit (.bool false)], args := [d1, d2, d3] }
  | _ => none }
def FnExactDogPlaceWrongFalsely : Prop := fnExactDogPlaceRow.holds Try.pinned (OpenSpec.ofChange fnExactDogPlaceWrong)

/-- 'laws.FnExactDogTurns': WHATEVER THE INPUT: true; the input reads as it did. -/
def fnExactDogTurnsSpec : ChangeSpec := { name := "fnExactDogTurns", fn := fun _ => fun
  | [d1, d2] => { results := [.lit (.bool true)], args := [d1, d2] }
  | _ => none }
def fnExactDogTurnsRow : OpenClaim := { program := "ytigjjeecoplpnaa", sum := "f09d4999e94902526c1fc7f87ae69a2077a246472c9b0ade8d71dd894e99f146", func := "loop.example/g01335/laws.FnExactDogTurns", spec := "fnExactDogTurns", apart := false }
def FnExactDogTurnsSaid : Prop := fnExactDogTurnsRow.holds Try.pinned (OpenSpec.ofChange fnExactDogTurnsSpec)

/-- ITS FALSE NEIGHBOUR: 'it returns false'. Refute it at one input. -/
def fnExactDogTurnsWrong : ChangeSpec := { name := "fnExactDogTurns", fn := fun _ => fun
  | [d1, d2] => { results := [.lit (.bool false)], args := [d1, d2] }
  | _ => none }
def FnExactDogTurnsWrongFalsely : Prop := fnExactDogTurnsRow.holds Try.pinned (OpenSpec.ofChange fnExactDogTurnsWrong)

/- THE SECOND FORM. 'bulk': how many values and letters a reading holds, each counted each time it is reached (what is shared counts as often as it is met; a slice's spare places count too). A statement '..UptoSaid' is the law's where the arguments, and the package variables that the reading takes, are together of bulk at most 1048576: NARROWER than '..Said'. Prove '..Said' where nothing that the law and all that it calls make is longer than what came in: it says more and counts as full. Else prove '..UptoSaid'. A law counts once. -/
mutual
def uptoBulk {H : Type} : DataW H → Nat
  | .lit (.string bytes) => bytes.length + 1
  | .lit _ => 1
  | .nil => 1
  | .ptr d => uptoBulk d + 1
  | .slice elems spare => uptoBulkAll elems + uptoBulkAll spare + 1
  | .agg parts => uptoBulkAll parts + 1
  | .iface _ d => uptoBulk d + 1
  | .map entries => uptoBulkEntries entries + 1
  | .held _ => 1
def uptoBulkAll {H : Type} : List (DataW H) → Nat
  | [] => 0
  | d :: r => uptoBulk d + uptoBulkAll r
def uptoBulkEntries {H : Type} : List (Lit × DataW H) → Nat
  | [] => 0
  | x :: r => uptoBulkEntry x + uptoBulkEntries r
def uptoBulkEntry {H : Type} : Lit × DataW H → Nat
  | (.string bytes, d) => bytes.length + uptoBulk d + 1
  | (_, d) => uptoBulk d + 1
 end
def uptoSmall : (H : Type) → List (DataW H) → Bool := fun _ ds => decide (uptoBulkAll ds ≤ 1048576)
def OpenSpec.upto (s : _root_.Go.ChangeSpec) : _root_.Go.OpenSpec := { _root_.Go.OpenSpec.ofChange s with cond := some uptoSmall }

/-- 'laws.FnExactApartAfterTurn', WHERE WHAT IT READS IS OF BULK AT MOST 1048576: true; the input reads as it did. -/
def fnExactApartAfterTurnUptoRow : OpenClaim := { program := "ytigjjeecoplpnaa", sum := "f09d4999e94902526c1fc7f87ae69a2077a246472c9b0ade8d71dd894e99f146", func := "loop.example/g01335/laws.FnExactApartAfterTurn", spec := "fnExactApartAfterTurn", apart := false, narrowed := true }
def FnExactApartAfterTurnUptoSaid : Prop := fnExactApartAfterTurnUptoRow.holds Try.pinned (OpenSpec.upto fnExactApartAfterTurnSpec)

/-- 'laws.FnExactRunToRight', WHERE WHAT IT READS IS OF BULK AT MOST 1048576: true; the input reads as it did. -/
def fnExactRunToRightUptoRow : OpenClaim := { program := "ytigjjeecoplpnaa", sum := "f09d4999e94902526c1fc7f87ae69a2077a246472c9b0ade8d71dd894e99f146", func := "loop.example/g01335/laws.FnExactRunToRight", spec := "fnExactRunToRight", apart := false, narrowed := true }
def FnExactRunToRightUptoSaid : Prop := fnExactRunToRightUptoRow.holds Try.pinned (OpenSpec.upto fnExactRunToRightSpec)

/-- 'laws.FnExactTurnsUntil', WHERE WHAT IT READS IS OF BULK AT MOST 1048576: true; the input reads as it did. -/
def fnExactTurnsUntilUptoRow : OpenClaim := { program := "ytigjjeecoplpnaa", sum := "f09d4999e94902526c1fc7f87ae69a2077a246472c9b0ade8d71dd894e99f146", func := "loop.example/g01335/laws.FnExactTurnsUntil", spec := "fnExactTurnsUntil", apart := false, narrowed := true }
def FnExactTurnsUntilUptoSaid : Prop := fnExactTurnsUntilUptoRow.holds Try.pinned (OpenSpec.upto fnExactTurnsUntilSpec)

/-- 'laws.FnExactDogPlace', WHERE WHAT IT READS IS OF BULK AT MOST 1048576: true; the input reads as it did. -/
def fnExactDogPlaceUptoRow : OpenClaim := { program := "ytigjjeecoplpnaa", sum := "f09d4999e94902526c1fc7f87ae69a2077a246472c9b0ade8d71dd894e99f146", func := "loop.example/g01335/laws.FnExactDogPlace", spec := "fnExactDogPlace", apart := false, narrowed := true }
def FnExactDogPlaceUptoSaid : Prop := fnExactDogPlaceUptoRow.holds Try.pinned (OpenSpec.upto fnExactDogPlaceSpec)

/-- 'laws.FnExactDogTurns', WHERE WHAT IT READS IS OF BULK AT MOST 1048576: true; the input reads as it did. -/
def fnExactDogTurnsUptoRow : OpenClaim := { program := "ytigjjeecoplpnaa", sum := "f09d4999e94902526c1fc7f87ae69a2077a246472c9b0ade8d71dd894e99f146", func := "loop.example/g01335/laws.FnExactDogTurns", spec := "fnExactDogTurns", apart := false, narrowed := true }
def FnExactDogTurnsUptoSaid : Prop := fnExactDogTurnsUptoRow.holds Try.pinned (OpenSpec.upto fnExactDogTurnsSpec)

end Rows
end Go.Proofs.Ytigjjeecoplpnaa
