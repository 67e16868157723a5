/-
  DERIVED. GIVEN WITH THE SEED: THE CARDS: each row of YtfkieckkmcibbaaGreatDoorRows.lean that lists a variable, with what it lists TIED to the program's text (the seventh form; the later family's looks); each row that meets fmt, with fmt's text TOLD by the authors' own Lean function (tested against real Go, not proved from fmt's source: count such statements apart). THE CARD IS WHAT COUNTS. Prove the row's statement (the work); the ties are given (YtfkieckkmcibbaaGreatDoorTie.lean); close each card by the builder's one call (the guide's Derived/Test/ToyasCard.lean, 'card_holds'). Laid BY PROGRAM, IN A SANDBOX (cutbox-door.mjs). By AI agents, Wed Nov 11 2026. No macro, syntax, notation, axiom, sorry.
-/
import Derived.Test.YtfkieckkmcibbaaGreatDoorRows
import GoSem.ClaimSeven
namespace Go.Proofs.YtfkieckkmcibbaaGreatDoor
namespace Rows

/-- THE TIED CARD OF 'laws.FnRunnersRun'. -/
def fnRunnersRunCard : Claim7 := { stood := { row := fnRunnersRunRow, standIns := [], harness := (true, "2b1f6d75e86e29cc54cf8da720bcefafc5d80e14a662aec0a9e01818e6d4814d"), looks := true }, kinds := [], alts := [], laidByText := true, laidKinds := [.data, .data, .data, .data, .sentinel, .sentinel, .pinned], laidTests := true, laidLooks := .later }
def FnRunnersRunCardSaid : Prop := Claim7.holds Tryz.pinned (.plain (OpenSpec.ofChange fnRunnersRunSpec)) fnRunnersRunCard

/-- THE SECOND FORM's CARD OF 'laws.FnRunnersRun'. -/
def fnRunnersRunUptoCard : Claim7 := { stood := { row := fnRunnersRunUptoRow, standIns := [], harness := (true, "2b1f6d75e86e29cc54cf8da720bcefafc5d80e14a662aec0a9e01818e6d4814d"), looks := true }, kinds := [], alts := [], laidByText := true, laidKinds := [.data, .data, .data, .data, .sentinel, .sentinel, .pinned], laidTests := true, laidLooks := .later }
def FnRunnersRunUptoCardSaid : Prop := Claim7.holds Tryz.pinned (.plain (OpenSpec.upto fnRunnersRunSpec)) fnRunnersRunUptoCard
end Rows
end Go.Proofs.YtfkieckkmcibbaaGreatDoor
