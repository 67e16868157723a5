/-
  DERIVED. GIVEN WITH THE SEED: THE CARDS: each row of YtajlcomankjcjabGreatDoorRows.lean that lists a variable, with what it lists TIED to the program's text (the seventh form; the later family's looks); each row that meets fmt, with fmt's text TOLD by the authors' own Lean function (tested against real Go, not proved from fmt's source: count such statements apart). THE CARD IS WHAT COUNTS. Prove the row's statement (the work); the ties are given (YtajlcomankjcjabGreatDoorTie.lean); close each card by the builder's one call (the guide's Derived/Test/ToyasCard.lean, 'card_holds'). Laid BY PROGRAM, IN A SANDBOX (cutbox-door.mjs). By AI agents, Wed Nov 11 2026. No macro, syntax, notation, axiom, sorry.
-/
import Derived.Test.YtajlcomankjcjabGreatDoorRows
import GoSem.ClaimSeven
namespace Go.Proofs.YtajlcomankjcjabGreatDoor
namespace Rows

/-- THE TIED CARD OF 'laws.FnDogsTurn'. -/
def fnDogsTurnCard : Claim7 := { stood := { row := fnDogsTurnRow, standIns := [], harness := (true, "dc7f3d1b51a0212593172eebc805e6e3c3b2566d56498a32cb6710e085d3839a"), looks := true }, kinds := [], alts := [], laidByText := true, laidKinds := [.data, .data, .data, .data, .sentinel, .sentinel, .pinned], laidTests := true, laidLooks := .later }
def FnDogsTurnCardSaid : Prop := Claim7.holds Tryz.pinned (.plain (OpenSpec.ofChange fnDogsTurnSpec)) fnDogsTurnCard

/-- THE SECOND FORM's CARD OF 'laws.FnDogsTurn'. -/
def fnDogsTurnUptoCard : Claim7 := { stood := { row := fnDogsTurnUptoRow, standIns := [], harness := (true, "dc7f3d1b51a0212593172eebc805e6e3c3b2566d56498a32cb6710e085d3839a"), looks := true }, kinds := [], alts := [], laidByText := true, laidKinds := [.data, .data, .data, .data, .sentinel, .sentinel, .pinned], laidTests := true, laidLooks := .later }
def FnDogsTurnUptoCardSaid : Prop := Claim7.holds Tryz.pinned (.plain (OpenSpec.upto fnDogsTurnSpec)) fnDogsTurnUptoCard
end Rows
end Go.Proofs.YtajlcomankjcjabGreatDoor
