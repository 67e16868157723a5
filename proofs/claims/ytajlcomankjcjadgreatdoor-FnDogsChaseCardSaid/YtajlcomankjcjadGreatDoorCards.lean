/-
  DERIVED. GIVEN WITH THE SEED: THE CARDS: each row of YtajlcomankjcjadGreatDoorRows.lean that lists a variable, with what it lists TIED to the program's text (the seventh form; the later family's looks); each row that meets fmt, with fmt's text TOLD by the authors' own Lean function (tested against real Go, not proved from fmt's source: count such statements apart). THE CARD IS WHAT COUNTS. Prove the row's statement (the work); the ties are given (YtajlcomankjcjadGreatDoorTie.lean); close each card by the builder's one call (the guide's Derived/Test/ToyasCard.lean, 'card_holds'). Laid BY PROGRAM, IN A SANDBOX (cutbox-door.mjs). By AI agents, Wed Nov 11 2026. No macro, syntax, notation, axiom, sorry.
-/
import Derived.Test.YtajlcomankjcjadGreatDoorRows
import GoSem.ClaimSeven
namespace Go.Proofs.YtajlcomankjcjadGreatDoor
namespace Rows

/-- THE TIED CARD OF 'laws.FnDogsChase'. -/
def fnDogsChaseCard : Claim7 := { stood := { row := fnDogsChaseRow, standIns := [], harness := (true, "089d86c331569fcee4a9fb6424bb8bcd35cdd211e138d183f1b87ddfb5a9eb65"), looks := true }, kinds := [], alts := [], laidByText := true, laidKinds := [.data, .data, .data, .data, .sentinel, .sentinel, .pinned], laidTests := true, laidLooks := .later }
def FnDogsChaseCardSaid : Prop := Claim7.holds Tryz.pinned (.plain (OpenSpec.ofChange fnDogsChaseSpec)) fnDogsChaseCard

/-- THE SECOND FORM's CARD OF 'laws.FnDogsChase'. -/
def fnDogsChaseUptoCard : Claim7 := { stood := { row := fnDogsChaseUptoRow, standIns := [], harness := (true, "089d86c331569fcee4a9fb6424bb8bcd35cdd211e138d183f1b87ddfb5a9eb65"), looks := true }, kinds := [], alts := [], laidByText := true, laidKinds := [.data, .data, .data, .data, .sentinel, .sentinel, .pinned], laidTests := true, laidLooks := .later }
def FnDogsChaseUptoCardSaid : Prop := Claim7.holds Tryz.pinned (.plain (OpenSpec.upto fnDogsChaseSpec)) fnDogsChaseUptoCard
end Rows
end Go.Proofs.YtajlcomankjcjadGreatDoor
