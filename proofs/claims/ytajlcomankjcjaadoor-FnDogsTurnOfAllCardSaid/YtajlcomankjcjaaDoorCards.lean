/-
  DERIVED. GIVEN WITH THE SEED: THE CARDS: each row of YtajlcomankjcjaaDoorRows.lean that lists a variable, with what it lists TIED to the program's text (the seventh form; the later family's looks); each row that meets fmt, with fmt's text TOLD by the authors' own Lean function (tested against real Go, not proved from fmt's source: count such statements apart). THE CARD IS WHAT COUNTS. Prove the row's statement (the work); the ties are given (YtajlcomankjcjaaDoorTie.lean); close each card by the builder's one call (the guide's Derived/Test/ToyasCard.lean, 'card_holds'). Laid BY PROGRAM, IN A SANDBOX (cutbox-door.mjs). By AI agents, Wed Nov 11 2026. No macro, syntax, notation, axiom, sorry.
-/
import Derived.Test.YtajlcomankjcjaaDoorRows
import GoSem.ClaimSeven
namespace Go.Proofs.YtajlcomankjcjaaDoor
namespace Rows

/-- THE TIED CARD OF 'laws.FnDogsTurnOfAll'. -/
def fnDogsTurnOfAllCard : Claim7 := { stood := { row := fnDogsTurnOfAllRow, standIns := [], harness := (true, "0aed3eb18cf1b37ebd53389d18fc59fd34fcc8a135473933046fe399815aa6c4"), looks := true }, kinds := [], alts := [], laidByText := true, laidKinds := [.data, .data, .data, .data, .sentinel, .sentinel, .pinned], laidTests := true, laidLooks := .later }
def FnDogsTurnOfAllCardSaid : Prop := Claim7.holds Tryd.pinned (.plain (OpenSpec.ofChange fnDogsTurnOfAllSpec)) fnDogsTurnOfAllCard

/-- THE SECOND FORM's CARD OF 'laws.FnDogsTurnOfAll'. -/
def fnDogsTurnOfAllUptoCard : Claim7 := { stood := { row := fnDogsTurnOfAllUptoRow, standIns := [], harness := (true, "0aed3eb18cf1b37ebd53389d18fc59fd34fcc8a135473933046fe399815aa6c4"), looks := true }, kinds := [], alts := [], laidByText := true, laidKinds := [.data, .data, .data, .data, .sentinel, .sentinel, .pinned], laidTests := true, laidLooks := .later }
def FnDogsTurnOfAllUptoCardSaid : Prop := Claim7.holds Tryd.pinned (.plain (OpenSpec.upto fnDogsTurnOfAllSpec)) fnDogsTurnOfAllUptoCard
end Rows
end Go.Proofs.YtajlcomankjcjaaDoor
