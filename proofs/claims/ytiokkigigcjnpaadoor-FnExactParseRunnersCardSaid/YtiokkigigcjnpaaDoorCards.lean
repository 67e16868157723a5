/-
  DERIVED. GIVEN WITH THE SEED: THE CARDS: each row of YtiokkigigcjnpaaDoorRows.lean that lists a variable, with what it lists TIED to the program's text (the seventh form; the later family's looks); each row that meets fmt, with fmt's text TOLD by the authors' own Lean function (tested against real Go, not proved from fmt's source: count such statements apart). THE CARD IS WHAT COUNTS. Prove the row's statement (the work); the ties are given (YtiokkigigcjnpaaDoorTie.lean); close each card by the builder's one call (the guide's Derived/Test/ToyasCard.lean, 'card_holds'). Laid BY PROGRAM, IN A SANDBOX (cutbox-door.mjs). By AI agents, Wed Nov 11 2026. No macro, syntax, notation, axiom, sorry.
-/
import Derived.Test.YtiokkigigcjnpaaDoorRows
import GoSem.ClaimSeven
namespace Go.Proofs.YtiokkigigcjnpaaDoor
namespace Rows

/-- THE TIED CARD OF 'laws.FnExactChaseText'. -/
def fnExactChaseTextCard : Claim7 := { stood := { row := fnExactChaseTextRow, standIns := [], harness := (true, "d7f13bce7dfbda1b218977c276c523f6692648b885b5d1271db2aaf36c1fba20"), looks := true }, kinds := [], alts := [], laidByText := true, laidKinds := [.data, .data, .data], laidTests := true, laidLooks := .later }
def FnExactChaseTextCardSaid : Prop := Claim7.holds Tryd.pinned (.plain (OpenSpec.ofChange fnExactChaseTextSpec)) fnExactChaseTextCard

/-- THE TIED CARD OF 'laws.FnExactRunnersText'. -/
def fnExactRunnersTextCard : Claim7 := { stood := { row := fnExactRunnersTextRow, standIns := [], harness := (true, "d7f13bce7dfbda1b218977c276c523f6692648b885b5d1271db2aaf36c1fba20"), looks := true }, kinds := [], alts := [], laidByText := true, laidKinds := [.data, .data, .data], laidTests := true, laidLooks := .later }
def FnExactRunnersTextCardSaid : Prop := Claim7.holds Tryd.pinned (.plain (OpenSpec.ofChange fnExactRunnersTextSpec)) fnExactRunnersTextCard

/-- THE TIED CARD OF 'laws.FnExactParseChase'. -/
def fnExactParseChaseCard : Claim7 := { stood := { row := fnExactParseChaseRow, standIns := [], harness := (true, "d7f13bce7dfbda1b218977c276c523f6692648b885b5d1271db2aaf36c1fba20"), looks := true }, kinds := [], alts := [], laidByText := true, laidKinds := [.data, .data, .data, .data, .sentinel, .sentinel, .pinned], laidTests := true, laidLooks := .later }
def FnExactParseChaseCardSaid : Prop := Claim7.holds Tryd.pinned (.plain (OpenSpec.ofChange fnExactParseChaseSpec)) fnExactParseChaseCard

/-- THE TIED CARD OF 'laws.FnExactParseRunners'. -/
def fnExactParseRunnersCard : Claim7 := { stood := { row := fnExactParseRunnersRow, standIns := [], harness := (true, "d7f13bce7dfbda1b218977c276c523f6692648b885b5d1271db2aaf36c1fba20"), looks := true }, kinds := [], alts := [], laidByText := true, laidKinds := [.data, .data, .data, .data, .sentinel, .sentinel, .pinned], laidTests := true, laidLooks := .later }
def FnExactParseRunnersCardSaid : Prop := Claim7.holds Tryd.pinned (.plain (OpenSpec.ofChange fnExactParseRunnersSpec)) fnExactParseRunnersCard

/-- THE SECOND FORM's CARD OF 'laws.FnExactChaseText'. -/
def fnExactChaseTextUptoCard : Claim7 := { stood := { row := fnExactChaseTextUptoRow, standIns := [], harness := (true, "d7f13bce7dfbda1b218977c276c523f6692648b885b5d1271db2aaf36c1fba20"), looks := true }, kinds := [], alts := [], laidByText := true, laidKinds := [.data, .data, .data], laidTests := true, laidLooks := .later }
def FnExactChaseTextUptoCardSaid : Prop := Claim7.holds Tryd.pinned (.plain (OpenSpec.upto fnExactChaseTextSpec)) fnExactChaseTextUptoCard

/-- THE SECOND FORM's CARD OF 'laws.FnExactRunnersText'. -/
def fnExactRunnersTextUptoCard : Claim7 := { stood := { row := fnExactRunnersTextUptoRow, standIns := [], harness := (true, "d7f13bce7dfbda1b218977c276c523f6692648b885b5d1271db2aaf36c1fba20"), looks := true }, kinds := [], alts := [], laidByText := true, laidKinds := [.data, .data, .data], laidTests := true, laidLooks := .later }
def FnExactRunnersTextUptoCardSaid : Prop := Claim7.holds Tryd.pinned (.plain (OpenSpec.upto fnExactRunnersTextSpec)) fnExactRunnersTextUptoCard

/-- THE SECOND FORM's CARD OF 'laws.FnExactParseChase'. -/
def fnExactParseChaseUptoCard : Claim7 := { stood := { row := fnExactParseChaseUptoRow, standIns := [], harness := (true, "d7f13bce7dfbda1b218977c276c523f6692648b885b5d1271db2aaf36c1fba20"), looks := true }, kinds := [], alts := [], laidByText := true, laidKinds := [.data, .data, .data, .data, .sentinel, .sentinel, .pinned], laidTests := true, laidLooks := .later }
def FnExactParseChaseUptoCardSaid : Prop := Claim7.holds Tryd.pinned (.plain (OpenSpec.upto fnExactParseChaseSpec)) fnExactParseChaseUptoCard

/-- THE SECOND FORM's CARD OF 'laws.FnExactParseRunners'. -/
def fnExactParseRunnersUptoCard : Claim7 := { stood := { row := fnExactParseRunnersUptoRow, standIns := [], harness := (true, "d7f13bce7dfbda1b218977c276c523f6692648b885b5d1271db2aaf36c1fba20"), looks := true }, kinds := [], alts := [], laidByText := true, laidKinds := [.data, .data, .data, .data, .sentinel, .sentinel, .pinned], laidTests := true, laidLooks := .later }
def FnExactParseRunnersUptoCardSaid : Prop := Claim7.holds Tryd.pinned (.plain (OpenSpec.upto fnExactParseRunnersSpec)) fnExactParseRunnersUptoCard
end Rows
end Go.Proofs.YtiokkigigcjnpaaDoor
