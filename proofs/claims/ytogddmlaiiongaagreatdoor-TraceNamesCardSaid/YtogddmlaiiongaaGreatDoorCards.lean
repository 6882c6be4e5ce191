/-
  DERIVED. GIVEN WITH THE SEED: THE CARDS: each row of YtogddmlaiiongaaGreatDoorRows.lean that lists a variable, with what it lists TIED to the program's text (the seventh form; the later family's looks); each row that meets fmt, with fmt's text TOLD by the authors' own Lean function (tested against real Go, not proved from fmt's source: count such statements apart). THE CARD IS WHAT COUNTS. Prove the row's statement (the work); the ties are given (YtogddmlaiiongaaGreatDoorTie.lean); close each card by the builder's one call (the guide's Derived/Test/ToyasCard.lean, 'card_holds'). Laid BY PROGRAM, IN A SANDBOX (cutbox-door.mjs). By AI agents, Wed Nov 11 2026. No macro, syntax, notation, axiom, sorry.
-/
import Derived.Test.YtogddmlaiiongaaGreatDoorRows
import GoSem.ClaimSeven
namespace Go.Proofs.YtogddmlaiiongaaGreatDoor
namespace Rows

/-- THE TIED CARD OF 'posternlaw21.TraceNames'. -/
def traceNamesCard : Claim7 := { stood := { row := traceNamesRow, standIns := [], harness := (true, "29bbca39b1d99dfc72cf079e892c1394ed5dc4013fe34ad750ae63af08900af3"), looks := true }, kinds := [], alts := [], laidByText := true, laidKinds := [.handle], laidTests := true, laidLooks := .later }
def TraceNamesCardSaid : Prop := Claim7.holds Tryz.pinned (.plain (OpenSpec.ofChange traceNamesSpec)) traceNamesCard

/-- THE SECOND FORM's CARD OF 'posternlaw21.TraceNames'. -/
def traceNamesUptoCard : Claim7 := { stood := { row := traceNamesUptoRow, standIns := [], harness := (true, "29bbca39b1d99dfc72cf079e892c1394ed5dc4013fe34ad750ae63af08900af3"), looks := true }, kinds := [], alts := [], laidByText := true, laidKinds := [.handle], laidTests := true, laidLooks := .later }
def TraceNamesUptoCardSaid : Prop := Claim7.holds Tryz.pinned (.plain (OpenSpec.upto traceNamesSpec)) traceNamesUptoCard
end Rows
end Go.Proofs.YtogddmlaiiongaaGreatDoor
