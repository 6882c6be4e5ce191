/-
  DERIVED. GIVEN WITH THE SEED: THE CARDS: each row of YtefgfnbifbkanaaGreatDoorRows.lean that lists a variable, with what it lists TIED to the program's text (the seventh form; the later family's looks); each row that meets fmt, with fmt's text TOLD by the authors' own Lean function (tested against real Go, not proved from fmt's source: count such statements apart). THE CARD IS WHAT COUNTS. Prove the row's statement (the work); the ties are given (YtefgfnbifbkanaaGreatDoorTie.lean); close each card by the builder's one call (the guide's Derived/Test/ToyasCard.lean, 'card_holds'). Laid BY PROGRAM, IN A SANDBOX (cutbox-door.mjs). By AI agents, Wed Nov 11 2026. No macro, syntax, notation, axiom, sorry.
-/
import Derived.Test.YtefgfnbifbkanaaGreatDoorRows
import GoSem.ClaimSeven
namespace Go.Proofs.YtefgfnbifbkanaaGreatDoor
namespace Rows

/-- THE TIED CARD OF 'posternlaw18.ClerkDeep'. -/
def clerkDeepCard : Claim7 := { stood := { row := clerkDeepRow, standIns := [], harness := (true, "908fff622587c8905cd8149804bc405d96cd7281b894aec29865dc7577627c34"), looks := true }, kinds := [], alts := [], laidByText := true, laidKinds := [.handle], laidTests := true, laidLooks := .later }
def ClerkDeepCardSaid : Prop := Claim7.holds Tryz.pinned (.plain (OpenSpec.ofChange clerkDeepSpec)) clerkDeepCard

/-- THE SECOND FORM's CARD OF 'posternlaw18.ClerkDeep'. -/
def clerkDeepUptoCard : Claim7 := { stood := { row := clerkDeepUptoRow, standIns := [], harness := (true, "908fff622587c8905cd8149804bc405d96cd7281b894aec29865dc7577627c34"), looks := true }, kinds := [], alts := [], laidByText := true, laidKinds := [.handle], laidTests := true, laidLooks := .later }
def ClerkDeepUptoCardSaid : Prop := Claim7.holds Tryz.pinned (.plain (OpenSpec.upto clerkDeepSpec)) clerkDeepUptoCard
end Rows
end Go.Proofs.YtefgfnbifbkanaaGreatDoor
