/-
  DERIVED. GIVEN WITH THE SEED: THE CARDS: each row of YtfegdmkaahfhgaaGreatDoorRows.lean that lists a variable, with what it lists TIED to the program's text (the seventh form; the later family's looks); each row that meets fmt, with fmt's text TOLD by the authors' own Lean function (tested against real Go, not proved from fmt's source: count such statements apart). THE CARD IS WHAT COUNTS. Prove the row's statement (the work); the ties are given (YtfegdmkaahfhgaaGreatDoorTie.lean); close each card by the builder's one call (the guide's Derived/Test/ToyasCard.lean, 'card_holds'). Laid BY PROGRAM, IN A SANDBOX (cutbox-door.mjs). By AI agents, Wed Nov 11 2026. No macro, syntax, notation, axiom, sorry.
-/
import Derived.Test.YtfegdmkaahfhgaaGreatDoorRows
import GoSem.ClaimSeven
namespace Go.Proofs.YtfegdmkaahfhgaaGreatDoor
namespace Rows

/-- THE TIED CARD OF 'kerbstonelaw10.LabCopies'. -/
def labCopiesCard : Claim7 := { stood := { row := labCopiesRow, standIns := [], harness := (true, "e656fe62964cd150c212d02f59e53dc55010dcb3cdca51be270ae0aa4960a75c"), looks := false }, kinds := [], alts := [], laidByText := true, laidKinds := [.data, .data, .data], laidTests := true, laidLooks := .later }
def LabCopiesCardSaid : Prop := Claim7.holds Tryz.pinned (.plain (OpenSpec.ofChange labCopiesSpec)) labCopiesCard

/-- THE SECOND FORM's CARD OF 'kerbstonelaw10.LabCopies'. -/
def labCopiesUptoCard : Claim7 := { stood := { row := labCopiesUptoRow, standIns := [], harness := (true, "e656fe62964cd150c212d02f59e53dc55010dcb3cdca51be270ae0aa4960a75c"), looks := false }, kinds := [], alts := [], laidByText := true, laidKinds := [.data, .data, .data], laidTests := true, laidLooks := .later }
def LabCopiesUptoCardSaid : Prop := Claim7.holds Tryz.pinned (.plain (OpenSpec.upto labCopiesSpec)) labCopiesUptoCard
end Rows
end Go.Proofs.YtfegdmkaahfhgaaGreatDoor
