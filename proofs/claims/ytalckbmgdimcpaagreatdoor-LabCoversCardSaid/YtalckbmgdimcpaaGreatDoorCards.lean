/-
  DERIVED. GIVEN WITH THE SEED: THE CARDS: each row of YtalckbmgdimcpaaGreatDoorRows.lean that lists a variable, with what it lists TIED to the program's text (the seventh form; the later family's looks); each row that meets fmt, with fmt's text TOLD by the authors' own Lean function (tested against real Go, not proved from fmt's source: count such statements apart). THE CARD IS WHAT COUNTS. Prove the row's statement (the work); the ties are given (YtalckbmgdimcpaaGreatDoorTie.lean); close each card by the builder's one call (the guide's Derived/Test/ToyasCard.lean, 'card_holds'). Laid BY PROGRAM, IN A SANDBOX (cutbox-door.mjs). By AI agents, Wed Nov 11 2026. No macro, syntax, notation, axiom, sorry.
-/
import Derived.Test.YtalckbmgdimcpaaGreatDoorRows
import GoSem.ClaimSeven
namespace Go.Proofs.YtalckbmgdimcpaaGreatDoor
namespace Rows

/-- THE TIED CARD OF 'kerbstonelaw10.LabNoise'. -/
def labNoiseCard : Claim7 := { stood := { row := labNoiseRow, standIns := [], harness := (true, "5fb15673047adceca2838ca4d6cb03b236efed6cedb54d7c06a9643711b030f6"), looks := false }, kinds := [], alts := [], laidByText := true, laidKinds := [.data, .data, .data], laidTests := true, laidLooks := .later }
def LabNoiseCardSaid : Prop := Claim7.holds Tryz.pinned (.plain (OpenSpec.ofChange labNoiseSpec)) labNoiseCard

/-- THE TIED CARD OF 'kerbstonelaw10.LabCopies'. -/
def labCopiesCard : Claim7 := { stood := { row := labCopiesRow, standIns := [], harness := (true, "5fb15673047adceca2838ca4d6cb03b236efed6cedb54d7c06a9643711b030f6"), looks := false }, kinds := [], alts := [], laidByText := true, laidKinds := [.data, .data, .data], laidTests := true, laidLooks := .later }
def LabCopiesCardSaid : Prop := Claim7.holds Tryz.pinned (.plain (OpenSpec.ofChange labCopiesSpec)) labCopiesCard

/-- THE TIED CARD OF 'kerbstonelaw10.LabFails'. -/
def labFailsCard : Claim7 := { stood := { row := labFailsRow, standIns := [], harness := (true, "5fb15673047adceca2838ca4d6cb03b236efed6cedb54d7c06a9643711b030f6"), looks := false }, kinds := [], alts := [], laidByText := true, laidKinds := [.data, .data, .data], laidTests := true, laidLooks := .later }
def LabFailsCardSaid : Prop := Claim7.holds Tryz.pinned (.plain (OpenSpec.ofChange labFailsSpec)) labFailsCard

/-- THE TIED CARD OF 'kerbstonelaw10.LabCovers'. -/
def labCoversCard : Claim7 := { stood := { row := labCoversRow, standIns := [], harness := (true, "5fb15673047adceca2838ca4d6cb03b236efed6cedb54d7c06a9643711b030f6"), looks := false }, kinds := [], alts := [], laidByText := true, laidKinds := [.data, .data, .data], laidTests := true, laidLooks := .later }
def LabCoversCardSaid : Prop := Claim7.holds Tryz.pinned (.plain (OpenSpec.ofChange labCoversSpec)) labCoversCard

/-- THE SECOND FORM's CARD OF 'kerbstonelaw10.LabNoise'. -/
def labNoiseUptoCard : Claim7 := { stood := { row := labNoiseUptoRow, standIns := [], harness := (true, "5fb15673047adceca2838ca4d6cb03b236efed6cedb54d7c06a9643711b030f6"), looks := false }, kinds := [], alts := [], laidByText := true, laidKinds := [.data, .data, .data], laidTests := true, laidLooks := .later }
def LabNoiseUptoCardSaid : Prop := Claim7.holds Tryz.pinned (.plain (OpenSpec.upto labNoiseSpec)) labNoiseUptoCard

/-- THE SECOND FORM's CARD OF 'kerbstonelaw10.LabCopies'. -/
def labCopiesUptoCard : Claim7 := { stood := { row := labCopiesUptoRow, standIns := [], harness := (true, "5fb15673047adceca2838ca4d6cb03b236efed6cedb54d7c06a9643711b030f6"), looks := false }, kinds := [], alts := [], laidByText := true, laidKinds := [.data, .data, .data], laidTests := true, laidLooks := .later }
def LabCopiesUptoCardSaid : Prop := Claim7.holds Tryz.pinned (.plain (OpenSpec.upto labCopiesSpec)) labCopiesUptoCard

/-- THE SECOND FORM's CARD OF 'kerbstonelaw10.LabFails'. -/
def labFailsUptoCard : Claim7 := { stood := { row := labFailsUptoRow, standIns := [], harness := (true, "5fb15673047adceca2838ca4d6cb03b236efed6cedb54d7c06a9643711b030f6"), looks := false }, kinds := [], alts := [], laidByText := true, laidKinds := [.data, .data, .data], laidTests := true, laidLooks := .later }
def LabFailsUptoCardSaid : Prop := Claim7.holds Tryz.pinned (.plain (OpenSpec.upto labFailsSpec)) labFailsUptoCard

/-- THE SECOND FORM's CARD OF 'kerbstonelaw10.LabCovers'. -/
def labCoversUptoCard : Claim7 := { stood := { row := labCoversUptoRow, standIns := [], harness := (true, "5fb15673047adceca2838ca4d6cb03b236efed6cedb54d7c06a9643711b030f6"), looks := false }, kinds := [], alts := [], laidByText := true, laidKinds := [.data, .data, .data], laidTests := true, laidLooks := .later }
def LabCoversUptoCardSaid : Prop := Claim7.holds Tryz.pinned (.plain (OpenSpec.upto labCoversSpec)) labCoversUptoCard
end Rows
end Go.Proofs.YtalckbmgdimcpaaGreatDoor
