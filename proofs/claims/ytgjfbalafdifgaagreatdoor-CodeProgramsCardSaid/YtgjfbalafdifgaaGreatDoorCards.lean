/-
  DERIVED. GIVEN WITH THE SEED: THE CARDS: each row of YtgjfbalafdifgaaGreatDoorRows.lean that lists a variable, with what it lists TIED to the program's text (the seventh form; the later family's looks); each row that meets fmt, with fmt's text TOLD by the authors' own Lean function (tested against real Go, not proved from fmt's source: count such statements apart). THE CARD IS WHAT COUNTS. Prove the row's statement (the work); the ties are given (YtgjfbalafdifgaaGreatDoorTie.lean); close each card by the builder's one call (the guide's Derived/Test/ToyasCard.lean, 'card_holds'). Laid BY PROGRAM, IN A SANDBOX (cutbox-door.mjs). By AI agents, Wed Nov 11 2026. No macro, syntax, notation, axiom, sorry.
-/
import Derived.Test.YtgjfbalafdifgaaGreatDoorRows
import GoSem.ClaimSeven
namespace Go.Proofs.YtgjfbalafdifgaaGreatDoor
namespace Rows

/-- THE TIED CARD OF 'bobbinlaw15.InferTemplates'. -/
def inferTemplatesCard : Claim7 := { stood := { row := inferTemplatesRow, standIns := [], harness := (true, "ccf3f9010b5e87ab8c63a143523f87b6fff0efede5c678a8db7b9d26826a6233"), looks := false }, kinds := [], alts := [], laidByText := true, laidKinds := [.data, .data, .pinned], laidTests := true, laidLooks := .later }
def InferTemplatesCardSaid : Prop := Claim7.holds Tryz.pinned (.plain (OpenSpec.ofChange inferTemplatesSpec)) inferTemplatesCard

/-- THE TIED CARD OF 'bobbinlaw15.InferFragments'. -/
def inferFragmentsCard : Claim7 := { stood := { row := inferFragmentsRow, standIns := [], harness := (true, "ccf3f9010b5e87ab8c63a143523f87b6fff0efede5c678a8db7b9d26826a6233"), looks := false }, kinds := [], alts := [], laidByText := true, laidKinds := [.data, .data, .pinned], laidTests := true, laidLooks := .later }
def InferFragmentsCardSaid : Prop := Claim7.holds Tryz.pinned (.plain (OpenSpec.ofChange inferFragmentsSpec)) inferFragmentsCard

/-- THE TIED CARD OF 'bobbinlaw16.CodePrograms'. -/
def codeProgramsCard : Claim7 := { stood := { row := codeProgramsRow, standIns := [], harness := (true, "ccf3f9010b5e87ab8c63a143523f87b6fff0efede5c678a8db7b9d26826a6233"), looks := false }, kinds := [], alts := [], laidByText := true, laidKinds := [.data, .data, .pinned], laidTests := true, laidLooks := .later }
def CodeProgramsCardSaid : Prop := Claim7.holds Tryz.pinned (.plain (OpenSpec.ofChange codeProgramsSpec)) codeProgramsCard

/-- THE SECOND FORM's CARD OF 'bobbinlaw15.InferTemplates'. -/
def inferTemplatesUptoCard : Claim7 := { stood := { row := inferTemplatesUptoRow, standIns := [], harness := (true, "ccf3f9010b5e87ab8c63a143523f87b6fff0efede5c678a8db7b9d26826a6233"), looks := false }, kinds := [], alts := [], laidByText := true, laidKinds := [.data, .data, .pinned], laidTests := true, laidLooks := .later }
def InferTemplatesUptoCardSaid : Prop := Claim7.holds Tryz.pinned (.plain (OpenSpec.upto inferTemplatesSpec)) inferTemplatesUptoCard

/-- THE SECOND FORM's CARD OF 'bobbinlaw15.InferFragments'. -/
def inferFragmentsUptoCard : Claim7 := { stood := { row := inferFragmentsUptoRow, standIns := [], harness := (true, "ccf3f9010b5e87ab8c63a143523f87b6fff0efede5c678a8db7b9d26826a6233"), looks := false }, kinds := [], alts := [], laidByText := true, laidKinds := [.data, .data, .pinned], laidTests := true, laidLooks := .later }
def InferFragmentsUptoCardSaid : Prop := Claim7.holds Tryz.pinned (.plain (OpenSpec.upto inferFragmentsSpec)) inferFragmentsUptoCard

/-- THE SECOND FORM's CARD OF 'bobbinlaw16.CodePrograms'. -/
def codeProgramsUptoCard : Claim7 := { stood := { row := codeProgramsUptoRow, standIns := [], harness := (true, "ccf3f9010b5e87ab8c63a143523f87b6fff0efede5c678a8db7b9d26826a6233"), looks := false }, kinds := [], alts := [], laidByText := true, laidKinds := [.data, .data, .pinned], laidTests := true, laidLooks := .later }
def CodeProgramsUptoCardSaid : Prop := Claim7.holds Tryz.pinned (.plain (OpenSpec.upto codeProgramsSpec)) codeProgramsUptoCard
end Rows
end Go.Proofs.YtgjfbalafdifgaaGreatDoor
