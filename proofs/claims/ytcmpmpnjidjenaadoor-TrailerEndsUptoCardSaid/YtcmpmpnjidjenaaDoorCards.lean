/-
  DERIVED. GIVEN WITH THE SEED: THE CARDS: each row of YtcmpmpnjidjenaaDoorRows.lean that lists a variable, with what it lists TIED to the program's text (the seventh form; the later family's looks); each row that meets fmt, with fmt's text TOLD by the authors' own Lean function (tested against real Go, not proved from fmt's source: count such statements apart). THE CARD IS WHAT COUNTS. Prove the row's statement (the work); the ties are given (YtcmpmpnjidjenaaDoorTie.lean); close each card by the builder's one call (the guide's Derived/Test/ToyasCard.lean, 'card_holds'). Laid BY PROGRAM, IN A SANDBOX (cutbox-door.mjs). By AI agents, Wed Nov 11 2026. No macro, syntax, notation, axiom, sorry.
-/
import Derived.Test.YtcmpmpnjidjenaaDoorRows
import GoSem.ClaimSeven
namespace Go.Proofs.YtcmpmpnjidjenaaDoor
namespace Rows

/-- THE TIED CARD OF 'bobbinlaw10.StepBytes'. -/
def stepBytesCard : Claim7 := { stood := { row := stepBytesRow, standIns := [], harness := (true, "d081413f5f5a85bd1a164d1923097d1c733168c8d5c061f406db2676f6be9c4b"), looks := false }, kinds := [], alts := [], laidByText := true, laidKinds := [.data], laidTests := true, laidLooks := .later }
def StepBytesCardSaid : Prop := Claim7.holds Tryd.pinned (.plain (OpenSpec.ofChange stepBytesSpec)) stepBytesCard

/-- THE TIED CARD OF 'bobbinlaw10.StepPlain'. -/
def stepPlainCard : Claim7 := { stood := { row := stepPlainRow, standIns := [], harness := (true, "d081413f5f5a85bd1a164d1923097d1c733168c8d5c061f406db2676f6be9c4b"), looks := false }, kinds := [], alts := [], laidByText := true, laidKinds := [.data], laidTests := true, laidLooks := .later }
def StepPlainCardSaid : Prop := Claim7.holds Tryd.pinned (.plain (OpenSpec.ofChange stepPlainSpec)) stepPlainCard

/-- THE TIED CARD OF 'bobbinlaw10.StepTexts'. -/
def stepTextsCard : Claim7 := { stood := { row := stepTextsRow, standIns := [], harness := (true, "d081413f5f5a85bd1a164d1923097d1c733168c8d5c061f406db2676f6be9c4b"), looks := false }, kinds := [], alts := [], laidByText := true, laidKinds := [.data], laidTests := true, laidLooks := .later }
def StepTextsCardSaid : Prop := Claim7.holds Tryd.pinned (.plain (OpenSpec.ofChange stepTextsSpec)) stepTextsCard

/-- THE TIED CARD OF 'bobbinlaw10.StepSplits'. -/
def stepSplitsCard : Claim7 := { stood := { row := stepSplitsRow, standIns := [], harness := (true, "d081413f5f5a85bd1a164d1923097d1c733168c8d5c061f406db2676f6be9c4b"), looks := false }, kinds := [], alts := [], laidByText := true, laidKinds := [.data], laidTests := true, laidLooks := .later }
def StepSplitsCardSaid : Prop := Claim7.holds Tryd.pinned (.plain (OpenSpec.ofChange stepSplitsSpec)) stepSplitsCard

/-- THE TIED CARD OF 'bobbinlaw10.StepInert'. -/
def stepInertCard : Claim7 := { stood := { row := stepInertRow, standIns := [], harness := (true, "d081413f5f5a85bd1a164d1923097d1c733168c8d5c061f406db2676f6be9c4b"), looks := false }, kinds := [], alts := [], laidByText := true, laidKinds := [.data], laidTests := true, laidLooks := .later }
def StepInertCardSaid : Prop := Claim7.holds Tryd.pinned (.plain (OpenSpec.ofChange stepInertSpec)) stepInertCard

/-- THE TIED CARD OF 'bobbinlaw10.StepTags'. -/
def stepTagsCard : Claim7 := { stood := { row := stepTagsRow, standIns := [], harness := (true, "d081413f5f5a85bd1a164d1923097d1c733168c8d5c061f406db2676f6be9c4b"), looks := false }, kinds := [], alts := [], laidByText := true, laidKinds := [.data], laidTests := true, laidLooks := .later }
def StepTagsCardSaid : Prop := Claim7.holds Tryd.pinned (.plain (OpenSpec.ofChange stepTagsSpec)) stepTagsCard

/-- THE TIED CARD OF 'bobbinlaw10.StepAgrees'. -/
def stepAgreesCard : Claim7 := { stood := { row := stepAgreesRow, standIns := [], harness := (true, "d081413f5f5a85bd1a164d1923097d1c733168c8d5c061f406db2676f6be9c4b"), looks := false }, kinds := [], alts := [], laidByText := true, laidKinds := [.data], laidTests := true, laidLooks := .later }
def StepAgreesCardSaid : Prop := Claim7.holds Tryd.pinned (.plain (OpenSpec.ofChange stepAgreesSpec)) stepAgreesCard

/-- THE TIED CARD OF 'bobbinlaw10.StepFlats'. -/
def stepFlatsCard : Claim7 := { stood := { row := stepFlatsRow, standIns := [], harness := (true, "d081413f5f5a85bd1a164d1923097d1c733168c8d5c061f406db2676f6be9c4b"), looks := false }, kinds := [], alts := [], laidByText := true, laidKinds := [.data], laidTests := true, laidLooks := .later }
def StepFlatsCardSaid : Prop := Claim7.holds Tryd.pinned (.plain (OpenSpec.ofChange stepFlatsSpec)) stepFlatsCard

/-- THE TIED CARD OF 'bobbinlaw10.StepBad'. -/
def stepBadCard : Claim7 := { stood := { row := stepBadRow, standIns := [], harness := (true, "d081413f5f5a85bd1a164d1923097d1c733168c8d5c061f406db2676f6be9c4b"), looks := false }, kinds := [], alts := [], laidByText := true, laidKinds := [.data], laidTests := true, laidLooks := .later }
def StepBadCardSaid : Prop := Claim7.holds Tryd.pinned (.plain (OpenSpec.ofChange stepBadSpec)) stepBadCard

/-- THE TIED CARD OF 'bobbinlaw12.TrailerFors'. -/
def trailerForsCard : Claim7 := { stood := { row := trailerForsRow, standIns := [], harness := (true, "d081413f5f5a85bd1a164d1923097d1c733168c8d5c061f406db2676f6be9c4b"), looks := false }, kinds := [], alts := [], laidByText := true, laidKinds := [.data], laidTests := true, laidLooks := .later }
def TrailerForsCardSaid : Prop := Claim7.holds Tryd.pinned (.plain (OpenSpec.ofChange trailerForsSpec)) trailerForsCard

/-- THE TIED CARD OF 'bobbinlaw12.TrailerParts'. -/
def trailerPartsCard : Claim7 := { stood := { row := trailerPartsRow, standIns := [], harness := (true, "d081413f5f5a85bd1a164d1923097d1c733168c8d5c061f406db2676f6be9c4b"), looks := false }, kinds := [], alts := [], laidByText := true, laidKinds := [.data], laidTests := true, laidLooks := .later }
def TrailerPartsCardSaid : Prop := Claim7.holds Tryd.pinned (.plain (OpenSpec.ofChange trailerPartsSpec)) trailerPartsCard

/-- THE TIED CARD OF 'bobbinlaw12.TrailerSettles'. -/
def trailerSettlesCard : Claim7 := { stood := { row := trailerSettlesRow, standIns := [], harness := (true, "d081413f5f5a85bd1a164d1923097d1c733168c8d5c061f406db2676f6be9c4b"), looks := false }, kinds := [], alts := [], laidByText := true, laidKinds := [.data], laidTests := true, laidLooks := .later }
def TrailerSettlesCardSaid : Prop := Claim7.holds Tryd.pinned (.plain (OpenSpec.ofChange trailerSettlesSpec)) trailerSettlesCard

/-- THE TIED CARD OF 'bobbinlaw12.TrailerFlat'. -/
def trailerFlatCard : Claim7 := { stood := { row := trailerFlatRow, standIns := [], harness := (true, "d081413f5f5a85bd1a164d1923097d1c733168c8d5c061f406db2676f6be9c4b"), looks := false }, kinds := [], alts := [], laidByText := true, laidKinds := [.data], laidTests := true, laidLooks := .later }
def TrailerFlatCardSaid : Prop := Claim7.holds Tryd.pinned (.plain (OpenSpec.ofChange trailerFlatSpec)) trailerFlatCard

/-- THE TIED CARD OF 'bobbinlaw12.TrailerHoles'. -/
def trailerHolesCard : Claim7 := { stood := { row := trailerHolesRow, standIns := [], harness := (true, "d081413f5f5a85bd1a164d1923097d1c733168c8d5c061f406db2676f6be9c4b"), looks := false }, kinds := [], alts := [], laidByText := true, laidKinds := [.data], laidTests := true, laidLooks := .later }
def TrailerHolesCardSaid : Prop := Claim7.holds Tryd.pinned (.plain (OpenSpec.ofChange trailerHolesSpec)) trailerHolesCard

/-- THE TIED CARD OF 'bobbinlaw12.TrailerEnds'. -/
def trailerEndsCard : Claim7 := { stood := { row := trailerEndsRow, standIns := [], harness := (true, "d081413f5f5a85bd1a164d1923097d1c733168c8d5c061f406db2676f6be9c4b"), looks := false }, kinds := [], alts := [], laidByText := true, laidKinds := [.data], laidTests := true, laidLooks := .later }
def TrailerEndsCardSaid : Prop := Claim7.holds Tryd.pinned (.plain (OpenSpec.ofChange trailerEndsSpec)) trailerEndsCard

/-- THE SECOND FORM's CARD OF 'bobbinlaw10.StepBytes'. -/
def stepBytesUptoCard : Claim7 := { stood := { row := stepBytesUptoRow, standIns := [], harness := (true, "d081413f5f5a85bd1a164d1923097d1c733168c8d5c061f406db2676f6be9c4b"), looks := false }, kinds := [], alts := [], laidByText := true, laidKinds := [.data], laidTests := true, laidLooks := .later }
def StepBytesUptoCardSaid : Prop := Claim7.holds Tryd.pinned (.plain (OpenSpec.upto stepBytesSpec)) stepBytesUptoCard

/-- THE SECOND FORM's CARD OF 'bobbinlaw10.StepPlain'. -/
def stepPlainUptoCard : Claim7 := { stood := { row := stepPlainUptoRow, standIns := [], harness := (true, "d081413f5f5a85bd1a164d1923097d1c733168c8d5c061f406db2676f6be9c4b"), looks := false }, kinds := [], alts := [], laidByText := true, laidKinds := [.data], laidTests := true, laidLooks := .later }
def StepPlainUptoCardSaid : Prop := Claim7.holds Tryd.pinned (.plain (OpenSpec.upto stepPlainSpec)) stepPlainUptoCard

/-- THE SECOND FORM's CARD OF 'bobbinlaw10.StepTexts'. -/
def stepTextsUptoCard : Claim7 := { stood := { row := stepTextsUptoRow, standIns := [], harness := (true, "d081413f5f5a85bd1a164d1923097d1c733168c8d5c061f406db2676f6be9c4b"), looks := false }, kinds := [], alts := [], laidByText := true, laidKinds := [.data], laidTests := true, laidLooks := .later }
def StepTextsUptoCardSaid : Prop := Claim7.holds Tryd.pinned (.plain (OpenSpec.upto stepTextsSpec)) stepTextsUptoCard

/-- THE SECOND FORM's CARD OF 'bobbinlaw10.StepSplits'. -/
def stepSplitsUptoCard : Claim7 := { stood := { row := stepSplitsUptoRow, standIns := [], harness := (true, "d081413f5f5a85bd1a164d1923097d1c733168c8d5c061f406db2676f6be9c4b"), looks := false }, kinds := [], alts := [], laidByText := true, laidKinds := [.data], laidTests := true, laidLooks := .later }
def StepSplitsUptoCardSaid : Prop := Claim7.holds Tryd.pinned (.plain (OpenSpec.upto stepSplitsSpec)) stepSplitsUptoCard

/-- THE SECOND FORM's CARD OF 'bobbinlaw10.StepInert'. -/
def stepInertUptoCard : Claim7 := { stood := { row := stepInertUptoRow, standIns := [], harness := (true, "d081413f5f5a85bd1a164d1923097d1c733168c8d5c061f406db2676f6be9c4b"), looks := false }, kinds := [], alts := [], laidByText := true, laidKinds := [.data], laidTests := true, laidLooks := .later }
def StepInertUptoCardSaid : Prop := Claim7.holds Tryd.pinned (.plain (OpenSpec.upto stepInertSpec)) stepInertUptoCard

/-- THE SECOND FORM's CARD OF 'bobbinlaw10.StepTags'. -/
def stepTagsUptoCard : Claim7 := { stood := { row := stepTagsUptoRow, standIns := [], harness := (true, "d081413f5f5a85bd1a164d1923097d1c733168c8d5c061f406db2676f6be9c4b"), looks := false }, kinds := [], alts := [], laidByText := true, laidKinds := [.data], laidTests := true, laidLooks := .later }
def StepTagsUptoCardSaid : Prop := Claim7.holds Tryd.pinned (.plain (OpenSpec.upto stepTagsSpec)) stepTagsUptoCard

/-- THE SECOND FORM's CARD OF 'bobbinlaw10.StepAgrees'. -/
def stepAgreesUptoCard : Claim7 := { stood := { row := stepAgreesUptoRow, standIns := [], harness := (true, "d081413f5f5a85bd1a164d1923097d1c733168c8d5c061f406db2676f6be9c4b"), looks := false }, kinds := [], alts := [], laidByText := true, laidKinds := [.data], laidTests := true, laidLooks := .later }
def StepAgreesUptoCardSaid : Prop := Claim7.holds Tryd.pinned (.plain (OpenSpec.upto stepAgreesSpec)) stepAgreesUptoCard

/-- THE SECOND FORM's CARD OF 'bobbinlaw10.StepFlats'. -/
def stepFlatsUptoCard : Claim7 := { stood := { row := stepFlatsUptoRow, standIns := [], harness := (true, "d081413f5f5a85bd1a164d1923097d1c733168c8d5c061f406db2676f6be9c4b"), looks := false }, kinds := [], alts := [], laidByText := true, laidKinds := [.data], laidTests := true, laidLooks := .later }
def StepFlatsUptoCardSaid : Prop := Claim7.holds Tryd.pinned (.plain (OpenSpec.upto stepFlatsSpec)) stepFlatsUptoCard

/-- THE SECOND FORM's CARD OF 'bobbinlaw10.StepBad'. -/
def stepBadUptoCard : Claim7 := { stood := { row := stepBadUptoRow, standIns := [], harness := (true, "d081413f5f5a85bd1a164d1923097d1c733168c8d5c061f406db2676f6be9c4b"), looks := false }, kinds := [], alts := [], laidByText := true, laidKinds := [.data], laidTests := true, laidLooks := .later }
def StepBadUptoCardSaid : Prop := Claim7.holds Tryd.pinned (.plain (OpenSpec.upto stepBadSpec)) stepBadUptoCard

/-- THE SECOND FORM's CARD OF 'bobbinlaw12.TrailerFors'. -/
def trailerForsUptoCard : Claim7 := { stood := { row := trailerForsUptoRow, standIns := [], harness := (true, "d081413f5f5a85bd1a164d1923097d1c733168c8d5c061f406db2676f6be9c4b"), looks := false }, kinds := [], alts := [], laidByText := true, laidKinds := [.data], laidTests := true, laidLooks := .later }
def TrailerForsUptoCardSaid : Prop := Claim7.holds Tryd.pinned (.plain (OpenSpec.upto trailerForsSpec)) trailerForsUptoCard

/-- THE SECOND FORM's CARD OF 'bobbinlaw12.TrailerParts'. -/
def trailerPartsUptoCard : Claim7 := { stood := { row := trailerPartsUptoRow, standIns := [], harness := (true, "d081413f5f5a85bd1a164d1923097d1c733168c8d5c061f406db2676f6be9c4b"), looks := false }, kinds := [], alts := [], laidByText := true, laidKinds := [.data], laidTests := true, laidLooks := .later }
def TrailerPartsUptoCardSaid : Prop := Claim7.holds Tryd.pinned (.plain (OpenSpec.upto trailerPartsSpec)) trailerPartsUptoCard

/-- THE SECOND FORM's CARD OF 'bobbinlaw12.TrailerSettles'. -/
def trailerSettlesUptoCard : Claim7 := { stood := { row := trailerSettlesUptoRow, standIns := [], harness := (true, "d081413f5f5a85bd1a164d1923097d1c733168c8d5c061f406db2676f6be9c4b"), looks := false }, kinds := [], alts := [], laidByText := true, laidKinds := [.data], laidTests := true, laidLooks := .later }
def TrailerSettlesUptoCardSaid : Prop := Claim7.holds Tryd.pinned (.plain (OpenSpec.upto trailerSettlesSpec)) trailerSettlesUptoCard

/-- THE SECOND FORM's CARD OF 'bobbinlaw12.TrailerFlat'. -/
def trailerFlatUptoCard : Claim7 := { stood := { row := trailerFlatUptoRow, standIns := [], harness := (true, "d081413f5f5a85bd1a164d1923097d1c733168c8d5c061f406db2676f6be9c4b"), looks := false }, kinds := [], alts := [], laidByText := true, laidKinds := [.data], laidTests := true, laidLooks := .later }
def TrailerFlatUptoCardSaid : Prop := Claim7.holds Tryd.pinned (.plain (OpenSpec.upto trailerFlatSpec)) trailerFlatUptoCard

/-- THE SECOND FORM's CARD OF 'bobbinlaw12.TrailerHoles'. -/
def trailerHolesUptoCard : Claim7 := { stood := { row := trailerHolesUptoRow, standIns := [], harness := (true, "d081413f5f5a85bd1a164d1923097d1c733168c8d5c061f406db2676f6be9c4b"), looks := false }, kinds := [], alts := [], laidByText := true, laidKinds := [.data], laidTests := true, laidLooks := .later }
def TrailerHolesUptoCardSaid : Prop := Claim7.holds Tryd.pinned (.plain (OpenSpec.upto trailerHolesSpec)) trailerHolesUptoCard

/-- THE SECOND FORM's CARD OF 'bobbinlaw12.TrailerEnds'. -/
def trailerEndsUptoCard : Claim7 := { stood := { row := trailerEndsUptoRow, standIns := [], harness := (true, "d081413f5f5a85bd1a164d1923097d1c733168c8d5c061f406db2676f6be9c4b"), looks := false }, kinds := [], alts := [], laidByText := true, laidKinds := [.data], laidTests := true, laidLooks := .later }
def TrailerEndsUptoCardSaid : Prop := Claim7.holds Tryd.pinned (.plain (OpenSpec.upto trailerEndsSpec)) trailerEndsUptoCard
end Rows
end Go.Proofs.YtcmpmpnjidjenaaDoor
