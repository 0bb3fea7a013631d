/-
  DERIVED. GIVEN WITH THE SEED: THE CARDS: each row of YtgjfbalafdifgaaDoorRows.lean that lists a variable, with what it lists TIED to the program's text (the seventh form; the later family's looks); each row that meets fmt, with fmt's text TOLD by the authors' own Lean function (tested against real Go, not proved from fmt's source: count such statements apart). THE CARD IS WHAT COUNTS. Prove the row's statement (the work); the ties are given (YtgjfbalafdifgaaDoorTie.lean); close each card by the builder's one call (the guide's Derived/Test/ToyasCard.lean, 'card_holds'). Laid BY PROGRAM, IN A SANDBOX (cutbox-door.mjs). By AI agents, Wed Nov 11 2026. No macro, syntax, notation, axiom, sorry.
-/
import Derived.Test.YtgjfbalafdifgaaDoorRows
import GoSem.ClaimSeven
namespace Go.Proofs.YtgjfbalafdifgaaDoor
namespace Rows

/-- THE TIED CARD OF 'bobbinlaw13.LexAlls'. -/
def lexAllsCard : Claim7 := { stood := { row := lexAllsRow, standIns := [], harness := (true, "824293f61deb5f193587cb5ee8ee4b68eac6b923534069784e88a80e23519b9d"), looks := false }, kinds := [], alts := [], laidByText := true, laidKinds := [.data, .pinned], laidTests := true, laidLooks := .later }
def LexAllsCardSaid : Prop := Claim7.holds Tryd.pinned (.plain (OpenSpec.ofChange lexAllsSpec)) lexAllsCard

/-- THE TIED CARD OF 'bobbinlaw13.LexCovers'. -/
def lexCoversCard : Claim7 := { stood := { row := lexCoversRow, standIns := [], harness := (true, "824293f61deb5f193587cb5ee8ee4b68eac6b923534069784e88a80e23519b9d"), looks := false }, kinds := [], alts := [], laidByText := true, laidKinds := [.data, .pinned], laidTests := true, laidLooks := .later }
def LexCoversCardSaid : Prop := Claim7.holds Tryd.pinned (.plain (OpenSpec.ofChange lexCoversSpec)) lexCoversCard

/-- THE TIED CARD OF 'bobbinlaw13.LexBlanks'. -/
def lexBlanksCard : Claim7 := { stood := { row := lexBlanksRow, standIns := [], harness := (true, "824293f61deb5f193587cb5ee8ee4b68eac6b923534069784e88a80e23519b9d"), looks := false }, kinds := [], alts := [], laidByText := true, laidKinds := [.data, .pinned], laidTests := true, laidLooks := .later }
def LexBlanksCardSaid : Prop := Claim7.holds Tryd.pinned (.plain (OpenSpec.ofChange lexBlanksSpec)) lexBlanksCard

/-- THE TIED CARD OF 'bobbinlaw13.LexLong'. -/
def lexLongCard : Claim7 := { stood := { row := lexLongRow, standIns := [], harness := (true, "824293f61deb5f193587cb5ee8ee4b68eac6b923534069784e88a80e23519b9d"), looks := false }, kinds := [], alts := [], laidByText := true, laidKinds := [.data, .pinned], laidTests := true, laidLooks := .later }
def LexLongCardSaid : Prop := Claim7.holds Tryd.pinned (.plain (OpenSpec.ofChange lexLongSpec)) lexLongCard

/-- THE TIED CARD OF 'bobbinlaw13.LexEach'. -/
def lexEachCard : Claim7 := { stood := { row := lexEachRow, standIns := [], harness := (true, "824293f61deb5f193587cb5ee8ee4b68eac6b923534069784e88a80e23519b9d"), looks := false }, kinds := [], alts := [], laidByText := true, laidKinds := [.data, .pinned], laidTests := true, laidLooks := .later }
def LexEachCardSaid : Prop := Claim7.holds Tryd.pinned (.plain (OpenSpec.ofChange lexEachSpec)) lexEachCard

/-- THE TIED CARD OF 'bobbinlaw13.LexNames'. -/
def lexNamesCard : Claim7 := { stood := { row := lexNamesRow, standIns := [], harness := (true, "824293f61deb5f193587cb5ee8ee4b68eac6b923534069784e88a80e23519b9d"), looks := false }, kinds := [], alts := [], laidByText := true, laidKinds := [.data, .pinned], laidTests := true, laidLooks := .later }
def LexNamesCardSaid : Prop := Claim7.holds Tryd.pinned (.plain (OpenSpec.ofChange lexNamesSpec)) lexNamesCard

/-- THE TIED CARD OF 'bobbinlaw14.ParseTrees'. -/
def parseTreesCard : Claim7 := { stood := { row := parseTreesRow, standIns := [], harness := (true, "824293f61deb5f193587cb5ee8ee4b68eac6b923534069784e88a80e23519b9d"), looks := false }, kinds := [], alts := [], laidByText := true, laidKinds := [.data, .pinned], laidTests := true, laidLooks := .later }
def ParseTreesCardSaid : Prop := Claim7.holds Tryd.pinned (.plain (OpenSpec.ofChange parseTreesSpec)) parseTreesCard

/-- THE TIED CARD OF 'bobbinlaw14.ParseDeep'. -/
def parseDeepCard : Claim7 := { stood := { row := parseDeepRow, standIns := [], harness := (true, "824293f61deb5f193587cb5ee8ee4b68eac6b923534069784e88a80e23519b9d"), looks := false }, kinds := [], alts := [], laidByText := true, laidKinds := [.data, .pinned], laidTests := true, laidLooks := .later }
def ParseDeepCardSaid : Prop := Claim7.holds Tryd.pinned (.plain (OpenSpec.ofChange parseDeepSpec)) parseDeepCard

/-- THE TIED CARD OF 'bobbinlaw14.ParseOrder'. -/
def parseOrderCard : Claim7 := { stood := { row := parseOrderRow, standIns := [], harness := (true, "824293f61deb5f193587cb5ee8ee4b68eac6b923534069784e88a80e23519b9d"), looks := false }, kinds := [], alts := [], laidByText := true, laidKinds := [.data, .pinned], laidTests := true, laidLooks := .later }
def ParseOrderCardSaid : Prop := Claim7.holds Tryd.pinned (.plain (OpenSpec.ofChange parseOrderSpec)) parseOrderCard

/-- THE TIED CARD OF 'bobbinlaw14.ParseOdd'. -/
def parseOddCard : Claim7 := { stood := { row := parseOddRow, standIns := [], harness := (true, "824293f61deb5f193587cb5ee8ee4b68eac6b923534069784e88a80e23519b9d"), looks := false }, kinds := [], alts := [], laidByText := true, laidKinds := [.data, .pinned], laidTests := true, laidLooks := .later }
def ParseOddCardSaid : Prop := Claim7.holds Tryd.pinned (.plain (OpenSpec.ofChange parseOddSpec)) parseOddCard

/-- THE TIED CARD OF 'bobbinlaw15.InferJoins'. -/
def inferJoinsCard : Claim7 := { stood := { row := inferJoinsRow, standIns := [], harness := (true, "824293f61deb5f193587cb5ee8ee4b68eac6b923534069784e88a80e23519b9d"), looks := false }, kinds := [], alts := [], laidByText := true, laidKinds := [.data, .data, .pinned], laidTests := true, laidLooks := .later }
def InferJoinsCardSaid : Prop := Claim7.holds Tryd.pinned (.plain (OpenSpec.ofChange inferJoinsSpec)) inferJoinsCard

/-- THE TIED CARD OF 'bobbinlaw15.InferBranches'. -/
def inferBranchesCard : Claim7 := { stood := { row := inferBranchesRow, standIns := [], harness := (true, "824293f61deb5f193587cb5ee8ee4b68eac6b923534069784e88a80e23519b9d"), looks := false }, kinds := [], alts := [], laidByText := true, laidKinds := [.data, .data, .pinned], laidTests := true, laidLooks := .later }
def InferBranchesCardSaid : Prop := Claim7.holds Tryd.pinned (.plain (OpenSpec.ofChange inferBranchesSpec)) inferBranchesCard

/-- THE TIED CARD OF 'bobbinlaw15.InferTwice'. -/
def inferTwiceCard : Claim7 := { stood := { row := inferTwiceRow, standIns := [], harness := (true, "824293f61deb5f193587cb5ee8ee4b68eac6b923534069784e88a80e23519b9d"), looks := false }, kinds := [], alts := [], laidByText := true, laidKinds := [.data, .data, .pinned], laidTests := true, laidLooks := .later }
def InferTwiceCardSaid : Prop := Claim7.holds Tryd.pinned (.plain (OpenSpec.ofChange inferTwiceSpec)) inferTwiceCard

/-- THE TIED CARD OF 'bobbinlaw16.CodeFlushes'. -/
def codeFlushesCard : Claim7 := { stood := { row := codeFlushesRow, standIns := [], harness := (true, "824293f61deb5f193587cb5ee8ee4b68eac6b923534069784e88a80e23519b9d"), looks := false }, kinds := [], alts := [], laidByText := true, laidKinds := [.data, .data, .pinned], laidTests := true, laidLooks := .later }
def CodeFlushesCardSaid : Prop := Claim7.holds Tryd.pinned (.plain (OpenSpec.ofChange codeFlushesSpec)) codeFlushesCard

/-- THE TIED CARD OF 'bobbinlaw16.CodeBehind'. -/
def codeBehindCard : Claim7 := { stood := { row := codeBehindRow, standIns := [], harness := (true, "824293f61deb5f193587cb5ee8ee4b68eac6b923534069784e88a80e23519b9d"), looks := false }, kinds := [], alts := [], laidByText := true, laidKinds := [.data, .data, .pinned], laidTests := true, laidLooks := .later }
def CodeBehindCardSaid : Prop := Claim7.holds Tryd.pinned (.plain (OpenSpec.ofChange codeBehindSpec)) codeBehindCard

/-- THE TIED CARD OF 'bobbinlaw16.CodeAgrees'. -/
def codeAgreesCard : Claim7 := { stood := { row := codeAgreesRow, standIns := [], harness := (true, "824293f61deb5f193587cb5ee8ee4b68eac6b923534069784e88a80e23519b9d"), looks := false }, kinds := [], alts := [], laidByText := true, laidKinds := [.data, .data, .pinned], laidTests := true, laidLooks := .later }
def CodeAgreesCardSaid : Prop := Claim7.holds Tryd.pinned (.plain (OpenSpec.ofChange codeAgreesSpec)) codeAgreesCard

/-- THE TIED CARD OF 'bobbinlaw16.CodeGoes'. -/
def codeGoesCard : Claim7 := { stood := { row := codeGoesRow, standIns := [], harness := (true, "824293f61deb5f193587cb5ee8ee4b68eac6b923534069784e88a80e23519b9d"), looks := false }, kinds := [], alts := [], laidByText := true, laidKinds := [.data, .data, .pinned], laidTests := true, laidLooks := .later }
def CodeGoesCardSaid : Prop := Claim7.holds Tryd.pinned (.plain (OpenSpec.ofChange codeGoesSpec)) codeGoesCard

/-- THE TIED CARD OF 'bobbinlaw16.CodeLooks'. -/
def codeLooksCard : Claim7 := { stood := { row := codeLooksRow, standIns := [], harness := (true, "824293f61deb5f193587cb5ee8ee4b68eac6b923534069784e88a80e23519b9d"), looks := false }, kinds := [], alts := [], laidByText := true, laidKinds := [.data, .data, .pinned], laidTests := true, laidLooks := .later }
def CodeLooksCardSaid : Prop := Claim7.holds Tryd.pinned (.plain (OpenSpec.ofChange codeLooksSpec)) codeLooksCard

/-- THE TIED CARD OF 'bobbinlaw15.InferHoles'. -/
def inferHolesCard : Claim7 := { stood := { row := inferHolesRow, standIns := [], harness := (true, "824293f61deb5f193587cb5ee8ee4b68eac6b923534069784e88a80e23519b9d"), looks := false }, kinds := [], alts := [], laidByText := true, laidKinds := [.data, .data, .pinned], laidTests := true, laidLooks := .later }
def InferHolesCardSaid : Prop := Claim7.holds Tryd.pinned (.plain (OpenSpec.ofChange inferHolesSpec)) inferHolesCard

/-- THE SECOND FORM's CARD OF 'bobbinlaw13.LexAlls'. -/
def lexAllsUptoCard : Claim7 := { stood := { row := lexAllsUptoRow, standIns := [], harness := (true, "824293f61deb5f193587cb5ee8ee4b68eac6b923534069784e88a80e23519b9d"), looks := false }, kinds := [], alts := [], laidByText := true, laidKinds := [.data, .pinned], laidTests := true, laidLooks := .later }
def LexAllsUptoCardSaid : Prop := Claim7.holds Tryd.pinned (.plain (OpenSpec.upto lexAllsSpec)) lexAllsUptoCard

/-- THE SECOND FORM's CARD OF 'bobbinlaw13.LexCovers'. -/
def lexCoversUptoCard : Claim7 := { stood := { row := lexCoversUptoRow, standIns := [], harness := (true, "824293f61deb5f193587cb5ee8ee4b68eac6b923534069784e88a80e23519b9d"), looks := false }, kinds := [], alts := [], laidByText := true, laidKinds := [.data, .pinned], laidTests := true, laidLooks := .later }
def LexCoversUptoCardSaid : Prop := Claim7.holds Tryd.pinned (.plain (OpenSpec.upto lexCoversSpec)) lexCoversUptoCard

/-- THE SECOND FORM's CARD OF 'bobbinlaw13.LexBlanks'. -/
def lexBlanksUptoCard : Claim7 := { stood := { row := lexBlanksUptoRow, standIns := [], harness := (true, "824293f61deb5f193587cb5ee8ee4b68eac6b923534069784e88a80e23519b9d"), looks := false }, kinds := [], alts := [], laidByText := true, laidKinds := [.data, .pinned], laidTests := true, laidLooks := .later }
def LexBlanksUptoCardSaid : Prop := Claim7.holds Tryd.pinned (.plain (OpenSpec.upto lexBlanksSpec)) lexBlanksUptoCard

/-- THE SECOND FORM's CARD OF 'bobbinlaw13.LexLong'. -/
def lexLongUptoCard : Claim7 := { stood := { row := lexLongUptoRow, standIns := [], harness := (true, "824293f61deb5f193587cb5ee8ee4b68eac6b923534069784e88a80e23519b9d"), looks := false }, kinds := [], alts := [], laidByText := true, laidKinds := [.data, .pinned], laidTests := true, laidLooks := .later }
def LexLongUptoCardSaid : Prop := Claim7.holds Tryd.pinned (.plain (OpenSpec.upto lexLongSpec)) lexLongUptoCard

/-- THE SECOND FORM's CARD OF 'bobbinlaw13.LexEach'. -/
def lexEachUptoCard : Claim7 := { stood := { row := lexEachUptoRow, standIns := [], harness := (true, "824293f61deb5f193587cb5ee8ee4b68eac6b923534069784e88a80e23519b9d"), looks := false }, kinds := [], alts := [], laidByText := true, laidKinds := [.data, .pinned], laidTests := true, laidLooks := .later }
def LexEachUptoCardSaid : Prop := Claim7.holds Tryd.pinned (.plain (OpenSpec.upto lexEachSpec)) lexEachUptoCard

/-- THE SECOND FORM's CARD OF 'bobbinlaw13.LexNames'. -/
def lexNamesUptoCard : Claim7 := { stood := { row := lexNamesUptoRow, standIns := [], harness := (true, "824293f61deb5f193587cb5ee8ee4b68eac6b923534069784e88a80e23519b9d"), looks := false }, kinds := [], alts := [], laidByText := true, laidKinds := [.data, .pinned], laidTests := true, laidLooks := .later }
def LexNamesUptoCardSaid : Prop := Claim7.holds Tryd.pinned (.plain (OpenSpec.upto lexNamesSpec)) lexNamesUptoCard

/-- THE SECOND FORM's CARD OF 'bobbinlaw14.ParseTrees'. -/
def parseTreesUptoCard : Claim7 := { stood := { row := parseTreesUptoRow, standIns := [], harness := (true, "824293f61deb5f193587cb5ee8ee4b68eac6b923534069784e88a80e23519b9d"), looks := false }, kinds := [], alts := [], laidByText := true, laidKinds := [.data, .pinned], laidTests := true, laidLooks := .later }
def ParseTreesUptoCardSaid : Prop := Claim7.holds Tryd.pinned (.plain (OpenSpec.upto parseTreesSpec)) parseTreesUptoCard

/-- THE SECOND FORM's CARD OF 'bobbinlaw14.ParseDeep'. -/
def parseDeepUptoCard : Claim7 := { stood := { row := parseDeepUptoRow, standIns := [], harness := (true, "824293f61deb5f193587cb5ee8ee4b68eac6b923534069784e88a80e23519b9d"), looks := false }, kinds := [], alts := [], laidByText := true, laidKinds := [.data, .pinned], laidTests := true, laidLooks := .later }
def ParseDeepUptoCardSaid : Prop := Claim7.holds Tryd.pinned (.plain (OpenSpec.upto parseDeepSpec)) parseDeepUptoCard

/-- THE SECOND FORM's CARD OF 'bobbinlaw14.ParseOrder'. -/
def parseOrderUptoCard : Claim7 := { stood := { row := parseOrderUptoRow, standIns := [], harness := (true, "824293f61deb5f193587cb5ee8ee4b68eac6b923534069784e88a80e23519b9d"), looks := false }, kinds := [], alts := [], laidByText := true, laidKinds := [.data, .pinned], laidTests := true, laidLooks := .later }
def ParseOrderUptoCardSaid : Prop := Claim7.holds Tryd.pinned (.plain (OpenSpec.upto parseOrderSpec)) parseOrderUptoCard

/-- THE SECOND FORM's CARD OF 'bobbinlaw14.ParseOdd'. -/
def parseOddUptoCard : Claim7 := { stood := { row := parseOddUptoRow, standIns := [], harness := (true, "824293f61deb5f193587cb5ee8ee4b68eac6b923534069784e88a80e23519b9d"), looks := false }, kinds := [], alts := [], laidByText := true, laidKinds := [.data, .pinned], laidTests := true, laidLooks := .later }
def ParseOddUptoCardSaid : Prop := Claim7.holds Tryd.pinned (.plain (OpenSpec.upto parseOddSpec)) parseOddUptoCard

/-- THE SECOND FORM's CARD OF 'bobbinlaw15.InferJoins'. -/
def inferJoinsUptoCard : Claim7 := { stood := { row := inferJoinsUptoRow, standIns := [], harness := (true, "824293f61deb5f193587cb5ee8ee4b68eac6b923534069784e88a80e23519b9d"), looks := false }, kinds := [], alts := [], laidByText := true, laidKinds := [.data, .data, .pinned], laidTests := true, laidLooks := .later }
def InferJoinsUptoCardSaid : Prop := Claim7.holds Tryd.pinned (.plain (OpenSpec.upto inferJoinsSpec)) inferJoinsUptoCard

/-- THE SECOND FORM's CARD OF 'bobbinlaw15.InferBranches'. -/
def inferBranchesUptoCard : Claim7 := { stood := { row := inferBranchesUptoRow, standIns := [], harness := (true, "824293f61deb5f193587cb5ee8ee4b68eac6b923534069784e88a80e23519b9d"), looks := false }, kinds := [], alts := [], laidByText := true, laidKinds := [.data, .data, .pinned], laidTests := true, laidLooks := .later }
def InferBranchesUptoCardSaid : Prop := Claim7.holds Tryd.pinned (.plain (OpenSpec.upto inferBranchesSpec)) inferBranchesUptoCard

/-- THE SECOND FORM's CARD OF 'bobbinlaw15.InferTwice'. -/
def inferTwiceUptoCard : Claim7 := { stood := { row := inferTwiceUptoRow, standIns := [], harness := (true, "824293f61deb5f193587cb5ee8ee4b68eac6b923534069784e88a80e23519b9d"), looks := false }, kinds := [], alts := [], laidByText := true, laidKinds := [.data, .data, .pinned], laidTests := true, laidLooks := .later }
def InferTwiceUptoCardSaid : Prop := Claim7.holds Tryd.pinned (.plain (OpenSpec.upto inferTwiceSpec)) inferTwiceUptoCard

/-- THE SECOND FORM's CARD OF 'bobbinlaw16.CodeFlushes'. -/
def codeFlushesUptoCard : Claim7 := { stood := { row := codeFlushesUptoRow, standIns := [], harness := (true, "824293f61deb5f193587cb5ee8ee4b68eac6b923534069784e88a80e23519b9d"), looks := false }, kinds := [], alts := [], laidByText := true, laidKinds := [.data, .data, .pinned], laidTests := true, laidLooks := .later }
def CodeFlushesUptoCardSaid : Prop := Claim7.holds Tryd.pinned (.plain (OpenSpec.upto codeFlushesSpec)) codeFlushesUptoCard

/-- THE SECOND FORM's CARD OF 'bobbinlaw16.CodeBehind'. -/
def codeBehindUptoCard : Claim7 := { stood := { row := codeBehindUptoRow, standIns := [], harness := (true, "824293f61deb5f193587cb5ee8ee4b68eac6b923534069784e88a80e23519b9d"), looks := false }, kinds := [], alts := [], laidByText := true, laidKinds := [.data, .data, .pinned], laidTests := true, laidLooks := .later }
def CodeBehindUptoCardSaid : Prop := Claim7.holds Tryd.pinned (.plain (OpenSpec.upto codeBehindSpec)) codeBehindUptoCard

/-- THE SECOND FORM's CARD OF 'bobbinlaw16.CodeAgrees'. -/
def codeAgreesUptoCard : Claim7 := { stood := { row := codeAgreesUptoRow, standIns := [], harness := (true, "824293f61deb5f193587cb5ee8ee4b68eac6b923534069784e88a80e23519b9d"), looks := false }, kinds := [], alts := [], laidByText := true, laidKinds := [.data, .data, .pinned], laidTests := true, laidLooks := .later }
def CodeAgreesUptoCardSaid : Prop := Claim7.holds Tryd.pinned (.plain (OpenSpec.upto codeAgreesSpec)) codeAgreesUptoCard

/-- THE SECOND FORM's CARD OF 'bobbinlaw16.CodeGoes'. -/
def codeGoesUptoCard : Claim7 := { stood := { row := codeGoesUptoRow, standIns := [], harness := (true, "824293f61deb5f193587cb5ee8ee4b68eac6b923534069784e88a80e23519b9d"), looks := false }, kinds := [], alts := [], laidByText := true, laidKinds := [.data, .data, .pinned], laidTests := true, laidLooks := .later }
def CodeGoesUptoCardSaid : Prop := Claim7.holds Tryd.pinned (.plain (OpenSpec.upto codeGoesSpec)) codeGoesUptoCard

/-- THE SECOND FORM's CARD OF 'bobbinlaw16.CodeLooks'. -/
def codeLooksUptoCard : Claim7 := { stood := { row := codeLooksUptoRow, standIns := [], harness := (true, "824293f61deb5f193587cb5ee8ee4b68eac6b923534069784e88a80e23519b9d"), looks := false }, kinds := [], alts := [], laidByText := true, laidKinds := [.data, .data, .pinned], laidTests := true, laidLooks := .later }
def CodeLooksUptoCardSaid : Prop := Claim7.holds Tryd.pinned (.plain (OpenSpec.upto codeLooksSpec)) codeLooksUptoCard

/-- THE SECOND FORM's CARD OF 'bobbinlaw15.InferHoles'. -/
def inferHolesUptoCard : Claim7 := { stood := { row := inferHolesUptoRow, standIns := [], harness := (true, "824293f61deb5f193587cb5ee8ee4b68eac6b923534069784e88a80e23519b9d"), looks := false }, kinds := [], alts := [], laidByText := true, laidKinds := [.data, .data, .pinned], laidTests := true, laidLooks := .later }
def InferHolesUptoCardSaid : Prop := Claim7.holds Tryd.pinned (.plain (OpenSpec.upto inferHolesSpec)) inferHolesUptoCard
end Rows
end Go.Proofs.YtgjfbalafdifgaaDoor
