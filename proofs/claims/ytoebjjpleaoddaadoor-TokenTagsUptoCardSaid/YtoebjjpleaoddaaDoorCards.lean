/-
  DERIVED. GIVEN WITH THE SEED: THE CARDS: each row of YtoebjjpleaoddaaDoorRows.lean that lists a variable, with what it lists TIED to the program's text (the seventh form; the later family's looks); each row that meets fmt, with fmt's text TOLD by the authors' own Lean function (tested against real Go, not proved from fmt's source: count such statements apart). THE CARD IS WHAT COUNTS. Prove the row's statement (the work); the ties are given (YtoebjjpleaoddaaDoorTie.lean); close each card by the builder's one call (the guide's Derived/Test/ToyasCard.lean, 'card_holds'). Laid BY PROGRAM, IN A SANDBOX (cutbox-door.mjs). By AI agents, Wed Nov 11 2026. No macro, syntax, notation, axiom, sorry.
-/
import Derived.Test.YtoebjjpleaoddaaDoorRows
import GoSem.ClaimSeven
namespace Go.Proofs.YtoebjjpleaoddaaDoor
namespace Rows

/-- THE TIED CARD OF 'bobbinlaw11.TokenAlls'. -/
def tokenAllsCard : Claim7 := { stood := { row := tokenAllsRow, standIns := [], harness := (true, "a445b1c35e1e5493280f1a9d19bec0b7ea7866f58f4b84d60fa4c9b72b749291"), looks := false }, kinds := [], alts := [], laidByText := true, laidKinds := [.data], laidTests := true, laidLooks := .later }
def TokenAllsCardSaid : Prop := Claim7.holds Tryd.pinned (.plain (OpenSpec.ofChange tokenAllsSpec)) tokenAllsCard

/-- THE TIED CARD OF 'bobbinlaw11.TokenJoins'. -/
def tokenJoinsCard : Claim7 := { stood := { row := tokenJoinsRow, standIns := [], harness := (true, "a445b1c35e1e5493280f1a9d19bec0b7ea7866f58f4b84d60fa4c9b72b749291"), looks := false }, kinds := [], alts := [], laidByText := true, laidKinds := [.data], laidTests := true, laidLooks := .later }
def TokenJoinsCardSaid : Prop := Claim7.holds Tryd.pinned (.plain (OpenSpec.ofChange tokenJoinsSpec)) tokenJoinsCard

/-- THE TIED CARD OF 'bobbinlaw11.TokenTexts'. -/
def tokenTextsCard : Claim7 := { stood := { row := tokenTextsRow, standIns := [], harness := (true, "a445b1c35e1e5493280f1a9d19bec0b7ea7866f58f4b84d60fa4c9b72b749291"), looks := false }, kinds := [], alts := [], laidByText := true, laidKinds := [.data], laidTests := true, laidLooks := .later }
def TokenTextsCardSaid : Prop := Claim7.holds Tryd.pinned (.plain (OpenSpec.ofChange tokenTextsSpec)) tokenTextsCard

/-- THE TIED CARD OF 'bobbinlaw11.TokenTags'. -/
def tokenTagsCard : Claim7 := { stood := { row := tokenTagsRow, standIns := [], harness := (true, "a445b1c35e1e5493280f1a9d19bec0b7ea7866f58f4b84d60fa4c9b72b749291"), looks := false }, kinds := [], alts := [], laidByText := true, laidKinds := [.data], laidTests := true, laidLooks := .later }
def TokenTagsCardSaid : Prop := Claim7.holds Tryd.pinned (.plain (OpenSpec.ofChange tokenTagsSpec)) tokenTagsCard

/-- THE TIED CARD OF 'bobbinlaw11.TokenRaws'. -/
def tokenRawsCard : Claim7 := { stood := { row := tokenRawsRow, standIns := [], harness := (true, "a445b1c35e1e5493280f1a9d19bec0b7ea7866f58f4b84d60fa4c9b72b749291"), looks := false }, kinds := [], alts := [], laidByText := true, laidKinds := [.data], laidTests := true, laidLooks := .later }
def TokenRawsCardSaid : Prop := Claim7.holds Tryd.pinned (.plain (OpenSpec.ofChange tokenRawsSpec)) tokenRawsCard

/-- THE TIED CARD OF 'bobbinlaw11.TokenComments'. -/
def tokenCommentsCard : Claim7 := { stood := { row := tokenCommentsRow, standIns := [], harness := (true, "a445b1c35e1e5493280f1a9d19bec0b7ea7866f58f4b84d60fa4c9b72b749291"), looks := false }, kinds := [], alts := [], laidByText := true, laidKinds := [.data], laidTests := true, laidLooks := .later }
def TokenCommentsCardSaid : Prop := Claim7.holds Tryd.pinned (.plain (OpenSpec.ofChange tokenCommentsSpec)) tokenCommentsCard

/-- THE TIED CARD OF 'bobbinlaw11.TokenEach'. -/
def tokenEachCard : Claim7 := { stood := { row := tokenEachRow, standIns := [], harness := (true, "a445b1c35e1e5493280f1a9d19bec0b7ea7866f58f4b84d60fa4c9b72b749291"), looks := false }, kinds := [], alts := [], laidByText := true, laidKinds := [.data], laidTests := true, laidLooks := .later }
def TokenEachCardSaid : Prop := Claim7.holds Tryd.pinned (.plain (OpenSpec.ofChange tokenEachSpec)) tokenEachCard

/-- THE TIED CARD OF 'bobbinlaw11.TokenContexts'. -/
def tokenContextsCard : Claim7 := { stood := { row := tokenContextsRow, standIns := [], harness := (true, "a445b1c35e1e5493280f1a9d19bec0b7ea7866f58f4b84d60fa4c9b72b749291"), looks := false }, kinds := [], alts := [], laidByText := true, laidKinds := [.data], laidTests := true, laidLooks := .later }
def TokenContextsCardSaid : Prop := Claim7.holds Tryd.pinned (.plain (OpenSpec.ofChange tokenContextsSpec)) tokenContextsCard

/-- THE SECOND FORM's CARD OF 'bobbinlaw11.TokenAlls'. -/
def tokenAllsUptoCard : Claim7 := { stood := { row := tokenAllsUptoRow, standIns := [], harness := (true, "a445b1c35e1e5493280f1a9d19bec0b7ea7866f58f4b84d60fa4c9b72b749291"), looks := false }, kinds := [], alts := [], laidByText := true, laidKinds := [.data], laidTests := true, laidLooks := .later }
def TokenAllsUptoCardSaid : Prop := Claim7.holds Tryd.pinned (.plain (OpenSpec.upto tokenAllsSpec)) tokenAllsUptoCard

/-- THE SECOND FORM's CARD OF 'bobbinlaw11.TokenJoins'. -/
def tokenJoinsUptoCard : Claim7 := { stood := { row := tokenJoinsUptoRow, standIns := [], harness := (true, "a445b1c35e1e5493280f1a9d19bec0b7ea7866f58f4b84d60fa4c9b72b749291"), looks := false }, kinds := [], alts := [], laidByText := true, laidKinds := [.data], laidTests := true, laidLooks := .later }
def TokenJoinsUptoCardSaid : Prop := Claim7.holds Tryd.pinned (.plain (OpenSpec.upto tokenJoinsSpec)) tokenJoinsUptoCard

/-- THE SECOND FORM's CARD OF 'bobbinlaw11.TokenTexts'. -/
def tokenTextsUptoCard : Claim7 := { stood := { row := tokenTextsUptoRow, standIns := [], harness := (true, "a445b1c35e1e5493280f1a9d19bec0b7ea7866f58f4b84d60fa4c9b72b749291"), looks := false }, kinds := [], alts := [], laidByText := true, laidKinds := [.data], laidTests := true, laidLooks := .later }
def TokenTextsUptoCardSaid : Prop := Claim7.holds Tryd.pinned (.plain (OpenSpec.upto tokenTextsSpec)) tokenTextsUptoCard

/-- THE SECOND FORM's CARD OF 'bobbinlaw11.TokenTags'. -/
def tokenTagsUptoCard : Claim7 := { stood := { row := tokenTagsUptoRow, standIns := [], harness := (true, "a445b1c35e1e5493280f1a9d19bec0b7ea7866f58f4b84d60fa4c9b72b749291"), looks := false }, kinds := [], alts := [], laidByText := true, laidKinds := [.data], laidTests := true, laidLooks := .later }
def TokenTagsUptoCardSaid : Prop := Claim7.holds Tryd.pinned (.plain (OpenSpec.upto tokenTagsSpec)) tokenTagsUptoCard

/-- THE SECOND FORM's CARD OF 'bobbinlaw11.TokenRaws'. -/
def tokenRawsUptoCard : Claim7 := { stood := { row := tokenRawsUptoRow, standIns := [], harness := (true, "a445b1c35e1e5493280f1a9d19bec0b7ea7866f58f4b84d60fa4c9b72b749291"), looks := false }, kinds := [], alts := [], laidByText := true, laidKinds := [.data], laidTests := true, laidLooks := .later }
def TokenRawsUptoCardSaid : Prop := Claim7.holds Tryd.pinned (.plain (OpenSpec.upto tokenRawsSpec)) tokenRawsUptoCard

/-- THE SECOND FORM's CARD OF 'bobbinlaw11.TokenComments'. -/
def tokenCommentsUptoCard : Claim7 := { stood := { row := tokenCommentsUptoRow, standIns := [], harness := (true, "a445b1c35e1e5493280f1a9d19bec0b7ea7866f58f4b84d60fa4c9b72b749291"), looks := false }, kinds := [], alts := [], laidByText := true, laidKinds := [.data], laidTests := true, laidLooks := .later }
def TokenCommentsUptoCardSaid : Prop := Claim7.holds Tryd.pinned (.plain (OpenSpec.upto tokenCommentsSpec)) tokenCommentsUptoCard

/-- THE SECOND FORM's CARD OF 'bobbinlaw11.TokenEach'. -/
def tokenEachUptoCard : Claim7 := { stood := { row := tokenEachUptoRow, standIns := [], harness := (true, "a445b1c35e1e5493280f1a9d19bec0b7ea7866f58f4b84d60fa4c9b72b749291"), looks := false }, kinds := [], alts := [], laidByText := true, laidKinds := [.data], laidTests := true, laidLooks := .later }
def TokenEachUptoCardSaid : Prop := Claim7.holds Tryd.pinned (.plain (OpenSpec.upto tokenEachSpec)) tokenEachUptoCard

/-- THE SECOND FORM's CARD OF 'bobbinlaw11.TokenContexts'. -/
def tokenContextsUptoCard : Claim7 := { stood := { row := tokenContextsUptoRow, standIns := [], harness := (true, "a445b1c35e1e5493280f1a9d19bec0b7ea7866f58f4b84d60fa4c9b72b749291"), looks := false }, kinds := [], alts := [], laidByText := true, laidKinds := [.data], laidTests := true, laidLooks := .later }
def TokenContextsUptoCardSaid : Prop := Claim7.holds Tryd.pinned (.plain (OpenSpec.upto tokenContextsSpec)) tokenContextsUptoCard
end Rows
end Go.Proofs.YtoebjjpleaoddaaDoor
