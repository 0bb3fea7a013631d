/-
  NARROWER THAN 'FOR EVERY INPUT', by the rows' own cells (each row's printed sentence says how): TokenAlls: laid · TokenJoins: laid · TokenTexts: laid · TokenTags: laid · TokenRaws: laid · TokenComments: laid · TokenEach: laid · TokenContexts: laid.
  DERIVED. THE GIVEN ROWS OF THIS SEAT. 8 by the template 'for every input the law returns true; each argument reads behind the call as it read before'; 0 by the template 'total and deterministic' (their statements: YtoebjjpleaoddaaDoorTotals.lean).
  GIVEN WITH THE SEED: the statements are not yours to turn. If you find one false, say at which input.
  Laid BY PROGRAM, IN A SANDBOX (cutbox-rows.mjs): the forced cells as the released guide's own fill.sh prints them over the translation 94ec7ad9eab88845… (all of the seat's roots in one cut). By AI agents, Wed Nov 11 2026. No macro, syntax, notation, axiom, sorry.
-/
import Derived.Test.YtoebjjpleaoddaaDoorChecked
import GoSem.Claim
import GoSem.ClaimJoined
import GoSem.ClaimMapViews
import Derived.JoinedTies
import Derived.KernelRfl
namespace Go.Proofs.YtoebjjpleaoddaaDoor
/- THE CELL 'sum', in the pinned program and in every row, IS THE sha256 OF THE DUMP (.gsa) THAT YtoebjjpleaoddaaDoorProg.lean LOADS. Nothing in Lean hashes anything: it is a label: what it is worth is what the hold of that sum in a sandbox is worth. -/
noncomputable def Tryd.pinned : Pinned := { name := "ytoebjjpleaoddaadoor", sum := "94ec7ad9eab88845f22a46df41cbab266fce74c802d7e123d0653a3d94df9d66", checked := Tryd.checked }
namespace Rows
def none {H : Type} : Left H := { results := [], args := [] }

/- WHAT THE LISTED PACKAGE-LEVEL VARIABLES READ AS WHEN THE CALL BEGINS. Each datum BY PROGRAM (the guide's laid-datum.mjs) off the statement by which the dump's own 'gosem.cut.vars' lays the variable. In a bare row this is a premise. The card (YtoebjjpleaoddaaDoorCards.lean) ties it to the program's text. -/
def laid_bobbin_step_bad {H : Type} : DataW H := .agg [.lit (.int .u8 20), .lit (.int .u8 0), .lit (.bool false), .lit (.int .u8 0), .lit (.int .u8 0), .lit (.int .u8 0), .lit (.int .u8 0), .lit (.bool false), .lit (.int .u8 0), .lit (.string [])]

/-- 'bobbinlaw11.TokenAlls': WHATEVER THE INPUT: true; the input reads as it did. -/
def tokenAllsSpec : ChangeSpec := { name := "tokenAlls", fn := fun _ => fun
  | [d] => { results := [.lit (.bool true)], args := [d] }
  | _ => none }
def tokenAllsRow : OpenClaim := { program := "ytoebjjpleaoddaadoor", sum := "94ec7ad9eab88845f22a46df41cbab266fce74c802d7e123d0653a3d94df9d66", func := "bobbin/bobbinlaw11.TokenAlls", spec := "tokenAlls", inPlace := ["internal/bytealg.IndexByteString"], unfollowed := true, recurses := true, named := ["bobbin/step.bad"], apart := false, laid := [("bobbin/step.bad", laid_bobbin_step_bad)] }
def TokenAllsSaid : Prop := tokenAllsRow.holds Tryd.pinned (OpenSpec.ofChange tokenAllsSpec)

/-- ITS FALSE NEIGHBOUR: 'it returns false'. Refute it at one input. -/
def tokenAllsWrong : ChangeSpec := { name := "tokenAlls", fn := fun _ => fun
  | [d] => { results := [.lit (.bool false)], args := [d] }
  | _ => none }
def TokenAllsWrongFalsely : Prop := tokenAllsRow.holds Tryd.pinned (OpenSpec.ofChange tokenAllsWrong)

/-- 'bobbinlaw11.TokenJoins': WHATEVER THE INPUT: true; the input reads as it did. -/
def tokenJoinsSpec : ChangeSpec := { name := "tokenJoins", fn := fun _ => fun
  | [d1, d2] => { results := [.lit (.bool true)], args := [d1, d2] }
  | _ => none }
def tokenJoinsRow : OpenClaim := { program := "ytoebjjpleaoddaadoor", sum := "94ec7ad9eab88845f22a46df41cbab266fce74c802d7e123d0653a3d94df9d66", func := "bobbin/bobbinlaw11.TokenJoins", spec := "tokenJoins", inPlace := ["internal/bytealg.IndexByteString"], unfollowed := true, recurses := true, named := ["bobbin/step.bad"], apart := false, laid := [("bobbin/step.bad", laid_bobbin_step_bad)] }
def TokenJoinsSaid : Prop := tokenJoinsRow.holds Tryd.pinned (OpenSpec.ofChange tokenJoinsSpec)

/-- ITS FALSE NEIGHBOUR: 'it returns false'. Refute it at one input. -/
def tokenJoinsWrong : ChangeSpec := { name := "tokenJoins", fn := fun _ => fun
  | [d1, d2] => { results := [.lit (.bool false)], args := [d1, d2] }
  | _ => none }
def TokenJoinsWrongFalsely : Prop := tokenJoinsRow.holds Tryd.pinned (OpenSpec.ofChange tokenJoinsWrong)

/-- 'bobbinlaw11.TokenTexts': WHATEVER THE INPUT: true; the input reads as it did. -/
def tokenTextsSpec : ChangeSpec := { name := "tokenTexts", fn := fun _ => fun
  | [d] => { results := [.lit (.bool true)], args := [d] }
  | _ => none }
def tokenTextsRow : OpenClaim := { program := "ytoebjjpleaoddaadoor", sum := "94ec7ad9eab88845f22a46df41cbab266fce74c802d7e123d0653a3d94df9d66", func := "bobbin/bobbinlaw11.TokenTexts", spec := "tokenTexts", inPlace := ["internal/bytealg.IndexByteString"], unfollowed := true, recurses := true, named := ["bobbin/step.bad"], apart := false, laid := [("bobbin/step.bad", laid_bobbin_step_bad)] }
def TokenTextsSaid : Prop := tokenTextsRow.holds Tryd.pinned (OpenSpec.ofChange tokenTextsSpec)

/-- ITS FALSE NEIGHBOUR: 'it returns false'. Refute it at one input. -/
def tokenTextsWrong : ChangeSpec := { name := "tokenTexts", fn := fun _ => fun
  | [d] => { results := [.lit (.bool false)], args := [d] }
  | _ => none }
def TokenTextsWrongFalsely : Prop := tokenTextsRow.holds Tryd.pinned (OpenSpec.ofChange tokenTextsWrong)

/-- 'bobbinlaw11.TokenTags': WHATEVER THE INPUT: true; the input reads as it did. -/
def tokenTagsSpec : ChangeSpec := { name := "tokenTags", fn := fun _ => fun
  | [d1, d2, d3, d4] => { results := [.lit (.bool true)], args := [d1, d2, d3, d4] }
  | _ => none }
def tokenTagsRow : OpenClaim := { program := "ytoebjjpleaoddaadoor", sum := "94ec7ad9eab88845f22a46df41cbab266fce74c802d7e123d0653a3d94df9d66", func := "bobbin/bobbinlaw11.TokenTags", spec := "tokenTags", inPlace := ["internal/bytealg.IndexByteString"], unfollowed := true, recurses := true, named := ["bobbin/step.bad"], apart := false, laid := [("bobbin/step.bad", laid_bobbin_step_bad)] }
def TokenTagsSaid : Prop := tokenTagsRow.holds Tryd.pinned (OpenSpec.ofChange tokenTagsSpec)

/-- ITS FALSE NEIGHBOUR: 'it returns false'. Refute it at one input. -/
def tokenTagsWrong : ChangeSpec := { name := "tokenTags", fn := fun _ => fun
  | [d1, d2, d3, d4] => { results := [.lit (.bool false)], args := [d1, d2, d3, d4] }
  | _ => none }
def TokenTagsWrongFalsely : Prop := tokenTagsRow.holds Tryd.pinned (OpenSpec.ofChange tokenTagsWrong)

/-- 'bobbinlaw11.TokenRaws': WHATEVER THE INPUT: true; the input reads as it did. -/
def tokenRawsSpec : ChangeSpec := { name := "tokenRaws", fn := fun _ => fun
  | [d1, d2] => { results := [.lit (.bool true)], args := [d1, d2] }
  | _ => none }
def tokenRawsRow : OpenClaim := { program := "ytoebjjpleaoddaadoor", sum := "94ec7ad9eab88845f22a46df41cbab266fce74c802d7e123d0653a3d94df9d66", func := "bobbin/bobbinlaw11.TokenRaws", spec := "tokenRaws", inPlace := ["internal/bytealg.IndexByteString"], unfollowed := true, recurses := true, named := ["bobbin/step.bad"], apart := false, laid := [("bobbin/step.bad", laid_bobbin_step_bad)] }
def TokenRawsSaid : Prop := tokenRawsRow.holds Tryd.pinned (OpenSpec.ofChange tokenRawsSpec)

/-- ITS FALSE NEIGHBOUR: 'it returns false'. Refute it at one input. -/
def tokenRawsWrong : ChangeSpec := { name := "tokenRaws", fn := fun _ => fun
  | [d1, d2] => { results := [.lit (.bool false)], args := [d1, d2] }
  | _ => none }
def TokenRawsWrongFalsely : Prop := tokenRawsRow.holds Tryd.pinned (OpenSpec.ofChange tokenRawsWrong)

/-- 'bobbinlaw11.TokenComments': WHATEVER THE INPUT: true; the input reads as it did. -/
def tokenCommentsSpec : ChangeSpec := { name := "tokenComments", fn := fun _ => fun
  | [d] => { results := [.lit (.bool true)], args := [d] }
  | _ => none }
def tokenCommentsRow : OpenClaim := { program := "ytoebjjpleaoddaadoor", sum := "94ec7ad9eab88845f22a46df41cbab266fce74c802d7e123d0653a3d94df9d66", func := "bobbin/bobbinlaw11.TokenComments", spec := "tokenComments", inPlace := ["internal/bytealg.IndexByteString"], unfollowed := true, recurses := true, named := ["bobbin/step.bad"], apart := false, laid := [("bobbin/step.bad", laid_bobbin_step_bad)] }
def TokenCommentsSaid : Prop := tokenCommentsRow.holds Tryd.pinned (OpenSpec.ofChange tokenCommentsSpec)

/-- ITS FALSE NEIGHBOUR: 'it returns false'. Refute it at one input. -/
def tokenCommentsWrong : ChangeSpec := { name := "tokenComments", fn := fun _ => fun
  | [d] => { results := [.lit (.bool false)], args := [d] }
  | _ => none }
def TokenCommentsWrongFalsely : Prop := tokenCommentsRow.holds Tryd.pinned (OpenSpec.ofChange tokenCommentsWrong)

/-- 'bobbinlaw11.TokenEach': WHATEVER THE INPUT: true; the input reads as it did. -/
def tokenEachSpec : ChangeSpec := { name := "tokenEach", fn := fun _ => fun
  | [d1, d2] => { results := [.lit (.bool true)], args := [d1, d2] }
  | _ => none }
def tokenEachRow : OpenClaim := { program := "ytoebjjpleaoddaadoor", sum := "94ec7ad9eab88845f22a46df41cbab266fce74c802d7e123d0653a3d94df9d66", func := "bobbin/bobbinlaw11.TokenEach", spec := "tokenEach", inPlace := ["internal/bytealg.IndexByteString"], unfollowed := true, recurses := true, named := ["bobbin/step.bad"], apart := false, laid := [("bobbin/step.bad", laid_bobbin_step_bad)] }
def TokenEachSaid : Prop := tokenEachRow.holds Tryd.pinned (OpenSpec.ofChange tokenEachSpec)

/-- ITS FALSE NEIGHBOUR: 'it returns false'. Refute it at one input. -/
def tokenEachWrong : ChangeSpec := { name := "tokenEach", fn := fun _ => fun
  | [d1, d2] => { results := [.lit (.bool false)], args := [d1, d2] }
  | _ => none }
def TokenEachWrongFalsely : Prop := tokenEachRow.holds Tryd.pinned (OpenSpec.ofChange tokenEachWrong)

/-- 'bobbinlaw11.TokenContexts': WHATEVER THE INPUT: true; the input reads as it did. -/
def tokenContextsSpec : ChangeSpec := { name := "tokenContexts", fn := fun _ => fun
  | [d] => { results := [.lit (.bool true)], args := [d] }
  | _ => none }
def tokenContextsRow : OpenClaim := { program := "ytoebjjpleaoddaadoor", sum := "94ec7ad9eab88845f22a46df41cbab266fce74c802d7e123d0653a3d94df9d66", func := "bobbin/bobbinlaw11.TokenContexts", spec := "tokenContexts", inPlace := ["internal/bytealg.IndexByteString"], unfollowed := true, recurses := true, named := ["bobbin/step.bad"], apart := false, laid := [("bobbin/step.bad", laid_bobbin_step_bad)] }
def TokenContextsSaid : Prop := tokenContextsRow.holds Tryd.pinned (OpenSpec.ofChange tokenContextsSpec)

/-- ITS FALSE NEIGHBOUR: 'it returns false'. Refute it at one input. -/
def tokenContextsWrong : ChangeSpec := { name := "tokenContexts", fn := fun _ => fun
  | [d] => { results := [.lit (.bool false)], args := [d] }
  | _ => none }
def TokenContextsWrongFalsely : Prop := tokenContextsRow.holds Tryd.pinned (OpenSpec.ofChange tokenContextsWrong)

/- THE SECOND FORM. 'bulk': how many values and letters a reading holds, each counted each time it is reached (what is shared counts as often as it is met; a slice's spare places count too). A statement '..UptoSaid' is the law's where the arguments, and the package variables that the reading takes, are together of bulk at most 1048576: NARROWER than '..Said'. Prove '..Said' where nothing that the law and all that it calls make is longer than what came in: it says more and counts as full. Else prove '..UptoSaid'. A law counts once. -/
mutual
def uptoBulk {H : Type} : DataW H → Nat
  | .lit (.string bytes) => bytes.length + 1
  | .lit _ => 1
  | .nil => 1
  | .ptr d => uptoBulk d + 1
  | .slice elems spare => uptoBulkAll elems + uptoBulkAll spare + 1
  | .agg parts => uptoBulkAll parts + 1
  | .iface _ d => uptoBulk d + 1
  | .map entries => uptoBulkEntries entries + 1
  | .held _ => 1
def uptoBulkAll {H : Type} : List (DataW H) → Nat
  | [] => 0
  | d :: r => uptoBulk d + uptoBulkAll r
def uptoBulkEntries {H : Type} : List (Lit × DataW H) → Nat
  | [] => 0
  | x :: r => uptoBulkEntry x + uptoBulkEntries r
def uptoBulkEntry {H : Type} : Lit × DataW H → Nat
  | (.string bytes, d) => bytes.length + uptoBulk d + 1
  | (_, d) => uptoBulk d + 1
 end
def uptoSmall : (H : Type) → List (DataW H) → Bool := fun _ ds => decide (uptoBulkAll ds ≤ 1048576)
def OpenSpec.upto (s : _root_.Go.ChangeSpec) : _root_.Go.OpenSpec := { _root_.Go.OpenSpec.ofChange s with cond := some uptoSmall }

/-- 'bobbinlaw11.TokenAlls', WHERE WHAT IT READS IS OF BULK AT MOST 1048576: true; the input reads as it did. -/
def tokenAllsUptoRow : OpenClaim := { program := "ytoebjjpleaoddaadoor", sum := "94ec7ad9eab88845f22a46df41cbab266fce74c802d7e123d0653a3d94df9d66", func := "bobbin/bobbinlaw11.TokenAlls", spec := "tokenAlls", inPlace := ["internal/bytealg.IndexByteString"], unfollowed := true, recurses := true, named := ["bobbin/step.bad"], apart := false, laid := [("bobbin/step.bad", laid_bobbin_step_bad)], narrowed := true }
def TokenAllsUptoSaid : Prop := tokenAllsUptoRow.holds Tryd.pinned (OpenSpec.upto tokenAllsSpec)

/-- 'bobbinlaw11.TokenJoins', WHERE WHAT IT READS IS OF BULK AT MOST 1048576: true; the input reads as it did. -/
def tokenJoinsUptoRow : OpenClaim := { program := "ytoebjjpleaoddaadoor", sum := "94ec7ad9eab88845f22a46df41cbab266fce74c802d7e123d0653a3d94df9d66", func := "bobbin/bobbinlaw11.TokenJoins", spec := "tokenJoins", inPlace := ["internal/bytealg.IndexByteString"], unfollowed := true, recurses := true, named := ["bobbin/step.bad"], apart := false, laid := [("bobbin/step.bad", laid_bobbin_step_bad)], narrowed := true }
def TokenJoinsUptoSaid : Prop := tokenJoinsUptoRow.holds Tryd.pinned (OpenSpec.upto tokenJoinsSpec)

/-- 'bobbinlaw11.TokenTexts', WHERE WHAT IT READS IS OF BULK AT MOST 1048576: true; the input reads as it did. -/
def tokenTextsUptoRow : OpenClaim := { program := "ytoebjjpleaoddaadoor", sum := "94ec7ad9eab88845f22a46df41cbab266fce74c802d7e123d0653a3d94df9d66", func := "bobbin/bobbinlaw11.TokenTexts", spec := "tokenTexts", inPlace := ["internal/bytealg.IndexByteString"], unfollowed := true, recurses := true, named := ["bobbin/step.bad"], apart := false, laid := [("bobbin/step.bad", laid_bobbin_step_bad)], narrowed := true }
def TokenTextsUptoSaid : Prop := tokenTextsUptoRow.holds Tryd.pinned (OpenSpec.upto tokenTextsSpec)

/-- 'bobbinlaw11.TokenTags', WHERE WHAT IT READS IS OF BULK AT MOST 1048576: true; the input reads as it did. -/
def tokenTagsUptoRow : OpenClaim := { program := "ytoebjjpleaoddaadoor", sum := "94ec7ad9eab88845f22a46df41cbab266fce74c802d7e123d0653a3d94df9d66", func := "bobbin/bobbinlaw11.TokenTags", spec := "tokenTags", inPlace := ["internal/bytealg.IndexByteString"], unfollowed := true, recurses := true, named := ["bobbin/step.bad"], apart := false, laid := [("bobbin/step.bad", laid_bobbin_step_bad)], narrowed := true }
def TokenTagsUptoSaid : Prop := tokenTagsUptoRow.holds Tryd.pinned (OpenSpec.upto tokenTagsSpec)

/-- 'bobbinlaw11.TokenRaws', WHERE WHAT IT READS IS OF BULK AT MOST 1048576: true; the input reads as it did. -/
def tokenRawsUptoRow : OpenClaim := { program := "ytoebjjpleaoddaadoor", sum := "94ec7ad9eab88845f22a46df41cbab266fce74c802d7e123d0653a3d94df9d66", func := "bobbin/bobbinlaw11.TokenRaws", spec := "tokenRaws", inPlace := ["internal/bytealg.IndexByteString"], unfollowed := true, recurses := true, named := ["bobbin/step.bad"], apart := false, laid := [("bobbin/step.bad", laid_bobbin_step_bad)], narrowed := true }
def TokenRawsUptoSaid : Prop := tokenRawsUptoRow.holds Tryd.pinned (OpenSpec.upto tokenRawsSpec)

/-- 'bobbinlaw11.TokenComments', WHERE WHAT IT READS IS OF BULK AT MOST 1048576: true; the input reads as it did. -/
def tokenCommentsUptoRow : OpenClaim := { program := "ytoebjjpleaoddaadoor", sum := "94ec7ad9eab88845f22a46df41cbab266fce74c802d7e123d0653a3d94df9d66", func := "bobbin/bobbinlaw11.TokenComments", spec := "tokenComments", inPlace := ["internal/bytealg.IndexByteString"], unfollowed := true, recurses := true, named := ["bobbin/step.bad"], apart := false, laid := [("bobbin/step.bad", laid_bobbin_step_bad)], narrowed := true }
def TokenCommentsUptoSaid : Prop := tokenCommentsUptoRow.holds Tryd.pinned (OpenSpec.upto tokenCommentsSpec)

/-- 'bobbinlaw11.TokenEach', WHERE WHAT IT READS IS OF BULK AT MOST 1048576: true; the input reads as it did. -/
def tokenEachUptoRow : OpenClaim := { program := "ytoebjjpleaoddaadoor", sum := "94ec7ad9eab88845f22a46df41cbab266fce74c802d7e123d0653a3d94df9d66", func := "bobbin/bobbinlaw11.TokenEach", spec := "tokenEach", inPlace := ["internal/bytealg.IndexByteString"], unfollowed := true, recurses := true, named := ["bobbin/step.bad"], apart := false, laid := [("bobbin/step.bad", laid_bobbin_step_bad)], narrowed := true }
def TokenEachUptoSaid : Prop := tokenEachUptoRow.holds Tryd.pinned (OpenSpec.upto tokenEachSpec)

/-- 'bobbinlaw11.TokenContexts', WHERE WHAT IT READS IS OF BULK AT MOST 1048576: true; the input reads as it did. -/
def tokenContextsUptoRow : OpenClaim := { program := "ytoebjjpleaoddaadoor", sum := "94ec7ad9eab88845f22a46df41cbab266fce74c802d7e123d0653a3d94df9d66", func := "bobbin/bobbinlaw11.TokenContexts", spec := "tokenContexts", inPlace := ["internal/bytealg.IndexByteString"], unfollowed := true, recurses := true, named := ["bobbin/step.bad"], apart := false, laid := [("bobbin/step.bad", laid_bobbin_step_bad)], narrowed := true }
def TokenContextsUptoSaid : Prop := tokenContextsUptoRow.holds Tryd.pinned (OpenSpec.upto tokenContextsSpec)

end Rows
end Go.Proofs.YtoebjjpleaoddaaDoor
