/-
  NARROWER THAN 'FOR EVERY INPUT', by the rows' own cells (each row's printed sentence says how): LexAlls: laid · LexCovers: laid · LexBlanks: laid · LexLong: laid · LexEach: laid · LexNames: laid · ParseTrees: laid · ParseDeep: laid · ParseOrder: laid · ParseOdd: laid · InferJoins: laid · InferBranches: laid · InferTwice: laid · CodeFlushes: laid · CodeBehind: laid · CodeAgrees: laid · CodeGoes: laid · CodeLooks: laid · InferHoles: laid.
  DERIVED. THE GIVEN ROWS OF THIS SEAT. 19 by the template 'for every input the law returns true; each argument reads behind the call as it read before'; 0 by the template 'total and deterministic' (their statements: YtgjfbalafdifgaaDoorTotals.lean).
  GIVEN WITH THE SEED: the statements are not yours to turn. If you find one false, say at which input.
  Laid BY PROGRAM, IN A SANDBOX (cutbox-rows.mjs): the forced cells as the released guide's own fill.sh prints them over the translation c32fbb5168acb272… (all of the seat's roots in one cut). By AI agents, Wed Nov 11 2026. No macro, syntax, notation, axiom, sorry.
-/
import Derived.Test.YtgjfbalafdifgaaDoorChecked
import GoSem.PinnedTables
import GoSem.Claim
import GoSem.ClaimJoined
import GoSem.ClaimMapViews
import Derived.JoinedTies
import Derived.KernelRfl
namespace Go.Proofs.YtgjfbalafdifgaaDoor
/- THE CELL 'sum', in the pinned program and in every row, IS THE sha256 OF THE DUMP (.gsa) THAT YtgjfbalafdifgaaDoorProg.lean LOADS. Nothing in Lean hashes anything: it is a label: what it is worth is what the hold of that sum in a sandbox is worth. -/
noncomputable def Tryd.pinned : Pinned := { name := "ytgjfbalafdifgaadoor", sum := "c32fbb5168acb27220da971ac1f19bc4b5ec8574a5ab1b7cb4150a7c392e3161", checked := Tryd.checked }
namespace Rows
def none {H : Type} : Left H := { results := [], args := [] }

/- WHAT THE LISTED PACKAGE-LEVEL VARIABLES READ AS WHEN THE CALL BEGINS. Each datum BY PROGRAM (the guide's laid-datum.mjs) off the statement by which the dump's own 'gosem.cut.vars' lays the variable. In a bare row this is a premise. The card (YtgjfbalafdifgaaDoorCards.lean) ties it to the program's text. -/
def laid_unicode_utf8_acceptRanges {H : Type} : DataW H := .agg [.agg [.lit (.int .u8 128), .lit (.int .u8 191)], .agg [.lit (.int .u8 160), .lit (.int .u8 191)], .agg [.lit (.int .u8 128), .lit (.int .u8 159)], .agg [.lit (.int .u8 144), .lit (.int .u8 191)], .agg [.lit (.int .u8 128), .lit (.int .u8 143)], .agg [.lit (.int .u8 0), .lit (.int .u8 0)], .agg [.lit (.int .u8 0), .lit (.int .u8 0)], .agg [.lit (.int .u8 0), .lit (.int .u8 0)], .agg [.lit (.int .u8 0), .lit (.int .u8 0)], .agg [.lit (.int .u8 0), .lit (.int .u8 0)], .agg [.lit (.int .u8 0), .lit (.int .u8 0)], .agg [.lit (.int .u8 0), .lit (.int .u8 0)], .agg [.lit (.int .u8 0), .lit (.int .u8 0)], .agg [.lit (.int .u8 0), .lit (.int .u8 0)], .agg [.lit (.int .u8 0), .lit (.int .u8 0)], .agg [.lit (.int .u8 0), .lit (.int .u8 0)]]
/-- One of Go's own tables, pinned by name: the form's constant. -/
def laid_unicode_utf8_first : DataW Unit := Go.Pinned.utf8First
def laid_bobbin_step_bad {H : Type} : DataW H := .agg [.lit (.int .u8 20), .lit (.int .u8 0), .lit (.bool false), .lit (.int .u8 0), .lit (.int .u8 0), .lit (.int .u8 0), .lit (.int .u8 0), .lit (.bool false), .lit (.int .u8 0), .lit (.string [])]

/-- 'bobbinlaw13.LexAlls': WHATEVER THE INPUT: true; the input reads as it did. -/
def lexAllsSpec : ChangeSpec := { name := "lexAlls", fn := fun _ => fun
  | [d] => { results := [.lit (.bool true)], args := [d] }
  | _ => none }
def lexAllsRow : OpenClaim := { program := "ytgjfbalafdifgaadoor", sum := "c32fbb5168acb27220da971ac1f19bc4b5ec8574a5ab1b7cb4150a7c392e3161", func := "bobbin/bobbinlaw13.LexAlls", spec := "lexAlls", inPlace := ["internal/bytealg.IndexByteString", "internal/bytealg.IndexString"], unfollowed := true, recurses := true, named := ["internal/bytealg.MaxLen", "unicode/utf8.first", "unicode/utf8.acceptRanges"], apart := false, laid := [("unicode/utf8.acceptRanges", laid_unicode_utf8_acceptRanges), ("unicode/utf8.first", laid_unicode_utf8_first)] }
def LexAllsSaid : Prop := lexAllsRow.holds Tryd.pinned (OpenSpec.ofChange lexAllsSpec)

/-- ITS FALSE NEIGHBOUR: 'it returns false'. Refute it at one input. -/
def lexAllsWrong : ChangeSpec := { name := "lexAlls", fn := fun _ => fun
  | [d] => { results := [.lit (.bool false)], args := [d] }
  | _ => none }
def LexAllsWrongFalsely : Prop := lexAllsRow.holds Tryd.pinned (OpenSpec.ofChange lexAllsWrong)

/-- 'bobbinlaw13.LexCovers': WHATEVER THE INPUT: true; the input reads as it did. -/
def lexCoversSpec : ChangeSpec := { name := "lexCovers", fn := fun _ => fun
  | [d] => { results := [.lit (.bool true)], args := [d] }
  | _ => none }
def lexCoversRow : OpenClaim := { program := "ytgjfbalafdifgaadoor", sum := "c32fbb5168acb27220da971ac1f19bc4b5ec8574a5ab1b7cb4150a7c392e3161", func := "bobbin/bobbinlaw13.LexCovers", spec := "lexCovers", inPlace := ["internal/bytealg.IndexByteString", "internal/bytealg.IndexString"], unfollowed := true, recurses := true, named := ["internal/bytealg.MaxLen", "unicode/utf8.first", "unicode/utf8.acceptRanges"], apart := false, laid := [("unicode/utf8.acceptRanges", laid_unicode_utf8_acceptRanges), ("unicode/utf8.first", laid_unicode_utf8_first)] }
def LexCoversSaid : Prop := lexCoversRow.holds Tryd.pinned (OpenSpec.ofChange lexCoversSpec)

/-- ITS FALSE NEIGHBOUR: 'it returns false'. Refute it at one input. -/
def lexCoversWrong : ChangeSpec := { name := "lexCovers", fn := fun _ => fun
  | [d] => { results := [.lit (.bool false)], args := [d] }
  | _ => none }
def LexCoversWrongFalsely : Prop := lexCoversRow.holds Tryd.pinned (OpenSpec.ofChange lexCoversWrong)

/-- 'bobbinlaw13.LexBlanks': WHATEVER THE INPUT: true; the input reads as it did. -/
def lexBlanksSpec : ChangeSpec := { name := "lexBlanks", fn := fun _ => fun
  | [d1, d2, d3] => { results := [.lit (.bool true)], args := [d1, d2, d3] }
  | _ => none }
def lexBlanksRow : OpenClaim := { program := "ytgjfbalafdifgaadoor", sum := "c32fbb5168acb27220da971ac1f19bc4b5ec8574a5ab1b7cb4150a7c392e3161", func := "bobbin/bobbinlaw13.LexBlanks", spec := "lexBlanks", inPlace := ["internal/bytealg.IndexByteString", "internal/bytealg.IndexString"], unfollowed := true, recurses := true, named := ["internal/bytealg.MaxLen", "unicode/utf8.first", "unicode/utf8.acceptRanges"], apart := false, laid := [("unicode/utf8.acceptRanges", laid_unicode_utf8_acceptRanges), ("unicode/utf8.first", laid_unicode_utf8_first)] }
def LexBlanksSaid : Prop := lexBlanksRow.holds Tryd.pinned (OpenSpec.ofChange lexBlanksSpec)

/-- ITS FALSE NEIGHBOUR: 'it returns false'. Refute it at one input. -/
def lexBlanksWrong : ChangeSpec := { name := "lexBlanks", fn := fun _ => fun
  | [d1, d2, d3] => { results := [.lit (.bool false)], args := [d1, d2, d3] }
  | _ => none }
def LexBlanksWrongFalsely : Prop := lexBlanksRow.holds Tryd.pinned (OpenSpec.ofChange lexBlanksWrong)

/-- 'bobbinlaw13.LexLong': WHATEVER THE INPUT: true; the input reads as it did. -/
def lexLongSpec : ChangeSpec := { name := "lexLong", fn := fun _ => fun
  | [d1, d2] => { results := [.lit (.bool true)], args := [d1, d2] }
  | _ => none }
def lexLongRow : OpenClaim := { program := "ytgjfbalafdifgaadoor", sum := "c32fbb5168acb27220da971ac1f19bc4b5ec8574a5ab1b7cb4150a7c392e3161", func := "bobbin/bobbinlaw13.LexLong", spec := "lexLong", inPlace := ["internal/bytealg.IndexByteString", "internal/bytealg.IndexString"], unfollowed := true, recurses := true, named := ["internal/bytealg.MaxLen", "unicode/utf8.first", "unicode/utf8.acceptRanges"], apart := false, laid := [("unicode/utf8.acceptRanges", laid_unicode_utf8_acceptRanges), ("unicode/utf8.first", laid_unicode_utf8_first)] }
def LexLongSaid : Prop := lexLongRow.holds Tryd.pinned (OpenSpec.ofChange lexLongSpec)

/-- ITS FALSE NEIGHBOUR: 'it returns false'. Refute it at one input. -/
def lexLongWrong : ChangeSpec := { name := "lexLong", fn := fun _ => fun
  | [d1, d2] => { results := [.lit (.bool false)], args := [d1, d2] }
  | _ => none }
def LexLongWrongFalsely : Prop := lexLongRow.holds Tryd.pinned (OpenSpec.ofChange lexLongWrong)

/-- 'bobbinlaw13.LexEach': WHATEVER THE INPUT: true; the input reads as it did. -/
def lexEachSpec : ChangeSpec := { name := "lexEach", fn := fun _ => fun
  | [d1, d2] => { results := [.lit (.bool true)], args := [d1, d2] }
  | _ => none }
def lexEachRow : OpenClaim := { program := "ytgjfbalafdifgaadoor", sum := "c32fbb5168acb27220da971ac1f19bc4b5ec8574a5ab1b7cb4150a7c392e3161", func := "bobbin/bobbinlaw13.LexEach", spec := "lexEach", inPlace := ["internal/bytealg.IndexByteString", "internal/bytealg.IndexString"], unfollowed := true, recurses := true, named := ["internal/bytealg.MaxLen", "unicode/utf8.first", "unicode/utf8.acceptRanges"], apart := false, laid := [("unicode/utf8.acceptRanges", laid_unicode_utf8_acceptRanges), ("unicode/utf8.first", laid_unicode_utf8_first)] }
def LexEachSaid : Prop := lexEachRow.holds Tryd.pinned (OpenSpec.ofChange lexEachSpec)

/-- ITS FALSE NEIGHBOUR: 'it returns false'. Refute it at one input. -/
def lexEachWrong : ChangeSpec := { name := "lexEach", fn := fun _ => fun
  | [d1, d2] => { results := [.lit (.bool false)], args := [d1, d2] }
  | _ => none }
def LexEachWrongFalsely : Prop := lexEachRow.holds Tryd.pinned (OpenSpec.ofChange lexEachWrong)

/-- 'bobbinlaw13.LexNames': WHATEVER THE INPUT: true; the input reads as it did. -/
def lexNamesSpec : ChangeSpec := { name := "lexNames", fn := fun _ => fun
  | [d] => { results := [.lit (.bool true)], args := [d] }
  | _ => none }
def lexNamesRow : OpenClaim := { program := "ytgjfbalafdifgaadoor", sum := "c32fbb5168acb27220da971ac1f19bc4b5ec8574a5ab1b7cb4150a7c392e3161", func := "bobbin/bobbinlaw13.LexNames", spec := "lexNames", inPlace := ["internal/bytealg.IndexByteString", "internal/bytealg.IndexString", "internal/abi.NoEscape", "internal/bytealg.MakeNoZero"], unfollowed := true, recurses := true, named := ["internal/bytealg.MaxLen", "unicode/utf8.first", "unicode/utf8.acceptRanges"], apart := false, laid := [("unicode/utf8.acceptRanges", laid_unicode_utf8_acceptRanges), ("unicode/utf8.first", laid_unicode_utf8_first)] }
def LexNamesSaid : Prop := lexNamesRow.holds Tryd.pinned (OpenSpec.ofChange lexNamesSpec)

/-- ITS FALSE NEIGHBOUR: 'it returns false'. Refute it at one input. -/
def lexNamesWrong : ChangeSpec := { name := "lexNames", fn := fun _ => fun
  | [d] => { results := [.lit (.bool false)], args := [d] }
  | _ => none }
def LexNamesWrongFalsely : Prop := lexNamesRow.holds Tryd.pinned (OpenSpec.ofChange lexNamesWrong)

/-- 'bobbinlaw14.ParseTrees': WHATEVER THE INPUT: true; the input reads as it did. -/
def parseTreesSpec : ChangeSpec := { name := "parseTrees", fn := fun _ => fun
  | [d] => { results := [.lit (.bool true)], args := [d] }
  | _ => none }
def parseTreesRow : OpenClaim := { program := "ytgjfbalafdifgaadoor", sum := "c32fbb5168acb27220da971ac1f19bc4b5ec8574a5ab1b7cb4150a7c392e3161", func := "bobbin/bobbinlaw14.ParseTrees", spec := "parseTrees", inPlace := ["internal/bytealg.IndexByteString", "internal/bytealg.IndexString"], unfollowed := true, recurses := true, named := ["internal/bytealg.MaxLen", "unicode/utf8.first", "unicode/utf8.acceptRanges"], apart := false, laid := [("unicode/utf8.acceptRanges", laid_unicode_utf8_acceptRanges), ("unicode/utf8.first", laid_unicode_utf8_first)] }
def ParseTreesSaid : Prop := parseTreesRow.holds Tryd.pinned (OpenSpec.ofChange parseTreesSpec)

/-- ITS FALSE NEIGHBOUR: 'it returns false'. Refute it at one input. -/
def parseTreesWrong : ChangeSpec := { name := "parseTrees", fn := fun _ => fun
  | [d] => { results := [.lit (.bool false)], args := [d] }
  | _ => none }
def ParseTreesWrongFalsely : Prop := parseTreesRow.holds Tryd.pinned (OpenSpec.ofChange parseTreesWrong)

/-- 'bobbinlaw14.ParseDeep': WHATEVER THE INPUT: true; the input reads as it did. -/
def parseDeepSpec : ChangeSpec := { name := "parseDeep", fn := fun _ => fun
  | [d1, d2] => { results := [.lit (.bool true)], args := [d1, d2] }
  | _ => none }
def parseDeepRow : OpenClaim := { program := "ytgjfbalafdifgaadoor", sum := "c32fbb5168acb27220da971ac1f19bc4b5ec8574a5ab1b7cb4150a7c392e3161", func := "bobbin/bobbinlaw14.ParseDeep", spec := "parseDeep", inPlace := ["internal/bytealg.IndexByteString", "internal/bytealg.IndexString"], unfollowed := true, recurses := true, named := ["internal/bytealg.MaxLen", "unicode/utf8.first", "unicode/utf8.acceptRanges"], apart := false, laid := [("unicode/utf8.acceptRanges", laid_unicode_utf8_acceptRanges), ("unicode/utf8.first", laid_unicode_utf8_first)] }
def ParseDeepSaid : Prop := parseDeepRow.holds Tryd.pinned (OpenSpec.ofChange parseDeepSpec)

/-- ITS FALSE NEIGHBOUR: 'it returns false'. Refute it at one input. -/
def parseDeepWrong : ChangeSpec := { name := "parseDeep", fn := fun _ => fun
  | [d1, d2] => { results := [.lit (.bool false)], args := [d1, d2] }
  | _ => none }
def ParseDeepWrongFalsely : Prop := parseDeepRow.holds Tryd.pinned (OpenSpec.ofChange parseDeepWrong)

/-- 'bobbinlaw14.ParseOrder': WHATEVER THE INPUT: true; the input reads as it did. -/
def parseOrderSpec : ChangeSpec := { name := "parseOrder", fn := fun _ => fun
  | [d] => { results := [.lit (.bool true)], args := [d] }
  | _ => none }
def parseOrderRow : OpenClaim := { program := "ytgjfbalafdifgaadoor", sum := "c32fbb5168acb27220da971ac1f19bc4b5ec8574a5ab1b7cb4150a7c392e3161", func := "bobbin/bobbinlaw14.ParseOrder", spec := "parseOrder", inPlace := ["internal/bytealg.IndexByteString", "internal/bytealg.IndexString"], unfollowed := true, recurses := true, named := ["internal/bytealg.MaxLen", "unicode/utf8.first", "unicode/utf8.acceptRanges"], apart := false, laid := [("unicode/utf8.acceptRanges", laid_unicode_utf8_acceptRanges), ("unicode/utf8.first", laid_unicode_utf8_first)] }
def ParseOrderSaid : Prop := parseOrderRow.holds Tryd.pinned (OpenSpec.ofChange parseOrderSpec)

/-- ITS FALSE NEIGHBOUR: 'it returns false'. Refute it at one input. -/
def parseOrderWrong : ChangeSpec := { name := "parseOrder", fn := fun _ => fun
  | [d] => { results := [.lit (.bool false)], args := [d] }
  | _ => none }
def ParseOrderWrongFalsely : Prop := parseOrderRow.holds Tryd.pinned (OpenSpec.ofChange parseOrderWrong)

/-- 'bobbinlaw14.ParseOdd': WHATEVER THE INPUT: true; the input reads as it did. -/
def parseOddSpec : ChangeSpec := { name := "parseOdd", fn := fun _ => fun
  | [d] => { results := [.lit (.bool true)], args := [d] }
  | _ => none }
def parseOddRow : OpenClaim := { program := "ytgjfbalafdifgaadoor", sum := "c32fbb5168acb27220da971ac1f19bc4b5ec8574a5ab1b7cb4150a7c392e3161", func := "bobbin/bobbinlaw14.ParseOdd", spec := "parseOdd", inPlace := ["internal/bytealg.IndexByteString", "internal/bytealg.IndexString", "internal/abi.NoEscape", "internal/bytealg.MakeNoZero"], unfollowed := true, recurses := true, named := ["internal/bytealg.MaxLen", "unicode/utf8.first", "unicode/utf8.acceptRanges"], apart := false, laid := [("unicode/utf8.acceptRanges", laid_unicode_utf8_acceptRanges), ("unicode/utf8.first", laid_unicode_utf8_first)] }
def ParseOddSaid : Prop := parseOddRow.holds Tryd.pinned (OpenSpec.ofChange parseOddSpec)

/-- ITS FALSE NEIGHBOUR: 'it returns false'. Refute it at one input. -/
def parseOddWrong : ChangeSpec := { name := "parseOdd", fn := fun _ => fun
  | [d] => { results := [.lit (.bool false)], args := [d] }
  | _ => none }
def ParseOddWrongFalsely : Prop := parseOddRow.holds Tryd.pinned (OpenSpec.ofChange parseOddWrong)

/-- 'bobbinlaw15.InferJoins': WHATEVER THE INPUT: true; the input reads as it did. -/
def inferJoinsSpec : ChangeSpec := { name := "inferJoins", fn := fun _ => fun
  | [d1, d2, d3] => { results := [.lit (.bool true)], args := [d1, d2, d3] }
  | _ => none }
def inferJoinsRow : OpenClaim := { program := "ytgjfbalafdifgaadoor", sum := "c32fbb5168acb27220da971ac1f19bc4b5ec8574a5ab1b7cb4150a7c392e3161", func := "bobbin/bobbinlaw15.InferJoins", spec := "inferJoins", inPlace := ["internal/bytealg.IndexByteString", "internal/bytealg.IndexString"], unfollowed := true, recurses := true, named := ["internal/bytealg.MaxLen", "unicode/utf8.first", "unicode/utf8.acceptRanges", "bobbin/step.bad"], apart := false, laid := [("unicode/utf8.acceptRanges", laid_unicode_utf8_acceptRanges), ("bobbin/step.bad", laid_bobbin_step_bad), ("unicode/utf8.first", laid_unicode_utf8_first)] }
def InferJoinsSaid : Prop := inferJoinsRow.holds Tryd.pinned (OpenSpec.ofChange inferJoinsSpec)

/-- ITS FALSE NEIGHBOUR: 'it returns false'. Refute it at one input. -/
def inferJoinsWrong : ChangeSpec := { name := "inferJoins", fn := fun _ => fun
  | [d1, d2, d3] => { results := [.lit (.bool false)], args := [d1, d2, d3] }
  | _ => none }
def InferJoinsWrongFalsely : Prop := inferJoinsRow.holds Tryd.pinned (OpenSpec.ofChange inferJoinsWrong)

/-- 'bobbinlaw15.InferBranches': WHATEVER THE INPUT: true; the input reads as it did. -/
def inferBranchesSpec : ChangeSpec := { name := "inferBranches", fn := fun _ => fun
  | [d1, d2, d3] => { results := [.lit (.bool true)], args := [d1, d2, d3] }
  | _ => none }
def inferBranchesRow : OpenClaim := { program := "ytgjfbalafdifgaadoor", sum := "c32fbb5168acb27220da971ac1f19bc4b5ec8574a5ab1b7cb4150a7c392e3161", func := "bobbin/bobbinlaw15.InferBranches", spec := "inferBranches", inPlace := ["internal/bytealg.IndexByteString", "internal/bytealg.IndexString"], unfollowed := true, recurses := true, named := ["internal/bytealg.MaxLen", "unicode/utf8.first", "unicode/utf8.acceptRanges", "bobbin/step.bad"], apart := false, laid := [("unicode/utf8.acceptRanges", laid_unicode_utf8_acceptRanges), ("bobbin/step.bad", laid_bobbin_step_bad), ("unicode/utf8.first", laid_unicode_utf8_first)] }
def InferBranchesSaid : Prop := inferBranchesRow.holds Tryd.pinned (OpenSpec.ofChange inferBranchesSpec)

/-- ITS FALSE NEIGHBOUR: 'it returns false'. Refute it at one input. -/
def inferBranchesWrong : ChangeSpec := { name := "inferBranches", fn := fun _ => fun
  | [d1, d2, d3] => { results := [.lit (.bool false)], args := [d1, d2, d3] }
  | _ => none }
def InferBranchesWrongFalsely : Prop := inferBranchesRow.holds Tryd.pinned (OpenSpec.ofChange inferBranchesWrong)

/-- 'bobbinlaw15.InferTwice': WHATEVER THE INPUT: true; the input reads as it did. -/
def inferTwiceSpec : ChangeSpec := { name := "inferTwice", fn := fun _ => fun
  | [d] => { results := [.lit (.bool true)], args := [d] }
  | _ => none }
def inferTwiceRow : OpenClaim := { program := "ytgjfbalafdifgaadoor", sum := "c32fbb5168acb27220da971ac1f19bc4b5ec8574a5ab1b7cb4150a7c392e3161", func := "bobbin/bobbinlaw15.InferTwice", spec := "inferTwice", inPlace := ["internal/bytealg.IndexByteString", "internal/bytealg.IndexString"], unfollowed := true, recurses := true, named := ["internal/bytealg.MaxLen", "unicode/utf8.first", "unicode/utf8.acceptRanges", "bobbin/step.bad"], apart := false, laid := [("unicode/utf8.acceptRanges", laid_unicode_utf8_acceptRanges), ("bobbin/step.bad", laid_bobbin_step_bad), ("unicode/utf8.first", laid_unicode_utf8_first)] }
def InferTwiceSaid : Prop := inferTwiceRow.holds Tryd.pinned (OpenSpec.ofChange inferTwiceSpec)

/-- ITS FALSE NEIGHBOUR: 'it returns false'. Refute it at one input. -/
def inferTwiceWrong : ChangeSpec := { name := "inferTwice", fn := fun _ => fun
  | [d] => { results := [.lit (.bool false)], args := [d] }
  | _ => none }
def InferTwiceWrongFalsely : Prop := inferTwiceRow.holds Tryd.pinned (OpenSpec.ofChange inferTwiceWrong)

/-- 'bobbinlaw16.CodeFlushes': WHATEVER THE INPUT: true; the input reads as it did. -/
def codeFlushesSpec : ChangeSpec := { name := "codeFlushes", fn := fun _ => fun
  | [d] => { results := [.lit (.bool true)], args := [d] }
  | _ => none }
def codeFlushesRow : OpenClaim := { program := "ytgjfbalafdifgaadoor", sum := "c32fbb5168acb27220da971ac1f19bc4b5ec8574a5ab1b7cb4150a7c392e3161", func := "bobbin/bobbinlaw16.CodeFlushes", spec := "codeFlushes", inPlace := ["internal/bytealg.IndexByteString", "internal/bytealg.IndexString"], unfollowed := true, recurses := true, named := ["internal/bytealg.MaxLen", "unicode/utf8.first", "unicode/utf8.acceptRanges", "bobbin/step.bad"], apart := false, laid := [("unicode/utf8.acceptRanges", laid_unicode_utf8_acceptRanges), ("bobbin/step.bad", laid_bobbin_step_bad), ("unicode/utf8.first", laid_unicode_utf8_first)] }
def CodeFlushesSaid : Prop := codeFlushesRow.holds Tryd.pinned (OpenSpec.ofChange codeFlushesSpec)

/-- ITS FALSE NEIGHBOUR: 'it returns false'. Refute it at one input. -/
def codeFlushesWrong : ChangeSpec := { name := "codeFlushes", fn := fun _ => fun
  | [d] => { results := [.lit (.bool false)], args := [d] }
  | _ => none }
def CodeFlushesWrongFalsely : Prop := codeFlushesRow.holds Tryd.pinned (OpenSpec.ofChange codeFlushesWrong)

/-- 'bobbinlaw16.CodeBehind': WHATEVER THE INPUT: true; the input reads as it did. -/
def codeBehindSpec : ChangeSpec := { name := "codeBehind", fn := fun _ => fun
  | [d] => { results := [.lit (.bool true)], args := [d] }
  | _ => none }
def codeBehindRow : OpenClaim := { program := "ytgjfbalafdifgaadoor", sum := "c32fbb5168acb27220da971ac1f19bc4b5ec8574a5ab1b7cb4150a7c392e3161", func := "bobbin/bobbinlaw16.CodeBehind", spec := "codeBehind", inPlace := ["internal/bytealg.IndexByteString", "internal/bytealg.IndexString"], unfollowed := true, recurses := true, named := ["internal/bytealg.MaxLen", "unicode/utf8.first", "unicode/utf8.acceptRanges", "bobbin/step.bad"], apart := false, laid := [("unicode/utf8.acceptRanges", laid_unicode_utf8_acceptRanges), ("bobbin/step.bad", laid_bobbin_step_bad), ("unicode/utf8.first", laid_unicode_utf8_first)] }
def CodeBehindSaid : Prop := codeBehindRow.holds Tryd.pinned (OpenSpec.ofChange codeBehindSpec)

/-- ITS FALSE NEIGHBOUR: 'it returns false'. Refute it at one input. -/
def codeBehindWrong : ChangeSpec := { name := "codeBehind", fn := fun _ => fun
  | [d] => { results := [.lit (.bool false)], args := [d] }
  | _ => none }
def CodeBehindWrongFalsely : Prop := codeBehindRow.holds Tryd.pinned (OpenSpec.ofChange codeBehindWrong)

/-- 'bobbinlaw16.CodeAgrees': WHATEVER THE INPUT: true; the input reads as it did. -/
def codeAgreesSpec : ChangeSpec := { name := "codeAgrees", fn := fun _ => fun
  | [d] => { results := [.lit (.bool true)], args := [d] }
  | _ => none }
def codeAgreesRow : OpenClaim := { program := "ytgjfbalafdifgaadoor", sum := "c32fbb5168acb27220da971ac1f19bc4b5ec8574a5ab1b7cb4150a7c392e3161", func := "bobbin/bobbinlaw16.CodeAgrees", spec := "codeAgrees", inPlace := ["internal/bytealg.IndexByteString", "internal/bytealg.IndexString"], unfollowed := true, recurses := true, named := ["internal/bytealg.MaxLen", "unicode/utf8.first", "unicode/utf8.acceptRanges", "bobbin/step.bad"], apart := false, laid := [("unicode/utf8.acceptRanges", laid_unicode_utf8_acceptRanges), ("bobbin/step.bad", laid_bobbin_step_bad), ("unicode/utf8.first", laid_unicode_utf8_first)] }
def CodeAgreesSaid : Prop := codeAgreesRow.holds Tryd.pinned (OpenSpec.ofChange codeAgreesSpec)

/-- ITS FALSE NEIGHBOUR: 'it returns false'. Refute it at one input. -/
def codeAgreesWrong : ChangeSpec := { name := "codeAgrees", fn := fun _ => fun
  | [d] => { results := [.lit (.bool false)], args := [d] }
  | _ => none }
def CodeAgreesWrongFalsely : Prop := codeAgreesRow.holds Tryd.pinned (OpenSpec.ofChange codeAgreesWrong)

/-- 'bobbinlaw16.CodeGoes': WHATEVER THE INPUT: true; the input reads as it did. -/
def codeGoesSpec : ChangeSpec := { name := "codeGoes", fn := fun _ => fun
  | [d] => { results := [.lit (.bool true)], args := [d] }
  | _ => none }
def codeGoesRow : OpenClaim := { program := "ytgjfbalafdifgaadoor", sum := "c32fbb5168acb27220da971ac1f19bc4b5ec8574a5ab1b7cb4150a7c392e3161", func := "bobbin/bobbinlaw16.CodeGoes", spec := "codeGoes", inPlace := ["internal/bytealg.IndexByteString", "internal/bytealg.IndexString"], unfollowed := true, recurses := true, named := ["internal/bytealg.MaxLen", "unicode/utf8.first", "unicode/utf8.acceptRanges", "bobbin/step.bad"], apart := false, laid := [("unicode/utf8.acceptRanges", laid_unicode_utf8_acceptRanges), ("bobbin/step.bad", laid_bobbin_step_bad), ("unicode/utf8.first", laid_unicode_utf8_first)] }
def CodeGoesSaid : Prop := codeGoesRow.holds Tryd.pinned (OpenSpec.ofChange codeGoesSpec)

/-- ITS FALSE NEIGHBOUR: 'it returns false'. Refute it at one input. -/
def codeGoesWrong : ChangeSpec := { name := "codeGoes", fn := fun _ => fun
  | [d] => { results := [.lit (.bool false)], args := [d] }
  | _ => none }
def CodeGoesWrongFalsely : Prop := codeGoesRow.holds Tryd.pinned (OpenSpec.ofChange codeGoesWrong)

/-- 'bobbinlaw16.CodeLooks': WHATEVER THE INPUT: true; the input reads as it did. -/
def codeLooksSpec : ChangeSpec := { name := "codeLooks", fn := fun _ => fun
  | [d] => { results := [.lit (.bool true)], args := [d] }
  | _ => none }
def codeLooksRow : OpenClaim := { program := "ytgjfbalafdifgaadoor", sum := "c32fbb5168acb27220da971ac1f19bc4b5ec8574a5ab1b7cb4150a7c392e3161", func := "bobbin/bobbinlaw16.CodeLooks", spec := "codeLooks", inPlace := ["internal/bytealg.IndexByteString", "internal/bytealg.IndexString"], unfollowed := true, recurses := true, named := ["internal/bytealg.MaxLen", "unicode/utf8.first", "unicode/utf8.acceptRanges", "bobbin/step.bad"], apart := false, laid := [("unicode/utf8.acceptRanges", laid_unicode_utf8_acceptRanges), ("bobbin/step.bad", laid_bobbin_step_bad), ("unicode/utf8.first", laid_unicode_utf8_first)] }
def CodeLooksSaid : Prop := codeLooksRow.holds Tryd.pinned (OpenSpec.ofChange codeLooksSpec)

/-- ITS FALSE NEIGHBOUR: 'it returns false'. Refute it at one input. -/
def codeLooksWrong : ChangeSpec := { name := "codeLooks", fn := fun _ => fun
  | [d] => { results := [.lit (.bool false)], args := [d] }
  | _ => none }
def CodeLooksWrongFalsely : Prop := codeLooksRow.holds Tryd.pinned (OpenSpec.ofChange codeLooksWrong)

/-- 'bobbinlaw15.InferHoles': WHATEVER THE INPUT: true; the input reads as it did. -/
def inferHolesSpec : ChangeSpec := { name := "inferHoles", fn := fun _ => fun
  | [d] => { results := [.lit (.bool true)], args := [d] }
  | _ => none }
def inferHolesRow : OpenClaim := { program := "ytgjfbalafdifgaadoor", sum := "c32fbb5168acb27220da971ac1f19bc4b5ec8574a5ab1b7cb4150a7c392e3161", func := "bobbin/bobbinlaw15.InferHoles", spec := "inferHoles", inPlace := ["internal/bytealg.IndexByteString", "internal/bytealg.IndexString"], unfollowed := true, recurses := true, named := ["internal/bytealg.MaxLen", "unicode/utf8.first", "unicode/utf8.acceptRanges", "bobbin/step.bad"], apart := false, laid := [("unicode/utf8.acceptRanges", laid_unicode_utf8_acceptRanges), ("bobbin/step.bad", laid_bobbin_step_bad), ("unicode/utf8.first", laid_unicode_utf8_first)] }
def InferHolesSaid : Prop := inferHolesRow.holds Tryd.pinned (OpenSpec.ofChange inferHolesSpec)

/-- ITS FALSE NEIGHBOUR: 'it returns false'. Refute it at one input. -/
def inferHolesWrong : ChangeSpec := { name := "inferHoles", fn := fun _ => fun
  | [d] => { results := [.lit (.bool false)], args := [d] }
  | _ => none }
def InferHolesWrongFalsely : Prop := inferHolesRow.holds Tryd.pinned (OpenSpec.ofChange inferHolesWrong)

/- THE SECOND FORM. 'bulk': how many values and letters a reading holds, each counted each time it is reached (what is shared counts as often as it is met; a slice's spare places count too). A statement '..UptoSaid' is the law's where the arguments, and the package variables that the reading takes, are together of bulk at most 1048576: NARROWER than '..Said'. Prove '..Said' where nothing that the law and all that it calls make is longer than what came in: it says more and counts as full. Else prove '..UptoSaid'. A law counts once. -/
mutual
def uptoBulk {H : Type} : DataW H → Nat
  | .lit (.string bytes) => bytes.length + 1
  | .lit _ => 1
  | .nil => 1
  | .ptr d => uptoBulk d + 1
  | .slice elems spare => uptoBulkAll elems + uptoBulkAll spare + 1
  | .agg parts => uptoBulkAll parts + 1
  | .iface _ d => uptoBulk d + 1
  | .map entries => uptoBulkEntries entries + 1
  | .held _ => 1
def uptoBulkAll {H : Type} : List (DataW H) → Nat
  | [] => 0
  | d :: r => uptoBulk d + uptoBulkAll r
def uptoBulkEntries {H : Type} : List (Lit × DataW H) → Nat
  | [] => 0
  | x :: r => uptoBulkEntry x + uptoBulkEntries r
def uptoBulkEntry {H : Type} : Lit × DataW H → Nat
  | (.string bytes, d) => bytes.length + uptoBulk d + 1
  | (_, d) => uptoBulk d + 1
 end
def uptoSmall : (H : Type) → List (DataW H) → Bool := fun _ ds => decide (uptoBulkAll ds ≤ 1048576)
def OpenSpec.upto (s : _root_.Go.ChangeSpec) : _root_.Go.OpenSpec := { _root_.Go.OpenSpec.ofChange s with cond := some uptoSmall }

/-- 'bobbinlaw13.LexAlls', WHERE WHAT IT READS IS OF BULK AT MOST 1048576: true; the input reads as it did. -/
def lexAllsUptoRow : OpenClaim := { program := "ytgjfbalafdifgaadoor", sum := "c32fbb5168acb27220da971ac1f19bc4b5ec8574a5ab1b7cb4150a7c392e3161", func := "bobbin/bobbinlaw13.LexAlls", spec := "lexAlls", inPlace := ["internal/bytealg.IndexByteString", "internal/bytealg.IndexString"], unfollowed := true, recurses := true, named := ["internal/bytealg.MaxLen", "unicode/utf8.first", "unicode/utf8.acceptRanges"], apart := false, laid := [("unicode/utf8.acceptRanges", laid_unicode_utf8_acceptRanges), ("unicode/utf8.first", laid_unicode_utf8_first)], narrowed := true }
def LexAllsUptoSaid : Prop := lexAllsUptoRow.holds Tryd.pinned (OpenSpec.upto lexAllsSpec)

/-- 'bobbinlaw13.LexCovers', WHERE WHAT IT READS IS OF BULK AT MOST 1048576: true; the input reads as it did. -/
def lexCoversUptoRow : OpenClaim := { program := "ytgjfbalafdifgaadoor", sum := "c32fbb5168acb27220da971ac1f19bc4b5ec8574a5ab1b7cb4150a7c392e3161", func := "bobbin/bobbinlaw13.LexCovers", spec := "lexCovers", inPlace := ["internal/bytealg.IndexByteString", "internal/bytealg.IndexString"], unfollowed := true, recurses := true, named := ["internal/bytealg.MaxLen", "unicode/utf8.first", "unicode/utf8.acceptRanges"], apart := false, laid := [("unicode/utf8.acceptRanges", laid_unicode_utf8_acceptRanges), ("unicode/utf8.first", laid_unicode_utf8_first)], narrowed := true }
def LexCoversUptoSaid : Prop := lexCoversUptoRow.holds Tryd.pinned (OpenSpec.upto lexCoversSpec)

/-- 'bobbinlaw13.LexBlanks', WHERE WHAT IT READS IS OF BULK AT MOST 1048576: true; the input reads as it did. -/
def lexBlanksUptoRow : OpenClaim := { program := "ytgjfbalafdifgaadoor", sum := "c32fbb5168acb27220da971ac1f19bc4b5ec8574a5ab1b7cb4150a7c392e3161", func := "bobbin/bobbinlaw13.LexBlanks", spec := "lexBlanks", inPlace := ["internal/bytealg.IndexByteString", "internal/bytealg.IndexString"], unfollowed := true, recurses := true, named := ["internal/bytealg.MaxLen", "unicode/utf8.first", "unicode/utf8.acceptRanges"], apart := false, laid := [("unicode/utf8.acceptRanges", laid_unicode_utf8_acceptRanges), ("unicode/utf8.first", laid_unicode_utf8_first)], narrowed := true }
def LexBlanksUptoSaid : Prop := lexBlanksUptoRow.holds Tryd.pinned (OpenSpec.upto lexBlanksSpec)

/-- 'bobbinlaw13.LexLong', WHERE WHAT IT READS IS OF BULK AT MOST 1048576: true; the input reads as it did. -/
def lexLongUptoRow : OpenClaim := { program := "ytgjfbalafdifgaadoor", sum := "c32fbb5168acb27220da971ac1f19bc4b5ec8574a5ab1b7cb4150a7c392e3161", func := "bobbin/bobbinlaw13.LexLong", spec := "lexLong", inPlace := ["internal/bytealg.IndexByteString", "internal/bytealg.IndexString"], unfollowed := true, recurses := true, named := ["internal/bytealg.MaxLen", "unicode/utf8.first", "unicode/utf8.acceptRanges"], apart := false, laid := [("unicode/utf8.acceptRanges", laid_unicode_utf8_acceptRanges), ("unicode/utf8.first", laid_unicode_utf8_first)], narrowed := true }
def LexLongUptoSaid : Prop := lexLongUptoRow.holds Tryd.pinned (OpenSpec.upto lexLongSpec)

/-- 'bobbinlaw13.LexEach', WHERE WHAT IT READS IS OF BULK AT MOST 1048576: true; the input reads as it did. -/
def lexEachUptoRow : OpenClaim := { program := "ytgjfbalafdifgaadoor", sum := "c32fbb5168acb27220da971ac1f19bc4b5ec8574a5ab1b7cb4150a7c392e3161", func := "bobbin/bobbinlaw13.LexEach", spec := "lexEach", inPlace := ["internal/bytealg.IndexByteString", "internal/bytealg.IndexString"], unfollowed := true, recurses := true, named := ["internal/bytealg.MaxLen", "unicode/utf8.first", "unicode/utf8.acceptRanges"], apart := false, laid := [("unicode/utf8.acceptRanges", laid_unicode_utf8_acceptRanges), ("unicode/utf8.first", laid_unicode_utf8_first)], narrowed := true }
def LexEachUptoSaid : Prop := lexEachUptoRow.holds Tryd.pinned (OpenSpec.upto lexEachSpec)

/-- 'bobbinlaw13.LexNames', WHERE WHAT IT READS IS OF BULK AT MOST 1048576: true; the input reads as it did. -/
def lexNamesUptoRow : OpenClaim := { program := "ytgjfbalafdifgaadoor", sum := "c32fbb5168acb27220da971ac1f19bc4b5ec8574a5ab1b7cb4150a7c392e3161", func := "bobbin/bobbinlaw13.LexNames", spec := "lexNames", inPlace := ["internal/bytealg.IndexByteString", "internal/bytealg.IndexString", "internal/abi.NoEscape", "internal/bytealg.MakeNoZero"], unfollowed := true, recurses := true, named := ["internal/bytealg.MaxLen", "unicode/utf8.first", "unicode/utf8.acceptRanges"], apart := false, laid := [("unicode/utf8.acceptRanges", laid_unicode_utf8_acceptRanges), ("unicode/utf8.first", laid_unicode_utf8_first)], narrowed := true }
def LexNamesUptoSaid : Prop := lexNamesUptoRow.holds Tryd.pinned (OpenSpec.upto lexNamesSpec)

/-- 'bobbinlaw14.ParseTrees', WHERE WHAT IT READS IS OF BULK AT MOST 1048576: true; the input reads as it did. -/
def parseTreesUptoRow : OpenClaim := { program := "ytgjfbalafdifgaadoor", sum := "c32fbb5168acb27220da971ac1f19bc4b5ec8574a5ab1b7cb4150a7c392e3161", func := "bobbin/bobbinlaw14.ParseTrees", spec := "parseTrees", inPlace := ["internal/bytealg.IndexByteString", "internal/bytealg.IndexString"], unfollowed := true, recurses := true, named := ["internal/bytealg.MaxLen", "unicode/utf8.first", "unicode/utf8.acceptRanges"], apart := false, laid := [("unicode/utf8.acceptRanges", laid_unicode_utf8_acceptRanges), ("unicode/utf8.first", laid_unicode_utf8_first)], narrowed := true }
def ParseTreesUptoSaid : Prop := parseTreesUptoRow.holds Tryd.pinned (OpenSpec.upto parseTreesSpec)

/-- 'bobbinlaw14.ParseDeep', WHERE WHAT IT READS IS OF BULK AT MOST 1048576: true; the input reads as it did. -/
def parseDeepUptoRow : OpenClaim := { program := "ytgjfbalafdifgaadoor", sum := "c32fbb5168acb27220da971ac1f19bc4b5ec8574a5ab1b7cb4150a7c392e3161", func := "bobbin/bobbinlaw14.ParseDeep", spec := "parseDeep", inPlace := ["internal/bytealg.IndexByteString", "internal/bytealg.IndexString"], unfollowed := true, recurses := true, named := ["internal/bytealg.MaxLen", "unicode/utf8.first", "unicode/utf8.acceptRanges"], apart := false, laid := [("unicode/utf8.acceptRanges", laid_unicode_utf8_acceptRanges), ("unicode/utf8.first", laid_unicode_utf8_first)], narrowed := true }
def ParseDeepUptoSaid : Prop := parseDeepUptoRow.holds Tryd.pinned (OpenSpec.upto parseDeepSpec)

/-- 'bobbinlaw14.ParseOrder', WHERE WHAT IT READS IS OF BULK AT MOST 1048576: true; the input reads as it did. -/
def parseOrderUptoRow : OpenClaim := { program := "ytgjfbalafdifgaadoor", sum := "c32fbb5168acb27220da971ac1f19bc4b5ec8574a5ab1b7cb4150a7c392e3161", func := "bobbin/bobbinlaw14.ParseOrder", spec := "parseOrder", inPlace := ["internal/bytealg.IndexByteString", "internal/bytealg.IndexString"], unfollowed := true, recurses := true, named := ["internal/bytealg.MaxLen", "unicode/utf8.first", "unicode/utf8.acceptRanges"], apart := false, laid := [("unicode/utf8.acceptRanges", laid_unicode_utf8_acceptRanges), ("unicode/utf8.first", laid_unicode_utf8_first)], narrowed := true }
def ParseOrderUptoSaid : Prop := parseOrderUptoRow.holds Tryd.pinned (OpenSpec.upto parseOrderSpec)

/-- 'bobbinlaw14.ParseOdd', WHERE WHAT IT READS IS OF BULK AT MOST 1048576: true; the input reads as it did. -/
def parseOddUptoRow : OpenClaim := { program := "ytgjfbalafdifgaadoor", sum := "c32fbb5168acb27220da971ac1f19bc4b5ec8574a5ab1b7cb4150a7c392e3161", func := "bobbin/bobbinlaw14.ParseOdd", spec := "parseOdd", inPlace := ["internal/bytealg.IndexByteString", "internal/bytealg.IndexString", "internal/abi.NoEscape", "internal/bytealg.MakeNoZero"], unfollowed := true, recurses := true, named := ["internal/bytealg.MaxLen", "unicode/utf8.first", "unicode/utf8.acceptRanges"], apart := false, laid := [("unicode/utf8.acceptRanges", laid_unicode_utf8_acceptRanges), ("unicode/utf8.first", laid_unicode_utf8_first)], narrowed := true }
def ParseOddUptoSaid : Prop := parseOddUptoRow.holds Tryd.pinned (OpenSpec.upto parseOddSpec)

/-- 'bobbinlaw15.InferJoins', WHERE WHAT IT READS IS OF BULK AT MOST 1048576: true; the input reads as it did. -/
def inferJoinsUptoRow : OpenClaim := { program := "ytgjfbalafdifgaadoor", sum := "c32fbb5168acb27220da971ac1f19bc4b5ec8574a5ab1b7cb4150a7c392e3161", func := "bobbin/bobbinlaw15.InferJoins", spec := "inferJoins", inPlace := ["internal/bytealg.IndexByteString", "internal/bytealg.IndexString"], unfollowed := true, recurses := true, named := ["internal/bytealg.MaxLen", "unicode/utf8.first", "unicode/utf8.acceptRanges", "bobbin/step.bad"], apart := false, laid := [("unicode/utf8.acceptRanges", laid_unicode_utf8_acceptRanges), ("bobbin/step.bad", laid_bobbin_step_bad), ("unicode/utf8.first", laid_unicode_utf8_first)], narrowed := true }
def InferJoinsUptoSaid : Prop := inferJoinsUptoRow.holds Tryd.pinned (OpenSpec.upto inferJoinsSpec)

/-- 'bobbinlaw15.InferBranches', WHERE WHAT IT READS IS OF BULK AT MOST 1048576: true; the input reads as it did. -/
def inferBranchesUptoRow : OpenClaim := { program := "ytgjfbalafdifgaadoor", sum := "c32fbb5168acb27220da971ac1f19bc4b5ec8574a5ab1b7cb4150a7c392e3161", func := "bobbin/bobbinlaw15.InferBranches", spec := "inferBranches", inPlace := ["internal/bytealg.IndexByteString", "internal/bytealg.IndexString"], unfollowed := true, recurses := true, named := ["internal/bytealg.MaxLen", "unicode/utf8.first", "unicode/utf8.acceptRanges", "bobbin/step.bad"], apart := false, laid := [("unicode/utf8.acceptRanges", laid_unicode_utf8_acceptRanges), ("bobbin/step.bad", laid_bobbin_step_bad), ("unicode/utf8.first", laid_unicode_utf8_first)], narrowed := true }
def InferBranchesUptoSaid : Prop := inferBranchesUptoRow.holds Tryd.pinned (OpenSpec.upto inferBranchesSpec)

/-- 'bobbinlaw15.InferTwice', WHERE WHAT IT READS IS OF BULK AT MOST 1048576: true; the input reads as it did. -/
def inferTwiceUptoRow : OpenClaim := { program := "ytgjfbalafdifgaadoor", sum := "c32fbb5168acb27220da971ac1f19bc4b5ec8574a5ab1b7cb4150a7c392e3161", func := "bobbin/bobbinlaw15.InferTwice", spec := "inferTwice", inPlace := ["internal/bytealg.IndexByteString", "internal/bytealg.IndexString"], unfollowed := true, recurses := true, named := ["internal/bytealg.MaxLen", "unicode/utf8.first", "unicode/utf8.acceptRanges", "bobbin/step.bad"], apart := false, laid := [("unicode/utf8.acceptRanges", laid_unicode_utf8_acceptRanges), ("bobbin/step.bad", laid_bobbin_step_bad), ("unicode/utf8.first", laid_unicode_utf8_first)], narrowed := true }
def InferTwiceUptoSaid : Prop := inferTwiceUptoRow.holds Tryd.pinned (OpenSpec.upto inferTwiceSpec)

/-- 'bobbinlaw16.CodeFlushes', WHERE WHAT IT READS IS OF BULK AT MOST 1048576: true; the input reads as it did. -/
def codeFlushesUptoRow : OpenClaim := { program := "ytgjfbalafdifgaadoor", sum := "c32fbb5168acb27220da971ac1f19bc4b5ec8574a5ab1b7cb4150a7c392e3161", func := "bobbin/bobbinlaw16.CodeFlushes", spec := "codeFlushes", inPlace := ["internal/bytealg.IndexByteString", "internal/bytealg.IndexString"], unfollowed := true, recurses := true, named := ["internal/bytealg.MaxLen", "unicode/utf8.first", "unicode/utf8.acceptRanges", "bobbin/step.bad"], apart := false, laid := [("unicode/utf8.acceptRanges", laid_unicode_utf8_acceptRanges), ("bobbin/step.bad", laid_bobbin_step_bad), ("unicode/utf8.first", laid_unicode_utf8_first)], narrowed := true }
def CodeFlushesUptoSaid : Prop := codeFlushesUptoRow.holds Tryd.pinned (OpenSpec.upto codeFlushesSpec)

/-- 'bobbinlaw16.CodeBehind', WHERE WHAT IT READS IS OF BULK AT MOST 1048576: true; the input reads as it did. -/
def codeBehindUptoRow : OpenClaim := { program := "ytgjfbalafdifgaadoor", sum := "c32fbb5168acb27220da971ac1f19bc4b5ec8574a5ab1b7cb4150a7c392e3161", func := "bobbin/bobbinlaw16.CodeBehind", spec := "codeBehind", inPlace := ["internal/bytealg.IndexByteString", "internal/bytealg.IndexString"], unfollowed := true, recurses := true, named := ["internal/bytealg.MaxLen", "unicode/utf8.first", "unicode/utf8.acceptRanges", "bobbin/step.bad"], apart := false, laid := [("unicode/utf8.acceptRanges", laid_unicode_utf8_acceptRanges), ("bobbin/step.bad", laid_bobbin_step_bad), ("unicode/utf8.first", laid_unicode_utf8_first)], narrowed := true }
def CodeBehindUptoSaid : Prop := codeBehindUptoRow.holds Tryd.pinned (OpenSpec.upto codeBehindSpec)

/-- 'bobbinlaw16.CodeAgrees', WHERE WHAT IT READS IS OF BULK AT MOST 1048576: true; the input reads as it did. -/
def codeAgreesUptoRow : OpenClaim := { program := "ytgjfbalafdifgaadoor", sum := "c32fbb5168acb27220da971ac1f19bc4b5ec8574a5ab1b7cb4150a7c392e3161", func := "bobbin/bobbinlaw16.CodeAgrees", spec := "codeAgrees", inPlace := ["internal/bytealg.IndexByteString", "internal/bytealg.IndexString"], unfollowed := true, recurses := true, named := ["internal/bytealg.MaxLen", "unicode/utf8.first", "unicode/utf8.acceptRanges", "bobbin/step.bad"], apart := false, laid := [("unicode/utf8.acceptRanges", laid_unicode_utf8_acceptRanges), ("bobbin/step.bad", laid_bobbin_step_bad), ("unicode/utf8.first", laid_unicode_utf8_first)], narrowed := true }
def CodeAgreesUptoSaid : Prop := codeAgreesUptoRow.holds Tryd.pinned (OpenSpec.upto codeAgreesSpec)

/-- 'bobbinlaw16.CodeGoes', WHERE WHAT IT READS IS OF BULK AT MOST 1048576: true; the input reads as it did. -/
def codeGoesUptoRow : OpenClaim := { program := "ytgjfbalafdifgaadoor", sum := "c32fbb5168acb27220da971ac1f19bc4b5ec8574a5ab1b7cb4150a7c392e3161", func := "bobbin/bobbinlaw16.CodeGoes", spec := "codeGoes", inPlace := ["internal/bytealg.IndexByteString", "internal/bytealg.IndexString"], unfollowed := true, recurses := true, named := ["internal/bytealg.MaxLen", "unicode/utf8.first", "unicode/utf8.acceptRanges", "bobbin/step.bad"], apart := false, laid := [("unicode/utf8.acceptRanges", laid_unicode_utf8_acceptRanges), ("bobbin/step.bad", laid_bobbin_step_bad), ("unicode/utf8.first", laid_unicode_utf8_first)], narrowed := true }
def CodeGoesUptoSaid : Prop := codeGoesUptoRow.holds Tryd.pinned (OpenSpec.upto codeGoesSpec)

/-- 'bobbinlaw16.CodeLooks', WHERE WHAT IT READS IS OF BULK AT MOST 1048576: true; the input reads as it did. -/
def codeLooksUptoRow : OpenClaim := { program := "ytgjfbalafdifgaadoor", sum := "c32fbb5168acb27220da971ac1f19bc4b5ec8574a5ab1b7cb4150a7c392e3161", func := "bobbin/bobbinlaw16.CodeLooks", spec := "codeLooks", inPlace := ["internal/bytealg.IndexByteString", "internal/bytealg.IndexString"], unfollowed := true, recurses := true, named := ["internal/bytealg.MaxLen", "unicode/utf8.first", "unicode/utf8.acceptRanges", "bobbin/step.bad"], apart := false, laid := [("unicode/utf8.acceptRanges", laid_unicode_utf8_acceptRanges), ("bobbin/step.bad", laid_bobbin_step_bad), ("unicode/utf8.first", laid_unicode_utf8_first)], narrowed := true }
def CodeLooksUptoSaid : Prop := codeLooksUptoRow.holds Tryd.pinned (OpenSpec.upto codeLooksSpec)

/-- 'bobbinlaw15.InferHoles', WHERE WHAT IT READS IS OF BULK AT MOST 1048576: true; the input reads as it did. -/
def inferHolesUptoRow : OpenClaim := { program := "ytgjfbalafdifgaadoor", sum := "c32fbb5168acb27220da971ac1f19bc4b5ec8574a5ab1b7cb4150a7c392e3161", func := "bobbin/bobbinlaw15.InferHoles", spec := "inferHoles", inPlace := ["internal/bytealg.IndexByteString", "internal/bytealg.IndexString"], unfollowed := true, recurses := true, named := ["internal/bytealg.MaxLen", "unicode/utf8.first", "unicode/utf8.acceptRanges", "bobbin/step.bad"], apart := false, laid := [("unicode/utf8.acceptRanges", laid_unicode_utf8_acceptRanges), ("bobbin/step.bad", laid_bobbin_step_bad), ("unicode/utf8.first", laid_unicode_utf8_first)], narrowed := true }
def InferHolesUptoSaid : Prop := inferHolesUptoRow.holds Tryd.pinned (OpenSpec.upto inferHolesSpec)

end Rows
end Go.Proofs.YtgjfbalafdifgaaDoor
