/-
  NARROWER THAN 'FOR EVERY INPUT', by the rows' own cells (each row's printed sentence says how): StepBytes: laid · StepPlain: laid · StepTexts: laid · StepSplits: laid · StepInert: laid · StepTags: laid · StepAgrees: laid · StepFlats: laid · StepBad: laid · TrailerFors: laid · TrailerParts: laid · TrailerSettles: laid · TrailerFlat: laid · TrailerHoles: laid · TrailerEnds: laid.
  DERIVED. THE GIVEN ROWS OF THIS SEAT. 15 by the template 'for every input the law returns true; each argument reads behind the call as it read before'; 0 by the template 'total and deterministic' (their statements: YtcmpmpnjidjenaaDoorTotals.lean).
  GIVEN WITH THE SEED: the statements are not yours to turn. If you find one false, say at which input.
  Laid BY PROGRAM, IN A SANDBOX (cutbox-rows.mjs): the forced cells as the released guide's own fill.sh prints them over the translation 2023f231a5147373… (all of the seat's roots in one cut). By AI agents, Wed Nov 11 2026. No macro, syntax, notation, axiom, sorry.
-/
import Derived.Test.YtcmpmpnjidjenaaDoorChecked
import GoSem.Claim
import GoSem.ClaimJoined
import GoSem.ClaimMapViews
import Derived.JoinedTies
import Derived.KernelRfl
namespace Go.Proofs.YtcmpmpnjidjenaaDoor
/- THE CELL 'sum', in the pinned program and in every row, IS THE sha256 OF THE DUMP (.gsa) THAT YtcmpmpnjidjenaaDoorProg.lean LOADS. Nothing in Lean hashes anything: it is a label: what it is worth is what the hold of that sum in a sandbox is worth. -/
noncomputable def Tryd.pinned : Pinned := { name := "ytcmpmpnjidjenaadoor", sum := "2023f231a5147373e4b044b93c60083dbc677d5c80eca597eff8fbef32e19575", checked := Tryd.checked }
namespace Rows
def none {H : Type} : Left H := { results := [], args := [] }

/- WHAT THE LISTED PACKAGE-LEVEL VARIABLES READ AS WHEN THE CALL BEGINS. Each datum BY PROGRAM (the guide's laid-datum.mjs) off the statement by which the dump's own 'gosem.cut.vars' lays the variable. In a bare row this is a premise. The card (YtcmpmpnjidjenaaDoorCards.lean) ties it to the program's text. -/
def laid_bobbin_step_bad {H : Type} : DataW H := .agg [.lit (.int .u8 20), .lit (.int .u8 0), .lit (.bool false), .lit (.int .u8 0), .lit (.int .u8 0), .lit (.int .u8 0), .lit (.int .u8 0), .lit (.bool false), .lit (.int .u8 0), .lit (.string [])]

/-- 'bobbinlaw10.StepBytes': WHATEVER THE INPUT: true; the input reads as it did. -/
def stepBytesSpec : ChangeSpec := { name := "stepBytes", fn := fun _ => fun
  | [d1, d2] => { results := [.lit (.bool true)], args := [d1, d2] }
  | _ => none }
def stepBytesRow : OpenClaim := { program := "ytcmpmpnjidjenaadoor", sum := "2023f231a5147373e4b044b93c60083dbc677d5c80eca597eff8fbef32e19575", func := "bobbin/bobbinlaw10.StepBytes", spec := "stepBytes", inPlace := ["internal/bytealg.IndexByteString"], recurses := true, named := ["bobbin/step.bad"], apart := false, laid := [("bobbin/step.bad", laid_bobbin_step_bad)] }
def StepBytesSaid : Prop := stepBytesRow.holds Tryd.pinned (OpenSpec.ofChange stepBytesSpec)

/-- ITS FALSE NEIGHBOUR: 'it returns false'. Refute it at one input. -/
def stepBytesWrong : ChangeSpec := { name := "stepBytes", fn := fun _ => fun
  | [d1, d2] => { results := [.lit (.bool false)], args := [d1, d2] }
  | _ => none }
def StepBytesWrongFalsely : Prop := stepBytesRow.holds Tryd.pinned (OpenSpec.ofChange stepBytesWrong)

/-- 'bobbinlaw10.StepPlain': WHATEVER THE INPUT: true; the input reads as it did. -/
def stepPlainSpec : ChangeSpec := { name := "stepPlain", fn := fun _ => fun
  | [d] => { results := [.lit (.bool true)], args := [d] }
  | _ => none }
def stepPlainRow : OpenClaim := { program := "ytcmpmpnjidjenaadoor", sum := "2023f231a5147373e4b044b93c60083dbc677d5c80eca597eff8fbef32e19575", func := "bobbin/bobbinlaw10.StepPlain", spec := "stepPlain", inPlace := ["internal/bytealg.IndexByteString"], recurses := true, named := ["bobbin/step.bad"], apart := false, laid := [("bobbin/step.bad", laid_bobbin_step_bad)] }
def StepPlainSaid : Prop := stepPlainRow.holds Tryd.pinned (OpenSpec.ofChange stepPlainSpec)

/-- ITS FALSE NEIGHBOUR: 'it returns false'. Refute it at one input. -/
def stepPlainWrong : ChangeSpec := { name := "stepPlain", fn := fun _ => fun
  | [d] => { results := [.lit (.bool false)], args := [d] }
  | _ => none }
def StepPlainWrongFalsely : Prop := stepPlainRow.holds Tryd.pinned (OpenSpec.ofChange stepPlainWrong)

/-- 'bobbinlaw10.StepTexts': WHATEVER THE INPUT: true; the input reads as it did. -/
def stepTextsSpec : ChangeSpec := { name := "stepTexts", fn := fun _ => fun
  | [d1, d2] => { results := [.lit (.bool true)], args := [d1, d2] }
  | _ => none }
def stepTextsRow : OpenClaim := { program := "ytcmpmpnjidjenaadoor", sum := "2023f231a5147373e4b044b93c60083dbc677d5c80eca597eff8fbef32e19575", func := "bobbin/bobbinlaw10.StepTexts", spec := "stepTexts", inPlace := ["internal/bytealg.IndexByteString"], unfollowed := true, recurses := true, named := ["bobbin/step.bad"], apart := false, laid := [("bobbin/step.bad", laid_bobbin_step_bad)] }
def StepTextsSaid : Prop := stepTextsRow.holds Tryd.pinned (OpenSpec.ofChange stepTextsSpec)

/-- ITS FALSE NEIGHBOUR: 'it returns false'. Refute it at one input. -/
def stepTextsWrong : ChangeSpec := { name := "stepTexts", fn := fun _ => fun
  | [d1, d2] => { results := [.lit (.bool false)], args := [d1, d2] }
  | _ => none }
def StepTextsWrongFalsely : Prop := stepTextsRow.holds Tryd.pinned (OpenSpec.ofChange stepTextsWrong)

/-- 'bobbinlaw10.StepSplits': WHATEVER THE INPUT: true; the input reads as it did. -/
def stepSplitsSpec : ChangeSpec := { name := "stepSplits", fn := fun _ => fun
  | [d1, d2, d3] => { results := [.lit (.bool true)], args := [d1, d2, d3] }
  | _ => none }
def stepSplitsRow : OpenClaim := { program := "ytcmpmpnjidjenaadoor", sum := "2023f231a5147373e4b044b93c60083dbc677d5c80eca597eff8fbef32e19575", func := "bobbin/bobbinlaw10.StepSplits", spec := "stepSplits", inPlace := ["internal/bytealg.IndexByteString"], unfollowed := true, recurses := true, named := ["bobbin/step.bad"], apart := false, laid := [("bobbin/step.bad", laid_bobbin_step_bad)] }
def StepSplitsSaid : Prop := stepSplitsRow.holds Tryd.pinned (OpenSpec.ofChange stepSplitsSpec)

/-- ITS FALSE NEIGHBOUR: 'it returns false'. Refute it at one input. -/
def stepSplitsWrong : ChangeSpec := { name := "stepSplits", fn := fun _ => fun
  | [d1, d2, d3] => { results := [.lit (.bool false)], args := [d1, d2, d3] }
  | _ => none }
def StepSplitsWrongFalsely : Prop := stepSplitsRow.holds Tryd.pinned (OpenSpec.ofChange stepSplitsWrong)

/-- 'bobbinlaw10.StepInert': WHATEVER THE INPUT: true; the input reads as it did. -/
def stepInertSpec : ChangeSpec := { name := "stepInert", fn := fun _ => fun
  | [d1, d2] => { results := [.lit (.bool true)], args := [d1, d2] }
  | _ => none }
def stepInertRow : OpenClaim := { program := "ytcmpmpnjidjenaadoor", sum := "2023f231a5147373e4b044b93c60083dbc677d5c80eca597eff8fbef32e19575", func := "bobbin/bobbinlaw10.StepInert", spec := "stepInert", inPlace := ["internal/bytealg.IndexByteString"], unfollowed := true, recurses := true, named := ["bobbin/step.bad"], apart := false, laid := [("bobbin/step.bad", laid_bobbin_step_bad)] }
def StepInertSaid : Prop := stepInertRow.holds Tryd.pinned (OpenSpec.ofChange stepInertSpec)

/-- ITS FALSE NEIGHBOUR: 'it returns false'. Refute it at one input. -/
def stepInertWrong : ChangeSpec := { name := "stepInert", fn := fun _ => fun
  | [d1, d2] => { results := [.lit (.bool false)], args := [d1, d2] }
  | _ => none }
def StepInertWrongFalsely : Prop := stepInertRow.holds Tryd.pinned (OpenSpec.ofChange stepInertWrong)

/-- 'bobbinlaw10.StepTags': WHATEVER THE INPUT: true; the input reads as it did. -/
def stepTagsSpec : ChangeSpec := { name := "stepTags", fn := fun _ => fun
  | [d1, d2] => { results := [.lit (.bool true)], args := [d1, d2] }
  | _ => none }
def stepTagsRow : OpenClaim := { program := "ytcmpmpnjidjenaadoor", sum := "2023f231a5147373e4b044b93c60083dbc677d5c80eca597eff8fbef32e19575", func := "bobbin/bobbinlaw10.StepTags", spec := "stepTags", inPlace := ["internal/bytealg.IndexByteString"], unfollowed := true, recurses := true, named := ["bobbin/step.bad"], apart := false, laid := [("bobbin/step.bad", laid_bobbin_step_bad)] }
def StepTagsSaid : Prop := stepTagsRow.holds Tryd.pinned (OpenSpec.ofChange stepTagsSpec)

/-- ITS FALSE NEIGHBOUR: 'it returns false'. Refute it at one input. -/
def stepTagsWrong : ChangeSpec := { name := "stepTags", fn := fun _ => fun
  | [d1, d2] => { results := [.lit (.bool false)], args := [d1, d2] }
  | _ => none }
def StepTagsWrongFalsely : Prop := stepTagsRow.holds Tryd.pinned (OpenSpec.ofChange stepTagsWrong)

/-- 'bobbinlaw10.StepAgrees': WHATEVER THE INPUT: true; the input reads as it did. -/
def stepAgreesSpec : ChangeSpec := { name := "stepAgrees", fn := fun _ => fun
  | [d] => { results := [.lit (.bool true)], args := [d] }
  | _ => none }
def stepAgreesRow : OpenClaim := { program := "ytcmpmpnjidjenaadoor", sum := "2023f231a5147373e4b044b93c60083dbc677d5c80eca597eff8fbef32e19575", func := "bobbin/bobbinlaw10.StepAgrees", spec := "stepAgrees", inPlace := ["internal/bytealg.IndexByteString"], recurses := true, named := ["bobbin/step.bad"], apart := false, laid := [("bobbin/step.bad", laid_bobbin_step_bad)] }
def StepAgreesSaid : Prop := stepAgreesRow.holds Tryd.pinned (OpenSpec.ofChange stepAgreesSpec)

/-- ITS FALSE NEIGHBOUR: 'it returns false'. Refute it at one input. -/
def stepAgreesWrong : ChangeSpec := { name := "stepAgrees", fn := fun _ => fun
  | [d] => { results := [.lit (.bool false)], args := [d] }
  | _ => none }
def StepAgreesWrongFalsely : Prop := stepAgreesRow.holds Tryd.pinned (OpenSpec.ofChange stepAgreesWrong)

/-- 'bobbinlaw10.StepFlats': WHATEVER THE INPUT: true; the input reads as it did. -/
def stepFlatsSpec : ChangeSpec := { name := "stepFlats", fn := fun _ => fun
  | [d1, d2] => { results := [.lit (.bool true)], args := [d1, d2] }
  | _ => none }
def stepFlatsRow : OpenClaim := { program := "ytcmpmpnjidjenaadoor", sum := "2023f231a5147373e4b044b93c60083dbc677d5c80eca597eff8fbef32e19575", func := "bobbin/bobbinlaw10.StepFlats", spec := "stepFlats", inPlace := ["internal/bytealg.IndexByteString"], unfollowed := true, recurses := true, named := ["bobbin/step.bad"], apart := false, laid := [("bobbin/step.bad", laid_bobbin_step_bad)] }
def StepFlatsSaid : Prop := stepFlatsRow.holds Tryd.pinned (OpenSpec.ofChange stepFlatsSpec)

/-- ITS FALSE NEIGHBOUR: 'it returns false'. Refute it at one input. -/
def stepFlatsWrong : ChangeSpec := { name := "stepFlats", fn := fun _ => fun
  | [d1, d2] => { results := [.lit (.bool false)], args := [d1, d2] }
  | _ => none }
def StepFlatsWrongFalsely : Prop := stepFlatsRow.holds Tryd.pinned (OpenSpec.ofChange stepFlatsWrong)

/-- 'bobbinlaw10.StepBad': WHATEVER THE INPUT: true; the input reads as it did. -/
def stepBadSpec : ChangeSpec := { name := "stepBad", fn := fun _ => fun
  | [d1, d2] => { results := [.lit (.bool true)], args := [d1, d2] }
  | _ => none }
def stepBadRow : OpenClaim := { program := "ytcmpmpnjidjenaadoor", sum := "2023f231a5147373e4b044b93c60083dbc677d5c80eca597eff8fbef32e19575", func := "bobbin/bobbinlaw10.StepBad", spec := "stepBad", inPlace := ["internal/bytealg.IndexByteString"], unfollowed := true, recurses := true, named := ["bobbin/step.bad"], apart := false, laid := [("bobbin/step.bad", laid_bobbin_step_bad)] }
def StepBadSaid : Prop := stepBadRow.holds Tryd.pinned (OpenSpec.ofChange stepBadSpec)

/-- ITS FALSE NEIGHBOUR: 'it returns false'. Refute it at one input. -/
def stepBadWrong : ChangeSpec := { name := "stepBad", fn := fun _ => fun
  | [d1, d2] => { results := [.lit (.bool false)], args := [d1, d2] }
  | _ => none }
def StepBadWrongFalsely : Prop := stepBadRow.holds Tryd.pinned (OpenSpec.ofChange stepBadWrong)

/-- 'bobbinlaw12.TrailerFors': WHATEVER THE INPUT: true; the input reads as it did. -/
def trailerForsSpec : ChangeSpec := { name := "trailerFors", fn := fun _ => fun
  | [d] => { results := [.lit (.bool true)], args := [d] }
  | _ => none }
def trailerForsRow : OpenClaim := { program := "ytcmpmpnjidjenaadoor", sum := "2023f231a5147373e4b044b93c60083dbc677d5c80eca597eff8fbef32e19575", func := "bobbin/bobbinlaw12.TrailerFors", spec := "trailerFors", inPlace := ["internal/bytealg.IndexByteString"], unfollowed := true, recurses := true, named := ["bobbin/step.bad"], apart := false, laid := [("bobbin/step.bad", laid_bobbin_step_bad)] }
def TrailerForsSaid : Prop := trailerForsRow.holds Tryd.pinned (OpenSpec.ofChange trailerForsSpec)

/-- ITS FALSE NEIGHBOUR: 'it returns false'. Refute it at one input. -/
def trailerForsWrong : ChangeSpec := { name := "trailerFors", fn := fun _ => fun
  | [d] => { results := [.lit (.bool false)], args := [d] }
  | _ => none }
def TrailerForsWrongFalsely : Prop := trailerForsRow.holds Tryd.pinned (OpenSpec.ofChange trailerForsWrong)

/-- 'bobbinlaw12.TrailerParts': WHATEVER THE INPUT: true; the input reads as it did. -/
def trailerPartsSpec : ChangeSpec := { name := "trailerParts", fn := fun _ => fun
  | [d] => { results := [.lit (.bool true)], args := [d] }
  | _ => none }
def trailerPartsRow : OpenClaim := { program := "ytcmpmpnjidjenaadoor", sum := "2023f231a5147373e4b044b93c60083dbc677d5c80eca597eff8fbef32e19575", func := "bobbin/bobbinlaw12.TrailerParts", spec := "trailerParts", inPlace := ["internal/bytealg.IndexByteString"], unfollowed := true, recurses := true, named := ["bobbin/step.bad"], apart := false, laid := [("bobbin/step.bad", laid_bobbin_step_bad)] }
def TrailerPartsSaid : Prop := trailerPartsRow.holds Tryd.pinned (OpenSpec.ofChange trailerPartsSpec)

/-- ITS FALSE NEIGHBOUR: 'it returns false'. Refute it at one input. -/
def trailerPartsWrong : ChangeSpec := { name := "trailerParts", fn := fun _ => fun
  | [d] => { results := [.lit (.bool false)], args := [d] }
  | _ => none }
def TrailerPartsWrongFalsely : Prop := trailerPartsRow.holds Tryd.pinned (OpenSpec.ofChange trailerPartsWrong)

/-- 'bobbinlaw12.TrailerSettles': WHATEVER THE INPUT: true; the input reads as it did. -/
def trailerSettlesSpec : ChangeSpec := { name := "trailerSettles", fn := fun _ => fun
  | [d] => { results := [.lit (.bool true)], args := [d] }
  | _ => none }
def trailerSettlesRow : OpenClaim := { program := "ytcmpmpnjidjenaadoor", sum := "2023f231a5147373e4b044b93c60083dbc677d5c80eca597eff8fbef32e19575", func := "bobbin/bobbinlaw12.TrailerSettles", spec := "trailerSettles", inPlace := ["internal/bytealg.IndexByteString"], unfollowed := true, recurses := true, named := ["bobbin/step.bad"], apart := false, laid := [("bobbin/step.bad", laid_bobbin_step_bad)] }
def TrailerSettlesSaid : Prop := trailerSettlesRow.holds Tryd.pinned (OpenSpec.ofChange trailerSettlesSpec)

/-- ITS FALSE NEIGHBOUR: 'it returns false'. Refute it at one input. -/
def trailerSettlesWrong : ChangeSpec := { name := "trailerSettles", fn := fun _ => fun
  | [d] => { results := [.lit (.bool false)], args := [d] }
  | _ => none }
def TrailerSettlesWrongFalsely : Prop := trailerSettlesRow.holds Tryd.pinned (OpenSpec.ofChange trailerSettlesWrong)

/-- 'bobbinlaw12.TrailerFlat': WHATEVER THE INPUT: true; the input reads as it did. -/
def trailerFlatSpec : ChangeSpec := { name := "trailerFlat", fn := fun _ => fun
  | [d] => { results := [.lit (.bool true)], args := [d] }
  | _ => none }
def trailerFlatRow : OpenClaim := { program := "ytcmpmpnjidjenaadoor", sum := "2023f231a5147373e4b044b93c60083dbc677d5c80eca597eff8fbef32e19575", func := "bobbin/bobbinlaw12.TrailerFlat", spec := "trailerFlat", inPlace := ["internal/bytealg.IndexByteString"], unfollowed := true, recurses := true, named := ["bobbin/step.bad"], apart := false, laid := [("bobbin/step.bad", laid_bobbin_step_bad)] }
def TrailerFlatSaid : Prop := trailerFlatRow.holds Tryd.pinned (OpenSpec.ofChange trailerFlatSpec)

/-- ITS FALSE NEIGHBOUR: 'it returns false'. Refute it at one input. -/
def trailerFlatWrong : ChangeSpec := { name := "trailerFlat", fn := fun _ => fun
  | [d] => { results := [.lit (.bool false)], args := [d] }
  | _ => none }
def TrailerFlatWrongFalsely : Prop := trailerFlatRow.holds Tryd.pinned (OpenSpec.ofChange trailerFlatWrong)

/-- 'bobbinlaw12.TrailerHoles': WHATEVER THE INPUT: true; the input reads as it did. -/
def trailerHolesSpec : ChangeSpec := { name := "trailerHoles", fn := fun _ => fun
  | [d] => { results := [.lit (.bool true)], args := [d] }
  | _ => none }
def trailerHolesRow : OpenClaim := { program := "ytcmpmpnjidjenaadoor", sum := "2023f231a5147373e4b044b93c60083dbc677d5c80eca597eff8fbef32e19575", func := "bobbin/bobbinlaw12.TrailerHoles", spec := "trailerHoles", inPlace := ["internal/bytealg.IndexByteString"], unfollowed := true, recurses := true, named := ["bobbin/step.bad"], apart := false, laid := [("bobbin/step.bad", laid_bobbin_step_bad)] }
def TrailerHolesSaid : Prop := trailerHolesRow.holds Tryd.pinned (OpenSpec.ofChange trailerHolesSpec)

/-- ITS FALSE NEIGHBOUR: 'it returns false'. Refute it at one input. -/
def trailerHolesWrong : ChangeSpec := { name := "trailerHoles", fn := fun _ => fun
  | [d] => { results := [.lit (.bool false)], args := [d] }
  | _ => none }
def TrailerHolesWrongFalsely : Prop := trailerHolesRow.holds Tryd.pinned (OpenSpec.ofChange trailerHolesWrong)

/-- 'bobbinlaw12.TrailerEnds': WHATEVER THE INPUT: true; the input reads as it did. -/
def trailerEndsSpec : ChangeSpec := { name := "trailerEnds", fn := fun _ => fun
  | [d] => { results := [.lit (.bool true)], args := [d] }
  | _ => none }
def trailerEndsRow : OpenClaim := { program := "ytcmpmpnjidjenaadoor", sum := "2023f231a5147373e4b044b93c60083dbc677d5c80eca597eff8fbef32e19575", func := "bobbin/bobbinlaw12.TrailerEnds", spec := "trailerEnds", inPlace := ["internal/bytealg.IndexByteString"], unfollowed := true, recurses := true, named := ["bobbin/step.bad"], apart := false, laid := [("bobbin/step.bad", laid_bobbin_step_bad)] }
def TrailerEndsSaid : Prop := trailerEndsRow.holds Tryd.pinned (OpenSpec.ofChange trailerEndsSpec)

/-- ITS FALSE NEIGHBOUR: 'it returns false'. Refute it at one input. -/
def trailerEndsWrong : ChangeSpec := { name := "trailerEnds", fn := fun _ => fun
  | [d] => { results := [.lit (.bool false)], args := [d] }
  | _ => none }
def TrailerEndsWrongFalsely : Prop := trailerEndsRow.holds Tryd.pinned (OpenSpec.ofChange trailerEndsWrong)

/- THE SECOND FORM. 'bulk': how many values and letters a reading holds, each counted each time it is reached (what is shared counts as often as it is met; a slice's spare places count too). A statement '..UptoSaid' is the law's where the arguments, and the package variables that the reading takes, are together of bulk at most 1048576: NARROWER than '..Said'. Prove '..Said' where nothing that the law and all that it calls make is longer than what came in: it says more and counts as full. Else prove '..UptoSaid'. A law counts once. -/
mutual
def uptoBulk {H : Type} : DataW H → Nat
  | .lit (.string bytes) => bytes.length + 1
  | .lit _ => 1
  | .nil => 1
  | .ptr d => uptoBulk d + 1
  | .slice elems spare => uptoBulkAll elems + uptoBulkAll spare + 1
  | .agg parts => uptoBulkAll parts + 1
  | .iface _ d => uptoBulk d + 1
  | .map entries => uptoBulkEntries entries + 1
  | .held _ => 1
def uptoBulkAll {H : Type} : List (DataW H) → Nat
  | [] => 0
  | d :: r => uptoBulk d + uptoBulkAll r
def uptoBulkEntries {H : Type} : List (Lit × DataW H) → Nat
  | [] => 0
  | x :: r => uptoBulkEntry x + uptoBulkEntries r
def uptoBulkEntry {H : Type} : Lit × DataW H → Nat
  | (.string bytes, d) => bytes.length + uptoBulk d + 1
  | (_, d) => uptoBulk d + 1
 end
def uptoSmall : (H : Type) → List (DataW H) → Bool := fun _ ds => decide (uptoBulkAll ds ≤ 1048576)
def OpenSpec.upto (s : _root_.Go.ChangeSpec) : _root_.Go.OpenSpec := { _root_.Go.OpenSpec.ofChange s with cond := some uptoSmall }

/-- 'bobbinlaw10.StepBytes', WHERE WHAT IT READS IS OF BULK AT MOST 1048576: true; the input reads as it did. -/
def stepBytesUptoRow : OpenClaim := { program := "ytcmpmpnjidjenaadoor", sum := "2023f231a5147373e4b044b93c60083dbc677d5c80eca597eff8fbef32e19575", func := "bobbin/bobbinlaw10.StepBytes", spec := "stepBytes", inPlace := ["internal/bytealg.IndexByteString"], recurses := true, named := ["bobbin/step.bad"], apart := false, laid := [("bobbin/step.bad", laid_bobbin_step_bad)], narrowed := true }
def StepBytesUptoSaid : Prop := stepBytesUptoRow.holds Tryd.pinned (OpenSpec.upto stepBytesSpec)

/-- 'bobbinlaw10.StepPlain', WHERE WHAT IT READS IS OF BULK AT MOST 1048576: true; the input reads as it did. -/
def stepPlainUptoRow : OpenClaim := { program := "ytcmpmpnjidjenaadoor", sum := "2023f231a5147373e4b044b93c60083dbc677d5c80eca597eff8fbef32e19575", func := "bobbin/bobbinlaw10.StepPlain", spec := "stepPlain", inPlace := ["internal/bytealg.IndexByteString"], recurses := true, named := ["bobbin/step.bad"], apart := false, laid := [("bobbin/step.bad", laid_bobbin_step_bad)], narrowed := true }
def StepPlainUptoSaid : Prop := stepPlainUptoRow.holds Tryd.pinned (OpenSpec.upto stepPlainSpec)

/-- 'bobbinlaw10.StepTexts', WHERE WHAT IT READS IS OF BULK AT MOST 1048576: true; the input reads as it did. -/
def stepTextsUptoRow : OpenClaim := { program := "ytcmpmpnjidjenaadoor", sum := "2023f231a5147373e4b044b93c60083dbc677d5c80eca597eff8fbef32e19575", func := "bobbin/bobbinlaw10.StepTexts", spec := "stepTexts", inPlace := ["internal/bytealg.IndexByteString"], unfollowed := true, recurses := true, named := ["bobbin/step.bad"], apart := false, laid := [("bobbin/step.bad", laid_bobbin_step_bad)], narrowed := true }
def StepTextsUptoSaid : Prop := stepTextsUptoRow.holds Tryd.pinned (OpenSpec.upto stepTextsSpec)

/-- 'bobbinlaw10.StepSplits', WHERE WHAT IT READS IS OF BULK AT MOST 1048576: true; the input reads as it did. -/
def stepSplitsUptoRow : OpenClaim := { program := "ytcmpmpnjidjenaadoor", sum := "2023f231a5147373e4b044b93c60083dbc677d5c80eca597eff8fbef32e19575", func := "bobbin/bobbinlaw10.StepSplits", spec := "stepSplits", inPlace := ["internal/bytealg.IndexByteString"], unfollowed := true, recurses := true, named := ["bobbin/step.bad"], apart := false, laid := [("bobbin/step.bad", laid_bobbin_step_bad)], narrowed := true }
def StepSplitsUptoSaid : Prop := stepSplitsUptoRow.holds Tryd.pinned (OpenSpec.upto stepSplitsSpec)

/-- 'bobbinlaw10.StepInert', WHERE WHAT IT READS IS OF BULK AT MOST 1048576: true; the input reads as it did. -/
def stepInertUptoRow : OpenClaim := { program := "ytcmpmpnjidjenaadoor", sum := "2023f231a5147373e4b044b93c60083dbc677d5c80eca597eff8fbef32e19575", func := "bobbin/bobbinlaw10.StepInert", spec := "stepInert", inPlace := ["internal/bytealg.IndexByteString"], unfollowed := true, recurses := true, named := ["bobbin/step.bad"], apart := false, laid := [("bobbin/step.bad", laid_bobbin_step_bad)], narrowed := true }
def StepInertUptoSaid : Prop := stepInertUptoRow.holds Tryd.pinned (OpenSpec.upto stepInertSpec)

/-- 'bobbinlaw10.StepTags', WHERE WHAT IT READS IS OF BULK AT MOST 1048576: true; the input reads as it did. -/
def stepTagsUptoRow : OpenClaim := { program := "ytcmpmpnjidjenaadoor", sum := "2023f231a5147373e4b044b93c60083dbc677d5c80eca597eff8fbef32e19575", func := "bobbin/bobbinlaw10.StepTags", spec := "stepTags", inPlace := ["internal/bytealg.IndexByteString"], unfollowed := true, recurses := true, named := ["bobbin/step.bad"], apart := false, laid := [("bobbin/step.bad", laid_bobbin_step_bad)], narrowed := true }
def StepTagsUptoSaid : Prop := stepTagsUptoRow.holds Tryd.pinned (OpenSpec.upto stepTagsSpec)

/-- 'bobbinlaw10.StepAgrees', WHERE WHAT IT READS IS OF BULK AT MOST 1048576: true; the input reads as it did. -/
def stepAgreesUptoRow : OpenClaim := { program := "ytcmpmpnjidjenaadoor", sum := "2023f231a5147373e4b044b93c60083dbc677d5c80eca597eff8fbef32e19575", func := "bobbin/bobbinlaw10.StepAgrees", spec := "stepAgrees", inPlace := ["internal/bytealg.IndexByteString"], recurses := true, named := ["bobbin/step.bad"], apart := false, laid := [("bobbin/step.bad", laid_bobbin_step_bad)], narrowed := true }
def StepAgreesUptoSaid : Prop := stepAgreesUptoRow.holds Tryd.pinned (OpenSpec.upto stepAgreesSpec)

/-- 'bobbinlaw10.StepFlats', WHERE WHAT IT READS IS OF BULK AT MOST 1048576: true; the input reads as it did. -/
def stepFlatsUptoRow : OpenClaim := { program := "ytcmpmpnjidjenaadoor", sum := "2023f231a5147373e4b044b93c60083dbc677d5c80eca597eff8fbef32e19575", func := "bobbin/bobbinlaw10.StepFlats", spec := "stepFlats", inPlace := ["internal/bytealg.IndexByteString"], unfollowed := true, recurses := true, named := ["bobbin/step.bad"], apart := false, laid := [("bobbin/step.bad", laid_bobbin_step_bad)], narrowed := true }
def StepFlatsUptoSaid : Prop := stepFlatsUptoRow.holds Tryd.pinned (OpenSpec.upto stepFlatsSpec)

/-- 'bobbinlaw10.StepBad', WHERE WHAT IT READS IS OF BULK AT MOST 1048576: true; the input reads as it did. -/
def stepBadUptoRow : OpenClaim := { program := "ytcmpmpnjidjenaadoor", sum := "2023f231a5147373e4b044b93c60083dbc677d5c80eca597eff8fbef32e19575", func := "bobbin/bobbinlaw10.StepBad", spec := "stepBad", inPlace := ["internal/bytealg.IndexByteString"], unfollowed := true, recurses := true, named := ["bobbin/step.bad"], apart := false, laid := [("bobbin/step.bad", laid_bobbin_step_bad)], narrowed := true }
def StepBadUptoSaid : Prop := stepBadUptoRow.holds Tryd.pinned (OpenSpec.upto stepBadSpec)

/-- 'bobbinlaw12.TrailerFors', WHERE WHAT IT READS IS OF BULK AT MOST 1048576: true; the input reads as it did. -/
def trailerForsUptoRow : OpenClaim := { program := "ytcmpmpnjidjenaadoor", sum := "2023f231a5147373e4b044b93c60083dbc677d5c80eca597eff8fbef32e19575", func := "bobbin/bobbinlaw12.TrailerFors", spec := "trailerFors", inPlace := ["internal/bytealg.IndexByteString"], unfollowed := true, recurses := true, named := ["bobbin/step.bad"], apart := false, laid := [("bobbin/step.bad", laid_bobbin_step_bad)], narrowed := true }
def TrailerForsUptoSaid : Prop := trailerForsUptoRow.holds Tryd.pinned (OpenSpec.upto trailerForsSpec)

/-- 'bobbinlaw12.TrailerParts', WHERE WHAT IT READS IS OF BULK AT MOST 1048576: true; the input reads as it did. -/
def trailerPartsUptoRow : OpenClaim := { program := "ytcmpmpnjidjenaadoor", sum := "2023f231a5147373e4b044b93c60083dbc677d5c80eca597eff8fbef32e19575", func := "bobbin/bobbinlaw12.TrailerParts", spec := "trailerParts", inPlace := ["internal/bytealg.IndexByteString"], unfollowed := true, recurses := true, named := ["bobbin/step.bad"], apart := false, laid := [("bobbin/step.bad", laid_bobbin_step_bad)], narrowed := true }
def TrailerPartsUptoSaid : Prop := trailerPartsUptoRow.holds Tryd.pinned (OpenSpec.upto trailerPartsSpec)

/-- 'bobbinlaw12.TrailerSettles', WHERE WHAT IT READS IS OF BULK AT MOST 1048576: true; the input reads as it did. -/
def trailerSettlesUptoRow : OpenClaim := { program := "ytcmpmpnjidjenaadoor", sum := "2023f231a5147373e4b044b93c60083dbc677d5c80eca597eff8fbef32e19575", func := "bobbin/bobbinlaw12.TrailerSettles", spec := "trailerSettles", inPlace := ["internal/bytealg.IndexByteString"], unfollowed := true, recurses := true, named := ["bobbin/step.bad"], apart := false, laid := [("bobbin/step.bad", laid_bobbin_step_bad)], narrowed := true }
def TrailerSettlesUptoSaid : Prop := trailerSettlesUptoRow.holds Tryd.pinned (OpenSpec.upto trailerSettlesSpec)

/-- 'bobbinlaw12.TrailerFlat', WHERE WHAT IT READS IS OF BULK AT MOST 1048576: true; the input reads as it did. -/
def trailerFlatUptoRow : OpenClaim := { program := "ytcmpmpnjidjenaadoor", sum := "2023f231a5147373e4b044b93c60083dbc677d5c80eca597eff8fbef32e19575", func := "bobbin/bobbinlaw12.TrailerFlat", spec := "trailerFlat", inPlace := ["internal/bytealg.IndexByteString"], unfollowed := true, recurses := true, named := ["bobbin/step.bad"], apart := false, laid := [("bobbin/step.bad", laid_bobbin_step_bad)], narrowed := true }
def TrailerFlatUptoSaid : Prop := trailerFlatUptoRow.holds Tryd.pinned (OpenSpec.upto trailerFlatSpec)

/-- 'bobbinlaw12.TrailerHoles', WHERE WHAT IT READS IS OF BULK AT MOST 1048576: true; the input reads as it did. -/
def trailerHolesUptoRow : OpenClaim := { program := "ytcmpmpnjidjenaadoor", sum := "2023f231a5147373e4b044b93c60083dbc677d5c80eca597eff8fbef32e19575", func := "bobbin/bobbinlaw12.TrailerHoles", spec := "trailerHoles", inPlace := ["internal/bytealg.IndexByteString"], unfollowed := true, recurses := true, named := ["bobbin/step.bad"], apart := false, laid := [("bobbin/step.bad", laid_bobbin_step_bad)], narrowed := true }
def TrailerHolesUptoSaid : Prop := trailerHolesUptoRow.holds Tryd.pinned (OpenSpec.upto trailerHolesSpec)

/-- 'bobbinlaw12.TrailerEnds', WHERE WHAT IT READS IS OF BULK AT MOST 1048576: true; the input reads as it did. -/
def trailerEndsUptoRow : OpenClaim := { program := "ytcmpmpnjidjenaadoor", sum := "2023f231a5147373e4b044b93c60083dbc677d5c80eca597eff8fbef32e19575", func := "bobbin/bobbinlaw12.TrailerEnds", spec := "trailerEnds", inPlace := ["internal/bytealg.IndexByteString"], unfollowed := true, recurses := true, named := ["bobbin/step.bad"], apart := false, laid := [("bobbin/step.bad", laid_bobbin_step_bad)], narrowed := true }
def TrailerEndsUptoSaid : Prop := trailerEndsUptoRow.holds Tryd.pinned (OpenSpec.upto trailerEndsSpec)

end Rows
end Go.Proofs.YtcmpmpnjidjenaaDoor
