/-
  No cell of these rows narrows 'for every input' (looked for: loops, veiled, ifaces, maps, wideKeys, modest, calm, conditions, laid).
  DERIVED. THE GIVEN ROWS OF THIS SEAT. 9 by the template 'for every input the law returns true; each argument reads behind the call as it read before'; 0 by the template 'total and deterministic' (their statements: YtbnblklbfighgaaTotals.lean).
  GIVEN WITH THE SEED: the statements are not yours to turn. If you find one false, say at which input.
  Laid BY PROGRAM, IN A SANDBOX (cutbox-rows.mjs): the forced cells as the released guide's own fill.sh prints them over the translation 5ecf4a07d7b58382… (all of the seat's roots in one cut). By AI agents, Wed Nov 11 2026. No macro, syntax, notation, axiom, sorry.
-/
import Derived.Test.YtbnblklbfighgaaChecked
import GoSem.Claim
import GoSem.ClaimJoined
import GoSem.ClaimMapViews
import Derived.JoinedTies
import Derived.KernelRfl
namespace Go.Proofs.Ytbnblklbfighgaa
/- THE CELL 'sum', in the pinned program and in every row, IS THE sha256 OF THE DUMP (.gsa) THAT YtbnblklbfighgaaProg.lean LOADS. Nothing in Lean hashes anything: it is a label: what it is worth is what the hold of that sum in a sandbox is worth. -/
noncomputable def Try.pinned : Pinned := { name := "ytbnblklbfighgaa", sum := "5ecf4a07d7b58382a9d84fe05df9a0bf3bfa1bcb1afb5fa7de58aa6c64fe600e", checked := Try.checked }
namespace Rows
def none {H : Type} : Left H := { results := [], args := [] }

/-- 'bobbinlaw04.PercentUnits': WHATEVER THE INPUT: true; the input reads as it did. -/
def percentUnitsSpec : ChangeSpec := { name := "percentUnits", fn := fun _ => fun
  | [] => { results := [.lit (.bool true)], args := [] }
  | _ => none }
def percentUnitsRow : OpenClaim := { program := "ytbnblklbfighgaa", sum := "5ecf4a07d7b58382a9d84fe05df9a0bf3bfa1bcb1afb5fa7de58aa6c64fe600e", func := "bobbin/bobbinlaw04.PercentUnits", spec := "percentUnits", inPlace := ["internal/bytealg.IndexByteString"], apart := false }
def PercentUnitsSaid : Prop := percentUnitsRow.holds Try.pinned (OpenSpec.ofChange percentUnitsSpec)

/-- ITS FALSE NEIGHBOUR: 'it returns false'. Refute it at one input. -/
def percentUnitsWrong : ChangeSpec := { name := "percentUnits", fn := fun _ => fun
  | [] => { results := [.lit (.bool false)], args := [] }
  | _ => none }
def PercentUnitsWrongFalsely : Prop := percentUnitsRow.holds Try.pinned (OpenSpec.ofChange percentUnitsWrong)

/-- 'bobbinlaw04.PercentTexts': WHATEVER THE INPUT: true; the input reads as it did. -/
def percentTextsSpec : ChangeSpec := { name := "percentTexts", fn := fun _ => fun
  | [d] => { results := [.lit (.bool true)], args := [d] }
  | _ => none }
def percentTextsRow : OpenClaim := { program := "ytbnblklbfighgaa", sum := "5ecf4a07d7b58382a9d84fe05df9a0bf3bfa1bcb1afb5fa7de58aa6c64fe600e", func := "bobbin/bobbinlaw04.PercentTexts", spec := "percentTexts", inPlace := ["internal/bytealg.IndexByteString"], apart := false }
def PercentTextsSaid : Prop := percentTextsRow.holds Try.pinned (OpenSpec.ofChange percentTextsSpec)

/-- ITS FALSE NEIGHBOUR: 'it returns false'. Refute it at one input. -/
def percentTextsWrong : ChangeSpec := { name := "percentTexts", fn := fun _ => fun
  | [d] => { results := [.lit (.bool false)], args := [d] }
  | _ => none }
def PercentTextsWrongFalsely : Prop := percentTextsRow.holds Try.pinned (OpenSpec.ofChange percentTextsWrong)

/-- 'bobbinlaw04.PercentBack': WHATEVER THE INPUT: true; the input reads as it did. -/
def percentBackSpec : ChangeSpec := { name := "percentBack", fn := fun _ => fun
  | [d] => { results := [.lit (.bool true)], args := [d] }
  | _ => none }
def percentBackRow : OpenClaim := { program := "ytbnblklbfighgaa", sum := "5ecf4a07d7b58382a9d84fe05df9a0bf3bfa1bcb1afb5fa7de58aa6c64fe600e", func := "bobbin/bobbinlaw04.PercentBack", spec := "percentBack", inPlace := ["internal/bytealg.IndexByteString"], apart := false }
def PercentBackSaid : Prop := percentBackRow.holds Try.pinned (OpenSpec.ofChange percentBackSpec)

/-- ITS FALSE NEIGHBOUR: 'it returns false'. Refute it at one input. -/
def percentBackWrong : ChangeSpec := { name := "percentBack", fn := fun _ => fun
  | [d] => { results := [.lit (.bool false)], args := [d] }
  | _ => none }
def PercentBackWrongFalsely : Prop := percentBackRow.holds Try.pinned (OpenSpec.ofChange percentBackWrong)

/-- 'bobbinlaw04.PercentSettles': WHATEVER THE INPUT: true; the input reads as it did. -/
def percentSettlesSpec : ChangeSpec := { name := "percentSettles", fn := fun _ => fun
  | [d1, d2] => { results := [.lit (.bool true)], args := [d1, d2] }
  | _ => none }
def percentSettlesRow : OpenClaim := { program := "ytbnblklbfighgaa", sum := "5ecf4a07d7b58382a9d84fe05df9a0bf3bfa1bcb1afb5fa7de58aa6c64fe600e", func := "bobbin/bobbinlaw04.PercentSettles", spec := "percentSettles", inPlace := ["internal/bytealg.IndexByteString"], apart := false }
def PercentSettlesSaid : Prop := percentSettlesRow.holds Try.pinned (OpenSpec.ofChange percentSettlesSpec)

/-- ITS FALSE NEIGHBOUR: 'it returns false'. Refute it at one input. -/
def percentSettlesWrong : ChangeSpec := { name := "percentSettles", fn := fun _ => fun
  | [d1, d2] => { results := [.lit (.bool false)], args := [d1, d2] }
  | _ => none }
def PercentSettlesWrongFalsely : Prop := percentSettlesRow.holds Try.pinned (OpenSpec.ofChange percentSettlesWrong)

/-- 'bobbinlaw09.CtxForms': WHATEVER THE INPUT: true; the input reads as it did. -/
def ctxFormsSpec : ChangeSpec := { name := "ctxForms", fn := fun _ => fun
  | [d] => { results := [.lit (.bool true)], args := [d] }
  | _ => none }
def ctxFormsRow : OpenClaim := { program := "ytbnblklbfighgaa", sum := "5ecf4a07d7b58382a9d84fe05df9a0bf3bfa1bcb1afb5fa7de58aa6c64fe600e", func := "bobbin/bobbinlaw09.CtxForms", spec := "ctxForms", apart := false }
def CtxFormsSaid : Prop := ctxFormsRow.holds Try.pinned (OpenSpec.ofChange ctxFormsSpec)

/-- ITS FALSE NEIGHBOUR: 'it returns false'. Refute it at one input. -/
def ctxFormsWrong : ChangeSpec := { name := "ctxForms", fn := fun _ => fun
  | [d] => { results := [.lit (.bool false)], args := [d] }
  | _ => none }
def CtxFormsWrongFalsely : Prop := ctxFormsRow.holds Try.pinned (OpenSpec.ofChange ctxFormsWrong)

/-- 'bobbinlaw09.CtxOuter': WHATEVER THE INPUT: true; the input reads as it did. -/
def ctxOuterSpec : ChangeSpec := { name := "ctxOuter", fn := fun _ => fun
  | [d] => { results := [.lit (.bool true)], args := [d] }
  | _ => none }
def ctxOuterRow : OpenClaim := { program := "ytbnblklbfighgaa", sum := "5ecf4a07d7b58382a9d84fe05df9a0bf3bfa1bcb1afb5fa7de58aa6c64fe600e", func := "bobbin/bobbinlaw09.CtxOuter", spec := "ctxOuter", apart := false }
def CtxOuterSaid : Prop := ctxOuterRow.holds Try.pinned (OpenSpec.ofChange ctxOuterSpec)

/-- ITS FALSE NEIGHBOUR: 'it returns false'. Refute it at one input. -/
def ctxOuterWrong : ChangeSpec := { name := "ctxOuter", fn := fun _ => fun
  | [d] => { results := [.lit (.bool false)], args := [d] }
  | _ => none }
def CtxOuterWrongFalsely : Prop := ctxOuterRow.holds Try.pinned (OpenSpec.ofChange ctxOuterWrong)

/-- 'bobbinlaw09.CtxKeeps': WHATEVER THE INPUT: true; the input reads as it did. -/
def ctxKeepsSpec : ChangeSpec := { name := "ctxKeeps", fn := fun _ => fun
  | [d] => { results := [.lit (.bool true)], args := [d] }
  | _ => none }
def ctxKeepsRow : OpenClaim := { program := "ytbnblklbfighgaa", sum := "5ecf4a07d7b58382a9d84fe05df9a0bf3bfa1bcb1afb5fa7de58aa6c64fe600e", func := "bobbin/bobbinlaw09.CtxKeeps", spec := "ctxKeeps", apart := false }
def CtxKeepsSaid : Prop := ctxKeepsRow.holds Try.pinned (OpenSpec.ofChange ctxKeepsSpec)

/-- ITS FALSE NEIGHBOUR: 'it returns false'. Refute it at one input. -/
def ctxKeepsWrong : ChangeSpec := { name := "ctxKeeps", fn := fun _ => fun
  | [d] => { results := [.lit (.bool false)], args := [d] }
  | _ => none }
def CtxKeepsWrongFalsely : Prop := ctxKeepsRow.holds Try.pinned (OpenSpec.ofChange ctxKeepsWrong)

/-- 'bobbinlaw09.CtxHoles': WHATEVER THE INPUT: true; the input reads as it did. -/
def ctxHolesSpec : ChangeSpec := { name := "ctxHoles", fn := fun _ => fun
  | [d] => { results := [.lit (.bool true)], args := [d] }
  | _ => none }
def ctxHolesRow : OpenClaim := { program := "ytbnblklbfighgaa", sum := "5ecf4a07d7b58382a9d84fe05df9a0bf3bfa1bcb1afb5fa7de58aa6c64fe600e", func := "bobbin/bobbinlaw09.CtxHoles", spec := "ctxHoles", apart := false }
def CtxHolesSaid : Prop := ctxHolesRow.holds Try.pinned (OpenSpec.ofChange ctxHolesSpec)

/-- ITS FALSE NEIGHBOUR: 'it returns false'. Refute it at one input. -/
def ctxHolesWrong : ChangeSpec := { name := "ctxHoles", fn := fun _ => fun
  | [d] => { results := [.lit (.bool false)], args := [d] }
  | _ => none }
def CtxHolesWrongFalsely : Prop := ctxHolesRow.holds Try.pinned (OpenSpec.ofChange ctxHolesWrong)

/-- 'bobbinlaw09.CtxNames': WHATEVER THE INPUT: true; the input reads as it did. -/
def ctxNamesSpec : ChangeSpec := { name := "ctxNames", fn := fun _ => fun
  | [d1, d2] => { results := [.lit (.bool true)], args := [d1, d2] }
  | _ => none }
def ctxNamesRow : OpenClaim := { program := "ytbnblklbfighgaa", sum := "5ecf4a07d7b58382a9d84fe05df9a0bf3bfa1bcb1afb5fa7de58aa6c64fe600e", func := "bobbin/bobbinlaw09.CtxNames", spec := "ctxNames", apart := false }
def CtxNamesSaid : Prop := ctxNamesRow.holds Try.pinned (OpenSpec.ofChange ctxNamesSpec)

/-- ITS FALSE NEIGHBOUR: 'it returns false'. Refute it at one input. -/
def ctxNamesWrong : ChangeSpec := { name := "ctxNames", fn := fun _ => fun
  | [d1, d2] => { results := [.lit (.bool false)], args := [d1, d2] }
  | _ => none }
def CtxNamesWrongFalsely : Prop := ctxNamesRow.holds Try.pinned (OpenSpec.ofChange ctxNamesWrong)

/- THE SECOND FORM. 'bulk': how many values and letters a reading holds, each counted each time it is reached (what is shared counts as often as it is met; a slice's spare places count too). A statement '..UptoSaid' is the law's where the arguments, and the package variables that the reading takes, are together of bulk at most 1048576: NARROWER than '..Said'. Prove '..Said' where nothing that the law and all that it calls make is longer than what came in: it says more and counts as full. Else prove '..UptoSaid'. A law counts once. -/
mutual
def uptoBulk {H : Type} : DataW H → Nat
  | .lit (.string bytes) => bytes.length + 1
  | .lit _ => 1
  | .nil => 1
  | .ptr d => uptoBulk d + 1
  | .slice elems spare => uptoBulkAll elems + uptoBulkAll spare + 1
  | .agg parts => uptoBulkAll parts + 1
  | .iface _ d => uptoBulk d + 1
  | .map entries => uptoBulkEntries entries + 1
  | .held _ => 1
def uptoBulkAll {H : Type} : List (DataW H) → Nat
  | [] => 0
  | d :: r => uptoBulk d + uptoBulkAll r
def uptoBulkEntries {H : Type} : List (Lit × DataW H) → Nat
  | [] => 0
  | x :: r => uptoBulkEntry x + uptoBulkEntries r
def uptoBulkEntry {H : Type} : Lit × DataW H → Nat
  | (.string bytes, d) => bytes.length + uptoBulk d + 1
  | (_, d) => uptoBulk d + 1
 end
def uptoSmall : (H : Type) → List (DataW H) → Bool := fun _ ds => decide (uptoBulkAll ds ≤ 1048576)
def OpenSpec.upto (s : _root_.Go.ChangeSpec) : _root_.Go.OpenSpec := { _root_.Go.OpenSpec.ofChange s with cond := some uptoSmall }

/-- 'bobbinlaw04.PercentUnits', WHERE WHAT IT READS IS OF BULK AT MOST 1048576: true; the input reads as it did. -/
def percentUnitsUptoRow : OpenClaim := { program := "ytbnblklbfighgaa", sum := "5ecf4a07d7b58382a9d84fe05df9a0bf3bfa1bcb1afb5fa7de58aa6c64fe600e", func := "bobbin/bobbinlaw04.PercentUnits", spec := "percentUnits", inPlace := ["internal/bytealg.IndexByteString"], apart := false, narrowed := true }
def PercentUnitsUptoSaid : Prop := percentUnitsUptoRow.holds Try.pinned (OpenSpec.upto percentUnitsSpec)

/-- 'bobbinlaw04.PercentTexts', WHERE WHAT IT READS IS OF BULK AT MOST 1048576: true; the input reads as it did. -/
def percentTextsUptoRow : OpenClaim := { program := "ytbnblklbfighgaa", sum := "5ecf4a07d7b58382a9d84fe05df9a0bf3bfa1bcb1afb5fa7de58aa6c64fe600e", func := "bobbin/bobbinlaw04.PercentTexts", spec := "percentTexts", inPlace := ["internal/bytealg.IndexByteString"], apart := false, narrowed := true }
def PercentTextsUptoSaid : Prop := percentTextsUptoRow.holds Try.pinned (OpenSpec.upto percentTextsSpec)

/-- 'bobbinlaw04.PercentBack', WHERE WHAT IT READS IS OF BULK AT MOST 1048576: true; the input reads as it did. -/
def percentBackUptoRow : OpenClaim := { program := "ytbnblklbfighgaa", sum := "5ecf4a07d7b58382a9d84fe05df9a0bf3bfa1bcb1afb5fa7de58aa6c64fe600e", func := "bobbin/bobbinlaw04.PercentBack", spec := "percentBack", inPlace := ["internal/bytealg.IndexByteString"], apart := false, narrowed := true }
def PercentBackUptoSaid : Prop := percentBackUptoRow.holds Try.pinned (OpenSpec.upto percentBackSpec)

/-- 'bobbinlaw04.PercentSettles', WHERE WHAT IT READS IS OF BULK AT MOST 1048576: true; the input reads as it did. -/
def percentSettlesUptoRow : OpenClaim := { program := "ytbnblklbfighgaa", sum := "5ecf4a07d7b58382a9d84fe05df9a0bf3bfa1bcb1afb5fa7de58aa6c64fe600e", func := "bobbin/bobbinlaw04.PercentSettles", spec := "percentSettles", inPlace := ["internal/bytealg.IndexByteString"], apart := false, narrowed := true }
def PercentSettlesUptoSaid : Prop := percentSettlesUptoRow.holds Try.pinned (OpenSpec.upto percentSettlesSpec)

/-- 'bobbinlaw09.CtxForms', WHERE WHAT IT READS IS OF BULK AT MOST 1048576: true; the input reads as it did. -/
def ctxFormsUptoRow : OpenClaim := { program := "ytbnblklbfighgaa", sum := "5ecf4a07d7b58382a9d84fe05df9a0bf3bfa1bcb1afb5fa7de58aa6c64fe600e", func := "bobbin/bobbinlaw09.CtxForms", spec := "ctxForms", apart := false, narrowed := true }
def CtxFormsUptoSaid : Prop := ctxFormsUptoRow.holds Try.pinned (OpenSpec.upto ctxFormsSpec)

/-- 'bobbinlaw09.CtxOuter', WHERE WHAT IT READS IS OF BULK AT MOST 1048576: true; the input reads as it did. -/
def ctxOuterUptoRow : OpenClaim := { program := "ytbnblklbfighgaa", sum := "5ecf4a07d7b58382a9d84fe05df9a0bf3bfa1bcb1afb5fa7de58aa6c64fe600e", func := "bobbin/bobbinlaw09.CtxOuter", spec := "ctxOuter", apart := false, narrowed := true }
def CtxOuterUptoSaid : Prop := ctxOuterUptoRow.holds Try.pinned (OpenSpec.upto ctxOuterSpec)

/-- 'bobbinlaw09.CtxKeeps', WHERE WHAT IT READS IS OF BULK AT MOST 1048576: true; the input reads as it did. -/
def ctxKeepsUptoRow : OpenClaim := { program := "ytbnblklbfighgaa", sum := "5ecf4a07d7b58382a9d84fe05df9a0bf3bfa1bcb1afb5fa7de58aa6c64fe600e", func := "bobbin/bobbinlaw09.CtxKeeps", spec := "ctxKeeps", apart := false, narrowed := true }
def CtxKeepsUptoSaid : Prop := ctxKeepsUptoRow.holds Try.pinned (OpenSpec.upto ctxKeepsSpec)

/-- 'bobbinlaw09.CtxHoles', WHERE WHAT IT READS IS OF BULK AT MOST 1048576: true; the input reads as it did. -/
def ctxHolesUptoRow : OpenClaim := { program := "ytbnblklbfighgaa", sum := "5ecf4a07d7b58382a9d84fe05df9a0bf3bfa1bcb1afb5fa7de58aa6c64fe600e", func := "bobbin/bobbinlaw09.CtxHoles", spec := "ctxHoles", apart := false, narrowed := true }
def CtxHolesUptoSaid : Prop := ctxHolesUptoRow.holds Try.pinned (OpenSpec.upto ctxHolesSpec)

/-- 'bobbinlaw09.CtxNames', WHERE WHAT IT READS IS OF BULK AT MOST 1048576: true; the input reads as it did. -/
def ctxNamesUptoRow : OpenClaim := { program := "ytbnblklbfighgaa", sum := "5ecf4a07d7b58382a9d84fe05df9a0bf3bfa1bcb1afb5fa7de58aa6c64fe600e", func := "bobbin/bobbinlaw09.CtxNames", spec := "ctxNames", apart := false, narrowed := true }
def CtxNamesUptoSaid : Prop := ctxNamesUptoRow.holds Try.pinned (OpenSpec.upto ctxNamesSpec)

end Rows
end Go.Proofs.Ytbnblklbfighgaa
