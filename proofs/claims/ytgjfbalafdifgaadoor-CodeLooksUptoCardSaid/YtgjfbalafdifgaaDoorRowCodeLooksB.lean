/-
  CodeLooks: the law's call returns true and its arguments read as before (where the package's variables hold what the program's text lays; in the form with Upto: for arguments of bulk at most 1048576).
-/
import Derived.Test.YtgjfbalafdifgaaDoorRowCodeLooksA
set_option linter.unusedVariables false
set_option linter.unusedSimpArgs false
set_option linter.unusedSectionVars false
set_option linter.unnecessarySimpa false
namespace Go.Proofs.YtgjfbalafdifgaaDoor.codeLooks
open Go.ChangeShapes Go.WideShapes Go.ChangeAt Go.RowKit Sx
theorem closed1:(Rows.codeLooksUptoRow.inPlace == Tryd.pinned.checked.prog.inPlace 20)=true:=by kernel_rfl
theorem closed2:(Rows.codeLooksUptoRow.unfollowed == Tryd.pinned.checked.prog.unfollowed 20)=true:=by kernel_rfl
theorem closed3:(Rows.codeLooksUptoRow.recurses == Tryd.pinned.checked.prog.recurses 20)=true:=by kernel_rfl
theorem closed4:(Rows.codeLooksUptoRow.named == Tryd.pinned.checked.prog.varsNamed 20)=true:=by kernel_rfl
theorem closed:joinedFacts Tryd.pinned.checked.prog 20 Tryd.f20 (Rows.OpenSpec.upto Rows.codeLooksSpec).bare Rows.codeLooksUptoRow=true:=by
 unfold joinedFacts
 rw [closed1,closed2,closed3,closed4]
 kernel_rfl
theorem said:Rows.CodeLooksUptoSaid :=
 OpenClaim.holds_of_cond 20 Tryd.f20 rfl rfl rfl rfl rfl rfl rfl ⟨rfl,rfl,rfl,rfl,rfl⟩ rfl rfl rfl rfl rfl (by kernel_rfl) Tryd.func20 closed
  (of_decide_eq_true (by kernel_rfl)) (by unfold Func.isWrapper;first | (rw [if_pos (by decide +kernel)];kernel_rfl) | (rw [if_neg (by decide +kernel)];exact ⟨rfl,rfl⟩))
  (fun os started H enc _ F=>by rw [OpenClaim.pre_eq_preRow];exact lifted os started H enc F)
end Go.Proofs.YtgjfbalafdifgaaDoor.codeLooks
