/-
  CodeBehind: the law's call returns true and its arguments read as before (where the package's variables hold what the program's text lays; in the form with Upto: for arguments of bulk at most 1048576).
-/
import Derived.Test.YtgjfbalafdifgaaDoorRowCodeBehindA
set_option linter.unusedVariables false
set_option linter.unusedSimpArgs false
set_option linter.unusedSectionVars false
set_option linter.unnecessarySimpa false
namespace Go.Proofs.YtgjfbalafdifgaaDoor.codeBehind
open Go.ChangeShapes Go.WideShapes Go.ChangeAt Go.RowKit Sx
theorem closed1:(Rows.codeBehindRow.inPlace == Tryd.pinned.checked.prog.inPlace 17)=true:=by kernel_rfl
theorem closed2:(Rows.codeBehindRow.unfollowed == Tryd.pinned.checked.prog.unfollowed 17)=true:=by kernel_rfl
theorem closed3:(Rows.codeBehindRow.recurses == Tryd.pinned.checked.prog.recurses 17)=true:=by kernel_rfl
theorem closed4:(Rows.codeBehindRow.named == Tryd.pinned.checked.prog.varsNamed 17)=true:=by kernel_rfl
theorem closed:joinedFacts Tryd.pinned.checked.prog 17 Tryd.f17 (OpenSpec.ofChange Rows.codeBehindSpec).bare Rows.codeBehindRow=true:=by
 unfold joinedFacts
 rw [closed1,closed2,closed3,closed4]
 kernel_rfl
theorem said:Rows.CodeBehindSaid :=
 OpenClaim.holds_of_cond 17 Tryd.f17 rfl rfl rfl rfl rfl rfl rfl ⟨rfl,rfl,rfl,rfl,rfl⟩ rfl rfl rfl rfl rfl (by kernel_rfl) Tryd.func17 closed
  (of_decide_eq_true (by kernel_rfl)) (by unfold Func.isWrapper;first | (rw [if_pos (by decide +kernel)];kernel_rfl) | (rw [if_neg (by decide +kernel)];exact ⟨rfl,rfl⟩))
  (fun os started H enc _ F=>by rw [OpenClaim.pre_eq_preRow];exact lifted os started H enc F)
end Go.Proofs.YtgjfbalafdifgaaDoor.codeBehind
