/-
  CodeFlushes: the law's call returns true and its arguments read as before (where the package's variables hold what the program's text lays; in the form with Upto: for arguments of bulk at most 1048576).
-/
import Derived.Test.YtgjfbalafdifgaaDoorRowCodeFlushesA
set_option linter.unusedVariables false
set_option linter.unusedSimpArgs false
set_option linter.unusedSectionVars false
set_option linter.unnecessarySimpa false
namespace Go.Proofs.YtgjfbalafdifgaaDoor.codeFlushes
open Go.ChangeShapes Go.WideShapes Go.ChangeAt Go.RowKit Sx
theorem closed1:(Rows.codeFlushesRow.inPlace == Tryd.pinned.checked.prog.inPlace 16)=true:=by kernel_rfl
theorem closed2:(Rows.codeFlushesRow.unfollowed == Tryd.pinned.checked.prog.unfollowed 16)=true:=by kernel_rfl
theorem closed3:(Rows.codeFlushesRow.recurses == Tryd.pinned.checked.prog.recurses 16)=true:=by kernel_rfl
theorem closed4:(Rows.codeFlushesRow.named == Tryd.pinned.checked.prog.varsNamed 16)=true:=by kernel_rfl
theorem closed:joinedFacts Tryd.pinned.checked.prog 16 Tryd.f16 (OpenSpec.ofChange Rows.codeFlushesSpec).bare Rows.codeFlushesRow=true:=by
 unfold joinedFacts
 rw [closed1,closed2,closed3,closed4]
 kernel_rfl
theorem said:Rows.CodeFlushesSaid :=
 OpenClaim.holds_of_cond 16 Tryd.f16 rfl rfl rfl rfl rfl rfl rfl ⟨rfl,rfl,rfl,rfl,rfl⟩ rfl rfl rfl rfl rfl (by kernel_rfl) Tryd.func16 closed
  (of_decide_eq_true (by kernel_rfl)) (by unfold Func.isWrapper;first | (rw [if_pos (by decide +kernel)];kernel_rfl) | (rw [if_neg (by decide +kernel)];exact ⟨rfl,rfl⟩))
  (fun os started H enc _ F=>by rw [OpenClaim.pre_eq_preRow];exact lifted os started H enc F)
end Go.Proofs.YtgjfbalafdifgaaDoor.codeFlushes
