/-
  InferTemplates: the law's call returns true and its arguments read as before (where the package's variables hold what the program's text lays; in the form with Upto: for arguments of bulk at most 1048576).
-/
import Derived.Test.YtgjfbalafdifgaaGreatDoorRowInferTemplatesA
set_option linter.unusedVariables false
set_option linter.unusedSimpArgs false
set_option linter.unusedSectionVars false
set_option linter.unnecessarySimpa false
namespace Go.Proofs.YtgjfbalafdifgaaGreatDoor.inferTemplates
open Go.ChangeShapes Go.WideShapes Go.ChangeAt Go.RowKit Sx
theorem Mg:(Rows.inferTemplatesRow.inPlace == Tryz.pinned.checked.prog.inPlace 3)=true:=by kernel_rfl
theorem Mh:(Rows.inferTemplatesRow.unfollowed == Tryz.pinned.checked.prog.unfollowed 3)=true:=by kernel_rfl
theorem Mi:(Rows.inferTemplatesRow.recurses == Tryz.pinned.checked.prog.recurses 3)=true:=by kernel_rfl
theorem Mj:(Rows.inferTemplatesRow.named == Tryz.pinned.checked.prog.varsNamed 3)=true:=by kernel_rfl
theorem closed:joinedFacts Tryz.pinned.checked.prog 3 Tryz.f3 (OpenSpec.ofChange Rows.inferTemplatesSpec).bare Rows.inferTemplatesRow=true:=by
 unfold joinedFacts
 rw [Mg,Mh,Mi,Mj]
 kernel_rfl
theorem said:Rows.InferTemplatesSaid :=
 OpenClaim.holds_of_cond 3 Tryz.f3 rfl rfl rfl rfl rfl rfl rfl ⟨rfl,rfl,rfl,rfl,rfl⟩ rfl rfl rfl rfl rfl (by kernel_rfl) Tryz.func3 closed
  (of_decide_eq_true (by kernel_rfl)) (by unfold Func.isWrapper;first | (rw [if_pos (by decide +kernel)];kernel_rfl) | (rw [if_neg (by decide +kernel)];exact ⟨rfl,rfl⟩))
  (fun os started H enc _ F=>by rw [OpenClaim.pre_eq_preRow];exact lifted os started H enc F)
end Go.Proofs.YtgjfbalafdifgaaGreatDoor.inferTemplates
