/-
  InferFragments: the law's call returns true and its arguments read as before (where the package's variables hold what the program's text lays; in the form with Upto: for arguments of bulk at most 1048576).
-/
import Derived.Test.YtgjfbalafdifgaaGreatDoorRowInferFragmentsA
set_option linter.unusedVariables false
set_option linter.unusedSimpArgs false
set_option linter.unusedSectionVars false
set_option linter.unnecessarySimpa false
namespace Go.Proofs.YtgjfbalafdifgaaGreatDoor.inferFragments
open Go.ChangeShapes Go.WideShapes Go.ChangeAt Go.RowKit Sx
theorem Mi:(Rows.inferFragmentsRow.inPlace == Tryz.pinned.checked.prog.inPlace 4)=true:=by kernel_rfl
theorem Mj:(Rows.inferFragmentsRow.unfollowed == Tryz.pinned.checked.prog.unfollowed 4)=true:=by kernel_rfl
theorem Mk:(Rows.inferFragmentsRow.recurses == Tryz.pinned.checked.prog.recurses 4)=true:=by kernel_rfl
theorem Ml:(Rows.inferFragmentsRow.named == Tryz.pinned.checked.prog.varsNamed 4)=true:=by kernel_rfl
theorem closed:joinedFacts Tryz.pinned.checked.prog 4 Tryz.f4 (OpenSpec.ofChange Rows.inferFragmentsSpec).bare Rows.inferFragmentsRow=true:=by
 unfold joinedFacts
 rw [Mi,Mj,Mk,Ml]
 kernel_rfl
theorem said:Rows.InferFragmentsSaid :=
 OpenClaim.holds_of_cond 4 Tryz.f4 rfl rfl rfl rfl rfl rfl rfl ⟨rfl,rfl,rfl,rfl,rfl⟩ rfl rfl rfl rfl rfl (by kernel_rfl) Tryz.func4 closed
  (of_decide_eq_true (by kernel_rfl)) (by unfold Func.isWrapper;first | (rw [if_pos (by decide +kernel)];kernel_rfl) | (rw [if_neg (by decide +kernel)];exact ⟨rfl,rfl⟩))
  (fun os started H enc _ F=>by rw [OpenClaim.pre_eq_preRow];exact lifted os started H enc F)
end Go.Proofs.YtgjfbalafdifgaaGreatDoor.inferFragments
