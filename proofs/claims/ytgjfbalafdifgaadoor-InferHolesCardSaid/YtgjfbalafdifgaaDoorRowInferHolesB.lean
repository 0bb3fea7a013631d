/-
  InferHoles: the law's call returns true and its arguments read as before (where the package's variables hold what the program's text lays; in the form with Upto: for arguments of bulk at most 1048576).
-/
import Derived.Test.YtgjfbalafdifgaaDoorRowInferHolesA
set_option linter.unusedVariables false
set_option linter.unusedSimpArgs false
set_option linter.unusedSectionVars false
set_option linter.unnecessarySimpa false
namespace Go.Proofs.YtgjfbalafdifgaaDoor.inferHoles
open Go.ChangeShapes Go.WideShapes Go.ChangeAt Go.RowKit Sx
theorem closed1:(Rows.inferHolesRow.inPlace == Tryd.pinned.checked.prog.inPlace 21)=true:=by kernel_rfl
theorem closed2:(Rows.inferHolesRow.unfollowed == Tryd.pinned.checked.prog.unfollowed 21)=true:=by kernel_rfl
theorem closed3:(Rows.inferHolesRow.recurses == Tryd.pinned.checked.prog.recurses 21)=true:=by kernel_rfl
theorem closed4:(Rows.inferHolesRow.named == Tryd.pinned.checked.prog.varsNamed 21)=true:=by kernel_rfl
theorem closed:joinedFacts Tryd.pinned.checked.prog 21 Tryd.f21 (OpenSpec.ofChange Rows.inferHolesSpec).bare Rows.inferHolesRow=true:=by
 unfold joinedFacts
 rw [closed1,closed2,closed3,closed4]
 kernel_rfl
theorem said:Rows.InferHolesSaid :=
 OpenClaim.holds_of_cond 21 Tryd.f21 rfl rfl rfl rfl rfl rfl rfl ⟨rfl,rfl,rfl,rfl,rfl⟩ rfl rfl rfl rfl rfl (by kernel_rfl) Tryd.func21 closed
  (of_decide_eq_true (by kernel_rfl)) (by unfold Func.isWrapper;first | (rw [if_pos (by decide +kernel)];kernel_rfl) | (rw [if_neg (by decide +kernel)];exact ⟨rfl,rfl⟩))
  (fun os started H enc _ F=>by rw [OpenClaim.pre_eq_preRow];exact lifted os started H enc F)
end Go.Proofs.YtgjfbalafdifgaaDoor.inferHoles
