/-
  InferHoles: the law's call returns true and its arguments read as before (where the package's variables hold what the program's text lays; in the form with Upto: for arguments of bulk at most 1048576).
-/
import Derived.Test.YtgjfbalafdifgaaDoorRowInferHolesB
set_option linter.unusedVariables false
set_option linter.unusedSimpArgs false
set_option linter.unusedSectionVars false
set_option linter.unnecessarySimpa false
namespace Go.Proofs.YtgjfbalafdifgaaDoor.inferHoles
open Go.ChangeShapes Go.WideShapes Go.ChangeAt Go.RowKit Sx
theorem plain (f:FuncId) (fn:Func) (hf : Tryd.pinned.checked.prog.funcNamed "bobbin/bobbinlaw15.InferHoles" = some f) (hfn:Tryd.pinned.checked.prog.funcs[f]?=some fn) :
  false=Tryd.pinned.checked.prog.looks []∧∀ (j:Nat) t,fn.params[j]?=some t→Tryd.pinned.checked.prog.wantsStandIn t=false:=by
 obtain rfl:f=21:=Option.some.inj ((show Tryd.prog.funcNamed "bobbin/bobbinlaw15.InferHoles" = some 21 by kernel_rfl).symm.trans hf) |>.symm
 obtain rfl:fn=Tryd.f21:=(Option.some.inj (Tryd.func21.symm.trans hfn)).symm
 refine ⟨by kernel_rfl,fun j t ht=>?_⟩
 have hw:(Tryd.f21.params.toList.all fun t=>!Tryd.prog.wantsStandIn t)=true:=by kernel_rfl
 have hm:t ∈ Tryd.f21.params.toList:=List.mem_of_getElem? (i:=j) (by simpa using ht)
 have:=List.all_eq_true.1 hw t hm
 have h2:Tryd.prog.wantsStandIn t=false:=by simpa using this
 exact h2
theorem proved:Rows.InferHolesCardSaid :=
 Claim7.holds_tied_plain_at .later [] _ _ _ _ said (fun _ h=>by cases h) (by kernel_rfl) (fun _ h=>by cases h) inferHoles_row_tie rfl ⟨rfl,rfl⟩ (by kernel_rfl) rfl plain (by kernel_rfl)
end Go.Proofs.YtgjfbalafdifgaaDoor.inferHoles
