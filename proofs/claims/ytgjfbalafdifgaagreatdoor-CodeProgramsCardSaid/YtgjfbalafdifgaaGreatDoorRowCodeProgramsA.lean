/-
  CodePrograms: the law's call returns true and its arguments read as before (where the package's variables hold what the program's text lays; in the form with Upto: for arguments of bulk at most 1048576).
-/
import Derived.Test.YtgjfbalafdifgaaGreatDoorTH
import Derived.Test.YtgjfbalafdifgaaGreatDoorTC
import Derived.Test.YtgjfbalafdifgaaGreatDoorCards
import Derived.Test.YtgjfbalafdifgaaGreatDoorTie
import Derived.ProofKit
import Derived.Deep.DeepHandedRow
import Derived.Lib.LaidTab
set_option linter.unusedVariables false
set_option linter.unusedSimpArgs false
set_option linter.unusedSectionVars false
set_option linter.unnecessarySimpa false
namespace Go.Proofs.YtgjfbalafdifgaaGreatDoor.codePrograms
open Go.ChangeShapes Go.WideShapes Go.ChangeAt Go.RowKit Sx
theorem own:ownKnob Tryz.prog.godebug=none:=by kernel_rfl
set_option maxRecDepth 100000 in
theorem contract (H:Type) (enc:TypeId×Value→H) (W:World) (base:Nat) (args:Array Value) (ds gs:List (DataW H)) (before:List MemPlace)
  (hval:∀ (j:Nat) t v,Tryz.f5.params[j]?=some t→args[j]?=some v→Value.okWide Tryz.prog W .any base t v)
  (hW:DataW.Whole enc Tryz.prog Tryz.f5.params.toList Rows.codeProgramsSpec.vars false W args.toList ds gs before) (Ww:W.ShapedOpen Tryz.prog) (hL:laidMetH Tryz.prog Rows.codeProgramsRow.laid W) :
  Calls Tryz.prog 5 args W fun e W'=>∃ v,e=.returned v∧Rows.codeProgramsSpec.post enc Tryz.prog Tryz.f5 false true false false W args v W':=by
 obtain ⟨m,hm⟩:=wL.maxLen Ww
 have Y4:laidMet Tryz.prog [("unicode/utf8.acceptRanges", Rows.laid_unicode_utf8_acceptRanges), ("bobbin/step.bad", Rows.laid_bobbin_step_bad), ("unicode/utf8.first", Rows.laid_unicode_utf8_first)] W:=hL
 obtain ⟨ps,hl,_⟩:=Y4
 have hG:=wL.LK hm hl
 refine Bz (C:=wL.C m) (c:=wL.YM) (shs:=[(false,[.s])]) (wL.fit m) (by kernel_rfl) (by kernel_rfl) (by kernel_rfl) (by kernel_rfl) (tb:=4) (by kernel_rfl) (by kernel_rfl) (by kernel_rfl) (by kernel_rfl) (by kernel_rfl) (by kernel_rfl) rfl
  (fun H ds h=>?_) (by kernel_rfl) hval hW hG (fun xs h hb=>?_)
 ·have h:ds.length=1:=h.trans (by kernel_rfl)
  match ds,h with
  | [d0],_=>rfl
 ·obtain ⟨a,rfl,ha⟩:=Wx h
  obtain ⟨l,rfl,hl⟩:=S9 ha
  exact wL.abz (mx:=m) l
noncomputable def vI (os:Os):World :=
 {World.holding Tryz.prog os ⟨#[],#[],[]⟩ with heap:=((((World.holding Tryz.prog os ⟨#[],#[],[]⟩).heap.modify 3 (fun
   | .cells _ t frozen=>.cells (wL.Au Rows.laid_unicode_utf8_acceptRanges).toArray t frozen
   | o=>o)).modify 0 (fun
   | .cells _ t frozen=>.cells (wL.Au Rows.laid_bobbin_step_bad).toArray t frozen
   | o=>o)).modify 2 (fun
   | .cells _ t frozen=>.cells (wL.Au Rows.laid_unicode_utf8_first).toArray t frozen
   | o=>o)) }
theorem NR (os:Os):laidMet Tryz.prog Rows.codeProgramsRow.laid ((vI os).forCall (fun _ _=>0) ⟨#[],#[.string ByteArray.empty],[]⟩).memory :=
 laidMet_of_run' 8 (by kernel_rfl) (by kernel_rfl)
theorem reads (os:Os) {H:Type} (enc:TypeId×Value→H):∃ places,DataW.whole enc Tryz.prog ((vI os).forCall (fun _ _=>0) ⟨#[],#[.string ByteArray.empty],[]⟩).memory Tryz.f5.params.toList Rows.codeProgramsSpec.vars false (#[.string ByteArray.empty]:Array Value).toList 8=some ([.lit (.string [])],[],places) :=
 ⟨[],by kernel_rfl⟩
set_option maxRecDepth 100000 in
theorem lifted (os:Os) (started:os.Started) (H:Type) (enc:TypeId×Value→H) (F:Stop.Interp) :
  ReturnsInHanded {} Tryz.checked os 5 .any ((OpenSpec.ofChange Rows.codeProgramsSpec).preRow enc Tryz.prog Tryz.f5 Rows.codeProgramsRow.domain false Rows.codeProgramsRow.laid) (((OpenSpec.ofChange Rows.codeProgramsSpec).at F).post enc Tryz.prog Tryz.f5 false true false false):=by
 obtain ⟨places,hx⟩:=reads os enc
 refine returnsInHanded_of_row (C:=Tryz.checked) (s:=(OpenSpec.ofChange Rows.codeProgramsSpec)) own started (by kernel_rfl) Tryz.func5
  (witness_row_at (enc:=enc) (C:=Tryz.checked) false (vI os) #[.string ByteArray.empty] rfl (by kernel_rfl) (by kernel_rfl) (by kernel_rfl)
   (OpenSpec.preRow_of_cond 8 hx (by kernel_rfl) (fun k hk=>by cases hk) (by kernel_rfl) (NR os))) ?_
 intro W base args ds gs before hval hW _ _ _ hL Ww _
 exact contract H enc W base args ds gs before hval hW Ww hL
end Go.Proofs.YtgjfbalafdifgaaGreatDoor.codePrograms
