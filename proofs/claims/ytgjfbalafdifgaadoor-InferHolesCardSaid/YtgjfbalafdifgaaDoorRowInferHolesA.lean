/-
  InferHoles: the law's call returns true and its arguments read as before (where the package's variables hold what the program's text lays; in the form with Upto: for arguments of bulk at most 1048576).
-/
import Derived.Test.YtgjfbalafdifgaaDoorTG
import Derived.Test.YtgjfbalafdifgaaDoorTC
import Derived.Test.YtgjfbalafdifgaaDoorTH
import Derived.Test.YtgjfbalafdifgaaDoorCards
import Derived.Test.YtgjfbalafdifgaaDoorTie
import Derived.ProofKit
import Derived.Deep.DeepHandedRow
import Derived.Lib.LaidTab
set_option linter.unusedVariables false
set_option linter.unusedSimpArgs false
set_option linter.unusedSectionVars false
set_option linter.unnecessarySimpa false
namespace Go.Proofs.YtgjfbalafdifgaaDoor.inferHoles
open Go.ChangeShapes Go.WideShapes Go.ChangeAt Go.RowKit Sx
theorem own:ownKnob Tryd.prog.godebug=none:=by kernel_rfl
set_option maxRecDepth 100000 in
theorem contract (H:Type) (enc:TypeId×Value→H) (W:World) (base:Nat) (args:Array Value) (ds gs:List (DataW H)) (before:List MemPlace)
  (hval:∀ (j:Nat) t v,Tryd.f21.params[j]?=some t→args[j]?=some v→Value.okWide Tryd.prog W .any base t v)
  (hW:DataW.Whole enc Tryd.prog Tryd.f21.params.toList Rows.inferHolesSpec.vars false W args.toList ds gs before) (hsh:W.ShapedOpen Tryd.prog) (hL:laidMetH Tryd.prog Rows.inferHolesRow.laid W) :
  Calls Tryd.prog 21 args W fun e W'=>∃ v,e=.returned v∧Rows.inferHolesSpec.post enc Tryd.prog Tryd.f21 false true false false W args v W':=by
 obtain ⟨m,hm⟩:=R3H.maxLen hsh
 have hL':laidMet Tryd.prog [("unicode/utf8.acceptRanges", Rows.laid_unicode_utf8_acceptRanges), ("bobbin/step.bad", Rows.laid_bobbin_step_bad), ("unicode/utf8.first", Rows.laid_unicode_utf8_first)] W:=hL
 obtain ⟨ps,hl,_⟩:=hL'
 have hG:=R3H.globOk hm hl
 refine law_contract (C:=R3H.C m) (c:=R3H.body21) (shs:=[(false,[.s])]) (R3H.fit m) (by kernel_rfl) (by kernel_rfl) (by kernel_rfl) (by kernel_rfl) (tb:=4) (by kernel_rfl) (by kernel_rfl) (by kernel_rfl) (by kernel_rfl) (by kernel_rfl) (by kernel_rfl) rfl
  (fun H ds h=>?_) (by kernel_rfl) hval hW hG (fun xs h hb=>?_)
 ·have h:ds.length=1:=h.trans (by kernel_rfl)
  match ds,h with
  | [d0],_=>rfl
 ·obtain ⟨a,rfl,ha⟩:=args1 h
  obtain ⟨x,rfl,hx⟩:=is_str ha
  exact R3H.law21 (mx:=m) x (Nat.lt_of_le_of_lt hx (by decide))
noncomputable def laidWorld (os:Os):World :=
 {World.holding Tryd.prog os ⟨#[],#[],[]⟩ with heap:=((((World.holding Tryd.prog os ⟨#[],#[],[]⟩).heap.modify 3 (fun
   | .cells _ t frozen=>.cells (R3H.flatV Rows.laid_unicode_utf8_acceptRanges).toArray t frozen
   | o=>o)).modify 0 (fun
   | .cells _ t frozen=>.cells (R3H.flatV Rows.laid_bobbin_step_bad).toArray t frozen
   | o=>o)).modify 2 (fun
   | .cells _ t frozen=>.cells (R3H.flatV Rows.laid_unicode_utf8_first).toArray t frozen
   | o=>o)) }
theorem laid_met (os:Os):laidMet Tryd.prog Rows.inferHolesRow.laid ((laidWorld os).forCall (fun _ _=>0) ⟨#[],#[.string ByteArray.empty],[]⟩).memory :=
 laidMet_of_run' 8 (by kernel_rfl) (by kernel_rfl)
theorem reads (os:Os) {H:Type} (enc:TypeId×Value→H):∃ places,DataW.whole enc Tryd.prog ((laidWorld os).forCall (fun _ _=>0) ⟨#[],#[.string ByteArray.empty],[]⟩).memory Tryd.f21.params.toList Rows.inferHolesSpec.vars false (#[.string ByteArray.empty]:Array Value).toList 8=some ([.lit (.string [])],[],places) :=
 ⟨[],by kernel_rfl⟩
set_option maxRecDepth 100000 in
theorem lifted (os:Os) (started:os.Started) (H:Type) (enc:TypeId×Value→H) (F:Stop.Interp) :
  ReturnsInHanded {} Tryd.checked os 21 .any ((OpenSpec.ofChange Rows.inferHolesSpec).preRow enc Tryd.prog Tryd.f21 Rows.inferHolesRow.domain false Rows.inferHolesRow.laid) (((OpenSpec.ofChange Rows.inferHolesSpec).at F).post enc Tryd.prog Tryd.f21 false true false false):=by
 obtain ⟨places,hx⟩:=reads os enc
 refine returnsInHanded_of_row (C:=Tryd.checked) (s:=(OpenSpec.ofChange Rows.inferHolesSpec)) own started (by kernel_rfl) Tryd.func21
  (witness_row_at (enc:=enc) (C:=Tryd.checked) false (laidWorld os) #[.string ByteArray.empty] rfl (by kernel_rfl) (by kernel_rfl) (by kernel_rfl)
   (OpenSpec.preRow_of_cond 8 hx (by kernel_rfl) (fun k hk=>by cases hk) (by kernel_rfl) (laid_met os))) ?_
 intro W base args ds gs before hval hW _ _ _ hL hsh _
 exact contract H enc W base args ds gs before hval hW hsh hL
end Go.Proofs.YtgjfbalafdifgaaDoor.inferHoles
