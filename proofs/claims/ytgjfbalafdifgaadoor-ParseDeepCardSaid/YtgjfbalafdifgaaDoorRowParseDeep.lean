/-
  ParseDeep: the law's call returns true and its arguments read as before (where the package's variables hold what the program's text lays; in the form with Upto: for arguments of bulk at most 1048576).
-/
import Derived.Test.YtgjfbalafdifgaaDoorTF
import Derived.Test.YtgjfbalafdifgaaDoorTC
import Derived.Test.YtgjfbalafdifgaaDoorCards
import Derived.Test.YtgjfbalafdifgaaDoorTie
import Derived.ProofKit
import Derived.Deep.DeepHandedRow
import Derived.Lib.LaidTab
set_option linter.unusedVariables false
set_option linter.unusedSimpArgs false
set_option linter.unusedSectionVars false
set_option linter.unnecessarySimpa false
namespace Go.Proofs.YtgjfbalafdifgaaDoor.parseDeep
open Go.ChangeShapes Go.WideShapes Go.ChangeAt Go.RowKit Sx
theorem own:ownKnob Tryd.prog.godebug=none:=by kernel_rfl
set_option maxRecDepth 100000 in
theorem contract (H:Type) (enc:TypeId×Value→H) (W:World) (base:Nat) (args:Array Value) (ds gs:List (DataW H)) (before:List MemPlace)
  (hval:∀ (j:Nat) t v,Tryd.f10.params[j]?=some t→args[j]?=some v→Value.okWide Tryd.prog W .any base t v)
  (hW:DataW.Whole enc Tryd.prog Tryd.f10.params.toList Rows.parseDeepSpec.vars false W args.toList ds gs before) (hsh:W.ShapedOpen Tryd.prog) :
  Calls Tryd.prog 10 args W fun e W'=>∃ v,e=.returned v∧Rows.parseDeepSpec.post enc Tryd.prog Tryd.f10 false true false false W args v W':=by
 obtain ⟨m,hm⟩:=R3G.maxLen hsh
 have hG:=R3G.globOk hm
 refine law_contract (C:=R3G.C m) (c:=R3G.body10) (shs:=[(false,[.u8]),(false,[.ik .u32])]) (R3G.fit m) (by kernel_rfl) (by kernel_rfl) (by kernel_rfl) (by kernel_rfl) (tb:=4) (by kernel_rfl) (by kernel_rfl) (by kernel_rfl) (by kernel_rfl) (by kernel_rfl) (by kernel_rfl) rfl
  (fun H ds h=>?_) (by kernel_rfl) hval hW hG (fun xs h hb=>?_)
 ·have h:ds.length=2:=h.trans (by kernel_rfl)
  match ds,h with
  | [d0,d1],_=>rfl
 ·obtain ⟨a,b,rfl,ha,hb'⟩:=args2 h
  obtain ⟨x,rfl⟩:=is_byte ha
  obtain ⟨y,rfl⟩:=R3G.is_u32 hb'
  exact R3G.law10 (mx:=m) x y
noncomputable def laidWorld (os:Os):World :=
 {World.holding Tryd.prog os ⟨#[],#[],[]⟩ with heap:=(((World.holding Tryd.prog os ⟨#[],#[],[]⟩).heap.modify 3 (fun
   | .cells _ t frozen=>.cells (R3G.flatV Rows.laid_unicode_utf8_acceptRanges).toArray t frozen
   | o=>o)).modify 2 (fun
   | .cells _ t frozen=>.cells (R3G.flatV Rows.laid_unicode_utf8_first).toArray t frozen
   | o=>o)) }
theorem laid_met (os:Os):laidMet Tryd.prog Rows.parseDeepRow.laid ((laidWorld os).forCall (fun _ _=>0) ⟨#[],#[.int .u8 0, .int .u32 0],[]⟩).memory :=
 laidMet_of_run' 8 (by kernel_rfl) (by kernel_rfl)
theorem reads (os:Os) {H:Type} (enc:TypeId×Value→H):∃ places,DataW.whole enc Tryd.prog ((laidWorld os).forCall (fun _ _=>0) ⟨#[],#[.int .u8 0, .int .u32 0],[]⟩).memory Tryd.f10.params.toList Rows.parseDeepSpec.vars false (#[.int .u8 0, .int .u32 0]:Array Value).toList 8=some ([.lit (.int .u8 0), .lit (.int .u32 0)],[],places) :=
 ⟨[],by kernel_rfl⟩
set_option maxRecDepth 100000 in
theorem lifted (os:Os) (started:os.Started) (H:Type) (enc:TypeId×Value→H) (F:Stop.Interp) :
  ReturnsInHanded {} Tryd.checked os 10 .any ((OpenSpec.ofChange Rows.parseDeepSpec).preRow enc Tryd.prog Tryd.f10 Rows.parseDeepRow.domain false Rows.parseDeepRow.laid) (((OpenSpec.ofChange Rows.parseDeepSpec).at F).post enc Tryd.prog Tryd.f10 false true false false):=by
 obtain ⟨places,hx⟩:=reads os enc
 refine returnsInHanded_of_row (C:=Tryd.checked) (s:=(OpenSpec.ofChange Rows.parseDeepSpec)) own started (by kernel_rfl) Tryd.func10
  (witness_row_at (enc:=enc) (C:=Tryd.checked) false (laidWorld os) #[.int .u8 0, .int .u32 0] rfl (by kernel_rfl) (by kernel_rfl) (by kernel_rfl)
   (OpenSpec.preRow_of_cond 8 hx (by kernel_rfl) (fun k hk=>by cases hk) (by kernel_rfl) (laid_met os))) ?_
 intro W base args ds gs before hval hW _ _ _ _ hsh _
 exact contract H enc W base args ds gs before hval hW hsh
theorem closed:joinedFacts Tryd.pinned.checked.prog 10 Tryd.f10 (OpenSpec.ofChange Rows.parseDeepSpec).bare Rows.parseDeepRow=true:=by kernel_rfl
theorem said:Rows.ParseDeepSaid :=
 OpenClaim.holds_of_cond 10 Tryd.f10 rfl rfl rfl rfl rfl rfl rfl ⟨rfl,rfl,rfl,rfl,rfl⟩ rfl rfl rfl rfl rfl (by kernel_rfl) Tryd.func10 closed
  (of_decide_eq_true (by kernel_rfl)) (by unfold Func.isWrapper;first | (rw [if_pos (by decide +kernel)];kernel_rfl) | (rw [if_neg (by decide +kernel)];exact ⟨rfl,rfl⟩))
  (fun os started H enc _ F=>by rw [OpenClaim.pre_eq_preRow];exact lifted os started H enc F)
theorem plain (f:FuncId) (fn:Func) (hf : Tryd.pinned.checked.prog.funcNamed "bobbin/bobbinlaw14.ParseDeep" = some f) (hfn:Tryd.pinned.checked.prog.funcs[f]?=some fn) :
  false=Tryd.pinned.checked.prog.looks []∧∀ (j:Nat) t,fn.params[j]?=some t→Tryd.pinned.checked.prog.wantsStandIn t=false:=by
 obtain rfl:f=10:=Option.some.inj ((show Tryd.prog.funcNamed "bobbin/bobbinlaw14.ParseDeep" = some 10 by kernel_rfl).symm.trans hf) |>.symm
 obtain rfl:fn=Tryd.f10:=(Option.some.inj (Tryd.func10.symm.trans hfn)).symm
 refine ⟨by kernel_rfl,fun j t ht=>?_⟩
 have hw:(Tryd.f10.params.toList.all fun t=>!Tryd.prog.wantsStandIn t)=true:=by kernel_rfl
 have hm:t ∈ Tryd.f10.params.toList:=List.mem_of_getElem? (i:=j) (by simpa using ht)
 have:=List.all_eq_true.1 hw t hm
 have h2:Tryd.prog.wantsStandIn t=false:=by simpa using this
 exact h2
theorem proved:Rows.ParseDeepCardSaid :=
 Claim7.holds_tied_plain_at .later [] _ _ _ _ said (fun _ h=>by cases h) (by kernel_rfl) (fun _ h=>by cases h) parseDeep_row_tie rfl ⟨rfl,rfl⟩ (by kernel_rfl) rfl plain (by kernel_rfl)
end Go.Proofs.YtgjfbalafdifgaaDoor.parseDeep
