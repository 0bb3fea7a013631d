/-
  A part of InferHoles's proof: an evaluator of translated functions over plain data, what functions of this seat come to, and laws on plain data.
-/
import Derived.Test.YtgjfbalafdifgaaDoorTG
import Derived.Test.YtgjfbalafdifgaaDoorProg
set_option linter.unusedVariables false
set_option linter.unusedSimpArgs false
set_option linter.unusedSectionVars false
set_option linter.unnecessarySimpa false
namespace R3I
open Go Go.Proofs Sx R3
theorem frag_ts {l:List UInt8} {c:Ctx} {ts:Ts} (hf:form c=true) (hst:(c.st == 20)=false) (hl:l.length≤65536) (hw:wordsW l=(ts.flat,-1)) (ho:ts.ok) (hd:ts.depth≤16) :
  fragAV l c=match tsGo ts c with
   | .ok d=>.tu [.ag [.ro 9 ((arrH 0 ts c).map Nd.av), .ro 1 (numsAV (ts.tops 0))],d.toAV, .int 0, .int 0]
   | .bad a e=>.tu [noTree,(st1 0).toAV, .int a, .int e]:=by
 unfold fragAV
 rw [hf,hst,parseT_of hl hw,treeOf_flat ho hd]
 simp only [Bool.not_true,Bool.or_self,Bool.false_eq_true,if_false]
 obtain ⟨w1,w2⟩:=walk_ts ts c [] [] 0 (2 * (ts.arr 0).length+1) ho (by rw [Ts.arr_len];exact Nat.le_refl _)
 simp only [List.length_nil,List.nil_append,List.append_nil] at w1 w2
 cases h:tsGo ts c with
 | ok d=>rw [w1 d h];rfl
 | bad a e =>
  obtain ⟨h1,c',N',h2⟩:=w2 a e h
  rw [h2]
  simp only
  rw [if_pos (by simpa using h1)]
end R3I

namespace R3
open Go Go.Proofs Sx
namespace Ts
def up (k:Nat):Ts→Ts
 | nil=>nil
 | leaf w t=>leaf (w.up k) (up k t)
 | blk w b e t=>blk (w.up k) (up k b) (e.up k) (up k t)
 | alt w b l c e t=>alt (w.up k) (up k b) (l.up k) (up k c) (e.up k) (up k t)
end Ts
end R3
namespace R3I
open Go Go.Proofs Sx R3
def WR.up (k:Nat):WR→WR
 | .ok d=>.ok d
 | .bad a e=>.bad (a+(k:Int)) e
theorem then_assoc (r:WR) (f g:Ctx→WR):(r.then' f).then' g=r.then' fun c=>(f c).then' g:=by cases r <;> rfl
theorem go_app:∀ (s t:Ts) (c:Ctx),tsGo (s.app t) c=(tsGo s c).then' (tsGo t)
 | .nil,t,c=>rfl
 | .leaf w k,t,c=>by
  show (leafGo w c).then' (tsGo (k.app t))=((leafGo w c).then' (tsGo k)).then' (tsGo t)
  rw [then_assoc]
  congr 1;funext d;exact go_app k t d
 | .blk w b e k,t,c=>by
  show (tsGo b c).then' (fun a=>if a=c then tsGo (k.app t) c else _)=((tsGo b c).then' _).then' (tsGo t)
  rw [then_assoc]
  congr 1;funext d
  split
  ·exact go_app k t c
  ·rfl
 | .alt w b l x e k,t,c=>by
  show (tsGo b c).then' (fun a=>(tsGo x c).then' fun y=>if a=y then tsGo (k.app t) y else _)=((tsGo b c).then' _).then' (tsGo t)
  rw [then_assoc]
  congr 1;funext d
  rw [then_assoc]
  congr 1;funext y
  split
  ·exact go_app k t y
  ·rfl
theorem go_leaf_ok {w:Wd} {k:Ts} {c d:Ctx} (h:tsGo (.leaf w k) c=.ok d):∃ c1,leafGo w c=.ok c1∧tsGo k c1=.ok d:=by
 have h:(leafGo w c).then' (tsGo k)=.ok d:=h
 cases hl:leafGo w c with
 | ok c1=>rw [hl] at h;exact ⟨c1,rfl,h⟩
 | bad a e=>rw [hl] at h;cases h
theorem go_blk_ok {w e:Wd} {b k:Ts} {c d:Ctx} (h:tsGo (.blk w b e k) c=.ok d):tsGo b c=.ok c∧tsGo k c=.ok d:=by
 have h:(tsGo b c).then' (fun a=>if a=c then tsGo k c else _)=.ok d:=h
 cases hl:tsGo b c with
 | ok c1 =>
  rw [hl] at h
  have h:(if c1=c then tsGo k c else _)=WR.ok d:=h
  by_cases hc:c1=c
  ·rw [if_pos hc] at h;exact ⟨by rw [hc],h⟩
  ·rw [if_neg hc] at h;cases h
 | bad a e=>rw [hl] at h;cases h
theorem go_alt_ok {w l e:Wd} {b x k:Ts} {c d:Ctx} (h:tsGo (.alt w b l x e k) c=.ok d):∃ c1,tsGo b c=.ok c1∧tsGo x c=.ok c1∧tsGo k c1=.ok d:=by
 have h:(tsGo b c).then' (fun a=>(tsGo x c).then' fun y=>if a=y then tsGo k y else _)=.ok d:=h
 cases hl:tsGo b c with
 | ok c1 =>
  rw [hl] at h
  have h:(tsGo x c).then' (fun y=>if c1=y then tsGo k y else _)=.ok d:=h
  cases hx:tsGo x c with
  | ok c2 =>
   rw [hx] at h
   have h:(if c1=c2 then tsGo k c2 else _)=WR.ok d:=h
   by_cases hc:c1=c2
   ·rw [if_pos hc] at h;exact ⟨c1,rfl,by rw [hc],by rw [hc];exact h⟩
   ·rw [if_neg hc] at h;cases h
  | bad a e=>rw [hx] at h;cases h
 | bad a e=>rw [hl] at h;cases h
structure Frag (l:List UInt8) (c:Ctx) (ts:Ts) (d:Ctx):Prop where
 hf:form c=true
 hst:(c.st == 20)=false
 len:l.length≤65536
 lx:Lx 0 l ts.flat
 ok:ts.ok
 depth:ts.depth≤16
 go:tsGo ts c=.ok d
theorem Frag.av {l:List UInt8} {c:Ctx} {ts:Ts} {d:Ctx} (h:Frag l c ts d):fragAV l c=.tu [.ag [.ro 9 ((arrH 0 ts c).map Nd.av), .ro 1 (numsAV (ts.tops 0))],d.toAV, .int 0, .int 0]:=by
 have:=frag_ts h.hf h.hst h.len (lx_words h.lx) h.ok h.depth
 rw [h.go] at this
 exact this
theorem leafGo_lit (p:Nat) (u:List UInt8) (c:Ctx):leafGo (litW p u) c=if (bytesB c u).2 ≥ 0 then .bad ((p:Int)+(bytesB c u).2) 5 else .ok (bytesB c u).1:=rfl
end R3I

namespace R3
open Go Go.Proofs Sx
theorem actW_kind {t:List UInt8} (h:(actW t).ok=true):(actW t).kind=1∨(actW t).kind=2∨(actW t).kind=3∨(actW t).kind=4∨(actW t).kind=5∨(actW t).kind=6:=by
 unfold actW actT at *
 repeat' split
 all_goals simp_all [plainW,wayW]
end R3
namespace R3I
open Go Go.Proofs Sx R3
end R3I

namespace R3
open Go Go.Proofs Sx
theorem idx_act {t:List UInt8} (hb:∀ x ∈ t,x≠125) (r:List UInt8):Lib.index (brO ++ (t ++ (brC ++ r))) brC=((t.length+2:Nat):Int):=by
 refine Lib.index_first (by simp [brO]) ?_ fun j hj=>?_
 ·unfold Lib.occAt
  rw [show brO ++ (t ++ (brC ++ r))=(brO ++ t) ++ (brC ++ r) by simp [List.append_assoc],List.drop_left' (by simp [brO])]
  simp [brC,List.isPrefixOf]
 ·cases h:Lib.occAt (brO ++ (t ++ (brC ++ r))) brC j with
  | false=>rfl
  | true =>
   have:=Lib.occAt_head (c:=125) (t:=[125]) rfl h
   rw [show brO ++ (t ++ (brC ++ r))=(brO ++ t) ++ (brC ++ r) by simp [List.append_assoc],List.getElem?_append_left (by simp [brO];omega)] at this
   rcases List.mem_append.1 (List.mem_of_getElem? this) with h | h
   ·simp [brO] at h
   ·exact absurd rfl (hb 125 h)
def actS (t:List UInt8):List UInt8:=brO ++ (t ++ (brC ++ []))
theorem actS_app (t r:List UInt8):actS t ++ r=brO ++ (t ++ (brC ++ r)):=by simp [actS]
theorem actS_len (t:List UInt8):(actS t).length=t.length+4:=by simp [actS,brO,brC]
theorem lx_act {t r:List UInt8} {W:List Wd} {a:Nat} (hb:∀ x ∈ t,x≠125) (hok:(actW t).ok=true) (h:Lx (a+(t.length+4)) r W):Lx a (actS t ++ r) (actWd a (actW t) :: W):=by
 rw [actS_app]
 exact .act a t r W (idx_act hb r) hok h
theorem lx_one {t:List UInt8} {a:Nat} (hb:∀ x ∈ t,x≠125) (hok:(actW t).ok=true):Lx a (actS t) [actWd a (actW t)]:=by
 have:=lx_act (a:=a) hb hok (.nil _)
 rwa [List.append_nil] at this
theorem lx_behind {t s:List UInt8} {W:List Wd} {a:Nat} (hb:∀ x ∈ t,x≠125) (hok:(actW t).ok=true) (h:Lx a s W) (hm:s.getLast?≠some 123):Lx a (s ++ actS t) (W ++ [actWd (a+s.length) (actW t)]):=by
 rcases h.app (lx_one hb hok) (fun hh=>hm hh.1) with g | ⟨W',p,q,u,v,V',e1,e2,g⟩
 ·exact g
 ·have hk:(actW t).kind=0:=by
   have:actWd (a+s.length) (actW t)=litW q v:=(List.cons.inj e2).1
   exact congrArg Wd.kind this
  have:=actW_kind hok
  rw [hk] at this
  rcases this with h | h | h | h | h | h <;> cases h
end R3
namespace R3I
open Go Go.Proofs Sx R3
end R3I

namespace R3H
open Go Go.Proofs Sx
variable {mx:Int}
noncomputable def body40:Code:=(Tryd.f40.body).getD .skip
noncomputable def X40 (call:CallT) (run:RunT)  : Option AV :=
 (call 43 [.s [123,123,120,125,125]]).bind fun v1=>(tupI v1 0).bind fun v2=>(tupI v1 1).bind fun v3=>(tupI v1 2).bind fun v4=>(AV.asAg 2 v2).bind fun v5=>(binI .eql v4 (.int 0)).bind fun v6=>(selW v6 true ((lenR (v5.getD 0 .un)).bind fun v7=>(binI .eql v7 (.int 1)).bind fun v8=>some v8) (.b false)).bind fun v9=>(selW v9 true ((idx 9 (v5.getD 0 .un) (.int 0)).bind fun v10=>(binI .eql (AV.cell v10 8) (.u8 1)).bind fun v11=>some v11) (.b false)).bind fun v12=>some v12
section
variable (call:CallT) (run:RunT)
theorem text40:unr (C mx) call run 40 Tryd.f40 400 [.code body40] (initF (C mx) 40 Tryd.f40.ntmps [])=X40 call run  := by
 kernel_rfl
theorem c40 {r:AV} (h:X40 (semCall (C mx) Tryd.prog) (semRun (C mx) Tryd.prog 40 Tryd.f40)  = some r):semCall (C mx) Tryd.prog 40 []=some r :=
 semCall_unr (fn:=Tryd.f40) (c:=body40) (by kernel_rfl) (by kernel_rfl) 400 (by kernel_rfl) ((text40 _ _ ).trans h)
end
end R3H

namespace R3H
open Go Go.Proofs Sx
variable {mx:Int}
noncomputable def body43:Code:=(Tryd.f43.body).getD .skip
noncomputable def X43 (call:CallT) (run:RunT) (a0:List UInt8):Option AV :=
 (call 41 [.s a0, .ag [.u8 0, .u8 0, .b false, .u8 0, .u8 0, .u8 0, .u8 0, .b false, .u8 0, .s []]]).bind fun v1=>(tupI v1 0).bind fun v2=>(tupI v1 1).bind fun v3=>(tupI v1 2).bind fun v4=>(tupI v1 3).bind fun v5=>(AV.asAg 2 v2).bind fun v6=>(AV.asAg 10 v3).bind fun v7=>(binI .eql v5 (.int 0)).bind fun v8=>(selW v8 true ((binAg [.i, .i, .b, .i, .i, .i, .i, .b, .i, .s] .neq (.ag [v7.getD 0 .un,v7.getD 1 .un,v7.getD 2 .un,v7.getD 3 .un,v7.getD 4 .un,v7.getD 5 .un,v7.getD 6 .un,v7.getD 7 .un,v7.getD 8 .un,v7.getD 9 .un]) (.ag [.u8 0, .u8 0, .b false, .u8 0, .u8 0, .u8 0, .u8 0, .b false, .u8 0, .s []])).bind fun v9=>some v9) (.b false)).bind fun v10=>condM v10
 (some (.tu [.ag [.nils, .nils], .int (a0.length:Int), .int 8]))
 (some (.tu [.ag [v6.getD 0 .un,v6.getD 1 .un],v4,v5]))
section
variable (call:CallT) (run:RunT) (a0:List UInt8)
theorem text43:unr (C mx) call run 43 Tryd.f43 400 [.code body43] (initF (C mx) 43 Tryd.f43.ntmps [.s a0])=X43 call run a0:=by
 kernel_rfl
theorem c43 {r:AV} (h:X43 (semCall (C mx) Tryd.prog) (semRun (C mx) Tryd.prog 43 Tryd.f43) a0=some r):semCall (C mx) Tryd.prog 43 [.s a0]=some r :=
 semCall_unr (fn:=Tryd.f43) (c:=body43) (by kernel_rfl) (by kernel_rfl) 400 (by kernel_rfl) ((text43 _ _ a0).trans h)
end
end R3H

namespace R3H
open Go Go.Proofs Sx
variable {mx:Int}
noncomputable def body21:Code:=(Tryd.f21.body).getD .skip
section
variable (run:RunT) (a0:List UInt8) (a1:Int)
noncomputable def K21_4:List Item:=(kAt 4 body21 []).getD []
def S21_4:St:=St.ofL [(0, .cell (.val (.s a0))),(3, .cell (.val (.int a1)))] []
noncomputable def F21_4:Option AV:=run K21_4 (S21_4 a0 a1)
end
noncomputable def X21 (call:CallT) (run:RunT) (a0:List UInt8):Option AV :=
 (call 40 []).bind fun v1=>(unop .not v1).bind fun v2=>condM v2
 (some (.b false))
 (F21_4 run a0 0)
section
variable (call:CallT) (run:RunT) (a0:List UInt8)
theorem text21:unr (C mx) call run 21 Tryd.f21 400 [.code body21] (initF (C mx) 21 Tryd.f21.ntmps [.s a0])=X21 call run a0:=by
 kernel_rfl
theorem c21 {r:AV} (h:X21 (semCall (C mx) Tryd.prog) (semRun (C mx) Tryd.prog 21 Tryd.f21) a0=some r):semCall (C mx) Tryd.prog 21 [.s a0]=some r :=
 semCall_unr (fn:=Tryd.f21) (c:=body21) (by kernel_rfl) (by kernel_rfl) 400 (by kernel_rfl) ((text21 _ _ a0).trans h)
end
noncomputable def X21_4 (call:CallT) (run:RunT) (a0:List UInt8) (a1:Int):Option AV :=
 condM (.b (decide (a1 < (a0.length:Int))))
 ((idxS (.s a0) (.int a1)).bind fun v1=>(binI .eql v1 (.u8 123)).bind fun v2=>(selW v2 false ((idxS (.s a0) (.int a1)).bind fun v3=>(binI .eql v3 (.u8 125)).bind fun v4=>some v4) (.b true)).bind fun v5=>condM v5
 (some (.b true))
 (F21_4 run a0 (w64 (a1+1))))
 ((s2b (.s a0)).bind fun v6=>(call 42 [.ag [.u8 0, .u8 0, .b false, .u8 0, .u8 0, .u8 0, .u8 0, .b false, .u8 0, .s []],v6]).bind fun v7=>(tupI v7 0).bind fun v8=>(tupI v7 1).bind fun v9=>(AV.asAg 10 v8).bind fun v10=>condM (.b (decide ((a0.length:Int) > 60000)))
 (some (.b true))
 ((binS .add (.s a0) (.s [123,123,120,125,125])).bind fun v11=>(call 41 [v11, .ag [.u8 0, .u8 0, .b false, .u8 0, .u8 0, .u8 0, .u8 0, .b false, .u8 0, .s []]]).bind fun v12=>(tupI v12 0).bind fun v13=>(tupI v12 1).bind fun v14=>(tupI v12 2).bind fun v15=>(tupI v12 3).bind fun v16=>(AV.asAg 2 v13).bind fun v17=>(AV.asAg 10 v14).bind fun v18=>(binI .geq v9 (.int 0)).bind fun v19=>condM v19
 ((binI .eql v16 (.int 5)).bind fun v20=>(selW v20 true ((binI .eql v15 v9).bind fun v21=>some v21) (.b false)).bind fun v22=>some v22)
 ((call 50 [.ag [v10.getD 0 .un,v10.getD 1 .un,v10.getD 2 .un,v10.getD 3 .un,v10.getD 4 .un,v10.getD 5 .un,v10.getD 6 .un,v10.getD 7 .un,v10.getD 8 .un,v10.getD 9 .un]]).bind fun v23=>(binI .eql v23 (.u8 0)).bind fun v24=>condM v24
 ((binI .eql v16 (.int 6)).bind fun v25=>(selW v25 true ((binI .eql v15 (.int (a0.length:Int))).bind fun v26=>some v26) (.b false)).bind fun v27=>some v27)
 ((lenR (v17.getD 0 .un)).bind fun v28=>(binI .neq v16 (.int 0)).bind fun v29=>(selW v29 false ((binI .eql v28 (.int 0)).bind fun v30=>some v30) (.b true)).bind fun v31=>(selW v31 false ((binI .sub v28 (.int 1)).bind fun v32=>(idx 9 (v17.getD 0 .un) v32).bind fun v33=>(call 50 [.ag [v10.getD 0 .un,v10.getD 1 .un,v10.getD 2 .un,v10.getD 3 .un,v10.getD 4 .un,v10.getD 5 .un,v10.getD 6 .un,v10.getD 7 .un,v10.getD 8 .un,v10.getD 9 .un]]).bind fun v34=>(binI .neq (AV.cell v33 8) v34).bind fun v35=>some v35) (.b true)).bind fun v36=>(selW v36 false ((call 51 [.ag [v10.getD 0 .un,v10.getD 1 .un,v10.getD 2 .un,v10.getD 3 .un,v10.getD 4 .un,v10.getD 5 .un,v10.getD 6 .un,v10.getD 7 .un,v10.getD 8 .un,v10.getD 9 .un]]).bind fun v37=>(binAg [.i, .i, .b, .i, .i, .i, .i, .b, .i, .s] .neq (.ag [v18.getD 0 .un,v18.getD 1 .un,v18.getD 2 .un,v18.getD 3 .un,v18.getD 4 .un,v18.getD 5 .un,v18.getD 6 .un,v18.getD 7 .un,v18.getD 8 .un,v18.getD 9 .un]) v37).bind fun v38=>some v38) (.b true)).bind fun v39=>condM v39
 (some (.b false))
 ((call 52 [.ag [v18.getD 0 .un,v18.getD 1 .un,v18.getD 2 .un,v18.getD 3 .un,v18.getD 4 .un,v18.getD 5 .un,v18.getD 6 .un,v18.getD 7 .un,v18.getD 8 .un,v18.getD 9 .un]]).bind fun v40=>(tupI v40 0).bind fun v41=>(tupI v40 1).bind fun v42=>(s2b v41).bind fun v43=>(call 42 [.ag [v18.getD 0 .un,v18.getD 1 .un,v18.getD 2 .un,v18.getD 3 .un,v18.getD 4 .un,v18.getD 5 .un,v18.getD 6 .un,v18.getD 7 .un,v18.getD 8 .un,v18.getD 9 .un],v43]).bind fun v44=>(tupI v44 0).bind fun v45=>(tupI v44 1).bind fun v46=>(AV.asAg 10 v45).bind fun v47=>(binI .eql v42 (.int 0)).bind fun v48=>(selW v48 true ((binI .eql v46 (.int ((-1)))).bind fun v49=>some v49) (.b false)).bind fun v50=>(selW v50 true ((binAg [.i, .i, .b, .i, .i, .i, .i, .b, .i, .s] .eql (.ag [v47.getD 0 .un,v47.getD 1 .un,v47.getD 2 .un,v47.getD 3 .un,v47.getD 4 .un,v47.getD 5 .un,v47.getD 6 .un,v47.getD 7 .un,v47.getD 8 .un,v47.getD 9 .un]) (.ag [.u8 0, .u8 0, .b false, .u8 0, .u8 0, .u8 0, .u8 0, .b false, .u8 0, .s []])).bind fun v51=>some v51) (.b false)).bind fun v52=>some v52)))))
section
variable (call:CallT) (run:RunT) (a0:List UInt8) (a1:Int)
theorem text21_4:step (C mx) call 21 Tryd.f21 (unr (C mx) call run 21 Tryd.f21 400) K21_4 (S21_4 a0 a1)=X21_4 call run a0 a1:=by
 kernel_rfl
end
section
variable (a0:List UInt8) (a1:Int)
theorem r21_4 {r:AV} (h:X21_4 (semCall (C mx) Tryd.prog) (semRun (C mx) Tryd.prog 21 Tryd.f21) a0 a1=some r):F21_4 (semRun (C mx) Tryd.prog 21 Tryd.f21) a0 a1=some r :=
 semRun_unr 400 ((text21_4 _ _ a0 a1).trans h)
end
end R3H

namespace R3H
open Go Go.Proofs Sx R3 R3I
variable {mx:Int}
theorem j41 (l:List UInt8) (c:Ctx) (h:NmS c):semCall (C mx) Tryd.prog 41 [.s l,c.toAV]=some (fragAV l c) :=
 semCall_gv (G:=G41) rfl rfl (by
  show (match ctxOf c.toAV with | some c=>if c.nm.length < 9223372036854775808 then some (fragAV l c) else none | none=>none)=_
  rw [ctxOf_toAV]
  exact if_pos h)
theorem j42 (l:List UInt8) (c:Ctx) (h:NmS c) (hl:l.length < 9223372036854775808):semCall (C mx) Tryd.prog 42 [c.toAV, .ro 1 (l.map .u8)]=some (ti (bytesB c l)) :=
 semCall_gv (G:=G42) rfl rfl (by
  show (match ctxOf c.toAV,bytesOf (l.map .u8) with | some c,some l=>if c.nm.length < 9223372036854775808∧l.length < 9223372036854775808 then some (ti (bytesB c l)) else none | _,_=>none)=_
  rw [ctxOf_toAV,bytesOf_map]
  exact if_pos ⟨h,hl⟩)
theorem j50 (c:Ctx) (h:NmS c):semCall (C mx) Tryd.prog 50 [c.toAV]=some (.u8 (hole c)):=semCall_gv (G:=G50) rfl rfl (GC_at _ c h)
theorem j51 (c:Ctx) (h:NmS c):semCall (C mx) Tryd.prog 51 [c.toAV]=some (after c).toAV:=semCall_gv (G:=G51) rfl rfl (GC_at _ c h)
theorem j52 (c:Ctx) (h:NmS c):semCall (C mx) Tryd.prog 52 [c.toAV]=some (ts (trailE c)):=semCall_gv (G:=G52) rfl rfl (GC_at _ c h)
theorem z0:Ctx.toAV ⟨0,0,false,0,0,0,0,false,0,[]⟩=(st1 0).toAV:=rfl
theorem nz:NmS (st1 0):=by show (0:Nat) < _;decide
theorem q0 (a b c d:AV):tupI (.tu [a,b,c,d]) 0=some a:=rfl
theorem q1 (a b c d:AV):tupI (.tu [a,b,c,d]) 1=some b:=rfl
theorem q2 (a b c d:AV):tupI (.tu [a,b,c,d]) 2=some c:=rfl
theorem q3 (a b c d:AV):tupI (.tu [a,b,c,d]) 3=some d:=rfl
theorem asAg2 (a b:AV):AV.asAg 2 (.ag [a,b])=some [a,b]:=rfl
theorem awakeF:fragAV [123,123,120,125,125] (st1 0)=.tu [.ag [.ro 9 [.ag [.u8 1, .int 0, .s [], .b false, .ro 1 [.s [120]], .nils, .nils, .b false, .u8 1]], .ro 1 [.int 0]],(st1 0).toAV, .int 0, .int 0]:=by kernel_rfl
theorem j43a:semCall (C mx) Tryd.prog 43 [.s [123,123,120,125,125]]=some (.tu [.ag [.ro 9 [.ag [.u8 1, .int 0, .s [], .b false, .ro 1 [.s [120]], .nils, .nils, .b false, .u8 1]], .ro 1 [.int 0]], .int 0, .int 0]):=by
 apply c43
 simp only [X43,mk_toAV,z0,j41 _ _ nz,awakeF,Option.bind_some,q0,q1,q2,q3,asAg2,asAg_toAV,ten0,ten1,ten2,ten3,ten4,ten5,ten6,ten7,ten8,ten9,mk_eta,ne_toAV,Sx.int_eql,beq_self_eq_true,decide_true,Bool.not_true,selW_and,Bool.and_false,condM_b,Bool.false_eq_true,if_false,List.getD_cons_zero,List.getD_cons_succ]
theorem j40:semCall (C mx) Tryd.prog 40 []=some (.b true):=by
 apply c40
 rw [X40,j43a]
 rfl
def tX:List UInt8:=[120]
theorem aX:actW tX=⟨1,false, .ro 1 [.s [120]],true⟩:=by kernel_rfl
theorem idxO_no {p:List UInt8} (h:∀ x ∈ p,x≠123):idxO p=p.length:=by
 unfold idxO
 rcases Lib.index_spec p brO with ⟨h1,_⟩ | ⟨i,h1,h2,h3,_⟩
 ·rw [h1];rfl
 ·obtain ⟨g1,_⟩:=(occ2 p 123 123 i).1 h3
  exact absurd rfl (h 123 (List.mem_of_getElem? g1))
def litT (p:List UInt8):Ts:=if p=[] then .nil else .leaf (litW 0 p) .nil
theorem lx_lits {p:List UInt8} (h:∀ x ∈ p,x≠123):Lx 0 p (litT p).flat:=by
 unfold litT
 split
 ·rename_i e;subst e;exact .nil 0
 ·rename_i e
  have:=Lx.lit 0 p [] [] e (by rw [List.append_nil];exact idxO_no h) (.nil _)
  rwa [List.append_nil] at this
def holeW (n:Nat):Wd:=actWd n ⟨1,false, .ro 1 [.s [120]],true⟩
def pTs (p:List UInt8):Ts:=(litT p).app (.leaf (holeW p.length) .nil)
theorem lit_go {p:List UInt8} {c:Ctx} (hf:form c=true):tsGo (litT p) c=if (bytesB c p).2 ≥ 0 then .bad (bytesB c p).2 5 else .ok (bytesB c p).1:=by
 unfold litT
 split
 ·rename_i e
  subst e
  rw [bytes_nil hf];rfl
 ·show (leafGo (litW 0 p) c).then' (tsGo .nil)=_
  rw [leafGo_lit]
  split
  ·show WR.bad _ _=_
   congr 1;omega
  ·rfl
theorem hole_go (n:Nat) (c:Ctx):tsGo (.leaf (holeW n) .nil) c=if hole c == 0 then .bad (n:Int) 6 else .ok (after c):=by
 show (leafGo (holeW n) c).then' (tsGo .nil)=_
 have:leafGo (holeW n) c=if hole c == 0 then .bad (n:Int) 6 else .ok (after c):=rfl
 rw [this]
 split <;> rfl
theorem arrH_app:∀ (s t:Ts) (m:Nat) (c d:Ctx),tsGo s c=.ok d→arrH m (s.app t) c=arrH m s c ++ arrH (m+s.size) t d
 | .nil,t,m,c,d,h=>by cases h;rfl
 | .leaf w k,t,m,c,d,h=>by
  obtain ⟨c1,h1,h2⟩:=go_leaf_ok h
  simp only [Ts.app,arrH,Ts.size,h1,WR.get,arrH_app k t (m+1) c1 d h2,List.cons_append]
  rw [Nat.add_assoc m 1]
 | .blk w b e k,t,m,c,d,h=>by
  obtain ⟨h1,h2⟩:=go_blk_ok h
  simp only [Ts.app,arrH,Ts.size,arrH_app k t _ c d h2,List.cons_append,List.append_assoc]
  rw [show m+1+b.size+k.size=m+(1+b.size+k.size) by omega]
 | .alt w b l x e k,t,m,c,d,h=>by
  obtain ⟨c1,h1,h2,h3⟩:=go_alt_ok h
  simp only [Ts.app,arrH,Ts.size,h1,WR.get,arrH_app k t _ c1 d h3,List.cons_append,List.append_assoc]
  rw [show m+1+b.size+x.size+k.size=m+(1+b.size+x.size+k.size) by omega]
theorem frag_hole {p:List UInt8} (hb:∀ x ∈ p,x≠123) (hl:p.length≤60000):fragAV (p ++ actS tX) (st1 0) =
  if (bytesB (st1 0) p).2 ≥ 0 then .tu [noTree,(st1 0).toAV, .int (bytesB (st1 0) p).2, .int 5]
  else if hole (bytesB (st1 0) p).1 == 0 then .tu [noTree,(st1 0).toAV, .int (p.length:Int), .int 6]
  else .tu [.ag [.ro 9 ((arrH 0 (litT p) (st1 0) ++ [nHole (holeW p.length) (bytesB (st1 0) p).1]).map Nd.av), .ro 1 (numsAV ((pTs p).tops 0))],(after (bytesB (st1 0) p).1).toAV, .int 0, .int 0]:=by
 have hm:p.getLast?≠some 123:=fun h=>absurd rfl (hb 123 (List.mem_of_getLast? h))
 have h1:=lx_behind (t:=tX) (a:=0) (by decide) (by rw [aX]) (lx_lits hb) hm
 rw [aX,Nat.zero_add] at h1
 have hflat:(pTs p).flat=(litT p).flat ++ [holeW p.length]:=by unfold pTs;rw [Ts.flat_app];rfl
 have hok:(pTs p).ok:=by
  refine Ts.ok_app _ _ ?_ ⟨?_,trivial⟩
  ·unfold litT;split
   ·trivial
   ·refine ⟨?_,trivial⟩
    show (0:UInt8)≠2∧(0:UInt8)≠3∧(0:UInt8)≠4∧(0:UInt8)≠5
    decide
  ·show (1:UInt8)≠2∧(1:UInt8)≠3∧(1:UInt8)≠4∧(1:UInt8)≠5
   decide
 have hdp:(pTs p).depth≤16:=by
  unfold pTs;rw [Ts.depth_app]
  have:(litT p).depth=0:=by unfold litT;split <;> rfl
  rw [this];show max 0 0≤16;decide
 have hfr:=frag_ts (l:=p ++ actS tX) (c:=st1 0) (ts:=pTs p) rfl rfl (by rw [List.length_append,actS_len];show p.length+(1+4)≤65536;omega) (lx_words (by rw [hflat];exact h1)) hok hdp
 rw [hfr]
 unfold pTs
 rw [go_app,lit_go rfl]
 by_cases hbad:(bytesB (st1 0) p).2 ≥ 0
 ·rw [if_pos hbad,if_pos hbad];rfl
 ·rw [if_neg hbad,if_neg hbad]
  show (match tsGo (.leaf (holeW p.length) .nil) (bytesB (st1 0) p).1 with | .ok d=>_ | .bad a e=>_)=_
  rw [hole_go]
  by_cases hh:(hole (bytesB (st1 0) p).1 == 0)=true
  ·rw [if_pos hh,if_pos hh]
  ·rw [if_neg hh,if_neg hh]
   have hg:tsGo (litT p) (st1 0)=.ok (bytesB (st1 0) p).1:=by rw [lit_go rfl,if_neg hbad]
   simp only
   rw [arrH_app _ _ _ _ _ hg]
   rfl
theorem after_ok {c:Ctx} (hf:form c=true) (hv:okV c=true) (hst:c.st≠20) (hh:hole c≠0):bytesB (after c) (trail (after c))=(st1 0,-1)∧trailE (after c)=(trail (after c),0)∧(trail (after c)).length≤40:=by
 have h1:=form_after c hh hf
 have h0:(hole c == 0)=false:=by simpa using hh
 have h2:(after c).st=c.st:=by
  unfold after
  rw [h0]
  simp only [Bool.false_eq_true,if_false]
  split <;> rfl
 have h3:okV (after c)=true:=by
  unfold after
  rw [h0]
  simp only [Bool.false_eq_true,if_false]
  split
  ·exact hv
  ·exact hv
 have h20:(after c).st≠20:=by rw [h2];exact hst
 obtain ⟨e1,e2⟩:=ends_bytes (after c) h1 h3 h20
 refine ⟨e1,?_,e2⟩
 unfold trailE
 rw [h1,if_pos rfl,if_neg (by simpa using h20)]
theorem noB {l:List UInt8} (h:(l.any fun x=>x == 123 || x == 125)=false):∀ x ∈ l,x≠123:=fun x hx e=>by
 rw [List.any_eq_false] at h
 exact h x hx (by simp [e])
set_option maxHeartbeats 1000000 in
theorem l21 (p:List UInt8) (lp:p.length < 9223372036854775808):∀ m i,p.length=i+m→(∀ x ∈ p.take i,(x == 123 || x == 125)=false) →
  F21_4 (semRun (C mx) Tryd.prog 21 Tryd.f21) p (i:Int)=some (.b true)
 | m+1,i,hi,hn=>by
  apply r21_4
  have hlt:i < p.length:=by omega
  have e:decide ((i:Int) < (p.length:Int))=true:=by rw [decide_eq_true_eq];omega
  have e3:w64 ((i:Int)+1)=((i+1:Nat):Int):=by rw [w64_eq (by omega) (by omega)];omega
  simp only [X21_4,e,condM_b,if_true,idxS_int hlt,Option.bind_some,u8_eql,selW_or,e3]
  cases hx:(p[i] == 123 || p[i] == 125) with
  | true=>rfl
  | false =>
   simp only [Bool.false_eq_true,if_false]
   refine l21 p lp m (i+1) (by omega) fun x hx'=>?_
   rw [List.take_add_one,List.getElem?_eq_getElem hlt] at hx'
   rcases List.mem_append.1 hx' with hx' | hx'
   ·exact hn x hx'
   ·simp only [Option.toList_some,List.mem_singleton] at hx'
    rw [hx'];exact hx
 | 0,i,hi,hn=>by
  apply r21_4
  have e:decide ((i:Int) < (p.length:Int))=false:=by rw [decide_eq_false_iff_not];omega
  have hs2b (p:List UInt8):s2b (.s p)=some (.ro 1 (p.map .u8)):=rfl
  rw [List.take_of_length_le (by omega)] at hn
  have hb:=noB (l:=p) (by rw [List.any_eq_false];exact fun x hx=>by rw [hn x hx];decide)
  have hy:=j42 (mx:=mx) p (st1 0) nz (by omega)
  simp only [X21_4,e,condM_b,Bool.false_eq_true,if_false,hs2b,Option.bind_some,mk_toAV,z0,hy,ti_0,ti_1,asAg_toAV]
  by_cases hl:p.length > 60000
  ·rw [if_pos (by rw [decide_eq_true_eq];omega)]
  ·rw [if_neg (by rw [decide_eq_true_eq];omega)]
   have hadd:binS .add (.s p) (.s [123,123,120,125,125])=some (.s (p ++ actS tX)):=s_add' (by simp only [List.length_cons,List.length_nil];omega)
   have hfr:=frag_hole hb (by omega)
   have hx:=j41 (mx:=mx) (p ++ actS tX) (st1 0) nz
   by_cases hbad:(bytesB (st1 0) p).2 ≥ 0
   ·rw [if_pos hbad] at hfr
    rw [hfr] at hx
    have hg:decide ((bytesB (st1 0) p).2 ≥ 0)=true:=by simpa using hbad
    unfold noTree at hx
    simp only [hadd,hx,Option.bind_some,q0,q1,q2,q3,asAg2,asAg_toAV,R3I.int_geq,hg,condM_b,if_true,Sx.int_eql,beq_self_eq_true,selW_and,Bool.and_self]
   ·rw [if_neg hbad] at hfr
    have hg:decide ((bytesB (st1 0) p).2 ≥ 0)=false:=by simpa using hbad
    have hneg:(bytesB (st1 0) p).2=-1:=by have:=(bytes_small (st1 0) p).2.1;omega
    obtain ⟨hf,hv,hst⟩:=text_okV p (bytesB (st1 0) p).1 (Prod.ext rfl hneg)
    generalize (bytesB (st1 0) p).1=c at hf hv hst hfr ⊢
    have hc:NmS c:=form_lt hf
    have h50:=j50 (mx:=mx) c hc
    have h51:=j51 (mx:=mx) c hc
    by_cases hh:(hole c == 0)=true
    ·rw [if_pos hh] at hfr
     rw [hfr] at hx
     unfold noTree at hx
     simp only [hadd,hx,Option.bind_some,q0,q1,q2,q3,asAg2,asAg_toAV,R3I.int_geq,hg,condM_b,Bool.false_eq_true,if_false,ten0,ten1,ten2,ten3,ten4,ten5,ten6,ten7,ten8,ten9,mk_toAV,mk_eta,h50,u8_eql,hh,if_true,Sx.int_eql,beq_self_eq_true,selW_and,Bool.and_self]
    ·rw [if_neg hh] at hfr
     rw [hfr] at hx
     have hh':(hole c == 0)=false:=by simpa using hh
     obtain ⟨t1,t2,t3⟩:=after_ok hf hv hst (by simpa using hh')
     have hac:NmS (after c):=after_small hc
     have h52:=j52 (mx:=mx) (after c) hac
     rw [t2] at h52
     have h42:=j42 (mx:=mx) (trail (after c)) (after c) hac (by omega)
     rw [t1] at h42
     have hla:(arrH 0 (litT p) (st1 0)).length≤1:=by rw [arrH_len];unfold litT;split <;> first | exact Nat.zero_le _ | exact Nat.le_refl _
     generalize arrH 0 (litT p) (st1 0)=A at hx hla
     have hlen:((A ++ [nHole (holeW p.length) c]).map Nd.av).length=A.length+1:=by simp
     have hsub:binI .sub (.int ((A.length+1:Nat):Int)) (.int 1)=some (.int (A.length:Int)):=by
      show some (AV.int (w64 _))=_
      rw [w64_eq (by omega) (by omega)];congr 2;omega
     have e0:(((A.length+1:Nat):Int) == 0)=false:=by rw [beq_eq_false_iff_ne];omega
     have hix:idx 9 (.ro 9 ((A ++ [nHole (holeW p.length) c]).map Nd.av)) (.int (A.length:Int))=some (nHole (holeW p.length) c).av:=by
      rw [idx_get 9 (by rw [List.length_map,List.length_append];simp)]
      simp
     have k8 (n:Nd):n.av.cell 8=.u8 n.hole:=rfl
     have kh:(nHole (holeW p.length) c).hole=hole c:=rfl
     generalize semCall (C mx) Tryd.prog=call at hx h50 h51 h52 h42 ⊢
     simp only [hadd,hx,Option.bind_some,q0,q1,q2,q3,asAg2,asAg_toAV,R3I.int_geq,hg,condM_b,Bool.false_eq_true,if_false]
     simp only [ten0,ten1,ten2,ten3,ten4,ten5,ten6,ten7,ten8,ten9,mk_toAV,mk_eta]
     simp only [h50,h51,u8_eql,hh',Option.bind_some,condM_b,Bool.false_eq_true,if_false,List.getD_cons_zero,lenR_ro,hlen,Sx.int_neq,bne_self_eq_false,Sx.int_eql,e0,hsub,hix,k8,kh,u8_neq,ne_toAV,decide_true,Bool.not_true,selW_or,Bool.or_self]
     simp only [h52,ts_0,ts_1,hs2b,h42,Option.bind_some,ti_0,ti_1,asAg_toAV,ten0,ten1,ten2,ten3,ten4,ten5,ten6,ten7,ten8,ten9,mk_toAV,mk_eta,eq_toAV,Sx.int_eql,beq_self_eq_true,selW_and,decide_true,Bool.and_self]
theorem law21 (p:List UInt8) (lp:p.length < 9223372036854775808):semCall (C mx) Tryd.prog 21 [.s p]=some (.b true):=by
 apply c21
 have hun:unop .not (.b true)=some (.b false):=rfl
 simp only [X21,j40 (mx:=mx),Option.bind_some,hun,condM_b,Bool.false_eq_true,if_false]
 exact l21 p lp p.length 0 (by omega) (fun x hx=>by simp at hx)
end R3H
