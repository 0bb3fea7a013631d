/-
  A part of InferFragments's proof.
-/
import Derived.Test.YtgjfbalafdifgaaGreatDoorTC
import Derived.Test.YtgjfbalafdifgaaGreatDoorTG
import Derived.Test.YtgjfbalafdifgaaGreatDoorTF
import Derived.Test.YtgjfbalafdifgaaGreatDoorTD
import Derived.Test.YtgjfbalafdifgaaGreatDoorProg
set_option linter.unusedVariables false
set_option linter.unusedSimpArgs false
set_option linter.unusedSectionVars false
set_option linter.unnecessarySimpa false
set_option maxRecDepth 100000
set_option maxHeartbeats 4000000
noncomputable section
namespace EX
open Go Go.Proofs Go.RowKit Go.Shelf Sx R3 eG
variable {mx:Int}
theorem xC {w:World} {F:Nat→Prop} (hG:aQ (eG.C mx) w F) {s q:ByteArray} {c:Ctx} (hc:lH c) (hq:q.data.toList=c.nm) (hf:form c=true) (hst:(c.st == 20)=false) {nodes:List Mn} {top:List Nat} (hp:xK s.data.toList=.ok nodes top)
  {d:Ctx} {N':List Nd} {ta te:Int} (B0:ae (eG.C mx) Tryz.prog 22 [.un,.ro 1 (aF top),c.ay,.ag [.ro 9 (nodes.map Mn.av),.ro 1 (aF top),.int 0,.int 0]]=some (.tu [d.ay,stA N' (.ro 1 (aF top)) ta te])) (Fc:te=0) :
  CallsIn Fence.wide 12 Tryz.prog 11 #[.string s,dx c q] w (bJ w F (.tu [.ag [.ro 9 (N'.map mh),.ro 1 (aF top)],d.ay,.int 0,.int 0])):=by
 have ji:=FM.first w c q
 have bB:=fW (mx:=mx) (aQ.ext' hG ji.ext (F':=F) fun _ _ h=>h) c hc q hq
 rw [hf] at bB
 rw [← xS] at hst
 obtain ⟨hmx,-⟩:=qm hG
 refine callsIn_of_wp Tryz.func11 rfl trivial ?_ rfl
 simp only [Tryz.ntmps11,Nat.reduceAdd,Nat.reduceSub,zC,dx]
 gi_wp2_with (first
  | (refine ⟨trivial,?_⟩;gi_at_call 20;refine (callsIn_wide.2 bB).mono ?_;clear bB;rintro e w2 ⟨rfl,hx2⟩;have hm:=ji.next hx2;have hs2:=hm.size;obtain ⟨⟨p0,p1,p2,p3,p4,p5,p6,p7,p8,p9⟩,-⟩:=bc hm.b0;clear hx2 ji)
  | (refine ⟨trivial,?_⟩;gi_at_call 21;refine (callsIn_wide.2 (callsIn_wide.1 (BS (mx:=mx) s w2 (aD hm.ext hmx)))).mono ?_;rintro e w3 bO;rw [hp] at bO;obtain ⟨hx3,fH,n2,c2,l7,c3,rfl,hown,fw,hr⟩:=bO;clear p0 p1 p2 p3 p4 p5 p6 p7 p8 p9 hp;obtain ⟨fS,th,pc,jM⟩:=(hm.next hx3).var (.slice fH n2 c2) (.slice l7 top.length c3);generalize LS:w3.alloc (.cells #[.slice none 0 0,.slice none 0 0] 26)=W4 at fS th pc jM;generalize ET:(W4.setCell ⟨w3.heap.size,0,none⟩ (.slice fH n2 c2)).setCell ⟨w3.heap.size,1,none⟩ (.slice l7 top.length c3)=W5 at fS pc jM;obtain ⟨t0,t1,t2,t3⟩:=aP th;obtain ⟨z0,z1,z2,z3⟩:=aP pc;have key:=I2 (mx:=mx) hG hc hq hm hx3 jM fS hown fw rfl hr B0;have dK:Ext W5 (W5.alloc (.cells #[.slice fH n2 c2,.slice l7 top.length c3,.int .i64 0,.int .i64 0] 66)):=Ext.push W5 _;generalize Jl:W5.alloc (.cells #[.slice fH n2 c2,.slice l7 top.length c3,.int .i64 0,.int .i64 0] 66)=W6 at key dK;have z4:=aD dK z1;obtain ⟨⟨p0,p1,p2,p3,p4,p5,p6,p7,p8,p9⟩,-⟩:=bc (fS.next dK).b0;have tz:W5.heap.size≠w.heap.size+1:=(by have:=fS.size;omega);have xA:W5.heap.size≠w.heap.size+1+1:=(by have:=fS.size;omega);clear hm th pc hx3 jM fS hown fw hr B0 dK hG hmx hc hq)
  | (refine ⟨trivial,?_⟩;gi_at_call 22;refine (callsIn_wide.2 key).mono ?_;clear key;rintro e w7 ⟨q',a0,a1,m0,m1,k0,k1,e',rfl,hq',EU,Ik,Il,ud,hr1⟩;clear t0 t1 t2 t3 z0 z1 z2 z3 z4 p0 p1 p2 p3 p4 p5 p6 p7 p8 p9 LS ET Jl;have pd:Ext w7 (w7.alloc (.cells #[.int .u8 (d.st.toNat:Int),.int .u8 (d.el.toNat:Int),.bool d.en,.int .u8 (d.at'.toNat:Int),.int .u8 (d.qu.toNat:Int),.int .u8 (d.pa.toNat:Int),.int .u8 (d.su.toNat:Int),.bool d.es,.int .u8 (d.da.toNat:Int),.string q'] 40)):=Ext.push w7 _;have zK:=World.alloc_heap_new w7 (.cells #[.int .u8 (d.st.toNat:Int),.int .u8 (d.el.toNat:Int),.bool d.en,.int .u8 (d.at'.toNat:Int),.int .u8 (d.qu.toNat:Int),.int .u8 (d.pa.toNat:Int),.int .u8 (d.su.toNat:Int),.bool d.es,.int .u8 (d.da.toNat:Int),.string q'] 40);generalize PW:w7.alloc (.cells #[.int .u8 (d.st.toNat:Int),.int .u8 (d.el.toNat:Int),.bool d.en,.int .u8 (d.at'.toNat:Int),.int .u8 (d.qu.toNat:Int),.int .u8 (d.pa.toNat:Int),.int .u8 (d.su.toNat:Int),.bool d.es,.int .u8 (d.da.toNat:Int),.string q'] 40)=W9 at pd zK;have xB:=EU.next pd;have PY:=ud.mono (w':=W9) (fun b hb hf=>⟨hf,pd.block b hb⟩);have PZ:=hr1.mono (w':=W9) (fun b hb hf=>⟨hf,pd.block b hb⟩);clear ud hr1;have BA:=(pd.block _ Ik).trans Il;obtain ⟨⟨l0,l1,l2,l3⟩,-⟩:=kY BA;obtain ⟨⟨y0,y1,y2,y3,y4,y5,y6,y7,y8,y9⟩,-⟩:=bc zK;obtain ⟨b0,b1,b2,b3⟩:=aP xB.b1;obtain ⟨⟨u0,u1,u2,u3,u4,u5,u6,u7,u8,u9⟩,v0,v1,v2,v3,v4,v5,v6,v7,v8,v9⟩:=bc xB.b2;have XB:=EU.size;clear EU Ik Il pd;rw [Fc] at BA l3;unfold dx))
 obtain ⟨Im,hf2⟩:=xB.eA (.slice a0 m0 k0) (.slice a1 m1 k1) (.int .u8 (d.st.toNat:Int)) (.int .u8 (d.el.toNat:Int)) (.bool d.en) (.int .u8 (d.at'.toNat:Int)) (.int .u8 (d.qu.toNat:Int)) (.int .u8 (d.pa.toNat:Int)) (.int .u8 (d.su.toNat:Int)) (.bool d.es) (.int .u8 (d.da.toNat:Int)) (.string q')
 have bO:=xB.good hs2 PY PZ hq'
 have Io:=(cO (W:=((W9.setCell ⟨w.heap.size+1,0,none⟩ (.slice a0 m0 k0)).setCell ⟨w.heap.size+1,1,none⟩ (.slice a1 m1 k1))) xA (.int .u8 (d.st.toNat:Int)) (.int .u8 (d.el.toNat:Int)) (.bool d.en) (.int .u8 (d.at'.toNat:Int)) (.int .u8 (d.qu.toNat:Int)) (.int .u8 (d.pa.toNat:Int)) (.int .u8 (d.su.toNat:Int)) (.bool d.es) (.int .u8 (d.da.toNat:Int)) (.string q')).trans ((au tz).trans ((au tz).trans BA))
 have TJ:=(cO (W:=((W9.setCell ⟨w.heap.size+1,0,none⟩ (.slice a0 m0 k0)).setCell ⟨w.heap.size+1,1,none⟩ (.slice a1 m1 k1))) (b:=w.heap.size+1+1) (k:=w7.heap.size) (by omega) (.int .u8 (d.st.toNat:Int)) (.int .u8 (d.el.toNat:Int)) (.bool d.en) (.int .u8 (d.at'.toNat:Int)) (.int .u8 (d.qu.toNat:Int)) (.int .u8 (d.pa.toNat:Int)) (.int .u8 (d.su.toNat:Int)) (.bool d.es) (.int .u8 (d.da.toNat:Int)) (.string q')).trans ((au (show w7.heap.size≠w.heap.size+1 by omega)).trans ((au (show w7.heap.size≠w.heap.size+1 by omega)).trans zK))
 generalize PX:cR ((W9.setCell ⟨w.heap.size+1,0,none⟩ (.slice a0 m0 k0)).setCell ⟨w.heap.size+1,1,none⟩ (.slice a1 m1 k1)) (w.heap.size+1+1) (.int .u8 (d.st.toNat:Int)) (.int .u8 (d.el.toNat:Int)) (.bool d.en) (.int .u8 (d.at'.toNat:Int)) (.int .u8 (d.qu.toNat:Int)) (.int .u8 (d.pa.toNat:Int)) (.int .u8 (d.su.toNat:Int)) (.bool d.es) (.int .u8 (d.da.toNat:Int)) (.string q')=Wf at Im hf2 bO Io TJ
 obtain ⟨⟨x0,x1,x2,x3⟩,-⟩:=kY Io
 obtain ⟨⟨g0,g1,g2,g3,g4,g5,g6,g7,g8,g9⟩,-⟩:=bc TJ
 unfold cR at PX
 rw [wpIn_wide]
 clear hq' PW BA zK
 go_region_law (fail)
 all_goals gi_wp2
 all_goals first
  | exact bodyPost_ret (results11 _ _ (w.heap.size+1) (w.heap.size+1+1) (.slice a0 m0 k0) (.slice a1 m1 k1) (.int .i64 0) (.int .i64 0) (.int .u8 (d.st.toNat:Int)) (.int .u8 (d.el.toNat:Int)) (.bool d.en) (.int .u8 (d.at'.toNat:Int)) (.int .u8 (d.qu.toNat:Int)) (.int .u8 (d.pa.toNat:Int)) (.int .u8 (d.su.toNat:Int)) (.bool d.es) (.int .u8 (d.da.toNat:Int)) (.string q') rfl rfl rfl rfl Im hf2) rfl bO.drew
end EX
namespace eG
open Go Go.Proofs Sx R3
variable {mx:Int}
theorem tV {A R:List Nd} {x:Nd}:((A ++ x :: R).map mh).getD A.length .un=mh x:=by
 rw [List.getD_eq_getElem?_getD,List.getElem?_map];simp
theorem tW {A R:List Nd} {x:Nd}:lS ((A ++ x :: R).map mh).length (.int (A.length:Int))=some A.length:=eZ (by simp)
theorem Qk {A R:List Nd} {x y:Nd}:((A ++ x :: R).map mh).set A.length (mh y)=(A ++ y :: R).map mh:=by simp
theorem Ql {w:Wd} (h2:w.kind≠2) (h4:w.kind≠4):bh w.kind=0∨bh w.kind=1∨bh w.kind=4:=by
 unfold bh
 repeat' split
 all_goals first
  | exact .inl rfl
  | exact .inr (.inl rfl)
  | exact .inr (.inr rfl)
  | (rename_i h;exact absurd (by simpa using h) h2)
  | (rename_i h;exact absurd (by simpa using h) h4)
theorem iq (x:Nd):AV.cell (mh x) 0=.u8 x.kind:=rfl
theorem om (x:Nd):AV.cell (mh x) 1=.int (x.at':Int):=rfl
theorem zU (x:Nd):AV.cell (mh x) 2=.s x.text:=rfl
theorem ZQ:conv .i64 (.u8 0)=some (.int 0):=rfl
theorem ZR:conv .i64 (.u8 1)=some (.int 1):=rfl
theorem cv2:conv .i64 (.u8 2)=some (.int 2):=rfl
theorem cv3:conv .i64 (.u8 3)=some (.int 3):=rfl
theorem cv4:conv .i64 (.u8 4)=some (.int 4):=rfl
theorem cvb (x:UInt8):conv .u8 (.int (x.toNat:Int))=some (.u8 x):=by
 have h:=x.toNat_lt
 have e:IntKind.u8.wrap (x.toNat:Int)=(x.toNat:Int):=wrap_u8 (by omega) (by omega)
 have e1:conv .u8 (.int (x.toNat:Int))=AV.xV .u8 (IntKind.u8.wrap (x.toNat:Int)):=by simp only [conv,AV.l8,Option.bind_some]
 have e2:AV.xV .u8 (x.toNat:Int)=if 0≤(x.toNat:Int)∧(x.toNat:Int) < 256 then some (.u8 (UInt8.ofNat ((x.toNat:Int)).toNat)) else none:=rfl
 rw [e1,e,e2,if_pos ⟨by omega,by omega⟩,Int.toNat_natCast,UInt8.ofNat_toNat]
theorem Uk:((0:Int) == 0)=true:=rfl
theorem hz (x:UInt8):((x.toNat:Int) == 0)=(x == 0):=by
 rw [Bool.eq_iff_iff,beq_iff_eq,beq_iff_eq]
 constructor
 ·intro h
  exact UInt8.toNat_inj.1 (by show _=0;omega)
 ·intro h
  rw [h];rfl
theorem I3 {w:Wd} (h2:w.kind≠2) (h4:w.kind≠4) (hw:w.at'≤1000000000∧w.text.length≤1000000000) {c:Ctx} (hc:lH c) (A R:List Nd) (top:AV) (a:Int) :
  (∀ d:Ctx,gb w c=.ok d→ae (C mx) Tryz.prog 39 [.un,.int (A.length:Int),c.ay,stA (A ++ dh w :: R) top a 0]=some (.tu [d.ay,stA (A ++ fy w c :: R) top a 0])∧lH d) ∧
  (∀ a' e',gb w c=.bad a' e'→e'≠0∧∃ d:Ctx,ae (C mx) Tryz.prog 39 [.un,.int (A.length:Int),c.ay,stA (A ++ dh w :: R) top a 0]=some (.tu [d.ay,stA (A ++ dh w :: R) top a' e'])):=by
 have go:∀ {r:AV},Jr (A.length:Int) c.st c.el c.en c.at' c.qu c.pa c.su c.es c.da c.nm ((A ++ dh w :: R).map mh) top a 0 (ae (C mx) Tryz.prog) (af (C mx) Tryz.prog 39 Tryz.f39)=some r→ae (C mx) Tryz.prog 39 [.un,.int (A.length:Int),c.ay,stA (A ++ dh w :: R) top a 0]=some r:=fun h=>ZP _ _ _ _ _ _ _ _ _ _ _ _ _ _ _ h
 have yi:ae (C mx) Tryz.prog 55 [c.ay]=some (.int ((hole c).toNat:Int)):=YW ..
 have OB:ae (C mx) Tryz.prog 56 [c.ay]=some (after c).ay:=s56 ..
 have ZT:ae (C mx) Tryz.prog 54 [c.ay,.ro 1 (w.text.map .u8)]=some (ti (cD c w.text)):=s54 c w.text hc (by omega)
 have LP (p:List UInt8):Ny (.s p)=some (.ro 1 (p.map .u8)):=rfl
 have jf:(dh w).kind=bh w.kind:=rfl
 have hat:(dh w).at'=w.at':=rfl
 have UM:(dh w).text=w.text:=rfl
 obtain ⟨m1,m2,m3⟩:=qj c w.text
 unfold gb
 rcases Ql h2 h4 with k | k | k
 ·have hH:fy w c=dh w:=by unfold fy m8 dh;rw [k];rfl
  rw [k,hH]
  simp only [beq_self_eq_true,if_true]
  by_cases hb:(cD c w.text).2 ≥ 0
  ·rw [if_pos hb]
   refine ⟨fun d h=>(by cases h),fun a' e' h=>?_⟩
   cases h
   refine ⟨by decide,(cD c w.text).1,go ?_⟩
   have hd:decide ((cD c w.text).2 ≥ 0)=true:=by simpa using hb
   simp only [Jr,tW,tV,Option.bind_some,iq,om,zU,jf,hat,UM,k,ZQ,bA,Uk,ai,if_true,LP,aC,aJ,ZT,Kv,Kw,ax,gq,hd]
   rw [fK (by omega) (by omega)]
   simp only [Option.bind_some,fJ,zT]
   apply Nu
   simp only [IZ,aC,aJ]
   rfl
  ·rw [if_neg hb]
   refine ⟨fun d h=>?_,fun a' e' h=>(by cases h)⟩
   cases h
   refine ⟨go ?_,m1⟩
   have hd:decide ((cD c w.text).2 ≥ 0)=false:=by simpa using hb
   simp only [Jr,tW,tV,Option.bind_some,iq,om,zU,jf,hat,UM,k,ZQ,bA,Uk,ai,if_true,LP,aC,aJ,ZT,Kv,Kw,ax,gq,hd,Bool.false_eq_true,if_false,zT]
   apply Nu
   simp only [IZ,aC,aJ]
   rfl
 ·have q0:((1:UInt8) == 0)=false:=rfl
  have q1:((1:Int) == 0)=false:=rfl
  have hH:fy w c={ dh w with hole:=hole c }:=by unfold fy m8 dh;rw [k];rfl
  rw [k]
  simp only [q0,Bool.false_eq_true,if_false,beq_self_eq_true,if_true]
  by_cases hh:(hole c == 0)=true
  ·rw [if_pos hh]
   refine ⟨fun d h=>(by cases h),fun a' e' h=>?_⟩
   cases h
   refine ⟨by decide,c,go ?_⟩
   simp only [Jr,tW,tV,Option.bind_some,iq,om,jf,hat,k,ZR,bA,q1,ai,Bool.false_eq_true,if_false,beq_self_eq_true,if_true,aC,aJ,yi,hz,hh,fJ]
   rfl
  ·rw [if_neg hh]
   refine ⟨fun d h=>?_,fun a' e' h=>(by cases h)⟩
   cases h
   have hh:(hole c == 0)=false:=by simpa using hh
   refine ⟨go ?_,ql hc⟩
   simp only [Jr,tW,tV,Option.bind_some,iq,om,jf,hat,k,ZR,bA,q1,ai,Bool.false_eq_true,if_false,beq_self_eq_true,if_true,aC,aJ,yi,hz,hh,cvb,eK,OB,ax,zT]
   rw [hH]
   have e:(AV.ag [.u8 1,.int (w.at':Int),AV.cell (mh (dh w)) 2,AV.cell (mh (dh w)) 3,AV.cell (mh (dh w)) 4,AV.cell (mh (dh w)) 5,AV.cell (mh (dh w)) 6,AV.cell (mh (dh w)) 7,.u8 (hole c)])=mh { dh w with hole:=hole c }:=by
    rw [← k];rfl
   rw [e,Qk]
   rfl
 ·have q0:((4:UInt8) == 0)=false:=rfl
  have q1:((4:UInt8) == 1)=false:=rfl
  have z0:((4:Int) == 0)=false:=rfl
  have z1:((4:Int) == 1)=false:=rfl
  have z2:((4:Int) == 2)=false:=rfl
  have z3:((4:Int) == 3)=false:=rfl
  have hH:fy w c=dh w:=by unfold fy m8 dh;rw [k];rfl
  rw [k,hH]
  simp only [q0,q1,Bool.false_eq_true,if_false]
  refine ⟨fun d h=>?_,fun a' e' h=>(by cases h)⟩
  cases h
  refine ⟨go ?_,hc⟩
  simp only [Jr,tW,tV,Option.bind_some,iq,jf,k,cv4,bA,z0,z1,z2,z3,ai,Bool.false_eq_true,if_false]
  apply Qh
  rfl
theorem Qm (x:Nd):AV.one (AV.int (x.at':Int))=some (.int (x.at':Int)):=rfl
theorem I4 {A R:List Nd} {x:Nd} (hk:x.kind=2∨x.kind=3) {c:Ctx} {top:AV} {a:Int} {r:AV}
  (h:xR (af (C mx) Tryz.prog 39 Tryz.f39) c.st c.el c.en c.at' c.qu c.pa c.su c.es c.da c.nm 0 0 false 0 0 0 0 false 0 [] (AV.cell (mh x) 0) (.int (x.at':Int)) (AV.cell (mh x) 2) (AV.cell (mh x) 3) (AV.cell (mh x) 4) (.ro 1 (aF (x.body.getD []))) (.ro 1 (aF (x.els.getD []))) (AV.cell (mh x) 7) (AV.cell (mh x) 8) ((A ++ x :: R).map mh) top a 0=some r) :
  ae (C mx) Tryz.prog 39 [.un,.int (A.length:Int),c.ay,stA (A ++ x :: R) top a 0]=some r:=by
 have go:∀ {r:AV},Jr (A.length:Int) c.st c.el c.en c.at' c.qu c.pa c.su c.es c.da c.nm ((A ++ x :: R).map mh) top a 0 (ae (C mx) Tryz.prog) (af (C mx) Tryz.prog 39 Tryz.f39)=some r→ae (C mx) Tryz.prog 39 [.un,.int (A.length:Int),c.ay,stA (A ++ x :: R) top a 0]=some r:=fun h=>ZP _ _ _ _ _ _ _ _ _ _ _ _ _ _ _ h
 have z20:((2:Int) == 0)=false:=rfl
 have z21:((2:Int) == 1)=false:=rfl
 have z30:((3:Int) == 0)=false:=rfl
 have z31:((3:Int) == 1)=false:=rfl
 have z32:((3:Int) == 2)=false:=rfl
 apply go
 rcases hk with k | k
 ·simp only [Jr,tW,tV,Option.bind_some,iq,k,cv2,bA,z20,z21,ai,Bool.false_eq_true,if_false,beq_self_eq_true,if_true]
  rw [← k]
  exact h
 ·simp only [Jr,tW,tV,Option.bind_some,iq,k,cv3,bA,z30,z31,z32,ai,Bool.false_eq_true,if_false,beq_self_eq_true,if_true]
  rw [← k]
  exact h
theorem DR {A R:List Nd} {x:Nd} (hk:x.kind=2∨x.kind=3) {c d1:Ctx} {N1:List Nd} {top:AV} {a a1 e1:Int}
  (h1:ae (C mx) Tryz.prog 22 [.un,.ro 1 (aF (x.body.getD [])),c.ay,stA (A ++ x :: R) top a 0]=some (.tu [d1.ay,stA N1 top a1 e1])) (he:e1≠0) :
  ae (C mx) Tryz.prog 39 [.un,.int (A.length:Int),c.ay,stA (A ++ x :: R) top a 0]=some (.tu [d1.ay,stA N1 top a1 e1]):=by
 apply I4 hk
 apply I0
 have z:(e1 == 0)=false:=by simpa using he
 unfold stA at h1
 simp only [BW,aC,aJ,h1,Option.bind_some,ja,jb,l6,ax,zT,kT,kU,kV,kW,bI,bA,z,ai,Bool.false_eq_true,if_false]
 apply I1
 simp only [BX,bA,Option.bind_some,z,gm,ai,Bool.false_eq_true,if_false]
 apply BZ
 rfl
theorem xT {A R:List Nd} {x:Nd} (hk:x.kind=2∨x.kind=3) {c d1 d2:Ctx} {N1 N2:List Nd} {top:AV} {a a1 a2 e2:Int}
  (h1:ae (C mx) Tryz.prog 22 [.un,.ro 1 (aF (x.body.getD [])),c.ay,stA (A ++ x :: R) top a 0]=some (.tu [d1.ay,stA N1 top a1 0]))
  (h2:ae (C mx) Tryz.prog 22 [.un,.ro 1 (aF (x.els.getD [])),c.ay,stA N1 top a1 0]=some (.tu [d2.ay,stA N2 top a2 e2])) :
  ae (C mx) Tryz.prog 39 [.un,.int (A.length:Int),c.ay,stA (A ++ x :: R) top a 0]=some (.tu [d1.ay,if (e2 == 0 && !decide (d1=d2))=true then stA N2 top (x.at':Int) 7 else stA N2 top a2 e2]):=by
 apply I4 hk
 apply I0
 unfold stA at h1 h2
 simp only [BW,aC,aJ,h1,Option.bind_some,ja,jb,l6,ax,zT,kT,kU,kV,kW,bI,bA,beq_self_eq_true,ai,if_true,h2]
 apply I1
 simp only [BX,bA,Option.bind_some,aC,aJ,qM,aA,ai,Qm]
 split
 ·apply BZ
  rfl
 ·apply BZ
  rfl
theorem tX:∀ (ts:Ts) (pre:List Nat) (c:Ctx) (A B:List Nd) (x:Int) (top:AV),ts.ok→lH c→(∀ w ∈ ts.flat,w.at'≤1000000000∧w.text.length≤1000000000)→pre.length+ts.size≤1000000 →
  (∀ d:Ctx,bK ts c=.ok d→LF mx (pre ++ ts.aL A.length) pre.length c (A ++ (ts.arr A.length ++ B)) top x 0=some (.tu [d.ay,stA (A ++ (cj A.length ts c ++ B)) top x 0])∧lH d) ∧
  (∀ a e,bK ts c=.bad a e→e≠0∧∃ (c':Ctx) (N':List Nd),LF mx (pre ++ ts.aL A.length) pre.length c (A ++ (ts.arr A.length ++ B)) top x 0=some (.tu [c'.ay,stA N' top a e]))
 | .nil,pre,c,A,B,x,top,ho,hc,hw,hn=>by
  refine ⟨fun d h=>?_,fun a e h=>by simp [bK] at h⟩
  simp only [bK,WR.ok.injEq] at h
  subst h
  exact ⟨DO (by simp [Ts.aL]) _ _ _ _ _,hc⟩
 | .leaf w k,pre,c,A,B,x,top,ho,hc,hw,hn=>by
  obtain ⟨⟨k2,k3,k4,k5⟩,hk⟩:=ho
  simp only [Ts.size] at hn
  have ht:=cG k (A.length+1)
  have hL:(pre ++ A.length :: k.aL (A.length+1)).length≤1000000:=by simp only [List.length_append,List.length_cons];omega
  have hi:(pre ++ A.length :: k.aL (A.length+1))[pre.length]?=some A.length:=by simp
  have he:A ++ (Ts.arr A.length (.leaf w k) ++ B)=A ++ dh w :: (k.arr (A.length+1) ++ B):=by simp [Ts.arr]
  obtain ⟨n1,n2⟩:=I3 (mx:=mx) k2 k4 (hw w (by simp [Ts.flat])) hc A (k.arr (A.length+1) ++ B) top x
  have ih:=fun c1 hc1=>tX k (pre ++ [A.length]) c1 (A ++ [fy w c]) B x top hk hc1 (fun y hy=>hw y (by simp [Ts.flat,hy])) (by simp only [List.length_append,List.length_cons,List.length_nil];omega)
  simp only [List.length_append,List.length_cons,List.length_nil,Nat.zero_add,List.append_assoc,List.singleton_append] at ih
  show (∀ d:Ctx,_→LF mx (pre ++ A.length :: k.aL (A.length+1)) pre.length c _ top x 0=_∧_)∧(∀ a e,_→_∧∃ c' N',LF mx (pre ++ A.length :: k.aL (A.length+1)) pre.length c _ top x 0=_)
  rw [he]
  refine ⟨fun d h=>?_,fun a e h=>?_⟩
  ·unfold bK at h
   cases hl:gb w c with
   | bad a e=>rw [hl] at h;cases h
   | ok c1 =>
    rw [hl] at h
    have h:bK k c1=.ok d:=h
    obtain ⟨g1,g2⟩:=n1 c1 hl
    obtain ⟨i1,i2⟩:=(ih c1 g2).1 d h
    refine ⟨(gf hi hL g1 i1).trans ?_,i2⟩
    simp only [cj,hl,WR.get,List.cons_append]
  ·unfold bK at h
   cases hl:gb w c with
   | bad a' e' =>
    rw [hl] at h;cases h
    obtain ⟨g1,d,g2⟩:=n2 a e hl
    exact ⟨g1,d,_,gf hi hL g2 (lN _ _ _ _ g1)⟩
   | ok c1 =>
    rw [hl] at h
    have h:bK k c1=.bad a e:=h
    obtain ⟨g1,g2⟩:=n1 c1 hl
    obtain ⟨i1,c',N',i2⟩:=(ih c1 g2).2 a e h
    exact ⟨i1,c',N',gf hi hL g1 i2⟩
 | .blk w b e' k,pre,c,A,B,x,top,ho,hc,hw,hn=>by
  obtain ⟨hk,ke,hb,oC⟩:=ho
  simp only [Ts.size] at hn
  have ht:=cG k (A.length+1+b.size)
  have hL:(pre ++ A.length :: k.aL (A.length+1+b.size)).length≤1000000:=by simp only [List.length_append,List.length_cons];omega
  have hi:(pre ++ A.length :: k.aL (A.length+1+b.size))[pre.length]?=some A.length:=by simp
  have he:A ++ (Ts.arr A.length (.blk w b e' k) ++ B)=A ++ iz w (b.aL (A.length+1)) :: (b.arr (A.length+1) ++ (k.arr (A.length+1+b.size) ++ B)):=by simp [Ts.arr]
  have Ip:A ++ (cj A.length (.blk w b e' k) c ++ B)=A ++ iz w (b.aL (A.length+1)) :: (cj (A.length+1) b c ++ (cj (A.length+1+b.size) k c ++ B)):=by simp [cj]
  show (∀ d:Ctx,_→LF mx (pre ++ A.length :: k.aL (A.length+1+b.size)) pre.length c _ top x 0=_∧_)∧(∀ a e,_→_∧∃ c' N',LF mx (pre ++ A.length :: k.aL (A.length+1+b.size)) pre.length c _ top x 0=_)
  rw [he,Ip]
  clear he Ip
  have yh:(iz w (b.aL (A.length+1))).kind=2∨(iz w (b.aL (A.length+1))).kind=3:=zL hk
  have Dr:(iz w (b.aL (A.length+1))).body.getD []=b.aL (A.length+1):=rfl
  have Cb:(iz w (b.aL (A.length+1))).els.getD []=[]:=rfl
  have Fk:(iz w (b.aL (A.length+1))).at'=w.at':=rfl
  generalize iz w (b.aL (A.length+1))=nd at yh Dr Cb Fk ⊢
  have vV:=tX b [] c (A ++ [nd]) (k.arr (A.length+1+b.size) ++ B) x top hb hc (fun y hy=>hw y (by simp [Ts.flat,hy])) (by simp only [List.length_nil];omega)
  simp only [List.length_append,List.length_cons,List.length_nil,Nat.zero_add,List.append_assoc,List.singleton_append,List.nil_append] at vV
  have xE:=fun c1 hc1=>tX k (pre ++ [A.length]) c1 (A ++ nd :: cj (A.length+1) b c) B x top oC hc1 (fun y hy=>hw y (by simp [Ts.flat,hy])) (by simp only [List.length_append,List.length_cons,List.length_nil];omega)
  simp only [List.length_append,List.length_cons,List.length_nil,Nat.zero_add,di,List.append_assoc,List.cons_append,List.nil_append] at xE
  rw [show A.length+(b.size+1)=A.length+1+b.size by omega] at xE
  have good:∀ a,bK b c=.ok a→ae (C mx) Tryz.prog 39 [.un,.int (A.length:Int),c.ay,stA (A ++ nd :: (b.arr (A.length+1) ++ (k.arr (A.length+1+b.size) ++ B))) top x 0]=some (.tu [a.ay,if a=c then stA (A ++ nd :: (cj (A.length+1) b c ++ (k.arr (A.length+1+b.size) ++ B))) top x 0 else stA (A ++ nd :: (cj (A.length+1) b c ++ (k.arr (A.length+1+b.size) ++ B))) top (w.at':Int) 7]):=fun a h=>by
   have h1:=Mc (vV.1 a h).1
   rw [← Dr] at h1
   have h2:=Mc (DO (mx:=mx) (L:=nd.els.getD []) (j:=0) (by rw [Cb];exact Nat.le_refl _) c (A ++ nd :: (cj (A.length+1) b c ++ (k.arr (A.length+1+b.size) ++ B))) top x 0)
   rw [xT yh h1 h2,Fk]
   by_cases Jo:a=c
   ·rw [if_neg (by simp [Jo]),if_pos Jo]
   ·rw [if_pos (by simp [Jo]),if_neg Jo]
  refine ⟨fun d h=>?_,fun a e h=>?_⟩
  ·unfold bK at h
   cases hl:bK b c with
   | bad a e=>rw [hl] at h;cases h
   | ok c1 =>
    rw [hl] at h
    have h:(if c1=c then bK k c else _)=WR.ok d:=h
    by_cases hc1:c1=c
    ·rw [if_pos hc1] at h
     have g:=good c1 hl
     rw [if_pos hc1] at g
     subst hc1
     obtain ⟨i1,i2⟩:=(xE c1 hc).1 d h
     exact ⟨gf hi hL g i1,i2⟩
    ·rw [if_neg hc1] at h;cases h
  ·unfold bK at h
   cases hl:bK b c with
   | bad a' e' =>
    rw [hl] at h;cases h
    obtain ⟨g1,c',N',g2⟩:=vV.2 a e hl
    have h1:=Mc g2
    rw [← Dr] at h1
    exact ⟨g1,_,_,gf hi hL (DR yh h1 g1) (lN _ _ _ _ g1)⟩
   | ok c1 =>
    rw [hl] at h
    have h:(if c1=c then bK k c else _)=WR.bad a e:=h
    have g:=good c1 hl
    by_cases hc1:c1=c
    ·rw [if_pos hc1] at h g
     subst hc1
     obtain ⟨i1,c',N',i2⟩:=(xE c1 hc).2 a e h
     exact ⟨i1,c',N',gf hi hL g i2⟩
    ·rw [if_neg hc1] at h g;cases h
     exact ⟨by decide,_,_,gf hi hL g (lN _ _ _ _ (by decide))⟩
 | .alt w b l y e' k,pre,c,A,B,x,top,ho,hc,hw,hn=>by
  obtain ⟨hk,kl,ke,hb,hy,oC⟩:=ho
  simp only [Ts.size] at hn
  have ht:=cG k (A.length+1+b.size+y.size)
  have hL:(pre ++ A.length :: k.aL (A.length+1+b.size+y.size)).length≤1000000:=by simp only [List.length_append,List.length_cons];omega
  have hi:(pre ++ A.length :: k.aL (A.length+1+b.size+y.size))[pre.length]?=some A.length:=by simp
  have he:A ++ (Ts.arr A.length (.alt w b l y e' k) ++ B)=A ++ je w (b.aL (A.length+1)) (y.aL (A.length+1+b.size)) :: (b.arr (A.length+1) ++ (y.arr (A.length+1+b.size) ++ (k.arr (A.length+1+b.size+y.size) ++ B))):=by simp [Ts.arr]
  have Ip:A ++ (cj A.length (.alt w b l y e' k) c ++ B)=A ++ je w (b.aL (A.length+1)) (y.aL (A.length+1+b.size)) :: (cj (A.length+1) b c ++ (cj (A.length+1+b.size) y c ++ (cj (A.length+1+b.size+y.size) k ((bK b c).get c) ++ B))):=by simp [cj]
  show (∀ d:Ctx,_→LF mx (pre ++ A.length :: k.aL (A.length+1+b.size+y.size)) pre.length c _ top x 0=_∧_)∧(∀ a e,_→_∧∃ c' N',LF mx (pre ++ A.length :: k.aL (A.length+1+b.size+y.size)) pre.length c _ top x 0=_)
  rw [he,Ip]
  clear he Ip
  have yh:(je w (b.aL (A.length+1)) (y.aL (A.length+1+b.size))).kind=2∨(je w (b.aL (A.length+1)) (y.aL (A.length+1+b.size))).kind=3:=.inl (by show bh w.kind=2;rw [hk];rfl)
  have Dr:(je w (b.aL (A.length+1)) (y.aL (A.length+1+b.size))).body.getD []=b.aL (A.length+1):=rfl
  have Cb:(je w (b.aL (A.length+1)) (y.aL (A.length+1+b.size))).els.getD []=y.aL (A.length+1+b.size):=rfl
  have Fk:(je w (b.aL (A.length+1)) (y.aL (A.length+1+b.size))).at'=w.at':=rfl
  generalize je w (b.aL (A.length+1)) (y.aL (A.length+1+b.size))=nd at yh Dr Cb Fk ⊢
  have vV:=tX b [] c (A ++ [nd]) (y.arr (A.length+1+b.size) ++ (k.arr (A.length+1+b.size+y.size) ++ B)) x top hb hc (fun z hz=>hw z (by simp [Ts.flat,hz])) (by simp only [List.length_nil];omega)
  simp only [List.length_append,List.length_cons,List.length_nil,Nat.zero_add,List.append_assoc,List.singleton_append,List.nil_append] at vV
  have LU:=tX y [] c (A ++ nd :: cj (A.length+1) b c) (k.arr (A.length+1+b.size+y.size) ++ B) x top hy hc (fun z hz=>hw z (by simp [Ts.flat,hz])) (by simp only [List.length_nil];omega)
  simp only [List.length_append,List.length_cons,List.length_nil,di,List.append_assoc,List.cons_append,List.nil_append] at LU
  rw [show A.length+(b.size+1)=A.length+1+b.size by omega] at LU
  have xE:=fun c1 hc1=>tX k (pre ++ [A.length]) c1 (A ++ nd :: (cj (A.length+1) b c ++ cj (A.length+1+b.size) y c)) B x top oC hc1 (fun z hz=>hw z (by simp [Ts.flat,hz])) (by simp only [List.length_append,List.length_cons,List.length_nil];omega)
  simp only [List.length_append,List.length_cons,List.length_nil,Nat.zero_add,di,List.append_assoc,List.cons_append,List.nil_append] at xE
  rw [show A.length+(b.size+y.size+1)=A.length+1+b.size+y.size by omega] at xE
  have hgo:bK (.alt w b l y e' k) c=(bK b c).then' fun a=>(bK y c).then' fun z=>if a=z then bK k z else .bad (w.at':Int) 7:=rfl
  simp only [hgo]
  cases hl:bK b c with
  | bad a1 e1 =>
   refine ⟨fun d h=>(by cases h),fun a e h=>?_⟩
   cases h
   obtain ⟨i1,c',N',i2⟩:=vV.2 _ _ hl
   have h1:=Mc i2
   rw [← Dr] at h1
   exact ⟨i1,_,_,gf hi hL (DR yh h1 i1) (lN _ _ _ _ i1)⟩
  | ok a1 =>
   have h1:=Mc (vV.1 a1 hl).1
   rw [← Dr] at h1
   cases hr:bK y c with
   | bad a2 e2 =>
    refine ⟨fun d h=>(by cases h),fun a e h=>?_⟩
    cases h
    obtain ⟨j1,c',N',j2⟩:=LU.2 _ _ hr
    have h2:=Mc j2
    rw [← Cb] at h2
    have g:=xT yh h1 h2
    rw [if_neg (by simp [j1])] at g
    exact ⟨j1,_,_,gf hi hL g (lN _ _ _ _ j1)⟩
   | ok a2 =>
    obtain ⟨j1,j2⟩:=LU.1 a2 hr
    have h2:=Mc j1
    rw [← Cb] at h2
    have g:=xT yh h1 h2
    rw [Fk] at g
    show (∀ d,(if a1=a2 then bK k a2 else _)=WR.ok d→_)∧(∀ a e,(if a1=a2 then bK k a2 else _)=WR.bad a e→_)
    by_cases hc1:a1=a2
    ·subst hc1
     simp only [if_true]
     rw [if_neg (by simp)] at g
     refine ⟨fun d h=>?_,fun a e h=>?_⟩
     ·obtain ⟨i1,i2⟩:=(xE a1 j2).1 d h
      exact ⟨gf hi hL g i1,i2⟩
     ·obtain ⟨i1,c',N',i2⟩:=(xE a1 j2).2 a e h
      exact ⟨i1,c',N',gf hi hL g i2⟩
    ·simp only [if_neg hc1]
     rw [if_pos (by simp [hc1])] at g
     refine ⟨fun d h=>(by cases h),fun a e h=>?_⟩
     cases h
     exact ⟨by decide,_,_,gf hi hL g (lN _ _ _ _ (by decide))⟩
end eG
namespace EX
open Go Go.Proofs Go.RowKit Go.Shelf Sx R3 eG
variable {mx:Int}
def jT (l:List UInt8) (c:Ctx):AV :=
 if !form c || c.st == 20 then .tu [dG,(bG 0).ay,.int 0,.int 1]
 else match dw l with
  | .bad a e=>.tu [dG,(bG 0).ay,.int (a:Int),.int (e:Int)]
  | .ok nodes top=>match dg (2 * nodes.length+1) top c ⟨nodes,0,0⟩ with
   | none=>.un
   | some (d,t)=>if t.e != 0 then .tu [dG,(bG 0).ay,.int t.at',.int t.e] else .tu [.ag [.ro 9 (t.nodes.map mh),.ro 1 (aF top)],d.ay,.int 0,.int 0]
theorem I5 {l:List UInt8} {a e:Nat} (h:dw l=.bad a e):xK l=.bad a e:=by
 unfold dw at h
 unfold xK
 split at h
 ·rename_i h1
  rw [if_pos h1];cases h;rfl
 ·rename_i h1
  rw [if_neg h1]
  split at h
  ·rename_i h2
   rw [if_pos h2];cases h;rfl
  ·rename_i h2
   rw [if_neg h2]
   exact EZ h
theorem DT {l:List UInt8} {nodes:List Nd} {top:List Nat} (h:dw l=.ok nodes top):∃ ts:Ts,ts.ok∧nodes=ts.arr 0∧top=ts.aL 0∧xK l=.ok (nodes.map Nd.mn) top∧(nodes.map Nd.mn).map Mn.av=nodes.map mh∧ts.size≤65536∧(∀ w ∈ ts.flat,w.at'≤65536∧w.text.length≤65536)∧∀ w ∈ ts.flat,cZ w.names:=by
 unfold dw at h
 unfold xK
 split at h
 ·cases h
 ·rename_i h1
  rw [if_neg h1]
  split at h
  ·cases h
  ·rename_i h2
   rw [if_neg h2]
   obtain ⟨ts,t1,t2,t3,rfl,rfl⟩:=vg h
   have hw:=gz (l.length+1) l 0 [] 65536 (by omega) (fun w hw=>by simp at hw)
   have hw:∀ w ∈ (bn l).1,w.at'≤65536∧w.text.length≤65536:=hw
   have hlen:=fG (l.length+1) l 0 []
   have hlen:(bn l).1.length≤l.length:=by simpa [bn] using hlen
   have hn:∀ w ∈ (bn l).1,cZ w.names:=ib _ _ _ _ fun w hw=>by simp at hw
   rw [t3] at hw hlen hn
   have hs:=Ts.fT ts
   refine ⟨ts,t1,rfl,rfl,by rw [t3,Ir t1 t2,ng],?_,by omega,hw,hn⟩
   rw [List.map_map]
   exact List.map_congr_left fun x hx=>(TY (k9 ts 0 x hx).1).symm
theorem I6 {w:World} {F:Nat→Prop} (hG:aQ (eG.C mx) w F) (s q:ByteArray) (c:Ctx) (hc:lH c) (hq:q.data.toList=c.nm) :
  CallsIn Fence.wide 12 Tryz.prog 11 #[.string s,dx c q] w (bJ w F (jT s.data.toList c)):=by
 unfold jT
 cases hf:form c with
 | false=>exact o8 hG hc hq hf
 | true =>
  cases hst:c.st == 20 with
  | true=>exact o9 hG hc hq hf hst
  | false =>
   simp only [Bool.not_true,Bool.or_self,Bool.false_eq_true,if_false]
   cases hp:dw s.data.toList with
   | bad a e=>exact mX hG hc hq hf hst (mZ hp) (I5 hp)
   | ok nodes top =>
    obtain ⟨ts,g0,rfl,rfl,g1,g2,g3,g4,-⟩:=DT hp
    have hsz:=cG ts 0
    have FD:(ts.arr 0).length=ts.size:=Ts.eH ts 0
    obtain ⟨k1,k2⟩:=fL ts c [] [] 0 (2 * (ts.arr 0).length+1) g0 (by rw [FD];exact Nat.le_refl _)
    obtain ⟨r1,r2⟩:=tX (mx:=mx) ts [] c [] [] 0 (.ro 1 (aF (ts.aL 0))) g0 hc (fun w hw=>by have:=g4 w hw;omega) (by simp only [List.length_nil];omega)
    simp only [List.length_nil,List.nil_append,List.append_nil] at k1 k2 r1 r2
    have TZ:∀ {r:AV},ae (eG.C mx) Tryz.prog 22 [.un,.ro 1 (aF (ts.aL 0)),c.ay,stA (ts.arr 0) (.ro 1 (aF (ts.aL 0))) 0 0]=some r→ae (eG.C mx) Tryz.prog 22 [.un,.ro 1 (aF (ts.aL 0)),c.ay,.ag [.ro 9 (((ts.arr 0).map Nd.mn).map Mn.av),.ro 1 (aF (ts.aL 0)),.int 0,.int 0]]=some r:=fun h=>by rw [g2];exact h
    dsimp only
    cases hgo:bK ts c with
    | ok d =>
     rw [k1 d hgo]
     exact xC hG hc hq hf hst g1 (TZ (Mc (r1 d hgo).1)) rfl
    | bad a e =>
     obtain ⟨h1,c',N',h2⟩:=k2 a e hgo
     obtain ⟨_,c2,N2,h3⟩:=r2 a e hgo
     rw [h2]
     simp only
     rw [if_pos (by simpa using h1)]
     exact tq hG hc hq hf hst g1 (TZ (Mc h3)) h1
def T1 (args:List AV):Option AV :=
 match args with
 | [.s l,a]=>match Ds a with
  | some c=>if c.nm.length < 9223372036854775808 then some (jT l c) else none
  | none=>none
 | _=>none
theorem Md {C':cU} {mx:Int} (A0:C'.glob=(eG.C mx).glob) (ho:(C'.own 11).all Option.isNone=true) (args:List AV) (r:AV) (h:T1 args=some r) (w:World) (F:Nat→Prop) (vs:Array Value) (hG:aQ C' w F) (hl:vs.size=args.length)
  (hv:∀ (j:Nat) (a:AV) (v:Value),args[j]?=some a→vs[j]?=some v→Rel w F a v):dN Tryz.prog 11 vs w (fX C' 11 w F r):=by
 have XC:aQ (eG.C mx) w F:=fun g k e hg=>hG g k e (by rw [A0];exact hg)
 unfold T1 at h
 split at h
 ·rename_i l a
  split at h
  ·rename_i c hc
   split at h
   ·rename_i hn
    cases h
    obtain rfl:=zM hc
    match vs,hl,hv with
    | ⟨[x,y]⟩,_,hv =>
     have hx:=hv 0 _ x rfl rfl
     have hy:=hv 1 _ y rfl rfl
     cases hx with
     | s p =>
      obtain ⟨q,hq,rfl⟩:=rq hy
      refine .inl ⟨Tryz.f11,(Tryz.f11.body).getD .skip,Tryz.func11,by kernel_rfl,by kernel_rfl,Calls.mono (callsIn_wide.1 (I6 (mx:=mx) XC p q c hn hq)) fun e w' he=>?_⟩
      obtain ⟨hx,v,rfl,hr⟩:=he
      refine ⟨_,rfl,hx,?_⟩
      unfold eV
      rw [if_pos ho]
      exact hr
   ·cases h
  ·cases h
 ·cases h
end EX
namespace R3
open Go Go.Proofs Sx
variable {mx:Int}
def DU (run:RunT) (a b:AV) (d:Int):Option AV :=
 run ((bP 4 ((Tryz.f27.body).getD .skip) []).getD []) (St.bX [(0,.cell (.val a)),(1,.cell (.val b)),(5,.cell (.val (.int d)))] [])
def ZU (a b:AV) (c:aq) (r:RunT):Option AV :=
 (eP a).bind fun d=>(eP b).bind fun e=>(aH .neq d e).bind fun f=>ah f
 (some (.b false))
 (DU r a b 0)
theorem c27 (a b) {r:AV} (h:ZU a b (ae (C mx) Tryz.prog) (af (C mx) Tryz.prog 27 Tryz.f27)=some r):ae (C mx) Tryz.prog 27 [a,b]=some r :=
 aj (fun _ _=>by kernel_rfl) h
def I7 (a b:AV) (d:Int) (c:aq) (r:RunT):Option AV :=
 (eP a).bind fun e=>(aH .lss (.int d) e).bind fun f=>ah f
 ((idx 1 a (.int d)).bind fun g=>(idx 1 b (.int d)).bind fun i=>(aH .neq (AV.cell g 0) (AV.cell i 0)).bind fun j=>ah j
 (some (.b false))
 (DU r a b (bN (d+1))))
 (some (.b true))
theorem Nv (a b d) {r:AV} (h:I7 a b d (ae (C mx) Tryz.prog) (af (C mx) Tryz.prog 27 Tryz.f27)=some r):DU (af (C mx) Tryz.prog 27 Tryz.f27) a b d=some r :=
 ak (fun _ _=>by kernel_rfl) h
end R3
namespace R3
open Go Go.RowKit Sx
section
variable {P:Program} {ops:Array Oper} {nc:List Nat} {Q:Exit→Act→World→Prop} {E:World→World→Prop}
theorem tY {id:Nat} {a:Act} {w:World} (hm:P.follows .mixedOrders=true) (nc:List Nat) (E:World→World→Prop) (l:List (Nat×Bool)) (i j:Nat) (l2 l3:List (Nat×Bool)) (L:List Bool)
  (hp:qo ops nc (fun listed=>decide (listed=L.toArray)) (Array.replicate ops.size false) l=true)
  (ZV:Region.ready .any ops L.toArray=[i,j])
  (h2:qo ops nc (fun listed=>(Region.ready .any ops listed).isEmpty) (L.toArray.setIfInBounds i true) l2=true)
  (h3:qo ops nc (fun listed=>(Region.ready .any ops listed).isEmpty) (L.toArray.setIfInBounds j true) l3=true)
  (hlen:Nat.beq (l.length+(l2.length+1)) ops.size=true) (T2:Nat.beq l3.length l2.length=true) (hs:Region.noSelect ops=true)
  (hr:∀ w,E w w) (ht:∀ u v w,E u v→E v w→E u w)
  (h:ug P ops nc (NoPanic Q) E l (fun a w=>ug P ops nc (NoPanic Q) E ((i,false) :: l2) (fun a w=>Q .normal a w) a w∧ug P ops nc (NoPanic Q) E ((j,false) :: l3) (fun a w=>Q .normal a w) a w) a w.drew):(Code.region id ops true).wp P Q a w:=by
 refine wp_region_noPanic ?_
 refine wp_region_any hm ?_
 have hl:=Nat.eq_of_beq_eq_true hlen
 have Fh:=Nat.eq_of_beq_eq_true T2
 have fin:∀ (l:List (Nat×Bool)) (listed:Array Bool) (a:Act) (w:World),fB ops listed→qo ops nc (fun listed=>(Region.ready .any ops listed).isEmpty) listed l=true→ug P ops nc (NoPanic Q) E l (fun a w=>Q .normal a w) a w→pq P ops nc (NoPanic Q) E (l.length+0) listed a w:=fun l listed a w jw hpl hw =>
  fU (m:=0) hr ht hs (fun _ _ _ h=>h) (fun listed a w jw hk hn=>⟨by simpa using hk,hn⟩) l listed a w jw hpl hw
 have key:=fU (m:=l2.length+1) hr ht hs (fun _ _ _ h=>h) (k:=fun listed=>decide (listed=L.toArray)) (N:=fun a w=>ug P ops nc (NoPanic Q) E ((i,false) :: l2) (fun a w=>Q .normal a w) a w∧ug P ops nc (NoPanic Q) E ((j,false) :: l3) (fun a w=>Q .normal a w) a w)
  (fun listed a w jw hk hn=>by
   obtain rfl:=of_decide_eq_true hk
   refine ⟨fun e=>(by rw [ZV] at e;cases e),fun q hq=>?_⟩
   have hq':=hq
   rw [ZV] at hq'
   simp only [List.mem_cons,List.not_mem_nil,or_false] at hq'
   rcases hq' with rfl | rfl
   ·exact wpOp_mono (fun a' w' hh=>⟨hh.1,fin l2 _ _ _ (jw.set hq) h2 hh.2⟩) (show wpOp P ops (NoPanic Q) q (fun a' w'=>(quiet nc q=true→E w w')∧ug P ops nc (NoPanic Q) E l2 (fun a w=>Q .normal a w) a' w') a w from hn.1)
   ·exact wpOp_mono (fun a' w' hh=>⟨hh.1,by have:=fin l3 _ _ _ (jw.set hq) h3 hh.2;rwa [Fh] at this⟩) (show wpOp P ops (NoPanic Q) q (fun a' w'=>(quiet nc q=true→E w w')∧ug P ops nc (NoPanic Q) E l3 (fun a w=>Q .normal a w) a' w') a w from hn.2)) l (Array.replicate ops.size false) a _
  (fun j o hj=>by
   simp [Array.getD] at hj) hp h
 rw [hl] at key
 exact pq.any _ key
end
end R3
namespace R3
open Go Go.Proofs Go.RowKit Go.Shelf Sx
variable {mx:Int}
def DV (a:AV) (l:List Nat):Prop:=a=.ro 1 (aF l)∨(a=.aG∧l=[])
theorem lO (o:Option (List Nat)):DV (dA o) (o.getD []):=by
 cases o with
 | none=>exact .inr ⟨rfl,rfl⟩
 | some l=>exact .inl rfl
theorem rE {a:AV} {l:List Nat} (h:DV a l):eP a=some (.int (l.length:Int)):=by
 rcases h with rfl | ⟨rfl,rfl⟩
 ·simp [eP,aF]
 ·rfl
theorem DW {a:AV} {l:List Nat} (h:DV a l) {i:Nat} (hi:i < l.length):idx 1 a (.int (i:Int))=some (.int (l[i]:Int)):=by
 rcases h with rfl | ⟨rfl,rfl⟩
 ·rw [lF 1 (by rw [aF,List.length_map];exact hi)]
  simp only [aF,List.getElem_map]
 ·simp at hi
theorem gN {a:AV} {l:List Nat} (h:DV a l) {w:World} {F:Nat→Prop} {v:Value} (hr:Rel w F a v):∃ (ad:Option Addr) (n c:Nat),v=.slice ad n c:=by
 rcases h with rfl | ⟨rfl,rfl⟩
 ·obtain ⟨ad,c,h,_⟩:=bw hr
  exact ⟨_,_,_,h⟩
 ·cases hr
  exact ⟨_,_,_,rfl⟩
theorem ZW {a b:AV} {l:List Nat} (ha:DV a l) (hb:DV b l) (hl:l.length≤100000):∀ (m i:Nat),l.length=i+m→DU (af (C mx) Tryz.prog 27 Tryz.f27) a b (i:Int)=some (.b true)
 | 0,i,hi=>by
  apply Nv
  have e:decide ((i:Int) < (l.length:Int))=false:=by rw [decide_eq_false_iff_not];omega
  simp only [I7,rE ha,Option.bind_some,bo,e,ai,Bool.false_eq_true,if_false]
 | m+1,i,hi=>by
  apply Nv
  have hlt:i < l.length:=by omega
  have e:decide ((i:Int) < (l.length:Int))=true:=by rw [decide_eq_true_eq];omega
  have e3:bN ((i:Int)+1)=((i+1:Nat):Int):=by rw [cJ (by omega) (by omega)];omega
  have hc:AV.cell (.int (l[i]:Int)) 0=.int (l[i]:Int):=rfl
  simp only [I7,rE ha,Option.bind_some,bo,e,ai,if_true,DW ha hlt,DW hb hlt,hc,gp,bne_self_eq_false,Bool.false_eq_true,if_false,e3]
  exact ZW ha hb hl m (i+1) (by omega)
theorem s27 {a b:AV} {l:List Nat} (ha:DV a l) (hb:DV b l) (hl:l.length≤100000):ae (C mx) Tryz.prog 27 [a,b]=some (.b true):=by
 apply c27
 simp only [ZU,rE ha,rE hb,Option.bind_some,gp,bne_self_eq_false,ai,Bool.false_eq_true,if_false]
 exact ZW (mx:=mx) ha hb hl l.length 0 (by omega)
theorem T3 {w:World} {F:Nat→Prop} {a b:AV} {u v:Value} (h:Rel w F a u) (h2:Rel w F b v):∀ (j:Nat) (a':AV) (v':Value),([a,b]:List AV)[j]?=some a'→(#[u,v]:Array Value)[j]?=some v'→Rel w F a' v':=by
 intro j a' v' h1 h3
 match j with
 | 0=>cases h1;cases h3;exact h
 | 1=>cases h1;cases h3;exact h2
 | j+2=>simp at h1
theorem jt {W:World} (hm:W.cell? ⟨1,0,none⟩=some (.int .i64 mx)) {a b:AV} {l:List Nat} (ha:DV a l) (hb:DV b l) (hl:l.length≤100000) {u v:Value} (h1:Rel W (fun _=>True) a u) (h2:Rel W (fun _=>True) b v) :
  Calls Tryz.prog 27 #[u,v] W fun e W'=>Ext W W'∧e=.returned (.bool true):=by
 refine Calls.mono (gJ (fit mx) (c:=Tryz.f27.body.getD .skip) Tryz.func27 (by kernel_rfl) (s27 (mx:=mx) ha hb hl) (by kernel_rfl) W (fun _=>True) #[u,v] (xw hm trivial) rfl (T3 h1 h2)) fun e w' he=>?_
 obtain ⟨v,rfl,hx,hr⟩:=he
 unfold eV at hr
 rw [if_pos (by kernel_rfl)] at hr
 cases hr
 exact ⟨hx,rfl⟩
theorem Qn {v:AV} (h:cZ v):Tn v:=by
 rcases h with rfl | ⟨x,l,rfl,hl⟩
 ·exact .inl rfl
 ·exact .inr ⟨x :: l,rfl,by simp only [List.length_cons];omega⟩
theorem oo {a:AV} (h:cZ a) {w:World} {F:Nat→Prop} {v:Value} (hr:Rel w F a v):∃ (ad:Option Addr) (n c:Nat),v=.slice ad n c:=by
 rcases h with rfl | ⟨x,l,rfl,hl⟩
 ·cases hr
  exact ⟨_,_,_,rfl⟩
 ·obtain ⟨ad,c,h,_⟩:=bw hr
  exact ⟨_,_,_,h⟩
theorem tZ {W:World} (hm:W.cell? ⟨1,0,none⟩=some (.int .i64 mx)) {a:AV} (ha:cZ a) (r:Bool) {u v:Value} (h1:Rel W (fun _=>True) a u) (h2:Rel W (fun _=>True) a v) :
  Calls Tryz.prog 26 #[.agg #[.bool r,u],.agg #[.bool r,v]] W fun e W'=>Ext W W'∧e=.returned (.bool true):=by
 obtain ⟨ad,n,c,rfl⟩:=oo ha h1
 obtain ⟨ad',n',c',rfl⟩:=oo ha h2
 refine Calls.mono (gJ (fit mx) (c:=Tryz.f26.body.getD .skip) Tryz.func26 (by kernel_rfl) (s26 (mx:=mx) r a (Qn ha)) (by kernel_rfl) W (fun _=>True) _ (xw hm trivial) rfl (T3 (vu (.b r) h1 rfl rfl) (vu (.b r) h2 rfl rfl))) fun e w' he=>?_
 obtain ⟨v,rfl,hx,hr⟩:=he
 unfold eV at hr
 rw [if_pos (by kernel_rfl)] at hr
 cases hr
 exact ⟨hx,rfl⟩
theorem zV {w:World} {F:Nat→Prop} {k:Nat} {l:List AV} {ad:Option Addr} {n c:Nat} (h:Rel w F (.ro k l) (.slice ad n c)) {i:Nat} (hi:i < l.length):∃ (r off:Nat) (x:Nat→Value),ad=some ⟨r,off,none⟩∧∀ j,j < k→w.cell? ⟨r,off+i * k+j,none⟩=some (x j)∧Rel w F (l[i].cell j) (x j):=by
 have key:∀ (l:List AV) (v:Value),Rel w F (.ro k l) v→(hi:i < l.length)→∃ (r off c:Nat) (x:Nat→Value),v=.slice (some ⟨r,off,none⟩) l.length c∧∀ j,j < k→w.cell? ⟨r,off+i * k+j,none⟩=some (x j)∧Rel w F (l[i].cell j) (x j):=by
  intro l v h hi
  cases h with
  | ub=>simp at hi
  | ro _ _ r off c xs hk hc hF hl Na h1 hr =>
   refine ⟨r,off,c,fun j=>xs.getD (i * k+j) undef,rfl,fun j hj=>?_⟩
   have hj':i * k+j < xs.length:=by
    have:(i+1) * k≤l.length * k:=Nat.mul_le_mul_right _ hi
    rw [Nat.succ_mul] at this
    omega
   have h2:xs[i * k+j]?=some xs[i * k+j]:=List.getElem?_eq_getElem hj'
   show w.cell? _=some (xs.getD (i * k+j) undef)∧Rel w F _ (xs.getD (i * k+j) undef)
   rw [List.getD_eq_getElem?_getD (l:=xs),h2,Option.getD_some]
   have h3:=hr i j _ hi hj h2
   have e:l.getD i .un=l[i]:=by rw [List.getD_eq_getElem?_getD,List.getElem?_eq_getElem hi];rfl
   rw [e] at h3
   refine ⟨?_,h3⟩
   rw [← Na _ _ h2,Nat.add_assoc]
 obtain ⟨r,off,c',x,e,hx⟩:=key _ _ h hi
 cases e
 exact ⟨r,off,x,rfl,hx⟩
theorem rF {w:World} {F:Nat→Prop} {k:UInt8} {v:Value} (h:Rel w F (.u8 k) v):v=.int .u8 (k.toNat:Int):=by cases h;rfl
theorem zW {w:World} {F:Nat→Prop} {k:Int} {v:Value} (h:Rel w F (.int k) v):v=.int .i64 k:=by cases h;rfl
theorem xU {w:World} {F:Nat→Prop} {k:Bool} {v:Value} (h:Rel w F (.b k) v):v=.bool k:=by cases h;rfl
theorem Qo {w:World} {F:Nat→Prop} {l:List UInt8} {u v:Value} (h:Rel w F (.s l) u) (h2:Rel w F (.s l) v):∃ q,u=.string q∧v=.string q:=by
 have hu:∃ q:ByteArray,u=.string q∧q.data.toList=l:=by cases h;exact ⟨_,rfl,rfl⟩
 have hv:∃ q:ByteArray,v=.string q∧q.data.toList=l:=by cases h2;exact ⟨_,rfl,rfl⟩
 obtain ⟨q,rfl,h3⟩:=hu
 obtain ⟨q',rfl,h4⟩:=hv
 have:q=q':=by
  cases q with | mk d=>cases q' with | mk d' =>
  have:d=d':=Array.toList_inj.1 (h3.trans h4.symm)
  rw [this]
 exact ⟨q,rfl,by rw [this]⟩
theorem E7 {w:World} {F:Nat→Prop} {x:Nd} (hn:cZ x.names) {f g:Nat→Value} (hf:∀ j,j < 9→Rel w F (x.av.cell j) (f j)) (hg:∀ j,j < 9→Rel w F ((mh x).cell j) (g j)) :
  ∃ (q:ByteArray) (a4 a5 a6 b4 b5 b6:Option Addr) (m4 m5 m6 n4 n5 n6 c4 c5 c6 d4 d5 d6:Nat),
   (f 0=.int .u8 (x.kind.toNat:Int)∧f 1=.int .i64 (x.at':Int)∧f 2=.string q∧f 3=.bool x.root∧f 4=.slice a4 m4 c4∧f 5=.slice a5 m5 c5∧f 6=.slice a6 m6 c6∧f 7=.bool x.has∧f 8=.int .u8 (x.hole.toNat:Int)) ∧
   (g 0=.int .u8 (x.kind.toNat:Int)∧g 1=.int .i64 (x.at':Int)∧g 2=.string q∧g 3=.bool x.root∧g 4=.slice b4 n4 d4∧g 5=.slice b5 n5 d5∧g 6=.slice b6 n6 d6∧g 7=.bool x.has∧g 8=.int .u8 (x.hole.toNat:Int)) ∧
   (Rel w F x.names (.slice a4 m4 c4)∧Rel w F (dA x.body) (.slice a5 m5 c5)∧Rel w F (dA x.els) (.slice a6 m6 c6)) ∧
   (Rel w F x.names (.slice b4 n4 d4)∧Rel w F (.ro 1 (aF (x.body.getD []))) (.slice b5 n5 d5)∧Rel w F (.ro 1 (aF (x.els.getD []))) (.slice b6 n6 d6)):=by
 have f0:Rel w F (.u8 x.kind) (f 0):=hf 0 (by decide)
 have f1:Rel w F (.int (x.at':Int)) (f 1):=hf 1 (by decide)
 have f2:Rel w F (.s x.text) (f 2):=hf 2 (by decide)
 have f3:Rel w F (.b x.root) (f 3):=hf 3 (by decide)
 have f4:Rel w F x.names (f 4):=hf 4 (by decide)
 have f5:Rel w F (dA x.body) (f 5):=hf 5 (by decide)
 have f6:Rel w F (dA x.els) (f 6):=hf 6 (by decide)
 have f7:Rel w F (.b x.has) (f 7):=hf 7 (by decide)
 have f8:Rel w F (.u8 x.hole) (f 8):=hf 8 (by decide)
 have g0:Rel w F (.u8 x.kind) (g 0):=hg 0 (by decide)
 have g1:Rel w F (.int (x.at':Int)) (g 1):=hg 1 (by decide)
 have g2:Rel w F (.s x.text) (g 2):=hg 2 (by decide)
 have g3:Rel w F (.b x.root) (g 3):=hg 3 (by decide)
 have g4:Rel w F x.names (g 4):=hg 4 (by decide)
 have g5:Rel w F (.ro 1 (aF (x.body.getD []))) (g 5):=hg 5 (by decide)
 have g6:Rel w F (.ro 1 (aF (x.els.getD []))) (g 6):=hg 6 (by decide)
 have g7:Rel w F (.b x.has) (g 7):=hg 7 (by decide)
 have g8:Rel w F (.u8 x.hole) (g 8):=hg 8 (by decide)
 obtain ⟨q,e2,e2'⟩:=Qo f2 g2
 obtain ⟨a4,m4,c4,e4⟩:=oo hn f4
 obtain ⟨b4,n4,d4,ZX⟩:=oo hn g4
 obtain ⟨a5,m5,c5,e5⟩:=gN (lO x.body) f5
 obtain ⟨b5,n5,d5,ZY⟩:=gN (.inl rfl) g5
 obtain ⟨a6,m6,c6,e6⟩:=gN (lO x.els) f6
 obtain ⟨b6,n6,d6,ZZ⟩:=gN (.inl rfl) g6
 rw [e4] at f4;rw [e5] at f5;rw [e6] at f6;rw [ZX] at g4;rw [ZY] at g5;rw [ZZ] at g6
 exact ⟨q,a4,a5,a6,b4,b5,b6,m4,m5,m6,n4,n5,n6,c4,c5,c6,d4,d5,d6,⟨rF f0,zW f1,e2,xU f3,e4,e5,e6,xU f7,rF f8⟩,⟨rF g0,zW g1,e2',xU g3,ZX,ZY,ZZ,xU g7,rF g8⟩,⟨f4,f5,f6⟩,⟨g4,g5,g6⟩⟩
theorem bf {u v:World} {N:Nat} (hE:∀ b,b < N→v.heap[b]?=u.heap[b]?) {r o:Nat} {x:Value} (h:u.cell? ⟨r,o,none⟩=some x) (hb:r < N):v.cell? ⟨r,o,none⟩=some x:=(World.cell?_of_block (hE _ hb)).trans h
def T4 (a:AV) (l:List AV):Prop:=a=.ro 9 l∨(a=.aG∧l=[])
theorem vB {a:AV} {l:List AV} (h:T4 a l) {w:World} {F:Nat→Prop} {v:Value} (hr:Rel w F a v):∃ (ad:Option Addr) (c:Nat),v=.slice ad l.length c∧(0 < l.length→Rel w F (.ro 9 l) v):=by
 rcases h with rfl | ⟨rfl,rfl⟩
 ·obtain ⟨ad,c,e,_⟩:=bw hr
  exact ⟨ad,c,e,fun _=>hr⟩
 ·cases hr
  exact ⟨_,_,rfl,fun h=>by simp at h⟩
theorem DX {W:World} {b:Nat} {x0 x1 x2 x3 x4 x5 x6 x7 x8:Value} {t:TypeId} (h:W.heap[b]?=some (.cells #[x0,x1,x2,x3,x4,x5,x6,x7,x8] t)):W.cell? ⟨b,0,none⟩=some x0∧W.cell? ⟨b,1,none⟩=some x1∧W.cell? ⟨b,2,none⟩=some x2∧W.cell? ⟨b,3,none⟩=some x3∧W.cell? ⟨b,4,none⟩=some x4∧W.cell? ⟨b,5,none⟩=some x5∧W.cell? ⟨b,6,none⟩=some x6∧W.cell? ⟨b,7,none⟩=some x7∧W.cell? ⟨b,8,none⟩=some x8:=by simp [World.cell?,h]
theorem iP {w:World} {A B:Obj} {b:Nat} (hb:b < w.heap.size):((w.alloc A).alloc B).heap[b]?=w.heap[b]?:=(aB (by simp;omega)).trans (aB hb)
theorem results39 (T:Array Value) (W:World) (a:Value) (t4:T[4]?.getD undef=a):(results Tryz.f16 T).run Tryz.prog W=.ok a W:=by
 have hr:Tryz.f16.results = #[.tmp 4]:=by kernel_rfl
 unfold results
 rw [hr]
 simp [t4,Sem.run_bind,Result.andThen]
theorem I8 {ns:List Nd} {top:List Nat} (hN:ns.length≤100000) (hT:top.length≤100000) (oq:∀ x ∈ ns,cZ x.names) (Z0:∀ x ∈ ns,(x.body.getD []).length≤100000∧(x.els.getD []).length≤100000)
  {w:World} (hm:w.cell? ⟨1,0,none⟩=some (.int .i64 mx)) {a b c d:AV} (ha:T4 a (ns.map Nd.av)) (hb:T4 b (ns.map mh)) (hc:DV c top) (hd:DV d top) {va vb ta tb:Value} (ra:Rel w (fun _=>True) a va) (rb:Rel w (fun _=>True) b vb) (Z1:Rel w (fun _=>True) c ta) (Z2:Rel w (fun _=>True) d tb) :
  CallsIn Fence.wide 7 Tryz.prog 16 #[.agg #[va,ta],.agg #[vb,tb]] w (fun e w'=>Ext w w'∧e=.returned (.bool true)):=by
 obtain ⟨aa,ca,rfl,ra⟩:=vB ha ra
 obtain ⟨ab,cb,rfl,rb⟩:=vB hb rb
 obtain ⟨a5,n5,c5,rfl⟩:=gN hc Z1
 obtain ⟨a6,n6,c6,rfl⟩:=gN hd Z2
 have la:(ns.map Nd.av).length=ns.length:=List.length_map ..
 have lb:(ns.map mh).length=ns.length:=List.length_map ..
 rw [la] at ra
 rw [lb] at rb
 simp only [la,lb]
 have hx1:Ext w ((w.alloc (.cells #[.slice aa ns.length ca,.slice a5 n5 c5] 26)).alloc (.cells #[.slice ab ns.length cb,.slice a6 n6 c6] 26)):=(Ext.push w _).trans (Ext.push _ _)
 have hA:((w.alloc (.cells #[.slice aa ns.length ca,.slice a5 n5 c5] 26)).alloc (.cells #[.slice ab ns.length cb,.slice a6 n6 c6] 26)).heap[w.heap.size]?=some (.cells #[.slice aa ns.length ca,.slice a5 n5 c5] 26):=(aB (by simp)).trans (World.alloc_heap_new w _)
 have hB:((w.alloc (.cells #[.slice aa ns.length ca,.slice a5 n5 c5] 26)).alloc (.cells #[.slice ab ns.length cb,.slice a6 n6 c6] 26)).heap[w.heap.size+1]?=some (.cells #[.slice ab ns.length cb,.slice a6 n6 c6] 26):=bu (by simp)
 refine callsIn_of_wp Tryz.func16 rfl trivial ?_ rfl
 simp only [Tryz.ntmps16,Nat.reduceAdd,Nat.reduceSub,zC]
 obtain ⟨e0,e1,-,-⟩:=aP hA
 obtain ⟨e2,e3,-,-⟩:=aP hB
 have T5:=jt (mx:=mx) (aD hx1 hm) hc hd hT (Z1.mono fun b hb _=>⟨trivial,hx1.block b hb⟩) (Z2.mono fun b hb _=>⟨trivial,hx1.block b hb⟩)
 gi_wp2_with (refine ⟨trivial,?_⟩;gi_at_call 27;refine (callsIn_wide.2 T5).mono ?_;clear T5;rintro e w2 ⟨hx2,rfl⟩)
 have zH:=(hx2.block w.heap.size (by simp;omega)).trans hA
 have hB2:=(hx2.block (w.heap.size+1) (by simp)).trans hB
 have hx3:=hx1.trans hx2
 have hs2:w.heap.size+2≤w2.heap.size:=by have:=hx2.size;simp at this;omega
 clear hA hB e0 e1 e2 e3 hx1 hx2
 gi_loopw [5] (fun v5 wr=>∃ i:Nat,v5=.int .i64 (i:Int)∧i≤ns.length∧Ext w2 wr) (fun v5 wr=>ns.length - (match v5 with | .int _ a=>a.toNat | _=>0))
 case atStart=>exact ⟨0,rfl,Nat.zero_le _,Ext.refl _⟩
 case round =>
  obtain ⟨i,rfl,hi,Qp⟩:=hrel
  have hAr:=(Qp.block w.heap.size (by omega)).trans zH
  have hBr:=(Qp.block (w.heap.size+1) (by omega)).trans hB2
  have xY:=hx3.trans Qp
  obtain ⟨e0,e1,-,-⟩:=aP hAr
  obtain ⟨e2,e3,-,-⟩:=aP hBr
  have MF:=aD xY hm
  by_cases hlt:i < ns.length
  ·have Z3:i < (ns.map Nd.av).length:=by rw [la];exact hlt
   have Jd:i < (ns.map mh).length:=by rw [lb];exact hlt
   obtain ⟨r1,o1,f,rfl,hf⟩:=zV ((ra (by omega)).mono fun b hb _=>⟨trivial,xY.block b hb⟩) Z3
   obtain ⟨r2,o2,g,rfl,hg⟩:=zV ((rb (by omega)).mono fun b hb _=>⟨trivial,xY.block b hb⟩) Jd
   simp only [List.getElem_map] at hf hg
   have MC:=oq _ (List.getElem_mem hlt)
   have UW:=Z0 _ (List.getElem_mem hlt)
   generalize ns[i]=x at *
   obtain ⟨q,a4,Js,Jt,b4,b5,b6,m4,m5,m6,n4,Ju,Jv,c4,Jw,Jy,d4,d5,d6,⟨f0,f1,f2,f3,f4,f5,f6,f7,f8⟩,⟨g0,g1,g2,g3,g4,g5,g6,g7,g8⟩,⟨rn,Z4,Z5⟩,⟨Z6,T6,T7⟩⟩:=E7 MC (fun j hj=>(hf j hj).2) (fun j hj=>(hg j hj).2)
   have y0:=(hf 0 (by decide)).1
   have y1:=(hf 1 (by decide)).1
   have y2:=(hf 2 (by decide)).1
   have y3:=(hf 3 (by decide)).1
   have y4:=(hf 4 (by decide)).1
   have y5:=(hf 5 (by decide)).1
   have y6:=(hf 6 (by decide)).1
   have y7:=(hf 7 (by decide)).1
   have y8:=(hf 8 (by decide)).1
   have z0:=(hg 0 (by decide)).1
   have z1:=(hg 1 (by decide)).1
   have z2:=(hg 2 (by decide)).1
   have z3:=(hg 3 (by decide)).1
   have z4:=(hg 4 (by decide)).1
   have z5:=(hg 5 (by decide)).1
   have z6:=(hg 6 (by decide)).1
   have z7:=(hg 7 (by decide)).1
   have z8:=(hg 8 (by decide)).1
   rw [f0] at y0;rw [f1] at y1;rw [f2] at y2;rw [f3] at y3;rw [f4] at y4;rw [f5] at y5;rw [f6] at y6;rw [f7] at y7;rw [f8] at y8
   rw [g0] at z0;rw [g1] at z1;rw [g2] at z2;rw [g3] at z3;rw [g4] at z4;rw [g5] at z5;rw [g6] at z6;rw [g7] at z7;rw [g8] at z8
   rw [Nat.add_zero] at y0 z0
   clear hf hg f0 f1 f2 f3 f4 f5 f6 f7 f8 g0 g1 g2 g3 g4 g5 g6 g7 g8 ra rb oq Z0 la lb Z3 Jd
   gi_wp2
   rw [wpIn_wide]
   have hr1:=aU y0
   have hr2:=aU z0
   simp only at hr1 hr2
   have Z7:w.heap.size < wr.heap.size:=by have:=Qp.size;omega
   have hzb:w.heap.size+1 < wr.heap.size:=by have:=Qp.size;omega
   refine tY (by kernel_rfl) [] (fun u v=>∀ b,b < wr.heap.size→v.heap[b]?=u.heap[b]?) [(0,true),(1,true),(2,true),(3,true),(4,true),(5,true),(6,true),(7,true),(8,true),(9,true)] 10 11 [(11,false),(12,false),(13,false)] [(10,false),(12,false),(13,false)]
    [true,true,true,true,true,true,true,true,true,true,false,false,false,false] (by kernel_rfl) (by kernel_rfl) (by kernel_rfl) (by kernel_rfl) (by kernel_rfl) (by kernel_rfl) (by kernel_rfl) (fun _ _ _=>rfl) (fun _ _ _ h1 h2 b hb=>(h2 b hb).trans (h1 b hb)) ?_
   iterate 4 (
    refine' aW ?_ ?_ ?_ ?_;rotate_left 2
    ·(simp only [zA];rfl)
    ·rfl
    ·(intro w' hE;have q1:=bf (u:=wr.drew) hE e0 Z7;have q2:=bf (u:=wr.drew) hE e2 hzb;go_simp;try rfl)
    try simp only [Act.put,zB])
   iterate 1 (
    refine' aW ?_ ?_ ?_ ?_;rotate_left 2
    ·(simp only [zA];rfl)
    ·rfl
    ·(intro w' hE;have q0:=bf (u:=wr.drew) hE y0 hr1;have q1:=bf (u:=wr.drew) hE y1 hr1;have q2:=bf (u:=wr.drew) hE y2 hr1;have q3:=bf (u:=wr.drew) hE y3 hr1;have q4:=bf (u:=wr.drew) hE y4 hr1;have q5:=bf (u:=wr.drew) hE y5 hr1;have q6:=bf (u:=wr.drew) hE y6 hr1;have q7:=bf (u:=wr.drew) hE y7 hr1;have q8:=bf (u:=wr.drew) hE y8 hr1;go_simp;try rfl)
    try simp only [Act.put,zB])
   iterate 4 (
    refine' aW ?_ ?_ ?_ ?_;rotate_left 2
    ·(simp only [zA];rfl)
    ·rfl
    ·(intro w' hE;have q1:=bf (u:=wr.drew) hE e0 Z7;have q2:=bf (u:=wr.drew) hE e2 hzb;go_simp;try rfl)
    try simp only [Act.put,zB])
   iterate 1 (
    refine' aW ?_ ?_ ?_ ?_;rotate_left 2
    ·(simp only [zA];rfl)
    ·rfl
    ·(intro w' hE;have q0:=bf (u:=wr.drew) hE z0 hr2;have q1:=bf (u:=wr.drew) hE z1 hr2;have q2:=bf (u:=wr.drew) hE z2 hr2;have q3:=bf (u:=wr.drew) hE z3 hr2;have q4:=bf (u:=wr.drew) hE z4 hr2;have q5:=bf (u:=wr.drew) hE z5 hr2;have q6:=bf (u:=wr.drew) hE z6 hr2;have q7:=bf (u:=wr.drew) hE z7 hr2;have q8:=bf (u:=wr.drew) hE z8 hr2;go_simp;try rfl)
    try simp only [Act.put,zB])
   refine cH ⟨?_,?_⟩
   ·refine' bL ?_ ?_;rotate_left 1
    ·(simp only [zA];rfl)
    intro K hK
    go_simp
    refine hK.out _ _ (fun b hb=>aB (by simpa using hb)) ?_
    clear hK K
    try simp only [Act.put,zB]
    refine' bL ?_ ?_;rotate_left 1
    ·(simp only [zA];rfl)
    intro K hK
    go_simp
    refine hK.out _ _ (fun b hb=>aB (by simp;omega)) ?_
    clear hK K
    try simp only [Act.put,zB]
    refine' bL ?_ ?_;rotate_left 1
    ·(simp only [zA];rfl)
    intro K hK
    go_simp
    refine hK.out _ _ (fun b hb=>(iP hb).trans (iP hb).symm) ?_
    clear hK K
    try simp only [Act.put,zB]
    refine' bL ?_ ?_;rotate_left 1
    ·(simp only [zA];rfl)
    intro K hK
    go_simp
    refine hK.out _ _ (fun b hb=>(iP hb).trans (iP hb).symm) ?_
    clear hK K
    try simp only [Act.put,zB]
    refine cH ?_
    have dK:Ext wr (((wr.alloc (.cells #[.int .u8 (x.kind.toNat:Int),.int .i64 (x.at':Int),.string q,.bool x.root,.slice a4 m4 c4,.slice Js m5 Jw,.slice Jt m6 Jy,.bool x.has,.int .u8 (x.hole.toNat:Int)] 58)).alloc (.cells #[.int .u8 (x.kind.toNat:Int),.int .i64 (x.at':Int),.string q,.bool x.root,.slice b4 n4 d4,.slice b5 Ju d5,.slice b6 Jv d6,.bool x.has,.int .u8 (x.hole.toNat:Int)] 58)).drew):=dS ((Ext.push wr _).trans (Ext.push _ _))
    have hp:(((wr.alloc (.cells #[.int .u8 (x.kind.toNat:Int),.int .i64 (x.at':Int),.string q,.bool x.root,.slice a4 m4 c4,.slice Js m5 Jw,.slice Jt m6 Jy,.bool x.has,.int .u8 (x.hole.toNat:Int)] 58)).alloc (.cells #[.int .u8 (x.kind.toNat:Int),.int .i64 (x.at':Int),.string q,.bool x.root,.slice b4 n4 d4,.slice b5 Ju d5,.slice b6 Jv d6,.bool x.has,.int .u8 (x.hole.toNat:Int)] 58)).drew).heap[wr.heap.size]?=some (.cells #[.int .u8 (x.kind.toNat:Int),.int .i64 (x.at':Int),.string q,.bool x.root,.slice a4 m4 c4,.slice Js m5 Jw,.slice Jt m6 Jy,.bool x.has,.int .u8 (x.hole.toNat:Int)] 58):=(aB (by simp)).trans (World.alloc_heap_new wr _)
    have hq:(((wr.alloc (.cells #[.int .u8 (x.kind.toNat:Int),.int .i64 (x.at':Int),.string q,.bool x.root,.slice a4 m4 c4,.slice Js m5 Jw,.slice Jt m6 Jy,.bool x.has,.int .u8 (x.hole.toNat:Int)] 58)).alloc (.cells #[.int .u8 (x.kind.toNat:Int),.int .i64 (x.at':Int),.string q,.bool x.root,.slice b4 n4 d4,.slice b5 Ju d5,.slice b6 Jv d6,.bool x.has,.int .u8 (x.hole.toNat:Int)] 58)).drew).heap[wr.heap.size+1]?=some (.cells #[.int .u8 (x.kind.toNat:Int),.int .i64 (x.at':Int),.string q,.bool x.root,.slice b4 n4 d4,.slice b5 Ju d5,.slice b6 Jv d6,.bool x.has,.int .u8 (x.hole.toNat:Int)] 58):=bu (by simp)
    generalize ((wr.alloc (.cells #[.int .u8 (x.kind.toNat:Int),.int .i64 (x.at':Int),.string q,.bool x.root,.slice a4 m4 c4,.slice Js m5 Jw,.slice Jt m6 Jy,.bool x.has,.int .u8 (x.hole.toNat:Int)] 58)).alloc (.cells #[.int .u8 (x.kind.toNat:Int),.int .i64 (x.at':Int),.string q,.bool x.root,.slice b4 n4 d4,.slice b5 Ju d5,.slice b6 Jv d6,.bool x.has,.int .u8 (x.hole.toNat:Int)] 58)).drew=W6 at dK hp hq ⊢
    have hw:=tZ (mx:=mx) (aD dK MF) MC x.root (rn.mono fun b hb _=>⟨trivial,dK.block b hb⟩) (Z6.mono fun b hb _=>⟨trivial,dK.block b hb⟩)
    obtain ⟨p0,p1,p2,p3,p4,p5,p6,p7,p8⟩:=DX hp
    obtain ⟨s0,s1,s2,s3,s4,s5,s6,s7,s8⟩:=DX hq
    clear y0 y1 y2 y3 y4 y5 y6 y7 y8 z0 z1 z2 z3 z4 z5 z6 z7 z8 e0 e1 e2 e3
    gi_wp2_with (first
     | (refine ⟨trivial,?_⟩;gi_at_call 26;refine (callsIn_wide.2 hw).mono ?_;clear hw;rintro e w7 ⟨lR,rfl⟩;have Me:=dK.trans lR;have T8:=jt (mx:=mx) (aD Me MF) (lO x.body) (.inl rfl) UW.1 (Z4.mono fun b hb _=>⟨trivial,Me.block b hb⟩) (T6.mono fun b hb _=>⟨trivial,Me.block b hb⟩);have c5a:=aD lR p5;have c5b:=aD lR s5;have XW:=aD lR p6;have XX:=aD lR s6)
     | (refine ⟨trivial,?_⟩;gi_at_call 27;refine (callsIn_wide.2 T8).mono ?_;clear T8;rintro e w8 ⟨Qq,rfl⟩;have oL:=Me.trans Qq;have T9:=jt (mx:=mx) (aD oL MF) (lO x.els) (.inl rfl) UW.2 (Z5.mono fun b hb _=>⟨trivial,oL.block b hb⟩) (T7.mono fun b hb _=>⟨trivial,oL.block b hb⟩);have c6c:=aD Qq XW;have c6d:=aD Qq XX)
     | (refine ⟨trivial,?_⟩;gi_at_call 27;refine (callsIn_wide.2 T9).mono ?_;clear T9;rintro e w9 ⟨pd,rfl⟩;have QS:=oL.trans pd))
    exact ⟨⟨i+1,congrArg (Value.int .i64) (by omega),hlt,Qp.trans QS⟩,by show _ - Int.toNat _ < _ - Int.toNat _;omega⟩
   ·refine' bL ?_ ?_;rotate_left 1
    ·(simp only [zA];rfl)
    intro K hK
    go_simp
    refine hK.out _ _ (fun b hb=>aB (by simpa using hb)) ?_
    clear hK K
    try simp only [Act.put,zB]
    refine' bL ?_ ?_;rotate_left 1
    ·(simp only [zA];rfl)
    intro K hK
    go_simp
    refine hK.out _ _ (fun b hb=>aB (by simp;omega)) ?_
    clear hK K
    try simp only [Act.put,zB]
    refine' bL ?_ ?_;rotate_left 1
    ·(simp only [zA];rfl)
    intro K hK
    go_simp
    refine hK.out _ _ (fun b hb=>(iP hb).trans (iP hb).symm) ?_
    clear hK K
    try simp only [Act.put,zB]
    refine' bL ?_ ?_;rotate_left 1
    ·(simp only [zA];rfl)
    intro K hK
    go_simp
    refine hK.out _ _ (fun b hb=>(iP hb).trans (iP hb).symm) ?_
    clear hK K
    try simp only [Act.put,zB]
    refine cH ?_
    have dK:Ext wr (((wr.alloc (.cells #[.int .u8 (x.kind.toNat:Int),.int .i64 (x.at':Int),.string q,.bool x.root,.slice b4 n4 d4,.slice b5 Ju d5,.slice b6 Jv d6,.bool x.has,.int .u8 (x.hole.toNat:Int)] 58)).alloc (.cells #[.int .u8 (x.kind.toNat:Int),.int .i64 (x.at':Int),.string q,.bool x.root,.slice a4 m4 c4,.slice Js m5 Jw,.slice Jt m6 Jy,.bool x.has,.int .u8 (x.hole.toNat:Int)] 58)).drew):=dS ((Ext.push wr _).trans (Ext.push _ _))
    have hq:(((wr.alloc (.cells #[.int .u8 (x.kind.toNat:Int),.int .i64 (x.at':Int),.string q,.bool x.root,.slice b4 n4 d4,.slice b5 Ju d5,.slice b6 Jv d6,.bool x.has,.int .u8 (x.hole.toNat:Int)] 58)).alloc (.cells #[.int .u8 (x.kind.toNat:Int),.int .i64 (x.at':Int),.string q,.bool x.root,.slice a4 m4 c4,.slice Js m5 Jw,.slice Jt m6 Jy,.bool x.has,.int .u8 (x.hole.toNat:Int)] 58)).drew).heap[wr.heap.size]?=some (.cells #[.int .u8 (x.kind.toNat:Int),.int .i64 (x.at':Int),.string q,.bool x.root,.slice b4 n4 d4,.slice b5 Ju d5,.slice b6 Jv d6,.bool x.has,.int .u8 (x.hole.toNat:Int)] 58):=(aB (by simp)).trans (World.alloc_heap_new wr _)
    have hp:(((wr.alloc (.cells #[.int .u8 (x.kind.toNat:Int),.int .i64 (x.at':Int),.string q,.bool x.root,.slice b4 n4 d4,.slice b5 Ju d5,.slice b6 Jv d6,.bool x.has,.int .u8 (x.hole.toNat:Int)] 58)).alloc (.cells #[.int .u8 (x.kind.toNat:Int),.int .i64 (x.at':Int),.string q,.bool x.root,.slice a4 m4 c4,.slice Js m5 Jw,.slice Jt m6 Jy,.bool x.has,.int .u8 (x.hole.toNat:Int)] 58)).drew).heap[wr.heap.size+1]?=some (.cells #[.int .u8 (x.kind.toNat:Int),.int .i64 (x.at':Int),.string q,.bool x.root,.slice a4 m4 c4,.slice Js m5 Jw,.slice Jt m6 Jy,.bool x.has,.int .u8 (x.hole.toNat:Int)] 58):=bu (by simp)
    generalize ((wr.alloc (.cells #[.int .u8 (x.kind.toNat:Int),.int .i64 (x.at':Int),.string q,.bool x.root,.slice b4 n4 d4,.slice b5 Ju d5,.slice b6 Jv d6,.bool x.has,.int .u8 (x.hole.toNat:Int)] 58)).alloc (.cells #[.int .u8 (x.kind.toNat:Int),.int .i64 (x.at':Int),.string q,.bool x.root,.slice a4 m4 c4,.slice Js m5 Jw,.slice Jt m6 Jy,.bool x.has,.int .u8 (x.hole.toNat:Int)] 58)).drew=W6 at dK hp hq ⊢
    have hw:=tZ (mx:=mx) (aD dK MF) MC x.root (rn.mono fun b hb _=>⟨trivial,dK.block b hb⟩) (Z6.mono fun b hb _=>⟨trivial,dK.block b hb⟩)
    obtain ⟨p0,p1,p2,p3,p4,p5,p6,p7,p8⟩:=DX hp
    obtain ⟨s0,s1,s2,s3,s4,s5,s6,s7,s8⟩:=DX hq
    clear y0 y1 y2 y3 y4 y5 y6 y7 y8 z0 z1 z2 z3 z4 z5 z6 z7 z8 e0 e1 e2 e3
    gi_wp2_with (first
     | (refine ⟨trivial,?_⟩;gi_at_call 26;refine (callsIn_wide.2 hw).mono ?_;clear hw;rintro e w7 ⟨lR,rfl⟩;have Me:=dK.trans lR;have T8:=jt (mx:=mx) (aD Me MF) (lO x.body) (.inl rfl) UW.1 (Z4.mono fun b hb _=>⟨trivial,Me.block b hb⟩) (T6.mono fun b hb _=>⟨trivial,Me.block b hb⟩);have c5a:=aD lR p5;have c5b:=aD lR s5;have XW:=aD lR p6;have XX:=aD lR s6)
     | (refine ⟨trivial,?_⟩;gi_at_call 27;refine (callsIn_wide.2 T8).mono ?_;clear T8;rintro e w8 ⟨Qq,rfl⟩;have oL:=Me.trans Qq;have T9:=jt (mx:=mx) (aD oL MF) (lO x.els) (.inl rfl) UW.2 (Z5.mono fun b hb _=>⟨trivial,oL.block b hb⟩) (T7.mono fun b hb _=>⟨trivial,oL.block b hb⟩);have c6c:=aD Qq XW;have c6d:=aD Qq XX)
     | (refine ⟨trivial,?_⟩;gi_at_call 27;refine (callsIn_wide.2 T9).mono ?_;clear T9;rintro e w9 ⟨pd,rfl⟩;have QS:=oL.trans pd))
    exact ⟨⟨i+1,congrArg (Value.int .i64) (by omega),hlt,Qp.trans QS⟩,by show _ - Int.toNat _ < _ - Int.toNat _;omega⟩
  ·obtain rfl:i=ns.length:=by omega
   gi_wp2
   exact bodyPost_ret (results39 _ _ (.bool true) rfl) rfl ⟨xY,rfl⟩
def ua (x y:AV):Prop:=∃ (ns:List Nd) (top:List Nat) (a b c d:AV),ns.length≤100000∧top.length≤100000∧(∀ x ∈ ns,cZ x.names)∧(∀ x ∈ ns,(x.body.getD []).length≤100000∧(x.els.getD []).length≤100000) ∧
 T4 a (ns.map Nd.av)∧T4 b (ns.map mh)∧DV c top∧DV d top∧x=.ag [a,c]∧y=.ag [b,d]
open Classical in
def QX (args:List AV):Option AV :=
 match args with
 | [x,y]=>if ua x y then some (.b true) else none
 | _=>none
theorem g39 {x y:AV} (h:ua x y):QX [x,y]=some (.b true):=if_pos h
theorem DY {w:World} {F:Nat→Prop} {a c:AV} {v:Value} (h:Rel w F (.ag [a,c]) v):∃ x y,v=.agg #[x,y]∧Rel w F a x∧Rel w F c y:=by
 cases h with
 | ag _ vs hl oI hj =>
  match vs,hl,hj with
  | [x,y],_,hj=>exact ⟨x,y,rfl,hj 0 x rfl,hj 1 y rfl⟩
theorem Mf {C:cU} {mx:Int} (A0:C.glob 1=some (1,.int mx)) (ho:(C.own 16).all Option.isNone=true) (args:List AV) (r:AV) (h:QX args=some r) (w:World) (F:Nat→Prop) (vs:Array Value) (hG:aQ C w F) (hl:vs.size=args.length)
  (hv:∀ (j:Nat) (a:AV) (v:Value),args[j]?=some a→vs[j]?=some v→Rel w F a v):dN Tryz.prog 16 vs w (fX C 16 w F r):=by
 obtain ⟨hm,NP⟩:=L5 A0 hG
 unfold QX at h
 split at h
 ·rename_i x y
  split at h
  ·rename_i ht
   cases h
   obtain ⟨ns,top,a,b,c,d,h1,h2,h3,h4,ha,hb,hc,hd,rfl,rfl⟩:=ht
   match vs,hl,hv with
   | ⟨[u,v]⟩,_,hv =>
    obtain ⟨u0,u1,rfl,ru0,ru1⟩:=DY (hv 0 _ u rfl rfl)
    obtain ⟨v0,v1,rfl,rv0,rv1⟩:=DY (hv 1 _ v rfl rfl)
    have tr:∀ {a:AV} {v:Value},Rel w F a v→Rel w (fun _=>True) a v:=fun h=>h.mono fun _ _ _=>⟨trivial,rfl⟩
    refine .inl ⟨Tryz.f16,(Tryz.f16.body).getD .skip,Tryz.func16,by kernel_rfl,by kernel_rfl,Calls.mono (callsIn_wide.1 (I8 (mx:=mx) h1 h2 h3 h4 hm ha hb hc hd (tr ru0) (tr rv0) (tr ru1) (tr rv1))) fun e w' he=>?_⟩
    obtain ⟨hx,rfl⟩:=he
    refine ⟨_,rfl,hx,?_⟩
    unfold eV
    rw [if_pos ho]
    exact .b true
  ·cases h
 ·cases h
end R3
namespace rG
open Go Sx
def kJ:List (Nat×Ty):=[
 (3,{ size:=1,bytes:=8,kd:=.int .i64,elem:=0,zero:=[.int 0],fields:=[],eqk:=none }),
 (4,{ size:=1,bytes:=1,kd:=.bool,elem:=0,zero:=[.b false],fields:=[],eqk:=none }),
 (5,{ size:=1,bytes:=1,kd:=.int .u8,elem:=0,zero:=[.u8 0],fields:=[],eqk:=none }),
 (9,{ size:=1,bytes:=16,kd:=.str,elem:=0,zero:=[.s []],fields:=[],eqk:=none }),
 (23,{ size:=1,bytes:=24,kd:=.slice,elem:=58,zero:=[.aG],fields:=[],eqk:=none }),
 (24,{ size:=1,bytes:=24,kd:=.slice,elem:=3,zero:=[.aG],fields:=[],eqk:=none }),
 (26,{ size:=2,bytes:=48,kd:=.struct,elem:=0,zero:=[.aG,.aG],fields:=[(0,23),(1,24)],eqk:=none }),
 (27,{ size:=1,bytes:=8,kd:=.int .i64,elem:=0,zero:=[.int 0],fields:=[],eqk:=none }),
 (34,{ size:=1,bytes:=1,kd:=.int .u8,elem:=0,zero:=[.u8 0],fields:=[],eqk:=none }),
 (35,{ size:=1,bytes:=1,kd:=.int .u8,elem:=0,zero:=[.u8 0],fields:=[],eqk:=none }),
 (36,{ size:=1,bytes:=1,kd:=.int .u8,elem:=0,zero:=[.u8 0],fields:=[],eqk:=none }),
 (37,{ size:=1,bytes:=1,kd:=.int .u8,elem:=0,zero:=[.u8 0],fields:=[],eqk:=none }),
 (38,{ size:=1,bytes:=1,kd:=.int .u8,elem:=0,zero:=[.u8 0],fields:=[],eqk:=none }),
 (40,{ size:=10,bytes:=32,kd:=.struct,elem:=0,zero:=[.u8 0,.u8 0,.b false,.u8 0,.u8 0,.u8 0,.u8 0,.b false,.u8 0,.s []],fields:=[(0,34),(1,35),(2,4),(3,36),(4,5),(5,37),(6,38),(7,4),(8,5),(9,9)],eqk:=some [.i,.i,.b,.i,.i,.i,.i,.b,.i,.s] }),
 (52,{ size:=1,bytes:=1,kd:=.int .u8,elem:=0,zero:=[.u8 0],fields:=[],eqk:=none }),
 (53,{ size:=1,bytes:=24,kd:=.slice,elem:=9,zero:=[.aG],fields:=[],eqk:=none }),
 (55,{ size:=2,bytes:=32,kd:=.struct,elem:=0,zero:=[.b false,.aG],fields:=[(0,4),(1,53)],eqk:=none }),
 (56,{ size:=1,bytes:=1,kd:=.int .u8,elem:=0,zero:=[.u8 0],fields:=[],eqk:=none }),
 (58,{ size:=9,bytes:=120,kd:=.struct,elem:=0,zero:=[.u8 0,.int 0,.s [],.b false,.aG,.aG,.aG,.b false,.u8 0],fields:=[(0,52),(1,3),(2,9),(3,55),(5,24),(6,24),(7,4),(8,56)],eqk:=none })
]
def nR:List ((Nat×Nat)×(j5×List Nat)):=[((9,6),(.seq [(0,true),(1,true),(2,true),(3,true),(4,true),(5,true),(6,true),(7,true),(8,true),(9,true),(10,true),(11,true),(12,true)] .done,[]))]
def nS:List (Nat×List (Nat×List (Nat×Option (Nat×Nat))×List (Nat×List (Nat×Nat×Nat)))):=[(9,[(4,[(2,none),(3,none),(5,none)],[(2,[]),(3,[])])])]
def sF:List (Nat×List (Option (Nat×Nat))):=[]
def sG:List (Nat×vE):=[]
def kK:List (Nat×List Nat):=[]
def C (mx:Int):cU:=Gg kJ nR nS sF kK (fun g=>bif Nat.beq g 0 then some (10,.ag [.u8 20,.u8 0,.b false,.u8 0,.u8 0,.u8 0,.u8 0,.b false,.u8 0,.s []]) else bif Nat.beq g 1 then some (1,.int mx) else none) sG (fun g=>bif Nat.beq g 10 then some eG.TK else bif Nat.beq g 11 then some EX.T1 else bif Nat.beq g 16 then some R3.QX else none)
end rG
open Go Go.Proofs Sx
namespace rG
theorem R5:kJ.all (fun p=>Ok Tryz.prog p.1 p.2)=true:=by kernel_rfl
theorem fns (mx:Int):Az (C mx) 0 Tryz.prog.funcs.toList=true:=by kernel_rfl
theorem V8 (mx:Int):∀ (g:Nat) (G:List AV→Option AV),(C mx).gv g=some G→((C mx).own g).all Option.isNone=true→∀ (args:List AV) (r:AV),G args=some r→∀ (w:World) (F:Nat→Prop) (vs:Array Value),aQ (C mx) w F→vs.size=args.length →
   (∀ (j:Nat) (a:AV) (v:Value),args[j]?=some a→vs[j]?=some v→Rel w F a v)→dN Tryz.prog g vs w (fX (C mx) g w F r):=by
 intro g G h ho args r hr w F vs hG hl hv
 have h:(bif Nat.beq g 10 then some eG.TK else bif Nat.beq g 11 then some EX.T1 else bif Nat.beq g 16 then some R3.QX else none)=some G:=h
 cases h1:Nat.beq g 10 with
 | true =>
  rw [h1] at h;cases h
  obtain rfl:=Nat.eq_of_beq_eq_true h1
  exact eG.LW (mx:=mx) rfl ho args r hr w F vs hG hl hv
 | false =>
  rw [h1] at h
  cases h2:Nat.beq g 11 with
  | true =>
   rw [h2] at h;cases h
   obtain rfl:=Nat.eq_of_beq_eq_true h2
   exact EX.Md (mx:=mx) rfl ho args r hr w F vs hG hl hv
  | false =>
   rw [h2] at h
   cases h3:Nat.beq g 16 with
   | true =>
    rw [h3] at h;cases h
    obtain rfl:=Nat.eq_of_beq_eq_true h3
    exact R3.Mf (mx:=mx) rfl ho args r hr w F vs hG hl hv
   | false=>rw [h3] at h;cases h
theorem fit (mx:Int):Fit (C mx) Tryz.prog:=Fit.of (tab:=kJ) rfl R5 (fns mx) R3.mixed (AA R3.idxs R3.wJ) (V8 mx)
theorem maxLen {W:World} (h:W.ShapedOpen Tryz.prog):∃ m,W.cell? ⟨1,0,none⟩=some (.int .i64 m):=R3.maxLen h
end rG
open Go Go.Proofs Sx
namespace rG
theorem zX {P:Program} {w:World} {a b c:String×DataW Unit} {ps:List MemPlace} (h:DataW.LaidVars P w [a,b,c] ps):∃ qs,DataW.LaidVars P w [b] qs:=by
 obtain ⟨g,t,cs,fuel,p,q,h1,h2,h3,h4,h5,h6⟩:=h
 obtain ⟨g',t',cs',Ua,p',q',k1,k2,k3,k4,k5,k6⟩:=h5
 exact ⟨_,g',t',cs',Ua,p',[],k1,k2,k3,k4,rfl,rfl⟩
def vC:AV:=.ag [.u8 20,.u8 0,.b false,.u8 0,.u8 0,.u8 0,.u8 0,.b false,.u8 0,.s []]
def C0 (mx:Int):cU:={ C mx with glob:=fun g=>bif Nat.beq g 0 then some (10,vC) else none }
theorem Ub (mx:Int):∀ g' k' e',(C0 mx).glob g'=some (k',e')→g'=0∧k'=10∧e'=vC:=by
 intro g k e h
 have h:(bif Nat.beq g 0 then some (10,vC) else none)=some (k,e):=h
 cases hg:Nat.beq g 0 with
 | false=>rw [hg] at h;cases h
 | true=>rw [hg] at h;cases h;exact ⟨Nat.eq_of_beq_eq_true hg,rfl,rfl⟩
theorem Uc:∀ j,j < 10→vC.cell j=Uw (([.lit (.int .u8 20),.lit (.int .u8 0),.lit (.bool false),.lit (.int .u8 0),.lit (.int .u8 0),.lit (.int .u8 0),.lit (.int .u8 0),.lit (.bool false),.lit (.int .u8 0),.lit (.string [])]:List (DataW Unit)).getD j .nil):=by
 intro j hj
 match j,hj with
 | 0,_ | 1,_ | 2,_ | 3,_ | 4,_ | 5,_ | 6,_ | 7,_ | 8,_ | 9,_=>rfl
theorem G0 {W:World} {m:Int} (h:W.cell? ⟨1,0,none⟩=some (.int .i64 m)) {a c:String×DataW Unit} {ps:List MemPlace}
  (hl:DataW.LaidVars Tryz.prog W [a, ("bobbin/step.bad", .agg [.lit (.int .u8 20),.lit (.int .u8 0),.lit (.bool false),.lit (.int .u8 0),.lit (.int .u8 0),.lit (.int .u8 0),.lit (.int .u8 0),.lit (.bool false),.lit (.int .u8 0),.lit (.string [])]),c] ps):aQ (C m) W (fun _=>True):=by
 obtain ⟨qs,hl⟩:=zX hl
 have h0:aQ (C0 m) W (fun _=>True):=AJ (k:=10) (Ub m) (by kernel_rfl) (t:=40) (by kernel_rfl) Tryz.underlying40 (by kernel_rfl) rfl (by decide) Uc hl
 intro g k e hg
 have hg:(bif Nat.beq g 0 then some (10,vC) else bif Nat.beq g 1 then some (1,AV.int m) else none)=some (k,e):=hg
 cases h1:Nat.beq g 0 with
 | true =>
  rw [h1] at hg
  refine h0 g k e ?_
  show (bif Nat.beq g 0 then some (10,vC) else none)=some (k,e)
  rw [h1];exact hg
 | false =>
  rw [h1] at hg
  cases h2:Nat.beq g 1 with
  | false=>rw [h2] at hg;cases hg
  | true =>
   rw [h2] at hg;cases hg
   obtain rfl:=Nat.eq_of_beq_eq_true h2
   refine ⟨1,0,rfl,trivial,aU h,fun j hj=>?_⟩
   obtain rfl:j=0:=by omega
   exact ⟨.int .i64 m,h,rfl,Rel.int m⟩
mutual
def uV:DataW Unit→List Value
 | .lit (.int k n)=>[.int k n]
 | .lit (.bool b)=>[.bool b]
 | .lit (.string l)=>[.string ⟨l.toArray⟩]
 | .agg ps=>sJ ps
 | _=>[]
def sJ:List (DataW Unit)→List Value
 | []=>[]
 | d :: r=>uV d ++ sJ r
end
end rG
namespace rG
open Go Go.Proofs Sx
variable {mx:Int}
end rG
namespace rG
open Go Go.Proofs Sx
variable {mx:Int}
def Ud:Code:=(Tryz.f4.body).getD .skip
def X4 (a:List UInt8) (b d:UInt8) (e:Bool) (f g i j:UInt8) (k:Bool) (l:UInt8) (m:List UInt8) (c:aq) (r:RunT):Option AV :=
 (c 6 []).bind fun n=>(unop .not n).bind fun o=>ah o
 (some (.b false))
 ((c 10 [.s a,.ag [.u8 b,.u8 d,.b e,.u8 f,.u8 g,.u8 i,.u8 j,.b k,.u8 l,.s m]]).bind fun p=>(aV p 0).bind fun q=>(aV p 1).bind fun s=>(aV p 2).bind fun t=>(aV p 3).bind fun u=>(AV.aI 2 q).bind fun w=>(AV.aI 10 s).bind fun x=>(c 11 [.s a,.ag [.u8 b,.u8 d,.b e,.u8 f,.u8 g,.u8 i,.u8 j,.b k,.u8 l,.s m]]).bind fun y=>(aV y 0).bind fun z=>(aV y 1).bind fun A=>(aV y 2).bind fun B=>(aV y 3).bind fun D=>(AV.aI 2 z).bind fun E=>(AV.aI 10 A).bind fun G=>(aH .eql u D).bind fun H=>(az H true ((aH .eql t B).bind fun I=>some I) (.b false)).bind fun J=>(az J true ((fM [.i,.i,.b,.i,.i,.i,.i,.b,.i,.s] .eql (.ag [gt x 0,gt x 1,gt x 2,gt x 3,gt x 4,gt x 5,gt x 6,gt x 7,gt x 8,gt x 9]) (.ag [gt G 0,gt G 1,gt G 2,gt G 3,gt G 4,gt G 5,gt G 6,gt G 7,gt G 8,gt G 9])).bind fun L=>some L) (.b false)).bind fun M=>(az M true ((c 9 [.ag [gt w 0,gt w 1],.ag [gt E 0,gt E 1]]).bind fun N=>some N) (.b false)).bind fun O=>some O)
theorem c4 (a b d e f g i j k l m) {r:AV} (h:X4 a b d e f g i j k l m (ae (C mx) Tryz.prog) (af (C mx) Tryz.prog 4 Tryz.f4)=some r):ae (C mx) Tryz.prog 4 [.s a,.ag [.u8 b,.u8 d,.b e,.u8 f,.u8 g,.u8 i,.u8 j,.b k,.u8 l,.s m]]=some r :=
 aj (fun _ _=>by kernel_rfl) h
def X6  (c:aq) (r:RunT):Option AV :=
 (c 7 [.s [123,123,120,125,125]]).bind fun a=>(aV a 0).bind fun b=>(aV a 1).bind fun d=>(aV a 2).bind fun e=>(AV.aI 2 b).bind fun f=>(aH .eql e (.int 0)).bind fun g=>(az g true ((eP (gt f 0)).bind fun i=>(aH .eql i (.int 1)).bind fun j=>some j) (.b false)).bind fun k=>(az k true ((idx 9 (gt f 0) (.int 0)).bind fun l=>(aH .eql (AV.cell l 8) (.u8 1)).bind fun m=>some m) (.b false)).bind fun n=>some n
theorem c6 {r:AV} (h:X6  (ae (C mx) Tryz.prog) (af (C mx) Tryz.prog 6 Tryz.f6)=some r):ae (C mx) Tryz.prog 6 []=some r :=
 aj (fun _ _=>by kernel_rfl) h
def X7 (a:List UInt8) (c:aq) (r:RunT):Option AV :=
 (c 10 [.s a,.ag [.u8 0,.u8 0,.b false,.u8 0,.u8 0,.u8 0,.u8 0,.b false,.u8 0,.s []]]).bind fun b=>(aV b 0).bind fun d=>(aV b 1).bind fun e=>(aV b 2).bind fun f=>(aV b 3).bind fun g=>(AV.aI 2 d).bind fun i=>(AV.aI 10 e).bind fun j=>(aH .eql g (.int 0)).bind fun k=>(az k true ((fM [.i,.i,.b,.i,.i,.i,.i,.b,.i,.s] .neq (.ag [gt j 0,gt j 1,gt j 2,gt j 3,gt j 4,gt j 5,gt j 6,gt j 7,gt j 8,gt j 9]) (.ag [.u8 0,.u8 0,.b false,.u8 0,.u8 0,.u8 0,.u8 0,.b false,.u8 0,.s []])).bind fun l=>some l) (.b false)).bind fun m=>ah m
 (some (.tu [.ag [.aG,.aG],.int ((a.length:Int)),.int 8]))
 (some (.tu [.ag [gt i 0,gt i 1],f,g]))
theorem c7 a {r:AV} (h:X7 a (ae (C mx) Tryz.prog) (af (C mx) Tryz.prog 7 Tryz.f7)=some r):ae (C mx) Tryz.prog 7 [.s a]=some r :=
 aj (fun _ _=>by kernel_rfl) h
end rG
namespace rG
open Go Go.Proofs Sx
variable {mx:Int}
end rG
namespace rG
open Go Go.Proofs Sx
variable {mx:Int}
def Mg (run:RunT) (a:Int) (b d e f:AV):Option AV :=
 run ((bP 4 ((Tryz.f9.body).getD .skip) []).getD []) (St.bX [(2,.cell (.ptr 2 0)),(3,.cell (.ptr 3 0)),(5,.cell (.val (.int a)))] [(2,some [.val b,.val (d)]),(3,some [.val e,.val (f)])])
def X9 (a b d e:AV) (c:aq) (r:RunT):Option AV :=
 (c 16 [.ag [a,b],.ag [d,e]]).bind fun f=>(unop .not f).bind fun g=>ah g
 (some (.b false))
 (Mg r 0 a b d e)
theorem c9 (a b d e) {r:AV} (h:X9 a b d e (ae (C mx) Tryz.prog) (af (C mx) Tryz.prog 9 Tryz.f9)=some r):ae (C mx) Tryz.prog 9 [.ag [a,b],.ag [d,e]]=some r :=
 aj (fun _ _=>by kernel_rfl) h
def Mh (a:Int) (b d e f:AV) (c:aq) (r:RunT):Option AV :=
 (eP b).bind fun g=>(aH .lss (.int a) g).bind fun i=>ah i
 ((idx 9 b (.int a)).bind fun j=>(idx 9 e (.int a)).bind fun k=>(aH .neq (AV.cell j 8) (AV.cell k 8)).bind fun l=>ah l
 (some (.b false))
 (Mg r (bN (a+1)) b d e f))
 (some (.b true))
theorem Qr (a b d e f) {r:AV} (h:Mh a b d e f (ae (C mx) Tryz.prog) (af (C mx) Tryz.prog 9 Tryz.f9)=some r):Mg (af (C mx) Tryz.prog 9 Tryz.f9) a b d e f=some r :=
 ak (fun _ _=>by kernel_rfl) h
end rG
namespace EX
open Go Go.Proofs Sx R3 eG
def Nw (x:Nd):Nd:={ x with hole:=0 }
theorem ir:∀ (ts:Ts) (m:Nat) (c:Ctx),(cj m ts c).map Nw=ts.arr m
 | .nil,m,c=>rfl
 | .leaf w k,m,c=>by simp only [cj,Ts.arr,List.map_cons,ir k];rfl
 | .blk w b e k,m,c=>by simp only [cj,Ts.arr,List.map_cons,List.map_append,ir b,ir k];rfl
 | .alt w b l x e k,m,c=>by simp only [cj,Ts.arr,List.map_cons,List.map_append,ir b,ir x,ir k];rfl
theorem Qs (l:List UInt8) (c:Ctx):(∃ a e:Int,e≠0∧kX l c=.tu [dG,(bG 0).ay,.int a,.int e]∧jT l c=.tu [dG,(bG 0).ay,.int a,.int e]) ∨
  ∃ (ns:List Nd) (top:List Nat) (d:Ctx),kX l c=.tu [.ag [.ro 9 (ns.map Nd.av),.ro 1 (aF top)],d.ay,.int 0,.int 0]∧jT l c=.tu [.ag [.ro 9 (ns.map mh),.ro 1 (aF top)],d.ay,.int 0,.int 0] ∧
   ns.length≤100000∧top.length≤100000∧(∀ x ∈ ns,cZ x.names)∧∀ x ∈ ns,(x.body.getD []).length≤100000∧(x.els.getD []).length≤100000:=by
 unfold kX jT
 by_cases h1:(!form c || c.st == 20)=true
 ·rw [if_pos h1,if_pos h1]
  exact .inl ⟨0,1,by decide,rfl,rfl⟩
 ·rw [if_neg h1,if_neg h1]
  cases hp:dw l with
  | bad a e=>exact .inl ⟨a,e,by have:=mZ hp;omega,rfl,rfl⟩
  | ok nodes top =>
   obtain ⟨ts,g0,rfl,rfl,g1,g2,g3,g4,hn⟩:=DT hp
   have hsz:=cG ts 0
   have FD:(ts.arr 0).length=ts.size:=Ts.eH ts 0
   obtain ⟨k1,k2⟩:=fL ts c [] [] 0 (2 * (ts.arr 0).length+1) g0 (by rw [FD];exact Nat.le_refl _)
   simp only [List.length_nil,List.nil_append,List.append_nil] at k1 k2
   dsimp only
   cases hgo:bK ts c with
   | bad a e =>
    obtain ⟨h2,c',N',h3⟩:=k2 a e hgo
    rw [h3]
    simp only
    rw [if_pos (by simpa using h2),if_pos (by simpa using h2)]
    exact .inl ⟨a,e,h2,rfl,rfl⟩
   | ok d =>
    rw [k1 d hgo]
    have hm:∀ x ∈ cj 0 ts c,Nw x ∈ ts.arr 0:=fun x hx=>by
     rw [← ir ts 0 c]
     exact List.mem_map_of_mem hx
    refine .inr ⟨cj 0 ts c,ts.aL 0,d,rfl,rfl,by rw [di];omega,by omega,fun x hx=>?_,fun x hx=>?_⟩
    ·obtain ⟨_,w,hw,e⟩:=k9 ts 0 _ (hm x hx)
     have e:x.names=w.names:=e
     rw [e]
     exact hn w hw
    ·have h:=fI ts 0 _ (hm x hx)
     have h:(x.body.getD []).length≤ts.size∧(x.els.getD []).length≤ts.size:=h
     omega
end EX
namespace rG
open Go Go.Proofs Sx R3 eG EX
variable {mx:Int}
theorem Z8 (l:List UInt8) {c:Ctx} (h:lH c):ae (C mx) Tryz.prog 10 [.s l,c.ay]=some (kX l c):=gU (G:=TK) rfl rfl (by show (if c.nm.length < _ then some _ else none)=_;exact if_pos h)
theorem s11 (l:List UInt8) {c:Ctx} (h:lH c):ae (C mx) Tryz.prog 11 [.s l,c.ay]=some (jT l c):=gU (G:=T1) rfl rfl (by show (if c.nm.length < _ then some _ else none)=_;exact if_pos h)
theorem Z9 {x y:AV} (h:ua x y):ae (C mx) Tryz.prog 16 [x,y]=some (.b true):=gU (G:=QX) rfl rfl (g39 h)
theorem l9 {ns:List Nd} {ta tb:AV} (hl:ns.length≤100000):∀ (m i:Nat),ns.length=i+m→Mg (af (C mx) Tryz.prog 9 Tryz.f9) (i:Int) (.ro 9 (ns.map Nd.av)) ta (.ro 9 (ns.map mh)) tb=some (.b true)
 | 0,i,hi=>by
  apply Qr
  have e:decide ((i:Int) < ((ns.map Nd.av).length:Int))=false:=by rw [decide_eq_false_iff_not,List.length_map];omega
  simp only [Mh,dI,Sx.bo,e,Option.bind_some,ai,Bool.false_eq_true,if_false]
 | m+1,i,hi=>by
  apply Qr
  have hlt:i < ns.length:=by omega
  have e:decide ((i:Int) < ((ns.map Nd.av).length:Int))=true:=by rw [decide_eq_true_eq,List.length_map];omega
  have e3:bN ((i:Int)+1)=((i+1:Nat):Int):=by rw [cJ (by omega) (by omega)];omega
  have x1:idx 9 (.ro 9 (ns.map Nd.av)) (.int (i:Int))=some (ns[i]).av:=by rw [lF 9 (by rw [List.length_map];exact hlt),List.getElem_map]
  have x2:idx 9 (.ro 9 (ns.map mh)) (.int (i:Int))=some (mh ns[i]):=by rw [lF 9 (by rw [List.length_map];exact hlt),List.getElem_map]
  have c1:AV.cell (ns[i]).av 8=.u8 (ns[i]).hole:=rfl
  have c2:AV.cell (mh ns[i]) 8=.u8 (ns[i]).hole:=rfl
  simp only [Mh,dI,Sx.bo,e,Option.bind_some,ai,if_true,x1,x2,c1,c2,wa,bne_self_eq_false,Bool.false_eq_true,if_false,e3]
  exact l9 hl m (i+1) (by omega)
theorem s9 {ns:List Nd} {top:List Nat} (h1:ns.length≤100000) (h2:top.length≤100000) (h3:∀ x ∈ ns,cZ x.names) (h4:∀ x ∈ ns,(x.body.getD []).length≤100000∧(x.els.getD []).length≤100000) :
  ae (C mx) Tryz.prog 9 [.ag [.ro 9 (ns.map Nd.av),.ro 1 (aF top)],.ag [.ro 9 (ns.map mh),.ro 1 (aF top)]]=some (.b true):=by
 apply c9
 have fp:ua (.ag [.ro 9 (ns.map Nd.av),.ro 1 (aF top)]) (.ag [.ro 9 (ns.map mh),.ro 1 (aF top)]):=⟨ns,top,_,_,_,_,h1,h2,h3,h4,.inl rfl,.inl rfl,.inl rfl,.inl rfl,rfl,rfl⟩
 have Ch:unop .not (.b true)=some (.b false):=rfl
 simp only [X9,Z9 fp,Option.bind_some,Ch,ai,Bool.false_eq_true,if_false]
 exact l9 (mx:=mx) h1 ns.length 0 (by omega)
theorem s9n:ae (C mx) Tryz.prog 9 [.ag [.aG,.aG],.ag [.aG,.aG]]=some (.b true):=by
 apply c9
 have fp:ua (.ag [.aG,.aG]) (.ag [.aG,.aG]) :=
  ⟨[],[],.aG,.aG,.aG,.aG,Nat.zero_le _,Nat.zero_le _,by simp,by simp,.inr ⟨rfl,rfl⟩,.inr ⟨rfl,rfl⟩,.inr ⟨rfl,rfl⟩,.inr ⟨rfl,rfl⟩,rfl,rfl⟩
 have Ch:unop .not (.b true)=some (.b false):=rfl
 simp only [X9,Z9 fp,Option.bind_some,Ch,ai,Bool.false_eq_true,if_false]
 apply Qr
 have e0:eP .aG=some (.int 0):=rfl
 simp only [Mh,e0,Sx.bo,Option.bind_some]
 rfl
theorem XY (a b c d:AV):aV (.tu [a,b,c,d]) 0=some a:=rfl
theorem XZ (a b c d:AV):aV (.tu [a,b,c,d]) 1=some b:=rfl
theorem X0 (a b c d:AV):aV (.tu [a,b,c,d]) 2=some c:=rfl
theorem X1 (a b c d:AV):aV (.tu [a,b,c,d]) 3=some d:=rfl
theorem tr0 (a b c:AV):aV (.tu [a,b,c]) 0=some a:=rfl
theorem tr1 (a b c:AV):aV (.tu [a,b,c]) 1=some b:=rfl
theorem tr2 (a b c:AV):aV (.tu [a,b,c]) 2=some c:=rfl
theorem DZ (a b:AV):AV.aI 2 (.ag [a,b])=some [a,b]:=rfl
theorem eq_self (d:Ctx):fM [.i,.i,.b,.i,.i,.i,.i,.b,.i,.s] .eql d.ay d.ay=some (.b true):=by
 rw [Kr];simp
theorem Xv:lH (bG 0):=by show (0:Nat) < _;decide
theorem Qt:AV.ag [.u8 0,.u8 0,.b false,.u8 0,.u8 0,.u8 0,.u8 0,.b false,.u8 0,.s []]=(bG 0).ay:=rfl
theorem z0:Ctx.ay ⟨0,0,false,0,0,0,0,false,0,[]⟩=(bG 0).ay:=rfl
theorem Qu:kX [123,123,120,125,125] (bG 0)=.tu [.ag [.ro 9 [.ag [.u8 1,.int 0,.s [],.b false,.ro 1 [.s [120]],.aG,.aG,.b false,.u8 1]],.ro 1 [.int 0]],(bG 0).ay,.int 0,.int 0]:=by
 kernel_rfl
theorem s6:ae (C mx) Tryz.prog 6 []=some (.b true):=by
 apply c6
 have h7:ae (C mx) Tryz.prog 7 [.s [123,123,120,125,125]]=some (.tu [.ag [.ro 9 [.ag [.u8 1,.int 0,.s [],.b false,.ro 1 [.s [120]],.aG,.aG,.b false,.u8 1]],.ro 1 [.int 0]],.int 0,.int 0]):=by
  apply c7
  simp only [X7,Qt,Z8 _ Xv,Qu,Option.bind_some,XY,XZ,X0,X1,DZ,ax,Sx.bA,beq_self_eq_true,zT,aC,z0,aJ,qM,decide_true,Bool.not_true,qI,ai,Bool.false_eq_true,if_false,List.getD_cons_zero,List.getD_cons_succ]
 simp only [X6,h7,Option.bind_some,tr0,tr1,tr2,DZ,Sx.bA]
 rfl
theorem X2 (l:List UInt8) (c:Ctx) (hc:lH c):ae (C mx) Tryz.prog 4 [.s l,c.ay]=some (.b true):=by
 refine c4 _ _ _ _ _ _ _ _ _ _ _ ?_
 have Ch:unop .not (.b true)=some (.b false):=rfl
 simp only [X4,s6 (mx:=mx),Option.bind_some,Ch,ai,Bool.false_eq_true,if_false,aC,aJ,Z8 l hc,s11 l hc]
 rcases Qs l c with ⟨a,e,he,h1,h2⟩ | ⟨ns,top,d,h1,h2,g1,g2,g3,g4⟩
 ·simp only [h1,h2,dG,Option.bind_some,XY,XZ,X0,X1,DZ,ax,Sx.bA,beq_self_eq_true,zT,aC,aJ,eq_self,qI,List.getD_cons_zero,List.getD_cons_succ,s9n]
 ·simp only [h1,h2,Option.bind_some,XY,XZ,X0,X1,DZ,ax,Sx.bA,beq_self_eq_true,zT,aC,aJ,eq_self,qI,List.getD_cons_zero,List.getD_cons_succ,s9 g1 g2 g3 g4]
end rG
end
