/-
  A part of CodePrograms's proof.
-/
import Derived.Test.YtgjfbalafdifgaaGreatDoorTC
import Derived.Test.YtgjfbalafdifgaaGreatDoorTG
import Derived.Test.YtgjfbalafdifgaaGreatDoorTF
import Derived.Test.YtgjfbalafdifgaaGreatDoorTD
import Derived.Test.YtgjfbalafdifgaaGreatDoorProg
set_option linter.unusedVariables false
set_option linter.unusedSimpArgs false
set_option linter.unusedSectionVars false
set_option linter.unnecessarySimpa false
open _root_ renaming Bool→ay,Int→aB,List→ai,Nat→ax,Option→ak,UInt8→ae,beq_self_eq_true→bG,bne_self_eq_false→cz,congrArg→bA,decide_eq_false_iff_not→aQ,decide_eq_true_eq→aG,if_false→aH,if_neg→aI,if_pos→aJ,if_true→aO
open Bool renaming false→af,not_false→fE,not_true→df,true→aj
open Go.DataW renaming LaidVars→gZ
open Go.Proofs.Tryz renaming f23→dS,f25→ek,f26→fD,f40→eO
open Go renaming Value→aC,World→az
open List renaming getD_cons_succ→bz,getD_cons_zero→bf,length_append→au,length_cons→aA,length_map→aP,length_singleton→aW,map_append→dM,singleton_append→bu
open Nat renaming eq_of_beq_eq_true→aF
open Option renaming none→ah,some→aa
namespace lp
open Go Go.Proofs Sx R3
variable {mx:aB}
theorem zv {A R:ai Nd} {x:Nd}:((A ++ x :: R).map mh).getD A.length .un=mh x:=by
 rw [List.getD_eq_getElem?_getD,List.getElem?_map];simp
theorem zw {A R:ai Nd} {x:Nd}:pN ((A ++ x :: R).map mh).length (.int (A.length:aB))=aa A.length:=ln (by simp)
theorem U3 {A R:ai Nd} {x y:Nd}:((A ++ x :: R).map mh).set A.length (mh y)=(A ++ y :: R).map mh:=by simp
theorem U4 {w:Wd} (h2:w.kind≠2) (h4:w.kind≠4):cI w.kind=0∨cI w.kind=1∨cI w.kind=4:=by
 unfold cI
 repeat' split
 all_goals first
  | exact .inl rfl
  | exact .inr (.inl rfl)
  | exact .inr (.inr rfl)
  | (rename_i h;exact absurd (by simpa using h) h2)
  | (rename_i h;exact absurd (by simpa using h) h4)
theorem nL (x:Nd):AV.cell (mh x) 0=.u8 x.kind:=rfl
theorem uF (x:Nd):AV.cell (mh x) 1=.int (x.at':aB):=rfl
theorem Es (x:Nd):AV.cell (mh x) 2=.s x.text:=rfl
theorem cv0:conv .i64 (.u8 0)=aa (.int 0):=rfl
theorem cv1:conv .i64 (.u8 1)=aa (.int 1):=rfl
theorem cv2:conv .i64 (.u8 2)=aa (.int 2):=rfl
theorem cv3:conv .i64 (.u8 3)=aa (.int 3):=rfl
theorem cv4:conv .i64 (.u8 4)=aa (.int 4):=rfl
theorem cvb (x:ae):conv .u8 (.int (x.toNat:aB))=aa (.u8 x):=by
 have h:=x.toNat_lt
 have e:IntKind.u8.wrap (x.toNat:aB)=(x.toNat:aB):=wrap_u8 (by omega) (by omega)
 have e1:conv .u8 (.int (x.toNat:aB))=AV.CW .u8 (IntKind.u8.wrap (x.toNat:aB)):=by simp only [conv,AV.rL,Option.bind_some]
 have e2:AV.CW .u8 (x.toNat:aB)=if 0≤(x.toNat:aB)∧(x.toNat:aB) < 256 then aa (.u8 (UInt8.ofNat ((x.toNat:aB)).toNat)) else ah:=rfl
 rw [e1,e,e2,aJ ⟨by omega,by omega⟩,Int.toNat_natCast,UInt8.ofNat_toNat]
theorem YT:((0:aB) == 0)=aj:=rfl
theorem hz (x:ae):((x.toNat:aB) == 0)=(x == 0):=by
 rw [Bool.eq_iff_iff,beq_iff_eq,beq_iff_eq]
 constructor
 ·intro h
  exact UInt8.toNat_inj.1 (by show _=0;omega)
 ·intro h
  rw [h];rfl
theorem Nx {w:Wd} (h2:w.kind≠2) (h4:w.kind≠4) (hw:w.at'≤1000000000∧w.text.length≤1000000000) {c:Ctx} (hc:rK c) (A R:ai Nd) (top:AV) (a:aB) :
  (∀ d:Ctx,ia w c=.ok d→aq (C mx) Tryz.prog 39 [.un,.int (A.length:aB),c.bw,stA (A ++ jS w :: R) top a 0]=aa (.tu [d.bw,stA (A ++ e9 w c :: R) top a 0])∧rK d) ∧
  (∀ a' e',ia w c=.bad a' e'→e'≠0∧∃ d:Ctx,aq (C mx) Tryz.prog 39 [.un,.int (A.length:aB),c.bw,stA (A ++ jS w :: R) top a 0]=aa (.tu [d.bw,stA (A ++ jS w :: R) top a' e'])):=by
 have go:∀ {r:AV},Oa (A.length:aB) c.st c.el c.en c.at' c.qu c.pa c.su c.es c.da c.nm ((A ++ jS w :: R).map mh) top a 0 (aq (C mx) Tryz.prog) (a7 (C mx) Tryz.prog 39 Tryz.f39)=aa r→aq (C mx) Tryz.prog 39 [.un,.int (A.length:aB),c.bw,stA (A ++ jS w :: R) top a 0]=aa r:=fun h=>c39 _ _ _ _ _ _ _ _ _ _ _ _ _ _ _ h
 have C6:aq (C mx) Tryz.prog 55 [c.bw]=aa (.int ((hole c).toNat:aB)):=s55 ..
 have Tc:aq (C mx) Tryz.prog 56 [c.bw]=aa (after c).bw:=s56 ..
 have h54:aq (C mx) Tryz.prog 54 [c.bw,.ro 1 (w.text.map .u8)]=aa (ti (js c w.text)):=s54 c w.text hc (by omega)
 have Qr (p:ai ae):Sa (.s p)=aa (.ro 1 (p.map .u8)):=rfl
 have mA:(jS w).kind=cI w.kind:=rfl
 have hat:(jS w).at'=w.at':=rfl
 have Zk:(jS w).text=w.text:=rfl
 obtain ⟨m1,m2,m3⟩:=wG c w.text
 unfold ia
 rcases U4 h2 h4 with k | k | k
 ·have hH:e9 w c=jS w:=by unfold e9 lT jS;rw [k];rfl
  rw [k,hH]
  simp only [bG,aO]
  by_cases hb:(js c w.text).2 ≥ 0
  ·rw [aJ hb]
   refine ⟨fun d h=>(by cases h),fun a' e' h=>?_⟩
   cases h
   refine ⟨by decide,(js c w.text).1,go ?_⟩
   have hd:decide ((js c w.text).2 ≥ 0)=aj:=by simpa using hb
   simp only [Oa,zw,zv,Option.bind_some,nL,uF,Es,mA,hat,Zk,k,cv0,cX,YT,ba,aO,Qr,cg,cq,h54,Pa,Pc,bm,mN,hd]
   rw [lj (by omega) (by omega)]
   simp only [Option.bind_some,kK,zT]
   apply RX
   simp only [Nt,cg,cq]
   rfl
  ·rw [aI hb]
   refine ⟨fun d h=>?_,fun a' e' h=>(by cases h)⟩
   cases h
   refine ⟨go ?_,m1⟩
   have hd:decide ((js c w.text).2 ≥ 0)=af:=by simpa using hb
   simp only [Oa,zw,zv,Option.bind_some,nL,uF,Es,mA,hat,Zk,k,cv0,cX,YT,ba,aO,Qr,cg,cq,h54,Pa,Pc,bm,mN,hd,Bool.false_eq_true,aH,zT]
   apply RX
   simp only [Nt,cg,cq]
   rfl
 ·have q0:((1:ae) == 0)=af:=rfl
  have q1:((1:aB) == 0)=af:=rfl
  have hH:e9 w c={ jS w with hole:=hole c }:=by unfold e9 lT jS;rw [k];rfl
  rw [k]
  simp only [q0,Bool.false_eq_true,aH,bG,aO]
  by_cases hh:(hole c == 0)=aj
  ·rw [aJ hh]
   refine ⟨fun d h=>(by cases h),fun a' e' h=>?_⟩
   cases h
   refine ⟨by decide,c,go ?_⟩
   simp only [Oa,zw,zv,Option.bind_some,nL,uF,mA,hat,k,cv1,cX,q1,ba,Bool.false_eq_true,aH,bG,aO,cg,cq,C6,hz,hh,kK]
   rfl
  ·rw [aI hh]
   refine ⟨fun d h=>?_,fun a' e' h=>(by cases h)⟩
   cases h
   have hh:(hole c == 0)=af:=by simpa using hh
   refine ⟨go ?_,wH hc⟩
   simp only [Oa,zw,zv,Option.bind_some,nL,uF,mA,hat,k,cv1,cX,q1,ba,Bool.false_eq_true,aH,bG,aO,cg,cq,C6,hz,hh,cvb,jZ,Tc,bm,zT]
   rw [hH]
   have e:(AV.ag [.u8 1,.int (w.at':aB),AV.cell (mh (jS w)) 2,AV.cell (mh (jS w)) 3,AV.cell (mh (jS w)) 4,AV.cell (mh (jS w)) 5,AV.cell (mh (jS w)) 6,AV.cell (mh (jS w)) 7,.u8 (hole c)])=mh { jS w with hole:=hole c }:=by
    rw [← k];rfl
   rw [e,U3]
   rfl
 ·have q0:((4:ae) == 0)=af:=rfl
  have q1:((4:ae) == 1)=af:=rfl
  have z0:((4:aB) == 0)=af:=rfl
  have z1:((4:aB) == 1)=af:=rfl
  have z2:((4:aB) == 2)=af:=rfl
  have z3:((4:aB) == 3)=af:=rfl
  have hH:e9 w c=jS w:=by unfold e9 lT jS;rw [k];rfl
  rw [k,hH]
  simp only [q0,q1,Bool.false_eq_true,aH]
  refine ⟨fun d h=>?_,fun a' e' h=>(by cases h)⟩
  cases h
  refine ⟨go ?_,hc⟩
  simp only [Oa,zw,zv,Option.bind_some,nL,mA,k,cv4,cX,z0,z1,z2,z3,ba,Bool.false_eq_true,aH]
  apply U1
  rfl
theorem U5 (x:Nd):AV.one (AV.int (x.at':aB))=aa (.int (x.at':aB)):=rfl
theorem Ny {A R:ai Nd} {x:Nd} (hk:x.kind=2∨x.kind=3) {c:Ctx} {top:AV} {a:aB} {r:AV}
  (h:CQ (a7 (C mx) Tryz.prog 39 Tryz.f39) c.st c.el c.en c.at' c.qu c.pa c.su c.es c.da c.nm 0 0 af 0 0 0 0 af 0 [] (AV.cell (mh x) 0) (.int (x.at':aB)) (AV.cell (mh x) 2) (AV.cell (mh x) 3) (AV.cell (mh x) 4) (.ro 1 (cj (x.body.getD []))) (.ro 1 (cj (x.els.getD []))) (AV.cell (mh x) 7) (AV.cell (mh x) 8) ((A ++ x :: R).map mh) top a 0=aa r) :
  aq (C mx) Tryz.prog 39 [.un,.int (A.length:aB),c.bw,stA (A ++ x :: R) top a 0]=aa r:=by
 have go:∀ {r:AV},Oa (A.length:aB) c.st c.el c.en c.at' c.qu c.pa c.su c.es c.da c.nm ((A ++ x :: R).map mh) top a 0 (aq (C mx) Tryz.prog) (a7 (C mx) Tryz.prog 39 Tryz.f39)=aa r→aq (C mx) Tryz.prog 39 [.un,.int (A.length:aB),c.bw,stA (A ++ x :: R) top a 0]=aa r:=fun h=>c39 _ _ _ _ _ _ _ _ _ _ _ _ _ _ _ h
 have z20:((2:aB) == 0)=af:=rfl
 have z21:((2:aB) == 1)=af:=rfl
 have z30:((3:aB) == 0)=af:=rfl
 have z31:((3:aB) == 1)=af:=rfl
 have z32:((3:aB) == 2)=af:=rfl
 apply go
 rcases hk with k | k
 ·simp only [Oa,zw,zv,Option.bind_some,nL,k,cv2,cX,z20,z21,ba,Bool.false_eq_true,aH,bG,aO]
  rw [← k]
  exact h
 ·simp only [Oa,zw,zv,Option.bind_some,nL,k,cv3,cX,z30,z31,z32,ba,Bool.false_eq_true,aH,bG,aO]
  rw [← k]
  exact h
theorem II {A R:ai Nd} {x:Nd} (hk:x.kind=2∨x.kind=3) {c d1:Ctx} {N1:ai Nd} {top:AV} {a a1 e1:aB}
  (h1:aq (C mx) Tryz.prog 22 [.un,.ro 1 (cj (x.body.getD [])),c.bw,stA (A ++ x :: R) top a 0]=aa (.tu [d1.bw,stA N1 top a1 e1])) (he:e1≠0) :
  aq (C mx) Tryz.prog 39 [.un,.int (A.length:aB),c.bw,stA (A ++ x :: R) top a 0]=aa (.tu [d1.bw,stA N1 top a1 e1]):=by
 apply Ny hk
 apply Nu
 have z:(e1 == 0)=af:=by simpa using he
 unfold stA at h1
 simp only [Gr,cg,cq,h1,Option.bind_some,oA,oB,rW,bm,zT,qH,qI,qJ,qK,fg,cX,z,ba,Bool.false_eq_true,aH]
 apply Nv
 simp only [Gs,cX,Option.bind_some,z,lL,ba,Bool.false_eq_true,aH]
 apply Gt
 rfl
theorem CT {A R:ai Nd} {x:Nd} (hk:x.kind=2∨x.kind=3) {c d1 d2:Ctx} {N1 N2:ai Nd} {top:AV} {a a1 a2 e2:aB}
  (h1:aq (C mx) Tryz.prog 22 [.un,.ro 1 (cj (x.body.getD [])),c.bw,stA (A ++ x :: R) top a 0]=aa (.tu [d1.bw,stA N1 top a1 0]))
  (h2:aq (C mx) Tryz.prog 22 [.un,.ro 1 (cj (x.els.getD [])),c.bw,stA N1 top a1 0]=aa (.tu [d2.bw,stA N2 top a2 e2])) :
  aq (C mx) Tryz.prog 39 [.un,.int (A.length:aB),c.bw,stA (A ++ x :: R) top a 0]=aa (.tu [d1.bw,if (e2 == 0 && !decide (d1=d2))=aj then stA N2 top (x.at':aB) 7 else stA N2 top a2 e2]):=by
 apply Ny hk
 apply Nu
 unfold stA at h1 h2
 simp only [Gr,cg,cq,h1,Option.bind_some,oA,oB,rW,bm,zT,qH,qI,qJ,qK,fg,cX,bG,ba,aO,h2]
 apply Nv
 simp only [Gs,cX,Option.bind_some,cg,cq,nY,b9,ba,U5]
 split
 ·apply Gt
  rfl
 ·apply Gt
  rfl
theorem zx:∀ (ts:Ts) (pre:ai ax) (c:Ctx) (A B:ai Nd) (x:aB) (top:AV),ts.ok→rK c→(∀ w ∈ ts.flat,w.at'≤1000000000∧w.text.length≤1000000000)→pre.length+ts.size≤1000000 →
  (∀ d:Ctx,dv ts c=.ok d→LF mx (pre ++ ts.bo A.length) pre.length c (A ++ (ts.arr A.length ++ B)) top x 0=aa (.tu [d.bw,stA (A ++ (cp A.length ts c ++ B)) top x 0])∧rK d) ∧
  (∀ a e,dv ts c=.bad a e→e≠0∧∃ (c':Ctx) (N':ai Nd),LF mx (pre ++ ts.bo A.length) pre.length c (A ++ (ts.arr A.length ++ B)) top x 0=aa (.tu [c'.bw,stA N' top a e]))
 | .nil,pre,c,A,B,x,top,ho,hc,hw,hn=>by
  refine ⟨fun d h=>?_,fun a e h=>by simp [dv] at h⟩
  simp only [dv,WR.ok.injEq] at h
  subst h
  exact ⟨IG (by simp [Ts.bo]) _ _ _ _ _,hc⟩
 | .leaf w k,pre,c,A,B,x,top,ho,hc,hw,hn=>by
  obtain ⟨⟨k2,k3,k4,k5⟩,hk⟩:=ho
  simp only [Ts.size] at hn
  have ht:=eI k (A.length+1)
  have hL:(pre ++ A.length :: k.bo (A.length+1)).length≤1000000:=by simp only [au,aA];omega
  have hi:(pre ++ A.length :: k.bo (A.length+1))[pre.length]?=aa A.length:=by simp
  have he:A ++ (Ts.arr A.length (.leaf w k) ++ B)=A ++ jS w :: (k.arr (A.length+1) ++ B):=by simp [Ts.arr]
  obtain ⟨n1,n2⟩:=Nx (mx:=mx) k2 k4 (hw w (by simp [Ts.flat])) hc A (k.arr (A.length+1) ++ B) top x
  have ih:=fun c1 hc1=>zx k (pre ++ [A.length]) c1 (A ++ [e9 w c]) B x top hk hc1 (fun y hy=>hw y (by simp [Ts.flat,hy])) (by simp only [au,aA,List.length_nil];omega)
  simp only [au,aA,List.length_nil,Nat.zero_add,List.append_assoc,bu] at ih
  show (∀ d:Ctx,_→LF mx (pre ++ A.length :: k.bo (A.length+1)) pre.length c _ top x 0=_∧_)∧(∀ a e,_→_∧∃ c' N',LF mx (pre ++ A.length :: k.bo (A.length+1)) pre.length c _ top x 0=_)
  rw [he]
  refine ⟨fun d h=>?_,fun a e h=>?_⟩
  ·unfold dv at h
   cases hl:ia w c with
   | bad a e=>rw [hl] at h;cases h
   | ok c1 =>
    rw [hl] at h
    have h:dv k c1=.ok d:=h
    obtain ⟨g1,g2⟩:=n1 c1 hl
    obtain ⟨i1,i2⟩:=(ih c1 g2).1 d h
    refine ⟨(mE hi hL g1 i1).trans ?_,i2⟩
    simp only [cp,hl,WR.get,List.cons_append]
  ·unfold dv at h
   cases hl:ia w c with
   | bad a' e' =>
    rw [hl] at h;cases h
    obtain ⟨g1,d,g2⟩:=n2 a e hl
    exact ⟨g1,d,_,mE hi hL g2 (rI _ _ _ _ g1)⟩
   | ok c1 =>
    rw [hl] at h
    have h:dv k c1=.bad a e:=h
    obtain ⟨g1,g2⟩:=n1 c1 hl
    obtain ⟨i1,c',N',i2⟩:=(ih c1 g2).2 a e h
    exact ⟨i1,c',N',mE hi hL g1 i2⟩
 | .blk w b e' k,pre,c,A,B,x,top,ho,hc,hw,hn=>by
  obtain ⟨hk,ke,hb,oY⟩:=ho
  simp only [Ts.size] at hn
  have ht:=eI k (A.length+1+b.size)
  have hL:(pre ++ A.length :: k.bo (A.length+1+b.size)).length≤1000000:=by simp only [au,aA];omega
  have hi:(pre ++ A.length :: k.bo (A.length+1+b.size))[pre.length]?=aa A.length:=by simp
  have he:A ++ (Ts.arr A.length (.blk w b e' k) ++ B)=A ++ gf w (b.bo (A.length+1)) :: (b.arr (A.length+1) ++ (k.arr (A.length+1+b.size) ++ B)):=by simp [Ts.arr]
  have MZ:A ++ (cp A.length (.blk w b e' k) c ++ B)=A ++ gf w (b.bo (A.length+1)) :: (cp (A.length+1) b c ++ (cp (A.length+1+b.size) k c ++ B)):=by simp [cp]
  show (∀ d:Ctx,_→LF mx (pre ++ A.length :: k.bo (A.length+1+b.size)) pre.length c _ top x 0=_∧_)∧(∀ a e,_→_∧∃ c' N',LF mx (pre ++ A.length :: k.bo (A.length+1+b.size)) pre.length c _ top x 0=_)
  rw [he,MZ]
  clear he MZ
  have C5:(gf w (b.bo (A.length+1))).kind=2∨(gf w (b.bo (A.length+1))).kind=3:=qN hk
  have Ic:(gf w (b.bo (A.length+1))).body.getD []=b.bo (A.length+1):=rfl
  have GN:(gf w (b.bo (A.length+1))).els.getD []=[]:=rfl
  have J9:(gf w (b.bo (A.length+1))).at'=w.at':=rfl
  generalize gf w (b.bo (A.length+1))=nd at C5 Ic GN J9 ⊢
  have Bl:=zx b [] c (A ++ [nd]) (k.arr (A.length+1+b.size) ++ B) x top hb hc (fun y hy=>hw y (by simp [Ts.flat,hy])) (by simp only [List.length_nil];omega)
  simp only [au,aA,List.length_nil,Nat.zero_add,List.append_assoc,bu,List.nil_append] at Bl
  have CC:=fun c1 hc1=>zx k (pre ++ [A.length]) c1 (A ++ nd :: cp (A.length+1) b c) B x top oY hc1 (fun y hy=>hw y (by simp [Ts.flat,hy])) (by simp only [au,aA,List.length_nil];omega)
  simp only [au,aA,List.length_nil,Nat.zero_add,dy,List.append_assoc,List.cons_append,List.nil_append] at CC
  rw [show A.length+(b.size+1)=A.length+1+b.size by omega] at CC
  have good:∀ a,dv b c=.ok a→aq (C mx) Tryz.prog 39 [.un,.int (A.length:aB),c.bw,stA (A ++ nd :: (b.arr (A.length+1) ++ (k.arr (A.length+1+b.size) ++ B))) top x 0]=aa (.tu [a.bw,if a=c then stA (A ++ nd :: (cp (A.length+1) b c ++ (k.arr (A.length+1+b.size) ++ B))) top x 0 else stA (A ++ nd :: (cp (A.length+1) b c ++ (k.arr (A.length+1+b.size) ++ B))) top (w.at':aB) 7]):=fun a h=>by
   have h1:=QM (Bl.1 a h).1
   rw [← Ic] at h1
   have h2:=QM (IG (mx:=mx) (L:=nd.els.getD []) (j:=0) (by rw [GN];exact Nat.le_refl _) c (A ++ nd :: (cp (A.length+1) b c ++ (k.arr (A.length+1+b.size) ++ B))) top x 0)
   rw [CT C5 h1 h2,J9]
   by_cases N7:a=c
   ·rw [aI (by simp [N7]),aJ N7]
   ·rw [aJ (by simp [N7]),aI N7]
  refine ⟨fun d h=>?_,fun a e h=>?_⟩
  ·unfold dv at h
   cases hl:dv b c with
   | bad a e=>rw [hl] at h;cases h
   | ok c1 =>
    rw [hl] at h
    have h:(if c1=c then dv k c else _)=WR.ok d:=h
    by_cases hc1:c1=c
    ·rw [aJ hc1] at h
     have g:=good c1 hl
     rw [aJ hc1] at g
     subst hc1
     obtain ⟨i1,i2⟩:=(CC c1 hc).1 d h
     exact ⟨mE hi hL g i1,i2⟩
    ·rw [aI hc1] at h;cases h
  ·unfold dv at h
   cases hl:dv b c with
   | bad a' e' =>
    rw [hl] at h;cases h
    obtain ⟨g1,c',N',g2⟩:=Bl.2 a e hl
    have h1:=QM g2
    rw [← Ic] at h1
    exact ⟨g1,_,_,mE hi hL (II C5 h1 g1) (rI _ _ _ _ g1)⟩
   | ok c1 =>
    rw [hl] at h
    have h:(if c1=c then dv k c else _)=WR.bad a e:=h
    have g:=good c1 hl
    by_cases hc1:c1=c
    ·rw [aJ hc1] at h g
     subst hc1
     obtain ⟨i1,c',N',i2⟩:=(CC c1 hc).2 a e h
     exact ⟨i1,c',N',mE hi hL g i2⟩
    ·rw [aI hc1] at h g;cases h
     exact ⟨by decide,_,_,mE hi hL g (rI _ _ _ _ (by decide))⟩
 | .alt w b l y e' k,pre,c,A,B,x,top,ho,hc,hw,hn=>by
  obtain ⟨hk,kl,ke,hb,hy,oY⟩:=ho
  simp only [Ts.size] at hn
  have ht:=eI k (A.length+1+b.size+y.size)
  have hL:(pre ++ A.length :: k.bo (A.length+1+b.size+y.size)).length≤1000000:=by simp only [au,aA];omega
  have hi:(pre ++ A.length :: k.bo (A.length+1+b.size+y.size))[pre.length]?=aa A.length:=by simp
  have he:A ++ (Ts.arr A.length (.alt w b l y e' k) ++ B)=A ++ jV w (b.bo (A.length+1)) (y.bo (A.length+1+b.size)) :: (b.arr (A.length+1) ++ (y.arr (A.length+1+b.size) ++ (k.arr (A.length+1+b.size+y.size) ++ B))):=by simp [Ts.arr]
  have MZ:A ++ (cp A.length (.alt w b l y e' k) c ++ B)=A ++ jV w (b.bo (A.length+1)) (y.bo (A.length+1+b.size)) :: (cp (A.length+1) b c ++ (cp (A.length+1+b.size) y c ++ (cp (A.length+1+b.size+y.size) k ((dv b c).get c) ++ B))):=by simp [cp]
  show (∀ d:Ctx,_→LF mx (pre ++ A.length :: k.bo (A.length+1+b.size+y.size)) pre.length c _ top x 0=_∧_)∧(∀ a e,_→_∧∃ c' N',LF mx (pre ++ A.length :: k.bo (A.length+1+b.size+y.size)) pre.length c _ top x 0=_)
  rw [he,MZ]
  clear he MZ
  have C5:(jV w (b.bo (A.length+1)) (y.bo (A.length+1+b.size))).kind=2∨(jV w (b.bo (A.length+1)) (y.bo (A.length+1+b.size))).kind=3:=.inl (by show cI w.kind=2;rw [hk];rfl)
  have Ic:(jV w (b.bo (A.length+1)) (y.bo (A.length+1+b.size))).body.getD []=b.bo (A.length+1):=rfl
  have GN:(jV w (b.bo (A.length+1)) (y.bo (A.length+1+b.size))).els.getD []=y.bo (A.length+1+b.size):=rfl
  have J9:(jV w (b.bo (A.length+1)) (y.bo (A.length+1+b.size))).at'=w.at':=rfl
  generalize jV w (b.bo (A.length+1)) (y.bo (A.length+1+b.size))=nd at C5 Ic GN J9 ⊢
  have Bl:=zx b [] c (A ++ [nd]) (y.arr (A.length+1+b.size) ++ (k.arr (A.length+1+b.size+y.size) ++ B)) x top hb hc (fun z hz=>hw z (by simp [Ts.flat,hz])) (by simp only [List.length_nil];omega)
  simp only [au,aA,List.length_nil,Nat.zero_add,List.append_assoc,bu,List.nil_append] at Bl
  have Qv:=zx y [] c (A ++ nd :: cp (A.length+1) b c) (k.arr (A.length+1+b.size+y.size) ++ B) x top hy hc (fun z hz=>hw z (by simp [Ts.flat,hz])) (by simp only [List.length_nil];omega)
  simp only [au,aA,List.length_nil,dy,List.append_assoc,List.cons_append,List.nil_append] at Qv
  rw [show A.length+(b.size+1)=A.length+1+b.size by omega] at Qv
  have CC:=fun c1 hc1=>zx k (pre ++ [A.length]) c1 (A ++ nd :: (cp (A.length+1) b c ++ cp (A.length+1+b.size) y c)) B x top oY hc1 (fun z hz=>hw z (by simp [Ts.flat,hz])) (by simp only [au,aA,List.length_nil];omega)
  simp only [au,aA,List.length_nil,Nat.zero_add,dy,List.append_assoc,List.cons_append,List.nil_append] at CC
  rw [show A.length+(b.size+y.size+1)=A.length+1+b.size+y.size by omega] at CC
  have hgo:dv (.alt w b l y e' k) c=(dv b c).then' fun a=>(dv y c).then' fun z=>if a=z then dv k z else .bad (w.at':aB) 7:=rfl
  simp only [hgo]
  cases hl:dv b c with
  | bad a1 e1 =>
   refine ⟨fun d h=>(by cases h),fun a e h=>?_⟩
   cases h
   obtain ⟨i1,c',N',i2⟩:=Bl.2 _ _ hl
   have h1:=QM i2
   rw [← Ic] at h1
   exact ⟨i1,_,_,mE hi hL (II C5 h1 i1) (rI _ _ _ _ i1)⟩
  | ok a1 =>
   have h1:=QM (Bl.1 a1 hl).1
   rw [← Ic] at h1
   cases hr:dv y c with
   | bad a2 e2 =>
    refine ⟨fun d h=>(by cases h),fun a e h=>?_⟩
    cases h
    obtain ⟨j1,c',N',j2⟩:=Qv.2 _ _ hr
    have h2:=QM j2
    rw [← GN] at h2
    have g:=CT C5 h1 h2
    rw [aI (by simp [j1])] at g
    exact ⟨j1,_,_,mE hi hL g (rI _ _ _ _ j1)⟩
   | ok a2 =>
    obtain ⟨j1,j2⟩:=Qv.1 a2 hr
    have h2:=QM j1
    rw [← GN] at h2
    have g:=CT C5 h1 h2
    rw [J9] at g
    show (∀ d,(if a1=a2 then dv k a2 else _)=WR.ok d→_)∧(∀ a e,(if a1=a2 then dv k a2 else _)=WR.bad a e→_)
    by_cases hc1:a1=a2
    ·subst hc1
     simp only [aO]
     rw [aI (by simp)] at g
     refine ⟨fun d h=>?_,fun a e h=>?_⟩
     ·obtain ⟨i1,i2⟩:=(CC a1 j2).1 d h
      exact ⟨mE hi hL g i1,i2⟩
     ·obtain ⟨i1,c',N',i2⟩:=(CC a1 j2).2 a e h
      exact ⟨i1,c',N',mE hi hL g i2⟩
    ·simp only [aI hc1]
     rw [aJ (by simp [hc1])] at g
     refine ⟨fun d h=>(by cases h),fun a e h=>?_⟩
     cases h
     exact ⟨by decide,_,_,mE hi hL g (rI _ _ _ _ (by decide))⟩
end lp
namespace M3
open Go Go.Proofs Go.RowKit Go.Shelf Sx R3 lp
variable {mx:aB}
def pE (l:ai ae) (c:Ctx):AV :=
 if !form c || c.st == 20 then .tu [j8,(ea 0).bw,.int 0,.int 1]
 else match j6 l with
  | .bad a e=>.tu [j8,(ea 0).bw,.int (a:aB),.int (e:aB)]
  | .ok nodes top=>match jR (2 * nodes.length+1) top c ⟨nodes,0,0⟩ with
   | none=>.un
   | some (d,t)=>if t.e != 0 then .tu [j8,(ea 0).bw,.int t.at',.int t.e] else .tu [.ag [.ro 9 (t.nodes.map mh),.ro 1 (cj top)],d.bw,.int 0,.int 0]
theorem Nz {l:ai ae} {a e:ax} (h:j6 l=.bad a e):CJ l=.bad a e:=by
 unfold j6 at h
 unfold CJ
 split at h
 ·rename_i h1
  rw [aJ h1];cases h;rfl
 ·rename_i h1
  rw [aI h1]
  split at h
  ·rename_i h2
   rw [aJ h2];cases h;rfl
  ·rename_i h2
   rw [aI h2]
   exact JR h
theorem IJ {l:ai ae} {nodes:ai Nd} {top:ai ax} (h:j6 l=.ok nodes top):∃ ts:Ts,ts.ok∧nodes=ts.arr 0∧top=ts.bo 0∧CJ l=.ok (nodes.map Nd.mn) top∧(nodes.map Nd.mn).map Mn.av=nodes.map mh∧ts.size≤65536∧(∀ w ∈ ts.flat,w.at'≤65536∧w.text.length≤65536)∧∀ w ∈ ts.flat,kT w.names:=by
 unfold j6 at h
 unfold CJ
 split at h
 ·cases h
 ·rename_i h1
  rw [aI h1]
  split at h
  ·cases h
  ·rename_i h2
   rw [aI h2]
   obtain ⟨ts,t1,t2,t3,rfl,rfl⟩:=AB h
   have hw:=mQ (l.length+1) l 0 [] 65536 (by omega) (fun w hw=>by simp at hw)
   have hw:∀ w ∈ (eh l).1,w.at'≤65536∧w.text.length≤65536:=hw
   have hlen:=ma (l.length+1) l 0 []
   have hlen:(eh l).1.length≤l.length:=by simpa [eh] using hlen
   have hn:∀ w ∈ (eh l).1,kT w.names:=nG _ _ _ _ fun w hw=>by simp at hw
   rw [t3] at hw hlen hn
   have hs:=Ts.mr ts
   refine ⟨ts,t1,rfl,rfl,by rw [t3,M4 t1 t2,tB],?_,by omega,hw,hn⟩
   rw [List.map_map]
   exact List.map_congr_left fun x hx=>(Yy (tC ts 0 x hx).1).symm
theorem NA {w:az} {F:ax→Prop} (hG:cG (lp.C mx) w F) (s q:ByteArray) (c:Ctx) (hc:rK c) (hq:q.data.toList=c.nm) :
  CallsIn Fence.wide 12 Tryz.prog 11 #[.string s,j7 c q] w (fh w F (pE s.data.toList c)):=by
 unfold pE
 cases hf:form c with
 | false=>exact vw hG hc hq hf
 | true =>
  cases hst:c.st == 20 with
  | true=>exact vz hG hc hq hf hst
  | false =>
   simp only [df,Bool.or_self,Bool.false_eq_true,aH]
   cases hp:j6 s.data.toList with
   | bad a e=>exact th hG hc hq hf hst (tq hp) (Nz hp)
   | ok nodes top =>
    obtain ⟨ts,g0,rfl,rfl,g1,g2,g3,g4,-⟩:=IJ hp
    have hsz:=eI ts 0
    have Kr:(ts.arr 0).length=ts.size:=Ts.lq ts 0
    obtain ⟨k1,k2⟩:=mf ts c [] [] 0 (2 * (ts.arr 0).length+1) g0 (by rw [Kr];exact Nat.le_refl _)
    obtain ⟨r1,r2⟩:=zx (mx:=mx) ts [] c [] [] 0 (.ro 1 (cj (ts.bo 0))) g0 hc (fun w hw=>by have:=g4 w hw;omega) (by simp only [List.length_nil];omega)
    simp only [List.length_nil,List.nil_append,List.append_nil] at k1 k2 r1 r2
    have Yz:∀ {r:AV},aq (lp.C mx) Tryz.prog 22 [.un,.ro 1 (cj (ts.bo 0)),c.bw,stA (ts.arr 0) (.ro 1 (cj (ts.bo 0))) 0 0]=aa r→aq (lp.C mx) Tryz.prog 22 [.un,.ro 1 (cj (ts.bo 0)),c.bw,.ag [.ro 9 (((ts.arr 0).map Nd.mn).map Mn.av),.ro 1 (cj (ts.bo 0)),.int 0,.int 0]]=aa r:=fun h=>by rw [g2];exact h
    dsimp only
    cases hgo:dv ts c with
    | ok d =>
     rw [k1 d hgo]
     exact CA hG hc hq hf hst g1 (Yz (QM (r1 d hgo).1)) rfl
    | bad a e =>
     obtain ⟨h1,c',N',h2⟩:=k2 a e hgo
     obtain ⟨_,c2,N2,h3⟩:=r2 a e hgo
     rw [h2]
     simp only
     rw [aJ (by simpa using h1)]
     exact yP hG hc hq hf hst g1 (Yz (QM h3)) h1
def YA (args:ai AV):ak AV :=
 match args with
 | [.s l,a]=>match Ig a with
  | some c=>if c.nm.length < 9223372036854775808 then aa (pE l c) else ah
  | none=>ah
 | _=>ah
theorem QN {C':jT} {mx:aB} (LJ:C'.glob=(lp.C mx).glob) (ho:(C'.own 11).all Option.isNone=aj) (args:ai AV) (r:AV) (h:YA args=aa r) (w:az) (F:ax→Prop) (vs:Array aC) (hG:cG C' w F) (hl:vs.size=args.length)
  (hv:∀ (j:ax) (a:AV) (v:aC),args[j]?=aa a→vs[j]?=aa v→Rel w F a v):kZ Tryz.prog 11 vs w (np C' 11 w F r):=by
 have hG':cG (lp.C mx) w F:=fun g k e hg=>hG g k e (by rw [LJ];exact hg)
 unfold YA at h
 split at h
 ·rename_i l a
  split at h
  ·rename_i c hc
   split at h
   ·rename_i hn
    cases h
    obtain rfl:=Ek hc
    match vs,hl,hv with
    | ⟨[x,y]⟩,_,hv =>
     have hx:=hv 0 _ x rfl rfl
     have hy:=hv 1 _ y rfl rfl
     cases hx with
     | s p =>
      obtain ⟨q,hq,rfl⟩:=xB hy
      refine .inl ⟨Tryz.f11,(Tryz.f11.body).getD .skip,Tryz.func11,by kernel_rfl,by kernel_rfl,Calls.mono (callsIn_wide.1 (NA (mx:=mx) hG' p q c hn hq)) fun e w' he=>?_⟩
      obtain ⟨hx,v,rfl,hr⟩:=he
      refine ⟨_,rfl,hx,?_⟩
      unfold mG
      rw [aJ ho]
      exact hr
   ·cases h
  ·cases h
 ·cases h
end M3
namespace wL
open Go Sx
def qx:ai (ax×Ty):=[
 (3,{ size:=1,bytes:=8,kd:=.int .i64,elem:=0,zero:=[.int 0],fields:=[],eqk:=ah }),
 (4,{ size:=1,bytes:=1,kd:=.bool,elem:=0,zero:=[.b af],fields:=[],eqk:=ah }),
 (5,{ size:=1,bytes:=1,kd:=.int .u8,elem:=0,zero:=[.u8 0],fields:=[],eqk:=ah }),
 (9,{ size:=1,bytes:=16,kd:=.str,elem:=0,zero:=[.s []],fields:=[],eqk:=ah }),
 (23,{ size:=1,bytes:=24,kd:=.slice,elem:=58,zero:=[.cd],fields:=[],eqk:=ah }),
 (24,{ size:=1,bytes:=24,kd:=.slice,elem:=3,zero:=[.cd],fields:=[],eqk:=ah }),
 (26,{ size:=2,bytes:=48,kd:=.struct,elem:=0,zero:=[.cd,.cd],fields:=[(0,23),(1,24)],eqk:=ah }),
 (27,{ size:=1,bytes:=8,kd:=.int .i64,elem:=0,zero:=[.int 0],fields:=[],eqk:=ah }),
 (34,{ size:=1,bytes:=1,kd:=.int .u8,elem:=0,zero:=[.u8 0],fields:=[],eqk:=ah }),
 (35,{ size:=1,bytes:=1,kd:=.int .u8,elem:=0,zero:=[.u8 0],fields:=[],eqk:=ah }),
 (36,{ size:=1,bytes:=1,kd:=.int .u8,elem:=0,zero:=[.u8 0],fields:=[],eqk:=ah }),
 (37,{ size:=1,bytes:=1,kd:=.int .u8,elem:=0,zero:=[.u8 0],fields:=[],eqk:=ah }),
 (38,{ size:=1,bytes:=1,kd:=.int .u8,elem:=0,zero:=[.u8 0],fields:=[],eqk:=ah }),
 (40,{ size:=10,bytes:=32,kd:=.struct,elem:=0,zero:=[.u8 0,.u8 0,.b af,.u8 0,.u8 0,.u8 0,.u8 0,.b af,.u8 0,.s []],fields:=[(0,34),(1,35),(2,4),(3,36),(4,5),(5,37),(6,38),(7,4),(8,5),(9,9)],eqk:=aa [.i,.i,.b,.i,.i,.i,.i,.b,.i,.s] }),
 (46,{ size:=1,bytes:=24,kd:=.slice,elem:=69,zero:=[.cd],fields:=[],eqk:=ah }),
 (52,{ size:=1,bytes:=1,kd:=.int .u8,elem:=0,zero:=[.u8 0],fields:=[],eqk:=ah }),
 (53,{ size:=1,bytes:=24,kd:=.slice,elem:=9,zero:=[.cd],fields:=[],eqk:=ah }),
 (55,{ size:=2,bytes:=32,kd:=.struct,elem:=0,zero:=[.b af,.cd],fields:=[(0,4),(1,53)],eqk:=ah }),
 (56,{ size:=1,bytes:=1,kd:=.int .u8,elem:=0,zero:=[.u8 0],fields:=[],eqk:=ah }),
 (58,{ size:=9,bytes:=120,kd:=.struct,elem:=0,zero:=[.u8 0,.int 0,.s [],.b af,.cd,.cd,.cd,.b af,.u8 0],fields:=[(0,52),(1,3),(2,9),(3,55),(5,24),(6,24),(7,4),(8,56)],eqk:=ah }),
 (67,{ size:=1,bytes:=1,kd:=.int .u8,elem:=0,zero:=[.u8 0],fields:=[],eqk:=ah }),
 (69,{ size:=6,bytes:=72,kd:=.struct,elem:=0,zero:=[.u8 0,.s [],.b af,.cd,.u8 0,.int 0],fields:=[(0,67),(1,9),(2,55),(4,56),(5,3)],eqk:=ah }),
 (72,{ size:=3,bytes:=72,kd:=.struct,elem:=0,zero:=[.cd,.cd,.cd],fields:=[(0,26),(2,46)],eqk:=ah })
]
def uj:ai ((ax×ax)×(pO×ai ax)):=[((15,6),(.seq [(0,aj),(1,aj),(2,aj),(3,aj),(4,aj),(5,aj),(6,aj),(7,aj),(8,aj),(9,aj),(10,aj),(11,aj),(12,aj),(13,aj),(14,aj),(15,aj),(16,aj),(17,aj),(18,aj),(19,aj),(20,aj),(21,aj),(22,aj),(23,aj),(24,aj),(25,aj),(26,aj),(27,aj),(28,aj),(29,aj),(30,aj),(31,aj),(32,aj),(33,aj),(34,aj),(35,aj),(36,aj),(37,aj),(38,aj),(39,aj),(40,aj),(41,aj),(42,aj),(43,aj),(44,aj),(45,aj),(46,aj),(47,aj),(48,aj),(49,aj),(50,aj),(51,aj),(52,aj),(53,aj),(54,aj),(55,aj),(56,aj),(57,aj),(58,aj),(59,aj),(60,aj),(61,af),(62,aj),(63,aj)] .done,[])),
 ((23,4),(.seq [(0,aj),(1,aj),(2,aj),(3,aj),(4,aj),(5,aj)] (.fork 6 (.seq [(7,aj),(8,af),(9,af)] .done) 8 (.seq [(6,af),(7,aj),(9,af)] .done)),[1000009])),
 ((23,17),(.seq [(0,aj),(1,aj),(2,aj),(3,aj),(4,aj),(5,aj),(6,aj),(7,aj),(8,aj),(9,aj),(10,aj),(11,aj),(12,af)] .done,[1000012])),
 ((23,20),(.seq [(0,aj),(1,aj),(2,aj),(3,aj),(4,aj),(5,aj),(6,aj),(7,aj),(8,aj),(9,aj),(10,aj),(11,aj),(12,af)] .done,[1000012])),
 ((23,25),(.seq [(0,aj),(1,aj),(2,aj),(3,aj),(4,aj),(5,aj),(6,aj),(7,aj),(8,aj),(9,aj),(10,aj),(11,aj),(12,af)] .done,[1000012])),
 ((24,1),(.seq [(0,aj),(1,aj),(2,aj),(3,aj),(4,aj),(5,aj),(6,af),(7,af),(8,aj),(9,aj),(10,af)] .done,[1000010])),
 ((25,5),(.seq [(0,aj),(1,aj),(2,aj),(3,aj),(4,aj),(5,aj),(6,aj),(7,aj),(8,af),(9,af)] .done,[1000009])),
 ((26,6),(.seq [(0,aj),(1,aj),(2,aj),(3,aj),(4,aj),(5,aj),(6,aj),(7,aj),(8,aj),(9,aj),(10,aj)] .done,[])),
 ((40,5),(.seq [(0,aj),(1,aj),(2,aj),(3,aj),(4,aj),(5,aj),(6,aj),(7,aj),(8,af),(9,af)] .done,[1000009])),
 ((40,9),(.seq [(0,aj),(1,aj),(2,aj),(3,aj),(6,aj),(7,aj),(8,aj),(4,af),(5,aj),(9,af),(10,aj),(11,aj),(12,aj)] .done,[]))]
def uk:ai (ax×ai (ax×ai (ax×ak (ax×ax))×ai (ax×ai (ax×ax×ax)))):=[(15,[(4,[(0,ah),(1,ah),(5,ah)],[])]),
 (23,[(1,[(0,ah),(11,ah),(12,ah),(13,ah)],[(127,[(2,69,6)])]),(20,[(0,ah),(8,ah),(11,ah),(12,ah),(13,ah)],[(127,[(2,69,6)])]),(26,[(0,ah),(11,ah),(12,ah),(13,ah)],[(127,[(2,69,6)])])]),
 (25,[(3,[(1,ah),(2,ah),(3,ah),(7,aa (69,6)),(8,ah)],[(3,[])]),(4,[(1,ah),(2,ah),(3,ah),(7,aa (69,6)),(8,ah)],[(3,[])]),(19,[(1,ah),(2,ah),(3,ah),(7,aa (69,6)),(8,ah),(9,ah),(10,ah),(12,ah),(13,ah)],[(3,[]),(9,[])])]),
 (26,[(4,[(2,ah),(3,ah),(5,ah)],[(2,[]),(3,[])])]),
 (40,[(3,[(1,ah),(2,ah),(5,ah),(6,ah)],[(2,[])]),(4,[(1,ah),(2,ah),(5,ah),(6,ah)],[(2,[])])])]
def yt:ai (ax×ai (ak (ax×ax))):=[(25,[aa (69,6)])]
def yu:ai (ax×A4):=[(23,{ ps:=[.obj 0,.v],objs:=[((.arg 0),[.v,.v,.own 69 6])],outs:=[((.arg 0),[.v,.v,.own 69 6])] }),
 (24,{ ps:=[.obj 0,.v],objs:=[((.arg 0),[.v,.v,.own 69 6])],outs:=[((.arg 0),[.v,.v,.own 69 6])] })]
def qy:ai (ax×ai ax):=[]
noncomputable def C (mx:aB):jT:=KX qx uj uk yt qy (fun g=>bif Nat.beq g 0 then aa (10,.ag [.u8 20,.u8 0,.b af,.u8 0,.u8 0,.u8 0,.u8 0,.b af,.u8 0,.s []]) else bif Nat.beq g 1 then aa (1,.int mx) else ah) yu (fun g=>bif Nat.beq g 10 then aa lp.Yl else bif Nat.beq g 11 then aa M3.YA else ah)
end wL
open Go Go.Proofs Sx
namespace wL
theorem WQ:qx.all (fun p=>S0 Tryz.prog p.1 p.2)=aj:=by kernel_rfl
theorem fns (mx:aB):E2 (C mx) 0 Tryz.prog.funcs.toList=aj:=by kernel_rfl
theorem gvs (mx:aB):∀ (g:ax) (G:ai AV→ak AV),(C mx).gv g=aa G→((C mx).own g).all Option.isNone=aj→∀ (args:ai AV) (r:AV),G args=aa r→∀ (w:az) (F:ax→Prop) (vs:Array aC),cG (C mx) w F→vs.size=args.length →
   (∀ (j:ax) (a:AV) (v:aC),args[j]?=aa a→vs[j]?=aa v→Rel w F a v)→kZ Tryz.prog g vs w (np (C mx) g w F r):=by
 intro g G h ho args r hr w F vs hG hl hv
 have h:(bif Nat.beq g 10 then aa lp.Yl else bif Nat.beq g 11 then aa M3.YA else ah)=aa G:=h
 cases h1:Nat.beq g 10 with
 | true =>
  rw [h1] at h;cases h
  obtain rfl:=aF h1
  exact lp.Qx (mx:=mx) rfl ho args r hr w F vs hG hl hv
 | false =>
  rw [h1] at h
  cases h2:Nat.beq g 11 with
  | true =>
   rw [h2] at h;cases h
   obtain rfl:=aF h2
   exact M3.QN (mx:=mx) rfl ho args r hr w F vs hG hl hv
  | false =>
   rw [h2] at h;cases h
theorem fit (mx:aB):Fit (C mx) Tryz.prog:=Fit.of (tab:=qx) rfl WQ (fns mx) R3.mixed (E3 R3.idxs R3.BO) (gvs mx)
theorem maxLen {W:az} (h:W.ShapedOpen Tryz.prog):∃ m,W.cell? ⟨1,0,ah⟩=aa (.int .i64 m):=R3.maxLen h
end wL
open Go Go.Proofs Sx
namespace wL
theorem Et {P:Program} {w:az} {a b c:String×DataW Unit} {ps:ai MemPlace} (h:gZ P w [a,b,c] ps):∃ qs,gZ P w [b] qs:=by
 obtain ⟨g,t,cs,fuel,p,q,h1,h2,h3,h4,h5,h6⟩:=h
 obtain ⟨g',t',cs',YB,p',q',k1,k2,k3,k4,k5,k6⟩:=h5
 exact ⟨_,g',t',cs',YB,p',[],k1,k2,k3,k4,rfl,rfl⟩
def AU:AV:=.ag [.u8 20,.u8 0,.b af,.u8 0,.u8 0,.u8 0,.u8 0,.b af,.u8 0,.s []]
noncomputable def C0 (mx:aB):jT:={ C mx with glob:=fun g=>bif Nat.beq g 0 then aa (10,AU) else ah }
theorem YC (mx:aB):∀ g' k' e',(C0 mx).glob g'=aa (k',e')→g'=0∧k'=10∧e'=AU:=by
 intro g k e h
 have h:(bif Nat.beq g 0 then aa (10,AU) else ah)=aa (k,e):=h
 cases hg:Nat.beq g 0 with
 | false=>rw [hg] at h;cases h
 | true=>rw [hg] at h;cases h;exact ⟨aF hg,rfl,rfl⟩
theorem YD:∀ j,j < 10→AU.cell j=Y5 (([.lit (.int .u8 20),.lit (.int .u8 0),.lit (.bool af),.lit (.int .u8 0),.lit (.int .u8 0),.lit (.int .u8 0),.lit (.int .u8 0),.lit (.bool af),.lit (.int .u8 0),.lit (.string [])]:ai (DataW Unit)).getD j .nil):=by
 intro j hj
 match j,hj with
 | 0,_ | 1,_ | 2,_ | 3,_ | 4,_ | 5,_ | 6,_ | 7,_ | 8,_ | 9,_=>rfl
theorem LK {W:az} {m:aB} (h:W.cell? ⟨1,0,ah⟩=aa (.int .i64 m)) {a c:String×DataW Unit} {ps:ai MemPlace}
  (hl:gZ Tryz.prog W [a, ("bobbin/step.bad", .agg [.lit (.int .u8 20),.lit (.int .u8 0),.lit (.bool af),.lit (.int .u8 0),.lit (.int .u8 0),.lit (.int .u8 0),.lit (.int .u8 0),.lit (.bool af),.lit (.int .u8 0),.lit (.string [])]),c] ps):cG (C m) W (fun _=>True):=by
 obtain ⟨qs,hl⟩:=Et hl
 have h0:cG (C0 m) W (fun _=>True):=E8 (k:=10) (YC m) (by kernel_rfl) (t:=40) (by kernel_rfl) Tryz.underlying40 (by kernel_rfl) rfl (by decide) YD hl
 intro g k e hg
 have hg:(bif Nat.beq g 0 then aa (10,AU) else bif Nat.beq g 1 then aa (1,AV.int m) else ah)=aa (k,e):=hg
 cases h1:Nat.beq g 0 with
 | true =>
  rw [h1] at hg
  refine h0 g k e ?_
  show (bif Nat.beq g 0 then aa (10,AU) else ah)=aa (k,e)
  rw [h1];exact hg
 | false =>
  rw [h1] at hg
  cases h2:Nat.beq g 1 with
  | false=>rw [h2] at hg;cases hg
  | true =>
   rw [h2] at hg;cases hg
   obtain rfl:=aF h2
   refine ⟨1,0,rfl,trivial,cM h,fun j hj=>?_⟩
   obtain rfl:j=0:=by omega
   exact ⟨.int .i64 m,h,rfl,Rel.int m⟩
mutual
def Au:DataW Unit→ai aC
 | .lit (.int k n)=>[.int k n]
 | .lit (.bool b)=>[.bool b]
 | .lit (.string l)=>[.string ⟨l.toArray⟩]
 | .agg ps=>yx ps
 | _=>[]
def yx:ai (DataW Unit)→ai aC
 | []=>[]
 | d :: r=>Au d ++ yx r
end
end wL
namespace wL
open Go Go.Proofs Sx
variable {mx:aB}
noncomputable def Gv:Code:=(dS.body).getD .skip
noncomputable def Eu (run:RunT) (a b:AV) (d:aB) (e f:AV) (g:ai AV):ak AV :=
 run ((eV 1 Gv []).getD []) (St.fj [(0,.cell (.ptr 127 0)),(11,.cell (.val a)),(12,.cell (.val b)),(13,.cell (.val (.int d)))] [(127,aa [.val e,.val f,.own 727002 69 6 g])])
noncomputable def pF (run:RunT) (a b:AV) (d:aB) (e f:AV) (g:ai AV):ak AV :=
 run ((eV 26 Gv []).getD []) (St.fj [(0,.cell (.ptr 127 0)),(11,.cell (.val a)),(12,.cell (.val b)),(13,.cell (.val (.int d)))] [(127,aa [.val e,.val f,.own 727002 69 6 g])])
noncomputable def Gw (run:RunT) (a b d:AV) (e:aB) (f g:AV) (i:ai AV):ak AV :=
 run ((eV 20 Gv []).getD []) (St.fj [(0,.cell (.ptr 127 0)),(8,.cell (.val a)),(11,.cell (.val b)),(12,.cell (.val d)),(13,.cell (.val (.int e)))] [(127,aa [.val f,.val g,.own 727002 69 6 i])])
noncomputable def X23 (a b d:AV) (e:ai AV) (c:bj) (r:RunT):ak AV :=
 (kH a).bind fun f=>Eu r a f 0 b d e
theorem c23 (a b d e) {r:AV} (h:X23 a b d e (aq (C mx) Tryz.prog) (a7 (C mx) Tryz.prog 23 dS)=aa r):aq (C mx) Tryz.prog 23 [.un,a,.ag [b,d,.ro 6 e]]=aa r :=
 bc (fun _ _=>by kernel_rfl) h
noncomputable def Ew (a b:AV) (d:aB) (e f:AV) (g:ai AV) (c:bj) (r:RunT):ak AV :=
 (cf .lss (.int d) b).bind fun i=>a8 i
 ((idx 1 a (.int d)).bind fun j=>(idx 9 e (AV.cell j 0)).bind fun k=>same ((app 16 1 [] (AV.cell k 4)).bind fun l=>(AV.one (AV.cell k 3)).bind fun m=>(cf .eql (AV.cell k 0) (.u8 0)).bind fun n=>a8 n
 ((AV.one (AV.cell k 2)).bind fun o=>(c 24 [.un,.ag [.u8 0,o,.b af,.cd,.u8 0,.int 0],.ag [e,f,.ro 6 g]]).bind fun p=>(cA p 0).bind fun q=>(cA p 1).bind fun s=>(AV.cm 3 s).bind fun t=>pF r a b d (gt t 0) (gt t 1) (AV.elems (gt t 2)))
 ((cf .eql (AV.cell k 0) (.u8 1)).bind fun u=>a8 u
 ((AV.one (AV.cell k 8)).bind fun w=>(c 24 [.un,.ag [.u8 1,.s [],m,.ro 1 l,w,.int 0],.ag [e,f,.ro 6 g]]).bind fun x=>(cA x 0).bind fun y=>(cA x 1).bind fun z=>(AV.cm 3 z).bind fun A=>pF r a b d (gt A 0) (gt A 1) (AV.elems (gt A 2)))
 ((cf .eql (AV.cell k 0) (.u8 4)).bind fun B=>a8 B
 ((c 24 [.un,.ag [.u8 6,.s [],.b af,.cd,.u8 0,.int 0],.ag [e,f,.ro 6 g]]).bind fun D=>(cA D 0).bind fun E=>(cA D 1).bind fun G=>(AV.cm 3 G).bind fun H=>pF r a b d (gt H 0) (gt H 1) (AV.elems (gt H 2)))
 ((cf .eql (AV.cell k 0) (.u8 2)).bind fun I=>a8 I
 ((c 24 [.un,.ag [.u8 2,.s [],m,.ro 1 l,.u8 0,.int 0],.ag [e,f,.ro 6 g]]).bind fun J=>(cA J 0).bind fun L=>(cA J 1).bind fun M=>(AV.cm 3 M).bind fun N=>(c 23 [.un,AV.cell k 5,.ag [gt N 0,gt N 1,.ro 6 (AV.elems (gt N 2))]]).bind fun O=>(cA O 0).bind fun P=>(cA O 1).bind fun Q=>(AV.cm 3 Q).bind fun R=>a8 (AV.cell k 7)
 ((c 24 [.un,.ag [.u8 3,.s [],.b af,.cd,.u8 0,.int 0],.ag [gt R 0,gt R 1,.ro 6 (AV.elems (gt R 2))]]).bind fun T=>(cA T 0).bind fun U=>(cA T 1).bind fun V=>(AV.cm 3 V).bind fun W=>(pN (AV.elems (gt W 2)).length L).bind fun Y=>(c 23 [.un,AV.cell k 6,.ag [gt W 0,gt W 1,.ro 6 ((AV.elems (gt W 2)).set Y (.ag [AV.cell ((AV.elems (gt W 2)).getD Y .un) 0,AV.cell ((AV.elems (gt W 2)).getD Y .un) 1,AV.cell ((AV.elems (gt W 2)).getD Y .un) 2,AV.cell ((AV.elems (gt W 2)).getD Y .un) 3,AV.cell ((AV.elems (gt W 2)).getD Y .un) 4,.int (((AV.elems (gt W 2)).length:aB))]))]]).bind fun Z=>(cA Z 0).bind fun v0=>(cA Z 1).bind fun v1=>(AV.cm 3 v1).bind fun v2=>Gw r U a b d (gt v2 0) (gt v2 1) (AV.elems (gt v2 2)))
 (Gw r L a b d (gt R 0) (gt R 1) (AV.elems (gt R 2))))
 ((cf .eql (AV.cell k 0) (.u8 3)).bind fun v3=>a8 v3
 ((c 24 [.un,.ag [.u8 4,.s [],m,.ro 1 l,.u8 0,.int 0],.ag [e,f,.ro 6 g]]).bind fun v4=>(cA v4 0).bind fun v5=>(cA v4 1).bind fun v6=>(AV.cm 3 v6).bind fun v7=>(c 23 [.un,AV.cell k 5,.ag [gt v7 0,gt v7 1,.ro 6 (AV.elems (gt v7 2))]]).bind fun v8=>(cA v8 0).bind fun v9=>(cA v8 1).bind fun w0=>(AV.cm 3 w0).bind fun w1=>(cf .add v5 (.int 1)).bind fun w2=>(AV.one (w2)).bind fun w3=>(c 24 [.un,.ag [.u8 5,.s [],.b af,.cd,.u8 0,w3],.ag [gt w1 0,gt w1 1,.ro 6 (AV.elems (gt w1 2))]]).bind fun w4=>(cA w4 0).bind fun w5=>(cA w4 1).bind fun w6=>(AV.cm 3 w6).bind fun w7=>(pN (AV.elems (gt w7 2)).length v5).bind fun w8=>pF r a b d (gt w7 0) (gt w7 1) ((AV.elems (gt w7 2)).set w8 (.ag [AV.cell ((AV.elems (gt w7 2)).getD w8 .un) 0,AV.cell ((AV.elems (gt w7 2)).getD w8 .un) 1,AV.cell ((AV.elems (gt w7 2)).getD w8 .un) 2,AV.cell ((AV.elems (gt w7 2)).getD w8 .un) 3,AV.cell ((AV.elems (gt w7 2)).getD w8 .un) 4,.int (((AV.elems (gt w7 2)).length:aB))])))
 (pF r a b d e f g)))))))
 (aa (.tu [.tu [],.ag [e,f,.ro 6 g]]))
noncomputable def NB (a b:AV) (d:aB) (e f:AV) (g:ai AV) (c:bj) (r:RunT):ak AV :=
 Eu r a b (eE (d+1)) e f g
noncomputable def Gx (a b d:AV) (e:aB) (f g:AV) (i:ai AV) (c:bj) (r:RunT):ak AV :=
 (pN i.length a).bind fun j=>pF r b d e f g (i.set j (.ag [AV.cell (i.getD j .un) 0,AV.cell (i.getD j .un) 1,AV.cell (i.getD j .un) 2,AV.cell (i.getD j .un) 3,AV.cell (i.getD j .un) 4,.int ((i.length:aB))]))
theorem IK (a b d e f g) {r:AV} (h:Ew a b d e f g (aq (C mx) Tryz.prog) (a7 (C mx) Tryz.prog 23 dS)=aa r):Eu (a7 (C mx) Tryz.prog 23 dS) a b d e f g=aa r :=
 bh (fun _ _=>by kernel_rfl) h
theorem U6 (a b d e f g) {r:AV} (h:NB a b d e f g (aq (C mx) Tryz.prog) (a7 (C mx) Tryz.prog 23 dS)=aa r):pF (a7 (C mx) Tryz.prog 23 dS) a b d e f g=aa r :=
 bh (fun _ _=>by kernel_rfl) h
theorem NC (a b d e f g i) {r:AV} (h:Gx a b d e f g i (aq (C mx) Tryz.prog) (a7 (C mx) Tryz.prog 23 dS)=aa r):Gw (a7 (C mx) Tryz.prog 23 dS) a b d e f g i=aa r :=
 bh (fun _ _=>by kernel_rfl) h
noncomputable def X24 (a:ae) (b:ai ae) (d:ay) (e:AV) (f:ae) (g:aB) (i j:AV) (k:ai AV) (c:bj) (r:RunT):ak AV :=
 (app 72 6 k (.ro 6 (([.ag [.u8 a,.s b,.b d,e,.u8 f,.int g]]:ai AV)))).bind fun l=>aa (.tu [.int (eE (((l.length:aB)) - 1)),.ag [i,j,.ro 6 l]])
theorem c24 (a b d e f g i j k) {r:AV} (h:X24 a b d e f g i j k (aq (C mx) Tryz.prog) (a7 (C mx) Tryz.prog 24 Tryz.f24)=aa r):aq (C mx) Tryz.prog 24 [.un,.ag [.u8 a,.s b,.b d,e,.u8 f,.int g],.ag [i,j,.ro 6 k]]=aa r :=
 bc (fun _ _=>by kernel_rfl) h
end wL
namespace wL
open Go Go.Proofs Sx R3 lp M3
variable {mx:aB}
structure In where
 op:ae
 text:ai ae
 root:ay
 names:AV
 hole:ae
 to':ax
def In.av (i:In):AV:=.ag [.u8 i.op,.s i.text,.b i.root,i.names,.u8 i.hole,.int (i.to':aB)]
def uG:AV→AV
 | .ro 1 l=>.ro 1 l
 | _=>.ro 1 []
def dc:Ts→ax
 | .nil=>0
 | .leaf _ k=>1+dc k
 | .blk w b _ k=>(if cI w.kind == 2 then 1 else 2)+dc b+dc k
 | .alt _ b _ c _ k=>2+dc b+dc c+dc k
def mF (f:AV→AV) (w:Wd) (c:Ctx):In :=
 if cI w.kind == 0 then ⟨0,w.text,af,.cd,0,0⟩ else if cI w.kind == 1 then ⟨1,[],w.root,f w.names,lT w c,0⟩ else ⟨6,[],af,.cd,0,0⟩
def comp (f:AV→AV):ax→Ts→Ctx→ai In
 | _,.nil,_=>[]
 | n,.leaf w k,c=>mF f w c :: comp f (n+1) k ((ia w c).get c)
 | n,.blk w b _ k,c =>
  if cI w.kind == 2 then ⟨2,[],w.root,f w.names,0,n+1+dc b⟩ :: (comp f (n+1) b c ++ comp f (n+1+dc b) k c)
  else ⟨4,[],w.root,f w.names,0,n+2+dc b⟩ :: (comp f (n+1) b c ++ ⟨5,[],af,.cd,0,n+1⟩ :: comp f (n+2+dc b) k c)
 | n,.alt w b _ x _ k,c =>
  ⟨2,[],w.root,f w.names,0,n+2+dc b⟩ :: (comp f (n+1) b c ++ ⟨3,[],af,.cd,0,n+2+dc b+dc x⟩ :: (comp f (n+2+dc b) x c ++ comp f (n+2+dc b+dc x) k ((dv b c).get c)))
theorem cU:∀ (f:AV→AV) (s:Ts) (n:ax) (c:Ctx),(comp f n s c).length=dc s
 | f,.nil,n,c=>rfl
 | f,.leaf w k,n,c=>by simp [comp,dc,cU f k];omega
 | f,.blk w b e k,n,c=>by
  simp only [comp,dc]
  split
  ·simp [cU f k,cU f b];omega
  ·simp [cU f k,cU f b];omega
 | f,.alt w b l x e k,n,c=>by simp [comp,dc,cU f k,cU f b,cU f x];omega
theorem lX:∀ (s:Ts),dc s≤2 * s.size
 | .nil=>Nat.zero_le _
 | .leaf w k=>by simp only [dc,Ts.size];have:=lX k;omega
 | .blk w b e k=>by simp only [dc,Ts.size];have:=lX k;have:=lX b;split <;> omega
 | .alt w b l x e k=>by simp only [dc,Ts.size];have:=lX k;have:=lX b;have:=lX x;omega
theorem wM (a b c:AV):AV.cm 3 (.ag [a,b,c])=aa [a,b,c]:=rfl
theorem abv {l:ai AV} {x:AV} (h:l.length≤1000000):app 72 6 l (.ro 6 [x])=aa (l ++ [x]):=by
 show ((if 6=6 then aa [x] else ah).bind fun q=>if (l.length+q.length) * 72≤big then aa (l ++ q) else ah)=_
 rw [aJ rfl]
 simp only [Option.bind_some,aA,List.length_nil,Nat.zero_add]
 rw [aJ (Nat.le_trans (m:=144000000) (by omega) (by decide))]
theorem Zr (i:In) (N T:AV) (out:ai In) (h:out.length≤1000000):aq (C mx) Tryz.prog 24 [.un,i.av,.ag [N,T,.ro 6 (out.map In.av)]]=aa (.tu [.int (out.length:aB),.ag [N,T,.ro 6 ((out ++ [i]).map In.av)]]):=by
 obtain ⟨o,t,r,n,hl,to⟩:=i
 apply c24
 have:=abv (l:=out.map In.av) (x:=In.av ⟨o,t,r,n,hl,to⟩) (by rw [aP];exact h)
 have e:eE (((out.map In.av ++ [In.av ⟨o,t,r,n,hl,to⟩]).length:aB) - 1)=(out.length:aB):=by
  rw [au,aP]
  simp only [aA,List.length_nil]
  rw [gh (by omega) (by omega)];omega
 show (app 72 6 (out.map In.av) (.ro 6 [In.av ⟨o,t,r,n,hl,to⟩])).bind _=_
 rw [this,dM]
 show aa (AV.tu [.int (eE (((out.map In.av ++ [In.av ⟨o,t,r,n,hl,to⟩]).length:aB) - 1)),_])=_
 rw [e];rfl
theorem zy {v:AV} (h:kT v):∃ l,app 16 1 [] v=aa l∧uG v=.ro 1 l:=by
 rcases h with rfl | ⟨x,l,rfl,hl⟩
 ·exact ⟨[],rfl,rfl⟩
 ·refine ⟨(x :: l).map .s,?_,rfl⟩
  show ((if 1=1 then aa ((x :: l).map AV.s) else ah).bind fun q=>if (([]:ai AV).length+q.length) * 16≤big then aa ([] ++ q) else ah)=_
  rw [aJ rfl]
  simp only [Option.bind_some,List.length_nil,Nat.zero_add,aP,aA,List.nil_append]
  rw [aJ (Nat.le_trans (m:=2000000) (by omega) (by decide))]
theorem nAV (N:ai Nd) {i:ax} (h:i < N.length):idx 9 (.ro 9 (N.map Nd.av)) (.int (i:aB))=aa N[i].av:=by
 rw [oc 9 (by rw [aP];exact h)]
 simp
theorem ND {A R:ai Nd} {x:Nd}:idx 9 (.ro 9 ((A ++ x :: R).map Nd.av)) (.int (A.length:aB))=aa x.av:=by
 rw [nAV _ (by rw [au,aA];omega)]
 simp
theorem k0 (n:Nd):n.av.cell 0=.u8 n.kind:=rfl
theorem k2 (n:Nd):n.av.cell 2=.s n.text:=rfl
theorem k3 (n:Nd):n.av.cell 3=.b n.root:=rfl
theorem k4 (n:Nd):n.av.cell 4=n.names:=rfl
theorem k5 (n:Nd):n.av.cell 5=ki n.body:=rfl
theorem k6 (n:Nd):n.av.cell 6=ki n.els:=rfl
theorem k7 (n:Nd):n.av.cell 7=.b n.has:=rfl
theorem k8 (n:Nd):n.av.cell 8=.u8 n.hole:=rfl
theorem RY (a b:AV):cA (.tu [a,b]) 0=aa a:=rfl
theorem RZ (a b:AV):cA (.tu [a,b]) 1=aa b:=rfl
theorem R1 (a b c:AV):[a,b,c].getD 0 .un=a:=rfl
theorem R2 (a b c:AV):[a,b,c].getD 1 .un=b:=rfl
theorem R4 (a b c:AV):[a,b,c].getD 2 .un=c:=rfl
theorem CU {X R:ai In} {i:In} (n:ax) (hn:n=X.length) (t:aB) (t':ax) (ht:t=t'):((X ++ i :: R).map In.av).set n (.ag [AV.cell (((X ++ i :: R).map In.av).getD n .un) 0,AV.cell (((X ++ i :: R).map In.av).getD n .un) 1,AV.cell (((X ++ i :: R).map In.av).getD n .un) 2,AV.cell (((X ++ i :: R).map In.av).getD n .un) 3,AV.cell (((X ++ i :: R).map In.av).getD n .un) 4,.int t])=(X ++ { i with to':=t' } :: R).map In.av:=by
 subst hn ht
 have e:((X ++ i :: R).map In.av).getD X.length .un=i.av:=by simp [List.getD]
 rw [e]
 have:(AV.ag [i.av.cell 0,i.av.cell 1,i.av.cell 2,i.av.cell 3,i.av.cell 4,.int (t':aB)])=In.av { i with to':=t' }:=rfl
 rw [this]
 simp
theorem IL {X R:ai In} {i:In}:pN ((X ++ i :: R).map In.av).length (.int (X.length:aB))=aa X.length:=by
 rw [aP]
 exact ln (by rw [au,aA];omega)
def NF (ts:Ts):Prop:=∀ w ∈ ts.flat,kT w.names
theorem NG {w:Wd} (h:w.kind≠2∧w.kind≠3∧w.kind≠4∧w.kind≠5):cI w.kind=0∨cI w.kind=1∨cI w.kind=4:=by
 unfold cI
 repeat' split
 all_goals first
  | exact .inl rfl
  | exact .inr (.inl rfl)
  | exact .inr (.inr rfl)
  | (rename_i e;exact absurd (by simpa using e) h.1)
  | (rename_i e;exact absurd (by simpa using e) h.2.2.1)
theorem QO {oa la N T:AV} {j:ax} {out:ai AV} {r:AV} (hj:j≤1000000) (h:Eu (a7 (C mx) Tryz.prog 23 dS) oa la ((j+1:ax):aB) N T out=aa r):pF (a7 (C mx) Tryz.prog 23 dS) oa la (j:aB) N T out=aa r:=by
 apply U6
 have e3:eE ((j:aB)+1)=((j+1:ax):aB):=by rw [gh (by omega) (by omega)];omega
 simp only [NB,e3]
 exact h
theorem qR (l:ai AV):AV.elems (.ro 6 l)=l:=rfl
theorem kR {L:ai ax} {j m:ax} {l:ai ax} (h:L.drop j=m :: l):L[j]?=aa m∧L.drop (j+1)=l∧j < L.length:=by
 have h1:=bA (fun l=>l[0]?) h
 simp at h1
 have h2:=bA (List.drop 1) h
 refine ⟨by simpa using h1,by simpa [List.drop_drop] using h2,?_⟩
 by_cases hh:j < L.length
 ·exact hh
 ·rw [List.drop_eq_nil_of_le (by omega)] at h;cases h
def WOk (mx:aB) (ts:Ts):Prop:=∀ (A B:ai Nd) (c:Ctx) (o:ak (ai ax)) (j:ax) (T:AV) (out:ai In),(o.getD []).drop j=ts.bo A.length→j≤(o.getD []).length→(o.getD []).length≤500000→out.length+dc ts≤500000→ts.ok→NF ts →
 Eu (a7 (C mx) Tryz.prog 23 dS) (ki o) (.int ((o.getD []).length:aB)) (j:aB) (.ro 9 ((A ++ (cp A.length ts c ++ B)).map Nd.av)) T (out.map In.av)=aa (.tu [.tu [],.ag [.ro 9 ((A ++ (cp A.length ts c ++ B)).map Nd.av),T,.ro 6 ((out ++ comp uG out.length ts c).map In.av)]])
theorem uH {ts:Ts} (h:WOk mx ts) {N A B:ai Nd} {c:Ctx} {l:ai ax} {T:AV} {out:ai In} (hN:N=A ++ (cp A.length ts c ++ B)) (hl:l=ts.bo A.length) (h1:l.length≤500000) (h2:out.length+dc ts≤500000) (h3:ts.ok) (h4:NF ts) :
  aq (C mx) Tryz.prog 23 [.un,ki (aa l),.ag [.ro 9 (N.map Nd.av),T,.ro 6 (out.map In.av)]]=aa (.tu [.tu [],.ag [.ro 9 (N.map Nd.av),T,.ro 6 ((out ++ comp uG out.length ts c).map In.av)]]):=by
 subst hN
 apply c23
 simp only [X23,Ib,Option.bind_some]
 exact h A B c (aa l) 0 T out (by simpa using hl) (Nat.zero_le _) h1 h2 h3 h4
theorem jx:∀ (t:Ts),t.size≤dc t
 | .nil=>Nat.le_refl _
 | .leaf w k=>by simp only [Ts.size,dc];have:=jx k;omega
 | .blk w b e k=>by simp only [Ts.size,dc];have:=jx k;have:=jx b;split <;> omega
 | .alt w b l x e k=>by simp only [Ts.size,dc];have:=jx k;have:=jx b;have:=jx x;omega
theorem U7:∀ (ts:Ts),WOk mx ts
 | .nil=>by
  intro A B c o j T out hd hj hlen hout kf hn
  apply IK
  have jz:(o.getD []).length≤j:=by
   have:=bA List.length hd
   simp [Ts.bo] at this
   omega
  have e1:decide ((j:aB) < ((o.getD []).length:aB))=af:=by rw [aQ];omega
  simp only [Ew,Sx.cR,e1,Option.bind_some,ba,Bool.false_eq_true,aH,comp,List.append_nil]
 | .leaf w k=>by
  intro A B c o j T out hd hj hlen hout kf hn
  obtain ⟨hx,tG,hlt⟩:=kR hd
  apply IK
  have e1:decide ((j:aB) < ((o.getD []).length:aB))=aj:=by rw [aG];omega
  have eN:A ++ (cp A.length (.leaf w k) c ++ B)=A ++ e9 w c :: (cp (A.length+1) k ((ia w c).get c) ++ B):=by simp [cp]
  obtain ⟨nl,n1,n2⟩:=zy (hn w (by simp [Ts.flat]))
  simp only [dc] at hout
  have ih:=U7 k (A ++ [e9 w c]) B ((ia w c).get c) o (j+1) T (out ++ [mF uG w c]) (by rw [au];exact tG) (by omega) hlen (by rw [au];simp only [aA,List.length_nil];omega) kf.2 (fun x hx=>hn x (by simp [Ts.flat,hx]))
  simp only [au,aA,List.length_nil,Nat.zero_add,List.append_assoc,bu] at ih
  have lD:idx 9 (.ro 9 ((A ++ e9 w c :: (cp (A.length+1) k ((ia w c).get c) ++ B)).map Nd.av)) (.int (A.length:aB))=aa (e9 w c).av:=ND
  have hs:=fun i=>Zr (mx:=mx) i (.ro 9 ((A ++ e9 w c :: (cp (A.length+1) k ((ia w c).get c) ++ B)).map Nd.av)) T out (by omega)
  rw [eN]
  have fin:∀ i,i=mF uG w c→pF (a7 (C mx) Tryz.prog 23 dS) (ki o) (.int ((o.getD []).length:aB)) (j:aB) (.ro 9 ((A ++ e9 w c :: (cp (A.length+1) k ((ia w c).get c) ++ B)).map Nd.av)) T ((out ++ [i]).map In.av)=aa (.tu [.tu [],.ag [.ro 9 ((A ++ e9 w c :: (cp (A.length+1) k ((ia w c).get c) ++ B)).map Nd.av),T,.ro 6 ((out ++ comp uG out.length (.leaf w k) c).map In.av)]]):=by
   intro i hi
   subst hi
   exact QO (by omega) ih
  generalize (A ++ e9 w c :: (cp (A.length+1) k ((ia w c).get c) ++ B)).map Nd.av=NN at lD hs fin ⊢
  simp only [Ew,Sx.cR,e1,Option.bind_some,ba,aO,xA hx,kB,lD,xb,k0,k2,k3,k4,k5,k6,k7,k8,show (e9 w c).names=w.names from rfl,n1,KZ,mI,jZ,hZ,show (e9 w c).kind=cI w.kind from rfl,show (e9 w c).text=w.text from rfl,show (e9 w c).root=w.root from rfl,show (e9 w c).hole=lT w c from rfl]
  rcases NG kf.1 with hk | hk | hk
  ·have hi:=fin _ rfl
   unfold mF at hi
   have AW:=hs ⟨0,w.text,af,.cd,0,0⟩
   have AW:aq (C mx) Tryz.prog 24 [.un,.ag [.u8 0,.s w.text,.b af,.cd,.u8 0,.int 0],.ag [.ro 9 NN,T,.ro 6 (out.map In.av)]]=_:=AW
   rw [hk] at hi ⊢
   simp only [show ((0:ae) == 0)=aj from rfl,aO,AW,Option.bind_some,RY,RZ,wM,R1,R2,R4,qR] at hi ⊢
   exact hi
  ·have hi:=fin _ rfl
   unfold mF at hi
   have AW:=hs ⟨1,[],w.root,uG w.names,lT w c,0⟩
   have AW:aq (C mx) Tryz.prog 24 [.un,.ag [.u8 1,.s [],.b w.root,uG w.names,.u8 (lT w c),.int 0],.ag [.ro 9 NN,T,.ro 6 (out.map In.av)]]=_:=AW
   rw [n2] at AW
   rw [hk] at hi ⊢
   simp only [show ((1:ae) == 0)=af from rfl,show ((1:ae) == 1)=aj from rfl,Bool.false_eq_true,aH,aO,AW,Option.bind_some,RY,RZ,wM,R1,R2,R4,qR,n2] at hi ⊢
   exact hi
  ·have hi:=fin _ rfl
   unfold mF at hi
   have AW:=hs ⟨6,[],af,.cd,0,0⟩
   have AW:aq (C mx) Tryz.prog 24 [.un,.ag [.u8 6,.s [],.b af,.cd,.u8 0,.int 0],.ag [.ro 9 NN,T,.ro 6 (out.map In.av)]]=_:=AW
   rw [hk] at hi ⊢
   simp only [show ((4:ae) == 0)=af from rfl,show ((4:ae) == 1)=af from rfl,show ((4:ae) == 4)=aj from rfl,Bool.false_eq_true,aH,aO,AW,Option.bind_some,RY,RZ,wM,R1,R2,R4,qR] at hi ⊢
   exact hi
 | .blk w b e' k=>by
  intro A B c o j T out hd hj hlen hout kf hn
  obtain ⟨hx,tG,hlt⟩:=kR hd
  apply IK
  have e1:decide ((j:aB) < ((o.getD []).length:aB))=aj:=by rw [aG];omega
  obtain ⟨nl,n1,n2⟩:=zy (hn w (by simp [Ts.flat]))
  obtain ⟨hk,ke,hb,oY⟩:=kf
  simp only [dc] at hout
  have eN:A ++ (cp A.length (.blk w b e' k) c ++ B)=A ++ gf w (b.bo (A.length+1)) :: (cp (A.length+1) b c ++ (cp (A.length+1+b.size) k c ++ B)):=by simp [cp]
  have eN2:A ++ gf w (b.bo (A.length+1)) :: (cp (A.length+1) b c ++ (cp (A.length+1+b.size) k c ++ B))=(A ++ [gf w (b.bo (A.length+1))]) ++ (cp (A ++ [gf w (b.bo (A.length+1))]).length b c ++ (cp (A.length+1+b.size) k c ++ B)):=by simp
  have eN3:A ++ gf w (b.bo (A.length+1)) :: (cp (A.length+1) b c ++ (cp (A.length+1+b.size) k c ++ B))=(A ++ gf w (b.bo (A.length+1)) :: cp (A.length+1) b c) ++ (cp (A ++ gf w (b.bo (A.length+1)) :: cp (A.length+1) b c).length k c ++ B):=by
   rw [au,aA,dy,show A.length+(b.size+1)=A.length+1+b.size by omega];simp
  have hbn:NF b:=fun x hx=>hn x (by simp [Ts.flat,hx])
  have hkn:NF k:=fun x hx=>hn x (by simp [Ts.flat,hx])
  have Zs:(A ++ gf w (b.bo (A.length+1)) :: cp (A.length+1) b c).length=A.length+1+b.size:=by rw [au,aA,dy];omega
  have zn:=jx b
  have NH:=eI b (A.length+1)
  have rR:=fun (out:ai In) (ho:out.length+dc b≤500000)=>uH (T:=T) (U7 b) eN2 (l:=b.bo (A.length+1)) (by simp) (by omega) ho hb hbn
  have hk2:=fun (out:ai In) (ho:out.length+dc k≤500000)=>U7 k (A ++ gf w (b.bo (A.length+1)) :: cp (A.length+1) b c) B c o (j+1) T out (by rw [Zs];exact tG) (by omega) hlen ho oY hkn
  rw [← eN3] at hk2
  rw [eN]
  have lD:idx 9 (.ro 9 ((A ++ gf w (b.bo (A.length+1)) :: (cp (A.length+1) b c ++ (cp (A.length+1+b.size) k c ++ B))).map Nd.av)) (.int (A.length:aB))=aa (gf w (b.bo (A.length+1))).av:=ND
  have hs:=fun (out:ai In) (ho:out.length≤1000000) i=>Zr (mx:=mx) i (.ro 9 ((A ++ gf w (b.bo (A.length+1)) :: (cp (A.length+1) b c ++ (cp (A.length+1+b.size) k c ++ B))).map Nd.av)) T out ho
  generalize (A ++ gf w (b.bo (A.length+1)) :: (cp (A.length+1) b c ++ (cp (A.length+1+b.size) k c ++ B))).map Nd.av=NN at lD hs rR hk2 ⊢
  simp only [Ew,Sx.cR,e1,Option.bind_some,ba,aO,xA hx,kB,lD,xb,k0,k2,k3,k4,k5,k6,k7,k8,show (gf w (b.bo (A.length+1))).names=w.names from rfl,n1,KZ,mI,jZ,hZ,show (gf w (b.bo (A.length+1))).kind=cI w.kind from rfl,show (gf w (b.bo (A.length+1))).root=w.root from rfl,show (gf w (b.bo (A.length+1))).has=af from rfl,show (gf w (b.bo (A.length+1))).body=aa (b.bo (A.length+1)) from rfl]
  rcases qN hk with hk | hk
  ·rw [hk] at hout ⊢
   simp only [show ((2:ae) == 2)=aj from rfl,aO] at hout
   have AW:aq (C mx) Tryz.prog 24 [.un,.ag [.u8 2,.s [],.b w.root,.ro 1 nl,.u8 0,.int 0],.ag [.ro 9 NN,T,.ro 6 (out.map In.av)]]=_:=hs out (by omega) ⟨2,[],w.root,.ro 1 nl,0,0⟩
   have Ob:=rR (out ++ [⟨2,[],w.root,.ro 1 nl,0,0⟩]) (by rw [au];simp only [aA,List.length_nil];omega)
   simp only [show ((2:ae) == 0)=af from rfl,show ((2:ae) == 1)=af from rfl,show ((2:ae) == 4)=af from rfl,show ((2:ae) == 2)=aj from rfl,Bool.false_eq_true,aH,aO,AW,Option.bind_some,RY,RZ,wM,R1,R2,R4,qR,Ob]
   apply NC
   simp only [List.append_assoc,bu]
   simp only [Gx,IL,Option.bind_some]
   rw [CU out.length rfl _ (out.length+1+dc b) (by simp only [aP,au,aA,cU,List.length_nil];omega)]
   apply QO (by omega)
   have tF:=hk2 (out ++ ⟨2,[],w.root,.ro 1 nl,0,out.length+1+dc b⟩ :: comp uG (out.length+1) b c) (by rw [au,aA,cU];omega)
   simp only [au,aA,cU,List.length_nil,Nat.zero_add,List.nil_append] at tF ⊢
   rw [tF]
   simp only [comp,hk,show ((2:ae) == 2)=aj from rfl,aO,n2,List.append_assoc,List.cons_append]
   rw [show out.length+(dc b+1)=out.length+1+dc b by omega]
  ·rw [hk] at hout ⊢
   simp only [show ((3:ae) == 2)=af from rfl,Bool.false_eq_true,aH] at hout
   have AW:aq (C mx) Tryz.prog 24 [.un,.ag [.u8 4,.s [],.b w.root,.ro 1 nl,.u8 0,.int 0],.ag [.ro 9 NN,T,.ro 6 (out.map In.av)]]=_:=hs out (by omega) ⟨4,[],w.root,.ro 1 nl,0,0⟩
   have Ob:=rR (out ++ [⟨4,[],w.root,.ro 1 nl,0,0⟩]) (by rw [au];simp only [aA,List.length_nil];omega)
   have YE:cf .add (.int (out.length:aB)) (.int 1)=aa (.int ((out.length+1:ax):aB)):=by
    rw [lj (by omega) (by omega)];congr 2
   have U8:aq (C mx) Tryz.prog 24 [.un,.ag [.u8 5,.s [],.b af,.cd,.u8 0,.int ((out.length+1:ax):aB)],.ag [.ro 9 NN,T,.ro 6 ((out ++ [(⟨4,[],w.root,.ro 1 nl,0,0⟩:In)] ++ comp uG (out ++ [(⟨4,[],w.root,.ro 1 nl,0,0⟩:In)]).length b c).map In.av)]]=_:=hs (out ++ [(⟨4,[],w.root,.ro 1 nl,0,0⟩:In)] ++ comp uG (out ++ [(⟨4,[],w.root,.ro 1 nl,0,0⟩:In)]).length b c) (by rw [au,au,cU];simp only [aA,List.length_nil];omega) ⟨5,[],af,.cd,0,out.length+1⟩
   have YF (n:aB):AV.one (.int n)=aa (.int n):=rfl
   simp only [show ((3:ae) == 0)=af from rfl,show ((3:ae) == 1)=af from rfl,show ((3:ae) == 4)=af from rfl,show ((3:ae) == 2)=af from rfl,show ((3:ae) == 3)=aj from rfl,Bool.false_eq_true,aH,aO,AW,Option.bind_some,RY,RZ,wM,R1,R2,R4,qR,Ob,YE,YF,U8]
   simp only [List.append_assoc,bu,List.cons_append]
   simp only [IL,Option.bind_some]
   rw [CU out.length rfl _ (out.length+2+dc b) (by simp only [aP,au,aA,cU,List.length_nil];omega)]
   apply QO (by omega)
   have tF:=hk2 (out ++ ⟨4,[],w.root,.ro 1 nl,0,out.length+2+dc b⟩ :: (comp uG (out.length+1) b c ++ [⟨5,[],af,.cd,0,out.length+1⟩])) (by simp only [au,aA,List.length_nil,cU];omega)
   simp only [au,aA,cU,List.length_nil,Nat.zero_add,List.nil_append] at tF ⊢
   rw [tF]
   simp only [comp,hk,show ((3:ae) == 2)=af from rfl,Bool.false_eq_true,aH,n2,List.append_assoc,List.cons_append,List.nil_append]
   rw [show out.length+(dc b+1+1)=out.length+2+dc b by omega]
 | .alt w b l y e' k=>by
  intro A B c o j T out hd hj hlen hout kf hn
  obtain ⟨hx,tG,hlt⟩:=kR hd
  apply IK
  have e1:decide ((j:aB) < ((o.getD []).length:aB))=aj:=by rw [aG];omega
  obtain ⟨nl,n1,n2⟩:=zy (hn w (by simp [Ts.flat]))
  obtain ⟨hk,kl,ke,hb,hy,oY⟩:=kf
  have abw:cI w.kind=2:=by rw [hk];rfl
  simp only [dc] at hout
  have eN:A ++ (cp A.length (.alt w b l y e' k) c ++ B)=A ++ jV w (b.bo (A.length+1)) (y.bo (A.length+1+b.size)) :: (cp (A.length+1) b c ++ (cp (A.length+1+b.size) y c ++ (cp (A.length+1+b.size+y.size) k ((dv b c).get c) ++ B))):=by simp [cp]
  generalize sR:jV w (b.bo (A.length+1)) (y.bo (A.length+1+b.size))=nd at eN
  have eN2:A ++ nd :: (cp (A.length+1) b c ++ (cp (A.length+1+b.size) y c ++ (cp (A.length+1+b.size+y.size) k ((dv b c).get c) ++ B)))=(A ++ [nd]) ++ (cp (A ++ [nd]).length b c ++ (cp (A.length+1+b.size) y c ++ (cp (A.length+1+b.size+y.size) k ((dv b c).get c) ++ B))):=by simp
  have Zs:(A ++ nd :: cp (A.length+1) b c).length=A.length+1+b.size:=by rw [au,aA,dy];omega
  have RD:(A ++ nd :: (cp (A.length+1) b c ++ cp (A.length+1+b.size) y c)).length=A.length+1+b.size+y.size:=by rw [au,aA,au,dy,dy];omega
  have eN3:A ++ nd :: (cp (A.length+1) b c ++ (cp (A.length+1+b.size) y c ++ (cp (A.length+1+b.size+y.size) k ((dv b c).get c) ++ B)))=(A ++ nd :: cp (A.length+1) b c) ++ (cp (A ++ nd :: cp (A.length+1) b c).length y c ++ (cp (A.length+1+b.size+y.size) k ((dv b c).get c) ++ B)):=by rw [Zs];simp
  have eN4:A ++ nd :: (cp (A.length+1) b c ++ (cp (A.length+1+b.size) y c ++ (cp (A.length+1+b.size+y.size) k ((dv b c).get c) ++ B)))=(A ++ nd :: (cp (A.length+1) b c ++ cp (A.length+1+b.size) y c)) ++ (cp (A ++ nd :: (cp (A.length+1) b c ++ cp (A.length+1+b.size) y c)).length k ((dv b c).get c) ++ B):=by rw [RD];simp
  have hbn:NF b:=fun x hx=>hn x (by simp [Ts.flat,hx])
  have hyn:NF y:=fun x hx=>hn x (by simp [Ts.flat,hx])
  have hkn:NF k:=fun x hx=>hn x (by simp [Ts.flat,hx])
  have zn:=jx b
  have NH:=eI b (A.length+1)
  have YG:=jx y
  have YH:=eI y (A.length+1+b.size)
  have rR:=fun (out:ai In) (ho:out.length+dc b≤500000)=>uH (T:=T) (U7 b) eN2 (l:=b.bo (A.length+1)) (by simp) (by omega) ho hb hbn
  have NI:=fun (out:ai In) (ho:out.length+dc y≤500000)=>uH (T:=T) (U7 y) eN3 (l:=y.bo (A.length+1+b.size)) (by rw [Zs]) (by omega) ho hy hyn
  have hk2:=fun (out:ai In) (ho:out.length+dc k≤500000)=>U7 k (A ++ nd :: (cp (A.length+1) b c ++ cp (A.length+1+b.size) y c)) B ((dv b c).get c) o (j+1) T out (by rw [RD];exact tG) (by omega) hlen ho oY hkn
  rw [← eN4] at hk2
  rw [eN]
  have lD:idx 9 (.ro 9 ((A ++ nd :: (cp (A.length+1) b c ++ (cp (A.length+1+b.size) y c ++ (cp (A.length+1+b.size+y.size) k ((dv b c).get c) ++ B)))).map Nd.av)) (.int (A.length:aB))=aa nd.av:=ND
  have hs:=fun (out:ai In) (ho:out.length≤1000000) i=>Zr (mx:=mx) i (.ro 9 ((A ++ nd :: (cp (A.length+1) b c ++ (cp (A.length+1+b.size) y c ++ (cp (A.length+1+b.size+y.size) k ((dv b c).get c) ++ B)))).map Nd.av)) T out ho
  generalize (A ++ nd :: (cp (A.length+1) b c ++ (cp (A.length+1+b.size) y c ++ (cp (A.length+1+b.size+y.size) k ((dv b c).get c) ++ B)))).map Nd.av=NN at lD hs rR NI hk2 ⊢
  subst sR
  have AW:aq (C mx) Tryz.prog 24 [.un,.ag [.u8 2,.s [],.b w.root,.ro 1 nl,.u8 0,.int 0],.ag [.ro 9 NN,T,.ro 6 (out.map In.av)]]=_:=hs out (by omega) ⟨2,[],w.root,.ro 1 nl,0,0⟩
  have Ob:=rR (out ++ [⟨2,[],w.root,.ro 1 nl,0,0⟩]) (by rw [au];simp only [aA,List.length_nil];omega)
  have U8:aq (C mx) Tryz.prog 24 [.un,.ag [.u8 3,.s [],.b af,.cd,.u8 0,.int 0],.ag [.ro 9 NN,T,.ro 6 ((out ++ [(⟨2,[],w.root,.ro 1 nl,0,0⟩:In)] ++ comp uG (out ++ [(⟨2,[],w.root,.ro 1 nl,0,0⟩:In)]).length b c).map In.av)]]=_:=hs (out ++ [(⟨2,[],w.root,.ro 1 nl,0,0⟩:In)] ++ comp uG (out ++ [(⟨2,[],w.root,.ro 1 nl,0,0⟩:In)]).length b c) (by rw [au,au,cU];simp only [aA,List.length_nil];omega) ⟨3,[],af,.cd,0,0⟩
  simp only [Ew,Sx.cR,e1,Option.bind_some,ba,aO,xA hx,kB,lD,xb,k0,k2,k3,k4,k5,k6,k7,k8,show (jV w (b.bo (A.length+1)) (y.bo (A.length+1+b.size))).names=w.names from rfl,n1,KZ,mI,jZ,hZ,show (jV w (b.bo (A.length+1)) (y.bo (A.length+1+b.size))).kind=cI w.kind from rfl,show (jV w (b.bo (A.length+1)) (y.bo (A.length+1+b.size))).root=w.root from rfl,show (jV w (b.bo (A.length+1)) (y.bo (A.length+1+b.size))).has=aj from rfl,show (jV w (b.bo (A.length+1)) (y.bo (A.length+1+b.size))).body=aa (b.bo (A.length+1)) from rfl,show (jV w (b.bo (A.length+1)) (y.bo (A.length+1+b.size))).els=aa (y.bo (A.length+1+b.size)) from rfl,abw,show ((2:ae) == 0)=af from rfl,show ((2:ae) == 1)=af from rfl,show ((2:ae) == 4)=af from rfl,show ((2:ae) == 2)=aj from rfl,Bool.false_eq_true,aH,AW,RY,RZ,wM,R1,R2,R4,qR,Ob,U8]
  simp only [List.append_assoc,bu,List.cons_append]
  simp only [IL,Option.bind_some]
  rw [CU out.length rfl _ (out.length+2+dc b) (by simp only [aP,au,aA,cU,List.length_nil];omega)]
  have hyc:=NI (out ++ ⟨2,[],w.root,.ro 1 nl,0,out.length+2+dc b⟩ :: (comp uG (out.length+1) b c ++ [⟨3,[],af,.cd,0,0⟩])) (by simp only [au,aA,List.length_nil,cU];omega)
  simp only [au,aA,cU,List.length_nil,Nat.zero_add,List.nil_append] at hyc ⊢
  simp only [hyc,Option.bind_some,RY,RZ,wM,R1,R2,R4,qR]
  apply NC
  have hX:(out ++ ⟨2,[],w.root,.ro 1 nl,0,out.length+2+dc b⟩ :: comp uG (out.length+1) b c).length=out.length+(dc b+1):=by rw [au,aA,cU]
  have esh:∀ (i:In) (R:ai In),out ++ ⟨2,[],w.root,.ro 1 nl,0,out.length+2+dc b⟩ :: (comp uG (out.length+1) b c ++ [i]) ++ R=(out ++ ⟨2,[],w.root,.ro 1 nl,0,out.length+2+dc b⟩ :: comp uG (out.length+1) b c) ++ i :: R:=by intro i R;simp
  have J3:=IL (X:=out ++ ⟨2,[],w.root,.ro 1 nl,0,out.length+2+dc b⟩ :: comp uG (out.length+1) b c) (R:=comp uG (out.length+(dc b+1+1)) y c) (i:=⟨3,[],af,.cd,0,0⟩)
  rw [hX] at J3
  simp only [Gx,esh,J3,Option.bind_some]
  rw [CU _ hX.symm _ (out.length+2+dc b+dc y) (by simp only [aP,au,aA,cU,List.length_nil];omega)]
  apply QO (by omega)
  have tF:=hk2 ((out ++ ⟨2,[],w.root,.ro 1 nl,0,out.length+2+dc b⟩ :: comp uG (out.length+1) b c) ++ ⟨3,[],af,.cd,0,out.length+2+dc b+dc y⟩ :: comp uG (out.length+(dc b+1+1)) y c) (by simp only [au,aA,List.length_nil,cU];omega)
  simp only [au,aA,cU,List.length_nil,Nat.zero_add,List.nil_append] at tF ⊢
  rw [tF]
  simp only [comp,n2,List.append_assoc,List.cons_append,List.nil_append]
  rw [show out.length+(dc b+1)+(dc y+1)=out.length+2+dc b+dc y by omega,show out.length+(dc b+1+1)=out.length+2+dc b by omega]
end wL
namespace wL
open Go Go.Proofs Sx
variable {mx:aB}
noncomputable def Gy:Code:=(ek.body).getD .skip
noncomputable def Ex (run:RunT) (a:AV) (b:aB) (d:ai AV) (e:aB) (f g:AV):ak AV :=
 run ((eV 3 Gy []).getD []) (St.fj [(1,.cell (.val a)),(2,.cell (.val (.int b))),(3,.cell (.ptr 3 0)),(7,.cell (.own 300007 69 6 d)),(8,.cell (.val (.int e)))] [(3,aa [.val f,.val (g)])])
noncomputable def wO (run:RunT) (a:AV) (b:aB) (d:ai AV) (e:aB) (f g:AV):ak AV :=
 run ((eV 4 Gy []).getD []) (St.fj [(1,.cell (.val a)),(2,.cell (.val (.int b))),(3,.cell (.ptr 3 0)),(7,.cell (.own 300007 69 6 d)),(8,.cell (.val (.int e)))] [(3,aa [.val f,.val (g)])])
noncomputable def Gz (run:RunT) (a:AV) (b:aB) (d:ai AV) (e f:aB) (g i j k l m n o p q s t u:AV):ak AV :=
 run ((eV 19 Gy []).getD []) (St.fj [(1,.cell (.val a)),(2,.cell (.val (.int b))),(3,.cell (.ptr 3 0)),(7,.cell (.own 300007 69 6 d)),(8,.cell (.val (.int e))),(9,.cell (.ptr 9 0)),(10,.cell (.val (.int f))),(12,.cell (.val g)),(13,.cell (.val i))] [(3,aa [.val j,.val (k)]),(9,aa (cN l m n o p q s t u))])
noncomputable def X25 (a b d:AV) (e:aB) (c:bj) (r:RunT):ak AV :=
 Ex r d e [] 0 a b
theorem c25 (a b d e) {r:AV} (h:X25 a b d e (aq (C mx) Tryz.prog) (a7 (C mx) Tryz.prog 25 ek)=aa r):aq (C mx) Tryz.prog 25 [.ag [a,b],d,.int e]=aa r :=
 bc (fun _ _=>by kernel_rfl) h
noncomputable def Ey (a:AV) (b:aB) (d:ai AV) (e:aB) (f g:AV) (c:bj) (r:RunT):ak AV :=
 (kH a).bind fun i=>(cf .lss (.int e) i).bind fun j=>a8 j
 ((idx 1 a (.int e)).bind fun k=>(idx 9 f (AV.cell k 0)).bind fun l=>(conv .i64 (AV.cell l 0)).bind fun m=>(cf .eql m (.int 0)).bind fun n=>a8 n
 ((AV.one (AV.cell l 2)).bind fun o=>(app 72 6 d (.ro 6 (([.ag [.u8 0,o,.b af,.cd,.u8 0,.int 0]]:ai AV)))).bind fun p=>wO r a b p e f g)
 ((cf .eql m (.int 1)).bind fun q=>a8 q
 ((AV.one (AV.cell l 8)).bind fun s=>(app 72 6 d (.ro 6 (([.ag [.u8 1,.s [],AV.cell l 3,AV.cell l 4,s,.int 0]]:ai AV)))).bind fun t=>wO r a b t e f g)
 ((cf .eql m (.int 2)).bind fun u=>a8 u
 ((c 40 [.ag [f,g],AV.cell l 5]).bind fun w=>(c 40 [.ag [f,g],AV.cell l 6]).bind fun x=>(cf .add (.int (eE ((eE (b+((d.length:aB))))+1))) w).bind fun y=>a8 (AV.cell l 7)
 ((cf .add y (.int 1)).bind fun z=>Gz r a b d e (eE (b+((d.length:aB)))) x z f g (AV.cell l 0) (AV.cell l 1) (AV.cell l 2) (AV.cell l 3) (AV.cell l 4) (AV.cell l 5) (AV.cell l 6) (AV.cell l 7) (AV.cell l 8))
 (Gz r a b d e (eE (b+((d.length:aB)))) x y f g (AV.cell l 0) (AV.cell l 1) (AV.cell l 2) (AV.cell l 3) (AV.cell l 4) (AV.cell l 5) (AV.cell l 6) (AV.cell l 7) (AV.cell l 8)))
 ((cf .eql m (.int 3)).bind fun A=>a8 A
 ((c 40 [.ag [f,g],AV.cell l 5]).bind fun B=>(cf .add (.int (eE (b+((d.length:aB))))) B).bind fun D=>(cf .add D (.int 2)).bind fun E=>(AV.one E).bind fun G=>(app 72 6 d (.ro 6 (([.ag [.u8 4,.s [],AV.cell l 3,AV.cell l 4,.u8 0,G]]:ai AV)))).bind fun H=>(c 25 [.ag [f,g],AV.cell l 5,.int (eE ((eE (b+((d.length:aB))))+1))]).bind fun I=>(app 72 6 H (.ro 6 (AV.elems I))).bind fun J=>(app 72 6 J (.ro 6 (([.ag [.u8 5,.s [],.b af,.cd,.u8 0,.int (eE ((eE (b+((d.length:aB))))+1))]]:ai AV)))).bind fun L=>wO r a b L e f g)
 ((app 72 6 d (.ro 6 (([.ag [.u8 6,.s [],.b af,.cd,.u8 0,.int 0]]:ai AV)))).bind fun M=>wO r a b M e f g)))))
 (aa (.ro 6 d))
noncomputable def R5 (a:AV) (b:aB) (d:ai AV) (e:aB) (f g:AV) (c:bj) (r:RunT):ak AV :=
 Ex r a b d (eE (e+1)) f g
noncomputable def GA (a:AV) (b:aB) (d:ai AV) (e f:aB) (g i j k l m n o p q s t u:AV) (c:bj) (r:RunT):ak AV :=
 (AV.one i).bind fun w=>(app 72 6 d (.ro 6 (([.ag [.u8 2,.s [],o,p,.u8 0,w]]:ai AV)))).bind fun x=>(c 25 [.ag [j,k],q,.int (eE (f+1))]).bind fun y=>(app 72 6 x (.ro 6 (AV.elems y))).bind fun z=>a8 t
 ((cf .add i g).bind fun A=>(AV.one A).bind fun B=>(app 72 6 z (.ro 6 (([.ag [.u8 3,.s [],.b af,.cd,.u8 0,B]]:ai AV)))).bind fun D=>(c 25 [.ag [j,k],s,i]).bind fun E=>(app 72 6 D (.ro 6 (AV.elems E))).bind fun G=>wO r a b G e j k)
 (wO r a b z e j k)
theorem IM (a b d e f g) {r:AV} (h:Ey a b d e f g (aq (C mx) Tryz.prog) (a7 (C mx) Tryz.prog 25 ek)=aa r):Ex (a7 (C mx) Tryz.prog 25 ek) a b d e f g=aa r :=
 bh (fun _ _=>by kernel_rfl) h
theorem YI (a b d e f g) {r:AV} (h:R5 a b d e f g (aq (C mx) Tryz.prog) (a7 (C mx) Tryz.prog 25 ek)=aa r):wO (a7 (C mx) Tryz.prog 25 ek) a b d e f g=aa r :=
 bh (fun _ _=>by kernel_rfl) h
theorem NJ (a b d e f g i j k l m n o p q s t u) {r:AV} (h:GA a b d e f g i j k l m n o p q s t u (aq (C mx) Tryz.prog) (a7 (C mx) Tryz.prog 25 ek)=aa r):Gz (a7 (C mx) Tryz.prog 25 ek) a b d e f g i j k l m n o p q s t u=aa r :=
 bh (fun _ _=>by kernel_rfl) h
noncomputable def NK:Code:=(eO.body).getD .skip
noncomputable def AX (run:RunT) (a b:AV) (d:aB) (e f:AV):ak AV :=
 run ((eV 3 NK []).getD []) (St.fj [(1,.cell (.val a)),(2,.cell (.ptr 2 0)),(5,.cell (.val b)),(6,.cell (.val (.int d)))] [(2,aa [.val e,.val (f)])])
noncomputable def AY (run:RunT) (a b:AV) (d:aB) (e f:AV):ak AV :=
 run ((eV 4 NK []).getD []) (St.fj [(1,.cell (.val a)),(2,.cell (.ptr 2 0)),(5,.cell (.val b)),(6,.cell (.val (.int d)))] [(2,aa [.val e,.val (f)])])
noncomputable def X40 (a b d:AV) (c:bj) (r:RunT):ak AV :=
 AX r d (.int 0) 0 a b
theorem c40 (a b d) {r:AV} (h:X40 a b d (aq (C mx) Tryz.prog) (a7 (C mx) Tryz.prog 40 eO)=aa r):aq (C mx) Tryz.prog 40 [.ag [a,b],d]=aa r :=
 bc (fun _ _=>by kernel_rfl) h
noncomputable def Ez (a b:AV) (d:aB) (e f:AV) (c:bj) (r:RunT):ak AV :=
 (kH a).bind fun g=>(cf .lss (.int d) g).bind fun i=>a8 i
 ((idx 1 a (.int d)).bind fun j=>(idx 9 e (AV.cell j 0)).bind fun k=>(conv .i64 (AV.cell k 0)).bind fun l=>(cf .eql l (.int 2)).bind fun m=>a8 m
 ((c 40 [.ag [e,f],AV.cell k 5]).bind fun n=>(cf .add (.int 1) n).bind fun o=>(c 40 [.ag [e,f],AV.cell k 6]).bind fun p=>(cf .add o p).bind fun q=>(cf .add b q).bind fun s=>a8 (AV.cell k 7)
 ((cf .add s (.int 1)).bind fun t=>AY r a t d e f)
 (AY r a s d e f))
 ((cf .eql l (.int 3)).bind fun u=>a8 u
 ((c 40 [.ag [e,f],AV.cell k 5]).bind fun w=>(cf .add (.int 2) w).bind fun x=>(cf .add b x).bind fun y=>AY r a y d e f)
 ((cf .add b (.int 1)).bind fun z=>AY r a z d e f)))
 (aa b)
noncomputable def R6 (a b:AV) (d:aB) (e f:AV) (c:bj) (r:RunT):ak AV :=
 AX r a b (eE (d+1)) e f
theorem IP (a b d e f) {r:AV} (h:Ez a b d e f (aq (C mx) Tryz.prog) (a7 (C mx) Tryz.prog 40 eO)=aa r):AX (a7 (C mx) Tryz.prog 40 eO) a b d e f=aa r :=
 bh (fun _ _=>by kernel_rfl) h
theorem YJ (a b d e f) {r:AV} (h:R6 a b d e f (aq (C mx) Tryz.prog) (a7 (C mx) Tryz.prog 40 eO)=aa r):AY (a7 (C mx) Tryz.prog 40 eO) a b d e f=aa r :=
 bh (fun _ _=>by kernel_rfl) h
end wL
namespace wL
open Go Go.Proofs Sx R3 lp M3
variable {mx:aB}
theorem vG {L:ai ax} {j i:ax} (h:L[j]?=aa i):idx 1 (.ro 1 (cj L)) (.int (j:aB))=aa (.int (i:aB)):=by
 have hj:j < L.length:=(List.getElem?_eq_some_iff.1 h).1
 rw [oc 1 (by rw [cj,aP];exact hj)]
 simp only [cj,List.getElem_map,(List.getElem?_eq_some_iff.1 h).2]
theorem vH {A R:ai Nd} {x:Nd}:idx 9 (.ro 9 ((A ++ x :: R).map mh)) (.int (A.length:aB))=aa (mh x):=by
 rw [oc 9 (by rw [aP,au,aA];omega)]
 simp
theorem lI (a b:ax) (h:a+b≤4000000):cf .add (.int (a:aB)) (.int (b:aB))=aa (.int ((a+b:ax):aB)):=by
 rw [lj (by omega) (by omega)];congr 2
theorem wN {a:ax} (h:a≤4000000):eE ((a:aB)+1)=((a+1:ax):aB):=by rw [gh (by omega) (by omega)];omega
theorem wNN {a b:ax} (h:a+b≤4000000):eE ((a:aB)+(b:aB))=((a+b:ax):aB):=by rw [gh (by omega) (by omega)];omega
theorem kv (x:ae):conv .i64 (.u8 x)=aa (.int (x.toNat:aB)):=by
 have h:=x.toNat_lt
 simp only [conv,AV.rL,Option.bind_some]
 rw [show IntKind.i64.wrap (x.toNat:aB)=(x.toNat:aB) from gh (by omega) (by omega)]
 rfl
theorem m0 (x:Nd):AV.cell (mh x) 0=.u8 x.kind:=rfl
theorem m2 (x:Nd):AV.cell (mh x) 2=.s x.text:=rfl
theorem m3 (x:Nd):AV.cell (mh x) 3=.b x.root:=rfl
theorem m4 (x:Nd):AV.cell (mh x) 4=x.names:=rfl
theorem m5 (x:Nd):AV.cell (mh x) 5=.ro 1 (cj (x.body.getD [])):=rfl
theorem m6 (x:Nd):AV.cell (mh x) 6=.ro 1 (cj (x.els.getD [])):=rfl
theorem m7 (x:Nd):AV.cell (mh x) 7=.b x.has:=rfl
theorem m8 (x:Nd):AV.cell (mh x) 8=.u8 x.hole:=rfl
theorem R7 (A B:ai Nd) (w:Wd) (k:Ts) (c:Ctx):∃ R A3:ai Nd,A ++ (cp A.length (.leaf w k) c ++ B)=A ++ e9 w c :: R ∧
  A ++ e9 w c :: R=A3 ++ (cp A3.length k ((ia w c).get c) ++ B)∧A3.length=A.length+1 :=
 ⟨cp (A.length+1) k ((ia w c).get c) ++ B,A ++ [e9 w c],by simp only [cp,List.cons_append],by simp,by simp⟩
theorem YK (A B:ai Nd) (w:Wd) (b:Ts) (e:Wd) (k:Ts) (c:Ctx):∃ R A1 B1 A3:ai Nd,A ++ (cp A.length (.blk w b e k) c ++ B)=A ++ gf w (b.bo (A.length+1)) :: R ∧
  A ++ gf w (b.bo (A.length+1)) :: R=A1 ++ (cp A1.length b c ++ B1)∧A1.length=A.length+1 ∧
  A ++ gf w (b.bo (A.length+1)) :: R=A3 ++ (cp A3.length k c ++ B)∧A3.length=A.length+1+b.size:=by
 refine ⟨cp (A.length+1) b c ++ (cp (A.length+1+b.size) k c ++ B),A ++ [gf w (b.bo (A.length+1))],cp (A.length+1+b.size) k c ++ B,A ++ gf w (b.bo (A.length+1)) :: cp (A.length+1) b c,by simp only [cp,List.cons_append,List.append_assoc],?_,by simp,?_,by rw [au,aA,dy];omega⟩
 ·rw [au,aW,List.append_assoc];rfl
 ·rw [au,aA,dy,show A.length+(b.size+1)=A.length+1+b.size by omega];simp
theorem YL (A B:ai Nd) (w:Wd) (b:Ts) (l:Wd) (y:Ts) (e:Wd) (k:Ts) (c:Ctx):∃ R A1 B1 A2 B2 A3:ai Nd,
  A ++ (cp A.length (.alt w b l y e k) c ++ B)=A ++ jV w (b.bo (A.length+1)) (y.bo (A.length+1+b.size)) :: R ∧
  A ++ jV w (b.bo (A.length+1)) (y.bo (A.length+1+b.size)) :: R=A1 ++ (cp A1.length b c ++ B1)∧A1.length=A.length+1 ∧
  A ++ jV w (b.bo (A.length+1)) (y.bo (A.length+1+b.size)) :: R=A2 ++ (cp A2.length y c ++ B2)∧A2.length=A.length+1+b.size ∧
  A ++ jV w (b.bo (A.length+1)) (y.bo (A.length+1+b.size)) :: R=A3 ++ (cp A3.length k ((dv b c).get c) ++ B)∧A3.length=A.length+1+b.size+y.size:=by
 generalize hn:jV w (b.bo (A.length+1)) (y.bo (A.length+1+b.size))=nd
 refine ⟨cp (A.length+1) b c ++ (cp (A.length+1+b.size) y c ++ (cp (A.length+1+b.size+y.size) k ((dv b c).get c) ++ B)),A ++ [nd],cp (A.length+1+b.size) y c ++ (cp (A.length+1+b.size+y.size) k ((dv b c).get c) ++ B),A ++ nd :: cp (A.length+1) b c,cp (A.length+1+b.size+y.size) k ((dv b c).get c) ++ B,A ++ nd :: (cp (A.length+1) b c ++ cp (A.length+1+b.size) y c),by simp only [cp,List.cons_append,List.append_assoc,hn],?_,by simp,?_,by rw [au,aA,dy];omega,?_,by rw [au,aA,au,dy,dy];omega⟩
 ·rw [au,aW,List.append_assoc];rfl
 ·rw [au,aA,dy,show A.length+(b.size+1)=A.length+1+b.size by omega]
  simp only [List.append_assoc,List.cons_append]
 ·rw [au,aA,au,dy,dy,show A.length+(b.size+y.size+1)=A.length+1+b.size+y.size by omega];simp
def SOk (mx:aB) (ts:Ts):Prop:=∀ (A B:ai Nd) (c:Ctx) (L:ai ax) (j n:ax) (T:AV),L.drop j=ts.bo A.length→j≤L.length→L.length≤500000→n+dc ts≤500000→ts.ok →
 AX (a7 (C mx) Tryz.prog 40 eO) (.ro 1 (cj L)) (.int (n:aB)) (j:aB) (.ro 9 ((A ++ (cp A.length ts c ++ B)).map mh)) T=aa (.int ((n+dc ts:ax):aB))
theorem VJ {ts:Ts} (h:SOk mx ts) {N A B:ai Nd} {c:Ctx} {L:ai ax} {T:AV} (hN:N=A ++ (cp A.length ts c ++ B)) (hl:L=ts.bo A.length) (h1:L.length≤500000) (h2:dc ts≤500000) (h3:ts.ok) :
  aq (C mx) Tryz.prog 40 [.ag [.ro 9 (N.map mh),T],.ro 1 (cj L)]=aa (.int (dc ts:aB)):=by
 subst hN
 apply c40
 simp only [X40]
 have:=h A B c L 0 0 T hl (Nat.zero_le _) h1 (by omega) h3
 rw [Nat.zero_add] at this
 exact this
theorem xI {la n N T:AV} {j:ax} {r:AV} (hj:j≤1000000) (h:AX (a7 (C mx) Tryz.prog 40 eO) la n ((j+1:ax):aB) N T=aa r):AY (a7 (C mx) Tryz.prog 40 eO) la n (j:aB) N T=aa r:=by
 apply YJ
 simp only [R6,wN (Nat.le_trans hj (by decide))]
 exact h
theorem EA {L:ai ax} {j:ax} (h:L.length≤j) (n N T:AV):AX (a7 (C mx) Tryz.prog 40 eO) (.ro 1 (cj L)) n (j:aB) N T=aa n:=by
 apply IP
 have e1:decide ((j:aB) < (L.length:aB))=af:=by rw [aQ];omega
 simp only [Ez,zu,Sx.cR,e1,Option.bind_some,ba,Bool.false_eq_true,aH]
theorem R8 (N T:AV):aq (C mx) Tryz.prog 40 [.ag [N,T],.ro 1 (cj [])]=aa (.int 0):=by
 apply c40
 simp only [X40]
 exact EA (L:=[]) (j:=0) (Nat.le_refl _) _ _ _
theorem QP:∀ (ts:Ts),SOk mx ts
 | .nil=>by
  intro A B c L j n T hd hj hlen hout kf
  have jz:L.length≤j:=by
   have:=bA List.length hd
   simp [Ts.bo] at this
   omega
  exact EA jz _ _ _
 | .leaf w k=>by
  intro A B c L j n T hd hj hlen hout kf
  obtain ⟨hx,tG,hlt⟩:=kR hd
  obtain ⟨R,A3,e1,e2,h3⟩:=R7 A B w k c
  simp only [dc] at hout ⊢
  have ih:=QP k A3 B ((ia w c).get c) L (j+1) (n+1) T (by rw [h3];exact tG) (by omega) hlen (by omega) kf.2
  rw [← e2] at ih
  rw [e1]
  apply IP
  have l1:decide ((j:aB) < (L.length:aB))=aj:=by rw [aG];omega
  have ha:cf .add (.int (n:aB)) (.int 1)=aa (.int ((n+1:ax):aB)):=lI n 1 (by omega)
  have h2:((((cI w.kind).toNat:aB)) == 2)=af∧((((cI w.kind).toNat:aB)) == 3)=af:=by rcases NG kf.1 with h | h | h <;> rw [h] <;> exact ⟨rfl,rfl⟩
  simp only [Ez,zu,Sx.cR,l1,Option.bind_some,ba,aO,vG hx,kB,vH,m0,show (e9 w c).kind=cI w.kind from rfl,kv,Sx.cX,h2.1,h2.2,Bool.false_eq_true,aH,ha]
  rw [show n+(1+dc k)=n+1+dc k by omega]
  exact xI (by omega) ih
 | .blk w b e' k=>by
  intro A B c L j n T hd hj hlen hout kf
  obtain ⟨hx,tG,hlt⟩:=kR hd
  obtain ⟨R,A1,B1,A3,e1,e2,h2,e3,h3⟩:=YK A B w b e' k c
  obtain ⟨hk,ke,hb,oY⟩:=kf
  simp only [dc] at hout ⊢
  have ih:=fun n hn=>QP k A3 B c L (j+1) n T (by rw [h3];exact tG) (by omega) hlen hn oY
  have zn:=jx b
  have NH:=eI b (A.length+1)
  have hc:=VJ (T:=T) (QP b) e2 (L:=b.bo (A.length+1)) (by rw [h2]) (by omega) (by omega) hb
  rw [← e3] at ih
  rw [e1]
  apply IP
  have l1:decide ((j:aB) < (L.length:aB))=aj:=by rw [aG];omega
  have ha1:cf .add (.int 1) (.int (dc b:aB))=aa (.int ((1+dc b:ax):aB)):=lI 1 _ (by omega)
  have ha2:cf .add (.int 2) (.int (dc b:aB))=aa (.int ((2+dc b:ax):aB)):=lI 2 _ (by omega)
  have U9:cf .add (.int ((1+dc b:ax):aB)) (.int 0)=aa (.int ((1+dc b:ax):aB)):=lI _ 0 (by omega)
  have ha4:=lI n (1+dc b) (by omega)
  have ha5:=lI n (2+dc b) (by omega)
  have mA:(gf w (b.bo (A.length+1))).kind=cI w.kind:=rfl
  have U':(gf w (b.bo (A.length+1))).body.getD []=b.bo (A.length+1):=rfl
  have yl:(gf w (b.bo (A.length+1))).els.getD []=[]:=rfl
  have QF:(gf w (b.bo (A.length+1))).has=af:=rfl
  simp only [Ez,zu,Sx.cR,l1,Option.bind_some,ba,aO,vG hx,kB,vH,m0,m5,m6,m7,mA,U',yl,QF,kv,Sx.cX,hc,R8]
  rcases qN hk with q | q
  ·rw [q] at hout ⊢
   simp only [show ((2:ae) == 2)=aj from rfl,show ((((2:ae).toNat:aB)) == 2)=aj from rfl,aO,ha1,U9,ha4,Option.bind_some,ba,Bool.false_eq_true,aH] at hout ⊢
   rw [show n+(1+dc b+dc k)=n+(1+dc b)+dc k by omega]
   exact xI (by omega) (ih _ (by omega))
  ·rw [q] at hout ⊢
   simp only [show ((3:ae) == 2)=af from rfl,show ((((3:ae).toNat:aB)) == 2)=af from rfl,show ((((3:ae).toNat:aB)) == 3)=aj from rfl,aO,ha2,ha5,Option.bind_some,ba,Bool.false_eq_true,aH] at hout ⊢
   rw [show n+(2+dc b+dc k)=n+(2+dc b)+dc k by omega]
   exact xI (by omega) (ih _ (by omega))
 | .alt w b l y e' k=>by
  intro A B c L j n T hd hj hlen hout kf
  obtain ⟨hx,tG,hlt⟩:=kR hd
  obtain ⟨R,A1,B1,A2,B2,A3,e1,e2,h2,e4,h4,e3,h3⟩:=YL A B w b l y e' k c
  obtain ⟨hk,kl,ke,hb,hy,oY⟩:=kf
  have q:cI w.kind=2:=by rw [hk];rfl
  simp only [dc] at hout ⊢
  have ih:=QP k A3 B ((dv b c).get c) L (j+1) (n+(2+dc b+dc y)) T (by rw [h3];exact tG) (by omega) hlen (by omega) oY
  have zn:=jx b
  have NH:=eI b (A.length+1)
  have YG:=jx y
  have YH:=eI y (A.length+1+b.size)
  have hc:=VJ (T:=T) (QP b) e2 (L:=b.bo (A.length+1)) (by rw [h2]) (by omega) (by omega) hb
  have Zt:=VJ (T:=T) (QP y) e4 (L:=y.bo (A.length+1+b.size)) (by rw [h4]) (by omega) (by omega) hy
  rw [← e3] at ih
  rw [e1]
  apply IP
  have l1:decide ((j:aB) < (L.length:aB))=aj:=by rw [aG];omega
  have ha1:cf .add (.int 1) (.int (dc b:aB))=aa (.int ((1+dc b:ax):aB)):=lI 1 _ (by omega)
  have ha2:=lI (1+dc b) (dc y) (by omega)
  have U9:=lI n (1+dc b+dc y) (by omega)
  have ha4:cf .add (.int ((n+(1+dc b+dc y):ax):aB)) (.int 1)=aa (.int ((n+(1+dc b+dc y)+1:ax):aB)):=lI _ 1 (by omega)
  generalize sR:jV w (b.bo (A.length+1)) (y.bo (A.length+1+b.size))=nd at hc Zt ih ⊢
  have mA:nd.kind=2:=by rw [← sR];exact q
  have U':nd.body.getD []=b.bo (A.length+1):=by rw [← sR];rfl
  have yl:nd.els.getD []=y.bo (A.length+1+b.size):=by rw [← sR];rfl
  have QF:nd.has=aj:=by rw [← sR];rfl
  simp only [Ez,zu,Sx.cR,l1,Option.bind_some,ba,aO,vG hx,kB,vH,m0,m5,m6,m7,mA,U',yl,QF,kv,Sx.cX,hc,Zt,show ((((2:ae).toNat:aB)) == 2)=aj from rfl,ha1,ha2,U9,ha4]
  rw [show n+(2+dc b+dc y+dc k)=n+(2+dc b+dc y)+dc k by omega,show n+(1+dc b+dc y)+1=n+(2+dc b+dc y) by omega]
  exact xI (by omega) ih
def tD (v:AV):AV:=v
theorem zz {a l:ai In} (h:a.length+l.length≤1000000):app 72 6 (a.map In.av) (.ro 6 (l.map In.av))=aa ((a ++ l).map In.av):=by
 show ((if 6=6 then aa (l.map In.av) else ah).bind fun q=>if ((a.map In.av).length+q.length) * 72≤big then aa (a.map In.av ++ q) else ah)=_
 rw [aJ rfl]
 simp only [Option.bind_some,aP]
 rw [aJ (Nat.le_trans (m:=72000000) (by omega) (by decide)),dM]
theorem Zu (l:ai In):AV.elems (.ro 6 (l.map In.av))=l.map In.av:=rfl
def LOk (mx:aB) (ts:Ts):Prop:=∀ (A B:ai Nd) (c:Ctx) (L:ai ax) (j a:ax) (T:AV) (out:ai In),L.drop j=ts.bo A.length→j≤L.length→L.length≤500000→a+out.length+dc ts≤500000→ts.ok →
 Ex (a7 (C mx) Tryz.prog 25 ek) (.ro 1 (cj L)) (a:aB) (out.map In.av) (j:aB) (.ro 9 ((A ++ (cp A.length ts c ++ B)).map mh)) T=aa (.ro 6 ((out ++ comp tD (a+out.length) ts c).map In.av))
theorem Zv {ts:Ts} (h:LOk mx ts) {N A B:ai Nd} {c:Ctx} {L:ai ax} {T:AV} (hN:N=A ++ (cp A.length ts c ++ B)) (hl:L=ts.bo A.length) (h1:L.length≤500000) (a:ax) (h2:a+dc ts≤500000) (h3:ts.ok) :
  aq (C mx) Tryz.prog 25 [.ag [.ro 9 (N.map mh),T],.ro 1 (cj L),.int (a:aB)]=aa (.ro 6 ((comp tD a ts c).map In.av)):=by
 subst hN
 apply c25
 simp only [X25]
 have:=h A B c L 0 a T [] hl (Nat.zero_le _) h1 (by simpa using h2) h3
 simp only [List.length_nil,Nat.add_zero,List.nil_append] at this
 exact this
theorem xJ {la N T:AV} {a j:ax} {out:ai AV} {r:AV} (hj:j≤1000000) (h:Ex (a7 (C mx) Tryz.prog 25 ek) la (a:aB) out ((j+1:ax):aB) N T=aa r):wO (a7 (C mx) Tryz.prog 25 ek) la (a:aB) out (j:aB) N T=aa r:=by
 apply YI
 simp only [R5,wN (Nat.le_trans hj (by decide))]
 exact h
theorem u2:((((2:ae).toNat:aB)) == 0)=af∧((((2:ae).toNat:aB)) == 1)=af∧((((2:ae).toNat:aB)) == 2)=aj:=⟨rfl,rfl,rfl⟩
theorem Va:∀ (ts:Ts),LOk mx ts
 | .nil=>by
  intro A B c L j a T out hd hj hlen hout kf
  have jz:L.length≤j:=by
   have:=bA List.length hd
   simp [Ts.bo] at this
   omega
  apply IM
  have e1:decide ((j:aB) < (L.length:aB))=af:=by rw [aQ];omega
  simp only [Ey,zu,Sx.cR,e1,Option.bind_some,ba,Bool.false_eq_true,aH,comp,List.append_nil]
 | .leaf w k=>by
  intro A B c L j a T out hd hj hlen hout kf
  obtain ⟨hx,tG,hlt⟩:=kR hd
  obtain ⟨R,A3,e1,e2,h3⟩:=R7 A B w k c
  simp only [dc] at hout
  have ih:=Va k A3 B ((ia w c).get c) L (j+1) a T (out ++ [mF tD w c]) (by rw [h3];exact tG) (by omega) hlen (by rw [au,aW];omega) kf.2
  rw [← e2,au,aW,List.append_assoc,bu] at ih
  rw [e1]
  apply IM
  have l1:decide ((j:aB) < (L.length:aB))=aj:=by rw [aG];omega
  simp only [comp]
  rw [Nat.add_assoc]
  have fin:=xJ (j:=j) (by omega) ih
  have ap:=fun i=>zz (a:=out) (l:=[i]) (by rw [aW];omega)
  have mA:(e9 w c).kind=cI w.kind:=rfl
  simp only [Ey,zu,Sx.cR,l1,Option.bind_some,ba,aO,vG hx,kB,vH,m0,m2,m3,m4,m8,mA,show (e9 w c).text=w.text from rfl,show (e9 w c).root=w.root from rfl,show (e9 w c).names=w.names from rfl,show (e9 w c).hole=lT w c from rfl,kv,Sx.cX,mI,jZ]
  generalize mF tD w c :: comp tD (a+(out.length+1)) k ((ia w c).get c)=Z at fin ⊢
  rcases NG kf.1 with q | q | q
  ·have h0:app 72 6 (out.map In.av) (.ro 6 [.ag [.u8 0,.s w.text,.b af,.cd,.u8 0,.int 0]])=_:=ap ⟨0,w.text,af,.cd,0,0⟩
   unfold mF at fin
   rw [q] at fin ⊢
   simp only [show ((0:ae) == 0)=aj from rfl,show ((((0:ae).toNat:aB)) == 0)=aj from rfl,aO,h0,Option.bind_some] at fin ⊢
   exact fin
  ·have h0:app 72 6 (out.map In.av) (.ro 6 [.ag [.u8 1,.s [],.b w.root,w.names,.u8 (lT w c),.int 0]])=_:=ap ⟨1,[],w.root,w.names,lT w c,0⟩
   unfold mF at fin
   rw [q] at fin ⊢
   simp only [show ((1:ae) == 0)=af from rfl,show ((1:ae) == 1)=aj from rfl,show ((((1:ae).toNat:aB)) == 0)=af from rfl,show ((((1:ae).toNat:aB)) == 1)=aj from rfl,Bool.false_eq_true,aH,aO,h0,Option.bind_some] at fin ⊢
   exact fin
  ·have h0:app 72 6 (out.map In.av) (.ro 6 [.ag [.u8 6,.s [],.b af,.cd,.u8 0,.int 0]])=_:=ap ⟨6,[],af,.cd,0,0⟩
   unfold mF at fin
   rw [q] at fin ⊢
   simp only [show ((4:ae) == 0)=af from rfl,show ((4:ae) == 1)=af from rfl,show ((((4:ae).toNat:aB)) == 0)=af from rfl,show ((((4:ae).toNat:aB)) == 1)=af from rfl,show ((((4:ae).toNat:aB)) == 2)=af from rfl,show ((((4:ae).toNat:aB)) == 3)=af from rfl,Bool.false_eq_true,aH,aO,h0,Option.bind_some] at fin ⊢
   exact fin
 | .blk w b e' k=>by
  intro A B c L j a T out hd hj hlen hout kf
  obtain ⟨hx,tG,hlt⟩:=kR hd
  obtain ⟨R,A1,B1,A3,e1,e2,h2,e3,h3⟩:=YK A B w b e' k c
  obtain ⟨hk,ke,hb,oY⟩:=kf
  simp only [dc] at hout
  have hif:1≤(if (cI w.kind == 2)=aj then 1 else 2):=by split <;> decide
  have ih:=fun (o:ai In) ho=>Va k A3 B c L (j+1) a T o (by rw [h3];exact tG) (by omega) hlen ho oY
  have zn:=jx b
  have NH:=eI b (A.length+1)
  have hc:=VJ (T:=T) (QP (mx:=mx) b) e2 (L:=b.bo (A.length+1)) (by rw [h2]) (by omega) (by omega) hb
  have hl:=Zv (T:=T) (Va b) e2 (L:=b.bo (A.length+1)) (by rw [h2]) (by omega) (a+out.length+1) (by omega) hb
  rw [← e3] at ih
  rw [e1]
  apply IM
  have l1:decide ((j:aB) < (L.length:aB))=aj:=by rw [aG];omega
  have hw:eE ((a:aB)+((out.map In.av).length:aB))=((a+out.length:ax):aB):=by rw [aP];exact wNN (by omega)
  have QL:=wN (a:=a+out.length) (by omega)
  have ha1:=lI (a+out.length+1) (dc b) (by omega)
  have ha2:=lI (a+out.length) (dc b) (by omega)
  have U9:cf .add (.int ((a+out.length+dc b:ax):aB)) (.int 2)=aa (.int ((a+out.length+dc b+2:ax):aB)):=lI _ 2 (by omega)
  have mA:(gf w (b.bo (A.length+1))).kind=cI w.kind:=rfl
  have U':(gf w (b.bo (A.length+1))).body.getD []=b.bo (A.length+1):=rfl
  have yl:(gf w (b.bo (A.length+1))).els.getD []=[]:=rfl
  have QF:(gf w (b.bo (A.length+1))).has=af:=rfl
  have hrt:(gf w (b.bo (A.length+1))).root=w.root:=rfl
  have ua:(gf w (b.bo (A.length+1))).names=w.names:=rfl
  generalize gf w (b.bo (A.length+1))=nd at *
  simp only [Ey,zu,Sx.cR,l1,Option.bind_some,ba,aO,vG hx,kB,vH,m0,m3,m4,m5,m6,m7,mA,U',yl,QF,hrt,ua,kv,Sx.cX,hc,R8,hw,QL,ha1,ha2,U9,kK,hl,Zu]
  rcases qN hk with q | q
  ·rw [q] at hout ⊢
   simp only [show ((2:ae) == 2)=aj from rfl,aO] at hout
   obtain ⟨I,hI⟩:∃ i:In,i=⟨2,[],w.root,w.names,0,a+out.length+1+dc b⟩:=⟨_,rfl⟩
   have h1:app 72 6 (out.map In.av) (.ro 6 [.ag [.u8 2,.s [],.b w.root,w.names,.u8 0,.int ((a+out.length+1+dc b:ax):aB)]])=aa ((out ++ [I]).map In.av):=by
    rw [hI];exact zz (a:=out) (l:=[⟨2,[],w.root,w.names,0,a+out.length+1+dc b⟩]) (by rw [aW];omega)
   have hL:(out ++ [I] ++ comp tD (a+out.length+1) b c).length=out.length+1+dc b:=by rw [au,au,aW,cU]
   have h4:=zz (a:=out ++ [I]) (l:=comp tD (a+out.length+1) b c) (by rw [← au,hL];omega)
   have ih:=ih (out ++ [I] ++ comp tD (a+out.length+1) b c) (by rw [hL];omega)
   rw [hL] at ih
   have fin:=xJ (j:=j) (by omega) ih
   simp only [u2,Bool.false_eq_true,aH,aO]
   apply NJ
   simp only [GA,kK,h1,Option.bind_some,QL,hl,Zu,h4,ba,Bool.false_eq_true,aH]
   rw [fin]
   simp only [comp,q,show ((2:ae) == 2)=aj from rfl,aO,List.append_assoc,bu,List.cons_append,List.nil_append,tD,hI]
   rw [show a+(out.length+1+dc b)=a+out.length+1+dc b by omega]
  ·rw [q] at hout ⊢
   simp only [show ((3:ae) == 2)=af from rfl,Bool.false_eq_true,aH] at hout
   obtain ⟨I,hI⟩:∃ i:In,i=⟨4,[],w.root,w.names,0,a+out.length+dc b+2⟩:=⟨_,rfl⟩
   obtain ⟨J,hJ⟩:∃ i:In,i=⟨5,[],af,.cd,0,a+out.length+1⟩:=⟨_,rfl⟩
   have h1:app 72 6 (out.map In.av) (.ro 6 [.ag [.u8 4,.s [],.b w.root,w.names,.u8 0,.int ((a+out.length+dc b+2:ax):aB)]])=aa ((out ++ [I]).map In.av):=by
    rw [hI];exact zz (a:=out) (l:=[⟨4,[],w.root,w.names,0,a+out.length+dc b+2⟩]) (by rw [aW];omega)
   have hL:(out ++ [I] ++ comp tD (a+out.length+1) b c).length=out.length+1+dc b:=by rw [au,au,aW,cU]
   have h4:=zz (a:=out ++ [I]) (l:=comp tD (a+out.length+1) b c) (by rw [← au,hL];omega)
   have h5:app 72 6 ((out ++ [I] ++ comp tD (a+out.length+1) b c).map In.av) (.ro 6 [.ag [.u8 5,.s [],.b af,.cd,.u8 0,.int ((a+out.length+1:ax):aB)]])=aa ((out ++ [I] ++ comp tD (a+out.length+1) b c ++ [J]).map In.av):=by
    rw [hJ];exact zz (l:=[⟨5,[],af,.cd,0,a+out.length+1⟩]) (by rw [hL,aW];omega)
   have ih:=ih (out ++ [I] ++ comp tD (a+out.length+1) b c ++ [J]) (by rw [au,hL,aW];omega)
   rw [au,hL,aW] at ih
   have fin:=xJ (j:=j) (by omega) ih
   simp only [show ((((3:ae).toNat:aB)) == 0)=af from rfl,show ((((3:ae).toNat:aB)) == 1)=af from rfl,show ((((3:ae).toNat:aB)) == 2)=af from rfl,show ((((3:ae).toNat:aB)) == 3)=aj from rfl,Bool.false_eq_true,aH,aO,h1,h4,h5,Option.bind_some]
   rw [fin]
   simp only [comp,q,show ((3:ae) == 2)=af from rfl,Bool.false_eq_true,aH,List.append_assoc,bu,List.cons_append,List.nil_append,tD,hI,hJ]
   rw [show a+(out.length+1+dc b+1)=a+out.length+2+dc b by omega,show a+out.length+dc b+2=a+out.length+2+dc b by omega]
 | .alt w b l y e' k=>by
  intro A B c L j a T out hd hj hlen hout kf
  obtain ⟨hx,tG,hlt⟩:=kR hd
  obtain ⟨R,A1,B1,A2,B2,A3,e1,e2,h2,e4,h4,e3,h3⟩:=YL A B w b l y e' k c
  obtain ⟨hk,kl,ke,hb,hy,oY⟩:=kf
  have q:cI w.kind=2:=by rw [hk];rfl
  simp only [dc] at hout
  have ih:=fun (o:ai In) ho=>Va k A3 B ((dv b c).get c) L (j+1) a T o (by rw [h3];exact tG) (by omega) hlen ho oY
  have zn:=jx b
  have NH:=eI b (A.length+1)
  have YG:=jx y
  have YH:=eI y (A.length+1+b.size)
  have hc:=VJ (T:=T) (QP (mx:=mx) b) e2 (L:=b.bo (A.length+1)) (by rw [h2]) (by omega) (by omega) hb
  have Zt:=VJ (T:=T) (QP (mx:=mx) y) e4 (L:=y.bo (A.length+1+b.size)) (by rw [h4]) (by omega) (by omega) hy
  have hl:=Zv (T:=T) (Va b) e2 (L:=b.bo (A.length+1)) (by rw [h2]) (by omega) (a+out.length+1) (by omega) hb
  have ZI:=Zv (T:=T) (Va y) e4 (L:=y.bo (A.length+1+b.size)) (by rw [h4]) (by omega) (a+out.length+1+dc b+1) (by omega) hy
  rw [← e3] at ih
  rw [e1]
  apply IM
  have l1:decide ((j:aB) < (L.length:aB))=aj:=by rw [aG];omega
  have hw:eE ((a:aB)+((out.map In.av).length:aB))=((a+out.length:ax):aB):=by rw [aP];exact wNN (by omega)
  have QL:=wN (a:=a+out.length) (by omega)
  have ha1:=lI (a+out.length+1) (dc b) (by omega)
  have ha2:cf .add (.int ((a+out.length+1+dc b:ax):aB)) (.int 1)=aa (.int ((a+out.length+1+dc b+1:ax):aB)):=lI _ 1 (by omega)
  have U9:=lI (a+out.length+1+dc b+1) (dc y) (by omega)
  have U':(jV w (b.bo (A.length+1)) (y.bo (A.length+1+b.size))).body.getD []=b.bo (A.length+1):=rfl
  have yl:(jV w (b.bo (A.length+1)) (y.bo (A.length+1+b.size))).els.getD []=y.bo (A.length+1+b.size):=rfl
  have QF:(jV w (b.bo (A.length+1)) (y.bo (A.length+1+b.size))).has=aj:=rfl
  have hrt:(jV w (b.bo (A.length+1)) (y.bo (A.length+1+b.size))).root=w.root:=rfl
  have ua:(jV w (b.bo (A.length+1)) (y.bo (A.length+1+b.size))).names=w.names:=rfl
  have mA:(jV w (b.bo (A.length+1)) (y.bo (A.length+1+b.size))).kind=2:=q
  generalize jV w (b.bo (A.length+1)) (y.bo (A.length+1+b.size))=nd at *
  simp only [Ey,zu,Sx.cR,l1,Option.bind_some,ba,aO,vG hx,kB,vH,m0,m3,m4,m5,m6,m7,mA,U',yl,QF,hrt,ua,kv,Sx.cX,hc,Zt,hw,QL,ha1,ha2,u2,Bool.false_eq_true,aH]
  apply NJ
  obtain ⟨I,hI⟩:∃ i:In,i=⟨2,[],w.root,w.names,0,a+out.length+1+dc b+1⟩:=⟨_,rfl⟩
  obtain ⟨J,hJ⟩:∃ i:In,i=⟨3,[],af,.cd,0,a+out.length+1+dc b+1+dc y⟩:=⟨_,rfl⟩
  have h1:app 72 6 (out.map In.av) (.ro 6 [.ag [.u8 2,.s [],.b w.root,w.names,.u8 0,.int ((a+out.length+1+dc b+1:ax):aB)]])=aa ((out ++ [I]).map In.av):=by
   rw [hI];exact zz (a:=out) (l:=[⟨2,[],w.root,w.names,0,a+out.length+1+dc b+1⟩]) (by rw [aW];omega)
  have hL:(out ++ [I] ++ comp tD (a+out.length+1) b c).length=out.length+1+dc b:=by rw [au,au,aW,cU]
  have hL2:(out ++ [I] ++ comp tD (a+out.length+1) b c ++ [J]).length=out.length+1+dc b+1:=by rw [au,hL,aW]
  have h4:=zz (a:=out ++ [I]) (l:=comp tD (a+out.length+1) b c) (by rw [← au,hL];omega)
  have h5:app 72 6 ((out ++ [I] ++ comp tD (a+out.length+1) b c).map In.av) (.ro 6 [.ag [.u8 3,.s [],.b af,.cd,.u8 0,.int ((a+out.length+1+dc b+1+dc y:ax):aB)]])=aa ((out ++ [I] ++ comp tD (a+out.length+1) b c ++ [J]).map In.av):=by
   rw [hJ];exact zz (l:=[⟨3,[],af,.cd,0,a+out.length+1+dc b+1+dc y⟩]) (by rw [hL,aW];omega)
  have h6:=zz (a:=out ++ [I] ++ comp tD (a+out.length+1) b c ++ [J]) (l:=comp tD (a+out.length+1+dc b+1) y c) (by rw [hL2,cU];omega)
  have ih:=ih (out ++ [I] ++ comp tD (a+out.length+1) b c ++ [J] ++ comp tD (a+out.length+1+dc b+1) y c) (by rw [au,hL2,cU];omega)
  rw [au,hL2,cU] at ih
  have fin:=xJ (j:=j) (by omega) ih
  simp only [GA,kK,h1,Option.bind_some,QL,hl,Zu,h4,ba,aO,U9,h5,ZI,h6]
  rw [fin]
  simp only [comp,List.append_assoc,bu,List.cons_append,List.nil_append,tD,hI,hJ]
  rw [show a+(out.length+1+dc b+1+dc y)=a+out.length+2+dc b+dc y by omega,show a+out.length+1+dc b+1+dc y=a+out.length+2+dc b+dc y by omega,show a+out.length+1+dc b+1=a+out.length+2+dc b by omega]
end wL
namespace wL
open Go Go.Proofs Sx
variable {mx:aB}
noncomputable def YM:Code:=(Tryz.f5.body).getD .skip
noncomputable def X5 (a:ai ae) (c:bj) (r:RunT):ak AV :=
 (c 12 []).bind fun b=>(unop .not b).bind fun d=>(bt d aj (aa (.b aj)) (.b af)).bind fun e=>a8 e
 (aa (.b af))
 ((c 13 [.s a]).bind fun f=>(cA f 0).bind fun g=>(cA f 1).bind fun i=>(cA f 2).bind fun j=>(c 14 [.s a]).bind fun k=>(cA k 0).bind fun l=>(cA k 1).bind fun m=>(cA k 2).bind fun n=>(cf .eql j n).bind fun o=>(bt o aj ((cf .eql i m).bind fun p=>aa p) (.b af)).bind fun q=>(bt q aj ((c 15 [g,l]).bind fun s=>aa s) (.b af)).bind fun t=>aa t)
theorem c5 a {r:AV} (h:X5 a (aq (C mx) Tryz.prog) (a7 (C mx) Tryz.prog 5 Tryz.f5)=aa r):aq (C mx) Tryz.prog 5 [.s a]=aa r :=
 bc (fun _ _=>by kernel_rfl) h
noncomputable def X7 (a:ai ae) (c:bj) (r:RunT):ak AV :=
 (c 10 [.s a,.ag [.u8 0,.u8 0,.b af,.u8 0,.u8 0,.u8 0,.u8 0,.b af,.u8 0,.s []]]).bind fun b=>(cA b 0).bind fun d=>(cA b 1).bind fun e=>(cA b 2).bind fun f=>(cA b 3).bind fun g=>(AV.cm 2 d).bind fun i=>(AV.cm 10 e).bind fun j=>(cf .eql g (.int 0)).bind fun k=>(bt k aj ((nh [.i,.i,.b,.i,.i,.i,.i,.b,.i,.s] .neq (.ag [gt j 0,gt j 1,gt j 2,gt j 3,gt j 4,gt j 5,gt j 6,gt j 7,gt j 8,gt j 9]) (.ag [.u8 0,.u8 0,.b af,.u8 0,.u8 0,.u8 0,.u8 0,.b af,.u8 0,.s []])).bind fun l=>aa l) (.b af)).bind fun m=>a8 m
 (aa (.tu [.ag [.cd,.cd],.int ((a.length:aB)),.int 8]))
 (aa (.tu [.ag [gt i 0,gt i 1],f,g]))
theorem c7 a {r:AV} (h:X7 a (aq (C mx) Tryz.prog) (a7 (C mx) Tryz.prog 7 Tryz.f7)=aa r):aq (C mx) Tryz.prog 7 [.s a]=aa r :=
 bc (fun _ _=>by kernel_rfl) h
noncomputable def X8 (a:ai ae) (c:bj) (r:RunT):ak AV :=
 (c 11 [.s a,.ag [.u8 0,.u8 0,.b af,.u8 0,.u8 0,.u8 0,.u8 0,.b af,.u8 0,.s []]]).bind fun b=>(cA b 0).bind fun d=>(cA b 1).bind fun e=>(cA b 2).bind fun f=>(cA b 3).bind fun g=>(AV.cm 2 d).bind fun i=>(AV.cm 10 e).bind fun j=>(cf .eql g (.int 0)).bind fun k=>(bt k aj ((nh [.i,.i,.b,.i,.i,.i,.i,.b,.i,.s] .neq (.ag [gt j 0,gt j 1,gt j 2,gt j 3,gt j 4,gt j 5,gt j 6,gt j 7,gt j 8,gt j 9]) (.ag [.u8 0,.u8 0,.b af,.u8 0,.u8 0,.u8 0,.u8 0,.b af,.u8 0,.s []])).bind fun l=>aa l) (.b af)).bind fun m=>a8 m
 (aa (.tu [.ag [.cd,.cd],.int ((a.length:aB)),.int 8]))
 (aa (.tu [.ag [gt i 0,gt i 1],f,g]))
theorem c8 a {r:AV} (h:X8 a (aq (C mx) Tryz.prog) (a7 (C mx) Tryz.prog 8 Tryz.f8)=aa r):aq (C mx) Tryz.prog 8 [.s a]=aa r :=
 bc (fun _ _=>by kernel_rfl) h
noncomputable def X12  (c:bj) (r:RunT):ak AV :=
 (c 13 [.s [123,123,120,125,125]]).bind fun a=>(cA a 0).bind fun b=>(cA a 1).bind fun d=>(cA a 2).bind fun e=>(cf .eql e (.int 0)).bind fun f=>(bt f aj ((kH b).bind fun g=>(cf .eql g (.int 2)).bind fun i=>aa i) (.b af)).bind fun j=>(bt j aj ((idx 6 b (.int 0)).bind fun k=>(cf .eql (AV.cell k 0) (.u8 1)).bind fun l=>aa l) (.b af)).bind fun m=>(bt m aj ((idx 6 b (.int 1)).bind fun n=>(cf .eql (AV.cell n 0) (.u8 7)).bind fun o=>aa o) (.b af)).bind fun p=>aa p
theorem c12 {r:AV} (h:X12  (aq (C mx) Tryz.prog) (a7 (C mx) Tryz.prog 12 Tryz.f12)=aa r):aq (C mx) Tryz.prog 12 []=aa r :=
 bc (fun _ _=>by kernel_rfl) h
noncomputable def X13 (a:ai ae) (c:bj) (r:RunT):ak AV :=
 (c 7 [.s a]).bind fun b=>(cA b 0).bind fun d=>(cA b 1).bind fun e=>(cA b 2).bind fun f=>(AV.cm 2 d).bind fun g=>(cf .neq f (.int 0)).bind fun i=>a8 i
 (aa (.tu [.cd,e,f]))
 ((c 23 [.un,gt g 1,.ag [gt g 0,gt g 1,.ro 6 []]]).bind fun j=>(cA j 0).bind fun k=>(cA j 1).bind fun l=>(AV.cm 3 l).bind fun m=>(c 24 [.un,.ag [.u8 7,.s [],.b af,.cd,.u8 0,.int 0],.ag [gt m 0,gt m 1,.ro 6 (AV.elems (gt m 2))]]).bind fun n=>(cA n 0).bind fun o=>(cA n 1).bind fun p=>(AV.cm 3 p).bind fun q=>aa (.tu [.ro 6 (AV.elems (gt q 2)),.int 0,.int 0]))
theorem c13 a {r:AV} (h:X13 a (aq (C mx) Tryz.prog) (a7 (C mx) Tryz.prog 13 Tryz.f13)=aa r):aq (C mx) Tryz.prog 13 [.s a]=aa r :=
 bc (fun _ _=>by kernel_rfl) h
noncomputable def X14 (a:ai ae) (c:bj) (r:RunT):ak AV :=
 (c 8 [.s a]).bind fun b=>(cA b 0).bind fun d=>(cA b 1).bind fun e=>(cA b 2).bind fun f=>(AV.cm 2 d).bind fun g=>(cf .neq f (.int 0)).bind fun i=>a8 i
 (aa (.tu [.cd,e,f]))
 ((c 25 [.ag [gt g 0,gt g 1],gt g 1,.int 0]).bind fun j=>(app 72 6 (AV.elems j) (.ro 6 (([.ag [.u8 7,.s [],.b af,.cd,.u8 0,.int 0]]:ai AV)))).bind fun k=>aa (.tu [.ro 6 k,.int 0,.int 0]))
theorem c14 a {r:AV} (h:X14 a (aq (C mx) Tryz.prog) (a7 (C mx) Tryz.prog 14 Tryz.f14)=aa r):aq (C mx) Tryz.prog 14 [.s a]=aa r :=
 bc (fun _ _=>by kernel_rfl) h
noncomputable def IQ (run:RunT) (a b:AV) (d:aB):ak AV :=
 run ((eV 4 ((Tryz.f15.body).getD .skip) []).getD []) (St.fj [(0,.cell (.val a)),(1,.cell (.val b)),(5,.cell (.val (.int d)))] [])
noncomputable def X15 (a b:AV) (c:bj) (r:RunT):ak AV :=
 (kH a).bind fun d=>(kH b).bind fun e=>(cf .neq d e).bind fun f=>a8 f
 (aa (.b af))
 (IQ r a b 0)
theorem c15 (a b) {r:AV} (h:X15 a b (aq (C mx) Tryz.prog) (a7 (C mx) Tryz.prog 15 Tryz.f15)=aa r):aq (C mx) Tryz.prog 15 [a,b]=aa r :=
 bc (fun _ _=>by kernel_rfl) h
noncomputable def IU (a b:AV) (d:aB) (c:bj) (r:RunT):ak AV :=
 (kH a).bind fun e=>(cf .lss (.int d) e).bind fun f=>a8 f
 ((idx 6 a (.int d)).bind fun g=>(idx 6 b (.int d)).bind fun i=>(cf .neq (AV.cell g 0) (AV.cell i 0)).bind fun j=>(bt j af ((idx 6 a (.int d)).bind fun k=>(idx 6 b (.int d)).bind fun l=>(gR .neq (AV.cell k 1) (AV.cell l 1)).bind fun m=>aa m) (.b aj)).bind fun n=>(bt n af ((idx 6 a (.int d)).bind fun o=>(idx 6 b (.int d)).bind fun p=>(cf .neq (AV.cell o 4) (AV.cell p 4)).bind fun q=>aa q) (.b aj)).bind fun s=>(bt s af ((idx 6 a (.int d)).bind fun t=>(idx 6 b (.int d)).bind fun u=>(cf .neq (AV.cell t 5) (AV.cell u 5)).bind fun w=>aa w) (.b aj)).bind fun x=>(bt x af ((idx 6 a (.int d)).bind fun y=>(idx 6 b (.int d)).bind fun z=>(c 26 [.ag [AV.cell y 2,AV.cell y 3],.ag [AV.cell z 2,AV.cell z 3]]).bind fun A=>(unop .not A).bind fun B=>aa B) (.b aj)).bind fun D=>a8 D
 (aa (.b af))
 (IQ r a b (eE (d+1))))
 (aa (.b aj))
theorem NL (a b d) {r:AV} (h:IU a b d (aq (C mx) Tryz.prog) (a7 (C mx) Tryz.prog 15 Tryz.f15)=aa r):IQ (a7 (C mx) Tryz.prog 15 Tryz.f15) a b d=aa r :=
 bh (fun _ _=>by kernel_rfl) h
noncomputable def uD (run:RunT) (a:aB) (b:ay) (d:AV) (e:ay) (f:AV):ak AV :=
 run ((eV 4 ((fD.body).getD .skip) []).getD []) (St.fj [(2,.cell (.ptr 2 0)),(3,.cell (.ptr 3 0)),(5,.cell (.val (.int a)))] [(2,aa [.val (.b b),.val (d)]),(3,aa [.val (.b e),.val (f)])])
noncomputable def VH (a:ay) (b:AV) (d:ay) (e:AV) (c:bj) (r:RunT):ak AV :=
 (bt (.b (a != d)) af ((kH b).bind fun f=>(kH e).bind fun g=>(cf .neq f g).bind fun i=>aa i) (.b aj)).bind fun j=>a8 j
 (aa (.b af))
 (uD r 0 a b d e)
theorem c26 (a b d e) {r:AV} (h:VH a b d e (aq (C mx) Tryz.prog) (a7 (C mx) Tryz.prog 26 fD)=aa r):aq (C mx) Tryz.prog 26 [.ag [.b a,b],.ag [.b d,e]]=aa r :=
 bc (fun _ _=>by kernel_rfl) h
noncomputable def wJ (a:aB) (b:ay) (d:AV) (e:ay) (f:AV) (c:bj) (r:RunT):ak AV :=
 (kH d).bind fun g=>(cf .lss (.int a) g).bind fun i=>a8 i
 ((idx 1 d (.int a)).bind fun j=>(idx 1 f (.int a)).bind fun k=>(gR .neq (AV.cell j 0) (AV.cell k 0)).bind fun l=>a8 l
 (aa (.b af))
 (uD r (eE (a+1)) b d e f))
 (aa (.b aj))
theorem AL (a b d e f) {r:AV} (h:wJ a b d e f (aq (C mx) Tryz.prog) (a7 (C mx) Tryz.prog 26 fD)=aa r):uD (a7 (C mx) Tryz.prog 26 fD) a b d e f=aa r :=
 bh (fun _ _=>by kernel_rfl) h
end wL
namespace wL
open Go Go.Proofs Sx R3 lp M3
variable {mx:aB}
theorem frT (l:ai ae) (c:Ctx):(∃ a e:aB,e≠0∧qL l c=.tu [j8,(ea 0).bw,.int a,.int e]∧pE l c=.tu [j8,(ea 0).bw,.int a,.int e]) ∨
  ∃ (ts:Ts) (d:Ctx),ts.ok∧ts.size≤65536∧NF ts∧qL l c=.tu [.ag [.ro 9 ((cp 0 ts c).map Nd.av),.ro 1 (cj (ts.bo 0))],d.bw,.int 0,.int 0]∧pE l c=.tu [.ag [.ro 9 ((cp 0 ts c).map mh),.ro 1 (cj (ts.bo 0))],d.bw,.int 0,.int 0]:=by
 unfold qL pE
 by_cases h1:(!form c || c.st == 20)=aj
 ·rw [aJ h1,aJ h1]
  exact .inl ⟨0,1,by decide,rfl,rfl⟩
 ·rw [aI h1,aI h1]
  cases hp:j6 l with
  | bad a e=>exact .inl ⟨a,e,by have:=tq hp;omega,rfl,rfl⟩
  | ok nodes top =>
   obtain ⟨ts,g0,rfl,rfl,g1,g2,g3,g4,hn⟩:=IJ hp
   have Kr:(ts.arr 0).length=ts.size:=Ts.lq ts 0
   obtain ⟨k1,k2⟩:=mf ts c [] [] 0 (2 * (ts.arr 0).length+1) g0 (by rw [Kr];exact Nat.le_refl _)
   simp only [List.length_nil,List.nil_append,List.append_nil] at k1 k2
   dsimp only
   cases hgo:dv ts c with
   | bad a e =>
    obtain ⟨h2,c',N',h3⟩:=k2 a e hgo
    rw [h3]
    simp only
    rw [aJ (by simpa using h2),aJ (by simpa using h2)]
    exact .inl ⟨a,e,h2,rfl,rfl⟩
   | ok d =>
    rw [k1 d hgo]
    exact .inr ⟨ts,d,g0,g3,hn,rfl,rfl⟩
theorem Zw (l:ai ae) {c:Ctx} (h:rK c):aq (C mx) Tryz.prog 10 [.s l,c.bw]=aa (qL l c):=o7 (G:=Yl) rfl rfl (by show (if c.nm.length < _ then aa _ else ah)=_;exact aJ h)
theorem s11 (l:ai ae) {c:Ctx} (h:rK c):aq (C mx) Tryz.prog 11 [.s l,c.bw]=aa (pE l c):=o7 (G:=YA) rfl rfl (by show (if c.nm.length < _ then aa _ else ah)=_;exact aJ h)
theorem q0 (a b c d:AV):cA (.tu [a,b,c,d]) 0=aa a:=rfl
theorem q1 (a b c d:AV):cA (.tu [a,b,c,d]) 1=aa b:=rfl
theorem q2 (a b c d:AV):cA (.tu [a,b,c,d]) 2=aa c:=rfl
theorem q3 (a b c d:AV):cA (.tu [a,b,c,d]) 3=aa d:=rfl
theorem p0 (a b c:AV):cA (.tu [a,b,c]) 0=aa a:=rfl
theorem p1 (a b c:AV):cA (.tu [a,b,c]) 1=aa b:=rfl
theorem p2 (a b c:AV):cA (.tu [a,b,c]) 2=aa c:=rfl
theorem qT (a b:AV):AV.cm 2 (.ag [a,b])=aa [a,b]:=rfl
theorem g0 (a b:AV):gt [a,b] 0=a:=rfl
theorem g1 (a b:AV):gt [a,b] 1=b:=rfl
theorem Ql:rK (ea 0):=by show (0:ax) < _;decide
theorem tE:AV.ag [.u8 0,.u8 0,.b af,.u8 0,.u8 0,.u8 0,.u8 0,.b af,.u8 0,.s []]=(ea 0).bw:=rfl
theorem z0:Ctx.bw ⟨0,0,af,0,0,0,0,af,0,[]⟩=(ea 0).bw:=rfl
theorem tmT (l:ai ae):(∃ a e:aB,e≠0∧aq (C mx) Tryz.prog 7 [.s l]=aa (.tu [.ag [.cd,.cd],.int a,.int e])∧aq (C mx) Tryz.prog 8 [.s l]=aa (.tu [.ag [.cd,.cd],.int a,.int e])) ∨
  ∃ (ts:Ts),ts.ok∧ts.size≤65536∧NF ts∧aq (C mx) Tryz.prog 7 [.s l]=aa (.tu [.ag [.ro 9 ((cp 0 ts (ea 0)).map Nd.av),.ro 1 (cj (ts.bo 0))],.int 0,.int 0])∧aq (C mx) Tryz.prog 8 [.s l]=aa (.tu [.ag [.ro 9 ((cp 0 ts (ea 0)).map mh),.ro 1 (cj (ts.bo 0))],.int 0,.int 0]):=by
 rcases frT l (ea 0) with ⟨a,e,he,h1,h2⟩ | ⟨ts,d,k1,k2,k3,h1,h2⟩
 ·have z:(e == 0)=af:=by simpa using he
  refine .inl ⟨a,e,he,?_,?_⟩
  ·apply c7
   simp only [X7,tE,Zw l Ql,h1,j8,Option.bind_some,q0,q1,q2,q3,qT,bm,Sx.cX,z,lL,ba,Bool.false_eq_true,aH,bf,bz]
  ·apply c8
   simp only [X8,tE,s11 l Ql,h2,j8,Option.bind_some,q0,q1,q2,q3,qT,bm,Sx.cX,z,lL,ba,Bool.false_eq_true,aH,bf,bz]
 ·by_cases hd:d=ea 0
  ·refine .inr ⟨ts,k1,k2,k3,?_,?_⟩
   ·apply c7
    simp only [X7,tE,Zw l Ql,h1,Option.bind_some,q0,q1,q2,q3,qT,bm,Sx.cX,bG,zT,cg,z0,cq,nY,hd,decide_true,df,nV,ba,Bool.false_eq_true,aH,bf,bz]
   ·apply c8
    simp only [X8,tE,s11 l Ql,h2,Option.bind_some,q0,q1,q2,q3,qT,bm,Sx.cX,bG,zT,cg,z0,cq,nY,hd,decide_true,df,nV,ba,Bool.false_eq_true,aH,bf,bz]
  ·refine .inl ⟨(l.length:aB),8,by decide,?_,?_⟩
   ·apply c7
    simp only [X7,tE,Zw l Ql,h1,Option.bind_some,q0,q1,q2,q3,qT,bm,Sx.cX,bG,zT,cg,z0,cq,nY,hd,decide_false,fE,nV,ba,aO]
   ·apply c8
    simp only [X8,tE,s11 l Ql,h2,Option.bind_some,q0,q1,q2,q3,qT,bm,Sx.cX,bG,zT,cg,z0,cq,nY,hd,decide_false,fE,nV,ba,aO]
def AZ:In:=⟨7,[],af,.cd,0,0⟩
theorem NM {l:ai ae} {ts:Ts} (ho:ts.ok) (hz:ts.size≤65536) (hn:NF ts) (h:aq (C mx) Tryz.prog 7 [.s l]=aa (.tu [.ag [.ro 9 ((cp 0 ts (ea 0)).map Nd.av),.ro 1 (cj (ts.bo 0))],.int 0,.int 0])) :
  aq (C mx) Tryz.prog 13 [.s l]=aa (.tu [.ro 6 ((comp uG 0 ts (ea 0) ++ [AZ]).map In.av),.int 0,.int 0]):=by
 apply c13
 have g3:=lX ts
 have g5:=eI ts 0
 have Ob:=uH (mx:=mx) (T:=.ro 1 (cj (ts.bo 0))) (U7 ts) (N:=cp 0 ts (ea 0)) (A:=[]) (B:=[]) (c:=ea 0) (l:=ts.bo 0) (out:=[]) (by simp) rfl (by omega) (by simp;omega) ho hn
 have Ob:aq (C mx) Tryz.prog 23 [.un,.ro 1 (cj (ts.bo 0)),.ag [.ro 9 ((cp 0 ts (ea 0)).map Nd.av),.ro 1 (cj (ts.bo 0)),.ro 6 []]]=_:=Ob
 have AW:aq (C mx) Tryz.prog 24 [.un,.ag [.u8 7,.s [],.b af,.cd,.u8 0,.int 0],.ag [.ro 9 ((cp 0 ts (ea 0)).map Nd.av),.ro 1 (cj (ts.bo 0)),.ro 6 ((comp uG 0 ts (ea 0)).map In.av)]]=_:=Zr (mx:=mx) AZ (.ro 9 ((cp 0 ts (ea 0)).map Nd.av)) (.ro 1 (cj (ts.bo 0))) (comp uG 0 ts (ea 0)) (by rw [cU];omega)
 simp only [List.nil_append,List.length_nil] at Ob
 simp only [X13,h,Option.bind_some,p0,p1,p2,qT,g0,g1,Sx.j3,cz,ba,Bool.false_eq_true,aH,Ob,RY,RZ,wM,R1,R2,R4,qR,AW]
theorem Vb {l:ai ae} {ts:Ts} (ho:ts.ok) (hz:ts.size≤65536) (h:aq (C mx) Tryz.prog 8 [.s l]=aa (.tu [.ag [.ro 9 ((cp 0 ts (ea 0)).map mh),.ro 1 (cj (ts.bo 0))],.int 0,.int 0])) :
  aq (C mx) Tryz.prog 14 [.s l]=aa (.tu [.ro 6 ((comp tD 0 ts (ea 0) ++ [AZ]).map In.av),.int 0,.int 0]):=by
 apply c14
 have g3:=lX ts
 have g5:=eI ts 0
 have h25:aq (C mx) Tryz.prog 25 [.ag [.ro 9 ((cp 0 ts (ea 0)).map mh),.ro 1 (cj (ts.bo 0))],.ro 1 (cj (ts.bo 0)),.int 0]=_:=Zv (mx:=mx) (T:=.ro 1 (cj (ts.bo 0))) (Va ts) (N:=cp 0 ts (ea 0)) (A:=[]) (B:=[]) (c:=ea 0) (L:=ts.bo 0) (by simp) rfl (by omega) 0 (by omega) ho
 have ha:app 72 6 ((comp tD 0 ts (ea 0)).map In.av) (.ro 6 [.ag [.u8 7,.s [],.b af,.cd,.u8 0,.int 0]])=_:=zz (a:=comp tD 0 ts (ea 0)) (l:=[AZ]) (by rw [cU,aW];omega)
 simp only [X14,h,Option.bind_some,p0,p1,p2,qT,g0,g1,Sx.j3,cz,ba,Bool.false_eq_true,aH,h25,Zu,ha]
def Zx (u v:AV):Prop:=∃ l:ai (ai ae),l.length≤1000000∧(u=.ro 1 (l.map .s)∨u=.cd∧l=[])∧(v=.ro 1 (l.map .s)∨v=.cd∧l=[])
def Tw (i j:In):Prop:=i.op=j.op∧i.text=j.text∧i.root=j.root∧i.hole=j.hole∧i.to'=j.to'∧Zx i.names j.names
def Ka:ai In→ai In→Prop
 | [],[]=>True
 | i :: r,j :: s=>Tw i j∧Ka r s
 | _,_=>False
theorem Ka.app:∀ {a b c d:ai In},Ka a b→Ka c d→Ka (a ++ c) (b ++ d)
 | [],[],_,_,_,h=>h
 | _ :: _,_ :: _,_,_,h1,h2=>⟨h1.1,Ka.app h1.2 h2⟩
 | [],_ :: _,_,_,h,_=>h.elim
 | _ :: _,[],_,_,h,_=>h.elim
theorem abx:Zx .cd .cd:=⟨[],by decide,.inr ⟨rfl,rfl⟩,.inr ⟨rfl,rfl⟩⟩
theorem twn {v:AV} (h:kT v):Zx (uG v) (tD v):=by
 rcases h with rfl | ⟨x,l,rfl,hl⟩
 ·exact ⟨[],by decide,.inl rfl,.inr ⟨rfl,rfl⟩⟩
 ·exact ⟨x :: l,by rw [aA];omega,.inl rfl,.inl rfl⟩
theorem uI {i:In} (h:i.names=.cd):Tw i i:=⟨rfl,rfl,rfl,rfl,rfl,by rw [h];exact abx⟩
theorem Vc:∀ (ts:Ts) (n:ax) (c:Ctx),NF ts→Ka (comp uG n ts c) (comp tD n ts c)
 | .nil,n,c,h=>trivial
 | .leaf w k,n,c,h=>by
  refine ⟨?_,Vc k _ _ fun x hx=>h x (by simp [Ts.flat,hx])⟩
  unfold mF
  split
  ·exact uI rfl
  ·split
   ·exact ⟨rfl,rfl,rfl,rfl,rfl,twn (h w (by simp [Ts.flat]))⟩
   ·exact uI rfl
 | .blk w b e k,n,c,h=>by
  have h0:=twn (h w (by simp [Ts.flat]))
  have hb:=fun n=>Vc b n c fun x hx=>h x (by simp [Ts.flat,hx])
  have hk:=fun n=>Vc k n c fun x hx=>h x (by simp [Ts.flat,hx])
  unfold comp
  split
  ·exact ⟨⟨rfl,rfl,rfl,rfl,rfl,h0⟩,(hb _).app (hk _)⟩
  ·exact ⟨⟨rfl,rfl,rfl,rfl,rfl,h0⟩,(hb _).app ⟨uI rfl,hk _⟩⟩
 | .alt w b l x e k,n,c,h=>by
  have h0:=twn (h w (by simp [Ts.flat]))
  have hb:=fun n c=>Vc b n c fun x hx=>h x (by simp [Ts.flat,hx])
  have hy:=fun n c=>Vc x n c fun x hx=>h x (by simp [Ts.flat,hx])
  have hk:=fun n c=>Vc k n c fun x hx=>h x (by simp [Ts.flat,hx])
  exact ⟨⟨rfl,rfl,rfl,rfl,rfl,h0⟩,(hb _ _).app ⟨uI rfl,(hy _ _).app (hk _ _)⟩⟩
theorem Ka.len:∀ {a b:ai In},Ka a b→a.length=b.length
 | [],[],_=>rfl
 | _ :: _,_ :: _,h=>by rw [aA,aA,Ka.len h.2]
 | [],_ :: _,h=>h.elim
 | _ :: _,[],h=>h.elim
theorem CV {u:AV} {l:ai (ai ae)} (h:u=.ro 1 (l.map .s)∨u=.cd∧l=[]):kH u=aa (.int (l.length:aB)):=by
 rcases h with rfl | ⟨rfl,rfl⟩
 ·rw [jN,aP]
 ·rfl
theorem NP {u:AV} {p r:ai (ai ae)} {x:ai ae} (h:u=.ro 1 ((p ++ x :: r).map .s)∨u=.cd∧p ++ x :: r=[]):idx 1 u (.int (p.length:aB))=aa (.s x):=by
 rcases h with rfl | ⟨rfl,h⟩
 ·rw [oc 1 (by rw [aP,au,aA];omega)];simp
 ·simp at h
theorem l26 (b:ay) {u v:AV}:∀ (r p:ai (ai ae)),(p ++ r).length≤1000000→(u=.ro 1 ((p ++ r).map .s)∨u=.cd∧p ++ r=[])→(v=.ro 1 ((p ++ r).map .s)∨v=.cd∧p ++ r=[])→uD (a7 (C mx) Tryz.prog 26 fD) (p.length:aB) b u b v=aa (.b aj)
 | [],p,h,hu,hv=>by
  apply AL
  have e:decide ((p.length:aB) < ((p ++ []).length:aB))=af:=by simp
  simp only [wJ,CV hu,Sx.cR,e,Option.bind_some,ba,Bool.false_eq_true,aH]
 | x :: r,p,h,hu,hv=>by
  apply AL
  have hl:p.length+(r.length+1)≤1000000:=by simpa using h
  have ih:=l26 b (u:=u) (v:=v) r (p ++ [x]) (by simp;omega) (by simpa using hu) (by simpa using hv)
  have hw:eE ((p.length:aB)+1)=((p ++ [x]).length:aB):=by rw [gh (by omega) (by omega)];simp
  have hlt:decide ((p.length:aB) < ((p ++ x :: r).length:aB))=aj:=by rw [aG];simp;omega
  have hc:AV.cell (.s x) 0=.s x:=rfl
  simp only [wJ,CV hu,Sx.cR,hlt,NP hu,NP hv,hc,Q9,cz,Option.bind_some,ba,Bool.false_eq_true,aH,aO,hw]
  exact ih
theorem s26 (b:ay) {u v:AV} (h:Zx u v):aq (C mx) Tryz.prog 26 [.ag [.b b,u],.ag [.b b,v]]=aa (.b aj):=by
 obtain ⟨l,h1,hu,hv⟩:=h
 apply c26
 have hb:(b != b)=af:=by simp
 simp only [VH,hb,CV hu,CV hv,Sx.j3,cz,Option.bind_some,cy,Bool.or_false,ba,Bool.false_eq_true,aH]
 exact l26 (mx:=mx) b l [] h1 hu hv
theorem NQ {p r:ai In} {x:In}:idx 6 (.ro 6 ((p ++ x :: r).map In.av)) (.int (p.length:aB))=aa x.av:=by
 rw [oc 6 (by rw [aP,au,aA];omega)];simp
theorem i0 (n:In):n.av.cell 0=.u8 n.op:=rfl
theorem i1 (n:In):n.av.cell 1=.s n.text:=rfl
theorem i2 (n:In):n.av.cell 2=.b n.root:=rfl
theorem i3 (n:In):n.av.cell 3=n.names:=rfl
theorem i4 (n:In):n.av.cell 4=.u8 n.hole:=rfl
theorem i5 (n:In):n.av.cell 5=.int (n.to':aB):=rfl
theorem l15:∀ (r s p q:ai In),Ka r s→p.length=q.length→p.length+r.length≤1000000→IQ (a7 (C mx) Tryz.prog 15 Tryz.f15) (.ro 6 ((p ++ r).map In.av)) (.ro 6 ((q ++ s).map In.av)) (p.length:aB)=aa (.b aj)
 | [],s,p,q,h,hl,hz=>by
  apply NL
  have e:decide ((p.length:aB) < (((p ++ []).map In.av).length:aB))=af:=by simp
  simp only [IU,jN,Sx.cR,e,Option.bind_some,ba,Bool.false_eq_true,aH]
 | i :: r,[],p,q,h,hl,hz=>h.elim
 | i :: r,j :: s,p,q,h,hl,hz=>by
  obtain ⟨⟨e0,e1,e2,e3,e4,e5⟩,hr⟩:=h
  rw [aA] at hz
  have ih:=l15 r s (p ++ [i]) (q ++ [j]) hr (by simp [hl]) (by rw [au,aW];omega)
  simp only [List.append_assoc,bu,au,aW] at ih
  apply NL
  have e:decide ((p.length:aB) < (((p ++ i :: r).map In.av).length:aB))=aj:=by rw [aG,aP,au,aA];omega
  have x1:=NQ (p:=p) (x:=i) (r:=r)
  have x2:=NQ (p:=q) (x:=j) (r:=s)
  rw [← hl] at x2
  have hs:=s26 (mx:=mx) j.root e5
  have I7:unop .not (.b aj)=aa (.b af):=rfl
  simp only [IU,jN,Sx.cR,e,Option.bind_some,ba,aO,x1,x2,i0,i1,i2,i3,i4,i5,e0,e1,e2,e3,e4,Br,Q9,Sx.j3,cz,cy,Bool.or_self,hs,I7,Bool.false_eq_true,aH,wN (a:=p.length) (by omega)]
  exact ih
theorem s15 {r s:ai In} (h:Ka r s) (hz:r.length≤1000000):aq (C mx) Tryz.prog 15 [.ro 6 (r.map In.av),.ro 6 (s.map In.av)]=aa (.b aj):=by
 apply c15
 simp only [X15,jN,aP,← h.len,Sx.j3,cz,Option.bind_some,ba,Bool.false_eq_true,aH]
 exact l15 (mx:=mx) r s [] [] h rfl (by simpa using hz)
theorem aby:aq (C mx) Tryz.prog 15 [.cd,.cd]=aa (.b aj):=by
 apply c15
 have e0:kH .cd=aa (.int 0):=rfl
 simp only [X15,e0,Sx.j3,cz,Option.bind_some,ba,Bool.false_eq_true,aH]
 apply NL
 simp only [IU,e0,Sx.cR,Option.bind_some]
 rfl
theorem Vd:qL [123,123,120,125,125] (ea 0)=.tu [.ag [.ro 9 ((cp 0 (.leaf ⟨1,0,[],af,.ro 1 [.s [120]]⟩ .nil) (ea 0)).map Nd.av),.ro 1 [.int 0]],(ea 0).bw,.int 0,.int 0]:=by
 kernel_rfl
theorem s12:aq (C mx) Tryz.prog 12 []=aa (.b aj):=by
 apply c12
 have h7:aq (C mx) Tryz.prog 7 [.s [123,123,120,125,125]]=aa (.tu [.ag [.ro 9 ((cp 0 (.leaf ⟨1,0,[],af,.ro 1 [.s [120]]⟩ .nil) (ea 0)).map Nd.av),.ro 1 [.int 0]],.int 0,.int 0]):=by
  apply c7
  simp only [X7,tE,Zw _ Ql,Vd,Option.bind_some,q0,q1,q2,q3,qT,bm,Sx.cX,bG,zT,cg,z0,cq,nY,decide_true,df,nV,ba,Bool.false_eq_true,aH,bf,bz]
 have h:=NM (mx:=mx) (l:=[123,123,120,125,125]) (ts:=.leaf ⟨1,0,[],af,.ro 1 [.s [120]]⟩ .nil) ⟨⟨by decide,by decide,by decide,by decide⟩,trivial⟩ (by decide) (fun w hw=>by
  obtain rfl:w=_:=by simpa [Ts.flat] using hw
  exact .inr ⟨[120],[],rfl,by decide⟩) h7
 have e:comp uG 0 (.leaf ⟨1,0,[],af,.ro 1 [.s [120]]⟩ .nil) (ea 0)=[⟨1,[],af,.ro 1 [.s [120]],hole (ea 0),0⟩]:=rfl
 rw [e] at h
 simp only [X12,h,Option.bind_some,p0,p1,p2]
 rfl
theorem abz (l:ai ae):aq (C mx) Tryz.prog 5 [.s l]=aa (.b aj):=by
 apply c5
 have I7:unop .not (.b aj)=aa (.b af):=rfl
 have hsw:bt (.b af) aj (aa (.b aj)) (.b af)=aa (.b af):=rfl
 rcases tmT (mx:=mx) l with ⟨a,e,he,h1,h2⟩ | ⟨ts,k1,k2,k3,h1,h2⟩
 ·have t1:aq (C mx) Tryz.prog 13 [.s l]=aa (.tu [.cd,.int a,.int e]):=by
   apply c13
   simp only [X13,h1,Option.bind_some,p0,p1,p2,qT,Sx.j3,ba]
   rw [aJ (by simpa using he)]
  have t2:aq (C mx) Tryz.prog 14 [.s l]=aa (.tu [.cd,.int a,.int e]):=by
   apply c14
   simp only [X14,h2,Option.bind_some,p0,p1,p2,qT,Sx.j3,ba]
   rw [aJ (by simpa using he)]
  simp only [X5,s12 (mx:=mx),Option.bind_some,I7,hsw,ba,Bool.false_eq_true,aH,t1,t2,p0,p1,p2,Sx.cX,bG,nV,aby]
 ·have t1:=NM k1 k2 k3 h1
  have t2:=Vb k1 k2 h2
  have g3:=lX ts
  have t3:=s15 (mx:=mx) (r:=comp uG 0 ts (ea 0) ++ [AZ]) (s:=comp tD 0 ts (ea 0) ++ [AZ]) ((Vc ts 0 (ea 0) k3).app ⟨uI rfl,trivial⟩) (by rw [au,aW,cU];omega)
  simp only [X5,s12 (mx:=mx),Option.bind_some,I7,hsw,ba,Bool.false_eq_true,aH,t1,t2,p0,p1,p2,Sx.cX,bG,nV,t3]
end wL
