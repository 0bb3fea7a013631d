/-
  A part of CodePrograms's proof.
-/
import Derived.Test.YtgjfbalafdifgaaGreatDoorTC
import Derived.Test.YtgjfbalafdifgaaGreatDoorTD
import Derived.Test.YtgjfbalafdifgaaGreatDoorProg
import Derived.Lib.IndexMore
import Derived.RangeFuncNested
import Derived.RangeFuncBound
import Derived.RangeFuncCalls
import Derived.RangeFuncLeaves
import Derived.Shelf.RegionOpen
import Derived.WalkKit
import Derived.OwnWalkIn
import Derived.TacticsInMore
import Derived.LoopNIn
import Derived.LoopIn
set_option linter.unusedVariables false
set_option linter.unusedSimpArgs false
set_option linter.unusedSectionVars false
set_option linter.unnecessarySimpa false
open _root_ renaming Bool→ay,Int→aB,List→ai,Nat→ax,Option→ak,UInt8→ae,congrArg→bA,decide_eq_false_iff_not→aQ,decide_eq_true_eq→aG,if_false→aH,if_neg→aI,if_pos→aJ,if_true→aO
open Bool renaming false→af,not_true→df,true→aj
open Go.Lib renaming index_room→gK,index_spec→eG,occAt→dB
open Go.Proofs.Tryz renaming f100→gV,f106→dK,f107→dF,f108→bT,f128→cZ,f131→fq,f132→bS,f133→gU,f19→gm,f44→fI,f54→fH,f60→dR,f61→fG,f74→gM,f77→cO,f82→il,f83→ig,f96→gB,f97→dz
open Go renaming Value→aC,World→az
open List renaming dropWhile_cons→bR,dropWhile_sublist→iR,getD_cons_succ→bz,getD_cons_zero→bf,getElem?_eq_none_iff→bY,getElem_map→gQ,getElem_modify→gJ,length_cons→aA,length_drop→bQ,length_map→aP,map_append→dM,take_append_drop→bM
open Nat renaming le_of_lt→gN,le_succ→iG,lt_of_lt_of_le→aZ
open Option renaming none→ah,some→aa
namespace lp
open Go Go.Proofs Sx
variable {mx:aB}
theorem aaS (l:ai ae) (x:ae):aq (C mx) Tryz.prog 109 [.s l,.u8 x]=aa (.int (nQ l x)) :=
 Dz (fn:=Tryz.f109) (by kernel_rfl) (by kernel_rfl) (by kernel_rfl) (by
  show (bif (Tryz.f109.name == "internal/bytealg.IndexByteString") then aa (AV.int (nQ l x)) else ah)=_
  rw [show (Tryz.f109.name == "internal/bytealg.IndexByteString")=aj by kernel_rfl]
  rfl)
theorem s78 (l:ai ae) (x:ae):aq (C mx) Tryz.prog 78 [.s l,.u8 x]=aa (.int (nQ l x)):=by
 apply c78
 simp only [X78,aaS,Option.bind_some]
theorem aaT (l:ai ae) (x:ae):aq (C mx) Tryz.prog 126 [.s l,.u8 x]=aa (.int (nQ l x)):=by
 apply aaO
 simp only [Xr,s78,Option.bind_some]
section
variable (c:Ctx) (b:ae)
theorem Mf (h:c.nm.length < 9223372036854775808):aq (C mx) Tryz.prog 17 [c.bw]=aa (.b (form c)):=s17 (h:=h) ..
theorem FA (h:c.nm.length < 9223372036854775808):aq (C mx) Tryz.prog 20 [c.bw]=aa (.b (form c)):=s20 (h:=h) ..
theorem Ui:aq (C mx) Tryz.prog 140 [c.bw]=aa (.b (rU c.st c.el c.at')):=aay ..
theorem Xw:aq (C mx) Tryz.prog 116 [.u8 b]=aa (.b (letter b)):=by
 apply aaD
 simp only [Xk,jO,j4,Option.bind_some,b9,cy,letter]
theorem Mg:aq (C mx) Tryz.prog 117 [.u8 b]=aa (.u8 (lC b)):=by
 apply aaF
 refine O4 ?_
 revert b
 exact l8 (by kernel_rfl)
theorem Mh:aq (C mx) Tryz.prog 118 [.u8 b]=aa (.b (dT b)):=by
 apply aaG
 simp only [Xl,cC,Option.bind_some,b9,cy,dT]
theorem Xx:aq (C mx) Tryz.prog 125 [c.bw]=aa (.b (ends c)):=by
 apply aaN
 simp only [Xq,cC,Option.bind_some,b9,cy,ends]
theorem PL (s:ae):aq (C mx) Tryz.prog 121 [c.bw,.u8 s]=aa (within c s).bw:=by
 apply aaJ
 rfl
theorem Xy (el:ae):aq (C mx) Tryz.prog 122 [.u8 el]=aa (ou el).bw:=by
 apply aaK
 simp only [Xn,iv,ba,ou,cL]
 rfl
theorem s92:aq (C mx) Tryz.prog 92 [.u8 b]=aa (tv (opened b)):=by
 apply c92
 simp only [X92,Xw,Mg,cC,Option.bind_some,jZ,nZ,mI,ba,opened,BH]
 rfl
theorem s93:aq (C mx) Tryz.prog 93 [.u8 b]=aa (closed b).bw:=by
 apply c93
 simp only [X93,Xw,Mg,cC,Option.bind_some,jZ,nZ,mI,ba,closed,cL]
 rfl
theorem Xz:aq (C mx) Tryz.prog 119 [c.bw,.u8 b]=aa (grown c b).bw:=by
 apply aaH
 simp only [Xm,Mg,Option.bind_some,jZ,nZ,ba,grown,cL]
 have e:decide ((c.nm.length:aB) ≥ 32)=decide (32≤c.nm.length):=by rw [decide_eq_decide];omega
 rw [e]
 by_cases h:32≤c.nm.length
 ·rw [aJ (by simpa using h),aJ (by simpa using h)];rfl
 ·rw [aI (by simpa using h),aI (by simpa using h),qp (by simp;omega)];rfl
theorem aaU:aq (C mx) Tryz.prog 123 [c.bw,.u8 b]=aa (tv (j5 c b)):=by
 apply aaL
 simp only [Xo,Mh,cC,Option.bind_some,cy,ba,j5,BH]
 rfl
theorem aaV:aq (C mx) Tryz.prog 124 [c.bw,.u8 b]=aa (tv (named c b)):=by
 apply aaM
 simp only [Xp,Mh,aaB,cg,cq,Xz,PL,bm,zT,La,cC,Option.bind_some,cy,b9,ba,named,BH,jZ]
 rfl
theorem s94:aq (C mx) Tryz.prog 94 [c.bw,.u8 b]=aa (tv (tag c b)):=by
 have f (el:ae):Hr (a7 (C mx) Tryz.prog 94 Tryz.f94) c.st (.u8 el) c.en c.at' c.qu c.pa c.su c.es c.da c.nm 0 0 af 0 0 0 0 af 0 []=aa (tv (within { c with el:=el } 9,aj)):=by
  apply Xi
  simp only [Rm,cg,PL,bm,zT,cq,La,Option.bind_some]
 apply c94
 simp only [X94,f,Mh,aaz,cg,cq,Xz,PL,Xy,aaU,aaV,bm,zT,La,O8,O9,cC,iv,et,Option.bind_some,cy,b9,ba,tag,BH,jZ]
 rfl
theorem aaW:aq (C mx) Tryz.prog 139 [c.bw,.u8 b]=aa (text c b).bw:=by
 have f (d:Ctx):vq (a7 (C mx) Tryz.prog 139 Tryz.f139) d.st d.el d.en d.at' d.qu d.pa d.su d.es d.da d.nm 0 0 af 0 0 0 0 af 0 []=aa d.bw:=by
  apply Uh
  rfl
 apply aaR
 simp only [Xv,cC,Option.bind_some,cy,b9,ba,text,cL]
 rw [f c,f { c with su:=0 },f { c with es:=aj },f { c with es:=af }]
 rfl
theorem XA (script:ay) (h:(c.su == 0)=aj):aq (C mx) Tryz.prog 128 [c.bw,.u8 b,.b script]=aa (nB c b script).bw:=by
 have f (d:Ctx):jE (a7 (C mx) Tryz.prog 128 cZ) d.st d.el d.en d.at' d.qu d.pa d.su d.es d.da d.nm 0 0 af 0 0 0 0 af 0 []=aa d.bw:=by
  apply Hv
  rfl
 have g:uo (a7 (C mx) Tryz.prog 128 cZ) 0 0 af 0 0 0 0 af 0 []=aa dp.bw:=by
  apply Hw
  rfl
 apply Xt
 simp only [Uf,cC,Option.bind_some,cy,b9,ba,nB,cL,h,aO]
 rw [f c,f { c with su:=1 },f { c with su:=2 },f { c with su:=3 },g]
theorem XB (script:ay):aq (C mx) Tryz.prog 128 [c.bw,.u8 b,.b script]=aa (code c b script).bw:=by
 have f (d:Ctx):jE (a7 (C mx) Tryz.prog 128 cZ) d.st d.el d.en d.at' d.qu d.pa d.su d.es d.da d.nm 0 0 af 0 0 0 0 af 0 []=aa d.bw:=by
  apply Hv
  rfl
 have g:uo (a7 (C mx) Tryz.prog 128 cZ) 0 0 af 0 0 0 0 af 0 []=aa dp.bw:=by
  apply Hw
  rfl
 have t (d:Ctx):xj (a7 (C mx) Tryz.prog 128 cZ) b d.st d.el d.en d.at' d.qu d.pa d.su d.es d.da d.nm 0 0 af 0 0 0 0 af 0 []=aa (text d b).bw:=by
  apply PJ
  simp only [Ht,cg,cq,aaW,bm,zT,Option.bind_some]
 have u (d:Ctx):B5 (a7 (C mx) Tryz.prog 128 cZ) b d.su d.st d.el d.en d.at' d.qu d.pa d.su d.es d.da d.nm 0 0 af 0 0 0 0 af 0 [] =
   aa (if d.su == 4 then (if b == 10 || b == 13 then { d with su:=0 } else d) else if d.su == 5 then (if b == 42 then { d with su:=6 } else d) else if d.su == 6 then (if b == 47 then { d with su:=0 } else if b == 42 then d else { d with su:=5 }) else d:Ctx).bw:=by
  apply PK
  simp only [Hu,cC,Option.bind_some,cy,b9,ba,cL]
  rw [f d,f { d with su:=0 },f { d with su:=6 },f { d with su:=5 }]
 apply Xt
 have z:aq (C mx) Tryz.prog 128 [Ctx.bw { c with su:=0 },.u8 b,.b script]=aa (nB { c with su:=0 } b script).bw:=XA _ b script rfl
 simp only [Uf,cC,Option.bind_some,cy,b9,ba,code,cL,cg,cq]
 rw [f c,f { c with su:=1 },f { c with su:=2 },f { c with su:=3 },f { c with su:=4 },f { c with su:=5 },g,t c,u c,z]
 simp only [bm,zT,Option.bind_some,cg,cq]
 simp only [nB,cL]
 rfl
theorem aaX:aq (C mx) Tryz.prog 127 [c.bw,.u8 b]=aa (url c b).bw:=by
 have f (d:Ctx):n9 (a7 (C mx) Tryz.prog 127 Tryz.f127) d.st d.el d.en d.at' d.qu d.pa d.su d.es d.da (.s d.nm) 0 0 af 0 0 0 0 af 0 []=aa d.bw:=by
  apply PG
  rfl
 apply aaP
 simp only [Xs,cC,Option.bind_some,cy,b9,ba,Mg,jZ,nZ,xb,url,cL]
 rw [f { c with pa:=4,nm:=[] },f { c with pa:=3,nm:=[] },f { c with pa:=5,nm:=[] },f { c with pa:=1 }]
 have e:decide ((c.nm.length:aB) ≥ 16)=decide (16≤c.nm.length):=by rw [decide_eq_decide];omega
 rw [e,show (c.nm == [104,116,116,112] || c.nm == [104,116,116,112,115] || c.nm == [109,97,105,108,116,111])=DT c.nm from rfl]
 by_cases h:16≤c.nm.length
 ·simp only [decide_eq_true h,aO];rfl
 ·rw [qp (by simp;omega)]
  simp only [Option.bind_some,mI]
  rw [f { c with pa:=1,nm:=c.nm ++ [lC b] }]
  rfl
theorem Mi:decide (nQ [34,39,60,61,96] b ≥ 0)=ym b:=by
 revert b
 exact Jg (by kernel_rfl)
theorem s95:aq (C mx) Tryz.prog 95 [c.bw,.u8 b]=aa (value c b).bw:=by
 apply c95
 simp only [X95,cC,Option.bind_some,cy,b9,ba,Mh,aaT,cg,cq,Xx,PL,Xy,aaX,XB,bm,zT,et,value,cL,mN,Mi]
 rfl
theorem XC:∀ (r p:ai ae) (c:Ctx),(p ++ r).length < 9223372036854775808→B6 (a7 (C mx) Tryz.prog 129 Tryz.f129) (p ++ r) ((p ++ r).length:aB) (p.length:aB) (.u8 c.st) (.u8 c.el) (.b c.en) (.u8 c.at') (.u8 c.qu) (.u8 c.pa) (.u8 c.su) (.b c.es) (.u8 c.da) (.s c.nm) 0 0 af 0 0 0 0 af 0 []=aa (rV c r).bw
 | [],p,c,h=>by
  apply Me
  simp only [Fz,xd,ue,List.append_nil,Option.bind_some,ba,Bool.false_eq_true,aH,cg,cq,rV]
 | b :: r,p,c,h=>by
  apply Me
  simp only [Fz,Bw,nX,rf p b r h,hZ,Option.bind_some,ba,aO,cg,cq,XB,bm,zT,rV,cL]
  rw [kh,XC r (p ++ [b]) _ (by rw [← kh];exact h)]
  rfl
theorem XD (s:ai ae) (feed:ay) (h:s.length < 9223372036854775808):aq (C mx) Tryz.prog 129 [c.bw,.s s,.b feed]=aa (sU c s feed).bw:=by
 apply aaQ
 have l:=XC (mx:=mx) s [] { c with st:=17,nm:=[] } h
 simp only [Xu,cC,Option.bind_some,cg,cq,Ui,et,cy,ba,sU,cL]
 split
 ·rfl
 ·exact l
theorem s96 (feed:ay) (h:c.nm.length < 1000):aq (C mx) Tryz.prog 96 [c.bw,.u8 b,.b feed]=aa (raw c b feed).bw:=by
 have f (d:Ctx):B0 (a7 (C mx) Tryz.prog 96 gB) (.u8 d.st) (.u8 d.el) (.b d.en) (.u8 d.at') (.u8 d.qu) (.u8 d.pa) (.u8 d.su) (.b d.es) (.u8 d.da) (.s d.nm) 0 0 af 0 0 0 0 af 0 []=aa d.bw:=by
  apply T9
  rfl
 have g (d:Ctx):BZ (a7 (C mx) Tryz.prog 96 gB) b feed (.u8 d.st) (.u8 d.el) (.b d.en) (.u8 d.at') (.u8 d.qu) (.u8 d.pa) (.u8 d.su) (.b d.es) (.u8 d.da) (.s d.nm) 0 0 af 0 0 0 0 af 0 []=aa (wW d b feed).bw:=by
  apply T8
  simp only [Ma,hZ,Option.bind_some,ba,nZ,cg,cq]
  rw [XD d [b] feed (by simp)]
  simp only [Option.bind_some,bm,zT,hZ,cC,b9,ba]
  rw [f (sU d [b] feed),f { sU d [b] feed with st:=18 }]
  simp only [wW,cL]
  rfl
 apply c96
 have a1:gR .add (.s c.nm) (.s [lC b])=aa (.s (c.nm ++ [lC b])):=qp (by simp;omega)
 have a2:gR .add (.s [47]) (.s c.nm)=aa (.s (47 :: c.nm)):=qp (by simp;omega)
 have a3:=XD (mx:=mx) c (47 :: c.nm) feed (by simp;omega)
 simp only [X96,s43,cC,Option.bind_some,cy,b9,ba,Mh,Mg,jZ,nZ,mI,a1,a2,ud,Y9,cg,cq,Xx,s94,O8,O9,a3,bm,zT,et,raw,cL]
 rw [g c,g (sU c (47 :: c.nm) feed)]
 rfl
theorem s97:aq (C mx) Tryz.prog 97 [c.bw,.u8 b]=aa (note c b).bw:=by
 have f (d:Ctx):B4 (a7 (C mx) Tryz.prog 97 dz) d.st d.el d.en d.at' d.qu d.pa d.su d.es d.da d.nm 0 0 af 0 0 0 0 af 0 []=aa d.bw:=by
  apply Ue
  rfl
 have f4:Hs (a7 (C mx) Tryz.prog 97 dz) b c.st c.el c.en c.at' c.qu c.pa c.su c.es c.da c.nm 0 0 af 0 0 0 0 af 0 []=aa (if b == 62 then ea 0 else if b == 45 && c.st == 11 then ea 12 else if b == 45 then ea 13 else ea 16:Ctx).bw:=by
  apply Xj
  simp only [Rn,cC,Option.bind_some,b9,ba,cL]
  rfl
 have f13:B3 (a7 (C mx) Tryz.prog 97 dz) b c.st c.el c.en c.at' c.qu c.pa c.su c.es c.da c.nm 0 0 af 0 0 0 0 af 0 []=aa (if b == 62 then dp else if b == 45 && c.st == 13 then ea 14 else if b == 45 then ⟨15,0,af,0,0,0,0,af,2,[]⟩ else ea 15:Ctx).bw:=by
  apply Uc
  simp only [Mc,cC,Option.bind_some,b9,ba,cL]
  rfl
 have hm:(cf .add (.u8 c.da) (.u8 1)).bind (fun v3=>(mm aj v3 (.u8 2)).bind fun v4=>(AV.one v4).bind fun v5=>aa (AV.ag [.u8 15,.u8 0,.b af,.u8 0,.u8 0,.u8 0,.u8 0,.b af,v5,.s []]))=aa (Ctx.bw ⟨15,0,af,0,0,0,0,af,(if decide (2 < c.da+1) then 2 else c.da+1),[]⟩):=by
  rw [E6]
  simp only [Option.bind_some,Wt,jZ,cg,aG]
 have f20:Fy (a7 (C mx) Tryz.prog 97 dz) b c.st c.st c.el c.en c.at' c.qu c.pa c.su c.es c.da c.nm 0 0 af 0 0 0 0 af 0 [] =
   aa (if c.st == 15 then (if b == 62 && c.da == 2 then ea 0 else if b == 33 && c.da == 2 then dp else if b == 45 then ⟨15,0,af,0,0,0,0,af,(if decide (2 < c.da+1) then 2 else c.da+1),[]⟩ else ea 15)
 else if c.st == 16 then (if b == 62 then ea 0 else c) else c:Ctx).bw:=by
  apply Ud
  simp only [Md,cC,Option.bind_some,b9,ba,cL]
  rw [hm,f c]
  rfl
 have f11:Fx (a7 (C mx) Tryz.prog 97 dz) b c.st c.st c.el c.en c.at' c.qu c.pa c.su c.es c.da c.nm 0 0 af 0 0 0 0 af 0 [] =
   aa (if c.st == 13 || c.st == 14 then (if b == 62 then dp else if b == 45 && c.st == 13 then ea 14 else if b == 45 then ⟨15,0,af,0,0,0,0,af,2,[]⟩ else ea 15)
 else if c.st == 15 then (if b == 62 && c.da == 2 then ea 0 else if b == 33 && c.da == 2 then dp else if b == 45 then ⟨15,0,af,0,0,0,0,af,(if decide (2 < c.da+1) then 2 else c.da+1),[]⟩ else ea 15)
 else if c.st == 16 then (if b == 62 then ea 0 else c) else c:Ctx).bw:=by
  apply Ub
  simp only [Mb,cC,Option.bind_some,b9,ba,f13,f20]
  cases (c.st == 13) <;> cases (c.st == 14) <;> rfl
 apply c97
 simp only [X97,cC,Option.bind_some,b9,ba,f4,f11,note]
 cases (c.st == 11) <;> cases (c.st == 12) <;> rfl
theorem l75 (feed:ay):∀ (n:ax) (c d:Ctx),c.nm.length < 1000→again n c b feed=aa d→D9 (a7 (C mx) Tryz.prog 75 Tryz.f75) b feed (.u8 c.st) (.u8 c.el) (.b c.en) (.u8 c.at') (.u8 c.qu) (.u8 c.pa) (.u8 c.su) (.b c.es) (.u8 c.da) (.s c.nm) 0 0 af 0 0 0 0 af 0 []=aa d.bw
 | 0,c,d,hn,h=>by cases h
 | n+1,c,d,hn,h=>by
  have f32 (d:Ctx):BX (a7 (C mx) Tryz.prog 75 Tryz.f75) (.u8 d.st) (.u8 d.el) (.b d.en) (.u8 d.at') (.u8 d.qu) (.u8 d.pa) (.u8 d.su) (.b d.es) (.u8 d.da) (.s d.nm) 0 0 af 0 0 0 0 af 0 []=aa d.bw:=by
   apply T3
   rfl
  have f31:yC (a7 (C mx) Tryz.prog 75 Tryz.f75) b feed (.u8 c.st) (.u8 c.el) (.b c.en) (.u8 c.at') (.u8 c.qu) (.u8 c.pa) (.u8 c.su) (.b c.es) (.u8 c.da) (.s c.nm) 0 0 af 0 0 0 0 af 0 []=aa (raw c b feed).bw:=by
   apply T6
   simp only [L8,cg,cq,s96 (h:=hn),Option.bind_some,bm,zT]
  have f4:L4 (a7 (C mx) Tryz.prog 75 Tryz.f75) b (.u8 c.st) (.u8 c.el) (.b c.en) (.u8 c.at') (.u8 c.qu) (.u8 c.pa) (.u8 c.su) (.b c.es) (.u8 c.da) (.s c.nm) 0 0 af 0 0 0 0 af 0 []=aa (note c b).bw:=by
   apply Xh
   simp only [Rl,cg,cq,s97,Option.bind_some,bm,zT]
  have f26:Fw (a7 (C mx) Tryz.prog 75 Tryz.f75) b feed (.u8 c.st) (.u8 c.st) (.u8 c.el) (.b c.en) (.u8 c.at') (.u8 c.qu) (.u8 c.pa) (.u8 c.su) (.b c.es) (.u8 c.da) (.s c.nm) 0 0 af 0 0 0 0 af 0 []=aa (if c.st == 8 then value c b else if c.st == 17 || c.st == 18 || c.st == 19 then raw c b feed else note c b:Ctx).bw:=by
   apply T5
   simp only [L6,hZ,cg,cq,s95,f31,f4,Option.bind_some,ba,bm,zT]
   cases (c.st == 8) <;> cases (c.st == 17) <;> cases (c.st == 18) <;> cases (c.st == 19) <;> rfl
  have f22 (hh:(if (tag c b).2 then again n (tag c b).1 b feed else aa (tag c b).1)=aa d):pg (a7 (C mx) Tryz.prog 75 Tryz.f75) b feed (.u8 c.st) (.u8 c.el) (.b c.en) (.u8 c.at') (.u8 c.qu) (.u8 c.pa) (.u8 c.su) (.b c.es) (.u8 c.da) (.s c.nm) 0 0 af 0 0 0 0 af 0 []=aa d.bw:=by
   apply T4
   simp only [L5,cg,cq,s94,O8,O9,Option.bind_some,ba,bm,zT]
   cases ht:(tag c b).2 with
   | true =>
    rw [ht,aJ rfl] at hh
    rw [aJ rfl]
    exact l75 feed n _ d (Nat.lt_of_le_of_lt (Tb c b ht) hn) hh
   | false =>
    rw [ht,aI (by simp)] at hh
    rw [aI (by simp)]
    cases hh;rfl
  apply Xg
  unfold again at h
  simp only [Rk,hZ,cC,cg,cq,s92,s93,O8,O9,Option.bind_some,ba,bm,zT]
  cases h0:(c.st == 0) with
  | true =>
   rw [h0,aJ rfl] at h
   rw [aJ rfl,f32 c,f32 { c with st:=1 }]
   split <;> rename_i hb
   ·rw [aJ hb] at h;cases h;rfl
   ·rw [aI hb] at h;cases h;rfl
  | false =>
  rw [h0,aI (by simp)] at h
  rw [aI (by simp)]
  cases h1:(c.st == 1) with
  | true =>
   rw [h1,aJ rfl] at h
   rw [aJ rfl]
   split <;> rename_i hb
   ·rw [aJ hb] at h;cases h;rfl
   ·rw [aI hb] at h
    exact l75 feed n { c with st:=0 } d hn h
  | false =>
  rw [h1,aI (by simp)] at h
  rw [aI (by simp)]
  cases h2:(c.st == 2) with
  | true =>
   rw [h2,aJ rfl] at h
   rw [aJ rfl]
   cases h;rfl
  | false =>
  rw [h2,aI (by simp)] at h
  rw [aI (by simp)]
  cases hT:Vt c.st with
  | true =>
   rw [hT,aJ rfl] at h
   rw [f22 h]
   unfold Vt at hT
   cases h3:(c.st == 3) <;> cases h4:(c.st == 4) <;> cases h5:(c.st == 5) <;> cases h6:(c.st == 6) <;> cases h7:(c.st == 7) <;> cases h9:(c.st == 9) <;> cases h10:(c.st == 10) <;> first | rfl | (rw [h3,h4,h5,h6,h7,h9,h10] at hT;cases hT)
  | false =>
   rw [hT,aI (by simp)] at h
   unfold Vt at hT
   simp only [Bool.or_eq_false_iff] at hT
   obtain ⟨⟨⟨⟨⟨⟨h3,h4⟩,h5⟩,h6⟩,h7⟩,h9⟩,h10⟩:=hT
   rw [h3,h4,h5,h6,h7,h9,h10,f26]
   simp only [Bool.false_eq_true,aH]
   cases h8:(c.st == 8) <;> cases Xf:(c.st == 17) <;> cases WG:(c.st == 18) <;> cases NZ:(c.st == 19) <;> (rw [h8,Xf,WG,NZ] at h;cases h;rfl)
end
noncomputable def X62 (a b:ae) (d:ay) (e f g i:ae) (j:ay) (k:ae) (l:ai ae) (m:ae) (c:bj) (r:RunT):ak AV :=
 (c 75 [.ag [.u8 a,.u8 b,.b d,.u8 e,.u8 f,.u8 g,.u8 i,.b j,.u8 k,.s l],.u8 m,.b aj]).bind fun n=>(AV.cm 10 n).bind fun o=>aa (.ag [gt o 0,gt o 1,gt o 2,gt o 3,gt o 4,gt o 5,gt o 6,gt o 7,gt o 8,gt o 9])
theorem c62 (a b d e f g i j k l m) {r:AV} (h:X62 a b d e f g i j k l m (aq (C mx) Tryz.prog) (a7 (C mx) Tryz.prog 62 Tryz.f62)=aa r):aq (C mx) Tryz.prog 62 [.ag [.u8 a,.u8 b,.b d,.u8 e,.u8 f,.u8 g,.u8 i,.b j,.u8 k,.s l],.u8 m]=aa r :=
 bc (fun _ _=>by kernel_rfl) h
noncomputable def X67  (c:bj) (r:RunT):ak AV :=
 aa (.ag [.u8 20,.u8 0,.b af,.u8 0,.u8 0,.u8 0,.u8 0,.b af,.u8 0,.s []])
theorem c67 {r:AV} (h:X67  (aq (C mx) Tryz.prog) (a7 (C mx) Tryz.prog 67 Tryz.f67)=aa r):aq (C mx) Tryz.prog 67 []=aa r :=
 bc (fun _ _=>by kernel_rfl) h
noncomputable def X98 (a:aB) (c:bj) (r:RunT):ak AV :=
 (conv .u8 (.int a)).bind fun b=>(AV.one b).bind fun d=>aa (.ag [d,.u8 0,.b af,.u8 0,.u8 0,.u8 0,.u8 0,.b af,.u8 0,.s []])
theorem c98 a {r:AV} (h:X98 a (aq (C mx) Tryz.prog) (a7 (C mx) Tryz.prog 98 Tryz.f98)=aa r):aq (C mx) Tryz.prog 98 [.int a]=aa r :=
 bc (fun _ _=>by kernel_rfl) h
noncomputable def X99 (a:ae) (c:bj) (r:RunT):ak AV :=
 (bt (.b (O5 a 97)) aj (aa (.b (ule a 122))) (.b af)).bind fun b=>(bt b af ((bt (.b (O5 a 65)) aj (aa (.b (ule a 90))) (.b af)).bind fun d=>aa d) (.b aj)).bind fun e=>aa e
theorem c99 a {r:AV} (h:X99 a (aq (C mx) Tryz.prog) (a7 (C mx) Tryz.prog 99 Tryz.f99)=aa r):aq (C mx) Tryz.prog 99 [.u8 a]=aa r :=
 bc (fun _ _=>by kernel_rfl) h
noncomputable def B7 (run:RunT) (a:AV):ak AV :=
 run ((eV 3 ((gV.body).getD .skip) []).getD []) (St.fj [(0,.cell (.val a))] [])
noncomputable def XE (a:ae) (c:bj) (r:RunT):ak AV :=
 (bt (.b (O5 a 65)) aj (aa (.b (ule a 90))) (.b af)).bind fun b=>a8 b
 ((cf .add (.u8 a) (.u8 32)).bind fun d=>B7 r d)
 (B7 r (.u8 a))
theorem aaY a {r:AV} (h:XE a (aq (C mx) Tryz.prog) (a7 (C mx) Tryz.prog 100 gV)=aa r):aq (C mx) Tryz.prog 100 [.u8 a]=aa r :=
 bc (fun _ _=>by kernel_rfl) h
noncomputable def Mj (a:AV) (c:bj) (r:RunT):ak AV :=
 (AV.one a).bind fun b=>(GD (.ro 1 (([b]:ai AV)))).bind fun d=>aa d
theorem Uj a {r:AV} (h:Mj a (aq (C mx) Tryz.prog) (a7 (C mx) Tryz.prog 100 gV)=aa r):B7 (a7 (C mx) Tryz.prog 100 gV) a=aa r :=
 bh (fun _ _=>by kernel_rfl) h
noncomputable def aaZ (a:ae) (c:bj) (r:RunT):ak AV :=
 (bt (.b (cD a 32)) af (aa (.b (cD a 9))) (.b aj)).bind fun b=>(bt b af (aa (.b (cD a 10))) (.b aj)).bind fun d=>(bt d af (aa (.b (cD a 12))) (.b aj)).bind fun e=>(bt e af (aa (.b (cD a 13))) (.b aj)).bind fun f=>aa f
theorem aa0 a {r:AV} (h:aaZ a (aq (C mx) Tryz.prog) (a7 (C mx) Tryz.prog 101 Tryz.f101)=aa r):aq (C mx) Tryz.prog 101 [.u8 a]=aa r :=
 bc (fun _ _=>by kernel_rfl) h
noncomputable def XF (a b:ae) (d:ay) (e f g i:ae) (j:ay) (k:ae) (l:ai ae) (m:ae) (c:bj) (r:RunT):ak AV :=
 a8 (.b (decide (((l.length:aB)) ≥ 32)))
 ((c 67 []).bind fun n=>(AV.cm 10 n).bind fun o=>aa (.ag [gt o 0,gt o 1,gt o 2,gt o 3,gt o 4,gt o 5,gt o 6,gt o 7,gt o 8,gt o 9]))
 ((c 100 [.u8 m]).bind fun p=>(gR .add (.s l) p).bind fun q=>(AV.one q).bind fun s=>aa (.ag [.u8 a,.u8 b,.b d,.u8 e,.u8 f,.u8 g,.u8 i,.b j,.u8 k,s]))
theorem aa1 (a b d e f g i j k l m) {r:AV} (h:XF a b d e f g i j k l m (aq (C mx) Tryz.prog) (a7 (C mx) Tryz.prog 103 Tryz.f103)=aa r):aq (C mx) Tryz.prog 103 [.ag [.u8 a,.u8 b,.b d,.u8 e,.u8 f,.u8 g,.u8 i,.b j,.u8 k,.s l],.u8 m]=aa r :=
 bc (fun _ _=>by kernel_rfl) h
noncomputable def XG (a b:ae) (d:ay) (e f g i:ae) (j:ay) (k:ae) (l:ai ae) (c:bj) (r:RunT):ak AV :=
 a8 (.b (cD b 0))
 ((c 98 [.int 0]).bind fun m=>(AV.cm 10 m).bind fun n=>aa (.ag [gt n 0,gt n 1,gt n 2,gt n 3,gt n 4,gt n 5,gt n 6,gt n 7,gt n 8,gt n 9]))
 (aa (.ag [.u8 17,.u8 b,.b af,.u8 0,.u8 0,.u8 0,.u8 0,.b af,.u8 0,.s []]))
theorem aa2 (a b d e f g i j k l) {r:AV} (h:XG a b d e f g i j k l (aq (C mx) Tryz.prog) (a7 (C mx) Tryz.prog 104 Tryz.f104)=aa r):aq (C mx) Tryz.prog 104 [.ag [.u8 a,.u8 b,.b d,.u8 e,.u8 f,.u8 g,.u8 i,.b j,.u8 k,.s l]]=aa r :=
 bc (fun _ _=>by kernel_rfl) h
noncomputable def Hx:Code:=(fq.body).getD .skip
noncomputable def xk (run:RunT) (a b:ae) (d:ay) (e f g i:ae) (j:ay) (k:ae) (l:ai ae) (m n:ae) (o:ay) (p q s t:ae) (u:ay) (w:ae) (x:ai ae):ak AV :=
 run ((eV 21 Hx []).getD []) (St.fj [(4,.cell (.ptr 4 0)),(5,.cell (.ptr 5 0))] [(4,aa (cT a b d e f g i j k l)),(5,aa (cT m n o p q s t u w x))])
noncomputable def xl (run:RunT) (a b:ae) (d:ay) (e f g i:ae) (j:ay) (k:ae) (l:AV) (m n:ae) (o:ay) (p q s t:ae) (u:ay) (w:ae) (x:ai ae):ak AV :=
 run ((eV 27 Hx []).getD []) (St.fj [(2,.cell (.ptr 2 0)),(4,.cell (.ptr 4 0))] [(2,aa [.val (.u8 a),.val (.u8 b),.val (.b d),.val (.u8 e),.val (.u8 f),.val (.u8 g),.val (.u8 i),.val (.b j),.val (.u8 k),.val (l)]),(4,aa (cT m n o p q s t u w x))])
noncomputable def XH (a b:ae) (d:ay) (e f g i:ae) (j:ay) (k:ae) (l:ai ae) (m:ae) (c:bj) (r:RunT):ak AV :=
 a8 (.b (O5 g 4))
 (aa (.ag [.u8 a,.u8 b,.b d,.u8 e,.u8 f,.u8 g,.u8 i,.b j,.u8 k,.s l]))
 (a8 (.b (cD m 38))
 ((c 67 []).bind fun n=>(AV.cm 10 n).bind fun o=>aa (.ag [gt o 0,gt o 1,gt o 2,gt o 3,gt o 4,gt o 5,gt o 6,gt o 7,gt o 8,gt o 9]))
 ((bt (.b (cD m 63)) af (aa (.b (cD m 35))) (.b aj)).bind fun p=>a8 p
 (aa (.ag [.u8 a,.u8 b,.b d,.u8 e,.u8 f,.u8 4,.u8 i,.b j,.u8 k,.s []]))
 (a8 (.b (cD g 3))
 (aa (.ag [.u8 a,.u8 b,.b d,.u8 e,.u8 f,.u8 g,.u8 i,.b j,.u8 k,.s l]))
 (a8 (.b (cD m 47))
 (aa (.ag [.u8 a,.u8 b,.b d,.u8 e,.u8 f,.u8 3,.u8 i,.b j,.u8 k,.s []]))
 (a8 (.b (cD m 58))
 (a8 (.b (cD g 2))
 ((c 67 []).bind fun q=>(AV.cm 10 q).bind fun s=>aa (.ag [gt s 0,gt s 1,gt s 2,gt s 3,gt s 4,gt s 5,gt s 6,gt s 7,gt s 8,gt s 9]))
 ((bt (.b (l == [104,116,116,112])) af (aa (.b (l == [104,116,116,112,115]))) (.b aj)).bind fun t=>(bt t af (aa (.b (l == [109,97,105,108,116,111]))) (.b aj)).bind fun u=>a8 u
 (xk r 0 0 af 0 0 0 0 af 0 [] a b d e f 3 i j k [])
 (xk r 0 0 af 0 0 0 0 af 0 [] a b d e f 5 i j k [])))
 (a8 (.b (cD g 2))
 (aa (.ag [.u8 a,.u8 b,.b d,.u8 e,.u8 f,.u8 g,.u8 i,.b j,.u8 k,.s l]))
 (a8 (.b (decide (((l.length:aB)) < 16)))
 ((c 100 [.u8 m]).bind fun w=>(gR .add (.s l) w).bind fun x=>(AV.one x).bind fun y=>xl r a b d e f 1 i j k y 0 0 af 0 0 0 0 af 0 [])
 (xl r a b d e f 1 i j k (.s l) 0 0 af 0 0 0 0 af 0 []))))))))
theorem aa3 (a b d e f g i j k l m) {r:AV} (h:XH a b d e f g i j k l m (aq (C mx) Tryz.prog) (a7 (C mx) Tryz.prog 131 fq)=aa r):aq (C mx) Tryz.prog 131 [.ag [.u8 a,.u8 b,.b d,.u8 e,.u8 f,.u8 g,.u8 i,.b j,.u8 k,.s l],.u8 m]=aa r :=
 bc (fun _ _=>by kernel_rfl) h
noncomputable def PN (a b:ae) (d:ay) (e f g i:ae) (j:ay) (k:ae) (l:ai ae) (m n:ae) (o:ay) (p q s t:ae) (u:ay) (w:ae) (x:ai ae) (c:bj) (r:RunT):ak AV :=
 aa (.ag [.u8 m,.u8 n,.b o,.u8 p,.u8 q,.u8 s,.u8 t,.b u,.u8 w,.s x])
noncomputable def PO (a b:ae) (d:ay) (e f g i:ae) (j:ay) (k:ae) (l:AV) (m n:ae) (o:ay) (p q s t:ae) (u:ay) (w:ae) (x:ai ae) (c:bj) (r:RunT):ak AV :=
 aa (.ag [.u8 a,.u8 b,.b d,.u8 e,.u8 f,.u8 g,.u8 i,.b j,.u8 k,l])
theorem PQ (a b d e f g i j k l m n o p q s t u w x) {r:AV} (h:PN a b d e f g i j k l m n o p q s t u w x (aq (C mx) Tryz.prog) (a7 (C mx) Tryz.prog 131 fq)=aa r):xk (a7 (C mx) Tryz.prog 131 fq) a b d e f g i j k l m n o p q s t u w x=aa r :=
 bh (fun _ _=>by kernel_rfl) h
theorem PR (a b d e f g i j k l m n o p q s t u w x) {r:AV} (h:PO a b d e f g i j k l m n o p q s t u w x (aq (C mx) Tryz.prog) (a7 (C mx) Tryz.prog 131 fq)=aa r):xl (a7 (C mx) Tryz.prog 131 fq) a b d e f g i j k l m n o p q s t u w x=aa r :=
 bh (fun _ _=>by kernel_rfl) h
noncomputable def ru:Code:=(bS.body).getD .skip
noncomputable def B8 (run:RunT) (a b d:ae) (e:ay) (f g i j:ae) (k:ay) (l:ae) (m:ai ae) (n o:ae) (p:ay) (q s t u:ae) (w:ay) (x:ae) (y:ai ae):ak AV :=
 run ((eV 8 ru []).getD []) (St.fj [(1,.cell (.val (.u8 a))),(3,.cell (.ptr 3 0)),(6,.cell (.ptr 6 0))] [(3,aa (cT b d e f g i j k l m)),(6,aa (cT n o p q s t u w x y))])
noncomputable def xm (run:RunT) (a:ae) (b:aB) (d e:ae) (f:ay) (g i j k:ae) (l:ay) (m:ae) (n:ai ae) (o p:ae) (q:ay) (s t u w:ae) (x:ay) (y:ae) (z:ai ae):ak AV :=
 run ((eV 14 ru []).getD []) (St.fj [(1,.cell (.val (.u8 a))),(3,.cell (.ptr 3 0)),(6,.cell (.ptr 6 0)),(7,.cell (.val (.int b)))] [(3,aa (cT d e f g i j k l m n)),(6,aa (cT o p q s t u w x y z))])
noncomputable def B9 (run:RunT) (a:ae) (b:ay) (d:aB) (e f:ae) (g:ay) (i j k l:ae) (m:ay) (n:ae) (o:ai ae) (p q:ae) (s:ay) (t u w x:ae) (y:ay) (z:ae) (A:ai ae):ak AV :=
 run ((eV 23 ru []).getD []) (St.fj [(1,.cell (.val (.u8 a))),(2,.cell (.val (.b b))),(3,.cell (.ptr 3 0)),(6,.cell (.ptr 6 0)),(11,.cell (.val (.int d)))] [(3,aa (cT e f g i j k l m n o)),(6,aa (cT p q s t u w x y z A))])
noncomputable def xn (run:RunT) (a b d:ae) (e:ay) (f g i j:ae) (k:ay) (l:ae) (m:ai ae) (n o:ae) (p:ay) (q s t u:ae) (w:ay) (x:ae) (y:ai ae):ak AV :=
 run ((eV 10 ru []).getD []) (St.fj [(1,.cell (.val (.u8 a))),(3,.cell (.ptr 3 0)),(6,.cell (.ptr 6 0))] [(3,aa (cT b d e f g i j k l m)),(6,aa (cT n o p q s t u w x y))])
noncomputable def xp (run:RunT) (a:ae) (b:aB) (d e:ae) (f:ay) (g i j k:ae) (l:ay) (m:ae) (n:ai ae) (o p:ae) (q:ay) (s t u w:ae) (x:ay) (y:ae) (z:ai ae):ak AV :=
 run ((eV 19 ru []).getD []) (St.fj [(1,.cell (.val (.u8 a))),(3,.cell (.ptr 3 0)),(6,.cell (.ptr 6 0)),(7,.cell (.val (.int b)))] [(3,aa (cT d e f g i j k l m n)),(6,aa (cT o p q s t u w x y z))])
noncomputable def ku (run:RunT) (a b:ae) (d:ay) (e f g i:ae) (j:ay) (k:ae) (l:ai ae) (m n:ae) (o:ay) (p q s t:ae) (u:ay) (w:ae) (x:ai ae):ak AV :=
 run ((eV 45 ru []).getD []) (St.fj [(3,.cell (.ptr 3 0)),(6,.cell (.ptr 6 0))] [(3,aa (cT a b d e f g i j k l)),(6,aa (cT m n o p q s t u w x))])
noncomputable def Uk (a b:ae) (d:ay) (e f g i:ae) (j:ay) (k:ae) (l:ai ae) (m:ae) (n:ay) (c:bj) (r:RunT):ak AV :=
 a8 (.b ((eE (i.toNat:aB)) == 0))
 ((bt (.b n) aj (aa (.b (cD m 96))) (.b af)).bind fun o=>(bt o af ((bt (.b (!n)) aj ((bt (.b (cD m 40)) af (aa (.b (cD m 92))) (.b aj)).bind fun p=>aa p) (.b af)).bind fun q=>aa q) (.b aj)).bind fun s=>a8 s
 ((c 67 []).bind fun t=>(AV.cm 10 t).bind fun u=>aa (.ag [gt u 0,gt u 1,gt u 2,gt u 3,gt u 4,gt u 5,gt u 6,gt u 7,gt u 8,gt u 9]))
 (a8 (.b (cD m 34))
 (B8 r m a b d e f g 1 j k l 0 0 af 0 0 0 0 af 0 [])
 (B8 r m a b d e f g i j k l 0 0 af 0 0 0 0 af 0 [])))
 (a8 (.b ((eE (i.toNat:aB)) == 1))
 (xm r m (eE (i.toNat:aB)) a b d e f g i j k l 0 0 af 0 0 0 0 af 0 [])
 (a8 (.b ((eE (i.toNat:aB)) == 2))
 (xm r m (eE (i.toNat:aB)) a b d e f g i j k l 0 0 af 0 0 0 0 af 0 [])
 (B9 r m n (eE (i.toNat:aB)) a b d e f g i j k l 0 0 af 0 0 0 0 af 0 [])))
theorem XI (a b d e f g i j k l m n) {r:AV} (h:Uk a b d e f g i j k l m n (aq (C mx) Tryz.prog) (a7 (C mx) Tryz.prog 132 bS)=aa r):aq (C mx) Tryz.prog 132 [.ag [.u8 a,.u8 b,.b d,.u8 e,.u8 f,.u8 g,.u8 i,.b j,.u8 k,.s l],.u8 m,.b n]=aa r :=
 bc (fun _ _=>by kernel_rfl) h
noncomputable def Mk (a b d:ae) (e:ay) (f g i j:ae) (k:ay) (l:ae) (m:ai ae) (n o:ae) (p:ay) (q s t u:ae) (w:ay) (x:ae) (y:ai ae) (c:bj) (r:RunT):ak AV :=
 a8 (.b (cD a 39))
 (xn r a b d e f g i 2 k l m n o p q s t u w x y)
 (xn r a b d e f g i j k l m n o p q s t u w x y)
noncomputable def Hy (a:ae) (b:aB) (d e:ae) (f:ay) (g i j k:ae) (l:ay) (m:ae) (n:ai ae) (o p:ae) (q:ay) (s t u w:ae) (x:ay) (y:ae) (z:ai ae) (c:bj) (r:RunT):ak AV :=
 a8 (.b l)
 (aa (.ag [.u8 d,.u8 e,.b f,.u8 g,.u8 i,.u8 j,.u8 k,.b af,.u8 m,.s n]))
 (a8 (.b (cD a 92))
 (xp r a b d e f g i j k aj m n o p q s t u w x y z)
 (xp r a b d e f g i j k l m n o p q s t u w x y z))
noncomputable def Hz (a:ae) (b:ay) (d:aB) (e f:ae) (g:ay) (i j k l:ae) (m:ay) (n:ae) (o:ai ae) (p q:ae) (s:ay) (t u w x:ae) (y:ay) (z:ae) (A:ai ae) (c:bj) (r:RunT):ak AV :=
 a8 (.b (d == 3))
 (a8 (.b (cD a 42))
 (aa (.ag [.u8 e,.u8 f,.b g,.u8 i,.u8 j,.u8 k,.u8 5,.b m,.u8 n,.s o]))
 ((bt (.b b) aj (aa (.b (cD a 47))) (.b af)).bind fun B=>a8 B
 (aa (.ag [.u8 e,.u8 f,.b g,.u8 i,.u8 j,.u8 k,.u8 4,.b m,.u8 n,.s o]))
 (a8 (.b b)
 ((c 67 []).bind fun D=>(AV.cm 10 D).bind fun E=>aa (.ag [gt E 0,gt E 1,gt E 2,gt E 3,gt E 4,gt E 5,gt E 6,gt E 7,gt E 8,gt E 9]))
 ((c 132 [.ag [.u8 e,.u8 f,.b g,.u8 i,.u8 j,.u8 k,.u8 0,.b m,.u8 n,.s o],.u8 a,.b b]).bind fun G=>(AV.cm 10 G).bind fun H=>aa (.ag [gt H 0,gt H 1,gt H 2,gt H 3,gt H 4,gt H 5,gt H 6,gt H 7,gt H 8,gt H 9])))))
 (a8 (.b (d == 4))
 ((bt (.b (cD a 10)) af (aa (.b (cD a 13))) (.b aj)).bind fun I=>a8 I
 (ku r e f g i j k 0 m n o p q s t u w x y z A)
 (ku r e f g i j k l m n o p q s t u w x y z A))
 (a8 (.b (d == 5))
 (a8 (.b (cD a 42))
 (ku r e f g i j k 6 m n o p q s t u w x y z A)
 (ku r e f g i j k l m n o p q s t u w x y z A))
 (a8 (.b (d == 6))
 (a8 (.b (cD a 47))
 (ku r e f g i j k 0 m n o p q s t u w x y z A)
 (a8 (.b (uf a 42))
 (ku r e f g i j k 5 m n o p q s t u w x y z A)
 (ku r e f g i j k l m n o p q s t u w x y z A)))
 (ku r e f g i j k l m n o p q s t u w x y z A))))
noncomputable def HA (a b d:ae) (e:ay) (f g i j:ae) (k:ay) (l:ae) (m:ai ae) (n o:ae) (p:ay) (q s t u:ae) (w:ay) (x:ae) (y:ai ae) (c:bj) (r:RunT):ak AV :=
 a8 (.b (cD a 47))
 (ku r b d e f g i 3 k l m n o p q s t u w x y)
 (ku r b d e f g i j k l m n o p q s t u w x y)
noncomputable def HB (a:ae) (b:aB) (d e:ae) (f:ay) (g i j k:ae) (l:ay) (m:ae) (n:ai ae) (o p:ae) (q:ay) (s t u w:ae) (x:ay) (y:ae) (z:ai ae) (c:bj) (r:RunT):ak AV :=
 (bt (.b (cD a 10)) af (aa (.b (cD a 13))) (.b aj)).bind fun A=>a8 A
 ((c 67 []).bind fun B=>(AV.cm 10 B).bind fun D=>aa (.ag [gt D 0,gt D 1,gt D 2,gt D 3,gt D 4,gt D 5,gt D 6,gt D 7,gt D 8,gt D 9]))
 ((bt (.b (b == 1)) aj (aa (.b (cD a 34))) (.b af)).bind fun E=>(bt E af ((bt (.b (b == 2)) aj (aa (.b (cD a 39))) (.b af)).bind fun G=>aa G) (.b aj)).bind fun H=>a8 H
 (ku r d e f g i j 0 l m n o p q s t u w x y z)
 (ku r d e f g i j k l m n o p q s t u w x y z))
noncomputable def PS (a b:ae) (d:ay) (e f g i:ae) (j:ay) (k:ae) (l:ai ae) (m n:ae) (o:ay) (p q s t:ae) (u:ay) (w:ae) (x:ai ae) (c:bj) (r:RunT):ak AV :=
 aa (.ag [.u8 a,.u8 b,.b d,.u8 e,.u8 f,.u8 g,.u8 i,.b j,.u8 k,.s l])
theorem Ul (a b d e f g i j k l m n o p q s t u w x y) {r:AV} (h:Mk a b d e f g i j k l m n o p q s t u w x y (aq (C mx) Tryz.prog) (a7 (C mx) Tryz.prog 132 bS)=aa r):B8 (a7 (C mx) Tryz.prog 132 bS) a b d e f g i j k l m n o p q s t u w x y=aa r :=
 bh (fun _ _=>by kernel_rfl) h
theorem PT (a b d e f g i j k l m n o p q s t u w x y z) {r:AV} (h:Hy a b d e f g i j k l m n o p q s t u w x y z (aq (C mx) Tryz.prog) (a7 (C mx) Tryz.prog 132 bS)=aa r):xm (a7 (C mx) Tryz.prog 132 bS) a b d e f g i j k l m n o p q s t u w x y z=aa r :=
 bh (fun _ _=>by kernel_rfl) h
theorem PU (a b d e f g i j k l m n o p q s t u w x y z A) {r:AV} (h:Hz a b d e f g i j k l m n o p q s t u w x y z A (aq (C mx) Tryz.prog) (a7 (C mx) Tryz.prog 132 bS)=aa r):B9 (a7 (C mx) Tryz.prog 132 bS) a b d e f g i j k l m n o p q s t u w x y z A=aa r :=
 bh (fun _ _=>by kernel_rfl) h
theorem PV (a b d e f g i j k l m n o p q s t u w x y) {r:AV} (h:HA a b d e f g i j k l m n o p q s t u w x y (aq (C mx) Tryz.prog) (a7 (C mx) Tryz.prog 132 bS)=aa r):xn (a7 (C mx) Tryz.prog 132 bS) a b d e f g i j k l m n o p q s t u w x y=aa r :=
 bh (fun _ _=>by kernel_rfl) h
theorem PW (a b d e f g i j k l m n o p q s t u w x y z) {r:AV} (h:HB a b d e f g i j k l m n o p q s t u w x y z (aq (C mx) Tryz.prog) (a7 (C mx) Tryz.prog 132 bS)=aa r):xp (a7 (C mx) Tryz.prog 132 bS) a b d e f g i j k l m n o p q s t u w x y z=aa r :=
 bh (fun _ _=>by kernel_rfl) h
theorem PX (a b d e f g i j k l m n o p q s t u w x) {r:AV} (h:PS a b d e f g i j k l m n o p q s t u w x (aq (C mx) Tryz.prog) (a7 (C mx) Tryz.prog 132 bS)=aa r):ku (a7 (C mx) Tryz.prog 132 bS) a b d e f g i j k l m n o p q s t u w x=aa r :=
 bh (fun _ _=>by kernel_rfl) h
theorem s75 (c:Ctx) (b:ae) (feed:ay) (h:c.nm.length < 9223372036854775808):aq (C mx) Tryz.prog 75 [c.bw,.u8 b,.b feed]=aa (mv c b feed).bw:=by
 apply zN
 simp only [X75,cg,cq,Mf (h:=h),Option.bind_some,et,ba]
 cases hf:form c with
 | true =>
  rw [aI (by simp)]
  exact l75 b feed 4 c _ (by have:=BJ c hf;omega) (BI c b feed hf)
 | false =>
  rw [aJ (by simp),Fc c b feed hf];rfl
theorem s62 (c:Ctx) (b:ae) (h:c.nm.length < 9223372036854775808):aq (C mx) Tryz.prog 62 [c.bw,.u8 b]=aa (pI c b).bw:=by
 apply c62
 simp only [X62,cg,cq,s75 (h:=h),Option.bind_some,bm,zT]
 rfl
section
variable (c:Ctx) (b:ae)
theorem Ca:aq (C mx) Tryz.prog 67 []=aa dp.bw:=by
 apply c67
 rfl
theorem J7 (x:ae):aq (C mx) Tryz.prog 98 [.int (x.toNat:aB)]=aa (ea x).bw:=by
 apply c98
 simp only [X98,ve,Option.bind_some,jZ]
 rfl
theorem s99:aq (C mx) Tryz.prog 99 [.u8 b]=aa (.b (letter b)):=by
 apply c99
 simp only [X99,jO,j4,Option.bind_some,b9,cy,letter]
theorem FB:aq (C mx) Tryz.prog 101 [.u8 b]=aa (.b (dT b)):=by
 apply aa0
 refine S8 ?_
 revert b
 exact l8 (by kernel_rfl)
theorem Ml:aq (C mx) Tryz.prog 100 [.u8 b]=aa (.s [lC b]):=by
 have f (x:ae):B7 (a7 (C mx) Tryz.prog 100 gV) (.u8 x)=aa (.s [x]):=by
  apply Uj
  simp only [Mj,jZ,nZ,Option.bind_some]
 apply aaY
 simp only [XE,jO,j4,Option.bind_some,b9,ba,E6,f,lC]
 split <;> rfl
theorem Um:aq (C mx) Tryz.prog 103 [c.bw,.u8 b]=aa (grown c b).bw:=by
 apply aa1
 simp only [XF,Ml,Ca,Option.bind_some,ba,grown,cL,bm,zT]
 have e:decide ((c.nm.length:aB) ≥ 32)=decide (32≤c.nm.length):=by rw [decide_eq_decide];omega
 rw [e]
 by_cases h:32≤c.nm.length
 ·rw [aJ (by simpa using h),aJ (by simpa using h)];rfl
 ·rw [aI (by simpa using h),aI (by simpa using h),qp (by simp;omega)];rfl
theorem Un:aq (C mx) Tryz.prog 104 [c.bw]=aa (ou c.el).bw:=by
 apply aa2
 have:=J7 (mx:=mx) 0
 simp only [XG,cC,ba,show ((0:ae).toNat:aB)=0 from rfl] at this ⊢
 simp only [this,Option.bind_some,bm,zT,Jn,cL]
 rfl
theorem aa4 (h:c.nm.length≤100):aq (C mx) Tryz.prog 131 [c.bw,.u8 b]=aa (BK c b).bw:=by
 have f (d:Ctx):xl (a7 (C mx) Tryz.prog 131 fq) d.st d.el d.en d.at' d.qu d.pa d.su d.es d.da (.s d.nm) 0 0 af 0 0 0 0 af 0 []=aa d.bw:=by
  apply PR
  rfl
 have g (d:Ctx):xk (a7 (C mx) Tryz.prog 131 fq) 0 0 af 0 0 0 0 af 0 [] d.st d.el d.en d.at' d.qu d.pa d.su d.es d.da d.nm=aa d.bw:=by
  apply PQ
  rfl
 have e:decide ((c.nm.length:aB) < 16)=decide (c.nm.length < 16):=by rw [decide_eq_decide];omega
 have a1:gR .add (.s c.nm) (.s [lC b])=aa (.s (c.nm ++ [lC b])):=qp (by simp;omega)
 apply aa3
 simp only [XH,cC,jO,Option.bind_some,cy,b9,ba,Ml,Ca,a1,e,mI,bm,zT,BK,cL]
 rw [g { c with pa:=3,nm:=[] },g { c with pa:=5,nm:=[] },f { c with pa:=1 },f { c with pa:=1,nm:=c.nm ++ [lC b] },show (c.nm == [104,116,116,112] || c.nm == [104,116,116,112,115] || c.nm == [109,97,105,108,116,111])=DT c.nm from rfl]
 rfl
theorem XJ (script:ay):aq (C mx) Tryz.prog 132 [c.bw,.u8 b,.b script]=aa (code c b script).bw:=by
 have f (d:Ctx):ku (a7 (C mx) Tryz.prog 132 bS) d.st d.el d.en d.at' d.qu d.pa d.su d.es d.da d.nm 0 0 af 0 0 0 0 af 0 []=aa d.bw:=by
  apply PX
  rfl
 have f10 (d:Ctx):xn (a7 (C mx) Tryz.prog 132 bS) b d.st d.el d.en d.at' d.qu d.pa d.su d.es d.da d.nm 0 0 af 0 0 0 0 af 0 []=aa (if b == 47 then { d with su:=3 } else d:Ctx).bw:=by
  apply PV
  simp only [HA,cC,ba,cL]
  rw [f d,f { d with su:=3 }]
 have f8 (d:Ctx):B8 (a7 (C mx) Tryz.prog 132 bS) b d.st d.el d.en d.at' d.qu d.pa d.su d.es d.da d.nm 0 0 af 0 0 0 0 af 0 []=aa (if b == 39 then (if b == 47 then { d with su:=3 } else { d with su:=2 }) else (if b == 47 then { d with su:=3 } else d):Ctx).bw:=by
  apply Ul
  simp only [Mk,cC,ba,cL]
  rw [f10 d,f10 { d with su:=2 }]
  simp only [cL]
 have z (d:Ctx) (hd:(d.su == 0)=aj):aq (C mx) Tryz.prog 132 [d.bw,.u8 b,.b script]=aa (qq d b script).bw:=by
  apply XI
  simp only [Uk,ny,fN _ _ (show 0 < 256 by decide),cC,Option.bind_some,cy,b9,ba,Ca,bm,zT]
  rw [show (d.su == OfNat.ofNat 0)=aj from hd,aJ rfl,f8 d,f8 { d with su:=1 }]
  simp only [qq,cL]
  rfl
 have f19 (d:Ctx):xp (a7 (C mx) Tryz.prog 132 bS) b (d.su.toNat:aB) d.st d.el d.en d.at' d.qu d.pa d.su d.es d.da d.nm 0 0 af 0 0 0 0 af 0 []=aa (if b == 10 || b == 13 then dp else if d.su == 1 && b == 34 || d.su == 2 && b == 39 then { d with su:=0 } else d:Ctx).bw:=by
  apply PW
  simp only [HB,fN _ _ (show 1 < 256 by decide),fN _ _ (show 2 < 256 by decide),cC,Option.bind_some,cy,b9,ba,Ca,bm,zT,cL]
  rw [f d,f { d with su:=0 }]
  rfl
 have f14 (d:Ctx):xm (a7 (C mx) Tryz.prog 132 bS) b (d.su.toNat:aB) d.st d.el d.en d.at' d.qu d.pa d.su d.es d.da d.nm 0 0 af 0 0 0 0 af 0 []=aa (Al d b).bw:=by
  apply PT
  simp only [Hy,cC,Option.bind_some,ba]
  rw [f19 d,f19 { d with es:=aj }]
  simp only [Al,cL]
  rfl
 have f23 (d:Ctx):B9 (a7 (C mx) Tryz.prog 132 bS) b script (d.su.toNat:aB) d.st d.el d.en d.at' d.qu d.pa d.su d.es d.da d.nm 0 0 af 0 0 0 0 af 0 [] =
   aa (if d.su == 3 then (if b == 42 then { d with su:=5 } else if script && b == 47 then { d with su:=4 } else if script then dp else qq { d with su:=0 } b script)
 else if d.su == 4 then (if b == 10 || b == 13 then { d with su:=0 } else d)
 else if d.su == 5 then (if b == 42 then { d with su:=6 } else d)
 else if d.su == 6 then (if b == 47 then { d with su:=0 } else if b != 42 then { d with su:=5 } else d) else d:Ctx).bw:=by
  apply PU
  have z':=z { d with su:=0 } rfl
  simp only [Hz,fN _ _ (show 3 < 256 by decide),fN _ _ (show 4 < 256 by decide),fN _ _ (show 5 < 256 by decide),fN _ _ (show 6 < 256 by decide),cC,iv,Option.bind_some,cy,b9,ba,Ca,cg,z',bm,zT,cL]
  rw [f d,f { d with su:=0 },f { d with su:=5 },f { d with su:=6 }]
  try rfl
 rw [← yn]
 apply XI
 simp only [Uk,ny,fN _ _ (show 0 < 256 by decide),fN _ _ (show 1 < 256 by decide),fN _ _ (show 2 < 256 by decide),cC,Option.bind_some,cy,b9,ba,Ca,bm,zT]
 rw [f8 c,f8 { c with su:=1 },f14 c,f23 c]
 simp only [pJ,qq,cL]
 rfl
end
noncomputable def yE:Code:=(cO.body).getD .skip
noncomputable def Cb (run:RunT) (a b d:ae) (e:ay) (f g i j:ae) (k:ay) (l:ae) (m:ai ae) (n:ae) (o:AV) (p:ay) (q s t u:ae) (w:ay) (x:ae) (y:ai ae):ak AV :=
 run ((eV 27 yE []).getD []) (St.fj [(1,.cell (.val (.u8 a))),(4,.cell (.ptr 4 0)),(5,.cell (.ptr 5 0))] [(4,aa (cT b d e f g i j k l m)),(5,aa [.val (.u8 n),.val o,.val (.b p),.val (.u8 q),.val (.u8 s),.val (.u8 t),.val (.u8 u),.val (.b w),.val (.u8 x),.val (.s y)])])
noncomputable def Ce (run:RunT) (a b d:ae) (e:ay) (f g i j:ae) (k:ay) (l:ae) (m:ai ae) (n o:ae) (p:ay) (q s t u:ae) (w:ay) (x:ae) (y:ai ae) (z A:ae) (B:ay) (D E G H:ae) (I:ay) (J:ae) (L:ai ae):ak AV :=
 run ((eV 57 yE []).getD []) (St.fj [(1,.cell (.val (.u8 a))),(2,.cell (.ptr 2 0)),(4,.cell (.ptr 4 0)),(5,.cell (.ptr 5 0))] [(2,aa (cT b d e f g i j k l m)),(4,aa (cT n o p q s t u w x y)),(5,aa (cT z A B D E G H I J L))])
noncomputable def Mm (run:RunT) (a:ae) (b:aB) (d e:ae) (f:ay) (g i j k:ae) (l:ay) (m:ae) (n:ai ae) (o p:ae) (q:ay) (s t u w:ae) (x:ay) (y:ae) (z:ai ae) (A B:ae) (D:ay) (E G H I:ae) (J:ay) (L:ae) (M:ai ae):ak AV :=
 run ((eV 58 yE []).getD []) (St.fj [(1,.cell (.val (.u8 a))),(2,.cell (.ptr 2 0)),(4,.cell (.ptr 4 0)),(5,.cell (.ptr 5 0)),(13,.cell (.val (.int b)))] [(2,aa (cT d e f g i j k l m n)),(4,aa (cT o p q s t u w x y z)),(5,aa (cT A B D E G H I J L M))])
noncomputable def yF (run:RunT) (a b d:ae) (e:ay) (f g i j:ae) (k:ay) (l:ae) (m:ai ae) (n o:ae) (p:ay) (q s t u:ae) (w:ay) (x:ae) (y:ai ae):ak AV :=
 run ((eV 73 yE []).getD []) (St.fj [(1,.cell (.val (.u8 a))),(2,.cell (.ptr 2 0)),(4,.cell (.ptr 4 0))] [(2,aa (cT b d e f g i j k l m)),(4,aa (cT n o p q s t u w x y))])
noncomputable def FC (run:RunT) (a b d:ae) (e:ay) (f g i j:ae) (k:ay) (l:ae) (m:ai ae) (n o:ae) (p:ay) (q s t u:ae) (w:ay) (x:ae) (y:ai ae):ak AV :=
 run ((eV 74 yE []).getD []) (St.fj [(1,.cell (.val (.u8 a))),(2,.cell (.ptr 2 0)),(4,.cell (.ptr 4 0))] [(2,aa (cT b d e f g i j k l m)),(4,aa (cT n o p q s t u w x y))])
noncomputable def Av (a b:ae) (d:ay) (e f g i:ae) (j:ay) (k:ae) (l:ai ae) (m:ae) (c:bj) (r:RunT):ak AV :=
 a8 (.b ((eE (a.toNat:aB)) == 0))
 (a8 (.b (cD m 60))
 ((c 98 [.int 1]).bind fun n=>(AV.cm 10 n).bind fun o=>aa (.ag [gt o 0,gt o 1,gt o 2,gt o 3,gt o 4,gt o 5,gt o 6,gt o 7,gt o 8,gt o 9]))
 (aa (.ag [.u8 a,.u8 b,.b d,.u8 e,.u8 f,.u8 g,.u8 i,.b j,.u8 k,.s l])))
 (a8 (.b ((eE (a.toNat:aB)) == 1))
 ((c 99 [.u8 m]).bind fun p=>a8 p
 ((c 100 [.u8 m]).bind fun q=>(AV.one q).bind fun s=>aa (.ag [.u8 3,.u8 0,.b af,.u8 0,.u8 0,.u8 0,.u8 0,.b af,.u8 0,s]))
 (a8 (.b (cD m 47))
 ((c 98 [.int 2]).bind fun t=>(AV.cm 10 t).bind fun u=>aa (.ag [gt u 0,gt u 1,gt u 2,gt u 3,gt u 4,gt u 5,gt u 6,gt u 7,gt u 8,gt u 9]))
 (a8 (.b (cD m 33))
 ((c 98 [.int 11]).bind fun w=>(AV.cm 10 w).bind fun x=>aa (.ag [gt x 0,gt x 1,gt x 2,gt x 3,gt x 4,gt x 5,gt x 6,gt x 7,gt x 8,gt x 9]))
 (a8 (.b (cD m 63))
 ((c 98 [.int 16]).bind fun y=>(AV.cm 10 y).bind fun z=>aa (.ag [gt z 0,gt z 1,gt z 2,gt z 3,gt z 4,gt z 5,gt z 6,gt z 7,gt z 8,gt z 9]))
 ((c 98 [.int 0]).bind fun A=>(c 77 [A,.u8 m]).bind fun B=>(AV.cm 10 B).bind fun D=>aa (.ag [gt D 0,gt D 1,gt D 2,gt D 3,gt D 4,gt D 5,gt D 6,gt D 7,gt D 8,gt D 9]))))))
 (a8 (.b ((eE (a.toNat:aB)) == 2))
 ((c 99 [.u8 m]).bind fun E=>a8 E
 ((c 100 [.u8 m]).bind fun G=>(AV.one G).bind fun H=>aa (.ag [.u8 3,.u8 0,.b aj,.u8 0,.u8 0,.u8 0,.u8 0,.b af,.u8 0,H]))
 (a8 (.b (cD m 62))
 ((c 98 [.int 0]).bind fun I=>(AV.cm 10 I).bind fun J=>aa (.ag [gt J 0,gt J 1,gt J 2,gt J 3,gt J 4,gt J 5,gt J 6,gt J 7,gt J 8,gt J 9]))
 ((c 98 [.int 16]).bind fun L=>(AV.cm 10 L).bind fun M=>aa (.ag [gt M 0,gt M 1,gt M 2,gt M 3,gt M 4,gt M 5,gt M 6,gt M 7,gt M 8,gt M 9]))))
 (a8 (.b ((eE (a.toNat:aB)) == 3))
 ((c 101 [.u8 m]).bind fun N=>(bt N af (aa (.b (cD m 47))) (.b aj)).bind fun O=>(bt O af (aa (.b (cD m 62))) (.b aj)).bind fun P=>a8 P
 (a8 (.b (!d))
 ((c 102 [.s l]).bind fun Q=>(conv .u8 Q).bind fun R=>(AV.one R).bind fun T=>Cb r m 0 0 af 0 0 0 0 af 0 [] 0 T d 0 0 0 0 af 0 [])
 (Cb r m 0 0 af 0 0 0 0 af 0 [] 0 (.u8 b) d 0 0 0 0 af 0 []))
 ((c 103 [.ag [.u8 a,.u8 b,.b d,.u8 e,.u8 f,.u8 g,.u8 i,.b j,.u8 k,.s l],.u8 m]).bind fun U=>(AV.cm 10 U).bind fun V=>aa (.ag [gt V 0,gt V 1,gt V 2,gt V 3,gt V 4,gt V 5,gt V 6,gt V 7,gt V 8,gt V 9])))
 (a8 (.b ((eE (a.toNat:aB)) == 9))
 ((c 101 [.u8 m]).bind fun W=>a8 W
 (aa (.ag [.u8 4,.u8 b,.b d,.u8 0,.u8 0,.u8 0,.u8 0,.b af,.u8 0,.s []]))
 (a8 (.b (cD m 47))
 (aa (.ag [.u8 10,.u8 b,.b d,.u8 0,.u8 0,.u8 0,.u8 0,.b af,.u8 0,.s []]))
 (a8 (.b (cD m 62))
 ((c 104 [.ag [.u8 a,.u8 b,.b d,.u8 e,.u8 f,.u8 g,.u8 i,.b j,.u8 k,.s l]]).bind fun Y=>(AV.cm 10 Y).bind fun Z=>aa (.ag [gt Z 0,gt Z 1,gt Z 2,gt Z 3,gt Z 4,gt Z 5,gt Z 6,gt Z 7,gt Z 8,gt Z 9]))
 ((c 67 []).bind fun v0=>(AV.cm 10 v0).bind fun v1=>aa (.ag [gt v1 0,gt v1 1,gt v1 2,gt v1 3,gt v1 4,gt v1 5,gt v1 6,gt v1 7,gt v1 8,gt v1 9])))))
 (a8 (.b ((eE (a.toNat:aB)) == 10))
 (a8 (.b (cD m 62))
 ((c 104 [.ag [.u8 a,.u8 b,.b d,.u8 e,.u8 f,.u8 g,.u8 i,.b j,.u8 k,.s l]]).bind fun v2=>(AV.cm 10 v2).bind fun v3=>aa (.ag [gt v3 0,gt v3 1,gt v3 2,gt v3 3,gt v3 4,gt v3 5,gt v3 6,gt v3 7,gt v3 8,gt v3 9]))
 ((c 77 [.ag [.u8 4,.u8 b,.b d,.u8 0,.u8 0,.u8 0,.u8 0,.b af,.u8 0,.s []],.u8 m]).bind fun v4=>(AV.cm 10 v4).bind fun v5=>aa (.ag [gt v5 0,gt v5 1,gt v5 2,gt v5 3,gt v5 4,gt v5 5,gt v5 6,gt v5 7,gt v5 8,gt v5 9])))
 (a8 (.b ((eE (a.toNat:aB)) == 4))
 ((c 101 [.u8 m]).bind fun v6=>a8 v6
 (aa (.ag [.u8 a,.u8 b,.b d,.u8 e,.u8 f,.u8 g,.u8 i,.b j,.u8 k,.s l]))
 ((bt (.b (cD m 47)) af (aa (.b (cD m 62))) (.b aj)).bind fun v7=>a8 v7
 ((c 77 [.ag [.u8 9,.u8 b,.b d,.u8 0,.u8 0,.u8 0,.u8 0,.b af,.u8 0,.s []],.u8 m]).bind fun v8=>(AV.cm 10 v8).bind fun v9=>aa (.ag [gt v9 0,gt v9 1,gt v9 2,gt v9 3,gt v9 4,gt v9 5,gt v9 6,gt v9 7,gt v9 8,gt v9 9]))
 (a8 (.b (cD m 61))
 ((c 67 []).bind fun w0=>(AV.cm 10 (w0)).bind fun w1=>aa (.ag [gt w1 0,gt w1 1,gt w1 2,gt w1 3,gt w1 4,gt w1 5,gt w1 6,gt w1 7,gt w1 8,gt w1 9]))
 ((c 77 [.ag [.u8 5,.u8 b,.b d,.u8 0,.u8 0,.u8 0,.u8 0,.b af,.u8 0,.s []],.u8 m]).bind fun w2=>(AV.cm 10 (w2)).bind fun w3=>aa (.ag [gt w3 0,gt w3 1,gt w3 2,gt w3 3,gt w3 4,gt w3 5,gt w3 6,gt w3 7,gt w3 8,gt w3 9])))))
 (a8 (.b ((eE (a.toNat:aB)) == 5))
 (Ce r m a b d e f g i j k l 0 0 af 0 0 0 0 af 0 [] 0 b d 0 0 0 0 af 0 [])
 (a8 (.b ((eE (a.toNat:aB)) == 6))
 (Ce r m a b d e f g i j k l 0 0 af 0 0 0 0 af 0 [] 0 b d 0 0 0 0 af 0 [])
 (Mm r m (eE (a.toNat:aB)) a b d e f g i j k l 0 0 af 0 0 0 0 af 0 [] 0 b d 0 0 0 0 af 0 [])))))))))
theorem c77 (a b d e f g i j k l m) {r:AV} (h:Av a b d e f g i j k l m (aq (C mx) Tryz.prog) (a7 (C mx) Tryz.prog 77 cO)=aa r):aq (C mx) Tryz.prog 77 [.ag [.u8 a,.u8 b,.b d,.u8 e,.u8 f,.u8 g,.u8 i,.b j,.u8 k,.s l],.u8 m]=aa r :=
 bc (fun _ _=>by kernel_rfl) h
noncomputable def Mo (a b d:ae) (e:ay) (f g i j:ae) (k:ay) (l:ae) (m:ai ae) (n:ae) (o:AV) (p:ay) (q s t u:ae) (w:ay) (x:ae) (y:ai ae) (c:bj) (r:RunT):ak AV :=
 (c 77 [.ag [.u8 9,o,.b p,.u8 q,.u8 s,.u8 t,.u8 u,.b w,.u8 x,.s y],.u8 a]).bind fun z=>(AV.cm 10 z).bind fun A=>aa (.ag [gt A 0,gt A 1,gt A 2,gt A 3,gt A 4,gt A 5,gt A 6,gt A 7,gt A 8,gt A 9])
noncomputable def Mp (a b d:ae) (e:ay) (f g i j:ae) (k:ay) (l:ae) (m:ai ae) (n o:ae) (p:ay) (q s t u:ae) (w:ay) (x:ae) (y:ai ae) (z A:ae) (B:ay) (D E G H:ae) (I:ay) (J:ae) (L:ai ae) (c:bj) (r:RunT):ak AV :=
 (c 105 [.ag [.u8 b,.u8 d,.b e,.u8 f,.u8 g,.u8 i,.u8 j,.b k,.u8 l,.s m],.ag [.u8 z,.u8 A,.b B,.u8 D,.u8 E,.u8 G,.u8 H,.b I,.u8 J,.s L],.u8 a]).bind fun M=>(AV.cm 10 M).bind fun N=>aa (.ag [gt N 0,gt N 1,gt N 2,gt N 3,gt N 4,gt N 5,gt N 6,gt N 7,gt N 8,gt N 9])
noncomputable def l9 (a:ae) (b:aB) (d e:ae) (f:ay) (g i j k:ae) (l:ay) (m:ae) (n:ai ae) (o p:ae) (q:ay) (s t u w:ae) (x:ay) (y:ae) (z:ai ae) (A B:ae) (D:ay) (E G H I:ae) (J:ay) (L:ae) (M:ai ae) (c:bj) (r:RunT):ak AV :=
 a8 (.b (b == 7))
 ((c 101 [.u8 a]).bind fun N=>a8 N
 (aa (.ag [.u8 d,.u8 e,.b f,.u8 g,.u8 i,.u8 j,.u8 k,.b l,.u8 m,.s n]))
 (a8 (.b (cD a 62))
 ((c 67 []).bind fun O=>(AV.cm 10 O).bind fun P=>aa (.ag [gt P 0,gt P 1,gt P 2,gt P 3,gt P 4,gt P 5,gt P 6,gt P 7,gt P 8,gt P 9]))
 ((bt (.b (cD a 34)) af (aa (.b (cD a 39))) (.b aj)).bind fun Q=>a8 Q
 (aa (.ag [.u8 8,.u8 e,.b f,.u8 g,.u8 a,.u8 j,.u8 k,.b l,.u8 m,.s n]))
 ((c 77 [.ag [.u8 8,.u8 e,.b f,.u8 g,.u8 i,.u8 j,.u8 k,.b l,.u8 m,.s n],.u8 a]).bind fun R=>(AV.cm 10 R).bind fun T=>aa (.ag [gt T 0,gt T 1,gt T 2,gt T 3,gt T 4,gt T 5,gt T 6,gt T 7,gt T 8,gt T 9])))))
 (a8 (.b (b == 8))
 ((c 106 [.ag [.u8 d,.u8 e,.b f,.u8 g,.u8 i,.u8 j,.u8 k,.b l,.u8 m,.s n],.ag [.u8 A,.u8 B,.b D,.u8 E,.u8 G,.u8 H,.u8 I,.b J,.u8 L,.s M],.u8 a]).bind fun U=>(AV.cm 10 U).bind fun V=>aa (.ag [gt V 0,gt V 1,gt V 2,gt V 3,gt V 4,gt V 5,gt V 6,gt V 7,gt V 8,gt V 9]))
 (a8 (.b (b == 17))
 (yF r a d e f g i j k l m n o p q s t u w x y z)
 (a8 (.b (b == 18))
 (yF r a d e f g i j k l m n o p q s t u w x y z)
 (a8 (.b (b == 19))
 (yF r a d e f g i j k l m n o p q s t u w x y z)
 (FC r a d e f g i j k l m n o p q s t u w x y z)))))
noncomputable def Mq (a b d:ae) (e:ay) (f g i j:ae) (k:ay) (l:ae) (m:ai ae) (n o:ae) (p:ay) (q s t u:ae) (w:ay) (x:ae) (y:ai ae) (c:bj) (r:RunT):ak AV :=
 (c 107 [.ag [.u8 b,.u8 d,.b e,.u8 f,.u8 g,.u8 i,.u8 j,.b k,.u8 l,.s m],.u8 a]).bind fun z=>(AV.cm 10 z).bind fun A=>aa (.ag [gt A 0,gt A 1,gt A 2,gt A 3,gt A 4,gt A 5,gt A 6,gt A 7,gt A 8,gt A 9])
noncomputable def Mt (a b d:ae) (e:ay) (f g i j:ae) (k:ay) (l:ae) (m:ai ae) (n o:ae) (p:ay) (q s t u:ae) (w:ay) (x:ae) (y:ai ae) (c:bj) (r:RunT):ak AV :=
 (c 108 [.ag [.u8 b,.u8 d,.b e,.u8 f,.u8 g,.u8 i,.u8 j,.b k,.u8 l,.s m],.u8 a]).bind fun z=>(AV.cm 10 z).bind fun A=>aa (.ag [gt A 0,gt A 1,gt A 2,gt A 3,gt A 4,gt A 5,gt A 6,gt A 7,gt A 8,gt A 9])
theorem Uo (a b d e f g i j k l m n o p q s t u w x y) {r:AV} (h:Mo a b d e f g i j k l m n o p q s t u w x y (aq (C mx) Tryz.prog) (a7 (C mx) Tryz.prog 77 cO)=aa r):Cb (a7 (C mx) Tryz.prog 77 cO) a b d e f g i j k l m n o p q s t u w x y=aa r :=
 bh (fun _ _=>by kernel_rfl) h
theorem Uq (a b d e f g i j k l m n o p q s t u w x y z A B D E G H I J L) {r:AV} (h:Mp a b d e f g i j k l m n o p q s t u w x y z A B D E G H I J L (aq (C mx) Tryz.prog) (a7 (C mx) Tryz.prog 77 cO)=aa r):Ce (a7 (C mx) Tryz.prog 77 cO) a b d e f g i j k l m n o p q s t u w x y z A B D E G H I J L=aa r :=
 bh (fun _ _=>by kernel_rfl) h
theorem mC (a b d e f g i j k l m n o p q s t u w x y z A B D E G H I J L M) {r:AV} (h:l9 a b d e f g i j k l m n o p q s t u w x y z A B D E G H I J L M (aq (C mx) Tryz.prog) (a7 (C mx) Tryz.prog 77 cO)=aa r):Mm (a7 (C mx) Tryz.prog 77 cO) a b d e f g i j k l m n o p q s t u w x y z A B D E G H I J L M=aa r :=
 bh (fun _ _=>by kernel_rfl) h
theorem Ur (a b d e f g i j k l m n o p q s t u w x y) {r:AV} (h:Mq a b d e f g i j k l m n o p q s t u w x y (aq (C mx) Tryz.prog) (a7 (C mx) Tryz.prog 77 cO)=aa r):yF (a7 (C mx) Tryz.prog 77 cO) a b d e f g i j k l m n o p q s t u w x y=aa r :=
 bh (fun _ _=>by kernel_rfl) h
theorem Us (a b d e f g i j k l m n o p q s t u w x y) {r:AV} (h:Mt a b d e f g i j k l m n o p q s t u w x y (aq (C mx) Tryz.prog) (a7 (C mx) Tryz.prog 77 cO)=aa r):FC (a7 (C mx) Tryz.prog 77 cO) a b d e f g i j k l m n o p q s t u w x y=aa r :=
 bh (fun _ _=>by kernel_rfl) h
noncomputable def Cf:Code:=(dK.body).getD .skip
noncomputable def xr (run:RunT) (a b d:ae) (e:ay) (f g i j:ae) (k:ay) (l:ae) (m:ai ae) (n o:ae) (p:ay) (q s t u:ae) (w:ay) (x:ae) (y:ai ae):ak AV :=
 run ((eV 17 Cf []).getD []) (St.fj [(2,.cell (.val (.u8 a))),(3,.cell (.ptr 3 0)),(6,.cell (.ptr 6 0))] [(3,aa (cT b d e f g i j k l m)),(6,aa (cT n o p q s t u w x y))])
noncomputable def xt (run:RunT) (a b d:ae) (e:ay) (f g i j:ae) (k:ay) (l:ae) (m:ai ae) (n o:ae) (p:ay) (q s t u:ae) (w:ay) (x:ae) (y:ai ae):ak AV :=
 run ((eV 22 Cf []).getD []) (St.fj [(2,.cell (.val (.u8 a))),(3,.cell (.ptr 3 0)),(6,.cell (.ptr 6 0))] [(3,aa (cT b d e f g i j k l m)),(6,aa (cT n o p q s t u w x y))])
noncomputable def Cg (run:RunT) (a b:ae) (d:ay) (e f g i:ae) (j:ay) (k:ae) (l:ai ae) (m n:ae) (o:ay) (p q s t:ae) (u:ay) (w:ae) (x:ai ae):ak AV :=
 run ((eV 25 Cf []).getD []) (St.fj [(3,.cell (.ptr 3 0)),(6,.cell (.ptr 6 0))] [(3,aa (cT a b d e f g i j k l)),(6,aa (cT m n o p q s t u w x))])
noncomputable def XK (a b:ae) (d:ay) (e f g i:ae) (j:ay) (k:ae) (l:ai ae) (m n:ae) (o:ay) (p q s t:ae) (u:ay) (w:ae) (x:ai ae) (y:ae) (c:bj) (r:RunT):ak AV :=
 (bt (.b (cD i 0)) af (aa (.b (cD i 4))) (.b aj)).bind fun z=>(bt (.b (uf f 0)) aj (aa (.b (cD y f))) (.b af)).bind fun A=>a8 A
 ((unop .not z).bind fun B=>a8 B
 ((c 67 []).bind fun D=>(AV.cm 10 D).bind fun E=>aa (.ag [gt E 0,gt E 1,gt E 2,gt E 3,gt E 4,gt E 5,gt E 6,gt E 7,gt E 8,gt E 9]))
 (aa (.ag [.u8 9,.u8 n,.b o,.u8 p,.u8 q,.u8 s,.u8 t,.b u,.u8 w,.s x])))
 (a8 (.b (cD f 0))
 ((c 101 [.u8 y]).bind fun G=>(bt G af (aa (.b (cD y 62))) (.b aj)).bind fun H=>a8 H
 ((unop .not z).bind fun I=>a8 I
 ((c 67 []).bind fun J=>(AV.cm 10 J).bind fun L=>aa (.ag [gt L 0,gt L 1,gt L 2,gt L 3,gt L 4,gt L 5,gt L 6,gt L 7,gt L 8,gt L 9]))
 (a8 (.b (cD y 62))
 ((c 104 [.ag [.u8 a,.u8 b,.b d,.u8 e,.u8 f,.u8 g,.u8 i,.b j,.u8 k,.s l]]).bind fun M=>(AV.cm 10 M).bind fun N=>aa (.ag [gt N 0,gt N 1,gt N 2,gt N 3,gt N 4,gt N 5,gt N 6,gt N 7,gt N 8,gt N 9]))
 (aa (.ag [.u8 4,.u8 n,.b o,.u8 p,.u8 q,.u8 s,.u8 t,.b u,.u8 w,.s x]))))
 ((bt (.b (cD y 34)) af (aa (.b (cD y 39))) (.b aj)).bind fun O=>(bt O af (aa (.b (cD y 60))) (.b aj)).bind fun P=>(bt P af (aa (.b (cD y 61))) (.b aj)).bind fun Q=>(bt Q af (aa (.b (cD y 96))) (.b aj)).bind fun R=>a8 R
 ((c 67 []).bind fun T=>(AV.cm 10 T).bind fun U=>aa (.ag [gt U 0,gt U 1,gt U 2,gt U 3,gt U 4,gt U 5,gt U 6,gt U 7,gt U 8,gt U 9]))
 (xr r y a b d e f g i j k l 0 0 af 0 0 0 0 af 0 [])))
 (xr r y a b d e f g i j k l 0 0 af 0 0 0 0 af 0 []))
theorem aa5 (a b d e f g i j k l m n o p q s t u w x y) {r:AV} (h:XK a b d e f g i j k l m n o p q s t u w x y (aq (C mx) Tryz.prog) (a7 (C mx) Tryz.prog 106 dK)=aa r):aq (C mx) Tryz.prog 106 [.ag [.u8 a,.u8 b,.b d,.u8 e,.u8 f,.u8 g,.u8 i,.b j,.u8 k,.s l],.ag [.u8 m,.u8 n,.b o,.u8 p,.u8 q,.u8 s,.u8 t,.b u,.u8 w,.s x],.u8 y]=aa r :=
 bc (fun _ _=>by kernel_rfl) h
noncomputable def HE (a b d:ae) (e:ay) (f g i j:ae) (k:ay) (l:ae) (m:ai ae) (n o:ae) (p:ay) (q s t u:ae) (w:ay) (x:ae) (y:ai ae) (c:bj) (r:RunT):ak AV :=
 a8 (.b (cD f 1))
 ((c 131 [.ag [.u8 b,.u8 d,.b e,.u8 f,.u8 g,.u8 i,.u8 j,.b k,.u8 l,.s m],.u8 a]).bind fun z=>(AV.cm 10 z).bind fun A=>aa (.ag [gt A 0,gt A 1,gt A 2,gt A 3,gt A 4,gt A 5,gt A 6,gt A 7,gt A 8,gt A 9]))
 (a8 (.b (cD f 2))
 (xt r a b d e f g i j k l m n o p q s t u w x y)
 (a8 (.b (cD f 3))
 (xt r a b d e f g i j k l m n o p q s t u w x y)
 (Cg r b d e f g i j k l m n o p q s t u w x y)))
noncomputable def HF (a b d:ae) (e:ay) (f g i j:ae) (k:ay) (l:ae) (m:ai ae) (n o:ae) (p:ay) (q s t u:ae) (w:ay) (x:ae) (y:ai ae) (c:bj) (r:RunT):ak AV :=
 a8 (.b (cD a 38))
 ((c 67 []).bind fun z=>(AV.cm 10 z).bind fun A=>aa (.ag [gt A 0,gt A 1,gt A 2,gt A 3,gt A 4,gt A 5,gt A 6,gt A 7,gt A 8,gt A 9]))
 ((c 132 [.ag [.u8 b,.u8 d,.b e,.u8 f,.u8 g,.u8 i,.u8 j,.b k,.u8 l,.s m],.u8 a,.b (cD f 2)]).bind fun B=>(AV.cm 10 B).bind fun D=>aa (.ag [gt D 0,gt D 1,gt D 2,gt D 3,gt D 4,gt D 5,gt D 6,gt D 7,gt D 8,gt D 9]))
noncomputable def PY (a b:ae) (d:ay) (e f g i:ae) (j:ay) (k:ae) (l:ai ae) (m n:ae) (o:ay) (p q s t:ae) (u:ay) (w:ae) (x:ai ae) (c:bj) (r:RunT):ak AV :=
 aa (.ag [.u8 a,.u8 b,.b d,.u8 e,.u8 f,.u8 g,.u8 i,.b j,.u8 k,.s l])
theorem PZ (a b d e f g i j k l m n o p q s t u w x y) {r:AV} (h:HE a b d e f g i j k l m n o p q s t u w x y (aq (C mx) Tryz.prog) (a7 (C mx) Tryz.prog 106 dK)=aa r):xr (a7 (C mx) Tryz.prog 106 dK) a b d e f g i j k l m n o p q s t u w x y=aa r :=
 bh (fun _ _=>by kernel_rfl) h
theorem P0 (a b d e f g i j k l m n o p q s t u w x y) {r:AV} (h:HF a b d e f g i j k l m n o p q s t u w x y (aq (C mx) Tryz.prog) (a7 (C mx) Tryz.prog 106 dK)=aa r):xt (a7 (C mx) Tryz.prog 106 dK) a b d e f g i j k l m n o p q s t u w x y=aa r :=
 bh (fun _ _=>by kernel_rfl) h
theorem P1 (a b d e f g i j k l m n o p q s t u w x) {r:AV} (h:PY a b d e f g i j k l m n o p q s t u w x (aq (C mx) Tryz.prog) (a7 (C mx) Tryz.prog 106 dK)=aa r):Cg (a7 (C mx) Tryz.prog 106 dK) a b d e f g i j k l m n o p q s t u w x=aa r :=
 bh (fun _ _=>by kernel_rfl) h
noncomputable def rz:Code:=(bT.body).getD .skip
noncomputable def Ch (run:RunT) (a b d:ae) (e:ay) (f g i j:ae) (k:ay) (l:ae) (m:ai ae) (n o:ae) (p:ay) (q s t u:ae) (w:ay) (x:ae) (y:ai ae):ak AV :=
 run ((eV 4 rz []).getD []) (St.fj [(1,.cell (.val (.u8 a))),(2,.cell (.ptr 2 0)),(4,.cell (.ptr 4 0))] [(2,aa (cT b d e f g i j k l m)),(4,aa (cT n o p q s t u w x y))])
noncomputable def Ci (run:RunT) (a:ae) (b:aB) (d e:ae) (f:ay) (g i j k:ae) (l:ay) (m:ae) (n:ai ae) (o p:ae) (q:ay) (s t u w:ae) (x:ay) (y:ae) (z:ai ae):ak AV :=
 run ((eV 11 rz []).getD []) (St.fj [(1,.cell (.val (.u8 a))),(2,.cell (.ptr 2 0)),(4,.cell (.ptr 4 0)),(7,.cell (.val (.int b)))] [(2,aa (cT d e f g i j k l m n)),(4,aa (cT o p q s t u w x y z))])
noncomputable def xu (run:RunT) (a b d:ae) (e:ay) (f g i j:ae) (k:ay) (l:ae) (m:ai ae) (n o:ae) (p:ay) (q s t u:ae) (w:ay) (x:ae) (y:ai ae):ak AV :=
 run ((eV 13 rz []).getD []) (St.fj [(1,.cell (.val (.u8 a))),(2,.cell (.ptr 2 0)),(4,.cell (.ptr 4 0))] [(2,aa (cT b d e f g i j k l m)),(4,aa (cT n o p q s t u w x y))])
noncomputable def Cj (run:RunT) (a:ae) (b:aB) (d e:ae) (f:ay) (g i j k:ae) (l:ay) (m:ae) (n:ai ae) (o p:ae) (q:ay) (s t u w:ae) (x:ay) (y:ae) (z:ai ae):ak AV :=
 run ((eV 20 rz []).getD []) (St.fj [(1,.cell (.val (.u8 a))),(2,.cell (.ptr 2 0)),(4,.cell (.ptr 4 0)),(7,.cell (.val (.int b)))] [(2,aa (cT d e f g i j k l m n)),(4,aa (cT o p q s t u w x y z))])
noncomputable def xv (run:RunT) (a b:ae) (d:ay) (e f g i:ae) (j:ay) (k:AV) (l:ai ae) (m n:ae) (o:ay) (p q s t:ae) (u:ay) (w:ae) (x:ai ae):ak AV :=
 run ((eV 24 rz []).getD []) (St.fj [(2,.cell (.ptr 2 0)),(4,.cell (.ptr 4 0))] [(2,aa [.val (.u8 a),.val (.u8 b),.val (.b d),.val (.u8 e),.val (.u8 f),.val (.u8 g),.val (.u8 i),.val (.b j),.val k,.val (.s l)]),(4,aa (cT m n o p q s t u w x))])
noncomputable def xw (run:RunT) (a b:ae) (d:ay) (e f g i:ae) (j:ay) (k:ae) (l:ai ae) (m n:ae) (o:ay) (p q s t:ae) (u:ay) (w:ae) (x:ai ae):ak AV :=
 run ((eV 33 rz []).getD []) (St.fj [(2,.cell (.ptr 2 0)),(4,.cell (.ptr 4 0))] [(2,aa (cT a b d e f g i j k l)),(4,aa (cT m n o p q s t u w x))])
noncomputable def XL (a b:ae) (d:ay) (e f g i:ae) (j:ay) (k:ae) (l:ai ae) (m:ae) (c:bj) (r:RunT):ak AV :=
 a8 (.b ((eE (a.toNat:aB)) == 11))
 (Ch r m a b d e f g i j k l 0 0 af 0 0 0 0 af 0 [])
 (a8 (.b ((eE (a.toNat:aB)) == 12))
 (Ch r m a b d e f g i j k l 0 0 af 0 0 0 0 af 0 [])
 (Ci r m (eE (a.toNat:aB)) a b d e f g i j k l 0 0 af 0 0 0 0 af 0 []))
theorem aa6 (a b d e f g i j k l m) {r:AV} (h:XL a b d e f g i j k l m (aq (C mx) Tryz.prog) (a7 (C mx) Tryz.prog 108 bT)=aa r):aq (C mx) Tryz.prog 108 [.ag [.u8 a,.u8 b,.b d,.u8 e,.u8 f,.u8 g,.u8 i,.b j,.u8 k,.s l],.u8 m]=aa r :=
 bc (fun _ _=>by kernel_rfl) h
noncomputable def Mu (a b d:ae) (e:ay) (f g i j:ae) (k:ay) (l:ae) (m:ai ae) (n o:ae) (p:ay) (q s t u:ae) (w:ay) (x:ae) (y:ai ae) (c:bj) (r:RunT):ak AV :=
 a8 (.b (cD a 62))
 ((c 98 [.int 0]).bind fun z=>(AV.cm 10 z).bind fun A=>aa (.ag [gt A 0,gt A 1,gt A 2,gt A 3,gt A 4,gt A 5,gt A 6,gt A 7,gt A 8,gt A 9]))
 (a8 (.b (cD a 45))
 (a8 (.b ((eE (b.toNat:aB)) == 11))
 ((c 98 [.int 12]).bind fun B=>(AV.cm 10 B).bind fun D=>aa (.ag [gt D 0,gt D 1,gt D 2,gt D 3,gt D 4,gt D 5,gt D 6,gt D 7,gt D 8,gt D 9]))
 ((c 98 [.int 13]).bind fun E=>(AV.cm 10 E).bind fun G=>aa (.ag [gt G 0,gt G 1,gt G 2,gt G 3,gt G 4,gt G 5,gt G 6,gt G 7,gt G 8,gt G 9])))
 ((c 98 [.int 16]).bind fun H=>(AV.cm 10 H).bind fun I=>aa (.ag [gt I 0,gt I 1,gt I 2,gt I 3,gt I 4,gt I 5,gt I 6,gt I 7,gt I 8,gt I 9])))
noncomputable def HI (a:ae) (b:aB) (d e:ae) (f:ay) (g i j k:ae) (l:ay) (m:ae) (n:ai ae) (o p:ae) (q:ay) (s t u w:ae) (x:ay) (y:ae) (z:ai ae) (c:bj) (r:RunT):ak AV :=
 a8 (.b (b == 13))
 (xu r a d e f g i j k l m n o p q s t u w x y z)
 (a8 (.b (b == 14))
 (xu r a d e f g i j k l m n o p q s t u w x y z)
 (Cj r a b d e f g i j k l m n o p q s t u w x y z))
noncomputable def HJ (a b d:ae) (e:ay) (f g i j:ae) (k:ay) (l:ae) (m:ai ae) (n o:ae) (p:ay) (q s t u:ae) (w:ay) (x:ae) (y:ai ae) (c:bj) (r:RunT):ak AV :=
 a8 (.b (cD a 62))
 ((c 67 []).bind fun z=>(AV.cm 10 z).bind fun A=>aa (.ag [gt A 0,gt A 1,gt A 2,gt A 3,gt A 4,gt A 5,gt A 6,gt A 7,gt A 8,gt A 9]))
 (a8 (.b (uf a 45))
 ((c 98 [.int 15]).bind fun B=>(AV.cm 10 B).bind fun D=>aa (.ag [gt D 0,gt D 1,gt D 2,gt D 3,gt D 4,gt D 5,gt D 6,gt D 7,gt D 8,gt D 9]))
 (a8 (.b ((eE (b.toNat:aB)) == 13))
 ((c 98 [.int 14]).bind fun E=>(AV.cm 10 E).bind fun G=>aa (.ag [gt G 0,gt G 1,gt G 2,gt G 3,gt G 4,gt G 5,gt G 6,gt G 7,gt G 8,gt G 9]))
 (aa (.ag [.u8 15,.u8 0,.b af,.u8 0,.u8 0,.u8 0,.u8 0,.b af,.u8 2,.s []]))))
noncomputable def HL (a:ae) (b:aB) (d e:ae) (f:ay) (g i j k:ae) (l:ay) (m:ae) (n:ai ae) (o p:ae) (q:ay) (s t u w:ae) (x:ay) (y:ae) (z:ai ae) (c:bj) (r:RunT):ak AV :=
 a8 (.b (b == 15))
 (a8 (.b (cD a 45))
 (a8 (.b (ult m 2))
 ((cf .add (.u8 m) (.u8 1)).bind fun A=>(AV.one A).bind fun B=>xv r d e f g i j k l B n o p q s t u w x y z)
 (xv r d e f g i j k l (.u8 m) n o p q s t u w x y z))
 ((bt (.b (cD m 2)) aj (aa (.b (cD a 62))) (.b af)).bind fun D=>a8 D
 ((c 98 [.int 0]).bind fun E=>(AV.cm 10 E).bind fun G=>aa (.ag [gt G 0,gt G 1,gt G 2,gt G 3,gt G 4,gt G 5,gt G 6,gt G 7,gt G 8,gt G 9]))
 ((bt (.b (cD m 2)) aj (aa (.b (cD a 33))) (.b af)).bind fun H=>a8 H
 ((c 67 []).bind fun I=>(AV.cm 10 I).bind fun J=>aa (.ag [gt J 0,gt J 1,gt J 2,gt J 3,gt J 4,gt J 5,gt J 6,gt J 7,gt J 8,gt J 9]))
 ((c 98 [.int 15]).bind fun L=>(AV.cm 10 L).bind fun M=>aa (.ag [gt M 0,gt M 1,gt M 2,gt M 3,gt M 4,gt M 5,gt M 6,gt M 7,gt M 8,gt M 9])))))
 (a8 (.b (b == 16))
 (a8 (.b (cD a 62))
 ((c 98 [.int 0]).bind fun N=>(AV.cm 10 N).bind fun O=>aa (.ag [gt O 0,gt O 1,gt O 2,gt O 3,gt O 4,gt O 5,gt O 6,gt O 7,gt O 8,gt O 9]))
 (xw r d e f g i j k l m n o p q s t u w x y z))
 (xw r d e f g i j k l m n o p q s t u w x y z))
noncomputable def P2 (a b:ae) (d:ay) (e f g i:ae) (j:ay) (k:AV) (l:ai ae) (m n:ae) (o:ay) (p q s t:ae) (u:ay) (w:ae) (x:ai ae) (c:bj) (r:RunT):ak AV :=
 aa (.ag [.u8 a,.u8 b,.b d,.u8 e,.u8 f,.u8 g,.u8 i,.b j,k,.s l])
noncomputable def P3 (a b:ae) (d:ay) (e f g i:ae) (j:ay) (k:ae) (l:ai ae) (m n:ae) (o:ay) (p q s t:ae) (u:ay) (w:ae) (x:ai ae) (c:bj) (r:RunT):ak AV :=
 aa (.ag [.u8 a,.u8 b,.b d,.u8 e,.u8 f,.u8 g,.u8 i,.b j,.u8 k,.s l])
theorem Ut (a b d e f g i j k l m n o p q s t u w x y) {r:AV} (h:Mu a b d e f g i j k l m n o p q s t u w x y (aq (C mx) Tryz.prog) (a7 (C mx) Tryz.prog 108 bT)=aa r):Ch (a7 (C mx) Tryz.prog 108 bT) a b d e f g i j k l m n o p q s t u w x y=aa r :=
 bh (fun _ _=>by kernel_rfl) h
theorem P4 (a b d e f g i j k l m n o p q s t u w x y z) {r:AV} (h:HI a b d e f g i j k l m n o p q s t u w x y z (aq (C mx) Tryz.prog) (a7 (C mx) Tryz.prog 108 bT)=aa r):Ci (a7 (C mx) Tryz.prog 108 bT) a b d e f g i j k l m n o p q s t u w x y z=aa r :=
 bh (fun _ _=>by kernel_rfl) h
theorem P5 (a b d e f g i j k l m n o p q s t u w x y) {r:AV} (h:HJ a b d e f g i j k l m n o p q s t u w x y (aq (C mx) Tryz.prog) (a7 (C mx) Tryz.prog 108 bT)=aa r):xu (a7 (C mx) Tryz.prog 108 bT) a b d e f g i j k l m n o p q s t u w x y=aa r :=
 bh (fun _ _=>by kernel_rfl) h
theorem P6 (a b d e f g i j k l m n o p q s t u w x y z) {r:AV} (h:HL a b d e f g i j k l m n o p q s t u w x y z (aq (C mx) Tryz.prog) (a7 (C mx) Tryz.prog 108 bT)=aa r):Cj (a7 (C mx) Tryz.prog 108 bT) a b d e f g i j k l m n o p q s t u w x y z=aa r :=
 bh (fun _ _=>by kernel_rfl) h
theorem P7 (a b d e f g i j k l m n o p q s t u w x) {r:AV} (h:P2 a b d e f g i j k l m n o p q s t u w x (aq (C mx) Tryz.prog) (a7 (C mx) Tryz.prog 108 bT)=aa r):xv (a7 (C mx) Tryz.prog 108 bT) a b d e f g i j k l m n o p q s t u w x=aa r :=
 bh (fun _ _=>by kernel_rfl) h
theorem P8 (a b d e f g i j k l m n o p q s t u w x) {r:AV} (h:P3 a b d e f g i j k l m n o p q s t u w x (aq (C mx) Tryz.prog) (a7 (C mx) Tryz.prog 108 bT)=aa r):xw (a7 (C mx) Tryz.prog 108 bT) a b d e f g i j k l m n o p q s t u w x=aa r :=
 bh (fun _ _=>by kernel_rfl) h
noncomputable def Ck (run:RunT) (a:ai ae) (b:aB) (d e f g i j k l m n:AV) (o p:ae) (q:ay) (s t u w:ae) (x:ay) (y:ae) (z:ai ae):ak AV :=
 run ((eV 4 ((gU.body).getD .skip) []).getD []) (St.fj [(1,.cell (.val (.s a))),(2,.cell (.ptr 2 0)),(4,.cell (.ptr 4 0)),(5,.cell (.val (.int b)))] [(2,aa (cV d e f g i j k l m n)),(4,aa (cT o p q s t u w x y z))])
noncomputable def aa7 (a b:ae) (d:ay) (e f g i:ae) (j:ay) (k:ae) (l m:ai ae) (c:bj) (r:RunT):ak AV :=
 Ck r m 0 (.u8 17) (.u8 b) (.b d) (.u8 e) (.u8 f) (.u8 g) (.u8 i) (.b j) (.u8 k) (.s []) 0 0 af 0 0 0 0 af 0 []
theorem aa8 (a b d e f g i j k l m) {r:AV} (h:aa7 a b d e f g i j k l m (aq (C mx) Tryz.prog) (a7 (C mx) Tryz.prog 133 gU)=aa r):aq (C mx) Tryz.prog 133 [.ag [.u8 a,.u8 b,.b d,.u8 e,.u8 f,.u8 g,.u8 i,.b j,.u8 k,.s l],.s m]=aa r :=
 bc (fun _ _=>by kernel_rfl) h
noncomputable def FD (a:ai ae) (b:aB) (d e f g i j k l m n:AV) (o p:ae) (q:ay) (s t u w:ae) (x:ay) (y:ae) (z:ai ae) (c:bj) (r:RunT):ak AV :=
 (bt (.b (decide (b < ((a.length:aB))))) aj ((cf .eql e (.u8 3)).bind fun A=>(bt A af ((cf .eql e (.u8 4)).bind fun B=>aa B) (.b aj)).bind fun D=>aa D) (.b af)).bind fun E=>(bt E aj ((conv .i64 d).bind fun G=>(cf .eql G (.int 17)).bind fun H=>aa H) (.b af)).bind fun I=>a8 I
 ((jU (.s a) (.int b)).bind fun J=>(cf .eql e (.u8 3)).bind fun L=>(c 132 [.ag [d,e,f,g,i,j,k,l,m,n],J,L]).bind fun M=>(AV.cm 10 M).bind fun N=>Ck r a (eE (b+1)) (gt N 0) (gt N 1) (gt N 2) (gt N 3) (gt N 4) (gt N 5) (gt N 6) (gt N 7) (gt N 8) (gt N 9) o p q s t u w x y z)
 (aa (.ag [d,e,f,g,i,j,k,l,m,n]))
theorem Mv (a b d e f g i j k l m n o p q s t u w x y z) {r:AV} (h:FD a b d e f g i j k l m n o p q s t u w x y z (aq (C mx) Tryz.prog) (a7 (C mx) Tryz.prog 133 gU)=aa r):Ck (a7 (C mx) Tryz.prog 133 gU) a b d e f g i j k l m n o p q s t u w x y z=aa r :=
 bh (fun _ _=>by kernel_rfl) h
section
variable (c:Ctx) (b:ae)
theorem aa9 (h:c.nm.length≤100):aq (C mx) Tryz.prog 106 [c.bw,(within c 0).bw,.u8 b]=aa (rvalue c b).bw:=by
 have f25:Cg (a7 (C mx) Tryz.prog 106 dK) c.st c.el c.en c.at' c.qu c.pa c.su c.es c.da c.nm 0 0 af 0 0 0 0 af 0 []=aa c.bw:=by
  apply P1
  rfl
 have f22:xt (a7 (C mx) Tryz.prog 106 dK) b c.st c.el c.en c.at' c.qu c.pa c.su c.es c.da c.nm 0 0 af 0 0 0 0 af 0 []=aa (if b == 38 then dp else pJ c b (c.at' == 2):Ctx).bw:=by
  apply P0
  simp only [HF,cC,Option.bind_some,ba,Ca,cg,cq,XJ,yn,bm,zT,cL]
 have f17:xr (a7 (C mx) Tryz.prog 106 dK) b c.st c.el c.en c.at' c.qu c.pa c.su c.es c.da c.nm 0 0 af 0 0 0 0 af 0 []=aa (if c.at' == 1 then BK c b else if c.at' == 2 then (if b == 38 then dp else pJ c b (c.at' == 2)) else if c.at' == 3 then (if b == 38 then dp else pJ c b (c.at' == 2)) else c:Ctx).bw:=by
  apply PZ
  simp only [HE,cC,Option.bind_some,ba,cg,cq,aa4 (h:=h),f22,f25,bm,zT,cL]
 apply aa5
 simp only [XK,cC,iv,Option.bind_some,cy,b9,ba,et,Ca,FB,cg,cq,Un,bm,zT,f17]
 rw [show (b == 34 || b == 39 || b == 60 || b == 61 || b == 96)=ym b from rfl]
 simp only [rvalue,cL]
 rfl
theorem XM:∀ (r p:ai ae) (c:Ctx),(p ++ r).length < 9223372036854775808→Ck (a7 (C mx) Tryz.prog 133 gU) (p ++ r) (p.length:aB) (.u8 c.st) (.u8 c.el) (.b c.en) (.u8 c.at') (.u8 c.qu) (.u8 c.pa) (.u8 c.su) (.b c.es) (.u8 c.da) (.s c.nm) 0 0 af 0 0 0 0 af 0 []=aa (o9 c r).bw
 | [],p,c,h=>by
  apply Mv
  simp only [FD,xd,ue,List.append_nil,Option.bind_some,lL,ba,Bool.false_eq_true,aH,cg,cq,o9]
 | b :: r,p,c,h=>by
  apply Mv
  simp only [FD,Bw,nX,rf p b r h,hZ,nW,cX,fN _ _ (show 17 < 256 by decide),Option.bind_some,cy,b9,Bool.true_and,ba,cg,cq,XJ,bm,zT,o9,cL]
  rw [kh,XM r (p ++ [b]) _ (by rw [← kh];exact h)]
theorem XN (s:ai ae) (h:s.length < 9223372036854775808):aq (C mx) Tryz.prog 133 [c.bw,.s s]=aa (sU c s aj).bw:=by
 apply aa8
 rw [← Li]
 exact XM s [] { c with st:=17,nm:=[] } h
theorem aba:aq (C mx) Tryz.prog 108 [c.bw,.u8 b]=aa (DU c b).bw:=by
 have t0:=J7 (mx:=mx) 0
 have t12:=J7 (mx:=mx) 12
 have t13:=J7 (mx:=mx) 13
 have t14:=J7 (mx:=mx) 14
 have t15:=J7 (mx:=mx) 15
 have t16:=J7 (mx:=mx) 16
 simp only [show ((0:ae).toNat:aB)=0 from rfl,show ((12:ae).toNat:aB)=12 from rfl,show ((13:ae).toNat:aB)=13 from rfl,show ((14:ae).toNat:aB)=14 from rfl,show ((15:ae).toNat:aB)=15 from rfl,show ((16:ae).toNat:aB)=16 from rfl] at t0 t12 t13 t14 t15 t16
 have f33:xw (a7 (C mx) Tryz.prog 108 bT) c.st c.el c.en c.at' c.qu c.pa c.su c.es c.da c.nm 0 0 af 0 0 0 0 af 0 []=aa c.bw:=by
  apply P8
  rfl
 have f24 (d:Ctx):xv (a7 (C mx) Tryz.prog 108 bT) d.st d.el d.en d.at' d.qu d.pa d.su d.es (.u8 d.da) d.nm 0 0 af 0 0 0 0 af 0 []=aa d.bw:=by
  apply P7
  rfl
 have f4:Ch (a7 (C mx) Tryz.prog 108 bT) b c.st c.el c.en c.at' c.qu c.pa c.su c.es c.da c.nm 0 0 af 0 0 0 0 af 0 []=aa (if b == 62 then ea 0 else if b == 45 then (if c.st == 11 then ea 12 else ea 13) else ea 16:Ctx).bw:=by
  apply Ut
  simp only [Mu,cC,ny,fN _ _ (show 11 < 256 by decide),Option.bind_some,ba,t0,t12,t13,t16,bm,zT,cL]
  rfl
 have f13:xu (a7 (C mx) Tryz.prog 108 bT) b c.st c.el c.en c.at' c.qu c.pa c.su c.es c.da c.nm 0 0 af 0 0 0 0 af 0 []=aa (if b == 62 then dp else if b != 45 then ea 15 else if c.st == 13 then ea 14 else ⟨15,0,af,0,0,0,0,af,2,[]⟩:Ctx).bw:=by
  apply P5
  simp only [HJ,cC,iv,ny,fN _ _ (show 13 < 256 by decide),Option.bind_some,ba,t15,t14,Ca,bm,zT,cL]
  rfl
 have f20:Cj (a7 (C mx) Tryz.prog 108 bT) b (c.st.toNat:aB) c.st c.el c.en c.at' c.qu c.pa c.su c.es c.da c.nm 0 0 af 0 0 0 0 af 0 [] =
   aa (if c.st == 15 then (if b == 45 then (if decide (c.da < 2) then { c with da:=c.da+1 } else c) else if c.da == 2 && b == 62 then ea 0 else if c.da == 2 && b == 33 then dp else ea 15)
 else if c.st == 16 then (if b == 62 then ea 0 else c) else c:Ctx).bw:=by
  apply P6
  simp only [HL,cC,kC,E6,jZ,fN _ _ (show 15 < 256 by decide),fN _ _ (show 16 < 256 by decide),Option.bind_some,b9,ba,t0,t15,Ca,bm,zT,cL,f33]
  rw [f24 c,f24 { c with da:=c.da+1 }]
  rfl
 have f11:Ci (a7 (C mx) Tryz.prog 108 bT) b (c.st.toNat:aB) c.st c.el c.en c.at' c.qu c.pa c.su c.es c.da c.nm 0 0 af 0 0 0 0 af 0 [] =
   aa (if c.st == 13 || c.st == 14 then (if b == 62 then dp else if b != 45 then ea 15 else if c.st == 13 then ea 14 else ⟨15,0,af,0,0,0,0,af,2,[]⟩)
 else if c.st == 15 then (if b == 45 then (if decide (c.da < 2) then { c with da:=c.da+1 } else c) else if c.da == 2 && b == 62 then ea 0 else if c.da == 2 && b == 33 then dp else ea 15)
 else if c.st == 16 then (if b == 62 then ea 0 else c) else c:Ctx).bw:=by
  apply P4
  simp only [HI,fN _ _ (show 13 < 256 by decide),fN _ _ (show 14 < 256 by decide),ba,f13,f20]
  show (if (c.st == 13)=aj then _ else if (c.st == 14)=aj then _ else _)=_
  by_cases h1:(c.st == 13)=aj
  ·rw [aJ h1];exact bA (fun x=>aa (Ctx.bw x)) (aJ (by rw [h1];rfl)).symm
  ·rw [aI h1]
   by_cases h2:(c.st == 14)=aj
   ·rw [aJ h2];exact bA (fun x=>aa (Ctx.bw x)) (aJ (by rw [h2];simp)).symm
   ·rw [aI h2];exact bA (fun x=>aa (Ctx.bw x)) (aI (by simp only [Bool.or_eq_true];exact fun e=>e.elim h1 h2)).symm
 apply aa6
 simp only [XL,ny,fN _ _ (show 11 < 256 by decide),fN _ _ (show 12 < 256 by decide),ba,f4,f11]
 unfold DU
 show (if (c.st == 11)=aj then _ else if (c.st == 12)=aj then _ else _)=_
 by_cases h1:(c.st == 11)=aj
 ·rw [aJ h1];exact bA (fun x=>aa (Ctx.bw x)) (aJ (by rw [h1];rfl)).symm
 ·rw [aI h1]
  by_cases h2:(c.st == 12)=aj
  ·rw [aJ h2];exact bA (fun x=>aa (Ctx.bw x)) (aJ (by rw [h2];simp)).symm
  ·rw [aI h2];exact bA (fun x=>aa (Ctx.bw x)) (aI (by simp only [Bool.or_eq_true];exact fun e=>e.elim h1 h2)).symm
theorem Ro (h:c.st=9):Av c.st c.el c.en c.at' c.qu c.pa c.su c.es c.da c.nm b (aq (C mx) Tryz.prog) (a7 (C mx) Tryz.prog 77 cO)=aa (tag c b).1.bw:=by
 obtain ⟨st,el,en,at',qu,pa,su,es,da,nm⟩:=c
 simp only at h
 subst h
 have w9:eE ((9:ae).toNat:aB)=9:=rfl
 simp only [Av,w9,ba]
 simp only [show ((9:aB) == 0)=af from rfl,show ((9:aB) == 1)=af from rfl,show ((9:aB) == 2)=af from rfl,show ((9:aB) == 3)=af from rfl,show ((9:aB) == 9)=aj from rfl,Bool.false_eq_true,aH,aO,FB,Ca,cg,cq,Un,cC,Option.bind_some,ba,bm,zT]
 unfold tag
 simp only [show ((9:ae) == 3)=af from rfl,show ((9:ae) == 9)=aj from rfl,Bool.false_eq_true,aH,aO]
 cases dT b <;> cases (b == 47) <;> cases (b == 62) <;> rfl
theorem XO (h:c.st=9):aq (C mx) Tryz.prog 77 [c.bw,.u8 b]=aa (tag c b).1.bw:=by
 apply c77
 exact Ro c b h
end
noncomputable def Cl:Code:=(dF.body).getD .skip
noncomputable def Cm (run:RunT) (a:ae) (b:AV) (d e:ae) (f:ay) (g i j k:ae) (l:ay) (m:ae) (n:ai ae) (o p:ae) (q:ay) (s t u w:ae) (x:ay) (y:ae) (z:ai ae):ak AV :=
 run ((eV 8 Cl []).getD []) (St.fj [(1,.cell (.val (.u8 a))),(2,.cell (.ptr 2 0)),(4,.cell (.ptr 4 0)),(5,.cell (.val b))] [(2,aa (cT d e f g i j k l m n)),(4,aa (cT o p q s t u w x y z))])
noncomputable def uq (run:RunT) (a:ae) (b d e f g i j k l m:AV) (n o:ae) (p:ay) (q s t u:ae) (w:ay) (x:ae) (y:ai ae):ak AV :=
 run ((eV 20 Cl []).getD []) (St.fj [(1,.cell (.val (.u8 a))),(2,.cell (.ptr 2 0)),(4,.cell (.ptr 4 0))] [(2,aa (cV b d e f g i j k l m)),(4,aa (cT n o p q s t u w x y))])
noncomputable def xx (run:RunT) (a b d e f g i j k l:AV) (m n:ae) (o:ay) (p q s t:ae) (u:ay) (w:ae) (x:ai ae):ak AV :=
 run ((eV 23 Cl []).getD []) (St.fj [(2,.cell (.ptr 2 0)),(4,.cell (.ptr 4 0))] [(2,aa (cV a b d e f g i j k l)),(4,aa (cT m n o p q s t u w x))])
noncomputable def XP (a b:ae) (d:ay) (e f g i:ae) (j:ay) (k:ae) (l:ai ae) (m:ae) (c:bj) (r:RunT):ak AV :=
 (c 36 [.int (eE (b.toNat:aB))]).bind fun n=>a8 (.b ((eE (a.toNat:aB)) == 18))
 (a8 (.b (cD m 47))
 (aa (.ag [.u8 19,.u8 b,.b d,.u8 e,.u8 f,.u8 g,.u8 i,.b j,.u8 k,.s l]))
 ((bt (.b (cD m 33)) aj (aa (.b (cD b 3))) (.b af)).bind fun o=>a8 o
 ((c 67 []).bind fun p=>(AV.cm 10 p).bind fun q=>aa (.ag [gt q 0,gt q 1,gt q 2,gt q 3,gt q 4,gt q 5,gt q 6,gt q 7,gt q 8,gt q 9]))
 (Cm r m n a b d e f g i j k l 0 0 af 0 0 0 0 af 0 [])))
 (Cm r m n a b d e f g i j k l 0 0 af 0 0 0 0 af 0 [])
theorem abb (a b d e f g i j k l m) {r:AV} (h:XP a b d e f g i j k l m (aq (C mx) Tryz.prog) (a7 (C mx) Tryz.prog 107 dF)=aa r):aq (C mx) Tryz.prog 107 [.ag [.u8 a,.u8 b,.b d,.u8 e,.u8 f,.u8 g,.u8 i,.b j,.u8 k,.s l],.u8 m]=aa r :=
 bc (fun _ _=>by kernel_rfl) h
noncomputable def Mw (a:ae) (b:AV) (d e:ae) (f:ay) (g i j k:ae) (l:ay) (m:ae) (n:ai ae) (o p:ae) (q:ay) (s t u w:ae) (x:ay) (y:ae) (z:ai ae) (c:bj) (r:RunT):ak AV :=
 a8 (.b ((eE (d.toNat:aB)) == 19))
 ((gR .eql (.s n) b).bind fun A=>(bt A aj ((c 101 [.u8 a]).bind fun B=>(bt B af (aa (.b (cD a 47))) (.b aj)).bind fun D=>(bt D af (aa (.b (cD a 62))) (.b aj)).bind fun E=>aa E) (.b af)).bind fun G=>a8 G
 ((bt (.b (uf k 0)) aj (aa (.b (uf k 4))) (.b af)).bind fun H=>a8 H
 ((c 67 []).bind fun I=>(AV.cm 10 I).bind fun J=>aa (.ag [gt J 0,gt J 1,gt J 2,gt J 3,gt J 4,gt J 5,gt J 6,gt J 7,gt J 8,gt J 9]))
 ((c 77 [.ag [.u8 9,.u8 0,.b aj,.u8 0,.u8 0,.u8 0,.u8 0,.b af,.u8 0,.s []],.u8 a]).bind fun L=>(AV.cm 10 L).bind fun M=>aa (.ag [gt M 0,gt M 1,gt M 2,gt M 3,gt M 4,gt M 5,gt M 6,gt M 7,gt M 8,gt M 9])))
 ((c 100 [.u8 a]).bind fun N=>(gR .add (.s n) N).bind fun O=>(om O).bind fun P=>(om b).bind fun Q=>(cf .leq P Q).bind fun R=>(bt R aj ((om O).bind fun T=>(nM b ah (aa T)).bind fun U=>(gR .eql U O).bind fun V=>aa V) (.b af)).bind fun W=>a8 W
 ((AV.one O).bind fun Y=>aa (.ag [.u8 d,.u8 e,.b f,.u8 g,.u8 i,.u8 j,.u8 k,.b l,.u8 m,Y]))
 ((gR .add (.s [47]) (.s n)).bind fun Z=>(c 133 [.ag [.u8 d,.u8 e,.b f,.u8 g,.u8 i,.u8 j,.u8 k,.b l,.u8 m,.s n],Z]).bind fun v0=>(AV.cm 10 v0).bind fun v1=>(conv .i64 (gt v1 0)).bind fun v2=>(cf .eql v2 (.int 20)).bind fun v3=>a8 v3
 ((c 67 []).bind fun v4=>(AV.cm 10 v4).bind fun v5=>aa (.ag [gt v5 0,gt v5 1,gt v5 2,gt v5 3,gt v5 4,gt v5 5,gt v5 6,gt v5 7,gt v5 8,gt v5 9]))
 (uq r a (gt v1 0) (gt v1 1) (gt v1 2) (gt v1 3) (gt v1 4) (gt v1 5) (gt v1 6) (gt v1 7) (gt v1 8) (gt v1 9) o p q s t u w x y z))))
 (uq r a (.u8 d) (.u8 e) (.b f) (.u8 g) (.u8 i) (.u8 j) (.u8 k) (.b l) (.u8 m) (.s n) o p q s t u w x y z)
noncomputable def HM (a:ae) (b d e f g i j k l m:AV) (n o:ae) (p:ay) (q s t u:ae) (w:ay) (x:ae) (y:ai ae) (c:bj) (r:RunT):ak AV :=
 (GD (.ro 1 (([.u8 a]:ai AV)))).bind fun z=>(c 133 [.ag [b,d,e,f,g,i,j,k,l,m],z]).bind fun A=>(AV.cm 10 A).bind fun B=>(conv .i64 (gt B 0)).bind fun D=>(cf .eql D (.int 17)).bind fun E=>(bt E aj (aa (.b (cD a 60))) (.b af)).bind fun G=>a8 G
 (xx r (.u8 18) (gt B 1) (gt B 2) (gt B 3) (gt B 4) (gt B 5) (gt B 6) (gt B 7) (gt B 8) (gt B 9) n o p q s t u w x y)
 (xx r (gt B 0) (gt B 1) (gt B 2) (gt B 3) (gt B 4) (gt B 5) (gt B 6) (gt B 7) (gt B 8) (gt B 9) n o p q s t u w x y)
noncomputable def P9 (a b d e f g i j k l:AV) (m n:ae) (o:ay) (p q s t:ae) (u:ay) (w:ae) (x:ai ae) (c:bj) (r:RunT):ak AV :=
 aa (.ag [a,b,d,e,f,g,i,j,k,l])
theorem Uu (a b d e f g i j k l m n o p q s t u w x y z) {r:AV} (h:Mw a b d e f g i j k l m n o p q s t u w x y z (aq (C mx) Tryz.prog) (a7 (C mx) Tryz.prog 107 dF)=aa r):Cm (a7 (C mx) Tryz.prog 107 dF) a b d e f g i j k l m n o p q s t u w x y z=aa r :=
 bh (fun _ _=>by kernel_rfl) h
theorem Qa (a b d e f g i j k l m n o p q s t u w x y) {r:AV} (h:HM a b d e f g i j k l m n o p q s t u w x y (aq (C mx) Tryz.prog) (a7 (C mx) Tryz.prog 107 dF)=aa r):uq (a7 (C mx) Tryz.prog 107 dF) a b d e f g i j k l m n o p q s t u w x y=aa r :=
 bh (fun _ _=>by kernel_rfl) h
theorem Qb (a b d e f g i j k l m n o p q s t u w x) {r:AV} (h:P9 a b d e f g i j k l m n o p q s t u w x (aq (C mx) Tryz.prog) (a7 (C mx) Tryz.prog 107 dF)=aa r):xx (a7 (C mx) Tryz.prog 107 dF) a b d e f g i j k l m n o p q s t u w x=aa r :=
 bh (fun _ _=>by kernel_rfl) h
section
variable (c:Ctx) (b:ae)
theorem Qc (m n:ai ae):bt (.b (decide ((m.length:aB)≤(n.length:aB)))) aj ((nM (.s n) ah (aa (.int (m.length:aB)))).bind fun v90=>(gR .eql v90 (.s m)).bind fun v91=>aa v91) (.b af)=aa (.b (pre m n)):=by
 by_cases hl:m.length≤n.length
 ·rw [sS hl];simp [pre,hl]
 ·have:decide ((m.length:aB)≤(n.length:aB))=af:=by simp;omega
  rw [this,lL];simp [pre,hl]
theorem abc (h:c.nm.length≤100) (hs:c.st=17∨c.st=18∨c.st=19):aq (C mx) Tryz.prog 107 [c.bw,.u8 b]=aa (raw c b aj).bw:=by
 have f23 (d:Ctx):xx (a7 (C mx) Tryz.prog 107 dF) (.u8 d.st) (.u8 d.el) (.b d.en) (.u8 d.at') (.u8 d.qu) (.u8 d.pa) (.u8 d.su) (.b d.es) (.u8 d.da) (.s d.nm) 0 0 af 0 0 0 0 af 0 []=aa d.bw:=by
  apply Qb
  rfl
 have f20 (d:Ctx) (hd:(d.st == 20)=af):uq (a7 (C mx) Tryz.prog 107 dF) b (.u8 d.st) (.u8 d.el) (.b d.en) (.u8 d.at') (.u8 d.qu) (.u8 d.pa) (.u8 d.su) (.b d.es) (.u8 d.da) (.s d.nm) 0 0 af 0 0 0 0 af 0 []=aa (wW d b aj).bw:=by
  apply Qa
  simp only [HM,Option.bind_some,nZ,cg,cq]
  rw [XN d [b] (by simp)]
  simp only [Option.bind_some,bm,zT,nW,cX,fN _ _ (show 17 < 256 by decide),cC,b9,ba]
  rw [f23 (sU d [b] aj),f23 { sU d [b] aj with st:=18 }]
  simp only [wW,hd,cL,Bool.false_eq_true,aH]
  try rfl
 have a1:gR .add (.s c.nm) (.s [lC b])=aa (.s (c.nm ++ [lC b])):=qp (by simp;omega)
 have a2:gR .add (.s [47]) (.s c.nm)=aa (.s (47 :: c.nm)):=qp (by simp;omega)
 have a3:=XN (mx:=mx) c (47 :: c.nm) (by simp;omega)
 have lk:=XO (mx:=mx) ⟨9,0,aj,0,0,0,0,af,0,[]⟩ b rfl
 have f8:Cm (a7 (C mx) Tryz.prog 107 dF) b (.s (nameOf c.el)) c.st c.el c.en c.at' c.qu c.pa c.su c.es c.da c.nm 0 0 af 0 0 0 0 af 0 [] =
   aa (if c.st == 19 then (if c.nm == nameOf c.el && (dT b || b == 47 || b == 62) then (if !ends c then dp else (tag ⟨9,0,aj,0,0,0,0,af,0,[]⟩ b).1) else if pre (c.nm ++ [lC b]) (nameOf c.el) then { c with nm:=c.nm ++ [lC b] } else wW (sU c (47 :: c.nm) aj) b aj) else wW c b aj:Ctx).bw:=by
  apply Uu
  simp only [Mw,ny,cC,iv,ud,Option.bind_some,cy,b9,ba,FB,Ml,Ca,a1,a2,K4,ra,cg,cq,lk,a3,Qc,bm,zT,mI,nW,cX,fN _ _ (show 19 < 256 by decide),fN _ _ (show 20 < 256 by decide),cL]
  have hb:(if ((sU c (47 :: c.nm) aj).st == OfNat.ofNat 20)=aj then aa dp.bw else uq (a7 (C mx) Tryz.prog 107 dF) b (.u8 (sU c (47 :: c.nm) aj).st) (.u8 (sU c (47 :: c.nm) aj).el) (.b (sU c (47 :: c.nm) aj).en) (.u8 (sU c (47 :: c.nm) aj).at') (.u8 (sU c (47 :: c.nm) aj).qu) (.u8 (sU c (47 :: c.nm) aj).pa) (.u8 (sU c (47 :: c.nm) aj).su) (.b (sU c (47 :: c.nm) aj).es) (.u8 (sU c (47 :: c.nm) aj).da) (.s (sU c (47 :: c.nm) aj).nm) 0 0 af 0 0 0 0 af 0 [])=aa (wW (sU c (47 :: c.nm) aj) b aj).bw:=by
   by_cases hx:((sU c (47 :: c.nm) aj).st == 20)=aj
   ·rw [aJ hx]
    unfold wW
    rw [aJ hx]
   ·rw [aI hx,f20 _ (by simpa using hx)]
  have he:(c.su != 0 && c.su != 4)=!ends c:=by unfold ends bne;cases (c.su == 0) <;> cases (c.su == 4) <;> rfl
  rw [he]
  by_cases NZ:(c.st == 19)=aj
  ·refine (aJ NZ).trans (Eq.trans ?_ (aJ NZ).symm)
   exact bA _ (bA _ hb)
  ·refine (aI NZ).trans (Eq.trans ?_ (aI NZ).symm)
   exact f20 c (by rcases hs with e | e | e <;> rw [e] <;> rfl)
 apply abb
 simp only [XP,ny,s36,fN _ _ (show 18 < 256 by decide),cC,Option.bind_some,b9,ba,f8,Ca,cg,bm,zT]
 unfold raw
 rcases hs with e | e | e
 ·rw [e];rfl
 ·rw [e]
  cases (b == 47) <;> cases (b == 33) <;> cases (c.el == 3) <;> rfl
 ·rw [e]
  simp only [cL]
  cases (c.nm == nameOf c.el) <;> cases (dT b || b == 47 || b == 62) <;> cases pre (c.nm ++ [lC b]) (nameOf c.el) <;> cases ends c <;> rfl
end
noncomputable def X68 (a b:ae) (d:ay) (e f g i:ae) (j:ay) (k:ae) (l:ai ae) (m:ae) (c:bj) (r:RunT):ak AV :=
 (c 20 [.ag [.u8 a,.u8 b,.b d,.u8 e,.u8 f,.u8 g,.u8 i,.b j,.u8 k,.s l]]).bind fun n=>(unop .not n).bind fun o=>a8 o
 ((c 67 []).bind fun p=>(AV.cm 10 p).bind fun q=>aa (.ag [gt q 0,gt q 1,gt q 2,gt q 3,gt q 4,gt q 5,gt q 6,gt q 7,gt q 8,gt q 9]))
 ((c 77 [.ag [.u8 a,.u8 b,.b d,.u8 e,.u8 f,.u8 g,.u8 i,.b j,.u8 k,.s l],.u8 m]).bind fun s=>(AV.cm 10 s).bind fun t=>aa (.ag [gt t 0,gt t 1,gt t 2,gt t 3,gt t 4,gt t 5,gt t 6,gt t 7,gt t 8,gt t 9]))
theorem c68 (a b d e f g i j k l m) {r:AV} (h:X68 a b d e f g i j k l m (aq (C mx) Tryz.prog) (a7 (C mx) Tryz.prog 68 Tryz.f68)=aa r):aq (C mx) Tryz.prog 68 [.ag [.u8 a,.u8 b,.b d,.u8 e,.u8 f,.u8 g,.u8 i,.b j,.u8 k,.s l],.u8 m]=aa r :=
 bc (fun _ _=>by kernel_rfl) h
noncomputable def XQ (a b:ae) (d:ay) (e f g i:ae) (j:ay) (k:ae) (l:ai ae) (m n:ae) (o:ay) (p q s t:ae) (u:ay) (w:ae) (x:ai ae) (y:ae) (c:bj) (r:RunT):ak AV :=
 a8 (.b (cD y 61))
 ((c 130 [.s l]).bind fun z=>(conv .u8 z).bind fun A=>(AV.one A).bind fun B=>aa (.ag [.u8 7,.u8 n,.b o,B,.u8 q,.u8 s,.u8 t,.b u,.u8 w,.s x]))
 ((bt (.b (cD y 47)) af (aa (.b (cD y 62))) (.b aj)).bind fun D=>a8 D
 ((c 77 [.ag [.u8 9,.u8 n,.b o,.u8 p,.u8 q,.u8 s,.u8 t,.b u,.u8 w,.s x],.u8 y]).bind fun E=>(AV.cm 10 E).bind fun G=>aa (.ag [gt G 0,gt G 1,gt G 2,gt G 3,gt G 4,gt G 5,gt G 6,gt G 7,gt G 8,gt G 9]))
 ((c 101 [.u8 y]).bind fun H=>a8 H
 (aa (.ag [.u8 6,.u8 b,.b d,.u8 e,.u8 f,.u8 g,.u8 i,.b j,.u8 k,.s l]))
 (a8 (.b ((eE (a.toNat:aB)) == 6))
 ((c 77 [.ag [.u8 4,.u8 n,.b o,.u8 p,.u8 q,.u8 s,.u8 t,.b u,.u8 w,.s x],.u8 y]).bind fun I=>(AV.cm 10 I).bind fun J=>aa (.ag [gt J 0,gt J 1,gt J 2,gt J 3,gt J 4,gt J 5,gt J 6,gt J 7,gt J 8,gt J 9]))
 ((bt (.b (cD y 34)) af (aa (.b (cD y 39))) (.b aj)).bind fun L=>(bt L af (aa (.b (cD y 60))) (.b aj)).bind fun M=>a8 M
 ((c 67 []).bind fun N=>(AV.cm 10 N).bind fun O=>aa (.ag [gt O 0,gt O 1,gt O 2,gt O 3,gt O 4,gt O 5,gt O 6,gt O 7,gt O 8,gt O 9]))
 ((c 103 [.ag [.u8 a,.u8 b,.b d,.u8 e,.u8 f,.u8 g,.u8 i,.b j,.u8 k,.s l],.u8 y]).bind fun P=>(AV.cm 10 P).bind fun Q=>aa (.ag [gt Q 0,gt Q 1,gt Q 2,gt Q 3,gt Q 4,gt Q 5,gt Q 6,gt Q 7,gt Q 8,gt Q 9]))))))
theorem abd (a b d e f g i j k l m n o p q s t u w x y) {r:AV} (h:XQ a b d e f g i j k l m n o p q s t u w x y (aq (C mx) Tryz.prog) (a7 (C mx) Tryz.prog 105 Tryz.f105)=aa r):aq (C mx) Tryz.prog 105 [.ag [.u8 a,.u8 b,.b d,.u8 e,.u8 f,.u8 g,.u8 i,.b j,.u8 k,.s l],.ag [.u8 m,.u8 n,.b o,.u8 p,.u8 q,.u8 s,.u8 t,.b u,.u8 w,.s x],.u8 y]=aa r :=
 bc (fun _ _=>by kernel_rfl) h
section
variable (b:ae)
theorem l77:∀ (n:ax) (c d:Ctx),Q c b→again n c b aj=aa d→aq (C mx) Tryz.prog 77 [c.bw,.u8 b]=aa d.bw
 | 0,c,d,hQ,h=>by cases h
 | n+1,c,d,hQ,h=>by
  have IH:=l77 n
  have ua:=aao hQ
  have t0:=J7 (mx:=mx) 0
  have t1:=J7 (mx:=mx) 1
  have t2:=J7 (mx:=mx) 2
  have t11:=J7 (mx:=mx) 11
  have t16:=J7 (mx:=mx) 16
  simp only [show ((0:ae).toNat:aB)=0 from rfl,show ((1:ae).toNat:aB)=1 from rfl,show ((2:ae).toNat:aB)=2 from rfl,show ((11:ae).toNat:aB)=11 from rfl,show ((16:ae).toNat:aB)=16 from rfl] at t0 t1 t2 t11 t16
  have WI (Tc:c.st=5∨c.st=6) (hh:(if (named c b).2 then again n (named c b).1 b aj else aa (named c b).1)=aa d):aq (C mx) Tryz.prog 105 [c.bw,(within c 0).bw,.u8 b]=aa d.bw:=by
   apply abd
   simp only [XQ,cC,ny,fN _ _ (show 6 < 256 by decide),Option.bind_some,cy,ba,aaC,ve,jZ,FB,Ca,Um,cg,cq,bm,zT]
   have hne:(b == 61)=aj→(c.nm != [])=aj:=by
    intro hb
    rcases hQ with hf | ⟨_,EB,_⟩
    ·have:=(DX c hf Tc).2
     have:=vd this
     cases hn:c.nm with
     | nil=>rw [hn] at this;exact absurd this.1 (by simp)
     | cons x r=>rfl
    ·rw [hb] at EB;cases EB
   unfold named at hh
   cases EB:(b == 61) with
   | true =>
    rw [EB,hne EB] at hh
    rw [aJ rfl]
    cases hh;rfl
   | false =>
   rw [EB,Bool.false_and] at hh
   rw [aI (by simp)]
   cases Fe:(b == 47 || b == 62) with
   | true =>
    rw [Fe] at hh
    rw [aJ rfl]
    have hf:form c=aj:=by
     rcases hQ with hf | ⟨_,_,hx,_⟩
     ·exact hf
     ·rw [Fe] at hx;cases hx
    have:=IH (within c 9) d (.inl (fx c hf 9 (by simp))) hh
    rw [show (⟨9,(within c 0).el,(within c 0).en,(within c 0).at',(within c 0).qu,(within c 0).pa,(within c 0).su,(within c 0).es,(within c 0).da,(within c 0).nm⟩:Ctx)=within c 9 from rfl,this]
    simp only [Option.bind_some,bm,zT,cg,cq]
   | false =>
   rw [Fe] at hh
   rw [aI (by simp)]
   cases hbl:dT b with
   | true =>
    rw [hbl] at hh
    rw [aJ rfl]
    cases hh;rfl
   | false =>
   rw [hbl] at hh
   rw [aI (by simp)]
   cases h6:(c.st == 6) with
   | true =>
    rw [h6] at hh
    rw [aJ (by simp)]
    have hf:form c=aj:=by
     rcases hQ with hf | ⟨hx,_⟩
     ·exact hf
     ·rw [hx] at h6;cases h6
    have:=IH (within c 4) d (.inl (fx c hf 4 (by simp))) hh
    rw [show (⟨4,(within c 0).el,(within c 0).en,(within c 0).at',(within c 0).qu,(within c 0).pa,(within c 0).su,(within c 0).es,(within c 0).da,(within c 0).nm⟩:Ctx)=within c 4 from rfl,this]
    simp only [Option.bind_some,bm,zT,cg,cq]
   | false =>
   rw [h6] at hh
   rw [aI (by simp)]
   cases hq:(b == 34 || b == 39 || b == 60) with
   | true=>rw [hq] at hh;cases hh;rfl
   | false=>rw [hq] at hh;cases hh;rfl
  have f57 (Tc:c.st=5∨c.st=6) (hh:(if (named c b).2 then again n (named c b).1 b aj else aa (named c b).1)=aa d):Ce (a7 (C mx) Tryz.prog 77 cO) b c.st c.el c.en c.at' c.qu c.pa c.su c.es c.da c.nm 0 0 af 0 0 0 0 af 0 [] 0 c.el c.en 0 0 0 0 af 0 []=aa d.bw:=by
   apply Uq
   have:=WI Tc hh
   simp only [Mp,cg,cq]
   rw [show (⟨0,c.el,c.en,0,0,0,0,af,0,[]⟩:Ctx)=within c 0 from rfl,this]
   simp only [Option.bind_some,bm,zT,cg,cq]
  have f27 (el:ae) (hf:form (within { c with el:=el } 9)=aj) (hh:again n (within { c with el:=el } 9) b aj=aa d):Cb (a7 (C mx) Tryz.prog 77 cO) b 0 0 af 0 0 0 0 af 0 [] 0 (.u8 el) c.en 0 0 0 0 af 0 []=aa d.bw:=by
   apply Uo
   have:=IH (within { c with el:=el } 9) d (.inl hf) hh
   simp only [Mo,cg,cq]
   rw [show (⟨9,el,c.en,0,0,0,0,af,0,[]⟩:Ctx)=within { c with el:=el } 9 from rfl,this]
   simp only [Option.bind_some,bm,zT,cg,cq]
  have f73 (hs:c.st=17∨c.st=18∨c.st=19):yF (a7 (C mx) Tryz.prog 77 cO) b c.st c.el c.en c.at' c.qu c.pa c.su c.es c.da c.nm 0 0 af 0 0 0 0 af 0 []=aa (raw c b aj).bw:=by
   apply Ur
   simp only [Mq,cg,cq,abc c b (by omega) hs,Option.bind_some,bm,zT]
  have f74:FC (a7 (C mx) Tryz.prog 77 cO) b c.st c.el c.en c.at' c.qu c.pa c.su c.es c.da c.nm 0 0 af 0 0 0 0 af 0 []=aa (DU c b).bw:=by
   apply Us
   simp only [Mt,cg,cq,aba,Option.bind_some,bm,zT]
  have val:=aa9 (mx:=mx) c b (by omega)
  unfold again at h
  apply c77
  rcases hQ with hf | ⟨hx,EB,Fe,hbl⟩
  case inr =>
   have e:c.st=5:=by rw [hx];rfl
   rw [e] at h
   have h:(if (named c b).2 then again n (named c b).1 b aj else aa (named c b).1)=aa d:=by
    unfold tag at h
    rw [e] at h
    exact h
   have:=f57 (.inl e) h
   rw [e] at this ⊢
   exact this
  rcases uh c.st with e | e | e | e | e | e | e | e | e | e | e | e | e | e | e | e | e | e | e | e | e | e
  ·
   have hc:=ri c hf (by simp [e])
   rw [e] at hc
   subst hc
   rw [show (if ((ea 0).st == 0)=aj then (if (b == 60)=aj then aa { ea 0 with st:=1 } else aa (ea 0)) else _:ak Ctx)=(if (b == 60)=aj then aa (ea 1) else aa (ea 0)) from rfl] at h
   show a8 (.b (cD b 60)) ((aq (C mx) Tryz.prog 98 [.int 1]).bind _) (aa (ea 0).bw)=_
   rw [ba,cC,t1]
   cases hb:(b == 60) with
   | true=>rw [hb] at h;cases h;rfl
   | false=>rw [hb] at h;cases h;rfl
  ·have hc:=ri c hf (by simp [e])
   rw [e] at hc
   subst hc
   have h:(if (opened b).2 then aa (opened b).1 else again n (ea 0) b aj)=aa d:=h
   show (aq (C mx) Tryz.prog 99 [.u8 b]).bind _=_
   simp only [s99,Ml,Option.bind_some,ba,cC,mI,t0,t2,t11,t16,bm,zT,cg,cq]
   unfold opened at h
   cases hl:letter b with
   | true=>rw [hl] at h;cases h;rfl
   | false =>
   rw [hl] at h
   rw [aI (by simp)]
   cases h1:(b == 47) with
   | true=>rw [h1] at h;cases h;rfl
   | false =>
   rw [h1] at h
   rw [aI (by simp)]
   cases h2:(b == 33) with
   | true=>rw [h2] at h;cases h;rfl
   | false =>
   rw [h2] at h
   rw [aI (by simp)]
   cases h3:(b == 63) with
   | true=>rw [h3] at h;cases h;rfl
   | false =>
   rw [h3] at h
   rw [aI (by simp),IH (ea 0) d (.inl rfl) h]
   simp only [Option.bind_some,bm,zT,cg,cq]
  ·have hc:=ri c hf (by simp [e])
   rw [e] at hc
   subst hc
   have h:aa (closed b)=aa d:=h
   show (aq (C mx) Tryz.prog 99 [.u8 b]).bind _=_
   simp only [s99,Ml,Option.bind_some,ba,cC,mI,t0,t2,t11,t16,bm,zT,cg,cq]
   cases h
   unfold closed
   cases hl:letter b <;> cases h1:(b == 62) <;> rfl
  ·have hh:(if (tag c b).2 then again n (tag c b).1 b aj else aa (tag c b).1)=aa d:=by rw [e] at h;exact h
   unfold Av
   rw [e]
   simp only [show eE ((3:ae).toNat:aB)=3 from rfl,Int.reduceBEq,ba,Bool.false_eq_true,aH,aO]
   simp only [FB,aaA,ve,jZ,Um,cC,cy,Option.bind_some,ba]
   obtain ⟨hc,_⟩:=DV c hf e
   have yl:c.el=0:=by rw [hc]
   unfold tag at hh
   rw [e] at hh
   have e3:((3:ae) == 3)=aj:=rfl
   rw [e3,aJ rfl] at hh
   have abe:(!dT b && b != 47 && b != 62)=!(dT b || b == 47 || b == 62):=by unfold bne;cases dT b <;> cases (b == 47) <;> cases (b == 62) <;> rfl
   rw [abe] at hh
   cases hx:(dT b || b == 47 || b == 62) with
   | false =>
    rw [hx] at hh
    rw [aI (by simp)]
    have g:=Um (mx:=mx) c b
    unfold Ctx.bw cx at g
    rw [e] at g
    rw [g]
    cases hh
    rfl
   | true =>
    rw [hx] at hh
    rw [aJ rfl]
    cases hen:c.en with
    | true =>
     rw [hen] at hh
     rw [aI (by simp)]
     have:=f27 c.el (fx c hf 9 (by simp)) hh
     rw [hen] at this
     exact this
    | false =>
     rw [hen] at hh
     rw [aJ (by simp)]
     have hfe:form (within { c with el:=uY c.nm } 9)=aj:=by
      have:=rj 9 (uY c.nm) c.en (by simp)
      unfold within
      rw [this,hen,decide_eq_true (Hc c.nm)];rfl
     have:=f27 (uY c.nm) hfe (by
      show again n ⟨9,uY c.nm,c.en,0,0,0,0,af,0,[]⟩ b aj=aa d
      rw [hen];exact hh)
     rw [hen] at this
     exact this
  ·have hh:(if (tag c b).2 then again n (tag c b).1 b aj else aa (tag c b).1)=aa d:=by rw [e] at h;exact h
   unfold Av
   rw [e]
   simp only [show eE ((4:ae).toNat:aB)=4 from rfl,Int.reduceBEq,ba,Bool.false_eq_true,aH,aO]
   have hc:=DW c hf (by simp [e])
   unfold tag at hh
   rw [e] at hh
   simp only [show ((4:ae) == 3)=af from rfl,show ((4:ae) == 9)=af from rfl,show ((4:ae) == 10)=af from rfl,show ((4:ae) == 4)=aj from rfl,Bool.false_eq_true,aH,aO] at hh
   simp only [FB,Ca,cC,cy,Option.bind_some,ba,bm,zT,cg,cq]
   cases hbl:dT b with
   | true=>rw [hbl] at hh;cases hh;rw [aJ rfl,← e];rfl
   | false =>
   rw [hbl] at hh
   rw [aI (by simp)]
   cases Fe:(b == 47 || b == 62) with
   | true =>
    rw [Fe] at hh
    rw [aJ rfl,show (⟨9,c.el,c.en,0,0,0,0,af,0,[]⟩:Ctx)=within c 9 from rfl,IH (within c 9) d (.inl (fx c hf 9 (by simp))) hh]
    simp only [Option.bind_some,bm,zT,cg,cq]
   | false =>
   rw [Fe] at hh
   rw [aI (by simp)]
   cases EB:(b == 61) with
   | true=>rw [EB] at hh;cases hh;rfl
   | false =>
    rw [EB] at hh
    have hcw:{ c with st:=5 }=within c 5:=by rw [hc];rfl
    rw [aI (by simp),show (⟨5,c.el,c.en,0,0,0,0,af,0,[]⟩:Ctx)=within c 5 from rfl,IH (within c 5) d (.inr ⟨rfl,EB,Fe,hbl⟩) (by rw [← hcw];exact hh)]
    simp only [Option.bind_some,bm,zT,cg,cq]
  ·have hh:(if (tag c b).2 then again n (tag c b).1 b aj else aa (tag c b).1)=aa d:=by rw [e] at h;exact h
   unfold Av
   rw [e]
   simp only [show eE ((5:ae).toNat:aB)=5 from rfl,Int.reduceBEq,ba,Bool.false_eq_true,aH,aO]
   have FE:(if (named c b).2 then again n (named c b).1 b aj else aa (named c b).1)=aa d:=by
    unfold tag at hh
    rw [e] at hh
    exact hh
   have:=f57 (by simp [e]) FE
   rw [e] at this
   exact this
  ·have hh:(if (tag c b).2 then again n (tag c b).1 b aj else aa (tag c b).1)=aa d:=by rw [e] at h;exact h
   unfold Av
   rw [e]
   simp only [show eE ((6:ae).toNat:aB)=6 from rfl,Int.reduceBEq,ba,Bool.false_eq_true,aH,aO]
   have FE:(if (named c b).2 then again n (named c b).1 b aj else aa (named c b).1)=aa d:=by
    unfold tag at hh
    rw [e] at hh
    exact hh
   have:=f57 (by simp [e]) FE
   rw [e] at this
   exact this
  ·have hh:(if (tag c b).2 then again n (tag c b).1 b aj else aa (tag c b).1)=aa d:=by rw [e] at h;exact h
   unfold Av
   rw [e]
   simp only [show eE ((7:ae).toNat:aB)=7 from rfl,Int.reduceBEq,ba,Bool.false_eq_true,aH,aO]
   have hc:=DY c hf e
   have FE:(if (j5 c b).2 then again n (j5 c b).1 b aj else aa (j5 c b).1)=aa d:=by
    unfold tag at hh
    rw [e] at hh
    exact hh
   apply mC
   simp only [l9,Int.reduceBEq,ba,Bool.false_eq_true,aH,aO,FB,Ca,cC,cy,Option.bind_some,ba,bm,zT,cg,cq]
   unfold j5 at FE
   cases hbl:dT b with
   | true=>rw [hbl] at FE;cases FE;rw [aJ rfl,← e];rfl
   | false =>
   rw [hbl] at FE
   rw [aI (by simp)]
   cases NY:(b == 62) with
   | true=>rw [NY] at FE;cases FE;rfl
   | false =>
   rw [NY] at FE
   rw [aI (by simp)]
   cases hq:(b == 34 || b == 39) with
   | true=>rw [hq] at FE;cases FE;rfl
   | false =>
    rw [hq] at FE
    obtain ⟨q1,q2⟩:=n6 c hf
    have hf8:form { c with st:=8 }=aj:=by
     have:=sW c.el c.at' 0 c.en q1 q2 (xf c hf) (.inl rfl)
     rw [hc];exact this
    rw [aI (by simp),show (⟨8,c.el,c.en,c.at',c.qu,c.pa,c.su,c.es,c.da,c.nm⟩:Ctx)={ c with st:=8 } from rfl,IH { c with st:=8 } d (.inl hf8) FE]
    simp only [Option.bind_some,bm,zT,cg,cq]
  ·have hh:aa (value c b)=aa d:=by rw [e] at h;exact h
   unfold Av
   rw [e]
   simp only [show eE ((8:ae).toNat:aB)=8 from rfl,Int.reduceBEq,ba,Bool.false_eq_true,aH,aO]
   have hv:rvalue c b=value c b:=Jm c b fun _=>Pe c b (Hb c hf) (Lh c hf e)
   rw [hv] at val
   apply mC
   rw [← e]
   simp only [l9,Int.reduceBEq,ba,Bool.false_eq_true,aH,aO,bm,zT,cg,cq]
   rw [show (⟨0,c.el,c.en,0,0,0,0,af,0,[]⟩:Ctx)=within c 0 from rfl,val]
   simp only [Option.bind_some,bm,zT,cg,cq]
   exact bA _ (bA _ (Option.some.inj hh))
  ·have hh:(if (tag c b).2 then again n (tag c b).1 b aj else aa (tag c b).1)=aa d:=by rw [e] at h;exact h
   rw [Fh c b e,aI (by simp)] at hh
   rw [Ro c b e]
   cases hh;rfl
  ·have hh:(if (tag c b).2 then again n (tag c b).1 b aj else aa (tag c b).1)=aa d:=by rw [e] at h;exact h
   unfold Av
   rw [e]
   simp only [show eE ((10:ae).toNat:aB)=10 from rfl,Int.reduceBEq,ba,Bool.false_eq_true,aH,aO]
   unfold tag at hh
   rw [e] at hh
   simp only [show ((10:ae) == 3)=af from rfl,show ((10:ae) == 9)=af from rfl,show ((10:ae) == 10)=aj from rfl,Bool.false_eq_true,aH,aO] at hh
   have en:=Un (mx:=mx) c
   unfold Ctx.bw cx at en
   rw [e] at en
   simp only [en,cC,Option.bind_some,ba]
   cases NY:(b == 62) with
   | true=>rw [NY] at hh;cases hh;rfl
   | false =>
    rw [NY] at hh
    rw [aI (by simp),show (.ag [.u8 4,.u8 c.el,.b c.en,.u8 0,.u8 0,.u8 0,.u8 0,.b af,.u8 0,.s []]:AV)=(within c 4).bw from rfl,IH (within c 4) d (.inl (fx c hf 4 (by simp))) hh]
    simp only [Option.bind_some,bm,zT,cg,cq]
  ·have hh:aa (note c b)=aa d:=by rw [e] at h;exact h
   unfold Av
   rw [e]
   simp only [show eE ((11:ae).toNat:aB)=11 from rfl,Int.reduceBEq,ba,Bool.false_eq_true,aH,aO]
   rw [nC c b (fun hx=>(by rw [e] at hx;cases hx))] at f74
   apply mC
   rw [← e]
   simp only [l9,Int.reduceBEq,ba,Bool.false_eq_true,aH,f74]
   exact bA _ (bA _ (Option.some.inj hh))
  ·have hh:aa (note c b)=aa d:=by rw [e] at h;exact h
   unfold Av
   rw [e]
   simp only [show eE ((12:ae).toNat:aB)=12 from rfl,Int.reduceBEq,ba,Bool.false_eq_true,aH,aO]
   rw [nC c b (fun hx=>(by rw [e] at hx;cases hx))] at f74
   apply mC
   rw [← e]
   simp only [l9,Int.reduceBEq,ba,Bool.false_eq_true,aH,f74]
   exact bA _ (bA _ (Option.some.inj hh))
  ·have hh:aa (note c b)=aa d:=by rw [e] at h;exact h
   unfold Av
   rw [e]
   simp only [show eE ((13:ae).toNat:aB)=13 from rfl,Int.reduceBEq,ba,Bool.false_eq_true,aH,aO]
   rw [nC c b (fun hx=>(by rw [e] at hx;cases hx))] at f74
   apply mC
   rw [← e]
   simp only [l9,Int.reduceBEq,ba,Bool.false_eq_true,aH,f74]
   exact bA _ (bA _ (Option.some.inj hh))
  ·have hh:aa (note c b)=aa d:=by rw [e] at h;exact h
   unfold Av
   rw [e]
   simp only [show eE ((14:ae).toNat:aB)=14 from rfl,Int.reduceBEq,ba,Bool.false_eq_true,aH,aO]
   rw [nC c b (fun hx=>(by rw [e] at hx;cases hx))] at f74
   apply mC
   rw [← e]
   simp only [l9,Int.reduceBEq,ba,Bool.false_eq_true,aH,f74]
   exact bA _ (bA _ (Option.some.inj hh))
  ·have hh:aa (note c b)=aa d:=by rw [e] at h;exact h
   unfold Av
   rw [e]
   simp only [show eE ((15:ae).toNat:aB)=15 from rfl,Int.reduceBEq,ba,Bool.false_eq_true,aH,aO]
   rw [nC c b (fun hx=>Am c hf e)] at f74
   apply mC
   rw [← e]
   simp only [l9,Int.reduceBEq,ba,Bool.false_eq_true,aH,f74]
   exact bA _ (bA _ (Option.some.inj hh))
  ·have hh:aa (note c b)=aa d:=by rw [e] at h;exact h
   unfold Av
   rw [e]
   simp only [show eE ((16:ae).toNat:aB)=16 from rfl,Int.reduceBEq,ba,Bool.false_eq_true,aH,aO]
   rw [nC c b (fun hx=>(by rw [e] at hx;cases hx))] at f74
   apply mC
   rw [← e]
   simp only [l9,Int.reduceBEq,ba,Bool.false_eq_true,aH,f74]
   exact bA _ (bA _ (Option.some.inj hh))
  ·have hh:aa (raw c b aj)=aa d:=by rw [e] at h;exact h
   unfold Av
   rw [e]
   simp only [show eE ((17:ae).toNat:aB)=17 from rfl,Int.reduceBEq,ba,Bool.false_eq_true,aH,aO]
   apply mC
   rw [← e]
   simp only [l9,Int.reduceBEq,ba,Bool.false_eq_true,aH,aO,f73 (by simp [e])]
   exact bA _ (bA _ (Option.some.inj hh))
  ·have hh:aa (raw c b aj)=aa d:=by rw [e] at h;exact h
   unfold Av
   rw [e]
   simp only [show eE ((18:ae).toNat:aB)=18 from rfl,Int.reduceBEq,ba,Bool.false_eq_true,aH,aO]
   apply mC
   rw [← e]
   simp only [l9,Int.reduceBEq,ba,Bool.false_eq_true,aH,aO,f73 (by simp [e])]
   exact bA _ (bA _ (Option.some.inj hh))
  ·have hh:aa (raw c b aj)=aa d:=by rw [e] at h;exact h
   unfold Av
   rw [e]
   simp only [show eE ((19:ae).toNat:aB)=19 from rfl,Int.reduceBEq,ba,Bool.false_eq_true,aH,aO]
   apply mC
   rw [← e]
   simp only [l9,Int.reduceBEq,ba,Bool.false_eq_true,aH,aO,f73 (by simp [e])]
   exact bA _ (bA _ (Option.some.inj hh))
  ·have hh:aa (note c b)=aa d:=by rw [e] at h;exact h
   unfold Av
   rw [e]
   simp only [show eE ((20:ae).toNat:aB)=20 from rfl,Int.reduceBEq,ba,Bool.false_eq_true,aH,aO]
   rw [nC c b (fun hx=>(by rw [e] at hx;cases hx))] at f74
   apply mC
   rw [← e]
   simp only [l9,Int.reduceBEq,ba,Bool.false_eq_true,aH,f74]
   exact bA _ (bA _ (Option.some.inj hh))
  ·exfalso
   have t:=(kD (nD c hf)).1
   rw [decide_eq_true e] at t
   exact t rfl
theorem s77 (c:Ctx) (h:form c=aj):aq (C mx) Tryz.prog 77 [c.bw,.u8 b]=aa (pI c b).bw :=
 l77 b 4 c _ (.inl h) (BI c b aj h)
theorem s68 (c:Ctx) (h:c.nm.length < 9223372036854775808):aq (C mx) Tryz.prog 68 [c.bw,.u8 b]=aa (pI c b).bw:=by
 apply c68
 simp only [X68,cg,cq,FA (h:=h),Option.bind_some,et,ba]
 cases hf:form c with
 | true =>
  rw [aI (by simp),s77 b c hf]
  simp only [Option.bind_some,bm,zT,cg,cq]
 | false =>
  rw [aJ (by simp),Ca]
  unfold pI
  rw [Fc c b aj hf];rfl
end
end lp
namespace lp
open Go Go.Proofs Sx
variable {mx:aB}
end lp
namespace lp
open Go Go.Proofs Sx
variable {mx:aB}
noncomputable def X48 (a b:ae) (d:ay) (e f g i:ae) (j:ay) (k:ae) (l:ai ae) (m:AV) (c:bj) (r:RunT):ak AV :=
 (c 61 [.ag [.u8 a,.u8 b,.b d,.u8 e,.u8 f,.u8 g,.u8 i,.b j,.u8 k,.s l],m,.fn 62]).bind fun n=>(cA n 0).bind fun o=>(cA n 1).bind fun p=>(AV.cm 10 o).bind fun q=>aa (.tu [.ag [gt q 0,gt q 1,gt q 2,gt q 3,gt q 4,gt q 5,gt q 6,gt q 7,gt q 8,gt q 9],p])
theorem c48 (a b d e f g i j k l m) {r:AV} (h:X48 a b d e f g i j k l m (aq (C mx) Tryz.prog) (a7 (C mx) Tryz.prog 48 Tryz.f48)=aa r):aq (C mx) Tryz.prog 48 [.ag [.u8 a,.u8 b,.b d,.u8 e,.u8 f,.u8 g,.u8 i,.b j,.u8 k,.s l],m]=aa r :=
 bc (fun _ _=>by kernel_rfl) h
noncomputable def Mx:Code:=(fH.body).getD .skip
noncomputable def HN (run:RunT) (a b d e f g i j k l m:AV) (n o:ae) (p:ay) (q s t u:ae) (w:ay) (x:ae) (y:ai ae):ak AV :=
 run ((eV 3 Mx []).getD []) (St.fj [(1,.cell (.val a)),(2,.cell (.ptr 2 0)),(4,.cell (.ptr 4 0))] [(2,aa (cV b d e f g i j k l m)),(4,aa (cT n o p q s t u w x y))])
noncomputable def HP (run:RunT) (a:AV) (b:aB) (d e f g i j k l m n:AV) (o p:ae) (q:ay) (s t u w:ae) (x:ay) (y:ae) (z:ai ae):ak AV :=
 run ((eV 4 Mx []).getD []) (St.fj [(1,.cell (.val a)),(2,.cell (.ptr 2 0)),(4,.cell (.ptr 4 0)),(6,.cell (.val (.int b)))] [(2,aa (cV d e f g i j k l m n)),(4,aa (cT o p q s t u w x y z))])
noncomputable def X54 (a b:ae) (d:ay) (e f g i:ae) (j:ay) (k:ae) (l:ai ae) (m:AV) (c:bj) (r:RunT):ak AV :=
 (c 20 [.ag [.u8 a,.u8 b,.b d,.u8 e,.u8 f,.u8 g,.u8 i,.b j,.u8 k,.s l]]).bind fun n=>(unop .not n).bind fun o=>a8 o
 ((c 67 []).bind fun p=>(AV.cm 10 p).bind fun q=>HN r m (gt q 0) (gt q 1) (gt q 2) (gt q 3) (gt q 4) (gt q 5) (gt q 6) (gt q 7) (gt q 8) (gt q 9) 0 0 af 0 0 0 0 af 0 [])
 (HN r m (.u8 a) (.u8 b) (.b d) (.u8 e) (.u8 f) (.u8 g) (.u8 i) (.b j) (.u8 k) (.s l) 0 0 af 0 0 0 0 af 0 [])
theorem c54 (a b d e f g i j k l m) {r:AV} (h:X54 a b d e f g i j k l m (aq (C mx) Tryz.prog) (a7 (C mx) Tryz.prog 54 fH)=aa r):aq (C mx) Tryz.prog 54 [.ag [.u8 a,.u8 b,.b d,.u8 e,.u8 f,.u8 g,.u8 i,.b j,.u8 k,.s l],m]=aa r :=
 bc (fun _ _=>by kernel_rfl) h
noncomputable def XR (a b d e f g i j k l m:AV) (n o:ae) (p:ay) (q s t u:ae) (w:ay) (x:ae) (y:ai ae) (c:bj) (r:RunT):ak AV :=
 HP r a 0 b d e f g i j k l m n o p q s t u w x y
noncomputable def My (a:AV) (b:aB) (d e f g i j k l m n:AV) (o p:ae) (q:ay) (s t u w:ae) (x:ay) (y:ae) (z:ai ae) (c:bj) (r:RunT):ak AV :=
 (kH a).bind fun A=>(cf .lss (.int b) A).bind fun B=>a8 B
 ((idx 1 a (.int b)).bind fun D=>(c 68 [.ag [d,e,f,g,i,j,k,l,m,n],AV.cell D 0]).bind fun E=>(AV.cm 10 E).bind fun G=>(conv .i64 (gt G 0)).bind fun H=>(cf .eql H (.int 20)).bind fun I=>a8 I
 ((c 67 []).bind fun J=>(AV.cm 10 J).bind fun L=>aa (.tu [.ag [gt L 0,gt L 1,gt L 2,gt L 3,gt L 4,gt L 5,gt L 6,gt L 7,gt L 8,gt L 9],.int b]))
 (HP r a (eE (b+1)) (gt G 0) (gt G 1) (gt G 2) (gt G 3) (gt G 4) (gt G 5) (gt G 6) (gt G 7) (gt G 8) (gt G 9) o p q s t u w x y z))
 (aa (.tu [.ag [d,e,f,g,i,j,k,l,m,n],.int ((-1))]))
theorem XS (a b d e f g i j k l m n o p q s t u w x y) {r:AV} (h:XR a b d e f g i j k l m n o p q s t u w x y (aq (C mx) Tryz.prog) (a7 (C mx) Tryz.prog 54 fH)=aa r):HN (a7 (C mx) Tryz.prog 54 fH) a b d e f g i j k l m n o p q s t u w x y=aa r :=
 bh (fun _ _=>by kernel_rfl) h
theorem Rp (a b d e f g i j k l m n o p q s t u w x y z) {r:AV} (h:My a b d e f g i j k l m n o p q s t u w x y z (aq (C mx) Tryz.prog) (a7 (C mx) Tryz.prog 54 fH)=aa r):HP (a7 (C mx) Tryz.prog 54 fH) a b d e f g i j k l m n o p q s t u w x y z=aa r :=
 bh (fun _ _=>by kernel_rfl) h
noncomputable def Mz:Code:=(fG.body).getD .skip
noncomputable def HQ (run:RunT) (a:AV) (b:ax) (d e:ae) (f:ay) (g i j k:ae) (l:ay) (m:ae) (n:ai ae) (o p:ae) (q:ay) (s t u w:ae) (x:ay) (y:ae) (z:ai ae):ak AV :=
 run ((eV 3 Mz []).getD []) (St.fj [(1,.cell (.val a)),(2,.cell (.val (.fn b))),(3,.cell (.ptr 3 0)),(6,.cell (.ptr 6 0))] [(3,aa (cT d e f g i j k l m n)),(6,aa (cT o p q s t u w x y z))])
noncomputable def HR (run:RunT) (a:ax) (b d:AV) (e:aB) (f g i j k l m n o p:AV) (q s:ae) (t:ay) (u w x y:ae) (z:ay) (A:ae) (B:ai ae):ak AV :=
 run ((eV 4 Mz []).getD []) (St.fj [(2,.cell (.val (.fn a))),(3,.cell (.ptr 3 0)),(6,.cell (.ptr 6 0)),(14,.cell (.val b)),(15,.cell (.val d)),(16,.cell (.val (.int e)))] [(3,aa (cV f g i j k l m n o p)),(6,aa (cT q s t u w x y z A B))])
noncomputable def X61 (a b:ae) (d:ay) (e f g i:ae) (j:ay) (k:ae) (l:ai ae) (m:AV) (n:ax) (c:bj) (r:RunT):ak AV :=
 (c 17 [.ag [.u8 a,.u8 b,.b d,.u8 e,.u8 f,.u8 g,.u8 i,.b j,.u8 k,.s l]]).bind fun o=>(unop .not o).bind fun p=>a8 p
 (HQ r m n 20 0 af 0 0 0 0 af 0 [] 0 0 af 0 0 0 0 af 0 [])
 (HQ r m n a b d e f g i j k l 0 0 af 0 0 0 0 af 0 [])
theorem c61 (a b d e f g i j k l m n) {r:AV} (h:X61 a b d e f g i j k l m n (aq (C mx) Tryz.prog) (a7 (C mx) Tryz.prog 61 fG)=aa r):aq (C mx) Tryz.prog 61 [.ag [.u8 a,.u8 b,.b d,.u8 e,.u8 f,.u8 g,.u8 i,.b j,.u8 k,.s l],m,.fn n]=aa r :=
 bc (fun _ _=>by kernel_rfl) h
noncomputable def Rq (a:AV) (b:ax) (d e:ae) (f:ay) (g i j k:ae) (l:ay) (m:ae) (n:ai ae) (o p:ae) (q:ay) (s t u w:ae) (x:ay) (y:ae) (z:ai ae) (c:bj) (r:RunT):ak AV :=
 (kH a).bind fun A=>HR r b a A 0 (.u8 d) (.u8 e) (.b f) (.u8 g) (.u8 i) (.u8 j) (.u8 k) (.b l) (.u8 m) (.s n) o p q s t u w x y z
noncomputable def MA (a:ax) (b d:AV) (e:aB) (f g i j k l m n o p:AV) (q s:ae) (t:ay) (u w x y:ae) (z:ay) (A:ae) (B:ai ae) (c:bj) (r:RunT):ak AV :=
 (cf .lss (.int e) d).bind fun D=>a8 D
 ((idx 1 b (.int e)).bind fun E=>(vK (C mx) c a [.ag [f,g,i,j,k,l,m,n,o,p],AV.cell E 0]).bind fun G=>(AV.cm 10 G).bind fun H=>(cf .eql (gt H 0) (.u8 20)).bind fun I=>a8 I
 (aa (.tu [.ag [gt H 0,gt H 1,gt H 2,gt H 3,gt H 4,gt H 5,gt H 6,gt H 7,gt H 8,gt H 9],.int e]))
 (HR r a b d (eE (e+1)) (gt H 0) (gt H 1) (gt H 2) (gt H 3) (gt H 4) (gt H 5) (gt H 6) (gt H 7) (gt H 8) (gt H 9) q s t u w x y z A B))
 (aa (.tu [.ag [f,g,i,j,k,l,m,n,o,p],.int ((-1))]))
theorem XT (a b d e f g i j k l m n o p q s t u w x y z) {r:AV} (h:Rq a b d e f g i j k l m n o p q s t u w x y z (aq (C mx) Tryz.prog) (a7 (C mx) Tryz.prog 61 fG)=aa r):HQ (a7 (C mx) Tryz.prog 61 fG) a b d e f g i j k l m n o p q s t u w x y z=aa r :=
 bh (fun _ _=>by kernel_rfl) h
theorem Rs (a b d e f g i j k l m n o p q s t u w x y z A B) {r:AV} (h:MA (mx:=mx) a b d e f g i j k l m n o p q s t u w x y z A B (aq (C mx) Tryz.prog) (a7 (C mx) Tryz.prog 61 fG)=aa r):HR (a7 (C mx) Tryz.prog 61 fG) a b d e f g i j k l m n o p q s t u w x y z A B=aa r :=
 bh (fun _ _=>by kernel_rfl) h
section
theorem l61 (g:ax) (f:Ctx→ae→Ctx) (eJ:∀ c b,form (f c b)=aj) (hg:∀ (c:Ctx) (b:ae),form c=aj→vK (C mx) (aq (C mx) Tryz.prog) g [c.bw,.u8 b]=aa (f c b).bw):∀ (r p:ai ae) (c:Ctx),(p ++ r).length < 9223372036854775808→form c=aj →
  HR (a7 (C mx) Tryz.prog 61 fG) g (.ro 1 ((p ++ r).map .u8)) (.int (((p ++ r).map AV.u8).length:aB)) (p.length:aB) (.u8 c.st) (.u8 c.el) (.b c.en) (.u8 c.at') (.u8 c.qu) (.u8 c.pa) (.u8 c.su) (.b c.es) (.u8 c.da) (.s c.nm) 0 0 af 0 0 0 0 af 0 []=aa (ti (mP f c r (p.length:aB)))
 | [],p,c,h,hf=>by
  apply Rs
  simp only [MA,cR,G5,Option.bind_some,ba,Bool.false_eq_true,aH,List.append_nil,cg,cq,mP,Ha]
 | b :: r,p,c,h,hf=>by
  apply Rs
  have hi:=K5 p b r
  simp only [MA,cR,G4,hi,rf p b r h,Option.bind_some,ba,aO,G2,cg,cq,hg c b hf,bm,zT,hZ,mP,Ha]
  split
  ·rfl
  ·rw [kh,l61 g f eJ hg r (p ++ [b]) (f c b) (by rw [← kh];exact h) (eJ c b),← yi p b]
theorem s61 (g:ax) (f:Ctx→ae→Ctx) (eJ:∀ c b,form (f c b)=aj) (hg:∀ (c:Ctx) (b:ae),form c=aj→vK (C mx) (aq (C mx) Tryz.prog) g [c.bw,.u8 b]=aa (f c b).bw) (c:Ctx) (l:ai ae) (hc:c.nm.length < 9223372036854775808) (h:l.length < 9223372036854775808) :
  aq (C mx) Tryz.prog 61 [c.bw,.ro 1 (l.map .u8),.fn g]=aa (ti (mP f (Tf c) l 0)):=by
 have key (d:Ctx) (hd:form d=aj):HQ (a7 (C mx) Tryz.prog 61 fG) (.ro 1 (l.map .u8)) g d.st d.el d.en d.at' d.qu d.pa d.su d.es d.da d.nm 0 0 af 0 0 0 0 af 0 []=aa (ti (mP f d l 0)):=by
  apply XT
  simp only [Rq,jN,Option.bind_some]
  exact l61 g f eJ hg l [] d h hd
 apply c61
 simp only [X61,cg,cq,Mf (h:=hc),Option.bind_some,et,ba]
 unfold Tf
 cases hf:form c with
 | true=>rw [aI (by simp),aJ rfl];exact key c hf
 | false=>rw [aJ (by simp),aI (by simp)];exact key dp rfl
theorem s48 (c:Ctx) (l:ai ae) (hc:c.nm.length < 9223372036854775808) (h:l.length < 9223372036854775808):aq (C mx) Tryz.prog 48 [c.bw,.ro 1 (l.map .u8)]=aa (ti (js c l)):=by
 apply c48
 have:=s61 (mx:=mx) 62 pI rp (fun c b hf=>s62 c b (BM hf)) c l hc h
 simp only [X48,cg,cq,this,Option.bind_some,Pa,Pc,bm,zT]
 rfl
theorem l54:∀ (r p:ai ae) (c:Ctx),(p ++ r).length < 9223372036854775808→form c=aj →
  HP (a7 (C mx) Tryz.prog 54 fH) (.ro 1 ((p ++ r).map .u8)) (p.length:aB) (.u8 c.st) (.u8 c.el) (.b c.en) (.u8 c.at') (.u8 c.qu) (.u8 c.pa) (.u8 c.su) (.b c.es) (.u8 c.da) (.s c.nm) 0 0 af 0 0 0 0 af 0 []=aa (ti (mP pI c r (p.length:aB)))
 | [],p,c,h,hf=>by
  apply Rp
  simp only [My,jN,cR,G5,Option.bind_some,ba,Bool.false_eq_true,aH,List.append_nil,cg,cq,mP,Ha]
 | b :: r,p,c,h,hf=>by
  apply Rp
  have hi:=K5 p b r
  simp only [My,jN,cR,G4,hi,rf p b r h,Option.bind_some,ba,aO,G2,cg,cq,s68 b c (BM hf),Ca,bm,zT,nW,cX,fN _ _ (show 20 < 256 by decide),mP,Ha]
  by_cases hx:((pI c b).st == 20)=aj
  ·rw [aJ hx]
   refine Eq.trans ?_ (bA (fun x=>aa (ti x)) (aJ hx).symm)
   rw [Th (rp c b) hx]
  ·rw [aI hx]
   refine Eq.trans ?_ (bA (fun x=>aa (ti x)) (aI hx).symm)
   rw [kh,l54 r (p ++ [b]) (pI c b) (by rw [← kh];exact h) (rp c b),← yi p b]
theorem s54 (c:Ctx) (l:ai ae) (hc:c.nm.length < 9223372036854775808) (h:l.length < 9223372036854775808):aq (C mx) Tryz.prog 54 [c.bw,.ro 1 (l.map .u8)]=aa (ti (js c l)):=by
 have key (d:Ctx) (hd:form d=aj):HN (a7 (C mx) Tryz.prog 54 fH) (.ro 1 (l.map .u8)) (.u8 d.st) (.u8 d.el) (.b d.en) (.u8 d.at') (.u8 d.qu) (.u8 d.pa) (.u8 d.su) (.b d.es) (.u8 d.da) (.s d.nm) 0 0 af 0 0 0 0 af 0 []=aa (ti (mP pI d l 0)):=by
  apply XS
  exact l54 l [] d h hd
 apply c54
 simp only [X54,cg,cq,FA (h:=hc),Ca,Option.bind_some,et,ba,bm,zT]
 unfold js Tf
 cases hf:form c with
 | true=>rw [aI (by simp),aJ rfl];exact key c hf
 | false=>rw [aJ (by simp),aI (by simp)];exact key dp rfl
end
noncomputable def X33 (a:aB) (b d:ae) (e:ay) (f g i j:ae) (k:ay) (l:ae) (m:ai ae) (n:ai AV) (o:AV) (p q:aB) (c:bj) (r:RunT):ak AV :=
 (pN n.length (.int a)).bind fun s=>(cf .eql (AV.cell (n.getD s .un) 0) (.u8 0)).bind fun t=>a8 t
 ((Sa (AV.cell (n.getD s .un) 2)).bind fun u=>(c 48 [.ag [.u8 b,.u8 d,.b e,.u8 f,.u8 g,.u8 i,.u8 j,.b k,.u8 l,.s m],u]).bind fun w=>(cA w 0).bind fun x=>(cA w 1).bind fun y=>(AV.cm 10 x).bind fun z=>(cf .geq y (.int 0)).bind fun A=>a8 A
 ((cf .add (AV.cell (n.getD s .un) 1) y).bind fun B=>(c 49 [.un,B,.int 5,.ag [.ro 9 n,o,.int p,.int q]]).bind fun D=>(cA D 0).bind fun E=>(cA D 1).bind fun G=>(AV.cm 4 G).bind fun H=>(AV.cm 10 E).bind fun I=>aa (.tu [.ag [gt I 0,gt I 1,gt I 2,gt I 3,gt I 4,gt I 5,gt I 6,gt I 7,gt I 8,gt I 9],.ag [.ro 9 (AV.elems (gt H 0)),gt H 1,gt H 2,gt H 3]]))
 (aa (.tu [.ag [gt z 0,gt z 1,gt z 2,gt z 3,gt z 4,gt z 5,gt z 6,gt z 7,gt z 8,gt z 9],.ag [.ro 9 n,o,.int p,.int q]])))
 ((cf .eql (AV.cell (n.getD s .un) 0) (.u8 1)).bind fun J=>a8 J
 ((c 50 [.ag [.u8 b,.u8 d,.b e,.u8 f,.u8 g,.u8 i,.u8 j,.b k,.u8 l,.s m]]).bind fun L=>(cf .eql L (.u8 0)).bind fun M=>a8 M
 ((c 49 [.un,AV.cell (n.getD s .un) 1,.int 6,.ag [.ro 9 n,o,.int p,.int q]]).bind fun N=>(cA N 0).bind fun O=>(cA N 1).bind fun P=>(AV.cm 4 P).bind fun Q=>(AV.cm 10 O).bind fun R=>aa (.tu [.ag [gt R 0,gt R 1,gt R 2,gt R 3,gt R 4,gt R 5,gt R 6,gt R 7,gt R 8,gt R 9],.ag [.ro 9 (AV.elems (gt Q 0)),gt Q 1,gt Q 2,gt Q 3]]))
 ((pN n.length (.int a)).bind fun T=>(AV.one L).bind fun U=>(c 51 [.ag [.u8 b,.u8 d,.b e,.u8 f,.u8 g,.u8 i,.u8 j,.b k,.u8 l,.s m]]).bind fun V=>(AV.cm 10 V).bind fun W=>aa (.tu [.ag [gt W 0,gt W 1,gt W 2,gt W 3,gt W 4,gt W 5,gt W 6,gt W 7,gt W 8,gt W 9],.ag [.ro 9 (n.set T (.ag [AV.cell (n.getD T .un) 0,AV.cell (n.getD T .un) 1,AV.cell (n.getD T .un) 2,AV.cell (n.getD T .un) 3,AV.cell (n.getD T .un) 4,AV.cell (n.getD T .un) 5,AV.cell (n.getD T .un) 6,AV.cell (n.getD T .un) 7,U])),o,.int p,.int q]])))
 ((cf .eql (AV.cell (n.getD s .un) 0) (.u8 2)).bind fun Y=>a8 Y
 ((c 19 [.un,AV.cell (n.getD s .un) 5,.ag [.u8 b,.u8 d,.b e,.u8 f,.u8 g,.u8 i,.u8 j,.b k,.u8 l,.s m],.ag [.ro 9 n,o,.int p,.int q]]).bind fun Z=>(cA Z 0).bind fun v0=>(cA Z 1).bind fun v1=>(AV.cm 4 v1).bind fun v2=>(AV.cm 10 v0).bind fun v3=>(cf .neq (gt v2 3) (.int 0)).bind fun v4=>a8 v4
 (aa (.tu [.ag [gt v3 0,gt v3 1,gt v3 2,gt v3 3,gt v3 4,gt v3 5,gt v3 6,gt v3 7,gt v3 8,gt v3 9],.ag [.ro 9 (AV.elems (gt v2 0)),gt v2 1,gt v2 2,gt v2 3]]))
 ((c 19 [.un,AV.cell (n.getD s .un) 6,.ag [.u8 b,.u8 d,.b e,.u8 f,.u8 g,.u8 i,.u8 j,.b k,.u8 l,.s m],.ag [.ro 9 (AV.elems (gt v2 0)),gt v2 1,gt v2 2,gt v2 3]]).bind fun v5=>(cA v5 0).bind fun v6=>(cA v5 1).bind fun v7=>(AV.cm 4 v7).bind fun v8=>(AV.cm 10 v6).bind fun v9=>(cf .eql (gt v8 3) (.int 0)).bind fun w0=>(bt (w0) aj ((nh [.i,.i,.b,.i,.i,.i,.i,.b,.i,.s] .neq (.ag [gt v3 0,gt v3 1,gt v3 2,gt v3 3,gt v3 4,gt v3 5,gt v3 6,gt v3 7,gt v3 8,gt v3 9]) (.ag [gt v9 0,gt v9 1,gt v9 2,gt v9 3,gt v9 4,gt v9 5,gt v9 6,gt v9 7,gt v9 8,gt v9 9])).bind fun w1=>aa (w1)) (.b af)).bind fun w2=>a8 (w2)
 ((c 49 [.un,AV.cell (n.getD s .un) 1,.int 7,.ag [.ro 9 (AV.elems (gt v8 0)),gt v8 1,gt v8 2,gt v8 3]]).bind fun w3=>(cA w3 0).bind fun w4=>(cA w3 1).bind fun w5=>(AV.cm 4 w5).bind fun w6=>(AV.cm 10 (w4)).bind fun w7=>aa (.tu [.ag [gt w7 0,gt w7 1,gt w7 2,gt w7 3,gt w7 4,gt w7 5,gt w7 6,gt w7 7,gt w7 8,gt w7 9],.ag [.ro 9 (AV.elems (gt w6 0)),gt w6 1,gt w6 2,gt w6 3]]))
 (aa (.tu [.ag [gt v9 0,gt v9 1,gt v9 2,gt v9 3,gt v9 4,gt v9 5,gt v9 6,gt v9 7,gt v9 8,gt v9 9],.ag [.ro 9 (AV.elems (gt v8 0)),gt v8 1,gt v8 2,gt v8 3]]))))
 ((cf .eql (AV.cell (n.getD s .un) 0) (.u8 3)).bind fun w8=>a8 (w8)
 ((c 19 [.un,AV.cell (n.getD s .un) 5,.ag [.u8 b,.u8 d,.b e,.u8 f,.u8 g,.u8 i,.u8 j,.b k,.u8 l,.s m],.ag [.ro 9 n,o,.int p,.int q]]).bind fun w9=>(cA w9 0).bind fun y0=>(cA w9 1).bind fun y1=>(AV.cm 4 y1).bind fun y2=>(AV.cm 10 (y0)).bind fun y3=>(cf .eql (gt y2 3) (.int 0)).bind fun y4=>(bt (y4) aj ((nh [.i,.i,.b,.i,.i,.i,.i,.b,.i,.s] .neq (.ag [gt y3 0,gt y3 1,gt y3 2,gt y3 3,gt y3 4,gt y3 5,gt y3 6,gt y3 7,gt y3 8,gt y3 9]) (.ag [.u8 b,.u8 d,.b e,.u8 f,.u8 g,.u8 i,.u8 j,.b k,.u8 l,.s m])).bind fun y5=>aa (y5)) (.b af)).bind fun y6=>a8 (y6)
 ((c 49 [.un,AV.cell (n.getD s .un) 1,.int 7,.ag [.ro 9 (AV.elems (gt y2 0)),gt y2 1,gt y2 2,gt y2 3]]).bind fun y7=>(cA y7 0).bind fun y8=>(cA y7 1).bind fun y9=>(AV.cm 4 y9).bind fun z0=>(AV.cm 10 (y8)).bind fun z1=>aa (.tu [.ag [gt z1 0,gt z1 1,gt z1 2,gt z1 3,gt z1 4,gt z1 5,gt z1 6,gt z1 7,gt z1 8,gt z1 9],.ag [.ro 9 (AV.elems (gt z0 0)),gt z0 1,gt z0 2,gt z0 3]]))
 (aa (.tu [.ag [gt y3 0,gt y3 1,gt y3 2,gt y3 3,gt y3 4,gt y3 5,gt y3 6,gt y3 7,gt y3 8,gt y3 9],.ag [.ro 9 (AV.elems (gt y2 0)),gt y2 1,gt y2 2,gt y2 3]])))
 (aa (.tu [.ag [.u8 b,.u8 d,.b e,.u8 f,.u8 g,.u8 i,.u8 j,.b k,.u8 l,.s m],.ag [.ro 9 n,o,.int p,.int q]])))))
theorem c33 (a b d e f g i j k l m n o p q) {r:AV} (h:X33 a b d e f g i j k l m n o p q (aq (C mx) Tryz.prog) (a7 (C mx) Tryz.prog 33 Tryz.f33)=aa r):aq (C mx) Tryz.prog 33 [.un,.int a,.ag [.u8 b,.u8 d,.b e,.u8 f,.u8 g,.u8 i,.u8 j,.b k,.u8 l,.s m],.ag [.ro 9 n,o,.int p,.int q]]=aa r :=
 bc (fun _ _=>by kernel_rfl) h
noncomputable def MB:Code:=(gm.body).getD .skip
noncomputable def Ea (run:RunT) (a b:AV) (d:aB) (e f g i j k l m n o:AV) (p q:ae) (s:ay) (t u w x:ae) (y:ay) (z:ae) (A:ai ae) (B:ai AV) (D E G:AV):ak AV :=
 run ((eV 2 MB []).getD []) (St.fj [(0,.cell (.ptr 26 0)),(5,.cell (.ptr 5 0)),(6,.cell (.ptr 6 0)),(9,.cell (.val a)),(10,.cell (.val b)),(11,.cell (.val (.int d)))] [(5,aa (cV e f g i j k l m n o)),(6,aa (cT p q s t u w x y z A)),(26,aa [.own 626000 58 9 B,.val D,.val E,.val (G)])])
noncomputable def MC (run:RunT) (a b d e f g i j k l:AV) (m n:ae) (o:ay) (p q s t:ae) (u:ay) (w:ae) (x:ai ae) (y:ai AV) (z A B:AV):ak AV :=
 run ((eV 7 MB []).getD []) (St.fj [(5,.cell (.ptr 5 0)),(6,.cell (.ptr 6 0))] [(5,aa (cV a b d e f g i j k l)),(6,aa (cT m n o p q s t u w x)),(26,aa [.own 626000 58 9 y,.val z,.val A,.val (B)])])
noncomputable def X19 (a:AV) (b d:ae) (e:ay) (f g i j:ae) (k:ay) (l:ae) (m:ai ae) (n:ai AV) (o:AV) (p q:aB) (c:bj) (r:RunT):ak AV :=
 (kH a).bind fun s=>Ea r a s 0 (.u8 b) (.u8 d) (.b e) (.u8 f) (.u8 g) (.u8 i) (.u8 j) (.b k) (.u8 l) (.s m) 0 0 af 0 0 0 0 af 0 [] n o (.int p) (.int q)
theorem c19 (a b d e f g i j k l m n o p q) {r:AV} (h:X19 a b d e f g i j k l m n o p q (aq (C mx) Tryz.prog) (a7 (C mx) Tryz.prog 19 gm)=aa r):aq (C mx) Tryz.prog 19 [.un,a,.ag [.u8 b,.u8 d,.b e,.u8 f,.u8 g,.u8 i,.u8 j,.b k,.u8 l,.s m],.ag [.ro 9 n,o,.int p,.int q]]=aa r :=
 bc (fun _ _=>by kernel_rfl) h
noncomputable def HT (a b:AV) (d:aB) (e f g i j k l m n o:AV) (p q:ae) (s:ay) (t u w x:ae) (y:ay) (z:ae) (A:ai ae) (B:ai AV) (D E G:AV) (c:bj) (r:RunT):ak AV :=
 (cf .lss (.int d) b).bind fun H=>a8 H
 ((idx 1 a (.int d)).bind fun I=>(c 33 [.un,AV.cell I 0,.ag [e,f,g,i,j,k,l,m,n,o],.ag [.ro 9 B,D,E,G]]).bind fun J=>(cA J 0).bind fun L=>(cA J 1).bind fun M=>(AV.cm 4 M).bind fun N=>(AV.cm 10 L).bind fun O=>(cf .neq (gt N 3) (.int 0)).bind fun P=>a8 P
 (MC r (gt O 0) (gt O 1) (gt O 2) (gt O 3) (gt O 4) (gt O 5) (gt O 6) (gt O 7) (gt O 8) (gt O 9) p q s t u w x y z A (AV.elems (gt N 0)) (gt N 1) (gt N 2) (gt N 3))
 (Ea r a b (eE (d+1)) (gt O 0) (gt O 1) (gt O 2) (gt O 3) (gt O 4) (gt O 5) (gt O 6) (gt O 7) (gt O 8) (gt O 9) p q s t u w x y z A (AV.elems (gt N 0)) (gt N 1) (gt N 2) (gt N 3)))
 (MC r e f g i j k l m n o p q s t u w x y z A B D E G)
noncomputable def XU (a b d e f g i j k l:AV) (m n:ae) (o:ay) (p q s t:ae) (u:ay) (w:ae) (x:ai ae) (y:ai AV) (z A B:AV) (c:bj) (r:RunT):ak AV :=
 aa (.tu [.ag [a,b,d,e,f,g,i,j,k,l],.ag [.ro 9 y,z,A,B]])
theorem XV (a b d e f g i j k l m n o p q s t u w x y z A B D E G) {r:AV} (h:HT a b d e f g i j k l m n o p q s t u w x y z A B D E G (aq (C mx) Tryz.prog) (a7 (C mx) Tryz.prog 19 gm)=aa r):Ea (a7 (C mx) Tryz.prog 19 gm) a b d e f g i j k l m n o p q s t u w x y z A B D E G=aa r :=
 bh (fun _ _=>by kernel_rfl) h
theorem Rt (a b d e f g i j k l m n o p q s t u w x y z A B) {r:AV} (h:XU a b d e f g i j k l m n o p q s t u w x y z A B (aq (C mx) Tryz.prog) (a7 (C mx) Tryz.prog 19 gm)=aa r):MC (a7 (C mx) Tryz.prog 19 gm) a b d e f g i j k l m n o p q s t u w x y z A B=aa r :=
 bh (fun _ _=>by kernel_rfl) h
noncomputable def X49 (a b:aB) (d:ai AV) (e:AV) (f g:aB) (c:bj) (r:RunT):ak AV :=
 aa (.tu [.ag [.u8 20,.u8 0,.b af,.u8 0,.u8 0,.u8 0,.u8 0,.b af,.u8 0,.s []],.ag [.ro 9 d,e,.int a,.int b]])
theorem c49 (a b d e f g) {r:AV} (h:X49 a b d e f g (aq (C mx) Tryz.prog) (a7 (C mx) Tryz.prog 49 Tryz.f49)=aa r):aq (C mx) Tryz.prog 49 [.un,.int a,.int b,.ag [.ro 9 d,e,.int f,.int g]]=aa r :=
 bc (fun _ _=>by kernel_rfl) h
end lp
namespace R3
open Go Go.Proofs Sx
variable {mx:aB}
noncomputable def X70 (a:ai ae) (c:bj) (r:RunT):ak AV :=
 (bt (.b (a == [])) af (aa (.b af)) (.b aj)).bind fun b=>a8 b
 (aa (.s a))
 ((c 83 [.s a,.u8 32]).bind fun d=>(c 82 [d,.u8 32]).bind fun e=>aa e)
theorem c70 a {r:AV} (h:X70 a (aq (C mx) Tryz.prog) (a7 (C mx) Tryz.prog 70 Tryz.f70)=aa r):aq (C mx) Tryz.prog 70 [.s a,.s [32]]=aa r :=
 bc (fun _ _=>by kernel_rfl) h
noncomputable def X72 (a:ai ae) (c:bj) (r:RunT):ak AV :=
 (bt (.b (a == [])) af (aa (.b af)) (.b aj)).bind fun b=>a8 b
 (aa (.s a))
 ((c 82 [.s a,.u8 32]).bind fun d=>aa d)
theorem c72 a {r:AV} (h:X72 a (aq (C mx) Tryz.prog) (a7 (C mx) Tryz.prog 72 Tryz.f72)=aa r):aq (C mx) Tryz.prog 72 [.s a,.s [32]]=aa r :=
 bc (fun _ _=>by kernel_rfl) h
noncomputable def HV (run:RunT) (a:AV) (b:ae):ak AV :=
 run ((eV 1 ((il.body).getD .skip) []).getD []) (St.fj [(0,.cell (.val a)),(1,.cell (.val (.u8 b)))] [])
noncomputable def X82 (a:ai ae) (b:ae) (c:bj) (r:RunT):ak AV :=
 HV r (.s a) b
theorem c82 (a b) {r:AV} (h:X82 a b (aq (C mx) Tryz.prog) (a7 (C mx) Tryz.prog 82 il)=aa r):aq (C mx) Tryz.prog 82 [.s a,.u8 b]=aa r :=
 bc (fun _ _=>by kernel_rfl) h
noncomputable def Ru (a:AV) (b:ae) (c:bj) (r:RunT):ak AV :=
 (om a).bind fun d=>(cf .gtr d (.int 0)).bind fun e=>(bt e aj ((jU a (.int 0)).bind fun f=>(cf .eql f (.u8 b)).bind fun g=>aa g) (.b af)).bind fun i=>a8 i
 ((nM a (aa (.int 1)) ah).bind fun j=>HV r j b)
 (aa a)
theorem Rv (a b) {r:AV} (h:Ru a b (aq (C mx) Tryz.prog) (a7 (C mx) Tryz.prog 82 il)=aa r):HV (a7 (C mx) Tryz.prog 82 il) a b=aa r :=
 bh (fun _ _=>by kernel_rfl) h
noncomputable def HX (run:RunT) (a:AV) (b:ae):ak AV :=
 run ((eV 1 ((ig.body).getD .skip) []).getD []) (St.fj [(0,.cell (.val a)),(1,.cell (.val (.u8 b)))] [])
noncomputable def X83 (a:ai ae) (b:ae) (c:bj) (r:RunT):ak AV :=
 HX r (.s a) b
theorem c83 (a b) {r:AV} (h:X83 a b (aq (C mx) Tryz.prog) (a7 (C mx) Tryz.prog 83 ig)=aa r):aq (C mx) Tryz.prog 83 [.s a,.u8 b]=aa r :=
 bc (fun _ _=>by kernel_rfl) h
noncomputable def Rw (a:AV) (b:ae) (c:bj) (r:RunT):ak AV :=
 (om a).bind fun d=>(cf .gtr d (.int 0)).bind fun e=>(bt e aj ((om a).bind fun f=>(cf .sub f (.int 1)).bind fun g=>(jU a g).bind fun i=>(cf .eql i (.u8 b)).bind fun j=>aa j) (.b af)).bind fun k=>a8 k
 ((om a).bind fun l=>(cf .sub l (.int 1)).bind fun m=>(nM a ah (aa m)).bind fun n=>HX r n b)
 (aa a)
theorem Rx (a b) {r:AV} (h:Rw a b (aq (C mx) Tryz.prog) (a7 (C mx) Tryz.prog 83 ig)=aa r):HX (a7 (C mx) Tryz.prog 83 ig) a b=aa r :=
 bh (fun _ _=>by kernel_rfl) h
theorem qC (a b:AV):cA (.tu [a,b]) 0=aa a:=rfl
theorem qD (a b:AV):cA (.tu [a,b]) 1=aa b:=rfl
theorem qE (l:ai ae):om (.s l)=aa (.int (l.length:aB)):=rfl
theorem Y' (n:ax):cf .gtr (.int ((n+1:ax):aB)) (.int 0)=aa (.b aj):=by
 rw [Bv];congr 2;rw [aG];omega
def gj (b:ae) (l:ai ae):ai ae:=l.dropWhile (· == b)
def gC (b:ae) (l:ai ae):ai ae:=(l.reverse.dropWhile (· == b)).reverse
theorem l82 (b:ae):∀ (l:ai ae),l.length≤1000000000→HV (a7 (C mx) Tryz.prog 82 il) (.s l) b=aa (.s (gj b l))
 | [],_=>by
  apply Rv
  rfl
 | x :: r,h=>by
  apply Rv
  have ih:=l82 b r (by simp at h;omega)
  have hi:jU (.s (x :: r)) (.int 0)=aa (.u8 x):=lM (i:=0) (l:=x :: r) (by simp)
  have hs:nM (.s (x :: r)) (aa (.int 1)) ah=aa (.s r):=sT (l:=x :: r) (i:=1) (by simp)
  simp only [Ru,qE,aA,Y',hi,hs,Option.bind_some,hZ,b9,Bool.true_and,ba]
  unfold gj
  rw [bR]
  cases hx:(x == b) with
  | true=>simp only [aO];exact ih
  | false=>simp only [Bool.false_eq_true,aH]
theorem s82 (b:ae) (l:ai ae) (h:l.length≤1000000000):aq (C mx) Tryz.prog 82 [.s l,.u8 b]=aa (.s (gj b l)):=by
 apply c82
 exact l82 b l h
theorem l83 (b:ae):∀ (n:ax) (l:ai ae),l.length=n→n≤1000000000→HX (a7 (C mx) Tryz.prog 83 ig) (.s l) b=aa (.s (gC b l))
 | 0,l,hn,h=>by
  obtain rfl:=List.eq_nil_of_length_eq_zero hn
  apply Rx
  rfl
 | n+1,l,hn,h=>by
  apply Rx
  obtain ⟨p,x,rfl⟩:∃ p x,l=p ++ [x]:=by
   rcases List.eq_nil_or_concat l with e | ⟨p,x,e⟩
   ·rw [e] at hn;cases hn
   ·exact ⟨p,x,by simpa using e⟩
  have hp:p.length=n:=by simpa using hn
  have ih:=l83 b n p hp (by omega)
  have hl:(p ++ [x]).length=p.length+1:=by simp
  have qa:cf .sub (.int ((p.length+1:ax):aB)) (.int 1)=aa (.int (p.length:aB)):=by
   show aa (AV.int (eE _))=_
   rw [gh (by omega) (by omega)];congr 2;omega
  have hi:jU (.s (p ++ [x])) (.int (p.length:aB))=aa (.u8 x):=nX p x []
  have hs:nM (.s (p ++ [x])) ah (aa (.int (p.length:aB)))=aa (.s p):=by
   rw [sS (by simp)];simp
  simp only [Rw,qE,hl,Y',qa,hi,hs,Option.bind_some,hZ,b9,Bool.true_and,ba]
  unfold gC
  rw [List.reverse_append,List.reverse_singleton,List.singleton_append,bR]
  cases hx:(x == b) with
  | true=>simp only [aO];exact ih
  | false=>simp only [Bool.false_eq_true,aH];simp
theorem s83 (b:ae) (l:ai ae) (h:l.length≤1000000000):aq (C mx) Tryz.prog 83 [.s l,.u8 b]=aa (.s (gC b l)):=by
 apply c83
 exact l83 b l.length l rfl h
def qF (l:ai ae):ai ae:=gj 32 (gC 32 l)
theorem vr (b:ae) (l:ai ae):(gC b l).length≤l.length:=by
 unfold gC
 have:=(iR (p:=(· == b)) (l:=l.reverse)).length_le
 simpa using this
theorem oK (b:ae) (l:ai ae):(gj b l).length≤l.length:=(iR (p:=(· == b)) (l:=l)).length_le
theorem Aw (l:ai ae):(qF l).length≤l.length:=Nat.le_trans (oK _ _) (vr _ _)
theorem s70 (l:ai ae) (h:l.length≤1000000000):aq (C mx) Tryz.prog 70 [.s l,.s [32]]=aa (.s (qF l)):=by
 apply c70
 have h1:=s83 (mx:=mx) 32 l h
 have h2:=s82 (mx:=mx) 32 (gC 32 l) (Nat.le_trans (vr _ _) h)
 simp only [X70,cy,Bool.or_false,Option.bind_some,ba,h1,h2]
 cases l with
 | nil=>rfl
 | cons x r=>rfl
theorem s72 (l:ai ae) (h:l.length≤1000000000):aq (C mx) Tryz.prog 72 [.s l,.s [32]]=aa (.s (gj 32 l)):=by
 apply c72
 have h2:=s82 (mx:=mx) 32 l h
 simp only [X72,cy,Bool.or_false,Option.bind_some,ba,h2]
 cases l with
 | nil=>rfl
 | cons x r=>rfl
noncomputable def WU (a b:ai ae) (c:bj) (r:RunT):ak AV :=
 (c 57 [.s a,.s b]).bind fun d=>aa d
theorem c42 (a b) {r:AV} (h:WU a b (aq (C mx) Tryz.prog) (a7 (C mx) Tryz.prog 42 Tryz.f42)=aa r):aq (C mx) Tryz.prog 42 [.s a,.s b]=aa r :=
 bc (fun _ _=>by kernel_rfl) h
noncomputable def WZ (a b:ai ae) (c:bj) (r:RunT):ak AV :=
 (bt (.b (decide (((a.length:aB)) ≥ ((b.length:aB))))) aj ((nM (.s a) ah (aa (.int ((b.length:aB))))).bind fun d=>(gR .eql d (.s b)).bind fun e=>aa e) (.b af)).bind fun f=>aa f
theorem c57 (a b) {r:AV} (h:WZ a b (aq (C mx) Tryz.prog) (a7 (C mx) Tryz.prog 57 Tryz.f57)=aa r):aq (C mx) Tryz.prog 57 [.s a,.s b]=aa r :=
 bc (fun _ _=>by kernel_rfl) h
noncomputable def yG (run:RunT) (a:AV) (b d:ae) (e:aB) (f:ai ae) (g:ay) (i:AV):ak AV :=
 run ((eV 18 ((Tryz.f59.body).getD .skip) []).getD []) (St.fj [(0,.cell (.val a)),(2,.cell (.ptr 2 0)),(4,.cell (.val (.u8 b)))] [(2,aa [.val (.u8 d),.val (.int e),.val (.s f),.val (.b g),.val (i)])])
noncomputable def X59 (a:ai ae) (c:bj) (r:RunT):ak AV :=
 (c 70 [.s a,.s [32]]).bind fun b=>(gR .eql b (.s [101,108,115,101])).bind fun d=>a8 d
 (aa (.tu [.ag [.u8 3,.int 0,.s [],.b af,.cd],.b aj]))
 ((gR .eql b (.s [101,110,100])).bind fun e=>a8 e
 (aa (.tu [.ag [.u8 5,.int 0,.s [],.b af,.cd],.b aj]))
 ((gR .eql b (.s [102,108,117,115,104])).bind fun f=>a8 f
 (aa (.tu [.ag [.u8 6,.int 0,.s [],.b af,.cd],.b aj]))
 ((c 71 [b,.s [105,102,32]]).bind fun g=>(cA g 0).bind fun i=>(cA g 1).bind fun j=>a8 j
 ((c 72 [i,.s [32]]).bind fun k=>yG r k 2 0 0 [] af (.cd))
 ((c 71 [b,.s [114,97,110,103,101,32]]).bind fun l=>(cA l 0).bind fun m=>(cA l 1).bind fun n=>a8 n
 ((c 72 [m,.s [32]]).bind fun o=>yG r o 4 0 0 [] af (.cd))
 ((gR .eql b (.s [105,102])).bind fun p=>(bt p af ((gR .eql b (.s [114,97,110,103,101])).bind fun q=>aa q) (.b aj)).bind fun s=>a8 s
 (aa (.tu [.ag [.u8 0,.int 0,.s [],.b af,.cd],.b af]))
 (yG r b 1 0 0 [] af (.cd)))))))
theorem c59 a {r:AV} (h:X59 a (aq (C mx) Tryz.prog) (a7 (C mx) Tryz.prog 59 Tryz.f59)=aa r):aq (C mx) Tryz.prog 59 [.s a]=aa r :=
 bc (fun _ _=>by kernel_rfl) h
noncomputable def MD (a:AV) (b d:ae) (e:aB) (f:ai ae) (g:ay) (i:AV) (c:bj) (r:RunT):ak AV :=
 (c 73 [a]).bind fun j=>(cA j 0).bind fun k=>(cA j 1).bind fun l=>(AV.cm 2 k).bind fun m=>aa (.tu [.ag [.u8 b,.int 0,.s [],gt m 0,gt m 1],l])
theorem Uv (a b d e f g i) {r:AV} (h:MD a b d e f g i (aq (C mx) Tryz.prog) (a7 (C mx) Tryz.prog 59 Tryz.f59)=aa r):yG (a7 (C mx) Tryz.prog 59 Tryz.f59) a b d e f g i=aa r :=
 bh (fun _ _=>by kernel_rfl) h
noncomputable def X71 (a b:ai ae) (c:bj) (r:RunT):ak AV :=
 (c 89 [.s a,.s b]).bind fun d=>(cA d 0).bind fun e=>(cA d 1).bind fun f=>aa (.tu [e,f])
theorem c71 (a b) {r:AV} (h:X71 a b (aq (C mx) Tryz.prog) (a7 (C mx) Tryz.prog 71 Tryz.f71)=aa r):aq (C mx) Tryz.prog 71 [.s a,.s b]=aa r :=
 bc (fun _ _=>by kernel_rfl) h
noncomputable def X89 (a b:ai ae) (c:bj) (r:RunT):ak AV :=
 (c 57 [.s a,.s b]).bind fun d=>(unop .not d).bind fun e=>a8 e
 (aa (.tu [.s a,.b af]))
 ((nM (.s a) (aa (.int ((b.length:aB)))) ah).bind fun f=>aa (.tu [f,.b aj]))
theorem c89 (a b) {r:AV} (h:X89 a b (aq (C mx) Tryz.prog) (a7 (C mx) Tryz.prog 89 Tryz.f89)=aa r):aq (C mx) Tryz.prog 89 [.s a,.s b]=aa r :=
 bc (fun _ _=>by kernel_rfl) h
theorem Y8 (l p:ai ae):aq (C mx) Tryz.prog 57 [.s l,.s p]=aa (.b (pre p l)):=by
 apply c57
 simp only [WZ,Option.bind_some,ge_iff_le]
 by_cases h:p.length≤l.length
 ·rw [sS h]
  simp [pre,h]
 ·have:decide ((p.length:aB)≤(l.length:aB))=af:=by simp;omega
  rw [this,lL]
  simp [pre,h]
theorem Y9 (l p:ai ae):aq (C mx) Tryz.prog 42 [.s l,.s p]=aa (.b (pre p l)):=by
 apply c42
 simp only [WU,Y8,Option.bind_some]
theorem s89 (l p:ai ae) (h:p.length≤1000000000):aq (C mx) Tryz.prog 89 [.s l,.s p]=aa (.tu [.s (if pre p l then l.drop p.length else l),.b (pre p l)]):=by
 apply c89
 have h1:=Y8 (mx:=mx) l p
 simp only [X89,h1,Option.bind_some,et,ba]
 cases hp:pre p l with
 | false=>rfl
 | true =>
  have hle:p.length≤l.length:=by unfold pre at hp;rw [Bool.and_eq_true,aG] at hp;exact hp.1
  rw [sT hle];rfl
theorem s71 (l p:ai ae) (h:p.length≤1000000000):aq (C mx) Tryz.prog 71 [.s l,.s p]=aa (.tu [.s (if pre p l then l.drop p.length else l),.b (pre p l)]):=by
 apply c71
 simp only [X71,s89 l p h,Option.bind_some,qC,qD]
def Qd (l:ai ae):ay:=if l == [46] then af else if l == [36] then aj else if (gi (if jt l then l.drop 2 else l)).all ld && decide ((gi (if jt l then l.drop 2 else l)).length≤8) then jt l else af
def Jv (l:ai ae):AV:=if l == [46] then .cd else if l == [36] then .cd else if (gi (if jt l then l.drop 2 else l)).all ld && decide ((gi (if jt l then l.drop 2 else l)).length≤8) then .ro 1 ((gi (if jt l then l.drop 2 else l)).map .s) else .cd
def Qe (l:ai ae):ay:=if l == [46] then aj else if l == [36] then aj else (gi (if jt l then l.drop 2 else l)).all ld && decide ((gi (if jt l then l.drop 2 else l)).length≤8)
theorem Eb (l:ai ae):yw l=.tu [.ag [.b (Qd l),Jv l],.b (Qe l)]:=by
 unfold yw Qd Jv Qe Rf
 cases l == [46] with
 | true=>rfl
 | false =>
  cases l == [36] with
  | true=>rfl
  | false =>
   simp only [Bool.false_eq_true,aH]
   generalize ((gi (if jt l then l.drop 2 else l)).all ld && decide ((gi (if jt l then l.drop 2 else l)).length≤8))=q
   cases q <;> rfl
theorem s73 (l:ai ae) (h:l.length≤1000000000):aq (C mx) Tryz.prog 73 [.s l]=aa (.tu [.ag [.b (Qd l),Jv l],.b (Qe l)]):=by
 rw [← Eb]
 refine o7 (G:=WN) rfl rfl ?_
 show (if l.length≤1000000000 then aa (yw l) else ah)=_
 rw [aJ h]
def els:ai ae:=[101,108,115,101]
def Qf:ai ae:=[101,110,100]
def Cn:ai ae:=[102,108,117,115,104]
def N3:ai ae:=[105,102]
def ow:ai ae:=[114,97,110,103,101]
structure FH where
 kind:ae
 root:ay
 names:AV
 ok:ay
def Ec (k:ae) (l:ai ae):FH:=⟨k,Qd l,Jv l,Qe l⟩
def Co (k:ae) (ok:ay):FH:=⟨k,af,.cd,ok⟩
def ME (s:ai ae):FH :=
 if s == els then Co 3 aj else if s == Qf then Co 5 aj else if s == Cn then Co 6 aj
 else if pre (N3 ++ [32]) s then Ec 2 (gj 32 (s.drop 3)) else if pre (ow ++ [32]) s then Ec 4 (gj 32 (s.drop 6))
 else if s == N3 || s == ow then Co 0 af else Ec 1 s
def kF (l:ai ae):FH:=ME (qF l)
def FH.av (a:FH):AV:=.tu [.ag [.u8 a.kind,.int 0,.s [],.b a.root,a.names],.b a.ok]
theorem l59 (l:ai ae) (h:l.length≤1000000000) (k:ae):yG (a7 (C mx) Tryz.prog 59 Tryz.f59) (.s l) k 0 0 [] af .cd=aa (Ec k l).av:=by
 apply Uv
 have e (x y:AV):AV.cm 2 (.ag [x,y])=aa [x,y]:=rfl
 simp only [MD,s73 l h,Option.bind_some,qC,qD,e,bf,bz]
 rfl
theorem s59 (l:ai ae) (h:l.length≤1000000000):aq (C mx) Tryz.prog 59 [.s l]=aa (kF l).av:=by
 apply c59
 have hs:=Nat.le_trans (Aw l) h
 have h1:=s70 (mx:=mx) l h
 unfold kF
 generalize qF l=s at hs h1
 have c1:=s71 (mx:=mx) s [105,102,32] (by decide)
 have c2:=s71 (mx:=mx) s [114,97,110,103,101,32] (by decide)
 simp only [X59,h1,Option.bind_some,ud,ba,c1,c2,qC,qD,cy]
 unfold ME els Qf Cn
 cases s == [101,108,115,101] with
 | true=>rfl
 | false =>
  cases s == [101,110,100] with
  | true=>rfl
  | false =>
   cases s == [102,108,117,115,104] with
   | true=>rfl
   | false =>
    simp only [Bool.false_eq_true,aH]
    rw [show N3 ++ [32]=[105,102,32] from rfl,show ow ++ [32]=[114,97,110,103,101,32] from rfl,show N3=[105,102] from rfl,show ow=[114,97,110,103,101] from rfl]
    cases hp:pre [105,102,32] s with
    | true =>
     simp only [aO]
     have hd:(s.drop 3).length≤1000000000:=by rw [bQ];omega
     rw [show ([105,102,32]:ai ae).length=3 from rfl,s72 (mx:=mx) (s.drop 3) hd]
     exact l59 (mx:=mx) _ (Nat.le_trans (oK _ _) hd) 2
    | false =>
     simp only [Bool.false_eq_true,aH]
     cases hq:pre [114,97,110,103,101,32] s with
     | true =>
      simp only [aO]
      have hd:(s.drop 6).length≤1000000000:=by rw [bQ];omega
      rw [show ([114,97,110,103,101,32]:ai ae).length=6 from rfl,s72 (mx:=mx) (s.drop 6) hd]
      exact l59 (mx:=mx) _ (Nat.le_trans (oK _ _) hd) 4
     | false =>
      simp only [Bool.false_eq_true,aH]
      cases hr:(s == [105,102] || s == [114,97,110,103,101]) with
      | true=>rfl
      | false =>
       simp only [Bool.false_eq_true,aH]
       exact l59 (mx:=mx) s hs 1
noncomputable def X31 (a:ai ae) (c:bj) (r:RunT):ak AV :=
 a8 (.b (decide (((a.length:aB)) > 65536)))
 (aa (.tu [.cd,.int 0,.int 2]))
 ((c 44 [.s a,.un,.ag [.ro 5 []]]).bind fun b=>(cA b 0).bind fun d=>(cA b 1).bind fun e=>(AV.cm 1 e).bind fun f=>(cf .geq d (.int 0)).bind fun g=>a8 g
 (aa (.tu [.cd,d,.int 4]))
 (aa (.tu [.ro 5 (AV.elems (gt f 0)),.int 0,.int 0])))
theorem c31 a {r:AV} (h:X31 a (aq (C mx) Tryz.prog) (a7 (C mx) Tryz.prog 31 Tryz.f31)=aa r):aq (C mx) Tryz.prog 31 [.s a]=aa r :=
 bc (fun _ _=>by kernel_rfl) h
noncomputable def MF:Code:=(fI.body).getD .skip
noncomputable def Ed (run:RunT) (a:ai ae) (b:AV) (d:ai AV):ak AV :=
 run ((eV 2 MF []).getD []) (St.fj [(0,.cell (.val (.s a))),(1,.cell (.lr 45 [71])),(5,.cell (.val b))] [(71,aa [.own 671000 91 5 d])])
noncomputable def HY (run:RunT) (a:ai ae) (b d:AV) (e:ai AV):ak AV :=
 run ((eV 6 MF []).getD []) (St.fj [(0,.cell (.val (.s a))),(1,.cell (.lr 45 [71])),(5,.cell (.val b)),(6,.cell (.val d))] [(71,aa [.own 671000 91 5 e])])
noncomputable def X44 (a:ai ae) (b:ai AV) (c:bj) (r:RunT):ak AV :=
 Ed r a (.int 0) b
theorem c44 (a b) {r:AV} (h:X44 a b (aq (C mx) Tryz.prog) (a7 (C mx) Tryz.prog 44 fI)=aa r):aq (C mx) Tryz.prog 44 [.s a,.un,.ag [.ro 5 b]]=aa r :=
 bc (fun _ _=>by kernel_rfl) h
noncomputable def HZ (a:ai ae) (b:AV) (d:ai AV) (c:bj) (r:RunT):ak AV :=
 (cf .lss b (.int ((a.length:aB)))).bind fun e=>a8 e
 ((nM (.s a) (aa b) ah).bind fun f=>(c 58 [f,.s [123,123]]).bind fun g=>(cf .lss g (.int 0)).bind fun i=>a8 i
 ((cf .sub (.int ((a.length:aB))) b).bind fun j=>HY r a b j d)
 (HY r a b g d))
 (aa (.tu [.int ((-1)),.ag [.ro 5 d]]))
noncomputable def MG (a:ai ae) (b d:AV) (e:ai AV) (c:bj) (r:RunT):ak AV :=
 (cf .gtr d (.int 0)).bind fun f=>a8 f
 ((cf .add b d).bind fun g=>(nM (.s a) (aa b) (aa g)).bind fun i=>(AV.one b).bind fun j=>(AV.one i).bind fun k=>(c 45 [.ag [.u8 0,j,k,.b af,.cd],.un,.ag [.ro 5 e]]).bind fun l=>(cA l 0).bind fun m=>(cA l 1).bind fun n=>(AV.cm 1 n).bind fun o=>(unop .not m).bind fun p=>a8 p
 (aa (.tu [.int ((-1)),.ag [.ro 5 (AV.elems (gt o 0))]]))
 ((cf .add b d).bind fun q=>Ed r a q (AV.elems (gt o 0))))
 ((nM (.s a) (aa b) ah).bind fun s=>(c 58 [s,.s [125,125]]).bind fun t=>(cf .lss t (.int 0)).bind fun u=>a8 u
 (aa (.tu [b,.ag [.ro 5 e]]))
 ((cf .add b (.int 2)).bind fun w=>(cf .add b t).bind fun x=>(nM (.s a) (aa w) (aa x)).bind fun y=>(c 59 [y]).bind fun z=>(cA z 0).bind fun A=>(cA z 1).bind fun B=>(AV.cm 5 A).bind fun D=>(unop .not B).bind fun E=>a8 E
 (aa (.tu [b,.ag [.ro 5 e]]))
 ((AV.one b).bind fun G=>(c 45 [.ag [gt D 0,G,gt D 2,gt D 3,gt D 4],.un,.ag [.ro 5 e]]).bind fun H=>(cA H 0).bind fun I=>(cA H 1).bind fun J=>(AV.cm 1 J).bind fun L=>(unop .not I).bind fun M=>a8 M
 (aa (.tu [.int ((-1)),.ag [.ro 5 (AV.elems (gt L 0))]]))
 ((cf .add t (.int 2)).bind fun N=>(cf .add b N).bind fun O=>Ed r a O (AV.elems (gt L 0))))))
theorem MH (a b d) {r:AV} (h:HZ a b d (aq (C mx) Tryz.prog) (a7 (C mx) Tryz.prog 44 fI)=aa r):Ed (a7 (C mx) Tryz.prog 44 fI) a b d=aa r :=
 bh (fun _ _=>by kernel_rfl) h
theorem XW (a b d e) {r:AV} (h:MG a b d e (aq (C mx) Tryz.prog) (a7 (C mx) Tryz.prog 44 fI)=aa r):HY (a7 (C mx) Tryz.prog 44 fI) a b d e=aa r :=
 bh (fun _ _=>by kernel_rfl) h
noncomputable def X45 (a:ae) (b:aB) (d:ai ae) (e:ay) (f:AV) (g:ai AV) (c:bj) (r:RunT):ak AV :=
 (app 64 5 g (.ro 5 (([.ag [.u8 a,.int b,.s d,.b e,f]]:ai AV)))).bind fun i=>aa (.tu [.b aj,.ag [.ro 5 i]])
theorem c45 (a b d e f g) {r:AV} (h:X45 a b d e f g (aq (C mx) Tryz.prog) (a7 (C mx) Tryz.prog 45 Tryz.f45)=aa r):aq (C mx) Tryz.prog 45 [.ag [.u8 a,.int b,.s d,.b e,f],.un,.ag [.ro 5 g]]=aa r :=
 bc (fun _ _=>by kernel_rfl) h
structure Wd where
 kind:ae
 at':ax
 text:ai ae
 root:ay
 names:AV
def Wd.av (w:Wd):AV:=.ag [.u8 w.kind,.int (w.at':aB),.s w.text,.b w.root,w.names]
def Ee (at':ax) (t:ai ae):Wd:=⟨0,at',t,af,.cd⟩
def wA (at':ax) (a:FH):Wd:=⟨a.kind,at',[],a.root,a.names⟩
def xy:ai ae:=[123,123]
def ur:ai ae:=[125,125]
def fR (r:ai ae):ax:=if Lib.index r xy < 0 then r.length else (Lib.index r xy).toNat
def kq:ax→ai ae→ax→ai Wd→ai Wd×aB
 | 0,_,_,acc=>(acc,-1)
 | n+1,r,at',acc =>
  if r.isEmpty then (acc,-1)
  else if 0 < fR r then kq n (r.drop (fR r)) (at'+fR r) (acc ++ [Ee at' (r.take (fR r))])
  else if Lib.index r ur < 0 then (acc,(at':aB))
  else if (kF ((r.take (Lib.index r ur).toNat).drop 2)).ok then kq n (r.drop ((Lib.index r ur).toNat+2)) (at'+((Lib.index r ur).toNat+2)) (acc ++ [wA at' (kF ((r.take (Lib.index r ur).toNat).drop 2))])
  else (acc,(at':aB))
theorem rA (r:ai ae):fR r≤r.length:=by
 unfold fR
 split
 ·exact Nat.le_refl _
 ·rename_i h
  have:=gK r xy (by omega)
  have e:(xy.length:aB)=2:=rfl
  omega
theorem H0 (r:ai ae) (h0:fR r=0) (hne:0 < r.length) (j:ax) (hj:Lib.index r ur=(j:aB)):2≤j:=by
 unfold fR at h0
 split at h0
 ·omega
 ·rename_i hn
  have hz:Lib.index r xy=0:=by omega
  rcases eG r xy with ⟨h1,_⟩ | ⟨i,h1,h2,h3,_⟩
  ·omega
  ·obtain rfl:i=0:=by omega
   rcases eG r ur with ⟨k1,_⟩ | ⟨k,k1,k2,k3,_⟩
   ·omega
   ·obtain rfl:k=j:=by omega
    unfold dB xy at h3
    unfold dB ur at k3
    match r,h3,k3 with
    | a :: b :: t,h3,k3 =>
     simp [List.isPrefixOf] at h3
     obtain ⟨rfl,rfl⟩:=h3
     match k,k3 with
     | 0,k3=>simp [List.isPrefixOf] at k3
     | 1,k3=>cases t <;> simp [List.isPrefixOf] at k3
     | k+2,_=>omega
    | [a],h3,_=>simp [List.isPrefixOf] at h3
    | [],h3,_=>simp [List.isPrefixOf] at h3
theorem MI (p r:ai ae) (j:ax) (h2:2≤j) (hj:j≤r.length):nM (.s (p ++ r)) (aa (.int ((p.length+2:ax):aB))) (aa (.int ((p.length+j:ax):aB)))=aa (.s ((r.take j).drop 2)):=by
 show ((mJ (p ++ r).length (aa (.int ((p.length+2:ax):aB))) (aa (.int ((p.length+j:ax):aB)))).bind fun q=>aa (AV.s (((p ++ r).take q.2).drop q.1)))=_
 have h1:CX (p ++ r).length (.int ((p.length+j:ax):aB))=aa (p.length+j):=by
  show (if 0≤((p.length+j:ax):aB)∧((p.length+j:ax):aB)≤((p ++ r).length:aB) then aa ((p.length+j:ax):aB).toNat else ah)=_
  rw [aJ ⟨by omega,by simp;omega⟩];congr 1
 have h3:CX (p.length+j) (.int ((p.length+2:ax):aB))=aa (p.length+2):=by
  show (if 0≤((p.length+2:ax):aB)∧((p.length+2:ax):aB)≤((p.length+j:ax):aB) then aa ((p.length+2:ax):aB).toNat else ah)=_
  rw [aJ ⟨by omega,by omega⟩];congr 1
 simp only [mJ,h1,h3,Option.bind_some]
 have e1:(p ++ r).take (p.length+j)=p ++ r.take j:=by simp only [List.take_append,Nat.add_sub_cancel_left];rw [List.take_of_length_le (by omega)]
 rw [e1,← List.drop_drop,List.drop_left]
theorem s58 (l p:ai ae) (h:l.length≤1000000000):aq (C mx) Tryz.prog 58 [.s l,.s p]=aa (.int (Lib.index l p)):=by
 refine o7 (G:=WO) rfl rfl ?_
 show (if l.length≤1000000000 then aa (AV.int (Lib.index l p)) else ah)=_
 rw [aJ h]
theorem s45 (w:Wd) (acc:ai Wd) (h:acc.length≤1000000000):aq (C mx) Tryz.prog 45 [w.av,.un,.ag [.ro 5 (acc.map Wd.av)]]=aa (.tu [.b aj,.ag [.ro 5 ((acc ++ [w]).map Wd.av)]]):=by
 unfold Wd.av
 apply c45
 have hb:big=70368744177664:=rfl
 have ha:app 64 5 (acc.map Wd.av) (.ro 5 [.ag [.u8 w.kind,.int (w.at':aB),.s w.text,.b w.root,w.names]])=aa ((acc ++ [w]).map Wd.av):=by
  show ((if 5=5 then aa [AV.ag [.u8 w.kind,.int (w.at':aB),.s w.text,.b w.root,w.names]] else ah).bind fun q=>if ((acc.map Wd.av).length+q.length) * 64≤big then aa (acc.map Wd.av ++ q) else ah)=_
  rw [aJ rfl]
  simp only [Option.bind_some,aP,aA,List.length_nil,hb]
  rw [aJ (by omega),dM];rfl
 have ha':app 64 5 (acc.map Wd.av) (.ro 5 ([.ag [.u8 w.kind,.int (w.at':aB),.s w.text,.b w.root,w.names]]:ai AV))=aa ((acc ++ [w]).map Wd.av):=ha
 unfold Wd.av at ha'
 simp only [X45,ha',Option.bind_some]
theorem FI (p r:ai ae) (i:ax) (hi:i≤r.length):nM (.s (p ++ r)) (aa (.int (p.length:aB))) (aa (.int ((p.length+i:ax):aB)))=aa (.s (r.take i)):=by
 show ((mJ (p ++ r).length (aa (.int (p.length:aB))) (aa (.int ((p.length+i:ax):aB)))).bind fun q=>aa (AV.s (((p ++ r).take q.2).drop q.1)))=_
 have h1:CX (p ++ r).length (.int ((p.length+i:ax):aB))=aa (p.length+i):=by
  show (if 0≤((p.length+i:ax):aB)∧((p.length+i:ax):aB)≤((p ++ r).length:aB) then aa ((p.length+i:ax):aB).toNat else ah)=_
  rw [aJ ⟨by omega,by simp;omega⟩];congr 1
 have h2:CX (p.length+i) (.int (p.length:aB))=aa p.length:=by
  show (if 0≤(p.length:aB)∧(p.length:aB)≤((p.length+i:ax):aB) then aa (p.length:aB).toNat else ah)=_
  rw [aJ ⟨by omega,by omega⟩];simp
 simp only [mJ,h1,h2,Option.bind_some]
 simp [List.take_append]
theorem H4 (p r:ai ae):nM (.s (p ++ r)) (aa (.int (p.length:aB))) ah=aa (.s r):=by
 rw [sT (by simp)];simp
theorem Ry (a b c d e:AV):AV.cm 5 (.ag [a,b,c,d,e])=aa [a,b,c,d,e]:=rfl
theorem FJ (a:AV):AV.cm 1 (.ag [a])=aa [a]:=rfl
theorem l44:∀ (n:ax) (r p:ai ae) (acc:ai Wd),r.length≤n→(p ++ r).length≤1000000000→acc.length≤p.length →
  Ed (a7 (C mx) Tryz.prog 44 fI) (p ++ r) (.int (p.length:aB)) (acc.map Wd.av)=aa (.tu [.int (kq (n+1) r p.length acc).2,.ag [.ro 5 ((kq (n+1) r p.length acc).1.map Wd.av)]]):=by
 intro n
 induction n with
 | zero =>
  intro r p acc hr hp ha
  obtain rfl:=List.eq_nil_of_length_eq_zero (Nat.le_zero.1 hr)
  apply MH
  have:decide ((p.length:aB) < ((p ++ []).length:aB))=af:=by simp
  simp only [HZ,cR,this,Option.bind_some,ba,Bool.false_eq_true,aH]
  rfl
 | succ n ih =>
  intro r p acc hr hp ha
  cases r with
  | nil =>
   apply MH
   have:decide ((p.length:aB) < ((p ++ []).length:aB))=af:=by simp
   simp only [HZ,cR,this,Option.bind_some,ba,Bool.false_eq_true,aH]
   rfl
  | cons x r' =>
   obtain ⟨r,FK⟩:∃ r,r=x :: r':=⟨_,rfl⟩
   rw [← FK] at hr hp ⊢
   have hne:r.isEmpty=af:=by rw [FK];rfl
   have I1:0 < r.length:=by rw [FK];simp
   have Vq:r.length≤1000000000:=by simp at hp;omega
   have hpl:p.length+r.length≤1000000000:=by simpa using hp
   have hio:=rA r
   have key:HY (a7 (C mx) Tryz.prog 44 fI) (p ++ r) (.int (p.length:aB)) (.int (fR r:aB)) (acc.map Wd.av)=aa (.tu [.int (kq (n+1+1) r p.length acc).2,.ag [.ro 5 ((kq (n+1+1) r p.length acc).1.map Wd.av)]]):=by
    apply XW
    rw [kq,aI (by rw [hne];decide)]
    by_cases hi:0 < fR r
    ·have zX:decide ((0:aB) < (fR r:aB))=aj:=by rw [aG];omega
     have lB:cf .add (.int (p.length:aB)) (.int (fR r:aB))=aa (.int ((p.length+fR r:ax):aB)):=by rw [lj (by omega) (by omega)];congr 2
     have hc:=s45 (mx:=mx) (Ee p.length (r.take (fR r))) acc (by omega)
     have hw:(Ee p.length (r.take (fR r))).av=.ag [.u8 0,.int (p.length:aB),.s (r.take (fR r)),.b af,.cd]:=rfl
     rw [hw] at hc
     have:=ih (r.drop (fR r)) (p ++ r.take (fR r)) (acc ++ [Ee p.length (r.take (fR r))]) (by rw [bQ];omega) (by rw [List.append_assoc,bM];exact hp) (by simp;omega)
     have hlen:(p ++ r.take (fR r)).length=p.length+fR r:=by simp;omega
     rw [List.append_assoc,bM,hlen] at this
     simp only [MG,Bv,zX,lB,FI p r _ hio,kK,mI,hc,qC,qD,FJ,et,df,Option.bind_some,ba,Bool.false_eq_true,aH,aO,bf,AV.elems]
     rw [aJ hi]
     exact this
    ·have zX:decide ((0:aB) < (fR r:aB))=af:=by rw [aQ];omega
     rw [aI hi]
     have Sz:=s58 (mx:=mx) r [125,125] Vq
     simp only [MG,Bv,zX,H4,Sz,cR,Option.bind_some,ba,Bool.false_eq_true,aH]
     rw [show ([125,125]:ai ae)=ur from rfl]
     by_cases hj:Lib.index r ur < 0
     ·rw [aJ hj,aJ (by rw [aG];exact hj)]
     ·rw [aI hj,aI (by rw [aG];exact hj)]
      obtain ⟨j,hj'⟩:=Int.eq_ofNat_of_zero_le (show 0≤Lib.index r ur by omega)
      have hroom:=gK r ur (by omega)
      have e2:(ur.length:aB)=2:=rfl
      have NX:j+2≤r.length:=by omega
      have h2j:=H0 r (by omega) I1 j hj'
      rw [hj']
      rw [show ((j:ax):aB).toNat=j from rfl]
      have a1:cf .add (.int (p.length:aB)) (.int 2)=aa (.int ((p.length+2:ax):aB)):=by rw [lj (by omega) (by omega)];congr 2
      have a2:cf .add (.int (p.length:aB)) (.int ((j:ax):aB))=aa (.int ((p.length+j:ax):aB)):=by rw [lj (by omega) (by omega)];congr 2
      have a3:cf .add (.int ((j:ax):aB)) (.int 2)=aa (.int ((j+2:ax):aB)):=by rw [lj (by omega) (by omega)];congr 2
      have a4:cf .add (.int (p.length:aB)) (.int ((j+2:ax):aB))=aa (.int ((p.length+(j+2):ax):aB)):=by rw [lj (by omega) (by omega)];congr 2
      have MJ:=s59 (mx:=mx) ((r.take j).drop 2) (by simp;omega)
      have Jw:=MI p r j h2j (by omega)
      have hw:(kF ((r.take j).drop 2)).av=.tu [.ag [.u8 (kF ((r.take j).drop 2)).kind,.int 0,.s [],.b (kF ((r.take j).drop 2)).root,(kF ((r.take j).drop 2)).names],.b (kF ((r.take j).drop 2)).ok]:=rfl
      rw [hw] at MJ
      have hc:=s45 (mx:=mx) (wA p.length (kF ((r.take j).drop 2))) acc (by omega)
      have hw2:(wA p.length (kF ((r.take j).drop 2))).av=.ag [.u8 (kF ((r.take j).drop 2)).kind,.int (p.length:aB),.s [],.b (kF ((r.take j).drop 2)).root,(kF ((r.take j).drop 2)).names]:=rfl
      rw [hw2] at hc
      have XX:=ih (r.drop (j+2)) (p ++ r.take (j+2)) (acc ++ [wA p.length (kF ((r.take j).drop 2))]) (by rw [bQ];omega) (by rw [List.append_assoc,bM];exact hp) (by simp;omega)
      have hlen:(p ++ r.take (j+2)).length=p.length+(j+2):=by simp;omega
      rw [List.append_assoc,bM,hlen] at XX
      generalize kF ((r.take j).drop 2)=A at *
      simp only [a1,a2,a3,a4,Jw,MJ,qC,qD,Ry,et,Option.bind_some,ba,kK,bf,bz,hc,FJ,AV.elems]
      cases hA:A.ok with
      | false=>rfl
      | true =>
       simp only [df,Bool.false_eq_true,aH,aO]
       exact XX
   apply MH
   have hlt:decide ((p.length:aB) < ((p ++ r).length:aB))=aj:=by rw [aG];simp;omega
   have Sz:=s58 (mx:=mx) r [123,123] Vq
   have qa:cf .sub (.int ((p ++ r).length:aB)) (.int (p.length:aB))=aa (.int (r.length:aB)):=by rw [O3 (by simp;omega) (by simp;omega)];congr 2;simp;omega
   simp only [HZ,cR,hlt,H4,Sz,qa,Option.bind_some,ba,aO]
   rw [show ([123,123]:ai ae)=xy from rfl]
   unfold fR at key
   by_cases hi:Lib.index r xy < 0
   ·rw [aJ hi] at key
    rw [aJ (by rw [aG];exact hi)]
    exact key
   ·rw [aI hi] at key
    rw [aI (by rw [aG];exact hi)]
    rw [Int.toNat_of_nonneg (by omega)] at key
    exact key
def eh (l:ai ae):ai Wd×aB:=kq (l.length+1) l 0 []
theorem s44 (l:ai ae) (h:l.length≤1000000000):aq (C mx) Tryz.prog 44 [.s l,.un,.ag [.ro 5 []]]=aa (.tu [.int (eh l).2,.ag [.ro 5 ((eh l).1.map Wd.av)]]):=by
 apply c44
 have:=l44 (mx:=mx) l.length l [] [] (Nat.le_refl _) (by simpa using h) (by simp)
 exact this
def wC (l:ai ae):AV:=if l.length > 65536 then .tu [.cd,.int 0,.int 2] else if 0≤(eh l).2 then .tu [.cd,.int (eh l).2,.int 4] else .tu [.ro 5 ((eh l).1.map Wd.av),.int 0,.int 0]
theorem s31 (l:ai ae):aq (C mx) Tryz.prog 31 [.s l]=aa (wC l):=by
 apply c31
 unfold wC
 by_cases h1:l.length > 65536
 ·rw [aJ h1]
  have:decide ((l.length:aB) > 65536)=aj:=by rw [aG];omega
  simp only [X31,this,ba,aO]
 ·rw [aI h1]
  have hw:=s44 (mx:=mx) l (by omega)
  have:decide ((l.length:aB) > 65536)=af:=by rw [aQ];omega
  simp only [X31,this,hw,Option.bind_some,ba,qC,qD,FJ,mN,bf,AV.elems,aG,Bool.false_eq_true,aH]
  split <;> rfl
noncomputable def H5 (run:RunT) (a:aB) (b:ai AV) (d e:AV) (f:ai AV) (g:AV):ak AV :=
 run ((eV 2 ((Tryz.f46.body).getD .skip) []).getD []) (St.fj [(0,.cell (.ptr 61 0)),(1,.cell (.val (.int a))),(6,.cell (.own 300006 3 1 b))] [(61,aa [.val d,.val e,.own 661002 58 9 f,.val (g)])])
noncomputable def X46 (a:aB) (b:AV) (d:aB) (e:ai AV) (f:AV) (c:bj) (r:RunT):ak AV :=
 H5 r a [] b (.int d) e f
theorem c46 (a b d e f) {r:AV} (h:X46 a b d e f (aq (C mx) Tryz.prog) (a7 (C mx) Tryz.prog 46 Tryz.f46)=aa r):aq (C mx) Tryz.prog 46 [.un,.int a,.ag [b,.int d,.ro 9 e,f]]=aa r :=
 bc (fun _ _=>by kernel_rfl) h
noncomputable def H6 (a:aB) (b:ai AV) (d e:AV) (f:ai AV) (g:AV) (c:bj) (r:RunT):ak AV :=
 (kH d).bind fun i=>(cf .lss e i).bind fun j=>a8 j
 ((idx 5 d e).bind fun k=>(cf .eql (AV.cell k 0) (.u8 3)).bind fun l=>(bt l af ((cf .eql (AV.cell k 0) (.u8 5)).bind fun m=>aa m) (.b aj)).bind fun n=>a8 n
 (aa (.tu [.tu [.ro 1 b,.kY],.ag [d,e,.ro 9 f,g]]))
 ((cf .add e (.int 1)).bind fun o=>(AV.one o).bind fun p=>(c 60 [.un,.ag [AV.cell k 0,AV.cell k 1,AV.cell k 2,AV.cell k 3,AV.cell k 4],.int a,.ag [d,p,.ro 9 f,g]]).bind fun q=>(cA q 0).bind fun s=>(cA q 1).bind fun t=>(AV.cm 4 t).bind fun u=>(cA s 0).bind fun w=>(cA s 1).bind fun x=>(wP .neq x (.kY)).bind fun y=>a8 y
 (aa (.tu [.tu [.cd,x],.ag [gt u 0,gt u 1,.ro 9 (AV.elems (gt u 2)),gt u 3]]))
 ((AV.one w).bind fun z=>(app 8 1 b (.ro 1 (([z]:ai AV)))).bind fun A=>H5 r a A (gt u 0) (gt u 1) (AV.elems (gt u 2)) (gt u 3))))
 (aa (.tu [.tu [.ro 1 b,.kY],.ag [d,e,.ro 9 f,g]]))
theorem Rz (a b d e f g) {r:AV} (h:H6 a b d e f g (aq (C mx) Tryz.prog) (a7 (C mx) Tryz.prog 46 Tryz.f46)=aa r):H5 (a7 (C mx) Tryz.prog 46 Tryz.f46) a b d e f g=aa r :=
 bh (fun _ _=>by kernel_rfl) h
noncomputable def FL:Code:=(dR.body).getD .skip
noncomputable def s8 (run:RunT) (a:aB) (b:ae) (d e:AV) (f:ai AV) (g:AV):ak AV :=
 run ((eV 19 FL []).getD []) (St.fj [(0,.cell (.ptr 71 0)),(8,.cell (.val (.int a))),(9,.cell (.val (.u8 b)))] [(71,aa [.val d,.val e,.own 671002 58 9 f,.val (g)])])
noncomputable def FN (run:RunT) (a b:aB) (d:ae) (e:aB) (f:ai ae) (g:ay) (i j:AV) (k:aB) (l:ai AV) (m:AV):ak AV :=
 run ((eV 11 FL []).getD []) (St.fj [(0,.cell (.ptr 71 0)),(2,.cell (.val (.int a))),(4,.cell (.ptr 4 0)),(8,.cell (.val (.int b)))] [(4,aa [.val (.u8 d),.val (.int e),.val (.s f),.val (.b g),.val (i)]),(71,aa [.val j,.val (.int k),.own 671002 58 9 l,.val (m)])])
noncomputable def Cq (run:RunT) (a b:aB) (d e:ae) (f:aB) (g:ai ae) (i:ay) (j k:AV) (l:aB) (m:ai AV) (n:AV):ak AV :=
 run ((eV 14 FL []).getD []) (St.fj [(0,.cell (.ptr 71 0)),(2,.cell (.val (.int a))),(4,.cell (.ptr 4 0)),(8,.cell (.val (.int b))),(9,.cell (.val (.u8 d)))] [(4,aa [.val (.u8 e),.val (.int f),.val (.s g),.val (.b i),.val (j)]),(71,aa [.val k,.val (.int l),.own 671002 58 9 m,.val (n)])])
noncomputable def X60 (a:ae) (b:aB) (d:ai ae) (e:ay) (f:AV) (g:aB) (i:AV) (j:aB) (k:ai AV) (l:AV) (c:bj) (r:RunT):ak AV :=
 (app 120 9 k (.ro 9 (([.ag [.u8 0,.int b,.s d,.b e,f,.cd,.cd,.b af,.u8 0]]:ai AV)))).bind fun m=>a8 (.b (cD a 1))
 (s8 r ((k.length:aB)) 1 i (.int j) m l)
 (a8 (.b (cD a 6))
 (s8 r ((k.length:aB)) 4 i (.int j) m l)
 (a8 (.b (cD a 2))
 (FN r g ((k.length:aB)) a b d e f i j m l)
 (a8 (.b (cD a 4))
 (FN r g ((k.length:aB)) a b d e f i j m l)
 (s8 r ((k.length:aB)) 0 i (.int j) m l))))
theorem c60 (a b d e f g i j k l) {r:AV} (h:X60 a b d e f g i j k l (aq (C mx) Tryz.prog) (a7 (C mx) Tryz.prog 60 dR)=aa r):aq (C mx) Tryz.prog 60 [.un,.ag [.u8 a,.int b,.s d,.b e,f],.int g,.ag [i,.int j,.ro 9 k,l]]=aa r :=
 bc (fun _ _=>by kernel_rfl) h
noncomputable def MK (a:aB) (b:ae) (d e:AV) (f:ai AV) (g:AV) (c:bj) (r:RunT):ak AV :=
 (pN f.length (.int a)).bind fun i=>aa (.tu [.tu [.int a,.kY],.ag [d,e,.ro 9 (f.set i (.ag [.u8 b,AV.cell (f.getD i .un) 1,AV.cell (f.getD i .un) 2,AV.cell (f.getD i .un) 3,AV.cell (f.getD i .un) 4,AV.cell (f.getD i .un) 5,AV.cell (f.getD i .un) 6,AV.cell (f.getD i .un) 7,AV.cell (f.getD i .un) 8])),g]])
noncomputable def FO (a b:aB) (d:ae) (e:aB) (f:ai ae) (g:ay) (i j:AV) (k:aB) (l:ai AV) (m:AV) (c:bj) (r:RunT):ak AV :=
 a8 (.b (cD d 4))
 (Cq r a b 3 d e f g i j k l m)
 (Cq r a b 2 d e f g i j k l m)
noncomputable def Cr (a b:aB) (d e:ae) (f:aB) (g:ai ae) (i:ay) (j k:AV) (l:aB) (m:ai AV) (n:AV) (c:bj) (r:RunT):ak AV :=
 a8 (.b (decide (a ≥ 16)))
 (aa (.tu [.tu [.int 0,.pt [.int f,.int 3]],.ag [k,.int l,.ro 9 m,n]]))
 ((c 74 [.un,.int b,.ag [.u8 e,.int f,.s g,.b i,j],.int a,.ag [k,.int l,.ro 9 m,n]]).bind fun o=>(cA o 0).bind fun p=>(cA o 1).bind fun q=>(AV.cm 4 q).bind fun s=>(wP .neq p (.kY)).bind fun t=>a8 t
 (aa (.tu [.tu [.int 0,p],.ag [gt s 0,gt s 1,.ro 9 (AV.elems (gt s 2)),gt s 3]]))
 (s8 r b d (gt s 0) (gt s 1) (AV.elems (gt s 2)) (gt s 3)))
theorem Uw (a b d e f g) {r:AV} (h:MK a b d e f g (aq (C mx) Tryz.prog) (a7 (C mx) Tryz.prog 60 dR)=aa r):s8 (a7 (C mx) Tryz.prog 60 dR) a b d e f g=aa r :=
 bh (fun _ _=>by kernel_rfl) h
theorem ML (a b d e f g i j k l m) {r:AV} (h:FO a b d e f g i j k l m (aq (C mx) Tryz.prog) (a7 (C mx) Tryz.prog 60 dR)=aa r):FN (a7 (C mx) Tryz.prog 60 dR) a b d e f g i j k l m=aa r :=
 bh (fun _ _=>by kernel_rfl) h
theorem FP (a b d e f g i j k l m n) {r:AV} (h:Cr a b d e f g i j k l m n (aq (C mx) Tryz.prog) (a7 (C mx) Tryz.prog 60 dR)=aa r):Cq (a7 (C mx) Tryz.prog 60 dR) a b d e f g i j k l m n=aa r :=
 bh (fun _ _=>by kernel_rfl) h
noncomputable def Cs (run:RunT) (a:ae) (b:aB) (d:ai ae) (e:ay) (f g i:AV) (j:ai AV) (k:AV):ak AV :=
 run ((eV 13 ((gM.body).getD .skip) []).getD []) (St.fj [(0,.cell (.ptr 152 0)),(6,.cell (.ptr 6 0))] [(6,aa [.val (.u8 a),.val (.int b),.val (.s d),.val (.b e),.val (f)]),(152,aa [.val g,.val i,.own 752002 58 9 j,.val (k)])])
noncomputable def X74 (a:aB) (b:ae) (d:aB) (e:ai ae) (f:ay) (g:AV) (i:aB) (j:AV) (k:aB) (l:ai AV) (m:AV) (c:bj) (r:RunT):ak AV :=
 (c 46 [.un,.int (eE (i+1)),.ag [j,.int k,.ro 9 l,m]]).bind fun n=>(cA n 0).bind fun o=>(cA n 1).bind fun p=>(AV.cm 4 p).bind fun q=>(cA o 0).bind fun s=>(cA o 1).bind fun t=>(wP .neq t (.kY)).bind fun u=>a8 u
 (aa (.tu [t,.ag [gt q 0,gt q 1,.ro 9 (AV.elems (gt q 2)),gt q 3]]))
 ((pN (AV.elems (gt q 2)).length (.int a)).bind fun w=>(AV.one s).bind fun x=>(kH (gt q 0)).bind fun y=>(cf .lss (gt q 1) y).bind fun z=>(bt z aj ((idx 5 (gt q 0) (gt q 1)).bind fun A=>(cf .eql (AV.cell A 0) (.u8 3)).bind fun B=>aa B) (.b af)).bind fun D=>a8 D
 (a8 (.b (cD b 4))
 ((idx 5 (gt q 0) (gt q 1)).bind fun E=>(AV.one (AV.cell E 1)).bind fun G=>aa (.tu [.pt [G,.int 4],.ag [gt q 0,gt q 1,.ro 9 ((AV.elems (gt q 2)).set w (.ag [AV.cell ((AV.elems (gt q 2)).getD w .un) 0,AV.cell ((AV.elems (gt q 2)).getD w .un) 1,AV.cell ((AV.elems (gt q 2)).getD w .un) 2,AV.cell ((AV.elems (gt q 2)).getD w .un) 3,AV.cell ((AV.elems (gt q 2)).getD w .un) 4,x,AV.cell ((AV.elems (gt q 2)).getD w .un) 6,AV.cell ((AV.elems (gt q 2)).getD w .un) 7,AV.cell ((AV.elems (gt q 2)).getD w .un) 8])),gt q 3]]))
 ((cf .add (gt q 1) (.int 1)).bind fun H=>(AV.one H).bind fun I=>(c 46 [.un,.int (eE (i+1)),.ag [gt q 0,I,.ro 9 ((AV.elems (gt q 2)).set w (.ag [AV.cell ((AV.elems (gt q 2)).getD w .un) 0,AV.cell ((AV.elems (gt q 2)).getD w .un) 1,AV.cell ((AV.elems (gt q 2)).getD w .un) 2,AV.cell ((AV.elems (gt q 2)).getD w .un) 3,AV.cell ((AV.elems (gt q 2)).getD w .un) 4,x,AV.cell ((AV.elems (gt q 2)).getD w .un) 6,AV.cell ((AV.elems (gt q 2)).getD w .un) 7,AV.cell ((AV.elems (gt q 2)).getD w .un) 8])),gt q 3]]).bind fun J=>(cA J 0).bind fun L=>(cA J 1).bind fun M=>(AV.cm 4 M).bind fun N=>(cA L 0).bind fun O=>(cA L 1).bind fun P=>(wP .neq P (.kY)).bind fun Q=>a8 Q
 (aa (.tu [P,.ag [gt N 0,gt N 1,.ro 9 (AV.elems (gt N 2)),gt N 3]]))
 ((pN (AV.elems (gt N 2)).length (.int a)).bind fun R=>(AV.one O).bind fun T=>(pN ((AV.elems (gt N 2)).set R (.ag [AV.cell ((AV.elems (gt N 2)).getD R .un) 0,AV.cell ((AV.elems (gt N 2)).getD R .un) 1,AV.cell ((AV.elems (gt N 2)).getD R .un) 2,AV.cell ((AV.elems (gt N 2)).getD R .un) 3,AV.cell ((AV.elems (gt N 2)).getD R .un) 4,AV.cell ((AV.elems (gt N 2)).getD R .un) 5,T,AV.cell ((AV.elems (gt N 2)).getD R .un) 7,AV.cell ((AV.elems (gt N 2)).getD R .un) 8])).length (.int a)).bind fun U=>Cs r b d e f g (gt N 0) (gt N 1) (((AV.elems (gt N 2)).set R (.ag [AV.cell ((AV.elems (gt N 2)).getD R .un) 0,AV.cell ((AV.elems (gt N 2)).getD R .un) 1,AV.cell ((AV.elems (gt N 2)).getD R .un) 2,AV.cell ((AV.elems (gt N 2)).getD R .un) 3,AV.cell ((AV.elems (gt N 2)).getD R .un) 4,AV.cell ((AV.elems (gt N 2)).getD R .un) 5,T,AV.cell ((AV.elems (gt N 2)).getD R .un) 7,AV.cell ((AV.elems (gt N 2)).getD R .un) 8])).set U (.ag [AV.cell (((AV.elems (gt N 2)).set R (.ag [AV.cell ((AV.elems (gt N 2)).getD R .un) 0,AV.cell ((AV.elems (gt N 2)).getD R .un) 1,AV.cell ((AV.elems (gt N 2)).getD R .un) 2,AV.cell ((AV.elems (gt N 2)).getD R .un) 3,AV.cell ((AV.elems (gt N 2)).getD R .un) 4,AV.cell ((AV.elems (gt N 2)).getD R .un) 5,T,AV.cell ((AV.elems (gt N 2)).getD R .un) 7,AV.cell ((AV.elems (gt N 2)).getD R .un) 8])).getD U .un) 0,AV.cell (((AV.elems (gt N 2)).set R (.ag [AV.cell ((AV.elems (gt N 2)).getD R .un) 0,AV.cell ((AV.elems (gt N 2)).getD R .un) 1,AV.cell ((AV.elems (gt N 2)).getD R .un) 2,AV.cell ((AV.elems (gt N 2)).getD R .un) 3,AV.cell ((AV.elems (gt N 2)).getD R .un) 4,AV.cell ((AV.elems (gt N 2)).getD R .un) 5,T,AV.cell ((AV.elems (gt N 2)).getD R .un) 7,AV.cell ((AV.elems (gt N 2)).getD R .un) 8])).getD U .un) 1,AV.cell (((AV.elems (gt N 2)).set R (.ag [AV.cell ((AV.elems (gt N 2)).getD R .un) 0,AV.cell ((AV.elems (gt N 2)).getD R .un) 1,AV.cell ((AV.elems (gt N 2)).getD R .un) 2,AV.cell ((AV.elems (gt N 2)).getD R .un) 3,AV.cell ((AV.elems (gt N 2)).getD R .un) 4,AV.cell ((AV.elems (gt N 2)).getD R .un) 5,T,AV.cell ((AV.elems (gt N 2)).getD R .un) 7,AV.cell ((AV.elems (gt N 2)).getD R .un) 8])).getD U .un) 2,AV.cell (((AV.elems (gt N 2)).set R (.ag [AV.cell ((AV.elems (gt N 2)).getD R .un) 0,AV.cell ((AV.elems (gt N 2)).getD R .un) 1,AV.cell ((AV.elems (gt N 2)).getD R .un) 2,AV.cell ((AV.elems (gt N 2)).getD R .un) 3,AV.cell ((AV.elems (gt N 2)).getD R .un) 4,AV.cell ((AV.elems (gt N 2)).getD R .un) 5,T,AV.cell ((AV.elems (gt N 2)).getD R .un) 7,AV.cell ((AV.elems (gt N 2)).getD R .un) 8])).getD U .un) 3,AV.cell (((AV.elems (gt N 2)).set R (.ag [AV.cell ((AV.elems (gt N 2)).getD R .un) 0,AV.cell ((AV.elems (gt N 2)).getD R .un) 1,AV.cell ((AV.elems (gt N 2)).getD R .un) 2,AV.cell ((AV.elems (gt N 2)).getD R .un) 3,AV.cell ((AV.elems (gt N 2)).getD R .un) 4,AV.cell ((AV.elems (gt N 2)).getD R .un) 5,T,AV.cell ((AV.elems (gt N 2)).getD R .un) 7,AV.cell ((AV.elems (gt N 2)).getD R .un) 8])).getD U .un) 4,AV.cell (((AV.elems (gt N 2)).set R (.ag [AV.cell ((AV.elems (gt N 2)).getD R .un) 0,AV.cell ((AV.elems (gt N 2)).getD R .un) 1,AV.cell ((AV.elems (gt N 2)).getD R .un) 2,AV.cell ((AV.elems (gt N 2)).getD R .un) 3,AV.cell ((AV.elems (gt N 2)).getD R .un) 4,AV.cell ((AV.elems (gt N 2)).getD R .un) 5,T,AV.cell ((AV.elems (gt N 2)).getD R .un) 7,AV.cell ((AV.elems (gt N 2)).getD R .un) 8])).getD U .un) 5,AV.cell (((AV.elems (gt N 2)).set R (.ag [AV.cell ((AV.elems (gt N 2)).getD R .un) 0,AV.cell ((AV.elems (gt N 2)).getD R .un) 1,AV.cell ((AV.elems (gt N 2)).getD R .un) 2,AV.cell ((AV.elems (gt N 2)).getD R .un) 3,AV.cell ((AV.elems (gt N 2)).getD R .un) 4,AV.cell ((AV.elems (gt N 2)).getD R .un) 5,T,AV.cell ((AV.elems (gt N 2)).getD R .un) 7,AV.cell ((AV.elems (gt N 2)).getD R .un) 8])).getD U .un) 6,.b aj,AV.cell (((AV.elems (gt N 2)).set R (.ag [AV.cell ((AV.elems (gt N 2)).getD R .un) 0,AV.cell ((AV.elems (gt N 2)).getD R .un) 1,AV.cell ((AV.elems (gt N 2)).getD R .un) 2,AV.cell ((AV.elems (gt N 2)).getD R .un) 3,AV.cell ((AV.elems (gt N 2)).getD R .un) 4,AV.cell ((AV.elems (gt N 2)).getD R .un) 5,T,AV.cell ((AV.elems (gt N 2)).getD R .un) 7,AV.cell ((AV.elems (gt N 2)).getD R .un) 8])).getD U .un) 8])) (gt N 3))))
 (Cs r b d e f g (gt q 0) (gt q 1) ((AV.elems (gt q 2)).set w (.ag [AV.cell ((AV.elems (gt q 2)).getD w .un) 0,AV.cell ((AV.elems (gt q 2)).getD w .un) 1,AV.cell ((AV.elems (gt q 2)).getD w .un) 2,AV.cell ((AV.elems (gt q 2)).getD w .un) 3,AV.cell ((AV.elems (gt q 2)).getD w .un) 4,x,AV.cell ((AV.elems (gt q 2)).getD w .un) 6,AV.cell ((AV.elems (gt q 2)).getD w .un) 7,AV.cell ((AV.elems (gt q 2)).getD w .un) 8])) (gt q 3)))
theorem c74 (a b d e f g i j k l m) {r:AV} (h:X74 a b d e f g i j k l m (aq (C mx) Tryz.prog) (a7 (C mx) Tryz.prog 74 gM)=aa r):aq (C mx) Tryz.prog 74 [.un,.int a,.ag [.u8 b,.int d,.s e,.b f,g],.int i,.ag [j,.int k,.ro 9 l,m]]=aa r :=
 bc (fun _ _=>by kernel_rfl) h
noncomputable def Ct (a:ae) (b:aB) (d:ai ae) (e:ay) (f g i:AV) (j:ai AV) (k:AV) (c:bj) (r:RunT):ak AV :=
 (kH g).bind fun l=>(cf .geq i l).bind fun m=>a8 m
 (aa (.tu [.pt [.int b,.int 4],.ag [g,i,.ro 9 j,k]]))
 ((idx 5 g i).bind fun n=>(cf .eql (AV.cell n 0) (.u8 3)).bind fun o=>a8 o
 ((idx 5 g i).bind fun p=>(AV.one (AV.cell p 1)).bind fun q=>aa (.tu [.pt [q,.int 4],.ag [g,i,.ro 9 j,k]]))
 ((cf .add i (.int 1)).bind fun s=>(AV.one s).bind fun t=>aa (.tu [.kY,.ag [g,t,.ro 9 j,k]])))
theorem FQ (a b d e f g i j k) {r:AV} (h:Ct a b d e f g i j k (aq (C mx) Tryz.prog) (a7 (C mx) Tryz.prog 74 gM)=aa r):Cs (a7 (C mx) Tryz.prog 74 gM) a b d e f g i j k=aa r :=
 bh (fun _ _=>by kernel_rfl) h
structure Nd where
 kind:ae
 at':ax
 text:ai ae
 root:ay
 names:AV
 body:ak (ai ax)
 els:ak (ai ax)
 has:ay
 hole:ae
def cj (l:ai ax):ai AV:=l.map fun (n:ax)=>AV.int (n:aB)
def ki:ak (ai ax)→AV
 | none=>.cd
 | some l=>.ro 1 (cj l)
def Nd.av (n:Nd):AV:=.ag [.u8 n.kind,.int (n.at':aB),.s n.text,.b n.root,n.names,ki n.body,ki n.els,.b n.has,.u8 n.hole]
inductive Pr (α:Type) where
 | ok (x:α)
 | bad (at':ax) (e:ax)
def Pr.ptr {α:Type}:Pr α→AV
 | .ok _=>.kY
 | .bad a e=>.pt [.int (a:aB),.int (e:aB)]
structure Ps where
 at':ax
 nodes:ai Nd
def oL (w:Wd):Nd:=⟨0,w.at',w.text,w.root,w.names,ah,ah,af,0⟩
def cI (k:ae):ae:=if k == 1 then 1 else if k == 6 then 4 else if k == 2 then 2 else if k == 4 then 3 else 0
def dt (l:ai Nd) (i:ax) (f:Nd→Nd):ai Nd:=l.modify i f
mutual
def jK (ws:ai Wd):ax→ax→Ps→ai ax→ak (Pr (ai ax)×Ps)
 | 0,_,_,_=>ah
 | n+1,d,p,out =>
  match ws[p.at']? with
  | none=>aa (.ok out,p)
  | some w =>
   if w.kind == 3 || w.kind == 5 then aa (.ok out,p)
   else match lQ ws n d w { p with at':=p.at'+1 } with
    | none=>ah
    | some (.bad a e,q)=>aa (.bad a e,q)
    | some (.ok i,q)=>jK ws n d q (out ++ [i])
def lQ (ws:ai Wd):ax→ax→Wd→Ps→ak (Pr ax×Ps)
 | 0,_,_,_=>ah
 | n+1,d,w,p =>
  let i:=p.nodes.length
  let q:Ps:={ p with nodes:=p.nodes ++ [oL w] }
  if w.kind == 2 || w.kind == 4 then
   if 16≤d then aa (.bad w.at' 3,q)
   else match lR ws n d i w q with
    | none=>ah
    | some (.bad a e,r)=>aa (.bad a e,r)
    | some (.ok _,r)=>aa (.ok i,{ r with nodes:=dt r.nodes i fun x=>{ x with kind:=cI w.kind } })
  else aa (.ok i,{ q with nodes:=dt q.nodes i fun x=>{ x with kind:=cI w.kind } })
def lR (ws:ai Wd):ax→ax→ax→Wd→Ps→ak (Pr Unit×Ps)
 | 0,_,_,_,_=>ah
 | n+1,d,i,w,p =>
  match jK ws n (d+1) p [] with
  | none=>ah
  | some (.bad a e,q)=>aa (.bad a e,q)
  | some (.ok body,q) =>
   let q1:Ps:={ q with nodes:=dt q.nodes i fun x=>{ x with body:=aa body } }
   match ws[q1.at']? with
   | none=>aa (.bad w.at' 4,q1)
   | some v =>
    if v.kind == 3 then
     if w.kind == 4 then aa (.bad v.at' 4,q1)
     else match jK ws n (d+1) { q1 with at':=q1.at'+1 } [] with
      | none=>ah
      | some (.bad a e,r)=>aa (.bad a e,r)
      | some (.ok els,r) =>
       let r1:Ps:={ r with nodes:=dt r.nodes i fun x=>{ x with els:=aa els,has:=aj } }
       match ws[r1.at']? with
       | none=>aa (.bad w.at' 4,r1)
       | some u=>if u.kind == 3 then aa (.bad u.at' 4,r1) else aa (.ok (),{ r1 with at':=r1.at'+1 })
    else aa (.ok (),{ q1 with at':=q1.at'+1 })
end
def Ps.av (ws:ai Wd) (p:Ps):AV:=.ag [.ro 5 (ws.map Wd.av),.int (p.at':aB),.ro 9 (p.nodes.map Nd.av),.cd]
def oz:Pr (ai ax)→AV
 | .ok l=>.tu [.ro 1 (cj l),.kY]
 | .bad a e=>.tu [.cd,.pt [.int (a:aB),.int (e:aB)]]
def pj:Pr ax→AV
 | .ok i=>.tu [.int (i:aB),.kY]
 | .bad a e=>.tu [.int 0,.pt [.int (a:aB),.int (e:aB)]]
theorem oc (k:ax) {l:ai AV} {i:ax} (h:i < l.length):idx k (.ro k l) (.int (i:aB))=aa l[i]:=by
 have h1:pN l.length (.int (i:aB))=aa i:=ln h
 unfold idx
 simp [h1,h]
theorem FR {ws:ai Wd} {i:ax} {w:Wd} (h:ws[i]?=aa w):idx 5 (.ro 5 (ws.map Wd.av)) (.int (i:aB))=aa w.av:=by
 have hi:i < ws.length:=(List.getElem?_eq_some_iff.1 h).1
 rw [oc 5 (by rw [aP];exact hi)]
 rw [gQ,(List.getElem?_eq_some_iff.1 h).2]
theorem s9 {ns:ai Nd} {i:ax} (h:i < ns.length):(ns.map Nd.av).getD i .un=(ns[i]).av:=by
 rw [List.getD_eq_getElem?_getD,List.getElem?_map,List.getElem?_eq_getElem h];rfl
theorem yH {ns:ai Nd} {i:ax} (h:i < ns.length) (f:Nd→Nd):(ns.map Nd.av).set i (f ns[i]).av=(dt ns i f).map Nd.av:=by
 unfold dt
 apply List.ext_getElem
 ·simp
 ·intro j h1 h2
  rw [List.getElem_set,gQ,gQ,gJ]
  split
  ·rename_i e;subst e;rfl
  ·rfl
theorem Jy (w:Wd):AV.ag [.u8 w.kind,AV.cell w.av 1,AV.cell w.av 2,AV.cell w.av 3,AV.cell w.av 4]=w.av:=rfl
theorem Za (w:Wd):AV.cell w.av 0=.u8 w.kind:=rfl
theorem wc1 (w:Wd):AV.cell w.av 1=.int (w.at':aB):=rfl
theorem Vw (w:Nd):AV.cell w.av 0=.u8 w.kind:=rfl
theorem Vx (w:Nd):AV.cell w.av 1=.int (w.at':aB):=rfl
theorem Vy (w:Nd):AV.cell w.av 2=.s w.text:=rfl
theorem XY (w:Nd):AV.cell w.av 3=.b w.root:=rfl
theorem Ux (w:Nd):AV.cell w.av 4=w.names:=rfl
theorem Vz (w:Nd):AV.cell w.av 5=ki w.body:=rfl
theorem VA (w:Nd):AV.cell w.av 6=ki w.els:=rfl
theorem XZ (w:Nd):AV.cell w.av 7=.b w.has:=rfl
theorem X0 (w:Nd):AV.cell w.av 8=.u8 w.hole:=rfl
theorem uu:wP .neq .kY .kY=aa (.b af):=rfl
theorem xz (l:ai AV):wP .neq (.pt l) .kY=aa (.b aj):=rfl
theorem rW (a b c d:AV):AV.cm 4 (.ag [a,b,c,d])=aa [a,b,c,d]:=rfl
theorem oA (a b:AV):cA (.tu [a,b]) 0=aa a:=rfl
theorem oB (a b:AV):cA (.tu [a,b]) 1=aa b:=rfl
theorem fg (k:ax) (l:ai AV):AV.elems (.ro k l)=l:=rfl
theorem H7 {bytes k:ax} {l:ai AV} {x:AV} (h:(l.length+1) * bytes≤big):app bytes k l (.ro k [x])=aa (l ++ [x]):=by
 unfold app AV.items
 simp only [aO,Option.bind_some,aA,List.length_nil,Nat.zero_add]
 rw [aJ h]
structure Jz (ws:ai Wd) (p q:Ps):Prop where
 rT:q.nodes.length≤q.at'
 J8:q.at'≤ws.length
 nodes:p.nodes.length≤q.nodes.length
def yI (mx:aB) (ws:ai Wd) (n:ax):Prop:=∀ d p out r q,jK ws n d p out=aa (r,q)→d≤17→p.nodes.length≤p.at'→p.at'≤ws.length→out.length≤p.nodes.length →
 H5 (a7 (C mx) Tryz.prog 46 Tryz.f46) (d:aB) (cj out) (.ro 5 (ws.map Wd.av)) (.int (p.at':aB)) (p.nodes.map Nd.av) .cd=aa (.tu [oz r,q.av ws])∧Jz ws p q∧∀ l,r=.ok l→l.length≤q.nodes.length
def FT (mx:aB) (ws:ai Wd) (n:ax):Prop:=∀ d w p r q,lQ ws n d w p=aa (r,q)→d≤17→p.nodes.length < p.at'→p.at'≤ws.length →
 aq (C mx) Tryz.prog 60 [.un,w.av,.int (d:aB),p.av ws]=aa (.tu [pj r,q.av ws])∧Jz ws p q∧p.nodes.length < q.nodes.length∧∀ i,r=.ok i→i=p.nodes.length
def FU (mx:aB) (ws:ai Wd) (n:ax):Prop:=∀ d i w p r q,lR ws n d i w p=aa (r,q)→d < 17→i < p.nodes.length→p.nodes.length≤p.at'→p.at'≤ws.length →
 aq (C mx) Tryz.prog 74 [.un,.int (i:aB),w.av,.int (d:aB),p.av ws]=aa (.tu [r.ptr,q.av ws])∧Jz ws p q
theorem FV {ws:ai Wd} {n d:ax} {p q:Ps} {r:Pr (ai ax)} (h:yI mx ws n) (hp:jK ws n d p []=aa (r,q)) (hd:d≤17) (h1:p.nodes.length≤p.at') (h2:p.at'≤ws.length) :
  aq (C mx) Tryz.prog 46 [.un,.int (d:aB),p.av ws]=aa (.tu [oz r,q.av ws])∧Jz ws p q∧∀ l,r=.ok l→l.length≤q.nodes.length:=by
 obtain ⟨h3,h4⟩:=h d p [] r q hp hd h1 h2 (Nat.zero_le _)
 exact ⟨c46 _ _ _ _ _ h3,h4⟩
theorem JA {ws:ai Wd} (pX:ws.length≤100000) {n:ax} (hL:yI mx ws n) (hN:FT mx ws n):yI mx ws (n+1):=by
 intro d p out r q h hd h1 h2 h3
 unfold jK at h
 have hlen:(ws.map Wd.av).length=ws.length:=aP ..
 cases hw:ws[p.at']? with
 | none =>
  rw [hw] at h
  cases h
  have jz:ws.length≤p.at':=bY.1 hw
  refine ⟨Rz _ _ _ _ _ _ ?_,⟨h1,h2,Nat.le_refl _⟩,fun l e=>by cases e;exact h3⟩
  have e:decide ((p.at':aB) < ((ws.map Wd.av).length:aB))=af:=by rw [hlen,aQ];omega
  simp only [H6,jN,cR,e,Option.bind_some,ba,Bool.false_eq_true,aH]
  rfl
 | some w =>
  rw [hw] at h
  simp only at h
  have hlt:p.at' < ws.length:=(List.getElem?_eq_some_iff.1 hw).1
  have e:decide ((p.at':aB) < ((ws.map Wd.av).length:aB))=aj:=by rw [hlen,aG];omega
  have lD:=FR hw
  have X:H6 (d:aB) (cj out) (.ro 5 (ws.map Wd.av)) (.int (p.at':aB)) (p.nodes.map Nd.av) .cd (aq (C mx) Tryz.prog) (a7 (C mx) Tryz.prog 46 Tryz.f46)=aa (.tu [oz r,q.av ws])∧Jz ws p q∧∀ l,r=.ok l→l.length≤q.nodes.length:=by
   simp only [H6,jN,cR,e,lD,Za,hZ,cy,Option.bind_some,ba,aO]
   cases hk:(w.kind == 3 || w.kind == 5) with
   | true =>
    rw [hk] at h
    rw [aJ rfl] at h ⊢
    cases h
    exact ⟨rfl,⟨h1,h2,Nat.le_refl _⟩,fun l e=>by cases e;exact h3⟩
   | false =>
    rw [hk] at h
    rw [aI (by decide)] at h ⊢
    rw [lj (by omega) (by omega)]
    simp only [Option.bind_some,kK,Jy]
    cases hn:lQ ws n d w { p with at':=p.at'+1 } with
    | none=>rw [hn] at h;cases h
    | some x =>
     obtain ⟨r1,q1⟩:=x
     rw [hn] at h
     obtain ⟨g1,g2,g3,g4⟩:=hN d w _ r1 q1 hn hd (show p.nodes.length < p.at'+1 by omega) (show p.at'+1≤ws.length by omega)
     have g1:aq (C mx) Tryz.prog 60 [.un,w.av,.int (d:aB),.ag [.ro 5 (ws.map Wd.av),.int ((p.at':aB)+1),.ro 9 (p.nodes.map Nd.av),.cd]]=aa (.tu [pj r1,q1.av ws]):=g1
     rw [g1]
     unfold Ps.av at *
     cases r1 with
     | bad a e =>
      cases h
      simp only [pj,Option.bind_some,oA,oB,rW,xz,ba,aO,bf,bz,fg]
      exact ⟨rfl,⟨g2.rT,g2.J8,Nat.le_trans (gN g3) (Nat.le_refl _)⟩,fun l e=>by cases e⟩
     | ok i =>
      simp only at h
      obtain rfl:i=p.nodes.length:=g4 i rfl
      have oX:(cj out).length=out.length:=aP ..
      have hap:app 8 1 (cj out) (.ro 1 [.int (p.nodes.length:aB)])=aa (cj (out ++ [p.nodes.length])):=by
       rw [H7 (by rw [oX];unfold big;omega)]
       simp [cj]
      simp only [pj,Option.bind_some,oA,oB,rW,uu,ba,Bool.false_eq_true,aH,kK,hap,bf,bz,fg]
      have g3':p.nodes.length < q1.nodes.length:=g3
      obtain ⟨k1,k2,k3⟩:=hL d q1 (out ++ [p.nodes.length]) r q h hd g2.rT g2.J8 (by rw [List.length_append,aA,List.length_nil];omega)
      exact ⟨k1,⟨k2.rT,k2.J8,Nat.le_trans (gN g3') k2.nodes⟩,k3⟩
  exact ⟨Rz _ _ _ _ _ _ X.1,X.2⟩
theorem H8 {ws:ai Wd} {ns:ai Nd} {i:ax} (h:i < ns.length) (k:ae) (a:ax) :
  s8 (a7 (C mx) Tryz.prog 60 dR) (i:aB) k (.ro 5 (ws.map Wd.av)) (.int (a:aB)) (ns.map Nd.av) .cd=aa (.tu [pj (.ok i),Ps.av ws ⟨a,dt ns i fun x=>{ x with kind:=k }⟩]):=by
 apply Uw
 have hl:(ns.map Nd.av).length=ns.length:=aP ..
 have xR:(ns.map Nd.av).set i (.ag [.u8 k,.int (ns[i].at':aB),.s ns[i].text,.b ns[i].root,ns[i].names,ki ns[i].body,ki ns[i].els,.b ns[i].has,.u8 ns[i].hole])=(dt ns i fun x=>{ x with kind:=k }).map Nd.av:=yH h fun x=>{ x with kind:=k }
 simp only [MK,hl,ln h,Option.bind_some,s9 h,Vw,Vx,Vy,XY,Ux,Vz,VA,XZ,X0,xR]
 rfl
theorem JB {ws:ai Wd} (pX:ws.length≤100000) {n:ax} (hB:FU mx ws n):FT mx ws (n+1):=by
 intro d w p r q h hd h1 h2
 unfold lQ at h
 simp only at h
 have hlen:(p.nodes.map Nd.av).length=p.nodes.length:=aP ..
 have hap:app 120 9 (p.nodes.map Nd.av) (.ro 9 [.ag [.u8 0,.int (w.at':aB),.s w.text,.b w.root,w.names,.cd,.cd,.b af,.u8 0]])=aa ((p.nodes ++ [oL w]).map Nd.av):=by
  rw [H7 (by rw [hlen];unfold big;omega)]
  simp only [dM,List.map_cons,List.map_nil]
  rfl
 have hi:p.nodes.length < (p.nodes ++ [oL w]).length:=by simp
 have MM:∀ (l:ai Nd) (i:ax) (f:Nd→Nd),(dt l i f).length=l.length:=fun l i f=>by unfold dt;simp
 have key:X60 w.kind (w.at':aB) w.text w.root w.names (d:aB) (.ro 5 (ws.map Wd.av)) (p.at':aB) (p.nodes.map Nd.av) .cd (aq (C mx) Tryz.prog) (a7 (C mx) Tryz.prog 60 dR)=aa (.tu [pj r,q.av ws])∧Jz ws p q∧p.nodes.length < q.nodes.length∧∀ i,r=.ok i→i=p.nodes.length:=by
  simp only [X60,hap,hlen,Option.bind_some,ba]
  have pl:∀ k:ae,(w.kind == 2 || w.kind == 4)=af→cI w.kind=k→s8 (a7 (C mx) Tryz.prog 60 dR) (p.nodes.length:aB) k (.ro 5 (ws.map Wd.av)) (.int (p.at':aB)) ((p.nodes ++ [oL w]).map Nd.av) .cd=aa (.tu [pj r,q.av ws])∧Jz ws p q∧p.nodes.length < q.nodes.length∧∀ i,r=.ok i→i=p.nodes.length:=fun k hk he=>by
   rw [hk,aI (by decide)] at h
   cases h
   rw [he]
   refine ⟨H8 hi k p.at',⟨?_,h2,?_⟩,?_,fun i e=>by cases e;rfl⟩
   ·show (dt _ _ _).length≤p.at'
    rw [MM];simp;omega
   ·show p.nodes.length≤(dt _ _ _).length
    rw [MM];simp
   ·show p.nodes.length < (dt _ _ _).length
    rw [MM];simp
  have br:∀ k:ae,(w.kind == 2 || w.kind == 4)=aj→cI w.kind=k→Cq (a7 (C mx) Tryz.prog 60 dR) (d:aB) (p.nodes.length:aB) k w.kind (w.at':aB) w.text w.root w.names (.ro 5 (ws.map Wd.av)) (p.at':aB) ((p.nodes ++ [oL w]).map Nd.av) .cd=aa (.tu [pj r,q.av ws])∧Jz ws p q∧p.nodes.length < q.nodes.length∧∀ i,r=.ok i→i=p.nodes.length:=fun k hk he=>by
   rw [hk,aJ rfl] at h
   by_cases X1:16≤d
   ·rw [aJ X1] at h
    cases h
    refine ⟨FP _ _ _ _ _ _ _ _ _ _ _ _ ?_,⟨?_,h2,?_⟩,?_,fun i e=>by cases e⟩
    ·have e:decide ((d:aB) ≥ 16)=aj:=by rw [aG];omega
     simp only [Cr,e,ba,aO]
     rfl
    ·show (p.nodes ++ [oL w]).length≤p.at'
     simp;omega
    ·show p.nodes.length≤(p.nodes ++ [oL w]).length
     simp
    ·exact hi
   ·rw [aI X1] at h
    have e:decide ((d:aB) ≥ 16)=af:=by rw [aQ];omega
    cases hb:lR ws n d p.nodes.length w { p with nodes:=p.nodes ++ [oL w] } with
    | none=>rw [hb] at h;cases h
    | some x =>
     obtain ⟨r1,q1⟩:=x
     rw [hb] at h
     obtain ⟨g1,g2⟩:=hB d p.nodes.length w _ r1 q1 hb (by omega) hi (show (p.nodes ++ [oL w]).length≤p.at' by simp;omega) h2
     have g1:aq (C mx) Tryz.prog 74 [.un,.int (p.nodes.length:aB),.ag [.u8 w.kind,.int (w.at':aB),.s w.text,.b w.root,w.names],.int (d:aB),.ag [.ro 5 (ws.map Wd.av),.int (p.at':aB),.ro 9 ((p.nodes ++ [oL w]).map Nd.av),.cd]]=aa (.tu [r1.ptr,q1.av ws]):=g1
     have g3:p.nodes.length < q1.nodes.length:=aZ hi g2.nodes
     cases r1 with
     | bad a e2 =>
      cases h
      refine ⟨FP _ _ _ _ _ _ _ _ _ _ _ _ ?_,⟨g2.rT,g2.J8,gN g3⟩,g3,fun i e=>by cases e⟩
      simp only [Cr,e,ba,Bool.false_eq_true,aH,g1,Pr.ptr,Ps.av,Option.bind_some,oA,oB,rW,xz,aO,bf,bz,fg,pj]
     | ok x =>
      cases h
      refine ⟨FP _ _ _ _ _ _ _ _ _ _ _ _ ?_,⟨?_,g2.J8,?_⟩,?_,fun i e=>by cases e;rfl⟩
      ·simp only [Cr,e,ba,Bool.false_eq_true,aH,g1,Pr.ptr,Ps.av,Option.bind_some,oA,oB,rW,uu,bf,bz,fg]
       rw [he]
       exact H8 g3 k q1.at'
      ·show (dt _ _ _).length≤q1.at'
       rw [MM];exact g2.rT
      ·show p.nodes.length≤(dt _ _ _).length
       rw [MM];exact gN g3
      ·show p.nodes.length < (dt _ _ _).length
       rw [MM];exact g3
  have hu:∀ x y:ae,cD x y=(x == y):=fun x y=>cC x y
  simp only [hu]
  cases k1:w.kind == 1 with
  | true =>
   have:w.kind=1:=by simpa using k1
   rw [aJ rfl]
   exact pl 1 (by rw [this];decide) (by rw [this];decide)
  | false =>
   rw [aI (by decide)]
   cases k6:w.kind == 6 with
   | true =>
    have:w.kind=6:=by simpa using k6
    rw [aJ rfl]
    exact pl 4 (by rw [this];decide) (by rw [this];decide)
   | false =>
    rw [aI (by decide)]
    cases k2:w.kind == 2 with
    | true =>
     have e2:w.kind=2:=by simpa using k2
     rw [aJ rfl]
     have:=br 2 (by rw [e2];decide) (by rw [e2];decide)
     refine ⟨ML _ _ _ _ _ _ _ _ _ _ _ ?_,this.2⟩
     simp only [FO,hu,ba]
     rw [aI (by rw [e2];decide)]
     exact this.1
    | false =>
     rw [aI (by decide)]
     cases k4:w.kind == 4 with
     | true =>
      have e4:w.kind=4:=by simpa using k4
      rw [aJ rfl]
      have:=br 3 (by rw [e4];decide) (by rw [e4];decide)
      refine ⟨ML _ _ _ _ _ _ _ _ _ _ _ ?_,this.2⟩
      simp only [FO,hu,ba]
      rw [aJ (by rw [e4];decide)]
      exact this.1
     | false =>
      rw [aI (by decide)]
      exact pl 0 (by rw [k2,k4];rfl) (by unfold cI;rw [k1,k6,k2,k4];rfl)
 exact ⟨c60 _ _ _ _ _ _ _ _ _ _ key.1,key.2⟩
theorem Cu {ws:ai Wd} (pX:ws.length≤100000) {w:Wd} {p:Ps} (h2:p.at'≤ws.length) {r:Pr Unit×Ps}
  (h:(match ws[p.at']? with
   | none=>(Pr.bad w.at' 4,p)
   | some u=>if u.kind == 3 then (Pr.bad u.at' 4,p) else (Pr.ok (),{ p with at':=p.at'+1 }))=r) :
  Cs (a7 (C mx) Tryz.prog 74 gM) w.kind (w.at':aB) w.text w.root w.names (.ro 5 (ws.map Wd.av)) (.int (p.at':aB)) (p.nodes.map Nd.av) .cd=aa (.tu [r.1.ptr,r.2.av ws])∧(p.nodes.length≤p.at'→Jz ws p r.2):=by
 have hlen:(ws.map Wd.av).length=ws.length:=aP ..
 cases hw:ws[p.at']? with
 | none =>
  rw [hw] at h
  subst h
  have jz:ws.length≤p.at':=bY.1 hw
  have e:decide (((ws.map Wd.av).length:aB)≤(p.at':aB))=aj:=by rw [hlen,aG];omega
  refine ⟨FQ _ _ _ _ _ _ _ _ _ ?_,fun h1=>⟨h1,h2,Nat.le_refl _⟩⟩
  simp only [Ct,jN,mN,e,Option.bind_some,ba,aO]
  rfl
 | some u =>
  rw [hw] at h
  have hlt:p.at' < ws.length:=(List.getElem?_eq_some_iff.1 hw).1
  have e:decide (((ws.map Wd.av).length:aB)≤(p.at':aB))=af:=by rw [hlen,aQ];omega
  have lD:=FR hw
  simp only at h
  cases hk:u.kind == 3 with
  | true =>
   rw [hk,aJ rfl] at h
   subst h
   refine ⟨FQ _ _ _ _ _ _ _ _ _ ?_,fun h1=>⟨h1,h2,Nat.le_refl _⟩⟩
   simp only [Ct,jN,mN,e,lD,Za,wc1,hZ,hk,kK,Option.bind_some,ba,Bool.false_eq_true,aH,aO]
   rfl
  | false =>
   rw [hk,aI (by decide)] at h
   subst h
   refine ⟨FQ _ _ _ _ _ _ _ _ _ ?_,fun h1=>⟨Nat.le_trans h1 (iG _),hlt,Nat.le_refl _⟩⟩
   simp only [Ct,jN,mN,e,lD,Za,wc1,hZ,hk,kK,Option.bind_some,ba,Bool.false_eq_true,aH]
   rw [lj (by omega) (by omega)]
   rfl
theorem JC {ws:ai Wd} (pX:ws.length≤100000) {n:ax} (hL:yI mx ws n):FU mx ws (n+1):=by
 intro d i w p r q h hd hi h1 h2
 unfold lR at h
 have abf:eE ((d:aB)+1)=((d+1:ax):aB):=by rw [gh (by omega) (by omega)];rfl
 have X2:(ws.map Wd.av).length=ws.length:=aP ..
 have MM:∀ (l:ai Nd) (i:ax) (f:Nd→Nd),(dt l i f).length=l.length:=fun l i f=>by unfold dt;simp
 have key:X74 (i:aB) w.kind (w.at':aB) w.text w.root w.names (d:aB) (.ro 5 (ws.map Wd.av)) (p.at':aB) (p.nodes.map Nd.av) .cd (aq (C mx) Tryz.prog) (a7 (C mx) Tryz.prog 74 gM)=aa (.tu [r.ptr,q.av ws])∧Jz ws p q:=by
  cases hb:jK ws n (d+1) p [] with
  | none=>rw [hb] at h;cases h
  | some x =>
   obtain ⟨r1,q1⟩:=x
   rw [hb] at h
   obtain ⟨g1,g2,_⟩:=FV hL hb (by omega) h1 h2
   have g1:aq (C mx) Tryz.prog 46 [.un,.int ((d+1:ax):aB),.ag [.ro 5 (ws.map Wd.av),.int (p.at':aB),.ro 9 (p.nodes.map Nd.av),.cd]]=aa (.tu [oz r1,.ag [.ro 5 (ws.map Wd.av),.int (q1.at':aB),.ro 9 (q1.nodes.map Nd.av),.cd]]):=g1
   simp only [X74,abf,g1,Option.bind_some,oA,oB,rW]
   cases r1 with
   | bad a e =>
    cases h
    simp only [oz,Option.bind_some,oA,oB,xz,ba,aO,bf,bz,fg]
    exact ⟨rfl,g2⟩
   | ok body =>
    simp only at h
    have Q1:i < q1.nodes.length:=aZ hi g2.nodes
    have YP:(q1.nodes.map Nd.av).length=q1.nodes.length:=aP ..
    have xR:(q1.nodes.map Nd.av).set i (.ag [.u8 q1.nodes[i].kind,.int (q1.nodes[i].at':aB),.s q1.nodes[i].text,.b q1.nodes[i].root,q1.nodes[i].names,.ro 1 (cj body),ki q1.nodes[i].els,.b q1.nodes[i].has,.u8 q1.nodes[i].hole])=(dt q1.nodes i fun x=>{ x with body:=aa body }).map Nd.av:=yH Q1 fun x=>{ x with body:=aa body }
    simp only [oz,Option.bind_some,oA,oB,uu,ba,Bool.false_eq_true,aH,bf,bz,fg,YP,ln Q1,K0,s9 Q1,Vw,Vx,Vy,XY,Ux,Vz,VA,XZ,X0,xR,jN,cR,X2]
    generalize Sy:(dt q1.nodes i fun x=>{ x with body:=aa body })=ns at h ⊢
    have vN:ns.length=q1.nodes.length:=by rw [← Sy,MM]
    have VB:Jz ws p ⟨q1.at',ns⟩:=⟨by show ns.length≤q1.at';rw [vN];exact g2.rT,g2.J8,by show p.nodes.length≤ns.length;rw [vN];exact g2.nodes⟩
    cases hv:ws[q1.at']? with
    | none =>
     rw [hv] at h
     have jz:ws.length≤q1.at':=bY.1 hv
     have e:decide ((q1.at':aB) < (ws.length:aB))=af:=by rw [aQ];omega
     simp only [e,lL,Option.bind_some,ba,Bool.false_eq_true,aH]
     obtain ⟨k1,k2⟩:=Cu (mx:=mx) pX (w:=w) (p:=⟨q1.at',ns⟩) g2.J8 rfl
     rw [show ws[(⟨q1.at',ns⟩:Ps).at']?=ah from hv] at k1 k2
     cases h
     exact ⟨k1,VB⟩
    | some v =>
     rw [hv] at h
     simp only at h
     have hlt:q1.at' < ws.length:=(List.getElem?_eq_some_iff.1 hv).1
     have e:decide ((q1.at':aB) < (ws.length:aB))=aj:=by rw [aG];omega
     have lD:=FR hv
     simp only [e,lD,Za,wc1,hZ,nV,Option.bind_some,ba,cC]
     cases hk:v.kind == 3 with
     | false =>
      rw [hk,aI (by decide)] at h
      rw [aI (by decide)]
      obtain ⟨k1,k2⟩:=Cu (mx:=mx) pX (w:=w) (p:=⟨q1.at',ns⟩) g2.J8 rfl
      rw [show ws[(⟨q1.at',ns⟩:Ps).at']?=aa v from hv] at k1 k2
      simp only [hk,Bool.false_eq_true,aH] at k1 k2
      cases h
      exact ⟨k1,⟨Nat.le_trans VB.rT (iG _),hlt,VB.nodes⟩⟩
     | true =>
      rw [hk,aJ rfl] at h
      rw [aJ rfl]
      cases hk4:w.kind == 4 with
      | true =>
       rw [hk4,aJ rfl] at h
       rw [aJ rfl]
       cases h
       simp only [kK,Option.bind_some]
       exact ⟨rfl,VB⟩
      | false =>
       rw [hk4,aI (by decide)] at h
       rw [aI (by decide),lj (by omega) (by omega)]
       simp only [kK,Option.bind_some]
       cases hb2:jK ws n (d+1) ⟨q1.at'+1,ns⟩ [] with
       | none=>rw [hb2] at h;cases h
       | some x =>
        obtain ⟨r2,q2⟩:=x
        rw [hb2] at h
        obtain ⟨m1,m2,_⟩:=FV hL hb2 (by omega) (show ns.length≤q1.at'+1 by have:=VB.rT;exact Nat.le_trans this (iG _)) hlt
        have m1:aq (C mx) Tryz.prog 46 [.un,.int ((d+1:ax):aB),.ag [.ro 5 (ws.map Wd.av),.int ((q1.at':aB)+1),.ro 9 (ns.map Nd.av),.cd]]=aa (.tu [oz r2,.ag [.ro 5 (ws.map Wd.av),.int (q2.at':aB),.ro 9 (q2.nodes.map Nd.av),.cd]]):=m1
        have VC:Jz ws p q2:=⟨m2.rT,m2.J8,Nat.le_trans VB.nodes m2.nodes⟩
        simp only [m1,Option.bind_some,oA,oB,rW]
        cases r2 with
        | bad a e2 =>
         cases h
         simp only [oz,Option.bind_some,oA,oB,xz,ba,aO,bf,bz,fg]
         exact ⟨rfl,VC⟩
        | ok els =>
         simp only at h
         have WJ:i < q2.nodes.length:=aZ hi VC.nodes
         have hl2:(q2.nodes.map Nd.av).length=q2.nodes.length:=aP ..
         have X3:(q2.nodes.map Nd.av).set i (.ag [.u8 q2.nodes[i].kind,.int (q2.nodes[i].at':aB),.s q2.nodes[i].text,.b q2.nodes[i].root,q2.nodes[i].names,ki q2.nodes[i].body,.ro 1 (cj els),.b q2.nodes[i].has,.u8 q2.nodes[i].hole])=(dt q2.nodes i fun x=>{ x with els:=aa els }).map Nd.av:=yH WJ fun x=>{ x with els:=aa els }
         simp only [oz,Option.bind_some,oA,oB,uu,ba,Bool.false_eq_true,aH,bf,bz,fg,hl2,ln WJ,K0,s9 WJ,Vw,Vx,Vy,XY,Ux,Vz,VA,XZ,X0,X3]
         generalize hms:(dt q2.nodes i fun x=>{ x with els:=aa els })=ms
         have abg:ms.length=q2.nodes.length:=by rw [← hms,MM]
         have Tj:i < ms.length:=by rw [abg];exact WJ
         have N0:(ms.map Nd.av).length=ms.length:=aP ..
         have X4:(ms.map Nd.av).set i (.ag [.u8 ms[i].kind,.int (ms[i].at':aB),.s ms[i].text,.b ms[i].root,ms[i].names,ki ms[i].body,ki ms[i].els,.b aj,.u8 ms[i].hole])=(dt ms i fun x=>{ x with has:=aj }).map Nd.av:=yH Tj fun x=>{ x with has:=aj }
         simp only [N0,ln Tj,Option.bind_some,s9 Tj,Vw,Vx,Vy,XY,Ux,Vz,VA,XZ,X0,X4]
         have Pk:dt ms i (fun x=>{ x with has:=aj })=dt q2.nodes i fun x=>{ x with els:=aa els,has:=aj }:=by
          rw [← hms];unfold dt
          apply List.ext_getElem
          ·simp
          ·intro j j1 j2
           simp only [gJ]
           split <;> rfl
         rw [Pk]
         have Qg:Jz ws p ⟨q2.at',dt q2.nodes i fun x=>{ x with els:=aa els,has:=aj }⟩:=⟨by show (dt _ _ _).length≤_;rw [MM];exact VC.rT,VC.J8,by show _≤(dt _ _ _).length;rw [MM];exact VC.nodes⟩
         obtain ⟨k1,k2⟩:=Cu (mx:=mx) pX (w:=w) (p:=⟨q2.at',dt q2.nodes i fun x=>{ x with els:=aa els,has:=aj }⟩) VC.J8 rfl
         have k3:=k2 Qg.rT
         cases hu:ws[q2.at']? with
         | none =>
          rw [hu] at h
          rw [show ws[(⟨q2.at',dt q2.nodes i fun x=>{ x with els:=aa els,has:=aj }⟩:Ps).at']?=ah from hu] at k1 k3
          cases h
          exact ⟨k1,Qg⟩
         | some u =>
          rw [hu] at h
          rw [show ws[(⟨q2.at',dt q2.nodes i fun x=>{ x with els:=aa els,has:=aj }⟩:Ps).at']?=aa u from hu] at k1 k3
          simp only at h k1 k3
          cases hku:u.kind == 3 with
          | true =>
           simp only [hku,aO] at h k1 k3
           cases h
           exact ⟨k1,Qg⟩
          | false =>
           simp only [hku,Bool.false_eq_true,aH] at h k1 k3
           cases h
           exact ⟨k1,⟨k3.rT,k3.J8,Qg.nodes⟩⟩
 exact ⟨c74 _ _ _ _ _ _ _ _ _ _ _ key.1,key.2⟩
theorem Ax {ws:ai Wd} (pX:ws.length≤100000):∀ n,yI mx ws n∧FT mx ws n∧FU mx ws n
 | 0=>⟨fun d p out r q h=>by simp [jK] at h,fun d w p r q h=>by simp [lQ] at h,fun d i w p r q h=>by simp [lR] at h⟩
 | n+1=>by
  obtain ⟨h1,h2,h3⟩:=Ax pX n
  exact ⟨JA pX h1 h2,JB pX h3,JC pX h1⟩
end R3
namespace R3
open Go Go.Proofs Go.RowKit Go.Shelf Sx
variable {mx:aB}
def mD (F:ax→Prop) (Pb:ax) (nv:aC):Fs:=⟨F,fun b=>b=Pb∨nv.ownBlock=aa b,fun _=>ah⟩
def Ay (cs:ai Cell):St:=⟨fun t=>bif Nat.beq t 0 then .cell (.ptr 0 0) else .dead,fun s=>bif Nat.beq s 0 then aa cs else ah⟩
def l5 (id0:ax) (nv:aC):ax→ak aC:=fun i=>if i=id0 then aa nv else ah
def mLσ (Pb:ax):ax→ak ax:=fun s=>if s=0 then aa Pb else ah
theorem X6 {C:jT} {w:az} {F:ax→Prop} (hG:cG C w F) {Pb e:ax} {vs:ai aC} {cs:ai Cell} {id0:ax} {nv:aC} (hP:w.heap[Pb]?=aa (.cells vs.toArray e (0,0))) (hl:vs.length=cs.length) (Qh:¬ F Pb)
  (C3:∀ g,nv.ownBlock=aa g→¬ F g∧g≠Pb∧g < w.heap.size)
  (hcs:∀ (j:ax) (c:Cell) (v:aC),cs[j]?=aa c→vs[j]?=aa v→(∃ u,c=.val u∧v.oneCell'=aj∧Rel w F u v)∨(∃ e k l,c=.own id0 e k l∧v=nv∧cY w F e k l v)) :
  Inv C w (mD F Pb nv) 2 (Ay cs) ⟨#[.pointer (aa ⟨Pb,0,ah⟩),undef],[]⟩ w (l5 id0 nv) (mLσ Pb):=by
 have hlt:Pb < w.heap.size:=(Array.getElem?_eq_some_iff.1 hP).1
 have l4:∀ b,F b→Fr w.heap.size (mD F Pb nv) (l5 id0 nv) (mLσ Pb) b:=fun b hb=>by
  refine ⟨fun _=>.inl hb,fun i v hi ho=>?_,fun s hs=>?_⟩
  ·unfold l5 at hi
   split at hi
   ·cases hi;exact (C3 b ho).1 hb
   ·cases hi
  ·unfold mLσ at hs
   split at hs
   ·cases hs;exact Qh hb
   ·cases hs
 have yJ:∀ {a:AV} {v:aC},Rel w F a v→Rel w (Fr w.heap.size (mD F Pb nv) (l5 id0 nv) (mLσ Pb)) a v:=fun h=>h.mono fun b _ hb=>⟨l4 b hb,rfl⟩
 exact {
  defers:=rfl
  size:=rfl
  env:=fun t=>by
   match t with
   | 0=>exact ⟨Pb,rfl,rfl⟩
   | t+1=>trivial
  mem:=fun s cs' hs=>by
   match s,hs with
   | 0,hs =>
    cases hs
    refine ⟨Pb,vs,e,rfl,hP,hl,fun j c v hc hv=>?_⟩
    rcases hcs j c v hc hv with ⟨u,rfl,h1,h2⟩ | ⟨e,k,l,rfl,rfl,h2⟩
    ·exact ⟨h1,yJ h2⟩
    ·refine ⟨by show l5 id0 v id0=aa v;unfold l5;rw [aJ rfl],h2.mono (fun b _ hb=>⟨l4 b hb,rfl⟩) fun _ _=>rfl⟩
   | s+1,hs=>cases hs
  hown:=fun i x g hi hx=>by
   unfold l5 at hi
   split at hi
   ·cases hi;exact ⟨.inr (.inr hx),(C3 g hx).2.2⟩
   ·cases hi
  sown:=fun s r hs=>by
   unfold mLσ at hs
   split at hs
   ·cases hs;exact ⟨.inr (.inl rfl),hlt⟩
   ·cases hs
  obj:=fun s b hb=>by cases hb
  hh:=fun i j x y g hne hi hj=>by
   unfold l5 at hi hj
   split at hi
   ·split at hj
    ·omega
    ·cases hj
   ·cases hi
  hs:=fun i s x r hi hs=>by
   unfold l5 at hi
   unfold mLσ at hs
   split at hi
   ·split at hs
    ·cases hi;cases hs;exact fun e=>(C3 _ e).2.1 rfl
    ·cases hs
   ·cases hi
  ss:=fun s s' r hne hs=>by
   unfold mLσ at hs ⊢
   split at hs
   ·rw [aI (by omega)];simp
   ·cases hs
  glob:=fun g k e hg=>by
   obtain ⟨b',o,h1,h2,h3,h4⟩:=hG g k e hg
   refine ⟨b',o,h1,l4 b' h2,h3,fun j hj=>?_⟩
   obtain ⟨v,q1,q2,q3⟩:=h4 j hj
   exact ⟨v,q1,q2,yJ q3⟩
  below:=Kh.refl _ w }
def eA (W:az) (F:ax→Prop) (Pb:ax) (nv nv':aC) (b:ax):Prop:=(b < W.heap.size→F b∨nv.ownBlock=aa b)∧b≠Pb∧nv'.ownBlock≠aa b
structure JD (W:az) (Pb:ax) (nv:aC) (W':az):Prop where
 os:W'.os=W.os
 tape:W'.tape=W.tape
 output:W'.output=W.output
 size:W.heap.size≤W'.heap.size
 block:∀ b,b < W.heap.size→b≠Pb→nv.ownBlock≠aa b→W'.heap[b]?=W.heap[b]?
set_option maxRecDepth 100000
def Ya:A4:={ ps:=[.obj 0,.v],objs:=[(.arg 0,[.v,.v,.own 58 9,.v])],outs:=[(.arg 0,[.v,.v,.own 58 9,.v])] }
def pn (words:AV) (at':aB) (nodes:ai AV) (top:AV):ai Cell:=[.val words,.val (.int at'),.own 9 58 9 nodes,.val top]
def Yb (words:AV) (at':aB) (nodes:ai AV) (top res o0 o1 o2 o3:AV):St :=
 (((Ay (pn words at' nodes top)).Ke [9,600002]).kU 0 [.val o0,.val o1,.own 600002 58 9 o2.elems,.val o3]).put (aa 1) (.val res)
theorem abh (call:ax→ai AV→ak AV) {words top:AV} {at' d:aB} {nodes:ai AV} (Cc:jT) {res o0 o1 o2 o3:AV} (hc:call 46 [.un,.int d,.ag [words,.int at',.ro 9 nodes,top]]=aa (.tu [res,.ag [o0,o1,o2,o3]])) :
  jM (C mx) call Ya 46 (([.tmp 0,.const (.int .i64 d)]:ai Operand).map ((Ay (pn words at' nodes top)).get (C mx)) ++ ([]:ai ax).map fun s=>.cell (.ptr s 0)) (aa 1) (Ay (pn words at' nodes top)) (fun st=>aa st)=aa (Yb words at' nodes top res o0 o1 o2 o3):=by
 show ((call 46 [.un,.int d,.ag [words,.int at',.ro 9 nodes,top]]).bind fun res=>_)=_
 rw [hc]
 rfl
set_option maxRecDepth 100000 in
theorem FW {w:az} {F:ax→Prop} (hG:cG (C mx) w F) {Pb e:ax} {wv tv nv:aC} {at' d:aB} {words top:AV} {nodes:ai AV} (hP:w.heap[Pb]?=aa (.cells #[wv,.int .i64 at',nv,tv] e (0,0))) (Qh:¬ F Pb)
  (C3:∀ g,nv.ownBlock=aa g→¬ F g∧g≠Pb∧g < w.heap.size) (h1:wv.oneCell'=aj) (hw:Rel w F words wv) (h2:tv.oneCell'=aj) (ht:Rel w F top tv) (hn:cY w F 58 9 nodes nv)
  {res o0 o1 o2 o3:AV} (hc:aq (C mx) Tryz.prog 46 [.un,.int d,.ag [words,.int at',.ro 9 nodes,top]]=aa (.tu [res,.ag [o0,o1,o2,o3]])) :
  Calls Tryz.prog 46 #[.pointer (aa ⟨Pb,0,ah⟩),.int .i64 d] w fun en w'=>∃ v x0 x1 x2 x3 e',en=.returned v∧JD w Pb nv w'∧w'.heap[Pb]?=aa (.cells #[x0,x1,x2,x3] e' (0,0)) ∧
   Rel w' (eA w F Pb nv x2) res v∧Rel w' (eA w F Pb nv x2) o0 x0∧Rel w' (eA w F Pb nv x2) o1 x1∧cY w' (eA w F Pb nv x2) 58 9 o2.elems x2∧(x3.oneCell'=aj∧Rel w' (eA w F Pb nv x2) o3 x3) ∧
   (∀ g,x2.ownBlock=aa g→(w.heap.size≤g∨nv.ownBlock=aa g)∧g≠Pb∧g < w'.heap.size):=by
 have hI:=X6 (C:=C mx) hG (Pb:=Pb) (e:=e) (vs:=[wv,.int .i64 at',nv,tv]) (cs:=pn words at' nodes top) (id0:=9) (nv:=nv) hP rfl Qh C3 (fun j c v hc hv=>by
  match j,hc,hv with
  | 0,hc,hv=>cases hc;cases hv;exact .inl ⟨_,rfl,h1,hw⟩
  | 1,hc,hv=>cases hc;cases hv;exact .inl ⟨_,rfl,rfl,.int at'⟩
  | 2,hc,hv=>cases hc;cases hv;exact .inr ⟨_,_,_,rfl,rfl,hn⟩
  | 3,hc,hv=>cases hc;cases hv;exact .inl ⟨_,rfl,h2,ht⟩
  | j+4,hc,hv=>simp [pn] at hc)
 have hK:jM (C mx) (aq (C mx) Tryz.prog) Ya 46 (([.tmp 0,.const (.int .i64 d)]:ai Operand).map ((Ay (pn words at' nodes top)).get (C mx)) ++ ([]:ai ax).map fun s=>.cell (.ptr s 0)) (aa 1) (Ay (pn words at' nodes top)) (fun st=>aa st)=aa (Yb words at' nodes top res o0 o1 o2 o3) :=
  abh _ (C mx) hc
 have key:=qh (C:=C mx) (P:=Tryz.prog) (call:=aq (C mx) Tryz.prog) (R:=St) (K:=fun st=>aa st) (o:={ dst:=aa 1,op:=.call { callee:=.value (.func 46),args := #[.tmp 0,.const (.int .i64 d)],argTypes := #[102,3] },type:=0,pos := "", after := #[],guard:=ah }) (X:=.func 46) (g:=46) (cv := #[]) (ss:=[])
  rfl rfl rfl (by kernel_rfl) (by kernel_rfl) ⟨rfl,fun j s v hs=>by simp at hs⟩ (nx (fit mx)) (fit mx).ty hI (fun t ht=>by cases ht;decide) hK
 have hW:=key (fun a' w'=>∃ x0 x1 x2 x3 e',JD w Pb nv w'∧w'.heap[Pb]?=aa (.cells #[x0,x1,x2,x3] e' (0,0)) ∧
   Rel w' (eA w F Pb nv x2) res (a'.tmps.getD 1 undef)∧Rel w' (eA w F Pb nv x2) o0 x0∧Rel w' (eA w F Pb nv x2) o1 x1∧cY w' (eA w F Pb nv x2) 58 9 o2.elems x2∧(x3.oneCell'=aj∧Rel w' (eA w F Pb nv x2) o3 x3) ∧
   (∀ g,x2.ownBlock=aa g→(w.heap.size≤g∨nv.ownBlock=aa g)∧g≠Pb∧g < w'.heap.size)) (fun _ _ _=>False) (fun a' w' st' H' σ' hst hI' _ hσ _=>?_)
 ·unfold Oper.wp at hW
  have hrun:(execOp (⟨#[.pointer (aa ⟨Pb,0,ah⟩),undef],[]⟩:Act).eval { dst:=aa 1,op:=.call { callee:=.value (.func 46),args := #[.tmp 0,.const (.int .i64 d)],argTypes := #[102,3] },type:=0,pos := "", after := #[],guard:=ah }).run Tryz.prog w=.ok (.enter 46 #[.pointer (aa ⟨Pb,0,ah⟩),.int .i64 d]) w:=by
   simp [execOp,go_sem,resolve,invoke,enters_of Tryz.func46 (by kernel_rfl) rfl]
  rw [hrun,Oper.upon_enter] at hW
  refine Calls.mono hW fun en w' h=>?_
  cases en with
  | returned v =>
   obtain ⟨x0,x1,x2,x3,e',q1,q2,q3,q4⟩:=h
   exact ⟨v,x0,x1,x2,x3,e',rfl,q1,q2,q3,q4⟩
  | panicked c=>exact h.elim
  | outgrown=>exact absurd h (by simp [LetsOut])
 ·cases hst
  obtain ⟨r,us,e',g1,g2,g3,g4⟩:=hI'.mem 0 _ rfl
  have hσ0:σ' 0=aa Pb:=(hσ.1 0 (by simp)).trans rfl
  rw [hσ0] at g1
  cases g1
  match us,g3,g4,g2 with
  | [x0,x1,x2,x3],_,g4,g2 =>
   have y0:=g4 0 _ x0 rfl rfl
   have y1:=g4 1 _ x1 rfl rfl
   have y2:=g4 2 _ x2 rfl rfl
   have y3:=g4 3 _ x3 rfl rfl
   have hF:∀ b,Fr w.heap.size (mD F Pb nv) H' σ' b→eA w F Pb nv x2 b:=fun b hb=>by
    have hne:b≠Pb:=fun e=>hb.2.2 0 (e ▸ hσ0)
    exact ⟨fun hlt=>(hb.1 hlt).elim .inl fun h=>h.elim (fun e=>absurd e hne) .inr,hne,hb.2.1 _ x2 y2.1⟩
   have hm:∀ {a:AV} {v:aC},Rel w' (Fr w.heap.size (mD F Pb nv) H' σ') a v→Rel w' (eA w F Pb nv x2) a v:=fun h=>h.mono fun b _ hb=>⟨hF b hb,rfl⟩
   refine ⟨x0,x1,x2,x3,e',⟨hI'.below.os,hI'.below.tape,hI'.below.output,hI'.below.size,fun b hb hne ho=>hI'.below.block b hb (fun h=>h.elim hne ho)⟩,g2,hm (hI'.env 1),hm y0.2,hm y1.2,y2.2.mono (fun b _ hb=>⟨hF b hb,rfl⟩) (fun _ _=>rfl),⟨y3.1,hm y3.2⟩,fun g hg=>?_⟩
   obtain ⟨q1,q2⟩:=hI'.hown _ x2 g y2.1 hg
   have q3:g≠Pb:=fun e=>hI'.hs _ 0 x2 Pb y2.1 hσ0 (e ▸ hg)
   exact ⟨q1.elim .inl fun h=>h.elim (fun e=>absurd e q3) .inr,q3,q2⟩
end R3
namespace R3
open Go Go.Proofs Sx
def abi (v:AV):Prop:=v=.cd∨∃ l:ai (ai ae),v=.ro 1 (l.map .s)∧l.length≤1000000000
end R3
namespace R3
open Go Go.Proofs Go.RowKit Go.Shelf Sx
variable {mx:aB}
theorem rB {C:jT} {P:Program} (kp:Fit C P) {g:ax} {fn:Func} {c:Code} (hfn:P.funcs[g]?=aa fn) (hb:fn.body=aa c) {args:ai AV} {r:AV} (h:aq C P g args=aa r) (hs:C.sig g=ah)
  (w:az) (F:ax→Prop) (vs:Array aC) (hG:cG C w F) (hl:vs.size=args.length) (hv:∀ (j:ax) (a:AV) (v:aC),args[j]?=aa a→vs[j]?=aa v→Rel w F a v) :
  Calls P g vs w (np C g w F r):=by
 have hname:=kp.name g fn c hfn hb
 rcases (nx kp).1 g args _ h hs w F vs hG hl hv with ⟨fn',c',_,_,_,hc⟩ | ⟨v,hv',_⟩
 ·exact hc
 ·exfalso
  have sH:¬ fn.name = "runtime.NumGoroutine" := by simpa using hname
  simp [callFunc,hfn,hb,sH] at hv'
theorem H9 {W:az} {m:aB} (h:W.cell? ⟨1,0,ah⟩=aa (.int .i64 m)):cG (C m) W (fun b=>b=1):=by
 intro g k e hg
 have hg:(bif Nat.beq g 1 then aa (1,AV.int m) else ah)=aa (k,e):=hg
 cases h1:Nat.beq g 1 with
 | false=>rw [h1] at hg;cases hg
 | true =>
  rw [h1] at hg;cases hg
  obtain rfl:=Nat.eq_of_beq_eq_true h1
  refine ⟨1,0,rfl,rfl,cM h,fun j hj=>?_⟩
  obtain rfl:j=0:=by omega
  exact ⟨.int .i64 m,h,rfl,Rel.int m⟩
theorem Qi {w:az} {F:ax→Prop} {a:AV} {v:aC} (h:Rel w F a v):∀ (j:ax) (a':AV) (v':aC),([a]:ai AV)[j]?=aa a'→(#[v]:Array aC)[j]?=aa v'→Rel w F a' v':=by
 intro j a' v' h1 h2
 match j,h1,h2 with
 | 0,h1,h2=>cases h1;cases h2;exact h
 | j+1,h1,h2=>simp at h1
end R3
namespace R3
open Go Go.Proofs Go.RowKit Go.Shelf Sx
variable {mx:aB}
end R3
namespace R3
open Go Go.Proofs Go.RowKit Go.Shelf Sx
variable {mx:aB}
end R3
namespace R3
open Go Go.Proofs Go.RowKit Go.Shelf Sx
variable {mx:aB}
end R3
namespace R3
open Go Go.Proofs Go.RowKit Go.Shelf Sx
variable {mx:aB}
theorem cE {w w':az} {p:Addr} {v:aC} (hx:Ext w w') (h:w.cell? p=aa v):w'.cell? p=aa v:=by
 rw [← h]
 exact World.cell?_of_block (hx.block _ (cM h))
theorem gb {w:az} {F:ax→Prop} {k:ax} {l:ai AV} {v:aC} (h:Rel w F (.ro k l) v):∃ (ad:ak Addr) (c:ax),v=.slice ad l.length c∧l.length≤c:=by
 cases h with
 | zG=>exact ⟨_,_,rfl,Nat.zero_le _⟩
 | ro _ _ r off c xs hk hc=>exact ⟨_,_,rfl,hc⟩
end R3
