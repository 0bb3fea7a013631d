/-
  A part of InferFragments's proof.
-/
import Derived.Test.YtgjfbalafdifgaaGreatDoorTC
import Derived.Test.YtgjfbalafdifgaaGreatDoorTD
import Derived.Test.YtgjfbalafdifgaaGreatDoorProg
import Derived.Lib.IndexMore
import Derived.RangeFuncNested
import Derived.RangeFuncBound
import Derived.RangeFuncCalls
import Derived.RangeFuncLeaves
import Derived.Shelf.RegionOpen
import Derived.WalkKit
import Derived.OwnWalkIn
import Derived.TacticsInMore
import Derived.LoopNIn
import Derived.LoopIn
set_option linter.unusedVariables false
set_option linter.unusedSimpArgs false
set_option linter.unusedSectionVars false
set_option linter.unnecessarySimpa false
noncomputable section
namespace eG
open Go Go.Proofs Sx
variable {mx:Int}
theorem WJ (l:List UInt8) (x:UInt8):ae (C mx) Tryz.prog 109 [.s l,.u8 x]=some (.int (iB l x)) :=
 yN (fn:=Tryz.f109) (by kernel_rfl) (by kernel_rfl) (by kernel_rfl) (by
  show (bif (Tryz.f109.name == "internal/bytealg.IndexByteString") then some (AV.int (iB l x)) else none)=_
  rw [show (Tryz.f109.name == "internal/bytealg.IndexByteString")=true by kernel_rfl]
  rfl)
theorem s78 (l:List UInt8) (x:UInt8):ae (C mx) Tryz.prog 78 [.s l,.u8 x]=some (.int (iB l x)):=by
 apply c78
 simp only [YY,WJ,Option.bind_some]
theorem WK (l:List UInt8) (x:UInt8):ae (C mx) Tryz.prog 126 [.s l,.u8 x]=some (.int (iB l x)):=by
 apply WE
 simp only [SC,s78,Option.bind_some]
section
variable (c:Ctx) (b:UInt8)
theorem Ht (h:c.nm.length < 9223372036854775808):ae (C mx) Tryz.prog 17 [c.ay]=some (.b (form c)):=s17 (h:=h) ..
theorem Bb (h:c.nm.length < 9223372036854775808):ae (C mx) Tryz.prog 20 [c.ay]=some (.b (form c)):=s20 (h:=h) ..
theorem PA:ae (C mx) Tryz.prog 140 [c.ay]=some (.b (l4 c.st c.el c.at')):=Wn ..
theorem SH:ae (C mx) Tryz.prog 116 [.u8 b]=some (.b (letter b)):=by
 apply Wt
 simp only [Su,cY,dt,Option.bind_some,aA,aM,letter]
theorem Hu:ae (C mx) Tryz.prog 117 [.u8 b]=some (.u8 (eR b)):=by
 apply Wv
 refine Kn ?_
 revert b
 exact fD (by kernel_rfl)
theorem Hv:ae (C mx) Tryz.prog 118 [.u8 b]=some (.b (bm b)):=by
 apply Ww
 simp only [Sv,aN,Option.bind_some,aA,aM,bm]
theorem SI:ae (C mx) Tryz.prog 125 [c.ay]=some (.b (ends c)):=by
 apply WD
 simp only [SB,aN,Option.bind_some,aA,aM,ends]
theorem K4 (s:UInt8):ae (C mx) Tryz.prog 121 [c.ay,.u8 s]=some (within c s).ay:=by
 apply Wz
 rfl
theorem SJ (el:UInt8):ae (C mx) Tryz.prog 122 [.u8 el]=some (iV el).ay:=by
 apply WA
 simp only [Sy,cA,ai,iV,aT]
 rfl
theorem s92:ae (C mx) Tryz.prog 92 [.u8 b]=some (tv (opened b)):=by
 apply c92
 simp only [YZ,SH,Hu,aN,Option.bind_some,eK,iI,jW,ai,opened,wC]
 rfl
theorem s93:ae (C mx) Tryz.prog 93 [.u8 b]=some (closed b).ay:=by
 apply c93
 simp only [Y0,SH,Hu,aN,Option.bind_some,eK,iI,jW,ai,closed,aT]
 rfl
theorem SK:ae (C mx) Tryz.prog 119 [c.ay,.u8 b]=some (grown c b).ay:=by
 apply Wx
 simp only [Sw,Hu,Option.bind_some,eK,iI,ai,grown,aT]
 have e:decide ((c.nm.length:Int) ≥ 32)=decide (32≤c.nm.length):=by rw [decide_eq_decide];omega
 rw [e]
 by_cases h:32≤c.nm.length
 ·rw [if_pos (by simpa using h),if_pos (by simpa using h)];rfl
 ·rw [if_neg (by simpa using h),if_neg (by simpa using h),kG (by simp;omega)];rfl
theorem WL:ae (C mx) Tryz.prog 123 [c.ay,.u8 b]=some (tv (dv c b)):=by
 apply WB
 simp only [Sz,Hv,aN,Option.bind_some,aM,ai,dv,wC]
 rfl
theorem WM:ae (C mx) Tryz.prog 124 [c.ay,.u8 b]=some (tv (named c b)):=by
 apply WC
 simp only [SA,Hv,Wq,aC,aJ,SK,K4,ax,zT,Gu,aN,Option.bind_some,aM,aA,ai,named,wC,eK]
 rfl
theorem Y5:ae (C mx) Tryz.prog 94 [c.ay,.u8 b]=some (tv (tag c b)):=by
 have f (el:UInt8):CQ (af (C mx) Tryz.prog 94 Tryz.f94) c.st (.u8 el) c.en c.at' c.qu c.pa c.su c.es c.da c.nm 0 0 false 0 0 0 0 false 0 []=some (tv (within { c with el:=el } 9,true)):=by
  apply Sr
  simp only [MS,aC,K4,ax,zT,aJ,Gu,Option.bind_some]
 apply c94
 simp only [Y1,f,Hv,Wo,aC,aJ,SK,K4,SJ,WL,WM,ax,zT,Gu,Kt,Ku,aN,cA,bq,Option.bind_some,aM,aA,ai,tag,wC,eK]
 rfl
theorem WN:ae (C mx) Tryz.prog 139 [c.ay,.u8 b]=some (text c b).ay:=by
 have f (d:Ctx):oZ (af (C mx) Tryz.prog 139 Tryz.f139) d.st d.el d.en d.at' d.qu d.pa d.su d.es d.da d.nm 0 0 false 0 0 0 0 false 0 []=some d.ay:=by
  apply Pz
  rfl
 apply WI
 simp only [SG,aN,Option.bind_some,aM,aA,ai,text,aT]
 rw [f c,f { c with su:=0 },f { c with es:=true },f { c with es:=false }]
 rfl
theorem SL (script:Bool) (h:(c.su == 0)=true):ae (C mx) Tryz.prog 128 [c.ay,.u8 b,.b script]=some (gY c b script).ay:=by
 have f (d:Ctx):cM (af (C mx) Tryz.prog 128 Tryz.f128) d.st d.el d.en d.at' d.qu d.pa d.su d.es d.da d.nm 0 0 false 0 0 0 0 false 0 []=some d.ay:=by
  apply CV
  rfl
 have g:nU (af (C mx) Tryz.prog 128 Tryz.f128) 0 0 false 0 0 0 0 false 0 []=some bg.ay:=by
  apply CW
  rfl
 apply SE
 simp only [Px,aN,Option.bind_some,aM,aA,ai,gY,aT,h,if_true]
 rw [f c,f { c with su:=1 },f { c with su:=2 },f { c with su:=3 },g]
theorem SM (script:Bool):ae (C mx) Tryz.prog 128 [c.ay,.u8 b,.b script]=some (code c b script).ay:=by
 have f (d:Ctx):cM (af (C mx) Tryz.prog 128 Tryz.f128) d.st d.el d.en d.at' d.qu d.pa d.su d.es d.da d.nm 0 0 false 0 0 0 0 false 0 []=some d.ay:=by
  apply CV
  rfl
 have g:nU (af (C mx) Tryz.prog 128 Tryz.f128) 0 0 false 0 0 0 0 false 0 []=some bg.ay:=by
  apply CW
  rfl
 have t (d:Ctx):qR (af (C mx) Tryz.prog 128 Tryz.f128) b d.st d.el d.en d.at' d.qu d.pa d.su d.es d.da d.nm 0 0 false 0 0 0 0 false 0 []=some (text d b).ay:=by
  apply K2
  simp only [CT,aC,aJ,WN,ax,zT,Option.bind_some]
 have u (d:Ctx):wW (af (C mx) Tryz.prog 128 Tryz.f128) b d.su d.st d.el d.en d.at' d.qu d.pa d.su d.es d.da d.nm 0 0 false 0 0 0 0 false 0 [] =
   some (if d.su == 4 then (if b == 10 || b == 13 then { d with su:=0 } else d) else if d.su == 5 then (if b == 42 then { d with su:=6 } else d) else if d.su == 6 then (if b == 47 then { d with su:=0 } else if b == 42 then d else { d with su:=5 }) else d:Ctx).ay:=by
  apply K3
  simp only [CU,aN,Option.bind_some,aM,aA,ai,aT]
  rw [f d,f { d with su:=0 },f { d with su:=6 },f { d with su:=5 }]
 apply SE
 have z:ae (C mx) Tryz.prog 128 [Ctx.ay { c with su:=0 },.u8 b,.b script]=some (gY { c with su:=0 } b script).ay:=SL _ b script rfl
 simp only [Px,aN,Option.bind_some,aM,aA,ai,code,aT,aC,aJ]
 rw [f c,f { c with su:=1 },f { c with su:=2 },f { c with su:=3 },f { c with su:=4 },f { c with su:=5 },g,t c,u c,z]
 simp only [ax,zT,Option.bind_some,aC,aJ]
 simp only [gY,aT]
 rfl
theorem WO:ae (C mx) Tryz.prog 127 [c.ay,.u8 b]=some (url c b).ay:=by
 have f (d:Ctx):iL (af (C mx) Tryz.prog 127 Tryz.f127) d.st d.el d.en d.at' d.qu d.pa d.su d.es d.da (.s d.nm) 0 0 false 0 0 0 0 false 0 []=some d.ay:=by
  apply KZ
  rfl
 apply WG
 simp only [SD,aN,Option.bind_some,aM,aA,ai,Hu,eK,iI,Ki,url,aT]
 rw [f { c with pa:=4,nm:=[] },f { c with pa:=3,nm:=[] },f { c with pa:=5,nm:=[] },f { c with pa:=1 }]
 have e:decide ((c.nm.length:Int) ≥ 16)=decide (16≤c.nm.length):=by rw [decide_eq_decide];omega
 rw [e,show (c.nm == [104,116,116,112] || c.nm == [104,116,116,112,115] || c.nm == [109,97,105,108,116,111])=zf c.nm from rfl]
 by_cases h:16≤c.nm.length
 ·simp only [decide_eq_true h,if_true];rfl
 ·rw [kG (by simp;omega)]
  simp only [Option.bind_some,jW]
  rw [f { c with pa:=1,nm:=c.nm ++ [eR b] }]
  rfl
theorem Hw:decide (iB [34,39,60,61,96] b ≥ 0)=sx b:=by
 revert b
 exact Ej (by kernel_rfl)
theorem s95:ae (C mx) Tryz.prog 95 [c.ay,.u8 b]=some (value c b).ay:=by
 apply c95
 simp only [Y2,aN,Option.bind_some,aM,aA,ai,Hv,WK,aC,aJ,SI,K4,SJ,WO,SM,ax,zT,bq,value,aT,gq,Hw]
 rfl
theorem SN:∀ (r p:List UInt8) (c:Ctx),(p ++ r).length < 9223372036854775808→wX (af (C mx) Tryz.prog 129 Tryz.f129) (p ++ r) ((p ++ r).length:Int) (p.length:Int) (.u8 c.st) (.u8 c.el) (.b c.en) (.u8 c.at') (.u8 c.qu) (.u8 c.pa) (.u8 c.su) (.b c.es) (.u8 c.da) (.s c.nm) 0 0 false 0 0 0 0 false 0 []=some (l5 c r).ay
 | [],p,c,h=>by
  apply Hs
  simp only [Ba,qJ,nM,List.append_nil,Option.bind_some,ai,Bool.false_eq_true,if_false,aC,aJ,l5]
 | b :: r,p,c,h=>by
  apply Hs
  simp only [Ba,wk,iH,lu p b r h,cI,Option.bind_some,ai,if_true,aC,aJ,SM,ax,zT,l5,aT]
  rw [dz,SN r (p ++ [b]) _ (by rw [← dz];exact h)]
  rfl
theorem SP (s:List UInt8) (feed:Bool) (h:s.length < 9223372036854775808):ae (C mx) Tryz.prog 129 [c.ay,.s s,.b feed]=some (mM c s feed).ay:=by
 apply WH
 have l:=SN (mx:=mx) s [] { c with st:=17,nm:=[] } h
 simp only [SF,aN,Option.bind_some,aC,aJ,PA,bq,aM,ai,mM,aT]
 split
 ·rfl
 ·exact l
theorem s96 (feed:Bool) (h:c.nm.length < 1000):ae (C mx) Tryz.prog 96 [c.ay,.u8 b,.b feed]=some (raw c b feed).ay:=by
 have f (d:Ctx):wT (af (C mx) Tryz.prog 96 Tryz.f96) (.u8 d.st) (.u8 d.el) (.b d.en) (.u8 d.at') (.u8 d.qu) (.u8 d.pa) (.u8 d.su) (.b d.es) (.u8 d.da) (.s d.nm) 0 0 false 0 0 0 0 false 0 []=some d.ay:=by
  apply Pp
  rfl
 have g (d:Ctx):wS (af (C mx) Tryz.prog 96 Tryz.f96) b feed (.u8 d.st) (.u8 d.el) (.b d.en) (.u8 d.at') (.u8 d.qu) (.u8 d.pa) (.u8 d.su) (.b d.es) (.u8 d.da) (.s d.nm) 0 0 false 0 0 0 0 false 0 []=some (qC d b feed).ay:=by
  apply Po
  simp only [Ho,cI,Option.bind_some,ai,iI,aC,aJ]
  rw [SP d [b] feed (by simp)]
  simp only [Option.bind_some,ax,zT,cI,aN,aA,ai]
  rw [f (mM d [b] feed),f { mM d [b] feed with st:=18 }]
  simp only [qC,aT]
  rfl
 apply c96
 have a1:cy .add (.s c.nm) (.s [eR b])=some (.s (c.nm ++ [eR b])):=kG (by simp;omega)
 have a2:cy .add (.s [47]) (.s c.nm)=some (.s (47 :: c.nm)):=kG (by simp;omega)
 have a3:=SP (mx:=mx) c (47 :: c.nm) feed (by simp;omega)
 simp only [Y3,YS,aN,Option.bind_some,aM,aA,ai,Hv,Hu,eK,iI,jW,a1,a2,nL,UA,aC,aJ,SI,Y5,Kt,Ku,a3,ax,zT,bq,raw,aT]
 rw [g c,g (mM c (47 :: c.nm) feed)]
 rfl
theorem s97:ae (C mx) Tryz.prog 97 [c.ay,.u8 b]=some (note c b).ay:=by
 have f (d:Ctx):wV (af (C mx) Tryz.prog 97 Tryz.f97) d.st d.el d.en d.at' d.qu d.pa d.su d.es d.da d.nm 0 0 false 0 0 0 0 false 0 []=some d.ay:=by
  apply Pw
  rfl
 have f4:CS (af (C mx) Tryz.prog 97 Tryz.f97) b c.st c.el c.en c.at' c.qu c.pa c.su c.es c.da c.nm 0 0 false 0 0 0 0 false 0 []=some (if b == 62 then bG 0 else if b == 45 && c.st == 11 then bG 12 else if b == 45 then bG 13 else bG 16:Ctx).ay:=by
  apply Ss
  simp only [MT,aN,Option.bind_some,aA,ai,aT]
  rfl
 have f13:wU (af (C mx) Tryz.prog 97 Tryz.f97) b c.st c.el c.en c.at' c.qu c.pa c.su c.es c.da c.nm 0 0 false 0 0 0 0 false 0 []=some (if b == 62 then bg else if b == 45 && c.st == 13 then bG 14 else if b == 45 then ⟨15,0,false,0,0,0,0,false,2,[]⟩ else bG 15:Ctx).ay:=by
  apply Pu
  simp only [Hq,aN,Option.bind_some,aA,ai,aT]
  rfl
 have hm:(aH .add (.u8 c.da) (.u8 1)).bind (fun v3=>(mm true v3 (.u8 2)).bind fun v4=>(AV.one v4).bind fun v5=>some (AV.ag [.u8 15,.u8 0,.b false,.u8 0,.u8 0,.u8 0,.u8 0,.b false,v5,.s []]))=some (Ctx.ay ⟨15,0,false,0,0,0,0,false,(if decide (2 < c.da+1) then 2 else c.da+1),[]⟩):=by
  rw [AE]
  simp only [Option.bind_some,RH,eK,aC,decide_eq_true_eq]
 have f20:A9 (af (C mx) Tryz.prog 97 Tryz.f97) b c.st c.st c.el c.en c.at' c.qu c.pa c.su c.es c.da c.nm 0 0 false 0 0 0 0 false 0 [] =
   some (if c.st == 15 then (if b == 62 && c.da == 2 then bG 0 else if b == 33 && c.da == 2 then bg else if b == 45 then ⟨15,0,false,0,0,0,0,false,(if decide (2 < c.da+1) then 2 else c.da+1),[]⟩ else bG 15)
 else if c.st == 16 then (if b == 62 then bG 0 else c) else c:Ctx).ay:=by
  apply Pv
  simp only [Hr,aN,Option.bind_some,aA,ai,aT]
  rw [hm,f c]
  rfl
 have f11:A8 (af (C mx) Tryz.prog 97 Tryz.f97) b c.st c.st c.el c.en c.at' c.qu c.pa c.su c.es c.da c.nm 0 0 false 0 0 0 0 false 0 [] =
   some (if c.st == 13 || c.st == 14 then (if b == 62 then bg else if b == 45 && c.st == 13 then bG 14 else if b == 45 then ⟨15,0,false,0,0,0,0,false,2,[]⟩ else bG 15)
 else if c.st == 15 then (if b == 62 && c.da == 2 then bG 0 else if b == 33 && c.da == 2 then bg else if b == 45 then ⟨15,0,false,0,0,0,0,false,(if decide (2 < c.da+1) then 2 else c.da+1),[]⟩ else bG 15)
 else if c.st == 16 then (if b == 62 then bG 0 else c) else c:Ctx).ay:=by
  apply Pt
  simp only [Hp,aN,Option.bind_some,aA,ai,f13,f20]
  cases (c.st == 13) <;> cases (c.st == 14) <;> rfl
 apply c97
 simp only [Y4,aN,Option.bind_some,aA,ai,f4,f11,note]
 cases (c.st == 11) <;> cases (c.st == 12) <;> rfl
theorem WQ (feed:Bool):∀ (n:Nat) (c d:Ctx),c.nm.length < 1000→again n c b feed=some d→zw (af (C mx) Tryz.prog 75 Tryz.f75) b feed (.u8 c.st) (.u8 c.el) (.b c.en) (.u8 c.at') (.u8 c.qu) (.u8 c.pa) (.u8 c.su) (.b c.es) (.u8 c.da) (.s c.nm) 0 0 false 0 0 0 0 false 0 []=some d.ay
 | 0,c,d,hn,h=>by cases h
 | n+1,c,d,hn,h=>by
  have f32 (d:Ctx):wR (af (C mx) Tryz.prog 75 Tryz.f75) (.u8 d.st) (.u8 d.el) (.b d.en) (.u8 d.at') (.u8 d.qu) (.u8 d.pa) (.u8 d.su) (.b d.es) (.u8 d.da) (.s d.nm) 0 0 false 0 0 0 0 false 0 []=some d.ay:=by
   apply Ph
   rfl
  have f31:sQ (af (C mx) Tryz.prog 75 Tryz.f75) b feed (.u8 c.st) (.u8 c.el) (.b c.en) (.u8 c.at') (.u8 c.qu) (.u8 c.pa) (.u8 c.su) (.b c.es) (.u8 c.da) (.s c.nm) 0 0 false 0 0 0 0 false 0 []=some (raw c b feed).ay:=by
   apply Pm
   simp only [Hl,aC,aJ,s96 (h:=hn),Option.bind_some,ax,zT]
  have f4:Hi (af (C mx) Tryz.prog 75 Tryz.f75) b (.u8 c.st) (.u8 c.el) (.b c.en) (.u8 c.at') (.u8 c.qu) (.u8 c.pa) (.u8 c.su) (.b c.es) (.u8 c.da) (.s c.nm) 0 0 false 0 0 0 0 false 0 []=some (note c b).ay:=by
   apply Sq
   simp only [MR,aC,aJ,s97,Option.bind_some,ax,zT]
  have f26:A7 (af (C mx) Tryz.prog 75 Tryz.f75) b feed (.u8 c.st) (.u8 c.st) (.u8 c.el) (.b c.en) (.u8 c.at') (.u8 c.qu) (.u8 c.pa) (.u8 c.su) (.b c.es) (.u8 c.da) (.s c.nm) 0 0 false 0 0 0 0 false 0 []=some (if c.st == 8 then value c b else if c.st == 17 || c.st == 18 || c.st == 19 then raw c b feed else note c b:Ctx).ay:=by
   apply Pk
   simp only [Hk,cI,aC,aJ,s95,f31,f4,Option.bind_some,ai,ax,zT]
   cases (c.st == 8) <;> cases (c.st == 17) <;> cases (c.st == 18) <;> cases (c.st == 19) <;> rfl
  have f22 (hh:(if (tag c b).2 then again n (tag c b).1 b feed else some (tag c b).1)=some d):jI (af (C mx) Tryz.prog 75 Tryz.f75) b feed (.u8 c.st) (.u8 c.el) (.b c.en) (.u8 c.at') (.u8 c.qu) (.u8 c.pa) (.u8 c.su) (.b c.es) (.u8 c.da) (.s c.nm) 0 0 false 0 0 0 0 false 0 []=some d.ay:=by
   apply Pj
   simp only [Hj,aC,aJ,Y5,Kt,Ku,Option.bind_some,ai,ax,zT]
   cases ht:(tag c b).2 with
   | true =>
    rw [ht,if_pos rfl] at hh
    rw [if_pos rfl]
    exact WQ feed n _ d (Nat.lt_of_le_of_lt (OA c b ht) hn) hh
   | false =>
    rw [ht,if_neg (by simp)] at hh
    rw [if_neg (by simp)]
    cases hh;rfl
  apply Sn
  unfold again at h
  simp only [MQ,cI,aN,aC,aJ,s92,s93,Kt,Ku,Option.bind_some,ai,ax,zT]
  cases h0:(c.st == 0) with
  | true =>
   rw [h0,if_pos rfl] at h
   rw [if_pos rfl,f32 c,f32 { c with st:=1 }]
   split <;> rename_i hb
   ·rw [if_pos hb] at h;cases h;rfl
   ·rw [if_neg hb] at h;cases h;rfl
  | false =>
  rw [h0,if_neg (by simp)] at h
  rw [if_neg (by simp)]
  cases h1:(c.st == 1) with
  | true =>
   rw [h1,if_pos rfl] at h
   rw [if_pos rfl]
   split <;> rename_i hb
   ·rw [if_pos hb] at h;cases h;rfl
   ·rw [if_neg hb] at h
    exact WQ feed n { c with st:=0 } d hn h
  | false =>
  rw [h1,if_neg (by simp)] at h
  rw [if_neg (by simp)]
  cases h2:(c.st == 2) with
  | true =>
   rw [h2,if_pos rfl] at h
   rw [if_pos rfl]
   cases h;rfl
  | false =>
  rw [h2,if_neg (by simp)] at h
  rw [if_neg (by simp)]
  cases hT:QI c.st with
  | true =>
   rw [hT,if_pos rfl] at h
   rw [f22 h]
   unfold QI at hT
   cases h3:(c.st == 3) <;> cases h4:(c.st == 4) <;> cases h5:(c.st == 5) <;> cases h6:(c.st == 6) <;> cases h7:(c.st == 7) <;> cases h9:(c.st == 9) <;> cases h10:(c.st == 10) <;> first | rfl | (rw [h3,h4,h5,h6,h7,h9,h10] at hT;cases hT)
  | false =>
   rw [hT,if_neg (by simp)] at h
   unfold QI at hT
   simp only [Bool.or_eq_false_iff] at hT
   obtain ⟨⟨⟨⟨⟨⟨h3,h4⟩,h5⟩,h6⟩,h7⟩,h9⟩,h10⟩:=hT
   rw [h3,h4,h5,h6,h7,h9,h10,f26]
   simp only [Bool.false_eq_true,if_false]
   cases h8:(c.st == 8) <;> cases Sm:(c.st == 17) <;> cases RT:(c.st == 18) <;> cases Jj:(c.st == 19) <;> (rw [h8,Sm,RT,Jj] at h;cases h;rfl)
end
def Y6 (a b:UInt8) (d:Bool) (e f g i:UInt8) (j:Bool) (k:UInt8) (l:List UInt8) (m:UInt8) (c:aq) (r:RunT):Option AV :=
 (c 75 [.ag [.u8 a,.u8 b,.b d,.u8 e,.u8 f,.u8 g,.u8 i,.b j,.u8 k,.s l],.u8 m,.b true]).bind fun n=>(AV.aI 10 n).bind fun o=>some (.ag [gt o 0,gt o 1,gt o 2,gt o 3,gt o 4,gt o 5,gt o 6,gt o 7,gt o 8,gt o 9])
theorem c62 (a b d e f g i j k l m) {r:AV} (h:Y6 a b d e f g i j k l m (ae (C mx) Tryz.prog) (af (C mx) Tryz.prog 62 Tryz.f62)=some r):ae (C mx) Tryz.prog 62 [.ag [.u8 a,.u8 b,.b d,.u8 e,.u8 f,.u8 g,.u8 i,.b j,.u8 k,.s l],.u8 m]=some r :=
 aj (fun _ _=>by kernel_rfl) h
def X67  (c:aq) (r:RunT):Option AV :=
 some (.ag [.u8 20,.u8 0,.b false,.u8 0,.u8 0,.u8 0,.u8 0,.b false,.u8 0,.s []])
theorem c67 {r:AV} (h:X67  (ae (C mx) Tryz.prog) (af (C mx) Tryz.prog 67 Tryz.f67)=some r):ae (C mx) Tryz.prog 67 []=some r :=
 aj (fun _ _=>by kernel_rfl) h
def Y7 (a:Int) (c:aq) (r:RunT):Option AV :=
 (conv .u8 (.int a)).bind fun b=>(AV.one b).bind fun d=>some (.ag [d,.u8 0,.b false,.u8 0,.u8 0,.u8 0,.u8 0,.b false,.u8 0,.s []])
theorem c98 a {r:AV} (h:Y7 a (ae (C mx) Tryz.prog) (af (C mx) Tryz.prog 98 Tryz.f98)=some r):ae (C mx) Tryz.prog 98 [.int a]=some r :=
 aj (fun _ _=>by kernel_rfl) h
def Y8 (a:UInt8) (c:aq) (r:RunT):Option AV :=
 (az (.b (Ko a 97)) true (some (.b (ule a 122))) (.b false)).bind fun b=>(az b false ((az (.b (Ko a 65)) true (some (.b (ule a 90))) (.b false)).bind fun d=>some d) (.b true)).bind fun e=>some e
theorem c99 a {r:AV} (h:Y8 a (ae (C mx) Tryz.prog) (af (C mx) Tryz.prog 99 Tryz.f99)=some r):ae (C mx) Tryz.prog 99 [.u8 a]=some r :=
 aj (fun _ _=>by kernel_rfl) h
def wY (run:RunT) (a:AV):Option AV :=
 run ((bP 3 ((Tryz.f100.body).getD .skip) []).getD []) (St.bX [(0,.cell (.val a))] [])
def SQ (a:UInt8) (c:aq) (r:RunT):Option AV :=
 (az (.b (Ko a 65)) true (some (.b (ule a 90))) (.b false)).bind fun b=>ah b
 ((aH .add (.u8 a) (.u8 32)).bind fun d=>wY r d)
 (wY r (.u8 a))
theorem WS a {r:AV} (h:SQ a (ae (C mx) Tryz.prog) (af (C mx) Tryz.prog 100 Tryz.f100)=some r):ae (C mx) Tryz.prog 100 [.u8 a]=some r :=
 aj (fun _ _=>by kernel_rfl) h
def Hx (a:AV) (c:aq) (r:RunT):Option AV :=
 (AV.one a).bind fun b=>(B2 (.ro 1 (([b]:List AV)))).bind fun d=>some d
theorem PB a {r:AV} (h:Hx a (ae (C mx) Tryz.prog) (af (C mx) Tryz.prog 100 Tryz.f100)=some r):wY (af (C mx) Tryz.prog 100 Tryz.f100) a=some r :=
 ak (fun _ _=>by kernel_rfl) h
def WT (a:UInt8) (c:aq) (r:RunT):Option AV :=
 (az (.b (aO a 32)) false (some (.b (aO a 9))) (.b true)).bind fun b=>(az b false (some (.b (aO a 10))) (.b true)).bind fun d=>(az d false (some (.b (aO a 12))) (.b true)).bind fun e=>(az e false (some (.b (aO a 13))) (.b true)).bind fun f=>some f
theorem WU a {r:AV} (h:WT a (ae (C mx) Tryz.prog) (af (C mx) Tryz.prog 101 Tryz.f101)=some r):ae (C mx) Tryz.prog 101 [.u8 a]=some r :=
 aj (fun _ _=>by kernel_rfl) h
def SR (a b:UInt8) (d:Bool) (e f g i:UInt8) (j:Bool) (k:UInt8) (l:List UInt8) (m:UInt8) (c:aq) (r:RunT):Option AV :=
 ah (.b (decide (((l.length:Int)) ≥ 32)))
 ((c 67 []).bind fun n=>(AV.aI 10 n).bind fun o=>some (.ag [gt o 0,gt o 1,gt o 2,gt o 3,gt o 4,gt o 5,gt o 6,gt o 7,gt o 8,gt o 9]))
 ((c 100 [.u8 m]).bind fun p=>(cy .add (.s l) p).bind fun q=>(AV.one q).bind fun s=>some (.ag [.u8 a,.u8 b,.b d,.u8 e,.u8 f,.u8 g,.u8 i,.b j,.u8 k,s]))
theorem WV (a b d e f g i j k l m) {r:AV} (h:SR a b d e f g i j k l m (ae (C mx) Tryz.prog) (af (C mx) Tryz.prog 103 Tryz.f103)=some r):ae (C mx) Tryz.prog 103 [.ag [.u8 a,.u8 b,.b d,.u8 e,.u8 f,.u8 g,.u8 i,.b j,.u8 k,.s l],.u8 m]=some r :=
 aj (fun _ _=>by kernel_rfl) h
def SS (a b:UInt8) (d:Bool) (e f g i:UInt8) (j:Bool) (k:UInt8) (l:List UInt8) (c:aq) (r:RunT):Option AV :=
 ah (.b (aO b 0))
 ((c 98 [.int 0]).bind fun m=>(AV.aI 10 m).bind fun n=>some (.ag [gt n 0,gt n 1,gt n 2,gt n 3,gt n 4,gt n 5,gt n 6,gt n 7,gt n 8,gt n 9]))
 (some (.ag [.u8 17,.u8 b,.b false,.u8 0,.u8 0,.u8 0,.u8 0,.b false,.u8 0,.s []]))
theorem WW (a b d e f g i j k l) {r:AV} (h:SS a b d e f g i j k l (ae (C mx) Tryz.prog) (af (C mx) Tryz.prog 104 Tryz.f104)=some r):ae (C mx) Tryz.prog 104 [.ag [.u8 a,.u8 b,.b d,.u8 e,.u8 f,.u8 g,.u8 i,.b j,.u8 k,.s l]]=some r :=
 aj (fun _ _=>by kernel_rfl) h
def CX:Code:=(Tryz.f131.body).getD .skip
def qT (run:RunT) (a b:UInt8) (d:Bool) (e f g i:UInt8) (j:Bool) (k:UInt8) (l:List UInt8) (m n:UInt8) (o:Bool) (p q s t:UInt8) (u:Bool) (w:UInt8) (x:List UInt8):Option AV :=
 run ((bP 21 CX []).getD []) (St.bX [(4,.cell (.ptr 4 0)),(5,.cell (.ptr 5 0))] [(4,some (cT a b d e f g i j k l)),(5,some (cT m n o p q s t u w x))])
def qU (run:RunT) (a b:UInt8) (d:Bool) (e f g i:UInt8) (j:Bool) (k:UInt8) (l:AV) (m n:UInt8) (o:Bool) (p q s t:UInt8) (u:Bool) (w:UInt8) (x:List UInt8):Option AV :=
 run ((bP 27 CX []).getD []) (St.bX [(2,.cell (.ptr 2 0)),(4,.cell (.ptr 4 0))] [(2,some [.val (.u8 a),.val (.u8 b),.val (.b d),.val (.u8 e),.val (.u8 f),.val (.u8 g),.val (.u8 i),.val (.b j),.val (.u8 k),.val (l)]),(4,some (cT m n o p q s t u w x))])
def SU (a b:UInt8) (d:Bool) (e f g i:UInt8) (j:Bool) (k:UInt8) (l:List UInt8) (m:UInt8) (c:aq) (r:RunT):Option AV :=
 ah (.b (Ko g 4))
 (some (.ag [.u8 a,.u8 b,.b d,.u8 e,.u8 f,.u8 g,.u8 i,.b j,.u8 k,.s l]))
 (ah (.b (aO m 38))
 ((c 67 []).bind fun n=>(AV.aI 10 n).bind fun o=>some (.ag [gt o 0,gt o 1,gt o 2,gt o 3,gt o 4,gt o 5,gt o 6,gt o 7,gt o 8,gt o 9]))
 ((az (.b (aO m 63)) false (some (.b (aO m 35))) (.b true)).bind fun p=>ah p
 (some (.ag [.u8 a,.u8 b,.b d,.u8 e,.u8 f,.u8 4,.u8 i,.b j,.u8 k,.s []]))
 (ah (.b (aO g 3))
 (some (.ag [.u8 a,.u8 b,.b d,.u8 e,.u8 f,.u8 g,.u8 i,.b j,.u8 k,.s l]))
 (ah (.b (aO m 47))
 (some (.ag [.u8 a,.u8 b,.b d,.u8 e,.u8 f,.u8 3,.u8 i,.b j,.u8 k,.s []]))
 (ah (.b (aO m 58))
 (ah (.b (aO g 2))
 ((c 67 []).bind fun q=>(AV.aI 10 q).bind fun s=>some (.ag [gt s 0,gt s 1,gt s 2,gt s 3,gt s 4,gt s 5,gt s 6,gt s 7,gt s 8,gt s 9]))
 ((az (.b (l == [104,116,116,112])) false (some (.b (l == [104,116,116,112,115]))) (.b true)).bind fun t=>(az t false (some (.b (l == [109,97,105,108,116,111]))) (.b true)).bind fun u=>ah u
 (qT r 0 0 false 0 0 0 0 false 0 [] a b d e f 3 i j k [])
 (qT r 0 0 false 0 0 0 0 false 0 [] a b d e f 5 i j k [])))
 (ah (.b (aO g 2))
 (some (.ag [.u8 a,.u8 b,.b d,.u8 e,.u8 f,.u8 g,.u8 i,.b j,.u8 k,.s l]))
 (ah (.b (decide (((l.length:Int)) < 16)))
 ((c 100 [.u8 m]).bind fun w=>(cy .add (.s l) w).bind fun x=>(AV.one x).bind fun y=>qU r a b d e f 1 i j k y 0 0 false 0 0 0 0 false 0 [])
 (qU r a b d e f 1 i j k (.s l) 0 0 false 0 0 0 0 false 0 []))))))))
theorem WX (a b d e f g i j k l m) {r:AV} (h:SU a b d e f g i j k l m (ae (C mx) Tryz.prog) (af (C mx) Tryz.prog 131 Tryz.f131)=some r):ae (C mx) Tryz.prog 131 [.ag [.u8 a,.u8 b,.b d,.u8 e,.u8 f,.u8 g,.u8 i,.b j,.u8 k,.s l],.u8 m]=some r :=
 aj (fun _ _=>by kernel_rfl) h
def K5 (a b:UInt8) (d:Bool) (e f g i:UInt8) (j:Bool) (k:UInt8) (l:List UInt8) (m n:UInt8) (o:Bool) (p q s t:UInt8) (u:Bool) (w:UInt8) (x:List UInt8) (c:aq) (r:RunT):Option AV :=
 some (.ag [.u8 m,.u8 n,.b o,.u8 p,.u8 q,.u8 s,.u8 t,.b u,.u8 w,.s x])
def K6 (a b:UInt8) (d:Bool) (e f g i:UInt8) (j:Bool) (k:UInt8) (l:AV) (m n:UInt8) (o:Bool) (p q s t:UInt8) (u:Bool) (w:UInt8) (x:List UInt8) (c:aq) (r:RunT):Option AV :=
 some (.ag [.u8 a,.u8 b,.b d,.u8 e,.u8 f,.u8 g,.u8 i,.b j,.u8 k,l])
theorem K7 (a b d e f g i j k l m n o p q s t u w x) {r:AV} (h:K5 a b d e f g i j k l m n o p q s t u w x (ae (C mx) Tryz.prog) (af (C mx) Tryz.prog 131 Tryz.f131)=some r):qT (af (C mx) Tryz.prog 131 Tryz.f131) a b d e f g i j k l m n o p q s t u w x=some r :=
 ak (fun _ _=>by kernel_rfl) h
theorem K8 (a b d e f g i j k l m n o p q s t u w x) {r:AV} (h:K6 a b d e f g i j k l m n o p q s t u w x (ae (C mx) Tryz.prog) (af (C mx) Tryz.prog 131 Tryz.f131)=some r):qU (af (C mx) Tryz.prog 131 Tryz.f131) a b d e f g i j k l m n o p q s t u w x=some r :=
 ak (fun _ _=>by kernel_rfl) h
def lB:Code:=(Tryz.f132.body).getD .skip
def wZ (run:RunT) (a b d:UInt8) (e:Bool) (f g i j:UInt8) (k:Bool) (l:UInt8) (m:List UInt8) (n o:UInt8) (p:Bool) (q s t u:UInt8) (w:Bool) (x:UInt8) (y:List UInt8):Option AV :=
 run ((bP 8 lB []).getD []) (St.bX [(1,.cell (.val (.u8 a))),(3,.cell (.ptr 3 0)),(6,.cell (.ptr 6 0))] [(3,some (cT b d e f g i j k l m)),(6,some (cT n o p q s t u w x y))])
def qV (run:RunT) (a:UInt8) (b:Int) (d e:UInt8) (f:Bool) (g i j k:UInt8) (l:Bool) (m:UInt8) (n:List UInt8) (o p:UInt8) (q:Bool) (s t u w:UInt8) (x:Bool) (y:UInt8) (z:List UInt8):Option AV :=
 run ((bP 14 lB []).getD []) (St.bX [(1,.cell (.val (.u8 a))),(3,.cell (.ptr 3 0)),(6,.cell (.ptr 6 0)),(7,.cell (.val (.int b)))] [(3,some (cT d e f g i j k l m n)),(6,some (cT o p q s t u w x y z))])
def xa (run:RunT) (a:UInt8) (b:Bool) (d:Int) (e f:UInt8) (g:Bool) (i j k l:UInt8) (m:Bool) (n:UInt8) (o:List UInt8) (p q:UInt8) (s:Bool) (t u w x:UInt8) (y:Bool) (z:UInt8) (A:List UInt8):Option AV :=
 run ((bP 23 lB []).getD []) (St.bX [(1,.cell (.val (.u8 a))),(2,.cell (.val (.b b))),(3,.cell (.ptr 3 0)),(6,.cell (.ptr 6 0)),(11,.cell (.val (.int d)))] [(3,some (cT e f g i j k l m n o)),(6,some (cT p q s t u w x y z A))])
def qW (run:RunT) (a b d:UInt8) (e:Bool) (f g i j:UInt8) (k:Bool) (l:UInt8) (m:List UInt8) (n o:UInt8) (p:Bool) (q s t u:UInt8) (w:Bool) (x:UInt8) (y:List UInt8):Option AV :=
 run ((bP 10 lB []).getD []) (St.bX [(1,.cell (.val (.u8 a))),(3,.cell (.ptr 3 0)),(6,.cell (.ptr 6 0))] [(3,some (cT b d e f g i j k l m)),(6,some (cT n o p q s t u w x y))])
def qX (run:RunT) (a:UInt8) (b:Int) (d e:UInt8) (f:Bool) (g i j k:UInt8) (l:Bool) (m:UInt8) (n:List UInt8) (o p:UInt8) (q:Bool) (s t u w:UInt8) (x:Bool) (y:UInt8) (z:List UInt8):Option AV :=
 run ((bP 19 lB []).getD []) (St.bX [(1,.cell (.val (.u8 a))),(3,.cell (.ptr 3 0)),(6,.cell (.ptr 6 0)),(7,.cell (.val (.int b)))] [(3,some (cT d e f g i j k l m n)),(6,some (cT o p q s t u w x y z))])
def dJ (run:RunT) (a b:UInt8) (d:Bool) (e f g i:UInt8) (j:Bool) (k:UInt8) (l:List UInt8) (m n:UInt8) (o:Bool) (p q s t:UInt8) (u:Bool) (w:UInt8) (x:List UInt8):Option AV :=
 run ((bP 45 lB []).getD []) (St.bX [(3,.cell (.ptr 3 0)),(6,.cell (.ptr 6 0))] [(3,some (cT a b d e f g i j k l)),(6,some (cT m n o p q s t u w x))])
def PC (a b:UInt8) (d:Bool) (e f g i:UInt8) (j:Bool) (k:UInt8) (l:List UInt8) (m:UInt8) (n:Bool) (c:aq) (r:RunT):Option AV :=
 ah (.b ((bN (i.toNat:Int)) == 0))
 ((az (.b n) true (some (.b (aO m 96))) (.b false)).bind fun o=>(az o false ((az (.b (!n)) true ((az (.b (aO m 40)) false (some (.b (aO m 92))) (.b true)).bind fun p=>some p) (.b false)).bind fun q=>some q) (.b true)).bind fun s=>ah s
 ((c 67 []).bind fun t=>(AV.aI 10 t).bind fun u=>some (.ag [gt u 0,gt u 1,gt u 2,gt u 3,gt u 4,gt u 5,gt u 6,gt u 7,gt u 8,gt u 9]))
 (ah (.b (aO m 34))
 (wZ r m a b d e f g 1 j k l 0 0 false 0 0 0 0 false 0 [])
 (wZ r m a b d e f g i j k l 0 0 false 0 0 0 0 false 0 [])))
 (ah (.b ((bN (i.toNat:Int)) == 1))
 (qV r m (bN (i.toNat:Int)) a b d e f g i j k l 0 0 false 0 0 0 0 false 0 [])
 (ah (.b ((bN (i.toNat:Int)) == 2))
 (qV r m (bN (i.toNat:Int)) a b d e f g i j k l 0 0 false 0 0 0 0 false 0 [])
 (xa r m n (bN (i.toNat:Int)) a b d e f g i j k l 0 0 false 0 0 0 0 false 0 [])))
theorem SV (a b d e f g i j k l m n) {r:AV} (h:PC a b d e f g i j k l m n (ae (C mx) Tryz.prog) (af (C mx) Tryz.prog 132 Tryz.f132)=some r):ae (C mx) Tryz.prog 132 [.ag [.u8 a,.u8 b,.b d,.u8 e,.u8 f,.u8 g,.u8 i,.b j,.u8 k,.s l],.u8 m,.b n]=some r :=
 aj (fun _ _=>by kernel_rfl) h
def Hy (a b d:UInt8) (e:Bool) (f g i j:UInt8) (k:Bool) (l:UInt8) (m:List UInt8) (n o:UInt8) (p:Bool) (q s t u:UInt8) (w:Bool) (x:UInt8) (y:List UInt8) (c:aq) (r:RunT):Option AV :=
 ah (.b (aO a 39))
 (qW r a b d e f g i 2 k l m n o p q s t u w x y)
 (qW r a b d e f g i j k l m n o p q s t u w x y)
def CY (a:UInt8) (b:Int) (d e:UInt8) (f:Bool) (g i j k:UInt8) (l:Bool) (m:UInt8) (n:List UInt8) (o p:UInt8) (q:Bool) (s t u w:UInt8) (x:Bool) (y:UInt8) (z:List UInt8) (c:aq) (r:RunT):Option AV :=
 ah (.b l)
 (some (.ag [.u8 d,.u8 e,.b f,.u8 g,.u8 i,.u8 j,.u8 k,.b false,.u8 m,.s n]))
 (ah (.b (aO a 92))
 (qX r a b d e f g i j k true m n o p q s t u w x y z)
 (qX r a b d e f g i j k l m n o p q s t u w x y z))
def CZ (a:UInt8) (b:Bool) (d:Int) (e f:UInt8) (g:Bool) (i j k l:UInt8) (m:Bool) (n:UInt8) (o:List UInt8) (p q:UInt8) (s:Bool) (t u w x:UInt8) (y:Bool) (z:UInt8) (A:List UInt8) (c:aq) (r:RunT):Option AV :=
 ah (.b (d == 3))
 (ah (.b (aO a 42))
 (some (.ag [.u8 e,.u8 f,.b g,.u8 i,.u8 j,.u8 k,.u8 5,.b m,.u8 n,.s o]))
 ((az (.b b) true (some (.b (aO a 47))) (.b false)).bind fun B=>ah B
 (some (.ag [.u8 e,.u8 f,.b g,.u8 i,.u8 j,.u8 k,.u8 4,.b m,.u8 n,.s o]))
 (ah (.b b)
 ((c 67 []).bind fun D=>(AV.aI 10 D).bind fun E=>some (.ag [gt E 0,gt E 1,gt E 2,gt E 3,gt E 4,gt E 5,gt E 6,gt E 7,gt E 8,gt E 9]))
 ((c 132 [.ag [.u8 e,.u8 f,.b g,.u8 i,.u8 j,.u8 k,.u8 0,.b m,.u8 n,.s o],.u8 a,.b b]).bind fun G=>(AV.aI 10 G).bind fun H=>some (.ag [gt H 0,gt H 1,gt H 2,gt H 3,gt H 4,gt H 5,gt H 6,gt H 7,gt H 8,gt H 9])))))
 (ah (.b (d == 4))
 ((az (.b (aO a 10)) false (some (.b (aO a 13))) (.b true)).bind fun I=>ah I
 (dJ r e f g i j k 0 m n o p q s t u w x y z A)
 (dJ r e f g i j k l m n o p q s t u w x y z A))
 (ah (.b (d == 5))
 (ah (.b (aO a 42))
 (dJ r e f g i j k 6 m n o p q s t u w x y z A)
 (dJ r e f g i j k l m n o p q s t u w x y z A))
 (ah (.b (d == 6))
 (ah (.b (aO a 47))
 (dJ r e f g i j k 0 m n o p q s t u w x y z A)
 (ah (.b (nN a 42))
 (dJ r e f g i j k 5 m n o p q s t u w x y z A)
 (dJ r e f g i j k l m n o p q s t u w x y z A)))
 (dJ r e f g i j k l m n o p q s t u w x y z A))))
def C1 (a b d:UInt8) (e:Bool) (f g i j:UInt8) (k:Bool) (l:UInt8) (m:List UInt8) (n o:UInt8) (p:Bool) (q s t u:UInt8) (w:Bool) (x:UInt8) (y:List UInt8) (c:aq) (r:RunT):Option AV :=
 ah (.b (aO a 47))
 (dJ r b d e f g i 3 k l m n o p q s t u w x y)
 (dJ r b d e f g i j k l m n o p q s t u w x y)
def C2 (a:UInt8) (b:Int) (d e:UInt8) (f:Bool) (g i j k:UInt8) (l:Bool) (m:UInt8) (n:List UInt8) (o p:UInt8) (q:Bool) (s t u w:UInt8) (x:Bool) (y:UInt8) (z:List UInt8) (c:aq) (r:RunT):Option AV :=
 (az (.b (aO a 10)) false (some (.b (aO a 13))) (.b true)).bind fun A=>ah A
 ((c 67 []).bind fun B=>(AV.aI 10 B).bind fun D=>some (.ag [gt D 0,gt D 1,gt D 2,gt D 3,gt D 4,gt D 5,gt D 6,gt D 7,gt D 8,gt D 9]))
 ((az (.b (b == 1)) true (some (.b (aO a 34))) (.b false)).bind fun E=>(az E false ((az (.b (b == 2)) true (some (.b (aO a 39))) (.b false)).bind fun G=>some G) (.b true)).bind fun H=>ah H
 (dJ r d e f g i j 0 l m n o p q s t u w x y z)
 (dJ r d e f g i j k l m n o p q s t u w x y z))
def K9 (a b:UInt8) (d:Bool) (e f g i:UInt8) (j:Bool) (k:UInt8) (l:List UInt8) (m n:UInt8) (o:Bool) (p q s t:UInt8) (u:Bool) (w:UInt8) (x:List UInt8) (c:aq) (r:RunT):Option AV :=
 some (.ag [.u8 a,.u8 b,.b d,.u8 e,.u8 f,.u8 g,.u8 i,.b j,.u8 k,.s l])
theorem PD (a b d e f g i j k l m n o p q s t u w x y) {r:AV} (h:Hy a b d e f g i j k l m n o p q s t u w x y (ae (C mx) Tryz.prog) (af (C mx) Tryz.prog 132 Tryz.f132)=some r):wZ (af (C mx) Tryz.prog 132 Tryz.f132) a b d e f g i j k l m n o p q s t u w x y=some r :=
 ak (fun _ _=>by kernel_rfl) h
theorem La (a b d e f g i j k l m n o p q s t u w x y z) {r:AV} (h:CY a b d e f g i j k l m n o p q s t u w x y z (ae (C mx) Tryz.prog) (af (C mx) Tryz.prog 132 Tryz.f132)=some r):qV (af (C mx) Tryz.prog 132 Tryz.f132) a b d e f g i j k l m n o p q s t u w x y z=some r :=
 ak (fun _ _=>by kernel_rfl) h
theorem Lb (a b d e f g i j k l m n o p q s t u w x y z A) {r:AV} (h:CZ a b d e f g i j k l m n o p q s t u w x y z A (ae (C mx) Tryz.prog) (af (C mx) Tryz.prog 132 Tryz.f132)=some r):xa (af (C mx) Tryz.prog 132 Tryz.f132) a b d e f g i j k l m n o p q s t u w x y z A=some r :=
 ak (fun _ _=>by kernel_rfl) h
theorem Lc (a b d e f g i j k l m n o p q s t u w x y) {r:AV} (h:C1 a b d e f g i j k l m n o p q s t u w x y (ae (C mx) Tryz.prog) (af (C mx) Tryz.prog 132 Tryz.f132)=some r):qW (af (C mx) Tryz.prog 132 Tryz.f132) a b d e f g i j k l m n o p q s t u w x y=some r :=
 ak (fun _ _=>by kernel_rfl) h
theorem Ld (a b d e f g i j k l m n o p q s t u w x y z) {r:AV} (h:C2 a b d e f g i j k l m n o p q s t u w x y z (ae (C mx) Tryz.prog) (af (C mx) Tryz.prog 132 Tryz.f132)=some r):qX (af (C mx) Tryz.prog 132 Tryz.f132) a b d e f g i j k l m n o p q s t u w x y z=some r :=
 ak (fun _ _=>by kernel_rfl) h
theorem Le (a b d e f g i j k l m n o p q s t u w x) {r:AV} (h:K9 a b d e f g i j k l m n o p q s t u w x (ae (C mx) Tryz.prog) (af (C mx) Tryz.prog 132 Tryz.f132)=some r):dJ (af (C mx) Tryz.prog 132 Tryz.f132) a b d e f g i j k l m n o p q s t u w x=some r :=
 ak (fun _ _=>by kernel_rfl) h
theorem s75 (c:Ctx) (b:UInt8) (feed:Bool) (h:c.nm.length < 9223372036854775808):ae (C mx) Tryz.prog 75 [c.ay,.u8 b,.b feed]=some (mv c b feed).ay:=by
 apply ur
 simp only [YX,aC,aJ,Ht (h:=h),Option.bind_some,bq,ai]
 cases hf:form c with
 | true =>
  rw [if_neg (by simp)]
  exact WQ b feed 4 c _ (by have:=wE c hf;omega) (wD c b feed hf)
 | false =>
  rw [if_pos (by simp),AP c b feed hf];rfl
theorem s62 (c:Ctx) (b:UInt8) (h:c.nm.length < 9223372036854775808):ae (C mx) Tryz.prog 62 [c.ay,.u8 b]=some (jX c b).ay:=by
 apply c62
 simp only [Y6,aC,aJ,s75 (h:=h),Option.bind_some,ax,zT]
 rfl
section
variable (c:Ctx) (b:UInt8)
theorem xb:ae (C mx) Tryz.prog 67 []=some bg.ay:=by
 apply c67
 rfl
theorem Fi (x:UInt8):ae (C mx) Tryz.prog 98 [.int (x.toNat:Int)]=some (bG x).ay:=by
 apply c98
 simp only [Y7,oT,Option.bind_some,eK]
 rfl
theorem Y9:ae (C mx) Tryz.prog 99 [.u8 b]=some (.b (letter b)):=by
 apply c99
 simp only [Y8,cY,dt,Option.bind_some,aA,aM,letter]
theorem Bc:ae (C mx) Tryz.prog 101 [.u8 b]=some (.b (bm b)):=by
 apply WU
 refine Ov ?_
 revert b
 exact fD (by kernel_rfl)
theorem Hz:ae (C mx) Tryz.prog 100 [.u8 b]=some (.s [eR b]):=by
 have f (x:UInt8):wY (af (C mx) Tryz.prog 100 Tryz.f100) (.u8 x)=some (.s [x]):=by
  apply PB
  simp only [Hx,eK,iI,Option.bind_some]
 apply WS
 simp only [SQ,cY,dt,Option.bind_some,aA,ai,AE,f,eR]
 split <;> rfl
theorem PE:ae (C mx) Tryz.prog 103 [c.ay,.u8 b]=some (grown c b).ay:=by
 apply WV
 simp only [SR,Hz,xb,Option.bind_some,ai,grown,aT,ax,zT]
 have e:decide ((c.nm.length:Int) ≥ 32)=decide (32≤c.nm.length):=by rw [decide_eq_decide];omega
 rw [e]
 by_cases h:32≤c.nm.length
 ·rw [if_pos (by simpa using h),if_pos (by simpa using h)];rfl
 ·rw [if_neg (by simpa using h),if_neg (by simpa using h),kG (by simp;omega)];rfl
theorem PF:ae (C mx) Tryz.prog 104 [c.ay]=some (iV c.el).ay:=by
 apply WW
 have:=Fi (mx:=mx) 0
 simp only [SS,aN,ai,show ((0:UInt8).toNat:Int)=0 from rfl] at this ⊢
 simp only [this,Option.bind_some,ax,zT,Er,aT]
 rfl
theorem WY (h:c.nm.length≤100):ae (C mx) Tryz.prog 131 [c.ay,.u8 b]=some (wF c b).ay:=by
 have f (d:Ctx):qU (af (C mx) Tryz.prog 131 Tryz.f131) d.st d.el d.en d.at' d.qu d.pa d.su d.es d.da (.s d.nm) 0 0 false 0 0 0 0 false 0 []=some d.ay:=by
  apply K8
  rfl
 have g (d:Ctx):qT (af (C mx) Tryz.prog 131 Tryz.f131) 0 0 false 0 0 0 0 false 0 [] d.st d.el d.en d.at' d.qu d.pa d.su d.es d.da d.nm=some d.ay:=by
  apply K7
  rfl
 have e:decide ((c.nm.length:Int) < 16)=decide (c.nm.length < 16):=by rw [decide_eq_decide];omega
 have a1:cy .add (.s c.nm) (.s [eR b])=some (.s (c.nm ++ [eR b])):=kG (by simp;omega)
 apply WX
 simp only [SU,aN,cY,Option.bind_some,aM,aA,ai,Hz,xb,a1,e,jW,ax,zT,wF,aT]
 rw [g { c with pa:=3,nm:=[] },g { c with pa:=5,nm:=[] },f { c with pa:=1 },f { c with pa:=1,nm:=c.nm ++ [eR b] },show (c.nm == [104,116,116,112] || c.nm == [104,116,116,112,115] || c.nm == [109,97,105,108,116,111])=zf c.nm from rfl]
 rfl
theorem SX (script:Bool):ae (C mx) Tryz.prog 132 [c.ay,.u8 b,.b script]=some (code c b script).ay:=by
 have f (d:Ctx):dJ (af (C mx) Tryz.prog 132 Tryz.f132) d.st d.el d.en d.at' d.qu d.pa d.su d.es d.da d.nm 0 0 false 0 0 0 0 false 0 []=some d.ay:=by
  apply Le
  rfl
 have f10 (d:Ctx):qW (af (C mx) Tryz.prog 132 Tryz.f132) b d.st d.el d.en d.at' d.qu d.pa d.su d.es d.da d.nm 0 0 false 0 0 0 0 false 0 []=some (if b == 47 then { d with su:=3 } else d:Ctx).ay:=by
  apply Lc
  simp only [C1,aN,ai,aT]
  rw [f d,f { d with su:=3 }]
 have f8 (d:Ctx):wZ (af (C mx) Tryz.prog 132 Tryz.f132) b d.st d.el d.en d.at' d.qu d.pa d.su d.es d.da d.nm 0 0 false 0 0 0 0 false 0 []=some (if b == 39 then (if b == 47 then { d with su:=3 } else { d with su:=2 }) else (if b == 47 then { d with su:=3 } else d):Ctx).ay:=by
  apply PD
  simp only [Hy,aN,ai,aT]
  rw [f10 d,f10 { d with su:=2 }]
  simp only [aT]
 have z (d:Ctx) (hd:(d.su == 0)=true):ae (C mx) Tryz.prog 132 [d.ay,.u8 b,.b script]=some (kH d b script).ay:=by
  apply SV
  simp only [PC,gW,bT _ _ (show 0 < 256 by decide),aN,Option.bind_some,aM,aA,ai,xb,ax,zT]
  rw [show (d.su == OfNat.ofNat 0)=true from hd,if_pos rfl,f8 d,f8 { d with su:=1 }]
  simp only [kH,aT]
  rfl
 have f19 (d:Ctx):qX (af (C mx) Tryz.prog 132 Tryz.f132) b (d.su.toNat:Int) d.st d.el d.en d.at' d.qu d.pa d.su d.es d.da d.nm 0 0 false 0 0 0 0 false 0 []=some (if b == 10 || b == 13 then bg else if d.su == 1 && b == 34 || d.su == 2 && b == 39 then { d with su:=0 } else d:Ctx).ay:=by
  apply Ld
  simp only [C2,bT _ _ (show 1 < 256 by decide),bT _ _ (show 2 < 256 by decide),aN,Option.bind_some,aM,aA,ai,xb,ax,zT,aT]
  rw [f d,f { d with su:=0 }]
  rfl
 have f14 (d:Ctx):qV (af (C mx) Tryz.prog 132 Tryz.f132) b (d.su.toNat:Int) d.st d.el d.en d.at' d.qu d.pa d.su d.es d.da d.nm 0 0 false 0 0 0 0 false 0 []=some (uP d b).ay:=by
  apply La
  simp only [CY,aN,Option.bind_some,ai]
  rw [f19 d,f19 { d with es:=true }]
  simp only [uP,aT]
  rfl
 have f23 (d:Ctx):xa (af (C mx) Tryz.prog 132 Tryz.f132) b script (d.su.toNat:Int) d.st d.el d.en d.at' d.qu d.pa d.su d.es d.da d.nm 0 0 false 0 0 0 0 false 0 [] =
   some (if d.su == 3 then (if b == 42 then { d with su:=5 } else if script && b == 47 then { d with su:=4 } else if script then bg else kH { d with su:=0 } b script)
 else if d.su == 4 then (if b == 10 || b == 13 then { d with su:=0 } else d)
 else if d.su == 5 then (if b == 42 then { d with su:=6 } else d)
 else if d.su == 6 then (if b == 47 then { d with su:=0 } else if b != 42 then { d with su:=5 } else d) else d:Ctx).ay:=by
  apply Lb
  have z':=z { d with su:=0 } rfl
  simp only [CZ,bT _ _ (show 3 < 256 by decide),bT _ _ (show 4 < 256 by decide),bT _ _ (show 5 < 256 by decide),bT _ _ (show 6 < 256 by decide),aN,cA,Option.bind_some,aM,aA,ai,xb,aC,z',ax,zT,aT]
  rw [f d,f { d with su:=0 },f { d with su:=5 },f { d with su:=6 }]
  try rfl
 rw [← sy]
 apply SV
 simp only [PC,gW,bT _ _ (show 0 < 256 by decide),bT _ _ (show 1 < 256 by decide),bT _ _ (show 2 < 256 by decide),aN,Option.bind_some,aM,aA,ai,xb,ax,zT]
 rw [f8 c,f8 { c with su:=1 },f14 c,f23 c]
 simp only [jY,kH,aT]
 rfl
end
def sS:Code:=(Tryz.f77.body).getD .skip
def xc (run:RunT) (a b d:UInt8) (e:Bool) (f g i j:UInt8) (k:Bool) (l:UInt8) (m:List UInt8) (n:UInt8) (o:AV) (p:Bool) (q s t u:UInt8) (w:Bool) (x:UInt8) (y:List UInt8):Option AV :=
 run ((bP 27 sS []).getD []) (St.bX [(1,.cell (.val (.u8 a))),(4,.cell (.ptr 4 0)),(5,.cell (.ptr 5 0))] [(4,some (cT b d e f g i j k l m)),(5,some [.val (.u8 n),.val o,.val (.b p),.val (.u8 q),.val (.u8 s),.val (.u8 t),.val (.u8 u),.val (.b w),.val (.u8 x),.val (.s y)])])
def xd (run:RunT) (a b d:UInt8) (e:Bool) (f g i j:UInt8) (k:Bool) (l:UInt8) (m:List UInt8) (n o:UInt8) (p:Bool) (q s t u:UInt8) (w:Bool) (x:UInt8) (y:List UInt8) (z A:UInt8) (B:Bool) (D E G H:UInt8) (I:Bool) (J:UInt8) (L:List UInt8):Option AV :=
 run ((bP 57 sS []).getD []) (St.bX [(1,.cell (.val (.u8 a))),(2,.cell (.ptr 2 0)),(4,.cell (.ptr 4 0)),(5,.cell (.ptr 5 0))] [(2,some (cT b d e f g i j k l m)),(4,some (cT n o p q s t u w x y)),(5,some (cT z A B D E G H I J L))])
def HA (run:RunT) (a:UInt8) (b:Int) (d e:UInt8) (f:Bool) (g i j k:UInt8) (l:Bool) (m:UInt8) (n:List UInt8) (o p:UInt8) (q:Bool) (s t u w:UInt8) (x:Bool) (y:UInt8) (z:List UInt8) (A B:UInt8) (D:Bool) (E G H I:UInt8) (J:Bool) (L:UInt8) (M:List UInt8):Option AV :=
 run ((bP 58 sS []).getD []) (St.bX [(1,.cell (.val (.u8 a))),(2,.cell (.ptr 2 0)),(4,.cell (.ptr 4 0)),(5,.cell (.ptr 5 0)),(13,.cell (.val (.int b)))] [(2,some (cT d e f g i j k l m n)),(4,some (cT o p q s t u w x y z)),(5,some (cT A B D E G H I J L M))])
def sT (run:RunT) (a b d:UInt8) (e:Bool) (f g i j:UInt8) (k:Bool) (l:UInt8) (m:List UInt8) (n o:UInt8) (p:Bool) (q s t u:UInt8) (w:Bool) (x:UInt8) (y:List UInt8):Option AV :=
 run ((bP 73 sS []).getD []) (St.bX [(1,.cell (.val (.u8 a))),(2,.cell (.ptr 2 0)),(4,.cell (.ptr 4 0))] [(2,some (cT b d e f g i j k l m)),(4,some (cT n o p q s t u w x y))])
def Bd (run:RunT) (a b d:UInt8) (e:Bool) (f g i j:UInt8) (k:Bool) (l:UInt8) (m:List UInt8) (n o:UInt8) (p:Bool) (q s t u:UInt8) (w:Bool) (x:UInt8) (y:List UInt8):Option AV :=
 run ((bP 74 sS []).getD []) (St.bX [(1,.cell (.val (.u8 a))),(2,.cell (.ptr 2 0)),(4,.cell (.ptr 4 0))] [(2,some (cT b d e f g i j k l m)),(4,some (cT n o p q s t u w x y))])
def uW (a b:UInt8) (d:Bool) (e f g i:UInt8) (j:Bool) (k:UInt8) (l:List UInt8) (m:UInt8) (c:aq) (r:RunT):Option AV :=
 ah (.b ((bN (a.toNat:Int)) == 0))
 (ah (.b (aO m 60))
 ((c 98 [.int 1]).bind fun n=>(AV.aI 10 n).bind fun o=>some (.ag [gt o 0,gt o 1,gt o 2,gt o 3,gt o 4,gt o 5,gt o 6,gt o 7,gt o 8,gt o 9]))
 (some (.ag [.u8 a,.u8 b,.b d,.u8 e,.u8 f,.u8 g,.u8 i,.b j,.u8 k,.s l])))
 (ah (.b ((bN (a.toNat:Int)) == 1))
 ((c 99 [.u8 m]).bind fun p=>ah p
 ((c 100 [.u8 m]).bind fun q=>(AV.one q).bind fun s=>some (.ag [.u8 3,.u8 0,.b false,.u8 0,.u8 0,.u8 0,.u8 0,.b false,.u8 0,s]))
 (ah (.b (aO m 47))
 ((c 98 [.int 2]).bind fun t=>(AV.aI 10 t).bind fun u=>some (.ag [gt u 0,gt u 1,gt u 2,gt u 3,gt u 4,gt u 5,gt u 6,gt u 7,gt u 8,gt u 9]))
 (ah (.b (aO m 33))
 ((c 98 [.int 11]).bind fun w=>(AV.aI 10 w).bind fun x=>some (.ag [gt x 0,gt x 1,gt x 2,gt x 3,gt x 4,gt x 5,gt x 6,gt x 7,gt x 8,gt x 9]))
 (ah (.b (aO m 63))
 ((c 98 [.int 16]).bind fun y=>(AV.aI 10 y).bind fun z=>some (.ag [gt z 0,gt z 1,gt z 2,gt z 3,gt z 4,gt z 5,gt z 6,gt z 7,gt z 8,gt z 9]))
 ((c 98 [.int 0]).bind fun A=>(c 77 [A,.u8 m]).bind fun B=>(AV.aI 10 B).bind fun D=>some (.ag [gt D 0,gt D 1,gt D 2,gt D 3,gt D 4,gt D 5,gt D 6,gt D 7,gt D 8,gt D 9]))))))
 (ah (.b ((bN (a.toNat:Int)) == 2))
 ((c 99 [.u8 m]).bind fun E=>ah E
 ((c 100 [.u8 m]).bind fun G=>(AV.one G).bind fun H=>some (.ag [.u8 3,.u8 0,.b true,.u8 0,.u8 0,.u8 0,.u8 0,.b false,.u8 0,H]))
 (ah (.b (aO m 62))
 ((c 98 [.int 0]).bind fun I=>(AV.aI 10 I).bind fun J=>some (.ag [gt J 0,gt J 1,gt J 2,gt J 3,gt J 4,gt J 5,gt J 6,gt J 7,gt J 8,gt J 9]))
 ((c 98 [.int 16]).bind fun L=>(AV.aI 10 L).bind fun M=>some (.ag [gt M 0,gt M 1,gt M 2,gt M 3,gt M 4,gt M 5,gt M 6,gt M 7,gt M 8,gt M 9]))))
 (ah (.b ((bN (a.toNat:Int)) == 3))
 ((c 101 [.u8 m]).bind fun N=>(az N false (some (.b (aO m 47))) (.b true)).bind fun O=>(az O false (some (.b (aO m 62))) (.b true)).bind fun P=>ah P
 (ah (.b (!d))
 ((c 102 [.s l]).bind fun Q=>(conv .u8 Q).bind fun R=>(AV.one R).bind fun T=>xc r m 0 0 false 0 0 0 0 false 0 [] 0 T d 0 0 0 0 false 0 [])
 (xc r m 0 0 false 0 0 0 0 false 0 [] 0 (.u8 b) d 0 0 0 0 false 0 []))
 ((c 103 [.ag [.u8 a,.u8 b,.b d,.u8 e,.u8 f,.u8 g,.u8 i,.b j,.u8 k,.s l],.u8 m]).bind fun U=>(AV.aI 10 U).bind fun V=>some (.ag [gt V 0,gt V 1,gt V 2,gt V 3,gt V 4,gt V 5,gt V 6,gt V 7,gt V 8,gt V 9])))
 (ah (.b ((bN (a.toNat:Int)) == 9))
 ((c 101 [.u8 m]).bind fun W=>ah W
 (some (.ag [.u8 4,.u8 b,.b d,.u8 0,.u8 0,.u8 0,.u8 0,.b false,.u8 0,.s []]))
 (ah (.b (aO m 47))
 (some (.ag [.u8 10,.u8 b,.b d,.u8 0,.u8 0,.u8 0,.u8 0,.b false,.u8 0,.s []]))
 (ah (.b (aO m 62))
 ((c 104 [.ag [.u8 a,.u8 b,.b d,.u8 e,.u8 f,.u8 g,.u8 i,.b j,.u8 k,.s l]]).bind fun Y=>(AV.aI 10 Y).bind fun Z=>some (.ag [gt Z 0,gt Z 1,gt Z 2,gt Z 3,gt Z 4,gt Z 5,gt Z 6,gt Z 7,gt Z 8,gt Z 9]))
 ((c 67 []).bind fun v0=>(AV.aI 10 v0).bind fun v1=>some (.ag [gt v1 0,gt v1 1,gt v1 2,gt v1 3,gt v1 4,gt v1 5,gt v1 6,gt v1 7,gt v1 8,gt v1 9])))))
 (ah (.b ((bN (a.toNat:Int)) == 10))
 (ah (.b (aO m 62))
 ((c 104 [.ag [.u8 a,.u8 b,.b d,.u8 e,.u8 f,.u8 g,.u8 i,.b j,.u8 k,.s l]]).bind fun v2=>(AV.aI 10 v2).bind fun v3=>some (.ag [gt v3 0,gt v3 1,gt v3 2,gt v3 3,gt v3 4,gt v3 5,gt v3 6,gt v3 7,gt v3 8,gt v3 9]))
 ((c 77 [.ag [.u8 4,.u8 b,.b d,.u8 0,.u8 0,.u8 0,.u8 0,.b false,.u8 0,.s []],.u8 m]).bind fun v4=>(AV.aI 10 v4).bind fun v5=>some (.ag [gt v5 0,gt v5 1,gt v5 2,gt v5 3,gt v5 4,gt v5 5,gt v5 6,gt v5 7,gt v5 8,gt v5 9])))
 (ah (.b ((bN (a.toNat:Int)) == 4))
 ((c 101 [.u8 m]).bind fun v6=>ah v6
 (some (.ag [.u8 a,.u8 b,.b d,.u8 e,.u8 f,.u8 g,.u8 i,.b j,.u8 k,.s l]))
 ((az (.b (aO m 47)) false (some (.b (aO m 62))) (.b true)).bind fun v7=>ah v7
 ((c 77 [.ag [.u8 9,.u8 b,.b d,.u8 0,.u8 0,.u8 0,.u8 0,.b false,.u8 0,.s []],.u8 m]).bind fun v8=>(AV.aI 10 v8).bind fun v9=>some (.ag [gt v9 0,gt v9 1,gt v9 2,gt v9 3,gt v9 4,gt v9 5,gt v9 6,gt v9 7,gt v9 8,gt v9 9]))
 (ah (.b (aO m 61))
 ((c 67 []).bind fun w0=>(AV.aI 10 (w0)).bind fun w1=>some (.ag [gt w1 0,gt w1 1,gt w1 2,gt w1 3,gt w1 4,gt w1 5,gt w1 6,gt w1 7,gt w1 8,gt w1 9]))
 ((c 77 [.ag [.u8 5,.u8 b,.b d,.u8 0,.u8 0,.u8 0,.u8 0,.b false,.u8 0,.s []],.u8 m]).bind fun w2=>(AV.aI 10 (w2)).bind fun w3=>some (.ag [gt w3 0,gt w3 1,gt w3 2,gt w3 3,gt w3 4,gt w3 5,gt w3 6,gt w3 7,gt w3 8,gt w3 9])))))
 (ah (.b ((bN (a.toNat:Int)) == 5))
 (xd r m a b d e f g i j k l 0 0 false 0 0 0 0 false 0 [] 0 b d 0 0 0 0 false 0 [])
 (ah (.b ((bN (a.toNat:Int)) == 6))
 (xd r m a b d e f g i j k l 0 0 false 0 0 0 0 false 0 [] 0 b d 0 0 0 0 false 0 [])
 (HA r m (bN (a.toNat:Int)) a b d e f g i j k l 0 0 false 0 0 0 0 false 0 [] 0 b d 0 0 0 0 false 0 [])))))))))
theorem Y' (a b d e f g i j k l m) {r:AV} (h:uW a b d e f g i j k l m (ae (C mx) Tryz.prog) (af (C mx) Tryz.prog 77 Tryz.f77)=some r):ae (C mx) Tryz.prog 77 [.ag [.u8 a,.u8 b,.b d,.u8 e,.u8 f,.u8 g,.u8 i,.b j,.u8 k,.s l],.u8 m]=some r :=
 aj (fun _ _=>by kernel_rfl) h
def HB (a b d:UInt8) (e:Bool) (f g i j:UInt8) (k:Bool) (l:UInt8) (m:List UInt8) (n:UInt8) (o:AV) (p:Bool) (q s t u:UInt8) (w:Bool) (x:UInt8) (y:List UInt8) (c:aq) (r:RunT):Option AV :=
 (c 77 [.ag [.u8 9,o,.b p,.u8 q,.u8 s,.u8 t,.u8 u,.b w,.u8 x,.s y],.u8 a]).bind fun z=>(AV.aI 10 z).bind fun A=>some (.ag [gt A 0,gt A 1,gt A 2,gt A 3,gt A 4,gt A 5,gt A 6,gt A 7,gt A 8,gt A 9])
def HE (a b d:UInt8) (e:Bool) (f g i j:UInt8) (k:Bool) (l:UInt8) (m:List UInt8) (n o:UInt8) (p:Bool) (q s t u:UInt8) (w:Bool) (x:UInt8) (y:List UInt8) (z A:UInt8) (B:Bool) (D E G H:UInt8) (I:Bool) (J:UInt8) (L:List UInt8) (c:aq) (r:RunT):Option AV :=
 (c 105 [.ag [.u8 b,.u8 d,.b e,.u8 f,.u8 g,.u8 i,.u8 j,.b k,.u8 l,.s m],.ag [.u8 z,.u8 A,.b B,.u8 D,.u8 E,.u8 G,.u8 H,.b I,.u8 J,.s L],.u8 a]).bind fun M=>(AV.aI 10 M).bind fun N=>some (.ag [gt N 0,gt N 1,gt N 2,gt N 3,gt N 4,gt N 5,gt N 6,gt N 7,gt N 8,gt N 9])
def fE (a:UInt8) (b:Int) (d e:UInt8) (f:Bool) (g i j k:UInt8) (l:Bool) (m:UInt8) (n:List UInt8) (o p:UInt8) (q:Bool) (s t u w:UInt8) (x:Bool) (y:UInt8) (z:List UInt8) (A B:UInt8) (D:Bool) (E G H I:UInt8) (J:Bool) (L:UInt8) (M:List UInt8) (c:aq) (r:RunT):Option AV :=
 ah (.b (b == 7))
 ((c 101 [.u8 a]).bind fun N=>ah N
 (some (.ag [.u8 d,.u8 e,.b f,.u8 g,.u8 i,.u8 j,.u8 k,.b l,.u8 m,.s n]))
 (ah (.b (aO a 62))
 ((c 67 []).bind fun O=>(AV.aI 10 O).bind fun P=>some (.ag [gt P 0,gt P 1,gt P 2,gt P 3,gt P 4,gt P 5,gt P 6,gt P 7,gt P 8,gt P 9]))
 ((az (.b (aO a 34)) false (some (.b (aO a 39))) (.b true)).bind fun Q=>ah Q
 (some (.ag [.u8 8,.u8 e,.b f,.u8 g,.u8 a,.u8 j,.u8 k,.b l,.u8 m,.s n]))
 ((c 77 [.ag [.u8 8,.u8 e,.b f,.u8 g,.u8 i,.u8 j,.u8 k,.b l,.u8 m,.s n],.u8 a]).bind fun R=>(AV.aI 10 R).bind fun T=>some (.ag [gt T 0,gt T 1,gt T 2,gt T 3,gt T 4,gt T 5,gt T 6,gt T 7,gt T 8,gt T 9])))))
 (ah (.b (b == 8))
 ((c 106 [.ag [.u8 d,.u8 e,.b f,.u8 g,.u8 i,.u8 j,.u8 k,.b l,.u8 m,.s n],.ag [.u8 A,.u8 B,.b D,.u8 E,.u8 G,.u8 H,.u8 I,.b J,.u8 L,.s M],.u8 a]).bind fun U=>(AV.aI 10 U).bind fun V=>some (.ag [gt V 0,gt V 1,gt V 2,gt V 3,gt V 4,gt V 5,gt V 6,gt V 7,gt V 8,gt V 9]))
 (ah (.b (b == 17))
 (sT r a d e f g i j k l m n o p q s t u w x y z)
 (ah (.b (b == 18))
 (sT r a d e f g i j k l m n o p q s t u w x y z)
 (ah (.b (b == 19))
 (sT r a d e f g i j k l m n o p q s t u w x y z)
 (Bd r a d e f g i j k l m n o p q s t u w x y z)))))
def HF (a b d:UInt8) (e:Bool) (f g i j:UInt8) (k:Bool) (l:UInt8) (m:List UInt8) (n o:UInt8) (p:Bool) (q s t u:UInt8) (w:Bool) (x:UInt8) (y:List UInt8) (c:aq) (r:RunT):Option AV :=
 (c 107 [.ag [.u8 b,.u8 d,.b e,.u8 f,.u8 g,.u8 i,.u8 j,.b k,.u8 l,.s m],.u8 a]).bind fun z=>(AV.aI 10 z).bind fun A=>some (.ag [gt A 0,gt A 1,gt A 2,gt A 3,gt A 4,gt A 5,gt A 6,gt A 7,gt A 8,gt A 9])
def HI (a b d:UInt8) (e:Bool) (f g i j:UInt8) (k:Bool) (l:UInt8) (m:List UInt8) (n o:UInt8) (p:Bool) (q s t u:UInt8) (w:Bool) (x:UInt8) (y:List UInt8) (c:aq) (r:RunT):Option AV :=
 (c 108 [.ag [.u8 b,.u8 d,.b e,.u8 f,.u8 g,.u8 i,.u8 j,.b k,.u8 l,.s m],.u8 a]).bind fun z=>(AV.aI 10 z).bind fun A=>some (.ag [gt A 0,gt A 1,gt A 2,gt A 3,gt A 4,gt A 5,gt A 6,gt A 7,gt A 8,gt A 9])
theorem PG (a b d e f g i j k l m n o p q s t u w x y) {r:AV} (h:HB a b d e f g i j k l m n o p q s t u w x y (ae (C mx) Tryz.prog) (af (C mx) Tryz.prog 77 Tryz.f77)=some r):xc (af (C mx) Tryz.prog 77 Tryz.f77) a b d e f g i j k l m n o p q s t u w x y=some r :=
 ak (fun _ _=>by kernel_rfl) h
theorem PH (a b d e f g i j k l m n o p q s t u w x y z A B D E G H I J L) {r:AV} (h:HE a b d e f g i j k l m n o p q s t u w x y z A B D E G H I J L (ae (C mx) Tryz.prog) (af (C mx) Tryz.prog 77 Tryz.f77)=some r):xd (af (C mx) Tryz.prog 77 Tryz.f77) a b d e f g i j k l m n o p q s t u w x y z A B D E G H I J L=some r :=
 ak (fun _ _=>by kernel_rfl) h
theorem fY (a b d e f g i j k l m n o p q s t u w x y z A B D E G H I J L M) {r:AV} (h:fE a b d e f g i j k l m n o p q s t u w x y z A B D E G H I J L M (ae (C mx) Tryz.prog) (af (C mx) Tryz.prog 77 Tryz.f77)=some r):HA (af (C mx) Tryz.prog 77 Tryz.f77) a b d e f g i j k l m n o p q s t u w x y z A B D E G H I J L M=some r :=
 ak (fun _ _=>by kernel_rfl) h
theorem PI (a b d e f g i j k l m n o p q s t u w x y) {r:AV} (h:HF a b d e f g i j k l m n o p q s t u w x y (ae (C mx) Tryz.prog) (af (C mx) Tryz.prog 77 Tryz.f77)=some r):sT (af (C mx) Tryz.prog 77 Tryz.f77) a b d e f g i j k l m n o p q s t u w x y=some r :=
 ak (fun _ _=>by kernel_rfl) h
theorem PJ (a b d e f g i j k l m n o p q s t u w x y) {r:AV} (h:HI a b d e f g i j k l m n o p q s t u w x y (ae (C mx) Tryz.prog) (af (C mx) Tryz.prog 77 Tryz.f77)=some r):Bd (af (C mx) Tryz.prog 77 Tryz.f77) a b d e f g i j k l m n o p q s t u w x y=some r :=
 ak (fun _ _=>by kernel_rfl) h
def xe:Code:=(Tryz.f106.body).getD .skip
def qY (run:RunT) (a b d:UInt8) (e:Bool) (f g i j:UInt8) (k:Bool) (l:UInt8) (m:List UInt8) (n o:UInt8) (p:Bool) (q s t u:UInt8) (w:Bool) (x:UInt8) (y:List UInt8):Option AV :=
 run ((bP 17 xe []).getD []) (St.bX [(2,.cell (.val (.u8 a))),(3,.cell (.ptr 3 0)),(6,.cell (.ptr 6 0))] [(3,some (cT b d e f g i j k l m)),(6,some (cT n o p q s t u w x y))])
def qZ (run:RunT) (a b d:UInt8) (e:Bool) (f g i j:UInt8) (k:Bool) (l:UInt8) (m:List UInt8) (n o:UInt8) (p:Bool) (q s t u:UInt8) (w:Bool) (x:UInt8) (y:List UInt8):Option AV :=
 run ((bP 22 xe []).getD []) (St.bX [(2,.cell (.val (.u8 a))),(3,.cell (.ptr 3 0)),(6,.cell (.ptr 6 0))] [(3,some (cT b d e f g i j k l m)),(6,some (cT n o p q s t u w x y))])
def xf (run:RunT) (a b:UInt8) (d:Bool) (e f g i:UInt8) (j:Bool) (k:UInt8) (l:List UInt8) (m n:UInt8) (o:Bool) (p q s t:UInt8) (u:Bool) (w:UInt8) (x:List UInt8):Option AV :=
 run ((bP 25 xe []).getD []) (St.bX [(3,.cell (.ptr 3 0)),(6,.cell (.ptr 6 0))] [(3,some (cT a b d e f g i j k l)),(6,some (cT m n o p q s t u w x))])
def SY (a b:UInt8) (d:Bool) (e f g i:UInt8) (j:Bool) (k:UInt8) (l:List UInt8) (m n:UInt8) (o:Bool) (p q s t:UInt8) (u:Bool) (w:UInt8) (x:List UInt8) (y:UInt8) (c:aq) (r:RunT):Option AV :=
 (az (.b (aO i 0)) false (some (.b (aO i 4))) (.b true)).bind fun z=>(az (.b (nN f 0)) true (some (.b (aO y f))) (.b false)).bind fun A=>ah A
 ((unop .not z).bind fun B=>ah B
 ((c 67 []).bind fun D=>(AV.aI 10 D).bind fun E=>some (.ag [gt E 0,gt E 1,gt E 2,gt E 3,gt E 4,gt E 5,gt E 6,gt E 7,gt E 8,gt E 9]))
 (some (.ag [.u8 9,.u8 n,.b o,.u8 p,.u8 q,.u8 s,.u8 t,.b u,.u8 w,.s x])))
 (ah (.b (aO f 0))
 ((c 101 [.u8 y]).bind fun G=>(az G false (some (.b (aO y 62))) (.b true)).bind fun H=>ah H
 ((unop .not z).bind fun I=>ah I
 ((c 67 []).bind fun J=>(AV.aI 10 J).bind fun L=>some (.ag [gt L 0,gt L 1,gt L 2,gt L 3,gt L 4,gt L 5,gt L 6,gt L 7,gt L 8,gt L 9]))
 (ah (.b (aO y 62))
 ((c 104 [.ag [.u8 a,.u8 b,.b d,.u8 e,.u8 f,.u8 g,.u8 i,.b j,.u8 k,.s l]]).bind fun M=>(AV.aI 10 M).bind fun N=>some (.ag [gt N 0,gt N 1,gt N 2,gt N 3,gt N 4,gt N 5,gt N 6,gt N 7,gt N 8,gt N 9]))
 (some (.ag [.u8 4,.u8 n,.b o,.u8 p,.u8 q,.u8 s,.u8 t,.b u,.u8 w,.s x]))))
 ((az (.b (aO y 34)) false (some (.b (aO y 39))) (.b true)).bind fun O=>(az O false (some (.b (aO y 60))) (.b true)).bind fun P=>(az P false (some (.b (aO y 61))) (.b true)).bind fun Q=>(az Q false (some (.b (aO y 96))) (.b true)).bind fun R=>ah R
 ((c 67 []).bind fun T=>(AV.aI 10 T).bind fun U=>some (.ag [gt U 0,gt U 1,gt U 2,gt U 3,gt U 4,gt U 5,gt U 6,gt U 7,gt U 8,gt U 9]))
 (qY r y a b d e f g i j k l 0 0 false 0 0 0 0 false 0 [])))
 (qY r y a b d e f g i j k l 0 0 false 0 0 0 0 false 0 []))
theorem WZ (a b d e f g i j k l m n o p q s t u w x y) {r:AV} (h:SY a b d e f g i j k l m n o p q s t u w x y (ae (C mx) Tryz.prog) (af (C mx) Tryz.prog 106 Tryz.f106)=some r):ae (C mx) Tryz.prog 106 [.ag [.u8 a,.u8 b,.b d,.u8 e,.u8 f,.u8 g,.u8 i,.b j,.u8 k,.s l],.ag [.u8 m,.u8 n,.b o,.u8 p,.u8 q,.u8 s,.u8 t,.b u,.u8 w,.s x],.u8 y]=some r :=
 aj (fun _ _=>by kernel_rfl) h
def C3 (a b d:UInt8) (e:Bool) (f g i j:UInt8) (k:Bool) (l:UInt8) (m:List UInt8) (n o:UInt8) (p:Bool) (q s t u:UInt8) (w:Bool) (x:UInt8) (y:List UInt8) (c:aq) (r:RunT):Option AV :=
 ah (.b (aO f 1))
 ((c 131 [.ag [.u8 b,.u8 d,.b e,.u8 f,.u8 g,.u8 i,.u8 j,.b k,.u8 l,.s m],.u8 a]).bind fun z=>(AV.aI 10 z).bind fun A=>some (.ag [gt A 0,gt A 1,gt A 2,gt A 3,gt A 4,gt A 5,gt A 6,gt A 7,gt A 8,gt A 9]))
 (ah (.b (aO f 2))
 (qZ r a b d e f g i j k l m n o p q s t u w x y)
 (ah (.b (aO f 3))
 (qZ r a b d e f g i j k l m n o p q s t u w x y)
 (xf r b d e f g i j k l m n o p q s t u w x y)))
def C4 (a b d:UInt8) (e:Bool) (f g i j:UInt8) (k:Bool) (l:UInt8) (m:List UInt8) (n o:UInt8) (p:Bool) (q s t u:UInt8) (w:Bool) (x:UInt8) (y:List UInt8) (c:aq) (r:RunT):Option AV :=
 ah (.b (aO a 38))
 ((c 67 []).bind fun z=>(AV.aI 10 z).bind fun A=>some (.ag [gt A 0,gt A 1,gt A 2,gt A 3,gt A 4,gt A 5,gt A 6,gt A 7,gt A 8,gt A 9]))
 ((c 132 [.ag [.u8 b,.u8 d,.b e,.u8 f,.u8 g,.u8 i,.u8 j,.b k,.u8 l,.s m],.u8 a,.b (aO f 2)]).bind fun B=>(AV.aI 10 B).bind fun D=>some (.ag [gt D 0,gt D 1,gt D 2,gt D 3,gt D 4,gt D 5,gt D 6,gt D 7,gt D 8,gt D 9]))
def Lg (a b:UInt8) (d:Bool) (e f g i:UInt8) (j:Bool) (k:UInt8) (l:List UInt8) (m n:UInt8) (o:Bool) (p q s t:UInt8) (u:Bool) (w:UInt8) (x:List UInt8) (c:aq) (r:RunT):Option AV :=
 some (.ag [.u8 a,.u8 b,.b d,.u8 e,.u8 f,.u8 g,.u8 i,.b j,.u8 k,.s l])
theorem Lh (a b d e f g i j k l m n o p q s t u w x y) {r:AV} (h:C3 a b d e f g i j k l m n o p q s t u w x y (ae (C mx) Tryz.prog) (af (C mx) Tryz.prog 106 Tryz.f106)=some r):qY (af (C mx) Tryz.prog 106 Tryz.f106) a b d e f g i j k l m n o p q s t u w x y=some r :=
 ak (fun _ _=>by kernel_rfl) h
theorem Li (a b d e f g i j k l m n o p q s t u w x y) {r:AV} (h:C4 a b d e f g i j k l m n o p q s t u w x y (ae (C mx) Tryz.prog) (af (C mx) Tryz.prog 106 Tryz.f106)=some r):qZ (af (C mx) Tryz.prog 106 Tryz.f106) a b d e f g i j k l m n o p q s t u w x y=some r :=
 ak (fun _ _=>by kernel_rfl) h
theorem Lj (a b d e f g i j k l m n o p q s t u w x) {r:AV} (h:Lg a b d e f g i j k l m n o p q s t u w x (ae (C mx) Tryz.prog) (af (C mx) Tryz.prog 106 Tryz.f106)=some r):xf (af (C mx) Tryz.prog 106 Tryz.f106) a b d e f g i j k l m n o p q s t u w x=some r :=
 ak (fun _ _=>by kernel_rfl) h
def lC:Code:=(Tryz.f108.body).getD .skip
def xg (run:RunT) (a b d:UInt8) (e:Bool) (f g i j:UInt8) (k:Bool) (l:UInt8) (m:List UInt8) (n o:UInt8) (p:Bool) (q s t u:UInt8) (w:Bool) (x:UInt8) (y:List UInt8):Option AV :=
 run ((bP 4 lC []).getD []) (St.bX [(1,.cell (.val (.u8 a))),(2,.cell (.ptr 2 0)),(4,.cell (.ptr 4 0))] [(2,some (cT b d e f g i j k l m)),(4,some (cT n o p q s t u w x y))])
def xh (run:RunT) (a:UInt8) (b:Int) (d e:UInt8) (f:Bool) (g i j k:UInt8) (l:Bool) (m:UInt8) (n:List UInt8) (o p:UInt8) (q:Bool) (s t u w:UInt8) (x:Bool) (y:UInt8) (z:List UInt8):Option AV :=
 run ((bP 11 lC []).getD []) (St.bX [(1,.cell (.val (.u8 a))),(2,.cell (.ptr 2 0)),(4,.cell (.ptr 4 0)),(7,.cell (.val (.int b)))] [(2,some (cT d e f g i j k l m n)),(4,some (cT o p q s t u w x y z))])
def q9 (run:RunT) (a b d:UInt8) (e:Bool) (f g i j:UInt8) (k:Bool) (l:UInt8) (m:List UInt8) (n o:UInt8) (p:Bool) (q s t u:UInt8) (w:Bool) (x:UInt8) (y:List UInt8):Option AV :=
 run ((bP 13 lC []).getD []) (St.bX [(1,.cell (.val (.u8 a))),(2,.cell (.ptr 2 0)),(4,.cell (.ptr 4 0))] [(2,some (cT b d e f g i j k l m)),(4,some (cT n o p q s t u w x y))])
def xi (run:RunT) (a:UInt8) (b:Int) (d e:UInt8) (f:Bool) (g i j k:UInt8) (l:Bool) (m:UInt8) (n:List UInt8) (o p:UInt8) (q:Bool) (s t u w:UInt8) (x:Bool) (y:UInt8) (z:List UInt8):Option AV :=
 run ((bP 20 lC []).getD []) (St.bX [(1,.cell (.val (.u8 a))),(2,.cell (.ptr 2 0)),(4,.cell (.ptr 4 0)),(7,.cell (.val (.int b)))] [(2,some (cT d e f g i j k l m n)),(4,some (cT o p q s t u w x y z))])
def rf (run:RunT) (a b:UInt8) (d:Bool) (e f g i:UInt8) (j:Bool) (k:AV) (l:List UInt8) (m n:UInt8) (o:Bool) (p q s t:UInt8) (u:Bool) (w:UInt8) (x:List UInt8):Option AV :=
 run ((bP 24 lC []).getD []) (St.bX [(2,.cell (.ptr 2 0)),(4,.cell (.ptr 4 0))] [(2,some [.val (.u8 a),.val (.u8 b),.val (.b d),.val (.u8 e),.val (.u8 f),.val (.u8 g),.val (.u8 i),.val (.b j),.val k,.val (.s l)]),(4,some (cT m n o p q s t u w x))])
def rh (run:RunT) (a b:UInt8) (d:Bool) (e f g i:UInt8) (j:Bool) (k:UInt8) (l:List UInt8) (m n:UInt8) (o:Bool) (p q s t:UInt8) (u:Bool) (w:UInt8) (x:List UInt8):Option AV :=
 run ((bP 33 lC []).getD []) (St.bX [(2,.cell (.ptr 2 0)),(4,.cell (.ptr 4 0))] [(2,some (cT a b d e f g i j k l)),(4,some (cT m n o p q s t u w x))])
def SZ (a b:UInt8) (d:Bool) (e f g i:UInt8) (j:Bool) (k:UInt8) (l:List UInt8) (m:UInt8) (c:aq) (r:RunT):Option AV :=
 ah (.b ((bN (a.toNat:Int)) == 11))
 (xg r m a b d e f g i j k l 0 0 false 0 0 0 0 false 0 [])
 (ah (.b ((bN (a.toNat:Int)) == 12))
 (xg r m a b d e f g i j k l 0 0 false 0 0 0 0 false 0 [])
 (xh r m (bN (a.toNat:Int)) a b d e f g i j k l 0 0 false 0 0 0 0 false 0 []))
theorem W7 (a b d e f g i j k l m) {r:AV} (h:SZ a b d e f g i j k l m (ae (C mx) Tryz.prog) (af (C mx) Tryz.prog 108 Tryz.f108)=some r):ae (C mx) Tryz.prog 108 [.ag [.u8 a,.u8 b,.b d,.u8 e,.u8 f,.u8 g,.u8 i,.b j,.u8 k,.s l],.u8 m]=some r :=
 aj (fun _ _=>by kernel_rfl) h
def HJ (a b d:UInt8) (e:Bool) (f g i j:UInt8) (k:Bool) (l:UInt8) (m:List UInt8) (n o:UInt8) (p:Bool) (q s t u:UInt8) (w:Bool) (x:UInt8) (y:List UInt8) (c:aq) (r:RunT):Option AV :=
 ah (.b (aO a 62))
 ((c 98 [.int 0]).bind fun z=>(AV.aI 10 z).bind fun A=>some (.ag [gt A 0,gt A 1,gt A 2,gt A 3,gt A 4,gt A 5,gt A 6,gt A 7,gt A 8,gt A 9]))
 (ah (.b (aO a 45))
 (ah (.b ((bN (b.toNat:Int)) == 11))
 ((c 98 [.int 12]).bind fun B=>(AV.aI 10 B).bind fun D=>some (.ag [gt D 0,gt D 1,gt D 2,gt D 3,gt D 4,gt D 5,gt D 6,gt D 7,gt D 8,gt D 9]))
 ((c 98 [.int 13]).bind fun E=>(AV.aI 10 E).bind fun G=>some (.ag [gt G 0,gt G 1,gt G 2,gt G 3,gt G 4,gt G 5,gt G 6,gt G 7,gt G 8,gt G 9])))
 ((c 98 [.int 16]).bind fun H=>(AV.aI 10 H).bind fun I=>some (.ag [gt I 0,gt I 1,gt I 2,gt I 3,gt I 4,gt I 5,gt I 6,gt I 7,gt I 8,gt I 9])))
def C5 (a:UInt8) (b:Int) (d e:UInt8) (f:Bool) (g i j k:UInt8) (l:Bool) (m:UInt8) (n:List UInt8) (o p:UInt8) (q:Bool) (s t u w:UInt8) (x:Bool) (y:UInt8) (z:List UInt8) (c:aq) (r:RunT):Option AV :=
 ah (.b (b == 13))
 (q9 r a d e f g i j k l m n o p q s t u w x y z)
 (ah (.b (b == 14))
 (q9 r a d e f g i j k l m n o p q s t u w x y z)
 (xi r a b d e f g i j k l m n o p q s t u w x y z))
def C6 (a b d:UInt8) (e:Bool) (f g i j:UInt8) (k:Bool) (l:UInt8) (m:List UInt8) (n o:UInt8) (p:Bool) (q s t u:UInt8) (w:Bool) (x:UInt8) (y:List UInt8) (c:aq) (r:RunT):Option AV :=
 ah (.b (aO a 62))
 ((c 67 []).bind fun z=>(AV.aI 10 z).bind fun A=>some (.ag [gt A 0,gt A 1,gt A 2,gt A 3,gt A 4,gt A 5,gt A 6,gt A 7,gt A 8,gt A 9]))
 (ah (.b (nN a 45))
 ((c 98 [.int 15]).bind fun B=>(AV.aI 10 B).bind fun D=>some (.ag [gt D 0,gt D 1,gt D 2,gt D 3,gt D 4,gt D 5,gt D 6,gt D 7,gt D 8,gt D 9]))
 (ah (.b ((bN (b.toNat:Int)) == 13))
 ((c 98 [.int 14]).bind fun E=>(AV.aI 10 E).bind fun G=>some (.ag [gt G 0,gt G 1,gt G 2,gt G 3,gt G 4,gt G 5,gt G 6,gt G 7,gt G 8,gt G 9]))
 (some (.ag [.u8 15,.u8 0,.b false,.u8 0,.u8 0,.u8 0,.u8 0,.b false,.u8 2,.s []]))))
def C7 (a:UInt8) (b:Int) (d e:UInt8) (f:Bool) (g i j k:UInt8) (l:Bool) (m:UInt8) (n:List UInt8) (o p:UInt8) (q:Bool) (s t u w:UInt8) (x:Bool) (y:UInt8) (z:List UInt8) (c:aq) (r:RunT):Option AV :=
 ah (.b (b == 15))
 (ah (.b (aO a 45))
 (ah (.b (ult m 2))
 ((aH .add (.u8 m) (.u8 1)).bind fun A=>(AV.one A).bind fun B=>rf r d e f g i j k l B n o p q s t u w x y z)
 (rf r d e f g i j k l (.u8 m) n o p q s t u w x y z))
 ((az (.b (aO m 2)) true (some (.b (aO a 62))) (.b false)).bind fun D=>ah D
 ((c 98 [.int 0]).bind fun E=>(AV.aI 10 E).bind fun G=>some (.ag [gt G 0,gt G 1,gt G 2,gt G 3,gt G 4,gt G 5,gt G 6,gt G 7,gt G 8,gt G 9]))
 ((az (.b (aO m 2)) true (some (.b (aO a 33))) (.b false)).bind fun H=>ah H
 ((c 67 []).bind fun I=>(AV.aI 10 I).bind fun J=>some (.ag [gt J 0,gt J 1,gt J 2,gt J 3,gt J 4,gt J 5,gt J 6,gt J 7,gt J 8,gt J 9]))
 ((c 98 [.int 15]).bind fun L=>(AV.aI 10 L).bind fun M=>some (.ag [gt M 0,gt M 1,gt M 2,gt M 3,gt M 4,gt M 5,gt M 6,gt M 7,gt M 8,gt M 9])))))
 (ah (.b (b == 16))
 (ah (.b (aO a 62))
 ((c 98 [.int 0]).bind fun N=>(AV.aI 10 N).bind fun O=>some (.ag [gt O 0,gt O 1,gt O 2,gt O 3,gt O 4,gt O 5,gt O 6,gt O 7,gt O 8,gt O 9]))
 (rh r d e f g i j k l m n o p q s t u w x y z))
 (rh r d e f g i j k l m n o p q s t u w x y z))
def Ll (a b:UInt8) (d:Bool) (e f g i:UInt8) (j:Bool) (k:AV) (l:List UInt8) (m n:UInt8) (o:Bool) (p q s t:UInt8) (u:Bool) (w:UInt8) (x:List UInt8) (c:aq) (r:RunT):Option AV :=
 some (.ag [.u8 a,.u8 b,.b d,.u8 e,.u8 f,.u8 g,.u8 i,.b j,k,.s l])
def Lm (a b:UInt8) (d:Bool) (e f g i:UInt8) (j:Bool) (k:UInt8) (l:List UInt8) (m n:UInt8) (o:Bool) (p q s t:UInt8) (u:Bool) (w:UInt8) (x:List UInt8) (c:aq) (r:RunT):Option AV :=
 some (.ag [.u8 a,.u8 b,.b d,.u8 e,.u8 f,.u8 g,.u8 i,.b j,.u8 k,.s l])
theorem PK (a b d e f g i j k l m n o p q s t u w x y) {r:AV} (h:HJ a b d e f g i j k l m n o p q s t u w x y (ae (C mx) Tryz.prog) (af (C mx) Tryz.prog 108 Tryz.f108)=some r):xg (af (C mx) Tryz.prog 108 Tryz.f108) a b d e f g i j k l m n o p q s t u w x y=some r :=
 ak (fun _ _=>by kernel_rfl) h
theorem Ln (a b d e f g i j k l m n o p q s t u w x y z) {r:AV} (h:C5 a b d e f g i j k l m n o p q s t u w x y z (ae (C mx) Tryz.prog) (af (C mx) Tryz.prog 108 Tryz.f108)=some r):xh (af (C mx) Tryz.prog 108 Tryz.f108) a b d e f g i j k l m n o p q s t u w x y z=some r :=
 ak (fun _ _=>by kernel_rfl) h
theorem Lp (a b d e f g i j k l m n o p q s t u w x y) {r:AV} (h:C6 a b d e f g i j k l m n o p q s t u w x y (ae (C mx) Tryz.prog) (af (C mx) Tryz.prog 108 Tryz.f108)=some r):q9 (af (C mx) Tryz.prog 108 Tryz.f108) a b d e f g i j k l m n o p q s t u w x y=some r :=
 ak (fun _ _=>by kernel_rfl) h
theorem Lq (a b d e f g i j k l m n o p q s t u w x y z) {r:AV} (h:C7 a b d e f g i j k l m n o p q s t u w x y z (ae (C mx) Tryz.prog) (af (C mx) Tryz.prog 108 Tryz.f108)=some r):xi (af (C mx) Tryz.prog 108 Tryz.f108) a b d e f g i j k l m n o p q s t u w x y z=some r :=
 ak (fun _ _=>by kernel_rfl) h
theorem Lr (a b d e f g i j k l m n o p q s t u w x) {r:AV} (h:Ll a b d e f g i j k l m n o p q s t u w x (ae (C mx) Tryz.prog) (af (C mx) Tryz.prog 108 Tryz.f108)=some r):rf (af (C mx) Tryz.prog 108 Tryz.f108) a b d e f g i j k l m n o p q s t u w x=some r :=
 ak (fun _ _=>by kernel_rfl) h
theorem Ls (a b d e f g i j k l m n o p q s t u w x) {r:AV} (h:Lm a b d e f g i j k l m n o p q s t u w x (ae (C mx) Tryz.prog) (af (C mx) Tryz.prog 108 Tryz.f108)=some r):rh (af (C mx) Tryz.prog 108 Tryz.f108) a b d e f g i j k l m n o p q s t u w x=some r :=
 ak (fun _ _=>by kernel_rfl) h
def xj (run:RunT) (a:List UInt8) (b:Int) (d e f g i j k l m n:AV) (o p:UInt8) (q:Bool) (s t u w:UInt8) (x:Bool) (y:UInt8) (z:List UInt8):Option AV :=
 run ((bP 4 ((Tryz.f133.body).getD .skip) []).getD []) (St.bX [(1,.cell (.val (.s a))),(2,.cell (.ptr 2 0)),(4,.cell (.ptr 4 0)),(5,.cell (.val (.int b)))] [(2,some (cV d e f g i j k l m n)),(4,some (cT o p q s t u w x y z))])
def Xa (a b:UInt8) (d:Bool) (e f g i:UInt8) (j:Bool) (k:UInt8) (l m:List UInt8) (c:aq) (r:RunT):Option AV :=
 xj r m 0 (.u8 17) (.u8 b) (.b d) (.u8 e) (.u8 f) (.u8 g) (.u8 i) (.b j) (.u8 k) (.s []) 0 0 false 0 0 0 0 false 0 []
theorem Xb (a b d e f g i j k l m) {r:AV} (h:Xa a b d e f g i j k l m (ae (C mx) Tryz.prog) (af (C mx) Tryz.prog 133 Tryz.f133)=some r):ae (C mx) Tryz.prog 133 [.ag [.u8 a,.u8 b,.b d,.u8 e,.u8 f,.u8 g,.u8 i,.b j,.u8 k,.s l],.s m]=some r :=
 aj (fun _ _=>by kernel_rfl) h
def Be (a:List UInt8) (b:Int) (d e f g i j k l m n:AV) (o p:UInt8) (q:Bool) (s t u w:UInt8) (x:Bool) (y:UInt8) (z:List UInt8) (c:aq) (r:RunT):Option AV :=
 (az (.b (decide (b < ((a.length:Int))))) true ((aH .eql e (.u8 3)).bind fun A=>(az A false ((aH .eql e (.u8 4)).bind fun B=>some B) (.b true)).bind fun D=>some D) (.b false)).bind fun E=>(az E true ((conv .i64 d).bind fun G=>(aH .eql G (.int 17)).bind fun H=>some H) (.b false)).bind fun I=>ah I
 ((dm (.s a) (.int b)).bind fun J=>(aH .eql e (.u8 3)).bind fun L=>(c 132 [.ag [d,e,f,g,i,j,k,l,m,n],J,L]).bind fun M=>(AV.aI 10 M).bind fun N=>xj r a (bN (b+1)) (gt N 0) (gt N 1) (gt N 2) (gt N 3) (gt N 4) (gt N 5) (gt N 6) (gt N 7) (gt N 8) (gt N 9) o p q s t u w x y z)
 (some (.ag [d,e,f,g,i,j,k,l,m,n]))
theorem HL (a b d e f g i j k l m n o p q s t u w x y z) {r:AV} (h:Be a b d e f g i j k l m n o p q s t u w x y z (ae (C mx) Tryz.prog) (af (C mx) Tryz.prog 133 Tryz.f133)=some r):xj (af (C mx) Tryz.prog 133 Tryz.f133) a b d e f g i j k l m n o p q s t u w x y z=some r :=
 ak (fun _ _=>by kernel_rfl) h
section
variable (c:Ctx) (b:UInt8)
theorem Xc (h:c.nm.length≤100):ae (C mx) Tryz.prog 106 [c.ay,(within c 0).ay,.u8 b]=some (rvalue c b).ay:=by
 have f25:xf (af (C mx) Tryz.prog 106 Tryz.f106) c.st c.el c.en c.at' c.qu c.pa c.su c.es c.da c.nm 0 0 false 0 0 0 0 false 0 []=some c.ay:=by
  apply Lj
  rfl
 have f22:qZ (af (C mx) Tryz.prog 106 Tryz.f106) b c.st c.el c.en c.at' c.qu c.pa c.su c.es c.da c.nm 0 0 false 0 0 0 0 false 0 []=some (if b == 38 then bg else jY c b (c.at' == 2):Ctx).ay:=by
  apply Li
  simp only [C4,aN,Option.bind_some,ai,xb,aC,aJ,SX,sy,ax,zT,aT]
 have f17:qY (af (C mx) Tryz.prog 106 Tryz.f106) b c.st c.el c.en c.at' c.qu c.pa c.su c.es c.da c.nm 0 0 false 0 0 0 0 false 0 []=some (if c.at' == 1 then wF c b else if c.at' == 2 then (if b == 38 then bg else jY c b (c.at' == 2)) else if c.at' == 3 then (if b == 38 then bg else jY c b (c.at' == 2)) else c:Ctx).ay:=by
  apply Lh
  simp only [C3,aN,Option.bind_some,ai,aC,aJ,WY (h:=h),f22,f25,ax,zT,aT]
 apply WZ
 simp only [SY,aN,cA,Option.bind_some,aM,aA,ai,bq,xb,Bc,aC,aJ,PF,ax,zT,f17]
 rw [show (b == 34 || b == 39 || b == 60 || b == 61 || b == 96)=sx b from rfl]
 simp only [rvalue,aT]
 rfl
theorem S0:∀ (r p:List UInt8) (c:Ctx),(p ++ r).length < 9223372036854775808→xj (af (C mx) Tryz.prog 133 Tryz.f133) (p ++ r) (p.length:Int) (.u8 c.st) (.u8 c.el) (.b c.en) (.u8 c.at') (.u8 c.qu) (.u8 c.pa) (.u8 c.su) (.b c.es) (.u8 c.da) (.s c.nm) 0 0 false 0 0 0 0 false 0 []=some (jF c r).ay
 | [],p,c,h=>by
  apply HL
  simp only [Be,qJ,nM,List.append_nil,Option.bind_some,gm,ai,Bool.false_eq_true,if_false,aC,aJ,jF]
 | b :: r,p,c,h=>by
  apply HL
  simp only [Be,wk,iH,lu p b r h,cI,iG,bA,bT _ _ (show 17 < 256 by decide),Option.bind_some,aM,aA,Bool.true_and,ai,aC,aJ,SX,ax,zT,jF,aT]
  rw [dz,S0 r (p ++ [b]) _ (by rw [← dz];exact h)]
theorem S1 (s:List UInt8) (h:s.length < 9223372036854775808):ae (C mx) Tryz.prog 133 [c.ay,.s s]=some (mM c s true).ay:=by
 apply Xb
 rw [← GC]
 exact S0 s [] { c with st:=17,nm:=[] } h
theorem Xd:ae (C mx) Tryz.prog 108 [c.ay,.u8 b]=some (zg c b).ay:=by
 have t0:=Fi (mx:=mx) 0
 have t12:=Fi (mx:=mx) 12
 have t13:=Fi (mx:=mx) 13
 have t14:=Fi (mx:=mx) 14
 have t15:=Fi (mx:=mx) 15
 have t16:=Fi (mx:=mx) 16
 simp only [show ((0:UInt8).toNat:Int)=0 from rfl,show ((12:UInt8).toNat:Int)=12 from rfl,show ((13:UInt8).toNat:Int)=13 from rfl,show ((14:UInt8).toNat:Int)=14 from rfl,show ((15:UInt8).toNat:Int)=15 from rfl,show ((16:UInt8).toNat:Int)=16 from rfl] at t0 t12 t13 t14 t15 t16
 have f33:rh (af (C mx) Tryz.prog 108 Tryz.f108) c.st c.el c.en c.at' c.qu c.pa c.su c.es c.da c.nm 0 0 false 0 0 0 0 false 0 []=some c.ay:=by
  apply Ls
  rfl
 have f24 (d:Ctx):rf (af (C mx) Tryz.prog 108 Tryz.f108) d.st d.el d.en d.at' d.qu d.pa d.su d.es (.u8 d.da) d.nm 0 0 false 0 0 0 0 false 0 []=some d.ay:=by
  apply Lr
  rfl
 have f4:xg (af (C mx) Tryz.prog 108 Tryz.f108) b c.st c.el c.en c.at' c.qu c.pa c.su c.es c.da c.nm 0 0 false 0 0 0 0 false 0 []=some (if b == 62 then bG 0 else if b == 45 then (if c.st == 11 then bG 12 else bG 13) else bG 16:Ctx).ay:=by
  apply PK
  simp only [HJ,aN,gW,bT _ _ (show 11 < 256 by decide),Option.bind_some,ai,t0,t12,t13,t16,ax,zT,aT]
  rfl
 have f13:q9 (af (C mx) Tryz.prog 108 Tryz.f108) b c.st c.el c.en c.at' c.qu c.pa c.su c.es c.da c.nm 0 0 false 0 0 0 0 false 0 []=some (if b == 62 then bg else if b != 45 then bG 15 else if c.st == 13 then bG 14 else ⟨15,0,false,0,0,0,0,false,2,[]⟩:Ctx).ay:=by
  apply Lp
  simp only [C6,aN,cA,gW,bT _ _ (show 13 < 256 by decide),Option.bind_some,ai,t15,t14,xb,ax,zT,aT]
  rfl
 have f20:xi (af (C mx) Tryz.prog 108 Tryz.f108) b (c.st.toNat:Int) c.st c.el c.en c.at' c.qu c.pa c.su c.es c.da c.nm 0 0 false 0 0 0 0 false 0 [] =
   some (if c.st == 15 then (if b == 45 then (if decide (c.da < 2) then { c with da:=c.da+1 } else c) else if c.da == 2 && b == 62 then bG 0 else if c.da == 2 && b == 33 then bg else bG 15)
 else if c.st == 16 then (if b == 62 then bG 0 else c) else c:Ctx).ay:=by
  apply Lq
  simp only [C7,aN,dO,AE,eK,bT _ _ (show 15 < 256 by decide),bT _ _ (show 16 < 256 by decide),Option.bind_some,aA,ai,t0,t15,xb,ax,zT,aT,f33]
  rw [f24 c,f24 { c with da:=c.da+1 }]
  rfl
 have f11:xh (af (C mx) Tryz.prog 108 Tryz.f108) b (c.st.toNat:Int) c.st c.el c.en c.at' c.qu c.pa c.su c.es c.da c.nm 0 0 false 0 0 0 0 false 0 [] =
   some (if c.st == 13 || c.st == 14 then (if b == 62 then bg else if b != 45 then bG 15 else if c.st == 13 then bG 14 else ⟨15,0,false,0,0,0,0,false,2,[]⟩)
 else if c.st == 15 then (if b == 45 then (if decide (c.da < 2) then { c with da:=c.da+1 } else c) else if c.da == 2 && b == 62 then bG 0 else if c.da == 2 && b == 33 then bg else bG 15)
 else if c.st == 16 then (if b == 62 then bG 0 else c) else c:Ctx).ay:=by
  apply Ln
  simp only [C5,bT _ _ (show 13 < 256 by decide),bT _ _ (show 14 < 256 by decide),ai,f13,f20]
  show (if (c.st == 13)=true then _ else if (c.st == 14)=true then _ else _)=_
  by_cases h1:(c.st == 13)=true
  ·rw [if_pos h1];exact congrArg (fun x=>some (Ctx.ay x)) (if_pos (by rw [h1];rfl)).symm
  ·rw [if_neg h1]
   by_cases h2:(c.st == 14)=true
   ·rw [if_pos h2];exact congrArg (fun x=>some (Ctx.ay x)) (if_pos (by rw [h2];simp)).symm
   ·rw [if_neg h2];exact congrArg (fun x=>some (Ctx.ay x)) (if_neg (by simp only [Bool.or_eq_true];exact fun e=>e.elim h1 h2)).symm
 apply W7
 simp only [SZ,gW,bT _ _ (show 11 < 256 by decide),bT _ _ (show 12 < 256 by decide),ai,f4,f11]
 unfold zg
 show (if (c.st == 11)=true then _ else if (c.st == 12)=true then _ else _)=_
 by_cases h1:(c.st == 11)=true
 ·rw [if_pos h1];exact congrArg (fun x=>some (Ctx.ay x)) (if_pos (by rw [h1];rfl)).symm
 ·rw [if_neg h1]
  by_cases h2:(c.st == 12)=true
  ·rw [if_pos h2];exact congrArg (fun x=>some (Ctx.ay x)) (if_pos (by rw [h2];simp)).symm
  ·rw [if_neg h2];exact congrArg (fun x=>some (Ctx.ay x)) (if_neg (by simp only [Bool.or_eq_true];exact fun e=>e.elim h1 h2)).symm
theorem MU (h:c.st=9):uW c.st c.el c.en c.at' c.qu c.pa c.su c.es c.da c.nm b (ae (C mx) Tryz.prog) (af (C mx) Tryz.prog 77 Tryz.f77)=some (tag c b).1.ay:=by
 obtain ⟨st,el,en,at',qu,pa,su,es,da,nm⟩:=c
 simp only at h
 subst h
 have w9:bN ((9:UInt8).toNat:Int)=9:=rfl
 simp only [uW,w9,ai]
 simp only [show ((9:Int) == 0)=false from rfl,show ((9:Int) == 1)=false from rfl,show ((9:Int) == 2)=false from rfl,show ((9:Int) == 3)=false from rfl,show ((9:Int) == 9)=true from rfl,Bool.false_eq_true,if_false,if_true,Bc,xb,aC,aJ,PF,aN,Option.bind_some,ai,ax,zT]
 unfold tag
 simp only [show ((9:UInt8) == 3)=false from rfl,show ((9:UInt8) == 9)=true from rfl,Bool.false_eq_true,if_false,if_true]
 cases bm b <;> cases (b == 47) <;> cases (b == 62) <;> rfl
theorem S3 (h:c.st=9):ae (C mx) Tryz.prog 77 [c.ay,.u8 b]=some (tag c b).1.ay:=by
 apply Y'
 exact MU c b h
end
def xk:Code:=(Tryz.f107.body).getD .skip
def xl (run:RunT) (a:UInt8) (b:AV) (d e:UInt8) (f:Bool) (g i j k:UInt8) (l:Bool) (m:UInt8) (n:List UInt8) (o p:UInt8) (q:Bool) (s t u w:UInt8) (x:Bool) (y:UInt8) (z:List UInt8):Option AV :=
 run ((bP 8 xk []).getD []) (St.bX [(1,.cell (.val (.u8 a))),(2,.cell (.ptr 2 0)),(4,.cell (.ptr 4 0)),(5,.cell (.val b))] [(2,some (cT d e f g i j k l m n)),(4,some (cT o p q s t u w x y z))])
def nV (run:RunT) (a:UInt8) (b d e f g i j k l m:AV) (n o:UInt8) (p:Bool) (q s t u:UInt8) (w:Bool) (x:UInt8) (y:List UInt8):Option AV :=
 run ((bP 20 xk []).getD []) (St.bX [(1,.cell (.val (.u8 a))),(2,.cell (.ptr 2 0)),(4,.cell (.ptr 4 0))] [(2,some (cV b d e f g i j k l m)),(4,some (cT n o p q s t u w x y))])
def ri (run:RunT) (a b d e f g i j k l:AV) (m n:UInt8) (o:Bool) (p q s t:UInt8) (u:Bool) (w:UInt8) (x:List UInt8):Option AV :=
 run ((bP 23 xk []).getD []) (St.bX [(2,.cell (.ptr 2 0)),(4,.cell (.ptr 4 0))] [(2,some (cV a b d e f g i j k l)),(4,some (cT m n o p q s t u w x))])
def S4 (a b:UInt8) (d:Bool) (e f g i:UInt8) (j:Bool) (k:UInt8) (l:List UInt8) (m:UInt8) (c:aq) (r:RunT):Option AV :=
 (c 36 [.int (bN (b.toNat:Int))]).bind fun n=>ah (.b ((bN (a.toNat:Int)) == 18))
 (ah (.b (aO m 47))
 (some (.ag [.u8 19,.u8 b,.b d,.u8 e,.u8 f,.u8 g,.u8 i,.b j,.u8 k,.s l]))
 ((az (.b (aO m 33)) true (some (.b (aO b 3))) (.b false)).bind fun o=>ah o
 ((c 67 []).bind fun p=>(AV.aI 10 p).bind fun q=>some (.ag [gt q 0,gt q 1,gt q 2,gt q 3,gt q 4,gt q 5,gt q 6,gt q 7,gt q 8,gt q 9]))
 (xl r m n a b d e f g i j k l 0 0 false 0 0 0 0 false 0 [])))
 (xl r m n a b d e f g i j k l 0 0 false 0 0 0 0 false 0 [])
theorem Xe (a b d e f g i j k l m) {r:AV} (h:S4 a b d e f g i j k l m (ae (C mx) Tryz.prog) (af (C mx) Tryz.prog 107 Tryz.f107)=some r):ae (C mx) Tryz.prog 107 [.ag [.u8 a,.u8 b,.b d,.u8 e,.u8 f,.u8 g,.u8 i,.b j,.u8 k,.s l],.u8 m]=some r :=
 aj (fun _ _=>by kernel_rfl) h
def HM (a:UInt8) (b:AV) (d e:UInt8) (f:Bool) (g i j k:UInt8) (l:Bool) (m:UInt8) (n:List UInt8) (o p:UInt8) (q:Bool) (s t u w:UInt8) (x:Bool) (y:UInt8) (z:List UInt8) (c:aq) (r:RunT):Option AV :=
 ah (.b ((bN (d.toNat:Int)) == 19))
 ((cy .eql (.s n) b).bind fun A=>(az A true ((c 101 [.u8 a]).bind fun B=>(az B false (some (.b (aO a 47))) (.b true)).bind fun D=>(az D false (some (.b (aO a 62))) (.b true)).bind fun E=>some E) (.b false)).bind fun G=>ah G
 ((az (.b (nN k 0)) true (some (.b (nN k 4))) (.b false)).bind fun H=>ah H
 ((c 67 []).bind fun I=>(AV.aI 10 I).bind fun J=>some (.ag [gt J 0,gt J 1,gt J 2,gt J 3,gt J 4,gt J 5,gt J 6,gt J 7,gt J 8,gt J 9]))
 ((c 77 [.ag [.u8 9,.u8 0,.b true,.u8 0,.u8 0,.u8 0,.u8 0,.b false,.u8 0,.s []],.u8 a]).bind fun L=>(AV.aI 10 L).bind fun M=>some (.ag [gt M 0,gt M 1,gt M 2,gt M 3,gt M 4,gt M 5,gt M 6,gt M 7,gt M 8,gt M 9])))
 ((c 100 [.u8 a]).bind fun N=>(cy .add (.s n) N).bind fun O=>(iQ O).bind fun P=>(iQ b).bind fun Q=>(aH .leq P Q).bind fun R=>(az R true ((iQ O).bind fun T=>(iv b none (some T)).bind fun U=>(cy .eql U O).bind fun V=>some V) (.b false)).bind fun W=>ah W
 ((AV.one O).bind fun Y=>some (.ag [.u8 d,.u8 e,.b f,.u8 g,.u8 i,.u8 j,.u8 k,.b l,.u8 m,Y]))
 ((cy .add (.s [47]) (.s n)).bind fun Z=>(c 133 [.ag [.u8 d,.u8 e,.b f,.u8 g,.u8 i,.u8 j,.u8 k,.b l,.u8 m,.s n],Z]).bind fun v0=>(AV.aI 10 v0).bind fun v1=>(conv .i64 (gt v1 0)).bind fun v2=>(aH .eql v2 (.int 20)).bind fun v3=>ah v3
 ((c 67 []).bind fun v4=>(AV.aI 10 v4).bind fun v5=>some (.ag [gt v5 0,gt v5 1,gt v5 2,gt v5 3,gt v5 4,gt v5 5,gt v5 6,gt v5 7,gt v5 8,gt v5 9]))
 (nV r a (gt v1 0) (gt v1 1) (gt v1 2) (gt v1 3) (gt v1 4) (gt v1 5) (gt v1 6) (gt v1 7) (gt v1 8) (gt v1 9) o p q s t u w x y z))))
 (nV r a (.u8 d) (.u8 e) (.b f) (.u8 g) (.u8 i) (.u8 j) (.u8 k) (.b l) (.u8 m) (.s n) o p q s t u w x y z)
def C8 (a:UInt8) (b d e f g i j k l m:AV) (n o:UInt8) (p:Bool) (q s t u:UInt8) (w:Bool) (x:UInt8) (y:List UInt8) (c:aq) (r:RunT):Option AV :=
 (B2 (.ro 1 (([.u8 a]:List AV)))).bind fun z=>(c 133 [.ag [b,d,e,f,g,i,j,k,l,m],z]).bind fun A=>(AV.aI 10 A).bind fun B=>(conv .i64 (gt B 0)).bind fun D=>(aH .eql D (.int 17)).bind fun E=>(az E true (some (.b (aO a 60))) (.b false)).bind fun G=>ah G
 (ri r (.u8 18) (gt B 1) (gt B 2) (gt B 3) (gt B 4) (gt B 5) (gt B 6) (gt B 7) (gt B 8) (gt B 9) n o p q s t u w x y)
 (ri r (gt B 0) (gt B 1) (gt B 2) (gt B 3) (gt B 4) (gt B 5) (gt B 6) (gt B 7) (gt B 8) (gt B 9) n o p q s t u w x y)
def Lt (a b d e f g i j k l:AV) (m n:UInt8) (o:Bool) (p q s t:UInt8) (u:Bool) (w:UInt8) (x:List UInt8) (c:aq) (r:RunT):Option AV :=
 some (.ag [a,b,d,e,f,g,i,j,k,l])
theorem PL (a b d e f g i j k l m n o p q s t u w x y z) {r:AV} (h:HM a b d e f g i j k l m n o p q s t u w x y z (ae (C mx) Tryz.prog) (af (C mx) Tryz.prog 107 Tryz.f107)=some r):xl (af (C mx) Tryz.prog 107 Tryz.f107) a b d e f g i j k l m n o p q s t u w x y z=some r :=
 ak (fun _ _=>by kernel_rfl) h
theorem Lu (a b d e f g i j k l m n o p q s t u w x y) {r:AV} (h:C8 a b d e f g i j k l m n o p q s t u w x y (ae (C mx) Tryz.prog) (af (C mx) Tryz.prog 107 Tryz.f107)=some r):nV (af (C mx) Tryz.prog 107 Tryz.f107) a b d e f g i j k l m n o p q s t u w x y=some r :=
 ak (fun _ _=>by kernel_rfl) h
theorem Lv (a b d e f g i j k l m n o p q s t u w x) {r:AV} (h:Lt a b d e f g i j k l m n o p q s t u w x (ae (C mx) Tryz.prog) (af (C mx) Tryz.prog 107 Tryz.f107)=some r):ri (af (C mx) Tryz.prog 107 Tryz.f107) a b d e f g i j k l m n o p q s t u w x=some r :=
 ak (fun _ _=>by kernel_rfl) h
section
variable (c:Ctx) (b:UInt8)
theorem Lx (m n:List UInt8):az (.b (decide ((m.length:Int)≤(n.length:Int)))) true ((iv (.s n) none (some (.int (m.length:Int)))).bind fun Wl=>(cy .eql Wl (.s m)).bind fun v91=>some v91) (.b false)=some (.b (pre m n)):=by
 by_cases hl:m.length≤n.length
 ·rw [mK hl];simp [pre,hl]
 ·have:decide ((m.length:Int)≤(n.length:Int))=false:=by simp;omega
  rw [this,gm];simp [pre,hl]
theorem Xf (h:c.nm.length≤100) (hs:c.st=17∨c.st=18∨c.st=19):ae (C mx) Tryz.prog 107 [c.ay,.u8 b]=some (raw c b true).ay:=by
 have f23 (d:Ctx):ri (af (C mx) Tryz.prog 107 Tryz.f107) (.u8 d.st) (.u8 d.el) (.b d.en) (.u8 d.at') (.u8 d.qu) (.u8 d.pa) (.u8 d.su) (.b d.es) (.u8 d.da) (.s d.nm) 0 0 false 0 0 0 0 false 0 []=some d.ay:=by
  apply Lv
  rfl
 have f20 (d:Ctx) (hd:(d.st == 20)=false):nV (af (C mx) Tryz.prog 107 Tryz.f107) b (.u8 d.st) (.u8 d.el) (.b d.en) (.u8 d.at') (.u8 d.qu) (.u8 d.pa) (.u8 d.su) (.b d.es) (.u8 d.da) (.s d.nm) 0 0 false 0 0 0 0 false 0 []=some (qC d b true).ay:=by
  apply Lu
  simp only [C8,Option.bind_some,iI,aC,aJ]
  rw [S1 d [b] (by simp)]
  simp only [Option.bind_some,ax,zT,iG,bA,bT _ _ (show 17 < 256 by decide),aN,aA,ai]
  rw [f23 (mM d [b] true),f23 { mM d [b] true with st:=18 }]
  simp only [qC,hd,aT,Bool.false_eq_true,if_false]
  try rfl
 have a1:cy .add (.s c.nm) (.s [eR b])=some (.s (c.nm ++ [eR b])):=kG (by simp;omega)
 have a2:cy .add (.s [47]) (.s c.nm)=some (.s (47 :: c.nm)):=kG (by simp;omega)
 have a3:=S1 (mx:=mx) c (47 :: c.nm) (by simp;omega)
 have lk:=S3 (mx:=mx) ⟨9,0,true,0,0,0,0,false,0,[]⟩ b rfl
 have f8:xl (af (C mx) Tryz.prog 107 Tryz.f107) b (.s (nameOf c.el)) c.st c.el c.en c.at' c.qu c.pa c.su c.es c.da c.nm 0 0 false 0 0 0 0 false 0 [] =
   some (if c.st == 19 then (if c.nm == nameOf c.el && (bm b || b == 47 || b == 62) then (if !ends c then bg else (tag ⟨9,0,true,0,0,0,0,false,0,[]⟩ b).1) else if pre (c.nm ++ [eR b]) (nameOf c.el) then { c with nm:=c.nm ++ [eR b] } else qC (mM c (47 :: c.nm) true) b true) else qC c b true:Ctx).ay:=by
  apply PL
  simp only [HM,gW,aN,cA,nL,Option.bind_some,aM,aA,ai,Bc,Hz,xb,a1,a2,Gm,lr,aC,aJ,lk,a3,Lx,ax,zT,jW,iG,bA,bT _ _ (show 19 < 256 by decide),bT _ _ (show 20 < 256 by decide),aT]
  have hb:(if ((mM c (47 :: c.nm) true).st == OfNat.ofNat 20)=true then some bg.ay else nV (af (C mx) Tryz.prog 107 Tryz.f107) b (.u8 (mM c (47 :: c.nm) true).st) (.u8 (mM c (47 :: c.nm) true).el) (.b (mM c (47 :: c.nm) true).en) (.u8 (mM c (47 :: c.nm) true).at') (.u8 (mM c (47 :: c.nm) true).qu) (.u8 (mM c (47 :: c.nm) true).pa) (.u8 (mM c (47 :: c.nm) true).su) (.b (mM c (47 :: c.nm) true).es) (.u8 (mM c (47 :: c.nm) true).da) (.s (mM c (47 :: c.nm) true).nm) 0 0 false 0 0 0 0 false 0 [])=some (qC (mM c (47 :: c.nm) true) b true).ay:=by
   by_cases hx:((mM c (47 :: c.nm) true).st == 20)=true
   ·rw [if_pos hx]
    unfold qC
    rw [if_pos hx]
   ·rw [if_neg hx,f20 _ (by simpa using hx)]
  have he:(c.su != 0 && c.su != 4)=!ends c:=by unfold ends bne;cases (c.su == 0) <;> cases (c.su == 4) <;> rfl
  rw [he]
  by_cases Jj:(c.st == 19)=true
  ·refine (if_pos Jj).trans (Eq.trans ?_ (if_pos Jj).symm)
   exact congrArg _ (congrArg _ hb)
  ·refine (if_neg Jj).trans (Eq.trans ?_ (if_neg Jj).symm)
   exact f20 c (by rcases hs with e | e | e <;> rw [e] <;> rfl)
 apply Xe
 simp only [S4,gW,YT,bT _ _ (show 18 < 256 by decide),aN,Option.bind_some,aA,ai,f8,xb,aC,ax,zT]
 unfold raw
 rcases hs with e | e | e
 ·rw [e];rfl
 ·rw [e]
  cases (b == 47) <;> cases (b == 33) <;> cases (c.el == 3) <;> rfl
 ·rw [e]
  simp only [aT]
  cases (c.nm == nameOf c.el) <;> cases (bm b || b == 47 || b == 62) <;> cases pre (c.nm ++ [eR b]) (nameOf c.el) <;> cases ends c <;> rfl
end
def Za (a b:UInt8) (d:Bool) (e f g i:UInt8) (j:Bool) (k:UInt8) (l:List UInt8) (m:UInt8) (c:aq) (r:RunT):Option AV :=
 (c 20 [.ag [.u8 a,.u8 b,.b d,.u8 e,.u8 f,.u8 g,.u8 i,.b j,.u8 k,.s l]]).bind fun n=>(unop .not n).bind fun o=>ah o
 ((c 67 []).bind fun p=>(AV.aI 10 p).bind fun q=>some (.ag [gt q 0,gt q 1,gt q 2,gt q 3,gt q 4,gt q 5,gt q 6,gt q 7,gt q 8,gt q 9]))
 ((c 77 [.ag [.u8 a,.u8 b,.b d,.u8 e,.u8 f,.u8 g,.u8 i,.b j,.u8 k,.s l],.u8 m]).bind fun s=>(AV.aI 10 s).bind fun t=>some (.ag [gt t 0,gt t 1,gt t 2,gt t 3,gt t 4,gt t 5,gt t 6,gt t 7,gt t 8,gt t 9]))
theorem c68 (a b d e f g i j k l m) {r:AV} (h:Za a b d e f g i j k l m (ae (C mx) Tryz.prog) (af (C mx) Tryz.prog 68 Tryz.f68)=some r):ae (C mx) Tryz.prog 68 [.ag [.u8 a,.u8 b,.b d,.u8 e,.u8 f,.u8 g,.u8 i,.b j,.u8 k,.s l],.u8 m]=some r :=
 aj (fun _ _=>by kernel_rfl) h
def S5 (a b:UInt8) (d:Bool) (e f g i:UInt8) (j:Bool) (k:UInt8) (l:List UInt8) (m n:UInt8) (o:Bool) (p q s t:UInt8) (u:Bool) (w:UInt8) (x:List UInt8) (y:UInt8) (c:aq) (r:RunT):Option AV :=
 ah (.b (aO y 61))
 ((c 130 [.s l]).bind fun z=>(conv .u8 z).bind fun A=>(AV.one A).bind fun B=>some (.ag [.u8 7,.u8 n,.b o,B,.u8 q,.u8 s,.u8 t,.b u,.u8 w,.s x]))
 ((az (.b (aO y 47)) false (some (.b (aO y 62))) (.b true)).bind fun D=>ah D
 ((c 77 [.ag [.u8 9,.u8 n,.b o,.u8 p,.u8 q,.u8 s,.u8 t,.b u,.u8 w,.s x],.u8 y]).bind fun E=>(AV.aI 10 E).bind fun G=>some (.ag [gt G 0,gt G 1,gt G 2,gt G 3,gt G 4,gt G 5,gt G 6,gt G 7,gt G 8,gt G 9]))
 ((c 101 [.u8 y]).bind fun H=>ah H
 (some (.ag [.u8 6,.u8 b,.b d,.u8 e,.u8 f,.u8 g,.u8 i,.b j,.u8 k,.s l]))
 (ah (.b ((bN (a.toNat:Int)) == 6))
 ((c 77 [.ag [.u8 4,.u8 n,.b o,.u8 p,.u8 q,.u8 s,.u8 t,.b u,.u8 w,.s x],.u8 y]).bind fun I=>(AV.aI 10 I).bind fun J=>some (.ag [gt J 0,gt J 1,gt J 2,gt J 3,gt J 4,gt J 5,gt J 6,gt J 7,gt J 8,gt J 9]))
 ((az (.b (aO y 34)) false (some (.b (aO y 39))) (.b true)).bind fun L=>(az L false (some (.b (aO y 60))) (.b true)).bind fun M=>ah M
 ((c 67 []).bind fun N=>(AV.aI 10 N).bind fun O=>some (.ag [gt O 0,gt O 1,gt O 2,gt O 3,gt O 4,gt O 5,gt O 6,gt O 7,gt O 8,gt O 9]))
 ((c 103 [.ag [.u8 a,.u8 b,.b d,.u8 e,.u8 f,.u8 g,.u8 i,.b j,.u8 k,.s l],.u8 y]).bind fun P=>(AV.aI 10 P).bind fun Q=>some (.ag [gt Q 0,gt Q 1,gt Q 2,gt Q 3,gt Q 4,gt Q 5,gt Q 6,gt Q 7,gt Q 8,gt Q 9]))))))
theorem Xg (a b d e f g i j k l m n o p q s t u w x y) {r:AV} (h:S5 a b d e f g i j k l m n o p q s t u w x y (ae (C mx) Tryz.prog) (af (C mx) Tryz.prog 105 Tryz.f105)=some r):ae (C mx) Tryz.prog 105 [.ag [.u8 a,.u8 b,.b d,.u8 e,.u8 f,.u8 g,.u8 i,.b j,.u8 k,.s l],.ag [.u8 m,.u8 n,.b o,.u8 p,.u8 q,.u8 s,.u8 t,.b u,.u8 w,.s x],.u8 y]=some r :=
 aj (fun _ _=>by kernel_rfl) h
section
variable (b:UInt8)
theorem Zb:∀ (n:Nat) (c d:Ctx),Q c b→again n c b true=some d→ae (C mx) Tryz.prog 77 [c.ay,.u8 b]=some d.ay
 | 0,c,d,hQ,h=>by cases h
 | n+1,c,d,hQ,h=>by
  have IH:=Zb n
  have oq:=V2 hQ
  have t0:=Fi (mx:=mx) 0
  have t1:=Fi (mx:=mx) 1
  have t2:=Fi (mx:=mx) 2
  have t11:=Fi (mx:=mx) 11
  have t16:=Fi (mx:=mx) 16
  simp only [show ((0:UInt8).toNat:Int)=0 from rfl,show ((1:UInt8).toNat:Int)=1 from rfl,show ((2:UInt8).toNat:Int)=2 from rfl,show ((11:UInt8).toNat:Int)=11 from rfl,show ((16:UInt8).toNat:Int)=16 from rfl] at t0 t1 t2 t11 t16
  have RV (OB:c.st=5∨c.st=6) (hh:(if (named c b).2 then again n (named c b).1 b true else some (named c b).1)=some d):ae (C mx) Tryz.prog 105 [c.ay,(within c 0).ay,.u8 b]=some d.ay:=by
   apply Xg
   simp only [S5,aN,gW,bT _ _ (show 6 < 256 by decide),Option.bind_some,aM,ai,Ws,oT,eK,Bc,xb,PE,aC,aJ,ax,zT]
   have hne:(b == 61)=true→(c.nm != [])=true:=by
    intro hb
    rcases hQ with hf | ⟨_,zY,_⟩
    ·have:=(zj c hf OB).2
     have:=oQ this
     cases hn:c.nm with
     | nil=>rw [hn] at this;exact absurd this.1 (by simp)
     | cons x r=>rfl
    ·rw [hb] at zY;cases zY
   unfold named at hh
   cases zY:(b == 61) with
   | true =>
    rw [zY,hne zY] at hh
    rw [if_pos rfl]
    cases hh;rfl
   | false =>
   rw [zY,Bool.false_and] at hh
   rw [if_neg (by simp)]
   cases AQ:(b == 47 || b == 62) with
   | true =>
    rw [AQ] at hh
    rw [if_pos rfl]
    have hf:form c=true:=by
     rcases hQ with hf | ⟨_,_,hx,_⟩
     ·exact hf
     ·rw [AQ] at hx;cases hx
    have:=IH (within c 9) d (.inl (bQ c hf 9 (by simp))) hh
    rw [show (⟨9,(within c 0).el,(within c 0).en,(within c 0).at',(within c 0).qu,(within c 0).pa,(within c 0).su,(within c 0).es,(within c 0).da,(within c 0).nm⟩:Ctx)=within c 9 from rfl,this]
    simp only [Option.bind_some,ax,zT,aC,aJ]
   | false =>
   rw [AQ] at hh
   rw [if_neg (by simp)]
   cases hbl:bm b with
   | true =>
    rw [hbl] at hh
    rw [if_pos rfl]
    cases hh;rfl
   | false =>
   rw [hbl] at hh
   rw [if_neg (by simp)]
   cases h6:(c.st == 6) with
   | true =>
    rw [h6] at hh
    rw [if_pos (by simp)]
    have hf:form c=true:=by
     rcases hQ with hf | ⟨hx,_⟩
     ·exact hf
     ·rw [hx] at h6;cases h6
    have:=IH (within c 4) d (.inl (bQ c hf 4 (by simp))) hh
    rw [show (⟨4,(within c 0).el,(within c 0).en,(within c 0).at',(within c 0).qu,(within c 0).pa,(within c 0).su,(within c 0).es,(within c 0).da,(within c 0).nm⟩:Ctx)=within c 4 from rfl,this]
    simp only [Option.bind_some,ax,zT,aC,aJ]
   | false =>
   rw [h6] at hh
   rw [if_neg (by simp)]
   cases hq:(b == 34 || b == 39 || b == 60) with
   | true=>rw [hq] at hh;cases hh;rfl
   | false=>rw [hq] at hh;cases hh;rfl
  have f57 (OB:c.st=5∨c.st=6) (hh:(if (named c b).2 then again n (named c b).1 b true else some (named c b).1)=some d):xd (af (C mx) Tryz.prog 77 Tryz.f77) b c.st c.el c.en c.at' c.qu c.pa c.su c.es c.da c.nm 0 0 false 0 0 0 0 false 0 [] 0 c.el c.en 0 0 0 0 false 0 []=some d.ay:=by
   apply PH
   have:=RV OB hh
   simp only [HE,aC,aJ]
   rw [show (⟨0,c.el,c.en,0,0,0,0,false,0,[]⟩:Ctx)=within c 0 from rfl,this]
   simp only [Option.bind_some,ax,zT,aC,aJ]
  have f27 (el:UInt8) (hf:form (within { c with el:=el } 9)=true) (hh:again n (within { c with el:=el } 9) b true=some d):xc (af (C mx) Tryz.prog 77 Tryz.f77) b 0 0 false 0 0 0 0 false 0 [] 0 (.u8 el) c.en 0 0 0 0 false 0 []=some d.ay:=by
   apply PG
   have:=IH (within { c with el:=el } 9) d (.inl hf) hh
   simp only [HB,aC,aJ]
   rw [show (⟨9,el,c.en,0,0,0,0,false,0,[]⟩:Ctx)=within { c with el:=el } 9 from rfl,this]
   simp only [Option.bind_some,ax,zT,aC,aJ]
  have f73 (hs:c.st=17∨c.st=18∨c.st=19):sT (af (C mx) Tryz.prog 77 Tryz.f77) b c.st c.el c.en c.at' c.qu c.pa c.su c.es c.da c.nm 0 0 false 0 0 0 0 false 0 []=some (raw c b true).ay:=by
   apply PI
   simp only [HF,aC,aJ,Xf c b (by omega) hs,Option.bind_some,ax,zT]
  have f74:Bd (af (C mx) Tryz.prog 77 Tryz.f77) b c.st c.el c.en c.at' c.qu c.pa c.su c.es c.da c.nm 0 0 false 0 0 0 0 false 0 []=some (zg c b).ay:=by
   apply PJ
   simp only [HI,aC,aJ,Xd,Option.bind_some,ax,zT]
  have val:=Xc (mx:=mx) c b (by omega)
  unfold again at h
  apply Y'
  rcases hQ with hf | ⟨hx,zY,AQ,hbl⟩
  case inr =>
   have e:c.st=5:=by rw [hx];rfl
   rw [e] at h
   have h:(if (named c b).2 then again n (named c b).1 b true else some (named c b).1)=some d:=by
    unfold tag at h
    rw [e] at h
    exact h
   have:=f57 (.inl e) h
   rw [e] at this ⊢
   exact this
  rcases nP c.st with e | e | e | e | e | e | e | e | e | e | e | e | e | e | e | e | e | e | e | e | e | e
  ·
   have hc:=lx c hf (by simp [e])
   rw [e] at hc
   subst hc
   rw [show (if ((bG 0).st == 0)=true then (if (b == 60)=true then some { bG 0 with st:=1 } else some (bG 0)) else _:Option Ctx)=(if (b == 60)=true then some (bG 1) else some (bG 0)) from rfl] at h
   show ah (.b (aO b 60)) ((ae (C mx) Tryz.prog 98 [.int 1]).bind _) (some (bG 0).ay)=_
   rw [ai,aN,t1]
   cases hb:(b == 60) with
   | true=>rw [hb] at h;cases h;rfl
   | false=>rw [hb] at h;cases h;rfl
  ·have hc:=lx c hf (by simp [e])
   rw [e] at hc
   subst hc
   have h:(if (opened b).2 then some (opened b).1 else again n (bG 0) b true)=some d:=h
   show (ae (C mx) Tryz.prog 99 [.u8 b]).bind _=_
   simp only [Y9,Hz,Option.bind_some,ai,aN,jW,t0,t2,t11,t16,ax,zT,aC,aJ]
   unfold opened at h
   cases hl:letter b with
   | true=>rw [hl] at h;cases h;rfl
   | false =>
   rw [hl] at h
   rw [if_neg (by simp)]
   cases h1:(b == 47) with
   | true=>rw [h1] at h;cases h;rfl
   | false =>
   rw [h1] at h
   rw [if_neg (by simp)]
   cases h2:(b == 33) with
   | true=>rw [h2] at h;cases h;rfl
   | false =>
   rw [h2] at h
   rw [if_neg (by simp)]
   cases h3:(b == 63) with
   | true=>rw [h3] at h;cases h;rfl
   | false =>
   rw [h3] at h
   rw [if_neg (by simp),IH (bG 0) d (.inl rfl) h]
   simp only [Option.bind_some,ax,zT,aC,aJ]
  ·have hc:=lx c hf (by simp [e])
   rw [e] at hc
   subst hc
   have h:some (closed b)=some d:=h
   show (ae (C mx) Tryz.prog 99 [.u8 b]).bind _=_
   simp only [Y9,Hz,Option.bind_some,ai,aN,jW,t0,t2,t11,t16,ax,zT,aC,aJ]
   cases h
   unfold closed
   cases hl:letter b <;> cases h1:(b == 62) <;> rfl
  ·have hh:(if (tag c b).2 then again n (tag c b).1 b true else some (tag c b).1)=some d:=by rw [e] at h;exact h
   unfold uW
   rw [e]
   simp only [show bN ((3:UInt8).toNat:Int)=3 from rfl,Int.reduceBEq,ai,Bool.false_eq_true,if_false,if_true]
   simp only [Bc,Wp,oT,eK,PE,aN,aM,Option.bind_some,ai]
   obtain ⟨hc,_⟩:=zh c hf e
   have AH:c.el=0:=by rw [hc]
   unfold tag at hh
   rw [e] at hh
   have e3:((3:UInt8) == 3)=true:=rfl
   rw [e3,if_pos rfl] at hh
   have Xh:(!bm b && b != 47 && b != 62)=!(bm b || b == 47 || b == 62):=by unfold bne;cases bm b <;> cases (b == 47) <;> cases (b == 62) <;> rfl
   rw [Xh] at hh
   cases hx:(bm b || b == 47 || b == 62) with
   | false =>
    rw [hx] at hh
    rw [if_neg (by simp)]
    have g:=PE (mx:=mx) c b
    unfold Ctx.ay cx at g
    rw [e] at g
    rw [g]
    cases hh
    rfl
   | true =>
    rw [hx] at hh
    rw [if_pos rfl]
    cases hen:c.en with
    | true =>
     rw [hen] at hh
     rw [if_neg (by simp)]
     have:=f27 c.el (bQ c hf 9 (by simp)) hh
     rw [hen] at this
     exact this
    | false =>
     rw [hen] at hh
     rw [if_pos (by simp)]
     have hfe:form (within { c with el:=oO c.nm } 9)=true:=by
      have:=ly 9 (oO c.nm) c.en (by simp)
      unfold within
      rw [this,hen,decide_eq_true (CB c.nm)];rfl
     have:=f27 (oO c.nm) hfe (by
      show again n ⟨9,oO c.nm,c.en,0,0,0,0,false,0,[]⟩ b true=some d
      rw [hen];exact hh)
     rw [hen] at this
     exact this
  ·have hh:(if (tag c b).2 then again n (tag c b).1 b true else some (tag c b).1)=some d:=by rw [e] at h;exact h
   unfold uW
   rw [e]
   simp only [show bN ((4:UInt8).toNat:Int)=4 from rfl,Int.reduceBEq,ai,Bool.false_eq_true,if_false,if_true]
   have hc:=zi c hf (by simp [e])
   unfold tag at hh
   rw [e] at hh
   simp only [show ((4:UInt8) == 3)=false from rfl,show ((4:UInt8) == 9)=false from rfl,show ((4:UInt8) == 10)=false from rfl,show ((4:UInt8) == 4)=true from rfl,Bool.false_eq_true,if_false,if_true] at hh
   simp only [Bc,xb,aN,aM,Option.bind_some,ai,ax,zT,aC,aJ]
   cases hbl:bm b with
   | true=>rw [hbl] at hh;cases hh;rw [if_pos rfl,← e];rfl
   | false =>
   rw [hbl] at hh
   rw [if_neg (by simp)]
   cases AQ:(b == 47 || b == 62) with
   | true =>
    rw [AQ] at hh
    rw [if_pos rfl,show (⟨9,c.el,c.en,0,0,0,0,false,0,[]⟩:Ctx)=within c 9 from rfl,IH (within c 9) d (.inl (bQ c hf 9 (by simp))) hh]
    simp only [Option.bind_some,ax,zT,aC,aJ]
   | false =>
   rw [AQ] at hh
   rw [if_neg (by simp)]
   cases zY:(b == 61) with
   | true=>rw [zY] at hh;cases hh;rfl
   | false =>
    rw [zY] at hh
    have hcw:{ c with st:=5 }=within c 5:=by rw [hc];rfl
    rw [if_neg (by simp),show (⟨5,c.el,c.en,0,0,0,0,false,0,[]⟩:Ctx)=within c 5 from rfl,IH (within c 5) d (.inr ⟨rfl,zY,AQ,hbl⟩) (by rw [← hcw];exact hh)]
    simp only [Option.bind_some,ax,zT,aC,aJ]
  ·have hh:(if (tag c b).2 then again n (tag c b).1 b true else some (tag c b).1)=some d:=by rw [e] at h;exact h
   unfold uW
   rw [e]
   simp only [show bN ((5:UInt8).toNat:Int)=5 from rfl,Int.reduceBEq,ai,Bool.false_eq_true,if_false,if_true]
   have Bf:(if (named c b).2 then again n (named c b).1 b true else some (named c b).1)=some d:=by
    unfold tag at hh
    rw [e] at hh
    exact hh
   have:=f57 (by simp [e]) Bf
   rw [e] at this
   exact this
  ·have hh:(if (tag c b).2 then again n (tag c b).1 b true else some (tag c b).1)=some d:=by rw [e] at h;exact h
   unfold uW
   rw [e]
   simp only [show bN ((6:UInt8).toNat:Int)=6 from rfl,Int.reduceBEq,ai,Bool.false_eq_true,if_false,if_true]
   have Bf:(if (named c b).2 then again n (named c b).1 b true else some (named c b).1)=some d:=by
    unfold tag at hh
    rw [e] at hh
    exact hh
   have:=f57 (by simp [e]) Bf
   rw [e] at this
   exact this
  ·have hh:(if (tag c b).2 then again n (tag c b).1 b true else some (tag c b).1)=some d:=by rw [e] at h;exact h
   unfold uW
   rw [e]
   simp only [show bN ((7:UInt8).toNat:Int)=7 from rfl,Int.reduceBEq,ai,Bool.false_eq_true,if_false,if_true]
   have hc:=zk c hf e
   have Bf:(if (dv c b).2 then again n (dv c b).1 b true else some (dv c b).1)=some d:=by
    unfold tag at hh
    rw [e] at hh
    exact hh
   apply fY
   simp only [fE,Int.reduceBEq,ai,Bool.false_eq_true,if_false,if_true,Bc,xb,aN,aM,Option.bind_some,ai,ax,zT,aC,aJ]
   unfold dv at Bf
   cases hbl:bm b with
   | true=>rw [hbl] at Bf;cases Bf;rw [if_pos rfl,← e];rfl
   | false =>
   rw [hbl] at Bf
   rw [if_neg (by simp)]
   cases Ji:(b == 62) with
   | true=>rw [Ji] at Bf;cases Bf;rfl
   | false =>
   rw [Ji] at Bf
   rw [if_neg (by simp)]
   cases hq:(b == 34 || b == 39) with
   | true=>rw [hq] at Bf;cases Bf;rfl
   | false =>
    rw [hq] at Bf
    obtain ⟨q1,q2⟩:=iJ c hf
    have hf8:form { c with st:=8 }=true:=by
     have:=mO c.el c.at' 0 c.en q1 q2 (qN c hf) (.inl rfl)
     rw [hc];exact this
    rw [if_neg (by simp),show (⟨8,c.el,c.en,c.at',c.qu,c.pa,c.su,c.es,c.da,c.nm⟩:Ctx)={ c with st:=8 } from rfl,IH { c with st:=8 } d (.inl hf8) Bf]
    simp only [Option.bind_some,ax,zT,aC,aJ]
  ·have hh:some (value c b)=some d:=by rw [e] at h;exact h
   unfold uW
   rw [e]
   simp only [show bN ((8:UInt8).toNat:Int)=8 from rfl,Int.reduceBEq,ai,Bool.false_eq_true,if_false,if_true]
   have hv:rvalue c b=value c b:=Ep c b fun _=>KA c b (CA c hf) (GA c hf e)
   rw [hv] at val
   apply fY
   rw [← e]
   simp only [fE,Int.reduceBEq,ai,Bool.false_eq_true,if_false,if_true,ax,zT,aC,aJ]
   rw [show (⟨0,c.el,c.en,0,0,0,0,false,0,[]⟩:Ctx)=within c 0 from rfl,val]
   simp only [Option.bind_some,ax,zT,aC,aJ]
   exact congrArg _ (congrArg _ (Option.some.inj hh))
  ·have hh:(if (tag c b).2 then again n (tag c b).1 b true else some (tag c b).1)=some d:=by rw [e] at h;exact h
   rw [AU c b e,if_neg (by simp)] at hh
   rw [MU c b e]
   cases hh;rfl
  ·have hh:(if (tag c b).2 then again n (tag c b).1 b true else some (tag c b).1)=some d:=by rw [e] at h;exact h
   unfold uW
   rw [e]
   simp only [show bN ((10:UInt8).toNat:Int)=10 from rfl,Int.reduceBEq,ai,Bool.false_eq_true,if_false,if_true]
   unfold tag at hh
   rw [e] at hh
   simp only [show ((10:UInt8) == 3)=false from rfl,show ((10:UInt8) == 9)=false from rfl,show ((10:UInt8) == 10)=true from rfl,Bool.false_eq_true,if_false,if_true] at hh
   have en:=PF (mx:=mx) c
   unfold Ctx.ay cx at en
   rw [e] at en
   simp only [en,aN,Option.bind_some,ai]
   cases Ji:(b == 62) with
   | true=>rw [Ji] at hh;cases hh;rfl
   | false =>
    rw [Ji] at hh
    rw [if_neg (by simp),show (.ag [.u8 4,.u8 c.el,.b c.en,.u8 0,.u8 0,.u8 0,.u8 0,.b false,.u8 0,.s []]:AV)=(within c 4).ay from rfl,IH (within c 4) d (.inl (bQ c hf 4 (by simp))) hh]
    simp only [Option.bind_some,ax,zT,aC,aJ]
  ·have hh:some (note c b)=some d:=by rw [e] at h;exact h
   unfold uW
   rw [e]
   simp only [show bN ((11:UInt8).toNat:Int)=11 from rfl,Int.reduceBEq,ai,Bool.false_eq_true,if_false,if_true]
   rw [gZ c b (fun hx=>(by rw [e] at hx;cases hx))] at f74
   apply fY
   rw [← e]
   simp only [fE,Int.reduceBEq,ai,Bool.false_eq_true,if_false,f74]
   exact congrArg _ (congrArg _ (Option.some.inj hh))
  ·have hh:some (note c b)=some d:=by rw [e] at h;exact h
   unfold uW
   rw [e]
   simp only [show bN ((12:UInt8).toNat:Int)=12 from rfl,Int.reduceBEq,ai,Bool.false_eq_true,if_false,if_true]
   rw [gZ c b (fun hx=>(by rw [e] at hx;cases hx))] at f74
   apply fY
   rw [← e]
   simp only [fE,Int.reduceBEq,ai,Bool.false_eq_true,if_false,f74]
   exact congrArg _ (congrArg _ (Option.some.inj hh))
  ·have hh:some (note c b)=some d:=by rw [e] at h;exact h
   unfold uW
   rw [e]
   simp only [show bN ((13:UInt8).toNat:Int)=13 from rfl,Int.reduceBEq,ai,Bool.false_eq_true,if_false,if_true]
   rw [gZ c b (fun hx=>(by rw [e] at hx;cases hx))] at f74
   apply fY
   rw [← e]
   simp only [fE,Int.reduceBEq,ai,Bool.false_eq_true,if_false,f74]
   exact congrArg _ (congrArg _ (Option.some.inj hh))
  ·have hh:some (note c b)=some d:=by rw [e] at h;exact h
   unfold uW
   rw [e]
   simp only [show bN ((14:UInt8).toNat:Int)=14 from rfl,Int.reduceBEq,ai,Bool.false_eq_true,if_false,if_true]
   rw [gZ c b (fun hx=>(by rw [e] at hx;cases hx))] at f74
   apply fY
   rw [← e]
   simp only [fE,Int.reduceBEq,ai,Bool.false_eq_true,if_false,f74]
   exact congrArg _ (congrArg _ (Option.some.inj hh))
  ·have hh:some (note c b)=some d:=by rw [e] at h;exact h
   unfold uW
   rw [e]
   simp only [show bN ((15:UInt8).toNat:Int)=15 from rfl,Int.reduceBEq,ai,Bool.false_eq_true,if_false,if_true]
   rw [gZ c b (fun hx=>uQ c hf e)] at f74
   apply fY
   rw [← e]
   simp only [fE,Int.reduceBEq,ai,Bool.false_eq_true,if_false,f74]
   exact congrArg _ (congrArg _ (Option.some.inj hh))
  ·have hh:some (note c b)=some d:=by rw [e] at h;exact h
   unfold uW
   rw [e]
   simp only [show bN ((16:UInt8).toNat:Int)=16 from rfl,Int.reduceBEq,ai,Bool.false_eq_true,if_false,if_true]
   rw [gZ c b (fun hx=>(by rw [e] at hx;cases hx))] at f74
   apply fY
   rw [← e]
   simp only [fE,Int.reduceBEq,ai,Bool.false_eq_true,if_false,f74]
   exact congrArg _ (congrArg _ (Option.some.inj hh))
  ·have hh:some (raw c b true)=some d:=by rw [e] at h;exact h
   unfold uW
   rw [e]
   simp only [show bN ((17:UInt8).toNat:Int)=17 from rfl,Int.reduceBEq,ai,Bool.false_eq_true,if_false,if_true]
   apply fY
   rw [← e]
   simp only [fE,Int.reduceBEq,ai,Bool.false_eq_true,if_false,if_true,f73 (by simp [e])]
   exact congrArg _ (congrArg _ (Option.some.inj hh))
  ·have hh:some (raw c b true)=some d:=by rw [e] at h;exact h
   unfold uW
   rw [e]
   simp only [show bN ((18:UInt8).toNat:Int)=18 from rfl,Int.reduceBEq,ai,Bool.false_eq_true,if_false,if_true]
   apply fY
   rw [← e]
   simp only [fE,Int.reduceBEq,ai,Bool.false_eq_true,if_false,if_true,f73 (by simp [e])]
   exact congrArg _ (congrArg _ (Option.some.inj hh))
  ·have hh:some (raw c b true)=some d:=by rw [e] at h;exact h
   unfold uW
   rw [e]
   simp only [show bN ((19:UInt8).toNat:Int)=19 from rfl,Int.reduceBEq,ai,Bool.false_eq_true,if_false,if_true]
   apply fY
   rw [← e]
   simp only [fE,Int.reduceBEq,ai,Bool.false_eq_true,if_false,if_true,f73 (by simp [e])]
   exact congrArg _ (congrArg _ (Option.some.inj hh))
  ·have hh:some (note c b)=some d:=by rw [e] at h;exact h
   unfold uW
   rw [e]
   simp only [show bN ((20:UInt8).toNat:Int)=20 from rfl,Int.reduceBEq,ai,Bool.false_eq_true,if_false,if_true]
   rw [gZ c b (fun hx=>(by rw [e] at hx;cases hx))] at f74
   apply fY
   rw [← e]
   simp only [fE,Int.reduceBEq,ai,Bool.false_eq_true,if_false,f74]
   exact congrArg _ (congrArg _ (Option.some.inj hh))
  ·exfalso
   have t:=(dP (hZ c hf)).1
   rw [decide_eq_true e] at t
   exact t rfl
theorem s77 (c:Ctx) (h:form c=true):ae (C mx) Tryz.prog 77 [c.ay,.u8 b]=some (jX c b).ay :=
 Zb b 4 c _ (.inl h) (wD c b true h)
theorem s68 (c:Ctx) (h:c.nm.length < 9223372036854775808):ae (C mx) Tryz.prog 68 [c.ay,.u8 b]=some (jX c b).ay:=by
 apply c68
 simp only [Za,aC,aJ,Bb (h:=h),Option.bind_some,bq,ai]
 cases hf:form c with
 | true =>
  rw [if_neg (by simp),s77 b c hf]
  simp only [Option.bind_some,ax,zT,aC,aJ]
 | false =>
  rw [if_pos (by simp),xb]
  unfold jX
  rw [AP c b true hf];rfl
end
end eG
namespace eG
open Go Go.Proofs Sx
variable {mx:Int}
end eG
namespace eG
open Go Go.Proofs Sx
variable {mx:Int}
def Zc (a b:UInt8) (d:Bool) (e f g i:UInt8) (j:Bool) (k:UInt8) (l:List UInt8) (m:AV) (c:aq) (r:RunT):Option AV :=
 (c 61 [.ag [.u8 a,.u8 b,.b d,.u8 e,.u8 f,.u8 g,.u8 i,.b j,.u8 k,.s l],m,.fn 62]).bind fun n=>(aV n 0).bind fun o=>(aV n 1).bind fun p=>(AV.aI 10 o).bind fun q=>some (.tu [.ag [gt q 0,gt q 1,gt q 2,gt q 3,gt q 4,gt q 5,gt q 6,gt q 7,gt q 8,gt q 9],p])
theorem c48 (a b d e f g i j k l m) {r:AV} (h:Zc a b d e f g i j k l m (ae (C mx) Tryz.prog) (af (C mx) Tryz.prog 48 Tryz.f48)=some r):ae (C mx) Tryz.prog 48 [.ag [.u8 a,.u8 b,.b d,.u8 e,.u8 f,.u8 g,.u8 i,.b j,.u8 k,.s l],m]=some r :=
 aj (fun _ _=>by kernel_rfl) h
def HN:Code:=(Tryz.f54.body).getD .skip
def C9 (run:RunT) (a b d e f g i j k l m:AV) (n o:UInt8) (p:Bool) (q s t u:UInt8) (w:Bool) (x:UInt8) (y:List UInt8):Option AV :=
 run ((bP 3 HN []).getD []) (St.bX [(1,.cell (.val a)),(2,.cell (.ptr 2 0)),(4,.cell (.ptr 4 0))] [(2,some (cV b d e f g i j k l m)),(4,some (cT n o p q s t u w x y))])
def Da (run:RunT) (a:AV) (b:Int) (d e f g i j k l m n:AV) (o p:UInt8) (q:Bool) (s t u w:UInt8) (x:Bool) (y:UInt8) (z:List UInt8):Option AV :=
 run ((bP 4 HN []).getD []) (St.bX [(1,.cell (.val a)),(2,.cell (.ptr 2 0)),(4,.cell (.ptr 4 0)),(6,.cell (.val (.int b)))] [(2,some (cV d e f g i j k l m n)),(4,some (cT o p q s t u w x y z))])
def Zd (a b:UInt8) (d:Bool) (e f g i:UInt8) (j:Bool) (k:UInt8) (l:List UInt8) (m:AV) (c:aq) (r:RunT):Option AV :=
 (c 20 [.ag [.u8 a,.u8 b,.b d,.u8 e,.u8 f,.u8 g,.u8 i,.b j,.u8 k,.s l]]).bind fun n=>(unop .not n).bind fun o=>ah o
 ((c 67 []).bind fun p=>(AV.aI 10 p).bind fun q=>C9 r m (gt q 0) (gt q 1) (gt q 2) (gt q 3) (gt q 4) (gt q 5) (gt q 6) (gt q 7) (gt q 8) (gt q 9) 0 0 false 0 0 0 0 false 0 [])
 (C9 r m (.u8 a) (.u8 b) (.b d) (.u8 e) (.u8 f) (.u8 g) (.u8 i) (.b j) (.u8 k) (.s l) 0 0 false 0 0 0 0 false 0 [])
theorem c54 (a b d e f g i j k l m) {r:AV} (h:Zd a b d e f g i j k l m (ae (C mx) Tryz.prog) (af (C mx) Tryz.prog 54 Tryz.f54)=some r):ae (C mx) Tryz.prog 54 [.ag [.u8 a,.u8 b,.b d,.u8 e,.u8 f,.u8 g,.u8 i,.b j,.u8 k,.s l],m]=some r :=
 aj (fun _ _=>by kernel_rfl) h
def S6 (a b d e f g i j k l m:AV) (n o:UInt8) (p:Bool) (q s t u:UInt8) (w:Bool) (x:UInt8) (y:List UInt8) (c:aq) (r:RunT):Option AV :=
 Da r a 0 b d e f g i j k l m n o p q s t u w x y
def HP (a:AV) (b:Int) (d e f g i j k l m n:AV) (o p:UInt8) (q:Bool) (s t u w:UInt8) (x:Bool) (y:UInt8) (z:List UInt8) (c:aq) (r:RunT):Option AV :=
 (eP a).bind fun A=>(aH .lss (.int b) A).bind fun B=>ah B
 ((idx 1 a (.int b)).bind fun D=>(c 68 [.ag [d,e,f,g,i,j,k,l,m,n],AV.cell D 0]).bind fun E=>(AV.aI 10 E).bind fun G=>(conv .i64 (gt G 0)).bind fun H=>(aH .eql H (.int 20)).bind fun I=>ah I
 ((c 67 []).bind fun J=>(AV.aI 10 J).bind fun L=>some (.tu [.ag [gt L 0,gt L 1,gt L 2,gt L 3,gt L 4,gt L 5,gt L 6,gt L 7,gt L 8,gt L 9],.int b]))
 (Da r a (bN (b+1)) (gt G 0) (gt G 1) (gt G 2) (gt G 3) (gt G 4) (gt G 5) (gt G 6) (gt G 7) (gt G 8) (gt G 9) o p q s t u w x y z))
 (some (.tu [.ag [d,e,f,g,i,j,k,l,m,n],.int ((-1))]))
theorem S7 (a b d e f g i j k l m n o p q s t u w x y) {r:AV} (h:S6 a b d e f g i j k l m n o p q s t u w x y (ae (C mx) Tryz.prog) (af (C mx) Tryz.prog 54 Tryz.f54)=some r):C9 (af (C mx) Tryz.prog 54 Tryz.f54) a b d e f g i j k l m n o p q s t u w x y=some r :=
 ak (fun _ _=>by kernel_rfl) h
theorem MV (a b d e f g i j k l m n o p q s t u w x y z) {r:AV} (h:HP a b d e f g i j k l m n o p q s t u w x y z (ae (C mx) Tryz.prog) (af (C mx) Tryz.prog 54 Tryz.f54)=some r):Da (af (C mx) Tryz.prog 54 Tryz.f54) a b d e f g i j k l m n o p q s t u w x y z=some r :=
 ak (fun _ _=>by kernel_rfl) h
def HQ:Code:=(Tryz.f61.body).getD .skip
def Db (run:RunT) (a:AV) (b:Nat) (d e:UInt8) (f:Bool) (g i j k:UInt8) (l:Bool) (m:UInt8) (n:List UInt8) (o p:UInt8) (q:Bool) (s t u w:UInt8) (x:Bool) (y:UInt8) (z:List UInt8):Option AV :=
 run ((bP 3 HQ []).getD []) (St.bX [(1,.cell (.val a)),(2,.cell (.val (.fn b))),(3,.cell (.ptr 3 0)),(6,.cell (.ptr 6 0))] [(3,some (cT d e f g i j k l m n)),(6,some (cT o p q s t u w x y z))])
def Dc (run:RunT) (a:Nat) (b d:AV) (e:Int) (f g i j k l m n o p:AV) (q s:UInt8) (t:Bool) (u w x y:UInt8) (z:Bool) (A:UInt8) (B:List UInt8):Option AV :=
 run ((bP 4 HQ []).getD []) (St.bX [(2,.cell (.val (.fn a))),(3,.cell (.ptr 3 0)),(6,.cell (.ptr 6 0)),(14,.cell (.val b)),(15,.cell (.val d)),(16,.cell (.val (.int e)))] [(3,some (cV f g i j k l m n o p)),(6,some (cT q s t u w x y z A B))])
def Ze (a b:UInt8) (d:Bool) (e f g i:UInt8) (j:Bool) (k:UInt8) (l:List UInt8) (m:AV) (n:Nat) (c:aq) (r:RunT):Option AV :=
 (c 17 [.ag [.u8 a,.u8 b,.b d,.u8 e,.u8 f,.u8 g,.u8 i,.b j,.u8 k,.s l]]).bind fun o=>(unop .not o).bind fun p=>ah p
 (Db r m n 20 0 false 0 0 0 0 false 0 [] 0 0 false 0 0 0 0 false 0 [])
 (Db r m n a b d e f g i j k l 0 0 false 0 0 0 0 false 0 [])
theorem c61 (a b d e f g i j k l m n) {r:AV} (h:Ze a b d e f g i j k l m n (ae (C mx) Tryz.prog) (af (C mx) Tryz.prog 61 Tryz.f61)=some r):ae (C mx) Tryz.prog 61 [.ag [.u8 a,.u8 b,.b d,.u8 e,.u8 f,.u8 g,.u8 i,.b j,.u8 k,.s l],m,.fn n]=some r :=
 aj (fun _ _=>by kernel_rfl) h
def MW (a:AV) (b:Nat) (d e:UInt8) (f:Bool) (g i j k:UInt8) (l:Bool) (m:UInt8) (n:List UInt8) (o p:UInt8) (q:Bool) (s t u w:UInt8) (x:Bool) (y:UInt8) (z:List UInt8) (c:aq) (r:RunT):Option AV :=
 (eP a).bind fun A=>Dc r b a A 0 (.u8 d) (.u8 e) (.b f) (.u8 g) (.u8 i) (.u8 j) (.u8 k) (.b l) (.u8 m) (.s n) o p q s t u w x y z
def HR (a:Nat) (b d:AV) (e:Int) (f g i j k l m n o p:AV) (q s:UInt8) (t:Bool) (u w x y:UInt8) (z:Bool) (A:UInt8) (B:List UInt8) (c:aq) (r:RunT):Option AV :=
 (aH .lss (.int e) d).bind fun D=>ah D
 ((idx 1 b (.int e)).bind fun E=>(pB (C mx) c a [.ag [f,g,i,j,k,l,m,n,o,p],AV.cell E 0]).bind fun G=>(AV.aI 10 G).bind fun H=>(aH .eql (gt H 0) (.u8 20)).bind fun I=>ah I
 (some (.tu [.ag [gt H 0,gt H 1,gt H 2,gt H 3,gt H 4,gt H 5,gt H 6,gt H 7,gt H 8,gt H 9],.int e]))
 (Dc r a b d (bN (e+1)) (gt H 0) (gt H 1) (gt H 2) (gt H 3) (gt H 4) (gt H 5) (gt H 6) (gt H 7) (gt H 8) (gt H 9) q s t u w x y z A B))
 (some (.tu [.ag [f,g,i,j,k,l,m,n,o,p],.int ((-1))]))
theorem S8 (a b d e f g i j k l m n o p q s t u w x y z) {r:AV} (h:MW a b d e f g i j k l m n o p q s t u w x y z (ae (C mx) Tryz.prog) (af (C mx) Tryz.prog 61 Tryz.f61)=some r):Db (af (C mx) Tryz.prog 61 Tryz.f61) a b d e f g i j k l m n o p q s t u w x y z=some r :=
 ak (fun _ _=>by kernel_rfl) h
theorem MX (a b d e f g i j k l m n o p q s t u w x y z A B) {r:AV} (h:HR (mx:=mx) a b d e f g i j k l m n o p q s t u w x y z A B (ae (C mx) Tryz.prog) (af (C mx) Tryz.prog 61 Tryz.f61)=some r):Dc (af (C mx) Tryz.prog 61 Tryz.f61) a b d e f g i j k l m n o p q s t u w x y z A B=some r :=
 ak (fun _ _=>by kernel_rfl) h
section
theorem Zf (g:Nat) (f:Ctx→UInt8→Ctx) (bB:∀ c b,form (f c b)=true) (hg:∀ (c:Ctx) (b:UInt8),form c=true→pB (C mx) (ae (C mx) Tryz.prog) g [c.ay,.u8 b]=some (f c b).ay):∀ (r p:List UInt8) (c:Ctx),(p ++ r).length < 9223372036854775808→form c=true →
  Dc (af (C mx) Tryz.prog 61 Tryz.f61) g (.ro 1 ((p ++ r).map .u8)) (.int (((p ++ r).map AV.u8).length:Int)) (p.length:Int) (.u8 c.st) (.u8 c.el) (.b c.en) (.u8 c.at') (.u8 c.qu) (.u8 c.pa) (.u8 c.su) (.b c.es) (.u8 c.da) (.s c.nm) 0 0 false 0 0 0 0 false 0 []=some (ti (gw f c r (p.length:Int)))
 | [],p,c,h,hf=>by
  apply MX
  simp only [HR,bo,Cv,Option.bind_some,ai,Bool.false_eq_true,if_false,List.append_nil,aC,aJ,gw,Cz]
 | b :: r,p,c,h,hf=>by
  apply MX
  have hi:=Gn p b r
  simp only [HR,bo,Cu,hi,lu p b r h,Option.bind_some,ai,if_true,Cs,aC,aJ,hg c b hf,ax,zT,cI,gw,Cz]
  split
  ·rfl
  ·rw [dz,Zf g f bB hg r (p ++ [b]) (f c b) (by rw [← dz];exact h) (bB c b),← sj p b]
theorem s61 (g:Nat) (f:Ctx→UInt8→Ctx) (bB:∀ c b,form (f c b)=true) (hg:∀ (c:Ctx) (b:UInt8),form c=true→pB (C mx) (ae (C mx) Tryz.prog) g [c.ay,.u8 b]=some (f c b).ay) (c:Ctx) (l:List UInt8) (hc:c.nm.length < 9223372036854775808) (h:l.length < 9223372036854775808) :
  ae (C mx) Tryz.prog 61 [c.ay,.ro 1 (l.map .u8),.fn g]=some (ti (gw f (OE c) l 0)):=by
 have key (d:Ctx) (hd:form d=true):Db (af (C mx) Tryz.prog 61 Tryz.f61) (.ro 1 (l.map .u8)) g d.st d.el d.en d.at' d.qu d.pa d.su d.es d.da d.nm 0 0 false 0 0 0 0 false 0 []=some (ti (gw f d l 0)):=by
  apply S8
  simp only [MW,dI,Option.bind_some]
  exact Zf g f bB hg l [] d h hd
 apply c61
 simp only [Ze,aC,aJ,Ht (h:=hc),Option.bind_some,bq,ai]
 unfold OE
 cases hf:form c with
 | true=>rw [if_neg (by simp),if_pos rfl];exact key c hf
 | false=>rw [if_pos (by simp),if_neg (by simp)];exact key bg rfl
theorem s48 (c:Ctx) (l:List UInt8) (hc:c.nm.length < 9223372036854775808) (h:l.length < 9223372036854775808):ae (C mx) Tryz.prog 48 [c.ay,.ro 1 (l.map .u8)]=some (ti (cD c l)):=by
 apply c48
 have:=s61 (mx:=mx) 62 jX lz (fun c b hf=>s62 c b (wH hf)) c l hc h
 simp only [Zc,aC,aJ,this,Option.bind_some,Kv,Kw,ax,zT]
 rfl
theorem Zg:∀ (r p:List UInt8) (c:Ctx),(p ++ r).length < 9223372036854775808→form c=true →
  Da (af (C mx) Tryz.prog 54 Tryz.f54) (.ro 1 ((p ++ r).map .u8)) (p.length:Int) (.u8 c.st) (.u8 c.el) (.b c.en) (.u8 c.at') (.u8 c.qu) (.u8 c.pa) (.u8 c.su) (.b c.es) (.u8 c.da) (.s c.nm) 0 0 false 0 0 0 0 false 0 []=some (ti (gw jX c r (p.length:Int)))
 | [],p,c,h,hf=>by
  apply MV
  simp only [HP,dI,bo,Cv,Option.bind_some,ai,Bool.false_eq_true,if_false,List.append_nil,aC,aJ,gw,Cz]
 | b :: r,p,c,h,hf=>by
  apply MV
  have hi:=Gn p b r
  simp only [HP,dI,bo,Cu,hi,lu p b r h,Option.bind_some,ai,if_true,Cs,aC,aJ,s68 b c (wH hf),xb,ax,zT,iG,bA,bT _ _ (show 20 < 256 by decide),gw,Cz]
  by_cases hx:((jX c b).st == 20)=true
  ·rw [if_pos hx]
   refine Eq.trans ?_ (congrArg (fun x=>some (ti x)) (if_pos hx).symm)
   rw [OG (lz c b) hx]
  ·rw [if_neg hx]
   refine Eq.trans ?_ (congrArg (fun x=>some (ti x)) (if_neg hx).symm)
   rw [dz,Zg r (p ++ [b]) (jX c b) (by rw [← dz];exact h) (lz c b),← sj p b]
theorem s54 (c:Ctx) (l:List UInt8) (hc:c.nm.length < 9223372036854775808) (h:l.length < 9223372036854775808):ae (C mx) Tryz.prog 54 [c.ay,.ro 1 (l.map .u8)]=some (ti (cD c l)):=by
 have key (d:Ctx) (hd:form d=true):C9 (af (C mx) Tryz.prog 54 Tryz.f54) (.ro 1 (l.map .u8)) (.u8 d.st) (.u8 d.el) (.b d.en) (.u8 d.at') (.u8 d.qu) (.u8 d.pa) (.u8 d.su) (.b d.es) (.u8 d.da) (.s d.nm) 0 0 false 0 0 0 0 false 0 []=some (ti (gw jX d l 0)):=by
  apply S7
  exact Zg l [] d h hd
 apply c54
 simp only [Zd,aC,aJ,Bb (h:=hc),xb,Option.bind_some,bq,ai,ax,zT]
 unfold cD OE
 cases hf:form c with
 | true=>rw [if_neg (by simp),if_pos rfl];exact key c hf
 | false=>rw [if_pos (by simp),if_neg (by simp)];exact key bg rfl
end
def Xi (a:Int) (b d:UInt8) (e:Bool) (f g i j:UInt8) (k:Bool) (l:UInt8) (m:List UInt8) (n:List AV) (o:AV) (p q:Int) (c:aq) (r:RunT):Option AV :=
 (lS n.length (.int a)).bind fun s=>(aH .eql (AV.cell (n.getD s .un) 0) (.u8 0)).bind fun t=>ah t
 ((Ny (AV.cell (n.getD s .un) 2)).bind fun u=>(c 48 [.ag [.u8 b,.u8 d,.b e,.u8 f,.u8 g,.u8 i,.u8 j,.b k,.u8 l,.s m],u]).bind fun w=>(aV w 0).bind fun x=>(aV w 1).bind fun y=>(AV.aI 10 x).bind fun z=>(aH .geq y (.int 0)).bind fun A=>ah A
 ((aH .add (AV.cell (n.getD s .un) 1) y).bind fun B=>(c 49 [.un,B,.int 5,.ag [.ro 9 n,o,.int p,.int q]]).bind fun D=>(aV D 0).bind fun E=>(aV D 1).bind fun G=>(AV.aI 4 G).bind fun H=>(AV.aI 10 E).bind fun I=>some (.tu [.ag [gt I 0,gt I 1,gt I 2,gt I 3,gt I 4,gt I 5,gt I 6,gt I 7,gt I 8,gt I 9],.ag [.ro 9 (AV.elems (gt H 0)),gt H 1,gt H 2,gt H 3]]))
 (some (.tu [.ag [gt z 0,gt z 1,gt z 2,gt z 3,gt z 4,gt z 5,gt z 6,gt z 7,gt z 8,gt z 9],.ag [.ro 9 n,o,.int p,.int q]])))
 ((aH .eql (AV.cell (n.getD s .un) 0) (.u8 1)).bind fun J=>ah J
 ((c 50 [.ag [.u8 b,.u8 d,.b e,.u8 f,.u8 g,.u8 i,.u8 j,.b k,.u8 l,.s m]]).bind fun L=>(aH .eql L (.u8 0)).bind fun M=>ah M
 ((c 49 [.un,AV.cell (n.getD s .un) 1,.int 6,.ag [.ro 9 n,o,.int p,.int q]]).bind fun N=>(aV N 0).bind fun O=>(aV N 1).bind fun P=>(AV.aI 4 P).bind fun Q=>(AV.aI 10 O).bind fun R=>some (.tu [.ag [gt R 0,gt R 1,gt R 2,gt R 3,gt R 4,gt R 5,gt R 6,gt R 7,gt R 8,gt R 9],.ag [.ro 9 (AV.elems (gt Q 0)),gt Q 1,gt Q 2,gt Q 3]]))
 ((lS n.length (.int a)).bind fun T=>(AV.one L).bind fun U=>(c 51 [.ag [.u8 b,.u8 d,.b e,.u8 f,.u8 g,.u8 i,.u8 j,.b k,.u8 l,.s m]]).bind fun V=>(AV.aI 10 V).bind fun W=>some (.tu [.ag [gt W 0,gt W 1,gt W 2,gt W 3,gt W 4,gt W 5,gt W 6,gt W 7,gt W 8,gt W 9],.ag [.ro 9 (n.set T (.ag [AV.cell (n.getD T .un) 0,AV.cell (n.getD T .un) 1,AV.cell (n.getD T .un) 2,AV.cell (n.getD T .un) 3,AV.cell (n.getD T .un) 4,AV.cell (n.getD T .un) 5,AV.cell (n.getD T .un) 6,AV.cell (n.getD T .un) 7,U])),o,.int p,.int q]])))
 ((aH .eql (AV.cell (n.getD s .un) 0) (.u8 2)).bind fun Y=>ah Y
 ((c 19 [.un,AV.cell (n.getD s .un) 5,.ag [.u8 b,.u8 d,.b e,.u8 f,.u8 g,.u8 i,.u8 j,.b k,.u8 l,.s m],.ag [.ro 9 n,o,.int p,.int q]]).bind fun Z=>(aV Z 0).bind fun v0=>(aV Z 1).bind fun v1=>(AV.aI 4 v1).bind fun v2=>(AV.aI 10 v0).bind fun v3=>(aH .neq (gt v2 3) (.int 0)).bind fun v4=>ah v4
 (some (.tu [.ag [gt v3 0,gt v3 1,gt v3 2,gt v3 3,gt v3 4,gt v3 5,gt v3 6,gt v3 7,gt v3 8,gt v3 9],.ag [.ro 9 (AV.elems (gt v2 0)),gt v2 1,gt v2 2,gt v2 3]]))
 ((c 19 [.un,AV.cell (n.getD s .un) 6,.ag [.u8 b,.u8 d,.b e,.u8 f,.u8 g,.u8 i,.u8 j,.b k,.u8 l,.s m],.ag [.ro 9 (AV.elems (gt v2 0)),gt v2 1,gt v2 2,gt v2 3]]).bind fun v5=>(aV v5 0).bind fun v6=>(aV v5 1).bind fun v7=>(AV.aI 4 v7).bind fun v8=>(AV.aI 10 v6).bind fun v9=>(aH .eql (gt v8 3) (.int 0)).bind fun w0=>(az (w0) true ((fM [.i,.i,.b,.i,.i,.i,.i,.b,.i,.s] .neq (.ag [gt v3 0,gt v3 1,gt v3 2,gt v3 3,gt v3 4,gt v3 5,gt v3 6,gt v3 7,gt v3 8,gt v3 9]) (.ag [gt v9 0,gt v9 1,gt v9 2,gt v9 3,gt v9 4,gt v9 5,gt v9 6,gt v9 7,gt v9 8,gt v9 9])).bind fun w1=>some (w1)) (.b false)).bind fun w2=>ah (w2)
 ((c 49 [.un,AV.cell (n.getD s .un) 1,.int 7,.ag [.ro 9 (AV.elems (gt v8 0)),gt v8 1,gt v8 2,gt v8 3]]).bind fun w3=>(aV w3 0).bind fun w4=>(aV w3 1).bind fun w5=>(AV.aI 4 w5).bind fun w6=>(AV.aI 10 (w4)).bind fun w7=>some (.tu [.ag [gt w7 0,gt w7 1,gt w7 2,gt w7 3,gt w7 4,gt w7 5,gt w7 6,gt w7 7,gt w7 8,gt w7 9],.ag [.ro 9 (AV.elems (gt w6 0)),gt w6 1,gt w6 2,gt w6 3]]))
 (some (.tu [.ag [gt v9 0,gt v9 1,gt v9 2,gt v9 3,gt v9 4,gt v9 5,gt v9 6,gt v9 7,gt v9 8,gt v9 9],.ag [.ro 9 (AV.elems (gt v8 0)),gt v8 1,gt v8 2,gt v8 3]]))))
 ((aH .eql (AV.cell (n.getD s .un) 0) (.u8 3)).bind fun w8=>ah (w8)
 ((c 19 [.un,AV.cell (n.getD s .un) 5,.ag [.u8 b,.u8 d,.b e,.u8 f,.u8 g,.u8 i,.u8 j,.b k,.u8 l,.s m],.ag [.ro 9 n,o,.int p,.int q]]).bind fun w9=>(aV w9 0).bind fun y0=>(aV w9 1).bind fun y1=>(AV.aI 4 y1).bind fun y2=>(AV.aI 10 (y0)).bind fun y3=>(aH .eql (gt y2 3) (.int 0)).bind fun y4=>(az (y4) true ((fM [.i,.i,.b,.i,.i,.i,.i,.b,.i,.s] .neq (.ag [gt y3 0,gt y3 1,gt y3 2,gt y3 3,gt y3 4,gt y3 5,gt y3 6,gt y3 7,gt y3 8,gt y3 9]) (.ag [.u8 b,.u8 d,.b e,.u8 f,.u8 g,.u8 i,.u8 j,.b k,.u8 l,.s m])).bind fun y5=>some (y5)) (.b false)).bind fun y6=>ah (y6)
 ((c 49 [.un,AV.cell (n.getD s .un) 1,.int 7,.ag [.ro 9 (AV.elems (gt y2 0)),gt y2 1,gt y2 2,gt y2 3]]).bind fun y7=>(aV y7 0).bind fun y8=>(aV y7 1).bind fun y9=>(AV.aI 4 y9).bind fun z0=>(AV.aI 10 (y8)).bind fun z1=>some (.tu [.ag [gt z1 0,gt z1 1,gt z1 2,gt z1 3,gt z1 4,gt z1 5,gt z1 6,gt z1 7,gt z1 8,gt z1 9],.ag [.ro 9 (AV.elems (gt z0 0)),gt z0 1,gt z0 2,gt z0 3]]))
 (some (.tu [.ag [gt y3 0,gt y3 1,gt y3 2,gt y3 3,gt y3 4,gt y3 5,gt y3 6,gt y3 7,gt y3 8,gt y3 9],.ag [.ro 9 (AV.elems (gt y2 0)),gt y2 1,gt y2 2,gt y2 3]])))
 (some (.tu [.ag [.u8 b,.u8 d,.b e,.u8 f,.u8 g,.u8 i,.u8 j,.b k,.u8 l,.s m],.ag [.ro 9 n,o,.int p,.int q]])))))
theorem c33 (a b d e f g i j k l m n o p q) {r:AV} (h:Xi a b d e f g i j k l m n o p q (ae (C mx) Tryz.prog) (af (C mx) Tryz.prog 33 Tryz.f33)=some r):ae (C mx) Tryz.prog 33 [.un,.int a,.ag [.u8 b,.u8 d,.b e,.u8 f,.u8 g,.u8 i,.u8 j,.b k,.u8 l,.s m],.ag [.ro 9 n,o,.int p,.int q]]=some r :=
 aj (fun _ _=>by kernel_rfl) h
def HT:Code:=(Tryz.f19.body).getD .skip
def zx (run:RunT) (a b:AV) (d:Int) (e f g i j k l m n o:AV) (p q:UInt8) (s:Bool) (t u w x:UInt8) (y:Bool) (z:UInt8) (A:List UInt8) (B:List AV) (D E G:AV):Option AV :=
 run ((bP 2 HT []).getD []) (St.bX [(0,.cell (.ptr 26 0)),(5,.cell (.ptr 5 0)),(6,.cell (.ptr 6 0)),(9,.cell (.val a)),(10,.cell (.val b)),(11,.cell (.val (.int d)))] [(5,some (cV e f g i j k l m n o)),(6,some (cT p q s t u w x y z A)),(26,some [.own 626000 58 9 B,.val D,.val E,.val (G)])])
def HV (run:RunT) (a b d e f g i j k l:AV) (m n:UInt8) (o:Bool) (p q s t:UInt8) (u:Bool) (w:UInt8) (x:List UInt8) (y:List AV) (z A B:AV):Option AV :=
 run ((bP 7 HT []).getD []) (St.bX [(5,.cell (.ptr 5 0)),(6,.cell (.ptr 6 0))] [(5,some (cV a b d e f g i j k l)),(6,some (cT m n o p q s t u w x)),(26,some [.own 626000 58 9 y,.val z,.val A,.val (B)])])
def Zh (a:AV) (b d:UInt8) (e:Bool) (f g i j:UInt8) (k:Bool) (l:UInt8) (m:List UInt8) (n:List AV) (o:AV) (p q:Int) (c:aq) (r:RunT):Option AV :=
 (eP a).bind fun s=>zx r a s 0 (.u8 b) (.u8 d) (.b e) (.u8 f) (.u8 g) (.u8 i) (.u8 j) (.b k) (.u8 l) (.s m) 0 0 false 0 0 0 0 false 0 [] n o (.int p) (.int q)
theorem c19 (a b d e f g i j k l m n o p q) {r:AV} (h:Zh a b d e f g i j k l m n o p q (ae (C mx) Tryz.prog) (af (C mx) Tryz.prog 19 Tryz.f19)=some r):ae (C mx) Tryz.prog 19 [.un,a,.ag [.u8 b,.u8 d,.b e,.u8 f,.u8 g,.u8 i,.u8 j,.b k,.u8 l,.s m],.ag [.ro 9 n,o,.int p,.int q]]=some r :=
 aj (fun _ _=>by kernel_rfl) h
def Dd (a b:AV) (d:Int) (e f g i j k l m n o:AV) (p q:UInt8) (s:Bool) (t u w x:UInt8) (y:Bool) (z:UInt8) (A:List UInt8) (B:List AV) (D E G:AV) (c:aq) (r:RunT):Option AV :=
 (aH .lss (.int d) b).bind fun H=>ah H
 ((idx 1 a (.int d)).bind fun I=>(c 33 [.un,AV.cell I 0,.ag [e,f,g,i,j,k,l,m,n,o],.ag [.ro 9 B,D,E,G]]).bind fun J=>(aV J 0).bind fun L=>(aV J 1).bind fun M=>(AV.aI 4 M).bind fun N=>(AV.aI 10 L).bind fun O=>(aH .neq (gt N 3) (.int 0)).bind fun P=>ah P
 (HV r (gt O 0) (gt O 1) (gt O 2) (gt O 3) (gt O 4) (gt O 5) (gt O 6) (gt O 7) (gt O 8) (gt O 9) p q s t u w x y z A (AV.elems (gt N 0)) (gt N 1) (gt N 2) (gt N 3))
 (zx r a b (bN (d+1)) (gt O 0) (gt O 1) (gt O 2) (gt O 3) (gt O 4) (gt O 5) (gt O 6) (gt O 7) (gt O 8) (gt O 9) p q s t u w x y z A (AV.elems (gt N 0)) (gt N 1) (gt N 2) (gt N 3)))
 (HV r e f g i j k l m n o p q s t u w x y z A B D E G)
def S9 (a b d e f g i j k l:AV) (m n:UInt8) (o:Bool) (p q s t:UInt8) (u:Bool) (w:UInt8) (x:List UInt8) (y:List AV) (z A B:AV) (c:aq) (r:RunT):Option AV :=
 some (.tu [.ag [a,b,d,e,f,g,i,j,k,l],.ag [.ro 9 y,z,A,B]])
theorem S' (a b d e f g i j k l m n o p q s t u w x y z A B D E G) {r:AV} (h:Dd a b d e f g i j k l m n o p q s t u w x y z A B D E G (ae (C mx) Tryz.prog) (af (C mx) Tryz.prog 19 Tryz.f19)=some r):zx (af (C mx) Tryz.prog 19 Tryz.f19) a b d e f g i j k l m n o p q s t u w x y z A B D E G=some r :=
 ak (fun _ _=>by kernel_rfl) h
theorem MZ (a b d e f g i j k l m n o p q s t u w x y z A B) {r:AV} (h:S9 a b d e f g i j k l m n o p q s t u w x y z A B (ae (C mx) Tryz.prog) (af (C mx) Tryz.prog 19 Tryz.f19)=some r):HV (af (C mx) Tryz.prog 19 Tryz.f19) a b d e f g i j k l m n o p q s t u w x y z A B=some r :=
 ak (fun _ _=>by kernel_rfl) h
def X49 (a b:Int) (d:List AV) (e:AV) (f g:Int) (c:aq) (r:RunT):Option AV :=
 some (.tu [.ag [.u8 20,.u8 0,.b false,.u8 0,.u8 0,.u8 0,.u8 0,.b false,.u8 0,.s []],.ag [.ro 9 d,e,.int a,.int b]])
theorem c49 (a b d e f g) {r:AV} (h:X49 a b d e f g (ae (C mx) Tryz.prog) (af (C mx) Tryz.prog 49 Tryz.f49)=some r):ae (C mx) Tryz.prog 49 [.un,.int a,.int b,.ag [.ro 9 d,e,.int f,.int g]]=some r :=
 aj (fun _ _=>by kernel_rfl) h
end eG
namespace R3
open Go Go.Proofs Sx
variable {mx:Int}
def Zi (a:List UInt8) (c:aq) (r:RunT):Option AV :=
 (az (.b (a == [])) false (some (.b false)) (.b true)).bind fun b=>ah b
 (some (.s a))
 ((c 83 [.s a,.u8 32]).bind fun d=>(c 82 [d,.u8 32]).bind fun e=>some e)
theorem c70 a {r:AV} (h:Zi a (ae (C mx) Tryz.prog) (af (C mx) Tryz.prog 70 Tryz.f70)=some r):ae (C mx) Tryz.prog 70 [.s a,.s [32]]=some r :=
 aj (fun _ _=>by kernel_rfl) h
def Zj (a:List UInt8) (c:aq) (r:RunT):Option AV :=
 (az (.b (a == [])) false (some (.b false)) (.b true)).bind fun b=>ah b
 (some (.s a))
 ((c 82 [.s a,.u8 32]).bind fun d=>some d)
theorem c72 a {r:AV} (h:Zj a (ae (C mx) Tryz.prog) (af (C mx) Tryz.prog 72 Tryz.f72)=some r):ae (C mx) Tryz.prog 72 [.s a,.s [32]]=some r :=
 aj (fun _ _=>by kernel_rfl) h
def De (run:RunT) (a:AV) (b:UInt8):Option AV :=
 run ((bP 1 ((Tryz.f82.body).getD .skip) []).getD []) (St.bX [(0,.cell (.val a)),(1,.cell (.val (.u8 b)))] [])
def X82 (a:List UInt8) (b:UInt8) (c:aq) (r:RunT):Option AV :=
 De r (.s a) b
theorem c82 (a b) {r:AV} (h:X82 a b (ae (C mx) Tryz.prog) (af (C mx) Tryz.prog 82 Tryz.f82)=some r):ae (C mx) Tryz.prog 82 [.s a,.u8 b]=some r :=
 aj (fun _ _=>by kernel_rfl) h
def M0 (a:AV) (b:UInt8) (c:aq) (r:RunT):Option AV :=
 (iQ a).bind fun d=>(aH .gtr d (.int 0)).bind fun e=>(az e true ((dm a (.int 0)).bind fun f=>(aH .eql f (.u8 b)).bind fun g=>some g) (.b false)).bind fun i=>ah i
 ((iv a (some (.int 1)) none).bind fun j=>De r j b)
 (some a)
theorem M3 (a b) {r:AV} (h:M0 a b (ae (C mx) Tryz.prog) (af (C mx) Tryz.prog 82 Tryz.f82)=some r):De (af (C mx) Tryz.prog 82 Tryz.f82) a b=some r :=
 ak (fun _ _=>by kernel_rfl) h
def Df (run:RunT) (a:AV) (b:UInt8):Option AV :=
 run ((bP 1 ((Tryz.f83.body).getD .skip) []).getD []) (St.bX [(0,.cell (.val a)),(1,.cell (.val (.u8 b)))] [])
def X83 (a:List UInt8) (b:UInt8) (c:aq) (r:RunT):Option AV :=
 Df r (.s a) b
theorem c83 (a b) {r:AV} (h:X83 a b (ae (C mx) Tryz.prog) (af (C mx) Tryz.prog 83 Tryz.f83)=some r):ae (C mx) Tryz.prog 83 [.s a,.u8 b]=some r :=
 aj (fun _ _=>by kernel_rfl) h
def M4 (a:AV) (b:UInt8) (c:aq) (r:RunT):Option AV :=
 (iQ a).bind fun d=>(aH .gtr d (.int 0)).bind fun e=>(az e true ((iQ a).bind fun f=>(aH .sub f (.int 1)).bind fun g=>(dm a g).bind fun i=>(aH .eql i (.u8 b)).bind fun j=>some j) (.b false)).bind fun k=>ah k
 ((iQ a).bind fun l=>(aH .sub l (.int 1)).bind fun m=>(iv a none (some m)).bind fun n=>Df r n b)
 (some a)
theorem M5 (a b) {r:AV} (h:M4 a b (ae (C mx) Tryz.prog) (af (C mx) Tryz.prog 83 Tryz.f83)=some r):Df (af (C mx) Tryz.prog 83 Tryz.f83) a b=some r :=
 ak (fun _ _=>by kernel_rfl) h
theorem kO (a b:AV):aV (.tu [a,b]) 0=some a:=rfl
theorem kP (a b:AV):aV (.tu [a,b]) 1=some b:=rfl
theorem kQ (l:List UInt8):iQ (.s l)=some (.int (l.length:Int)):=rfl
theorem UB (n:Nat):aH .gtr (.int ((n+1:Nat):Int)) (.int 0)=some (.b true):=by
 rw [wj];congr 2;rw [decide_eq_true_eq];omega
def cf (b:UInt8) (l:List UInt8):List UInt8:=l.dropWhile (· == b)
def cp (b:UInt8) (l:List UInt8):List UInt8:=(l.reverse.dropWhile (· == b)).reverse
theorem Zk (b:UInt8):∀ (l:List UInt8),l.length≤1000000000→De (af (C mx) Tryz.prog 82 Tryz.f82) (.s l) b=some (.s (cf b l))
 | [],_=>by
  apply M3
  rfl
 | x :: r,h=>by
  apply M3
  have ih:=Zk b r (by simp at h;omega)
  have hi:dm (.s (x :: r)) (.int 0)=some (.u8 x):=e9 (i:=0) (l:=x :: r) (by simp)
  have hs:iv (.s (x :: r)) (some (.int 1)) none=some (.s r):=mL (l:=x :: r) (i:=1) (by simp)
  simp only [M0,kQ,List.length_cons,UB,hi,hs,Option.bind_some,cI,aA,Bool.true_and,ai]
  unfold cf
  rw [List.dropWhile_cons]
  cases hx:(x == b) with
  | true=>simp only [if_true];exact ih
  | false=>simp only [Bool.false_eq_true,if_false]
theorem Zl (b:UInt8) (l:List UInt8) (h:l.length≤1000000000):ae (C mx) Tryz.prog 82 [.s l,.u8 b]=some (.s (cf b l)):=by
 apply c82
 exact Zk b l h
theorem Zm (b:UInt8):∀ (n:Nat) (l:List UInt8),l.length=n→n≤1000000000→Df (af (C mx) Tryz.prog 83 Tryz.f83) (.s l) b=some (.s (cp b l))
 | 0,l,hn,h=>by
  obtain rfl:=List.eq_nil_of_length_eq_zero hn
  apply M5
  rfl
 | n+1,l,hn,h=>by
  apply M5
  obtain ⟨p,x,rfl⟩:∃ p x,l=p ++ [x]:=by
   rcases List.eq_nil_or_concat l with e | ⟨p,x,e⟩
   ·rw [e] at hn;cases hn
   ·exact ⟨p,x,by simpa using e⟩
  have hp:p.length=n:=by simpa using hn
  have ih:=Zm b n p hp (by omega)
  have hl:(p ++ [x]).length=p.length+1:=by simp
  have kp:aH .sub (.int ((p.length+1:Nat):Int)) (.int 1)=some (.int (p.length:Int)):=by
   show some (AV.int (bN _))=_
   rw [cJ (by omega) (by omega)];congr 2;omega
  have hi:dm (.s (p ++ [x])) (.int (p.length:Int))=some (.u8 x):=iH p x []
  have hs:iv (.s (p ++ [x])) none (some (.int (p.length:Int)))=some (.s p):=by
   rw [mK (by simp)];simp
  simp only [M4,kQ,hl,UB,kp,hi,hs,Option.bind_some,cI,aA,Bool.true_and,ai]
  unfold cp
  rw [List.reverse_append,List.reverse_singleton,List.singleton_append,List.dropWhile_cons]
  cases hx:(x == b) with
  | true=>simp only [if_true];exact ih
  | false=>simp only [Bool.false_eq_true,if_false];simp
theorem s83 (b:UInt8) (l:List UInt8) (h:l.length≤1000000000):ae (C mx) Tryz.prog 83 [.s l,.u8 b]=some (.s (cp b l)):=by
 apply c83
 exact Zm b l.length l rfl h
def kR (l:List UInt8):List UInt8:=cf 32 (cp 32 l)
theorem o5 (b:UInt8) (l:List UInt8):(cp b l).length≤l.length:=by
 unfold cp
 have:=(List.dropWhile_sublist (p:=(· == b)) (l:=l.reverse)).length_le
 simpa using this
theorem jm (b:UInt8) (l:List UInt8):(cf b l).length≤l.length:=(List.dropWhile_sublist (p:=(· == b)) (l:=l)).length_le
theorem uX (l:List UInt8):(kR l).length≤l.length:=Nat.le_trans (jm _ _) (o5 _ _)
theorem s70 (l:List UInt8) (h:l.length≤1000000000):ae (C mx) Tryz.prog 70 [.s l,.s [32]]=some (.s (kR l)):=by
 apply c70
 have h1:=s83 (mx:=mx) 32 l h
 have h2:=Zl (mx:=mx) 32 (cp 32 l) (Nat.le_trans (o5 _ _) h)
 simp only [Zi,aM,Bool.or_false,Option.bind_some,ai,h1,h2]
 cases l with
 | nil=>rfl
 | cons x r=>rfl
theorem Zn (l:List UInt8) (h:l.length≤1000000000):ae (C mx) Tryz.prog 72 [.s l,.s [32]]=some (.s (cf 32 l)):=by
 apply c72
 have h2:=Zl (mx:=mx) 32 l h
 simp only [Zj,aM,Bool.or_false,Option.bind_some,ai,h2]
 cases l with
 | nil=>rfl
 | cons x r=>rfl
def R8 (a b:List UInt8) (c:aq) (r:RunT):Option AV :=
 (c 57 [.s a,.s b]).bind fun d=>some d
theorem V9 (a b) {r:AV} (h:R8 a b (ae (C mx) Tryz.prog) (af (C mx) Tryz.prog 42 Tryz.f42)=some r):ae (C mx) Tryz.prog 42 [.s a,.s b]=some r :=
 aj (fun _ _=>by kernel_rfl) h
def Sd (a b:List UInt8) (c:aq) (r:RunT):Option AV :=
 (az (.b (decide (((a.length:Int)) ≥ ((b.length:Int))))) true ((iv (.s a) none (some (.int ((b.length:Int))))).bind fun d=>(cy .eql d (.s b)).bind fun e=>some e) (.b false)).bind fun f=>some f
theorem V' (a b) {r:AV} (h:Sd a b (ae (C mx) Tryz.prog) (af (C mx) Tryz.prog 57 Tryz.f57)=some r):ae (C mx) Tryz.prog 57 [.s a,.s b]=some r :=
 aj (fun _ _=>by kernel_rfl) h
def sU (run:RunT) (a:AV) (b d:UInt8) (e:Int) (f:List UInt8) (g:Bool) (i:AV):Option AV :=
 run ((bP 18 ((Tryz.f59.body).getD .skip) []).getD []) (St.bX [(0,.cell (.val a)),(2,.cell (.ptr 2 0)),(4,.cell (.val (.u8 b)))] [(2,some [.val (.u8 d),.val (.int e),.val (.s f),.val (.b g),.val (i)])])
def Zo (a:List UInt8) (c:aq) (r:RunT):Option AV :=
 (c 70 [.s a,.s [32]]).bind fun b=>(cy .eql b (.s [101,108,115,101])).bind fun d=>ah d
 (some (.tu [.ag [.u8 3,.int 0,.s [],.b false,.aG],.b true]))
 ((cy .eql b (.s [101,110,100])).bind fun e=>ah e
 (some (.tu [.ag [.u8 5,.int 0,.s [],.b false,.aG],.b true]))
 ((cy .eql b (.s [102,108,117,115,104])).bind fun f=>ah f
 (some (.tu [.ag [.u8 6,.int 0,.s [],.b false,.aG],.b true]))
 ((c 71 [b,.s [105,102,32]]).bind fun g=>(aV g 0).bind fun i=>(aV g 1).bind fun j=>ah j
 ((c 72 [i,.s [32]]).bind fun k=>sU r k 2 0 0 [] false (.aG))
 ((c 71 [b,.s [114,97,110,103,101,32]]).bind fun l=>(aV l 0).bind fun m=>(aV l 1).bind fun n=>ah n
 ((c 72 [m,.s [32]]).bind fun o=>sU r o 4 0 0 [] false (.aG))
 ((cy .eql b (.s [105,102])).bind fun p=>(az p false ((cy .eql b (.s [114,97,110,103,101])).bind fun q=>some q) (.b true)).bind fun s=>ah s
 (some (.tu [.ag [.u8 0,.int 0,.s [],.b false,.aG],.b false]))
 (sU r b 1 0 0 [] false (.aG)))))))
theorem c59 a {r:AV} (h:Zo a (ae (C mx) Tryz.prog) (af (C mx) Tryz.prog 59 Tryz.f59)=some r):ae (C mx) Tryz.prog 59 [.s a]=some r :=
 aj (fun _ _=>by kernel_rfl) h
def HX (a:AV) (b d:UInt8) (e:Int) (f:List UInt8) (g:Bool) (i:AV) (c:aq) (r:RunT):Option AV :=
 (c 73 [a]).bind fun j=>(aV j 0).bind fun k=>(aV j 1).bind fun l=>(AV.aI 2 k).bind fun m=>some (.tu [.ag [.u8 b,.int 0,.s [],gt m 0,gt m 1],l])
theorem PN (a b d e f g i) {r:AV} (h:HX a b d e f g i (ae (C mx) Tryz.prog) (af (C mx) Tryz.prog 59 Tryz.f59)=some r):sU (af (C mx) Tryz.prog 59 Tryz.f59) a b d e f g i=some r :=
 ak (fun _ _=>by kernel_rfl) h
def Zp (a b:List UInt8) (c:aq) (r:RunT):Option AV :=
 (c 89 [.s a,.s b]).bind fun d=>(aV d 0).bind fun e=>(aV d 1).bind fun f=>some (.tu [e,f])
theorem c71 (a b) {r:AV} (h:Zp a b (ae (C mx) Tryz.prog) (af (C mx) Tryz.prog 71 Tryz.f71)=some r):ae (C mx) Tryz.prog 71 [.s a,.s b]=some r :=
 aj (fun _ _=>by kernel_rfl) h
def Zq (a b:List UInt8) (c:aq) (r:RunT):Option AV :=
 (c 57 [.s a,.s b]).bind fun d=>(unop .not d).bind fun e=>ah e
 (some (.tu [.s a,.b false]))
 ((iv (.s a) (some (.int ((b.length:Int)))) none).bind fun f=>some (.tu [f,.b true]))
theorem c89 (a b) {r:AV} (h:Zq a b (ae (C mx) Tryz.prog) (af (C mx) Tryz.prog 89 Tryz.f89)=some r):ae (C mx) Tryz.prog 89 [.s a,.s b]=some r :=
 aj (fun _ _=>by kernel_rfl) h
theorem Uz (l p:List UInt8):ae (C mx) Tryz.prog 57 [.s l,.s p]=some (.b (pre p l)):=by
 apply V'
 simp only [Sd,Option.bind_some,ge_iff_le]
 by_cases h:p.length≤l.length
 ·rw [mK h]
  simp [pre,h]
 ·have:decide ((p.length:Int)≤(l.length:Int))=false:=by simp;omega
  rw [this,gm]
  simp [pre,h]
theorem UA (l p:List UInt8):ae (C mx) Tryz.prog 42 [.s l,.s p]=some (.b (pre p l)):=by
 apply V9
 simp only [R8,Uz,Option.bind_some]
theorem s89 (l p:List UInt8) (h:p.length≤1000000000):ae (C mx) Tryz.prog 89 [.s l,.s p]=some (.tu [.s (if pre p l then l.drop p.length else l),.b (pre p l)]):=by
 apply c89
 have h1:=Uz (mx:=mx) l p
 simp only [Zq,h1,Option.bind_some,bq,ai]
 cases hp:pre p l with
 | false=>rfl
 | true =>
  have hle:p.length≤l.length:=by unfold pre at hp;rw [Bool.and_eq_true,decide_eq_true_eq] at hp;exact hp.1
  rw [mL hle];rfl
theorem Zr (l p:List UInt8) (h:p.length≤1000000000):ae (C mx) Tryz.prog 71 [.s l,.s p]=some (.tu [.s (if pre p l then l.drop p.length else l),.b (pre p l)]):=by
 apply c71
 simp only [Zp,s89 l p h,Option.bind_some,kO,kP]
def Lz (l:List UInt8):Bool:=if l == [46] then false else if l == [36] then true else if (cd (if cE l then l.drop 2 else l)).all eD && decide ((cd (if cE l then l.drop 2 else l)).length≤8) then cE l else false
def EA (l:List UInt8):AV:=if l == [46] then .aG else if l == [36] then .aG else if (cd (if cE l then l.drop 2 else l)).all eD && decide ((cd (if cE l then l.drop 2 else l)).length≤8) then .ro 1 ((cd (if cE l then l.drop 2 else l)).map .s) else .aG
def LA (l:List UInt8):Bool:=if l == [46] then true else if l == [36] then true else (cd (if cE l then l.drop 2 else l)).all eD && decide ((cd (if cE l then l.drop 2 else l)).length≤8)
theorem zy (l:List UInt8):sI l=.tu [.ag [.b (Lz l),EA l],.b (LA l)]:=by
 unfold sI Lz EA LA ML
 cases l == [46] with
 | true=>rfl
 | false =>
  cases l == [36] with
  | true=>rfl
  | false =>
   simp only [Bool.false_eq_true,if_false]
   generalize ((cd (if cE l then l.drop 2 else l)).all eD && decide ((cd (if cE l then l.drop 2 else l)).length≤8))=q
   cases q <;> rfl
theorem s73 (l:List UInt8) (h:l.length≤1000000000):ae (C mx) Tryz.prog 73 [.s l]=some (.tu [.ag [.b (Lz l),EA l],.b (LA l)]):=by
 rw [← zy]
 refine gU (G:=R2) rfl rfl ?_
 show (if l.length≤1000000000 then some (sI l) else none)=_
 rw [if_pos h]
def els:List UInt8:=[101,108,115,101]
def LB:List UInt8:=[101,110,100]
def xm:List UInt8:=[102,108,117,115,104]
def Jk:List UInt8:=[105,102]
def iY:List UInt8:=[114,97,110,103,101]
structure Bg where
 kind:UInt8
 root:Bool
 names:AV
 ok:Bool
def zz (k:UInt8) (l:List UInt8):Bg:=⟨k,Lz l,EA l,LA l⟩
def xn (k:UInt8) (ok:Bool):Bg:=⟨k,false,.aG,ok⟩
def HY (s:List UInt8):Bg :=
 if s == els then xn 3 true else if s == LB then xn 5 true else if s == xm then xn 6 true
 else if pre (Jk ++ [32]) s then zz 2 (cf 32 (s.drop 3)) else if pre (iY ++ [32]) s then zz 4 (cf 32 (s.drop 6))
 else if s == Jk || s == iY then xn 0 false else zz 1 s
def dR (l:List UInt8):Bg:=HY (kR l)
def Bg.av (a:Bg):AV:=.tu [.ag [.u8 a.kind,.int 0,.s [],.b a.root,a.names],.b a.ok]
theorem Xj (l:List UInt8) (h:l.length≤1000000000) (k:UInt8):sU (af (C mx) Tryz.prog 59 Tryz.f59) (.s l) k 0 0 [] false .aG=some (zz k l).av:=by
 apply PN
 have e (x y:AV):AV.aI 2 (.ag [x,y])=some [x,y]:=rfl
 simp only [HX,s73 l h,Option.bind_some,kO,kP,e,List.getD_cons_zero,List.getD_cons_succ]
 rfl
theorem s59 (l:List UInt8) (h:l.length≤1000000000):ae (C mx) Tryz.prog 59 [.s l]=some (dR l).av:=by
 apply c59
 have hs:=Nat.le_trans (uX l) h
 have h1:=s70 (mx:=mx) l h
 unfold dR
 generalize kR l=s at hs h1
 have c1:=Zr (mx:=mx) s [105,102,32] (by decide)
 have c2:=Zr (mx:=mx) s [114,97,110,103,101,32] (by decide)
 simp only [Zo,h1,Option.bind_some,nL,ai,c1,c2,kO,kP,aM]
 unfold HY els LB xm
 cases s == [101,108,115,101] with
 | true=>rfl
 | false =>
  cases s == [101,110,100] with
  | true=>rfl
  | false =>
   cases s == [102,108,117,115,104] with
   | true=>rfl
   | false =>
    simp only [Bool.false_eq_true,if_false]
    rw [show Jk ++ [32]=[105,102,32] from rfl,show iY ++ [32]=[114,97,110,103,101,32] from rfl,show Jk=[105,102] from rfl,show iY=[114,97,110,103,101] from rfl]
    cases hp:pre [105,102,32] s with
    | true =>
     simp only [if_true]
     have hd:(s.drop 3).length≤1000000000:=by rw [List.length_drop];omega
     rw [show ([105,102,32]:List UInt8).length=3 from rfl,Zn (mx:=mx) (s.drop 3) hd]
     exact Xj (mx:=mx) _ (Nat.le_trans (jm _ _) hd) 2
    | false =>
     simp only [Bool.false_eq_true,if_false]
     cases hq:pre [114,97,110,103,101,32] s with
     | true =>
      simp only [if_true]
      have hd:(s.drop 6).length≤1000000000:=by rw [List.length_drop];omega
      rw [show ([114,97,110,103,101,32]:List UInt8).length=6 from rfl,Zn (mx:=mx) (s.drop 6) hd]
      exact Xj (mx:=mx) _ (Nat.le_trans (jm _ _) hd) 4
     | false =>
      simp only [Bool.false_eq_true,if_false]
      cases hr:(s == [105,102] || s == [114,97,110,103,101]) with
      | true=>rfl
      | false =>
       simp only [Bool.false_eq_true,if_false]
       exact Xj (mx:=mx) s hs 1
def Xk (a:List UInt8) (c:aq) (r:RunT):Option AV :=
 ah (.b (decide (((a.length:Int)) > 65536)))
 (some (.tu [.aG,.int 0,.int 2]))
 ((c 44 [.s a,.un,.ag [.ro 5 []]]).bind fun b=>(aV b 0).bind fun d=>(aV b 1).bind fun e=>(AV.aI 1 e).bind fun f=>(aH .geq d (.int 0)).bind fun g=>ah g
 (some (.tu [.aG,d,.int 4]))
 (some (.tu [.ro 5 (AV.elems (gt f 0)),.int 0,.int 0])))
theorem c31 a {r:AV} (h:Xk a (ae (C mx) Tryz.prog) (af (C mx) Tryz.prog 31 Tryz.f31)=some r):ae (C mx) Tryz.prog 31 [.s a]=some r :=
 aj (fun _ _=>by kernel_rfl) h
def HZ:Code:=(Tryz.f44.body).getD .skip
def zD (run:RunT) (a:List UInt8) (b:AV) (d:List AV):Option AV :=
 run ((bP 2 HZ []).getD []) (St.bX [(0,.cell (.val (.s a))),(1,.cell (.eI 45 [71])),(5,.cell (.val b))] [(71,some [.own 671000 91 5 d])])
def Dg (run:RunT) (a:List UInt8) (b d:AV) (e:List AV):Option AV :=
 run ((bP 6 HZ []).getD []) (St.bX [(0,.cell (.val (.s a))),(1,.cell (.eI 45 [71])),(5,.cell (.val b)),(6,.cell (.val d))] [(71,some [.own 671000 91 5 e])])
def X44 (a:List UInt8) (b:List AV) (c:aq) (r:RunT):Option AV :=
 zD r a (.int 0) b
theorem c44 (a b) {r:AV} (h:X44 a b (ae (C mx) Tryz.prog) (af (C mx) Tryz.prog 44 Tryz.f44)=some r):ae (C mx) Tryz.prog 44 [.s a,.un,.ag [.ro 5 b]]=some r :=
 aj (fun _ _=>by kernel_rfl) h
def Dh (a:List UInt8) (b:AV) (d:List AV) (c:aq) (r:RunT):Option AV :=
 (aH .lss b (.int ((a.length:Int)))).bind fun e=>ah e
 ((iv (.s a) (some b) none).bind fun f=>(c 58 [f,.s [123,123]]).bind fun g=>(aH .lss g (.int 0)).bind fun i=>ah i
 ((aH .sub (.int ((a.length:Int))) b).bind fun j=>Dg r a b j d)
 (Dg r a b g d))
 (some (.tu [.int ((-1)),.ag [.ro 5 d]]))
def H0 (a:List UInt8) (b d:AV) (e:List AV) (c:aq) (r:RunT):Option AV :=
 (aH .gtr d (.int 0)).bind fun f=>ah f
 ((aH .add b d).bind fun g=>(iv (.s a) (some b) (some g)).bind fun i=>(AV.one b).bind fun j=>(AV.one i).bind fun k=>(c 45 [.ag [.u8 0,j,k,.b false,.aG],.un,.ag [.ro 5 e]]).bind fun l=>(aV l 0).bind fun m=>(aV l 1).bind fun n=>(AV.aI 1 n).bind fun o=>(unop .not m).bind fun p=>ah p
 (some (.tu [.int ((-1)),.ag [.ro 5 (AV.elems (gt o 0))]]))
 ((aH .add b d).bind fun q=>zD r a q (AV.elems (gt o 0))))
 ((iv (.s a) (some b) none).bind fun s=>(c 58 [s,.s [125,125]]).bind fun t=>(aH .lss t (.int 0)).bind fun u=>ah u
 (some (.tu [b,.ag [.ro 5 e]]))
 ((aH .add b (.int 2)).bind fun w=>(aH .add b t).bind fun x=>(iv (.s a) (some w) (some x)).bind fun y=>(c 59 [y]).bind fun z=>(aV z 0).bind fun A=>(aV z 1).bind fun B=>(AV.aI 5 A).bind fun D=>(unop .not B).bind fun E=>ah E
 (some (.tu [b,.ag [.ro 5 e]]))
 ((AV.one b).bind fun G=>(c 45 [.ag [gt D 0,G,gt D 2,gt D 3,gt D 4],.un,.ag [.ro 5 e]]).bind fun H=>(aV H 0).bind fun I=>(aV H 1).bind fun J=>(AV.aI 1 J).bind fun L=>(unop .not I).bind fun M=>ah M
 (some (.tu [.int ((-1)),.ag [.ro 5 (AV.elems (gt L 0))]]))
 ((aH .add t (.int 2)).bind fun N=>(aH .add b N).bind fun O=>zD r a O (AV.elems (gt L 0))))))
theorem H4 (a b d) {r:AV} (h:Dh a b d (ae (C mx) Tryz.prog) (af (C mx) Tryz.prog 44 Tryz.f44)=some r):zD (af (C mx) Tryz.prog 44 Tryz.f44) a b d=some r :=
 ak (fun _ _=>by kernel_rfl) h
theorem Ta (a b d e) {r:AV} (h:H0 a b d e (ae (C mx) Tryz.prog) (af (C mx) Tryz.prog 44 Tryz.f44)=some r):Dg (af (C mx) Tryz.prog 44 Tryz.f44) a b d e=some r :=
 ak (fun _ _=>by kernel_rfl) h
def Zs (a:UInt8) (b:Int) (d:List UInt8) (e:Bool) (f:AV) (g:List AV) (c:aq) (r:RunT):Option AV :=
 (app 64 5 g (.ro 5 (([.ag [.u8 a,.int b,.s d,.b e,f]]:List AV)))).bind fun i=>some (.tu [.b true,.ag [.ro 5 i]])
theorem c45 (a b d e f g) {r:AV} (h:Zs a b d e f g (ae (C mx) Tryz.prog) (af (C mx) Tryz.prog 45 Tryz.f45)=some r):ae (C mx) Tryz.prog 45 [.ag [.u8 a,.int b,.s d,.b e,f],.un,.ag [.ro 5 g]]=some r :=
 aj (fun _ _=>by kernel_rfl) h
structure Wd where
 kind:UInt8
 at':Nat
 text:List UInt8
 root:Bool
 names:AV
def Wd.av (w:Wd):AV:=.ag [.u8 w.kind,.int (w.at':Int),.s w.text,.b w.root,w.names]
def zE (at':Nat) (t:List UInt8):Wd:=⟨0,at',t,false,.aG⟩
def qd (at':Nat) (a:Bg):Wd:=⟨a.kind,at',[],a.root,a.names⟩
def rj:List UInt8:=[123,123]
def nW:List UInt8:=[125,125]
def bU (r:List UInt8):Nat:=if Lib.index r rj < 0 then r.length else (Lib.index r rj).toNat
def dF:Nat→List UInt8→Nat→List Wd→List Wd×Int
 | 0,_,_,acc=>(acc,-1)
 | n+1,r,at',acc =>
  if r.isEmpty then (acc,-1)
  else if 0 < bU r then dF n (r.drop (bU r)) (at'+bU r) (acc ++ [zE at' (r.take (bU r))])
  else if Lib.index r nW < 0 then (acc,(at':Int))
  else if (dR ((r.take (Lib.index r nW).toNat).drop 2)).ok then dF n (r.drop ((Lib.index r nW).toNat+2)) (at'+((Lib.index r nW).toNat+2)) (acc ++ [qd at' (dR ((r.take (Lib.index r nW).toNat).drop 2))])
  else (acc,(at':Int))
theorem lD (r:List UInt8):bU r≤r.length:=by
 unfold bU
 split
 ·exact Nat.le_refl _
 ·rename_i h
  have:=Lib.index_room r rj (by omega)
  have e:(rj.length:Int)=2:=rfl
  omega
theorem Di (r:List UInt8) (h0:bU r=0) (hne:0 < r.length) (j:Nat) (hj:Lib.index r nW=(j:Int)):2≤j:=by
 unfold bU at h0
 split at h0
 ·omega
 ·rename_i hn
  have hz:Lib.index r rj=0:=by omega
  rcases Lib.index_spec r rj with ⟨h1,_⟩ | ⟨i,h1,h2,h3,_⟩
  ·omega
  ·obtain rfl:i=0:=by omega
   rcases Lib.index_spec r nW with ⟨k1,_⟩ | ⟨k,k1,k2,k3,_⟩
   ·omega
   ·obtain rfl:k=j:=by omega
    unfold Lib.occAt rj at h3
    unfold Lib.occAt nW at k3
    match r,h3,k3 with
    | a :: b :: t,h3,k3 =>
     simp [List.isPrefixOf] at h3
     obtain ⟨rfl,rfl⟩:=h3
     match k,k3 with
     | 0,k3=>simp [List.isPrefixOf] at k3
     | 1,k3=>cases t <;> simp [List.isPrefixOf] at k3
     | k+2,_=>omega
    | [a],h3,_=>simp [List.isPrefixOf] at h3
    | [],h3,_=>simp [List.isPrefixOf] at h3
theorem H5 (p r:List UInt8) (j:Nat) (h2:2≤j) (hj:j≤r.length):iv (.s (p ++ r)) (some (.int ((p.length+2:Nat):Int))) (some (.int ((p.length+j:Nat):Int)))=some (.s ((r.take j).drop 2)):=by
 show ((gh (p ++ r).length (some (.int ((p.length+2:Nat):Int))) (some (.int ((p.length+j:Nat):Int)))).bind fun q=>some (AV.s (((p ++ r).take q.2).drop q.1)))=_
 have h1:xW (p ++ r).length (.int ((p.length+j:Nat):Int))=some (p.length+j):=by
  show (if 0≤((p.length+j:Nat):Int)∧((p.length+j:Nat):Int)≤((p ++ r).length:Int) then some ((p.length+j:Nat):Int).toNat else none)=_
  rw [if_pos ⟨by omega,by simp;omega⟩];congr 1
 have h3:xW (p.length+j) (.int ((p.length+2:Nat):Int))=some (p.length+2):=by
  show (if 0≤((p.length+2:Nat):Int)∧((p.length+2:Nat):Int)≤((p.length+j:Nat):Int) then some ((p.length+2:Nat):Int).toNat else none)=_
  rw [if_pos ⟨by omega,by omega⟩];congr 1
 simp only [gh,h1,h3,Option.bind_some]
 have e1:(p ++ r).take (p.length+j)=p ++ r.take j:=by simp only [List.take_append,Nat.add_sub_cancel_left];rw [List.take_of_length_le (by omega)]
 rw [e1,← List.drop_drop,List.drop_left]
theorem Zt (l p:List UInt8) (h:l.length≤1000000000):ae (C mx) Tryz.prog 58 [.s l,.s p]=some (.int (Lib.index l p)):=by
 refine gU (G:=R4) rfl rfl ?_
 show (if l.length≤1000000000 then some (AV.int (Lib.index l p)) else none)=_
 rw [if_pos h]
theorem Zu (w:Wd) (acc:List Wd) (h:acc.length≤1000000000):ae (C mx) Tryz.prog 45 [w.av,.un,.ag [.ro 5 (acc.map Wd.av)]]=some (.tu [.b true,.ag [.ro 5 ((acc ++ [w]).map Wd.av)]]):=by
 unfold Wd.av
 apply c45
 have hb:big=70368744177664:=rfl
 have ha:app 64 5 (acc.map Wd.av) (.ro 5 [.ag [.u8 w.kind,.int (w.at':Int),.s w.text,.b w.root,w.names]])=some ((acc ++ [w]).map Wd.av):=by
  show ((if 5=5 then some [AV.ag [.u8 w.kind,.int (w.at':Int),.s w.text,.b w.root,w.names]] else none).bind fun q=>if ((acc.map Wd.av).length+q.length) * 64≤big then some (acc.map Wd.av ++ q) else none)=_
  rw [if_pos rfl]
  simp only [Option.bind_some,List.length_map,List.length_cons,List.length_nil,hb]
  rw [if_pos (by omega),List.map_append];rfl
 have ha':app 64 5 (acc.map Wd.av) (.ro 5 ([.ag [.u8 w.kind,.int (w.at':Int),.s w.text,.b w.root,w.names]]:List AV))=some ((acc ++ [w]).map Wd.av):=ha
 unfold Wd.av at ha'
 simp only [Zs,ha',Option.bind_some]
theorem Bh (p r:List UInt8) (i:Nat) (hi:i≤r.length):iv (.s (p ++ r)) (some (.int (p.length:Int))) (some (.int ((p.length+i:Nat):Int)))=some (.s (r.take i)):=by
 show ((gh (p ++ r).length (some (.int (p.length:Int))) (some (.int ((p.length+i:Nat):Int)))).bind fun q=>some (AV.s (((p ++ r).take q.2).drop q.1)))=_
 have h1:xW (p ++ r).length (.int ((p.length+i:Nat):Int))=some (p.length+i):=by
  show (if 0≤((p.length+i:Nat):Int)∧((p.length+i:Nat):Int)≤((p ++ r).length:Int) then some ((p.length+i:Nat):Int).toNat else none)=_
  rw [if_pos ⟨by omega,by simp;omega⟩];congr 1
 have h2:xW (p.length+i) (.int (p.length:Int))=some p.length:=by
  show (if 0≤(p.length:Int)∧(p.length:Int)≤((p.length+i:Nat):Int) then some (p.length:Int).toNat else none)=_
  rw [if_pos ⟨by omega,by omega⟩];simp
 simp only [gh,h1,h2,Option.bind_some]
 simp [List.take_append]
theorem Dj (p r:List UInt8):iv (.s (p ++ r)) (some (.int (p.length:Int))) none=some (.s r):=by
 rw [mL (by simp)];simp
theorem M6 (a b c d e:AV):AV.aI 5 (.ag [a,b,c,d,e])=some [a,b,c,d,e]:=rfl
theorem Bi (a:AV):AV.aI 1 (.ag [a])=some [a]:=rfl
theorem l44:∀ (n:Nat) (r p:List UInt8) (acc:List Wd),r.length≤n→(p ++ r).length≤1000000000→acc.length≤p.length →
  zD (af (C mx) Tryz.prog 44 Tryz.f44) (p ++ r) (.int (p.length:Int)) (acc.map Wd.av)=some (.tu [.int (dF (n+1) r p.length acc).2,.ag [.ro 5 ((dF (n+1) r p.length acc).1.map Wd.av)]]):=by
 intro n
 induction n with
 | zero =>
  intro r p acc hr hp ha
  obtain rfl:=List.eq_nil_of_length_eq_zero (Nat.le_zero.1 hr)
  apply H4
  have:decide ((p.length:Int) < ((p ++ []).length:Int))=false:=by simp
  simp only [Dh,bo,this,Option.bind_some,ai,Bool.false_eq_true,if_false]
  rfl
 | succ n ih =>
  intro r p acc hr hp ha
  cases r with
  | nil =>
   apply H4
   have:decide ((p.length:Int) < ((p ++ []).length:Int))=false:=by simp
   simp only [Dh,bo,this,Option.bind_some,ai,Bool.false_eq_true,if_false]
   rfl
  | cons x r' =>
   obtain ⟨r,Bj⟩:∃ r,r=x :: r':=⟨_,rfl⟩
   rw [← Bj] at hr hp ⊢
   have hne:r.isEmpty=false:=by rw [Bj];rfl
   have D7:0 < r.length:=by rw [Bj];simp
   have QF:r.length≤1000000000:=by simp at hp;omega
   have hpl:p.length+r.length≤1000000000:=by simpa using hp
   have Xl:=lD r
   have key:Dg (af (C mx) Tryz.prog 44 Tryz.f44) (p ++ r) (.int (p.length:Int)) (.int (bU r:Int)) (acc.map Wd.av)=some (.tu [.int (dF (n+1+1) r p.length acc).2,.ag [.ro 5 ((dF (n+1+1) r p.length acc).1.map Wd.av)]]):=by
    apply Ta
    rw [dF,if_neg (by rw [hne];decide)]
    by_cases hi:0 < bU r
    ·have uB:decide ((0:Int) < (bU r:Int))=true:=by rw [decide_eq_true_eq];omega
     have eQ:aH .add (.int (p.length:Int)) (.int (bU r:Int))=some (.int ((p.length+bU r:Nat):Int)):=by rw [fK (by omega) (by omega)];congr 2
     have hc:=Zu (mx:=mx) (zE p.length (r.take (bU r))) acc (by omega)
     have hw:(zE p.length (r.take (bU r))).av=.ag [.u8 0,.int (p.length:Int),.s (r.take (bU r)),.b false,.aG]:=rfl
     rw [hw] at hc
     have:=ih (r.drop (bU r)) (p ++ r.take (bU r)) (acc ++ [zE p.length (r.take (bU r))]) (by rw [List.length_drop];omega) (by rw [List.append_assoc,List.take_append_drop];exact hp) (by simp;omega)
     have hlen:(p ++ r.take (bU r)).length=p.length+bU r:=by simp;omega
     rw [List.append_assoc,List.take_append_drop,hlen] at this
     simp only [H0,wj,uB,eQ,Bh p r _ Xl,fJ,jW,hc,kO,kP,Bi,bq,Bool.not_true,Option.bind_some,ai,Bool.false_eq_true,if_false,if_true,List.getD_cons_zero,AV.elems]
     rw [if_pos hi]
     exact this
    ·have uB:decide ((0:Int) < (bU r:Int))=false:=by rw [decide_eq_false_iff_not];omega
     rw [if_neg hi]
     have NU:=Zt (mx:=mx) r [125,125] QF
     simp only [H0,wj,uB,Dj,NU,bo,Option.bind_some,ai,Bool.false_eq_true,if_false]
     rw [show ([125,125]:List UInt8)=nW from rfl]
     by_cases hj:Lib.index r nW < 0
     ·rw [if_pos hj,if_pos (by rw [decide_eq_true_eq];exact hj)]
     ·rw [if_neg hj,if_neg (by rw [decide_eq_true_eq];exact hj)]
      obtain ⟨j,hj'⟩:=Int.eq_ofNat_of_zero_le (show 0≤Lib.index r nW by omega)
      have hroom:=Lib.index_room r nW (by omega)
      have e2:(nW.length:Int)=2:=rfl
      have Jh:j+2≤r.length:=by omega
      have h2j:=Di r (by omega) D7 j hj'
      rw [hj']
      rw [show ((j:Nat):Int).toNat=j from rfl]
      have a1:aH .add (.int (p.length:Int)) (.int 2)=some (.int ((p.length+2:Nat):Int)):=by rw [fK (by omega) (by omega)];congr 2
      have a2:aH .add (.int (p.length:Int)) (.int ((j:Nat):Int))=some (.int ((p.length+j:Nat):Int)):=by rw [fK (by omega) (by omega)];congr 2
      have a3:aH .add (.int ((j:Nat):Int)) (.int 2)=some (.int ((j+2:Nat):Int)):=by rw [fK (by omega) (by omega)];congr 2
      have a4:aH .add (.int (p.length:Int)) (.int ((j+2:Nat):Int))=some (.int ((p.length+(j+2):Nat):Int)):=by rw [fK (by omega) (by omega)];congr 2
      have H6:=s59 (mx:=mx) ((r.take j).drop 2) (by simp;omega)
      have EB:=H5 p r j h2j (by omega)
      have hw:(dR ((r.take j).drop 2)).av=.tu [.ag [.u8 (dR ((r.take j).drop 2)).kind,.int 0,.s [],.b (dR ((r.take j).drop 2)).root,(dR ((r.take j).drop 2)).names],.b (dR ((r.take j).drop 2)).ok]:=rfl
      rw [hw] at H6
      have hc:=Zu (mx:=mx) (qd p.length (dR ((r.take j).drop 2))) acc (by omega)
      have hw2:(qd p.length (dR ((r.take j).drop 2))).av=.ag [.u8 (dR ((r.take j).drop 2)).kind,.int (p.length:Int),.s [],.b (dR ((r.take j).drop 2)).root,(dR ((r.take j).drop 2)).names]:=rfl
      rw [hw2] at hc
      have Tb:=ih (r.drop (j+2)) (p ++ r.take (j+2)) (acc ++ [qd p.length (dR ((r.take j).drop 2))]) (by rw [List.length_drop];omega) (by rw [List.append_assoc,List.take_append_drop];exact hp) (by simp;omega)
      have hlen:(p ++ r.take (j+2)).length=p.length+(j+2):=by simp;omega
      rw [List.append_assoc,List.take_append_drop,hlen] at Tb
      generalize dR ((r.take j).drop 2)=A at *
      simp only [a1,a2,a3,a4,EB,H6,kO,kP,M6,bq,Option.bind_some,ai,fJ,List.getD_cons_zero,List.getD_cons_succ,hc,Bi,AV.elems]
      cases hA:A.ok with
      | false=>rfl
      | true =>
       simp only [Bool.not_true,Bool.false_eq_true,if_false,if_true]
       exact Tb
   apply H4
   have hlt:decide ((p.length:Int) < ((p ++ r).length:Int))=true:=by rw [decide_eq_true_eq];simp;omega
   have NU:=Zt (mx:=mx) r [123,123] QF
   have kp:aH .sub (.int ((p ++ r).length:Int)) (.int (p.length:Int))=some (.int (r.length:Int)):=by rw [Km (by simp;omega) (by simp;omega)];congr 2;simp;omega
   simp only [Dh,bo,hlt,Dj,NU,kp,Option.bind_some,ai,if_true]
   rw [show ([123,123]:List UInt8)=rj from rfl]
   unfold bU at key
   by_cases hi:Lib.index r rj < 0
   ·rw [if_pos hi] at key
    rw [if_pos (by rw [decide_eq_true_eq];exact hi)]
    exact key
   ·rw [if_neg hi] at key
    rw [if_neg (by rw [decide_eq_true_eq];exact hi)]
    rw [Int.toNat_of_nonneg (by omega)] at key
    exact key
def bn (l:List UInt8):List Wd×Int:=dF (l.length+1) l 0 []
theorem s44 (l:List UInt8) (h:l.length≤1000000000):ae (C mx) Tryz.prog 44 [.s l,.un,.ag [.ro 5 []]]=some (.tu [.int (bn l).2,.ag [.ro 5 ((bn l).1.map Wd.av)]]):=by
 apply c44
 have:=l44 (mx:=mx) l.length l [] [] (Nat.le_refl _) (by simpa using h) (by simp)
 exact this
def qf (l:List UInt8):AV:=if l.length > 65536 then .tu [.aG,.int 0,.int 2] else if 0≤(bn l).2 then .tu [.aG,.int (bn l).2,.int 4] else .tu [.ro 5 ((bn l).1.map Wd.av),.int 0,.int 0]
theorem s31 (l:List UInt8):ae (C mx) Tryz.prog 31 [.s l]=some (qf l):=by
 apply c31
 unfold qf
 by_cases h1:l.length > 65536
 ·rw [if_pos h1]
  have:decide ((l.length:Int) > 65536)=true:=by rw [decide_eq_true_eq];omega
  simp only [Xk,this,ai,if_true]
 ·rw [if_neg h1]
  have hw:=s44 (mx:=mx) l (by omega)
  have:decide ((l.length:Int) > 65536)=false:=by rw [decide_eq_false_iff_not];omega
  simp only [Xk,this,hw,Option.bind_some,ai,kO,kP,Bi,gq,List.getD_cons_zero,AV.elems,decide_eq_true_eq,Bool.false_eq_true,if_false]
  split <;> rfl
def Dk (run:RunT) (a:Int) (b:List AV) (d e:AV) (f:List AV) (g:AV):Option AV :=
 run ((bP 2 ((Tryz.f46.body).getD .skip) []).getD []) (St.bX [(0,.cell (.ptr 61 0)),(1,.cell (.val (.int a))),(6,.cell (.own 300006 3 1 b))] [(61,some [.val d,.val e,.own 661002 58 9 f,.val (g)])])
def X46 (a:Int) (b:AV) (d:Int) (e:List AV) (f:AV) (c:aq) (r:RunT):Option AV :=
 Dk r a [] b (.int d) e f
theorem c46 (a b d e f) {r:AV} (h:X46 a b d e f (ae (C mx) Tryz.prog) (af (C mx) Tryz.prog 46 Tryz.f46)=some r):ae (C mx) Tryz.prog 46 [.un,.int a,.ag [b,.int d,.ro 9 e,f]]=some r :=
 aj (fun _ _=>by kernel_rfl) h
def Dl (a:Int) (b:List AV) (d e:AV) (f:List AV) (g:AV) (c:aq) (r:RunT):Option AV :=
 (eP d).bind fun i=>(aH .lss e i).bind fun j=>ah j
 ((idx 5 d e).bind fun k=>(aH .eql (AV.cell k 0) (.u8 3)).bind fun l=>(az l false ((aH .eql (AV.cell k 0) (.u8 5)).bind fun m=>some m) (.b true)).bind fun n=>ah n
 (some (.tu [.tu [.ro 1 b,.eB],.ag [d,e,.ro 9 f,g]]))
 ((aH .add e (.int 1)).bind fun o=>(AV.one o).bind fun p=>(c 60 [.un,.ag [AV.cell k 0,AV.cell k 1,AV.cell k 2,AV.cell k 3,AV.cell k 4],.int a,.ag [d,p,.ro 9 f,g]]).bind fun q=>(aV q 0).bind fun s=>(aV q 1).bind fun t=>(AV.aI 4 t).bind fun u=>(aV s 0).bind fun w=>(aV s 1).bind fun x=>(qq .neq x (.eB)).bind fun y=>ah y
 (some (.tu [.tu [.aG,x],.ag [gt u 0,gt u 1,.ro 9 (AV.elems (gt u 2)),gt u 3]]))
 ((AV.one w).bind fun z=>(app 8 1 b (.ro 1 (([z]:List AV)))).bind fun A=>Dk r a A (gt u 0) (gt u 1) (AV.elems (gt u 2)) (gt u 3))))
 (some (.tu [.tu [.ro 1 b,.eB],.ag [d,e,.ro 9 f,g]]))
theorem M7 (a b d e f g) {r:AV} (h:Dl a b d e f g (ae (C mx) Tryz.prog) (af (C mx) Tryz.prog 46 Tryz.f46)=some r):Dk (af (C mx) Tryz.prog 46 Tryz.f46) a b d e f g=some r :=
 ak (fun _ _=>by kernel_rfl) h
def Bk:Code:=(Tryz.f60.body).getD .skip
def mU (run:RunT) (a:Int) (b:UInt8) (d e:AV) (f:List AV) (g:AV):Option AV :=
 run ((bP 19 Bk []).getD []) (St.bX [(0,.cell (.ptr 71 0)),(8,.cell (.val (.int a))),(9,.cell (.val (.u8 b)))] [(71,some [.val d,.val e,.own 671002 58 9 f,.val (g)])])
def Bl (run:RunT) (a b:Int) (d:UInt8) (e:Int) (f:List UInt8) (g:Bool) (i j:AV) (k:Int) (l:List AV) (m:AV):Option AV :=
 run ((bP 11 Bk []).getD []) (St.bX [(0,.cell (.ptr 71 0)),(2,.cell (.val (.int a))),(4,.cell (.ptr 4 0)),(8,.cell (.val (.int b)))] [(4,some [.val (.u8 d),.val (.int e),.val (.s f),.val (.b g),.val (i)]),(71,some [.val j,.val (.int k),.own 671002 58 9 l,.val (m)])])
def xp (run:RunT) (a b:Int) (d e:UInt8) (f:Int) (g:List UInt8) (i:Bool) (j k:AV) (l:Int) (m:List AV) (n:AV):Option AV :=
 run ((bP 14 Bk []).getD []) (St.bX [(0,.cell (.ptr 71 0)),(2,.cell (.val (.int a))),(4,.cell (.ptr 4 0)),(8,.cell (.val (.int b))),(9,.cell (.val (.u8 d)))] [(4,some [.val (.u8 e),.val (.int f),.val (.s g),.val (.b i),.val (j)]),(71,some [.val k,.val (.int l),.own 671002 58 9 m,.val (n)])])
def Xm (a:UInt8) (b:Int) (d:List UInt8) (e:Bool) (f:AV) (g:Int) (i:AV) (j:Int) (k:List AV) (l:AV) (c:aq) (r:RunT):Option AV :=
 (app 120 9 k (.ro 9 (([.ag [.u8 0,.int b,.s d,.b e,f,.aG,.aG,.b false,.u8 0]]:List AV)))).bind fun m=>ah (.b (aO a 1))
 (mU r ((k.length:Int)) 1 i (.int j) m l)
 (ah (.b (aO a 6))
 (mU r ((k.length:Int)) 4 i (.int j) m l)
 (ah (.b (aO a 2))
 (Bl r g ((k.length:Int)) a b d e f i j m l)
 (ah (.b (aO a 4))
 (Bl r g ((k.length:Int)) a b d e f i j m l)
 (mU r ((k.length:Int)) 0 i (.int j) m l))))
theorem c60 (a b d e f g i j k l) {r:AV} (h:Xm a b d e f g i j k l (ae (C mx) Tryz.prog) (af (C mx) Tryz.prog 60 Tryz.f60)=some r):ae (C mx) Tryz.prog 60 [.un,.ag [.u8 a,.int b,.s d,.b e,f],.int g,.ag [i,.int j,.ro 9 k,l]]=some r :=
 aj (fun _ _=>by kernel_rfl) h
def H7 (a:Int) (b:UInt8) (d e:AV) (f:List AV) (g:AV) (c:aq) (r:RunT):Option AV :=
 (lS f.length (.int a)).bind fun i=>some (.tu [.tu [.int a,.eB],.ag [d,e,.ro 9 (f.set i (.ag [.u8 b,AV.cell (f.getD i .un) 1,AV.cell (f.getD i .un) 2,AV.cell (f.getD i .un) 3,AV.cell (f.getD i .un) 4,AV.cell (f.getD i .un) 5,AV.cell (f.getD i .un) 6,AV.cell (f.getD i .un) 7,AV.cell (f.getD i .un) 8])),g]])
def Bn (a b:Int) (d:UInt8) (e:Int) (f:List UInt8) (g:Bool) (i j:AV) (k:Int) (l:List AV) (m:AV) (c:aq) (r:RunT):Option AV :=
 ah (.b (aO d 4))
 (xp r a b 3 d e f g i j k l m)
 (xp r a b 2 d e f g i j k l m)
def xr (a b:Int) (d e:UInt8) (f:Int) (g:List UInt8) (i:Bool) (j k:AV) (l:Int) (m:List AV) (n:AV) (c:aq) (r:RunT):Option AV :=
 ah (.b (decide (a ≥ 16)))
 (some (.tu [.tu [.int 0,.pt [.int f,.int 3]],.ag [k,.int l,.ro 9 m,n]]))
 ((c 74 [.un,.int b,.ag [.u8 e,.int f,.s g,.b i,j],.int a,.ag [k,.int l,.ro 9 m,n]]).bind fun o=>(aV o 0).bind fun p=>(aV o 1).bind fun q=>(AV.aI 4 q).bind fun s=>(qq .neq p (.eB)).bind fun t=>ah t
 (some (.tu [.tu [.int 0,p],.ag [gt s 0,gt s 1,.ro 9 (AV.elems (gt s 2)),gt s 3]]))
 (mU r b d (gt s 0) (gt s 1) (AV.elems (gt s 2)) (gt s 3)))
theorem PO (a b d e f g) {r:AV} (h:H7 a b d e f g (ae (C mx) Tryz.prog) (af (C mx) Tryz.prog 60 Tryz.f60)=some r):mU (af (C mx) Tryz.prog 60 Tryz.f60) a b d e f g=some r :=
 ak (fun _ _=>by kernel_rfl) h
theorem H8 (a b d e f g i j k l m) {r:AV} (h:Bn a b d e f g i j k l m (ae (C mx) Tryz.prog) (af (C mx) Tryz.prog 60 Tryz.f60)=some r):Bl (af (C mx) Tryz.prog 60 Tryz.f60) a b d e f g i j k l m=some r :=
 ak (fun _ _=>by kernel_rfl) h
theorem Bo (a b d e f g i j k l m n) {r:AV} (h:xr a b d e f g i j k l m n (ae (C mx) Tryz.prog) (af (C mx) Tryz.prog 60 Tryz.f60)=some r):xp (af (C mx) Tryz.prog 60 Tryz.f60) a b d e f g i j k l m n=some r :=
 ak (fun _ _=>by kernel_rfl) h
def xt (run:RunT) (a:UInt8) (b:Int) (d:List UInt8) (e:Bool) (f g i:AV) (j:List AV) (k:AV):Option AV :=
 run ((bP 13 ((Tryz.f74.body).getD .skip) []).getD []) (St.bX [(0,.cell (.ptr 152 0)),(6,.cell (.ptr 6 0))] [(6,some [.val (.u8 a),.val (.int b),.val (.s d),.val (.b e),.val (f)]),(152,some [.val g,.val i,.own 752002 58 9 j,.val (k)])])
def Xn (a:Int) (b:UInt8) (d:Int) (e:List UInt8) (f:Bool) (g:AV) (i:Int) (j:AV) (k:Int) (l:List AV) (m:AV) (c:aq) (r:RunT):Option AV :=
 (c 46 [.un,.int (bN (i+1)),.ag [j,.int k,.ro 9 l,m]]).bind fun n=>(aV n 0).bind fun o=>(aV n 1).bind fun p=>(AV.aI 4 p).bind fun q=>(aV o 0).bind fun s=>(aV o 1).bind fun t=>(qq .neq t (.eB)).bind fun u=>ah u
 (some (.tu [t,.ag [gt q 0,gt q 1,.ro 9 (AV.elems (gt q 2)),gt q 3]]))
 ((lS (AV.elems (gt q 2)).length (.int a)).bind fun w=>(AV.one s).bind fun x=>(eP (gt q 0)).bind fun y=>(aH .lss (gt q 1) y).bind fun z=>(az z true ((idx 5 (gt q 0) (gt q 1)).bind fun A=>(aH .eql (AV.cell A 0) (.u8 3)).bind fun B=>some B) (.b false)).bind fun D=>ah D
 (ah (.b (aO b 4))
 ((idx 5 (gt q 0) (gt q 1)).bind fun E=>(AV.one (AV.cell E 1)).bind fun G=>some (.tu [.pt [G,.int 4],.ag [gt q 0,gt q 1,.ro 9 ((AV.elems (gt q 2)).set w (.ag [AV.cell ((AV.elems (gt q 2)).getD w .un) 0,AV.cell ((AV.elems (gt q 2)).getD w .un) 1,AV.cell ((AV.elems (gt q 2)).getD w .un) 2,AV.cell ((AV.elems (gt q 2)).getD w .un) 3,AV.cell ((AV.elems (gt q 2)).getD w .un) 4,x,AV.cell ((AV.elems (gt q 2)).getD w .un) 6,AV.cell ((AV.elems (gt q 2)).getD w .un) 7,AV.cell ((AV.elems (gt q 2)).getD w .un) 8])),gt q 3]]))
 ((aH .add (gt q 1) (.int 1)).bind fun H=>(AV.one H).bind fun I=>(c 46 [.un,.int (bN (i+1)),.ag [gt q 0,I,.ro 9 ((AV.elems (gt q 2)).set w (.ag [AV.cell ((AV.elems (gt q 2)).getD w .un) 0,AV.cell ((AV.elems (gt q 2)).getD w .un) 1,AV.cell ((AV.elems (gt q 2)).getD w .un) 2,AV.cell ((AV.elems (gt q 2)).getD w .un) 3,AV.cell ((AV.elems (gt q 2)).getD w .un) 4,x,AV.cell ((AV.elems (gt q 2)).getD w .un) 6,AV.cell ((AV.elems (gt q 2)).getD w .un) 7,AV.cell ((AV.elems (gt q 2)).getD w .un) 8])),gt q 3]]).bind fun J=>(aV J 0).bind fun L=>(aV J 1).bind fun M=>(AV.aI 4 M).bind fun N=>(aV L 0).bind fun O=>(aV L 1).bind fun P=>(qq .neq P (.eB)).bind fun Q=>ah Q
 (some (.tu [P,.ag [gt N 0,gt N 1,.ro 9 (AV.elems (gt N 2)),gt N 3]]))
 ((lS (AV.elems (gt N 2)).length (.int a)).bind fun R=>(AV.one O).bind fun T=>(lS ((AV.elems (gt N 2)).set R (.ag [AV.cell ((AV.elems (gt N 2)).getD R .un) 0,AV.cell ((AV.elems (gt N 2)).getD R .un) 1,AV.cell ((AV.elems (gt N 2)).getD R .un) 2,AV.cell ((AV.elems (gt N 2)).getD R .un) 3,AV.cell ((AV.elems (gt N 2)).getD R .un) 4,AV.cell ((AV.elems (gt N 2)).getD R .un) 5,T,AV.cell ((AV.elems (gt N 2)).getD R .un) 7,AV.cell ((AV.elems (gt N 2)).getD R .un) 8])).length (.int a)).bind fun U=>xt r b d e f g (gt N 0) (gt N 1) (((AV.elems (gt N 2)).set R (.ag [AV.cell ((AV.elems (gt N 2)).getD R .un) 0,AV.cell ((AV.elems (gt N 2)).getD R .un) 1,AV.cell ((AV.elems (gt N 2)).getD R .un) 2,AV.cell ((AV.elems (gt N 2)).getD R .un) 3,AV.cell ((AV.elems (gt N 2)).getD R .un) 4,AV.cell ((AV.elems (gt N 2)).getD R .un) 5,T,AV.cell ((AV.elems (gt N 2)).getD R .un) 7,AV.cell ((AV.elems (gt N 2)).getD R .un) 8])).set U (.ag [AV.cell (((AV.elems (gt N 2)).set R (.ag [AV.cell ((AV.elems (gt N 2)).getD R .un) 0,AV.cell ((AV.elems (gt N 2)).getD R .un) 1,AV.cell ((AV.elems (gt N 2)).getD R .un) 2,AV.cell ((AV.elems (gt N 2)).getD R .un) 3,AV.cell ((AV.elems (gt N 2)).getD R .un) 4,AV.cell ((AV.elems (gt N 2)).getD R .un) 5,T,AV.cell ((AV.elems (gt N 2)).getD R .un) 7,AV.cell ((AV.elems (gt N 2)).getD R .un) 8])).getD U .un) 0,AV.cell (((AV.elems (gt N 2)).set R (.ag [AV.cell ((AV.elems (gt N 2)).getD R .un) 0,AV.cell ((AV.elems (gt N 2)).getD R .un) 1,AV.cell ((AV.elems (gt N 2)).getD R .un) 2,AV.cell ((AV.elems (gt N 2)).getD R .un) 3,AV.cell ((AV.elems (gt N 2)).getD R .un) 4,AV.cell ((AV.elems (gt N 2)).getD R .un) 5,T,AV.cell ((AV.elems (gt N 2)).getD R .un) 7,AV.cell ((AV.elems (gt N 2)).getD R .un) 8])).getD U .un) 1,AV.cell (((AV.elems (gt N 2)).set R (.ag [AV.cell ((AV.elems (gt N 2)).getD R .un) 0,AV.cell ((AV.elems (gt N 2)).getD R .un) 1,AV.cell ((AV.elems (gt N 2)).getD R .un) 2,AV.cell ((AV.elems (gt N 2)).getD R .un) 3,AV.cell ((AV.elems (gt N 2)).getD R .un) 4,AV.cell ((AV.elems (gt N 2)).getD R .un) 5,T,AV.cell ((AV.elems (gt N 2)).getD R .un) 7,AV.cell ((AV.elems (gt N 2)).getD R .un) 8])).getD U .un) 2,AV.cell (((AV.elems (gt N 2)).set R (.ag [AV.cell ((AV.elems (gt N 2)).getD R .un) 0,AV.cell ((AV.elems (gt N 2)).getD R .un) 1,AV.cell ((AV.elems (gt N 2)).getD R .un) 2,AV.cell ((AV.elems (gt N 2)).getD R .un) 3,AV.cell ((AV.elems (gt N 2)).getD R .un) 4,AV.cell ((AV.elems (gt N 2)).getD R .un) 5,T,AV.cell ((AV.elems (gt N 2)).getD R .un) 7,AV.cell ((AV.elems (gt N 2)).getD R .un) 8])).getD U .un) 3,AV.cell (((AV.elems (gt N 2)).set R (.ag [AV.cell ((AV.elems (gt N 2)).getD R .un) 0,AV.cell ((AV.elems (gt N 2)).getD R .un) 1,AV.cell ((AV.elems (gt N 2)).getD R .un) 2,AV.cell ((AV.elems (gt N 2)).getD R .un) 3,AV.cell ((AV.elems (gt N 2)).getD R .un) 4,AV.cell ((AV.elems (gt N 2)).getD R .un) 5,T,AV.cell ((AV.elems (gt N 2)).getD R .un) 7,AV.cell ((AV.elems (gt N 2)).getD R .un) 8])).getD U .un) 4,AV.cell (((AV.elems (gt N 2)).set R (.ag [AV.cell ((AV.elems (gt N 2)).getD R .un) 0,AV.cell ((AV.elems (gt N 2)).getD R .un) 1,AV.cell ((AV.elems (gt N 2)).getD R .un) 2,AV.cell ((AV.elems (gt N 2)).getD R .un) 3,AV.cell ((AV.elems (gt N 2)).getD R .un) 4,AV.cell ((AV.elems (gt N 2)).getD R .un) 5,T,AV.cell ((AV.elems (gt N 2)).getD R .un) 7,AV.cell ((AV.elems (gt N 2)).getD R .un) 8])).getD U .un) 5,AV.cell (((AV.elems (gt N 2)).set R (.ag [AV.cell ((AV.elems (gt N 2)).getD R .un) 0,AV.cell ((AV.elems (gt N 2)).getD R .un) 1,AV.cell ((AV.elems (gt N 2)).getD R .un) 2,AV.cell ((AV.elems (gt N 2)).getD R .un) 3,AV.cell ((AV.elems (gt N 2)).getD R .un) 4,AV.cell ((AV.elems (gt N 2)).getD R .un) 5,T,AV.cell ((AV.elems (gt N 2)).getD R .un) 7,AV.cell ((AV.elems (gt N 2)).getD R .un) 8])).getD U .un) 6,.b true,AV.cell (((AV.elems (gt N 2)).set R (.ag [AV.cell ((AV.elems (gt N 2)).getD R .un) 0,AV.cell ((AV.elems (gt N 2)).getD R .un) 1,AV.cell ((AV.elems (gt N 2)).getD R .un) 2,AV.cell ((AV.elems (gt N 2)).getD R .un) 3,AV.cell ((AV.elems (gt N 2)).getD R .un) 4,AV.cell ((AV.elems (gt N 2)).getD R .un) 5,T,AV.cell ((AV.elems (gt N 2)).getD R .un) 7,AV.cell ((AV.elems (gt N 2)).getD R .un) 8])).getD U .un) 8])) (gt N 3))))
 (xt r b d e f g (gt q 0) (gt q 1) ((AV.elems (gt q 2)).set w (.ag [AV.cell ((AV.elems (gt q 2)).getD w .un) 0,AV.cell ((AV.elems (gt q 2)).getD w .un) 1,AV.cell ((AV.elems (gt q 2)).getD w .un) 2,AV.cell ((AV.elems (gt q 2)).getD w .un) 3,AV.cell ((AV.elems (gt q 2)).getD w .un) 4,x,AV.cell ((AV.elems (gt q 2)).getD w .un) 6,AV.cell ((AV.elems (gt q 2)).getD w .un) 7,AV.cell ((AV.elems (gt q 2)).getD w .un) 8])) (gt q 3)))
theorem c74 (a b d e f g i j k l m) {r:AV} (h:Xn a b d e f g i j k l m (ae (C mx) Tryz.prog) (af (C mx) Tryz.prog 74 Tryz.f74)=some r):ae (C mx) Tryz.prog 74 [.un,.int a,.ag [.u8 b,.int d,.s e,.b f,g],.int i,.ag [j,.int k,.ro 9 l,m]]=some r :=
 aj (fun _ _=>by kernel_rfl) h
def xu (a:UInt8) (b:Int) (d:List UInt8) (e:Bool) (f g i:AV) (j:List AV) (k:AV) (c:aq) (r:RunT):Option AV :=
 (eP g).bind fun l=>(aH .geq i l).bind fun m=>ah m
 (some (.tu [.pt [.int b,.int 4],.ag [g,i,.ro 9 j,k]]))
 ((idx 5 g i).bind fun n=>(aH .eql (AV.cell n 0) (.u8 3)).bind fun o=>ah o
 ((idx 5 g i).bind fun p=>(AV.one (AV.cell p 1)).bind fun q=>some (.tu [.pt [q,.int 4],.ag [g,i,.ro 9 j,k]]))
 ((aH .add i (.int 1)).bind fun s=>(AV.one s).bind fun t=>some (.tu [.eB,.ag [g,t,.ro 9 j,k]])))
theorem Bp (a b d e f g i j k) {r:AV} (h:xu a b d e f g i j k (ae (C mx) Tryz.prog) (af (C mx) Tryz.prog 74 Tryz.f74)=some r):xt (af (C mx) Tryz.prog 74 Tryz.f74) a b d e f g i j k=some r :=
 ak (fun _ _=>by kernel_rfl) h
structure Nd where
 kind:UInt8
 at':Nat
 text:List UInt8
 root:Bool
 names:AV
 body:Option (List Nat)
 els:Option (List Nat)
 has:Bool
 hole:UInt8
def aF (l:List Nat):List AV:=l.map fun (n:Nat)=>AV.int (n:Int)
def dA:Option (List Nat)→AV
 | none=>.aG
 | some l=>.ro 1 (aF l)
def Nd.av (n:Nd):AV:=.ag [.u8 n.kind,.int (n.at':Int),.s n.text,.b n.root,n.names,dA n.body,dA n.els,.b n.has,.u8 n.hole]
inductive Pr (α:Type) where
 | ok (x:α)
 | bad (at':Nat) (e:Nat)
def Pr.ptr {α:Type}:Pr α→AV
 | .ok _=>.eB
 | .bad a e=>.pt [.int (a:Int),.int (e:Int)]
structure Ps where
 at':Nat
 nodes:List Nd
def jn (w:Wd):Nd:=⟨0,w.at',w.text,w.root,w.names,none,none,false,0⟩
def bh (k:UInt8):UInt8:=if k == 1 then 1 else if k == 6 then 4 else if k == 2 then 2 else if k == 4 then 3 else 0
def bl (l:List Nd) (i:Nat) (f:Nd→Nd):List Nd:=l.modify i f
mutual
def cS (ws:List Wd):Nat→Nat→Ps→List Nat→Option (Pr (List Nat)×Ps)
 | 0,_,_,_=>none
 | n+1,d,p,out =>
  match ws[p.at']? with
  | none=>some (.ok out,p)
  | some w =>
   if w.kind == 3 || w.kind == 5 then some (.ok out,p)
   else match fg ws n d w { p with at':=p.at'+1 } with
    | none=>none
    | some (.bad a e,q)=>some (.bad a e,q)
    | some (.ok i,q)=>cS ws n d q (out ++ [i])
def fg (ws:List Wd):Nat→Nat→Wd→Ps→Option (Pr Nat×Ps)
 | 0,_,_,_=>none
 | n+1,d,w,p =>
  let i:=p.nodes.length
  let q:Ps:={ p with nodes:=p.nodes ++ [jn w] }
  if w.kind == 2 || w.kind == 4 then
   if 16≤d then some (.bad w.at' 3,q)
   else match fh ws n d i w q with
    | none=>none
    | some (.bad a e,r)=>some (.bad a e,r)
    | some (.ok _,r)=>some (.ok i,{ r with nodes:=bl r.nodes i fun x=>{ x with kind:=bh w.kind } })
  else some (.ok i,{ q with nodes:=bl q.nodes i fun x=>{ x with kind:=bh w.kind } })
def fh (ws:List Wd):Nat→Nat→Nat→Wd→Ps→Option (Pr Unit×Ps)
 | 0,_,_,_,_=>none
 | n+1,d,i,w,p =>
  match cS ws n (d+1) p [] with
  | none=>none
  | some (.bad a e,q)=>some (.bad a e,q)
  | some (.ok body,q) =>
   let q1:Ps:={ q with nodes:=bl q.nodes i fun x=>{ x with body:=some body } }
   match ws[q1.at']? with
   | none=>some (.bad w.at' 4,q1)
   | some v =>
    if v.kind == 3 then
     if w.kind == 4 then some (.bad v.at' 4,q1)
     else match cS ws n (d+1) { q1 with at':=q1.at'+1 } [] with
      | none=>none
      | some (.bad a e,r)=>some (.bad a e,r)
      | some (.ok els,r) =>
       let r1:Ps:={ r with nodes:=bl r.nodes i fun x=>{ x with els:=some els,has:=true } }
       match ws[r1.at']? with
       | none=>some (.bad w.at' 4,r1)
       | some u=>if u.kind == 3 then some (.bad u.at' 4,r1) else some (.ok (),{ r1 with at':=r1.at'+1 })
    else some (.ok (),{ q1 with at':=q1.at'+1 })
end
def Ps.av (ws:List Wd) (p:Ps):AV:=.ag [.ro 5 (ws.map Wd.av),.int (p.at':Int),.ro 9 (p.nodes.map Nd.av),.aG]
def iZ:Pr (List Nat)→AV
 | .ok l=>.tu [.ro 1 (aF l),.eB]
 | .bad a e=>.tu [.aG,.pt [.int (a:Int),.int (e:Int)]]
def jJ:Pr Nat→AV
 | .ok i=>.tu [.int (i:Int),.eB]
 | .bad a e=>.tu [.int 0,.pt [.int (a:Int),.int (e:Int)]]
theorem lF (k:Nat) {l:List AV} {i:Nat} (h:i < l.length):idx k (.ro k l) (.int (i:Int))=some l[i]:=by
 have h1:lS l.length (.int (i:Int))=some i:=eZ h
 unfold idx
 simp [h1,h]
theorem Bq {ws:List Wd} {i:Nat} {w:Wd} (h:ws[i]?=some w):idx 5 (.ro 5 (ws.map Wd.av)) (.int (i:Int))=some w.av:=by
 have hi:i < ws.length:=(List.getElem?_eq_some_iff.1 h).1
 rw [lF 5 (by rw [List.length_map];exact hi)]
 rw [List.getElem_map,(List.getElem?_eq_some_iff.1 h).2]
theorem mV {ns:List Nd} {i:Nat} (h:i < ns.length):(ns.map Nd.av).getD i .un=(ns[i]).av:=by
 rw [List.getD_eq_getElem?_getD,List.getElem?_map,List.getElem?_eq_getElem h];rfl
theorem sV {ns:List Nd} {i:Nat} (h:i < ns.length) (f:Nd→Nd):(ns.map Nd.av).set i (f ns[i]).av=(bl ns i f).map Nd.av:=by
 unfold bl
 apply List.ext_getElem
 ·simp
 ·intro j h1 h2
  rw [List.getElem_set,List.getElem_map,List.getElem_map,List.getElem_modify]
  split
  ·rename_i e;subst e;rfl
  ·rfl
theorem EC (w:Wd):AV.ag [.u8 w.kind,AV.cell w.av 1,AV.cell w.av 2,AV.cell w.av 3,AV.cell w.av 4]=w.av:=rfl
theorem UC (w:Wd):AV.cell w.av 0=.u8 w.kind:=rfl
theorem Xo (w:Wd):AV.cell w.av 1=.int (w.at':Int):=rfl
theorem QL (w:Nd):AV.cell w.av 0=.u8 w.kind:=rfl
theorem QM (w:Nd):AV.cell w.av 1=.int (w.at':Int):=rfl
theorem QN (w:Nd):AV.cell w.av 2=.s w.text:=rfl
theorem Tc (w:Nd):AV.cell w.av 3=.b w.root:=rfl
theorem PQ (w:Nd):AV.cell w.av 4=w.names:=rfl
theorem QO (w:Nd):AV.cell w.av 5=dA w.body:=rfl
theorem QP (w:Nd):AV.cell w.av 6=dA w.els:=rfl
theorem Td (w:Nd):AV.cell w.av 7=.b w.has:=rfl
theorem Te (w:Nd):AV.cell w.av 8=.u8 w.hole:=rfl
theorem nX:qq .neq .eB .eB=some (.b false):=rfl
theorem rp (l:List AV):qq .neq (.pt l) .eB=some (.b true):=rfl
theorem l6 (a b c d:AV):AV.aI 4 (.ag [a,b,c,d])=some [a,b,c,d]:=rfl
theorem ja (a b:AV):aV (.tu [a,b]) 0=some a:=rfl
theorem jb (a b:AV):aV (.tu [a,b]) 1=some b:=rfl
theorem bI (k:Nat) (l:List AV):AV.elems (.ro k l)=l:=rfl
theorem Dm {bytes k:Nat} {l:List AV} {x:AV} (h:(l.length+1) * bytes≤big):app bytes k l (.ro k [x])=some (l ++ [x]):=by
 unfold app AV.items
 simp only [if_true,Option.bind_some,List.length_cons,List.length_nil,Nat.zero_add]
 rw [if_pos h]
structure ED (ws:List Wd) (p q:Ps):Prop where
 lZ:q.nodes.length≤q.at'
 Fj:q.at'≤ws.length
 nodes:p.nodes.length≤q.nodes.length
def sW (mx:Int) (ws:List Wd) (n:Nat):Prop:=∀ d p out r q,cS ws n d p out=some (r,q)→d≤17→p.nodes.length≤p.at'→p.at'≤ws.length→out.length≤p.nodes.length →
 Dk (af (C mx) Tryz.prog 46 Tryz.f46) (d:Int) (aF out) (.ro 5 (ws.map Wd.av)) (.int (p.at':Int)) (p.nodes.map Nd.av) .aG=some (.tu [iZ r,q.av ws])∧ED ws p q∧∀ l,r=.ok l→l.length≤q.nodes.length
def Br (mx:Int) (ws:List Wd) (n:Nat):Prop:=∀ d w p r q,fg ws n d w p=some (r,q)→d≤17→p.nodes.length < p.at'→p.at'≤ws.length →
 ae (C mx) Tryz.prog 60 [.un,w.av,.int (d:Int),p.av ws]=some (.tu [jJ r,q.av ws])∧ED ws p q∧p.nodes.length < q.nodes.length∧∀ i,r=.ok i→i=p.nodes.length
def Bt (mx:Int) (ws:List Wd) (n:Nat):Prop:=∀ d i w p r q,fh ws n d i w p=some (r,q)→d < 17→i < p.nodes.length→p.nodes.length≤p.at'→p.at'≤ws.length →
 ae (C mx) Tryz.prog 74 [.un,.int (i:Int),w.av,.int (d:Int),p.av ws]=some (.tu [r.ptr,q.av ws])∧ED ws p q
theorem Bu {ws:List Wd} {n d:Nat} {p q:Ps} {r:Pr (List Nat)} (h:sW mx ws n) (hp:cS ws n d p []=some (r,q)) (hd:d≤17) (h1:p.nodes.length≤p.at') (h2:p.at'≤ws.length) :
  ae (C mx) Tryz.prog 46 [.un,.int (d:Int),p.av ws]=some (.tu [iZ r,q.av ws])∧ED ws p q∧∀ l,r=.ok l→l.length≤q.nodes.length:=by
 obtain ⟨h3,h4⟩:=h d p [] r q hp hd h1 h2 (Nat.zero_le _)
 exact ⟨c46 _ _ _ _ _ h3,h4⟩
theorem EE {ws:List Wd} (kj:ws.length≤100000) {n:Nat} (hL:sW mx ws n) (hN:Br mx ws n):sW mx ws (n+1):=by
 intro d p out r q h hd h1 h2 h3
 unfold cS at h
 have hlen:(ws.map Wd.av).length=ws.length:=List.length_map ..
 cases hw:ws[p.at']? with
 | none =>
  rw [hw] at h
  cases h
  have cK:ws.length≤p.at':=List.getElem?_eq_none_iff.1 hw
  refine ⟨M7 _ _ _ _ _ _ ?_,⟨h1,h2,Nat.le_refl _⟩,fun l e=>by cases e;exact h3⟩
  have e:decide ((p.at':Int) < ((ws.map Wd.av).length:Int))=false:=by rw [hlen,decide_eq_false_iff_not];omega
  simp only [Dl,dI,bo,e,Option.bind_some,ai,Bool.false_eq_true,if_false]
  rfl
 | some w =>
  rw [hw] at h
  simp only at h
  have hlt:p.at' < ws.length:=(List.getElem?_eq_some_iff.1 hw).1
  have e:decide ((p.at':Int) < ((ws.map Wd.av).length:Int))=true:=by rw [hlen,decide_eq_true_eq];omega
  have iW:=Bq hw
  have X:Dl (d:Int) (aF out) (.ro 5 (ws.map Wd.av)) (.int (p.at':Int)) (p.nodes.map Nd.av) .aG (ae (C mx) Tryz.prog) (af (C mx) Tryz.prog 46 Tryz.f46)=some (.tu [iZ r,q.av ws])∧ED ws p q∧∀ l,r=.ok l→l.length≤q.nodes.length:=by
   simp only [Dl,dI,bo,e,iW,UC,cI,aM,Option.bind_some,ai,if_true]
   cases hk:(w.kind == 3 || w.kind == 5) with
   | true =>
    rw [hk] at h
    rw [if_pos rfl] at h ⊢
    cases h
    exact ⟨rfl,⟨h1,h2,Nat.le_refl _⟩,fun l e=>by cases e;exact h3⟩
   | false =>
    rw [hk] at h
    rw [if_neg (by decide)] at h ⊢
    rw [fK (by omega) (by omega)]
    simp only [Option.bind_some,fJ,EC]
    cases hn:fg ws n d w { p with at':=p.at'+1 } with
    | none=>rw [hn] at h;cases h
    | some x =>
     obtain ⟨r1,q1⟩:=x
     rw [hn] at h
     obtain ⟨g1,g2,g3,g4⟩:=hN d w _ r1 q1 hn hd (show p.nodes.length < p.at'+1 by omega) (show p.at'+1≤ws.length by omega)
     have g1:ae (C mx) Tryz.prog 60 [.un,w.av,.int (d:Int),.ag [.ro 5 (ws.map Wd.av),.int ((p.at':Int)+1),.ro 9 (p.nodes.map Nd.av),.aG]]=some (.tu [jJ r1,q1.av ws]):=g1
     rw [g1]
     unfold Ps.av at *
     cases r1 with
     | bad a e =>
      cases h
      simp only [jJ,Option.bind_some,ja,jb,l6,rp,ai,if_true,List.getD_cons_zero,List.getD_cons_succ,bI]
      exact ⟨rfl,⟨g2.lZ,g2.Fj,Nat.le_trans (Nat.le_of_lt g3) (Nat.le_refl _)⟩,fun l e=>by cases e⟩
     | ok i =>
      simp only at h
      obtain rfl:i=p.nodes.length:=g4 i rfl
      have jA:(aF out).length=out.length:=List.length_map ..
      have hap:app 8 1 (aF out) (.ro 1 [.int (p.nodes.length:Int)])=some (aF (out ++ [p.nodes.length])):=by
       rw [Dm (by rw [jA];unfold big;omega)]
       simp [aF]
      simp only [jJ,Option.bind_some,ja,jb,l6,nX,ai,Bool.false_eq_true,if_false,fJ,hap,List.getD_cons_zero,List.getD_cons_succ,bI]
      have g3':p.nodes.length < q1.nodes.length:=g3
      obtain ⟨k1,k2,k3⟩:=hL d q1 (out ++ [p.nodes.length]) r q h hd g2.lZ g2.Fj (by rw [List.length_append,List.length_cons,List.length_nil];omega)
      exact ⟨k1,⟨k2.lZ,k2.Fj,Nat.le_trans (Nat.le_of_lt g3') k2.nodes⟩,k3⟩
  exact ⟨M7 _ _ _ _ _ _ X.1,X.2⟩
theorem Dn {ws:List Wd} {ns:List Nd} {i:Nat} (h:i < ns.length) (k:UInt8) (a:Nat) :
  mU (af (C mx) Tryz.prog 60 Tryz.f60) (i:Int) k (.ro 5 (ws.map Wd.av)) (.int (a:Int)) (ns.map Nd.av) .aG=some (.tu [jJ (.ok i),Ps.av ws ⟨a,bl ns i fun x=>{ x with kind:=k }⟩]):=by
 apply PO
 have hl:(ns.map Nd.av).length=ns.length:=List.length_map ..
 have rO:(ns.map Nd.av).set i (.ag [.u8 k,.int (ns[i].at':Int),.s ns[i].text,.b ns[i].root,ns[i].names,dA ns[i].body,dA ns[i].els,.b ns[i].has,.u8 ns[i].hole])=(bl ns i fun x=>{ x with kind:=k }).map Nd.av:=sV h fun x=>{ x with kind:=k }
 simp only [H7,hl,eZ h,Option.bind_some,mV h,QL,QM,QN,Tc,PQ,QO,QP,Td,Te,rO]
 rfl
theorem EF {ws:List Wd} (kj:ws.length≤100000) {n:Nat} (hB:Bt mx ws n):Br mx ws (n+1):=by
 intro d w p r q h hd h1 h2
 unfold fg at h
 simp only at h
 have hlen:(p.nodes.map Nd.av).length=p.nodes.length:=List.length_map ..
 have hap:app 120 9 (p.nodes.map Nd.av) (.ro 9 [.ag [.u8 0,.int (w.at':Int),.s w.text,.b w.root,w.names,.aG,.aG,.b false,.u8 0]])=some ((p.nodes ++ [jn w]).map Nd.av):=by
  rw [Dm (by rw [hlen];unfold big;omega)]
  simp only [List.map_append,List.map_cons,List.map_nil]
  rfl
 have hi:p.nodes.length < (p.nodes ++ [jn w]).length:=by simp
 have H9:∀ (l:List Nd) (i:Nat) (f:Nd→Nd),(bl l i f).length=l.length:=fun l i f=>by unfold bl;simp
 have key:Xm w.kind (w.at':Int) w.text w.root w.names (d:Int) (.ro 5 (ws.map Wd.av)) (p.at':Int) (p.nodes.map Nd.av) .aG (ae (C mx) Tryz.prog) (af (C mx) Tryz.prog 60 Tryz.f60)=some (.tu [jJ r,q.av ws])∧ED ws p q∧p.nodes.length < q.nodes.length∧∀ i,r=.ok i→i=p.nodes.length:=by
  simp only [Xm,hap,hlen,Option.bind_some,ai]
  have pl:∀ k:UInt8,(w.kind == 2 || w.kind == 4)=false→bh w.kind=k→mU (af (C mx) Tryz.prog 60 Tryz.f60) (p.nodes.length:Int) k (.ro 5 (ws.map Wd.av)) (.int (p.at':Int)) ((p.nodes ++ [jn w]).map Nd.av) .aG=some (.tu [jJ r,q.av ws])∧ED ws p q∧p.nodes.length < q.nodes.length∧∀ i,r=.ok i→i=p.nodes.length:=fun k hk he=>by
   rw [hk,if_neg (by decide)] at h
   cases h
   rw [he]
   refine ⟨Dn hi k p.at',⟨?_,h2,?_⟩,?_,fun i e=>by cases e;rfl⟩
   ·show (bl _ _ _).length≤p.at'
    rw [H9];simp;omega
   ·show p.nodes.length≤(bl _ _ _).length
    rw [H9];simp
   ·show p.nodes.length < (bl _ _ _).length
    rw [H9];simp
  have br:∀ k:UInt8,(w.kind == 2 || w.kind == 4)=true→bh w.kind=k→xp (af (C mx) Tryz.prog 60 Tryz.f60) (d:Int) (p.nodes.length:Int) k w.kind (w.at':Int) w.text w.root w.names (.ro 5 (ws.map Wd.av)) (p.at':Int) ((p.nodes ++ [jn w]).map Nd.av) .aG=some (.tu [jJ r,q.av ws])∧ED ws p q∧p.nodes.length < q.nodes.length∧∀ i,r=.ok i→i=p.nodes.length:=fun k hk he=>by
   rw [hk,if_pos rfl] at h
   by_cases Tf:16≤d
   ·rw [if_pos Tf] at h
    cases h
    refine ⟨Bo _ _ _ _ _ _ _ _ _ _ _ _ ?_,⟨?_,h2,?_⟩,?_,fun i e=>by cases e⟩
    ·have e:decide ((d:Int) ≥ 16)=true:=by rw [decide_eq_true_eq];omega
     simp only [xr,e,ai,if_true]
     rfl
    ·show (p.nodes ++ [jn w]).length≤p.at'
     simp;omega
    ·show p.nodes.length≤(p.nodes ++ [jn w]).length
     simp
    ·exact hi
   ·rw [if_neg Tf] at h
    have e:decide ((d:Int) ≥ 16)=false:=by rw [decide_eq_false_iff_not];omega
    cases hb:fh ws n d p.nodes.length w { p with nodes:=p.nodes ++ [jn w] } with
    | none=>rw [hb] at h;cases h
    | some x =>
     obtain ⟨r1,q1⟩:=x
     rw [hb] at h
     obtain ⟨g1,g2⟩:=hB d p.nodes.length w _ r1 q1 hb (by omega) hi (show (p.nodes ++ [jn w]).length≤p.at' by simp;omega) h2
     have g1:ae (C mx) Tryz.prog 74 [.un,.int (p.nodes.length:Int),.ag [.u8 w.kind,.int (w.at':Int),.s w.text,.b w.root,w.names],.int (d:Int),.ag [.ro 5 (ws.map Wd.av),.int (p.at':Int),.ro 9 ((p.nodes ++ [jn w]).map Nd.av),.aG]]=some (.tu [r1.ptr,q1.av ws]):=g1
     have g3:p.nodes.length < q1.nodes.length:=Nat.lt_of_lt_of_le hi g2.nodes
     cases r1 with
     | bad a e2 =>
      cases h
      refine ⟨Bo _ _ _ _ _ _ _ _ _ _ _ _ ?_,⟨g2.lZ,g2.Fj,Nat.le_of_lt g3⟩,g3,fun i e=>by cases e⟩
      simp only [xr,e,ai,Bool.false_eq_true,if_false,g1,Pr.ptr,Ps.av,Option.bind_some,ja,jb,l6,rp,if_true,List.getD_cons_zero,List.getD_cons_succ,bI,jJ]
     | ok x =>
      cases h
      refine ⟨Bo _ _ _ _ _ _ _ _ _ _ _ _ ?_,⟨?_,g2.Fj,?_⟩,?_,fun i e=>by cases e;rfl⟩
      ·simp only [xr,e,ai,Bool.false_eq_true,if_false,g1,Pr.ptr,Ps.av,Option.bind_some,ja,jb,l6,nX,List.getD_cons_zero,List.getD_cons_succ,bI]
       rw [he]
       exact Dn g3 k q1.at'
      ·show (bl _ _ _).length≤q1.at'
       rw [H9];exact g2.lZ
      ·show p.nodes.length≤(bl _ _ _).length
       rw [H9];exact Nat.le_of_lt g3
      ·show p.nodes.length < (bl _ _ _).length
       rw [H9];exact g3
  have hu:∀ x y:UInt8,aO x y=(x == y):=fun x y=>aN x y
  simp only [hu]
  cases k1:w.kind == 1 with
  | true =>
   have:w.kind=1:=by simpa using k1
   rw [if_pos rfl]
   exact pl 1 (by rw [this];decide) (by rw [this];decide)
  | false =>
   rw [if_neg (by decide)]
   cases k6:w.kind == 6 with
   | true =>
    have:w.kind=6:=by simpa using k6
    rw [if_pos rfl]
    exact pl 4 (by rw [this];decide) (by rw [this];decide)
   | false =>
    rw [if_neg (by decide)]
    cases k2:w.kind == 2 with
    | true =>
     have e2:w.kind=2:=by simpa using k2
     rw [if_pos rfl]
     have:=br 2 (by rw [e2];decide) (by rw [e2];decide)
     refine ⟨H8 _ _ _ _ _ _ _ _ _ _ _ ?_,this.2⟩
     simp only [Bn,hu,ai]
     rw [if_neg (by rw [e2];decide)]
     exact this.1
    | false =>
     rw [if_neg (by decide)]
     cases k4:w.kind == 4 with
     | true =>
      have e4:w.kind=4:=by simpa using k4
      rw [if_pos rfl]
      have:=br 3 (by rw [e4];decide) (by rw [e4];decide)
      refine ⟨H8 _ _ _ _ _ _ _ _ _ _ _ ?_,this.2⟩
      simp only [Bn,hu,ai]
      rw [if_pos (by rw [e4];decide)]
      exact this.1
     | false =>
      rw [if_neg (by decide)]
      exact pl 0 (by rw [k2,k4];rfl) (by unfold bh;rw [k1,k6,k2,k4];rfl)
 exact ⟨c60 _ _ _ _ _ _ _ _ _ _ key.1,key.2⟩
theorem xv {ws:List Wd} (kj:ws.length≤100000) {w:Wd} {p:Ps} (h2:p.at'≤ws.length) {r:Pr Unit×Ps}
  (h:(match ws[p.at']? with
   | none=>(Pr.bad w.at' 4,p)
   | some u=>if u.kind == 3 then (Pr.bad u.at' 4,p) else (Pr.ok (),{ p with at':=p.at'+1 }))=r) :
  xt (af (C mx) Tryz.prog 74 Tryz.f74) w.kind (w.at':Int) w.text w.root w.names (.ro 5 (ws.map Wd.av)) (.int (p.at':Int)) (p.nodes.map Nd.av) .aG=some (.tu [r.1.ptr,r.2.av ws])∧(p.nodes.length≤p.at'→ED ws p r.2):=by
 have hlen:(ws.map Wd.av).length=ws.length:=List.length_map ..
 cases hw:ws[p.at']? with
 | none =>
  rw [hw] at h
  subst h
  have cK:ws.length≤p.at':=List.getElem?_eq_none_iff.1 hw
  have e:decide (((ws.map Wd.av).length:Int)≤(p.at':Int))=true:=by rw [hlen,decide_eq_true_eq];omega
  refine ⟨Bp _ _ _ _ _ _ _ _ _ ?_,fun h1=>⟨h1,h2,Nat.le_refl _⟩⟩
  simp only [xu,dI,gq,e,Option.bind_some,ai,if_true]
  rfl
 | some u =>
  rw [hw] at h
  have hlt:p.at' < ws.length:=(List.getElem?_eq_some_iff.1 hw).1
  have e:decide (((ws.map Wd.av).length:Int)≤(p.at':Int))=false:=by rw [hlen,decide_eq_false_iff_not];omega
  have iW:=Bq hw
  simp only at h
  cases hk:u.kind == 3 with
  | true =>
   rw [hk,if_pos rfl] at h
   subst h
   refine ⟨Bp _ _ _ _ _ _ _ _ _ ?_,fun h1=>⟨h1,h2,Nat.le_refl _⟩⟩
   simp only [xu,dI,gq,e,iW,UC,Xo,cI,hk,fJ,Option.bind_some,ai,Bool.false_eq_true,if_false,if_true]
   rfl
  | false =>
   rw [hk,if_neg (by decide)] at h
   subst h
   refine ⟨Bp _ _ _ _ _ _ _ _ _ ?_,fun h1=>⟨Nat.le_trans h1 (Nat.le_succ _),hlt,Nat.le_refl _⟩⟩
   simp only [xu,dI,gq,e,iW,UC,Xo,cI,hk,fJ,Option.bind_some,ai,Bool.false_eq_true,if_false]
   rw [fK (by omega) (by omega)]
   rfl
theorem EG {ws:List Wd} (kj:ws.length≤100000) {n:Nat} (hL:sW mx ws n):Bt mx ws (n+1):=by
 intro d i w p r q h hd hi h1 h2
 unfold fh at h
 have Xp:bN ((d:Int)+1)=((d+1:Nat):Int):=by rw [cJ (by omega) (by omega)];rfl
 have Th:(ws.map Wd.av).length=ws.length:=List.length_map ..
 have H9:∀ (l:List Nd) (i:Nat) (f:Nd→Nd),(bl l i f).length=l.length:=fun l i f=>by unfold bl;simp
 have key:Xn (i:Int) w.kind (w.at':Int) w.text w.root w.names (d:Int) (.ro 5 (ws.map Wd.av)) (p.at':Int) (p.nodes.map Nd.av) .aG (ae (C mx) Tryz.prog) (af (C mx) Tryz.prog 74 Tryz.f74)=some (.tu [r.ptr,q.av ws])∧ED ws p q:=by
  cases hb:cS ws n (d+1) p [] with
  | none=>rw [hb] at h;cases h
  | some x =>
   obtain ⟨r1,q1⟩:=x
   rw [hb] at h
   obtain ⟨g1,g2,_⟩:=Bu hL hb (by omega) h1 h2
   have g1:ae (C mx) Tryz.prog 46 [.un,.int ((d+1:Nat):Int),.ag [.ro 5 (ws.map Wd.av),.int (p.at':Int),.ro 9 (p.nodes.map Nd.av),.aG]]=some (.tu [iZ r1,.ag [.ro 5 (ws.map Wd.av),.int (q1.at':Int),.ro 9 (q1.nodes.map Nd.av),.aG]]):=g1
   simp only [Xn,Xp,g1,Option.bind_some,ja,jb,l6]
   cases r1 with
   | bad a e =>
    cases h
    simp only [iZ,Option.bind_some,ja,jb,rp,ai,if_true,List.getD_cons_zero,List.getD_cons_succ,bI]
    exact ⟨rfl,g2⟩
   | ok body =>
    simp only at h
    have Mw:i < q1.nodes.length:=Nat.lt_of_lt_of_le hi g2.nodes
    have Ug:(q1.nodes.map Nd.av).length=q1.nodes.length:=List.length_map ..
    have rO:(q1.nodes.map Nd.av).set i (.ag [.u8 q1.nodes[i].kind,.int (q1.nodes[i].at':Int),.s q1.nodes[i].text,.b q1.nodes[i].root,q1.nodes[i].names,.ro 1 (aF body),dA q1.nodes[i].els,.b q1.nodes[i].has,.u8 q1.nodes[i].hole])=(bl q1.nodes i fun x=>{ x with body:=some body }).map Nd.av:=sV Mw fun x=>{ x with body:=some body }
    simp only [iZ,Option.bind_some,ja,jb,nX,ai,Bool.false_eq_true,if_false,List.getD_cons_zero,List.getD_cons_succ,bI,Ug,eZ Mw,Gi,mV Mw,QL,QM,QN,Tc,PQ,QO,QP,Td,Te,rO,dI,bo,Th]
    generalize NT:(bl q1.nodes i fun x=>{ x with body:=some body })=ns at h ⊢
    have pE:ns.length=q1.nodes.length:=by rw [← NT,H9]
    have QQ:ED ws p ⟨q1.at',ns⟩:=⟨by show ns.length≤q1.at';rw [pE];exact g2.lZ,g2.Fj,by show p.nodes.length≤ns.length;rw [pE];exact g2.nodes⟩
    cases hv:ws[q1.at']? with
    | none =>
     rw [hv] at h
     have cK:ws.length≤q1.at':=List.getElem?_eq_none_iff.1 hv
     have e:decide ((q1.at':Int) < (ws.length:Int))=false:=by rw [decide_eq_false_iff_not];omega
     simp only [e,gm,Option.bind_some,ai,Bool.false_eq_true,if_false]
     obtain ⟨k1,k2⟩:=xv (mx:=mx) kj (w:=w) (p:=⟨q1.at',ns⟩) g2.Fj rfl
     rw [show ws[(⟨q1.at',ns⟩:Ps).at']?=none from hv] at k1 k2
     cases h
     exact ⟨k1,QQ⟩
    | some v =>
     rw [hv] at h
     simp only at h
     have hlt:q1.at' < ws.length:=(List.getElem?_eq_some_iff.1 hv).1
     have e:decide ((q1.at':Int) < (ws.length:Int))=true:=by rw [decide_eq_true_eq];omega
     have iW:=Bq hv
     simp only [e,iW,UC,Xo,cI,qI,Option.bind_some,ai,aN]
     cases hk:v.kind == 3 with
     | false =>
      rw [hk,if_neg (by decide)] at h
      rw [if_neg (by decide)]
      obtain ⟨k1,k2⟩:=xv (mx:=mx) kj (w:=w) (p:=⟨q1.at',ns⟩) g2.Fj rfl
      rw [show ws[(⟨q1.at',ns⟩:Ps).at']?=some v from hv] at k1 k2
      simp only [hk,Bool.false_eq_true,if_false] at k1 k2
      cases h
      exact ⟨k1,⟨Nat.le_trans QQ.lZ (Nat.le_succ _),hlt,QQ.nodes⟩⟩
     | true =>
      rw [hk,if_pos rfl] at h
      rw [if_pos rfl]
      cases hk4:w.kind == 4 with
      | true =>
       rw [hk4,if_pos rfl] at h
       rw [if_pos rfl]
       cases h
       simp only [fJ,Option.bind_some]
       exact ⟨rfl,QQ⟩
      | false =>
       rw [hk4,if_neg (by decide)] at h
       rw [if_neg (by decide),fK (by omega) (by omega)]
       simp only [fJ,Option.bind_some]
       cases hb2:cS ws n (d+1) ⟨q1.at'+1,ns⟩ [] with
       | none=>rw [hb2] at h;cases h
       | some x =>
        obtain ⟨r2,q2⟩:=x
        rw [hb2] at h
        obtain ⟨m1,m2,_⟩:=Bu hL hb2 (by omega) (show ns.length≤q1.at'+1 by have:=QQ.lZ;exact Nat.le_trans this (Nat.le_succ _)) hlt
        have m1:ae (C mx) Tryz.prog 46 [.un,.int ((d+1:Nat):Int),.ag [.ro 5 (ws.map Wd.av),.int ((q1.at':Int)+1),.ro 9 (ns.map Nd.av),.aG]]=some (.tu [iZ r2,.ag [.ro 5 (ws.map Wd.av),.int (q2.at':Int),.ro 9 (q2.nodes.map Nd.av),.aG]]):=m1
        have QR:ED ws p q2:=⟨m2.lZ,m2.Fj,Nat.le_trans QQ.nodes m2.nodes⟩
        simp only [m1,Option.bind_some,ja,jb,l6]
        cases r2 with
        | bad a e2 =>
         cases h
         simp only [iZ,Option.bind_some,ja,jb,rp,ai,if_true,List.getD_cons_zero,List.getD_cons_succ,bI]
         exact ⟨rfl,QR⟩
        | ok els =>
         simp only at h
         have RX:i < q2.nodes.length:=Nat.lt_of_lt_of_le hi QR.nodes
         have hl2:(q2.nodes.map Nd.av).length=q2.nodes.length:=List.length_map ..
         have Ti:(q2.nodes.map Nd.av).set i (.ag [.u8 q2.nodes[i].kind,.int (q2.nodes[i].at':Int),.s q2.nodes[i].text,.b q2.nodes[i].root,q2.nodes[i].names,dA q2.nodes[i].body,.ro 1 (aF els),.b q2.nodes[i].has,.u8 q2.nodes[i].hole])=(bl q2.nodes i fun x=>{ x with els:=some els }).map Nd.av:=sV RX fun x=>{ x with els:=some els }
         simp only [iZ,Option.bind_some,ja,jb,nX,ai,Bool.false_eq_true,if_false,List.getD_cons_zero,List.getD_cons_succ,bI,hl2,eZ RX,Gi,mV RX,QL,QM,QN,Tc,PQ,QO,QP,Td,Te,Ti]
         generalize Zv:(bl q2.nodes i fun x=>{ x with els:=some els })=ms
         have Xq:ms.length=q2.nodes.length:=by rw [← Zv,H9]
         have OI:i < ms.length:=by rw [Xq];exact RX
         have Fh:(ms.map Nd.av).length=ms.length:=List.length_map ..
         have Tj:(ms.map Nd.av).set i (.ag [.u8 ms[i].kind,.int (ms[i].at':Int),.s ms[i].text,.b ms[i].root,ms[i].names,dA ms[i].body,dA ms[i].els,.b true,.u8 ms[i].hole])=(bl ms i fun x=>{ x with has:=true }).map Nd.av:=sV OI fun x=>{ x with has:=true }
         simp only [Fh,eZ OI,Option.bind_some,mV OI,QL,QM,QN,Tc,PQ,QO,QP,Td,Te,Tj]
         have KF:bl ms i (fun x=>{ x with has:=true })=bl q2.nodes i fun x=>{ x with els:=some els,has:=true }:=by
          rw [← Zv];unfold bl
          apply List.ext_getElem
          ·simp
          ·intro j j1 j2
           simp only [List.getElem_modify]
           split <;> rfl
         rw [KF]
         have LC:ED ws p ⟨q2.at',bl q2.nodes i fun x=>{ x with els:=some els,has:=true }⟩:=⟨by show (bl _ _ _).length≤_;rw [H9];exact QR.lZ,QR.Fj,by show _≤(bl _ _ _).length;rw [H9];exact QR.nodes⟩
         obtain ⟨k1,k2⟩:=xv (mx:=mx) kj (w:=w) (p:=⟨q2.at',bl q2.nodes i fun x=>{ x with els:=some els,has:=true }⟩) QR.Fj rfl
         have k3:=k2 LC.lZ
         cases hu:ws[q2.at']? with
         | none =>
          rw [hu] at h
          rw [show ws[(⟨q2.at',bl q2.nodes i fun x=>{ x with els:=some els,has:=true }⟩:Ps).at']?=none from hu] at k1 k3
          cases h
          exact ⟨k1,LC⟩
         | some u =>
          rw [hu] at h
          rw [show ws[(⟨q2.at',bl q2.nodes i fun x=>{ x with els:=some els,has:=true }⟩:Ps).at']?=some u from hu] at k1 k3
          simp only at h k1 k3
          cases Zw:u.kind == 3 with
          | true =>
           simp only [Zw,if_true] at h k1 k3
           cases h
           exact ⟨k1,LC⟩
          | false =>
           simp only [Zw,Bool.false_eq_true,if_false] at h k1 k3
           cases h
           exact ⟨k1,⟨k3.lZ,k3.Fj,LC.nodes⟩⟩
 exact ⟨c74 _ _ _ _ _ _ _ _ _ _ _ key.1,key.2⟩
theorem uY {ws:List Wd} (kj:ws.length≤100000):∀ n,sW mx ws n∧Br mx ws n∧Bt mx ws n
 | 0=>⟨fun d p out r q h=>by simp [cS] at h,fun d w p r q h=>by simp [fg] at h,fun d i w p r q h=>by simp [fh] at h⟩
 | n+1=>by
  obtain ⟨h1,h2,h3⟩:=uY kj n
  exact ⟨EE kj h1 h2,EF kj h3,EG kj h1⟩
end R3
namespace R3
open Go Go.Proofs Go.RowKit Go.Shelf Sx
variable {mx:Int}
def fZ (F:Nat→Prop) (Pb:Nat) (nv:Value):Fs:=⟨F,fun b=>b=Pb∨nv.ownBlock=some b,fun _=>none⟩
def uZ (cs:List Cell):St:=⟨fun t=>bif Nat.beq t 0 then .cell (.ptr 0 0) else .dead,fun s=>bif Nat.beq s 0 then some cs else none⟩
def fx (id0:Nat) (nv:Value):Nat→Option Value:=fun i=>if i=id0 then some nv else none
def gjσ (Pb:Nat):Nat→Option Nat:=fun s=>if s=0 then some Pb else none
theorem Tk {C:cU} {w:World} {F:Nat→Prop} (hG:aQ C w F) {Pb e:Nat} {vs:List Value} {cs:List Cell} {id0:Nat} {nv:Value} (hP:w.heap[Pb]?=some (.cells vs.toArray e (0,0))) (hl:vs.length=cs.length) (LD:¬ F Pb)
  (yf:∀ g,nv.ownBlock=some g→¬ F g∧g≠Pb∧g < w.heap.size)
  (hcs:∀ (j:Nat) (c:Cell) (v:Value),cs[j]?=some c→vs[j]?=some v→(∃ u,c=.val u∧v.oneCell'=true∧Rel w F u v)∨(∃ e k l,c=.own id0 e k l∧v=nv∧ba w F e k l v)) :
  Inv C w (fZ F Pb nv) 2 (uZ cs) ⟨#[.pointer (some ⟨Pb,0,none⟩),undef],[]⟩ w (fx id0 nv) (gjσ Pb):=by
 have hlt:Pb < w.heap.size:=(Array.getElem?_eq_some_iff.1 hP).1
 have fw:∀ b,F b→Fr w.heap.size (fZ F Pb nv) (fx id0 nv) (gjσ Pb) b:=fun b hb=>by
  refine ⟨fun _=>.inl hb,fun i v hi ho=>?_,fun s hs=>?_⟩
  ·unfold fx at hi
   split at hi
   ·cases hi;exact (yf b ho).1 hb
   ·cases hi
  ·unfold gjσ at hs
   split at hs
   ·cases hs;exact LD hb
   ·cases hs
 have sX:∀ {a:AV} {v:Value},Rel w F a v→Rel w (Fr w.heap.size (fZ F Pb nv) (fx id0 nv) (gjσ Pb)) a v:=fun h=>h.mono fun b _ hb=>⟨fw b hb,rfl⟩
 exact {
  defers:=rfl
  size:=rfl
  env:=fun t=>by
   match t with
   | 0=>exact ⟨Pb,rfl,rfl⟩
   | t+1=>trivial
  mem:=fun s cs' hs=>by
   match s,hs with
   | 0,hs =>
    cases hs
    refine ⟨Pb,vs,e,rfl,hP,hl,fun j c v hc hv=>?_⟩
    rcases hcs j c v hc hv with ⟨u,rfl,h1,h2⟩ | ⟨e,k,l,rfl,rfl,h2⟩
    ·exact ⟨h1,sX h2⟩
    ·refine ⟨by show fx id0 v id0=some v;unfold fx;rw [if_pos rfl],h2.mono (fun b _ hb=>⟨fw b hb,rfl⟩) fun _ _=>rfl⟩
   | s+1,hs=>cases hs
  hown:=fun i x g hi hx=>by
   unfold fx at hi
   split at hi
   ·cases hi;exact ⟨.inr (.inr hx),(yf g hx).2.2⟩
   ·cases hi
  sown:=fun s r hs=>by
   unfold gjσ at hs
   split at hs
   ·cases hs;exact ⟨.inr (.inl rfl),hlt⟩
   ·cases hs
  obj:=fun s b hb=>by cases hb
  hh:=fun i j x y g hne hi hj=>by
   unfold fx at hi hj
   split at hi
   ·split at hj
    ·omega
    ·cases hj
   ·cases hi
  hs:=fun i s x r hi hs=>by
   unfold fx at hi
   unfold gjσ at hs
   split at hi
   ·split at hs
    ·cases hi;cases hs;exact fun e=>(yf _ e).2.1 rfl
    ·cases hs
   ·cases hi
  ss:=fun s s' r hne hs=>by
   unfold gjσ at hs ⊢
   split at hs
   ·rw [if_neg (by omega)];simp
   ·cases hs
  glob:=fun g k e hg=>by
   obtain ⟨b',o,h1,h2,h3,h4⟩:=hG g k e hg
   refine ⟨b',o,h1,fw b' h2,h3,fun j hj=>?_⟩
   obtain ⟨v,q1,q2,q3⟩:=h4 j hj
   exact ⟨v,q1,q2,sX q3⟩
  below:=Fq.refl _ w }
def bt (W:World) (F:Nat→Prop) (Pb:Nat) (nv nv':Value) (b:Nat):Prop:=(b < W.heap.size→F b∨nv.ownBlock=some b)∧b≠Pb∧nv'.ownBlock≠some b
structure EH (W:World) (Pb:Nat) (nv:Value) (W':World):Prop where
 os:W'.os=W.os
 tape:W'.tape=W.tape
 output:W'.output=W.output
 size:W.heap.size≤W'.heap.size
 block:∀ b,b < W.heap.size→b≠Pb→nv.ownBlock≠some b→W'.heap[b]?=W.heap[b]?
set_option maxRecDepth 100000
def Tl:vE:={ ps:=[.obj 0,.v],objs:=[(.arg 0,[.v,.v,.own 58 9,.v])],outs:=[(.arg 0,[.v,.v,.own 58 9,.v])] }
def jK (words:AV) (at':Int) (nodes:List AV) (top:AV):List Cell:=[.val words,.val (.int at'),.own 9 58 9 nodes,.val top]
def Tm (words:AV) (at':Int) (nodes:List AV) (top res o0 o1 o2 o3:AV):St :=
 (((uZ (jK words at' nodes top)).Fm [9,600002]).ek 0 [.val o0,.val o1,.own 600002 58 9 o2.elems,.val o3]).put (some 1) (.val res)
theorem Xr (call:Nat→List AV→Option AV) {words top:AV} {at' d:Int} {nodes:List AV} (Cc:cU) {res o0 o1 o2 o3:AV} (hc:call 46 [.un,.int d,.ag [words,.int at',.ro 9 nodes,top]]=some (.tu [res,.ag [o0,o1,o2,o3]])) :
  cX (C mx) call Tl 46 (([.tmp 0,.const (.int .i64 d)]:List Operand).map ((uZ (jK words at' nodes top)).get (C mx)) ++ ([]:List Nat).map fun s=>.cell (.ptr s 0)) (some 1) (uZ (jK words at' nodes top)) (fun st=>some st)=some (Tm words at' nodes top res o0 o1 o2 o3):=by
 show ((call 46 [.un,.int d,.ag [words,.int at',.ro 9 nodes,top]]).bind fun res=>_)=_
 rw [hc]
 rfl
set_option maxRecDepth 100000 in
theorem Bv {w:World} {F:Nat→Prop} (hG:aQ (C mx) w F) {Pb e:Nat} {wv tv nv:Value} {at' d:Int} {words top:AV} {nodes:List AV} (hP:w.heap[Pb]?=some (.cells #[wv,.int .i64 at',nv,tv] e (0,0))) (LD:¬ F Pb)
  (yf:∀ g,nv.ownBlock=some g→¬ F g∧g≠Pb∧g < w.heap.size) (h1:wv.oneCell'=true) (hw:Rel w F words wv) (h2:tv.oneCell'=true) (ht:Rel w F top tv) (hn:ba w F 58 9 nodes nv)
  {res o0 o1 o2 o3:AV} (hc:ae (C mx) Tryz.prog 46 [.un,.int d,.ag [words,.int at',.ro 9 nodes,top]]=some (.tu [res,.ag [o0,o1,o2,o3]])) :
  Calls Tryz.prog 46 #[.pointer (some ⟨Pb,0,none⟩),.int .i64 d] w fun en w'=>∃ v x0 x1 x2 x3 e',en=.returned v∧EH w Pb nv w'∧w'.heap[Pb]?=some (.cells #[x0,x1,x2,x3] e' (0,0)) ∧
   Rel w' (bt w F Pb nv x2) res v∧Rel w' (bt w F Pb nv x2) o0 x0∧Rel w' (bt w F Pb nv x2) o1 x1∧ba w' (bt w F Pb nv x2) 58 9 o2.elems x2∧(x3.oneCell'=true∧Rel w' (bt w F Pb nv x2) o3 x3) ∧
   (∀ g,x2.ownBlock=some g→(w.heap.size≤g∨nv.ownBlock=some g)∧g≠Pb∧g < w'.heap.size):=by
 have hI:=Tk (C:=C mx) hG (Pb:=Pb) (e:=e) (vs:=[wv,.int .i64 at',nv,tv]) (cs:=jK words at' nodes top) (id0:=9) (nv:=nv) hP rfl LD yf (fun j c v hc hv=>by
  match j,hc,hv with
  | 0,hc,hv=>cases hc;cases hv;exact .inl ⟨_,rfl,h1,hw⟩
  | 1,hc,hv=>cases hc;cases hv;exact .inl ⟨_,rfl,rfl,.int at'⟩
  | 2,hc,hv=>cases hc;cases hv;exact .inr ⟨_,_,_,rfl,rfl,hn⟩
  | 3,hc,hv=>cases hc;cases hv;exact .inl ⟨_,rfl,h2,ht⟩
  | j+4,hc,hv=>simp [jK] at hc)
 have hK:cX (C mx) (ae (C mx) Tryz.prog) Tl 46 (([.tmp 0,.const (.int .i64 d)]:List Operand).map ((uZ (jK words at' nodes top)).get (C mx)) ++ ([]:List Nat).map fun s=>.cell (.ptr s 0)) (some 1) (uZ (jK words at' nodes top)) (fun st=>some st)=some (Tm words at' nodes top res o0 o1 o2 o3) :=
  Xr _ (C mx) hc
 have key:=kA (C:=C mx) (P:=Tryz.prog) (call:=ae (C mx) Tryz.prog) (R:=St) (K:=fun st=>some st) (o:={ dst:=some 1,op:=.call { callee:=.value (.func 46),args := #[.tmp 0,.const (.int .i64 d)],argTypes := #[102,3] },type:=0,pos := "", after := #[],guard:=none }) (X:=.func 46) (g:=46) (cv := #[]) (ss:=[])
  rfl rfl rfl (by kernel_rfl) (by kernel_rfl) ⟨rfl,fun j s v hs=>by simp at hs⟩ (gV (fit mx)) (fit mx).ty hI (fun t ht=>by cases ht;decide) hK
 have hW:=key (fun a' w'=>∃ x0 x1 x2 x3 e',EH w Pb nv w'∧w'.heap[Pb]?=some (.cells #[x0,x1,x2,x3] e' (0,0)) ∧
   Rel w' (bt w F Pb nv x2) res (a'.tmps.getD 1 undef)∧Rel w' (bt w F Pb nv x2) o0 x0∧Rel w' (bt w F Pb nv x2) o1 x1∧ba w' (bt w F Pb nv x2) 58 9 o2.elems x2∧(x3.oneCell'=true∧Rel w' (bt w F Pb nv x2) o3 x3) ∧
   (∀ g,x2.ownBlock=some g→(w.heap.size≤g∨nv.ownBlock=some g)∧g≠Pb∧g < w'.heap.size)) (fun _ _ _=>False) (fun a' w' st' H' σ' hst hI' _ hσ _=>?_)
 ·unfold Oper.wp at hW
  have hrun:(execOp (⟨#[.pointer (some ⟨Pb,0,none⟩),undef],[]⟩:Act).eval { dst:=some 1,op:=.call { callee:=.value (.func 46),args := #[.tmp 0,.const (.int .i64 d)],argTypes := #[102,3] },type:=0,pos := "", after := #[],guard:=none }).run Tryz.prog w=.ok (.enter 46 #[.pointer (some ⟨Pb,0,none⟩),.int .i64 d]) w:=by
   simp [execOp,go_sem,resolve,invoke,enters_of Tryz.func46 (by kernel_rfl) rfl]
  rw [hrun,Oper.upon_enter] at hW
  refine Calls.mono hW fun en w' h=>?_
  cases en with
  | returned v =>
   obtain ⟨x0,x1,x2,x3,e',q1,q2,q3,q4⟩:=h
   exact ⟨v,x0,x1,x2,x3,e',rfl,q1,q2,q3,q4⟩
  | panicked c=>exact h.elim
  | outgrown=>exact absurd h (by simp [LetsOut])
 ·cases hst
  obtain ⟨r,us,e',g1,g2,g3,g4⟩:=hI'.mem 0 _ rfl
  have hσ0:σ' 0=some Pb:=(hσ.1 0 (by simp)).trans rfl
  rw [hσ0] at g1
  cases g1
  match us,g3,g4,g2 with
  | [x0,x1,x2,x3],_,g4,g2 =>
   have y0:=g4 0 _ x0 rfl rfl
   have y1:=g4 1 _ x1 rfl rfl
   have y2:=g4 2 _ x2 rfl rfl
   have y3:=g4 3 _ x3 rfl rfl
   have hF:∀ b,Fr w.heap.size (fZ F Pb nv) H' σ' b→bt w F Pb nv x2 b:=fun b hb=>by
    have hne:b≠Pb:=fun e=>hb.2.2 0 (e ▸ hσ0)
    exact ⟨fun hlt=>(hb.1 hlt).elim .inl fun h=>h.elim (fun e=>absurd e hne) .inr,hne,hb.2.1 _ x2 y2.1⟩
   have hm:∀ {a:AV} {v:Value},Rel w' (Fr w.heap.size (fZ F Pb nv) H' σ') a v→Rel w' (bt w F Pb nv x2) a v:=fun h=>h.mono fun b _ hb=>⟨hF b hb,rfl⟩
   refine ⟨x0,x1,x2,x3,e',⟨hI'.below.os,hI'.below.tape,hI'.below.output,hI'.below.size,fun b hb hne ho=>hI'.below.block b hb (fun h=>h.elim hne ho)⟩,g2,hm (hI'.env 1),hm y0.2,hm y1.2,y2.2.mono (fun b _ hb=>⟨hF b hb,rfl⟩) (fun _ _=>rfl),⟨y3.1,hm y3.2⟩,fun g hg=>?_⟩
   obtain ⟨q1,q2⟩:=hI'.hown _ x2 g y2.1 hg
   have q3:g≠Pb:=fun e=>hI'.hs _ 0 x2 Pb y2.1 hσ0 (e ▸ hg)
   exact ⟨q1.elim .inl fun h=>h.elim (fun e=>absurd e q3) .inr,q3,q2⟩
end R3
namespace R3
open Go Go.Proofs Sx
def Tn (v:AV):Prop:=v=.aG∨∃ l:List (List UInt8),v=.ro 1 (l.map .s)∧l.length≤1000000000
end R3
namespace R3
open Go Go.Proofs Go.RowKit Go.Shelf Sx
variable {mx:Int}
theorem gJ {C:cU} {P:Program} (dE:Fit C P) {g:Nat} {fn:Func} {c:Code} (hfn:P.funcs[g]?=some fn) (hb:fn.body=some c) {args:List AV} {r:AV} (h:ae C P g args=some r) (hs:C.sig g=none)
  (w:World) (F:Nat→Prop) (vs:Array Value) (hG:aQ C w F) (hl:vs.size=args.length) (hv:∀ (j:Nat) (a:AV) (v:Value),args[j]?=some a→vs[j]?=some v→Rel w F a v) :
  Calls P g vs w (fX C g w F r):=by
 have hname:=dE.name g fn c hfn hb
 rcases (gV dE).1 g args _ h hs w F vs hG hl hv with ⟨VI,c',_,_,_,hc⟩ | ⟨v,hv',_⟩
 ·exact hc
 ·exfalso
  have mC:¬ fn.name = "runtime.NumGoroutine" := by simpa using hname
  simp [callFunc,hfn,hb,mC] at hv'
theorem Dp {W:World} {m:Int} (h:W.cell? ⟨1,0,none⟩=some (.int .i64 m)):aQ (C m) W (fun b=>b=1):=by
 intro g k e hg
 have hg:(bif Nat.beq g 1 then some (1,AV.int m) else none)=some (k,e):=hg
 cases h1:Nat.beq g 1 with
 | false=>rw [h1] at hg;cases hg
 | true =>
  rw [h1] at hg;cases hg
  obtain rfl:=Nat.eq_of_beq_eq_true h1
  refine ⟨1,0,rfl,rfl,aU h,fun j hj=>?_⟩
  obtain rfl:j=0:=by omega
  exact ⟨.int .i64 m,h,rfl,Rel.int m⟩
theorem LG {w:World} {F:Nat→Prop} {a:AV} {v:Value} (h:Rel w F a v):∀ (j:Nat) (a':AV) (v':Value),([a]:List AV)[j]?=some a'→(#[v]:Array Value)[j]?=some v'→Rel w F a' v':=by
 intro j a' v' h1 h2
 match j,h1,h2 with
 | 0,h1,h2=>cases h1;cases h2;exact h
 | j+1,h1,h2=>simp at h1
end R3
namespace R3
open Go Go.Proofs Go.RowKit Go.Shelf Sx
variable {mx:Int}
end R3
namespace R3
open Go Go.Proofs Go.RowKit Go.Shelf Sx
variable {mx:Int}
end R3
namespace R3
open Go Go.Proofs Go.RowKit Go.Shelf Sx
variable {mx:Int}
end R3
namespace R3
open Go Go.Proofs Go.RowKit Go.Shelf Sx
variable {mx:Int}
theorem aD {w w':World} {p:Addr} {v:Value} (hx:Ext w w') (h:w.cell? p=some v):w'.cell? p=some v:=by
 rw [← h]
 exact World.cell?_of_block (hx.block _ (aU h))
theorem bw {w:World} {F:Nat→Prop} {k:Nat} {l:List AV} {v:Value} (h:Rel w F (.ro k l) v):∃ (ad:Option Addr) (c:Nat),v=.slice ad l.length c∧l.length≤c:=by
 cases h with
 | ub=>exact ⟨_,_,rfl,Nat.zero_le _⟩
 | ro _ _ r off c xs hk hc=>exact ⟨_,_,rfl,hc⟩
end R3
end
