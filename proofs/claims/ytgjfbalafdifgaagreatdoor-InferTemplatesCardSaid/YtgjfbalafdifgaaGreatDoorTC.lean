/-
  A part of InferTemplates's proof.
-/
import Derived.Test.YtgjfbalafdifgaaGreatDoorTB
noncomputable section
namespace Sx
open Go
def kI (c:Ctx) (b:UInt8) (script:Bool):Ctx :=
 if script && b == 96 || !script && (b == 40 || b == 92) then bc else if b == 34 then (if b == 39 then (if b == 47 then { c with su:=3 } else { c with su:=2 }) else if b == 47 then { c with su:=3 } else { c with su:=1 })
 else if b == 39 then (if b == 47 then { c with su:=3 } else { c with su:=2 }) else if b == 47 then { c with su:=3 } else c
theorem D6 (c:Ctx) (b:UInt8) (script:Bool):kI c b script=gT c b script:=by
 unfold kI gT
 cases Ua:(b == 34) with
 | true=>rw [eq_of_beq Ua];cases script <;> rfl
 | false =>
 cases h39:(b == 39) with
 | true=>rw [eq_of_beq h39];cases script <;> rfl
 | false =>
 cases Ax:(b == 47) with
 | true=>rw [eq_of_beq Ax];cases script <;> rfl
 | false=>cases script <;> cases (b == 96) <;> cases (b == 40) <;> cases (b == 92) <;> rfl
def uK (c:Ctx) (b:UInt8):Ctx :=
 if c.es then { c with es:=false } else if b == 92 then (if b == 10 || b == 13 then bc else if c.su == 1 && b == 34 || c.su == 2 && b == 39 then { c with es:=true,su:=0 } else { c with es:=true })
 else if b == 10 || b == 13 then bc else if c.su == 1 && b == 34 || c.su == 2 && b == 39 then { c with su:=0 } else c
theorem Gg (c:Ctx) (b:UInt8):uK c b=text c b:=by
 unfold uK text
 cases h92:(b == 92) with
 | true=>rw [eq_of_beq h92];cases c.es <;> cases (c.su == 1) <;> cases (c.su == 2) <;> rfl
 | false=>cases c.es <;> cases (b == 10) <;> cases (b == 13) <;> cases (c.su == 1) <;> cases (c.su == 2) <;> cases (b == 34) <;> cases (b == 39) <;> rfl
def j3 (c:Ctx) (b:UInt8) (script:Bool):Ctx :=
 if c.su == 0 then kI c b script else if c.su == 1 then uK c b else if c.su == 2 then uK c b
 else if c.su == 3 then (if b == 42 then { c with su:=5 } else if script && b == 47 then { c with su:=4 } else if script then bc else kI { c with su:=0 } b script)
 else if c.su == 4 then (if b == 10 || b == 13 then { c with su:=0 } else c)
 else if c.su == 5 then (if b == 42 then { c with su:=6 } else c)
 else if c.su == 6 then (if b == 47 then { c with su:=0 } else if b != 42 then { c with su:=5 } else c) else c
theorem sq (c:Ctx) (b:UInt8) (script:Bool):j3 c b script=code c b script:=by
 unfold j3 code
 simp only [D6,Gg]
 cases h3:(c.su == 3) with
 | true=>rw [eq_of_beq h3];rfl
 | false =>
  have:(if (b != 42)=true then { c with su:=5 } else c:Ctx)=if (b == 42)=true then c else { c with su:=5 }:=by
   unfold bne;cases (b == 42) <;> rfl
  rw [this]
  rfl
def wi (c:Ctx) (b:UInt8):Ctx :=
 if decide (4≤c.pa) then c else if b == 38 then bc else if b == 63 || b == 35 then { c with pa:=4,nm:=[] } else if c.pa == 3 then c else if b == 47 then { c with pa:=3,nm:=[] }
 else if b == 58 then (if c.pa == 2 then bc else if yR c.nm then { c with pa:=3,nm:=[] } else { c with pa:=5,nm:=[] }) else if c.pa == 2 then c
 else if decide (c.nm.length < 16) then { c with pa:=1,nm:=c.nm ++ [eS b] } else { c with pa:=1 }
theorem Kb (c:Ctx) (b:UInt8) (hp:c.pa≤5) (h:c.pa≠1→c.nm=[]):wi c b=url c b:=by
 obtain ⟨st,el,en,at',qu,pa,su,es,da,nm⟩:=c
 simp only at hp h
 unfold wi url
 simp only
 rcases yL pa with e | e | e | e | e | e | e
 ·subst e;have:=h (by decide);subst this;cases (b == 38) <;> cases (b == 63 || b == 35) <;> cases (b == 47) <;> cases (b == 58) <;> rfl
 ·subst e
  have e1:decide (nm.length < 16)=!decide (16≤nm.length):=by rw [← decide_not,decide_eq_decide];omega
  rw [e1]
  cases (b == 38) <;> cases (b == 63 || b == 35) <;> cases (b == 47) <;> cases (b == 58) <;> cases yR nm <;> cases decide (16≤nm.length) <;> rfl
 ·subst e;have:=h (by decide);subst this;cases (b == 38) <;> cases (b == 63 || b == 35) <;> cases (b == 47) <;> cases (b == 58) <;> rfl
 ·subst e;have:=h (by decide);subst this;cases (b == 38) <;> cases (b == 63 || b == 35) <;> rfl
 ·subst e;have:=h (by decide);subst this;rfl
 ·subst e;have:=h (by decide);subst this;rfl
 ·rw [UInt8.le_iff_toNat_le] at hp;rw [UInt8.lt_iff_toNat_lt] at e;omega
def rvalue (c:Ctx) (b:UInt8):Ctx :=
 if c.qu != 0 && b == c.qu then (if !(c.su == 0 || c.su == 4) then bc else within c 9)
 else if c.qu == 0 then (if bj b || b == 62 then (if !(c.su == 0 || c.su == 4) then bc else if b == 62 then iU c.el else within c 4) else if so b then bc else
  (if c.at' == 1 then wi c b else if c.at' == 2 then (if b == 38 then bc else j3 c b (c.at' == 2)) else if c.at' == 3 then (if b == 38 then bc else j3 c b (c.at' == 2)) else c))
 else (if c.at' == 1 then wi c b else if c.at' == 2 then (if b == 38 then bc else j3 c b (c.at' == 2)) else if c.at' == 3 then (if b == 38 then bc else j3 c b (c.at' == 2)) else c)
theorem D7 (c:Ctx) (b:UInt8) (h:(c.at' == 1)=true→wi c b=url c b):rvalue c b=value c b:=by
 have hc:(if c.at' == 1 then wi c b else if c.at' == 2 then (if b == 38 then bc else j3 c b (c.at' == 2)) else if c.at' == 3 then (if b == 38 then bc else j3 c b (c.at' == 2)) else c:Ctx) =
   if c.at' == 1 then url c b else if c.at' == 2 || c.at' == 3 then (if b == 38 then bc else code c b (c.at' == 2)) else c:=by
  simp only [sq]
  cases h1:(c.at' == 1) with
  | true=>rw [if_pos rfl,if_pos rfl,h h1]
  | false=>cases (c.at' == 2) <;> cases (c.at' == 3) <;> rfl
 unfold rvalue value ends
 rw [hc]
 unfold bne
 cases (c.qu == 0) <;> cases (b == c.qu) <;> cases (bj b || b == 62) <;> cases (so b) <;> rfl
def yS (c:Ctx) (b:UInt8):Ctx :=
 if c.st == 11 || c.st == 12 then (if b == 62 then bC 0 else if b == 45 then (if c.st == 11 then bC 12 else bC 13) else bC 16)
 else if c.st == 13 || c.st == 14 then (if b == 62 then bc else if b != 45 then bC 15 else if c.st == 13 then bC 14 else ⟨15,0,false,0,0,0,0,false,2,[]⟩)
 else if c.st == 15 then (if b == 45 then (if decide (c.da < 2) then { c with da:=c.da+1 } else c) else if c.da == 2 && b == 62 then bC 0 else if c.da == 2 && b == 33 then bc else bC 15)
 else if c.st == 16 then (if b == 62 then bC 0 else c) else c
theorem gU (c:Ctx) (b:UInt8) (h:(c.st == 15)=true→c=⟨15,0,false,0,0,0,0,false,c.da,[]⟩∧c.da≤2):yS c b=note c b:=by
 unfold yS note
 cases Ub:(c.st == 15) with
 | true =>
  obtain ⟨hc,hd⟩:=h Ub
  rw [eq_of_beq Ub]
  have hx:((15:UInt8) == 11 || (15:UInt8) == 12)=false:=rfl
  have hy:((15:UInt8) == 13 || (15:UInt8) == 14)=false:=rfl
  rw [hx,hy]
  simp only [Bool.false_eq_true,if_false,if_true]
  cases h45:(b == 45) with
  | true =>
   rw [eq_of_beq h45]
   have:c.da=0∨c.da=1∨c.da=2:=by
    have:=fB (p:=fun d=>!decide (d≤2) || (d == 0 || (d == 1 || d == 2))) (by kernel_rfl) c.da
    simp only [Bool.or_eq_true,Bool.not_eq_true',decide_eq_false_iff_not,beq_iff_eq] at this
    rcases this with h | h
    ·exact absurd hd h
    ·exact h
   rw [hc]
   rcases this with e | e | e <;> rw [e] <;> rfl
  | false=>cases (c.da == 2) <;> cases IQ:(b == 62) <;> cases Yu:(b == 33) <;> first | rfl | (rw [eq_of_beq IQ] at Yu;cases Yu)
 | false =>
  unfold bne
  cases Yv:(c.st == 11) <;> cases (c.st == 12) <;> cases (c.st == 13) <;> cases (c.st == 14) <;> cases (c.st == 16) <;> cases (b == 62) <;> cases (b == 45) <;> rfl
theorem gV (c:Ctx) (h:form c=true):yQ c=true:=by
 obtain ⟨⟩:=c
 rw [Ce];exact h
theorem eM (c:Ctx) (h:form c=true):(if (c.st == 3)=true then bD c ⟨c.st,0,c.en,0,0,0,0,false,0,c.nm⟩ && small c.nm 32
 else if (c.st == 4 || c.st == 9 || c.st == 10)=true then bD c ⟨c.st,c.el,c.en,0,0,0,0,false,0,[]⟩
 else if (c.st == 5 || c.st == 6)=true then bD c ⟨c.st,c.el,c.en,0,0,0,0,false,0,c.nm⟩ && small c.nm 32
 else if (c.st == 7)=true then bD c ⟨c.st,c.el,c.en,c.at',0,0,0,false,0,[]⟩
 else if (c.st == 8)=true then nZ c ⟨c.st,c.el,c.en,0,0,0,0,false,0,[]⟩
 else if (c.st == 15)=true then bD c ⟨c.st,0,false,0,0,0,0,false,c.da,[]⟩ && decide (c.da≤2)
 else if (c.st == 17 || c.st == 18 || c.st == 19)=true then (bD c ⟨c.st,c.el,false,0,0,0,if (c.el == 3 || c.el == 4)=true then c.su else 0,if (c.el == 3 || c.el == 4)=true then c.es else false,0,if (c.st == 19)=true then c.nm else []⟩ && (c.el != 0) && pre c.nm (nameOf c.el) && cj c.su c.es (c.el == 3))
 else bD c ⟨c.st,0,false,0,0,0,0,false,0,[]⟩)=true:=(dL (gV c h)).2
theorem fc {a b:Ctx} (h:bD a b=true):a=b:=by rw [yK] at h;exact of_decide_eq_true h
theorem lB (c:Ctx) (h:form c=true) (hs:c.st=0∨c.st=1∨c.st=2∨c.st=11∨c.st=12∨c.st=13∨c.st=14∨c.st=16∨c.st=20):c=bC c.st:=by
 have t:=eM c h
 rcases hs with e | e | e | e | e | e | e | e | e <;> rw [e] at t <;> have:=fc t <;> rw [e] <;> exact this
theorem yT (c:Ctx) (h:form c=true) (e:c.st=3):c=⟨3,0,c.en,0,0,0,0,false,0,c.nm⟩∧small c.nm 32=true:=by
 have t:=eM c h
 rw [e] at t
 have t:(bD c ⟨3,0,c.en,0,0,0,0,false,0,c.nm⟩ && small c.nm 32)=true:=t
 rw [Bool.and_eq_true] at t
 exact ⟨fc t.1,t.2⟩
theorem yU (c:Ctx) (h:form c=true) (e:c.st=4∨c.st=9∨c.st=10):c=within c c.st:=by
 have t:=eM c h
 rcases e with e | e | e <;> rw [e] at t <;> have:=fc t <;> rw [e] <;> exact this
theorem yV (c:Ctx) (h:form c=true) (e:c.st=5∨c.st=6):c={ within c c.st with nm:=c.nm }∧small c.nm 32=true:=by
 have t:=eM c h
 rcases e with e | e <;> rw [e] at t <;> (have t:=Bool.and_eq_true_iff.1 t) <;> rw [e] <;> exact ⟨fc t.1,t.2⟩
theorem yW (c:Ctx) (h:form c=true) (e:c.st=7):c={ within c 7 with at':=c.at' }:=by
 have t:=eM c h
 rw [e] at t
 exact fc t
theorem Gh (c:Ctx) (h:form c=true) (e:c.st=8):nZ c ⟨8,c.el,c.en,0,0,0,0,false,0,[]⟩=true:=by
 have t:=eM c h
 rw [e] at t
 exact t
theorem uL (c:Ctx) (h:form c=true) (e:c.st=15):c=⟨15,0,false,0,0,0,0,false,c.da,[]⟩∧c.da≤2:=by
 have t:=eM c h
 rw [e] at t
 have t:(bD c ⟨15,0,false,0,0,0,0,false,c.da,[]⟩ && decide (c.da≤2))=true:=t
 rw [Bool.and_eq_true] at t
 exact ⟨fc t.1,of_decide_eq_true t.2⟩
theorem Cg (c:Ctx) (h:form c=true):c.pa≤5:=by
 have t:=(dL (gV c h)).1
 simp only [Bool.or_eq_true,decide_eq_true_eq] at t
 rw [UInt8.le_iff_toNat_le]
 have:¬ 5 < c.pa:=fun hh=>t (.inl (.inl (.inr hh)))
 rw [UInt8.lt_iff_toNat_lt] at this
 omega
theorem Gi (c:Ctx) (h:form c=true) (e:c.st=8):c.pa≠1→c.nm=[]:=by
 intro hp
 have t:=uJ c h
 rw [e] at t
 have h1:(c.pa == 1)=false:=by simpa using hp
 rw [h1,Bool.and_false] at t
 simpa using t
end Sx
namespace Sx
theorem Ch (nm:List UInt8):oX nm≤4:=by
 unfold oX
 repeat' split
 all_goals decide
theorem lC (s el:UInt8) (en:Bool) (hs:s=4∨s=9∨s=10):form ⟨s,el,en,0,0,0,0,false,0,[]⟩=(decide (el≤4) && !(en && el != 0)):=by
 rcases fb el with h | h | h | h | h | h
 ·subst h;cases en <;> rcases hs with e | e | e <;> subst e <;> rfl
 ·subst h;cases en <;> rcases hs with e | e | e <;> subst e <;> rfl
 ·subst h;cases en <;> rcases hs with e | e | e <;> subst e <;> rfl
 ·subst h;cases en <;> rcases hs with e | e | e <;> subst e <;> rfl
 ·subst h;cases en <;> rcases hs with e | e | e <;> subst e <;> rfl
 ·have h1:decide (el≤4)=false:=by rw [decide_eq_false_iff_not,UInt8.le_iff_toNat_le];rw [UInt8.lt_iff_toNat_lt] at h;omega
  rw [h1,Bool.false_and]
  unfold form
  have:decide (4 < el)=true:=decide_eq_true h
  simp only [this,Bool.or_true,Bool.true_or,if_true]
theorem iH (c:Ctx) (h:form c=true):c.el≤4∧(c.en && c.el != 0)=false:=by
 have t:=(dL (gV c h)).1
 simp only [Bool.not_eq_true,Bool.or_eq_false_iff,decide_eq_false_iff_not] at t
 refine ⟨?_,t.2⟩
 have:=t.1.1.1.1.2
 rw [UInt8.lt_iff_toNat_lt] at this
 rw [UInt8.le_iff_toNat_le];omega
theorem bM (c:Ctx) (h:form c=true) (s:UInt8) (hs:s=4∨s=9∨s=10):form (within c s)=true:=by
 obtain ⟨h1,h2⟩:=iH c h
 have:=lC s c.el c.en hs
 unfold within
 rw [this,h2,decide_eq_true h1];rfl
theorem qT (c:Ctx) (h:form c=true):c.at'≤4:=by
 have t:=(dL (gV c h)).1
 simp only [Bool.not_eq_true,Bool.or_eq_false_iff,decide_eq_false_iff_not] at t
 have:=t.1.1.1.2
 rw [UInt8.lt_iff_toNat_lt] at this
 rw [UInt8.le_iff_toNat_le];omega
theorem mW (el at' qu:UInt8) (en:Bool) (h1:el≤4) (h2:(en && el != 0)=false) (h3:at'≤4) (h4:qu=0∨qu=34∨qu=39):form ⟨8,el,en,at',qu,0,0,false,0,[]⟩=true:=by
 have l1:el=0∨el=1∨el=2∨el=3∨el=4:=by
  rcases fb el with h | h | h | h | h | h
  ·exact .inl h
  ·exact .inr (.inl h)
  ·exact .inr (.inr (.inl h))
  ·exact .inr (.inr (.inr (.inl h)))
  ·exact .inr (.inr (.inr (.inr h)))
  ·rw [UInt8.lt_iff_toNat_lt] at h;rw [UInt8.le_iff_toNat_le] at h1;omega
 have l3:at'=0∨at'=1∨at'=2∨at'=3∨at'=4:=by
  rcases fb at' with h | h | h | h | h | h
  ·exact .inl h
  ·exact .inr (.inl h)
  ·exact .inr (.inr (.inl h))
  ·exact .inr (.inr (.inr (.inl h)))
  ·exact .inr (.inr (.inr (.inr h)))
  ·rw [UInt8.lt_iff_toNat_lt] at h;rw [UInt8.le_iff_toNat_le] at h3;omega
 rcases l1 with e | e | e | e | e <;> subst e <;> cases en <;> first | (cases h2;done) | (rcases l3 with e | e | e | e | e <;> subst e <;> rcases h4 with e | e | e <;> subst e <;> rfl)
def Q (c:Ctx) (b:UInt8):Prop:=form c=true∨(c=within c 5∧(b == 61)=false∧(b == 47 || b == 62)=false∧bj b=false)
theorem VL {c:Ctx} {b:UInt8} (h:Q c b):c.nm.length≤32:=by
 rcases h with h | ⟨h,_⟩
 ·exact wh c h
 ·rw [h];exact Nat.zero_le _
theorem o4 (x:UInt8):conv .u8 (.int (x.toNat:Int))=some (.u8 x):=by
 rw [yE (yD x),UInt8.ofNat_toNat]
theorem D8 (el:UInt8):iU el=if el == 0 then bC 0 else ⟨17,el,false,0,0,0,0,false,0,[]⟩:=by
 unfold iU bne
 by_cases h:(el == 0)=true
 ·rw [h];rfl
 ·have:(el == 0)=false:=by simpa using h
  rw [this];rfl
def jH (c:Ctx):List UInt8→Ctx
 | []=>c
 | b :: r=>if (c.el == 3 || c.el == 4) && c.st == 17 then jH (code c b (c.el == 3)) r else c
theorem sr (c:Ctx) (b:UInt8) (s:Bool):gT c b s=bc∨((gT c b s).st=c.st∧(gT c b s).el=c.el):=by
 unfold gT
 repeat' split
 all_goals first | exact .inl rfl | exact .inr ⟨rfl,rfl⟩
theorem D9 (c:Ctx) (b:UInt8) (s:Bool):code c b s=bc∨((code c b s).st=c.st∧(code c b s).el=c.el):=by
 unfold code
 split
 ·exact sr c b s
 ·split
  ·repeat' split
   all_goals first | exact .inl rfl | exact .inr ⟨rfl,rfl⟩ | exact sr _ b s
  ·unfold text
   repeat' split
   all_goals first | exact .inl rfl | exact .inr ⟨rfl,rfl⟩
theorem Ay (l:List UInt8):jH bc l=bc:=by cases l <;> rfl
theorem uM:∀ (l:List UInt8) (c:Ctx),(c.el == 3 || c.el == 4)=true→(c.st == 17)=true→jH c l=mg c l
 | [],c,h1,h2=>rfl
 | b :: r,c,h1,h2=>by
  simp only [jH,mg,h1,h2,Bool.and_self,if_true]
  rcases D9 c b (c.el == 3) with e | ⟨e1,e2⟩
  ·rw [e];exact Ay r
  ·have:((code c b (c.el == 3)).st == 20)=false:=by rw [e1,eq_of_beq h2];rfl
   rw [this,if_neg (by simp)]
   exact uM r _ (by rw [e2];exact h1) (by rw [e1];exact h2)
theorem Gj (c:Ctx) (s:List UInt8):jH { c with st:=17,nm:=[] } s=mU c s true:=by
 unfold mU
 have h:mf 17 c.el c.at'=(c.el == 3 || c.el == 4):=by
  unfold mf
  cases (c.el == 3 || c.el == 4) <;> rfl
 rw [h]
 cases he:(c.el == 3 || c.el == 4) with
 | true =>
  rw [if_neg (by simp)]
  exact uM s _ he rfl
 | false =>
  rw [if_pos (by simp)]
  cases s with
  | nil=>rfl
  | cons b r=>simp only [jH,he,Bool.false_and,Bool.false_eq_true,if_false]
theorem Az (c:Ctx) (b:UInt8) (h:c.st=9):(tag c b).2=false:=by
 unfold tag
 rw [h]
 cases bj b <;> cases (b == 47) <;> cases (b == 62) <;> rfl
end Sx
namespace Sx
open Go
def Ci (el:UInt8) (en:Bool):Bool:=decide (el≤4) && !(en && el != 0)
theorem Gk (c:Ctx) (h:form c=true):Ci c.el c.en=true:=by
 obtain ⟨h1,h2⟩:=iH c h
 unfold Ci
 rw [h2,decide_eq_true h1];rfl
theorem o5 {el:UInt8} {en:Bool} (h:Ci el en=true):(en=true∧el=0)∨(en=false∧(el=0∨el=1∨el=2∨el=3∨el=4)):=by
 unfold Ci at h
 rw [Bool.and_eq_true,decide_eq_true_eq] at h
 rcases fb el with e | e | e | e | e | e
 ·cases en
  ·exact .inr ⟨rfl, .inl e⟩
  ·exact .inl ⟨rfl,e⟩
 ·subst e;cases en
  ·exact .inr ⟨rfl,by decide⟩
  ·exact absurd h.2 (by decide)
 ·subst e;cases en
  ·exact .inr ⟨rfl,by decide⟩
  ·exact absurd h.2 (by decide)
 ·subst e;cases en
  ·exact .inr ⟨rfl,by decide⟩
  ·exact absurd h.2 (by decide)
 ·subst e;cases en
  ·exact .inr ⟨rfl,by decide⟩
  ·exact absurd h.2 (by decide)
 ·have:=h.1
  rw [UInt8.le_iff_toNat_le] at this
  rw [UInt8.lt_iff_toNat_lt] at e
  omega
theorem VM (en:Bool) (nm:List UInt8):form ⟨3,0,en,0,0,0,0,false,0,nm⟩=small nm 32:=by cases en <;> rfl
theorem Yw {el:UInt8} {en:Bool} (h:Ci el en=true) (s:UInt8) (hs:s=4∨s=9∨s=10):form ⟨s,el,en,0,0,0,0,false,0,[]⟩=true:=by
 rw [lC s el en hs];exact h
theorem Yx {el:UInt8} {en:Bool} (h:Ci el en=true) (s:UInt8) (hs:s=5∨s=6) (nm:List UInt8):form ⟨s,el,en,0,0,0,0,false,0,nm⟩=small nm 32:=by
 rcases o5 h with ⟨rfl,rfl⟩ | ⟨rfl,e | e | e | e | e⟩ <;> rcases hs with e' | e' <;> subst e' <;> (try subst e) <;> rfl
theorem mk7 {el:UInt8} {en:Bool} (h:Ci el en=true) {at':UInt8} (ha:at'=0∨at'=1∨at'=2∨at'=3∨at'=4):form ⟨7,el,en,at',0,0,0,false,0,[]⟩=true:=by
 rcases o5 h with ⟨rfl,rfl⟩ | ⟨rfl,e | e | e | e | e⟩ <;> rcases ha with e' | e' | e' | e' | e' <;> subst e' <;> (try subst e) <;> rfl
theorem Rq {el:UInt8} {en:Bool} (h:Ci el en=true) (at' qu pa su:UInt8) (es:Bool) (nm:List UInt8):form ⟨8,el,en,at',qu,pa,su,es,0,nm⟩=form ⟨8,0,false,at',qu,pa,su,es,0,nm⟩:=by
 rcases o5 h with ⟨rfl,rfl⟩ | ⟨rfl,e | e | e | e | e⟩ <;> (try subst e) <;> rfl
theorem N6 (qu:UInt8) (hq:qu=0∨qu=34∨qu=39) (pa:UInt8) (hp:pa=0∨pa=1∨pa=2∨pa=3∨pa=4∨pa=5) (nm:List UInt8):form ⟨8,0,false,1,qu,pa,0,false,0,nm⟩=if pa == 1 then small nm 16 else nm == []:=by
 rcases hq with e | e | e <;> subst e <;> rcases hp with e | e | e | e | e | e <;> subst e <;> rfl
theorem Ke (qu:UInt8) (hq:qu=0∨qu=34∨qu=39) (at':UInt8) (ha:at'=2∨at'=3) (su:UInt8) (hs:su=0∨su=1∨su=2∨su=3∨su=4∨su=5∨su=6) (es:Bool):form ⟨8,0,false,at',qu,0,su,es,0,[]⟩=cj su es (at' == 2):=by
 rcases hq with e | e | e <;> subst e <;> rcases ha with e | e <;> subst e <;> rcases hs with e | e | e | e | e | e | e <;> subst e <;> cases es <;> rfl
theorem Yy (s el:UInt8) (hs:s=17∨s=18) (he:el=1∨el=2):form ⟨s,el,false,0,0,0,0,false,0,[]⟩=true:=by
 rcases hs with e | e <;> subst e <;> rcases he with e | e <;> subst e <;> rfl
theorem Rr (s el:UInt8) (hs:s=17∨s=18) (he:el=3∨el=4) (su:UInt8) (hu:su=0∨su=1∨su=2∨su=3∨su=4∨su=5∨su=6) (es:Bool):form ⟨s,el,false,0,0,0,su,es,0,[]⟩=cj su es (el == 3):=by
 rcases hs with e | e <;> subst e <;> rcases he with e | e <;> subst e <;> rcases hu with e | e | e | e | e | e | e <;> subst e <;> cases es <;> rfl
theorem Rs (el:UInt8) (he:el=1∨el=2) (nm:List UInt8):form ⟨19,el,false,0,0,0,0,false,0,nm⟩=pre nm (nameOf el):=by
 rcases he with e | e <;> subst e <;> rfl
theorem Mf (el:UInt8) (he:el=3∨el=4) (su:UInt8) (hu:su=0∨su=1∨su=2∨su=3∨su=4∨su=5∨su=6) (es:Bool) (nm:List UInt8):form ⟨19,el,false,0,0,0,su,es,0,nm⟩=(cj su es (el == 3) && pre nm (nameOf el)):=by
 rcases he with e | e <;> subst e <;> rcases hu with e | e | e | e | e | e | e <;> subst e <;> cases es <;> rfl
theorem wj (nm:List UInt8):gS nm=0∨gS nm=1∨gS nm=2∨gS nm=3∨gS nm=4:=by
 unfold gS
 repeat' split
 all_goals simp
theorem Gl (b:UInt8):low [eS b]=true:=by
 revert b
 exact fB (by kernel_rfl)
theorem Gm {nm:List UInt8} (h:low nm=true) (b:UInt8):low (nm ++ [eS b])=true:=by
 have:=Gl b
 unfold low at *
 rw [List.all_append,h,this];rfl
theorem o6 {nm:List UInt8} {n:Int} (h:small nm n=true):low nm=true:=by
 unfold small at h
 rw [Bool.and_eq_true] at h
 exact h.1
theorem gW {nm:List UInt8} (h:low nm=true) (b:UInt8) {n:Nat} (hl:nm.length < n):small (nm ++ [eS b]) (n:Int)=true:=by
 unfold small
 rw [Gm h b,Bool.true_and,Bool.and_eq_true,decide_eq_true_eq,decide_eq_true_eq]
 simp;omega
theorem kJ {el:UInt8} (h:el≤4):form (iU el)=true:=by
 rcases fb el with e | e | e | e | e | e
 ·subst e;rfl
 ·subst e;rfl
 ·subst e;rfl
 ·subst e;rfl
 ·subst e;rfl
 ·rw [UInt8.le_iff_toNat_le] at h;rw [UInt8.lt_iff_toNat_lt] at e;omega
theorem yX (b:UInt8):form (opened b).1=true:=by
 unfold opened
 repeat' split
 all_goals first | rfl | (show form ⟨3,0,false,0,0,0,0,false,0,[eS b]⟩=true;rw [VM];exact gW (nm:=[]) rfl b (n:=32) (by decide))
theorem yY (b:UInt8):form (closed b)=true:=by
 unfold closed
 repeat' split
 all_goals first | rfl | (rw [VM];exact gW (nm:=[]) rfl b (n:=32) (by decide))
theorem Mg (c:Ctx) (h:form c=true):c.su=0∨c.su=1∨c.su=2∨c.su=3∨c.su=4∨c.su=5∨c.su=6:=by
 have t:=(dL (gV c h)).1
 simp only [Bool.not_eq_true,Bool.or_eq_false_iff,decide_eq_false_iff_not] at t
 have:=t.1.2
 rcases F9 c.su with e | e | e | e | e | e | e | e
 ·exact .inl e
 ·exact .inr (.inl e)
 ·exact .inr (.inr (.inl e))
 ·exact .inr (.inr (.inr (.inl e)))
 ·exact .inr (.inr (.inr (.inr (.inl e))))
 ·exact .inr (.inr (.inr (.inr (.inr (.inl e)))))
 ·exact .inr (.inr (.inr (.inr (.inr (.inr e)))))
 ·exact absurd e this
theorem Rt (c:Ctx) (h:form c=true):c.at'=0∨c.at'=1∨c.at'=2∨c.at'=3∨c.at'=4:=by
 have:=qT c h
 rcases fb c.at' with e | e | e | e | e | e
 ·exact .inl e
 ·exact .inr (.inl e)
 ·exact .inr (.inr (.inl e))
 ·exact .inr (.inr (.inr (.inl e)))
 ·exact .inr (.inr (.inr (.inr e)))
 ·rw [UInt8.le_iff_toNat_le] at this;rw [UInt8.lt_iff_toNat_lt] at e;omega
theorem Ru (c:Ctx) (h:form c=true):c.pa=0∨c.pa=1∨c.pa=2∨c.pa=3∨c.pa=4∨c.pa=5:=by
 have:=Cg c h
 rcases yL c.pa with e | e | e | e | e | e | e
 ·exact .inl e
 ·exact .inr (.inl e)
 ·exact .inr (.inr (.inl e))
 ·exact .inr (.inr (.inr (.inl e)))
 ·exact .inr (.inr (.inr (.inr (.inl e))))
 ·exact .inr (.inr (.inr (.inr (.inr e))))
 ·rw [UInt8.le_iff_toNat_le] at this;rw [UInt8.lt_iff_toNat_lt] at e;omega
theorem Gn (c:Ctx) (h:form c=true) (e:c.st=8):(c.qu=0∨c.qu=34∨c.qu=39) ∧
  ((c.at'=1∧c=⟨8,c.el,c.en,1,c.qu,c.pa,0,false,0,c.nm⟩∧(if c.pa == 1 then small c.nm 16 else c.nm == [])=true) ∨
   ((c.at'=2∨c.at'=3)∧c=⟨8,c.el,c.en,c.at',c.qu,0,c.su,c.es,0,[]⟩∧cj c.su c.es (c.at' == 2)=true) ∨
   ((c.at'=0∨c.at'=4)∧c=⟨8,c.el,c.en,c.at',c.qu,0,0,false,0,[]⟩)):=by
 have t:=Gh c h e
 unfold nZ at t
 obtain ⟨t1,t⟩:=dL t
 have hq:c.qu=0∨c.qu=34∨c.qu=39:=by
  simp only [Bool.and_eq_true,bne_iff_ne,not_and,Classical.not_not] at t1
  by_cases h0:c.qu=0
  ·exact .inl h0
  ·by_cases Ua:c.qu=34
   ·exact .inr (.inl Ua)
   ·exact .inr (.inr (t1 ⟨h0,Ua⟩))
 refine ⟨hq,?_⟩
 split at t
 ·rename_i h1
  have h1:=eq_of_beq h1
  split at t
  ·rename_i hp
   rw [Bool.and_eq_true] at t
   refine .inl ⟨h1,?_,?_⟩
   ·have:=fc t.1;rw [h1] at this;exact this
   ·rw [hp,if_pos rfl];exact t.2
  ·rename_i hp
   have IM:=fc t
   refine .inl ⟨h1,?_,?_⟩
   ·have hn:c.nm=[]:=by rw [IM]
    rw [h1] at IM;rw [hn];exact IM
   ·rw [if_neg hp,IM];rfl
 ·rename_i h1
  split at t
  ·rename_i Gp
   rw [Bool.and_eq_true] at t
   refine .inr (.inl ⟨?_,fc t.1,t.2⟩)
   simpa using Gp
  ·rename_i Gp
   refine .inr (.inr ⟨?_,fc t⟩)
   rcases Rt c h with x | x | x | x | x
   ·exact .inl x
   ·rw [x] at h1;exact absurd rfl h1
   ·rw [x] at Gp;exact absurd rfl Gp
   ·rw [x] at Gp;exact absurd rfl Gp
   ·exact .inr x
def jI (su:UInt8):Prop:=su=0∨su=1∨su=2∨su=3∨su=4∨su=5∨su=6
theorem qb (c:Ctx) (b:UInt8) (script:Bool) (hs:cj c.su c.es script=true) (h0:c.su=0):gT c b script=bc∨∃ qc ug,gT c b script={ c with su:=qc,es:=ug }∧jI qc∧cj qc ug script=true:=by
 have qO:c.es=false:=by
  rw [h0] at hs
  cases hx:c.es with
  | false=>rfl
  | true=>rw [hx] at hs;cases script <;> cases hs
 unfold gT
 repeat' split
 ·exact .inr ⟨1,c.es,rfl,by simp [jI],by rw [qO];cases script <;> rfl⟩
 ·exact .inr ⟨2,c.es,rfl,by simp [jI],by rw [qO];cases script <;> rfl⟩
 ·exact .inr ⟨3,c.es,rfl,by simp [jI],by rw [qO];cases script <;> rfl⟩
 ·exact .inl rfl
 ·exact .inl rfl
 ·exact .inr ⟨c.su,c.es,rfl,by simp [jI,h0],hs⟩
theorem sw (c:Ctx) (b:UInt8) (script:Bool) (hu:jI c.su) (hs:cj c.su c.es script=true):code c b script=bc∨∃ qc ug,code c b script={ c with su:=qc,es:=ug }∧jI qc∧cj qc ug script=true:=by
 have qO:c.su≠1→c.su≠2→c.es=false:=by
  intro h1 h2
  unfold cj at hs
  cases hx:c.es with
  | false=>rfl
  | true =>
   rw [hx,Bool.and_eq_true] at hs
   have h3:(c.su == 1)=false:=by simpa using h1
   have h4:(c.su == 2)=false:=by simpa using h2
   rw [h3,h4] at hs
   exact absurd hs.2 (by simp)
 have stay:∃ qc ug,c={ c with su:=qc,es:=ug }∧jI qc∧cj qc ug script=true:=⟨c.su,c.es,rfl,hu,hs⟩
 have to (su:UInt8) (hk:jI su) (hz:c.es=false) (h:cj su false script=true):∃ qc ug,({ c with su:=su }:Ctx)={ c with su:=qc,es:=ug }∧jI qc∧cj qc ug script=true:=⟨su,c.es,rfl,hk,by rw [hz];exact h⟩
 have s0:cj 0 false script=true:=by cases script <;> rfl
 have s5:cj 5 false script=true:=by cases script <;> rfl
 have s6:cj 6 false script=true:=by cases script <;> rfl
 unfold code
 split
 ·rename_i h
  exact qb c b script hs (eq_of_beq h)
 ·split
  ·rename_i h
   have hz:=qO (by rw [eq_of_beq h];decide) (by rw [eq_of_beq h];decide)
   split
   ·exact .inr (to 5 (by simp [jI]) hz s5)
   ·split
    ·rename_i h2
     rw [Bool.and_eq_true] at h2
     exact .inr (to 4 (by simp [jI]) hz (by rw [h2.1];rfl))
    ·split
     ·exact .inl rfl
     ·rcases qb { c with su:=0 } b script (by show cj 0 c.es script=true;rw [hz];exact s0) rfl with e | ⟨qc,ug,e,k1,k2⟩
      ·exact .inl e
      ·exact .inr ⟨qc,ug,e,k1,k2⟩
  ·have tx:(c.su=1∨c.su=2)→text c b=bc∨∃ qc ug,text c b={ c with su:=qc,es:=ug }∧jI qc∧cj qc ug script=true:=by
    intro EU
    unfold text
    have oH (es:Bool):cj c.su es script=true:=by rcases EU with e | e <;> rw [e] <;> cases es <;> cases script <;> rfl
    split
    ·exact .inr ⟨c.su,false,rfl,hu,oH false⟩
    ·rename_i hn
     have hz:c.es=false:=by simpa using hn
     split
     ·exact .inr ⟨c.su,true,rfl,hu,oH true⟩
     ·split
      ·exact .inl rfl
      ·split
       ·exact .inr (to 0 (by simp [jI]) hz s0)
       ·exact .inr stay
   split
   ·rename_i h;exact tx (.inl (eq_of_beq h))
   ·split
    ·rename_i h;exact tx (.inr (eq_of_beq h))
    ·rename_i h1 h2
     have hz:=qO (by simpa using h1) (by simpa using h2)
     repeat' split
     all_goals first | exact .inr stay | exact .inr (to 0 (by simp [jI]) hz s0) | exact .inr (to 5 (by simp [jI]) hz s5) | exact .inr (to 6 (by simp [jI]) hz s6)
theorem Gq (c:Ctx) (b:UInt8) (hE:Ci c.el c.en=true) (hq:c.qu=0∨c.qu=34∨c.qu=39) (hp:c.pa=0∨c.pa=1∨c.pa=2∨c.pa=3∨c.pa=4∨c.pa=5) (hc:c=⟨8,c.el,c.en,1,c.qu,c.pa,0,false,0,c.nm⟩) (hn:(if c.pa == 1 then small c.nm 16 else c.nm == [])=true):form (url c b)=true:=by
 have mk (pa:UInt8) (nm:List UInt8) (hp:pa=0∨pa=1∨pa=2∨pa=3∨pa=4∨pa=5) (h:(if pa == 1 then small nm 16 else nm == [])=true):form ⟨c.st,c.el,c.en,c.at',c.qu,pa,c.su,c.es,c.da,nm⟩=true:=by
  rw [hc]
  show form ⟨8,c.el,c.en,1,c.qu,pa,0,false,0,nm⟩=true
  rw [Rq hE,N6 c.qu hq pa hp nm];exact h
 have VN:low c.nm=true:=by
  split at hn
  ·exact o6 hn
  ·rw [eq_of_beq hn];rfl
 unfold url
 split
 ·rename_i h
  refine mk c.pa [] hp ?_
  rw [Bool.or_eq_true] at h
  rcases h with h | h <;> rw [eq_of_beq h] <;> rfl
 ·split
  ·rfl
  ·split
   ·exact mk 4 [] (by simp) rfl
   ·split
    ·rename_i h;refine mk c.pa [] hp ?_;rw [eq_of_beq h];rfl
    ·split
     ·exact mk 3 [] (by simp) rfl
     ·split
      ·rfl
      ·split
       ·split
        ·exact mk 3 [] (by simp) rfl
        ·exact mk 5 [] (by simp) rfl
       ·split
        ·rename_i h;refine mk c.pa [] hp ?_;rw [eq_of_beq h];rfl
        ·split
         ·rename_i hlen
          refine mk 1 c.nm (by simp) ?_
          show small c.nm 16=true
          split at hn
          ·exact hn
          ·rw [eq_of_beq hn] at hlen;simp at hlen
         ·rename_i hlen
          refine mk 1 (c.nm ++ [eS b]) (by simp) ?_
          show small (c.nm ++ [eS b]) 16=true
          exact gW VN b (n:=16) (by simpa using hlen)
theorem AA (c:Ctx) (b:UInt8) (h:form c=true) (e:c.st=8):form (value c b)=true:=by
 have hE:=Gk c h
 obtain ⟨hq,hv⟩:=Gn c h e
 unfold value
 split
 ·split
  ·rfl
  ·split
   ·exact bM c h 9 (by simp)
   ·split
    ·exact kJ (iH c h).1
    ·exact bM c h 4 (by simp)
 ·split
  ·rfl
  ·split
   ·rename_i h1
    rcases hv with ⟨_,hc,hn⟩ | ⟨ha,_,_⟩ | ⟨ha,_⟩
    ·exact Gq c b hE hq (Ru c h) hc hn
    ·rcases ha with x | x <;> (rw [x] at h1;cases h1)
    ·rcases ha with x | x <;> (rw [x] at h1;cases h1)
   ·split
    ·rename_i Gp
     split
     ·rfl
     ·rcases hv with ⟨ha,_,_⟩ | ⟨ha,hc,hs⟩ | ⟨ha,_⟩
      ·rw [ha] at Gp;cases Gp
      ·rcases sw c b (c.at' == 2) (Mg c h) hs with x | ⟨qc,ug,x,k1,k2⟩
       ·rw [x];rfl
       ·rw [x,hc]
        show form ⟨8,c.el,c.en,c.at',c.qu,0,qc,ug,0,[]⟩=true
        rw [Rq hE,Ke c.qu hq c.at' ha qc k1 ug];exact k2
      ·rcases ha with x | x <;> (rw [x] at Gp;cases Gp)
    ·exact h
theorem Gr (c:Ctx) (h:form c=true) (e:c.st=17∨c.st=18∨c.st=19):∃ su es,c=⟨c.st,c.el,false,0,0,0,su,es,0,if (c.st == 19)=true then c.nm else []⟩∧(c.el=1∨c.el=2∨c.el=3∨c.el=4)∧pre c.nm (nameOf c.el)=true∧jI su∧cj su es (c.el == 3)=true∧((c.el=1∨c.el=2)→su=0∧es=false):=by
 have t:=eM c h
 have t:(bD c ⟨c.st,c.el,false,0,0,0,if (c.el == 3 || c.el == 4)=true then c.su else 0,if (c.el == 3 || c.el == 4)=true then c.es else false,0,if (c.st == 19)=true then c.nm else []⟩ && (c.el != 0) && pre c.nm (nameOf c.el) && cj c.su c.es (c.el == 3))=true:=by
  rcases e with e | e | e <;> rw [e] at t ⊢ <;> exact t
 simp only [Bool.and_eq_true] at t
 obtain ⟨⟨⟨t1,t2⟩,t3⟩,t4⟩:=t
 have hc:=fc t1
 have Aq:c.el=1∨c.el=2∨c.el=3∨c.el=4:=by
  have:=(iH c h).1
  rcases fb c.el with x | x | x | x | x | x
  ·rw [x] at t2;cases t2
  ·exact .inl x
  ·exact .inr (.inl x)
  ·exact .inr (.inr (.inl x))
  ·exact .inr (.inr (.inr x))
  ·rw [UInt8.le_iff_toNat_le] at this;rw [UInt8.lt_iff_toNat_lt] at x;omega
 have VO:c.su=if (c.el == 3 || c.el == 4)=true then c.su else 0:=congrArg Ctx.su hc
 have qO:c.es=if (c.el == 3 || c.el == 4)=true then c.es else false:=congrArg Ctx.es hc
 refine ⟨c.su,c.es,?_,Aq,t3,Mg c h,t4,fun EU=>?_⟩
 ·rw [← VO,← qO] at hc;exact hc
 ·rcases EU with x | x <;> rw [x] at VO qO <;> exact ⟨VO,qO⟩
def RW (s:UInt8) (d:Ctx) (nm:List UInt8):Prop:=∃ el su es,d=⟨s,el,false,0,0,0,su,es,0,nm⟩∧(el=1∨el=2∨el=3∨el=4)∧jI su∧cj su es (el == 3)=true∧((el=1∨el=2)→su=0∧es=false)
theorem RW.form {s:UInt8} {d:Ctx} (h:RW s d []) (hs:s=17∨s=18):form d=true:=by
 obtain ⟨el,su,es,rfl,Aq,hu,hk,EU⟩:=h
 rcases Aq with x | x | x | x
 ·obtain ⟨rfl,rfl⟩:=EU (.inl x);exact Yy s el hs (.inl x)
 ·obtain ⟨rfl,rfl⟩:=EU (.inr x);exact Yy s el hs (.inr x)
 ·rw [Rr s el hs (.inl x) su hu es];exact hk
 ·rw [Rr s el hs (.inr x) su hu es];exact hk
theorem RW.Gs {d:Ctx} {nm:List UInt8} (h:RW 19 d nm) (hp:pre nm (nameOf d.el)=true):Sx.form d=true:=by
 obtain ⟨el,su,es,rfl,Aq,hu,hk,EU⟩:=h
 rcases Aq with x | x | x | x
 ·obtain ⟨rfl,rfl⟩:=EU (.inl x);rw [Rs el (.inl x)];exact hp
 ·obtain ⟨rfl,rfl⟩:=EU (.inr x);rw [Rs el (.inr x)];exact hp
 ·rw [Mf el (.inl x) su hu es];rw [hk,Bool.true_and];exact hp
 ·rw [Mf el (.inr x) su hu es];rw [hk,Bool.true_and];exact hp
theorem RW.to {s:UInt8} {d:Ctx} {nm:List UInt8} (h:RW s d nm) (s':UInt8) (Yz:List UInt8):RW s' { d with st:=s',nm:=Yz } Yz:=by
 obtain ⟨el,su,es,rfl,r⟩:=h
 exact ⟨el,su,es,rfl,r⟩
theorem yZ:∀ (l:List UInt8) (d:Ctx),RW 17 d []→(d.el=3∨d.el=4)→mg d l=bc∨RW 17 (mg d l) []
 | [],d,h,_=>.inr h
 | b :: r,d,h,he=>by
  unfold mg
  split
  ·exact .inl rfl
  ·rename_i hb
   obtain ⟨el,su,es,rfl,Aq,hu,hk,EU⟩:=h
   simp only at he
   rcases sw ⟨17,el,false,0,0,0,su,es,0,[]⟩ b (el == 3) hu hk with x | ⟨qc,ug,x,k1,k2⟩
   ·simp only at hb;rw [x] at hb;exact absurd rfl hb
   ·simp only
    rw [x]
    refine yZ r _ ⟨el,qc,ug,rfl,Aq,k1,k2,fun h=>?_⟩ he
    rcases he with e | e <;> rw [e] at h <;> rcases h with h | h <;> exact absurd h (by decide)
theorem Gt {s:UInt8} {d:Ctx} {nm:List UInt8} (h:RW s d nm) (l:List UInt8) (feed:Bool):mU d l feed=bc∨RW 17 (mU d l feed) []:=by
 have h':=h.to 17 []
 unfold mU
 split
 ·exact .inr h'
 ·rename_i hc
  refine yZ l _ h' ?_
  simp only [Bool.or_eq_true,not_or,Bool.not_eq_true,Bool.not_eq_false',Bool.not_eq_true'] at hc
  have:=hc.2
  obtain ⟨el,su,es,rfl,Aq,_⟩:=h
  show el=3∨el=4
  rcases Aq with x | x | x | x
  ·subst x;exact absurd rfl this
  ·subst x;exact absurd rfl this
  ·exact .inl x
  ·exact .inr x
theorem uN {s:UInt8} {d:Ctx} {nm:List UInt8} (h:RW s d nm∨d=bc) (b:UInt8) (feed:Bool):form (qE d b feed)=true:=by
 rcases h with h | rfl
 case inr=>rfl
 unfold qE
 split
 ·rfl
 ·rcases Gt h [b] feed with x | x
  ·rw [x];rfl
  ·split
   ·have:=(x.to 18 []).form (.inr rfl)
    obtain ⟨el,su,es,e,_⟩:=x
    rw [e] at this ⊢;exact this
   ·exact x.form (.inl rfl)
theorem Gu (c:Ctx) (b:UInt8) (feed:Bool) (h:form c=true) (e:c.st=17∨c.st=18∨c.st=19):form (raw c b feed)=true:=by
 obtain ⟨su,es,hc,Aq,hp,hu,hk,EU⟩:=Gr c h e
 have hR:RW c.st c (if (c.st == 19)=true then c.nm else []):=⟨c.el,su,es,hc,Aq,hu,hk,EU⟩
 unfold raw
 split
 ·rename_i h1
  rw [Bool.and_eq_true] at h1
  have Rv:=eq_of_beq h1.1
  have hn:c.nm=[]:=by rw [hc,Rv];rfl
  have:=(hR.to 19 []).Gs rfl
  rw [show ({ c with st:=19,nm:=[] }:Ctx)={ c with st:=19 } by rw [← hn]] at this
  exact this
 ·split
  ·rfl
  ·split
   ·split
    ·rfl
    ·unfold tag
     simp only [show ((9:UInt8) == 3)=false from rfl,show ((9:UInt8) == 9)=true from rfl,Bool.false_eq_true,if_false,if_true]
     repeat' split
     all_goals rfl
   ·split
    ·rename_i hx
     rw [Bool.and_eq_true] at hx
     have IU:=eq_of_beq hx.1
     have:=(hR.to 19 (c.nm ++ [eS b])).Gs hx.2
     rw [← IU] at this
     exact this
    ·split
     ·exact uN (s:=17) (nm:=[]) ((Gt hR (47 :: c.nm) feed).symm) b feed
     ·exact uN (.inl hR) b feed
theorem D' (c:Ctx) (b:UInt8) (h:form c=true):form (note c b)=true:=by
 unfold note
 repeat' split
 all_goals first | rfl | exact h | skip
 rename_i Ub _ _ _ hd
 have hda:=(uL c h (eq_of_beq Ub)).2
 have:c.da=0∨c.da=1∨c.da=2:=by
  have:=fB (p:=fun d=>!decide (d≤2) || (d == 0 || (d == 1 || d == 2))) (by kernel_rfl) c.da
  simp only [Bool.or_eq_true,Bool.not_eq_true',decide_eq_false_iff_not,beq_iff_eq] at this
  rcases this with h | h
  ·exact absurd hda h
  ·exact h
 rcases this with x | x | x
 ·rw [x];rfl
 ·rw [x];rfl
 ·rw [x] at hd;exact absurd rfl hd
theorem za (c:Ctx) (b:UInt8) (h:form c=true) (e:c.st=7):form (dn c b).1=true:=by
 have hc:=yW c h e
 obtain ⟨q1,q2⟩:=iH c h
 unfold dn
 split
 ·exact h
 ·split
  ·rfl
  ·split
   ·rename_i hq
    have:form ⟨8,c.el,c.en,c.at',b,0,0,false,0,[]⟩=true:=mW c.el c.at' b c.en q1 q2 (qT c h) (by simpa using .inr (by simpa using hq))
    rw [hc];exact this
   ·have:form ⟨8,c.el,c.en,c.at',0,0,0,false,0,[]⟩=true:=mW c.el c.at' 0 c.en q1 q2 (qT c h) (.inl rfl)
    rw [hc];exact this
theorem Rw {c:Ctx} {b:UInt8} (h:Q c b) (he:form c=false→Ci c.el c.en=true):Ci c.el c.en=true:=by
 cases hf:form c with
 | true=>exact Gk c hf
 | false=>exact he hf
theorem zb (en:Bool) (c:Ctx) (b:UInt8) (hc:c=⟨3,0,c.en,0,0,0,0,false,0,c.nm⟩) (hl:low c.nm=true):form (grown c b)=true:=by
 unfold grown
 split
 ·rfl
 ·rename_i h
  have:form ⟨3,0,c.en,0,0,0,0,false,0,c.nm ++ [eS b]⟩=true:=by
   rw [VM];exact gW hl b (n:=32) (by simpa using h)
  rw [hc];exact this
theorem zc (c:Ctx) (b:UInt8) (hE:Ci c.el c.en=true) (hs:c.st=5∨c.st=6) (hc:c={ within c c.st with nm:=c.nm }) (hl:low c.nm=true):form (grown c b)=true:=by
 unfold grown
 split
 ·rfl
 ·rename_i h
  have:form ⟨c.st,c.el,c.en,0,0,0,0,false,0,c.nm ++ [eS b]⟩=true:=by
   rw [Yx hE c.st hs];exact gW hl b (n:=32) (by simpa using h)
  rw [hc];exact this
theorem AB (c:Ctx) (b:UInt8) (hE:Ci c.el c.en=true) (hs:c.st=5∨c.st=6) (hc:c={ within c c.st with nm:=c.nm }) (hn:small c.nm 32=true∨(c.nm=[]∧bj b=false)):form (named c b).1=true:=by
 have hl:low c.nm=true:=by
  rcases hn with h | ⟨h,_⟩
  ·exact o6 h
  ·rw [h];rfl
 unfold named
 split
 ·exact mk7 hE (wj c.nm)
 ·split
  ·exact Yw hE 9 (by simp)
  ·split
   ·rename_i hb
    rcases hn with h | ⟨_,h⟩
    ·have:form ⟨6,c.el,c.en,0,0,0,0,false,0,c.nm⟩=true:=by rw [Yx hE 6 (by simp)];exact h
     rw [hc];exact this
    ·rw [hb] at h;cases h
   ·split
    ·exact Yw hE 4 (by simp)
    ·split
     ·rfl
     ·exact zc c b hE hs hc hl
theorem mX (b:UInt8) (feed:Bool):∀ (n:Nat) (c d:Ctx),Q c b→(form c=false→Ci c.el c.en=true)→again n c b feed=some d→form d=true
 | 0,c,d,_,_,h=>by cases h
 | n+1,c,d,hQ,hE0,h=>by
  have hE:=Rw hQ hE0
  have IH (c':Ctx) (hf:form c'=true) (h:again n c' b feed=some d):form d=true:=mX b feed n c' d (.inl hf) (fun h=>absurd hf (by rw [h];simp)) h
  have Rx (hs:c.st=5∨c.st=6) (hh:(if (named c b).2 then again n (named c b).1 b feed else some (named c b).1)=some d):form d=true:=by
   have key:c={ within c c.st with nm:=c.nm }∧(small c.nm 32=true∨(c.nm=[]∧bj b=false)):=by
    rcases hQ with hf | ⟨hx,_,_,hb⟩
    ·obtain ⟨h1,h2⟩:=yV c hf hs
     exact ⟨h1, .inl h2⟩
    ·have hn:c.nm=[]:=by rw [hx];rfl
     have h5:c.st=5:=by rw [hx];rfl
     refine ⟨?_, .inr ⟨hn,hb⟩⟩
     rw [h5,hn];exact hx
   have hf:=AB c b hE hs key.1 key.2
   split at hh
   ·exact IH _ hf hh
   ·cases hh;exact hf
  unfold again at h
  rcases hQ with hf | ⟨hx,zI,Ax,xP⟩
  case inr =>
   have e:c.st=5:=by rw [hx];rfl
   refine Rx (.inl e) ?_
   rw [e] at h
   have h:(if (tag c b).2 then again n (tag c b).1 b feed else some (tag c b).1)=some d:=h
   unfold tag at h
   rw [e] at h
   exact h
  rcases nY c.st with e | e | e | e | e | e | e | e | e | e | e | e | e | e | e | e | e | e | e | e | e | e
  ·have hc:=lB c hf (by simp [e])
   rw [e] at hc
   subst hc
   have h:(if (b == 60)=true then some (bC 1) else some (bC 0))=some d:=h
   split at h <;> cases h <;> rfl
  ·have hc:=lB c hf (by simp [e])
   rw [e] at hc
   subst hc
   have h:(if (opened b).2 then some (opened b).1 else again n (bC 0) b feed)=some d:=h
   split at h
   ·cases h;exact yX b
   ·exact IH (bC 0) rfl h
  ·rw [e] at h
   have h:some (closed b)=some d:=h
   cases h;exact yY b
  ·rw [e] at h
   have h:(if (tag c b).2 then again n (tag c b).1 b feed else some (tag c b).1)=some d:=h
   obtain ⟨hc,IL⟩:=yT c hf e
   have ht:form (tag c b).1=true:=by
    unfold tag
    rw [e]
    simp only [show ((3:UInt8) == 3)=true from rfl,if_true]
    split
    ·exact zb c.en c b hc (o6 IL)
    ·split
     ·rename_i DX
      have:c.en=false:=by simpa using DX
      have h2:=lC 9 (oX c.nm) c.en (by simp)
      show form ⟨9,oX c.nm,c.en,0,0,0,0,false,0,[]⟩=true
      rw [h2,this,decide_eq_true (Ch c.nm)];rfl
     ·exact bM c hf 9 (by simp)
   split at h
   ·exact IH _ ht h
   ·cases h;exact ht
  ·rw [e] at h
   have h:(if (tag c b).2 then again n (tag c b).1 b feed else some (tag c b).1)=some d:=h
   have hc:=yU c hf (by simp [e])
   unfold tag at h
   rw [e] at h
   simp only [show ((4:UInt8) == 3)=false from rfl,show ((4:UInt8) == 9)=false from rfl,show ((4:UInt8) == 10)=false from rfl,show ((4:UInt8) == 4)=true from rfl,Bool.false_eq_true,if_false,if_true] at h
   cases xP:bj b with
   | true=>rw [xP] at h;cases h;exact hf
   | false =>
   rw [xP] at h
   cases Ax:(b == 47 || b == 62) with
   | true=>rw [Ax] at h;exact IH _ (bM c hf 9 (by simp)) h
   | false =>
   rw [Ax] at h
   cases zI:(b == 61) with
   | true=>rw [zI] at h;cases h;rfl
   | false =>
    rw [zI] at h
    have P9:{ c with st:=5 }=within c 5:=by rw [hc];rfl
    have h:again n (within c 5) b feed=some d:=by rw [← P9];exact h
    exact mX b feed n (within c 5) d (.inr ⟨rfl,zI,Ax,xP⟩) (fun _=>hE) h
  ·rw [e] at h
   have h:(if (tag c b).2 then again n (tag c b).1 b feed else some (tag c b).1)=some d:=h
   unfold tag at h
   rw [e] at h
   exact Rx (.inl e) h
  ·rw [e] at h
   have h:(if (tag c b).2 then again n (tag c b).1 b feed else some (tag c b).1)=some d:=h
   unfold tag at h
   rw [e] at h
   exact Rx (.inr e) h
  ·rw [e] at h
   have h:(if (tag c b).2 then again n (tag c b).1 b feed else some (tag c b).1)=some d:=h
   unfold tag at h
   rw [e] at h
   have h:(if (dn c b).2 then again n (dn c b).1 b feed else some (dn c b).1)=some d:=h
   have ht:=za c b hf e
   split at h
   ·exact IH _ ht h
   ·cases h;exact ht
  ·rw [e] at h
   have h:some (value c b)=some d:=h
   cases h;exact AA c b hf e
  ·rw [e] at h
   have h:(if (tag c b).2 then again n (tag c b).1 b feed else some (tag c b).1)=some d:=h
   rw [Az c b e,if_neg (by simp)] at h
   cases h
   unfold tag
   rw [e]
   simp only [show ((9:UInt8) == 3)=false from rfl,show ((9:UInt8) == 9)=true from rfl,Bool.false_eq_true,if_false,if_true]
   split
   ·exact bM c hf 4 (by simp)
   ·split
    ·exact bM c hf 10 (by simp)
    ·split
     ·exact kJ (iH c hf).1
     ·rfl
  ·rw [e] at h
   have h:(if (tag c b).2 then again n (tag c b).1 b feed else some (tag c b).1)=some d:=h
   unfold tag at h
   rw [e] at h
   simp only [show ((10:UInt8) == 3)=false from rfl,show ((10:UInt8) == 9)=false from rfl,show ((10:UInt8) == 10)=true from rfl,Bool.false_eq_true,if_false,if_true] at h
   cases IQ:(b == 62) with
   | true=>rw [IQ] at h;cases h;exact kJ (iH c hf).1
   | false=>rw [IQ] at h;exact IH _ (bM c hf 4 (by simp)) h
  all_goals first
   | (rw [e] at h;have h:some (note c b)=some d:=h;cases h;exact D' c b hf)
   | (rw [e] at h;have h:some (raw c b feed)=some d:=h;cases h;exact Gu c b feed hf (by simp [e]))
   | skip
  exfalso
  have t:=(dL (gV c hf)).1
  rw [decide_eq_true e] at t
  exact t rfl
theorem Kf (c:Ctx) (b:UInt8) (feed:Bool):form (mv c b feed)=true:=by
 cases hf:form c with
 | true=>exact mX b feed 4 c _ (.inl hf) (fun h=>absurd hf (by rw [h];simp)) (wg c b feed hf)
 | false=>rw [Aw c b feed hf];rfl
theorem lD (c:Ctx) (b:UInt8):form (jZ c b)=true:=Kf c b true
end Sx
namespace Sx
open Go
def gl (f:Ctx→UInt8→Ctx):Ctx→List UInt8→Int→Ctx×Int
 | c,[],_=>(c,-1)
 | c,b :: r,i=>if (f c b).st == 20 then (f c b,i) else gl f (f c b) r (i+1)
def N7 (c:Ctx):Ctx:=if form c then c else bc
theorem Gv (c:Ctx):form (N7 c)=true:=by
 unfold N7
 split
 ·assumption
 ·rfl
def cB (c:Ctx) (p:List UInt8):Ctx×Int:=gl jZ (N7 c) p 0
theorem uO {f:Ctx→UInt8→Ctx} (hf:∀ c b,form (f c b)=true):∀ (l:List UInt8) (c:Ctx) (i:Int),form c=true→form (gl f c l i).1=true
 | [],c,i,h=>h
 | b :: r,c,i,h=>by
  unfold gl
  split
  ·exact hf c b
  ·exact uO hf r _ _ (hf c b)
theorem N8 {c:Ctx} (h:form c=true) (e:(c.st == 20)=true):c=bc:=by
 have:=lB c h (by simp [eq_of_beq e])
 rw [eq_of_beq e] at this
 exact this
theorem wk {c:Ctx} (h:form c=true):c.nm.length < 9223372036854775808:=by have:=wh c h;omega
theorem mY (f:Ctx→UInt8→Ctx):∀ (l:List UInt8) (c:Ctx) (i:Int),(gl f c l i).1=(gl f c l 0).1∧((gl f c l 0).2=-1→(gl f c l i).2=-1)∧((gl f c l 0).2≠-1→(gl f c l i).2=(gl f c l 0).2+i)∧-1≤(gl f c l 0).2∧(gl f c l 0).2 < l.length
 | [],c,i=>⟨rfl,fun _=>rfl,fun h=>absurd rfl h,Int.le_refl _,(by show (-1:Int) < 0;omega)⟩
 | b :: r,c,i=>by
  unfold gl
  split
  ·refine ⟨rfl,fun h=>?_,fun _=>(by simp),(by simp),?_⟩
   ·exact absurd (show (0:Int)=-1 from h) (by decide)
   ·show (0:Int) < ((r.length+1:Nat):Int);omega
  ·obtain ⟨a1,a2,a3,a4,a5⟩:=mY f r (f c b) (i+1)
   obtain ⟨b1,b2,b3,b4,b5⟩:=mY f r (f c b) (0+1)
   refine ⟨a1.trans b1.symm,?_⟩
   by_cases h:(gl f (f c b) r 0).2=-1
   ·rw [a2 h,b2 h]
    exact ⟨fun _=>rfl,fun hh=>absurd rfl hh,Int.le_refl _,(by simp;omega)⟩
   ·rw [a3 h,b3 h]
    simp only [List.length_cons]
    refine ⟨fun hh=>?_,fun _=>by omega,by omega,by omega⟩
    omega
end Sx
namespace Sx
end Sx
namespace Sx
open Go
end Sx
end
