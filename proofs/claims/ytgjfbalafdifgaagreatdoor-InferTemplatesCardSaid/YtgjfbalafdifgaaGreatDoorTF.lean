/-
  A part of InferTemplates's proof.
-/
import Derived.Test.YtgjfbalafdifgaaGreatDoorTE
import Derived.Test.YtgjfbalafdifgaaGreatDoorTD
import Derived.Test.YtgjfbalafdifgaaGreatDoorProg
import Derived.Deep.AppendLies
import Derived.OneCell
import Derived.WalkSmall
import Derived.Laws.OwnMore
import Derived.Test.YtgjfbalafdifgaaGreatDoorTB
import Derived.Deep.RegionHeld3
noncomputable section
namespace eA
open Go Go.Proofs Go.RowKit Go.Shelf Sx R3
variable {mx:Int}
theorem gm:∀ (n:Nat) (r:List UInt8) (a:Nat) (acc:List Wd) (N:Nat),a+r.length≤N→(∀ w ∈ acc,w.at'≤N∧w.text.length≤N)→∀ w ∈ (dC n r a acc).1,w.at'≤N∧w.text.length≤N
 | 0,r,a,acc,N,hN,h=>h
 | n+1,r,a,acc,N,hN,h=>by
  rw [dC]
  split
  ·exact h
  ·split
   ·have:=lH r
    refine gm n _ _ _ N (by rw [List.length_drop];omega) fun w hw=>?_
    rcases List.mem_append.1 hw with hw | hw
    ·exact h w hw
    ·obtain rfl:=List.mem_singleton.1 hw
     refine ⟨by show a≤N;omega,?_⟩
     show (r.take (bR r)).length≤N
     rw [List.length_take];omega
   ·split
    ·exact h
    ·rename_i h0 h1
     split
     ·have uv:=Lib.index_room r oc (by omega)
      have e:(oc.length:Int)=2:=rfl
      refine gm n _ _ _ N (by rw [List.length_drop];omega) fun w hw=>?_
      rcases List.mem_append.1 hw with hw | hw
      ·exact h w hw
      ·obtain rfl:=List.mem_singleton.1 hw
       exact ⟨by show a≤N;omega,Nat.zero_le _⟩
     ·exact h
theorem jP {N:Nat} (hN:N≤1000000):∀ (t:Ts) (m:Nat),t.size≤N→(∀ w ∈ t.flat,w.at'≤N∧w.text.length≤N)→IY (t.arr m)
 | .nil,m,hs,hw,x,hx=>by cases hx
 | .leaf w k,m,hs,hw,x,hx=>by
  simp only [Ts.size] at hs
  have h0:=hw w (by simp [Ts.flat])
  rcases List.mem_cons.1 hx with rfl | hx
  ·exact ⟨by show w.at'≤_;omega,by show w.text.length≤_;omega,Nat.zero_le _,Nat.zero_le _⟩
  ·exact jP hN k _ (by omega) (fun y hy=>hw y (by simp [Ts.flat,hy])) x hx
 | .lL w b e k,m,hs,hw,x,hx=>by
  simp only [Ts.size] at hs
  have h0:=hw w (by simp [Ts.flat])
  have h1:=cE b (m+1)
  rcases List.mem_cons.1 hx with rfl | hx
  ·exact ⟨by show w.at'≤_;omega,by show w.text.length≤_;omega,by show (b.aH (m+1)).length≤_;omega,Nat.zero_le _⟩
  ·rcases List.mem_append.1 hx with hx | hx
   ·exact jP hN b _ (by omega) (fun y hy=>hw y (by simp [Ts.flat,hy])) x hx
   ·exact jP hN k _ (by omega) (fun y hy=>hw y (by simp [Ts.flat,hy])) x hx
 | .alt w b l c e k,m,hs,hw,x,hx=>by
  simp only [Ts.size] at hs
  have h0:=hw w (by simp [Ts.flat])
  have h1:=cE b (m+1)
  have h2:=cE c (m+1+b.size)
  rcases List.mem_cons.1 hx with rfl | hx
  ·exact ⟨by show w.at'≤_;omega,by show w.text.length≤_;omega,by show (b.aH (m+1)).length≤_;omega,by show (c.aH (m+1+b.size)).length≤_;omega⟩
  ·rcases List.mem_append.1 hx with hx | hx
   ·exact jP hN b _ (by omega) (fun y hy=>hw y (by simp [Ts.flat,hy])) x hx
   ·rcases List.mem_append.1 hx with hx | hx
    ·exact jP hN c _ (by omega) (fun y hy=>hw y (by simp [Ts.flat,hy])) x hx
    ·exact jP hN k _ (by omega) (fun y hy=>hw y (by simp [Ts.flat,hy])) x hx
theorem HT {l:List UInt8} {nodes:List Nd} {top:List Nat} (h:dp l=.ok nodes top):∃ ts:Ts,ts.ok∧nodes=ts.arr 0∧top=ts.aH 0∧IY nodes∧top.length≤1000000:=by
 have hl:l.length≤65536:=by
  unfold dp at h
  split at h
  ·cases h
  ·omega
 have ht:gY (bl l).1=.ok nodes top:=by
  unfold dp at h
  rw [if_neg (by omega)] at h
  split at h
  ·cases h
  ·exact h
 obtain ⟨ts,g1,g2,g3,rfl,rfl⟩:=uX ht
 have hw:=gm (l.length+1) l 0 [] 65536 (by omega) (fun w hw=>by simp at hw)
 have hlen:=fD (l.length+1) l 0 []
 have hlen:(bl l).1.length≤l.length:=by simpa [bl] using hlen
 have hw:∀ w ∈ (bl l).1,w.at'≤65536∧w.text.length≤65536:=hw
 rw [g3] at hw hlen
 have h1:=Ts.fQ ts
 have h2:=cE ts 0
 exact ⟨ts,g1,rfl,rfl,jP (by decide) ts 0 (by omega) hw,by omega⟩
theorem Lt {w:World} {F:Nat→Prop} (hG:aN (C mx) w F) (s q:ByteArray) (c:Ctx) (hc:lY c) (hq:q.data.toList=c.nm) :
  CallsIn Fence.wide 12 Tryz.prog 10 #[.string s,dq c q] w (bF w F (kY s.data.toList c)):=by
 unfold kY
 cases hf:form c with
 | false=>exact pg hG hc hq hf
 | true =>
  cases cq:c.st == 20 with
  | true=>exact ph hG hc hq hf cq
  | false =>
   simp only [Bool.not_true,Bool.or_self,Bool.false_eq_true,if_false]
   cases hp:dp s.data.toList with
   | bad a e=>exact nh hG hc hq hf cq (nj hp) hp
   | ok nodes top =>
    obtain ⟨ts,g0,rfl,rfl,g1,g2⟩:=HT hp
    obtain ⟨w1,w2⟩:=fJ ts c [] [] 0 (2 * (ts.arr 0).length+1) g0 (by rw [Ts.eE];exact Nat.le_refl _)
    simp only [List.length_nil,List.nil_append,List.append_nil] at w1 w2
    obtain ⟨d,t,e⟩:∃ d t,db (2 * (ts.arr 0).length+1) (ts.aH 0) c ⟨ts.arr 0,0,0⟩=some (d,t):=by
     cases hg:bG ts c with
     | ok d=>exact ⟨_,_,w1 d hg⟩
     | bad a e=>obtain ⟨_,c',N',h⟩:=w2 a e hg;exact ⟨_,_,h⟩
    simp only [e]
    obtain ⟨k1,_⟩:=xi (mx:=mx) (top:=.ro 1 (aA (ts.aH 0))) (oo mx (2 * (ts.arr 0).length+1)).1 (o:=some (ts.aH 0)) e g2 hc g1
    by_cases ES:t.e=0
    ·rw [if_neg (by simp [ES])]
     exact xl hG hc hq hf cq hp k1 ES
    ·rw [if_pos (by simpa using ES)]
     exact sY hG hc hq hf cq hp k1 ES
def C9:AV→Option Ctx
 | .ag [.u8 st, .u8 el, .b en, .u8 at', .u8 qu, .u8 pa, .u8 su, .b es, .u8 da, .s nm]=>some ⟨st,el,en,at',qu,pa,su,es,da,nm⟩
 | _=>none
theorem zt {a:AV} {c:Ctx} (h:C9 a=some c):a=c.au:=by
 unfold C9 at h
 split at h
 ·cases h;rfl
 ·cases h
def S9 (args:List AV):Option AV :=
 match args with
 | [.s l,a]=>match C9 a with
  | some c=>if c.nm.length < 9223372036854775808 then some (kY l c) else none
  | none=>none
 | _=>none
theorem Lu {C':cS} {mx:Int} (AG:C'.glob=(C mx).glob) (ho:(C'.own 10).all Option.isNone=true) (args:List AV) (r:AV) (h:S9 args=some r) (w:World) (F:Nat→Prop) (vs:Array Value) (hG:aN C' w F) (hl:vs.size=args.length)
  (hv:∀ (j:Nat) (a:AV) (v:Value),args[j]?=some a→vs[j]?=some v→Rel w F a v):dJ Tryz.prog 10 vs w (fU C' 10 w F r):=by
 have Xl:aN (C mx) w F:=fun g k e hg=>hG g k e (by rw [AG];exact hg)
 unfold S9 at h
 split at h
 ·rename_i l a
  split at h
  ·rename_i c hc
   split at h
   ·rename_i hn
    cases h
    obtain rfl:=zt hc
    match vs,hl,hv with
    | ⟨[x,y]⟩,_,hv =>
     have hx:=hv 0 _ x rfl rfl
     have hy:=hv 1 _ y rfl rfl
     cases hx with
     | s p =>
      obtain ⟨q,hq,rfl⟩:=rA hy
      refine .inl ⟨Tryz.f10,(Tryz.f10.body).getD .skip,Tryz.func10,by kernel_rfl,by kernel_rfl,Calls.mono (callsIn_wide.1 (Lt (mx:=mx) Xl p q c hn hq)) fun e w' he=>?_⟩
      obtain ⟨hx,v,rfl,hr⟩:=he
      refine ⟨_,rfl,hx,?_⟩
      unfold eV
      rw [if_pos ho]
      exact hr
   ·cases h
  ·cases h
 ·cases h
end eA
namespace eA
open Go Go.Proofs Sx
variable {mx:Int}
def Da (run:RunT) (a:AV) (b:Int) (d e f g i j k l m n:AV) (o p:UInt8) (q:Bool) (s t u w:UInt8) (x:Bool) (y:UInt8) (z:List UInt8) (A:List AV) (B D E:AV):Option AV :=
 run ((bL 2 ((Tryz.f22.body).getD .skip) []).getD []) (St.bU [(0, .cell (.ptr 29 0)),(1, .cell (.val a)),(5, .cell (.ptr 5 0)),(6, .cell (.ptr 6 0)),(7, .cell (.val (.int b)))] [(5,some (cV d e f g i j k l m n)),(6,some (cT o p q s t u w x y z)),(29,some [.own 629000 58 9 A, .val B, .val D, .val (E)])])
def ZB (a:AV) (b d:UInt8) (e:Bool) (f g i j:UInt8) (k:Bool) (l:UInt8) (m:List UInt8) (n:List AV) (o:AV) (p q:Int) (c:al) (r:RunT):Option AV :=
 Da r a 0 (.u8 b) (.u8 d) (.b e) (.u8 f) (.u8 g) (.u8 i) (.u8 j) (.b k) (.u8 l) (.s m) 0 0 false 0 0 0 0 false 0 [] n o (.int p) (.int q)
theorem c22 (a b d e f g i j k l m n o p q) {r:AV} (h:ZB a b d e f g i j k l m n o p q (ae (C mx) Tryz.prog) (af (C mx) Tryz.prog 22 Tryz.f22)=some r):ae (C mx) Tryz.prog 22 [.un,a, .ag [.u8 b, .u8 d, .b e, .u8 f, .u8 g, .u8 i, .u8 j, .b k, .u8 l, .s m], .ag [.ro 9 n,o, .int p, .int q]]=some r :=
 aj (fun _ _=>by kernel_rfl) h
def zu (a:AV) (b:Int) (d e f g i j k l m n:AV) (o p:UInt8) (q:Bool) (s t u w:UInt8) (x:Bool) (y:UInt8) (z:List UInt8) (A:List AV) (B D E:AV) (c:al) (r:RunT):Option AV :=
 (eP a).bind fun G=>(aD .lss (.int b) G).bind fun H=>(aq H true ((aD .eql E (.int 0)).bind fun I=>some I) (.b false)).bind fun J=>ah J
 ((idx 1 a (.int b)).bind fun L=>(c 39 [.un,AV.cell L 0, .ag [d,e,f,g,i,j,k,l,m,n], .ag [.ro 9 A,B,D,E]]).bind fun M=>(aP M 0).bind fun N=>(aP M 1).bind fun O=>(AV.aE 4 O).bind fun P=>(AV.aE 10 N).bind fun Q=>Da r a (bJ (b+1)) (gt Q 0) (gt Q 1) (gt Q 2) (gt Q 3) (gt Q 4) (gt Q 5) (gt Q 6) (gt Q 7) (gt Q 8) (gt Q 9) o p q s t u w x y z (AV.elems (gt P 0)) (gt P 1) (gt P 2) (gt P 3))
 (some (.tu [.ag [d,e,f,g,i,j,k,l,m,n], .ag [.ro 9 A,B,D,E]]))
theorem S' (a b d e f g i j k l m n o p q s t u w x y z A B D E) {r:AV} (h:zu a b d e f g i j k l m n o p q s t u w x y z A B D E (ae (C mx) Tryz.prog) (af (C mx) Tryz.prog 22 Tryz.f22)=some r):Da (af (C mx) Tryz.prog 22 Tryz.f22) a b d e f g i j k l m n o p q s t u w x y z A B D E=some r :=
 ak (fun _ _=>by kernel_rfl) h
end eA
namespace HU
open Go Go.Proofs Go.RowKit Go.Shelf Sx R3 eA
variable {mx:Int}
theorem Ph (call:Nat→List AV→Option AV) {top u1 u2:AV} {at' e:Int} {nodes:List AV} {res o0 o1 o2 o3:AV} (hc:call 22 [.un,u1,u2, .ag [.ro 9 nodes,top, .int at', .int e]]=some (.tu [res, .ag [o0,o1,o2,o3]])) :
  cW (eA.C mx) call Lp 22 (([.tmp 0, .tmp 1, .tmp 2]:List Operand).map ((jb (dV nodes top at' e) u1 u2).get (eA.C mx)) ++ ([]:List Nat).map fun s=>.cell (.ptr s 0)) (some 3) (jb (dV nodes top at' e) u1 u2) (fun st=>some st)=some (Lq nodes top at' e u1 u2 res o0 o1 o2 o3):=by
 show ((call 22 [.un,u1,u2, .ag [.ro 9 nodes,top, .int at', .int e]]).bind fun res=>_)=_
 rw [hc]
 rfl
set_option maxRecDepth 100000 in
theorem ng {w:World} {F:Nat→Prop} (hG:aN (eA.C mx) w F) {Pb ty:Nat} {nv tv v1 v2:Value} {at' e:Int} {u1 u2 top:AV} {nodes:List AV} (hP:w.heap[Pb]?=some (.cells #[nv,tv, .int .i64 at', .int .i64 e] ty (0,0))) (Lb:¬ F Pb)
  (xR:∀ g,nv.ownBlock=some g→¬ F g∧g≠Pb∧g < w.heap.size) (BQ:Rel w F u1 v1) (L0:Rel w F u2 v2) (h2:tv.oneCell'=true) (ht:Rel w F top tv) (hn:aX w F 58 9 nodes nv)
  {res o0 o1 o2 o3:AV} (hc:ae (eA.C mx) Tryz.prog 22 [.un,u1,u2, .ag [.ro 9 nodes,top, .int at', .int e]]=some (.tu [res, .ag [o0,o1,o2,o3]])) :
  Calls Tryz.prog 22 #[.pointer (some ⟨Pb,0,none⟩),v1,v2] w fun en w'=>∃ v x0 x1 x2 x3 e',en=.returned v∧Em w Pb nv w'∧w'.heap[Pb]?=some (.cells #[x0,x1,x2,x3] e' (0,0)) ∧
   Rel w' (bo w F Pb nv x0) res v∧aX w' (bo w F Pb nv x0) 58 9 o0.elems x0∧(x1.oneCell'=true∧Rel w' (bo w F Pb nv x0) o1 x1)∧Rel w' (bo w F Pb nv x0) o2 x2∧Rel w' (bo w F Pb nv x0) o3 x3 ∧
   (∀ g,x0.ownBlock=some g→(w.heap.size≤g∨nv.ownBlock=some g)∧g≠Pb∧g < w'.heap.size):=by
 have hI:=MJ (C:=eA.C mx) hG (Pb:=Pb) (e:=ty) (vs:=[nv,tv, .int .i64 at', .int .i64 e]) (cs:=dV nodes top at' e) (id0:=9) (nv:=nv) hP rfl Lb xR BQ L0 (fun j c v hc hv=>by
  match j,hc,hv with
  | 0,hc,hv=>cases hc;cases hv;exact .inr ⟨_,_,_,rfl,rfl,hn⟩
  | 1,hc,hv=>cases hc;cases hv;exact .inl ⟨_,rfl,h2,ht⟩
  | 2,hc,hv=>cases hc;cases hv;exact .inl ⟨_,rfl,rfl, .int at'⟩
  | 3,hc,hv=>cases hc;cases hv;exact .inl ⟨_,rfl,rfl, .int e⟩
  | j+4,hc,hv=>simp [dV] at hc)
 have hK:cW (eA.C mx) (ae (eA.C mx) Tryz.prog) Lp 22 (([.tmp 0, .tmp 1, .tmp 2]:List Operand).map ((jb (dV nodes top at' e) u1 u2).get (eA.C mx)) ++ ([]:List Nat).map fun s=>.cell (.ptr s 0)) (some 3) (jb (dV nodes top at' e) u1 u2) (fun st=>some st)=some (Lq nodes top at' e u1 u2 res o0 o1 o2 o3) :=
  Ph _ hc
 have key:=kB (C:=eA.C mx) (P:=Tryz.prog) (call:=ae (eA.C mx) Tryz.prog) (R:=St) (K:=fun st=>some st) (o:={ dst:=some 3,op:=.call { callee:=.value (.func 22),args := #[.tmp 0, .tmp 1, .tmp 2],argTypes := #[64,24,40] },type:=0,pos := "", after := #[],guard:=none }) (X:=.func 22) (g:=22) (cv := #[]) (ss:=[])
  rfl rfl rfl (by kernel_rfl) (by kernel_rfl) ⟨rfl,fun j s v hs=>by simp at hs⟩ (gQ (eA.fit mx)) (eA.fit mx).ty hI (fun t ht=>by cases ht;decide) hK
 have hW:=key (fun a' w'=>∃ x0 x1 x2 x3 e',Em w Pb nv w'∧w'.heap[Pb]?=some (.cells #[x0,x1,x2,x3] e' (0,0)) ∧
   Rel w' (bo w F Pb nv x0) res (a'.tmps.getD 3 undef)∧aX w' (bo w F Pb nv x0) 58 9 o0.elems x0∧(x1.oneCell'=true∧Rel w' (bo w F Pb nv x0) o1 x1)∧Rel w' (bo w F Pb nv x0) o2 x2∧Rel w' (bo w F Pb nv x0) o3 x3 ∧
   (∀ g,x0.ownBlock=some g→(w.heap.size≤g∨nv.ownBlock=some g)∧g≠Pb∧g < w'.heap.size)) (fun _ _ _=>False) (fun a' w' st' H' σ' cq iA _ hσ _=>?_)
 ·unfold Oper.wp at hW
  have a8:(execOp (⟨#[.pointer (some ⟨Pb,0,none⟩),v1,v2,undef],[]⟩:Act).eval { dst:=some 3,op:=.call { callee:=.value (.func 22),args := #[.tmp 0, .tmp 1, .tmp 2],argTypes := #[64,24,40] },type:=0,pos := "", after := #[],guard:=none }).run Tryz.prog w=.ok (.enter 22 #[.pointer (some ⟨Pb,0,none⟩),v1,v2]) w:=by
   simp [execOp,go_sem,resolve,invoke,enters_of Tryz.func22 (by kernel_rfl) rfl]
  rw [a8,Oper.upon_enter] at hW
  refine Calls.mono hW fun en w' h=>?_
  cases en with
  | returned v =>
   obtain ⟨x0,x1,x2,x3,e',q1,q2,q3,q4⟩:=h
   exact ⟨v,x0,x1,x2,x3,e',rfl,q1,q2,q3,q4⟩
  | panicked c=>exact h.elim
  | outgrown=>exact absurd h (by simp [LetsOut])
 ·cases cq
  obtain ⟨r,us,e',g1,g2,g3,g4⟩:=iA.mem 0 _ rfl
  have hσ0:σ' 0=some Pb:=(hσ.1 0 (by simp)).trans rfl
  rw [hσ0] at g1
  cases g1
  match us,g3,g4,g2 with
  | [x0,x1,x2,x3],_,g4,g2 =>
   have y0:=g4 0 _ x0 rfl rfl
   have y1:=g4 1 _ x1 rfl rfl
   have y2:=g4 2 _ x2 rfl rfl
   have y3:=g4 3 _ x3 rfl rfl
   have hF:∀ b,Fr w.heap.size (fW F Pb nv) H' σ' b→bo w F Pb nv x0 b:=fun b hb=>by
    have aY:b≠Pb:=fun e=>hb.2.2 0 (e ▸ hσ0)
    exact ⟨fun aM=>(hb.1 aM).elim .inl fun h=>h.elim (fun e=>absurd e aY) .inr,aY,hb.2.1 _ x0 y0.1⟩
   have hm:∀ {a:AV} {v:Value},Rel w' (Fr w.heap.size (fW F Pb nv) H' σ') a v→Rel w' (bo w F Pb nv x0) a v:=fun h=>h.mono fun b _ hb=>⟨hF b hb,rfl⟩
   refine ⟨x0,x1,x2,x3,e',⟨iA.below.os,iA.below.tape,iA.below.output,iA.below.size,fun b hb aY ho=>iA.below.block b hb (fun h=>h.elim aY ho)⟩,g2,hm (iA.env 3),y0.2.mono (fun b _ hb=>⟨hF b hb,rfl⟩) (fun _ _=>rfl),⟨y1.1,hm y1.2⟩,hm y2.2,hm y3.2,fun g hg=>?_⟩
   obtain ⟨q1,q2⟩:=iA.hown _ x0 g y0.1 hg
   have q3:g≠Pb:=fun e=>iA.hs _ 0 x0 Pb y0.1 hσ0 (e ▸ hg)
   exact ⟨q1.elim .inl fun h=>h.elim (fun e=>absurd e q3) .inr,q3,q2⟩
end HU
namespace R3
open Go Go.Proofs Sx
structure zK where
 node:Nat
 kind:UInt8
 els:Bool
structure Mn where
 kind:UInt8
 at':Nat
 text:List UInt8
 root:Bool
 names:AV
 body:List Nat
 els:List Nat
 has:Bool
structure Ms where
 nodes:List Mn
 top:List Nat
 stack:List zK
def bS (w:Wd):Mn:=⟨bf w.kind,w.at',w.text,w.root,w.names,[],[],false⟩
def Ms.add (s:Ms) (n:List Nat):Ms :=
 match s.stack.getLast? with
 | none=>{ s with top:=s.top ++ n }
 | some o=>if o.els then { s with nodes:=s.nodes.modify o.node fun x=>{ x with els:=x.els ++ n } } else { s with nodes:=s.nodes.modify o.node fun x=>{ x with body:=x.body ++ n } }
inductive Mr where
 | ok (nodes:List Mn) (top:List Nat)
 | bad (a e:Nat)
def b9 (s:Ms) (w:Wd):Ms ⊕ (Nat×Nat) :=
 if w.kind == 3 then
  match s.stack.getLast? with
  | none=>.inr (w.at',4)
  | some o=>if o.kind != 2 || o.els then .inr (w.at',4) else .inl { s with stack:=s.stack.dropLast ++ [{ o with els:=true }],nodes:=s.nodes.modify o.node fun x=>{ x with has:=true } }
 else if w.kind == 5 then
  match s.stack.getLast? with
  | none=>.inr (w.at',4)
  | some o=>.inl { s with stack:=s.stack.dropLast }
 else if (w.kind == 2 || w.kind == 4) && decide (16≤s.stack.length) then .inr (w.at',3)
 else
  let t:=Ms.add { s with nodes:=s.nodes ++ [bS w] } [s.nodes.length]
  .inl (if w.kind == 2 || w.kind == 4 then { t with stack:=t.stack ++ [⟨s.nodes.length,w.kind,false⟩] } else t)
def eC:List Wd→Ms→Mr
 | [],s=>match s.stack.getLast? with
  | none=>.ok s.nodes s.top
  | some o=>.bad ((s.nodes[o.node]?.map Mn.at').getD 0) 4
 | w :: r,s=>match b9 s w with
  | .inl t=>eC r t
  | .inr (a,e)=>.bad a e
def jQ:Nat→Ts→List Mn
 | _, .nil=>[]
 | m, .leaf w k=>bS w :: jQ (m+1) k
 | m, .lL w b _ k=>{ bS w with body:=b.aH (m+1) } :: (jQ (m+1) b ++ jQ (m+1+b.size) k)
 | m, .alt w b _ c _ k=>{ bS w with body:=b.aH (m+1),els:=c.aH (m+1+b.size),has:=true } :: (jQ (m+1) b ++ (jQ (m+1+b.size) c ++ jQ (m+1+b.size+c.size) k))
theorem eD:∀ (s:Ts) (m:Nat),(jQ m s).length=s.size
 | .nil,m=>rfl
 | .leaf w k,m=>by simp [jQ,Ts.size,eD k,Nat.add_comm]
 | .lL w b e k,m=>by simp [jQ,Ts.size,eD k,eD b];omega
 | .alt w b l c e k,m=>by simp [jQ,Ts.size,eD k,eD b,eD c];omega
def Ms.wf (s:Ms):Prop:=∀ o ∈ s.stack,o.node < s.nodes.length
theorem jq (s:Ms) (n:List Nat):(s.add n).stack=s.stack:=by
 unfold Ms.add;split
 ·rfl
 ·split <;> rfl
theorem gp (s:Ms) (n:List Nat):(s.add n).nodes.length=s.nodes.length:=by
 unfold Ms.add;split
 ·rfl
 ·split <;> simp
theorem add_nil (s:Ms):s.add []=s:=by
 unfold Ms.add
 have e1:∀ (l:List Mn) (i:Nat),(l.modify i fun x=>{ x with els:=x.els ++ [] })=l:=fun l i=>by
  simp only [List.append_nil]
  exact List.modify_id i l
 have e2:∀ (l:List Mn) (i:Nat),(l.modify i fun x=>{ x with body:=x.body ++ [] })=l:=fun l i=>by
  simp only [List.append_nil]
  exact List.modify_id i l
 split
 ·simp
 ·split
  ·rw [e1]
  ·rw [e2]
theorem jR {l r:List Mn} {i:Nat} {f:Mn→Mn} (h:i < l.length):(l ++ r).modify i f=l.modify i f ++ r:=by
 apply List.ext_getElem?
 intro j
 rw [List.getElem?_modify]
 by_cases hj:j < l.length
 ·rw [List.getElem?_append_left hj,List.getElem?_append_left (by rw [List.length_modify];exact hj),List.getElem?_modify]
 ·rw [List.getElem?_append_right (by omega),List.getElem?_append_right (by rw [List.length_modify];omega),List.length_modify]
  have aY:i≠j:=by omega
  cases r[j - l.length]? <;> simp [aY]
theorem td {l:List Mn} {i:Nat} {f g:Mn→Mn}:(l.modify i f).modify i g=l.modify i fun x=>g (f x):=by
 apply List.ext_getElem?
 intro j
 rw [List.getElem?_modify,List.getElem?_modify,List.getElem?_modify]
 by_cases h:i=j
 ·cases l[j]? <;> simp [h]
 ·cases l[j]? <;> simp [h]
theorem po {l r:List Mn} {x:Mn} {i:Nat} {f:Mn→Mn} (h:i=l.length):(l ++ x :: r).modify i f=l ++ f x :: r:=by
 subst h
 induction l with
 | nil=>rfl
 | cons y l ih=>simp only [List.length_cons,List.cons_append,List.modify_succ_cons];rw [ih]
def Ms.put (s:Ms) (n:List Nat) (a:List Mn):Ms:={ s.add n with nodes:=(s.add n).nodes ++ a }
theorem Lv (s:Ms):s.put [] []=s:=by unfold Ms.put;rw [add_nil];simp
theorem dW (s:Ms) (n:List Nat) (a:List Mn):(s.put n a).stack=s.stack:=jq s n
theorem gq (s:Ms) (n:List Nat) (a:List Mn):(s.put n a).nodes.length=s.nodes.length+a.length:=by unfold Ms.put;simp only [List.length_append,gp]
theorem xp {s:Ms} (h:s.wf) (n m:List Nat) (a b:List Mn):(s.put n a).put m b=s.put (n ++ m) (a ++ b):=by
 unfold Ms.put Ms.add
 cases hl:s.stack.getLast? with
 | none=>simp [hl]
 | some o =>
  have ho:o.node < s.nodes.length:=h o (List.mem_of_getLast? hl)
  by_cases he:o.els=true
  ·simp only [he,if_true,hl]
   rw [jR (by rw [List.length_modify];exact ho),td]
   simp only [List.append_assoc]
  ·simp only [he,if_false,hl,Bool.false_eq_true]
   rw [jR (by rw [List.length_modify];exact ho),td]
   simp only [List.append_assoc]
theorem tg {s:Ms} (h:s.wf) (n:List Nat) (a:List Mn):(s.put n a).wf:=fun o ho=>by
 rw [dW] at ho
 rw [gq]
 have:=h o ho
 omega
theorem xr {s:Ms} (h:s.wf) (n:List Nat) (x:Mn):Ms.add { s with nodes:=s.nodes ++ [x] } n=s.put n [x]:=by
 unfold Ms.put Ms.add
 cases hl:s.stack.getLast? with
 | none=>simp [hl]
 | some o =>
  have ho:o.node < s.nodes.length:=h o (List.mem_of_getLast? hl)
  by_cases he:o.els=true
  ·simp only [he,if_true,hl]
   rw [jR ho]
  ·simp only [he,if_false,hl,Bool.false_eq_true]
   rw [jR ho]
theorem EB {s:Ms} (h:s.wf) {w:Wd} (hk:w.kind≠2∧w.kind≠3∧w.kind≠4∧w.kind≠5):b9 s w=.inl (s.put [s.nodes.length] [bS w]):=by
 unfold b9
 rw [if_neg (by simp [hk]),if_neg (by simp [hk]),if_neg (by simp [hk])]
 simp only
 rw [if_neg (by simp [hk]),xr h]
def cl (s:Ms) (w:Wd):Ms:={ s.put [s.nodes.length] [bS w] with stack:=s.stack ++ [⟨s.nodes.length,w.kind,false⟩] }
theorem pq {s:Ms} (h:s.wf) {w:Wd} (hk:w.kind=2∨w.kind=4) (hd:s.stack.length < 16):b9 s w=.inl (cl s w):=by
 have h3:w.kind≠3∧w.kind≠5:=by rcases hk with e | e <;> rw [e] <;> decide
 unfold b9
 rw [if_neg (by simp [h3]),if_neg (by simp [h3]),if_neg (by simp;omega)]
 simp only
 rw [if_pos (by simpa using hk),xr h]
 unfold cl
 rw [dW]
theorem lO {s:Ms} (h:s.wf) (w:Wd):(cl s w).wf:=fun o ho=>by
 show o.node < (s.put _ _).nodes.length
 rw [gq]
 rcases List.mem_append.1 ho with ho | ho
 ·have:=h o ho;simp only [List.length_cons,List.length_nil];omega
 ·obtain rfl:=List.mem_singleton.1 ho;simp only [List.length_cons,List.length_nil];omega
theorem jS (s:Ms) (w:Wd) (n:List Nat) (a:List Mn):(cl s w).put n a={ s.put [s.nodes.length] ({ bS w with body:=n } :: a) with stack:=s.stack ++ [⟨s.nodes.length,w.kind,false⟩] }:=by
 have hl:(cl s w).stack.getLast?=some ⟨s.nodes.length,w.kind,false⟩:=by simp [cl]
 unfold Ms.put
 have e:(cl s w).add n={ cl s w with nodes:=(cl s w).nodes.modify s.nodes.length fun x=>{ x with body:=x.body ++ n } }:=by
  unfold Ms.add
  rw [hl]
  rfl
 rw [e]
 have e2:(cl s w).nodes=(s.add [s.nodes.length]).nodes ++ [bS w]:=rfl
 rw [e2,po (by rw [gp])]
 simp [cl,bS,Ms.put]
def hU (s:Ms) (w:Wd) (n:List Nat) (a:List Mn):Ms:={ s.put [s.nodes.length] ({ bS w with body:=n,has:=true } :: a) with stack:=s.stack ++ [⟨s.nodes.length,w.kind,true⟩] }
theorem uZ {s:Ms} {w l:Wd} (hk:w.kind=2) (hl:l.kind=3) (n:List Nat) (a:List Mn):b9 ((cl s w).put n a) l=.inl (hU s w n a):=by
 rw [jS]
 unfold b9
 rw [if_pos (by simp [hl])]
 simp only [List.getLast?_append,List.getLast?_singleton,Option.some_or]
 rw [if_neg (by simp [hk])]
 congr 1
 unfold hU Ms.put
 have:∀ X:List Mn,(((s.add [s.nodes.length]).nodes ++ ({ bS w with body:=n } :: a)).modify s.nodes.length fun x=>{ x with has:=true })=(s.add [s.nodes.length]).nodes ++ ({ bS w with body:=n,has:=true } :: a):=fun _=>by
  rw [po (by rw [gp])]
 simp only [this []]
 simp
theorem th {s:Ms} (h:s.wf) (w:Wd) (n:List Nat) (a:List Mn):(hU s w n a).wf:=fun o ho=>by
 show o.node < (s.put _ _).nodes.length
 rw [gq]
 rcases List.mem_append.1 ho with ho | ho
 ·have:=h o ho;omega
 ·obtain rfl:=List.mem_singleton.1 ho;simp only [List.length_cons];omega
theorem pw (s:Ms) (w:Wd) (n m:List Nat) (a b:List Mn):(hU s w n a).put m b={ s.put [s.nodes.length] ({ bS w with body:=n,els:=m,has:=true } :: (a ++ b)) with stack:=s.stack ++ [⟨s.nodes.length,w.kind,true⟩] }:=by
 have hl:(hU s w n a).stack.getLast?=some ⟨s.nodes.length,w.kind,true⟩:=by simp [hU]
 unfold Ms.put
 have e:(hU s w n a).add m={ hU s w n a with nodes:=(hU s w n a).nodes.modify s.nodes.length fun x=>{ x with els:=x.els ++ m } }:=by
  unfold Ms.add
  rw [hl]
  rfl
 rw [e]
 have e2:(hU s w n a).nodes=(s.add [s.nodes.length]).nodes ++ ({ bS w with body:=n,has:=true } :: a):=rfl
 rw [e2,po (by rw [gp])]
 simp [hU,bS,Ms.put]
theorem step_end {s:Ms} {e:Wd} (he:e.kind=5) {S:List zK} {o:zK} (hs:s.stack=S ++ [o]):b9 s e=.inl { s with stack:=S }:=by
 unfold b9
 rw [if_neg (by simp [he]),if_pos (by simp [he]),hs]
 simp
theorem fh:∀ (t:Ts) (s:Ms) (rest:List Wd),t.ok→s.stack.length+t.depth≤16→s.wf→eC (t.flat ++ rest) s=eC rest (s.put (t.aH s.nodes.length) (jQ s.nodes.length t))
 | .nil,s,rest,ho,hd,hw=>by
  show eC rest s=eC rest (s.put [] [])
  rw [Lv]
 | .leaf w k,s,rest,ho,hd,hw=>by
  show eC (w :: (k.flat ++ rest)) s=_
  rw [eC,EB hw ho.1]
  simp only
  rw [fh k _ rest ho.2 (by rw [dW];exact hd) (tg hw _ _),xp hw,gq]
  rfl
 | .lL w b e k,s,rest,ho,hd,hw=>by
  obtain ⟨hk,ke,hb,oK⟩:=ho
  simp only [Ts.depth] at hd
  show eC (w :: ((b.flat ++ e :: k.flat) ++ rest)) s=_
  rw [eC,pq hw hk (by omega)]
  simp only
  have e1:(b.flat ++ e :: k.flat) ++ rest=b.flat ++ (e :: (k.flat ++ rest)):=by simp
  have Xm:(cl s w).nodes.length=s.nodes.length+1:=gq s _ _
  rw [e1,fh b (cl s w) _ hb (by show (s.stack ++ [_]).length+b.depth≤16;rw [List.length_append];simp only [List.length_cons,List.length_nil];omega) (lO hw w),Xm,jS,eC]
  rw [step_end ke rfl]
  simp only
  have e2:∀ (n:List Nat) (a:List Mn),(⟨(s.put n a).nodes,(s.put n a).top,s.stack⟩:Ms)=s.put n a:=fun n a=>by rw [← dW s n a]
  rw [e2,fh k _ rest oK (by rw [dW];omega) (tg hw _ _),xp hw,gq,List.length_cons,eD]
  rw [show s.nodes.length+(b.size+1)=s.nodes.length+1+b.size by omega]
  rfl
 | .alt w b l c e k,s,rest,ho,hd,hw=>by
  obtain ⟨hk,kl,ke,hb,hc,oK⟩:=ho
  simp only [Ts.depth] at hd
  show eC (w :: ((b.flat ++ l :: (c.flat ++ e :: k.flat)) ++ rest)) s=_
  rw [eC,pq hw (.inl hk) (by omega)]
  simp only
  have e1:(b.flat ++ l :: (c.flat ++ e :: k.flat)) ++ rest=b.flat ++ (l :: (c.flat ++ (e :: (k.flat ++ rest)))):=by simp
  have Xm:(cl s w).nodes.length=s.nodes.length+1:=gq s _ _
  rw [e1,fh b (cl s w) _ hb (by show (s.stack ++ [_]).length+b.depth≤16;rw [List.length_append];simp only [List.length_cons,List.length_nil];omega) (lO hw w),Xm,eC,uZ hk kl]
  simp only
  have Aq:(hU s w (b.aH (s.nodes.length+1)) (jQ (s.nodes.length+1) b)).nodes.length=s.nodes.length+1+b.size:=by
   show (s.put _ _).nodes.length=_
   rw [gq,List.length_cons,eD];omega
  rw [fh c _ _ hc (by show (s.stack ++ [_]).length+c.depth≤16;rw [List.length_append];simp only [List.length_cons,List.length_nil];omega) (th hw w _ _),Aq,pw,eC]
  rw [step_end ke rfl]
  simp only
  have e2:∀ (n:List Nat) (a:List Mn),(⟨(s.put n a).nodes,(s.put n a).top,s.stack⟩:Ms)=s.put n a:=fun n a=>by rw [← dW s n a]
  rw [e2,fh k _ rest oK (by rw [dW];omega) (tg hw _ _),xp hw,gq,List.length_cons,List.length_append,eD,eD]
  rw [show s.nodes.length+(b.size+c.size+1)=s.nodes.length+1+b.size+c.size by omega]
  simp only [Ts.aH,jQ,List.singleton_append,List.cons_append,List.append_assoc,List.nil_append]
theorem tj (s:Ms) (w:Wd):(cl s w).stack.length=s.stack.length+1:=by simp [cl]
theorem u' (s:Ms) (w:Wd) (n:List Nat) (a:List Mn):(hU s w n a).stack.length=s.stack.length+1:=by simp [hU]
theorem xt (s:Ms) (w:Wd) (n:List Nat) (a:List Mn):eC [] ((cl s w).put n a)=.bad w.at' 4:=by
 rw [jS,eC]
 simp only [List.getLast?_append,List.getLast?_singleton,Option.some_or]
 have:((s.put [s.nodes.length] ({ bS w with body:=n } :: a)).nodes)[s.nodes.length]?=some { bS w with body:=n }:=by
  show ((s.add _).nodes ++ _ :: a)[s.nodes.length]?=_
  rw [List.getElem?_append_right (by rw [gp];exact Nat.le_refl _),gp]
  simp
 rw [this];rfl
theorem zv (s:Ms) (w:Wd) (n m:List Nat) (a b:List Mn):eC [] ((hU s w n a).put m b)=.bad w.at' 4:=by
 rw [pw,eC]
 simp only [List.getLast?_append,List.getLast?_singleton,Option.some_or]
 have:((s.put [s.nodes.length] ({ bS w with body:=n,els:=m,has:=true } :: (a ++ b))).nodes)[s.nodes.length]?=some { bS w with body:=n,els:=m,has:=true }:=by
  show ((s.add _).nodes ++ _ :: (a ++ b))[s.nodes.length]?=_
  rw [List.getElem?_append_right (by rw [gp];exact Nat.le_refl _),gp]
  simp
 rw [this];rfl
theorem zw (ws:List Wd):∀ n,
  (∀ d p out a e q,d≤16→cQ ws n d p out=some (.bad a e,q)→∀ s:Ms,s.wf→s.stack.length=d→eC (ws.drop p.at') s=.bad a e) ∧
  (∀ d w p a e q,d≤16→w.kind≠3→w.kind≠5→ff ws n d w p=some (.bad a e,q)→∀ s:Ms,s.wf→s.stack.length=d→eC (w :: ws.drop p.at') s=.bad a e) ∧
  (∀ d i w p a e q,d < 16→(w.kind=2∨w.kind=4)→fg ws n d i w p=some (.bad a e,q)→∀ s:Ms,s.wf→s.stack.length=d→eC (ws.drop p.at') (cl s w)=.bad a e)
 | 0=>⟨fun d p out a e q _ h=>by simp [cQ] at h,fun d w p a e q _ _ _ h=>by simp [ff] at h,fun d i w p a e q _ _ h=>by simp [fg] at h⟩
 | n+1=>by
  obtain ⟨hL,hN,hB⟩:=zw ws n
  obtain ⟨sL,sN,sB⟩:=lN ws n
  refine ⟨fun d p out a e q hd h s hs hl=>?_,fun d w p a e q hd k3 k5 h s hs hl=>?_,fun d i w p a e q hd hk h s hs hl=>?_⟩
  ·unfold cQ at h
   split at h
   ·cases h
   ·rename_i w hw
    split at h
    ·cases h
    ·rename_i hk
     simp only [Bool.or_eq_true,beq_iff_eq,not_or] at hk
     rw [iL hw]
     split at h
     ·cases h
     ·rename_i e1
      cases h
      exact hN _ _ _ _ _ _ hd hk.1 hk.2 e1 s hs hl
     ·rename_i i q1 e1
      obtain ⟨t,a1,a2,a3,_,_⟩:=sN _ _ _ _ _ hd hk.1 hk.2 e1
      simp only at a3
      rw [a3,fh t s _ a1 (by omega) hs]
      exact hL _ _ _ _ _ _ hd h _ (tg hs _ _) (by rw [dW];exact hl)
  ·unfold ff at h
   simp only at h
   split at h
   ·rename_i hk
    simp only [Bool.or_eq_true,beq_iff_eq] at hk
    split at h
    ·rename_i Qu
     cases h
     rw [eC]
     unfold b9
     rw [if_neg (by simp [k3]),if_neg (by simp [k5]),if_pos (by simp [hl,Qu];exact hk)]
    ·rename_i Qu
     split at h
     ·cases h
     ·rename_i e1
      cases h
      rw [eC,pq hs hk (by omega)]
      exact hB _ _ _ _ _ _ _ (by omega) hk e1 s hs hl
     ·cases h
   ·cases h
  ·unfold fg at h
   split at h
   ·cases h
   ·rename_i e1
    cases h
    exact hL _ _ _ _ _ _ (by omega) e1 _ (lO hs w) (by rw [tj,hl])
   ·rename_i body q1 e1
    obtain ⟨b,b1,b2,b3,b4,b5,b6⟩:=sL _ _ _ _ _ (by omega) e1
    rw [b3,fh b _ _ b1 (by rw [tj];omega) (lO hs w)]
    simp only at h
    split at h
    ·rename_i hn
     cases h
     rw [List.drop_eq_nil_of_le (List.getElem?_eq_none_iff.1 hn),xt]
    ·rename_i v hv
     have oQ:=b6 v hv
     rw [iL hv]
     split at h
     ·rename_i qF
      have qF:v.kind=3:=by simpa using qF
      split at h
      ·rename_i xQ
       cases h
       have xQ:w.kind=4:=by simpa using xQ
       rw [jS,eC]
       unfold b9
       rw [if_pos (by simp [qF])]
       simp only [List.getLast?_append,List.getLast?_singleton,Option.some_or]
       rw [if_pos (by simp [xQ])]
      ·rename_i xQ
       have xQ:w.kind≠4:=by simpa using xQ
       have DK:w.kind=2:=hk.resolve_right xQ
       rw [eC,uZ DK qF]
       simp only
       split at h
       ·cases h
       ·rename_i e2
        cases h
        exact hL _ _ _ _ _ _ (by omega) e2 _ (th hs w _ _) (by rw [u',hl])
       ·rename_i els r1 e2
        obtain ⟨c,c1,c2,c3,c4,c5,c6⟩:=sL _ _ _ _ _ (by omega) e2
        simp only at c3
        rw [c3,fh c _ _ c1 (by rw [u'];omega) (th hs w _ _)]
        split at h
        ·rename_i hn
         cases h
         rw [List.drop_eq_nil_of_le (List.getElem?_eq_none_iff.1 hn),zv]
        ·rename_i u hu
         rw [iL hu]
         split at h
         ·rename_i ER
          cases h
          have ER:u.kind=3:=by simpa using ER
          rw [pw,eC]
          unfold b9
          rw [if_pos (by simp [ER])]
          simp only [List.getLast?_append,List.getLast?_singleton,Option.some_or]
          rw [if_pos (by simp)]
         ·cases h
     ·cases h
theorem Um:(⟨[],[],[]⟩:Ms).wf:=fun o ho=>by cases ho
def iM (ws:List Wd):Mr:=eC ws ⟨[],[],[]⟩
theorem HV {ts:Ts} (h:ts.ok) (hd:ts.depth≤16):iM ts.flat=.ok (jQ 0 ts) (ts.aH 0):=by
 unfold iM
 have:=fh ts ⟨[],[],[]⟩ [] h (by simpa using hd) Um
 rw [List.append_nil] at this
 rw [this,eC]
 simp [Ms.put,Ms.add]
theorem EC {ws:List Wd} {a e:Nat} (h:gY ws=.bad a e):iM ws=.bad a e:=by
 obtain ⟨r,q,e1,h1,h2,h3⟩:=(jn ws (3 * ws.length+1)).1 0 ⟨0,[]⟩ [] (Nat.zero_le _) (by simp)
 unfold gY at h
 rw [e1] at h
 cases r with
 | bad a' e' =>
  simp only [qi] at h
  cases h
  have:=(zw ws _).1 _ _ _ _ _ _ (by omega) e1 ⟨[],[],[]⟩ Um rfl
  rwa [List.drop_zero] at this
 | ok top =>
  simp only [qi] at h
  split at h
  ·rename_i v hv
   cases h
   obtain ⟨ts,g1,g2,g3,g4,g5,g6⟩:=(lN ws _).1 _ _ _ _ _ (by omega) e1
   simp only [List.drop_zero] at g3
   unfold iM
   rw [g3,fh ts _ _ g1 (by simpa using g2) Um,iL hv,eC]
   have cq:((⟨[],[],[]⟩:Ms).put (ts.aH (⟨[],[],[]⟩:Ms).nodes.length) (jQ (⟨[],[],[]⟩:Ms).nodes.length ts)).stack=[]:=dW _ _ _
   unfold b9
   rw [cq]
   rcases g6 v hv with e | e <;> rw [e] <;> rfl
  ·cases h
end R3
namespace R3
open Go Go.Proofs Go.RowKit Go.Shelf Sx
inductive Tg where
 | nodes | top | stack | body (i:Nat) | els (i:Nat)
def Row (W:World) (base:Nat) (tag:Nat→Tg) (T:Tg) (e:TypeId) (k:Nat) (v:Value) (n:Nat) (xs:List Value):Prop:=W.ownsRow base e k v n xs∧∀ g,v.ownBlock=some g→tag g=T
def xu (tag:Nat→Tg) (g:Nat) (T:Tg) (b:Nat):Tg:=if b=g then T else tag b
section
variable {W W':World} {base:Nat} {tag gr:Nat→Tg} {T:Tg} {e:TypeId} {k:Nat} {v:Value} {n:Nat} {xs:List Value}
theorem Row.kept (h:Row W base tag T e k v n xs) {row:Option Nat} (hg:W.grownBy W' row) (hr:∀ g,row=some g→tag g≠T) (ht:∀ b,b < W.heap.size→gr b=tag b):Row W' base gr T e k v n xs:=by
 refine ⟨h.1.kept hg ?_,fun g xK=>?_⟩
 ·cases hv:v.ownBlock with
  | none=>exact .inl rfl
  | some g=>exact .inr fun e=>hr g e.symm (h.2 g hv)
 ·rw [ht g (h.1.lt g xK).2];exact h.2 g xK
theorem Row.below (h:Row W base tag T e k v n xs) {a:Addr} (ha:a.block < base) (u:Value):Row (W.setCell a u) base tag T e k v n xs:=⟨ownsRow_setCell_below h.1 ha u,h.2⟩
theorem Row.nil (W:World) (base:Nat) (tag:Nat→Tg) (T:Tg) (e:TypeId) (k:Nat):Row W base tag T e k (.slice none 0 0) 0 []:=⟨World.ownsRow_nil _ _ _ _,fun g h=>by cases h⟩
theorem Row.tags (h:Row W base tag T e k v n xs) {g:Nat} (qB:v.ownBlock=some g∨g=W.heap.size):∀ b,b < W.heap.size→xu tag g T b=tag b:=by
 intro b hb
 unfold xu
 split
 ·rename_i XT
  subst XT
  rcases qB with h1 | h1
  ·exact (h.2 b h1).symm
  ·omega
 ·rfl
theorem Row.grown (h:Row W base tag T e k v n xs) {g cap n':Nat} {ZC:List Value} (hown:W'.ownsRow base e k (.slice (some ⟨g,0,none⟩) n' cap) n' ZC):Row W' base (xu tag g T) T e k (.slice (some ⟨g,0,none⟩) n' cap) n' ZC :=
 ⟨hown,fun b hb=>by
  have:g=b:=by simpa [Value.ownBlock] using hb
  subst this;unfold xu;rw [if_pos rfl]⟩
theorem Row.tl (h:Row W base tag T e k v n xs) {T':Tg} (aY:T≠T'):∀ g,v.ownBlock=some g→tag g≠T':=fun g hg=>by rw [h.2 g hg];exact aY
end
def Bj (n:Nat):Value:=.int .i64 (n:Int)
def ints (l:List Nat):List Value:=l.map Bj
structure Vn where
 kind:UInt8
 at':Nat
 text:ByteArray
 root:Bool
 nm:Value
 bs:Value
 es:Value
 has:Bool
def Vn.cells (x:Vn):List Value:=[.int .u8 (x.kind.toNat:Int), .int .i64 (x.at':Int), .string x.text, .bool x.root,x.nm,x.bs,x.es, .bool x.has, .int .u8 0]
def dX (o:zK):List Value:=[.int .i64 (o.node:Int), .int .i64 (o.kind.toNat:Int), .bool o.els]
structure Lk (w:World) (F:Nat→Prop) (x:Vn) (y:Mn):Prop where
 kind:x.kind=y.kind
 at':x.at'=y.at'
 text:x.text.data.toList=y.text
 root:x.root=y.root
 has:x.has=y.has
 nm:Rel w F y.names x.nm
 one:x.nm.oneCell'=true
 sl:∃ (a:Option Addr) (m c:Nat),x.nm=.slice a m c
structure PM (w:World) (F:Nat→Prop) (b7:Nat) (s:Ms) (X:List Vn) (tag:Nat→Tg) (vn vt vs:Value) (W:World):Prop where
 ext:Ext w W
 zL:w.heap.size≤b7
 c7:W.heap[b7]?=some (.cells #[vn,vt] 26)
 nd:Row W (b7+1) tag .nodes 58 9 vn X.length (X.flatMap Vn.cells)
 tp:Row W (b7+1) tag .top 3 1 vt s.top.length (ints s.top)
 sk:Row W (b7+1) tag .stack 93 3 vs s.stack.length (s.stack.flatMap dX)
 len:X.length=s.nodes.length
 lk:∀ (i:Nat) (x:Vn) (y:Mn),X[i]?=some x→s.nodes[i]?=some y→Lk w F x y
 bd:∀ (i:Nat) (x:Vn) (y:Mn),X[i]?=some x→s.nodes[i]?=some y→Row W (b7+1) tag (.body i) 3 1 x.bs y.body.length (ints y.body)∧Row W (b7+1) tag (.els i) 3 1 x.es y.els.length (ints y.els)
theorem Db {w W:World} (h:Ext w W) {b:Nat} (hb:w.heap.size≤b) (i:Nat) (v:Value):Ext w (W.setCell ⟨b,i,none⟩ v) :=
 ⟨h.os,h.tape,h.output,by rw [bz];exact h.size,fun k hk=>(an (show k≠b by omega)).trans (h.block k hk)⟩
theorem gF {w W W':World} {row:Option Nat} (h:Ext w W) (hg:W.grownBy W' row) (hr:∀ g,row=some g→w.heap.size≤g):Ext w W' :=
 ⟨hg.os.trans h.os,hg.tape.trans h.tape,hg.output.trans h.output,Nat.le_trans h.size hg.size,fun b hb=>(hg.block b (Nat.lt_of_lt_of_le hb h.size) (fun e=>by have:=hr b e.symm;omega)).trans (h.block b hb)⟩
theorem jr {W W':World} (h:Ext W W') (row:Option Nat):W.grownBy W' row:=⟨h.os,h.tape,h.output,h.size,fun b hb _=>h.block b hb⟩
section
variable {w W W1:World} {F:Nat→Prop} {b7:Nat} {s:Ms} {X:List Vn} {tag:Nat→Tg} {vn vt vs:Value}
theorem PM.uk (h:PM w F b7 s X tag vn vt vs W):b7 < W.heap.size:=(Array.getElem?_eq_some_iff.1 h.c7).1
theorem PM.ext' (h:PM w F b7 s X tag vn vt vs W) (hx:Ext W W1):PM w F b7 s X tag vn vt vs W1 where
 ext:=h.ext.trans hx
 zL:=h.zL
 c7:=(hx.block _ h.uk).trans h.c7
 nd:=h.nd.kept (jr hx none) (fun g e=>by cases e) (fun _ _=>rfl)
 tp:=h.tp.kept (jr hx none) (fun g e=>by cases e) (fun _ _=>rfl)
 sk:=h.sk.kept (jr hx none) (fun g e=>by cases e) (fun _ _=>rfl)
 len:=h.len
 lk:=h.lk
 bd:=fun i x y lS hy=>⟨(h.bd i x y lS hy).1.kept (jr hx none) (fun g e=>by cases e) (fun _ _=>rfl),(h.bd i x y lS hy).2.kept (jr hx none) (fun g e=>by cases e) (fun _ _=>rfl)⟩
theorem cM {base:Nat} {T:Tg} {e:TypeId} {k:Nat} {v:Value} {n:Nat} {xs:List Value} (h:Row W base tag T e k v n xs) {g:Nat} (hg:v.ownBlock=some g):base≤g:=(h.1.lt g hg).1
theorem PM.addTop (h:PM w F b7 s X tag vn vt vs W) {n g cap:Nat} (hg:W.grownBy W1 vt.ownBlock) (hown:W1.ownsRow (b7+1) 3 1 (.slice (some ⟨g,0,none⟩) (s.top.length+1) cap) (s.top.length+1) (ints s.top ++ [Bj n])) (qB:vt.ownBlock=some g∨g=W.heap.size) :
  ∃ gr,PM w F b7 { s with top:=s.top ++ [n] } X gr vn (.slice (some ⟨g,0,none⟩) (s.top.length+1) cap) vs (W1.setCell ⟨b7,1,none⟩ (.slice (some ⟨g,0,none⟩) (s.top.length+1) cap)):=by
 have ht:=h.tp.tags qB
 have h7:=h.zL
 have cI:∀ g,vt.ownBlock=some g→w.heap.size≤g:=fun g e=>by have:=cM h.tp e;omega
 have hr:∀ {T:Tg},Tg.top≠T→∀ g,vt.ownBlock=some g→tag g≠T:=fun aY=>h.tp.tl aY
 have Pp:W1.heap[b7]?=some (.cells #[vn,vt] 26):=(hg.block b7 h.uk (fun e=>by have:=cM h.tp e.symm;omega)).trans h.c7
 refine ⟨xu tag g .top,?_,h.zL,?_,?_,?_,?_,h.len,h.lk,fun i x y hx hy=>?_⟩
 ·exact Db (gF h.ext hg cI) h.zL _ _
 ·exact mZ _ Pp
 ·exact (h.nd.kept hg (hr (by simp)) ht).below (by show b7 < b7+1;omega) _
 ·refine Row.below ?_ (by show b7 < b7+1;omega) _
  have:=h.tp.grown hown
  simpa [ints,Bj] using this
 ·exact (h.sk.kept hg (hr (by simp)) ht).below (by show b7 < b7+1;omega) _
 ·exact ⟨((h.bd i x y hx hy).1.kept hg (hr (by simp)) ht).below (by show b7 < b7+1;omega) _,((h.bd i x y hx hy).2.kept hg (hr (by simp)) ht).below (by show b7 < b7+1;omega) _⟩
theorem pz:∀ (X:List Vn) (i j:Nat) (x:Vn),X[i]?=some x→j < 9→(X.flatMap Vn.cells)[i * 9+j]?=x.cells[j]?
 | [],i,j,x,h,_=>by simp at h
 | y :: X,0,j,x,h,hj=>by
  simp at h;subst h
  rw [List.flatMap_cons,List.getElem?_append_left (by show 0 * 9+j < 9;omega),Nat.zero_mul,Nat.zero_add]
 | y :: X,i+1,j,x,h,hj=>by
  have h:X[i]?=some x:=by simpa using h
  rw [List.flatMap_cons,List.getElem?_append_right (by show 9≤(i+1) * 9+j;omega),← pz X i j x h hj]
  congr 1
  show (i+1) * 9+j - 9=_
  omega
theorem vc:∀ (X:List Vn) (i j:Nat) (x x':Vn) (v:Value),X[i]?=some x→j < 9→x'.cells=x.cells.set j v→(X.set i x').flatMap Vn.cells=(X.flatMap Vn.cells).set (i * 9+j) v
 | [],i,j,x,x',v,h,_,_=>by simp at h
 | y :: X,0,j,x,x',v,h,hj,he=>by
  simp at h;subst h
  simp only [List.set_cons_zero,List.flatMap_cons,he,Nat.zero_mul,Nat.zero_add]
  rw [List.set_append_left _ _ (by show j < 9;exact hj)]
 | y :: X,i+1,j,x,x',v,h,hj,he=>by
  have h:X[i]?=some x:=by simpa using h
  simp only [List.set_cons_succ,List.flatMap_cons]
  rw [List.set_append_right _ _ (by show 9≤(i+1) * 9+j;omega),vc X i j x x' v h hj he]
  congr 2
  show i * 9+j=(i+1) * 9+j - 9
  omega
theorem tn {l:List Mn} {i j:Nat} {f:Mn→Mn} {y:Mn} (h:(l.modify i f)[j]?=some y):∃ z,l[j]?=some z∧y=if i=j then f z else z:=by
 rw [List.getElem?_modify] at h
 obtain ⟨z,hz,rfl⟩:=Option.map_eq_some_iff.1 h
 exact ⟨z,hz,rfl⟩
theorem PM.setNode (h:PM w F b7 s X tag vn vt vs W) {i:Nat} {T0:Tg} (Ta:T0=.body i∨T0=.els i) {row:Option Nat} (hg:W.grownBy W1 row) (tT:∀ g,row=some g→tag g=T0∧b7+1≤g) {gr:Nat→Tg} (ht:∀ b,b < W.heap.size→gr b=tag b)
  {gn cn:Nat} (I0:vn=.slice (some ⟨gn,0,none⟩) X.length cn) {j:Nat} {x x':Vn} {v:Value} (hx:X[i]?=some x) (hj:j < 9) (he:x'.cells=x.cells.set j v) {f:Mn→Mn}
  (hl:∀ y,s.nodes[i]?=some y→Lk w F x' (f y)) (hb:∀ y,s.nodes[i]?=some y→Row W1 (b7+1) gr (.body i) 3 1 x'.bs (f y).body.length (ints (f y).body)∧Row W1 (b7+1) gr (.els i) 3 1 x'.es (f y).els.length (ints (f y).els)) :
  PM w F b7 { s with nodes:=s.nodes.modify i f } (X.set i x') gr vn vt vs (W1.setCell ⟨gn,i * 9+j,none⟩ v):=by
 subst I0
 have Tb:∀ {T:Tg},T0≠T→∀ g,row=some g→tag g≠T:=fun aY g e=>by rw [(tT g e).1];exact aY
 have n1:T0≠.nodes:=by rcases Ta with e | e <;> rw [e] <;> simp
 have n2:T0≠.top:=by rcases Ta with e | e <;> rw [e] <;> simp
 have n3:T0≠.stack:=by rcases Ta with e | e <;> rw [e] <;> simp
 have n4:∀ q,i≠q→T0≠.body q:=fun q hq=>by rcases Ta with e | e <;> rw [e] <;> simp [hq]
 have n5:∀ q,i≠q→T0≠.els q:=fun q hq=>by rcases Ta with e | e <;> rw [e] <;> simp [hq]
 have Un:=h.nd.kept hg (Tb n1) ht
 have Pq:gr gn=.nodes:=Un.2 gn rfl
 have cI:b7+1≤gn:=cM Un rfl
 obtain ⟨bC,j5⟩:=Un.1.stored (i * 9+j) v
 have h7:=h.zL
 have hr:∀ {T:Tg},Tg.nodes≠T→∀ g,some gn=some g→gr g≠T:=fun aY g e=>by cases e;rw [Pq];exact aY
 have Pp:W1.heap[b7]?=some (.cells #[.slice (some ⟨gn,0,none⟩) X.length cn,vt] 26):=(hg.block b7 h.uk (fun e=>by have:=(tT b7 e.symm).2;omega)).trans h.c7
 have xg:b7 < W1.heap.size:=Nat.lt_of_lt_of_le h.uk hg.size
 refine ⟨gF (gF h.ext hg (fun g e=>by have:=(tT g e).2;omega)) j5 (fun g e=>by cases e;omega),h.zL,(j5.block b7 xg (by simp;omega)).trans Pp,?_,(h.tp.kept hg (Tb n2) ht).kept j5 (hr (by simp)) (fun _ _=>rfl),(h.sk.kept hg (Tb n3) ht).kept j5 (hr (by simp)) (fun _ _=>rfl),by rw [List.length_set,List.length_modify];exact h.len,?_,?_⟩
 ·rw [List.length_set,vc X i j x x' v hx hj he]
  exact ⟨bC,Un.2⟩
 ·intro q xq yq Lw Xn
  obtain ⟨z,hz,rfl⟩:=tn Xn
  by_cases Lx:i=q
  ·subst Lx
   have aM:=(List.getElem?_eq_some_iff.1 hx).1
   rw [List.getElem?_set_self aM] at Lw
   cases Lw
   rw [if_pos rfl]
   exact hl z hz
  ·rw [List.getElem?_set_ne Lx] at Lw
   rw [if_neg Lx]
   exact h.lk q xq z Lw hz
 ·intro q xq yq Lw Xn
  obtain ⟨z,hz,rfl⟩:=tn Xn
  by_cases Lx:i=q
  ·subst Lx
   have aM:=(List.getElem?_eq_some_iff.1 hx).1
   rw [List.getElem?_set_self aM] at Lw
   cases Lw
   rw [if_pos rfl]
   obtain ⟨q1,q2⟩:=hb z hz
   exact ⟨q1.kept j5 (hr (by simp)) (fun _ _=>rfl),q2.kept j5 (hr (by simp)) (fun _ _=>rfl)⟩
  ·rw [List.getElem?_set_ne Lx] at Lw
   rw [if_neg Lx]
   obtain ⟨q1,q2⟩:=h.bd q xq z Lw hz
   exact ⟨(q1.kept hg (Tb (n4 q Lx)) ht).kept j5 (hr (by simp)) (fun _ _=>rfl),(q2.kept hg (Tb (n5 q Lx)) ht).kept j5 (hr (by simp)) (fun _ _=>rfl)⟩
theorem vd (l:List Nat) (n:Nat):ints (l ++ [n])=ints l ++ [Bj n]:=by simp [ints]
theorem PM.Ly (h:PM w F b7 s X tag vn vt vs W) {gn cn i n g cap:Nat} (I0:vn=.slice (some ⟨gn,0,none⟩) X.length cn) {x:Vn} {y:Mn} (hx:X[i]?=some x) (hy:s.nodes[i]?=some y) (hg:W.grownBy W1 x.bs.ownBlock)
  (hown:W1.ownsRow (b7+1) 3 1 (.slice (some ⟨g,0,none⟩) (y.body.length+1) cap) (y.body.length+1) (ints y.body ++ [Bj n])) (qB:x.bs.ownBlock=some g∨g=W.heap.size) :
  ∃ X' gr,PM w F b7 { s with nodes:=s.nodes.modify i fun y=>{ y with body:=y.body ++ [n] } } X' gr vn vt vs (W1.setCell ⟨gn,i * 9+5,none⟩ (.slice (some ⟨g,0,none⟩) (y.body.length+1) cap)):=by
 obtain ⟨b1,b2⟩:=h.bd i x y hx hy
 refine ⟨X.set i { x with bs:=.slice (some ⟨g,0,none⟩) (y.body.length+1) cap },xu tag g (.body i),h.setNode (T0:=.body i) (.inl rfl) hg (fun q e=>⟨b1.2 q e,cM b1 e⟩) (b1.tags qB) I0 hx (by decide) rfl (fun z hz=>?_) (fun z hz=>?_)⟩
 ·have:=h.lk i x z hx hz
  exact ⟨this.kind,this.at',this.text,this.root,this.has,this.nm,this.one,this.sl⟩
 ·rw [hy] at hz;cases hz
  refine ⟨?_,b2.kept hg (b1.tl (by simp)) (b1.tags qB)⟩
  have:=b1.grown hown
  simp only [vd,List.length_append,List.length_cons,List.length_nil]
  exact this
theorem PM.Pt (h:PM w F b7 s X tag vn vt vs W) {gn cn i n g cap:Nat} (I0:vn=.slice (some ⟨gn,0,none⟩) X.length cn) {x:Vn} {y:Mn} (hx:X[i]?=some x) (hy:s.nodes[i]?=some y) (hg:W.grownBy W1 x.es.ownBlock)
  (hown:W1.ownsRow (b7+1) 3 1 (.slice (some ⟨g,0,none⟩) (y.els.length+1) cap) (y.els.length+1) (ints y.els ++ [Bj n])) (qB:x.es.ownBlock=some g∨g=W.heap.size) :
  ∃ X' gr,PM w F b7 { s with nodes:=s.nodes.modify i fun y=>{ y with els:=y.els ++ [n] } } X' gr vn vt vs (W1.setCell ⟨gn,i * 9+6,none⟩ (.slice (some ⟨g,0,none⟩) (y.els.length+1) cap)):=by
 obtain ⟨b1,b2⟩:=h.bd i x y hx hy
 refine ⟨X.set i { x with es:=.slice (some ⟨g,0,none⟩) (y.els.length+1) cap },xu tag g (.els i),h.setNode (T0:=.els i) (.inr rfl) hg (fun q e=>⟨b2.2 q e,cM b2 e⟩) (b2.tags qB) I0 hx (by decide) rfl (fun z hz=>?_) (fun z hz=>?_)⟩
 ·have:=h.lk i x z hx hz
  exact ⟨this.kind,this.at',this.text,this.root,this.has,this.nm,this.one,this.sl⟩
 ·rw [hy] at hz;cases hz
  refine ⟨b1.kept hg (b2.tl (by simp)) (b2.tags qB),?_⟩
  have:=b2.grown hown
  simp only [vd,List.length_append,List.length_cons,List.length_nil]
  exact this
theorem Bk (W:World):W.grownBy W none:=⟨rfl,rfl,rfl,Nat.le_refl _,fun _ _ _=>rfl⟩
theorem PM.Pu (h:PM w F b7 s X tag vn vt vs W) {gn cn i:Nat} (I0:vn=.slice (some ⟨gn,0,none⟩) X.length cn) {x:Vn} (hx:X[i]?=some x) :
  ∃ X',PM w F b7 { s with nodes:=s.nodes.modify i fun y=>{ y with has:=true } } X' tag vn vt vs (W.setCell ⟨gn,i * 9+7,none⟩ (.bool true)):=by
 refine ⟨X.set i { x with has:=true },h.setNode (T0:=.body i) (.inl rfl) (Bk W) (fun q e=>by cases e) (fun _ _=>rfl) I0 hx (by decide) rfl (fun z hz=>?_) (fun z hz=>h.bd i x z hx hz)⟩
 have:=h.lk i x z hx hz
 exact ⟨this.kind,this.at',this.text,this.root,rfl,this.nm,this.one,this.sl⟩
theorem PM.addNode (h:PM w F b7 s X tag vn vt vs W) {g cap:Nat} {x:Vn} {y:Mn} (hg:W.grownBy W1 vn.ownBlock) (hown:W1.ownsRow (b7+1) 58 9 (.slice (some ⟨g,0,none⟩) (X.length+1) cap) (X.length+1) (X.flatMap Vn.cells ++ x.cells)) (qB:vn.ownBlock=some g∨g=W.heap.size)
  (hl:Lk w F x y) (hb:x.bs=.slice none 0 0) (he:x.es=.slice none 0 0) (yb:y.body=[]) (ye:y.els=[]) :
  ∃ gr,PM w F b7 { s with nodes:=s.nodes ++ [y] } (X ++ [x]) gr (.slice (some ⟨g,0,none⟩) (X.length+1) cap) vt vs (W1.setCell ⟨b7,0,none⟩ (.slice (some ⟨g,0,none⟩) (X.length+1) cap)):=by
 have ht:=h.nd.tags qB
 have h7:=h.zL
 have cI:∀ g,vn.ownBlock=some g→w.heap.size≤g:=fun g e=>by have:=cM h.nd e;omega
 have hr:∀ {T:Tg},Tg.nodes≠T→∀ g,vn.ownBlock=some g→tag g≠T:=fun aY=>h.nd.tl aY
 have Pp:W1.heap[b7]?=some (.cells #[vn,vt] 26):=(hg.block b7 h.uk (fun e=>by have:=cM h.nd e.symm;omega)).trans h.c7
 refine ⟨xu tag g .nodes,Db (gF h.ext hg cI) h.zL _ _,h.zL,?_,?_,(h.tp.kept hg (hr (by simp)) ht).below (by show b7 < b7+1;omega) _,(h.sk.kept hg (hr (by simp)) ht).below (by show b7 < b7+1;omega) _,by rw [List.length_append,List.length_append,h.len];rfl,fun i x' y' hx hy=>?_,fun i x' y' hx hy=>?_⟩
 ·obtain ⟨aM,hk⟩:=Array.getElem?_eq_some_iff.1 Pp
  show (W1.heap.modify b7 _)[b7]?=_
  rw [Array.getElem?_eq_getElem (by rw [Array.size_modify];exact aM),Array.getElem_modify_self,hk]
  rfl
 ·refine Row.below ?_ (by show b7 < b7+1;omega) _
  have:=h.nd.grown hown
  rw [List.length_append,List.flatMap_append]
  simpa using this
 ·by_cases hi:i < X.length
  ·rw [List.getElem?_append_left hi] at hx
   rw [List.getElem?_append_left (by rw [← h.len];exact hi)] at hy
   exact h.lk i x' y' hx hy
  ·rw [List.getElem?_append_right (by omega)] at hx
   rw [List.getElem?_append_right (by rw [← h.len];omega),← h.len] at hy
   generalize i - X.length=k at hx hy
   cases k with
   | zero=>simp at hx hy;subst hx hy;exact hl
   | succ k=>simp at hx
 ·by_cases hi:i < X.length
  ·rw [List.getElem?_append_left hi] at hx
   rw [List.getElem?_append_left (by rw [← h.len];exact hi)] at hy
   obtain ⟨q1,q2⟩:=h.bd i x' y' hx hy
   exact ⟨(q1.kept hg (hr (by simp)) ht).below (by show b7 < b7+1;omega) _,(q2.kept hg (hr (by simp)) ht).below (by show b7 < b7+1;omega) _⟩
  ·rw [List.getElem?_append_right (by omega)] at hx
   rw [List.getElem?_append_right (by rw [← h.len];omega),← h.len] at hy
   generalize i - X.length=k at hx hy
   cases k with
   | zero=>simp at hx hy;subst hx hy;rw [hb,he,yb,ye];exact ⟨Row.nil _ _ _ _ _ _,Row.nil _ _ _ _ _ _⟩
   | succ k=>simp at hx
theorem PM.push (h:PM w F b7 s X tag vn vt vs W) {g cap:Nat} {o:zK} (hg:W.grownBy W1 vs.ownBlock) (hown:W1.ownsRow (b7+1) 93 3 (.slice (some ⟨g,0,none⟩) (s.stack.length+1) cap) (s.stack.length+1) (s.stack.flatMap dX ++ dX o)) (qB:vs.ownBlock=some g∨g=W.heap.size) :
  ∃ gr,PM w F b7 { s with stack:=s.stack ++ [o] } X gr vn vt (.slice (some ⟨g,0,none⟩) (s.stack.length+1) cap) W1:=by
 have ht:=h.sk.tags qB
 have h7:=h.zL
 have cI:∀ g,vs.ownBlock=some g→w.heap.size≤g:=fun g e=>by have:=cM h.sk e;omega
 have hr:∀ {T:Tg},Tg.stack≠T→∀ g,vs.ownBlock=some g→tag g≠T:=fun aY=>h.sk.tl aY
 refine ⟨xu tag g .stack,gF h.ext hg cI,h.zL,(hg.block b7 h.uk (fun e=>by have:=cM h.sk e.symm;omega)).trans h.c7,h.nd.kept hg (hr (by simp)) ht,h.tp.kept hg (hr (by simp)) ht,?_,h.len,h.lk,fun i x y hx hy=>?_⟩
 ·have:=h.sk.grown hown
  rw [List.length_append,List.flatMap_append]
  simpa using this
 ·obtain ⟨q1,q2⟩:=h.bd i x y hx hy
  exact ⟨q1.kept hg (hr (by simp)) ht,q2.kept hg (hr (by simp)) ht⟩
theorem gG:∀ S:List zK,(S.flatMap dX).length=S.length * 3
 | []=>rfl
 | x :: S=>by
  have:=gG S
  simp only [List.flatMap_cons,List.length_append,List.length_cons,this]
  show 3+_=_
  omega
theorem PM.pop {S:List zK} {o:zK} {g cap:Nat} {N T:_} (h:PM w F b7 ⟨N,T,S ++ [o]⟩ X tag vn vt (.slice (some ⟨g,0,none⟩) (S.length+1) cap) W):PM w F b7 ⟨N,T,S⟩ X tag vn vt (.slice (some ⟨g,0,none⟩) S.length cap) W:=by
 refine ⟨h.ext,h.zL,h.c7,h.nd,h.tp,⟨?_,fun b hb=>h.sk.2 b hb⟩,h.len,h.lk,h.bd⟩
 have:=h.sk.1
 simp only [List.length_append,List.length_cons,List.length_nil,List.flatMap_append,List.flatMap_cons,List.flatMap_nil,List.append_nil] at this
 exact ownsRow_pop (gG S) this
theorem PM.Pv {S:List zK} {o:zK} {g cap:Nat} {N T:_} (h:PM w F b7 ⟨N,T,S ++ [o]⟩ X tag vn vt (.slice (some ⟨g,0,none⟩) (S.length+1) cap) W):PM w F b7 ⟨N,T,S ++ [{ o with els:=true }]⟩ X tag vn vt (.slice (some ⟨g,0,none⟩) (S.length+1) cap) (W.setCell ⟨g,S.length * 3+2,none⟩ (.bool true)):=by
 have hs:=h.sk.1
 simp only [List.length_append,List.length_cons,List.length_nil,List.flatMap_append,List.flatMap_cons,List.flatMap_nil,List.append_nil] at hs
 obtain ⟨bC,j5⟩:=hs.stored (S.length * 3+2) (.bool true)
 have Pq:tag g=.stack:=h.sk.2 g rfl
 have cI:b7+1≤g:=cM h.sk rfl
 have h7:=h.zL
 have hr:∀ {T:Tg},Tg.stack≠T→∀ q,some g=some q→tag q≠T:=fun aY q e=>by cases e;rw [Pq];exact aY
 refine ⟨gF h.ext j5 (fun q e=>by cases e;omega),h.zL,(j5.block b7 h.uk (by simp;omega)).trans h.c7,h.nd.kept j5 (hr (by simp)) (fun _ _=>rfl),h.tp.kept j5 (hr (by simp)) (fun _ _=>rfl),⟨?_,fun q e=>h.sk.2 q e⟩,h.len,h.lk,fun i x y hx hy=>?_⟩
 ·rw [List.set_append_right _ _ (by rw [gG];omega),gG,show S.length * 3+2 - S.length * 3=2 by omega] at bC
  simp only [List.length_append,List.length_cons,List.length_nil,List.flatMap_append,List.flatMap_cons,List.flatMap_nil,List.append_nil]
  exact bC
 ·obtain ⟨q1,q2⟩:=h.bd i x y hx hy
  exact ⟨q1.kept j5 (hr (by simp)) (fun _ _=>rfl),q2.kept j5 (hr (by simp)) (fun _ _=>rfl)⟩
end
end R3
namespace R3
open Go Go.Proofs Go.RowKit Go.Shelf Sx
variable {mx:Int}
theorem HW:(Tryz.prog.info? 3).map (fun i=>(i.zero,i.size,i.bytes))=some (some (.int .i64 0),1,8):=by kernel_rfl
theorem fj {W:World} {base:Nat} {e:TypeId} {size:Nat} {v:Value} {k:Nat} {xs:List Value} (h:W.ownsRow base e size v k xs):∃ (ad:Option Addr) (c:Nat),v=.slice ad k c:=by
 rcases h.2 with ⟨rfl,h0⟩ | ⟨g,cap,_,rfl,_⟩
 ·exact ⟨none,0,by rw [h0]⟩
 ·exact ⟨_,_,rfl⟩
theorem Pw (W:World) (v:Value) (t:TypeId):∀ j u,[v][j]?=some u→(W.alloc (.cells #[v] t)).cell? ((⟨W.heap.size,0,none⟩:Addr).add j)=some u:=fun j u hu=>World.news_of_block (cs := #[v]) (World.alloc_heap_new W _) j u (by simpa using hu)
def ve (X:List Vn) (b7:Nat) (vn vt:Value) (b:Nat):Prop:=b≠b7∧vn.ownBlock≠some b∧vt.ownBlock≠some b∧∀ x ∈ X,x.bs.ownBlock≠some b∧x.es.ownBlock≠some b
def rC (w:World) (F:Nat→Prop) (b7:Nat) (s:Ms) (vs:Value) (X:List Vn) (vn vt:Value) (W:World) (e:Ending) (W':World):Prop :=
 e=.returned (.tuple #[])∧(∃ X' gr vn' vt',PM w F b7 s X' gr vn' vt' vs W')∧∀ b,b < W.heap.size→ve X b7 vn vt b→W'.heap[b]?=W.heap[b]?
theorem results63 (T:Array Value) (W:World):(results Tryz.f38 T).run Tryz.prog W=.ok (.tuple #[]) W:=by
 have hr:Tryz.f38.results = #[]:=by kernel_rfl
 unfold results
 rw [hr]
 simp [Sem.run_bind,Result.andThen]
set_option maxRecDepth 100000 in
set_option maxHeartbeats 4000000 in
theorem Lz {w W:World} {F:Nat→Prop} {b7:Nat} {N:List Mn} {T:List Nat} {X:List Vn} {tag:Nat→Tg} {vn vt vs:Value} (h:PM w F b7 ⟨N,T,[]⟩ X tag vn vt vs W) {n:Nat} (hT:T.length≤1000000) :
  CallsIn Fence.wide 6 Tryz.prog 38 #[.pointer (some ⟨b7,0,none⟩),vs, .int .i64 (n:Int)] W (rC w F b7 ⟨N,T ++ [n],[]⟩ vs X vn vt W):=by
 obtain ⟨Pf,cs,rfl⟩:=fj h.sk.1
 obtain ⟨Uo,ct,rfl⟩:=fj h.tp.1
 simp only [List.length_nil] at *
 obtain ⟨i0,nx,ny,jv,lU⟩:=info_parts HW
 have h1:=h.ext' (Ext.push W (.cells #[.int .i64 (n:Int)] 3))
 obtain ⟨v1,v2,v3,v4⟩:=aL h.c7
 have aM:=h.uk
 refine callsIn_of_wp Tryz.func38 rfl trivial ?_ rfl
 simp only [Tryz.ntmps38,Nat.reduceAdd,Nat.reduceSub,zC]
 gi_wp2_with (dz;refine wpListIn_append_own_at _ rfl _ _ 24 rfl (b7+1) 3 i0 _ 1 8 Tryz.underlying24 nx ny jv lU rfl (by decide) (.slice Uo T.length ct) T.length (ints T) rfl h1.tp.1 ⟨W.heap.size,0,none⟩ 1 1 [.int .i64 (n:Int)] rfl rfl (Pw _ _ _) (by simp [Value.oneCell']) (by have:Go.maxLen=9223372036854775807:=rfl;omega) (by omega) (by simp;omega) ?_;intro v' w5 et eN _ oQ;obtain ⟨g',qy,rfl⟩:=ownsRow_succ et;obtain ⟨gr,dH⟩:=h1.addTop (n:=n) eN et (by rcases oQ with e | e;exact .inl (by rw [← e];rfl);exact .inr (by simpa [Value.ownBlock] using e));have Pp:w5.heap[b7]?=some (.cells #[vn, .slice Uo T.length ct] 26):=(eN.block b7 h1.uk (fun e=>by have:=cM h1.tp e.symm;omega)).trans h1.c7;obtain ⟨y1,y2,y3,y4⟩:=aL Pp)
 refine bodyPost_ret (results63 _ _) rfl ?_
 exact ⟨rfl,⟨_,_,_,_,dH⟩,fun b hb lW=>(an lW.1).trans ((eN.block b (by simp;omega) (fun e=>lW.2.2.1 e.symm)).trans (ay hb))⟩
end R3
namespace R3
open Go Go.RowKit Sx
section
variable {P:Program} {ops:Array Oper} {nc:List Nat} {Q:Exit→Act→World→Prop} {E:World→World→Prop}
def quiet (nc:List Nat) (i:Nat):Bool:=!(nc.any (Nat.beq i))
def ou (P:Program) (ops:Array Oper) (nc:List Nat) (Q:Exit→Act→World→Prop) (E:World→World→Prop) (p:Nat×Bool) (N:Act→World→Prop) (a:Act) (w:World):Prop :=
 if p.2=true then ∃ oi v,ops[p.1]?=some oi∧YieldsIf P ops (E w) oi v a∧N (a.put oi.dst v) w
 else wpOp P ops Q p.1 (fun a' w'=>(quiet nc p.1=true→E w w')∧N a' w') a w
def tW (P:Program) (ops:Array Oper) (nc:List Nat) (Q:Exit→Act→World→Prop) (E:World→World→Prop):List (Nat×Bool)→(Act→World→Prop)→Act→World→Prop
 | [],N,a,w=>N a w
 | p :: r,N,a,w=>ou P ops nc Q E p (tW P ops nc Q E r N) a w
def pA (P:Program) (ops:Array Oper) (nc:List Nat) (Q:Exit→Act→World→Prop) (E:World→World→Prop):Nat→Array Bool→Act→World→Prop
 | 0,done,a,w=>Region.ready .any ops done=[]∧Q .normal a w
 | m+1,done,a,w=>(Region.ready .any ops done=[]→Q .normal a w)∧∀ i ∈ Region.ready .any ops done,wpOp P ops Q i (fun a' w'=>(quiet nc i=true→E w w')∧pA P ops nc Q E m (done.setIfInBounds i true) a' w') a w
theorem pA.any:∀ (m:Nat) {done:Array Bool} {a:Act} {w:World},pA P ops nc Q E m done a w→wpAny P .any ops Q m done a w
 | 0,_,_,_,h=>h
 | m+1,_,_,_,h=>⟨h.1,fun i hi=>wpOp_mono (fun _ _ hh=>pA.any m hh.2) (h.2 i hi)⟩
theorem pA.take {S:World→World→Prop} (hr:∀ w,E w w) (NC:∀ u v,E u v→S u v) (ht:∀ u v w,S u v→S v w→S u w) (hQ:∀ c a w,¬ Q (.panic c) a w) (Np:Region.noSelect ops=true) {i:Nat} {oi:Oper} {v:Value} (hi:ops[i]?=some oi):∀ (m:Nat) {done:Array Bool} {a:Act} {w:World},
  (∀ (j:Nat) (oj:Oper),ops[j]?=some oj→j≠i→done.getD j true=false→(∀ e ∈ oj.after,Region.binds .any e=true→e.on≠i)→oi.apart ops oj=true)→i ∈ Region.ready .any ops done→fy ops done→((∀ u v,S u v)∨∀ j,j < ops.size→j≠i→done.getD j true=false→quiet nc j=true∨behind ops i ops.size j=true)→YieldsIf P ops (S w) oi v a →
  pA P ops nc Q E m (done.setIfInBounds i true) (a.put oi.dst v) w→pA P ops nc Q E (m+1) done a w:=by
 have Q7:=Region.noSelect_spec Np
 intro m
 induction m with
 | zero =>
  intro done a w _ im _ _ hy h
  constructor
  ·intro e;rw [e] at im;cases im
  ·intro j hj
   rcases Nat.decEq j i with aY | rfl
   ·have:=ready_mono hj aY;rw [h.1] at this;cases this
   ·exact hy.wpOp hi (NC _ _ (hr w)) ⟨fun _=>hr w,h⟩
 | succ m ih =>
  intro done a w lW im jx eX hy h
  constructor
  ·intro e;rw [e] at im;cases im
  ·intro j hj
   rcases Nat.decEq j i with aY | rfl
   ·obtain ⟨j6,oj,FO,yo⟩:=mem_ready.1 hj
    have hid:=(mem_ready.1 im).1
    have FP:∀ e ∈ oj.after,Region.binds .any e=true→e.on≠i:=by
     intro e he hb heq
     have hd:=yo e he hb
     rw [heq] at hd
     by_cases aM:i < done.size
     ·simp [aM] at hid hd;rw [hid] at hd;cases hd
     ·simp [aM] at hd
    have ND:j < ops.size:=(Array.getElem?_eq_some_iff.1 FO).1
    have Ac:∀ w',(quiet nc j=true→E w w')→S w w':=by
     intro w' hE
     rcases eX with hc | eX
     ·exact hc _ _
     ·rcases eX j ND aY j6 with hc | hb
      ·exact NC _ _ (hE hc)
      ·exfalso
       have:=kC jx ops.size j (fun o ho=>by rw [FO] at ho;cases ho;exact yo) hb
       by_cases aM:i < done.size
       ·simp [aM] at hid this;rw [hid] at this;cases this
       ·simp [aM] at this
    have hh:=wpOp_putIf FO (lW j oj FO aY j6 FP) (fun cs b=>Q7 i oi cs b hi) (fun cs b=>Q7 j oj cs b FO) (fun c a w hc=>absurd hc (hQ c _ w)) hy (h.2 j (ready_mono hj aY))
    refine wpOp_mono (fun a' w' ⟨qK,hE,fN⟩=>⟨hE,ih ?_ (ready_mono im (Ne.symm aY)) (jx.set hj) ?_ ?_ ?_⟩) hh
    ·intro k ok hk NF je Vr
     refine lW k ok hk NF ?_ Vr
     by_cases FQ:j=k
     ·subst FQ;exact j6
     ·rwa [getD_set_ne true FQ] at je
    ·rcases eX with hc | eX
     ·exact .inl hc
     ·refine .inr fun k hk NF je=>eX k hk NF ?_
      by_cases FQ:j=k
      ·subst FQ;exact j6
      ·rwa [getD_set_ne true FQ] at je
    ·rcases qK with ⟨q1,q2⟩ | q
     ·exact .inl ⟨q1,fun u hu=>q2 u (ht w w' u (Ac w' hE) hu)⟩
     ·exact .inr q
    ·rw [Array.setIfInBounds_comm _ _ aY]
     exact fN
   ·exact hy.wpOp hi (NC _ _ (hr w)) ⟨fun _=>hr w,h⟩
def qp (ops:Array Oper) (nc:List Nat) (k:Array Bool→Bool):Array Bool→List (Nat×Bool)→Bool
 | listed,[]=>k listed
 | listed,p :: r=>(bif p.2 then Region.free .any ops listed p.1 && (Region.ready .any ops listed).contains p.1 && ((List.range ops.size).all fun j=>Nat.beq j p.1 || listed.getD j true || quiet nc j || behind ops p.1 ops.size j) else decide (Region.ready .any ops listed=[p.1])) && qp ops nc k (listed.setIfInBounds p.1 true) r
theorem fR (hr:∀ w,E w w) (ht:∀ u v w,E u v→E v w→E u w) (hs:Region.noSelect ops=true) (hQ:∀ c a w,¬ Q (.panic c) a w) {k:Array Bool→Bool} {N:Act→World→Prop} {m:Nat}
  (hN:∀ (listed:Array Bool) (a:Act) (w:World),fy ops listed→k listed=true→N a w→pA P ops nc Q E m listed a w):∀ (l:List (Nat×Bool)) (listed:Array Bool) (a:Act) (w:World),fy ops listed→qp ops nc k listed l=true →
  tW P ops nc Q E l N a w→pA P ops nc Q E (l.length+m) listed a w
 | [],listed,a,w,jx,hp,h=>by
  rw [List.length_nil,Nat.zero_add]
  exact hN listed a w jx hp h
 | (i,tk) :: r,listed,a,w,jx,hp,h=>by
  simp only [qp,Bool.and_eq_true] at hp
  have h':ou P ops nc Q E (i,tk) (tW P ops nc Q E r N) a w:=h
  unfold ou at h'
  rw [List.length_cons,show r.length+1+m=(r.length+m)+1 by omega]
  cases tk with
  | true =>
   rw [if_pos rfl] at h'
   obtain ⟨oi,v,hi,hy,hn⟩:=h'
   simp only [cond_true,Bool.and_eq_true] at hp
   have im:i ∈ Region.ready .any ops listed:=by simpa using hp.1.1.2
   have fN:=fR hr ht hs hQ hN r _ _ _ (jx.set im) hp.2 hn
   refine pA.take hr (fun _ _ h=>h) ht hQ hs hi (r.length+m) (Region.free_spec hi hp.1.1.1) im jx (.inr fun j hj aY BV=>?_) hy fN
   have:=List.all_eq_true.1 hp.1.2 j (List.mem_range.2 hj)
   rw [Bool.or_eq_true,Bool.or_eq_true,Bool.or_eq_true] at this
   rcases this with ((h1 | h1) | h1) | h1
   ·exact absurd (Nat.eq_of_beq_eq_true h1) aY
   ·rw [BV] at h1;cases h1
   ·exact .inl h1
   ·exact .inr h1
  | false =>
   rw [if_neg (by simp)] at h'
   simp only [cond_false,decide_eq_true_eq] at hp
   refine ⟨fun e=>(by rw [hp.1] at e;cases e),fun j hj=>?_⟩
   rw [hp.1] at hj
   have:j=i:=by simpa using hj
   subst this
   exact wpOp_mono (fun a' w' hh=>⟨hh.1,fR hr ht hs hQ hN r _ _ _ (jx.set (by rw [hp.1];simp)) hp.2 hh.2⟩) h'
theorem aW {id:Nat} {a:Act} {w:World} (hm:P.follows .mixedOrders=true) (nc:List Nat) (E:World→World→Prop) (l:List (Nat×Bool))
  (hp:qp ops nc (fun listed=>(Region.ready .any ops listed).isEmpty) (Array.replicate ops.size false) l=true) (hlen:Nat.beq l.length ops.size=true) (hs:Region.noSelect ops=true)
  (hr:∀ w,E w w) (ht:∀ u v w,E u v→E v w→E u w)
  (h:tW P ops nc (NoPanic Q) E l (fun a w=>Q .normal a w) a w.drew):(Code.region id ops true).wp P Q a w:=by
 refine wp_region_noPanic ?_
 refine wp_region_any hm ?_
 have hl:=Nat.eq_of_beq_eq_true hlen
 have key:=fR (m:=0) hr ht hs (fun _ _ _ h=>h) (fun listed a w jx hk hn=>⟨by simpa using hk,hn⟩) l (Array.replicate ops.size false) a _
  (fun j o hj=>by
   simp [Array.getD] at hj) hp h
 rw [Nat.add_zero,hl] at key
 exact pA.any _ key
theorem aT {i:Nat} {o:Oper} {v:Value} {r:List (Nat×Bool)} {N:Act→World→Prop} {a:Act} {w:World} (hi:ops[i]?=some o) (hw:Region.wanted o (yielded ops a.tmps)=true)
  (hv:∀ w',E w w'→(execOp a.eval o).run P w'=.ok (.value v) w') (h:tW P ops nc Q E r N (a.put o.dst v) w):tW P ops nc Q E ((i,true) :: r) N a w:=by
 show ou P ops nc Q E (i,true) (tW P ops nc Q E r N) a w
 unfold ou
 rw [if_pos rfl]
 exact ⟨o,v,hi, .inl ⟨hw,hv⟩,h⟩
theorem bH {i:Nat} {o:Oper} {r:List (Nat×Bool)} {N:Act→World→Prop} {a:Act} {w:World} (hi:ops[i]?=some o)
  (h:∀ K':Act→World→Prop,Shut (∀ a' w',E w w'→tW P ops nc Q E r N a' w'→K' a' w')→if Region.wanted o (yielded ops a.tmps)=true then Oper.wp P o a w K' Q else K' (a.put o.dst undef) w):tW P ops nc Q E ((i,false) :: r) N a w:=by
 show ou P ops nc Q E (i,false) (tW P ops nc Q E r N) a w
 unfold ou
 rw [if_neg (by simp)]
 exact wpOp_step hi fun K' hK=>h K' fun a' w' hE hl=>hK a' w' ⟨fun _=>hE,hl⟩
theorem fS {i:Nat} {o:Oper} {r:List (Nat×Bool)} {N:Act→World→Prop} {a:Act} {w:World} (hi:ops[i]?=some o) (hc:quiet nc i=false)
  (h:∀ K':Act→World→Prop,Shut (∀ a' w',tW P ops nc Q E r N a' w'→K' a' w')→if Region.wanted o (yielded ops a.tmps)=true then Oper.wp P o a w K' Q else K' (a.put o.dst undef) w):tW P ops nc Q E ((i,false) :: r) N a w:=by
 show ou P ops nc Q E (i,false) (tW P ops nc Q E r N) a w
 unfold ou
 rw [if_neg (by simp)]
 exact wpOp_step hi fun K' hK=>h K' fun a' w' hl=>hK a' w' ⟨fun ln=>absurd (hc.symm.trans ln) Bool.noConfusion,hl⟩
theorem cF {N:Act→World→Prop} {a:Act} {w:World} (h:N a w):tW P ops nc Q E [] N a w:=h
end
end R3
namespace R3
open Go Go.Proofs Go.RowKit Go.Shelf Sx
variable {mx:Int}
theorem PM.last {w W:World} {F:Nat→Prop} {b7:Nat} {N:List Mn} {T:List Nat} {S:List zK} {o:zK} {X:List Vn} {tag:Nat→Tg} {vn vt vs:Value} (h:PM w F b7 ⟨N,T,S ++ [o]⟩ X tag vn vt vs W) :
  ∃ gs cap,vs=.slice (some ⟨gs,0,none⟩) (S.length+1) cap∧(W.cell? ⟨gs,S.length * 3,none⟩=some (.int .i64 (o.node:Int))∧W.cell? ⟨gs,S.length * 3+1,none⟩=some (.int .i64 (o.kind.toNat:Int))∧W.cell? ⟨gs,S.length * 3+2,none⟩=some (.bool o.els))∧∀ j,W.frozen? ⟨gs,j,none⟩=false:=by
 have hs:=h.sk.1
 simp only [List.length_append,List.length_cons,List.length_nil,List.flatMap_append,List.flatMap_cons,List.flatMap_nil,List.append_nil] at hs
 obtain ⟨gs,cap,rfl⟩:=ownsRow_succ hs
 have key:∀ j,j < 3→W.cell? ⟨gs,S.length * 3+j,none⟩=(dX o)[j]?:=fun j hj=>by
  rw [hs.cellAt (S.length * 3+j) (by omega),List.getElem?_append_right (by rw [gG];omega),gG]
  congr 1;omega
 exact ⟨gs,cap,rfl,⟨key 0 (by decide),key 1 (by decide),key 2 (by decide)⟩,fun j=>hs.frozenAt j⟩
theorem PM.node {w W:World} {F:Nat→Prop} {b7:Nat} {s:Ms} {X:List Vn} {tag:Nat→Tg} {vn vt vs:Value} (h:PM w F b7 s X tag vn vt vs W) {i:Nat} (hi:i < s.nodes.length) :
  ∃ gn cn x y,vn=.slice (some ⟨gn,0,none⟩) X.length cn∧X[i]?=some x∧s.nodes[i]?=some y∧(∀ j,j < 9→W.cell? ⟨gn,i * 9+j,none⟩=x.cells[j]?)∧∀ j,W.frozen? ⟨gn,j,none⟩=false:=by
 have hX:i < X.length:=by rw [h.len];exact hi
 have qR:=h.nd.1
 obtain ⟨k,hk⟩:∃ k,X.length=k+1:=⟨X.length - 1,by omega⟩
 obtain ⟨gn,cn,rfl⟩:∃ g cap,vn=.slice (some ⟨g,0,none⟩) X.length cap:=by
  rcases qR.2 with ⟨_,h0⟩ | ⟨g,cap,_,rfl,_⟩
  ·omega
  ·exact ⟨g,cap,rfl⟩
 refine ⟨gn,cn,X[i],s.nodes[i],rfl,List.getElem?_eq_getElem hX,List.getElem?_eq_getElem hi,fun j hj=>?_,fun j=>qR.frozenAt j⟩
 rw [qR.cellAt (i * 9+j) (by omega)]
 exact pz X i j X[i] (List.getElem?_eq_getElem hX) hj
set_option maxRecDepth 100000 in
set_option maxHeartbeats 4000000 in
theorem LA {w W:World} {F:Nat→Prop} {b7:Nat} {N:List Mn} {T:List Nat} {S:List zK} {o:zK} {X:List Vn} {tag:Nat→Tg} {vn vt vs:Value} (h:PM w F b7 ⟨N,T,S ++ [o]⟩ X tag vn vt vs W) {n:Nat} (ho:o.node < N.length) (he:o.els=true) (hN:N.length≤100000) (hS:S.length≤1000) (hE:∀ y ∈ N,y.els.length≤1000000) :
  CallsIn Fence.wide 6 Tryz.prog 38 #[.pointer (some ⟨b7,0,none⟩),vs, .int .i64 (n:Int)] W (rC w F b7 ⟨N.modify o.node fun y=>{ y with els:=y.els ++ [n] },T,S ++ [o]⟩ vs X vn vt W):=by
 obtain ⟨gs,cs,rfl,⟨s0,s1,s2⟩,sf⟩:=h.last
 obtain ⟨gn,cn,x,y,rfl,hx,hy,eK,fq⟩:=h.node ho
 obtain ⟨i0,nx,ny,jv,lU⟩:=info_parts HW
 obtain ⟨v1,v2,v3,v4⟩:=aL h.c7
 have aM:=h.uk
 have Xo:N[o.node]?=some y:=hy
 obtain ⟨bb,be⟩:=h.bd o.node x y hx hy
 obtain ⟨Xp,ce,qO⟩:=fj be.1
 have c6:=eK 6 (by decide)
 have c6:W.cell? ⟨gn,o.node * 9+6,none⟩=some x.es:=c6
 rw [qO] at c6
 have xv:X.length=N.length:=h.len
 have hyl:=hE y (List.mem_of_getElem? Xo)
 have Xq:=sf (S.length * 3+2)
 have Tc:=fq (o.node * 9+6)
 rw [he] at s2
 generalize hd:S.length=d at *
 generalize hk:o.node=k at *
 generalize o.kind.toNat=kd at s1
 have hw3:W.heap.size≤W.heap.size:=Nat.le_refl _
 refine callsIn_of_wp Tryz.func38 rfl trivial ?_ rfl
 simp only [Tryz.ntmps38,Nat.reduceAdd,Nat.reduceSub,zC]
 clear eK sf fq hE
 gi_wp2
 rw [wpIn_wide]
 have EY:(W.alloc (.cells #[.int .i64 (k:Int), .int .i64 (kd:Int), .bool true] 93)).heap[W.heap.size]?=some (.cells #[.int .i64 (k:Int), .int .i64 (kd:Int), .bool true] 93):=World.alloc_heap_new W _
 have ed:Ext W (W.alloc (.cells #[.int .i64 (k:Int), .int .i64 (kd:Int), .bool true] 93)):=Ext.push W _
 generalize W.alloc (.cells #[.int .i64 (k:Int), .int .i64 (kd:Int), .bool true] 93)=W5 at EY ed ⊢
 have p1:=aB ed v1
 have p4:W5.cell? ⟨W.heap.size,0,none⟩=some (.int .i64 (k:Int)):=by simp [World.cell?,EY]
 have p5:=aB ed c6
 have p6:W5.frozen? ⟨gn,k * 9+6,none⟩=false:=by
  rw [← Tc]
  exact World.frozen?_of_block (ed.block gn (aS c6))
 have h5:=h.ext' ed
 have h6:=h5.ext' (Ext.push W5 (.cells #[.int .i64 (n:Int)] 3))
 have Td:=(h6.bd k x y hx hy).2.1
 have fw:=Pw W5 (.int .i64 (n:Int)) 3
 have dD:b7+1≤(W5.alloc (.cells #[.int .i64 (n:Int)] 3)).heap.size:=h6.uk
 rw [qO] at Td
 have Xr:gn < W5.heap.size:=aS p5
 have Px:∀ {w7:World} {r:Option Nat},r=x.es.ownBlock→(W5.alloc (.cells #[.int .i64 (n:Int)] 3)).grownBy w7 r→w7.heap[gn]?=W5.heap[gn]?:=fun {w7 r} hr hg=>by
  rw [hg.block gn (by simp;omega) (fun e=>by rw [hr] at e;have a1:=be.2 gn e.symm;have a2:=h.nd.2 gn rfl;rw [a1] at a2;cases a2)]
  exact ay Xr
 have dG:Ext W5 (W5.alloc (.cells #[.int .i64 (n:Int)] 3)):=Ext.push W5 _
 have r1:=aB dG p1
 have r4:=aB dG p4
 have r5:=aB dG p5
 have Ey:W.heap.size < W5.heap.size:=aS p4
 have Py:b7 < W5.heap.size:=aS p1
 have aY:∀ {w7:World} {r:Option Nat},r=x.es.ownBlock→(W5.alloc (.cells #[.int .i64 (n:Int)] 3)).grownBy w7 r→w7.heap[b7]?=W5.heap[b7]?∧w7.heap[W.heap.size]?=W5.heap[W.heap.size]?:=fun {w7 r} hr hg=>by
  refine ⟨?_,?_⟩
  ·rw [hg.block b7 (by simp;omega) (fun e=>by rw [hr] at e;have:=cM be e.symm;omega)]
   exact ay Py
  ·rw [hg.block _ (by simp;omega) (fun e=>by rw [hr] at e;have:=(be.1.lt _ e.symm).2;omega)]
   exact ay Ey
 clear v1 v2 v3 v4 c6 Tc s0 s1 s2 Xq EY
 have Xs:∀ {w7:World} {b i:Nat} {u:Value} (v:Value),b≠gn→w7.cell? ⟨b,i,none⟩=some u→(w7.setCell ⟨gn,k * 9+6,none⟩ v).cell? ⟨b,i,none⟩=some u:=fun v hb hu=>(World.cell?_of_block (an hb)).trans hu
 have Uq:b7≠gn:=by have:=cM h.nd (g:=gn) rfl;omega
 have Qv:W.heap.size≠gn:=by have:=(h.nd.1.lt gn rfl).2;omega
 have Ur:gn≠W.heap.size:=fun e=>Qv e.symm
 refine aW (by kernel_rfl) [20] (fun u v=>v.cell? ⟨b7,0,none⟩=u.cell? ⟨b7,0,none⟩∧v.cell? ⟨W.heap.size,0,none⟩=u.cell? ⟨W.heap.size,0,none⟩∧v.cell? ⟨gn,k * 9+6,none⟩=u.cell? ⟨gn,k * 9+6,none⟩)
  [(0,true),(1,true),(2,true),(3,true),(4,true),(5,true),(6,true),(7,true),(8,true),(9,true),(10,true),(11,true),(12,true),(13,true),(14,true),(15,true),(16,false),(17,false),(18,true),(19,true),(20,false)]
  (by kernel_rfl) (by kernel_rfl) (by kernel_rfl) (fun _=>⟨rfl,rfl,rfl⟩) (fun _ _ _ h1 h2=>⟨h2.1.trans h1.1,h2.2.1.trans h1.2.1,h2.2.2.trans h1.2.2⟩) ?_
 iterate 16 (
  refine' aT ?_ ?_ ?_ ?_;rotate_left 2
  ·(simp only [zA];rfl)
  ·rfl
  ·(intro w' hE;have q1:=hE.1.trans p1;have q4:=hE.2.1.trans p4;have q5:=hE.2.2.trans p5;go_simp;try rfl)
  simp only [Act.put,zB])
 refine' bH ?_ ?_;rotate_left 1
 ·(simp only [zA];rfl)
 intro K hK
 go_simp
 refine hK.out _ _ ⟨r1.trans p1.symm,r4.trans p4.symm,r5.trans p5.symm⟩ ?_
 clear hK K
 try simp only [Act.put,zB]
 refine' bH ?_ ?_;rotate_left 1
 ·(simp only [zA];rfl)
 intro K hK
 refine step_append_lies _ rfl (.tmp 42) (.tmp 44) 24 rfl (b7+1) 3 i0 _ 1 8 Tryz.underlying24 nx ny jv lU rfl (by decide) (.slice Xp y.els.length ce) y.els.length (ints y.els) rfl Td ⟨W5.heap.size,0,none⟩ 1 1 [.int .i64 (n:Int)] rfl rfl fw (by simp [Value.oneCell']) (by decide) (by have:Go.maxLen=9223372036854775807:=rfl;omega) (by omega) dD _ rfl ?_
 intro g cap w7 cY aQ fo Te
 have lP:(W5.alloc (.cells #[.int .i64 (n:Int)] 3)).grownBy w7 x.es.ownBlock:=(by rw [qO];exact ⟨aQ.os,aQ.tape,aQ.output,aQ.size,aQ.block⟩)
 have Tf:=Px rfl lP
 have AG:=aY rfl lP
 have s1:=(World.cell?_of_block (a:=⟨b7,0,none⟩) AG.1).trans p1
 have s4:=(World.cell?_of_block (a:=⟨W.heap.size,0,none⟩) AG.2).trans p4
 have s5:=(World.cell?_of_block (a:=⟨gn,k * 9+6,none⟩) Tf).trans p5
 have s6:=(World.frozen?_of_block (a:=⟨gn,k * 9+6,none⟩) Tf).trans p6
 obtain ⟨X',gr,dH⟩:=h6.Pt (n:=n) rfl hx hy lP cY (by rw [qO];exact fo)
 refine hK.out _ _ ⟨s1.trans r1.symm,s4.trans r4.symm,s5.trans r5.symm⟩ ?_
 clear hK K
 try simp only [Act.put,zB]
 iterate 2 (
  refine' aT ?_ ?_ ?_ ?_;rotate_left 2
  ·(simp only [zA];rfl)
  ·rfl
  ·(intro w' hE;go_simp;try rfl)
  simp only [Act.put,zB])
 refine' fS ?_ (by kernel_rfl) ?_;rotate_left 1
 ·(simp only [zA];rfl)
 intro K hK
 go_simp
 refine hK.out _ _ ?_
 clear hK K
 refine cF ?_
 gi_wp2
 refine bodyPost_ret (results63 _ _) rfl ?_
 exact ⟨rfl,⟨_,_,_,_,dH⟩,fun b hb lW=>(an (show b≠gn from fun e=>lW.2.1 (by rw [e];rfl))).trans ((lP.block b (by simp;omega) (fun e=>(lW.2.2.2 x (List.mem_of_getElem? hx)).2 e.symm)).trans ((ay (by have:=ed.size;omega)).trans (ed.block b hb)))⟩
set_option maxRecDepth 100000 in
set_option maxHeartbeats 4000000 in
theorem HX {w W:World} {F:Nat→Prop} {b7:Nat} {N:List Mn} {T:List Nat} {S:List zK} {o:zK} {X:List Vn} {tag:Nat→Tg} {vn vt vs:Value} (h:PM w F b7 ⟨N,T,S ++ [o]⟩ X tag vn vt vs W) {n:Nat} (ho:o.node < N.length) (he:o.els=false) (hN:N.length≤100000) (hS:S.length≤1000) (hE:∀ y ∈ N,y.body.length≤1000000) :
  CallsIn Fence.wide 6 Tryz.prog 38 #[.pointer (some ⟨b7,0,none⟩),vs, .int .i64 (n:Int)] W (rC w F b7 ⟨N.modify o.node fun y=>{ y with body:=y.body ++ [n] },T,S ++ [o]⟩ vs X vn vt W):=by
 obtain ⟨gs,cs,rfl,⟨s0,s1,s2⟩,sf⟩:=h.last
 obtain ⟨gn,cn,x,y,rfl,hx,hy,eK,fq⟩:=h.node ho
 obtain ⟨i0,nx,ny,jv,lU⟩:=info_parts HW
 obtain ⟨v1,v2,v3,v4⟩:=aL h.c7
 have aM:=h.uk
 have Xo:N[o.node]?=some y:=hy
 obtain ⟨bb,be⟩:=h.bd o.node x y hx hy
 obtain ⟨Xp,ce,qO⟩:=fj bb.1
 have c6:=eK 5 (by decide)
 have c6:W.cell? ⟨gn,o.node * 9+5,none⟩=some x.bs:=c6
 rw [qO] at c6
 have xv:X.length=N.length:=h.len
 have hyl:=hE y (List.mem_of_getElem? Xo)
 have Xq:=sf (S.length * 3+2)
 have Tc:=fq (o.node * 9+5)
 rw [he] at s2
 generalize hd:S.length=d at *
 generalize hk:o.node=k at *
 generalize o.kind.toNat=kd at s1
 have hw3:W.heap.size≤W.heap.size:=Nat.le_refl _
 refine callsIn_of_wp Tryz.func38 rfl trivial ?_ rfl
 simp only [Tryz.ntmps38,Nat.reduceAdd,Nat.reduceSub,zC]
 clear eK sf fq hE
 gi_wp2
 rw [wpIn_wide]
 have EY:(W.alloc (.cells #[.int .i64 (k:Int), .int .i64 (kd:Int), .bool false] 93)).heap[W.heap.size]?=some (.cells #[.int .i64 (k:Int), .int .i64 (kd:Int), .bool false] 93):=World.alloc_heap_new W _
 have ed:Ext W (W.alloc (.cells #[.int .i64 (k:Int), .int .i64 (kd:Int), .bool false] 93)):=Ext.push W _
 generalize W.alloc (.cells #[.int .i64 (k:Int), .int .i64 (kd:Int), .bool false] 93)=W5 at EY ed ⊢
 have p1:=aB ed v1
 have p4:W5.cell? ⟨W.heap.size,0,none⟩=some (.int .i64 (k:Int)):=by simp [World.cell?,EY]
 have p5:=aB ed c6
 have p6:W5.frozen? ⟨gn,k * 9+5,none⟩=false:=by
  rw [← Tc]
  exact World.frozen?_of_block (ed.block gn (aS c6))
 have h5:=h.ext' ed
 have h6:=h5.ext' (Ext.push W5 (.cells #[.int .i64 (n:Int)] 3))
 have Td:=(h6.bd k x y hx hy).1.1
 have fw:=Pw W5 (.int .i64 (n:Int)) 3
 have dD:b7+1≤(W5.alloc (.cells #[.int .i64 (n:Int)] 3)).heap.size:=h6.uk
 rw [qO] at Td
 have Xr:gn < W5.heap.size:=aS p5
 have Px:∀ {w7:World} {r:Option Nat},r=x.bs.ownBlock→(W5.alloc (.cells #[.int .i64 (n:Int)] 3)).grownBy w7 r→w7.heap[gn]?=W5.heap[gn]?:=fun {w7 r} hr hg=>by
  rw [hg.block gn (by simp;omega) (fun e=>by rw [hr] at e;have a1:=bb.2 gn e.symm;have a2:=h.nd.2 gn rfl;rw [a1] at a2;cases a2)]
  exact ay Xr
 have dG:Ext W5 (W5.alloc (.cells #[.int .i64 (n:Int)] 3)):=Ext.push W5 _
 have r1:=aB dG p1
 have r4:=aB dG p4
 have r5:=aB dG p5
 have Ey:W.heap.size < W5.heap.size:=aS p4
 have Py:b7 < W5.heap.size:=aS p1
 have aY:∀ {w7:World} {r:Option Nat},r=x.bs.ownBlock→(W5.alloc (.cells #[.int .i64 (n:Int)] 3)).grownBy w7 r→w7.heap[b7]?=W5.heap[b7]?∧w7.heap[W.heap.size]?=W5.heap[W.heap.size]?:=fun {w7 r} hr hg=>by
  refine ⟨?_,?_⟩
  ·rw [hg.block b7 (by simp;omega) (fun e=>by rw [hr] at e;have:=cM bb e.symm;omega)]
   exact ay Py
  ·rw [hg.block _ (by simp;omega) (fun e=>by rw [hr] at e;have:=(bb.1.lt _ e.symm).2;omega)]
   exact ay Ey
 clear v1 v2 v3 v4 c6 Tc s0 s1 s2 Xq EY
 have Xs:∀ {w7:World} {b i:Nat} {u:Value} (v:Value),b≠gn→w7.cell? ⟨b,i,none⟩=some u→(w7.setCell ⟨gn,k * 9+5,none⟩ v).cell? ⟨b,i,none⟩=some u:=fun v hb hu=>(World.cell?_of_block (an hb)).trans hu
 have Uq:b7≠gn:=by have:=cM h.nd (g:=gn) rfl;omega
 have Qv:W.heap.size≠gn:=by have:=(h.nd.1.lt gn rfl).2;omega
 have Ur:gn≠W.heap.size:=fun e=>Qv e.symm
 refine aW (by kernel_rfl) [20] (fun u v=>v.cell? ⟨b7,0,none⟩=u.cell? ⟨b7,0,none⟩∧v.cell? ⟨W.heap.size,0,none⟩=u.cell? ⟨W.heap.size,0,none⟩∧v.cell? ⟨gn,k * 9+5,none⟩=u.cell? ⟨gn,k * 9+5,none⟩)
  [(0,true),(1,true),(2,true),(3,true),(4,true),(5,true),(6,true),(7,true),(8,true),(9,true),(10,true),(11,true),(12,true),(13,true),(14,true),(15,true),(16,false),(17,false),(18,true),(19,true),(20,false)]
  (by kernel_rfl) (by kernel_rfl) (by kernel_rfl) (fun _=>⟨rfl,rfl,rfl⟩) (fun _ _ _ h1 h2=>⟨h2.1.trans h1.1,h2.2.1.trans h1.2.1,h2.2.2.trans h1.2.2⟩) ?_
 iterate 16 (
  refine' aT ?_ ?_ ?_ ?_;rotate_left 2
  ·(simp only [zA];rfl)
  ·rfl
  ·(intro w' hE;have q1:=hE.1.trans p1;have q4:=hE.2.1.trans p4;have q5:=hE.2.2.trans p5;go_simp;try rfl)
  simp only [Act.put,zB])
 refine' bH ?_ ?_;rotate_left 1
 ·(simp only [zA];rfl)
 intro K hK
 go_simp
 refine hK.out _ _ ⟨r1.trans p1.symm,r4.trans p4.symm,r5.trans p5.symm⟩ ?_
 clear hK K
 try simp only [Act.put,zB]
 refine' bH ?_ ?_;rotate_left 1
 ·(simp only [zA];rfl)
 intro K hK
 refine step_append_lies _ rfl (.tmp 62) (.tmp 64) 24 rfl (b7+1) 3 i0 _ 1 8 Tryz.underlying24 nx ny jv lU rfl (by decide) (.slice Xp y.body.length ce) y.body.length (ints y.body) rfl Td ⟨W5.heap.size,0,none⟩ 1 1 [.int .i64 (n:Int)] rfl rfl fw (by simp [Value.oneCell']) (by decide) (by have:Go.maxLen=9223372036854775807:=rfl;omega) (by omega) dD _ rfl ?_
 intro g cap w7 cY aQ fo Te
 have lP:(W5.alloc (.cells #[.int .i64 (n:Int)] 3)).grownBy w7 x.bs.ownBlock:=(by rw [qO];exact ⟨aQ.os,aQ.tape,aQ.output,aQ.size,aQ.block⟩)
 have Tf:=Px rfl lP
 have AG:=aY rfl lP
 have s1:=(World.cell?_of_block (a:=⟨b7,0,none⟩) AG.1).trans p1
 have s4:=(World.cell?_of_block (a:=⟨W.heap.size,0,none⟩) AG.2).trans p4
 have s5:=(World.cell?_of_block (a:=⟨gn,k * 9+5,none⟩) Tf).trans p5
 have s6:=(World.frozen?_of_block (a:=⟨gn,k * 9+5,none⟩) Tf).trans p6
 obtain ⟨X',gr,dH⟩:=h6.Ly (n:=n) rfl hx hy lP cY (by rw [qO];exact fo)
 refine hK.out _ _ ⟨s1.trans r1.symm,s4.trans r4.symm,s5.trans r5.symm⟩ ?_
 clear hK K
 try simp only [Act.put,zB]
 iterate 2 (
  refine' aT ?_ ?_ ?_ ?_;rotate_left 2
  ·(simp only [zA];rfl)
  ·rfl
  ·(intro w' hE;go_simp;try rfl)
  simp only [Act.put,zB])
 refine' fS ?_ (by kernel_rfl) ?_;rotate_left 1
 ·(simp only [zA];rfl)
 intro K hK
 go_simp
 refine hK.out _ _ ?_
 clear hK K
 refine cF ?_
 gi_wp2
 refine bodyPost_ret (results63 _ _) rfl ?_
 exact ⟨rfl,⟨_,_,_,_,dH⟩,fun b hb lW=>(an (show b≠gn from fun e=>lW.2.1 (by rw [e];rfl))).trans ((lP.block b (by simp;omega) (fun e=>(lW.2.2.2 x (List.mem_of_getElem? hx)).1 e.symm)).trans ((ay (by have:=ed.size;omega)).trans (ed.block b hb)))⟩
structure Ms.sz (s:Ms) (k:Nat):Prop where
 nodes:s.nodes.length≤k
 top:s.top.length≤k
 two:∀ y ∈ s.nodes,y.body.length≤k∧y.els.length≤k
 stack:s.stack.length≤16
theorem mem_modify {l:List Mn} {i:Nat} {f:Mn→Mn} {y:Mn} (h:y ∈ l.modify i f):∃ z ∈ l,y=z∨y=f z:=by
 obtain ⟨j,hj,rfl⟩:=List.mem_iff_getElem.1 h
 rw [List.getElem_modify]
 have jf:j < l.length:=by simpa using hj
 refine ⟨l[j],List.getElem_mem _,?_⟩
 split
 ·exact .inr rfl
 ·exact .inl rfl
theorem Ms.sz.mono {s:Ms} {k k':Nat} (h:s.sz k) (hk:k≤k'):s.sz k' :=
 ⟨Nat.le_trans h.nodes hk,Nat.le_trans h.top hk,fun y hy=>⟨Nat.le_trans (h.two y hy).1 hk,Nat.le_trans (h.two y hy).2 hk⟩,h.stack⟩
theorem Ms.sz.add {s:Ms} {k:Nat} (h:s.sz k) (hn:s.nodes.length≤k+1) (n:Nat):(s.add [n]).sz (k+1):=by
 have h':=h.mono (Nat.le_succ k)
 unfold Ms.add
 split
 ·exact ⟨h'.nodes,by simp only [List.length_append,List.length_cons,List.length_nil];have:=h.top;omega,h'.two,h'.stack⟩
 ·split
  ·refine ⟨by simpa using h'.nodes,h'.top,fun y hy=>?_,h'.stack⟩
   obtain ⟨z,hz,e⟩:=mem_modify hy
   have:=h.two z hz
   rcases e with rfl | rfl
   ·omega
   ·simp only [List.length_append,List.length_cons,List.length_nil];omega
  ·refine ⟨by simpa using h'.nodes,h'.top,fun y hy=>?_,h'.stack⟩
   obtain ⟨z,hz,e⟩:=mem_modify hy
   have:=h.two z hz
   rcases e with rfl | rfl
   ·omega
   ·simp only [List.length_append,List.length_cons,List.length_nil];omega
theorem tq {w W:World} {F:Nat→Prop} {b7:Nat} {s:Ms} {X:List Vn} {tag:Nat→Tg} {vn vt vs:Value} (h:PM w F b7 s X tag vn vt vs W) (hw:s.wf) {k:Nat} (hz:s.sz k) (hk:k≤100000) {n:Nat} :
  CallsIn Fence.wide 6 Tryz.prog 38 #[.pointer (some ⟨b7,0,none⟩),vs, .int .i64 (n:Int)] W (rC w F b7 (s.add [n]) vs X vn vt W):=by
 obtain ⟨N,T,S⟩:=s
 have h1:=hz.nodes
 have h2:=hz.top
 have h3:=hz.two
 have h4:=hz.stack
 simp only at h1 h2 h3 h4
 rcases List.eq_nil_or_concat S with rfl | ⟨S,o,rfl⟩
 ·exact Lz h (by omega)
 ·rw [List.concat_eq_append] at *
  have ho:o.node < N.length:=hw o (by simp)
  have hl:S.length≤1000:=by simp at h4;omega
  cases he:o.els with
  | true =>
   have:=LA h (n:=n) ho he (by omega) hl (fun y hy=>by have:=(h3 y hy).2;omega)
   unfold Ms.add
   simpa [he] using this
  | false =>
   have:=HX h (n:=n) ho he (by omega) hl (fun y hy=>by have:=(h3 y hy).1;omega)
   unfold Ms.add
   simpa [he] using this
theorem jT {s t:Ms} {w:Wd} (h:s.wf) (hs:b9 s w=.inl t):t.wf:=by
 unfold b9 at hs
 split at hs
 ·split at hs
  ·cases hs
  ·rename_i o ho
   split at hs
   ·cases hs
   ·cases hs
    intro p hp
    simp only [List.length_modify]
    rcases List.mem_append.1 hp with hp | hp
    ·exact h p ((List.dropLast_sublist _).subset hp)
    ·obtain rfl:=List.mem_singleton.1 hp;exact h o (List.mem_of_getLast? ho)
 ·split at hs
  ·split at hs
   ·cases hs
   ·cases hs
    exact fun p hp=>h p ((List.dropLast_sublist _).subset hp)
  ·split at hs
   ·cases hs
   ·simp only [Sum.inl.injEq] at hs
    subst hs
    have hb:(Ms.add { s with nodes:=s.nodes ++ [bS w] } [s.nodes.length]).wf:=by rw [xr h];exact tg h _ _
    split
    ·intro p hp
     simp only [List.mem_append,List.mem_singleton] at hp
     rcases hp with hp | rfl
     ·exact hb p hp
     ·rw [gp];simp
    ·exact hb
theorem jU {s t:Ms} {w:Wd} {k:Nat} (h:s.sz k) (hs:b9 s w=.inl t):t.sz (k+1):=by
 have h':=h.mono (Nat.le_succ k)
 unfold b9 at hs
 split at hs
 ·split at hs
  ·cases hs
  ·rename_i o ho
   split at hs
   ·cases hs
   ·cases hs
    have aY:s.stack≠[]:=fun e=>by rw [e] at ho;cases ho
    have hl:0 < s.stack.length:=List.length_pos_iff.2 aY
    refine ⟨by simpa using h'.nodes,h'.top,fun y hy=>?_,?_⟩
    ·obtain ⟨z,hz,e⟩:=mem_modify hy
     rcases e with rfl | rfl
     ·exact h'.two _ hz
     ·exact h'.two z hz
    ·have:=h.stack
     simp only [List.length_append,List.length_dropLast,List.length_cons,List.length_nil];omega
 ·split at hs
  ·split at hs
   ·cases hs
   ·cases hs
    exact ⟨h'.nodes,h'.top,h'.two,by have:=h.stack;simp only [List.length_dropLast];omega⟩
  ·split at hs
   ·cases hs
   ·rename_i Qu
    simp only [Sum.inl.injEq] at hs
    subst hs
    have h1:(Ms.sz { s with nodes:=s.nodes ++ [bS w] } (k+1)):=⟨by have:=h.nodes;simp;omega,h'.top,fun y hy=>by
     rcases List.mem_append.1 hy with hy | hy
     ·exact h'.two y hy
     ·obtain rfl:=List.mem_singleton.1 hy;exact ⟨Nat.zero_le _,Nat.zero_le _⟩,h.stack⟩
    have hb:(Ms.add { s with nodes:=s.nodes ++ [bS w] } [s.nodes.length]).sz (k+1):=by
     unfold Ms.add
     split
     ·exact ⟨h1.nodes,by simp only [List.length_append,List.length_cons,List.length_nil];have:=h.top;omega,h1.two,h1.stack⟩
     ·have h2:∀ (f:Mn→Mn),(∀ z,(z.body.length≤k∧z.els.length≤k)→(f z).body.length≤k+1∧(f z).els.length≤k+1)→∀ i,∀ y ∈ (s.nodes ++ [bS w]).modify i f,y.body.length≤k+1∧y.els.length≤k+1:=fun f hf i y hy=>by
       obtain ⟨z,hz,e⟩:=mem_modify hy
       have lU:z.body.length≤k∧z.els.length≤k:=by
        rcases List.mem_append.1 hz with hz | hz
        ·exact h.two z hz
        ·obtain rfl:=List.mem_singleton.1 hz;exact ⟨Nat.zero_le _,Nat.zero_le _⟩
       rcases e with rfl | rfl
       ·omega
       ·exact hf z lU
      split
      ·exact ⟨by simpa using h1.nodes,h1.top,h2 _ (fun z hz=>by simp only [List.length_append,List.length_cons,List.length_nil];omega) _,h1.stack⟩
      ·exact ⟨by simpa using h1.nodes,h1.top,h2 _ (fun z hz=>by simp only [List.length_append,List.length_cons,List.length_nil];omega) _,h1.stack⟩
    split
    ·rename_i hk
     refine ⟨hb.nodes,hb.top,hb.two,?_⟩
     have aap:s.stack.length < 16:=by
      rw [hk,Bool.true_and,decide_eq_true_eq] at Qu
      omega
     simp only [List.length_append,jq,List.length_cons,List.length_nil]
     omega
    ·exact hb
theorem LB (l:List UInt8):(dN l).kind.toNat≤6:=by
 unfold dN Hw
 repeat' split
 all_goals first
  | decide
  | exact (by decide:(1:UInt8).toNat≤6)
  | exact (by decide:(2:UInt8).toNat≤6)
  | exact (by decide:(4:UInt8).toNat≤6)
theorem k8:∀ (n:Nat) (r:List UInt8) (a:Nat) (acc:List Wd),(∀ w ∈ acc,w.kind.toNat≤6)→∀ w ∈ (dC n r a acc).1,w.kind.toNat≤6
 | 0,r,a,acc,h=>h
 | n+1,r,a,acc,h=>by
  rw [dC]
  split
  ·exact h
  ·split
   ·refine k8 n _ _ _ fun w hw=>?_
    rcases List.mem_append.1 hw with hw | hw
    ·exact h w hw
    ·obtain rfl:=List.mem_singleton.1 hw;exact Nat.zero_le _
   ·split
    ·exact h
    ·split
     ·refine k8 n _ _ _ fun w hw=>?_
      rcases List.mem_append.1 hw with hw | hw
      ·exact h w hw
      ·obtain rfl:=List.mem_singleton.1 hw;exact LB _
     ·exact h
def xw (l:List UInt8):Mr :=
 if l.length > 65536 then .bad 0 2
 else if 0≤(bl l).2 then .bad (bl l).2.toNat 4
 else iM (bl l).1
def Mn.av (y:Mn):AV:=.ag [.u8 y.kind, .int (y.at':Int), .s y.text, .b y.root,y.names, .ro 1 (aA y.body), .ro 1 (aA y.els), .b y.has, .u8 0]
def rD (w:World) (F:Nat→Prop) (r:Mr) (e:Ending) (w':World):Prop:=Ext w w'∧match r with
 | .bad a er=>e=.returned (.tuple #[.agg #[.slice none 0 0, .slice none 0 0], .int .i64 (a:Int), .int .i64 (er:Int)])
 | .ok nodes top=>∃ (fE:Option Addr) (n2 c2:Nat) (mj:Option Addr) (c3:Nat),e=.returned (.tuple #[.agg #[.slice fE n2 c2, .slice mj top.length c3], .int .i64 0, .int .i64 0]) ∧
   aX w' (fun b=>(b < w.heap.size→F b)∧(Value.slice fE n2 c2).ownBlock≠some b) 58 9 (nodes.map Mn.av) (.slice fE n2 c2)∧(∀ g,(Value.slice fE n2 c2).ownBlock=some g→w.heap.size≤g∧g < w'.heap.size) ∧
   Rel w' (fun b=>(b < w.heap.size→F b)∧(Value.slice fE n2 c2).ownBlock≠some b) (.ro 1 (aA top)) (.slice mj top.length c3)
theorem results36 (T:Array Value) (W:World) (N:Nat) (x y a b:Value) (t2:T[2]?.getD undef=.pointer (some ⟨N,0,none⟩)) (t3:T[3]?.getD undef=a) (t4:T[4]?.getD undef=b) (h0:W.heap[N]?=some (.cells #[x,y] 26)) :
  (results Tryz.f21 T).run Tryz.prog W=.ok (.tuple #[.agg #[x,y],a,b]) W:=by
 have hr:Tryz.f21.results = #[.cell 2 26, .tmp 3, .tmp 4]:=by kernel_rfl
 have l1:(loadVar 26 ⟨N,0,none⟩).run Tryz.prog W=.ok (.agg #[x,y]) W:=by
  simp [loadVar,go_sem,(aL h0).1,(aL h0).2.1,Result.andThen]
 unfold results
 rw [hr]
 simp [t2,t3,t4,Sem.run_bind,asAddr,l1,Result.andThen]
theorem LC {mx:Int} {C:cS} (AG:C.glob 1=some (1, .int mx)) {w:World} {F:Nat→Prop} (hG:aN C w F):w.cell? ⟨1,0,none⟩=some (.int .i64 mx)∧F 1:=by
 obtain ⟨r,o,h1,h2,h3,h4⟩:=hG 1 1 _ AG
 simp only [Value.pointer.injEq,Option.some.injEq,Addr.mk.injEq,Nat.add_zero] at h1
 obtain ⟨v,q1,q2,q3⟩:=h4 0 (by decide)
 obtain ⟨rfl,rfl,_⟩:=h1
 have q3:Rel w F (.int mx) v:=q3
 cases q3
 exact ⟨q1,h2⟩
theorem vf {w:World} {F:Nat→Prop} {a b:AV} {x y:Value} (hx:Rel w F a x) (hy:Rel w F b y) (h1:x.oneCell'=true) (h2:y.oneCell'=true):Rel w F (.ag [a,b]) (.agg #[x,y]):=by
 refine Rel.ag [a,b] [x,y] rfl (fun v hv=>?_) (fun j v hv=>?_)
 ·simp only [List.mem_cons,List.not_mem_nil,or_false] at hv
  rcases hv with rfl | rfl
  ·exact h1
  ·exact h2
 ·match j,hv with
  | 0,hv=>cases hv;exact hx
  | 1,hv=>cases hv;exact hy
  | j+2,hv=>simp at hv
theorem Row.rel {W:World} {base:Nat} {tag:Nat→Tg} {t:Tg} {v:Value} {l:List Nat} (h:Row W base tag t 3 1 v l.length (ints l)) {G:Nat→Prop} (hG:∀ b,base≤b→tag b=t→G b):Rel W G (.ro 1 (aA l)) v:=by
 have ho:aX W G 3 1 (aA l) v:=by
  refine ⟨by decide,ints l,?_,?_,?_⟩
  ·rw [jN];exact kM h.1 (Nat.zero_le _)
  ·intro u hu
   obtain ⟨n,_,rfl⟩:=List.mem_map.1 hu
   rfl
  ·intro i j u hi hj hu
   have:j=0:=by omega
   subst this
   rw [jN] at hi
   simp only [Nat.mul_one,Nat.add_zero] at hu
   have e:(ints l)[i]?=some (Bj l[i]):=by simp [ints,List.getElem?_eq_getElem hi]
   rw [e] at hu
   cases hu
   have e2:(aA l).getD i .un=.int (l[i]:Int):=by simp [aA,List.getD_eq_getElem?_getD,List.getElem?_eq_getElem hi]
   rw [e2]
   exact .int _
 exact ho.rel (fun _ _ h=>h) (fun g hg=>hG g (h.1.lt g hg).1 (h.2 g hg))
theorem PM.rel {w W:World} {F:Nat→Prop} {b7:Nat} {s:Ms} {X:List Vn} {tag:Nat→Tg} {vn vt vs:Value} (h:PM w F b7 s X tag vn vt vs W) :
  aX W (fun b=>(b < w.heap.size→F b)∧vn.ownBlock≠some b) 58 9 (s.nodes.map Mn.av) vn∧(∀ g,vn.ownBlock=some g→w.heap.size≤g∧g < W.heap.size)∧Rel W (fun b=>(b < w.heap.size→F b)∧vn.ownBlock≠some b) (.ro 1 (aA s.top)) vt:=by
 have h7:=h.zL
 have hG:∀ b (t:Tg),t≠.nodes→b7+1≤b→tag b=t→(b < w.heap.size→F b)∧vn.ownBlock≠some b:=fun b t ht hb hbt=>⟨fun aM=>by omega,fun e=>ht (hbt.symm.trans (h.nd.2 b e))⟩
 generalize ZD:(fun b=>(b < w.heap.size→F b)∧vn.ownBlock≠some b)=G
 have hG:∀ b (t:Tg),t≠.nodes→b7+1≤b→tag b=t→G b:=fun b t h1 h2 h3=>by rw [← ZD];exact hG b t h1 h2 h3
 have hF:∀ b,b < w.heap.size→F b→G b:=fun b hb hf=>by
  rw [← ZD]
  exact ⟨fun _=>hf,fun e=>by have:=(h.nd.1.lt b e).1;omega⟩
 refine ⟨?_,fun g hg=>⟨by have:=(h.nd.1.lt g hg).1;omega,(h.nd.1.lt g hg).2⟩,h.tp.rel fun b hb ht=>hG b _ (by simp) hb ht⟩
 have hl:(s.nodes.map Mn.av).length=X.length:=by rw [List.length_map,h.len]
 ·refine ⟨by decide,X.flatMap Vn.cells,?_,?_,?_⟩
  ·rw [hl];exact kM h.nd.1 (Nat.zero_le _)
  ·intro u hu
   obtain ⟨x,hx,hu⟩:=List.mem_flatMap.1 hu
   obtain ⟨i,hi,rfl⟩:=List.mem_iff_getElem.1 hx
   have eQ:i < s.nodes.length:=by rw [← h.len];exact hi
   have MK:=h.lk i _ _ (List.getElem?_eq_getElem hi) (List.getElem?_eq_getElem eQ)
   obtain ⟨hb,he⟩:=h.bd i _ _ (List.getElem?_eq_getElem hi) (List.getElem?_eq_getElem eQ)
   obtain ⟨_,_,eb⟩:=fj hb.1
   obtain ⟨_,_,ee⟩:=fj he.1
   simp only [Vn.cells,List.mem_cons,List.not_mem_nil,or_false] at hu
   rcases hu with rfl | rfl | rfl | rfl | rfl | rfl | rfl | rfl | rfl
   ·rfl
   ·rfl
   ·rfl
   ·rfl
   ·exact MK.one
   ·rw [eb];rfl
   ·rw [ee];rfl
   ·rfl
   ·rfl
  ·intro i j u hi hj hu
   rw [hl] at hi
   have eQ:i < s.nodes.length:=by rw [← h.len];exact hi
   have MK:=h.lk i _ _ (List.getElem?_eq_getElem hi) (List.getElem?_eq_getElem eQ)
   obtain ⟨hb,he⟩:=h.bd i _ _ (List.getElem?_eq_getElem hi) (List.getElem?_eq_getElem eQ)
   rw [pz X i j _ (List.getElem?_eq_getElem hi) hj] at hu
   have e2:(s.nodes.map Mn.av).getD i .un=(s.nodes[i]).av:=by simp [List.getD_eq_getElem?_getD,List.getElem?_eq_getElem eQ]
   rw [e2]
   have je:=MK.kind
   have qB:=MK.at'
   have Us:=MK.text
   have hrt:=MK.root
   have hhs:=MK.has
   have oA:Rel W G (s.nodes[i]).names (X[i]).nm:=MK.nm.mono fun b hb hf=>⟨hF b hb hf,h.ext.block b hb⟩
   have rb:=hb.rel (G:=G) fun b hb ht=>hG b _ (by simp) (by omega) ht
   have re:=he.rel (G:=G) fun b hb ht=>hG b _ (by simp) (by omega) ht
   generalize s.nodes[i]=y at *
   generalize X[i]=x at *
   match j,hj,hu with
   | 0,_,hu=>cases hu;show Rel W G (.u8 y.kind) _;rw [← je];exact .u8 _
   | 1,_,hu=>cases hu;show Rel W G (.int (y.at':Int)) _;rw [← qB];exact .int _
   | 2,_,hu=>cases hu;show Rel W G (.s y.text) _;rw [← Us];exact .s _
   | 3,_,hu=>cases hu;show Rel W G (.b y.root) _;rw [← hrt];exact .b _
   | 4,_,hu=>cases hu;exact oA
   | 5,_,hu=>cases hu;exact rb
   | 6,_,hu=>cases hu;exact re
   | 7,_,hu=>cases hu;show Rel W G (.b y.has) _;rw [← hhs];exact .b _
   | 8,_,hu=>cases hu;exact .u8 0
   | j+9,hj,_=>omega
end R3
namespace R3
open Go Go.Proofs Sx
variable {mx:Int}
def Ut (l:List UInt8):Nat→Bool→List Wd→Prop
 | a,_,[]=>a=l.length
 | a,pv,w :: ws=>w.at'=a∧∃ m,0 < m∧a+m≤l.length∧(w.kind=0→w.text=(l.drop a).take m∧pv=false)∧(w.kind≠0→w.text=[]∧5≤m∧((l.drop a).take m).take 2=ru∧((l.drop a).take m).drop (m - 2)=oc)∧Ut l (a+m) (w.kind == 0) ws
theorem HY (r:List UInt8) (h0:bR r=0) (aY:0 < r.length):r.take 2=ru:=by
 unfold bR at h0
 split at h0
 ·omega
 ·rename_i hn
  rcases Lib.index_spec r ru with ⟨h1,_⟩ | ⟨i,h1,h2,h3,_⟩
  ·omega
  ·obtain rfl:i=0:=by omega
   have:=(Lib.occAt_iff_take r ru 0 (by have:=Lib.index_room r ru (by omega);have e:(ru.length:Int)=2:=rfl;have e':ru.length=2:=rfl;omega)).symm.trans h3
   simpa [ru] using eq_of_beq this
theorem Ut.len {l:List UInt8}:∀ (ws:List Wd) (a:Nat) (pv:Bool),Ut l a pv ws→a+ws.length≤l.length
 | [],a,pv,h=>by have h:a=l.length:=h;simp [h]
 | w :: ws,a,pv,h=>by
  obtain ⟨_,m,h1,h2,_,_,h5⟩:=h
  have:=Ut.len ws _ _ h5
  simp only [List.length_cons]
  omega
theorem ED (x:List UInt8):cr .neq (.s x) (.s x)=some (.b false):=by simp [cr,E0]
theorem tw (l:List UInt8) (a m:Nat) (h:a+m≤l.length):ic (.s l) (some (.int (a:Int))) (some (.int ((a+m:Nat):Int)))=some (.s ((l.drop a).take m)):=by
 have e:l=l.take a ++ l.drop a:=(List.take_append_drop a l).symm
 have:=A1 (l.take a) (l.drop a) m (by rw [List.length_drop];omega)
 rw [← e] at this
 have hl:(l.take a).length=a:=by simp;omega
 rw [hl] at this
 exact this
def Dc (run:RunT) (a:Int) (b:Bool) (d:AV) (e:Bool) (f:AV):Option AV :=
 run ((bL 4 ((Tryz.f26.body).getD .skip) []).getD []) (St.bU [(2, .cell (.ptr 2 0)),(3, .cell (.ptr 3 0)),(5, .cell (.val (.int a)))] [(2,some [.val (.b b), .val (d)]),(3,some [.val (.b e), .val (f)])])
def Xt (a:Bool) (b:AV) (d:Bool) (e:AV) (c:al) (r:RunT):Option AV :=
 (aq (.b (a != d)) false ((eP b).bind fun f=>(eP e).bind fun g=>(aD .neq f g).bind fun i=>some i) (.b true)).bind fun j=>ah j
 (some (.b false))
 (Dc r 0 a b d e)
theorem c26 (a b d e) {r:AV} (h:Xt a b d e (ae (C mx) Tryz.prog) (af (C mx) Tryz.prog 26 Tryz.f26)=some r):ae (C mx) Tryz.prog 26 [.ag [.b a,b], .ag [.b d,e]]=some r :=
 aj (fun _ _=>by kernel_rfl) h
def Dd (a:Int) (b:Bool) (d:AV) (e:Bool) (f:AV) (c:al) (r:RunT):Option AV :=
 (eP d).bind fun g=>(aD .lss (.int a) g).bind fun i=>ah i
 ((idx 1 d (.int a)).bind fun j=>(idx 1 f (.int a)).bind fun k=>(cr .neq (AV.cell j 0) (AV.cell k 0)).bind fun l=>ah l
 (some (.b false))
 (Dc r (bJ (a+1)) b d e f))
 (some (.b true))
theorem HZ (a b d e f) {r:AV} (h:Dd a b d e f (ae (C mx) Tryz.prog) (af (C mx) Tryz.prog 26 Tryz.f26)=some r):Dc (af (C mx) Tryz.prog 26 Tryz.f26) a b d e f=some r :=
 ak (fun _ _=>by kernel_rfl) h
theorem Xu (p:List (List UInt8)) (x:List UInt8) (r:List (List UInt8)):idx 1 (.ro 1 ((p ++ x :: r).map .s)) (.int (p.length:Int))=some (.s x):=by
 show (if 1=1 then (lZ ((p ++ x :: r).map AV.s).length (.int (p.length:Int))).bind fun n=>some (((p ++ x :: r).map AV.s).getD n .un) else none)=_
 rw [if_pos rfl,e9 (by simp)]
 simp
theorem ZE (b:Bool):∀ (r p:List (List UInt8)),(p ++ r).length≤1000000000→Dc (af (C mx) Tryz.prog 26 Tryz.f26) (p.length:Int) b (.ro 1 ((p ++ r).map .s)) b (.ro 1 ((p ++ r).map .s))=some (.b true)
 | [],p,h=>by
  apply HZ
  have e:decide ((p.length:Int) < (((p ++ []).map AV.s).length:Int))=false:=by simp
  simp only [Dd,dE,bm,e,Option.bind_some,ai,Bool.false_eq_true,if_false]
 | x :: r,p,h=>by
  apply HZ
  have hl:p.length+(r.length+1)≤1000000000:=by simpa using h
  have ih:=ZE b r (p ++ [x]) (by simp;omega)
  have hw:bJ ((p.length:Int)+1)=((p ++ [x]).length:Int):=by rw [cH (by omega) (by omega)];simp
  have e1:p ++ x :: r=(p ++ [x]) ++ r:=by simp
  have aM:decide ((p.length:Int) < (((p ++ x :: r).map AV.s).length:Int))=true:=by rw [decide_eq_true_eq];simp;omega
  have hc:AV.cell (.s x) 0=.s x:=rfl
  simp only [Dd,dE,bm,aM,Xu,hc,ED,Option.bind_some,ai,Bool.false_eq_true,if_false,if_true,hw]
  rw [e1]
  exact ih
theorem s26 (b:Bool) (v:AV) (h:SV v):ae (C mx) Tryz.prog 26 [.ag [.b b,v], .ag [.b b,v]]=some (.b true):=by
 apply c26
 have hb:(b != b)=false:=by simp
 rcases h with rfl | ⟨l,rfl,hl⟩
 ·have e0:eP .aC=some (.int 0):=rfl
  simp only [Xt,hb,e0,gi,bne_self_eq_false,Option.bind_some,aI,Bool.or_false,ai,Bool.false_eq_true,if_false]
  apply HZ
  simp only [Dd,e0,bm,Option.bind_some]
  rfl
 ·simp only [Xt,hb,dE,gi,bne_self_eq_false,Option.bind_some,aI,Bool.or_false,ai,Bool.false_eq_true,if_false]
  exact ZE (mx:=mx) b l [] (by simpa using hl)
theorem vg (b:UInt8) (n:Nat) (l:List UInt8):bZ b (List.replicate n b ++ l)=bZ b l:=by
 unfold bZ
 induction n with
 | zero=>rfl
 | succ n ih=>rw [List.replicate_succ,List.cons_append,List.dropWhile_cons];simpa using ih
theorem EE (b:UInt8) (n:Nat) (l:List UInt8):ck b (l ++ List.replicate n b)=ck b l:=by
 unfold ck
 rw [List.reverse_append,List.reverse_replicate]
 have:=vg b n l.reverse
 unfold bZ at this
 rw [this]
theorem vh (b:UInt8) (p l:List UInt8):ck b (p ++ l)=if ck b l=[] then ck b p else p ++ ck b l:=by
 unfold ck
 rw [List.reverse_append,List.dropWhile_append]
 cases h:List.dropWhile (· == b) l.reverse with
 | nil=>simp
 | cons x r=>simp
def H0:Code:=(Tryz.f64.body).getD .skip
def De (run:RunT) (a:AV):Option AV :=
 run ((bL 1 H0 []).getD []) (St.bU [(0, .cell (.val a))] [])
def Df (run:RunT) (a:AV):Option AV :=
 run ((bL 3 H0 []).getD []) (St.bU [(0, .cell (.val a))] [])
def X64 (a:List UInt8) (c:al) (r:RunT):Option AV :=
 De r (.s a)
theorem c64 a {r:AV} (h:X64 a (ae (C mx) Tryz.prog) (af (C mx) Tryz.prog 64 Tryz.f64)=some r):ae (C mx) Tryz.prog 64 [.s a]=some r :=
 aj (fun _ _=>by kernel_rfl) h
def ML (a:AV) (c:al) (r:RunT):Option AV :=
 (iO a).bind fun b=>(aD .gtr b (.int 0)).bind fun d=>(aq d true ((df a (.int 0)).bind fun e=>(aD .eql e (.u8 32)).bind fun f=>some f) (.b false)).bind fun g=>ah g
 ((ic a (some (.int 1)) none).bind fun i=>De r i)
 (Df r a)
def MM (a:AV) (c:al) (r:RunT):Option AV :=
 (iO a).bind fun b=>(aD .gtr b (.int 0)).bind fun d=>(aq d true ((iO a).bind fun e=>(aD .sub e (.int 1)).bind fun f=>(df a f).bind fun g=>(aD .eql g (.u8 32)).bind fun i=>some i) (.b false)).bind fun j=>ah j
 ((iO a).bind fun k=>(aD .sub k (.int 1)).bind fun l=>(ic a none (some l)).bind fun m=>Df r m)
 (some a)
theorem MN a {r:AV} (h:ML a (ae (C mx) Tryz.prog) (af (C mx) Tryz.prog 64 Tryz.f64)=some r):De (af (C mx) Tryz.prog 64 Tryz.f64) a=some r :=
 ak (fun _ _=>by kernel_rfl) h
theorem MO a {r:AV} (h:MM a (ae (C mx) Tryz.prog) (af (C mx) Tryz.prog 64 Tryz.f64)=some r):Df (af (C mx) Tryz.prog 64 Tryz.f64) a=some r :=
 ak (fun _ _=>by kernel_rfl) h
def Xv (a b:List UInt8) (c:al) (r:RunT):Option AV :=
 (aq (.b (decide (((a.length:Int)) > ((b.length:Int))))) true ((ic (.s a) none (some (.int ((b.length:Int))))).bind fun d=>(cr .eql d (.s b)).bind fun e=>some e) (.b false)).bind fun f=>(aq f true ((df (.s a) (.int ((b.length:Int)))).bind fun g=>(aD .eql g (.u8 32)).bind fun i=>some i) (.b false)).bind fun j=>some j
theorem c65 (a b) {r:AV} (h:Xv a b (ae (C mx) Tryz.prog) (af (C mx) Tryz.prog 65 Tryz.f65)=some r):ae (C mx) Tryz.prog 65 [.s a, .s b]=some r :=
 aj (fun _ _=>by kernel_rfl) h
def Xw (a:List UInt8) (b:Int) (d:List UInt8) (c:al) (r:RunT):Option AV :=
 (aq (.b (decide (b ≥ 0))) true (some (.b (decide ((bJ (((a.length:Int)) - b)) ≥ ((d.length:Int)))))) (.b false)).bind fun e=>(aq e true ((ic (.s a) (some (.int b)) (some (.int (bJ (b+((d.length:Int))))))).bind fun f=>(cr .eql f (.s d)).bind fun g=>some g) (.b false)).bind fun i=>some i
theorem c52 (a b d) {r:AV} (h:Xw a b d (ae (C mx) Tryz.prog) (af (C mx) Tryz.prog 52 Tryz.f52)=some r):ae (C mx) Tryz.prog 52 [.s a, .int b, .s d]=some r :=
 aj (fun _ _=>by kernel_rfl) h
def zx (run:RunT) (a:List UInt8) (b:Int):Option AV :=
 run ((bL 4 ((Tryz.f76.body).getD .skip) []).getD []) (St.bU [(0, .cell (.val (.s a))),(3, .cell (.val (.int b)))] [])
def ZF (a:List UInt8) (c:al) (r:RunT):Option AV :=
 (aq (.b (((a.length:Int)) == 0)) false (some (.b (decide (((a.length:Int)) > 32)))) (.b true)).bind fun b=>(aq b false ((df (.s a) (.int 0)).bind fun d=>(aD .lss d (.u8 97)).bind fun e=>some e) (.b true)).bind fun f=>(aq f false ((df (.s a) (.int 0)).bind fun g=>(aD .gtr g (.u8 122)).bind fun i=>some i) (.b true)).bind fun j=>ah j
 (some (.b false))
 (zx r a 0)
theorem c76 a {r:AV} (h:ZF a (ae (C mx) Tryz.prog) (af (C mx) Tryz.prog 76 Tryz.f76)=some r):ae (C mx) Tryz.prog 76 [.s a]=some r :=
 aj (fun _ _=>by kernel_rfl) h
def H4 (a:List UInt8) (b:Int) (c:al) (r:RunT):Option AV :=
 ah (.b (decide (b < ((a.length:Int)))))
 ((df (.s a) (.int b)).bind fun d=>(aD .geq d (.u8 97)).bind fun e=>(aq e true ((aD .leq d (.u8 122)).bind fun f=>some f) (.b false)).bind fun g=>(aq g false ((aD .geq d (.u8 48)).bind fun i=>(aq i true ((aD .leq d (.u8 57)).bind fun j=>some j) (.b false)).bind fun k=>some k) (.b true)).bind fun l=>(aq l false ((aD .eql d (.u8 95)).bind fun m=>some m) (.b true)).bind fun n=>(unop .not n).bind fun o=>ah o
 (some (.b false))
 (zx r a (bJ (b+1))))
 (some (.b true))
theorem MP (a b) {r:AV} (h:H4 a b (ae (C mx) Tryz.prog) (af (C mx) Tryz.prog 76 Tryz.f76)=some r):zx (af (C mx) Tryz.prog 76 Tryz.f76) a b=some r :=
 ak (fun _ _=>by kernel_rfl) h
theorem np (b:UInt8):∀ (l:List UInt8),∃ n,l=List.replicate n b ++ bZ b l∧(bZ b l=[]∨∃ x r,bZ b l=x :: r∧(x == b)=false)
 | []=>⟨0,rfl,Or.inl rfl⟩
 | x :: r=>by
  obtain ⟨n,h1,h2⟩:=np b r
  cases hx:(x == b) with
  | true =>
   have e:bZ b (x :: r)=bZ b r:=by unfold bZ;rw [List.dropWhile_cons,if_pos hx]
   rw [e]
   have lS:x=b:=by simpa using hx
   subst lS
   exact ⟨n+1,by rw [List.replicate_succ,List.cons_append,← h1],h2⟩
  | false =>
   have e:bZ b (x :: r)=x :: r:=by unfold bZ;rw [List.dropWhile_cons,if_neg (by rw [hx];decide)]
   rw [e]
   exact ⟨0,rfl,Or.inr ⟨x,r,rfl,hx⟩⟩
theorem EF (b:UInt8) (l:List UInt8):∃ t,l=ck b l ++ t:=by
 refine ⟨(l.reverse.takeWhile (· == b)).reverse,?_⟩
 unfold ck
 rw [← List.reverse_append,List.takeWhile_append_dropWhile,List.reverse_reverse]
theorem Bl (b:UInt8) (n:Nat):ck b (List.replicate n b)=[]:=by
 have:=EE b n []
 simpa [ck] using this
theorem vj (b:UInt8) (l:List UInt8):ck b (bZ b l)=bZ b (ck b l):=by
 obtain ⟨n,h1,h2⟩:=np b l
 generalize hm:bZ b l=m at h1 h2
 rw [h1,vh]
 split
 ·rename_i h
  rw [h,Bl];rfl
 ·rename_i h
  rw [vg]
  rcases h2 with rfl | ⟨x,r,rfl,hx⟩
  ·exact absurd rfl h
  ·obtain ⟨t,ht⟩:=EF b (x :: r)
   cases hd:ck b (x :: r) with
   | nil=>exact absurd hd h
   | cons y q =>
    rw [hd] at ht
    have:x=y:=(List.cons.inj ht).1
    subst this
    unfold bZ
    rw [List.dropWhile_cons,if_neg (by rw [hx];decide)]
theorem H5:∀ (n:Nat) (l:List UInt8),l.length=n→n≤1000000000→Df (af (C mx) Tryz.prog 64 Tryz.f64) (.s l)=some (.s (ck 32 l))
 | 0,l,hn,h=>by
  obtain rfl:=List.eq_nil_of_length_eq_zero hn
  apply MO
  rfl
 | n+1,l,hn,h=>by
  apply MO
  obtain ⟨p,x,rfl⟩:∃ p x,l=p ++ [x]:=by
   rcases List.eq_nil_or_concat l with e | ⟨p,x,e⟩
   ·rw [e] at hn;cases hn
   ·exact ⟨p,x,by simpa using e⟩
  have hp:p.length=n:=by simpa using hn
  have ih:=H5 n p hp (by omega)
  have hl:(p ++ [x]).length=p.length+1:=by simp
  have kq:aD .sub (.int ((p.length+1:Nat):Int)) (.int 1)=some (.int (p.length:Int)):=by
   show some (AV.int (bJ _))=_
   rw [cH (by omega) (by omega)];congr 2;omega
  have hi:df (.s (p ++ [x])) (.int (p.length:Int))=some (.u8 x):=iE p x []
  have hs:ic (.s (p ++ [x])) none (some (.int (p.length:Int)))=some (.s p):=by
   rw [mS (by simp)];simp
  simp only [MM,kR,hl,Ug,kq,hi,hs,Option.bind_some,cG,ax,Bool.true_and,ai]
  unfold ck
  rw [List.reverse_append,List.reverse_singleton,List.singleton_append,List.dropWhile_cons]
  cases hx:(x == (32:UInt8)) with
  | true=>simp only [if_true];exact ih
  | false=>simp only [Bool.false_eq_true,if_false];simp
theorem MQ:∀ (l:List UInt8),l.length≤1000000000→De (af (C mx) Tryz.prog 64 Tryz.f64) (.s l)=some (.s (ck 32 (bZ 32 l)))
 | [],_=>by
  apply MN
  have:=H5 (mx:=mx) 0 [] rfl (by omega)
  exact this
 | x :: r,h=>by
  apply MN
  have ih:=MQ r (by simp at h;omega)
  have hi:df (.s (x :: r)) (.int 0)=some (.u8 x):=fa (i:=0) (l:=x :: r) (by simp)
  have hs:ic (.s (x :: r)) (some (.int 1)) none=some (.s r):=mT (l:=x :: r) (i:=1) (by simp)
  simp only [ML,kR,List.length_cons,Ug,hi,hs,Option.bind_some,cG,ax,Bool.true_and,ai]
  unfold bZ
  rw [List.dropWhile_cons]
  cases hx:(x == (32:UInt8)) with
  | true=>simp only [if_true];exact ih
  | false=>simp only [Bool.false_eq_true,if_false];exact H5 (mx:=mx) _ (x :: r) rfl h
theorem Xx (l:List UInt8) (h:l.length≤1000000000):ae (C mx) Tryz.prog 64 [.s l]=some (.s (kS l)):=by
 apply c64
 have:=MQ (mx:=mx) l h
 rw [vj] at this
 exact this
theorem LD (p l:List UInt8):pre p l=p.isPrefixOf l:=by
 rw [Bool.eq_iff_iff,List.isPrefixOf_iff_prefix]
 unfold pre
 simp only [Bool.and_eq_true,decide_eq_true_eq,beq_iff_eq]
 constructor
 ·rintro ⟨_,h⟩
  have e:l.take p.length ++ l.drop p.length=l:=List.take_append_drop _ _
  rw [h] at e
  exact ⟨l.drop p.length,e⟩
 ·rintro ⟨t,rfl⟩
  exact ⟨by simp,by simp⟩
theorem ZG (l p:List UInt8) (hl:l.length≤1000000000):ae (C mx) Tryz.prog 65 [.s l, .s p]=some (.b (pre (p ++ [32]) l)):=by
 apply c65
 by_cases h:p.length < l.length
 ·have hd:decide ((l.length:Int) > (p.length:Int))=true:=by rw [decide_eq_true_eq];omega
  have hs:ic (.s l) none (some (.int (p.length:Int)))=some (.s (l.take p.length)):=mS (by omega)
  have hi:df (.s l) (.int (p.length:Int))=some (.u8 l[p.length]):=fa h
  simp only [Xv,hd,hs,hi,nU,cG,ax,Option.bind_some,Bool.true_and]
  congr 2
  unfold pre
  have h1:decide ((p ++ [32]).length≤l.length)=true:=by rw [decide_eq_true_eq];simp;omega
  have h2:l.take (p ++ [32]).length=l.take p.length ++ [l[p.length]]:=by
   rw [List.length_append,List.length_singleton,List.take_succ_eq_append_getElem h]
  rw [h1,h2,Bool.true_and,Bool.eq_iff_iff,Bool.and_eq_true,beq_iff_eq,beq_iff_eq,beq_iff_eq]
  constructor
  ·rintro ⟨h3,h4⟩;rw [h3,h4]
  ·intro h3
   have h5:=List.append_inj' h3 rfl
   exact ⟨h5.1,by simpa using h5.2⟩
 ·have hd:decide ((l.length:Int) > (p.length:Int))=false:=by rw [decide_eq_false_iff_not];omega
  have hp:pre (p ++ [32]) l=false:=by
   unfold pre
   have:decide ((p ++ [32]).length≤l.length)=false:=by rw [decide_eq_false_iff_not];simp;omega
   rw [this,Bool.false_and]
  rw [hp]
  simp only [Xv,hd]
  rfl
theorem Uu (l p:List UInt8) (k:Nat) (hl:l.length≤1000000000) (hk:k≤l.length) (hp:p.length≤1000000000):ae (C mx) Tryz.prog 52 [.s l, .int (k:Int), .s p]=some (.b (Lib.occAt l p k)):=by
 apply c52
 have h0:decide ((k:Int) ≥ 0)=true:=by rw [decide_eq_true_eq];omega
 have hw:bJ ((l.length:Int) - (k:Int))=((l.length - k:Nat):Int):=by rw [cH (by omega) (by omega)];omega
 have ho:Lib.occAt l p k=pre p (l.drop k):=by rw [LD];rfl
 rw [ho]
 unfold pre
 rw [List.length_drop]
 by_cases h:p.length≤l.length - k
 ·have hd:decide (((l.length - k:Nat):Int) ≥ (p.length:Int))=true:=by rw [decide_eq_true_eq];omega
  have EN:decide (p.length≤l.length - k)=true:=by rw [decide_eq_true_eq];exact h
  have HC:bJ ((k:Int)+(p.length:Int))=((k+p.length:Nat):Int):=by rw [cH (by omega) (by omega)];omega
  have hs:=tw l k p.length (by omega)
  simp only [Xw,h0,hw,hd,EN,HC,hs,nU,ax,Option.bind_some,Bool.true_and]
 ·have hd:decide (((l.length - k:Nat):Int) ≥ (p.length:Int))=false:=by rw [decide_eq_false_iff_not];omega
  have EN:decide (p.length≤l.length - k)=false:=by rw [decide_eq_false_iff_not];exact h
  simp only [Xw,h0,hw,hd,EN,ax,Option.bind_some,Bool.true_and,Bool.false_and]
  rfl
theorem ZH (l:List UInt8) (hl:l.length≤32):∀ (r p:List UInt8),l=p ++ r→zx (af (C mx) Tryz.prog 76 Tryz.f76) l (p.length:Int)=some (.b (r.all (zJ 1)))
 | [],p,e=>by
  apply MP
  have hd:decide ((p.length:Int) < (l.length:Int))=false:=by rw [e];simp
  simp only [H4,hd,ai,Bool.false_eq_true,if_false]
  rfl
 | c :: r,p,e=>by
  apply MP
  have ih:=ZH l hl r (p ++ [c]) (by rw [e];simp)
  have hle:p.length+(r.length+1)≤32:=by rw [e] at hl;simpa using hl
  have hd:decide ((p.length:Int) < (l.length:Int))=true:=by rw [decide_eq_true_eq,e];simp;omega
  have hi:df (.s l) (.int (p.length:Int))=some (.u8 c):=by rw [e];exact iE p c r
  have hw:bJ ((p.length:Int)+1)=((p ++ [c]).length:Int):=by rw [cH (by omega) (by omega)];simp
  simp only [H4,hd,hi,hw,vS,vR,cG,ax,aI,bn,Option.bind_some,ai,if_true]
  rw [List.all_cons]
  have eo:zJ 1 c=(((decide (97≤c) && decide (c≤122)) || (decide (48≤c) && decide (c≤57))) || c == 95):=by
   unfold zJ
   rw [show ((1:Nat) == 0)=false from rfl,Bool.not_false,Bool.true_and,Bool.or_assoc]
  rw [← eo]
  cases ho:zJ 1 c with
  | true=>simp only [Bool.not_true,Bool.false_eq_true,if_false,Bool.true_and];exact ih
  | false=>simp only [Bool.not_false,if_true,Bool.false_and]
theorem tz:∀ (l:List UInt8) (i:Nat),eO (i+1) l=l.all (zJ 1)
 | [],i=>rfl
 | b :: r,i=>by
  rw [eO,tz r (i+1),List.all_cons]
  congr 1
theorem Xy (b:UInt8):zJ 0 b=(decide (97≤b) && decide (b≤122)):=by
 unfold zJ
 simp
theorem ZI (l:List UInt8) (hl:l.length≤1000000000):ae (C mx) Tryz.prog 76 [.s l]=some (.b (eB l)):=by
 apply c76
 cases l with
 | nil=>rfl
 | cons b r =>
  have hi:df (.s (b :: r)) (.int 0)=some (.u8 b):=fa (i:=0) (l:=b :: r) (by simp)
  have h0:(((b :: r).length:Int) == 0)=false:=by rw [beq_eq_false_iff_ne];simp;omega
  unfold eB
  have e1:decide (1≤(b :: r).length)=true:=by rw [decide_eq_true_eq];simp
  rw [eO,tz,Xy,e1,Bool.true_and]
  simp only [ZF,hi,h0,FZ,F4,aI,Option.bind_some,ai,Bool.false_or]
  have aM:decide (b < 97)=!decide (97≤b):=by
   rw [Bool.eq_iff_iff];simp
  have uw:decide (122 < b)=!decide (b≤122):=by
   rw [Bool.eq_iff_iff];simp
  have hln:decide (((b :: r).length:Int) > 32)=!decide ((b :: r).length≤32):=by
   rw [Bool.eq_iff_iff];simp <;> omega
  rw [aM,uw,hln]
  by_cases I1:(b :: r).length≤32
  ·have ih:=ZH (mx:=mx) (b :: r) I1 (b :: r) [] rfl
   rw [List.all_cons] at ih
   have ih:zx (af (C mx) Tryz.prog 76 Tryz.f76) (b :: r) 0=some (.b (zJ 1 b && r.all (zJ 1))):=ih
   rw [ih]
   have:decide ((b :: r).length≤32)=true:=by rw [decide_eq_true_eq];exact I1
   rw [this]
   have ho:zJ 1 b=((decide (97≤b) && decide (b≤122)) || (!((1:Nat) == 0) && ((decide (48≤b) && decide (b≤57)) || b == 95))):=rfl
   rw [ho]
   cases decide (97≤b) <;> cases decide (b≤122) <;> simp
  ·have:decide ((b :: r).length≤32)=false:=by rw [decide_eq_false_iff_not];exact I1
   rw [this]
   simp
def Bm:Code:=(Tryz.f66.body).getD .skip
def Dg (run:RunT) (a:AV) (b:Bool) (d:AV) (e:Bool) (f:List AV):Option AV :=
 run ((bL 9 Bm []).getD []) (St.bU [(0, .cell (.val a)),(2, .cell (.ptr 2 0)),(4, .cell (.ptr 4 0))] [(2,some [.val (.b b), .val (d)]),(4,some [.val (.b e), .own 604001 9 1 f])])
def tA (run:RunT) (a:AV) (b d:Int) (e:Bool) (f:AV) (g:Bool) (i:List AV):Option AV :=
 run ((bL 11 Bm []).getD []) (St.bU [(0, .cell (.val a)),(2, .cell (.ptr 2 0)),(4, .cell (.ptr 4 0)),(5, .cell (.val (.int b))),(6, .cell (.val (.int d)))] [(2,some [.val (.b e), .val (f)]),(4,some [.val (.b g), .own 604001 9 1 i])])
def Bn (run:RunT) (a:AV) (b d:Int) (e:Bool) (f:AV) (g:Bool) (i:List AV):Option AV :=
 run ((bL 12 Bm []).getD []) (St.bU [(0, .cell (.val a)),(2, .cell (.ptr 2 0)),(4, .cell (.ptr 4 0)),(5, .cell (.val (.int b))),(6, .cell (.val (.int d)))] [(2,some [.val (.b e), .val (f)]),(4,some [.val (.b g), .own 604001 9 1 i])])
def Uv (a:List UInt8) (c:al) (r:RunT):Option AV :=
 ah (.b (a == [46]))
 (some (.tu [.ag [.b false, .aC], .b true]))
 (ah (.b (a == [36]))
 (some (.tu [.ag [.b true, .aC], .b true]))
 ((aq (.b (decide (((a.length:Int)) ≥ 2))) true ((df (.s a) (.int 0)).bind fun b=>(aD .eql b (.u8 36)).bind fun d=>some d) (.b false)).bind fun e=>(aq e true ((df (.s a) (.int 1)).bind fun f=>(aD .eql f (.u8 46)).bind fun g=>some g) (.b false)).bind fun i=>ah i
 ((ic (.s a) (some (.int 2)) none).bind fun j=>Dg r j false (.aC) true [])
 (Dg r (.s a) false (.aC) false [])))
theorem c66 a {r:AV} (h:Uv a (ae (C mx) Tryz.prog) (af (C mx) Tryz.prog 66 Tryz.f66)=some r):ae (C mx) Tryz.prog 66 [.s a]=some r :=
 aj (fun _ _=>by kernel_rfl) h
def Th (a:AV) (b:Bool) (d:AV) (e:Bool) (f:List AV) (c:al) (r:RunT):Option AV :=
 tA r a 0 0 b d e f
def tB (a:AV) (b d:Int) (e:Bool) (f:AV) (g:Bool) (i:List AV) (c:al) (r:RunT):Option AV :=
 (iO a).bind fun j=>(aD .leq (.int d) j).bind fun k=>ah k
 ((iO a).bind fun l=>(aD .lss (.int d) l).bind fun m=>(aq m true ((df a (.int d)).bind fun n=>(aD .neq n (.u8 46)).bind fun o=>some o) (.b false)).bind fun p=>ah p
 (Bn r a b d e f g i)
 ((ic a (some (.int b)) (some (.int d))).bind fun q=>(c 76 [q]).bind fun s=>(unop .not s).bind fun t=>(aq t false (some (.b (decide (((i.length:Int)) ≥ 8)))) (.b true)).bind fun u=>ah u
 (some (.tu [.ag [.b false, .aC], .b false]))
 ((ic a (some (.int b)) (some (.int d))).bind fun w=>(AV.one w).bind fun x=>(app 16 1 i (.ro 1 (([x]:List AV)))).bind fun y=>Bn r a (bJ (d+1)) d e f g y)))
 (some (.tu [.ag [.b g, .ro 1 i], .b true]))
def xx (a:AV) (b d:Int) (e:Bool) (f:AV) (g:Bool) (i:List AV) (c:al) (r:RunT):Option AV :=
 tA r a b (bJ (d+1)) e f g i
theorem Ti (a b d e f) {r:AV} (h:Th a b d e f (ae (C mx) Tryz.prog) (af (C mx) Tryz.prog 66 Tryz.f66)=some r):Dg (af (C mx) Tryz.prog 66 Tryz.f66) a b d e f=some r :=
 ak (fun _ _=>by kernel_rfl) h
theorem Bo (a b d e f g i) {r:AV} (h:tB a b d e f g i (ae (C mx) Tryz.prog) (af (C mx) Tryz.prog 66 Tryz.f66)=some r):tA (af (C mx) Tryz.prog 66 Tryz.f66) a b d e f g i=some r :=
 ak (fun _ _=>by kernel_rfl) h
theorem Bp (a b d e f g i) {r:AV} (h:xx a b d e f g i (ae (C mx) Tryz.prog) (af (C mx) Tryz.prog 66 Tryz.f66)=some r):Bn (af (C mx) Tryz.prog 66 Tryz.f66) a b d e f g i=some r :=
 ak (fun _ _=>by kernel_rfl) h
def xy:AV:=.tu [.ag [.b false, .aC], .b false]
def xz (b:Bool) (acc zy:List (List UInt8)):AV :=
 if zy.all eB && decide (acc.length+zy.length≤8) then .tu [.ag [.b b, .ro 1 ((acc ++ zy).map .s)], .b true] else xy
theorem vk (b:Bool) (acc:List (List UInt8)) (x:List UInt8) (t:List (List UInt8)):xz b acc (x :: t)=if !eB x || decide ((acc.length:Int) ≥ 8) then xy else xz b (acc ++ [x]) t:=by
 unfold xz
 rw [List.all_cons]
 cases hx:eB x with
 | false=>simp
 | true =>
  by_cases h8:8≤acc.length
  ·have h1:decide ((acc.length:Int) ≥ 8)=true:=by rw [decide_eq_true_eq];omega
   have h2:decide (acc.length+(x :: t).length≤8)=false:=by rw [decide_eq_false_iff_not];simp;omega
   rw [h1,h2];simp
  ·have h1:decide ((acc.length:Int) ≥ 8)=false:=by rw [decide_eq_false_iff_not];omega
   have h2:(acc ++ [x]).length+t.length=acc.length+(x :: t).length:=by simp;omega
   rw [h1,h2];simp
theorem MR (acc:List (List UInt8)) (x:List UInt8) (h:acc.length≤100):app 16 1 (acc.map .s) (.ro 1 ([.s x]:List AV))=some ((acc ++ [x]).map .s):=by
 have hb:nz=70368744177664:=rfl
 show ((if 1=1 then some [AV.s x] else none).bind fun q=>if ((acc.map AV.s).length+q.length) * 16≤nz then some (acc.map AV.s ++ q) else none)=_
 rw [if_pos rfl]
 simp only [Option.bind_some,List.length_map,List.length_cons,List.length_nil,hb]
 rw [if_pos (by omega),List.map_append];rfl
theorem LG (l:List UInt8) (hl:l.length≤1000000000) (b:Bool) (acc:List (List UInt8)) (i j:Int) (hj:(l.length:Int) < j) (h8:acc.length≤8) :
  tA (af (C mx) Tryz.prog 66 Tryz.f66) (.s l) i j false .aC b (acc.map .s)=some (xz b acc []):=by
 apply Bo
 have hd:decide (j≤(l.length:Int))=false:=by rw [decide_eq_false_iff_not];omega
 simp only [tB,kR,ly,hd,Option.bind_some,ai,Bool.false_eq_true,if_false]
 unfold xz
 have:decide (acc.length+([]:List (List UInt8)).length≤8)=true:=by rw [decide_eq_true_eq];simpa using h8
 rw [this,List.append_nil]
 rfl
theorem Qk (l:List UInt8) (hl:l.length≤1000000000) (b:Bool):∀ (r p cur:List UInt8) (acc:List (List UInt8)) (h:List UInt8) (t:List (List UInt8)),l=p ++ (cur ++ r)→bY r=h :: t→acc.length≤8 →
  tA (af (C mx) Tryz.prog 66 Tryz.f66) (.s l) (p.length:Int) ((p.length+cur.length:Nat):Int) false .aC b (acc.map .s)=some (xz b acc ((cur ++ h) :: t))
 | [],p,cur,acc,h,t,e,hs,h8=>by
  cases hs
  apply Bo
  have el:l.length=p.length+cur.length:=by rw [e];simp
  have hd:decide (((p.length+cur.length:Nat):Int)≤(l.length:Int))=true:=by rw [decide_eq_true_eq];omega
  have Uw:decide (((p.length+cur.length:Nat):Int) < (l.length:Int))=false:=by rw [decide_eq_false_iff_not];omega
  have Eg:=tw l p.length cur.length (by omega)
  have Pz:(l.drop p.length).take cur.length=cur:=by rw [e,List.drop_left,List.append_nil,List.take_length]
  rw [Pz] at Eg
  have hn:=ZI (mx:=mx) cur (by omega)
  simp only [tB,kR,ly,bm,hd,Uw,Eg,hn,jY,bn,Option.bind_some,ai,if_true,eZ,Bool.false_eq_true,if_false,aI,List.length_map]
  rw [List.append_nil,vk]
  cases hc:(!eB cur || decide ((acc.length:Int) ≥ 8)) with
  | true=>simp only [if_true];rfl
  | false =>
   simp only [Bool.false_eq_true,if_false]
   have h7:acc.length < 8:=by
    simp only [Bool.or_eq_false_iff,decide_eq_false_iff_not] at hc
    omega
   simp only [MR acc cur (by omega),Option.bind_some]
   apply Bp
   have hw:bJ (((p.length+cur.length:Nat):Int)+1)=((p.length+cur.length+1:Nat):Int):=by rw [cH (by omega) (by omega)];omega
   simp only [xx,hw]
   exact LG l hl b (acc ++ [cur]) _ _ (by omega) (by simp;omega)
 | c :: r,p,cur,acc,h,t,e,hs,h8=>by
  apply Bo
  have el:l.length=p.length+(cur.length+(r.length+1)):=by rw [e];simp
  have hd:decide (((p.length+cur.length:Nat):Int)≤(l.length:Int))=true:=by rw [decide_eq_true_eq];omega
  have Uw:decide (((p.length+cur.length:Nat):Int) < (l.length:Int))=true:=by rw [decide_eq_true_eq];omega
  have hi:df (.s l) (.int ((p.length+cur.length:Nat):Int))=some (.u8 c):=by
   have:=iE (p ++ cur) c r
   rw [List.length_append,List.append_assoc,← e] at this
   exact this
  have hw:bJ (((p.length+cur.length:Nat):Int)+1)=((p.length+cur.length+1:Nat):Int):=by rw [cH (by omega) (by omega)];omega
  obtain ⟨h',t',lj⟩:=kN r
  rw [lE] at hs
  cases hc:(c == 46) with
  | true =>
   rw [hc,if_pos rfl] at hs
   cases hs
   have aY:(c != 46)=false:=by rw [bne,hc];rfl
   have Eg:=tw l p.length cur.length (by omega)
   have Pz:(l.drop p.length).take cur.length=cur:=by rw [e,List.drop_left,List.take_left]
   rw [Pz] at Eg
   have hn:=ZI (mx:=mx) cur (by omega)
   simp only [tB,kR,ly,bm,hd,Uw,hi,vQ,aY,Eg,hn,jY,bn,Option.bind_some,ai,if_true,ax,Bool.true_and,Bool.false_eq_true,if_false,aI,List.length_map]
   rw [List.append_nil,vk]
   cases hc:(!eB cur || decide ((acc.length:Int) ≥ 8)) with
   | true=>simp only [if_true];rfl
   | false =>
    simp only [Bool.false_eq_true,if_false]
    have h7:acc.length < 8:=by
     simp only [Bool.or_eq_false_iff,decide_eq_false_iff_not] at hc
     omega
    simp only [MR acc cur (by omega),Option.bind_some]
    apply Bp
    simp only [xx,hw]
    have aaq:c=46:=by simpa using ‹(c == 46)=true›
    have ih:=Qk l hl b r (p ++ (cur ++ [c])) [] (acc ++ [cur]) h' t' (by rw [e];simp) lj (by simp;omega)
    have e1:(p ++ (cur ++ [c])).length=p.length+cur.length+1:=by simp;omega
    rw [e1,List.nil_append] at ih
    rw [lj]
    exact ih
  | false =>
   rw [hc,if_neg (by decide),lj] at hs
   cases hs
   have aY:(c != 46)=true:=by rw [bne,hc];rfl
   simp only [tB,kR,ly,bm,hd,Uw,hi,vQ,aY,Option.bind_some,ai,if_true,ax,Bool.true_and]
   apply Bp
   simp only [xx,hw]
   have ih:=Qk l hl b r p (cur ++ [c]) acc h' t (by rw [e];simp) lj h8
   have e1:p.length+(cur ++ [c]).length=p.length+cur.length+1:=by simp;omega
   rw [e1,List.append_assoc] at ih
   exact ih
theorem zz (b:Bool) (zy:List (List UInt8)):xz b [] zy=if zy.all eB && decide (zy.length≤8) then .tu [.ag [.b b, .ro 1 (zy.map .s)], .b true] else xy:=by
 unfold xz
 simp
theorem Dh (l:List UInt8) (hl:l.length≤1000000000) (b:Bool):Dg (af (C mx) Tryz.prog 66 Tryz.f66) (.s l) false .aC b []=some (xz b [] (bY l)):=by
 apply Ti
 obtain ⟨h,t,hs⟩:=kN l
 have:=Qk (mx:=mx) l hl b l [] [] [] h t rfl hs (by simp)
 rw [hs]
 exact this
theorem s66 (l:List UInt8) (hl:l.length≤1000000000):ae (C mx) Tryz.prog 66 [.s l]=some (sD l):=by
 apply c66
 unfold sD
 cases h1:(l == [46]) with
 | true=>simp only [Uv,h1,ai,if_true]
 | false =>
  cases h2:(l == [36]) with
  | true=>simp only [Uv,h1,h2,ai,if_true,Bool.false_eq_true,if_false]
  | false =>
   have Xz:((aq (.b (decide ((l.length:Int) ≥ 2))) true ((df (.s l) (.int 0)).bind fun v1=>(aD .eql v1 (.u8 36)).bind fun v2=>some v2) (.b false)).bind fun v3=>(aq v3 true ((df (.s l) (.int 1)).bind fun v4=>(aD .eql v4 (.u8 46)).bind fun v5=>some v5) (.b false)))=some (.b (cC l)):=by
    match l with
    | []=>rfl
    | [a]=>rfl
    | a :: b :: r =>
     have hd:decide ((((a :: b :: r).length:Nat):Int) ≥ 2)=true:=by rw [decide_eq_true_eq];simp;omega
     have i0:df (.s (a :: b :: r)) (.int 0)=some (.u8 a):=fa (i:=0) (l:=a :: b :: r) (by simp)
     have i1:df (.s (a :: b :: r)) (.int 1)=some (.u8 b):=fa (i:=1) (l:=a :: b :: r) (by simp)
     have Qe:cC (a :: b :: r)=(a == 36 && b == 46):=by
      unfold cC
      have:decide (2≤(a :: b :: r).length)=true:=by rw [decide_eq_true_eq];simp
      rw [this,Bool.true_and,Bool.eq_iff_iff]
      simp
     rw [Qe]
     simp only [hd,i0,i1,cG,ax,Option.bind_some,Bool.true_and]
   simp only [Uv,h1,h2,ai,Bool.false_eq_true,if_false]
   rw [← Option.bind_assoc,Xz]
   simp only [Option.bind_some,ai]
   cases hd:cC l with
   | true =>
    have hlen:2≤l.length:=by
     unfold cC at hd
     simp only [Bool.and_eq_true,decide_eq_true_eq] at hd
     exact hd.1
    have hs:ic (.s l) (some (.int 2)) none=some (.s (l.drop 2)):=mT (i:=2) hlen
    simp only [hs,Option.bind_some,if_true]
    rw [Dh _ (by simp;omega),zz]
    rfl
   | false =>
    simp only [Bool.false_eq_true,if_false]
    rw [Dh l hl,zz]
    rfl
def Bq:Code:=(Tryz.f53.body).getD .skip
def Br (run:RunT) (a:UInt8) (b:Int) (d:List UInt8) (e:Bool) (f:AV):Option AV :=
 run ((bL 11 Bq []).getD []) (St.bU [(2, .cell (.ptr 2 0))] [(2,some [.val (.u8 a), .val (.int b), .val (.s d), .val (.b e), .val (f)])])
def Bs (run:RunT) (a:AV) (b:UInt8) (d:Int) (e:List UInt8) (f:Bool) (g:AV):Option AV :=
 run ((bL 12 Bq []).getD []) (St.bU [(0, .cell (.val a)),(2, .cell (.ptr 2 0))] [(2,some [.val (.u8 b), .val (.int d), .val (.s e), .val (.b f), .val (g)])])
def tC (run:RunT) (a:AV) (b:Int) (d:UInt8) (e:Int) (f:List UInt8) (g:Bool) (i:AV):Option AV :=
 run ((bL 19 Bq []).getD []) (St.bU [(0, .cell (.val a)),(2, .cell (.ptr 2 0)),(4, .cell (.val (.int b)))] [(2,some [.val (.u8 d), .val (.int e), .val (.s f), .val (.b g), .val (i)])])
def ZJ (a:List UInt8) (c:al) (r:RunT):Option AV :=
 (c 64 [.s a]).bind fun b=>(cr .eql b (.s [101,108,115,101])).bind fun d=>ah d
 (some (.tu [.ag [.u8 3, .int 0, .s [], .b false, .aC], .b true]))
 ((cr .eql b (.s [101,110,100])).bind fun e=>ah e
 (some (.tu [.ag [.u8 5, .int 0, .s [], .b false, .aC], .b true]))
 ((cr .eql b (.s [102,108,117,115,104])).bind fun f=>ah f
 (some (.tu [.ag [.u8 6, .int 0, .s [], .b false, .aC], .b true]))
 ((cr .eql b (.s [105,102])).bind fun g=>ah g
 (Br r 0 0 [] false (.aC))
 ((cr .eql b (.s [114,97,110,103,101])).bind fun i=>ah i
 (Br r 0 0 [] false (.aC))
 (Bs r b 0 0 [] false (.aC))))))
theorem c53 a {r:AV} (h:ZJ a (ae (C mx) Tryz.prog) (af (C mx) Tryz.prog 53 Tryz.f53)=some r):ae (C mx) Tryz.prog 53 [.s a]=some r :=
 aj (fun _ _=>by kernel_rfl) h
def PA (a:UInt8) (b:Int) (d:List UInt8) (e:Bool) (f:AV) (c:al) (r:RunT):Option AV :=
 some (.tu [.ag [.u8 0, .int 0, .s [], .b false, .aC], .b false])
def H6 (a:AV) (b:UInt8) (d:Int) (e:List UInt8) (f:Bool) (g:AV) (c:al) (r:RunT):Option AV :=
 (c 65 [a, .s [105,102]]).bind fun i=>ah i
 ((ic a (some (.int 2)) none).bind fun j=>(c 64 [j]).bind fun k=>tC r k 2 b d e f g)
 ((c 65 [a, .s [114,97,110,103,101]]).bind fun l=>ah l
 ((ic a (some (.int 5)) none).bind fun m=>(c 64 [m]).bind fun n=>tC r n 4 b d e f g)
 (tC r a 1 b d e f g))
def H7 (a:AV) (b:Int) (d:UInt8) (e:Int) (f:List UInt8) (g:Bool) (i:AV) (c:al) (r:RunT):Option AV :=
 (c 66 [a]).bind fun j=>(aP j 0).bind fun k=>(aP j 1).bind fun l=>(AV.aE 2 k).bind fun m=>(conv .u8 (.int b)).bind fun n=>(AV.one n).bind fun o=>some (.tu [.ag [o, .int 0, .s [],gt m 0,gt m 1],l])
theorem H8 (a b d e f) {r:AV} (h:PA a b d e f (ae (C mx) Tryz.prog) (af (C mx) Tryz.prog 53 Tryz.f53)=some r):Br (af (C mx) Tryz.prog 53 Tryz.f53) a b d e f=some r :=
 ak (fun _ _=>by kernel_rfl) h
theorem PB (a b d e f g) {r:AV} (h:H6 a b d e f g (ae (C mx) Tryz.prog) (af (C mx) Tryz.prog 53 Tryz.f53)=some r):Bs (af (C mx) Tryz.prog 53 Tryz.f53) a b d e f g=some r :=
 ak (fun _ _=>by kernel_rfl) h
theorem PC (a b d e f g i) {r:AV} (h:H7 a b d e f g i (ae (C mx) Tryz.prog) (af (C mx) Tryz.prog 53 Tryz.f53)=some r):tC (af (C mx) Tryz.prog 53 Tryz.f53) a b d e f g i=some r :=
 ak (fun _ _=>by kernel_rfl) h
theorem Bt (b:UInt8) (l:List UInt8):bZ b (bZ b l)=bZ b l:=by
 obtain ⟨n,_,h | ⟨x,r,h,hx⟩⟩:=np b l
 ·rw [h];rfl
 ·rw [h];unfold bZ;rw [List.dropWhile_cons,if_neg (by rw [hx];decide)]
theorem Bu (b:UInt8) (l:List UInt8):ck b (ck b l)=ck b l:=by
 have:=Bt b l.reverse
 unfold bZ at this
 unfold ck
 rw [List.reverse_reverse,this]
theorem EG (l:List UInt8):ck 32 (kS l)=kS l:=by
 unfold kS
 rw [vj,Bu]
theorem qq (s:List UInt8) (n:Nat) (h:ck 32 s=s) (hn:n < s.length) (I1:s[n]?=some 32):kS (s.drop n)=bZ 32 (s.drop (n+1)):=by
 have e:s.take n ++ s.drop n=s:=List.take_append_drop n s
 have h1:=vh 32 (s.take n) (s.drop n)
 rw [e,h] at h1
 have h2:ck 32 (s.drop n)=s.drop n:=by
  split at h1
  ·have h3:=pc 32 (s.take n)
   rw [← h1,List.length_take] at h3
   omega
  ·rw [e.symm] at h1
   have h4:s.take n ++ s.drop n=s.take n ++ ck 32 (s.drop n):=by
    rw [e] at h1 ⊢
    exact h1
   exact (List.append_cancel_left h4).symm
 unfold kS
 rw [h2]
 have h5:s.drop n=32 :: s.drop (n+1):=by
  rw [List.drop_eq_getElem_cons hn]
  rw [List.getElem?_eq_getElem hn] at I1
  rw [Option.some.inj I1]
 rw [h5]
 unfold bZ
 rw [List.dropWhile_cons];rfl
theorem Bv (x:List UInt8) (hx:x.length≤1000000000) (k:Int) (kb:UInt8) (hc:conv .u8 (.int k)=some (.u8 kb)):tC (af (C mx) Tryz.prog 53 Tryz.f53) (.s x) k 0 0 [] false .aC=some (zj kb x).av:=by
 apply PC
 have hw:=s66 (mx:=mx) x hx
 rw [zi] at hw
 have e (x y:AV):AV.aE 2 (.ag [x,y])=some [x,y]:=rfl
 have h1:AV.one (.u8 kb)=some (.u8 kb):=rfl
 simp only [H7,hw,kP,kQ,e,hc,h1,Option.bind_some,List.getD_cons_zero,List.getD_cons_succ]
 rfl
theorem H9 {p s:List UInt8} (h:pre (p ++ [32]) s=true):p.length < s.length∧s[p.length]?=some 32:=by
 unfold pre at h
 simp only [Bool.and_eq_true,decide_eq_true_eq,beq_iff_eq] at h
 have h1:p.length < s.length:=by have:=h.1;simp at this;omega
 refine ⟨h1,?_⟩
 have h2:(s.take (p ++ [32]).length)[p.length]?=s[p.length]?:=by rw [List.getElem?_take];simp
 rw [← h2,h.2]
 simp
theorem PD (s:List UInt8) (hs:s.length≤1000000000) (ht:ck 32 s=s):Bs (af (C mx) Tryz.prog 53 Tryz.f53) (.s s) 0 0 [] false .aC=some (if pre (IV ++ [32]) s then zj 2 (bZ 32 (s.drop 3)) else if pre (iX ++ [32]) s then zj 4 (bZ 32 (s.drop 6)) else zj 1 s).av:=by
 apply PB
 have c1:=ZG (mx:=mx) s [105,102] hs
 have c2:=ZG (mx:=mx) s [114,97,110,103,101] hs
 rw [show ([105,102]:List UInt8) ++ [32]=IV ++ [32] from rfl] at c1
 rw [show ([114,97,110,103,101]:List UInt8) ++ [32]=iX ++ [32] from rfl] at c2
 simp only [H6,c1,Option.bind_some,ai]
 cases h1:pre (IV ++ [32]) s with
 | true =>
  obtain ⟨hl,I1⟩:=H9 h1
  have hl:2 < s.length:=hl
  have Eg:ic (.s s) (some (.int 2)) none=some (.s (s.drop 2)):=mT (i:=2) (by omega)
  have MS:=Xx (mx:=mx) (s.drop 2) (by simp;omega)
  rw [qq s 2 ht hl I1] at MS
  simp only [Eg,MS,Option.bind_some,if_true]
  exact Bv _ (Nat.le_trans (jl _ _) (by simp;omega)) 2 2 rfl
 | false =>
  simp only [c2,Option.bind_some,ai,Bool.false_eq_true,if_false]
  cases h2:pre (iX ++ [32]) s with
  | true =>
   obtain ⟨hl,I1⟩:=H9 h2
   have hl:5 < s.length:=hl
   have Eg:ic (.s s) (some (.int 5)) none=some (.s (s.drop 5)):=mT (i:=5) (by omega)
   have MS:=Xx (mx:=mx) (s.drop 5) (by simp;omega)
   rw [qq s 5 ht hl I1] at MS
   simp only [Eg,MS,Option.bind_some,if_true]
   exact Bv _ (Nat.le_trans (jl _ _) (by simp;omega)) 4 4 rfl
  | false =>
   simp only [Bool.false_eq_true,if_false]
   exact Bv _ hs 1 1 rfl
theorem s53 (l:List UInt8) (hl:l.length≤1000000000):ae (C mx) Tryz.prog 53 [.s l]=some (dN l).av:=by
 apply c53
 have MS:=Xx (mx:=mx) l hl
 have hs:=Nat.le_trans (uS l) hl
 have ht:=EG l
 unfold dN
 generalize kS l=s at MS hs ht
 simp only [ZJ,MS,Option.bind_some,nU,ai]
 unfold Hw
 rw [show ([101,108,115,101]:List UInt8)=els from rfl,show ([101,110,100]:List UInt8)=K9 from rfl,show ([102,108,117,115,104]:List UInt8)=wY from rfl]
 cases h1:(s == els) with
 | true=>simp only [if_true];rfl
 | false =>
  cases h2:(s == K9) with
  | true=>simp only [if_true,Bool.false_eq_true,if_false];rfl
  | false =>
   cases h3:(s == wY) with
   | true=>simp only [if_true,Bool.false_eq_true,if_false];rfl
   | false =>
    simp only [Bool.false_eq_true,if_false]
    cases h4:(s == IV) with
    | true =>
     have VD:s=[105,102]:=by simpa [IV] using h4
     subst VD
     rw [if_pos (by rfl)]
     apply H8
     rfl
    | false =>
     rw [if_neg (by rw [show ([105,102]:List UInt8)=IV from rfl,h4];decide)]
     cases h5:(s == iX) with
     | true =>
      have Xb:s=[114,97,110,103,101]:=by simpa [iX] using h5
      subst Xb
      rw [if_pos (by rfl)]
      apply H8
      rfl
     | false =>
      rw [if_neg (by rw [show ([114,97,110,103,101]:List UInt8)=iX from rfl,h5];decide)]
      rw [PD s hs ht]
      simp only [Bool.or_false,Bool.false_eq_true,if_false]
def Bw:Code:=(Tryz.f37.body).getD .skip
def tD (run:RunT) (a:List UInt8) (b:List AV) (d:Int):Option AV :=
 run ((bL 3 Bw []).getD []) (St.bU [(0, .cell (.val (.s a))),(4, .cell (.own 300004 91 5 b)),(5, .cell (.val (.int d)))] [])
def Di (run:RunT) (a:List UInt8) (b:List AV) (d e:Int):Option AV :=
 run ((bL 5 Bw []).getD []) (St.bU [(0, .cell (.val (.s a))),(4, .cell (.own 300004 91 5 b)),(5, .cell (.val (.int d))),(6, .cell (.val (.int e)))] [])
def tE (run:RunT) (a:List UInt8) (b:List AV) (d e:Int):Option AV :=
 run ((bL 11 Bw []).getD []) (St.bU [(0, .cell (.val (.s a))),(4, .cell (.own 300004 91 5 b)),(5, .cell (.val (.int d))),(6, .cell (.val (.int e)))] [])
def X37 (a:List UInt8) (c:al) (r:RunT):Option AV :=
 tD r a [] 0
theorem c37 a {r:AV} (h:X37 a (ae (C mx) Tryz.prog) (af (C mx) Tryz.prog 37 Tryz.f37)=some r):ae (C mx) Tryz.prog 37 [.s a]=some r :=
 aj (fun _ _=>by kernel_rfl) h
def Dj (a:List UInt8) (b:List AV) (d:Int) (c:al) (r:RunT):Option AV :=
 ah (.b (decide (d < ((a.length:Int)))))
 (Di r a b d d)
 (some (.tu [.ro 5 b, .int ((-1))]))
def Dk (a:List UInt8) (b:List AV) (d e:Int) (c:al) (r:RunT):Option AV :=
 (aq (.b (decide (e < ((a.length:Int))))) true ((c 52 [.s a, .int e, .s [123,123]]).bind fun f=>(unop .not f).bind fun g=>some g) (.b false)).bind fun i=>ah i
 (Di r a b d (bJ (e+1)))
 (ah (.b (decide (e > d)))
 ((ic (.s a) (some (.int d)) (some (.int e))).bind fun j=>(AV.one j).bind fun k=>(app 64 5 b (.ro 5 (([.ag [.u8 0, .int d,k, .b false, .aC]]:List AV)))).bind fun l=>tD r a l e)
 (tE r a b d (bJ (d+2))))
def xA (a:List UInt8) (b:List AV) (d e:Int) (c:al) (r:RunT):Option AV :=
 (aq (.b (decide (e < ((a.length:Int))))) true ((c 52 [.s a, .int e, .s [125,125]]).bind fun f=>(unop .not f).bind fun g=>some g) (.b false)).bind fun i=>ah i
 (tE r a b d (bJ (e+1)))
 (ah (.b (decide (e ≥ ((a.length:Int)))))
 (some (.tu [.ro 5 b, .int d]))
 ((ic (.s a) (some (.int (bJ (d+2)))) (some (.int e))).bind fun j=>(c 53 [j]).bind fun k=>(aP k 0).bind fun l=>(aP k 1).bind fun m=>(AV.aE 5 l).bind fun n=>(unop .not m).bind fun o=>ah o
 (some (.tu [.ro 5 b, .int d]))
 ((app 64 5 b (.ro 5 (([.ag [gt n 0, .int d,gt n 2,gt n 3,gt n 4]]:List AV)))).bind fun p=>tD r a p (bJ (e+2)))))
theorem Ia (a b d) {r:AV} (h:Dj a b d (ae (C mx) Tryz.prog) (af (C mx) Tryz.prog 37 Tryz.f37)=some r):tD (af (C mx) Tryz.prog 37 Tryz.f37) a b d=some r :=
 ak (fun _ _=>by kernel_rfl) h
theorem MT (a b d e) {r:AV} (h:Dk a b d e (ae (C mx) Tryz.prog) (af (C mx) Tryz.prog 37 Tryz.f37)=some r):Di (af (C mx) Tryz.prog 37 Tryz.f37) a b d e=some r :=
 ak (fun _ _=>by kernel_rfl) h
theorem Ib (a b d e) {r:AV} (h:xA a b d e (ae (C mx) Tryz.prog) (af (C mx) Tryz.prog 37 Tryz.f37)=some r):tE (af (C mx) Tryz.prog 37 Tryz.f37) a b d e=some r :=
 ak (fun _ _=>by kernel_rfl) h
theorem rE (p r sub:List UInt8) (k:Nat):Lib.occAt (p ++ r) sub (p.length+k)=Lib.occAt r sub k:=by
 unfold Lib.occAt
 rw [← List.drop_drop,List.drop_left]
theorem MU (w:Wd) (acc:List Wd) (h:acc.length≤1000000000):app 64 5 (acc.map Wd.av) (.ro 5 ([w.av]:List AV))=some ((acc ++ [w]).map Wd.av):=by
 have hb:nz=70368744177664:=rfl
 show ((if 5=5 then some [w.av] else none).bind fun q=>if ((acc.map Wd.av).length+q.length) * 64≤nz then some (acc.map Wd.av ++ q) else none)=_
 rw [if_pos rfl]
 simp only [Option.bind_some,List.length_map,List.length_cons,List.length_nil,hb]
 rw [if_pos (by omega),List.map_append];rfl
theorem LH (r:List UInt8) (k:Nat) (h:k < bR r):Lib.occAt r ru k=false:=by
 unfold bR at h
 rcases Lib.index_spec r ru with ⟨h1,h2⟩ | ⟨i,h1,h2,h3,h4⟩
 ·rw [if_pos (by omega)] at h
  exact h2 k (by omega)
 ·rw [if_neg (by omega),h1] at h
  exact h4 k h
theorem Ic (r:List UInt8):bR r=r.length∨(bR r < r.length∧Lib.occAt r ru (bR r)=true):=by
 unfold bR
 rcases Lib.index_spec r ru with ⟨h1,h2⟩ | ⟨i,h1,h2,h3,h4⟩
 ·rw [if_pos (by omega)];exact Or.inl rfl
 ·rw [if_neg (by omega),h1]
  have:=Lib.index_room r ru (by omega)
  have e:(ru.length:Int)=2:=rfl
  exact Or.inr ⟨by omega,h3⟩
theorem MV (p r:List UInt8) (hl:(p ++ r).length≤1000000000) (acc:List AV) (R:Option AV)
  (hR:(ah (.b (decide (((p.length+bR r:Nat):Int) > (p.length:Int))))
 ((ic (.s (p ++ r)) (some (.int (p.length:Int))) (some (.int ((p.length+bR r:Nat):Int)))).bind fun v4=>(AV.one v4).bind fun v5=>(app 64 5 acc (.ro 5 (([.ag [.u8 0, .int (p.length:Int),v5, .b false, .aC]]:List AV)))).bind fun v6=>tD (af (C mx) Tryz.prog 37 Tryz.f37) (p ++ r) v6 ((p.length+bR r:Nat):Int))
 (tE (af (C mx) Tryz.prog 37 Tryz.f37) (p ++ r) acc (p.length:Int) (bJ ((p.length:Int)+2))))=R) (hs:∃ x,R=some x):∀ (d k:Nat),k+d=bR r →
  Di (af (C mx) Tryz.prog 37 Tryz.f37) (p ++ r) acc (p.length:Int) ((p.length+k:Nat):Int)=R
 | 0,k,e=>by
  obtain rfl:k=bR r:=by omega
  obtain ⟨x,rfl⟩:=hs
  apply MT
  have hle:=lH r
  have xJ:p.length+r.length≤1000000000:=by simpa using hl
  have xU:=Uu (mx:=mx) (p ++ r) [123,123] (p.length+bR r) hl (by simp;omega) (by decide)
  rw [rE] at xU
  rcases Ic r with h | ⟨h,ho⟩
  ·have hd:decide (((p.length+bR r:Nat):Int) < ((p ++ r).length:Int))=false:=by rw [decide_eq_false_iff_not,List.length_append];omega
   simp only [Dk,hd,xU,Option.bind_some,bn,ax,Bool.false_and,ai,Bool.false_eq_true,if_false]
   simpa only [ai] using hR
  ·have hd:decide (((p.length+bR r:Nat):Int) < ((p ++ r).length:Int))=true:=by rw [decide_eq_true_eq,List.length_append];omega
   have IK:Lib.occAt r [123,123] (bR r)=true:=ho
   rw [IK] at xU
   simp only [Dk,hd,xU,Option.bind_some,bn,ax,Bool.not_true,Bool.and_false,ai,Bool.false_eq_true,if_false]
   simpa only [ai] using hR
 | d+1,k,e=>by
  have ih:=MV p r hl acc R hR hs d (k+1) (by omega)
  obtain ⟨x,rfl⟩:=hs
  apply MT
  have hle:=lH r
  have xJ:p.length+r.length≤1000000000:=by simpa using hl
  have xU:=Uu (mx:=mx) (p ++ r) [123,123] (p.length+k) hl (by simp;omega) (by decide)
  rw [rE,show Lib.occAt r [123,123] k=false from LH r k (by omega)] at xU
  have hd:decide (((p.length+k:Nat):Int) < ((p ++ r).length:Int))=true:=by rw [decide_eq_true_eq,List.length_append];omega
  have hw:bJ (((p.length+k:Nat):Int)+1)=((p.length+(k+1):Nat):Int):=by rw [cH (by omega) (by omega)];omega
  simp only [Dk,hd,xU,hw,Option.bind_some,bn,ax,Bool.not_false,Bool.and_true,ai,if_true]
  exact ih
def hZ (r:List UInt8):Nat:=if Lib.index r oc < 0 then r.length else (Lib.index r oc).toNat
theorem LI (r:List UInt8) (k:Nat) (h:k < hZ r):Lib.occAt r oc k=false:=by
 unfold hZ at h
 rcases Lib.index_spec r oc with ⟨h1,h2⟩ | ⟨i,h1,h2,h3,h4⟩
 ·rw [if_pos (by omega)] at h
  exact h2 k (by omega)
 ·rw [if_neg (by omega),h1] at h
  exact h4 k h
theorem k9 (r:List UInt8):(Lib.index r oc < 0∧hZ r=r.length)∨(Lib.index r oc=(hZ r:Int)∧hZ r+2≤r.length∧Lib.occAt r oc (hZ r)=true):=by
 unfold hZ
 rcases Lib.index_spec r oc with ⟨h1,h2⟩ | ⟨i,h1,h2,h3,h4⟩
 ·rw [if_pos (by omega)];exact Or.inl ⟨by omega,rfl⟩
 ·rw [if_neg (by omega),h1]
  have:=Lib.index_room r oc (by omega)
  have e:(oc.length:Int)=2:=rfl
  exact Or.inr ⟨rfl,by omega,h3⟩
theorem Ig (p r:List UInt8) (hl:(p ++ r).length≤1000000000) (acc:List AV) (R:Option AV)
  (hR:(ah (.b (decide (((p.length+hZ r:Nat):Int) ≥ ((p ++ r).length:Int))))
 (some (.tu [.ro 5 acc, .int (p.length:Int)]))
 ((ic (.s (p ++ r)) (some (.int (bJ ((p.length:Int)+2)))) (some (.int ((p.length+hZ r:Nat):Int)))).bind fun v4=>(ae (C mx) Tryz.prog 53 [v4]).bind fun v5=>(aP v5 0).bind fun v6=>(aP v5 1).bind fun v7=>(AV.aE 5 v6).bind fun v8=>(unop .not v7).bind fun v9=>ah v9
 (some (.tu [.ro 5 acc, .int (p.length:Int)]))
 ((app 64 5 acc (.ro 5 (([.ag [v8.getD 0 .un, .int (p.length:Int),v8.getD 2 .un,v8.getD 3 .un,v8.getD 4 .un]]:List AV)))).bind fun v10=>tD (af (C mx) Tryz.prog 37 Tryz.f37) (p ++ r) v10 (bJ (((p.length+hZ r:Nat):Int)+2)))))=R) (hs:∃ x,R=some x):∀ (d k:Nat),k+d=hZ r →
  tE (af (C mx) Tryz.prog 37 Tryz.f37) (p ++ r) acc (p.length:Int) ((p.length+k:Nat):Int)=R
 | 0,k,e=>by
  obtain rfl:k=hZ r:=by omega
  obtain ⟨x,rfl⟩:=hs
  apply Ib
  have hle:hZ r≤r.length:=by rcases k9 r with h | h <;> omega
  have xJ:p.length+r.length≤1000000000:=by simpa using hl
  have xU:=Uu (mx:=mx) (p ++ r) [125,125] (p.length+hZ r) hl (by simp;omega) (by decide)
  rw [rE] at xU
  rcases k9 r with ⟨_,h⟩ | ⟨_,h,ho⟩
  ·have hd:decide (((p.length+hZ r:Nat):Int) < ((p ++ r).length:Int))=false:=by rw [decide_eq_false_iff_not,List.length_append];omega
   simp only [xA,hd,xU,Option.bind_some,bn,ax,Bool.false_and,ai,Bool.false_eq_true,if_false]
   simpa only [ai] using hR
  ·have hd:decide (((p.length+hZ r:Nat):Int) < ((p ++ r).length:Int))=true:=by rw [decide_eq_true_eq,List.length_append];omega
   have IK:Lib.occAt r [125,125] (hZ r)=true:=ho
   rw [IK] at xU
   simp only [xA,hd,xU,Option.bind_some,bn,ax,Bool.not_true,Bool.and_false,ai,Bool.false_eq_true,if_false]
   simpa only [ai] using hR
 | d+1,k,e=>by
  have ih:=Ig p r hl acc R hR hs d (k+1) (by omega)
  obtain ⟨x,rfl⟩:=hs
  apply Ib
  have hle:hZ r≤r.length:=by rcases k9 r with h | h <;> omega
  have xJ:p.length+r.length≤1000000000:=by simpa using hl
  have xU:=Uu (mx:=mx) (p ++ r) [125,125] (p.length+k) hl (by simp;omega) (by decide)
  rw [rE,show Lib.occAt r [125,125] k=false from LI r k (by omega)] at xU
  have hd:decide (((p.length+k:Nat):Int) < ((p ++ r).length:Int))=true:=by rw [decide_eq_true_eq,List.length_append];omega
  have hw:bJ (((p.length+k:Nat):Int)+1)=((p.length+(k+1):Nat):Int):=by rw [cH (by omega) (by omega)];omega
  simp only [xA,hd,xU,hw,Option.bind_some,bn,ax,Bool.not_false,Bool.and_true,ai,if_true]
  exact ih
def Ih (q:List Wd×Int):AV:=.tu [.ro 5 (q.1.map Wd.av), .int q.2]
theorem l24:∀ (n:Nat) (r p:List UInt8) (acc:List Wd),r.length≤n→(p ++ r).length≤1000000000→acc.length≤p.length →
  tD (af (C mx) Tryz.prog 37 Tryz.f37) (p ++ r) (acc.map Wd.av) (p.length:Int)=some (Ih (dC (n+1) r p.length acc)):=by
 intro n
 induction n with
 | zero =>
  intro r p acc hr hp ha
  obtain rfl:=List.eq_nil_of_length_eq_zero (Nat.le_zero.1 hr)
  apply Ia
  have:decide ((p.length:Int) < ((p ++ []).length:Int))=false:=by simp
  simp only [Dj,this,ai,Bool.false_eq_true,if_false]
  rfl
 | succ n ih =>
  intro r p acc hr hp ha
  cases r with
  | nil =>
   apply Ia
   have:decide ((p.length:Int) < ((p ++ []).length:Int))=false:=by simp
   simp only [Dj,this,ai,Bool.false_eq_true,if_false]
   rfl
  | cons x r' =>
   obtain ⟨r,A3⟩:∃ r,r=x :: r':=⟨_,rfl⟩
   rw [← A3] at hr hp ⊢
   have aY:r.isEmpty=false:=by rw [A3];rfl
   have DL:0 < r.length:=by rw [A3];simp
   have xJ:p.length+r.length≤1000000000:=by simpa using hp
   have WV:=lH r
   apply Ia
   have aM:decide ((p.length:Int) < ((p ++ r).length:Int))=true:=by rw [decide_eq_true_eq];simp;omega
   simp only [Dj,aM,ai,if_true]
   rw [dC,if_neg (by rw [aY];decide)]
   refine MV p r hp (acc.map Wd.av) _ ?_ ⟨_,rfl⟩ (bR r) 0 (by omega)
   by_cases hi:0 < bR r
   ·have uw:decide (((p.length+bR r:Nat):Int) > (p.length:Int))=true:=by rw [decide_eq_true_eq];omega
    have hc:=MU (zl p.length (r.take (bR r))) acc (by omega)
    have hw:(zl p.length (r.take (bR r))).av=.ag [.u8 0, .int (p.length:Int), .s (r.take (bR r)), .b false, .aC]:=rfl
    rw [hw] at hc
    have:=ih (r.drop (bR r)) (p ++ r.take (bR r)) (acc ++ [zl p.length (r.take (bR r))]) (by rw [List.length_drop];omega) (by rw [List.append_assoc,List.take_append_drop];exact hp) (by simp;omega)
    have hlen:(p ++ r.take (bR r)).length=p.length+bR r:=by simp;omega
    rw [List.append_assoc,List.take_append_drop,hlen] at this
    simp only [uw,A1 p r _ WV,jY,hc,Option.bind_some,ai,if_true]
    rw [if_pos hi]
    exact this
   ·have uw:decide (((p.length+bR r:Nat):Int) > (p.length:Int))=false:=by rw [decide_eq_false_iff_not];omega
    rw [if_neg hi]
    simp only [uw,ai,Bool.false_eq_true,if_false]
    have rQ:2≤r.length:=by
     have:=congrArg List.length (HY r (by omega) DL)
     rw [List.length_take] at this
     have e:ru.length=2:=rfl
     omega
    have HC:bJ ((p.length:Int)+2)=((p.length+2:Nat):Int):=by rw [cH (by omega) (by omega)];omega
    rw [HC]
    have hC2:2≤hZ r:=by
     rcases k9 r with ⟨_,h⟩ | ⟨h,_⟩
     ·omega
     ·exact CZ r (by omega) DL _ h
    refine Ig p r hp (acc.map Wd.av) _ ?_ ⟨_,rfl⟩ (hZ r - 2) 2 (by omega)
    rcases k9 r with ⟨h,h'⟩ | ⟨h,h',_⟩
    ·have cI:decide (((p.length+hZ r:Nat):Int) ≥ ((p ++ r).length:Int))=true:=by rw [decide_eq_true_eq,List.length_append];omega
     rw [if_pos h]
     simp only [cI,ai,if_true]
     rfl
    ·have cI:decide (((p.length+hZ r:Nat):Int) ≥ ((p ++ r).length:Int))=false:=by rw [decide_eq_false_iff_not,List.length_append];omega
     rw [if_neg (by omega),h,Int.toNat_natCast]
     generalize hZ r=j at *
     have a4:bJ (((p.length+j:Nat):Int)+2)=((p.length+(j+2):Nat):Int):=by rw [cH (by omega) (by omega)];omega
     have Eg:=HA p r j hC2 (by omega)
     have HB:=s53 (mx:=mx) ((r.take j).drop 2) (by simp;omega)
     have hw:(dN ((r.take j).drop 2)).av=.tu [.ag [.u8 (dN ((r.take j).drop 2)).kind, .int 0, .s [], .b (dN ((r.take j).drop 2)).root,(dN ((r.take j).drop 2)).names], .b (dN ((r.take j).drop 2)).ok]:=rfl
     rw [hw] at HB
     have hc:=MU (qg p.length (dN ((r.take j).drop 2))) acc (by omega)
     have HC:(qg p.length (dN ((r.take j).drop 2))).av=.ag [.u8 (dN ((r.take j).drop 2)).kind, .int (p.length:Int), .s [], .b (dN ((r.take j).drop 2)).root,(dN ((r.take j).drop 2)).names]:=rfl
     rw [HC] at hc
     have SJ:=ih (r.drop (j+2)) (p ++ r.take (j+2)) (acc ++ [qg p.length (dN ((r.take j).drop 2))]) (by rw [List.length_drop];omega) (by rw [List.append_assoc,List.take_append_drop];exact hp) (by simp;omega)
     have hlen:(p ++ r.take (j+2)).length=p.length+(j+2):=by simp;omega
     rw [List.append_assoc,List.take_append_drop,hlen] at SJ
     generalize dN ((r.take j).drop 2)=A at *
     simp only [cI,a4,‹bJ ((p.length:Int)+2)=((p.length+2:Nat):Int)›,Eg,HB,kP,kQ,MD,bn,Option.bind_some,ai,List.getD_cons_zero,List.getD_cons_succ,hc,Bool.false_eq_true,if_false]
     cases hA:A.ok with
     | false=>rfl
     | true =>
      simp only [Bool.not_true,Bool.false_eq_true,if_false,if_true]
      exact SJ
theorem s37 (l:List UInt8) (h:l.length≤1000000000):ae (C mx) Tryz.prog 37 [.s l]=some (Ih (bl l)):=by
 apply c37
 have:=l24 (mx:=mx) l.length l [] [] (Nat.le_refl _) (by simpa using h) (by simp)
 exact this
end R3
namespace R3
open Go Go.Proofs Go.RowKit Go.Shelf Sx
variable {mx:Int}
end R3
namespace R3
open Go Go.Proofs Go.RowKit Go.Shelf Sx
variable {mx:Int}
theorem Bx {w:World} {F:Nat→Prop} {ws:List Wd} {aw:Option Addr} {cw i:Nat} (hw:Rel w F (.ro 5 (ws.map Wd.av)) (.slice aw ws.length cw)) (hi:i < ws.length) (hn:cR ws[i].names) :
  ∃ (r off:Nat) (q:ByteArray) (a4:Option Addr) (m4 c4:Nat),aw=some ⟨r,off,none⟩∧(w.cell? ⟨r,off+i * 5,none⟩=some (.int .u8 (ws[i].kind.toNat:Int))∧w.cell? ⟨r,off+i * 5+1,none⟩=some (.int .i64 (ws[i].at':Int))∧w.cell? ⟨r,off+i * 5+2,none⟩=some (.string q) ∧
   w.cell? ⟨r,off+i * 5+3,none⟩=some (.bool ws[i].root)∧w.cell? ⟨r,off+i * 5+4,none⟩=some (.slice a4 m4 c4))∧q.data.toList=ws[i].text∧Rel w F ws[i].names (.slice a4 m4 c4):=by
 have key:∀ (l:List AV) (v:Value),Rel w F (.ro 5 l) v→i < l.length→∃ (r off c:Nat) (x:Nat→Value),v=.slice (some ⟨r,off,none⟩) l.length c∧∀ j,j < 5→w.cell? ⟨r,off+i * 5+j,none⟩=some (x j)∧Rel w F ((l.getD i .un).cell j) (x j):=by
  intro l v h hi
  cases h with
  | tS=>simp at hi
  | ro _ _ r off c xs hk hc hF hl MH h1 hr =>
   refine ⟨r,off,c,fun j=>xs.getD (i * 5+j) undef,rfl,fun j hj=>?_⟩
   have jf:i * 5+j < xs.length:=by omega
   have h2:xs[i * 5+j]?=some xs[i * 5+j]:=List.getElem?_eq_getElem jf
   show w.cell? _=some (xs.getD (i * 5+j) undef)∧Rel w F _ (xs.getD (i * 5+j) undef)
   rw [List.getD_eq_getElem?_getD (l:=xs),h2,Option.getD_some]
   refine ⟨?_,hr i j _ hi hj h2⟩
   rw [← MH _ _ h2,Nat.add_assoc]
 obtain ⟨r,off,c,x,e,h⟩:=key _ _ hw (by simpa using hi)
 rw [List.length_map] at e
 cases e
 have ew:((ws.map Wd.av).getD i .un)=ws[i].av:=by rw [List.getD_eq_getElem?_getD,List.getElem?_map,List.getElem?_eq_getElem hi];rfl
 rw [ew] at h
 obtain ⟨y0,e0⟩:=h 0 (by decide)
 obtain ⟨y1,e1⟩:=h 1 (by decide)
 obtain ⟨y2,e2⟩:=h 2 (by decide)
 obtain ⟨y3,e3⟩:=h 3 (by decide)
 obtain ⟨y4,e4⟩:=h 4 (by decide)
 replace e0:Rel w F (.u8 ws[i].kind) (x 0):=e0
 replace e1:Rel w F (.int (ws[i].at':Int)) (x 1):=e1
 replace e2:Rel w F (.s ws[i].text) (x 2):=e2
 replace e3:Rel w F (.b ws[i].root) (x 3):=e3
 replace e4:Rel w F ws[i].names (x 4):=e4
 have s4:∃ (a:Option Addr) (m c:Nat),x 4=.slice a m c:=by
  rcases hn with e | ⟨y,l,e,_⟩
  ·rw [e] at e4;generalize x 4=v at e4;cases e4;exact ⟨_,_,_,rfl⟩
  ·rw [e] at e4;obtain ⟨ad,c,h,_⟩:=bt e4;exact ⟨_,_,_,h⟩
 obtain ⟨a4,m4,c4,h4⟩:=s4
 have g0:x 0=.int .u8 (ws[i].kind.toNat:Int):=by generalize x 0=v at e0;cases e0;rfl
 have g1:x 1=.int .i64 (ws[i].at':Int):=by generalize x 1=v at e1;cases e1;rfl
 have g2:∃ q:ByteArray,x 2=.string q∧q.data.toList=ws[i].text:=by
  generalize x 2=v at e2
  generalize ws[i].text=tt at e2
  cases e2;exact ⟨_,rfl,rfl⟩
 have g3:x 3=.bool ws[i].root:=by generalize x 3=v at e3;cases e3;rfl
 obtain ⟨q,g2,hq⟩:=g2
 rw [g0] at y0;rw [g1] at y1;rw [g2] at y2;rw [g3] at y3;rw [h4] at y4 e4
 exact ⟨r,off,q,a4,m4,c4,rfl,⟨y0,y1,y2,y3,y4⟩,hq,e4⟩
theorem tF:(Tryz.prog.info? 58).map (fun i=>(i.zero,i.size,i.bytes))=some (some (.agg #[.int .u8 0, .int .i64 0, .string ⟨#[]⟩, .bool false, .slice none 0 0, .slice none 0 0, .slice none 0 0, .bool false, .int .u8 0]),9,120):=by kernel_rfl
theorem Dl:(Tryz.prog.info? 93).map (fun i=>(i.zero,i.size,i.bytes))=some (some (.agg #[.int .i64 0, .int .i64 0, .bool false]),3,24):=by kernel_rfl
theorem nq (W:World) (l:List Value) (t:TypeId):∀ j u,l[j]?=some u→(W.alloc (.cells l.toArray t)).cell? ((⟨W.heap.size,0,none⟩:Addr).add j)=some u:=fun j u hu=>World.news_of_block (cs:=l.toArray) (World.alloc_heap_new W _) j u (by simpa using hu)
theorem Dm (s:Ms) (n:List Nat):s.add n=⟨(s.add n).nodes,(s.add n).top,s.stack⟩:=by rw [← jq s n]
theorem PM.cap {w W:World} {F:Nat→Prop} {b7:Nat} {s:Ms} {X:List Vn} {tag:Nat→Tg} {vn vt:Value} {ad:Option Addr} {n c:Nat} (h:PM w F b7 s X tag vn vt (.slice ad n c) W):s.stack.length≤c:=by
 rcases h.sk.1.2 with ⟨e,h0⟩ | ⟨g,cap,cur,e,h1,h2,h3,_⟩
 ·omega
 ·cases e;exact h3
theorem tG (s:ByteArray) (hs:s.size≤1000000000) (W:World) (hm:W.cell? ⟨1,0,none⟩=some (.int .i64 mx)):Calls Tryz.prog 37 #[.string s] W fun e W' =>
  ∃ (ad:Option Addr) (c:Nat),e=.returned (.tuple #[.slice ad (bl s.data.toList).1.length c, .int .i64 (bl s.data.toList).2])∧Ext W W' ∧
   Rel W' (fun b=>b < W.heap.size→b=1) (.ro 5 ((bl s.data.toList).1.map Wd.av)) (.slice ad (bl s.data.toList).1.length c):=by
 refine Calls.mono (gD (fit mx) (c:=Tryz.f37.body.getD .skip) Tryz.func37 (by kernel_rfl) (s37 (mx:=mx) s.data.toList hs) (by kernel_rfl) W (fun b=>b=1) #[.string s] (C6 hm) rfl (Lc (.s s))) fun e w' he=>?_
 obtain ⟨v,rfl,hx,hr⟩:=he
 generalize bl s.data.toList=ww at hr ⊢
 unfold eV at hr
 rw [if_pos (by kernel_rfl)] at hr
 unfold Ih at hr
 cases hr with
 | tu _ vs hl hj =>
  match vs,hl,hj with
  | [v0,v1],_,hj =>
   have h0:=hj 0 v0 rfl
   have h1:=hj 1 v1 rfl
   simp only [List.getD_cons_zero,List.getD_cons_succ] at h0 h1
   cases h1
   obtain ⟨ad,c,rfl,hc⟩:=bt h0
   rw [List.length_map] at hc h0 ⊢
   exact ⟨ad,c,rfl,hx,h0⟩
set_option maxRecDepth 100000 in
set_option maxHeartbeats 4000000 in
theorem EH (s:ByteArray) (w:World) (hm:w.cell? ⟨1,0,none⟩=some (.int .i64 mx)) (hs:s.data.toList.length≤65536) (hb:¬ 0≤(bl s.data.toList).2) {ws:List Wd} (km:(bl s.data.toList).1=ws) (hl:ws.length≤100000) (oA:∀ x ∈ ws,cR x.names) (je:∀ x ∈ ws,x.kind.toNat≤6) :
  CallsIn Fence.wide 7 Tryz.prog 21 #[.string s] w (rD w (fun b=>b=1) (iM ws)):=by
 have jw:Ext w (w.alloc (.cells #[.slice none 0 0, .slice none 0 0] 26)):=Ext.push w _
 have cg:s.size=s.data.toList.length:=rfl
 have kT:=tG (mx:=mx) s (by omega) (w.alloc (.cells #[.slice none 0 0, .slice none 0 0] 26)) (aB jw hm)
 rw [km] at kT
 generalize (bl s.data.toList).2=bad at kT hb
 have xg:=aS hm
 have XA:((s.size:Nat):Int)≤65536:=by omega
 clear cg hs km
 refine callsIn_of_wp Tryz.func21 rfl trivial ?_ rfl
 simp only [Tryz.ntmps21,Nat.reduceAdd,Nat.reduceSub,zC]
 gi_wp2_with (refine ⟨trivial,?_⟩;gi_at_call 37;refine (callsIn_wide.2 kT).mono ?_;clear kT;rintro e w2 ⟨ad,c,rfl,dt,Tj⟩)
 have zo:=(dt.block w.heap.size (by simp)).trans (World.alloc_heap_new w (.cells #[.slice none 0 0, .slice none 0 0] 26))
 generalize hF:(fun b=>b < (w.alloc (.cells #[.slice none 0 0, .slice none 0 0] 26)).heap.size→b=1)=F at Tj
 have Dn:PM w2 F w2.heap.size ⟨[],[],[]⟩ [] (fun _=>.top) (.slice none 0 0) (.slice none 0 0) (.slice none 0 0) (w2.alloc (.cells #[.slice none 0 0, .slice none 0 0] 26)) :=
  ⟨Ext.push w2 _,Nat.le_refl _,World.alloc_heap_new w2 _,Row.nil _ _ _ _ _ _,Row.nil _ _ _ _ _ _,Row.nil _ _ _ _ _ _,rfl,fun i x y h=>by simp at h,fun i x y h=>by simp at h⟩
 sA [8,9] (fun v8 v9 wr=>∃ (i:Nat) (s':Ms) (X:List Vn) (tag:Nat→Tg) (vn vt:Value),v9=.int .i64 (i:Int)∧i≤ws.length∧eC (ws.drop i) s'=iM ws∧s'.wf∧s'.sz i∧PM w2 F w2.heap.size s' X tag vn vt v8 wr) (fun v8 v9 wr=>ws.length - (match v9 with | .int _ a=>a.toNat | _=>0))
 case atStart=>exact ⟨0,_,_,_,_,_,rfl,Nat.zero_le _,rfl,Um,⟨Nat.le_refl _,Nat.le_refl _,fun y hy=>(by simp at hy),Nat.zero_le _⟩,Dn⟩
 case round =>
  obtain ⟨i,s',X,tag,vn,vt,rfl,hi,a8,xM,cg,dH⟩:=iT
  by_cases aM:i < ws.length
  ·obtain ⟨r,off,q,a4,m4,c4,rfl,⟨y0,y1,y2,y3,y4⟩,hq,EI⟩:=Bx (i:=i) Tj aM (oA _ (List.getElem_mem aM))
   replace y0:=aB dH.ext y0
   replace y1:=aB dH.ext y1
   replace y2:=aB dH.ext y2
   replace y3:=aB dH.ext y3
   replace y4:=aB dH.ext y4
   have MW:=je _ (List.getElem_mem aM)
   have MX:=oA _ (List.getElem_mem aM)
   rw [List.drop_eq_getElem_cons aM,eC] at a8
   generalize ws[i]=wd at *
   obtain ⟨Pf,cs,rfl⟩:=fj dH.sk.1
   have PE:=cg.stack
   have dR:=dH.ext
   clear Dn oA je hm xg XA
   obtain ⟨N,T,S⟩:=s'
   have ir:wr.heap[w.heap.size]?=some (.cells #[.slice none 0 0, .slice none 0 0] 26):=(dH.ext.block _ (Array.getElem?_eq_some_iff.1 zo).1).trans zo
   simp only at PE
   by_cases Tk:wd.kind=5
   ·rw [Tk] at y0
    rcases List.eq_nil_or_concat S with rfl | ⟨S,o,rfl⟩
    ·have ov:iM ws=.bad wd.at' 4:=by rw [← a8];unfold b9;rw [if_neg (by simp [Tk]),if_pos (by simp [Tk])];rfl
     clear a8
     simp only [List.length_nil] at *
     gi_wp2
     rw [wpIn_wide]
     have ed:Ext wr (wr.alloc (.cells #[.int .u8 5, .int .i64 (wd.at':Int), .string q, .bool wd.root, .slice a4 m4 c4] 91)):=Ext.push wr _
     have dP:=World.alloc_heap_new wr (.cells #[.int .u8 5, .int .i64 (wd.at':Int), .string q, .bool wd.root, .slice a4 m4 c4] 91)
     generalize wr.alloc (.cells #[.int .u8 5, .int .i64 (wd.at':Int), .string q, .bool wd.root, .slice a4 m4 c4] 91)=W5 at ed dP ⊢
     have p1:W5.cell? ⟨wr.heap.size,1,none⟩=some (.int .i64 (wd.at':Int)):=by simp [World.cell?,dP]
     clear dP
     have uj:=(ed.block _ (Array.getElem?_eq_some_iff.1 ir).1).trans ir
     obtain ⟨v1,v2,v3,v4⟩:=aL uj
     have aY:wr.heap.size≠w.heap.size:=by have:=(Array.getElem?_eq_some_iff.1 ir).1;omega
     clear y0 y1 y2 y3 y4 MW EI MX dH
     refine aW (by kernel_rfl) [] (fun u v=>v.cell? ⟨wr.heap.size,1,none⟩=u.cell? ⟨wr.heap.size,1,none⟩) [(0,true),(1,true),(2,true),(3,false),(4,true),(5,true)]
      (by kernel_rfl) (by kernel_rfl) (by kernel_rfl) (fun _=>rfl) (fun _ _ _ h1 h2=>h2.trans h1) ?_
     iterate 3 (
      refine' aT ?_ ?_ ?_ ?_;rotate_left 2
      ·(simp only [zA];rfl)
      ·rfl
      ·(intro w' hE;have q1:=hE.trans p1;go_simp;try rfl)
      try simp only [Act.put,zB])
     refine' bH ?_ ?_;rotate_left 1
     ·(simp only [zA];rfl)
     intro K hK
     go_simp
     refine hK.out _ _ (World.cell?_of_block ((an aY).trans (an aY))) ?_
     clear hK K
     try simp only [Act.put,zB]
     iterate 2 (
      refine' aT ?_ ?_ ?_ ?_;rotate_left 2
      ·(simp only [zA];rfl)
      ·rfl
      ·(intro w' hE;go_simp;try rfl)
      try simp only [Act.put,zB])
     refine cF ?_
     gi_wp2
     refine bodyPost_ret (results36 _ _ w.heap.size (.slice none 0 0) (.slice none 0 0) (.int .i64 (wd.at':Int)) (.int .i64 4) rfl rfl rfl (bA _ _ uj)) rfl ?_
     exact ⟨cD (dO (jw.trans (dt.trans (dR.trans ed)))) _ _,(by rw [ov];first | done | rfl)⟩
    ·rw [List.concat_eq_append] at *
     have cq:b9 ⟨N,T,S ++ [o]⟩ wd=.inl ⟨N,T,S⟩:=step_end Tk rfl
     have pB:=jT xM cq
     have lV:=jU cg cq
     rw [cq] at a8
     simp only at a8
     obtain ⟨gs,cap,oO,-,-⟩:=dH.last
     simp only [Value.slice.injEq] at oO
     obtain ⟨rfl,-,rfl⟩:=oO
     have el:(S ++ [o]).length=S.length+1:=by simp
     have Ii:PM w2 F w2.heap.size ⟨N,T,S ++ [o]⟩ X tag vn vt (.slice (some ⟨gs,0,none⟩) (S.length+1) cs) wr:=by rw [← el];exact dH
     have XB:=(Ii.ext' (Ext.push wr (.cells #[.int .u8 5, .int .i64 (wd.at':Int), .string q, .bool wd.root, .slice a4 m4 c4] 91))).pop
     have Fa:S.length+1≤cs:=by rw [← el];exact dH.cap
     clear dH Ii el EI MW MX cq xM cg dR
     simp only [List.length_append,List.length_cons,List.length_nil] at PE ⊢
     generalize hd:S.length=d at *
     gi_wp2
     exact ⟨⟨i+1,_,_,_,_,_,congrArg (Value.int .i64) (by omega),aM,a8,pB,lV,XB⟩,by show _ - Int.toNat _ < _ - Int.toNat _;omega⟩
   ·by_cases qF:wd.kind=3
    ·rw [qF] at y0
     rcases List.eq_nil_or_concat S with rfl | ⟨S,o,rfl⟩
     ·have ov:iM ws=.bad wd.at' 4:=by rw [← a8];unfold b9;rw [if_pos (by simp [qF])];rfl
      clear a8
      simp only [List.length_nil] at *
      gi_wp2
      rw [wpIn_wide]
      have ed:Ext wr (wr.alloc (.cells #[.int .u8 3, .int .i64 (wd.at':Int), .string q, .bool wd.root, .slice a4 m4 c4] 91)):=Ext.push wr _
      have dP:=World.alloc_heap_new wr (.cells #[.int .u8 3, .int .i64 (wd.at':Int), .string q, .bool wd.root, .slice a4 m4 c4] 91)
      generalize wr.alloc (.cells #[.int .u8 3, .int .i64 (wd.at':Int), .string q, .bool wd.root, .slice a4 m4 c4] 91)=W5 at ed dP ⊢
      have p1:W5.cell? ⟨wr.heap.size,1,none⟩=some (.int .i64 (wd.at':Int)):=by simp [World.cell?,dP]
      clear dP
      have uj:=(ed.block _ (Array.getElem?_eq_some_iff.1 ir).1).trans ir
      obtain ⟨v1,v2,v3,v4⟩:=aL uj
      have aY:wr.heap.size≠w.heap.size:=by have:=(Array.getElem?_eq_some_iff.1 ir).1;omega
      clear y0 y1 y2 y3 y4 MW EI MX dH
      refine aW (by kernel_rfl) [] (fun u v=>v.cell? ⟨wr.heap.size,1,none⟩=u.cell? ⟨wr.heap.size,1,none⟩) [(0,true),(1,true),(2,true),(3,false),(4,true),(5,true)]
       (by kernel_rfl) (by kernel_rfl) (by kernel_rfl) (fun _=>rfl) (fun _ _ _ h1 h2=>h2.trans h1) ?_
      iterate 3 (
       refine' aT ?_ ?_ ?_ ?_;rotate_left 2
       ·(simp only [zA];rfl)
       ·rfl
       ·(intro w' hE;have q1:=hE.trans p1;go_simp;try rfl)
       try simp only [Act.put,zB])
      refine' bH ?_ ?_;rotate_left 1
      ·(simp only [zA];rfl)
      intro K hK
      go_simp
      refine hK.out _ _ (World.cell?_of_block ((an aY).trans (an aY))) ?_
      clear hK K
      try simp only [Act.put,zB]
      iterate 2 (
       refine' aT ?_ ?_ ?_ ?_;rotate_left 2
       ·(simp only [zA];rfl)
       ·rfl
       ·(intro w' hE;go_simp;try rfl)
       try simp only [Act.put,zB])
      refine cF ?_
      gi_wp2
      refine bodyPost_ret (results36 _ _ w.heap.size (.slice none 0 0) (.slice none 0 0) (.int .i64 (wd.at':Int)) (.int .i64 4) rfl rfl rfl (bA _ _ uj)) rfl ?_
      exact ⟨cD (dO (jw.trans (dt.trans (dR.trans ed)))) _ _,(by rw [ov];first | done | rfl)⟩
     ·rw [List.concat_eq_append] at *
      obtain ⟨gs,cap,oO,⟨s0,s1,s2⟩,sf⟩:=dH.last
      simp only [Value.slice.injEq] at oO
      obtain ⟨rfl,-,rfl⟩:=oO
      have el:(S ++ [o]).length=S.length+1:=by simp
      have Ii:PM w2 F w2.heap.size ⟨N,T,S ++ [o]⟩ X tag vn vt (.slice (some ⟨gs,0,none⟩) (S.length+1) cs) wr:=by rw [← el];exact dH
      have ed:Ext wr (wr.alloc (.cells #[.int .u8 3, .int .i64 (wd.at':Int), .string q, .bool wd.root, .slice a4 m4 c4] 91)):=Ext.push wr _
      have t0:=aB ed s0
      have t1:=aB ed s1
      have t2:=aB ed s2
      have tf:(wr.alloc (.cells #[.int .u8 3, .int .i64 (wd.at':Int), .string q, .bool wd.root, .slice a4 m4 c4] 91)).frozen? ⟨gs,S.length * 3+2,none⟩=false:=(World.frozen?_of_block (ed.block gs (aS s0))).trans (sf _)
      simp only [List.length_append,List.length_cons,List.length_nil] at PE ⊢
      by_cases hg:o.kind=2∧o.els=false
      ·rw [hg.1] at s1 t1
       rw [hg.2] at s2 t2
       have cq:b9 ⟨N,T,S ++ [o]⟩ wd=.inl ⟨N.modify o.node fun x=>{ x with has:=true },T,S ++ [{ o with els:=true }]⟩:=by
        unfold b9
        rw [if_pos (by simp [qF])]
        simp [hg.1,hg.2]
       have pB:=jT xM cq
       have lV:=jU cg cq
       rw [cq] at a8
       simp only at a8
       have NI:o.node < N.length:=xM o (by simp)
       have EJ:=(Ii.ext' ed).Pv
       clear ed dH Ii el EI MW MX cq xM cg dR sf
       generalize hd:S.length=d at *
       gi_wp2
       rw [wpIn_wide]
       generalize (wr.alloc (.cells #[.int .u8 3, .int .i64 (wd.at':Int), .string q, .bool wd.root, .slice a4 m4 c4] 91)).setCell ⟨gs,d * 3+2,none⟩ (.bool true)=W6 at EJ ⊢
       obtain ⟨gs',qy,Tl,⟨r0,-,-⟩,-⟩:=EJ.last
       simp only [Value.slice.injEq,Option.some.injEq,Addr.mk.injEq] at Tl
       obtain ⟨⟨rfl,-,-⟩,-,-⟩:=Tl
       rw [hd] at r0
       obtain ⟨gn,cn,x,y,rfl,hx,hy,eK,fq⟩:=EJ.node NI
       have xv:X.length=N.length:=EJ.len
       obtain ⟨v1,v2,v3,v4⟩:=aL EJ.c7
       have fn7:=fq (o.node * 9+7)
       have c7:=eK 7 (by decide)
       have c7:W6.cell? ⟨gn,o.node * 9+7,none⟩=some (.bool x.has):=c7
       obtain ⟨X',XC⟩:=EJ.Pu rfl hx
       clear t0 t1 t2 tf s0 s1 s2 y0 y1 y2 y3 y4 eK fq v3 v4
       simp only at NI v1 r0 c7 fn7
       generalize hk:o.node=k at *
       refine aW (by kernel_rfl) [9] (fun u v=>v.cell? ⟨w2.heap.size,0,none⟩=u.cell? ⟨w2.heap.size,0,none⟩∧v.cell? ⟨gs,d * 3,none⟩=u.cell? ⟨gs,d * 3,none⟩) [(0,true),(1,true),(2,true),(3,true),(4,true),(5,true),(6,true),(7,true),(8,true),(9,false)]
        (by kernel_rfl) (by kernel_rfl) (by kernel_rfl) (fun _=>⟨rfl,rfl⟩) (fun _ _ _ h1 h2=>⟨h2.1.trans h1.1,h2.2.trans h1.2⟩) ?_
       iterate 9 (
        refine' aT ?_ ?_ ?_ ?_;rotate_left 2
        ·(simp only [zA];rfl)
        ·rfl
        ·(intro w' hE;have q1:=hE.1.trans v1;have q2:=hE.2.trans r0;go_simp;try rfl)
        try simp only [Act.put,zB])
       refine' fS ?_ (by kernel_rfl) ?_;rotate_left 1
       ·(simp only [zA];rfl)
       intro K hK
       go_simp
       refine hK.out _ _ ?_
       clear hK K
       refine cF ?_
       gi_wp2
       exact ⟨⟨i+1,_,_,_,_,_,congrArg (Value.int .i64) (by omega),aM,a8,pB,lV,XC.ext' (Ext.drew _ _)⟩,by show _ - Int.toNat _ < _ - Int.toNat _;omega⟩
      ·have ov:iM ws=.bad wd.at' 4:=by
        rw [← a8]
        unfold b9
        rw [if_pos (by simp [qF])]
        have:(o.kind != 2 || o.els)=true:=by
         rw [Bool.or_eq_true,bne_iff_ne]
         by_cases h2:o.kind=2
         ·right
          cases he:o.els with
          | true=>rfl
          | false=>exact absurd ⟨h2,he⟩ hg
         ·exact .inl h2
        simp [this]
       have Tm:(o.kind=2∧o.els=true)∨¬ ((o.kind.toNat:Int)=2):=by
        by_cases h2:o.kind=2
        ·left
         refine ⟨h2,?_⟩
         cases he:o.els with
         | true=>rfl
         | false=>exact absurd ⟨h2,he⟩ hg
        ·right
         intro e
         exact h2 (UInt8.toNat_inj.1 (by show _=2;omega))
       clear a8 hg
       generalize hd:S.length=d at *
       rcases Tm with ⟨e1,e2⟩ | DK
       ·rw [e1] at t1 s1
        rw [e2] at t2 s2
        clear e1 e2
        gi_wp2
        rw [wpIn_wide]
        clear t0 t1 t2 tf
        have ed:Ext wr (wr.alloc (.cells #[.int .u8 3, .int .i64 (wd.at':Int), .string q, .bool wd.root, .slice a4 m4 c4] 91)):=Ext.push wr _
        have dP:=World.alloc_heap_new wr (.cells #[.int .u8 3, .int .i64 (wd.at':Int), .string q, .bool wd.root, .slice a4 m4 c4] 91)
        generalize wr.alloc (.cells #[.int .u8 3, .int .i64 (wd.at':Int), .string q, .bool wd.root, .slice a4 m4 c4] 91)=W5 at ed dP ⊢
        have p1:W5.cell? ⟨wr.heap.size,1,none⟩=some (.int .i64 (wd.at':Int)):=by simp [World.cell?,dP]
        clear dP
        have uj:=(ed.block _ (Array.getElem?_eq_some_iff.1 ir).1).trans ir
        obtain ⟨v1,v2,v3,v4⟩:=aL uj
        have aY:wr.heap.size≠w.heap.size:=by have:=(Array.getElem?_eq_some_iff.1 ir).1;omega
        clear y0 y1 y2 y3 y4 MW EI MX dH
        refine aW (by kernel_rfl) [] (fun u v=>v.cell? ⟨wr.heap.size,1,none⟩=u.cell? ⟨wr.heap.size,1,none⟩) [(0,true),(1,true),(2,true),(3,false),(4,true),(5,true)]
         (by kernel_rfl) (by kernel_rfl) (by kernel_rfl) (fun _=>rfl) (fun _ _ _ h1 h2=>h2.trans h1) ?_
        iterate 3 (
         refine' aT ?_ ?_ ?_ ?_;rotate_left 2
         ·(simp only [zA];rfl)
         ·rfl
         ·(intro w' hE;have q1:=hE.trans p1;go_simp;try rfl)
         try simp only [Act.put,zB])
        refine' bH ?_ ?_;rotate_left 1
        ·(simp only [zA];rfl)
        intro K hK
        go_simp
        refine hK.out _ _ (World.cell?_of_block ((an aY).trans (an aY))) ?_
        clear hK K
        try simp only [Act.put,zB]
        iterate 2 (
         refine' aT ?_ ?_ ?_ ?_;rotate_left 2
         ·(simp only [zA];rfl)
         ·rfl
         ·(intro w' hE;go_simp;try rfl)
         try simp only [Act.put,zB])
        refine cF ?_
        gi_wp2
        refine bodyPost_ret (results36 _ _ w.heap.size (.slice none 0 0) (.slice none 0 0) (.int .i64 (wd.at':Int)) (.int .i64 4) rfl rfl rfl (bA _ _ uj)) rfl ?_
        exact ⟨cD (dO (jw.trans (dt.trans (dR.trans ed)))) _ _,(by rw [ov];first | done | rfl)⟩
       ·gi_wp2
        rw [wpIn_wide]
        clear t0 t1 t2 tf
        have ed:Ext wr (wr.alloc (.cells #[.int .u8 3, .int .i64 (wd.at':Int), .string q, .bool wd.root, .slice a4 m4 c4] 91)):=Ext.push wr _
        have dP:=World.alloc_heap_new wr (.cells #[.int .u8 3, .int .i64 (wd.at':Int), .string q, .bool wd.root, .slice a4 m4 c4] 91)
        generalize wr.alloc (.cells #[.int .u8 3, .int .i64 (wd.at':Int), .string q, .bool wd.root, .slice a4 m4 c4] 91)=W5 at ed dP ⊢
        have p1:W5.cell? ⟨wr.heap.size,1,none⟩=some (.int .i64 (wd.at':Int)):=by simp [World.cell?,dP]
        clear dP
        have uj:=(ed.block _ (Array.getElem?_eq_some_iff.1 ir).1).trans ir
        obtain ⟨v1,v2,v3,v4⟩:=aL uj
        have aY:wr.heap.size≠w.heap.size:=by have:=(Array.getElem?_eq_some_iff.1 ir).1;omega
        clear y0 y1 y2 y3 y4 MW EI MX dH
        refine aW (by kernel_rfl) [] (fun u v=>v.cell? ⟨wr.heap.size,1,none⟩=u.cell? ⟨wr.heap.size,1,none⟩) [(0,true),(1,true),(2,true),(3,false),(4,true),(5,true)]
         (by kernel_rfl) (by kernel_rfl) (by kernel_rfl) (fun _=>rfl) (fun _ _ _ h1 h2=>h2.trans h1) ?_
        iterate 3 (
         refine' aT ?_ ?_ ?_ ?_;rotate_left 2
         ·(simp only [zA];rfl)
         ·rfl
         ·(intro w' hE;have q1:=hE.trans p1;go_simp;try rfl)
         try simp only [Act.put,zB])
        refine' bH ?_ ?_;rotate_left 1
        ·(simp only [zA];rfl)
        intro K hK
        go_simp
        refine hK.out _ _ (World.cell?_of_block ((an aY).trans (an aY))) ?_
        clear hK K
        try simp only [Act.put,zB]
        iterate 2 (
         refine' aT ?_ ?_ ?_ ?_;rotate_left 2
         ·(simp only [zA];rfl)
         ·rfl
         ·(intro w' hE;go_simp;try rfl)
         try simp only [Act.put,zB])
        refine cF ?_
        gi_wp2
        refine bodyPost_ret (results36 _ _ w.heap.size (.slice none 0 0) (.slice none 0 0) (.int .i64 (wd.at':Int)) (.int .i64 4) rfl rfl rfl (bA _ _ uj)) rfl ?_
        exact ⟨cD (dO (jw.trans (dt.trans (dR.trans ed)))) _ _,(by rw [ov];first | done | rfl)⟩
    ·have tZ:wd.kind=0∨wd.kind=1∨wd.kind=6∨wd.kind=2∨wd.kind=4:=by
      have a3:wd.kind.toNat≠3:=fun e=>qF (UInt8.toNat_inj.1 e)
      have a5:wd.kind.toNat≠5:=fun e=>Tk (UInt8.toNat_inj.1 e)
      have:wd.kind.toNat=0∨wd.kind.toNat=1∨wd.kind.toNat=6∨wd.kind.toNat=2∨wd.kind.toNat=4:=by omega
      rcases this with e | e | e | e | e
      ·exact .inl (UInt8.toNat_inj.1 e)
      ·exact .inr (.inl (UInt8.toNat_inj.1 e))
      ·exact .inr (.inr (.inl (UInt8.toNat_inj.1 e)))
      ·exact .inr (.inr (.inr (.inl (UInt8.toNat_inj.1 e))))
      ·exact .inr (.inr (.inr (.inr (UInt8.toNat_inj.1 e))))
     obtain ⟨tH,cn,rfl⟩:=fj dH.nd.1
     have xv:X.length=N.length:=dH.len
     obtain ⟨v1,v2,v3,v4⟩:=aL dH.c7
     have Te:=dH.uk
     have Ij:(⟨N ++ [bS wd],T,S⟩:Ms).wf:=fun o ho=>by have:=xM o ho;simp only [List.length_append] at this ⊢;omega
     have Ik:(⟨N ++ [bS wd],T,S⟩:Ms).sz (i+1):=⟨by have:=cg.nodes;simp at this ⊢;omega,by have:=cg.top;simp at this ⊢;omega,fun y hy=>by
      rcases List.mem_append.1 hy with hy | hy
      ·have:=cg.two y hy;omega
      ·obtain rfl:=List.mem_singleton.1 hy;exact ⟨Nat.zero_le _,Nat.zero_le _⟩,PE⟩
     rcases tZ with hk | hk | hk | hk | hk
     ·rw [hk] at y0
      have cq:b9 ⟨N,T,S⟩ wd=.inl (Ms.add ⟨N ++ [bS wd],T,S⟩ [N.length]):=by
       unfold b9
       rw [if_neg (by simp [hk]),if_neg (by simp [hk]),if_neg (by simp [hk])]
       simp [hk]
      have pB:=jT xM cq
      have lV:=jU cg cq
      rw [cq] at a8
      simp only at a8
      have dG:Ext wr ((wr.alloc (.cells #[.int .u8 0, .int .i64 (wd.at':Int), .string q, .bool wd.root, .slice a4 m4 c4] 91)).alloc (.cells #[.int .i64 0, .int .i64 1, .int .i64 2, .int .i64 0, .int .i64 3, .int .i64 0, .int .i64 4] 3)):=(Ext.push wr _).trans (Ext.push _ _)
      have u1:=aB dG v1
      generalize hd:S.length=d at *
      gi_wp2
      rw [wpIn_wide]
      have dP:=ay (o:=.cells #[.int .i64 0, .int .i64 1, .int .i64 2, .int .i64 0, .int .i64 3, .int .i64 0, .int .i64 4] 3) (w:=wr.alloc (.cells #[.int .u8 0, .int .i64 (wd.at':Int), .string q, .bool wd.root, .slice a4 m4 c4] 91)) (i:=wr.heap.size) (by simp)
      rw [World.alloc_heap_new wr _] at dP
      have rF:=World.alloc_heap_new (wr.alloc (.cells #[.int .u8 0, .int .i64 (wd.at':Int), .string q, .bool wd.root, .slice a4 m4 c4] 91)) (.cells #[.int .i64 0, .int .i64 1, .int .i64 2, .int .i64 0, .int .i64 3, .int .i64 0, .int .i64 4] 3)
      rw [show (wr.alloc (.cells #[.int .u8 0, .int .i64 (wd.at':Int), .string q, .bool wd.root, .slice a4 m4 c4] 91)).heap.size=wr.heap.size+1 by simp] at rF
      generalize (wr.alloc (.cells #[.int .u8 0, .int .i64 (wd.at':Int), .string q, .bool wd.root, .slice a4 m4 c4] 91)).alloc (.cells #[.int .i64 0, .int .i64 1, .int .i64 2, .int .i64 0, .int .i64 3, .int .i64 0, .int .i64 4] 3)=W5 at dP rF dG u1 ⊢
      have p0:W5.cell? ⟨wr.heap.size,0,none⟩=some (.int .u8 0):=by simp [World.cell?,dP]
      have p1:W5.cell? ⟨wr.heap.size,1,none⟩=some (.int .i64 (wd.at':Int)):=by simp [World.cell?,dP]
      have p2:W5.cell? ⟨wr.heap.size,2,none⟩=some (.string q):=by simp [World.cell?,dP]
      have p3:W5.cell? ⟨wr.heap.size,3,none⟩=some (.bool wd.root):=by simp [World.cell?,dP]
      have p4:W5.cell? ⟨wr.heap.size,4,none⟩=some (.slice a4 m4 c4):=by simp [World.cell?,dP]
      have pk:W5.cell? ⟨wr.heap.size+1,0,none⟩=some (.int .i64 0):=by simp [World.cell?,rF]
      have Dp:IntKind.u8.wrap 0=0:=by decide
      have h5:=dH.ext' dG
      clear v1 v2 v3 v4 y0 y1 y2 y3 y4 rF
      refine aW (by kernel_rfl) [18] (fun u v=>v.heap[w2.heap.size]?=u.heap[w2.heap.size]?∧v.heap[wr.heap.size]?=u.heap[wr.heap.size]?∧v.heap[wr.heap.size+1]?=u.heap[wr.heap.size+1]?) [(0,true),(1,true),(2,true),(3,true),(4,true),(5,true),(6,true),(7,true),(8,true),(9,true),(10,true),(11,true),(12,true),(13,true),(14,true),(15,false),(16,false),(17,true),(18,false)]
       (by kernel_rfl) (by kernel_rfl) (by kernel_rfl) (fun _=>⟨rfl,rfl,rfl⟩) (fun _ _ _ h1 h2=>⟨h2.1.trans h1.1,h2.2.1.trans h1.2.1,h2.2.2.trans h1.2.2⟩) ?_
      iterate 15 (
       refine' aT ?_ ?_ ?_ ?_;rotate_left 2
       ·(simp only [zA];rfl)
       ·rfl
       ·(intro w' hE;have q1:=(World.cell?_of_block (a:=⟨w2.heap.size,0,none⟩) hE.1).trans u1;have r0:=(World.cell?_of_block (a:=⟨wr.heap.size,0,none⟩) hE.2.1).trans p0;have r1:=(World.cell?_of_block (a:=⟨wr.heap.size,1,none⟩) hE.2.1).trans p1;have r2:=(World.cell?_of_block (a:=⟨wr.heap.size,2,none⟩) hE.2.1).trans p2;have r3:=(World.cell?_of_block (a:=⟨wr.heap.size,3,none⟩) hE.2.1).trans p3;have r4:=(World.cell?_of_block (a:=⟨wr.heap.size,4,none⟩) hE.2.1).trans p4;have rk:=(World.cell?_of_block (a:=⟨wr.heap.size+1,0,none⟩) hE.2.2).trans pk;go_simp;try rfl)
       try simp only [Act.put,zB])
      refine' bH ?_ ?_;rotate_left 1
      ·(simp only [zA];rfl)
      intro K hK
      go_simp
      have z5:wr.heap.size < W5.heap.size:=aS p0
      have z6:wr.heap.size+1 < W5.heap.size:=aS pk
      have z7:w2.heap.size < W5.heap.size:=aS u1
      refine hK.out _ _ ⟨ay z7,ay z5,ay z6⟩ ?_
      clear hK K
      try simp only [Act.put,zB]
      have lX:Ext W5 (W5.alloc (.cells #[.int .u8 0, .int .i64 (wd.at':Int), .string q, .bool wd.root, .slice a4 m4 c4, .slice none 0 0, .slice none 0 0, .bool false, .int .u8 0] 58)):=Ext.push W5 _
      have h6:=h5.ext' lX
      have fw:=nq W5 (Vn.cells ⟨0,wd.at',q,wd.root, .slice a4 m4 c4, .slice none 0 0, .slice none 0 0,false⟩) 58
      obtain ⟨i61,nx,ny,jv,lU⟩:=info_parts tF
      have qR:=h6.nd.1
      rw [xv] at qR
      have dD:w2.heap.size+1≤(W5.alloc (.cells #[.int .u8 0, .int .i64 (wd.at':Int), .string q, .bool wd.root, .slice a4 m4 c4, .slice none 0 0, .slice none 0 0, .bool false, .int .u8 0] 58)).heap.size:=h6.uk
      refine' bH ?_ ?_;rotate_left 1
      ·(simp only [zA];rfl)
      intro K hK
      refine step_append_lies _ rfl (.tmp 65) (.tmp 79) 23 rfl (w2.heap.size+1) 58 i61 _ 9 120 Tryz.underlying23 nx ny jv lU rfl (by decide) (.slice tH N.length cn) N.length (X.flatMap Vn.cells) rfl qR ⟨W5.heap.size,0,none⟩ 1 1 (Vn.cells ⟨0,wd.at',q,wd.root, .slice a4 m4 c4, .slice none 0 0, .slice none 0 0,false⟩) rfl rfl fw (by simp [Vn.cells,Value.oneCell']) (by decide) (by have:Go.maxLen=9223372036854775807:=rfl;have:=cg.nodes;simp only at this;omega) (by have:=cg.nodes;simp only at this;omega) dD _ rfl ?_
      intro g cap w7 cY aQ fo Dq
      rw [← xv] at cY aQ fo ⊢
      have lP:(W5.alloc (.cells #[.int .u8 0, .int .i64 (wd.at':Int), .string q, .bool wd.root, .slice a4 m4 c4, .slice none 0 0, .slice none 0 0, .bool false, .int .u8 0] 58)).grownBy w7 (Value.slice tH X.length cn).ownBlock:=⟨aQ.os,aQ.tape,aQ.output,aQ.size,aQ.block⟩
      obtain ⟨LJ,gu⟩:=h6.addNode (y:=bS wd) lP cY fo ⟨by show (0:UInt8)=bf wd.kind;rw [hk];rfl,rfl,hq,rfl,rfl,EI,rfl,_,_,_,rfl⟩ rfl rfl rfl rfl
      have bX:∀ g,(Value.slice tH X.length cn).ownBlock=some g→w2.heap.size+1≤g∧g < wr.heap.size:=fun g e=>dH.nd.1.lt g e
      have Dr:(W5.alloc (.cells #[.int .u8 0, .int .i64 (wd.at':Int), .string q, .bool wd.root, .slice a4 m4 c4, .slice none 0 0, .slice none 0 0, .bool false, .int .u8 0] 58)).heap.size=W5.heap.size+1:=by simp
      have gw:∀ b,b < W5.heap.size→(Value.slice tH X.length cn).ownBlock≠some b→w7.heap[b]?=W5.heap[b]?:=fun b hb ho=>(lP.block b (by omega) (fun e=>ho e.symm)).trans (ay hb)
      have k7:=gw w2.heap.size z7 (fun e=>by have:=bX _ e;omega)
      have k5:=gw wr.heap.size z5 (fun e=>by have:=bX _ e;omega)
      have k6:=gw (wr.heap.size+1) z6 (fun e=>by have:=bX _ e;omega)
      have ui:=k7.trans h5.c7
      obtain ⟨-,-,e3,e4⟩:=aL ui
      refine hK.out _ _ ⟨k7.trans (ay z7).symm,k5.trans (ay z5).symm,k6.trans (ay z6).symm⟩ ?_
      clear hK K
      try simp only [Act.put,zB]
      refine' aT ?_ ?_ ?_ ?_;rotate_left 2
      ·(simp only [zA];rfl)
      ·rfl
      ·(intro w' hE;go_simp;try rfl)
      try simp only [Act.put,zB]
      obtain ⟨f1,-,f3,-⟩:=aL ui
      refine' fS ?_ (by kernel_rfl) ?_;rotate_left 1
      ·(simp only [zA];rfl)
      intro K hK
      go_simp
      refine hK.out _ _ ?_
      clear hK K
      refine cF ?_
      have rG:(w7.setCell ⟨w2.heap.size,0,none⟩ (.slice (some ⟨g,0,none⟩) (X.length+1) cap)).cell? ⟨wr.heap.size,0,none⟩=some (.int .u8 0):=(World.cell?_of_block (a:=⟨wr.heap.size,0,none⟩) ((an (show wr.heap.size≠w2.heap.size by omega)).trans k5)).trans p0
      rw [xv] at gu rG
      have Ds:∀ v:Value,(w7.setCell ⟨w2.heap.size,0,none⟩ v).heap.size=w7.heap.size:=fun v=>bz _ _ _
      have lW:ve (X ++ [⟨0,wd.at',q,wd.root, .slice a4 m4 c4, .slice none 0 0, .slice none 0 0,false⟩]) w2.heap.size (.slice (some ⟨g,0,none⟩) (N.length+1) cap) vt wr.heap.size:=by
       refine ⟨by omega,fun e=>?_,fun e=>by have:=(dH.tp.1.lt _ e).2;omega,fun x hx=>?_⟩
       ·simp only [Value.ownBlock,Option.some.injEq] at e
        rcases fo with h | h
        ·have:=bX g h;omega
        ·have:=h.trans Dr;omega
       ·rcases List.mem_append.1 hx with hx | hx
        ·obtain ⟨j,hj,rfl⟩:=List.mem_iff_getElem.1 hx
         have jf:j < N.length:=by omega
         obtain ⟨bb,be⟩:=dH.bd j _ _ (List.getElem?_eq_getElem hj) (List.getElem?_eq_getElem jf)
         exact ⟨fun e=>by have:=(bb.1.lt _ e).2;omega,fun e=>by have:=(be.1.lt _ e).2;omega⟩
        ·obtain rfl:=List.mem_singleton.1 hx
         exact ⟨nofun,nofun⟩
      have xB:wr.heap.size < w7.heap.size:=by have:=lP.size;omega
      generalize Dt:w7.setCell ⟨w2.heap.size,0,none⟩ (.slice (some ⟨g,0,none⟩) (N.length+1) cap)=W8 at gu rG ⊢
      have xC:wr.heap.size < W8.heap.size:=by rw [← Dt,Ds];exact xB
      have eR:=tq gu Ij Ik (by omega) (n:=N.length)
      clear e3 e4 f1 f3 ui k5 k6 k7 gw Dr lP aQ cY fo fw qR lX h6 h5 u1 p0 p1 p2 p3 p4 pk dP dG z5 z6 z7 dD ny jv lU nx Dt Ds bX gu dH
      gi_wp2_with (refine ⟨trivial,?_⟩;gi_at_call 38;refine eR.mono ?_;clear eR;rintro e w9 ⟨rfl,⟨X9,Az,Ux,Uy,tI⟩,eW⟩;have z9:=(World.cell?_of_block (a:=⟨wr.heap.size,0,none⟩) (eW wr.heap.size xC lW)).trans rG;clear eW lW rG)
      exact ⟨⟨i+1,_,_,_,_,_,congrArg (Value.int .i64) (by omega),aM,a8,pB,lV,tI⟩,by show _ - Int.toNat _ < _ - Int.toNat _;omega⟩
     ·rw [hk] at y0
      have cq:b9 ⟨N,T,S⟩ wd=.inl (Ms.add ⟨N ++ [bS wd],T,S⟩ [N.length]):=by
       unfold b9
       rw [if_neg (by simp [hk]),if_neg (by simp [hk]),if_neg (by simp [hk])]
       simp [hk]
      have pB:=jT xM cq
      have lV:=jU cg cq
      rw [cq] at a8
      simp only at a8
      have dG:Ext wr ((wr.alloc (.cells #[.int .u8 1, .int .i64 (wd.at':Int), .string q, .bool wd.root, .slice a4 m4 c4] 91)).alloc (.cells #[.int .i64 0, .int .i64 1, .int .i64 2, .int .i64 0, .int .i64 3, .int .i64 0, .int .i64 4] 3)):=(Ext.push wr _).trans (Ext.push _ _)
      have u1:=aB dG v1
      generalize hd:S.length=d at *
      gi_wp2
      rw [wpIn_wide]
      have dP:=ay (o:=.cells #[.int .i64 0, .int .i64 1, .int .i64 2, .int .i64 0, .int .i64 3, .int .i64 0, .int .i64 4] 3) (w:=wr.alloc (.cells #[.int .u8 1, .int .i64 (wd.at':Int), .string q, .bool wd.root, .slice a4 m4 c4] 91)) (i:=wr.heap.size) (by simp)
      rw [World.alloc_heap_new wr _] at dP
      have rF:=World.alloc_heap_new (wr.alloc (.cells #[.int .u8 1, .int .i64 (wd.at':Int), .string q, .bool wd.root, .slice a4 m4 c4] 91)) (.cells #[.int .i64 0, .int .i64 1, .int .i64 2, .int .i64 0, .int .i64 3, .int .i64 0, .int .i64 4] 3)
      rw [show (wr.alloc (.cells #[.int .u8 1, .int .i64 (wd.at':Int), .string q, .bool wd.root, .slice a4 m4 c4] 91)).heap.size=wr.heap.size+1 by simp] at rF
      generalize (wr.alloc (.cells #[.int .u8 1, .int .i64 (wd.at':Int), .string q, .bool wd.root, .slice a4 m4 c4] 91)).alloc (.cells #[.int .i64 0, .int .i64 1, .int .i64 2, .int .i64 0, .int .i64 3, .int .i64 0, .int .i64 4] 3)=W5 at dP rF dG u1 ⊢
      have p0:W5.cell? ⟨wr.heap.size,0,none⟩=some (.int .u8 1):=by simp [World.cell?,dP]
      have p1:W5.cell? ⟨wr.heap.size,1,none⟩=some (.int .i64 (wd.at':Int)):=by simp [World.cell?,dP]
      have p2:W5.cell? ⟨wr.heap.size,2,none⟩=some (.string q):=by simp [World.cell?,dP]
      have p3:W5.cell? ⟨wr.heap.size,3,none⟩=some (.bool wd.root):=by simp [World.cell?,dP]
      have p4:W5.cell? ⟨wr.heap.size,4,none⟩=some (.slice a4 m4 c4):=by simp [World.cell?,dP]
      have pk:W5.cell? ⟨wr.heap.size+1,1,none⟩=some (.int .i64 1):=by simp [World.cell?,rF]
      have Dp:IntKind.u8.wrap 1=1:=by decide
      have h5:=dH.ext' dG
      clear v1 v2 v3 v4 y0 y1 y2 y3 y4 rF
      refine aW (by kernel_rfl) [18] (fun u v=>v.heap[w2.heap.size]?=u.heap[w2.heap.size]?∧v.heap[wr.heap.size]?=u.heap[wr.heap.size]?∧v.heap[wr.heap.size+1]?=u.heap[wr.heap.size+1]?) [(0,true),(1,true),(2,true),(3,true),(4,true),(5,true),(6,true),(7,true),(8,true),(9,true),(10,true),(11,true),(12,true),(13,true),(14,true),(15,false),(16,false),(17,true),(18,false)]
       (by kernel_rfl) (by kernel_rfl) (by kernel_rfl) (fun _=>⟨rfl,rfl,rfl⟩) (fun _ _ _ h1 h2=>⟨h2.1.trans h1.1,h2.2.1.trans h1.2.1,h2.2.2.trans h1.2.2⟩) ?_
      iterate 15 (
       refine' aT ?_ ?_ ?_ ?_;rotate_left 2
       ·(simp only [zA];rfl)
       ·rfl
       ·(intro w' hE;have q1:=(World.cell?_of_block (a:=⟨w2.heap.size,0,none⟩) hE.1).trans u1;have r0:=(World.cell?_of_block (a:=⟨wr.heap.size,0,none⟩) hE.2.1).trans p0;have r1:=(World.cell?_of_block (a:=⟨wr.heap.size,1,none⟩) hE.2.1).trans p1;have r2:=(World.cell?_of_block (a:=⟨wr.heap.size,2,none⟩) hE.2.1).trans p2;have r3:=(World.cell?_of_block (a:=⟨wr.heap.size,3,none⟩) hE.2.1).trans p3;have r4:=(World.cell?_of_block (a:=⟨wr.heap.size,4,none⟩) hE.2.1).trans p4;have rk:=(World.cell?_of_block (a:=⟨wr.heap.size+1,1,none⟩) hE.2.2).trans pk;go_simp;try rfl)
       try simp only [Act.put,zB])
      refine' bH ?_ ?_;rotate_left 1
      ·(simp only [zA];rfl)
      intro K hK
      go_simp
      have z5:wr.heap.size < W5.heap.size:=aS p0
      have z6:wr.heap.size+1 < W5.heap.size:=aS pk
      have z7:w2.heap.size < W5.heap.size:=aS u1
      refine hK.out _ _ ⟨ay z7,ay z5,ay z6⟩ ?_
      clear hK K
      try simp only [Act.put,zB]
      have lX:Ext W5 (W5.alloc (.cells #[.int .u8 1, .int .i64 (wd.at':Int), .string q, .bool wd.root, .slice a4 m4 c4, .slice none 0 0, .slice none 0 0, .bool false, .int .u8 0] 58)):=Ext.push W5 _
      have h6:=h5.ext' lX
      have fw:=nq W5 (Vn.cells ⟨1,wd.at',q,wd.root, .slice a4 m4 c4, .slice none 0 0, .slice none 0 0,false⟩) 58
      obtain ⟨i61,nx,ny,jv,lU⟩:=info_parts tF
      have qR:=h6.nd.1
      rw [xv] at qR
      have dD:w2.heap.size+1≤(W5.alloc (.cells #[.int .u8 1, .int .i64 (wd.at':Int), .string q, .bool wd.root, .slice a4 m4 c4, .slice none 0 0, .slice none 0 0, .bool false, .int .u8 0] 58)).heap.size:=h6.uk
      refine' bH ?_ ?_;rotate_left 1
      ·(simp only [zA];rfl)
      intro K hK
      refine step_append_lies _ rfl (.tmp 65) (.tmp 79) 23 rfl (w2.heap.size+1) 58 i61 _ 9 120 Tryz.underlying23 nx ny jv lU rfl (by decide) (.slice tH N.length cn) N.length (X.flatMap Vn.cells) rfl qR ⟨W5.heap.size,0,none⟩ 1 1 (Vn.cells ⟨1,wd.at',q,wd.root, .slice a4 m4 c4, .slice none 0 0, .slice none 0 0,false⟩) rfl rfl fw (by simp [Vn.cells,Value.oneCell']) (by decide) (by have:Go.maxLen=9223372036854775807:=rfl;have:=cg.nodes;simp only at this;omega) (by have:=cg.nodes;simp only at this;omega) dD _ rfl ?_
      intro g cap w7 cY aQ fo Dq
      rw [← xv] at cY aQ fo ⊢
      have lP:(W5.alloc (.cells #[.int .u8 1, .int .i64 (wd.at':Int), .string q, .bool wd.root, .slice a4 m4 c4, .slice none 0 0, .slice none 0 0, .bool false, .int .u8 0] 58)).grownBy w7 (Value.slice tH X.length cn).ownBlock:=⟨aQ.os,aQ.tape,aQ.output,aQ.size,aQ.block⟩
      obtain ⟨LJ,gu⟩:=h6.addNode (y:=bS wd) lP cY fo ⟨by show (1:UInt8)=bf wd.kind;rw [hk];rfl,rfl,hq,rfl,rfl,EI,rfl,_,_,_,rfl⟩ rfl rfl rfl rfl
      have bX:∀ g,(Value.slice tH X.length cn).ownBlock=some g→w2.heap.size+1≤g∧g < wr.heap.size:=fun g e=>dH.nd.1.lt g e
      have Dr:(W5.alloc (.cells #[.int .u8 1, .int .i64 (wd.at':Int), .string q, .bool wd.root, .slice a4 m4 c4, .slice none 0 0, .slice none 0 0, .bool false, .int .u8 0] 58)).heap.size=W5.heap.size+1:=by simp
      have gw:∀ b,b < W5.heap.size→(Value.slice tH X.length cn).ownBlock≠some b→w7.heap[b]?=W5.heap[b]?:=fun b hb ho=>(lP.block b (by omega) (fun e=>ho e.symm)).trans (ay hb)
      have k7:=gw w2.heap.size z7 (fun e=>by have:=bX _ e;omega)
      have k5:=gw wr.heap.size z5 (fun e=>by have:=bX _ e;omega)
      have k6:=gw (wr.heap.size+1) z6 (fun e=>by have:=bX _ e;omega)
      have ui:=k7.trans h5.c7
      obtain ⟨-,-,e3,e4⟩:=aL ui
      refine hK.out _ _ ⟨k7.trans (ay z7).symm,k5.trans (ay z5).symm,k6.trans (ay z6).symm⟩ ?_
      clear hK K
      try simp only [Act.put,zB]
      refine' aT ?_ ?_ ?_ ?_;rotate_left 2
      ·(simp only [zA];rfl)
      ·rfl
      ·(intro w' hE;go_simp;try rfl)
      try simp only [Act.put,zB]
      obtain ⟨f1,-,f3,-⟩:=aL ui
      refine' fS ?_ (by kernel_rfl) ?_;rotate_left 1
      ·(simp only [zA];rfl)
      intro K hK
      go_simp
      refine hK.out _ _ ?_
      clear hK K
      refine cF ?_
      have rG:(w7.setCell ⟨w2.heap.size,0,none⟩ (.slice (some ⟨g,0,none⟩) (X.length+1) cap)).cell? ⟨wr.heap.size,0,none⟩=some (.int .u8 1):=(World.cell?_of_block (a:=⟨wr.heap.size,0,none⟩) ((an (show wr.heap.size≠w2.heap.size by omega)).trans k5)).trans p0
      rw [xv] at gu rG
      have Ds:∀ v:Value,(w7.setCell ⟨w2.heap.size,0,none⟩ v).heap.size=w7.heap.size:=fun v=>bz _ _ _
      have lW:ve (X ++ [⟨1,wd.at',q,wd.root, .slice a4 m4 c4, .slice none 0 0, .slice none 0 0,false⟩]) w2.heap.size (.slice (some ⟨g,0,none⟩) (N.length+1) cap) vt wr.heap.size:=by
       refine ⟨by omega,fun e=>?_,fun e=>by have:=(dH.tp.1.lt _ e).2;omega,fun x hx=>?_⟩
       ·simp only [Value.ownBlock,Option.some.injEq] at e
        rcases fo with h | h
        ·have:=bX g h;omega
        ·have:=h.trans Dr;omega
       ·rcases List.mem_append.1 hx with hx | hx
        ·obtain ⟨j,hj,rfl⟩:=List.mem_iff_getElem.1 hx
         have jf:j < N.length:=by omega
         obtain ⟨bb,be⟩:=dH.bd j _ _ (List.getElem?_eq_getElem hj) (List.getElem?_eq_getElem jf)
         exact ⟨fun e=>by have:=(bb.1.lt _ e).2;omega,fun e=>by have:=(be.1.lt _ e).2;omega⟩
        ·obtain rfl:=List.mem_singleton.1 hx
         exact ⟨nofun,nofun⟩
      have xB:wr.heap.size < w7.heap.size:=by have:=lP.size;omega
      generalize Dt:w7.setCell ⟨w2.heap.size,0,none⟩ (.slice (some ⟨g,0,none⟩) (N.length+1) cap)=W8 at gu rG ⊢
      have xC:wr.heap.size < W8.heap.size:=by rw [← Dt,Ds];exact xB
      have eR:=tq gu Ij Ik (by omega) (n:=N.length)
      clear e3 e4 f1 f3 ui k5 k6 k7 gw Dr lP aQ cY fo fw qR lX h6 h5 u1 p0 p1 p2 p3 p4 pk dP dG z5 z6 z7 dD ny jv lU nx Dt Ds bX gu dH
      gi_wp2_with (refine ⟨trivial,?_⟩;gi_at_call 38;refine eR.mono ?_;clear eR;rintro e w9 ⟨rfl,⟨X9,Az,Ux,Uy,tI⟩,eW⟩;have z9:=(World.cell?_of_block (a:=⟨wr.heap.size,0,none⟩) (eW wr.heap.size xC lW)).trans rG;clear eW lW rG)
      exact ⟨⟨i+1,_,_,_,_,_,congrArg (Value.int .i64) (by omega),aM,a8,pB,lV,tI⟩,by show _ - Int.toNat _ < _ - Int.toNat _;omega⟩
     ·rw [hk] at y0
      have cq:b9 ⟨N,T,S⟩ wd=.inl (Ms.add ⟨N ++ [bS wd],T,S⟩ [N.length]):=by
       unfold b9
       rw [if_neg (by simp [hk]),if_neg (by simp [hk]),if_neg (by simp [hk])]
       simp [hk]
      have pB:=jT xM cq
      have lV:=jU cg cq
      rw [cq] at a8
      simp only at a8
      have dG:Ext wr ((wr.alloc (.cells #[.int .u8 6, .int .i64 (wd.at':Int), .string q, .bool wd.root, .slice a4 m4 c4] 91)).alloc (.cells #[.int .i64 0, .int .i64 1, .int .i64 2, .int .i64 0, .int .i64 3, .int .i64 0, .int .i64 4] 3)):=(Ext.push wr _).trans (Ext.push _ _)
      have u1:=aB dG v1
      generalize hd:S.length=d at *
      gi_wp2
      rw [wpIn_wide]
      have dP:=ay (o:=.cells #[.int .i64 0, .int .i64 1, .int .i64 2, .int .i64 0, .int .i64 3, .int .i64 0, .int .i64 4] 3) (w:=wr.alloc (.cells #[.int .u8 6, .int .i64 (wd.at':Int), .string q, .bool wd.root, .slice a4 m4 c4] 91)) (i:=wr.heap.size) (by simp)
      rw [World.alloc_heap_new wr _] at dP
      have rF:=World.alloc_heap_new (wr.alloc (.cells #[.int .u8 6, .int .i64 (wd.at':Int), .string q, .bool wd.root, .slice a4 m4 c4] 91)) (.cells #[.int .i64 0, .int .i64 1, .int .i64 2, .int .i64 0, .int .i64 3, .int .i64 0, .int .i64 4] 3)
      rw [show (wr.alloc (.cells #[.int .u8 6, .int .i64 (wd.at':Int), .string q, .bool wd.root, .slice a4 m4 c4] 91)).heap.size=wr.heap.size+1 by simp] at rF
      generalize (wr.alloc (.cells #[.int .u8 6, .int .i64 (wd.at':Int), .string q, .bool wd.root, .slice a4 m4 c4] 91)).alloc (.cells #[.int .i64 0, .int .i64 1, .int .i64 2, .int .i64 0, .int .i64 3, .int .i64 0, .int .i64 4] 3)=W5 at dP rF dG u1 ⊢
      have p0:W5.cell? ⟨wr.heap.size,0,none⟩=some (.int .u8 6):=by simp [World.cell?,dP]
      have p1:W5.cell? ⟨wr.heap.size,1,none⟩=some (.int .i64 (wd.at':Int)):=by simp [World.cell?,dP]
      have p2:W5.cell? ⟨wr.heap.size,2,none⟩=some (.string q):=by simp [World.cell?,dP]
      have p3:W5.cell? ⟨wr.heap.size,3,none⟩=some (.bool wd.root):=by simp [World.cell?,dP]
      have p4:W5.cell? ⟨wr.heap.size,4,none⟩=some (.slice a4 m4 c4):=by simp [World.cell?,dP]
      have pk:W5.cell? ⟨wr.heap.size+1,6,none⟩=some (.int .i64 4):=by simp [World.cell?,rF]
      have Dp:IntKind.u8.wrap 4=4:=by decide
      have h5:=dH.ext' dG
      clear v1 v2 v3 v4 y0 y1 y2 y3 y4 rF
      refine aW (by kernel_rfl) [18] (fun u v=>v.heap[w2.heap.size]?=u.heap[w2.heap.size]?∧v.heap[wr.heap.size]?=u.heap[wr.heap.size]?∧v.heap[wr.heap.size+1]?=u.heap[wr.heap.size+1]?) [(0,true),(1,true),(2,true),(3,true),(4,true),(5,true),(6,true),(7,true),(8,true),(9,true),(10,true),(11,true),(12,true),(13,true),(14,true),(15,false),(16,false),(17,true),(18,false)]
       (by kernel_rfl) (by kernel_rfl) (by kernel_rfl) (fun _=>⟨rfl,rfl,rfl⟩) (fun _ _ _ h1 h2=>⟨h2.1.trans h1.1,h2.2.1.trans h1.2.1,h2.2.2.trans h1.2.2⟩) ?_
      iterate 15 (
       refine' aT ?_ ?_ ?_ ?_;rotate_left 2
       ·(simp only [zA];rfl)
       ·rfl
       ·(intro w' hE;have q1:=(World.cell?_of_block (a:=⟨w2.heap.size,0,none⟩) hE.1).trans u1;have r0:=(World.cell?_of_block (a:=⟨wr.heap.size,0,none⟩) hE.2.1).trans p0;have r1:=(World.cell?_of_block (a:=⟨wr.heap.size,1,none⟩) hE.2.1).trans p1;have r2:=(World.cell?_of_block (a:=⟨wr.heap.size,2,none⟩) hE.2.1).trans p2;have r3:=(World.cell?_of_block (a:=⟨wr.heap.size,3,none⟩) hE.2.1).trans p3;have r4:=(World.cell?_of_block (a:=⟨wr.heap.size,4,none⟩) hE.2.1).trans p4;have rk:=(World.cell?_of_block (a:=⟨wr.heap.size+1,6,none⟩) hE.2.2).trans pk;go_simp;try rfl)
       try simp only [Act.put,zB])
      refine' bH ?_ ?_;rotate_left 1
      ·(simp only [zA];rfl)
      intro K hK
      go_simp
      have z5:wr.heap.size < W5.heap.size:=aS p0
      have z6:wr.heap.size+1 < W5.heap.size:=aS pk
      have z7:w2.heap.size < W5.heap.size:=aS u1
      refine hK.out _ _ ⟨ay z7,ay z5,ay z6⟩ ?_
      clear hK K
      try simp only [Act.put,zB]
      have lX:Ext W5 (W5.alloc (.cells #[.int .u8 4, .int .i64 (wd.at':Int), .string q, .bool wd.root, .slice a4 m4 c4, .slice none 0 0, .slice none 0 0, .bool false, .int .u8 0] 58)):=Ext.push W5 _
      have h6:=h5.ext' lX
      have fw:=nq W5 (Vn.cells ⟨4,wd.at',q,wd.root, .slice a4 m4 c4, .slice none 0 0, .slice none 0 0,false⟩) 58
      obtain ⟨i61,nx,ny,jv,lU⟩:=info_parts tF
      have qR:=h6.nd.1
      rw [xv] at qR
      have dD:w2.heap.size+1≤(W5.alloc (.cells #[.int .u8 4, .int .i64 (wd.at':Int), .string q, .bool wd.root, .slice a4 m4 c4, .slice none 0 0, .slice none 0 0, .bool false, .int .u8 0] 58)).heap.size:=h6.uk
      refine' bH ?_ ?_;rotate_left 1
      ·(simp only [zA];rfl)
      intro K hK
      refine step_append_lies _ rfl (.tmp 65) (.tmp 79) 23 rfl (w2.heap.size+1) 58 i61 _ 9 120 Tryz.underlying23 nx ny jv lU rfl (by decide) (.slice tH N.length cn) N.length (X.flatMap Vn.cells) rfl qR ⟨W5.heap.size,0,none⟩ 1 1 (Vn.cells ⟨4,wd.at',q,wd.root, .slice a4 m4 c4, .slice none 0 0, .slice none 0 0,false⟩) rfl rfl fw (by simp [Vn.cells,Value.oneCell']) (by decide) (by have:Go.maxLen=9223372036854775807:=rfl;have:=cg.nodes;simp only at this;omega) (by have:=cg.nodes;simp only at this;omega) dD _ rfl ?_
      intro g cap w7 cY aQ fo Dq
      rw [← xv] at cY aQ fo ⊢
      have lP:(W5.alloc (.cells #[.int .u8 4, .int .i64 (wd.at':Int), .string q, .bool wd.root, .slice a4 m4 c4, .slice none 0 0, .slice none 0 0, .bool false, .int .u8 0] 58)).grownBy w7 (Value.slice tH X.length cn).ownBlock:=⟨aQ.os,aQ.tape,aQ.output,aQ.size,aQ.block⟩
      obtain ⟨LJ,gu⟩:=h6.addNode (y:=bS wd) lP cY fo ⟨by show (4:UInt8)=bf wd.kind;rw [hk];rfl,rfl,hq,rfl,rfl,EI,rfl,_,_,_,rfl⟩ rfl rfl rfl rfl
      have bX:∀ g,(Value.slice tH X.length cn).ownBlock=some g→w2.heap.size+1≤g∧g < wr.heap.size:=fun g e=>dH.nd.1.lt g e
      have Dr:(W5.alloc (.cells #[.int .u8 4, .int .i64 (wd.at':Int), .string q, .bool wd.root, .slice a4 m4 c4, .slice none 0 0, .slice none 0 0, .bool false, .int .u8 0] 58)).heap.size=W5.heap.size+1:=by simp
      have gw:∀ b,b < W5.heap.size→(Value.slice tH X.length cn).ownBlock≠some b→w7.heap[b]?=W5.heap[b]?:=fun b hb ho=>(lP.block b (by omega) (fun e=>ho e.symm)).trans (ay hb)
      have k7:=gw w2.heap.size z7 (fun e=>by have:=bX _ e;omega)
      have k5:=gw wr.heap.size z5 (fun e=>by have:=bX _ e;omega)
      have k6:=gw (wr.heap.size+1) z6 (fun e=>by have:=bX _ e;omega)
      have ui:=k7.trans h5.c7
      obtain ⟨-,-,e3,e4⟩:=aL ui
      refine hK.out _ _ ⟨k7.trans (ay z7).symm,k5.trans (ay z5).symm,k6.trans (ay z6).symm⟩ ?_
      clear hK K
      try simp only [Act.put,zB]
      refine' aT ?_ ?_ ?_ ?_;rotate_left 2
      ·(simp only [zA];rfl)
      ·rfl
      ·(intro w' hE;go_simp;try rfl)
      try simp only [Act.put,zB]
      obtain ⟨f1,-,f3,-⟩:=aL ui
      refine' fS ?_ (by kernel_rfl) ?_;rotate_left 1
      ·(simp only [zA];rfl)
      intro K hK
      go_simp
      refine hK.out _ _ ?_
      clear hK K
      refine cF ?_
      have rG:(w7.setCell ⟨w2.heap.size,0,none⟩ (.slice (some ⟨g,0,none⟩) (X.length+1) cap)).cell? ⟨wr.heap.size,0,none⟩=some (.int .u8 6):=(World.cell?_of_block (a:=⟨wr.heap.size,0,none⟩) ((an (show wr.heap.size≠w2.heap.size by omega)).trans k5)).trans p0
      rw [xv] at gu rG
      have Ds:∀ v:Value,(w7.setCell ⟨w2.heap.size,0,none⟩ v).heap.size=w7.heap.size:=fun v=>bz _ _ _
      have lW:ve (X ++ [⟨4,wd.at',q,wd.root, .slice a4 m4 c4, .slice none 0 0, .slice none 0 0,false⟩]) w2.heap.size (.slice (some ⟨g,0,none⟩) (N.length+1) cap) vt wr.heap.size:=by
       refine ⟨by omega,fun e=>?_,fun e=>by have:=(dH.tp.1.lt _ e).2;omega,fun x hx=>?_⟩
       ·simp only [Value.ownBlock,Option.some.injEq] at e
        rcases fo with h | h
        ·have:=bX g h;omega
        ·have:=h.trans Dr;omega
       ·rcases List.mem_append.1 hx with hx | hx
        ·obtain ⟨j,hj,rfl⟩:=List.mem_iff_getElem.1 hx
         have jf:j < N.length:=by omega
         obtain ⟨bb,be⟩:=dH.bd j _ _ (List.getElem?_eq_getElem hj) (List.getElem?_eq_getElem jf)
         exact ⟨fun e=>by have:=(bb.1.lt _ e).2;omega,fun e=>by have:=(be.1.lt _ e).2;omega⟩
        ·obtain rfl:=List.mem_singleton.1 hx
         exact ⟨nofun,nofun⟩
      have xB:wr.heap.size < w7.heap.size:=by have:=lP.size;omega
      generalize Dt:w7.setCell ⟨w2.heap.size,0,none⟩ (.slice (some ⟨g,0,none⟩) (N.length+1) cap)=W8 at gu rG ⊢
      have xC:wr.heap.size < W8.heap.size:=by rw [← Dt,Ds];exact xB
      have eR:=tq gu Ij Ik (by omega) (n:=N.length)
      clear e3 e4 f1 f3 ui k5 k6 k7 gw Dr lP aQ cY fo fw qR lX h6 h5 u1 p0 p1 p2 p3 p4 pk dP dG z5 z6 z7 dD ny jv lU nx Dt Ds bX gu dH
      gi_wp2_with (refine ⟨trivial,?_⟩;gi_at_call 38;refine eR.mono ?_;clear eR;rintro e w9 ⟨rfl,⟨X9,Az,Ux,Uy,tI⟩,eW⟩;have z9:=(World.cell?_of_block (a:=⟨wr.heap.size,0,none⟩) (eW wr.heap.size xC lW)).trans rG;clear eW lW rG)
      exact ⟨⟨i+1,_,_,_,_,_,congrArg (Value.int .i64) (by omega),aM,a8,pB,lV,tI⟩,by show _ - Int.toNat _ < _ - Int.toNat _;omega⟩
     ·by_cases Qu:16≤S.length
      ·have ov:iM ws=.bad wd.at' 3:=by
        rw [← a8]
        unfold b9
        rw [if_neg (by simp [hk]),if_neg (by simp [hk]),if_pos (by simp [hk];omega)]
       clear a8
       rw [hk] at y0
       have PF:(16:Int)≤(S.length:Int):=by omega
       generalize hd:S.length=d at *
       gi_wp2
       rw [wpIn_wide]
       have ed:Ext wr (wr.alloc (.cells #[.int .u8 2, .int .i64 (wd.at':Int), .string q, .bool wd.root, .slice a4 m4 c4] 91)):=Ext.push wr _
       have dP:=World.alloc_heap_new wr (.cells #[.int .u8 2, .int .i64 (wd.at':Int), .string q, .bool wd.root, .slice a4 m4 c4] 91)
       generalize wr.alloc (.cells #[.int .u8 2, .int .i64 (wd.at':Int), .string q, .bool wd.root, .slice a4 m4 c4] 91)=W5 at ed dP ⊢
       have p1:W5.cell? ⟨wr.heap.size,1,none⟩=some (.int .i64 (wd.at':Int)):=by simp [World.cell?,dP]
       clear dP
       have uj:=(ed.block _ (Array.getElem?_eq_some_iff.1 ir).1).trans ir
       obtain ⟨v1,v2,v3,v4⟩:=aL uj
       have aY:wr.heap.size≠w.heap.size:=by have:=(Array.getElem?_eq_some_iff.1 ir).1;omega
       clear y0 y1 y2 y3 y4 MW EI MX dH
       refine aW (by kernel_rfl) [] (fun u v=>v.cell? ⟨wr.heap.size,1,none⟩=u.cell? ⟨wr.heap.size,1,none⟩) [(0,true),(1,true),(2,true),(3,false),(4,true),(5,true)]
        (by kernel_rfl) (by kernel_rfl) (by kernel_rfl) (fun _=>rfl) (fun _ _ _ h1 h2=>h2.trans h1) ?_
       iterate 3 (
        refine' aT ?_ ?_ ?_ ?_;rotate_left 2
        ·(simp only [zA];rfl)
        ·rfl
        ·(intro w' hE;have q1:=hE.trans p1;go_simp;try rfl)
        try simp only [Act.put,zB])
       refine' bH ?_ ?_;rotate_left 1
       ·(simp only [zA];rfl)
       intro K hK
       go_simp
       refine hK.out _ _ (World.cell?_of_block ((an aY).trans (an aY))) ?_
       clear hK K
       try simp only [Act.put,zB]
       iterate 2 (
        refine' aT ?_ ?_ ?_ ?_;rotate_left 2
        ·(simp only [zA];rfl)
        ·rfl
        ·(intro w' hE;go_simp;try rfl)
        try simp only [Act.put,zB])
       refine cF ?_
       gi_wp2
       refine bodyPost_ret (results36 _ _ w.heap.size (.slice none 0 0) (.slice none 0 0) (.int .i64 (wd.at':Int)) (.int .i64 3) rfl rfl rfl (bA _ _ uj)) rfl ?_
       exact ⟨cD (dO (jw.trans (dt.trans (dR.trans ed)))) _ _,(by rw [ov];first | done | rfl)⟩
      ·rw [hk] at y0
       have cq:b9 ⟨N,T,S⟩ wd=.inl ⟨(Ms.add ⟨N ++ [bS wd],T,S⟩ [N.length]).nodes,(Ms.add ⟨N ++ [bS wd],T,S⟩ [N.length]).top,S ++ [⟨N.length,2,false⟩]⟩:=by
        unfold b9
        rw [if_neg (by simp [hk]),if_neg (by simp [hk]),if_neg (by simp [hk];omega)]
        simp [hk,jq]
       have PF:(S.length:Int) < 16:=by omega
       obtain ⟨i108,XD,P5,XE,HC⟩:=info_parts Dl
       have pB:=jT xM cq
       have lV:=jU cg cq
       rw [cq] at a8
       simp only at a8
       have dG:Ext wr ((wr.alloc (.cells #[.int .u8 2, .int .i64 (wd.at':Int), .string q, .bool wd.root, .slice a4 m4 c4] 91)).alloc (.cells #[.int .i64 0, .int .i64 1, .int .i64 2, .int .i64 0, .int .i64 3, .int .i64 0, .int .i64 4] 3)):=(Ext.push wr _).trans (Ext.push _ _)
       have u1:=aB dG v1
       generalize hd:S.length=d at *
       gi_wp2
       rw [wpIn_wide]
       have dP:=ay (o:=.cells #[.int .i64 0, .int .i64 1, .int .i64 2, .int .i64 0, .int .i64 3, .int .i64 0, .int .i64 4] 3) (w:=wr.alloc (.cells #[.int .u8 2, .int .i64 (wd.at':Int), .string q, .bool wd.root, .slice a4 m4 c4] 91)) (i:=wr.heap.size) (by simp)
       rw [World.alloc_heap_new wr _] at dP
       have rF:=World.alloc_heap_new (wr.alloc (.cells #[.int .u8 2, .int .i64 (wd.at':Int), .string q, .bool wd.root, .slice a4 m4 c4] 91)) (.cells #[.int .i64 0, .int .i64 1, .int .i64 2, .int .i64 0, .int .i64 3, .int .i64 0, .int .i64 4] 3)
       rw [show (wr.alloc (.cells #[.int .u8 2, .int .i64 (wd.at':Int), .string q, .bool wd.root, .slice a4 m4 c4] 91)).heap.size=wr.heap.size+1 by simp] at rF
       generalize (wr.alloc (.cells #[.int .u8 2, .int .i64 (wd.at':Int), .string q, .bool wd.root, .slice a4 m4 c4] 91)).alloc (.cells #[.int .i64 0, .int .i64 1, .int .i64 2, .int .i64 0, .int .i64 3, .int .i64 0, .int .i64 4] 3)=W5 at dP rF dG u1 ⊢
       have p0:W5.cell? ⟨wr.heap.size,0,none⟩=some (.int .u8 2):=by simp [World.cell?,dP]
       have p1:W5.cell? ⟨wr.heap.size,1,none⟩=some (.int .i64 (wd.at':Int)):=by simp [World.cell?,dP]
       have p2:W5.cell? ⟨wr.heap.size,2,none⟩=some (.string q):=by simp [World.cell?,dP]
       have p3:W5.cell? ⟨wr.heap.size,3,none⟩=some (.bool wd.root):=by simp [World.cell?,dP]
       have p4:W5.cell? ⟨wr.heap.size,4,none⟩=some (.slice a4 m4 c4):=by simp [World.cell?,dP]
       have pk:W5.cell? ⟨wr.heap.size+1,2,none⟩=some (.int .i64 2):=by simp [World.cell?,rF]
       have Dp:IntKind.u8.wrap 2=2:=by decide
       have h5:=dH.ext' dG
       clear v1 v2 v3 v4 y0 y1 y2 y3 y4 rF
       refine aW (by kernel_rfl) [18] (fun u v=>v.heap[w2.heap.size]?=u.heap[w2.heap.size]?∧v.heap[wr.heap.size]?=u.heap[wr.heap.size]?∧v.heap[wr.heap.size+1]?=u.heap[wr.heap.size+1]?) [(0,true),(1,true),(2,true),(3,true),(4,true),(5,true),(6,true),(7,true),(8,true),(9,true),(10,true),(11,true),(12,true),(13,true),(14,true),(15,false),(16,false),(17,true),(18,false)]
        (by kernel_rfl) (by kernel_rfl) (by kernel_rfl) (fun _=>⟨rfl,rfl,rfl⟩) (fun _ _ _ h1 h2=>⟨h2.1.trans h1.1,h2.2.1.trans h1.2.1,h2.2.2.trans h1.2.2⟩) ?_
       iterate 15 (
        refine' aT ?_ ?_ ?_ ?_;rotate_left 2
        ·(simp only [zA];rfl)
        ·rfl
        ·(intro w' hE;have q1:=(World.cell?_of_block (a:=⟨w2.heap.size,0,none⟩) hE.1).trans u1;have r0:=(World.cell?_of_block (a:=⟨wr.heap.size,0,none⟩) hE.2.1).trans p0;have r1:=(World.cell?_of_block (a:=⟨wr.heap.size,1,none⟩) hE.2.1).trans p1;have r2:=(World.cell?_of_block (a:=⟨wr.heap.size,2,none⟩) hE.2.1).trans p2;have r3:=(World.cell?_of_block (a:=⟨wr.heap.size,3,none⟩) hE.2.1).trans p3;have r4:=(World.cell?_of_block (a:=⟨wr.heap.size,4,none⟩) hE.2.1).trans p4;have rk:=(World.cell?_of_block (a:=⟨wr.heap.size+1,2,none⟩) hE.2.2).trans pk;go_simp;try rfl)
        try simp only [Act.put,zB])
       refine' bH ?_ ?_;rotate_left 1
       ·(simp only [zA];rfl)
       intro K hK
       go_simp
       have z5:wr.heap.size < W5.heap.size:=aS p0
       have z6:wr.heap.size+1 < W5.heap.size:=aS pk
       have z7:w2.heap.size < W5.heap.size:=aS u1
       refine hK.out _ _ ⟨ay z7,ay z5,ay z6⟩ ?_
       clear hK K
       try simp only [Act.put,zB]
       have lX:Ext W5 (W5.alloc (.cells #[.int .u8 2, .int .i64 (wd.at':Int), .string q, .bool wd.root, .slice a4 m4 c4, .slice none 0 0, .slice none 0 0, .bool false, .int .u8 0] 58)):=Ext.push W5 _
       have h6:=h5.ext' lX
       have fw:=nq W5 (Vn.cells ⟨2,wd.at',q,wd.root, .slice a4 m4 c4, .slice none 0 0, .slice none 0 0,false⟩) 58
       obtain ⟨i61,nx,ny,jv,lU⟩:=info_parts tF
       have qR:=h6.nd.1
       rw [xv] at qR
       have dD:w2.heap.size+1≤(W5.alloc (.cells #[.int .u8 2, .int .i64 (wd.at':Int), .string q, .bool wd.root, .slice a4 m4 c4, .slice none 0 0, .slice none 0 0, .bool false, .int .u8 0] 58)).heap.size:=h6.uk
       refine' bH ?_ ?_;rotate_left 1
       ·(simp only [zA];rfl)
       intro K hK
       refine step_append_lies _ rfl (.tmp 65) (.tmp 79) 23 rfl (w2.heap.size+1) 58 i61 _ 9 120 Tryz.underlying23 nx ny jv lU rfl (by decide) (.slice tH N.length cn) N.length (X.flatMap Vn.cells) rfl qR ⟨W5.heap.size,0,none⟩ 1 1 (Vn.cells ⟨2,wd.at',q,wd.root, .slice a4 m4 c4, .slice none 0 0, .slice none 0 0,false⟩) rfl rfl fw (by simp [Vn.cells,Value.oneCell']) (by decide) (by have:Go.maxLen=9223372036854775807:=rfl;have:=cg.nodes;simp only at this;omega) (by have:=cg.nodes;simp only at this;omega) dD _ rfl ?_
       intro g cap w7 cY aQ fo Dq
       rw [← xv] at cY aQ fo ⊢
       have lP:(W5.alloc (.cells #[.int .u8 2, .int .i64 (wd.at':Int), .string q, .bool wd.root, .slice a4 m4 c4, .slice none 0 0, .slice none 0 0, .bool false, .int .u8 0] 58)).grownBy w7 (Value.slice tH X.length cn).ownBlock:=⟨aQ.os,aQ.tape,aQ.output,aQ.size,aQ.block⟩
       obtain ⟨LJ,gu⟩:=h6.addNode (y:=bS wd) lP cY fo ⟨by show (2:UInt8)=bf wd.kind;rw [hk];rfl,rfl,hq,rfl,rfl,EI,rfl,_,_,_,rfl⟩ rfl rfl rfl rfl
       have bX:∀ g,(Value.slice tH X.length cn).ownBlock=some g→w2.heap.size+1≤g∧g < wr.heap.size:=fun g e=>dH.nd.1.lt g e
       have Dr:(W5.alloc (.cells #[.int .u8 2, .int .i64 (wd.at':Int), .string q, .bool wd.root, .slice a4 m4 c4, .slice none 0 0, .slice none 0 0, .bool false, .int .u8 0] 58)).heap.size=W5.heap.size+1:=by simp
       have gw:∀ b,b < W5.heap.size→(Value.slice tH X.length cn).ownBlock≠some b→w7.heap[b]?=W5.heap[b]?:=fun b hb ho=>(lP.block b (by omega) (fun e=>ho e.symm)).trans (ay hb)
       have k7:=gw w2.heap.size z7 (fun e=>by have:=bX _ e;omega)
       have k5:=gw wr.heap.size z5 (fun e=>by have:=bX _ e;omega)
       have k6:=gw (wr.heap.size+1) z6 (fun e=>by have:=bX _ e;omega)
       have ui:=k7.trans h5.c7
       obtain ⟨-,-,e3,e4⟩:=aL ui
       refine hK.out _ _ ⟨k7.trans (ay z7).symm,k5.trans (ay z5).symm,k6.trans (ay z6).symm⟩ ?_
       clear hK K
       try simp only [Act.put,zB]
       refine' aT ?_ ?_ ?_ ?_;rotate_left 2
       ·(simp only [zA];rfl)
       ·rfl
       ·(intro w' hE;go_simp;try rfl)
       try simp only [Act.put,zB]
       obtain ⟨f1,-,f3,-⟩:=aL ui
       refine' fS ?_ (by kernel_rfl) ?_;rotate_left 1
       ·(simp only [zA];rfl)
       intro K hK
       go_simp
       refine hK.out _ _ ?_
       clear hK K
       refine cF ?_
       have rG:(w7.setCell ⟨w2.heap.size,0,none⟩ (.slice (some ⟨g,0,none⟩) (X.length+1) cap)).cell? ⟨wr.heap.size,0,none⟩=some (.int .u8 2):=(World.cell?_of_block (a:=⟨wr.heap.size,0,none⟩) ((an (show wr.heap.size≠w2.heap.size by omega)).trans k5)).trans p0
       rw [xv] at gu rG
       have Ds:∀ v:Value,(w7.setCell ⟨w2.heap.size,0,none⟩ v).heap.size=w7.heap.size:=fun v=>bz _ _ _
       have lW:ve (X ++ [⟨2,wd.at',q,wd.root, .slice a4 m4 c4, .slice none 0 0, .slice none 0 0,false⟩]) w2.heap.size (.slice (some ⟨g,0,none⟩) (N.length+1) cap) vt wr.heap.size:=by
        refine ⟨by omega,fun e=>?_,fun e=>by have:=(dH.tp.1.lt _ e).2;omega,fun x hx=>?_⟩
        ·simp only [Value.ownBlock,Option.some.injEq] at e
         rcases fo with h | h
         ·have:=bX g h;omega
         ·have:=h.trans Dr;omega
        ·rcases List.mem_append.1 hx with hx | hx
         ·obtain ⟨j,hj,rfl⟩:=List.mem_iff_getElem.1 hx
          have jf:j < N.length:=by omega
          obtain ⟨bb,be⟩:=dH.bd j _ _ (List.getElem?_eq_getElem hj) (List.getElem?_eq_getElem jf)
          exact ⟨fun e=>by have:=(bb.1.lt _ e).2;omega,fun e=>by have:=(be.1.lt _ e).2;omega⟩
         ·obtain rfl:=List.mem_singleton.1 hx
          exact ⟨nofun,nofun⟩
       have xB:wr.heap.size < w7.heap.size:=by have:=lP.size;omega
       generalize Dt:w7.setCell ⟨w2.heap.size,0,none⟩ (.slice (some ⟨g,0,none⟩) (N.length+1) cap)=W8 at gu rG ⊢
       have xC:wr.heap.size < W8.heap.size:=by rw [← Dt,Ds];exact xB
       have eR:=tq gu Ij Ik (by omega) (n:=N.length)
       clear e3 e4 f1 f3 ui k5 k6 k7 gw Dr lP aQ cY fo fw qR lX h6 h5 u1 p0 p1 p2 p3 p4 pk dP dG z5 z6 z7 dD ny jv lU nx Dt Ds bX gu dH
       gi_wp2_with (first
        | (refine ⟨trivial,?_⟩;gi_at_call 38;refine eR.mono ?_;clear eR;rintro e w9 ⟨rfl,⟨X9,Az,Ux,Uy,tI⟩,eW⟩;have z9:=(World.cell?_of_block (a:=⟨wr.heap.size,0,none⟩) (eW wr.heap.size xC lW)).trans rG;clear eW lW rG;rw [Dm] at tI;have h9:=tI.ext' (Ext.push w9 (.cells #[.int .i64 (N.length:Int), .int .i64 2, .bool false] 93));have PG:=h9.sk.1;simp only at PG;rw [hd] at PG)
        | (dz;refine wpListIn_append_own_at _ rfl _ _ 88 rfl (w2.heap.size+1) 93 i108 _ 3 24 Tryz.underlying88 XD P5 XE HC rfl (by decide) (.slice Pf d cs) d (S.flatMap dX) rfl PG ⟨w9.heap.size,0,none⟩ 1 1 (dX ⟨N.length,2,false⟩) rfl rfl (nq w9 (dX ⟨N.length,2,false⟩) 93) (by simp [dX,Value.oneCell']) (by have:Go.maxLen=9223372036854775807:=rfl;omega) (by omega) (by have:=h9.uk;simp at this ⊢;omega) ?_;intro v' w10 tJ fk _ oQ;obtain ⟨g',qy,rfl⟩:=ownsRow_succ tJ;obtain ⟨Tn,tK⟩:=h9.push (o:=⟨N.length,2,false⟩) ⟨fk.os,fk.tape,fk.output,fk.size,fk.block⟩ (by simp only;rw [hd];exact tJ) (by rcases oQ with e | e;exact .inl (by rw [← e];rfl);exact .inr (by simpa [Value.ownBlock] using e));simp only at tK;rw [hd] at tK))
       exact ⟨⟨i+1,_,_,_,_,_,congrArg (Value.int .i64) (by omega),aM,a8,pB,lV,tK⟩,by show _ - Int.toNat _ < _ - Int.toNat _;omega⟩
     ·by_cases Qu:16≤S.length
      ·have ov:iM ws=.bad wd.at' 3:=by
        rw [← a8]
        unfold b9
        rw [if_neg (by simp [hk]),if_neg (by simp [hk]),if_pos (by simp [hk];omega)]
       clear a8
       rw [hk] at y0
       have PF:(16:Int)≤(S.length:Int):=by omega
       generalize hd:S.length=d at *
       gi_wp2
       rw [wpIn_wide]
       have ed:Ext wr (wr.alloc (.cells #[.int .u8 4, .int .i64 (wd.at':Int), .string q, .bool wd.root, .slice a4 m4 c4] 91)):=Ext.push wr _
       have dP:=World.alloc_heap_new wr (.cells #[.int .u8 4, .int .i64 (wd.at':Int), .string q, .bool wd.root, .slice a4 m4 c4] 91)
       generalize wr.alloc (.cells #[.int .u8 4, .int .i64 (wd.at':Int), .string q, .bool wd.root, .slice a4 m4 c4] 91)=W5 at ed dP ⊢
       have p1:W5.cell? ⟨wr.heap.size,1,none⟩=some (.int .i64 (wd.at':Int)):=by simp [World.cell?,dP]
       clear dP
       have uj:=(ed.block _ (Array.getElem?_eq_some_iff.1 ir).1).trans ir
       obtain ⟨v1,v2,v3,v4⟩:=aL uj
       have aY:wr.heap.size≠w.heap.size:=by have:=(Array.getElem?_eq_some_iff.1 ir).1;omega
       clear y0 y1 y2 y3 y4 MW EI MX dH
       refine aW (by kernel_rfl) [] (fun u v=>v.cell? ⟨wr.heap.size,1,none⟩=u.cell? ⟨wr.heap.size,1,none⟩) [(0,true),(1,true),(2,true),(3,false),(4,true),(5,true)]
        (by kernel_rfl) (by kernel_rfl) (by kernel_rfl) (fun _=>rfl) (fun _ _ _ h1 h2=>h2.trans h1) ?_
       iterate 3 (
        refine' aT ?_ ?_ ?_ ?_;rotate_left 2
        ·(simp only [zA];rfl)
        ·rfl
        ·(intro w' hE;have q1:=hE.trans p1;go_simp;try rfl)
        try simp only [Act.put,zB])
       refine' bH ?_ ?_;rotate_left 1
       ·(simp only [zA];rfl)
       intro K hK
       go_simp
       refine hK.out _ _ (World.cell?_of_block ((an aY).trans (an aY))) ?_
       clear hK K
       try simp only [Act.put,zB]
       iterate 2 (
        refine' aT ?_ ?_ ?_ ?_;rotate_left 2
        ·(simp only [zA];rfl)
        ·rfl
        ·(intro w' hE;go_simp;try rfl)
        try simp only [Act.put,zB])
       refine cF ?_
       gi_wp2
       refine bodyPost_ret (results36 _ _ w.heap.size (.slice none 0 0) (.slice none 0 0) (.int .i64 (wd.at':Int)) (.int .i64 3) rfl rfl rfl (bA _ _ uj)) rfl ?_
       exact ⟨cD (dO (jw.trans (dt.trans (dR.trans ed)))) _ _,(by rw [ov];first | done | rfl)⟩
      ·rw [hk] at y0
       have cq:b9 ⟨N,T,S⟩ wd=.inl ⟨(Ms.add ⟨N ++ [bS wd],T,S⟩ [N.length]).nodes,(Ms.add ⟨N ++ [bS wd],T,S⟩ [N.length]).top,S ++ [⟨N.length,4,false⟩]⟩:=by
        unfold b9
        rw [if_neg (by simp [hk]),if_neg (by simp [hk]),if_neg (by simp [hk];omega)]
        simp [hk,jq]
       have PF:(S.length:Int) < 16:=by omega
       obtain ⟨i108,XD,P5,XE,HC⟩:=info_parts Dl
       have pB:=jT xM cq
       have lV:=jU cg cq
       rw [cq] at a8
       simp only at a8
       have dG:Ext wr ((wr.alloc (.cells #[.int .u8 4, .int .i64 (wd.at':Int), .string q, .bool wd.root, .slice a4 m4 c4] 91)).alloc (.cells #[.int .i64 0, .int .i64 1, .int .i64 2, .int .i64 0, .int .i64 3, .int .i64 0, .int .i64 4] 3)):=(Ext.push wr _).trans (Ext.push _ _)
       have u1:=aB dG v1
       generalize hd:S.length=d at *
       gi_wp2
       rw [wpIn_wide]
       have dP:=ay (o:=.cells #[.int .i64 0, .int .i64 1, .int .i64 2, .int .i64 0, .int .i64 3, .int .i64 0, .int .i64 4] 3) (w:=wr.alloc (.cells #[.int .u8 4, .int .i64 (wd.at':Int), .string q, .bool wd.root, .slice a4 m4 c4] 91)) (i:=wr.heap.size) (by simp)
       rw [World.alloc_heap_new wr _] at dP
       have rF:=World.alloc_heap_new (wr.alloc (.cells #[.int .u8 4, .int .i64 (wd.at':Int), .string q, .bool wd.root, .slice a4 m4 c4] 91)) (.cells #[.int .i64 0, .int .i64 1, .int .i64 2, .int .i64 0, .int .i64 3, .int .i64 0, .int .i64 4] 3)
       rw [show (wr.alloc (.cells #[.int .u8 4, .int .i64 (wd.at':Int), .string q, .bool wd.root, .slice a4 m4 c4] 91)).heap.size=wr.heap.size+1 by simp] at rF
       generalize (wr.alloc (.cells #[.int .u8 4, .int .i64 (wd.at':Int), .string q, .bool wd.root, .slice a4 m4 c4] 91)).alloc (.cells #[.int .i64 0, .int .i64 1, .int .i64 2, .int .i64 0, .int .i64 3, .int .i64 0, .int .i64 4] 3)=W5 at dP rF dG u1 ⊢
       have p0:W5.cell? ⟨wr.heap.size,0,none⟩=some (.int .u8 4):=by simp [World.cell?,dP]
       have p1:W5.cell? ⟨wr.heap.size,1,none⟩=some (.int .i64 (wd.at':Int)):=by simp [World.cell?,dP]
       have p2:W5.cell? ⟨wr.heap.size,2,none⟩=some (.string q):=by simp [World.cell?,dP]
       have p3:W5.cell? ⟨wr.heap.size,3,none⟩=some (.bool wd.root):=by simp [World.cell?,dP]
       have p4:W5.cell? ⟨wr.heap.size,4,none⟩=some (.slice a4 m4 c4):=by simp [World.cell?,dP]
       have pk:W5.cell? ⟨wr.heap.size+1,4,none⟩=some (.int .i64 3):=by simp [World.cell?,rF]
       have Dp:IntKind.u8.wrap 3=3:=by decide
       have h5:=dH.ext' dG
       clear v1 v2 v3 v4 y0 y1 y2 y3 y4 rF
       refine aW (by kernel_rfl) [18] (fun u v=>v.heap[w2.heap.size]?=u.heap[w2.heap.size]?∧v.heap[wr.heap.size]?=u.heap[wr.heap.size]?∧v.heap[wr.heap.size+1]?=u.heap[wr.heap.size+1]?) [(0,true),(1,true),(2,true),(3,true),(4,true),(5,true),(6,true),(7,true),(8,true),(9,true),(10,true),(11,true),(12,true),(13,true),(14,true),(15,false),(16,false),(17,true),(18,false)]
        (by kernel_rfl) (by kernel_rfl) (by kernel_rfl) (fun _=>⟨rfl,rfl,rfl⟩) (fun _ _ _ h1 h2=>⟨h2.1.trans h1.1,h2.2.1.trans h1.2.1,h2.2.2.trans h1.2.2⟩) ?_
       iterate 15 (
        refine' aT ?_ ?_ ?_ ?_;rotate_left 2
        ·(simp only [zA];rfl)
        ·rfl
        ·(intro w' hE;have q1:=(World.cell?_of_block (a:=⟨w2.heap.size,0,none⟩) hE.1).trans u1;have r0:=(World.cell?_of_block (a:=⟨wr.heap.size,0,none⟩) hE.2.1).trans p0;have r1:=(World.cell?_of_block (a:=⟨wr.heap.size,1,none⟩) hE.2.1).trans p1;have r2:=(World.cell?_of_block (a:=⟨wr.heap.size,2,none⟩) hE.2.1).trans p2;have r3:=(World.cell?_of_block (a:=⟨wr.heap.size,3,none⟩) hE.2.1).trans p3;have r4:=(World.cell?_of_block (a:=⟨wr.heap.size,4,none⟩) hE.2.1).trans p4;have rk:=(World.cell?_of_block (a:=⟨wr.heap.size+1,4,none⟩) hE.2.2).trans pk;go_simp;try rfl)
        try simp only [Act.put,zB])
       refine' bH ?_ ?_;rotate_left 1
       ·(simp only [zA];rfl)
       intro K hK
       go_simp
       have z5:wr.heap.size < W5.heap.size:=aS p0
       have z6:wr.heap.size+1 < W5.heap.size:=aS pk
       have z7:w2.heap.size < W5.heap.size:=aS u1
       refine hK.out _ _ ⟨ay z7,ay z5,ay z6⟩ ?_
       clear hK K
       try simp only [Act.put,zB]
       have lX:Ext W5 (W5.alloc (.cells #[.int .u8 3, .int .i64 (wd.at':Int), .string q, .bool wd.root, .slice a4 m4 c4, .slice none 0 0, .slice none 0 0, .bool false, .int .u8 0] 58)):=Ext.push W5 _
       have h6:=h5.ext' lX
       have fw:=nq W5 (Vn.cells ⟨3,wd.at',q,wd.root, .slice a4 m4 c4, .slice none 0 0, .slice none 0 0,false⟩) 58
       obtain ⟨i61,nx,ny,jv,lU⟩:=info_parts tF
       have qR:=h6.nd.1
       rw [xv] at qR
       have dD:w2.heap.size+1≤(W5.alloc (.cells #[.int .u8 3, .int .i64 (wd.at':Int), .string q, .bool wd.root, .slice a4 m4 c4, .slice none 0 0, .slice none 0 0, .bool false, .int .u8 0] 58)).heap.size:=h6.uk
       refine' bH ?_ ?_;rotate_left 1
       ·(simp only [zA];rfl)
       intro K hK
       refine step_append_lies _ rfl (.tmp 65) (.tmp 79) 23 rfl (w2.heap.size+1) 58 i61 _ 9 120 Tryz.underlying23 nx ny jv lU rfl (by decide) (.slice tH N.length cn) N.length (X.flatMap Vn.cells) rfl qR ⟨W5.heap.size,0,none⟩ 1 1 (Vn.cells ⟨3,wd.at',q,wd.root, .slice a4 m4 c4, .slice none 0 0, .slice none 0 0,false⟩) rfl rfl fw (by simp [Vn.cells,Value.oneCell']) (by decide) (by have:Go.maxLen=9223372036854775807:=rfl;have:=cg.nodes;simp only at this;omega) (by have:=cg.nodes;simp only at this;omega) dD _ rfl ?_
       intro g cap w7 cY aQ fo Dq
       rw [← xv] at cY aQ fo ⊢
       have lP:(W5.alloc (.cells #[.int .u8 3, .int .i64 (wd.at':Int), .string q, .bool wd.root, .slice a4 m4 c4, .slice none 0 0, .slice none 0 0, .bool false, .int .u8 0] 58)).grownBy w7 (Value.slice tH X.length cn).ownBlock:=⟨aQ.os,aQ.tape,aQ.output,aQ.size,aQ.block⟩
       obtain ⟨LJ,gu⟩:=h6.addNode (y:=bS wd) lP cY fo ⟨by show (3:UInt8)=bf wd.kind;rw [hk];rfl,rfl,hq,rfl,rfl,EI,rfl,_,_,_,rfl⟩ rfl rfl rfl rfl
       have bX:∀ g,(Value.slice tH X.length cn).ownBlock=some g→w2.heap.size+1≤g∧g < wr.heap.size:=fun g e=>dH.nd.1.lt g e
       have Dr:(W5.alloc (.cells #[.int .u8 3, .int .i64 (wd.at':Int), .string q, .bool wd.root, .slice a4 m4 c4, .slice none 0 0, .slice none 0 0, .bool false, .int .u8 0] 58)).heap.size=W5.heap.size+1:=by simp
       have gw:∀ b,b < W5.heap.size→(Value.slice tH X.length cn).ownBlock≠some b→w7.heap[b]?=W5.heap[b]?:=fun b hb ho=>(lP.block b (by omega) (fun e=>ho e.symm)).trans (ay hb)
       have k7:=gw w2.heap.size z7 (fun e=>by have:=bX _ e;omega)
       have k5:=gw wr.heap.size z5 (fun e=>by have:=bX _ e;omega)
       have k6:=gw (wr.heap.size+1) z6 (fun e=>by have:=bX _ e;omega)
       have ui:=k7.trans h5.c7
       obtain ⟨-,-,e3,e4⟩:=aL ui
       refine hK.out _ _ ⟨k7.trans (ay z7).symm,k5.trans (ay z5).symm,k6.trans (ay z6).symm⟩ ?_
       clear hK K
       try simp only [Act.put,zB]
       refine' aT ?_ ?_ ?_ ?_;rotate_left 2
       ·(simp only [zA];rfl)
       ·rfl
       ·(intro w' hE;go_simp;try rfl)
       try simp only [Act.put,zB]
       obtain ⟨f1,-,f3,-⟩:=aL ui
       refine' fS ?_ (by kernel_rfl) ?_;rotate_left 1
       ·(simp only [zA];rfl)
       intro K hK
       go_simp
       refine hK.out _ _ ?_
       clear hK K
       refine cF ?_
       have rG:(w7.setCell ⟨w2.heap.size,0,none⟩ (.slice (some ⟨g,0,none⟩) (X.length+1) cap)).cell? ⟨wr.heap.size,0,none⟩=some (.int .u8 4):=(World.cell?_of_block (a:=⟨wr.heap.size,0,none⟩) ((an (show wr.heap.size≠w2.heap.size by omega)).trans k5)).trans p0
       rw [xv] at gu rG
       have Ds:∀ v:Value,(w7.setCell ⟨w2.heap.size,0,none⟩ v).heap.size=w7.heap.size:=fun v=>bz _ _ _
       have lW:ve (X ++ [⟨3,wd.at',q,wd.root, .slice a4 m4 c4, .slice none 0 0, .slice none 0 0,false⟩]) w2.heap.size (.slice (some ⟨g,0,none⟩) (N.length+1) cap) vt wr.heap.size:=by
        refine ⟨by omega,fun e=>?_,fun e=>by have:=(dH.tp.1.lt _ e).2;omega,fun x hx=>?_⟩
        ·simp only [Value.ownBlock,Option.some.injEq] at e
         rcases fo with h | h
         ·have:=bX g h;omega
         ·have:=h.trans Dr;omega
        ·rcases List.mem_append.1 hx with hx | hx
         ·obtain ⟨j,hj,rfl⟩:=List.mem_iff_getElem.1 hx
          have jf:j < N.length:=by omega
          obtain ⟨bb,be⟩:=dH.bd j _ _ (List.getElem?_eq_getElem hj) (List.getElem?_eq_getElem jf)
          exact ⟨fun e=>by have:=(bb.1.lt _ e).2;omega,fun e=>by have:=(be.1.lt _ e).2;omega⟩
         ·obtain rfl:=List.mem_singleton.1 hx
          exact ⟨nofun,nofun⟩
       have xB:wr.heap.size < w7.heap.size:=by have:=lP.size;omega
       generalize Dt:w7.setCell ⟨w2.heap.size,0,none⟩ (.slice (some ⟨g,0,none⟩) (N.length+1) cap)=W8 at gu rG ⊢
       have xC:wr.heap.size < W8.heap.size:=by rw [← Dt,Ds];exact xB
       have eR:=tq gu Ij Ik (by omega) (n:=N.length)
       clear e3 e4 f1 f3 ui k5 k6 k7 gw Dr lP aQ cY fo fw qR lX h6 h5 u1 p0 p1 p2 p3 p4 pk dP dG z5 z6 z7 dD ny jv lU nx Dt Ds bX gu dH
       gi_wp2_with (first
        | (refine ⟨trivial,?_⟩;gi_at_call 38;refine eR.mono ?_;clear eR;rintro e w9 ⟨rfl,⟨X9,Az,Ux,Uy,tI⟩,eW⟩;have z9:=(World.cell?_of_block (a:=⟨wr.heap.size,0,none⟩) (eW wr.heap.size xC lW)).trans rG;clear eW lW rG;rw [Dm] at tI;have h9:=tI.ext' (Ext.push w9 (.cells #[.int .i64 (N.length:Int), .int .i64 4, .bool false] 93));have PG:=h9.sk.1;simp only at PG;rw [hd] at PG)
        | (dz;refine wpListIn_append_own_at _ rfl _ _ 88 rfl (w2.heap.size+1) 93 i108 _ 3 24 Tryz.underlying88 XD P5 XE HC rfl (by decide) (.slice Pf d cs) d (S.flatMap dX) rfl PG ⟨w9.heap.size,0,none⟩ 1 1 (dX ⟨N.length,4,false⟩) rfl rfl (nq w9 (dX ⟨N.length,4,false⟩) 93) (by simp [dX,Value.oneCell']) (by have:Go.maxLen=9223372036854775807:=rfl;omega) (by omega) (by have:=h9.uk;simp at this ⊢;omega) ?_;intro v' w10 tJ fk _ oQ;obtain ⟨g',qy,rfl⟩:=ownsRow_succ tJ;obtain ⟨Tn,tK⟩:=h9.push (o:=⟨N.length,4,false⟩) ⟨fk.os,fk.tape,fk.output,fk.size,fk.block⟩ (by simp only;rw [hd];exact tJ) (by rcases oQ with e | e;exact .inl (by rw [← e];rfl);exact .inr (by simpa [Value.ownBlock] using e));simp only at tK;rw [hd] at tK))
       exact ⟨⟨i+1,_,_,_,_,_,congrArg (Value.int .i64) (by omega),aM,a8,pB,lV,tK⟩,by show _ - Int.toNat _ < _ - Int.toNat _;omega⟩
  ·have DJ:ws.drop i=[]:=List.drop_eq_nil_of_le (by omega)
   rw [DJ] at a8
   obtain ⟨N,T,S⟩:=s'
   obtain ⟨tH,cn,rfl⟩:=fj dH.nd.1
   obtain ⟨Uo,ct,rfl⟩:=fj dH.tp.1
   obtain ⟨Pf,cs,rfl⟩:=fj dH.sk.1
   obtain ⟨v1,v2,v3,v4⟩:=aL dH.c7
   have qL:w.heap.size < w2.heap.size:=(Array.getElem?_eq_some_iff.1 zo).1
   have ir:wr.heap[w.heap.size]?=some (.cells #[.slice none 0 0, .slice none 0 0] 26):=(dH.ext.block _ qL).trans zo
   obtain ⟨a1,a2,a3,a4⟩:=aL ir
   have PE:=cg.stack
   simp only at PE xg
   rcases List.eq_nil_or_concat S with rfl | ⟨S,o,rfl⟩
   ·have ov:iM ws=.ok N T:=by rw [← a8];rfl
    obtain ⟨hown,fq,rQ⟩:=dH.rel
    have dR:=dH.ext
    have Qw:∀ b,(b < w2.heap.size→F b)→(b < w.heap.size→b=1)∧b≠w.heap.size:=by
     intro b hg
     rw [← hF] at hg
     refine ⟨fun aM=>hg (by omega) (by simp;omega),fun e=>?_⟩
     have:=hg (by omega) (by simp;omega)
     omega
    simp only [List.length_nil] at *
    clear a8 oA je Dn dH xM cg hm Tj
    gi_wp2
    refine bodyPost_ret (results36 _ _ w.heap.size (.slice tH X.length cn) (.slice Uo T.length ct) (.int .i64 0) (.int .i64 0) rfl rfl rfl (bA _ _ ir)) rfl ?_
    refine ⟨cD (jw.trans (dt.trans dR)) _ _,?_⟩
    rw [ov]
    have aY:∀ g,(Value.slice tH X.length cn).ownBlock=some g→g≠w.heap.size:=fun g hg=>by have:=(fq g hg).1;omega
    exact ⟨_,_,_,_,_,rfl,hown.mono (fun b _ hg=>⟨⟨(Qw b hg.1).1,hg.2⟩,(an (Qw b hg.1).2).trans (an (Qw b hg.1).2)⟩) (fun b hb=>(an (aY b hb)).trans (an (aY b hb))),fun g hg=>⟨by have:=(fq g hg).1;omega,by rw [bz,bz];exact (fq g hg).2⟩,
     rQ.mono fun b _ hg=>⟨⟨(Qw b hg.1).1,hg.2⟩,(an (Qw b hg.1).2).trans (an (Qw b hg.1).2)⟩⟩
   ·rw [List.concat_eq_append] at *
    have NI:o.node < N.length:=xM o (by simp)
    obtain ⟨gs,cap,oO,⟨s0,s1,s2⟩,sf⟩:=dH.last
    simp only [Value.slice.injEq] at oO
    obtain ⟨rfl,-,rfl⟩:=oO
    obtain ⟨gn,cn',x,y,I0,hx,hy,eK,fq⟩:=dH.node NI
    simp only [Value.slice.injEq] at I0
    obtain ⟨rfl,-,rfl⟩:=I0
    have c1:=eK 1 (by decide)
    have c1:wr.cell? ⟨gn,o.node * 9+1,none⟩=some (.int .i64 (x.at':Int)):=c1
    have qB:=(dH.lk _ _ _ hx hy).at'
    have ov:iM ws=.bad y.at' 4:=by
     rw [← a8,eC]
     simp only [List.getLast?_append,List.getLast?_singleton,Option.some_or]
     have hy:N[o.node]?=some y:=hy
     rw [hy]
     rfl
    have xv:X.length=N.length:=dH.len
    have dR:=dH.ext
    have Uq:w2.heap.size≠w.heap.size:=by omega
    have Qv:gs≠w.heap.size:=by have:=cM dH.sk (g:=gs) rfl;omega
    have Ur:gn≠w.heap.size:=by have:=cM dH.nd (g:=gn) rfl;omega
    simp only [List.length_append,List.length_cons,List.length_nil] at PE NI ⊢
    clear a8 oA je Dn dH xM cg hm Tj eK fq sf hx hy s1 s2
    generalize hd:S.length=d at *
    generalize hk:o.node=k at *
    gi_wp2
    rw [wpIn_wide]
    have Qe:(d:Int) < (d:Int)+1:=by omega
    have XF:IntKind.i64.wrap (d:Int)=(d:Int):=cH (by omega) (by omega)
    have aar:IntKind.i64.wrap ((d:Int)+1 - 1)=(d:Int):=by rw [show ((d:Int)+1 - 1)=d by omega];exact XF
    refine aW (by kernel_rfl) [] (fun u v=>v.cell? ⟨w2.heap.size,0,none⟩=u.cell? ⟨w2.heap.size,0,none⟩∧v.cell? ⟨gs,d * 3,none⟩=u.cell? ⟨gs,d * 3,none⟩∧v.cell? ⟨gn,k * 9+1,none⟩=u.cell? ⟨gn,k * 9+1,none⟩) [(0,true),(1,true),(2,true),(3,true),(4,true),(5,true),(6,true),(7,true),(8,true),(9,true),(10,true),(11,true),(12,true),(13,false),(14,true),(15,true)]
     (by kernel_rfl) (by kernel_rfl) (by kernel_rfl) (fun _=>⟨rfl,rfl,rfl⟩) (fun _ _ _ h1 h2=>⟨h2.1.trans h1.1,h2.2.1.trans h1.2.1,h2.2.2.trans h1.2.2⟩) ?_
    iterate 5 (
     refine' aT ?_ ?_ ?_ ?_;rotate_left 2
     ·(simp only [zA];rfl)
     ·rfl
     ·(intro w' hE;have q1:=hE.1.trans v1;have q2:=hE.2.1.trans s0;have q3:=hE.2.2.trans c1;go_simp;try rfl)
     try simp only [Act.put,zB])
    refine' aT (v:=.int .i64 ((d:Int)+1)) ?_ ?_ ?_ ?_;rotate_left 1
    ·(simp only [zA];rfl)
    ·rfl
    ·(intro w' hE;go_simp)
    try simp only [Act.put,zB]
    refine' aT (v:=.int .i64 (d:Int)) ?_ ?_ ?_ ?_;rotate_left 1
    ·(simp only [zA];rfl)
    ·rfl
    ·(intro w' hE;go_simp)
    try simp only [Act.put,zB]
    iterate 6 (
     refine' aT ?_ ?_ ?_ ?_;rotate_left 2
     ·(simp only [zA];rfl)
     ·rfl
     ·(intro w' hE;have q1:=hE.1.trans v1;have q2:=hE.2.1.trans s0;have q3:=hE.2.2.trans c1;go_simp;try rfl)
     try simp only [Act.put,zB])
    refine' bH ?_ ?_;rotate_left 1
    ·(simp only [zA];rfl)
    intro K hK
    go_simp
    refine hK.out _ _ ⟨World.cell?_of_block ((an Uq).trans (an Uq)),World.cell?_of_block ((an Qv).trans (an Qv)),World.cell?_of_block ((an Ur).trans (an Ur))⟩ ?_
    clear hK K
    try simp only [Act.put,zB]
    iterate 2 (
     refine' aT ?_ ?_ ?_ ?_;rotate_left 2
     ·(simp only [zA];rfl)
     ·rfl
     ·(intro w' hE;go_simp;try rfl)
     try simp only [Act.put,zB])
    refine cF ?_
    gi_wp2
    refine bodyPost_ret (results36 _ _ w.heap.size (.slice none 0 0) (.slice none 0 0) (.int .i64 (y.at':Int)) (.int .i64 4) rfl rfl rfl (bA _ _ ir)) rfl ?_
    exact ⟨cD (dO (jw.trans (dt.trans dR))) _ _,(by rw [ov];first | done | rfl)⟩
set_option maxRecDepth 100000 in
set_option maxHeartbeats 4000000 in
theorem Il (s:ByteArray) (w:World) (hs:s.data.toList.length > 65536) :
  CallsIn Fence.wide 7 Tryz.prog 21 #[.string s] w (rD w (fun b=>b=1) (.bad 0 2)):=by
 have jw:Ext w (w.alloc (.cells #[.slice none 0 0, .slice none 0 0] 26)):=Ext.push w _
 have ZK:=World.alloc_heap_new w (.cells #[.slice none 0 0, .slice none 0 0] 26)
 obtain ⟨a0,a1,a2,a3⟩:=aL ZK
 have XA:(65536:Int) < ((s.size:Nat):Int):=by
  have:s.size=s.data.toList.length:=rfl
  omega
 clear hs
 refine callsIn_of_wp Tryz.func21 rfl trivial ?_ rfl
 simp only [Tryz.ntmps21,Nat.reduceAdd,Nat.reduceSub,zC]
 gi_wp2
 exact bodyPost_ret (results36 _ _ w.heap.size (.slice none 0 0) (.slice none 0 0) (.int .i64 0) (.int .i64 2) rfl rfl rfl ZK) rfl ⟨jw,rfl⟩
set_option maxRecDepth 100000 in
set_option maxHeartbeats 4000000 in
theorem Im (s:ByteArray) (w:World) (hm:w.cell? ⟨1,0,none⟩=some (.int .i64 mx)) (hs:s.data.toList.length≤65536) (hb:0≤(bl s.data.toList).2) :
  CallsIn Fence.wide 7 Tryz.prog 21 #[.string s] w (rD w (fun b=>b=1) (.bad (bl s.data.toList).2.toNat 4)):=by
 have jw:Ext w (w.alloc (.cells #[.slice none 0 0, .slice none 0 0] 26)):=Ext.push w _
 have cg:s.size=s.data.toList.length:=rfl
 have kT:=tG (mx:=mx) s (by omega) (w.alloc (.cells #[.slice none 0 0, .slice none 0 0] 26)) (aB jw hm)
 generalize (bl s.data.toList).2=bad at kT hb ⊢
 generalize (bl s.data.toList).1=ws at kT
 have XA:((s.size:Nat):Int)≤65536:=by omega
 clear cg hs
 refine callsIn_of_wp Tryz.func21 rfl trivial ?_ rfl
 simp only [Tryz.ntmps21,Nat.reduceAdd,Nat.reduceSub,zC]
 gi_wp2_with (refine ⟨trivial,?_⟩;gi_at_call 37;refine (callsIn_wide.2 kT).mono ?_;clear kT;rintro e w2 ⟨ad,c,rfl,dt,Tj⟩;have zo:=(dt.block w.heap.size (by simp)).trans (World.alloc_heap_new w (.cells #[.slice none 0 0, .slice none 0 0] 26));obtain ⟨a0,a1,a2,a3⟩:=aL zo)
 refine bodyPost_ret (results36 _ _ w.heap.size (.slice none 0 0) (.slice none 0 0) (.int .i64 bad) (.int .i64 4) rfl rfl rfl (bA _ _ zo)) rfl ⟨cD (jw.trans dt) _ _,?_⟩
 show _=Ending.returned (.tuple #[.agg #[.slice none 0 0, .slice none 0 0], .int .i64 (bad.toNat:Int), .int .i64 4])
 rw [Int.toNat_of_nonneg hb]
theorem Bz (s:ByteArray) (w:World) (hm:w.cell? ⟨1,0,none⟩=some (.int .i64 mx)):CallsIn Fence.wide 7 Tryz.prog 21 #[.string s] w (rD w (fun b=>b=1) (xw s.data.toList)):=by
 unfold xw
 by_cases h1:s.data.toList.length > 65536
 ·rw [if_pos h1]
  exact Il s w h1
 ·rw [if_neg h1]
  by_cases h2:0≤(bl s.data.toList).2
  ·rw [if_pos h2]
   exact Im (mx:=mx) s w hm (by omega) h2
  ·rw [if_neg h2]
   refine EH (mx:=mx) s w hm (by omega) h2 rfl ?_ ?_ ?_
   ·have:=fD (s.data.toList.length+1) s.data.toList 0 []
    simp only [List.length_nil] at this
    unfold bl
    omega
   ·exact gX _ _ _ _ fun w hw=>by simp at hw
   ·exact k8 _ _ _ _ fun w hw=>by simp at hw
end R3
namespace R3
open Go Go.Proofs Sx
def Nd.mn (x:Nd):Mn:=⟨x.kind,x.at',x.text,x.root,x.names,x.body.getD [],x.els.getD [],x.has⟩
def mh (x:Nd):AV:=.ag [.u8 x.kind, .int (x.at':Int), .s x.text, .b x.root,x.names, .ro 1 (aA (x.body.getD [])), .ro 1 (aA (x.els.getD [])), .b x.has, .u8 x.hole]
theorem To {x:Nd} (h:x.hole=0):mh x=x.mn.av:=by unfold mh;rw [h];rfl
theorem nr:∀ (t:Ts) (m:Nat),(t.arr m).map Nd.mn=jQ m t
 | .nil,m=>rfl
 | .leaf w k,m=>by simp only [Ts.arr,jQ,List.map_cons,nr k];rfl
 | .lL w b e k,m=>by simp only [Ts.arr,jQ,List.map_cons,List.map_append,nr b,nr k];rfl
 | .alt w b l c e k,m=>by simp only [Ts.arr,jQ,List.map_cons,List.map_append,nr b,nr c,nr k];rfl
theorem ld:∀ (t:Ts) (m:Nat),∀ x ∈ t.arr m,x.hole=0∧∃ w ∈ t.flat,x.names=w.names
 | .nil,m,x,h=>by cases h
 | .leaf w k,m,x,h=>by
  rcases List.mem_cons.1 h with rfl | h
  ·exact ⟨rfl,w,List.mem_cons_self ..,rfl⟩
  ·obtain ⟨h1,v,hv,h2⟩:=ld k _ x h
   exact ⟨h1,v,List.mem_cons_of_mem _ hv,h2⟩
 | .lL w b e k,m,x,h=>by
  rcases List.mem_cons.1 h with rfl | h
  ·exact ⟨rfl,w,List.mem_cons_self ..,rfl⟩
  ·rcases List.mem_append.1 h with h | h
   ·obtain ⟨h1,v,hv,h2⟩:=ld b _ x h
    exact ⟨h1,v,List.mem_cons_of_mem _ (List.mem_append_left _ hv),h2⟩
   ·obtain ⟨h1,v,hv,h2⟩:=ld k _ x h
    exact ⟨h1,v,List.mem_cons_of_mem _ (List.mem_append_right _ (List.mem_cons_of_mem _ hv)),h2⟩
 | .alt w b l c e k,m,x,h=>by
  rcases List.mem_cons.1 h with rfl | h
  ·exact ⟨rfl,w,List.mem_cons_self ..,rfl⟩
  ·rcases List.mem_append.1 h with h | h
   ·obtain ⟨h1,v,hv,h2⟩:=ld b _ x h
    exact ⟨h1,v,List.mem_cons_of_mem _ (List.mem_append_left _ hv),h2⟩
   ·rcases List.mem_append.1 h with h | h
    ·obtain ⟨h1,v,hv,h2⟩:=ld c _ x h
     exact ⟨h1,v,List.mem_cons_of_mem _ (List.mem_append_right _ (List.mem_cons_of_mem _ (List.mem_append_left _ hv))),h2⟩
    ·obtain ⟨h1,v,hv,h2⟩:=ld k _ x h
     exact ⟨h1,v,List.mem_cons_of_mem _ (List.mem_append_right _ (List.mem_cons_of_mem _ (List.mem_append_right _ (List.mem_cons_of_mem _ hv)))),h2⟩
theorem fG:∀ (t:Ts) (m:Nat),∀ x ∈ t.arr m,(x.body.getD []).length≤t.size∧(x.els.getD []).length≤t.size
 | .nil,m,x,h=>by cases h
 | .leaf w k,m,x,h=>by
  simp only [Ts.size]
  rcases List.mem_cons.1 h with rfl | h
  ·exact ⟨Nat.zero_le _,Nat.zero_le _⟩
  ·have:=fG k _ x h
   omega
 | .lL w b e k,m,x,h=>by
  simp only [Ts.size]
  rcases List.mem_cons.1 h with rfl | h
  ·have h1:((iq w (b.aH (m+1))).body.getD []).length=(b.aH (m+1)).length:=rfl
   have h2:((iq w (b.aH (m+1))).els.getD []).length=0:=rfl
   have:=cE b (m+1)
   omega
  ·rcases List.mem_append.1 h with h | h
   ·have:=fG b _ x h
    omega
   ·have:=fG k _ x h
    omega
 | .alt w b l c e k,m,x,h=>by
  simp only [Ts.size]
  rcases List.mem_cons.1 h with rfl | h
  ·have h1:((jd w (b.aH (m+1)) (c.aH (m+1+b.size))).body.getD []).length=(b.aH (m+1)).length:=rfl
   have h2:((jd w (b.aH (m+1)) (c.aH (m+1+b.size))).els.getD []).length=(c.aH (m+1+b.size)).length:=rfl
   have:=cE b (m+1)
   have:=cE c (m+1+b.size)
   omega
  ·rcases List.mem_append.1 h with h | h
   ·have:=fG b _ x h
    omega
   ·rcases List.mem_append.1 h with h | h
    ·have:=fG c _ x h
     omega
    ·have:=fG k _ x h
     omega
end R3
namespace eA
open Go Go.Proofs Sx
variable {mx:Int}
def tL:Code:=(Tryz.f39.body).getD .skip
def Io (run:RunT) (a b:UInt8) (d:Bool) (e f g i:UInt8) (j:Bool) (k:UInt8) (l:List UInt8) (m n o p q s t u w x:AV) (y:List AV) (z A:AV) (B:Int):Option AV :=
 run ((bL 8 tL []).getD []) (St.bU [(6, .cell (.ptr 6 0)),(8, .cell (.ptr 8 0))] [(6,some (cT a b d e f g i j k l)),(8,some (cV m n o p q s t u w x)),(113,some [.own 713000 58 9 y, .val z, .val A, .val (.int B)])])
def xD (run:RunT) (a b:UInt8) (d:Bool) (e f g i:UInt8) (j:Bool) (k:UInt8) (l:List UInt8) (m n:UInt8) (o:Bool) (p q s t:UInt8) (u:Bool) (w:UInt8) (x:List UInt8) (y z A B D E G H I:AV) (J:List AV) (L:AV) (M N:Int):Option AV :=
 run ((bL 19 tL []).getD []) (St.bU [(0, .cell (.ptr 113 0)),(5, .cell (.ptr 5 0)),(6, .cell (.ptr 6 0)),(7, .cell (.ptr 7 0))] [(5,some (cT a b d e f g i j k l)),(6,some (cT m n o p q s t u w x)),(7,some (cN y z A B D E G H I)),(113,some [.own 713000 58 9 J, .val L, .val (.int M), .val (.int N)])])
def Ip (run:RunT) (a b:UInt8) (d:Bool) (e f g i:UInt8) (j:Bool) (k:UInt8) (l:List UInt8) (m n:UInt8) (o:Bool) (p q s t:UInt8) (u:Bool) (w:UInt8) (x:List UInt8) (y:List AV) (z:AV) (A B:Int):Option AV :=
 run ((bL 27 tL []).getD []) (St.bU [(5, .cell (.ptr 5 0)),(6, .cell (.ptr 6 0))] [(5,some (cT a b d e f g i j k l)),(6,some (cT m n o p q s t u w x)),(113,some [.own 713000 58 9 y, .val z, .val (.int A), .val (.int B)])])
def BA (run:RunT) (a b:UInt8) (d:Bool) (e f g i:UInt8) (j:Bool) (k:UInt8) (l:List UInt8) (m n o p q s t u w x y z A B D E G H I J L M N O P Q R T U:AV) (V:List AV) (W Y Z:AV):Option AV :=
 run ((bL 23 tL []).getD []) (St.bU [(0, .cell (.ptr 113 0)),(6, .cell (.ptr 6 0)),(7, .cell (.ptr 7 0)),(11, .cell (.ptr 11 0)),(12, .cell (.ptr 12 0))] [(6,some (cT a b d e f g i j k l)),(7,some (cN m n o p q s t u w)),(11,some (cV x y z A B D E G H I)),(12,some (cV J L M N O P Q R T U)),(113,some [.own 713000 58 9 V, .val W, .val Y, .val (Z)])])
def BB (run:RunT) (a b:UInt8) (d:Bool) (e f g i:UInt8) (j:Bool) (k:UInt8) (l:List UInt8) (m n o p q s t u w x:AV) (y:List AV) (z A B:AV):Option AV :=
 run ((bL 26 tL []).getD []) (St.bU [(6, .cell (.ptr 6 0)),(11, .cell (.ptr 11 0))] [(6,some (cT a b d e f g i j k l)),(11,some (cV m n o p q s t u w x)),(113,some [.own 713000 58 9 y, .val z, .val A, .val (B)])])
def I2 (a:Int) (b d:UInt8) (e:Bool) (f g i j:UInt8) (k:Bool) (l:UInt8) (m:List UInt8) (n:List AV) (o:AV) (p q:Int) (c:al) (r:RunT):Option AV :=
 (lZ n.length (.int a)).bind fun s=>(conv .i64 (AV.cell (n.getD s .un) 0)).bind fun t=>(aD .eql t (.int 0)).bind fun u=>ah u
 ((M3 (AV.cell (n.getD s .un) 2)).bind fun w=>(c 54 [.ag [.u8 b, .u8 d, .b e, .u8 f, .u8 g, .u8 i, .u8 j, .b k, .u8 l, .s m],w]).bind fun x=>(aP x 0).bind fun y=>(aP x 1).bind fun z=>(AV.aE 10 y).bind fun A=>(aD .geq z (.int 0)).bind fun B=>ah B
 ((aD .add (AV.cell (n.getD s .un) 1) z).bind fun D=>(AV.one D).bind fun E=>Io r 0 0 false 0 0 0 0 false 0 [] (gt A 0) (gt A 1) (gt A 2) (gt A 3) (gt A 4) (gt A 5) (gt A 6) (gt A 7) (gt A 8) (gt A 9) n o E 5)
 (Io r 0 0 false 0 0 0 0 false 0 [] (gt A 0) (gt A 1) (gt A 2) (gt A 3) (gt A 4) (gt A 5) (gt A 6) (gt A 7) (gt A 8) (gt A 9) n o (.int p) q))
 ((aD .eql t (.int 1)).bind fun G=>ah G
 ((c 55 [.ag [.u8 b, .u8 d, .b e, .u8 f, .u8 g, .u8 i, .u8 j, .b k, .u8 l, .s m]]).bind fun H=>(aD .eql H (.int 0)).bind fun I=>ah I
 ((AV.one (AV.cell (n.getD s .un) 1)).bind fun J=>some (.tu [.ag [.u8 b, .u8 d, .b e, .u8 f, .u8 g, .u8 i, .u8 j, .b k, .u8 l, .s m], .ag [.ro 9 n,o,J, .int 6]]))
 ((conv .u8 H).bind fun L=>(lZ n.length (.int a)).bind fun M=>(AV.one L).bind fun N=>(c 56 [.ag [.u8 b, .u8 d, .b e, .u8 f, .u8 g, .u8 i, .u8 j, .b k, .u8 l, .s m]]).bind fun O=>(AV.aE 10 O).bind fun P=>some (.tu [.ag [gt P 0,gt P 1,gt P 2,gt P 3,gt P 4,gt P 5,gt P 6,gt P 7,gt P 8,gt P 9], .ag [.ro 9 (n.set M (.ag [AV.cell (n.getD M .un) 0,AV.cell (n.getD M .un) 1,AV.cell (n.getD M .un) 2,AV.cell (n.getD M .un) 3,AV.cell (n.getD M .un) 4,AV.cell (n.getD M .un) 5,AV.cell (n.getD M .un) 6,AV.cell (n.getD M .un) 7,N])),o, .int p, .int q]])))
 ((aD .eql t (.int 2)).bind fun Q=>ah Q
 (xD r b d e f g i j k l m 0 0 false 0 0 0 0 false 0 [] (AV.cell (n.getD s .un) 0) (AV.cell (n.getD s .un) 1) (AV.cell (n.getD s .un) 2) (AV.cell (n.getD s .un) 3) (AV.cell (n.getD s .un) 4) (AV.cell (n.getD s .un) 5) (AV.cell (n.getD s .un) 6) (AV.cell (n.getD s .un) 7) (AV.cell (n.getD s .un) 8) n o p q)
 ((aD .eql t (.int 3)).bind fun R=>ah R
 (xD r b d e f g i j k l m 0 0 false 0 0 0 0 false 0 [] (AV.cell (n.getD s .un) 0) (AV.cell (n.getD s .un) 1) (AV.cell (n.getD s .un) 2) (AV.cell (n.getD s .un) 3) (AV.cell (n.getD s .un) 4) (AV.cell (n.getD s .un) 5) (AV.cell (n.getD s .un) 6) (AV.cell (n.getD s .un) 7) (AV.cell (n.getD s .un) 8) n o p q)
 (Ip r b d e f g i j k l m 0 0 false 0 0 0 0 false 0 [] n o p q))))
theorem ZL (a b d e f g i j k l m n o p q) {r:AV} (h:I2 a b d e f g i j k l m n o p q (ae (C mx) Tryz.prog) (af (C mx) Tryz.prog 39 Tryz.f39)=some r):ae (C mx) Tryz.prog 39 [.un, .int a, .ag [.u8 b, .u8 d, .b e, .u8 f, .u8 g, .u8 i, .u8 j, .b k, .u8 l, .s m], .ag [.ro 9 n,o, .int p, .int q]]=some r :=
 aj (fun _ _=>by kernel_rfl) h
def Iq (a b:UInt8) (d:Bool) (e f g i:UInt8) (j:Bool) (k:UInt8) (l:List UInt8) (m n o p q s t u w x:AV) (y:List AV) (z A:AV) (B:Int) (c:al) (r:RunT):Option AV :=
 some (.tu [.ag [m,n,o,p,q,s,t,u,w,x], .ag [.ro 9 y,z,A, .int B]])
def BC (a b:UInt8) (d:Bool) (e f g i:UInt8) (j:Bool) (k:UInt8) (l:List UInt8) (m n:UInt8) (o:Bool) (p q s t:UInt8) (u:Bool) (w:UInt8) (x:List UInt8) (y z A B D E G H I:AV) (J:List AV) (L:AV) (M N:Int) (c:al) (r:RunT):Option AV :=
 (c 22 [.un,E, .ag [.u8 a, .u8 b, .b d, .u8 e, .u8 f, .u8 g, .u8 i, .b j, .u8 k, .s l], .ag [.ro 9 J,L, .int M, .int N]]).bind fun O=>(aP O 0).bind fun P=>(aP O 1).bind fun Q=>(AV.aE 4 Q).bind fun R=>(AV.aE 10 P).bind fun T=>(aD .eql (gt R 3) (.int 0)).bind fun U=>ah U
 ((c 22 [.un,G, .ag [.u8 a, .u8 b, .b d, .u8 e, .u8 f, .u8 g, .u8 i, .b j, .u8 k, .s l], .ag [.ro 9 (AV.elems (gt R 0)),gt R 1,gt R 2,gt R 3]]).bind fun V=>(aP V 0).bind fun W=>(aP V 1).bind fun Y=>(AV.aE 4 Y).bind fun Z=>(AV.aE 10 W).bind fun v0=>BA r m n o p q s t u w x y z A B D E G H I (gt T 0) (gt T 1) (gt T 2) (gt T 3) (gt T 4) (gt T 5) (gt T 6) (gt T 7) (gt T 8) (gt T 9) (gt v0 0) (gt v0 1) (gt v0 2) (gt v0 3) (gt v0 4) (gt v0 5) (gt v0 6) (gt v0 7) (gt v0 8) (gt v0 9) (AV.elems (gt Z 0)) (gt Z 1) (gt Z 2) (gt Z 3))
 (BA r m n o p q s t u w x y z A B D E G H I (gt T 0) (gt T 1) (gt T 2) (gt T 3) (gt T 4) (gt T 5) (gt T 6) (gt T 7) (gt T 8) (gt T 9) (.u8 a) (.u8 b) (.b d) (.u8 e) (.u8 f) (.u8 g) (.u8 i) (.b j) (.u8 k) (.s l) (AV.elems (gt R 0)) (gt R 1) (gt R 2) (gt R 3))
def PH (a b:UInt8) (d:Bool) (e f g i:UInt8) (j:Bool) (k:UInt8) (l:List UInt8) (m n:UInt8) (o:Bool) (p q s t:UInt8) (u:Bool) (w:UInt8) (x:List UInt8) (y:List AV) (z:AV) (A B:Int) (c:al) (r:RunT):Option AV :=
 some (.tu [.ag [.u8 a, .u8 b, .b d, .u8 e, .u8 f, .u8 g, .u8 i, .b j, .u8 k, .s l], .ag [.ro 9 y,z, .int A, .int B]])
def BD (a b:UInt8) (d:Bool) (e f g i:UInt8) (j:Bool) (k:UInt8) (l:List UInt8) (m n o p q s t u w x y z A B D E G H I J L M N O P Q R T U:AV) (V:List AV) (W Y Z:AV) (c:al) (r:RunT):Option AV :=
 (aD .eql Z (.int 0)).bind fun v0=>(aq v0 true ((fZ [.i, .i, .b, .i, .i, .i, .i, .b, .i, .s] .neq (.ag [x,y,z,A,B,D,E,G,H,I]) (.ag [J,L,M,N,O,P,Q,R,T,U])).bind fun v1=>some v1) (.b false)).bind fun v2=>ah v2
 ((AV.one n).bind fun v3=>BB r a b d e f g i j k l x y z A B D E G H I V W v3 (.int 7))
 (BB r a b d e f g i j k l x y z A B D E G H I V W Y Z)
def PI (a b:UInt8) (d:Bool) (e f g i:UInt8) (j:Bool) (k:UInt8) (l:List UInt8) (m n o p q s t u w x:AV) (y:List AV) (z A B:AV) (c:al) (r:RunT):Option AV :=
 some (.tu [.ag [m,n,o,p,q,s,t,u,w,x], .ag [.ro 9 y,z,A,B]])
theorem MY (a b d e f g i j k l m n o p q s t u w x y z A B) {r:AV} (h:Iq a b d e f g i j k l m n o p q s t u w x y z A B (ae (C mx) Tryz.prog) (af (C mx) Tryz.prog 39 Tryz.f39)=some r):Io (af (C mx) Tryz.prog 39 Tryz.f39) a b d e f g i j k l m n o p q s t u w x y z A B=some r :=
 ak (fun _ _=>by kernel_rfl) h
theorem Ir (a b d e f g i j k l m n o p q s t u w x y z A B D E G H I J L M N) {r:AV} (h:BC a b d e f g i j k l m n o p q s t u w x y z A B D E G H I J L M N (ae (C mx) Tryz.prog) (af (C mx) Tryz.prog 39 Tryz.f39)=some r):xD (af (C mx) Tryz.prog 39 Tryz.f39) a b d e f g i j k l m n o p q s t u w x y z A B D E G H I J L M N=some r :=
 ak (fun _ _=>by kernel_rfl) h
theorem PJ (a b d e f g i j k l m n o p q s t u w x y z A B) {r:AV} (h:PH a b d e f g i j k l m n o p q s t u w x y z A B (ae (C mx) Tryz.prog) (af (C mx) Tryz.prog 39 Tryz.f39)=some r):Ip (af (C mx) Tryz.prog 39 Tryz.f39) a b d e f g i j k l m n o p q s t u w x y z A B=some r :=
 ak (fun _ _=>by kernel_rfl) h
theorem It (a b d e f g i j k l m n o p q s t u w x y z A B D E G H I J L M N O P Q R T U V W Y Z) {r:AV} (h:BD a b d e f g i j k l m n o p q s t u w x y z A B D E G H I J L M N O P Q R T U V W Y Z (ae (C mx) Tryz.prog) (af (C mx) Tryz.prog 39 Tryz.f39)=some r):BA (af (C mx) Tryz.prog 39 Tryz.f39) a b d e f g i j k l m n o p q s t u w x y z A B D E G H I J L M N O P Q R T U V W Y Z=some r :=
 ak (fun _ _=>by kernel_rfl) h
theorem BE (a b d e f g i j k l m n o p q s t u w x y z A B) {r:AV} (h:PI a b d e f g i j k l m n o p q s t u w x y z A B (ae (C mx) Tryz.prog) (af (C mx) Tryz.prog 39 Tryz.f39)=some r):BB (af (C mx) Tryz.prog 39 Tryz.f39) a b d e f g i j k l m n o p q s t u w x y z A B=some r :=
 ak (fun _ _=>by kernel_rfl) h
end eA
namespace eA
open Go Go.Proofs Sx R3
variable {mx:Int}
def lg (N:List Nd) (top:AV) (a e:Int):AV:=.ag [.ro 9 (N.map mh),top, .int a, .int e]
def LF (mx:Int) (L:List Nat) (j:Nat) (c:Ctx) (N:List Nd) (top:AV) (a e:Int):Option AV :=
 Da (af (C mx) Tryz.prog 22 Tryz.f22) (.ro 1 (aA L)) (j:Int) (.u8 c.st) (.u8 c.el) (.b c.en) (.u8 c.at') (.u8 c.qu) (.u8 c.pa) (.u8 c.su) (.b c.es) (.u8 c.da) (.s c.nm) 0 0 false 0 0 0 0 false 0 [] (N.map mh) top (.int a) (.int e)
theorem PK {L:List Nat} {j:Nat} {c:Ctx} {N:List Nd} {top:AV} {a e:Int} {r:AV}
  (h:zu (.ro 1 (aA L)) (j:Int) (.u8 c.st) (.u8 c.el) (.b c.en) (.u8 c.at') (.u8 c.qu) (.u8 c.pa) (.u8 c.su) (.b c.es) (.u8 c.da) (.s c.nm) 0 0 false 0 0 0 0 false 0 [] (N.map mh) top (.int a) (.int e) (ae (C mx) Tryz.prog) (af (C mx) Tryz.prog 22 Tryz.f22)=some r):LF mx L j c N top a e=some r :=
 S' _ _ _ _ _ _ _ _ _ _ _ _ _ _ _ _ _ _ _ _ _ _ _ _ _ _ h
theorem PL (L:List Nat):eP (.ro 1 (aA L))=some (.int (L.length:Int)):=by simp [eP,aA]
theorem mi (a b c d:AV):AV.aE 4 (.ag [a,b,c,d])=some [a,b,c,d]:=rfl
theorem Du {L:List Nat} {j:Nat} (h:L.length≤j) (c:Ctx) (N:List Nd) (top:AV) (a e:Int):LF mx L j c N top a e=some (.tu [c.au,lg N top a e]):=by
 apply PK
 have e1:decide ((j:Int) < (L.length:Int))=false:=by rw [decide_eq_false_iff_not];omega
 simp only [zu,PL,Option.bind_some,bm,e1,eZ,ai,Bool.false_eq_true,if_false]
 rfl
theorem lQ {L:List Nat} {j:Nat} (c:Ctx) (N:List Nd) (top:AV) (a:Int) {e:Int} (he:e≠0):LF mx L j c N top a e=some (.tu [c.au,lg N top a e]):=by
 apply PK
 have e1:(e == 0)=false:=by simpa using he
 simp only [zu,PL,Option.bind_some,bm,aZ,e1,ax,Bool.and_false,ai,Bool.false_eq_true,if_false]
 rfl
theorem fY {L:List Nat} {j i:Nat} (hi:L[j]?=some i) (hL:L.length≤1000000) {c d:Ctx} {N N':List Nd} {top:AV} {a a' e':Int} {r:AV}
  (hn:ae (C mx) Tryz.prog 39 [.un, .int (i:Int),c.au,lg N top a 0]=some (.tu [d.au,lg N' top a' e'])) (h:LF mx L (j+1) d N' top a' e'=some r):LF mx L j c N top a 0=some r:=by
 apply PK
 have hj:j < L.length:=(List.getElem?_eq_some_iff.1 hi).1
 have e1:decide ((j:Int) < (L.length:Int))=true:=by rw [decide_eq_true_eq];omega
 have e3:bJ ((j:Int)+1)=((j+1:Nat):Int):=by rw [cH (by omega) (by omega)];omega
 have hx:idx 1 (.ro 1 (aA L)) (.int (j:Int))=some (.int (i:Int)):=by
  rw [lI 1 (by rw [aA,List.length_map];exact hj)]
  simp only [aA,List.getElem_map,(List.getElem?_eq_some_iff.1 hi).2]
 unfold lg at hn
 simp only [zu,PL,Option.bind_some,bm,aZ,e1,beq_self_eq_true,ax,Bool.and_self,ai,if_true,hx,yC,az,aF,hn,iZ,ja,mi,ao,zT,kU,kV,kW,kX,bE,e3]
 exact h
theorem LK {L:List Nat} {c:Ctx} {N:List Nd} {top:AV} {a e:Int} {r:AV} (h:LF mx L 0 c N top a e=some r):ae (C mx) Tryz.prog 22 [.un, .ro 1 (aA L),c.au,lg N top a e]=some r:=by
 apply c22
 simp only [ZB]
 exact h
end eA
namespace HU
open Go Go.Proofs Go.RowKit Go.Shelf Sx R3 eA
variable {mx:Int}
theorem xE (x:UInt8):(wrap64 (x.toNat:Int) == 20)=(x == 20):=by
 have h:=x.toNat_lt
 have e:wrap64 (x.toNat:Int)=(x.toNat:Int):=by unfold wrap64;omega
 rw [e]
 exact zq x
theorem fT {w:World} {F:Nat→Prop} (hG:aN (eA.C mx) w F) (c:Ctx) (hc:lY c) (q:ByteArray) (hq:q.data.toList=c.nm):Calls Tryz.prog 20 #[dq c q] w fun e w'=>e=.returned (.bool (form c))∧Ext w w':=by
 refine Calls.mono (gD (eA.fit mx) (c:=Tryz.f20.body.getD .skip) Tryz.func20 (by kernel_rfl) (AU (mx:=mx) c hc) (by kernel_rfl) w F #[dq c q] hG rfl (Lc (lK w F c q hq))) fun e w' he=>?_
 obtain ⟨v,rfl,hx,hr⟩:=he
 unfold eV at hr
 rw [if_pos (by kernel_rfl)] at hr
 cases hr
 exact ⟨rfl,hx⟩
theorem results11 (T:Array Value) (W:World) (N M:Nat) (x y a b x0 x1 x2 x3 x4 x5 x6 x7 x8 x9:Value) (t4:T[4]?.getD undef=.pointer (some ⟨N,0,none⟩)) (t5:T[5]?.getD undef=.pointer (some ⟨M,0,none⟩)) (t6:T[6]?.getD undef=a) (t7:T[7]?.getD undef=b) (h0:W.heap[N]?=some (.cells #[x,y] 26))
  (h1:W.heap[M]?=some (.cells #[x0,x1,x2,x3,x4,x5,x6,x7,x8,x9] 40)) :
  (results Tryz.f11 T).run Tryz.prog W=.ok (.tuple #[.agg #[x,y], .agg #[x0,x1,x2,x3,x4,x5,x6,x7,x8,x9],a,b]) W:=by
 have hr:Tryz.f11.results = #[.cell 4 26, .cell 5 40, .tmp 6, .tmp 7]:=by kernel_rfl
 have l1:(loadVar 26 ⟨N,0,none⟩).run Tryz.prog W=.ok (.agg #[x,y]) W:=by
  simp [loadVar,go_sem,(aL h0).1,(aL h0).2.1,Result.andThen]
 obtain ⟨⟨c0,c1,c2,c3,c4,c5,c6,c7,c8,c9⟩,_⟩:=a7 h1
 have l2:(loadVar 40 ⟨M,0,none⟩).run Tryz.prog W=.ok (.agg #[x0,x1,x2,x3,x4,x5,x6,x7,x8,x9]) W:=by
  simp [loadVar,go_sem,c0,c1,c2,c3,c4,c5,c6,c7,c8,c9,Result.andThen]
 unfold results
 rw [hr]
 simp [t4,t5,t6,t7,Sem.run_bind,asAddr,l1,l2,Result.andThen]
set_option maxRecDepth 100000 in
set_option maxHeartbeats 4000000 in
theorem pg {w:World} {F:Nat→Prop} (hG:aN (eA.C mx) w F) {s q:ByteArray} {c:Ctx} (hc:lY c) (hq:q.data.toList=c.nm) (hf:form c=false) :
  CallsIn Fence.wide 12 Tryz.prog 11 #[.string s,dq c q] w (bF w F (.tu [dr,(bC 0).au, .int 0, .int 1])):=by
 have ji:=FM.first w c q
 have bw:=fT (mx:=mx) (aN.ext' hG ji.ext (F':=F) fun _ _ h=>h) c hc q hq
 rw [hf] at bw
 clear hG
 refine callsIn_of_wp Tryz.func11 rfl trivial ?_ rfl
 simp only [Tryz.ntmps11,Nat.reduceAdd,Nat.reduceSub,zC,dq]
 gi_wp2_with (refine ⟨trivial,?_⟩;gi_at_call 20;refine (callsIn_wide.2 bw).mono ?_;clear bw;rintro e w2 ⟨rfl,dt⟩;have hm:=ji.next dt;obtain ⟨⟨p0,p1,p2,p3,p4,p5,p6,p7,p8,p9⟩,-⟩:=a7 hm.b0;obtain ⟨a0,a1,a2,a3⟩:=aL hm.b1;obtain ⟨⟨u0,u1,u2,u3,u4,u5,u6,u7,u8,u9⟩,v0,v1,v2,v3,v4,v5,v6,v7,v8,v9⟩:=a7 hm.b2;clear dt ji)
 exact bodyPost_ret (results11 _ _ (w.heap.size+1) (w.heap.size+1+1) _ _ _ _ _ _ _ _ _ _ _ _ _ _ rfl rfl rfl rfl (hm.ef _ _ _ _ _ _ _ _ _ _ _ _).1 (hm.ef _ _ _ _ _ _ _ _ _ _ _ _).2) rfl (hm.bad 0 1)
set_option maxRecDepth 100000 in
set_option maxHeartbeats 4000000 in
theorem ph {w:World} {F:Nat→Prop} (hG:aN (eA.C mx) w F) {s q:ByteArray} {c:Ctx} (hc:lY c) (hq:q.data.toList=c.nm) (hf:form c=true) (cq:(c.st == 20)=true) :
  CallsIn Fence.wide 12 Tryz.prog 11 #[.string s,dq c q] w (bF w F (.tu [dr,(bC 0).au, .int 0, .int 1])):=by
 have ji:=FM.first w c q
 have bw:=fT (mx:=mx) (aN.ext' hG ji.ext (F':=F) fun _ _ h=>h) c hc q hq
 rw [hf] at bw
 rw [← xE] at cq
 clear hG
 refine callsIn_of_wp Tryz.func11 rfl trivial ?_ rfl
 simp only [Tryz.ntmps11,Nat.reduceAdd,Nat.reduceSub,zC,dq]
 gi_wp2_with (refine ⟨trivial,?_⟩;gi_at_call 20;refine (callsIn_wide.2 bw).mono ?_;clear bw;rintro e w2 ⟨rfl,dt⟩;have hm:=ji.next dt;obtain ⟨⟨p0,p1,p2,p3,p4,p5,p6,p7,p8,p9⟩,-⟩:=a7 hm.b0;obtain ⟨a0,a1,a2,a3⟩:=aL hm.b1;obtain ⟨⟨u0,u1,u2,u3,u4,u5,u6,u7,u8,u9⟩,v0,v1,v2,v3,v4,v5,v6,v7,v8,v9⟩:=a7 hm.b2;clear dt ji)
 exact bodyPost_ret (results11 _ _ (w.heap.size+1) (w.heap.size+1+1) _ _ _ _ _ _ _ _ _ _ _ _ _ _ rfl rfl rfl rfl (hm.ef _ _ _ _ _ _ _ _ _ _ _ _).1 (hm.ef _ _ _ _ _ _ _ _ _ _ _ _).2) rfl (hm.bad 0 1)
set_option maxRecDepth 100000 in
set_option maxHeartbeats 4000000 in
theorem nh {w:World} {F:Nat→Prop} (hG:aN (eA.C mx) w F) {s q:ByteArray} {c:Ctx} (hc:lY c) (hq:q.data.toList=c.nm) (hf:form c=true) (cq:(c.st == 20)=false) {a er:Nat} (he:er≠0) (hp:xw s.data.toList=.bad a er) :
  CallsIn Fence.wide 12 Tryz.prog 11 #[.string s,dq c q] w (bF w F (.tu [dr,(bC 0).au, .int (a:Int), .int (er:Int)])):=by
 have ji:=FM.first w c q
 have bw:=fT (mx:=mx) (aN.ext' hG ji.ext (F':=F) fun _ _ h=>h) c hc q hq
 rw [hf] at bw
 rw [← xE] at cq
 obtain ⟨uc,-⟩:=qo hG
 have h1:decide (0=(er:Int))=false:=by simp;omega
 have h2:decide ((er:Int)=0)=false:=by simp;omega
 clear hG
 refine callsIn_of_wp Tryz.func11 rfl trivial ?_ rfl
 simp only [Tryz.ntmps11,Nat.reduceAdd,Nat.reduceSub,zC,dq]
 gi_wp2_with (first
  | (refine ⟨trivial,?_⟩;gi_at_call 20;refine (callsIn_wide.2 bw).mono ?_;clear bw;rintro e w2 ⟨rfl,dt⟩;have hm:=ji.next dt;obtain ⟨⟨p0,p1,p2,p3,p4,p5,p6,p7,p8,p9⟩,-⟩:=a7 hm.b0;clear dt ji)
  | (refine ⟨trivial,?_⟩;gi_at_call 21;refine (callsIn_wide.2 (callsIn_wide.1 (Bz (mx:=mx) s w2 (aB hm.ext uc)))).mono ?_;rintro e w3 bK;rw [hp] at bK;obtain ⟨nf,rfl⟩:=bK;clear p0 p1 p2 p3 p4 p5 p6 p7 p8 p9;obtain ⟨fP,sW,pj,-⟩:=(hm.next nf).var (.slice none 0 0) (.slice none 0 0);generalize Lr:w3.alloc (.cells #[.slice none 0 0, .slice none 0 0] 26)=W4 at fP sW pj;generalize Ey:(W4.setCell ⟨w3.heap.size,0,none⟩ (.slice none 0 0)).setCell ⟨w3.heap.size,1,none⟩ (.slice none 0 0)=W5 at fP pj;obtain ⟨t0,t1,t2,t3⟩:=aL sW;clear sW pj;obtain ⟨a0,a1,a2,a3⟩:=aL fP.b1;obtain ⟨⟨u0,u1,u2,u3,u4,u5,u6,u7,u8,u9⟩,v0,v1,v2,v3,v4,v5,v6,v7,v8,v9⟩:=a7 fP.b2))
 exact bodyPost_ret (results11 _ _ (w.heap.size+1) (w.heap.size+1+1) _ _ _ _ _ _ _ _ _ _ _ _ _ _ rfl rfl rfl rfl (fP.ef _ _ _ _ _ _ _ _ _ _ _ _).1 (fP.ef _ _ _ _ _ _ _ _ _ _ _ _).2) rfl (fP.bad (a:Int) (er:Int))
theorem Iu {w w2 w3 W5:World} {F:Nat→Prop} (hG:aN (eA.C mx) w F) {q:ByteArray} {c:Ctx} (hc:lY c) (hq:q.data.toList=c.nm) (NM:FM w c q w2) (nf:Ext w2 w3) (ed:Ext w3 W5) (fP:FM w c q W5) {nodes:List Mn} {top:List Nat} {s2 s3:Value}
  (hown:aX w3 (fun b=>(b < w2.heap.size→b=1)∧s2.ownBlock≠some b) 58 9 (nodes.map Mn.av) s2) (fq:∀ g,s2.ownBlock=some g→w2.heap.size≤g∧g < w3.heap.size) (Ui:s3.oneCell'=true) (hr:Rel w3 (fun b=>(b < w2.heap.size→b=1)∧s2.ownBlock≠some b) (.ro 1 (aA top)) s3)
  {d:Ctx} {N':List Nd} {ta te:Int} (BF:ae (eA.C mx) Tryz.prog 22 [.un, .ro 1 (aA top),c.au, .ag [.ro 9 (nodes.map Mn.av), .ro 1 (aA top), .int 0, .int 0]]=some (.tu [d.au,lg N' (.ro 1 (aA top)) ta te])) :
  Calls Tryz.prog 22 #[.pointer (some ⟨W5.heap.size,0,none⟩),s3,dq c q] (W5.alloc (.cells #[s2,s3, .int .i64 0, .int .i64 0] 66)) fun e w7=>∃ (q':ByteArray) (a0 a1:Option Addr) (m0 m1 k0 k1 e':Nat),e=.returned (dq d q')∧q'.data.toList=d.nm∧FM w c q w7∧W5.heap.size < w7.heap.size ∧
   w7.heap[W5.heap.size]?=some (.cells #[.slice a0 m0 k0, .slice a1 m1 k1, .int .i64 ta, .int .i64 te] e' (0,0))∧Rel w7 (F8 w w2 F) (.ro 9 (N'.map mh)) (.slice a0 m0 k0)∧Rel w7 (F8 w w2 F) (.ro 1 (aA top)) (.slice a1 m1 k1):=by
 obtain ⟨uc,Nj⟩:=qo hG
 have xg:=aS uc
 have qL:=NM.size
 have S6:=nf.size
 have hs5:=ed.size
 have dG:Ext W5 (W5.alloc (.cells #[s2,s3, .int .i64 0, .int .i64 0] 66)):=Ext.push W5 _
 have hP:=World.alloc_heap_new W5 (.cells #[s2,s3, .int .i64 0, .int .i64 0] 66)
 have cg:(W5.alloc (.cells #[s2,s3, .int .i64 0, .int .i64 0] 66)).heap.size=W5.heap.size+1:=by simp
 have sX:=fP.next dG
 generalize W5.alloc (.cells #[s2,s3, .int .i64 0, .int .i64 0] 66)=W6 at dG hP cg sX ⊢
 have Pj:∀ b,b < w3.heap.size→((b < w2.heap.size→b=1)∧s2.ownBlock≠some b)→((b < W5.heap.size∧(b < w2.heap.size→b < w.heap.size∧F b))∧s2.ownBlock≠some b)∧W6.heap[b]?=w3.heap[b]?:=fun b hb h =>
  ⟨⟨⟨by omega,fun aM=>by have:=h.1 aM;subst this;exact ⟨xg,Nj⟩⟩,h.2⟩,(dG.block b (by omega)).trans (ed.block b hb)⟩
 have key:=ng (mx:=mx) (w:=W6) (F:=fun b=>(b < W5.heap.size∧(b < w2.heap.size→b < w.heap.size∧F b))∧s2.ownBlock≠some b)
  (aN.ext' hG (sX.ext) (fun b hb hf=>⟨⟨by have:=fP.size;omega,fun _=>⟨hb,hf⟩⟩,fun e=>by have:=(fq b e).1;omega⟩)) (Pb:=W5.heap.size) (ty:=66) (nv:=s2) (tv:=s3) (v1:=s3) (v2:=dq c q) (at':=0) (e:=0) (u1:=.ro 1 (aA top)) (u2:=c.au) (top:=.ro 1 (aA top)) (nodes:=nodes.map Mn.av)
  hP (fun h=>by have:=h.1.1;omega) (fun g hg=>⟨fun h=>h.2 hg,by have:=(fq g hg).2;omega,by have:=(fq g hg).2;omega⟩) (hr.mono Pj) (lK _ _ c q hq) Ui (hr.mono Pj) (hown.mono Pj (fun b hb=>(dG.block b (by have:=(fq b hb).2;omega)).trans (ed.block b (fq b hb).2))) BF
 refine Calls.mono key fun e w7 h=>?_
 obtain ⟨v,x0,x1,x2,x3,e',rfl,lT,S3,zn,qj,⟨Yv,jC⟩,rQ,S4,S5⟩:=h
 obtain ⟨q',qN,rfl⟩:=rA zn
 obtain ⟨a0,m0,k0,rfl⟩:=uW qj
 obtain ⟨a1,k1,rfl,_⟩:=bt jC
 cases rQ;cases S4
 have Xi:=lT.size
 have same:∀ b,b < W5.heap.size→s2.ownBlock≠some b→w7.heap[b]?=W6.heap[b]?:=fun b hb ho=>lT.block b (by omega) (by omega) ho
 have ni:∀ b,b < w2.heap.size→s2.ownBlock≠some b:=fun b hb e=>by have:=(fq b e).1;omega
 refine ⟨q',a0,a1,m0,_,k0,k1,e',rfl,qN,⟨⟨lT.os.trans sX.ext.os,lT.tape.trans sX.ext.tape,lT.output.trans sX.ext.output,by have:=sX.ext.size;omega,fun b hb=>(same b (by omega) (ni b (by omega))).trans (sX.ext.block b hb)⟩,by have:=sX.size;omega,(same _ (by omega) (ni _ (by omega))).trans sX.b0,(same _ (by omega) (ni _ (by omega))).trans sX.b1,(same _ (by omega) (ni _ (by omega))).trans sX.b2⟩,by omega,S3,?_,?_⟩
 ·refine qj.rel (fun b hb h aM=>?_) (fun g hg aM=>?_)
  ·rcases h.1 (by omega) with h | h
   ·exact h.1.2 aM
   ·exact absurd h (ni b aM)
  ·rcases (S5 g hg).1 with h | h
   ·omega
   ·exact absurd h (ni g aM)
 ·refine jC.mono fun b hb h=>⟨fun aM=>?_,rfl⟩
  rcases h.1 (by omega) with h | h
  ·exact h.1.2 aM
  ·exact absurd h (ni b aM)
set_option maxRecDepth 100000 in
set_option maxHeartbeats 4000000 in
theorem sY {w:World} {F:Nat→Prop} (hG:aN (eA.C mx) w F) {s q:ByteArray} {c:Ctx} (hc:lY c) (hq:q.data.toList=c.nm) (hf:form c=true) (cq:(c.st == 20)=false) {nodes:List Mn} {top:List Nat} (hp:xw s.data.toList=.ok nodes top)
  {d:Ctx} {N':List Nd} {ta te:Int} (BF:ae (eA.C mx) Tryz.prog 22 [.un, .ro 1 (aA top),c.au, .ag [.ro 9 (nodes.map Mn.av), .ro 1 (aA top), .int 0, .int 0]]=some (.tu [d.au,lg N' (.ro 1 (aA top)) ta te])) (ES:te≠0) :
  CallsIn Fence.wide 12 Tryz.prog 11 #[.string s,dq c q] w (bF w F (.tu [dr,(bC 0).au, .int ta, .int te])):=by
 have ji:=FM.first w c q
 have bw:=fT (mx:=mx) (aN.ext' hG ji.ext (F':=F) fun _ _ h=>h) c hc q hq
 rw [hf] at bw
 rw [← xE] at cq
 obtain ⟨uc,-⟩:=qo hG
 refine callsIn_of_wp Tryz.func11 rfl trivial ?_ rfl
 simp only [Tryz.ntmps11,Nat.reduceAdd,Nat.reduceSub,zC,dq]
 gi_wp2_with (first
  | (refine ⟨trivial,?_⟩;gi_at_call 20;refine (callsIn_wide.2 bw).mono ?_;clear bw;rintro e w2 ⟨rfl,dt⟩;have hm:=ji.next dt;obtain ⟨⟨p0,p1,p2,p3,p4,p5,p6,p7,p8,p9⟩,-⟩:=a7 hm.b0;clear dt ji)
  | (refine ⟨trivial,?_⟩;gi_at_call 21;refine (callsIn_wide.2 (callsIn_wide.1 (Bz (mx:=mx) s w2 (aB hm.ext uc)))).mono ?_;rintro e w3 bK;rw [hp] at bK;obtain ⟨nf,fE,n2,c2,mj,c3,rfl,hown,fq,hr⟩:=bK;clear p0 p1 p2 p3 p4 p5 p6 p7 p8 p9 hp;obtain ⟨fP,sW,pj,jO⟩:=(hm.next nf).var (.slice fE n2 c2) (.slice mj top.length c3);generalize Lr:w3.alloc (.cells #[.slice none 0 0, .slice none 0 0] 26)=W4 at fP sW pj jO;generalize Ey:(W4.setCell ⟨w3.heap.size,0,none⟩ (.slice fE n2 c2)).setCell ⟨w3.heap.size,1,none⟩ (.slice mj top.length c3)=W5 at fP pj jO;obtain ⟨t0,t1,t2,t3⟩:=aL sW;obtain ⟨z0,z1,z2,z3⟩:=aL pj;have key:=Iu (mx:=mx) hG hc hq hm nf jO fP hown fq rfl hr BF;have dG:Ext W5 (W5.alloc (.cells #[.slice fE n2 c2, .slice mj top.length c3, .int .i64 0, .int .i64 0] 66)):=Ext.push W5 _;generalize IW:W5.alloc (.cells #[.slice fE n2 c2, .slice mj top.length c3, .int .i64 0, .int .i64 0] 66)=W6 at key dG;have z4:=aB dG z1;obtain ⟨⟨p0,p1,p2,p3,p4,p5,p6,p7,p8,p9⟩,-⟩:=a7 (fP.next dG).b0;have sZ:W5.heap.size≠w.heap.size+1:=(by have:=fP.size;omega);have xj:W5.heap.size≠w.heap.size+1+1:=(by have:=fP.size;omega);clear hm sW pj nf jO fP hown fq hr BF dG hG uc hc hq)
  | (refine ⟨trivial,?_⟩;gi_at_call 22;refine (callsIn_wide.2 key).mono ?_;clear key;rintro e w7 ⟨q',a0,a1,m0,m1,k0,k1,e',rfl,qN,Ez,HN,HO,tT,jC⟩;clear t0 t1 t2 t3 z0 z1 z2 z3 z4 p0 p1 p2 p3 p4 p5 p6 p7 p8 p9 Lr Ey IW;have pn:Ext w7 (w7.alloc (.cells #[.int .u8 (d.st.toNat:Int), .int .u8 (d.el.toNat:Int), .bool d.en, .int .u8 (d.at'.toNat:Int), .int .u8 (d.qu.toNat:Int), .int .u8 (d.pa.toNat:Int), .int .u8 (d.su.toNat:Int), .bool d.es, .int .u8 (d.da.toNat:Int), .string q'] 40)):=Ext.push w7 _;have zr:=World.alloc_heap_new w7 (.cells #[.int .u8 (d.st.toNat:Int), .int .u8 (d.el.toNat:Int), .bool d.en, .int .u8 (d.at'.toNat:Int), .int .u8 (d.qu.toNat:Int), .int .u8 (d.pa.toNat:Int), .int .u8 (d.su.toNat:Int), .bool d.es, .int .u8 (d.da.toNat:Int), .string q'] 40);generalize Pk:w7.alloc (.cells #[.int .u8 (d.st.toNat:Int), .int .u8 (d.el.toNat:Int), .bool d.en, .int .u8 (d.at'.toNat:Int), .int .u8 (d.qu.toNat:Int), .int .u8 (d.pa.toNat:Int), .int .u8 (d.su.toNat:Int), .bool d.es, .int .u8 (d.da.toNat:Int), .string q'] 40)=W9 at pn zr;have xk:=Ez.next pn;have Bh:=(pn.block _ HN).trans HO;obtain ⟨⟨l0,l1,l2,l3⟩,-⟩:=kZ Bh;obtain ⟨⟨y0,y1,y2,y3,y4,y5,y6,y7,y8,y9⟩,-⟩:=a7 zr;obtain ⟨b0,b1,b2,b3⟩:=aL xk.b1;obtain ⟨⟨u0,u1,u2,u3,u4,u5,u6,u7,u8,u9⟩,v0,v1,v2,v3,v4,v5,v6,v7,v8,v9⟩:=a7 xk.b2;clear Ez HN HO zr pn;unfold dq))
 have Xj:decide (0=te)=false:=by simp;omega
 obtain ⟨HP,DU⟩:=xk.ef (.slice none 0 0) (.slice none 0 0) (.int .u8 0) (.int .u8 0) (.bool false) (.int .u8 0) (.int .u8 0) (.int .u8 0) (.int .u8 0) (.bool false) (.int .u8 0) (.string ⟨#[]⟩)
 have bK:=xk.bad (F:=F) ta te
 change bF w F _ (.returned (.tuple #[.agg #[.slice none 0 0, .slice none 0 0], .agg #[.int .u8 0, .int .u8 0, .bool false, .int .u8 0, .int .u8 0, .int .u8 0, .int .u8 0, .bool false, .int .u8 0, .string ⟨#[]⟩], .int .i64 ta, .int .i64 te])) (cP ((W9.setCell ⟨w.heap.size+1,0,none⟩ (.slice none 0 0)).setCell ⟨w.heap.size+1,1,none⟩ (.slice none 0 0)) (w.heap.size+1+1) (.int .u8 0) (.int .u8 0) (.bool false) (.int .u8 0) (.int .u8 0) (.int .u8 0) (.int .u8 0) (.bool false) (.int .u8 0) (.string ⟨#[]⟩)) at bK
 have HQ:=(cL (W:=(W9.setCell ⟨w.heap.size+1,0,none⟩ (.slice none 0 0)).setCell ⟨w.heap.size+1,1,none⟩ (.slice none 0 0)) xj (.int .u8 0) (.int .u8 0) (.bool false) (.int .u8 0) (.int .u8 0) (.int .u8 0) (.int .u8 0) (.bool false) (.int .u8 0) (.string ⟨#[]⟩)).trans ((an sZ).trans ((an sZ).trans Bh))
 generalize Pm:cP ((W9.setCell ⟨w.heap.size+1,0,none⟩ (.slice none 0 0)).setCell ⟨w.heap.size+1,1,none⟩ (.slice none 0 0)) (w.heap.size+1+1) (.int .u8 0) (.int .u8 0) (.bool false) (.int .u8 0) (.int .u8 0) (.int .u8 0) (.int .u8 0) (.bool false) (.int .u8 0) (.string ⟨#[]⟩)=Wf at HP DU bK HQ
 obtain ⟨⟨x0,x1,x2,x3⟩,-⟩:=kZ HQ
 unfold cP at Pm
 rw [wpIn_wide]
 clear tT jC qN y0 y1 y2 y3 y4 y5 y6 y7 y8 y9 Pk
 go_region_law (fail)
 all_goals gi_wp2
 all_goals first
  | exact bodyPost_ret (results11 _ _ (w.heap.size+1) (w.heap.size+1+1) (.slice none 0 0) (.slice none 0 0) (.int .i64 ta) (.int .i64 te) (.int .u8 0) (.int .u8 0) (.bool false) (.int .u8 0) (.int .u8 0) (.int .u8 0) (.int .u8 0) (.bool false) (.int .u8 0) (.string ⟨#[]⟩) rfl rfl rfl rfl HP DU) rfl bK.drew
set_option maxRecDepth 100000 in
set_option maxHeartbeats 4000000 in
theorem xl {w:World} {F:Nat→Prop} (hG:aN (eA.C mx) w F) {s q:ByteArray} {c:Ctx} (hc:lY c) (hq:q.data.toList=c.nm) (hf:form c=true) (cq:(c.st == 20)=false) {nodes:List Mn} {top:List Nat} (hp:xw s.data.toList=.ok nodes top)
  {d:Ctx} {N':List Nd} {ta te:Int} (BF:ae (eA.C mx) Tryz.prog 22 [.un, .ro 1 (aA top),c.au, .ag [.ro 9 (nodes.map Mn.av), .ro 1 (aA top), .int 0, .int 0]]=some (.tu [d.au,lg N' (.ro 1 (aA top)) ta te])) (ES:te=0) :
  CallsIn Fence.wide 12 Tryz.prog 11 #[.string s,dq c q] w (bF w F (.tu [.ag [.ro 9 (N'.map mh), .ro 1 (aA top)],d.au, .int 0, .int 0])):=by
 have ji:=FM.first w c q
 have bw:=fT (mx:=mx) (aN.ext' hG ji.ext (F':=F) fun _ _ h=>h) c hc q hq
 rw [hf] at bw
 rw [← xE] at cq
 obtain ⟨uc,-⟩:=qo hG
 refine callsIn_of_wp Tryz.func11 rfl trivial ?_ rfl
 simp only [Tryz.ntmps11,Nat.reduceAdd,Nat.reduceSub,zC,dq]
 gi_wp2_with (first
  | (refine ⟨trivial,?_⟩;gi_at_call 20;refine (callsIn_wide.2 bw).mono ?_;clear bw;rintro e w2 ⟨rfl,dt⟩;have hm:=ji.next dt;have qL:=hm.size;obtain ⟨⟨p0,p1,p2,p3,p4,p5,p6,p7,p8,p9⟩,-⟩:=a7 hm.b0;clear dt ji)
  | (refine ⟨trivial,?_⟩;gi_at_call 21;refine (callsIn_wide.2 (callsIn_wide.1 (Bz (mx:=mx) s w2 (aB hm.ext uc)))).mono ?_;rintro e w3 bK;rw [hp] at bK;obtain ⟨nf,fE,n2,c2,mj,c3,rfl,hown,fq,hr⟩:=bK;clear p0 p1 p2 p3 p4 p5 p6 p7 p8 p9 hp;obtain ⟨fP,sW,pj,jO⟩:=(hm.next nf).var (.slice fE n2 c2) (.slice mj top.length c3);generalize Lr:w3.alloc (.cells #[.slice none 0 0, .slice none 0 0] 26)=W4 at fP sW pj jO;generalize Ey:(W4.setCell ⟨w3.heap.size,0,none⟩ (.slice fE n2 c2)).setCell ⟨w3.heap.size,1,none⟩ (.slice mj top.length c3)=W5 at fP pj jO;obtain ⟨t0,t1,t2,t3⟩:=aL sW;obtain ⟨z0,z1,z2,z3⟩:=aL pj;have key:=Iu (mx:=mx) hG hc hq hm nf jO fP hown fq rfl hr BF;have dG:Ext W5 (W5.alloc (.cells #[.slice fE n2 c2, .slice mj top.length c3, .int .i64 0, .int .i64 0] 66)):=Ext.push W5 _;generalize IW:W5.alloc (.cells #[.slice fE n2 c2, .slice mj top.length c3, .int .i64 0, .int .i64 0] 66)=W6 at key dG;have z4:=aB dG z1;obtain ⟨⟨p0,p1,p2,p3,p4,p5,p6,p7,p8,p9⟩,-⟩:=a7 (fP.next dG).b0;have sZ:W5.heap.size≠w.heap.size+1:=(by have:=fP.size;omega);have xj:W5.heap.size≠w.heap.size+1+1:=(by have:=fP.size;omega);clear hm sW pj nf jO fP hown fq hr BF dG hG uc hc hq)
  | (refine ⟨trivial,?_⟩;gi_at_call 22;refine (callsIn_wide.2 key).mono ?_;clear key;rintro e w7 ⟨q',a0,a1,m0,m1,k0,k1,e',rfl,qN,Ez,HN,HO,tT,jC⟩;clear t0 t1 t2 t3 z0 z1 z2 z3 z4 p0 p1 p2 p3 p4 p5 p6 p7 p8 p9 Lr Ey IW;have pn:Ext w7 (w7.alloc (.cells #[.int .u8 (d.st.toNat:Int), .int .u8 (d.el.toNat:Int), .bool d.en, .int .u8 (d.at'.toNat:Int), .int .u8 (d.qu.toNat:Int), .int .u8 (d.pa.toNat:Int), .int .u8 (d.su.toNat:Int), .bool d.es, .int .u8 (d.da.toNat:Int), .string q'] 40)):=Ext.push w7 _;have zr:=World.alloc_heap_new w7 (.cells #[.int .u8 (d.st.toNat:Int), .int .u8 (d.el.toNat:Int), .bool d.en, .int .u8 (d.at'.toNat:Int), .int .u8 (d.qu.toNat:Int), .int .u8 (d.pa.toNat:Int), .int .u8 (d.su.toNat:Int), .bool d.es, .int .u8 (d.da.toNat:Int), .string q'] 40);generalize Pk:w7.alloc (.cells #[.int .u8 (d.st.toNat:Int), .int .u8 (d.el.toNat:Int), .bool d.en, .int .u8 (d.at'.toNat:Int), .int .u8 (d.qu.toNat:Int), .int .u8 (d.pa.toNat:Int), .int .u8 (d.su.toNat:Int), .bool d.es, .int .u8 (d.da.toNat:Int), .string q'] 40)=W9 at pn zr;have xk:=Ez.next pn;have Pn:=tT.mono (w':=W9) (fun b hb hf=>⟨hf,pn.block b hb⟩);have Po:=jC.mono (w':=W9) (fun b hb hf=>⟨hf,pn.block b hb⟩);clear tT jC;have Bh:=(pn.block _ HN).trans HO;obtain ⟨⟨l0,l1,l2,l3⟩,-⟩:=kZ Bh;obtain ⟨⟨y0,y1,y2,y3,y4,y5,y6,y7,y8,y9⟩,-⟩:=a7 zr;obtain ⟨b0,b1,b2,b3⟩:=aL xk.b1;obtain ⟨⟨u0,u1,u2,u3,u4,u5,u6,u7,u8,u9⟩,v0,v1,v2,v3,v4,v5,v6,v7,v8,v9⟩:=a7 xk.b2;have Xk:=Ez.size;clear Ez HN HO pn;rw [ES] at Bh l3;unfold dq))
 obtain ⟨HP,DU⟩:=xk.ef (.slice a0 m0 k0) (.slice a1 m1 k1) (.int .u8 (d.st.toNat:Int)) (.int .u8 (d.el.toNat:Int)) (.bool d.en) (.int .u8 (d.at'.toNat:Int)) (.int .u8 (d.qu.toNat:Int)) (.int .u8 (d.pa.toNat:Int)) (.int .u8 (d.su.toNat:Int)) (.bool d.es) (.int .u8 (d.da.toNat:Int)) (.string q')
 have bK:=xk.HR qL Pn Po qN
 have HQ:=(cL (W:=((W9.setCell ⟨w.heap.size+1,0,none⟩ (.slice a0 m0 k0)).setCell ⟨w.heap.size+1,1,none⟩ (.slice a1 m1 k1))) xj (.int .u8 (d.st.toNat:Int)) (.int .u8 (d.el.toNat:Int)) (.bool d.en) (.int .u8 (d.at'.toNat:Int)) (.int .u8 (d.qu.toNat:Int)) (.int .u8 (d.pa.toNat:Int)) (.int .u8 (d.su.toNat:Int)) (.bool d.es) (.int .u8 (d.da.toNat:Int)) (.string q')).trans ((an sZ).trans ((an sZ).trans Bh))
 have S8:=(cL (W:=((W9.setCell ⟨w.heap.size+1,0,none⟩ (.slice a0 m0 k0)).setCell ⟨w.heap.size+1,1,none⟩ (.slice a1 m1 k1))) (b:=w.heap.size+1+1) (k:=w7.heap.size) (by omega) (.int .u8 (d.st.toNat:Int)) (.int .u8 (d.el.toNat:Int)) (.bool d.en) (.int .u8 (d.at'.toNat:Int)) (.int .u8 (d.qu.toNat:Int)) (.int .u8 (d.pa.toNat:Int)) (.int .u8 (d.su.toNat:Int)) (.bool d.es) (.int .u8 (d.da.toNat:Int)) (.string q')).trans ((an (show w7.heap.size≠w.heap.size+1 by omega)).trans ((an (show w7.heap.size≠w.heap.size+1 by omega)).trans zr))
 generalize Pm:cP ((W9.setCell ⟨w.heap.size+1,0,none⟩ (.slice a0 m0 k0)).setCell ⟨w.heap.size+1,1,none⟩ (.slice a1 m1 k1)) (w.heap.size+1+1) (.int .u8 (d.st.toNat:Int)) (.int .u8 (d.el.toNat:Int)) (.bool d.en) (.int .u8 (d.at'.toNat:Int)) (.int .u8 (d.qu.toNat:Int)) (.int .u8 (d.pa.toNat:Int)) (.int .u8 (d.su.toNat:Int)) (.bool d.es) (.int .u8 (d.da.toNat:Int)) (.string q')=Wf at HP DU bK HQ S8
 obtain ⟨⟨x0,x1,x2,x3⟩,-⟩:=kZ HQ
 obtain ⟨⟨g0,g1,g2,g3,g4,g5,g6,g7,g8,g9⟩,-⟩:=a7 S8
 unfold cP at Pm
 rw [wpIn_wide]
 clear qN Pk Bh zr
 go_region_law (fail)
 all_goals gi_wp2
 all_goals first
  | exact bodyPost_ret (results11 _ _ (w.heap.size+1) (w.heap.size+1+1) (.slice a0 m0 k0) (.slice a1 m1 k1) (.int .i64 0) (.int .i64 0) (.int .u8 (d.st.toNat:Int)) (.int .u8 (d.el.toNat:Int)) (.bool d.en) (.int .u8 (d.at'.toNat:Int)) (.int .u8 (d.qu.toNat:Int)) (.int .u8 (d.pa.toNat:Int)) (.int .u8 (d.su.toNat:Int)) (.bool d.es) (.int .u8 (d.da.toNat:Int)) (.string q') rfl rfl rfl rfl HP DU) rfl bK.drew
end HU
namespace eA
open Go Go.Proofs Sx R3
variable {mx:Int}
theorem tM {A R:List Nd} {x:Nd}:((A ++ x :: R).map mh).getD A.length .un=mh x:=by
 rw [List.getD_eq_getElem?_getD,List.getElem?_map];simp
theorem tN {A R:List Nd} {x:Nd}:lZ ((A ++ x :: R).map mh).length (.int (A.length:Int))=some A.length:=e9 (by simp)
theorem PN {A R:List Nd} {x y:Nd}:((A ++ x :: R).map mh).set A.length (mh y)=(A ++ y :: R).map mh:=by simp
theorem PO {w:Wd} (h2:w.kind≠2) (h4:w.kind≠4):bf w.kind=0∨bf w.kind=1∨bf w.kind=4:=by
 unfold bf
 repeat' split
 all_goals first
  | exact .inl rfl
  | exact .inr (.inl rfl)
  | exact .inr (.inr rfl)
  | (rename_i h;exact absurd (by simpa using h) h2)
  | (rename_i h;exact absurd (by simpa using h) h4)
theorem ia (x:Nd):AV.cell (mh x) 0=.u8 x.kind:=rfl
theorem ow (x:Nd):AV.cell (mh x) 1=.int (x.at':Int):=rfl
theorem zD (x:Nd):AV.cell (mh x) 2=.s x.text:=rfl
theorem ZM:conv .i64 (.u8 0)=some (.int 0):=rfl
theorem ZN:conv .i64 (.u8 1)=some (.int 1):=rfl
theorem cv2:conv .i64 (.u8 2)=some (.int 2):=rfl
theorem cv3:conv .i64 (.u8 3)=some (.int 3):=rfl
theorem cv4:conv .i64 (.u8 4)=some (.int 4):=rfl
theorem cvb (x:UInt8):conv .u8 (.int (x.toNat:Int))=some (.u8 x):=by
 have h:=x.toNat_lt
 have e:IntKind.u8.wrap (x.toNat:Int)=(x.toNat:Int):=wrap_u8 (by omega) (by omega)
 have e1:conv .u8 (.int (x.toNat:Int))=AV.xH .u8 (IntKind.u8.wrap (x.toNat:Int)):=by simp only [conv,AV.mo,Option.bind_some]
 have e2:AV.xH .u8 (x.toNat:Int)=if 0≤(x.toNat:Int)∧(x.toNat:Int) < 256 then some (.u8 (UInt8.ofNat ((x.toNat:Int)).toNat)) else none:=rfl
 rw [e1,e,e2,if_pos ⟨by omega,by omega⟩,Int.toNat_natCast,UInt8.ofNat_toNat]
theorem TW:((0:Int) == 0)=true:=rfl
theorem hz (x:UInt8):((x.toNat:Int) == 0)=(x == 0):=by
 rw [Bool.eq_iff_iff,beq_iff_eq,beq_iff_eq]
 constructor
 ·intro h
  exact UInt8.toNat_inj.1 (by show _=0;omega)
 ·intro h
  rw [h];rfl
theorem Iv {w:Wd} (h2:w.kind≠2) (h4:w.kind≠4) (hw:w.at'≤1000000000∧w.text.length≤1000000000) {c:Ctx} (hc:lY c) (A R:List Nd) (top:AV) (a:Int) :
  (∀ d:Ctx,fX w c=.ok d→ae (C mx) Tryz.prog 39 [.un, .int (A.length:Int),c.au,lg (A ++ dc w :: R) top a 0]=some (.tu [d.au,lg (A ++ fv w c :: R) top a 0])∧lY d) ∧
  (∀ a' e',fX w c=.bad a' e'→e'≠0∧∃ d:Ctx,ae (C mx) Tryz.prog 39 [.un, .int (A.length:Int),c.au,lg (A ++ dc w :: R) top a 0]=some (.tu [d.au,lg (A ++ dc w :: R) top a' e'])):=by
 have go:∀ {r:AV},I2 (A.length:Int) c.st c.el c.en c.at' c.qu c.pa c.su c.es c.da c.nm ((A ++ dc w :: R).map mh) top a 0 (ae (C mx) Tryz.prog) (af (C mx) Tryz.prog 39 Tryz.f39)=some r→ae (C mx) Tryz.prog 39 [.un, .int (A.length:Int),c.au,lg (A ++ dc w :: R) top a 0]=some r:=fun h=>ZL _ _ _ _ _ _ _ _ _ _ _ _ _ _ _ h
 have xU:ae (C mx) Tryz.prog 55 [c.au]=some (.int ((hole c).toNat:Int)):=YT ..
 have N4:ae (C mx) Tryz.prog 56 [c.au]=some (after c).au:=s56 ..
 have ZO:ae (C mx) Tryz.prog 54 [c.au, .ro 1 (w.text.map .u8)]=some (ti (cB c w.text)):=s54 c w.text hc (by omega)
 have Lo (p:List UInt8):M3 (.s p)=some (.ro 1 (p.map .u8)):=rfl
 have je:(dc w).kind=bf w.kind:=rfl
 have qB:(dc w).at'=w.at':=rfl
 have Us:(dc w).text=w.text:=rfl
 obtain ⟨m1,m2,m3⟩:=qm c w.text
 unfold fX
 rcases PO h2 h4 with k | k | k
 ·have hH:fv w c=dc w:=by unfold fv nk dc;rw [k];rfl
  rw [k,hH]
  simp only [beq_self_eq_true,if_true]
  by_cases hb:(cB c w.text).2 ≥ 0
  ·rw [if_pos hb]
   refine ⟨fun d h=>(by cases h),fun a' e' h=>?_⟩
   cases h
   refine ⟨by decide,(cB c w.text).1,go ?_⟩
   have hd:decide ((cB c w.text).2 ≥ 0)=true:=by simpa using hb
   simp only [I2,tN,tM,Option.bind_some,ia,ow,zD,je,qB,Us,k,ZM,aZ,TW,ai,if_true,Lo,az,aF,ZO,J8,J9,ao,gj,hd]
   rw [fI (by omega) (by omega)]
   simp only [Option.bind_some,fH,zT]
   apply MY
   simp only [Iq,az,aF]
   rfl
  ·rw [if_neg hb]
   refine ⟨fun d h=>?_,fun a' e' h=>(by cases h)⟩
   cases h
   refine ⟨go ?_,m1⟩
   have hd:decide ((cB c w.text).2 ≥ 0)=false:=by simpa using hb
   simp only [I2,tN,tM,Option.bind_some,ia,ow,zD,je,qB,Us,k,ZM,aZ,TW,ai,if_true,Lo,az,aF,ZO,J8,J9,ao,gj,hd,Bool.false_eq_true,if_false,zT]
   apply MY
   simp only [Iq,az,aF]
   rfl
 ·have q0:((1:UInt8) == 0)=false:=rfl
  have q1:((1:Int) == 0)=false:=rfl
  have hH:fv w c={ dc w with hole:=hole c }:=by unfold fv nk dc;rw [k];rfl
  rw [k]
  simp only [q0,Bool.false_eq_true,if_false,beq_self_eq_true,if_true]
  by_cases hh:(hole c == 0)=true
  ·rw [if_pos hh]
   refine ⟨fun d h=>(by cases h),fun a' e' h=>?_⟩
   cases h
   refine ⟨by decide,c,go ?_⟩
   simp only [I2,tN,tM,Option.bind_some,ia,ow,je,qB,k,ZN,aZ,q1,ai,Bool.false_eq_true,if_false,beq_self_eq_true,if_true,az,aF,xU,hz,hh,fH]
   rfl
  ·rw [if_neg hh]
   refine ⟨fun d h=>?_,fun a' e' h=>(by cases h)⟩
   cases h
   have hh:(hole c == 0)=false:=by simpa using hh
   refine ⟨go ?_,qn hc⟩
   simp only [I2,tN,tM,Option.bind_some,ia,ow,je,qB,k,ZN,aZ,q1,ai,Bool.false_eq_true,if_false,beq_self_eq_true,if_true,az,aF,xU,hz,hh,cvb,eI,N4,ao,zT]
   rw [hH]
   have e:(AV.ag [.u8 1, .int (w.at':Int),AV.cell (mh (dc w)) 2,AV.cell (mh (dc w)) 3,AV.cell (mh (dc w)) 4,AV.cell (mh (dc w)) 5,AV.cell (mh (dc w)) 6,AV.cell (mh (dc w)) 7, .u8 (hole c)])=mh { dc w with hole:=hole c }:=by
    rw [← k];rfl
   rw [e,PN]
   rfl
 ·have q0:((4:UInt8) == 0)=false:=rfl
  have q1:((4:UInt8) == 1)=false:=rfl
  have z0:((4:Int) == 0)=false:=rfl
  have z1:((4:Int) == 1)=false:=rfl
  have z2:((4:Int) == 2)=false:=rfl
  have z3:((4:Int) == 3)=false:=rfl
  have hH:fv w c=dc w:=by unfold fv nk dc;rw [k];rfl
  rw [k,hH]
  simp only [q0,q1,Bool.false_eq_true,if_false]
  refine ⟨fun d h=>?_,fun a' e' h=>(by cases h)⟩
  cases h
  refine ⟨go ?_,hc⟩
  simp only [I2,tN,tM,Option.bind_some,ia,je,k,cv4,aZ,z0,z1,z2,z3,ai,Bool.false_eq_true,if_false]
  apply PJ
  rfl
end eA
end
