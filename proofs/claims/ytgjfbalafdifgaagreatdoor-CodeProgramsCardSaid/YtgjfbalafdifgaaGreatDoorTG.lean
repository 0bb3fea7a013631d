/-
  A part of CodePrograms's proof.
-/
import Derived.Test.YtgjfbalafdifgaaGreatDoorTB
import Derived.Deep.RegionHeld3
import Derived.Test.YtgjfbalafdifgaaGreatDoorTC
import Derived.Test.YtgjfbalafdifgaaGreatDoorTF
import Derived.Test.YtgjfbalafdifgaaGreatDoorTE
import Derived.Test.YtgjfbalafdifgaaGreatDoorTD
import Derived.Test.YtgjfbalafdifgaaGreatDoorProg
set_option linter.unusedVariables false
set_option linter.unusedSimpArgs false
set_option linter.unusedSectionVars false
set_option linter.unnecessarySimpa false
open _root_ renaming Array→bF,Bool→ay,ByteArray→aL,Int→aB,List→ai,Nat→ax,Option→ak,UInt8→ae,beq_iff_eq→bK,bne_self_eq_false→cz,congrArg→bA,decide_eq_false_iff_not→aQ,decide_eq_true_eq→aG,if_false→aH,if_neg→aI,if_pos→aJ,if_true→aO
open Bool renaming and_false→gH,false→af,false_and→dn,not_false→fE,not_true→df,true→aj
open Go.Lib renaming index_room→gK,index_spec→eG,occAt→dB
open Go renaming Program→bn,Value→aC,World→az,callsIn_of_wp→bC,callsIn_wide→aT
open Go.Proofs.Tryz renaming f22→iJ,f26→fD,f53→eH,f66→ed,f76→gL,func11→gq,func21→ji,ntmps11→fT,ntmps21→iU,underlying23→dZ
open Go.Region renaming noSelect→eQ
open Go.World renaming cell?_of_block→aD,frozen?_of_block→cB
open List renaming all_cons→dW,concat_eq_append→eF,dropLast_sublist→iZ,dropWhile_cons→bR,drop_eq_getElem_cons→dA,drop_left→ic,eq_nil_or_concat→dG,getD_cons_succ→bz,getD_cons_zero→bf,getD_eq_getElem?_getD→aK,length_append→au,length_cons→aA,length_drop→bQ,length_dropLast→jf,length_map→aP,length_take→dV,map_append→dM,mem_iff_getElem→bU,mem_of_getElem?→aV,replicate→dE,reverse_append→eU,reverse_reverse→jc,take_append_drop→bM
open Nat renaming eq_of_beq_eq_true→aF,le_succ→iG
open Option renaming none→ah,some→aa
open UInt8 renaming toNat_inj→bP
set_option maxRecDepth 100000
set_option maxHeartbeats 4000000
namespace R3
open Go Go.RowKit Sx
section
variable {P:bn} {ops:bF Oper} {nc:ai ax} {Q:Exit→Act→az→Prop} {E:az→az→Prop}
def quiet (nc:ai ax) (i:ax):ay:=!(nc.any (Nat.beq i))
def uC (P:bn) (ops:bF Oper) (nc:ai ax) (Q:Exit→Act→az→Prop) (E:az→az→Prop) (p:ax×ay) (N:Act→az→Prop) (a:Act) (w:az):Prop :=
 if p.2=aj then ∃ oi v,ops[p.1]?=aa oi∧YieldsIf P ops (E w) oi v a∧N (a.put oi.dst v) w
 else wpOp P ops Q p.1 (fun a' w'=>(quiet nc p.1=aj→E w w')∧N a' w') a w
def Ij (P:bn) (ops:bF Oper) (nc:ai ax) (Q:Exit→Act→az→Prop) (E:az→az→Prop):ai (ax×ay)→(Act→az→Prop)→Act→az→Prop
 | [],N,a,w=>N a w
 | p :: r,N,a,w=>uC P ops nc Q E p (Ij P ops nc Q E r N) a w
def yZ (P:bn) (ops:bF Oper) (nc:ai ax) (Q:Exit→Act→az→Prop) (E:az→az→Prop):ax→bF ay→Act→az→Prop
 | 0,done,a,w=>Region.ready .any ops done=[]∧Q .normal a w
 | m+1,done,a,w=>(Region.ready .any ops done=[]→Q .normal a w)∧∀ i ∈ Region.ready .any ops done,wpOp P ops Q i (fun a' w'=>(quiet nc i=aj→E w w')∧yZ P ops nc Q E m (done.setIfInBounds i aj) a' w') a w
theorem yZ.any:∀ (m:ax) {done:bF ay} {a:Act} {w:az},yZ P ops nc Q E m done a w→wpAny P .any ops Q m done a w
 | 0,_,_,_,h=>h
 | m+1,_,_,_,h=>⟨h.1,fun i hi=>wpOp_mono (fun _ _ hh=>yZ.any m hh.2) (h.2 i hi)⟩
theorem yZ.take {S:az→az→Prop} (hr:∀ w,E w w) (SK:∀ u v,E u v→S u v) (ht:∀ u v w,S u v→S v w→S u w) (hQ:∀ c a w,¬ Q (.panic c) a w) (Sy:eQ ops=aj) {i:ax} {oi:Oper} {v:aC} (hi:ops[i]?=aa oi):∀ (m:ax) {done:bF ay} {a:Act} {w:az},
  (∀ (j:ax) (oj:Oper),ops[j]?=aa oj→j≠i→done.getD j aj=af→(∀ e ∈ oj.after,Region.binds .any e=aj→e.on≠i)→oi.apart ops oj=aj)→i ∈ Region.ready .any ops done→mB ops done→((∀ u v,S u v)∨∀ j,j < ops.size→j≠i→done.getD j aj=af→quiet nc j=aj∨behind ops i ops.size j=aj)→YieldsIf P ops (S w) oi v a →
  yZ P ops nc Q E m (done.setIfInBounds i aj) (a.put oi.dst v) w→yZ P ops nc Q E (m+1) done a w:=by
 have We:=Region.noSelect_spec Sy
 intro m
 induction m with
 | zero =>
  intro done a w _ nO _ _ hy h
  constructor
  ·intro e;rw [e] at nO;cases nO
  ·intro j hj
   rcases Nat.decEq j i with hne | rfl
   ·have:=ready_mono hj hne;rw [h.1] at this;cases this
   ·exact hy.wpOp hi (SK _ _ (hr w)) ⟨fun _=>hr w,h⟩
 | succ m ih =>
  intro done a w hap nO qW lJ hy h
  constructor
  ·intro e;rw [e] at nO;cases nO
  ·intro j hj
   rcases Nat.decEq j i with hne | rfl
   ·obtain ⟨pM,oj,KT,Dn⟩:=mem_ready.1 hj
    have hid:=(mem_ready.1 nO).1
    have KU:∀ e ∈ oj.after,Region.binds .any e=aj→e.on≠i:=by
     intro e he hb heq
     have hd:=Dn e he hb
     rw [heq] at hd
     by_cases hlt:i < done.size
     ·simp [hlt] at hid hd;rw [hid] at hd;cases hd
     ·simp [hlt] at hd
    have SL:j < ops.size:=(Array.getElem?_eq_some_iff.1 KT).1
    have EU:∀ w',(quiet nc j=aj→E w w')→S w w':=by
     intro w' hE
     rcases lJ with hc | lJ
     ·exact hc _ _
     ·rcases lJ j SL hne pM with hc | hb
      ·exact SK _ _ (hE hc)
      ·exfalso
       have:=qi qW ops.size j (fun o ho=>by rw [KT] at ho;cases ho;exact Dn) hb
       by_cases hlt:i < done.size
       ·simp [hlt] at hid this;rw [hid] at this;cases this
       ·simp [hlt] at this
    have hh:=wpOp_putIf KT (hap j oj KT hne pM KU) (fun cs b=>We i oi cs b hi) (fun cs b=>We j oj cs b KT) (fun c a w hc=>absurd hc (hQ c _ w)) hy (h.2 j (ready_mono hj hne))
    refine wpOp_mono (fun a' w' ⟨hy',hE,ml⟩=>⟨hE,ih ?_ (ready_mono nO (Ne.symm hne)) (qW.set hj) ?_ ?_ ?_⟩) hh
    ·intro k ok hk SM mA hkw
     refine hap k ok hk SM ?_ hkw
     by_cases hjk:j=k
     ·subst hjk;exact pM
     ·rwa [getD_set_ne aj hjk] at mA
    ·rcases lJ with hc | lJ
     ·exact .inl hc
     ·refine .inr fun k hk SM mA=>lJ k hk SM ?_
      by_cases hjk:j=k
      ·subst hjk;exact pM
      ·rwa [getD_set_ne aj hjk] at mA
    ·rcases hy' with ⟨q1,q2⟩ | q
     ·exact .inl ⟨q1,fun u hu=>q2 u (ht w w' u (EU w' hE) hu)⟩
     ·exact .inr q
    ·rw [Array.setIfInBounds_comm _ _ hne]
     exact ml
   ·exact hy.wpOp hi (SK _ _ (hr w)) ⟨fun _=>hr w,h⟩
def Ik (ops:bF Oper) (nc:ai ax) (k:bF ay→ay):bF ay→ai (ax×ay)→ay
 | listed,[]=>k listed
 | listed,p :: r=>(bif p.2 then Region.free .any ops listed p.1 && (Region.ready .any ops listed).contains p.1 && ((List.range ops.size).all fun j=>Nat.beq j p.1 || listed.getD j aj || quiet nc j || behind ops p.1 ops.size j) else decide (Region.ready .any ops listed=[p.1])) && Ik ops nc k (listed.setIfInBounds p.1 aj) r
theorem qO (hr:∀ w,E w w) (ht:∀ u v w,E u v→E v w→E u w) (hs:eQ ops=aj) (hQ:∀ c a w,¬ Q (.panic c) a w) {k:bF ay→ay} {N:Act→az→Prop} {m:ax}
  (hN:∀ (listed:bF ay) (a:Act) (w:az),mB ops listed→k listed=aj→N a w→yZ P ops nc Q E m listed a w):∀ (l:ai (ax×ay)) (listed:bF ay) (a:Act) (w:az),mB ops listed→Ik ops nc k listed l=aj →
  Ij P ops nc Q E l N a w→yZ P ops nc Q E (l.length+m) listed a w
 | [],listed,a,w,qW,hp,h=>by
  rw [List.length_nil,Nat.zero_add]
  exact hN listed a w qW hp h
 | (i,tk) :: r,listed,a,w,qW,hp,h=>by
  simp only [Ik,Bool.and_eq_true] at hp
  have h':uC P ops nc Q E (i,tk) (Ij P ops nc Q E r N) a w:=h
  unfold uC at h'
  rw [aA,show r.length+1+m=(r.length+m)+1 by omega]
  cases tk with
  | true =>
   rw [aJ rfl] at h'
   obtain ⟨oi,v,hi,hy,hn⟩:=h'
   simp only [cond_true,Bool.and_eq_true] at hp
   have nO:i ∈ Region.ready .any ops listed:=by simpa using hp.1.1.2
   have ml:=qO hr ht hs hQ hN r _ _ _ (qW.set nO) hp.2 hn
   refine yZ.take hr (fun _ _ h=>h) ht hQ hs hi (r.length+m) (Region.free_spec hi hp.1.1.1) nO qW (.inr fun j hj hne I7=>?_) hy ml
   have:=List.all_eq_true.1 hp.1.2 j (List.mem_range.2 hj)
   rw [Bool.or_eq_true,Bool.or_eq_true,Bool.or_eq_true] at this
   rcases this with ((h1 | h1) | h1) | h1
   ·exact absurd (aF h1) hne
   ·rw [I7] at h1;cases h1
   ·exact .inl h1
   ·exact .inr h1
  | false =>
   rw [aI (by simp)] at h'
   simp only [cond_false,aG] at hp
   refine ⟨fun e=>(by rw [hp.1] at e;cases e),fun j hj=>?_⟩
   rw [hp.1] at hj
   have:j=i:=by simpa using hj
   subst this
   exact wpOp_mono (fun a' w' hh=>⟨hh.1,qO hr ht hs hQ hN r _ _ _ (qW.set (by rw [hp.1];simp)) hp.2 hh.2⟩) h'
theorem cW {id:ax} {a:Act} {w:az} (hm:P.follows .mixedOrders=aj) (nc:ai ax) (E:az→az→Prop) (l:ai (ax×ay))
  (hp:Ik ops nc (fun listed=>(Region.ready .any ops listed).isEmpty) (Array.replicate ops.size af) l=aj) (hlen:Nat.beq l.length ops.size=aj) (hs:eQ ops=aj)
  (hr:∀ w,E w w) (ht:∀ u v w,E u v→E v w→E u w)
  (h:Ij P ops nc (NoPanic Q) E l (fun a w=>Q .normal a w) a w.drew):(Code.region id ops aj).wp P Q a w:=by
 refine wp_region_noPanic ?_
 refine wp_region_any hm ?_
 have hl:=aF hlen
 have key:=qO (m:=0) hr ht hs (fun _ _ _ h=>h) (fun listed a w qW hk hn=>⟨by simpa using hk,hn⟩) l (Array.replicate ops.size af) a _
  (fun j o hj=>by
   simp [Array.getD] at hj) hp h
 rw [Nat.add_zero,hl] at key
 exact yZ.any _ key
theorem cS {i:ax} {o:Oper} {v:aC} {r:ai (ax×ay)} {N:Act→az→Prop} {a:Act} {w:az} (hi:ops[i]?=aa o) (hw:Region.wanted o (yielded ops a.tmps)=aj)
  (hv:∀ w',E w w'→(execOp a.eval o).run P w'=.ok (.value v) w') (h:Ij P ops nc Q E r N (a.put o.dst v) w):Ij P ops nc Q E ((i,aj) :: r) N a w:=by
 show uC P ops nc Q E (i,aj) (Ij P ops nc Q E r N) a w
 unfold uC
 rw [aJ rfl]
 exact ⟨o,v,hi,.inl ⟨hw,hv⟩,h⟩
theorem jJ {i:ax} {o:Oper} {r:ai (ax×ay)} {N:Act→az→Prop} {a:Act} {w:az} (hi:ops[i]?=aa o)
  (h:∀ K':Act→az→Prop,Shut (∀ a' w',E w w'→Ij P ops nc Q E r N a' w'→K' a' w')→if Region.wanted o (yielded ops a.tmps)=aj then Oper.wp P o a w K' Q else K' (a.put o.dst undef) w):Ij P ops nc Q E ((i,af) :: r) N a w:=by
 show uC P ops nc Q E (i,af) (Ij P ops nc Q E r N) a w
 unfold uC
 rw [aI (by simp)]
 exact wpOp_step hi fun K' hK=>h K' fun a' w' hE hl=>hK a' w' ⟨fun _=>hE,hl⟩
theorem my {i:ax} {o:Oper} {r:ai (ax×ay)} {N:Act→az→Prop} {a:Act} {w:az} (hi:ops[i]?=aa o) (hc:quiet nc i=af)
  (h:∀ K':Act→az→Prop,Shut (∀ a' w',Ij P ops nc Q E r N a' w'→K' a' w')→if Region.wanted o (yielded ops a.tmps)=aj then Oper.wp P o a w K' Q else K' (a.put o.dst undef) w):Ij P ops nc Q E ((i,af) :: r) N a w:=by
 show uC P ops nc Q E (i,af) (Ij P ops nc Q E r N) a w
 unfold uC
 rw [aI (by simp)]
 exact wpOp_step hi fun K' hK=>h K' fun a' w' hl=>hK a' w' ⟨fun hcc=>absurd (hc.symm.trans hcc) Bool.noConfusion,hl⟩
theorem j9 {N:Act→az→Prop} {a:Act} {w:az} (h:N a w):Ij P ops nc Q E [] N a w:=h
end
end R3
namespace R3
open Go Go.Proofs Go.RowKit Go.Shelf Sx
variable {mx:aB}
theorem PM.last {w W:az} {F:ax→Prop} {b7:ax} {N:ai Mn} {T:ai ax} {S:ai ED} {o:ED} {X:ai Vn} {tag:ax→Tg} {vn vt vs:aC} (h:PM w F b7 ⟨N,T,S ++ [o]⟩ X tag vn vt vs W) :
  ∃ gs cap,vs=.slice (aa ⟨gs,0,ah⟩) (S.length+1) cap∧(W.cell? ⟨gs,S.length * 3,ah⟩=aa (.int .i64 (o.node:aB))∧W.cell? ⟨gs,S.length * 3+1,ah⟩=aa (.int .i64 (o.kind.toNat:aB))∧W.cell? ⟨gs,S.length * 3+2,ah⟩=aa (.bool o.els))∧∀ j,W.frozen? ⟨gs,j,ah⟩=af:=by
 have hs:=h.sk.1
 simp only [au,aA,List.length_nil,List.flatMap_append,List.flatMap_cons,List.flatMap_nil,List.append_nil] at hs
 obtain ⟨gs,cap,rfl⟩:=ownsRow_succ hs
 have key:∀ j,j < 3→W.cell? ⟨gs,S.length * 3+j,ah⟩=(kQ o)[j]?:=fun j hj=>by
  rw [hs.cellAt (S.length * 3+j) (by omega),List.getElem?_append_right (by rw [ng];omega),ng]
  congr 1;omega
 exact ⟨gs,cap,rfl,⟨key 0 (by decide),key 1 (by decide),key 2 (by decide)⟩,fun j=>hs.frozenAt j⟩
theorem PM.node {w W:az} {F:ax→Prop} {b7:ax} {s:Ms} {X:ai Vn} {tag:ax→Tg} {vn vt vs:aC} (h:PM w F b7 s X tag vn vt vs W) {i:ax} (hi:i < s.nodes.length) :
  ∃ gn cn x y,vn=.slice (aa ⟨gn,0,ah⟩) X.length cn∧X[i]?=aa x∧s.nodes[i]?=aa y∧(∀ j,j < 9→W.cell? ⟨gn,i * 9+j,ah⟩=x.cells[j]?)∧∀ j,W.frozen? ⟨gn,j,ah⟩=af:=by
 have hX:i < X.length:=by rw [h.len];exact hi
 have sR:=h.nd.1
 obtain ⟨k,hk⟩:∃ k,X.length=k+1:=⟨X.length - 1,by omega⟩
 obtain ⟨gn,cn,rfl⟩:∃ g cap,vn=.slice (aa ⟨g,0,ah⟩) X.length cap:=by
  rcases sR.2 with ⟨_,h0⟩ | ⟨g,cap,_,rfl,_⟩
  ·omega
  ·exact ⟨g,cap,rfl⟩
 refine ⟨gn,cn,X[i],s.nodes[i],rfl,List.getElem?_eq_getElem hX,List.getElem?_eq_getElem hi,fun j hj=>?_,fun j=>sR.frozenAt j⟩
 rw [sR.cellAt (i * 9+j) (by omega)]
 exact vE X i j X[i] (List.getElem?_eq_getElem hX) hj
theorem QD {w W:az} {F:ax→Prop} {b7:ax} {N:ai Mn} {T:ai ax} {S:ai ED} {o:ED} {X:ai Vn} {tag:ax→Tg} {vn vt vs:aC} (h:PM w F b7 ⟨N,T,S ++ [o]⟩ X tag vn vt vs W) {n:ax} (ho:o.node < N.length) (he:o.els=aj) (hN:N.length≤100000) (hS:S.length≤1000) (hE:∀ y ∈ N,y.els.length≤1000000) :
  CallsIn Fence.wide 6 Tryz.prog 38 #[.pointer (aa ⟨b7,0,ah⟩),vs,.int .i64 (n:aB)] W (xD w F b7 ⟨N.modify o.node fun y=>{ y with els:=y.els ++ [n] },T,S ++ [o]⟩ vs X vn vt W):=by
 obtain ⟨gs,cs,rfl,⟨s0,s1,s2⟩,sf⟩:=h.last
 obtain ⟨gn,cn,x,y,rfl,hx,hy,hcell,l4⟩:=h.node ho
 obtain ⟨i0,tI,hz0,hz1,hz2⟩:=info_parts info3
 obtain ⟨v1,v2,v3,v4⟩:=cF h.c7
 have hlt:=h.zQ
 have hy0:N[o.node]?=aa y:=hy
 obtain ⟨bb,be⟩:=h.bd o.node x y hx hy
 obtain ⟨ade,ce,hes⟩:=lV be.1
 have c6:=hcell 6 (by decide)
 have c6:W.cell? ⟨gn,o.node * 9+6,ah⟩=aa x.es:=c6
 rw [hes] at c6
 have CI:X.length=N.length:=h.len
 have hyl:=hE y (aV hy0)
 have sf2:=sf (S.length * 3+2)
 have Yo:=l4 (o.node * 9+6)
 rw [he] at s2
 generalize hd:S.length=d at *
 generalize hk:o.node=k at *
 generalize o.kind.toNat=kd at s1
 have hw3:W.heap.size≤W.heap.size:=Nat.le_refl _
 refine bC Tryz.func38 rfl trivial ?_ rfl
 simp only [Tryz.ntmps38,Nat.reduceAdd,Nat.reduceSub,zC]
 clear hcell sf l4 hE
 gi_wp2
 rw [wpIn_wide]
 have hb4:(W.alloc (.cells #[.int .i64 (k:aB),.int .i64 (kd:aB),.bool aj] 93)).heap[W.heap.size]?=aa (.cells #[.int .i64 (k:aB),.int .i64 (kd:aB),.bool aj] 93):=World.alloc_heap_new W _
 have kW:Ext W (W.alloc (.cells #[.int .i64 (k:aB),.int .i64 (kd:aB),.bool aj] 93)):=Ext.push W _
 generalize W.alloc (.cells #[.int .i64 (k:aB),.int .i64 (kd:aB),.bool aj] 93)=W5 at hb4 kW ⊢
 have p1:=cE kW v1
 have p4:W5.cell? ⟨W.heap.size,0,ah⟩=aa (.int .i64 (k:aB)):=by simp [World.cell?,hb4]
 have p5:=cE kW c6
 have p6:W5.frozen? ⟨gn,k * 9+6,ah⟩=af:=by
  rw [← Yo]
  exact cB (kW.block gn (cM c6))
 have h5:=h.ext' kW
 have h6:=h5.ext' (Ext.push W5 (.cells #[.int .i64 (n:aB)] 3))
 have Yp:=(h6.bd k x y hx hy).2.1
 have hnews:=UM W5 (.int .i64 (n:aB)) 3
 have kt:b7+1≤(W5.alloc (.cells #[.int .i64 (n:aB)] 3)).heap.size:=h6.zQ
 rw [hes] at Yp
 have hgn:gn < W5.heap.size:=cM p5
 have UN:∀ {w7:az} {r:ak ax},r=x.es.ownBlock→(W5.alloc (.cells #[.int .i64 (n:aB)] 3)).grownBy w7 r→w7.heap[gn]?=W5.heap[gn]?:=fun {w7 r} hr hg=>by
  rw [hg.block gn (by simp;omega) (fun e=>by rw [hr] at e;have a1:=be.2 gn e.symm;have a2:=h.nd.2 gn rfl;rw [a1] at a2;cases a2)]
  exact ck hgn
 have lA:Ext W5 (W5.alloc (.cells #[.int .i64 (n:aB)] 3)):=Ext.push W5 _
 have r1:=cE lA p1
 have r4:=cE lA p4
 have r5:=cE lA p5
 have JN:W.heap.size < W5.heap.size:=cM p4
 have UO:b7 < W5.heap.size:=cM p1
 have hne:∀ {w7:az} {r:ak ax},r=x.es.ownBlock→(W5.alloc (.cells #[.int .i64 (n:aB)] 3)).grownBy w7 r→w7.heap[b7]?=W5.heap[b7]?∧w7.heap[W.heap.size]?=W5.heap[W.heap.size]?:=fun {w7 r} hr hg=>by
  refine ⟨?_,?_⟩
  ·rw [hg.block b7 (by simp;omega) (fun e=>by rw [hr] at e;have:=jG be e.symm;omega)]
   exact ck UO
  ·rw [hg.block _ (by simp;omega) (fun e=>by rw [hr] at e;have:=(be.1.lt _ e.symm).2;omega)]
   exact ck JN
 clear v1 v2 v3 v4 c6 Yo s0 s1 s2 sf2 hb4
 have abn:∀ {w7:az} {b i:ax} {u:aC} (v:aC),b≠gn→w7.cell? ⟨b,i,ah⟩=aa u→(w7.setCell ⟨gn,k * 9+6,ah⟩ v).cell? ⟨b,i,ah⟩=aa u:=fun v hb hu=>(aD (bl hb)).trans hu
 have Zi:b7≠gn:=by have:=jG h.nd (g:=gn) rfl;omega
 have VG:W.heap.size≠gn:=by have:=(h.nd.1.lt gn rfl).2;omega
 have Zj:gn≠W.heap.size:=fun e=>VG e.symm
 refine cW (by kernel_rfl) [20] (fun u v=>v.cell? ⟨b7,0,ah⟩=u.cell? ⟨b7,0,ah⟩∧v.cell? ⟨W.heap.size,0,ah⟩=u.cell? ⟨W.heap.size,0,ah⟩∧v.cell? ⟨gn,k * 9+6,ah⟩=u.cell? ⟨gn,k * 9+6,ah⟩)
  [(0,aj),(1,aj),(2,aj),(3,aj),(4,aj),(5,aj),(6,aj),(7,aj),(8,aj),(9,aj),(10,aj),(11,aj),(12,aj),(13,aj),(14,aj),(15,aj),(16,af),(17,af),(18,aj),(19,aj),(20,af)]
  (by kernel_rfl) (by kernel_rfl) (by kernel_rfl) (fun _=>⟨rfl,rfl,rfl⟩) (fun _ _ _ h1 h2=>⟨h2.1.trans h1.1,h2.2.1.trans h1.2.1,h2.2.2.trans h1.2.2⟩) ?_
 iterate 16 (
  refine' cS ?_ ?_ ?_ ?_;rotate_left 2
  ·(simp only [zA];rfl)
  ·rfl
  ·(intro w' hE;have q1:=hE.1.trans p1;have q4:=hE.2.1.trans p4;have q5:=hE.2.2.trans p5;go_simp;try rfl)
  simp only [Act.put,zB])
 refine' jJ ?_ ?_;rotate_left 1
 ·(simp only [zA];rfl)
 intro K hK
 go_simp
 refine hK.out _ _ ⟨r1.trans p1.symm,r4.trans p4.symm,r5.trans p5.symm⟩ ?_
 clear hK K
 try simp only [Act.put,zB]
 refine' jJ ?_ ?_;rotate_left 1
 ·(simp only [zA];rfl)
 intro K hK
 refine step_append_lies _ rfl (.tmp 42) (.tmp 44) 24 rfl (b7+1) 3 i0 _ 1 8 Tryz.underlying24 tI hz0 hz1 hz2 rfl (by decide) (.slice ade y.els.length ce) y.els.length (ints y.els) rfl Yp ⟨W5.heap.size,0,ah⟩ 1 1 [.int .i64 (n:aB)] rfl rfl hnews (by simp [Value.oneCell']) (by decide) (by have:Go.maxLen=9223372036854775807:=rfl;omega) (by omega) kt _ rfl ?_
 intro g cap w7 jP cJ lY Yq
 have rH:(W5.alloc (.cells #[.int .i64 (n:aB)] 3)).grownBy w7 x.es.ownBlock:=(by rw [hes];exact ⟨cJ.os,cJ.tape,cJ.output,cJ.size,cJ.block⟩)
 have Yr:=UN rfl rH
 have LJ:=hne rfl rH
 have s1:=(aD (a:=⟨b7,0,ah⟩) LJ.1).trans p1
 have s4:=(aD (a:=⟨W.heap.size,0,ah⟩) LJ.2).trans p4
 have s5:=(aD (a:=⟨gn,k * 9+6,ah⟩) Yr).trans p5
 have s6:=(cB (a:=⟨gn,k * 9+6,ah⟩) Yr).trans p6
 obtain ⟨X',mU,kz⟩:=h6.UJ (n:=n) rfl hx hy rH jP (by rw [hes];exact lY)
 refine hK.out _ _ ⟨s1.trans r1.symm,s4.trans r4.symm,s5.trans r5.symm⟩ ?_
 clear hK K
 try simp only [Act.put,zB]
 iterate 2 (
  refine' cS ?_ ?_ ?_ ?_;rotate_left 2
  ·(simp only [zA];rfl)
  ·rfl
  ·(intro w' hE;go_simp;try rfl)
  simp only [Act.put,zB])
 refine' my ?_ (by kernel_rfl) ?_;rotate_left 1
 ·(simp only [zA];rfl)
 intro K hK
 go_simp
 refine hK.out _ _ ?_
 clear hK K
 refine j9 ?_
 gi_wp2
 refine bodyPost_ret (results63 _ _) rfl ?_
 exact ⟨rfl,⟨_,_,_,_,kz⟩,fun b hb hap=>(bl (show b≠gn from fun e=>hap.2.1 (by rw [e];rfl))).trans ((rH.block b (by simp;omega) (fun e=>(hap.2.2.2 x (aV hx)).2 e.symm)).trans ((ck (by have:=kW.size;omega)).trans (kW.block b hb)))⟩
theorem M5 {w W:az} {F:ax→Prop} {b7:ax} {N:ai Mn} {T:ai ax} {S:ai ED} {o:ED} {X:ai Vn} {tag:ax→Tg} {vn vt vs:aC} (h:PM w F b7 ⟨N,T,S ++ [o]⟩ X tag vn vt vs W) {n:ax} (ho:o.node < N.length) (he:o.els=af) (hN:N.length≤100000) (hS:S.length≤1000) (hE:∀ y ∈ N,y.body.length≤1000000) :
  CallsIn Fence.wide 6 Tryz.prog 38 #[.pointer (aa ⟨b7,0,ah⟩),vs,.int .i64 (n:aB)] W (xD w F b7 ⟨N.modify o.node fun y=>{ y with body:=y.body ++ [n] },T,S ++ [o]⟩ vs X vn vt W):=by
 obtain ⟨gs,cs,rfl,⟨s0,s1,s2⟩,sf⟩:=h.last
 obtain ⟨gn,cn,x,y,rfl,hx,hy,hcell,l4⟩:=h.node ho
 obtain ⟨i0,tI,hz0,hz1,hz2⟩:=info_parts info3
 obtain ⟨v1,v2,v3,v4⟩:=cF h.c7
 have hlt:=h.zQ
 have hy0:N[o.node]?=aa y:=hy
 obtain ⟨bb,be⟩:=h.bd o.node x y hx hy
 obtain ⟨ade,ce,hes⟩:=lV bb.1
 have c6:=hcell 5 (by decide)
 have c6:W.cell? ⟨gn,o.node * 9+5,ah⟩=aa x.bs:=c6
 rw [hes] at c6
 have CI:X.length=N.length:=h.len
 have hyl:=hE y (aV hy0)
 have sf2:=sf (S.length * 3+2)
 have Yo:=l4 (o.node * 9+5)
 rw [he] at s2
 generalize hd:S.length=d at *
 generalize hk:o.node=k at *
 generalize o.kind.toNat=kd at s1
 have hw3:W.heap.size≤W.heap.size:=Nat.le_refl _
 refine bC Tryz.func38 rfl trivial ?_ rfl
 simp only [Tryz.ntmps38,Nat.reduceAdd,Nat.reduceSub,zC]
 clear hcell sf l4 hE
 gi_wp2
 rw [wpIn_wide]
 have hb4:(W.alloc (.cells #[.int .i64 (k:aB),.int .i64 (kd:aB),.bool af] 93)).heap[W.heap.size]?=aa (.cells #[.int .i64 (k:aB),.int .i64 (kd:aB),.bool af] 93):=World.alloc_heap_new W _
 have kW:Ext W (W.alloc (.cells #[.int .i64 (k:aB),.int .i64 (kd:aB),.bool af] 93)):=Ext.push W _
 generalize W.alloc (.cells #[.int .i64 (k:aB),.int .i64 (kd:aB),.bool af] 93)=W5 at hb4 kW ⊢
 have p1:=cE kW v1
 have p4:W5.cell? ⟨W.heap.size,0,ah⟩=aa (.int .i64 (k:aB)):=by simp [World.cell?,hb4]
 have p5:=cE kW c6
 have p6:W5.frozen? ⟨gn,k * 9+5,ah⟩=af:=by
  rw [← Yo]
  exact cB (kW.block gn (cM c6))
 have h5:=h.ext' kW
 have h6:=h5.ext' (Ext.push W5 (.cells #[.int .i64 (n:aB)] 3))
 have Yp:=(h6.bd k x y hx hy).1.1
 have hnews:=UM W5 (.int .i64 (n:aB)) 3
 have kt:b7+1≤(W5.alloc (.cells #[.int .i64 (n:aB)] 3)).heap.size:=h6.zQ
 rw [hes] at Yp
 have hgn:gn < W5.heap.size:=cM p5
 have UN:∀ {w7:az} {r:ak ax},r=x.bs.ownBlock→(W5.alloc (.cells #[.int .i64 (n:aB)] 3)).grownBy w7 r→w7.heap[gn]?=W5.heap[gn]?:=fun {w7 r} hr hg=>by
  rw [hg.block gn (by simp;omega) (fun e=>by rw [hr] at e;have a1:=bb.2 gn e.symm;have a2:=h.nd.2 gn rfl;rw [a1] at a2;cases a2)]
  exact ck hgn
 have lA:Ext W5 (W5.alloc (.cells #[.int .i64 (n:aB)] 3)):=Ext.push W5 _
 have r1:=cE lA p1
 have r4:=cE lA p4
 have r5:=cE lA p5
 have JN:W.heap.size < W5.heap.size:=cM p4
 have UO:b7 < W5.heap.size:=cM p1
 have hne:∀ {w7:az} {r:ak ax},r=x.bs.ownBlock→(W5.alloc (.cells #[.int .i64 (n:aB)] 3)).grownBy w7 r→w7.heap[b7]?=W5.heap[b7]?∧w7.heap[W.heap.size]?=W5.heap[W.heap.size]?:=fun {w7 r} hr hg=>by
  refine ⟨?_,?_⟩
  ·rw [hg.block b7 (by simp;omega) (fun e=>by rw [hr] at e;have:=jG bb e.symm;omega)]
   exact ck UO
  ·rw [hg.block _ (by simp;omega) (fun e=>by rw [hr] at e;have:=(bb.1.lt _ e.symm).2;omega)]
   exact ck JN
 clear v1 v2 v3 v4 c6 Yo s0 s1 s2 sf2 hb4
 have abn:∀ {w7:az} {b i:ax} {u:aC} (v:aC),b≠gn→w7.cell? ⟨b,i,ah⟩=aa u→(w7.setCell ⟨gn,k * 9+5,ah⟩ v).cell? ⟨b,i,ah⟩=aa u:=fun v hb hu=>(aD (bl hb)).trans hu
 have Zi:b7≠gn:=by have:=jG h.nd (g:=gn) rfl;omega
 have VG:W.heap.size≠gn:=by have:=(h.nd.1.lt gn rfl).2;omega
 have Zj:gn≠W.heap.size:=fun e=>VG e.symm
 refine cW (by kernel_rfl) [20] (fun u v=>v.cell? ⟨b7,0,ah⟩=u.cell? ⟨b7,0,ah⟩∧v.cell? ⟨W.heap.size,0,ah⟩=u.cell? ⟨W.heap.size,0,ah⟩∧v.cell? ⟨gn,k * 9+5,ah⟩=u.cell? ⟨gn,k * 9+5,ah⟩)
  [(0,aj),(1,aj),(2,aj),(3,aj),(4,aj),(5,aj),(6,aj),(7,aj),(8,aj),(9,aj),(10,aj),(11,aj),(12,aj),(13,aj),(14,aj),(15,aj),(16,af),(17,af),(18,aj),(19,aj),(20,af)]
  (by kernel_rfl) (by kernel_rfl) (by kernel_rfl) (fun _=>⟨rfl,rfl,rfl⟩) (fun _ _ _ h1 h2=>⟨h2.1.trans h1.1,h2.2.1.trans h1.2.1,h2.2.2.trans h1.2.2⟩) ?_
 iterate 16 (
  refine' cS ?_ ?_ ?_ ?_;rotate_left 2
  ·(simp only [zA];rfl)
  ·rfl
  ·(intro w' hE;have q1:=hE.1.trans p1;have q4:=hE.2.1.trans p4;have q5:=hE.2.2.trans p5;go_simp;try rfl)
  simp only [Act.put,zB])
 refine' jJ ?_ ?_;rotate_left 1
 ·(simp only [zA];rfl)
 intro K hK
 go_simp
 refine hK.out _ _ ⟨r1.trans p1.symm,r4.trans p4.symm,r5.trans p5.symm⟩ ?_
 clear hK K
 try simp only [Act.put,zB]
 refine' jJ ?_ ?_;rotate_left 1
 ·(simp only [zA];rfl)
 intro K hK
 refine step_append_lies _ rfl (.tmp 62) (.tmp 64) 24 rfl (b7+1) 3 i0 _ 1 8 Tryz.underlying24 tI hz0 hz1 hz2 rfl (by decide) (.slice ade y.body.length ce) y.body.length (ints y.body) rfl Yp ⟨W5.heap.size,0,ah⟩ 1 1 [.int .i64 (n:aB)] rfl rfl hnews (by simp [Value.oneCell']) (by decide) (by have:Go.maxLen=9223372036854775807:=rfl;omega) (by omega) kt _ rfl ?_
 intro g cap w7 jP cJ lY Yq
 have rH:(W5.alloc (.cells #[.int .i64 (n:aB)] 3)).grownBy w7 x.bs.ownBlock:=(by rw [hes];exact ⟨cJ.os,cJ.tape,cJ.output,cJ.size,cJ.block⟩)
 have Yr:=UN rfl rH
 have LJ:=hne rfl rH
 have s1:=(aD (a:=⟨b7,0,ah⟩) LJ.1).trans p1
 have s4:=(aD (a:=⟨W.heap.size,0,ah⟩) LJ.2).trans p4
 have s5:=(aD (a:=⟨gn,k * 9+5,ah⟩) Yr).trans p5
 have s6:=(cB (a:=⟨gn,k * 9+5,ah⟩) Yr).trans p6
 obtain ⟨X',mU,kz⟩:=h6.QB (n:=n) rfl hx hy rH jP (by rw [hes];exact lY)
 refine hK.out _ _ ⟨s1.trans r1.symm,s4.trans r4.symm,s5.trans r5.symm⟩ ?_
 clear hK K
 try simp only [Act.put,zB]
 iterate 2 (
  refine' cS ?_ ?_ ?_ ?_;rotate_left 2
  ·(simp only [zA];rfl)
  ·rfl
  ·(intro w' hE;go_simp;try rfl)
  simp only [Act.put,zB])
 refine' my ?_ (by kernel_rfl) ?_;rotate_left 1
 ·(simp only [zA];rfl)
 intro K hK
 go_simp
 refine hK.out _ _ ?_
 clear hK K
 refine j9 ?_
 gi_wp2
 refine bodyPost_ret (results63 _ _) rfl ?_
 exact ⟨rfl,⟨_,_,_,_,kz⟩,fun b hb hap=>(bl (show b≠gn from fun e=>hap.2.1 (by rw [e];rfl))).trans ((rH.block b (by simp;omega) (fun e=>(hap.2.2.2 x (aV hx)).1 e.symm)).trans ((ck (by have:=kW.size;omega)).trans (kW.block b hb)))⟩
structure Ms.sz (s:Ms) (k:ax):Prop where
 nodes:s.nodes.length≤k
 top:s.top.length≤k
 two:∀ y ∈ s.nodes,y.body.length≤k∧y.els.length≤k
 stack:s.stack.length≤16
theorem mem_modify {l:ai Mn} {i:ax} {f:Mn→Mn} {y:Mn} (h:y ∈ l.modify i f):∃ z ∈ l,y=z∨y=f z:=by
 obtain ⟨j,hj,rfl⟩:=bU.1 h
 rw [List.getElem_modify]
 have hj':j < l.length:=by simpa using hj
 refine ⟨l[j],List.getElem_mem _,?_⟩
 split
 ·exact .inr rfl
 ·exact .inl rfl
theorem Ms.sz.mono {s:Ms} {k k':ax} (h:s.sz k) (hk:k≤k'):s.sz k' :=
 ⟨Nat.le_trans h.nodes hk,Nat.le_trans h.top hk,fun y hy=>⟨Nat.le_trans (h.two y hy).1 hk,Nat.le_trans (h.two y hy).2 hk⟩,h.stack⟩
theorem Ms.sz.add {s:Ms} {k:ax} (h:s.sz k) (hn:s.nodes.length≤k+1) (n:ax):(s.add [n]).sz (k+1):=by
 have h':=h.mono (iG k)
 unfold Ms.add
 split
 ·exact ⟨h'.nodes,by simp only [au,aA,List.length_nil];have:=h.top;omega,h'.two,h'.stack⟩
 ·split
  ·refine ⟨by simpa using h'.nodes,h'.top,fun y hy=>?_,h'.stack⟩
   obtain ⟨z,hz,e⟩:=mem_modify hy
   have:=h.two z hz
   rcases e with rfl | rfl
   ·omega
   ·simp only [au,aA,List.length_nil];omega
  ·refine ⟨by simpa using h'.nodes,h'.top,fun y hy=>?_,h'.stack⟩
   obtain ⟨z,hz,e⟩:=mem_modify hy
   have:=h.two z hz
   rcases e with rfl | rfl
   ·omega
   ·simp only [au,aA,List.length_nil];omega
theorem za {w W:az} {F:ax→Prop} {b7:ax} {s:Ms} {X:ai Vn} {tag:ax→Tg} {vn vt vs:aC} (h:PM w F b7 s X tag vn vt vs W) (hw:s.wf) {k:ax} (hz:s.sz k) (hk:k≤100000) {n:ax} :
  CallsIn Fence.wide 6 Tryz.prog 38 #[.pointer (aa ⟨b7,0,ah⟩),vs,.int .i64 (n:aB)] W (xD w F b7 (s.add [n]) vs X vn vt W):=by
 obtain ⟨N,T,S⟩:=s
 have h1:=hz.nodes
 have h2:=hz.top
 have h3:=hz.two
 have h4:=hz.stack
 simp only at h1 h2 h3 h4
 rcases dG S with rfl | ⟨S,o,rfl⟩
 ·exact QC h (by omega)
 ·rw [eF] at *
  have ho:o.node < N.length:=hw o (by simp)
  have hl:S.length≤1000:=by simp at h4;omega
  cases he:o.els with
  | true =>
   have:=QD h (n:=n) ho he (by omega) hl (fun y hy=>by have:=(h3 y hy).2;omega)
   unfold Ms.add
   simpa [he] using this
  | false =>
   have:=M5 h (n:=n) ho he (by omega) hl (fun y hy=>by have:=(h3 y hy).1;omega)
   unfold Ms.add
   simpa [he] using this
theorem pC {s t:Ms} {w:Wd} (h:s.wf) (hs:gl s w=.inl t):t.wf:=by
 unfold gl at hs
 split at hs
 ·split at hs
  ·cases hs
  ·rename_i o ho
   split at hs
   ·cases hs
   ·cases hs
    intro p hp
    simp only [List.length_modify]
    rcases List.mem_append.1 hp with hp | hp
    ·exact h p ((iZ _).subset hp)
    ·obtain rfl:=List.mem_singleton.1 hp;exact h o (List.mem_of_getLast? ho)
 ·split at hs
  ·split at hs
   ·cases hs
   ·cases hs
    exact fun p hp=>h p ((iZ _).subset hp)
  ·split at hs
   ·cases hs
   ·simp only [Sum.inl.injEq] at hs
    subst hs
    have hb:(Ms.add { s with nodes:=s.nodes ++ [fS w] } [s.nodes.length]).wf:=by rw [CE h];exact yT h _ _
    split
    ·intro p hp
     simp only [List.mem_append,List.mem_singleton] at hp
     rcases hp with hp | rfl
     ·exact hb p hp
     ·rw [mR];simp
    ·exact hb
theorem pD {s t:Ms} {w:Wd} {k:ax} (h:s.sz k) (hs:gl s w=.inl t):t.sz (k+1):=by
 have h':=h.mono (iG k)
 unfold gl at hs
 split at hs
 ·split at hs
  ·cases hs
  ·rename_i o ho
   split at hs
   ·cases hs
   ·cases hs
    have hne:s.stack≠[]:=fun e=>by rw [e] at ho;cases ho
    have hl:0 < s.stack.length:=List.length_pos_iff.2 hne
    refine ⟨by simpa using h'.nodes,h'.top,fun y hy=>?_,?_⟩
    ·obtain ⟨z,hz,e⟩:=mem_modify hy
     rcases e with rfl | rfl
     ·exact h'.two _ hz
     ·exact h'.two z hz
    ·have:=h.stack
     simp only [au,jf,aA,List.length_nil];omega
 ·split at hs
  ·split at hs
   ·cases hs
   ·cases hs
    exact ⟨h'.nodes,h'.top,h'.two,by have:=h.stack;simp only [jf];omega⟩
  ·split at hs
   ·cases hs
   ·rename_i VF
    simp only [Sum.inl.injEq] at hs
    subst hs
    have h1:(Ms.sz { s with nodes:=s.nodes ++ [fS w] } (k+1)):=⟨by have:=h.nodes;simp;omega,h'.top,fun y hy=>by
     rcases List.mem_append.1 hy with hy | hy
     ·exact h'.two y hy
     ·obtain rfl:=List.mem_singleton.1 hy;exact ⟨Nat.zero_le _,Nat.zero_le _⟩,h.stack⟩
    have hb:(Ms.add { s with nodes:=s.nodes ++ [fS w] } [s.nodes.length]).sz (k+1):=by
     unfold Ms.add
     split
     ·exact ⟨h1.nodes,by simp only [au,aA,List.length_nil];have:=h.top;omega,h1.two,h1.stack⟩
     ·have h2:∀ (f:Mn→Mn),(∀ z,(z.body.length≤k∧z.els.length≤k)→(f z).body.length≤k+1∧(f z).els.length≤k+1)→∀ i,∀ y ∈ (s.nodes ++ [fS w]).modify i f,y.body.length≤k+1∧y.els.length≤k+1:=fun f hf i y hy=>by
       obtain ⟨z,hz,e⟩:=mem_modify hy
       have hz2:z.body.length≤k∧z.els.length≤k:=by
        rcases List.mem_append.1 hz with hz | hz
        ·exact h.two z hz
        ·obtain rfl:=List.mem_singleton.1 hz;exact ⟨Nat.zero_le _,Nat.zero_le _⟩
       rcases e with rfl | rfl
       ·omega
       ·exact hf z hz2
      split
      ·exact ⟨by simpa using h1.nodes,h1.top,h2 _ (fun z hz=>by simp only [au,aA,List.length_nil];omega) _,h1.stack⟩
      ·exact ⟨by simpa using h1.nodes,h1.top,h2 _ (fun z hz=>by simp only [au,aA,List.length_nil];omega) _,h1.stack⟩
    split
    ·rename_i hk
     refine ⟨hb.nodes,hb.top,hb.two,?_⟩
     have abS:s.stack.length < 16:=by
      rw [hk,Bool.true_and,aG] at VF
      omega
     simp only [au,oO,aA,List.length_nil]
     omega
    ·exact hb
theorem QE (l:ai ae):(kF l).kind.toNat≤6:=by
 unfold kF ME
 repeat' split
 all_goals first
  | decide
  | exact (by decide:(1:ae).toNat≤6)
  | exact (by decide:(2:ae).toNat≤6)
  | exact (by decide:(4:ae).toNat≤6)
theorem qP:∀ (n:ax) (r:ai ae) (a:ax) (acc:ai Wd),(∀ w ∈ acc,w.kind.toNat≤6)→∀ w ∈ (kq n r a acc).1,w.kind.toNat≤6
 | 0,r,a,acc,h=>h
 | n+1,r,a,acc,h=>by
  rw [kq]
  split
  ·exact h
  ·split
   ·refine qP n _ _ _ fun w hw=>?_
    rcases List.mem_append.1 hw with hw | hw
    ·exact h w hw
    ·obtain rfl:=List.mem_singleton.1 hw;exact Nat.zero_le _
   ·split
    ·exact h
    ·split
     ·refine qP n _ _ _ fun w hw=>?_
      rcases List.mem_append.1 hw with hw | hw
      ·exact h w hw
      ·obtain rfl:=List.mem_singleton.1 hw;exact QE _
     ·exact h
def CJ (l:ai ae):Mr :=
 if l.length > 65536 then .bad 0 2
 else if 0≤(eh l).2 then .bad (eh l).2.toNat 4
 else oh (eh l).1
def Mn.av (y:Mn):AV:=.ag [.u8 y.kind,.int (y.at':aB),.s y.text,.b y.root,y.names,.ro 1 (cj y.body),.ro 1 (cj y.els),.b y.has,.u8 0]
def xE (w:az) (F:ax→Prop) (r:Mr) (e:Ending) (w':az):Prop:=Ext w w'∧match r with
 | .bad a er=>e=.returned (.tuple #[.agg #[.slice ah 0 0,.slice ah 0 0],.int .i64 (a:aB),.int .i64 (er:aB)])
 | .ok nodes top=>∃ (mb:ak Addr) (n2 c2:ax) (rX:ak Addr) (c3:ax),e=.returned (.tuple #[.agg #[.slice mb n2 c2,.slice rX top.length c3],.int .i64 0,.int .i64 0]) ∧
   cY w' (fun b=>(b < w.heap.size→F b)∧(Value.slice mb n2 c2).ownBlock≠aa b) 58 9 (nodes.map Mn.av) (.slice mb n2 c2)∧(∀ g,(Value.slice mb n2 c2).ownBlock=aa g→w.heap.size≤g∧g < w'.heap.size) ∧
   Rel w' (fun b=>(b < w.heap.size→F b)∧(Value.slice mb n2 c2).ownBlock≠aa b) (.ro 1 (cj top)) (.slice rX top.length c3)
theorem results36 (T:bF aC) (W:az) (N:ax) (x y a b:aC) (t2:T[2]?.getD undef=.pointer (aa ⟨N,0,ah⟩)) (t3:T[3]?.getD undef=a) (t4:T[4]?.getD undef=b) (h0:W.heap[N]?=aa (.cells #[x,y] 26)) :
  (results Tryz.f21 T).run Tryz.prog W=.ok (.tuple #[.agg #[x,y],a,b]) W:=by
 have hr:Tryz.f21.results = #[.cell 2 26,.tmp 3,.tmp 4]:=by kernel_rfl
 have l1:(loadVar 26 ⟨N,0,ah⟩).run Tryz.prog W=.ok (.agg #[x,y]) W:=by
  simp [loadVar,go_sem,(cF h0).1,(cF h0).2.1,Result.andThen]
 unfold results
 rw [hr]
 simp [t2,t3,t4,Sem.run_bind,asAddr,l1,Result.andThen]
end R3
namespace R3
open Go Go.Proofs Go.RowKit Go.Shelf Sx
variable {mx:aB}
end R3
namespace R3
open Go Go.Proofs Go.RowKit Go.Shelf Sx
variable {mx:aB}
theorem Row.rel {W:az} {base:ax} {tag:ax→Tg} {t:Tg} {v:aC} {l:ai ax} (h:Row W base tag t 3 1 v l.length (ints l)) {G:ax→Prop} (hG:∀ b,base≤b→tag b=t→G b):Rel W G (.ro 1 (cj l)) v:=by
 have ho:cY W G 3 1 (cj l) v:=by
  refine ⟨by decide,ints l,?_,?_,?_⟩
  ·rw [po];exact qz h.1 (Nat.zero_le _)
  ·intro u hu
   obtain ⟨n,_,rfl⟩:=List.mem_map.1 hu
   rfl
  ·intro i j u hi hj hu
   have:j=0:=by omega
   subst this
   rw [po] at hi
   simp only [Nat.mul_one,Nat.add_zero] at hu
   have e:(ints l)[i]?=aa (F7 l[i]):=by simp [ints,List.getElem?_eq_getElem hi]
   rw [e] at hu
   cases hu
   have e2:(cj l).getD i .un=.int (l[i]:aB):=by simp [cj,aK,List.getElem?_eq_getElem hi]
   rw [e2]
   exact .int _
 exact ho.rel (fun _ _ h=>h) (fun g hg=>hG g (h.1.lt g hg).1 (h.2 g hg))
theorem PM.rel {w W:az} {F:ax→Prop} {b7:ax} {s:Ms} {X:ai Vn} {tag:ax→Tg} {vn vt vs:aC} (h:PM w F b7 s X tag vn vt vs W) :
  cY W (fun b=>(b < w.heap.size→F b)∧vn.ownBlock≠aa b) 58 9 (s.nodes.map Mn.av) vn∧(∀ g,vn.ownBlock=aa g→w.heap.size≤g∧g < W.heap.size)∧Rel W (fun b=>(b < w.heap.size→F b)∧vn.ownBlock≠aa b) (.ro 1 (cj s.top)) vt:=by
 have h7:=h.EE
 have hG:∀ b (t:Tg),t≠.nodes→b7+1≤b→tag b=t→(b < w.heap.size→F b)∧vn.ownBlock≠aa b:=fun b t ht hb hbt=>⟨fun hlt=>by omega,fun e=>ht (hbt.symm.trans (h.nd.2 b e))⟩
 generalize hGG:(fun b=>(b < w.heap.size→F b)∧vn.ownBlock≠aa b)=G
 have hG:∀ b (t:Tg),t≠.nodes→b7+1≤b→tag b=t→G b:=fun b t h1 h2 h3=>by rw [← hGG];exact hG b t h1 h2 h3
 have hF:∀ b,b < w.heap.size→F b→G b:=fun b hb hf=>by
  rw [← hGG]
  exact ⟨fun _=>hf,fun e=>by have:=(h.nd.1.lt b e).1;omega⟩
 refine ⟨?_,fun g hg=>⟨by have:=(h.nd.1.lt g hg).1;omega,(h.nd.1.lt g hg).2⟩,h.tp.rel fun b hb ht=>hG b _ (by simp) hb ht⟩
 have hl:(s.nodes.map Mn.av).length=X.length:=by rw [aP,h.len]
 ·refine ⟨by decide,X.flatMap Vn.cells,?_,?_,?_⟩
  ·rw [hl];exact qz h.nd.1 (Nat.zero_le _)
  ·intro u hu
   obtain ⟨x,hx,hu⟩:=List.mem_flatMap.1 hu
   obtain ⟨i,hi,rfl⟩:=bU.1 hx
   have hi':i < s.nodes.length:=by rw [← h.len];exact hi
   have hlk:=h.lk i _ _ (List.getElem?_eq_getElem hi) (List.getElem?_eq_getElem hi')
   obtain ⟨hb,he⟩:=h.bd i _ _ (List.getElem?_eq_getElem hi) (List.getElem?_eq_getElem hi')
   obtain ⟨_,_,eb⟩:=lV hb.1
   obtain ⟨_,_,ee⟩:=lV he.1
   simp only [Vn.cells,List.mem_cons,List.not_mem_nil,or_false] at hu
   rcases hu with rfl | rfl | rfl | rfl | rfl | rfl | rfl | rfl | rfl
   ·rfl
   ·rfl
   ·rfl
   ·rfl
   ·exact hlk.one
   ·rw [eb];rfl
   ·rw [ee];rfl
   ·rfl
   ·rfl
  ·intro i j u hi hj hu
   rw [hl] at hi
   have hi':i < s.nodes.length:=by rw [← h.len];exact hi
   have hlk:=h.lk i _ _ (List.getElem?_eq_getElem hi) (List.getElem?_eq_getElem hi')
   obtain ⟨hb,he⟩:=h.bd i _ _ (List.getElem?_eq_getElem hi) (List.getElem?_eq_getElem hi')
   rw [vE X i j _ (List.getElem?_eq_getElem hi) hj] at hu
   have e2:(s.nodes.map Mn.av).getD i .un=(s.nodes[i]).av:=by simp [aK,List.getElem?_eq_getElem hi']
   rw [e2]
   have mA:=hlk.kind
   have hat:=hlk.at'
   have Zk:=hlk.text
   have hrt:=hlk.root
   have QF:=hlk.has
   have ua:Rel W G (s.nodes[i]).names (X[i]).nm:=hlk.nm.mono fun b hb hf=>⟨hF b hb hf,h.ext.block b hb⟩
   have rb:=hb.rel (G:=G) fun b hb ht=>hG b _ (by simp) (by omega) ht
   have re:=he.rel (G:=G) fun b hb ht=>hG b _ (by simp) (by omega) ht
   generalize s.nodes[i]=y at *
   generalize X[i]=x at *
   match j,hj,hu with
   | 0,_,hu=>cases hu;show Rel W G (.u8 y.kind) _;rw [← mA];exact .u8 _
   | 1,_,hu=>cases hu;show Rel W G (.int (y.at':aB)) _;rw [← hat];exact .int _
   | 2,_,hu=>cases hu;show Rel W G (.s y.text) _;rw [← Zk];exact .s _
   | 3,_,hu=>cases hu;show Rel W G (.b y.root) _;rw [← hrt];exact .b _
   | 4,_,hu=>cases hu;exact ua
   | 5,_,hu=>cases hu;exact rb
   | 6,_,hu=>cases hu;exact re
   | 7,_,hu=>cases hu;show Rel W G (.b y.has) _;rw [← QF];exact .b _
   | 8,_,hu=>cases hu;exact .u8 0
   | j+9,hj,_=>omega
end R3
namespace R3
open Go Go.Proofs Sx
variable {mx:aB}
def Zl (l:ai ae):ax→ay→ai Wd→Prop
 | a,_,[]=>a=l.length
 | a,pv,w :: ws=>w.at'=a∧∃ m,0 < m∧a+m≤l.length∧(w.kind=0→w.text=(l.drop a).take m∧pv=af)∧(w.kind≠0→w.text=[]∧5≤m∧((l.drop a).take m).take 2=xy∧((l.drop a).take m).drop (m - 2)=ur)∧Zl l (a+m) (w.kind == 0) ws
theorem M6 (r:ai ae) (h0:fR r=0) (hne:0 < r.length):r.take 2=xy:=by
 unfold fR at h0
 split at h0
 ·omega
 ·rename_i hn
  rcases eG r xy with ⟨h1,_⟩ | ⟨i,h1,h2,h3,_⟩
  ·omega
  ·obtain rfl:i=0:=by omega
   have:=(Lib.occAt_iff_take r xy 0 (by have:=gK r xy (by omega);have e:(xy.length:aB)=2:=rfl;have e':xy.length=2:=rfl;omega)).symm.trans h3
   simpa [xy] using eq_of_beq this
theorem Zl.len {l:ai ae}:∀ (ws:ai Wd) (a:ax) (pv:ay),Zl l a pv ws→a+ws.length≤l.length
 | [],a,pv,h=>by have h:a=l.length:=h;simp [h]
 | w :: ws,a,pv,h=>by
  obtain ⟨_,m,h1,h2,_,_,h5⟩:=h
  have:=Zl.len ws _ _ h5
  simp only [aA]
  omega
theorem JS (x:ai ae):gR .neq (.s x) (.s x)=aa (.b af):=by simp [gR,Kb]
theorem zb (l:ai ae) (a m:ax) (h:a+m≤l.length):nM (.s l) (aa (.int (a:aB))) (aa (.int ((a+m:ax):aB)))=aa (.s ((l.drop a).take m)):=by
 have e:l=l.take a ++ l.drop a:=(bM a l).symm
 have:=FI (l.take a) (l.drop a) m (by rw [bQ];omega)
 rw [← e] at this
 have hl:(l.take a).length=a:=by simp;omega
 rw [hl] at this
 exact this
noncomputable def uD (run:RunT) (a:aB) (b:ay) (d:AV) (e:ay) (f:AV):ak AV :=
 run ((eV 4 ((fD.body).getD .skip) []).getD []) (St.fj [(2,.cell (.ptr 2 0)),(3,.cell (.ptr 3 0)),(5,.cell (.val (.int a)))] [(2,aa [.val (.b b),.val (d)]),(3,aa [.val (.b e),.val (f)])])
noncomputable def VH (a:ay) (b:AV) (d:ay) (e:AV) (c:bj) (r:RunT):ak AV :=
 (bt (.b (a != d)) af ((kH b).bind fun f=>(kH e).bind fun g=>(cf .neq f g).bind fun i=>aa i) (.b aj)).bind fun j=>a8 j
 (aa (.b af))
 (uD r 0 a b d e)
theorem c26 (a b d e) {r:AV} (h:VH a b d e (aq (C mx) Tryz.prog) (a7 (C mx) Tryz.prog 26 fD)=aa r):aq (C mx) Tryz.prog 26 [.ag [.b a,b],.ag [.b d,e]]=aa r :=
 bc (fun _ _=>by kernel_rfl) h
noncomputable def wJ (a:aB) (b:ay) (d:AV) (e:ay) (f:AV) (c:bj) (r:RunT):ak AV :=
 (kH d).bind fun g=>(cf .lss (.int a) g).bind fun i=>a8 i
 ((idx 1 d (.int a)).bind fun j=>(idx 1 f (.int a)).bind fun k=>(gR .neq (AV.cell j 0) (AV.cell k 0)).bind fun l=>a8 l
 (aa (.b af))
 (uD r (eE (a+1)) b d e f))
 (aa (.b aj))
theorem AL (a b d e f) {r:AV} (h:wJ a b d e f (aq (C mx) Tryz.prog) (a7 (C mx) Tryz.prog 26 fD)=aa r):uD (a7 (C mx) Tryz.prog 26 fD) a b d e f=aa r :=
 bh (fun _ _=>by kernel_rfl) h
theorem abo (p:ai (ai ae)) (x:ai ae) (r:ai (ai ae)):idx 1 (.ro 1 ((p ++ x :: r).map .s)) (.int (p.length:aB))=aa (.s x):=by
 show (if 1=1 then (pN ((p ++ x :: r).map AV.s).length (.int (p.length:aB))).bind fun n=>aa (((p ++ x :: r).map AV.s).getD n .un) else ah)=_
 rw [aJ rfl,ln (by simp)]
 simp
theorem l31 (b:ay):∀ (r p:ai (ai ae)),(p ++ r).length≤1000000000→uD (a7 (C mx) Tryz.prog 26 fD) (p.length:aB) b (.ro 1 ((p ++ r).map .s)) b (.ro 1 ((p ++ r).map .s))=aa (.b aj)
 | [],p,h=>by
  apply AL
  have e:decide ((p.length:aB) < (((p ++ []).map AV.s).length:aB))=af:=by simp
  simp only [wJ,jN,cR,e,Option.bind_some,ba,Bool.false_eq_true,aH]
 | x :: r,p,h=>by
  apply AL
  have hl:p.length+(r.length+1)≤1000000000:=by simpa using h
  have ih:=l31 b r (p ++ [x]) (by simp;omega)
  have hw:eE ((p.length:aB)+1)=((p ++ [x]).length:aB):=by rw [gh (by omega) (by omega)];simp
  have e1:p ++ x :: r=(p ++ [x]) ++ r:=by simp
  have hlt:decide ((p.length:aB) < (((p ++ x :: r).map AV.s).length:aB))=aj:=by rw [aG];simp;omega
  have hc:AV.cell (.s x) 0=.s x:=rfl
  simp only [wJ,jN,cR,hlt,abo,hc,JS,Option.bind_some,ba,Bool.false_eq_true,aH,aO,hw]
  rw [e1]
  exact ih
theorem s26 (b:ay) (v:AV) (h:abi v):aq (C mx) Tryz.prog 26 [.ag [.b b,v],.ag [.b b,v]]=aa (.b aj):=by
 apply c26
 have hb:(b != b)=af:=by simp
 rcases h with rfl | ⟨l,rfl,hl⟩
 ·have e0:kH .cd=aa (.int 0):=rfl
  simp only [VH,hb,e0,j3,cz,Option.bind_some,cy,Bool.or_false,ba,Bool.false_eq_true,aH]
  apply AL
  simp only [wJ,e0,cR,Option.bind_some]
  rfl
 ·simp only [VH,hb,jN,j3,cz,Option.bind_some,cy,Bool.or_false,ba,Bool.false_eq_true,aH]
  exact l31 (mx:=mx) b l [] (by simpa using hl)
theorem AO (b:ae) (n:ax) (l:ai ae):gj b (dE n b ++ l)=gj b l:=by
 unfold gj
 induction n with
 | zero=>rfl
 | succ n ih=>rw [List.replicate_succ,List.cons_append,bR];simpa using ih
theorem JT (b:ae) (n:ax) (l:ai ae):gC b (l ++ dE n b)=gC b l:=by
 unfold gC
 rw [eU,List.reverse_replicate]
 have:=AO b n l.reverse
 unfold gj at this
 rw [this]
theorem AP (b:ae) (p l:ai ae):gC b (p ++ l)=if gC b l=[] then gC b p else p ++ gC b l:=by
 unfold gC
 rw [eU,List.dropWhile_append]
 cases h:List.dropWhile (· == b) l.reverse with
 | nil=>simp
 | cons x r=>simp
noncomputable def M7:Code:=(Tryz.f64.body).getD .skip
noncomputable def Il (run:RunT) (a:AV):ak AV :=
 run ((eV 1 M7 []).getD []) (St.fj [(0,.cell (.val a))] [])
noncomputable def Im (run:RunT) (a:AV):ak AV :=
 run ((eV 3 M7 []).getD []) (St.fj [(0,.cell (.val a))] [])
noncomputable def X64 (a:ai ae) (c:bj) (r:RunT):ak AV :=
 Il r (.s a)
theorem c64 a {r:AV} (h:X64 a (aq (C mx) Tryz.prog) (a7 (C mx) Tryz.prog 64 Tryz.f64)=aa r):aq (C mx) Tryz.prog 64 [.s a]=aa r :=
 bc (fun _ _=>by kernel_rfl) h
noncomputable def RH (a:AV) (c:bj) (r:RunT):ak AV :=
 (om a).bind fun b=>(cf .gtr b (.int 0)).bind fun d=>(bt d aj ((jU a (.int 0)).bind fun e=>(cf .eql e (.u8 32)).bind fun f=>aa f) (.b af)).bind fun g=>a8 g
 ((nM a (aa (.int 1)) ah).bind fun i=>Il r i)
 (Im r a)
noncomputable def RI (a:AV) (c:bj) (r:RunT):ak AV :=
 (om a).bind fun b=>(cf .gtr b (.int 0)).bind fun d=>(bt d aj ((om a).bind fun e=>(cf .sub e (.int 1)).bind fun f=>(jU a f).bind fun g=>(cf .eql g (.u8 32)).bind fun i=>aa i) (.b af)).bind fun j=>a8 j
 ((om a).bind fun k=>(cf .sub k (.int 1)).bind fun l=>(nM a ah (aa l)).bind fun m=>Im r m)
 (aa a)
theorem RJ a {r:AV} (h:RH a (aq (C mx) Tryz.prog) (a7 (C mx) Tryz.prog 64 Tryz.f64)=aa r):Il (a7 (C mx) Tryz.prog 64 Tryz.f64) a=aa r :=
 bh (fun _ _=>by kernel_rfl) h
theorem RL a {r:AV} (h:RI a (aq (C mx) Tryz.prog) (a7 (C mx) Tryz.prog 64 Tryz.f64)=aa r):Im (a7 (C mx) Tryz.prog 64 Tryz.f64) a=aa r :=
 bh (fun _ _=>by kernel_rfl) h
noncomputable def X65 (a b:ai ae) (c:bj) (r:RunT):ak AV :=
 (bt (.b (decide (((a.length:aB)) > ((b.length:aB))))) aj ((nM (.s a) ah (aa (.int ((b.length:aB))))).bind fun d=>(gR .eql d (.s b)).bind fun e=>aa e) (.b af)).bind fun f=>(bt f aj ((jU (.s a) (.int ((b.length:aB)))).bind fun g=>(cf .eql g (.u8 32)).bind fun i=>aa i) (.b af)).bind fun j=>aa j
theorem c65 (a b) {r:AV} (h:X65 a b (aq (C mx) Tryz.prog) (a7 (C mx) Tryz.prog 65 Tryz.f65)=aa r):aq (C mx) Tryz.prog 65 [.s a,.s b]=aa r :=
 bc (fun _ _=>by kernel_rfl) h
noncomputable def X52 (a:ai ae) (b:aB) (d:ai ae) (c:bj) (r:RunT):ak AV :=
 (bt (.b (decide (b ≥ 0))) aj (aa (.b (decide ((eE (((a.length:aB)) - b)) ≥ ((d.length:aB)))))) (.b af)).bind fun e=>(bt e aj ((nM (.s a) (aa (.int b)) (aa (.int (eE (b+((d.length:aB))))))).bind fun f=>(gR .eql f (.s d)).bind fun g=>aa g) (.b af)).bind fun i=>aa i
theorem c52 (a b d) {r:AV} (h:X52 a b d (aq (C mx) Tryz.prog) (a7 (C mx) Tryz.prog 52 Tryz.f52)=aa r):aq (C mx) Tryz.prog 52 [.s a,.int b,.s d]=aa r :=
 bc (fun _ _=>by kernel_rfl) h
noncomputable def Eo (run:RunT) (a:ai ae) (b:aB):ak AV :=
 run ((eV 4 ((gL.body).getD .skip) []).getD []) (St.fj [(0,.cell (.val (.s a))),(3,.cell (.val (.int b)))] [])
noncomputable def X76 (a:ai ae) (c:bj) (r:RunT):ak AV :=
 (bt (.b (((a.length:aB)) == 0)) af (aa (.b (decide (((a.length:aB)) > 32)))) (.b aj)).bind fun b=>(bt b af ((jU (.s a) (.int 0)).bind fun d=>(cf .lss d (.u8 97)).bind fun e=>aa e) (.b aj)).bind fun f=>(bt f af ((jU (.s a) (.int 0)).bind fun g=>(cf .gtr g (.u8 122)).bind fun i=>aa i) (.b aj)).bind fun j=>a8 j
 (aa (.b af))
 (Eo r a 0)
theorem c76 a {r:AV} (h:X76 a (aq (C mx) Tryz.prog) (a7 (C mx) Tryz.prog 76 gL)=aa r):aq (C mx) Tryz.prog 76 [.s a]=aa r :=
 bc (fun _ _=>by kernel_rfl) h
noncomputable def M8 (a:ai ae) (b:aB) (c:bj) (r:RunT):ak AV :=
 a8 (.b (decide (b < ((a.length:aB)))))
 ((jU (.s a) (.int b)).bind fun d=>(cf .geq d (.u8 97)).bind fun e=>(bt e aj ((cf .leq d (.u8 122)).bind fun f=>aa f) (.b af)).bind fun g=>(bt g af ((cf .geq d (.u8 48)).bind fun i=>(bt i aj ((cf .leq d (.u8 57)).bind fun j=>aa j) (.b af)).bind fun k=>aa k) (.b aj)).bind fun l=>(bt l af ((cf .eql d (.u8 95)).bind fun m=>aa m) (.b aj)).bind fun n=>(unop .not n).bind fun o=>a8 o
 (aa (.b af))
 (Eo r a (eE (b+1))))
 (aa (.b aj))
theorem RM (a b) {r:AV} (h:M8 a b (aq (C mx) Tryz.prog) (a7 (C mx) Tryz.prog 76 gL)=aa r):Eo (a7 (C mx) Tryz.prog 76 gL) a b=aa r :=
 bh (fun _ _=>by kernel_rfl) h
theorem tz (b:ae):∀ (l:ai ae),∃ n,l=dE n b ++ gj b l∧(gj b l=[]∨∃ x r,gj b l=x :: r∧(x == b)=af)
 | []=>⟨0,rfl,Or.inl rfl⟩
 | x :: r=>by
  obtain ⟨n,h1,h2⟩:=tz b r
  cases hx:(x == b) with
  | true =>
   have e:gj b (x :: r)=gj b r:=by unfold gj;rw [bR,aJ hx]
   rw [e]
   have rJ:x=b:=by simpa using hx
   subst rJ
   exact ⟨n+1,by rw [List.replicate_succ,List.cons_append,← h1],h2⟩
  | false =>
   have e:gj b (x :: r)=x :: r:=by unfold gj;rw [bR,aI (by rw [hx];decide)]
   rw [e]
   exact ⟨0,rfl,Or.inr ⟨x,r,rfl,hx⟩⟩
theorem JU (b:ae) (l:ai ae):∃ t,l=gC b l ++ t:=by
 refine ⟨(l.reverse.takeWhile (· == b)).reverse,?_⟩
 unfold gC
 rw [← eU,List.takeWhile_append_dropWhile,jc]
theorem Ga (b:ae) (n:ax):gC b (dE n b)=[]:=by
 have:=JT b n []
 simpa [gC] using this
theorem AQ (b:ae) (l:ai ae):gC b (gj b l)=gj b (gC b l):=by
 obtain ⟨n,h1,h2⟩:=tz b l
 generalize hm:gj b l=m at h1 h2
 rw [h1,AP]
 split
 ·rename_i h
  rw [h,Ga];rfl
 ·rename_i h
  rw [AO]
  rcases h2 with rfl | ⟨x,r,rfl,hx⟩
  ·exact absurd rfl h
  ·obtain ⟨t,ht⟩:=JU b (x :: r)
   cases hd:gC b (x :: r) with
   | nil=>exact absurd hd h
   | cons y q =>
    rw [hd] at ht
    have:x=y:=(List.cons.inj ht).1
    subst this
    unfold gj
    rw [bR,aI (by rw [hx];decide)]
theorem M9:∀ (n:ax) (l:ai ae),l.length=n→n≤1000000000→Im (a7 (C mx) Tryz.prog 64 Tryz.f64) (.s l)=aa (.s (gC 32 l))
 | 0,l,hn,h=>by
  obtain rfl:=List.eq_nil_of_length_eq_zero hn
  apply RL
  rfl
 | n+1,l,hn,h=>by
  apply RL
  obtain ⟨p,x,rfl⟩:∃ p x,l=p ++ [x]:=by
   rcases dG l with e | ⟨p,x,e⟩
   ·rw [e] at hn;cases hn
   ·exact ⟨p,x,by simpa using e⟩
  have hp:p.length=n:=by simpa using hn
  have ih:=M9 n p hp (by omega)
  have hl:(p ++ [x]).length=p.length+1:=by simp
  have qa:cf .sub (.int ((p.length+1:ax):aB)) (.int 1)=aa (.int (p.length:aB)):=by
   show aa (AV.int (eE _))=_
   rw [gh (by omega) (by omega)];congr 2;omega
  have hi:jU (.s (p ++ [x])) (.int (p.length:aB))=aa (.u8 x):=nX p x []
  have hs:nM (.s (p ++ [x])) ah (aa (.int (p.length:aB)))=aa (.s p):=by
   rw [sS (by simp)];simp
  simp only [RI,qE,hl,Y',qa,hi,hs,Option.bind_some,hZ,b9,Bool.true_and,ba]
  unfold gC
  rw [eU,List.reverse_singleton,List.singleton_append,bR]
  cases hx:(x == (32:ae)) with
  | true=>simp only [aO];exact ih
  | false=>simp only [Bool.false_eq_true,aH];simp
theorem RN:∀ (l:ai ae),l.length≤1000000000→Il (a7 (C mx) Tryz.prog 64 Tryz.f64) (.s l)=aa (.s (gC 32 (gj 32 l)))
 | [],_=>by
  apply RJ
  have:=M9 (mx:=mx) 0 [] rfl (by omega)
  exact this
 | x :: r,h=>by
  apply RJ
  have ih:=RN r (by simp at h;omega)
  have hi:jU (.s (x :: r)) (.int 0)=aa (.u8 x):=lM (i:=0) (l:=x :: r) (by simp)
  have hs:nM (.s (x :: r)) (aa (.int 1)) ah=aa (.s r):=sT (l:=x :: r) (i:=1) (by simp)
  simp only [RH,qE,aA,Y',hi,hs,Option.bind_some,hZ,b9,Bool.true_and,ba]
  unfold gj
  rw [bR]
  cases hx:(x == (32:ae)) with
  | true=>simp only [aO];exact ih
  | false=>simp only [Bool.false_eq_true,aH];exact M9 (mx:=mx) _ (x :: r) rfl h
theorem s64 (l:ai ae) (h:l.length≤1000000000):aq (C mx) Tryz.prog 64 [.s l]=aa (.s (qF l)):=by
 apply c64
 have:=RN (mx:=mx) l h
 rw [AQ] at this
 exact this
theorem QG (p l:ai ae):pre p l=p.isPrefixOf l:=by
 rw [Bool.eq_iff_iff,List.isPrefixOf_iff_prefix]
 unfold pre
 simp only [Bool.and_eq_true,aG,bK]
 constructor
 ·rintro ⟨_,h⟩
  have e:l.take p.length ++ l.drop p.length=l:=bM _ _
  rw [h] at e
  exact ⟨l.drop p.length,e⟩
 ·rintro ⟨t,rfl⟩
  exact ⟨by simp,by simp⟩
theorem s65 (l p:ai ae) (hl:l.length≤1000000000):aq (C mx) Tryz.prog 65 [.s l,.s p]=aa (.b (pre (p ++ [32]) l)):=by
 apply c65
 by_cases h:p.length < l.length
 ·have hd:decide ((l.length:aB) > (p.length:aB))=aj:=by rw [aG];omega
  have hs:nM (.s l) ah (aa (.int (p.length:aB)))=aa (.s (l.take p.length)):=sS (by omega)
  have hi:jU (.s l) (.int (p.length:aB))=aa (.u8 l[p.length]):=lM h
  simp only [X65,hd,hs,hi,ud,hZ,b9,Option.bind_some,Bool.true_and]
  congr 2
  unfold pre
  have h1:decide ((p ++ [32]).length≤l.length)=aj:=by rw [aG];simp;omega
  have h2:l.take (p ++ [32]).length=l.take p.length ++ [l[p.length]]:=by
   rw [au,List.length_singleton,List.take_succ_eq_append_getElem h]
  rw [h1,h2,Bool.true_and,Bool.eq_iff_iff,Bool.and_eq_true,bK,bK,bK]
  constructor
  ·rintro ⟨h3,h4⟩;rw [h3,h4]
  ·intro h3
   have h5:=List.append_inj' h3 rfl
   exact ⟨h5.1,by simpa using h5.2⟩
 ·have hd:decide ((l.length:aB) > (p.length:aB))=af:=by rw [aQ];omega
  have hp:pre (p ++ [32]) l=af:=by
   unfold pre
   have:decide ((p ++ [32]).length≤l.length)=af:=by rw [aQ];simp;omega
   rw [this,dn]
  rw [hp]
  simp only [X65,hd]
  rfl
theorem Zm (l p:ai ae) (k:ax) (hl:l.length≤1000000000) (hk:k≤l.length) (hp:p.length≤1000000000):aq (C mx) Tryz.prog 52 [.s l,.int (k:aB),.s p]=aa (.b (dB l p k)):=by
 apply c52
 have h0:decide ((k:aB) ≥ 0)=aj:=by rw [aG];omega
 have hw:eE ((l.length:aB) - (k:aB))=((l.length - k:ax):aB):=by rw [gh (by omega) (by omega)];omega
 have ho:dB l p k=pre p (l.drop k):=by rw [QG];rfl
 rw [ho]
 unfold pre
 rw [bQ]
 by_cases h:p.length≤l.length - k
 ·have hd:decide (((l.length - k:ax):aB) ≥ (p.length:aB))=aj:=by rw [aG];omega
  have tG:decide (p.length≤l.length - k)=aj:=by rw [aG];exact h
  have hw2:eE ((k:aB)+(p.length:aB))=((k+p.length:ax):aB):=by rw [gh (by omega) (by omega)];omega
  have hs:=zb l k p.length (by omega)
  simp only [X52,h0,hw,hd,tG,hw2,hs,ud,b9,Option.bind_some,Bool.true_and]
 ·have hd:decide (((l.length - k:ax):aB) ≥ (p.length:aB))=af:=by rw [aQ];omega
  have tG:decide (p.length≤l.length - k)=af:=by rw [aQ];exact h
  simp only [X52,h0,hw,hd,tG,b9,Option.bind_some,Bool.true_and,dn]
  rfl
theorem l30 (l:ai ae) (hl:l.length≤32):∀ (r p:ai ae),l=p ++ r→Eo (a7 (C mx) Tryz.prog 76 gL) l (p.length:aB)=aa (.b (r.all (EC 1)))
 | [],p,e=>by
  apply RM
  have hd:decide ((p.length:aB) < (l.length:aB))=af:=by rw [e];simp
  simp only [M8,hd,ba,Bool.false_eq_true,aH]
  rfl
 | c :: r,p,e=>by
  apply RM
  have ih:=l30 l hl r (p ++ [c]) (by rw [e];simp)
  have hle:p.length+(r.length+1)≤32:=by rw [e] at hl;simpa using hl
  have hd:decide ((p.length:aB) < (l.length:aB))=aj:=by rw [aG,e];simp;omega
  have hi:jU (.s l) (.int (p.length:aB))=aa (.u8 c):=by rw [e];exact nX p c r
  have hw:eE ((p.length:aB)+1)=((p ++ [c]).length:aB):=by rw [gh (by omega) (by omega)];simp
  simp only [M8,hd,hi,hw,Bu,Bt,hZ,b9,cy,et,Option.bind_some,ba,aO]
  rw [dW]
  have eo:EC 1 c=(((decide (97≤c) && decide (c≤122)) || (decide (48≤c) && decide (c≤57))) || c == 95):=by
   unfold EC
   rw [show ((1:ax) == 0)=af from rfl,fE,Bool.true_and,Bool.or_assoc]
  rw [← eo]
  cases ho:EC 1 c with
  | true=>simp only [df,Bool.false_eq_true,aH,Bool.true_and];exact ih
  | false=>simp only [fE,aO,dn]
theorem ze:∀ (l:ai ae) (i:ax),lz (i+1) l=l.all (EC 1)
 | [],i=>rfl
 | b :: r,i=>by
  rw [lz,ze r (i+1),dW]
  congr 1
theorem abp (b:ae):EC 0 b=(decide (97≤b) && decide (b≤122)):=by
 unfold EC
 simp
theorem s76 (l:ai ae) (hl:l.length≤1000000000):aq (C mx) Tryz.prog 76 [.s l]=aa (.b (ld l)):=by
 apply c76
 cases l with
 | nil=>rfl
 | cons b r =>
  have hi:jU (.s (b :: r)) (.int 0)=aa (.u8 b):=lM (i:=0) (l:=b :: r) (by simp)
  have h0:(((b :: r).length:aB) == 0)=af:=by rw [beq_eq_false_iff_ne];simp;omega
  unfold ld
  have e1:decide (1≤(b :: r).length)=aj:=by rw [aG];simp
  rw [lz,ze,abp,e1,Bool.true_and]
  simp only [X76,hi,h0,K2,K3,cy,Option.bind_some,ba,Bool.false_or]
  have hlt:decide (b < 97)=!decide (97≤b):=by
   rw [Bool.eq_iff_iff];simp
  have zX:decide (122 < b)=!decide (b≤122):=by
   rw [Bool.eq_iff_iff];simp
  have hln:decide (((b :: r).length:aB) > 32)=!decide ((b :: r).length≤32):=by
   rw [Bool.eq_iff_iff];simp <;> omega
  rw [hlt,zX,hln]
  by_cases N9:(b :: r).length≤32
  ·have ih:=l30 (mx:=mx) (b :: r) N9 (b :: r) [] rfl
   rw [dW] at ih
   have ih:Eo (a7 (C mx) Tryz.prog 76 gL) (b :: r) 0=aa (.b (EC 1 b && r.all (EC 1))):=ih
   rw [ih]
   have:decide ((b :: r).length≤32)=aj:=by rw [aG];exact N9
   rw [this]
   have ho:EC 1 b=((decide (97≤b) && decide (b≤122)) || (!((1:ax) == 0) && ((decide (48≤b) && decide (b≤57)) || b == 95))):=rfl
   rw [ho]
   cases decide (97≤b) <;> cases decide (b≤122) <;> simp
  ·have:decide ((b :: r).length≤32)=af:=by rw [aQ];exact N9
   rw [this]
   simp
noncomputable def Gb:Code:=(ed.body).getD .skip
noncomputable def Io (run:RunT) (a:AV) (b:ay) (d:AV) (e:ay) (f:ai AV):ak AV :=
 run ((eV 9 Gb []).getD []) (St.fj [(0,.cell (.val a)),(2,.cell (.ptr 2 0)),(4,.cell (.ptr 4 0))] [(2,aa [.val (.b b),.val (d)]),(4,aa [.val (.b e),.own 604001 9 1 f])])
noncomputable def zf (run:RunT) (a:AV) (b d:aB) (e:ay) (f:AV) (g:ay) (i:ai AV):ak AV :=
 run ((eV 11 Gb []).getD []) (St.fj [(0,.cell (.val a)),(2,.cell (.ptr 2 0)),(4,.cell (.ptr 4 0)),(5,.cell (.val (.int b))),(6,.cell (.val (.int d)))] [(2,aa [.val (.b e),.val (f)]),(4,aa [.val (.b g),.own 604001 9 1 i])])
noncomputable def Gc (run:RunT) (a:AV) (b d:aB) (e:ay) (f:AV) (g:ay) (i:ai AV):ak AV :=
 run ((eV 12 Gb []).getD []) (St.fj [(0,.cell (.val a)),(2,.cell (.ptr 2 0)),(4,.cell (.ptr 4 0)),(5,.cell (.val (.int b))),(6,.cell (.val (.int d)))] [(2,aa [.val (.b e),.val (f)]),(4,aa [.val (.b g),.own 604001 9 1 i])])
noncomputable def Zn (a:ai ae) (c:bj) (r:RunT):ak AV :=
 a8 (.b (a == [46]))
 (aa (.tu [.ag [.b af,.cd],.b aj]))
 (a8 (.b (a == [36]))
 (aa (.tu [.ag [.b aj,.cd],.b aj]))
 ((bt (.b (decide (((a.length:aB)) ≥ 2))) aj ((jU (.s a) (.int 0)).bind fun b=>(cf .eql b (.u8 36)).bind fun d=>aa d) (.b af)).bind fun e=>(bt e aj ((jU (.s a) (.int 1)).bind fun f=>(cf .eql f (.u8 46)).bind fun g=>aa g) (.b af)).bind fun i=>a8 i
 ((nM (.s a) (aa (.int 2)) ah).bind fun j=>Io r j af (.cd) aj [])
 (Io r (.s a) af (.cd) af [])))
theorem c66 a {r:AV} (h:Zn a (aq (C mx) Tryz.prog) (a7 (C mx) Tryz.prog 66 ed)=aa r):aq (C mx) Tryz.prog 66 [.s a]=aa r :=
 bc (fun _ _=>by kernel_rfl) h
noncomputable def Ys (a:AV) (b:ay) (d:AV) (e:ay) (f:ai AV) (c:bj) (r:RunT):ak AV :=
 zf r a 0 0 b d e f
noncomputable def zg (a:AV) (b d:aB) (e:ay) (f:AV) (g:ay) (i:ai AV) (c:bj) (r:RunT):ak AV :=
 (om a).bind fun j=>(cf .leq (.int d) j).bind fun k=>a8 k
 ((om a).bind fun l=>(cf .lss (.int d) l).bind fun m=>(bt m aj ((jU a (.int d)).bind fun n=>(cf .neq n (.u8 46)).bind fun o=>aa o) (.b af)).bind fun p=>a8 p
 (Gc r a b d e f g i)
 ((nM a (aa (.int b)) (aa (.int d))).bind fun q=>(c 76 [q]).bind fun s=>(unop .not s).bind fun t=>(bt t af (aa (.b (decide (((i.length:aB)) ≥ 8)))) (.b aj)).bind fun u=>a8 u
 (aa (.tu [.ag [.b af,.cd],.b af]))
 ((nM a (aa (.int b)) (aa (.int d))).bind fun w=>(AV.one w).bind fun x=>(app 16 1 i (.ro 1 (([x]:ai AV)))).bind fun y=>Gc r a (eE (d+1)) d e f g y)))
 (aa (.tu [.ag [.b g,.ro 1 i],.b aj]))
noncomputable def CK (a:AV) (b d:aB) (e:ay) (f:AV) (g:ay) (i:ai AV) (c:bj) (r:RunT):ak AV :=
 zf r a b (eE (d+1)) e f g i
theorem Yt (a b d e f) {r:AV} (h:Ys a b d e f (aq (C mx) Tryz.prog) (a7 (C mx) Tryz.prog 66 ed)=aa r):Io (a7 (C mx) Tryz.prog 66 ed) a b d e f=aa r :=
 bh (fun _ _=>by kernel_rfl) h
theorem Gd (a b d e f g i) {r:AV} (h:zg a b d e f g i (aq (C mx) Tryz.prog) (a7 (C mx) Tryz.prog 66 ed)=aa r):zf (a7 (C mx) Tryz.prog 66 ed) a b d e f g i=aa r :=
 bh (fun _ _=>by kernel_rfl) h
theorem Ge (a b d e f g i) {r:AV} (h:CK a b d e f g i (aq (C mx) Tryz.prog) (a7 (C mx) Tryz.prog 66 ed)=aa r):Gc (a7 (C mx) Tryz.prog 66 ed) a b d e f g i=aa r :=
 bh (fun _ _=>by kernel_rfl) h
def CL:AV:=.tu [.ag [.b af,.cd],.b af]
def CM (b:ay) (acc Ep:ai (ai ae)):AV :=
 if Ep.all ld && decide (acc.length+Ep.length≤8) then .tu [.ag [.b b,.ro 1 ((acc ++ Ep).map .s)],.b aj] else CL
theorem AR (b:ay) (acc:ai (ai ae)) (x:ai ae) (t:ai (ai ae)):CM b acc (x :: t)=if !ld x || decide ((acc.length:aB) ≥ 8) then CL else CM b (acc ++ [x]) t:=by
 unfold CM
 rw [dW]
 cases hx:ld x with
 | false=>simp
 | true =>
  by_cases h8:8≤acc.length
  ·have h1:decide ((acc.length:aB) ≥ 8)=aj:=by rw [aG];omega
   have h2:decide (acc.length+(x :: t).length≤8)=af:=by rw [aQ];simp;omega
   rw [h1,h2];simp
  ·have h1:decide ((acc.length:aB) ≥ 8)=af:=by rw [aQ];omega
   have h2:(acc ++ [x]).length+t.length=acc.length+(x :: t).length:=by simp;omega
   rw [h1,h2];simp
theorem RO (acc:ai (ai ae)) (x:ai ae) (h:acc.length≤100):app 16 1 (acc.map .s) (.ro 1 ([.s x]:ai AV))=aa ((acc ++ [x]).map .s):=by
 have hb:big=70368744177664:=rfl
 show ((if 1=1 then aa [AV.s x] else ah).bind fun q=>if ((acc.map AV.s).length+q.length) * 16≤big then aa (acc.map AV.s ++ q) else ah)=_
 rw [aJ rfl]
 simp only [Option.bind_some,aP,aA,List.length_nil,hb]
 rw [aJ (by omega),dM];rfl
theorem QH (l:ai ae) (hl:l.length≤1000000000) (b:ay) (acc:ai (ai ae)) (i j:aB) (hj:(l.length:aB) < j) (h8:acc.length≤8) :
  zf (a7 (C mx) Tryz.prog 66 ed) (.s l) i j af .cd b (acc.map .s)=aa (CM b acc []):=by
 apply Gd
 have hd:decide (j≤(l.length:aB))=af:=by rw [aQ];omega
 simp only [zg,qE,ra,hd,Option.bind_some,ba,Bool.false_eq_true,aH]
 unfold CM
 have:decide (acc.length+([]:ai (ai ae)).length≤8)=aj:=by rw [aG];simpa using h8
 rw [this,List.append_nil]
 rfl
theorem Vv (l:ai ae) (hl:l.length≤1000000000) (b:ay):∀ (r p cur:ai ae) (acc:ai (ai ae)) (h:ai ae) (t:ai (ai ae)),l=p ++ (cur ++ r)→gi r=h :: t→acc.length≤8 →
  zf (a7 (C mx) Tryz.prog 66 ed) (.s l) (p.length:aB) ((p.length+cur.length:ax):aB) af .cd b (acc.map .s)=aa (CM b acc ((cur ++ h) :: t))
 | [],p,cur,acc,h,t,e,hs,h8=>by
  cases hs
  apply Gd
  have el:l.length=p.length+cur.length:=by rw [e];simp
  have hd:decide (((p.length+cur.length:ax):aB)≤(l.length:aB))=aj:=by rw [aG];omega
  have Zo:decide (((p.length+cur.length:ax):aB) < (l.length:aB))=af:=by rw [aQ];omega
  have Jw:=zb l p.length cur.length (by omega)
  have UQ:(l.drop p.length).take cur.length=cur:=by rw [e,ic,List.append_nil,List.take_length]
  rw [UQ] at Jw
  have hn:=s76 (mx:=mx) cur (by omega)
  simp only [zg,qE,ra,cR,hd,Zo,Jw,hn,mI,et,Option.bind_some,ba,aO,lL,Bool.false_eq_true,aH,cy,aP]
  rw [List.append_nil,AR]
  cases hc:(!ld cur || decide ((acc.length:aB) ≥ 8)) with
  | true=>simp only [aO];rfl
  | false =>
   simp only [Bool.false_eq_true,aH]
   have h7:acc.length < 8:=by
    simp only [Bool.or_eq_false_iff,aQ] at hc
    omega
   simp only [RO acc cur (by omega),Option.bind_some]
   apply Ge
   have hw:eE (((p.length+cur.length:ax):aB)+1)=((p.length+cur.length+1:ax):aB):=by rw [gh (by omega) (by omega)];omega
   simp only [CK,hw]
   exact QH l hl b (acc ++ [cur]) _ _ (by omega) (by simp;omega)
 | c :: r,p,cur,acc,h,t,e,hs,h8=>by
  apply Gd
  have el:l.length=p.length+(cur.length+(r.length+1)):=by rw [e];simp
  have hd:decide (((p.length+cur.length:ax):aB)≤(l.length:aB))=aj:=by rw [aG];omega
  have Zo:decide (((p.length+cur.length:ax):aB) < (l.length:aB))=aj:=by rw [aG];omega
  have hi:jU (.s l) (.int ((p.length+cur.length:ax):aB))=aa (.u8 c):=by
   have:=nX (p ++ cur) c r
   rw [au,List.append_assoc,← e] at this
   exact this
  have hw:eE (((p.length+cur.length:ax):aB)+1)=((p.length+cur.length+1:ax):aB):=by rw [gh (by omega) (by omega)];omega
  obtain ⟨h',t',hs'⟩:=qA r
  rw [rq] at hs
  cases hc:(c == 46) with
  | true =>
   rw [hc,aJ rfl] at hs
   cases hs
   have hne:(c != 46)=af:=by rw [bne,hc];rfl
   have Jw:=zb l p.length cur.length (by omega)
   have UQ:(l.drop p.length).take cur.length=cur:=by rw [e,ic,List.take_left]
   rw [UQ] at Jw
   have hn:=s76 (mx:=mx) cur (by omega)
   simp only [zg,qE,ra,cR,hd,Zo,hi,Br,hne,Jw,hn,mI,et,Option.bind_some,ba,aO,b9,Bool.true_and,Bool.false_eq_true,aH,cy,aP]
   rw [List.append_nil,AR]
   cases hc:(!ld cur || decide ((acc.length:aB) ≥ 8)) with
   | true=>simp only [aO];rfl
   | false =>
    simp only [Bool.false_eq_true,aH]
    have h7:acc.length < 8:=by
     simp only [Bool.or_eq_false_iff,aQ] at hc
     omega
    simp only [RO acc cur (by omega),Option.bind_some]
    apply Ge
    simp only [CK,hw]
    have abT:c=46:=by simpa using ‹(c == 46)=aj›
    have ih:=Vv l hl b r (p ++ (cur ++ [c])) [] (acc ++ [cur]) h' t' (by rw [e];simp) hs' (by simp;omega)
    have e1:(p ++ (cur ++ [c])).length=p.length+cur.length+1:=by simp;omega
    rw [e1,List.nil_append] at ih
    rw [hs']
    exact ih
  | false =>
   rw [hc,aI (by decide),hs'] at hs
   cases hs
   have hne:(c != 46)=aj:=by rw [bne,hc];rfl
   simp only [zg,qE,ra,cR,hd,Zo,hi,Br,hne,Option.bind_some,ba,aO,b9,Bool.true_and]
   apply Ge
   simp only [CK,hw]
   have ih:=Vv l hl b r p (cur ++ [c]) acc h' t (by rw [e];simp) hs' h8
   have e1:p.length+(cur ++ [c]).length=p.length+cur.length+1:=by simp;omega
   rw [e1,List.append_assoc] at ih
   exact ih
theorem Er (b:ay) (Ep:ai (ai ae)):CM b [] Ep=if Ep.all ld && decide (Ep.length≤8) then .tu [.ag [.b b,.ro 1 (Ep.map .s)],.b aj] else CL:=by
 unfold CM
 simp
theorem Ip (l:ai ae) (hl:l.length≤1000000000) (b:ay):Io (a7 (C mx) Tryz.prog 66 ed) (.s l) af .cd b []=aa (CM b [] (gi l)):=by
 apply Yt
 obtain ⟨h,t,hs⟩:=qA l
 have:=Vv (mx:=mx) l hl b l [] [] [] h t rfl hs (by simp)
 rw [hs]
 exact this
theorem s66 (l:ai ae) (hl:l.length≤1000000000):aq (C mx) Tryz.prog 66 [.s l]=aa (yw l):=by
 apply c66
 unfold yw
 cases h1:(l == [46]) with
 | true=>simp only [Zn,h1,ba,aO]
 | false =>
  cases h2:(l == [36]) with
  | true=>simp only [Zn,h1,h2,ba,aO,Bool.false_eq_true,aH]
  | false =>
   have abq:((bt (.b (decide ((l.length:aB) ≥ 2))) aj ((jU (.s l) (.int 0)).bind fun v1=>(cf .eql v1 (.u8 36)).bind fun v2=>aa v2) (.b af)).bind fun v3=>(bt v3 aj ((jU (.s l) (.int 1)).bind fun v4=>(cf .eql v4 (.u8 46)).bind fun v5=>aa v5) (.b af)))=aa (.b (jt l)):=by
    match l with
    | []=>rfl
    | [a]=>rfl
    | a :: b :: r =>
     have hd:decide ((((a :: b :: r).length:ax):aB) ≥ 2)=aj:=by rw [aG];simp;omega
     have i0:jU (.s (a :: b :: r)) (.int 0)=aa (.u8 a):=lM (i:=0) (l:=a :: b :: r) (by simp)
     have i1:jU (.s (a :: b :: r)) (.int 1)=aa (.u8 b):=lM (i:=1) (l:=a :: b :: r) (by simp)
     have hdd:jt (a :: b :: r)=(a == 36 && b == 46):=by
      unfold jt
      have:decide (2≤(a :: b :: r).length)=aj:=by rw [aG];simp
      rw [this,Bool.true_and,Bool.eq_iff_iff]
      simp
     rw [hdd]
     simp only [hd,i0,i1,hZ,b9,Option.bind_some,Bool.true_and]
   simp only [Zn,h1,h2,ba,Bool.false_eq_true,aH]
   rw [← Option.bind_assoc,abq]
   simp only [Option.bind_some,ba]
   cases hd:jt l with
   | true =>
    have hlen:2≤l.length:=by
     unfold jt at hd
     simp only [Bool.and_eq_true,aG] at hd
     exact hd.1
    have hs:nM (.s l) (aa (.int 2)) ah=aa (.s (l.drop 2)):=sT (i:=2) hlen
    simp only [hs,Option.bind_some,aO]
    rw [Ip _ (by simp;omega),Er]
    rfl
   | false =>
    simp only [Bool.false_eq_true,aH]
    rw [Ip l hl,Er]
    rfl
noncomputable def Gf:Code:=(eH.body).getD .skip
noncomputable def Gg (run:RunT) (a:ae) (b:aB) (d:ai ae) (e:ay) (f:AV):ak AV :=
 run ((eV 11 Gf []).getD []) (St.fj [(2,.cell (.ptr 2 0))] [(2,aa [.val (.u8 a),.val (.int b),.val (.s d),.val (.b e),.val (f)])])
noncomputable def Gh (run:RunT) (a:AV) (b:ae) (d:aB) (e:ai ae) (f:ay) (g:AV):ak AV :=
 run ((eV 12 Gf []).getD []) (St.fj [(0,.cell (.val a)),(2,.cell (.ptr 2 0))] [(2,aa [.val (.u8 b),.val (.int d),.val (.s e),.val (.b f),.val (g)])])
noncomputable def zh (run:RunT) (a:AV) (b:aB) (d:ae) (e:aB) (f:ai ae) (g:ay) (i:AV):ak AV :=
 run ((eV 19 Gf []).getD []) (St.fj [(0,.cell (.val a)),(2,.cell (.ptr 2 0)),(4,.cell (.val (.int b)))] [(2,aa [.val (.u8 d),.val (.int e),.val (.s f),.val (.b g),.val (i)])])
noncomputable def X53 (a:ai ae) (c:bj) (r:RunT):ak AV :=
 (c 64 [.s a]).bind fun b=>(gR .eql b (.s [101,108,115,101])).bind fun d=>a8 d
 (aa (.tu [.ag [.u8 3,.int 0,.s [],.b af,.cd],.b aj]))
 ((gR .eql b (.s [101,110,100])).bind fun e=>a8 e
 (aa (.tu [.ag [.u8 5,.int 0,.s [],.b af,.cd],.b aj]))
 ((gR .eql b (.s [102,108,117,115,104])).bind fun f=>a8 f
 (aa (.tu [.ag [.u8 6,.int 0,.s [],.b af,.cd],.b aj]))
 ((gR .eql b (.s [105,102])).bind fun g=>a8 g
 (Gg r 0 0 [] af (.cd))
 ((gR .eql b (.s [114,97,110,103,101])).bind fun i=>a8 i
 (Gg r 0 0 [] af (.cd))
 (Gh r b 0 0 [] af (.cd))))))
theorem c53 a {r:AV} (h:X53 a (aq (C mx) Tryz.prog) (a7 (C mx) Tryz.prog 53 eH)=aa r):aq (C mx) Tryz.prog 53 [.s a]=aa r :=
 bc (fun _ _=>by kernel_rfl) h
noncomputable def UR (a:ae) (b:aB) (d:ai ae) (e:ay) (f:AV) (c:bj) (r:RunT):ak AV :=
 aa (.tu [.ag [.u8 0,.int 0,.s [],.b af,.cd],.b af])
noncomputable def Na (a:AV) (b:ae) (d:aB) (e:ai ae) (f:ay) (g:AV) (c:bj) (r:RunT):ak AV :=
 (c 65 [a,.s [105,102]]).bind fun i=>a8 i
 ((nM a (aa (.int 2)) ah).bind fun j=>(c 64 [j]).bind fun k=>zh r k 2 b d e f g)
 ((c 65 [a,.s [114,97,110,103,101]]).bind fun l=>a8 l
 ((nM a (aa (.int 5)) ah).bind fun m=>(c 64 [m]).bind fun n=>zh r n 4 b d e f g)
 (zh r a 1 b d e f g))
noncomputable def Nb (a:AV) (b:aB) (d:ae) (e:aB) (f:ai ae) (g:ay) (i:AV) (c:bj) (r:RunT):ak AV :=
 (c 66 [a]).bind fun j=>(cA j 0).bind fun k=>(cA j 1).bind fun l=>(AV.cm 2 k).bind fun m=>(conv .u8 (.int b)).bind fun n=>(AV.one n).bind fun o=>aa (.tu [.ag [o,.int 0,.s [],gt m 0,gt m 1],l])
theorem Nc (a b d e f) {r:AV} (h:UR a b d e f (aq (C mx) Tryz.prog) (a7 (C mx) Tryz.prog 53 eH)=aa r):Gg (a7 (C mx) Tryz.prog 53 eH) a b d e f=aa r :=
 bh (fun _ _=>by kernel_rfl) h
theorem UT (a b d e f g) {r:AV} (h:Na a b d e f g (aq (C mx) Tryz.prog) (a7 (C mx) Tryz.prog 53 eH)=aa r):Gh (a7 (C mx) Tryz.prog 53 eH) a b d e f g=aa r :=
 bh (fun _ _=>by kernel_rfl) h
theorem UU (a b d e f g i) {r:AV} (h:Nb a b d e f g i (aq (C mx) Tryz.prog) (a7 (C mx) Tryz.prog 53 eH)=aa r):zh (a7 (C mx) Tryz.prog 53 eH) a b d e f g i=aa r :=
 bh (fun _ _=>by kernel_rfl) h
theorem Gi (b:ae) (l:ai ae):gj b (gj b l)=gj b l:=by
 obtain ⟨n,_,h | ⟨x,r,h,hx⟩⟩:=tz b l
 ·rw [h];rfl
 ·rw [h];unfold gj;rw [bR,aI (by rw [hx];decide)]
theorem Gj (b:ae) (l:ai ae):gC b (gC b l)=gC b l:=by
 have:=Gi b l.reverse
 unfold gj at this
 unfold gC
 rw [jc,this]
theorem JV (l:ai ae):gC 32 (qF l)=qF l:=by
 unfold qF
 rw [AQ,Gj]
theorem wK (s:ai ae) (n:ax) (h:gC 32 s=s) (hn:n < s.length) (N9:s[n]?=aa 32):qF (s.drop n)=gj 32 (s.drop (n+1)):=by
 have e:s.take n ++ s.drop n=s:=bM n s
 have h1:=AP 32 (s.take n) (s.drop n)
 rw [e,h] at h1
 have h2:gC 32 (s.drop n)=s.drop n:=by
  split at h1
  ·have h3:=vr 32 (s.take n)
   rw [← h1,dV] at h3
   omega
  ·rw [e.symm] at h1
   have h4:s.take n ++ s.drop n=s.take n ++ gC 32 (s.drop n):=by
    rw [e] at h1 ⊢
    exact h1
   exact (List.append_cancel_left h4).symm
 unfold qF
 rw [h2]
 have h5:s.drop n=32 :: s.drop (n+1):=by
  rw [dA hn]
  rw [List.getElem?_eq_getElem hn] at N9
  rw [Option.some.inj N9]
 rw [h5]
 unfold gj
 rw [bR];rfl
theorem Gk (x:ai ae) (hx:x.length≤1000000000) (k:aB) (kb:ae) (hc:conv .u8 (.int k)=aa (.u8 kb)):zh (a7 (C mx) Tryz.prog 53 eH) (.s x) k 0 0 [] af .cd=aa (Ec kb x).av:=by
 apply UU
 have hw:=s66 (mx:=mx) x hx
 rw [Eb] at hw
 have e (x y:AV):AV.cm 2 (.ag [x,y])=aa [x,y]:=rfl
 have h1:AV.one (.u8 kb)=aa (.u8 kb):=rfl
 simp only [Nb,hw,qC,qD,e,hc,h1,Option.bind_some,bf,bz]
 rfl
theorem Nf {p s:ai ae} (h:pre (p ++ [32]) s=aj):p.length < s.length∧s[p.length]?=aa 32:=by
 unfold pre at h
 simp only [Bool.and_eq_true,aG,bK] at h
 have h1:p.length < s.length:=by have:=h.1;simp at this;omega
 refine ⟨h1,?_⟩
 have h2:(s.take (p ++ [32]).length)[p.length]?=s[p.length]?:=by rw [List.getElem?_take];simp
 rw [← h2,h.2]
 simp
theorem UW (s:ai ae) (hs:s.length≤1000000000) (ht:gC 32 s=s):Gh (a7 (C mx) Tryz.prog 53 eH) (.s s) 0 0 [] af .cd=aa (if pre (N3 ++ [32]) s then Ec 2 (gj 32 (s.drop 3)) else if pre (ow ++ [32]) s then Ec 4 (gj 32 (s.drop 6)) else Ec 1 s).av:=by
 apply UT
 have c1:=s65 (mx:=mx) s [105,102] hs
 have c2:=s65 (mx:=mx) s [114,97,110,103,101] hs
 rw [show ([105,102]:ai ae) ++ [32]=N3 ++ [32] from rfl] at c1
 rw [show ([114,97,110,103,101]:ai ae) ++ [32]=ow ++ [32] from rfl] at c2
 simp only [Na,c1,Option.bind_some,ba]
 cases h1:pre (N3 ++ [32]) s with
 | true =>
  obtain ⟨hl,N9⟩:=Nf h1
  have hl:2 < s.length:=hl
  have Jw:nM (.s s) (aa (.int 2)) ah=aa (.s (s.drop 2)):=sT (i:=2) (by omega)
  have RP:=s64 (mx:=mx) (s.drop 2) (by simp;omega)
  rw [wK s 2 ht hl N9] at RP
  simp only [Jw,RP,Option.bind_some,aO]
  exact Gk _ (Nat.le_trans (oK _ _) (by simp;omega)) 2 2 rfl
 | false =>
  simp only [c2,Option.bind_some,ba,Bool.false_eq_true,aH]
  cases h2:pre (ow ++ [32]) s with
  | true =>
   obtain ⟨hl,N9⟩:=Nf h2
   have hl:5 < s.length:=hl
   have Jw:nM (.s s) (aa (.int 5)) ah=aa (.s (s.drop 5)):=sT (i:=5) (by omega)
   have RP:=s64 (mx:=mx) (s.drop 5) (by simp;omega)
   rw [wK s 5 ht hl N9] at RP
   simp only [Jw,RP,Option.bind_some,aO]
   exact Gk _ (Nat.le_trans (oK _ _) (by simp;omega)) 4 4 rfl
  | false =>
   simp only [Bool.false_eq_true,aH]
   exact Gk _ hs 1 1 rfl
theorem s53 (l:ai ae) (hl:l.length≤1000000000):aq (C mx) Tryz.prog 53 [.s l]=aa (kF l).av:=by
 apply c53
 have RP:=s64 (mx:=mx) l hl
 have hs:=Nat.le_trans (Aw l) hl
 have ht:=JV l
 unfold kF
 generalize qF l=s at RP hs ht
 simp only [X53,RP,Option.bind_some,ud,ba]
 unfold ME
 rw [show ([101,108,115,101]:ai ae)=els from rfl,show ([101,110,100]:ai ae)=Qf from rfl,show ([102,108,117,115,104]:ai ae)=Cn from rfl]
 cases h1:(s == els) with
 | true=>simp only [aO];rfl
 | false =>
  cases h2:(s == Qf) with
  | true=>simp only [aO,Bool.false_eq_true,aH];rfl
  | false =>
   cases h3:(s == Cn) with
   | true=>simp only [aO,Bool.false_eq_true,aH];rfl
   | false =>
    simp only [Bool.false_eq_true,aH]
    cases h4:(s == N3) with
    | true =>
     have h4':s=[105,102]:=by simpa [N3] using h4
     subst h4'
     rw [aJ (by rfl)]
     apply Nc
     rfl
    | false =>
     rw [aI (by rw [show ([105,102]:ai ae)=N3 from rfl,h4];decide)]
     cases h5:(s == ow) with
     | true =>
      have h5':s=[114,97,110,103,101]:=by simpa [ow] using h5
      subst h5'
      rw [aJ (by rfl)]
      apply Nc
      rfl
     | false =>
      rw [aI (by rw [show ([114,97,110,103,101]:ai ae)=ow from rfl,h5];decide)]
      rw [UW s hs ht]
      simp only [Bool.or_false,Bool.false_eq_true,aH]
noncomputable def Gl:Code:=(Tryz.f37.body).getD .skip
noncomputable def zi (run:RunT) (a:ai ae) (b:ai AV) (d:aB):ak AV :=
 run ((eV 3 Gl []).getD []) (St.fj [(0,.cell (.val (.s a))),(4,.cell (.own 300004 91 5 b)),(5,.cell (.val (.int d)))] [])
noncomputable def Iq (run:RunT) (a:ai ae) (b:ai AV) (d e:aB):ak AV :=
 run ((eV 5 Gl []).getD []) (St.fj [(0,.cell (.val (.s a))),(4,.cell (.own 300004 91 5 b)),(5,.cell (.val (.int d))),(6,.cell (.val (.int e)))] [])
noncomputable def zj (run:RunT) (a:ai ae) (b:ai AV) (d e:aB):ak AV :=
 run ((eV 11 Gl []).getD []) (St.fj [(0,.cell (.val (.s a))),(4,.cell (.own 300004 91 5 b)),(5,.cell (.val (.int d))),(6,.cell (.val (.int e)))] [])
noncomputable def X37 (a:ai ae) (c:bj) (r:RunT):ak AV :=
 zi r a [] 0
theorem c37 a {r:AV} (h:X37 a (aq (C mx) Tryz.prog) (a7 (C mx) Tryz.prog 37 Tryz.f37)=aa r):aq (C mx) Tryz.prog 37 [.s a]=aa r :=
 bc (fun _ _=>by kernel_rfl) h
noncomputable def Ir (a:ai ae) (b:ai AV) (d:aB) (c:bj) (r:RunT):ak AV :=
 a8 (.b (decide (d < ((a.length:aB)))))
 (Iq r a b d d)
 (aa (.tu [.ro 5 b,.int ((-1))]))
noncomputable def Iu (a:ai ae) (b:ai AV) (d e:aB) (c:bj) (r:RunT):ak AV :=
 (bt (.b (decide (e < ((a.length:aB))))) aj ((c 52 [.s a,.int e,.s [123,123]]).bind fun f=>(unop .not f).bind fun g=>aa g) (.b af)).bind fun i=>a8 i
 (Iq r a b d (eE (e+1)))
 (a8 (.b (decide (e > d)))
 ((nM (.s a) (aa (.int d)) (aa (.int e))).bind fun j=>(AV.one j).bind fun k=>(app 64 5 b (.ro 5 (([.ag [.u8 0,.int d,k,.b af,.cd]]:ai AV)))).bind fun l=>zi r a l e)
 (zj r a b d (eE (d+2))))
noncomputable def CN (a:ai ae) (b:ai AV) (d e:aB) (c:bj) (r:RunT):ak AV :=
 (bt (.b (decide (e < ((a.length:aB))))) aj ((c 52 [.s a,.int e,.s [125,125]]).bind fun f=>(unop .not f).bind fun g=>aa g) (.b af)).bind fun i=>a8 i
 (zj r a b d (eE (e+1)))
 (a8 (.b (decide (e ≥ ((a.length:aB)))))
 (aa (.tu [.ro 5 b,.int d]))
 ((nM (.s a) (aa (.int (eE (d+2)))) (aa (.int e))).bind fun j=>(c 53 [j]).bind fun k=>(cA k 0).bind fun l=>(cA k 1).bind fun m=>(AV.cm 5 l).bind fun n=>(unop .not m).bind fun o=>a8 o
 (aa (.tu [.ro 5 b,.int d]))
 ((app 64 5 b (.ro 5 (([.ag [gt n 0,.int d,gt n 2,gt n 3,gt n 4]]:ai AV)))).bind fun p=>zi r a p (eE (e+2)))))
theorem Ng (a b d) {r:AV} (h:Ir a b d (aq (C mx) Tryz.prog) (a7 (C mx) Tryz.prog 37 Tryz.f37)=aa r):zi (a7 (C mx) Tryz.prog 37 Tryz.f37) a b d=aa r :=
 bh (fun _ _=>by kernel_rfl) h
theorem RQ (a b d e) {r:AV} (h:Iu a b d e (aq (C mx) Tryz.prog) (a7 (C mx) Tryz.prog 37 Tryz.f37)=aa r):Iq (a7 (C mx) Tryz.prog 37 Tryz.f37) a b d e=aa r :=
 bh (fun _ _=>by kernel_rfl) h
theorem Nh (a b d e) {r:AV} (h:CN a b d e (aq (C mx) Tryz.prog) (a7 (C mx) Tryz.prog 37 Tryz.f37)=aa r):zj (a7 (C mx) Tryz.prog 37 Tryz.f37) a b d e=aa r :=
 bh (fun _ _=>by kernel_rfl) h
theorem xF (p r sub:ai ae) (k:ax):dB (p ++ r) sub (p.length+k)=dB r sub k:=by
 unfold dB
 rw [← List.drop_drop,ic]
theorem RS (w:Wd) (acc:ai Wd) (h:acc.length≤1000000000):app 64 5 (acc.map Wd.av) (.ro 5 ([w.av]:ai AV))=aa ((acc ++ [w]).map Wd.av):=by
 have hb:big=70368744177664:=rfl
 show ((if 5=5 then aa [w.av] else ah).bind fun q=>if ((acc.map Wd.av).length+q.length) * 64≤big then aa (acc.map Wd.av ++ q) else ah)=_
 rw [aJ rfl]
 simp only [Option.bind_some,aP,aA,List.length_nil,hb]
 rw [aJ (by omega),dM];rfl
theorem QI (r:ai ae) (k:ax) (h:k < fR r):dB r xy k=af:=by
 unfold fR at h
 rcases eG r xy with ⟨h1,h2⟩ | ⟨i,h1,h2,h3,h4⟩
 ·rw [aJ (by omega)] at h
  exact h2 k (by omega)
 ·rw [aI (by omega),h1] at h
  exact h4 k h
theorem Ni (r:ai ae):fR r=r.length∨(fR r < r.length∧dB r xy (fR r)=aj):=by
 unfold fR
 rcases eG r xy with ⟨h1,h2⟩ | ⟨i,h1,h2,h3,h4⟩
 ·rw [aJ (by omega)];exact Or.inl rfl
 ·rw [aI (by omega),h1]
  have:=gK r xy (by omega)
  have e:(xy.length:aB)=2:=rfl
  exact Or.inr ⟨by omega,h3⟩
theorem RT (p r:ai ae) (hl:(p ++ r).length≤1000000000) (acc:ai AV) (R:ak AV)
  (hR:(a8 (.b (decide (((p.length+fR r:ax):aB) > (p.length:aB))))
 ((nM (.s (p ++ r)) (aa (.int (p.length:aB))) (aa (.int ((p.length+fR r:ax):aB)))).bind fun v4=>(AV.one v4).bind fun v5=>(app 64 5 acc (.ro 5 (([.ag [.u8 0,.int (p.length:aB),v5,.b af,.cd]]:ai AV)))).bind fun v6=>zi (a7 (C mx) Tryz.prog 37 Tryz.f37) (p ++ r) v6 ((p.length+fR r:ax):aB))
 (zj (a7 (C mx) Tryz.prog 37 Tryz.f37) (p ++ r) acc (p.length:aB) (eE ((p.length:aB)+2))))=R) (hs:∃ x,R=aa x):∀ (d k:ax),k+d=fR r →
  Iq (a7 (C mx) Tryz.prog 37 Tryz.f37) (p ++ r) acc (p.length:aB) ((p.length+k:ax):aB)=R
 | 0,k,e=>by
  obtain rfl:k=fR r:=by omega
  obtain ⟨x,rfl⟩:=hs
  apply RQ
  have hle:=rA r
  have hpl:p.length+r.length≤1000000000:=by simpa using hl
  have C6:=Zm (mx:=mx) (p ++ r) [123,123] (p.length+fR r) hl (by simp;omega) (by decide)
  rw [xF] at C6
  rcases Ni r with h | ⟨h,ho⟩
  ·have hd:decide (((p.length+fR r:ax):aB) < ((p ++ r).length:aB))=af:=by rw [aQ,au];omega
   simp only [Iu,hd,C6,Option.bind_some,et,b9,dn,ba,Bool.false_eq_true,aH]
   simpa only [ba] using hR
  ·have hd:decide (((p.length+fR r:ax):aB) < ((p ++ r).length:aB))=aj:=by rw [aG,au];omega
   have NV:dB r [123,123] (fR r)=aj:=ho
   rw [NV] at C6
   simp only [Iu,hd,C6,Option.bind_some,et,b9,df,gH,ba,Bool.false_eq_true,aH]
   simpa only [ba] using hR
 | d+1,k,e=>by
  have ih:=RT p r hl acc R hR hs d (k+1) (by omega)
  obtain ⟨x,rfl⟩:=hs
  apply RQ
  have hle:=rA r
  have hpl:p.length+r.length≤1000000000:=by simpa using hl
  have C6:=Zm (mx:=mx) (p ++ r) [123,123] (p.length+k) hl (by simp;omega) (by decide)
  rw [xF,show dB r [123,123] k=af from QI r k (by omega)] at C6
  have hd:decide (((p.length+k:ax):aB) < ((p ++ r).length:aB))=aj:=by rw [aG,au];omega
  have hw:eE (((p.length+k:ax):aB)+1)=((p.length+(k+1):ax):aB):=by rw [gh (by omega) (by omega)];omega
  simp only [Iu,hd,C6,hw,Option.bind_some,et,b9,fE,Bool.and_true,ba,aO]
  exact ih
def nK (r:ai ae):ax:=if Lib.index r ur < 0 then r.length else (Lib.index r ur).toNat
theorem QJ (r:ai ae) (k:ax) (h:k < nK r):dB r ur k=af:=by
 unfold nK at h
 rcases eG r ur with ⟨h1,h2⟩ | ⟨i,h1,h2,h3,h4⟩
 ·rw [aJ (by omega)] at h
  exact h2 k (by omega)
 ·rw [aI (by omega),h1] at h
  exact h4 k h
theorem qQ (r:ai ae):(Lib.index r ur < 0∧nK r=r.length)∨(Lib.index r ur=(nK r:aB)∧nK r+2≤r.length∧dB r ur (nK r)=aj):=by
 unfold nK
 rcases eG r ur with ⟨h1,h2⟩ | ⟨i,h1,h2,h3,h4⟩
 ·rw [aJ (by omega)];exact Or.inl ⟨by omega,rfl⟩
 ·rw [aI (by omega),h1]
  have:=gK r ur (by omega)
  have e:(ur.length:aB)=2:=rfl
  exact Or.inr ⟨rfl,by omega,h3⟩
theorem Nj (p r:ai ae) (hl:(p ++ r).length≤1000000000) (acc:ai AV) (R:ak AV)
  (hR:(a8 (.b (decide (((p.length+nK r:ax):aB) ≥ ((p ++ r).length:aB))))
 (aa (.tu [.ro 5 acc,.int (p.length:aB)]))
 ((nM (.s (p ++ r)) (aa (.int (eE ((p.length:aB)+2)))) (aa (.int ((p.length+nK r:ax):aB)))).bind fun v4=>(aq (C mx) Tryz.prog 53 [v4]).bind fun v5=>(cA v5 0).bind fun v6=>(cA v5 1).bind fun v7=>(AV.cm 5 v6).bind fun v8=>(unop .not v7).bind fun v9=>a8 v9
 (aa (.tu [.ro 5 acc,.int (p.length:aB)]))
 ((app 64 5 acc (.ro 5 (([.ag [v8.getD 0 .un,.int (p.length:aB),v8.getD 2 .un,v8.getD 3 .un,v8.getD 4 .un]]:ai AV)))).bind fun v10=>zi (a7 (C mx) Tryz.prog 37 Tryz.f37) (p ++ r) v10 (eE (((p.length+nK r:ax):aB)+2)))))=R) (hs:∃ x,R=aa x):∀ (d k:ax),k+d=nK r →
  zj (a7 (C mx) Tryz.prog 37 Tryz.f37) (p ++ r) acc (p.length:aB) ((p.length+k:ax):aB)=R
 | 0,k,e=>by
  obtain rfl:k=nK r:=by omega
  obtain ⟨x,rfl⟩:=hs
  apply Nh
  have hle:nK r≤r.length:=by rcases qQ r with h | h <;> omega
  have hpl:p.length+r.length≤1000000000:=by simpa using hl
  have C6:=Zm (mx:=mx) (p ++ r) [125,125] (p.length+nK r) hl (by simp;omega) (by decide)
  rw [xF] at C6
  rcases qQ r with ⟨_,h⟩ | ⟨_,h,ho⟩
  ·have hd:decide (((p.length+nK r:ax):aB) < ((p ++ r).length:aB))=af:=by rw [aQ,au];omega
   simp only [CN,hd,C6,Option.bind_some,et,b9,dn,ba,Bool.false_eq_true,aH]
   simpa only [ba] using hR
  ·have hd:decide (((p.length+nK r:ax):aB) < ((p ++ r).length:aB))=aj:=by rw [aG,au];omega
   have NV:dB r [125,125] (nK r)=aj:=ho
   rw [NV] at C6
   simp only [CN,hd,C6,Option.bind_some,et,b9,df,gH,ba,Bool.false_eq_true,aH]
   simpa only [ba] using hR
 | d+1,k,e=>by
  have ih:=Nj p r hl acc R hR hs d (k+1) (by omega)
  obtain ⟨x,rfl⟩:=hs
  apply Nh
  have hle:nK r≤r.length:=by rcases qQ r with h | h <;> omega
  have hpl:p.length+r.length≤1000000000:=by simpa using hl
  have C6:=Zm (mx:=mx) (p ++ r) [125,125] (p.length+k) hl (by simp;omega) (by decide)
  rw [xF,show dB r [125,125] k=af from QJ r k (by omega)] at C6
  have hd:decide (((p.length+k:ax):aB) < ((p ++ r).length:aB))=aj:=by rw [aG,au];omega
  have hw:eE (((p.length+k:ax):aB)+1)=((p.length+(k+1):ax):aB):=by rw [gh (by omega) (by omega)];omega
  simp only [CN,hd,C6,hw,Option.bind_some,et,b9,fE,Bool.and_true,ba,aO]
  exact ih
def Nk (q:ai Wd×aB):AV:=.tu [.ro 5 (q.1.map Wd.av),.int q.2]
theorem l24:∀ (n:ax) (r p:ai ae) (acc:ai Wd),r.length≤n→(p ++ r).length≤1000000000→acc.length≤p.length →
  zi (a7 (C mx) Tryz.prog 37 Tryz.f37) (p ++ r) (acc.map Wd.av) (p.length:aB)=aa (Nk (kq (n+1) r p.length acc)):=by
 intro n
 induction n with
 | zero =>
  intro r p acc hr hp ha
  obtain rfl:=List.eq_nil_of_length_eq_zero (Nat.le_zero.1 hr)
  apply Ng
  have:decide ((p.length:aB) < ((p ++ []).length:aB))=af:=by simp
  simp only [Ir,this,ba,Bool.false_eq_true,aH]
  rfl
 | succ n ih =>
  intro r p acc hr hp ha
  cases r with
  | nil =>
   apply Ng
   have:decide ((p.length:aB) < ((p ++ []).length:aB))=af:=by simp
   simp only [Ir,this,ba,Bool.false_eq_true,aH]
   rfl
  | cons x r' =>
   obtain ⟨r,FK⟩:∃ r,r=x :: r':=⟨_,rfl⟩
   rw [← FK] at hr hp ⊢
   have hne:r.isEmpty=af:=by rw [FK];rfl
   have I1:0 < r.length:=by rw [FK];simp
   have hpl:p.length+r.length≤1000000000:=by simpa using hp
   have hio:=rA r
   apply Ng
   have hlt:decide ((p.length:aB) < ((p ++ r).length:aB))=aj:=by rw [aG];simp;omega
   simp only [Ir,hlt,ba,aO]
   rw [kq,aI (by rw [hne];decide)]
   refine RT p r hp (acc.map Wd.av) _ ?_ ⟨_,rfl⟩ (fR r) 0 (by omega)
   by_cases hi:0 < fR r
   ·have zX:decide (((p.length+fR r:ax):aB) > (p.length:aB))=aj:=by rw [aG];omega
    have hc:=RS (Ee p.length (r.take (fR r))) acc (by omega)
    have hw:(Ee p.length (r.take (fR r))).av=.ag [.u8 0,.int (p.length:aB),.s (r.take (fR r)),.b af,.cd]:=rfl
    rw [hw] at hc
    have:=ih (r.drop (fR r)) (p ++ r.take (fR r)) (acc ++ [Ee p.length (r.take (fR r))]) (by rw [bQ];omega) (by rw [List.append_assoc,bM];exact hp) (by simp;omega)
    have hlen:(p ++ r.take (fR r)).length=p.length+fR r:=by simp;omega
    rw [List.append_assoc,bM,hlen] at this
    simp only [zX,FI p r _ hio,mI,hc,Option.bind_some,ba,aO]
    rw [aJ hi]
    exact this
   ·have zX:decide (((p.length+fR r:ax):aB) > (p.length:aB))=af:=by rw [aQ];omega
    rw [aI hi]
    simp only [zX,ba,Bool.false_eq_true,aH]
    have hr2:2≤r.length:=by
     have:=bA List.length (M6 r (by omega) I1)
     rw [dV] at this
     have e:xy.length=2:=rfl
     omega
    have hw2:eE ((p.length:aB)+2)=((p.length+2:ax):aB):=by rw [gh (by omega) (by omega)];omega
    rw [hw2]
    have hC2:2≤nK r:=by
     rcases qQ r with ⟨_,h⟩ | ⟨h,_⟩
     ·omega
     ·exact H0 r (by omega) I1 _ h
    refine Nj p r hp (acc.map Wd.av) _ ?_ ⟨_,rfl⟩ (nK r - 2) 2 (by omega)
    rcases qQ r with ⟨h,h'⟩ | ⟨h,h',_⟩
    ·have jz:decide (((p.length+nK r:ax):aB) ≥ ((p ++ r).length:aB))=aj:=by rw [aG,au];omega
     rw [aJ h]
     simp only [jz,ba,aO]
     rfl
    ·have jz:decide (((p.length+nK r:ax):aB) ≥ ((p ++ r).length:aB))=af:=by rw [aQ,au];omega
     rw [aI (by omega),h,Int.toNat_natCast]
     generalize nK r=j at *
     have a4:eE (((p.length+j:ax):aB)+2)=((p.length+(j+2):ax):aB):=by rw [gh (by omega) (by omega)];omega
     have Jw:=MI p r j hC2 (by omega)
     have MJ:=s53 (mx:=mx) ((r.take j).drop 2) (by simp;omega)
     have hw:(kF ((r.take j).drop 2)).av=.tu [.ag [.u8 (kF ((r.take j).drop 2)).kind,.int 0,.s [],.b (kF ((r.take j).drop 2)).root,(kF ((r.take j).drop 2)).names],.b (kF ((r.take j).drop 2)).ok]:=rfl
     rw [hw] at MJ
     have hc:=RS (wA p.length (kF ((r.take j).drop 2))) acc (by omega)
     have hw2:(wA p.length (kF ((r.take j).drop 2))).av=.ag [.u8 (kF ((r.take j).drop 2)).kind,.int (p.length:aB),.s [],.b (kF ((r.take j).drop 2)).root,(kF ((r.take j).drop 2)).names]:=rfl
     rw [hw2] at hc
     have XX:=ih (r.drop (j+2)) (p ++ r.take (j+2)) (acc ++ [wA p.length (kF ((r.take j).drop 2))]) (by rw [bQ];omega) (by rw [List.append_assoc,bM];exact hp) (by simp;omega)
     have hlen:(p ++ r.take (j+2)).length=p.length+(j+2):=by simp;omega
     rw [List.append_assoc,bM,hlen] at XX
     generalize kF ((r.take j).drop 2)=A at *
     simp only [jz,a4,‹eE ((p.length:aB)+2)=((p.length+2:ax):aB)›,Jw,MJ,qC,qD,Ry,et,Option.bind_some,ba,bf,bz,hc,Bool.false_eq_true,aH]
     cases hA:A.ok with
     | false=>rfl
     | true =>
      simp only [df,Bool.false_eq_true,aH,aO]
      exact XX
theorem s37 (l:ai ae) (h:l.length≤1000000000):aq (C mx) Tryz.prog 37 [.s l]=aa (Nk (eh l)):=by
 apply c37
 have:=l24 (mx:=mx) l.length l [] [] (Nat.le_refl _) (by simpa using h) (by simp)
 exact this
end R3
namespace R3
open Go Go.Proofs Go.RowKit Go.Shelf Sx
variable {mx:aB}
end R3
namespace R3
open Go Go.Proofs Go.RowKit Go.Shelf Sx
variable {mx:aB}
theorem Gm {w:az} {F:ax→Prop} {ws:ai Wd} {aw:ak Addr} {cw i:ax} (hw:Rel w F (.ro 5 (ws.map Wd.av)) (.slice aw ws.length cw)) (hi:i < ws.length) (hn:kT ws[i].names) :
  ∃ (r off:ax) (q:aL) (a4:ak Addr) (m4 c4:ax),aw=aa ⟨r,off,ah⟩∧(w.cell? ⟨r,off+i * 5,ah⟩=aa (.int .u8 (ws[i].kind.toNat:aB))∧w.cell? ⟨r,off+i * 5+1,ah⟩=aa (.int .i64 (ws[i].at':aB))∧w.cell? ⟨r,off+i * 5+2,ah⟩=aa (.string q) ∧
   w.cell? ⟨r,off+i * 5+3,ah⟩=aa (.bool ws[i].root)∧w.cell? ⟨r,off+i * 5+4,ah⟩=aa (.slice a4 m4 c4))∧q.data.toList=ws[i].text∧Rel w F ws[i].names (.slice a4 m4 c4):=by
 have key:∀ (l:ai AV) (v:aC),Rel w F (.ro 5 l) v→i < l.length→∃ (r off c:ax) (x:ax→aC),v=.slice (aa ⟨r,off,ah⟩) l.length c∧∀ j,j < 5→w.cell? ⟨r,off+i * 5+j,ah⟩=aa (x j)∧Rel w F ((l.getD i .un).cell j) (x j):=by
  intro l v h hi
  cases h with
  | zG=>simp at hi
  | ro _ _ r off c xs hk hc hF hl VE h1 hr =>
   refine ⟨r,off,c,fun j=>xs.getD (i * 5+j) undef,rfl,fun j hj=>?_⟩
   have hj':i * 5+j < xs.length:=by omega
   have h2:xs[i * 5+j]?=aa xs[i * 5+j]:=List.getElem?_eq_getElem hj'
   show w.cell? _=aa (xs.getD (i * 5+j) undef)∧Rel w F _ (xs.getD (i * 5+j) undef)
   rw [aK (l:=xs),h2,Option.getD_some]
   refine ⟨?_,hr i j _ hi hj h2⟩
   rw [← VE _ _ h2,Nat.add_assoc]
 obtain ⟨r,off,c,x,e,h⟩:=key _ _ hw (by simpa using hi)
 rw [aP] at e
 cases e
 have ew:((ws.map Wd.av).getD i .un)=ws[i].av:=by rw [aK,List.getElem?_map,List.getElem?_eq_getElem hi];rfl
 rw [ew] at h
 obtain ⟨y0,e0⟩:=h 0 (by decide)
 obtain ⟨y1,e1⟩:=h 1 (by decide)
 obtain ⟨y2,e2⟩:=h 2 (by decide)
 obtain ⟨y3,e3⟩:=h 3 (by decide)
 obtain ⟨y4,e4⟩:=h 4 (by decide)
 replace e0:Rel w F (.u8 ws[i].kind) (x 0):=e0
 replace e1:Rel w F (.int (ws[i].at':aB)) (x 1):=e1
 replace e2:Rel w F (.s ws[i].text) (x 2):=e2
 replace e3:Rel w F (.b ws[i].root) (x 3):=e3
 replace e4:Rel w F ws[i].names (x 4):=e4
 have s4:∃ (a:ak Addr) (m c:ax),x 4=.slice a m c:=by
  rcases hn with e | ⟨y,l,e,_⟩
  ·rw [e] at e4;generalize x 4=v at e4;cases e4;exact ⟨_,_,_,rfl⟩
  ·rw [e] at e4;obtain ⟨ad,c,h,_⟩:=gb e4;exact ⟨_,_,_,h⟩
 obtain ⟨a4,m4,c4,h4⟩:=s4
 have g0:x 0=.int .u8 (ws[i].kind.toNat:aB):=by generalize x 0=v at e0;cases e0;rfl
 have g1:x 1=.int .i64 (ws[i].at':aB):=by generalize x 1=v at e1;cases e1;rfl
 have g2:∃ q:aL,x 2=.string q∧q.data.toList=ws[i].text:=by
  generalize x 2=v at e2
  generalize ws[i].text=tt at e2
  cases e2;exact ⟨_,rfl,rfl⟩
 have g3:x 3=.bool ws[i].root:=by generalize x 3=v at e3;cases e3;rfl
 obtain ⟨q,g2,hq⟩:=g2
 rw [g0] at y0;rw [g1] at y1;rw [g2] at y2;rw [g3] at y3;rw [h4] at y4 e4
 exact ⟨r,off,q,a4,m4,c4,rfl,⟨y0,y1,y2,y3,y4⟩,hq,e4⟩
theorem zk:(Tryz.prog.info? 58).map (fun i=>(i.zero,i.size,i.bytes))=aa (aa (.agg #[.int .u8 0,.int .i64 0,.string ⟨#[]⟩,.bool af,.slice ah 0 0,.slice ah 0 0,.slice ah 0 0,.bool af,.int .u8 0]),9,120):=by kernel_rfl
theorem Iw:(Tryz.prog.info? 93).map (fun i=>(i.zero,i.size,i.bytes))=aa (aa (.agg #[.int .i64 0,.int .i64 0,.bool af]),3,24):=by kernel_rfl
theorem tA (W:az) (l:ai aC) (t:TypeId):∀ j u,l[j]?=aa u→(W.alloc (.cells l.toArray t)).cell? ((⟨W.heap.size,0,ah⟩:Addr).add j)=aa u:=fun j u hu=>World.news_of_block (cs:=l.toArray) (World.alloc_heap_new W _) j u (by simpa using hu)
theorem Iy (s:Ms) (n:ai ax):s.add n=⟨(s.add n).nodes,(s.add n).top,s.stack⟩:=by rw [← oO s n]
theorem PM.cap {w W:az} {F:ax→Prop} {b7:ax} {s:Ms} {X:ai Vn} {tag:ax→Tg} {vn vt:aC} {ad:ak Addr} {n c:ax} (h:PM w F b7 s X tag vn vt (.slice ad n c) W):s.stack.length≤c:=by
 rcases h.sk.1.2 with ⟨e,h0⟩ | ⟨g,cap,cur,e,h1,h2,h3,_⟩
 ·omega
 ·cases e;exact h3
theorem zl (s:aL) (hs:s.size≤1000000000) (W:az) (hm:W.cell? ⟨1,0,ah⟩=aa (.int .i64 mx)):Calls Tryz.prog 37 #[.string s] W fun e W' =>
  ∃ (ad:ak Addr) (c:ax),e=.returned (.tuple #[.slice ad (eh s.data.toList).1.length c,.int .i64 (eh s.data.toList).2])∧Ext W W' ∧
   Rel W' (fun b=>b < W.heap.size→b=1) (.ro 5 ((eh s.data.toList).1.map Wd.av)) (.slice ad (eh s.data.toList).1.length c):=by
 refine Calls.mono (rB (fit mx) (c:=Tryz.f37.body.getD .skip) Tryz.func37 (by kernel_rfl) (s37 (mx:=mx) s.data.toList hs) (by kernel_rfl) W (fun b=>b=1) #[.string s] (H9 hm) rfl (Qi (.s s))) fun e w' he=>?_
 obtain ⟨v,rfl,hx,hr⟩:=he
 generalize eh s.data.toList=ww at hr ⊢
 unfold mG at hr
 rw [aJ (by kernel_rfl)] at hr
 unfold Nk at hr
 cases hr with
 | tu _ vs hl hj =>
  match vs,hl,hj with
  | [v0,v1],_,hj =>
   have h0:=hj 0 v0 rfl
   have h1:=hj 1 v1 rfl
   simp only [bf,bz] at h0 h1
   cases h1
   obtain ⟨ad,c,rfl,hc⟩:=gb h0
   rw [aP] at hc h0 ⊢
   exact ⟨ad,c,rfl,hx,h0⟩
theorem JW (s:aL) (w:az) (hm:w.cell? ⟨1,0,ah⟩=aa (.int .i64 mx)) (hs:s.data.toList.length≤65536) (hb:¬ 0≤(eh s.data.toList).2) {ws:ai Wd} (pX:(eh s.data.toList).1=ws) (hl:ws.length≤100000) (ua:∀ x ∈ ws,kT x.names) (mA:∀ x ∈ ws,x.kind.toNat≤6) :
  CallsIn Fence.wide 7 Tryz.prog 21 #[.string s] w (xE w (fun b=>b=1) (oh ws)):=by
 have hx1:Ext w (w.alloc (.cells #[.slice ah 0 0,.slice ah 0 0] 26)):=Ext.push w _
 have hsz:s.size=s.data.toList.length:=rfl
 have qG:=zl (mx:=mx) s (by omega) (w.alloc (.cells #[.slice ah 0 0,.slice ah 0 0] 26)) (cE hx1 hm)
 rw [pX] at qG
 generalize (eh s.data.toList).2=bad at qG hb
 have Cv:=cM hm
 have hs1:((s.size:ax):aB)≤65536:=by omega
 clear hsz hs pX
 refine bC ji rfl trivial ?_ rfl
 simp only [iU,Nat.reduceAdd,Nat.reduceSub,zC]
 gi_wp2_with (refine ⟨trivial,?_⟩;gi_at_call 37;refine (aT.2 qG).mono ?_;clear qG;rintro e w2 ⟨ad,c,rfl,hx2,hwr⟩)
 have FX:=(hx2.block w.heap.size (by simp)).trans (World.alloc_heap_new w (.cells #[.slice ah 0 0,.slice ah 0 0] 26))
 generalize hF:(fun b=>b < (w.alloc (.cells #[.slice ah 0 0,.slice ah 0 0] 26)).heap.size→b=1)=F at hwr
 have Iz:PM w2 F w2.heap.size ⟨[],[],[]⟩ [] (fun _=>.top) (.slice ah 0 0) (.slice ah 0 0) (.slice ah 0 0) (w2.alloc (.cells #[.slice ah 0 0,.slice ah 0 0] 26)) :=
  ⟨Ext.push w2 _,Nat.le_refl _,World.alloc_heap_new w2 _,Row.nil _ _ _ _ _ _,Row.nil _ _ _ _ _ _,Row.nil _ _ _ _ _ _,rfl,fun i x y h=>by simp at h,fun i x y h=>by simp at h⟩
 gi_loopw [8,9] (fun v8 v9 wr=>∃ (i:ax) (s':Ms) (X:ai Vn) (tag:ax→Tg) (vn vt:aC),v9=.int .i64 (i:aB)∧i≤ws.length∧lg (ws.drop i) s'=oh ws∧s'.wf∧s'.sz i∧PM w2 F w2.heap.size s' X tag vn vt v8 wr) (fun v8 v9 wr=>ws.length - (match v9 with | .int _ a=>a.toNat | _=>0))
 case atStart=>exact ⟨0,_,_,_,_,_,rfl,Nat.zero_le _,rfl,Zf,⟨Nat.le_refl _,Nat.le_refl _,fun y hy=>(by simp at hy),Nat.zero_le _⟩,Iz⟩
 case round =>
  obtain ⟨i,s',X,tag,vn,vt,rfl,hi,hrun,CZ,hsz,kz⟩:=hrel
  by_cases hlt:i < ws.length
  ·obtain ⟨r,off,q,a4,m4,c4,rfl,⟨y0,y1,y2,y3,y4⟩,hq,JX⟩:=Gm (i:=i) hwr hlt (ua _ (List.getElem_mem hlt))
   replace y0:=cE kz.ext y0
   replace y1:=cE kz.ext y1
   replace y2:=cE kz.ext y2
   replace y3:=cE kz.ext y3
   replace y4:=cE kz.ext y4
   have RU:=mA _ (List.getElem_mem hlt)
   have RV:=ua _ (List.getElem_mem hlt)
   rw [dA hlt,lg] at hrun
   generalize ws[i]=wd at *
   obtain ⟨Uz,cs,rfl⟩:=lV kz.sk.1
   have UX:=hsz.stack
   have kJ:=kz.ext
   clear Iz ua mA hm Cv hs1
   obtain ⟨N,T,S⟩:=s'
   have nP:wr.heap[w.heap.size]?=aa (.cells #[.slice ah 0 0,.slice ah 0 0] 26):=(kz.ext.block _ (Array.getElem?_eq_some_iff.1 FX).1).trans FX
   simp only at UX
   by_cases Yu:wd.kind=5
   ·rw [Yu] at y0
    rcases dG S with rfl | ⟨S,o,rfl⟩
    ·have uE:oh ws=.bad wd.at' 4:=by rw [← hrun];unfold gl;rw [aI (by simp [Yu]),aJ (by simp [Yu])];rfl
     clear hrun
     simp only [List.length_nil] at *
     gi_wp2
     rw [wpIn_wide]
     have kW:Ext wr (wr.alloc (.cells #[.int .u8 5,.int .i64 (wd.at':aB),.string q,.bool wd.root,.slice a4 m4 c4] 91)):=Ext.push wr _
     have kG:=World.alloc_heap_new wr (.cells #[.int .u8 5,.int .i64 (wd.at':aB),.string q,.bool wd.root,.slice a4 m4 c4] 91)
     generalize wr.alloc (.cells #[.int .u8 5,.int .i64 (wd.at':aB),.string q,.bool wd.root,.slice a4 m4 c4] 91)=W5 at kW kG ⊢
     have p1:W5.cell? ⟨wr.heap.size,1,ah⟩=aa (.int .i64 (wd.at':aB)):=by simp [World.cell?,kG]
     clear kG
     have zP:=(kW.block _ (Array.getElem?_eq_some_iff.1 nP).1).trans nP
     obtain ⟨v1,v2,v3,v4⟩:=cF zP
     have hne:wr.heap.size≠w.heap.size:=by have:=(Array.getElem?_eq_some_iff.1 nP).1;omega
     clear y0 y1 y2 y3 y4 RU JX RV kz
     refine cW (by kernel_rfl) [] (fun u v=>v.cell? ⟨wr.heap.size,1,ah⟩=u.cell? ⟨wr.heap.size,1,ah⟩) [(0,aj),(1,aj),(2,aj),(3,af),(4,aj),(5,aj)]
      (by kernel_rfl) (by kernel_rfl) (by kernel_rfl) (fun _=>rfl) (fun _ _ _ h1 h2=>h2.trans h1) ?_
     iterate 3 (
      refine' cS ?_ ?_ ?_ ?_;rotate_left 2
      ·(simp only [zA];rfl)
      ·rfl
      ·(intro w' hE;have q1:=hE.trans p1;go_simp;try rfl)
      try simp only [Act.put,zB])
     refine' jJ ?_ ?_;rotate_left 1
     ·(simp only [zA];rfl)
     intro K hK
     go_simp
     refine hK.out _ _ (aD ((bl hne).trans (bl hne))) ?_
     clear hK K
     try simp only [Act.put,zB]
     iterate 2 (
      refine' cS ?_ ?_ ?_ ?_;rotate_left 2
      ·(simp only [zA];rfl)
      ·rfl
      ·(intro w' hE;go_simp;try rfl)
      try simp only [Act.put,zB])
     refine j9 ?_
     gi_wp2
     refine bodyPost_ret (results36 _ _ w.heap.size (.slice ah 0 0) (.slice ah 0 0) (.int .i64 (wd.at':aB)) (.int .i64 4) rfl rfl rfl (eM _ _ zP)) rfl ?_
     exact ⟨ju (lS (hx1.trans (hx2.trans (kJ.trans kW)))) _ _,(by rw [uE];first | done | rfl)⟩
    ·rw [eF] at *
     have hst:gl ⟨N,T,S ++ [o]⟩ wd=.inl ⟨N,T,S⟩:=step_end Yu rfl
     have vF:=pC CZ hst
     have hsz':=pD hsz hst
     rw [hst] at hrun
     simp only at hrun
     obtain ⟨gs,cap,uS,-,-⟩:=kz.last
     simp only [Value.slice.injEq] at uS
     obtain ⟨rfl,-,rfl⟩:=uS
     have el:(S ++ [o]).length=S.length+1:=by simp
     have Nl:PM w2 F w2.heap.size ⟨N,T,S ++ [o]⟩ X tag vn vt (.slice (aa ⟨gs,0,ah⟩) (S.length+1) cs) wr:=by rw [← el];exact kz
     have abr:=(Nl.ext' (Ext.push wr (.cells #[.int .u8 5,.int .i64 (wd.at':aB),.string q,.bool wd.root,.slice a4 m4 c4] 91))).pop
     have Kn:S.length+1≤cs:=by rw [← el];exact kz.cap
     clear kz Nl el JX RU RV hst CZ hsz kJ
     simp only [au,aA,List.length_nil] at UX ⊢
     generalize hd:S.length=d at *
     gi_wp2
     exact ⟨⟨i+1,_,_,_,_,_,bA (Value.int .i64) (by omega),hlt,hrun,vF,hsz',abr⟩,by show _ - Int.toNat _ < _ - Int.toNat _;omega⟩
   ·by_cases hk3:wd.kind=3
    ·rw [hk3] at y0
     rcases dG S with rfl | ⟨S,o,rfl⟩
     ·have uE:oh ws=.bad wd.at' 4:=by rw [← hrun];unfold gl;rw [aJ (by simp [hk3])];rfl
      clear hrun
      simp only [List.length_nil] at *
      gi_wp2
      rw [wpIn_wide]
      have kW:Ext wr (wr.alloc (.cells #[.int .u8 3,.int .i64 (wd.at':aB),.string q,.bool wd.root,.slice a4 m4 c4] 91)):=Ext.push wr _
      have kG:=World.alloc_heap_new wr (.cells #[.int .u8 3,.int .i64 (wd.at':aB),.string q,.bool wd.root,.slice a4 m4 c4] 91)
      generalize wr.alloc (.cells #[.int .u8 3,.int .i64 (wd.at':aB),.string q,.bool wd.root,.slice a4 m4 c4] 91)=W5 at kW kG ⊢
      have p1:W5.cell? ⟨wr.heap.size,1,ah⟩=aa (.int .i64 (wd.at':aB)):=by simp [World.cell?,kG]
      clear kG
      have zP:=(kW.block _ (Array.getElem?_eq_some_iff.1 nP).1).trans nP
      obtain ⟨v1,v2,v3,v4⟩:=cF zP
      have hne:wr.heap.size≠w.heap.size:=by have:=(Array.getElem?_eq_some_iff.1 nP).1;omega
      clear y0 y1 y2 y3 y4 RU JX RV kz
      refine cW (by kernel_rfl) [] (fun u v=>v.cell? ⟨wr.heap.size,1,ah⟩=u.cell? ⟨wr.heap.size,1,ah⟩) [(0,aj),(1,aj),(2,aj),(3,af),(4,aj),(5,aj)]
       (by kernel_rfl) (by kernel_rfl) (by kernel_rfl) (fun _=>rfl) (fun _ _ _ h1 h2=>h2.trans h1) ?_
      iterate 3 (
       refine' cS ?_ ?_ ?_ ?_;rotate_left 2
       ·(simp only [zA];rfl)
       ·rfl
       ·(intro w' hE;have q1:=hE.trans p1;go_simp;try rfl)
       try simp only [Act.put,zB])
      refine' jJ ?_ ?_;rotate_left 1
      ·(simp only [zA];rfl)
      intro K hK
      go_simp
      refine hK.out _ _ (aD ((bl hne).trans (bl hne))) ?_
      clear hK K
      try simp only [Act.put,zB]
      iterate 2 (
       refine' cS ?_ ?_ ?_ ?_;rotate_left 2
       ·(simp only [zA];rfl)
       ·rfl
       ·(intro w' hE;go_simp;try rfl)
       try simp only [Act.put,zB])
      refine j9 ?_
      gi_wp2
      refine bodyPost_ret (results36 _ _ w.heap.size (.slice ah 0 0) (.slice ah 0 0) (.int .i64 (wd.at':aB)) (.int .i64 4) rfl rfl rfl (eM _ _ zP)) rfl ?_
      exact ⟨ju (lS (hx1.trans (hx2.trans (kJ.trans kW)))) _ _,(by rw [uE];first | done | rfl)⟩
     ·rw [eF] at *
      obtain ⟨gs,cap,uS,⟨s0,s1,s2⟩,sf⟩:=kz.last
      simp only [Value.slice.injEq] at uS
      obtain ⟨rfl,-,rfl⟩:=uS
      have el:(S ++ [o]).length=S.length+1:=by simp
      have Nl:PM w2 F w2.heap.size ⟨N,T,S ++ [o]⟩ X tag vn vt (.slice (aa ⟨gs,0,ah⟩) (S.length+1) cs) wr:=by rw [← el];exact kz
      have kW:Ext wr (wr.alloc (.cells #[.int .u8 3,.int .i64 (wd.at':aB),.string q,.bool wd.root,.slice a4 m4 c4] 91)):=Ext.push wr _
      have t0:=cE kW s0
      have t1:=cE kW s1
      have t2:=cE kW s2
      have tf:(wr.alloc (.cells #[.int .u8 3,.int .i64 (wd.at':aB),.string q,.bool wd.root,.slice a4 m4 c4] 91)).frozen? ⟨gs,S.length * 3+2,ah⟩=af:=(cB (kW.block gs (cM s0))).trans (sf _)
      simp only [au,aA,List.length_nil] at UX ⊢
      by_cases hg:o.kind=2∧o.els=af
      ·rw [hg.1] at s1 t1
       rw [hg.2] at s2 t2
       have hst:gl ⟨N,T,S ++ [o]⟩ wd=.inl ⟨N.modify o.node fun x=>{ x with has:=aj },T,S ++ [{ o with els:=aj }]⟩:=by
        unfold gl
        rw [aJ (by simp [hk3])]
        simp [hg.1,hg.2]
       have vF:=pC CZ hst
       have hsz':=pD hsz hst
       rw [hst] at hrun
       simp only at hrun
       have SQ:o.node < N.length:=CZ o (by simp)
       have JY:=(Nl.ext' kW).UL
       clear kW kz Nl el JX RU RV hst CZ hsz kJ sf
       generalize hd:S.length=d at *
       gi_wp2
       rw [wpIn_wide]
       generalize (wr.alloc (.cells #[.int .u8 3,.int .i64 (wd.at':aB),.string q,.bool wd.root,.slice a4 m4 c4] 91)).setCell ⟨gs,d * 3+2,ah⟩ (.bool aj)=W6 at JY ⊢
       obtain ⟨gs',cap',Yv,⟨r0,-,-⟩,-⟩:=JY.last
       simp only [Value.slice.injEq,Option.some.injEq,Addr.mk.injEq] at Yv
       obtain ⟨⟨rfl,-,-⟩,-,-⟩:=Yv
       rw [hd] at r0
       obtain ⟨gn,cn,x,y,rfl,hx,hy,hcell,l4⟩:=JY.node SQ
       have CI:X.length=N.length:=JY.len
       obtain ⟨v1,v2,v3,v4⟩:=cF JY.c7
       have fn7:=l4 (o.node * 9+7)
       have c7:=hcell 7 (by decide)
       have c7:W6.cell? ⟨gn,o.node * 9+7,ah⟩=aa (.bool x.has):=c7
       obtain ⟨X',abt⟩:=JY.UK rfl hx
       clear t0 t1 t2 tf s0 s1 s2 y0 y1 y2 y3 y4 hcell l4 v3 v4
       simp only at SQ v1 r0 c7 fn7
       generalize hk:o.node=k at *
       refine cW (by kernel_rfl) [9] (fun u v=>v.cell? ⟨w2.heap.size,0,ah⟩=u.cell? ⟨w2.heap.size,0,ah⟩∧v.cell? ⟨gs,d * 3,ah⟩=u.cell? ⟨gs,d * 3,ah⟩) [(0,aj),(1,aj),(2,aj),(3,aj),(4,aj),(5,aj),(6,aj),(7,aj),(8,aj),(9,af)]
        (by kernel_rfl) (by kernel_rfl) (by kernel_rfl) (fun _=>⟨rfl,rfl⟩) (fun _ _ _ h1 h2=>⟨h2.1.trans h1.1,h2.2.trans h1.2⟩) ?_
       iterate 9 (
        refine' cS ?_ ?_ ?_ ?_;rotate_left 2
        ·(simp only [zA];rfl)
        ·rfl
        ·(intro w' hE;have q1:=hE.1.trans v1;have q2:=hE.2.trans r0;go_simp;try rfl)
        try simp only [Act.put,zB])
       refine' my ?_ (by kernel_rfl) ?_;rotate_left 1
       ·(simp only [zA];rfl)
       intro K hK
       go_simp
       refine hK.out _ _ ?_
       clear hK K
       refine j9 ?_
       gi_wp2
       exact ⟨⟨i+1,_,_,_,_,_,bA (Value.int .i64) (by omega),hlt,hrun,vF,hsz',abt.ext' (Ext.drew _ _)⟩,by show _ - Int.toNat _ < _ - Int.toNat _;omega⟩
      ·have uE:oh ws=.bad wd.at' 4:=by
        rw [← hrun]
        unfold gl
        rw [aJ (by simp [hk3])]
        have:(o.kind != 2 || o.els)=aj:=by
         rw [Bool.or_eq_true,bne_iff_ne]
         by_cases h2:o.kind=2
         ·right
          cases he:o.els with
          | true=>rfl
          | false=>exact absurd ⟨h2,he⟩ hg
         ·exact .inl h2
        simp [this]
       have Yw:(o.kind=2∧o.els=aj)∨¬ ((o.kind.toNat:aB)=2):=by
        by_cases h2:o.kind=2
        ·left
         refine ⟨h2,?_⟩
         cases he:o.els with
         | true=>rfl
         | false=>exact absurd ⟨h2,he⟩ hg
        ·right
         intro e
         exact h2 (bP.1 (by show _=2;omega))
       clear hrun hg
       generalize hd:S.length=d at *
       rcases Yw with ⟨e1,e2⟩ | hk2
       ·rw [e1] at t1 s1
        rw [e2] at t2 s2
        clear e1 e2
        gi_wp2
        rw [wpIn_wide]
        clear t0 t1 t2 tf
        have kW:Ext wr (wr.alloc (.cells #[.int .u8 3,.int .i64 (wd.at':aB),.string q,.bool wd.root,.slice a4 m4 c4] 91)):=Ext.push wr _
        have kG:=World.alloc_heap_new wr (.cells #[.int .u8 3,.int .i64 (wd.at':aB),.string q,.bool wd.root,.slice a4 m4 c4] 91)
        generalize wr.alloc (.cells #[.int .u8 3,.int .i64 (wd.at':aB),.string q,.bool wd.root,.slice a4 m4 c4] 91)=W5 at kW kG ⊢
        have p1:W5.cell? ⟨wr.heap.size,1,ah⟩=aa (.int .i64 (wd.at':aB)):=by simp [World.cell?,kG]
        clear kG
        have zP:=(kW.block _ (Array.getElem?_eq_some_iff.1 nP).1).trans nP
        obtain ⟨v1,v2,v3,v4⟩:=cF zP
        have hne:wr.heap.size≠w.heap.size:=by have:=(Array.getElem?_eq_some_iff.1 nP).1;omega
        clear y0 y1 y2 y3 y4 RU JX RV kz
        refine cW (by kernel_rfl) [] (fun u v=>v.cell? ⟨wr.heap.size,1,ah⟩=u.cell? ⟨wr.heap.size,1,ah⟩) [(0,aj),(1,aj),(2,aj),(3,af),(4,aj),(5,aj)]
         (by kernel_rfl) (by kernel_rfl) (by kernel_rfl) (fun _=>rfl) (fun _ _ _ h1 h2=>h2.trans h1) ?_
        iterate 3 (
         refine' cS ?_ ?_ ?_ ?_;rotate_left 2
         ·(simp only [zA];rfl)
         ·rfl
         ·(intro w' hE;have q1:=hE.trans p1;go_simp;try rfl)
         try simp only [Act.put,zB])
        refine' jJ ?_ ?_;rotate_left 1
        ·(simp only [zA];rfl)
        intro K hK
        go_simp
        refine hK.out _ _ (aD ((bl hne).trans (bl hne))) ?_
        clear hK K
        try simp only [Act.put,zB]
        iterate 2 (
         refine' cS ?_ ?_ ?_ ?_;rotate_left 2
         ·(simp only [zA];rfl)
         ·rfl
         ·(intro w' hE;go_simp;try rfl)
         try simp only [Act.put,zB])
        refine j9 ?_
        gi_wp2
        refine bodyPost_ret (results36 _ _ w.heap.size (.slice ah 0 0) (.slice ah 0 0) (.int .i64 (wd.at':aB)) (.int .i64 4) rfl rfl rfl (eM _ _ zP)) rfl ?_
        exact ⟨ju (lS (hx1.trans (hx2.trans (kJ.trans kW)))) _ _,(by rw [uE];first | done | rfl)⟩
       ·gi_wp2
        rw [wpIn_wide]
        clear t0 t1 t2 tf
        have kW:Ext wr (wr.alloc (.cells #[.int .u8 3,.int .i64 (wd.at':aB),.string q,.bool wd.root,.slice a4 m4 c4] 91)):=Ext.push wr _
        have kG:=World.alloc_heap_new wr (.cells #[.int .u8 3,.int .i64 (wd.at':aB),.string q,.bool wd.root,.slice a4 m4 c4] 91)
        generalize wr.alloc (.cells #[.int .u8 3,.int .i64 (wd.at':aB),.string q,.bool wd.root,.slice a4 m4 c4] 91)=W5 at kW kG ⊢
        have p1:W5.cell? ⟨wr.heap.size,1,ah⟩=aa (.int .i64 (wd.at':aB)):=by simp [World.cell?,kG]
        clear kG
        have zP:=(kW.block _ (Array.getElem?_eq_some_iff.1 nP).1).trans nP
        obtain ⟨v1,v2,v3,v4⟩:=cF zP
        have hne:wr.heap.size≠w.heap.size:=by have:=(Array.getElem?_eq_some_iff.1 nP).1;omega
        clear y0 y1 y2 y3 y4 RU JX RV kz
        refine cW (by kernel_rfl) [] (fun u v=>v.cell? ⟨wr.heap.size,1,ah⟩=u.cell? ⟨wr.heap.size,1,ah⟩) [(0,aj),(1,aj),(2,aj),(3,af),(4,aj),(5,aj)]
         (by kernel_rfl) (by kernel_rfl) (by kernel_rfl) (fun _=>rfl) (fun _ _ _ h1 h2=>h2.trans h1) ?_
        iterate 3 (
         refine' cS ?_ ?_ ?_ ?_;rotate_left 2
         ·(simp only [zA];rfl)
         ·rfl
         ·(intro w' hE;have q1:=hE.trans p1;go_simp;try rfl)
         try simp only [Act.put,zB])
        refine' jJ ?_ ?_;rotate_left 1
        ·(simp only [zA];rfl)
        intro K hK
        go_simp
        refine hK.out _ _ (aD ((bl hne).trans (bl hne))) ?_
        clear hK K
        try simp only [Act.put,zB]
        iterate 2 (
         refine' cS ?_ ?_ ?_ ?_;rotate_left 2
         ·(simp only [zA];rfl)
         ·rfl
         ·(intro w' hE;go_simp;try rfl)
         try simp only [Act.put,zB])
        refine j9 ?_
        gi_wp2
        refine bodyPost_ret (results36 _ _ w.heap.size (.slice ah 0 0) (.slice ah 0 0) (.int .i64 (wd.at':aB)) (.int .i64 4) rfl rfl rfl (eM _ _ zP)) rfl ?_
        exact ⟨ju (lS (hx1.trans (hx2.trans (kJ.trans kW)))) _ _,(by rw [uE];first | done | rfl)⟩
    ·have tF:wd.kind=0∨wd.kind=1∨wd.kind=6∨wd.kind=2∨wd.kind=4:=by
      have a3:wd.kind.toNat≠3:=fun e=>hk3 (bP.1 e)
      have a5:wd.kind.toNat≠5:=fun e=>Yu (bP.1 e)
      have:wd.kind.toNat=0∨wd.kind.toNat=1∨wd.kind.toNat=6∨wd.kind.toNat=2∨wd.kind.toNat=4:=by omega
      rcases this with e | e | e | e | e
      ·exact .inl (bP.1 e)
      ·exact .inr (.inl (bP.1 e))
      ·exact .inr (.inr (.inl (bP.1 e)))
      ·exact .inr (.inr (.inr (.inl (bP.1 e))))
      ·exact .inr (.inr (.inr (.inr (bP.1 e))))
     obtain ⟨zm,cn,rfl⟩:=lV kz.nd.1
     have CI:X.length=N.length:=kz.len
     obtain ⟨v1,v2,v3,v4⟩:=cF kz.c7
     have Yq:=kz.zQ
     have Nn:(⟨N ++ [fS wd],T,S⟩:Ms).wf:=fun o ho=>by have:=CZ o ho;simp only [au] at this ⊢;omega
     have zn:(⟨N ++ [fS wd],T,S⟩:Ms).sz (i+1):=⟨by have:=hsz.nodes;simp at this ⊢;omega,by have:=hsz.top;simp at this ⊢;omega,fun y hy=>by
      rcases List.mem_append.1 hy with hy | hy
      ·have:=hsz.two y hy;omega
      ·obtain rfl:=List.mem_singleton.1 hy;exact ⟨Nat.zero_le _,Nat.zero_le _⟩,UX⟩
     rcases tF with hk | hk | hk | hk | hk
     ·rw [hk] at y0
      have hst:gl ⟨N,T,S⟩ wd=.inl (Ms.add ⟨N ++ [fS wd],T,S⟩ [N.length]):=by
       unfold gl
       rw [aI (by simp [hk]),aI (by simp [hk]),aI (by simp [hk])]
       simp [hk]
      have vF:=pC CZ hst
      have hsz':=pD hsz hst
      rw [hst] at hrun
      simp only at hrun
      have lA:Ext wr ((wr.alloc (.cells #[.int .u8 0,.int .i64 (wd.at':aB),.string q,.bool wd.root,.slice a4 m4 c4] 91)).alloc (.cells #[.int .i64 0,.int .i64 1,.int .i64 2,.int .i64 0,.int .i64 3,.int .i64 0,.int .i64 4] 3)):=(Ext.push wr _).trans (Ext.push _ _)
      have u1:=cE lA v1
      generalize hd:S.length=d at *
      gi_wp2
      rw [wpIn_wide]
      have kG:=ck (o:=.cells #[.int .i64 0,.int .i64 1,.int .i64 2,.int .i64 0,.int .i64 3,.int .i64 0,.int .i64 4] 3) (w:=wr.alloc (.cells #[.int .u8 0,.int .i64 (wd.at':aB),.string q,.bool wd.root,.slice a4 m4 c4] 91)) (i:=wr.heap.size) (by simp)
      rw [World.alloc_heap_new wr _] at kG
      have xG:=World.alloc_heap_new (wr.alloc (.cells #[.int .u8 0,.int .i64 (wd.at':aB),.string q,.bool wd.root,.slice a4 m4 c4] 91)) (.cells #[.int .i64 0,.int .i64 1,.int .i64 2,.int .i64 0,.int .i64 3,.int .i64 0,.int .i64 4] 3)
      rw [show (wr.alloc (.cells #[.int .u8 0,.int .i64 (wd.at':aB),.string q,.bool wd.root,.slice a4 m4 c4] 91)).heap.size=wr.heap.size+1 by simp] at xG
      generalize (wr.alloc (.cells #[.int .u8 0,.int .i64 (wd.at':aB),.string q,.bool wd.root,.slice a4 m4 c4] 91)).alloc (.cells #[.int .i64 0,.int .i64 1,.int .i64 2,.int .i64 0,.int .i64 3,.int .i64 0,.int .i64 4] 3)=W5 at kG xG lA u1 ⊢
      have p0:W5.cell? ⟨wr.heap.size,0,ah⟩=aa (.int .u8 0):=by simp [World.cell?,kG]
      have p1:W5.cell? ⟨wr.heap.size,1,ah⟩=aa (.int .i64 (wd.at':aB)):=by simp [World.cell?,kG]
      have p2:W5.cell? ⟨wr.heap.size,2,ah⟩=aa (.string q):=by simp [World.cell?,kG]
      have p3:W5.cell? ⟨wr.heap.size,3,ah⟩=aa (.bool wd.root):=by simp [World.cell?,kG]
      have p4:W5.cell? ⟨wr.heap.size,4,ah⟩=aa (.slice a4 m4 c4):=by simp [World.cell?,kG]
      have pk:W5.cell? ⟨wr.heap.size+1,0,ah⟩=aa (.int .i64 0):=by simp [World.cell?,xG]
      have IA:IntKind.u8.wrap 0=0:=by decide
      have h5:=kz.ext' lA
      clear v1 v2 v3 v4 y0 y1 y2 y3 y4 xG
      refine cW (by kernel_rfl) [18] (fun u v=>v.heap[w2.heap.size]?=u.heap[w2.heap.size]?∧v.heap[wr.heap.size]?=u.heap[wr.heap.size]?∧v.heap[wr.heap.size+1]?=u.heap[wr.heap.size+1]?) [(0,aj),(1,aj),(2,aj),(3,aj),(4,aj),(5,aj),(6,aj),(7,aj),(8,aj),(9,aj),(10,aj),(11,aj),(12,aj),(13,aj),(14,aj),(15,af),(16,af),(17,aj),(18,af)]
       (by kernel_rfl) (by kernel_rfl) (by kernel_rfl) (fun _=>⟨rfl,rfl,rfl⟩) (fun _ _ _ h1 h2=>⟨h2.1.trans h1.1,h2.2.1.trans h1.2.1,h2.2.2.trans h1.2.2⟩) ?_
      iterate 15 (
       refine' cS ?_ ?_ ?_ ?_;rotate_left 2
       ·(simp only [zA];rfl)
       ·rfl
       ·(intro w' hE;have q1:=(aD (a:=⟨w2.heap.size,0,ah⟩) hE.1).trans u1;have r0:=(aD (a:=⟨wr.heap.size,0,ah⟩) hE.2.1).trans p0;have r1:=(aD (a:=⟨wr.heap.size,1,ah⟩) hE.2.1).trans p1;have r2:=(aD (a:=⟨wr.heap.size,2,ah⟩) hE.2.1).trans p2;have r3:=(aD (a:=⟨wr.heap.size,3,ah⟩) hE.2.1).trans p3;have r4:=(aD (a:=⟨wr.heap.size,4,ah⟩) hE.2.1).trans p4;have rk:=(aD (a:=⟨wr.heap.size+1,0,ah⟩) hE.2.2).trans pk;go_simp;try rfl)
       try simp only [Act.put,zB])
      refine' jJ ?_ ?_;rotate_left 1
      ·(simp only [zA];rfl)
      intro K hK
      go_simp
      have z5:wr.heap.size < W5.heap.size:=cM p0
      have z6:wr.heap.size+1 < W5.heap.size:=cM pk
      have z7:w2.heap.size < W5.heap.size:=cM u1
      refine hK.out _ _ ⟨ck z7,ck z5,ck z6⟩ ?_
      clear hK K
      try simp only [Act.put,zB]
      have zO:Ext W5 (W5.alloc (.cells #[.int .u8 0,.int .i64 (wd.at':aB),.string q,.bool wd.root,.slice a4 m4 c4,.slice ah 0 0,.slice ah 0 0,.bool af,.int .u8 0] 58)):=Ext.push W5 _
      have h6:=h5.ext' zO
      have hnews:=tA W5 (Vn.cells ⟨0,wd.at',q,wd.root,.slice a4 m4 c4,.slice ah 0 0,.slice ah 0 0,af⟩) 58
      obtain ⟨i61,tI,hz0,hz1,hz2⟩:=info_parts zk
      have sR:=h6.nd.1
      rw [CI] at sR
      have kt:w2.heap.size+1≤(W5.alloc (.cells #[.int .u8 0,.int .i64 (wd.at':aB),.string q,.bool wd.root,.slice a4 m4 c4,.slice ah 0 0,.slice ah 0 0,.bool af,.int .u8 0] 58)).heap.size:=h6.zQ
      refine' jJ ?_ ?_;rotate_left 1
      ·(simp only [zA];rfl)
      intro K hK
      refine step_append_lies _ rfl (.tmp 65) (.tmp 79) 23 rfl (w2.heap.size+1) 58 i61 _ 9 120 dZ tI hz0 hz1 hz2 rfl (by decide) (.slice zm N.length cn) N.length (X.flatMap Vn.cells) rfl sR ⟨W5.heap.size,0,ah⟩ 1 1 (Vn.cells ⟨0,wd.at',q,wd.root,.slice a4 m4 c4,.slice ah 0 0,.slice ah 0 0,af⟩) rfl rfl hnews (by simp [Vn.cells,Value.oneCell']) (by decide) (by have:Go.maxLen=9223372036854775807:=rfl;have:=hsz.nodes;simp only at this;omega) (by have:=hsz.nodes;simp only at this;omega) kt _ rfl ?_
      intro g cap w7 jP cJ lY IB
      rw [← CI] at jP cJ lY ⊢
      have rH:(W5.alloc (.cells #[.int .u8 0,.int .i64 (wd.at':aB),.string q,.bool wd.root,.slice a4 m4 c4,.slice ah 0 0,.slice ah 0 0,.bool af,.int .u8 0] 58)).grownBy w7 (Value.slice zm X.length cn).ownBlock:=⟨cJ.os,cJ.tape,cJ.output,cJ.size,cJ.block⟩
      obtain ⟨QK,mV⟩:=h6.addNode (y:=fS wd) rH jP lY ⟨by show (0:ae)=cI wd.kind;rw [hk];rfl,rfl,hq,rfl,rfl,JX,rfl,_,_,_,rfl⟩ rfl rfl rfl rfl
      have gg:∀ g,(Value.slice zm X.length cn).ownBlock=aa g→w2.heap.size+1≤g∧g < wr.heap.size:=fun g e=>kz.nd.1.lt g e
      have IC:(W5.alloc (.cells #[.int .u8 0,.int .i64 (wd.at':aB),.string q,.bool wd.root,.slice a4 m4 c4,.slice ah 0 0,.slice ah 0 0,.bool af,.int .u8 0] 58)).heap.size=W5.heap.size+1:=by simp
      have mW:∀ b,b < W5.heap.size→(Value.slice zm X.length cn).ownBlock≠aa b→w7.heap[b]?=W5.heap[b]?:=fun b hb ho=>(rH.block b (by omega) (fun e=>ho e.symm)).trans (ck hb)
      have k7:=mW w2.heap.size z7 (fun e=>by have:=gg _ e;omega)
      have k5:=mW wr.heap.size z5 (fun e=>by have:=gg _ e;omega)
      have k6:=mW (wr.heap.size+1) z6 (fun e=>by have:=gg _ e;omega)
      have zN:=k7.trans h5.c7
      obtain ⟨-,-,e3,e4⟩:=cF zN
      refine hK.out _ _ ⟨k7.trans (ck z7).symm,k5.trans (ck z5).symm,k6.trans (ck z6).symm⟩ ?_
      clear hK K
      try simp only [Act.put,zB]
      refine' cS ?_ ?_ ?_ ?_;rotate_left 2
      ·(simp only [zA];rfl)
      ·rfl
      ·(intro w' hE;go_simp;try rfl)
      try simp only [Act.put,zB]
      obtain ⟨f1,-,f3,-⟩:=cF zN
      refine' my ?_ (by kernel_rfl) ?_;rotate_left 1
      ·(simp only [zA];rfl)
      intro K hK
      go_simp
      refine hK.out _ _ ?_
      clear hK K
      refine j9 ?_
      have xH:(w7.setCell ⟨w2.heap.size,0,ah⟩ (.slice (aa ⟨g,0,ah⟩) (X.length+1) cap)).cell? ⟨wr.heap.size,0,ah⟩=aa (.int .u8 0):=(aD (a:=⟨wr.heap.size,0,ah⟩) ((bl (show wr.heap.size≠w2.heap.size by omega)).trans k5)).trans p0
      rw [CI] at mV xH
      have ID:∀ v:aC,(w7.setCell ⟨w2.heap.size,0,ah⟩ v).heap.size=w7.heap.size:=fun v=>eL _ _ _
      have hap:AK (X ++ [⟨0,wd.at',q,wd.root,.slice a4 m4 c4,.slice ah 0 0,.slice ah 0 0,af⟩]) w2.heap.size (.slice (aa ⟨g,0,ah⟩) (N.length+1) cap) vt wr.heap.size:=by
       refine ⟨by omega,fun e=>?_,fun e=>by have:=(kz.tp.1.lt _ e).2;omega,fun x hx=>?_⟩
       ·simp only [Value.ownBlock,Option.some.injEq] at e
        rcases lY with h | h
        ·have:=gg g h;omega
        ·have:=h.trans IC;omega
       ·rcases List.mem_append.1 hx with hx | hx
        ·obtain ⟨j,hj,rfl⟩:=bU.1 hx
         have hj':j < N.length:=by omega
         obtain ⟨bb,be⟩:=kz.bd j _ _ (List.getElem?_eq_getElem hj) (List.getElem?_eq_getElem hj')
         exact ⟨fun e=>by have:=(bb.1.lt _ e).2;omega,fun e=>by have:=(be.1.lt _ e).2;omega⟩
        ·obtain rfl:=List.mem_singleton.1 hx
         exact ⟨nofun,nofun⟩
      have CO:wr.heap.size < w7.heap.size:=by have:=rH.size;omega
      generalize IE:w7.setCell ⟨w2.heap.size,0,ah⟩ (.slice (aa ⟨g,0,ah⟩) (N.length+1) cap)=W8 at mV xH ⊢
      have CP:wr.heap.size < W8.heap.size:=by rw [← IE,ID];exact CO
      have lB:=za mV Nn zn (by omega) (n:=N.length)
      clear e3 e4 f1 f3 zN k5 k6 k7 mW IC rH cJ jP lY hnews sR zO h6 h5 u1 p0 p1 p2 p3 p4 pk kG lA z5 z6 z7 kt hz0 hz1 hz2 tI IE ID gg mV kz
      gi_wp2_with (refine ⟨trivial,?_⟩;gi_at_call 38;refine lB.mono ?_;clear lB;rintro e w9 ⟨rfl,⟨X9,Fh,Zp,Zq,zo⟩,lH⟩;have z9:=(aD (a:=⟨wr.heap.size,0,ah⟩) (lH wr.heap.size CP hap)).trans xH;clear lH hap xH)
      exact ⟨⟨i+1,_,_,_,_,_,bA (Value.int .i64) (by omega),hlt,hrun,vF,hsz',zo⟩,by show _ - Int.toNat _ < _ - Int.toNat _;omega⟩
     ·rw [hk] at y0
      have hst:gl ⟨N,T,S⟩ wd=.inl (Ms.add ⟨N ++ [fS wd],T,S⟩ [N.length]):=by
       unfold gl
       rw [aI (by simp [hk]),aI (by simp [hk]),aI (by simp [hk])]
       simp [hk]
      have vF:=pC CZ hst
      have hsz':=pD hsz hst
      rw [hst] at hrun
      simp only at hrun
      have lA:Ext wr ((wr.alloc (.cells #[.int .u8 1,.int .i64 (wd.at':aB),.string q,.bool wd.root,.slice a4 m4 c4] 91)).alloc (.cells #[.int .i64 0,.int .i64 1,.int .i64 2,.int .i64 0,.int .i64 3,.int .i64 0,.int .i64 4] 3)):=(Ext.push wr _).trans (Ext.push _ _)
      have u1:=cE lA v1
      generalize hd:S.length=d at *
      gi_wp2
      rw [wpIn_wide]
      have kG:=ck (o:=.cells #[.int .i64 0,.int .i64 1,.int .i64 2,.int .i64 0,.int .i64 3,.int .i64 0,.int .i64 4] 3) (w:=wr.alloc (.cells #[.int .u8 1,.int .i64 (wd.at':aB),.string q,.bool wd.root,.slice a4 m4 c4] 91)) (i:=wr.heap.size) (by simp)
      rw [World.alloc_heap_new wr _] at kG
      have xG:=World.alloc_heap_new (wr.alloc (.cells #[.int .u8 1,.int .i64 (wd.at':aB),.string q,.bool wd.root,.slice a4 m4 c4] 91)) (.cells #[.int .i64 0,.int .i64 1,.int .i64 2,.int .i64 0,.int .i64 3,.int .i64 0,.int .i64 4] 3)
      rw [show (wr.alloc (.cells #[.int .u8 1,.int .i64 (wd.at':aB),.string q,.bool wd.root,.slice a4 m4 c4] 91)).heap.size=wr.heap.size+1 by simp] at xG
      generalize (wr.alloc (.cells #[.int .u8 1,.int .i64 (wd.at':aB),.string q,.bool wd.root,.slice a4 m4 c4] 91)).alloc (.cells #[.int .i64 0,.int .i64 1,.int .i64 2,.int .i64 0,.int .i64 3,.int .i64 0,.int .i64 4] 3)=W5 at kG xG lA u1 ⊢
      have p0:W5.cell? ⟨wr.heap.size,0,ah⟩=aa (.int .u8 1):=by simp [World.cell?,kG]
      have p1:W5.cell? ⟨wr.heap.size,1,ah⟩=aa (.int .i64 (wd.at':aB)):=by simp [World.cell?,kG]
      have p2:W5.cell? ⟨wr.heap.size,2,ah⟩=aa (.string q):=by simp [World.cell?,kG]
      have p3:W5.cell? ⟨wr.heap.size,3,ah⟩=aa (.bool wd.root):=by simp [World.cell?,kG]
      have p4:W5.cell? ⟨wr.heap.size,4,ah⟩=aa (.slice a4 m4 c4):=by simp [World.cell?,kG]
      have pk:W5.cell? ⟨wr.heap.size+1,1,ah⟩=aa (.int .i64 1):=by simp [World.cell?,xG]
      have IA:IntKind.u8.wrap 1=1:=by decide
      have h5:=kz.ext' lA
      clear v1 v2 v3 v4 y0 y1 y2 y3 y4 xG
      refine cW (by kernel_rfl) [18] (fun u v=>v.heap[w2.heap.size]?=u.heap[w2.heap.size]?∧v.heap[wr.heap.size]?=u.heap[wr.heap.size]?∧v.heap[wr.heap.size+1]?=u.heap[wr.heap.size+1]?) [(0,aj),(1,aj),(2,aj),(3,aj),(4,aj),(5,aj),(6,aj),(7,aj),(8,aj),(9,aj),(10,aj),(11,aj),(12,aj),(13,aj),(14,aj),(15,af),(16,af),(17,aj),(18,af)]
       (by kernel_rfl) (by kernel_rfl) (by kernel_rfl) (fun _=>⟨rfl,rfl,rfl⟩) (fun _ _ _ h1 h2=>⟨h2.1.trans h1.1,h2.2.1.trans h1.2.1,h2.2.2.trans h1.2.2⟩) ?_
      iterate 15 (
       refine' cS ?_ ?_ ?_ ?_;rotate_left 2
       ·(simp only [zA];rfl)
       ·rfl
       ·(intro w' hE;have q1:=(aD (a:=⟨w2.heap.size,0,ah⟩) hE.1).trans u1;have r0:=(aD (a:=⟨wr.heap.size,0,ah⟩) hE.2.1).trans p0;have r1:=(aD (a:=⟨wr.heap.size,1,ah⟩) hE.2.1).trans p1;have r2:=(aD (a:=⟨wr.heap.size,2,ah⟩) hE.2.1).trans p2;have r3:=(aD (a:=⟨wr.heap.size,3,ah⟩) hE.2.1).trans p3;have r4:=(aD (a:=⟨wr.heap.size,4,ah⟩) hE.2.1).trans p4;have rk:=(aD (a:=⟨wr.heap.size+1,1,ah⟩) hE.2.2).trans pk;go_simp;try rfl)
       try simp only [Act.put,zB])
      refine' jJ ?_ ?_;rotate_left 1
      ·(simp only [zA];rfl)
      intro K hK
      go_simp
      have z5:wr.heap.size < W5.heap.size:=cM p0
      have z6:wr.heap.size+1 < W5.heap.size:=cM pk
      have z7:w2.heap.size < W5.heap.size:=cM u1
      refine hK.out _ _ ⟨ck z7,ck z5,ck z6⟩ ?_
      clear hK K
      try simp only [Act.put,zB]
      have zO:Ext W5 (W5.alloc (.cells #[.int .u8 1,.int .i64 (wd.at':aB),.string q,.bool wd.root,.slice a4 m4 c4,.slice ah 0 0,.slice ah 0 0,.bool af,.int .u8 0] 58)):=Ext.push W5 _
      have h6:=h5.ext' zO
      have hnews:=tA W5 (Vn.cells ⟨1,wd.at',q,wd.root,.slice a4 m4 c4,.slice ah 0 0,.slice ah 0 0,af⟩) 58
      obtain ⟨i61,tI,hz0,hz1,hz2⟩:=info_parts zk
      have sR:=h6.nd.1
      rw [CI] at sR
      have kt:w2.heap.size+1≤(W5.alloc (.cells #[.int .u8 1,.int .i64 (wd.at':aB),.string q,.bool wd.root,.slice a4 m4 c4,.slice ah 0 0,.slice ah 0 0,.bool af,.int .u8 0] 58)).heap.size:=h6.zQ
      refine' jJ ?_ ?_;rotate_left 1
      ·(simp only [zA];rfl)
      intro K hK
      refine step_append_lies _ rfl (.tmp 65) (.tmp 79) 23 rfl (w2.heap.size+1) 58 i61 _ 9 120 dZ tI hz0 hz1 hz2 rfl (by decide) (.slice zm N.length cn) N.length (X.flatMap Vn.cells) rfl sR ⟨W5.heap.size,0,ah⟩ 1 1 (Vn.cells ⟨1,wd.at',q,wd.root,.slice a4 m4 c4,.slice ah 0 0,.slice ah 0 0,af⟩) rfl rfl hnews (by simp [Vn.cells,Value.oneCell']) (by decide) (by have:Go.maxLen=9223372036854775807:=rfl;have:=hsz.nodes;simp only at this;omega) (by have:=hsz.nodes;simp only at this;omega) kt _ rfl ?_
      intro g cap w7 jP cJ lY IB
      rw [← CI] at jP cJ lY ⊢
      have rH:(W5.alloc (.cells #[.int .u8 1,.int .i64 (wd.at':aB),.string q,.bool wd.root,.slice a4 m4 c4,.slice ah 0 0,.slice ah 0 0,.bool af,.int .u8 0] 58)).grownBy w7 (Value.slice zm X.length cn).ownBlock:=⟨cJ.os,cJ.tape,cJ.output,cJ.size,cJ.block⟩
      obtain ⟨QK,mV⟩:=h6.addNode (y:=fS wd) rH jP lY ⟨by show (1:ae)=cI wd.kind;rw [hk];rfl,rfl,hq,rfl,rfl,JX,rfl,_,_,_,rfl⟩ rfl rfl rfl rfl
      have gg:∀ g,(Value.slice zm X.length cn).ownBlock=aa g→w2.heap.size+1≤g∧g < wr.heap.size:=fun g e=>kz.nd.1.lt g e
      have IC:(W5.alloc (.cells #[.int .u8 1,.int .i64 (wd.at':aB),.string q,.bool wd.root,.slice a4 m4 c4,.slice ah 0 0,.slice ah 0 0,.bool af,.int .u8 0] 58)).heap.size=W5.heap.size+1:=by simp
      have mW:∀ b,b < W5.heap.size→(Value.slice zm X.length cn).ownBlock≠aa b→w7.heap[b]?=W5.heap[b]?:=fun b hb ho=>(rH.block b (by omega) (fun e=>ho e.symm)).trans (ck hb)
      have k7:=mW w2.heap.size z7 (fun e=>by have:=gg _ e;omega)
      have k5:=mW wr.heap.size z5 (fun e=>by have:=gg _ e;omega)
      have k6:=mW (wr.heap.size+1) z6 (fun e=>by have:=gg _ e;omega)
      have zN:=k7.trans h5.c7
      obtain ⟨-,-,e3,e4⟩:=cF zN
      refine hK.out _ _ ⟨k7.trans (ck z7).symm,k5.trans (ck z5).symm,k6.trans (ck z6).symm⟩ ?_
      clear hK K
      try simp only [Act.put,zB]
      refine' cS ?_ ?_ ?_ ?_;rotate_left 2
      ·(simp only [zA];rfl)
      ·rfl
      ·(intro w' hE;go_simp;try rfl)
      try simp only [Act.put,zB]
      obtain ⟨f1,-,f3,-⟩:=cF zN
      refine' my ?_ (by kernel_rfl) ?_;rotate_left 1
      ·(simp only [zA];rfl)
      intro K hK
      go_simp
      refine hK.out _ _ ?_
      clear hK K
      refine j9 ?_
      have xH:(w7.setCell ⟨w2.heap.size,0,ah⟩ (.slice (aa ⟨g,0,ah⟩) (X.length+1) cap)).cell? ⟨wr.heap.size,0,ah⟩=aa (.int .u8 1):=(aD (a:=⟨wr.heap.size,0,ah⟩) ((bl (show wr.heap.size≠w2.heap.size by omega)).trans k5)).trans p0
      rw [CI] at mV xH
      have ID:∀ v:aC,(w7.setCell ⟨w2.heap.size,0,ah⟩ v).heap.size=w7.heap.size:=fun v=>eL _ _ _
      have hap:AK (X ++ [⟨1,wd.at',q,wd.root,.slice a4 m4 c4,.slice ah 0 0,.slice ah 0 0,af⟩]) w2.heap.size (.slice (aa ⟨g,0,ah⟩) (N.length+1) cap) vt wr.heap.size:=by
       refine ⟨by omega,fun e=>?_,fun e=>by have:=(kz.tp.1.lt _ e).2;omega,fun x hx=>?_⟩
       ·simp only [Value.ownBlock,Option.some.injEq] at e
        rcases lY with h | h
        ·have:=gg g h;omega
        ·have:=h.trans IC;omega
       ·rcases List.mem_append.1 hx with hx | hx
        ·obtain ⟨j,hj,rfl⟩:=bU.1 hx
         have hj':j < N.length:=by omega
         obtain ⟨bb,be⟩:=kz.bd j _ _ (List.getElem?_eq_getElem hj) (List.getElem?_eq_getElem hj')
         exact ⟨fun e=>by have:=(bb.1.lt _ e).2;omega,fun e=>by have:=(be.1.lt _ e).2;omega⟩
        ·obtain rfl:=List.mem_singleton.1 hx
         exact ⟨nofun,nofun⟩
      have CO:wr.heap.size < w7.heap.size:=by have:=rH.size;omega
      generalize IE:w7.setCell ⟨w2.heap.size,0,ah⟩ (.slice (aa ⟨g,0,ah⟩) (N.length+1) cap)=W8 at mV xH ⊢
      have CP:wr.heap.size < W8.heap.size:=by rw [← IE,ID];exact CO
      have lB:=za mV Nn zn (by omega) (n:=N.length)
      clear e3 e4 f1 f3 zN k5 k6 k7 mW IC rH cJ jP lY hnews sR zO h6 h5 u1 p0 p1 p2 p3 p4 pk kG lA z5 z6 z7 kt hz0 hz1 hz2 tI IE ID gg mV kz
      gi_wp2_with (refine ⟨trivial,?_⟩;gi_at_call 38;refine lB.mono ?_;clear lB;rintro e w9 ⟨rfl,⟨X9,Fh,Zp,Zq,zo⟩,lH⟩;have z9:=(aD (a:=⟨wr.heap.size,0,ah⟩) (lH wr.heap.size CP hap)).trans xH;clear lH hap xH)
      exact ⟨⟨i+1,_,_,_,_,_,bA (Value.int .i64) (by omega),hlt,hrun,vF,hsz',zo⟩,by show _ - Int.toNat _ < _ - Int.toNat _;omega⟩
     ·rw [hk] at y0
      have hst:gl ⟨N,T,S⟩ wd=.inl (Ms.add ⟨N ++ [fS wd],T,S⟩ [N.length]):=by
       unfold gl
       rw [aI (by simp [hk]),aI (by simp [hk]),aI (by simp [hk])]
       simp [hk]
      have vF:=pC CZ hst
      have hsz':=pD hsz hst
      rw [hst] at hrun
      simp only at hrun
      have lA:Ext wr ((wr.alloc (.cells #[.int .u8 6,.int .i64 (wd.at':aB),.string q,.bool wd.root,.slice a4 m4 c4] 91)).alloc (.cells #[.int .i64 0,.int .i64 1,.int .i64 2,.int .i64 0,.int .i64 3,.int .i64 0,.int .i64 4] 3)):=(Ext.push wr _).trans (Ext.push _ _)
      have u1:=cE lA v1
      generalize hd:S.length=d at *
      gi_wp2
      rw [wpIn_wide]
      have kG:=ck (o:=.cells #[.int .i64 0,.int .i64 1,.int .i64 2,.int .i64 0,.int .i64 3,.int .i64 0,.int .i64 4] 3) (w:=wr.alloc (.cells #[.int .u8 6,.int .i64 (wd.at':aB),.string q,.bool wd.root,.slice a4 m4 c4] 91)) (i:=wr.heap.size) (by simp)
      rw [World.alloc_heap_new wr _] at kG
      have xG:=World.alloc_heap_new (wr.alloc (.cells #[.int .u8 6,.int .i64 (wd.at':aB),.string q,.bool wd.root,.slice a4 m4 c4] 91)) (.cells #[.int .i64 0,.int .i64 1,.int .i64 2,.int .i64 0,.int .i64 3,.int .i64 0,.int .i64 4] 3)
      rw [show (wr.alloc (.cells #[.int .u8 6,.int .i64 (wd.at':aB),.string q,.bool wd.root,.slice a4 m4 c4] 91)).heap.size=wr.heap.size+1 by simp] at xG
      generalize (wr.alloc (.cells #[.int .u8 6,.int .i64 (wd.at':aB),.string q,.bool wd.root,.slice a4 m4 c4] 91)).alloc (.cells #[.int .i64 0,.int .i64 1,.int .i64 2,.int .i64 0,.int .i64 3,.int .i64 0,.int .i64 4] 3)=W5 at kG xG lA u1 ⊢
      have p0:W5.cell? ⟨wr.heap.size,0,ah⟩=aa (.int .u8 6):=by simp [World.cell?,kG]
      have p1:W5.cell? ⟨wr.heap.size,1,ah⟩=aa (.int .i64 (wd.at':aB)):=by simp [World.cell?,kG]
      have p2:W5.cell? ⟨wr.heap.size,2,ah⟩=aa (.string q):=by simp [World.cell?,kG]
      have p3:W5.cell? ⟨wr.heap.size,3,ah⟩=aa (.bool wd.root):=by simp [World.cell?,kG]
      have p4:W5.cell? ⟨wr.heap.size,4,ah⟩=aa (.slice a4 m4 c4):=by simp [World.cell?,kG]
      have pk:W5.cell? ⟨wr.heap.size+1,6,ah⟩=aa (.int .i64 4):=by simp [World.cell?,xG]
      have IA:IntKind.u8.wrap 4=4:=by decide
      have h5:=kz.ext' lA
      clear v1 v2 v3 v4 y0 y1 y2 y3 y4 xG
      refine cW (by kernel_rfl) [18] (fun u v=>v.heap[w2.heap.size]?=u.heap[w2.heap.size]?∧v.heap[wr.heap.size]?=u.heap[wr.heap.size]?∧v.heap[wr.heap.size+1]?=u.heap[wr.heap.size+1]?) [(0,aj),(1,aj),(2,aj),(3,aj),(4,aj),(5,aj),(6,aj),(7,aj),(8,aj),(9,aj),(10,aj),(11,aj),(12,aj),(13,aj),(14,aj),(15,af),(16,af),(17,aj),(18,af)]
       (by kernel_rfl) (by kernel_rfl) (by kernel_rfl) (fun _=>⟨rfl,rfl,rfl⟩) (fun _ _ _ h1 h2=>⟨h2.1.trans h1.1,h2.2.1.trans h1.2.1,h2.2.2.trans h1.2.2⟩) ?_
      iterate 15 (
       refine' cS ?_ ?_ ?_ ?_;rotate_left 2
       ·(simp only [zA];rfl)
       ·rfl
       ·(intro w' hE;have q1:=(aD (a:=⟨w2.heap.size,0,ah⟩) hE.1).trans u1;have r0:=(aD (a:=⟨wr.heap.size,0,ah⟩) hE.2.1).trans p0;have r1:=(aD (a:=⟨wr.heap.size,1,ah⟩) hE.2.1).trans p1;have r2:=(aD (a:=⟨wr.heap.size,2,ah⟩) hE.2.1).trans p2;have r3:=(aD (a:=⟨wr.heap.size,3,ah⟩) hE.2.1).trans p3;have r4:=(aD (a:=⟨wr.heap.size,4,ah⟩) hE.2.1).trans p4;have rk:=(aD (a:=⟨wr.heap.size+1,6,ah⟩) hE.2.2).trans pk;go_simp;try rfl)
       try simp only [Act.put,zB])
      refine' jJ ?_ ?_;rotate_left 1
      ·(simp only [zA];rfl)
      intro K hK
      go_simp
      have z5:wr.heap.size < W5.heap.size:=cM p0
      have z6:wr.heap.size+1 < W5.heap.size:=cM pk
      have z7:w2.heap.size < W5.heap.size:=cM u1
      refine hK.out _ _ ⟨ck z7,ck z5,ck z6⟩ ?_
      clear hK K
      try simp only [Act.put,zB]
      have zO:Ext W5 (W5.alloc (.cells #[.int .u8 4,.int .i64 (wd.at':aB),.string q,.bool wd.root,.slice a4 m4 c4,.slice ah 0 0,.slice ah 0 0,.bool af,.int .u8 0] 58)):=Ext.push W5 _
      have h6:=h5.ext' zO
      have hnews:=tA W5 (Vn.cells ⟨4,wd.at',q,wd.root,.slice a4 m4 c4,.slice ah 0 0,.slice ah 0 0,af⟩) 58
      obtain ⟨i61,tI,hz0,hz1,hz2⟩:=info_parts zk
      have sR:=h6.nd.1
      rw [CI] at sR
      have kt:w2.heap.size+1≤(W5.alloc (.cells #[.int .u8 4,.int .i64 (wd.at':aB),.string q,.bool wd.root,.slice a4 m4 c4,.slice ah 0 0,.slice ah 0 0,.bool af,.int .u8 0] 58)).heap.size:=h6.zQ
      refine' jJ ?_ ?_;rotate_left 1
      ·(simp only [zA];rfl)
      intro K hK
      refine step_append_lies _ rfl (.tmp 65) (.tmp 79) 23 rfl (w2.heap.size+1) 58 i61 _ 9 120 dZ tI hz0 hz1 hz2 rfl (by decide) (.slice zm N.length cn) N.length (X.flatMap Vn.cells) rfl sR ⟨W5.heap.size,0,ah⟩ 1 1 (Vn.cells ⟨4,wd.at',q,wd.root,.slice a4 m4 c4,.slice ah 0 0,.slice ah 0 0,af⟩) rfl rfl hnews (by simp [Vn.cells,Value.oneCell']) (by decide) (by have:Go.maxLen=9223372036854775807:=rfl;have:=hsz.nodes;simp only at this;omega) (by have:=hsz.nodes;simp only at this;omega) kt _ rfl ?_
      intro g cap w7 jP cJ lY IB
      rw [← CI] at jP cJ lY ⊢
      have rH:(W5.alloc (.cells #[.int .u8 4,.int .i64 (wd.at':aB),.string q,.bool wd.root,.slice a4 m4 c4,.slice ah 0 0,.slice ah 0 0,.bool af,.int .u8 0] 58)).grownBy w7 (Value.slice zm X.length cn).ownBlock:=⟨cJ.os,cJ.tape,cJ.output,cJ.size,cJ.block⟩
      obtain ⟨QK,mV⟩:=h6.addNode (y:=fS wd) rH jP lY ⟨by show (4:ae)=cI wd.kind;rw [hk];rfl,rfl,hq,rfl,rfl,JX,rfl,_,_,_,rfl⟩ rfl rfl rfl rfl
      have gg:∀ g,(Value.slice zm X.length cn).ownBlock=aa g→w2.heap.size+1≤g∧g < wr.heap.size:=fun g e=>kz.nd.1.lt g e
      have IC:(W5.alloc (.cells #[.int .u8 4,.int .i64 (wd.at':aB),.string q,.bool wd.root,.slice a4 m4 c4,.slice ah 0 0,.slice ah 0 0,.bool af,.int .u8 0] 58)).heap.size=W5.heap.size+1:=by simp
      have mW:∀ b,b < W5.heap.size→(Value.slice zm X.length cn).ownBlock≠aa b→w7.heap[b]?=W5.heap[b]?:=fun b hb ho=>(rH.block b (by omega) (fun e=>ho e.symm)).trans (ck hb)
      have k7:=mW w2.heap.size z7 (fun e=>by have:=gg _ e;omega)
      have k5:=mW wr.heap.size z5 (fun e=>by have:=gg _ e;omega)
      have k6:=mW (wr.heap.size+1) z6 (fun e=>by have:=gg _ e;omega)
      have zN:=k7.trans h5.c7
      obtain ⟨-,-,e3,e4⟩:=cF zN
      refine hK.out _ _ ⟨k7.trans (ck z7).symm,k5.trans (ck z5).symm,k6.trans (ck z6).symm⟩ ?_
      clear hK K
      try simp only [Act.put,zB]
      refine' cS ?_ ?_ ?_ ?_;rotate_left 2
      ·(simp only [zA];rfl)
      ·rfl
      ·(intro w' hE;go_simp;try rfl)
      try simp only [Act.put,zB]
      obtain ⟨f1,-,f3,-⟩:=cF zN
      refine' my ?_ (by kernel_rfl) ?_;rotate_left 1
      ·(simp only [zA];rfl)
      intro K hK
      go_simp
      refine hK.out _ _ ?_
      clear hK K
      refine j9 ?_
      have xH:(w7.setCell ⟨w2.heap.size,0,ah⟩ (.slice (aa ⟨g,0,ah⟩) (X.length+1) cap)).cell? ⟨wr.heap.size,0,ah⟩=aa (.int .u8 6):=(aD (a:=⟨wr.heap.size,0,ah⟩) ((bl (show wr.heap.size≠w2.heap.size by omega)).trans k5)).trans p0
      rw [CI] at mV xH
      have ID:∀ v:aC,(w7.setCell ⟨w2.heap.size,0,ah⟩ v).heap.size=w7.heap.size:=fun v=>eL _ _ _
      have hap:AK (X ++ [⟨4,wd.at',q,wd.root,.slice a4 m4 c4,.slice ah 0 0,.slice ah 0 0,af⟩]) w2.heap.size (.slice (aa ⟨g,0,ah⟩) (N.length+1) cap) vt wr.heap.size:=by
       refine ⟨by omega,fun e=>?_,fun e=>by have:=(kz.tp.1.lt _ e).2;omega,fun x hx=>?_⟩
       ·simp only [Value.ownBlock,Option.some.injEq] at e
        rcases lY with h | h
        ·have:=gg g h;omega
        ·have:=h.trans IC;omega
       ·rcases List.mem_append.1 hx with hx | hx
        ·obtain ⟨j,hj,rfl⟩:=bU.1 hx
         have hj':j < N.length:=by omega
         obtain ⟨bb,be⟩:=kz.bd j _ _ (List.getElem?_eq_getElem hj) (List.getElem?_eq_getElem hj')
         exact ⟨fun e=>by have:=(bb.1.lt _ e).2;omega,fun e=>by have:=(be.1.lt _ e).2;omega⟩
        ·obtain rfl:=List.mem_singleton.1 hx
         exact ⟨nofun,nofun⟩
      have CO:wr.heap.size < w7.heap.size:=by have:=rH.size;omega
      generalize IE:w7.setCell ⟨w2.heap.size,0,ah⟩ (.slice (aa ⟨g,0,ah⟩) (N.length+1) cap)=W8 at mV xH ⊢
      have CP:wr.heap.size < W8.heap.size:=by rw [← IE,ID];exact CO
      have lB:=za mV Nn zn (by omega) (n:=N.length)
      clear e3 e4 f1 f3 zN k5 k6 k7 mW IC rH cJ jP lY hnews sR zO h6 h5 u1 p0 p1 p2 p3 p4 pk kG lA z5 z6 z7 kt hz0 hz1 hz2 tI IE ID gg mV kz
      gi_wp2_with (refine ⟨trivial,?_⟩;gi_at_call 38;refine lB.mono ?_;clear lB;rintro e w9 ⟨rfl,⟨X9,Fh,Zp,Zq,zo⟩,lH⟩;have z9:=(aD (a:=⟨wr.heap.size,0,ah⟩) (lH wr.heap.size CP hap)).trans xH;clear lH hap xH)
      exact ⟨⟨i+1,_,_,_,_,_,bA (Value.int .i64) (by omega),hlt,hrun,vF,hsz',zo⟩,by show _ - Int.toNat _ < _ - Int.toNat _;omega⟩
     ·by_cases VF:16≤S.length
      ·have uE:oh ws=.bad wd.at' 3:=by
        rw [← hrun]
        unfold gl
        rw [aI (by simp [hk]),aI (by simp [hk]),aJ (by simp [hk];omega)]
       clear hrun
       rw [hk] at y0
       have UY:(16:aB)≤(S.length:aB):=by omega
       generalize hd:S.length=d at *
       gi_wp2
       rw [wpIn_wide]
       have kW:Ext wr (wr.alloc (.cells #[.int .u8 2,.int .i64 (wd.at':aB),.string q,.bool wd.root,.slice a4 m4 c4] 91)):=Ext.push wr _
       have kG:=World.alloc_heap_new wr (.cells #[.int .u8 2,.int .i64 (wd.at':aB),.string q,.bool wd.root,.slice a4 m4 c4] 91)
       generalize wr.alloc (.cells #[.int .u8 2,.int .i64 (wd.at':aB),.string q,.bool wd.root,.slice a4 m4 c4] 91)=W5 at kW kG ⊢
       have p1:W5.cell? ⟨wr.heap.size,1,ah⟩=aa (.int .i64 (wd.at':aB)):=by simp [World.cell?,kG]
       clear kG
       have zP:=(kW.block _ (Array.getElem?_eq_some_iff.1 nP).1).trans nP
       obtain ⟨v1,v2,v3,v4⟩:=cF zP
       have hne:wr.heap.size≠w.heap.size:=by have:=(Array.getElem?_eq_some_iff.1 nP).1;omega
       clear y0 y1 y2 y3 y4 RU JX RV kz
       refine cW (by kernel_rfl) [] (fun u v=>v.cell? ⟨wr.heap.size,1,ah⟩=u.cell? ⟨wr.heap.size,1,ah⟩) [(0,aj),(1,aj),(2,aj),(3,af),(4,aj),(5,aj)]
        (by kernel_rfl) (by kernel_rfl) (by kernel_rfl) (fun _=>rfl) (fun _ _ _ h1 h2=>h2.trans h1) ?_
       iterate 3 (
        refine' cS ?_ ?_ ?_ ?_;rotate_left 2
        ·(simp only [zA];rfl)
        ·rfl
        ·(intro w' hE;have q1:=hE.trans p1;go_simp;try rfl)
        try simp only [Act.put,zB])
       refine' jJ ?_ ?_;rotate_left 1
       ·(simp only [zA];rfl)
       intro K hK
       go_simp
       refine hK.out _ _ (aD ((bl hne).trans (bl hne))) ?_
       clear hK K
       try simp only [Act.put,zB]
       iterate 2 (
        refine' cS ?_ ?_ ?_ ?_;rotate_left 2
        ·(simp only [zA];rfl)
        ·rfl
        ·(intro w' hE;go_simp;try rfl)
        try simp only [Act.put,zB])
       refine j9 ?_
       gi_wp2
       refine bodyPost_ret (results36 _ _ w.heap.size (.slice ah 0 0) (.slice ah 0 0) (.int .i64 (wd.at':aB)) (.int .i64 3) rfl rfl rfl (eM _ _ zP)) rfl ?_
       exact ⟨ju (lS (hx1.trans (hx2.trans (kJ.trans kW)))) _ _,(by rw [uE];first | done | rfl)⟩
      ·rw [hk] at y0
       have hst:gl ⟨N,T,S⟩ wd=.inl ⟨(Ms.add ⟨N ++ [fS wd],T,S⟩ [N.length]).nodes,(Ms.add ⟨N ++ [fS wd],T,S⟩ [N.length]).top,S ++ [⟨N.length,2,af⟩]⟩:=by
        unfold gl
        rw [aI (by simp [hk]),aI (by simp [hk]),aI (by simp [hk];omega)]
        simp [hk,oO]
       have UY:(S.length:aB) < 16:=by omega
       obtain ⟨i108,hj9,hw0,QL,hw2⟩:=info_parts Iw
       have vF:=pC CZ hst
       have hsz':=pD hsz hst
       rw [hst] at hrun
       simp only at hrun
       have lA:Ext wr ((wr.alloc (.cells #[.int .u8 2,.int .i64 (wd.at':aB),.string q,.bool wd.root,.slice a4 m4 c4] 91)).alloc (.cells #[.int .i64 0,.int .i64 1,.int .i64 2,.int .i64 0,.int .i64 3,.int .i64 0,.int .i64 4] 3)):=(Ext.push wr _).trans (Ext.push _ _)
       have u1:=cE lA v1
       generalize hd:S.length=d at *
       gi_wp2
       rw [wpIn_wide]
       have kG:=ck (o:=.cells #[.int .i64 0,.int .i64 1,.int .i64 2,.int .i64 0,.int .i64 3,.int .i64 0,.int .i64 4] 3) (w:=wr.alloc (.cells #[.int .u8 2,.int .i64 (wd.at':aB),.string q,.bool wd.root,.slice a4 m4 c4] 91)) (i:=wr.heap.size) (by simp)
       rw [World.alloc_heap_new wr _] at kG
       have xG:=World.alloc_heap_new (wr.alloc (.cells #[.int .u8 2,.int .i64 (wd.at':aB),.string q,.bool wd.root,.slice a4 m4 c4] 91)) (.cells #[.int .i64 0,.int .i64 1,.int .i64 2,.int .i64 0,.int .i64 3,.int .i64 0,.int .i64 4] 3)
       rw [show (wr.alloc (.cells #[.int .u8 2,.int .i64 (wd.at':aB),.string q,.bool wd.root,.slice a4 m4 c4] 91)).heap.size=wr.heap.size+1 by simp] at xG
       generalize (wr.alloc (.cells #[.int .u8 2,.int .i64 (wd.at':aB),.string q,.bool wd.root,.slice a4 m4 c4] 91)).alloc (.cells #[.int .i64 0,.int .i64 1,.int .i64 2,.int .i64 0,.int .i64 3,.int .i64 0,.int .i64 4] 3)=W5 at kG xG lA u1 ⊢
       have p0:W5.cell? ⟨wr.heap.size,0,ah⟩=aa (.int .u8 2):=by simp [World.cell?,kG]
       have p1:W5.cell? ⟨wr.heap.size,1,ah⟩=aa (.int .i64 (wd.at':aB)):=by simp [World.cell?,kG]
       have p2:W5.cell? ⟨wr.heap.size,2,ah⟩=aa (.string q):=by simp [World.cell?,kG]
       have p3:W5.cell? ⟨wr.heap.size,3,ah⟩=aa (.bool wd.root):=by simp [World.cell?,kG]
       have p4:W5.cell? ⟨wr.heap.size,4,ah⟩=aa (.slice a4 m4 c4):=by simp [World.cell?,kG]
       have pk:W5.cell? ⟨wr.heap.size+1,2,ah⟩=aa (.int .i64 2):=by simp [World.cell?,xG]
       have IA:IntKind.u8.wrap 2=2:=by decide
       have h5:=kz.ext' lA
       clear v1 v2 v3 v4 y0 y1 y2 y3 y4 xG
       refine cW (by kernel_rfl) [18] (fun u v=>v.heap[w2.heap.size]?=u.heap[w2.heap.size]?∧v.heap[wr.heap.size]?=u.heap[wr.heap.size]?∧v.heap[wr.heap.size+1]?=u.heap[wr.heap.size+1]?) [(0,aj),(1,aj),(2,aj),(3,aj),(4,aj),(5,aj),(6,aj),(7,aj),(8,aj),(9,aj),(10,aj),(11,aj),(12,aj),(13,aj),(14,aj),(15,af),(16,af),(17,aj),(18,af)]
        (by kernel_rfl) (by kernel_rfl) (by kernel_rfl) (fun _=>⟨rfl,rfl,rfl⟩) (fun _ _ _ h1 h2=>⟨h2.1.trans h1.1,h2.2.1.trans h1.2.1,h2.2.2.trans h1.2.2⟩) ?_
       iterate 15 (
        refine' cS ?_ ?_ ?_ ?_;rotate_left 2
        ·(simp only [zA];rfl)
        ·rfl
        ·(intro w' hE;have q1:=(aD (a:=⟨w2.heap.size,0,ah⟩) hE.1).trans u1;have r0:=(aD (a:=⟨wr.heap.size,0,ah⟩) hE.2.1).trans p0;have r1:=(aD (a:=⟨wr.heap.size,1,ah⟩) hE.2.1).trans p1;have r2:=(aD (a:=⟨wr.heap.size,2,ah⟩) hE.2.1).trans p2;have r3:=(aD (a:=⟨wr.heap.size,3,ah⟩) hE.2.1).trans p3;have r4:=(aD (a:=⟨wr.heap.size,4,ah⟩) hE.2.1).trans p4;have rk:=(aD (a:=⟨wr.heap.size+1,2,ah⟩) hE.2.2).trans pk;go_simp;try rfl)
        try simp only [Act.put,zB])
       refine' jJ ?_ ?_;rotate_left 1
       ·(simp only [zA];rfl)
       intro K hK
       go_simp
       have z5:wr.heap.size < W5.heap.size:=cM p0
       have z6:wr.heap.size+1 < W5.heap.size:=cM pk
       have z7:w2.heap.size < W5.heap.size:=cM u1
       refine hK.out _ _ ⟨ck z7,ck z5,ck z6⟩ ?_
       clear hK K
       try simp only [Act.put,zB]
       have zO:Ext W5 (W5.alloc (.cells #[.int .u8 2,.int .i64 (wd.at':aB),.string q,.bool wd.root,.slice a4 m4 c4,.slice ah 0 0,.slice ah 0 0,.bool af,.int .u8 0] 58)):=Ext.push W5 _
       have h6:=h5.ext' zO
       have hnews:=tA W5 (Vn.cells ⟨2,wd.at',q,wd.root,.slice a4 m4 c4,.slice ah 0 0,.slice ah 0 0,af⟩) 58
       obtain ⟨i61,tI,hz0,hz1,hz2⟩:=info_parts zk
       have sR:=h6.nd.1
       rw [CI] at sR
       have kt:w2.heap.size+1≤(W5.alloc (.cells #[.int .u8 2,.int .i64 (wd.at':aB),.string q,.bool wd.root,.slice a4 m4 c4,.slice ah 0 0,.slice ah 0 0,.bool af,.int .u8 0] 58)).heap.size:=h6.zQ
       refine' jJ ?_ ?_;rotate_left 1
       ·(simp only [zA];rfl)
       intro K hK
       refine step_append_lies _ rfl (.tmp 65) (.tmp 79) 23 rfl (w2.heap.size+1) 58 i61 _ 9 120 dZ tI hz0 hz1 hz2 rfl (by decide) (.slice zm N.length cn) N.length (X.flatMap Vn.cells) rfl sR ⟨W5.heap.size,0,ah⟩ 1 1 (Vn.cells ⟨2,wd.at',q,wd.root,.slice a4 m4 c4,.slice ah 0 0,.slice ah 0 0,af⟩) rfl rfl hnews (by simp [Vn.cells,Value.oneCell']) (by decide) (by have:Go.maxLen=9223372036854775807:=rfl;have:=hsz.nodes;simp only at this;omega) (by have:=hsz.nodes;simp only at this;omega) kt _ rfl ?_
       intro g cap w7 jP cJ lY IB
       rw [← CI] at jP cJ lY ⊢
       have rH:(W5.alloc (.cells #[.int .u8 2,.int .i64 (wd.at':aB),.string q,.bool wd.root,.slice a4 m4 c4,.slice ah 0 0,.slice ah 0 0,.bool af,.int .u8 0] 58)).grownBy w7 (Value.slice zm X.length cn).ownBlock:=⟨cJ.os,cJ.tape,cJ.output,cJ.size,cJ.block⟩
       obtain ⟨QK,mV⟩:=h6.addNode (y:=fS wd) rH jP lY ⟨by show (2:ae)=cI wd.kind;rw [hk];rfl,rfl,hq,rfl,rfl,JX,rfl,_,_,_,rfl⟩ rfl rfl rfl rfl
       have gg:∀ g,(Value.slice zm X.length cn).ownBlock=aa g→w2.heap.size+1≤g∧g < wr.heap.size:=fun g e=>kz.nd.1.lt g e
       have IC:(W5.alloc (.cells #[.int .u8 2,.int .i64 (wd.at':aB),.string q,.bool wd.root,.slice a4 m4 c4,.slice ah 0 0,.slice ah 0 0,.bool af,.int .u8 0] 58)).heap.size=W5.heap.size+1:=by simp
       have mW:∀ b,b < W5.heap.size→(Value.slice zm X.length cn).ownBlock≠aa b→w7.heap[b]?=W5.heap[b]?:=fun b hb ho=>(rH.block b (by omega) (fun e=>ho e.symm)).trans (ck hb)
       have k7:=mW w2.heap.size z7 (fun e=>by have:=gg _ e;omega)
       have k5:=mW wr.heap.size z5 (fun e=>by have:=gg _ e;omega)
       have k6:=mW (wr.heap.size+1) z6 (fun e=>by have:=gg _ e;omega)
       have zN:=k7.trans h5.c7
       obtain ⟨-,-,e3,e4⟩:=cF zN
       refine hK.out _ _ ⟨k7.trans (ck z7).symm,k5.trans (ck z5).symm,k6.trans (ck z6).symm⟩ ?_
       clear hK K
       try simp only [Act.put,zB]
       refine' cS ?_ ?_ ?_ ?_;rotate_left 2
       ·(simp only [zA];rfl)
       ·rfl
       ·(intro w' hE;go_simp;try rfl)
       try simp only [Act.put,zB]
       obtain ⟨f1,-,f3,-⟩:=cF zN
       refine' my ?_ (by kernel_rfl) ?_;rotate_left 1
       ·(simp only [zA];rfl)
       intro K hK
       go_simp
       refine hK.out _ _ ?_
       clear hK K
       refine j9 ?_
       have xH:(w7.setCell ⟨w2.heap.size,0,ah⟩ (.slice (aa ⟨g,0,ah⟩) (X.length+1) cap)).cell? ⟨wr.heap.size,0,ah⟩=aa (.int .u8 2):=(aD (a:=⟨wr.heap.size,0,ah⟩) ((bl (show wr.heap.size≠w2.heap.size by omega)).trans k5)).trans p0
       rw [CI] at mV xH
       have ID:∀ v:aC,(w7.setCell ⟨w2.heap.size,0,ah⟩ v).heap.size=w7.heap.size:=fun v=>eL _ _ _
       have hap:AK (X ++ [⟨2,wd.at',q,wd.root,.slice a4 m4 c4,.slice ah 0 0,.slice ah 0 0,af⟩]) w2.heap.size (.slice (aa ⟨g,0,ah⟩) (N.length+1) cap) vt wr.heap.size:=by
        refine ⟨by omega,fun e=>?_,fun e=>by have:=(kz.tp.1.lt _ e).2;omega,fun x hx=>?_⟩
        ·simp only [Value.ownBlock,Option.some.injEq] at e
         rcases lY with h | h
         ·have:=gg g h;omega
         ·have:=h.trans IC;omega
        ·rcases List.mem_append.1 hx with hx | hx
         ·obtain ⟨j,hj,rfl⟩:=bU.1 hx
          have hj':j < N.length:=by omega
          obtain ⟨bb,be⟩:=kz.bd j _ _ (List.getElem?_eq_getElem hj) (List.getElem?_eq_getElem hj')
          exact ⟨fun e=>by have:=(bb.1.lt _ e).2;omega,fun e=>by have:=(be.1.lt _ e).2;omega⟩
         ·obtain rfl:=List.mem_singleton.1 hx
          exact ⟨nofun,nofun⟩
       have CO:wr.heap.size < w7.heap.size:=by have:=rH.size;omega
       generalize IE:w7.setCell ⟨w2.heap.size,0,ah⟩ (.slice (aa ⟨g,0,ah⟩) (N.length+1) cap)=W8 at mV xH ⊢
       have CP:wr.heap.size < W8.heap.size:=by rw [← IE,ID];exact CO
       have lB:=za mV Nn zn (by omega) (n:=N.length)
       clear e3 e4 f1 f3 zN k5 k6 k7 mW IC rH cJ jP lY hnews sR zO h6 h5 u1 p0 p1 p2 p3 p4 pk kG lA z5 z6 z7 kt hz0 hz1 hz2 tI IE ID gg mV kz
       gi_wp2_with (first
        | (refine ⟨trivial,?_⟩;gi_at_call 38;refine lB.mono ?_;clear lB;rintro e w9 ⟨rfl,⟨X9,Fh,Zp,Zq,zo⟩,lH⟩;have z9:=(aD (a:=⟨wr.heap.size,0,ah⟩) (lH wr.heap.size CP hap)).trans xH;clear lH hap xH;rw [Iy] at zo;have h9:=zo.ext' (Ext.push w9 (.cells #[.int .i64 (N.length:aB),.int .i64 2,.bool af] 93));have hsk:=h9.sk.1;simp only at hsk;rw [hd] at hsk)
        | (gi_at_builtin;refine wpListIn_append_own_at _ rfl _ _ 88 rfl (w2.heap.size+1) 93 i108 _ 3 24 Tryz.underlying88 hj9 hw0 QL hw2 rfl (by decide) (.slice Uz d cs) d (S.flatMap kQ) rfl hsk ⟨w9.heap.size,0,ah⟩ 1 1 (kQ ⟨N.length,2,af⟩) rfl rfl (tA w9 (kQ ⟨N.length,2,af⟩) 93) (by simp [kQ,Value.oneCell']) (by have:Go.maxLen=9223372036854775807:=rfl;omega) (by omega) (by have:=h9.zQ;simp at this ⊢;omega) ?_;intro v' w10 zq lW _ hv';obtain ⟨g',cap',rfl⟩:=ownsRow_succ zq;obtain ⟨Yx,zr⟩:=h9.push (o:=⟨N.length,2,af⟩) ⟨lW.os,lW.tape,lW.output,lW.size,lW.block⟩ (by simp only;rw [hd];exact zq) (by rcases hv' with e | e;exact .inl (by rw [← e];rfl);exact .inr (by simpa [Value.ownBlock] using e));simp only at zr;rw [hd] at zr))
       exact ⟨⟨i+1,_,_,_,_,_,bA (Value.int .i64) (by omega),hlt,hrun,vF,hsz',zr⟩,by show _ - Int.toNat _ < _ - Int.toNat _;omega⟩
     ·by_cases VF:16≤S.length
      ·have uE:oh ws=.bad wd.at' 3:=by
        rw [← hrun]
        unfold gl
        rw [aI (by simp [hk]),aI (by simp [hk]),aJ (by simp [hk];omega)]
       clear hrun
       rw [hk] at y0
       have UY:(16:aB)≤(S.length:aB):=by omega
       generalize hd:S.length=d at *
       gi_wp2
       rw [wpIn_wide]
       have kW:Ext wr (wr.alloc (.cells #[.int .u8 4,.int .i64 (wd.at':aB),.string q,.bool wd.root,.slice a4 m4 c4] 91)):=Ext.push wr _
       have kG:=World.alloc_heap_new wr (.cells #[.int .u8 4,.int .i64 (wd.at':aB),.string q,.bool wd.root,.slice a4 m4 c4] 91)
       generalize wr.alloc (.cells #[.int .u8 4,.int .i64 (wd.at':aB),.string q,.bool wd.root,.slice a4 m4 c4] 91)=W5 at kW kG ⊢
       have p1:W5.cell? ⟨wr.heap.size,1,ah⟩=aa (.int .i64 (wd.at':aB)):=by simp [World.cell?,kG]
       clear kG
       have zP:=(kW.block _ (Array.getElem?_eq_some_iff.1 nP).1).trans nP
       obtain ⟨v1,v2,v3,v4⟩:=cF zP
       have hne:wr.heap.size≠w.heap.size:=by have:=(Array.getElem?_eq_some_iff.1 nP).1;omega
       clear y0 y1 y2 y3 y4 RU JX RV kz
       refine cW (by kernel_rfl) [] (fun u v=>v.cell? ⟨wr.heap.size,1,ah⟩=u.cell? ⟨wr.heap.size,1,ah⟩) [(0,aj),(1,aj),(2,aj),(3,af),(4,aj),(5,aj)]
        (by kernel_rfl) (by kernel_rfl) (by kernel_rfl) (fun _=>rfl) (fun _ _ _ h1 h2=>h2.trans h1) ?_
       iterate 3 (
        refine' cS ?_ ?_ ?_ ?_;rotate_left 2
        ·(simp only [zA];rfl)
        ·rfl
        ·(intro w' hE;have q1:=hE.trans p1;go_simp;try rfl)
        try simp only [Act.put,zB])
       refine' jJ ?_ ?_;rotate_left 1
       ·(simp only [zA];rfl)
       intro K hK
       go_simp
       refine hK.out _ _ (aD ((bl hne).trans (bl hne))) ?_
       clear hK K
       try simp only [Act.put,zB]
       iterate 2 (
        refine' cS ?_ ?_ ?_ ?_;rotate_left 2
        ·(simp only [zA];rfl)
        ·rfl
        ·(intro w' hE;go_simp;try rfl)
        try simp only [Act.put,zB])
       refine j9 ?_
       gi_wp2
       refine bodyPost_ret (results36 _ _ w.heap.size (.slice ah 0 0) (.slice ah 0 0) (.int .i64 (wd.at':aB)) (.int .i64 3) rfl rfl rfl (eM _ _ zP)) rfl ?_
       exact ⟨ju (lS (hx1.trans (hx2.trans (kJ.trans kW)))) _ _,(by rw [uE];first | done | rfl)⟩
      ·rw [hk] at y0
       have hst:gl ⟨N,T,S⟩ wd=.inl ⟨(Ms.add ⟨N ++ [fS wd],T,S⟩ [N.length]).nodes,(Ms.add ⟨N ++ [fS wd],T,S⟩ [N.length]).top,S ++ [⟨N.length,4,af⟩]⟩:=by
        unfold gl
        rw [aI (by simp [hk]),aI (by simp [hk]),aI (by simp [hk];omega)]
        simp [hk,oO]
       have UY:(S.length:aB) < 16:=by omega
       obtain ⟨i108,hj9,hw0,QL,hw2⟩:=info_parts Iw
       have vF:=pC CZ hst
       have hsz':=pD hsz hst
       rw [hst] at hrun
       simp only at hrun
       have lA:Ext wr ((wr.alloc (.cells #[.int .u8 4,.int .i64 (wd.at':aB),.string q,.bool wd.root,.slice a4 m4 c4] 91)).alloc (.cells #[.int .i64 0,.int .i64 1,.int .i64 2,.int .i64 0,.int .i64 3,.int .i64 0,.int .i64 4] 3)):=(Ext.push wr _).trans (Ext.push _ _)
       have u1:=cE lA v1
       generalize hd:S.length=d at *
       gi_wp2
       rw [wpIn_wide]
       have kG:=ck (o:=.cells #[.int .i64 0,.int .i64 1,.int .i64 2,.int .i64 0,.int .i64 3,.int .i64 0,.int .i64 4] 3) (w:=wr.alloc (.cells #[.int .u8 4,.int .i64 (wd.at':aB),.string q,.bool wd.root,.slice a4 m4 c4] 91)) (i:=wr.heap.size) (by simp)
       rw [World.alloc_heap_new wr _] at kG
       have xG:=World.alloc_heap_new (wr.alloc (.cells #[.int .u8 4,.int .i64 (wd.at':aB),.string q,.bool wd.root,.slice a4 m4 c4] 91)) (.cells #[.int .i64 0,.int .i64 1,.int .i64 2,.int .i64 0,.int .i64 3,.int .i64 0,.int .i64 4] 3)
       rw [show (wr.alloc (.cells #[.int .u8 4,.int .i64 (wd.at':aB),.string q,.bool wd.root,.slice a4 m4 c4] 91)).heap.size=wr.heap.size+1 by simp] at xG
       generalize (wr.alloc (.cells #[.int .u8 4,.int .i64 (wd.at':aB),.string q,.bool wd.root,.slice a4 m4 c4] 91)).alloc (.cells #[.int .i64 0,.int .i64 1,.int .i64 2,.int .i64 0,.int .i64 3,.int .i64 0,.int .i64 4] 3)=W5 at kG xG lA u1 ⊢
       have p0:W5.cell? ⟨wr.heap.size,0,ah⟩=aa (.int .u8 4):=by simp [World.cell?,kG]
       have p1:W5.cell? ⟨wr.heap.size,1,ah⟩=aa (.int .i64 (wd.at':aB)):=by simp [World.cell?,kG]
       have p2:W5.cell? ⟨wr.heap.size,2,ah⟩=aa (.string q):=by simp [World.cell?,kG]
       have p3:W5.cell? ⟨wr.heap.size,3,ah⟩=aa (.bool wd.root):=by simp [World.cell?,kG]
       have p4:W5.cell? ⟨wr.heap.size,4,ah⟩=aa (.slice a4 m4 c4):=by simp [World.cell?,kG]
       have pk:W5.cell? ⟨wr.heap.size+1,4,ah⟩=aa (.int .i64 3):=by simp [World.cell?,xG]
       have IA:IntKind.u8.wrap 3=3:=by decide
       have h5:=kz.ext' lA
       clear v1 v2 v3 v4 y0 y1 y2 y3 y4 xG
       refine cW (by kernel_rfl) [18] (fun u v=>v.heap[w2.heap.size]?=u.heap[w2.heap.size]?∧v.heap[wr.heap.size]?=u.heap[wr.heap.size]?∧v.heap[wr.heap.size+1]?=u.heap[wr.heap.size+1]?) [(0,aj),(1,aj),(2,aj),(3,aj),(4,aj),(5,aj),(6,aj),(7,aj),(8,aj),(9,aj),(10,aj),(11,aj),(12,aj),(13,aj),(14,aj),(15,af),(16,af),(17,aj),(18,af)]
        (by kernel_rfl) (by kernel_rfl) (by kernel_rfl) (fun _=>⟨rfl,rfl,rfl⟩) (fun _ _ _ h1 h2=>⟨h2.1.trans h1.1,h2.2.1.trans h1.2.1,h2.2.2.trans h1.2.2⟩) ?_
       iterate 15 (
        refine' cS ?_ ?_ ?_ ?_;rotate_left 2
        ·(simp only [zA];rfl)
        ·rfl
        ·(intro w' hE;have q1:=(aD (a:=⟨w2.heap.size,0,ah⟩) hE.1).trans u1;have r0:=(aD (a:=⟨wr.heap.size,0,ah⟩) hE.2.1).trans p0;have r1:=(aD (a:=⟨wr.heap.size,1,ah⟩) hE.2.1).trans p1;have r2:=(aD (a:=⟨wr.heap.size,2,ah⟩) hE.2.1).trans p2;have r3:=(aD (a:=⟨wr.heap.size,3,ah⟩) hE.2.1).trans p3;have r4:=(aD (a:=⟨wr.heap.size,4,ah⟩) hE.2.1).trans p4;have rk:=(aD (a:=⟨wr.heap.size+1,4,ah⟩) hE.2.2).trans pk;go_simp;try rfl)
        try simp only [Act.put,zB])
       refine' jJ ?_ ?_;rotate_left 1
       ·(simp only [zA];rfl)
       intro K hK
       go_simp
       have z5:wr.heap.size < W5.heap.size:=cM p0
       have z6:wr.heap.size+1 < W5.heap.size:=cM pk
       have z7:w2.heap.size < W5.heap.size:=cM u1
       refine hK.out _ _ ⟨ck z7,ck z5,ck z6⟩ ?_
       clear hK K
       try simp only [Act.put,zB]
       have zO:Ext W5 (W5.alloc (.cells #[.int .u8 3,.int .i64 (wd.at':aB),.string q,.bool wd.root,.slice a4 m4 c4,.slice ah 0 0,.slice ah 0 0,.bool af,.int .u8 0] 58)):=Ext.push W5 _
       have h6:=h5.ext' zO
       have hnews:=tA W5 (Vn.cells ⟨3,wd.at',q,wd.root,.slice a4 m4 c4,.slice ah 0 0,.slice ah 0 0,af⟩) 58
       obtain ⟨i61,tI,hz0,hz1,hz2⟩:=info_parts zk
       have sR:=h6.nd.1
       rw [CI] at sR
       have kt:w2.heap.size+1≤(W5.alloc (.cells #[.int .u8 3,.int .i64 (wd.at':aB),.string q,.bool wd.root,.slice a4 m4 c4,.slice ah 0 0,.slice ah 0 0,.bool af,.int .u8 0] 58)).heap.size:=h6.zQ
       refine' jJ ?_ ?_;rotate_left 1
       ·(simp only [zA];rfl)
       intro K hK
       refine step_append_lies _ rfl (.tmp 65) (.tmp 79) 23 rfl (w2.heap.size+1) 58 i61 _ 9 120 dZ tI hz0 hz1 hz2 rfl (by decide) (.slice zm N.length cn) N.length (X.flatMap Vn.cells) rfl sR ⟨W5.heap.size,0,ah⟩ 1 1 (Vn.cells ⟨3,wd.at',q,wd.root,.slice a4 m4 c4,.slice ah 0 0,.slice ah 0 0,af⟩) rfl rfl hnews (by simp [Vn.cells,Value.oneCell']) (by decide) (by have:Go.maxLen=9223372036854775807:=rfl;have:=hsz.nodes;simp only at this;omega) (by have:=hsz.nodes;simp only at this;omega) kt _ rfl ?_
       intro g cap w7 jP cJ lY IB
       rw [← CI] at jP cJ lY ⊢
       have rH:(W5.alloc (.cells #[.int .u8 3,.int .i64 (wd.at':aB),.string q,.bool wd.root,.slice a4 m4 c4,.slice ah 0 0,.slice ah 0 0,.bool af,.int .u8 0] 58)).grownBy w7 (Value.slice zm X.length cn).ownBlock:=⟨cJ.os,cJ.tape,cJ.output,cJ.size,cJ.block⟩
       obtain ⟨QK,mV⟩:=h6.addNode (y:=fS wd) rH jP lY ⟨by show (3:ae)=cI wd.kind;rw [hk];rfl,rfl,hq,rfl,rfl,JX,rfl,_,_,_,rfl⟩ rfl rfl rfl rfl
       have gg:∀ g,(Value.slice zm X.length cn).ownBlock=aa g→w2.heap.size+1≤g∧g < wr.heap.size:=fun g e=>kz.nd.1.lt g e
       have IC:(W5.alloc (.cells #[.int .u8 3,.int .i64 (wd.at':aB),.string q,.bool wd.root,.slice a4 m4 c4,.slice ah 0 0,.slice ah 0 0,.bool af,.int .u8 0] 58)).heap.size=W5.heap.size+1:=by simp
       have mW:∀ b,b < W5.heap.size→(Value.slice zm X.length cn).ownBlock≠aa b→w7.heap[b]?=W5.heap[b]?:=fun b hb ho=>(rH.block b (by omega) (fun e=>ho e.symm)).trans (ck hb)
       have k7:=mW w2.heap.size z7 (fun e=>by have:=gg _ e;omega)
       have k5:=mW wr.heap.size z5 (fun e=>by have:=gg _ e;omega)
       have k6:=mW (wr.heap.size+1) z6 (fun e=>by have:=gg _ e;omega)
       have zN:=k7.trans h5.c7
       obtain ⟨-,-,e3,e4⟩:=cF zN
       refine hK.out _ _ ⟨k7.trans (ck z7).symm,k5.trans (ck z5).symm,k6.trans (ck z6).symm⟩ ?_
       clear hK K
       try simp only [Act.put,zB]
       refine' cS ?_ ?_ ?_ ?_;rotate_left 2
       ·(simp only [zA];rfl)
       ·rfl
       ·(intro w' hE;go_simp;try rfl)
       try simp only [Act.put,zB]
       obtain ⟨f1,-,f3,-⟩:=cF zN
       refine' my ?_ (by kernel_rfl) ?_;rotate_left 1
       ·(simp only [zA];rfl)
       intro K hK
       go_simp
       refine hK.out _ _ ?_
       clear hK K
       refine j9 ?_
       have xH:(w7.setCell ⟨w2.heap.size,0,ah⟩ (.slice (aa ⟨g,0,ah⟩) (X.length+1) cap)).cell? ⟨wr.heap.size,0,ah⟩=aa (.int .u8 4):=(aD (a:=⟨wr.heap.size,0,ah⟩) ((bl (show wr.heap.size≠w2.heap.size by omega)).trans k5)).trans p0
       rw [CI] at mV xH
       have ID:∀ v:aC,(w7.setCell ⟨w2.heap.size,0,ah⟩ v).heap.size=w7.heap.size:=fun v=>eL _ _ _
       have hap:AK (X ++ [⟨3,wd.at',q,wd.root,.slice a4 m4 c4,.slice ah 0 0,.slice ah 0 0,af⟩]) w2.heap.size (.slice (aa ⟨g,0,ah⟩) (N.length+1) cap) vt wr.heap.size:=by
        refine ⟨by omega,fun e=>?_,fun e=>by have:=(kz.tp.1.lt _ e).2;omega,fun x hx=>?_⟩
        ·simp only [Value.ownBlock,Option.some.injEq] at e
         rcases lY with h | h
         ·have:=gg g h;omega
         ·have:=h.trans IC;omega
        ·rcases List.mem_append.1 hx with hx | hx
         ·obtain ⟨j,hj,rfl⟩:=bU.1 hx
          have hj':j < N.length:=by omega
          obtain ⟨bb,be⟩:=kz.bd j _ _ (List.getElem?_eq_getElem hj) (List.getElem?_eq_getElem hj')
          exact ⟨fun e=>by have:=(bb.1.lt _ e).2;omega,fun e=>by have:=(be.1.lt _ e).2;omega⟩
         ·obtain rfl:=List.mem_singleton.1 hx
          exact ⟨nofun,nofun⟩
       have CO:wr.heap.size < w7.heap.size:=by have:=rH.size;omega
       generalize IE:w7.setCell ⟨w2.heap.size,0,ah⟩ (.slice (aa ⟨g,0,ah⟩) (N.length+1) cap)=W8 at mV xH ⊢
       have CP:wr.heap.size < W8.heap.size:=by rw [← IE,ID];exact CO
       have lB:=za mV Nn zn (by omega) (n:=N.length)
       clear e3 e4 f1 f3 zN k5 k6 k7 mW IC rH cJ jP lY hnews sR zO h6 h5 u1 p0 p1 p2 p3 p4 pk kG lA z5 z6 z7 kt hz0 hz1 hz2 tI IE ID gg mV kz
       gi_wp2_with (first
        | (refine ⟨trivial,?_⟩;gi_at_call 38;refine lB.mono ?_;clear lB;rintro e w9 ⟨rfl,⟨X9,Fh,Zp,Zq,zo⟩,lH⟩;have z9:=(aD (a:=⟨wr.heap.size,0,ah⟩) (lH wr.heap.size CP hap)).trans xH;clear lH hap xH;rw [Iy] at zo;have h9:=zo.ext' (Ext.push w9 (.cells #[.int .i64 (N.length:aB),.int .i64 4,.bool af] 93));have hsk:=h9.sk.1;simp only at hsk;rw [hd] at hsk)
        | (gi_at_builtin;refine wpListIn_append_own_at _ rfl _ _ 88 rfl (w2.heap.size+1) 93 i108 _ 3 24 Tryz.underlying88 hj9 hw0 QL hw2 rfl (by decide) (.slice Uz d cs) d (S.flatMap kQ) rfl hsk ⟨w9.heap.size,0,ah⟩ 1 1 (kQ ⟨N.length,4,af⟩) rfl rfl (tA w9 (kQ ⟨N.length,4,af⟩) 93) (by simp [kQ,Value.oneCell']) (by have:Go.maxLen=9223372036854775807:=rfl;omega) (by omega) (by have:=h9.zQ;simp at this ⊢;omega) ?_;intro v' w10 zq lW _ hv';obtain ⟨g',cap',rfl⟩:=ownsRow_succ zq;obtain ⟨Yx,zr⟩:=h9.push (o:=⟨N.length,4,af⟩) ⟨lW.os,lW.tape,lW.output,lW.size,lW.block⟩ (by simp only;rw [hd];exact zq) (by rcases hv' with e | e;exact .inl (by rw [← e];rfl);exact .inr (by simpa [Value.ownBlock] using e));simp only at zr;rw [hd] at zr))
       exact ⟨⟨i+1,_,_,_,_,_,bA (Value.int .i64) (by omega),hlt,hrun,vF,hsz',zr⟩,by show _ - Int.toNat _ < _ - Int.toNat _;omega⟩
  ·have hnil:ws.drop i=[]:=List.drop_eq_nil_of_le (by omega)
   rw [hnil] at hrun
   obtain ⟨N,T,S⟩:=s'
   obtain ⟨zm,cn,rfl⟩:=lV kz.nd.1
   obtain ⟨Zh,ct,rfl⟩:=lV kz.tp.1
   obtain ⟨Uz,cs,rfl⟩:=lV kz.sk.1
   obtain ⟨v1,v2,v3,v4⟩:=cF kz.c7
   have hs2:w.heap.size < w2.heap.size:=(Array.getElem?_eq_some_iff.1 FX).1
   have nP:wr.heap[w.heap.size]?=aa (.cells #[.slice ah 0 0,.slice ah 0 0] 26):=(kz.ext.block _ hs2).trans FX
   obtain ⟨a1,a2,a3,a4⟩:=cF nP
   have UX:=hsz.stack
   simp only at UX Cv
   rcases dG S with rfl | ⟨S,o,rfl⟩
   ·have uE:oh ws=.ok N T:=by rw [← hrun];rfl
    obtain ⟨hown,l4,hr2⟩:=kz.rel
    have kJ:=kz.ext
    have VI:∀ b,(b < w2.heap.size→F b)→(b < w.heap.size→b=1)∧b≠w.heap.size:=by
     intro b hg
     rw [← hF] at hg
     refine ⟨fun hlt=>hg (by omega) (by simp;omega),fun e=>?_⟩
     have:=hg (by omega) (by simp;omega)
     omega
    simp only [List.length_nil] at *
    clear hrun ua mA Iz kz CZ hsz hm hwr
    gi_wp2
    refine bodyPost_ret (results36 _ _ w.heap.size (.slice zm X.length cn) (.slice Zh T.length ct) (.int .i64 0) (.int .i64 0) rfl rfl rfl (eM _ _ nP)) rfl ?_
    refine ⟨ju (hx1.trans (hx2.trans kJ)) _ _,?_⟩
    rw [uE]
    have hne:∀ g,(Value.slice zm X.length cn).ownBlock=aa g→g≠w.heap.size:=fun g hg=>by have:=(l4 g hg).1;omega
    exact ⟨_,_,_,_,_,rfl,hown.mono (fun b _ hg=>⟨⟨(VI b hg.1).1,hg.2⟩,(bl (VI b hg.1).2).trans (bl (VI b hg.1).2)⟩) (fun b hb=>(bl (hne b hb)).trans (bl (hne b hb))),fun g hg=>⟨by have:=(l4 g hg).1;omega,by rw [eL,eL];exact (l4 g hg).2⟩,
     hr2.mono fun b _ hg=>⟨⟨(VI b hg.1).1,hg.2⟩,(bl (VI b hg.1).2).trans (bl (VI b hg.1).2)⟩⟩
   ·rw [eF] at *
    have SQ:o.node < N.length:=CZ o (by simp)
    obtain ⟨gs,cap,uS,⟨s0,s1,s2⟩,sf⟩:=kz.last
    simp only [Value.slice.injEq] at uS
    obtain ⟨rfl,-,rfl⟩:=uS
    obtain ⟨gn,cn',x,y,N8,hx,hy,hcell,l4⟩:=kz.node SQ
    simp only [Value.slice.injEq] at N8
    obtain ⟨rfl,-,rfl⟩:=N8
    have c1:=hcell 1 (by decide)
    have c1:wr.cell? ⟨gn,o.node * 9+1,ah⟩=aa (.int .i64 (x.at':aB)):=c1
    have hat:=(kz.lk _ _ _ hx hy).at'
    have uE:oh ws=.bad y.at' 4:=by
     rw [← hrun,lg]
     simp only [List.getLast?_append,List.getLast?_singleton,Option.some_or]
     have hy:N[o.node]?=aa y:=hy
     rw [hy]
     rfl
    have CI:X.length=N.length:=kz.len
    have kJ:=kz.ext
    have Zi:w2.heap.size≠w.heap.size:=by omega
    have VG:gs≠w.heap.size:=by have:=jG kz.sk (g:=gs) rfl;omega
    have Zj:gn≠w.heap.size:=by have:=jG kz.nd (g:=gn) rfl;omega
    simp only [au,aA,List.length_nil] at UX SQ ⊢
    clear hrun ua mA Iz kz CZ hsz hm hwr hcell l4 sf hx hy s1 s2
    generalize hd:S.length=d at *
    generalize hk:o.node=k at *
    gi_wp2
    rw [wpIn_wide]
    have hdd:(d:aB) < (d:aB)+1:=by omega
    have abu:IntKind.i64.wrap (d:aB)=(d:aB):=gh (by omega) (by omega)
    have abU:IntKind.i64.wrap ((d:aB)+1 - 1)=(d:aB):=by rw [show ((d:aB)+1 - 1)=d by omega];exact abu
    refine cW (by kernel_rfl) [] (fun u v=>v.cell? ⟨w2.heap.size,0,ah⟩=u.cell? ⟨w2.heap.size,0,ah⟩∧v.cell? ⟨gs,d * 3,ah⟩=u.cell? ⟨gs,d * 3,ah⟩∧v.cell? ⟨gn,k * 9+1,ah⟩=u.cell? ⟨gn,k * 9+1,ah⟩) [(0,aj),(1,aj),(2,aj),(3,aj),(4,aj),(5,aj),(6,aj),(7,aj),(8,aj),(9,aj),(10,aj),(11,aj),(12,aj),(13,af),(14,aj),(15,aj)]
     (by kernel_rfl) (by kernel_rfl) (by kernel_rfl) (fun _=>⟨rfl,rfl,rfl⟩) (fun _ _ _ h1 h2=>⟨h2.1.trans h1.1,h2.2.1.trans h1.2.1,h2.2.2.trans h1.2.2⟩) ?_
    iterate 5 (
     refine' cS ?_ ?_ ?_ ?_;rotate_left 2
     ·(simp only [zA];rfl)
     ·rfl
     ·(intro w' hE;have q1:=hE.1.trans v1;have q2:=hE.2.1.trans s0;have q3:=hE.2.2.trans c1;go_simp;try rfl)
     try simp only [Act.put,zB])
    refine' cS (v:=.int .i64 ((d:aB)+1)) ?_ ?_ ?_ ?_;rotate_left 1
    ·(simp only [zA];rfl)
    ·rfl
    ·(intro w' hE;go_simp)
    try simp only [Act.put,zB]
    refine' cS (v:=.int .i64 (d:aB)) ?_ ?_ ?_ ?_;rotate_left 1
    ·(simp only [zA];rfl)
    ·rfl
    ·(intro w' hE;go_simp)
    try simp only [Act.put,zB]
    iterate 6 (
     refine' cS ?_ ?_ ?_ ?_;rotate_left 2
     ·(simp only [zA];rfl)
     ·rfl
     ·(intro w' hE;have q1:=hE.1.trans v1;have q2:=hE.2.1.trans s0;have q3:=hE.2.2.trans c1;go_simp;try rfl)
     try simp only [Act.put,zB])
    refine' jJ ?_ ?_;rotate_left 1
    ·(simp only [zA];rfl)
    intro K hK
    go_simp
    refine hK.out _ _ ⟨aD ((bl Zi).trans (bl Zi)),aD ((bl VG).trans (bl VG)),aD ((bl Zj).trans (bl Zj))⟩ ?_
    clear hK K
    try simp only [Act.put,zB]
    iterate 2 (
     refine' cS ?_ ?_ ?_ ?_;rotate_left 2
     ·(simp only [zA];rfl)
     ·rfl
     ·(intro w' hE;go_simp;try rfl)
     try simp only [Act.put,zB])
    refine j9 ?_
    gi_wp2
    refine bodyPost_ret (results36 _ _ w.heap.size (.slice ah 0 0) (.slice ah 0 0) (.int .i64 (y.at':aB)) (.int .i64 4) rfl rfl rfl (eM _ _ nP)) rfl ?_
    exact ⟨ju (lS (hx1.trans (hx2.trans kJ))) _ _,(by rw [uE];first | done | rfl)⟩
theorem Np (s:aL) (w:az) (hs:s.data.toList.length > 65536) :
  CallsIn Fence.wide 7 Tryz.prog 21 #[.string s] w (xE w (fun b=>b=1) (.bad 0 2)):=by
 have hx1:Ext w (w.alloc (.cells #[.slice ah 0 0,.slice ah 0 0] 26)):=Ext.push w _
 have hA1:=World.alloc_heap_new w (.cells #[.slice ah 0 0,.slice ah 0 0] 26)
 obtain ⟨a0,a1,a2,a3⟩:=cF hA1
 have hs1:(65536:aB) < ((s.size:ax):aB):=by
  have:s.size=s.data.toList.length:=rfl
  omega
 clear hs
 refine bC ji rfl trivial ?_ rfl
 simp only [iU,Nat.reduceAdd,Nat.reduceSub,zC]
 gi_wp2
 exact bodyPost_ret (results36 _ _ w.heap.size (.slice ah 0 0) (.slice ah 0 0) (.int .i64 0) (.int .i64 2) rfl rfl rfl hA1) rfl ⟨hx1,rfl⟩
theorem Nq (s:aL) (w:az) (hm:w.cell? ⟨1,0,ah⟩=aa (.int .i64 mx)) (hs:s.data.toList.length≤65536) (hb:0≤(eh s.data.toList).2) :
  CallsIn Fence.wide 7 Tryz.prog 21 #[.string s] w (xE w (fun b=>b=1) (.bad (eh s.data.toList).2.toNat 4)):=by
 have hx1:Ext w (w.alloc (.cells #[.slice ah 0 0,.slice ah 0 0] 26)):=Ext.push w _
 have hsz:s.size=s.data.toList.length:=rfl
 have qG:=zl (mx:=mx) s (by omega) (w.alloc (.cells #[.slice ah 0 0,.slice ah 0 0] 26)) (cE hx1 hm)
 generalize (eh s.data.toList).2=bad at qG hb ⊢
 generalize (eh s.data.toList).1=ws at qG
 have hs1:((s.size:ax):aB)≤65536:=by omega
 clear hsz hs
 refine bC ji rfl trivial ?_ rfl
 simp only [iU,Nat.reduceAdd,Nat.reduceSub,zC]
 gi_wp2_with (refine ⟨trivial,?_⟩;gi_at_call 37;refine (aT.2 qG).mono ?_;clear qG;rintro e w2 ⟨ad,c,rfl,hx2,hwr⟩;have FX:=(hx2.block w.heap.size (by simp)).trans (World.alloc_heap_new w (.cells #[.slice ah 0 0,.slice ah 0 0] 26));obtain ⟨a0,a1,a2,a3⟩:=cF FX)
 refine bodyPost_ret (results36 _ _ w.heap.size (.slice ah 0 0) (.slice ah 0 0) (.int .i64 bad) (.int .i64 4) rfl rfl rfl (eM _ _ FX)) rfl ⟨ju (hx1.trans hx2) _ _,?_⟩
 show _=Ending.returned (.tuple #[.agg #[.slice ah 0 0,.slice ah 0 0],.int .i64 (bad.toNat:aB),.int .i64 4])
 rw [Int.toNat_of_nonneg hb]
theorem Gn (s:aL) (w:az) (hm:w.cell? ⟨1,0,ah⟩=aa (.int .i64 mx)):CallsIn Fence.wide 7 Tryz.prog 21 #[.string s] w (xE w (fun b=>b=1) (CJ s.data.toList)):=by
 unfold CJ
 by_cases h1:s.data.toList.length > 65536
 ·rw [aJ h1]
  exact Np s w h1
 ·rw [aI h1]
  by_cases h2:0≤(eh s.data.toList).2
  ·rw [aJ h2]
   exact Nq (mx:=mx) s w hm (by omega) h2
  ·rw [aI h2]
   refine JW (mx:=mx) s w hm (by omega) h2 rfl ?_ ?_ ?_
   ·have:=ma (s.data.toList.length+1) s.data.toList 0 []
    simp only [List.length_nil] at this
    unfold eh
    omega
   ·exact nG _ _ _ _ fun w hw=>by simp at hw
   ·exact qP _ _ _ _ fun w hw=>by simp at hw
end R3
namespace R3
open Go Go.Proofs Sx
def Nd.mn (x:Nd):Mn:=⟨x.kind,x.at',x.text,x.root,x.names,x.body.getD [],x.els.getD [],x.has⟩
def mh (x:Nd):AV:=.ag [.u8 x.kind,.int (x.at':aB),.s x.text,.b x.root,x.names,.ro 1 (cj (x.body.getD [])),.ro 1 (cj (x.els.getD [])),.b x.has,.u8 x.hole]
theorem Yy {x:Nd} (h:x.hole=0):mh x=x.mn.av:=by unfold mh;rw [h];rfl
theorem tB:∀ (t:Ts) (m:ax),(t.arr m).map Nd.mn=pz m t
 | .nil,m=>rfl
 | .leaf w k,m=>by simp only [Ts.arr,pz,List.map_cons,tB k];rfl
 | .blk w b e k,m=>by simp only [Ts.arr,pz,List.map_cons,dM,tB b,tB k];rfl
 | .alt w b l c e k,m=>by simp only [Ts.arr,pz,List.map_cons,dM,tB b,tB c,tB k];rfl
theorem tC:∀ (t:Ts) (m:ax),∀ x ∈ t.arr m,x.hole=0∧∃ w ∈ t.flat,x.names=w.names
 | .nil,m,x,h=>by cases h
 | .leaf w k,m,x,h=>by
  rcases List.mem_cons.1 h with rfl | h
  ·exact ⟨rfl,w,List.mem_cons_self ..,rfl⟩
  ·obtain ⟨h1,v,hv,h2⟩:=tC k _ x h
   exact ⟨h1,v,List.mem_cons_of_mem _ hv,h2⟩
 | .blk w b e k,m,x,h=>by
  rcases List.mem_cons.1 h with rfl | h
  ·exact ⟨rfl,w,List.mem_cons_self ..,rfl⟩
  ·rcases List.mem_append.1 h with h | h
   ·obtain ⟨h1,v,hv,h2⟩:=tC b _ x h
    exact ⟨h1,v,List.mem_cons_of_mem _ (List.mem_append_left _ hv),h2⟩
   ·obtain ⟨h1,v,hv,h2⟩:=tC k _ x h
    exact ⟨h1,v,List.mem_cons_of_mem _ (List.mem_append_right _ (List.mem_cons_of_mem _ hv)),h2⟩
 | .alt w b l c e k,m,x,h=>by
  rcases List.mem_cons.1 h with rfl | h
  ·exact ⟨rfl,w,List.mem_cons_self ..,rfl⟩
  ·rcases List.mem_append.1 h with h | h
   ·obtain ⟨h1,v,hv,h2⟩:=tC b _ x h
    exact ⟨h1,v,List.mem_cons_of_mem _ (List.mem_append_left _ hv),h2⟩
   ·rcases List.mem_append.1 h with h | h
    ·obtain ⟨h1,v,hv,h2⟩:=tC c _ x h
     exact ⟨h1,v,List.mem_cons_of_mem _ (List.mem_append_right _ (List.mem_cons_of_mem _ (List.mem_append_left _ hv))),h2⟩
    ·obtain ⟨h1,v,hv,h2⟩:=tC k _ x h
     exact ⟨h1,v,List.mem_cons_of_mem _ (List.mem_append_right _ (List.mem_cons_of_mem _ (List.mem_append_right _ (List.mem_cons_of_mem _ hv)))),h2⟩
end R3
namespace lp
open Go Go.Proofs Sx
variable {mx:aB}
noncomputable def zt:Code:=(Tryz.f39.body).getD .skip
noncomputable def Nr (run:RunT) (a b:ae) (d:ay) (e f g i:ae) (j:ay) (k:ae) (l:ai ae) (m n o p q s t u w x:AV) (y:ai AV) (z A:AV) (B:aB):ak AV :=
 run ((eV 8 zt []).getD []) (St.fj [(6,.cell (.ptr 6 0)),(8,.cell (.ptr 8 0))] [(6,aa (cT a b d e f g i j k l)),(8,aa (cV m n o p q s t u w x)),(113,aa [.own 713000 58 9 y,.val z,.val A,.val (.int B)])])
noncomputable def CQ (run:RunT) (a b:ae) (d:ay) (e f g i:ae) (j:ay) (k:ae) (l:ai ae) (m n:ae) (o:ay) (p q s t:ae) (u:ay) (w:ae) (x:ai ae) (y z A B D E G H I:AV) (J:ai AV) (L:AV) (M N:aB):ak AV :=
 run ((eV 19 zt []).getD []) (St.fj [(0,.cell (.ptr 113 0)),(5,.cell (.ptr 5 0)),(6,.cell (.ptr 6 0)),(7,.cell (.ptr 7 0))] [(5,aa (cT a b d e f g i j k l)),(6,aa (cT m n o p q s t u w x)),(7,aa (cN y z A B D E G H I)),(113,aa [.own 713000 58 9 J,.val L,.val (.int M),.val (.int N)])])
noncomputable def Ns (run:RunT) (a b:ae) (d:ay) (e f g i:ae) (j:ay) (k:ae) (l:ai ae) (m n:ae) (o:ay) (p q s t:ae) (u:ay) (w:ae) (x:ai ae) (y:ai AV) (z:AV) (A B:aB):ak AV :=
 run ((eV 27 zt []).getD []) (St.fj [(5,.cell (.ptr 5 0)),(6,.cell (.ptr 6 0))] [(5,aa (cT a b d e f g i j k l)),(6,aa (cT m n o p q s t u w x)),(113,aa [.own 713000 58 9 y,.val z,.val (.int A),.val (.int B)])])
noncomputable def Gp (run:RunT) (a b:ae) (d:ay) (e f g i:ae) (j:ay) (k:ae) (l:ai ae) (m n o p q s t u w x y z A B D E G H I J L M N O P Q R T U:AV) (V:ai AV) (W Y Z:AV):ak AV :=
 run ((eV 23 zt []).getD []) (St.fj [(0,.cell (.ptr 113 0)),(6,.cell (.ptr 6 0)),(7,.cell (.ptr 7 0)),(11,.cell (.ptr 11 0)),(12,.cell (.ptr 12 0))] [(6,aa (cT a b d e f g i j k l)),(7,aa (cN m n o p q s t u w)),(11,aa (cV x y z A B D E G H I)),(12,aa (cV J L M N O P Q R T U)),(113,aa [.own 713000 58 9 V,.val W,.val Y,.val (Z)])])
noncomputable def Gq (run:RunT) (a b:ae) (d:ay) (e f g i:ae) (j:ay) (k:ae) (l:ai ae) (m n o p q s t u w x:AV) (y:ai AV) (z A B:AV):ak AV :=
 run ((eV 26 zt []).getD []) (St.fj [(6,.cell (.ptr 6 0)),(11,.cell (.ptr 11 0))] [(6,aa (cT a b d e f g i j k l)),(11,aa (cV m n o p q s t u w x)),(113,aa [.own 713000 58 9 y,.val z,.val A,.val (B)])])
noncomputable def Oa (a:aB) (b d:ae) (e:ay) (f g i j:ae) (k:ay) (l:ae) (m:ai ae) (n:ai AV) (o:AV) (p q:aB) (c:bj) (r:RunT):ak AV :=
 (pN n.length (.int a)).bind fun s=>(conv .i64 (AV.cell (n.getD s .un) 0)).bind fun t=>(cf .eql t (.int 0)).bind fun u=>a8 u
 ((Sa (AV.cell (n.getD s .un) 2)).bind fun w=>(c 54 [.ag [.u8 b,.u8 d,.b e,.u8 f,.u8 g,.u8 i,.u8 j,.b k,.u8 l,.s m],w]).bind fun x=>(cA x 0).bind fun y=>(cA x 1).bind fun z=>(AV.cm 10 y).bind fun A=>(cf .geq z (.int 0)).bind fun B=>a8 B
 ((cf .add (AV.cell (n.getD s .un) 1) z).bind fun D=>(AV.one D).bind fun E=>Nr r 0 0 af 0 0 0 0 af 0 [] (gt A 0) (gt A 1) (gt A 2) (gt A 3) (gt A 4) (gt A 5) (gt A 6) (gt A 7) (gt A 8) (gt A 9) n o E 5)
 (Nr r 0 0 af 0 0 0 0 af 0 [] (gt A 0) (gt A 1) (gt A 2) (gt A 3) (gt A 4) (gt A 5) (gt A 6) (gt A 7) (gt A 8) (gt A 9) n o (.int p) q))
 ((cf .eql t (.int 1)).bind fun G=>a8 G
 ((c 55 [.ag [.u8 b,.u8 d,.b e,.u8 f,.u8 g,.u8 i,.u8 j,.b k,.u8 l,.s m]]).bind fun H=>(cf .eql H (.int 0)).bind fun I=>a8 I
 ((AV.one (AV.cell (n.getD s .un) 1)).bind fun J=>aa (.tu [.ag [.u8 b,.u8 d,.b e,.u8 f,.u8 g,.u8 i,.u8 j,.b k,.u8 l,.s m],.ag [.ro 9 n,o,J,.int 6]]))
 ((conv .u8 H).bind fun L=>(pN n.length (.int a)).bind fun M=>(AV.one L).bind fun N=>(c 56 [.ag [.u8 b,.u8 d,.b e,.u8 f,.u8 g,.u8 i,.u8 j,.b k,.u8 l,.s m]]).bind fun O=>(AV.cm 10 O).bind fun P=>aa (.tu [.ag [gt P 0,gt P 1,gt P 2,gt P 3,gt P 4,gt P 5,gt P 6,gt P 7,gt P 8,gt P 9],.ag [.ro 9 (n.set M (.ag [AV.cell (n.getD M .un) 0,AV.cell (n.getD M .un) 1,AV.cell (n.getD M .un) 2,AV.cell (n.getD M .un) 3,AV.cell (n.getD M .un) 4,AV.cell (n.getD M .un) 5,AV.cell (n.getD M .un) 6,AV.cell (n.getD M .un) 7,N])),o,.int p,.int q]])))
 ((cf .eql t (.int 2)).bind fun Q=>a8 Q
 (CQ r b d e f g i j k l m 0 0 af 0 0 0 0 af 0 [] (AV.cell (n.getD s .un) 0) (AV.cell (n.getD s .un) 1) (AV.cell (n.getD s .un) 2) (AV.cell (n.getD s .un) 3) (AV.cell (n.getD s .un) 4) (AV.cell (n.getD s .un) 5) (AV.cell (n.getD s .un) 6) (AV.cell (n.getD s .un) 7) (AV.cell (n.getD s .un) 8) n o p q)
 ((cf .eql t (.int 3)).bind fun R=>a8 R
 (CQ r b d e f g i j k l m 0 0 af 0 0 0 0 af 0 [] (AV.cell (n.getD s .un) 0) (AV.cell (n.getD s .un) 1) (AV.cell (n.getD s .un) 2) (AV.cell (n.getD s .un) 3) (AV.cell (n.getD s .un) 4) (AV.cell (n.getD s .un) 5) (AV.cell (n.getD s .un) 6) (AV.cell (n.getD s .un) 7) (AV.cell (n.getD s .un) 8) n o p q)
 (Ns r b d e f g i j k l m 0 0 af 0 0 0 0 af 0 [] n o p q))))
theorem c39 (a b d e f g i j k l m n o p q) {r:AV} (h:Oa a b d e f g i j k l m n o p q (aq (C mx) Tryz.prog) (a7 (C mx) Tryz.prog 39 Tryz.f39)=aa r):aq (C mx) Tryz.prog 39 [.un,.int a,.ag [.u8 b,.u8 d,.b e,.u8 f,.u8 g,.u8 i,.u8 j,.b k,.u8 l,.s m],.ag [.ro 9 n,o,.int p,.int q]]=aa r :=
 bc (fun _ _=>by kernel_rfl) h
noncomputable def Nt (a b:ae) (d:ay) (e f g i:ae) (j:ay) (k:ae) (l:ai ae) (m n o p q s t u w x:AV) (y:ai AV) (z A:AV) (B:aB) (c:bj) (r:RunT):ak AV :=
 aa (.tu [.ag [m,n,o,p,q,s,t,u,w,x],.ag [.ro 9 y,z,A,.int B]])
noncomputable def Gr (a b:ae) (d:ay) (e f g i:ae) (j:ay) (k:ae) (l:ai ae) (m n:ae) (o:ay) (p q s t:ae) (u:ay) (w:ae) (x:ai ae) (y z A B D E G H I:AV) (J:ai AV) (L:AV) (M N:aB) (c:bj) (r:RunT):ak AV :=
 (c 22 [.un,E,.ag [.u8 a,.u8 b,.b d,.u8 e,.u8 f,.u8 g,.u8 i,.b j,.u8 k,.s l],.ag [.ro 9 J,L,.int M,.int N]]).bind fun O=>(cA O 0).bind fun P=>(cA O 1).bind fun Q=>(AV.cm 4 Q).bind fun R=>(AV.cm 10 P).bind fun T=>(cf .eql (gt R 3) (.int 0)).bind fun U=>a8 U
 ((c 22 [.un,G,.ag [.u8 a,.u8 b,.b d,.u8 e,.u8 f,.u8 g,.u8 i,.b j,.u8 k,.s l],.ag [.ro 9 (AV.elems (gt R 0)),gt R 1,gt R 2,gt R 3]]).bind fun V=>(cA V 0).bind fun W=>(cA V 1).bind fun Y=>(AV.cm 4 Y).bind fun Z=>(AV.cm 10 W).bind fun v0=>Gp r m n o p q s t u w x y z A B D E G H I (gt T 0) (gt T 1) (gt T 2) (gt T 3) (gt T 4) (gt T 5) (gt T 6) (gt T 7) (gt T 8) (gt T 9) (gt v0 0) (gt v0 1) (gt v0 2) (gt v0 3) (gt v0 4) (gt v0 5) (gt v0 6) (gt v0 7) (gt v0 8) (gt v0 9) (AV.elems (gt Z 0)) (gt Z 1) (gt Z 2) (gt Z 3))
 (Gp r m n o p q s t u w x y z A B D E G H I (gt T 0) (gt T 1) (gt T 2) (gt T 3) (gt T 4) (gt T 5) (gt T 6) (gt T 7) (gt T 8) (gt T 9) (.u8 a) (.u8 b) (.b d) (.u8 e) (.u8 f) (.u8 g) (.u8 i) (.b j) (.u8 k) (.s l) (AV.elems (gt R 0)) (gt R 1) (gt R 2) (gt R 3))
noncomputable def UZ (a b:ae) (d:ay) (e f g i:ae) (j:ay) (k:ae) (l:ai ae) (m n:ae) (o:ay) (p q s t:ae) (u:ay) (w:ae) (x:ai ae) (y:ai AV) (z:AV) (A B:aB) (c:bj) (r:RunT):ak AV :=
 aa (.tu [.ag [.u8 a,.u8 b,.b d,.u8 e,.u8 f,.u8 g,.u8 i,.b j,.u8 k,.s l],.ag [.ro 9 y,z,.int A,.int B]])
noncomputable def Gs (a b:ae) (d:ay) (e f g i:ae) (j:ay) (k:ae) (l:ai ae) (m n o p q s t u w x y z A B D E G H I J L M N O P Q R T U:AV) (V:ai AV) (W Y Z:AV) (c:bj) (r:RunT):ak AV :=
 (cf .eql Z (.int 0)).bind fun v0=>(bt v0 aj ((nh [.i,.i,.b,.i,.i,.i,.i,.b,.i,.s] .neq (.ag [x,y,z,A,B,D,E,G,H,I]) (.ag [J,L,M,N,O,P,Q,R,T,U])).bind fun v1=>aa v1) (.b af)).bind fun v2=>a8 v2
 ((AV.one n).bind fun v3=>Gq r a b d e f g i j k l x y z A B D E G H I V W v3 (.int 7))
 (Gq r a b d e f g i j k l x y z A B D E G H I V W Y Z)
noncomputable def U0 (a b:ae) (d:ay) (e f g i:ae) (j:ay) (k:ae) (l:ai ae) (m n o p q s t u w x:AV) (y:ai AV) (z A B:AV) (c:bj) (r:RunT):ak AV :=
 aa (.tu [.ag [m,n,o,p,q,s,t,u,w,x],.ag [.ro 9 y,z,A,B]])
theorem RX (a b d e f g i j k l m n o p q s t u w x y z A B) {r:AV} (h:Nt a b d e f g i j k l m n o p q s t u w x y z A B (aq (C mx) Tryz.prog) (a7 (C mx) Tryz.prog 39 Tryz.f39)=aa r):Nr (a7 (C mx) Tryz.prog 39 Tryz.f39) a b d e f g i j k l m n o p q s t u w x y z A B=aa r :=
 bh (fun _ _=>by kernel_rfl) h
theorem Nu (a b d e f g i j k l m n o p q s t u w x y z A B D E G H I J L M N) {r:AV} (h:Gr a b d e f g i j k l m n o p q s t u w x y z A B D E G H I J L M N (aq (C mx) Tryz.prog) (a7 (C mx) Tryz.prog 39 Tryz.f39)=aa r):CQ (a7 (C mx) Tryz.prog 39 Tryz.f39) a b d e f g i j k l m n o p q s t u w x y z A B D E G H I J L M N=aa r :=
 bh (fun _ _=>by kernel_rfl) h
theorem U1 (a b d e f g i j k l m n o p q s t u w x y z A B) {r:AV} (h:UZ a b d e f g i j k l m n o p q s t u w x y z A B (aq (C mx) Tryz.prog) (a7 (C mx) Tryz.prog 39 Tryz.f39)=aa r):Ns (a7 (C mx) Tryz.prog 39 Tryz.f39) a b d e f g i j k l m n o p q s t u w x y z A B=aa r :=
 bh (fun _ _=>by kernel_rfl) h
theorem Nv (a b d e f g i j k l m n o p q s t u w x y z A B D E G H I J L M N O P Q R T U V W Y Z) {r:AV} (h:Gs a b d e f g i j k l m n o p q s t u w x y z A B D E G H I J L M N O P Q R T U V W Y Z (aq (C mx) Tryz.prog) (a7 (C mx) Tryz.prog 39 Tryz.f39)=aa r):Gp (a7 (C mx) Tryz.prog 39 Tryz.f39) a b d e f g i j k l m n o p q s t u w x y z A B D E G H I J L M N O P Q R T U V W Y Z=aa r :=
 bh (fun _ _=>by kernel_rfl) h
theorem Gt (a b d e f g i j k l m n o p q s t u w x y z A B) {r:AV} (h:U0 a b d e f g i j k l m n o p q s t u w x y z A B (aq (C mx) Tryz.prog) (a7 (C mx) Tryz.prog 39 Tryz.f39)=aa r):Gq (a7 (C mx) Tryz.prog 39 Tryz.f39) a b d e f g i j k l m n o p q s t u w x y z A B=aa r :=
 bh (fun _ _=>by kernel_rfl) h
end lp
namespace lp
open Go Go.Proofs Sx R3
variable {mx:aB}
def stA (N:ai Nd) (top:AV) (a e:aB):AV:=.ag [.ro 9 (N.map mh),top,.int a,.int e]
noncomputable def LF (mx:aB) (L:ai ax) (j:ax) (c:Ctx) (N:ai Nd) (top:AV) (a e:aB):ak AV :=
 Ih (a7 (C mx) Tryz.prog 22 iJ) (.ro 1 (cj L)) (j:aB) (.u8 c.st) (.u8 c.el) (.b c.en) (.u8 c.at') (.u8 c.qu) (.u8 c.pa) (.u8 c.su) (.b c.es) (.u8 c.da) (.s c.nm) 0 0 af 0 0 0 0 af 0 [] (N.map mh) top (.int a) (.int e)
theorem U2 {L:ai ax} {j:ax} {c:Ctx} {N:ai Nd} {top:AV} {a e:aB} {r:AV}
  (h:El (.ro 1 (cj L)) (j:aB) (.u8 c.st) (.u8 c.el) (.b c.en) (.u8 c.at') (.u8 c.qu) (.u8 c.pa) (.u8 c.su) (.b c.es) (.u8 c.da) (.s c.nm) 0 0 af 0 0 0 0 af 0 [] (N.map mh) top (.int a) (.int e) (aq (C mx) Tryz.prog) (a7 (C mx) Tryz.prog 22 iJ)=aa r):LF mx L j c N top a e=aa r :=
 Ym _ _ _ _ _ _ _ _ _ _ _ _ _ _ _ _ _ _ _ _ _ _ _ _ _ _ h
theorem zu (L:ai ax):kH (.ro 1 (cj L))=aa (.int (L.length:aB)):=by simp [kH,cj]
theorem rW (a b c d:AV):AV.cm 4 (.ag [a,b,c,d])=aa [a,b,c,d]:=rfl
theorem IG {L:ai ax} {j:ax} (h:L.length≤j) (c:Ctx) (N:ai Nd) (top:AV) (a e:aB):LF mx L j c N top a e=aa (.tu [c.bw,stA N top a e]):=by
 apply U2
 have e1:decide ((j:aB) < (L.length:aB))=af:=by rw [aQ];omega
 simp only [El,zu,Option.bind_some,cR,e1,lL,ba,Bool.false_eq_true,aH]
 rfl
theorem rI {L:ai ax} {j:ax} (c:Ctx) (N:ai Nd) (top:AV) (a:aB) {e:aB} (he:e≠0):LF mx L j c N top a e=aa (.tu [c.bw,stA N top a e]):=by
 apply U2
 have e1:(e == 0)=af:=by simpa using he
 simp only [El,zu,Option.bind_some,cR,cX,e1,b9,gH,ba,Bool.false_eq_true,aH]
 rfl
theorem mE {L:ai ax} {j i:ax} (hi:L[j]?=aa i) (hL:L.length≤1000000) {c d:Ctx} {N N':ai Nd} {top:AV} {a a' e':aB} {r:AV}
  (hn:aq (C mx) Tryz.prog 39 [.un,.int (i:aB),c.bw,stA N top a 0]=aa (.tu [d.bw,stA N' top a' e'])) (h:LF mx L (j+1) d N' top a' e'=aa r):LF mx L j c N top a 0=aa r:=by
 apply U2
 have hj:j < L.length:=(List.getElem?_eq_some_iff.1 hi).1
 have e1:decide ((j:aB) < (L.length:aB))=aj:=by rw [aG];omega
 have e3:eE ((j:aB)+1)=((j+1:ax):aB):=by rw [gh (by omega) (by omega)];omega
 have hx:idx 1 (.ro 1 (cj L)) (.int (j:aB))=aa (.int (i:aB)):=by
  rw [oc 1 (by rw [cj,aP];exact hj)]
  simp only [cj,List.getElem_map,(List.getElem?_eq_some_iff.1 hi).2]
 unfold stA at hn
 simp only [El,zu,Option.bind_some,cR,cX,e1,beq_self_eq_true,b9,Bool.and_self,ba,aO,hx,kB,cg,cq,hn,oA,oB,rW,bm,zT,qH,qI,qJ,qK,fg,e3]
 exact h
theorem QM {L:ai ax} {c:Ctx} {N:ai Nd} {top:AV} {a e:aB} {r:AV} (h:LF mx L 0 c N top a e=aa r):aq (C mx) Tryz.prog 22 [.un,.ro 1 (cj L),c.bw,stA N top a e]=aa r:=by
 apply c22
 simp only [X22]
 exact h
end lp
namespace M3
open Go Go.Proofs Go.RowKit Go.Shelf Sx R3 lp
variable {mx:aB}
theorem CS (x:ae):(wrap64 (x.toNat:aB) == 20)=(x == 20):=by
 have h:=x.toNat_lt
 have e:wrap64 (x.toNat:aB)=(x.toNat:aB):=by unfold wrap64;omega
 rw [e]
 exact Ei x
theorem mz {w:az} {F:ax→Prop} (hG:cG (lp.C mx) w F) (c:Ctx) (hc:rK c) (q:aL) (hq:q.data.toList=c.nm):Calls Tryz.prog 20 #[j7 c q] w fun e w'=>e=.returned (.bool (form c))∧Ext w w':=by
 refine Calls.mono (rB (lp.fit mx) (c:=Tryz.f20.body.getD .skip) Tryz.func20 (by kernel_rfl) (FA (mx:=mx) c hc) (by kernel_rfl) w F #[j7 c q] hG rfl (Qi (rD w F c q hq))) fun e w' he=>?_
 obtain ⟨v,rfl,hx,hr⟩:=he
 unfold mG at hr
 rw [aJ (by kernel_rfl)] at hr
 cases hr
 exact ⟨rfl,hx⟩
theorem results11 (T:bF aC) (W:az) (N M:ax) (x y a b x0 x1 x2 x3 x4 x5 x6 x7 x8 x9:aC) (t4:T[4]?.getD undef=.pointer (aa ⟨N,0,ah⟩)) (t5:T[5]?.getD undef=.pointer (aa ⟨M,0,ah⟩)) (t6:T[6]?.getD undef=a) (t7:T[7]?.getD undef=b) (h0:W.heap[N]?=aa (.cells #[x,y] 26))
  (h1:W.heap[M]?=aa (.cells #[x0,x1,x2,x3,x4,x5,x6,x7,x8,x9] 40)) :
  (results Tryz.f11 T).run Tryz.prog W=.ok (.tuple #[.agg #[x,y],.agg #[x0,x1,x2,x3,x4,x5,x6,x7,x8,x9],a,b]) W:=by
 have hr:Tryz.f11.results = #[.cell 4 26,.cell 5 40,.tmp 6,.tmp 7]:=by kernel_rfl
 have l1:(loadVar 26 ⟨N,0,ah⟩).run Tryz.prog W=.ok (.agg #[x,y]) W:=by
  simp [loadVar,go_sem,(cF h0).1,(cF h0).2.1,Result.andThen]
 obtain ⟨⟨c0,c1,c2,c3,c4,c5,c6,c7,c8,c9⟩,_⟩:=dg h1
 have l2:(loadVar 40 ⟨M,0,ah⟩).run Tryz.prog W=.ok (.agg #[x0,x1,x2,x3,x4,x5,x6,x7,x8,x9]) W:=by
  simp [loadVar,go_sem,c0,c1,c2,c3,c4,c5,c6,c7,c8,c9,Result.andThen]
 unfold results
 rw [hr]
 simp [t4,t5,t6,t7,Sem.run_bind,asAddr,l1,l2,Result.andThen]
theorem vw {w:az} {F:ax→Prop} (hG:cG (lp.C mx) w F) {s q:aL} {c:Ctx} (hc:rK c) (hq:q.data.toList=c.nm) (hf:form c=af) :
  CallsIn Fence.wide 12 Tryz.prog 11 #[.string s,j7 c q] w (fh w F (.tu [j8,(ea 0).bw,.int 0,.int 1])):=by
 have oH:=FM.first w c q
 have eJ:=mz (mx:=mx) (cG.ext' hG oH.ext (F':=F) fun _ _ h=>h) c hc q hq
 rw [hf] at eJ
 clear hG
 refine bC gq rfl trivial ?_ rfl
 simp only [fT,Nat.reduceAdd,Nat.reduceSub,zC,j7]
 gi_wp2_with (refine ⟨trivial,?_⟩;gi_at_call 20;refine (aT.2 eJ).mono ?_;clear eJ;rintro e w2 ⟨rfl,hx2⟩;have hm:=oH.next hx2;obtain ⟨⟨p0,p1,p2,p3,p4,p5,p6,p7,p8,p9⟩,-⟩:=dg hm.b0;obtain ⟨a0,a1,a2,a3⟩:=cF hm.b1;obtain ⟨⟨u0,u1,u2,u3,u4,u5,u6,u7,u8,u9⟩,v0,v1,v2,v3,v4,v5,v6,v7,v8,v9⟩:=dg hm.b2;clear hx2 oH)
 exact bodyPost_ret (results11 _ _ (w.heap.size+1) (w.heap.size+1+1) _ _ _ _ _ _ _ _ _ _ _ _ _ _ rfl rfl rfl rfl (hm.kX _ _ _ _ _ _ _ _ _ _ _ _).1 (hm.kX _ _ _ _ _ _ _ _ _ _ _ _).2) rfl (hm.bad 0 1)
theorem vz {w:az} {F:ax→Prop} (hG:cG (lp.C mx) w F) {s q:aL} {c:Ctx} (hc:rK c) (hq:q.data.toList=c.nm) (hf:form c=aj) (hst:(c.st == 20)=aj) :
  CallsIn Fence.wide 12 Tryz.prog 11 #[.string s,j7 c q] w (fh w F (.tu [j8,(ea 0).bw,.int 0,.int 1])):=by
 have oH:=FM.first w c q
 have eJ:=mz (mx:=mx) (cG.ext' hG oH.ext (F':=F) fun _ _ h=>h) c hc q hq
 rw [hf] at eJ
 rw [← CS] at hst
 clear hG
 refine bC gq rfl trivial ?_ rfl
 simp only [fT,Nat.reduceAdd,Nat.reduceSub,zC,j7]
 gi_wp2_with (refine ⟨trivial,?_⟩;gi_at_call 20;refine (aT.2 eJ).mono ?_;clear eJ;rintro e w2 ⟨rfl,hx2⟩;have hm:=oH.next hx2;obtain ⟨⟨p0,p1,p2,p3,p4,p5,p6,p7,p8,p9⟩,-⟩:=dg hm.b0;obtain ⟨a0,a1,a2,a3⟩:=cF hm.b1;obtain ⟨⟨u0,u1,u2,u3,u4,u5,u6,u7,u8,u9⟩,v0,v1,v2,v3,v4,v5,v6,v7,v8,v9⟩:=dg hm.b2;clear hx2 oH)
 exact bodyPost_ret (results11 _ _ (w.heap.size+1) (w.heap.size+1+1) _ _ _ _ _ _ _ _ _ _ _ _ _ _ rfl rfl rfl rfl (hm.kX _ _ _ _ _ _ _ _ _ _ _ _).1 (hm.kX _ _ _ _ _ _ _ _ _ _ _ _).2) rfl (hm.bad 0 1)
theorem th {w:az} {F:ax→Prop} (hG:cG (lp.C mx) w F) {s q:aL} {c:Ctx} (hc:rK c) (hq:q.data.toList=c.nm) (hf:form c=aj) (hst:(c.st == 20)=af) {a er:ax} (he:er≠0) (hp:CJ s.data.toList=.bad a er) :
  CallsIn Fence.wide 12 Tryz.prog 11 #[.string s,j7 c q] w (fh w F (.tu [j8,(ea 0).bw,.int (a:aB),.int (er:aB)])):=by
 have oH:=FM.first w c q
 have eJ:=mz (mx:=mx) (cG.ext' hG oH.ext (F':=F) fun _ _ h=>h) c hc q hq
 rw [hf] at eJ
 rw [← CS] at hst
 obtain ⟨hmx,-⟩:=wI hG
 have h1:decide (0=(er:aB))=af:=by simp;omega
 have h2:decide ((er:aB)=0)=af:=by simp;omega
 clear hG
 refine bC gq rfl trivial ?_ rfl
 simp only [fT,Nat.reduceAdd,Nat.reduceSub,zC,j7]
 gi_wp2_with (first
  | (refine ⟨trivial,?_⟩;gi_at_call 20;refine (aT.2 eJ).mono ?_;clear eJ;rintro e w2 ⟨rfl,hx2⟩;have hm:=oH.next hx2;obtain ⟨⟨p0,p1,p2,p3,p4,p5,p6,p7,p8,p9⟩,-⟩:=dg hm.b0;clear hx2 oH)
  | (refine ⟨trivial,?_⟩;gi_at_call 21;refine (aT.2 (aT.1 (Gn (mx:=mx) s w2 (cE hm.ext hmx)))).mono ?_;rintro e w3 fp;rw [hp] at fp;obtain ⟨hx3,rfl⟩:=fp;clear p0 p1 p2 p3 p4 p5 p6 p7 p8 p9;obtain ⟨mq,yN,vA,-⟩:=(hm.next hx3).var (.slice ah 0 0) (.slice ah 0 0);generalize Qu:w3.alloc (.cells #[.slice ah 0 0,.slice ah 0 0] 26)=W4 at mq yN vA;generalize JN:(W4.setCell ⟨w3.heap.size,0,ah⟩ (.slice ah 0 0)).setCell ⟨w3.heap.size,1,ah⟩ (.slice ah 0 0)=W5 at mq vA;obtain ⟨t0,t1,t2,t3⟩:=cF yN;clear yN vA;obtain ⟨a0,a1,a2,a3⟩:=cF mq.b1;obtain ⟨⟨u0,u1,u2,u3,u4,u5,u6,u7,u8,u9⟩,v0,v1,v2,v3,v4,v5,v6,v7,v8,v9⟩:=dg mq.b2))
 exact bodyPost_ret (results11 _ _ (w.heap.size+1) (w.heap.size+1+1) _ _ _ _ _ _ _ _ _ _ _ _ _ _ rfl rfl rfl rfl (mq.kX _ _ _ _ _ _ _ _ _ _ _ _).1 (mq.kX _ _ _ _ _ _ _ _ _ _ _ _).2) rfl (mq.bad (a:aB) (er:aB))
theorem Nw {w w2 w3 W5:az} {F:ax→Prop} (hG:cG (lp.C mx) w F) {q:aL} {c:Ctx} (hc:rK c) (hq:q.data.toList=c.nm) (SV:FM w c q w2) (hx3:Ext w2 w3) (kW:Ext w3 W5) (mq:FM w c q W5) {nodes:ai Mn} {top:ai ax} {s2 s3:aC}
  (hown:cY w3 (fun b=>(b < w2.heap.size→b=1)∧s2.ownBlock≠aa b) 58 9 (nodes.map Mn.av) s2) (l4:∀ g,s2.ownBlock=aa g→w2.heap.size≤g∧g < w3.heap.size) (Zb:s3.oneCell'=aj) (hr:Rel w3 (fun b=>(b < w2.heap.size→b=1)∧s2.ownBlock≠aa b) (.ro 1 (cj top)) s3)
  {d:Ctx} {N':ai Nd} {ta te:aB} (Gu:aq (lp.C mx) Tryz.prog 22 [.un,.ro 1 (cj top),c.bw,.ag [.ro 9 (nodes.map Mn.av),.ro 1 (cj top),.int 0,.int 0]]=aa (.tu [d.bw,stA N' (.ro 1 (cj top)) ta te])) :
  Calls Tryz.prog 22 #[.pointer (aa ⟨W5.heap.size,0,ah⟩),s3,j7 c q] (W5.alloc (.cells #[s2,s3,.int .i64 0,.int .i64 0] 66)) fun e w7=>∃ (q':aL) (a0 a1:ak Addr) (m0 m1 k0 k1 e':ax),e=.returned (j7 d q')∧q'.data.toList=d.nm∧FM w c q w7∧W5.heap.size < w7.heap.size ∧
   w7.heap[W5.heap.size]?=aa (.cells #[.slice a0 m0 k0,.slice a1 m1 k1,.int .i64 ta,.int .i64 te] e' (0,0))∧Rel w7 (F8 w w2 F) (.ro 9 (N'.map mh)) (.slice a0 m0 k0)∧Rel w7 (F8 w w2 F) (.ro 1 (cj top)) (.slice a1 m1 k1):=by
 obtain ⟨hmx,Vg⟩:=wI hG
 have Cv:=cM hmx
 have hs2:=SV.size
 have hs3:=hx3.size
 have hs5:=kW.size
 have lA:Ext W5 (W5.alloc (.cells #[s2,s3,.int .i64 0,.int .i64 0] 66)):=Ext.push W5 _
 have hP:=World.alloc_heap_new W5 (.cells #[s2,s3,.int .i64 0,.int .i64 0] 66)
 have hsz:(W5.alloc (.cells #[s2,s3,.int .i64 0,.int .i64 0] 66)).heap.size=W5.heap.size+1:=by simp
 have yO:=mq.next lA
 generalize W5.alloc (.cells #[s2,s3,.int .i64 0,.int .i64 0] 66)=W6 at lA hP hsz yO ⊢
 have UC:∀ b,b < w3.heap.size→((b < w2.heap.size→b=1)∧s2.ownBlock≠aa b)→((b < W5.heap.size∧(b < w2.heap.size→b < w.heap.size∧F b))∧s2.ownBlock≠aa b)∧W6.heap[b]?=w3.heap[b]?:=fun b hb h =>
  ⟨⟨⟨by omega,fun hlt=>by have:=h.1 hlt;subst this;exact ⟨Cv,Vg⟩⟩,h.2⟩,(lA.block b (by omega)).trans (kW.block b hb)⟩
 have key:=td (mx:=mx) (w:=W6) (F:=fun b=>(b < W5.heap.size∧(b < w2.heap.size→b < w.heap.size∧F b))∧s2.ownBlock≠aa b)
  (cG.ext' hG (yO.ext) (fun b hb hf=>⟨⟨by have:=mq.size;omega,fun _=>⟨hb,hf⟩⟩,fun e=>by have:=(l4 b e).1;omega⟩)) (Pb:=W5.heap.size) (ty:=66) (nv:=s2) (tv:=s3) (v1:=s3) (v2:=j7 c q) (at':=0) (e:=0) (u1:=.ro 1 (cj top)) (u2:=c.bw) (top:=.ro 1 (cj top)) (nodes:=nodes.map Mn.av)
  hP (fun h=>by have:=h.1.1;omega) (fun g hg=>⟨fun h=>h.2 hg,by have:=(l4 g hg).2;omega,by have:=(l4 g hg).2;omega⟩) (hr.mono UC) (rD _ _ c q hq) Zb (hr.mono UC) (hown.mono UC (fun b hb=>(lA.block b (by have:=(l4 b hb).2;omega)).trans (kW.block b (l4 b hb).2))) Gu
 refine Calls.mono key fun e w7 h=>?_
 obtain ⟨v,x0,x1,x2,x3,e',rfl,hb2,Yi,Eg,hown2,⟨h11,hr1⟩,hr2,hr3,Yj⟩:=h
 obtain ⟨q',hq',rfl⟩:=xB Eg
 obtain ⟨a0,m0,k0,rfl⟩:=AA hown2
 obtain ⟨a1,k1,rfl,_⟩:=gb hr1
 cases hr2;cases hr3
 have hsw:=hb2.size
 have same:∀ b,b < W5.heap.size→s2.ownBlock≠aa b→w7.heap[b]?=W6.heap[b]?:=fun b hb ho=>hb2.block b (by omega) (by omega) ho
 have tj:∀ b,b < w2.heap.size→s2.ownBlock≠aa b:=fun b hb e=>by have:=(l4 b e).1;omega
 refine ⟨q',a0,a1,m0,_,k0,k1,e',rfl,hq',⟨⟨hb2.os.trans yO.ext.os,hb2.tape.trans yO.ext.tape,hb2.output.trans yO.ext.output,by have:=yO.ext.size;omega,fun b hb=>(same b (by omega) (tj b (by omega))).trans (yO.ext.block b hb)⟩,by have:=yO.size;omega,(same _ (by omega) (tj _ (by omega))).trans yO.b0,(same _ (by omega) (tj _ (by omega))).trans yO.b1,(same _ (by omega) (tj _ (by omega))).trans yO.b2⟩,by omega,Yi,?_,?_⟩
 ·refine hown2.rel (fun b hb h hlt=>?_) (fun g hg hlt=>?_)
  ·rcases h.1 (by omega) with h | h
   ·exact h.1.2 hlt
   ·exact absurd h (tj b hlt)
  ·rcases (Yj g hg).1 with h | h
   ·omega
   ·exact absurd h (tj g hlt)
 ·refine hr1.mono fun b hb h=>⟨fun hlt=>?_,rfl⟩
  rcases h.1 (by omega) with h | h
  ·exact h.1.2 hlt
  ·exact absurd h (tj b hlt)
theorem yP {w:az} {F:ax→Prop} (hG:cG (lp.C mx) w F) {s q:aL} {c:Ctx} (hc:rK c) (hq:q.data.toList=c.nm) (hf:form c=aj) (hst:(c.st == 20)=af) {nodes:ai Mn} {top:ai ax} (hp:CJ s.data.toList=.ok nodes top)
  {d:Ctx} {N':ai Nd} {ta te:aB} (Gu:aq (lp.C mx) Tryz.prog 22 [.un,.ro 1 (cj top),c.bw,.ag [.ro 9 (nodes.map Mn.av),.ro 1 (cj top),.int 0,.int 0]]=aa (.tu [d.bw,stA N' (.ro 1 (cj top)) ta te])) (J4:te≠0) :
  CallsIn Fence.wide 12 Tryz.prog 11 #[.string s,j7 c q] w (fh w F (.tu [j8,(ea 0).bw,.int ta,.int te])):=by
 have oH:=FM.first w c q
 have eJ:=mz (mx:=mx) (cG.ext' hG oH.ext (F':=F) fun _ _ h=>h) c hc q hq
 rw [hf] at eJ
 rw [← CS] at hst
 obtain ⟨hmx,-⟩:=wI hG
 refine bC gq rfl trivial ?_ rfl
 simp only [fT,Nat.reduceAdd,Nat.reduceSub,zC,j7]
 gi_wp2_with (first
  | (refine ⟨trivial,?_⟩;gi_at_call 20;refine (aT.2 eJ).mono ?_;clear eJ;rintro e w2 ⟨rfl,hx2⟩;have hm:=oH.next hx2;obtain ⟨⟨p0,p1,p2,p3,p4,p5,p6,p7,p8,p9⟩,-⟩:=dg hm.b0;clear hx2 oH)
  | (refine ⟨trivial,?_⟩;gi_at_call 21;refine (aT.2 (aT.1 (Gn (mx:=mx) s w2 (cE hm.ext hmx)))).mono ?_;rintro e w3 fp;rw [hp] at fp;obtain ⟨hx3,mb,n2,c2,rX,c3,rfl,hown,l4,hr⟩:=fp;clear p0 p1 p2 p3 p4 p5 p6 p7 p8 p9 hp;obtain ⟨mq,yN,vA,pq⟩:=(hm.next hx3).var (.slice mb n2 c2) (.slice rX top.length c3);generalize Qu:w3.alloc (.cells #[.slice ah 0 0,.slice ah 0 0] 26)=W4 at mq yN vA pq;generalize JN:(W4.setCell ⟨w3.heap.size,0,ah⟩ (.slice mb n2 c2)).setCell ⟨w3.heap.size,1,ah⟩ (.slice rX top.length c3)=W5 at mq vA pq;obtain ⟨t0,t1,t2,t3⟩:=cF yN;obtain ⟨z0,z1,z2,z3⟩:=cF vA;have key:=Nw (mx:=mx) hG hc hq hm hx3 pq mq hown l4 rfl hr Gu;have lA:Ext W5 (W5.alloc (.cells #[.slice mb n2 c2,.slice rX top.length c3,.int .i64 0,.int .i64 0] 66)):=Ext.push W5 _;generalize N4:W5.alloc (.cells #[.slice mb n2 c2,.slice rX top.length c3,.int .i64 0,.int .i64 0] 66)=W6 at key lA;have z4:=cE lA z1;obtain ⟨⟨p0,p1,p2,p3,p4,p5,p6,p7,p8,p9⟩,-⟩:=dg (mq.next lA).b0;have yQ:W5.heap.size≠w.heap.size+1:=(by have:=mq.size;omega);have Cy:W5.heap.size≠w.heap.size+1+1:=(by have:=mq.size;omega);clear hm yN vA hx3 pq mq hown l4 hr Gu lA hG hmx hc hq)
  | (refine ⟨trivial,?_⟩;gi_at_call 22;refine (aT.2 key).mono ?_;clear key;rintro e w7 ⟨q',a0,a1,m0,m1,k0,k1,e',rfl,hq',JO,MU,MV,zD,hr1⟩;clear t0 t1 t2 t3 z0 z1 z2 z3 z4 p0 p1 p2 p3 p4 p5 p6 p7 p8 p9 Qu JN N4;have yR:Ext w7 (w7.alloc (.cells #[.int .u8 (d.st.toNat:aB),.int .u8 (d.el.toNat:aB),.bool d.en,.int .u8 (d.at'.toNat:aB),.int .u8 (d.qu.toNat:aB),.int .u8 (d.pa.toNat:aB),.int .u8 (d.su.toNat:aB),.bool d.es,.int .u8 (d.da.toNat:aB),.string q'] 40)):=Ext.push w7 _;have Ej:=World.alloc_heap_new w7 (.cells #[.int .u8 (d.st.toNat:aB),.int .u8 (d.el.toNat:aB),.bool d.en,.int .u8 (d.at'.toNat:aB),.int .u8 (d.qu.toNat:aB),.int .u8 (d.pa.toNat:aB),.int .u8 (d.su.toNat:aB),.bool d.es,.int .u8 (d.da.toNat:aB),.string q'] 40);generalize UD:w7.alloc (.cells #[.int .u8 (d.st.toNat:aB),.int .u8 (d.el.toNat:aB),.bool d.en,.int .u8 (d.at'.toNat:aB),.int .u8 (d.qu.toNat:aB),.int .u8 (d.pa.toNat:aB),.int .u8 (d.su.toNat:aB),.bool d.es,.int .u8 (d.da.toNat:aB),.string q'] 40)=W9 at yR Ej;have Cz:=JO.next yR;have F5:=(yR.block _ MU).trans MV;obtain ⟨⟨l0,l1,l2,l3⟩,-⟩:=qM F5;obtain ⟨⟨y0,y1,y2,y3,y4,y5,y6,y7,y8,y9⟩,-⟩:=dg Ej;obtain ⟨b0,b1,b2,b3⟩:=cF Cz.b1;obtain ⟨⟨u0,u1,u2,u3,u4,u5,u6,u7,u8,u9⟩,v0,v1,v2,v3,v4,v5,v6,v7,v8,v9⟩:=dg Cz.b2;clear JO MU MV Ej yR;unfold j7))
 have abl:decide (0=te)=af:=by simp;omega
 obtain ⟨MW,hf2⟩:=Cz.kX (.slice ah 0 0) (.slice ah 0 0) (.int .u8 0) (.int .u8 0) (.bool af) (.int .u8 0) (.int .u8 0) (.int .u8 0) (.int .u8 0) (.bool af) (.int .u8 0) (.string ⟨#[]⟩)
 have fp:=Cz.bad (F:=F) ta te
 change fh w F _ (.returned (.tuple #[.agg #[.slice ah 0 0,.slice ah 0 0],.agg #[.int .u8 0,.int .u8 0,.bool af,.int .u8 0,.int .u8 0,.int .u8 0,.int .u8 0,.bool af,.int .u8 0,.string ⟨#[]⟩],.int .i64 ta,.int .i64 te])) (jI ((W9.setCell ⟨w.heap.size+1,0,ah⟩ (.slice ah 0 0)).setCell ⟨w.heap.size+1,1,ah⟩ (.slice ah 0 0)) (w.heap.size+1+1) (.int .u8 0) (.int .u8 0) (.bool af) (.int .u8 0) (.int .u8 0) (.int .u8 0) (.int .u8 0) (.bool af) (.int .u8 0) (.string ⟨#[]⟩)) at fp
 have MX:=(jF (W:=(W9.setCell ⟨w.heap.size+1,0,ah⟩ (.slice ah 0 0)).setCell ⟨w.heap.size+1,1,ah⟩ (.slice ah 0 0)) Cy (.int .u8 0) (.int .u8 0) (.bool af) (.int .u8 0) (.int .u8 0) (.int .u8 0) (.int .u8 0) (.bool af) (.int .u8 0) (.string ⟨#[]⟩)).trans ((bl yQ).trans ((bl yQ).trans F5))
 generalize UE:jI ((W9.setCell ⟨w.heap.size+1,0,ah⟩ (.slice ah 0 0)).setCell ⟨w.heap.size+1,1,ah⟩ (.slice ah 0 0)) (w.heap.size+1+1) (.int .u8 0) (.int .u8 0) (.bool af) (.int .u8 0) (.int .u8 0) (.int .u8 0) (.int .u8 0) (.bool af) (.int .u8 0) (.string ⟨#[]⟩)=Wf at MW hf2 fp MX
 obtain ⟨⟨x0,x1,x2,x3⟩,-⟩:=qM MX
 unfold jI at UE
 rw [wpIn_wide]
 clear zD hr1 hq' y0 y1 y2 y3 y4 y5 y6 y7 y8 y9 UD
 go_region_law (fail)
 all_goals gi_wp2
 all_goals first
  | exact bodyPost_ret (results11 _ _ (w.heap.size+1) (w.heap.size+1+1) (.slice ah 0 0) (.slice ah 0 0) (.int .i64 ta) (.int .i64 te) (.int .u8 0) (.int .u8 0) (.bool af) (.int .u8 0) (.int .u8 0) (.int .u8 0) (.int .u8 0) (.bool af) (.int .u8 0) (.string ⟨#[]⟩) rfl rfl rfl rfl MW hf2) rfl fp.drew
theorem CA {w:az} {F:ax→Prop} (hG:cG (lp.C mx) w F) {s q:aL} {c:Ctx} (hc:rK c) (hq:q.data.toList=c.nm) (hf:form c=aj) (hst:(c.st == 20)=af) {nodes:ai Mn} {top:ai ax} (hp:CJ s.data.toList=.ok nodes top)
  {d:Ctx} {N':ai Nd} {ta te:aB} (Gu:aq (lp.C mx) Tryz.prog 22 [.un,.ro 1 (cj top),c.bw,.ag [.ro 9 (nodes.map Mn.av),.ro 1 (cj top),.int 0,.int 0]]=aa (.tu [d.bw,stA N' (.ro 1 (cj top)) ta te])) (J4:te=0) :
  CallsIn Fence.wide 12 Tryz.prog 11 #[.string s,j7 c q] w (fh w F (.tu [.ag [.ro 9 (N'.map mh),.ro 1 (cj top)],d.bw,.int 0,.int 0])):=by
 have oH:=FM.first w c q
 have eJ:=mz (mx:=mx) (cG.ext' hG oH.ext (F':=F) fun _ _ h=>h) c hc q hq
 rw [hf] at eJ
 rw [← CS] at hst
 obtain ⟨hmx,-⟩:=wI hG
 refine bC gq rfl trivial ?_ rfl
 simp only [fT,Nat.reduceAdd,Nat.reduceSub,zC,j7]
 gi_wp2_with (first
  | (refine ⟨trivial,?_⟩;gi_at_call 20;refine (aT.2 eJ).mono ?_;clear eJ;rintro e w2 ⟨rfl,hx2⟩;have hm:=oH.next hx2;have hs2:=hm.size;obtain ⟨⟨p0,p1,p2,p3,p4,p5,p6,p7,p8,p9⟩,-⟩:=dg hm.b0;clear hx2 oH)
  | (refine ⟨trivial,?_⟩;gi_at_call 21;refine (aT.2 (aT.1 (Gn (mx:=mx) s w2 (cE hm.ext hmx)))).mono ?_;rintro e w3 fp;rw [hp] at fp;obtain ⟨hx3,mb,n2,c2,rX,c3,rfl,hown,l4,hr⟩:=fp;clear p0 p1 p2 p3 p4 p5 p6 p7 p8 p9 hp;obtain ⟨mq,yN,vA,pq⟩:=(hm.next hx3).var (.slice mb n2 c2) (.slice rX top.length c3);generalize Qu:w3.alloc (.cells #[.slice ah 0 0,.slice ah 0 0] 26)=W4 at mq yN vA pq;generalize JN:(W4.setCell ⟨w3.heap.size,0,ah⟩ (.slice mb n2 c2)).setCell ⟨w3.heap.size,1,ah⟩ (.slice rX top.length c3)=W5 at mq vA pq;obtain ⟨t0,t1,t2,t3⟩:=cF yN;obtain ⟨z0,z1,z2,z3⟩:=cF vA;have key:=Nw (mx:=mx) hG hc hq hm hx3 pq mq hown l4 rfl hr Gu;have lA:Ext W5 (W5.alloc (.cells #[.slice mb n2 c2,.slice rX top.length c3,.int .i64 0,.int .i64 0] 66)):=Ext.push W5 _;generalize N4:W5.alloc (.cells #[.slice mb n2 c2,.slice rX top.length c3,.int .i64 0,.int .i64 0] 66)=W6 at key lA;have z4:=cE lA z1;obtain ⟨⟨p0,p1,p2,p3,p4,p5,p6,p7,p8,p9⟩,-⟩:=dg (mq.next lA).b0;have yQ:W5.heap.size≠w.heap.size+1:=(by have:=mq.size;omega);have Cy:W5.heap.size≠w.heap.size+1+1:=(by have:=mq.size;omega);clear hm yN vA hx3 pq mq hown l4 hr Gu lA hG hmx hc hq)
  | (refine ⟨trivial,?_⟩;gi_at_call 22;refine (aT.2 key).mono ?_;clear key;rintro e w7 ⟨q',a0,a1,m0,m1,k0,k1,e',rfl,hq',JO,MU,MV,zD,hr1⟩;clear t0 t1 t2 t3 z0 z1 z2 z3 z4 p0 p1 p2 p3 p4 p5 p6 p7 p8 p9 Qu JN N4;have yR:Ext w7 (w7.alloc (.cells #[.int .u8 (d.st.toNat:aB),.int .u8 (d.el.toNat:aB),.bool d.en,.int .u8 (d.at'.toNat:aB),.int .u8 (d.qu.toNat:aB),.int .u8 (d.pa.toNat:aB),.int .u8 (d.su.toNat:aB),.bool d.es,.int .u8 (d.da.toNat:aB),.string q'] 40)):=Ext.push w7 _;have Ej:=World.alloc_heap_new w7 (.cells #[.int .u8 (d.st.toNat:aB),.int .u8 (d.el.toNat:aB),.bool d.en,.int .u8 (d.at'.toNat:aB),.int .u8 (d.qu.toNat:aB),.int .u8 (d.pa.toNat:aB),.int .u8 (d.su.toNat:aB),.bool d.es,.int .u8 (d.da.toNat:aB),.string q'] 40);generalize UD:w7.alloc (.cells #[.int .u8 (d.st.toNat:aB),.int .u8 (d.el.toNat:aB),.bool d.en,.int .u8 (d.at'.toNat:aB),.int .u8 (d.qu.toNat:aB),.int .u8 (d.pa.toNat:aB),.int .u8 (d.su.toNat:aB),.bool d.es,.int .u8 (d.da.toNat:aB),.string q'] 40)=W9 at yR Ej;have Cz:=JO.next yR;have UF:=zD.mono (w':=W9) (fun b hb hf=>⟨hf,yR.block b hb⟩);have UG:=hr1.mono (w':=W9) (fun b hb hf=>⟨hf,yR.block b hb⟩);clear zD hr1;have F5:=(yR.block _ MU).trans MV;obtain ⟨⟨l0,l1,l2,l3⟩,-⟩:=qM F5;obtain ⟨⟨y0,y1,y2,y3,y4,y5,y6,y7,y8,y9⟩,-⟩:=dg Ej;obtain ⟨b0,b1,b2,b3⟩:=cF Cz.b1;obtain ⟨⟨u0,u1,u2,u3,u4,u5,u6,u7,u8,u9⟩,v0,v1,v2,v3,v4,v5,v6,v7,v8,v9⟩:=dg Cz.b2;have abm:=JO.size;clear JO MU MV yR;rw [J4] at F5 l3;unfold j7))
 obtain ⟨MW,hf2⟩:=Cz.kX (.slice a0 m0 k0) (.slice a1 m1 k1) (.int .u8 (d.st.toNat:aB)) (.int .u8 (d.el.toNat:aB)) (.bool d.en) (.int .u8 (d.at'.toNat:aB)) (.int .u8 (d.qu.toNat:aB)) (.int .u8 (d.pa.toNat:aB)) (.int .u8 (d.su.toNat:aB)) (.bool d.es) (.int .u8 (d.da.toNat:aB)) (.string q')
 have fp:=Cz.good hs2 UF UG hq'
 have MX:=(jF (W:=((W9.setCell ⟨w.heap.size+1,0,ah⟩ (.slice a0 m0 k0)).setCell ⟨w.heap.size+1,1,ah⟩ (.slice a1 m1 k1))) Cy (.int .u8 (d.st.toNat:aB)) (.int .u8 (d.el.toNat:aB)) (.bool d.en) (.int .u8 (d.at'.toNat:aB)) (.int .u8 (d.qu.toNat:aB)) (.int .u8 (d.pa.toNat:aB)) (.int .u8 (d.su.toNat:aB)) (.bool d.es) (.int .u8 (d.da.toNat:aB)) (.string q')).trans ((bl yQ).trans ((bl yQ).trans F5))
 have Yk:=(jF (W:=((W9.setCell ⟨w.heap.size+1,0,ah⟩ (.slice a0 m0 k0)).setCell ⟨w.heap.size+1,1,ah⟩ (.slice a1 m1 k1))) (b:=w.heap.size+1+1) (k:=w7.heap.size) (by omega) (.int .u8 (d.st.toNat:aB)) (.int .u8 (d.el.toNat:aB)) (.bool d.en) (.int .u8 (d.at'.toNat:aB)) (.int .u8 (d.qu.toNat:aB)) (.int .u8 (d.pa.toNat:aB)) (.int .u8 (d.su.toNat:aB)) (.bool d.es) (.int .u8 (d.da.toNat:aB)) (.string q')).trans ((bl (show w7.heap.size≠w.heap.size+1 by omega)).trans ((bl (show w7.heap.size≠w.heap.size+1 by omega)).trans Ej))
 generalize UE:jI ((W9.setCell ⟨w.heap.size+1,0,ah⟩ (.slice a0 m0 k0)).setCell ⟨w.heap.size+1,1,ah⟩ (.slice a1 m1 k1)) (w.heap.size+1+1) (.int .u8 (d.st.toNat:aB)) (.int .u8 (d.el.toNat:aB)) (.bool d.en) (.int .u8 (d.at'.toNat:aB)) (.int .u8 (d.qu.toNat:aB)) (.int .u8 (d.pa.toNat:aB)) (.int .u8 (d.su.toNat:aB)) (.bool d.es) (.int .u8 (d.da.toNat:aB)) (.string q')=Wf at MW hf2 fp MX Yk
 obtain ⟨⟨x0,x1,x2,x3⟩,-⟩:=qM MX
 obtain ⟨⟨g0,g1,g2,g3,g4,g5,g6,g7,g8,g9⟩,-⟩:=dg Yk
 unfold jI at UE
 rw [wpIn_wide]
 clear hq' UD F5 Ej
 go_region_law (fail)
 all_goals gi_wp2
 all_goals first
  | exact bodyPost_ret (results11 _ _ (w.heap.size+1) (w.heap.size+1+1) (.slice a0 m0 k0) (.slice a1 m1 k1) (.int .i64 0) (.int .i64 0) (.int .u8 (d.st.toNat:aB)) (.int .u8 (d.el.toNat:aB)) (.bool d.en) (.int .u8 (d.at'.toNat:aB)) (.int .u8 (d.qu.toNat:aB)) (.int .u8 (d.pa.toNat:aB)) (.int .u8 (d.su.toNat:aB)) (.bool d.es) (.int .u8 (d.da.toNat:aB)) (.string q') rfl rfl rfl rfl MW hf2) rfl fp.drew
end M3
