/-
  A part of InferFragments's proof.
-/
import Derived.Test.YtgjfbalafdifgaaGreatDoorTB
import Derived.Deep.RegionHeld3
import Derived.Test.YtgjfbalafdifgaaGreatDoorTC
import Derived.Test.YtgjfbalafdifgaaGreatDoorTF
import Derived.Test.YtgjfbalafdifgaaGreatDoorTE
import Derived.Test.YtgjfbalafdifgaaGreatDoorTD
import Derived.Test.YtgjfbalafdifgaaGreatDoorProg
set_option linter.unusedVariables false
set_option linter.unusedSimpArgs false
set_option linter.unusedSectionVars false
set_option linter.unnecessarySimpa false
set_option maxRecDepth 100000
set_option maxHeartbeats 4000000
noncomputable section
namespace R3
open Go Go.RowKit Sx
section
variable {P:Program} {ops:Array Oper} {nc:List Nat} {Q:Exit→Act→World→Prop} {E:World→World→Prop}
def quiet (nc:List Nat) (i:Nat):Bool:=!(nc.any (Nat.beq i))
def og (P:Program) (ops:Array Oper) (nc:List Nat) (Q:Exit→Act→World→Prop) (E:World→World→Prop) (p:Nat×Bool) (N:Act→World→Prop) (a:Act) (w:World):Prop :=
 if p.2=true then ∃ oi v,ops[p.1]?=some oi∧YieldsIf P ops (E w) oi v a∧N (a.put oi.dst v) w
 else wpOp P ops Q p.1 (fun a' w'=>(quiet nc p.1=true→E w w')∧N a' w') a w
def ug (P:Program) (ops:Array Oper) (nc:List Nat) (Q:Exit→Act→World→Prop) (E:World→World→Prop):List (Nat×Bool)→(Act→World→Prop)→Act→World→Prop
 | [],N,a,w=>N a w
 | p :: r,N,a,w=>og P ops nc Q E p (ug P ops nc Q E r N) a w
def pq (P:Program) (ops:Array Oper) (nc:List Nat) (Q:Exit→Act→World→Prop) (E:World→World→Prop):Nat→Array Bool→Act→World→Prop
 | 0,done,a,w=>Region.ready .any ops done=[]∧Q .normal a w
 | m+1,done,a,w=>(Region.ready .any ops done=[]→Q .normal a w)∧∀ i ∈ Region.ready .any ops done,wpOp P ops Q i (fun a' w'=>(quiet nc i=true→E w w')∧pq P ops nc Q E m (done.setIfInBounds i true) a' w') a w
theorem pq.any:∀ (m:Nat) {done:Array Bool} {a:Act} {w:World},pq P ops nc Q E m done a w→wpAny P .any ops Q m done a w
 | 0,_,_,_,h=>h
 | m+1,_,_,_,h=>⟨h.1,fun i hi=>wpOp_mono (fun _ _ hh=>pq.any m hh.2) (h.2 i hi)⟩
theorem pq.take {S:World→World→Prop} (hr:∀ w,E w w) (N6:∀ u v,E u v→S u v) (ht:∀ u v w,S u v→S v w→S u w) (hQ:∀ c a w,¬ Q (.panic c) a w) (NT:Region.noSelect ops=true) {i:Nat} {oi:Oper} {v:Value} (hi:ops[i]?=some oi):∀ (m:Nat) {done:Array Bool} {a:Act} {w:World},
  (∀ (j:Nat) (oj:Oper),ops[j]?=some oj→j≠i→done.getD j true=false→(∀ e ∈ oj.after,Region.binds .any e=true→e.on≠i)→oi.apart ops oj=true)→i ∈ Region.ready .any ops done→fB ops done→((∀ u v,S u v)∨∀ j,j < ops.size→j≠i→done.getD j true=false→quiet nc j=true∨behind ops i ops.size j=true)→YieldsIf P ops (S w) oi v a →
  pq P ops nc Q E m (done.setIfInBounds i true) (a.put oi.dst v) w→pq P ops nc Q E (m+1) done a w:=by
 have Ru:=Region.noSelect_spec NT
 intro m
 induction m with
 | zero =>
  intro done a w _ iy _ _ hy h
  constructor
  ·intro e;rw [e] at iy;cases iy
  ·intro j hj
   rcases Nat.decEq j i with hne | rfl
   ·have:=ready_mono hj hne;rw [h.1] at this;cases this
   ·exact hy.wpOp hi (N6 _ _ (hr w)) ⟨fun _=>hr w,h⟩
 | succ m ih =>
  intro done a w hap iy jw eX hy h
  constructor
  ·intro e;rw [e] at iy;cases iy
  ·intro j hj
   rcases Nat.decEq j i with hne | rfl
   ·obtain ⟨j4,oj,Gc,yC⟩:=mem_ready.1 hj
    have hid:=(mem_ready.1 iy).1
    have Gd:∀ e ∈ oj.after,Region.binds .any e=true→e.on≠i:=by
     intro e he hb heq
     have hd:=yC e he hb
     rw [heq] at hd
     by_cases hlt:i < done.size
     ·simp [hlt] at hid hd;rw [hid] at hd;cases hd
     ·simp [hlt] at hd
    have N7:j < ops.size:=(Array.getElem?_eq_some_iff.1 Gc).1
    have Aq:∀ w',(quiet nc j=true→E w w')→S w w':=by
     intro w' hE
     rcases eX with hc | eX
     ·exact hc _ _
     ·rcases eX j N7 hne j4 with hc | hb
      ·exact N6 _ _ (hE hc)
      ·exfalso
       have:=kB jw ops.size j (fun o ho=>by rw [Gc] at ho;cases ho;exact yC) hb
       by_cases hlt:i < done.size
       ·simp [hlt] at hid this;rw [hid] at this;cases this
       ·simp [hlt] at this
    have hh:=wpOp_putIf Gc (hap j oj Gc hne j4 Gd) (fun cs b=>Ru i oi cs b hi) (fun cs b=>Ru j oj cs b Gc) (fun c a w hc=>absurd hc (hQ c _ w)) hy (h.2 j (ready_mono hj hne))
    refine wpOp_mono (fun a' w' ⟨hy',hE,fQ⟩=>⟨hE,ih ?_ (ready_mono iy (Ne.symm hne)) (jw.set hj) ?_ ?_ ?_⟩) hh
    ·intro k ok hk N8 jf VJ
     refine hap k ok hk N8 ?_ VJ
     by_cases hjk:j=k
     ·subst hjk;exact j4
     ·rwa [getD_set_ne true hjk] at jf
    ·rcases eX with hc | eX
     ·exact .inl hc
     ·refine .inr fun k hk N8 jf=>eX k hk N8 ?_
      by_cases hjk:j=k
      ·subst hjk;exact j4
      ·rwa [getD_set_ne true hjk] at jf
    ·rcases hy' with ⟨q1,q2⟩ | q
     ·exact .inl ⟨q1,fun u hu=>q2 u (ht w w' u (Aq w' hE) hu)⟩
     ·exact .inr q
    ·rw [Array.setIfInBounds_comm _ _ hne]
     exact fQ
   ·exact hy.wpOp hi (N6 _ _ (hr w)) ⟨fun _=>hr w,h⟩
def qo (ops:Array Oper) (nc:List Nat) (k:Array Bool→Bool):Array Bool→List (Nat×Bool)→Bool
 | listed,[]=>k listed
 | listed,p :: r=>(bif p.2 then Region.free .any ops listed p.1 && (Region.ready .any ops listed).contains p.1 && ((List.range ops.size).all fun j=>Nat.beq j p.1 || listed.getD j true || quiet nc j || behind ops p.1 ops.size j) else decide (Region.ready .any ops listed=[p.1])) && qo ops nc k (listed.setIfInBounds p.1 true) r
theorem fU (hr:∀ w,E w w) (ht:∀ u v w,E u v→E v w→E u w) (hs:Region.noSelect ops=true) (hQ:∀ c a w,¬ Q (.panic c) a w) {k:Array Bool→Bool} {N:Act→World→Prop} {m:Nat}
  (hN:∀ (listed:Array Bool) (a:Act) (w:World),fB ops listed→k listed=true→N a w→pq P ops nc Q E m listed a w):∀ (l:List (Nat×Bool)) (listed:Array Bool) (a:Act) (w:World),fB ops listed→qo ops nc k listed l=true →
  ug P ops nc Q E l N a w→pq P ops nc Q E (l.length+m) listed a w
 | [],listed,a,w,jw,hp,h=>by
  rw [List.length_nil,Nat.zero_add]
  exact hN listed a w jw hp h
 | (i,tk) :: r,listed,a,w,jw,hp,h=>by
  simp only [qo,Bool.and_eq_true] at hp
  have h':og P ops nc Q E (i,tk) (ug P ops nc Q E r N) a w:=h
  unfold og at h'
  rw [List.length_cons,show r.length+1+m=(r.length+m)+1 by omega]
  cases tk with
  | true =>
   rw [if_pos rfl] at h'
   obtain ⟨oi,v,hi,hy,hn⟩:=h'
   simp only [cond_true,Bool.and_eq_true] at hp
   have iy:i ∈ Region.ready .any ops listed:=by simpa using hp.1.1.2
   have fQ:=fU hr ht hs hQ hN r _ _ _ (jw.set iy) hp.2 hn
   refine pq.take hr (fun _ _ h=>h) ht hQ hs hi (r.length+m) (Region.free_spec hi hp.1.1.1) iy jw (.inr fun j hj hne Ch=>?_) hy fQ
   have:=List.all_eq_true.1 hp.1.2 j (List.mem_range.2 hj)
   rw [Bool.or_eq_true,Bool.or_eq_true,Bool.or_eq_true] at this
   rcases this with ((h1 | h1) | h1) | h1
   ·exact absurd (Nat.eq_of_beq_eq_true h1) hne
   ·rw [Ch] at h1;cases h1
   ·exact .inl h1
   ·exact .inr h1
  | false =>
   rw [if_neg (by simp)] at h'
   simp only [cond_false,decide_eq_true_eq] at hp
   refine ⟨fun e=>(by rw [hp.1] at e;cases e),fun j hj=>?_⟩
   rw [hp.1] at hj
   have:j=i:=by simpa using hj
   subst this
   exact wpOp_mono (fun a' w' hh=>⟨hh.1,fU hr ht hs hQ hN r _ _ _ (jw.set (by rw [hp.1];simp)) hp.2 hh.2⟩) h'
theorem aZ {id:Nat} {a:Act} {w:World} (hm:P.follows .mixedOrders=true) (nc:List Nat) (E:World→World→Prop) (l:List (Nat×Bool))
  (hp:qo ops nc (fun listed=>(Region.ready .any ops listed).isEmpty) (Array.replicate ops.size false) l=true) (hlen:Nat.beq l.length ops.size=true) (hs:Region.noSelect ops=true)
  (hr:∀ w,E w w) (ht:∀ u v w,E u v→E v w→E u w)
  (h:ug P ops nc (NoPanic Q) E l (fun a w=>Q .normal a w) a w.drew):(Code.region id ops true).wp P Q a w:=by
 refine wp_region_noPanic ?_
 refine wp_region_any hm ?_
 have hl:=Nat.eq_of_beq_eq_true hlen
 have key:=fU (m:=0) hr ht hs (fun _ _ _ h=>h) (fun listed a w jw hk hn=>⟨by simpa using hk,hn⟩) l (Array.replicate ops.size false) a _
  (fun j o hj=>by
   simp [Array.getD] at hj) hp h
 rw [Nat.add_zero,hl] at key
 exact pq.any _ key
theorem aW {i:Nat} {o:Oper} {v:Value} {r:List (Nat×Bool)} {N:Act→World→Prop} {a:Act} {w:World} (hi:ops[i]?=some o) (hw:Region.wanted o (yielded ops a.tmps)=true)
  (hv:∀ w',E w w'→(execOp a.eval o).run P w'=.ok (.value v) w') (h:ug P ops nc Q E r N (a.put o.dst v) w):ug P ops nc Q E ((i,true) :: r) N a w:=by
 show og P ops nc Q E (i,true) (ug P ops nc Q E r N) a w
 unfold og
 rw [if_pos rfl]
 exact ⟨o,v,hi,.inl ⟨hw,hv⟩,h⟩
theorem bL {i:Nat} {o:Oper} {r:List (Nat×Bool)} {N:Act→World→Prop} {a:Act} {w:World} (hi:ops[i]?=some o)
  (h:∀ K':Act→World→Prop,Shut (∀ a' w',E w w'→ug P ops nc Q E r N a' w'→K' a' w')→if Region.wanted o (yielded ops a.tmps)=true then Oper.wp P o a w K' Q else K' (a.put o.dst undef) w):ug P ops nc Q E ((i,false) :: r) N a w:=by
 show og P ops nc Q E (i,false) (ug P ops nc Q E r N) a w
 unfold og
 rw [if_neg (by simp)]
 exact wpOp_step hi fun K' hK=>h K' fun a' w' hE hl=>hK a' w' ⟨fun _=>hE,hl⟩
theorem fV {i:Nat} {o:Oper} {r:List (Nat×Bool)} {N:Act→World→Prop} {a:Act} {w:World} (hi:ops[i]?=some o) (hc:quiet nc i=false)
  (h:∀ K':Act→World→Prop,Shut (∀ a' w',ug P ops nc Q E r N a' w'→K' a' w')→if Region.wanted o (yielded ops a.tmps)=true then Oper.wp P o a w K' Q else K' (a.put o.dst undef) w):ug P ops nc Q E ((i,false) :: r) N a w:=by
 show og P ops nc Q E (i,false) (ug P ops nc Q E r N) a w
 unfold og
 rw [if_neg (by simp)]
 exact wpOp_step hi fun K' hK=>h K' fun a' w' hl=>hK a' w' ⟨fun hcc=>absurd (hc.symm.trans hcc) Bool.noConfusion,hl⟩
theorem cH {N:Act→World→Prop} {a:Act} {w:World} (h:N a w):ug P ops nc Q E [] N a w:=h
end
end R3
namespace R3
open Go Go.Proofs Go.RowKit Go.Shelf Sx
variable {mx:Int}
theorem PM.last {w W:World} {F:Nat→Prop} {b7:Nat} {N:List Mn} {T:List Nat} {S:List Aa} {o:Aa} {X:List Vn} {tag:Nat→Tg} {vn vt vs:Value} (h:PM w F b7 ⟨N,T,S ++ [o]⟩ X tag vn vt vs W) :
  ∃ gs cap,vs=.slice (some ⟨gs,0,none⟩) (S.length+1) cap∧(W.cell? ⟨gs,S.length * 3,none⟩=some (.int .i64 (o.node:Int))∧W.cell? ⟨gs,S.length * 3+1,none⟩=some (.int .i64 (o.kind.toNat:Int))∧W.cell? ⟨gs,S.length * 3+2,none⟩=some (.bool o.els))∧∀ j,W.frozen? ⟨gs,j,none⟩=false:=by
 have hs:=h.sk.1
 simp only [List.length_append,List.length_cons,List.length_nil,List.flatMap_append,List.flatMap_cons,List.flatMap_nil,List.append_nil] at hs
 obtain ⟨gs,cap,rfl⟩:=ownsRow_succ hs
 have key:∀ j,j < 3→W.cell? ⟨gs,S.length * 3+j,none⟩=(ed o)[j]?:=fun j hj=>by
  rw [hs.cellAt (S.length * 3+j) (by omega),List.getElem?_append_right (by rw [gM];omega),gM]
  congr 1;omega
 exact ⟨gs,cap,rfl,⟨key 0 (by decide),key 1 (by decide),key 2 (by decide)⟩,fun j=>hs.frozenAt j⟩
theorem PM.node {w W:World} {F:Nat→Prop} {b7:Nat} {s:Ms} {X:List Vn} {tag:Nat→Tg} {vn vt vs:Value} (h:PM w F b7 s X tag vn vt vs W) {i:Nat} (hi:i < s.nodes.length) :
  ∃ gn cn x y,vn=.slice (some ⟨gn,0,none⟩) X.length cn∧X[i]?=some x∧s.nodes[i]?=some y∧(∀ j,j < 9→W.cell? ⟨gn,i * 9+j,none⟩=x.cells[j]?)∧∀ j,W.frozen? ⟨gn,j,none⟩=false:=by
 have hX:i < X.length:=by rw [h.len];exact hi
 have qK:=h.nd.1
 obtain ⟨k,hk⟩:∃ k,X.length=k+1:=⟨X.length - 1,by omega⟩
 obtain ⟨gn,cn,rfl⟩:∃ g cap,vn=.slice (some ⟨g,0,none⟩) X.length cap:=by
  rcases qK.2 with ⟨_,h0⟩ | ⟨g,cap,_,rfl,_⟩
  ·omega
  ·exact ⟨g,cap,rfl⟩
 refine ⟨gn,cn,X[i],s.nodes[i],rfl,List.getElem?_eq_getElem hX,List.getElem?_eq_getElem hi,fun j hj=>?_,fun j=>qK.frozenAt j⟩
 rw [qK.cellAt (i * 9+j) (by omega)]
 exact po X i j X[i] (List.getElem?_eq_getElem hX) hj
theorem L3 {w W:World} {F:Nat→Prop} {b7:Nat} {N:List Mn} {T:List Nat} {S:List Aa} {o:Aa} {X:List Vn} {tag:Nat→Tg} {vn vt vs:Value} (h:PM w F b7 ⟨N,T,S ++ [o]⟩ X tag vn vt vs W) {n:Nat} (ho:o.node < N.length) (he:o.els=true) (hN:N.length≤100000) (hS:S.length≤1000) (hE:∀ y ∈ N,y.els.length≤1000000) :
  CallsIn Fence.wide 6 Tryz.prog 38 #[.pointer (some ⟨b7,0,none⟩),vs,.int .i64 (n:Int)] W (rz w F b7 ⟨N.modify o.node fun y=>{ y with els:=y.els ++ [n] },T,S ++ [o]⟩ vs X vn vt W):=by
 obtain ⟨gs,cs,rfl,⟨s0,s1,s2⟩,sf⟩:=h.last
 obtain ⟨gn,cn,x,y,rfl,hx,hy,hcell,fw⟩:=h.node ho
 obtain ⟨i0,ni,hz0,hz1,hz2⟩:=info_parts info3
 obtain ⟨v1,v2,v3,v4⟩:=aP h.c7
 have hlt:=h.uv
 have XF:N[o.node]?=some y:=hy
 obtain ⟨bb,be⟩:=h.bd o.node x y hx hy
 obtain ⟨XG,ce,hes⟩:=fk be.1
 have c6:=hcell 6 (by decide)
 have c6:W.cell? ⟨gn,o.node * 9+6,none⟩=some x.es:=c6
 rw [hes] at c6
 have xJ:X.length=N.length:=h.len
 have hyl:=hE y (List.mem_of_getElem? XF)
 have XH:=sf (S.length * 3+2)
 have TN:=fw (o.node * 9+6)
 rw [he] at s2
 generalize hd:S.length=d at *
 generalize hk:o.node=k at *
 generalize o.kind.toNat=kd at s1
 have hw3:W.heap.size≤W.heap.size:=Nat.le_refl _
 refine callsIn_of_wp Tryz.func38 rfl trivial ?_ rfl
 simp only [Tryz.ntmps38,Nat.reduceAdd,Nat.reduceSub,zC]
 clear hcell sf fw hE
 gi_wp2
 rw [wpIn_wide]
 have hb4:(W.alloc (.cells #[.int .i64 (k:Int),.int .i64 (kd:Int),.bool true] 93)).heap[W.heap.size]?=some (.cells #[.int .i64 (k:Int),.int .i64 (kd:Int),.bool true] 93):=World.alloc_heap_new W _
 have eu:Ext W (W.alloc (.cells #[.int .i64 (k:Int),.int .i64 (kd:Int),.bool true] 93)):=Ext.push W _
 generalize W.alloc (.cells #[.int .i64 (k:Int),.int .i64 (kd:Int),.bool true] 93)=W5 at hb4 eu ⊢
 have p1:=aD eu v1
 have p4:W5.cell? ⟨W.heap.size,0,none⟩=some (.int .i64 (k:Int)):=by simp [World.cell?,hb4]
 have p5:=aD eu c6
 have p6:W5.frozen? ⟨gn,k * 9+6,none⟩=false:=by
  rw [← TN]
  exact World.frozen?_of_block (eu.block gn (aU c6))
 have h5:=h.ext' eu
 have h6:=h5.ext' (Ext.push W5 (.cells #[.int .i64 (n:Int)] 3))
 have TP:=(h6.bd k x y hx hy).2.1
 have hnews:=P5 W5 (.int .i64 (n:Int)) 3
 have dH:b7+1≤(W5.alloc (.cells #[.int .i64 (n:Int)] 3)).heap.size:=h6.uv
 rw [hes] at TP
 have XI:gn < W5.heap.size:=aU p5
 have P6:∀ {w7:World} {r:Option Nat},r=x.es.ownBlock→(W5.alloc (.cells #[.int .i64 (n:Int)] 3)).grownBy w7 r→w7.heap[gn]?=W5.heap[gn]?:=fun {w7 r} hr hg=>by
  rw [hg.block gn (by simp;omega) (fun e=>by rw [hr] at e;have a1:=be.2 gn e.symm;have a2:=h.nd.2 gn rfl;rw [a1] at a2;cases a2)]
  exact aB XI
 have dK:Ext W5 (W5.alloc (.cells #[.int .i64 (n:Int)] 3)):=Ext.push W5 _
 have r1:=aD dK p1
 have r4:=aD dK p4
 have r5:=aD dK p5
 have ET:W.heap.size < W5.heap.size:=aU p4
 have P7:b7 < W5.heap.size:=aU p1
 have hne:∀ {w7:World} {r:Option Nat},r=x.es.ownBlock→(W5.alloc (.cells #[.int .i64 (n:Int)] 3)).grownBy w7 r→w7.heap[b7]?=W5.heap[b7]?∧w7.heap[W.heap.size]?=W5.heap[W.heap.size]?:=fun {w7 r} hr hg=>by
  refine ⟨?_,?_⟩
  ·rw [hg.block b7 (by simp;omega) (fun e=>by rw [hr] at e;have:=cP be e.symm;omega)]
   exact aB P7
  ·rw [hg.block _ (by simp;omega) (fun e=>by rw [hr] at e;have:=(be.1.lt _ e.symm).2;omega)]
   exact aB ET
 clear v1 v2 v3 v4 c6 TN s0 s1 s2 XH hb4
 have XJ:∀ {w7:World} {b i:Nat} {u:Value} (v:Value),b≠gn→w7.cell? ⟨b,i,none⟩=some u→(w7.setCell ⟨gn,k * 9+6,none⟩ v).cell? ⟨b,i,none⟩=some u:=fun v hb hu=>(World.cell?_of_block (au hb)).trans hu
 have UK:b7≠gn:=by have:=cP h.nd (g:=gn) rfl;omega
 have QV:W.heap.size≠gn:=by have:=(h.nd.1.lt gn rfl).2;omega
 have UL:gn≠W.heap.size:=fun e=>QV e.symm
 refine aZ (by kernel_rfl) [20] (fun u v=>v.cell? ⟨b7,0,none⟩=u.cell? ⟨b7,0,none⟩∧v.cell? ⟨W.heap.size,0,none⟩=u.cell? ⟨W.heap.size,0,none⟩∧v.cell? ⟨gn,k * 9+6,none⟩=u.cell? ⟨gn,k * 9+6,none⟩)
  [(0,true),(1,true),(2,true),(3,true),(4,true),(5,true),(6,true),(7,true),(8,true),(9,true),(10,true),(11,true),(12,true),(13,true),(14,true),(15,true),(16,false),(17,false),(18,true),(19,true),(20,false)]
  (by kernel_rfl) (by kernel_rfl) (by kernel_rfl) (fun _=>⟨rfl,rfl,rfl⟩) (fun _ _ _ h1 h2=>⟨h2.1.trans h1.1,h2.2.1.trans h1.2.1,h2.2.2.trans h1.2.2⟩) ?_
 iterate 16 (
  refine' aW ?_ ?_ ?_ ?_;rotate_left 2
  ·(simp only [zA];rfl)
  ·rfl
  ·(intro w' hE;have q1:=hE.1.trans p1;have q4:=hE.2.1.trans p4;have q5:=hE.2.2.trans p5;go_simp;try rfl)
  simp only [Act.put,zB])
 refine' bL ?_ ?_;rotate_left 1
 ·(simp only [zA];rfl)
 intro K hK
 go_simp
 refine hK.out _ _ ⟨r1.trans p1.symm,r4.trans p4.symm,r5.trans p5.symm⟩ ?_
 clear hK K
 try simp only [Act.put,zB]
 refine' bL ?_ ?_;rotate_left 1
 ·(simp only [zA];rfl)
 intro K hK
 refine step_append_lies _ rfl (.tmp 42) (.tmp 44) 24 rfl (b7+1) 3 i0 _ 1 8 Tryz.underlying24 ni hz0 hz1 hz2 rfl (by decide) (.slice XG y.els.length ce) y.els.length (ints y.els) rfl TP ⟨W5.heap.size,0,none⟩ 1 1 [.int .i64 (n:Int)] rfl rfl hnews (by simp [Value.oneCell']) (by decide) (by have:Go.maxLen=9223372036854775807:=rfl;omega) (by omega) dH _ rfl ?_
 intro g cap w7 dc aS fq TQ
 have lM:(W5.alloc (.cells #[.int .i64 (n:Int)] 3)).grownBy w7 x.es.ownBlock:=(by rw [hes];exact ⟨aS.os,aS.tape,aS.output,aS.size,aS.block⟩)
 have TR:=P6 rfl lM
 have A0:=hne rfl lM
 have s1:=(World.cell?_of_block (a:=⟨b7,0,none⟩) A0.1).trans p1
 have s4:=(World.cell?_of_block (a:=⟨W.heap.size,0,none⟩) A0.2).trans p4
 have s5:=(World.cell?_of_block (a:=⟨gn,k * 9+6,none⟩) TR).trans p5
 have s6:=(World.frozen?_of_block (a:=⟨gn,k * 9+6,none⟩) TR).trans p6
 obtain ⟨X',gC,dL⟩:=h6.P2 (n:=n) rfl hx hy lM dc (by rw [hes];exact fq)
 refine hK.out _ _ ⟨s1.trans r1.symm,s4.trans r4.symm,s5.trans r5.symm⟩ ?_
 clear hK K
 try simp only [Act.put,zB]
 iterate 2 (
  refine' aW ?_ ?_ ?_ ?_;rotate_left 2
  ·(simp only [zA];rfl)
  ·rfl
  ·(intro w' hE;go_simp;try rfl)
  simp only [Act.put,zB])
 refine' fV ?_ (by kernel_rfl) ?_;rotate_left 1
 ·(simp only [zA];rfl)
 intro K hK
 go_simp
 refine hK.out _ _ ?_
 clear hK K
 refine cH ?_
 gi_wp2
 refine bodyPost_ret (results63 _ _) rfl ?_
 exact ⟨rfl,⟨_,_,_,_,dL⟩,fun b hb hap=>(au (show b≠gn from fun e=>hap.2.1 (by rw [e];rfl))).trans ((lM.block b (by simp;omega) (fun e=>(hap.2.2.2 x (List.mem_of_getElem? hx)).2 e.symm)).trans ((aB (by have:=eu.size;omega)).trans (eu.block b hb)))⟩
theorem Iu {w W:World} {F:Nat→Prop} {b7:Nat} {N:List Mn} {T:List Nat} {S:List Aa} {o:Aa} {X:List Vn} {tag:Nat→Tg} {vn vt vs:Value} (h:PM w F b7 ⟨N,T,S ++ [o]⟩ X tag vn vt vs W) {n:Nat} (ho:o.node < N.length) (he:o.els=false) (hN:N.length≤100000) (hS:S.length≤1000) (hE:∀ y ∈ N,y.body.length≤1000000) :
  CallsIn Fence.wide 6 Tryz.prog 38 #[.pointer (some ⟨b7,0,none⟩),vs,.int .i64 (n:Int)] W (rz w F b7 ⟨N.modify o.node fun y=>{ y with body:=y.body ++ [n] },T,S ++ [o]⟩ vs X vn vt W):=by
 obtain ⟨gs,cs,rfl,⟨s0,s1,s2⟩,sf⟩:=h.last
 obtain ⟨gn,cn,x,y,rfl,hx,hy,hcell,fw⟩:=h.node ho
 obtain ⟨i0,ni,hz0,hz1,hz2⟩:=info_parts info3
 obtain ⟨v1,v2,v3,v4⟩:=aP h.c7
 have hlt:=h.uv
 have XF:N[o.node]?=some y:=hy
 obtain ⟨bb,be⟩:=h.bd o.node x y hx hy
 obtain ⟨XG,ce,hes⟩:=fk bb.1
 have c6:=hcell 5 (by decide)
 have c6:W.cell? ⟨gn,o.node * 9+5,none⟩=some x.bs:=c6
 rw [hes] at c6
 have xJ:X.length=N.length:=h.len
 have hyl:=hE y (List.mem_of_getElem? XF)
 have XH:=sf (S.length * 3+2)
 have TN:=fw (o.node * 9+5)
 rw [he] at s2
 generalize hd:S.length=d at *
 generalize hk:o.node=k at *
 generalize o.kind.toNat=kd at s1
 have hw3:W.heap.size≤W.heap.size:=Nat.le_refl _
 refine callsIn_of_wp Tryz.func38 rfl trivial ?_ rfl
 simp only [Tryz.ntmps38,Nat.reduceAdd,Nat.reduceSub,zC]
 clear hcell sf fw hE
 gi_wp2
 rw [wpIn_wide]
 have hb4:(W.alloc (.cells #[.int .i64 (k:Int),.int .i64 (kd:Int),.bool false] 93)).heap[W.heap.size]?=some (.cells #[.int .i64 (k:Int),.int .i64 (kd:Int),.bool false] 93):=World.alloc_heap_new W _
 have eu:Ext W (W.alloc (.cells #[.int .i64 (k:Int),.int .i64 (kd:Int),.bool false] 93)):=Ext.push W _
 generalize W.alloc (.cells #[.int .i64 (k:Int),.int .i64 (kd:Int),.bool false] 93)=W5 at hb4 eu ⊢
 have p1:=aD eu v1
 have p4:W5.cell? ⟨W.heap.size,0,none⟩=some (.int .i64 (k:Int)):=by simp [World.cell?,hb4]
 have p5:=aD eu c6
 have p6:W5.frozen? ⟨gn,k * 9+5,none⟩=false:=by
  rw [← TN]
  exact World.frozen?_of_block (eu.block gn (aU c6))
 have h5:=h.ext' eu
 have h6:=h5.ext' (Ext.push W5 (.cells #[.int .i64 (n:Int)] 3))
 have TP:=(h6.bd k x y hx hy).1.1
 have hnews:=P5 W5 (.int .i64 (n:Int)) 3
 have dH:b7+1≤(W5.alloc (.cells #[.int .i64 (n:Int)] 3)).heap.size:=h6.uv
 rw [hes] at TP
 have XI:gn < W5.heap.size:=aU p5
 have P6:∀ {w7:World} {r:Option Nat},r=x.bs.ownBlock→(W5.alloc (.cells #[.int .i64 (n:Int)] 3)).grownBy w7 r→w7.heap[gn]?=W5.heap[gn]?:=fun {w7 r} hr hg=>by
  rw [hg.block gn (by simp;omega) (fun e=>by rw [hr] at e;have a1:=bb.2 gn e.symm;have a2:=h.nd.2 gn rfl;rw [a1] at a2;cases a2)]
  exact aB XI
 have dK:Ext W5 (W5.alloc (.cells #[.int .i64 (n:Int)] 3)):=Ext.push W5 _
 have r1:=aD dK p1
 have r4:=aD dK p4
 have r5:=aD dK p5
 have ET:W.heap.size < W5.heap.size:=aU p4
 have P7:b7 < W5.heap.size:=aU p1
 have hne:∀ {w7:World} {r:Option Nat},r=x.bs.ownBlock→(W5.alloc (.cells #[.int .i64 (n:Int)] 3)).grownBy w7 r→w7.heap[b7]?=W5.heap[b7]?∧w7.heap[W.heap.size]?=W5.heap[W.heap.size]?:=fun {w7 r} hr hg=>by
  refine ⟨?_,?_⟩
  ·rw [hg.block b7 (by simp;omega) (fun e=>by rw [hr] at e;have:=cP bb e.symm;omega)]
   exact aB P7
  ·rw [hg.block _ (by simp;omega) (fun e=>by rw [hr] at e;have:=(bb.1.lt _ e.symm).2;omega)]
   exact aB ET
 clear v1 v2 v3 v4 c6 TN s0 s1 s2 XH hb4
 have XJ:∀ {w7:World} {b i:Nat} {u:Value} (v:Value),b≠gn→w7.cell? ⟨b,i,none⟩=some u→(w7.setCell ⟨gn,k * 9+5,none⟩ v).cell? ⟨b,i,none⟩=some u:=fun v hb hu=>(World.cell?_of_block (au hb)).trans hu
 have UK:b7≠gn:=by have:=cP h.nd (g:=gn) rfl;omega
 have QV:W.heap.size≠gn:=by have:=(h.nd.1.lt gn rfl).2;omega
 have UL:gn≠W.heap.size:=fun e=>QV e.symm
 refine aZ (by kernel_rfl) [20] (fun u v=>v.cell? ⟨b7,0,none⟩=u.cell? ⟨b7,0,none⟩∧v.cell? ⟨W.heap.size,0,none⟩=u.cell? ⟨W.heap.size,0,none⟩∧v.cell? ⟨gn,k * 9+5,none⟩=u.cell? ⟨gn,k * 9+5,none⟩)
  [(0,true),(1,true),(2,true),(3,true),(4,true),(5,true),(6,true),(7,true),(8,true),(9,true),(10,true),(11,true),(12,true),(13,true),(14,true),(15,true),(16,false),(17,false),(18,true),(19,true),(20,false)]
  (by kernel_rfl) (by kernel_rfl) (by kernel_rfl) (fun _=>⟨rfl,rfl,rfl⟩) (fun _ _ _ h1 h2=>⟨h2.1.trans h1.1,h2.2.1.trans h1.2.1,h2.2.2.trans h1.2.2⟩) ?_
 iterate 16 (
  refine' aW ?_ ?_ ?_ ?_;rotate_left 2
  ·(simp only [zA];rfl)
  ·rfl
  ·(intro w' hE;have q1:=hE.1.trans p1;have q4:=hE.2.1.trans p4;have q5:=hE.2.2.trans p5;go_simp;try rfl)
  simp only [Act.put,zB])
 refine' bL ?_ ?_;rotate_left 1
 ·(simp only [zA];rfl)
 intro K hK
 go_simp
 refine hK.out _ _ ⟨r1.trans p1.symm,r4.trans p4.symm,r5.trans p5.symm⟩ ?_
 clear hK K
 try simp only [Act.put,zB]
 refine' bL ?_ ?_;rotate_left 1
 ·(simp only [zA];rfl)
 intro K hK
 refine step_append_lies _ rfl (.tmp 62) (.tmp 64) 24 rfl (b7+1) 3 i0 _ 1 8 Tryz.underlying24 ni hz0 hz1 hz2 rfl (by decide) (.slice XG y.body.length ce) y.body.length (ints y.body) rfl TP ⟨W5.heap.size,0,none⟩ 1 1 [.int .i64 (n:Int)] rfl rfl hnews (by simp [Value.oneCell']) (by decide) (by have:Go.maxLen=9223372036854775807:=rfl;omega) (by omega) dH _ rfl ?_
 intro g cap w7 dc aS fq TQ
 have lM:(W5.alloc (.cells #[.int .i64 (n:Int)] 3)).grownBy w7 x.bs.ownBlock:=(by rw [hes];exact ⟨aS.os,aS.tape,aS.output,aS.size,aS.block⟩)
 have TR:=P6 rfl lM
 have A0:=hne rfl lM
 have s1:=(World.cell?_of_block (a:=⟨b7,0,none⟩) A0.1).trans p1
 have s4:=(World.cell?_of_block (a:=⟨W.heap.size,0,none⟩) A0.2).trans p4
 have s5:=(World.cell?_of_block (a:=⟨gn,k * 9+5,none⟩) TR).trans p5
 have s6:=(World.frozen?_of_block (a:=⟨gn,k * 9+5,none⟩) TR).trans p6
 obtain ⟨X',gC,dL⟩:=h6.L0 (n:=n) rfl hx hy lM dc (by rw [hes];exact fq)
 refine hK.out _ _ ⟨s1.trans r1.symm,s4.trans r4.symm,s5.trans r5.symm⟩ ?_
 clear hK K
 try simp only [Act.put,zB]
 iterate 2 (
  refine' aW ?_ ?_ ?_ ?_;rotate_left 2
  ·(simp only [zA];rfl)
  ·rfl
  ·(intro w' hE;go_simp;try rfl)
  simp only [Act.put,zB])
 refine' fV ?_ (by kernel_rfl) ?_;rotate_left 1
 ·(simp only [zA];rfl)
 intro K hK
 go_simp
 refine hK.out _ _ ?_
 clear hK K
 refine cH ?_
 gi_wp2
 refine bodyPost_ret (results63 _ _) rfl ?_
 exact ⟨rfl,⟨_,_,_,_,dL⟩,fun b hb hap=>(au (show b≠gn from fun e=>hap.2.1 (by rw [e];rfl))).trans ((lM.block b (by simp;omega) (fun e=>(hap.2.2.2 x (List.mem_of_getElem? hx)).1 e.symm)).trans ((aB (by have:=eu.size;omega)).trans (eu.block b hb)))⟩
structure Ms.sz (s:Ms) (k:Nat):Prop where
 nodes:s.nodes.length≤k
 top:s.top.length≤k
 two:∀ y ∈ s.nodes,y.body.length≤k∧y.els.length≤k
 stack:s.stack.length≤16
theorem mem_modify {l:List Mn} {i:Nat} {f:Mn→Mn} {y:Mn} (h:y ∈ l.modify i f):∃ z ∈ l,y=z∨y=f z:=by
 obtain ⟨j,hj,rfl⟩:=List.mem_iff_getElem.1 h
 rw [List.getElem_modify]
 have hj':j < l.length:=by simpa using hj
 refine ⟨l[j],List.getElem_mem _,?_⟩
 split
 ·exact .inr rfl
 ·exact .inl rfl
theorem Ms.sz.mono {s:Ms} {k k':Nat} (h:s.sz k) (hk:k≤k'):s.sz k' :=
 ⟨Nat.le_trans h.nodes hk,Nat.le_trans h.top hk,fun y hy=>⟨Nat.le_trans (h.two y hy).1 hk,Nat.le_trans (h.two y hy).2 hk⟩,h.stack⟩
theorem Ms.sz.add {s:Ms} {k:Nat} (h:s.sz k) (hn:s.nodes.length≤k+1) (n:Nat):(s.add [n]).sz (k+1):=by
 have h':=h.mono (Nat.le_succ k)
 unfold Ms.add
 split
 ·exact ⟨h'.nodes,by simp only [List.length_append,List.length_cons,List.length_nil];have:=h.top;omega,h'.two,h'.stack⟩
 ·split
  ·refine ⟨by simpa using h'.nodes,h'.top,fun y hy=>?_,h'.stack⟩
   obtain ⟨z,hz,e⟩:=mem_modify hy
   have:=h.two z hz
   rcases e with rfl | rfl
   ·omega
   ·simp only [List.length_append,List.length_cons,List.length_nil];omega
  ·refine ⟨by simpa using h'.nodes,h'.top,fun y hy=>?_,h'.stack⟩
   obtain ⟨z,hz,e⟩:=mem_modify hy
   have:=h.two z hz
   rcases e with rfl | rfl
   ·omega
   ·simp only [List.length_append,List.length_cons,List.length_nil];omega
theorem tG {w W:World} {F:Nat→Prop} {b7:Nat} {s:Ms} {X:List Vn} {tag:Nat→Tg} {vn vt vs:Value} (h:PM w F b7 s X tag vn vt vs W) (hw:s.wf) {k:Nat} (hz:s.sz k) (hk:k≤100000) {n:Nat} :
  CallsIn Fence.wide 6 Tryz.prog 38 #[.pointer (some ⟨b7,0,none⟩),vs,.int .i64 (n:Int)] W (rz w F b7 (s.add [n]) vs X vn vt W):=by
 obtain ⟨N,T,S⟩:=s
 have h1:=hz.nodes
 have h2:=hz.top
 have h3:=hz.two
 have h4:=hz.stack
 simp only at h1 h2 h3 h4
 rcases List.eq_nil_or_concat S with rfl | ⟨S,o,rfl⟩
 ·exact L1 h (by omega)
 ·rw [List.concat_eq_append] at *
  have ho:o.node < N.length:=hw o (by simp)
  have hl:S.length≤1000:=by simp at h4;omega
  cases he:o.els with
  | true =>
   have:=L3 h (n:=n) ho he (by omega) hl (fun y hy=>by have:=(h3 y hy).2;omega)
   unfold Ms.add
   simpa [he] using this
  | false =>
   have:=Iu h (n:=n) ho he (by omega) hl (fun y hy=>by have:=(h3 y hy).1;omega)
   unfold Ms.add
   simpa [he] using this
theorem jR {s t:Ms} {w:Wd} (h:s.wf) (hs:cg s w=.inl t):t.wf:=by
 unfold cg at hs
 split at hs
 ·split at hs
  ·cases hs
  ·rename_i o ho
   split at hs
   ·cases hs
   ·cases hs
    intro p hp
    simp only [List.length_modify]
    rcases List.mem_append.1 hp with hp | hp
    ·exact h p ((List.dropLast_sublist _).subset hp)
    ·obtain rfl:=List.mem_singleton.1 hp;exact h o (List.mem_of_getLast? ho)
 ·split at hs
  ·split at hs
   ·cases hs
   ·cases hs
    exact fun p hp=>h p ((List.dropLast_sublist _).subset hp)
  ·split at hs
   ·cases hs
   ·simp only [Sum.inl.injEq] at hs
    subst hs
    have hb:(Ms.add { s with nodes:=s.nodes ++ [bV w] } [s.nodes.length]).wf:=by rw [xG h];exact tB h _ _
    split
    ·intro p hp
     simp only [List.mem_append,List.mem_singleton] at hp
     rcases hp with hp | rfl
     ·exact hb p hp
     ·rw [gA];simp
    ·exact hb
theorem jS {s t:Ms} {w:Wd} {k:Nat} (h:s.sz k) (hs:cg s w=.inl t):t.sz (k+1):=by
 have h':=h.mono (Nat.le_succ k)
 unfold cg at hs
 split at hs
 ·split at hs
  ·cases hs
  ·rename_i o ho
   split at hs
   ·cases hs
   ·cases hs
    have hne:s.stack≠[]:=fun e=>by rw [e] at ho;cases ho
    have hl:0 < s.stack.length:=List.length_pos_iff.2 hne
    refine ⟨by simpa using h'.nodes,h'.top,fun y hy=>?_,?_⟩
    ·obtain ⟨z,hz,e⟩:=mem_modify hy
     rcases e with rfl | rfl
     ·exact h'.two _ hz
     ·exact h'.two z hz
    ·have:=h.stack
     simp only [List.length_append,List.length_dropLast,List.length_cons,List.length_nil];omega
 ·split at hs
  ·split at hs
   ·cases hs
   ·cases hs
    exact ⟨h'.nodes,h'.top,h'.two,by have:=h.stack;simp only [List.length_dropLast];omega⟩
  ·split at hs
   ·cases hs
   ·rename_i QU
    simp only [Sum.inl.injEq] at hs
    subst hs
    have h1:(Ms.sz { s with nodes:=s.nodes ++ [bV w] } (k+1)):=⟨by have:=h.nodes;simp;omega,h'.top,fun y hy=>by
     rcases List.mem_append.1 hy with hy | hy
     ·exact h'.two y hy
     ·obtain rfl:=List.mem_singleton.1 hy;exact ⟨Nat.zero_le _,Nat.zero_le _⟩,h.stack⟩
    have hb:(Ms.add { s with nodes:=s.nodes ++ [bV w] } [s.nodes.length]).sz (k+1):=by
     unfold Ms.add
     split
     ·exact ⟨h1.nodes,by simp only [List.length_append,List.length_cons,List.length_nil];have:=h.top;omega,h1.two,h1.stack⟩
     ·have h2:∀ (f:Mn→Mn),(∀ z,(z.body.length≤k∧z.els.length≤k)→(f z).body.length≤k+1∧(f z).els.length≤k+1)→∀ i,∀ y ∈ (s.nodes ++ [bV w]).modify i f,y.body.length≤k+1∧y.els.length≤k+1:=fun f hf i y hy=>by
       obtain ⟨z,hz,e⟩:=mem_modify hy
       have hz2:z.body.length≤k∧z.els.length≤k:=by
        rcases List.mem_append.1 hz with hz | hz
        ·exact h.two z hz
        ·obtain rfl:=List.mem_singleton.1 hz;exact ⟨Nat.zero_le _,Nat.zero_le _⟩
       rcases e with rfl | rfl
       ·omega
       ·exact hf z hz2
      split
      ·exact ⟨by simpa using h1.nodes,h1.top,h2 _ (fun z hz=>by simp only [List.length_append,List.length_cons,List.length_nil];omega) _,h1.stack⟩
      ·exact ⟨by simpa using h1.nodes,h1.top,h2 _ (fun z hz=>by simp only [List.length_append,List.length_cons,List.length_nil];omega) _,h1.stack⟩
    split
    ·rename_i hk
     refine ⟨hb.nodes,hb.top,hb.two,?_⟩
     have aap:s.stack.length < 16:=by
      rw [hk,Bool.true_and,decide_eq_true_eq] at QU
      omega
     simp only [List.length_append,jr,List.length_cons,List.length_nil]
     omega
    ·exact hb
theorem L4 (l:List UInt8):(dR l).kind.toNat≤6:=by
 unfold dR HY
 repeat' split
 all_goals first
  | decide
  | exact (by decide:(1:UInt8).toNat≤6)
  | exact (by decide:(2:UInt8).toNat≤6)
  | exact (by decide:(4:UInt8).toNat≤6)
theorem kZ:∀ (n:Nat) (r:List UInt8) (a:Nat) (acc:List Wd),(∀ w ∈ acc,w.kind.toNat≤6)→∀ w ∈ (dF n r a acc).1,w.kind.toNat≤6
 | 0,r,a,acc,h=>h
 | n+1,r,a,acc,h=>by
  rw [dF]
  split
  ·exact h
  ·split
   ·refine kZ n _ _ _ fun w hw=>?_
    rcases List.mem_append.1 hw with hw | hw
    ·exact h w hw
    ·obtain rfl:=List.mem_singleton.1 hw;exact Nat.zero_le _
   ·split
    ·exact h
    ·split
     ·refine kZ n _ _ _ fun w hw=>?_
      rcases List.mem_append.1 hw with hw | hw
      ·exact h w hw
      ·obtain rfl:=List.mem_singleton.1 hw;exact L4 _
     ·exact h
def xK (l:List UInt8):Mr :=
 if l.length > 65536 then .bad 0 2
 else if 0≤(bn l).2 then .bad (bn l).2.toNat 4
 else iO (bn l).1
def Mn.av (y:Mn):AV:=.ag [.u8 y.kind,.int (y.at':Int),.s y.text,.b y.root,y.names,.ro 1 (aF y.body),.ro 1 (aF y.els),.b y.has,.u8 0]
def rA (w:World) (F:Nat→Prop) (r:Mr) (e:Ending) (w':World):Prop:=Ext w w'∧match r with
 | .bad a er=>e=.returned (.tuple #[.agg #[.slice none 0 0,.slice none 0 0],.int .i64 (a:Int),.int .i64 (er:Int)])
 | .ok nodes top=>∃ (fH:Option Addr) (n2 c2:Nat) (l7:Option Addr) (c3:Nat),e=.returned (.tuple #[.agg #[.slice fH n2 c2,.slice l7 top.length c3],.int .i64 0,.int .i64 0]) ∧
   ba w' (fun b=>(b < w.heap.size→F b)∧(Value.slice fH n2 c2).ownBlock≠some b) 58 9 (nodes.map Mn.av) (.slice fH n2 c2)∧(∀ g,(Value.slice fH n2 c2).ownBlock=some g→w.heap.size≤g∧g < w'.heap.size) ∧
   Rel w' (fun b=>(b < w.heap.size→F b)∧(Value.slice fH n2 c2).ownBlock≠some b) (.ro 1 (aF top)) (.slice l7 top.length c3)
theorem results36 (T:Array Value) (W:World) (N:Nat) (x y a b:Value) (t2:T[2]?.getD undef=.pointer (some ⟨N,0,none⟩)) (t3:T[3]?.getD undef=a) (t4:T[4]?.getD undef=b) (h0:W.heap[N]?=some (.cells #[x,y] 26)) :
  (results Tryz.f21 T).run Tryz.prog W=.ok (.tuple #[.agg #[x,y],a,b]) W:=by
 have hr:Tryz.f21.results = #[.cell 2 26,.tmp 3,.tmp 4]:=by kernel_rfl
 have l1:(loadVar 26 ⟨N,0,none⟩).run Tryz.prog W=.ok (.agg #[x,y]) W:=by
  simp [loadVar,go_sem,(aP h0).1,(aP h0).2.1,Result.andThen]
 unfold results
 rw [hr]
 simp [t2,t3,t4,Sem.run_bind,asAddr,l1,Result.andThen]
theorem L5 {mx:Int} {C:cU} (A0:C.glob 1=some (1,.int mx)) {w:World} {F:Nat→Prop} (hG:aQ C w F):w.cell? ⟨1,0,none⟩=some (.int .i64 mx)∧F 1:=by
 obtain ⟨r,o,h1,h2,h3,h4⟩:=hG 1 1 _ A0
 simp only [Value.pointer.injEq,Option.some.injEq,Addr.mk.injEq,Nat.add_zero] at h1
 obtain ⟨v,q1,q2,q3⟩:=h4 0 (by decide)
 obtain ⟨rfl,rfl,_⟩:=h1
 have q3:Rel w F (.int mx) v:=q3
 cases q3
 exact ⟨q1,h2⟩
theorem vu {w:World} {F:Nat→Prop} {a b:AV} {x y:Value} (hx:Rel w F a x) (hy:Rel w F b y) (h1:x.oneCell'=true) (h2:y.oneCell'=true):Rel w F (.ag [a,b]) (.agg #[x,y]):=by
 refine Rel.ag [a,b] [x,y] rfl (fun v hv=>?_) (fun j v hv=>?_)
 ·simp only [List.mem_cons,List.not_mem_nil,or_false] at hv
  rcases hv with rfl | rfl
  ·exact h1
  ·exact h2
 ·match j,hv with
  | 0,hv=>cases hv;exact hx
  | 1,hv=>cases hv;exact hy
  | j+2,hv=>simp at hv
theorem Row.rel {W:World} {base:Nat} {tag:Nat→Tg} {t:Tg} {v:Value} {l:List Nat} (h:Row W base tag t 3 1 v l.length (ints l)) {G:Nat→Prop} (hG:∀ b,base≤b→tag b=t→G b):Rel W G (.ro 1 (aF l)) v:=by
 have ho:ba W G 3 1 (aF l) v:=by
  refine ⟨by decide,ints l,?_,?_,?_⟩
  ·rw [jL];exact kL h.1 (Nat.zero_le _)
  ·intro u hu
   obtain ⟨n,_,rfl⟩:=List.mem_map.1 hu
   rfl
  ·intro i j u hi hj hu
   have:j=0:=by omega
   subst this
   rw [jL] at hi
   simp only [Nat.mul_one,Nat.add_zero] at hu
   have e:(ints l)[i]?=some (BC l[i]):=by simp [ints,List.getElem?_eq_getElem hi]
   rw [e] at hu
   cases hu
   have e2:(aF l).getD i .un=.int (l[i]:Int):=by simp [aF,List.getD_eq_getElem?_getD,List.getElem?_eq_getElem hi]
   rw [e2]
   exact .int _
 exact ho.rel (fun _ _ h=>h) (fun g hg=>hG g (h.1.lt g hg).1 (h.2 g hg))
theorem PM.rel {w W:World} {F:Nat→Prop} {b7:Nat} {s:Ms} {X:List Vn} {tag:Nat→Tg} {vn vt vs:Value} (h:PM w F b7 s X tag vn vt vs W) :
  ba W (fun b=>(b < w.heap.size→F b)∧vn.ownBlock≠some b) 58 9 (s.nodes.map Mn.av) vn∧(∀ g,vn.ownBlock=some g→w.heap.size≤g∧g < W.heap.size)∧Rel W (fun b=>(b < w.heap.size→F b)∧vn.ownBlock≠some b) (.ro 1 (aF s.top)) vt:=by
 have h7:=h.Ab
 have hG:∀ b (t:Tg),t≠.nodes→b7+1≤b→tag b=t→(b < w.heap.size→F b)∧vn.ownBlock≠some b:=fun b t ht hb hbt=>⟨fun hlt=>by omega,fun e=>ht (hbt.symm.trans (h.nd.2 b e))⟩
 generalize ZH:(fun b=>(b < w.heap.size→F b)∧vn.ownBlock≠some b)=G
 have hG:∀ b (t:Tg),t≠.nodes→b7+1≤b→tag b=t→G b:=fun b t h1 h2 h3=>by rw [← ZH];exact hG b t h1 h2 h3
 have hF:∀ b,b < w.heap.size→F b→G b:=fun b hb hf=>by
  rw [← ZH]
  exact ⟨fun _=>hf,fun e=>by have:=(h.nd.1.lt b e).1;omega⟩
 refine ⟨?_,fun g hg=>⟨by have:=(h.nd.1.lt g hg).1;omega,(h.nd.1.lt g hg).2⟩,h.tp.rel fun b hb ht=>hG b _ (by simp) hb ht⟩
 have hl:(s.nodes.map Mn.av).length=X.length:=by rw [List.length_map,h.len]
 ·refine ⟨by decide,X.flatMap Vn.cells,?_,?_,?_⟩
  ·rw [hl];exact kL h.nd.1 (Nat.zero_le _)
  ·intro u hu
   obtain ⟨x,hx,hu⟩:=List.mem_flatMap.1 hu
   obtain ⟨i,hi,rfl⟩:=List.mem_iff_getElem.1 hx
   have hi':i < s.nodes.length:=by rw [← h.len];exact hi
   have hlk:=h.lk i _ _ (List.getElem?_eq_getElem hi) (List.getElem?_eq_getElem hi')
   obtain ⟨hb,he⟩:=h.bd i _ _ (List.getElem?_eq_getElem hi) (List.getElem?_eq_getElem hi')
   obtain ⟨_,_,eb⟩:=fk hb.1
   obtain ⟨_,_,ee⟩:=fk he.1
   simp only [Vn.cells,List.mem_cons,List.not_mem_nil,or_false] at hu
   rcases hu with rfl | rfl | rfl | rfl | rfl | rfl | rfl | rfl | rfl
   ·rfl
   ·rfl
   ·rfl
   ·rfl
   ·exact hlk.one
   ·rw [eb];rfl
   ·rw [ee];rfl
   ·rfl
   ·rfl
  ·intro i j u hi hj hu
   rw [hl] at hi
   have hi':i < s.nodes.length:=by rw [← h.len];exact hi
   have hlk:=h.lk i _ _ (List.getElem?_eq_getElem hi) (List.getElem?_eq_getElem hi')
   obtain ⟨hb,he⟩:=h.bd i _ _ (List.getElem?_eq_getElem hi) (List.getElem?_eq_getElem hi')
   rw [po X i j _ (List.getElem?_eq_getElem hi) hj] at hu
   have e2:(s.nodes.map Mn.av).getD i .un=(s.nodes[i]).av:=by simp [List.getD_eq_getElem?_getD,List.getElem?_eq_getElem hi']
   rw [e2]
   have jf:=hlk.kind
   have hat:=hlk.at'
   have UM:=hlk.text
   have hrt:=hlk.root
   have hhs:=hlk.has
   have oq:Rel W G (s.nodes[i]).names (X[i]).nm:=hlk.nm.mono fun b hb hf=>⟨hF b hb hf,h.ext.block b hb⟩
   have rb:=hb.rel (G:=G) fun b hb ht=>hG b _ (by simp) (by omega) ht
   have re:=he.rel (G:=G) fun b hb ht=>hG b _ (by simp) (by omega) ht
   generalize s.nodes[i]=y at *
   generalize X[i]=x at *
   match j,hj,hu with
   | 0,_,hu=>cases hu;show Rel W G (.u8 y.kind) _;rw [← jf];exact .u8 _
   | 1,_,hu=>cases hu;show Rel W G (.int (y.at':Int)) _;rw [← hat];exact .int _
   | 2,_,hu=>cases hu;show Rel W G (.s y.text) _;rw [← UM];exact .s _
   | 3,_,hu=>cases hu;show Rel W G (.b y.root) _;rw [← hrt];exact .b _
   | 4,_,hu=>cases hu;exact oq
   | 5,_,hu=>cases hu;exact rb
   | 6,_,hu=>cases hu;exact re
   | 7,_,hu=>cases hu;show Rel W G (.b y.has) _;rw [← hhs];exact .b _
   | 8,_,hu=>cases hu;exact .u8 0
   | j+9,hj,_=>omega
end R3
namespace R3
open Go Go.Proofs Sx
variable {mx:Int}
def UN (l:List UInt8):Nat→Bool→List Wd→Prop
 | a,_,[]=>a=l.length
 | a,pv,w :: ws=>w.at'=a∧∃ m,0 < m∧a+m≤l.length∧(w.kind=0→w.text=(l.drop a).take m∧pv=false)∧(w.kind≠0→w.text=[]∧5≤m∧((l.drop a).take m).take 2=rj∧((l.drop a).take m).drop (m - 2)=nW)∧UN l (a+m) (w.kind == 0) ws
theorem Iw (r:List UInt8) (h0:bU r=0) (hne:0 < r.length):r.take 2=rj:=by
 unfold bU at h0
 split at h0
 ·omega
 ·rename_i hn
  rcases Lib.index_spec r rj with ⟨h1,_⟩ | ⟨i,h1,h2,h3,_⟩
  ·omega
  ·obtain rfl:i=0:=by omega
   have:=(Lib.occAt_iff_take r rj 0 (by have:=Lib.index_room r rj (by omega);have e:(rj.length:Int)=2:=rfl;have e':rj.length=2:=rfl;omega)).symm.trans h3
   simpa [rj] using eq_of_beq this
theorem UN.len {l:List UInt8}:∀ (ws:List Wd) (a:Nat) (pv:Bool),UN l a pv ws→a+ws.length≤l.length
 | [],a,pv,h=>by have h:a=l.length:=h;simp [h]
 | w :: ws,a,pv,h=>by
  obtain ⟨_,m,h1,h2,_,_,h5⟩:=h
  have:=UN.len ws _ _ h5
  simp only [List.length_cons]
  omega
theorem E0 (x:List UInt8):cy .neq (.s x) (.s x)=some (.b false):=by simp [cy,Fl]
theorem tH (l:List UInt8) (a m:Nat) (h:a+m≤l.length):iv (.s l) (some (.int (a:Int))) (some (.int ((a+m:Nat):Int)))=some (.s ((l.drop a).take m)):=by
 have e:l=l.take a ++ l.drop a:=(List.take_append_drop a l).symm
 have:=Bh (l.take a) (l.drop a) m (by rw [List.length_drop];omega)
 rw [← e] at this
 have hl:(l.take a).length=a:=by simp;omega
 rw [hl] at this
 exact this
def Dv (run:RunT) (a:Int) (b:Bool) (d:AV) (e:Bool) (f:AV):Option AV :=
 run ((bP 4 ((Tryz.f26.body).getD .skip) []).getD []) (St.bX [(2,.cell (.ptr 2 0)),(3,.cell (.ptr 3 0)),(5,.cell (.val (.int a)))] [(2,some [.val (.b b),.val (d)]),(3,some [.val (.b e),.val (f)])])
def XK (a:Bool) (b:AV) (d:Bool) (e:AV) (c:aq) (r:RunT):Option AV :=
 (az (.b (a != d)) false ((eP b).bind fun f=>(eP e).bind fun g=>(aH .neq f g).bind fun i=>some i) (.b true)).bind fun j=>ah j
 (some (.b false))
 (Dv r 0 a b d e)
theorem c26 (a b d e) {r:AV} (h:XK a b d e (ae (C mx) Tryz.prog) (af (C mx) Tryz.prog 26 Tryz.f26)=some r):ae (C mx) Tryz.prog 26 [.ag [.b a,b],.ag [.b d,e]]=some r :=
 aj (fun _ _=>by kernel_rfl) h
def Dw (a:Int) (b:Bool) (d:AV) (e:Bool) (f:AV) (c:aq) (r:RunT):Option AV :=
 (eP d).bind fun g=>(aH .lss (.int a) g).bind fun i=>ah i
 ((idx 1 d (.int a)).bind fun j=>(idx 1 f (.int a)).bind fun k=>(cy .neq (AV.cell j 0) (AV.cell k 0)).bind fun l=>ah l
 (some (.b false))
 (Dv r (bN (a+1)) b d e f))
 (some (.b true))
theorem Iy (a b d e f) {r:AV} (h:Dw a b d e f (ae (C mx) Tryz.prog) (af (C mx) Tryz.prog 26 Tryz.f26)=some r):Dv (af (C mx) Tryz.prog 26 Tryz.f26) a b d e f=some r :=
 ak (fun _ _=>by kernel_rfl) h
theorem XL (p:List (List UInt8)) (x:List UInt8) (r:List (List UInt8)):idx 1 (.ro 1 ((p ++ x :: r).map .s)) (.int (p.length:Int))=some (.s x):=by
 show (if 1=1 then (lS ((p ++ x :: r).map AV.s).length (.int (p.length:Int))).bind fun n=>some (((p ++ x :: r).map AV.s).getD n .un) else none)=_
 rw [if_pos rfl,eZ (by simp)]
 simp
theorem ZI (b:Bool):∀ (r p:List (List UInt8)),(p ++ r).length≤1000000000→Dv (af (C mx) Tryz.prog 26 Tryz.f26) (p.length:Int) b (.ro 1 ((p ++ r).map .s)) b (.ro 1 ((p ++ r).map .s))=some (.b true)
 | [],p,h=>by
  apply Iy
  have e:decide ((p.length:Int) < (((p ++ []).map AV.s).length:Int))=false:=by simp
  simp only [Dw,dI,bo,e,Option.bind_some,ai,Bool.false_eq_true,if_false]
 | x :: r,p,h=>by
  apply Iy
  have hl:p.length+(r.length+1)≤1000000000:=by simpa using h
  have ih:=ZI b r (p ++ [x]) (by simp;omega)
  have hw:bN ((p.length:Int)+1)=((p ++ [x]).length:Int):=by rw [cJ (by omega) (by omega)];simp
  have e1:p ++ x :: r=(p ++ [x]) ++ r:=by simp
  have hlt:decide ((p.length:Int) < (((p ++ x :: r).map AV.s).length:Int))=true:=by rw [decide_eq_true_eq];simp;omega
  have hc:AV.cell (.s x) 0=.s x:=rfl
  simp only [Dw,dI,bo,hlt,XL,hc,E0,Option.bind_some,ai,Bool.false_eq_true,if_false,if_true,hw]
  rw [e1]
  exact ih
theorem s26 (b:Bool) (v:AV) (h:Tn v):ae (C mx) Tryz.prog 26 [.ag [.b b,v],.ag [.b b,v]]=some (.b true):=by
 apply c26
 have hb:(b != b)=false:=by simp
 rcases h with rfl | ⟨l,rfl,hl⟩
 ·have e0:eP .aG=some (.int 0):=rfl
  simp only [XK,hb,e0,gp,bne_self_eq_false,Option.bind_some,aM,Bool.or_false,ai,Bool.false_eq_true,if_false]
  apply Iy
  simp only [Dw,e0,bo,Option.bind_some]
  rfl
 ·simp only [XK,hb,dI,gp,bne_self_eq_false,Option.bind_some,aM,Bool.or_false,ai,Bool.false_eq_true,if_false]
  exact ZI (mx:=mx) b l [] (by simpa using hl)
theorem vv (b:UInt8) (n:Nat) (l:List UInt8):cf b (List.replicate n b ++ l)=cf b l:=by
 unfold cf
 induction n with
 | zero=>rfl
 | succ n ih=>rw [List.replicate_succ,List.cons_append,List.dropWhile_cons];simpa using ih
theorem E1 (b:UInt8) (n:Nat) (l:List UInt8):cp b (l ++ List.replicate n b)=cp b l:=by
 unfold cp
 rw [List.reverse_append,List.reverse_replicate]
 have:=vv b n l.reverse
 unfold cf at this
 rw [this]
theorem vw (b:UInt8) (p l:List UInt8):cp b (p ++ l)=if cp b l=[] then cp b p else p ++ cp b l:=by
 unfold cp
 rw [List.reverse_append,List.dropWhile_append]
 cases h:List.dropWhile (· == b) l.reverse with
 | nil=>simp
 | cons x r=>simp
def Iz:Code:=(Tryz.f64.body).getD .skip
def Dx (run:RunT) (a:AV):Option AV :=
 run ((bP 1 Iz []).getD []) (St.bX [(0,.cell (.val a))] [])
def Dy (run:RunT) (a:AV):Option AV :=
 run ((bP 3 Iz []).getD []) (St.bX [(0,.cell (.val a))] [])
def X64 (a:List UInt8) (c:aq) (r:RunT):Option AV :=
 Dx r (.s a)
theorem c64 a {r:AV} (h:X64 a (ae (C mx) Tryz.prog) (af (C mx) Tryz.prog 64 Tryz.f64)=some r):ae (C mx) Tryz.prog 64 [.s a]=some r :=
 aj (fun _ _=>by kernel_rfl) h
def Nf (a:AV) (c:aq) (r:RunT):Option AV :=
 (iQ a).bind fun b=>(aH .gtr b (.int 0)).bind fun d=>(az d true ((dm a (.int 0)).bind fun e=>(aH .eql e (.u8 32)).bind fun f=>some f) (.b false)).bind fun g=>ah g
 ((iv a (some (.int 1)) none).bind fun i=>Dx r i)
 (Dy r a)
def Ng (a:AV) (c:aq) (r:RunT):Option AV :=
 (iQ a).bind fun b=>(aH .gtr b (.int 0)).bind fun d=>(az d true ((iQ a).bind fun e=>(aH .sub e (.int 1)).bind fun f=>(dm a f).bind fun g=>(aH .eql g (.u8 32)).bind fun i=>some i) (.b false)).bind fun j=>ah j
 ((iQ a).bind fun k=>(aH .sub k (.int 1)).bind fun l=>(iv a none (some l)).bind fun m=>Dy r m)
 (some a)
theorem Nh a {r:AV} (h:Nf a (ae (C mx) Tryz.prog) (af (C mx) Tryz.prog 64 Tryz.f64)=some r):Dx (af (C mx) Tryz.prog 64 Tryz.f64) a=some r :=
 ak (fun _ _=>by kernel_rfl) h
theorem Ni a {r:AV} (h:Ng a (ae (C mx) Tryz.prog) (af (C mx) Tryz.prog 64 Tryz.f64)=some r):Dy (af (C mx) Tryz.prog 64 Tryz.f64) a=some r :=
 ak (fun _ _=>by kernel_rfl) h
def XM (a b:List UInt8) (c:aq) (r:RunT):Option AV :=
 (az (.b (decide (((a.length:Int)) > ((b.length:Int))))) true ((iv (.s a) none (some (.int ((b.length:Int))))).bind fun d=>(cy .eql d (.s b)).bind fun e=>some e) (.b false)).bind fun f=>(az f true ((dm (.s a) (.int ((b.length:Int)))).bind fun g=>(aH .eql g (.u8 32)).bind fun i=>some i) (.b false)).bind fun j=>some j
theorem c65 (a b) {r:AV} (h:XM a b (ae (C mx) Tryz.prog) (af (C mx) Tryz.prog 65 Tryz.f65)=some r):ae (C mx) Tryz.prog 65 [.s a,.s b]=some r :=
 aj (fun _ _=>by kernel_rfl) h
def XN (a:List UInt8) (b:Int) (d:List UInt8) (c:aq) (r:RunT):Option AV :=
 (az (.b (decide (b ≥ 0))) true (some (.b (decide ((bN (((a.length:Int)) - b)) ≥ ((d.length:Int)))))) (.b false)).bind fun e=>(az e true ((iv (.s a) (some (.int b)) (some (.int (bN (b+((d.length:Int))))))).bind fun f=>(cy .eql f (.s d)).bind fun g=>some g) (.b false)).bind fun i=>some i
theorem c52 (a b d) {r:AV} (h:XN a b d (ae (C mx) Tryz.prog) (af (C mx) Tryz.prog 52 Tryz.f52)=some r):ae (C mx) Tryz.prog 52 [.s a,.int b,.s d]=some r :=
 aj (fun _ _=>by kernel_rfl) h
def zQ (run:RunT) (a:List UInt8) (b:Int):Option AV :=
 run ((bP 4 ((Tryz.f76.body).getD .skip) []).getD []) (St.bX [(0,.cell (.val (.s a))),(3,.cell (.val (.int b)))] [])
def ZJ (a:List UInt8) (c:aq) (r:RunT):Option AV :=
 (az (.b (((a.length:Int)) == 0)) false (some (.b (decide (((a.length:Int)) > 32)))) (.b true)).bind fun b=>(az b false ((dm (.s a) (.int 0)).bind fun d=>(aH .lss d (.u8 97)).bind fun e=>some e) (.b true)).bind fun f=>(az f false ((dm (.s a) (.int 0)).bind fun g=>(aH .gtr g (.u8 122)).bind fun i=>some i) (.b true)).bind fun j=>ah j
 (some (.b false))
 (zQ r a 0)
theorem c76 a {r:AV} (h:ZJ a (ae (C mx) Tryz.prog) (af (C mx) Tryz.prog 76 Tryz.f76)=some r):ae (C mx) Tryz.prog 76 [.s a]=some r :=
 aj (fun _ _=>by kernel_rfl) h
def IA (a:List UInt8) (b:Int) (c:aq) (r:RunT):Option AV :=
 ah (.b (decide (b < ((a.length:Int)))))
 ((dm (.s a) (.int b)).bind fun d=>(aH .geq d (.u8 97)).bind fun e=>(az e true ((aH .leq d (.u8 122)).bind fun f=>some f) (.b false)).bind fun g=>(az g false ((aH .geq d (.u8 48)).bind fun i=>(az i true ((aH .leq d (.u8 57)).bind fun j=>some j) (.b false)).bind fun k=>some k) (.b true)).bind fun l=>(az l false ((aH .eql d (.u8 95)).bind fun m=>some m) (.b true)).bind fun n=>(unop .not n).bind fun o=>ah o
 (some (.b false))
 (zQ r a (bN (b+1))))
 (some (.b true))
theorem Nj (a b) {r:AV} (h:IA a b (ae (C mx) Tryz.prog) (af (C mx) Tryz.prog 76 Tryz.f76)=some r):zQ (af (C mx) Tryz.prog 76 Tryz.f76) a b=some r :=
 ak (fun _ _=>by kernel_rfl) h
theorem m9 (b:UInt8):∀ (l:List UInt8),∃ n,l=List.replicate n b ++ cf b l∧(cf b l=[]∨∃ x r,cf b l=x :: r∧(x == b)=false)
 | []=>⟨0,rfl,Or.inl rfl⟩
 | x :: r=>by
  obtain ⟨n,h1,h2⟩:=m9 b r
  cases hx:(x == b) with
  | true =>
   have e:cf b (x :: r)=cf b r:=by unfold cf;rw [List.dropWhile_cons,if_pos hx]
   rw [e]
   have lQ:x=b:=by simpa using hx
   subst lQ
   exact ⟨n+1,by rw [List.replicate_succ,List.cons_append,← h1],h2⟩
  | false =>
   have e:cf b (x :: r)=x :: r:=by unfold cf;rw [List.dropWhile_cons,if_neg (by rw [hx];decide)]
   rw [e]
   exact ⟨0,rfl,Or.inr ⟨x,r,rfl,hx⟩⟩
theorem E2 (b:UInt8) (l:List UInt8):∃ t,l=cp b l ++ t:=by
 refine ⟨(l.reverse.takeWhile (· == b)).reverse,?_⟩
 unfold cp
 rw [← List.reverse_append,List.takeWhile_append_dropWhile,List.reverse_reverse]
theorem BF (b:UInt8) (n:Nat):cp b (List.replicate n b)=[]:=by
 have:=E1 b n []
 simpa [cp] using this
theorem vz (b:UInt8) (l:List UInt8):cp b (cf b l)=cf b (cp b l):=by
 obtain ⟨n,h1,h2⟩:=m9 b l
 generalize hm:cf b l=m at h1 h2
 rw [h1,vw]
 split
 ·rename_i h
  rw [h,BF];rfl
 ·rename_i h
  rw [vv]
  rcases h2 with rfl | ⟨x,r,rfl,hx⟩
  ·exact absurd rfl h
  ·obtain ⟨t,ht⟩:=E2 b (x :: r)
   cases hd:cp b (x :: r) with
   | nil=>exact absurd hd h
   | cons y q =>
    rw [hd] at ht
    have:x=y:=(List.cons.inj ht).1
    subst this
    unfold cf
    rw [List.dropWhile_cons,if_neg (by rw [hx];decide)]
theorem IB:∀ (n:Nat) (l:List UInt8),l.length=n→n≤1000000000→Dy (af (C mx) Tryz.prog 64 Tryz.f64) (.s l)=some (.s (cp 32 l))
 | 0,l,hn,h=>by
  obtain rfl:=List.eq_nil_of_length_eq_zero hn
  apply Ni
  rfl
 | n+1,l,hn,h=>by
  apply Ni
  obtain ⟨p,x,rfl⟩:∃ p x,l=p ++ [x]:=by
   rcases List.eq_nil_or_concat l with e | ⟨p,x,e⟩
   ·rw [e] at hn;cases hn
   ·exact ⟨p,x,by simpa using e⟩
  have hp:p.length=n:=by simpa using hn
  have ih:=IB n p hp (by omega)
  have hl:(p ++ [x]).length=p.length+1:=by simp
  have kp:aH .sub (.int ((p.length+1:Nat):Int)) (.int 1)=some (.int (p.length:Int)):=by
   show some (AV.int (bN _))=_
   rw [cJ (by omega) (by omega)];congr 2;omega
  have hi:dm (.s (p ++ [x])) (.int (p.length:Int))=some (.u8 x):=iH p x []
  have hs:iv (.s (p ++ [x])) none (some (.int (p.length:Int)))=some (.s p):=by
   rw [mK (by simp)];simp
  simp only [Ng,kQ,hl,UB,kp,hi,hs,Option.bind_some,cI,aA,Bool.true_and,ai]
  unfold cp
  rw [List.reverse_append,List.reverse_singleton,List.singleton_append,List.dropWhile_cons]
  cases hx:(x == (32:UInt8)) with
  | true=>simp only [if_true];exact ih
  | false=>simp only [Bool.false_eq_true,if_false];simp
theorem Nk:∀ (l:List UInt8),l.length≤1000000000→Dx (af (C mx) Tryz.prog 64 Tryz.f64) (.s l)=some (.s (cp 32 (cf 32 l)))
 | [],_=>by
  apply Nh
  have:=IB (mx:=mx) 0 [] rfl (by omega)
  exact this
 | x :: r,h=>by
  apply Nh
  have ih:=Nk r (by simp at h;omega)
  have hi:dm (.s (x :: r)) (.int 0)=some (.u8 x):=e9 (i:=0) (l:=x :: r) (by simp)
  have hs:iv (.s (x :: r)) (some (.int 1)) none=some (.s r):=mL (l:=x :: r) (i:=1) (by simp)
  simp only [Nf,kQ,List.length_cons,UB,hi,hs,Option.bind_some,cI,aA,Bool.true_and,ai]
  unfold cf
  rw [List.dropWhile_cons]
  cases hx:(x == (32:UInt8)) with
  | true=>simp only [if_true];exact ih
  | false=>simp only [Bool.false_eq_true,if_false];exact IB (mx:=mx) _ (x :: r) rfl h
theorem XO (l:List UInt8) (h:l.length≤1000000000):ae (C mx) Tryz.prog 64 [.s l]=some (.s (kR l)):=by
 apply c64
 have:=Nk (mx:=mx) l h
 rw [vz] at this
 exact this
theorem L6 (p l:List UInt8):pre p l=p.isPrefixOf l:=by
 rw [Bool.eq_iff_iff,List.isPrefixOf_iff_prefix]
 unfold pre
 simp only [Bool.and_eq_true,decide_eq_true_eq,beq_iff_eq]
 constructor
 ·rintro ⟨_,h⟩
  have e:l.take p.length ++ l.drop p.length=l:=List.take_append_drop _ _
  rw [h] at e
  exact ⟨l.drop p.length,e⟩
 ·rintro ⟨t,rfl⟩
  exact ⟨by simp,by simp⟩
theorem ZK (l p:List UInt8) (hl:l.length≤1000000000):ae (C mx) Tryz.prog 65 [.s l,.s p]=some (.b (pre (p ++ [32]) l)):=by
 apply c65
 by_cases h:p.length < l.length
 ·have hd:decide ((l.length:Int) > (p.length:Int))=true:=by rw [decide_eq_true_eq];omega
  have hs:iv (.s l) none (some (.int (p.length:Int)))=some (.s (l.take p.length)):=mK (by omega)
  have hi:dm (.s l) (.int (p.length:Int))=some (.u8 l[p.length]):=e9 h
  simp only [XM,hd,hs,hi,nL,cI,aA,Option.bind_some,Bool.true_and]
  congr 2
  unfold pre
  have h1:decide ((p ++ [32]).length≤l.length)=true:=by rw [decide_eq_true_eq];simp;omega
  have h2:l.take (p ++ [32]).length=l.take p.length ++ [l[p.length]]:=by
   rw [List.length_append,List.length_singleton,List.take_succ_eq_append_getElem h]
  rw [h1,h2,Bool.true_and,Bool.eq_iff_iff,Bool.and_eq_true,beq_iff_eq,beq_iff_eq,beq_iff_eq]
  constructor
  ·rintro ⟨h3,h4⟩;rw [h3,h4]
  ·intro h3
   have h5:=List.append_inj' h3 rfl
   exact ⟨h5.1,by simpa using h5.2⟩
 ·have hd:decide ((l.length:Int) > (p.length:Int))=false:=by rw [decide_eq_false_iff_not];omega
  have hp:pre (p ++ [32]) l=false:=by
   unfold pre
   have:decide ((p ++ [32]).length≤l.length)=false:=by rw [decide_eq_false_iff_not];simp;omega
   rw [this,Bool.false_and]
  rw [hp]
  simp only [XM,hd]
  rfl
theorem UO (l p:List UInt8) (k:Nat) (hl:l.length≤1000000000) (hk:k≤l.length) (hp:p.length≤1000000000):ae (C mx) Tryz.prog 52 [.s l,.int (k:Int),.s p]=some (.b (Lib.occAt l p k)):=by
 apply c52
 have h0:decide ((k:Int) ≥ 0)=true:=by rw [decide_eq_true_eq];omega
 have hw:bN ((l.length:Int) - (k:Int))=((l.length - k:Nat):Int):=by rw [cJ (by omega) (by omega)];omega
 have ho:Lib.occAt l p k=pre p (l.drop k):=by rw [L6];rfl
 rw [ho]
 unfold pre
 rw [List.length_drop]
 by_cases h:p.length≤l.length - k
 ·have hd:decide (((l.length - k:Nat):Int) ≥ (p.length:Int))=true:=by rw [decide_eq_true_eq];omega
  have E9:decide (p.length≤l.length - k)=true:=by rw [decide_eq_true_eq];exact h
  have hw2:bN ((k:Int)+(p.length:Int))=((k+p.length:Nat):Int):=by rw [cJ (by omega) (by omega)];omega
  have hs:=tH l k p.length (by omega)
  simp only [XN,h0,hw,hd,E9,hw2,hs,nL,aA,Option.bind_some,Bool.true_and]
 ·have hd:decide (((l.length - k:Nat):Int) ≥ (p.length:Int))=false:=by rw [decide_eq_false_iff_not];omega
  have E9:decide (p.length≤l.length - k)=false:=by rw [decide_eq_false_iff_not];exact h
  simp only [XN,h0,hw,hd,E9,aA,Option.bind_some,Bool.true_and,Bool.false_and]
  rfl
theorem ZL (l:List UInt8) (hl:l.length≤32):∀ (r p:List UInt8),l=p ++ r→zQ (af (C mx) Tryz.prog 76 Tryz.f76) l (p.length:Int)=some (.b (r.all (zZ 1)))
 | [],p,e=>by
  apply Nj
  have hd:decide ((p.length:Int) < (l.length:Int))=false:=by rw [e];simp
  simp only [IA,hd,ai,Bool.false_eq_true,if_false]
  rfl
 | c :: r,p,e=>by
  apply Nj
  have ih:=ZL l hl r (p ++ [c]) (by rw [e];simp)
  have hle:p.length+(r.length+1)≤32:=by rw [e] at hl;simpa using hl
  have hd:decide ((p.length:Int) < (l.length:Int))=true:=by rw [decide_eq_true_eq,e];simp;omega
  have hi:dm (.s l) (.int (p.length:Int))=some (.u8 c):=by rw [e];exact iH p c r
  have hw:bN ((p.length:Int)+1)=((p ++ [c]).length:Int):=by rw [cJ (by omega) (by omega)];simp
  simp only [IA,hd,hi,hw,wh,wb,cI,aA,aM,bq,Option.bind_some,ai,if_true]
  rw [List.all_cons]
  have eo:zZ 1 c=(((decide (97≤c) && decide (c≤122)) || (decide (48≤c) && decide (c≤57))) || c == 95):=by
   unfold zZ
   rw [show ((1:Nat) == 0)=false from rfl,Bool.not_false,Bool.true_and,Bool.or_assoc]
  rw [← eo]
  cases ho:zZ 1 c with
  | true=>simp only [Bool.not_true,Bool.false_eq_true,if_false,Bool.true_and];exact ih
  | false=>simp only [Bool.not_false,if_true,Bool.false_and]
theorem tI:∀ (l:List UInt8) (i:Nat),eO (i+1) l=l.all (zZ 1)
 | [],i=>rfl
 | b :: r,i=>by
  rw [eO,tI r (i+1),List.all_cons]
  congr 1
theorem XP (b:UInt8):zZ 0 b=(decide (97≤b) && decide (b≤122)):=by
 unfold zZ
 simp
theorem ZM (l:List UInt8) (hl:l.length≤1000000000):ae (C mx) Tryz.prog 76 [.s l]=some (.b (eD l)):=by
 apply c76
 cases l with
 | nil=>rfl
 | cons b r =>
  have hi:dm (.s (b :: r)) (.int 0)=some (.u8 b):=e9 (i:=0) (l:=b :: r) (by simp)
  have h0:(((b :: r).length:Int) == 0)=false:=by rw [beq_eq_false_iff_ne];simp;omega
  unfold eD
  have e1:decide (1≤(b :: r).length)=true:=by rw [decide_eq_true_eq];simp
  rw [eO,tI,XP,e1,Bool.true_and]
  simp only [ZJ,hi,h0,Gk,Gl,aM,Option.bind_some,ai,Bool.false_or]
  have hlt:decide (b < 97)=!decide (97≤b):=by
   rw [Bool.eq_iff_iff];simp
  have uB:decide (122 < b)=!decide (b≤122):=by
   rw [Bool.eq_iff_iff];simp
  have hln:decide (((b :: r).length:Int) > 32)=!decide ((b :: r).length≤32):=by
   rw [Bool.eq_iff_iff];simp <;> omega
  rw [hlt,uB,hln]
  by_cases Jq:(b :: r).length≤32
  ·have ih:=ZL (mx:=mx) (b :: r) Jq (b :: r) [] rfl
   rw [List.all_cons] at ih
   have ih:zQ (af (C mx) Tryz.prog 76 Tryz.f76) (b :: r) 0=some (.b (zZ 1 b && r.all (zZ 1))):=ih
   rw [ih]
   have:decide ((b :: r).length≤32)=true:=by rw [decide_eq_true_eq];exact Jq
   rw [this]
   have ho:zZ 1 b=((decide (97≤b) && decide (b≤122)) || (!((1:Nat) == 0) && ((decide (48≤b) && decide (b≤57)) || b == 95))):=rfl
   rw [ho]
   cases decide (97≤b) <;> cases decide (b≤122) <;> simp
  ·have:decide ((b :: r).length≤32)=false:=by rw [decide_eq_false_iff_not];exact Jq
   rw [this]
   simp
def BG:Code:=(Tryz.f66.body).getD .skip
def Dz (run:RunT) (a:AV) (b:Bool) (d:AV) (e:Bool) (f:List AV):Option AV :=
 run ((bP 9 BG []).getD []) (St.bX [(0,.cell (.val a)),(2,.cell (.ptr 2 0)),(4,.cell (.ptr 4 0))] [(2,some [.val (.b b),.val (d)]),(4,some [.val (.b e),.own 604001 9 1 f])])
def tJ (run:RunT) (a:AV) (b d:Int) (e:Bool) (f:AV) (g:Bool) (i:List AV):Option AV :=
 run ((bP 11 BG []).getD []) (St.bX [(0,.cell (.val a)),(2,.cell (.ptr 2 0)),(4,.cell (.ptr 4 0)),(5,.cell (.val (.int b))),(6,.cell (.val (.int d)))] [(2,some [.val (.b e),.val (f)]),(4,some [.val (.b g),.own 604001 9 1 i])])
def BH (run:RunT) (a:AV) (b d:Int) (e:Bool) (f:AV) (g:Bool) (i:List AV):Option AV :=
 run ((bP 12 BG []).getD []) (St.bX [(0,.cell (.val a)),(2,.cell (.ptr 2 0)),(4,.cell (.ptr 4 0)),(5,.cell (.val (.int b))),(6,.cell (.val (.int d)))] [(2,some [.val (.b e),.val (f)]),(4,some [.val (.b g),.own 604001 9 1 i])])
def UQ (a:List UInt8) (c:aq) (r:RunT):Option AV :=
 ah (.b (a == [46]))
 (some (.tu [.ag [.b false,.aG],.b true]))
 (ah (.b (a == [36]))
 (some (.tu [.ag [.b true,.aG],.b true]))
 ((az (.b (decide (((a.length:Int)) ≥ 2))) true ((dm (.s a) (.int 0)).bind fun b=>(aH .eql b (.u8 36)).bind fun d=>some d) (.b false)).bind fun e=>(az e true ((dm (.s a) (.int 1)).bind fun f=>(aH .eql f (.u8 46)).bind fun g=>some g) (.b false)).bind fun i=>ah i
 ((iv (.s a) (some (.int 2)) none).bind fun j=>Dz r j false (.aG) true [])
 (Dz r (.s a) false (.aG) false [])))
theorem c66 a {r:AV} (h:UQ a (ae (C mx) Tryz.prog) (af (C mx) Tryz.prog 66 Tryz.f66)=some r):ae (C mx) Tryz.prog 66 [.s a]=some r :=
 aj (fun _ _=>by kernel_rfl) h
def TS (a:AV) (b:Bool) (d:AV) (e:Bool) (f:List AV) (c:aq) (r:RunT):Option AV :=
 tJ r a 0 0 b d e f
def tK (a:AV) (b d:Int) (e:Bool) (f:AV) (g:Bool) (i:List AV) (c:aq) (r:RunT):Option AV :=
 (iQ a).bind fun j=>(aH .leq (.int d) j).bind fun k=>ah k
 ((iQ a).bind fun l=>(aH .lss (.int d) l).bind fun m=>(az m true ((dm a (.int d)).bind fun n=>(aH .neq n (.u8 46)).bind fun o=>some o) (.b false)).bind fun p=>ah p
 (BH r a b d e f g i)
 ((iv a (some (.int b)) (some (.int d))).bind fun q=>(c 76 [q]).bind fun s=>(unop .not s).bind fun t=>(az t false (some (.b (decide (((i.length:Int)) ≥ 8)))) (.b true)).bind fun u=>ah u
 (some (.tu [.ag [.b false,.aG],.b false]))
 ((iv a (some (.int b)) (some (.int d))).bind fun w=>(AV.one w).bind fun x=>(app 16 1 i (.ro 1 (([x]:List AV)))).bind fun y=>BH r a (bN (d+1)) d e f g y)))
 (some (.tu [.ag [.b g,.ro 1 i],.b true]))
def xL (a:AV) (b d:Int) (e:Bool) (f:AV) (g:Bool) (i:List AV) (c:aq) (r:RunT):Option AV :=
 tJ r a b (bN (d+1)) e f g i
theorem TT (a b d e f) {r:AV} (h:TS a b d e f (ae (C mx) Tryz.prog) (af (C mx) Tryz.prog 66 Tryz.f66)=some r):Dz (af (C mx) Tryz.prog 66 Tryz.f66) a b d e f=some r :=
 ak (fun _ _=>by kernel_rfl) h
theorem BI (a b d e f g i) {r:AV} (h:tK a b d e f g i (ae (C mx) Tryz.prog) (af (C mx) Tryz.prog 66 Tryz.f66)=some r):tJ (af (C mx) Tryz.prog 66 Tryz.f66) a b d e f g i=some r :=
 ak (fun _ _=>by kernel_rfl) h
theorem BJ (a b d e f g i) {r:AV} (h:xL a b d e f g i (ae (C mx) Tryz.prog) (af (C mx) Tryz.prog 66 Tryz.f66)=some r):BH (af (C mx) Tryz.prog 66 Tryz.f66) a b d e f g i=some r :=
 ak (fun _ _=>by kernel_rfl) h
def xM:AV:=.tu [.ag [.b false,.aG],.b false]
def xN (b:Bool) (acc zR:List (List UInt8)):AV :=
 if zR.all eD && decide (acc.length+zR.length≤8) then .tu [.ag [.b b,.ro 1 ((acc ++ zR).map .s)],.b true] else xM
theorem vA (b:Bool) (acc:List (List UInt8)) (x:List UInt8) (t:List (List UInt8)):xN b acc (x :: t)=if !eD x || decide ((acc.length:Int) ≥ 8) then xM else xN b (acc ++ [x]) t:=by
 unfold xN
 rw [List.all_cons]
 cases hx:eD x with
 | false=>simp
 | true =>
  by_cases h8:8≤acc.length
  ·have h1:decide ((acc.length:Int) ≥ 8)=true:=by rw [decide_eq_true_eq];omega
   have h2:decide (acc.length+(x :: t).length≤8)=false:=by rw [decide_eq_false_iff_not];simp;omega
   rw [h1,h2];simp
  ·have h1:decide ((acc.length:Int) ≥ 8)=false:=by rw [decide_eq_false_iff_not];omega
   have h2:(acc ++ [x]).length+t.length=acc.length+(x :: t).length:=by simp;omega
   rw [h1,h2];simp
theorem Nl (acc:List (List UInt8)) (x:List UInt8) (h:acc.length≤100):app 16 1 (acc.map .s) (.ro 1 ([.s x]:List AV))=some ((acc ++ [x]).map .s):=by
 have hb:big=70368744177664:=rfl
 show ((if 1=1 then some [AV.s x] else none).bind fun q=>if ((acc.map AV.s).length+q.length) * 16≤big then some (acc.map AV.s ++ q) else none)=_
 rw [if_pos rfl]
 simp only [Option.bind_some,List.length_map,List.length_cons,List.length_nil,hb]
 rw [if_pos (by omega),List.map_append];rfl
theorem L8 (l:List UInt8) (hl:l.length≤1000000000) (b:Bool) (acc:List (List UInt8)) (i j:Int) (hj:(l.length:Int) < j) (h8:acc.length≤8) :
  tJ (af (C mx) Tryz.prog 66 Tryz.f66) (.s l) i j false .aG b (acc.map .s)=some (xN b acc []):=by
 apply BI
 have hd:decide (j≤(l.length:Int))=false:=by rw [decide_eq_false_iff_not];omega
 simp only [tK,kQ,lr,hd,Option.bind_some,ai,Bool.false_eq_true,if_false]
 unfold xN
 have:decide (acc.length+([]:List (List UInt8)).length≤8)=true:=by rw [decide_eq_true_eq];simpa using h8
 rw [this,List.append_nil]
 rfl
theorem QK (l:List UInt8) (hl:l.length≤1000000000) (b:Bool):∀ (r p cur:List UInt8) (acc:List (List UInt8)) (h:List UInt8) (t:List (List UInt8)),l=p ++ (cur ++ r)→cd r=h :: t→acc.length≤8 →
  tJ (af (C mx) Tryz.prog 66 Tryz.f66) (.s l) (p.length:Int) ((p.length+cur.length:Nat):Int) false .aG b (acc.map .s)=some (xN b acc ((cur ++ h) :: t))
 | [],p,cur,acc,h,t,e,hs,h8=>by
  cases hs
  apply BI
  have el:l.length=p.length+cur.length:=by rw [e];simp
  have hd:decide (((p.length+cur.length:Nat):Int)≤(l.length:Int))=true:=by rw [decide_eq_true_eq];omega
  have UR:decide (((p.length+cur.length:Nat):Int) < (l.length:Int))=false:=by rw [decide_eq_false_iff_not];omega
  have EB:=tH l p.length cur.length (by omega)
  have P8:(l.drop p.length).take cur.length=cur:=by rw [e,List.drop_left,List.append_nil,List.take_length]
  rw [P8] at EB
  have hn:=ZM (mx:=mx) cur (by omega)
  simp only [tK,kQ,lr,bo,hd,UR,EB,hn,jW,bq,Option.bind_some,ai,if_true,gm,Bool.false_eq_true,if_false,aM,List.length_map]
  rw [List.append_nil,vA]
  cases hc:(!eD cur || decide ((acc.length:Int) ≥ 8)) with
  | true=>simp only [if_true];rfl
  | false =>
   simp only [Bool.false_eq_true,if_false]
   have h7:acc.length < 8:=by
    simp only [Bool.or_eq_false_iff,decide_eq_false_iff_not] at hc
    omega
   simp only [Nl acc cur (by omega),Option.bind_some]
   apply BJ
   have hw:bN (((p.length+cur.length:Nat):Int)+1)=((p.length+cur.length+1:Nat):Int):=by rw [cJ (by omega) (by omega)];omega
   simp only [xL,hw]
   exact L8 l hl b (acc ++ [cur]) _ _ (by omega) (by simp;omega)
 | c :: r,p,cur,acc,h,t,e,hs,h8=>by
  apply BI
  have el:l.length=p.length+(cur.length+(r.length+1)):=by rw [e];simp
  have hd:decide (((p.length+cur.length:Nat):Int)≤(l.length:Int))=true:=by rw [decide_eq_true_eq];omega
  have UR:decide (((p.length+cur.length:Nat):Int) < (l.length:Int))=true:=by rw [decide_eq_true_eq];omega
  have hi:dm (.s l) (.int ((p.length+cur.length:Nat):Int))=some (.u8 c):=by
   have:=iH (p ++ cur) c r
   rw [List.length_append,List.append_assoc,← e] at this
   exact this
  have hw:bN (((p.length+cur.length:Nat):Int)+1)=((p.length+cur.length+1:Nat):Int):=by rw [cJ (by omega) (by omega)];omega
  obtain ⟨h',t',hs'⟩:=kM r
  rw [lA] at hs
  cases hc:(c == 46) with
  | true =>
   rw [hc,if_pos rfl] at hs
   cases hs
   have hne:(c != 46)=false:=by rw [bne,hc];rfl
   have EB:=tH l p.length cur.length (by omega)
   have P8:(l.drop p.length).take cur.length=cur:=by rw [e,List.drop_left,List.take_left]
   rw [P8] at EB
   have hn:=ZM (mx:=mx) cur (by omega)
   simp only [tK,kQ,lr,bo,hd,UR,hi,wa,hne,EB,hn,jW,bq,Option.bind_some,ai,if_true,aA,Bool.true_and,Bool.false_eq_true,if_false,aM,List.length_map]
   rw [List.append_nil,vA]
   cases hc:(!eD cur || decide ((acc.length:Int) ≥ 8)) with
   | true=>simp only [if_true];rfl
   | false =>
    simp only [Bool.false_eq_true,if_false]
    have h7:acc.length < 8:=by
     simp only [Bool.or_eq_false_iff,decide_eq_false_iff_not] at hc
     omega
    simp only [Nl acc cur (by omega),Option.bind_some]
    apply BJ
    simp only [xL,hw]
    have aaq:c=46:=by simpa using ‹(c == 46)=true›
    have ih:=QK l hl b r (p ++ (cur ++ [c])) [] (acc ++ [cur]) h' t' (by rw [e];simp) hs' (by simp;omega)
    have e1:(p ++ (cur ++ [c])).length=p.length+cur.length+1:=by simp;omega
    rw [e1,List.nil_append] at ih
    rw [hs']
    exact ih
  | false =>
   rw [hc,if_neg (by decide),hs'] at hs
   cases hs
   have hne:(c != 46)=true:=by rw [bne,hc];rfl
   simp only [tK,kQ,lr,bo,hd,UR,hi,wa,hne,Option.bind_some,ai,if_true,aA,Bool.true_and]
   apply BJ
   simp only [xL,hw]
   have ih:=QK l hl b r p (cur ++ [c]) acc h' t (by rw [e];simp) hs' h8
   have e1:p.length+(cur ++ [c]).length=p.length+cur.length+1:=by simp;omega
   rw [e1,List.append_assoc] at ih
   exact ih
theorem zS (b:Bool) (zR:List (List UInt8)):xN b [] zR=if zR.all eD && decide (zR.length≤8) then .tu [.ag [.b b,.ro 1 (zR.map .s)],.b true] else xM:=by
 unfold xN
 simp
theorem DA (l:List UInt8) (hl:l.length≤1000000000) (b:Bool):Dz (af (C mx) Tryz.prog 66 Tryz.f66) (.s l) false .aG b []=some (xN b [] (cd l)):=by
 apply TT
 obtain ⟨h,t,hs⟩:=kM l
 have:=QK (mx:=mx) l hl b l [] [] [] h t rfl hs (by simp)
 rw [hs]
 exact this
theorem s66 (l:List UInt8) (hl:l.length≤1000000000):ae (C mx) Tryz.prog 66 [.s l]=some (sI l):=by
 apply c66
 unfold sI
 cases h1:(l == [46]) with
 | true=>simp only [UQ,h1,ai,if_true]
 | false =>
  cases h2:(l == [36]) with
  | true=>simp only [UQ,h1,h2,ai,if_true,Bool.false_eq_true,if_false]
  | false =>
   have XQ:((az (.b (decide ((l.length:Int) ≥ 2))) true ((dm (.s l) (.int 0)).bind fun v1=>(aH .eql v1 (.u8 36)).bind fun v2=>some v2) (.b false)).bind fun v3=>(az v3 true ((dm (.s l) (.int 1)).bind fun v4=>(aH .eql v4 (.u8 46)).bind fun v5=>some v5) (.b false)))=some (.b (cE l)):=by
    match l with
    | []=>rfl
    | [a]=>rfl
    | a :: b :: r =>
     have hd:decide ((((a :: b :: r).length:Nat):Int) ≥ 2)=true:=by rw [decide_eq_true_eq];simp;omega
     have i0:dm (.s (a :: b :: r)) (.int 0)=some (.u8 a):=e9 (i:=0) (l:=a :: b :: r) (by simp)
     have i1:dm (.s (a :: b :: r)) (.int 1)=some (.u8 b):=e9 (i:=1) (l:=a :: b :: r) (by simp)
     have hdd:cE (a :: b :: r)=(a == 36 && b == 46):=by
      unfold cE
      have:decide (2≤(a :: b :: r).length)=true:=by rw [decide_eq_true_eq];simp
      rw [this,Bool.true_and,Bool.eq_iff_iff]
      simp
     rw [hdd]
     simp only [hd,i0,i1,cI,aA,Option.bind_some,Bool.true_and]
   simp only [UQ,h1,h2,ai,Bool.false_eq_true,if_false]
   rw [← Option.bind_assoc,XQ]
   simp only [Option.bind_some,ai]
   cases hd:cE l with
   | true =>
    have hlen:2≤l.length:=by
     unfold cE at hd
     simp only [Bool.and_eq_true,decide_eq_true_eq] at hd
     exact hd.1
    have hs:iv (.s l) (some (.int 2)) none=some (.s (l.drop 2)):=mL (i:=2) hlen
    simp only [hs,Option.bind_some,if_true]
    rw [DA _ (by simp;omega),zS]
    rfl
   | false =>
    simp only [Bool.false_eq_true,if_false]
    rw [DA l hl,zS]
    rfl
def BK:Code:=(Tryz.f53.body).getD .skip
def BL (run:RunT) (a:UInt8) (b:Int) (d:List UInt8) (e:Bool) (f:AV):Option AV :=
 run ((bP 11 BK []).getD []) (St.bX [(2,.cell (.ptr 2 0))] [(2,some [.val (.u8 a),.val (.int b),.val (.s d),.val (.b e),.val (f)])])
def BM (run:RunT) (a:AV) (b:UInt8) (d:Int) (e:List UInt8) (f:Bool) (g:AV):Option AV :=
 run ((bP 12 BK []).getD []) (St.bX [(0,.cell (.val a)),(2,.cell (.ptr 2 0))] [(2,some [.val (.u8 b),.val (.int d),.val (.s e),.val (.b f),.val (g)])])
def tL (run:RunT) (a:AV) (b:Int) (d:UInt8) (e:Int) (f:List UInt8) (g:Bool) (i:AV):Option AV :=
 run ((bP 19 BK []).getD []) (St.bX [(0,.cell (.val a)),(2,.cell (.ptr 2 0)),(4,.cell (.val (.int b)))] [(2,some [.val (.u8 d),.val (.int e),.val (.s f),.val (.b g),.val (i)])])
def ZN (a:List UInt8) (c:aq) (r:RunT):Option AV :=
 (c 64 [.s a]).bind fun b=>(cy .eql b (.s [101,108,115,101])).bind fun d=>ah d
 (some (.tu [.ag [.u8 3,.int 0,.s [],.b false,.aG],.b true]))
 ((cy .eql b (.s [101,110,100])).bind fun e=>ah e
 (some (.tu [.ag [.u8 5,.int 0,.s [],.b false,.aG],.b true]))
 ((cy .eql b (.s [102,108,117,115,104])).bind fun f=>ah f
 (some (.tu [.ag [.u8 6,.int 0,.s [],.b false,.aG],.b true]))
 ((cy .eql b (.s [105,102])).bind fun g=>ah g
 (BL r 0 0 [] false (.aG))
 ((cy .eql b (.s [114,97,110,103,101])).bind fun i=>ah i
 (BL r 0 0 [] false (.aG))
 (BM r b 0 0 [] false (.aG))))))
theorem c53 a {r:AV} (h:ZN a (ae (C mx) Tryz.prog) (af (C mx) Tryz.prog 53 Tryz.f53)=some r):ae (C mx) Tryz.prog 53 [.s a]=some r :=
 aj (fun _ _=>by kernel_rfl) h
def P9 (a:UInt8) (b:Int) (d:List UInt8) (e:Bool) (f:AV) (c:aq) (r:RunT):Option AV :=
 some (.tu [.ag [.u8 0,.int 0,.s [],.b false,.aG],.b false])
def IC (a:AV) (b:UInt8) (d:Int) (e:List UInt8) (f:Bool) (g:AV) (c:aq) (r:RunT):Option AV :=
 (c 65 [a,.s [105,102]]).bind fun i=>ah i
 ((iv a (some (.int 2)) none).bind fun j=>(c 64 [j]).bind fun k=>tL r k 2 b d e f g)
 ((c 65 [a,.s [114,97,110,103,101]]).bind fun l=>ah l
 ((iv a (some (.int 5)) none).bind fun m=>(c 64 [m]).bind fun n=>tL r n 4 b d e f g)
 (tL r a 1 b d e f g))
def ID (a:AV) (b:Int) (d:UInt8) (e:Int) (f:List UInt8) (g:Bool) (i:AV) (c:aq) (r:RunT):Option AV :=
 (c 66 [a]).bind fun j=>(aV j 0).bind fun k=>(aV j 1).bind fun l=>(AV.aI 2 k).bind fun m=>(conv .u8 (.int b)).bind fun n=>(AV.one n).bind fun o=>some (.tu [.ag [o,.int 0,.s [],gt m 0,gt m 1],l])
theorem IE (a b d e f) {r:AV} (h:P9 a b d e f (ae (C mx) Tryz.prog) (af (C mx) Tryz.prog 53 Tryz.f53)=some r):BL (af (C mx) Tryz.prog 53 Tryz.f53) a b d e f=some r :=
 ak (fun _ _=>by kernel_rfl) h
theorem Qa (a b d e f g) {r:AV} (h:IC a b d e f g (ae (C mx) Tryz.prog) (af (C mx) Tryz.prog 53 Tryz.f53)=some r):BM (af (C mx) Tryz.prog 53 Tryz.f53) a b d e f g=some r :=
 ak (fun _ _=>by kernel_rfl) h
theorem Qb (a b d e f g i) {r:AV} (h:ID a b d e f g i (ae (C mx) Tryz.prog) (af (C mx) Tryz.prog 53 Tryz.f53)=some r):tL (af (C mx) Tryz.prog 53 Tryz.f53) a b d e f g i=some r :=
 ak (fun _ _=>by kernel_rfl) h
theorem BN (b:UInt8) (l:List UInt8):cf b (cf b l)=cf b l:=by
 obtain ⟨n,_,h | ⟨x,r,h,hx⟩⟩:=m9 b l
 ·rw [h];rfl
 ·rw [h];unfold cf;rw [List.dropWhile_cons,if_neg (by rw [hx];decide)]
theorem BO (b:UInt8) (l:List UInt8):cp b (cp b l)=cp b l:=by
 have:=BN b l.reverse
 unfold cf at this
 unfold cp
 rw [List.reverse_reverse,this]
theorem E3 (l:List UInt8):cp 32 (kR l)=kR l:=by
 unfold kR
 rw [vz,BO]
theorem qp (s:List UInt8) (n:Nat) (h:cp 32 s=s) (hn:n < s.length) (Jq:s[n]?=some 32):kR (s.drop n)=cf 32 (s.drop (n+1)):=by
 have e:s.take n ++ s.drop n=s:=List.take_append_drop n s
 have h1:=vw 32 (s.take n) (s.drop n)
 rw [e,h] at h1
 have h2:cp 32 (s.drop n)=s.drop n:=by
  split at h1
  ·have h3:=o5 32 (s.take n)
   rw [← h1,List.length_take] at h3
   omega
  ·rw [e.symm] at h1
   have h4:s.take n ++ s.drop n=s.take n ++ cp 32 (s.drop n):=by
    rw [e] at h1 ⊢
    exact h1
   exact (List.append_cancel_left h4).symm
 unfold kR
 rw [h2]
 have h5:s.drop n=32 :: s.drop (n+1):=by
  rw [List.drop_eq_getElem_cons hn]
  rw [List.getElem?_eq_getElem hn] at Jq
  rw [Option.some.inj Jq]
 rw [h5]
 unfold cf
 rw [List.dropWhile_cons];rfl
theorem BP (x:List UInt8) (hx:x.length≤1000000000) (k:Int) (kb:UInt8) (hc:conv .u8 (.int k)=some (.u8 kb)):tL (af (C mx) Tryz.prog 53 Tryz.f53) (.s x) k 0 0 [] false .aG=some (zz kb x).av:=by
 apply Qb
 have hw:=s66 (mx:=mx) x hx
 rw [zy] at hw
 have e (x y:AV):AV.aI 2 (.ag [x,y])=some [x,y]:=rfl
 have h1:AV.one (.u8 kb)=some (.u8 kb):=rfl
 simp only [ID,hw,kO,kP,e,hc,h1,Option.bind_some,List.getD_cons_zero,List.getD_cons_succ]
 rfl
theorem IG {p s:List UInt8} (h:pre (p ++ [32]) s=true):p.length < s.length∧s[p.length]?=some 32:=by
 unfold pre at h
 simp only [Bool.and_eq_true,decide_eq_true_eq,beq_iff_eq] at h
 have h1:p.length < s.length:=by have:=h.1;simp at this;omega
 refine ⟨h1,?_⟩
 have h2:(s.take (p ++ [32]).length)[p.length]?=s[p.length]?:=by rw [List.getElem?_take];simp
 rw [← h2,h.2]
 simp
theorem Qc (s:List UInt8) (hs:s.length≤1000000000) (ht:cp 32 s=s):BM (af (C mx) Tryz.prog 53 Tryz.f53) (.s s) 0 0 [] false .aG=some (if pre (Jk ++ [32]) s then zz 2 (cf 32 (s.drop 3)) else if pre (iY ++ [32]) s then zz 4 (cf 32 (s.drop 6)) else zz 1 s).av:=by
 apply Qa
 have c1:=ZK (mx:=mx) s [105,102] hs
 have c2:=ZK (mx:=mx) s [114,97,110,103,101] hs
 rw [show ([105,102]:List UInt8) ++ [32]=Jk ++ [32] from rfl] at c1
 rw [show ([114,97,110,103,101]:List UInt8) ++ [32]=iY ++ [32] from rfl] at c2
 simp only [IC,c1,Option.bind_some,ai]
 cases h1:pre (Jk ++ [32]) s with
 | true =>
  obtain ⟨hl,Jq⟩:=IG h1
  have hl:2 < s.length:=hl
  have EB:iv (.s s) (some (.int 2)) none=some (.s (s.drop 2)):=mL (i:=2) (by omega)
  have Nn:=XO (mx:=mx) (s.drop 2) (by simp;omega)
  rw [qp s 2 ht hl Jq] at Nn
  simp only [EB,Nn,Option.bind_some,if_true]
  exact BP _ (Nat.le_trans (jm _ _) (by simp;omega)) 2 2 rfl
 | false =>
  simp only [c2,Option.bind_some,ai,Bool.false_eq_true,if_false]
  cases h2:pre (iY ++ [32]) s with
  | true =>
   obtain ⟨hl,Jq⟩:=IG h2
   have hl:5 < s.length:=hl
   have EB:iv (.s s) (some (.int 5)) none=some (.s (s.drop 5)):=mL (i:=5) (by omega)
   have Nn:=XO (mx:=mx) (s.drop 5) (by simp;omega)
   rw [qp s 5 ht hl Jq] at Nn
   simp only [EB,Nn,Option.bind_some,if_true]
   exact BP _ (Nat.le_trans (jm _ _) (by simp;omega)) 4 4 rfl
  | false =>
   simp only [Bool.false_eq_true,if_false]
   exact BP _ hs 1 1 rfl
theorem s53 (l:List UInt8) (hl:l.length≤1000000000):ae (C mx) Tryz.prog 53 [.s l]=some (dR l).av:=by
 apply c53
 have Nn:=XO (mx:=mx) l hl
 have hs:=Nat.le_trans (uX l) hl
 have ht:=E3 l
 unfold dR
 generalize kR l=s at Nn hs ht
 simp only [ZN,Nn,Option.bind_some,nL,ai]
 unfold HY
 rw [show ([101,108,115,101]:List UInt8)=els from rfl,show ([101,110,100]:List UInt8)=LB from rfl,show ([102,108,117,115,104]:List UInt8)=xm from rfl]
 cases h1:(s == els) with
 | true=>simp only [if_true];rfl
 | false =>
  cases h2:(s == LB) with
  | true=>simp only [if_true,Bool.false_eq_true,if_false];rfl
  | false =>
   cases h3:(s == xm) with
   | true=>simp only [if_true,Bool.false_eq_true,if_false];rfl
   | false =>
    simp only [Bool.false_eq_true,if_false]
    cases h4:(s == Jk) with
    | true =>
     have VV:s=[105,102]:=by simpa [Jk] using h4
     subst VV
     rw [if_pos (by rfl)]
     apply IE
     rfl
    | false =>
     rw [if_neg (by rw [show ([105,102]:List UInt8)=Jk from rfl,h4];decide)]
     cases h5:(s == iY) with
     | true =>
      have Xt:s=[114,97,110,103,101]:=by simpa [iY] using h5
      subst Xt
      rw [if_pos (by rfl)]
      apply IE
      rfl
     | false =>
      rw [if_neg (by rw [show ([114,97,110,103,101]:List UInt8)=iY from rfl,h5];decide)]
      rw [Qc s hs ht]
      simp only [Bool.or_false,Bool.false_eq_true,if_false]
def BQ:Code:=(Tryz.f37.body).getD .skip
def tM (run:RunT) (a:List UInt8) (b:List AV) (d:Int):Option AV :=
 run ((bP 3 BQ []).getD []) (St.bX [(0,.cell (.val (.s a))),(4,.cell (.own 300004 91 5 b)),(5,.cell (.val (.int d)))] [])
def DB (run:RunT) (a:List UInt8) (b:List AV) (d e:Int):Option AV :=
 run ((bP 5 BQ []).getD []) (St.bX [(0,.cell (.val (.s a))),(4,.cell (.own 300004 91 5 b)),(5,.cell (.val (.int d))),(6,.cell (.val (.int e)))] [])
def tN (run:RunT) (a:List UInt8) (b:List AV) (d e:Int):Option AV :=
 run ((bP 11 BQ []).getD []) (St.bX [(0,.cell (.val (.s a))),(4,.cell (.own 300004 91 5 b)),(5,.cell (.val (.int d))),(6,.cell (.val (.int e)))] [])
def X37 (a:List UInt8) (c:aq) (r:RunT):Option AV :=
 tM r a [] 0
theorem c37 a {r:AV} (h:X37 a (ae (C mx) Tryz.prog) (af (C mx) Tryz.prog 37 Tryz.f37)=some r):ae (C mx) Tryz.prog 37 [.s a]=some r :=
 aj (fun _ _=>by kernel_rfl) h
def DC (a:List UInt8) (b:List AV) (d:Int) (c:aq) (r:RunT):Option AV :=
 ah (.b (decide (d < ((a.length:Int)))))
 (DB r a b d d)
 (some (.tu [.ro 5 b,.int ((-1))]))
def DD (a:List UInt8) (b:List AV) (d e:Int) (c:aq) (r:RunT):Option AV :=
 (az (.b (decide (e < ((a.length:Int))))) true ((c 52 [.s a,.int e,.s [123,123]]).bind fun f=>(unop .not f).bind fun g=>some g) (.b false)).bind fun i=>ah i
 (DB r a b d (bN (e+1)))
 (ah (.b (decide (e > d)))
 ((iv (.s a) (some (.int d)) (some (.int e))).bind fun j=>(AV.one j).bind fun k=>(app 64 5 b (.ro 5 (([.ag [.u8 0,.int d,k,.b false,.aG]]:List AV)))).bind fun l=>tM r a l e)
 (tN r a b d (bN (d+2))))
def xO (a:List UInt8) (b:List AV) (d e:Int) (c:aq) (r:RunT):Option AV :=
 (az (.b (decide (e < ((a.length:Int))))) true ((c 52 [.s a,.int e,.s [125,125]]).bind fun f=>(unop .not f).bind fun g=>some g) (.b false)).bind fun i=>ah i
 (tN r a b d (bN (e+1)))
 (ah (.b (decide (e ≥ ((a.length:Int)))))
 (some (.tu [.ro 5 b,.int d]))
 ((iv (.s a) (some (.int (bN (d+2)))) (some (.int e))).bind fun j=>(c 53 [j]).bind fun k=>(aV k 0).bind fun l=>(aV k 1).bind fun m=>(AV.aI 5 l).bind fun n=>(unop .not m).bind fun o=>ah o
 (some (.tu [.ro 5 b,.int d]))
 ((app 64 5 b (.ro 5 (([.ag [gt n 0,.int d,gt n 2,gt n 3,gt n 4]]:List AV)))).bind fun p=>tM r a p (bN (e+2)))))
theorem II (a b d) {r:AV} (h:DC a b d (ae (C mx) Tryz.prog) (af (C mx) Tryz.prog 37 Tryz.f37)=some r):tM (af (C mx) Tryz.prog 37 Tryz.f37) a b d=some r :=
 ak (fun _ _=>by kernel_rfl) h
theorem Np (a b d e) {r:AV} (h:DD a b d e (ae (C mx) Tryz.prog) (af (C mx) Tryz.prog 37 Tryz.f37)=some r):DB (af (C mx) Tryz.prog 37 Tryz.f37) a b d e=some r :=
 ak (fun _ _=>by kernel_rfl) h
theorem IJ (a b d e) {r:AV} (h:xO a b d e (ae (C mx) Tryz.prog) (af (C mx) Tryz.prog 37 Tryz.f37)=some r):tN (af (C mx) Tryz.prog 37 Tryz.f37) a b d e=some r :=
 ak (fun _ _=>by kernel_rfl) h
theorem rB (p r sub:List UInt8) (k:Nat):Lib.occAt (p ++ r) sub (p.length+k)=Lib.occAt r sub k:=by
 unfold Lib.occAt
 rw [← List.drop_drop,List.drop_left]
theorem Nq (w:Wd) (acc:List Wd) (h:acc.length≤1000000000):app 64 5 (acc.map Wd.av) (.ro 5 ([w.av]:List AV))=some ((acc ++ [w]).map Wd.av):=by
 have hb:big=70368744177664:=rfl
 show ((if 5=5 then some [w.av] else none).bind fun q=>if ((acc.map Wd.av).length+q.length) * 64≤big then some (acc.map Wd.av ++ q) else none)=_
 rw [if_pos rfl]
 simp only [Option.bind_some,List.length_map,List.length_cons,List.length_nil,hb]
 rw [if_pos (by omega),List.map_append];rfl
theorem L9 (r:List UInt8) (k:Nat) (h:k < bU r):Lib.occAt r rj k=false:=by
 unfold bU at h
 rcases Lib.index_spec r rj with ⟨h1,h2⟩ | ⟨i,h1,h2,h3,h4⟩
 ·rw [if_pos (by omega)] at h
  exact h2 k (by omega)
 ·rw [if_neg (by omega),h1] at h
  exact h4 k h
theorem IK (r:List UInt8):bU r=r.length∨(bU r < r.length∧Lib.occAt r rj (bU r)=true):=by
 unfold bU
 rcases Lib.index_spec r rj with ⟨h1,h2⟩ | ⟨i,h1,h2,h3,h4⟩
 ·rw [if_pos (by omega)];exact Or.inl rfl
 ·rw [if_neg (by omega),h1]
  have:=Lib.index_room r rj (by omega)
  have e:(rj.length:Int)=2:=rfl
  exact Or.inr ⟨by omega,h3⟩
theorem Nr (p r:List UInt8) (hl:(p ++ r).length≤1000000000) (acc:List AV) (R:Option AV)
  (hR:(ah (.b (decide (((p.length+bU r:Nat):Int) > (p.length:Int))))
 ((iv (.s (p ++ r)) (some (.int (p.length:Int))) (some (.int ((p.length+bU r:Nat):Int)))).bind fun v4=>(AV.one v4).bind fun v5=>(app 64 5 acc (.ro 5 (([.ag [.u8 0,.int (p.length:Int),v5,.b false,.aG]]:List AV)))).bind fun v6=>tM (af (C mx) Tryz.prog 37 Tryz.f37) (p ++ r) v6 ((p.length+bU r:Nat):Int))
 (tN (af (C mx) Tryz.prog 37 Tryz.f37) (p ++ r) acc (p.length:Int) (bN ((p.length:Int)+2))))=R) (hs:∃ x,R=some x):∀ (d k:Nat),k+d=bU r →
  DB (af (C mx) Tryz.prog 37 Tryz.f37) (p ++ r) acc (p.length:Int) ((p.length+k:Nat):Int)=R
 | 0,k,e=>by
  obtain rfl:k=bU r:=by omega
  obtain ⟨x,rfl⟩:=hs
  apply Np
  have hle:=lD r
  have hpl:p.length+r.length≤1000000000:=by simpa using hl
  have yi:=UO (mx:=mx) (p ++ r) [123,123] (p.length+bU r) hl (by simp;omega) (by decide)
  rw [rB] at yi
  rcases IK r with h | ⟨h,ho⟩
  ·have hd:decide (((p.length+bU r:Nat):Int) < ((p ++ r).length:Int))=false:=by rw [decide_eq_false_iff_not,List.length_append];omega
   simp only [DD,hd,yi,Option.bind_some,bq,aA,Bool.false_and,ai,Bool.false_eq_true,if_false]
   simpa only [ai] using hR
  ·have hd:decide (((p.length+bU r:Nat):Int) < ((p ++ r).length:Int))=true:=by rw [decide_eq_true_eq,List.length_append];omega
   have Jf:Lib.occAt r [123,123] (bU r)=true:=ho
   rw [Jf] at yi
   simp only [DD,hd,yi,Option.bind_some,bq,aA,Bool.not_true,Bool.and_false,ai,Bool.false_eq_true,if_false]
   simpa only [ai] using hR
 | d+1,k,e=>by
  have ih:=Nr p r hl acc R hR hs d (k+1) (by omega)
  obtain ⟨x,rfl⟩:=hs
  apply Np
  have hle:=lD r
  have hpl:p.length+r.length≤1000000000:=by simpa using hl
  have yi:=UO (mx:=mx) (p ++ r) [123,123] (p.length+k) hl (by simp;omega) (by decide)
  rw [rB,show Lib.occAt r [123,123] k=false from L9 r k (by omega)] at yi
  have hd:decide (((p.length+k:Nat):Int) < ((p ++ r).length:Int))=true:=by rw [decide_eq_true_eq,List.length_append];omega
  have hw:bN (((p.length+k:Nat):Int)+1)=((p.length+(k+1):Nat):Int):=by rw [cJ (by omega) (by omega)];omega
  simp only [DD,hd,yi,hw,Option.bind_some,bq,aA,Bool.not_false,Bool.and_true,ai,if_true]
  exact ih
def im (r:List UInt8):Nat:=if Lib.index r nW < 0 then r.length else (Lib.index r nW).toNat
theorem Ma (r:List UInt8) (k:Nat) (h:k < im r):Lib.occAt r nW k=false:=by
 unfold im at h
 rcases Lib.index_spec r nW with ⟨h1,h2⟩ | ⟨i,h1,h2,h3,h4⟩
 ·rw [if_pos (by omega)] at h
  exact h2 k (by omega)
 ·rw [if_neg (by omega),h1] at h
  exact h4 k h
theorem k8 (r:List UInt8):(Lib.index r nW < 0∧im r=r.length)∨(Lib.index r nW=(im r:Int)∧im r+2≤r.length∧Lib.occAt r nW (im r)=true):=by
 unfold im
 rcases Lib.index_spec r nW with ⟨h1,h2⟩ | ⟨i,h1,h2,h3,h4⟩
 ·rw [if_pos (by omega)];exact Or.inl ⟨by omega,rfl⟩
 ·rw [if_neg (by omega),h1]
  have:=Lib.index_room r nW (by omega)
  have e:(nW.length:Int)=2:=rfl
  exact Or.inr ⟨rfl,by omega,h3⟩
theorem IL (p r:List UInt8) (hl:(p ++ r).length≤1000000000) (acc:List AV) (R:Option AV)
  (hR:(ah (.b (decide (((p.length+im r:Nat):Int) ≥ ((p ++ r).length:Int))))
 (some (.tu [.ro 5 acc,.int (p.length:Int)]))
 ((iv (.s (p ++ r)) (some (.int (bN ((p.length:Int)+2)))) (some (.int ((p.length+im r:Nat):Int)))).bind fun v4=>(ae (C mx) Tryz.prog 53 [v4]).bind fun v5=>(aV v5 0).bind fun v6=>(aV v5 1).bind fun v7=>(AV.aI 5 v6).bind fun v8=>(unop .not v7).bind fun v9=>ah v9
 (some (.tu [.ro 5 acc,.int (p.length:Int)]))
 ((app 64 5 acc (.ro 5 (([.ag [v8.getD 0 .un,.int (p.length:Int),v8.getD 2 .un,v8.getD 3 .un,v8.getD 4 .un]]:List AV)))).bind fun v10=>tM (af (C mx) Tryz.prog 37 Tryz.f37) (p ++ r) v10 (bN (((p.length+im r:Nat):Int)+2)))))=R) (hs:∃ x,R=some x):∀ (d k:Nat),k+d=im r →
  tN (af (C mx) Tryz.prog 37 Tryz.f37) (p ++ r) acc (p.length:Int) ((p.length+k:Nat):Int)=R
 | 0,k,e=>by
  obtain rfl:k=im r:=by omega
  obtain ⟨x,rfl⟩:=hs
  apply IJ
  have hle:im r≤r.length:=by rcases k8 r with h | h <;> omega
  have hpl:p.length+r.length≤1000000000:=by simpa using hl
  have yi:=UO (mx:=mx) (p ++ r) [125,125] (p.length+im r) hl (by simp;omega) (by decide)
  rw [rB] at yi
  rcases k8 r with ⟨_,h⟩ | ⟨_,h,ho⟩
  ·have hd:decide (((p.length+im r:Nat):Int) < ((p ++ r).length:Int))=false:=by rw [decide_eq_false_iff_not,List.length_append];omega
   simp only [xO,hd,yi,Option.bind_some,bq,aA,Bool.false_and,ai,Bool.false_eq_true,if_false]
   simpa only [ai] using hR
  ·have hd:decide (((p.length+im r:Nat):Int) < ((p ++ r).length:Int))=true:=by rw [decide_eq_true_eq,List.length_append];omega
   have Jf:Lib.occAt r [125,125] (im r)=true:=ho
   rw [Jf] at yi
   simp only [xO,hd,yi,Option.bind_some,bq,aA,Bool.not_true,Bool.and_false,ai,Bool.false_eq_true,if_false]
   simpa only [ai] using hR
 | d+1,k,e=>by
  have ih:=IL p r hl acc R hR hs d (k+1) (by omega)
  obtain ⟨x,rfl⟩:=hs
  apply IJ
  have hle:im r≤r.length:=by rcases k8 r with h | h <;> omega
  have hpl:p.length+r.length≤1000000000:=by simpa using hl
  have yi:=UO (mx:=mx) (p ++ r) [125,125] (p.length+k) hl (by simp;omega) (by decide)
  rw [rB,show Lib.occAt r [125,125] k=false from Ma r k (by omega)] at yi
  have hd:decide (((p.length+k:Nat):Int) < ((p ++ r).length:Int))=true:=by rw [decide_eq_true_eq,List.length_append];omega
  have hw:bN (((p.length+k:Nat):Int)+1)=((p.length+(k+1):Nat):Int):=by rw [cJ (by omega) (by omega)];omega
  simp only [xO,hd,yi,hw,Option.bind_some,bq,aA,Bool.not_false,Bool.and_true,ai,if_true]
  exact ih
def IM (q:List Wd×Int):AV:=.tu [.ro 5 (q.1.map Wd.av),.int q.2]
theorem l24:∀ (n:Nat) (r p:List UInt8) (acc:List Wd),r.length≤n→(p ++ r).length≤1000000000→acc.length≤p.length →
  tM (af (C mx) Tryz.prog 37 Tryz.f37) (p ++ r) (acc.map Wd.av) (p.length:Int)=some (IM (dF (n+1) r p.length acc)):=by
 intro n
 induction n with
 | zero =>
  intro r p acc hr hp ha
  obtain rfl:=List.eq_nil_of_length_eq_zero (Nat.le_zero.1 hr)
  apply II
  have:decide ((p.length:Int) < ((p ++ []).length:Int))=false:=by simp
  simp only [DC,this,ai,Bool.false_eq_true,if_false]
  rfl
 | succ n ih =>
  intro r p acc hr hp ha
  cases r with
  | nil =>
   apply II
   have:decide ((p.length:Int) < ((p ++ []).length:Int))=false:=by simp
   simp only [DC,this,ai,Bool.false_eq_true,if_false]
   rfl
  | cons x r' =>
   obtain ⟨r,Bj⟩:∃ r,r=x :: r':=⟨_,rfl⟩
   rw [← Bj] at hr hp ⊢
   have hne:r.isEmpty=false:=by rw [Bj];rfl
   have D7:0 < r.length:=by rw [Bj];simp
   have hpl:p.length+r.length≤1000000000:=by simpa using hp
   have Xl:=lD r
   apply II
   have hlt:decide ((p.length:Int) < ((p ++ r).length:Int))=true:=by rw [decide_eq_true_eq];simp;omega
   simp only [DC,hlt,ai,if_true]
   rw [dF,if_neg (by rw [hne];decide)]
   refine Nr p r hp (acc.map Wd.av) _ ?_ ⟨_,rfl⟩ (bU r) 0 (by omega)
   by_cases hi:0 < bU r
   ·have uB:decide (((p.length+bU r:Nat):Int) > (p.length:Int))=true:=by rw [decide_eq_true_eq];omega
    have hc:=Nq (zE p.length (r.take (bU r))) acc (by omega)
    have hw:(zE p.length (r.take (bU r))).av=.ag [.u8 0,.int (p.length:Int),.s (r.take (bU r)),.b false,.aG]:=rfl
    rw [hw] at hc
    have:=ih (r.drop (bU r)) (p ++ r.take (bU r)) (acc ++ [zE p.length (r.take (bU r))]) (by rw [List.length_drop];omega) (by rw [List.append_assoc,List.take_append_drop];exact hp) (by simp;omega)
    have hlen:(p ++ r.take (bU r)).length=p.length+bU r:=by simp;omega
    rw [List.append_assoc,List.take_append_drop,hlen] at this
    simp only [uB,Bh p r _ Xl,jW,hc,Option.bind_some,ai,if_true]
    rw [if_pos hi]
    exact this
   ·have uB:decide (((p.length+bU r:Nat):Int) > (p.length:Int))=false:=by rw [decide_eq_false_iff_not];omega
    rw [if_neg hi]
    simp only [uB,ai,Bool.false_eq_true,if_false]
    have hr2:2≤r.length:=by
     have:=congrArg List.length (Iw r (by omega) D7)
     rw [List.length_take] at this
     have e:rj.length=2:=rfl
     omega
    have hw2:bN ((p.length:Int)+2)=((p.length+2:Nat):Int):=by rw [cJ (by omega) (by omega)];omega
    rw [hw2]
    have hC2:2≤im r:=by
     rcases k8 r with ⟨_,h⟩ | ⟨h,_⟩
     ·omega
     ·exact Di r (by omega) D7 _ h
    refine IL p r hp (acc.map Wd.av) _ ?_ ⟨_,rfl⟩ (im r - 2) 2 (by omega)
    rcases k8 r with ⟨h,h'⟩ | ⟨h,h',_⟩
    ·have cK:decide (((p.length+im r:Nat):Int) ≥ ((p ++ r).length:Int))=true:=by rw [decide_eq_true_eq,List.length_append];omega
     rw [if_pos h]
     simp only [cK,ai,if_true]
     rfl
    ·have cK:decide (((p.length+im r:Nat):Int) ≥ ((p ++ r).length:Int))=false:=by rw [decide_eq_false_iff_not,List.length_append];omega
     rw [if_neg (by omega),h,Int.toNat_natCast]
     generalize im r=j at *
     have a4:bN (((p.length+j:Nat):Int)+2)=((p.length+(j+2):Nat):Int):=by rw [cJ (by omega) (by omega)];omega
     have EB:=H5 p r j hC2 (by omega)
     have H6:=s53 (mx:=mx) ((r.take j).drop 2) (by simp;omega)
     have hw:(dR ((r.take j).drop 2)).av=.tu [.ag [.u8 (dR ((r.take j).drop 2)).kind,.int 0,.s [],.b (dR ((r.take j).drop 2)).root,(dR ((r.take j).drop 2)).names],.b (dR ((r.take j).drop 2)).ok]:=rfl
     rw [hw] at H6
     have hc:=Nq (qd p.length (dR ((r.take j).drop 2))) acc (by omega)
     have hw2:(qd p.length (dR ((r.take j).drop 2))).av=.ag [.u8 (dR ((r.take j).drop 2)).kind,.int (p.length:Int),.s [],.b (dR ((r.take j).drop 2)).root,(dR ((r.take j).drop 2)).names]:=rfl
     rw [hw2] at hc
     have Tb:=ih (r.drop (j+2)) (p ++ r.take (j+2)) (acc ++ [qd p.length (dR ((r.take j).drop 2))]) (by rw [List.length_drop];omega) (by rw [List.append_assoc,List.take_append_drop];exact hp) (by simp;omega)
     have hlen:(p ++ r.take (j+2)).length=p.length+(j+2):=by simp;omega
     rw [List.append_assoc,List.take_append_drop,hlen] at Tb
     generalize dR ((r.take j).drop 2)=A at *
     simp only [cK,a4,‹bN ((p.length:Int)+2)=((p.length+2:Nat):Int)›,EB,H6,kO,kP,M6,bq,Option.bind_some,ai,List.getD_cons_zero,List.getD_cons_succ,hc,Bool.false_eq_true,if_false]
     cases hA:A.ok with
     | false=>rfl
     | true =>
      simp only [Bool.not_true,Bool.false_eq_true,if_false,if_true]
      exact Tb
theorem s37 (l:List UInt8) (h:l.length≤1000000000):ae (C mx) Tryz.prog 37 [.s l]=some (IM (bn l)):=by
 apply c37
 have:=l24 (mx:=mx) l.length l [] [] (Nat.le_refl _) (by simpa using h) (by simp)
 exact this
end R3
namespace R3
open Go Go.Proofs Go.RowKit Go.Shelf Sx
variable {mx:Int}
end R3
namespace R3
open Go Go.Proofs Go.RowKit Go.Shelf Sx
variable {mx:Int}
theorem BR {w:World} {F:Nat→Prop} {ws:List Wd} {aw:Option Addr} {cw i:Nat} (hw:Rel w F (.ro 5 (ws.map Wd.av)) (.slice aw ws.length cw)) (hi:i < ws.length) (hn:cZ ws[i].names) :
  ∃ (r off:Nat) (q:ByteArray) (a4:Option Addr) (m4 c4:Nat),aw=some ⟨r,off,none⟩∧(w.cell? ⟨r,off+i * 5,none⟩=some (.int .u8 (ws[i].kind.toNat:Int))∧w.cell? ⟨r,off+i * 5+1,none⟩=some (.int .i64 (ws[i].at':Int))∧w.cell? ⟨r,off+i * 5+2,none⟩=some (.string q) ∧
   w.cell? ⟨r,off+i * 5+3,none⟩=some (.bool ws[i].root)∧w.cell? ⟨r,off+i * 5+4,none⟩=some (.slice a4 m4 c4))∧q.data.toList=ws[i].text∧Rel w F ws[i].names (.slice a4 m4 c4):=by
 have key:∀ (l:List AV) (v:Value),Rel w F (.ro 5 l) v→i < l.length→∃ (r off c:Nat) (x:Nat→Value),v=.slice (some ⟨r,off,none⟩) l.length c∧∀ j,j < 5→w.cell? ⟨r,off+i * 5+j,none⟩=some (x j)∧Rel w F ((l.getD i .un).cell j) (x j):=by
  intro l v h hi
  cases h with
  | ub=>simp at hi
  | ro _ _ r off c xs hk hc hF hl Na h1 hr =>
   refine ⟨r,off,c,fun j=>xs.getD (i * 5+j) undef,rfl,fun j hj=>?_⟩
   have hj':i * 5+j < xs.length:=by omega
   have h2:xs[i * 5+j]?=some xs[i * 5+j]:=List.getElem?_eq_getElem hj'
   show w.cell? _=some (xs.getD (i * 5+j) undef)∧Rel w F _ (xs.getD (i * 5+j) undef)
   rw [List.getD_eq_getElem?_getD (l:=xs),h2,Option.getD_some]
   refine ⟨?_,hr i j _ hi hj h2⟩
   rw [← Na _ _ h2,Nat.add_assoc]
 obtain ⟨r,off,c,x,e,h⟩:=key _ _ hw (by simpa using hi)
 rw [List.length_map] at e
 cases e
 have ew:((ws.map Wd.av).getD i .un)=ws[i].av:=by rw [List.getD_eq_getElem?_getD,List.getElem?_map,List.getElem?_eq_getElem hi];rfl
 rw [ew] at h
 obtain ⟨y0,e0⟩:=h 0 (by decide)
 obtain ⟨y1,e1⟩:=h 1 (by decide)
 obtain ⟨y2,e2⟩:=h 2 (by decide)
 obtain ⟨y3,e3⟩:=h 3 (by decide)
 obtain ⟨y4,e4⟩:=h 4 (by decide)
 replace e0:Rel w F (.u8 ws[i].kind) (x 0):=e0
 replace e1:Rel w F (.int (ws[i].at':Int)) (x 1):=e1
 replace e2:Rel w F (.s ws[i].text) (x 2):=e2
 replace e3:Rel w F (.b ws[i].root) (x 3):=e3
 replace e4:Rel w F ws[i].names (x 4):=e4
 have s4:∃ (a:Option Addr) (m c:Nat),x 4=.slice a m c:=by
  rcases hn with e | ⟨y,l,e,_⟩
  ·rw [e] at e4;generalize x 4=v at e4;cases e4;exact ⟨_,_,_,rfl⟩
  ·rw [e] at e4;obtain ⟨ad,c,h,_⟩:=bw e4;exact ⟨_,_,_,h⟩
 obtain ⟨a4,m4,c4,h4⟩:=s4
 have g0:x 0=.int .u8 (ws[i].kind.toNat:Int):=by generalize x 0=v at e0;cases e0;rfl
 have g1:x 1=.int .i64 (ws[i].at':Int):=by generalize x 1=v at e1;cases e1;rfl
 have g2:∃ q:ByteArray,x 2=.string q∧q.data.toList=ws[i].text:=by
  generalize x 2=v at e2
  generalize ws[i].text=tt at e2
  cases e2;exact ⟨_,rfl,rfl⟩
 have g3:x 3=.bool ws[i].root:=by generalize x 3=v at e3;cases e3;rfl
 obtain ⟨q,g2,hq⟩:=g2
 rw [g0] at y0;rw [g1] at y1;rw [g2] at y2;rw [g3] at y3;rw [h4] at y4 e4
 exact ⟨r,off,q,a4,m4,c4,rfl,⟨y0,y1,y2,y3,y4⟩,hq,e4⟩
theorem tO:(Tryz.prog.info? 58).map (fun i=>(i.zero,i.size,i.bytes))=some (some (.agg #[.int .u8 0,.int .i64 0,.string ⟨#[]⟩,.bool false,.slice none 0 0,.slice none 0 0,.slice none 0 0,.bool false,.int .u8 0]),9,120):=by kernel_rfl
theorem DF:(Tryz.prog.info? 93).map (fun i=>(i.zero,i.size,i.bytes))=some (some (.agg #[.int .i64 0,.int .i64 0,.bool false]),3,24):=by kernel_rfl
theorem na (W:World) (l:List Value) (t:TypeId):∀ j u,l[j]?=some u→(W.alloc (.cells l.toArray t)).cell? ((⟨W.heap.size,0,none⟩:Addr).add j)=some u:=fun j u hu=>World.news_of_block (cs:=l.toArray) (World.alloc_heap_new W _) j u (by simpa using hu)
theorem DG (s:Ms) (n:List Nat):s.add n=⟨(s.add n).nodes,(s.add n).top,s.stack⟩:=by rw [← jr s n]
theorem PM.cap {w W:World} {F:Nat→Prop} {b7:Nat} {s:Ms} {X:List Vn} {tag:Nat→Tg} {vn vt:Value} {ad:Option Addr} {n c:Nat} (h:PM w F b7 s X tag vn vt (.slice ad n c) W):s.stack.length≤c:=by
 rcases h.sk.1.2 with ⟨e,h0⟩ | ⟨g,cap,cur,e,h1,h2,h3,_⟩
 ·omega
 ·cases e;exact h3
theorem tP (s:ByteArray) (hs:s.size≤1000000000) (W:World) (hm:W.cell? ⟨1,0,none⟩=some (.int .i64 mx)):Calls Tryz.prog 37 #[.string s] W fun e W' =>
  ∃ (ad:Option Addr) (c:Nat),e=.returned (.tuple #[.slice ad (bn s.data.toList).1.length c,.int .i64 (bn s.data.toList).2])∧Ext W W' ∧
   Rel W' (fun b=>b < W.heap.size→b=1) (.ro 5 ((bn s.data.toList).1.map Wd.av)) (.slice ad (bn s.data.toList).1.length c):=by
 refine Calls.mono (gJ (fit mx) (c:=Tryz.f37.body.getD .skip) Tryz.func37 (by kernel_rfl) (s37 (mx:=mx) s.data.toList hs) (by kernel_rfl) W (fun b=>b=1) #[.string s] (Dp hm) rfl (LG (.s s))) fun e w' he=>?_
 obtain ⟨v,rfl,hx,hr⟩:=he
 generalize bn s.data.toList=ww at hr ⊢
 unfold eV at hr
 rw [if_pos (by kernel_rfl)] at hr
 unfold IM at hr
 cases hr with
 | tu _ vs hl hj =>
  match vs,hl,hj with
  | [v0,v1],_,hj =>
   have h0:=hj 0 v0 rfl
   have h1:=hj 1 v1 rfl
   simp only [List.getD_cons_zero,List.getD_cons_succ] at h0 h1
   cases h1
   obtain ⟨ad,c,rfl,hc⟩:=bw h0
   rw [List.length_map] at hc h0 ⊢
   exact ⟨ad,c,rfl,hx,h0⟩
theorem E4 (s:ByteArray) (w:World) (hm:w.cell? ⟨1,0,none⟩=some (.int .i64 mx)) (hs:s.data.toList.length≤65536) (hb:¬ 0≤(bn s.data.toList).2) {ws:List Wd} (kj:(bn s.data.toList).1=ws) (hl:ws.length≤100000) (oq:∀ x ∈ ws,cZ x.names) (jf:∀ x ∈ ws,x.kind.toNat≤6) :
  CallsIn Fence.wide 7 Tryz.prog 21 #[.string s] w (rA w (fun b=>b=1) (iO ws)):=by
 have hx1:Ext w (w.alloc (.cells #[.slice none 0 0,.slice none 0 0] 26)):=Ext.push w _
 have hsz:s.size=s.data.toList.length:=rfl
 have kS:=tP (mx:=mx) s (by omega) (w.alloc (.cells #[.slice none 0 0,.slice none 0 0] 26)) (aD hx1 hm)
 rw [kj] at kS
 generalize (bn s.data.toList).2=bad at kS hb
 have xx:=aU hm
 have hs1:((s.size:Nat):Int)≤65536:=by omega
 clear hsz hs kj
 refine callsIn_of_wp Tryz.func21 rfl trivial ?_ rfl
 simp only [Tryz.ntmps21,Nat.reduceAdd,Nat.reduceSub,zC]
 gi_wp2_with (refine ⟨trivial,?_⟩;gi_at_call 37;refine (callsIn_wide.2 kS).mono ?_;clear kS;rintro e w2 ⟨ad,c,rfl,hx2,hwr⟩)
 have zH:=(hx2.block w.heap.size (by simp)).trans (World.alloc_heap_new w (.cells #[.slice none 0 0,.slice none 0 0] 26))
 generalize hF:(fun b=>b < (w.alloc (.cells #[.slice none 0 0,.slice none 0 0] 26)).heap.size→b=1)=F at hwr
 have DI:PM w2 F w2.heap.size ⟨[],[],[]⟩ [] (fun _=>.top) (.slice none 0 0) (.slice none 0 0) (.slice none 0 0) (w2.alloc (.cells #[.slice none 0 0,.slice none 0 0] 26)) :=
  ⟨Ext.push w2 _,Nat.le_refl _,World.alloc_heap_new w2 _,Row.nil _ _ _ _ _ _,Row.nil _ _ _ _ _ _,Row.nil _ _ _ _ _ _,rfl,fun i x y h=>by simp at h,fun i x y h=>by simp at h⟩
 gi_loopw [8,9] (fun v8 v9 wr=>∃ (i:Nat) (s':Ms) (X:List Vn) (tag:Nat→Tg) (vn vt:Value),v9=.int .i64 (i:Int)∧i≤ws.length∧eE (ws.drop i) s'=iO ws∧s'.wf∧s'.sz i∧PM w2 F w2.heap.size s' X tag vn vt v8 wr) (fun v8 v9 wr=>ws.length - (match v9 with | .int _ a=>a.toNat | _=>0))
 case atStart=>exact ⟨0,_,_,_,_,_,rfl,Nat.zero_le _,rfl,UH,⟨Nat.le_refl _,Nat.le_refl _,fun y hy=>(by simp at hy),Nat.zero_le _⟩,DI⟩
 case round =>
  obtain ⟨i,s',X,tag,vn,vt,rfl,hi,hrun,xZ,hsz,dL⟩:=hrel
  by_cases hlt:i < ws.length
  ·obtain ⟨r,off,q,a4,m4,c4,rfl,⟨y0,y1,y2,y3,y4⟩,hq,E5⟩:=BR (i:=i) hwr hlt (oq _ (List.getElem_mem hlt))
   replace y0:=aD dL.ext y0
   replace y1:=aD dL.ext y1
   replace y2:=aD dL.ext y2
   replace y3:=aD dL.ext y3
   replace y4:=aD dL.ext y4
   have Ns:=jf _ (List.getElem_mem hlt)
   have Nt:=oq _ (List.getElem_mem hlt)
   rw [List.drop_eq_getElem_cons hlt,eE] at hrun
   generalize ws[i]=wd at *
   obtain ⟨PS,cs,rfl⟩:=fk dL.sk.1
   have Qd:=hsz.stack
   have dV:=dL.ext
   clear DI oq jf hm xx hs1
   obtain ⟨N,T,S⟩:=s'
   have iA:wr.heap[w.heap.size]?=some (.cells #[.slice none 0 0,.slice none 0 0] 26):=(dL.ext.block _ (Array.getElem?_eq_some_iff.1 zH).1).trans zH
   simp only at Qd
   by_cases TU:wd.kind=5
   ·rw [TU] at y0
    rcases List.eq_nil_or_concat S with rfl | ⟨S,o,rfl⟩
    ·have oh:iO ws=.bad wd.at' 4:=by rw [← hrun];unfold cg;rw [if_neg (by simp [TU]),if_pos (by simp [TU])];rfl
     clear hrun
     simp only [List.length_nil] at *
     gi_wp2
     rw [wpIn_wide]
     have eu:Ext wr (wr.alloc (.cells #[.int .u8 5,.int .i64 (wd.at':Int),.string q,.bool wd.root,.slice a4 m4 c4] 91)):=Ext.push wr _
     have dT:=World.alloc_heap_new wr (.cells #[.int .u8 5,.int .i64 (wd.at':Int),.string q,.bool wd.root,.slice a4 m4 c4] 91)
     generalize wr.alloc (.cells #[.int .u8 5,.int .i64 (wd.at':Int),.string q,.bool wd.root,.slice a4 m4 c4] 91)=W5 at eu dT ⊢
     have p1:W5.cell? ⟨wr.heap.size,1,none⟩=some (.int .i64 (wd.at':Int)):=by simp [World.cell?,dT]
     clear dT
     have uu:=(eu.block _ (Array.getElem?_eq_some_iff.1 iA).1).trans iA
     obtain ⟨v1,v2,v3,v4⟩:=aP uu
     have hne:wr.heap.size≠w.heap.size:=by have:=(Array.getElem?_eq_some_iff.1 iA).1;omega
     clear y0 y1 y2 y3 y4 Ns E5 Nt dL
     refine aZ (by kernel_rfl) [] (fun u v=>v.cell? ⟨wr.heap.size,1,none⟩=u.cell? ⟨wr.heap.size,1,none⟩) [(0,true),(1,true),(2,true),(3,false),(4,true),(5,true)]
      (by kernel_rfl) (by kernel_rfl) (by kernel_rfl) (fun _=>rfl) (fun _ _ _ h1 h2=>h2.trans h1) ?_
     iterate 3 (
      refine' aW ?_ ?_ ?_ ?_;rotate_left 2
      ·(simp only [zA];rfl)
      ·rfl
      ·(intro w' hE;have q1:=hE.trans p1;go_simp;try rfl)
      try simp only [Act.put,zB])
     refine' bL ?_ ?_;rotate_left 1
     ·(simp only [zA];rfl)
     intro K hK
     go_simp
     refine hK.out _ _ (World.cell?_of_block ((au hne).trans (au hne))) ?_
     clear hK K
     try simp only [Act.put,zB]
     iterate 2 (
      refine' aW ?_ ?_ ?_ ?_;rotate_left 2
      ·(simp only [zA];rfl)
      ·rfl
      ·(intro w' hE;go_simp;try rfl)
      try simp only [Act.put,zB])
     refine cH ?_
     gi_wp2
     refine bodyPost_ret (results36 _ _ w.heap.size (.slice none 0 0) (.slice none 0 0) (.int .i64 (wd.at':Int)) (.int .i64 4) rfl rfl rfl (bE _ _ uu)) rfl ?_
     exact ⟨cF (dS (hx1.trans (hx2.trans (dV.trans eu)))) _ _,(by rw [oh];first | done | rfl)⟩
    ·rw [List.concat_eq_append] at *
     have hst:cg ⟨N,T,S ++ [o]⟩ wd=.inl ⟨N,T,S⟩:=step_end TU rfl
     have pw:=jR xZ hst
     have hsz':=jS hsz hst
     rw [hst] at hrun
     simp only at hrun
     obtain ⟨gs,cap,oG,-,-⟩:=dL.last
     simp only [Value.slice.injEq] at oG
     obtain ⟨rfl,-,rfl⟩:=oG
     have el:(S ++ [o]).length=S.length+1:=by simp
     have IP:PM w2 F w2.heap.size ⟨N,T,S ++ [o]⟩ X tag vn vt (.slice (some ⟨gs,0,none⟩) (S.length+1) cs) wr:=by rw [← el];exact dL
     have XR:=(IP.ext' (Ext.push wr (.cells #[.int .u8 5,.int .i64 (wd.at':Int),.string q,.bool wd.root,.slice a4 m4 c4] 91))).pop
     have Fz:S.length+1≤cs:=by rw [← el];exact dL.cap
     clear dL IP el E5 Ns Nt hst xZ hsz dV
     simp only [List.length_append,List.length_cons,List.length_nil] at Qd ⊢
     generalize hd:S.length=d at *
     gi_wp2
     exact ⟨⟨i+1,_,_,_,_,_,congrArg (Value.int .i64) (by omega),hlt,hrun,pw,hsz',XR⟩,by show _ - Int.toNat _ < _ - Int.toNat _;omega⟩
   ·by_cases hk3:wd.kind=3
    ·rw [hk3] at y0
     rcases List.eq_nil_or_concat S with rfl | ⟨S,o,rfl⟩
     ·have oh:iO ws=.bad wd.at' 4:=by rw [← hrun];unfold cg;rw [if_pos (by simp [hk3])];rfl
      clear hrun
      simp only [List.length_nil] at *
      gi_wp2
      rw [wpIn_wide]
      have eu:Ext wr (wr.alloc (.cells #[.int .u8 3,.int .i64 (wd.at':Int),.string q,.bool wd.root,.slice a4 m4 c4] 91)):=Ext.push wr _
      have dT:=World.alloc_heap_new wr (.cells #[.int .u8 3,.int .i64 (wd.at':Int),.string q,.bool wd.root,.slice a4 m4 c4] 91)
      generalize wr.alloc (.cells #[.int .u8 3,.int .i64 (wd.at':Int),.string q,.bool wd.root,.slice a4 m4 c4] 91)=W5 at eu dT ⊢
      have p1:W5.cell? ⟨wr.heap.size,1,none⟩=some (.int .i64 (wd.at':Int)):=by simp [World.cell?,dT]
      clear dT
      have uu:=(eu.block _ (Array.getElem?_eq_some_iff.1 iA).1).trans iA
      obtain ⟨v1,v2,v3,v4⟩:=aP uu
      have hne:wr.heap.size≠w.heap.size:=by have:=(Array.getElem?_eq_some_iff.1 iA).1;omega
      clear y0 y1 y2 y3 y4 Ns E5 Nt dL
      refine aZ (by kernel_rfl) [] (fun u v=>v.cell? ⟨wr.heap.size,1,none⟩=u.cell? ⟨wr.heap.size,1,none⟩) [(0,true),(1,true),(2,true),(3,false),(4,true),(5,true)]
       (by kernel_rfl) (by kernel_rfl) (by kernel_rfl) (fun _=>rfl) (fun _ _ _ h1 h2=>h2.trans h1) ?_
      iterate 3 (
       refine' aW ?_ ?_ ?_ ?_;rotate_left 2
       ·(simp only [zA];rfl)
       ·rfl
       ·(intro w' hE;have q1:=hE.trans p1;go_simp;try rfl)
       try simp only [Act.put,zB])
      refine' bL ?_ ?_;rotate_left 1
      ·(simp only [zA];rfl)
      intro K hK
      go_simp
      refine hK.out _ _ (World.cell?_of_block ((au hne).trans (au hne))) ?_
      clear hK K
      try simp only [Act.put,zB]
      iterate 2 (
       refine' aW ?_ ?_ ?_ ?_;rotate_left 2
       ·(simp only [zA];rfl)
       ·rfl
       ·(intro w' hE;go_simp;try rfl)
       try simp only [Act.put,zB])
      refine cH ?_
      gi_wp2
      refine bodyPost_ret (results36 _ _ w.heap.size (.slice none 0 0) (.slice none 0 0) (.int .i64 (wd.at':Int)) (.int .i64 4) rfl rfl rfl (bE _ _ uu)) rfl ?_
      exact ⟨cF (dS (hx1.trans (hx2.trans (dV.trans eu)))) _ _,(by rw [oh];first | done | rfl)⟩
     ·rw [List.concat_eq_append] at *
      obtain ⟨gs,cap,oG,⟨s0,s1,s2⟩,sf⟩:=dL.last
      simp only [Value.slice.injEq] at oG
      obtain ⟨rfl,-,rfl⟩:=oG
      have el:(S ++ [o]).length=S.length+1:=by simp
      have IP:PM w2 F w2.heap.size ⟨N,T,S ++ [o]⟩ X tag vn vt (.slice (some ⟨gs,0,none⟩) (S.length+1) cs) wr:=by rw [← el];exact dL
      have eu:Ext wr (wr.alloc (.cells #[.int .u8 3,.int .i64 (wd.at':Int),.string q,.bool wd.root,.slice a4 m4 c4] 91)):=Ext.push wr _
      have t0:=aD eu s0
      have t1:=aD eu s1
      have t2:=aD eu s2
      have tf:(wr.alloc (.cells #[.int .u8 3,.int .i64 (wd.at':Int),.string q,.bool wd.root,.slice a4 m4 c4] 91)).frozen? ⟨gs,S.length * 3+2,none⟩=false:=(World.frozen?_of_block (eu.block gs (aU s0))).trans (sf _)
      simp only [List.length_append,List.length_cons,List.length_nil] at Qd ⊢
      by_cases hg:o.kind=2∧o.els=false
      ·rw [hg.1] at s1 t1
       rw [hg.2] at s2 t2
       have hst:cg ⟨N,T,S ++ [o]⟩ wd=.inl ⟨N.modify o.node fun x=>{ x with has:=true },T,S ++ [{ o with els:=true }]⟩:=by
        unfold cg
        rw [if_pos (by simp [hk3])]
        simp [hg.1,hg.2]
       have pw:=jR xZ hst
       have hsz':=jS hsz hst
       rw [hst] at hrun
       simp only at hrun
       have Ob:o.node < N.length:=xZ o (by simp)
       have E6:=(IP.ext' eu).P4
       clear eu dL IP el E5 Ns Nt hst xZ hsz dV sf
       generalize hd:S.length=d at *
       gi_wp2
       rw [wpIn_wide]
       generalize (wr.alloc (.cells #[.int .u8 3,.int .i64 (wd.at':Int),.string q,.bool wd.root,.slice a4 m4 c4] 91)).setCell ⟨gs,d * 3+2,none⟩ (.bool true)=W6 at E6 ⊢
       obtain ⟨gs',cap',TV,⟨r0,-,-⟩,-⟩:=E6.last
       simp only [Value.slice.injEq,Option.some.injEq,Addr.mk.injEq] at TV
       obtain ⟨⟨rfl,-,-⟩,-,-⟩:=TV
       rw [hd] at r0
       obtain ⟨gn,cn,x,y,rfl,hx,hy,hcell,fw⟩:=E6.node Ob
       have xJ:X.length=N.length:=E6.len
       obtain ⟨v1,v2,v3,v4⟩:=aP E6.c7
       have fn7:=fw (o.node * 9+7)
       have c7:=hcell 7 (by decide)
       have c7:W6.cell? ⟨gn,o.node * 9+7,none⟩=some (.bool x.has):=c7
       obtain ⟨X',XS⟩:=E6.P3 rfl hx
       clear t0 t1 t2 tf s0 s1 s2 y0 y1 y2 y3 y4 hcell fw v3 v4
       simp only at Ob v1 r0 c7 fn7
       generalize hk:o.node=k at *
       refine aZ (by kernel_rfl) [9] (fun u v=>v.cell? ⟨w2.heap.size,0,none⟩=u.cell? ⟨w2.heap.size,0,none⟩∧v.cell? ⟨gs,d * 3,none⟩=u.cell? ⟨gs,d * 3,none⟩) [(0,true),(1,true),(2,true),(3,true),(4,true),(5,true),(6,true),(7,true),(8,true),(9,false)]
        (by kernel_rfl) (by kernel_rfl) (by kernel_rfl) (fun _=>⟨rfl,rfl⟩) (fun _ _ _ h1 h2=>⟨h2.1.trans h1.1,h2.2.trans h1.2⟩) ?_
       iterate 9 (
        refine' aW ?_ ?_ ?_ ?_;rotate_left 2
        ·(simp only [zA];rfl)
        ·rfl
        ·(intro w' hE;have q1:=hE.1.trans v1;have q2:=hE.2.trans r0;go_simp;try rfl)
        try simp only [Act.put,zB])
       refine' fV ?_ (by kernel_rfl) ?_;rotate_left 1
       ·(simp only [zA];rfl)
       intro K hK
       go_simp
       refine hK.out _ _ ?_
       clear hK K
       refine cH ?_
       gi_wp2
       exact ⟨⟨i+1,_,_,_,_,_,congrArg (Value.int .i64) (by omega),hlt,hrun,pw,hsz',XS.ext' (Ext.drew _ _)⟩,by show _ - Int.toNat _ < _ - Int.toNat _;omega⟩
      ·have oh:iO ws=.bad wd.at' 4:=by
        rw [← hrun]
        unfold cg
        rw [if_pos (by simp [hk3])]
        have:(o.kind != 2 || o.els)=true:=by
         rw [Bool.or_eq_true,bne_iff_ne]
         by_cases h2:o.kind=2
         ·right
          cases he:o.els with
          | true=>rfl
          | false=>exact absurd ⟨h2,he⟩ hg
         ·exact .inl h2
        simp [this]
       have TW:(o.kind=2∧o.els=true)∨¬ ((o.kind.toNat:Int)=2):=by
        by_cases h2:o.kind=2
        ·left
         refine ⟨h2,?_⟩
         cases he:o.els with
         | true=>rfl
         | false=>exact absurd ⟨h2,he⟩ hg
        ·right
         intro e
         exact h2 (UInt8.toNat_inj.1 (by show _=2;omega))
       clear hrun hg
       generalize hd:S.length=d at *
       rcases TW with ⟨e1,e2⟩ | hk2
       ·rw [e1] at t1 s1
        rw [e2] at t2 s2
        clear e1 e2
        gi_wp2
        rw [wpIn_wide]
        clear t0 t1 t2 tf
        have eu:Ext wr (wr.alloc (.cells #[.int .u8 3,.int .i64 (wd.at':Int),.string q,.bool wd.root,.slice a4 m4 c4] 91)):=Ext.push wr _
        have dT:=World.alloc_heap_new wr (.cells #[.int .u8 3,.int .i64 (wd.at':Int),.string q,.bool wd.root,.slice a4 m4 c4] 91)
        generalize wr.alloc (.cells #[.int .u8 3,.int .i64 (wd.at':Int),.string q,.bool wd.root,.slice a4 m4 c4] 91)=W5 at eu dT ⊢
        have p1:W5.cell? ⟨wr.heap.size,1,none⟩=some (.int .i64 (wd.at':Int)):=by simp [World.cell?,dT]
        clear dT
        have uu:=(eu.block _ (Array.getElem?_eq_some_iff.1 iA).1).trans iA
        obtain ⟨v1,v2,v3,v4⟩:=aP uu
        have hne:wr.heap.size≠w.heap.size:=by have:=(Array.getElem?_eq_some_iff.1 iA).1;omega
        clear y0 y1 y2 y3 y4 Ns E5 Nt dL
        refine aZ (by kernel_rfl) [] (fun u v=>v.cell? ⟨wr.heap.size,1,none⟩=u.cell? ⟨wr.heap.size,1,none⟩) [(0,true),(1,true),(2,true),(3,false),(4,true),(5,true)]
         (by kernel_rfl) (by kernel_rfl) (by kernel_rfl) (fun _=>rfl) (fun _ _ _ h1 h2=>h2.trans h1) ?_
        iterate 3 (
         refine' aW ?_ ?_ ?_ ?_;rotate_left 2
         ·(simp only [zA];rfl)
         ·rfl
         ·(intro w' hE;have q1:=hE.trans p1;go_simp;try rfl)
         try simp only [Act.put,zB])
        refine' bL ?_ ?_;rotate_left 1
        ·(simp only [zA];rfl)
        intro K hK
        go_simp
        refine hK.out _ _ (World.cell?_of_block ((au hne).trans (au hne))) ?_
        clear hK K
        try simp only [Act.put,zB]
        iterate 2 (
         refine' aW ?_ ?_ ?_ ?_;rotate_left 2
         ·(simp only [zA];rfl)
         ·rfl
         ·(intro w' hE;go_simp;try rfl)
         try simp only [Act.put,zB])
        refine cH ?_
        gi_wp2
        refine bodyPost_ret (results36 _ _ w.heap.size (.slice none 0 0) (.slice none 0 0) (.int .i64 (wd.at':Int)) (.int .i64 4) rfl rfl rfl (bE _ _ uu)) rfl ?_
        exact ⟨cF (dS (hx1.trans (hx2.trans (dV.trans eu)))) _ _,(by rw [oh];first | done | rfl)⟩
       ·gi_wp2
        rw [wpIn_wide]
        clear t0 t1 t2 tf
        have eu:Ext wr (wr.alloc (.cells #[.int .u8 3,.int .i64 (wd.at':Int),.string q,.bool wd.root,.slice a4 m4 c4] 91)):=Ext.push wr _
        have dT:=World.alloc_heap_new wr (.cells #[.int .u8 3,.int .i64 (wd.at':Int),.string q,.bool wd.root,.slice a4 m4 c4] 91)
        generalize wr.alloc (.cells #[.int .u8 3,.int .i64 (wd.at':Int),.string q,.bool wd.root,.slice a4 m4 c4] 91)=W5 at eu dT ⊢
        have p1:W5.cell? ⟨wr.heap.size,1,none⟩=some (.int .i64 (wd.at':Int)):=by simp [World.cell?,dT]
        clear dT
        have uu:=(eu.block _ (Array.getElem?_eq_some_iff.1 iA).1).trans iA
        obtain ⟨v1,v2,v3,v4⟩:=aP uu
        have hne:wr.heap.size≠w.heap.size:=by have:=(Array.getElem?_eq_some_iff.1 iA).1;omega
        clear y0 y1 y2 y3 y4 Ns E5 Nt dL
        refine aZ (by kernel_rfl) [] (fun u v=>v.cell? ⟨wr.heap.size,1,none⟩=u.cell? ⟨wr.heap.size,1,none⟩) [(0,true),(1,true),(2,true),(3,false),(4,true),(5,true)]
         (by kernel_rfl) (by kernel_rfl) (by kernel_rfl) (fun _=>rfl) (fun _ _ _ h1 h2=>h2.trans h1) ?_
        iterate 3 (
         refine' aW ?_ ?_ ?_ ?_;rotate_left 2
         ·(simp only [zA];rfl)
         ·rfl
         ·(intro w' hE;have q1:=hE.trans p1;go_simp;try rfl)
         try simp only [Act.put,zB])
        refine' bL ?_ ?_;rotate_left 1
        ·(simp only [zA];rfl)
        intro K hK
        go_simp
        refine hK.out _ _ (World.cell?_of_block ((au hne).trans (au hne))) ?_
        clear hK K
        try simp only [Act.put,zB]
        iterate 2 (
         refine' aW ?_ ?_ ?_ ?_;rotate_left 2
         ·(simp only [zA];rfl)
         ·rfl
         ·(intro w' hE;go_simp;try rfl)
         try simp only [Act.put,zB])
        refine cH ?_
        gi_wp2
        refine bodyPost_ret (results36 _ _ w.heap.size (.slice none 0 0) (.slice none 0 0) (.int .i64 (wd.at':Int)) (.int .i64 4) rfl rfl rfl (bE _ _ uu)) rfl ?_
        exact ⟨cF (dS (hx1.trans (hx2.trans (dV.trans eu)))) _ _,(by rw [oh];first | done | rfl)⟩
    ·have uj:wd.kind=0∨wd.kind=1∨wd.kind=6∨wd.kind=2∨wd.kind=4:=by
      have a3:wd.kind.toNat≠3:=fun e=>hk3 (UInt8.toNat_inj.1 e)
      have a5:wd.kind.toNat≠5:=fun e=>TU (UInt8.toNat_inj.1 e)
      have:wd.kind.toNat=0∨wd.kind.toNat=1∨wd.kind.toNat=6∨wd.kind.toNat=2∨wd.kind.toNat=4:=by omega
      rcases this with e | e | e | e | e
      ·exact .inl (UInt8.toNat_inj.1 e)
      ·exact .inr (.inl (UInt8.toNat_inj.1 e))
      ·exact .inr (.inr (.inl (UInt8.toNat_inj.1 e)))
      ·exact .inr (.inr (.inr (.inl (UInt8.toNat_inj.1 e))))
      ·exact .inr (.inr (.inr (.inr (UInt8.toNat_inj.1 e))))
     obtain ⟨tQ,cn,rfl⟩:=fk dL.nd.1
     have xJ:X.length=N.length:=dL.len
     obtain ⟨v1,v2,v3,v4⟩:=aP dL.c7
     have TQ:=dL.uv
     have IQ:(⟨N ++ [bV wd],T,S⟩:Ms).wf:=fun o ho=>by have:=xZ o ho;simp only [List.length_append] at this ⊢;omega
     have IU:(⟨N ++ [bV wd],T,S⟩:Ms).sz (i+1):=⟨by have:=hsz.nodes;simp at this ⊢;omega,by have:=hsz.top;simp at this ⊢;omega,fun y hy=>by
      rcases List.mem_append.1 hy with hy | hy
      ·have:=hsz.two y hy;omega
      ·obtain rfl:=List.mem_singleton.1 hy;exact ⟨Nat.zero_le _,Nat.zero_le _⟩,Qd⟩
     rcases uj with hk | hk | hk | hk | hk
     ·rw [hk] at y0
      have hst:cg ⟨N,T,S⟩ wd=.inl (Ms.add ⟨N ++ [bV wd],T,S⟩ [N.length]):=by
       unfold cg
       rw [if_neg (by simp [hk]),if_neg (by simp [hk]),if_neg (by simp [hk])]
       simp [hk]
      have pw:=jR xZ hst
      have hsz':=jS hsz hst
      rw [hst] at hrun
      simp only at hrun
      have dK:Ext wr ((wr.alloc (.cells #[.int .u8 0,.int .i64 (wd.at':Int),.string q,.bool wd.root,.slice a4 m4 c4] 91)).alloc (.cells #[.int .i64 0,.int .i64 1,.int .i64 2,.int .i64 0,.int .i64 3,.int .i64 0,.int .i64 4] 3)):=(Ext.push wr _).trans (Ext.push _ _)
      have u1:=aD dK v1
      generalize hd:S.length=d at *
      gi_wp2
      rw [wpIn_wide]
      have dT:=aB (o:=.cells #[.int .i64 0,.int .i64 1,.int .i64 2,.int .i64 0,.int .i64 3,.int .i64 0,.int .i64 4] 3) (w:=wr.alloc (.cells #[.int .u8 0,.int .i64 (wd.at':Int),.string q,.bool wd.root,.slice a4 m4 c4] 91)) (i:=wr.heap.size) (by simp)
      rw [World.alloc_heap_new wr _] at dT
      have rC:=World.alloc_heap_new (wr.alloc (.cells #[.int .u8 0,.int .i64 (wd.at':Int),.string q,.bool wd.root,.slice a4 m4 c4] 91)) (.cells #[.int .i64 0,.int .i64 1,.int .i64 2,.int .i64 0,.int .i64 3,.int .i64 0,.int .i64 4] 3)
      rw [show (wr.alloc (.cells #[.int .u8 0,.int .i64 (wd.at':Int),.string q,.bool wd.root,.slice a4 m4 c4] 91)).heap.size=wr.heap.size+1 by simp] at rC
      generalize (wr.alloc (.cells #[.int .u8 0,.int .i64 (wd.at':Int),.string q,.bool wd.root,.slice a4 m4 c4] 91)).alloc (.cells #[.int .i64 0,.int .i64 1,.int .i64 2,.int .i64 0,.int .i64 3,.int .i64 0,.int .i64 4] 3)=W5 at dT rC dK u1 ⊢
      have p0:W5.cell? ⟨wr.heap.size,0,none⟩=some (.int .u8 0):=by simp [World.cell?,dT]
      have p1:W5.cell? ⟨wr.heap.size,1,none⟩=some (.int .i64 (wd.at':Int)):=by simp [World.cell?,dT]
      have p2:W5.cell? ⟨wr.heap.size,2,none⟩=some (.string q):=by simp [World.cell?,dT]
      have p3:W5.cell? ⟨wr.heap.size,3,none⟩=some (.bool wd.root):=by simp [World.cell?,dT]
      have p4:W5.cell? ⟨wr.heap.size,4,none⟩=some (.slice a4 m4 c4):=by simp [World.cell?,dT]
      have pk:W5.cell? ⟨wr.heap.size+1,0,none⟩=some (.int .i64 0):=by simp [World.cell?,rC]
      have DJ:IntKind.u8.wrap 0=0:=by decide
      have h5:=dL.ext' dK
      clear v1 v2 v3 v4 y0 y1 y2 y3 y4 rC
      refine aZ (by kernel_rfl) [18] (fun u v=>v.heap[w2.heap.size]?=u.heap[w2.heap.size]?∧v.heap[wr.heap.size]?=u.heap[wr.heap.size]?∧v.heap[wr.heap.size+1]?=u.heap[wr.heap.size+1]?) [(0,true),(1,true),(2,true),(3,true),(4,true),(5,true),(6,true),(7,true),(8,true),(9,true),(10,true),(11,true),(12,true),(13,true),(14,true),(15,false),(16,false),(17,true),(18,false)]
       (by kernel_rfl) (by kernel_rfl) (by kernel_rfl) (fun _=>⟨rfl,rfl,rfl⟩) (fun _ _ _ h1 h2=>⟨h2.1.trans h1.1,h2.2.1.trans h1.2.1,h2.2.2.trans h1.2.2⟩) ?_
      iterate 15 (
       refine' aW ?_ ?_ ?_ ?_;rotate_left 2
       ·(simp only [zA];rfl)
       ·rfl
       ·(intro w' hE;have q1:=(World.cell?_of_block (a:=⟨w2.heap.size,0,none⟩) hE.1).trans u1;have r0:=(World.cell?_of_block (a:=⟨wr.heap.size,0,none⟩) hE.2.1).trans p0;have r1:=(World.cell?_of_block (a:=⟨wr.heap.size,1,none⟩) hE.2.1).trans p1;have r2:=(World.cell?_of_block (a:=⟨wr.heap.size,2,none⟩) hE.2.1).trans p2;have r3:=(World.cell?_of_block (a:=⟨wr.heap.size,3,none⟩) hE.2.1).trans p3;have r4:=(World.cell?_of_block (a:=⟨wr.heap.size,4,none⟩) hE.2.1).trans p4;have rk:=(World.cell?_of_block (a:=⟨wr.heap.size+1,0,none⟩) hE.2.2).trans pk;go_simp;try rfl)
       try simp only [Act.put,zB])
      refine' bL ?_ ?_;rotate_left 1
      ·(simp only [zA];rfl)
      intro K hK
      go_simp
      have z5:wr.heap.size < W5.heap.size:=aU p0
      have z6:wr.heap.size+1 < W5.heap.size:=aU pk
      have z7:w2.heap.size < W5.heap.size:=aU u1
      refine hK.out _ _ ⟨aB z7,aB z5,aB z6⟩ ?_
      clear hK K
      try simp only [Act.put,zB]
      have lR:Ext W5 (W5.alloc (.cells #[.int .u8 0,.int .i64 (wd.at':Int),.string q,.bool wd.root,.slice a4 m4 c4,.slice none 0 0,.slice none 0 0,.bool false,.int .u8 0] 58)):=Ext.push W5 _
      have h6:=h5.ext' lR
      have hnews:=na W5 (Vn.cells ⟨0,wd.at',q,wd.root,.slice a4 m4 c4,.slice none 0 0,.slice none 0 0,false⟩) 58
      obtain ⟨i61,ni,hz0,hz1,hz2⟩:=info_parts tO
      have qK:=h6.nd.1
      rw [xJ] at qK
      have dH:w2.heap.size+1≤(W5.alloc (.cells #[.int .u8 0,.int .i64 (wd.at':Int),.string q,.bool wd.root,.slice a4 m4 c4,.slice none 0 0,.slice none 0 0,.bool false,.int .u8 0] 58)).heap.size:=h6.uv
      refine' bL ?_ ?_;rotate_left 1
      ·(simp only [zA];rfl)
      intro K hK
      refine step_append_lies _ rfl (.tmp 65) (.tmp 79) 23 rfl (w2.heap.size+1) 58 i61 _ 9 120 Tryz.underlying23 ni hz0 hz1 hz2 rfl (by decide) (.slice tQ N.length cn) N.length (X.flatMap Vn.cells) rfl qK ⟨W5.heap.size,0,none⟩ 1 1 (Vn.cells ⟨0,wd.at',q,wd.root,.slice a4 m4 c4,.slice none 0 0,.slice none 0 0,false⟩) rfl rfl hnews (by simp [Vn.cells,Value.oneCell']) (by decide) (by have:Go.maxLen=9223372036854775807:=rfl;have:=hsz.nodes;simp only at this;omega) (by have:=hsz.nodes;simp only at this;omega) dH _ rfl ?_
      intro g cap w7 dc aS fq DK
      rw [← xJ] at dc aS fq ⊢
      have lM:(W5.alloc (.cells #[.int .u8 0,.int .i64 (wd.at':Int),.string q,.bool wd.root,.slice a4 m4 c4,.slice none 0 0,.slice none 0 0,.bool false,.int .u8 0] 58)).grownBy w7 (Value.slice tQ X.length cn).ownBlock:=⟨aS.os,aS.tape,aS.output,aS.size,aS.block⟩
      obtain ⟨Mb,gD⟩:=h6.addNode (y:=bV wd) lM dc fq ⟨by show (0:UInt8)=bh wd.kind;rw [hk];rfl,rfl,hq,rfl,rfl,E5,rfl,_,_,_,rfl⟩ rfl rfl rfl rfl
      have b9:∀ g,(Value.slice tQ X.length cn).ownBlock=some g→w2.heap.size+1≤g∧g < wr.heap.size:=fun g e=>dL.nd.1.lt g e
      have DL:(W5.alloc (.cells #[.int .u8 0,.int .i64 (wd.at':Int),.string q,.bool wd.root,.slice a4 m4 c4,.slice none 0 0,.slice none 0 0,.bool false,.int .u8 0] 58)).heap.size=W5.heap.size+1:=by simp
      have gF:∀ b,b < W5.heap.size→(Value.slice tQ X.length cn).ownBlock≠some b→w7.heap[b]?=W5.heap[b]?:=fun b hb ho=>(lM.block b (by omega) (fun e=>ho e.symm)).trans (aB hb)
      have k7:=gF w2.heap.size z7 (fun e=>by have:=b9 _ e;omega)
      have k5:=gF wr.heap.size z5 (fun e=>by have:=b9 _ e;omega)
      have k6:=gF (wr.heap.size+1) z6 (fun e=>by have:=b9 _ e;omega)
      have ur:=k7.trans h5.c7
      obtain ⟨-,-,e3,e4⟩:=aP ur
      refine hK.out _ _ ⟨k7.trans (aB z7).symm,k5.trans (aB z5).symm,k6.trans (aB z6).symm⟩ ?_
      clear hK K
      try simp only [Act.put,zB]
      refine' aW ?_ ?_ ?_ ?_;rotate_left 2
      ·(simp only [zA];rfl)
      ·rfl
      ·(intro w' hE;go_simp;try rfl)
      try simp only [Act.put,zB]
      obtain ⟨f1,-,f3,-⟩:=aP ur
      refine' fV ?_ (by kernel_rfl) ?_;rotate_left 1
      ·(simp only [zA];rfl)
      intro K hK
      go_simp
      refine hK.out _ _ ?_
      clear hK K
      refine cH ?_
      have rD:(w7.setCell ⟨w2.heap.size,0,none⟩ (.slice (some ⟨g,0,none⟩) (X.length+1) cap)).cell? ⟨wr.heap.size,0,none⟩=some (.int .u8 0):=(World.cell?_of_block (a:=⟨wr.heap.size,0,none⟩) ((au (show wr.heap.size≠w2.heap.size by omega)).trans k5)).trans p0
      rw [xJ] at gD rD
      have DM:∀ v:Value,(w7.setCell ⟨w2.heap.size,0,none⟩ v).heap.size=w7.heap.size:=fun v=>bD _ _ _
      have hap:vr (X ++ [⟨0,wd.at',q,wd.root,.slice a4 m4 c4,.slice none 0 0,.slice none 0 0,false⟩]) w2.heap.size (.slice (some ⟨g,0,none⟩) (N.length+1) cap) vt wr.heap.size:=by
       refine ⟨by omega,fun e=>?_,fun e=>by have:=(dL.tp.1.lt _ e).2;omega,fun x hx=>?_⟩
       ·simp only [Value.ownBlock,Option.some.injEq] at e
        rcases fq with h | h
        ·have:=b9 g h;omega
        ·have:=h.trans DL;omega
       ·rcases List.mem_append.1 hx with hx | hx
        ·obtain ⟨j,hj,rfl⟩:=List.mem_iff_getElem.1 hx
         have hj':j < N.length:=by omega
         obtain ⟨bb,be⟩:=dL.bd j _ _ (List.getElem?_eq_getElem hj) (List.getElem?_eq_getElem hj')
         exact ⟨fun e=>by have:=(bb.1.lt _ e).2;omega,fun e=>by have:=(be.1.lt _ e).2;omega⟩
        ·obtain rfl:=List.mem_singleton.1 hx
         exact ⟨nofun,nofun⟩
      have xP:wr.heap.size < w7.heap.size:=by have:=lM.size;omega
      generalize DN:w7.setCell ⟨w2.heap.size,0,none⟩ (.slice (some ⟨g,0,none⟩) (N.length+1) cap)=W8 at gD rD ⊢
      have xQ:wr.heap.size < W8.heap.size:=by rw [← DN,DM];exact xP
      have eQ:=tG gD IQ IU (by omega) (n:=N.length)
      clear e3 e4 f1 f3 ur k5 k6 k7 gF DL lM aS dc fq hnews qK lR h6 h5 u1 p0 p1 p2 p3 p4 pk dT dK z5 z6 z7 dH hz0 hz1 hz2 ni DN DM b9 gD dL
      gi_wp2_with (refine ⟨trivial,?_⟩;gi_at_call 38;refine eQ.mono ?_;clear eQ;rintro e w9 ⟨rfl,⟨X9,AU,UT,UU,tR⟩,eW⟩;have z9:=(World.cell?_of_block (a:=⟨wr.heap.size,0,none⟩) (eW wr.heap.size xQ hap)).trans rD;clear eW hap rD)
      exact ⟨⟨i+1,_,_,_,_,_,congrArg (Value.int .i64) (by omega),hlt,hrun,pw,hsz',tR⟩,by show _ - Int.toNat _ < _ - Int.toNat _;omega⟩
     ·rw [hk] at y0
      have hst:cg ⟨N,T,S⟩ wd=.inl (Ms.add ⟨N ++ [bV wd],T,S⟩ [N.length]):=by
       unfold cg
       rw [if_neg (by simp [hk]),if_neg (by simp [hk]),if_neg (by simp [hk])]
       simp [hk]
      have pw:=jR xZ hst
      have hsz':=jS hsz hst
      rw [hst] at hrun
      simp only at hrun
      have dK:Ext wr ((wr.alloc (.cells #[.int .u8 1,.int .i64 (wd.at':Int),.string q,.bool wd.root,.slice a4 m4 c4] 91)).alloc (.cells #[.int .i64 0,.int .i64 1,.int .i64 2,.int .i64 0,.int .i64 3,.int .i64 0,.int .i64 4] 3)):=(Ext.push wr _).trans (Ext.push _ _)
      have u1:=aD dK v1
      generalize hd:S.length=d at *
      gi_wp2
      rw [wpIn_wide]
      have dT:=aB (o:=.cells #[.int .i64 0,.int .i64 1,.int .i64 2,.int .i64 0,.int .i64 3,.int .i64 0,.int .i64 4] 3) (w:=wr.alloc (.cells #[.int .u8 1,.int .i64 (wd.at':Int),.string q,.bool wd.root,.slice a4 m4 c4] 91)) (i:=wr.heap.size) (by simp)
      rw [World.alloc_heap_new wr _] at dT
      have rC:=World.alloc_heap_new (wr.alloc (.cells #[.int .u8 1,.int .i64 (wd.at':Int),.string q,.bool wd.root,.slice a4 m4 c4] 91)) (.cells #[.int .i64 0,.int .i64 1,.int .i64 2,.int .i64 0,.int .i64 3,.int .i64 0,.int .i64 4] 3)
      rw [show (wr.alloc (.cells #[.int .u8 1,.int .i64 (wd.at':Int),.string q,.bool wd.root,.slice a4 m4 c4] 91)).heap.size=wr.heap.size+1 by simp] at rC
      generalize (wr.alloc (.cells #[.int .u8 1,.int .i64 (wd.at':Int),.string q,.bool wd.root,.slice a4 m4 c4] 91)).alloc (.cells #[.int .i64 0,.int .i64 1,.int .i64 2,.int .i64 0,.int .i64 3,.int .i64 0,.int .i64 4] 3)=W5 at dT rC dK u1 ⊢
      have p0:W5.cell? ⟨wr.heap.size,0,none⟩=some (.int .u8 1):=by simp [World.cell?,dT]
      have p1:W5.cell? ⟨wr.heap.size,1,none⟩=some (.int .i64 (wd.at':Int)):=by simp [World.cell?,dT]
      have p2:W5.cell? ⟨wr.heap.size,2,none⟩=some (.string q):=by simp [World.cell?,dT]
      have p3:W5.cell? ⟨wr.heap.size,3,none⟩=some (.bool wd.root):=by simp [World.cell?,dT]
      have p4:W5.cell? ⟨wr.heap.size,4,none⟩=some (.slice a4 m4 c4):=by simp [World.cell?,dT]
      have pk:W5.cell? ⟨wr.heap.size+1,1,none⟩=some (.int .i64 1):=by simp [World.cell?,rC]
      have DJ:IntKind.u8.wrap 1=1:=by decide
      have h5:=dL.ext' dK
      clear v1 v2 v3 v4 y0 y1 y2 y3 y4 rC
      refine aZ (by kernel_rfl) [18] (fun u v=>v.heap[w2.heap.size]?=u.heap[w2.heap.size]?∧v.heap[wr.heap.size]?=u.heap[wr.heap.size]?∧v.heap[wr.heap.size+1]?=u.heap[wr.heap.size+1]?) [(0,true),(1,true),(2,true),(3,true),(4,true),(5,true),(6,true),(7,true),(8,true),(9,true),(10,true),(11,true),(12,true),(13,true),(14,true),(15,false),(16,false),(17,true),(18,false)]
       (by kernel_rfl) (by kernel_rfl) (by kernel_rfl) (fun _=>⟨rfl,rfl,rfl⟩) (fun _ _ _ h1 h2=>⟨h2.1.trans h1.1,h2.2.1.trans h1.2.1,h2.2.2.trans h1.2.2⟩) ?_
      iterate 15 (
       refine' aW ?_ ?_ ?_ ?_;rotate_left 2
       ·(simp only [zA];rfl)
       ·rfl
       ·(intro w' hE;have q1:=(World.cell?_of_block (a:=⟨w2.heap.size,0,none⟩) hE.1).trans u1;have r0:=(World.cell?_of_block (a:=⟨wr.heap.size,0,none⟩) hE.2.1).trans p0;have r1:=(World.cell?_of_block (a:=⟨wr.heap.size,1,none⟩) hE.2.1).trans p1;have r2:=(World.cell?_of_block (a:=⟨wr.heap.size,2,none⟩) hE.2.1).trans p2;have r3:=(World.cell?_of_block (a:=⟨wr.heap.size,3,none⟩) hE.2.1).trans p3;have r4:=(World.cell?_of_block (a:=⟨wr.heap.size,4,none⟩) hE.2.1).trans p4;have rk:=(World.cell?_of_block (a:=⟨wr.heap.size+1,1,none⟩) hE.2.2).trans pk;go_simp;try rfl)
       try simp only [Act.put,zB])
      refine' bL ?_ ?_;rotate_left 1
      ·(simp only [zA];rfl)
      intro K hK
      go_simp
      have z5:wr.heap.size < W5.heap.size:=aU p0
      have z6:wr.heap.size+1 < W5.heap.size:=aU pk
      have z7:w2.heap.size < W5.heap.size:=aU u1
      refine hK.out _ _ ⟨aB z7,aB z5,aB z6⟩ ?_
      clear hK K
      try simp only [Act.put,zB]
      have lR:Ext W5 (W5.alloc (.cells #[.int .u8 1,.int .i64 (wd.at':Int),.string q,.bool wd.root,.slice a4 m4 c4,.slice none 0 0,.slice none 0 0,.bool false,.int .u8 0] 58)):=Ext.push W5 _
      have h6:=h5.ext' lR
      have hnews:=na W5 (Vn.cells ⟨1,wd.at',q,wd.root,.slice a4 m4 c4,.slice none 0 0,.slice none 0 0,false⟩) 58
      obtain ⟨i61,ni,hz0,hz1,hz2⟩:=info_parts tO
      have qK:=h6.nd.1
      rw [xJ] at qK
      have dH:w2.heap.size+1≤(W5.alloc (.cells #[.int .u8 1,.int .i64 (wd.at':Int),.string q,.bool wd.root,.slice a4 m4 c4,.slice none 0 0,.slice none 0 0,.bool false,.int .u8 0] 58)).heap.size:=h6.uv
      refine' bL ?_ ?_;rotate_left 1
      ·(simp only [zA];rfl)
      intro K hK
      refine step_append_lies _ rfl (.tmp 65) (.tmp 79) 23 rfl (w2.heap.size+1) 58 i61 _ 9 120 Tryz.underlying23 ni hz0 hz1 hz2 rfl (by decide) (.slice tQ N.length cn) N.length (X.flatMap Vn.cells) rfl qK ⟨W5.heap.size,0,none⟩ 1 1 (Vn.cells ⟨1,wd.at',q,wd.root,.slice a4 m4 c4,.slice none 0 0,.slice none 0 0,false⟩) rfl rfl hnews (by simp [Vn.cells,Value.oneCell']) (by decide) (by have:Go.maxLen=9223372036854775807:=rfl;have:=hsz.nodes;simp only at this;omega) (by have:=hsz.nodes;simp only at this;omega) dH _ rfl ?_
      intro g cap w7 dc aS fq DK
      rw [← xJ] at dc aS fq ⊢
      have lM:(W5.alloc (.cells #[.int .u8 1,.int .i64 (wd.at':Int),.string q,.bool wd.root,.slice a4 m4 c4,.slice none 0 0,.slice none 0 0,.bool false,.int .u8 0] 58)).grownBy w7 (Value.slice tQ X.length cn).ownBlock:=⟨aS.os,aS.tape,aS.output,aS.size,aS.block⟩
      obtain ⟨Mb,gD⟩:=h6.addNode (y:=bV wd) lM dc fq ⟨by show (1:UInt8)=bh wd.kind;rw [hk];rfl,rfl,hq,rfl,rfl,E5,rfl,_,_,_,rfl⟩ rfl rfl rfl rfl
      have b9:∀ g,(Value.slice tQ X.length cn).ownBlock=some g→w2.heap.size+1≤g∧g < wr.heap.size:=fun g e=>dL.nd.1.lt g e
      have DL:(W5.alloc (.cells #[.int .u8 1,.int .i64 (wd.at':Int),.string q,.bool wd.root,.slice a4 m4 c4,.slice none 0 0,.slice none 0 0,.bool false,.int .u8 0] 58)).heap.size=W5.heap.size+1:=by simp
      have gF:∀ b,b < W5.heap.size→(Value.slice tQ X.length cn).ownBlock≠some b→w7.heap[b]?=W5.heap[b]?:=fun b hb ho=>(lM.block b (by omega) (fun e=>ho e.symm)).trans (aB hb)
      have k7:=gF w2.heap.size z7 (fun e=>by have:=b9 _ e;omega)
      have k5:=gF wr.heap.size z5 (fun e=>by have:=b9 _ e;omega)
      have k6:=gF (wr.heap.size+1) z6 (fun e=>by have:=b9 _ e;omega)
      have ur:=k7.trans h5.c7
      obtain ⟨-,-,e3,e4⟩:=aP ur
      refine hK.out _ _ ⟨k7.trans (aB z7).symm,k5.trans (aB z5).symm,k6.trans (aB z6).symm⟩ ?_
      clear hK K
      try simp only [Act.put,zB]
      refine' aW ?_ ?_ ?_ ?_;rotate_left 2
      ·(simp only [zA];rfl)
      ·rfl
      ·(intro w' hE;go_simp;try rfl)
      try simp only [Act.put,zB]
      obtain ⟨f1,-,f3,-⟩:=aP ur
      refine' fV ?_ (by kernel_rfl) ?_;rotate_left 1
      ·(simp only [zA];rfl)
      intro K hK
      go_simp
      refine hK.out _ _ ?_
      clear hK K
      refine cH ?_
      have rD:(w7.setCell ⟨w2.heap.size,0,none⟩ (.slice (some ⟨g,0,none⟩) (X.length+1) cap)).cell? ⟨wr.heap.size,0,none⟩=some (.int .u8 1):=(World.cell?_of_block (a:=⟨wr.heap.size,0,none⟩) ((au (show wr.heap.size≠w2.heap.size by omega)).trans k5)).trans p0
      rw [xJ] at gD rD
      have DM:∀ v:Value,(w7.setCell ⟨w2.heap.size,0,none⟩ v).heap.size=w7.heap.size:=fun v=>bD _ _ _
      have hap:vr (X ++ [⟨1,wd.at',q,wd.root,.slice a4 m4 c4,.slice none 0 0,.slice none 0 0,false⟩]) w2.heap.size (.slice (some ⟨g,0,none⟩) (N.length+1) cap) vt wr.heap.size:=by
       refine ⟨by omega,fun e=>?_,fun e=>by have:=(dL.tp.1.lt _ e).2;omega,fun x hx=>?_⟩
       ·simp only [Value.ownBlock,Option.some.injEq] at e
        rcases fq with h | h
        ·have:=b9 g h;omega
        ·have:=h.trans DL;omega
       ·rcases List.mem_append.1 hx with hx | hx
        ·obtain ⟨j,hj,rfl⟩:=List.mem_iff_getElem.1 hx
         have hj':j < N.length:=by omega
         obtain ⟨bb,be⟩:=dL.bd j _ _ (List.getElem?_eq_getElem hj) (List.getElem?_eq_getElem hj')
         exact ⟨fun e=>by have:=(bb.1.lt _ e).2;omega,fun e=>by have:=(be.1.lt _ e).2;omega⟩
        ·obtain rfl:=List.mem_singleton.1 hx
         exact ⟨nofun,nofun⟩
      have xP:wr.heap.size < w7.heap.size:=by have:=lM.size;omega
      generalize DN:w7.setCell ⟨w2.heap.size,0,none⟩ (.slice (some ⟨g,0,none⟩) (N.length+1) cap)=W8 at gD rD ⊢
      have xQ:wr.heap.size < W8.heap.size:=by rw [← DN,DM];exact xP
      have eQ:=tG gD IQ IU (by omega) (n:=N.length)
      clear e3 e4 f1 f3 ur k5 k6 k7 gF DL lM aS dc fq hnews qK lR h6 h5 u1 p0 p1 p2 p3 p4 pk dT dK z5 z6 z7 dH hz0 hz1 hz2 ni DN DM b9 gD dL
      gi_wp2_with (refine ⟨trivial,?_⟩;gi_at_call 38;refine eQ.mono ?_;clear eQ;rintro e w9 ⟨rfl,⟨X9,AU,UT,UU,tR⟩,eW⟩;have z9:=(World.cell?_of_block (a:=⟨wr.heap.size,0,none⟩) (eW wr.heap.size xQ hap)).trans rD;clear eW hap rD)
      exact ⟨⟨i+1,_,_,_,_,_,congrArg (Value.int .i64) (by omega),hlt,hrun,pw,hsz',tR⟩,by show _ - Int.toNat _ < _ - Int.toNat _;omega⟩
     ·rw [hk] at y0
      have hst:cg ⟨N,T,S⟩ wd=.inl (Ms.add ⟨N ++ [bV wd],T,S⟩ [N.length]):=by
       unfold cg
       rw [if_neg (by simp [hk]),if_neg (by simp [hk]),if_neg (by simp [hk])]
       simp [hk]
      have pw:=jR xZ hst
      have hsz':=jS hsz hst
      rw [hst] at hrun
      simp only at hrun
      have dK:Ext wr ((wr.alloc (.cells #[.int .u8 6,.int .i64 (wd.at':Int),.string q,.bool wd.root,.slice a4 m4 c4] 91)).alloc (.cells #[.int .i64 0,.int .i64 1,.int .i64 2,.int .i64 0,.int .i64 3,.int .i64 0,.int .i64 4] 3)):=(Ext.push wr _).trans (Ext.push _ _)
      have u1:=aD dK v1
      generalize hd:S.length=d at *
      gi_wp2
      rw [wpIn_wide]
      have dT:=aB (o:=.cells #[.int .i64 0,.int .i64 1,.int .i64 2,.int .i64 0,.int .i64 3,.int .i64 0,.int .i64 4] 3) (w:=wr.alloc (.cells #[.int .u8 6,.int .i64 (wd.at':Int),.string q,.bool wd.root,.slice a4 m4 c4] 91)) (i:=wr.heap.size) (by simp)
      rw [World.alloc_heap_new wr _] at dT
      have rC:=World.alloc_heap_new (wr.alloc (.cells #[.int .u8 6,.int .i64 (wd.at':Int),.string q,.bool wd.root,.slice a4 m4 c4] 91)) (.cells #[.int .i64 0,.int .i64 1,.int .i64 2,.int .i64 0,.int .i64 3,.int .i64 0,.int .i64 4] 3)
      rw [show (wr.alloc (.cells #[.int .u8 6,.int .i64 (wd.at':Int),.string q,.bool wd.root,.slice a4 m4 c4] 91)).heap.size=wr.heap.size+1 by simp] at rC
      generalize (wr.alloc (.cells #[.int .u8 6,.int .i64 (wd.at':Int),.string q,.bool wd.root,.slice a4 m4 c4] 91)).alloc (.cells #[.int .i64 0,.int .i64 1,.int .i64 2,.int .i64 0,.int .i64 3,.int .i64 0,.int .i64 4] 3)=W5 at dT rC dK u1 ⊢
      have p0:W5.cell? ⟨wr.heap.size,0,none⟩=some (.int .u8 6):=by simp [World.cell?,dT]
      have p1:W5.cell? ⟨wr.heap.size,1,none⟩=some (.int .i64 (wd.at':Int)):=by simp [World.cell?,dT]
      have p2:W5.cell? ⟨wr.heap.size,2,none⟩=some (.string q):=by simp [World.cell?,dT]
      have p3:W5.cell? ⟨wr.heap.size,3,none⟩=some (.bool wd.root):=by simp [World.cell?,dT]
      have p4:W5.cell? ⟨wr.heap.size,4,none⟩=some (.slice a4 m4 c4):=by simp [World.cell?,dT]
      have pk:W5.cell? ⟨wr.heap.size+1,6,none⟩=some (.int .i64 4):=by simp [World.cell?,rC]
      have DJ:IntKind.u8.wrap 4=4:=by decide
      have h5:=dL.ext' dK
      clear v1 v2 v3 v4 y0 y1 y2 y3 y4 rC
      refine aZ (by kernel_rfl) [18] (fun u v=>v.heap[w2.heap.size]?=u.heap[w2.heap.size]?∧v.heap[wr.heap.size]?=u.heap[wr.heap.size]?∧v.heap[wr.heap.size+1]?=u.heap[wr.heap.size+1]?) [(0,true),(1,true),(2,true),(3,true),(4,true),(5,true),(6,true),(7,true),(8,true),(9,true),(10,true),(11,true),(12,true),(13,true),(14,true),(15,false),(16,false),(17,true),(18,false)]
       (by kernel_rfl) (by kernel_rfl) (by kernel_rfl) (fun _=>⟨rfl,rfl,rfl⟩) (fun _ _ _ h1 h2=>⟨h2.1.trans h1.1,h2.2.1.trans h1.2.1,h2.2.2.trans h1.2.2⟩) ?_
      iterate 15 (
       refine' aW ?_ ?_ ?_ ?_;rotate_left 2
       ·(simp only [zA];rfl)
       ·rfl
       ·(intro w' hE;have q1:=(World.cell?_of_block (a:=⟨w2.heap.size,0,none⟩) hE.1).trans u1;have r0:=(World.cell?_of_block (a:=⟨wr.heap.size,0,none⟩) hE.2.1).trans p0;have r1:=(World.cell?_of_block (a:=⟨wr.heap.size,1,none⟩) hE.2.1).trans p1;have r2:=(World.cell?_of_block (a:=⟨wr.heap.size,2,none⟩) hE.2.1).trans p2;have r3:=(World.cell?_of_block (a:=⟨wr.heap.size,3,none⟩) hE.2.1).trans p3;have r4:=(World.cell?_of_block (a:=⟨wr.heap.size,4,none⟩) hE.2.1).trans p4;have rk:=(World.cell?_of_block (a:=⟨wr.heap.size+1,6,none⟩) hE.2.2).trans pk;go_simp;try rfl)
       try simp only [Act.put,zB])
      refine' bL ?_ ?_;rotate_left 1
      ·(simp only [zA];rfl)
      intro K hK
      go_simp
      have z5:wr.heap.size < W5.heap.size:=aU p0
      have z6:wr.heap.size+1 < W5.heap.size:=aU pk
      have z7:w2.heap.size < W5.heap.size:=aU u1
      refine hK.out _ _ ⟨aB z7,aB z5,aB z6⟩ ?_
      clear hK K
      try simp only [Act.put,zB]
      have lR:Ext W5 (W5.alloc (.cells #[.int .u8 4,.int .i64 (wd.at':Int),.string q,.bool wd.root,.slice a4 m4 c4,.slice none 0 0,.slice none 0 0,.bool false,.int .u8 0] 58)):=Ext.push W5 _
      have h6:=h5.ext' lR
      have hnews:=na W5 (Vn.cells ⟨4,wd.at',q,wd.root,.slice a4 m4 c4,.slice none 0 0,.slice none 0 0,false⟩) 58
      obtain ⟨i61,ni,hz0,hz1,hz2⟩:=info_parts tO
      have qK:=h6.nd.1
      rw [xJ] at qK
      have dH:w2.heap.size+1≤(W5.alloc (.cells #[.int .u8 4,.int .i64 (wd.at':Int),.string q,.bool wd.root,.slice a4 m4 c4,.slice none 0 0,.slice none 0 0,.bool false,.int .u8 0] 58)).heap.size:=h6.uv
      refine' bL ?_ ?_;rotate_left 1
      ·(simp only [zA];rfl)
      intro K hK
      refine step_append_lies _ rfl (.tmp 65) (.tmp 79) 23 rfl (w2.heap.size+1) 58 i61 _ 9 120 Tryz.underlying23 ni hz0 hz1 hz2 rfl (by decide) (.slice tQ N.length cn) N.length (X.flatMap Vn.cells) rfl qK ⟨W5.heap.size,0,none⟩ 1 1 (Vn.cells ⟨4,wd.at',q,wd.root,.slice a4 m4 c4,.slice none 0 0,.slice none 0 0,false⟩) rfl rfl hnews (by simp [Vn.cells,Value.oneCell']) (by decide) (by have:Go.maxLen=9223372036854775807:=rfl;have:=hsz.nodes;simp only at this;omega) (by have:=hsz.nodes;simp only at this;omega) dH _ rfl ?_
      intro g cap w7 dc aS fq DK
      rw [← xJ] at dc aS fq ⊢
      have lM:(W5.alloc (.cells #[.int .u8 4,.int .i64 (wd.at':Int),.string q,.bool wd.root,.slice a4 m4 c4,.slice none 0 0,.slice none 0 0,.bool false,.int .u8 0] 58)).grownBy w7 (Value.slice tQ X.length cn).ownBlock:=⟨aS.os,aS.tape,aS.output,aS.size,aS.block⟩
      obtain ⟨Mb,gD⟩:=h6.addNode (y:=bV wd) lM dc fq ⟨by show (4:UInt8)=bh wd.kind;rw [hk];rfl,rfl,hq,rfl,rfl,E5,rfl,_,_,_,rfl⟩ rfl rfl rfl rfl
      have b9:∀ g,(Value.slice tQ X.length cn).ownBlock=some g→w2.heap.size+1≤g∧g < wr.heap.size:=fun g e=>dL.nd.1.lt g e
      have DL:(W5.alloc (.cells #[.int .u8 4,.int .i64 (wd.at':Int),.string q,.bool wd.root,.slice a4 m4 c4,.slice none 0 0,.slice none 0 0,.bool false,.int .u8 0] 58)).heap.size=W5.heap.size+1:=by simp
      have gF:∀ b,b < W5.heap.size→(Value.slice tQ X.length cn).ownBlock≠some b→w7.heap[b]?=W5.heap[b]?:=fun b hb ho=>(lM.block b (by omega) (fun e=>ho e.symm)).trans (aB hb)
      have k7:=gF w2.heap.size z7 (fun e=>by have:=b9 _ e;omega)
      have k5:=gF wr.heap.size z5 (fun e=>by have:=b9 _ e;omega)
      have k6:=gF (wr.heap.size+1) z6 (fun e=>by have:=b9 _ e;omega)
      have ur:=k7.trans h5.c7
      obtain ⟨-,-,e3,e4⟩:=aP ur
      refine hK.out _ _ ⟨k7.trans (aB z7).symm,k5.trans (aB z5).symm,k6.trans (aB z6).symm⟩ ?_
      clear hK K
      try simp only [Act.put,zB]
      refine' aW ?_ ?_ ?_ ?_;rotate_left 2
      ·(simp only [zA];rfl)
      ·rfl
      ·(intro w' hE;go_simp;try rfl)
      try simp only [Act.put,zB]
      obtain ⟨f1,-,f3,-⟩:=aP ur
      refine' fV ?_ (by kernel_rfl) ?_;rotate_left 1
      ·(simp only [zA];rfl)
      intro K hK
      go_simp
      refine hK.out _ _ ?_
      clear hK K
      refine cH ?_
      have rD:(w7.setCell ⟨w2.heap.size,0,none⟩ (.slice (some ⟨g,0,none⟩) (X.length+1) cap)).cell? ⟨wr.heap.size,0,none⟩=some (.int .u8 6):=(World.cell?_of_block (a:=⟨wr.heap.size,0,none⟩) ((au (show wr.heap.size≠w2.heap.size by omega)).trans k5)).trans p0
      rw [xJ] at gD rD
      have DM:∀ v:Value,(w7.setCell ⟨w2.heap.size,0,none⟩ v).heap.size=w7.heap.size:=fun v=>bD _ _ _
      have hap:vr (X ++ [⟨4,wd.at',q,wd.root,.slice a4 m4 c4,.slice none 0 0,.slice none 0 0,false⟩]) w2.heap.size (.slice (some ⟨g,0,none⟩) (N.length+1) cap) vt wr.heap.size:=by
       refine ⟨by omega,fun e=>?_,fun e=>by have:=(dL.tp.1.lt _ e).2;omega,fun x hx=>?_⟩
       ·simp only [Value.ownBlock,Option.some.injEq] at e
        rcases fq with h | h
        ·have:=b9 g h;omega
        ·have:=h.trans DL;omega
       ·rcases List.mem_append.1 hx with hx | hx
        ·obtain ⟨j,hj,rfl⟩:=List.mem_iff_getElem.1 hx
         have hj':j < N.length:=by omega
         obtain ⟨bb,be⟩:=dL.bd j _ _ (List.getElem?_eq_getElem hj) (List.getElem?_eq_getElem hj')
         exact ⟨fun e=>by have:=(bb.1.lt _ e).2;omega,fun e=>by have:=(be.1.lt _ e).2;omega⟩
        ·obtain rfl:=List.mem_singleton.1 hx
         exact ⟨nofun,nofun⟩
      have xP:wr.heap.size < w7.heap.size:=by have:=lM.size;omega
      generalize DN:w7.setCell ⟨w2.heap.size,0,none⟩ (.slice (some ⟨g,0,none⟩) (N.length+1) cap)=W8 at gD rD ⊢
      have xQ:wr.heap.size < W8.heap.size:=by rw [← DN,DM];exact xP
      have eQ:=tG gD IQ IU (by omega) (n:=N.length)
      clear e3 e4 f1 f3 ur k5 k6 k7 gF DL lM aS dc fq hnews qK lR h6 h5 u1 p0 p1 p2 p3 p4 pk dT dK z5 z6 z7 dH hz0 hz1 hz2 ni DN DM b9 gD dL
      gi_wp2_with (refine ⟨trivial,?_⟩;gi_at_call 38;refine eQ.mono ?_;clear eQ;rintro e w9 ⟨rfl,⟨X9,AU,UT,UU,tR⟩,eW⟩;have z9:=(World.cell?_of_block (a:=⟨wr.heap.size,0,none⟩) (eW wr.heap.size xQ hap)).trans rD;clear eW hap rD)
      exact ⟨⟨i+1,_,_,_,_,_,congrArg (Value.int .i64) (by omega),hlt,hrun,pw,hsz',tR⟩,by show _ - Int.toNat _ < _ - Int.toNat _;omega⟩
     ·by_cases QU:16≤S.length
      ·have oh:iO ws=.bad wd.at' 3:=by
        rw [← hrun]
        unfold cg
        rw [if_neg (by simp [hk]),if_neg (by simp [hk]),if_pos (by simp [hk];omega)]
       clear hrun
       rw [hk] at y0
       have Qe:(16:Int)≤(S.length:Int):=by omega
       generalize hd:S.length=d at *
       gi_wp2
       rw [wpIn_wide]
       have eu:Ext wr (wr.alloc (.cells #[.int .u8 2,.int .i64 (wd.at':Int),.string q,.bool wd.root,.slice a4 m4 c4] 91)):=Ext.push wr _
       have dT:=World.alloc_heap_new wr (.cells #[.int .u8 2,.int .i64 (wd.at':Int),.string q,.bool wd.root,.slice a4 m4 c4] 91)
       generalize wr.alloc (.cells #[.int .u8 2,.int .i64 (wd.at':Int),.string q,.bool wd.root,.slice a4 m4 c4] 91)=W5 at eu dT ⊢
       have p1:W5.cell? ⟨wr.heap.size,1,none⟩=some (.int .i64 (wd.at':Int)):=by simp [World.cell?,dT]
       clear dT
       have uu:=(eu.block _ (Array.getElem?_eq_some_iff.1 iA).1).trans iA
       obtain ⟨v1,v2,v3,v4⟩:=aP uu
       have hne:wr.heap.size≠w.heap.size:=by have:=(Array.getElem?_eq_some_iff.1 iA).1;omega
       clear y0 y1 y2 y3 y4 Ns E5 Nt dL
       refine aZ (by kernel_rfl) [] (fun u v=>v.cell? ⟨wr.heap.size,1,none⟩=u.cell? ⟨wr.heap.size,1,none⟩) [(0,true),(1,true),(2,true),(3,false),(4,true),(5,true)]
        (by kernel_rfl) (by kernel_rfl) (by kernel_rfl) (fun _=>rfl) (fun _ _ _ h1 h2=>h2.trans h1) ?_
       iterate 3 (
        refine' aW ?_ ?_ ?_ ?_;rotate_left 2
        ·(simp only [zA];rfl)
        ·rfl
        ·(intro w' hE;have q1:=hE.trans p1;go_simp;try rfl)
        try simp only [Act.put,zB])
       refine' bL ?_ ?_;rotate_left 1
       ·(simp only [zA];rfl)
       intro K hK
       go_simp
       refine hK.out _ _ (World.cell?_of_block ((au hne).trans (au hne))) ?_
       clear hK K
       try simp only [Act.put,zB]
       iterate 2 (
        refine' aW ?_ ?_ ?_ ?_;rotate_left 2
        ·(simp only [zA];rfl)
        ·rfl
        ·(intro w' hE;go_simp;try rfl)
        try simp only [Act.put,zB])
       refine cH ?_
       gi_wp2
       refine bodyPost_ret (results36 _ _ w.heap.size (.slice none 0 0) (.slice none 0 0) (.int .i64 (wd.at':Int)) (.int .i64 3) rfl rfl rfl (bE _ _ uu)) rfl ?_
       exact ⟨cF (dS (hx1.trans (hx2.trans (dV.trans eu)))) _ _,(by rw [oh];first | done | rfl)⟩
      ·rw [hk] at y0
       have hst:cg ⟨N,T,S⟩ wd=.inl ⟨(Ms.add ⟨N ++ [bV wd],T,S⟩ [N.length]).nodes,(Ms.add ⟨N ++ [bV wd],T,S⟩ [N.length]).top,S ++ [⟨N.length,2,false⟩]⟩:=by
        unfold cg
        rw [if_neg (by simp [hk]),if_neg (by simp [hk]),if_neg (by simp [hk];omega)]
        simp [hk,jr]
       have Qe:(S.length:Int) < 16:=by omega
       obtain ⟨i108,XT,hw0,XU,hw2⟩:=info_parts DF
       have pw:=jR xZ hst
       have hsz':=jS hsz hst
       rw [hst] at hrun
       simp only at hrun
       have dK:Ext wr ((wr.alloc (.cells #[.int .u8 2,.int .i64 (wd.at':Int),.string q,.bool wd.root,.slice a4 m4 c4] 91)).alloc (.cells #[.int .i64 0,.int .i64 1,.int .i64 2,.int .i64 0,.int .i64 3,.int .i64 0,.int .i64 4] 3)):=(Ext.push wr _).trans (Ext.push _ _)
       have u1:=aD dK v1
       generalize hd:S.length=d at *
       gi_wp2
       rw [wpIn_wide]
       have dT:=aB (o:=.cells #[.int .i64 0,.int .i64 1,.int .i64 2,.int .i64 0,.int .i64 3,.int .i64 0,.int .i64 4] 3) (w:=wr.alloc (.cells #[.int .u8 2,.int .i64 (wd.at':Int),.string q,.bool wd.root,.slice a4 m4 c4] 91)) (i:=wr.heap.size) (by simp)
       rw [World.alloc_heap_new wr _] at dT
       have rC:=World.alloc_heap_new (wr.alloc (.cells #[.int .u8 2,.int .i64 (wd.at':Int),.string q,.bool wd.root,.slice a4 m4 c4] 91)) (.cells #[.int .i64 0,.int .i64 1,.int .i64 2,.int .i64 0,.int .i64 3,.int .i64 0,.int .i64 4] 3)
       rw [show (wr.alloc (.cells #[.int .u8 2,.int .i64 (wd.at':Int),.string q,.bool wd.root,.slice a4 m4 c4] 91)).heap.size=wr.heap.size+1 by simp] at rC
       generalize (wr.alloc (.cells #[.int .u8 2,.int .i64 (wd.at':Int),.string q,.bool wd.root,.slice a4 m4 c4] 91)).alloc (.cells #[.int .i64 0,.int .i64 1,.int .i64 2,.int .i64 0,.int .i64 3,.int .i64 0,.int .i64 4] 3)=W5 at dT rC dK u1 ⊢
       have p0:W5.cell? ⟨wr.heap.size,0,none⟩=some (.int .u8 2):=by simp [World.cell?,dT]
       have p1:W5.cell? ⟨wr.heap.size,1,none⟩=some (.int .i64 (wd.at':Int)):=by simp [World.cell?,dT]
       have p2:W5.cell? ⟨wr.heap.size,2,none⟩=some (.string q):=by simp [World.cell?,dT]
       have p3:W5.cell? ⟨wr.heap.size,3,none⟩=some (.bool wd.root):=by simp [World.cell?,dT]
       have p4:W5.cell? ⟨wr.heap.size,4,none⟩=some (.slice a4 m4 c4):=by simp [World.cell?,dT]
       have pk:W5.cell? ⟨wr.heap.size+1,2,none⟩=some (.int .i64 2):=by simp [World.cell?,rC]
       have DJ:IntKind.u8.wrap 2=2:=by decide
       have h5:=dL.ext' dK
       clear v1 v2 v3 v4 y0 y1 y2 y3 y4 rC
       refine aZ (by kernel_rfl) [18] (fun u v=>v.heap[w2.heap.size]?=u.heap[w2.heap.size]?∧v.heap[wr.heap.size]?=u.heap[wr.heap.size]?∧v.heap[wr.heap.size+1]?=u.heap[wr.heap.size+1]?) [(0,true),(1,true),(2,true),(3,true),(4,true),(5,true),(6,true),(7,true),(8,true),(9,true),(10,true),(11,true),(12,true),(13,true),(14,true),(15,false),(16,false),(17,true),(18,false)]
        (by kernel_rfl) (by kernel_rfl) (by kernel_rfl) (fun _=>⟨rfl,rfl,rfl⟩) (fun _ _ _ h1 h2=>⟨h2.1.trans h1.1,h2.2.1.trans h1.2.1,h2.2.2.trans h1.2.2⟩) ?_
       iterate 15 (
        refine' aW ?_ ?_ ?_ ?_;rotate_left 2
        ·(simp only [zA];rfl)
        ·rfl
        ·(intro w' hE;have q1:=(World.cell?_of_block (a:=⟨w2.heap.size,0,none⟩) hE.1).trans u1;have r0:=(World.cell?_of_block (a:=⟨wr.heap.size,0,none⟩) hE.2.1).trans p0;have r1:=(World.cell?_of_block (a:=⟨wr.heap.size,1,none⟩) hE.2.1).trans p1;have r2:=(World.cell?_of_block (a:=⟨wr.heap.size,2,none⟩) hE.2.1).trans p2;have r3:=(World.cell?_of_block (a:=⟨wr.heap.size,3,none⟩) hE.2.1).trans p3;have r4:=(World.cell?_of_block (a:=⟨wr.heap.size,4,none⟩) hE.2.1).trans p4;have rk:=(World.cell?_of_block (a:=⟨wr.heap.size+1,2,none⟩) hE.2.2).trans pk;go_simp;try rfl)
        try simp only [Act.put,zB])
       refine' bL ?_ ?_;rotate_left 1
       ·(simp only [zA];rfl)
       intro K hK
       go_simp
       have z5:wr.heap.size < W5.heap.size:=aU p0
       have z6:wr.heap.size+1 < W5.heap.size:=aU pk
       have z7:w2.heap.size < W5.heap.size:=aU u1
       refine hK.out _ _ ⟨aB z7,aB z5,aB z6⟩ ?_
       clear hK K
       try simp only [Act.put,zB]
       have lR:Ext W5 (W5.alloc (.cells #[.int .u8 2,.int .i64 (wd.at':Int),.string q,.bool wd.root,.slice a4 m4 c4,.slice none 0 0,.slice none 0 0,.bool false,.int .u8 0] 58)):=Ext.push W5 _
       have h6:=h5.ext' lR
       have hnews:=na W5 (Vn.cells ⟨2,wd.at',q,wd.root,.slice a4 m4 c4,.slice none 0 0,.slice none 0 0,false⟩) 58
       obtain ⟨i61,ni,hz0,hz1,hz2⟩:=info_parts tO
       have qK:=h6.nd.1
       rw [xJ] at qK
       have dH:w2.heap.size+1≤(W5.alloc (.cells #[.int .u8 2,.int .i64 (wd.at':Int),.string q,.bool wd.root,.slice a4 m4 c4,.slice none 0 0,.slice none 0 0,.bool false,.int .u8 0] 58)).heap.size:=h6.uv
       refine' bL ?_ ?_;rotate_left 1
       ·(simp only [zA];rfl)
       intro K hK
       refine step_append_lies _ rfl (.tmp 65) (.tmp 79) 23 rfl (w2.heap.size+1) 58 i61 _ 9 120 Tryz.underlying23 ni hz0 hz1 hz2 rfl (by decide) (.slice tQ N.length cn) N.length (X.flatMap Vn.cells) rfl qK ⟨W5.heap.size,0,none⟩ 1 1 (Vn.cells ⟨2,wd.at',q,wd.root,.slice a4 m4 c4,.slice none 0 0,.slice none 0 0,false⟩) rfl rfl hnews (by simp [Vn.cells,Value.oneCell']) (by decide) (by have:Go.maxLen=9223372036854775807:=rfl;have:=hsz.nodes;simp only at this;omega) (by have:=hsz.nodes;simp only at this;omega) dH _ rfl ?_
       intro g cap w7 dc aS fq DK
       rw [← xJ] at dc aS fq ⊢
       have lM:(W5.alloc (.cells #[.int .u8 2,.int .i64 (wd.at':Int),.string q,.bool wd.root,.slice a4 m4 c4,.slice none 0 0,.slice none 0 0,.bool false,.int .u8 0] 58)).grownBy w7 (Value.slice tQ X.length cn).ownBlock:=⟨aS.os,aS.tape,aS.output,aS.size,aS.block⟩
       obtain ⟨Mb,gD⟩:=h6.addNode (y:=bV wd) lM dc fq ⟨by show (2:UInt8)=bh wd.kind;rw [hk];rfl,rfl,hq,rfl,rfl,E5,rfl,_,_,_,rfl⟩ rfl rfl rfl rfl
       have b9:∀ g,(Value.slice tQ X.length cn).ownBlock=some g→w2.heap.size+1≤g∧g < wr.heap.size:=fun g e=>dL.nd.1.lt g e
       have DL:(W5.alloc (.cells #[.int .u8 2,.int .i64 (wd.at':Int),.string q,.bool wd.root,.slice a4 m4 c4,.slice none 0 0,.slice none 0 0,.bool false,.int .u8 0] 58)).heap.size=W5.heap.size+1:=by simp
       have gF:∀ b,b < W5.heap.size→(Value.slice tQ X.length cn).ownBlock≠some b→w7.heap[b]?=W5.heap[b]?:=fun b hb ho=>(lM.block b (by omega) (fun e=>ho e.symm)).trans (aB hb)
       have k7:=gF w2.heap.size z7 (fun e=>by have:=b9 _ e;omega)
       have k5:=gF wr.heap.size z5 (fun e=>by have:=b9 _ e;omega)
       have k6:=gF (wr.heap.size+1) z6 (fun e=>by have:=b9 _ e;omega)
       have ur:=k7.trans h5.c7
       obtain ⟨-,-,e3,e4⟩:=aP ur
       refine hK.out _ _ ⟨k7.trans (aB z7).symm,k5.trans (aB z5).symm,k6.trans (aB z6).symm⟩ ?_
       clear hK K
       try simp only [Act.put,zB]
       refine' aW ?_ ?_ ?_ ?_;rotate_left 2
       ·(simp only [zA];rfl)
       ·rfl
       ·(intro w' hE;go_simp;try rfl)
       try simp only [Act.put,zB]
       obtain ⟨f1,-,f3,-⟩:=aP ur
       refine' fV ?_ (by kernel_rfl) ?_;rotate_left 1
       ·(simp only [zA];rfl)
       intro K hK
       go_simp
       refine hK.out _ _ ?_
       clear hK K
       refine cH ?_
       have rD:(w7.setCell ⟨w2.heap.size,0,none⟩ (.slice (some ⟨g,0,none⟩) (X.length+1) cap)).cell? ⟨wr.heap.size,0,none⟩=some (.int .u8 2):=(World.cell?_of_block (a:=⟨wr.heap.size,0,none⟩) ((au (show wr.heap.size≠w2.heap.size by omega)).trans k5)).trans p0
       rw [xJ] at gD rD
       have DM:∀ v:Value,(w7.setCell ⟨w2.heap.size,0,none⟩ v).heap.size=w7.heap.size:=fun v=>bD _ _ _
       have hap:vr (X ++ [⟨2,wd.at',q,wd.root,.slice a4 m4 c4,.slice none 0 0,.slice none 0 0,false⟩]) w2.heap.size (.slice (some ⟨g,0,none⟩) (N.length+1) cap) vt wr.heap.size:=by
        refine ⟨by omega,fun e=>?_,fun e=>by have:=(dL.tp.1.lt _ e).2;omega,fun x hx=>?_⟩
        ·simp only [Value.ownBlock,Option.some.injEq] at e
         rcases fq with h | h
         ·have:=b9 g h;omega
         ·have:=h.trans DL;omega
        ·rcases List.mem_append.1 hx with hx | hx
         ·obtain ⟨j,hj,rfl⟩:=List.mem_iff_getElem.1 hx
          have hj':j < N.length:=by omega
          obtain ⟨bb,be⟩:=dL.bd j _ _ (List.getElem?_eq_getElem hj) (List.getElem?_eq_getElem hj')
          exact ⟨fun e=>by have:=(bb.1.lt _ e).2;omega,fun e=>by have:=(be.1.lt _ e).2;omega⟩
         ·obtain rfl:=List.mem_singleton.1 hx
          exact ⟨nofun,nofun⟩
       have xP:wr.heap.size < w7.heap.size:=by have:=lM.size;omega
       generalize DN:w7.setCell ⟨w2.heap.size,0,none⟩ (.slice (some ⟨g,0,none⟩) (N.length+1) cap)=W8 at gD rD ⊢
       have xQ:wr.heap.size < W8.heap.size:=by rw [← DN,DM];exact xP
       have eQ:=tG gD IQ IU (by omega) (n:=N.length)
       clear e3 e4 f1 f3 ur k5 k6 k7 gF DL lM aS dc fq hnews qK lR h6 h5 u1 p0 p1 p2 p3 p4 pk dT dK z5 z6 z7 dH hz0 hz1 hz2 ni DN DM b9 gD dL
       gi_wp2_with (first
        | (refine ⟨trivial,?_⟩;gi_at_call 38;refine eQ.mono ?_;clear eQ;rintro e w9 ⟨rfl,⟨X9,AU,UT,UU,tR⟩,eW⟩;have z9:=(World.cell?_of_block (a:=⟨wr.heap.size,0,none⟩) (eW wr.heap.size xQ hap)).trans rD;clear eW hap rD;rw [DG] at tR;have h9:=tR.ext' (Ext.push w9 (.cells #[.int .i64 (N.length:Int),.int .i64 2,.bool false] 93));have hsk:=h9.sk.1;simp only at hsk;rw [hd] at hsk)
        | (gi_at_builtin;refine wpListIn_append_own_at _ rfl _ _ 88 rfl (w2.heap.size+1) 93 i108 _ 3 24 Tryz.underlying88 XT hw0 XU hw2 rfl (by decide) (.slice PS d cs) d (S.flatMap ed) rfl hsk ⟨w9.heap.size,0,none⟩ 1 1 (ed ⟨N.length,2,false⟩) rfl rfl (na w9 (ed ⟨N.length,2,false⟩) 93) (by simp [ed,Value.oneCell']) (by have:Go.maxLen=9223372036854775807:=rfl;omega) (by omega) (by have:=h9.uv;simp at this ⊢;omega) ?_;intro v' w10 tS fo _ hv';obtain ⟨g',cap',rfl⟩:=ownsRow_succ tS;obtain ⟨TX,tT⟩:=h9.push (o:=⟨N.length,2,false⟩) ⟨fo.os,fo.tape,fo.output,fo.size,fo.block⟩ (by simp only;rw [hd];exact tS) (by rcases hv' with e | e;exact .inl (by rw [← e];rfl);exact .inr (by simpa [Value.ownBlock] using e));simp only at tT;rw [hd] at tT))
       exact ⟨⟨i+1,_,_,_,_,_,congrArg (Value.int .i64) (by omega),hlt,hrun,pw,hsz',tT⟩,by show _ - Int.toNat _ < _ - Int.toNat _;omega⟩
     ·by_cases QU:16≤S.length
      ·have oh:iO ws=.bad wd.at' 3:=by
        rw [← hrun]
        unfold cg
        rw [if_neg (by simp [hk]),if_neg (by simp [hk]),if_pos (by simp [hk];omega)]
       clear hrun
       rw [hk] at y0
       have Qe:(16:Int)≤(S.length:Int):=by omega
       generalize hd:S.length=d at *
       gi_wp2
       rw [wpIn_wide]
       have eu:Ext wr (wr.alloc (.cells #[.int .u8 4,.int .i64 (wd.at':Int),.string q,.bool wd.root,.slice a4 m4 c4] 91)):=Ext.push wr _
       have dT:=World.alloc_heap_new wr (.cells #[.int .u8 4,.int .i64 (wd.at':Int),.string q,.bool wd.root,.slice a4 m4 c4] 91)
       generalize wr.alloc (.cells #[.int .u8 4,.int .i64 (wd.at':Int),.string q,.bool wd.root,.slice a4 m4 c4] 91)=W5 at eu dT ⊢
       have p1:W5.cell? ⟨wr.heap.size,1,none⟩=some (.int .i64 (wd.at':Int)):=by simp [World.cell?,dT]
       clear dT
       have uu:=(eu.block _ (Array.getElem?_eq_some_iff.1 iA).1).trans iA
       obtain ⟨v1,v2,v3,v4⟩:=aP uu
       have hne:wr.heap.size≠w.heap.size:=by have:=(Array.getElem?_eq_some_iff.1 iA).1;omega
       clear y0 y1 y2 y3 y4 Ns E5 Nt dL
       refine aZ (by kernel_rfl) [] (fun u v=>v.cell? ⟨wr.heap.size,1,none⟩=u.cell? ⟨wr.heap.size,1,none⟩) [(0,true),(1,true),(2,true),(3,false),(4,true),(5,true)]
        (by kernel_rfl) (by kernel_rfl) (by kernel_rfl) (fun _=>rfl) (fun _ _ _ h1 h2=>h2.trans h1) ?_
       iterate 3 (
        refine' aW ?_ ?_ ?_ ?_;rotate_left 2
        ·(simp only [zA];rfl)
        ·rfl
        ·(intro w' hE;have q1:=hE.trans p1;go_simp;try rfl)
        try simp only [Act.put,zB])
       refine' bL ?_ ?_;rotate_left 1
       ·(simp only [zA];rfl)
       intro K hK
       go_simp
       refine hK.out _ _ (World.cell?_of_block ((au hne).trans (au hne))) ?_
       clear hK K
       try simp only [Act.put,zB]
       iterate 2 (
        refine' aW ?_ ?_ ?_ ?_;rotate_left 2
        ·(simp only [zA];rfl)
        ·rfl
        ·(intro w' hE;go_simp;try rfl)
        try simp only [Act.put,zB])
       refine cH ?_
       gi_wp2
       refine bodyPost_ret (results36 _ _ w.heap.size (.slice none 0 0) (.slice none 0 0) (.int .i64 (wd.at':Int)) (.int .i64 3) rfl rfl rfl (bE _ _ uu)) rfl ?_
       exact ⟨cF (dS (hx1.trans (hx2.trans (dV.trans eu)))) _ _,(by rw [oh];first | done | rfl)⟩
      ·rw [hk] at y0
       have hst:cg ⟨N,T,S⟩ wd=.inl ⟨(Ms.add ⟨N ++ [bV wd],T,S⟩ [N.length]).nodes,(Ms.add ⟨N ++ [bV wd],T,S⟩ [N.length]).top,S ++ [⟨N.length,4,false⟩]⟩:=by
        unfold cg
        rw [if_neg (by simp [hk]),if_neg (by simp [hk]),if_neg (by simp [hk];omega)]
        simp [hk,jr]
       have Qe:(S.length:Int) < 16:=by omega
       obtain ⟨i108,XT,hw0,XU,hw2⟩:=info_parts DF
       have pw:=jR xZ hst
       have hsz':=jS hsz hst
       rw [hst] at hrun
       simp only at hrun
       have dK:Ext wr ((wr.alloc (.cells #[.int .u8 4,.int .i64 (wd.at':Int),.string q,.bool wd.root,.slice a4 m4 c4] 91)).alloc (.cells #[.int .i64 0,.int .i64 1,.int .i64 2,.int .i64 0,.int .i64 3,.int .i64 0,.int .i64 4] 3)):=(Ext.push wr _).trans (Ext.push _ _)
       have u1:=aD dK v1
       generalize hd:S.length=d at *
       gi_wp2
       rw [wpIn_wide]
       have dT:=aB (o:=.cells #[.int .i64 0,.int .i64 1,.int .i64 2,.int .i64 0,.int .i64 3,.int .i64 0,.int .i64 4] 3) (w:=wr.alloc (.cells #[.int .u8 4,.int .i64 (wd.at':Int),.string q,.bool wd.root,.slice a4 m4 c4] 91)) (i:=wr.heap.size) (by simp)
       rw [World.alloc_heap_new wr _] at dT
       have rC:=World.alloc_heap_new (wr.alloc (.cells #[.int .u8 4,.int .i64 (wd.at':Int),.string q,.bool wd.root,.slice a4 m4 c4] 91)) (.cells #[.int .i64 0,.int .i64 1,.int .i64 2,.int .i64 0,.int .i64 3,.int .i64 0,.int .i64 4] 3)
       rw [show (wr.alloc (.cells #[.int .u8 4,.int .i64 (wd.at':Int),.string q,.bool wd.root,.slice a4 m4 c4] 91)).heap.size=wr.heap.size+1 by simp] at rC
       generalize (wr.alloc (.cells #[.int .u8 4,.int .i64 (wd.at':Int),.string q,.bool wd.root,.slice a4 m4 c4] 91)).alloc (.cells #[.int .i64 0,.int .i64 1,.int .i64 2,.int .i64 0,.int .i64 3,.int .i64 0,.int .i64 4] 3)=W5 at dT rC dK u1 ⊢
       have p0:W5.cell? ⟨wr.heap.size,0,none⟩=some (.int .u8 4):=by simp [World.cell?,dT]
       have p1:W5.cell? ⟨wr.heap.size,1,none⟩=some (.int .i64 (wd.at':Int)):=by simp [World.cell?,dT]
       have p2:W5.cell? ⟨wr.heap.size,2,none⟩=some (.string q):=by simp [World.cell?,dT]
       have p3:W5.cell? ⟨wr.heap.size,3,none⟩=some (.bool wd.root):=by simp [World.cell?,dT]
       have p4:W5.cell? ⟨wr.heap.size,4,none⟩=some (.slice a4 m4 c4):=by simp [World.cell?,dT]
       have pk:W5.cell? ⟨wr.heap.size+1,4,none⟩=some (.int .i64 3):=by simp [World.cell?,rC]
       have DJ:IntKind.u8.wrap 3=3:=by decide
       have h5:=dL.ext' dK
       clear v1 v2 v3 v4 y0 y1 y2 y3 y4 rC
       refine aZ (by kernel_rfl) [18] (fun u v=>v.heap[w2.heap.size]?=u.heap[w2.heap.size]?∧v.heap[wr.heap.size]?=u.heap[wr.heap.size]?∧v.heap[wr.heap.size+1]?=u.heap[wr.heap.size+1]?) [(0,true),(1,true),(2,true),(3,true),(4,true),(5,true),(6,true),(7,true),(8,true),(9,true),(10,true),(11,true),(12,true),(13,true),(14,true),(15,false),(16,false),(17,true),(18,false)]
        (by kernel_rfl) (by kernel_rfl) (by kernel_rfl) (fun _=>⟨rfl,rfl,rfl⟩) (fun _ _ _ h1 h2=>⟨h2.1.trans h1.1,h2.2.1.trans h1.2.1,h2.2.2.trans h1.2.2⟩) ?_
       iterate 15 (
        refine' aW ?_ ?_ ?_ ?_;rotate_left 2
        ·(simp only [zA];rfl)
        ·rfl
        ·(intro w' hE;have q1:=(World.cell?_of_block (a:=⟨w2.heap.size,0,none⟩) hE.1).trans u1;have r0:=(World.cell?_of_block (a:=⟨wr.heap.size,0,none⟩) hE.2.1).trans p0;have r1:=(World.cell?_of_block (a:=⟨wr.heap.size,1,none⟩) hE.2.1).trans p1;have r2:=(World.cell?_of_block (a:=⟨wr.heap.size,2,none⟩) hE.2.1).trans p2;have r3:=(World.cell?_of_block (a:=⟨wr.heap.size,3,none⟩) hE.2.1).trans p3;have r4:=(World.cell?_of_block (a:=⟨wr.heap.size,4,none⟩) hE.2.1).trans p4;have rk:=(World.cell?_of_block (a:=⟨wr.heap.size+1,4,none⟩) hE.2.2).trans pk;go_simp;try rfl)
        try simp only [Act.put,zB])
       refine' bL ?_ ?_;rotate_left 1
       ·(simp only [zA];rfl)
       intro K hK
       go_simp
       have z5:wr.heap.size < W5.heap.size:=aU p0
       have z6:wr.heap.size+1 < W5.heap.size:=aU pk
       have z7:w2.heap.size < W5.heap.size:=aU u1
       refine hK.out _ _ ⟨aB z7,aB z5,aB z6⟩ ?_
       clear hK K
       try simp only [Act.put,zB]
       have lR:Ext W5 (W5.alloc (.cells #[.int .u8 3,.int .i64 (wd.at':Int),.string q,.bool wd.root,.slice a4 m4 c4,.slice none 0 0,.slice none 0 0,.bool false,.int .u8 0] 58)):=Ext.push W5 _
       have h6:=h5.ext' lR
       have hnews:=na W5 (Vn.cells ⟨3,wd.at',q,wd.root,.slice a4 m4 c4,.slice none 0 0,.slice none 0 0,false⟩) 58
       obtain ⟨i61,ni,hz0,hz1,hz2⟩:=info_parts tO
       have qK:=h6.nd.1
       rw [xJ] at qK
       have dH:w2.heap.size+1≤(W5.alloc (.cells #[.int .u8 3,.int .i64 (wd.at':Int),.string q,.bool wd.root,.slice a4 m4 c4,.slice none 0 0,.slice none 0 0,.bool false,.int .u8 0] 58)).heap.size:=h6.uv
       refine' bL ?_ ?_;rotate_left 1
       ·(simp only [zA];rfl)
       intro K hK
       refine step_append_lies _ rfl (.tmp 65) (.tmp 79) 23 rfl (w2.heap.size+1) 58 i61 _ 9 120 Tryz.underlying23 ni hz0 hz1 hz2 rfl (by decide) (.slice tQ N.length cn) N.length (X.flatMap Vn.cells) rfl qK ⟨W5.heap.size,0,none⟩ 1 1 (Vn.cells ⟨3,wd.at',q,wd.root,.slice a4 m4 c4,.slice none 0 0,.slice none 0 0,false⟩) rfl rfl hnews (by simp [Vn.cells,Value.oneCell']) (by decide) (by have:Go.maxLen=9223372036854775807:=rfl;have:=hsz.nodes;simp only at this;omega) (by have:=hsz.nodes;simp only at this;omega) dH _ rfl ?_
       intro g cap w7 dc aS fq DK
       rw [← xJ] at dc aS fq ⊢
       have lM:(W5.alloc (.cells #[.int .u8 3,.int .i64 (wd.at':Int),.string q,.bool wd.root,.slice a4 m4 c4,.slice none 0 0,.slice none 0 0,.bool false,.int .u8 0] 58)).grownBy w7 (Value.slice tQ X.length cn).ownBlock:=⟨aS.os,aS.tape,aS.output,aS.size,aS.block⟩
       obtain ⟨Mb,gD⟩:=h6.addNode (y:=bV wd) lM dc fq ⟨by show (3:UInt8)=bh wd.kind;rw [hk];rfl,rfl,hq,rfl,rfl,E5,rfl,_,_,_,rfl⟩ rfl rfl rfl rfl
       have b9:∀ g,(Value.slice tQ X.length cn).ownBlock=some g→w2.heap.size+1≤g∧g < wr.heap.size:=fun g e=>dL.nd.1.lt g e
       have DL:(W5.alloc (.cells #[.int .u8 3,.int .i64 (wd.at':Int),.string q,.bool wd.root,.slice a4 m4 c4,.slice none 0 0,.slice none 0 0,.bool false,.int .u8 0] 58)).heap.size=W5.heap.size+1:=by simp
       have gF:∀ b,b < W5.heap.size→(Value.slice tQ X.length cn).ownBlock≠some b→w7.heap[b]?=W5.heap[b]?:=fun b hb ho=>(lM.block b (by omega) (fun e=>ho e.symm)).trans (aB hb)
       have k7:=gF w2.heap.size z7 (fun e=>by have:=b9 _ e;omega)
       have k5:=gF wr.heap.size z5 (fun e=>by have:=b9 _ e;omega)
       have k6:=gF (wr.heap.size+1) z6 (fun e=>by have:=b9 _ e;omega)
       have ur:=k7.trans h5.c7
       obtain ⟨-,-,e3,e4⟩:=aP ur
       refine hK.out _ _ ⟨k7.trans (aB z7).symm,k5.trans (aB z5).symm,k6.trans (aB z6).symm⟩ ?_
       clear hK K
       try simp only [Act.put,zB]
       refine' aW ?_ ?_ ?_ ?_;rotate_left 2
       ·(simp only [zA];rfl)
       ·rfl
       ·(intro w' hE;go_simp;try rfl)
       try simp only [Act.put,zB]
       obtain ⟨f1,-,f3,-⟩:=aP ur
       refine' fV ?_ (by kernel_rfl) ?_;rotate_left 1
       ·(simp only [zA];rfl)
       intro K hK
       go_simp
       refine hK.out _ _ ?_
       clear hK K
       refine cH ?_
       have rD:(w7.setCell ⟨w2.heap.size,0,none⟩ (.slice (some ⟨g,0,none⟩) (X.length+1) cap)).cell? ⟨wr.heap.size,0,none⟩=some (.int .u8 4):=(World.cell?_of_block (a:=⟨wr.heap.size,0,none⟩) ((au (show wr.heap.size≠w2.heap.size by omega)).trans k5)).trans p0
       rw [xJ] at gD rD
       have DM:∀ v:Value,(w7.setCell ⟨w2.heap.size,0,none⟩ v).heap.size=w7.heap.size:=fun v=>bD _ _ _
       have hap:vr (X ++ [⟨3,wd.at',q,wd.root,.slice a4 m4 c4,.slice none 0 0,.slice none 0 0,false⟩]) w2.heap.size (.slice (some ⟨g,0,none⟩) (N.length+1) cap) vt wr.heap.size:=by
        refine ⟨by omega,fun e=>?_,fun e=>by have:=(dL.tp.1.lt _ e).2;omega,fun x hx=>?_⟩
        ·simp only [Value.ownBlock,Option.some.injEq] at e
         rcases fq with h | h
         ·have:=b9 g h;omega
         ·have:=h.trans DL;omega
        ·rcases List.mem_append.1 hx with hx | hx
         ·obtain ⟨j,hj,rfl⟩:=List.mem_iff_getElem.1 hx
          have hj':j < N.length:=by omega
          obtain ⟨bb,be⟩:=dL.bd j _ _ (List.getElem?_eq_getElem hj) (List.getElem?_eq_getElem hj')
          exact ⟨fun e=>by have:=(bb.1.lt _ e).2;omega,fun e=>by have:=(be.1.lt _ e).2;omega⟩
         ·obtain rfl:=List.mem_singleton.1 hx
          exact ⟨nofun,nofun⟩
       have xP:wr.heap.size < w7.heap.size:=by have:=lM.size;omega
       generalize DN:w7.setCell ⟨w2.heap.size,0,none⟩ (.slice (some ⟨g,0,none⟩) (N.length+1) cap)=W8 at gD rD ⊢
       have xQ:wr.heap.size < W8.heap.size:=by rw [← DN,DM];exact xP
       have eQ:=tG gD IQ IU (by omega) (n:=N.length)
       clear e3 e4 f1 f3 ur k5 k6 k7 gF DL lM aS dc fq hnews qK lR h6 h5 u1 p0 p1 p2 p3 p4 pk dT dK z5 z6 z7 dH hz0 hz1 hz2 ni DN DM b9 gD dL
       gi_wp2_with (first
        | (refine ⟨trivial,?_⟩;gi_at_call 38;refine eQ.mono ?_;clear eQ;rintro e w9 ⟨rfl,⟨X9,AU,UT,UU,tR⟩,eW⟩;have z9:=(World.cell?_of_block (a:=⟨wr.heap.size,0,none⟩) (eW wr.heap.size xQ hap)).trans rD;clear eW hap rD;rw [DG] at tR;have h9:=tR.ext' (Ext.push w9 (.cells #[.int .i64 (N.length:Int),.int .i64 4,.bool false] 93));have hsk:=h9.sk.1;simp only at hsk;rw [hd] at hsk)
        | (gi_at_builtin;refine wpListIn_append_own_at _ rfl _ _ 88 rfl (w2.heap.size+1) 93 i108 _ 3 24 Tryz.underlying88 XT hw0 XU hw2 rfl (by decide) (.slice PS d cs) d (S.flatMap ed) rfl hsk ⟨w9.heap.size,0,none⟩ 1 1 (ed ⟨N.length,4,false⟩) rfl rfl (na w9 (ed ⟨N.length,4,false⟩) 93) (by simp [ed,Value.oneCell']) (by have:Go.maxLen=9223372036854775807:=rfl;omega) (by omega) (by have:=h9.uv;simp at this ⊢;omega) ?_;intro v' w10 tS fo _ hv';obtain ⟨g',cap',rfl⟩:=ownsRow_succ tS;obtain ⟨TX,tT⟩:=h9.push (o:=⟨N.length,4,false⟩) ⟨fo.os,fo.tape,fo.output,fo.size,fo.block⟩ (by simp only;rw [hd];exact tS) (by rcases hv' with e | e;exact .inl (by rw [← e];rfl);exact .inr (by simpa [Value.ownBlock] using e));simp only at tT;rw [hd] at tT))
       exact ⟨⟨i+1,_,_,_,_,_,congrArg (Value.int .i64) (by omega),hlt,hrun,pw,hsz',tT⟩,by show _ - Int.toNat _ < _ - Int.toNat _;omega⟩
  ·have hnil:ws.drop i=[]:=List.drop_eq_nil_of_le (by omega)
   rw [hnil] at hrun
   obtain ⟨N,T,S⟩:=s'
   obtain ⟨tQ,cn,rfl⟩:=fk dL.nd.1
   obtain ⟨UJ,ct,rfl⟩:=fk dL.tp.1
   obtain ⟨PS,cs,rfl⟩:=fk dL.sk.1
   obtain ⟨v1,v2,v3,v4⟩:=aP dL.c7
   have hs2:w.heap.size < w2.heap.size:=(Array.getElem?_eq_some_iff.1 zH).1
   have iA:wr.heap[w.heap.size]?=some (.cells #[.slice none 0 0,.slice none 0 0] 26):=(dL.ext.block _ hs2).trans zH
   obtain ⟨a1,a2,a3,a4⟩:=aP iA
   have Qd:=hsz.stack
   simp only at Qd xx
   rcases List.eq_nil_or_concat S with rfl | ⟨S,o,rfl⟩
   ·have oh:iO ws=.ok N T:=by rw [← hrun];rfl
    obtain ⟨hown,fw,hr2⟩:=dL.rel
    have dV:=dL.ext
    have QW:∀ b,(b < w2.heap.size→F b)→(b < w.heap.size→b=1)∧b≠w.heap.size:=by
     intro b hg
     rw [← hF] at hg
     refine ⟨fun hlt=>hg (by omega) (by simp;omega),fun e=>?_⟩
     have:=hg (by omega) (by simp;omega)
     omega
    simp only [List.length_nil] at *
    clear hrun oq jf DI dL xZ hsz hm hwr
    gi_wp2
    refine bodyPost_ret (results36 _ _ w.heap.size (.slice tQ X.length cn) (.slice UJ T.length ct) (.int .i64 0) (.int .i64 0) rfl rfl rfl (bE _ _ iA)) rfl ?_
    refine ⟨cF (hx1.trans (hx2.trans dV)) _ _,?_⟩
    rw [oh]
    have hne:∀ g,(Value.slice tQ X.length cn).ownBlock=some g→g≠w.heap.size:=fun g hg=>by have:=(fw g hg).1;omega
    exact ⟨_,_,_,_,_,rfl,hown.mono (fun b _ hg=>⟨⟨(QW b hg.1).1,hg.2⟩,(au (QW b hg.1).2).trans (au (QW b hg.1).2)⟩) (fun b hb=>(au (hne b hb)).trans (au (hne b hb))),fun g hg=>⟨by have:=(fw g hg).1;omega,by rw [bD,bD];exact (fw g hg).2⟩,
     hr2.mono fun b _ hg=>⟨⟨(QW b hg.1).1,hg.2⟩,(au (QW b hg.1).2).trans (au (QW b hg.1).2)⟩⟩
   ·rw [List.concat_eq_append] at *
    have Ob:o.node < N.length:=xZ o (by simp)
    obtain ⟨gs,cap,oG,⟨s0,s1,s2⟩,sf⟩:=dL.last
    simp only [Value.slice.injEq] at oG
    obtain ⟨rfl,-,rfl⟩:=oG
    obtain ⟨gn,cn',x,y,Jp,hx,hy,hcell,fw⟩:=dL.node Ob
    simp only [Value.slice.injEq] at Jp
    obtain ⟨rfl,-,rfl⟩:=Jp
    have c1:=hcell 1 (by decide)
    have c1:wr.cell? ⟨gn,o.node * 9+1,none⟩=some (.int .i64 (x.at':Int)):=c1
    have hat:=(dL.lk _ _ _ hx hy).at'
    have oh:iO ws=.bad y.at' 4:=by
     rw [← hrun,eE]
     simp only [List.getLast?_append,List.getLast?_singleton,Option.some_or]
     have hy:N[o.node]?=some y:=hy
     rw [hy]
     rfl
    have xJ:X.length=N.length:=dL.len
    have dV:=dL.ext
    have UK:w2.heap.size≠w.heap.size:=by omega
    have QV:gs≠w.heap.size:=by have:=cP dL.sk (g:=gs) rfl;omega
    have UL:gn≠w.heap.size:=by have:=cP dL.nd (g:=gn) rfl;omega
    simp only [List.length_append,List.length_cons,List.length_nil] at Qd Ob ⊢
    clear hrun oq jf DI dL xZ hsz hm hwr hcell fw sf hx hy s1 s2
    generalize hd:S.length=d at *
    generalize hk:o.node=k at *
    gi_wp2
    rw [wpIn_wide]
    have hdd:(d:Int) < (d:Int)+1:=by omega
    have XV:IntKind.i64.wrap (d:Int)=(d:Int):=cJ (by omega) (by omega)
    have aar:IntKind.i64.wrap ((d:Int)+1 - 1)=(d:Int):=by rw [show ((d:Int)+1 - 1)=d by omega];exact XV
    refine aZ (by kernel_rfl) [] (fun u v=>v.cell? ⟨w2.heap.size,0,none⟩=u.cell? ⟨w2.heap.size,0,none⟩∧v.cell? ⟨gs,d * 3,none⟩=u.cell? ⟨gs,d * 3,none⟩∧v.cell? ⟨gn,k * 9+1,none⟩=u.cell? ⟨gn,k * 9+1,none⟩) [(0,true),(1,true),(2,true),(3,true),(4,true),(5,true),(6,true),(7,true),(8,true),(9,true),(10,true),(11,true),(12,true),(13,false),(14,true),(15,true)]
     (by kernel_rfl) (by kernel_rfl) (by kernel_rfl) (fun _=>⟨rfl,rfl,rfl⟩) (fun _ _ _ h1 h2=>⟨h2.1.trans h1.1,h2.2.1.trans h1.2.1,h2.2.2.trans h1.2.2⟩) ?_
    iterate 5 (
     refine' aW ?_ ?_ ?_ ?_;rotate_left 2
     ·(simp only [zA];rfl)
     ·rfl
     ·(intro w' hE;have q1:=hE.1.trans v1;have q2:=hE.2.1.trans s0;have q3:=hE.2.2.trans c1;go_simp;try rfl)
     try simp only [Act.put,zB])
    refine' aW (v:=.int .i64 ((d:Int)+1)) ?_ ?_ ?_ ?_;rotate_left 1
    ·(simp only [zA];rfl)
    ·rfl
    ·(intro w' hE;go_simp)
    try simp only [Act.put,zB]
    refine' aW (v:=.int .i64 (d:Int)) ?_ ?_ ?_ ?_;rotate_left 1
    ·(simp only [zA];rfl)
    ·rfl
    ·(intro w' hE;go_simp)
    try simp only [Act.put,zB]
    iterate 6 (
     refine' aW ?_ ?_ ?_ ?_;rotate_left 2
     ·(simp only [zA];rfl)
     ·rfl
     ·(intro w' hE;have q1:=hE.1.trans v1;have q2:=hE.2.1.trans s0;have q3:=hE.2.2.trans c1;go_simp;try rfl)
     try simp only [Act.put,zB])
    refine' bL ?_ ?_;rotate_left 1
    ·(simp only [zA];rfl)
    intro K hK
    go_simp
    refine hK.out _ _ ⟨World.cell?_of_block ((au UK).trans (au UK)),World.cell?_of_block ((au QV).trans (au QV)),World.cell?_of_block ((au UL).trans (au UL))⟩ ?_
    clear hK K
    try simp only [Act.put,zB]
    iterate 2 (
     refine' aW ?_ ?_ ?_ ?_;rotate_left 2
     ·(simp only [zA];rfl)
     ·rfl
     ·(intro w' hE;go_simp;try rfl)
     try simp only [Act.put,zB])
    refine cH ?_
    gi_wp2
    refine bodyPost_ret (results36 _ _ w.heap.size (.slice none 0 0) (.slice none 0 0) (.int .i64 (y.at':Int)) (.int .i64 4) rfl rfl rfl (bE _ _ iA)) rfl ?_
    exact ⟨cF (dS (hx1.trans (hx2.trans dV))) _ _,(by rw [oh];first | done | rfl)⟩
theorem IV (s:ByteArray) (w:World) (hs:s.data.toList.length > 65536) :
  CallsIn Fence.wide 7 Tryz.prog 21 #[.string s] w (rA w (fun b=>b=1) (.bad 0 2)):=by
 have hx1:Ext w (w.alloc (.cells #[.slice none 0 0,.slice none 0 0] 26)):=Ext.push w _
 have ZO:=World.alloc_heap_new w (.cells #[.slice none 0 0,.slice none 0 0] 26)
 obtain ⟨a0,a1,a2,a3⟩:=aP ZO
 have hs1:(65536:Int) < ((s.size:Nat):Int):=by
  have:s.size=s.data.toList.length:=rfl
  omega
 clear hs
 refine callsIn_of_wp Tryz.func21 rfl trivial ?_ rfl
 simp only [Tryz.ntmps21,Nat.reduceAdd,Nat.reduceSub,zC]
 gi_wp2
 exact bodyPost_ret (results36 _ _ w.heap.size (.slice none 0 0) (.slice none 0 0) (.int .i64 0) (.int .i64 2) rfl rfl rfl ZO) rfl ⟨hx1,rfl⟩
theorem IW (s:ByteArray) (w:World) (hm:w.cell? ⟨1,0,none⟩=some (.int .i64 mx)) (hs:s.data.toList.length≤65536) (hb:0≤(bn s.data.toList).2) :
  CallsIn Fence.wide 7 Tryz.prog 21 #[.string s] w (rA w (fun b=>b=1) (.bad (bn s.data.toList).2.toNat 4)):=by
 have hx1:Ext w (w.alloc (.cells #[.slice none 0 0,.slice none 0 0] 26)):=Ext.push w _
 have hsz:s.size=s.data.toList.length:=rfl
 have kS:=tP (mx:=mx) s (by omega) (w.alloc (.cells #[.slice none 0 0,.slice none 0 0] 26)) (aD hx1 hm)
 generalize (bn s.data.toList).2=bad at kS hb ⊢
 generalize (bn s.data.toList).1=ws at kS
 have hs1:((s.size:Nat):Int)≤65536:=by omega
 clear hsz hs
 refine callsIn_of_wp Tryz.func21 rfl trivial ?_ rfl
 simp only [Tryz.ntmps21,Nat.reduceAdd,Nat.reduceSub,zC]
 gi_wp2_with (refine ⟨trivial,?_⟩;gi_at_call 37;refine (callsIn_wide.2 kS).mono ?_;clear kS;rintro e w2 ⟨ad,c,rfl,hx2,hwr⟩;have zH:=(hx2.block w.heap.size (by simp)).trans (World.alloc_heap_new w (.cells #[.slice none 0 0,.slice none 0 0] 26));obtain ⟨a0,a1,a2,a3⟩:=aP zH)
 refine bodyPost_ret (results36 _ _ w.heap.size (.slice none 0 0) (.slice none 0 0) (.int .i64 bad) (.int .i64 4) rfl rfl rfl (bE _ _ zH)) rfl ⟨cF (hx1.trans hx2) _ _,?_⟩
 show _=Ending.returned (.tuple #[.agg #[.slice none 0 0,.slice none 0 0],.int .i64 (bad.toNat:Int),.int .i64 4])
 rw [Int.toNat_of_nonneg hb]
theorem BS (s:ByteArray) (w:World) (hm:w.cell? ⟨1,0,none⟩=some (.int .i64 mx)):CallsIn Fence.wide 7 Tryz.prog 21 #[.string s] w (rA w (fun b=>b=1) (xK s.data.toList)):=by
 unfold xK
 by_cases h1:s.data.toList.length > 65536
 ·rw [if_pos h1]
  exact IV s w h1
 ·rw [if_neg h1]
  by_cases h2:0≤(bn s.data.toList).2
  ·rw [if_pos h2]
   exact IW (mx:=mx) s w hm (by omega) h2
  ·rw [if_neg h2]
   refine E4 (mx:=mx) s w hm (by omega) h2 rfl ?_ ?_ ?_
   ·have:=fG (s.data.toList.length+1) s.data.toList 0 []
    simp only [List.length_nil] at this
    unfold bn
    omega
   ·exact ib _ _ _ _ fun w hw=>by simp at hw
   ·exact kZ _ _ _ _ fun w hw=>by simp at hw
end R3
namespace R3
open Go Go.Proofs Sx
def Nd.mn (x:Nd):Mn:=⟨x.kind,x.at',x.text,x.root,x.names,x.body.getD [],x.els.getD [],x.has⟩
def mh (x:Nd):AV:=.ag [.u8 x.kind,.int (x.at':Int),.s x.text,.b x.root,x.names,.ro 1 (aF (x.body.getD [])),.ro 1 (aF (x.els.getD [])),.b x.has,.u8 x.hole]
theorem TY {x:Nd} (h:x.hole=0):mh x=x.mn.av:=by unfold mh;rw [h];rfl
theorem ng:∀ (t:Ts) (m:Nat),(t.arr m).map Nd.mn=jO m t
 | .nil,m=>rfl
 | .leaf w k,m=>by simp only [Ts.arr,jO,List.map_cons,ng k];rfl
 | .blk w b e k,m=>by simp only [Ts.arr,jO,List.map_cons,List.map_append,ng b,ng k];rfl
 | .alt w b l c e k,m=>by simp only [Ts.arr,jO,List.map_cons,List.map_append,ng b,ng c,ng k];rfl
theorem k9:∀ (t:Ts) (m:Nat),∀ x ∈ t.arr m,x.hole=0∧∃ w ∈ t.flat,x.names=w.names
 | .nil,m,x,h=>by cases h
 | .leaf w k,m,x,h=>by
  rcases List.mem_cons.1 h with rfl | h
  ·exact ⟨rfl,w,List.mem_cons_self ..,rfl⟩
  ·obtain ⟨h1,v,hv,h2⟩:=k9 k _ x h
   exact ⟨h1,v,List.mem_cons_of_mem _ hv,h2⟩
 | .blk w b e k,m,x,h=>by
  rcases List.mem_cons.1 h with rfl | h
  ·exact ⟨rfl,w,List.mem_cons_self ..,rfl⟩
  ·rcases List.mem_append.1 h with h | h
   ·obtain ⟨h1,v,hv,h2⟩:=k9 b _ x h
    exact ⟨h1,v,List.mem_cons_of_mem _ (List.mem_append_left _ hv),h2⟩
   ·obtain ⟨h1,v,hv,h2⟩:=k9 k _ x h
    exact ⟨h1,v,List.mem_cons_of_mem _ (List.mem_append_right _ (List.mem_cons_of_mem _ hv)),h2⟩
 | .alt w b l c e k,m,x,h=>by
  rcases List.mem_cons.1 h with rfl | h
  ·exact ⟨rfl,w,List.mem_cons_self ..,rfl⟩
  ·rcases List.mem_append.1 h with h | h
   ·obtain ⟨h1,v,hv,h2⟩:=k9 b _ x h
    exact ⟨h1,v,List.mem_cons_of_mem _ (List.mem_append_left _ hv),h2⟩
   ·rcases List.mem_append.1 h with h | h
    ·obtain ⟨h1,v,hv,h2⟩:=k9 c _ x h
     exact ⟨h1,v,List.mem_cons_of_mem _ (List.mem_append_right _ (List.mem_cons_of_mem _ (List.mem_append_left _ hv))),h2⟩
    ·obtain ⟨h1,v,hv,h2⟩:=k9 k _ x h
     exact ⟨h1,v,List.mem_cons_of_mem _ (List.mem_append_right _ (List.mem_cons_of_mem _ (List.mem_append_right _ (List.mem_cons_of_mem _ hv)))),h2⟩
theorem fI:∀ (t:Ts) (m:Nat),∀ x ∈ t.arr m,(x.body.getD []).length≤t.size∧(x.els.getD []).length≤t.size
 | .nil,m,x,h=>by cases h
 | .leaf w k,m,x,h=>by
  simp only [Ts.size]
  rcases List.mem_cons.1 h with rfl | h
  ·exact ⟨Nat.zero_le _,Nat.zero_le _⟩
  ·have:=fI k _ x h
   omega
 | .blk w b e k,m,x,h=>by
  simp only [Ts.size]
  rcases List.mem_cons.1 h with rfl | h
  ·have h1:((iz w (b.aL (m+1))).body.getD []).length=(b.aL (m+1)).length:=rfl
   have h2:((iz w (b.aL (m+1))).els.getD []).length=0:=rfl
   have:=cG b (m+1)
   omega
  ·rcases List.mem_append.1 h with h | h
   ·have:=fI b _ x h
    omega
   ·have:=fI k _ x h
    omega
 | .alt w b l c e k,m,x,h=>by
  simp only [Ts.size]
  rcases List.mem_cons.1 h with rfl | h
  ·have h1:((je w (b.aL (m+1)) (c.aL (m+1+b.size))).body.getD []).length=(b.aL (m+1)).length:=rfl
   have h2:((je w (b.aL (m+1)) (c.aL (m+1+b.size))).els.getD []).length=(c.aL (m+1+b.size)).length:=rfl
   have:=cG b (m+1)
   have:=cG c (m+1+b.size)
   omega
  ·rcases List.mem_append.1 h with h | h
   ·have:=fI b _ x h
    omega
   ·rcases List.mem_append.1 h with h | h
    ·have:=fI c _ x h
     omega
    ·have:=fI k _ x h
     omega
end R3
namespace eG
open Go Go.Proofs Sx
variable {mx:Int}
def tU:Code:=(Tryz.f39.body).getD .skip
def IX (run:RunT) (a b:UInt8) (d:Bool) (e f g i:UInt8) (j:Bool) (k:UInt8) (l:List UInt8) (m n o p q s t u w x:AV) (y:List AV) (z A:AV) (B:Int):Option AV :=
 run ((bP 8 tU []).getD []) (St.bX [(6,.cell (.ptr 6 0)),(8,.cell (.ptr 8 0))] [(6,some (cT a b d e f g i j k l)),(8,some (cV m n o p q s t u w x)),(113,some [.own 713000 58 9 y,.val z,.val A,.val (.int B)])])
def xR (run:RunT) (a b:UInt8) (d:Bool) (e f g i:UInt8) (j:Bool) (k:UInt8) (l:List UInt8) (m n:UInt8) (o:Bool) (p q s t:UInt8) (u:Bool) (w:UInt8) (x:List UInt8) (y z A B D E G H I:AV) (J:List AV) (L:AV) (M N:Int):Option AV :=
 run ((bP 19 tU []).getD []) (St.bX [(0,.cell (.ptr 113 0)),(5,.cell (.ptr 5 0)),(6,.cell (.ptr 6 0)),(7,.cell (.ptr 7 0))] [(5,some (cT a b d e f g i j k l)),(6,some (cT m n o p q s t u w x)),(7,some (cN y z A B D E G H I)),(113,some [.own 713000 58 9 J,.val L,.val (.int M),.val (.int N)])])
def IY (run:RunT) (a b:UInt8) (d:Bool) (e f g i:UInt8) (j:Bool) (k:UInt8) (l:List UInt8) (m n:UInt8) (o:Bool) (p q s t:UInt8) (u:Bool) (w:UInt8) (x:List UInt8) (y:List AV) (z:AV) (A B:Int):Option AV :=
 run ((bP 27 tU []).getD []) (St.bX [(5,.cell (.ptr 5 0)),(6,.cell (.ptr 6 0))] [(5,some (cT a b d e f g i j k l)),(6,some (cT m n o p q s t u w x)),(113,some [.own 713000 58 9 y,.val z,.val (.int A),.val (.int B)])])
def BU (run:RunT) (a b:UInt8) (d:Bool) (e f g i:UInt8) (j:Bool) (k:UInt8) (l:List UInt8) (m n o p q s t u w x y z A B D E G H I J L M N O P Q R T U:AV) (V:List AV) (W Y Z:AV):Option AV :=
 run ((bP 23 tU []).getD []) (St.bX [(0,.cell (.ptr 113 0)),(6,.cell (.ptr 6 0)),(7,.cell (.ptr 7 0)),(11,.cell (.ptr 11 0)),(12,.cell (.ptr 12 0))] [(6,some (cT a b d e f g i j k l)),(7,some (cN m n o p q s t u w)),(11,some (cV x y z A B D E G H I)),(12,some (cV J L M N O P Q R T U)),(113,some [.own 713000 58 9 V,.val W,.val Y,.val (Z)])])
def BV (run:RunT) (a b:UInt8) (d:Bool) (e f g i:UInt8) (j:Bool) (k:UInt8) (l:List UInt8) (m n o p q s t u w x:AV) (y:List AV) (z A B:AV):Option AV :=
 run ((bP 26 tU []).getD []) (St.bX [(6,.cell (.ptr 6 0)),(11,.cell (.ptr 11 0))] [(6,some (cT a b d e f g i j k l)),(11,some (cV m n o p q s t u w x)),(113,some [.own 713000 58 9 y,.val z,.val A,.val (B)])])
def Jr (a:Int) (b d:UInt8) (e:Bool) (f g i j:UInt8) (k:Bool) (l:UInt8) (m:List UInt8) (n:List AV) (o:AV) (p q:Int) (c:aq) (r:RunT):Option AV :=
 (lS n.length (.int a)).bind fun s=>(conv .i64 (AV.cell (n.getD s .un) 0)).bind fun t=>(aH .eql t (.int 0)).bind fun u=>ah u
 ((Ny (AV.cell (n.getD s .un) 2)).bind fun w=>(c 54 [.ag [.u8 b,.u8 d,.b e,.u8 f,.u8 g,.u8 i,.u8 j,.b k,.u8 l,.s m],w]).bind fun x=>(aV x 0).bind fun y=>(aV x 1).bind fun z=>(AV.aI 10 y).bind fun A=>(aH .geq z (.int 0)).bind fun B=>ah B
 ((aH .add (AV.cell (n.getD s .un) 1) z).bind fun D=>(AV.one D).bind fun E=>IX r 0 0 false 0 0 0 0 false 0 [] (gt A 0) (gt A 1) (gt A 2) (gt A 3) (gt A 4) (gt A 5) (gt A 6) (gt A 7) (gt A 8) (gt A 9) n o E 5)
 (IX r 0 0 false 0 0 0 0 false 0 [] (gt A 0) (gt A 1) (gt A 2) (gt A 3) (gt A 4) (gt A 5) (gt A 6) (gt A 7) (gt A 8) (gt A 9) n o (.int p) q))
 ((aH .eql t (.int 1)).bind fun G=>ah G
 ((c 55 [.ag [.u8 b,.u8 d,.b e,.u8 f,.u8 g,.u8 i,.u8 j,.b k,.u8 l,.s m]]).bind fun H=>(aH .eql H (.int 0)).bind fun I=>ah I
 ((AV.one (AV.cell (n.getD s .un) 1)).bind fun J=>some (.tu [.ag [.u8 b,.u8 d,.b e,.u8 f,.u8 g,.u8 i,.u8 j,.b k,.u8 l,.s m],.ag [.ro 9 n,o,J,.int 6]]))
 ((conv .u8 H).bind fun L=>(lS n.length (.int a)).bind fun M=>(AV.one L).bind fun N=>(c 56 [.ag [.u8 b,.u8 d,.b e,.u8 f,.u8 g,.u8 i,.u8 j,.b k,.u8 l,.s m]]).bind fun O=>(AV.aI 10 O).bind fun P=>some (.tu [.ag [gt P 0,gt P 1,gt P 2,gt P 3,gt P 4,gt P 5,gt P 6,gt P 7,gt P 8,gt P 9],.ag [.ro 9 (n.set M (.ag [AV.cell (n.getD M .un) 0,AV.cell (n.getD M .un) 1,AV.cell (n.getD M .un) 2,AV.cell (n.getD M .un) 3,AV.cell (n.getD M .un) 4,AV.cell (n.getD M .un) 5,AV.cell (n.getD M .un) 6,AV.cell (n.getD M .un) 7,N])),o,.int p,.int q]])))
 ((aH .eql t (.int 2)).bind fun Q=>ah Q
 (xR r b d e f g i j k l m 0 0 false 0 0 0 0 false 0 [] (AV.cell (n.getD s .un) 0) (AV.cell (n.getD s .un) 1) (AV.cell (n.getD s .un) 2) (AV.cell (n.getD s .un) 3) (AV.cell (n.getD s .un) 4) (AV.cell (n.getD s .un) 5) (AV.cell (n.getD s .un) 6) (AV.cell (n.getD s .un) 7) (AV.cell (n.getD s .un) 8) n o p q)
 ((aH .eql t (.int 3)).bind fun R=>ah R
 (xR r b d e f g i j k l m 0 0 false 0 0 0 0 false 0 [] (AV.cell (n.getD s .un) 0) (AV.cell (n.getD s .un) 1) (AV.cell (n.getD s .un) 2) (AV.cell (n.getD s .un) 3) (AV.cell (n.getD s .un) 4) (AV.cell (n.getD s .un) 5) (AV.cell (n.getD s .un) 6) (AV.cell (n.getD s .un) 7) (AV.cell (n.getD s .un) 8) n o p q)
 (IY r b d e f g i j k l m 0 0 false 0 0 0 0 false 0 [] n o p q))))
theorem ZP (a b d e f g i j k l m n o p q) {r:AV} (h:Jr a b d e f g i j k l m n o p q (ae (C mx) Tryz.prog) (af (C mx) Tryz.prog 39 Tryz.f39)=some r):ae (C mx) Tryz.prog 39 [.un,.int a,.ag [.u8 b,.u8 d,.b e,.u8 f,.u8 g,.u8 i,.u8 j,.b k,.u8 l,.s m],.ag [.ro 9 n,o,.int p,.int q]]=some r :=
 aj (fun _ _=>by kernel_rfl) h
def IZ (a b:UInt8) (d:Bool) (e f g i:UInt8) (j:Bool) (k:UInt8) (l:List UInt8) (m n o p q s t u w x:AV) (y:List AV) (z A:AV) (B:Int) (c:aq) (r:RunT):Option AV :=
 some (.tu [.ag [m,n,o,p,q,s,t,u,w,x],.ag [.ro 9 y,z,A,.int B]])
def BW (a b:UInt8) (d:Bool) (e f g i:UInt8) (j:Bool) (k:UInt8) (l:List UInt8) (m n:UInt8) (o:Bool) (p q s t:UInt8) (u:Bool) (w:UInt8) (x:List UInt8) (y z A B D E G H I:AV) (J:List AV) (L:AV) (M N:Int) (c:aq) (r:RunT):Option AV :=
 (c 22 [.un,E,.ag [.u8 a,.u8 b,.b d,.u8 e,.u8 f,.u8 g,.u8 i,.b j,.u8 k,.s l],.ag [.ro 9 J,L,.int M,.int N]]).bind fun O=>(aV O 0).bind fun P=>(aV O 1).bind fun Q=>(AV.aI 4 Q).bind fun R=>(AV.aI 10 P).bind fun T=>(aH .eql (gt R 3) (.int 0)).bind fun U=>ah U
 ((c 22 [.un,G,.ag [.u8 a,.u8 b,.b d,.u8 e,.u8 f,.u8 g,.u8 i,.b j,.u8 k,.s l],.ag [.ro 9 (AV.elems (gt R 0)),gt R 1,gt R 2,gt R 3]]).bind fun V=>(aV V 0).bind fun W=>(aV V 1).bind fun Y=>(AV.aI 4 Y).bind fun Z=>(AV.aI 10 W).bind fun v0=>BU r m n o p q s t u w x y z A B D E G H I (gt T 0) (gt T 1) (gt T 2) (gt T 3) (gt T 4) (gt T 5) (gt T 6) (gt T 7) (gt T 8) (gt T 9) (gt v0 0) (gt v0 1) (gt v0 2) (gt v0 3) (gt v0 4) (gt v0 5) (gt v0 6) (gt v0 7) (gt v0 8) (gt v0 9) (AV.elems (gt Z 0)) (gt Z 1) (gt Z 2) (gt Z 3))
 (BU r m n o p q s t u w x y z A B D E G H I (gt T 0) (gt T 1) (gt T 2) (gt T 3) (gt T 4) (gt T 5) (gt T 6) (gt T 7) (gt T 8) (gt T 9) (.u8 a) (.u8 b) (.b d) (.u8 e) (.u8 f) (.u8 g) (.u8 i) (.b j) (.u8 k) (.s l) (AV.elems (gt R 0)) (gt R 1) (gt R 2) (gt R 3))
def Qf (a b:UInt8) (d:Bool) (e f g i:UInt8) (j:Bool) (k:UInt8) (l:List UInt8) (m n:UInt8) (o:Bool) (p q s t:UInt8) (u:Bool) (w:UInt8) (x:List UInt8) (y:List AV) (z:AV) (A B:Int) (c:aq) (r:RunT):Option AV :=
 some (.tu [.ag [.u8 a,.u8 b,.b d,.u8 e,.u8 f,.u8 g,.u8 i,.b j,.u8 k,.s l],.ag [.ro 9 y,z,.int A,.int B]])
def BX (a b:UInt8) (d:Bool) (e f g i:UInt8) (j:Bool) (k:UInt8) (l:List UInt8) (m n o p q s t u w x y z A B D E G H I J L M N O P Q R T U:AV) (V:List AV) (W Y Z:AV) (c:aq) (r:RunT):Option AV :=
 (aH .eql Z (.int 0)).bind fun v0=>(az v0 true ((fM [.i,.i,.b,.i,.i,.i,.i,.b,.i,.s] .neq (.ag [x,y,z,A,B,D,E,G,H,I]) (.ag [J,L,M,N,O,P,Q,R,T,U])).bind fun v1=>some v1) (.b false)).bind fun v2=>ah v2
 ((AV.one n).bind fun v3=>BV r a b d e f g i j k l x y z A B D E G H I V W v3 (.int 7))
 (BV r a b d e f g i j k l x y z A B D E G H I V W Y Z)
def Qg (a b:UInt8) (d:Bool) (e f g i:UInt8) (j:Bool) (k:UInt8) (l:List UInt8) (m n o p q s t u w x:AV) (y:List AV) (z A B:AV) (c:aq) (r:RunT):Option AV :=
 some (.tu [.ag [m,n,o,p,q,s,t,u,w,x],.ag [.ro 9 y,z,A,B]])
theorem Nu (a b d e f g i j k l m n o p q s t u w x y z A B) {r:AV} (h:IZ a b d e f g i j k l m n o p q s t u w x y z A B (ae (C mx) Tryz.prog) (af (C mx) Tryz.prog 39 Tryz.f39)=some r):IX (af (C mx) Tryz.prog 39 Tryz.f39) a b d e f g i j k l m n o p q s t u w x y z A B=some r :=
 ak (fun _ _=>by kernel_rfl) h
theorem I0 (a b d e f g i j k l m n o p q s t u w x y z A B D E G H I J L M N) {r:AV} (h:BW a b d e f g i j k l m n o p q s t u w x y z A B D E G H I J L M N (ae (C mx) Tryz.prog) (af (C mx) Tryz.prog 39 Tryz.f39)=some r):xR (af (C mx) Tryz.prog 39 Tryz.f39) a b d e f g i j k l m n o p q s t u w x y z A B D E G H I J L M N=some r :=
 ak (fun _ _=>by kernel_rfl) h
theorem Qh (a b d e f g i j k l m n o p q s t u w x y z A B) {r:AV} (h:Qf a b d e f g i j k l m n o p q s t u w x y z A B (ae (C mx) Tryz.prog) (af (C mx) Tryz.prog 39 Tryz.f39)=some r):IY (af (C mx) Tryz.prog 39 Tryz.f39) a b d e f g i j k l m n o p q s t u w x y z A B=some r :=
 ak (fun _ _=>by kernel_rfl) h
theorem I1 (a b d e f g i j k l m n o p q s t u w x y z A B D E G H I J L M N O P Q R T U V W Y Z) {r:AV} (h:BX a b d e f g i j k l m n o p q s t u w x y z A B D E G H I J L M N O P Q R T U V W Y Z (ae (C mx) Tryz.prog) (af (C mx) Tryz.prog 39 Tryz.f39)=some r):BU (af (C mx) Tryz.prog 39 Tryz.f39) a b d e f g i j k l m n o p q s t u w x y z A B D E G H I J L M N O P Q R T U V W Y Z=some r :=
 ak (fun _ _=>by kernel_rfl) h
theorem BZ (a b d e f g i j k l m n o p q s t u w x y z A B) {r:AV} (h:Qg a b d e f g i j k l m n o p q s t u w x y z A B (ae (C mx) Tryz.prog) (af (C mx) Tryz.prog 39 Tryz.f39)=some r):BV (af (C mx) Tryz.prog 39 Tryz.f39) a b d e f g i j k l m n o p q s t u w x y z A B=some r :=
 ak (fun _ _=>by kernel_rfl) h
end eG
namespace eG
open Go Go.Proofs Sx R3
variable {mx:Int}
def stA (N:List Nd) (top:AV) (a e:Int):AV:=.ag [.ro 9 (N.map mh),top,.int a,.int e]
def LF (mx:Int) (L:List Nat) (j:Nat) (c:Ctx) (N:List Nd) (top:AV) (a e:Int):Option AV :=
 Dt (af (C mx) Tryz.prog 22 Tryz.f22) (.ro 1 (aF L)) (j:Int) (.u8 c.st) (.u8 c.el) (.b c.en) (.u8 c.at') (.u8 c.qu) (.u8 c.pa) (.u8 c.su) (.b c.es) (.u8 c.da) (.s c.nm) 0 0 false 0 0 0 0 false 0 [] (N.map mh) top (.int a) (.int e)
theorem Qi {L:List Nat} {j:Nat} {c:Ctx} {N:List Nd} {top:AV} {a e:Int} {r:AV}
  (h:zN (.ro 1 (aF L)) (j:Int) (.u8 c.st) (.u8 c.el) (.b c.en) (.u8 c.at') (.u8 c.qu) (.u8 c.pa) (.u8 c.su) (.b c.es) (.u8 c.da) (.s c.nm) 0 0 false 0 0 0 0 false 0 [] (N.map mh) top (.int a) (.int e) (ae (C mx) Tryz.prog) (af (C mx) Tryz.prog 22 Tryz.f22)=some r):LF mx L j c N top a e=some r :=
 TL _ _ _ _ _ _ _ _ _ _ _ _ _ _ _ _ _ _ _ _ _ _ _ _ _ _ h
theorem Qj (L:List Nat):eP (.ro 1 (aF L))=some (.int (L.length:Int)):=by simp [eP,aF]
theorem l6 (a b c d:AV):AV.aI 4 (.ag [a,b,c,d])=some [a,b,c,d]:=rfl
theorem DO {L:List Nat} {j:Nat} (h:L.length≤j) (c:Ctx) (N:List Nd) (top:AV) (a e:Int):LF mx L j c N top a e=some (.tu [c.ay,stA N top a e]):=by
 apply Qi
 have e1:decide ((j:Int) < (L.length:Int))=false:=by rw [decide_eq_false_iff_not];omega
 simp only [zN,Qj,Option.bind_some,bo,e1,gm,ai,Bool.false_eq_true,if_false]
 rfl
theorem lN {L:List Nat} {j:Nat} (c:Ctx) (N:List Nd) (top:AV) (a:Int) {e:Int} (he:e≠0):LF mx L j c N top a e=some (.tu [c.ay,stA N top a e]):=by
 apply Qi
 have e1:(e == 0)=false:=by simpa using he
 simp only [zN,Qj,Option.bind_some,bo,bA,e1,aA,Bool.and_false,ai,Bool.false_eq_true,if_false]
 rfl
theorem gf {L:List Nat} {j i:Nat} (hi:L[j]?=some i) (hL:L.length≤1000000) {c d:Ctx} {N N':List Nd} {top:AV} {a a' e':Int} {r:AV}
  (hn:ae (C mx) Tryz.prog 39 [.un,.int (i:Int),c.ay,stA N top a 0]=some (.tu [d.ay,stA N' top a' e'])) (h:LF mx L (j+1) d N' top a' e'=some r):LF mx L j c N top a 0=some r:=by
 apply Qi
 have hj:j < L.length:=(List.getElem?_eq_some_iff.1 hi).1
 have e1:decide ((j:Int) < (L.length:Int))=true:=by rw [decide_eq_true_eq];omega
 have e3:bN ((j:Int)+1)=((j+1:Nat):Int):=by rw [cJ (by omega) (by omega)];omega
 have hx:idx 1 (.ro 1 (aF L)) (.int (j:Int))=some (.int (i:Int)):=by
  rw [lF 1 (by rw [aF,List.length_map];exact hj)]
  simp only [aF,List.getElem_map,(List.getElem?_eq_some_iff.1 hi).2]
 unfold stA at hn
 simp only [zN,Qj,Option.bind_some,bo,bA,e1,beq_self_eq_true,aA,Bool.and_self,ai,if_true,hx,yO,aC,aJ,hn,ja,jb,l6,ax,zT,kT,kU,kV,kW,bI,e3]
 exact h
theorem Mc {L:List Nat} {c:Ctx} {N:List Nd} {top:AV} {a e:Int} {r:AV} (h:LF mx L 0 c N top a e=some r):ae (C mx) Tryz.prog 22 [.un,.ro 1 (aF L),c.ay,stA N top a e]=some r:=by
 apply c22
 simp only [ZG]
 exact h
end eG
namespace EX
open Go Go.Proofs Go.RowKit Go.Shelf Sx R3 eG
variable {mx:Int}
theorem xS (x:UInt8):(wrap64 (x.toNat:Int) == 20)=(x == 20):=by
 have h:=x.toNat_lt
 have e:wrap64 (x.toNat:Int)=(x.toNat:Int):=by unfold wrap64;omega
 rw [e]
 exact zJ x
theorem fW {w:World} {F:Nat→Prop} (hG:aQ (eG.C mx) w F) (c:Ctx) (hc:lH c) (q:ByteArray) (hq:q.data.toList=c.nm):Calls Tryz.prog 20 #[dx c q] w fun e w'=>e=.returned (.bool (form c))∧Ext w w':=by
 refine Calls.mono (gJ (eG.fit mx) (c:=Tryz.f20.body.getD .skip) Tryz.func20 (by kernel_rfl) (Bb (mx:=mx) c hc) (by kernel_rfl) w F #[dx c q] hG rfl (LG (lI w F c q hq))) fun e w' he=>?_
 obtain ⟨v,rfl,hx,hr⟩:=he
 unfold eV at hr
 rw [if_pos (by kernel_rfl)] at hr
 cases hr
 exact ⟨rfl,hx⟩
theorem results11 (T:Array Value) (W:World) (N M:Nat) (x y a b x0 x1 x2 x3 x4 x5 x6 x7 x8 x9:Value) (t4:T[4]?.getD undef=.pointer (some ⟨N,0,none⟩)) (t5:T[5]?.getD undef=.pointer (some ⟨M,0,none⟩)) (t6:T[6]?.getD undef=a) (t7:T[7]?.getD undef=b) (h0:W.heap[N]?=some (.cells #[x,y] 26))
  (h1:W.heap[M]?=some (.cells #[x0,x1,x2,x3,x4,x5,x6,x7,x8,x9] 40)) :
  (results Tryz.f11 T).run Tryz.prog W=.ok (.tuple #[.agg #[x,y],.agg #[x0,x1,x2,x3,x4,x5,x6,x7,x8,x9],a,b]) W:=by
 have hr:Tryz.f11.results = #[.cell 4 26,.cell 5 40,.tmp 6,.tmp 7]:=by kernel_rfl
 have l1:(loadVar 26 ⟨N,0,none⟩).run Tryz.prog W=.ok (.agg #[x,y]) W:=by
  simp [loadVar,go_sem,(aP h0).1,(aP h0).2.1,Result.andThen]
 obtain ⟨⟨c0,c1,c2,c3,c4,c5,c6,c7,c8,c9⟩,_⟩:=bc h1
 have l2:(loadVar 40 ⟨M,0,none⟩).run Tryz.prog W=.ok (.agg #[x0,x1,x2,x3,x4,x5,x6,x7,x8,x9]) W:=by
  simp [loadVar,go_sem,c0,c1,c2,c3,c4,c5,c6,c7,c8,c9,Result.andThen]
 unfold results
 rw [hr]
 simp [t4,t5,t6,t7,Sem.run_bind,asAddr,l1,l2,Result.andThen]
theorem o8 {w:World} {F:Nat→Prop} (hG:aQ (eG.C mx) w F) {s q:ByteArray} {c:Ctx} (hc:lH c) (hq:q.data.toList=c.nm) (hf:form c=false) :
  CallsIn Fence.wide 12 Tryz.prog 11 #[.string s,dx c q] w (bJ w F (.tu [dG,(bG 0).ay,.int 0,.int 1])):=by
 have ji:=FM.first w c q
 have bB:=fW (mx:=mx) (aQ.ext' hG ji.ext (F':=F) fun _ _ h=>h) c hc q hq
 rw [hf] at bB
 clear hG
 refine callsIn_of_wp Tryz.func11 rfl trivial ?_ rfl
 simp only [Tryz.ntmps11,Nat.reduceAdd,Nat.reduceSub,zC,dx]
 gi_wp2_with (refine ⟨trivial,?_⟩;gi_at_call 20;refine (callsIn_wide.2 bB).mono ?_;clear bB;rintro e w2 ⟨rfl,hx2⟩;have hm:=ji.next hx2;obtain ⟨⟨p0,p1,p2,p3,p4,p5,p6,p7,p8,p9⟩,-⟩:=bc hm.b0;obtain ⟨a0,a1,a2,a3⟩:=aP hm.b1;obtain ⟨⟨u0,u1,u2,u3,u4,u5,u6,u7,u8,u9⟩,v0,v1,v2,v3,v4,v5,v6,v7,v8,v9⟩:=bc hm.b2;clear hx2 ji)
 exact bodyPost_ret (results11 _ _ (w.heap.size+1) (w.heap.size+1+1) _ _ _ _ _ _ _ _ _ _ _ _ _ _ rfl rfl rfl rfl (hm.eA _ _ _ _ _ _ _ _ _ _ _ _).1 (hm.eA _ _ _ _ _ _ _ _ _ _ _ _).2) rfl (hm.bad 0 1)
theorem o9 {w:World} {F:Nat→Prop} (hG:aQ (eG.C mx) w F) {s q:ByteArray} {c:Ctx} (hc:lH c) (hq:q.data.toList=c.nm) (hf:form c=true) (hst:(c.st == 20)=true) :
  CallsIn Fence.wide 12 Tryz.prog 11 #[.string s,dx c q] w (bJ w F (.tu [dG,(bG 0).ay,.int 0,.int 1])):=by
 have ji:=FM.first w c q
 have bB:=fW (mx:=mx) (aQ.ext' hG ji.ext (F':=F) fun _ _ h=>h) c hc q hq
 rw [hf] at bB
 rw [← xS] at hst
 clear hG
 refine callsIn_of_wp Tryz.func11 rfl trivial ?_ rfl
 simp only [Tryz.ntmps11,Nat.reduceAdd,Nat.reduceSub,zC,dx]
 gi_wp2_with (refine ⟨trivial,?_⟩;gi_at_call 20;refine (callsIn_wide.2 bB).mono ?_;clear bB;rintro e w2 ⟨rfl,hx2⟩;have hm:=ji.next hx2;obtain ⟨⟨p0,p1,p2,p3,p4,p5,p6,p7,p8,p9⟩,-⟩:=bc hm.b0;obtain ⟨a0,a1,a2,a3⟩:=aP hm.b1;obtain ⟨⟨u0,u1,u2,u3,u4,u5,u6,u7,u8,u9⟩,v0,v1,v2,v3,v4,v5,v6,v7,v8,v9⟩:=bc hm.b2;clear hx2 ji)
 exact bodyPost_ret (results11 _ _ (w.heap.size+1) (w.heap.size+1+1) _ _ _ _ _ _ _ _ _ _ _ _ _ _ rfl rfl rfl rfl (hm.eA _ _ _ _ _ _ _ _ _ _ _ _).1 (hm.eA _ _ _ _ _ _ _ _ _ _ _ _).2) rfl (hm.bad 0 1)
theorem mX {w:World} {F:Nat→Prop} (hG:aQ (eG.C mx) w F) {s q:ByteArray} {c:Ctx} (hc:lH c) (hq:q.data.toList=c.nm) (hf:form c=true) (hst:(c.st == 20)=false) {a er:Nat} (he:er≠0) (hp:xK s.data.toList=.bad a er) :
  CallsIn Fence.wide 12 Tryz.prog 11 #[.string s,dx c q] w (bJ w F (.tu [dG,(bG 0).ay,.int (a:Int),.int (er:Int)])):=by
 have ji:=FM.first w c q
 have bB:=fW (mx:=mx) (aQ.ext' hG ji.ext (F':=F) fun _ _ h=>h) c hc q hq
 rw [hf] at bB
 rw [← xS] at hst
 obtain ⟨hmx,-⟩:=qm hG
 have h1:decide (0=(er:Int))=false:=by simp;omega
 have h2:decide ((er:Int)=0)=false:=by simp;omega
 clear hG
 refine callsIn_of_wp Tryz.func11 rfl trivial ?_ rfl
 simp only [Tryz.ntmps11,Nat.reduceAdd,Nat.reduceSub,zC,dx]
 gi_wp2_with (first
  | (refine ⟨trivial,?_⟩;gi_at_call 20;refine (callsIn_wide.2 bB).mono ?_;clear bB;rintro e w2 ⟨rfl,hx2⟩;have hm:=ji.next hx2;obtain ⟨⟨p0,p1,p2,p3,p4,p5,p6,p7,p8,p9⟩,-⟩:=bc hm.b0;clear hx2 ji)
  | (refine ⟨trivial,?_⟩;gi_at_call 21;refine (callsIn_wide.2 (callsIn_wide.1 (BS (mx:=mx) s w2 (aD hm.ext hmx)))).mono ?_;rintro e w3 bO;rw [hp] at bO;obtain ⟨hx3,rfl⟩:=bO;clear p0 p1 p2 p3 p4 p5 p6 p7 p8 p9;obtain ⟨fS,th,pc,-⟩:=(hm.next hx3).var (.slice none 0 0) (.slice none 0 0);generalize LS:w3.alloc (.cells #[.slice none 0 0,.slice none 0 0] 26)=W4 at fS th pc;generalize ET:(W4.setCell ⟨w3.heap.size,0,none⟩ (.slice none 0 0)).setCell ⟨w3.heap.size,1,none⟩ (.slice none 0 0)=W5 at fS pc;obtain ⟨t0,t1,t2,t3⟩:=aP th;clear th pc;obtain ⟨a0,a1,a2,a3⟩:=aP fS.b1;obtain ⟨⟨u0,u1,u2,u3,u4,u5,u6,u7,u8,u9⟩,v0,v1,v2,v3,v4,v5,v6,v7,v8,v9⟩:=bc fS.b2))
 exact bodyPost_ret (results11 _ _ (w.heap.size+1) (w.heap.size+1+1) _ _ _ _ _ _ _ _ _ _ _ _ _ _ rfl rfl rfl rfl (fS.eA _ _ _ _ _ _ _ _ _ _ _ _).1 (fS.eA _ _ _ _ _ _ _ _ _ _ _ _).2) rfl (fS.bad (a:Int) (er:Int))
theorem I2 {w w2 w3 W5:World} {F:Nat→Prop} (hG:aQ (eG.C mx) w F) {q:ByteArray} {c:Ctx} (hc:lH c) (hq:q.data.toList=c.nm) (Og:FM w c q w2) (hx3:Ext w2 w3) (eu:Ext w3 W5) (fS:FM w c q W5) {nodes:List Mn} {top:List Nat} {s2 s3:Value}
  (hown:ba w3 (fun b=>(b < w2.heap.size→b=1)∧s2.ownBlock≠some b) 58 9 (nodes.map Mn.av) s2) (fw:∀ g,s2.ownBlock=some g→w2.heap.size≤g∧g < w3.heap.size) (UD:s3.oneCell'=true) (hr:Rel w3 (fun b=>(b < w2.heap.size→b=1)∧s2.ownBlock≠some b) (.ro 1 (aF top)) s3)
  {d:Ctx} {N':List Nd} {ta te:Int} (B0:ae (eG.C mx) Tryz.prog 22 [.un,.ro 1 (aF top),c.ay,.ag [.ro 9 (nodes.map Mn.av),.ro 1 (aF top),.int 0,.int 0]]=some (.tu [d.ay,stA N' (.ro 1 (aF top)) ta te])) :
  Calls Tryz.prog 22 #[.pointer (some ⟨W5.heap.size,0,none⟩),s3,dx c q] (W5.alloc (.cells #[s2,s3,.int .i64 0,.int .i64 0] 66)) fun e w7=>∃ (q':ByteArray) (a0 a1:Option Addr) (m0 m1 k0 k1 e':Nat),e=.returned (dx d q')∧q'.data.toList=d.nm∧FM w c q w7∧W5.heap.size < w7.heap.size ∧
   w7.heap[W5.heap.size]?=some (.cells #[.slice a0 m0 k0,.slice a1 m1 k1,.int .i64 ta,.int .i64 te] e' (0,0))∧Rel w7 (F8 w w2 F) (.ro 9 (N'.map mh)) (.slice a0 m0 k0)∧Rel w7 (F8 w w2 F) (.ro 1 (aF top)) (.slice a1 m1 k1):=by
 obtain ⟨hmx,NP⟩:=qm hG
 have xx:=aU hmx
 have hs2:=Og.size
 have hs3:=hx3.size
 have hs5:=eu.size
 have dK:Ext W5 (W5.alloc (.cells #[s2,s3,.int .i64 0,.int .i64 0] 66)):=Ext.push W5 _
 have hP:=World.alloc_heap_new W5 (.cells #[s2,s3,.int .i64 0,.int .i64 0] 66)
 have hsz:(W5.alloc (.cells #[s2,s3,.int .i64 0,.int .i64 0] 66)).heap.size=W5.heap.size+1:=by simp
 have tj:=fS.next dK
 generalize W5.alloc (.cells #[s2,s3,.int .i64 0,.int .i64 0] 66)=W6 at dK hP hsz tj ⊢
 have PV:∀ b,b < w3.heap.size→((b < w2.heap.size→b=1)∧s2.ownBlock≠some b)→((b < W5.heap.size∧(b < w2.heap.size→b < w.heap.size∧F b))∧s2.ownBlock≠some b)∧W6.heap[b]?=w3.heap[b]?:=fun b hb h =>
  ⟨⟨⟨by omega,fun hlt=>by have:=h.1 hlt;subst this;exact ⟨xx,NP⟩⟩,h.2⟩,(dK.block b (by omega)).trans (eu.block b hb)⟩
 have key:=mW (mx:=mx) (w:=W6) (F:=fun b=>(b < W5.heap.size∧(b < w2.heap.size→b < w.heap.size∧F b))∧s2.ownBlock≠some b)
  (aQ.ext' hG (tj.ext) (fun b hb hf=>⟨⟨by have:=fS.size;omega,fun _=>⟨hb,hf⟩⟩,fun e=>by have:=(fw b e).1;omega⟩)) (Pb:=W5.heap.size) (ty:=66) (nv:=s2) (tv:=s3) (v1:=s3) (v2:=dx c q) (at':=0) (e:=0) (u1:=.ro 1 (aF top)) (u2:=c.ay) (top:=.ro 1 (aF top)) (nodes:=nodes.map Mn.av)
  hP (fun h=>by have:=h.1.1;omega) (fun g hg=>⟨fun h=>h.2 hg,by have:=(fw g hg).2;omega,by have:=(fw g hg).2;omega⟩) (hr.mono PV) (lI _ _ c q hq) UD (hr.mono PV) (hown.mono PV (fun b hb=>(dK.block b (by have:=(fw b hb).2;omega)).trans (eu.block b (fw b hb).2))) B0
 refine Calls.mono key fun e w7 h=>?_
 obtain ⟨v,x0,x1,x2,x3,e',rfl,hb2,Tx,zG,hown2,⟨h11,hr1⟩,hr2,hr3,Tz⟩:=h
 obtain ⟨q',hq',rfl⟩:=rq zG
 obtain ⟨a0,m0,k0,rfl⟩:=ve hown2
 obtain ⟨a1,k1,rfl,_⟩:=bw hr1
 cases hr2;cases hr3
 have hsw:=hb2.size
 have same:∀ b,b < W5.heap.size→s2.ownBlock≠some b→w7.heap[b]?=W6.heap[b]?:=fun b hb ho=>hb2.block b (by omega) (by omega) ho
 have mY:∀ b,b < w2.heap.size→s2.ownBlock≠some b:=fun b hb e=>by have:=(fw b e).1;omega
 refine ⟨q',a0,a1,m0,_,k0,k1,e',rfl,hq',⟨⟨hb2.os.trans tj.ext.os,hb2.tape.trans tj.ext.tape,hb2.output.trans tj.ext.output,by have:=tj.ext.size;omega,fun b hb=>(same b (by omega) (mY b (by omega))).trans (tj.ext.block b hb)⟩,by have:=tj.size;omega,(same _ (by omega) (mY _ (by omega))).trans tj.b0,(same _ (by omega) (mY _ (by omega))).trans tj.b1,(same _ (by omega) (mY _ (by omega))).trans tj.b2⟩,by omega,Tx,?_,?_⟩
 ·refine hown2.rel (fun b hb h hlt=>?_) (fun g hg hlt=>?_)
  ·rcases h.1 (by omega) with h | h
   ·exact h.1.2 hlt
   ·exact absurd h (mY b hlt)
  ·rcases (Tz g hg).1 with h | h
   ·omega
   ·exact absurd h (mY g hlt)
 ·refine hr1.mono fun b hb h=>⟨fun hlt=>?_,rfl⟩
  rcases h.1 (by omega) with h | h
  ·exact h.1.2 hlt
  ·exact absurd h (mY b hlt)
theorem tq {w:World} {F:Nat→Prop} (hG:aQ (eG.C mx) w F) {s q:ByteArray} {c:Ctx} (hc:lH c) (hq:q.data.toList=c.nm) (hf:form c=true) (hst:(c.st == 20)=false) {nodes:List Mn} {top:List Nat} (hp:xK s.data.toList=.ok nodes top)
  {d:Ctx} {N':List Nd} {ta te:Int} (B0:ae (eG.C mx) Tryz.prog 22 [.un,.ro 1 (aF top),c.ay,.ag [.ro 9 (nodes.map Mn.av),.ro 1 (aF top),.int 0,.int 0]]=some (.tu [d.ay,stA N' (.ro 1 (aF top)) ta te])) (Fc:te≠0) :
  CallsIn Fence.wide 12 Tryz.prog 11 #[.string s,dx c q] w (bJ w F (.tu [dG,(bG 0).ay,.int ta,.int te])):=by
 have ji:=FM.first w c q
 have bB:=fW (mx:=mx) (aQ.ext' hG ji.ext (F':=F) fun _ _ h=>h) c hc q hq
 rw [hf] at bB
 rw [← xS] at hst
 obtain ⟨hmx,-⟩:=qm hG
 refine callsIn_of_wp Tryz.func11 rfl trivial ?_ rfl
 simp only [Tryz.ntmps11,Nat.reduceAdd,Nat.reduceSub,zC,dx]
 gi_wp2_with (first
  | (refine ⟨trivial,?_⟩;gi_at_call 20;refine (callsIn_wide.2 bB).mono ?_;clear bB;rintro e w2 ⟨rfl,hx2⟩;have hm:=ji.next hx2;obtain ⟨⟨p0,p1,p2,p3,p4,p5,p6,p7,p8,p9⟩,-⟩:=bc hm.b0;clear hx2 ji)
  | (refine ⟨trivial,?_⟩;gi_at_call 21;refine (callsIn_wide.2 (callsIn_wide.1 (BS (mx:=mx) s w2 (aD hm.ext hmx)))).mono ?_;rintro e w3 bO;rw [hp] at bO;obtain ⟨hx3,fH,n2,c2,l7,c3,rfl,hown,fw,hr⟩:=bO;clear p0 p1 p2 p3 p4 p5 p6 p7 p8 p9 hp;obtain ⟨fS,th,pc,jM⟩:=(hm.next hx3).var (.slice fH n2 c2) (.slice l7 top.length c3);generalize LS:w3.alloc (.cells #[.slice none 0 0,.slice none 0 0] 26)=W4 at fS th pc jM;generalize ET:(W4.setCell ⟨w3.heap.size,0,none⟩ (.slice fH n2 c2)).setCell ⟨w3.heap.size,1,none⟩ (.slice l7 top.length c3)=W5 at fS pc jM;obtain ⟨t0,t1,t2,t3⟩:=aP th;obtain ⟨z0,z1,z2,z3⟩:=aP pc;have key:=I2 (mx:=mx) hG hc hq hm hx3 jM fS hown fw rfl hr B0;have dK:Ext W5 (W5.alloc (.cells #[.slice fH n2 c2,.slice l7 top.length c3,.int .i64 0,.int .i64 0] 66)):=Ext.push W5 _;generalize Jl:W5.alloc (.cells #[.slice fH n2 c2,.slice l7 top.length c3,.int .i64 0,.int .i64 0] 66)=W6 at key dK;have z4:=aD dK z1;obtain ⟨⟨p0,p1,p2,p3,p4,p5,p6,p7,p8,p9⟩,-⟩:=bc (fS.next dK).b0;have tz:W5.heap.size≠w.heap.size+1:=(by have:=fS.size;omega);have xA:W5.heap.size≠w.heap.size+1+1:=(by have:=fS.size;omega);clear hm th pc hx3 jM fS hown fw hr B0 dK hG hmx hc hq)
  | (refine ⟨trivial,?_⟩;gi_at_call 22;refine (callsIn_wide.2 key).mono ?_;clear key;rintro e w7 ⟨q',a0,a1,m0,m1,k0,k1,e',rfl,hq',EU,Ik,Il,ud,hr1⟩;clear t0 t1 t2 t3 z0 z1 z2 z3 z4 p0 p1 p2 p3 p4 p5 p6 p7 p8 p9 LS ET Jl;have pd:Ext w7 (w7.alloc (.cells #[.int .u8 (d.st.toNat:Int),.int .u8 (d.el.toNat:Int),.bool d.en,.int .u8 (d.at'.toNat:Int),.int .u8 (d.qu.toNat:Int),.int .u8 (d.pa.toNat:Int),.int .u8 (d.su.toNat:Int),.bool d.es,.int .u8 (d.da.toNat:Int),.string q'] 40)):=Ext.push w7 _;have zK:=World.alloc_heap_new w7 (.cells #[.int .u8 (d.st.toNat:Int),.int .u8 (d.el.toNat:Int),.bool d.en,.int .u8 (d.at'.toNat:Int),.int .u8 (d.qu.toNat:Int),.int .u8 (d.pa.toNat:Int),.int .u8 (d.su.toNat:Int),.bool d.es,.int .u8 (d.da.toNat:Int),.string q'] 40);generalize PW:w7.alloc (.cells #[.int .u8 (d.st.toNat:Int),.int .u8 (d.el.toNat:Int),.bool d.en,.int .u8 (d.at'.toNat:Int),.int .u8 (d.qu.toNat:Int),.int .u8 (d.pa.toNat:Int),.int .u8 (d.su.toNat:Int),.bool d.es,.int .u8 (d.da.toNat:Int),.string q'] 40)=W9 at pd zK;have xB:=EU.next pd;have BA:=(pd.block _ Ik).trans Il;obtain ⟨⟨l0,l1,l2,l3⟩,-⟩:=kY BA;obtain ⟨⟨y0,y1,y2,y3,y4,y5,y6,y7,y8,y9⟩,-⟩:=bc zK;obtain ⟨b0,b1,b2,b3⟩:=aP xB.b1;obtain ⟨⟨u0,u1,u2,u3,u4,u5,u6,u7,u8,u9⟩,v0,v1,v2,v3,v4,v5,v6,v7,v8,v9⟩:=bc xB.b2;clear EU Ik Il zK pd;unfold dx))
 have XA:decide (0=te)=false:=by simp;omega
 obtain ⟨Im,hf2⟩:=xB.eA (.slice none 0 0) (.slice none 0 0) (.int .u8 0) (.int .u8 0) (.bool false) (.int .u8 0) (.int .u8 0) (.int .u8 0) (.int .u8 0) (.bool false) (.int .u8 0) (.string ⟨#[]⟩)
 have bO:=xB.bad (F:=F) ta te
 change bJ w F _ (.returned (.tuple #[.agg #[.slice none 0 0,.slice none 0 0],.agg #[.int .u8 0,.int .u8 0,.bool false,.int .u8 0,.int .u8 0,.int .u8 0,.int .u8 0,.bool false,.int .u8 0,.string ⟨#[]⟩],.int .i64 ta,.int .i64 te])) (cR ((W9.setCell ⟨w.heap.size+1,0,none⟩ (.slice none 0 0)).setCell ⟨w.heap.size+1,1,none⟩ (.slice none 0 0)) (w.heap.size+1+1) (.int .u8 0) (.int .u8 0) (.bool false) (.int .u8 0) (.int .u8 0) (.int .u8 0) (.int .u8 0) (.bool false) (.int .u8 0) (.string ⟨#[]⟩)) at bO
 have Io:=(cO (W:=(W9.setCell ⟨w.heap.size+1,0,none⟩ (.slice none 0 0)).setCell ⟨w.heap.size+1,1,none⟩ (.slice none 0 0)) xA (.int .u8 0) (.int .u8 0) (.bool false) (.int .u8 0) (.int .u8 0) (.int .u8 0) (.int .u8 0) (.bool false) (.int .u8 0) (.string ⟨#[]⟩)).trans ((au tz).trans ((au tz).trans BA))
 generalize PX:cR ((W9.setCell ⟨w.heap.size+1,0,none⟩ (.slice none 0 0)).setCell ⟨w.heap.size+1,1,none⟩ (.slice none 0 0)) (w.heap.size+1+1) (.int .u8 0) (.int .u8 0) (.bool false) (.int .u8 0) (.int .u8 0) (.int .u8 0) (.int .u8 0) (.bool false) (.int .u8 0) (.string ⟨#[]⟩)=Wf at Im hf2 bO Io
 obtain ⟨⟨x0,x1,x2,x3⟩,-⟩:=kY Io
 unfold cR at PX
 rw [wpIn_wide]
 clear ud hr1 hq' y0 y1 y2 y3 y4 y5 y6 y7 y8 y9 PW
 go_region_law (fail)
 all_goals gi_wp2
 all_goals first
  | exact bodyPost_ret (results11 _ _ (w.heap.size+1) (w.heap.size+1+1) (.slice none 0 0) (.slice none 0 0) (.int .i64 ta) (.int .i64 te) (.int .u8 0) (.int .u8 0) (.bool false) (.int .u8 0) (.int .u8 0) (.int .u8 0) (.int .u8 0) (.bool false) (.int .u8 0) (.string ⟨#[]⟩) rfl rfl rfl rfl Im hf2) rfl bO.drew
end EX
end
