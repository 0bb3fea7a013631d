/-
  A part of InferFragments's proof.
-/
import Derived.Test.YtgjfbalafdifgaaGreatDoorTA
import Derived.Lib.ConvBytes
import Derived.Great.BuildSlice
set_option linter.unusedVariables false
set_option linter.unusedSimpArgs false
set_option linter.unusedSectionVars false
set_option linter.unnecessarySimpa false
noncomputable section
namespace Sx
open Go Go.RowKit Go.Lib
def RR (w:World) (F:Nat→Prop) (k:Nat) (l:List AV) (xs:List Value):Prop :=
 xs.length=l.length * k∧(∀ v ∈ xs,v.oneCell'=true)∧∀ i j v,i < l.length→j < k→xs[i * k+j]?=some v→Rel w F ((l.getD i .un).cell j) v
theorem RR.mono {w w':World} {F F':Nat→Prop} {k:Nat} {l:List AV} {xs:List Value} (h:RR w F k l xs) (hw:∀ b,b < w.heap.size→F b→F' b∧w'.heap[b]?=w.heap[b]?):RR w' F' k l xs :=
 ⟨h.1,h.2.1,fun i j v hi hj hv=>(h.2.2 i j v hi hj hv).mono hw⟩
section
variable {C:cU} {P:Program} {w0:World} {F0:Fs} {nt:Nat} {st:St} {a:Act} {w:World} {H:Nat→Option Value} {σ:Nat→Option Nat} {R:Type} {K:St→Option R} {r:R} {call:Nat→List AV→Option AV} {f:Nat}
theorem um (z:List Value) (n j:Nat) (hz:0 < z.length) (hj:j < n):(madeCells z.toArray n).toList[j]?=z[j % z.length]?:=by
 have hm:j % z.length < z.length:=Nat.mod_lt _ hz
 simp [madeCells,hj,hm]
theorem uF {t:TypeId} {i:Ty} (ht:cr P t i) (F:Nat→Prop) (n:Nat) {z:Value} (h1:z.cells.toList.map E8=i.zero) (h2:z.cells.size=i.size) (h3:∀ v ∈ z.cells.toList,v.oneCell'=true) :
  RR w F i.size (List.replicate n (zeroE i)) (madeCells z.cells (n * i.size)).toList:=by
 have hz:0 < z.cells.toList.length:=by simpa [h2] using ht.pos.1
 have qy:∀ j v,(madeCells z.cells (n * i.size)).toList[j]?=some v→z.cells.toList[j % i.size]?=some v:=fun j v hv=>by
  have hj:j < n * i.size:=by
   have:=(List.getElem?_eq_some_iff.1 hv).1
   simpa [size_madeCells] using this
  have:=um z.cells.toList (n * i.size) j hz hj
  simp only [Array.toArray_toList,Array.length_toList,h2] at this
  rw [← this];exact hv
 refine ⟨by simp [size_madeCells],fun v hv=>?_,fun a b v ha hb hv=>?_⟩
 ·obtain ⟨j,hj⟩:=List.getElem?_of_mem hv
  exact h3 v (List.mem_of_getElem? (qy j v hj))
 ·have hv2:=qy _ v hv
  have e1:(a * i.size+b) % i.size=b:=by rw [Nat.mul_comm,Nat.mul_add_mod];exact Nat.mod_eq_of_lt hb
  rw [e1] at hv2
  have ha':a < n:=by simpa using ha
  have e2:(List.replicate n (zeroE i)).getD a .un=zeroE i:=by simp [List.getD,ha']
  rw [e2]
  have oI:=h3 v (List.mem_of_getElem? hv2)
  have hzb:i.zero[b]?=some (E8 v):=by rw [← h1,List.getElem?_map,hv2];rfl
  unfold zeroE
  cases iC:i.kd.agg with
  | true =>
   simp only [cond_true,AV.cell,List.getD_eq_getElem?_getD,hzb,Option.getD_some]
   exact oA v oI _ _
  | false =>
   have hs:=ht.one iC
   have hb0:b=0:=by omega
   subst hb0
   have:i.zero.headD .un=E8 v:=by
    cases hzz:i.zero with
    | nil=>rw [hzz] at hzb;cases hzb
    | cons q qs=>rw [hzz] at hzb;cases hzb;rfl
   simp only [cond_false,this]
   have hp:=oA v oI w F
   cases Uj:E8 v with
   | ag l=>rw [Uj] at hp;cases hp;cases oI
   | _=>rw [Uj] at hp;exact hp
theorem Am {n:Nat} (h:n≤big):n≤maxLen:=by unfold big at h;unfold maxLen;omega
theorem vR {o:Oper} {t:TypeId} {n c:Operand} (ho:o.op=.makeSlice t n c) (hT:∀ t i,C.ty t=some i→cr P t i) (h:Inv C w0 F0 nt st a w H σ) (hd:∀ t,o.dst=some t→t < nt)
  (hK:(match C.ty t,(C.ty t).bind fun i=>C.ty i.elem with
  | some s,some i=>(bif s.kd.qw then mk i.bytes (zeroE i) (st.get C n).aX (st.get C c).aX else none).bind fun l=>o.dst.bind fun d=>K (dn st d s.elem i.size l)
  | _,_=>none)=some r):Goes C P w0 F0 nt st a w σ K r o:=by
 split at hK
 ·rename_i s i hs hi
  rw [hs] at hi
  simp only [Option.bind_some] at hi
  have Ao:=hT s.elem i hi
  have hu:=(hT t s hs).und
  cases jf:s.kd <;> rw [jf] at hK hu <;> simp only [Kd.qw,cond_false,Option.bind_none] at hK <;> first | (cases hK;done) | skip
  simp only at hu
  simp only [cond_true] at hK
  cases hm:mk i.bytes (zeroE i) (st.get C n).aX (st.get C c).aX with
  | none=>rw [hm] at hK;cases hK
  | some l =>
   rw [hm] at hK
   simp only [Option.bind_some] at hK
   cases bz:o.dst with
   | none=>rw [bz] at hK;cases hK
   | some d =>
    rw [bz] at hK
    simp only [Option.bind_some] at hK
    unfold mk at hm
    split at hm
    ·rename_i x y hx hy
     split at hm
     ·rename_i hc
      cases hm
      obtain ⟨rfl,h0,hb⟩:=hc
      have rn:a.eval n=.int .i64 x:=by
       rcases (h.get n).aX with e | e
       ·rw [hx] at e;cases e
       ·rw [hx] at e;exact e.l8 rfl
      have rc:a.eval c=.int .i64 x:=by
       rcases (h.get c).aX with e | e
       ·rw [hy] at e;cases e
       ·rw [hy] at e;exact e.l8 rfl
      obtain ⟨inf,z,q1,q2,q3,q4,q5,q6,q7⟩:=Ao.info
      have hxn:x=(x.toNat:Int):=by omega
      have hb2:i.bytes * x.toNat≤big:=by
       have:((i.bytes * x.toNat:Nat):Int)≤(big:Int):=by
        rw [Int.natCast_mul,← hxn];exact hb
       omega
      have Ra:x.toNat≤big:=Nat.le_trans (Nat.le_mul_of_pos_left _ Ao.pos.2) hb2
      have hrun:=run_make (P:=P) w t s.elem inf z hu q1 q4 .i64 .i64 x x h0 (Int.le_refl _) (by rw [q3];unfold big at hb;omega) (by unfold big at Ra;omega)
      rw [q2] at hrun
      have hrow:=World.ownsRow_lit (base:=0) (size:=i.size) (e:=s.elem) w (madeCells z.cells (x.toNat * i.size)) x.toNat (Nat.zero_le _) (Am Ra) (size_madeCells _ _)
      have dV:Ext w (w.alloc (.cells (madeCells z.cells (x.toNat * i.size)) s.elem)):=Ext.push w _
      obtain ⟨H',hI⟩:=h.dn dV d (hd d bz) (e:=s.elem) (k:=i.size) (l:=List.replicate x.toNat (zeroE i)) (x:=.slice (some ⟨w.heap.size,0,none⟩) x.toNat x.toNat)
       (fun g hg=>by simp [Value.ownBlock] at hg;subst hg;simp [World.alloc,-World.alloc_eq]) (fun F _=>by
        have qE:=uF (w:=w.alloc (.cells (madeCells z.cells (x.toNat * i.size)) s.elem)) Ao F x.toNat q5 q6 q7
        exact ⟨Ao.pos.1,_,by simpa using hrow,qE.2.1,qE.2.2⟩)
      refine gl ?_ hK (by rw [bz];exact hI) (by unfold eh;rw [ho];exact dV) ⟨fun s _=>rfl,.inr (.inr rfl)⟩
      simp only [execOp,ho,rn,rc,Sem.run_bind,hrun,Result.andThen_ok]
      rfl
     ·cases hm
    ·cases hm
 ·cases hK
theorem NX {o:Oper} {t u:TypeId} {x:Operand} (ho:o.op=.convert t u x) (hT:∀ t i,C.ty t=some i→cr P t i) (h:Inv C w0 F0 nt st a w H σ) (hd:∀ t,o.dst=some t→t < nt)
  (hs:C.kd t=some .str) (hl:C.kd u=some .slice) (hK:iR C t u (st.get C x) o.dst st K=some r):Goes C P w0 F0 nt st a w σ K r o:=by
 unfold iR at hK
 rw [hs,hl] at hK
 simp only at hK
 obtain ⟨i1,e1,f1⟩:=cL hs
 obtain ⟨i2,e2,f2⟩:=cL hl
 rw [e2] at hK
 simp only [Option.bind_some] at hK
 split at hK
 ·rename_i h3
  obtain ⟨i3,e3,f3⟩:=cL h3
  have Ca:=(hT t i1 e1).und
  rw [f1] at Ca
  have Mu:=(hT u i2 e2).und
  rw [f2] at Mu
  have Fb:=(hT i2.elem i3 e3).und
  rw [f3] at Fb
  obtain ⟨z,hz,hK⟩:=bW hK
  have rx:=jg h x Ny rfl hz
  unfold Ny at hz
  split at hz
  ·rename_i l hl2
   cases hz
   rw [hl2] at rx
   generalize pH:a.eval x=X at rx
   cases rx with
   | s q =>
    have hrun:=run_convert_string_bytes w t u i2.elem q Ca Mu Fb
    have dV:Ext w (bytesWorld w i2.elem q):=⟨rfl,rfl,rfl,by rw [bytesWorld_size];omega,fun b hb=>bytesWorld_at_old w _ _ b hb⟩
    refine gl ?_ hK ((h.ext dV).put hd (v:=.slice (some ⟨w.heap.size,0,none⟩) q.size (grownCap w q.size 0 i2.elem)) ?_) (by
     unfold eh
     rw [ho]
     simp only
     split
     ·trivial
     ·exact dV) ⟨fun s _=>rfl,.inr (.inr rfl)⟩
    ·simp only [execOp,ho,pH,Sem.run_bind,hrun,Result.andThen_ok]
     rfl
    ·show Rel _ _ _ _
     have hlen:(q.data.toList.map AV.u8).length=q.size:=by simp
     rw [← hlen]
     refine .ro 1 _ _ 0 _ (strCells q) (by omega) (by rw [hlen];exact grownCap_ge w q.size 0 i2.elem) ⟨fun hh=>?_,fun i v hv=>?_,fun s hs=>?_⟩ (by rw [strCells_length,hlen];omega) (fun j v hv=>?_) (strCells_oneCell q) (fun i j v hi hj hv=>?_)
     ·have:=h.below.size;omega
     ·intro e;have:=(h.hown i v _ hv e).2;omega
     ·have:=(h.sown s _ hs).2;omega
     ·have hj:j < q.size:=by have:=(List.getElem?_eq_some_iff.1 hv).1;rwa [strCells_length] at this
      rw [Nat.zero_add,bytesWorld_cell w i2.elem q j hj]
      unfold strCells at hv
      rw [List.getElem?_map] at hv
      have hj':j < q.data.toList.length:=by simpa using hj
      rw [List.getElem?_eq_getElem hj'] at hv
      cases hv
      rw [List.getD_eq_getElem?_getD,List.getElem?_eq_getElem hj']
      rfl
     ·have NM:j=0:=by omega
      subst NM
      rw [hlen] at hi
      have hi':i < q.data.toList.length:=by simpa using hi
      simp only [strCells,Nat.mul_one,Nat.add_zero] at hv
      rw [List.getElem?_map,List.getElem?_eq_getElem hi'] at hv
      cases hv
      have:(List.map AV.u8 q.data.toList).getD i .un=.u8 q.data.toList[i]:=by rw [List.getD_eq_getElem?_getD,List.getElem?_map,List.getElem?_eq_getElem hi'];rfl
      rw [this]
      exact .u8 _
  ·cases hz
 ·cases hK
theorem D9 {o:Oper} {c:Call} {x y:Operand} {t u:TypeId} {ts:List TypeId} (ho:o.op=.call c) (hc:c.callee=.builtin .append) (ha:c.args.toList=[x,y]) (Jb:c.argTypes.toList=t :: u :: ts)
  (hT:∀ t i,C.ty t=some i→cr P t i) (h:Inv C w0 F0 nt st a w H σ) (hd:∀ t,o.dst=some t→t < nt)
  (hK:(match C.ty t,(C.ty t).bind fun i=>C.ty i.elem,C.kd u with
  | some s,some i,some kd =>
   match kd with
   | .slice | .str=>bif s.kd.qw then
    match st.get C x with
    | .cell (.own id e k l)=>bif Nat.beq e s.elem && Nat.beq k i.size && !((st.get C y).ids.any (Nat.beq id)) then (app i.bytes i.size l (st.get C y).aX).bind fun m=>o.dst.bind fun d=>K (dn ((st.ju (st.get C y).ids).kl id) d e k m) else none
    | .cell (.val .aG)=>(app i.bytes i.size [] (st.get C y).aX).bind fun m=>o.dst.bind fun d=>K (dn (st.ju (st.get C y).ids) d s.elem i.size m)
    | _=>none
    else none
   | _=>none
  | _,_,_=>none)=some r):Goes C P w0 F0 nt st a w σ K r o:=by
 have e1:c.args = #[x,y]:=by rw [← Array.toArray_toList (xs:=c.args),ha]
 have e0:c.argTypes[0]?=some t:=by rw [← Array.getElem?_toList,Jb];rfl
 have Uk:c.argTypes[1]?=some u:=by rw [← Array.getElem?_toList,Jb];rfl
 split at hK
 case h_2=>cases hK
 rename_i s i kd hs hi jf
 rw [hs] at hi
 simp only [Option.bind_some] at hi
 have Ao:=hT s.elem i hi
 have Vd:=(hT t s hs).und
 obtain ⟨iu,hiu,Ve⟩:=cL jf
 have Vf:=(hT u iu hiu).und
 rw [Ve] at Vf
 have hu:P.underlying u=some .string∨∃ e',P.underlying u=some (.slice e'):=by
  cases kd <;> first | exact .inl Vf | exact .inr ⟨_,Vf⟩ | cases hK
 obtain ⟨inf,z,q1,q2,q3,q4,q5,q6,q7⟩:=Ao.info
 have hK:(bif s.kd.qw then
    match st.get C x with
    | .cell (.own id e k l)=>bif Nat.beq e s.elem && Nat.beq k i.size && !((st.get C y).ids.any (Nat.beq id)) then (app i.bytes i.size l (st.get C y).aX).bind fun m=>o.dst.bind fun d=>K (dn ((st.ju (st.get C y).ids).kl id) d e k m) else none
    | .cell (.val .aG)=>(app i.bytes i.size [] (st.get C y).aX).bind fun m=>o.dst.bind fun d=>K (dn (st.ju (st.get C y).ids) d s.elem i.size m)
    | _=>none
    else none)=some r:=by
  cases kd <;> first | exact hK | cases hK
 cases Vg:s.kd <;> rw [Vg] at hK Vd <;> simp only [Kd.qw,cond_false] at hK <;> first | (cases hK;done) | skip
 simp only [cond_true] at hK
 simp only at Vd
 have key:∀ (F1 F2:Nat→Prop) (l m:List AV) (v:Value),a.eval x=v→app i.bytes i.size l (st.get C y).aX=some m→ba w F2 s.elem i.size l v→Rel w F1 (st.get C y).aX (a.eval y) →
   ∃ v' w',(execOp a.eval o).run P w=.ok (.value v') w'∧w.grownBy w' v.ownBlock∧(∀ g,v'.ownBlock=some g→(v.ownBlock=some g∨w.heap.size≤g)∧g < w'.heap.size) ∧
    ∀ F:Nat→Prop,(∀ b,b < w.heap.size→F2 b→F b∧v.ownBlock≠some b)→(∀ b,b < w.heap.size→F1 b→F b∧v.ownBlock≠some b)→ba w' F s.elem i.size m v':=by
  intro F1 F2 l m v hv hm hown hy
  obtain ⟨v',w',r1,r2,r3,r4⟩:=NN (P:=P) t u o.type s.elem inf z Vd q1 q4 (by rw [q2];exact q6) (by rw [q2];exact Ao.pos.1) hu c.argTypes e0 Uk (by rw [q3];exact Ao.pos.2) (l:=l) (l':=m) (by rw [q2,q3];exact hm) (by rw [q2];exact hown) hy
  refine ⟨v',w',?_,r2,r3,fun F h1 h2=>by have:=r4 F h1 h2;rwa [q2] at this⟩
  simp only [execOp,ho,resolve,hc,e1]
  simp [invoke,builtin,hv,r1]
 have eW:∀ w',(gO c.args.toList=true→Ext w w')→eh C st o σ w w':=fun w' hx=>by
  unfold eh
  rw [ho]
  obtain ⟨ce,ar,Rb⟩:=c
  simp only at hc hx
  subst hc
  show if gO ar.toList=true then Ext w w' else True
  split
  ·rename_i hn;exact hx hn
  ·trivial
 have Mv:∀ m l,app i.bytes i.size l (st.get C y).aX=some m→(st.get C y).told=true:=fun m l hm=>by
  cases cK:st.get C y with
  | cell c=>cases c with
   | val v=>rfl
   | own i e k l=>rfl
   | _=>rw [cK] at hm;cases hm
  | agg cs=>rw [cK] at hm;cases hm
  | _=>rw [cK] at hm;cases hm
 split at hK
 ·rename_i id e k l cK
  cases hb:(Nat.beq e s.elem && Nat.beq k i.size && !((st.get C y).ids.any (Nat.beq id))) with
  | false=>rw [hb] at hK;cases hK
  | true =>
   rw [hb] at hK
   simp only [cond_true] at hK
   rw [Bool.and_eq_true,Bool.and_eq_true] at hb
   have he:=Nat.eq_of_beq_eq_true hb.1.1
   have hk:=Nat.eq_of_beq_eq_true hb.1.2
   have JW:id ∉ (st.get C y).ids:=fun hm=>by
    have h2:=hb.2
    simp only [Bool.not_eq_true',List.any_eq_false] at h2
    exact h2 id hm (Nat.beq_refl id)
   subst he hk
   cases hm:app i.bytes i.size l (st.get C y).aX with
   | none=>rw [hm] at hK;cases hK
   | some m =>
    rw [hm] at hK
    simp only [Option.bind_some] at hK
    cases bz:o.dst with
    | none=>rw [bz] at hK;cases hK
    | some d =>
     rw [bz] at hK
     simp only [Option.bind_some] at hK
     have hr:=h.get x
     rw [cK] at hr
     obtain ⟨JX,b9⟩:=hr
     obtain ⟨H1,h1,kn,kp,yw⟩:=h.vM (st.get C y).ids
     have Vh:=yw id _ JW JX
     have km:∀ (ids:List Nat) (e k:Nat) (l:List AV),id ∉ ids→aY.ju (.cell (.own id e k l)) ids=.cell (.own id e k l):=by
      intro ids e k l hn
      induction ids with
      | nil=>rfl
      | cons j r ih =>
       have Vi:id≠j:=fun e=>hn (e ▸ List.mem_cons_self ..)
       have:aY.fz j (.cell (.own id e k l))=.cell (.own id e k l):=by simp [aY.fz,Cell.fz,aR,Vi]
       simp only [aY.ju,List.foldl_cons,this]
       exact ih fun hm=>hn (List.mem_cons_of_mem _ hm)
     have hx1:=kn _ _ (by rw [← cK];exact h.get x:bS w (Fr w0.heap.size F0 H σ) H σ (.cell (.own id s.elem i.size l)) (a.eval x))
     rw [km _ _ _ _ JW] at hx1
     have hy:=dy (kn _ _ (h.get y)) (Mv m l hm) (fun i hi=>hi)
     obtain ⟨v',w',r1,r2,r3,r4⟩:=key _ _ l m _ rfl hm hx1.2 hy
     have FT:=h1.oz id d (a.eval x).ownBlock (w':=w') (x:=v') r2.os r2.tape r2.output r2.size r2.block (fun g hg=>⟨_,Vh,hg⟩) r3
     have hF:∀ b,b < w.heap.size→Fr w0.heap.size F0 H1 σ b→Fr w0.heap.size F0 (upd (Sx.erase (Sx.erase H1 id) d) d v') σ b∧(a.eval x).ownBlock≠some b:=fun b hb hf=>by
      refine ⟨⟨hf.1,fun i v hv=>?_,hf.2.2⟩,hf.2.1 id _ Vh⟩
      rcases dM hv with ⟨_,rfl⟩ | ⟨_,hv⟩
      ·intro e
       rcases (r3 b e).1 with h | h
       ·exact hf.2.1 id _ Vh h
       ·omega
      ·exact hf.2.1 i v (aK (aK hv).2).2
     have hnn:gO c.args.toList=true→Ext w w':=fun hn=>by
      exfalso
      rw [ha] at hn
      unfold gO at hn
      split at hn
      ·rename_i e;cases e;cases cK
      ·cases hn
     refine gl r1 hK (H':=upd (Sx.erase (Sx.erase H1 id) d) d v') (σ':=σ) ?_ (eW w' hnn) ⟨fun s _=>rfl,.inr (.inr rfl)⟩
     rw [bz]
     exact FT.put (d:=some d) (fun t ht=>by cases ht;exact hd _ bz) ⟨by unfold upd;simp,r4 _ hF hF⟩
 ·rename_i cK
  cases hm:app i.bytes i.size [] (st.get C y).aX with
  | none=>rw [hm] at hK;cases hK
  | some m =>
   rw [hm] at hK
   simp only [Option.bind_some] at hK
   cases bz:o.dst with
   | none=>rw [bz] at hK;cases hK
   | some d =>
    rw [bz] at hK
    simp only [Option.bind_some] at hK
    have hr:=h.get x
    rw [cK] at hr
    have pH:a.eval x=.slice none 0 0:=by
     generalize a.eval x=X at hr
     cases hr;rfl
    obtain ⟨H1,h1,kn,kp,yw⟩:=h.vM (st.get C y).ids
    have hy:=dy (kn _ _ (h.get y)) (Mv m [] hm) (fun i hi=>hi)
    obtain ⟨v',w',r1,r2,r3,r4⟩:=key _ (Fr w0.heap.size F0 H1 σ) [] m _ pH hm ⟨Ao.pos.1,[],World.ownsRow_nil w 0 _ _,by simp,fun i j v hi=>by simp at hi⟩ hy
    have dV:Ext w w':=⟨r2.os,r2.tape,r2.output,r2.size,fun b hb=>r2.block b hb (by simp [Value.ownBlock])⟩
    obtain ⟨H',hI⟩:=h1.dn dV d (hd d bz) (e:=s.elem) (k:=i.size) (l:=m) (x:=v')
     (fun g hg=>⟨(r3 g hg).1.resolve_left (fun h=>by simp [Value.ownBlock] at h),(r3 g hg).2⟩)
     (fun F hF=>r4 F (fun b hb hf=>⟨hF b hb hf,by simp [Value.ownBlock]⟩) (fun b hb hf=>⟨hF b hb hf,by simp [Value.ownBlock]⟩))
    exact gl r1 hK (by rw [bz];exact hI) (eW w' fun _=>dV) ⟨fun s _=>rfl,.inr (.inr rfl)⟩
 ·cases hK
end
theorem mz {α:Type} (xs news:List α) (p q:Nat) (h:p+news.length≤xs.length) :
  (xs.take p ++ news ++ xs.drop (p+news.length))[q]?=if p≤q∧q < p+news.length then news[q - p]? else xs[q]?:=by
 simp only [List.getElem?_append,List.length_append,List.length_take,List.getElem?_take,List.getElem?_drop]
 have m:min p xs.length=p:=by omega
 rw [m]
 by_cases h1:q < p
 ·simp [h1,show q < p+news.length by omega,show ¬ p≤q by omega]
 ·by_cases h2:q < p+news.length
  ·simp [h1,h2,show p≤q by omega]
  ·simp [h2,show p+news.length+(q - (p+news.length))=q by omega]
theorem RR.upd {w:World} {F:Nat→Prop} {k:Nat} {l:List AV} {xs:List Value} (h:RR w F k l xs) (n:Nat) (hn:n < l.length) (ev:AV) (off:Nat) (news:List Value) (dE:off+news.length≤k) (h1:∀ v ∈ news,v.oneCell'=true)
  (hr:∀ j v,j < k→(if off≤j∧j < off+news.length then news[j - off]? else xs[n * k+j]?)=some v→Rel w F (ev.cell j) v) :
  RR w F k (l.set n ev) (xs.take (n * k+off) ++ news ++ xs.drop (n * k+off+news.length)):=by
 have hle:(n+1) * k≤l.length * k:=Nat.mul_le_mul_right _ hn
 rw [Nat.add_mul,Nat.one_mul] at hle
 have hx:n * k+off+news.length≤xs.length:=by rw [h.1];omega
 refine ⟨by simp [h.1];omega,fun v hv=>?_,fun i j v hi hj hv=>?_⟩
 ·rcases List.mem_append.1 hv with hv | hv
  ·rcases List.mem_append.1 hv with hv | hv
   ·exact h.2.1 v (List.mem_of_mem_take hv)
   ·exact h1 v hv
  ·exact h.2.1 v (List.mem_of_mem_drop hv)
 ·rw [mz _ _ _ _ hx] at hv
  rw [List.length_set] at hi
  by_cases JY:i=n
  ·subst JY
   have e:(l.set i ev).getD i .un=ev:=by simp [List.getD,hn]
   rw [e]
   refine hr j v hj ?_
   by_cases hc:off≤j∧j < off+news.length
   ·rw [if_pos hc]
    rw [if_pos (by omega)] at hv
    rw [show i * k+j - (i * k+off)=j - off by omega] at hv
    exact hv
   ·rw [if_neg hc]
    rw [if_neg (by omega)] at hv
    exact hv
  ·have e:(l.set n ev).getD i .un=l.getD i .un:=by simp [List.getD,List.getElem?_set,Ne.symm JY]
   rw [e]
   refine h.2.2 i j v hi hj ?_
   rw [if_neg ?_] at hv
   ·exact hv
   ·rcases Nat.lt_or_gt_of_ne JY with hlt | uB
    ·have:(i+1) * k≤n * k:=Nat.mul_le_mul_right _ hlt
     rw [Nat.add_mul,Nat.one_mul] at this
     omega
    ·have:(n+1) * k≤i * k:=Nat.mul_le_mul_right _ uB
     rw [Nat.add_mul,Nat.one_mul] at this
     omega
section
variable {C:cU} {P:Program} {w0:World} {F0:Fs} {nt:Nat} {st:St} {a:Act} {w:World} {H:Nat→Option Value} {σ:Nat→Option Nat} {R:Type} {K:St→Option R} {r:R} {call:Nat→List AV→Option AV} {f:Nat}
theorem Rel.cells {F:Nat→Prop} {e:AV} {x:Value} (h:Rel w F e x) {t:TypeId} {i:Ty} (ht:cr P t i) (iC:i.kd.agg=true→x=.agg x.cells) (hna:i.kd.agg=false→x.oneCell'=true) (hl:x.cells.toList.length=i.size) (j:Nat) (v:Value) (hj:j < i.size) (hv:x.cells.toList[j]?=some v) :
  Rel w F (e.cell j) v:=by
 cases hh:i.kd.agg with
 | true =>
  have hx:=iC hh
  cases h with
  | ag l vs hl2 h1 hr =>
   simp only [Value.cells] at hv
   exact hr j v hv
  | _=>first | cases hx | (rename_i h1;rw [hx] at h1;cases h1)
 | false =>
  have h1:=hna hh
  have hs:=ht.one hh
  have NM:j=0:=by omega
  subst NM
  rw [iU h1] at hv
  cases hv
  cases e with
  | ag l=>cases h;cases h1
  | _=>exact h
theorem yx (hT:∀ t i,C.ty t=some i→cr P t i) (h:Inv C w0 F0 nt st a w H σ) {t:TypeId} {i:Ty} (hi:C.ty t=some i) {F:Nat→Prop} {Kc:List AV→Option R}:∀ (ps:List (Nat×Operand)),
   (∀ p ∈ ps,(st.get C p.2).told=true→Rel w F (st.get C p.2).aX (a.eval p.2))→∀ (l:List AV) (cur:Array Value),RR w F i.size l cur.toList→j6 C t i.kd.agg st ps l Kc=some r →
   ∃ l' cur',Instr.fill (fun n=>some (n * i.size,i.size)) cur (ps.map fun p=>(p.1,a.eval p.2))=some cur'∧RR w F i.size l' cur'.toList∧l'.length=l.length∧Kc l'=some r
 | [],_,l,cur,qE,hK=>⟨l,cur,rfl,qE,rfl,hK⟩
 | (n,x) :: ps,hrel,l,cur,qE,hK=>by
  simp only [j6] at hK
  cases hb:(Nat.blt n l.length && (st.get C x).told) with
  | false=>rw [hb] at hK;cases hK
  | true =>
   rw [hb] at hK
   simp only [cond_true] at hK
   rw [Bool.and_eq_true] at hb
   have hn:n < l.length:=by have:=hb.1;unfold Nat.blt at this;exact Nat.le_of_ble_eq_true this
   obtain ⟨i',new,hi',hK,hlen,my,iC,hagg,_,D8⟩:=eJ hT (h.get x) hK
   have:i'=i:=by rw [hi] at hi';exact (Option.some.inj hi').symm
   subst this
   rw [D8 hb.2] at hK
   have hx:=hrel (n,x) (List.mem_cons_self ..) hb.2
   have ht:=hT t i' hi
   have hsz:(a.eval x).cells.toList.length=i'.size:=by rw [my.1,hlen]
   have hle:(n+1) * i'.size≤l.length * i'.size:=Nat.mul_le_mul_right _ hn
   rw [Nat.add_mul,Nat.one_mul] at hle
   have Al:cur.toList.length=l.length * i'.size:=qE.1
   have oI:=hagg.2
   have rO:=foldl_set (n * i'.size) (a.eval x).cells.toList 0 cur (by rw [hsz,Nat.add_zero,← Array.length_toList,Al];omega)
   have hs2:(a.eval x).cells.zipIdx.foldl (fun cs (c,j)=>cs.setIfInBounds (n * i'.size+j) c) cur=((a.eval x).cells.toList.zipIdx 0).foldl (fun (cs:Array Value) p=>cs.setIfInBounds (n * i'.size+p.2) p.1) cur:=by
    rw [← Array.foldl_toList,Array.toList_zipIdx]
   have Vj:=qE.upd n hn (st.get C x).aX 0 (a.eval x).cells.toList (by rw [hsz];omega) my.one (fun j v hj hv=>by
    rw [if_pos ⟨Nat.zero_le _,by rw [hsz];omega⟩] at hv
    exact hx.cells ht hagg.1 oI hsz j v hj hv)
   obtain ⟨l',cur',h1,h2,h3,h4⟩:=yx hT h hi ps (fun p hp=>hrel p (List.mem_cons_of_mem _ hp)) (l.set n (st.get C x).aX) ((a.eval x).cells.zipIdx.foldl (fun cs (c,j)=>cs.setIfInBounds (n * i'.size+j) c) cur) (by
    rw [hs2,rO]
    simpa using Vj) hK
   refine ⟨l',cur',?_,h2,by rw [h3];simp,h4⟩
   simp only [List.map_cons,Instr.fill]
   have n1:¬ ((a.eval x).cells.size≠i'.size):=by rw [← Array.length_toList,hsz];simp
   have n2:¬ (n * i'.size+(a.eval x).cells.size > cur.size):=by rw [← Array.length_toList,hsz,← Array.length_toList (xs:=cur),Al];omega
   simp only [ne_eq,n1,n2,or_self,if_false,decide_false,Bool.or_self,Bool.false_eq_true]
   exact h1
theorem FX (hT:∀ t i,C.ty t=some i→cr P t i) {t:TypeId} {agg:Bool} {Kc:List AV→Option R}:∀ (ps:List (Nat×Operand)) (l:List AV),j6 C t agg st ps l Kc=some r→l=[]→ps=[]
 | [],_,_,_=>rfl
 | (n,x) :: ps,l,hK,hl=>by
  subst hl
  have:Nat.blt n 0=false:=rfl
  simp [j6,this] at hK
theorem uo {o:Oper} {t:TypeId} {n:Nat} {ps:Array (Nat×Operand)} (ho:o.op=.buildSlice t n ps) (hT:∀ t i,C.ty t=some i→cr P t i) (h:Inv C w0 F0 nt st a w H σ) (hd:∀ t,o.dst=some t→t < nt)
  (hK:(match C.ty t,(C.ty t).bind fun i=>C.ty i.elem with
  | some s,some i=>bif s.kd.qw && Nat.ble (n * i.size) 16777216 then j6 C s.elem i.kd.agg st ps.toList (List.replicate n (zeroE i)) fun l =>
    o.dst.bind fun d=>K (dn (st.ju (ps.toList.flatMap fun p=>(st.get C p.2).ids)) d s.elem i.size l) else none
  | _,_=>none)=some r):Goes C P w0 F0 nt st a w σ K r o:=by
 split at hK
 ·rename_i s i hs hi
  rw [hs] at hi
  simp only [Option.bind_some] at hi
  have Ao:=hT s.elem i hi
  have hu:=(hT t s hs).und
  cases jf:s.kd <;> rw [jf] at hK hu <;> simp only [Kd.qw,Bool.false_and,cond_false] at hK <;> first | (cases hK;done) | skip
  simp only at hu
  simp only [Bool.true_and] at hK
  cases hle:Nat.ble (n * i.size) 16777216 with
  | false=>rw [hle] at hK;cases hK
  | true =>
   rw [hle] at hK
   simp only [cond_true] at hK
   have vJ:=Nat.le_of_ble_eq_true hle
   obtain ⟨inf,z,q1,q2,q3,q4,q5,q6,q7⟩:=Ao.info
   obtain ⟨H1,h1,kn,kp,yw⟩:=h.vM (ps.toList.flatMap fun p=>(st.get C p.2).ids)
   have hzr:=uF (w:=w) Ao (Fr w0.heap.size F0 H1 σ) n q5 q6 q7
   obtain ⟨l',cur',g1,g2,g3,g4⟩:=yx (F:=Fr w0.heap.size F0 H1 σ) (a:=a) hT h hi ps.toList (fun p hp ht=>dy (kn _ _ (h.get p.2)) ht fun i hi=>List.mem_flatMap.2 ⟨p,hp,hi⟩) _ _ hzr hK
   have hl':l'.length=n:=by rw [g3];simp
   cases bz:o.dst with
   | none=>rw [bz] at g4;cases g4
   | some d =>
    rw [bz] at g4
    simp only [Option.bind_some] at g4
    have dV:Ext w (w.alloc (.cells cur' s.elem)):=Ext.push w _
    have hcs:cur'.size=n * i.size:=by rw [← Array.length_toList,g2.1,hl']
    have hrow:=World.ownsRow_lit (base:=0) (size:=i.size) (e:=s.elem) w cur' n (Nat.zero_le _) (by
     have:=Ao.pos.1
     have:n * 1≤n * i.size:=Nat.mul_le_mul_left _ this
     unfold maxLen;omega) hcs
    have hrun:(Instr.buildSlice t n (ps.map fun (i,x)=>(i,a.eval x))).run P w=.ok (.slice (some ⟨w.heap.size,0,none⟩) n n) (w.alloc (.cells cur' s.elem)):=by
     by_cases h0:n * i.size=0
     ·have Vb:n=0:=by
       rcases Nat.mul_eq_zero.1 h0 with h | h
       ·exact h
       ·have:=Ao.pos.1;omega
      subst Vb
      have hps:=FX hT ps.toList _ hK rfl
      have Vk:ps = #[]:=by rw [← Array.toArray_toList (xs:=ps),hps]
      subst Vk
      have hc0:cur' = #[]:=Array.eq_empty_of_size_eq_zero (by simpa using hcs)
      subst hc0
      simp [Instr.buildSlice,run_underlying hu,Go.sizeOf,typeInfo,q1,Instr.fill,newRow,Array.range_zero']
     ·refine run_buildSlice w t s.elem n _ cur' inf z hu q1 q4 (by rw [q2];omega) (by rw [q2];exact h0) ?_
      rw [q2,Array.toList_map]
      exact g1
    obtain ⟨H',hI⟩:=h1.dn dV d (hd d bz) (e:=s.elem) (k:=i.size) (l:=l') (x:=.slice (some ⟨w.heap.size,0,none⟩) n n)
     (fun g hg=>by simp [Value.ownBlock] at hg;subst hg;simp [World.alloc,-World.alloc_eq])
     (fun F hF=>by
      have h3:=g2.mono (w':=w.alloc (.cells cur' s.elem)) (F':=F) fun b hb hf=>⟨hF b hb hf,dV.block b hb⟩
      exact ⟨Ao.pos.1,cur'.toList,by rw [hl'];exact hrow,h3.2.1,h3.2.2⟩)
    refine gl ?_ g4 (by rw [bz];exact hI) (by unfold eh;rw [ho];exact dV) ⟨fun s _=>rfl,.inr (.inr rfl)⟩
    simp only [execOp,ho,Sem.run_bind,hrun,Result.andThen_ok]
    rfl
 ·cases hK
theorem Inv.ek (h:Inv C w0 F0 nt st a w H σ) {s g:Nat} (hs:σ s=some g) {w':World} (NF:w'.os=w.os) (ym:w'.tape=w.tape) (hout:w'.output=w.output) (hsz:w'.heap.size=w.heap.size)
  (hblk:∀ b,b≠g→w'.heap[b]?=w.heap[b]?) {cs:List Cell} {vs:List Value} {e:Nat} (hg:w'.heap[g]?=some (.cells vs.toArray e (0,0))) (uf:CR w (Fr w0.heap.size F0 H σ) H σ cs vs) :
  Inv C w0 F0 nt (st.ek s cs) a w' H σ:=by
 have hF:∀ b,b < w.heap.size→Fr w0.heap.size F0 H σ b→Fr w0.heap.size F0 H σ b∧w'.heap[b]?=w.heap[b]?:=fun b _ hf=>⟨hf,hblk b fun e=>hf.2.2 s (by rw [e];exact hs)⟩
 have hH:∀ i y,H i=some y→H i=some y∧∀ b,y.ownBlock=some b→w'.heap[b]?=w.heap[b]?:=fun i y hi=>⟨hi,fun b hb=>hblk b fun e=>h.hs i s y g hi hs (e ▸ hb)⟩
 refine { h with env:=fun t=>(h.env t).mono hF hH fun _ _ hs=>hs,mem:=fun s' cs' hcs=>?_,hown:=fun i x b hi hx=>?_,sown:=fun s' r hs'=>?_,glob:=fun g k e hg=>?_,below:=?_ }
 ·simp only [St.ek,aR] at hcs
  split at hcs
  ·rename_i e'
   subst e'
   cases hcs
   exact ⟨g,vs,e,hs,hg,uf.1,fun j c v hc hv=>(uf.2 j c v hc hv).mono hF (fun i y hi _=>hH i y hi) fun _ _ hs _=>hs⟩
  ·rename_i hne
   obtain ⟨r,us,e',h1,h2,h3,h4⟩:=h.mem s' cs' hcs
   refine ⟨r,us,e',h1,?_,h3,fun j c v hc hv=>(h4 j c v hc hv).mono hF (fun i y hi _=>hH i y hi) fun _ _ hs _=>hs⟩
   rw [hblk r (fun e=>h.ss s' s r hne h1 (by rw [e];exact hs))]
   exact h2
 ·rw [hsz];exact h.hown i x b hi hx
 ·rw [hsz];exact h.sown s' r hs'
 ·exact (h.glob g k e hg).mono hF hH fun _ _ hs=>hs
 ·have base:=h.below
  refine ⟨NF.trans base.os,ym.trans base.tape,hout.trans base.output,by rw [hsz];exact base.size,fun k hk pE=>?_⟩
  rw [hblk k (fun e=>by
   rcases (h.sown s g hs).1 with h5 | h5
   ·omega
   ·exact pE (e ▸ h5))]
  exact base.block k hk pE
end
section
variable {C:cU} {P:Program} {w0:World} {F0:Fs} {nt:Nat} {st:St} {a:Act} {w:World} {H:Nat→Option Value} {σ:Nat→Option Nat} {R:Type} {K:St→Option R} {r:R} {call:Nat→List AV→Option AV} {f:Nat}
theorem ba.rr {F:Nat→Prop} {e k:Nat} {l:List AV} {x:Value} (h:ba w F e k l x) (hl:0 < l.length) :
  ∃ g cap cur,x=.slice (some ⟨g,0,none⟩) l.length cap∧w.heap[g]?=some (.cells cur e (0,0))∧l.length≤cap∧cap≤maxLen∧cur.size=cap * k∧0 < k∧RR w F k l (cur.toList.take (l.length * k)):=by
 obtain ⟨hk,xs,⟨B9,h2⟩,h1,hr⟩:=h
 rcases h2 with ⟨_,h2⟩ | ⟨g,cap,cur,hx,_,hg,hc,hm,hs,ht⟩
 ·omega
 ·subst ht
  exact ⟨g,cap,cur,hx,hg,hc,hm,hs,hk,B9,h1,hr⟩
theorem Inv.Rc (h:Inv C w0 F0 nt st a w H σ) {id:Nat} {x:Value} (hx:H id=some x) {w':World} (NF:w'.os=w.os) (ym:w'.tape=w.tape) (hout:w'.output=w.output) (hsz:w'.heap.size=w.heap.size)
  (hblk:∀ b,x.ownBlock≠some b→w'.heap[b]?=w.heap[b]?) (l':List AV) (fp:∀ e k l,ba w (Fr w0.heap.size F0 H σ) e k l x→l'.length=l.length∧ba w' (Fr w0.heap.size F0 H σ) e k l' x) :
  Inv C w0 F0 nt (st.up id l') a w' H σ:=by
 have hF:∀ b,b < w.heap.size→Fr w0.heap.size F0 H σ b→Fr w0.heap.size F0 H σ b∧w'.heap[b]?=w.heap[b]?:=fun b _ hf=>⟨hf,hblk b (hf.2.1 id x hx)⟩
 have hH:∀ i y,i≠id→H i=some y→H i=some y∧∀ b,y.ownBlock=some b→w'.heap[b]?=w.heap[b]?:=fun i y hne hi=>⟨hi,fun b hb=>hblk b fun e=>h.hh i id y x b hne hi hx hb e⟩
 have hS:∀ s r,σ s=some r→w'.heap[r]?=w.heap[r]?:=fun s r hs=>hblk r (h.hs id s x r hx hs)
 have hc:∀ c y,bj w (Fr w0.heap.size F0 H σ) H σ c y→bj w' (Fr w0.heap.size F0 H σ) H σ (c.up id l') y:=by
  intro c y hy
  cases c with
  | own i e k l =>
   obtain ⟨h1,h2⟩:=hy
   simp only [Cell.up,aR]
   by_cases hi:i=id
   ·subst hi
    rw [if_pos rfl]
    have:y=x:=by rw [h1] at hx;exact Option.some.inj hx
    subst this
    exact ⟨h1,(fp e k l h2).2⟩
   ·rw [if_neg hi]
    exact ⟨h1,h2.mono hF (hH i y hi h1).2⟩
  | dead=>exact hy
  | val v=>exact ⟨hy.1,hy.2.mono hF⟩
  | ptr s o=>exact hy
  | eI g ss=>exact hy
 have he:∀ e y,bS w (Fr w0.heap.size F0 H σ) H σ e y→bS w' (Fr w0.heap.size F0 H σ) H σ (e.up id l') y:=by
  intro e y hy
  cases e with
  | cell c=>cases c with
   | dead=>trivial
   | val v=>exact Rel.mono hF hy
   | own i e k l =>
    have:=hc (.own i e k l) y hy
    simp only [aY.up,Cell.up,aR] at this ⊢
    split
    ·rename_i hi;rw [if_pos hi] at this;exact this
    ·rename_i hi;rw [if_neg hi] at this;exact this
   | ptr s o=>exact hy
   | eI g ss=>exact hy
  | agg cs =>
   obtain ⟨vs,rfl,hl,hv⟩:=hy
   refine ⟨vs,rfl,by simpa using hl,fun j c v h1 h2=>?_⟩
   rw [List.getElem?_map] at h1
   cases hc0:cs[j]? with
   | none=>rw [hc0] at h1;cases h1
   | some c0 =>
    rw [hc0] at h1
    simp only [Option.map_some,Option.some.injEq] at h1
    subst h1
    exact hc c0 v (hv j c0 v hc0 h2)
  | jZ k e off =>
   obtain ⟨b,o,rfl,a2,a3,a4⟩:=hy
   obtain ⟨b1,b2⟩:=hF b a3 a2
   refine ⟨b,o,rfl,b1,by rw [hsz];exact a3,fun j hj=>?_⟩
   obtain ⟨v,c1,c2,c3⟩:=a4 j hj
   exact ⟨v,by rw [← c1];exact World.cell?_of_block (w:=w) b2,c2,c3.mono hF⟩
  | iw i e k l n off =>
   obtain ⟨g,m,cap,a1,a2,a3,rfl⟩:=hy
   simp only [aY.up,aR]
   by_cases hi:i=id
   ·subst hi
    rw [if_pos rfl]
    have:x=.slice (some ⟨g,0,none⟩) m cap:=by rw [a1] at hx;exact (Option.some.inj hx).symm
    subst this
    obtain ⟨b1,b2⟩:=fp e k l a2
    exact ⟨g,m,cap,a1,b2,by rw [b1];exact a3,rfl⟩
   ·rw [if_neg hi]
    exact ⟨g,m,cap,a1,a2.mono hF (hH i _ hi a1).2,a3,rfl⟩
  | ot rr ks =>
   obtain ⟨vs,rfl,hl,hv⟩:=hy
   refine ⟨vs,rfl,by simpa using hl,fun j o v h1 h2=>?_⟩
   rw [List.getElem?_map] at h1
   cases ho:ks[j]? with
   | none=>rw [ho] at h1;cases h1
   | some o' =>
    rw [ho] at h1
    have h3:=hv j o' v ho h2
    simp only [Option.map_some,Option.some.injEq] at h1
    subst h1
    match o',h3 with
    | none,_=>trivial
    | some none,h3=>exact Rel.mono hF h3
    | some (some (i,e,k)),h3 =>
     simp only [aR]
     by_cases hi:i=id
     ·rw [if_pos hi];trivial
     ·rw [if_neg hi]
      exact ⟨h3.1,h3.2.mono hF (hH i v hi h3.1).2⟩
 refine { h with env:=fun t=>he _ _ (h.env t),mem:=fun s cs hcs=>?_,hown:=fun i x b hi hx=>?_,sown:=fun s' r hs'=>?_,glob:=fun g k e hg=>?_,below:=?_ }
 ·simp only [St.up,St.map,Option.map_eq_some_iff] at hcs
  obtain ⟨cs0,h0,rfl⟩:=hcs
  obtain ⟨r,us,e',h1,h2,h3,h4⟩:=h.mem s cs0 h0
  refine ⟨r,us,e',h1,by rw [hS s r h1];exact h2,by simpa using h3,fun j c v hc' hv=>?_⟩
  rw [List.getElem?_map] at hc'
  cases hc0:cs0[j]? with
  | none=>rw [hc0] at hc';cases hc'
  | some c0 =>
   rw [hc0] at hc'
   simp only [Option.map_some,Option.some.injEq] at hc'
   subst hc'
   exact hc c0 v (h4 j c0 v hc0 hv)
 ·rw [hsz];exact h.hown i x b hi hx
 ·rw [hsz];exact h.sown s' r hs'
 ·exact he (.jZ k e 0) _ (h.glob g k e hg)
 ·have base:=h.below
  refine ⟨NF.trans base.os,ym.trans base.tape,hout.trans base.output,by rw [hsz];exact base.size,fun k hk pE=>?_⟩
  rw [hblk k (fun e=>by
   rcases (h.hown id x k hx e).1 with h5 | h5
   ·omega
   ·exact pE h5)]
  exact base.block k hk pE
theorem JZ (ids:List Nat) (i e k:Nat) (l:List AV) (n off:Nat) (hi:i ∉ ids):aY.ju (.iw i e k l n off) ids=.iw i e k l n off:=by
 induction ids with
 | nil=>rfl
 | cons j r ih =>
  have Vi:i≠j:=fun e=>hi (e ▸ List.mem_cons_self ..)
  have:aY.fz j (.iw i e k l n off)=.iw i e k l n off:=by simp [aY.fz,aR,Vi]
  simp only [aY.ju,List.foldl_cons,this]
  exact ih fun hm=>hi (List.mem_cons_of_mem _ hm)
theorem FY {o:Oper} {t:TypeId} {x y:Operand} (ho:o.op=.store t x y) (hT:∀ t i,C.ty t=some i→cr P t i) (h:Inv C w0 F0 nt st a w H σ)
  (hK:(match o.dst with | none=>ld C t (st.get C x) (st.get C y) st K | some _=>none)=some r):Goes C P w0 F0 nt st a w σ K r o:=by
 cases bz:o.dst with
 | some d=>rw [bz] at hK;cases hK
 | none =>
  rw [bz] at hK
  simp only [ld] at hK
  have hr:=h.get x
  have goes:∀ {w':World} {st':St} {H':Nat→Option Value},(storeVar t (match a.eval x with | .pointer (some q)=>q | _=>⟨0,0,none⟩) (a.eval y)).run P w=.ok () w'→(∃ q,a.eval x=.pointer (some q))→K st'=some r→Inv C w0 F0 nt st' a w' H' σ→eh C st o σ w w'→Goes C P w0 F0 nt st a w σ K r o:=by
   intro w' st' H' hrun ⟨q,hq⟩ hK hI hk
   intro next Q hn
   unfold Oper.wp
   rw [hq] at hrun
   simp only at hrun
   have:(execOp a.eval o).run P w=.ok .skip w':=by
    simp only [execOp,ho,hq]
    simp [Instr.storeAt,Instr.sureAddr,hrun]
   rw [this]
   refine hn _ w' st' H' σ hK ?_ hk ⟨fun s _=>rfl,.inr (.inr rfl)⟩ (Only.put a o.dst undef)
   rw [bz];exact hI
  split at hK
  ·rename_i s off cK
   obtain ⟨i,new,hi,hK,hlen,my,iC,hagg,yr,D8⟩:=eJ hT (h.get y) hK
   have ht:=hT t i hi
   rw [cK] at hr
   obtain ⟨g,hg,hx⟩:=hr
   split at hK
   ·rename_i cs hcs
    cases hle:Nat.ble (off+new.length) cs.length with
    | false=>rw [hle] at hK;cases hK
    | true =>
     rw [hle] at hK
     have vJ:=Nat.le_of_ble_eq_true hle
     obtain ⟨g',vs,e,h1,h2,h3,h4⟩:=h.mem s cs hcs
     have Af:g'=g:=by rw [hg] at h1;exact (Option.some.inj h1).symm
     subst Af
     have hsz:(a.eval y).cells.toList.length=i.size:=by rw [my.1,hlen]
     have hst:=ht.run_store w g' off e vs (a.eval y) _ h2 rfl hsz (by rw [hsz,h3,← hlen];exact vJ) my.one
     have uf:CR w (Fr w0.heap.size F0 H σ) H σ (jx cs new off) (vs.take off ++ (a.eval y).cells.toList ++ vs.drop (off+(a.eval y).cells.toList.length)):=CR.jx ⟨h3,h4⟩ my off
     refine goes (w':=w.setRow g' (vs.take off ++ (a.eval y).cells.toList ++ vs.drop (off+(a.eval y).cells.toList.length)).toArray) (by rw [hx];exact hst) ⟨_,hx⟩ hK (h.ek (w':=w.setRow g' (vs.take off ++ (a.eval y).cells.toList ++ vs.drop (off+(a.eval y).cells.toList.length)).toArray) hg rfl rfl rfl (setRow_size ..) (fun b hb=>setRow_other w g' b _ hb) (setRow_heap w g' _ _ e _ h2) uf) ?_
     unfold eh
     rw [ho]
     simp only [cK]
     exact ⟨by simp,fun b hb hne=>setRow_other w g' b _ fun e=>hne (by rw [e];exact hg)⟩
   ·cases hK
  ·rename_i id e k l n off cK
   obtain ⟨i,new,hi,hK,hlen,my,iC,hagg,yr,D8⟩:=eJ hT (h.get y) hK
   have ht:=hT t i hi
   split at hK
   case h_2=>cases hK
   rename_i ie hie
   have Fc:=hT e ie hie
   cases NY:Nat.beq k ie.size with
   | false=>rw [NY] at hK;cases hK
   | true =>
   have pD:=Nat.eq_of_beq_eq_true NY
   rw [NY,Bool.true_and] at hK
   cases hb:(Nat.ble (off+new.length) k && (st.get C y).told && !((st.get C y).ids.any (Nat.beq id))) with
   | false=>rw [hb] at hK;cases hK
   | true =>
    rw [hb] at hK
    simp only [cond_true] at hK
    rw [Bool.and_eq_true,Bool.and_eq_true] at hb
    have dE:=Nat.le_of_ble_eq_true hb.1.1
    have JW:id ∉ (st.get C y).ids:=fun hm=>by
     have h2:=hb.2
     simp only [Bool.not_eq_true',List.any_eq_false] at h2
     exact h2 id hm (Nat.beq_refl id)
    obtain ⟨H1,h1,kn,kp,yw⟩:=h.vM (st.get C y).ids
    have hr1:=kn _ _ hr
    rw [cK,JZ _ _ _ _ _ _ _ JW] at hr1
    obtain ⟨g,m,cap,JX,hown,hn,hx⟩:=hr1
    have hy:=dy (kn _ _ (h.get y)) hb.1.2 (fun i hi=>hi)
    have hsz:(a.eval y).cells.toList.length=i.size:=by rw [my.1,hlen]
    have mo:=fun j v hj hv=>hy.cells ht hagg.1 hagg.2 hsz j v hj hv
    have pE:new.length=(a.eval y).cells.toList.length:=by rw [hlen,hsz]
    have pJ:=D8 hb.1.2
    have Cb:∀ (old:AV) (xo:List Value),(∀ j v,j < k→xo[j]?=some v→Rel w (Fr w0.heap.size F0 H1 σ) (old.cell j) v)→(ie.kd.agg=false→k=1)→∀ j v,j < k →
      (if off≤j∧j < off+(a.eval y).cells.toList.length then (a.eval y).cells.toList[j - off]? else xo[j]?)=some v →
      Rel w (Fr w0.heap.size F0 H1 σ) ((setCells ie.kd.agg k old off (new.map Cell.aX)).cell j) v:=by
     intro old xo ho ue j v hj hv
     have pK:∀ q,q < new.length→(a.eval y).cells.toList[q]?=some v→Rel w (Fr w0.heap.size F0 H1 σ) ((new.map Cell.aX).getD q .un) v:=by
      intro q hq Yc
      have h3:=mo q v (by rw [← hlen];exact hq) Yc
      cases Ul:i.kd.agg with
      | true =>
       rw [Ul] at pJ
       simp only [cond_true] at pJ
       rw [← pJ] at h3
       exact h3
      | false =>
       rw [Ul] at pJ
       simp only [cond_false] at pJ
       have Mw:=ht.one Ul
       have hq0:q=0:=by omega
       subst hq0
       obtain ⟨c,hc⟩:=List.length_eq_one_iff.1 (hlen.trans Mw)
       subst hc
       simp only [List.headD_cons] at pJ
       rw [← pJ] at h3
       simp only [List.map_cons,List.map_nil,List.getD_cons_zero]
       have oI:=my.one v (List.mem_of_getElem? Yc)
       cases pK:c.aX with
       | ag l2 =>
        exfalso
        rw [pJ] at pK
        rw [pK] at hy
        have:=hagg.2 Ul
        generalize a.eval y=Y at hy this
        cases hy
        cases this
       | _=>rw [pK] at h3;exact h3
     unfold setCells
     cases Vl:ie.kd.agg with
     | true =>
      simp only [cond_true]
      have e:((List.range k).map fun j=>bif Nat.ble off j && Nat.blt j (off+(new.map Cell.aX).length) then (new.map Cell.aX).getD (j - off) .un else old.cell j).getD j .un=bif Nat.ble off j && Nat.blt j (off+(new.map Cell.aX).length) then (new.map Cell.aX).getD (j - off) .un else old.cell j:=by
       simp [List.getD,hj]
      show Rel w _ (List.getD _ j .un) v
      rw [e]
      by_cases hc:off≤j∧j < off+(a.eval y).cells.toList.length
      ·rw [if_pos hc] at hv
       have e1:Nat.ble off j=true:=Nat.ble_eq_true_of_le hc.1
       have e2:Nat.blt j (off+(new.map Cell.aX).length)=true:=by unfold Nat.blt;exact Nat.ble_eq_true_of_le (by rw [List.length_map,pE];exact hc.2)
       simp only [e1,e2,Bool.and_self,cond_true]
       exact pK _ (by rw [pE];omega) hv
      ·rw [if_neg hc] at hv
       have e1:(Nat.ble off j && Nat.blt j (off+(new.map Cell.aX).length))=false:=by
        rw [Bool.eq_false_iff]
        intro hh
        rw [Bool.and_eq_true] at hh
        have q1:=Nat.le_of_ble_eq_true hh.1
        have q2:=hh.2
        unfold Nat.blt at q2
        have q3:=Nat.le_of_ble_eq_true q2
        rw [List.length_map,pE] at q3
        exact hc ⟨q1,q3⟩
       simp only [e1,cond_false]
       exact ho j v hj hv
     | false =>
      have hk:=ue Vl
      have Vm:0 < new.length:=by rw [hlen];exact ht.pos.1
      have NM:j=0:=by omega
      have Vo:off=0:=by omega
      subst NM Vo
      rw [if_pos ⟨Nat.le_refl _,by rw [← pE];omega⟩] at hv
      have h4:=pK 0 Vm hv
      simp only [cond_false]
      have e:(new.map Cell.aX).headD .un=(new.map Cell.aX).getD 0 .un:=by cases new <;> rfl
      rw [e]
      have oI:=my.one v (List.mem_of_getElem? hv)
      cases Re:(new.map Cell.aX).getD 0 .un with
      | ag l2=>rw [Re] at h4;cases h4;cases oI
      | _=>rw [Re] at h4;exact h4
    have Vp:off+(a.eval y).cells.toList.length≤k:=by rw [← pE];exact dE
    obtain ⟨g',cap',cur,q1,q2,q3,q4,q5,q6,q7⟩:=hown.rr (by omega)
    cases q1
    have Yd:l.length * k≤cur.size:=by rw [q5];exact Nat.mul_le_mul_right _ q3
    have Vq:(n+1) * k≤l.length * k:=Nat.mul_le_mul_right _ hn
    rw [Nat.add_mul,Nat.one_mul] at Vq
    have hst:=ht.run_store w g (n * k+off) e cur.toList (a.eval y) _ (by simpa using q2) rfl hsz (by have:cur.toList.length=cur.size:=Array.length_toList;omega) my.one
    have uj:ie.kd.agg=false→k=1:=by
     intro Vl
     rw [pD];exact Fc.one Vl
    have Vr:=q7.upd n hn (setCells ie.kd.agg k (l.getD n .un) off (new.map Cell.aX)) off (a.eval y).cells.toList Vp my.one (fun j v hj hv=>by
     refine Cb (l.getD n .un) ((cur.toList.take (l.length * k)).drop (n * k)) (fun j v hj hv=>?_) uj j v hj ?_
     ·rw [List.getElem?_drop] at hv
      exact q7.2.2 n j v hn hj hv
     ·rw [List.getElem?_drop];exact hv)
    have Um:((cur.toList.take (l.length * k)).take (n * k+off) ++ (a.eval y).cells.toList ++ (cur.toList.take (l.length * k)).drop (n * k+off+(a.eval y).cells.toList.length)) =
      (cur.toList.take (n * k+off) ++ (a.eval y).cells.toList ++ cur.toList.drop (n * k+off+(a.eval y).cells.toList.length)).take (l.length * k):=by
     apply List.ext_getElem?
     intro j
     have jw:cur.toList.length=cur.size:=Array.length_toList
     have Vs:(cur.toList.take (l.length * k)).length=l.length * k:=by simp;omega
     have x1:=mz (cur.toList.take (l.length * k)) (a.eval y).cells.toList (n * k+off) j (by rw [Vs];omega)
     have x2:=mz cur.toList (a.eval y).cells.toList (n * k+off) j (by rw [jw];omega)
     have x3:((cur.toList.take (n * k+off) ++ (a.eval y).cells.toList ++ cur.toList.drop (n * k+off+(a.eval y).cells.toList.length)).take (l.length * k))[j]?=if j < l.length * k then (cur.toList.take (n * k+off) ++ (a.eval y).cells.toList ++ cur.toList.drop (n * k+off+(a.eval y).cells.toList.length))[j]? else none:=List.getElem?_take
     rw [x1,x3,x2,List.getElem?_take]
     by_cases h5:n * k+off≤j∧j < n * k+off+(a.eval y).cells.toList.length
     ·rw [if_pos h5,if_pos (by omega),if_pos h5]
     ·rw [if_neg h5,if_neg h5]
    refine goes (w':=w.setRow g (cur.toList.take (n * k+off) ++ (a.eval y).cells.toList ++ cur.toList.drop (n * k+off+(a.eval y).cells.toList.length)).toArray) (by rw [hx];exact hst) ⟨_,hx⟩ hK (h1.Rc (w':=w.setRow g (cur.toList.take (n * k+off) ++ (a.eval y).cells.toList ++ cur.toList.drop (n * k+off+(a.eval y).cells.toList.length)).toArray) JX rfl rfl rfl (setRow_size ..) (fun b hb=>setRow_other w g b _ fun e=>hb (by rw [e];rfl)) _ (fun e2 k2 l2 J0=>?_)) ?_
    ·obtain ⟨g2,Vt,Vu,p1,p2,p3,p4,p5,p6,p7⟩:=J0.rr (by
      obtain ⟨_,xs2,⟨_,o2⟩,_⟩:=J0
      rcases o2 with ⟨o2,_⟩ | ⟨_,_,_,o2,_⟩
      ·cases o2
      ·have:=congrArg (fun v=>match v with | Value.slice _ n _=>n | _=>0) o2
       simp only at this
       omega)
     have Mx:l.length=l2.length:=by
      have:=congrArg (fun v=>match v with | Value.slice _ n _=>n | _=>0) p1
      exact this
     have Af:g=g2:=by
      have:=congrArg (fun v=>match v with | Value.slice (some a) _ _=>a.block | _=>0) p1
      exact this
     have hcc:cap=Vt:=by
      have:=congrArg (fun v=>match v with | Value.slice _ _ n=>n | _=>0) p1
      exact this
     subst Af hcc
     rw [q2] at p2
     have Al:cur=Vu∧e=e2:=by
      have:=Option.some.inj p2
      injection this with i1 i2 i3
      exact ⟨i1,i2⟩
     obtain ⟨Rf,rfl⟩:=Al
     subst Rf
     have Vv:k=k2:=Nat.eq_of_mul_eq_mul_left (show 0 < cap by omega) (by rw [← q5,p5])
     subst Vv
     refine ⟨by rw [List.length_set,Mx],q6,_,⟨Vr.1,.inr ⟨g,cap,_,by rw [List.length_set],Nat.zero_le _,setRow_heap w g _ _ e _ q2,by rw [List.length_set];exact q3,q4,?_,?_⟩⟩,Vr.2.1,?_⟩
     ·have z1:(a.eval y).cells.toList.length=(a.eval y).cells.size:=Array.length_toList
      simp only [List.size_toArray,List.length_append,List.length_take,List.length_drop,Array.length_toList]
      rw [← q5]
      omega
     ·rw [List.length_set,Um]
     ·exact (RR.mono (w':=w.setRow g _) Vr fun b hb hf=>⟨hf,setRow_other w g b _ fun e=>hf.2.1 id _ JX (by rw [e];rfl)⟩).2.2
    ·unfold eh
     rw [ho]
     simp only [cK]
  ·cases hK
end
section
variable {C:cU} {P:Program} {w0:World} {F0:Fs} {nt:Nat} {st:St} {a:Act} {w:World} {H:Nat→Option Value} {σ:Nat→Option Nat}
def rP (tmps:Array Value):ResultVar→Sem Value
 | .tmp t=>pure (tmps.getD t undef)
 | .cell a t=>do loadVar t (← asAddr (tmps.getD a undef))
theorem NZ (hT:∀ t i,C.ty t=some i→cr P t i) (h:Inv C w0 F0 nt st a w H σ) (rv:ResultVar) (ht:(dp C st rv).told=true):∃ v,(rP a.tmps rv).run P w=.ok v w∧bS w (Fr w0.heap.size F0 H σ) H σ (dp C st rv) v:=by
 cases rv with
 | tmp t=>exact ⟨_,rfl,h.env t⟩
 | cell x ty =>
  unfold dp at ht ⊢
  simp only at ht ⊢
  split at ht
  ·rename_i s off i cK hi
   split at ht
   ·rename_i cs hcs
    cases hle:Nat.ble (off+i.size) cs.length with
    | false=>rw [hle] at ht;cases ht
    | true =>
     rw [hle] at ht
     have vJ:=Nat.le_of_ble_eq_true hle
     have hx:=h.env x
     rw [cK] at hx
     obtain ⟨b,hb,hx⟩:=hx
     obtain ⟨b',vs,e,h1,h2,h3,h4⟩:=h.mem s cs hcs
     have lg:b'=b:=by rw [hb] at h1;exact (Option.some.inj h1).symm
     subst lg
     have Rg:=hT ty i hi
     have hl:((vs.drop off).take i.size).length=i.size:=by simp;omega
     have uf:CR w (Fr w0.heap.size F0 H σ) H σ ((cs.drop off).take i.size) ((vs.drop off).take i.size):=(CR.drop ⟨h3,h4⟩ off).take i.size
     have iC:i.kd.agg=true∨i.size=1:=by
      cases hh:i.kd.agg with
      | true=>exact .inl rfl
      | false=>exact .inr (Rg.one hh)
     refine ⟨if i.kd.agg then .agg ((vs.drop off).take i.size).toArray else ((vs.drop off).take i.size).headD undef,?_,?_⟩
     ·have hr:=Rg.run_load iC w b' off _ hl (fun j v hv=>by
       rw [List.getElem?_take,List.getElem?_drop] at hv
       split at hv
       ·rw [cell_of_row w b' (off+j) vs.toArray e (0,0) h2];simpa using hv
       ·cases hv)
      simp only [rP,hx,asAddr,Sem.run_bind,Sem.run_pure,Result.andThen_ok]
      exact hr
     ·simp only [cond_true]
      exact nB uf _ (iC.imp id fun e=>by simp;omega)
   ·cases ht
  ·cases ht
theorem mA (hT:∀ t i,C.ty t=some i→cr P t i) (h:Inv C w0 F0 nt st a w H σ) (fn:Func) (ht:∀ rv ∈ fn.results.toList,(dp C st rv).told=true) :
  ∃ vs:List Value,vs.length=fn.results.toList.length∧(results fn a.tmps).run P w=.ok (uk vs) w ∧
   ∀ (j:Nat) (e:aY) (v:Value),(fn.results.toList.map (dp C st))[j]?=some e→vs[j]?=some v→bS w (Fr w0.heap.size F0 H σ) H σ e v:=by
 have key:∀ l:List ResultVar,(∀ rv ∈ l,(dp C st rv).told=true)→∃ vs:List Value,vs.length=l.length∧(l.mapM (rP a.tmps)).run P w=.ok vs w ∧
   ∀ (j:Nat) (e:aY) (v:Value),(l.map (dp C st))[j]?=some e→vs[j]?=some v→bS w (Fr w0.heap.size F0 H σ) H σ e v:=by
  intro l
  induction l with
  | nil=>exact fun _=>⟨[],rfl,by simp,fun j e v h1 _=>by simp at h1⟩
  | cons rv l ih =>
   intro hl
   obtain ⟨v,h1,h2⟩:=NZ hT h rv (hl rv (List.mem_cons_self ..))
   obtain ⟨vs,h3,h4,h5⟩:=ih fun rv hm=>hl rv (List.mem_cons_of_mem _ hm)
   refine ⟨v :: vs,by simp [h3],by simp [List.mapM_cons,h1,h4],fun j e u q1 q2=>?_⟩
   cases j with
   | zero=>simp at q1 q2;subst q1 q2;exact h2
   | succ j=>exact h5 j e u (by simpa using q1) (by simpa using q2)
 obtain ⟨vs,h1,h2,h3⟩:=key fn.results.toList ht
 refine ⟨vs,h1,?_,h3⟩
 have hm:(fn.results.mapM (rP a.tmps)).run P w=.ok vs.toArray w:=by
  rw [Array.mapM_eq_mapM_toList]
  simp [h2]
 unfold results
 have:(fn.results.mapM fun x=>match x with
  | .tmp t=>pure (a.tmps.getD t undef)
  | .cell b t=>do loadVar t (← asAddr (a.tmps.getD b undef)))=fn.results.mapM (rP a.tmps):=by
  congr 1
 rw [Sem.run_bind]
 erw [this]
 rw [hm]
 simp only [Result.andThen_ok,Sem.run_pure]
 congr 1
 match vs with
 | []=>simp [uk]
 | [x]=>simp [uk]
 | x :: y :: r=>simp [uk]
end
end Sx
namespace Sx
open Go Go.RowKit Go.Lib
open Classical in
def gR (R:Nat→Value→Prop):Nat→Option Value:=fun n=>if h:∃ x,R n x then some (Classical.choose h) else none
theorem gS {R:Nat→Value→Prop} {n:Nat} {x:Value} (h:gR R n=some x):R n x:=by
 unfold gR at h
 split at h
 ·rename_i hh;cases h;exact Classical.choose_spec hh
 ·cases h
theorem rQ {R:Nat→Value→Prop} {n:Nat} {x:Value} (hf:∀ y,R n y→y=x) (h:R n x):gR R n=some x:=by
 unfold gR
 have hh:∃ x,R n x:=⟨x,h⟩
 rw [dif_pos hh]
 exact congrArg some (hf _ (Classical.choose_spec hh))
theorem kq:∀ {l m:List Nat},eT l m=true→l=m
 | [],[],_=>rfl
 | x :: r,y :: t,h=>by
  simp only [eT,Bool.and_eq_true] at h
  rw [Nat.eq_of_beq_eq_true h.1,kq h.2]
 | [],_ :: _,h=>by cases h
 | _ :: _,[],h=>by cases h
theorem uG {l:List Nat} (h:nodup l=true) {i j x:Nat} (hi:l[i]?=some x) (hj:l[j]?=some x):i=j:=by
 induction l generalizing i j with
 | nil=>simp at hi
 | cons y r ih =>
  simp only [nodup,Bool.and_eq_true,Bool.not_eq_true',List.any_eq_false] at h
  cases i with
  | zero =>
   cases j with
   | zero=>rfl
   | succ j =>
    simp at hi hj
    subst hi
    exact absurd (Nat.beq_refl y) (h.1 y (List.mem_of_getElem? hj))
  | succ i =>
   cases j with
   | zero =>
    simp at hi hj
    subst hj
    exact absurd (Nat.beq_refl y) (h.1 y (List.mem_of_getElem? hi))
   | succ j=>exact congrArg Nat.succ (ih h.2 (by simpa using hi) (by simpa using hj))
theorem rR {l m:List Nat} (h:nodup (l ++ m)=true):nodup l=true∧nodup m=true∧∀ x ∈ l,x ∉ m:=by
 induction l with
 | nil=>exact ⟨rfl,h,by simp⟩
 | cons x l ih =>
  simp only [List.cons_append,nodup,Bool.and_eq_true] at h
  obtain ⟨h1,h2,h3⟩:=ih h.2
  have hx:=h.1
  simp only [Bool.not_eq_true',List.any_eq_false] at hx
  refine ⟨?_,h2,fun y hy=>?_⟩
  ·simp only [nodup,Bool.and_eq_true,Bool.not_eq_true',List.any_eq_false]
   exact ⟨fun y hy=>hx y (List.mem_append_left _ hy),h1⟩
  ·rcases List.mem_cons.1 hy with rfl | hy
   ·exact fun hm=>hx y (List.mem_append_right _ hm) (Nat.beq_refl y)
   ·exact h3 y hy
theorem jh {site:Nat→Nat}:∀ {ks:List gi} {cs:List Cell} {l:List AV},D3 site ks cs=some l→cs.length=ks.length∧l.length=ks.length ∧
  ∀ (j:Nat) (k:gi) (c:Cell),ks[j]?=some k→cs[j]?=some c→∃ v,l[j]?=some v∧JB site k c=some v
 | [],[],l,h=>by cases h;exact ⟨rfl,rfl,fun j k c hk=>by simp at hk⟩
 | k :: ks,c :: cs,l,h=>by
  simp only [D3] at h
  obtain ⟨v,hv,h⟩:=Option.bind_eq_some_iff.1 h
  obtain ⟨vs,oG,h⟩:=Option.bind_eq_some_iff.1 h
  cases h
  obtain ⟨h1,h2,h3⟩:=jh oG
  refine ⟨by simp [h1],by simp [h2],fun j k' c' hk hc=>?_⟩
  cases j with
  | zero=>simp at hk hc;subst hk;subst hc;exact ⟨v,rfl,hv⟩
  | succ j=>obtain ⟨u,q1,q2⟩:=h3 j k' c' (by simpa using hk) (by simpa using hc);exact ⟨u,by simpa using q1,q2⟩
 | [],_ :: _,l,h=>by cases h
 | _ :: _,[],l,h=>by cases h
theorem jB {site:Nat→Nat} {mem:Nat→Option (List Cell)}:∀ {objs:List (Src×List gi)} {i0:Nat} {l:List AV},np site mem i0 objs=some l→l.length=objs.length ∧
  ∀ (i:Nat) (o:Src×List gi),objs[i]?=some o→∃ cs vs,mem (site (i0+i))=some cs∧D3 site o.2 cs=some vs∧l[i]?=some (.ag vs)
 | [],i0,l,h=>by cases h;exact ⟨rfl,fun i o ho=>by simp at ho⟩
 | o :: r,i0,l,h=>by
  simp only [np] at h
  split at h
  ·rename_i cs hcs
   obtain ⟨vs,oG,h⟩:=Option.bind_eq_some_iff.1 h
   obtain ⟨t,ht,h⟩:=Option.bind_eq_some_iff.1 h
   cases h
   obtain ⟨h1,h2⟩:=jB ht
   refine ⟨by simp [h1],fun i o' ho=>?_⟩
   cases i with
   | zero=>simp at ho;subst ho;exact ⟨cs,vs,hcs,oG,rfl⟩
   | succ i =>
    obtain ⟨cs',Vw,q1,q2,q3⟩:=h2 i o' (by simpa using ho)
    exact ⟨cs',Vw,by rw [show i0+(i+1)=i0+1+i by omega];exact q1,q2,by simpa using q3⟩
  ·cases h
def jU (site:Nat→Nat) (mem:Nat→Option (List Cell)) (objs:List (Src×List gi)) (i0 i j id:Nat):Prop :=
 ∃ (o:Src×List gi) (cs:List Cell) (e k e' k':Nat) (l:List AV),objs[i]?=some o∧mem (site (i0+i))=some cs∧o.2[j]?=some (.own e k)∧cs[j]?=some (.own id e' k' l)
theorem nC:∀ {ks:List gi} {cs:List Cell} {j e k id e' k':Nat} {l:List AV},ks[j]?=some (.own e k)→cs[j]?=some (.own id e' k' l)→id ∈ qx true ks cs
 | [],_,j,e,k,id,e',k',l,h,_=>by simp at h
 | _ :: _,[],j,e,k,id,e',k',l,_,h=>by simp at h
 | q :: ks,c :: cs,j,e,k,id,e',k',l,h,h'=>by
  cases j with
  | zero =>
   simp at h h'
   subst h;subst h'
   simp [qx,Cell.ids]
  | succ j =>
   have:=nC (ks:=ks) (cs:=cs) (j:=j) (by simpa using h) (by simpa using h')
   cases q <;> exact List.mem_append_right _ this
theorem Ce:∀ {ks:List gi} {cs:List Cell} {j j' e k id e' k' e2 k2 mB e3 k3:Nat} {l l2:List AV},nodup (qx true ks cs)=true→j < j'→ks[j]?=some (.own e k)→cs[j]?=some (.own id e' k' l)→ks[j']?=some (.own e2 k2)→cs[j']?=some (.own mB e3 k3 l2)→id≠mB
 | [],_,j,j',e,k,id,e',k',e2,k2,mB,e3,k3,l,l2,_,_,h,_,_,_=>by simp at h
 | _ :: _,[],j,j',e,k,id,e',k',e2,k2,mB,e3,k3,l,l2,_,_,_,h,_,_=>by simp at h
 | q :: ks,c :: cs,j,j',e,k,id,e',k',e2,k2,mB,e3,k3,l,l2,hn,hlt,h1,h2,h3,h4=>by
  cases j' with
  | zero=>omega
  | succ j' =>
   cases j with
   | zero =>
    simp at h1 h2
    subst h1;subst h2
    have hn:nodup (id :: qx true ks cs)=true:=by simpa [qx,Cell.ids] using hn
    have hm:mB ∈ qx true ks cs:=nC (by simpa using h3) (by simpa using h4)
    simp only [nodup,Bool.and_eq_true,Bool.not_eq_true',List.any_eq_false] at hn
    intro e
    exact hn.1 mB hm (by rw [e];exact Nat.beq_refl mB)
   | succ j =>
    have Rh:nodup (qx true ks cs)=true:=by
     cases q <;> exact (rR hn).2.1
    exact Ce Rh (by omega:j < j') (by simpa using h1) (by simpa using h2) (by simpa using h3) (by simpa using h4)
theorem lh {site:Nat→Nat} {mem:Nat→Option (List Cell)}:∀ {objs:List (Src×List gi)} {i0 i j id:Nat},jU site mem objs i0 i j id→id ∈ ck true site mem i0 objs
 | [],i0,i,j,id,h=>by obtain ⟨o,cs,e,k,e',k',l,h,_⟩:=h;simp at h
 | o :: r,i0,i,j,id,h=>by
  obtain ⟨o',cs,e,k,e',k',l,h1,h2,h3,h4⟩:=h
  cases i with
  | zero =>
   simp at h1
   subst h1
   have h2:mem (site i0)=some cs:=h2
   simp only [ck,h2]
   exact List.mem_append_left _ (nC h3 h4)
  | succ i =>
   exact List.mem_append_right _ (lh ⟨o',cs,e,k,e',k',l,by simpa using h1,by rw [show i0+1+i=i0+(i+1) by omega];exact h2,h3,h4⟩)
theorem kt {site:Nat→Nat} {mem:Nat→Option (List Cell)}:∀ {objs:List (Src×List gi)} {i0 i j i' j' id gT:Nat},nodup (ck true site mem i0 objs)=true→jU site mem objs i0 i j id→jU site mem objs i0 i' j' gT→(i < i'∨i=i'∧j < j')→id≠gT
 | [],i0,i,j,i',j',id,gT,_,h,_,_=>by obtain ⟨o,cs,e,k,e',k',l,h,_⟩:=h;simp at h
 | o :: r,i0,i,j,i',j',id,gT,hn,h,h',hlt=>by
  have Rh:=rR hn
  cases i with
  | zero =>
   obtain ⟨o1,cs,e,k,e',k',l,h1,h2,h3,h4⟩:=h
   simp at h1
   subst h1
   have h2:mem (site i0)=some cs:=h2
   cases i' with
   | zero =>
    obtain ⟨o2,qG,e2,k2,e3,k3,l2,h5,h6,h7,h8⟩:=h'
    simp at h5
    subst h5
    have h6:mem (site i0)=some qG:=h6
    rw [h2] at h6
    cases h6
    have hk:=Rh.1
    simp only [h2] at hk
    exact Ce hk (by rcases hlt with h | h;omega;exact h.2) h3 h4 h7 h8
   | succ i' =>
    obtain ⟨o2,qG,e2,k2,e3,k3,l2,h5,h6,h7,h8⟩:=h'
    have hm:gT ∈ ck true site mem (i0+1) r:=lh ⟨o2,qG,e2,k2,e3,k3,l2,by simpa using h5,by rw [show i0+1+i'=i0+(i'+1) by omega];exact h6,h7,h8⟩
    have hm':id ∈ (match mem (site i0) with | some cs=>qx true o.2 cs | none=>[]):=by rw [h2];exact nC h3 h4
    exact fun e=>Rh.2.2 id hm' (e ▸ hm)
  | succ i =>
   cases i' with
   | zero=>rcases hlt with h | h <;> omega
   | succ i' =>
    have conv:∀ {i j id:Nat},jU site mem (o :: r) i0 (i+1) j id→jU site mem r (i0+1) i j id:=by
     intro i j id ⟨o1,cs,e,k,e',k',l,h1,h2,h3,h4⟩
     exact ⟨o1,cs,e,k,e',k',l,by simpa using h1,by rw [show i0+1+i=i0+(i+1) by omega];exact h2,h3,h4⟩
    exact kt Rh.2.1 (conv h) (conv h') (by rcases hlt with h | h;exact .inl (by omega);exact .inr ⟨by omega,h.2⟩)
theorem uH {site:Nat→Nat} {mem:Nat→Option (List Cell)} {objs:List (Src×List gi)} {i0 i j i' j' id:Nat} (hn:nodup (ck true site mem i0 objs)=true) (h:jU site mem objs i0 i j id) (h':jU site mem objs i0 i' j' id):i=i'∧j=j':=by
 rcases Nat.lt_trichotomy i i' with h1 | h1 | h1
 ·exact absurd rfl (kt hn h h' (.inl h1))
 ·subst h1
  rcases Nat.lt_trichotomy j j' with h2 | h2 | h2
  ·exact absurd rfl (kt hn h h' (.inr ⟨rfl,h2⟩))
  ·exact ⟨rfl,h2⟩
  ·exact absurd rfl (kt hn h' h (.inr ⟨rfl,h2⟩))
 ·exact absurd rfl (kt hn h' h (.inl h1))
theorem rS {s j s' j':Nat} (h:cz s j=cz s' j') (hj:j < 1000) (hj':j' < 1000):s=s'∧j=j':=by
 unfold cz at h
 omega
theorem pL {s:Nat}:∀ {ks:List gi} {j0 j e k:Nat},ks[j]?=some (.own e k)→cz s (j0+j) ∈ qD s j0 ks
 | [],j0,j,e,k,h=>by simp at h
 | q :: ks,j0,j,e,k,h=>by
  cases j with
  | zero=>simp at h;subst h;exact List.mem_cons_self ..
  | succ j =>
   have:=pL (s:=s) (ks:=ks) (j0:=j0+1) (j:=j) (by simpa using h)
   rw [show j0+1+j=j0+(j+1) by omega] at this
   cases q <;> first | exact this | exact List.mem_cons_of_mem _ this
theorem nD {site:Nat→Nat}:∀ {objs:List (Src×List gi)} {i0 i j e k:Nat} {o:Src×List gi},objs[i]?=some o→o.2[j]?=some (.own e k)→cz (site (i0+i)) j ∈ cB site i0 objs
 | [],i0,i,j,e,k,o,h,_=>by simp at h
 | q :: r,i0,i,j,e,k,o,h,h'=>by
  cases i with
  | zero =>
   simp at h
   subst h
   have:=pL (s:=site i0) (j0:=0) h'
   rw [Nat.zero_add] at this
   exact List.mem_append_left _ this
  | succ i =>
   have:=nD (site:=site) (objs:=r) (i0:=i0+1) (i:=i) (by simpa using h) h'
   rw [show i0+1+i=i0+(i+1) by omega] at this
   exact List.mem_append_right _ this
theorem ku {site:Nat→Nat} {s:Nat}:∀ {ks:List gi} {j0:Nat} {l:List AV},(dU site s j0 ks l).length=ks.length∧∀ (j:Nat) (k:gi),ks[j]?=some k→(dU site s j0 ks l)[j]?=some (match k with
  | .v=>.val (l.getD (j0+j) .un)
  | .own e k=>.own (cz s (j0+j)) e k (l.getD (j0+j) .un).elems
  | .eI g os=>.eI g (os.map site))
 | [],j0,l=>⟨rfl,fun j k h=>by simp at h⟩
 | q :: ks,j0,l=>by
  obtain ⟨h1,h2⟩:=ku (site:=site) (s:=s) (ks:=ks) (j0:=j0+1) (l:=l)
  refine ⟨by cases q <;> simp [dU,h1],fun j k hk=>?_⟩
  cases j with
  | zero=>simp at hk;subst hk;cases q <;> rfl
  | succ j =>
   have:=h2 j k (by simpa using hk)
   rw [show j0+1+j=j0+(j+1) by omega] at this
   cases q <;> simpa [dU] using this
theorem pM {st:St} {xs:List aY}:∀ {objs:List (Src×List gi)} {acc sites:List Nat},nk st xs acc objs=some sites→sites.length=acc.length+objs.length
 | [],acc,sites,h=>by cases h;rfl
 | o :: r,acc,sites,h=>by
  simp only [nk] at h
  obtain ⟨s,_,h⟩:=Option.bind_eq_some_iff.1 h
  have:=pM h
  simp at this ⊢
  omega
def erases (H:Nat→Option Value) (ids:List Nat):Nat→Option Value:=ids.foldl Sx.erase H
theorem yy {ids:List Nat}:∀ {H:Nat→Option Value} {i:Nat} {x:Value},erases H ids i=some x→H i=some x∧i ∉ ids:=by
 induction ids with
 | nil=>intro H i x h;exact ⟨h,by simp⟩
 | cons a r ih =>
  intro H i x h
  obtain ⟨h1,h2⟩:=ih (H:=Sx.erase H a) h
  obtain ⟨h3,h4⟩:=aK h1
  exact ⟨h4,fun hm=>by rcases List.mem_cons.1 hm with e | e;exact h3 e;exact h2 e⟩
section
variable {w:World} {F:Nat→Prop} {H:Nat→Option Value} {σ:Nat→Option Nat}
theorem J1 (ids:List Nat):∀ {H:Nat→Option Value} {e:aY} {x:Value},bS w F H σ e x→bS w F (erases H ids) σ (ids.foldl (fun e i=>aY.kl i e) e) x:=by
 induction ids with
 | nil=>intro H e x h;exact h
 | cons a r ih=>intro H e x h;exact ih (ml a (fun _ _ hb=>hb) e x h)
theorem FZ (ids:List Nat):∀ {H:Nat→Option Value} {c:Cell} {x:Value},bj w F H σ c x→bj w F (erases H ids) σ (ids.foldl (fun c i=>Cell.kl i c) c) x:=by
 induction ids with
 | nil=>intro H c x h;exact h
 | cons a r ih =>
  intro H c x h
  exact ih (bj.drop (Cell.kl a) (fun c hc=>Cell.ki c hc) (fun _ _ hb=>hb) (fun e k l x hx=>by simp only [Cell.kl,aR,if_true];exact Value.bY hx.2) h)
end
theorem J3 (ids:List Nat):∀ (st:St) (t:Nat),(st.Fm ids).env t=ids.foldl (fun e i=>aY.kl i e) (st.env t):=by
 induction ids with
 | nil=>intro st t;rfl
 | cons a r ih=>intro st t;exact ih (st.kl a) t
theorem J4 (ids:List Nat):∀ (st:St) (s:Nat),(st.Fm ids).mem s=(st.mem s).map (·.map fun c=>ids.foldl (fun c i=>Cell.kl i c) c):=by
 induction ids with
 | nil=>intro st s;simp [St.Fm]
 | cons a r ih =>
  intro st s
  have:(st.Fm (a :: r)).mem s=((st.kl a).Fm r).mem s:=rfl
  rw [this,ih]
  simp [St.kl,St.map,Option.map_map,Function.comp_def]
section
variable {C:cU} {P:Program} {w0:World} {F0:Fs} {nt:Nat} {st:St} {a:Act} {w:World} {H:Nat→Option Value} {σ:Nat→Option Nat}
def uI (σ:Nat→Option Nat) (H:Nat→Option Value) (site:Nat→Nat) (n:Nat) (L:List Nat) (b:Nat):Prop:=(∃ i,i < n∧σ (site i)=some b)∨∃ id ∈ L,∃ x,H id=some x∧x.ownBlock=some b
def kv (σ:Nat→Option Nat) (site:Nat→Nat) (n ntg:Nat):Nat→Option Nat:=fun s=>if ntg≤s∧s < ntg+n then σ (site (s - ntg)) else none
def lW (H:Nat→Option Value) (site:Nat→Nat) (mem:Nat→Option (List Cell)) (objs:List (Src×List gi)) (ntg id:Nat) (x:Value):Prop :=
 ∃ (i j e k:Nat) (o:Src×List gi) (cs:List Cell),objs[i]?=some o∧o.2[j]?=some (.own e k)∧mem (site i)=some cs∧id=cz (ntg+i) j ∧
  ((∃ (gT e' k':Nat) (l:List AV),cs[j]?=some (.own gT e' k' l)∧H gT=some x)∨(cs[j]?=some (.val .aG)∧x=.slice none 0 0))
def kz (w0:World) (F0:Fs) (H:Nat→Option Value) (σ:Nat→Option Nat) (site:Nat→Nat) (n ntg:Nat) (L:List Nat):Fs:=⟨Fr w0.heap.size F0 H σ,uI σ H site n L,kv σ site n ntg⟩
theorem lj {n:Nat} {objs:List (Src×List gi)} (h:mg n objs=true) {i j:Nat} {o:Src×List gi} {k:gi} (ho:objs[i]?=some o) (hk:o.2[j]?=some k):j < 1000∧(∀ e m,k=.own e m→0 < m)∧∀ g os,k=.eI g os→∀ q ∈ os,q < n:=by
 have h1:=List.all_eq_true.1 h o (List.mem_of_getElem? ho)
 rw [Bool.and_eq_true] at h1
 have h2:=Nat.le_of_ble_eq_true h1.1
 have hj:j < o.2.length:=(List.getElem?_eq_some_iff.1 hk).1
 have h3:=List.all_eq_true.1 h1.2 k (List.mem_of_getElem? hk)
 refine ⟨by omega,fun e m em=>?_,fun g os eg q hq=>?_⟩
 ·subst em
  have h3:Nat.blt 0 m=true:=h3
  unfold Nat.blt at h3
  exact Nat.le_of_ble_eq_true h3
 ·subst eg
  have:=List.all_eq_true.1 h3 q hq
  unfold Nat.blt at this
  exact Nat.le_of_ble_eq_true this
theorem lW.inj {n:Nat} {objs:List (Src×List gi)} (h:mg n objs=true) {site:Nat→Nat} {mem:Nat→Option (List Cell)} {ntg id:Nat} {x y:Value} (h1:lW H site mem objs ntg id x) (h2:lW H site mem objs ntg id y):y=x:=by
 obtain ⟨i,j,e,k,o,cs,a1,a2,a3,a4,a5⟩:=h1
 obtain ⟨i',j',e',k',o',cs',b1,b2,b3,b4,b5⟩:=h2
 obtain ⟨q1,q2⟩:=rS (a4.symm.trans b4) (lj h a1 a2).1 (lj h b1 b2).1
 have q1:i=i':=by omega
 subst q1;subst q2
 rw [a1] at b1;cases b1
 rw [a3] at b3;cases b3
 rcases a5 with ⟨Vx,e1,k1,l1,c1,c2⟩ | ⟨c1,rfl⟩ <;> rcases b5 with ⟨mB,e2,k2,l2,d1,d2⟩ | ⟨d1,rfl⟩
 ·rw [c1] at d1;cases d1
  rw [c2] at d2;exact (Option.some.inj d2).symm
 ·rw [c1] at d1;cases d1
 ·rw [c1] at d1;cases d1
 ·rfl
theorem oJ {sites:List Nat}:∀ {ps:List NA} {xs:List aY},mb sites ps xs=true→xs.length=ps.length∧(cW ps xs).length=ps.length∧∀ (t:Nat) (p:NA),ps[t]?=some p→∃ e,xs[t]?=some e∧uy sites p e=true∧(match p with | .v=>(cW ps xs)[t]?=some e.aX∧∀ i ∈ e.ids,i ∈ mf ps xs | _=>True)
 | [],[],_=>⟨rfl,rfl,fun t p h=>by simp at h⟩
 | p :: ps,x :: xs,h=>by
  simp only [mb,Bool.and_eq_true] at h
  obtain ⟨h1,h2,h3⟩:=oJ h.2
  refine ⟨by simp [h1],by cases p <;> simp [cW,h2],fun t q hq=>?_⟩
  cases t with
  | zero =>
   simp at hq
   subst hq
   refine ⟨x,rfl,h.1,?_⟩
   cases p with
   | v=>exact ⟨rfl,fun i hi=>List.mem_append_left _ hi⟩
   | _=>trivial
  | succ t =>
   obtain ⟨e,q1,q2,q3⟩:=h3 t q (by simpa using hq)
   refine ⟨e,by simpa using q1,q2,?_⟩
   cases q with
   | v =>
    refine ⟨by cases p <;> simpa [cW] using q3.1,fun i hi=>?_⟩
    have:=q3.2 i hi
    cases p <;> first | exact List.mem_append_right _ this | exact this
   | _=>trivial
 | [],_ :: _,h=>by cases h
 | _ :: _,[],h=>by cases h
theorem Ea {sites:List Nat} {i:Nat} {e:aY} (h:uy sites (.obj i) e=true):∃ s,e=.cell (.ptr s 0)∧sites[i]?=some s:=by
 cases e with
 | cell c =>
  cases c with
  | ptr s o =>
   simp only [uy,Bool.and_eq_true] at h
   have ho:=Nat.eq_of_beq_eq_true h.1
   subst ho
   refine ⟨s,rfl,?_⟩
   have h2:=h.2
   cases hs:sites[i]? with
   | none=>rw [hs] at h2;cases h2
   | some t=>rw [hs] at h2;rw [Nat.eq_of_beq_eq_true h2]
  | _=>cases h
 | _=>cases h
theorem Eb {sites:List Nat} {g:Nat} {os:List Nat} {e:aY} (h:uy sites (.eI g os) e=true):∃ ss,e=.cell (.eI g ss)∧eT ss (os.map fun o=>sites.getD o 0)=true∧∀ q ∈ os,q < sites.length:=by
 cases e with
 | cell c =>
  cases c with
  | eI g' ss =>
   simp only [uy,Bool.and_eq_true] at h
   have hg:=Nat.eq_of_beq_eq_true h.1.1
   subst hg
   exact ⟨ss,rfl,h.1.2,fun q hq=>by have:=List.all_eq_true.1 h.2 q hq;unfold Nat.blt at this;exact Nat.le_of_ble_eq_true this⟩
  | _=>cases h
 | _=>cases h
theorem F4 (h:Inv C w0 F0 nt st a w H σ) {sg:vE} {sites:List Nat} {xs:List aY} {vs:Array Value} {ntg:Nat} {ins:List AV} {ids:List Nat}
  (fp:mg sg.objs.length sg.objs=true) (hn:nodup sites=true) (hp:mb sites sg.ps xs=true) (hl:sites.length=sg.objs.length) (hno:nodup (ck true (fun i=>sites.getD i 0) st.mem 0 sg.objs)=true)
  (hk:np (fun i=>sites.getD i 0) st.mem 0 sg.objs=some ins) (hv:vs.size=sg.ps.length) (Ye:sg.ps.length≤ntg)
  (oG:∀ (i j:Nat) (o:Src×List gi) (cs:List Cell) (c:Cell),sg.objs[i]?=some o→o.2[j]?=some .v→st.mem (sites.getD i 0)=some cs→cs[j]?=some c→∀ id e k l,c≠.own id e k l)
  (hx:∀ (t:Nat) (e:aY) (v:Value),xs[t]?=some e→vs[t]?=some v→(e.told=true→(∀ i ∈ e.ids,i ∈ mf sg.ps xs)→Rel w (Fr w0.heap.size F0 H σ) e.aX v)∧∀ c,e=.cell c→bj w (Fr w0.heap.size F0 H σ) (fun _=>none) σ c v∨c.told=true∨c=.dead) :
  Inv C w (kz w0 F0 H σ (fun i=>sites.getD i 0) sites.length ntg (ck true (fun i=>sites.getD i 0) st.mem 0 sg.objs)) ntg (B4 ntg sg (cW sg.ps xs ++ ins)) ⟨vs ++ Array.replicate (ntg - vs.size) undef,[]⟩ w
   (gR (lW H (fun i=>sites.getD i 0) st.mem sg.objs ntg)) (kv σ (fun i=>sites.getD i 0) sites.length ntg):=by
 obtain ⟨ue,hk2⟩:=jB hk
 obtain ⟨Ui,Vy,hp3⟩:=oJ hp
 generalize hL:ck true (fun i=>sites.getD i 0) st.mem 0 sg.objs=L at hno
 have Vz:∀ id x,gR (lW H (fun i=>sites.getD i 0) st.mem sg.objs ntg) id=some x→∀ b,x.ownBlock=some b→∃ gT,gT ∈ L∧H gT=some x:=by
  intro id x hid b hb
  obtain ⟨i,j,e,k,o,cs,a1,a2,a3,a4,a5⟩:=gS hid
  rcases a5 with ⟨gT,e',k',l,c1,c2⟩ | ⟨_,rfl⟩
  ·refine ⟨gT,?_,c2⟩
   rw [← hL]
   exact lh ⟨o,cs,e,k,e',k',l,a1,by rw [Nat.zero_add];exact a3,a2,c1⟩
  ·cases hb
 have hσc:∀ s r,kv σ (fun i=>sites.getD i 0) sites.length ntg s=some r→∃ i,i < sites.length∧s=ntg+i∧σ (sites.getD i 0)=some r:=by
  intro s r hs
  unfold kv at hs
  split at hs
  ·rename_i hc
   exact ⟨s - ntg,by omega,by omega,hs⟩
  ·cases hs
 have hσo:∀ i,i < sites.length→kv σ (fun i=>sites.getD i 0) sites.length ntg (ntg+i)=σ (sites.getD i 0):=by
  intro i hi
  unfold kv
  rw [if_pos (by omega),show ntg+i - ntg=i by omega]
 have hF:∀ b,b < w.heap.size→Fr w0.heap.size F0 H σ b→Fr w.heap.size (kz w0 F0 H σ (fun i=>sites.getD i 0) sites.length ntg L) (gR (lW H (fun i=>sites.getD i 0) st.mem sg.objs ntg)) (kv σ (fun i=>sites.getD i 0) sites.length ntg) b∧w.heap[b]?=w.heap[b]?:=by
  intro b hb hf
  refine ⟨⟨fun _=>.inl hf,fun i v hv e=>?_,fun s hs=>?_⟩,rfl⟩
  ·obtain ⟨gT,_,h2⟩:=Vz i v hv b e
   exact hf.2.1 gT v h2 e
  ·obtain ⟨i,_,_,h3⟩:=hσc s b hs
   exact hf.2.2 _ h3
 have tm:∀ t v,vs[t]?=some v→(vs ++ Array.replicate (ntg - vs.size) undef).getD t undef=v:=by
  intro t v hv
  have hlt:t < vs.size:=by
   rcases Nat.lt_or_ge t vs.size with h | h
   ·exact h
   ·rw [Array.getElem?_eq_none h] at hv;cases hv
  simp [Array.getElem?_append,hlt] at hv ⊢
  exact hv
 have F5:∀ (g:Nat) (os ss:List Nat) (v:Value) (Hn:Nat→Option Value),(∀ q ∈ os,q < sites.length)→eT ss (os.map fun o=>sites.getD o 0)=true→bj w (Fr w0.heap.size F0 H σ) Hn σ (.eI g ss) v →
   bj w (Fr w.heap.size (kz w0 F0 H σ (fun i=>sites.getD i 0) sites.length ntg L) (gR (lW H (fun i=>sites.getD i 0) st.mem sg.objs ntg)) (kv σ (fun i=>sites.getD i 0) sites.length ntg)) (gR (lW H (fun i=>sites.getD i 0) st.mem sg.objs ntg)) (kv σ (fun i=>sites.getD i 0) sites.length ntg) (.eI g (os.map fun i=>ntg+i)) v:=by
  intro g os ss v Hn NF Uf hr
  obtain ⟨rs,h1,h2,h3⟩:=hr
  have:=kq Uf
  subst this
  refine ⟨rs,by simpa using h1,h2,fun j s r q1 q2=>?_⟩
  rw [List.getElem?_map] at q1
  cases ho:os[j]? with
  | none=>rw [ho] at q1;cases q1
  | some o =>
   rw [ho] at q1
   simp only [Option.map_some,Option.some.injEq] at q1
   subst q1
   have:=h3 j (sites.getD o 0) r (by rw [List.getElem?_map,ho];rfl) q2
   rw [hσo o (NF o (List.mem_of_getElem? ho))]
   exact this
 exact {
  defers:=rfl
  size:=by simp;omega
  env:=fun t=>by
   show bS _ _ _ _ (match sg.ps[t]? with
    | some .v=>.val ((cW sg.ps xs ++ ins).getD t .un)
    | some (.obj i)=>.cell (.ptr (ntg+i) 0)
    | some (.eI g os)=>.cell (.eI g (os.map fun i=>ntg+i))
    | none=>.dead) _
   cases QA:sg.ps[t]? with
   | none=>trivial
   | some p =>
    obtain ⟨e,q1,q2,q3⟩:=hp3 t p QA
    have Vs:t < vs.size:=by rw [hv];exact (List.getElem?_eq_some_iff.1 QA).1
    have Yf:vs[t]?=some vs[t]:=Array.getElem?_eq_getElem Vs
    have Q8:=tm t vs[t] Yf
    obtain ⟨r1,r2⟩:=hx t e vs[t] q1 Yf
    show bS _ _ _ _ _ ((vs ++ Array.replicate (ntg - vs.size) undef).getD t undef)
    rw [Q8]
    cases p with
    | v =>
     have hlt:t < (cW sg.ps xs).length:=by rw [Vy];exact (List.getElem?_eq_some_iff.1 QA).1
     have e1:(cW sg.ps xs ++ ins).getD t .un=e.aX:=by
      rw [List.getD_eq_getElem?_getD,List.getElem?_append_left hlt,q3.1];rfl
     show Rel _ _ ((cW sg.ps xs ++ ins).getD t .un) _
     rw [e1]
     exact (r1 q2 q3.2).mono hF
    | obj i =>
     obtain ⟨s,rfl,Rg⟩:=Ea q2
     rcases r2 _ rfl with h5 | h5 | h5
     ·obtain ⟨b,hb,hvb⟩:=h5
      have hlt:i < sites.length:=(List.getElem?_eq_some_iff.1 Rg).1
      refine ⟨b,?_,hvb⟩
      rw [hσo i hlt]
      show σ (sites.getD i 0)=some b
      rw [List.getD_eq_getElem?_getD,Rg];exact hb
     ·cases h5
     ·cases h5
    | eI g os =>
     obtain ⟨ss,rfl,k1,k2⟩:=Eb q2
     rcases r2 _ rfl with h5 | h5 | h5
     ·exact F5 g os ss _ _ k2 k1 h5
     ·cases h5
     ·cases h5
  mem:=fun s cs hcs=>by
   have hcs:(bif Nat.ble ntg s then (match sg.objs[s - ntg]? with
    | some o=>(match (cW sg.ps xs ++ ins)[sg.ps.length+(s - ntg)]? with
     | some (.ag l)=>some (dU (fun i=>ntg+i) s 0 o.2 l)
     | _=>none)
    | none=>none) else none)=some cs:=hcs
   cases hb:Nat.ble ntg s with
   | false=>rw [hb] at hcs;cases hcs
   | true =>
    rw [hb] at hcs
    simp only [cond_true] at hcs
    have hle:=Nat.le_of_ble_eq_true hb
    cases ho:sg.objs[s - ntg]? with
    | none=>rw [ho] at hcs;cases hcs
    | some o =>
     rw [ho] at hcs
     simp only at hcs
     obtain ⟨cs0,l,c1,c2,c3⟩:=hk2 (s - ntg) o ho
     rw [Nat.zero_add] at c1
     have e1:(cW sg.ps xs ++ ins)[sg.ps.length+(s - ntg)]?=some (.ag l):=by
      rw [← Vy,List.getElem?_append_right (by omega),show (cW sg.ps xs).length+(s - ntg) - (cW sg.ps xs).length=s - ntg by omega]
      exact c3
     rw [e1] at hcs
     simp only [Option.some.injEq] at hcs
     subst hcs
     obtain ⟨r,us,e,d1,d2,d3,d4⟩:=h.mem _ cs0 c1
     obtain ⟨f1,f2,f3⟩:=jh c2
     obtain ⟨g1,g2⟩:=ku (site:=fun i=>ntg+i) (s:=s) (ks:=o.2) (j0:=0) (l:=l)
     have hi:s - ntg < sites.length:=by rw [hl];exact (List.getElem?_eq_some_iff.1 ho).1
     refine ⟨r,us,e,?_,d2,by rw [d3,f1,g1],fun j c v hc Ri=>?_⟩
     ·have:=hσo (s - ntg) hi
      rw [show ntg+(s - ntg)=s by omega] at this
      rw [this];exact d1
     ·have hj:j < o.2.length:=by rw [← g1];exact (List.getElem?_eq_some_iff.1 hc).1
      have hkj:o.2[j]?=some o.2[j]:=List.getElem?_eq_getElem hj
      have jv:cs0[j]?=some cs0[j]:=List.getElem?_eq_getElem (by omega)
      obtain ⟨u,u1,u2⟩:=f3 j _ _ hkj jv
      have hr:=d4 j _ v jv Ri
      rw [g2 j _ hkj] at hc
      simp only [Nat.zero_add,Option.some.injEq] at hc
      have Rj:l.getD j .un=u:=by rw [List.getD_eq_getElem?_getD,u1];rfl
      rw [Rj] at hc
      obtain ⟨s1,s2,s3⟩:=lj fp ho hkj
      generalize uj:o.2[j]=kk at hc hkj u2 s2 s3
      generalize hcc:cs0[j]=cc at jv u2 hr
      subst hc
      cases kk with
      | v =>
       unfold JB at u2
       simp only at u2
       cases ht:cc.told with
       | false=>rw [ht] at u2;cases u2
       | true =>
        rw [ht] at u2
        simp only [cond_true,Option.some.injEq] at u2
        subst u2
        cases cc with
        | val x=>exact ⟨hr.1,hr.2.mono hF⟩
        | own id e k l'=>exact absurd rfl (oG _ j o cs0 _ ho hkj c1 jv id e k l')
        | _=>cases ht
      | own e k =>
       unfold JB at u2
       simp only at u2
       split at u2
       ·rename_i id e' k' l'
        cases lg:(Nat.beq e e' && Nat.beq k k') with
        | false=>rw [lg] at u2;cases u2
        | true =>
         rw [lg] at u2
         simp only [cond_true,Option.some.injEq] at u2
         subst u2
         rw [Bool.and_eq_true] at lg
         have z1:=Nat.eq_of_beq_eq_true lg.1
         have z2:=Nat.eq_of_beq_eq_true lg.2
         subst z1;subst z2
         refine ⟨rQ (fun y hy=>lW.inj fp ?_ hy) ?_,hr.2.mono hF fun _ _=>rfl⟩ <;>
         exact ⟨s - ntg,j,e,k,o,cs0,ho,hkj,c1,by rw [show ntg+(s - ntg)=s by omega],.inl ⟨id,e,k,l',jv,hr.1⟩⟩
       ·cases hb0:Nat.blt 0 k with
        | false=>rw [hb0] at u2;cases u2
        | true =>
         rw [hb0] at u2
         simp only [cond_true,Option.some.injEq] at u2
         subst u2
         have hv0:v=.slice none 0 0:=by
          have:=hr.2
          cases this;rfl
         subst hv0
         refine ⟨rQ (fun y hy=>lW.inj fp ?_ hy) ?_,s2 e k rfl,[],World.ownsRow_nil w 0 _ _,by simp,fun i j v hi=>by simp [AV.elems] at hi⟩ <;>
         exact ⟨s - ntg,j,e,k,o,cs0,ho,hkj,c1,by rw [show ntg+(s - ntg)=s by omega],.inr ⟨jv,rfl⟩⟩
       ·cases u2
      | eI g os =>
       unfold JB at u2
       simp only at u2
       split at u2
       ·rename_i h' ss
        cases lg:(Nat.beq g h' && eT ss (os.map fun i=>sites.getD i 0)) with
        | false=>rw [lg] at u2;cases u2
        | true =>
         rw [Bool.and_eq_true] at lg
         have z1:=Nat.eq_of_beq_eq_true lg.1
         subst z1
         exact F5 g os ss v H (fun q hq=>by rw [hl];exact s3 g os rfl q hq) lg.2 hr
       ·cases u2
  hown:=fun i x g hi hg=>by
   obtain ⟨gT,h1,h2⟩:=Vz i x hi g hg
   exact ⟨.inr (.inr ⟨gT,h1,x,h2,hg⟩),(h.hown gT x g h2 hg).2⟩
  sown:=fun s r hs=>by
   obtain ⟨i,h1,_,h3⟩:=hσc s r hs
   exact ⟨.inr (.inl ⟨i,h1,h3⟩),(h.sown _ r h3).2⟩
  obj:=fun s b hb=>by
   refine ⟨?_,hb⟩
   obtain ⟨i,_,h2,_⟩:=hσc s b hb
   omega
  hh:=fun i i' x y g hne hi hi' hx hy=>by
   obtain ⟨i1,j1,e1,k1,o1,cs1,a1,a2,a3,a4,a5⟩:=gS hi
   obtain ⟨i2,j2,e2,k2,o2,qG,b1,b2,b3,b4,b5⟩:=gS hi'
   rcases a5 with ⟨Vx,e3,k3,l1,c1,c2⟩ | ⟨_,rfl⟩
   ·rcases b5 with ⟨mB,e4,k4,l2,d1,d2⟩ | ⟨_,rfl⟩
    ·have q1:jU (fun i=>sites.getD i 0) st.mem sg.objs 0 i1 j1 Vx:=⟨o1,cs1,e1,k1,e3,k3,l1,a1,by rw [Nat.zero_add];exact a3,a2,c1⟩
     have q2:jU (fun i=>sites.getD i 0) st.mem sg.objs 0 i2 j2 mB:=⟨o2,qG,e2,k2,e4,k4,l2,b1,by rw [Nat.zero_add];exact b3,b2,d1⟩
     refine h.hh Vx mB x y g (fun e=>?_) c2 d2 hx hy
     subst e
     obtain ⟨z1,z2⟩:=uH (by rw [hL];exact hno) q1 q2
     subst z1;subst z2
     exact hne (a4.trans b4.symm)
    ·cases hy
   ·cases hx
  hs:=fun i s x r hi hs hx=>by
   obtain ⟨gT,_,h2⟩:=Vz i x hi r hx
   obtain ⟨q,_,_,h3⟩:=hσc s r hs
   exact h.hs gT _ x r h2 h3 hx
  ss:=fun s s' r hne hs hs'=>by
   obtain ⟨q,q1,q2,q3⟩:=hσc s r hs
   obtain ⟨p,p1,p2,p3⟩:=hσc s' r hs'
   refine h.ss _ _ r (fun e=>?_) q3 p3
   have e1:sites[q]?=some (sites.getD q 0):=by rw [List.getD_eq_getElem?_getD,List.getElem?_eq_getElem q1];rfl
   have e2:sites[p]?=some (sites.getD q 0):=by rw [e,List.getD_eq_getElem?_getD,List.getElem?_eq_getElem p1];rfl
   have:=uG hn e1 e2
   omega
  glob:=fun g k e hg=>by
   obtain ⟨r,o,h1,h2,h3,h4⟩:=h.glob g k e hg
   exact ⟨r,o,h1,(hF r h3 h2).1,h3,fun j hj=>by
    obtain ⟨v,a1,a2,a3⟩:=h4 j hj
    exact ⟨v,a1,a2,a3.mono hF⟩⟩
  below:=Fq.refl _ w }
end
def ln (site:Nat→Nat):Nat→List (Src×List gi)→List (List AV)→St→St
 | i,o :: r,l :: ls,st=>ln site (i+1) r ls (st.ek (site i) (dU site (site i) 0 o.2 l))
 | _,_,_,st=>st
theorem pN {site:Nat→Nat}:∀ {objs:List (Src×List gi)} {ls:List (List AV)} {i:Nat} {st:St},(ln site i objs ls st).env=st.env
 | [],_,_,_=>rfl
 | _ :: _,[],_,_=>rfl
 | o :: r,l :: ls,i,st=>pN (objs:=r) (ls:=ls)
theorem pO {site:Nat→Nat}:∀ {objs:List (Src×List gi)} {ls:List (List AV)} {i0:Nat} {st:St} {s:Nat} {cs:List Cell},(ln site i0 objs ls st).mem s=some cs →
  (∃ i o l,objs[i]?=some o∧ls[i]?=some l∧s=site (i0+i)∧cs=dU site s 0 o.2 l)∨((∀ i,i < objs.length→i < ls.length→s≠site (i0+i))∧st.mem s=some cs)
 | [],_,_,_,_,_,h=>.inr ⟨fun i hi=>by simp at hi,h⟩
 | _ :: _,[],_,_,_,_,h=>.inr ⟨fun i _ hi=>by simp at hi,h⟩
 | o :: r,l :: ls,i0,st,s,cs,h=>by
  have h:(ln site (i0+1) r ls (st.ek (site i0) (dU site (site i0) 0 o.2 l))).mem s=some cs:=h
  rcases pO h with ⟨i,o',l',h1,h2,h3,h4⟩ | ⟨h1,h2⟩
  ·exact .inl ⟨i+1,o',l',by simpa using h1,by simpa using h2,by rw [h3];congr 1;omega,h4⟩
  ·simp only [St.ek,aR] at h2
   split at h2
   ·rename_i hs
    cases h2
    exact .inl ⟨0,o,l,rfl,rfl,hs,by rw [hs]⟩
   ·rename_i hs
    refine .inr ⟨fun i hi hi'=>?_,h2⟩
    cases i with
    | zero=>exact hs
    | succ i =>
     have:=h1 i (by simpa using hi) (by simpa using hi')
     rw [show i0+(i+1)=i0+1+i by omega];exact this
theorem rT {R:Type} {site:Nat→Nat} {r0:AV} {K:St→Option R} {r:R}:∀ {objs:List (Src×List gi)} {pre ls:List (List AV)} {st:St},ls.length=objs.length→pA site (.tu (r0 :: (pre ++ ls).map .ag)) pre.length objs st K=some r→K (ln site pre.length objs ls st)=some r
 | [],pre,[],st,_,h=>h
 | [],pre,_ :: _,st,hl,_=>by simp at hl
 | _ :: _,pre,[],st,hl,_=>by simp at hl
 | o :: t,pre,l :: ls,st,hl,h=>by
  simp only [pA] at h
  obtain ⟨v,hv,h⟩:=Option.bind_eq_some_iff.1 h
  obtain ⟨l',hl',h⟩:=Option.bind_eq_some_iff.1 h
  have hv:(r0 :: (pre ++ l :: ls).map AV.ag)[pre.length+1]?=some v:=hv
  rw [List.getElem?_cons_succ,List.getElem?_map,List.getElem?_append_right (Nat.le_refl _),Nat.sub_self] at hv
  simp only [List.getElem?_cons_zero,Option.map_some,Option.some.injEq] at hv
  subst hv
  unfold AV.aI at hl'
  simp only at hl'
  split at hl'
  ·cases hl'
   have e:(pre ++ l :: ls)=((pre ++ [l]) ++ ls):=by simp
   rw [e,show pre.length+1=(pre ++ [l]).length by simp] at h
   have:=rT (objs:=t) (pre:=pre ++ [l]) (ls:=ls) (by simpa using hl) h
   rw [show (pre ++ [l]).length=pre.length+1 by simp] at this
   exact this
  ·cases hl'
section
variable {C:cU} {P:Program} {w0:World} {F0:Fs} {nt:Nat} {st:St} {a:Act} {w:World} {H:Nat→Option Value} {σ:Nat→Option Nat}
def fu (w':World) (σ:Nat→Option Nat) (site:Nat→Nat) (objs:List (Src×List gi)) (id:Nat) (x:Value):Prop :=
 ∃ (i j e k b t:Nat) (o:Src×List gi) (us:List Value),objs[i]?=some o∧o.2[j]?=some (.own e k)∧id=cz (site i) j∧σ (site i)=some b∧w'.heap[b]?=some (.cells us.toArray t (0,0))∧us[j]?=some x
theorem nE {g ntg:Nat} {sg:vE} {fn:Func} {res:AV} (h:nr C g ntg sg fn st=some res):∃ outs,C.own g=[]∧(fn.results.toList.map (dp C st)).all aY.told=true∧nodup (ck true (fun i=>ntg+i) st.mem 0 sg.outs)=true ∧
  (∀ id ∈ ck true (fun i=>ntg+i) st.mem 0 sg.outs,id ∉ ((fn.results.toList.map (dp C st)).flatMap aY.ids ++ ck false (fun i=>ntg+i) st.mem 0 sg.outs))∧np (fun i=>ntg+i) st.mem 0 sg.outs=some outs∧res=.tu (one? ((fn.results.toList.map (dp C st)).map aY.aX) :: outs):=by
 unfold nr at h
 simp only at h
 cases hb:((C.own g).isEmpty && ((fn.results.toList.map (dp C st)).all aY.told && (nodup (ck true (fun i=>ntg+i) st.mem 0 sg.outs) && (ck true (fun i=>ntg+i) st.mem 0 sg.outs).all (fun i=>!(((fn.results.toList.map (dp C st)).flatMap aY.ids ++ ck false (fun i=>ntg+i) st.mem 0 sg.outs).any fun j=>Nat.beq i j))))) with
 | false=>rw [hb] at h;cases h
 | true =>
  rw [hb] at h
  simp only [cond_true] at h
  obtain ⟨outs,ho,h⟩:=Option.bind_eq_some_iff.1 h
  cases h
  simp only [Bool.and_eq_true] at hb
  refine ⟨outs,by simpa using hb.1,hb.2.1,hb.2.2.1,fun id hid hm=>?_,ho,rfl⟩
  have:=List.all_eq_true.1 hb.2.2.2 id hid
  simp only [Bool.not_eq_true',List.any_eq_false] at this
  exact this id hm (Nat.beq_refl id)
theorem yz:∀ {ks:List gi} {cs:List Cell} {j id:Nat} {c:Cell},(∀ e k,ks[j]?≠some (.own e k))→j < ks.length→cs[j]?=some c→id ∈ c.ids→id ∈ qx false ks cs
 | [],_,j,id,c,_,h,_,_=>by simp at h
 | _ :: _,[],j,id,c,_,_,h,_=>by simp at h
 | q :: ks,c0 :: cs,j,id,c,hk,hj,hc,hi=>by
  cases j with
  | zero =>
   simp at hc
   subst hc
   cases q with
   | own e k=>exact absurd rfl (hk e k)
   | _=>exact List.mem_append_left _ hi
  | succ j =>
   have:=yz (ks:=ks) (cs:=cs) (j:=j) (id:=id) (fun e k=>by simpa using hk e k) (by simpa using hj) (by simpa using hc) hi
   cases q <;> exact List.mem_append_right _ this
theorem oK {site:Nat→Nat} {mem:Nat→Option (List Cell)}:∀ {objs:List (Src×List gi)} {i0 i j id:Nat} {o:Src×List gi} {cs:List Cell} {c:Cell},objs[i]?=some o→mem (site (i0+i))=some cs→(∀ e k,o.2[j]?≠some (.own e k))→j < o.2.length→cs[j]?=some c→id ∈ c.ids→id ∈ ck false site mem i0 objs
 | [],i0,i,j,id,o,cs,c,h,_,_,_,_,_=>by simp at h
 | q :: r,i0,i,j,id,o,cs,c,h1,h2,h3,h4,h5,h6=>by
  cases i with
  | zero =>
   simp at h1
   subst h1
   have h2:mem (site i0)=some cs:=h2
   simp only [ck,h2]
   exact List.mem_append_left _ (yz h3 h4 h5 h6)
  | succ i=>exact List.mem_append_right _ (oK (i:=i) (by simpa using h1) (by rw [show i0+1+i=i0+(i+1) by omega];exact h2) h3 h4 h5 h6)
theorem Cf:∀ {outs:List AV},(∀ (i:Nat) (x:AV),outs[i]?=some x→∃ l,x=.ag l)→∃ ls:List (List AV),outs=ls.map .ag
 | [],_=>⟨[],rfl⟩
 | x :: r,h=>by
  obtain ⟨l,rfl⟩:=h 0 x rfl
  obtain ⟨ls,rfl⟩:=Cf (outs:=r) fun i x hx=>h (i+1) x (by simpa using hx)
  exact ⟨l :: ls,rfl⟩
theorem J5 {F:Nat→Prop}:∀ {rs:List AV} {vs:List Value},rs.length=vs.length→(∀ (j:Nat) (x:Value) (v:AV),vs[j]?=some x→rs[j]?=some v→Rel w F v x)→Rel w F (one? rs) (uk vs)
 | [],[],_,_=>.tu [] [] rfl (fun j v hv=>by simp at hv)
 | [v],[x],_,h=>h 0 x v rfl rfl
 | v :: v' :: rs,x :: x' :: vs,hl,h=>by
  refine .tu (v :: v' :: rs) (x :: x' :: vs) hl fun j u hu=>?_
  have hj:j < (v :: v' :: rs).length:=by rw [hl];exact (List.getElem?_eq_some_iff.1 hu).1
  have:=h j u _ hu (List.getElem?_eq_getElem hj)
  rw [List.getD_eq_getElem?_getD,List.getElem?_eq_getElem hj]
  exact this
 | [],_ :: _,hl,_=>by simp at hl
 | _ :: _,[],hl,_=>by simp at hl
 | [_],_ :: _ :: _,hl,_=>by simp at hl
 | _ :: _ :: _,[_],hl,_=>by simp at hl
theorem fu.inj {n:Nat} {objs:List (Src×List gi)} {w':World} {sites:List Nat} (h:mg n objs=true) (hn:nodup sites=true) (hl:sites.length=objs.length) {id:Nat} {x y:Value} (h1:fu w' σ (fun i=>sites.getD i 0) objs id x) (h2:fu w' σ (fun i=>sites.getD i 0) objs id y):y=x:=by
 obtain ⟨i,j,e,k,b,t,o,us,a1,a2,a3,a4,a5,a6⟩:=h1
 obtain ⟨i',j',e',k',b',t',o',Rk,c1,c2,c3,c4,c5,c6⟩:=h2
 obtain ⟨q1,q2⟩:=rS (a3.symm.trans c3) (lj h a1 a2).1 (lj h c1 c2).1
 have hi:i < sites.length:=by rw [hl];exact (List.getElem?_eq_some_iff.1 a1).1
 have hi':i' < sites.length:=by rw [hl];exact (List.getElem?_eq_some_iff.1 c1).1
 have e1:sites[i]?=some (sites.getD i 0):=by rw [List.getD_eq_getElem?_getD,List.getElem?_eq_getElem hi];rfl
 have q1:sites.getD i 0=sites.getD i' 0:=q1
 have e2:sites[i']?=some (sites.getD i 0):=by rw [q1,List.getD_eq_getElem?_getD,List.getElem?_eq_getElem hi'];rfl
 have:=uG hn e1 e2
 subst this;subst q2
 rw [a4] at c4;cases c4
 rw [a5] at c5
 have:us=Rk:=by have:=Option.some.inj c5;simp at this;exact this.1
 subst this
 rw [a6] at c6
 exact (Option.some.inj c6).symm
theorem Ec (hT:∀ t i,C.ty t=some i→cr P t i) (h:Inv C w0 F0 nt st a w H σ) {sg:vE} {sites:List Nat} {g:Nat} {fn:Func} {ins:List AV} {w':World} {j3:St} {a2:Act} {H2:Nat→Option Value} {σ2:Nat→Option Nat} {res:AV} {v:Value}
  (fp:mg sg.objs.length sg.outs=true) (jA:sg.outs.length=sg.objs.length) (hn:nodup sites=true) (hl:sites.length=sg.outs.length) (hno:nodup (ck true (fun i=>sites.getD i 0) st.mem 0 sg.objs)=true)
  (hk:np (fun i=>sites.getD i 0) st.mem 0 sg.objs=some ins)
  (hI:Inv C w (kz w0 F0 H σ (fun i=>sites.getD i 0) sites.length fn.ntmps (ck true (fun i=>sites.getD i 0) st.mem 0 sg.objs)) fn.ntmps j3 a2 w' H2 σ2)
  (hf:nr C g fn.ntmps sg fn j3=some res) (hrun:(results fn a2.tmps).run P w'=.ok v w') :
  ∃ r0 ls H',res=.tu (r0 :: ls.map .ag)∧ls.length=sg.outs.length ∧
   Inv C w0 F0 nt (ln (fun i=>sites.getD i 0) 0 sg.outs ls (st.Fm (ck true (fun i=>sites.getD i 0) st.mem 0 sg.objs ++ cB (fun i=>sites.getD i 0) 0 sg.outs))) a w' H' σ∧Rel w' (Fr w0.heap.size F0 H' σ) r0 v:=by
 obtain ⟨ue,hk2⟩:=jB hk
 obtain ⟨outs,f1,f2,f3,f4,f5,rfl⟩:=nE hf
 obtain ⟨Yg,Un⟩:=jB f5
 generalize hL:ck true (fun i=>sites.getD i 0) st.mem 0 sg.objs=L at hno hI ⊢
 generalize My:(fun i=>sites.getD i 0)=site at *
 have hsi:∀ i,site i=sites.getD i 0:=fun i=>by rw [← My]
 obtain ⟨vs,g1,g2,g3⟩:=mA hT hI fn fun rv hm=>List.all_eq_true.1 f2 _ (List.mem_map.2 ⟨rv,hm,rfl⟩)
 have hv:v=uk vs:=by rw [g2] at hrun;cases hrun;rfl
 subst hv
 obtain ⟨H3,VA,Mz,Rl,Rm⟩:=hI.vM ((fn.results.toList.map (dp C j3)).flatMap aY.ids ++ ck false (fun i=>fn.ntmps+i) j3.mem 0 sg.outs)
 obtain ⟨ls,rfl⟩:=Cf (outs:=outs) fun i x hx=>by
  have hi:i < sg.outs.length:=by rw [← Yg];exact (List.getElem?_eq_some_iff.1 hx).1
  obtain ⟨cs,Vw,_,_,q3⟩:=Un i sg.outs[i] (List.getElem?_eq_getElem hi)
  rw [q3] at hx
  exact ⟨Vw,(Option.some.inj hx).symm⟩
 have Mx:ls.length=sg.outs.length:=by simpa using Yg
 have F6:∀ (i:Nat) (o:Src×List gi),sg.outs[i]?=some o→∃ (b:Nat) (us:List Value) (t:Nat) (qG:List Cell) (l:List AV),σ (site i)=some b∧σ2 (fn.ntmps+i)=some b∧w'.heap[b]?=some (.cells us.toArray t (0,0))∧us.length=o.2.length∧ls[i]?=some l∧D3 (fun i=>fn.ntmps+i) o.2 qG=some l∧j3.mem (fn.ntmps+i)=some qG ∧
   ∀ (j:Nat) (c:Cell) (x:Value),qG[j]?=some c→us[j]?=some x→bj w' (Fr w.heap.size (kz w0 F0 H σ site sites.length fn.ntmps L) H2 σ2) H2 σ2 c x:=by
  intro i o ho
  obtain ⟨cs,_,q1,_,_⟩:=hk2 i (sg.objs[i]'(by rw [← jA];exact (List.getElem?_eq_some_iff.1 ho).1)) (List.getElem?_eq_getElem _)
  rw [Nat.zero_add] at q1
  obtain ⟨b,_,_,b1,_,_,_⟩:=h.mem (site i) cs (by rw [hsi];exact q1)
  have hi:i < sites.length:=by rw [hl];exact (List.getElem?_eq_some_iff.1 ho).1
  have hob:(kz w0 F0 H σ site sites.length fn.ntmps L).obj (fn.ntmps+i)=some b:=by
   show kv σ site sites.length fn.ntmps (fn.ntmps+i)=some b
   unfold kv
   rw [if_pos (by omega),show fn.ntmps+i - fn.ntmps=i by omega]
   exact b1
  obtain ⟨qG,l,r1,r2,r3⟩:=Un i o ho
  rw [Nat.zero_add] at r1
  obtain ⟨b',us,t,c1,c2,c3,c4⟩:=hI.mem _ qG r1
  have lg:=(hI.obj _ b hob).2
  have:b'=b:=by rw [lg] at c1;exact (Option.some.inj c1).symm
  subst this
  obtain ⟨z1,z2,_⟩:=jh r2
  rw [List.getElem?_map] at r3
  cases Jc:ls[i]? with
  | none=>rw [Jc] at r3;cases r3
  | some l' =>
   rw [Jc] at r3
   simp only [Option.map_some,Option.some.injEq,AV.ag.injEq] at r3
   subst r3
   exact ⟨b',us,t,qG,l',b1,lg,c2,by rw [c3,z1],rfl,r2,r1,c4⟩
 have lX:∀ b,uI σ H site sites.length L b→(w0.heap.size≤b∨F0.gj b)∧b < w.heap.size∧(∀ id x,id ∉ L→H id=some x→x.ownBlock≠some b)∧(∀ s,(∀ i,i < sites.length→s≠site i)→σ s≠some b)∧¬ Fr w0.heap.size F0 H σ b:=by
  intro b hb
  rcases hb with ⟨i,hi,hs⟩ | ⟨id,hid,x,hx,oL⟩
  ·exact ⟨(h.sown _ b hs).1,(h.sown _ b hs).2,fun id x _ hx e=>h.hs id _ x b hx hs e,fun s hne hs'=>h.ss s (site i) b (hne i hi) hs' hs,fun hf=>hf.2.2 _ hs⟩
  ·exact ⟨(h.hown id x b hx oL).1,(h.hown id x b hx oL).2,fun gT y J6 hy e=>h.hh gT id y x b (fun e=>J6 (e ▸ hid)) hy hx e oL,fun s _ hs=>h.hs id s x b hx hs oL,fun hf=>hf.2.1 id x hx oL⟩
 have Cg:∀ id x,fu w' σ site sg.outs id x→id ∈ cB site 0 sg.outs∧∃ i j e k,id=cz (site i) j∧i < sites.length∧(∃ o,sg.outs[i]?=some o∧o.2[j]?=some (.own e k)) ∧
   ((x=.slice none 0 0)∨∃ mB,jU (fun i=>fn.ntmps+i) j3.mem sg.outs 0 i j mB∧H3 mB=some x):=by
  intro id x hx
  obtain ⟨i,j,e,k,b,t,o,us,a1,a2,a3,a4,a5,a6⟩:=hx
  have hm:=nD (site:=site) (i0:=0) a1 a2
  rw [Nat.zero_add] at hm
  refine ⟨by rw [a3];exact hm,i,j,e,k,a3,by rw [hl];exact (List.getElem?_eq_some_iff.1 a1).1,⟨o,a1,a2⟩,?_⟩
  obtain ⟨b',Rk,t',qG,l,b1,b2,b3,b4,b5,b6,b7,b8⟩:=F6 i o a1
  rw [a4] at b1;cases b1
  rw [a5] at b3
  have:us=Rk:=by have:=Option.some.inj b3;simp at this;exact this.1
  subst this
  obtain ⟨z1,z2,z3⟩:=jh b6
  have hj:j < qG.length:=by rw [z1];exact (List.getElem?_eq_some_iff.1 a2).1
  have jv:qG[j]?=some qG[j]:=List.getElem?_eq_getElem hj
  obtain ⟨u,_,u2⟩:=z3 j _ _ a2 jv
  have hr:=b8 j _ x jv a6
  generalize hcc:qG[j]=cc at jv u2 hr
  unfold JB at u2
  simp only at u2
  split at u2
  ·rename_i mB e' k' l'
   right
   have how:jU (fun i=>fn.ntmps+i) j3.mem sg.outs 0 i j mB:=⟨o,qG,e,k,e',k',l',a1,by rw [Nat.zero_add];exact b7,a2,jv⟩
   exact ⟨mB,how,Rm mB x (f4 mB (lh how)) hr.1⟩
  ·left
   have:=hr.2
   cases this;rfl
  ·cases u2
 have yA:∀ id x b,fu w' σ site sg.outs id x→x.ownBlock=some b→(w.heap.size≤b∨uI σ H site sites.length L b)∧b < w'.heap.size∧∃ mB,H3 mB=some x:=by
  intro id x b hx hb
  obtain ⟨_,i,j,e,k,_,_,_,lQ⟩:=Cg id x hx
  rcases lQ with rfl | ⟨mB,_,h3⟩
  ·cases hb
  ·have:=VA.hown mB x b h3 hb
   exact ⟨this.1,this.2,mB,h3⟩
 have VB:∀ id x y,fu w' σ site sg.outs id x→fu w' σ site sg.outs id y→y=x:=by
  intro id x y h1 h2
  rw [← My] at h1 h2
  exact fu.inj fp hn hl h1 h2
 let H':Nat→Option Value:=fun id=>match gR (fu w' σ site sg.outs) id with | some x=>some x | none=>erases H (L ++ cB site 0 sg.outs) id
 have QB:∀ id x,H' id=some x→fu w' σ site sg.outs id x∨(erases H (L ++ cB site 0 sg.outs) id=some x):=by
  intro id x hx
  have hx:(match gR (fu w' σ site sg.outs) id with | some x=>some x | none=>erases H (L ++ cB site 0 sg.outs) id)=some x:=hx
  cases hp:gR (fu w' σ site sg.outs) id with
  | some y=>rw [hp] at hx;cases hx;exact .inl (gS hp)
  | none=>rw [hp] at hx;exact .inr hx
 have Yh:∀ id x,fu w' σ site sg.outs id x→H' id=some x:=by
  intro id x hx
  show (match gR (fu w' σ site sg.outs) id with | some x=>some x | none=>_)=some x
  rw [rQ (fun y hy=>VB id x y hx hy) hx]
 have her:∀ id x,erases H (L ++ cB site 0 sg.outs) id=some x→H id=some x∧id ∉ L∧id ∉ cB site 0 sg.outs:=by
  intro id x hx
  obtain ⟨h1,h2⟩:=yy hx
  exact ⟨h1,fun hm=>h2 (List.mem_append_left _ hm),fun hm=>h2 (List.mem_append_right _ hm)⟩
 have Ch:∀ b,b < w.heap.size→¬ uI σ H site sites.length L b→w'.heap[b]?=w.heap[b]?:=fun b hb pE=>hI.below.block b hb pE
 have hF:∀ b,b < w.heap.size→Fr w0.heap.size F0 H σ b→Fr w0.heap.size F0 H' σ b∧w'.heap[b]?=w.heap[b]?:=by
  intro b hb hf
  have pE:¬ uI σ H site sites.length L b:=fun Jd=>(lX b Jd).2.2.2.2 hf
  refine ⟨⟨hf.1,fun id x hx e=>?_,hf.2.2⟩,Ch b hb pE⟩
  rcases QB id x hx with hx | hx
  ·rcases (yA id x b hx e).1 with h5 | h5
   ·omega
   ·exact pE h5
  ·exact hf.2.1 id x (her id x hx).1 e
 have VC:∀ b,b < w'.heap.size→Fr w.heap.size (kz w0 F0 H σ site sites.length fn.ntmps L) H3 σ2 b→Fr w0.heap.size F0 H' σ b∧w'.heap[b]?=w'.heap[b]?:=by
  intro b hb hf
  have uC:w.heap.size≤b∨Fr w0.heap.size F0 H σ b∨uI σ H site sites.length L b:=by
   rcases Nat.lt_or_ge b w.heap.size with hlt | cK
   ·exact .inr (hf.1 hlt)
   ·exact .inl cK
  refine ⟨⟨fun hlt=>?_,fun id x hx e=>?_,fun s hs=>?_⟩,rfl⟩
  ·rcases uC with h5 | h5 | h5
   ·have:=h.below.size;omega
   ·exact h5.1 hlt
   ·rcases (lX b h5).1 with h6 | h6
    ·omega
    ·exact .inr h6
  ·rcases QB id x hx with hx | hx
   ·obtain ⟨_,_,mB,h3⟩:=yA id x b hx e
    exact hf.2.1 mB x h3 e
   ·obtain ⟨h1,h2,_⟩:=her id x hx
    have VD:=(h.hown id x b h1 e).2
    rcases uC with h5 | h5 | h5
    ·omega
    ·exact h5.2.1 id x h1 e
    ·exact (lX b h5).2.2.1 id x h2 h1 e
  ·by_cases hs':∃ i,i < sites.length∧s=site i
   ·obtain ⟨i,hi,rfl⟩:=hs'
    obtain ⟨b',_,_,_,_,b1,b2,_⟩:=F6 i sg.outs[i] (List.getElem?_eq_getElem (by omega))
    rw [hs] at b1;cases b1
    exact hf.2.2 _ b2
   ·have VD:=(h.sown s b hs).2
    rcases uC with h5 | h5 | h5
    ·omega
    ·exact h5.2.2 s hs
    ·exact (lX b h5).2.2.2.1 s (fun i hi e=>hs' ⟨i,hi,e⟩) hs
 have Yi:∀ id y,erases H (L ++ cB site 0 sg.outs) id=some y→H' id=some y∧∀ b,y.ownBlock=some b→w'.heap[b]?=w.heap[b]?:=by
  intro id y hy
  obtain ⟨h1,h2,h3⟩:=her id y hy
  refine ⟨?_,fun b hb=>Ch b (h.hown id y b h1 hb).2 fun Jd=>(lX b Jd).2.2.1 id y h2 h1 hb⟩
  show (match gR (fu w' σ site sg.outs) id with | some x=>some x | none=>erases H (L ++ cB site 0 sg.outs) id)=some y
  cases hp:gR (fu w' σ site sg.outs) id with
  | some z=>exact absurd (Cg id z (gS hp)).1 h3
  | none=>exact hy
 have keep:∀ e y,bS w (Fr w0.heap.size F0 H σ) H σ e y→bS w' (Fr w0.heap.size F0 H' σ) H' σ ((L ++ cB site 0 sg.outs).foldl (fun e i=>aY.kl i e) e) y:=fun e y he=>(J1 _ he).mono hF Yi fun _ _ hs=>hs
 have lV:∀ c y,bj w (Fr w0.heap.size F0 H σ) H σ c y→bj w' (Fr w0.heap.size F0 H' σ) H' σ ((L ++ cB site 0 sg.outs).foldl (fun c i=>Cell.kl i c) c) y:=fun c y hc=>(FZ _ hc).mono hF (fun i y hi _=>Yi i y hi) fun _ _ hs _=>hs
 refine ⟨_,ls,H',rfl,Mx,?_,?_⟩
 ·exact {
   defers:=h.defers
   size:=h.size
   env:=fun t=>by rw [pN,J3];exact keep _ _ (h.env t)
   mem:=fun s cs hcs=>by
    rcases pO hcs with ⟨i,o,l,q1,q2,q3,q4⟩ | ⟨q1,q2⟩
    ·rw [Nat.zero_add] at q3
     subst q3;subst q4
     obtain ⟨b,us,t,qG,l',b1,b2,b3,b4,b5,b6,b7,b8⟩:=F6 i o q1
     rw [q2] at b5;cases b5
     obtain ⟨z1,z2,z3⟩:=jh b6
     obtain ⟨y1,y2⟩:=ku (site:=site) (s:=site i) (ks:=o.2) (j0:=0) (l:=l)
     refine ⟨b,us,t,b1,b3,by rw [b4,y1],fun j c x hc hx=>?_⟩
     have hj:j < o.2.length:=by rw [← y1];exact (List.getElem?_eq_some_iff.1 hc).1
     have hkj:o.2[j]?=some o.2[j]:=List.getElem?_eq_getElem hj
     have jv:qG[j]?=some qG[j]:=List.getElem?_eq_getElem (by omega)
     obtain ⟨u,u1,u2⟩:=z3 j _ _ hkj jv
     have hr:=b8 j _ x jv hx
     rw [y2 j _ hkj] at hc
     simp only [Nat.zero_add,Option.some.injEq] at hc
     have Rj:l.getD j .un=u:=by rw [List.getD_eq_getElem?_getD,u1];rfl
     rw [Rj] at hc
     obtain ⟨s1,s2,s3⟩:=lj fp q1 hkj
     have hval:(∀ e k,o.2[j]≠.own e k)→∀ id ∈ (qG[j]).ids,id ∈ ck false (fun i=>fn.ntmps+i) j3.mem 0 sg.outs:=fun hne id hid =>
      oK q1 (by rw [Nat.zero_add];exact b7) (fun e k he=>by rw [hkj] at he;exact hne e k (Option.some.inj he)) hj jv hid
     generalize uj:o.2[j]=kk at hc hkj u2 s2 s3 hval
     generalize hcc:qG[j]=cc at jv u2 hr hval
     subst hc
     cases kk with
     | v =>
      unfold JB at u2
      simp only at u2
      cases ht:cc.told with
      | false=>rw [ht] at u2;cases u2
      | true =>
       rw [ht] at u2
       simp only [cond_true,Option.some.injEq] at u2
       subst u2
       refine ⟨hr.one,?_⟩
       have h5:bS w' (Fr w.heap.size (kz w0 F0 H σ site sites.length fn.ntmps L) H2 σ2) H2 σ2 (.cell cc) x:=by
        cases cc with
        | val y=>exact hr.2
        | own id e k l'=>exact hr
        | _=>cases ht
       have h6:=dy (Mz _ _ h5) ht fun id hid=>List.mem_append_right _ (hval (fun e k he=>by cases he) id hid)
       exact h6.mono VC
     | own e k =>
      unfold JB at u2
      simp only at u2
      have MA:fu w' σ site sg.outs (cz (site i) j) x:=⟨i,j,e,k,b,t,o,us,q1,hkj,rfl,b1,b3,hx⟩
      split at u2
      ·rename_i id e' k' l'
       cases lg:(Nat.beq e e' && Nat.beq k k') with
       | false=>rw [lg] at u2;cases u2
       | true =>
        rw [lg] at u2
        simp only [cond_true,Option.some.injEq] at u2
        subst u2
        rw [Bool.and_eq_true] at lg
        have w1:=Nat.eq_of_beq_eq_true lg.1
        have w2:=Nat.eq_of_beq_eq_true lg.2
        subst w1;subst w2
        refine ⟨Yh _ x MA,?_⟩
        have how:jU (fun i=>fn.ntmps+i) j3.mem sg.outs 0 i j id:=⟨o,qG,e,k,e,k,l',q1,by rw [Nat.zero_add];exact b7,hkj,jv⟩
        have h5:ba w' (Fr w.heap.size (kz w0 F0 H σ site sites.length fn.ntmps L) H3 σ2) e k l' x :=
         hr.2.mono (fun b hb hf=>⟨⟨hf.1,fun i y hy=>hf.2.1 i y (Rl i y hy),hf.2.2⟩,rfl⟩) fun _ _=>rfl
        exact h5.mono VC fun _ _=>rfl
      ·cases hb0:Nat.blt 0 k with
       | false=>rw [hb0] at u2;cases u2
       | true =>
        rw [hb0] at u2
        simp only [cond_true,Option.some.injEq] at u2
        subst u2
        have hv0:x=.slice none 0 0:=by
         have:=hr.2
         cases this;rfl
        subst hv0
        exact ⟨Yh _ _ MA,s2 e k rfl,[],World.ownsRow_nil w' 0 _ _,by simp,fun i j v hi=>by simp [AV.elems] at hi⟩
      ·cases u2
     | eI g' os =>
      unfold JB at u2
      simp only at u2
      split at u2
      ·rename_i h' ss
       cases lg:(Nat.beq g' h' && eT ss (os.map fun i=>fn.ntmps+i)) with
       | false=>rw [lg] at u2;cases u2
       | true =>
        rw [Bool.and_eq_true] at lg
        have w1:=Nat.eq_of_beq_eq_true lg.1
        have w2:=kq lg.2
        subst w1;subst w2
        obtain ⟨rs,r1,r2,r3⟩:=hr
        refine ⟨rs,by simpa using r1,r2,fun m s r p1 p2=>?_⟩
        rw [List.getElem?_map] at p1
        cases Uo:os[m]? with
        | none=>rw [Uo] at p1;cases p1
        | some q =>
         rw [Uo] at p1
         simp only [Option.map_some,Option.some.injEq] at p1
         subst p1
         have hq:=s3 g' os rfl q (List.mem_of_getElem? Uo)
         obtain ⟨b',_,_,_,_,d1,d2,_⟩:=F6 q (sg.outs[q]'(by rw [jA];exact hq)) (List.getElem?_eq_getElem (by rw [jA];exact hq))
         have:=r3 m (fn.ntmps+q) r (by rw [List.getElem?_map,Uo];rfl) p2
         rw [d2] at this;cases this
         exact d1
      ·cases u2
    ·rw [J4] at q2
     simp only [Option.map_eq_some_iff] at q2
     obtain ⟨cs0,c0,rfl⟩:=q2
     obtain ⟨r,us,e,c1,c2,c3,c4⟩:=h.mem s cs0 c0
     refine ⟨r,us,e,c1,?_,by simpa using c3,fun j c x hc hx=>?_⟩
     ·rw [Ch r (h.sown s r c1).2 fun Jd=>(lX r Jd).2.2.2.1 s (fun i hi e=>q1 i (by omega) (by omega) (by rw [Nat.zero_add];exact e)) c1]
      exact c2
     ·rw [List.getElem?_map] at hc
      cases hc0:cs0[j]? with
      | none=>rw [hc0] at hc;cases hc
      | some cc =>
       rw [hc0] at hc
       simp only [Option.map_some,Option.some.injEq] at hc
       subst hc
       exact lV cc x (c4 j cc x hc0 hx)
   hown:=fun id x b hx hb=>by
    rcases QB id x hx with hx | hx
    ·obtain ⟨h1,h2,_⟩:=yA id x b hx hb
     refine ⟨?_,h2⟩
     rcases h1 with h1 | h1
     ·exact .inl (Nat.le_trans h.below.size h1)
     ·exact (lX b h1).1
    ·obtain ⟨h1,h2⟩:=h.hown id x b (her id x hx).1 hb
     exact ⟨h1,Nat.lt_of_lt_of_le h2 hI.below.size⟩
   sown:=fun s r hs=>⟨(h.sown s r hs).1,Nat.lt_of_lt_of_le (h.sown s r hs).2 hI.below.size⟩
   obj:=h.obj
   hh:=fun id gT x y b hne hx hy oL Ja=>by
    have mixed:∀ id gT x y,fu w' σ site sg.outs id x→erases H (L ++ cB site 0 sg.outs) gT=some y→x.ownBlock=some b→y.ownBlock=some b→False:=by
     intro id gT x y hx hy oL Ja
     obtain ⟨h1,_,_⟩:=yA id x b hx oL
     obtain ⟨e1,e2,_⟩:=her gT y hy
     have:=(h.hown gT y b e1 Ja).2
     rcases h1 with h1 | h1
     ·omega
     ·exact (lX b h1).2.2.1 gT y e2 e1 Ja
    rcases QB id x hx with lQ | lQ <;> rcases QB gT y hy with hy' | hy'
    ·obtain ⟨_,i,j,e,k,a1,a2,a3,a4⟩:=Cg id x lQ
     obtain ⟨_,i',j',e',k',b1,b2,b3,b4⟩:=Cg gT y hy'
     rcases a4 with rfl | ⟨mB,c1,c2⟩
     ·cases oL
     ·rcases b4 with rfl | ⟨id3,d1,d2⟩
      ·cases Ja
      ·refine VA.hh mB id3 x y b (fun e=>?_) c2 d2 oL Ja
       subst e
       obtain ⟨p1,p2⟩:=uH f3 c1 d1
       subst p1;subst p2
       exact hne (a1.trans b1.symm)
    ·exact mixed id gT x y lQ hy' oL Ja
    ·exact mixed gT id y x hy' lQ Ja oL
    ·exact h.hh id gT x y b hne (her id x lQ).1 (her gT y hy').1 oL Ja
   hs:=fun id s x r hx hs oL=>by
    rcases QB id x hx with lQ | lQ
    ·obtain ⟨h1,_,mB,h3⟩:=yA id x r lQ oL
     by_cases hs':∃ i,i < sites.length∧s=site i
     ·obtain ⟨i,hi,rfl⟩:=hs'
      obtain ⟨b',_,_,_,_,b1,b2,_⟩:=F6 i sg.outs[i] (List.getElem?_eq_getElem (by omega))
      rw [hs] at b1;cases b1
      exact VA.hs mB _ x _ h3 b2 oL
     ·have:=(h.sown s r hs).2
      rcases h1 with h1 | h1
      ·omega
      ·exact (lX r h1).2.2.2.1 s (fun i hi e=>hs' ⟨i,hi,e⟩) hs
    ·exact h.hs id s x r (her id x lQ).1 hs oL
   ss:=h.ss
   glob:=fun g k e hg=>by
    have:=h.glob g k e hg
    obtain ⟨r,o,h1,h2,h3,h4⟩:=this
    obtain ⟨e1,e2⟩:=hF r h3 h2
    refine ⟨r,o,h1,e1,Nat.lt_of_lt_of_le h3 hI.below.size,fun j hj=>?_⟩
    obtain ⟨x,a1,a2,a3⟩:=h4 j hj
    exact ⟨x,by rw [← a1];exact World.cell?_of_block (w:=w) e2,a2,a3.mono hF⟩
   below:=by
    have base:=h.below
    have hb:=hI.below
    refine ⟨hb.os.trans base.os,hb.tape.trans base.tape,hb.output.trans base.output,Nat.le_trans base.size hb.size,fun b hlt pE=>?_⟩
    rw [Ch b (Nat.lt_of_lt_of_le hlt base.size) fun Jd=>?_]
    ·exact base.block b hlt pE
    ·rcases (lX b Jd).1 with h5 | h5
     ·omega
     ·exact pE h5 }
 ·have h5:Rel w' (Fr w.heap.size (kz w0 F0 H σ site sites.length fn.ntmps L) H3 σ2) (one? ((fn.results.toList.map (dp C j3)).map aY.aX)) (uk vs):=by
   refine J5 (by simp [g1]) fun j x u hx hu=>?_
   rw [List.getElem?_map] at hu
   cases he:(fn.results.toList.map (dp C j3))[j]? with
   | none=>rw [he] at hu;cases hu
   | some e =>
    rw [he] at hu
    simp only [Option.map_some,Option.some.injEq] at hu
    subst hu
    have hm:=List.mem_of_getElem? he
    exact dy (Mz _ _ (g3 j e x he hx)) (List.all_eq_true.1 f2 e hm) fun id hid=>List.mem_append_left _ (List.mem_flatMap.2 ⟨e,hm,hid⟩)
  exact h5.mono VC
end
end Sx
namespace Sx
open Go Go.RowKit Go.Lib
section
variable {C:cU} {P:Program} {w0:World} {F0:Fs} {nt:Nat} {st:St} {a:Act} {w:World} {H:Nat→Option Value} {σ:Nat→Option Nat} {R:Type} {K:St→Option R} {r:R} {call:Nat→List AV→Option AV} {f:Nat}
def qz (N H:Nat→Option Value):Nat→Option Value:=fun i=>match N i with | some x=>some x | none=>H i
theorem gI {N:Nat→Option Value} {i:Nat} {x:Value} (h:qz N H i=some x):N i=some x∨(N i=none∧H i=some x):=by
 unfold qz at h
 cases hn:N i with
 | none=>rw [hn] at h;exact .inr ⟨rfl,h⟩
 | some y=>rw [hn] at h;exact .inl h
theorem Inv.names (h:Inv C w0 F0 nt st a w H σ) {w':World} (hw:Ext w w') {N:Nat→Option Value} (hN:∀ i x,N i=some x→H i=none) (hb:∀ i x g,N i=some x→x.ownBlock=some g→w.heap.size≤g∧g < w'.heap.size)
  (hd:∀ i j x y g,i≠j→N i=some x→N j=some y→x.ownBlock=some g→y.ownBlock≠some g):Inv C w0 F0 nt st a w' (qz N H) σ:=by
 have hF:∀ b,b < w.heap.size→Fr w0.heap.size F0 H σ b→Fr w0.heap.size F0 (qz N H) σ b∧w'.heap[b]?=w.heap[b]?:=fun b hb' hf=>by
  refine ⟨⟨hf.1,fun i v hv=>?_,hf.2.2⟩,hw.block b hb'⟩
  rcases gI hv with hv | ⟨_,hv⟩
  ·intro e;have:=(hb i v b hv e).1;omega
  ·exact hf.2.1 i v hv
 have hH:∀ i y,H i=some y→qz N H i=some y∧∀ b,y.ownBlock=some b→w'.heap[b]?=w.heap[b]?:=fun i y hi=>by
  refine ⟨?_,fun b hb'=>hw.block b (h.hown i y b hi hb').2⟩
  unfold qz
  cases hn:N i with
  | none=>exact hi
  | some x=>have:=hN i x hn;rw [hi] at this;cases this
 refine { h with env:=fun t=>(h.env t).mono hF hH fun _ _ hs=>hs,mem:=fun s cs hcs=>?_,hown:=fun i x g hi hx=>?_,sown:=fun s r hs=>?_,hh:=?_,hs:=?_,glob:=fun g k e hg=>?_,below:=hw.Qv h.below }
 ·obtain ⟨r,vs,e,h1,h2,h3,h4⟩:=h.mem s cs hcs
  exact ⟨r,vs,e,h1,by rw [hw.block r (h.sown s r h1).2];exact h2,h3,fun j c v hc hv=>(h4 j c v hc hv).mono hF (fun i y hi _=>hH i y hi) fun _ _ hs _=>hs⟩
 ·rcases gI hi with hi | ⟨_,hi⟩
  ·obtain ⟨h1,h2⟩:=hb i x g hi hx;exact ⟨.inl (Nat.le_trans h.below.size h1),h2⟩
  ·obtain ⟨h1,h2⟩:=h.hown i x g hi hx;exact ⟨h1,Nat.lt_of_lt_of_le h2 hw.size⟩
 ·obtain ⟨h1,h2⟩:=h.sown s r hs;exact ⟨h1,Nat.lt_of_lt_of_le h2 hw.size⟩
 ·intro i j x y g ui hi hj hx hy
  rcases gI hi with hi | ⟨_,hi⟩ <;> rcases gI hj with hj | ⟨_,hj⟩
  ·exact hd i j x y g ui hi hj hx hy
  ·have:=(hb i x g hi hx).1;have:=(h.hown j y g hj hy).2;omega
  ·have:=(hb j y g hj hy).1;have:=(h.hown i x g hi hx).2;omega
  ·exact h.hh i j x y g ui hi hj hx hy
 ·intro i s x r hi hs hx
  rcases gI hi with hi | ⟨_,hi⟩
  ·have:=(hb i x r hi hx).1;have:=(h.sown s r hs).2;omega
  ·exact h.hs i s x r hi hs hx
 ·exact (h.glob g k e hg).mono hF hH fun _ _ hs=>hs
theorem Inv.Fm (h:Inv C w0 F0 nt st a w H σ) (ids:List Nat):∃ H',Inv C w0 F0 nt (ids.foldl St.kl st) a w H' σ∧(∀ i x,H' i=some x→H i=some x)∧∀ i ∈ ids,H' i=none:=by
 induction ids generalizing st H with
 | nil=>exact ⟨H,h,fun _ _ hx=>hx,by simp⟩
 | cons i r ih =>
  obtain ⟨H',h',h1,h2⟩:=ih (h.kl i)
  refine ⟨H',h',fun j x hj=>(aK (h1 j x hj)).2,fun j hj=>?_⟩
  rcases List.mem_cons.1 hj with rfl | hj
  ·cases hx:H' j with
   | none=>rfl
   | some x=>exact absurd rfl (aK (h1 j x hx)).1
  ·exact h2 j hj
theorem J7 {d i j:Nat} (h:JA d i=JA d j):i=j:=by unfold JA at h;omega
theorem Ed {st':St} {o:Oper} {ks:List (Option (Nat×Nat))} {res:AV} {w':World} {v:Value} (hd:∀ t,o.dst=some t→t < nt) (h:Inv C w0 F0 nt st a w H σ) (hw:Ext w w') (hr:eV ks w w' (Fr w0.heap.size F0 H σ) res v)
  (hp:ma st o.dst ks res=some st'):∃ H',Inv C w0 F0 nt st' (a.put o.dst v) w' H' σ:=by
 unfold ma at hp
 unfold eV at hr
 cases hall:ks.all Option.isNone with
 | true =>
  rw [hall] at hp
  rw [if_pos hall] at hr
  simp only [cond_true,Option.some.injEq] at hp
  subst hp
  refine ⟨H,(h.ext hw).put hd ?_⟩
  refine Rel.mono (fun b hb hf=>⟨?_,rfl⟩) hr
  by_cases hlt:b < w.heap.size
  ·exact hf hlt
  ·exact ⟨fun hh=>by have:=h.below.size;omega,fun i v hv e=>by have:=(h.hown i v b hv e).2;omega,fun s e=>by have:=(h.sown s b e).2;omega⟩
 | false =>
  rw [hall] at hp
  rw [if_neg (by rw [hall];simp)] at hr
  simp only [cond_false] at hp
  obtain ⟨vs,hl,hv,hrel,VE⟩:=hr
  have main:∀ (d:Nat) (id:Nat→Nat) (e:aY),o.dst=some d→(∀ i j,id i=id j→i=j) →
    (∀ (N H':Nat→Option Value),(∀ (j:Nat) (x:Value) (p:Nat×Nat),vs[j]?=some x→ks[j]?=some (some p)→N (id j)=some x)→(∀ i x,N i=some x→∃ j p,i=id j∧vs[j]?=some x∧ks[j]?=some (some p)) →
     (∀ i x,H' i=some x→H i=some x) →
     (∀ (F:Nat→Prop),(∀ b,b < w'.heap.size→((b < w.heap.size→Fr w0.heap.size F0 H σ b)∧∀ (i:Nat) (y:Value) (p:Nat×Nat),vs[i]?=some y→ks[i]?=some (some p)→y.ownBlock≠some b)→F b)→F=Fr w0.heap.size F0 (qz N H') σ→bS w' F (qz N H') σ e v)) →
    ∃ H',Inv C w0 F0 nt ((((List.range ks.length).map id).foldl St.kl st).set d e) (a.put o.dst v) w' H' σ:=by
   intro d id e bz VF he
   obtain ⟨H1,h1,kp,hnone⟩:=h.Fm ((List.range ks.length).map id)
   let N:Nat→Option Value:=fun i=>match (List.range ks.length).find? (fun j=>id j == i) with
    | some j=>match ks[j]? with | some (some _)=>vs[j]? | _=>none
    | none=>none
   have Rn:∀ j,j < ks.length→(List.range ks.length).find? (fun q=>id q == id j)=some j:=by
    intro j hj
    cases hf:(List.range ks.length).find? (fun q=>id q == id j) with
    | none =>
     have:=List.find?_eq_none.1 hf j (List.mem_range.2 hj)
     simp at this
    | some q =>
     have:=List.find?_some hf
     rw [VF q j (by simpa using this)]
   have Ro:∀ (j:Nat) (x:Value) (p:Nat×Nat),vs[j]?=some x→ks[j]?=some (some p)→N (id j)=some x:=by
    intro j x p hx hk
    have hj:j < ks.length:=(List.getElem?_eq_some_iff.1 hk).1
    show (match (List.range ks.length).find? (fun q=>id q == id j) with
    | some j=>match ks[j]? with | some (some _)=>vs[j]? | _=>none
    | none=>none)=some x
    rw [Rn j hj]
    simp only [hk]
    exact hx
   have MB:∀ i x,N i=some x→∃ j p,i=id j∧vs[j]?=some x∧ks[j]?=some (some p):=by
    intro i x hi
    have hi':(match (List.range ks.length).find? (fun q=>id q == i) with
    | some j=>match ks[j]? with | some (some _)=>vs[j]? | _=>none
    | none=>none)=some x:=hi
    cases hf:(List.range ks.length).find? (fun q=>id q == i) with
    | none=>rw [hf] at hi';cases hi'
    | some j =>
     rw [hf] at hi'
     have hj:id j=i:=by simpa using List.find?_some hf
     cases hk:ks[j]? with
     | none=>simp only [hk] at hi';cases hi'
     | some o=>cases o with
      | none=>simp only [hk] at hi';cases hi'
      | some p=>simp only [hk] at hi';exact ⟨j,p,hj.symm,hi',hk⟩
   have VG:=h1.names hw (N:=N) (fun i x hi=>by
     obtain ⟨j,p,rfl,hx,hk⟩:=MB i x hi
     exact hnone _ (List.mem_map.2 ⟨j,List.mem_range.2 (List.getElem?_eq_some_iff.1 hk).1,rfl⟩))
    (fun i x g hi hg=>by
     obtain ⟨j,p,rfl,hx,hk⟩:=MB i x hi
     have:=hrel j x (some p) hx hk
     exact ⟨this.2 g hg,this.1.lt hg⟩)
    (fun i i' x y g hne hi hi' hg=>by
     obtain ⟨j,p,rfl,hx,hk⟩:=MB i x hi
     obtain ⟨j',p',rfl,lQ,oC⟩:=MB i' y hi'
     exact VE j j' x y p p' g (fun e=>hne (by rw [e])) hx lQ hk oC hg)
   refine ⟨qz N H1,?_⟩
   rw [bz]
   refine VG.put (d:=some d) (fun t ht=>by cases ht;exact hd _ bz) (he N H1 Ro MB kp _ (fun b hb hf=>?_) rfl)
   refine ⟨fun hh=>(hf.1 (Nat.lt_of_lt_of_le hh h.below.size)).1 hh,fun i x hi=>?_,fun s e=>?_⟩
   ·rcases gI hi with hi | ⟨_,hi⟩
    ·obtain ⟨j,p,rfl,hx,hk⟩:=MB i x hi
     exact hf.2 j x p hx hk
    ·intro e
     have h3:=kp i x hi
     have hlt:=(h.hown i x b h3 e).2
     exact (hf.1 hlt).2.1 i x h3 e
   ·have hlt:=(h.sown s b e).2
    exact (hf.1 hlt).2.2 s e
  have single:∀ e k d,ks=[some (e,k)]→o.dst=some d→some (dn st d e k res.elems)=some st'→∃ H',Inv C w0 F0 nt st' (a.put o.dst v) w' H' σ:=by
   intro e k d D6 bz hst
   subst D6
   cases hst
   obtain ⟨x,rfl⟩:=List.length_eq_one_iff.1 (by simpa using hl:vs.length=1)
   have hvx:v=x:=hv
   subst hvx
   have h0:=hrel 0 v (some (e,k)) rfl rfl
   have hm:=main d (fun j=>d+j) (.cell (.own d e k res.elems)) bz (fun i j ui=>by omega) (fun N H' Ro MB kp F hF Yj=>by
    refine ⟨?_,?_⟩
    ·have hh:=Ro 0 v (e,k) rfl rfl
     show qz N H' d=some v
     unfold qz
     rw [show d=d+0 from rfl,hh]
    ·have:=h0.1
     have hco:mr [v].length res 0=res:=by simp [mr]
     rw [hco] at this
     subst Yj
     exact this.mono (fun b hb hf=>⟨hF b hb hf,rfl⟩) (fun _ _=>rfl))
   simpa [dn] using hm
  have several:∀ d,o.dst=some d→2≤ks.length→some (((List.range ks.length).foldl (fun st j=>st.kl (JA d j)) st).set d (.ot res (ks.zipIdx.map fun (o,j)=>some (o.map fun (e,k)=>(JA d j,e,k)))))=some st'→∃ H',Inv C w0 F0 nt st' (a.put o.dst v) w' H' σ:=by
   intro d bz h2 hst
   cases hst
   have hm:=main d (JA d) (.ot res (ks.zipIdx.map fun (o,j)=>some (o.map fun (e,k)=>(JA d j,e,k)))) bz (fun i j ui=>J7 ui) (fun N H' Ro MB kp F hF Yj=>by
    have Uj:v=.tuple vs.toArray:=by
     rw [hv]
     match vs,hl with
     | [],hl=>rfl
     | [x],hl=>simp at hl;omega
     | x :: y :: r,hl=>rfl
    have hlen:vs.length≠1:=by omega
    refine ⟨vs,Uj,by simp [hl],fun j q x hq hx=>?_⟩
    rw [List.getElem?_map,List.getElem?_zipIdx] at hq
    cases hk:ks[j]? with
    | none=>rw [hk] at hq;cases hq
    | some p =>
     rw [hk] at hq
     simp only [Option.map_some,Nat.zero_add,Option.some.injEq] at hq
     subst hq
     have h3:=hrel j x p hx hk
     unfold mr at h3
     rw [if_neg hlen] at h3
     cases p with
     | none=>exact Rel.mono (fun b hb hf=>⟨hF b hb hf,rfl⟩) h3
     | some p =>
      obtain ⟨e,k⟩:=p
      refine ⟨?_,h3.1.mono (fun b hb hf=>⟨hF b hb hf,rfl⟩) (fun _ _=>rfl)⟩
      unfold qz
      rw [Ro j x (e,k) hx hk])
   rw [List.foldl_map] at hm
   exact hm
  cases Rp:o.dst with
  | none =>
   rw [Rp] at hp
   rcases ks with _ | ⟨x,_ | ⟨y,rest⟩⟩
   ·simp at hall
   ·cases x with
    | none=>simp at hall
    | some p=>cases hp
   ·cases x <;> cases hp
  | some d =>
   rw [Rp] at hp
   rw [← Rp]
   rcases ks with _ | ⟨x,_ | ⟨y,rest⟩⟩
   ·simp at hall
   ·cases x with
    | none=>simp at hall
    | some p=>exact single p.1 p.2 d rfl Rp hp
   ·exact several d Rp (by simp) (by cases x <;> exact hp)
theorem F7 {F:Nat→Prop} {xs:List Operand} {ids:List Nat} {H':Nat→Option Value} (h:Inv C w0 F0 nt st a w H σ) (kn:∀ e x,bS w (Fr w0.heap.size F0 H σ) H σ e x→bS w F H' σ (e.ju ids) x)
  (yr:∀ x ∈ xs,∀ i ∈ (st.get C x).ids,i ∈ ids) (ht:xs.all (fun x=>(st.get C x).told)=true) (j:Nat) (b:AV) (v:Value) (hb:(xs.map fun x=>(st.get C x).aX)[j]?=some b) (hv:(xs.map a.eval)[j]?=some v):Rel w F b v:=by
 rw [List.getElem?_map] at hb hv
 cases hx:xs[j]? with
 | none=>rw [hx] at hb;cases hb
 | some x =>
  rw [hx] at hb hv
  cases hb;cases hv
  have hm:=List.mem_of_getElem? hx
  exact dy (kn _ _ (h.get x)) (List.all_eq_true.1 ht x hm) (yr x hm)
theorem yB {o:Oper} {c:Call} {g:Nat} {X:Operand} (ho:o.op=.call c) (hc:c.callee=.value X) (hg:a.eval X=.func (.func g) #[] #[]) (dr:C.sig g=none) (hC:iT C P call) (h:Inv C w0 F0 nt st a w H σ) (hd:∀ t,o.dst=some t→t < nt)
  (ht:(c.args.toList.map (st.get C)).all aY.told=true) {res:AV} (hres:call g ((c.args.toList.map (st.get C)).map aY.aX)=some res) {st':St} (hp:ma (st.ju ((c.args.toList.map (st.get C)).flatMap aY.ids)) o.dst (C.own g) res=some st') (hK:K st'=some r):Goes C P w0 F0 nt st a w σ K r o:=by
 obtain ⟨H1,h1,kn,kp,yw⟩:=h.vM ((c.args.toList.map (st.get C)).flatMap aY.ids)
 intro next Q hn
 have eW:∀ w',Ext w w'→eh C st o σ w w':=fun w' hw=>by
  unfold eh
  rw [ho]
  obtain ⟨ce,ar,Rb⟩:=c
  simp only at hc
  subst hc
  show if JC C st X=true then True else Ext w w'
  split
  ·trivial
  ·exact hw
 have hrun:=hC.1 g _ res hres dr w (Fr w0.heap.size F0 H1 σ) (c.args.map a.eval) (fun g k e hg=>h1.glob g k e hg) (by simp) (fun j b v hb hv=>by
  rw [List.map_map] at hb
  refine F7 (xs:=c.args.toList) h kn (fun x hx i hi=>?_) ?_ j b v hb (by simpa using hv)
  ·exact List.mem_flatMap.2 ⟨_,List.mem_map.2 ⟨x,hx,rfl⟩,hi⟩
  ·simpa [List.all_map] using ht)
 have post:∀ v w',Ext w w'→eV (C.own g) w w' (Fr w0.heap.size F0 H1 σ) res v→next (a.put o.dst v) w':=by
  intro v w' hw hr
  obtain ⟨H',hI⟩:=Ed (o:=o) hd h1 hw hr hp
  exact hn _ w' _ H' σ hK hI (eW w' hw) ⟨fun s _=>rfl,.inr (.inr rfl)⟩ (Only.put a o.dst v)
 have F9:∀ w:World,(execOp a.eval o).run P w=(callFunc g (c.args.map a.eval)).run P w:=fun w=>by
  simp only [execOp,ho,resolve,hc,hg]
  simp [Deferred.ofValue,invoke]
 unfold Oper.wp
 rw [F9 w]
 rcases hrun with ⟨fn,cb,hfn,fO,hname,Ap⟩ | ⟨v,hv,bO⟩
 ·have:(callFunc g (c.args.map a.eval)).run P w=.ok (.enter g (c.args.map a.eval)) w:=by
   have mC:¬ fn.name = "runtime.NumGoroutine" := by simpa using hname
   simp [callFunc,hfn,fO,mC]
  rw [this,Oper.upon_enter]
  refine Calls.mono Ap fun e w' he=>?_
  obtain ⟨v,rfl,hw,hr⟩:=he
  exact post v w' hw hr
 ·rw [hv,Oper.upon_value]
  obtain ⟨v',he,hw,hr⟩:=bO
  cases he
  exact post v w hw hr
theorem J8 (ids:List Nat):∀ (st:St) (s:Nat),(st.ju ids).mem s=(st.mem s).map (·.map fun c=>ids.foldl (fun c i=>Cell.fz i c) c):=by
 induction ids with
 | nil=>intro st s;simp [St.ju]
 | cons a r ih =>
  intro st s
  have:(st.ju (a :: r)).mem s=((st.fz a).ju r).mem s:=rfl
  rw [this,ih]
  simp [St.fz,St.map,Option.map_map,Function.comp_def]
theorem J9 (ids:List Nat):∀ (c:Cell) (id e k:Nat) (l:List AV),ids.foldl (fun c i=>Cell.fz i c) c=.own id e k l→c=.own id e k l∧id ∉ ids:=by
 induction ids with
 | nil=>intro c id e k l h;exact ⟨h,by simp⟩
 | cons a r ih =>
  intro c id e k l h
  obtain ⟨h1,h2⟩:=ih (Cell.fz a c) id e k l h
  cases c with
  | own i e' k' l' =>
   simp only [Cell.fz,aR] at h1
   split at h1
   ·cases h1
   ·rename_i hne
    cases h1
    exact ⟨rfl,fun hm=>by rcases List.mem_cons.1 hm with e | e;exact hne e;exact h2 e⟩
  | _=>cases h1
theorem kA {o:Oper} {c:Call} {g:Nat} {X:Operand} {sg:vE} {cv:Array Value} {ss:List Nat} (ho:o.op=.call c) (hc:c.callee=.value X) (hg:a.eval X=.func (.func g) #[] cv) (dr:C.sig g=some sg) (hM:JC C st X=true)
  (hcv:cv.size=ss.length∧∀ (j s:Nat) (v:Value),ss[j]?=some s→cv[j]?=some v→∃ r,σ s=some r∧v=.pointer (some ⟨r,0,none⟩))
  (hC:iT C P call) (hT:∀ t i,C.ty t=some i→cr P t i) (h:Inv C w0 F0 nt st a w H σ) (hd:∀ t,o.dst=some t→t < nt)
  (hK:cX C call sg g (c.args.toList.map (st.get C) ++ ss.map fun s=>.cell (.ptr s 0)) o.dst st K=some r):Goes C P w0 F0 nt st a w σ K r o:=by
 generalize Ue:c.args.toList.map (st.get C) ++ ss.map (fun s=>aY.cell (.ptr s 0))=xs at hK
 unfold cX at hK
 obtain ⟨sites,N0,hK⟩:=Option.bind_eq_some_iff.1 hK
 simp only at hK
 generalize yr:mf sg.ps xs ++ ck false (fun i=>sites.getD i 0) st.mem 0 sg.objs=ids at hK
 cases hb:(B3 sg && (nodup sites && (mb sites sg.ps xs && (nodup (ck true (fun i=>sites.getD i 0) (st.ju ids).mem 0 sg.objs) && (C.own g).isEmpty)))) with
 | false=>rw [hb] at hK;cases hK
 | true =>
  rw [hb] at hK
  simp only [cond_true] at hK
  simp only [Bool.and_eq_true] at hb
  obtain ⟨N3,hn,hp,hno,_⟩:=hb
  unfold B3 at N3
  simp only [Bool.and_eq_true] at N3
  obtain ⟨fp,J0,jA⟩:=N3
  have jA:=Nat.eq_of_beq_eq_true jA
  obtain ⟨ins,Rq,hK⟩:=Option.bind_eq_some_iff.1 hK
  obtain ⟨res,hres,hK⟩:=Option.bind_eq_some_iff.1 hK
  obtain ⟨v0,hv0,hK⟩:=Option.bind_eq_some_iff.1 hK
  obtain ⟨H1,h1,kn,kp,yw⟩:=h.vM ids
  have hl:sites.length=sg.objs.length:=by have:=pM N0;simpa using this
  obtain ⟨fn,hfn,Ye,FD,hrun⟩:=hC.2 g sg _ res hres dr
  obtain ⟨Ui,_,_⟩:=oJ hp
  have oG:(c.args.map a.eval ++ cv).size=sg.ps.length:=by
   rw [← Ui,← Ue]
   simp [hcv.1]
  have hx:∀ (t:Nat) (e:aY) (v:Value),xs[t]?=some e→(c.args.map a.eval ++ cv)[t]?=some v→bS w (Fr w0.heap.size F0 H σ) H σ e v:=by
   intro t e v he hv
   rw [← Ue] at he
   by_cases ht:t < c.args.size
   ·rw [List.getElem?_append_left (by simpa using ht),List.getElem?_map] at he
    rw [Array.getElem?_append_left (by simpa using ht),Array.getElem?_map] at hv
    have e1:c.args.toList[t]?=some c.args[t]:=by simp [ht]
    have e2:c.args[t]?=some c.args[t]:=by simp [ht]
    rw [e1] at he
    rw [e2] at hv
    cases he;cases hv
    exact h.get _
   ·rw [List.getElem?_append_right (by simpa using ht),List.getElem?_map] at he
    rw [Array.getElem?_append_right (by simpa using ht)] at hv
    simp only [List.length_map,Array.length_toList,Array.size_map] at he hv
    cases hs:ss[t - c.args.size]? with
    | none=>rw [hs] at he;cases he
    | some s =>
     rw [hs] at he
     cases he
     obtain ⟨b,q1,q2⟩:=hcv.2 _ s v hs hv
     exact ⟨b,q1,q2⟩
  have hI:=F4 (vs:=c.args.map a.eval ++ cv) (ntg:=fn.ntmps) (ids:=ids) h1 fp hn hp hl hno Rq oG Ye
   (fun i j o' cs cc Jf hk hm hcc id e k l heq=>by
    rw [J8] at hm
    simp only [Option.map_eq_some_iff] at hm
    obtain ⟨cs0,ji,rfl⟩:=hm
    rw [List.getElem?_map] at hcc
    cases hc0:cs0[j]? with
    | none=>rw [hc0] at hcc;cases hcc
    | some c0 =>
     rw [hc0] at hcc
     simp only [Option.map_some,Option.some.injEq] at hcc
     subst hcc
     obtain ⟨h5,h6⟩:=J9 ids c0 id e k l heq
     subst h5
     refine h6 ?_
     rw [← yr]
     refine List.mem_append_right _ (oK (site:=fun i=>sites.getD i 0) (i0:=0) (i:=i) Jf (by rw [Nat.zero_add];exact ji) (fun e k he=>by rw [hk] at he;cases he) (List.getElem?_eq_some_iff.1 hk).1 hc0 (by simp [Cell.ids])))
   (fun t e v he hv=>⟨fun ht hi=>dy (kn _ _ (hx t e v he hv)) ht fun i hi'=>by rw [← yr];exact List.mem_append_left _ (hi i hi'),fun cc hcc=>by
    have h5:=hx t e v he hv
    subst hcc
    cases cc with
    | dead=>exact .inr (.inr rfl)
    | val u=>exact .inr (.inl rfl)
    | own id e k l=>exact .inr (.inl rfl)
    | ptr s o'=>exact .inl h5
    | eI g' ss'=>exact .inl h5⟩)
  have Ga:=hrun w _ (c.args.map a.eval ++ cv) _ _ oG hI
  have post:∀ v w',FJ C P g fn sg w (kz w0 F0 H1 σ (fun i=>sites.getD i 0) sites.length fn.ntmps (ck true (fun i=>sites.getD i 0) (st.ju ids).mem 0 sg.objs)) res (.returned v) w'→∀ (next:Act→World→Prop),(∀ (a':Act) (w':World) (st':St) (H':Nat→Option Value) (σ':Nat→Option Nat),K st'=some r→Inv C w0 F0 nt st' a' w' H' σ'→eh C st o σ w w' →
  ((∀ s,o.dst≠some s→σ' s=σ s)∧((∃ t,o.op=.alloc t)∨(∃ t x,o.op=.box t x)∨σ'=σ))→Only o.dst a a'→next a' w')→next (a.put o.dst v) w':=by
   intro v w' bO next MC
   obtain ⟨v',he,j3,a2,H2,σ2,Rs,hf2,hr2⟩:=bO
   cases he
   obtain ⟨r0,ls,H',Rt,Mx,hIn,hrel⟩:=Ec (a:=a) hT h1 J0 jA hn (hl.trans jA.symm) hno Rq Rs hf2 hr2
   subst Rt
   have VH:v0=r0:=by
    have:(r0 :: ls.map AV.ag)[0]?=some v0:=hv0
    simpa using this.symm
   subst VH
   have hK':=rT (pre:=[]) (ls:=ls) Mx (by simpa using hK)
   refine MC _ w' _ H' σ hK' (hIn.put hd hrel) ?_ ⟨fun s _=>rfl,.inr (.inr rfl)⟩ (Only.put a o.dst v)
   unfold eh
   rw [ho]
   obtain ⟨ce,ar,Rb⟩:=c
   simp only at hc
   subst hc
   show if JC C st X=true then True else Ext w w'
   rw [if_pos hM];trivial
  intro next Q MC
  have F9:∀ w:World,(execOp a.eval o).run P w=(callFunc g (c.args.map a.eval ++ cv)).run P w:=fun w=>by
   simp only [execOp,ho,resolve,hc,hg]
   simp [Deferred.ofValue,invoke]
  unfold Oper.wp
  rw [F9 w]
  rcases Ga with ⟨VI,cb,Ka,fO,hname,Ap⟩ | ⟨v,hv,bO⟩
  ·have:(callFunc g (c.args.map a.eval ++ cv)).run P w=.ok (.enter g (c.args.map a.eval ++ cv)) w:=by
    have mC:¬ VI.name = "runtime.NumGoroutine" := by simpa using hname
    simp [callFunc,Ka,fO,mC]
   rw [this,Oper.upon_enter]
   refine Calls.mono Ap fun e w' he=>?_
   have MD:=he
   obtain ⟨v,rfl,_⟩:=he
   exact post v w' MD next MC
  ·rw [hv,Oper.upon_value]
   have MD:=bO
   obtain ⟨v',he,_⟩:=bO
   cases he
   exact post v w MD next MC
theorem Kb {o:Oper} {c:Call} (ho:o.op=.call c) (hC:iT C P call) (hT:∀ t i,C.ty t=some i→cr P t i) (h:Inv C w0 F0 nt st a w H σ) (hd:∀ t,o.dst=some t→t < nt)
  (hK:j7 C call c o.dst st K=some r) (Qy:C.pure o.op=false):Goes C P w0 F0 nt st a w σ K r o:=by
 unfold j7 at hK
 cases hc:c.callee with
 | invoke x n=>rw [hc] at hK;cases hK
 | builtin b =>
  rw [hc] at hK
  simp only [gG] at hK
  rw [ho] at Qy
  obtain ⟨ce,ar,Rb⟩:=c
  simp only at hc
  subst hc
  split at hK <;> first | (cases hK;done) | (exfalso;cases Qy;done) | skip
  rename_i x y t u ts ha Jb
  exact D9 ho rfl ha Jb hT h hd hK
 | value X =>
  rw [hc] at hK
  cases X with
  | func g =>
   simp only at hK
   cases dr:C.sig g with
   | some sg =>
    rw [dr] at hK
    exact kA (ss:=[]) (cv := #[]) ho hc rfl dr (by show (C.sig g).isSome=true;rw [dr];rfl) ⟨rfl,fun j s v hs=>by simp at hs⟩ hC hT h hd (by simpa using hK)
   | none =>
   rw [dr] at hK
   simp only at hK
   cases ht:(c.args.toList.map (st.get C)).all aY.told with
   | false=>rw [ht] at hK;cases hK
   | true =>
    rw [ht] at hK
    simp only [cond_true] at hK
    cases hr:call g ((c.args.toList.map (st.get C)).map aY.aX) with
    | none=>rw [hr] at hK;cases hK
    | some res =>
     rw [hr] at hK
     simp only [Option.bind_some] at hK
     cases hp:ma (st.ju ((c.args.toList.map (st.get C)).flatMap aY.ids)) o.dst (C.own g) res with
     | none=>rw [hp] at hK;cases hK
     | some st' =>
      rw [hp] at hK
      exact yB ho hc rfl dr hC h hd ht hr hp hK
  | tmp t =>
   simp only at hK
   split at hK
   ·rename_i g ss cK
    cases dr:C.sig g with
    | none=>rw [dr] at hK;cases hK
    | some sg =>
     rw [dr] at hK
     have hx:=h.env t
     rw [cK] at hx
     obtain ⟨rs,h1,h2,h3⟩:=hx
     have h2:a.eval (.tmp t)=.func (.func g) #[] (rs.map fun r=>(.pointer (some ⟨r,0,none⟩):Value)).toArray:=h2
     refine kA (ss:=ss) (cv:=(rs.map fun r=>.pointer (some ⟨r,0,none⟩)).toArray) ho hc h2 dr (by show (match st.env t with | .cell (.eI _ _)=>true | _=>false)=true;rw [cK]) ⟨by simpa using h1,fun j s v hs hv=>?_⟩ hC hT h hd hK
     have hv:(rs.map fun r=>(.pointer (some ⟨r,0,none⟩):Value))[j]?=some v:=by simpa using hv
     rw [List.getElem?_map] at hv
     cases hr:rs[j]? with
     | none=>rw [hr] at hv;cases hv
     | some b=>rw [hr] at hv;cases hv;exact ⟨b,h3 j s b hs hr,rfl⟩
   ·rename_i Q0
    cases ht:(c.args.toList.map (st.get C)).all aY.told with
    | false=>rw [ht] at hK;cases hK
    | true =>
     rw [ht] at hK
     simp only [cond_true] at hK
     cases hf:AV.Nx (st.env t).aX with
     | none=>rw [hf] at hK;cases hK
     | some g =>
      rw [hf] at hK
      simp only [Option.bind_some] at hK
      have hg:a.eval (.tmp t)=.func (.func g) #[] #[]:=by
       have:=(h.get (.tmp t)).aX
       rcases this with e | e
       ·have e':(st.env t).aX=.un:=e
        rw [e'] at hf;cases hf
       ·have e':Rel w T (st.env t).aX (a.eval (.tmp t)):=e
        generalize (st.env t).aX=Y at hf e'
        generalize a.eval (.tmp t)=V at e'
        cases Y <;> first | cases hf | skip
        cases e'
        rfl
      obtain ⟨res,hr,hK⟩:=Option.bind_eq_some_iff.1 hK
      unfold pB at hr
      cases hb:((C.sig g).isNone && (C.own g).all Option.isNone) with
      | false=>rw [hb] at hr;cases hr
      | true =>
       rw [hb] at hr
       simp only [cond_true] at hr
       rw [Bool.and_eq_true] at hb
       exact yB (st':=(st.ju ((c.args.toList.map (st.get C)).flatMap aY.ids)).put o.dst (.val res)) ho hc hg (by simpa using hb.1) hC h hd ht hr (by unfold ma;rw [hb.2];rfl) hK
  | const v=>cases hK
  | global g=>cases hK
theorem N4 {o:Oper} {t u:TypeId} {x:Operand} (ho:o.op=.convert t u x) (hT:∀ t i,C.ty t=some i→cr P t i) (h:Inv C w0 F0 nt st a w H σ) (hd:∀ t,o.dst=some t→t < nt)
  (hs:C.kd t=some .slice) (hl:C.kd u=some .slice) (hK:iR C t u (st.get C x) o.dst st K=some r):Goes C P w0 F0 nt st a w σ K r o:=by
 unfold iR at hK
 rw [hs,hl] at hK
 simp only at hK
 split at hK
 ·rename_i id e k v l cK
  cases hb:(Nat.beq t u && Nat.beq k 1) with
  | false=>rw [hb] at hK;cases hK
  | true =>
   rw [hb] at hK
   simp only [cond_true] at hK
   rw [Bool.and_eq_true] at hb
   have htu:=Nat.eq_of_beq_eq_true hb.1
   have ue:=Nat.eq_of_beq_eq_true hb.2
   subst htu ue
   obtain ⟨i,hi,hik⟩:=cL hs
   have hu:=(hT t i hi).und
   rw [hik] at hu
   rw [hi] at hK
   simp only [Option.bind_some] at hK
   split at hK
   ·rename_i h3
    obtain ⟨i3,e3,f3⟩:=cL h3
    have Fb:=(hT i.elem i3 e3).und
    rw [f3] at Fb
    have hr:=h.get x
    rw [cK] at hr
    obtain ⟨hH,hown⟩:=hr
    obtain ⟨g,cap,cur,hx,hg,hc,hm,hsz,_,qE⟩:=hown.rr (by simp)
    have hrow:(a.eval x).ownBlock=some g:=by rw [hx];rfl
    let w':World:=w.freeze ⟨g,cur.size,none⟩ 1
    have Gb:∀ b,b≠g→w'.heap[b]?=w.heap[b]?:=fun b hne=>by
     simp [w',World.freeze,Array.getElem?_modify,Ne.symm hne]
    have hlt:=(h.hown id _ g hH hrow).2
    have hat:∃ fz,w'.heap[g]?=some (.cells cur e fz):=by
     have xX:w.heap[g]=.cells cur e (0,0):=(Array.getElem?_eq_some_iff.1 hg).2
     refine ⟨(cur.size,cur.size+1),?_⟩
     simp [w',World.freeze,Array.getElem?_modify,hg]
    obtain ⟨fz,hat⟩:=hat
    have hsz':w'.heap.size=w.heap.size:=by simp [w',World.freeze]
    have FT:=h.oz id id (some g) (w':=w') (x:=a.eval x) rfl rfl rfl (by rw [hsz'];exact Nat.le_refl _) (fun b _ hne=>Gb b fun e=>hne (by rw [e])) (fun g' QC=>⟨_,hH,by cases QC;exact hrow⟩)
     (fun g' QC=>by rw [hrow] at QC;cases QC;exact ⟨.inl rfl,by rw [hsz'];exact hlt⟩)
    have h4:=FT.kl id
    rw [uA,uA] at h4
    refine gl (v:=a.eval x) (w':=w') ?_ hK (h4.put hd ?_) (by unfold eh;rw [ho];simp [cU.pure,hs]) ⟨fun s _=>rfl,.inr (.inr rfl)⟩
    ·simp only [execOp,ho,Sem.run_bind,hx]
     have N5:w.shape? g=some (e,cur.size):=by simp [World.shape?,hg]
     simp [convert,run_underlying hu,run_underlying Fb,markStringish,N5,w']
    ·have QD:∀ b,b < w.heap.size→Fr w0.heap.size F0 H σ b→Fr w0.heap.size F0 (Sx.erase (upd (Sx.erase (Sx.erase H id) id) id (a.eval x)) id) σ b∧w'.heap[b]?=w.heap[b]?:=fun b hb hf=>by
      refine ⟨⟨hf.1,fun j y hy=>?_,hf.2.2⟩,Gb b fun e=>hf.2.1 id _ hH (by rw [hrow,e])⟩
      obtain ⟨hj,hy⟩:=aK hy
      rcases dM hy with ⟨e,_⟩ | ⟨_,hy⟩
      ·exact absurd e hj
      ·exact hf.2.1 j y (aK (aK hy).2).2
     show Rel w' _ (.ro 1 (v :: l)) (a.eval x)
     refine (congrArg (fun y=>Rel w' (Fr w0.heap.size F0 (Sx.erase (upd (Sx.erase (Sx.erase H id) id) id (a.eval x)) id) σ) (.ro 1 (v :: l)) y) hx).mpr ?_
     refine Rel.ro 1 (v :: l) g 0 cap (cur.toList.take ((v :: l).length * 1)) (by omega) hc ⟨fun hh=>?_,fun j y hy=>?_,fun s hs'=>?_⟩ qE.1 (fun j y hy=>?_) qE.2.1 (fun q j y hq hj hy=>(qE.2.2 q j y hq hj hy).mono QD)
     ·rcases (h.hown id _ g hH hrow).1 with h5 | h5
      ·omega
      ·exact .inr h5
     ·obtain ⟨hj,hy⟩:=aK hy
      rcases dM hy with ⟨e,_⟩ | ⟨_,hy⟩
      ·exact absurd e hj
      ·have hy':=(aK (aK hy).2).2
       intro e
       exact h.hh j id y _ g hj hy' hH e hrow
     ·exact h.hs id s _ g hH hs' hrow
     ·rw [Nat.zero_add,cell_of_row w' g j cur e fz hat]
      rw [List.getElem?_take] at hy
      split at hy
      ·simpa using hy
      ·cases hy
   ·cases hK
 ·cases hK
theorem Ke {o:Oper} (hC:iT C P call) (hT:∀ t i,C.ty t=some i→cr P t i) (h:Inv C w0 F0 nt st a w H σ) (hd:∀ t,o.dst=some t→t < nt) (hK:bM C call f o st K=some r):Goes C P w0 F0 nt st a w σ K r o:=by
 cases hp:C.pure o.op with
 | true=>exact (oH (ws:=[]) hp hT h hd hK (rN.self [] σ w) (fun _ _ _ _ _ _=>by simp)).goes hp
 | false =>
  have Qy:=hp
  cases hop:o.op <;> rw [hop] at hp <;> first | (cases hp;done) | skip
  all_goals first | (simp only [bM,hop] at hK;cases hK;done) | skip
  case alloc t=>simp only [bM,hop] at hK;exact FW hop hT h hd hK
  case box t x=>simp only [bM,hop] at hK;exact NW hop hT h hd hK
  case buildSlice t n ps=>simp only [bM,hop] at hK;exact uo hop hT h hd hK
  case store t x y=>simp only [bM,hop] at hK;exact FY hop hT h hK
  case makeSlice t n c=>simp only [bM,hop] at hK;exact vR hop hT h hd hK
  case call c=>simp only [bM,hop] at hK;exact Kb hop hC hT h hd hK Qy
  case slice t x lo hi mx =>
   simp only [bM,hop] at hK
   exfalso
   simp only [cU.pure] at hp
   cases mx with
   | some m=>cases hK
   | none =>
    simp only [jy] at hK
    split at hK
    ·rename_i hk;rw [hk] at hp;cases hp
    ·rename_i hk;rw [hk] at hp;cases hp
    ·cases hK
  case convert t u x =>
   simp only [bM,hop] at hK
   simp only [cU.pure] at hp
   split at hp
   ·rename_i h1 h2;exact NX hop hT h hd h1 h2 hK
   ·rename_i h1 h2;exact N4 hop hT h hd h1 h2 hK
   ·cases hp
end
section plain
variable {P:Program} {ops:Array Oper} {nc:List Nat} {Q:Exit→Act→World→Prop} {E:World→World→Prop}
def mD (ops:Array Oper) (nc:List Nat) (i:Nat):Bool:=match ops[i]? with | some o=>Op.calm o.op && !(nc.any (Nat.beq (1000000+i))) | none=>true
def behind (ops:Array Oper) (i:Nat):Nat→Nat→Bool
 | 0,_=>false
 | m+1,j=>match ops[j]? with
  | some o=>o.after.any fun e=>Region.binds .any e && (Nat.beq e.on i || behind ops i m e.on)
  | none=>false
def fB (ops:Array Oper) (done:Array Bool):Prop:=∀ (j:Nat) (o:Oper),done.getD j false=true→ops[j]?=some o→∀ e ∈ o.after,Region.binds .any e=true→done.getD e.on false=true
theorem fB.set {ops:Array Oper} {done:Array Bool} (h:fB ops done) {i:Nat} (hi:i ∈ Region.ready .any ops done):fB ops (done.setIfInBounds i true):=by
 intro j o hj ho e he hb
 refine getD_set_true ?_
 by_cases ui:i=j
 ·subst ui
  obtain ⟨_,o',Jf,hd⟩:=mem_ready.1 hi
  rw [ho] at Jf
  cases Jf
  exact hd e he hb
 ·rw [getD_set_ne false ui] at hj
  exact h j o hj ho e he hb
theorem kB {ops:Array Oper} {done:Array Bool} (h:fB ops done) {i:Nat}:∀ (m j:Nat),(∀ o,ops[j]?=some o→∀ e ∈ o.after,Region.binds .any e=true→done.getD e.on false=true)→behind ops i m j=true→done.getD i false=true
 | 0,j,_,hb=>by simp [behind] at hb
 | m+1,j,hd,hb=>by
  simp only [behind] at hb
  split at hb
  ·rename_i o ho
   obtain ⟨e,he,hx⟩:=Array.any_eq_true'.1 hb
   rw [Bool.and_eq_true,Bool.or_eq_true] at hx
   have h1:=hd o ho e he hx.1
   rcases hx.2 with h2 | h2
   ·rw [Nat.eq_of_beq_eq_true h2] at h1;exact h1
   ·exact kB h m e.on (fun o' Jf e' MD hb'=>h e.on o' h1 Jf e' MD hb') h2
  ·cases hb
def fP (P:Program) (ops:Array Oper) (nc:List Nat) (Q:Exit→Act→World→Prop) (E:World→World→Prop) (p:Nat×Bool) (N:Act→World→Prop) (a:Act) (w:World):Prop :=
 if p.2=true then ∃ oi v,ops[p.1]?=some oi∧YieldsIf P ops (E w) oi v a∧N (a.put oi.dst v) w
 else wpOp P ops Q p.1 (fun a' w'=>(mD ops nc p.1=true→E w w')∧N a' w') a w
def nh (P:Program) (ops:Array Oper) (nc:List Nat) (Q:Exit→Act→World→Prop) (E:World→World→Prop):List (Nat×Bool)→(Act→World→Prop)→Act→World→Prop
 | [],N,a,w=>N a w
 | p :: r,N,a,w=>fP P ops nc Q E p (nh P ops nc Q E r N) a w
theorem rU (l m:List (Nat×Bool)) (N:Act→World→Prop) (a:Act) (w:World):nh P ops nc Q E (l ++ m) N a w=nh P ops nc Q E l (nh P ops nc Q E m N) a w:=by
 induction l generalizing a w with
 | nil=>rfl
 | cons p r ih =>
  have:nh P ops nc Q E (r ++ m) N=nh P ops nc Q E r (nh P ops nc Q E m N):=by funext a w;exact ih a w
  show fP P ops nc Q E p (nh P ops nc Q E (r ++ m) N) a w=fP P ops nc Q E p (nh P ops nc Q E r (nh P ops nc Q E m N)) a w
  rw [this]
theorem vS (l:List Nat) (a:Act) (w:World) (h:nh P ops nc Q E (l.map fun i=>(i,false)) (fun a w=>Q .normal a w) a w):wpOps P ops Q l a w:=by
 induction l generalizing a w with
 | nil=>exact h
 | cons i r ih =>
  rw [wpOps_cons]
  have h':fP P ops nc Q E (i,false) _ a w:=h
  unfold fP at h'
  rw [if_neg (by simp)] at h'
  exact wpOp_mono (fun a' w' hh=>ih a' w' hh.2) h'
def mE (P:Program) (ops:Array Oper) (nc:List Nat) (Q:Exit→Act→World→Prop) (E:World→World→Prop):Nat→Array Bool→Act→World→Prop
 | 0,done,a,w=>Region.ready .any ops done=[]∧Q .normal a w
 | m+1,done,a,w=>(Region.ready .any ops done=[]→Q .normal a w)∧∀ i ∈ Region.ready .any ops done,wpOp P ops Q i (fun a' w'=>(mD ops nc i=true→E w w')∧mE P ops nc Q E m (done.setIfInBounds i true) a' w') a w
theorem mE.any:∀ (m:Nat) {done:Array Bool} {a:Act} {w:World},mE P ops nc Q E m done a w→wpAny P .any ops Q m done a w
 | 0,_,_,_,h=>h
 | m+1,_,_,_,h=>⟨h.1,fun i hi=>wpOp_mono (fun _ _ hh=>mE.any m hh.2) (h.2 i hi)⟩
theorem mE.take {S:World→World→Prop} (hr:∀ w,E w w) (N6:∀ u v,E u v→S u v) (ht:∀ u v w,S u v→S v w→S u w) (hQ:∀ c a w,¬ Q (.panic c) a w) (NT:Region.noSelect ops=true) {i:Nat} {oi:Oper} {v:Value} (hi:ops[i]?=some oi):∀ (m:Nat) {done:Array Bool} {a:Act} {w:World},
  (∀ (j:Nat) (oj:Oper),ops[j]?=some oj→j≠i→done.getD j true=false→(∀ e ∈ oj.after,Region.binds .any e=true→e.on≠i)→oi.apart ops oj=true)→i ∈ Region.ready .any ops done→fB ops done→((∀ u v,S u v)∨∀ j,j < ops.size→j≠i→done.getD j true=false→mD ops nc j=true∨behind ops i ops.size j=true)→YieldsIf P ops (S w) oi v a →
  mE P ops nc Q E m (done.setIfInBounds i true) (a.put oi.dst v) w→mE P ops nc Q E (m+1) done a w:=by
 have Ru:=Region.noSelect_spec NT
 intro m
 induction m with
 | zero =>
  intro done a w _ iy _ _ hy h
  constructor
  ·intro e;rw [e] at iy;cases iy
  ·intro j hj
   rcases Nat.decEq j i with hne | rfl
   ·have:=ready_mono hj hne;rw [h.1] at this;cases this
   ·exact hy.wpOp hi (N6 _ _ (hr w)) ⟨fun _=>hr w,h⟩
 | succ m ih =>
  intro done a w hap iy jw eX hy h
  constructor
  ·intro e;rw [e] at iy;cases iy
  ·intro j hj
   rcases Nat.decEq j i with hne | rfl
   ·obtain ⟨j4,oj,Gc,yC⟩:=mem_ready.1 hj
    have hid:=(mem_ready.1 iy).1
    have Gd:∀ e ∈ oj.after,Region.binds .any e=true→e.on≠i:=by
     intro e he hb heq
     have hd:=yC e he hb
     rw [heq] at hd
     by_cases hlt:i < done.size
     ·simp [hlt] at hid hd;rw [hid] at hd;cases hd
     ·simp [hlt] at hd
    have N7:j < ops.size:=(Array.getElem?_eq_some_iff.1 Gc).1
    have Aq:∀ w',(mD ops nc j=true→E w w')→S w w':=by
     intro w' hE
     rcases eX with hc | eX
     ·exact hc _ _
     ·rcases eX j N7 hne j4 with hc | hb
      ·exact N6 _ _ (hE hc)
      ·exfalso
       have:=kB jw ops.size j (fun o ho=>by rw [Gc] at ho;cases ho;exact yC) hb
       by_cases hlt:i < done.size
       ·simp [hlt] at hid this;rw [hid] at this;cases this
       ·simp [hlt] at this
    have hh:=wpOp_putIf Gc (hap j oj Gc hne j4 Gd) (fun cs b=>Ru i oi cs b hi) (fun cs b=>Ru j oj cs b Gc) (fun c a w hc=>absurd hc (hQ c _ w)) hy (h.2 j (ready_mono hj hne))
    refine wpOp_mono (fun a' w' ⟨hy',hE,fQ⟩=>⟨hE,ih ?_ (ready_mono iy (Ne.symm hne)) (jw.set hj) ?_ ?_ ?_⟩) hh
    ·intro k ok hk N8 jf VJ
     refine hap k ok hk N8 ?_ VJ
     by_cases hjk:j=k
     ·subst hjk;exact j4
     ·rwa [getD_set_ne true hjk] at jf
    ·rcases eX with hc | eX
     ·exact .inl hc
     ·refine .inr fun k hk N8 jf=>eX k hk N8 ?_
      by_cases hjk:j=k
      ·subst hjk;exact j4
      ·rwa [getD_set_ne true hjk] at jf
    ·rcases hy' with ⟨q1,q2⟩ | q
     ·exact .inl ⟨q1,fun u hu=>q2 u (ht w w' u (Aq w' hE) hu)⟩
     ·exact .inr q
    ·rw [Array.setIfInBounds_comm _ _ hne]
     exact fQ
   ·exact hy.wpOp hi (N6 _ _ (hr w)) ⟨fun _=>hr w,h⟩
def Ar (ops:Array Oper) (i:Nat):Bool:=match ops[i]? with | some o=>(match o.op with | .move _=>true | _=>false) | none=>false
theorem YieldsIf.move {S:World→Prop} {oi:Oper} {v:Value} {a:Act} {x:Operand} {w:World} (ho:oi.op=.move x) (hw:S w) (h:YieldsIf P ops S oi v a):YieldsIf P ops (fun _=>True) oi v a:=by
 rcases h with ⟨h1,h2⟩ | h
 ·refine .inl ⟨h1,fun u _=>?_⟩
  have:=h2 w hw
  have e:∀ u:World,(execOp a.eval oi).run P u=.ok (.value (a.eval x)) u:=fun u=>by simp [execOp,ho]
  rw [e] at this ⊢
  cases this
  rfl
 ·exact .inr h
def Ci (ops:Array Oper) (nc:List Nat) (k:Array Bool→Bool):Array Bool→List (Nat×Bool)→Bool
 | listed,[]=>k listed
 | listed,p :: r=>(bif p.2 then Region.free .any ops listed p.1 && (Region.ready .any ops listed).contains p.1 && (Ar ops p.1 || (List.range ops.size).all fun j=>Nat.beq j p.1 || listed.getD j true || mD ops nc j || behind ops p.1 ops.size j) else decide (Region.ready .any ops listed=[p.1])) && Ci ops nc k (listed.setIfInBounds p.1 true) r
def j5.len:j5→Nat
 | .done=>0
 | .seq l t=>l.length+t.len
 | .fork _ x _ _=>x.len+1
def nG (ops:Array Oper) (nc:List Nat):j5→Array Bool→Bool
 | .done,listed=>(Region.ready .any ops listed).isEmpty
 | .seq l t,listed=>Ci ops nc (nG ops nc t) listed l
 | .fork i x j y,listed=>decide (Region.ready .any ops listed=[i,j]) && Nat.beq x.len y.len && nG ops nc x (listed.setIfInBounds i true) && nG ops nc y (listed.setIfInBounds j true)
theorem kC (hr:∀ w,E w w) (ht:∀ u v w,E u v→E v w→E u w) (hs:Region.noSelect ops=true) (hQ:∀ c a w,¬ Q (.panic c) a w) {k:Array Bool→Bool} {N:Act→World→Prop} {m:Nat}
  (hN:∀ (listed:Array Bool) (a:Act) (w:World),fB ops listed→k listed=true→N a w→mE P ops nc Q E m listed a w):∀ (l:List (Nat×Bool)) (listed:Array Bool) (a:Act) (w:World),fB ops listed→Ci ops nc k listed l=true →
  nh P ops nc Q E l N a w→mE P ops nc Q E (l.length+m) listed a w
 | [],listed,a,w,jw,hp,h=>by
  rw [List.length_nil,Nat.zero_add]
  exact hN listed a w jw hp h
 | (i,tk) :: r,listed,a,w,jw,hp,h=>by
  simp only [Ci,Bool.and_eq_true] at hp
  have h':fP P ops nc Q E (i,tk) (nh P ops nc Q E r N) a w:=h
  unfold fP at h'
  rw [List.length_cons,show r.length+1+m=(r.length+m)+1 by omega]
  cases tk with
  | true =>
   rw [if_pos rfl] at h'
   obtain ⟨oi,v,hi,hy,hn⟩:=h'
   simp only [cond_true,Bool.and_eq_true] at hp
   have iy:i ∈ Region.ready .any ops listed:=by simpa using hp.1.1.2
   have fQ:=kC hr ht hs hQ hN r _ _ _ (jw.set iy) hp.2 hn
   cases Kf:Ar ops i with
   | true =>
    unfold Ar at Kf
    rw [hi] at Kf
    simp only at Kf
    split at Kf
    ·rename_i x hx
     exact mE.take (S:=fun _ _=>True) hr (fun _ _ _=>trivial) (fun _ _ _ _ _=>trivial) hQ hs hi (r.length+m) (Region.free_spec hi hp.1.1.1) iy jw (.inl fun _ _=>trivial) (YieldsIf.move hx (hr w) hy) fQ
    ·cases Kf
   | false =>
   rw [Kf,Bool.false_or] at hp
   refine mE.take hr (fun _ _ h=>h) ht hQ hs hi (r.length+m) (Region.free_spec hi hp.1.1.1) iy jw (.inr fun j hj hne Ch=>?_) hy fQ
   have:=List.all_eq_true.1 hp.1.2 j (List.mem_range.2 hj)
   rw [Bool.or_eq_true,Bool.or_eq_true,Bool.or_eq_true] at this
   rcases this with ((h1 | h1) | h1) | h1
   ·exact absurd (Nat.eq_of_beq_eq_true h1) hne
   ·rw [Ch] at h1;cases h1
   ·exact .inl h1
   ·exact .inr h1
  | false =>
   rw [if_neg (by simp)] at h'
   simp only [cond_false,decide_eq_true_eq] at hp
   refine ⟨fun e=>(by rw [hp.1] at e;cases e),fun j hj=>?_⟩
   rw [hp.1] at hj
   have:j=i:=by simpa using hj
   subst this
   exact wpOp_mono (fun a' w' hh=>⟨hh.1,kC hr ht hs hQ hN r _ _ _ (jw.set (by rw [hp.1];simp)) hp.2 hh.2⟩) h'
def ME (P:Program) (ops:Array Oper) (nc:List Nat) (Q:Exit→Act→World→Prop) (E:World→World→Prop):j5→(Act→World→Prop)→Act→World→Prop
 | .done,N,a,w=>N a w
 | .seq l t,N,a,w=>nh P ops nc Q E l (ME P ops nc Q E t N) a w
 | .fork i x j y,N,a,w=>nh P ops nc Q E [(i,false)] (ME P ops nc Q E x N) a w∧nh P ops nc Q E [(j,false)] (ME P ops nc Q E y N) a w
theorem iD (hr:∀ w,E w w) (ht:∀ u v w,E u v→E v w→E u w) (hs:Region.noSelect ops=true) (hQ:∀ c a w,¬ Q (.panic c) a w):∀ (T:j5) (listed:Array Bool) (a:Act) (w:World),fB ops listed→nG ops nc T listed=true →
  ME P ops nc Q E T (fun a w=>Q .normal a w) a w→mE P ops nc Q E T.len listed a w
 | .done,listed,a,w,jw,hp,h=>⟨by simpa [nG] using hp,h⟩
 | .seq l t,listed,a,w,jw,hp,h=>kC hr ht hs hQ (fun listed a w jw hk hn=>iD hr ht hs hQ t listed a w jw hk hn) l listed a w jw hp h
 | .fork i x j y,listed,a,w,jw,hp,h=>by
  simp only [nG,Bool.and_eq_true,decide_eq_true_eq] at hp
  obtain ⟨⟨⟨h1,h2⟩,h3⟩,h4⟩:=hp
  have hl:=Nat.eq_of_beq_eq_true h2
  have key:∀ (q:Nat) (z:j5),(∀ (listed:Array Bool) (a:Act) (w:World),fB ops listed→nG ops nc z listed=true→ME P ops nc Q E z (fun a w=>Q .normal a w) a w→mE P ops nc Q E z.len listed a w)→q ∈ Region.ready .any ops listed→nG ops nc z (listed.setIfInBounds q true)=true→nh P ops nc Q E [(q,false)] (ME P ops nc Q E z fun a w=>Q .normal a w) a w →
    wpOp P ops Q q (fun a' w'=>(mD ops nc q=true→E w w')∧mE P ops nc Q E z.len (listed.setIfInBounds q true) a' w') a w:=by
   intro q z ih hq hz hw
   have h':fP P ops nc Q E (q,false) (nh P ops nc Q E [] (ME P ops nc Q E z fun a w=>Q .normal a w)) a w:=hw
   unfold fP at h'
   rw [if_neg (by simp)] at h'
   exact wpOp_mono (fun a' w' hh=>⟨hh.1,ih _ _ _ (jw.set hq) hz hh.2⟩) h'
  have kx:=iD hr ht hs hQ x
  have ky:=iD hr ht hs hQ y
  refine ⟨fun e=>(by rw [h1] at e;cases e),fun q hq=>?_⟩
  have hq':=hq
  rw [h1] at hq'
  rcases List.mem_cons.1 hq' with e | hq'
  ·subst e;exact key _ x kx hq h3 h.1
  ·rcases List.mem_cons.1 hq' with e | hq'
   ·subst e
    have:=key _ y ky hq h4 h.2
    rw [← hl] at this
    exact this
   ·cases hq'
end plain
section
variable {C:cU} {P:Program} {w0:World} {F0:Fs} {nt:Nat} {call:Nat→List AV→Option AV} {f:Nat} {ops:Array Oper} {nc:List Nat} {Q:Exit→Act→World→Prop}
def Held (D:Option (List Nat)) (σ0:Nat→Option Nat) (w w':World):Prop :=
 match D with
 | none=>True
 | some ws=>w.heap.size≤w'.heap.size∧∀ b,b < w.heap.size→(∀ s ∈ ws,σ0 s≠some b)→w'.heap[b]?=w.heap[b]?
theorem Held.refl (D:Option (List Nat)) (σ0:Nat→Option Nat) (w:World):Held D σ0 w w:=by
 cases D with
 | none=>trivial
 | some ws=>exact ⟨Nat.le_refl _,fun _ _ _=>rfl⟩
theorem Held.trans {D:Option (List Nat)} {σ0:Nat→Option Nat} {u v w:World} (h:Held D σ0 u v) (k:Held D σ0 v w):Held D σ0 u w:=by
 cases D with
 | none=>trivial
 | some ws=>exact ⟨Nat.le_trans h.1 k.1,fun b hb hs=>(k.2 b (Nat.lt_of_lt_of_le hb h.1) hs).trans (h.2 b hb hs)⟩
def Ord (D:Option (List Nat)) (σ0 σ:Nat→Option Nat):Prop:=∀ ws,D=some ws→∀ s ∈ ws,σ s=σ0 s
def iE (ops:Array Oper) (ctx:Option (Nat×Bool)) (l:List (Nat×Bool)) (a:Act):Prop :=
 match ctx with
 | none=>True
 | some (j,want)=>yielded ops a.tmps j=some want∧∃ d,bR ops j=some d∧∀ i ∈ l,bR ops i.1≠some d
theorem jk {i:Nat} (h:Nat.blt i ops.size=true):ops[i]?=some (opAt ops i):=by
 have hlt:i < ops.size:=by unfold Nat.blt at h;exact Nat.le_of_ble_eq_true h
 unfold opAt
 simp [hlt]
theorem fC {i:Nat} (h:Nat.blt i ops.size=true):bR ops i=(opAt ops i).dst:=by
 unfold bR
 rw [jk h]
 rfl
theorem jC {o:Oper} {ctx:Option (Nat×Bool)} {l:List (Nat×Bool)} {a:Act} (h:pC o.guard ctx=true) (hc:iE ops ctx l a):Region.wanted o (yielded ops a.tmps)=true:=by
 unfold Region.wanted
 unfold pC at h
 split at h
 ·rename_i hg;rw [hg]
 ·rename_i i x j y hg
  rw [hg]
  rw [Bool.and_eq_true] at h
  have e1:=Nat.eq_of_beq_eq_true h.1
  have e2:x=y:=by simpa using h.2
  subst e1 e2
  simp [hc.1]
 ·cases h
theorem kD {a:Act} {dst:Option Nat} {v:Value} {j d:Nat} (hj:bR ops j=some d) (hne:dst≠some d):yielded ops (a.put dst v).tmps j=yielded ops a.tmps j:=by
 unfold yielded
 unfold bR at hj
 rw [hj]
 cases dst with
 | none=>rfl
 | some e =>
  simp only [Act.put,Option.bind_some]
  rw [Array.getElem?_setIfInBounds_ne (fun hh=>hne (by rw [hh]))]
theorem nH {a:Act} {j:Nat} (hj:bR ops j=none):yielded ops a.tmps j=none:=by
 unfold yielded
 unfold bR at hj
 rw [hj]
 rfl
theorem iE.put {ctx:Option (Nat×Bool)} {l:List (Nat×Bool)} {a:Act} (h:iE ops ctx l a) {i:Nat×Bool} (hi:i ∈ l) (v:Value):iE ops ctx l (a.put (bR ops i.1) v):=by
 unfold iE at *
 match ctx,h with
 | none,_=>trivial
 | some (j,want),⟨h1,d,hd,h2⟩=>exact ⟨by rw [kD hd (h2 i hi)];exact h1,d,hd,h2⟩
theorem iE.sub {ctx:Option (Nat×Bool)} {l m:List (Nat×Bool)} {a:Act} (h:iE ops ctx l a) (hm:∀ i ∈ m,i ∈ l):iE ops ctx m a:=by
 unfold iE at *
 match ctx,h with
 | none,_=>trivial
 | some (j,want),⟨h1,d,hd,h2⟩=>exact ⟨h1,d,hd,fun i hi=>h2 i (hm i hi)⟩
theorem vT {a a':Act} {j d:Nat} (hj:bR ops j=some d) (hsz:a'.tmps.size=a.tmps.size) (h:a'.tmps.getD d undef=a.tmps.getD d undef):yielded ops a'.tmps j=yielded ops a.tmps j:=by
 unfold yielded
 unfold bR at hj
 rw [hj]
 simp only [Option.bind_some]
 by_cases hd:d < a.tmps.size
 ·have E9:d < a'.tmps.size:=by omega
  have:a'.tmps[d]?=a.tmps[d]?:=by
   simp only [Array.getD_eq_getD_getElem?,Array.getElem?_eq_getElem hd,Array.getElem?_eq_getElem E9,Option.getD_some] at h
   rw [Array.getElem?_eq_getElem hd,Array.getElem?_eq_getElem E9,h]
  rw [this]
 ·rw [Array.getElem?_eq_none (by omega),Array.getElem?_eq_none (by omega)]
def gg (ops:Array Oper) (l:List (Nat×Bool)) (a a':Act):Prop:=∀ t,(∀ i ∈ l,bR ops i.1≠some t)→a'.tmps.getD t undef=a.tmps.getD t undef
theorem iE.same {ctx:Option (Nat×Bool)} {l m:List (Nat×Bool)} {a a':Act} (h:iE ops ctx l a) (hm:∀ i ∈ m,i ∈ l) (hsz:a'.tmps.size=a.tmps.size) (hs:gg ops m a a'):iE ops ctx l a':=by
 unfold iE at *
 match ctx,h with
 | none,_=>trivial
 | some (j,want),⟨h1,d,hd,h2⟩=>exact ⟨by rw [vT hd hsz (hs d fun i hi=>h2 i (hm i hi))];exact h1,d,hd,h2⟩
theorem Inv.eL {st:St} {a a':Act} {w w':World} {H:Nat→Option Value} {σ:Nat→Option Nat} (h:Inv C w0 F0 nt st a w H σ) (hw:Ext w w') {l:List (Nat×Bool)} (hsz:a'.tmps.size=a.tmps.size) (VK:a'.defers=[]) (hs:gg ops l a a') :
  Inv C w0 F0 nt (st.eL (l.filterMap fun i=>bR ops i.1)) a' w' H σ:=by
 have h1:=h.ext hw
 have key:∀ (ts:List Nat) (Cj:St) (t:Nat),(t ∈ ts→(Cj.eL ts).env t=.dead)∧(t ∉ ts→(Cj.eL ts).env t=Cj.env t)∧(Cj.env t=.dead→(Cj.eL ts).env t=.dead)∧(Cj.eL ts).mem=Cj.mem:=by
  intro ts
  induction ts with
  | nil=>intro Cj t;simp [St.eL]
  | cons u ts ih =>
   intro Cj t
   obtain ⟨i1,i2,i3,i4⟩:=ih (Cj.set u .dead) t
   have e:Cj.eL (u :: ts)=(Cj.set u .dead).eL ts:=rfl
   have rO:(Cj.set u .dead).env t=if t=u then .dead else Cj.env t:=by simp [St.set,aR]
   rw [e]
   refine ⟨fun hm=>?_,fun hm=>?_,fun hd=>i3 ?_,i4⟩
   ·by_cases JY:t ∈ ts
    ·exact i1 JY
    ·rw [i2 JY,rO]
     rcases List.mem_cons.1 hm with h | h
     ·rw [if_pos h]
     ·exact absurd h JY
   ·rw [i2 fun JY=>hm (List.mem_cons_of_mem _ JY),rO,if_neg]
    intro e;exact hm (e ▸ List.mem_cons_self ..)
   ·rw [rO];split
    ·rfl
    ·exact hd
 refine { h1 with defers:=VK,size:=hsz.trans h1.size,env:=fun t=>?_,mem:=?_ }
 ·obtain ⟨k1,k2,_,_⟩:=key (l.filterMap fun i=>bR ops i.1) st t
  by_cases ht:t ∈ l.filterMap fun i=>bR ops i.1
  ·rw [k1 ht];trivial
  ·rw [k2 ht,hs t fun i hi e=>ht (List.mem_filterMap.2 ⟨i,hi,e⟩)]
   exact h1.env t
 ·obtain ⟨_,_,_,k4⟩:=key (l.filterMap fun i=>bR ops i.1) st 0
  rw [k4]
  exact h1.mem
theorem pP {ctx:Option (Nat×Bool)} {d:Nat} {want:Bool}:∀ {l:List (Nat×Bool)} {j8:List (Nat×Bool)} {p:Nat×Bool} {ab:Operand×Operand} {rest:List (Nat×Bool)},
  rI ops ctx d want l=some (j8,p,ab,rest)→l=j8 ++ p :: rest∧closes ctx d want (opAt ops p.1)=some ab
 | [],_,_,_,_,h=>by cases h
 | i :: r,j8,p,ab,rest,h=>by
  simp only [rI] at h
  split at h
  ·rename_i hc
   cases h
   exact ⟨rfl,hc⟩
  ·cases hr:rI ops ctx d want r with
   | none=>rw [hr] at h;cases h
   | some q =>
    obtain ⟨aab,p',ab',rest'⟩:=q
    rw [hr] at h
    cases h
    obtain ⟨h1,h2⟩:=pP hr
    exact ⟨by rw [h1];rfl,h2⟩
theorem mF {C:cU} {li:Bool} {j:Nat} {want:Bool} {d:Nat}:∀ {l:List (Nat×Bool)} {seen:List Nat},hangs C ops li j want d l seen=true →
  (∀ i ∈ l,(li=true→Op.uz C (opAt ops i.1).op=true)∧bR ops i.1≠some d)
 | [],_,_=>by simp
 | i :: r,seen,h=>by
  simp only [hangs,Bool.and_eq_true] at h
  obtain ⟨⟨⟨⟨h1,h2⟩,h3⟩,h4⟩,h5⟩:=h
  intro q hq
  rcases List.mem_cons.1 hq with rfl | hq
  ·refine ⟨fun e=>by rw [e] at h3;simpa using h3,?_⟩
   rw [fC h1]
   intro e
   rw [e] at h4
   simp at h4
  ·exact mF h5 q hq
theorem vU {C:cU} {li:Bool} {E:World→World→Prop} (hE:∀ w,E w w) {j:Nat} {want x:Bool} {d:Nat} (hx:x≠want) (j4:bR ops j=some d):∀ {l:List (Nat×Bool)} {seen:List Nat},hangs C ops li j want d l seen=true →
  ∀ {N:Act→World→Prop} {a:Act} {w:World},yielded ops a.tmps j=some x→(∀ g ∈ seen,yielded ops a.tmps g=none) →
   (∀ a',a'.tmps.size=a.tmps.size→a'.defers=a.defers→gg ops l a a'→N a' w)→nh P ops nc Q E l N a w
 | [],seen,h,N,a,w,hj,hs,hn=>hn a rfl rfl fun _ _=>rfl
 | i :: r,seen,h,N,a,w,hj,hs,hn=>by
  simp only [hangs,Bool.and_eq_true] at h
  obtain ⟨⟨⟨⟨h1,h2⟩,h3⟩,h4⟩,h5⟩:=h
  have hop:=jk h1
  have Yk:Region.wanted (opAt ops i.1) (yielded ops a.tmps)=false:=by
   unfold Region.wanted
   split at h2
   ·rename_i g x' hg
    rw [hg]
    simp only
    rw [Bool.or_eq_true] at h2
    rcases h2 with h2 | h2
    ·rw [Bool.and_eq_true] at h2
     have e1:=Nat.eq_of_beq_eq_true h2.1
     have e2:x'=want:=by simpa using h2.2
     subst e1 e2
     rw [hj]
     simpa using hx
    ·rw [hs g (by simpa using h2)]
     rfl
   ·cases h2
  have hdi:(opAt ops i.1).dst≠some d:=by
   intro e
   rw [e] at h4
   simp at h4
  have N9:∀ g,yielded ops (a.put (opAt ops i.1).dst undef).tmps g=yielded ops a.tmps g∨yielded ops (a.put (opAt ops i.1).dst undef).tmps g=none:=by
   intro g
   cases hg:bR ops g with
   | none=>exact .inr (nH hg)
   | some e =>
    by_cases he:(opAt ops i.1).dst=some e
    ·right
     unfold yielded
     unfold bR at hg
     rw [hg]
     simp only [Option.bind_some,he,Act.put]
     by_cases hlt:e < a.tmps.size
     ·simp [hlt,undef]
     ·simp [hlt]
    ·exact .inl (kD hg he)
  have yD:yielded ops (a.put (opAt ops i.1).dst undef).tmps i.1=none:=by
   cases hg:bR ops i.1 with
   | none=>exact nH hg
   | some e =>
    have he:(opAt ops i.1).dst=some e:=by rw [← fC h1];exact hg
    unfold yielded
    unfold bR at hg
    rw [hg]
    simp only [Option.bind_some,he,Act.put]
    by_cases hlt:e < a.tmps.size
    ·simp [hlt,undef]
    ·simp [hlt]
  have fQ:nh P ops nc Q E r N (a.put (opAt ops i.1).dst undef) w:=by
   refine vU hE hx j4 h5 (by rw [kD j4 hdi];exact hj) (fun g hg=>?_) (fun a' q1 q2 q3=>hn a' (q1.trans (size_put ..)) (q2.trans (Ah ..)) fun t ht=>?_)
   ·rcases List.mem_cons.1 hg with rfl | hg
    ·exact yD
    ·rcases N9 g with e | e
     ·rw [e];exact hs g hg
     ·exact e
   ·rw [q3 t fun i hi=>ht i (List.mem_cons_of_mem _ hi)]
    refine Only.put a _ undef t fun e=>ht i (List.mem_cons_self ..) ?_
    rw [fC h1];exact e
  show fP P ops nc Q E i (nh P ops nc Q E r N) a w
  unfold fP
  split
  ·exact ⟨_,undef,hop,.inr ⟨Yk,rfl⟩,fQ⟩
  ·unfold wpOp
   rw [hop]
   simp only [Yk,Bool.false_eq_true,if_false]
   exact ⟨fun _=>hE w,fQ⟩
end
section
variable {C:cU} {P:Program} {w0:World} {F0:Fs} {nt:Nat} {call:Nat→List AV→Option AV} {f:Nat} {ops:Array Oper} {nc:List Nat} {Q:Exit→Act→World→Prop}
def nI (D:Option (List Nat)):List Nat:=D.getD []
theorem any_beq {s:Nat} {ws:List Nat}:ws.any (Nat.beq s)=true↔s ∈ ws:=by
 rw [List.any_eq_true]
 constructor
 ·rintro ⟨x,hx,he⟩
  rw [Nat.eq_of_beq_eq_true he];exact hx
 ·intro h;exact ⟨s,h,Nat.beq_refl s⟩
theorem Ord.step {D:Option (List Nat)} {σ0:Nat→Option Nat} {st:St} {w w':World} {σ σ':Nat→Option Nat} {o:Oper} {i:Nat} (h:Ord D σ0 σ) (fp:vF C i o false D st=true) (hk:eh C st o σ w w')
  (hσ:∀ s,o.dst≠some s→σ' s=σ s) (FD:(∃ t,o.op=.alloc t)∨(∃ t x,o.op=.box t x)∨σ'=σ):Ord D σ0 σ'∧(Op.calm o.op=true→(nI D).any (Nat.beq (1000000+i))=false→Held D σ0 w w'):=by
 cases D with
 | none=>exact ⟨fun ws e=>(by cases e),fun _ _=>trivial⟩
 | some ws =>
  have dr:∀ s ∈ ws,σ' s=σ0 s:=fun s hs=>by
   rw [← h ws rfl s hs]
   rcases FD with ⟨t,ht⟩ | ⟨t,x,ht⟩ | e
   ·refine hσ s fun hd=>?_
    simp only [vF,ht,hd,cond_false,Bool.not_eq_true'] at fp
    rw [any_beq.2 hs] at fp;cases fp
   ·refine hσ s fun hd=>?_
    simp only [vF,ht,hd,cond_false,Bool.not_eq_true'] at fp
    rw [any_beq.2 hs] at fp;cases fp
   ·rw [e]
  refine ⟨fun ws' e s hs=>by cases e;exact dr s hs,fun eX Q0=>?_⟩
  have ext:Ext w w'→Held (some ws) σ0 w w':=fun hx=>⟨hx.size,fun b hb _=>hx.block b hb⟩
  unfold eh at hk
  cases ho:o.op with
  | store t x y =>
   rw [ho] at hk
   simp only [vF,ho,cond_false] at fp
   simp only at hk
   have Oa:ws.any (Nat.beq (1000000+i))=false:=Q0
   rw [Oa,Bool.false_or] at fp
   split at fp
   ·rename_i s off cK
    rw [cK] at hk
    refine ⟨hk.1,fun b hb hs=>hk.2 b hb ?_⟩
    have hm:=any_beq.1 fp
    rw [h ws rfl s hm]
    exact hs s hm
   ·cases fp
  | call c =>
   rw [ho] at hk
   obtain ⟨ce,ar,Rb⟩:=c
   cases ce with
   | builtin b =>
    cases b <;> first | (rw [ho] at eX;exact ext ((if_pos (show gO ar.toList=true from eX)).mp hk);done) | exact ext hk
   | value x =>
    have oC:if JC C st x=true then True else Ext w w':=hk
    cases hm:JC C st x with
    | false=>rw [hm] at oC;exact ext oC
    | true =>
     exfalso
     simp only [vF,ho,hm,cond_false,Bool.not_true,Bool.false_or] at fp
     have Oa:ws.any (Nat.beq (1000000+i))=false:=Q0
     rw [Oa] at fp;cases fp
   | invoke x n=>exact ext hk
  | convert s t x =>
   rw [ho] at hk eX
   simp only [Op.calm,Bool.not_eq_true'] at eX
   simp only [eX] at hk
   rw [if_neg (by simp)] at hk
   exact ext hk
  | _=>rw [ho] at hk;exact ext hk
theorem gg.sub {l m:List (Nat×Bool)} {a a':Act} (h:gg ops l a a') (hm:∀ i ∈ l,i ∈ m):gg ops m a a':=fun t ht=>h t fun i hi=>ht i (hm i hi)
theorem gg.trans {l:List (Nat×Bool)} {a b c:Act} (h:gg ops l a b) (k:gg ops l b c):gg ops l a c:=fun t ht=>(k t ht).trans (h t ht)
theorem kE {st:St} {a:Act} {w:World} {H:Nat→Option Value} {σ:Nat→Option Nat} {x:Operand} {y:Bool} (h:Inv C w0 F0 nt st a w H σ) (hp:(st.get C x).aX=.b y):a.eval x=.bool y:=by
 rcases (h.get x).aX with e | e
 ·rw [hp] at e;cases e
 ·rw [hp] at e
  generalize a.eval x=V at e
  cases e;rfl
theorem yE {ctx:Option (Nat×Bool)} {d:Nat} {want:Bool} {o:Oper} {A B:Operand} (h:closes ctx d want o=some (A,B)):o.op=.pick (.tmp d) A B∧pC o.guard ctx=true∧∃ v,(bif want then B else A)=.const v:=by
 unfold closes at h
 split at h
 ·rename_i c A' B' hop
  rename_i h0
  cases hb:(Nat.beq c d && pC o.guard ctx && isConst (bif want then B' else A')) with
  | false=>rw [hb] at h;cases h
  | true =>
   rw [hb] at h
   simp only [cond_true,Option.some.injEq,Prod.mk.injEq] at h
   obtain ⟨rfl,rfl⟩:=h
   rw [Bool.and_eq_true,Bool.and_eq_true] at hb
   have:=Nat.eq_of_beq_eq_true hb.1.1
   subst this
   refine ⟨hop,hb.1.2,?_⟩
   have h3:=hb.2
   unfold isConst at h3
   split at h3
   ·rename_i v hv;exact ⟨v,hv⟩
   ·cases h3
 ·cases h
theorem eY (hC:iT C P call) (hT:∀ t i,C.ty t=some i→cr P t i) (bz:∀ (i:Nat) (o:Oper) (t:Nat),ops[i]?=some o→o.dst=some t→t < nt) {D:Option (List Nat)} {σ0:Nat→Option Nat} :
  ∀ (n:Nat) {R:Type} {ctx:Option (Nat×Bool)} {l:List (Nat×Bool)} {st:St} {K:St→Option R} {r:R} {a:Act} {w:World} {H:Nat→Option Value} {σ:Nat→Option Nat} {N:Act→World→Prop},
   cC C call f ops D n ctx l st K=some r→Inv C w0 F0 nt st a w H σ→Ord D σ0 σ→iE ops ctx l a →
   (∀ (a':Act) (w':World) (st':St) (H':Nat→Option Value) (σ':Nat→Option Nat),K st'=some r→Inv C w0 F0 nt st' a' w' H' σ'→Ord D σ0 σ' →
    gg ops l a a'→((∀ i ∈ l,Op.uz C (opAt ops i.1).op=true)→Ext w w')→N a' w') →
   nh P ops (nI D) Q (Held D σ0) l N a w
 | 0,R,ctx,l,st,K,r,a,w,H,σ,N,hK,hI,hO,hc,hn=>by cases hK
 | n+1,R,ctx,[],st,K,r,a,w,H,σ,N,hK,hI,hO,hc,hn=>hn a w st H σ hK hI hO (fun _ _=>rfl) (fun _=>Ext.refl w)
 | n+1,R,ctx,i :: l,st,K,r,a,w,H,σ,N,hK,hI,hO,hc,hn=>by
  simp only [cC] at hK
  cases hlt:Nat.blt i.1 ops.size with
  | false=>rw [hlt] at hK;cases hK
  | true =>
   rw [hlt] at hK
   simp only [Bool.not_true,cond_false] at hK
   have hop:=jk hlt
   cases QE:pC (opAt ops i.1).guard ctx with
   | true =>
    rw [QE] at hK
    simp only [cond_true] at hK
    have hw:=jC QE hc
    cases fp:vF C i.1 (opAt ops i.1) i.2 D st with
    | false=>rw [fp] at hK;cases hK
    | true =>
     rw [fp] at hK
     simp only [cond_true] at hK
     have hd:∀ t,(opAt ops i.1).dst=some t→t < nt:=fun t ht=>bz i.1 _ t hop ht
     have go:∀ (a':Act) (w':World) (st':St) (H':Nat→Option Value) (σ':Nat→Option Nat),cC C call f ops D n ctx l st' K=some r→Inv C w0 F0 nt st' a' w' H' σ' →
       Ord D σ0 σ'→Only (opAt ops i.1).dst a a'→(Op.uz C (opAt ops i.1).op=true→Ext w w')→nh P ops (nI D) Q (Held D σ0) l N a' w':=by
      intro a' w' st' H' σ' hK' hI' Rv Ob hex
      have km:gg ops [i] a a':=fun t ht=>Ob t fun e=>ht i (List.mem_cons_self ..) (by rw [fC hlt];exact e)
      have hsz:a'.tmps.size=a.tmps.size:=hI'.size.trans hI.size.symm
      refine eY hC hT bz n hK' hI' Rv ((hc.same (m:=[i]) (fun q hq=>by simp at hq;subst hq;exact List.mem_cons_self ..) hsz km).sub fun q hq=>List.mem_cons_of_mem _ hq) fun a2 w2 j3 H2 σ2 q1 q2 q3 q4 q5=>?_
      refine hn a2 w2 j3 H2 σ2 q1 q2 q3 ((km.sub fun q hq=>by simp at hq;subst hq;exact List.mem_cons_self ..).trans (q4.sub fun q hq=>List.mem_cons_of_mem _ hq)) fun hl=>?_
      ·exact (hex (hl i (List.mem_cons_self ..))).trans (q5 fun q hq=>hl q (List.mem_cons_of_mem _ hq))
     show fP P ops (nI D) Q (Held D σ0) i (nh P ops (nI D) Q (Held D σ0) l N) a w
     unfold fP
     cases Um:i.2 with
     | true =>
      rw [if_pos rfl]
      rw [Um] at fp
      have hy:C.pure (opAt ops i.1).op=true∧oD C P w0 F0 nt a w σ (fun st=>cC C call f ops D n ctx l st K) r (opAt ops i.1) (Held D σ0 w):=by
       cases D with
       | none=>cases fp
       | some ws =>
        unfold vF at fp
        simp only [cond_true,Bool.and_eq_true] at fp
        obtain ⟨k1,k3⟩:=fp
        refine ⟨k1,?_⟩
        refine oH (ws:=ws) k1 hT hI hd hK (fun w' hw' b hb hs=>hw'.2 b hb fun s hm=>by rw [← hO ws rfl s hm];exact hs s hm) (fun t x s off ho cK hm=>?_)
        ·rw [ho] at k3
         simp only [cK,Bool.not_eq_true'] at k3
         have:=any_beq.2 hm
         rw [k3] at this;cases this
      obtain ⟨k1,v,hv,st',H',hK',hI'⟩:=hy
      refine ⟨_,v,hop,.inl ⟨hw,hv⟩,go _ w st' H' σ hK' hI' hO (Only.put a _ v) (fun _=>Ext.refl w)⟩
     | false =>
      rw [if_neg (by simp)]
      rw [Um] at fp
      unfold wpOp
      rw [hop]
      simp only [hw,if_true]
      left
      cases hp:C.pure (opAt ops i.1).op with
      | true =>
       obtain ⟨v,hv,st',H',hK',hI'⟩:=oH (ws:=[]) hp hT hI hd hK (S:=(· = w)) (rN.self [] σ w) (fun _ _ _ _ _ _=>by simp)
       unfold Oper.wp
       rw [hv w rfl,Oper.upon_value]
       exact ⟨fun _=>Held.refl D σ0 w,go _ w st' H' σ hK' hI' hO (Only.put a _ v) (fun _=>Ext.refl w)⟩
      | false =>
       refine Ke hC hT hI hd hK _ Q fun a' w' st' H' σ' q1 q2 q3 q4 q5=>?_
       obtain ⟨Rv,Rw⟩:=hO.step fp q3 q4.1 q4.2
       refine ⟨fun hc=>(by unfold mD at hc;rw [hop] at hc;simp only [Bool.and_eq_true,Bool.not_eq_true'] at hc;exact Rw hc.1 hc.2),go a' w' st' H' σ' q1 q2 Rv q5 fun hl=>?_⟩
       unfold eh at q3
       split at q3
       ·rename_i ho;rw [ho] at hl;cases hl
       ·rename_i ho;rw [ho] at hl;cases hl
       ·rename_i c _ ho
        rw [ho] at hl
        obtain ⟨ce,ar,Rb⟩:=c
        cases ce with
        | builtin b=>exact q3
        | invoke x m=>exact q3
        | value x =>
         have q3:if JC C st x=true then True else Ext w w':=q3
         cases x with
         | func g =>
          have hl:(C.sig g).isNone=true:=hl
          have:JC C st (.func g)=false:=by
           show (C.sig g).isSome=false
           cases hs:C.sig g with
           | none=>rfl
           | some _=>rw [hs] at hl;cases hl
          rw [this] at q3
          exact q3
         | _=>cases hl
       ·rename_i ho
        rw [ho] at hl
        simp only [Op.uz,Bool.not_eq_true'] at hl
        rw [hl,if_neg (by simp)] at q3
        exact q3
       ·exact q3
   | false =>
    rw [QE] at hK
    simp only [cond_false] at hK
    split at hK
    ·cases hK
    rename_i j want hg
    split at hK
    ·cases hK
    rename_i d j4
    split at hK
    case h_2=>cases hK
    rename_i j8 p A B rest hcut
    obtain ⟨hl,jw⟩:=pP hcut
    obtain ⟨Rx,Yl,cv,hcv⟩:=yE jw
    cases hh:(hangs C ops true j want d j8 [] && Nat.blt p.1 ops.size) with
    | false =>
     rw [hh] at hK
     simp only [cond_false] at hK
     cases Ck:(hangs C ops false j want d j8 [] && Nat.blt p.1 ops.size) with
     | false=>rw [Ck] at hK;cases hK
     | true =>
      rw [Ck] at hK
      simp only [cond_true] at hK
      rw [Bool.and_eq_true] at Ck
      have rV:=jk Ck.2
      have hsp:=mF Ck.1
      have VL:d < nt:=by
       unfold bR at j4
       cases Oc:ops[j]? with
       | none=>rw [Oc] at j4;cases j4
       | some oj=>rw [Oc] at j4;exact bz j oj d Oc j4
      obtain ⟨x,hx,hK⟩:∃ x,(st.env d).aX=.b x∧(if x=want then cC C call f ops D n (some (j,want)) j8 st (fun st=>cC C call f ops D n ctx rest (st.put (opAt ops p.1).dst (st.get C (bif want then A else B))) K)
        else cC C call f ops D n ctx rest ((st.eL (j8.filterMap fun i=>bR ops i.1)).put (opAt ops p.1).dst (st.get C (bif want then B else A))) K)=some r:=by
       unfold Ad ah at hK
       cases want with
       | true =>
        simp only [cond_true] at hK
        split at hK
        ·rename_i x hx
         refine ⟨x,hx,?_⟩
         cases x with
         | true=>rw [if_pos rfl];exact hK
         | false=>rw [if_neg (by simp)];exact hK
        ·cases hK
       | false =>
        simp only [cond_false] at hK
        split at hK
        ·rename_i x hx
         refine ⟨x,hx,?_⟩
         cases x with
         | true=>rw [if_neg (by simp)];exact hK
         | false=>rw [if_pos rfl];exact hK
        ·cases hK
      have pH:a.tmps.getD d undef=.bool x:=kE (x:=.tmp d) hI hx
      have Ry:yielded ops a.tmps j=some x:=by
       have Ag:d < a.tmps.size:=by rw [hI.size];exact VL
       unfold yielded
       unfold bR at j4
       rw [j4]
       simp only [Option.bind_some]
       rw [Array.getElem?_eq_getElem Ag]
       simp only [Array.getD_eq_getD_getElem?,Array.getElem?_eq_getElem Ag,Option.getD_some] at pH
       rw [pH]
      rw [hl]
      rw [rU]
      rw [hl] at hc hn
      have Fa:∀ t,(opAt ops p.1).dst=some t→t < nt:=fun t ht=>bz p.1 _ t rV ht
      have Rz:∀ (a':Act) (w':World) (st':St) (H':Nat→Option Value) (σ':Nat→Option Nat) (Y:Operand),Inv C w0 F0 nt st' a' w' H' σ'→Ord D σ0 σ'→gg ops j8 a a'→((∀ i ∈ j8,Op.uz C (opAt ops i.1).op=true)→Ext w w') →
        cC C call f ops D n ctx rest (st'.put (opAt ops p.1).dst (st'.get C Y)) K=some r→(if x=true then a'.eval A else a'.eval B)=a'.eval Y→nh P ops (nI D) Q (Held D σ0) (p :: rest) N a' w':=by
       intro a' w' st' H' σ' Y hI' Rv hsm dV hK' hval
       have hsz:a'.tmps.size=a.tmps.size:=hI'.size.trans hI.size.symm
       have hdd:a'.tmps.getD d undef=.bool x:=by rw [hsm d fun i hi=>(hsp i hi).2];exact pH
       have Jg:=hc.same (m:=j8) (fun q hq=>List.mem_append_left _ hq) hsz hsm
       have hw:=jC Yl Jg
       have hrun:∀ w1:World,(execOp a'.eval (opAt ops p.1)).run P w1=.ok (.value (a'.eval Y)) w1:=fun w1=>by
        have Od:a'.eval (.tmp d)=.bool x:=hdd
        simp only [execOp,Rx,Od]
        simp [asBool,hval]
       have Rs:Inv C w0 F0 nt (st'.put (opAt ops p.1).dst (st'.get C Y)) (a'.put (opAt ops p.1).dst (a'.eval Y)) w' H' σ':=hI'.put Fa (hI'.get Y)
       have fQ:nh P ops (nI D) Q (Held D σ0) rest N (a'.put (opAt ops p.1).dst (a'.eval Y)) w':=by
        have hs2:gg ops [p] a' (a'.put (opAt ops p.1).dst (a'.eval Y)):=fun t ht=>Only.put a' _ _ t fun e=>ht p (List.mem_cons_self ..) (by rw [fC Ck.2];exact e)
        refine eY hC hT bz n hK' Rs Rv ((Jg.same (m:=[p]) (fun q hq=>by simp at hq;subst hq;exact List.mem_append_right _ (List.mem_cons_self ..)) (size_put ..) hs2).sub fun q hq=>List.mem_append_right _ (List.mem_cons_of_mem _ hq)) fun a2 w2 j3 H2 σ2 q1 q2 q3 q4 q5=>?_
        refine hn a2 w2 j3 H2 σ2 q1 q2 q3 (((hsm.sub fun q hq=>List.mem_append_left _ hq).trans (hs2.sub fun q hq=>by simp at hq;subst hq;exact List.mem_append_right _ (List.mem_cons_self ..))).trans (q4.sub fun q hq=>List.mem_append_right _ (List.mem_cons_of_mem _ hq))) fun hl=>?_
        exact (dV fun q hq=>hl q (List.mem_append_left _ hq)).trans (q5 fun q hq=>hl q (List.mem_append_right _ (List.mem_cons_of_mem _ hq)))
       show fP P ops (nI D) Q (Held D σ0) p (nh P ops (nI D) Q (Held D σ0) rest N) a' w'
       unfold fP
       split
       ·exact ⟨_,_,rV,.inl ⟨hw,fun w1 _=>hrun w1⟩,fQ⟩
       ·unfold wpOp
        rw [rV]
        simp only [hw,if_true]
        left
        unfold Oper.wp
        rw [hrun w',Oper.upon_value]
        exact ⟨fun _=>Held.refl D σ0 w',fQ⟩
      by_cases xY:x=want
      ·subst xY
       rw [if_pos rfl] at hK
       refine eY hC hT bz n hK hI hO ⟨Ry,d,j4,fun q hq=>(hsp q hq).2⟩ fun a2 w2 j3 H2 σ2 q1 q2 q3 q4 q5=>?_
       exact Rz a2 w2 j3 H2 σ2 _ q2 q3 q4 q5 q1 (by cases x <;> rfl)
      ·rw [if_neg xY] at hK
       refine vU (Held.refl D σ0) xY j4 Ck.1 Ry (by simp) fun a2 q1 q2 q3=>?_
       have VM:Inv C w0 F0 nt (st.eL (j8.filterMap fun i=>bR ops i.1)) a2 w H σ:=hI.eL (Ext.refl w) q1 (q2.trans hI.defers) q3
       have hYc:∀ Y,(bif want then B else A)=Y→(∃ v,Y=.const v)→(st.eL (j8.filterMap fun i=>bR ops i.1)).get C Y=st.get C Y:=fun Y _ hv=>by obtain ⟨v,rfl⟩:=hv;rfl
       refine Rz a2 w _ H σ (bif want then B else A) VM hO q3 (fun _=>Ext.refl w) ?_ ?_
       ·rw [hYc _ rfl ⟨cv,hcv⟩];exact hK
       ·cases x <;> cases want <;> first | rfl | exact absurd rfl xY
    | true =>
     rw [hh] at hK
     simp only [cond_true] at hK
     rw [Bool.and_eq_true] at hh
     have rV:=jk hh.2
     obtain ⟨z,hz,hK⟩:=Option.bind_eq_some_iff.1 hK
     have hsp:=mF hh.1
     have VL:d < nt:=by
      unfold bR at j4
      cases Oc:ops[j]? with
      | none=>rw [Oc] at j4;cases j4
      | some oj=>rw [Oc] at j4;exact bz j oj d Oc j4
     obtain ⟨x,hx⟩:∃ x,(st.env d).aX=.b x:=by
      unfold az at hz
      split at hz
      ·rename_i x hx;exact ⟨x,hx⟩
      ·cases hz
     have pH:a.tmps.getD d undef=.bool x:=kE (x:=.tmp d) hI hx
     have Ry:yielded ops a.tmps j=some x:=by
      have Ag:d < a.tmps.size:=by rw [hI.size];exact VL
      unfold yielded
      unfold bR at j4
      rw [j4]
      simp only [Option.bind_some]
      rw [Array.getElem?_eq_getElem Ag]
      simp only [Array.getD_eq_getD_getElem?,Array.getElem?_eq_getElem Ag,Option.getD_some] at pH
      rw [pH]
     rw [hl]
     rw [rU]
     rw [hl] at hc hn
     have hcs:=hc.sub (m:=j8) fun q hq=>List.mem_append_left _ hq
     have Fa:d ∉ (bR ops p.1).toList∨True:=.inr trivial
     have fin:∀ (a':Act) (w':World) (y:Bool),a'.tmps.size=a.tmps.size→a'.defers=[]→gg ops j8 a a'→Ext w w'→z=.b y →
       (if x=true then a'.eval A else a'.eval B)=.bool y→nh P ops (nI D) Q (Held D σ0) (p :: rest) N a' w':=by
      intro a' w' y hsz VK hsm dV hzy hval
      subst hzy
      have VM:Inv C w0 F0 nt (st.eL (j8.filterMap fun i=>bR ops i.1)) a' w' H σ:=hI.eL dV hsz VK hsm
      have hdd:a'.tmps.getD d undef=.bool x:=by rw [hsm d fun i hi=>(hsp i hi).2];exact pH
      have Jg:=hc.same (m:=j8) (fun q hq=>List.mem_append_left _ hq) hsz hsm
      have hw:=jC Yl Jg
      have hrun:∀ w1:World,(execOp a'.eval (opAt ops p.1)).run P w1=.ok (.value (.bool y)) w1:=fun w1=>by
       have Od:a'.eval (.tmp d)=.bool x:=hdd
       simp only [execOp,Rx,Od]
       simp [asBool,hval]
      have Fa:∀ t,(opAt ops p.1).dst=some t→t < nt:=fun t ht=>bz p.1 _ t rV ht
      have Rs:Inv C w0 F0 nt ((st.eL (j8.filterMap fun i=>bR ops i.1)).put (opAt ops p.1).dst (.val (.b y))) (a'.put (opAt ops p.1).dst (.bool y)) w' H σ:=VM.put Fa (Rel.b y)
      have fQ:nh P ops (nI D) Q (Held D σ0) rest N (a'.put (opAt ops p.1).dst (.bool y)) w':=by
       have hs2:gg ops [p] a' (a'.put (opAt ops p.1).dst (.bool y)):=fun t ht=>Only.put a' _ _ t fun e=>ht p (List.mem_cons_self ..) (by rw [fC hh.2];exact e)
       refine eY hC hT bz n hK Rs hO ((Jg.same (m:=[p]) (fun q hq=>by simp at hq;subst hq;exact List.mem_append_right _ (List.mem_cons_self ..)) (size_put ..) hs2).sub fun q hq=>List.mem_append_right _ (List.mem_cons_of_mem _ hq)) fun a2 w2 j3 H2 σ2 q1 q2 q3 q4 q5=>?_
       refine hn a2 w2 j3 H2 σ2 q1 q2 q3 (((hsm.sub fun q hq=>List.mem_append_left _ hq).trans (hs2.sub fun q hq=>by simp at hq;subst hq;exact List.mem_append_right _ (List.mem_cons_self ..))).trans (q4.sub fun q hq=>List.mem_append_right _ (List.mem_cons_of_mem _ hq))) fun hl=>?_
       ·exact dV.trans (q5 fun q hq=>hl q (List.mem_append_right _ (List.mem_cons_of_mem _ hq)))
      show fP P ops (nI D) Q (Held D σ0) p (nh P ops (nI D) Q (Held D σ0) rest N) a' w'
      unfold fP
      split
      ·exact ⟨_,_,rV,.inl ⟨hw,fun w1 _=>hrun w1⟩,fQ⟩
      ·unfold wpOp
       rw [rV]
       simp only [hw,if_true]
       left
       unfold Oper.wp
       rw [hrun w',Oper.upon_value]
       exact ⟨fun _=>Held.refl D σ0 w',fQ⟩
     unfold az at hz
     rw [hx] at hz
     simp only at hz
     by_cases xY:x=want
     ·subst xY
      simp only [BEq.rfl,cond_true] at hz
      split at hz
      ·rename_i y hy
       cases hz
       refine eY hC hT bz n hy hI hO ⟨Ry,d,j4,fun q hq=>(hsp q hq).2⟩ fun a2 w2 j3 H2 σ2 q1 q2 q3 q4 q5=>?_
       refine fin a2 w2 y (q2.size.trans hI.size.symm) q2.defers q4 (q5 fun q hq=>(hsp q hq).1 rfl) rfl ?_
       have:=kE q2 (Option.some.inj q1)
       cases x with
       | true=>simpa using this
       | false=>simpa using this
      ·cases hz
     ·have VN:(x == want)=false:=by simpa using xY
      rw [VN] at hz
      simp only [cond_false] at hz
      split at hz
      ·rename_i y hy
       cases hz
       refine vU (Held.refl D σ0) xY j4 hh.1 Ry (by simp) fun a2 q1 q2 q3=>?_
       refine fin a2 w y q1 (q2.trans hI.defers) q3 (Ext.refl w) rfl ?_
       have:=kE hI hy
       rw [hcv] at this
       cases x with
       | true =>
        have xZ:want=false:=by cases want with
         | true=>exact absurd rfl xY
         | false=>rfl
        subst xZ
        simp only [cond_false] at hcv
        subst hcv
        have hc2:cv=.bool y:=this
        simp [Act.eval,hc2]
       | false =>
        have xZ:want=true:=by cases want with
         | false=>exact absurd rfl xY
         | true=>rfl
        subst xZ
        simp only [cond_true] at hcv
        subst hcv
        have hc2:cv=.bool y:=this
        simp [Act.eval,hc2]
      ·cases hz
theorem lp (hC:iT C P call) (hT:∀ t i,C.ty t=some i→cr P t i) (bz:∀ (i:Nat) (o:Oper) (t:Nat),ops[i]?=some o→o.dst=some t→t < nt) {D:Option (List Nat)} {σ0:Nat→Option Nat} {n:Nat} {R:Type} {K:St→Option R} {r:R} {N:Act→World→Prop}
  (hn:∀ (a':Act) (w':World) (st':St) (H':Nat→Option Value) (σ':Nat→Option Nat),K st'=some r→Inv C w0 F0 nt st' a' w' H' σ'→N a' w') :
  ∀ (T:j5) {st:St} {a:Act} {w:World} {H:Nat→Option Value} {σ:Nat→Option Nat},eU C call f ops D n T st K=some r→Inv C w0 F0 nt st a w H σ→Ord D σ0 σ→ME P ops (nI D) Q (Held D σ0) T N a w
 | .done,st,a,w,H,σ,h,hI,hO=>hn a w st H σ h hI
 | .seq l t,st,a,w,H,σ,h,hI,hO=>eY hC hT bz n h hI hO trivial fun a' w' st' H' σ' q1 q2 q3 _ _=>lp hC hT bz hn t q1 q2 q3
 | .fork i x j y,st,a,w,H,σ,h,hI,hO=>by
  simp only [eU] at h
  have h1:cC C call f ops D n none [(i,false)] st (fun st=>eU C call f ops D n x st K)=some r∧cC C call f ops D n none [(j,false)] st (fun st=>eU C call f ops D n y st K)=some r:=by
   unfold agree at h
   split at h
   ·rename_i e;exact ⟨h,e ▸ h⟩
   ·cases h
  exact ⟨eY hC hT bz n h1.1 hI hO trivial fun a' w' st' H' σ' q1 q2 q3 _ _=>lp hC hT bz hn x q1 q2 q3,
   eY hC hT bz n h1.2 hI hO trivial fun a' w' st' H' σ' q1 q2 q3 _ _=>lp hC hT bz hn y q1 q2 q3⟩
end
section
variable {C:cU} {P:Program} {w0:World} {F0:Fs} {nt:Nat} {st:St} {a:Act} {w:World} {H:Nat→Option Value} {σ:Nat→Option Nat}
def qA (H:Nat→Option Value) (i j:Nat):Nat→Option Value:=fun x=>if x=j then H i else if x=i then none else H x
theorem jl {i j x:Nat} {v:Value} (h:qA H i j x=some v):(x=j∧H i=some v)∨(x≠j∧x≠i∧H x=some v):=by
 unfold qA at h
 split at h
 ·exact .inl ⟨‹_›,h⟩
 ·split at h
  ·cases h
  ·exact .inr ⟨‹_›,‹_›,h⟩
theorem Inv.rn (h:Inv C w0 F0 nt st a w H σ) {i j:Nat} (ui:i≠j) (hj:H j=none):Inv C w0 F0 nt (st.rn i j) a w (qA H i j) σ:=by
 have hF:∀ b,b < w.heap.size→Fr w0.heap.size F0 H σ b→Fr w0.heap.size F0 (qA H i j) σ b∧w.heap[b]?=w.heap[b]?:=fun b _ hf=>⟨⟨hf.1,fun x v hv=>by
  rcases jl hv with ⟨_,hv⟩ | ⟨_,_,hv⟩ <;> exact hf.2.1 _ v hv,hf.2.2⟩,rfl⟩
 have yD:∀ v,H i=some v→qA H i j j=some v:=fun v hv=>by unfold qA;rw [if_pos rfl];exact hv
 have Oe:∀ x v,x≠i→H x=some v→qA H i j x=some v:=fun x v hx hv=>by
  unfold qA
  rw [if_neg (fun e=>by rw [e,hj] at hv;cases hv),if_neg hx]
  exact hv
 have hc:∀ c y,bj w (Fr w0.heap.size F0 H σ) H σ c y→bj w (Fr w0.heap.size F0 (qA H i j) σ) (qA H i j) σ (c.rn i j) y:=by
  intro c y hy
  cases c with
  | dead=>exact hy
  | val v=>exact ⟨hy.1,hy.2.mono hF⟩
  | ptr s o=>exact hy
  | eI g ss=>exact hy
  | own x e k l =>
   simp only [Cell.rn,aR]
   by_cases hx:x=i
   ·subst hx;rw [if_pos rfl];exact ⟨yD y hy.1,hy.2.mono hF fun _ _=>rfl⟩
   ·rw [if_neg hx];exact ⟨Oe x y hx hy.1,hy.2.mono hF fun _ _=>rfl⟩
 have he:∀ e y,bS w (Fr w0.heap.size F0 H σ) H σ e y→bS w (Fr w0.heap.size F0 (qA H i j) σ) (qA H i j) σ (e.rn i j) y:=by
  intro e y hy
  cases e with
  | cell c=>cases c with
   | dead=>trivial
   | val v=>exact Rel.mono hF hy
   | own x e k l =>
    have:=hc (.own x e k l) y hy
    simp only [aY.rn,Cell.rn,aR] at this ⊢
    split
    ·rename_i hx;rw [if_pos hx] at this;exact this
    ·rename_i hx;rw [if_neg hx] at this;exact this
   | ptr s o=>exact hy
   | eI g ss=>exact hy
  | agg cs =>
   obtain ⟨vs,rfl,hl,hv⟩:=hy
   refine ⟨vs,rfl,by simpa using hl,fun j' c v h1 h2=>?_⟩
   rw [List.getElem?_map] at h1
   cases hc0:cs[j']? with
   | none=>rw [hc0] at h1;cases h1
   | some c0 =>
    rw [hc0] at h1
    simp only [Option.map_some,Option.some.injEq] at h1
    subst h1
    exact hc c0 v (hv j' c0 v hc0 h2)
  | jZ k e off =>
   obtain ⟨b,o,rfl,a2,a3,a4⟩:=hy
   refine ⟨b,o,rfl,(hF b a3 a2).1,a3,fun q hq=>?_⟩
   obtain ⟨v,c1,c2,c3⟩:=a4 q hq
   exact ⟨v,c1,c2,c3.mono hF⟩
  | iw x e k l n off =>
   obtain ⟨g,m,cap,a1,a2,a3,rfl⟩:=hy
   simp only [aY.rn,aR]
   by_cases hx:x=i
   ·subst hx;rw [if_pos rfl];exact ⟨g,m,cap,yD _ a1,a2.mono hF (fun _ _=>rfl),a3,rfl⟩
   ·rw [if_neg hx];exact ⟨g,m,cap,Oe x _ hx a1,a2.mono hF (fun _ _=>rfl),a3,rfl⟩
  | ot rr ks =>
   obtain ⟨vs,rfl,hl,hv⟩:=hy
   refine ⟨vs,rfl,by simpa using hl,fun q o v h1 h2=>?_⟩
   rw [List.getElem?_map] at h1
   cases ho:ks[q]? with
   | none=>rw [ho] at h1;cases h1
   | some o' =>
    rw [ho] at h1
    have h3:=hv q o' v ho h2
    simp only [Option.map_some,Option.some.injEq] at h1
    subst h1
    match o',h3 with
    | none,_=>trivial
    | some none,h3=>exact Rel.mono hF h3
    | some (some (x,e,k)),h3 =>
     simp only [aR]
     by_cases hx:x=i
     ·subst hx;rw [if_pos rfl];exact ⟨yD v h3.1,h3.2.mono hF fun _ _=>rfl⟩
     ·rw [if_neg hx];exact ⟨Oe x v hx h3.1,h3.2.mono hF fun _ _=>rfl⟩
 refine { h with env:=fun t=>he _ _ (h.env t),mem:=fun s cs hcs=>?_,hown:=fun x v g hx hv=>?_,hh:=?_,hs:=fun x s v r hx hs=>?_,glob:=fun g k e hg=>he (.jZ k e 0) _ (h.glob g k e hg) }
 ·simp only [St.rn,St.map,Option.map_eq_some_iff] at hcs
  obtain ⟨cs0,h0,rfl⟩:=hcs
  obtain ⟨r,us,e',h1,h2,h3,h4⟩:=h.mem s cs0 h0
  refine ⟨r,us,e',h1,h2,by simpa using h3,fun q c v hc' hv=>?_⟩
  rw [List.getElem?_map] at hc'
  cases hc0:cs0[q]? with
  | none=>rw [hc0] at hc';cases hc'
  | some c0 =>
   rw [hc0] at hc'
   simp only [Option.map_some,Option.some.injEq] at hc'
   subst hc'
   exact hc c0 v (h4 q c0 v hc0 hv)
 ·rcases jl hx with ⟨_,hx⟩ | ⟨_,_,hx⟩ <;> exact h.hown _ v g hx hv
 ·intro x y u v g hne hx hy
  rcases jl hx with ⟨a0,lQ⟩ | ⟨a1,a2,lQ⟩ <;> rcases jl hy with ⟨b0,hy'⟩ | ⟨b1,b2,hy'⟩
  ·exact absurd (a0.trans b0.symm) hne
  ·exact h.hh i y u v g (Ne.symm b2) lQ hy'
  ·exact h.hh x i u v g a2 lQ hy'
  ·exact h.hh x y u v g hne lQ hy'
 ·rcases jl hx with ⟨_,hx⟩ | ⟨_,_,hx⟩ <;> exact h.hs _ s v r hx hs
theorem Inv.ov (h:Inv C w0 F0 nt st a w H σ) (p:Nat×Option (Nat×Nat)):∃ H',Inv C w0 F0 nt (st.ov p) a w H' σ:=by
 unfold St.ov
 split
 ·rename_i e k hp
  split
  ·rename_i id e' k' l cK
   cases hb:(Nat.beq e e' && Nat.beq k k') with
   | false=>exact ⟨H,h.dead p.1⟩
   | true =>
    simp only [cond_true,aR]
    by_cases hid:id=300000+p.1
    ·rw [if_pos hid];exact ⟨H,h⟩
    ·rw [if_neg hid]
     exact ⟨_,(h.kl (300000+p.1)).rn hid (by unfold Sx.erase;simp)⟩
  ·rename_i cK
   cases hk:Nat.blt 0 k with
   | false=>exact ⟨H,h.dead p.1⟩
   | true =>
    simp only [cond_true]
    have pD:0 < k:=by unfold Nat.blt at hk;exact Nat.le_of_ble_eq_true hk
    have hv:=h.env p.1
    rw [cK] at hv
    have hv':a.tmps.getD p.1 undef=.slice none 0 0:=by
     generalize a.tmps.getD p.1 undef=V at hv
     cases hv;rfl
    have h2:=h.oz (300000+p.1) (300000+p.1) none (w':=w) (x:=.slice none 0 0) rfl rfl rfl (Nat.le_refl _) (fun _ _ _=>rfl) (fun g hg=>by cases hg) (fun g hg=>by cases hg)
    have uj:=uA st (300000+p.1)
    rw [uj] at h2
    refine ⟨_,h2.Fv (t:=p.1) ?_⟩
    rw [hv']
    exact ⟨by unfold upd;simp,pD,[],World.ownsRow_nil w 0 _ _,by simp,fun i j v hi=>by simp at hi⟩
  ·exact ⟨H,h.dead p.1⟩
 ·exact ⟨H,h⟩
theorem Inv.ow (h:Inv C w0 F0 nt st a w H σ) (s:Nat) (p:Nat×Nat×Nat):∃ H',Inv C w0 F0 nt (st.ow s p) a w H' σ:=by
 unfold St.ow
 split
 ·rename_i cs hcs
  cases Nat.beq p.2.2 0 with
  | true =>
   simp only [cond_true]
   split
   ·exact ⟨_,h.fz _⟩
   ·exact ⟨H,h⟩
  | false =>
  simp only [cond_false]
  split
  ·rename_i id e' k' l hc
   ·cases hb:(Nat.beq p.2.1 e' && Nat.beq p.2.2 k') with
    | false=>exact ⟨H,h⟩
    | true =>
     simp only [cond_true,aR]
     by_cases hid:id=cz s p.1
     ·rw [if_pos hid];exact ⟨H,h⟩
     ·rw [if_neg hid]
      exact ⟨_,(h.kl (cz s p.1)).rn hid (by unfold Sx.erase;simp)⟩
  ·rename_i hc
   cases hk:Nat.blt 0 p.2.2 with
   | false=>exact ⟨H,h⟩
   | true =>
    simp only [cond_true]
    have pD:0 < p.2.2:=by unfold Nat.blt at hk;exact Nat.le_of_ble_eq_true hk
    obtain ⟨r,us,e,h1,h2,h3,h4⟩:=h.mem s cs hcs
    have hj:p.1 < us.length:=by rw [h3];exact (List.getElem?_eq_some_iff.1 hc).1
    have hv:=h4 p.1 _ us[p.1] hc (List.getElem?_eq_getElem hj)
    have hv':us[p.1]=.slice none 0 0:=by
     have:=hv.2
     generalize us[p.1]=V at this
     cases this;rfl
    have g:=h.oz (cz s p.1) (cz s p.1) none (w':=w) (x:=.slice none 0 0) rfl rfl rfl (Nat.le_refl _) (fun _ _ _=>rfl) (fun g hg=>by cases hg) (fun g hg=>by cases hg)
    rw [uA st (cz s p.1)] at g
    refine ⟨_,{ g with mem:=fun s' cs' yF=>?_ }⟩
    simp only [St.ek,aR] at yF
    split at yF
    ·rename_i hs
     subst hs
     cases yF
     obtain ⟨r',Rk,e'',g1,g2,g3,g4⟩:=g.mem s' (cs.map (Cell.kl (cz s' p.1))) (by simp [St.kl,St.map,hcs])
     rw [h1] at g1;cases g1
     rw [h2] at g2
     have he:us=Rk:=by have:=Option.some.inj g2;simp at this;exact this.1
     subst he
     refine ⟨r,us,e,h1,h2,by simpa using g3,fun j c v jv Ri=>?_⟩
     rw [List.getElem?_set] at jv
     split at jv
     ·rename_i hj'
      subst hj'
      simp at jv
      obtain ⟨_,rfl⟩:=jv
      rw [List.getElem?_eq_getElem hj,hv'] at Ri
      cases Ri
      exact ⟨by unfold upd;simp,pD,[],World.ownsRow_nil w 0 _ _,by simp,fun i j v hi=>by simp at hi⟩
     ·exact g4 j c v jv Ri
    ·exact g.mem s' cs' yF
  ·exact ⟨H,h⟩
 ·exact ⟨H,h⟩
theorem Inv.mj (h:Inv C w0 F0 nt st a w H σ) (live:List (Nat×Option (Nat×Nat))) (sites:List (Nat×List (Nat×Nat×Nat))):∃ H',Inv C w0 F0 nt (st.mj live sites) a w H' σ:=by
 have fold:∀ {α:Type} (f:St→α→St),(∀ (p:α) (st:St) (H:Nat→Option Value),Inv C w0 F0 nt st a w H σ→∃ H',Inv C w0 F0 nt (f st p) a w H' σ) →
   ∀ (l:List α) (st:St) (H:Nat→Option Value),Inv C w0 F0 nt st a w H σ→∃ H',Inv C w0 F0 nt (l.foldl f st) a w H' σ:=by
  intro α f hf l
  induction l with
  | nil=>exact fun st H h=>⟨H,h⟩
  | cons p l ih =>
   intro st H h
   obtain ⟨H',h'⟩:=hf p st H h
   exact ih _ _ h'
 obtain ⟨H1,h1⟩:=fold St.ov (fun p st H h=>h.ov p) live st H h
 exact fold St.Fo (fun q st H h=>fold (St.ow q.1) (fun p st H h=>h.ow q.1 p) q.2 st H h) sites _ H1 h1
theorem Inv.canon (h:Inv C w0 F0 nt st a w H σ) (live:List (Nat×Option (Nat×Nat))) (sites:List (Nat×List (Nat×Nat×Nat))):∃ H',Inv C w0 F0 nt (st.canon live sites) a w H' σ:=by
 obtain ⟨H',h'⟩:=h.mj live sites
 refine ⟨H',{ h' with env:=fun t=>?_,mem:=fun s cs hcs=>?_ }⟩
 ·show bS _ _ _ _ (match (live.map fun p=>(p.1,(st.mj live sites).env p.1)).find? (fun p=>Nat.beq p.1 t) with | some p=>p.2 | none=>.dead) _
  split
  ·rename_i p hp
   have h1:=List.mem_of_find?_eq_some hp
   have h2:=List.find?_some hp
   obtain ⟨q,hq,rfl⟩:=List.mem_map.1 h1
   have:=Nat.eq_of_beq_eq_true h2
   simp only at this
   subst this
   exact h'.env q.1
  ·trivial
 ·have yF:(match (sites.map fun s=>(s.1,(st.mj live sites).mem s.1)).find? (fun p=>Nat.beq p.1 s) with | some p=>p.2 | none=>none)=some cs:=hcs
  split at yF
  ·rename_i p hp
   have h1:=List.mem_of_find?_eq_some hp
   have h2:=List.find?_some hp
   obtain ⟨q,hq,rfl⟩:=List.mem_map.1 h1
   have:=Nat.eq_of_beq_eq_true h2
   simp only at this
   subst this
   exact h'.mem q.1 cs yF
  ·cases yF
end
section
variable {C:cU} {P:Program} {w0:World} {F0:Fs} {nt:Nat} {st:St} {a:Act} {w:World} {H:Nat→Option Value} {σ:Nat→Option Nat}
theorem Ee {es:List aY}:∀ {ks:List (Option (Nat×Nat))} {K:List AV→Option AV} {r:AV},D5 ks es K=some r →
  ∃ rs,K rs=some r∧rs.length=es.length∧∀ (j:Nat) (e:aY),es[j]?=some e→∃ v,j9 (ks[j]?.getD none) e=some v∧rs[j]?=some v:=by
 induction es with
 | nil=>intro ks K r h;cases ks <;> exact ⟨[],h,rfl,fun j e he=>by simp at he⟩
 | cons e es ih =>
  intro ks K r h
  cases ks with
  | nil =>
   simp only [D5] at h
   obtain ⟨v,hv,h⟩:=Option.bind_eq_some_iff.1 h
   obtain ⟨rs,h1,h2,h3⟩:=ih h
   refine ⟨v :: rs,h1,by simp [h2],fun j e' he=>?_⟩
   cases j with
   | zero=>simp at he;subst he;exact ⟨v,hv,rfl⟩
   | succ j=>obtain ⟨u,q1,q2⟩:=h3 j e' (by simpa using he);exact ⟨u,by simpa using q1,by simpa using q2⟩
  | cons o ks =>
   simp only [D5] at h
   obtain ⟨v,hv,h⟩:=Option.bind_eq_some_iff.1 h
   obtain ⟨rs,h1,h2,h3⟩:=ih h
   refine ⟨v :: rs,h1,by simp [h2],fun j e' he=>?_⟩
   cases j with
   | zero=>simp at he;subst he;exact ⟨v,hv,rfl⟩
   | succ j=>obtain ⟨u,q1,q2⟩:=h3 j e' (by simpa using he);exact ⟨u,by simpa using q1,by simpa using q2⟩
theorem rW {es:List aY}:∀ {ks:List (Option (Nat×Nat))} {j i:Nat} {e:aY} {p:Nat×Nat},es[j]?=some e→ks[j]?=some (some p)→i ∈ e.ids→i ∈ kf ks es:=by
 induction es with
 | nil=>intro ks j i e p h;simp at h
 | cons e0 es ih =>
  intro ks j i e p he hk hi
  cases ks with
  | nil=>simp at hk
  | cons o ks =>
   cases j with
   | zero =>
    simp at he hk
    subst he hk
    exact List.mem_append_left _ hi
   | succ j =>
    have:=ih (by simpa using he) (by simpa using hk) hi
    cases o with
    | none=>exact this
    | some q=>exact List.mem_append_right _ this
theorem Au {es:List aY}:∀ {ks:List (Option (Nat×Nat))} {j i:Nat} {e:aY},es[j]?=some e→ks[j]?.getD none=none→i ∈ e.ids→i ∈ kg ks es:=by
 induction es with
 | nil=>intro ks j i e h;simp at h
 | cons e0 es ih =>
  intro ks j i e he hk hi
  cases ks with
  | nil =>
   cases j with
   | zero=>simp at he;subst he;exact List.mem_append_left _ hi
   | succ j=>exact List.mem_append_right _ (ih (ks:=[]) (by simpa using he) (by simp) hi)
  | cons o ks =>
   cases j with
   | zero =>
    simp at he hk
    subst he hk
    exact List.mem_append_left _ hi
   | succ j =>
    have:=ih (by simpa using he) (by simpa using hk) hi
    cases o with
    | none=>exact List.mem_append_right _ this
    | some q=>exact this
theorem uJ {l m:List Nat} (h:nodup (l ++ m)=true):nodup m=true∧∀ x ∈ l,x ∉ m:=by
 induction l with
 | nil=>exact ⟨h,by simp⟩
 | cons x l ih =>
  simp only [List.cons_append,nodup,Bool.and_eq_true] at h
  obtain ⟨h1,h2⟩:=ih h.2
  refine ⟨h1,fun y hy=>?_⟩
  rcases List.mem_cons.1 hy with rfl | hy
  ·intro hm
   have:=h.1
   simp only [Bool.not_eq_true',List.any_eq_false] at this
   exact this y (List.mem_append_right _ hm) (Nat.beq_refl y)
  ·exact h2 y hy
theorem uK {es:List aY}:∀ {ks:List (Option (Nat×Nat))} {j j' i i':Nat} {e e':aY} {p p':Nat×Nat},nodup (kf ks es)=true→j < j'→es[j]?=some e→ks[j]?=some (some p)→es[j']?=some e'→ks[j']?=some (some p') →
  i ∈ e.ids→i' ∈ e'.ids→i≠i':=by
 induction es with
 | nil=>intro ks j j' i i' e e' p p' _ _ h;simp at h
 | cons e0 es ih =>
  intro ks j j' i i' e e' p p' hn hlt he hk MD oC hi hi'
  cases ks with
  | nil=>simp at hk
  | cons o ks =>
   cases j' with
   | zero=>omega
   | succ j' =>
    cases j with
    | zero =>
     simp at he hk
     subst he hk
     have h1:=(uJ hn).2 i hi
     intro e
     exact h1 (e ▸ rW (by simpa using MD) (by simpa using oC) hi')
    | succ j =>
     refine ih (ks:=ks) (j:=j) (j':=j') ?_ (by omega) (by simpa using he) (by simpa using hk) (by simpa using MD) (by simpa using oC) hi hi'
     cases o with
     | none=>exact hn
     | some q=>exact (uJ hn).1
theorem pQ {o:Option (Nat×Nat)} {e:aY} {v:AV} (h:j9 o e=some v):e.told=true:=by
 unfold j9 at h
 split at h
 ·split at h
  ·rfl
  ·rfl
  ·cases h
 ·cases ht:e.told with
  | true=>rfl
  | false=>rw [ht] at h;cases h
theorem Ef (hT:∀ t i,C.ty t=some i→cr P t i) (h:Inv C w0 F0 nt st a w H σ) {f:Nat} {fn:Func} {r:AV} (hf:finish C f fn st=some r) :
  ∃ v,(results fn a.tmps).run P w=.ok v w∧((∀ b,¬ F0.gj b)→eV (C.own f) w0 w F0.rd r v):=by
 unfold finish at hf
 simp only at hf
 generalize hes:fn.results.toList.map (dp C st)=es at hf
 generalize C.own f=ks at hf ⊢
 cases hb:((ks.all Option.isNone || Nat.beq ks.length es.length) && nodup (kf ks es) && (kf ks es).all (fun i=>!((kg ks es).any fun j=>Nat.beq i j))) with
 | false=>rw [hb] at hf;cases hf
 | true =>
  rw [hb] at hf
  simp only [cond_true] at hf
  rw [Bool.and_eq_true,Bool.and_eq_true] at hb
  obtain ⟨⟨hb1,hb2⟩,hb3⟩:=hb
  obtain ⟨rs,hr,QF,yG⟩:=Ee hf
  simp only [Option.some.injEq] at hr
  obtain ⟨vs,hvl,hrun,hrel⟩:=mA hT h fn (fun rv hm=>by
   obtain ⟨j,hj⟩:=List.getElem?_of_mem hm
   obtain ⟨v,hv,_⟩:=yG j (dp C st rv) (by rw [← hes,List.getElem?_map,hj];rfl)
   exact pQ hv)
  rw [hes] at hrel
  have oG:vs.length=es.length:=by rw [hvl,← hes];simp
  refine ⟨uk vs,hrun,fun Cl=>?_⟩
  obtain ⟨H',h',kn,kp,yw⟩:=h.vM (kg ks es)
  have hval:∀ (j:Nat) (e:aY) (x:Value) (v:AV),es[j]?=some e→vs[j]?=some x→ks[j]?.getD none=none→j9 (ks[j]?.getD none) e=some v→Rel w (Fr w0.heap.size F0 H' σ) v x:=by
   intro j e x v he hx hk hv
   rw [hk] at hv
   have ht:=pQ hv
   simp only [j9,ht,cond_true,Option.some.injEq] at hv
   subst hv
   exact dy (kn _ _ (hrel j e x he hx)) ht fun i hi=>Au he hk hi
  have oI:∀ (F:Nat→Prop),(∀ (j:Nat) (x:Value) (v:AV),vs[j]?=some x→rs[j]?=some v→Rel w F v x)→Rel w F r (uk vs):=by
   intro F hF
   rw [← hr]
   have hl:rs.length=vs.length:=by rw [QF,oG]
   match rs,vs,hl with
   | [],[],_=>exact .tu [] [] rfl (fun j v hv=>by simp at hv)
   | [v],[x],_=>exact hF 0 x v rfl rfl
   | v :: v' :: rs,x :: x' :: vs,hl =>
    refine .tu (v :: v' :: rs) (x :: x' :: vs) hl fun j u hu=>?_
    have hj:j < (v :: v' :: rs).length:=by rw [hl];exact (List.getElem?_eq_some_iff.1 hu).1
    have:=hF j u _ hu (List.getElem?_eq_getElem hj)
    rw [List.getD_eq_getElem?_getD,List.getElem?_eq_getElem hj]
    exact this
  have qy:∀ (j:Nat) (x:Value),vs[j]?=some x→∃ e,es[j]?=some e:=fun j x hx=>by
   have:j < es.length:=by rw [← oG];exact (List.getElem?_eq_some_iff.1 hx).1
   exact ⟨_,List.getElem?_eq_getElem this⟩
  unfold eV
  cases hall:ks.all Option.isNone with
  | true =>
   rw [if_pos rfl]
   refine Rel.mono (F:=Fr w0.heap.size F0 H' σ) (fun b hb hF=>⟨fun hlt=>(hF.1 hlt).resolve_right (Cl b),rfl⟩) (oI _ fun j x v hx hv=>?_)
   obtain ⟨e,he⟩:=qy j x hx
   obtain ⟨v',uE,hv2⟩:=yG j e he
   have:v'=v:=by rw [hv2] at hv;exact Option.some.inj hv
   subst this
   refine hval j e x v' he hx ?_ uE
   cases hk:ks[j]? with
   | none=>rfl
   | some o =>
    have:=List.all_eq_true.1 hall o (List.mem_of_getElem? hk)
    cases o with
    | none=>rfl
    | some p=>cases this
  | false =>
   rw [if_neg (by simp)]
   rw [hall,Bool.false_or] at hb1
   have hkl:=Nat.eq_of_beq_eq_true hb1
   have hown:∀ (j:Nat) (x:Value) (e k:Nat) (v:AV),vs[j]?=some x→ks[j]?=some (some (e,k))→rs[j]?=some v →
     (x.ownBlock=none∧v.elems=[]∧0 < k∧x=.slice none 0 0)∨∃ id,(∃ en,es[j]?=some en∧id ∈ en.ids)∧H id=some x∧ba w (Fr w0.heap.size F0 H σ) e k v.elems x:=by
    intro j x e k v hx hk hv
    obtain ⟨en,he⟩:=qy j x hx
    obtain ⟨v',uE,hv2⟩:=yG j en he
    have:v'=v:=by rw [hv2] at hv;exact Option.some.inj hv
    subst this
    have Rt:=hrel j en x he hx
    rw [hk] at uE
    simp only [Option.getD_some,j9] at uE
    split at uE
    ·rename_i id y' k' l
     cases lg:(Nat.beq e y' && Nat.beq k k') with
     | false=>rw [lg] at uE;cases uE
     | true =>
      rw [lg] at uE
      simp only [cond_true,Option.some.injEq] at uE
      subst uE
      rw [Bool.and_eq_true] at lg
      have e1:=Nat.eq_of_beq_eq_true lg.1
      have e2:=Nat.eq_of_beq_eq_true lg.2
      subst e1 e2
      exact .inr ⟨id,⟨_,he,by simp [aY.ids,Cell.ids]⟩,Rt.1,Rt.2⟩
    ·cases pD:Nat.blt 0 k with
     | false=>rw [pD] at uE;cases uE
     | true =>
      rw [pD] at uE
      simp only [cond_true,Option.some.injEq] at uE
      subst uE
      have hx0:x=.slice none 0 0:=by
       have VO:Rel w _ .aG x:=Rt
       cases VO;rfl
      subst hx0
      exact .inl ⟨rfl,rfl,by unfold Nat.blt at pD;exact Nat.le_of_ble_eq_true pD,rfl⟩
    ·cases uE
   have RA:∀ (j:Nat) (x:Value),vs[j]?=some x→∃ v,rs[j]?=some v∧mr vs.length r j=v:=by
    intro j x hx
    have hj:j < vs.length:=(List.getElem?_eq_some_iff.1 hx).1
    have Jh:j < rs.length:=by rw [QF,← oG];exact hj
    refine ⟨rs[j],List.getElem?_eq_getElem Jh,?_⟩
    have hl:rs.length=vs.length:=by rw [QF,oG]
    unfold mr
    rw [← hr]
    by_cases h1:vs.length=1
    ·rw [if_pos h1]
     match rs,hl.trans h1,Jh with
     | [v],_,Jh =>
      have:j=0:=by simpa using Jh
      subst this
      rfl
    ·rw [if_neg h1]
     match rs,hl,Jh with
     | [],_,Jh=>simp at Jh
     | [v],hl,_=>simp at hl;omega
     | v :: v' :: rs,_,Jh =>
      show (v :: v' :: rs).getD j .un=_
      rw [List.getD_eq_getElem?_getD,List.getElem?_eq_getElem Jh]
      rfl
   refine ⟨vs,by rw [oG,hkl],rfl,fun j x o hx ho=>?_,fun i j x y p q g ui hx hy hi hj hg=>?_⟩
   ·obtain ⟨v,hv,hcv⟩:=RA j x hx
    rw [hcv]
    cases o with
    | some p =>
     obtain ⟨e,k⟩:=p
     simp only
     rcases hown j x e k v hx ho hv with ⟨_,h2,h3,rfl⟩ | ⟨id,_,h2,h3⟩
     ·rw [h2]
      exact ⟨⟨h3,[],World.ownsRow_nil w 0 _ _,by simp,fun i j v hi=>by simp at hi⟩,fun g hg=>by cases hg⟩
     ·refine ⟨h3.mono (fun b hb hF=>⟨⟨fun hlt=>(hF.1 hlt).resolve_right (Cl b),fun i y p hy hp e=>?_⟩,rfl⟩) (fun _ _=>rfl),fun g hg=>((h.hown id x g h2 hg).1).resolve_right (Cl g)⟩
      obtain ⟨v',hv',_⟩:=RA i y hy
      rcases hown i y p.1 p.2 v' hy hp hv' with ⟨h5,_⟩ | ⟨gT,_,h5,_⟩
      ·rw [h5] at e;cases e
      ·exact hF.2.1 gT y h5 e
    | none =>
     simp only
     obtain ⟨e,he⟩:=qy j x hx
     obtain ⟨v',uE,hv2⟩:=yG j e he
     have:v'=v:=by rw [hv2] at hv;exact Option.some.inj hv
     subst this
     refine (hval j e x v' he hx (by rw [ho];rfl) uE).mono fun b hb hF=>⟨⟨fun hlt=>(hF.1 hlt).resolve_right (Cl b),fun i y p hy hp eb=>?_⟩,rfl⟩
     obtain ⟨v2,hv',_⟩:=RA i y hy
     rcases hown i y p.1 p.2 v2 hy hp hv' with ⟨h5,_⟩ | ⟨gT,⟨en,hen,hid⟩,h5,_⟩
     ·rw [h5] at eb;cases eb
     ·have hm:=rW hen hp hid
      have hnv:gT ∉ kg ks es:=fun Og=>by
       have:=List.all_eq_true.1 hb3 gT hm
       simp only [Bool.not_eq_true',List.any_eq_false] at this
       exact this gT Og (Nat.beq_refl gT)
      exact hF.2.1 gT y (yw gT y hnv h5) eb
   ·obtain ⟨v,hv,_⟩:=RA i x hx
    obtain ⟨v',hv',_⟩:=RA j y hy
    rcases hown i x p.1 p.2 v hx hi hv with ⟨h5,_⟩ | ⟨id,⟨en,hen,hid⟩,h5,_⟩
    ·rw [h5] at hg;cases hg
    ·rcases hown j y q.1 q.2 v' hy hj hv' with ⟨h6,_⟩ | ⟨gT,⟨en',hen',J6⟩,h6,_⟩
     ·rw [h6];simp
     ·have hne:id≠gT:=by
       rcases Nat.lt_or_gt_of_ne ui with hlt | uB
       ·exact uK hb2 hlt hen hi hen' hj hid J6
       ·exact fun e=>uK hb2 uB hen' hj hen hi J6 hid e.symm
      exact h.hh id gT x y g hne h5 h6 hg
end
end Sx
end
