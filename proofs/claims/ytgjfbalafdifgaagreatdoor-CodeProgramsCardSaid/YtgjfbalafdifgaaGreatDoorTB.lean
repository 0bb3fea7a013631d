/-
  A part of CodePrograms's proof.
-/
import Derived.Test.YtgjfbalafdifgaaGreatDoorTA
import Derived.Lib.ConvBytes
import Derived.Great.BuildSlice
set_option linter.unusedVariables false
set_option linter.unusedSimpArgs false
set_option linter.unusedSectionVars false
set_option linter.unnecessarySimpa false
open _root_ renaming Array→bF,Bool→ay,List→ai,Nat→ax,Option→ak,cond_false→bB,cond_true→aN,congrArg→bA,decide_eq_true_eq→aG,if_neg→aI,if_pos→aJ,if_true→aO
open Array renaming getElem?_modify→iV,toArray_toList→bO
open Bool renaming false→af,false_or→eu,not_true→df,true→aj
open Function renaming comp_def→iP
open Go.Deferred renaming ofValue→jm
open Go.Instr renaming fill→iF
open Go.Oper renaming upon_enter→iD,upon_value→eT
open Go renaming Program→bn,Value→aC,World→az
open Go.Region renaming free_spec→jA,noSelect→eQ
open Go.World renaming cell?_of_block→aD,freeze→iI,ownsRow_lit→jy,ownsRow_nil→bW
open List renaming any_eq_false→bV,find?_some→fV,foldl_cons→dX,getD_eq_getElem?_getD→aK,getElem?_append_left→aX,getElem?_append_right→aS,getElem?_map→aM,getElem?_of_mem→eX,getElem?_take→bJ,length_append→au,length_eq_one_iff→eD,length_map→aP,length_set→dI,length_take→dV,mem_flatMap→eP,mem_of_find?_eq_some→iC,mem_of_getElem?→aV,replicate→dE
open Nat renaming add_mul→dC,beq_refl→dw,ble→bL,ble_eq_true_of_le→jb,blt→bI,eq_of_beq_eq_true→aF,le_of_ble_eq_true→aU,lt_of_lt_of_le→aZ,mul_le_mul_right→bE
open Option renaming bind_eq_some_iff→aR,map_some→aY,none→ah,some→aa
namespace Sx
open Go Go.RowKit Go.Lib
def RR (w:az) (F:ax→Prop) (k:ax) (l:ai AV) (xs:ai aC):Prop :=
 xs.length=l.length * k∧(∀ v ∈ xs,v.oneCell'=aj)∧∀ i j v,i < l.length→j < k→xs[i * k+j]?=aa v→Rel w F ((l.getD i .un).cell j) v
theorem RR.mono {w w':az} {F F':ax→Prop} {k:ax} {l:ai AV} {xs:ai aC} (h:RR w F k l xs) (hw:∀ b,b < w.heap.size→F b→F' b∧w'.heap[b]?=w.heap[b]?):RR w' F' k l xs :=
 ⟨h.1,h.2.1,fun i j v hi hj hv=>(h.2.2 i j v hi hj hv).mono hw⟩
section
variable {C:jT} {P:bn} {w0:az} {F0:Fs} {nt:ax} {st:St} {a:Act} {w:az} {H:ax→ak aC} {σ:ax→ak ax} {R:Type} {K:St→ak R} {r:R} {call:ax→ai AV→ak AV} {f:ax}
theorem zK (z:ai aC) (n j:ax) (hz:0 < z.length) (hj:j < n):(madeCells z.toArray n).toList[j]?=z[j % z.length]?:=by
 have hm:j % z.length < z.length:=Nat.mod_lt _ hz
 simp [madeCells,hj,hm]
theorem Ab {t:TypeId} {i:Ty} (ht:gS P t i) (F:ax→Prop) (n:ax) {z:aC} (h1:z.cells.toList.map JZ=i.zero) (h2:z.cells.size=i.size) (h3:∀ v ∈ z.cells.toList,v.oneCell'=aj) :
  RR w F i.size (dE n (zeroE i)) (madeCells z.cells (n * i.size)).toList:=by
 have hz:0 < z.cells.toList.length:=by simpa [h2] using ht.pos.1
 have wS:∀ j v,(madeCells z.cells (n * i.size)).toList[j]?=aa v→z.cells.toList[j % i.size]?=aa v:=fun j v hv=>by
  have hj:j < n * i.size:=by
   have:=(List.getElem?_eq_some_iff.1 hv).1
   simpa [size_madeCells] using this
  have:=zK z.cells.toList (n * i.size) j hz hj
  simp only [bO,Array.length_toList,h2] at this
  rw [← this];exact hv
 refine ⟨by simp [size_madeCells],fun v hv=>?_,fun a b v ha hb hv=>?_⟩
 ·obtain ⟨j,hj⟩:=eX hv
  exact h3 v (aV (wS j v hj))
 ·have hv2:=wS _ v hv
  have e1:(a * i.size+b) % i.size=b:=by rw [Nat.mul_comm,Nat.mul_add_mod];exact Nat.mod_eq_of_lt hb
  rw [e1] at hv2
  have ha':a < n:=by simpa using ha
  have e2:(dE n (zeroE i)).getD a .un=zeroE i:=by simp [List.getD,ha']
  rw [e2]
  have wT:=h3 v (aV hv2)
  have hzb:i.zero[b]?=aa (JZ v):=by rw [← h1,aM,hv2];rfl
  unfold zeroE
  cases nR:i.kd.agg with
  | true =>
   simp only [aN,AV.cell,aK,hzb,Option.getD_some]
   exact uO v wT _ _
  | false =>
   have hs:=ht.one nR
   have hb0:b=0:=by omega
   subst hb0
   have:i.zero.headD .un=JZ v:=by
    cases hzz:i.zero with
    | nil=>rw [hzz] at hzb;cases hzb
    | cons q qs=>rw [hzz] at hzb;cases hzb;rfl
   simp only [bB,this]
   have hp:=uO v wT w F
   cases YS:JZ v with
   | ag l=>rw [YS] at hp;cases hp;cases wT
   | _=>rw [YS] at hp;exact hp
theorem ER {n:ax} (h:n≤big):n≤maxLen:=by unfold big at h;unfold maxLen;omega
theorem Bh {o:Oper} {t:TypeId} {n c:Operand} (ho:o.op=.makeSlice t n c) (hT:∀ t i,C.ty t=aa i→gS P t i) (h:Inv C w0 F0 nt st a w H σ) (hd:∀ t,o.dst=aa t→t < nt)
  (hK:(match C.ty t,(C.ty t).bind fun i=>C.ty i.elem with
  | some s,aa i=>(bif s.kd.wQ then mk i.bytes (zeroE i) (st.get C n).cP (st.get C c).cP else ah).bind fun l=>o.dst.bind fun d=>K (jW st d s.elem i.size l)
  | _,_=>ah)=aa r):Goes C P w0 F0 nt st a w σ K r o:=by
 split at hK
 ·rename_i s i hs hi
  rw [hs] at hi
  simp only [Option.bind_some] at hi
  have ES:=hT s.elem i hi
  have hu:=(hT t s hs).und
  cases mA:s.kd <;> rw [mA] at hK hu <;> simp only [Kd.wQ,bB,Option.bind_none] at hK <;> first | (cases hK;done) | skip
  simp only at hu
  simp only [aN] at hK
  cases hm:mk i.bytes (zeroE i) (st.get C n).cP (st.get C c).cP with
  | none=>rw [hm] at hK;cases hK
  | some l =>
   rw [hm] at hK
   simp only [Option.bind_some] at hK
   cases eC:o.dst with
   | none=>rw [eC] at hK;cases hK
   | some d =>
    rw [eC] at hK
    simp only [Option.bind_some] at hK
    unfold mk at hm
    split at hm
    ·rename_i x y hx hy
     split at hm
     ·rename_i hc
      cases hm
      obtain ⟨rfl,h0,hb⟩:=hc
      have rn:a.eval n=.int .i64 x:=by
       rcases (h.get n).cP with e | e
       ·rw [hx] at e;cases e
       ·rw [hx] at e;exact e.rL rfl
      have rc:a.eval c=.int .i64 x:=by
       rcases (h.get c).cP with e | e
       ·rw [hy] at e;cases e
       ·rw [hy] at e;exact e.rL rfl
      obtain ⟨inf,z,q1,q2,q3,q4,q5,q6,q7⟩:=ES.info
      have hxn:x=(x.toNat:Int):=by omega
      have hb2:i.bytes * x.toNat≤big:=by
       have:((i.bytes * x.toNat:ax):Int)≤(big:Int):=by
        rw [Int.natCast_mul,← hxn];exact hb
       omega
      have VW:x.toNat≤big:=Nat.le_trans (Nat.le_mul_of_pos_left _ ES.pos.2) hb2
      have hrun:=run_make (P:=P) w t s.elem inf z hu q1 q4 .i64 .i64 x x h0 (Int.le_refl _) (by rw [q3];unfold big at hb;omega) (by unfold big at VW;omega)
      rw [q2] at hrun
      have hrow:=jy (base:=0) (size:=i.size) (e:=s.elem) w (madeCells z.cells (x.toNat * i.size)) x.toNat (Nat.zero_le _) (ER VW) (size_madeCells _ _)
      have kJ:Ext w (w.alloc (.cells (madeCells z.cells (x.toNat * i.size)) s.elem)):=Ext.push w _
      obtain ⟨H',hI⟩:=h.jW kJ d (hd d eC) (e:=s.elem) (k:=i.size) (l:=dE x.toNat (zeroE i)) (x:=.slice (aa ⟨w.heap.size,0,ah⟩) x.toNat x.toNat)
       (fun g hg=>by simp [Value.ownBlock] at hg;subst hg;simp [World.alloc,-World.alloc_eq]) (fun F _=>by
        have wY:=Ab (w:=w.alloc (.cells (madeCells z.cells (x.toNat * i.size)) s.elem)) ES F x.toNat q5 q6 q7
        exact ⟨ES.pos.1,_,by simpa using hrow,wY.2.1,wY.2.2⟩)
      refine mM ?_ hK (by rw [eC];exact hI) (by unfold kS;rw [ho];exact kJ) ⟨fun s _=>rfl,.inr (.inr rfl)⟩
      simp only [execOp,ho,rn,rc,Sem.run_bind,hrun,Result.andThen_ok]
      rfl
     ·cases hm
    ·cases hm
 ·cases hK
theorem SC {o:Oper} {t u:TypeId} {x:Operand} (ho:o.op=.convert t u x) (hT:∀ t i,C.ty t=aa i→gS P t i) (h:Inv C w0 F0 nt st a w H σ) (hd:∀ t,o.dst=aa t→t < nt)
  (hs:C.kd t=aa .str) (hl:C.kd u=aa .slice) (hK:oo C t u (st.get C x) o.dst st K=aa r):Goes C P w0 F0 nt st a w σ K r o:=by
 unfold oo at hK
 rw [hs,hl] at hK
 simp only at hK
 obtain ⟨i1,e1,f1⟩:=jD hs
 obtain ⟨i2,e2,f2⟩:=jD hl
 rw [e2] at hK
 simp only [Option.bind_some] at hK
 split at hK
 ·rename_i h3
  obtain ⟨i3,e3,f3⟩:=jD h3
  have GM:=(hT t i1 e1).und
  rw [f1] at GM
  have QZ:=(hT u i2 e2).und
  rw [f2] at QZ
  have J1:=(hT i2.elem i3 e3).und
  rw [f3] at J1
  obtain ⟨z,hz,hK⟩:=fW hK
  have rx:=oF h x Sa rfl hz
  unfold Sa at hz
  split at hz
  ·rename_i l hl2
   cases hz
   rw [hl2] at rx
   generalize vQ:a.eval x=X at rx
   cases rx with
   | s q =>
    have hrun:=run_convert_string_bytes w t u i2.elem q GM QZ J1
    have kJ:Ext w (bytesWorld w i2.elem q):=⟨rfl,rfl,rfl,by rw [bytesWorld_size];omega,fun b hb=>bytesWorld_at_old w _ _ b hb⟩
    refine mM ?_ hK ((h.ext kJ).put hd (v:=.slice (aa ⟨w.heap.size,0,ah⟩) q.size (grownCap w q.size 0 i2.elem)) ?_) (by
     unfold kS
     rw [ho]
     simp only
     split
     ·trivial
     ·exact kJ) ⟨fun s _=>rfl,.inr (.inr rfl)⟩
    ·simp only [execOp,ho,vQ,Sem.run_bind,hrun,Result.andThen_ok]
     rfl
    ·show Rel _ _ _ _
     have hlen:(q.data.toList.map AV.u8).length=q.size:=by simp
     rw [← hlen]
     refine .ro 1 _ _ 0 _ (strCells q) (by omega) (by rw [hlen];exact grownCap_ge w q.size 0 i2.elem) ⟨fun hh=>?_,fun i v hv=>?_,fun s hs=>?_⟩ (by rw [strCells_length,hlen];omega) (fun j v hv=>?_) (strCells_oneCell q) (fun i j v hi hj hv=>?_)
     ·have:=h.below.size;omega
     ·intro e;have:=(h.hown i v _ hv e).2;omega
     ·have:=(h.sown s _ hs).2;omega
     ·have hj:j < q.size:=by have:=(List.getElem?_eq_some_iff.1 hv).1;rwa [strCells_length] at this
      rw [Nat.zero_add,bytesWorld_cell w i2.elem q j hj]
      unfold strCells at hv
      rw [aM] at hv
      have hj':j < q.data.toList.length:=by simpa using hj
      rw [List.getElem?_eq_getElem hj'] at hv
      cases hv
      rw [aK,List.getElem?_eq_getElem hj']
      rfl
     ·have Sr:j=0:=by omega
      subst Sr
      rw [hlen] at hi
      have hi':i < q.data.toList.length:=by simpa using hi
      simp only [strCells,Nat.mul_one,Nat.add_zero] at hv
      rw [aM,List.getElem?_eq_getElem hi'] at hv
      cases hv
      have:(List.map AV.u8 q.data.toList).getD i .un=.u8 q.data.toList[i]:=by rw [aK,aM,List.getElem?_eq_getElem hi'];rfl
      rw [this]
      exact .u8 _
  ·cases hz
 ·cases hK
theorem I3 {o:Oper} {c:Call} {x y:Operand} {t u:TypeId} {ts:ai TypeId} (ho:o.op=.call c) (hc:c.callee=.builtin .append) (ha:c.args.toList=[x,y]) (NT:c.argTypes.toList=t :: u :: ts)
  (hT:∀ t i,C.ty t=aa i→gS P t i) (h:Inv C w0 F0 nt st a w H σ) (hd:∀ t,o.dst=aa t→t < nt)
  (hK:(match C.ty t,(C.ty t).bind fun i=>C.ty i.elem,C.kd u with
  | some s,aa i,aa kd =>
   match kd with
   | .slice | .str=>bif s.kd.wQ then
    match st.get C x with
    | .cell (.own id e k l)=>bif Nat.beq e s.elem && Nat.beq k i.size && !((st.get C y).ids.any (Nat.beq id)) then (app i.bytes i.size l (st.get C y).cP).bind fun m=>o.dst.bind fun d=>K (jW ((st.oQ (st.get C y).ids).kl id) d e k m) else ah
    | .cell (.val .cd)=>(app i.bytes i.size [] (st.get C y).cP).bind fun m=>o.dst.bind fun d=>K (jW (st.oQ (st.get C y).ids) d s.elem i.size m)
    | _=>ah
    else ah
   | _=>ah
  | _,_,_=>ah)=aa r):Goes C P w0 F0 nt st a w σ K r o:=by
 have e1:c.args = #[x,y]:=by rw [← bO (xs:=c.args),ha]
 have e0:c.argTypes[0]?=aa t:=by rw [← Array.getElem?_toList,NT];rfl
 have YT:c.argTypes[1]?=aa u:=by rw [← Array.getElem?_toList,NT];rfl
 split at hK
 case h_2=>cases hK
 rename_i s i kd hs hi mA
 rw [hs] at hi
 simp only [Option.bind_some] at hi
 have ES:=hT s.elem i hi
 have ZR:=(hT t s hs).und
 obtain ⟨iu,hiu,ZT⟩:=jD mA
 have ZU:=(hT u iu hiu).und
 rw [ZT] at ZU
 have hu:P.underlying u=aa .string∨∃ e',P.underlying u=aa (.slice e'):=by
  cases kd <;> first | exact .inl ZU | exact .inr ⟨_,ZU⟩ | cases hK
 obtain ⟨inf,z,q1,q2,q3,q4,q5,q6,q7⟩:=ES.info
 have hK:(bif s.kd.wQ then
    match st.get C x with
    | .cell (.own id e k l)=>bif Nat.beq e s.elem && Nat.beq k i.size && !((st.get C y).ids.any (Nat.beq id)) then (app i.bytes i.size l (st.get C y).cP).bind fun m=>o.dst.bind fun d=>K (jW ((st.oQ (st.get C y).ids).kl id) d e k m) else ah
    | .cell (.val .cd)=>(app i.bytes i.size [] (st.get C y).cP).bind fun m=>o.dst.bind fun d=>K (jW (st.oQ (st.get C y).ids) d s.elem i.size m)
    | _=>ah
    else ah)=aa r:=by
  cases kd <;> first | exact hK | cases hK
 cases ZV:s.kd <;> rw [ZV] at hK ZR <;> simp only [Kd.wQ,bB] at hK <;> first | (cases hK;done) | skip
 simp only [aN] at hK
 simp only at ZR
 have key:∀ (F1 F2:ax→Prop) (l m:ai AV) (v:aC),a.eval x=v→app i.bytes i.size l (st.get C y).cP=aa m→cY w F2 s.elem i.size l v→Rel w F1 (st.get C y).cP (a.eval y) →
   ∃ v' w',(execOp a.eval o).run P w=.ok (.value v') w'∧w.grownBy w' v.ownBlock∧(∀ g,v'.ownBlock=aa g→(v.ownBlock=aa g∨w.heap.size≤g)∧g < w'.heap.size) ∧
    ∀ F:ax→Prop,(∀ b,b < w.heap.size→F2 b→F b∧v.ownBlock≠aa b)→(∀ b,b < w.heap.size→F1 b→F b∧v.ownBlock≠aa b)→cY w' F s.elem i.size m v':=by
  intro F1 F2 l m v hv hm hown hy
  obtain ⟨v',w',r1,r2,r3,r4⟩:=Ss (P:=P) t u o.type s.elem inf z ZR q1 q4 (by rw [q2];exact q6) (by rw [q2];exact ES.pos.1) hu c.argTypes e0 YT (by rw [q3];exact ES.pos.2) (l:=l) (l':=m) (by rw [q2,q3];exact hm) (by rw [q2];exact hown) hy
  refine ⟨v',w',?_,r2,r3,fun F h1 h2=>by have:=r4 F h1 h2;rwa [q2] at this⟩
  simp only [execOp,ho,resolve,hc,e1]
  simp [invoke,builtin,hv,r1]
 have lH:∀ w',(ni c.args.toList=aj→Ext w w')→kS C st o σ w w':=fun w' hx=>by
  unfold kS
  rw [ho]
  obtain ⟨ce,ar,VX⟩:=c
  simp only at hc hx
  subst hc
  show if ni ar.toList=aj then Ext w w' else True
  split
  ·rename_i hn;exact hx hn
  ·trivial
 have Q0:∀ m l,app i.bytes i.size l (st.get C y).cP=aa m→(st.get C y).told=aj:=fun m l hm=>by
  cases jz:st.get C y with
  | cell c=>cases c with
   | val v=>rfl
   | own i e k l=>rfl
   | _=>rw [jz] at hm;cases hm
  | agg cs=>rw [jz] at hm;cases hm
  | _=>rw [jz] at hm;cases hm
 split at hK
 ·rename_i id e k l jz
  cases hb:(Nat.beq e s.elem && Nat.beq k i.size && !((st.get C y).ids.any (Nat.beq id))) with
  | false=>rw [hb] at hK;cases hK
  | true =>
   rw [hb] at hK
   simp only [aN] at hK
   rw [Bool.and_eq_true,Bool.and_eq_true] at hb
   have he:=aF hb.1.1
   have hk:=aF hb.1.2
   have OE:id ∉ (st.get C y).ids:=fun hm=>by
    have h2:=hb.2
    simp only [Bool.not_eq_true',bV] at h2
    exact h2 id hm (dw id)
   subst he hk
   cases hm:app i.bytes i.size l (st.get C y).cP with
   | none=>rw [hm] at hK;cases hK
   | some m =>
    rw [hm] at hK
    simp only [Option.bind_some] at hK
    cases eC:o.dst with
    | none=>rw [eC] at hK;cases hK
    | some d =>
     rw [eC] at hK
     simp only [Option.bind_some] at hK
     have hr:=h.get x
     rw [jz] at hr
     obtain ⟨OG,gg⟩:=hr
     obtain ⟨H1,h1,pZ,qa,Dg⟩:=h.Bc (st.get C y).ids
     have ZW:=Dg id _ OE OG
     have pY:∀ (ids:ai ax) (e k:ax) (l:ai AV),id ∉ ids→cQ.oQ (.cell (.own id e k l)) ids=.cell (.own id e k l):=by
      intro ids e k l hn
      induction ids with
      | nil=>rfl
      | cons j r ih =>
       have ZX:id≠j:=fun e=>hn (e ▸ List.mem_cons_self ..)
       have:cQ.fz j (.cell (.own id e k l))=.cell (.own id e k l):=by simp [cQ.fz,Cell.fz,cH,ZX]
       simp only [cQ.oQ,dX,this]
       exact ih fun hm=>hn (List.mem_cons_of_mem _ hm)
     have hx1:=pZ _ _ (by rw [← jz];exact h.get x:fL w (Fr w0.heap.size F0 H σ) H σ (.cell (.own id s.elem i.size l)) (a.eval x))
     rw [pY _ _ _ _ OE] at hx1
     have hy:=kg (pZ _ _ (h.get y)) (Q0 m l hm) (fun i hi=>hi)
     obtain ⟨v',w',r1,r2,r3,r4⟩:=key _ _ l m _ rfl hm hx1.2 hy
     have KF:=h1.uN id d (a.eval x).ownBlock (w':=w') (x:=v') r2.os r2.tape r2.output r2.size r2.block (fun g hg=>⟨_,ZW,hg⟩) r3
     have hF:∀ b,b < w.heap.size→Fr w0.heap.size F0 H1 σ b→Fr w0.heap.size F0 (upd (Sx.erase (Sx.erase H1 id) d) d v') σ b∧(a.eval x).ownBlock≠aa b:=fun b hb hf=>by
      refine ⟨⟨hf.1,fun i v hv=>?_,hf.2.2⟩,hf.2.1 id _ ZW⟩
      rcases kA hv with ⟨_,rfl⟩ | ⟨_,hv⟩
      ·intro e
       rcases (r3 b e).1 with h | h
       ·exact hf.2.1 id _ ZW h
       ·omega
      ·exact hf.2.1 i v (cr (cr hv).2).2
     have hnn:ni c.args.toList=aj→Ext w w':=fun hn=>by
      exfalso
      rw [ha] at hn
      unfold ni at hn
      split at hn
      ·rename_i e;cases e;cases jz
      ·cases hn
     refine mM r1 hK (H':=upd (Sx.erase (Sx.erase H1 id) d) d v') (σ':=σ) ?_ (lH w' hnn) ⟨fun s _=>rfl,.inr (.inr rfl)⟩
     rw [eC]
     exact KF.put (d:=aa d) (fun t ht=>by cases ht;exact hd _ eC) ⟨by unfold upd;simp,r4 _ hF hF⟩
 ·rename_i jz
  cases hm:app i.bytes i.size [] (st.get C y).cP with
  | none=>rw [hm] at hK;cases hK
  | some m =>
   rw [hm] at hK
   simp only [Option.bind_some] at hK
   cases eC:o.dst with
   | none=>rw [eC] at hK;cases hK
   | some d =>
    rw [eC] at hK
    simp only [Option.bind_some] at hK
    have hr:=h.get x
    rw [jz] at hr
    have vQ:a.eval x=.slice ah 0 0:=by
     generalize a.eval x=X at hr
     cases hr;rfl
    obtain ⟨H1,h1,pZ,qa,Dg⟩:=h.Bc (st.get C y).ids
    have hy:=kg (pZ _ _ (h.get y)) (Q0 m [] hm) (fun i hi=>hi)
    obtain ⟨v',w',r1,r2,r3,r4⟩:=key _ (Fr w0.heap.size F0 H1 σ) [] m _ vQ hm ⟨ES.pos.1,[],bW w 0 _ _,by simp,fun i j v hi=>by simp at hi⟩ hy
    have kJ:Ext w w':=⟨r2.os,r2.tape,r2.output,r2.size,fun b hb=>r2.block b hb (by simp [Value.ownBlock])⟩
    obtain ⟨H',hI⟩:=h1.jW kJ d (hd d eC) (e:=s.elem) (k:=i.size) (l:=m) (x:=v')
     (fun g hg=>⟨(r3 g hg).1.resolve_left (fun h=>by simp [Value.ownBlock] at h),(r3 g hg).2⟩)
     (fun F hF=>r4 F (fun b hb hf=>⟨hF b hb hf,by simp [Value.ownBlock]⟩) (fun b hb hf=>⟨hF b hb hf,by simp [Value.ownBlock]⟩))
    exact mM r1 hK (by rw [eC];exact hI) (lH w' fun _=>kJ) ⟨fun s _=>rfl,.inr (.inr rfl)⟩
 ·cases hK
end
theorem sD {α:Type} (xs news:ai α) (p q:ax) (h:p+news.length≤xs.length) :
  (xs.take p ++ news ++ xs.drop (p+news.length))[q]?=if p≤q∧q < p+news.length then news[q - p]? else xs[q]?:=by
 simp only [List.getElem?_append,au,dV,bJ,List.getElem?_drop]
 have m:min p xs.length=p:=by omega
 rw [m]
 by_cases h1:q < p
 ·simp [h1,show q < p+news.length by omega,show ¬ p≤q by omega]
 ·by_cases h2:q < p+news.length
  ·simp [h1,h2,show p≤q by omega]
  ·simp [h2,show p+news.length+(q - (p+news.length))=q by omega]
theorem RR.upd {w:az} {F:ax→Prop} {k:ax} {l:ai AV} {xs:ai aC} (h:RR w F k l xs) (n:ax) (hn:n < l.length) (ev:AV) (off:ax) (news:ai aC) (kp:off+news.length≤k) (h1:∀ v ∈ news,v.oneCell'=aj)
  (hr:∀ j v,j < k→(if off≤j∧j < off+news.length then news[j - off]? else xs[n * k+j]?)=aa v→Rel w F (ev.cell j) v) :
  RR w F k (l.set n ev) (xs.take (n * k+off) ++ news ++ xs.drop (n * k+off+news.length)):=by
 have hle:(n+1) * k≤l.length * k:=bE _ hn
 rw [dC,Nat.one_mul] at hle
 have hx:n * k+off+news.length≤xs.length:=by rw [h.1];omega
 refine ⟨by simp [h.1];omega,fun v hv=>?_,fun i j v hi hj hv=>?_⟩
 ·rcases List.mem_append.1 hv with hv | hv
  ·rcases List.mem_append.1 hv with hv | hv
   ·exact h.2.1 v (List.mem_of_mem_take hv)
   ·exact h1 v hv
  ·exact h.2.1 v (List.mem_of_mem_drop hv)
 ·rw [sD _ _ _ _ hx] at hv
  rw [dI] at hi
  by_cases J3:i=n
  ·subst J3
   have e:(l.set i ev).getD i .un=ev:=by simp [List.getD,hn]
   rw [e]
   refine hr j v hj ?_
   by_cases hc:off≤j∧j < off+news.length
   ·rw [aJ hc]
    rw [aJ (by omega)] at hv
    rw [show i * k+j - (i * k+off)=j - off by omega] at hv
    exact hv
   ·rw [aI hc]
    rw [aI (by omega)] at hv
    exact hv
  ·have e:(l.set n ev).getD i .un=l.getD i .un:=by simp [List.getD,List.getElem?_set,Ne.symm J3]
   rw [e]
   refine h.2.2 i j v hi hj ?_
   rw [aI ?_] at hv
   ·exact hv
   ·rcases Nat.lt_or_gt_of_ne J3 with hlt | zX
    ·have:(i+1) * k≤n * k:=bE _ hlt
     rw [dC,Nat.one_mul] at this
     omega
    ·have:(n+1) * k≤i * k:=bE _ zX
     rw [dC,Nat.one_mul] at this
     omega
section
variable {C:jT} {P:bn} {w0:az} {F0:Fs} {nt:ax} {st:St} {a:Act} {w:az} {H:ax→ak aC} {σ:ax→ak ax} {R:Type} {K:St→ak R} {r:R} {call:ax→ai AV→ak AV} {f:ax}
theorem Rel.cells {F:ax→Prop} {e:AV} {x:aC} (h:Rel w F e x) {t:TypeId} {i:Ty} (ht:gS P t i) (nR:i.kd.agg=aj→x=.agg x.cells) (hna:i.kd.agg=af→x.oneCell'=aj) (hl:x.cells.toList.length=i.size) (j:ax) (v:aC) (hj:j < i.size) (hv:x.cells.toList[j]?=aa v) :
  Rel w F (e.cell j) v:=by
 cases hh:i.kd.agg with
 | true =>
  have hx:=nR hh
  cases h with
  | ag l vs hl2 h1 hr =>
   simp only [Value.cells] at hv
   exact hr j v hv
  | _=>first | cases hx | (rename_i h1;rw [hx] at h1;cases h1)
 | false =>
  have h1:=hna hh
  have hs:=ht.one hh
  have Sr:j=0:=by omega
  subst Sr
  rw [ot h1] at hv
  cases hv
  cases e with
  | ag l=>cases h;cases h1
  | _=>exact h
theorem Dh (hT:∀ t i,C.ty t=aa i→gS P t i) (h:Inv C w0 F0 nt st a w H σ) {t:TypeId} {i:Ty} (hi:C.ty t=aa i) {F:ax→Prop} {Kc:ai AV→ak R}:∀ (ps:ai (ax×Operand)),
   (∀ p ∈ ps,(st.get C p.2).told=aj→Rel w F (st.get C p.2).cP (a.eval p.2))→∀ (l:ai AV) (cur:bF aC),RR w F i.size l cur.toList→pP C t i.kd.agg st ps l Kc=aa r →
   ∃ l' cur',iF (fun n=>aa (n * i.size,i.size)) cur (ps.map fun p=>(p.1,a.eval p.2))=aa cur'∧RR w F i.size l' cur'.toList∧l'.length=l.length∧Kc l'=aa r
 | [],_,l,cur,wY,hK=>⟨l,cur,rfl,wY,rfl,hK⟩
 | (n,x) :: ps,hrel,l,cur,wY,hK=>by
  simp only [pP] at hK
  cases hb:(bI n l.length && (st.get C x).told) with
  | false=>rw [hb] at hK;cases hK
  | true =>
   rw [hb] at hK
   simp only [aN] at hK
   rw [Bool.and_eq_true] at hb
   have hn:n < l.length:=by have:=hb.1;unfold bI at this;exact aU this
   obtain ⟨i',new,hi',hK,hlen,sA,nR,hagg,_,I2⟩:=lu hT (h.get x) hK
   have:i'=i:=by rw [hi] at hi';exact (Option.some.inj hi').symm
   subst this
   rw [I2 hb.2] at hK
   have hx:=hrel (n,x) (List.mem_cons_self ..) hb.2
   have ht:=hT t i' hi
   have hsz:(a.eval x).cells.toList.length=i'.size:=by rw [sA.1,hlen]
   have hle:(n+1) * i'.size≤l.length * i'.size:=bE _ hn
   rw [dC,Nat.one_mul] at hle
   have EP:cur.toList.length=l.length * i'.size:=wY.1
   have wT:=hagg.2
   have xR:=foldl_set (n * i'.size) (a.eval x).cells.toList 0 cur (by rw [hsz,Nat.add_zero,← Array.length_toList,EP];omega)
   have hs2:(a.eval x).cells.zipIdx.foldl (fun cs (c,j)=>cs.setIfInBounds (n * i'.size+j) c) cur=((a.eval x).cells.toList.zipIdx 0).foldl (fun (cs:bF aC) p=>cs.setIfInBounds (n * i'.size+p.2) p.1) cur:=by
    rw [← Array.foldl_toList,Array.toList_zipIdx]
   have ZY:=wY.upd n hn (st.get C x).cP 0 (a.eval x).cells.toList (by rw [hsz];omega) sA.one (fun j v hj hv=>by
    rw [aJ ⟨Nat.zero_le _,by rw [hsz];omega⟩] at hv
    exact hx.cells ht hagg.1 wT hsz j v hj hv)
   obtain ⟨l',cur',h1,h2,h3,h4⟩:=Dh hT h hi ps (fun p hp=>hrel p (List.mem_cons_of_mem _ hp)) (l.set n (st.get C x).cP) ((a.eval x).cells.zipIdx.foldl (fun cs (c,j)=>cs.setIfInBounds (n * i'.size+j) c) cur) (by
    rw [hs2,xR]
    simpa using ZY) hK
   refine ⟨l',cur',?_,h2,by rw [h3];simp,h4⟩
   simp only [List.map_cons,iF]
   have n1:¬ ((a.eval x).cells.size≠i'.size):=by rw [← Array.length_toList,hsz];simp
   have n2:¬ (n * i'.size+(a.eval x).cells.size > cur.size):=by rw [← Array.length_toList,hsz,← Array.length_toList (xs:=cur),EP];omega
   simp only [ne_eq,n1,n2,or_self,if_false,decide_false,Bool.or_self,Bool.false_eq_true]
   exact h1
theorem KJ (hT:∀ t i,C.ty t=aa i→gS P t i) {t:TypeId} {agg:ay} {Kc:ai AV→ak R}:∀ (ps:ai (ax×Operand)) (l:ai AV),pP C t agg st ps l Kc=aa r→l=[]→ps=[]
 | [],_,_,_=>rfl
 | (n,x) :: ps,l,hK,hl=>by
  subst hl
  have:bI n 0=af:=rfl
  simp [pP,this] at hK
theorem zL {o:Oper} {t:TypeId} {n:ax} {ps:bF (ax×Operand)} (ho:o.op=.buildSlice t n ps) (hT:∀ t i,C.ty t=aa i→gS P t i) (h:Inv C w0 F0 nt st a w H σ) (hd:∀ t,o.dst=aa t→t < nt)
  (hK:(match C.ty t,(C.ty t).bind fun i=>C.ty i.elem with
  | some s,aa i=>bif s.kd.wQ && bL (n * i.size) 16777216 then pP C s.elem i.kd.agg st ps.toList (dE n (zeroE i)) fun l =>
    o.dst.bind fun d=>K (jW (st.oQ (ps.toList.flatMap fun p=>(st.get C p.2).ids)) d s.elem i.size l) else ah
  | _,_=>ah)=aa r):Goes C P w0 F0 nt st a w σ K r o:=by
 split at hK
 ·rename_i s i hs hi
  rw [hs] at hi
  simp only [Option.bind_some] at hi
  have ES:=hT s.elem i hi
  have hu:=(hT t s hs).und
  cases mA:s.kd <;> rw [mA] at hK hu <;> simp only [Kd.wQ,Bool.false_and,bB] at hK <;> first | (cases hK;done) | skip
  simp only at hu
  simp only [Bool.true_and] at hK
  cases hle:bL (n * i.size) 16777216 with
  | false=>rw [hle] at hK;cases hK
  | true =>
   rw [hle] at hK
   simp only [aN] at hK
   have A9:=aU hle
   obtain ⟨inf,z,q1,q2,q3,q4,q5,q6,q7⟩:=ES.info
   obtain ⟨H1,h1,pZ,qa,Dg⟩:=h.Bc (ps.toList.flatMap fun p=>(st.get C p.2).ids)
   have hzr:=Ab (w:=w) ES (Fr w0.heap.size F0 H1 σ) n q5 q6 q7
   obtain ⟨l',cur',g1,g2,g3,g4⟩:=Dh (F:=Fr w0.heap.size F0 H1 σ) (a:=a) hT h hi ps.toList (fun p hp ht=>kg (pZ _ _ (h.get p.2)) ht fun i hi=>eP.2 ⟨p,hp,hi⟩) _ _ hzr hK
   have hl':l'.length=n:=by rw [g3];simp
   cases eC:o.dst with
   | none=>rw [eC] at g4;cases g4
   | some d =>
    rw [eC] at g4
    simp only [Option.bind_some] at g4
    have kJ:Ext w (w.alloc (.cells cur' s.elem)):=Ext.push w _
    have hcs:cur'.size=n * i.size:=by rw [← Array.length_toList,g2.1,hl']
    have hrow:=jy (base:=0) (size:=i.size) (e:=s.elem) w cur' n (Nat.zero_le _) (by
     have:=ES.pos.1
     have:n * 1≤n * i.size:=Nat.mul_le_mul_left _ this
     unfold maxLen;omega) hcs
    have hrun:(Instr.buildSlice t n (ps.map fun (i,x)=>(i,a.eval x))).run P w=.ok (.slice (aa ⟨w.heap.size,0,ah⟩) n n) (w.alloc (.cells cur' s.elem)):=by
     by_cases h0:n * i.size=0
     ·have ZP:n=0:=by
       rcases Nat.mul_eq_zero.1 h0 with h | h
       ·exact h
       ·have:=ES.pos.1;omega
      subst ZP
      have hps:=KJ hT ps.toList _ hK rfl
      have ZZ:ps = #[]:=by rw [← bO (xs:=ps),hps]
      subst ZZ
      have hc0:cur' = #[]:=Array.eq_empty_of_size_eq_zero (by simpa using hcs)
      subst hc0
      simp [Instr.buildSlice,run_underlying hu,Go.sizeOf,typeInfo,q1,iF,newRow,Array.range_zero']
     ·refine run_buildSlice w t s.elem n _ cur' inf z hu q1 q4 (by rw [q2];omega) (by rw [q2];exact h0) ?_
      rw [q2,Array.toList_map]
      exact g1
    obtain ⟨H',hI⟩:=h1.jW kJ d (hd d eC) (e:=s.elem) (k:=i.size) (l:=l') (x:=.slice (aa ⟨w.heap.size,0,ah⟩) n n)
     (fun g hg=>by simp [Value.ownBlock] at hg;subst hg;simp [World.alloc,-World.alloc_eq])
     (fun F hF=>by
      have h3:=g2.mono (w':=w.alloc (.cells cur' s.elem)) (F':=F) fun b hb hf=>⟨hF b hb hf,kJ.block b hb⟩
      exact ⟨ES.pos.1,cur'.toList,by rw [hl'];exact hrow,h3.2.1,h3.2.2⟩)
    refine mM ?_ g4 (by rw [eC];exact hI) (by unfold kS;rw [ho];exact kJ) ⟨fun s _=>rfl,.inr (.inr rfl)⟩
    simp only [execOp,ho,Sem.run_bind,hrun,Result.andThen_ok]
    rfl
 ·cases hK
theorem Inv.kU (h:Inv C w0 F0 nt st a w H σ) {s g:ax} (hs:σ s=aa g) {w':az} (Si:w'.os=w.os) (C9:w'.tape=w.tape) (hout:w'.output=w.output) (hsz:w'.heap.size=w.heap.size)
  (hblk:∀ b,b≠g→w'.heap[b]?=w.heap[b]?) {cs:ai Cell} {vs:ai aC} {e:ax} (hg:w'.heap[g]?=aa (.cells vs.toArray e (0,0))) (zF:CR w (Fr w0.heap.size F0 H σ) H σ cs vs) :
  Inv C w0 F0 nt (st.kU s cs) a w' H σ:=by
 have hF:∀ b,b < w.heap.size→Fr w0.heap.size F0 H σ b→Fr w0.heap.size F0 H σ b∧w'.heap[b]?=w.heap[b]?:=fun b _ hf=>⟨hf,hblk b fun e=>hf.2.2 s (by rw [e];exact hs)⟩
 have hH:∀ i y,H i=aa y→H i=aa y∧∀ b,y.ownBlock=aa b→w'.heap[b]?=w.heap[b]?:=fun i y hi=>⟨hi,fun b hb=>hblk b fun e=>h.hs i s y g hi hs (e ▸ hb)⟩
 refine { h with env:=fun t=>(h.env t).mono hF hH fun _ _ hs=>hs,mem:=fun s' cs' hcs=>?_,hown:=fun i x b hi hx=>?_,sown:=fun s' r hs'=>?_,glob:=fun g k e hg=>?_,below:=?_ }
 ·simp only [St.kU,cH] at hcs
  split at hcs
  ·rename_i e'
   subst e'
   cases hcs
   exact ⟨g,vs,e,hs,hg,zF.1,fun j c v hc hv=>(zF.2 j c v hc hv).mono hF (fun i y hi _=>hH i y hi) fun _ _ hs _=>hs⟩
  ·rename_i hne
   obtain ⟨r,us,e',h1,h2,h3,h4⟩:=h.mem s' cs' hcs
   refine ⟨r,us,e',h1,?_,h3,fun j c v hc hv=>(h4 j c v hc hv).mono hF (fun i y hi _=>hH i y hi) fun _ _ hs _=>hs⟩
   rw [hblk r (fun e=>h.ss s' s r hne h1 (by rw [e];exact hs))]
   exact h2
 ·rw [hsz];exact h.hown i x b hi hx
 ·rw [hsz];exact h.sown s' r hs'
 ·exact (h.glob g k e hg).mono hF hH fun _ _ hs=>hs
 ·have base:=h.below
  refine ⟨Si.trans base.os,C9.trans base.tape,hout.trans base.output,by rw [hsz];exact base.size,fun k hk vN=>?_⟩
  rw [hblk k (fun e=>by
   rcases (h.sown s g hs).1 with h5 | h5
   ·omega
   ·exact vN (e ▸ h5))]
  exact base.block k hk vN
end
section
variable {C:jT} {P:bn} {w0:az} {F0:Fs} {nt:ax} {st:St} {a:Act} {w:az} {H:ax→ak aC} {σ:ax→ak ax} {R:Type} {K:St→ak R} {r:R} {call:ax→ai AV→ak AV} {f:ax}
theorem cY.rr {F:ax→Prop} {e k:ax} {l:ai AV} {x:aC} (h:cY w F e k l x) (hl:0 < l.length) :
  ∃ g cap cur,x=.slice (aa ⟨g,0,ah⟩) l.length cap∧w.heap[g]?=aa (.cells cur e (0,0))∧l.length≤cap∧cap≤maxLen∧cur.size=cap * k∧0 < k∧RR w F k l (cur.toList.take (l.length * k)):=by
 obtain ⟨hk,xs,⟨GL,h2⟩,h1,hr⟩:=h
 rcases h2 with ⟨_,h2⟩ | ⟨g,cap,cur,hx,_,hg,hc,hm,hs,ht⟩
 ·omega
 ·subst ht
  exact ⟨g,cap,cur,hx,hg,hc,hm,hs,hk,GL,h1,hr⟩
theorem Inv.VY (h:Inv C w0 F0 nt st a w H σ) {id:ax} {x:aC} (hx:H id=aa x) {w':az} (Si:w'.os=w.os) (C9:w'.tape=w.tape) (hout:w'.output=w.output) (hsz:w'.heap.size=w.heap.size)
  (hblk:∀ b,x.ownBlock≠aa b→w'.heap[b]?=w.heap[b]?) (l':ai AV) (kf:∀ e k l,cY w (Fr w0.heap.size F0 H σ) e k l x→l'.length=l.length∧cY w' (Fr w0.heap.size F0 H σ) e k l' x) :
  Inv C w0 F0 nt (st.up id l') a w' H σ:=by
 have hF:∀ b,b < w.heap.size→Fr w0.heap.size F0 H σ b→Fr w0.heap.size F0 H σ b∧w'.heap[b]?=w.heap[b]?:=fun b _ hf=>⟨hf,hblk b (hf.2.1 id x hx)⟩
 have hH:∀ i y,i≠id→H i=aa y→H i=aa y∧∀ b,y.ownBlock=aa b→w'.heap[b]?=w.heap[b]?:=fun i y hne hi=>⟨hi,fun b hb=>hblk b fun e=>h.hh i id y x b hne hi hx hb e⟩
 have hS:∀ s r,σ s=aa r→w'.heap[r]?=w.heap[r]?:=fun s r hs=>hblk r (h.hs id s x r hx hs)
 have hc:∀ c y,dr w (Fr w0.heap.size F0 H σ) H σ c y→dr w' (Fr w0.heap.size F0 H σ) H σ (c.up id l') y:=by
  intro c y hy
  cases c with
  | own i e k l =>
   obtain ⟨h1,h2⟩:=hy
   simp only [Cell.up,cH]
   by_cases hi:i=id
   ·subst hi
    rw [aJ rfl]
    have:y=x:=by rw [h1] at hx;exact Option.some.inj hx
    subst this
    exact ⟨h1,(kf e k l h2).2⟩
   ·rw [aI hi]
    exact ⟨h1,h2.mono hF (hH i y hi h1).2⟩
  | dead=>exact hy
  | val v=>exact ⟨hy.1,hy.2.mono hF⟩
  | ptr s o=>exact hy
  | lr g ss=>exact hy
 have he:∀ e y,fL w (Fr w0.heap.size F0 H σ) H σ e y→fL w' (Fr w0.heap.size F0 H σ) H σ (e.up id l') y:=by
  intro e y hy
  cases e with
  | cell c=>cases c with
   | dead=>trivial
   | val v=>exact Rel.mono hF hy
   | own i e k l =>
    have:=hc (.own i e k l) y hy
    simp only [cQ.up,Cell.up,cH] at this ⊢
    split
    ·rename_i hi;rw [aJ hi] at this;exact this
    ·rename_i hi;rw [aI hi] at this;exact this
   | ptr s o=>exact hy
   | lr g ss=>exact hy
  | agg cs =>
   obtain ⟨vs,rfl,hl,hv⟩:=hy
   refine ⟨vs,rfl,by simpa using hl,fun j c v h1 h2=>?_⟩
   rw [aM] at h1
   cases hc0:cs[j]? with
   | none=>rw [hc0] at h1;cases h1
   | some c0 =>
    rw [hc0] at h1
    simp only [aY,Option.some.injEq] at h1
    subst h1
    exact hc c0 v (hv j c0 v hc0 h2)
  | pK k e off =>
   obtain ⟨b,o,rfl,a2,a3,a4⟩:=hy
   obtain ⟨b1,b2⟩:=hF b a3 a2
   refine ⟨b,o,rfl,b1,by rw [hsz];exact a3,fun j hj=>?_⟩
   obtain ⟨v,c1,c2,c3⟩:=a4 j hj
   exact ⟨v,by rw [← c1];exact aD (w:=w) b2,c2,c3.mono hF⟩
  | nN i e k l n off =>
   obtain ⟨g,m,cap,a1,a2,a3,rfl⟩:=hy
   simp only [cQ.up,cH]
   by_cases hi:i=id
   ·subst hi
    rw [aJ rfl]
    have:x=.slice (aa ⟨g,0,ah⟩) m cap:=by rw [a1] at hx;exact (Option.some.inj hx).symm
    subst this
    obtain ⟨b1,b2⟩:=kf e k l a2
    exact ⟨g,m,cap,a1,b2,by rw [b1];exact a3,rfl⟩
   ·rw [aI hi]
    exact ⟨g,m,cap,a1,a2.mono hF (hH i _ hi a1).2,a3,rfl⟩
  | uJ rr ks =>
   obtain ⟨vs,rfl,hl,hv⟩:=hy
   refine ⟨vs,rfl,by simpa using hl,fun j o v h1 h2=>?_⟩
   rw [aM] at h1
   cases ho:ks[j]? with
   | none=>rw [ho] at h1;cases h1
   | some o' =>
    rw [ho] at h1
    have h3:=hv j o' v ho h2
    simp only [aY,Option.some.injEq] at h1
    subst h1
    match o',h3 with
    | none,_=>trivial
    | some ah,h3=>exact Rel.mono hF h3
    | some (aa (i,e,k)),h3 =>
     simp only [cH]
     by_cases hi:i=id
     ·rw [aJ hi];trivial
     ·rw [aI hi]
      exact ⟨h3.1,h3.2.mono hF (hH i v hi h3.1).2⟩
 refine { h with env:=fun t=>he _ _ (h.env t),mem:=fun s cs hcs=>?_,hown:=fun i x b hi hx=>?_,sown:=fun s' r hs'=>?_,glob:=fun g k e hg=>?_,below:=?_ }
 ·simp only [St.up,St.map,Option.map_eq_some_iff] at hcs
  obtain ⟨cs0,h0,rfl⟩:=hcs
  obtain ⟨r,us,e',h1,h2,h3,h4⟩:=h.mem s cs0 h0
  refine ⟨r,us,e',h1,by rw [hS s r h1];exact h2,by simpa using h3,fun j c v hc' hv=>?_⟩
  rw [aM] at hc'
  cases hc0:cs0[j]? with
  | none=>rw [hc0] at hc';cases hc'
  | some c0 =>
   rw [hc0] at hc'
   simp only [aY,Option.some.injEq] at hc'
   subst hc'
   exact hc c0 v (h4 j c0 v hc0 hv)
 ·rw [hsz];exact h.hown i x b hi hx
 ·rw [hsz];exact h.sown s' r hs'
 ·exact he (.pK k e 0) _ (h.glob g k e hg)
 ·have base:=h.below
  refine ⟨Si.trans base.os,C9.trans base.tape,hout.trans base.output,by rw [hsz];exact base.size,fun k hk vN=>?_⟩
  rw [hblk k (fun e=>by
   rcases (h.hown id x k hx e).1 with h5 | h5
   ·omega
   ·exact vN h5)]
  exact base.block k hk vN
theorem OH (ids:ai ax) (i e k:ax) (l:ai AV) (n off:ax) (hi:i ∉ ids):cQ.oQ (.nN i e k l n off) ids=.nN i e k l n off:=by
 induction ids with
 | nil=>rfl
 | cons j r ih =>
  have ZX:i≠j:=fun e=>hi (e ▸ List.mem_cons_self ..)
  have:cQ.fz j (.nN i e k l n off)=.nN i e k l n off:=by simp [cQ.fz,cH,ZX]
  simp only [cQ.oQ,dX,this]
  exact ih fun hm=>hi (List.mem_cons_of_mem _ hm)
theorem KL {o:Oper} {t:TypeId} {x y:Operand} (ho:o.op=.store t x y) (hT:∀ t i,C.ty t=aa i→gS P t i) (h:Inv C w0 F0 nt st a w H σ)
  (hK:(match o.dst with | none=>qU C t (st.get C x) (st.get C y) st K | some _=>ah)=aa r):Goes C P w0 F0 nt st a w σ K r o:=by
 cases eC:o.dst with
 | some d=>rw [eC] at hK;cases hK
 | none =>
  rw [eC] at hK
  simp only [qU] at hK
  have hr:=h.get x
  have goes:∀ {w':az} {st':St} {H':ax→ak aC},(storeVar t (match a.eval x with | .pointer (aa q)=>q | _=>⟨0,0,ah⟩) (a.eval y)).run P w=.ok () w'→(∃ q,a.eval x=.pointer (aa q))→K st'=aa r→Inv C w0 F0 nt st' a w' H' σ→kS C st o σ w w'→Goes C P w0 F0 nt st a w σ K r o:=by
   intro w' st' H' hrun ⟨q,hq⟩ hK hI hk
   intro next Q hn
   unfold Oper.wp
   rw [hq] at hrun
   simp only at hrun
   have:(execOp a.eval o).run P w=.ok .skip w':=by
    simp only [execOp,ho,hq]
    simp [Instr.storeAt,Instr.sureAddr,hrun]
   rw [this]
   refine hn _ w' st' H' σ hK ?_ hk ⟨fun s _=>rfl,.inr (.inr rfl)⟩ (Only.put a o.dst undef)
   rw [eC];exact hI
  split at hK
  ·rename_i s off jz
   obtain ⟨i,new,hi,hK,hlen,sA,nR,hagg,Dc,I2⟩:=lu hT (h.get y) hK
   have ht:=hT t i hi
   rw [jz] at hr
   obtain ⟨g,hg,hx⟩:=hr
   split at hK
   ·rename_i cs hcs
    cases hle:bL (off+new.length) cs.length with
    | false=>rw [hle] at hK;cases hK
    | true =>
     rw [hle] at hK
     have A9:=aU hle
     obtain ⟨g',vs,e,h1,h2,h3,h4⟩:=h.mem s cs hcs
     have EI:g'=g:=by rw [hg] at h1;exact (Option.some.inj h1).symm
     subst EI
     have hsz:(a.eval y).cells.toList.length=i.size:=by rw [sA.1,hlen]
     have hst:=ht.run_store w g' off e vs (a.eval y) _ h2 rfl hsz (by rw [hsz,h3,← hlen];exact A9) sA.one
     have zF:CR w (Fr w0.heap.size F0 H σ) H σ (oU cs new off) (vs.take off ++ (a.eval y).cells.toList ++ vs.drop (off+(a.eval y).cells.toList.length)):=CR.oU ⟨h3,h4⟩ sA off
     refine goes (w':=w.setRow g' (vs.take off ++ (a.eval y).cells.toList ++ vs.drop (off+(a.eval y).cells.toList.length)).toArray) (by rw [hx];exact hst) ⟨_,hx⟩ hK (h.kU (w':=w.setRow g' (vs.take off ++ (a.eval y).cells.toList ++ vs.drop (off+(a.eval y).cells.toList.length)).toArray) hg rfl rfl rfl (setRow_size ..) (fun b hb=>setRow_other w g' b _ hb) (setRow_heap w g' _ _ e _ h2) zF) ?_
     unfold kS
     rw [ho]
     simp only [jz]
     exact ⟨by simp,fun b hb hne=>setRow_other w g' b _ fun e=>hne (by rw [e];exact hg)⟩
   ·cases hK
  ·rename_i id e k l n off jz
   obtain ⟨i,new,hi,hK,hlen,sA,nR,hagg,Dc,I2⟩:=lu hT (h.get y) hK
   have ht:=hT t i hi
   split at hK
   case h_2=>cases hK
   rename_i ie hie
   have J4:=hT e ie hie
   cases SD:Nat.beq k ie.size with
   | false=>rw [SD] at hK;cases hK
   | true =>
   have vM:=aF SD
   rw [SD,Bool.true_and] at hK
   cases hb:(bL (off+new.length) k && (st.get C y).told && !((st.get C y).ids.any (Nat.beq id))) with
   | false=>rw [hb] at hK;cases hK
   | true =>
    rw [hb] at hK
    simp only [aN] at hK
    rw [Bool.and_eq_true,Bool.and_eq_true] at hb
    have kp:=aU hb.1.1
    have OE:id ∉ (st.get C y).ids:=fun hm=>by
     have h2:=hb.2
     simp only [Bool.not_eq_true',bV] at h2
     exact h2 id hm (dw id)
    obtain ⟨H1,h1,pZ,qa,Dg⟩:=h.Bc (st.get C y).ids
    have hr1:=pZ _ _ hr
    rw [jz,OH _ _ _ _ _ _ _ OE] at hr1
    obtain ⟨g,m,cap,OG,hown,hn,hx⟩:=hr1
    have hy:=kg (pZ _ _ (h.get y)) hb.1.2 (fun i hi=>hi)
    have hsz:(a.eval y).cells.toList.length=i.size:=by rw [sA.1,hlen]
    have sw:=fun j v hj hv=>hy.cells ht hagg.1 hagg.2 hsz j v hj hv
    have vN:new.length=(a.eval y).cells.toList.length:=by rw [hlen,hsz]
    have vS:=I2 hb.1.2
    have GN:∀ (old:AV) (xo:ai aC),(∀ j v,j < k→xo[j]?=aa v→Rel w (Fr w0.heap.size F0 H1 σ) (old.cell j) v)→(ie.kd.agg=af→k=1)→∀ j v,j < k →
      (if off≤j∧j < off+(a.eval y).cells.toList.length then (a.eval y).cells.toList[j - off]? else xo[j]?)=aa v →
      Rel w (Fr w0.heap.size F0 H1 σ) ((setCells ie.kd.agg k old off (new.map Cell.cP)).cell j) v:=by
     intro old xo ho zE j v hj hv
     have vT:∀ q,q < new.length→(a.eval y).cells.toList[q]?=aa v→Rel w (Fr w0.heap.size F0 H1 σ) ((new.map Cell.cP).getD q .un) v:=by
      intro q hq hvq
      have h3:=sw q v (by rw [← hlen];exact hq) hvq
      cases YU:i.kd.agg with
      | true =>
       rw [YU] at vS
       simp only [aN] at vS
       rw [← vS] at h3
       exact h3
      | false =>
       rw [YU] at vS
       simp only [bB] at vS
       have Q1:=ht.one YU
       have hq0:q=0:=by omega
       subst hq0
       obtain ⟨c,hc⟩:=eD.1 (hlen.trans Q1)
       subst hc
       simp only [List.headD_cons] at vS
       rw [← vS] at h3
       simp only [List.map_cons,List.map_nil,List.getD_cons_zero]
       have wT:=sA.one v (aV hvq)
       cases vT:c.cP with
       | ag l2 =>
        exfalso
        rw [vS] at vT
        rw [vT] at hy
        have:=hagg.2 YU
        generalize a.eval y=Y at hy this
        cases hy
        cases this
       | _=>rw [vT] at h3;exact h3
     unfold setCells
     cases Z0:ie.kd.agg with
     | true =>
      simp only [aN]
      have e:((List.range k).map fun j=>bif bL off j && bI j (off+(new.map Cell.cP).length) then (new.map Cell.cP).getD (j - off) .un else old.cell j).getD j .un=bif bL off j && bI j (off+(new.map Cell.cP).length) then (new.map Cell.cP).getD (j - off) .un else old.cell j:=by
       simp [List.getD,hj]
      show Rel w _ (List.getD _ j .un) v
      rw [e]
      by_cases hc:off≤j∧j < off+(a.eval y).cells.toList.length
      ·rw [aJ hc] at hv
       have e1:bL off j=aj:=jb hc.1
       have e2:bI j (off+(new.map Cell.cP).length)=aj:=by unfold bI;exact jb (by rw [aP,vN];exact hc.2)
       simp only [e1,e2,Bool.and_self,aN]
       exact vT _ (by rw [vN];omega) hv
      ·rw [aI hc] at hv
       have e1:(bL off j && bI j (off+(new.map Cell.cP).length))=af:=by
        rw [Bool.eq_false_iff]
        intro hh
        rw [Bool.and_eq_true] at hh
        have q1:=aU hh.1
        have q2:=hh.2
        unfold bI at q2
        have q3:=aU q2
        rw [aP,vN] at q3
        exact hc ⟨q1,q3⟩
       simp only [e1,bB]
       exact ho j v hj hv
     | false =>
      have hk:=zE Z0
      have Z1:0 < new.length:=by rw [hlen];exact ht.pos.1
      have Sr:j=0:=by omega
      have Z2:off=0:=by omega
      subst Sr Z2
      rw [aJ ⟨Nat.le_refl _,by rw [← vN];omega⟩] at hv
      have h4:=vT 0 Z1 hv
      simp only [bB]
      have e:(new.map Cell.cP).headD .un=(new.map Cell.cP).getD 0 .un:=by cases new <;> rfl
      rw [e]
      have wT:=sA.one v (aV hv)
      cases VZ:(new.map Cell.cP).getD 0 .un with
      | ag l2=>rw [VZ] at h4;cases h4;cases wT
      | _=>rw [VZ] at h4;exact h4
    have Z3:off+(a.eval y).cells.toList.length≤k:=by rw [← vN];exact kp
    obtain ⟨g',cap',cur,q1,q2,q3,q4,q5,q6,q7⟩:=hown.rr (by omega)
    cases q1
    have abA:l.length * k≤cur.size:=by rw [q5];exact bE _ q3
    have Z4:(n+1) * k≤l.length * k:=bE _ hn
    rw [dC,Nat.one_mul] at Z4
    have hst:=ht.run_store w g (n * k+off) e cur.toList (a.eval y) _ (by simpa using q2) rfl hsz (by have:cur.toList.length=cur.size:=Array.length_toList;omega) sA.one
    have tF:ie.kd.agg=af→k=1:=by
     intro Z0
     rw [vM];exact J4.one Z0
    have Z5:=q7.upd n hn (setCells ie.kd.agg k (l.getD n .un) off (new.map Cell.cP)) off (a.eval y).cells.toList Z3 sA.one (fun j v hj hv=>by
     refine GN (l.getD n .un) ((cur.toList.take (l.length * k)).drop (n * k)) (fun j v hj hv=>?_) tF j v hj ?_
     ·rw [List.getElem?_drop] at hv
      exact q7.2.2 n j v hn hj hv
     ·rw [List.getElem?_drop];exact hv)
    have YV:((cur.toList.take (l.length * k)).take (n * k+off) ++ (a.eval y).cells.toList ++ (cur.toList.take (l.length * k)).drop (n * k+off+(a.eval y).cells.toList.length)) =
      (cur.toList.take (n * k+off) ++ (a.eval y).cells.toList ++ cur.toList.drop (n * k+off+(a.eval y).cells.toList.length)).take (l.length * k):=by
     apply List.ext_getElem?
     intro j
     have qW:cur.toList.length=cur.size:=Array.length_toList
     have Z6:(cur.toList.take (l.length * k)).length=l.length * k:=by simp;omega
     have x1:=sD (cur.toList.take (l.length * k)) (a.eval y).cells.toList (n * k+off) j (by rw [Z6];omega)
     have x2:=sD cur.toList (a.eval y).cells.toList (n * k+off) j (by rw [qW];omega)
     have x3:((cur.toList.take (n * k+off) ++ (a.eval y).cells.toList ++ cur.toList.drop (n * k+off+(a.eval y).cells.toList.length)).take (l.length * k))[j]?=if j < l.length * k then (cur.toList.take (n * k+off) ++ (a.eval y).cells.toList ++ cur.toList.drop (n * k+off+(a.eval y).cells.toList.length))[j]? else ah:=bJ
     rw [x1,x3,x2,bJ]
     by_cases h5:n * k+off≤j∧j < n * k+off+(a.eval y).cells.toList.length
     ·rw [aJ h5,aJ (by omega),aJ h5]
     ·rw [aI h5,aI h5]
    refine goes (w':=w.setRow g (cur.toList.take (n * k+off) ++ (a.eval y).cells.toList ++ cur.toList.drop (n * k+off+(a.eval y).cells.toList.length)).toArray) (by rw [hx];exact hst) ⟨_,hx⟩ hK (h1.VY (w':=w.setRow g (cur.toList.take (n * k+off) ++ (a.eval y).cells.toList ++ cur.toList.drop (n * k+off+(a.eval y).cells.toList.length)).toArray) OG rfl rfl rfl (setRow_size ..) (fun b hb=>setRow_other w g b _ fun e=>hb (by rw [e];rfl)) _ (fun e2 k2 l2 OI=>?_)) ?_
    ·obtain ⟨g2,Z7,Z8,p1,p2,p3,p4,p5,p6,p7⟩:=OI.rr (by
      obtain ⟨_,xs2,⟨_,o2⟩,_⟩:=OI
      rcases o2 with ⟨o2,_⟩ | ⟨_,_,_,o2,_⟩
      ·cases o2
      ·have:=bA (fun v=>match v with | Value.slice _ n _=>n | _=>0) o2
       simp only at this
       omega)
     have Q2:l.length=l2.length:=by
      have:=bA (fun v=>match v with | Value.slice _ n _=>n | _=>0) p1
      exact this
     have EI:g=g2:=by
      have:=bA (fun v=>match v with | Value.slice (aa a) _ _=>a.block | _=>0) p1
      exact this
     have hcc:cap=Z7:=by
      have:=bA (fun v=>match v with | Value.slice _ _ n=>n | _=>0) p1
      exact this
     subst EI hcc
     rw [q2] at p2
     have EP:cur=Z8∧e=e2:=by
      have:=Option.some.inj p2
      injection this with i1 i2 i3
      exact ⟨i1,i2⟩
     obtain ⟨V0,rfl⟩:=EP
     subst V0
     have Z9:k=k2:=Nat.eq_of_mul_eq_mul_left (show 0 < cap by omega) (by rw [← q5,p5])
     subst Z9
     refine ⟨by rw [dI,Q2],q6,_,⟨Z5.1,.inr ⟨g,cap,_,by rw [dI],Nat.zero_le _,setRow_heap w g _ _ e _ q2,by rw [dI];exact q3,q4,?_,?_⟩⟩,Z5.2.1,?_⟩
     ·have z1:(a.eval y).cells.toList.length=(a.eval y).cells.size:=Array.length_toList
      simp only [List.size_toArray,au,dV,List.length_drop,Array.length_toList]
      rw [← q5]
      omega
     ·rw [dI,YV]
     ·exact (RR.mono (w':=w.setRow g _) Z5 fun b hb hf=>⟨hf,setRow_other w g b _ fun e=>hf.2.1 id _ OG (by rw [e];rfl)⟩).2.2
    ·unfold kS
     rw [ho]
     simp only [jz]
  ·cases hK
end
section
variable {C:jT} {P:bn} {w0:az} {F0:Fs} {nt:ax} {st:St} {a:Act} {w:az} {H:ax→ak aC} {σ:ax→ak ax}
def xS (tmps:bF aC):ResultVar→Sem aC
 | .tmp t=>pure (tmps.getD t undef)
 | .cell a t=>do loadVar t (← asAddr (tmps.getD a undef))
theorem SE (hT:∀ t i,C.ty t=aa i→gS P t i) (h:Inv C w0 F0 nt st a w H σ) (rv:ResultVar) (ht:(jX C st rv).told=aj):∃ v,(xS a.tmps rv).run P w=.ok v w∧fL w (Fr w0.heap.size F0 H σ) H σ (jX C st rv) v:=by
 cases rv with
 | tmp t=>exact ⟨_,rfl,h.env t⟩
 | cell x ty =>
  unfold jX at ht ⊢
  simp only at ht ⊢
  split at ht
  ·rename_i s off i jz hi
   split at ht
   ·rename_i cs hcs
    cases hle:bL (off+i.size) cs.length with
    | false=>rw [hle] at ht;cases ht
    | true =>
     rw [hle] at ht
     have A9:=aU hle
     have hx:=h.env x
     rw [jz] at hx
     obtain ⟨b,hb,hx⟩:=hx
     obtain ⟨b',vs,e,h1,h2,h3,h4⟩:=h.mem s cs hcs
     have qV:b'=b:=by rw [hb] at h1;exact (Option.some.inj h1).symm
     subst qV
     have V1:=hT ty i hi
     have hl:((vs.drop off).take i.size).length=i.size:=by simp;omega
     have zF:CR w (Fr w0.heap.size F0 H σ) H σ ((cs.drop off).take i.size) ((vs.drop off).take i.size):=(CR.drop ⟨h3,h4⟩ off).take i.size
     have nR:i.kd.agg=aj∨i.size=1:=by
      cases hh:i.kd.agg with
      | true=>exact .inl rfl
      | false=>exact .inr (V1.one hh)
     refine ⟨if i.kd.agg then .agg ((vs.drop off).take i.size).toArray else ((vs.drop off).take i.size).headD undef,?_,?_⟩
     ·have hr:=V1.run_load nR w b' off _ hl (fun j v hv=>by
       rw [bJ,List.getElem?_drop] at hv
       split at hv
       ·rw [cell_of_row w b' (off+j) vs.toArray e (0,0) h2];simpa using hv
       ·cases hv)
      simp only [xS,hx,asAddr,Sem.run_bind,Sem.run_pure,Result.andThen_ok]
      exact hr
     ·simp only [aN]
      exact tS zF _ (nR.imp id fun e=>by simp;omega)
   ·cases ht
  ·cases ht
theorem sF (hT:∀ t i,C.ty t=aa i→gS P t i) (h:Inv C w0 F0 nt st a w H σ) (fn:Func) (ht:∀ rv ∈ fn.results.toList,(jX C st rv).told=aj) :
  ∃ vs:ai aC,vs.length=fn.results.toList.length∧(results fn a.tmps).run P w=.ok (zJ vs) w ∧
   ∀ (j:ax) (e:cQ) (v:aC),(fn.results.toList.map (jX C st))[j]?=aa e→vs[j]?=aa v→fL w (Fr w0.heap.size F0 H σ) H σ e v:=by
 have key:∀ l:ai ResultVar,(∀ rv ∈ l,(jX C st rv).told=aj)→∃ vs:ai aC,vs.length=l.length∧(l.mapM (xS a.tmps)).run P w=.ok vs w ∧
   ∀ (j:ax) (e:cQ) (v:aC),(l.map (jX C st))[j]?=aa e→vs[j]?=aa v→fL w (Fr w0.heap.size F0 H σ) H σ e v:=by
  intro l
  induction l with
  | nil=>exact fun _=>⟨[],rfl,by simp,fun j e v h1 _=>by simp at h1⟩
  | cons rv l ih =>
   intro hl
   obtain ⟨v,h1,h2⟩:=SE hT h rv (hl rv (List.mem_cons_self ..))
   obtain ⟨vs,h3,h4,h5⟩:=ih fun rv hm=>hl rv (List.mem_cons_of_mem _ hm)
   refine ⟨v :: vs,by simp [h3],by simp [List.mapM_cons,h1,h4],fun j e u q1 q2=>?_⟩
   cases j with
   | zero=>simp at q1 q2;subst q1 q2;exact h2
   | succ j=>exact h5 j e u (by simpa using q1) (by simpa using q2)
 obtain ⟨vs,h1,h2,h3⟩:=key fn.results.toList ht
 refine ⟨vs,h1,?_,h3⟩
 have hm:(fn.results.mapM (xS a.tmps)).run P w=.ok vs.toArray w:=by
  rw [Array.mapM_eq_mapM_toList]
  simp [h2]
 unfold results
 have:(fn.results.mapM fun x=>match x with
  | .tmp t=>pure (a.tmps.getD t undef)
  | .cell b t=>do loadVar t (← asAddr (a.tmps.getD b undef)))=fn.results.mapM (xS a.tmps):=by
  congr 1
 rw [Sem.run_bind]
 erw [this]
 rw [hm]
 simp only [Result.andThen_ok,Sem.run_pure]
 congr 1
 match vs with
 | []=>simp [zJ]
 | [x]=>simp [zJ]
 | x :: y :: r=>simp [zJ]
end
end Sx
namespace Sx
open Go Go.RowKit Go.Lib
open Classical in
noncomputable def nr (R:ax→aC→Prop):ax→ak aC:=fun n=>if h:∃ x,R n x then aa (Classical.choose h) else ah
theorem nu {R:ax→aC→Prop} {n:ax} {x:aC} (h:nr R n=aa x):R n x:=by
 unfold nr at h
 split at h
 ·rename_i hh;cases h;exact Classical.choose_spec hh
 ·cases h
theorem xT {R:ax→aC→Prop} {n:ax} {x:aC} (hf:∀ y,R n y→y=x) (h:R n x):nr R n=aa x:=by
 unfold nr
 have hh:∃ x,R n x:=⟨x,h⟩
 rw [dif_pos hh]
 exact bA aa (hf _ (Classical.choose_spec hh))
theorem qb:∀ {l m:ai ax},lF l m=aj→l=m
 | [],[],_=>rfl
 | x :: r,y :: t,h=>by
  simp only [lF,Bool.and_eq_true] at h
  rw [aF h.1,qb h.2]
 | [],_ :: _,h=>by cases h
 | _ :: _,[],h=>by cases h
theorem Ac {l:ai ax} (h:nodup l=aj) {i j x:ax} (hi:l[i]?=aa x) (hj:l[j]?=aa x):i=j:=by
 induction l generalizing i j with
 | nil=>simp at hi
 | cons y r ih =>
  simp only [nodup,Bool.and_eq_true,Bool.not_eq_true',bV] at h
  cases i with
  | zero =>
   cases j with
   | zero=>rfl
   | succ j =>
    simp at hi hj
    subst hi
    exact absurd (dw y) (h.1 y (aV hj))
  | succ i =>
   cases j with
   | zero =>
    simp at hi hj
    subst hj
    exact absurd (dw y) (h.1 y (aV hi))
   | succ j=>exact bA Nat.succ (ih h.2 (by simpa using hi) (by simpa using hj))
theorem xU {l m:ai ax} (h:nodup (l ++ m)=aj):nodup l=aj∧nodup m=aj∧∀ x ∈ l,x ∉ m:=by
 induction l with
 | nil=>exact ⟨rfl,h,by simp⟩
 | cons x l ih =>
  simp only [List.cons_append,nodup,Bool.and_eq_true] at h
  obtain ⟨h1,h2,h3⟩:=ih h.2
  have hx:=h.1
  simp only [Bool.not_eq_true',bV] at hx
  refine ⟨?_,h2,fun y hy=>?_⟩
  ·simp only [nodup,Bool.and_eq_true,Bool.not_eq_true',bV]
   exact ⟨fun y hy=>hx y (List.mem_append_left _ hy),h1⟩
  ·rcases List.mem_cons.1 hy with rfl | hy
   ·exact fun hm=>hx y (List.mem_append_right _ hm) (dw y)
   ·exact h3 y hy
theorem oG {site:ax→ax}:∀ {ks:ai mK} {cs:ai Cell} {l:ai AV},IX site ks cs=aa l→cs.length=ks.length∧l.length=ks.length ∧
  ∀ (j:ax) (k:mK) (c:Cell),ks[j]?=aa k→cs[j]?=aa c→∃ v,l[j]?=aa v∧Oe site k c=aa v
 | [],[],l,h=>by cases h;exact ⟨rfl,rfl,fun j k c hk=>by simp at hk⟩
 | k :: ks,c :: cs,l,h=>by
  simp only [IX] at h
  obtain ⟨v,hv,h⟩:=aR.1 h
  obtain ⟨vs,uS,h⟩:=aR.1 h
  cases h
  obtain ⟨h1,h2,h3⟩:=oG uS
  refine ⟨by simp [h1],by simp [h2],fun j k' c' hk hc=>?_⟩
  cases j with
  | zero=>simp at hk hc;subst hk;subst hc;exact ⟨v,rfl,hv⟩
  | succ j=>obtain ⟨u,q1,q2⟩:=h3 j k' c' (by simpa using hk) (by simpa using hc);exact ⟨u,by simpa using q1,q2⟩
 | [],_ :: _,l,h=>by cases h
 | _ :: _,[],l,h=>by cases h
theorem oZ {site:ax→ax} {mem:ax→ak (ai Cell)}:∀ {objs:ai (Src×ai mK)} {i0:ax} {l:ai AV},tL site mem i0 objs=aa l→l.length=objs.length ∧
  ∀ (i:ax) (o:Src×ai mK),objs[i]?=aa o→∃ cs vs,mem (site (i0+i))=aa cs∧IX site o.2 cs=aa vs∧l[i]?=aa (.ag vs)
 | [],i0,l,h=>by cases h;exact ⟨rfl,fun i o ho=>by simp at ho⟩
 | o :: r,i0,l,h=>by
  simp only [tL] at h
  split at h
  ·rename_i cs hcs
   obtain ⟨vs,uS,h⟩:=aR.1 h
   obtain ⟨t,ht,h⟩:=aR.1 h
   cases h
   obtain ⟨h1,h2⟩:=oZ ht
   refine ⟨by simp [h1],fun i o' ho=>?_⟩
   cases i with
   | zero=>simp at ho;subst ho;exact ⟨cs,vs,hcs,uS,rfl⟩
   | succ i =>
    obtain ⟨cs',Z',q1,q2,q3⟩:=h2 i o' (by simpa using ho)
    exact ⟨cs',Z',by rw [show i0+(i+1)=i0+1+i by omega];exact q1,q2,by simpa using q3⟩
  ·cases h
def pG (site:ax→ax) (mem:ax→ak (ai Cell)) (objs:ai (Src×ai mK)) (i0 i j id:ax):Prop :=
 ∃ (o:Src×ai mK) (cs:ai Cell) (e k e' k':ax) (l:ai AV),objs[i]?=aa o∧mem (site (i0+i))=aa cs∧o.2[j]?=aa (.own e k)∧cs[j]?=aa (.own id e' k' l)
theorem tT:∀ {ks:ai mK} {cs:ai Cell} {j e k id e' k':ax} {l:ai AV},ks[j]?=aa (.own e k)→cs[j]?=aa (.own id e' k' l)→id ∈ wR aj ks cs
 | [],_,j,e,k,id,e',k',l,h,_=>by simp at h
 | _ :: _,[],j,e,k,id,e',k',l,_,h=>by simp at h
 | q :: ks,c :: cs,j,e,k,id,e',k',l,h,h'=>by
  cases j with
  | zero =>
   simp at h h'
   subst h;subst h'
   simp [wR,Cell.ids]
  | succ j =>
   have:=tT (ks:=ks) (cs:=cs) (j:=j) (by simpa using h) (by simpa using h')
   cases q <;> exact List.mem_append_right _ this
theorem GP:∀ {ks:ai mK} {cs:ai Cell} {j j' e k id e' k' e2 k2 sG e3 k3:ax} {l l2:ai AV},nodup (wR aj ks cs)=aj→j < j'→ks[j]?=aa (.own e k)→cs[j]?=aa (.own id e' k' l)→ks[j']?=aa (.own e2 k2)→cs[j']?=aa (.own sG e3 k3 l2)→id≠sG
 | [],_,j,j',e,k,id,e',k',e2,k2,sG,e3,k3,l,l2,_,_,h,_,_,_=>by simp at h
 | _ :: _,[],j,j',e,k,id,e',k',e2,k2,sG,e3,k3,l,l2,_,_,_,h,_,_=>by simp at h
 | q :: ks,c :: cs,j,j',e,k,id,e',k',e2,k2,sG,e3,k3,l,l2,hn,hlt,h1,h2,h3,h4=>by
  cases j' with
  | zero=>omega
  | succ j' =>
   cases j with
   | zero =>
    simp at h1 h2
    subst h1;subst h2
    have hn:nodup (id :: wR aj ks cs)=aj:=by simpa [wR,Cell.ids] using hn
    have hm:sG ∈ wR aj ks cs:=tT (by simpa using h3) (by simpa using h4)
    simp only [nodup,Bool.and_eq_true,Bool.not_eq_true',bV] at hn
    intro e
    exact hn.1 sG hm (by rw [e];exact dw sG)
   | succ j =>
    have V2:nodup (wR aj ks cs)=aj:=by
     cases q <;> exact (xU hn).2.1
    exact GP V2 (by omega:j < j') (by simpa using h1) (by simpa using h2) (by simpa using h3) (by simpa using h4)
theorem qX {site:ax→ax} {mem:ax→ak (ai Cell)}:∀ {objs:ai (Src×ai mK)} {i0 i j id:ax},pG site mem objs i0 i j id→id ∈ gw aj site mem i0 objs
 | [],i0,i,j,id,h=>by obtain ⟨o,cs,e,k,e',k',l,h,_⟩:=h;simp at h
 | o :: r,i0,i,j,id,h=>by
  obtain ⟨o',cs,e,k,e',k',l,h1,h2,h3,h4⟩:=h
  cases i with
  | zero =>
   simp at h1
   subst h1
   have h2:mem (site i0)=aa cs:=h2
   simp only [gw,h2]
   exact List.mem_append_left _ (tT h3 h4)
  | succ i =>
   exact List.mem_append_right _ (qX ⟨o',cs,e,k,e',k',l,by simpa using h1,by rw [show i0+1+i=i0+(i+1) by omega];exact h2,h3,h4⟩)
theorem qc {site:ax→ax} {mem:ax→ak (ai Cell)}:∀ {objs:ai (Src×ai mK)} {i0 i j i' j' id nw:ax},nodup (gw aj site mem i0 objs)=aj→pG site mem objs i0 i j id→pG site mem objs i0 i' j' nw→(i < i'∨i=i'∧j < j')→id≠nw
 | [],i0,i,j,i',j',id,nw,_,h,_,_=>by obtain ⟨o,cs,e,k,e',k',l,h,_⟩:=h;simp at h
 | o :: r,i0,i,j,i',j',id,nw,hn,h,h',hlt=>by
  have V2:=xU hn
  cases i with
  | zero =>
   obtain ⟨o1,cs,e,k,e',k',l,h1,h2,h3,h4⟩:=h
   simp at h1
   subst h1
   have h2:mem (site i0)=aa cs:=h2
   cases i' with
   | zero =>
    obtain ⟨o2,xa,e2,k2,e3,k3,l2,h5,h6,h7,h8⟩:=h'
    simp at h5
    subst h5
    have h6:mem (site i0)=aa xa:=h6
    rw [h2] at h6
    cases h6
    have hk:=V2.1
    simp only [h2] at hk
    exact GP hk (by rcases hlt with h | h;omega;exact h.2) h3 h4 h7 h8
   | succ i' =>
    obtain ⟨o2,xa,e2,k2,e3,k3,l2,h5,h6,h7,h8⟩:=h'
    have hm:nw ∈ gw aj site mem (i0+1) r:=qX ⟨o2,xa,e2,k2,e3,k3,l2,by simpa using h5,by rw [show i0+1+i'=i0+(i'+1) by omega];exact h6,h7,h8⟩
    have hm':id ∈ (match mem (site i0) with | some cs=>wR aj o.2 cs | none=>[]):=by rw [h2];exact tT h3 h4
    exact fun e=>V2.2.2 id hm' (e ▸ hm)
  | succ i =>
   cases i' with
   | zero=>rcases hlt with h | h <;> omega
   | succ i' =>
    have conv:∀ {i j id:ax},pG site mem (o :: r) i0 (i+1) j id→pG site mem r (i0+1) i j id:=by
     intro i j id ⟨o1,cs,e,k,e',k',l,h1,h2,h3,h4⟩
     exact ⟨o1,cs,e,k,e',k',l,by simpa using h1,by rw [show i0+1+i=i0+(i+1) by omega];exact h2,h3,h4⟩
    exact qc V2.2.1 (conv h) (conv h') (by rcases hlt with h | h;exact .inl (by omega);exact .inr ⟨by omega,h.2⟩)
theorem Ad {site:ax→ax} {mem:ax→ak (ai Cell)} {objs:ai (Src×ai mK)} {i0 i j i' j' id:ax} (hn:nodup (gw aj site mem i0 objs)=aj) (h:pG site mem objs i0 i j id) (h':pG site mem objs i0 i' j' id):i=i'∧j=j':=by
 rcases Nat.lt_trichotomy i i' with h1 | h1 | h1
 ·exact absurd rfl (qc hn h h' (.inl h1))
 ·subst h1
  rcases Nat.lt_trichotomy j j' with h2 | h2 | h2
  ·exact absurd rfl (qc hn h h' (.inr ⟨rfl,h2⟩))
  ·exact ⟨rfl,h2⟩
  ·exact absurd rfl (qc hn h' h (.inr ⟨rfl,h2⟩))
 ·exact absurd rfl (qc hn h' h (.inl h1))
theorem xV {s j s' j':ax} (h:ir s j=ir s' j') (hj:j < 1000) (hj':j' < 1000):s=s'∧j=j':=by
 unfold ir at h
 omega
theorem vU {s:ax}:∀ {ks:ai mK} {j0 j e k:ax},ks[j]?=aa (.own e k)→ir s (j0+j) ∈ wX s j0 ks
 | [],j0,j,e,k,h=>by simp at h
 | q :: ks,j0,j,e,k,h=>by
  cases j with
  | zero=>simp at h;subst h;exact List.mem_cons_self ..
  | succ j =>
   have:=vU (s:=s) (ks:=ks) (j0:=j0+1) (j:=j) (by simpa using h)
   rw [show j0+1+j=j0+(j+1) by omega] at this
   cases q <;> first | exact this | exact List.mem_cons_of_mem _ this
theorem tU {site:ax→ax}:∀ {objs:ai (Src×ai mK)} {i0 i j e k:ax} {o:Src×ai mK},objs[i]?=aa o→o.2[j]?=aa (.own e k)→ir (site (i0+i)) j ∈ iz site i0 objs
 | [],i0,i,j,e,k,o,h,_=>by simp at h
 | q :: r,i0,i,j,e,k,o,h,h'=>by
  cases i with
  | zero =>
   simp at h
   subst h
   have:=vU (s:=site i0) (j0:=0) h'
   rw [Nat.zero_add] at this
   exact List.mem_append_left _ this
  | succ i =>
   have:=tU (site:=site) (objs:=r) (i0:=i0+1) (i:=i) (by simpa using h) h'
   rw [show i0+1+i=i0+(i+1) by omega] at this
   exact List.mem_append_right _ this
theorem qd {site:ax→ax} {s:ax}:∀ {ks:ai mK} {j0:ax} {l:ai AV},(kI site s j0 ks l).length=ks.length∧∀ (j:ax) (k:mK),ks[j]?=aa k→(kI site s j0 ks l)[j]?=aa (match k with
  | .v=>.val (l.getD (j0+j) .un)
  | .own e k=>.own (ir s (j0+j)) e k (l.getD (j0+j) .un).elems
  | .lr g os=>.lr g (os.map site))
 | [],j0,l=>⟨rfl,fun j k h=>by simp at h⟩
 | q :: ks,j0,l=>by
  obtain ⟨h1,h2⟩:=qd (site:=site) (s:=s) (ks:=ks) (j0:=j0+1) (l:=l)
  refine ⟨by cases q <;> simp [kI,h1],fun j k hk=>?_⟩
  cases j with
  | zero=>simp at hk;subst hk;cases q <;> rfl
  | succ j =>
   have:=h2 j k (by simpa using hk)
   rw [show j0+1+j=j0+(j+1) by omega] at this
   cases q <;> simpa [kI] using this
theorem vV {st:St} {xs:ai cQ}:∀ {objs:ai (Src×ai mK)} {acc sites:ai ax},tK st xs acc objs=aa sites→sites.length=acc.length+objs.length
 | [],acc,sites,h=>by cases h;rfl
 | o :: r,acc,sites,h=>by
  simp only [tK] at h
  obtain ⟨s,_,h⟩:=aR.1 h
  have:=vV h
  simp at this ⊢
  omega
def erases (H:ax→ak aC) (ids:ai ax):ax→ak aC:=ids.foldl Sx.erase H
theorem Di {ids:ai ax}:∀ {H:ax→ak aC} {i:ax} {x:aC},erases H ids i=aa x→H i=aa x∧i ∉ ids:=by
 induction ids with
 | nil=>intro H i x h;exact ⟨h,by simp⟩
 | cons a r ih =>
  intro H i x h
  obtain ⟨h1,h2⟩:=ih (H:=Sx.erase H a) h
  obtain ⟨h3,h4⟩:=cr h1
  exact ⟨h4,fun hm=>by rcases List.mem_cons.1 hm with e | e;exact h3 e;exact h2 e⟩
section
variable {w:az} {F:ax→Prop} {H:ax→ak aC} {σ:ax→ak ax}
theorem OJ (ids:ai ax):∀ {H:ax→ak aC} {e:cQ} {x:aC},fL w F H σ e x→fL w F (erases H ids) σ (ids.foldl (fun e i=>cQ.kl i e) e) x:=by
 induction ids with
 | nil=>intro H e x h;exact h
 | cons a r ih=>intro H e x h;exact ih (sr a (fun _ _ hb=>hb) e x h)
theorem KM (ids:ai ax):∀ {H:ax→ak aC} {c:Cell} {x:aC},dr w F H σ c x→dr w F (erases H ids) σ (ids.foldl (fun c i=>Cell.kl i c) c) x:=by
 induction ids with
 | nil=>intro H c x h;exact h
 | cons a r ih =>
  intro H c x h
  exact ih (dr.drop (Cell.kl a) (fun c hc=>Cell.pW c hc) (fun _ _ hb=>hb) (fun e k l x hx=>by simp only [Cell.kl,cH,aO];exact Value.fX hx.2) h)
end
theorem OL (ids:ai ax):∀ (st:St) (t:ax),(st.Ke ids).env t=ids.foldl (fun e i=>cQ.kl i e) (st.env t):=by
 induction ids with
 | nil=>intro st t;rfl
 | cons a r ih=>intro st t;exact ih (st.kl a) t
theorem OM (ids:ai ax):∀ (st:St) (s:ax),(st.Ke ids).mem s=(st.mem s).map (·.map fun c=>ids.foldl (fun c i=>Cell.kl i c) c):=by
 induction ids with
 | nil=>intro st s;simp [St.Ke]
 | cons a r ih =>
  intro st s
  have:(st.Ke (a :: r)).mem s=((st.kl a).Ke r).mem s:=rfl
  rw [this,ih]
  simp [St.kl,St.map,Option.map_map,iP]
section
variable {C:jT} {P:bn} {w0:az} {F0:Fs} {nt:ax} {st:St} {a:Act} {w:az} {H:ax→ak aC} {σ:ax→ak ax}
def Ae (σ:ax→ak ax) (H:ax→ak aC) (site:ax→ax) (n:ax) (L:ai ax) (b:ax):Prop:=(∃ i,i < n∧σ (site i)=aa b)∨∃ id ∈ L,∃ x,H id=aa x∧x.ownBlock=aa b
def qf (σ:ax→ak ax) (site:ax→ax) (n ntg:ax):ax→ak ax:=fun s=>if ntg≤s∧s < ntg+n then σ (site (s - ntg)) else ah
def rP (H:ax→ak aC) (site:ax→ax) (mem:ax→ak (ai Cell)) (objs:ai (Src×ai mK)) (ntg id:ax) (x:aC):Prop :=
 ∃ (i j e k:ax) (o:Src×ai mK) (cs:ai Cell),objs[i]?=aa o∧o.2[j]?=aa (.own e k)∧mem (site i)=aa cs∧id=ir (ntg+i) j ∧
  ((∃ (nw e' k':ax) (l:ai AV),cs[j]?=aa (.own nw e' k' l)∧H nw=aa x)∨(cs[j]?=aa (.val .cd)∧x=.slice ah 0 0))
def qg (w0:az) (F0:Fs) (H:ax→ak aC) (σ:ax→ak ax) (site:ax→ax) (n ntg:ax) (L:ai ax):Fs:=⟨Fr w0.heap.size F0 H σ,Ae σ H site n L,qf σ site n ntg⟩
theorem qY {n:ax} {objs:ai (Src×ai mK)} (h:si n objs=aj) {i j:ax} {o:Src×ai mK} {k:mK} (ho:objs[i]?=aa o) (hk:o.2[j]?=aa k):j < 1000∧(∀ e m,k=.own e m→0 < m)∧∀ g os,k=.lr g os→∀ q ∈ os,q < n:=by
 have h1:=List.all_eq_true.1 h o (aV ho)
 rw [Bool.and_eq_true] at h1
 have h2:=aU h1.1
 have hj:j < o.2.length:=(List.getElem?_eq_some_iff.1 hk).1
 have h3:=List.all_eq_true.1 h1.2 k (aV hk)
 refine ⟨by omega,fun e m em=>?_,fun g os eg q hq=>?_⟩
 ·subst em
  have h3:bI 0 m=aj:=h3
  unfold bI at h3
  exact aU h3
 ·subst eg
  have:=List.all_eq_true.1 h3 q hq
  unfold bI at this
  exact aU this
theorem rP.inj {n:ax} {objs:ai (Src×ai mK)} (h:si n objs=aj) {site:ax→ax} {mem:ax→ak (ai Cell)} {ntg id:ax} {x y:aC} (h1:rP H site mem objs ntg id x) (h2:rP H site mem objs ntg id y):y=x:=by
 obtain ⟨i,j,e,k,o,cs,a1,a2,a3,a4,a5⟩:=h1
 obtain ⟨i',j',e',k',o',cs',b1,b2,b3,b4,b5⟩:=h2
 obtain ⟨q1,q2⟩:=xV (a4.symm.trans b4) (qY h a1 a2).1 (qY h b1 b2).1
 have q1:i=i':=by omega
 subst q1;subst q2
 rw [a1] at b1;cases b1
 rw [a3] at b3;cases b3
 rcases a5 with ⟨id1,e1,k1,l1,c1,c2⟩ | ⟨c1,rfl⟩ <;> rcases b5 with ⟨sG,e2,k2,l2,d1,d2⟩ | ⟨d1,rfl⟩
 ·rw [c1] at d1;cases d1
  rw [c2] at d2;exact (Option.some.inj d2).symm
 ·rw [c1] at d1;cases d1
 ·rw [c1] at d1;cases d1
 ·rfl
theorem uU {sites:ai ax}:∀ {ps:ai Sc} {xs:ai cQ},rZ sites ps xs=aj→xs.length=ps.length∧(jL ps xs).length=ps.length∧∀ (t:ax) (p:Sc),ps[t]?=aa p→∃ e,xs[t]?=aa e∧zU sites p e=aj∧(match p with | .v=>(jL ps xs)[t]?=aa e.cP∧∀ i ∈ e.ids,i ∈ se ps xs | _=>True)
 | [],[],_=>⟨rfl,rfl,fun t p h=>by simp at h⟩
 | p :: ps,x :: xs,h=>by
  simp only [rZ,Bool.and_eq_true] at h
  obtain ⟨h1,h2,h3⟩:=uU h.2
  refine ⟨by simp [h1],by cases p <;> simp [jL,h2],fun t q hq=>?_⟩
  cases t with
  | zero =>
   simp at hq
   subst hq
   refine ⟨x,rfl,h.1,?_⟩
   cases p with
   | v=>exact ⟨rfl,fun i hi=>List.mem_append_left _ hi⟩
   | _=>trivial
  | succ t =>
   obtain ⟨e,q1,q2,q3⟩:=h3 t q (by simpa using hq)
   refine ⟨e,by simpa using q1,q2,?_⟩
   cases q with
   | v =>
    refine ⟨by cases p <;> simpa [jL] using q3.1,fun i hi=>?_⟩
    have:=q3.2 i hi
    cases p <;> first | exact List.mem_append_right _ this | exact this
   | _=>trivial
 | [],_ :: _,h=>by cases h
 | _ :: _,[],h=>by cases h
theorem I4 {sites:ai ax} {i:ax} {e:cQ} (h:zU sites (.obj i) e=aj):∃ s,e=.cell (.ptr s 0)∧sites[i]?=aa s:=by
 cases e with
 | cell c =>
  cases c with
  | ptr s o =>
   simp only [zU,Bool.and_eq_true] at h
   have ho:=aF h.1
   subst ho
   refine ⟨s,rfl,?_⟩
   have h2:=h.2
   cases hs:sites[i]? with
   | none=>rw [hs] at h2;cases h2
   | some t=>rw [hs] at h2;rw [aF h2]
  | _=>cases h
 | _=>cases h
theorem I5 {sites:ai ax} {g:ax} {os:ai ax} {e:cQ} (h:zU sites (.lr g os) e=aj):∃ ss,e=.cell (.lr g ss)∧lF ss (os.map fun o=>sites.getD o 0)=aj∧∀ q ∈ os,q < sites.length:=by
 cases e with
 | cell c =>
  cases c with
  | lr g' ss =>
   simp only [zU,Bool.and_eq_true] at h
   have hg:=aF h.1.1
   subst hg
   exact ⟨ss,rfl,h.1.2,fun q hq=>by have:=List.all_eq_true.1 h.2 q hq;unfold bI at this;exact aU this⟩
  | _=>cases h
 | _=>cases h
theorem KN (h:Inv C w0 F0 nt st a w H σ) {sg:A4} {sites:ai ax} {xs:ai cQ} {vs:bF aC} {ntg:ax} {ins:ai AV} {ids:ai ax}
  (kf:si sg.objs.length sg.objs=aj) (hn:nodup sites=aj) (hp:rZ sites sg.ps xs=aj) (hl:sites.length=sg.objs.length) (hno:nodup (gw aj (fun i=>sites.getD i 0) st.mem 0 sg.objs)=aj)
  (hk:tL (fun i=>sites.getD i 0) st.mem 0 sg.objs=aa ins) (hv:vs.size=sg.ps.length) (hnt:sg.ps.length≤ntg)
  (uS:∀ (i j:ax) (o:Src×ai mK) (cs:ai Cell) (c:Cell),sg.objs[i]?=aa o→o.2[j]?=aa .v→st.mem (sites.getD i 0)=aa cs→cs[j]?=aa c→∀ id e k l,c≠.own id e k l)
  (hx:∀ (t:ax) (e:cQ) (v:aC),xs[t]?=aa e→vs[t]?=aa v→(e.told=aj→(∀ i ∈ e.ids,i ∈ se sg.ps xs)→Rel w (Fr w0.heap.size F0 H σ) e.cP v)∧∀ c,e=.cell c→dr w (Fr w0.heap.size F0 H σ) (fun _=>ah) σ c v∨c.told=aj∨c=.dead) :
  Inv C w (qg w0 F0 H σ (fun i=>sites.getD i 0) sites.length ntg (gw aj (fun i=>sites.getD i 0) st.mem 0 sg.objs)) ntg (GG ntg sg (jL sg.ps xs ++ ins)) ⟨vs ++ Array.replicate (ntg - vs.size) undef,[]⟩ w
   (nr (rP H (fun i=>sites.getD i 0) st.mem sg.objs ntg)) (qf σ (fun i=>sites.getD i 0) sites.length ntg):=by
 obtain ⟨zE,hk2⟩:=oZ hk
 obtain ⟨YR,hp2,hp3⟩:=uU hp
 generalize hL:gw aj (fun i=>sites.getD i 0) st.mem 0 sg.objs=L at hno
 have hHc:∀ id x,nr (rP H (fun i=>sites.getD i 0) st.mem sg.objs ntg) id=aa x→∀ b,x.ownBlock=aa b→∃ nw,nw ∈ L∧H nw=aa x:=by
  intro id x hid b hb
  obtain ⟨i,j,e,k,o,cs,a1,a2,a3,a4,a5⟩:=nu hid
  rcases a5 with ⟨nw,e',k',l,c1,c2⟩ | ⟨_,rfl⟩
  ·refine ⟨nw,?_,c2⟩
   rw [← hL]
   exact qX ⟨o,cs,e,k,e',k',l,a1,by rw [Nat.zero_add];exact a3,a2,c1⟩
  ·cases hb
 have hσc:∀ s r,qf σ (fun i=>sites.getD i 0) sites.length ntg s=aa r→∃ i,i < sites.length∧s=ntg+i∧σ (sites.getD i 0)=aa r:=by
  intro s r hs
  unfold qf at hs
  split at hs
  ·rename_i hc
   exact ⟨s - ntg,by omega,by omega,hs⟩
  ·cases hs
 have hσo:∀ i,i < sites.length→qf σ (fun i=>sites.getD i 0) sites.length ntg (ntg+i)=σ (sites.getD i 0):=by
  intro i hi
  unfold qf
  rw [aJ (by omega),show ntg+i - ntg=i by omega]
 have hF:∀ b,b < w.heap.size→Fr w0.heap.size F0 H σ b→Fr w.heap.size (qg w0 F0 H σ (fun i=>sites.getD i 0) sites.length ntg L) (nr (rP H (fun i=>sites.getD i 0) st.mem sg.objs ntg)) (qf σ (fun i=>sites.getD i 0) sites.length ntg) b∧w.heap[b]?=w.heap[b]?:=by
  intro b hb hf
  refine ⟨⟨fun _=>.inl hf,fun i v hv e=>?_,fun s hs=>?_⟩,rfl⟩
  ·obtain ⟨nw,_,h2⟩:=hHc i v hv b e
   exact hf.2.1 nw v h2 e
  ·obtain ⟨i,_,_,h3⟩:=hσc s b hs
   exact hf.2.2 _ h3
 have tm:∀ t v,vs[t]?=aa v→(vs ++ Array.replicate (ntg - vs.size) undef).getD t undef=v:=by
  intro t v hv
  have hlt:t < vs.size:=by
   rcases Nat.lt_or_ge t vs.size with h | h
   ·exact h
   ·rw [Array.getElem?_eq_none h] at hv;cases hv
  simp [Array.getElem?_append,hlt] at hv ⊢
  exact hv
 have KO:∀ (g:ax) (os ss:ai ax) (v:aC) (Hn:ax→ak aC),(∀ q ∈ os,q < sites.length)→lF ss (os.map fun o=>sites.getD o 0)=aj→dr w (Fr w0.heap.size F0 H σ) Hn σ (.lr g ss) v →
   dr w (Fr w.heap.size (qg w0 F0 H σ (fun i=>sites.getD i 0) sites.length ntg L) (nr (rP H (fun i=>sites.getD i 0) st.mem sg.objs ntg)) (qf σ (fun i=>sites.getD i 0) sites.length ntg)) (nr (rP H (fun i=>sites.getD i 0) st.mem sg.objs ntg)) (qf σ (fun i=>sites.getD i 0) sites.length ntg) (.lr g (os.map fun i=>ntg+i)) v:=by
  intro g os ss v Hn Si YO hr
  obtain ⟨rs,h1,h2,h3⟩:=hr
  have:=qb YO
  subst this
  refine ⟨rs,by simpa using h1,h2,fun j s r q1 q2=>?_⟩
  rw [aM] at q1
  cases ho:os[j]? with
  | none=>rw [ho] at q1;cases q1
  | some o =>
   rw [ho] at q1
   simp only [aY,Option.some.injEq] at q1
   subst q1
   have:=h3 j (sites.getD o 0) r (by rw [aM,ho];rfl) q2
   rw [hσo o (Si o (aV ho))]
   exact this
 exact {
  defers:=rfl
  size:=by simp;omega
  env:=fun t=>by
   show fL _ _ _ _ (match sg.ps[t]? with
    | some .v=>.val ((jL sg.ps xs ++ ins).getD t .un)
    | some (.obj i)=>.cell (.ptr (ntg+i) 0)
    | some (.lr g os)=>.cell (.lr g (os.map fun i=>ntg+i))
    | none=>.dead) _
   cases Vk:sg.ps[t]? with
   | none=>trivial
   | some p =>
    obtain ⟨e,q1,q2,q3⟩:=hp3 t p Vk
    have Z6:t < vs.size:=by rw [hv];exact (List.getElem?_eq_some_iff.1 Vk).1
    have hvt:vs[t]?=aa vs[t]:=Array.getElem?_eq_getElem Z6
    have VU:=tm t vs[t] hvt
    obtain ⟨r1,r2⟩:=hx t e vs[t] q1 hvt
    show fL _ _ _ _ _ ((vs ++ Array.replicate (ntg - vs.size) undef).getD t undef)
    rw [VU]
    cases p with
    | v =>
     have hlt:t < (jL sg.ps xs).length:=by rw [hp2];exact (List.getElem?_eq_some_iff.1 Vk).1
     have e1:(jL sg.ps xs ++ ins).getD t .un=e.cP:=by
      rw [aK,aX hlt,q3.1];rfl
     show Rel _ _ ((jL sg.ps xs ++ ins).getD t .un) _
     rw [e1]
     exact (r1 q2 q3.2).mono hF
    | obj i =>
     obtain ⟨s,rfl,V1⟩:=I4 q2
     rcases r2 _ rfl with h5 | h5 | h5
     ·obtain ⟨b,hb,hvb⟩:=h5
      have hlt:i < sites.length:=(List.getElem?_eq_some_iff.1 V1).1
      refine ⟨b,?_,hvb⟩
      rw [hσo i hlt]
      show σ (sites.getD i 0)=aa b
      rw [aK,V1];exact hb
     ·cases h5
     ·cases h5
    | lr g os =>
     obtain ⟨ss,rfl,k1,k2⟩:=I5 q2
     rcases r2 _ rfl with h5 | h5 | h5
     ·exact KO g os ss _ _ k2 k1 h5
     ·cases h5
     ·cases h5
  mem:=fun s cs hcs=>by
   have hcs:(bif bL ntg s then (match sg.objs[s - ntg]? with
    | some o=>(match (jL sg.ps xs ++ ins)[sg.ps.length+(s - ntg)]? with
     | some (.ag l)=>aa (kI (fun i=>ntg+i) s 0 o.2 l)
     | _=>ah)
    | none=>ah) else ah)=aa cs:=hcs
   cases hb:bL ntg s with
   | false=>rw [hb] at hcs;cases hcs
   | true =>
    rw [hb] at hcs
    simp only [aN] at hcs
    have hle:=aU hb
    cases ho:sg.objs[s - ntg]? with
    | none=>rw [ho] at hcs;cases hcs
    | some o =>
     rw [ho] at hcs
     simp only at hcs
     obtain ⟨cs0,l,c1,c2,c3⟩:=hk2 (s - ntg) o ho
     rw [Nat.zero_add] at c1
     have e1:(jL sg.ps xs ++ ins)[sg.ps.length+(s - ntg)]?=aa (.ag l):=by
      rw [← hp2,aS (by omega),show (jL sg.ps xs).length+(s - ntg) - (jL sg.ps xs).length=s - ntg by omega]
      exact c3
     rw [e1] at hcs
     simp only [Option.some.injEq] at hcs
     subst hcs
     obtain ⟨r,us,e,d1,d2,d3,d4⟩:=h.mem _ cs0 c1
     obtain ⟨f1,f2,f3⟩:=oG c2
     obtain ⟨g1,g2⟩:=qd (site:=fun i=>ntg+i) (s:=s) (ks:=o.2) (j0:=0) (l:=l)
     have hi:s - ntg < sites.length:=by rw [hl];exact (List.getElem?_eq_some_iff.1 ho).1
     refine ⟨r,us,e,?_,d2,by rw [d3,f1,g1],fun j c v hc V3=>?_⟩
     ·have:=hσo (s - ntg) hi
      rw [show ntg+(s - ntg)=s by omega] at this
      rw [this];exact d1
     ·have hj:j < o.2.length:=by rw [← g1];exact (List.getElem?_eq_some_iff.1 hc).1
      have hkj:o.2[j]?=aa o.2[j]:=List.getElem?_eq_getElem hj
      have oT:cs0[j]?=aa cs0[j]:=List.getElem?_eq_getElem (by omega)
      obtain ⟨u,u1,u2⟩:=f3 j _ _ hkj oT
      have hr:=d4 j _ v oT V3
      rw [g2 j _ hkj] at hc
      simp only [Nat.zero_add,Option.some.injEq] at hc
      have V4:l.getD j .un=u:=by rw [aK,u1];rfl
      rw [V4] at hc
      obtain ⟨s1,s2,s3⟩:=qY kf ho hkj
      generalize tF:o.2[j]=kk at hc hkj u2 s2 s3
      generalize hcc:cs0[j]=cc at oT u2 hr
      subst hc
      cases kk with
      | v =>
       unfold Oe at u2
       simp only at u2
       cases ht:cc.told with
       | false=>rw [ht] at u2;cases u2
       | true =>
        rw [ht] at u2
        simp only [aN,Option.some.injEq] at u2
        subst u2
        cases cc with
        | val x=>exact ⟨hr.1,hr.2.mono hF⟩
        | own id e k l'=>exact absurd rfl (uS _ j o cs0 _ ho hkj c1 oT id e k l')
        | _=>cases ht
      | own e k =>
       unfold Oe at u2
       simp only at u2
       split at u2
       ·rename_i id e' k' l'
        cases qV:(Nat.beq e e' && Nat.beq k k') with
        | false=>rw [qV] at u2;cases u2
        | true =>
         rw [qV] at u2
         simp only [aN,Option.some.injEq] at u2
         subst u2
         rw [Bool.and_eq_true] at qV
         have z1:=aF qV.1
         have z2:=aF qV.2
         subst z1;subst z2
         refine ⟨xT (fun y hy=>rP.inj kf ?_ hy) ?_,hr.2.mono hF fun _ _=>rfl⟩ <;>
         exact ⟨s - ntg,j,e,k,o,cs0,ho,hkj,c1,by rw [show ntg+(s - ntg)=s by omega],.inl ⟨id,e,k,l',oT,hr.1⟩⟩
       ·cases hb0:bI 0 k with
        | false=>rw [hb0] at u2;cases u2
        | true =>
         rw [hb0] at u2
         simp only [aN,Option.some.injEq] at u2
         subst u2
         have hv0:v=.slice ah 0 0:=by
          have:=hr.2
          cases this;rfl
         subst hv0
         refine ⟨xT (fun y hy=>rP.inj kf ?_ hy) ?_,s2 e k rfl,[],bW w 0 _ _,by simp,fun i j v hi=>by simp [AV.elems] at hi⟩ <;>
         exact ⟨s - ntg,j,e,k,o,cs0,ho,hkj,c1,by rw [show ntg+(s - ntg)=s by omega],.inr ⟨oT,rfl⟩⟩
       ·cases u2
      | lr g os =>
       unfold Oe at u2
       simp only at u2
       split at u2
       ·rename_i h' ss
        cases qV:(Nat.beq g h' && lF ss (os.map fun i=>sites.getD i 0)) with
        | false=>rw [qV] at u2;cases u2
        | true =>
         rw [Bool.and_eq_true] at qV
         have z1:=aF qV.1
         subst z1
         exact KO g os ss v H (fun q hq=>by rw [hl];exact s3 g os rfl q hq) qV.2 hr
       ·cases u2
  hown:=fun i x g hi hg=>by
   obtain ⟨nw,h1,h2⟩:=hHc i x hi g hg
   exact ⟨.inr (.inr ⟨nw,h1,x,h2,hg⟩),(h.hown nw x g h2 hg).2⟩
  sown:=fun s r hs=>by
   obtain ⟨i,h1,_,h3⟩:=hσc s r hs
   exact ⟨.inr (.inl ⟨i,h1,h3⟩),(h.sown _ r h3).2⟩
  obj:=fun s b hb=>by
   refine ⟨?_,hb⟩
   obtain ⟨i,_,h2,_⟩:=hσc s b hb
   omega
  hh:=fun i i' x y g hne hi hi' hx hy=>by
   obtain ⟨i1,j1,e1,k1,o1,cs1,a1,a2,a3,a4,a5⟩:=nu hi
   obtain ⟨i2,j2,e2,k2,o2,xa,b1,b2,b3,b4,b5⟩:=nu hi'
   rcases a5 with ⟨id1,e3,k3,l1,c1,c2⟩ | ⟨_,rfl⟩
   ·rcases b5 with ⟨sG,e4,k4,l2,d1,d2⟩ | ⟨_,rfl⟩
    ·have q1:pG (fun i=>sites.getD i 0) st.mem sg.objs 0 i1 j1 id1:=⟨o1,cs1,e1,k1,e3,k3,l1,a1,by rw [Nat.zero_add];exact a3,a2,c1⟩
     have q2:pG (fun i=>sites.getD i 0) st.mem sg.objs 0 i2 j2 sG:=⟨o2,xa,e2,k2,e4,k4,l2,b1,by rw [Nat.zero_add];exact b3,b2,d1⟩
     refine h.hh id1 sG x y g (fun e=>?_) c2 d2 hx hy
     subst e
     obtain ⟨z1,z2⟩:=Ad (by rw [hL];exact hno) q1 q2
     subst z1;subst z2
     exact hne (a4.trans b4.symm)
    ·cases hy
   ·cases hx
  hs:=fun i s x r hi hs hx=>by
   obtain ⟨nw,_,h2⟩:=hHc i x hi r hx
   obtain ⟨q,_,_,h3⟩:=hσc s r hs
   exact h.hs nw _ x r h2 h3 hx
  ss:=fun s s' r hne hs hs'=>by
   obtain ⟨q,q1,q2,q3⟩:=hσc s r hs
   obtain ⟨p,p1,p2,p3⟩:=hσc s' r hs'
   refine h.ss _ _ r (fun e=>?_) q3 p3
   have e1:sites[q]?=aa (sites.getD q 0):=by rw [aK,List.getElem?_eq_getElem q1];rfl
   have e2:sites[p]?=aa (sites.getD q 0):=by rw [e,aK,List.getElem?_eq_getElem p1];rfl
   have:=Ac hn e1 e2
   omega
  glob:=fun g k e hg=>by
   obtain ⟨r,o,h1,h2,h3,h4⟩:=h.glob g k e hg
   exact ⟨r,o,h1,(hF r h3 h2).1,h3,fun j hj=>by
    obtain ⟨v,a1,a2,a3⟩:=h4 j hj
    exact ⟨v,a1,a2,a3.mono hF⟩⟩
  below:=Kh.refl _ w }
end
def qZ (site:ax→ax):ax→ai (Src×ai mK)→ai (ai AV)→St→St
 | i,o :: r,l :: ls,st=>qZ site (i+1) r ls (st.kU (site i) (kI site (site i) 0 o.2 l))
 | _,_,_,st=>st
theorem vW {site:ax→ax}:∀ {objs:ai (Src×ai mK)} {ls:ai (ai AV)} {i:ax} {st:St},(qZ site i objs ls st).env=st.env
 | [],_,_,_=>rfl
 | _ :: _,[],_,_=>rfl
 | o :: r,l :: ls,i,st=>vW (objs:=r) (ls:=ls)
theorem vX {site:ax→ax}:∀ {objs:ai (Src×ai mK)} {ls:ai (ai AV)} {i0:ax} {st:St} {s:ax} {cs:ai Cell},(qZ site i0 objs ls st).mem s=aa cs →
  (∃ i o l,objs[i]?=aa o∧ls[i]?=aa l∧s=site (i0+i)∧cs=kI site s 0 o.2 l)∨((∀ i,i < objs.length→i < ls.length→s≠site (i0+i))∧st.mem s=aa cs)
 | [],_,_,_,_,_,h=>.inr ⟨fun i hi=>by simp at hi,h⟩
 | _ :: _,[],_,_,_,_,h=>.inr ⟨fun i _ hi=>by simp at hi,h⟩
 | o :: r,l :: ls,i0,st,s,cs,h=>by
  have h:(qZ site (i0+1) r ls (st.kU (site i0) (kI site (site i0) 0 o.2 l))).mem s=aa cs:=h
  rcases vX h with ⟨i,o',l',h1,h2,h3,h4⟩ | ⟨h1,h2⟩
  ·exact .inl ⟨i+1,o',l',by simpa using h1,by simpa using h2,by rw [h3];congr 1;omega,h4⟩
  ·simp only [St.kU,cH] at h2
   split at h2
   ·rename_i hs
    cases h2
    exact .inl ⟨0,o,l,rfl,rfl,hs,by rw [hs]⟩
   ·rename_i hs
    refine .inr ⟨fun i hi hi'=>?_,h2⟩
    cases i with
    | zero=>exact hs
    | succ i =>
     have:=h1 i (by simpa using hi) (by simpa using hi')
     rw [show i0+(i+1)=i0+1+i by omega];exact this
theorem xW {R:Type} {site:ax→ax} {r0:AV} {K:St→ak R} {r:R}:∀ {objs:ai (Src×ai mK)} {pre ls:ai (ai AV)} {st:St},ls.length=objs.length→vJ site (.tu (r0 :: (pre ++ ls).map .ag)) pre.length objs st K=aa r→K (qZ site pre.length objs ls st)=aa r
 | [],pre,[],st,_,h=>h
 | [],pre,_ :: _,st,hl,_=>by simp at hl
 | _ :: _,pre,[],st,hl,_=>by simp at hl
 | o :: t,pre,l :: ls,st,hl,h=>by
  simp only [vJ] at h
  obtain ⟨v,hv,h⟩:=aR.1 h
  obtain ⟨l',hl',h⟩:=aR.1 h
  have hv:(r0 :: (pre ++ l :: ls).map AV.ag)[pre.length+1]?=aa v:=hv
  rw [List.getElem?_cons_succ,aM,aS (Nat.le_refl _),Nat.sub_self] at hv
  simp only [List.getElem?_cons_zero,aY,Option.some.injEq] at hv
  subst hv
  unfold AV.cm at hl'
  simp only at hl'
  split at hl'
  ·cases hl'
   have e:(pre ++ l :: ls)=((pre ++ [l]) ++ ls):=by simp
   rw [e,show pre.length+1=(pre ++ [l]).length by simp] at h
   have:=xW (objs:=t) (pre:=pre ++ [l]) (ls:=ls) (by simpa using hl) h
   rw [show (pre ++ [l]).length=pre.length+1 by simp] at this
   exact this
  ·cases hl'
section
variable {C:jT} {P:bn} {w0:az} {F0:Fs} {nt:ax} {st:St} {a:Act} {w:az} {H:ax→ak aC} {σ:ax→ak ax}
def lZ (w':az) (σ:ax→ak ax) (site:ax→ax) (objs:ai (Src×ai mK)) (id:ax) (x:aC):Prop :=
 ∃ (i j e k b t:ax) (o:Src×ai mK) (us:ai aC),objs[i]?=aa o∧o.2[j]?=aa (.own e k)∧id=ir (site i) j∧σ (site i)=aa b∧w'.heap[b]?=aa (.cells us.toArray t (0,0))∧us[j]?=aa x
theorem tV {g ntg:ax} {sg:A4} {fn:Func} {res:AV} (h:tM C g ntg sg fn st=aa res):∃ outs,C.own g=[]∧(fn.results.toList.map (jX C st)).all cQ.told=aj∧nodup (gw aj (fun i=>ntg+i) st.mem 0 sg.outs)=aj ∧
  (∀ id ∈ gw aj (fun i=>ntg+i) st.mem 0 sg.outs,id ∉ ((fn.results.toList.map (jX C st)).flatMap cQ.ids ++ gw af (fun i=>ntg+i) st.mem 0 sg.outs))∧tL (fun i=>ntg+i) st.mem 0 sg.outs=aa outs∧res=.tu (one? ((fn.results.toList.map (jX C st)).map cQ.cP) :: outs):=by
 unfold tM at h
 simp only at h
 cases hb:((C.own g).isEmpty && ((fn.results.toList.map (jX C st)).all cQ.told && (nodup (gw aj (fun i=>ntg+i) st.mem 0 sg.outs) && (gw aj (fun i=>ntg+i) st.mem 0 sg.outs).all (fun i=>!(((fn.results.toList.map (jX C st)).flatMap cQ.ids ++ gw af (fun i=>ntg+i) st.mem 0 sg.outs).any fun j=>Nat.beq i j))))) with
 | false=>rw [hb] at h;cases h
 | true =>
  rw [hb] at h
  simp only [aN] at h
  obtain ⟨outs,ho,h⟩:=aR.1 h
  cases h
  simp only [Bool.and_eq_true] at hb
  refine ⟨outs,by simpa using hb.1,hb.2.1,hb.2.2.1,fun id hid hm=>?_,ho,rfl⟩
  have:=List.all_eq_true.1 hb.2.2.2 id hid
  simp only [Bool.not_eq_true',bV] at this
  exact this id hm (dw id)
theorem Dj:∀ {ks:ai mK} {cs:ai Cell} {j id:ax} {c:Cell},(∀ e k,ks[j]?≠aa (.own e k))→j < ks.length→cs[j]?=aa c→id ∈ c.ids→id ∈ wR af ks cs
 | [],_,j,id,c,_,h,_,_=>by simp at h
 | _ :: _,[],j,id,c,_,_,h,_=>by simp at h
 | q :: ks,c0 :: cs,j,id,c,hk,hj,hc,hi=>by
  cases j with
  | zero =>
   simp at hc
   subst hc
   cases q with
   | own e k=>exact absurd rfl (hk e k)
   | _=>exact List.mem_append_left _ hi
  | succ j =>
   have:=Dj (ks:=ks) (cs:=cs) (j:=j) (id:=id) (fun e k=>by simpa using hk e k) (by simpa using hj) (by simpa using hc) hi
   cases q <;> exact List.mem_append_right _ this
theorem uV {site:ax→ax} {mem:ax→ak (ai Cell)}:∀ {objs:ai (Src×ai mK)} {i0 i j id:ax} {o:Src×ai mK} {cs:ai Cell} {c:Cell},objs[i]?=aa o→mem (site (i0+i))=aa cs→(∀ e k,o.2[j]?≠aa (.own e k))→j < o.2.length→cs[j]?=aa c→id ∈ c.ids→id ∈ gw af site mem i0 objs
 | [],i0,i,j,id,o,cs,c,h,_,_,_,_,_=>by simp at h
 | q :: r,i0,i,j,id,o,cs,c,h1,h2,h3,h4,h5,h6=>by
  cases i with
  | zero =>
   simp at h1
   subst h1
   have h2:mem (site i0)=aa cs:=h2
   simp only [gw,h2]
   exact List.mem_append_left _ (Dj h3 h4 h5 h6)
  | succ i=>exact List.mem_append_right _ (uV (i:=i) (by simpa using h1) (by rw [show i0+1+i=i0+(i+1) by omega];exact h2) h3 h4 h5 h6)
theorem GQ:∀ {outs:ai AV},(∀ (i:ax) (x:AV),outs[i]?=aa x→∃ l,x=.ag l)→∃ ls:ai (ai AV),outs=ls.map .ag
 | [],_=>⟨[],rfl⟩
 | x :: r,h=>by
  obtain ⟨l,rfl⟩:=h 0 x rfl
  obtain ⟨ls,rfl⟩:=GQ (outs:=r) fun i x hx=>h (i+1) x (by simpa using hx)
  exact ⟨l :: ls,rfl⟩
theorem OO {F:ax→Prop}:∀ {rs:ai AV} {vs:ai aC},rs.length=vs.length→(∀ (j:ax) (x:aC) (v:AV),vs[j]?=aa x→rs[j]?=aa v→Rel w F v x)→Rel w F (one? rs) (zJ vs)
 | [],[],_,_=>.tu [] [] rfl (fun j v hv=>by simp at hv)
 | [v],[x],_,h=>h 0 x v rfl rfl
 | v :: v' :: rs,x :: x' :: vs,hl,h=>by
  refine .tu (v :: v' :: rs) (x :: x' :: vs) hl fun j u hu=>?_
  have hj:j < (v :: v' :: rs).length:=by rw [hl];exact (List.getElem?_eq_some_iff.1 hu).1
  have:=h j u _ hu (List.getElem?_eq_getElem hj)
  rw [aK,List.getElem?_eq_getElem hj]
  exact this
 | [],_ :: _,hl,_=>by simp at hl
 | _ :: _,[],hl,_=>by simp at hl
 | [_],_ :: _ :: _,hl,_=>by simp at hl
 | _ :: _ :: _,[_],hl,_=>by simp at hl
theorem lZ.inj {n:ax} {objs:ai (Src×ai mK)} {w':az} {sites:ai ax} (h:si n objs=aj) (hn:nodup sites=aj) (hl:sites.length=objs.length) {id:ax} {x y:aC} (h1:lZ w' σ (fun i=>sites.getD i 0) objs id x) (h2:lZ w' σ (fun i=>sites.getD i 0) objs id y):y=x:=by
 obtain ⟨i,j,e,k,b,t,o,us,a1,a2,a3,a4,a5,a6⟩:=h1
 obtain ⟨i',j',e',k',b',t',o',V5,c1,c2,c3,c4,c5,c6⟩:=h2
 obtain ⟨q1,q2⟩:=xV (a3.symm.trans c3) (qY h a1 a2).1 (qY h c1 c2).1
 have hi:i < sites.length:=by rw [hl];exact (List.getElem?_eq_some_iff.1 a1).1
 have hi':i' < sites.length:=by rw [hl];exact (List.getElem?_eq_some_iff.1 c1).1
 have e1:sites[i]?=aa (sites.getD i 0):=by rw [aK,List.getElem?_eq_getElem hi];rfl
 have q1:sites.getD i 0=sites.getD i' 0:=q1
 have e2:sites[i']?=aa (sites.getD i 0):=by rw [q1,aK,List.getElem?_eq_getElem hi'];rfl
 have:=Ac hn e1 e2
 subst this;subst q2
 rw [a4] at c4;cases c4
 rw [a5] at c5
 have:us=V5:=by have:=Option.some.inj c5;simp at this;exact this.1
 subst this
 rw [a6] at c6
 exact (Option.some.inj c6).symm
theorem I6 (hT:∀ t i,C.ty t=aa i→gS P t i) (h:Inv C w0 F0 nt st a w H σ) {sg:A4} {sites:ai ax} {g:ax} {fn:Func} {ins:ai AV} {w':az} {pL:St} {a2:Act} {H2:ax→ak aC} {σ2:ax→ak ax} {res:AV} {v:aC}
  (kf:si sg.objs.length sg.outs=aj) (oX:sg.outs.length=sg.objs.length) (hn:nodup sites=aj) (hl:sites.length=sg.outs.length) (hno:nodup (gw aj (fun i=>sites.getD i 0) st.mem 0 sg.objs)=aj)
  (hk:tL (fun i=>sites.getD i 0) st.mem 0 sg.objs=aa ins)
  (hI:Inv C w (qg w0 F0 H σ (fun i=>sites.getD i 0) sites.length fn.ntmps (gw aj (fun i=>sites.getD i 0) st.mem 0 sg.objs)) fn.ntmps pL a2 w' H2 σ2)
  (hf:tM C g fn.ntmps sg fn pL=aa res) (hrun:(results fn a2.tmps).run P w'=.ok v w') :
  ∃ r0 ls H',res=.tu (r0 :: ls.map .ag)∧ls.length=sg.outs.length ∧
   Inv C w0 F0 nt (qZ (fun i=>sites.getD i 0) 0 sg.outs ls (st.Ke (gw aj (fun i=>sites.getD i 0) st.mem 0 sg.objs ++ iz (fun i=>sites.getD i 0) 0 sg.outs))) a w' H' σ∧Rel w' (Fr w0.heap.size F0 H' σ) r0 v:=by
 obtain ⟨zE,hk2⟩:=oZ hk
 obtain ⟨outs,f1,f2,f3,f4,f5,rfl⟩:=tV hf
 obtain ⟨ho1,YW⟩:=oZ f5
 generalize hL:gw aj (fun i=>sites.getD i 0) st.mem 0 sg.objs=L at hno hI ⊢
 generalize Q3:(fun i=>sites.getD i 0)=site at *
 have hsi:∀ i,site i=sites.getD i 0:=fun i=>by rw [← Q3]
 obtain ⟨vs,g1,g2,g3⟩:=sF hT hI fn fun rv hm=>List.all_eq_true.1 f2 _ (List.mem_map.2 ⟨rv,hm,rfl⟩)
 have hv:v=zJ vs:=by rw [g2] at hrun;cases hrun;rfl
 subst hv
 obtain ⟨H3,hI3,Q4,V6,V7⟩:=hI.Bc ((fn.results.toList.map (jX C pL)).flatMap cQ.ids ++ gw af (fun i=>fn.ntmps+i) pL.mem 0 sg.outs)
 obtain ⟨ls,rfl⟩:=GQ (outs:=outs) fun i x hx=>by
  have hi:i < sg.outs.length:=by rw [← ho1];exact (List.getElem?_eq_some_iff.1 hx).1
  obtain ⟨cs,Z',_,_,q3⟩:=YW i sg.outs[i] (List.getElem?_eq_getElem hi)
  rw [q3] at hx
  exact ⟨Z',(Option.some.inj hx).symm⟩
 have Q2:ls.length=sg.outs.length:=by simpa using ho1
 have KP:∀ (i:ax) (o:Src×ai mK),sg.outs[i]?=aa o→∃ (b:ax) (us:ai aC) (t:ax) (xa:ai Cell) (l:ai AV),σ (site i)=aa b∧σ2 (fn.ntmps+i)=aa b∧w'.heap[b]?=aa (.cells us.toArray t (0,0))∧us.length=o.2.length∧ls[i]?=aa l∧IX (fun i=>fn.ntmps+i) o.2 xa=aa l∧pL.mem (fn.ntmps+i)=aa xa ∧
   ∀ (j:ax) (c:Cell) (x:aC),xa[j]?=aa c→us[j]?=aa x→dr w' (Fr w.heap.size (qg w0 F0 H σ site sites.length fn.ntmps L) H2 σ2) H2 σ2 c x:=by
  intro i o ho
  obtain ⟨cs,_,q1,_,_⟩:=hk2 i (sg.objs[i]'(by rw [← oX];exact (List.getElem?_eq_some_iff.1 ho).1)) (List.getElem?_eq_getElem _)
  rw [Nat.zero_add] at q1
  obtain ⟨b,_,_,b1,_,_,_⟩:=h.mem (site i) cs (by rw [hsi];exact q1)
  have hi:i < sites.length:=by rw [hl];exact (List.getElem?_eq_some_iff.1 ho).1
  have hob:(qg w0 F0 H σ site sites.length fn.ntmps L).obj (fn.ntmps+i)=aa b:=by
   show qf σ site sites.length fn.ntmps (fn.ntmps+i)=aa b
   unfold qf
   rw [aJ (by omega),show fn.ntmps+i - fn.ntmps=i by omega]
   exact b1
  obtain ⟨xa,l,r1,r2,r3⟩:=YW i o ho
  rw [Nat.zero_add] at r1
  obtain ⟨b',us,t,c1,c2,c3,c4⟩:=hI.mem _ xa r1
  have qV:=(hI.obj _ b hob).2
  have:b'=b:=by rw [qV] at c1;exact (Option.some.inj c1).symm
  subst this
  obtain ⟨z1,z2,_⟩:=oG r2
  rw [aM] at r3
  cases NU:ls[i]? with
  | none=>rw [NU] at r3;cases r3
  | some l' =>
   rw [NU] at r3
   simp only [aY,Option.some.injEq,AV.ag.injEq] at r3
   subst r3
   exact ⟨b',us,t,xa,l',b1,qV,c2,by rw [c3,z1],rfl,r2,r1,c4⟩
 have rQ:∀ b,Ae σ H site sites.length L b→(w0.heap.size≤b∨F0.mL b)∧b < w.heap.size∧(∀ id x,id ∉ L→H id=aa x→x.ownBlock≠aa b)∧(∀ s,(∀ i,i < sites.length→s≠site i)→σ s≠aa b)∧¬ Fr w0.heap.size F0 H σ b:=by
  intro b hb
  rcases hb with ⟨i,hi,hs⟩ | ⟨id,hid,x,hx,Dk⟩
  ·exact ⟨(h.sown _ b hs).1,(h.sown _ b hs).2,fun id x _ hx e=>h.hs id _ x b hx hs e,fun s hne hs'=>h.ss s (site i) b (hne i hi) hs' hs,fun hf=>hf.2.2 _ hs⟩
  ·exact ⟨(h.hown id x b hx Dk).1,(h.hown id x b hx Dk).2,fun nw y OP hy e=>h.hh nw id y x b (fun e=>OP (e ▸ hid)) hy hx e Dk,fun s _ hs=>h.hs id s x b hx hs Dk,fun hf=>hf.2.1 id x hx Dk⟩
 have GR:∀ id x,lZ w' σ site sg.outs id x→id ∈ iz site 0 sg.outs∧∃ i j e k,id=ir (site i) j∧i < sites.length∧(∃ o,sg.outs[i]?=aa o∧o.2[j]?=aa (.own e k)) ∧
   ((x=.slice ah 0 0)∨∃ sG,pG (fun i=>fn.ntmps+i) pL.mem sg.outs 0 i j sG∧H3 sG=aa x):=by
  intro id x hx
  obtain ⟨i,j,e,k,b,t,o,us,a1,a2,a3,a4,a5,a6⟩:=hx
  have hm:=tU (site:=site) (i0:=0) a1 a2
  rw [Nat.zero_add] at hm
  refine ⟨by rw [a3];exact hm,i,j,e,k,a3,by rw [hl];exact (List.getElem?_eq_some_iff.1 a1).1,⟨o,a1,a2⟩,?_⟩
  obtain ⟨b',V5,t',xa,l,b1,b2,b3,b4,b5,b6,b7,b8⟩:=KP i o a1
  rw [a4] at b1;cases b1
  rw [a5] at b3
  have:us=V5:=by have:=Option.some.inj b3;simp at this;exact this.1
  subst this
  obtain ⟨z1,z2,z3⟩:=oG b6
  have hj:j < xa.length:=by rw [z1];exact (List.getElem?_eq_some_iff.1 a2).1
  have oT:xa[j]?=aa xa[j]:=List.getElem?_eq_getElem hj
  obtain ⟨u,_,u2⟩:=z3 j _ _ a2 oT
  have hr:=b8 j _ x oT a6
  generalize hcc:xa[j]=cc at oT u2 hr
  unfold Oe at u2
  simp only at u2
  split at u2
  ·rename_i sG e' k' l'
   right
   have how:pG (fun i=>fn.ntmps+i) pL.mem sg.outs 0 i j sG:=⟨o,xa,e,k,e',k',l',a1,by rw [Nat.zero_add];exact b7,a2,oT⟩
   exact ⟨sG,how,V7 sG x (f4 sG (qX how)) hr.1⟩
  ·left
   have:=hr.2
   cases this;rfl
  ·cases u2
 have Dl:∀ id x b,lZ w' σ site sg.outs id x→x.ownBlock=aa b→(w.heap.size≤b∨Ae σ H site sites.length L b)∧b < w'.heap.size∧∃ sG,H3 sG=aa x:=by
  intro id x b hx hb
  obtain ⟨_,i,j,e,k,_,_,_,rJ⟩:=GR id x hx
  rcases rJ with rfl | ⟨sG,_,h3⟩
  ·cases hb
  ·have:=hI3.hown sG x b h3 hb
   exact ⟨this.1,this.2,sG,h3⟩
 have aaa:∀ id x y,lZ w' σ site sg.outs id x→lZ w' σ site sg.outs id y→y=x:=by
  intro id x y h1 h2
  rw [← Q3] at h1 h2
  exact lZ.inj kf hn hl h1 h2
 let H':ax→ak aC:=fun id=>match nr (lZ w' σ site sg.outs) id with | some x=>aa x | none=>erases H (L ++ iz site 0 sg.outs) id
 have Vl:∀ id x,H' id=aa x→lZ w' σ site sg.outs id x∨(erases H (L ++ iz site 0 sg.outs) id=aa x):=by
  intro id x hx
  have hx:(match nr (lZ w' σ site sg.outs) id with | some x=>aa x | none=>erases H (L ++ iz site 0 sg.outs) id)=aa x:=hx
  cases hp:nr (lZ w' σ site sg.outs) id with
  | some y=>rw [hp] at hx;cases hx;exact .inl (nu hp)
  | none=>rw [hp] at hx;exact .inr hx
 have hHs:∀ id x,lZ w' σ site sg.outs id x→H' id=aa x:=by
  intro id x hx
  show (match nr (lZ w' σ site sg.outs) id with | some x=>aa x | none=>_)=aa x
  rw [xT (fun y hy=>aaa id x y hx hy) hx]
 have her:∀ id x,erases H (L ++ iz site 0 sg.outs) id=aa x→H id=aa x∧id ∉ L∧id ∉ iz site 0 sg.outs:=by
  intro id x hx
  obtain ⟨h1,h2⟩:=Di hx
  exact ⟨h1,fun hm=>h2 (List.mem_append_left _ hm),fun hm=>h2 (List.mem_append_right _ hm)⟩
 have I7:∀ b,b < w.heap.size→¬ Ae σ H site sites.length L b→w'.heap[b]?=w.heap[b]?:=fun b hb vN=>hI.below.block b hb vN
 have hF:∀ b,b < w.heap.size→Fr w0.heap.size F0 H σ b→Fr w0.heap.size F0 H' σ b∧w'.heap[b]?=w.heap[b]?:=by
  intro b hb hf
  have vN:¬ Ae σ H site sites.length L b:=fun SF=>(rQ b SF).2.2.2.2 hf
  refine ⟨⟨hf.1,fun id x hx e=>?_,hf.2.2⟩,I7 b hb vN⟩
  rcases Vl id x hx with hx | hx
  ·rcases (Dl id x b hx e).1 with h5 | h5
   ·omega
   ·exact vN h5
  ·exact hf.2.1 id x (her id x hx).1 e
 have hF3:∀ b,b < w'.heap.size→Fr w.heap.size (qg w0 F0 H σ site sites.length fn.ntmps L) H3 σ2 b→Fr w0.heap.size F0 H' σ b∧w'.heap[b]?=w'.heap[b]?:=by
  intro b hb hf
  have zY:w.heap.size≤b∨Fr w0.heap.size F0 H σ b∨Ae σ H site sites.length L b:=by
   rcases Nat.lt_or_ge b w.heap.size with hlt | jz
   ·exact .inr (hf.1 hlt)
   ·exact .inl jz
  refine ⟨⟨fun hlt=>?_,fun id x hx e=>?_,fun s hs=>?_⟩,rfl⟩
  ·rcases zY with h5 | h5 | h5
   ·have:=h.below.size;omega
   ·exact h5.1 hlt
   ·rcases (rQ b h5).1 with h6 | h6
    ·omega
    ·exact .inr h6
  ·rcases Vl id x hx with hx | hx
   ·obtain ⟨_,_,sG,h3⟩:=Dl id x b hx e
    exact hf.2.1 sG x h3 e
   ·obtain ⟨h1,h2,_⟩:=her id x hx
    have aab:=(h.hown id x b h1 e).2
    rcases zY with h5 | h5 | h5
    ·omega
    ·exact h5.2.1 id x h1 e
    ·exact (rQ b h5).2.2.1 id x h2 h1 e
  ·by_cases hs':∃ i,i < sites.length∧s=site i
   ·obtain ⟨i,hi,rfl⟩:=hs'
    obtain ⟨b',_,_,_,_,b1,b2,_⟩:=KP i sg.outs[i] (List.getElem?_eq_getElem (by omega))
    rw [hs] at b1;cases b1
    exact hf.2.2 _ b2
   ·have aab:=(h.sown s b hs).2
    rcases zY with h5 | h5 | h5
    ·omega
    ·exact h5.2.2 s hs
    ·exact (rQ b h5).2.2.2.1 s (fun i hi e=>hs' ⟨i,hi,e⟩) hs
 have hHe:∀ id y,erases H (L ++ iz site 0 sg.outs) id=aa y→H' id=aa y∧∀ b,y.ownBlock=aa b→w'.heap[b]?=w.heap[b]?:=by
  intro id y hy
  obtain ⟨h1,h2,h3⟩:=her id y hy
  refine ⟨?_,fun b hb=>I7 b (h.hown id y b h1 hb).2 fun SF=>(rQ b SF).2.2.1 id y h2 h1 hb⟩
  show (match nr (lZ w' σ site sg.outs) id with | some x=>aa x | none=>erases H (L ++ iz site 0 sg.outs) id)=aa y
  cases hp:nr (lZ w' σ site sg.outs) id with
  | some z=>exact absurd (GR id z (nu hp)).1 h3
  | none=>exact hy
 have keep:∀ e y,fL w (Fr w0.heap.size F0 H σ) H σ e y→fL w' (Fr w0.heap.size F0 H' σ) H' σ ((L ++ iz site 0 sg.outs).foldl (fun e i=>cQ.kl i e) e) y:=fun e y he=>(OJ _ he).mono hF hHe fun _ _ hs=>hs
 have rO:∀ c y,dr w (Fr w0.heap.size F0 H σ) H σ c y→dr w' (Fr w0.heap.size F0 H' σ) H' σ ((L ++ iz site 0 sg.outs).foldl (fun c i=>Cell.kl i c) c) y:=fun c y hc=>(KM _ hc).mono hF (fun i y hi _=>hHe i y hi) fun _ _ hs _=>hs
 refine ⟨_,ls,H',rfl,Q2,?_,?_⟩
 ·exact {
   defers:=h.defers
   size:=h.size
   env:=fun t=>by rw [vW,OL];exact keep _ _ (h.env t)
   mem:=fun s cs hcs=>by
    rcases vX hcs with ⟨i,o,l,q1,q2,q3,q4⟩ | ⟨q1,q2⟩
    ·rw [Nat.zero_add] at q3
     subst q3;subst q4
     obtain ⟨b,us,t,xa,l',b1,b2,b3,b4,b5,b6,b7,b8⟩:=KP i o q1
     rw [q2] at b5;cases b5
     obtain ⟨z1,z2,z3⟩:=oG b6
     obtain ⟨y1,y2⟩:=qd (site:=site) (s:=site i) (ks:=o.2) (j0:=0) (l:=l)
     refine ⟨b,us,t,b1,b3,by rw [b4,y1],fun j c x hc hx=>?_⟩
     have hj:j < o.2.length:=by rw [← y1];exact (List.getElem?_eq_some_iff.1 hc).1
     have hkj:o.2[j]?=aa o.2[j]:=List.getElem?_eq_getElem hj
     have oT:xa[j]?=aa xa[j]:=List.getElem?_eq_getElem (by omega)
     obtain ⟨u,u1,u2⟩:=z3 j _ _ hkj oT
     have hr:=b8 j _ x oT hx
     rw [y2 j _ hkj] at hc
     simp only [Nat.zero_add,Option.some.injEq] at hc
     have V4:l.getD j .un=u:=by rw [aK,u1];rfl
     rw [V4] at hc
     obtain ⟨s1,s2,s3⟩:=qY kf q1 hkj
     have hval:(∀ e k,o.2[j]≠.own e k)→∀ id ∈ (xa[j]).ids,id ∈ gw af (fun i=>fn.ntmps+i) pL.mem 0 sg.outs:=fun hne id hid =>
      uV q1 (by rw [Nat.zero_add];exact b7) (fun e k he=>by rw [hkj] at he;exact hne e k (Option.some.inj he)) hj oT hid
     generalize tF:o.2[j]=kk at hc hkj u2 s2 s3 hval
     generalize hcc:xa[j]=cc at oT u2 hr hval
     subst hc
     cases kk with
     | v =>
      unfold Oe at u2
      simp only at u2
      cases ht:cc.told with
      | false=>rw [ht] at u2;cases u2
      | true =>
       rw [ht] at u2
       simp only [aN,Option.some.injEq] at u2
       subst u2
       refine ⟨hr.one,?_⟩
       have h5:fL w' (Fr w.heap.size (qg w0 F0 H σ site sites.length fn.ntmps L) H2 σ2) H2 σ2 (.cell cc) x:=by
        cases cc with
        | val y=>exact hr.2
        | own id e k l'=>exact hr
        | _=>cases ht
       have h6:=kg (Q4 _ _ h5) ht fun id hid=>List.mem_append_right _ (hval (fun e k he=>by cases he) id hid)
       exact h6.mono hF3
     | own e k =>
      unfold Oe at u2
      simp only at u2
      have Q5:lZ w' σ site sg.outs (ir (site i) j) x:=⟨i,j,e,k,b,t,o,us,q1,hkj,rfl,b1,b3,hx⟩
      split at u2
      ·rename_i id e' k' l'
       cases qV:(Nat.beq e e' && Nat.beq k k') with
       | false=>rw [qV] at u2;cases u2
       | true =>
        rw [qV] at u2
        simp only [aN,Option.some.injEq] at u2
        subst u2
        rw [Bool.and_eq_true] at qV
        have w1:=aF qV.1
        have w2:=aF qV.2
        subst w1;subst w2
        refine ⟨hHs _ x Q5,?_⟩
        have how:pG (fun i=>fn.ntmps+i) pL.mem sg.outs 0 i j id:=⟨o,xa,e,k,e,k,l',q1,by rw [Nat.zero_add];exact b7,hkj,oT⟩
        have h5:cY w' (Fr w.heap.size (qg w0 F0 H σ site sites.length fn.ntmps L) H3 σ2) e k l' x :=
         hr.2.mono (fun b hb hf=>⟨⟨hf.1,fun i y hy=>hf.2.1 i y (V6 i y hy),hf.2.2⟩,rfl⟩) fun _ _=>rfl
        exact h5.mono hF3 fun _ _=>rfl
      ·cases hb0:bI 0 k with
       | false=>rw [hb0] at u2;cases u2
       | true =>
        rw [hb0] at u2
        simp only [aN,Option.some.injEq] at u2
        subst u2
        have hv0:x=.slice ah 0 0:=by
         have:=hr.2
         cases this;rfl
        subst hv0
        exact ⟨hHs _ _ Q5,s2 e k rfl,[],bW w' 0 _ _,by simp,fun i j v hi=>by simp [AV.elems] at hi⟩
      ·cases u2
     | lr g' os =>
      unfold Oe at u2
      simp only at u2
      split at u2
      ·rename_i h' ss
       cases qV:(Nat.beq g' h' && lF ss (os.map fun i=>fn.ntmps+i)) with
       | false=>rw [qV] at u2;cases u2
       | true =>
        rw [Bool.and_eq_true] at qV
        have w1:=aF qV.1
        have w2:=qb qV.2
        subst w1;subst w2
        obtain ⟨rs,r1,r2,r3⟩:=hr
        refine ⟨rs,by simpa using r1,r2,fun m s r p1 p2=>?_⟩
        rw [aM] at p1
        cases YX:os[m]? with
        | none=>rw [YX] at p1;cases p1
        | some q =>
         rw [YX] at p1
         simp only [aY,Option.some.injEq] at p1
         subst p1
         have hq:=s3 g' os rfl q (aV YX)
         obtain ⟨b',_,_,_,_,d1,d2,_⟩:=KP q (sg.outs[q]'(by rw [oX];exact hq)) (List.getElem?_eq_getElem (by rw [oX];exact hq))
         have:=r3 m (fn.ntmps+q) r (by rw [aM,YX];rfl) p2
         rw [d2] at this;cases this
         exact d1
      ·cases u2
    ·rw [OM] at q2
     simp only [Option.map_eq_some_iff] at q2
     obtain ⟨cs0,c0,rfl⟩:=q2
     obtain ⟨r,us,e,c1,c2,c3,c4⟩:=h.mem s cs0 c0
     refine ⟨r,us,e,c1,?_,by simpa using c3,fun j c x hc hx=>?_⟩
     ·rw [I7 r (h.sown s r c1).2 fun SF=>(rQ r SF).2.2.2.1 s (fun i hi e=>q1 i (by omega) (by omega) (by rw [Nat.zero_add];exact e)) c1]
      exact c2
     ·rw [aM] at hc
      cases hc0:cs0[j]? with
      | none=>rw [hc0] at hc;cases hc
      | some cc =>
       rw [hc0] at hc
       simp only [aY,Option.some.injEq] at hc
       subst hc
       exact rO cc x (c4 j cc x hc0 hx)
   hown:=fun id x b hx hb=>by
    rcases Vl id x hx with hx | hx
    ·obtain ⟨h1,h2,_⟩:=Dl id x b hx hb
     refine ⟨?_,h2⟩
     rcases h1 with h1 | h1
     ·exact .inl (Nat.le_trans h.below.size h1)
     ·exact (rQ b h1).1
    ·obtain ⟨h1,h2⟩:=h.hown id x b (her id x hx).1 hb
     exact ⟨h1,aZ h2 hI.below.size⟩
   sown:=fun s r hs=>⟨(h.sown s r hs).1,aZ (h.sown s r hs).2 hI.below.size⟩
   obj:=h.obj
   hh:=fun id nw x y b hne hx hy Dk NS=>by
    have mixed:∀ id nw x y,lZ w' σ site sg.outs id x→erases H (L ++ iz site 0 sg.outs) nw=aa y→x.ownBlock=aa b→y.ownBlock=aa b→False:=by
     intro id nw x y hx hy Dk NS
     obtain ⟨h1,_,_⟩:=Dl id x b hx Dk
     obtain ⟨e1,e2,_⟩:=her nw y hy
     have:=(h.hown nw y b e1 NS).2
     rcases h1 with h1 | h1
     ·omega
     ·exact (rQ b h1).2.2.1 nw y e2 e1 NS
    rcases Vl id x hx with rJ | rJ <;> rcases Vl nw y hy with hy' | hy'
    ·obtain ⟨_,i,j,e,k,a1,a2,a3,a4⟩:=GR id x rJ
     obtain ⟨_,i',j',e',k',b1,b2,b3,b4⟩:=GR nw y hy'
     rcases a4 with rfl | ⟨sG,c1,c2⟩
     ·cases Dk
     ·rcases b4 with rfl | ⟨id3,d1,d2⟩
      ·cases NS
      ·refine hI3.hh sG id3 x y b (fun e=>?_) c2 d2 Dk NS
       subst e
       obtain ⟨p1,p2⟩:=Ad f3 c1 d1
       subst p1;subst p2
       exact hne (a1.trans b1.symm)
    ·exact mixed id nw x y rJ hy' Dk NS
    ·exact mixed nw id y x hy' rJ NS Dk
    ·exact h.hh id nw x y b hne (her id x rJ).1 (her nw y hy').1 Dk NS
   hs:=fun id s x r hx hs Dk=>by
    rcases Vl id x hx with rJ | rJ
    ·obtain ⟨h1,_,sG,h3⟩:=Dl id x r rJ Dk
     by_cases hs':∃ i,i < sites.length∧s=site i
     ·obtain ⟨i,hi,rfl⟩:=hs'
      obtain ⟨b',_,_,_,_,b1,b2,_⟩:=KP i sg.outs[i] (List.getElem?_eq_getElem (by omega))
      rw [hs] at b1;cases b1
      exact hI3.hs sG _ x _ h3 b2 Dk
     ·have:=(h.sown s r hs).2
      rcases h1 with h1 | h1
      ·omega
      ·exact (rQ r h1).2.2.2.1 s (fun i hi e=>hs' ⟨i,hi,e⟩) hs
    ·exact h.hs id s x r (her id x rJ).1 hs Dk
   ss:=h.ss
   glob:=fun g k e hg=>by
    have:=h.glob g k e hg
    obtain ⟨r,o,h1,h2,h3,h4⟩:=this
    obtain ⟨e1,e2⟩:=hF r h3 h2
    refine ⟨r,o,h1,e1,aZ h3 hI.below.size,fun j hj=>?_⟩
    obtain ⟨x,a1,a2,a3⟩:=h4 j hj
    exact ⟨x,by rw [← a1];exact aD (w:=w) e2,a2,a3.mono hF⟩
   below:=by
    have base:=h.below
    have hb:=hI.below
    refine ⟨hb.os.trans base.os,hb.tape.trans base.tape,hb.output.trans base.output,Nat.le_trans base.size hb.size,fun b hlt vN=>?_⟩
    rw [I7 b (aZ hlt base.size) fun SF=>?_]
    ·exact base.block b hlt vN
    ·rcases (rQ b SF).1 with h5 | h5
     ·omega
     ·exact vN h5 }
 ·have h5:Rel w' (Fr w.heap.size (qg w0 F0 H σ site sites.length fn.ntmps L) H3 σ2) (one? ((fn.results.toList.map (jX C pL)).map cQ.cP)) (zJ vs):=by
   refine OO (by simp [g1]) fun j x u hx hu=>?_
   rw [aM] at hu
   cases he:(fn.results.toList.map (jX C pL))[j]? with
   | none=>rw [he] at hu;cases hu
   | some e =>
    rw [he] at hu
    simp only [aY,Option.some.injEq] at hu
    subst hu
    have hm:=aV he
    exact kg (Q4 _ _ (g3 j e x he hx)) (List.all_eq_true.1 f2 e hm) fun id hid=>List.mem_append_left _ (eP.2 ⟨e,hm,hid⟩)
  exact h5.mono hF3
end
end Sx
namespace Sx
open Go Go.RowKit Go.Lib
section
variable {C:jT} {P:bn} {w0:az} {F0:Fs} {nt:ax} {st:St} {a:Act} {w:az} {H:ax→ak aC} {σ:ax→ak ax} {R:Type} {K:St→ak R} {r:R} {call:ax→ai AV→ak AV} {f:ax}
def lI (N H:ax→ak aC):ax→ak aC:=fun i=>match N i with | some x=>aa x | none=>H i
theorem mZ {N:ax→ak aC} {i:ax} {x:aC} (h:lI N H i=aa x):N i=aa x∨(N i=ah∧H i=aa x):=by
 unfold lI at h
 cases hn:N i with
 | none=>rw [hn] at h;exact .inr ⟨rfl,h⟩
 | some y=>rw [hn] at h;exact .inl h
theorem Inv.names (h:Inv C w0 F0 nt st a w H σ) {w':az} (hw:Ext w w') {N:ax→ak aC} (hN:∀ i x,N i=aa x→H i=ah) (hb:∀ i x g,N i=aa x→x.ownBlock=aa g→w.heap.size≤g∧g < w'.heap.size)
  (hd:∀ i j x y g,i≠j→N i=aa x→N j=aa y→x.ownBlock=aa g→y.ownBlock≠aa g):Inv C w0 F0 nt st a w' (lI N H) σ:=by
 have hF:∀ b,b < w.heap.size→Fr w0.heap.size F0 H σ b→Fr w0.heap.size F0 (lI N H) σ b∧w'.heap[b]?=w.heap[b]?:=fun b hb' hf=>by
  refine ⟨⟨hf.1,fun i v hv=>?_,hf.2.2⟩,hw.block b hb'⟩
  rcases mZ hv with hv | ⟨_,hv⟩
  ·intro e;have:=(hb i v b hv e).1;omega
  ·exact hf.2.1 i v hv
 have hH:∀ i y,H i=aa y→lI N H i=aa y∧∀ b,y.ownBlock=aa b→w'.heap[b]?=w.heap[b]?:=fun i y hi=>by
  refine ⟨?_,fun b hb'=>hw.block b (h.hown i y b hi hb').2⟩
  unfold lI
  cases hn:N i with
  | none=>exact hi
  | some x=>have:=hN i x hn;rw [hi] at this;cases this
 refine { h with env:=fun t=>(h.env t).mono hF hH fun _ _ hs=>hs,mem:=fun s cs hcs=>?_,hown:=fun i x g hi hx=>?_,sown:=fun s r hs=>?_,hh:=?_,hs:=?_,glob:=fun g k e hg=>?_,below:=hw.Ve h.below }
 ·obtain ⟨r,vs,e,h1,h2,h3,h4⟩:=h.mem s cs hcs
  exact ⟨r,vs,e,h1,by rw [hw.block r (h.sown s r h1).2];exact h2,h3,fun j c v hc hv=>(h4 j c v hc hv).mono hF (fun i y hi _=>hH i y hi) fun _ _ hs _=>hs⟩
 ·rcases mZ hi with hi | ⟨_,hi⟩
  ·obtain ⟨h1,h2⟩:=hb i x g hi hx;exact ⟨.inl (Nat.le_trans h.below.size h1),h2⟩
  ·obtain ⟨h1,h2⟩:=h.hown i x g hi hx;exact ⟨h1,aZ h2 hw.size⟩
 ·obtain ⟨h1,h2⟩:=h.sown s r hs;exact ⟨h1,aZ h2 hw.size⟩
 ·intro i j x y g zI hi hj hx hy
  rcases mZ hi with hi | ⟨_,hi⟩ <;> rcases mZ hj with hj | ⟨_,hj⟩
  ·exact hd i j x y g zI hi hj hx hy
  ·have:=(hb i x g hi hx).1;have:=(h.hown j y g hj hy).2;omega
  ·have:=(hb j y g hj hy).1;have:=(h.hown i x g hi hx).2;omega
  ·exact h.hh i j x y g zI hi hj hx hy
 ·intro i s x r hi hs hx
  rcases mZ hi with hi | ⟨_,hi⟩
  ·have:=(hb i x r hi hx).1;have:=(h.sown s r hs).2;omega
  ·exact h.hs i s x r hi hs hx
 ·exact (h.glob g k e hg).mono hF hH fun _ _ hs=>hs
theorem Inv.Ke (h:Inv C w0 F0 nt st a w H σ) (ids:ai ax):∃ H',Inv C w0 F0 nt (ids.foldl St.kl st) a w H' σ∧(∀ i x,H' i=aa x→H i=aa x)∧∀ i ∈ ids,H' i=ah:=by
 induction ids generalizing st H with
 | nil=>exact ⟨H,h,fun _ _ hx=>hx,by simp⟩
 | cons i r ih =>
  obtain ⟨H',h',h1,h2⟩:=ih (h.kl i)
  refine ⟨H',h',fun j x hj=>(cr (h1 j x hj)).2,fun j hj=>?_⟩
  rcases List.mem_cons.1 hj with rfl | hj
  ·cases hx:H' j with
   | none=>rfl
   | some x=>exact absurd rfl (cr (h1 j x hx)).1
  ·exact h2 j hj
theorem OQ {d i j:ax} (h:Od d i=Od d j):i=j:=by unfold Od at h;omega
theorem I8 {st':St} {o:Oper} {ks:ai (ak (ax×ax))} {res:AV} {w':az} {v:aC} (hd:∀ t,o.dst=aa t→t < nt) (h:Inv C w0 F0 nt st a w H σ) (hw:Ext w w') (hr:mG ks w w' (Fr w0.heap.size F0 H σ) res v)
  (hp:rY st o.dst ks res=aa st'):∃ H',Inv C w0 F0 nt st' (a.put o.dst v) w' H' σ:=by
 unfold rY at hp
 unfold mG at hr
 cases hall:ks.all Option.isNone with
 | true =>
  rw [hall] at hp
  rw [aJ hall] at hr
  simp only [aN,Option.some.injEq] at hp
  subst hp
  refine ⟨H,(h.ext hw).put hd ?_⟩
  refine Rel.mono (fun b hb hf=>⟨?_,rfl⟩) hr
  by_cases hlt:b < w.heap.size
  ·exact hf hlt
  ·exact ⟨fun hh=>by have:=h.below.size;omega,fun i v hv e=>by have:=(h.hown i v b hv e).2;omega,fun s e=>by have:=(h.sown s b e).2;omega⟩
 | false =>
  rw [hall] at hp
  rw [aI (by rw [hall];simp)] at hr
  simp only [bB] at hp
  obtain ⟨vs,hl,hv,hrel,aac⟩:=hr
  have main:∀ (d:ax) (id:ax→ax) (e:cQ),o.dst=aa d→(∀ i j,id i=id j→i=j) →
    (∀ (N H':ax→ak aC),(∀ (j:ax) (x:aC) (p:ax×ax),vs[j]?=aa x→ks[j]?=aa (aa p)→N (id j)=aa x)→(∀ i x,N i=aa x→∃ j p,i=id j∧vs[j]?=aa x∧ks[j]?=aa (aa p)) →
     (∀ i x,H' i=aa x→H i=aa x) →
     (∀ (F:ax→Prop),(∀ b,b < w'.heap.size→((b < w.heap.size→Fr w0.heap.size F0 H σ b)∧∀ (i:ax) (y:aC) (p:ax×ax),vs[i]?=aa y→ks[i]?=aa (aa p)→y.ownBlock≠aa b)→F b)→F=Fr w0.heap.size F0 (lI N H') σ→fL w' F (lI N H') σ e v)) →
    ∃ H',Inv C w0 F0 nt ((((List.range ks.length).map id).foldl St.kl st).set d e) (a.put o.dst v) w' H' σ:=by
   intro d id e eC aad he
   obtain ⟨H1,h1,qa,hnone⟩:=h.Ke ((List.range ks.length).map id)
   let N:ax→ak aC:=fun i=>match (List.range ks.length).find? (fun j=>id j == i) with
    | some j=>match ks[j]? with | some (aa _)=>vs[j]? | _=>ah
    | none=>ah
   have V8:∀ j,j < ks.length→(List.range ks.length).find? (fun q=>id q == id j)=aa j:=by
    intro j hj
    cases hf:(List.range ks.length).find? (fun q=>id q == id j) with
    | none =>
     have:=List.find?_eq_none.1 hf j (List.mem_range.2 hj)
     simp at this
    | some q =>
     have:=fV hf
     rw [aad q j (by simpa using this)]
   have V9:∀ (j:ax) (x:aC) (p:ax×ax),vs[j]?=aa x→ks[j]?=aa (aa p)→N (id j)=aa x:=by
    intro j x p hx hk
    have hj:j < ks.length:=(List.getElem?_eq_some_iff.1 hk).1
    show (match (List.range ks.length).find? (fun q=>id q == id j) with
    | some j=>match ks[j]? with | some (aa _)=>vs[j]? | _=>ah
    | none=>ah)=aa x
    rw [V8 j hj]
    simp only [hk]
    exact hx
   have Q6:∀ i x,N i=aa x→∃ j p,i=id j∧vs[j]?=aa x∧ks[j]?=aa (aa p):=by
    intro i x hi
    have hi':(match (List.range ks.length).find? (fun q=>id q == i) with
    | some j=>match ks[j]? with | some (aa _)=>vs[j]? | _=>ah
    | none=>ah)=aa x:=hi
    cases hf:(List.range ks.length).find? (fun q=>id q == i) with
    | none=>rw [hf] at hi';cases hi'
    | some j =>
     rw [hf] at hi'
     have hj:id j=i:=by simpa using fV hf
     cases hk:ks[j]? with
     | none=>simp only [hk] at hi';cases hi'
     | some o=>cases o with
      | none=>simp only [hk] at hi';cases hi'
      | some p=>simp only [hk] at hi';exact ⟨j,p,hj.symm,hi',hk⟩
   have aae:=h1.names hw (N:=N) (fun i x hi=>by
     obtain ⟨j,p,rfl,hx,hk⟩:=Q6 i x hi
     exact hnone _ (List.mem_map.2 ⟨j,List.mem_range.2 (List.getElem?_eq_some_iff.1 hk).1,rfl⟩))
    (fun i x g hi hg=>by
     obtain ⟨j,p,rfl,hx,hk⟩:=Q6 i x hi
     have:=hrel j x (aa p) hx hk
     exact ⟨this.2 g hg,this.1.lt hg⟩)
    (fun i i' x y g hne hi hi' hg=>by
     obtain ⟨j,p,rfl,hx,hk⟩:=Q6 i x hi
     obtain ⟨j',p',rfl,rJ,oY⟩:=Q6 i' y hi'
     exact aac j j' x y p p' g (fun e=>hne (by rw [e])) hx rJ hk oY hg)
   refine ⟨lI N H1,?_⟩
   rw [eC]
   refine aae.put (d:=aa d) (fun t ht=>by cases ht;exact hd _ eC) (he N H1 V9 Q6 qa _ (fun b hb hf=>?_) rfl)
   refine ⟨fun hh=>(hf.1 (aZ hh h.below.size)).1 hh,fun i x hi=>?_,fun s e=>?_⟩
   ·rcases mZ hi with hi | ⟨_,hi⟩
    ·obtain ⟨j,p,rfl,hx,hk⟩:=Q6 i x hi
     exact hf.2 j x p hx hk
    ·intro e
     have h3:=qa i x hi
     have hlt:=(h.hown i x b h3 e).2
     exact (hf.1 hlt).2.1 i x h3 e
   ·have hlt:=(h.sown s b e).2
    exact (hf.1 hlt).2.2 s e
  have single:∀ e k d,ks=[aa (e,k)]→o.dst=aa d→aa (jW st d e k res.elems)=aa st'→∃ H',Inv C w0 F0 nt st' (a.put o.dst v) w' H' σ:=by
   intro e k d I0 eC hst
   subst I0
   cases hst
   obtain ⟨x,rfl⟩:=eD.1 (by simpa using hl:vs.length=1)
   have hvx:v=x:=hv
   subst hvx
   have h0:=hrel 0 v (aa (e,k)) rfl rfl
   have hm:=main d (fun j=>d+j) (.cell (.own d e k res.elems)) eC (fun i j zI=>by omega) (fun N H' V9 Q6 qa F hF hFe=>by
    refine ⟨?_,?_⟩
    ·have hh:=V9 0 v (e,k) rfl rfl
     show lI N H' d=aa v
     unfold lI
     rw [show d=d+0 from rfl,hh]
    ·have:=h0.1
     have hco:sy [v].length res 0=res:=by simp [sy]
     rw [hco] at this
     subst hFe
     exact this.mono (fun b hb hf=>⟨hF b hb hf,rfl⟩) (fun _ _=>rfl))
   simpa [jW] using hm
  have several:∀ d,o.dst=aa d→2≤ks.length→aa (((List.range ks.length).foldl (fun st j=>st.kl (Od d j)) st).set d (.uJ res (ks.zipIdx.map fun (o,j)=>aa (o.map fun (e,k)=>(Od d j,e,k)))))=aa st'→∃ H',Inv C w0 F0 nt st' (a.put o.dst v) w' H' σ:=by
   intro d eC h2 hst
   cases hst
   have hm:=main d (Od d) (.uJ res (ks.zipIdx.map fun (o,j)=>aa (o.map fun (e,k)=>(Od d j,e,k)))) eC (fun i j zI=>OQ zI) (fun N H' V9 Q6 qa F hF hFe=>by
    have YS:v=.tuple vs.toArray:=by
     rw [hv]
     match vs,hl with
     | [],hl=>rfl
     | [x],hl=>simp at hl;omega
     | x :: y :: r,hl=>rfl
    have hlen:vs.length≠1:=by omega
    refine ⟨vs,YS,by simp [hl],fun j q x hq hx=>?_⟩
    rw [aM,List.getElem?_zipIdx] at hq
    cases hk:ks[j]? with
    | none=>rw [hk] at hq;cases hq
    | some p =>
     rw [hk] at hq
     simp only [aY,Nat.zero_add,Option.some.injEq] at hq
     subst hq
     have h3:=hrel j x p hx hk
     unfold sy at h3
     rw [aI hlen] at h3
     cases p with
     | none=>exact Rel.mono (fun b hb hf=>⟨hF b hb hf,rfl⟩) h3
     | some p =>
      obtain ⟨e,k⟩:=p
      refine ⟨?_,h3.1.mono (fun b hb hf=>⟨hF b hb hf,rfl⟩) (fun _ _=>rfl)⟩
      unfold lI
      rw [V9 j x (e,k) hx hk])
   rw [List.foldl_map] at hm
   exact hm
  cases V':o.dst with
  | none =>
   rw [V'] at hp
   rcases ks with _ | ⟨x,_ | ⟨y,rest⟩⟩
   ·simp at hall
   ·cases x with
    | none=>simp at hall
    | some p=>cases hp
   ·cases x <;> cases hp
  | some d =>
   rw [V'] at hp
   rw [← V']
   rcases ks with _ | ⟨x,_ | ⟨y,rest⟩⟩
   ·simp at hall
   ·cases x with
    | none=>simp at hall
    | some p=>exact single p.1 p.2 d rfl V' hp
   ·exact several d V' (by simp) (by cases x <;> exact hp)
theorem KQ {F:ax→Prop} {xs:ai Operand} {ids:ai ax} {H':ax→ak aC} (h:Inv C w0 F0 nt st a w H σ) (pZ:∀ e x,fL w (Fr w0.heap.size F0 H σ) H σ e x→fL w F H' σ (e.oQ ids) x)
  (Dc:∀ x ∈ xs,∀ i ∈ (st.get C x).ids,i ∈ ids) (ht:xs.all (fun x=>(st.get C x).told)=aj) (j:ax) (b:AV) (v:aC) (hb:(xs.map fun x=>(st.get C x).cP)[j]?=aa b) (hv:(xs.map a.eval)[j]?=aa v):Rel w F b v:=by
 rw [aM] at hb hv
 cases hx:xs[j]? with
 | none=>rw [hx] at hb;cases hb
 | some x =>
  rw [hx] at hb hv
  cases hb;cases hv
  have hm:=aV hx
  exact kg (pZ _ _ (h.get x)) (List.all_eq_true.1 ht x hm) (Dc x hm)
theorem Dm {o:Oper} {c:Call} {g:ax} {X:Operand} (ho:o.op=.call c) (hc:c.callee=.value X) (hg:a.eval X=.func (.func g) #[] #[]) (jY:C.sig g=ah) (hC:oq C P call) (h:Inv C w0 F0 nt st a w H σ) (hd:∀ t,o.dst=aa t→t < nt)
  (ht:(c.args.toList.map (st.get C)).all cQ.told=aj) {res:AV} (hres:call g ((c.args.toList.map (st.get C)).map cQ.cP)=aa res) {st':St} (hp:rY (st.oQ ((c.args.toList.map (st.get C)).flatMap cQ.ids)) o.dst (C.own g) res=aa st') (hK:K st'=aa r):Goes C P w0 F0 nt st a w σ K r o:=by
 obtain ⟨H1,h1,pZ,qa,Dg⟩:=h.Bc ((c.args.toList.map (st.get C)).flatMap cQ.ids)
 intro next Q hn
 have lH:∀ w',Ext w w'→kS C st o σ w w':=fun w' hw=>by
  unfold kS
  rw [ho]
  obtain ⟨ce,ar,VX⟩:=c
  simp only at hc
  subst hc
  show if Og C st X=aj then True else Ext w w'
  split
  ·trivial
  ·exact hw
 have hrun:=hC.1 g _ res hres jY w (Fr w0.heap.size F0 H1 σ) (c.args.map a.eval) (fun g k e hg=>h1.glob g k e hg) (by simp) (fun j b v hb hv=>by
  rw [List.map_map] at hb
  refine KQ (xs:=c.args.toList) h pZ (fun x hx i hi=>?_) ?_ j b v hb (by simpa using hv)
  ·exact eP.2 ⟨_,List.mem_map.2 ⟨x,hx,rfl⟩,hi⟩
  ·simpa [List.all_map] using ht)
 have post:∀ v w',Ext w w'→mG (C.own g) w w' (Fr w0.heap.size F0 H1 σ) res v→next (a.put o.dst v) w':=by
  intro v w' hw hr
  obtain ⟨H',hI⟩:=I8 (o:=o) hd h1 hw hr hp
  exact hn _ w' _ H' σ hK hI (lH w' hw) ⟨fun s _=>rfl,.inr (.inr rfl)⟩ (Only.put a o.dst v)
 have KR:∀ w:az,(execOp a.eval o).run P w=(callFunc g (c.args.map a.eval)).run P w:=fun w=>by
  simp only [execOp,ho,resolve,hc,hg]
  simp [jm,invoke]
 unfold Oper.wp
 rw [KR w]
 rcases hrun with ⟨fn,cb,hfn,mi,hname,ET⟩ | ⟨v,hv,fp⟩
 ·have:(callFunc g (c.args.map a.eval)).run P w=.ok (.enter g (c.args.map a.eval)) w:=by
   have sH:¬ fn.name = "runtime.NumGoroutine" := by simpa using hname
   simp [callFunc,hfn,mi,sH]
  rw [this,iD]
  refine Calls.mono ET fun e w' he=>?_
  obtain ⟨v,rfl,hw,hr⟩:=he
  exact post v w' hw hr
 ·rw [hv,eT]
  obtain ⟨v',he,hw,hr⟩:=fp
  cases he
  exact post v w hw hr
theorem OS (ids:ai ax):∀ (st:St) (s:ax),(st.oQ ids).mem s=(st.mem s).map (·.map fun c=>ids.foldl (fun c i=>Cell.fz i c) c):=by
 induction ids with
 | nil=>intro st s;simp [St.oQ]
 | cons a r ih =>
  intro st s
  have:(st.oQ (a :: r)).mem s=((st.fz a).oQ r).mem s:=rfl
  rw [this,ih]
  simp [St.fz,St.map,Option.map_map,iP]
theorem OT (ids:ai ax):∀ (c:Cell) (id e k:ax) (l:ai AV),ids.foldl (fun c i=>Cell.fz i c) c=.own id e k l→c=.own id e k l∧id ∉ ids:=by
 induction ids with
 | nil=>intro c id e k l h;exact ⟨h,by simp⟩
 | cons a r ih =>
  intro c id e k l h
  obtain ⟨h1,h2⟩:=ih (Cell.fz a c) id e k l h
  cases c with
  | own i e' k' l' =>
   simp only [Cell.fz,cH] at h1
   split at h1
   ·cases h1
   ·rename_i hne
    cases h1
    exact ⟨rfl,fun hm=>by rcases List.mem_cons.1 hm with e | e;exact hne e;exact h2 e⟩
  | _=>cases h1
theorem qh {o:Oper} {c:Call} {g:ax} {X:Operand} {sg:A4} {cv:bF aC} {ss:ai ax} (ho:o.op=.call c) (hc:c.callee=.value X) (hg:a.eval X=.func (.func g) #[] cv) (jY:C.sig g=aa sg) (hM:Og C st X=aj)
  (hcv:cv.size=ss.length∧∀ (j s:ax) (v:aC),ss[j]?=aa s→cv[j]?=aa v→∃ r,σ s=aa r∧v=.pointer (aa ⟨r,0,ah⟩))
  (hC:oq C P call) (hT:∀ t i,C.ty t=aa i→gS P t i) (h:Inv C w0 F0 nt st a w H σ) (hd:∀ t,o.dst=aa t→t < nt)
  (hK:jM C call sg g (c.args.toList.map (st.get C) ++ ss.map fun s=>.cell (.ptr s 0)) o.dst st K=aa r):Goes C P w0 F0 nt st a w σ K r o:=by
 generalize YN:c.args.toList.map (st.get C) ++ ss.map (fun s=>cQ.cell (.ptr s 0))=xs at hK
 unfold jM at hK
 obtain ⟨sites,SG,hK⟩:=aR.1 hK
 simp only at hK
 generalize Dc:se sg.ps xs ++ gw af (fun i=>sites.getD i 0) st.mem 0 sg.objs=ids at hK
 cases hb:(GF sg && (nodup sites && (rZ sites sg.ps xs && (nodup (gw aj (fun i=>sites.getD i 0) (st.oQ ids).mem 0 sg.objs) && (C.own g).isEmpty)))) with
 | false=>rw [hb] at hK;cases hK
 | true =>
  rw [hb] at hK
  simp only [aN] at hK
  simp only [Bool.and_eq_true] at hb
  obtain ⟨SH,hn,hp,hno,_⟩:=hb
  unfold GF at SH
  simp only [Bool.and_eq_true] at SH
  obtain ⟨kf,OI,oX⟩:=SH
  have oX:=aF oX
  obtain ⟨ins,Wa,hK⟩:=aR.1 hK
  obtain ⟨res,hres,hK⟩:=aR.1 hK
  obtain ⟨v0,hv0,hK⟩:=aR.1 hK
  obtain ⟨H1,h1,pZ,qa,Dg⟩:=h.Bc ids
  have hl:sites.length=sg.objs.length:=by have:=vV SG;simpa using this
  obtain ⟨fn,hfn,hnt,Kr,hrun⟩:=hC.2 g sg _ res hres jY
  obtain ⟨YR,_,_⟩:=uU hp
  have uS:(c.args.map a.eval ++ cv).size=sg.ps.length:=by
   rw [← YR,← YN]
   simp [hcv.1]
  have hx:∀ (t:ax) (e:cQ) (v:aC),xs[t]?=aa e→(c.args.map a.eval ++ cv)[t]?=aa v→fL w (Fr w0.heap.size F0 H σ) H σ e v:=by
   intro t e v he hv
   rw [← YN] at he
   by_cases ht:t < c.args.size
   ·rw [aX (by simpa using ht),aM] at he
    rw [Array.getElem?_append_left (by simpa using ht),Array.getElem?_map] at hv
    have e1:c.args.toList[t]?=aa c.args[t]:=by simp [ht]
    have e2:c.args[t]?=aa c.args[t]:=by simp [ht]
    rw [e1] at he
    rw [e2] at hv
    cases he;cases hv
    exact h.get _
   ·rw [aS (by simpa using ht),aM] at he
    rw [Array.getElem?_append_right (by simpa using ht)] at hv
    simp only [aP,Array.length_toList,Array.size_map] at he hv
    cases hs:ss[t - c.args.size]? with
    | none=>rw [hs] at he;cases he
    | some s =>
     rw [hs] at he
     cases he
     obtain ⟨b,q1,q2⟩:=hcv.2 _ s v hs hv
     exact ⟨b,q1,q2⟩
  have hI:=KN (vs:=c.args.map a.eval ++ cv) (ntg:=fn.ntmps) (ids:=ids) h1 kf hn hp hl hno Wa uS hnt
   (fun i j o' cs cc NV hk hm hcc id e k l heq=>by
    rw [OS] at hm
    simp only [Option.map_eq_some_iff] at hm
    obtain ⟨cs0,oH,rfl⟩:=hm
    rw [aM] at hcc
    cases hc0:cs0[j]? with
    | none=>rw [hc0] at hcc;cases hcc
    | some c0 =>
     rw [hc0] at hcc
     simp only [aY,Option.some.injEq] at hcc
     subst hcc
     obtain ⟨h5,h6⟩:=OT ids c0 id e k l heq
     subst h5
     refine h6 ?_
     rw [← Dc]
     refine List.mem_append_right _ (uV (site:=fun i=>sites.getD i 0) (i0:=0) (i:=i) NV (by rw [Nat.zero_add];exact oH) (fun e k he=>by rw [hk] at he;cases he) (List.getElem?_eq_some_iff.1 hk).1 hc0 (by simp [Cell.ids])))
   (fun t e v he hv=>⟨fun ht hi=>kg (pZ _ _ (hx t e v he hv)) ht fun i hi'=>by rw [← Dc];exact List.mem_append_left _ (hi i hi'),fun cc hcc=>by
    have h5:=hx t e v he hv
    subst hcc
    cases cc with
    | dead=>exact .inr (.inr rfl)
    | val u=>exact .inr (.inl rfl)
    | own id e k l=>exact .inr (.inl rfl)
    | ptr s o'=>exact .inl h5
    | lr g' ss'=>exact .inl h5⟩)
  have rR:=hrun w _ (c.args.map a.eval ++ cv) _ _ uS hI
  have post:∀ v w',Kw C P g fn sg w (qg w0 F0 H1 σ (fun i=>sites.getD i 0) sites.length fn.ntmps (gw aj (fun i=>sites.getD i 0) (st.oQ ids).mem 0 sg.objs)) res (.returned v) w'→∀ (next:Act→az→Prop),(∀ (a':Act) (w':az) (st':St) (H':ax→ak aC) (σ':ax→ak ax),K st'=aa r→Inv C w0 F0 nt st' a' w' H' σ'→kS C st o σ w w' →
  ((∀ s,o.dst≠aa s→σ' s=σ s)∧((∃ t,o.op=.alloc t)∨(∃ t x,o.op=.box t x)∨σ'=σ))→Only o.dst a a'→next a' w')→next (a.put o.dst v) w':=by
   intro v w' fp next YY
   obtain ⟨v',he,pL,a2,H2,σ2,Wb,hf2,hr2⟩:=fp
   cases he
   obtain ⟨r0,ls,H',Wc,Q2,hIn,hrel⟩:=I6 (a:=a) hT h1 OI oX hn (hl.trans oX.symm) hno Wa Wb hf2 hr2
   subst Wc
   have aaf:v0=r0:=by
    have:(r0 :: ls.map AV.ag)[0]?=aa v0:=hv0
    simpa using this.symm
   subst aaf
   have hK':=xW (pre:=[]) (ls:=ls) Q2 (by simpa using hK)
   refine YY _ w' _ H' σ hK' (hIn.put hd hrel) ?_ ⟨fun s _=>rfl,.inr (.inr rfl)⟩ (Only.put a o.dst v)
   unfold kS
   rw [ho]
   obtain ⟨ce,ar,VX⟩:=c
   simp only at hc
   subst hc
   show if Og C st X=aj then True else Ext w w'
   rw [aJ hM];trivial
  intro next Q YY
  have KR:∀ w:az,(execOp a.eval o).run P w=(callFunc g (c.args.map a.eval ++ cv)).run P w:=fun w=>by
   simp only [execOp,ho,resolve,hc,hg]
   simp [jm,invoke]
  unfold Oper.wp
  rw [KR w]
  rcases rR with ⟨fn',cb,OU,mi,hname,ET⟩ | ⟨v,hv,fp⟩
  ·have:(callFunc g (c.args.map a.eval ++ cv)).run P w=.ok (.enter g (c.args.map a.eval ++ cv)) w:=by
    have sH:¬ fn'.name = "runtime.NumGoroutine" := by simpa using hname
    simp [callFunc,OU,mi,sH]
   rw [this,iD]
   refine Calls.mono ET fun e w' he=>?_
   have Q7:=he
   obtain ⟨v,rfl,_⟩:=he
   exact post v w' Q7 next YY
  ·rw [hv,eT]
   have Q7:=fp
   obtain ⟨v',he,_⟩:=fp
   cases he
   exact post v w Q7 next YY
theorem OV {o:Oper} {c:Call} (ho:o.op=.call c) (hC:oq C P call) (hT:∀ t i,C.ty t=aa i→gS P t i) (h:Inv C w0 F0 nt st a w H σ) (hd:∀ t,o.dst=aa t→t < nt)
  (hK:pQ C call c o.dst st K=aa r) (Vi:C.pure o.op=af):Goes C P w0 F0 nt st a w σ K r o:=by
 unfold pQ at hK
 cases hc:c.callee with
 | invoke x n=>rw [hc] at hK;cases hK
 | builtin b =>
  rw [hc] at hK
  simp only [mX] at hK
  rw [ho] at Vi
  obtain ⟨ce,ar,VX⟩:=c
  simp only at hc
  subst hc
  split at hK <;> first | (cases hK;done) | (exfalso;cases Vi;done) | skip
  rename_i x y t u ts ha NT
  exact I3 ho rfl ha NT hT h hd hK
 | value X =>
  rw [hc] at hK
  cases X with
  | func g =>
   simp only at hK
   cases jY:C.sig g with
   | some sg =>
    rw [jY] at hK
    exact qh (ss:=[]) (cv := #[]) ho hc rfl jY (by show (C.sig g).isSome=aj;rw [jY];rfl) ⟨rfl,fun j s v hs=>by simp at hs⟩ hC hT h hd (by simpa using hK)
   | none =>
   rw [jY] at hK
   simp only at hK
   cases ht:(c.args.toList.map (st.get C)).all cQ.told with
   | false=>rw [ht] at hK;cases hK
   | true =>
    rw [ht] at hK
    simp only [aN] at hK
    cases hr:call g ((c.args.toList.map (st.get C)).map cQ.cP) with
    | none=>rw [hr] at hK;cases hK
    | some res =>
     rw [hr] at hK
     simp only [Option.bind_some] at hK
     cases hp:rY (st.oQ ((c.args.toList.map (st.get C)).flatMap cQ.ids)) o.dst (C.own g) res with
     | none=>rw [hp] at hK;cases hK
     | some st' =>
      rw [hp] at hK
      exact Dm ho hc rfl jY hC h hd ht hr hp hK
  | tmp t =>
   simp only at hK
   split at hK
   ·rename_i g ss jz
    cases jY:C.sig g with
    | none=>rw [jY] at hK;cases hK
    | some sg =>
     rw [jY] at hK
     have hx:=h.env t
     rw [jz] at hx
     obtain ⟨rs,h1,h2,h3⟩:=hx
     have h2:a.eval (.tmp t)=.func (.func g) #[] (rs.map fun r=>(.pointer (aa ⟨r,0,ah⟩):aC)).toArray:=h2
     refine qh (ss:=ss) (cv:=(rs.map fun r=>.pointer (aa ⟨r,0,ah⟩)).toArray) ho hc h2 jY (by show (match st.env t with | .cell (.lr _ _)=>aj | _=>af)=aj;rw [jz]) ⟨by simpa using h1,fun j s v hs hv=>?_⟩ hC hT h hd hK
     have hv:(rs.map fun r=>(.pointer (aa ⟨r,0,ah⟩):aC))[j]?=aa v:=by simpa using hv
     rw [aM] at hv
     cases hr:rs[j]? with
     | none=>rw [hr] at hv;cases hv
     | some b=>rw [hr] at hv;cases hv;exact ⟨b,h3 j s b hs hr,rfl⟩
   ·rename_i VM
    cases ht:(c.args.toList.map (st.get C)).all cQ.told with
    | false=>rw [ht] at hK;cases hK
    | true =>
     rw [ht] at hK
     simp only [aN] at hK
     cases hf:AV.R9 (st.env t).cP with
     | none=>rw [hf] at hK;cases hK
     | some g =>
      rw [hf] at hK
      simp only [Option.bind_some] at hK
      have hg:a.eval (.tmp t)=.func (.func g) #[] #[]:=by
       have:=(h.get (.tmp t)).cP
       rcases this with e | e
       ·have e':(st.env t).cP=.un:=e
        rw [e'] at hf;cases hf
       ·have e':Rel w T (st.env t).cP (a.eval (.tmp t)):=e
        generalize (st.env t).cP=Y at hf e'
        generalize a.eval (.tmp t)=V at e'
        cases Y <;> first | cases hf | skip
        cases e'
        rfl
      obtain ⟨res,hr,hK⟩:=aR.1 hK
      unfold vK at hr
      cases hb:((C.sig g).isNone && (C.own g).all Option.isNone) with
      | false=>rw [hb] at hr;cases hr
      | true =>
       rw [hb] at hr
       simp only [aN] at hr
       rw [Bool.and_eq_true] at hb
       exact Dm (st':=(st.oQ ((c.args.toList.map (st.get C)).flatMap cQ.ids)).put o.dst (.val res)) ho hc hg (by simpa using hb.1) hC h hd ht hr (by unfold rY;rw [hb.2];rfl) hK
  | const v=>cases hK
  | global g=>cases hK
theorem SI {o:Oper} {t u:TypeId} {x:Operand} (ho:o.op=.convert t u x) (hT:∀ t i,C.ty t=aa i→gS P t i) (h:Inv C w0 F0 nt st a w H σ) (hd:∀ t,o.dst=aa t→t < nt)
  (hs:C.kd t=aa .slice) (hl:C.kd u=aa .slice) (hK:oo C t u (st.get C x) o.dst st K=aa r):Goes C P w0 F0 nt st a w σ K r o:=by
 unfold oo at hK
 rw [hs,hl] at hK
 simp only at hK
 split at hK
 ·rename_i id e k v l jz
  cases hb:(Nat.beq t u && Nat.beq k 1) with
  | false=>rw [hb] at hK;cases hK
  | true =>
   rw [hb] at hK
   simp only [aN] at hK
   rw [Bool.and_eq_true] at hb
   have htu:=aF hb.1
   have zE:=aF hb.2
   subst htu zE
   obtain ⟨i,hi,hik⟩:=jD hs
   have hu:=(hT t i hi).und
   rw [hik] at hu
   rw [hi] at hK
   simp only [Option.bind_some] at hK
   split at hK
   ·rename_i h3
    obtain ⟨i3,e3,f3⟩:=jD h3
    have J1:=(hT i.elem i3 e3).und
    rw [f3] at J1
    have hr:=h.get x
    rw [jz] at hr
    obtain ⟨hH,hown⟩:=hr
    obtain ⟨g,cap,cur,hx,hg,hc,hm,hsz,_,wY⟩:=hown.rr (by simp)
    have hrow:(a.eval x).ownBlock=aa g:=by rw [hx];rfl
    let w':az:=w.freeze ⟨g,cur.size,ah⟩ 1
    have KS:∀ b,b≠g→w'.heap[b]?=w.heap[b]?:=fun b hne=>by
     simp [w',iI,iV,Ne.symm hne]
    have hlt:=(h.hown id _ g hH hrow).2
    have hat:∃ fz,w'.heap[g]?=aa (.cells cur e fz):=by
     have CY:w.heap[g]=.cells cur e (0,0):=(Array.getElem?_eq_some_iff.1 hg).2
     refine ⟨(cur.size,cur.size+1),?_⟩
     simp [w',iI,iV,hg]
    obtain ⟨fz,hat⟩:=hat
    have hsz':w'.heap.size=w.heap.size:=by simp [w',iI]
    have KF:=h.uN id id (aa g) (w':=w') (x:=a.eval x) rfl rfl rfl (by rw [hsz'];exact Nat.le_refl _) (fun b _ hne=>KS b fun e=>hne (by rw [e])) (fun g' Vm=>⟨_,hH,by cases Vm;exact hrow⟩)
     (fun g' Vm=>by rw [hrow] at Vm;cases Vm;exact ⟨.inl rfl,by rw [hsz'];exact hlt⟩)
    have h4:=KF.kl id
    rw [zW,zW] at h4
    refine mM (v:=a.eval x) (w':=w') ?_ hK (h4.put hd ?_) (by unfold kS;rw [ho];simp [jT.pure,hs]) ⟨fun s _=>rfl,.inr (.inr rfl)⟩
    ·simp only [execOp,ho,Sem.run_bind,hx]
     have SJ:w.shape? g=aa (e,cur.size):=by simp [World.shape?,hg]
     simp [convert,run_underlying hu,run_underlying J1,markStringish,SJ,w']
    ·have Vo:∀ b,b < w.heap.size→Fr w0.heap.size F0 H σ b→Fr w0.heap.size F0 (Sx.erase (upd (Sx.erase (Sx.erase H id) id) id (a.eval x)) id) σ b∧w'.heap[b]?=w.heap[b]?:=fun b hb hf=>by
      refine ⟨⟨hf.1,fun j y hy=>?_,hf.2.2⟩,KS b fun e=>hf.2.1 id _ hH (by rw [hrow,e])⟩
      obtain ⟨hj,hy⟩:=cr hy
      rcases kA hy with ⟨e,_⟩ | ⟨_,hy⟩
      ·exact absurd e hj
      ·exact hf.2.1 j y (cr (cr hy).2).2
     show Rel w' _ (.ro 1 (v :: l)) (a.eval x)
     refine (bA (fun y=>Rel w' (Fr w0.heap.size F0 (Sx.erase (upd (Sx.erase (Sx.erase H id) id) id (a.eval x)) id) σ) (.ro 1 (v :: l)) y) hx).mpr ?_
     refine Rel.ro 1 (v :: l) g 0 cap (cur.toList.take ((v :: l).length * 1)) (by omega) hc ⟨fun hh=>?_,fun j y hy=>?_,fun s hs'=>?_⟩ wY.1 (fun j y hy=>?_) wY.2.1 (fun q j y hq hj hy=>(wY.2.2 q j y hq hj hy).mono Vo)
     ·rcases (h.hown id _ g hH hrow).1 with h5 | h5
      ·omega
      ·exact .inr h5
     ·obtain ⟨hj,hy⟩:=cr hy
      rcases kA hy with ⟨e,_⟩ | ⟨_,hy⟩
      ·exact absurd e hj
      ·have hy':=(cr (cr hy).2).2
       intro e
       exact h.hh j id y _ g hj hy' hH e hrow
     ·exact h.hs id s _ g hH hs' hrow
     ·rw [Nat.zero_add,cell_of_row w' g j cur e fz hat]
      rw [bJ] at hy
      split at hy
      ·simpa using hy
      ·cases hy
   ·cases hK
 ·cases hK
theorem OW {o:Oper} (hC:oq C P call) (hT:∀ t i,C.ty t=aa i→gS P t i) (h:Inv C w0 F0 nt st a w H σ) (hd:∀ t,o.dst=aa t→t < nt) (hK:fk C call f o st K=aa r):Goes C P w0 F0 nt st a w σ K r o:=by
 cases hp:C.pure o.op with
 | true=>exact (uT (ws:=[]) hp hT h hd hK (xQ.self [] σ w) (fun _ _ _ _ _ _=>by simp)).goes hp
 | false =>
  have Vi:=hp
  cases hop:o.op <;> rw [hop] at hp <;> first | (cases hp;done) | skip
  all_goals first | (simp only [fk,hop] at hK;cases hK;done) | skip
  case alloc t=>simp only [fk,hop] at hK;exact KI hop hT h hd hK
  case box t x=>simp only [fk,hop] at hK;exact SB hop hT h hd hK
  case buildSlice t n ps=>simp only [fk,hop] at hK;exact zL hop hT h hd hK
  case store t x y=>simp only [fk,hop] at hK;exact KL hop hT h hK
  case makeSlice t n c=>simp only [fk,hop] at hK;exact Bh hop hT h hd hK
  case call c=>simp only [fk,hop] at hK;exact OV hop hC hT h hd hK Vi
  case slice t x lo hi mx =>
   simp only [fk,hop] at hK
   exfalso
   simp only [jT.pure] at hp
   cases mx with
   | some m=>cases hK
   | none =>
    simp only [oV] at hK
    split at hK
    ·rename_i hk;rw [hk] at hp;cases hp
    ·rename_i hk;rw [hk] at hp;cases hp
    ·cases hK
  case convert t u x =>
   simp only [fk,hop] at hK
   simp only [jT.pure] at hp
   split at hp
   ·rename_i h1 h2;exact SC hop hT h hd h1 h2 hK
   ·rename_i h1 h2;exact SI hop hT h hd h1 h2 hK
   ·cases hp
end
section plain
variable {P:bn} {ops:bF Oper} {nc:ai ax} {Q:Exit→Act→az→Prop} {E:az→az→Prop}
def sI (ops:bF Oper) (nc:ai ax) (i:ax):ay:=match ops[i]? with | some o=>Op.calm o.op && !(nc.any (Nat.beq (1000000+i))) | none=>aj
def behind (ops:bF Oper) (i:ax):ax→ax→ay
 | 0,_=>af
 | m+1,j=>match ops[j]? with
  | some o=>o.after.any fun e=>Region.binds .any e && (Nat.beq e.on i || behind ops i m e.on)
  | none=>af
def mB (ops:bF Oper) (done:bF ay):Prop:=∀ (j:ax) (o:Oper),done.getD j af=aj→ops[j]?=aa o→∀ e ∈ o.after,Region.binds .any e=aj→done.getD e.on af=aj
theorem mB.set {ops:bF Oper} {done:bF ay} (h:mB ops done) {i:ax} (hi:i ∈ Region.ready .any ops done):mB ops (done.setIfInBounds i aj):=by
 intro j o hj ho e he hb
 refine getD_set_true ?_
 by_cases zI:i=j
 ·subst zI
  obtain ⟨_,o',NV,hd⟩:=mem_ready.1 hi
  rw [ho] at NV
  cases NV
  exact hd e he hb
 ·rw [getD_set_ne af zI] at hj
  exact h j o hj ho e he hb
theorem qi {ops:bF Oper} {done:bF ay} (h:mB ops done) {i:ax}:∀ (m j:ax),(∀ o,ops[j]?=aa o→∀ e ∈ o.after,Region.binds .any e=aj→done.getD e.on af=aj)→behind ops i m j=aj→done.getD i af=aj
 | 0,j,_,hb=>by simp [behind] at hb
 | m+1,j,hd,hb=>by
  simp only [behind] at hb
  split at hb
  ·rename_i o ho
   obtain ⟨e,he,hx⟩:=Array.any_eq_true'.1 hb
   rw [Bool.and_eq_true,Bool.or_eq_true] at hx
   have h1:=hd o ho e he hx.1
   rcases hx.2 with h2 | h2
   ·rw [aF h2] at h1;exact h1
   ·exact qi h m e.on (fun o' NV e' Q7 hb'=>h e.on o' h1 NV e' Q7 hb') h2
  ·cases hb
def mj (P:bn) (ops:bF Oper) (nc:ai ax) (Q:Exit→Act→az→Prop) (E:az→az→Prop) (p:ax×ay) (N:Act→az→Prop) (a:Act) (w:az):Prop :=
 if p.2=aj then ∃ oi v,ops[p.1]?=aa oi∧YieldsIf P ops (E w) oi v a∧N (a.put oi.dst v) w
 else wpOp P ops Q p.1 (fun a' w'=>(sI ops nc p.1=aj→E w w')∧N a' w') a w
def tH (P:bn) (ops:bF Oper) (nc:ai ax) (Q:Exit→Act→az→Prop) (E:az→az→Prop):ai (ax×ay)→(Act→az→Prop)→Act→az→Prop
 | [],N,a,w=>N a w
 | p :: r,N,a,w=>mj P ops nc Q E p (tH P ops nc Q E r N) a w
theorem xX (l m:ai (ax×ay)) (N:Act→az→Prop) (a:Act) (w:az):tH P ops nc Q E (l ++ m) N a w=tH P ops nc Q E l (tH P ops nc Q E m N) a w:=by
 induction l generalizing a w with
 | nil=>rfl
 | cons p r ih =>
  have:tH P ops nc Q E (r ++ m) N=tH P ops nc Q E r (tH P ops nc Q E m N):=by funext a w;exact ih a w
  show mj P ops nc Q E p (tH P ops nc Q E (r ++ m) N) a w=mj P ops nc Q E p (tH P ops nc Q E r (tH P ops nc Q E m N)) a w
  rw [this]
theorem Bi (l:ai ax) (a:Act) (w:az) (h:tH P ops nc Q E (l.map fun i=>(i,af)) (fun a w=>Q .normal a w) a w):wpOps P ops Q l a w:=by
 induction l generalizing a w with
 | nil=>exact h
 | cons i r ih =>
  rw [wpOps_cons]
  have h':mj P ops nc Q E (i,af) _ a w:=h
  unfold mj at h'
  rw [aI (by simp)] at h'
  exact wpOp_mono (fun a' w' hh=>ih a' w' hh.2) h'
def sJ (P:bn) (ops:bF Oper) (nc:ai ax) (Q:Exit→Act→az→Prop) (E:az→az→Prop):ax→bF ay→Act→az→Prop
 | 0,done,a,w=>Region.ready .any ops done=[]∧Q .normal a w
 | m+1,done,a,w=>(Region.ready .any ops done=[]→Q .normal a w)∧∀ i ∈ Region.ready .any ops done,wpOp P ops Q i (fun a' w'=>(sI ops nc i=aj→E w w')∧sJ P ops nc Q E m (done.setIfInBounds i aj) a' w') a w
theorem sJ.any:∀ (m:ax) {done:bF ay} {a:Act} {w:az},sJ P ops nc Q E m done a w→wpAny P .any ops Q m done a w
 | 0,_,_,_,h=>h
 | m+1,_,_,_,h=>⟨h.1,fun i hi=>wpOp_mono (fun _ _ hh=>sJ.any m hh.2) (h.2 i hi)⟩
theorem sJ.take {S:az→az→Prop} (hr:∀ w,E w w) (SK:∀ u v,E u v→S u v) (ht:∀ u v w,S u v→S v w→S u w) (hQ:∀ c a w,¬ Q (.panic c) a w) (Sy:eQ ops=aj) {i:ax} {oi:Oper} {v:aC} (hi:ops[i]?=aa oi):∀ (m:ax) {done:bF ay} {a:Act} {w:az},
  (∀ (j:ax) (oj:Oper),ops[j]?=aa oj→j≠i→done.getD j aj=af→(∀ e ∈ oj.after,Region.binds .any e=aj→e.on≠i)→oi.apart ops oj=aj)→i ∈ Region.ready .any ops done→mB ops done→((∀ u v,S u v)∨∀ j,j < ops.size→j≠i→done.getD j aj=af→sI ops nc j=aj∨behind ops i ops.size j=aj)→YieldsIf P ops (S w) oi v a →
  sJ P ops nc Q E m (done.setIfInBounds i aj) (a.put oi.dst v) w→sJ P ops nc Q E (m+1) done a w:=by
 have We:=Region.noSelect_spec Sy
 intro m
 induction m with
 | zero =>
  intro done a w _ nO _ _ hy h
  constructor
  ·intro e;rw [e] at nO;cases nO
  ·intro j hj
   rcases Nat.decEq j i with hne | rfl
   ·have:=ready_mono hj hne;rw [h.1] at this;cases this
   ·exact hy.wpOp hi (SK _ _ (hr w)) ⟨fun _=>hr w,h⟩
 | succ m ih =>
  intro done a w hap nO qW lJ hy h
  constructor
  ·intro e;rw [e] at nO;cases nO
  ·intro j hj
   rcases Nat.decEq j i with hne | rfl
   ·obtain ⟨pM,oj,KT,Dn⟩:=mem_ready.1 hj
    have hid:=(mem_ready.1 nO).1
    have KU:∀ e ∈ oj.after,Region.binds .any e=aj→e.on≠i:=by
     intro e he hb heq
     have hd:=Dn e he hb
     rw [heq] at hd
     by_cases hlt:i < done.size
     ·simp [hlt] at hid hd;rw [hid] at hd;cases hd
     ·simp [hlt] at hd
    have SL:j < ops.size:=(Array.getElem?_eq_some_iff.1 KT).1
    have EU:∀ w',(sI ops nc j=aj→E w w')→S w w':=by
     intro w' hE
     rcases lJ with hc | lJ
     ·exact hc _ _
     ·rcases lJ j SL hne pM with hc | hb
      ·exact SK _ _ (hE hc)
      ·exfalso
       have:=qi qW ops.size j (fun o ho=>by rw [KT] at ho;cases ho;exact Dn) hb
       by_cases hlt:i < done.size
       ·simp [hlt] at hid this;rw [hid] at this;cases this
       ·simp [hlt] at this
    have hh:=wpOp_putIf KT (hap j oj KT hne pM KU) (fun cs b=>We i oi cs b hi) (fun cs b=>We j oj cs b KT) (fun c a w hc=>absurd hc (hQ c _ w)) hy (h.2 j (ready_mono hj hne))
    refine wpOp_mono (fun a' w' ⟨hy',hE,ml⟩=>⟨hE,ih ?_ (ready_mono nO (Ne.symm hne)) (qW.set hj) ?_ ?_ ?_⟩) hh
    ·intro k ok hk SM mA hkw
     refine hap k ok hk SM ?_ hkw
     by_cases hjk:j=k
     ·subst hjk;exact pM
     ·rwa [getD_set_ne aj hjk] at mA
    ·rcases lJ with hc | lJ
     ·exact .inl hc
     ·refine .inr fun k hk SM mA=>lJ k hk SM ?_
      by_cases hjk:j=k
      ·subst hjk;exact pM
      ·rwa [getD_set_ne aj hjk] at mA
    ·rcases hy' with ⟨q1,q2⟩ | q
     ·exact .inl ⟨q1,fun u hu=>q2 u (ht w w' u (EU w' hE) hu)⟩
     ·exact .inr q
    ·rw [Array.setIfInBounds_comm _ _ hne]
     exact ml
   ·exact hy.wpOp hi (SK _ _ (hr w)) ⟨fun _=>hr w,h⟩
def EW (ops:bF Oper) (i:ax):ay:=match ops[i]? with | some o=>(match o.op with | .move _=>aj | _=>af) | none=>af
theorem YieldsIf.move {S:az→Prop} {oi:Oper} {v:aC} {a:Act} {x:Operand} {w:az} (ho:oi.op=.move x) (hw:S w) (h:YieldsIf P ops S oi v a):YieldsIf P ops (fun _=>True) oi v a:=by
 rcases h with ⟨h1,h2⟩ | h
 ·refine .inl ⟨h1,fun u _=>?_⟩
  have:=h2 w hw
  have e:∀ u:az,(execOp a.eval oi).run P u=.ok (.value (a.eval x)) u:=fun u=>by simp [execOp,ho]
  rw [e] at this ⊢
  cases this
  rfl
 ·exact .inr h
def GS (ops:bF Oper) (nc:ai ax) (k:bF ay→ay):bF ay→ai (ax×ay)→ay
 | listed,[]=>k listed
 | listed,p :: r=>(bif p.2 then Region.free .any ops listed p.1 && (Region.ready .any ops listed).contains p.1 && (EW ops p.1 || (List.range ops.size).all fun j=>Nat.beq j p.1 || listed.getD j aj || sI ops nc j || behind ops p.1 ops.size j) else decide (Region.ready .any ops listed=[p.1])) && GS ops nc k (listed.setIfInBounds p.1 aj) r
def pO.len:pO→ax
 | .done=>0
 | .seq l t=>l.length+t.len
 | .fork _ x _ _=>x.len+1
def tW (ops:bF Oper) (nc:ai ax):pO→bF ay→ay
 | .done,listed=>(Region.ready .any ops listed).isEmpty
 | .seq l t,listed=>GS ops nc (tW ops nc t) listed l
 | .fork i x j y,listed=>decide (Region.ready .any ops listed=[i,j]) && Nat.beq x.len y.len && tW ops nc x (listed.setIfInBounds i aj) && tW ops nc y (listed.setIfInBounds j aj)
theorem qj (hr:∀ w,E w w) (ht:∀ u v w,E u v→E v w→E u w) (hs:eQ ops=aj) (hQ:∀ c a w,¬ Q (.panic c) a w) {k:bF ay→ay} {N:Act→az→Prop} {m:ax}
  (hN:∀ (listed:bF ay) (a:Act) (w:az),mB ops listed→k listed=aj→N a w→sJ P ops nc Q E m listed a w):∀ (l:ai (ax×ay)) (listed:bF ay) (a:Act) (w:az),mB ops listed→GS ops nc k listed l=aj →
  tH P ops nc Q E l N a w→sJ P ops nc Q E (l.length+m) listed a w
 | [],listed,a,w,qW,hp,h=>by
  rw [List.length_nil,Nat.zero_add]
  exact hN listed a w qW hp h
 | (i,tk) :: r,listed,a,w,qW,hp,h=>by
  simp only [GS,Bool.and_eq_true] at hp
  have h':mj P ops nc Q E (i,tk) (tH P ops nc Q E r N) a w:=h
  unfold mj at h'
  rw [List.length_cons,show r.length+1+m=(r.length+m)+1 by omega]
  cases tk with
  | true =>
   rw [aJ rfl] at h'
   obtain ⟨oi,v,hi,hy,hn⟩:=h'
   simp only [aN,Bool.and_eq_true] at hp
   have nO:i ∈ Region.ready .any ops listed:=by simpa using hp.1.1.2
   have ml:=qj hr ht hs hQ hN r _ _ _ (qW.set nO) hp.2 hn
   cases OX:EW ops i with
   | true =>
    unfold EW at OX
    rw [hi] at OX
    simp only at OX
    split at OX
    ·rename_i x hx
     exact sJ.take (S:=fun _ _=>True) hr (fun _ _ _=>trivial) (fun _ _ _ _ _=>trivial) hQ hs hi (r.length+m) (jA hi hp.1.1.1) nO qW (.inl fun _ _=>trivial) (YieldsIf.move hx (hr w) hy) ml
    ·cases OX
   | false =>
   rw [OX,eu] at hp
   refine sJ.take hr (fun _ _ h=>h) ht hQ hs hi (r.length+m) (jA hi hp.1.1.1) nO qW (.inr fun j hj hne I7=>?_) hy ml
   have:=List.all_eq_true.1 hp.1.2 j (List.mem_range.2 hj)
   rw [Bool.or_eq_true,Bool.or_eq_true,Bool.or_eq_true] at this
   rcases this with ((h1 | h1) | h1) | h1
   ·exact absurd (aF h1) hne
   ·rw [I7] at h1;cases h1
   ·exact .inl h1
   ·exact .inr h1
  | false =>
   rw [aI (by simp)] at h'
   simp only [bB,aG] at hp
   refine ⟨fun e=>(by rw [hp.1] at e;cases e),fun j hj=>?_⟩
   rw [hp.1] at hj
   have:j=i:=by simpa using hj
   subst this
   exact wpOp_mono (fun a' w' hh=>⟨hh.1,qj hr ht hs hQ hN r _ _ _ (qW.set (by rw [hp.1];simp)) hp.2 hh.2⟩) h'
def Q8 (P:bn) (ops:bF Oper) (nc:ai ax) (Q:Exit→Act→az→Prop) (E:az→az→Prop):pO→(Act→az→Prop)→Act→az→Prop
 | .done,N,a,w=>N a w
 | .seq l t,N,a,w=>tH P ops nc Q E l (Q8 P ops nc Q E t N) a w
 | .fork i x j y,N,a,w=>tH P ops nc Q E [(i,af)] (Q8 P ops nc Q E x N) a w∧tH P ops nc Q E [(j,af)] (Q8 P ops nc Q E y N) a w
theorem nS (hr:∀ w,E w w) (ht:∀ u v w,E u v→E v w→E u w) (hs:eQ ops=aj) (hQ:∀ c a w,¬ Q (.panic c) a w):∀ (T:pO) (listed:bF ay) (a:Act) (w:az),mB ops listed→tW ops nc T listed=aj →
  Q8 P ops nc Q E T (fun a w=>Q .normal a w) a w→sJ P ops nc Q E T.len listed a w
 | .done,listed,a,w,qW,hp,h=>⟨by simpa [tW] using hp,h⟩
 | .seq l t,listed,a,w,qW,hp,h=>qj hr ht hs hQ (fun listed a w qW hk hn=>nS hr ht hs hQ t listed a w qW hk hn) l listed a w qW hp h
 | .fork i x j y,listed,a,w,qW,hp,h=>by
  simp only [tW,Bool.and_eq_true,aG] at hp
  obtain ⟨⟨⟨h1,h2⟩,h3⟩,h4⟩:=hp
  have hl:=aF h2
  have key:∀ (q:ax) (z:pO),(∀ (listed:bF ay) (a:Act) (w:az),mB ops listed→tW ops nc z listed=aj→Q8 P ops nc Q E z (fun a w=>Q .normal a w) a w→sJ P ops nc Q E z.len listed a w)→q ∈ Region.ready .any ops listed→tW ops nc z (listed.setIfInBounds q aj)=aj→tH P ops nc Q E [(q,af)] (Q8 P ops nc Q E z fun a w=>Q .normal a w) a w →
    wpOp P ops Q q (fun a' w'=>(sI ops nc q=aj→E w w')∧sJ P ops nc Q E z.len (listed.setIfInBounds q aj) a' w') a w:=by
   intro q z ih hq hz hw
   have h':mj P ops nc Q E (q,af) (tH P ops nc Q E [] (Q8 P ops nc Q E z fun a w=>Q .normal a w)) a w:=hw
   unfold mj at h'
   rw [aI (by simp)] at h'
   exact wpOp_mono (fun a' w' hh=>⟨hh.1,ih _ _ _ (qW.set hq) hz hh.2⟩) h'
  have kx:=nS hr ht hs hQ x
  have ky:=nS hr ht hs hQ y
  refine ⟨fun e=>(by rw [h1] at e;cases e),fun q hq=>?_⟩
  have hq':=hq
  rw [h1] at hq'
  rcases List.mem_cons.1 hq' with e | hq'
  ·subst e;exact key _ x kx hq h3 h.1
  ·rcases List.mem_cons.1 hq' with e | hq'
   ·subst e
    have:=key _ y ky hq h4 h.2
    rw [← hl] at this
    exact this
   ·cases hq'
end plain
section
variable {C:jT} {P:bn} {w0:az} {F0:Fs} {nt:ax} {call:ax→ai AV→ak AV} {f:ax} {ops:bF Oper} {nc:ai ax} {Q:Exit→Act→az→Prop}
def Held (D:ak (ai ax)) (σ0:ax→ak ax) (w w':az):Prop :=
 match D with
 | none=>True
 | some ws=>w.heap.size≤w'.heap.size∧∀ b,b < w.heap.size→(∀ s ∈ ws,σ0 s≠aa b)→w'.heap[b]?=w.heap[b]?
theorem Held.refl (D:ak (ai ax)) (σ0:ax→ak ax) (w:az):Held D σ0 w w:=by
 cases D with
 | none=>trivial
 | some ws=>exact ⟨Nat.le_refl _,fun _ _ _=>rfl⟩
theorem Held.trans {D:ak (ai ax)} {σ0:ax→ak ax} {u v w:az} (h:Held D σ0 u v) (k:Held D σ0 v w):Held D σ0 u w:=by
 cases D with
 | none=>trivial
 | some ws=>exact ⟨Nat.le_trans h.1 k.1,fun b hb hs=>(k.2 b (aZ hb h.1) hs).trans (h.2 b hb hs)⟩
def Ord (D:ak (ai ax)) (σ0 σ:ax→ak ax):Prop:=∀ ws,D=aa ws→∀ s ∈ ws,σ s=σ0 s
def nT (ops:bF Oper) (ctx:ak (ax×ay)) (l:ai (ax×ay)) (a:Act):Prop :=
 match ctx with
 | none=>True
 | some (j,want)=>yielded ops a.tmps j=aa want∧∃ d,fy ops j=aa d∧∀ i ∈ l,fy ops i.1≠aa d
theorem oI {i:ax} (h:bI i ops.size=aj):ops[i]?=aa (opAt ops i):=by
 have hlt:i < ops.size:=by unfold bI at h;exact aU h
 unfold opAt
 simp [hlt]
theorem l7 {i:ax} (h:bI i ops.size=aj):fy ops i=(opAt ops i).dst:=by
 unfold fy
 rw [oI h]
 rfl
theorem o5 {o:Oper} {ctx:ak (ax×ay)} {l:ai (ax×ay)} {a:Act} (h:vL o.guard ctx=aj) (hc:nT ops ctx l a):Region.wanted o (yielded ops a.tmps)=aj:=by
 unfold Region.wanted
 unfold vL at h
 split at h
 ·rename_i hg;rw [hg]
 ·rename_i i x j y hg
  rw [hg]
  rw [Bool.and_eq_true] at h
  have e1:=aF h.1
  have e2:x=y:=by simpa using h.2
  subst e1 e2
  simp [hc.1]
 ·cases h
theorem ql {a:Act} {dst:ak ax} {v:aC} {j d:ax} (hj:fy ops j=aa d) (hne:dst≠aa d):yielded ops (a.put dst v).tmps j=yielded ops a.tmps j:=by
 unfold yielded
 unfold fy at hj
 rw [hj]
 cases dst with
 | none=>rfl
 | some e =>
  simp only [Act.put,Option.bind_some]
  rw [Array.getElem?_setIfInBounds_ne (fun hh=>hne (by rw [hh]))]
theorem tX {a:Act} {j:ax} (hj:fy ops j=ah):yielded ops a.tmps j=ah:=by
 unfold yielded
 unfold fy at hj
 rw [hj]
 rfl
theorem nT.put {ctx:ak (ax×ay)} {l:ai (ax×ay)} {a:Act} (h:nT ops ctx l a) {i:ax×ay} (hi:i ∈ l) (v:aC):nT ops ctx l (a.put (fy ops i.1) v):=by
 unfold nT at *
 match ctx,h with
 | none,_=>trivial
 | some (j,want),⟨h1,d,hd,h2⟩=>exact ⟨by rw [ql hd (h2 i hi)];exact h1,d,hd,h2⟩
theorem nT.sub {ctx:ak (ax×ay)} {l m:ai (ax×ay)} {a:Act} (h:nT ops ctx l a) (hm:∀ i ∈ m,i ∈ l):nT ops ctx m a:=by
 unfold nT at *
 match ctx,h with
 | none,_=>trivial
 | some (j,want),⟨h1,d,hd,h2⟩=>exact ⟨h1,d,hd,fun i hi=>h2 i (hm i hi)⟩
theorem Bj {a a':Act} {j d:ax} (hj:fy ops j=aa d) (hsz:a'.tmps.size=a.tmps.size) (h:a'.tmps.getD d undef=a.tmps.getD d undef):yielded ops a'.tmps j=yielded ops a.tmps j:=by
 unfold yielded
 unfold fy at hj
 rw [hj]
 simp only [Option.bind_some]
 by_cases hd:d < a.tmps.size
 ·have tG:d < a'.tmps.size:=by omega
  have:a'.tmps[d]?=a.tmps[d]?:=by
   simp only [Array.getD_eq_getD_getElem?,Array.getElem?_eq_getElem hd,Array.getElem?_eq_getElem tG,Option.getD_some] at h
   rw [Array.getElem?_eq_getElem hd,Array.getElem?_eq_getElem tG,h]
  rw [this]
 ·rw [Array.getElem?_eq_none (by omega),Array.getElem?_eq_none (by omega)]
def mH (ops:bF Oper) (l:ai (ax×ay)) (a a':Act):Prop:=∀ t,(∀ i ∈ l,fy ops i.1≠aa t)→a'.tmps.getD t undef=a.tmps.getD t undef
theorem nT.same {ctx:ak (ax×ay)} {l m:ai (ax×ay)} {a a':Act} (h:nT ops ctx l a) (hm:∀ i ∈ m,i ∈ l) (hsz:a'.tmps.size=a.tmps.size) (hs:mH ops m a a'):nT ops ctx l a':=by
 unfold nT at *
 match ctx,h with
 | none,_=>trivial
 | some (j,want),⟨h1,d,hd,h2⟩=>exact ⟨by rw [Bj hd hsz (hs d fun i hi=>h2 i (hm i hi))];exact h1,d,hd,h2⟩
theorem Inv.lv {st:St} {a a':Act} {w w':az} {H:ax→ak aC} {σ:ax→ak ax} (h:Inv C w0 F0 nt st a w H σ) (hw:Ext w w') {l:ai (ax×ay)} (hsz:a'.tmps.size=a.tmps.size) (hdf:a'.defers=[]) (hs:mH ops l a a') :
  Inv C w0 F0 nt (st.lv (l.filterMap fun i=>fy ops i.1)) a' w' H σ:=by
 have h1:=h.ext hw
 have key:∀ (ts:ai ax) (GU:St) (t:ax),(t ∈ ts→(GU.lv ts).env t=.dead)∧(t ∉ ts→(GU.lv ts).env t=GU.env t)∧(GU.env t=.dead→(GU.lv ts).env t=.dead)∧(GU.lv ts).mem=GU.mem:=by
  intro ts
  induction ts with
  | nil=>intro GU t;simp [St.lv]
  | cons u ts ih =>
   intro GU t
   obtain ⟨i1,i2,i3,i4⟩:=ih (GU.set u .dead) t
   have e:GU.lv (u :: ts)=(GU.set u .dead).lv ts:=rfl
   have xR:(GU.set u .dead).env t=if t=u then .dead else GU.env t:=by simp [St.set,cH]
   rw [e]
   refine ⟨fun hm=>?_,fun hm=>?_,fun hd=>i3 ?_,i4⟩
   ·by_cases J3:t ∈ ts
    ·exact i1 J3
    ·rw [i2 J3,xR]
     rcases List.mem_cons.1 hm with h | h
     ·rw [aJ h]
     ·exact absurd h J3
   ·rw [i2 fun J3=>hm (List.mem_cons_of_mem _ J3),xR,aI]
    intro e;exact hm (e ▸ List.mem_cons_self ..)
   ·rw [xR];split
    ·rfl
    ·exact hd
 refine { h1 with defers:=hdf,size:=hsz.trans h1.size,env:=fun t=>?_,mem:=?_ }
 ·obtain ⟨k1,k2,_,_⟩:=key (l.filterMap fun i=>fy ops i.1) st t
  by_cases ht:t ∈ l.filterMap fun i=>fy ops i.1
  ·rw [k1 ht];trivial
  ·rw [k2 ht,hs t fun i hi e=>ht (List.mem_filterMap.2 ⟨i,hi,e⟩)]
   exact h1.env t
 ·obtain ⟨_,_,_,k4⟩:=key (l.filterMap fun i=>fy ops i.1) st 0
  rw [k4]
  exact h1.mem
theorem vY {ctx:ak (ax×ay)} {d:ax} {want:ay}:∀ {l:ai (ax×ay)} {pR:ai (ax×ay)} {p:ax×ay} {ab:Operand×Operand} {rest:ai (ax×ay)},
  xL ops ctx d want l=aa (pR,p,ab,rest)→l=pR ++ p :: rest∧closes ctx d want (opAt ops p.1)=aa ab
 | [],_,_,_,_,h=>by cases h
 | i :: r,pR,p,ab,rest,h=>by
  simp only [xL] at h
  split at h
  ·rename_i hc
   cases h
   exact ⟨rfl,hc⟩
  ·cases hr:xL ops ctx d want r with
   | none=>rw [hr] at h;cases h
   | some q =>
    obtain ⟨abE,p',ab',rest'⟩:=q
    rw [hr] at h
    cases h
    obtain ⟨h1,h2⟩:=vY hr
    exact ⟨by rw [h1];rfl,h2⟩
theorem sK {C:jT} {li:ay} {j:ax} {want:ay} {d:ax}:∀ {l:ai (ax×ay)} {seen:ai ax},hangs C ops li j want d l seen=aj →
  (∀ i ∈ l,(li=aj→Op.zV C (opAt ops i.1).op=aj)∧fy ops i.1≠aa d)
 | [],_,_=>by simp
 | i :: r,seen,h=>by
  simp only [hangs,Bool.and_eq_true] at h
  obtain ⟨⟨⟨⟨h1,h2⟩,h3⟩,h4⟩,h5⟩:=h
  intro q hq
  rcases List.mem_cons.1 hq with rfl | hq
  ·refine ⟨fun e=>by rw [e] at h3;simpa using h3,?_⟩
   rw [l7 h1]
   intro e
   rw [e] at h4
   simp at h4
  ·exact sK h5 q hq
theorem Bk {C:jT} {li:ay} {E:az→az→Prop} (hE:∀ w,E w w) {j:ax} {want x:ay} {d:ax} (hx:x≠want) (pM:fy ops j=aa d):∀ {l:ai (ax×ay)} {seen:ai ax},hangs C ops li j want d l seen=aj →
  ∀ {N:Act→az→Prop} {a:Act} {w:az},yielded ops a.tmps j=aa x→(∀ g ∈ seen,yielded ops a.tmps g=ah) →
   (∀ a',a'.tmps.size=a.tmps.size→a'.defers=a.defers→mH ops l a a'→N a' w)→tH P ops nc Q E l N a w
 | [],seen,h,N,a,w,hj,hs,hn=>hn a rfl rfl fun _ _=>rfl
 | i :: r,seen,h,N,a,w,hj,hs,hn=>by
  simp only [hangs,Bool.and_eq_true] at h
  obtain ⟨⟨⟨⟨h1,h2⟩,h3⟩,h4⟩,h5⟩:=h
  have hop:=oI h1
  have hnw:Region.wanted (opAt ops i.1) (yielded ops a.tmps)=af:=by
   unfold Region.wanted
   split at h2
   ·rename_i g x' hg
    rw [hg]
    simp only
    rw [Bool.or_eq_true] at h2
    rcases h2 with h2 | h2
    ·rw [Bool.and_eq_true] at h2
     have e1:=aF h2.1
     have e2:x'=want:=by simpa using h2.2
     subst e1 e2
     rw [hj]
     simpa using hx
    ·rw [hs g (by simpa using h2)]
     rfl
   ·cases h2
  have hdi:(opAt ops i.1).dst≠aa d:=by
   intro e
   rw [e] at h4
   simp at h4
  have SN:∀ g,yielded ops (a.put (opAt ops i.1).dst undef).tmps g=yielded ops a.tmps g∨yielded ops (a.put (opAt ops i.1).dst undef).tmps g=ah:=by
   intro g
   cases hg:fy ops g with
   | none=>exact .inr (tX hg)
   | some e =>
    by_cases he:(opAt ops i.1).dst=aa e
    ·right
     unfold yielded
     unfold fy at hg
     rw [hg]
     simp only [Option.bind_some,he,Act.put]
     by_cases hlt:e < a.tmps.size
     ·simp [hlt,undef]
     ·simp [hlt]
    ·exact .inl (ql hg he)
  have Dp:yielded ops (a.put (opAt ops i.1).dst undef).tmps i.1=ah:=by
   cases hg:fy ops i.1 with
   | none=>exact tX hg
   | some e =>
    have he:(opAt ops i.1).dst=aa e:=by rw [← l7 h1];exact hg
    unfold yielded
    unfold fy at hg
    rw [hg]
    simp only [Option.bind_some,he,Act.put]
    by_cases hlt:e < a.tmps.size
    ·simp [hlt,undef]
    ·simp [hlt]
  have ml:tH P ops nc Q E r N (a.put (opAt ops i.1).dst undef) w:=by
   refine Bk hE hx pM h5 (by rw [ql pM hdi];exact hj) (fun g hg=>?_) (fun a' q1 q2 q3=>hn a' (q1.trans (size_put ..)) (q2.trans (EL ..)) fun t ht=>?_)
   ·rcases List.mem_cons.1 hg with rfl | hg
    ·exact Dp
    ·rcases SN g with e | e
     ·rw [e];exact hs g hg
     ·exact e
   ·rw [q3 t fun i hi=>ht i (List.mem_cons_of_mem _ hi)]
    refine Only.put a _ undef t fun e=>ht i (List.mem_cons_self ..) ?_
    rw [l7 h1];exact e
  show mj P ops nc Q E i (tH P ops nc Q E r N) a w
  unfold mj
  split
  ·exact ⟨_,undef,hop,.inr ⟨hnw,rfl⟩,ml⟩
  ·unfold wpOp
   rw [hop]
   simp only [hnw,Bool.false_eq_true,if_false]
   exact ⟨fun _=>hE w,ml⟩
end
section
variable {C:jT} {P:bn} {w0:az} {F0:Fs} {nt:ax} {call:ax→ai AV→ak AV} {f:ax} {ops:bF Oper} {nc:ai ax} {Q:Exit→Act→az→Prop}
def tY (D:ak (ai ax)):ai ax:=D.getD []
theorem any_beq {s:ax} {ws:ai ax}:ws.any (Nat.beq s)=aj↔s ∈ ws:=by
 rw [List.any_eq_true]
 constructor
 ·rintro ⟨x,hx,he⟩
  rw [aF he];exact hx
 ·intro h;exact ⟨s,h,dw s⟩
theorem Ord.step {D:ak (ai ax)} {σ0:ax→ak ax} {st:St} {w w':az} {σ σ':ax→ak ax} {o:Oper} {i:ax} (h:Ord D σ0 σ) (kf:A5 C i o af D st=aj) (hk:kS C st o σ w w')
  (hσ:∀ s,o.dst≠aa s→σ' s=σ s) (Kr:(∃ t,o.op=.alloc t)∨(∃ t x,o.op=.box t x)∨σ'=σ):Ord D σ0 σ'∧(Op.calm o.op=aj→(tY D).any (Nat.beq (1000000+i))=af→Held D σ0 w w'):=by
 cases D with
 | none=>exact ⟨fun ws e=>(by cases e),fun _ _=>trivial⟩
 | some ws =>
  have jY:∀ s ∈ ws,σ' s=σ0 s:=fun s hs=>by
   rw [← h ws rfl s hs]
   rcases Kr with ⟨t,ht⟩ | ⟨t,x,ht⟩ | e
   ·refine hσ s fun hd=>?_
    simp only [A5,ht,hd,bB,Bool.not_eq_true'] at kf
    rw [any_beq.2 hs] at kf;cases kf
   ·refine hσ s fun hd=>?_
    simp only [A5,ht,hd,bB,Bool.not_eq_true'] at kf
    rw [any_beq.2 hs] at kf;cases kf
   ·rw [e]
  refine ⟨fun ws' e s hs=>by cases e;exact jY s hs,fun lJ VM=>?_⟩
  have ext:Ext w w'→Held (aa ws) σ0 w w':=fun hx=>⟨hx.size,fun b hb _=>hx.block b hb⟩
  unfold kS at hk
  cases ho:o.op with
  | store t x y =>
   rw [ho] at hk
   simp only [A5,ho,bB] at kf
   simp only at hk
   have SP:ws.any (Nat.beq (1000000+i))=af:=VM
   rw [SP,eu] at kf
   split at kf
   ·rename_i s off jz
    rw [jz] at hk
    refine ⟨hk.1,fun b hb hs=>hk.2 b hb ?_⟩
    have hm:=any_beq.1 kf
    rw [h ws rfl s hm]
    exact hs s hm
   ·cases kf
  | call c =>
   rw [ho] at hk
   obtain ⟨ce,ar,VX⟩:=c
   cases ce with
   | builtin b =>
    cases b <;> first | (rw [ho] at lJ;exact ext ((aJ (show ni ar.toList=aj from lJ)).mp hk);done) | exact ext hk
   | value x =>
    have oY:if Og C st x=aj then True else Ext w w':=hk
    cases hm:Og C st x with
    | false=>rw [hm] at oY;exact ext oY
    | true =>
     exfalso
     simp only [A5,ho,hm,bB,df,eu] at kf
     have SP:ws.any (Nat.beq (1000000+i))=af:=VM
     rw [SP] at kf;cases kf
   | invoke x n=>exact ext hk
  | convert s t x =>
   rw [ho] at hk lJ
   simp only [Op.calm,Bool.not_eq_true'] at lJ
   simp only [lJ] at hk
   rw [aI (by simp)] at hk
   exact ext hk
  | _=>rw [ho] at hk;exact ext hk
theorem mH.sub {l m:ai (ax×ay)} {a a':Act} (h:mH ops l a a') (hm:∀ i ∈ l,i ∈ m):mH ops m a a':=fun t ht=>h t fun i hi=>ht i (hm i hi)
theorem mH.trans {l:ai (ax×ay)} {a b c:Act} (h:mH ops l a b) (k:mH ops l b c):mH ops l a c:=fun t ht=>(k t ht).trans (h t ht)
theorem qm {st:St} {a:Act} {w:az} {H:ax→ak aC} {σ:ax→ak ax} {x:Operand} {y:ay} (h:Inv C w0 F0 nt st a w H σ) (hp:(st.get C x).cP=.b y):a.eval x=.bool y:=by
 rcases (h.get x).cP with e | e
 ·rw [hp] at e;cases e
 ·rw [hp] at e
  generalize a.eval x=V at e
  cases e;rfl
theorem Dq {ctx:ak (ax×ay)} {d:ax} {want:ay} {o:Oper} {A B:Operand} (h:closes ctx d want o=aa (A,B)):o.op=.pick (.tmp d) A B∧vL o.guard ctx=aj∧∃ v,(bif want then B else A)=.const v:=by
 unfold closes at h
 split at h
 ·rename_i c A' B' hop
  rename_i h0
  cases hb:(Nat.beq c d && vL o.guard ctx && isConst (bif want then B' else A')) with
  | false=>rw [hb] at h;cases h
  | true =>
   rw [hb] at h
   simp only [aN,Option.some.injEq,Prod.mk.injEq] at h
   obtain ⟨rfl,rfl⟩:=h
   rw [Bool.and_eq_true,Bool.and_eq_true] at hb
   have:=aF hb.1.1
   subst this
   refine ⟨hop,hb.1.2,?_⟩
   have h3:=hb.2
   unfold isConst at h3
   split at h3
   ·rename_i v hv;exact ⟨v,hv⟩
   ·cases h3
 ·cases h
theorem lK (hC:oq C P call) (hT:∀ t i,C.ty t=aa i→gS P t i) (eC:∀ (i:ax) (o:Oper) (t:ax),ops[i]?=aa o→o.dst=aa t→t < nt) {D:ak (ai ax)} {σ0:ax→ak ax} :
  ∀ (n:ax) {R:Type} {ctx:ak (ax×ay)} {l:ai (ax×ay)} {st:St} {K:St→ak R} {r:R} {a:Act} {w:az} {H:ax→ak aC} {σ:ax→ak ax} {N:Act→az→Prop},
   jn C call f ops D n ctx l st K=aa r→Inv C w0 F0 nt st a w H σ→Ord D σ0 σ→nT ops ctx l a →
   (∀ (a':Act) (w':az) (st':St) (H':ax→ak aC) (σ':ax→ak ax),K st'=aa r→Inv C w0 F0 nt st' a' w' H' σ'→Ord D σ0 σ' →
    mH ops l a a'→((∀ i ∈ l,Op.zV C (opAt ops i.1).op=aj)→Ext w w')→N a' w') →
   tH P ops (tY D) Q (Held D σ0) l N a w
 | 0,R,ctx,l,st,K,r,a,w,H,σ,N,hK,hI,hO,hc,hn=>by cases hK
 | n+1,R,ctx,[],st,K,r,a,w,H,σ,N,hK,hI,hO,hc,hn=>hn a w st H σ hK hI hO (fun _ _=>rfl) (fun _=>Ext.refl w)
 | n+1,R,ctx,i :: l,st,K,r,a,w,H,σ,N,hK,hI,hO,hc,hn=>by
  simp only [jn] at hK
  cases hlt:bI i.1 ops.size with
  | false=>rw [hlt] at hK;cases hK
  | true =>
   rw [hlt] at hK
   simp only [df,bB] at hK
   have hop:=oI hlt
   cases Vp:vL (opAt ops i.1).guard ctx with
   | true =>
    rw [Vp] at hK
    simp only [aN] at hK
    have hw:=o5 Vp hc
    cases kf:A5 C i.1 (opAt ops i.1) i.2 D st with
    | false=>rw [kf] at hK;cases hK
    | true =>
     rw [kf] at hK
     simp only [aN] at hK
     have hd:∀ t,(opAt ops i.1).dst=aa t→t < nt:=fun t ht=>eC i.1 _ t hop ht
     have go:∀ (a':Act) (w':az) (st':St) (H':ax→ak aC) (σ':ax→ak ax),jn C call f ops D n ctx l st' K=aa r→Inv C w0 F0 nt st' a' w' H' σ' →
       Ord D σ0 σ'→Only (opAt ops i.1).dst a a'→(Op.zV C (opAt ops i.1).op=aj→Ext w w')→tH P ops (tY D) Q (Held D σ0) l N a' w':=by
      intro a' w' st' H' σ' hK' hI' Wh SQ hex
      have pY:mH ops [i] a a':=fun t ht=>SQ t fun e=>ht i (List.mem_cons_self ..) (by rw [l7 hlt];exact e)
      have hsz:a'.tmps.size=a.tmps.size:=hI'.size.trans hI.size.symm
      refine lK hC hT eC n hK' hI' Wh ((hc.same (m:=[i]) (fun q hq=>by simp at hq;subst hq;exact List.mem_cons_self ..) hsz pY).sub fun q hq=>List.mem_cons_of_mem _ hq) fun a2 w2 pL H2 σ2 q1 q2 q3 q4 q5=>?_
      refine hn a2 w2 pL H2 σ2 q1 q2 q3 ((pY.sub fun q hq=>by simp at hq;subst hq;exact List.mem_cons_self ..).trans (q4.sub fun q hq=>List.mem_cons_of_mem _ hq)) fun hl=>?_
      ·exact (hex (hl i (List.mem_cons_self ..))).trans (q5 fun q hq=>hl q (List.mem_cons_of_mem _ hq))
     show mj P ops (tY D) Q (Held D σ0) i (tH P ops (tY D) Q (Held D σ0) l N) a w
     unfold mj
     cases YV:i.2 with
     | true =>
      rw [aJ rfl]
      rw [YV] at kf
      have hy:C.pure (opAt ops i.1).op=aj∧uQ C P w0 F0 nt a w σ (fun st=>jn C call f ops D n ctx l st K) r (opAt ops i.1) (Held D σ0 w):=by
       cases D with
       | none=>cases kf
       | some ws =>
        unfold A5 at kf
        simp only [aN,Bool.and_eq_true] at kf
        obtain ⟨k1,k3⟩:=kf
        refine ⟨k1,?_⟩
        refine uT (ws:=ws) k1 hT hI hd hK (fun w' hw' b hb hs=>hw'.2 b hb fun s hm=>by rw [← hO ws rfl s hm];exact hs s hm) (fun t x s off ho jz hm=>?_)
        ·rw [ho] at k3
         simp only [jz,Bool.not_eq_true'] at k3
         have:=any_beq.2 hm
         rw [k3] at this;cases this
      obtain ⟨k1,v,hv,st',H',hK',hI'⟩:=hy
      refine ⟨_,v,hop,.inl ⟨hw,hv⟩,go _ w st' H' σ hK' hI' hO (Only.put a _ v) (fun _=>Ext.refl w)⟩
     | false =>
      rw [aI (by simp)]
      rw [YV] at kf
      unfold wpOp
      rw [hop]
      simp only [hw,aO]
      left
      cases hp:C.pure (opAt ops i.1).op with
      | true =>
       obtain ⟨v,hv,st',H',hK',hI'⟩:=uT (ws:=[]) hp hT hI hd hK (S:=(· = w)) (xQ.self [] σ w) (fun _ _ _ _ _ _=>by simp)
       unfold Oper.wp
       rw [hv w rfl,eT]
       exact ⟨fun _=>Held.refl D σ0 w,go _ w st' H' σ hK' hI' hO (Only.put a _ v) (fun _=>Ext.refl w)⟩
      | false =>
       refine OW hC hT hI hd hK _ Q fun a' w' st' H' σ' q1 q2 q3 q4 q5=>?_
       obtain ⟨Wh,Wi⟩:=hO.step kf q3 q4.1 q4.2
       refine ⟨fun hc=>(by unfold sI at hc;rw [hop] at hc;simp only [Bool.and_eq_true,Bool.not_eq_true'] at hc;exact Wi hc.1 hc.2),go a' w' st' H' σ' q1 q2 Wh q5 fun hl=>?_⟩
       unfold kS at q3
       split at q3
       ·rename_i ho;rw [ho] at hl;cases hl
       ·rename_i ho;rw [ho] at hl;cases hl
       ·rename_i c _ ho
        rw [ho] at hl
        obtain ⟨ce,ar,VX⟩:=c
        cases ce with
        | builtin b=>exact q3
        | invoke x m=>exact q3
        | value x =>
         have q3:if Og C st x=aj then True else Ext w w':=q3
         cases x with
         | func g =>
          have hl:(C.sig g).isNone=aj:=hl
          have:Og C st (.func g)=af:=by
           show (C.sig g).isSome=af
           cases hs:C.sig g with
           | none=>rfl
           | some _=>rw [hs] at hl;cases hl
          rw [this] at q3
          exact q3
         | _=>cases hl
       ·rename_i ho
        rw [ho] at hl
        simp only [Op.zV,Bool.not_eq_true'] at hl
        rw [hl,aI (by simp)] at q3
        exact q3
       ·exact q3
   | false =>
    rw [Vp] at hK
    simp only [bB] at hK
    split at hK
    ·cases hK
    rename_i j want hg
    split at hK
    ·cases hK
    rename_i d pM
    split at hK
    case h_2=>cases hK
    rename_i pR p A B rest hcut
    obtain ⟨hl,qW⟩:=vY hcut
    obtain ⟨Wj,hpg,cv,hcv⟩:=Dq qW
    cases hh:(hangs C ops aj j want d pR [] && bI p.1 ops.size) with
    | false =>
     rw [hh] at hK
     simp only [bB] at hK
     cases GV:(hangs C ops af j want d pR [] && bI p.1 ops.size) with
     | false=>rw [GV] at hK;cases hK
     | true =>
      rw [GV] at hK
      simp only [aN] at hK
      rw [Bool.and_eq_true] at GV
      have xY:=oI GV.2
      have hsp:=sK GV.1
      have hdn:d < nt:=by
       unfold fy at pM
       cases SR:ops[j]? with
       | none=>rw [SR] at pM;cases pM
       | some oj=>rw [SR] at pM;exact eC j oj d SR pM
      obtain ⟨x,hx,hK⟩:∃ x,(st.env d).cP=.b x∧(if x=want then jn C call f ops D n (aa (j,want)) pR st (fun st=>jn C call f ops D n ctx rest (st.put (opAt ops p.1).dst (st.get C (bif want then A else B))) K)
        else jn C call f ops D n ctx rest ((st.lv (pR.filterMap fun i=>fy ops i.1)).put (opAt ops p.1).dst (st.get C (bif want then B else A))) K)=aa r:=by
       unfold EG a8 at hK
       cases want with
       | true =>
        simp only [aN] at hK
        split at hK
        ·rename_i x hx
         refine ⟨x,hx,?_⟩
         cases x with
         | true=>rw [aJ rfl];exact hK
         | false=>rw [aI (by simp)];exact hK
        ·cases hK
       | false =>
        simp only [bB] at hK
        split at hK
        ·rename_i x hx
         refine ⟨x,hx,?_⟩
         cases x with
         | true=>rw [aI (by simp)];exact hK
         | false=>rw [aJ rfl];exact hK
        ·cases hK
      have vQ:a.tmps.getD d undef=.bool x:=qm (x:=.tmp d) hI hx
      have Wl:yielded ops a.tmps j=aa x:=by
       have EJ:d < a.tmps.size:=by rw [hI.size];exact hdn
       unfold yielded
       unfold fy at pM
       rw [pM]
       simp only [Option.bind_some]
       rw [Array.getElem?_eq_getElem EJ]
       simp only [Array.getD_eq_getD_getElem?,Array.getElem?_eq_getElem EJ,Option.getD_some] at vQ
       rw [vQ]
      rw [hl]
      rw [xX]
      rw [hl] at hc hn
      have J0:∀ t,(opAt ops p.1).dst=aa t→t < nt:=fun t ht=>eC p.1 _ t xY ht
      have Wm:∀ (a':Act) (w':az) (st':St) (H':ax→ak aC) (σ':ax→ak ax) (Y:Operand),Inv C w0 F0 nt st' a' w' H' σ'→Ord D σ0 σ'→mH ops pR a a'→((∀ i ∈ pR,Op.zV C (opAt ops i.1).op=aj)→Ext w w') →
        jn C call f ops D n ctx rest (st'.put (opAt ops p.1).dst (st'.get C Y)) K=aa r→(if x=aj then a'.eval A else a'.eval B)=a'.eval Y→tH P ops (tY D) Q (Held D σ0) (p :: rest) N a' w':=by
       intro a' w' st' H' σ' Y hI' Wh hsm kJ hK' hval
       have hsz:a'.tmps.size=a.tmps.size:=hI'.size.trans hI.size.symm
       have hdd:a'.tmps.getD d undef=.bool x:=by rw [hsm d fun i hi=>(hsp i hi).2];exact vQ
       have NW:=hc.same (m:=pR) (fun q hq=>List.mem_append_left _ hq) hsz hsm
       have hw:=o5 hpg NW
       have hrun:∀ w1:az,(execOp a'.eval (opAt ops p.1)).run P w1=.ok (.value (a'.eval Y)) w1:=fun w1=>by
        have SS:a'.eval (.tmp d)=.bool x:=hdd
        simp only [execOp,Wj,SS]
        simp [asBool,hval]
       have Wb:Inv C w0 F0 nt (st'.put (opAt ops p.1).dst (st'.get C Y)) (a'.put (opAt ops p.1).dst (a'.eval Y)) w' H' σ':=hI'.put J0 (hI'.get Y)
       have ml:tH P ops (tY D) Q (Held D σ0) rest N (a'.put (opAt ops p.1).dst (a'.eval Y)) w':=by
        have hs2:mH ops [p] a' (a'.put (opAt ops p.1).dst (a'.eval Y)):=fun t ht=>Only.put a' _ _ t fun e=>ht p (List.mem_cons_self ..) (by rw [l7 GV.2];exact e)
        refine lK hC hT eC n hK' Wb Wh ((NW.same (m:=[p]) (fun q hq=>by simp at hq;subst hq;exact List.mem_append_right _ (List.mem_cons_self ..)) (size_put ..) hs2).sub fun q hq=>List.mem_append_right _ (List.mem_cons_of_mem _ hq)) fun a2 w2 pL H2 σ2 q1 q2 q3 q4 q5=>?_
        refine hn a2 w2 pL H2 σ2 q1 q2 q3 (((hsm.sub fun q hq=>List.mem_append_left _ hq).trans (hs2.sub fun q hq=>by simp at hq;subst hq;exact List.mem_append_right _ (List.mem_cons_self ..))).trans (q4.sub fun q hq=>List.mem_append_right _ (List.mem_cons_of_mem _ hq))) fun hl=>?_
        exact (kJ fun q hq=>hl q (List.mem_append_left _ hq)).trans (q5 fun q hq=>hl q (List.mem_append_right _ (List.mem_cons_of_mem _ hq)))
       show mj P ops (tY D) Q (Held D σ0) p (tH P ops (tY D) Q (Held D σ0) rest N) a' w'
       unfold mj
       split
       ·exact ⟨_,_,xY,.inl ⟨hw,fun w1 _=>hrun w1⟩,ml⟩
       ·unfold wpOp
        rw [xY]
        simp only [hw,aO]
        left
        unfold Oper.wp
        rw [hrun w',eT]
        exact ⟨fun _=>Held.refl D σ0 w',ml⟩
      by_cases I9:x=want
      ·subst I9
       rw [aJ rfl] at hK
       refine lK hC hT eC n hK hI hO ⟨Wl,d,pM,fun q hq=>(hsp q hq).2⟩ fun a2 w2 pL H2 σ2 q1 q2 q3 q4 q5=>?_
       exact Wm a2 w2 pL H2 σ2 _ q2 q3 q4 q5 q1 (by cases x <;> rfl)
      ·rw [aI I9] at hK
       refine Bk (Held.refl D σ0) I9 pM GV.1 Wl (by simp) fun a2 q1 q2 q3=>?_
       have hId:Inv C w0 F0 nt (st.lv (pR.filterMap fun i=>fy ops i.1)) a2 w H σ:=hI.lv (Ext.refl w) q1 (q2.trans hI.defers) q3
       have hYc:∀ Y,(bif want then B else A)=Y→(∃ v,Y=.const v)→(st.lv (pR.filterMap fun i=>fy ops i.1)).get C Y=st.get C Y:=fun Y _ hv=>by obtain ⟨v,rfl⟩:=hv;rfl
       refine Wm a2 w _ H σ (bif want then B else A) hId hO q3 (fun _=>Ext.refl w) ?_ ?_
       ·rw [hYc _ rfl ⟨cv,hcv⟩];exact hK
       ·cases x <;> cases want <;> first | rfl | exact absurd rfl I9
    | true =>
     rw [hh] at hK
     simp only [aN] at hK
     rw [Bool.and_eq_true] at hh
     have xY:=oI hh.2
     obtain ⟨z,hz,hK⟩:=aR.1 hK
     have hsp:=sK hh.1
     have hdn:d < nt:=by
      unfold fy at pM
      cases SR:ops[j]? with
      | none=>rw [SR] at pM;cases pM
      | some oj=>rw [SR] at pM;exact eC j oj d SR pM
     obtain ⟨x,hx⟩:∃ x,(st.env d).cP=.b x:=by
      unfold bt at hz
      split at hz
      ·rename_i x hx;exact ⟨x,hx⟩
      ·cases hz
     have vQ:a.tmps.getD d undef=.bool x:=qm (x:=.tmp d) hI hx
     have Wl:yielded ops a.tmps j=aa x:=by
      have EJ:d < a.tmps.size:=by rw [hI.size];exact hdn
      unfold yielded
      unfold fy at pM
      rw [pM]
      simp only [Option.bind_some]
      rw [Array.getElem?_eq_getElem EJ]
      simp only [Array.getD_eq_getD_getElem?,Array.getElem?_eq_getElem EJ,Option.getD_some] at vQ
      rw [vQ]
     rw [hl]
     rw [xX]
     rw [hl] at hc hn
     have hcs:=hc.sub (m:=pR) fun q hq=>List.mem_append_left _ hq
     have J0:d ∉ (fy ops p.1).toList∨True:=.inr trivial
     have fin:∀ (a':Act) (w':az) (y:ay),a'.tmps.size=a.tmps.size→a'.defers=[]→mH ops pR a a'→Ext w w'→z=.b y →
       (if x=aj then a'.eval A else a'.eval B)=.bool y→tH P ops (tY D) Q (Held D σ0) (p :: rest) N a' w':=by
      intro a' w' y hsz hdf hsm kJ hzy hval
      subst hzy
      have hId:Inv C w0 F0 nt (st.lv (pR.filterMap fun i=>fy ops i.1)) a' w' H σ:=hI.lv kJ hsz hdf hsm
      have hdd:a'.tmps.getD d undef=.bool x:=by rw [hsm d fun i hi=>(hsp i hi).2];exact vQ
      have NW:=hc.same (m:=pR) (fun q hq=>List.mem_append_left _ hq) hsz hsm
      have hw:=o5 hpg NW
      have hrun:∀ w1:az,(execOp a'.eval (opAt ops p.1)).run P w1=.ok (.value (.bool y)) w1:=fun w1=>by
       have SS:a'.eval (.tmp d)=.bool x:=hdd
       simp only [execOp,Wj,SS]
       simp [asBool,hval]
      have J0:∀ t,(opAt ops p.1).dst=aa t→t < nt:=fun t ht=>eC p.1 _ t xY ht
      have Wb:Inv C w0 F0 nt ((st.lv (pR.filterMap fun i=>fy ops i.1)).put (opAt ops p.1).dst (.val (.b y))) (a'.put (opAt ops p.1).dst (.bool y)) w' H σ:=hId.put J0 (Rel.b y)
      have ml:tH P ops (tY D) Q (Held D σ0) rest N (a'.put (opAt ops p.1).dst (.bool y)) w':=by
       have hs2:mH ops [p] a' (a'.put (opAt ops p.1).dst (.bool y)):=fun t ht=>Only.put a' _ _ t fun e=>ht p (List.mem_cons_self ..) (by rw [l7 hh.2];exact e)
       refine lK hC hT eC n hK Wb hO ((NW.same (m:=[p]) (fun q hq=>by simp at hq;subst hq;exact List.mem_append_right _ (List.mem_cons_self ..)) (size_put ..) hs2).sub fun q hq=>List.mem_append_right _ (List.mem_cons_of_mem _ hq)) fun a2 w2 pL H2 σ2 q1 q2 q3 q4 q5=>?_
       refine hn a2 w2 pL H2 σ2 q1 q2 q3 (((hsm.sub fun q hq=>List.mem_append_left _ hq).trans (hs2.sub fun q hq=>by simp at hq;subst hq;exact List.mem_append_right _ (List.mem_cons_self ..))).trans (q4.sub fun q hq=>List.mem_append_right _ (List.mem_cons_of_mem _ hq))) fun hl=>?_
       ·exact kJ.trans (q5 fun q hq=>hl q (List.mem_append_right _ (List.mem_cons_of_mem _ hq)))
      show mj P ops (tY D) Q (Held D σ0) p (tH P ops (tY D) Q (Held D σ0) rest N) a' w'
      unfold mj
      split
      ·exact ⟨_,_,xY,.inl ⟨hw,fun w1 _=>hrun w1⟩,ml⟩
      ·unfold wpOp
       rw [xY]
       simp only [hw,aO]
       left
       unfold Oper.wp
       rw [hrun w',eT]
       exact ⟨fun _=>Held.refl D σ0 w',ml⟩
     unfold bt at hz
     rw [hx] at hz
     simp only at hz
     by_cases I9:x=want
     ·subst I9
      simp only [BEq.rfl,aN] at hz
      split at hz
      ·rename_i y hy
       cases hz
       refine lK hC hT eC n hy hI hO ⟨Wl,d,pM,fun q hq=>(hsp q hq).2⟩ fun a2 w2 pL H2 σ2 q1 q2 q3 q4 q5=>?_
       refine fin a2 w2 y (q2.size.trans hI.size.symm) q2.defers q4 (q5 fun q hq=>(hsp q hq).1 rfl) rfl ?_
       have:=qm q2 (Option.some.inj q1)
       cases x with
       | true=>simpa using this
       | false=>simpa using this
      ·cases hz
     ·have aag:(x == want)=af:=by simpa using I9
      rw [aag] at hz
      simp only [bB] at hz
      split at hz
      ·rename_i y hy
       cases hz
       refine Bk (Held.refl D σ0) I9 pM hh.1 Wl (by simp) fun a2 q1 q2 q3=>?_
       refine fin a2 w y q1 (q2.trans hI.defers) q3 (Ext.refl w) rfl ?_
       have:=qm hI hy
       rw [hcv] at this
       cases x with
       | true =>
        have CZ:want=af:=by cases want with
         | true=>exact absurd rfl I9
         | false=>rfl
        subst CZ
        simp only [bB] at hcv
        subst hcv
        have hc2:cv=.bool y:=this
        simp [Act.eval,hc2]
       | false =>
        have CZ:want=aj:=by cases want with
         | false=>exact absurd rfl I9
         | true=>rfl
        subst CZ
        simp only [aN] at hcv
        subst hcv
        have hc2:cv=.bool y:=this
        simp [Act.eval,hc2]
      ·cases hz
theorem q8 (hC:oq C P call) (hT:∀ t i,C.ty t=aa i→gS P t i) (eC:∀ (i:ax) (o:Oper) (t:ax),ops[i]?=aa o→o.dst=aa t→t < nt) {D:ak (ai ax)} {σ0:ax→ak ax} {n:ax} {R:Type} {K:St→ak R} {r:R} {N:Act→az→Prop}
  (hn:∀ (a':Act) (w':az) (st':St) (H':ax→ak aC) (σ':ax→ak ax),K st'=aa r→Inv C w0 F0 nt st' a' w' H' σ'→N a' w') :
  ∀ (T:pO) {st:St} {a:Act} {w:az} {H:ax→ak aC} {σ:ax→ak ax},lG C call f ops D n T st K=aa r→Inv C w0 F0 nt st a w H σ→Ord D σ0 σ→Q8 P ops (tY D) Q (Held D σ0) T N a w
 | .done,st,a,w,H,σ,h,hI,hO=>hn a w st H σ h hI
 | .seq l t,st,a,w,H,σ,h,hI,hO=>lK hC hT eC n h hI hO trivial fun a' w' st' H' σ' q1 q2 q3 _ _=>q8 hC hT eC hn t q1 q2 q3
 | .fork i x j y,st,a,w,H,σ,h,hI,hO=>by
  simp only [lG] at h
  have h1:jn C call f ops D n ah [(i,af)] st (fun st=>lG C call f ops D n x st K)=aa r∧jn C call f ops D n ah [(j,af)] st (fun st=>lG C call f ops D n y st K)=aa r:=by
   unfold agree at h
   split at h
   ·rename_i e;exact ⟨h,e ▸ h⟩
   ·cases h
  exact ⟨lK hC hT eC n h1.1 hI hO trivial fun a' w' st' H' σ' q1 q2 q3 _ _=>q8 hC hT eC hn x q1 q2 q3,
   lK hC hT eC n h1.2 hI hO trivial fun a' w' st' H' σ' q1 q2 q3 _ _=>q8 hC hT eC hn y q1 q2 q3⟩
end
section
variable {C:jT} {P:bn} {w0:az} {F0:Fs} {nt:ax} {st:St} {a:Act} {w:az} {H:ax→ak aC} {σ:ax→ak ax}
def wU (H:ax→ak aC) (i j:ax):ax→ak aC:=fun x=>if x=j then H i else if x=i then ah else H x
theorem oJ {i j x:ax} {v:aC} (h:wU H i j x=aa v):(x=j∧H i=aa v)∨(x≠j∧x≠i∧H x=aa v):=by
 unfold wU at h
 split at h
 ·exact .inl ⟨‹_›,h⟩
 ·split at h
  ·cases h
  ·exact .inr ⟨‹_›,‹_›,h⟩
theorem Inv.rn (h:Inv C w0 F0 nt st a w H σ) {i j:ax} (zI:i≠j) (hj:H j=ah):Inv C w0 F0 nt (st.rn i j) a w (wU H i j) σ:=by
 have hF:∀ b,b < w.heap.size→Fr w0.heap.size F0 H σ b→Fr w0.heap.size F0 (wU H i j) σ b∧w.heap[b]?=w.heap[b]?:=fun b _ hf=>⟨⟨hf.1,fun x v hv=>by
  rcases oJ hv with ⟨_,hv⟩ | ⟨_,_,hv⟩ <;> exact hf.2.1 _ v hv,hf.2.2⟩,rfl⟩
 have Dp:∀ v,H i=aa v→wU H i j j=aa v:=fun v hv=>by unfold wU;rw [aJ rfl];exact hv
 have SU:∀ x v,x≠i→H x=aa v→wU H i j x=aa v:=fun x v hx hv=>by
  unfold wU
  rw [aI (fun e=>by rw [e,hj] at hv;cases hv),aI hx]
  exact hv
 have hc:∀ c y,dr w (Fr w0.heap.size F0 H σ) H σ c y→dr w (Fr w0.heap.size F0 (wU H i j) σ) (wU H i j) σ (c.rn i j) y:=by
  intro c y hy
  cases c with
  | dead=>exact hy
  | val v=>exact ⟨hy.1,hy.2.mono hF⟩
  | ptr s o=>exact hy
  | lr g ss=>exact hy
  | own x e k l =>
   simp only [Cell.rn,cH]
   by_cases hx:x=i
   ·subst hx;rw [aJ rfl];exact ⟨Dp y hy.1,hy.2.mono hF fun _ _=>rfl⟩
   ·rw [aI hx];exact ⟨SU x y hx hy.1,hy.2.mono hF fun _ _=>rfl⟩
 have he:∀ e y,fL w (Fr w0.heap.size F0 H σ) H σ e y→fL w (Fr w0.heap.size F0 (wU H i j) σ) (wU H i j) σ (e.rn i j) y:=by
  intro e y hy
  cases e with
  | cell c=>cases c with
   | dead=>trivial
   | val v=>exact Rel.mono hF hy
   | own x e k l =>
    have:=hc (.own x e k l) y hy
    simp only [cQ.rn,Cell.rn,cH] at this ⊢
    split
    ·rename_i hx;rw [aJ hx] at this;exact this
    ·rename_i hx;rw [aI hx] at this;exact this
   | ptr s o=>exact hy
   | lr g ss=>exact hy
  | agg cs =>
   obtain ⟨vs,rfl,hl,hv⟩:=hy
   refine ⟨vs,rfl,by simpa using hl,fun j' c v h1 h2=>?_⟩
   rw [aM] at h1
   cases hc0:cs[j']? with
   | none=>rw [hc0] at h1;cases h1
   | some c0 =>
    rw [hc0] at h1
    simp only [aY,Option.some.injEq] at h1
    subst h1
    exact hc c0 v (hv j' c0 v hc0 h2)
  | pK k e off =>
   obtain ⟨b,o,rfl,a2,a3,a4⟩:=hy
   refine ⟨b,o,rfl,(hF b a3 a2).1,a3,fun q hq=>?_⟩
   obtain ⟨v,c1,c2,c3⟩:=a4 q hq
   exact ⟨v,c1,c2,c3.mono hF⟩
  | nN x e k l n off =>
   obtain ⟨g,m,cap,a1,a2,a3,rfl⟩:=hy
   simp only [cQ.rn,cH]
   by_cases hx:x=i
   ·subst hx;rw [aJ rfl];exact ⟨g,m,cap,Dp _ a1,a2.mono hF (fun _ _=>rfl),a3,rfl⟩
   ·rw [aI hx];exact ⟨g,m,cap,SU x _ hx a1,a2.mono hF (fun _ _=>rfl),a3,rfl⟩
  | uJ rr ks =>
   obtain ⟨vs,rfl,hl,hv⟩:=hy
   refine ⟨vs,rfl,by simpa using hl,fun q o v h1 h2=>?_⟩
   rw [aM] at h1
   cases ho:ks[q]? with
   | none=>rw [ho] at h1;cases h1
   | some o' =>
    rw [ho] at h1
    have h3:=hv q o' v ho h2
    simp only [aY,Option.some.injEq] at h1
    subst h1
    match o',h3 with
    | none,_=>trivial
    | some ah,h3=>exact Rel.mono hF h3
    | some (aa (x,e,k)),h3 =>
     simp only [cH]
     by_cases hx:x=i
     ·subst hx;rw [aJ rfl];exact ⟨Dp v h3.1,h3.2.mono hF fun _ _=>rfl⟩
     ·rw [aI hx];exact ⟨SU x v hx h3.1,h3.2.mono hF fun _ _=>rfl⟩
 refine { h with env:=fun t=>he _ _ (h.env t),mem:=fun s cs hcs=>?_,hown:=fun x v g hx hv=>?_,hh:=?_,hs:=fun x s v r hx hs=>?_,glob:=fun g k e hg=>he (.pK k e 0) _ (h.glob g k e hg) }
 ·simp only [St.rn,St.map,Option.map_eq_some_iff] at hcs
  obtain ⟨cs0,h0,rfl⟩:=hcs
  obtain ⟨r,us,e',h1,h2,h3,h4⟩:=h.mem s cs0 h0
  refine ⟨r,us,e',h1,h2,by simpa using h3,fun q c v hc' hv=>?_⟩
  rw [aM] at hc'
  cases hc0:cs0[q]? with
  | none=>rw [hc0] at hc';cases hc'
  | some c0 =>
   rw [hc0] at hc'
   simp only [aY,Option.some.injEq] at hc'
   subst hc'
   exact hc c0 v (h4 q c0 v hc0 hv)
 ·rcases oJ hx with ⟨_,hx⟩ | ⟨_,_,hx⟩ <;> exact h.hown _ v g hx hv
 ·intro x y u v g hne hx hy
  rcases oJ hx with ⟨a0,rJ⟩ | ⟨a1,a2,rJ⟩ <;> rcases oJ hy with ⟨b0,hy'⟩ | ⟨b1,b2,hy'⟩
  ·exact absurd (a0.trans b0.symm) hne
  ·exact h.hh i y u v g (Ne.symm b2) rJ hy'
  ·exact h.hh x i u v g a2 rJ hy'
  ·exact h.hh x y u v g hne rJ hy'
 ·rcases oJ hx with ⟨_,hx⟩ | ⟨_,_,hx⟩ <;> exact h.hs _ s v r hx hs
theorem Inv.uL (h:Inv C w0 F0 nt st a w H σ) (p:ax×ak (ax×ax)):∃ H',Inv C w0 F0 nt (st.uL p) a w H' σ:=by
 unfold St.uL
 split
 ·rename_i e k hp
  split
  ·rename_i id e' k' l jz
   cases hb:(Nat.beq e e' && Nat.beq k k') with
   | false=>exact ⟨H,h.dead p.1⟩
   | true =>
    simp only [aN,cH]
    by_cases hid:id=300000+p.1
    ·rw [aJ hid];exact ⟨H,h⟩
    ·rw [aI hid]
     exact ⟨_,(h.kl (300000+p.1)).rn hid (by unfold Sx.erase;simp)⟩
  ·rename_i jz
   cases hk:bI 0 k with
   | false=>exact ⟨H,h.dead p.1⟩
   | true =>
    simp only [aN]
    have vM:0 < k:=by unfold bI at hk;exact aU hk
    have hv:=h.env p.1
    rw [jz] at hv
    have hv':a.tmps.getD p.1 undef=.slice ah 0 0:=by
     generalize a.tmps.getD p.1 undef=V at hv
     cases hv;rfl
    have h2:=h.uN (300000+p.1) (300000+p.1) ah (w':=w) (x:=.slice ah 0 0) rfl rfl rfl (Nat.le_refl _) (fun _ _ _=>rfl) (fun g hg=>by cases hg) (fun g hg=>by cases hg)
    have tF:=zW st (300000+p.1)
    rw [tF] at h2
    refine ⟨_,h2.Kj (t:=p.1) ?_⟩
    rw [hv']
    exact ⟨by unfold upd;simp,vM,[],bW w 0 _ _,by simp,fun i j v hi=>by simp at hi⟩
  ·exact ⟨H,h.dead p.1⟩
 ·exact ⟨H,h⟩
theorem Inv.uM (h:Inv C w0 F0 nt st a w H σ) (s:ax) (p:ax×ax×ax):∃ H',Inv C w0 F0 nt (st.uM s p) a w H' σ:=by
 unfold St.uM
 split
 ·rename_i cs hcs
  cases Nat.beq p.2.2 0 with
  | true =>
   simp only [aN]
   split
   ·exact ⟨_,h.fz _⟩
   ·exact ⟨H,h⟩
  | false =>
  simp only [bB]
  split
  ·rename_i id e' k' l hc
   ·cases hb:(Nat.beq p.2.1 e' && Nat.beq p.2.2 k') with
    | false=>exact ⟨H,h⟩
    | true =>
     simp only [aN,cH]
     by_cases hid:id=ir s p.1
     ·rw [aJ hid];exact ⟨H,h⟩
     ·rw [aI hid]
      exact ⟨_,(h.kl (ir s p.1)).rn hid (by unfold Sx.erase;simp)⟩
  ·rename_i hc
   cases hk:bI 0 p.2.2 with
   | false=>exact ⟨H,h⟩
   | true =>
    simp only [aN]
    have vM:0 < p.2.2:=by unfold bI at hk;exact aU hk
    obtain ⟨r,us,e,h1,h2,h3,h4⟩:=h.mem s cs hcs
    have hj:p.1 < us.length:=by rw [h3];exact (List.getElem?_eq_some_iff.1 hc).1
    have hv:=h4 p.1 _ us[p.1] hc (List.getElem?_eq_getElem hj)
    have hv':us[p.1]=.slice ah 0 0:=by
     have:=hv.2
     generalize us[p.1]=V at this
     cases this;rfl
    have g:=h.uN (ir s p.1) (ir s p.1) ah (w':=w) (x:=.slice ah 0 0) rfl rfl rfl (Nat.le_refl _) (fun _ _ _=>rfl) (fun g hg=>by cases hg) (fun g hg=>by cases hg)
    rw [zW st (ir s p.1)] at g
    refine ⟨_,{ g with mem:=fun s' cs' Dr=>?_ }⟩
    simp only [St.kU,cH] at Dr
    split at Dr
    ·rename_i hs
     subst hs
     cases Dr
     obtain ⟨r',V5,e'',g1,g2,g3,g4⟩:=g.mem s' (cs.map (Cell.kl (ir s' p.1))) (by simp [St.kl,St.map,hcs])
     rw [h1] at g1;cases g1
     rw [h2] at g2
     have he:us=V5:=by have:=Option.some.inj g2;simp at this;exact this.1
     subst he
     refine ⟨r,us,e,h1,h2,by simpa using g3,fun j c v oT V3=>?_⟩
     rw [List.getElem?_set] at oT
     split at oT
     ·rename_i hj'
      subst hj'
      simp at oT
      obtain ⟨_,rfl⟩:=oT
      rw [List.getElem?_eq_getElem hj,hv'] at V3
      cases V3
      exact ⟨by unfold upd;simp,vM,[],bW w 0 _ _,by simp,fun i j v hi=>by simp at hi⟩
     ·exact g4 j c v oT V3
    ·exact g.mem s' cs' Dr
  ·exact ⟨H,h⟩
 ·exact ⟨H,h⟩
theorem Inv.sq (h:Inv C w0 F0 nt st a w H σ) (live:ai (ax×ak (ax×ax))) (sites:ai (ax×ai (ax×ax×ax))):∃ H',Inv C w0 F0 nt (st.sq live sites) a w H' σ:=by
 have fold:∀ {α:Type} (f:St→α→St),(∀ (p:α) (st:St) (H:ax→ak aC),Inv C w0 F0 nt st a w H σ→∃ H',Inv C w0 F0 nt (f st p) a w H' σ) →
   ∀ (l:ai α) (st:St) (H:ax→ak aC),Inv C w0 F0 nt st a w H σ→∃ H',Inv C w0 F0 nt (l.foldl f st) a w H' σ:=by
  intro α f hf l
  induction l with
  | nil=>exact fun st H h=>⟨H,h⟩
  | cons p l ih =>
   intro st H h
   obtain ⟨H',h'⟩:=hf p st H h
   exact ih _ _ h'
 obtain ⟨H1,h1⟩:=fold St.uL (fun p st H h=>h.uL p) live st H h
 exact fold St.Kf (fun q st H h=>fold (St.uM q.1) (fun p st H h=>h.uM q.1 p) q.2 st H h) sites _ H1 h1
theorem Inv.canon (h:Inv C w0 F0 nt st a w H σ) (live:ai (ax×ak (ax×ax))) (sites:ai (ax×ai (ax×ax×ax))):∃ H',Inv C w0 F0 nt (st.canon live sites) a w H' σ:=by
 obtain ⟨H',h'⟩:=h.sq live sites
 refine ⟨H',{ h' with env:=fun t=>?_,mem:=fun s cs hcs=>?_ }⟩
 ·show fL _ _ _ _ (match (live.map fun p=>(p.1,(st.sq live sites).env p.1)).find? (fun p=>Nat.beq p.1 t) with | some p=>p.2 | none=>.dead) _
  split
  ·rename_i p hp
   have h1:=iC hp
   have h2:=fV hp
   obtain ⟨q,hq,rfl⟩:=List.mem_map.1 h1
   have:=aF h2
   simp only at this
   subst this
   exact h'.env q.1
  ·trivial
 ·have Dr:(match (sites.map fun s=>(s.1,(st.sq live sites).mem s.1)).find? (fun p=>Nat.beq p.1 s) with | some p=>p.2 | none=>ah)=aa cs:=hcs
  split at Dr
  ·rename_i p hp
   have h1:=iC hp
   have h2:=fV hp
   obtain ⟨q,hq,rfl⟩:=List.mem_map.1 h1
   have:=aF h2
   simp only at this
   subst this
   exact h'.mem q.1 cs Dr
  ·cases Dr
end
section
variable {C:jT} {P:bn} {w0:az} {F0:Fs} {nt:ax} {st:St} {a:Act} {w:az} {H:ax→ak aC} {σ:ax→ak ax}
theorem Ja {es:ai cQ}:∀ {ks:ai (ak (ax×ax))} {K:ai AV→ak AV} {r:AV},IZ ks es K=aa r →
  ∃ rs,K rs=aa r∧rs.length=es.length∧∀ (j:ax) (e:cQ),es[j]?=aa e→∃ v,pS (ks[j]?.getD ah) e=aa v∧rs[j]?=aa v:=by
 induction es with
 | nil=>intro ks K r h;cases ks <;> exact ⟨[],h,rfl,fun j e he=>by simp at he⟩
 | cons e es ih =>
  intro ks K r h
  cases ks with
  | nil =>
   simp only [IZ] at h
   obtain ⟨v,hv,h⟩:=aR.1 h
   obtain ⟨rs,h1,h2,h3⟩:=ih h
   refine ⟨v :: rs,h1,by simp [h2],fun j e' he=>?_⟩
   cases j with
   | zero=>simp at he;subst he;exact ⟨v,hv,rfl⟩
   | succ j=>obtain ⟨u,q1,q2⟩:=h3 j e' (by simpa using he);exact ⟨u,by simpa using q1,by simpa using q2⟩
  | cons o ks =>
   simp only [IZ] at h
   obtain ⟨v,hv,h⟩:=aR.1 h
   obtain ⟨rs,h1,h2,h3⟩:=ih h
   refine ⟨v :: rs,h1,by simp [h2],fun j e' he=>?_⟩
   cases j with
   | zero=>simp at he;subst he;exact ⟨v,hv,rfl⟩
   | succ j=>obtain ⟨u,q1,q2⟩:=h3 j e' (by simpa using he);exact ⟨u,by simpa using q1,by simpa using q2⟩
theorem xZ {es:ai cQ}:∀ {ks:ai (ak (ax×ax))} {j i:ax} {e:cQ} {p:ax×ax},es[j]?=aa e→ks[j]?=aa (aa p)→i ∈ e.ids→i ∈ pT ks es:=by
 induction es with
 | nil=>intro ks j i e p h;simp at h
 | cons e0 es ih =>
  intro ks j i e p he hk hi
  cases ks with
  | nil=>simp at hk
  | cons o ks =>
   cases j with
   | zero =>
    simp at he hk
    subst he hk
    exact List.mem_append_left _ hi
   | succ j =>
    have:=ih (by simpa using he) (by simpa using hk) hi
    cases o with
    | none=>exact this
    | some q=>exact List.mem_append_right _ this
theorem EX {es:ai cQ}:∀ {ks:ai (ak (ax×ax))} {j i:ax} {e:cQ},es[j]?=aa e→ks[j]?.getD ah=ah→i ∈ e.ids→i ∈ pU ks es:=by
 induction es with
 | nil=>intro ks j i e h;simp at h
 | cons e0 es ih =>
  intro ks j i e he hk hi
  cases ks with
  | nil =>
   cases j with
   | zero=>simp at he;subst he;exact List.mem_append_left _ hi
   | succ j=>exact List.mem_append_right _ (ih (ks:=[]) (by simpa using he) (by simp) hi)
  | cons o ks =>
   cases j with
   | zero =>
    simp at he hk
    subst he hk
    exact List.mem_append_left _ hi
   | succ j =>
    have:=ih (by simpa using he) (by simpa using hk) hi
    cases o with
    | none=>exact List.mem_append_right _ this
    | some q=>exact this
theorem Af {l m:ai ax} (h:nodup (l ++ m)=aj):nodup m=aj∧∀ x ∈ l,x ∉ m:=by
 induction l with
 | nil=>exact ⟨h,by simp⟩
 | cons x l ih =>
  simp only [List.cons_append,nodup,Bool.and_eq_true] at h
  obtain ⟨h1,h2⟩:=ih h.2
  refine ⟨h1,fun y hy=>?_⟩
  rcases List.mem_cons.1 hy with rfl | hy
  ·intro hm
   have:=h.1
   simp only [Bool.not_eq_true',bV] at this
   exact this y (List.mem_append_right _ hm) (dw y)
  ·exact h2 y hy
theorem Ag {es:ai cQ}:∀ {ks:ai (ak (ax×ax))} {j j' i i':ax} {e e':cQ} {p p':ax×ax},nodup (pT ks es)=aj→j < j'→es[j]?=aa e→ks[j]?=aa (aa p)→es[j']?=aa e'→ks[j']?=aa (aa p') →
  i ∈ e.ids→i' ∈ e'.ids→i≠i':=by
 induction es with
 | nil=>intro ks j j' i i' e e' p p' _ _ h;simp at h
 | cons e0 es ih =>
  intro ks j j' i i' e e' p p' hn hlt he hk Q7 oY hi hi'
  cases ks with
  | nil=>simp at hk
  | cons o ks =>
   cases j' with
   | zero=>omega
   | succ j' =>
    cases j with
    | zero =>
     simp at he hk
     subst he hk
     have h1:=(Af hn).2 i hi
     intro e
     exact h1 (e ▸ xZ (by simpa using Q7) (by simpa using oY) hi')
    | succ j =>
     refine ih (ks:=ks) (j:=j) (j':=j') ?_ (by omega) (by simpa using he) (by simpa using hk) (by simpa using Q7) (by simpa using oY) hi hi'
     cases o with
     | none=>exact hn
     | some q=>exact (Af hn).1
theorem vZ {o:ak (ax×ax)} {e:cQ} {v:AV} (h:pS o e=aa v):e.told=aj:=by
 unfold pS at h
 split at h
 ·split at h
  ·rfl
  ·rfl
  ·cases h
 ·cases ht:e.told with
  | true=>rfl
  | false=>rw [ht] at h;cases h
theorem Jb (hT:∀ t i,C.ty t=aa i→gS P t i) (h:Inv C w0 F0 nt st a w H σ) {f:ax} {fn:Func} {r:AV} (hf:finish C f fn st=aa r) :
  ∃ v,(results fn a.tmps).run P w=.ok v w∧((∀ b,¬ F0.mL b)→mG (C.own f) w0 w F0.rd r v):=by
 unfold finish at hf
 simp only at hf
 generalize hes:fn.results.toList.map (jX C st)=es at hf
 generalize C.own f=ks at hf ⊢
 cases hb:((ks.all Option.isNone || Nat.beq ks.length es.length) && nodup (pT ks es) && (pT ks es).all (fun i=>!((pU ks es).any fun j=>Nat.beq i j))) with
 | false=>rw [hb] at hf;cases hf
 | true =>
  rw [hb] at hf
  simp only [aN] at hf
  rw [Bool.and_eq_true,Bool.and_eq_true] at hb
  obtain ⟨⟨hb1,hb2⟩,hb3⟩:=hb
  obtain ⟨rs,hr,Vq,Ds⟩:=Ja hf
  simp only [Option.some.injEq] at hr
  obtain ⟨vs,hvl,hrun,hrel⟩:=sF hT h fn (fun rv hm=>by
   obtain ⟨j,hj⟩:=eX hm
   obtain ⟨v,hv,_⟩:=Ds j (jX C st rv) (by rw [← hes,aM,hj];rfl)
   exact vZ hv)
  rw [hes] at hrel
  have uS:vs.length=es.length:=by rw [hvl,← hes];simp
  refine ⟨zJ vs,hrun,fun GW=>?_⟩
  obtain ⟨H',h',pZ,qa,Dg⟩:=h.Bc (pU ks es)
  have hval:∀ (j:ax) (e:cQ) (x:aC) (v:AV),es[j]?=aa e→vs[j]?=aa x→ks[j]?.getD ah=ah→pS (ks[j]?.getD ah) e=aa v→Rel w (Fr w0.heap.size F0 H' σ) v x:=by
   intro j e x v he hx hk hv
   rw [hk] at hv
   have ht:=vZ hv
   simp only [pS,ht,aN,Option.some.injEq] at hv
   subst hv
   exact kg (pZ _ _ (hrel j e x he hx)) ht fun i hi=>EX he hk hi
  have wT:∀ (F:ax→Prop),(∀ (j:ax) (x:aC) (v:AV),vs[j]?=aa x→rs[j]?=aa v→Rel w F v x)→Rel w F r (zJ vs):=by
   intro F hF
   rw [← hr]
   have hl:rs.length=vs.length:=by rw [Vq,uS]
   match rs,vs,hl with
   | [],[],_=>exact .tu [] [] rfl (fun j v hv=>by simp at hv)
   | [v],[x],_=>exact hF 0 x v rfl rfl
   | v :: v' :: rs,x :: x' :: vs,hl =>
    refine .tu (v :: v' :: rs) (x :: x' :: vs) hl fun j u hu=>?_
    have hj:j < (v :: v' :: rs).length:=by rw [hl];exact (List.getElem?_eq_some_iff.1 hu).1
    have:=hF j u _ hu (List.getElem?_eq_getElem hj)
    rw [aK,List.getElem?_eq_getElem hj]
    exact this
  have wS:∀ (j:ax) (x:aC),vs[j]?=aa x→∃ e,es[j]?=aa e:=fun j x hx=>by
   have:j < es.length:=by rw [← uS];exact (List.getElem?_eq_some_iff.1 hx).1
   exact ⟨_,List.getElem?_eq_getElem this⟩
  unfold mG
  cases hall:ks.all Option.isNone with
  | true =>
   rw [aJ rfl]
   refine Rel.mono (F:=Fr w0.heap.size F0 H' σ) (fun b hb hF=>⟨fun hlt=>(hF.1 hlt).resolve_right (GW b),rfl⟩) (wT _ fun j x v hx hv=>?_)
   obtain ⟨e,he⟩:=wS j x hx
   obtain ⟨v',Aa,hv2⟩:=Ds j e he
   have:v'=v:=by rw [hv2] at hv;exact Option.some.inj hv
   subst this
   refine hval j e x v' he hx ?_ Aa
   cases hk:ks[j]? with
   | none=>rfl
   | some o =>
    have:=List.all_eq_true.1 hall o (aV hk)
    cases o with
    | none=>rfl
    | some p=>cases this
  | false =>
   rw [aI (by simp)]
   rw [hall,eu] at hb1
   have hkl:=aF hb1
   have hown:∀ (j:ax) (x:aC) (e k:ax) (v:AV),vs[j]?=aa x→ks[j]?=aa (aa (e,k))→rs[j]?=aa v →
     (x.ownBlock=ah∧v.elems=[]∧0 < k∧x=.slice ah 0 0)∨∃ id,(∃ en,es[j]?=aa en∧id ∈ en.ids)∧H id=aa x∧cY w (Fr w0.heap.size F0 H σ) e k v.elems x:=by
    intro j x e k v hx hk hv
    obtain ⟨en,he⟩:=wS j x hx
    obtain ⟨v',Aa,hv2⟩:=Ds j en he
    have:v'=v:=by rw [hv2] at hv;exact Option.some.inj hv
    subst this
    have Wc:=hrel j en x he hx
    rw [hk] at Aa
    simp only [Option.getD_some,pS] at Aa
    split at Aa
    ·rename_i id y' k' l
     cases qV:(Nat.beq e y' && Nat.beq k k') with
     | false=>rw [qV] at Aa;cases Aa
     | true =>
      rw [qV] at Aa
      simp only [aN,Option.some.injEq] at Aa
      subst Aa
      rw [Bool.and_eq_true] at qV
      have e1:=aF qV.1
      have e2:=aF qV.2
      subst e1 e2
      exact .inr ⟨id,⟨_,he,by simp [cQ.ids,Cell.ids]⟩,Wc.1,Wc.2⟩
    ·cases vM:bI 0 k with
     | false=>rw [vM] at Aa;cases Aa
     | true =>
      rw [vM] at Aa
      simp only [aN,Option.some.injEq] at Aa
      subst Aa
      have hx0:x=.slice ah 0 0:=by
       have aah:Rel w _ .cd x:=Wc
       cases aah;rfl
      subst hx0
      exact .inl ⟨rfl,rfl,by unfold bI at vM;exact aU vM,rfl⟩
    ·cases Aa
   have Wn:∀ (j:ax) (x:aC),vs[j]?=aa x→∃ v,rs[j]?=aa v∧sy vs.length r j=v:=by
    intro j x hx
    have hj:j < vs.length:=(List.getElem?_eq_some_iff.1 hx).1
    have NX:j < rs.length:=by rw [Vq,← uS];exact hj
    refine ⟨rs[j],List.getElem?_eq_getElem NX,?_⟩
    have hl:rs.length=vs.length:=by rw [Vq,uS]
    unfold sy
    rw [← hr]
    by_cases h1:vs.length=1
    ·rw [aJ h1]
     match rs,hl.trans h1,NX with
     | [v],_,NX =>
      have:j=0:=by simpa using NX
      subst this
      rfl
    ·rw [aI h1]
     match rs,hl,NX with
     | [],_,NX=>simp at NX
     | [v],hl,_=>simp at hl;omega
     | v :: v' :: rs,_,NX =>
      show (v :: v' :: rs).getD j .un=_
      rw [aK,List.getElem?_eq_getElem NX]
      rfl
   refine ⟨vs,by rw [uS,hkl],rfl,fun j x o hx ho=>?_,fun i j x y p q g zI hx hy hi hj hg=>?_⟩
   ·obtain ⟨v,hv,hcv⟩:=Wn j x hx
    rw [hcv]
    cases o with
    | some p =>
     obtain ⟨e,k⟩:=p
     simp only
     rcases hown j x e k v hx ho hv with ⟨_,h2,h3,rfl⟩ | ⟨id,_,h2,h3⟩
     ·rw [h2]
      exact ⟨⟨h3,[],bW w 0 _ _,by simp,fun i j v hi=>by simp at hi⟩,fun g hg=>by cases hg⟩
     ·refine ⟨h3.mono (fun b hb hF=>⟨⟨fun hlt=>(hF.1 hlt).resolve_right (GW b),fun i y p hy hp e=>?_⟩,rfl⟩) (fun _ _=>rfl),fun g hg=>((h.hown id x g h2 hg).1).resolve_right (GW g)⟩
      obtain ⟨v',hv',_⟩:=Wn i y hy
      rcases hown i y p.1 p.2 v' hy hp hv' with ⟨h5,_⟩ | ⟨nw,_,h5,_⟩
      ·rw [h5] at e;cases e
      ·exact hF.2.1 nw y h5 e
    | none =>
     simp only
     obtain ⟨e,he⟩:=wS j x hx
     obtain ⟨v',Aa,hv2⟩:=Ds j e he
     have:v'=v:=by rw [hv2] at hv;exact Option.some.inj hv
     subst this
     refine (hval j e x v' he hx (by rw [ho];rfl) Aa).mono fun b hb hF=>⟨⟨fun hlt=>(hF.1 hlt).resolve_right (GW b),fun i y p hy hp eb=>?_⟩,rfl⟩
     obtain ⟨v2,hv',_⟩:=Wn i y hy
     rcases hown i y p.1 p.2 v2 hy hp hv' with ⟨h5,_⟩ | ⟨nw,⟨en,hen,hid⟩,h5,_⟩
     ·rw [h5] at eb;cases eb
     ·have hm:=xZ hen hp hid
      have hnv:nw ∉ pU ks es:=fun SV=>by
       have:=List.all_eq_true.1 hb3 nw hm
       simp only [Bool.not_eq_true',bV] at this
       exact this nw SV (dw nw)
      exact hF.2.1 nw y (Dg nw y hnv h5) eb
   ·obtain ⟨v,hv,_⟩:=Wn i x hx
    obtain ⟨v',hv',_⟩:=Wn j y hy
    rcases hown i x p.1 p.2 v hx hi hv with ⟨h5,_⟩ | ⟨id,⟨en,hen,hid⟩,h5,_⟩
    ·rw [h5] at hg;cases hg
    ·rcases hown j y q.1 q.2 v' hy hj hv' with ⟨h6,_⟩ | ⟨nw,⟨en',hen',OP⟩,h6,_⟩
     ·rw [h6];simp
     ·have hne:id≠nw:=by
       rcases Nat.lt_or_gt_of_ne zI with hlt | zX
       ·exact Ag hb2 hlt hen hi hen' hj hid OP
       ·exact fun e=>Ag hb2 zX hen' hj hen hi OP hid e.symm
      exact h.hh id nw x y g hne h5 h6 hg
end
end Sx
