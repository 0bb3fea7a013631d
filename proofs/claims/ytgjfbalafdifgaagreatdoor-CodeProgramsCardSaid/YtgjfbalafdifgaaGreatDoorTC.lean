/-
  A part of CodePrograms's proof.
-/
import Derived.Test.YtgjfbalafdifgaaGreatDoorTB
import Derived.Lib.Bytealg
import Derived.ReadAgain
import Derived.ChangeArms
import Derived.ChangeSame
import Derived.RowKit
import Derived.Deep.DeepHandedRow
import Derived.Lib.LaidTab
set_option linter.unusedVariables false
set_option linter.unusedSimpArgs false
set_option linter.unusedSectionVars false
set_option linter.unnecessarySimpa false
open _root_ renaming Array→bF,Bool→ay,ByteArray→aL,Int→aB,List→ai,Nat→ax,Option→ak,UInt8→ae,beq_iff_eq→bK,cond_false→bB,cond_true→aN,decide_eq_false_iff_not→aQ,decide_eq_true_eq→aG,if_false→aH,if_neg→aI,if_pos→aJ,if_true→aO,of_decide_eq_true→cu
open Bool renaming false→af,false_and→dn,false_or→eu,not_eq_true→fM,not_true→df,true→aj
open Go.Extern.BytealgIndexByte renaming indexByte→ja
open Go renaming IntKind→dP,Program→bn,Value→aC,World→az
open Go.Lib renaming indexByte→bH
open LawfulBEq renaming eq_of_beq→bD
open List renaming getD_eq_getElem?_getD→aK,getElem?_append_left→aX,getElem?_append_right→aS,getElem?_map→aM,getElem?_range→dU,getElem_of_mem→gz,length_map→aP
open Nat renaming ble→bL,blt→bI,div_lt_of_lt_mul→jq,eq_of_beq_eq_true→aF,le_of_ble_eq_true→aU,mul_comm→gu
open Option renaming bind_eq_some_iff→aR,map_some→aY,none→ah,some→aa
open UInt8 renaming le_iff_toNat_le→bq,lt_iff_toNat_lt→bg,ofNat_toNat→jw,toNat_inj→bP,toNat_ofNat_of_lt'→dO
namespace Sx
open Go Go.RowKit Go.Lib
def uW (C:jT) (f nt:ax) (id:ax) (ops:bF Oper) (draw:ay):ay :=
 ops.all (fun o=>match o.dst with | some d=>bI d nt | none=>aj) &&
  (match draw with
   | false=>aj
   | true=>match C.IW f id with
    | none=>aj
    | some l=>tW ops l.2 l.1 (Array.replicate ops.size af) && Region.noSelect ops && Nat.beq l.1.len ops.size)
def lx (p:ax→bF Oper→ay→ay):Code→ay
 | .region id ops d=>p id ops d
 | .seq a b=>lx p a && lx p b
 | .cond _ a b=>lx p a && lx p b
 | .block _ c=>lx p c
 | .loop c=>lx p c
 | .scope c=>lx p c
 | _=>aj
def nU (p:ax→bF Oper→ay→ay):Item→ay
 | .code c=>lx p c
 | .inLoop c=>lx p c
 | .inScope c=>lx p c
 | _=>aj
structure Fit (C:jT) (P:bn):Prop where
 ty:∀ t i,C.ty t=aa i→gS P t i
 code:∀ (f:ax) (fn:Func) (c:Code),P.funcs[f]?=aa fn→fn.body=aa c→lx (uW C f fn.ntmps) c=aj
 mixed:P.follows .mixedOrders=aj
 name:∀ (f:ax) (fn:Func) (c:Code),P.funcs[f]?=aa fn→fn.body=aa c→(fn.name == "runtime.NumGoroutine")=af
 gv:∀ (g:ax) (G:ai AV→ak AV),C.gv g=aa G→(C.own g).all Option.isNone=aj→∀ (args:ai AV) (r:AV),G args=aa r→∀ (w:az) (F:ax→Prop) (vs:bF aC),cG C w F→vs.size=args.length →
  (∀ (j:ax) (a:AV) (v:aC),args[j]?=aa a→vs[j]?=aa v→Rel w F a v)→kZ P g vs w (np C g w F r)
 ext:∀ (f:ax) (fn:Func),P.funcs[f]?=aa fn→fn.body=ah→(fn.name == "internal/bytealg.IndexByteString")=aj→∀ (s:aL) (c:aB) (w:az),(callFunc f #[.string s,.int .u8 c]).run P w=.ok (.value (.int .i64 (bH s.data.toList c.toNat.toUInt8))) w
theorem ya {p:ax→bF Oper→ay→ay}:∀ {c:Code} {l:ax} {r:Code},findLabel c l=aa r→lx p c=aj→lx p r=aj:=by
 intro c
 induction c with
 | seq a b iha Bl =>
  intro l r h hg
  simp only [lx,Bool.and_eq_true] at hg
  simp only [findLabel] at h
  split at h
  ·rename_i rest hr
   cases h
   simp only [lx,Bool.and_eq_true]
   exact ⟨iha hr hg.1,hg.2⟩
  ·exact Bl h hg.2
 | label l' =>
  intro l r h hg
  simp only [findLabel] at h
  split at h
  ·cases h;rfl
  ·cases h
 | _=>intro l r h;simp [findLabel] at h
theorem wa {p:ax→bF Oper→ay→ay} {l:ax}:∀ {k k':ai Item},gotoIn l k=aa k'→(∀ x ∈ k,nU p x=aj)→∀ x ∈ k',nU p x=aj
 | [],k',h,_=>by simp [gotoIn] at h
 | it :: k,k',h,hg=>by
  have rest:gotoIn l k=aa k'→∀ x ∈ k',nU p x=aj:=fun h=>wa h fun x hx=>hg x (List.mem_cons_of_mem _ hx)
  cases it with
  | inScope body =>
   simp only [gotoIn] at h
   split at h
   ·rename_i r hr
    cases h
    intro x hx
    rcases List.mem_cons.1 hx with rfl | hx
    ·exact ya hr (hg (.inScope body) (List.mem_cons_self ..))
    ·exact hg x hx
   ·exact rest h
  | _=>exact rest (by simpa [gotoIn] using h)
theorem wb {p:ax→bF Oper→ay→ay} {l:ax}:∀ {k k':ai Item},exitTo l k=aa k'→(∀ x ∈ k,nU p x=aj)→∀ x ∈ k',nU p x=aj
 | [],k',h,_=>by simp [exitTo] at h
 | it :: k,k',h,hg=>by
  have rest:exitTo l k=aa k'→∀ x ∈ k',nU p x=aj:=fun h=>wb h fun x hx=>hg x (List.mem_cons_of_mem _ hx)
  cases it with
  | inBlock id =>
   simp only [exitTo] at h
   split at h
   ·cases h
    intro x hx
    exact hg x (List.mem_cons_of_mem _ hx)
   ·exact rest h
  | _=>exact rest (by simpa [exitTo] using h)
section
variable {C:jT} {P:bn}
theorem step_scope {b:Frame} {a:Act} {k:ai Item} {cs:ai Frame} {w:az} {c:Code} :
  Go.step P (lone (b.at a (.code (.scope c) :: k)) cs w)=.next (lone (b.at a (.code c :: .inScope c :: k)) cs w) :=
 step_lone_go (by simp [stepG,stepG.exec,Frame.at])
theorem step_inScope {b:Frame} {a:Act} {k:ai Item} {cs:ai Frame} {w:az} {c:Code} :
  Go.step P (lone (b.at a (.inScope c :: k)) cs w)=.next (lone (b.at a k) cs w) :=
 step_lone_go (by simp [stepG,stepG.exec,Frame.at])
def Ends (P:bn) (b:Frame) (a:Act) (k:ai Item) (w:az) (R:Ending→az→Prop):Prop :=
 ∀ cs,∃ e w' fr,R e w'∧Comes P (lone (b.at a k) cs w) (lone fr cs w') e∧fr.fn=b.fn∧fr.leaving P w' e
theorem Ends.of_steps {b:Frame} {a a':Act} {k k':ai Item} {w w':az} {R:Ending→az→Prop} (h:∀ cs,Steps P (lone (b.at a k) cs w) (lone (b.at a' k') cs w')) (he:Ends P b a' k' w' R):Ends P b a k w R:=fun cs=>by
 obtain ⟨e,w2,fr,h1,h2,h3⟩:=he cs
 exact ⟨e,w2,fr,h1,Comes.of_steps (h cs) h2,h3⟩
def yc (C:jT) (P:bn) (f:ax) (fn:Func) (w0:az) (F0:Fs) (r:AV) (e:Ending) (w':az):Prop :=
 match C.sig f with
 | none=>(∀ b,¬ F0.mL b)→np C f w0 F0.rd r e w'
 | some sg=>Kw C P f fn sg w0 F0 r e w'
def Dt (C:jT) (P:bn) (f:ax) (fn:Func) (go:ai Item→St→ak AV):Prop :=
 ∀ (k:ai Item) (st:St) (r:AV),go k st=aa r→(∀ x ∈ k,nU (uW C f fn.ntmps) x=aj)→∀ (w0:az) (F0:Fs) (a:Act) (w:az) (H:ax→ak aC) (σ:ax→ak ax) (b:Frame),b.fn=f→b.kind=.normal →
  Inv C w0 F0 fn.ntmps st a w H σ→Ends P b a k w (yc C P f fn w0 F0 r)
theorem EY {f:ax} {fn:Func} {go:ai Item→St→ak AV} (h:Dt C P f fn go):Dt C P f fn (arr C f go):=by
 intro k st r hr hk w0 F0 a w H σ b hb mA hI
 unfold arr at hr
 split at hr
 ·rename_i l s _
  obtain ⟨H',hI'⟩:=hI.canon l s
  exact h k _ r hr hk w0 F0 a w H' σ b hb mA hI'
 ·exact h k st r hr hk w0 F0 a w H σ b hb mA hI
theorem Ends.finish {f:ax} {fn:Func} {st:St} {r:AV} {w0:az} {F0:Fs} {a:Act} {w:az} {H:ax→ak aC} {σ:ax→ak ax} {b:Frame} {k:ai Item} (kp:Fit C P) (hfn:P.funcs[f]?=aa fn) (hb:b.fn=f) (mA:b.kind=.normal)
  (hI:Inv C w0 F0 fn.ntmps st a w H σ) (hf:Sx.fin C f fn st=aa r) (hs:∀ cs,∃ todo,Steps P (lone (b.at a k) cs w) (lone { b.at a todo with mode:=.returning } cs w)):Ends P b a k w (yc C P f fn w0 F0 r):=fun cs=>by
 obtain ⟨todo,hst⟩:=hs cs
 have OU:P.funcs[b.fn]?=aa fn:=by rw [hb];exact hfn
 unfold fin at hf
 cases jY:C.sig f with
 | none =>
  rw [jY] at hf
  obtain ⟨v,hv,hr⟩:=Jb kp.ty hI hf
  refine ⟨.returned v,w,_,?_,hst,rfl,rfl,hI.defers,mA,fn,OU,hv⟩
  unfold yc
  rw [jY]
  exact fun hl=>⟨v,rfl,Ext.Sh hI.below hl,hr hl⟩
 | some sg =>
  rw [jY] at hf
  have wY:∃ v,(results fn a.tmps).run P w=.ok v w:=by
   obtain ⟨outs,f1,f2,_⟩:=tV hf
   obtain ⟨vs,g1,g2,g3⟩:=sF kp.ty hI fn fun rv hm=>List.all_eq_true.1 f2 _ (List.mem_map.2 ⟨rv,hm,rfl⟩)
   exact ⟨_,g2⟩
  obtain ⟨v,hv⟩:=wY
  refine ⟨.returned v,w,_,?_,hst,rfl,rfl,hI.defers,mA,fn,OU,hv⟩
  unfold yc
  rw [jY]
  exact ⟨v,rfl,st,a,H,σ,hI,hf,hv⟩
theorem Jc {f:ax} {fn:Func} {call:ax→ai AV→ak AV} (kp:Fit C P) (hC:oq C P call) {id:ax} {ops:bF Oper} {draw:ay} {st:St} {K:St→ak AV} {r:AV} (hg:uW C f fn.ntmps id ops draw=aj)
  (hK:nj C call f id ops draw st K=aa r) {w0:az} {F0:Fs} {a:Act} {w:az} {H:ax→ak aC} {σ:ax→ak ax} (hI:Inv C w0 F0 fn.ntmps st a w H σ) :
  (Code.region id ops draw).wp P (fun e a' w'=>e=.normal∧∃ st' H' σ',K st'=aa r∧Inv C w0 F0 fn.ntmps st' a' w' H' σ') a w:=by
 unfold uW at hg
 rw [Bool.and_eq_true] at hg
 obtain ⟨hg1,hg2⟩:=hg
 have eC:∀ (i:ax) (o:Oper) (t:ax),ops[i]?=aa o→o.dst=aa t→t < fn.ntmps:=by
  intro i o t hi ht
  have:=Array.all_eq_true_iff_forall_mem.1 hg1 o (Array.mem_of_getElem? hi)
  rw [ht] at this
  unfold bI at this
  exact aU this
 unfold nj at hK
 cases draw with
 | false =>
  simp only [bB] at hK
  refine wp_region (Bi (nc:=[]) (E:=Held ah σ) _ a w ?_)
  exact lK (D:=ah) hC kp.ty eC _ hK hI (fun ws e=>by cases e) trivial fun a' w' st' H' σ' q1 q2 _ _ _=>⟨rfl,st',H',σ',q1,q2⟩
 | true =>
  simp only [aN] at hK hg2
  cases hp:C.IW f id with
  | none=>rw [hp] at hK;cases hK
  | some l =>
   rw [hp] at hK hg2
   simp only at hK
   simp only [Bool.and_eq_true] at hg2
   obtain ⟨⟨h1,h2⟩,h3⟩:=hg2
   have hlen:=aF h3
   have hI':=hI.ext (Ext.drew w (w.drawn+1))
   refine wp_region_any kp.mixed (sJ.any (nc:=l.2) (E:=Held (aa l.2) σ) _ ?_)
   have key:=nS (P:=P) (nc:=l.2) (E:=Held (aa l.2) σ) (Q:=fun e a' w'=>e=.normal∧∃ st' H' σ',K st'=aa r∧Inv C w0 F0 fn.ntmps st' a' w' H' σ') (Held.refl _ _) (fun u v w h k=>h.trans k) h2 (fun c a w hc=>by cases hc.1) l.1 (Array.replicate ops.size af) a _
    (fun j o hj=>by rw [show (Array.replicate ops.size af).getD j af=af by rw [Array.getD_eq_getD_getElem?,Array.getElem?_replicate];split <;> rfl] at hj;cases hj) h1
    (q8 (D:=aa l.2) (σ0:=σ) hC kp.ty eC (fun a' w' st' H' σ' q1 q2=>⟨rfl,st',H',σ',q1,q2⟩) l.1 hK hI' (fun ws _ s _=>rfl))
   rw [hlen] at key
   exact key
theorem OY {f:ax} {fn:Func} {call:ax→ai AV→ak AV} {go:ai Item→St→ak AV} (kp:Fit C P) (hfn:P.funcs[f]?=aa fn) (hC:oq C P call) (hgo:Dt C P f fn go):Dt C P f fn (Sx.step C call f fn go):=by
 intro k st r hr hk w0 F0 a w H σ b hb mA hI
 have zE:∀ {x:Item} {k':ai Item},k=x :: k'→∀ y ∈ k',nU (uW C f fn.ntmps) y=aj:=fun e y hy=>hk y (by rw [e];exact List.mem_cons_of_mem _ hy)
 have vM:∀ {x:Item} {k':ai Item},k=x :: k'→nU (uW C f fn.ntmps) x=aj:=fun e=>hk _ (by rw [e];exact List.mem_cons_self ..)
 have pH:∀ {x:Item} {k':ai Item},nU (uW C f fn.ntmps) x=aj→(∀ y ∈ k',nU (uW C f fn.ntmps) y=aj)→∀ y ∈ x :: k',nU (uW C f fn.ntmps) y=aj:=fun h1 h2 y hy=>by
  rcases List.mem_cons.1 hy with rfl | hy
  ·exact h1
  ·exact h2 y hy
 have next:∀ (k':ai Item) (st':St),go k' st'=aa r→(∀ y ∈ k',nU (uW C f fn.ntmps) y=aj)→Inv C w0 F0 fn.ntmps st' a w H σ→(∀ cs,Go.step P (lone (b.at a k) cs w)=.next (lone (b.at a k') cs w))→Ends P b a k w (yc C P f fn w0 F0 r) :=
  fun k' st' h1 h2 h3 h4=>Ends.of_steps (fun cs=>.one (h4 cs)) (hgo k' st' r h1 h2 w0 F0 a w H σ b hb mA h3)
 cases k with
 | nil=>exact Ends.finish kp hfn hb mA hI hr fun cs=>⟨_,.one step_end⟩
 | cons it k =>
  cases it with
  | inBlock id=>exact next k st hr (zE rfl) hI fun cs=>step_inBlock
  | inScope c=>exact next k st hr (zE rfl) hI fun cs=>step_inScope
  | inLoop c=>exact next _ st hr (pH (show nU _ (.code c)=aj from vM (x:=.inLoop c) rfl) (pH (vM rfl) (zE rfl))) hI fun cs=>step_inLoop
  | code c =>
   have hc0:lx (uW C f fn.ntmps) c=aj:=vM rfl
   cases c with
   | skip=>exact next k st hr (zE rfl) hI fun cs=>step_skip
   | label l=>exact next k st hr (zE rfl) hI fun cs=>step_label
   | loop c=>exact next _ st hr (pH hc0 (pH hc0 (zE rfl))) hI fun cs=>step_loop
   | seq x y =>
    simp only [lx,Bool.and_eq_true] at hc0
    exact next _ st hr (pH hc0.1 (pH hc0.2 (zE rfl))) hI fun cs=>step_seq
   | block id c=>exact next _ st hr (pH hc0 (pH rfl (zE rfl))) hI fun cs=>step_block
   | scope c=>exact next _ st hr (pH hc0 (pH hc0 (zE rfl))) hI fun cs=>step_scope
   | ret=>exact Ends.finish kp hfn hb mA hI hr fun cs=>⟨_,.one step_ret⟩
   | exit id =>
    have A6:(match exitTo id k with | some k'=>go k' st | none=>ah)=aa r:=hr
    split at A6
    ·rename_i k' he
     exact next k' st A6 (wb he (zE rfl)) hI fun cs=>step_exit he
    ·cases A6
   | goto l =>
    have A6:(match gotoIn l k with | some k'=>go k' st | none=>ah)=aa r:=hr
    split at A6
    ·rename_i k' he
     exact next k' st A6 (wa he (zE rfl)) hI fun cs=>step_goto he
    ·cases A6
   | cond c x y =>
    simp only [lx,Bool.and_eq_true] at hc0
    have A6:a8 (st.get C c).cP (go (.code x :: k) (st.assume c aj)) (go (.code y :: k) (st.assume c af))=aa r:=hr
    unfold a8 at A6
    split at A6
    ·rename_i q hq
     have hv:=qm hI hq
     have Wo:Inv C w0 F0 fn.ntmps (st.assume c q) a w H σ:=by
      cases c with
      | tmp t =>
       refine hI.Kj ?_
       have:a.tmps.getD t undef=.bool q:=hv
       rw [this]
       exact Rel.b q
      | _=>exact hI
     cases q with
     | true=>exact next _ _ A6 (pH hc0.1 (zE rfl)) Wo fun cs=>step_cond hv
     | false=>exact next _ _ A6 (pH hc0.2 (zE rfl)) Wo fun cs=>step_cond hv
    ·cases A6
   | region id ops draw =>
    have A6:nj C call f id ops draw st (fun st=>go k st)=aa r:=hr
    have hw:=Jc kp hC hc0 A6 hI
    intro cs
    obtain ⟨e,a',w',⟨he,st',H',σ',q1,q2⟩,aai⟩:=hw b k cs
    subst he
    obtain ⟨e2,w2,fr,h1,h2,h3⟩:=hgo k st' r q1 (zE rfl) w0 F0 a' w' H' σ' b hb mA q2 cs
    exact ⟨e2,w2,fr,h1,Comes.of_steps aai h2,h3⟩
   | _=>cases hr
  | _=>cases hr
theorem firstIdx (l:ai ae) (c:ae):nQ l c=bH l c:=by
 unfold nQ
 induction l with
 | nil=>rfl
 | cons x l ih =>
  simp only [List.findIdx?_cons,bH]
  by_cases hx:(x == c)=aj
  ·simp [hx]
  ·simp only [hx,Bool.false_eq_true,aH]
   rw [← ih]
   cases hf:l.findIdx? (· == c) with
   | none=>simp
   | some i =>
    have hne:(((i:ax):aB) == -1)=af:=by
     rw [beq_eq_false_iff_ne]
     omega
    simp [hne]
theorem Bn (kp:Fit C P):∀ n,oq C P (both C P n).1∧∀ (f:ax) (fn:Func),P.funcs[f]?=aa fn→Dt C P f fn ((both C P n).2 f fn)
 | 0=>⟨⟨fun g args r h=>by simp [both] at h,fun g sg args r h=>by simp [both] at h⟩,fun f fn _ k st r h=>by simp [both] at h⟩
 | n+1=>by
  obtain ⟨ihC,ihR⟩:=Bn kp n
  refine ⟨⟨fun g args r h jY w F vs hG hl hv=>?_,fun g sg args r h jY=>?_⟩,fun f fn hfn=>?_⟩
  ·have h':(match C.gv g with
   | some G=>bif (C.own g).all Option.isNone && (C.sig g).isNone then G args else ah
   | none=>match P.funcs[g]? with
    | some fn=>match fn.body with
     | some c=>bif rN C g fn.ntmps args.length then arr C g ((both C P n).2 g fn) [.code c] (rM C g fn.ntmps args) else ah
     | none=>bif (C.own g).all Option.isNone && (C.sig g).isNone then ext fn.name args else ah
    | none=>ah)=aa r:=h
   cases CY:C.gv g with
   | some G =>
    rw [CY] at h'
    simp only [jY] at h'
    cases hall:(C.own g).all Option.isNone with
    | false=>rw [hall] at h';cases h'
    | true =>
     rw [hall] at h'
     exact kp.gv g G CY hall args r h' w F vs hG hl hv
   | none =>
   rw [CY] at h'
   simp only at h'
   unfold rM rN at h'
   simp only [jY] at h'
   split at h'
   case h_2=>cases h'
   rename_i fn hfn
   split at h'
   ·rename_i c mi
    cases hle:bL args.length fn.ntmps with
    | false=>rw [hle] at h';cases h'
    | true =>
     rw [hle] at h'
     have A9:=aU hle
     left
     refine ⟨fn,c,hfn,mi,kp.name g fn c hfn mi,fun cs=>?_⟩
     let b:Frame:=Frame.enter P g vs .normal
     have l4:Frame.enter P g vs .normal=b.at ⟨b.tmps,[]⟩ [.code c]:=by
      simp [b,Frame.enter,Frame.at,hfn,mi]
     have tZ:b.tmps=vs ++ Array.replicate (fn.ntmps - vs.size) undef:=by simp [b,Frame.enter,hfn]
     have hI:Inv C w (Fs.of F) fn.ntmps (EH args) ⟨b.tmps,[]⟩ w (fun _=>ah) (fun _=>ah):={
      defers:=rfl
      size:=by rw [tZ];simp;omega
      env:=fun t=>by
       show fL _ _ _ _ (match args[t]? with | some v=>.val v | none=>.dead) _
       cases ht:args[t]? with
       | none=>trivial
       | some x =>
        have hlt:t < vs.size:=by rw [hl];exact (List.getElem?_eq_some_iff.1 ht).1
        show Rel _ _ x _
        have hg:vs[t]?=aa vs[t]:=by simp [hlt]
        have:=hv t x vs[t] ht hg
        have e:b.tmps.getD t undef=vs[t]:=by
         rw [tZ]
         simp [Array.getElem?_append,hlt]
        rw [e]
        refine this.mono fun b' hb' hF=>⟨⟨fun _=>.inl hF,fun i v hi=>(by cases hi),fun s hs=>(by cases hs)⟩,rfl⟩
      mem:=fun s cs hs=>by cases hs
      hown:=fun i x g hi=>by cases hi
      sown:=fun s r hs=>by cases hs
      obj:=fun s b hb=>by cases hb
      hh:=fun i j x y g _ hi=>by cases hi
      hs:=fun i s x r hi=>by cases hi
      ss:=fun s s' r _ hs=>by cases hs
      glob:=fun g k e hg=>by
       obtain ⟨b',o,h1,h2,h3,h4⟩:=hG g k e hg
       refine ⟨b',o,h1,⟨fun _=>.inl h2,fun i v hi=>(by cases hi),fun s hs=>(by cases hs)⟩,h3,fun j hj=>?_⟩
       obtain ⟨v,q1,q2,q3⟩:=h4 j hj
       exact ⟨v,q1,q2,q3.mono fun b' hb' hF=>⟨⟨fun _=>.inl hF,fun i v hi=>(by cases hi),fun s hs=>(by cases hs)⟩,rfl⟩⟩
      below:=Kh.refl _ w }
     have hrun:=EY (ihR g fn hfn) [.code c] (EH args) r h' (fun x hx=>by
      have:x=.code c:=by simpa using hx
      subst this
      exact kp.code g fn c hfn mi) w (Fs.of F) _ w _ _ b rfl rfl hI cs
     rw [l4]
     obtain ⟨e,w',fr,h1,h2⟩:=hrun
     unfold yc at h1
     rw [jY] at h1
     exact ⟨e,w',fr,h1 (fun _ hb=>hb),h2⟩
   ·rename_i mi
    right
    cases hall:(C.own g).all Option.isNone with
    | false=>rw [hall] at h';cases h'
    | true =>
    rw [hall] at h'
    simp only [Option.isNone_none,Bool.and_self,aN] at h'
    unfold ext at h'
    split at h'
    ·rename_i l c
     cases ua:(fn.name == "internal/bytealg.IndexByteString") with
     | false=>rw [ua] at h';cases h'
     | true =>
      rw [ua] at h'
      simp only [aN,Option.some.injEq] at h'
      subst h'
      match vs,hl,hv with
      | ⟨[x,y]⟩,_,hv =>
       have hx:=hv 0 _ x rfl rfl
       have hy:=hv 1 _ y rfl rfl
       cases hx with
       | s q =>
        cases hy
        refine ⟨_,kp.ext g fn hfn mi ua q c.toNat w,_,rfl,Ext.refl w,?_⟩
        unfold mG
        rw [aJ hall,firstIdx]
        have e:((c.toNat:aB)).toNat.toUInt8=c:=by simp
        rw [e]
        exact .int _
    ·cases h'
  ·have h':(match C.gv g with
   | some G=>bif (C.own g).all Option.isNone && (C.sig g).isNone then G args else ah
   | none=>match P.funcs[g]? with
    | some fn=>match fn.body with
     | some c=>bif rN C g fn.ntmps args.length then arr C g ((both C P n).2 g fn) [.code c] (rM C g fn.ntmps args) else ah
     | none=>bif (C.own g).all Option.isNone && (C.sig g).isNone then ext fn.name args else ah
    | none=>ah)=aa r:=h
   cases CY:C.gv g with
   | some G =>
    rw [CY] at h'
    simp only [jY] at h'
    cases hall:(C.own g).all Option.isNone with
    | false=>rw [hall] at h';cases h'
    | true =>
     rw [hall] at h'
     cases h'
   | none =>
   rw [CY] at h'
   simp only at h'
   unfold rM rN at h'
   simp only [jY] at h'
   split at h'
   case h_2=>cases h'
   rename_i fn hfn
   split at h'
   ·rename_i c mi
    cases hle:(bL sg.ps.length fn.ntmps && Nat.beq args.length (sg.ps.length+sg.objs.length)) with
    | false=>rw [hle] at h';cases h'
    | true =>
     rw [hle] at h'
     rw [Bool.and_eq_true] at hle
     refine ⟨fn,hfn,aU hle.1,aF hle.2,fun w F0 vs H σ uS hI=>.inl ⟨fn,c,hfn,mi,kp.name g fn c hfn mi,fun cs=>?_⟩⟩
     let b:Frame:=Frame.enter P g vs .normal
     have l4:Frame.enter P g vs .normal=b.at ⟨b.tmps,[]⟩ [.code c]:=by
      simp [b,Frame.enter,Frame.at,hfn,mi]
     have tZ:b.tmps=vs ++ Array.replicate (fn.ntmps - vs.size) undef:=by simp [b,Frame.enter,hfn]
     have hrun:=EY (ihR g fn hfn) [.code c] (GG fn.ntmps sg args) r h' (fun x hx=>by
      have:x=.code c:=by simpa using hx
      subst this
      exact kp.code g fn c hfn mi) w F0 ⟨b.tmps,[]⟩ w H σ b rfl rfl (by rw [tZ];exact hI) cs
     rw [l4]
     obtain ⟨e,w',fr,h1,h2⟩:=hrun
     unfold yc at h1
     rw [jY] at h1
     exact ⟨e,w',fr,h1,h2⟩
   ·simp at h'
  ·exact OY kp hfn ihC (EY (ihR f fn hfn))
end
end Sx
namespace Sx
open Go
section
variable {C:jT} {call:ax→ai AV→ak AV} {f:ax} {R:Type}
theorem lift_bind (st:St) (dst:ak ax) (K:St→ak R) (o:ak AV):lift st dst K o=(lift st dst aa o).bind K:=by
 unfold lift;cases o <;> rfl
theorem eR (t:ax) (e:cQ) (K:ai Cell→ak R):cellsOf C t e K=(cellsOf C t e aa).bind K:=by
 unfold cellsOf
 cases C.ty t with
 | none=>rfl
 | some i =>
  simp only
  cases i.kd.agg with
  | true =>
   simp only [aN]
   cases e with
   | agg cs=>simp only;cases Nat.beq cs.length i.size <;> rfl
   | cell c=>cases c with
    | val v=>simp only;cases AV.cm i.size v <;> rfl
    | _=>rfl
   | _=>rfl
  | false =>
   simp only [bB]
   cases Nat.beq i.size 1 with
   | false=>rfl
   | true =>
    simp only [aN]
    cases e with
    | cell c=>cases c with
     | val v=>simp only;cases AV.one v <;> rfl
     | _=>rfl
    | _=>rfl
theorem Du (t:ax) (a:cQ) (dst:ak ax) (st:St) (K:St→ak R):uK C t a dst st K=(uK C t a dst st aa).bind K:=by
 unfold uK
 cases C.ty t with
 | none=>rfl
 | some i =>
  simp only
  split
  ·split
   ·cases bL _ _ <;> rfl
   ·rfl
  ·cases bL _ _ <;> rfl
  ·cases bL _ _ <;> rfl
  ·rfl
theorem Bo (t:ax) (a v:cQ) (st:St) (K:St→ak R):qU C t a v st K=(qU C t a v st aa).bind K:=by
 unfold qU
 split
 ·rw [eR];conv=>rhs;rw [eR]
  cases cellsOf C t v aa with
  | none=>rfl
  | some new =>
   simp only [Option.bind_some]
   split
   ·cases bL _ _ <;> rfl
   ·rfl
 ·rw [eR];conv=>rhs;rw [eR]
  cases cellsOf C t v aa with
  | none=>rfl
  | some new =>
   simp only [Option.bind_some]
   split
   ·cases (_ && _:ay) <;> rfl
   ·rfl
 ·rfl
theorem sM (fields:ai (ax×ax)) (st:St) (K:ai Cell→ak R):∀ (ps:ai (ax×Operand)) (cs:ai Cell),tJ C fields st ps cs K=(tJ C fields st ps cs aa).bind K
 | [],cs=>rfl
 | (i,x) :: r,cs=>by
  simp only [tJ]
  split
  ·rw [eR];conv=>rhs;rw [eR]
   cases cellsOf C _ (st.get C x) aa with
   | none=>rfl
   | some new =>
    simp only [Option.bind_some]
    cases bL _ _ with
    | false=>rfl
    | true=>simp only [aN];exact sM fields st K r _
  ·rfl
theorem sO (t:ax) (agg:ay) (st:St) (K:ai AV→ak R):∀ (ps:ai (ax×Operand)) (l:ai AV),pP C t agg st ps l K=(pP C t agg st ps l aa).bind K
 | [],l=>rfl
 | (i,x) :: r,l=>by
  simp only [pP]
  cases (_ && _:ay) with
  | false=>rfl
  | true =>
   simp only [aN]
   rw [eR];conv=>rhs;rw [eR]
   cases cellsOf C _ (st.get C x) aa with
   | none=>rfl
   | some new=>simp only [Option.bind_some];exact sO t agg st K r _
theorem Bp (t:ax) (x:cQ) (lo hi mx:ak Operand) (dst:ak ax) (st:St) (K:St→ak R):oV C f t x lo hi mx dst st K=(oV C f t x lo hi mx dst st aa).bind K:=by
 cases mx with
 | some m=>rfl
 | none =>
  simp only [oV]
  split
  ·exact lift_bind ..
  ·split
   ·rfl
   ·cases (dst.map (C.zS f)).getD af with
    | false=>simp only [bB];exact lift_bind ..
    | true =>
     simp only [aN]
     split
     ·cases CX _ _ with
      | none=>rfl
      | some n=>cases dst <;> rfl
     ·rfl
  ·rfl
theorem Dv (src to:ax) (x:cQ) (dst:ak ax) (st:St) (K:St→ak R):oo C src to x dst st K=(oo C src to x dst st aa).bind K:=by
 unfold oo
 split
 ·exact lift_bind ..
 ·exact lift_bind ..
 ·split
  ·exact lift_bind ..
  ·rfl
 ·split
  ·exact lift_bind ..
  ·rfl
 ·split
  ·cases (_ && _:ay) with
   | false=>rfl
   | true =>
    simp only [aN]
    split <;> rfl
  ·rfl
 ·rfl
theorem yf (b:Builtin) (args:ai Operand) (ts:ai ax) (dst:ak ax) (st:St) (K:St→ak R):mX C b args ts dst st K=(mX C b args ts dst st aa).bind K:=by
 unfold mX
 split
 ·split
  ·exact lift_bind ..
  ·exact lift_bind ..
  ·rfl
 ·exact lift_bind ..
 ·exact lift_bind ..
 ·exact lift_bind ..
 ·split
  ·split
   ·cases (Kd.wQ _) with
    | false=>rfl
    | true =>
     simp only [aN]
     split
     ·cases (_ && _:ay) with
      | false=>rfl
      | true =>
       simp only [aN]
       cases app _ _ _ _ with
       | none=>rfl
       | some m=>cases dst <;> rfl
     ·cases app _ _ _ _ with
      | none=>rfl
      | some m=>cases dst <;> rfl
     ·rfl
   ·cases (Kd.wQ _) with
    | false=>rfl
    | true =>
     simp only [aN]
     split
     ·cases (_ && _:ay) with
      | false=>rfl
      | true =>
       simp only [aN]
       cases app _ _ _ _ with
       | none=>rfl
       | some m=>cases dst <;> rfl
     ·cases app _ _ _ _ with
      | none=>rfl
      | some m=>cases dst <;> rfl
     ·rfl
   ·rfl
  ·rfl
 ·rfl
theorem sP (site:ax→ax) (res:AV) (K:St→ak R):∀ (objs:ai (Src×ai mK)) (i:ax) (st:St),vJ site res i objs st K=(vJ site res i objs st aa).bind K
 | [],i,st=>rfl
 | o :: r,i,st=>by
  simp only [vJ]
  cases cA res (i+1) with
  | none=>rfl
  | some v =>
   simp only [Option.bind_some]
   cases AV.cm o.2.length v with
   | none=>rfl
   | some l=>simp only [Option.bind_some];exact sP site res K r _ _
theorem ub (sg:A4) (g:ax) (xs:ai cQ) (dst:ak ax) (st:St) (K:St→ak R):jM C call sg g xs dst st K=(jM C call sg g xs dst st aa).bind K:=by
 unfold jM
 cases tK st xs [] sg.objs with
 | none=>rfl
 | some sites =>
  simp only [Option.bind_some]
  cases (_ && _:ay) with
  | false=>rfl
  | true =>
   simp only [aN]
   cases tL _ _ _ _ with
   | none=>rfl
   | some ins =>
    simp only [Option.bind_some]
    cases call _ _ with
    | none=>rfl
    | some res =>
     simp only [Option.bind_some]
     cases cA res 0 with
     | none=>rfl
     | some v =>
      simp only [Option.bind_some]
      rw [sP]
      conv=>rhs;rw [sP]
      cases vJ _ _ _ _ _ aa <;> rfl
theorem Dw (c:Call) (dst:ak ax) (st:St) (K:St→ak R):pQ C call c dst st K=(pQ C call c dst st aa).bind K:=by
 unfold pQ
 simp only
 split
 ·split
  ·exact ub ..
  ·cases List.all _ _ with
   | false=>rfl
   | true =>
    simp only [aN]
    cases call _ _ with
    | none=>rfl
    | some r=>simp only [Option.bind_some];cases rY _ _ _ _ <;> rfl
 ·split
  ·split
   ·exact ub ..
   ·rfl
  ·cases List.all _ _ with
   | false=>rfl
   | true =>
    simp only [aN]
    cases AV.R9 _ with
    | none=>rfl
    | some g =>
     simp only [Option.bind_some]
     cases vK C call _ _ <;> rfl
 ·exact yf ..
 ·rfl
theorem Ah (o:Oper) (st:St) (K:St→ak R):fk C call f o st K=(fk C call f o st aa).bind K:=by
 cases ho:o.op with
 | move x=>simp only [fk,ho];rfl
 | assign x=>simp only [fk,ho];rfl
 | pick c a b=>simp only [fk,ho];exact lift_bind ..
 | alloc t=>simp only [fk,ho];cases C.ty t with
  | none=>rfl
  | some i=>cases o.dst <;> rfl
 | box t x =>
  simp only [fk,ho]
  rw [eR];conv=>rhs;rw [eR]
  cases cellsOf C t (st.get C x) aa with
  | none=>rfl
  | some cs =>
   simp only [Option.bind_some]
   cases C.pt t with
   | true =>
    simp only [aN]
    cases (cs.all Cell.isVal && !cs.isEmpty) <;> rfl
   | false=>cases o.dst <;> rfl
 | build t ps=>simp only [fk,ho];cases C.ty t with
  | none=>rfl
  | some i =>
   simp only
   cases i.kd.agg with
   | false=>rfl
   | true =>
    simp only [aN]
    rw [sM];conv=>rhs;rw [sM]
    cases tJ C i.fields st ps.toList _ aa <;> rfl
 | buildSlice t n ps =>
  simp only [fk,ho]
  split
  ·cases (_ && _:ay) with
   | false=>rfl
   | true =>
    simp only [aN]
    rw [sO];conv=>rhs;rw [sO]
    cases pP C _ _ st ps.toList _ aa with
    | none=>rfl
    | some l=>cases o.dst <;> rfl
  ·rfl
 | load t a=>simp only [fk,ho];exact Du ..
 | store t a x=>simp only [fk,ho];cases o.dst with
  | none=>exact Bo ..
  | some d=>rfl
 | binOp op t x y u =>
  simp only [fk,ho]
  cases C.ty t with
  | none=>rfl
  | some i =>
   simp only
   cases i.kd.agg with
   | true =>
    simp only [aN]
    cases i.eqk with
    | none=>rfl
    | some ks=>exact lift_bind ..
   | false =>
    simp only [bB]
    cases i.kd <;> first | exact lift_bind .. | rfl
 | unOp op t x=>simp only [fk,ho];exact lift_bind ..
 | convert s t x=>simp only [fk,ho];exact Dv ..
 | makeSlice t n c =>
  simp only [fk,ho]
  split
  ·cases (bif _ then _ else _:ak (ai AV)) with
   | none=>rfl
   | some l=>cases o.dst <;> rfl
  ·rfl
 | slice t x lo hi mx=>simp only [fk,ho];exact Bp ..
 | fieldAddr t x i=>simp only [fk,ho];split <;> rfl
 | field t x i =>
  simp only [fk,ho]
  split
  ·rw [eR];conv=>rhs;rw [eR]
   cases cellsOf C t (st.get C x) aa with
   | none=>rfl
   | some cs =>
    simp only [Option.bind_some]
    split
    ·cases bL _ _ <;> rfl
    ·rfl
  ·rfl
 | indexAddr t x i =>
  simp only [fk,ho]
  split
  ·split
   ·cases Nat.beq _ _ with
    | false=>rfl
    | true=>simp only [aN];cases pN _ _ <;> rfl
   ·cases idx _ _ _ <;> rfl
   ·rfl
  ·rfl
 | index t x i =>
  simp only [fk,ho]
  split
  ·exact lift_bind ..
  ·rfl
 | extract x i =>
  simp only [fk,ho]
  cases x with
  | tmp t =>
   simp only
   split
   ·split <;> rfl
   ·exact lift_bind ..
   ·rfl
  | _=>rfl
 | makeFunc fn fi ca =>
  simp only [fk,ho]
  split
  ·rfl
  ·cases sj _ <;> rfl
  ·rfl
 | nilCheck x=>simp only [fk,ho];split <;> rfl
 | call c=>simp only [fk,ho];exact Dw ..
 | _=>simp only [fk,ho];rfl
end
def Ev (p:ax→Prop):Prop:=∃ n0,∀ n,n0≤n→p n
theorem Ev.of {p:ax→Prop} (h:∀ n,p n):Ev p:=⟨0,fun n _=>h n⟩
theorem Ev.mono {p q:ax→Prop} (h:Ev p) (hq:∀ n,p n→q n):Ev q:=by
 obtain ⟨n0,h⟩:=h;exact ⟨n0,fun n hn=>hq n (h n hn)⟩
theorem Ev.and {p q:ax→Prop} (h:Ev p) (k:Ev q):Ev fun n=>p n∧q n:=by
 obtain ⟨a,h⟩:=h;obtain ⟨b,k⟩:=k
 exact ⟨max a b,fun n hn=>⟨h n (Nat.le_trans (Nat.le_max_left ..) hn),k n (Nat.le_trans (Nat.le_max_right ..) hn)⟩⟩
theorem Ev.const {p:Prop} (h:Ev fun _=>p):p:=by obtain ⟨n0,h⟩:=h;exact h n0 (Nat.le_refl _)
theorem Ev.ex {p:ax→Prop} (h:Ev p):∃ n,p n:=by obtain ⟨n0,h⟩:=h;exact ⟨n0,h n0 (Nat.le_refl _)⟩
section
variable {C:jT} {call:ax→ai AV→ak AV} {cs:ax→ax→ai AV→ak AV} {f:ax}
theorem yg (hc:∀ g xs r,call g xs=aa r→Ev fun n=>cs n g xs=aa r) {sg:A4} {g:ax} {xs:ai cQ} {dst:ak ax} {st st':St} (h:jM C call sg g xs dst st aa=aa st'):Ev fun n=>jM C (cs n) sg g xs dst st aa=aa st':=by
 unfold jM at h ⊢
 obtain ⟨sites,h1,h⟩:=aR.1 h
 simp only at h
 generalize hb:(GF sg && (nodup sites && (rZ sites sg.ps xs && (nodup (gw aj (fun i=>sites.getD i 0) (st.oQ (se sg.ps xs ++ gw af (fun i=>sites.getD i 0) st.mem 0 sg.objs)).mem 0 sg.objs) && (C.own g).isEmpty))))=b at h
 cases b with
 | false=>cases h
 | true =>
  simp only [aN] at h
  obtain ⟨ins,h2,h⟩:=aR.1 h
  obtain ⟨res,h3,h⟩:=aR.1 h
  refine (hc _ _ _ h3).mono fun n hn=>?_
  simp only [h1,Option.bind_some,hb,aN,h2,hn]
  exact h
theorem OZ (hc:∀ g xs r,call g xs=aa r→Ev fun n=>cs n g xs=aa r) (o:Oper) (st st':St) (h:fk C call f o st aa=aa st'):Ev fun n=>fk C (cs n) f o st aa=aa st':=by
 cases ho:o.op <;> first
  | (refine Ev.of fun n=>?_;simp only [fk,ho] at h ⊢;exact h;done)
  | skip
 case call c =>
  simp only [fk,ho] at h ⊢
  unfold pQ at h ⊢
  simp only at h ⊢
  split at h
  ·rename_i g hg
   cases jY:C.sig g with
   | some sg =>
    rw [jY] at h
    simp only [hg,jY]
    exact yg hc h
   | none =>
   rw [jY] at h
   simp only at h
   cases ha:(c.args.toList.map (st.get C)).all cQ.told with
   | false=>rw [ha] at h;cases h
   | true =>
    rw [ha] at h
    simp only [aN] at h
    obtain ⟨r,hr,h⟩:=aR.1 h
    refine (hc _ _ _ hr).mono fun n hn=>?_
    simp only [hg,jY,ha,aN,hn,Option.bind_some]
    exact h
  ·rename_i t ht
   split at h
   ·rename_i g ss jz
    cases jY:C.sig g with
    | none=>rw [jY] at h;cases h
    | some sg =>
     rw [jY] at h
     simp only [ht,jz,jY]
     exact yg hc h
   ·rename_i VM
    cases ha:(c.args.toList.map (st.get C)).all cQ.told with
    | false=>rw [ha] at h;cases h
    | true =>
     rw [ha] at h
     simp only [aN] at h
     obtain ⟨g,hg,h⟩:=aR.1 h
     obtain ⟨r,hr,h⟩:=aR.1 h
     unfold vK at hr
     cases hb:((C.sig g).isNone && (C.own g).all Option.isNone) with
     | false=>rw [hb] at hr;cases hr
     | true =>
     rw [hb] at hr
     simp only [aN] at hr
     refine (hc _ _ _ hr).mono fun n hn=>?_
     simp only [aN,hg,Option.bind_some,vK,hb,hn]
     exact h
  ·rename_i b hb
   refine Ev.of fun n=>?_
   (try simp only [hb])
   exact h
  ·cases h
theorem k9 (hc:∀ g xs r,call g xs=aa r→Ev fun n=>cs n g xs=aa r) {ops:bF Oper} {D:ak (ai ax)} :
  ∀ (m:ax) {R:Type} (ctx:ak (ax×ay)) (l:ai (ax×ay)) (st:St) (K:St→ak R) (Ks:ax→St→ak R) (r:R),(∀ st r,K st=aa r→Ev fun n=>Ks n st=aa r) →
   jn C call f ops D m ctx l st K=aa r→Ev fun n=>jn C (cs n) f ops D m ctx l st (Ks n)=aa r
 | 0,R,ctx,l,st,K,Ks,r,hK,h=>by cases h
 | m+1,R,ctx,[],st,K,Ks,r,hK,h=>hK st r h
 | m+1,R,ctx,i :: l,st,K,Ks,r,hK,h=>by
  simp only [jn] at h ⊢
  cases hlt:bI i.1 ops.size with
  | false=>rw [hlt] at h;cases h
  | true =>
   simp only [hlt,df,bB] at h ⊢
   cases Vp:vL (opAt ops i.1).guard ctx with
   | true =>
    simp only [Vp,aN] at h ⊢
    cases kf:A5 C i.1 (opAt ops i.1) i.2 D st with
    | false=>rw [kf] at h;cases h
    | true =>
     simp only [kf,aN] at h ⊢
     rw [Ah] at h
     obtain ⟨st',h1,h2⟩:=aR.1 h
     refine ((OZ hc _ _ _ h1).and (k9 hc m _ l st' K Ks r hK h2)).mono fun n hn=>?_
     rw [Ah,hn.1]
     exact hn.2
   | false =>
    simp only [Vp,bB] at h ⊢
    split at h
    ·cases h
    rename_i j want hg
    split at h
    ·cases h
    rename_i d pM
    split at h
    case h_2=>cases h
    rename_i pR p A B rest hcut
    cases hh:(hangs C ops aj j want d pR [] && bI p.1 ops.size) with
    | false =>
     rw [hh] at h
     simp only [bB] at h
     cases GV:(hangs C ops af j want d pR [] && bI p.1 ops.size) with
     | false=>rw [GV] at h;cases h
     | true =>
      rw [GV] at h
      simp only [aN] at h
      have k1:∀ r,jn C call f ops D m (aa (j,want)) pR st (fun st=>jn C call f ops D m ctx rest (st.put (opAt ops p.1).dst (st.get C (bif want then A else B))) K)=aa r →
        Ev fun n=>jn C (cs n) f ops D m (aa (j,want)) pR st (fun st=>jn C (cs n) f ops D m ctx rest (st.put (opAt ops p.1).dst (st.get C (bif want then A else B))) (Ks n))=aa r :=
       fun r h=>k9 hc m _ pR st _ (fun n st=>jn C (cs n) f ops D m ctx rest (st.put (opAt ops p.1).dst (st.get C (bif want then A else B))) (Ks n)) r (fun st r h=>k9 hc m _ rest _ K Ks r hK h) h
      have k2:∀ r,jn C call f ops D m ctx rest ((st.lv (pR.filterMap fun i=>fy ops i.1)).put (opAt ops p.1).dst (st.get C (bif want then B else A))) K=aa r →
        Ev fun n=>jn C (cs n) f ops D m ctx rest ((st.lv (pR.filterMap fun i=>fy ops i.1)).put (opAt ops p.1).dst (st.get C (bif want then B else A))) (Ks n)=aa r :=
       fun r h=>k9 hc m _ rest _ K Ks r hK h
      unfold EG a8 at h
      cases want with
      | true =>
       simp only [aN] at h
       split at h
       ·rename_i x hx
        cases x with
        | true=>exact (k1 r h).mono fun n hn=>by simp only [pM,hcut,hh,GV,bB,aN];unfold EG a8;rw [hx];exact hn
        | false=>exact (k2 r h).mono fun n hn=>by simp only [pM,hcut,hh,GV,bB,aN];unfold EG a8;rw [hx];exact hn
       ·cases h
      | false =>
       simp only [bB] at h
       split at h
       ·rename_i x hx
        cases x with
        | true=>exact (k2 r h).mono fun n hn=>by simp only [pM,hcut,hh,GV,bB,aN];unfold EG a8;rw [hx];exact hn
        | false=>exact (k1 r h).mono fun n hn=>by simp only [pM,hcut,hh,GV,bB,aN];unfold EG a8;rw [hx];exact hn
       ·cases h
    | true =>
     rw [hh] at h
     simp only [aN] at h
     obtain ⟨v,hv,h⟩:=aR.1 h
     have aaj:Ev fun n=>bt (st.env d).cP want (jn C (cs n) f ops D m (aa (j,want)) pR st fun st=>aa (st.get C (bif want then A else B)).cP) (st.get C (bif want then B else A)).cP=aa v:=by
      unfold bt at hv ⊢
      split at hv
      ·rename_i x hx
       (try simp only [hx])
       cases I9:(x == want) with
       | true =>
        simp only [I9,aN] at hv ⊢
        split at hv
        ·rename_i y hy
         refine (k9 hc m _ pR st _ (fun _ st=>aa (st.get C (bif want then A else B)).cP) _ (fun st r h=>Ev.of fun _=>h) hy).mono fun n hn=>?_
         rw [hn]
         exact hv
        ·cases hv
       | false =>
        simp only [I9,bB] at hv ⊢
        exact Ev.of fun _=>hv
      ·cases hv
     refine (aaj.and (k9 hc m _ rest _ K Ks r hK h)).mono fun n hn=>?_
     simp only [pM,hcut,hh,aN,hn.1,Option.bind_some]
     exact hn.2
theorem EZ {R:Type} {A B:ak R} {r:R} (h:agree A B=aa r):A=aa r∧B=aa r:=by
 unfold agree at h
 split at h
 ·rename_i e;exact ⟨h,e ▸ h⟩
 ·cases h
theorem KV {R:Type} {A B:ak R} {r:R} (h1:A=aa r) (h2:B=aa r):agree A B=aa r:=by
 unfold agree
 rw [h1,h2,aJ rfl]
@[simp] theorem xb {R:Type} (A:ak R):same A=A:=by
 unfold same agree
 rw [aJ rfl]
theorem q9 (hc:∀ g xs r,call g xs=aa r→Ev fun n=>cs n g xs=aa r) {R:Type} {ops:bF Oper} {D:ak (ai ax)} {m:ax} {K:St→ak R} {Ks:ax→St→ak R} (hK:∀ st r,K st=aa r→Ev fun n=>Ks n st=aa r) :
  ∀ (T:pO) {st:St} {r:R},lG C call f ops D m T st K=aa r→Ev fun n=>lG C (cs n) f ops D m T st (Ks n)=aa r
 | .done,st,r,h=>hK st r h
 | .seq l t,st,r,h=>k9 hc m _ l st _ (fun n st=>lG C (cs n) f ops D m t st (Ks n)) r (fun st r h=>q9 hc hK t h) h
 | .fork i x j y,st,r,h=>by
  simp only [lG] at h ⊢
  obtain ⟨h1,h2⟩:=EZ h
  have k1:=k9 hc m _ [(i,af)] st _ (fun n st=>lG C (cs n) f ops D m x st (Ks n)) r (fun st r h=>q9 hc hK x h) h1
  have k2:=k9 hc m _ [(j,af)] st _ (fun n st=>lG C (cs n) f ops D m y st (Ks n)) r (fun st r h=>q9 hc hK y h) h2
  exact (k1.and k2).mono fun n hn=>KV hn.1 hn.2
theorem Dx (hc:∀ g xs r,call g xs=aa r→Ev fun n=>cs n g xs=aa r) {R:Type} {IY:ax} {ops:bF Oper} {draw:ay} {st:St} {K:St→ak R} {Ks:ax→St→ak R} {r:R} (hK:∀ st r,K st=aa r→Ev fun n=>Ks n st=aa r)
  (h:nj C call f IY ops draw st K=aa r):Ev fun n=>nj C (cs n) f IY ops draw st (Ks n)=aa r:=by
 unfold nj at h ⊢
 cases draw with
 | false =>
  simp only [bB] at h ⊢
  exact k9 hc _ _ _ _ _ _ _ hK h
 | true =>
  simp only [aN] at h ⊢
  split at h
  ·rename_i p hp
   (try simp only [hp])
   exact q9 hc hK p.1 h
  ·cases h
theorem Bq (hc:∀ g xs r,call g xs=aa r→Ev fun n=>cs n g xs=aa r) {fn:Func} {go:ai Item→St→ak AV} {gos:ax→ai Item→St→ak AV} (hgo:∀ k st r,go k st=aa r→Ev fun n=>gos n k st=aa r)
  {k:ai Item} {st:St} {r:AV} (h:step C call f fn go k st=aa r):Ev fun n=>step C (cs n) f fn (gos n) k st=aa r:=by
 cases k with
 | nil=>exact Ev.of fun _=>h
 | cons it k =>
  cases it with
  | inBlock id=>exact hgo _ _ _ h
  | inScope c=>exact hgo _ _ _ h
  | inLoop c=>exact hgo _ _ _ h
  | code c =>
   cases c with
   | skip=>exact hgo _ _ _ h
   | label l=>exact hgo _ _ _ h
   | loop c=>exact hgo _ _ _ h
   | seq x y=>exact hgo _ _ _ h
   | block id c=>exact hgo _ _ _ h
   | scope c=>exact hgo _ _ _ h
   | ret=>exact Ev.of fun _=>h
   | exit id =>
    simp only [step] at h ⊢
    split at h
    ·rename_i k' he;(try simp only [he]);exact hgo _ _ _ h
    ·cases h
   | goto l =>
    simp only [step] at h ⊢
    split at h
    ·rename_i k' he;(try simp only [he]);exact hgo _ _ _ h
    ·cases h
   | cond c x y =>
    simp only [step,a8] at h ⊢
    split at h
    ·rename_i q hq
     (try simp only [hq])
     cases q with
     | true=>exact hgo _ _ _ h
     | false=>exact hgo _ _ _ h
    ·cases h
   | region id ops draw =>
    simp only [step] at h ⊢
    exact Dx hc (fun st r h=>hgo k st r h) h
   | _=>cases h
  | _=>cases h
theorem KW {go:ai Item→St→ak AV} {gos:ax→ai Item→St→ak AV} (hgo:∀ k st r,go k st=aa r→Ev fun n=>gos n k st=aa r) {k:ai Item} {st:St} {r:AV} (h:arr C f go k st=aa r):Ev fun n=>arr C f (gos n) k st=aa r:=by
 unfold arr at h ⊢
 split at h
 ·rename_i l s hl;(try simp only [hl]);exact hgo _ _ _ h
 ·rename_i hl;(try simp only [hl]);exact hgo _ _ _ h
end
section
open Classical
noncomputable def aq (C:jT) (P:bn) (g:ax) (xs:ai AV):ak AV:=if h:∃ r,Ev fun n=>(both C P n).1 g xs=aa r then aa (choose h) else ah
noncomputable def a7 (C:jT) (P:bn) (f:ax) (fn:Func) (k:ai Item) (st:St):ak AV:=if h:∃ r,Ev fun n=>(both C P n).2 f fn k st=aa r then aa (choose h) else ah
variable {C:jT} {P:bn}
theorem o6 {g:ax} {xs:ai AV} {r:AV} (h:aq C P g xs=aa r):Ev fun n=>(both C P n).1 g xs=aa r:=by
 unfold aq at h
 split at h
 ·rename_i hh
  have:=choose_spec hh
  cases h
  exact this
 ·cases h
theorem wh {f:ax} {fn:Func} {k:ai Item} {st:St} {r:AV} (h:a7 C P f fn k st=aa r):Ev fun n=>(both C P n).2 f fn k st=aa r:=by
 unfold a7 at h
 split at h
 ·rename_i hh
  have:=choose_spec hh
  cases h
  exact this
 ·cases h
theorem sQ {g:ax} {xs:ai AV} {r:AV} (h:Ev fun n=>(both C P n).1 g xs=aa r):aq C P g xs=aa r:=by
 have hh:∃ r,Ev fun n=>(both C P n).1 g xs=aa r:=⟨r,h⟩
 unfold aq
 rw [dif_pos hh]
 obtain ⟨n,h1,h2⟩:=((choose_spec hh).and h).ex
 rw [← h1];exact h2
theorem Jd {f:ax} {fn:Func} {k:ai Item} {st:St} {r:AV} (h:Ev fun n=>(both C P n).2 f fn k st=aa r):a7 C P f fn k st=aa r:=by
 have hh:∃ r,Ev fun n=>(both C P n).2 f fn k st=aa r:=⟨r,h⟩
 unfold a7
 rw [dif_pos hh]
 obtain ⟨n,h1,h2⟩:=((choose_spec hh).and h).ex
 rw [← h1];exact h2
theorem Ev.succ {p:ax→Prop} (h:Ev fun n=>p (n+1)):Ev p:=by
 obtain ⟨n0,h⟩:=h
 refine ⟨n0+1,fun n hn=>?_⟩
 obtain ⟨m,rfl⟩:∃ m,n=m+1:=⟨n - 1,by omega⟩
 exact h m (by omega)
theorem wj {f:ax} {fn:Func} {k:ai Item} {st:St} {r:AV} (h:step C (aq C P) f fn (arr C f (a7 C P f fn)) k st=aa r):a7 C P f fn k st=aa r :=
 Jd (Ev.succ (Bq (cs:=fun n=>(both C P n).1) (gos:=fun n=>arr C f ((both C P n).2 f fn)) (fun _ _ _ h=>o6 h) (fun _ _ _ h=>KW (gos:=fun n=>(both C P n).2 f fn) (fun _ _ _ h=>wh h) h) h))
noncomputable def SX (C:jT) (call:ax→ai AV→ak AV) (run:ai Item→St→ak AV) (f:ax) (fn:Func):ax→ai Item→St→ak AV
 | 0,_,_=>ah
 | n+1,k,st=>match Kg C f k with
  | some (l,s)=>run k (st.canon l s)
  | none=>step C call f fn (SX C call run f fn n) k st
theorem E0 {f:ax} {fn:Func}:∀ (n:ax) {k:ai Item} {st:St} {r:AV},SX C (aq C P) (a7 C P f fn) f fn n k st=aa r→arr C f (a7 C P f fn) k st=aa r
 | 0,k,st,r,h=>by cases h
 | n+1,k,st,r,h=>by
  simp only [SX] at h
  unfold arr
  split at h
  ·rename_i l s hl;simp only [hl];exact h
  ·rename_i hl
   simp only [hl]
   refine wj ?_
   exact (Bq (cs:=fun _=>aq C P) (gos:=fun _=>arr C f (a7 C P f fn)) (fun _ _ _ h=>Ev.of fun _=>h) (fun _ _ _ h=>Ev.of fun _=>E0 n h) h).const
theorem E1 {f:ax} {fn:Func} (n:ax) {k:ai Item} {st:St} {r:AV} (h:step C (aq C P) f fn (SX C (aq C P) (a7 C P f fn) f fn n) k st=aa r):a7 C P f fn k st=aa r :=
 wj (Bq (cs:=fun _=>aq C P) (gos:=fun _=>arr C f (a7 C P f fn)) (fun _ _ _ h=>Ev.of fun _=>h) (fun _ _ _ h=>Ev.of fun _=>E0 n h) h).const
theorem Dy {g:ax} {fn:Func} {c:Code} (hfn:P.funcs[g]?=aa fn) (hb:fn.body=aa c) (n:ax) {xs:ai AV} {r:AV} (hl:rN C g fn.ntmps xs.length=aj) (h:SX C (aq C P) (a7 C P g fn) g fn n [.code c] (rM C g fn.ntmps xs)=aa r) (CY:C.gv g=ah:=by rfl):aq C P g xs=aa r:=by
 refine sQ (Ev.succ ?_)
 have h1:=KW (C:=C) (f:=g) (gos:=fun n=>(both C P n).2 g fn) (fun _ _ _ h=>wh h) (E0 n h)
 refine h1.mono fun n hn=>?_
 show (match C.gv g with
   | some G=>bif (C.own g).all Option.isNone && (C.sig g).isNone then G xs else ah
   | none=>match P.funcs[g]? with
    | some fn=>match fn.body with
     | some c=>bif rN C g fn.ntmps xs.length then arr C g ((both C P n).2 g fn) [.code c] (rM C g fn.ntmps xs) else ah
     | none=>bif (C.own g).all Option.isNone && (C.sig g).isNone then ext fn.name xs else ah
    | none=>ah)=aa r
 rw [CY]
 simp only
 rw [hfn]
 simp only [hb,hl,aN]
 exact hn
theorem Dz {g:ax} {fn:Func} (hfn:P.funcs[g]?=aa fn) (hb:fn.body=ah) (ho:((C.own g).all Option.isNone && (C.sig g).isNone)=aj) {xs:ai AV} {r:AV} (h:ext fn.name xs=aa r) (CY:C.gv g=ah:=by rfl):aq C P g xs=aa r:=by
 refine sQ (Ev.succ (Ev.of fun n=>?_))
 show (match C.gv g with
   | some G=>bif (C.own g).all Option.isNone && (C.sig g).isNone then G xs else ah
   | none=>match P.funcs[g]? with
    | some fn=>match fn.body with
     | some c=>bif rN C g fn.ntmps xs.length then arr C g ((both C P n).2 g fn) [.code c] (rM C g fn.ntmps xs) else ah
     | none=>bif (C.own g).all Option.isNone && (C.sig g).isNone then ext fn.name xs else ah
    | none=>ah)=aa r
 rw [CY]
 simp only
 rw [hfn]
 simp only [hb,ho,aN]
 exact h
theorem o7 {g:ax} {G:ai AV→ak AV} (CY:C.gv g=aa G) (ho:((C.own g).all Option.isNone && (C.sig g).isNone)=aj) {xs:ai AV} {r:AV} (h:G xs=aa r):aq C P g xs=aa r:=by
 refine sQ (Ev.succ (Ev.of fun n=>?_))
 show (match C.gv g with
   | some G=>bif (C.own g).all Option.isNone && (C.sig g).isNone then G xs else ah
   | none=>match P.funcs[g]? with
    | some fn=>match fn.body with
     | some c=>bif rN C g fn.ntmps xs.length then arr C g ((both C P n).2 g fn) [.code c] (rM C g fn.ntmps xs) else ah
     | none=>bif (C.own g).all Option.isNone && (C.sig g).isNone then ext fn.name xs else ah
    | none=>ah)=aa r
 rw [CY]
 simp only [ho,aN]
 exact h
theorem nx (kp:Fit C P):oq C P (aq C P) :=
 ⟨fun g xs r h hs=>by
  obtain ⟨n,hn⟩:=(o6 h).ex
  exact (Bn kp n).1.1 g xs r hn hs,
 fun g sg xs r h hs=>by
  obtain ⟨n,hn⟩:=(o6 h).ex
  exact (Bn kp n).1.2 g sg xs r hn hs⟩
end
abbrev bj:=ax→ai AV→ak AV
abbrev RunT:=ai Item→St→ak AV
def o8 {α:Type}:ai (ax×α)→ax→ak α
 | [],_=>ah
 | p :: r,t=>bif Nat.beq p.1 t then aa p.2 else o8 r t
def GX {α:Type}:ai ((ax×ax)×α)→ax→ax→ak α
 | [],_,_=>ah
 | p :: r,f,t=>bif Nat.beq p.1.1 f && Nat.beq p.1.2 t then aa p.2 else GX r f t
def KX (ty:ai (ax×Ty)) (IW:ai ((ax×ax)×(pO×ai ax))) (stops:ai (ax×ai (ax×ai (ax×ak (ax×ax))×ai (ax×ai (ax×ax×ax))))) (own:ai (ax×ai (ak (ax×ax))))
  (zS:ai (ax×ai ax)) (glob:ax→ak (ax×AV)) (sig:ai (ax×A4)) (gv:ax→ak (ai AV→ak AV):=fun _=>ah) (pt:ax→ay:=fun _=>af):jT where
 ty:=o8 ty
 own:=fun f=>(o8 own f).getD []
 stops:=fun f=>(o8 stops f).getD []
 IW:=GX IW
 zS:=fun f t=>((o8 zS f).getD []).any (Nat.beq t)
 glob:=glob
 sig:=o8 sig
 gv:=gv
 pt:=pt
def eV (IY:ax):Code→ai Item→ak (ai Item)
 | .region id ops d,k=>bif Nat.beq id IY then aa (.code (.region id ops d) :: k) else ah
 | .seq a b,k=>match eV IY a (.code b :: k) with
  | some r=>aa r
  | none=>eV IY b k
 | .cond _ a b,k=>match eV IY a k with
  | some r=>aa r
  | none=>eV IY b k
 | .block id c,k=>eV IY c (.inBlock id :: k)
 | .loop c,k=>eV IY c (.inLoop c :: k)
 | .scope c,k=>eV IY c (.inScope c :: k)
 | _,_=>ah
def avB:AV→AV→ay
 | .un,.un=>aj
 | .b x,.b y=>x == y
 | .u8 x,.u8 y=>Nat.beq x.toNat y.toNat
 | .int x,.int y=>decide (x=y)
 | .ik k x,.ik k' y=>decide (k=k') && decide (x=y)
 | .s [],.s []=>aj
 | .cd,.cd=>aj
 | .xK,.xK=>aj
 | .kY,.kY=>aj
 | _,_=>af
theorem SY {a b:AV} (h:avB a b=aj):a=b:=by
 unfold avB at h
 split at h
 ·rfl
 ·rename_i x y;have:x=y:=by simpa using h
  rw [this]
 ·rw [bP.1 (aF h)]
 ·rw [cu h]
 ·rw [Bool.and_eq_true] at h
  rw [cu h.1,cu h.2]
 ·rfl
 ·rfl
 ·rfl
 ·rfl
 ·cases h
def O0:ai AV→ai AV→ay
 | [],[]=>aj
 | x :: xs,y :: ys=>avB x y && O0 xs ys
 | _,_=>af
theorem GY:∀ {l m:ai AV},O0 l m=aj→l=m
 | [],[],_=>rfl
 | x :: xs,y :: ys,h=>by
  simp only [O0,Bool.and_eq_true] at h
  rw [SY h.1,GY h.2]
 | [],y :: ys,h=>by cases h
 | x :: xs,[],h=>by cases h
def xc:ai Field→ai (ax×ax)→ay
 | [],[]=>aj
 | f :: fs,p :: ps=>Nat.beq f.offset p.1 && Nat.beq f.type p.2 && xc fs ps
 | _,_=>af
theorem yh:∀ {l:ai Field} {m:ai (ax×ax)},xc l m=aj→l.map (fun f=>(f.offset,f.type))=m
 | [],[],_=>rfl
 | f :: fs,p :: ps,h=>by
  simp only [xc,Bool.and_eq_true] at h
  simp only [List.map_cons]
  rw [yh h.2,aF h.1.1,aF h.1.2]
 | [],_ :: _,h=>by cases h
 | _ :: _,[],h=>by cases h
def ekB (P:bn) (t:TypeId):EK→ay
 | .b=>match P.underlying t with | some .bool=>aj | _=>af
 | .i=>match P.underlying t with | some (.int _)=>aj | _=>af
 | .s=>match P.underlying t with | some .string=>aj | _=>af
theorem SZ {P:bn} {t:TypeId} {k:EK} (h:ekB P t k=aj):Kt P t k:=by
 cases k <;> simp only [ekB] at h <;> split at h <;> first | (cases h;done) | skip
 ·rename_i hu;exact hu
 ·rename_i k hu;exact ⟨k,hu⟩
 ·rename_i hu;exact hu
def Jf (P:bn):ax→ai Field→ai EK→ay
 | _,[],[]=>aj
 | n,f :: fs,k :: ks=>Nat.beq f.offset n && !(f.name == "_") && ekB P f.type k && Jf P (n+1) fs ks
 | _,_,_=>af
theorem GZ {P:bn}:∀ {n:ax} {fs:ai Field} {ks:ai EK},Jf P n fs ks=aj→fs.length=ks.length∧∀ (j:ax) (f:Field) (k:EK),fs[j]?=aa f→ks[j]?=aa k→f.offset=n+j∧f.name ≠ "_" ∧ Kt P f.type k
 | n,[],[],_=>⟨rfl,fun j f k h=>by simp at h⟩
 | n,f :: fs,k :: ks,h=>by
  simp only [Jf,Bool.and_eq_true] at h
  obtain ⟨⟨⟨h1,h2⟩,h3⟩,h4⟩:=h
  obtain ⟨q1,q2⟩:=GZ h4
  refine ⟨by simp [q1],fun j f' k' hf hk=>?_⟩
  cases j with
  | zero =>
   simp at hf hk
   subst hf hk
   exact ⟨aF h1,by simpa using h2,SZ h3⟩
  | succ j =>
   obtain ⟨a,b⟩:=q2 j f' k' (by simpa using hf) (by simpa using hk)
   exact ⟨by omega,b⟩
 | n,[],_ :: _,h=>by simp [Jf] at h
 | n,_ :: _,[],h=>by simp [Jf] at h
def kdB (P:bn) (t:TypeId) (i:Ty):ay :=
 match i.kd,P.underlying t with
 | .bool,aa .bool=>aj
 | .int k,aa (.int k')=>decide (k=k')
 | .str,aa .string=>aj
 | .slice,aa (.slice e)=>Nat.beq e i.elem
 | .struct,aa (.struct fs)=>xc fs.toList i.fields && fs.toList.all fun f=>match P.info? f.type with | some inf=>!Nat.beq inf.size 0 | none=>af
 | .ptr,aa (.pointer _)=>aj
 | .func,aa (.struct _) | .func,aa (.array _ _) | .other,aa (.struct _) | .other,aa (.array _ _)=>af
 | .func,aa _ | .other,aa _=>aj
 | _,_=>af
def S0 (P:bn) (t:TypeId) (i:Ty):ay :=
 (match P.info? t with
  | some inf=>Nat.beq inf.size i.size && Nat.beq inf.bytes i.bytes && (match inf.zero with
   | some z=>O0 (z.cells.toList.map JZ) i.zero && Nat.beq z.cells.size i.size && z.cells.toList.all Value.oneCell'
   | none=>af)
  | none=>af) && kdB P t i && bI 0 i.size && bI 0 i.bytes && (i.kd.agg || Nat.beq i.size 1) && (match i.kd with | .struct=>aj | _=>i.fields.isEmpty) &&
 (match i.eqk with
  | none=>aj
  | some ks=>!P.stoodInHeld t && !P.eqGuardType P.depth t && (match P.underlying t with | some (.struct fs)=>Jf P 0 fs.toList ks | _=>af))
theorem S1 {P:bn} {t:TypeId} {i:Ty} (h:S0 P t i=aj):gS P t i:=by
 unfold S0 at h
 simp only [Bool.and_eq_true] at h
 obtain ⟨⟨⟨⟨⟨⟨h1,h2⟩,h3⟩,h4⟩,h5⟩,h6⟩,h7⟩:=h
 refine { info:=?_,und:=?_,pos:=⟨by unfold bI at h3;exact aU h3,by unfold bI at h4;exact aU h4⟩,one:=fun hh=>?_,fieldsOnly:=fun hh=>?_,eqOk:=fun ks hk=>?_ }
 ·split at h1
  ·rename_i inf S3
   simp only [Bool.and_eq_true] at h1
   obtain ⟨⟨q1,q2⟩,q3⟩:=h1
   split at q3
   ·rename_i z hz
    simp only [Bool.and_eq_true] at q3
    exact ⟨inf,z,S3,aF q1,aF q2,hz,GY q3.1.1,aF q3.1.2,fun v hv=>List.all_eq_true.1 q3.2 v hv⟩
   ·cases q3
  ·cases h1
 ·unfold kdB at h2
  cases hk:i.kd <;> rw [hk] at h2 <;> cases hu:P.underlying t <;> rw [hu] at h2 <;> simp only at h2 ⊢ <;> first | (cases h2;done) | skip
  all_goals rename_i d
  all_goals cases d <;> simp only at h2 <;> first | (cases h2;done) | skip
  all_goals first
   | rfl
   | (rw [cu h2];done)
   | (rw [aF h2];done)
   | exact ⟨_,rfl,rfl⟩
   | exact ⟨_,rfl⟩
   | skip
  rename_i fs
  rw [Bool.and_eq_true] at h2
  refine ⟨fs,rfl,yh h2.1,fun f hf=>?_⟩
  have:=List.all_eq_true.1 h2.2 f hf
  split at this
  ·rename_i inf S3
   refine ⟨inf,S3,fun e=>?_⟩
   rw [e] at this
   cases this
  ·cases this
 ·rw [hh,eu] at h5
  exact aF h5
 ·cases hk:i.kd <;> rw [hk] at h6 hh <;> first | exact absurd rfl hh | exact List.isEmpty_iff.1 h6
 ·rw [hk] at h7
  simp only [Bool.and_eq_true,Bool.not_eq_true'] at h7
  obtain ⟨⟨q1,q2⟩,q3⟩:=h7
  split at q3
  ·rename_i fs hu
   obtain ⟨z1,z2⟩:=GZ q3
   exact { stood:=q1,guard:=q2,fields:=⟨fs,hu,by simpa using z1,fun j f k h1 h2=>by have:=z2 j f k h1 h2;simpa using this⟩ }
  ·cases q3
theorem S4 {P:bn} {l:ai (ax×Ty)} (h:l.all (fun p=>S0 P p.1 p.2)=aj):∀ t i,o8 l t=aa i→gS P t i:=by
 induction l with
 | nil=>intro t i hi;cases hi
 | cons p r ih =>
  simp only [List.all_cons,Bool.and_eq_true] at h
  intro t i hi
  simp only [o8] at hi
  cases hb:Nat.beq p.1 t with
  | true =>
   rw [hb] at hi
   simp only [aN,Option.some.injEq] at hi
   rw [← aF hb,← hi]
   exact S1 h.1
  | false=>rw [hb] at hi;exact ih h.2 t i hi
def fnB (C:jT) (f:ax) (fn:Func):ay :=
 match fn.body with
 | some c=>lx (uW C f fn.ntmps) c && !(fn.name == "runtime.NumGoroutine")
 | none=>aj
def E2 (C:jT):ax→ai Func→ay
 | _,[]=>aj
 | n,fn :: r=>fnB C n fn && E2 C (n+1) r
theorem G0 {C:jT}:∀ {n:ax} {l:ai Func},E2 C n l=aj→∀ (j:ax) (fn:Func),l[j]?=aa fn→fnB C (n+j) fn=aj
 | n,[],_,j,fn,h=>by simp at h
 | n,g :: r,h,j,fn,hf=>by
  simp only [E2,Bool.and_eq_true] at h
  cases j with
  | zero=>simp at hf;subst hf;exact h.1
  | succ j =>
   have:=G0 h.2 j fn (by simpa using hf)
   rw [show n+1+j=n+(j+1) by omega] at this
   exact this
theorem Fit.of {C:jT} {P:bn} {tab:ai (ax×Ty)} (hC:C.ty=o8 tab) (h1:tab.all (fun p=>S0 P p.1 p.2)=aj) (h2:E2 C 0 P.funcs.toList=aj) (h3:P.follows .mixedOrders=aj)
  (h4:∀ (f:ax) (fn:Func),P.funcs[f]?=aa fn→fn.body=ah→(fn.name == "internal/bytealg.IndexByteString")=aj→∀ (s:aL) (c:aB) (w:az),(callFunc f #[.string s,.int .u8 c]).run P w=.ok (.value (.int .i64 (bH s.data.toList c.toNat.toUInt8))) w)
  (h5:∀ (g:ax) (G:ai AV→ak AV),C.gv g=aa G→(C.own g).all Option.isNone=aj→∀ (args:ai AV) (r:AV),G args=aa r→∀ (w:az) (F:ax→Prop) (vs:bF aC),cG C w F→vs.size=args.length →
   (∀ (j:ax) (a:AV) (v:aC),args[j]?=aa a→vs[j]?=aa v→Rel w F a v)→kZ P g vs w (np C g w F r):=by intro g G h;exact nomatch (show (ah:ak (ai AV→ak AV))=aa G from h)):Fit C P:=by
 have hf:∀ (f:ax) (fn:Func) (c:Code),P.funcs[f]?=aa fn→fn.body=aa c→lx (uW C f fn.ntmps) c=aj∧(fn.name == "runtime.NumGoroutine")=af:=by
  intro f fn c hfn hb
  have:=G0 h2 f fn (by rw [Array.getElem?_toList];exact hfn)
  rw [Nat.zero_add] at this
  unfold fnB at this
  rw [hb] at this
  simp only [Bool.and_eq_true,Bool.not_eq_true'] at this
  exact this
 exact { ty:=fun t i hi=>S4 h1 t i (by rw [← hC];exact hi),code:=fun f fn c h1 h2=>(hf f fn c h1 h2).1,mixed:=h3,name:=fun f fn c h1 h2=>(hf f fn c h1 h2).2,gv:=h5,ext:=h4 }
def KY (n:ax):ax→ai Func→ay
 | _,[]=>aj
 | m,fn :: r=>(fn.body.isSome || !(fn.name == "internal/bytealg.IndexByteString") || Nat.beq m n) && KY n (m+1) r
theorem G1 {n:ax}:∀ {m:ax} {l:ai Func},KY n m l=aj→∀ (j:ax) (fn:Func),l[j]?=aa fn→fn.body=ah→(fn.name == "internal/bytealg.IndexByteString")=aj→m+j=n
 | m,[],_,j,fn,h,_,_=>by simp at h
 | m,g :: r,h,j,fn,hf,hb,hn=>by
  simp only [KY,Bool.and_eq_true] at h
  cases j with
  | zero =>
   simp at hf
   subst hf
   have:=h.1
   rw [hb,hn] at this
   simp only [Option.isSome_none,df,Bool.or_self,eu] at this
   exact aF this
  | succ j =>
   have:=G1 h.2 j fn (by simpa using hf) hb hn
   omega
theorem E3 {P:bn} {n:ax} (hall:KY n 0 P.funcs.toList=aj) (hrun:∀ (s:aL) (c:aB) (w:az),(callFunc n #[.string s,.int .u8 c]).run P w=.ok (.value (.int .i64 (bH s.data.toList c.toNat.toUInt8))) w) :
  ∀ (f:ax) (fn:Func),P.funcs[f]?=aa fn→fn.body=ah→(fn.name == "internal/bytealg.IndexByteString")=aj→∀ (s:aL) (c:aB) (w:az),(callFunc f #[.string s,.int .u8 c]).run P w=.ok (.value (.int .i64 (bH s.data.toList c.toNat.toUInt8))) w:=by
 intro f fn hfn hb hn
 have:=G1 hall f fn (by rw [Array.getElem?_toList];exact hfn) hb hn
 rw [Nat.zero_add] at this
 rw [this]
 exact hrun
theorem O1 {P:bn} {n:ax} {fn:Func} (h1:P.funcs[n]?=aa fn) (h2:(fn.name == "runtime.NumGoroutine")=af) (h3:fn.body=ah) (h4:(Extern.findNext fn).isNone=aj) (h5:Extern.find fn=aa ja) (s:aL) (c:aB) (w:az) :
  (callFunc n #[.string s,.int .u8 c]).run P w=.ok (.value (.int .i64 (bH s.data.toList c.toNat.toUInt8))) w:=by
 have h2':¬ fn.name = "runtime.NumGoroutine" := by simpa using h2
 have h4':Extern.findNext fn=ah:=by simpa using h4
 simp [callFunc,h1,h2',h3,h4',h5,Lib.run_indexByteString]
end Sx
namespace Sx
open Go Go.RowKit
theorem E4 {C:jT} {P:bn} (kp:Fit C P) {g:ax} {fn:Func} {c:Code} (hfn:P.funcs[g]?=aa fn) (hb:fn.body=aa c) (ho:(C.own g).all Option.isNone=aj) (hs:C.sig g=ah) {args:ai AV} {b:ay} (h:aq C P g args=aa (.b b))
  (w:az) (F:ax→Prop) (vs:bF aC) (hG:cG C w F) (hl:vs.size=args.length) (hv:∀ (j:ax) (a:AV) (v:aC),args[j]?=aa a→vs[j]?=aa v→Rel w F a v) :
  Calls P g vs w (fun e w'=>e=.returned (.bool b)∧Below w.heap.size w w'):=by
 have hname:=kp.name g fn c hfn hb
 rcases (nx kp).1 g args _ h hs w F vs hG hl hv with ⟨fn',c',_,_,_,hc⟩ | ⟨v,hv',_⟩
 ·refine Calls.mono hc fun e w' he=>?_
  obtain ⟨v,rfl,hx,hr⟩:=he
  unfold mG at hr
  rw [aJ ho] at hr
  cases hr
  exact ⟨rfl,⟨hx.os,hx.tape,hx.output,hx.size,hx.block⟩⟩
 ·exfalso
  have sH:¬ fn.name = "runtime.NumGoroutine" := by simpa using hname
  simp [callFunc,hfn,hb,sH] at hv'
end Sx
namespace Sx
open Go
variable {C:jT} {P:bn}
end Sx
namespace Sx
open Go
section cond
variable {R:Type}
@[simp] theorem ba (x:ay) (A B:ak R):a8 (.b x) A B=if x=aj then A else B:=by cases x <;> rfl
@[simp] theorem nV (b:ay) (A:AV):bt (.b aj) aj (aa (.b b)) A=aa (.b b):=rfl
@[simp] theorem lL (A:ak AV) (b:ay):bt (.b af) aj A (.b b)=aa (.b b):=rfl
@[simp] theorem YZ (b:ay) (A:AV):bt (.b af) af (aa (.b b)) A=aa (.b b):=rfl
@[simp] theorem Y0 (A:ak AV) (b:ay):bt (.b aj) af A (.b b)=aa (.b b):=rfl
@[simp] theorem b9 (x y:ay):bt (.b x) aj (aa (.b y)) (.b af)=aa (.b (x && y)):=by cases x <;> rfl
@[simp] theorem cy (x y:ay):bt (.b x) af (aa (.b y)) (.b aj)=aa (.b (x || y)):=by cases x <;> rfl
end cond
section one
@[simp] theorem jZ (x:ae):AV.one (.u8 x)=aa (.u8 x):=rfl
@[simp] theorem KZ (x:ay):AV.one (.b x)=aa (.b x):=rfl
@[simp] theorem kK (x:aB):AV.one (.int x)=aa (.int x):=rfl
@[simp] theorem aak (k:dP) (x:aB):AV.one (.ik k x)=aa (.ik k x):=rfl
@[simp] theorem mI (x:ai ae):AV.one (.s x)=aa (.s x):=rfl
@[simp] theorem Wp:AV.one .cd=aa .cd:=rfl
@[simp] theorem K0 (k:ax) (l:ai AV):AV.one (.ro k l)=aa (.ro k l):=rfl
@[simp] theorem G2 (x:ae):AV.cell (.u8 x) 0=.u8 x:=rfl
@[simp] theorem aal (x:ay):AV.cell (.b x) 0=.b x:=rfl
@[simp] theorem kB (x:aB):AV.cell (.int x) 0=.int x:=rfl
@[simp] theorem Y1 (k:dP) (x:aB):AV.cell (.ik k x) 0=.ik k x:=rfl
@[simp] theorem K1 (x:ai ae):AV.cell (.s x) 0=.s x:=rfl
@[simp] theorem Y2 (k:ax) (l:ai AV):AV.cell (.ro k l) 0=.ro k l:=rfl
@[simp] theorem Vr:AV.cell .cd 0=.cd:=rfl
@[simp] theorem O2 (l:ai AV) (j:ax):AV.cell (.ag l) j=l.getD j .un:=by cases j <;> rfl
end one
section num
theorem DA (x:ae):x.toNat < 256:=x.toNat_lt
theorem E5 {n:ax} (h:n < 256):AV.CW .u8 (n:aB)=aa (.u8 (UInt8.ofNat n)):=by
 unfold AV.CW
 rw [aJ ⟨by omega,by omega⟩]
 simp
@[simp] theorem Y3 (n:aB):AV.CW .i64 n=aa (.int n):=rfl
@[simp] theorem hZ (x y:ae):cf .eql (.u8 x) (.u8 y)=aa (.b (x == y)):=by
 show aa (AV.b ((x.toNat:aB) == (y.toNat:aB)))=_
 congr 2
 rw [Bool.eq_iff_iff]
 simp only [bK,Int.ofNat_inj]
 exact ⟨fun h=>bP.1 h,fun h=>by rw [h]⟩
@[simp] theorem Br (x y:ae):cf .neq (.u8 x) (.u8 y)=aa (.b (x != y)):=by
 show aa (AV.b ((x.toNat:aB) != (y.toNat:aB)))=_
 congr 2
 rw [Bool.eq_iff_iff]
 simp only [bne_iff_ne,ne_eq,Int.ofNat_inj]
 exact ⟨fun h e=>h (by rw [e]),fun h e=>h (bP.1 e)⟩
@[simp] theorem K2 (x y:ae):cf .lss (.u8 x) (.u8 y)=aa (.b (decide (x < y))):=by
 show aa (AV.b (decide ((x.toNat:aB) < (y.toNat:aB))))=_
 congr 2
 rw [decide_eq_decide,bg];omega
@[simp] theorem Bt (x y:ae):cf .leq (.u8 x) (.u8 y)=aa (.b (decide (x≤y))):=by
 show aa (AV.b (decide ((x.toNat:aB)≤(y.toNat:aB))))=_
 congr 2
 rw [decide_eq_decide,bq];omega
@[simp] theorem K3 (x y:ae):cf .gtr (.u8 x) (.u8 y)=aa (.b (decide (y < x))):=by
 show aa (AV.b (decide ((x.toNat:aB) > (y.toNat:aB))))=_
 congr 2
 rw [decide_eq_decide,bg];omega
@[simp] theorem Bu (x y:ae):cf .geq (.u8 x) (.u8 y)=aa (.b (decide (y≤x))):=by
 show aa (AV.b (decide ((x.toNat:aB) ≥ (y.toNat:aB))))=_
 congr 2
 rw [decide_eq_decide,bq];omega
@[simp] theorem aam (k:dP) (x y:aB):cf .eql (.ik k x) (.ik k y)=aa (.b (x == y)):=by
 show (if k=k then zR .eql k x y else ah)=_
 rw [aJ rfl];rfl
@[simp] theorem cX (x y:aB):cf .eql (.int x) (.int y)=aa (.b (x == y)):=rfl
@[simp] theorem j3 (x y:aB):cf .neq (.int x) (.int y)=aa (.b (x != y)):=rfl
@[simp] theorem cR (x y:aB):cf .lss (.int x) (.int y)=aa (.b (decide (x < y))):=rfl
@[simp] theorem ra (x y:aB):cf .leq (.int x) (.int y)=aa (.b (decide (x≤y))):=rfl
@[simp] theorem Bv (x y:aB):cf .gtr (.int x) (.int y)=aa (.b (decide (y < x))):=rfl
@[simp] theorem mN (x y:aB):cf .geq (.int x) (.int y)=aa (.b (decide (y≤x))):=rfl
theorem wrap_i64 {n:aB} (h1:-9223372036854775808≤n) (h2:n < 9223372036854775808):IntKind.i64.wrap n=n:=by
 simp only [IntKind.wrap,IntKind.bits,IntKind.signed,Bool.true_and]
 split <;> rename_i h <;> simp only [aG,ge_iff_le] at h <;> omega
theorem lj {x y:aB} (h1:-9223372036854775808≤x+y) (h2:x+y < 9223372036854775808):cf .add (.int x) (.int y)=aa (.int (x+y)):=by
 show aa (AV.int (IntKind.i64.wrap (x+y)))=_
 rw [wrap_i64 h1 h2]
theorem O3 {x y:aB} (h1:-9223372036854775808≤x - y) (h2:x - y < 9223372036854775808):cf .sub (.int x) (.int y)=aa (.int (x - y)):=by
 show aa (AV.int (IntKind.i64.wrap (x - y)))=_
 rw [wrap_i64 h1 h2]
@[simp] theorem nW (x:ae):conv .i64 (.u8 x)=aa (.int x.toNat):=by
 show aa (AV.int (IntKind.i64.wrap (x.toNat:aB)))=_
 have:=DA x
 rw [wrap_i64 (by omega) (by omega)]
theorem wrap_u8 {n:aB} (h1:0≤n) (h2:n < 256):IntKind.u8.wrap n=n:=by
 simp only [IntKind.wrap,IntKind.bits,IntKind.signed,dn,Bool.false_eq_true,aH]
 omega
theorem DB {n:ax} (h:n < 256):conv .u8 (.int (n:aB))=aa (.u8 (UInt8.ofNat n)):=by
 unfold conv
 simp only [AV.rL,Option.bind_some]
 rw [wrap_u8 (by omega) (by omega),E5 h]
@[simp] theorem S5 (x:ae):conv .u8 (.u8 x)=aa (.u8 x):=by
 have:=DA x
 unfold conv
 simp only [AV.rL,Option.bind_some]
 rw [wrap_u8 (by omega) (by omega),E5 this,jw]
@[simp] theorem et (x:ay):unop .not (.b x)=aa (.b (!x)):=rfl
end num
section strs
@[simp] theorem ud (p q:ai ae):gR .eql (.s p) (.s q)=aa (.b (p == q)):=rfl
@[simp] theorem Q9 (p q:ai ae):gR .neq (.s p) (.s q)=aa (.b (p != q)):=rfl
theorem Wq {p q:ai ae} (h:p.length+q.length≤big):gR .add (.s p) (.s q)=aa (.s (p ++ q)):=by
 show (if p.length+q.length≤big then aa (AV.s (p ++ q)) else ah)=_
 rw [aJ h]
@[simp] theorem abB (p q:ay):EF .eql (.b p) (.b q)=aa (.b (p == q)):=rfl
@[simp] theorem abC (p q:ay):EF .neq (.b p) (.b q)=aa (.b (p != q)):=rfl
@[simp] theorem K4 (l:ai ae):om (.s l)=aa (.int l.length):=rfl
@[simp] theorem jN (k:ax) (l:ai AV):kH (.ro k l)=aa (.int l.length):=rfl
@[simp] theorem Vs:kH .cd=aa (.int 0):=rfl
theorem ln {n i:ax} (h:i < n):pN n (.int (i:aB))=aa i:=by
 show (if 0≤(i:aB)∧(i:aB) < (n:aB) then aa (i:aB).toNat else ah)=_
 rw [aJ ⟨by omega,by omega⟩];simp
theorem G3 {n i:ax} (h:i≤n):CX n (.int (i:aB))=aa i:=by
 show (if 0≤(i:aB)∧(i:aB)≤(n:aB) then aa (i:aB).toNat else ah)=_
 rw [aJ ⟨by omega,by omega⟩];simp
theorem lM {l:ai ae} {i:ax} (h:i < l.length):jU (.s l) (.int (i:aB))=aa (.u8 l[i]):=by
 show ((pN l.length (.int (i:aB))).bind fun n=>aa (AV.u8 (l.getD n 0)))=_
 rw [ln h]
 simp [h]
theorem S6 {l:ai ae} {i:ax} (h:i < l.length):idx 1 (.ro 1 (l.map .u8)) (.int (i:aB))=aa (.u8 l[i]):=by
 show (if 1=1 then (pN (l.map AV.u8).length (.int (i:aB))).bind fun n=>aa ((l.map AV.u8).getD n .un) else ah)=_
 rw [aJ rfl,ln (by simpa using h)]
 simp [h]
theorem DC (l:ai ae):bytesOf (l.map .u8)=aa l:=by
 induction l with
 | nil=>rfl
 | cons x r ih=>simp [bytesOf,ih]
theorem S7 {l:ai ae} (h:l.length≤big):GD (.ro 1 (l.map .u8))=aa (.s l):=by
 show ((bytesOf (l.map AV.u8)).bind fun p=>if p.length≤big then aa (AV.s p) else ah)=_
 rw [DC]
 simp [h]
end strs
end Sx
namespace Sx
open Go
theorem l8 {p:ae→ay} (h:(List.range 256).all (fun n=>p (UInt8.ofNat n))=aj) (x:ae):p x=aj:=by
 have:=List.all_eq_true.1 h x.toNat (List.mem_range.2 (DA x))
 simpa using this
theorem Jg {f g:ae→ay} (h:(List.range 256).all (fun n=>f (UInt8.ofNat n) == g (UInt8.ofNat n))=aj) (x:ae):f x=g x:=by
 simpa using l8 (p:=fun x=>f x == g x) h x
def isStr (o:ak AV) (l:ai ae):ay :=
 match o with
 | some (.s m)=>m == l
 | _=>af
theorem DD {o:ak AV} {l:ai ae} (h:isStr o l=aj):o=aa (.s l):=by
 unfold isStr at h
 split at h
 ·rw [bD h]
 ·cases h
def isB (o:ak AV) (b:ay):ay :=
 match o with
 | some (.b c)=>c == b
 | _=>af
theorem S8 {o:ak AV} {b:ay} (h:isB o b=aj):o=aa (.b b):=by
 unfold isB at h
 split at h
 ·rw [bD h]
 ·cases h
theorem nX (p:ai ae) (c:ae) (r:ai ae):jU (.s (p ++ c :: r)) (.int (p.length:aB))=aa (.u8 c):=by
 rw [lM (by simp)];simp
theorem K5 (p:ai ae) (c:ae) (r:ai ae):idx 1 (.ro 1 ((p ++ c :: r).map .u8)) (.int (p.length:aB))=aa (.u8 c):=by
 rw [S6 (by simp)];simp
theorem yi (p:ai ae) (c:ae):((p.length:aB)+1)=((p ++ [c]).length:aB):=by simp
theorem kh (p:ai ae) (c:ae) (r:ai ae):p ++ c :: r=(p ++ [c]) ++ r:=by simp
theorem Bw (p:ai ae) (c:ae) (r:ai ae):decide ((p.length:aB) < ((p ++ c :: r).length:aB))=aj:=by simp;omega
theorem G4 (p:ai ae) (c:ae) (r:ai ae):decide ((p.length:aB) < (((p ++ c :: r).map AV.u8).length:aB))=aj:=by simp;omega
theorem xd (p:ai ae):decide ((p.length:aB) < ((p ++ []).length:aB))=af:=by simp
theorem G5 (p:ai ae):decide ((p.length:aB) < ((p.map AV.u8).length:aB))=af:=by simp
theorem ue (n:aB):decide (n < n)=af:=by simp
end Sx
namespace Sx
def Ws (o:ak AV) (x:ae):ay :=
 match o with
 | some (.u8 m)=>m == x
 | _=>af
theorem O4 {o:ak AV} {x:ae} (h:Ws o x=aj):o=aa (.u8 x):=by
 unfold Ws at h
 split at h
 ·rw [bD h]
 ·cases h
end Sx
namespace Sx
open Go
def cD (x y:ae):ay:=(x.toNat:aB) == (y.toNat:aB)
def uf (x y:ae):ay:=(x.toNat:aB) != (y.toNat:aB)
def ult (x y:ae):ay:=decide ((x.toNat:aB) < (y.toNat:aB))
def ule (x y:ae):ay:=decide ((x.toNat:aB)≤(y.toNat:aB))
def J5 (x y:ae):ay:=decide ((x.toNat:aB) > (y.toNat:aB))
def O5 (x y:ae):ay:=decide ((x.toNat:aB) ≥ (y.toNat:aB))
def eE (n:aB):aB:=IntKind.i64.wrap n
@[simp] theorem cC (x y:ae):cD x y=(x == y):=by
 have:=hZ x y
 have h:cf .eql (.u8 x) (.u8 y)=aa (.b (cD x y)):=rfl
 rw [h] at this;simpa using this
@[simp] theorem iv (x y:ae):uf x y=(x != y):=by
 have:=Br x y
 have h:cf .neq (.u8 x) (.u8 y)=aa (.b (uf x y)):=rfl
 rw [h] at this;simpa only [Option.some.injEq,AV.b.injEq] using this
@[simp] theorem kC (x y:ae):ult x y=decide (x < y):=by
 have:=K2 x y
 have h:cf .lss (.u8 x) (.u8 y)=aa (.b (ult x y)):=rfl
 rw [h] at this;simpa only [Option.some.injEq,AV.b.injEq] using this
@[simp] theorem j4 (x y:ae):ule x y=decide (x≤y):=by
 have:=Bt x y
 have h:cf .leq (.u8 x) (.u8 y)=aa (.b (ule x y)):=rfl
 rw [h] at this;simpa only [Option.some.injEq,AV.b.injEq] using this
@[simp] theorem kV (x y:ae):J5 x y=decide (y < x):=by
 have:=K3 x y
 have h:cf .gtr (.u8 x) (.u8 y)=aa (.b (J5 x y)):=rfl
 rw [h] at this;simpa only [Option.some.injEq,AV.b.injEq] using this
@[simp] theorem jO (x y:ae):O5 x y=decide (y≤x):=by
 have:=Bu x y
 have h:cf .geq (.u8 x) (.u8 y)=aa (.b (O5 x y)):=rfl
 rw [h] at this;simpa only [Option.some.injEq,AV.b.injEq] using this
theorem gh {n:aB} (h1:-9223372036854775808≤n) (h2:n < 9223372036854775808):eE n=n:=wrap_i64 h1 h2
@[simp] theorem ny (x:ae):eE (x.toNat:aB)=x.toNat:=by have:=DA x;exact gh (by omega) (by omega)
theorem rf (p:ai ae) (c:ae) (r:ai ae) (h:(p ++ c :: r).length < 9223372036854775808):eE ((p.length:aB)+1)=((p ++ [c]).length:aB):=by
 simp at h
 rw [gh (by omega) (by omega),yi p c]
end Sx
namespace Sx
open Go
theorem E6 (x y:ae):cf .add (.u8 x) (.u8 y)=aa (.u8 (x+y)):=by
 unfold cf zR
 simp only [AV.rL,Option.bind_some,aO]
 have h:IntKind.u8.wrap ((x.toNat:aB)+(y.toNat:aB))=(((x.toNat+y.toNat) % 256:ax):aB):=by
  simp only [IntKind.wrap,IntKind.bits,IntKind.signed,dn,Bool.false_eq_true,aH]
  omega
 rw [h,E5 (by omega)]
 congr 2
 apply bP.1
 rw [UInt8.toNat_add,dO (by show _ < 256;omega)]
theorem Wt (x y:ae):mm aj (.u8 x) (.u8 y)=aa (.u8 (if y < x then y else x)):=rfl
abbrev gt (l:ai AV) (i:ax):AV:=l.getD i .un
def cT (a b:ae) (d:ay) (e f g i:ae) (j:ay) (k:ae) (l:ai ae):ai Cell:=[.val (.u8 a),.val (.u8 b),.val (.b d),.val (.u8 e),.val (.u8 f),.val (.u8 g),.val (.u8 i),.val (.b j),.val (.u8 k),.val (.s l)]
def cV (a b d e f g i j k l:AV):ai Cell:=[.val a,.val b,.val d,.val e,.val f,.val g,.val i,.val j,.val k,.val l]
def cN (a b d e f g i j k:AV):ai Cell:=[.val a,.val b,.val d,.val e,.val f,.val g,.val i,.val j,.val k]
theorem bh {C:jT} {P:bn} {f:ax} {fn:Func} {k:ai Item} {st:St} {r:AV} {X:bj→RunT→ak AV} (hx:∀ call run,step C call f fn (SX C call run f fn 400) k st=X call run) (h:X (aq C P) (a7 C P f fn)=aa r):a7 C P f fn k st=aa r :=
 E1 400 ((hx _ _).trans h)
theorem bc {C:jT} {P:bn} {g:ax} {fn:Func} {xs:ai AV} {r:AV} {X:bj→RunT→ak AV} (hx:∀ call run,SX C call run g fn 400 [.code ((fn.body).getD .skip)] (rM C g fn.ntmps xs)=X call run) (h:X (aq C P) (a7 C P g fn)=aa r)
  (hfn:P.funcs[g]?=aa fn:=by kernel_rfl) (hb:fn.body=aa ((fn.body).getD .skip):=by kernel_rfl) (hl:rN C g fn.ntmps xs.length=aj:=by kernel_rfl) (CY:C.gv g=ah:=by rfl):aq C P g xs=aa r :=
 Dy hfn hb 400 hl ((hx _ _).trans h) CY
end Sx
namespace Sx
open Go Go.RowKit Go.WideShapes
inductive Lf where
 | b | u8 | int | ik (k:dP) | s | sl (agg:ay) (ls:ai Lf)
inductive Is:Lf→AV→Prop
 | b (x:ay):Is .b (.b x)
 | u8 (x:ae):Is .u8 (.u8 x)
 | int (n:aB) (h:(Lit.int .i64 n).wf=aj):Is .int (.int n)
 | ik (k:dP) (n:aB) (h:(Lit.int k n).wf=aj):Is (.ik k) (.ik k n)
 | s (l:ai ae) (h:l.length≤maxLen):Is .s (.s l)
 | sl1 (lf:Lf) (l:ai AV) (h:∀ x ∈ l,Is lf x) (hm:l.length≤maxLen):Is (.sl af [lf]) (.ro 1 l)
 | slA (ls:ai Lf) (ms:ai (ai AV)) (hl:∀ m ∈ ms,m.length=ls.length) (h:∀ m ∈ ms,∀ (j:ax) (a:Lf) (x:AV),ls[j]?=aa a→m[j]?=aa x→Is a x) (hm:ms.length≤maxLen):Is (.sl aj ls) (.ro ls.length (ms.map .ag))
mutual
def wt:AV→ax
 | .s l=>l.length+1
 | .ro _ l=>wV l+1
 | .ag l=>wV l
 | _=>1
def wV:ai AV→ax
 | []=>0
 | x :: r=>wt x+wV r
end
mutual
def bulk {H:Type}:DataW H→ax
 | .lit (.string bytes)=>bytes.length+1
 | .lit _=>1
 | .nil=>1
 | .ptr d=>bulk d+1
 | .slice elems spare=>kL elems+kL spare+1
 | .agg parts=>kL parts+1
 | .iface _ d=>bulk d+1
 | .map entries=>wk entries+1
 | .held _=>1
def kL {H:Type}:ai (DataW H)→ax
 | []=>0
 | d :: r=>bulk d+kL r
def wk {H:Type}:ai (Lit×DataW H)→ax
 | []=>0
 | x :: r=>Jh x+wk r
def Jh {H:Type}:Lit×DataW H→ax
 | (.string bytes,d)=>bytes.length+bulk d+1
 | (_,d)=>bulk d+1
end
theorem E7 (l m:ai AV):wV (l ++ m)=wV l+wV m:=by
 induction l with
 | nil=>simp [wV]
 | cons x r ih=>simp only [List.cons_append,wV,ih];omega
section leaves
variable (P:bn)
def uX (t:TypeId):ay:=match P.underlying t with | some (.struct _)=>aj | _=>af
mutual
def leaves:ax→TypeId→ak (ai Lf)
 | 0,_=>ah
 | n+1,t=>match P.underlying t with
  | some .bool=>aa [.b]
  | some (.int k)=>match k with
   | .u8=>aa [.u8]
   | .i64=>aa [.int]
   | k=>aa [.ik k]
  | some .string=>aa [.s]
  | some (.slice e)=>(leaves n e).bind fun ls=>bif Nat.beq ls.length (P.cellsOf e) && bI 0 ls.length && (uX P e || Nat.beq ls.length 1) then aa [.sl (uX P e) ls] else ah
  | some (.struct fs)=>(rh n fs.toList 0).bind fun ls=>bif Nat.beq ls.length (P.cellsOf t) then aa ls else ah
  | _=>ah
def rh:ax→ai Field→ax→ak (ai Lf)
 | 0,_,_=>ah
 | _+1,[],_=>aa []
 | n+1,f :: r,off=>(leaves n f.type).bind fun ls=>bif Nat.beq f.offset off && Nat.beq ls.length (P.cellsOf f.type) then (rh n r (off+ls.length)).map (ls ++ ·) else ah
end
end leaves
structure jH (w:az) (ls:ai Lf) (cs:ai aC) (as:ai AV):Prop where
 DF:as.length=ls.length
 O6:cs.length=ls.length
 one:∀ v ∈ cs,v.oneCell'=aj
 rel:∀ (j:ax) (v:aC),cs[j]?=aa v→Rel w (fun _=>True) (as.getD j .un) v
 is:∀ (j:ax) (lf:Lf) (a:AV),ls[j]?=aa lf→as[j]?=aa a→Is lf a
theorem jH.nil (w:az):jH w [] [] []:=⟨rfl,rfl,fun v h=>(by cases h),fun j v h=>(by simp at h),fun j lf a h=>(by simp at h)⟩
theorem jH.single {w:az} {lf:Lf} {v:aC} {a:AV} (h1:v.oneCell'=aj) (h2:Rel w (fun _=>True) a v) (h3:Is lf a):jH w [lf] [v] [a]:=by
 refine ⟨rfl,rfl,fun u h=>?_,fun j u h=>?_,fun j l x hl hx=>?_⟩
 ·simp at h;subst h;exact h1
 ·cases j with
  | zero=>simp at h;subst h;exact h2
  | succ j=>simp at h
 ·cases j with
  | zero=>simp at hl hx;subst hl;subst hx;exact h3
  | succ j=>simp at hl
theorem jH.append {w:az} {ls qo:ai Lf} {cs cs':ai aC} {as as':ai AV} (h:jH w ls cs as) (h':jH w qo cs' as'):jH w (ls ++ qo) (cs ++ cs') (as ++ as'):=by
 have e1:=h.DF;have e2:=h.O6
 refine ⟨by simp [h.DF,h'.DF],by simp [h.O6,h'.O6],fun v hv=>?_,fun j v hv=>?_,fun j lf a hl ha=>?_⟩
 ·rcases List.mem_append.1 hv with hv | hv
  ·exact h.one v hv
  ·exact h'.one v hv
 ·by_cases hj:j < cs.length
  ·rw [aX hj] at hv
   have:=h.rel j v hv
   rwa [aK,aX (by omega),← aK]
  ·rw [aS (by omega)] at hv
   have:=h'.rel _ v hv
   rwa [aK,aS (by omega),show j - as.length=j - cs.length by omega,← aK]
 ·by_cases hj:j < ls.length
  ·rw [aX hj] at hl
   rw [aX (by omega)] at ha
   exact h.is j lf a hl ha
  ·rw [aS (by omega)] at hl
   rw [aS (by omega),show j - as.length=j - ls.length by omega] at ha
   exact h'.is _ lf a hl ha
theorem yj {w:az} {base:ax} {a:Addr} {n:ax} {cs:ai aC} (h:w.cells? base a n=aa cs):cs.length=n∧∀ (j:ax) (v:aC),cs[j]?=aa v→w.cell? (a.add j)=aa v:=by
 unfold World.cells? at h
 split at h
 ·have hl:=mapM_some_length h
  simp at hl
  refine ⟨hl,fun j v hv=>?_⟩
  have hj:j < n:=by have:=(List.getElem?_eq_some_iff.1 hv).1;omega
  have:=mapM_some_get h j j (by simp [hj])
  rw [this,hv]
 ·cases h
theorem wm {α:Type} {p:ax→α→Prop}:∀ n:ax,(∀ i,i < n→∃ a,p i a)→∃ L:ai α,L.length=n∧∀ i a,L[i]?=aa a→p i a
 | 0,_=>⟨[],rfl,fun i a h=>(by simp at h)⟩
 | n+1,h=>by
  obtain ⟨L,hl,hL⟩:=wm n (fun i hi=>h i (by omega))
  obtain ⟨a,ha⟩:=h n (by omega)
  refine ⟨L ++ [a],by simp [hl],fun i x hx=>?_⟩
  by_cases hi:i < L.length
  ·rw [aX hi] at hx;exact hL i x hx
  ·rw [aS (by omega)] at hx
   have Z1:i - L.length=0:=by
    have:=(List.getElem?_eq_some_iff.1 hx).1
    simp at this;omega
   rw [Z1] at hx
   simp at hx
   rw [← hx,show i=n by omega]
   exact ha
theorem DG {H:Type}:∀ {L:ai (ai AV)} {ds:ai (DataW H)},L.length=ds.length→(∀ (i:ax) (as:ai AV) (d:DataW H),L[i]?=aa as→ds[i]?=aa d→wV as≤bulk d)→wV (L.map .ag)≤kL ds
 | [],[],_,_=>Nat.le_refl _
 | as :: L,d :: ds,hl,h=>by
  have h0:=h 0 as d rfl rfl
  have:=DG (L:=L) (ds:=ds) (by simpa using hl) (fun i a x h1 h2=>h (i+1) a x (by simpa using h1) (by simpa using h2))
  simp only [List.map_cons,wV,wt,kL]
  omega
 | [],_ :: _,hl,_=>by simp at hl
 | _ :: _,[],hl,_=>by simp at hl
theorem Ai {H:Type}:∀ {L:ai (ai AV)} {ds:ai (DataW H)},L.length=ds.length→(∀ (i:ax) (as:ai AV) (d:DataW H),L[i]?=aa as→ds[i]?=aa d→wV as≤bulk d∧as.length=1)→wV (L.map (·.getD 0 .un))≤kL ds
 | [],[],_,_=>Nat.le_refl _
 | as :: L,d :: ds,hl,h=>by
  obtain ⟨h0,h1⟩:=h 0 as d rfl rfl
  have:=Ai (L:=L) (ds:=ds) (by simpa using hl) (fun i a x h1 h2=>h (i+1) a x (by simpa using h1) (by simpa using h2))
  cases as with
  | nil=>simp at h1
  | cons x r =>
   have:r=[]:=List.eq_nil_of_length_eq_zero (by simpa using h1)
   subst this
   simp only [wV] at h0
   simp only [List.map_cons,wV,kL,List.getD_cons_zero]
   omega
 | [],_ :: _,hl,_=>by simp at hl
 | _ :: _,[],hl,_=>by simp at hl
theorem Is.Wu {lf:Lf} {a:AV} (h:Is lf a):∀ j,j < 1→a.cell j=a:=by
 intro j hj
 obtain rfl:j=0:=by omega
 cases h <;> rfl
section opening
variable {H:Type} {enc:TypeId×aC→H} {P:bn} {w:az} {base:ax} {spare:ax→ay} {held:ay}
theorem wo:∀ n:ax,(∀ (t:TypeId) (ls:ai Lf) (fuel:ax) (cs:ai aC) (x:DataW H×ai MemPlace),leaves P n t=aa ls→DataW.trod enc P w base spare held fuel t cs=aa x→∃ as,jH w ls cs as∧wV as≤bulk x.1) ∧
  (∀ (fs:ai Field) (off:ax) (ls:ai Lf) (fuel:ax) (cs:ai aC) (xs:ai (DataW H×ai MemPlace)),rh P n fs off=aa ls→xs.length=fs.length→cs.length=off+ls.length →
   (∀ (i:ax) (f:Field),fs[i]?=aa f→DataW.trod enc P w base spare held fuel f.type ((cs.drop f.offset).take (P.cellsOf f.type))=xs[i]?)→∃ as,jH w ls (cs.drop off) as∧wV as≤kL (xs.map (·.1)))
 | 0=>⟨fun t ls fuel cs x h=>(by simp [leaves] at h),fun fs off ls fuel cs xs h=>(by simp [rh] at h)⟩
 | n+1=>by
  obtain ⟨ih1,ih2⟩:=wo n
  refine ⟨fun t ls fuel cs x h ht=>?_,fun fs off ls fuel cs xs h hl hc hx=>?_⟩
  ·simp only [leaves] at h
   cases hu:P.underlying t with
   | none=>rw [hu] at h;cases h
   | some d =>
    rw [hu] at h
    cases d <;> simp only at h <;> try (cases h;done)
    case bool =>
     cases h
     obtain ⟨b,rfl,rfl⟩:=DataW.trod_bool hu ht
     exact ⟨[.b b],jH.single rfl (.b b) (.b b),Nat.le_refl _⟩
    case int k =>
     obtain ⟨m,rfl,rfl,hw⟩:=DataW.trod_int hu ht
     cases k <;> simp only at h <;> cases h <;> first
      | exact ⟨[.int m],jH.single rfl (.int m) (.int m hw),Nat.le_refl _⟩
      | exact ⟨[.ik _ m],jH.single rfl (.ik _ m) (.ik _ m hw),Nat.le_refl _⟩
      | skip
     have hb:0≤m∧m < 256:=by
      simp only [Lit.wf,Bool.and_eq_true,aG] at hw
      have h1:IntKind.u8.min=0:=rfl
      have h2:IntKind.u8.max=255:=rfl
      omega
     refine ⟨[.u8 (UInt8.ofNat m.toNat)],jH.single rfl ?_ (.u8 _),Nat.le_refl _⟩
     have:=Rel.u8 (w:=w) (F:=fun _=>True) (UInt8.ofNat m.toNat)
     rw [dO (by show m.toNat < 256;omega)] at this
     rwa [show ((m.toNat:ax):aB)=m by omega] at this
    case string =>
     cases h
     obtain ⟨s,rfl,rfl,hs⟩:=DataW.trod_string hu ht
     exact ⟨[.s s.data.toList],jH.single rfl (.s s) (.s _ (by simpa using hs)),Nat.le_refl _⟩
    case slice e =>
     obtain ⟨qo,NU,h⟩:=aR.1 h
     cases hb:(Nat.beq qo.length (P.cellsOf e) && bI 0 qo.length && (uX P e || Nat.beq qo.length 1)) with
     | false=>rw [hb] at h;cases h
     | true =>
      rw [hb] at h
      simp only [aN,Option.some.injEq] at h
      subst h
      simp only [Bool.and_eq_true,Bool.or_eq_true] at hb
      obtain ⟨⟨b1,b2⟩,b3⟩:=hb
      have b1:=aF b1
      have b2:0 < qo.length:=by simpa [Nat.blt_eq] using b2
      rcases DataW.trod_slice hu ht with ⟨rfl,rfl⟩ | ⟨a,len,cap,elems,rest,m,rfl,rfl,rfl,_,hlc,hcm,yl,wS,_,_⟩
      ·cases hst:uX P e with
       | true=>exact ⟨[.ro qo.length []],jH.single rfl (.zG _ ah 0) (.slA qo [] (fun _ h=>by cases h) (fun _ h=>by cases h) (Nat.zero_le _)),Nat.le_refl _⟩
       | false =>
        rw [hst] at b3
        have b4:qo.length=1:=by
         rcases b3 with h | h
         ·cases h
         ·exact aF h
        obtain ⟨lf,rfl⟩:∃ lf,qo=[lf]:=by
         cases qo with
         | nil=>simp at b4
         | cons lf r=>exact ⟨lf,by rw [List.eq_nil_of_length_eq_zero (l:=r) (by simpa using b4)]⟩
        exact ⟨[.ro 1 []],jH.single rfl (.zG _ ah 0) (.sl1 lf [] (fun _ h=>by cases h) (Nat.zero_le _)),Nat.le_refl _⟩
      ·
       have Wv:∀ i,i < len→∃ as,∃ (cs:ai aC) (d:DataW H),w.cells? base (a.add (i * P.cellsOf e)) (P.cellsOf e)=aa cs∧(elems.map (·.1))[i]?=aa d∧jH w qo cs as∧wV as≤bulk d:=by
        intro i hi
        have h1:=wS i hi
        have h2:elems[i]?=aa elems[i]:=List.getElem?_eq_getElem (by omega)
        rw [h2] at h1
        obtain ⟨cs,hcs,YQ⟩:=aR.1 h1
        obtain ⟨as,ho,hle⟩:=ih1 e qo m cs _ NU YQ
        exact ⟨as,cs,_,hcs,by simp [h2],ho,hle⟩
       obtain ⟨L,hL,hp⟩:=wm len Wv
       have hLe:L.length=(elems.map (·.1)).length:=by simp;omega
       have O7:∀ (i:ax) (as:ai AV),L[i]?=aa as→as.length=qo.length∧∀ d,(elems.map (·.1))[i]?=aa d→wV as≤bulk d:=by
        intro i as hi
        obtain ⟨cs,d,_,hd,ho,hle⟩:=hp i as hi
        exact ⟨ho.DF,fun d' tG=>by rw [hd] at tG;cases tG;exact hle⟩
       have key:∀ (F:ai AV→AV),(∀ (i:ax) (as:ai AV) (j:ax),L[i]?=aa as→j < qo.length→(F as).cell j=as.getD j .un)→Rel w (fun _=>True) (.ro qo.length (L.map F)) (.slice (aa a) len cap):=by
        intro F hF
        by_cases h0:len=0
        ·subst h0
         rw [List.eq_nil_of_length_eq_zero hL]
         exact .zG _ _ _
        ·have hsp:a.spot=ah:=by
          obtain ⟨as,cs,d,hcs,hd,ho,hle⟩:=Wv 0 (by omega)
          obtain ⟨qW,hcg⟩:=yj hcs
          have h1:cs[0]?=aa cs[0]:=List.getElem?_eq_getElem (by omega)
          have h2:=hcg 0 _ h1
          have:=World.cell?_spot h2
          simpa [Addr.add] using this
         obtain ⟨r,off,sp⟩:=a
         simp only at hsp
         subst hsp
         have hcell:∀ i j,i < len→j < qo.length→∃ (as:ai AV) (v:aC),L[i]?=aa as∧w.cell? ⟨r,off+(i * qo.length+j),ah⟩=aa v∧v.oneCell'=aj∧Rel w (fun _=>True) (as.getD j .un) v:=by
          intro i j hi hj
          have hi':L[i]?=aa L[i]:=List.getElem?_eq_getElem (by omega)
          obtain ⟨cs,d,hcs,hd,ho,hle⟩:=hp i _ hi'
          obtain ⟨qW,hcg⟩:=yj hcs
          have h1:cs[j]?=aa cs[j]:=List.getElem?_eq_getElem (by omega)
          refine ⟨_,_,hi',?_,ho.one _ (List.getElem_mem (by omega)),ho.rel j _ h1⟩
          have h2:=hcg j _ h1
          rw [add_plain,add_plain,← b1] at h2
          rw [← Nat.add_assoc]
          exact h2
         have:=Rel.ro (w:=w) (F:=fun _=>True) qo.length (L.map F) r off cap ((List.range (len * qo.length)).map fun m=>(w.cell? ⟨r,off+m,ah⟩).getD undef) b2 (by simp;omega) trivial (by simp [hL]) ?_ ?_ ?_
         ·simpa [hL] using this
         ·intro j v hj
          have hlt:=(List.getElem?_eq_some_iff.1 hj).1
          simp only [aP,List.length_range] at hlt
          simp only [aM,dU hlt,aY,Option.some.injEq] at hj
          have hq:j / qo.length < len:=jq (by rw [gu];exact hlt)
          have hr:=Nat.mod_lt j b2
          obtain ⟨as,u,_,hc,_,_⟩:=hcell _ _ hq hr
          rw [gu,Nat.div_add_mod] at hc
          rw [hc] at hj ⊢
          simpa using hj
         ·intro v hv
          obtain ⟨j,hj,rfl⟩:=List.mem_map.1 hv
          have hlt:=List.mem_range.1 hj
          have hq:j / qo.length < len:=jq (by rw [gu];exact hlt)
          have hr:=Nat.mod_lt j b2
          obtain ⟨as,u,_,hc,h1,_⟩:=hcell _ _ hq hr
          rw [gu,Nat.div_add_mod] at hc
          rw [hc]
          exact h1
         ·intro i j v hi hj hv
          simp only [aP] at hi
          obtain ⟨as,u,Y4,hc,h1,hrel⟩:=hcell i j (by omega) hj
          have hlt:=(List.getElem?_eq_some_iff.1 hv).1
          simp only [aP,List.length_range] at hlt
          simp only [aM,dU hlt,aY,Option.some.injEq] at hv
          rw [hc] at hv
          simp only [Option.getD_some] at hv
          subst hv
          rw [show (L.map F).getD i .un=F as by simp [aK,Y4],hF i as j Y4 hj]
          exact hrel
       cases hst:uX P e with
       | true =>
        refine ⟨[.ro qo.length (L.map .ag)],jH.single rfl (key .ag fun i as j _ _=>O2 as j) (.slA qo L (fun m hm=>?_) (fun m hm j lf x hj hx=>?_) (by omega)),?_⟩
        ·obtain ⟨i,hi,rfl⟩:=gz hm
         exact (O7 i _ (List.getElem?_eq_getElem hi)).1
        ·obtain ⟨i,hi,rfl⟩:=gz hm
         obtain ⟨cs,d,_,_,ho,_⟩:=hp i _ (List.getElem?_eq_getElem hi)
         exact ho.is j lf x hj hx
        ·have:=DG hLe (fun i as d h1 h2=>(O7 i as h1).2 d h2)
         simp only [wV,wt,bulk]
         omega
       | false =>
        rw [hst] at b3
        have b4:qo.length=1:=by
         rcases b3 with h | h
         ·cases h
         ·exact aF h
        obtain ⟨lf,rfl⟩:∃ lf,qo=[lf]:=by
         cases qo with
         | nil=>simp at b4
         | cons lf r=>exact ⟨lf,by rw [List.eq_nil_of_length_eq_zero (l:=r) (by simpa using b4)]⟩
        have hIs:∀ (i:ax) (as:ai AV),L[i]?=aa as→Is lf (as.getD 0 .un):=by
         intro i as hi
         obtain ⟨cs,d,_,_,ho,_⟩:=hp i as hi
         have hl:=ho.DF
         cases as with
         | nil=>simp at hl
         | cons x r=>exact ho.is 0 lf x rfl rfl
        refine ⟨[.ro 1 (L.map (·.getD 0 .un))],jH.single rfl (key (·.getD 0 .un) fun i as j hi hj=>?_) (.sl1 lf _ (fun x hx=>?_) (by simp only [aP];omega)),?_⟩
        ·have hj1:j < 1:=by simpa using hj
         rw [(hIs i as hi).Wu j hj1,show j=0 by omega]
        ·obtain ⟨as,has,rfl⟩:=List.mem_map.1 hx
         obtain ⟨i,hi,rfl⟩:=gz has
         exact hIs i _ (List.getElem?_eq_getElem hi)
        ·have:=Ai hLe (fun i as d h1 h2=>⟨(O7 i as h1).2 d h2,by simpa using (O7 i as h1).1⟩)
         simp only [wV,wt,bulk]
         omega
    case struct fs =>
     obtain ⟨qo,NU,h⟩:=aR.1 h
     cases hb:Nat.beq qo.length (P.cellsOf t) with
     | false=>rw [hb] at h;cases h
     | true =>
      rw [hb] at h
      simp only [aN,Option.some.injEq] at h
      subst h
      obtain ⟨xs,m,rfl,rfl,qW,GL,wS⟩:=DataW.trod_struct hu ht
      have:=aF hb
      obtain ⟨as,ho,hle⟩:=ih2 fs.toList 0 qo m cs xs NU (by simpa using GL) (by omega) (fun i f hf=>wS i f (by simpa using hf))
      refine ⟨as,by simpa using ho,?_⟩
      simp only [bulk]
      omega
  ·cases fs with
   | nil =>
    simp only [rh,Option.some.injEq] at h
    subst h
    obtain rfl:xs=[]:=List.eq_nil_of_length_eq_zero (by simpa using hl)
    refine ⟨[],?_,Nat.le_refl _⟩
    rw [List.drop_eq_nil_of_le (by simp at hc;omega)]
    exact jH.nil w
   | cons f r =>
    cases xs with
    | nil=>simp at hl
    | cons x xs =>
     simp only [rh] at h
     obtain ⟨qo,NU,h⟩:=aR.1 h
     cases hb:(Nat.beq f.offset off && Nat.beq qo.length (P.cellsOf f.type)) with
     | false=>rw [hb] at h;cases h
     | true =>
      rw [hb] at h
      simp only [aN] at h
      obtain ⟨ls2,h2,rfl⟩:=Option.map_eq_some_iff.1 h
      rw [Bool.and_eq_true] at hb
      have e1:=aF hb.1
      have e2:=aF hb.2
      have t0:=hx 0 f rfl
      rw [e1,← e2] at t0
      obtain ⟨as,ho,hle⟩:=ih1 f.type qo fuel _ x NU t0
      simp only [List.length_append] at hc
      obtain ⟨as2,YW,abF⟩:=ih2 r (off+qo.length) ls2 fuel cs xs h2 (by simpa using hl) (by omega) (fun i g hg=>by simpa using hx (i+1) g (by simpa using hg))
      refine ⟨as ++ as2,?_,?_⟩
      ·have:=ho.append YW
       rwa [← List.drop_drop,List.take_append_drop] at this
      ·rw [E7]
       simp only [List.map_cons,kL]
       omega
end opening
end Sx
namespace Sx
open Go Go.RowKit Go.WideShapes Go.ChangeShapes
def G6 (agg:ay) (ls:ai Lf) (a:AV):Prop :=
 match agg with
 | true=>∃ m,a=.ag m∧m.length=ls.length∧∀ (j:ax) (lf:Lf) (x:AV),ls[j]?=aa lf→m[j]?=aa x→Is lf x
 | false=>∃ lf,ls=[lf]∧Is lf a
def Bx:ai (ay×ai Lf)→ai AV→Prop
 | [],[]=>True
 | p :: r,a :: as=>G6 p.1 p.2 a∧Bx r as
 | _,_=>False
def ug (P:bn):ai TypeId→ak (ai (ay×ai Lf))
 | []=>aa []
 | t :: ts=>(leaves P 12 t).bind fun ls=>bif uX P t || Nat.beq ls.length 1 then (ug P ts).map ((uX P t,ls) :: ·) else ah
section
variable {H:Type} {enc:TypeId×aC→H} {P:bn} {w:az} {base:ax} {spare:ax→ay} {held:ay}
theorem K6 {t:TypeId} {ls:ai Lf} {v:aC} {d:DataW H} {p:ai MemPlace} {r:Reach} {b0:ax} (hl:leaves P 12 t=aa ls) (hb:(uX P t || Nat.beq ls.length 1)=aj) (hval:Value.okWide P w r b0 t v) (h:DataW.Trod enc P w base spare held t v d p) :
  ∃ a,G6 (uX P t) ls a∧wt a≤bulk d∧Rel w (fun _=>True) a v:=by
 obtain ⟨fuel,hf⟩:=h
 obtain ⟨as,ho,hle⟩:=(wo 12).1 t ls fuel _ _ hl hf
 cases hst:uX P t with
 | true =>
  unfold uX at hst
  split at hst
  ·rename_i fs hu
   obtain ⟨cs,rfl,_⟩:=okWide_struct hu hval
   have hc:(Value.agg cs).cells.toList=cs.toList:=rfl
   rw [hc] at ho
   refine ⟨.ag as,⟨as,rfl,ho.DF,ho.is⟩,by simpa only [wt] using hle,?_⟩
   have:=Rel.ag (w:=w) (F:=fun _=>True) as cs.toList (by rw [ho.DF,ho.O6]) ho.one ho.rel
   simpa using this
  ·cases hst
 | false =>
  rw [hst,eu] at hb
  have h1:=aF hb
  obtain ⟨lf,rfl⟩:∃ lf,ls=[lf]:=by
   cases ls with
   | nil=>simp at h1
   | cons lf r=>exact ⟨lf,by rw [List.eq_nil_of_length_eq_zero (l:=r) (by simpa using h1)]⟩
  have hlen:=ho.DF
  obtain ⟨a,rfl⟩:∃ a,as=[a]:=by
   cases as with
   | nil=>simp at hlen
   | cons a r=>exact ⟨a,by rw [List.eq_nil_of_length_eq_zero (l:=r) (by simpa using hlen)]⟩
  have hv:v.cells.toList=[v]:=by
   simp only [leaves] at hl
   cases hu:P.underlying t with
   | none=>rw [hu] at hl;cases hl
   | some dd =>
    rw [hu] at hl
    cases dd <;> simp only at hl <;> try (cases hl;done)
    case bool=>obtain ⟨b,rfl⟩:=okWide_bool hu hval;rfl
    case int k=>obtain ⟨b,rfl⟩:=okWide_int hu hval;rfl
    case string=>obtain ⟨b,rfl⟩:=okWide_string hu hval;rfl
    case slice e=>obtain ⟨a,len,cap,rfl⟩:=okWide_slice hu hval;rfl
    case struct fs=>unfold uX at hst;rw [hu] at hst;cases hst
  rw [hv] at ho
  refine ⟨a,⟨lf,rfl,ho.is 0 lf a rfl rfl⟩,by simpa [wV] using hle,?_⟩
  simpa using ho.rel 0 v rfl
theorem Aj {r:Reach} {b0:ax}:∀ {ts:ai TypeId} {shs:ai (ay×ai Lf)} {vs:ai aC} {ds:ai (DataW H)} {p:ai MemPlace},ug P ts=aa shs→DataW.TrodAll enc P w base spare held ts vs ds p →
  (∀ (j:ax) (t:TypeId) (v:aC),ts[j]?=aa t→vs[j]?=aa v→Value.okWide P w r b0 t v) →
  ∃ as,as.length=vs.length∧ds.length=ts.length∧Bx shs as∧wV as≤kL ds∧∀ (j:ax) (a:AV) (v:aC),as[j]?=aa a→vs[j]?=aa v→Rel w (fun _=>True) a v
 | [],shs,vs,ds,p,hs,h,hv=>by
  obtain ⟨rfl,rfl,rfl⟩:=trodAll_nil h
  cases hs
  exact ⟨[],rfl,rfl,trivial,Nat.le_refl _,fun j a v h=>by simp at h⟩
 | t :: ts,shs,vs,ds,p,hs,h,hv=>by
  obtain ⟨v,vs1,d,ds1,p1,p2,rfl,rfl,rfl,h1,h2⟩:=trodAll_cons h
  simp only [ug] at hs
  obtain ⟨ls,NU,hs⟩:=aR.1 hs
  cases hb:(uX P t || Nat.beq ls.length 1) with
  | false=>rw [hb] at hs;cases hs
  | true =>
   rw [hb] at hs
   simp only [aN] at hs
   obtain ⟨abG,hs',rfl⟩:=Option.map_eq_some_iff.1 hs
   obtain ⟨a,ha,hle,hr⟩:=K6 NU hb (hv 0 t v rfl rfl) h1
   obtain ⟨as,e1,e2,e3,e4,e5⟩:=Aj hs' h2 (fun j t v h1 h2=>hv (j+1) t v (by simpa using h1) (by simpa using h2))
   refine ⟨a :: as,by simp [e1],by simp [e2],⟨ha,e3⟩,?_,fun j x u hx hu=>?_⟩
   ·simp only [wV,kL];omega
   ·cases j with
    | zero=>simp at hx hu;subst hx;subst hu;exact hr
    | succ j=>exact e5 j x u (by simpa using hx) (by simpa using hu)
theorem rS {w':az}:∀ {ts:ai TypeId} {vs:ai aC} {ds:ai (DataW H)} {ps:ai MemPlace},DataW.TrodAll enc P w base spare held ts vs ds ps→(∀ p ∈ ps,w.sameAt w' p)→DataW.TrodAll enc P w' base spare held ts vs ds ps
 | [],vs,ds,ps,h,hs=>by
  obtain ⟨rfl,rfl,rfl⟩:=trodAll_nil h
  exact trodAll_mk0
 | t :: ts,vs,ds,ps,h,hs=>by
  obtain ⟨v,vs1,d,ds1,p1,p2,rfl,rfl,rfl,⟨n,hn⟩,h2⟩:=trodAll_cons h
  exact ⟨p1,p2,⟨n,DataW.trod_carry n _ _ _ hn (fun p hp=>hs p (List.mem_append_left _ hp))⟩,rS h2 (fun p hp=>hs p (List.mem_append_right _ hp)),rfl⟩
end
theorem Bz {C:jT} {P:bn} (kp:Fit C P) {g:ax} {fn:Func} {c:Code} (hfn:P.funcs[g]?=aa fn) (hb:fn.body=aa c) (ho:(C.own g).all Option.isNone=aj) (jY:C.sig g=ah)
  {tb:TypeId} (hres:fn.resultTypes = #[tb]) (htb:P.underlying tb=aa .bool)
  (oX:laidOutB P=aj) (hmr:mapsRowed P=aj) (hz:((List.range P.types.size).all fun t=>match P.underlying t with | some (.slice e)=>decide (0 < P.cellsOf e) | _=>aj)=aj)
  (NT:fn.params.toList.all (fun t=>decide (t < P.types.size))=aj)
  {s:ChangeSpec} (Ra:s.vars=[]) (hs:∀ (H:Type) (ds:ai (DataW H)),ds.length=fn.params.toList.length→s.fn H ds={ results:=[.lit (.bool aj)],args:=ds })
  {shs:ai (ay×ai Lf)} (Ww:ug P fn.params.toList=aa shs)
  {H:Type} {enc:TypeId×aC→H} {W:az} {base:ax} {args:bF aC} {ds gs:ai (DataW H)} {before:ai MemPlace} {apart fresh handsOn:ay}
  (hval:∀ (j:ax) t v,fn.params[j]?=aa t→args[j]?=aa v→Value.okWide P W .any base t v)
  (hW:DataW.Whole enc P fn.params.toList s.vars apart W args.toList ds gs before)
  (hG:cG C W (fun _=>True))
  (law:∀ as,Bx shs as→wV as≤kL (ds ++ gs)→aq C P g as=aa (.b aj)) :
  Calls P g args W fun e W'=>∃ v,e=.returned v∧s.post enc P fn apart fresh handsOn af W args v W':=by
 have hW0:=hW
 have hlt:=hW.lt
 obtain ⟨p,q,hA,hV,rfl,hfz,sR⟩:=hW
 rw [Ra] at hV
 obtain ⟨rfl,rfl⟩:=trodVars_none hV
 simp only [List.append_nil] at law hlt hW0
 obtain ⟨as,e1,e2,e3,e4,e5⟩:=Aj Ww hA (fun j t v h1 h2=>hval j t v (by simpa using h1) (by simpa using h2))
 have rR:=law as e3 e4
 refine (E4 kp hfn hb ho jY rR W (fun _=>True) args hG (by simpa using e1.symm) (fun j a v h1 h2=>e5 j a v h1 (by simpa using h2))).mono fun e W' he=>?_
 obtain ⟨rfl,Ve⟩:=he
 have hsd:=hs H ds e2
 refine ⟨_,rfl,ds,[],p,[],p,[],hW0,?_,?_,?_,Ve.frame _,fun h=>by cases h⟩
 ·rw [List.append_nil,hsd,hres]
  exact trodAll_mk1 (shut_bool htb _)
 ·rw [List.append_nil,hsd]
  have h1:=rS (w':=W') hA (fun x hx=>Ve.same (hlt x hx))
  exact DataW.TrodAll.respare (kids_rows oX hmr) (fun t e ht hu=>slices_full_of P hz t e ht hu) (fun t ht=>cu (List.all_eq_true.1 NT t ht)) h1 (fun x hx=>by simpa using hlt x hx)
 ·rw [Ra,List.append_nil,hsd]
  exact rfl
end Sx
namespace Sx
theorem S9 {a:AV} (h:G6 af [.s] a):∃ l:ai ae,a=.s l∧l.length≤Go.maxLen:=by
 obtain ⟨lf,e,h⟩:=h
 cases e
 cases h with
 | s l h=>exact ⟨l,rfl,h⟩
theorem Wx {p:ay×ai Lf} {as:ai AV} (h:Bx [p] as):∃ a,as=[a]∧G6 p.1 p.2 a:=by
 match as,h with
 | [a],h=>exact ⟨a,rfl,h.1⟩
end Sx
namespace Sx
open Go
structure Ctx where
 st:ae
 el:ae
 en:ay
 at':ae
 qu:ae
 pa:ae
 su:ae
 es:ay
 da:ae
 nm:ai ae
 deriving DecidableEq
abbrev cx (st el:ae) (en:ay) (at' qu pa su:ae) (es:ay) (da:ae) (nm:ai ae):AV :=
 .ag [.u8 st,.u8 el,.b en,.u8 at',.u8 qu,.u8 pa,.u8 su,.b es,.u8 da,.s nm]
abbrev Ctx.av (c:Ctx):AV:=cx c.st c.el c.en c.at' c.qu c.pa c.su c.es c.da c.nm
@[simp] theorem Wy (a b c d e f g h i j:AV):AV.cm 10 (.ag [a,b,c,d,e,f,g,h,i,j])=aa [a,b,c,d,e,f,g,h,i,j]:=rfl
section get
variable (a b c d e f g h i j:AV)
@[simp] theorem abH:[a,b,c,d,e,f,g,h,i,j].getD 0 .un=a:=rfl
@[simp] theorem abI:[a,b,c,d,e,f,g,h,i,j].getD 1 .un=b:=rfl
@[simp] theorem abJ:[a,b,c,d,e,f,g,h,i,j].getD 2 .un=c:=rfl
@[simp] theorem abK:[a,b,c,d,e,f,g,h,i,j].getD 3 .un=d:=rfl
@[simp] theorem abL:[a,b,c,d,e,f,g,h,i,j].getD 4 .un=e:=rfl
@[simp] theorem abM:[a,b,c,d,e,f,g,h,i,j].getD 5 .un=f:=rfl
@[simp] theorem abN:[a,b,c,d,e,f,g,h,i,j].getD 6 .un=g:=rfl
@[simp] theorem abO:[a,b,c,d,e,f,g,h,i,j].getD 7 .un=h:=rfl
@[simp] theorem abP:[a,b,c,d,e,f,g,h,i,j].getD 8 .un=i:=rfl
@[simp] theorem abQ:[a,b,c,d,e,f,g,h,i,j].getD 9 .un=j:=rfl
end get
def fc (a b:Ctx):ay :=
 a.st == b.st && (a.el == b.el && (a.en == b.en && (a.at' == b.at' && (a.qu == b.qu && (a.pa == b.pa && (a.su == b.su && (a.es == b.es && (a.da == b.da && a.nm == b.nm))))))))
@[simp] theorem Wz (st el:ae) (en:ay) (at' qu pa su:ae) (es:ay) (da:ae) (nm:ai ae) (ea BA:ae) (BB:ay) (rT BC BD C1:ae) (C2:ay) (BF:ae) (BG:ai ae) :
  nh [.i,.i,.b,.i,.i,.i,.i,.b,.i,.s] .eql (.ag [.u8 st,.u8 el,.b en,.u8 at',.u8 qu,.u8 pa,.u8 su,.b es,.u8 da,.s nm]) (.ag [.u8 ea,.u8 BA,.b BB,.u8 rT,.u8 BC,.u8 BD,.u8 C1,.b C2,.u8 BF,.s BG]) =
   aa (.b (fc ⟨st,el,en,at',qu,pa,su,es,da,nm⟩ ⟨ea,BA,BB,rT,BC,BD,C1,C2,BF,BG⟩)):=by
 simp only [nh,eqs,Oc,Option.bind_some,fc,Bool.and_true]
@[simp] theorem DI (st el:ae) (en:ay) (at' qu pa su:ae) (es:ay) (da:ae) (nm:ai ae) (ea BA:ae) (BB:ay) (rT BC BD C1:ae) (C2:ay) (BF:ae) (BG:ai ae) :
  nh [.i,.i,.b,.i,.i,.i,.i,.b,.i,.s] .neq (.ag [.u8 st,.u8 el,.b en,.u8 at',.u8 qu,.u8 pa,.u8 su,.b es,.u8 da,.s nm]) (.ag [.u8 ea,.u8 BA,.b BB,.u8 rT,.u8 BC,.u8 BD,.u8 C1,.b C2,.u8 BF,.s BG]) =
   aa (.b (!fc ⟨st,el,en,at',qu,pa,su,es,da,nm⟩ ⟨ea,BA,BB,rT,BC,BD,C1,C2,BF,BG⟩)):=by
 simp only [nh,eqs,Oc,Option.bind_some,fc,Bool.and_true]
theorem DJ (a b:Ctx):fc a b=decide (a=b):=by
 obtain ⟨⟩:=a;obtain ⟨⟩:=b
 rw [Bool.eq_iff_iff]
 simp only [fc,Ctx.mk.injEq,Bool.and_eq_true,bK,aG]
theorem uh (st:ae):st=0∨st=1∨st=2∨st=3∨st=4∨st=5∨st=6∨st=7∨st=8∨st=9∨st=10∨st=11∨st=12∨st=13∨st=14∨st=15∨st=16∨st=17∨st=18∨st=19∨st=20∨20 < st:=by
 have:=l8 (p:=fun st=>st == 0 || (st == 1 || (st == 2 || (st == 3 || (st == 4 || (st == 5 || (st == 6 || (st == 7 || (st == 8 || (st == 9 || (st == 10 || (st == 11 || (st == 12 || (st == 13 || (st == 14 || (st == 15 || (st == 16 || (st == 17 || (st == 18 || (st == 19 || (st == 20 || decide (20 < st)))))))))))))))))))))) (by kernel_rfl) st
 simpa only [Bool.or_eq_true,bK,aG] using this
theorem lN (x:ae):x=0∨x=1∨x=2∨x=3∨x=4∨4 < x:=by
 have:=l8 (p:=fun st=>st == 0 || (st == 1 || (st == 2 || (st == 3 || (st == 4 || decide (4 < st)))))) (by kernel_rfl) x
 simpa only [Bool.or_eq_true,bK,aG] using this
theorem DK (x:ae):x=0∨x=1∨x=2∨x=3∨x=4∨x=5∨5 < x:=by
 have:=l8 (p:=fun st=>st == 0 || (st == 1 || (st == 2 || (st == 3 || (st == 4 || (st == 5 || decide (5 < st))))))) (by kernel_rfl) x
 simpa only [Bool.or_eq_true,bK,aG] using this
theorem K7 (x:ae):x=0∨x=1∨x=2∨x=3∨x=4∨x=5∨x=6∨6 < x:=by
 have:=l8 (p:=fun st=>st == 0 || (st == 1 || (st == 2 || (st == 3 || (st == 4 || (st == 5 || (st == 6 || decide (6 < st)))))))) (by kernel_rfl) x
 simpa only [Bool.or_eq_true,bK,aG] using this
theorem mO {k:ax} (h:k < 256):(OfNat.ofNat k:ae).toNat=k:=dO h
theorem fN (x:ae) (k:ax) (h:k < 256):((x.toNat:aB) == (OfNat.ofNat k:aB))=(x == (OfNat.ofNat k:ae)):=by
 have h1:=mO h
 rw [Bool.eq_iff_iff,bK,bK]
 show (x.toNat:aB)=((k:ax):aB)↔_
 exact ⟨fun e=>bP.1 (by rw [h1];omega),fun e=>by rw [e,h1]⟩
theorem G7 (x:ae) (k:ax) (h:k < 256):((x.toNat:aB) != (OfNat.ofNat k:aB))=(x != (OfNat.ofNat k:ae)):=by
 simp only [bne,fN x k h]
theorem S' (x:ae) (k:ax) (h:k < 256):decide ((x.toNat:aB)≤(OfNat.ofNat k:aB))=decide (x≤(OfNat.ofNat k:ae)):=by
 have h1:=mO h
 rw [decide_eq_decide,bq,h1]
 show (x.toNat:aB)≤((k:ax):aB)↔_
 omega
theorem Ta (x:ae) (k:ax) (h:k < 256):decide ((OfNat.ofNat k:aB)≤(x.toNat:aB))=decide ((OfNat.ofNat k:ae)≤x):=by
 have h1:=mO h
 rw [decide_eq_decide,bq,h1]
 show ((k:ax):aB)≤(x.toNat:aB)↔_
 omega
theorem aan (x:ae) (k:ax) (h:k < 256):decide ((OfNat.ofNat k:aB) < (x.toNat:aB))=decide ((OfNat.ofNat k:ae) < x):=by
 have h1:=mO h
 rw [decide_eq_decide,bg,h1]
 show ((k:ax):aB) < (x.toNat:aB)↔_
 omega
def low (l:ai ae):ay:=l.all fun b=>!(decide (65≤b) && decide (b≤90))
def small (l:ai ae) (most:aB):ay:=low l && (decide (1≤l.length) && decide ((l.length:aB)≤most))
def pre (p l:ai ae):ay:=decide (p.length≤l.length) && l.take p.length == p
theorem sS {l:ai ae} {i:ax} (h:i≤l.length):nM (.s l) ah (aa (.int (i:aB)))=aa (.s (l.take i)):=by
 show ((mJ l.length ah (aa (.int (i:aB)))).bind fun p=>aa (AV.s ((l.take p.2).drop p.1)))=_
 simp [mJ,G3 h]
theorem sT {l:ai ae} {i:ax} (h:i≤l.length):nM (.s l) (aa (.int (i:aB))) ah=aa (.s (l.drop i)):=by
 show ((mJ l.length (aa (.int (i:aB))) ah).bind fun p=>aa (AV.s ((l.take p.2).drop p.1)))=_
 simp [mJ,G3 h]
theorem zA {α:Type}:(∀ (l:ai α) (i:ax),l.toArray[i]?=l[i]?)∧(∀ (a:α) (l:ai α) (i:ax),(a :: l)[i+1]?=l[i]?)∧∀ (a:α) (l:ai α),(a :: l)[0]?=aa a :=
 ⟨fun _ _=>by simp,fun _ _ _=>by simp,fun _ _=>by simp⟩
theorem zB {α:Type}:(∀ (l:ai α) (i:ax) (a:α),l.toArray.setIfInBounds i a=(l.set i a).toArray)∧(∀ (a b:α) (l:ai α),(a :: l).set 0 b=b :: l)∧∀ (a b:α) (l:ai α) (n:ax),(a :: l).set (n+1) b=a :: l.set n b :=
 ⟨fun _ _ _=>by simp,fun _ _ _=>by simp,fun _ _ _ _=>by simp⟩
theorem zC {α:Type}:(∀ l:ai α,l.toArray.size=l.length)∧(∀ (a:α) (l:ai α),(a :: l).length=l.length+1)∧([]:ai α).length=0∧(∀ (n:ax) (a:α),Array.replicate (n+1) a=(Array.replicate n a).push a)∧(∀ a:α,Array.replicate 0 a = #[]) ∧
  (∀ (l:ai α) (a:α),l.toArray.push a=(l ++ [a]).toArray)∧(∀ l m:ai α,l.toArray ++ m.toArray=(l ++ m).toArray)∧(∀ l:ai α,[] ++ l=l)∧∀ (a:α) (l m:ai α),a :: l ++ m=a :: (l ++ m) :=
 ⟨fun _=>by simp,fun _ _=>by simp,rfl,fun _ _=>Array.replicate_succ,fun _=>rfl,fun _ _=>by simp,fun _ _=>by simp,fun _=>rfl,fun _ _ _=>rfl⟩
theorem zT {a b c d e f g h i j:AV}:[a,b,c,d,e,f,g,h,i,j].getD 0 .un=a∧[a,b,c,d,e,f,g,h,i,j].getD 1 .un=b∧[a,b,c,d,e,f,g,h,i,j].getD 2 .un=c∧[a,b,c,d,e,f,g,h,i,j].getD 3 .un=d∧[a,b,c,d,e,f,g,h,i,j].getD 4 .un=e ∧
  [a,b,c,d,e,f,g,h,i,j].getD 5 .un=f∧[a,b,c,d,e,f,g,h,i,j].getD 6 .un=g∧[a,b,c,d,e,f,g,h,i,j].getD 7 .un=h∧[a,b,c,d,e,f,g,h,i,j].getD 8 .un=i∧[a,b,c,d,e,f,g,h,i,j].getD 9 .un=j :=
 ⟨rfl,rfl,rfl,rfl,rfl,rfl,rfl,rfl,rfl,rfl⟩
end Sx
namespace Sx
open Go Go.RowKit Go.WideShapes Go.ChangeShapes
def Y5 {H:Type}:DataW H→AV
 | .lit (.bool b)=>.b b
 | .lit (.int .u8 n)=>.u8 (UInt8.ofNat n.toNat)
 | .lit (.int .i64 n)=>.int n
 | .lit (.int k n)=>.ik k n
 | .lit (.string l)=>.s l
 | _=>.un
def xe (P:bn) (t:TypeId):ay:=match P.underlying t with | some .bool | some (.int _) | some .string=>aj | _=>af
section
variable {H:Type} {enc:TypeId×aC→H} {P:bn} {w:az} {base:ax} {spare:ax→ay} {held:ay}
theorem DL {fuel:ax} {t:TypeId} {cs:ai aC} {x:DataW H×ai MemPlace} (hs:xe P t=aj) (h:DataW.trod enc P w base spare held fuel t cs=aa x):∃ v,cs=[v]∧v.oneCell'=aj∧Rel w (fun _=>True) (Y5 x.1) v:=by
 unfold xe at hs
 split at hs
 ·rename_i hu
  obtain ⟨b,rfl,rfl⟩:=DataW.trod_bool hu h
  exact ⟨_,rfl,rfl,.b b⟩
 ·rename_i k hu
  obtain ⟨n,rfl,rfl,hw⟩:=DataW.trod_int hu h
  refine ⟨_,rfl,rfl,?_⟩
  cases k <;> first | exact .int n | exact .ik _ n | skip
  have hb:0≤n∧n < 256:=by
   simp only [Lit.wf,Bool.and_eq_true,aG] at hw
   have h1:IntKind.u8.min=0:=rfl
   have h2:IntKind.u8.max=255:=rfl
   omega
  have:=Rel.u8 (w:=w) (F:=fun _=>True) (UInt8.ofNat n.toNat)
  rw [dO (by show n.toNat < 256;omega)] at this
  rwa [show ((n.toNat:ax):aB)=n by omega] at this
 ·rename_i hu
  obtain ⟨s,rfl,rfl,_⟩:=DataW.trod_string hu h
  exact ⟨_,rfl,rfl,.s s⟩
 ·cases hs
def DM (P:bn):ax→ai Field→ay
 | _,[]=>aj
 | n,f :: r=>Nat.beq f.offset n && xe P f.type && Nat.beq (P.cellsOf f.type) 1 && DM P (n+1) r
theorem DN:∀ {n:ax} {fs:ai Field},DM P n fs=aj→∀ (i:ax) (f:Field),fs[i]?=aa f→f.offset=n+i∧xe P f.type=aj∧P.cellsOf f.type=1
 | n,[],_,i,f,h=>by simp at h
 | n,g :: r,hb,i,f,h=>by
  simp only [DM,Bool.and_eq_true] at hb
  cases i with
  | zero=>simp at h;subst h;exact ⟨aF hb.1.1.1,hb.1.1.2,aF hb.1.2⟩
  | succ i =>
   obtain ⟨h1,h2⟩:=DN hb.2 i f (by simpa using h)
   exact ⟨by omega,h2⟩
theorem Ji {fuel:ax} {t:TypeId} {fs:bF Field} {cs:ai aC} {x:DataW H×ai MemPlace} (hu:P.underlying t=aa (.struct fs)) (hb:DM P 0 fs.toList=aj) (h:DataW.trod enc P w base spare held fuel t cs=aa x) :
  ∃ parts,x.1=.agg parts∧parts.length=fs.size∧∀ (i:ax) (d:DataW H),parts[i]?=aa d→∃ v,cs[i]?=aa v∧v.oneCell'=aj∧Rel w (fun _=>True) (Y5 d) v:=by
 obtain ⟨xs,n,rfl,rfl,qW,GL,wS⟩:=DataW.trod_struct hu h
 refine ⟨_,rfl,by simpa using GL,fun i d hd=>?_⟩
 simp only [aM,Option.map_eq_some_iff] at hd
 obtain ⟨y,hy,rfl⟩:=hd
 have hi:i < fs.size:=by have:=(List.getElem?_eq_some_iff.1 hy).1;omega
 have hf:fs.toList[i]?=aa fs[i]:=by simp [hi]
 obtain ⟨h1,h2,h3⟩:=DN hb i _ hf
 have ht:=wS i fs[i] (by simp [hi])
 rw [hy,h1,h3,Nat.zero_add] at ht
 obtain ⟨v,hv,h4,h5⟩:=DL h2 ht
 refine ⟨v,?_,h4,h5⟩
 have:((cs.drop i).take 1)[0]?=aa v:=by rw [hv];rfl
 simpa using this
end
theorem E8 {C:jT} {P:bn} {w:az} {name:String} {g t k:ax} {fs:bF Field} {parts:ai (DataW Unit)} {e:AV} (hC:∀ g' k' e',C.glob g'=aa (k',e')→g'=g∧k'=k∧e'=e)
  (hg:P.globalNamed name=aa g) (ht:(P.globals[g]?).map (·.type)=aa t) (hu:P.underlying t=aa (.struct fs)) (hb:DM P 0 fs.toList=aj)
  (hk:k=parts.length) (vM:0 < k) (he:∀ j,j < k→e.cell j=Y5 (parts.getD j .nil)) {ps:ai MemPlace} (hl:DataW.LaidVars P w [(name,.agg parts)] ps):cG C w (fun _=>True):=by
 intro g' k' e' h
 obtain ⟨rfl,rfl,rfl⟩:=hC _ _ _ h
 obtain ⟨g2,t2,cs,fuel,p,q,h1,h2,h3,h4,_⟩:=hl
 obtain rfl:=Option.some.inj (hg.symm.trans h1)
 obtain rfl:=Option.some.inj (ht.symm.trans h2)
 obtain ⟨parts',e1,_,hp⟩:=Ji hu hb h4
 cases e1
 unfold World.var? at h3
 rw [hg] at h3
 simp only [Option.bind_some] at h3
 split at h3
 ·rename_i cs' ty fr hh
  cases h3
  have hlt:g' < w.heap.size:=(Array.getElem?_eq_some_iff.1 hh).1
  refine ⟨g',0,rfl,trivial,hlt,fun j hj=>?_⟩
  have hj':parts[j]?=aa (parts.getD j .nil):=by
   rw [aK,List.getElem?_eq_getElem (by omega)];rfl
  obtain ⟨v,hv,h5,h6⟩:=hp j _ hj'
  refine ⟨v,?_,h5,?_⟩
  ·simp only [World.cell?,hh,Nat.zero_add]
   simpa using hv
  ·rw [he j hj];exact h6
 ·cases h3
end Sx
namespace Sx
open Go
def rU (st el at':ae):ay:=st == 8 && (at' == 2 || at' == 3) || (decide (17≤st) && decide (st≤19)) && (el == 3 || el == 4)
def nameOf (el:ae):ai ae :=
 if el=1 then [116,101,120,116,97,114,101,97] else if el=2 then [116,105,116,108,101] else if el=3 then [115,99,114,105,112,116] else if el=4 then [115,116,121,108,101] else []
theorem nlt (n:ae):(20 < n)→¬ n=0∧¬ n=1∧¬ n=2∧¬ n=3∧¬ n=4∧¬ n=5∧¬ n=6∧¬ n=7∧¬ n=8∧¬ n=9∧¬ n=10∧¬ n=11∧¬ n=12∧¬ n=13∧¬ n=14∧¬ n=15∧¬ n=16∧¬ n=17∧¬ n=18∧¬ n=19:=by
 intro h
 refine ⟨?_,?_,?_,?_,?_,?_,?_,?_,?_,?_,?_,?_,?_,?_,?_,?_,?_,?_,?_,?_⟩ <;> (rintro rfl;revert h;decide)
def gA (su:ae) (es script:ay):ay:=(script || su != 4) && (!es || su == 1 || su == 2)
def G8 (st:ae):ay:=decide (4≤st) && decide (st≤10)
def DO (st:ae):ay:=decide (17≤st) && decide (st≤19)
def form (c:Ctx):ay :=
 if decide (20 < c.st) || decide (4 < c.el) || decide (4 < c.at') || decide (5 < c.pa) || decide (6 < c.su) || decide (2 < c.da) then af
 else if (c.el != 0 && !G8 c.st && !DO c.st) || (DO c.st && c.el == 0) then af
 else if c.en && ((c.st != 3 && !G8 c.st) || c.el != 0) then af
 else if c.at' != 0 && c.st != 7 && c.st != 8 then af
 else if c.qu != 0 && (c.st != 8 || (c.qu != 34 && c.qu != 39)) then af
 else if c.pa != 0 && (c.st != 8 || c.at' != 1) then af
 else if c.da != 0 && c.st != 15 then af
 else if (c.su != 0 && !rU c.st c.el c.at') || (((c.st == 8 && c.at' == 3) || (DO c.st && c.el == 4)) && c.su == 4) then af
 else if c.es && c.su != 1 && c.su != 2 then af
 else if c.st == 3 || c.st == 5 || c.st == 6 then small c.nm 32
 else if c.st == 8 && c.at' == 1 && c.pa == 1 then small c.nm 16
 else if c.st == 19 then pre c.nm (nameOf c.el)
 else c.nm == []
theorem K8 {c:ay} {a b:ay}:(if c=aj then aa (AV.b a) else aa (AV.b b))=aa (.b (if c=aj then a else b)):=by cases c <;> rfl
def ui (c t:Ctx):ay :=
 if (c.qu != 0 && c.qu != 34 && c.qu != 39)=aj then af
 else if (c.at' == 1)=aj then (if (c.pa == 1)=aj then fc c ⟨t.st,t.el,t.en,c.at',c.qu,c.pa,t.su,t.es,t.da,c.nm⟩ && small c.nm 16 else fc c ⟨t.st,t.el,t.en,c.at',c.qu,c.pa,t.su,t.es,t.da,t.nm⟩)
 else if (c.at' == 2 || c.at' == 3)=aj then fc c ⟨t.st,t.el,t.en,c.at',c.qu,t.pa,c.su,c.es,t.da,t.nm⟩ && gA c.su c.es (c.at' == 2)
 else fc c ⟨t.st,t.el,t.en,c.at',c.qu,t.pa,t.su,t.es,t.da,t.nm⟩
def DR (c:Ctx):ay :=
 if (decide (20 < c.st) || decide (4 < c.el) || decide (4 < c.at') || decide (5 < c.pa) || decide (6 < c.su) || (c.en && c.el != 0))=aj then af
 else if (c.st == 3)=aj then fc c ⟨c.st,0,c.en,0,0,0,0,af,0,c.nm⟩ && small c.nm 32
 else if (c.st == 4 || c.st == 9 || c.st == 10)=aj then fc c ⟨c.st,c.el,c.en,0,0,0,0,af,0,[]⟩
 else if (c.st == 5 || c.st == 6)=aj then fc c ⟨c.st,c.el,c.en,0,0,0,0,af,0,c.nm⟩ && small c.nm 32
 else if (c.st == 7)=aj then fc c ⟨c.st,c.el,c.en,c.at',0,0,0,af,0,[]⟩
 else if (c.st == 8)=aj then ui c ⟨c.st,c.el,c.en,0,0,0,0,af,0,[]⟩
 else if (c.st == 15)=aj then fc c ⟨c.st,0,af,0,0,0,0,af,c.da,[]⟩ && decide (c.da≤2)
 else if (c.st == 17 || c.st == 18 || c.st == 19)=aj then (fc c ⟨c.st,c.el,af,0,0,0,if (c.el == 3 || c.el == 4)=aj then c.su else 0,if (c.el == 3 || c.el == 4)=aj then c.es else af,0,if (c.st == 19)=aj then c.nm else []⟩ && (c.el != 0) && pre c.nm (nameOf c.el) && gA c.su c.es (c.el == 3))
 else fc c ⟨c.st,0,af,0,0,0,0,af,0,[]⟩
theorem G9 (st el:ae) (en:ay) (at' qu pa su:ae) (es:ay) (da:ae) (nm:ai ae):DR ⟨st,el,en,at',qu,pa,su,es,da,nm⟩=form ⟨st,el,en,at',qu,pa,su,es,da,nm⟩:=by
 unfold DR form
 dsimp only
 rcases uh st with h | h | h | h | h | h | h | h | h | h | h | h | h | h | h | h | h | h | h | h | h | h
 all_goals try subst h
 all_goals try simp [G8,DO,fc,rU,gA,ui, *]
 all_goals try (grind;done)
 ·rcases lN at' with h | h | h | h | h | h
  all_goals try subst h
  all_goals simp [*]
  all_goals try (grind;done)
 all_goals (have hp:pre [] (nameOf el)=aj:=by simp [pre]);cases nm <;> simp [hp] <;> rcases lN el with h | h | h | h | h | h <;> (try subst h) <;> (try simp [*]) <;> (try grind)
def hole (c:Ctx):ae :=
 if c.st == 0 then 1
 else if c.st == 17 then (if c.el == 1 || c.el == 2 then 2 else if (c.su == 1 || c.su == 2) && !c.es && c.el == 3 then 7 else if (c.su == 1 || c.su == 2) && !c.es && c.el == 4 then 9 else 0)
 else if c.st == 8 then
  (if c.qu == 0 then 0 else if c.at' == 0 then 3
  else if c.at' == 1 then (if c.pa == 0 then 4 else if c.pa == 3 then 5 else if c.pa == 4 then 6 else 0)
  else if c.at' == 2 then (if (c.su == 1 || c.su == 2) && !c.es then 8 else 0)
  else if c.at' == 3 then (if (c.su == 1 || c.su == 2) && !c.es then 10 else 0) else 0)
 else 0
def dp:Ctx:=⟨20,0,af,0,0,0,0,af,0,[]⟩
def after (c:Ctx):Ctx:=if hole c == 0 then dp else if hole c == 4 then { c with pa:=2 } else c
def uY (nm:ai ae):ae :=
 if nm == [116,101,120,116,97,114,101,97] then 1 else if nm == [116,105,116,108,101] then 2 else if nm == [115,99,114,105,112,116] then 3 else if nm == [115,116,121,108,101] then 4 else 0
def urls:ai (ai ae):=[[97,99,116,105,111,110],[98,97,99,107,103,114,111,117,110,100],[99,105,116,101],[100,97,116,97],[102,111,114,109,97,99,116,105,111,110],[104,114,101,102],[108,111,110,103,100,101,115,99],[109,97,110,105,102,101,115,116],[112,111,115,116,101,114],[115,114,99],[120,108,105,110,107,58,104,114,101,102]]
def E9:ai (ai ae):=[[115,114,99,100,111,99],[115,114,99,115,101,116],[105,109,97,103,101,115,114,99,115,101,116],[99,111,110,116,101,110,116],[104,116,116,112,45,101,113,117,105,118]]
def nz (nm:ai ae):ae :=
 if urls.contains nm then 1 else if nm == [115,116,121,108,101] then 3 else if E9.contains nm then 4 else if decide (2 < nm.length) && pre [111,110] nm then 2 else 0
theorem Jj {a b:ai ae} (h:(a == b)=af):(b == a)=af:=by
 rw [beq_eq_false_iff_ne] at h ⊢;exact fun e=>h e.symm
theorem Rb (P:ai (ai ae)) (c:ai ae) (R:ai (ai ae)):pN ((P ++ c :: R).map AV.s).length (.int (P.length:aB))=aa P.length:=ln (by simp)
theorem K9 (P:ai (ai ae)) (c:ai ae) (R:ai (ai ae)):((P ++ c :: R).map AV.s).getD P.length .un=.s c:=by simp
def Ctx.bw (c:Ctx):AV:=cx c.st c.el c.en c.at' c.qu c.pa c.su c.es c.da c.nm
theorem cg (st el:ae) (en:ay) (at' qu pa su:ae) (es:ay) (da:ae) (nm:ai ae) :
  (.ag [.u8 st,.u8 el,.b en,.u8 at',.u8 qu,.u8 pa,.u8 su,.b es,.u8 da,.s nm]:AV)=Ctx.bw ⟨st,el,en,at',qu,pa,su,es,da,nm⟩:=rfl
theorem cq (d:Ctx):(⟨d.st,d.el,d.en,d.at',d.qu,d.pa,d.su,d.es,d.da,d.nm⟩:Ctx)=d:=rfl
theorem bm (d:Ctx):AV.cm 10 d.bw=aa [.u8 d.st,.u8 d.el,.b d.en,.u8 d.at',.u8 d.qu,.u8 d.pa,.u8 d.su,.b d.es,.u8 d.da,.s d.nm]:=rfl
theorem nY (a b:Ctx):nh [.i,.i,.b,.i,.i,.i,.i,.b,.i,.s] .neq a.bw b.bw=aa (.b (!decide (a=b))):=by
 obtain ⟨⟩:=a;obtain ⟨⟩:=b
 rw [← DJ]
 exact DI ..
theorem cL (p:Prop) [Decidable p] (a b:Ctx):aa (Ctx.bw (if p then a else b))=if p then aa a.bw else aa b.bw:=by split <;> rfl
def tv (p:Ctx×ay):AV:=.tu [p.1.bw,.b p.2]
theorem La (c:Ctx) (b:ay):(.tu [c.bw,.b b]:AV)=tv (c,b):=rfl
theorem BH (p:Prop) [Decidable p] (a b:Ctx×ay):aa (tv (if p then a else b))=if p then aa (tv a) else aa (tv b):=by split <;> rfl
theorem O8 (p:Ctx×ay):cA (tv p) 0=aa p.1.bw:=rfl
theorem O9 (p:Ctx×ay):cA (tv p) 1=aa (.b p.2):=rfl
def ti (p:Ctx×aB):AV:=.tu [p.1.bw,.int p.2]
theorem Ha (c:Ctx) (n:aB):(.tu [c.bw,.int n]:AV)=ti (c,n):=rfl
theorem Pa (p:Ctx×aB):cA (ti p) 0=aa p.1.bw:=rfl
theorem Pc (p:Ctx×aB):cA (ti p) 1=aa (.int p.2):=rfl
theorem nZ (x:ae):GD (.ro 1 [.u8 x])=aa (.s [x]):=S7 (l:=[x]) (by show 1≤big;decide)
theorem qp {p q:ai ae} (h:p.length+q.length≤1000000):gR .add (.s p) (.s q)=aa (.s (p ++ q)):=Wq (Nat.le_trans h (by decide))
end Sx
namespace Sx
open Go
def dT (b:ae):ay:=b == 32 || b == 9 || b == 10 || b == 12 || b == 13
def letter (b:ae):ay:=decide (97≤b) && decide (b≤122) || decide (65≤b) && decide (b≤90)
def lC (b:ae):ae:=if decide (65≤b) && decide (b≤90) then b+32 else b
def ea (s:ae):Ctx:=⟨s,0,af,0,0,0,0,af,0,[]⟩
def opened (b:ae):Ctx×ay :=
 if letter b then (⟨3,0,af,0,0,0,0,af,0,[lC b]⟩,aj) else if b == 47 then (ea 2,aj) else if b == 33 then (ea 11,aj) else if b == 63 then (ea 16,aj) else (ea 0,af)
def closed (b:ae):Ctx:=if letter b then ⟨3,0,aj,0,0,0,0,af,0,[lC b]⟩ else if b == 62 then ea 0 else ea 16
def ou (el:ae):Ctx:=if el != 0 then ⟨17,el,af,0,0,0,0,af,0,[]⟩ else ea 0
def grown (c:Ctx) (b:ae):Ctx:=if decide (32≤c.nm.length) then dp else { c with nm:=c.nm ++ [lC b] }
def within (c:Ctx) (s:ae):Ctx:=⟨s,c.el,c.en,0,0,0,0,af,0,[]⟩
def ends (c:Ctx):ay:=c.su == 0 || c.su == 4
def j5 (c:Ctx) (b:ae):Ctx×ay :=
 if dT b then (c,af) else if b == 62 then (dp,af) else if b == 34 || b == 39 then ({ c with st:=8,qu:=b },af) else ({ c with st:=8 },aj)
def named (c:Ctx) (b:ae):Ctx×ay :=
 if b == 61 && c.nm != [] then ({ within c 7 with at':=nz c.nm },af) else if b == 47 || b == 62 then (within c 9,aj) else if dT b then ({ c with st:=6 },af)
 else if c.st == 6 then (within c 4,aj) else if b == 34 || b == 39 || b == 60 then (dp,af) else (grown c b,af)
def tag (c:Ctx) (b:ae):Ctx×ay :=
 if c.st == 3 then (if !dT b && b != 47 && b != 62 then (grown c b,af) else if !c.en then (within { c with el:=uY c.nm } 9,aj) else (within c 9,aj))
 else if c.st == 9 then (if dT b then (within c 4,af) else if b == 47 then (within c 10,af) else if b == 62 then (ou c.el,af) else (dp,af))
 else if c.st == 10 then (if b == 62 then (ou c.el,af) else (within c 4,aj))
 else if c.st == 4 then (if dT b then (c,af) else if b == 47 || b == 62 then (within c 9,aj) else if b == 61 then (dp,af) else ({ c with st:=5 },aj))
 else if c.st == 7 then j5 c b else named c b
def text (c:Ctx) (b:ae):Ctx :=
 if c.es then { c with es:=af } else if b == 92 then { c with es:=aj } else if b == 10 || b == 13 then dp else if b == 34 && c.su == 1 || b == 39 && c.su == 2 then { c with su:=0 } else c
def nB (c:Ctx) (b:ae) (script:ay):Ctx :=
 if b == 34 then { c with su:=1 } else if b == 39 then { c with su:=2 } else if b == 47 then { c with su:=3 } else if script && b == 96 then dp else if !script && (b == 40 || b == 92) then dp else c
def code (c:Ctx) (b:ae) (script:ay):Ctx :=
 if c.su == 0 then nB c b script
 else if c.su == 3 then (if b == 42 then { c with su:=5 } else if script && b == 47 then { c with su:=4 } else if script then dp else nB { c with su:=0 } b script)
 else if c.su == 1 then text c b else if c.su == 2 then text c b
 else if c.su == 4 then (if b == 10 || b == 13 then { c with su:=0 } else c)
 else if c.su == 5 then (if b == 42 then { c with su:=6 } else c)
 else if c.su == 6 then (if b == 47 then { c with su:=0 } else if b == 42 then c else { c with su:=5 }) else c
def DT (l:ai ae):ay:=l == [104,116,116,112] || l == [104,116,116,112,115] || l == [109,97,105,108,116,111]
def url (c:Ctx) (b:ae):Ctx :=
 if c.pa == 4 || c.pa == 5 then { c with nm:=[] } else if b == 38 then dp else if b == 63 || b == 35 then { c with pa:=4,nm:=[] } else if c.pa == 3 then { c with nm:=[] } else if b == 47 then { c with pa:=3,nm:=[] }
 else if b == 58 && c.pa == 2 then dp else if b == 58 then (if DT c.nm then { c with pa:=3,nm:=[] } else { c with pa:=5,nm:=[] }) else if c.pa == 2 then { c with nm:=[] }
 else if decide (16≤c.nm.length) then { c with pa:=1 } else { c with pa:=1,nm:=c.nm ++ [lC b] }
def ym (b:ae):ay:=b == 34 || b == 39 || b == 60 || b == 61 || b == 96
def value (c:Ctx) (b:ae):Ctx :=
 if (!(c.qu == 0) && b == c.qu) || (c.qu == 0 && (dT b || b == 62)) then (if !ends c then dp else if !(c.qu == 0) then within c 9 else if b == 62 then ou c.el else within c 4)
 else if c.qu == 0 && ym b then dp else if c.at' == 1 then url c b else if c.at' == 2 || c.at' == 3 then (if b == 38 then dp else code c b (c.at' == 2)) else c
def rV (c:Ctx):ai ae→Ctx
 | []=>c
 | b :: r=>if (code c b (c.el == 3)).st == 20 then dp else rV (code c b (c.el == 3)) r
def sU (c:Ctx) (s:ai ae) (feed:ay):Ctx :=
 if !feed || !rU 17 c.el c.at' then { c with st:=17,nm:=[] } else rV { c with st:=17,nm:=[] } s
def wW (c:Ctx) (b:ae) (feed:ay):Ctx :=
 if c.st == 20 then dp else if (sU c [b] feed).st == 17 && b == 60 then { sU c [b] feed with st:=18 } else sU c [b] feed
def raw (c:Ctx) (b:ae) (feed:ay):Ctx :=
 if c.st == 18 && b == 47 then { c with st:=19 }
 else if c.st == 18 && b == 33 && c.el == 3 then dp
 else if c.st == 19 && c.nm == nameOf c.el && (dT b || b == 47 || b == 62) then (if !ends c then dp else (tag ⟨9,0,aj,0,0,0,0,af,0,[]⟩ b).1)
 else if c.st == 19 && pre (c.nm ++ [lC b]) (nameOf c.el) then { c with nm:=c.nm ++ [lC b] }
 else if c.st == 19 then wW (sU c (47 :: c.nm) feed) b feed else wW c b feed
def note (c:Ctx) (b:ae):Ctx :=
 if c.st == 11 || c.st == 12 then (if b == 62 then ea 0 else if b == 45 && c.st == 11 then ea 12 else if b == 45 then ea 13 else ea 16)
 else if c.st == 13 || c.st == 14 then (if b == 62 then dp else if b == 45 && c.st == 13 then ea 14 else if b == 45 then ⟨15,0,af,0,0,0,0,af,2,[]⟩ else ea 15)
 else if c.st == 15 then (if b == 62 && c.da == 2 then ea 0 else if b == 33 && c.da == 2 then dp else if b == 45 then ⟨15,0,af,0,0,0,0,af,(if decide (2 < c.da+1) then 2 else c.da+1),[]⟩ else ea 15)
 else if c.st == 16 then (if b == 62 then ea 0 else c) else c
def Vt (s:ae):ay:=s == 3 || s == 4 || s == 5 || s == 6 || s == 7 || s == 9 || s == 10
def again:ax→Ctx→ae→ay→ak Ctx
 | 0,_,_,_=>ah
 | n+1,c,b,feed =>
  if c.st == 0 then (if b == 60 then aa { c with st:=1 } else aa c)
  else if c.st == 1 then (if (opened b).2 then aa (opened b).1 else again n { c with st:=0 } b feed)
  else if c.st == 2 then aa (closed b)
  else if Vt c.st then (if (tag c b).2 then again n (tag c b).1 b feed else aa (tag c b).1)
  else if c.st == 8 then aa (value c b)
  else if c.st == 17 || c.st == 18 || c.st == 19 then aa (raw c b feed)
  else aa (note c b)
end Sx
namespace Sx
theorem Lb (c:Ctx) (b:ae) (h:(named c b).2=aj):(named c b).1.nm.length≤c.nm.length:=by
 unfold named at *
 cases h1:(b == 61 && c.nm != []) <;> cases h2:(b == 47 || b == 62) <;> cases h3:dT b <;> cases h4:(c.st == 6) <;> cases h5:(b == 34 || b == 39 || b == 60) <;> rw [h1,h2,h3,h4,h5] at h <;> first | (cases h;done) | exact Nat.zero_le _
theorem Lc (c:Ctx) (b:ae) (h:(j5 c b).2=aj):(j5 c b).1.nm.length≤c.nm.length:=by
 unfold j5 at *
 cases h3:dT b <;> cases h4:(b == 62) <;> cases h5:(b == 34 || b == 39) <;> rw [h3,h4,h5] at h <;> first | (cases h;done) | exact Nat.le_refl _
theorem Tb (c:Ctx) (b:ae) (h:(tag c b).2=aj):(tag c b).1.nm.length≤c.nm.length:=by
 unfold tag at *
 cases h3:(c.st == 3) with
 | true =>
  rw [h3] at h
  cases h1:(!dT b && b != 47 && b != 62) <;> cases h2:c.en <;> rw [h1,h2] at h <;> first | (cases h;done) | exact Nat.zero_le _
 | false =>
 cases h9:(c.st == 9) with
 | true =>
  rw [h3,h9] at h
  cases h1:dT b <;> cases h2:(b == 47) <;> cases h4:(b == 62) <;> rw [h1,h2,h4] at h <;> cases h
 | false =>
 cases h10:(c.st == 10) with
 | true =>
  rw [h3,h9,h10] at h
  cases h1:(b == 62) <;> rw [h1] at h <;> first | (cases h;done) | exact Nat.zero_le _
 | false =>
 cases h4:(c.st == 4) with
 | true =>
  rw [h3,h9,h10,h4] at h
  cases h1:dT b <;> cases h2:(b == 47 || b == 62) <;> cases h5:(b == 61) <;> rw [h1,h2,h5] at h <;> first | (cases h;done) | exact Nat.zero_le _ | exact Nat.le_refl _
 | false =>
 cases h7:(c.st == 7) with
 | true =>
  rw [h3,h9,h10,h4,h7] at h
  exact Lc c b h
 | false =>
  rw [h3,h9,h10,h4,h7] at h
  exact Lb c b h
end Sx
namespace Sx
open Go
def uZ (s:ae):ax:=if s == 1 || s == 3 || s == 5 || s == 7 then 2 else if s == 4 then 3 else if s == 6 || s == 10 then 4 else 1
theorem Fa (c:Ctx) (b:ae) (h:(j5 c b).2=aj):uZ (j5 c b).1.st=1:=by
 unfold j5 at *
 cases h3:dT b <;> cases h4:(b == 62) <;> cases h5:(b == 34 || b == 39) <;> rw [h3,h4,h5] at h <;> first | (cases h;done) | rfl
theorem Fb (c:Ctx) (b:ae) (h:(named c b).2=aj):uZ (named c b).1.st=1∨(c.st == 6)=aj∧uZ (named c b).1.st=3:=by
 unfold named at *
 cases h1:(b == 61 && c.nm != []) <;> cases h2:(b == 47 || b == 62) <;> cases h3:dT b <;> cases h4:(c.st == 6) <;> cases h5:(b == 34 || b == 39 || b == 60) <;> rw [h1,h2,h3,h4,h5] at h <;> first | (cases h;done) | exact .inl rfl | exact .inr ⟨rfl,rfl⟩
theorem Ld (c:Ctx) (b:ae) (hT:Vt c.st=aj) (h:(tag c b).2=aj):uZ (tag c b).1.st < uZ c.st:=by
 unfold tag at *
 cases h3:(c.st == 3) with
 | true =>
  rw [h3] at h
  rw [bD h3]
  cases h1:(!dT b && b != 47 && b != 62) <;> cases h2:c.en <;> rw [h1,h2] at h <;> first | (cases h;done) | (show 1 < 2;omega)
 | false =>
 cases h9:(c.st == 9) with
 | true =>
  rw [h3,h9] at h
  cases h1:dT b <;> cases h2:(b == 47) <;> cases h4:(b == 62) <;> rw [h1,h2,h4] at h <;> cases h
 | false =>
 cases h10:(c.st == 10) with
 | true =>
  rw [h3,h9,h10] at h
  rw [bD h10]
  cases h1:(b == 62) <;> rw [h1] at h <;> first | (cases h;done) | (show 3 < 4;omega)
 | false =>
 cases h4:(c.st == 4) with
 | true =>
  rw [h3,h9,h10,h4] at h
  rw [bD h4]
  cases h1:dT b <;> cases h2:(b == 47 || b == 62) <;> cases h5:(b == 61) <;> rw [h1,h2,h5] at h <;> first | (cases h;done) | (show 1 < 3;omega) | (show 2 < 3;omega)
 | false =>
 cases h7:(c.st == 7) with
 | true =>
  rw [h3,h9,h10,h4,h7] at h
  have:=Fa c b h
  show uZ (j5 c b).1.st < uZ c.st
  rw [this,bD h7];show 1 < 2;omega
 | false =>
  rw [h3,h9,h10,h4,h7] at h
  show uZ (named c b).1.st < uZ c.st
  have Tc:(c.st == 5)=aj∨(c.st == 6)=aj:=by
   unfold Vt at hT
   rw [h3,h4,h7,h9,h10] at hT
   simpa using hT
  rcases Fb c b h with e | ⟨h6,e⟩
  ·rw [e]
   rcases Tc with h | h <;> rw [bD h]
   ·show 1 < 2;omega
   ·show 1 < 4;omega
  ·rw [e,bD h6];show 3 < 4;omega
theorem sV (b:ae) (feed:ay):∀ (n:ax) (c:Ctx),uZ c.st≤n→∃ d,again n c b feed=aa d
 | 0,c,h=>by
  unfold uZ at h
  repeat' split at h
  all_goals omega
 | n+1,c,h=>by
  unfold again
  split
  ·split <;> exact ⟨_,rfl⟩
  ·split
   ·rename_i h1
    split
    ·exact ⟨_,rfl⟩
    ·refine sV b feed n _ ?_
     rw [bD h1] at h
     have h':2≤n+1:=h
     show 1≤n;omega
   ·split
    ·exact ⟨_,rfl⟩
    ·split
     ·rename_i hT
      split
      ·rename_i h4
       refine sV b feed n _ ?_
       have:=Ld c b hT h4
       omega
      ·exact ⟨_,rfl⟩
     ·split
      ·exact ⟨_,rfl⟩
      ·split <;> exact ⟨_,rfl⟩
theorem Pd (s:ae):uZ s≤4:=by
 unfold uZ
 repeat' split
 all_goals omega
def mv (c:Ctx) (b:ae) (feed:ay):Ctx:=if form c then (again 4 c b feed).getD dp else dp
theorem BI (c:Ctx) (b:ae) (feed:ay) (h:form c=aj):again 4 c b feed=aa (mv c b feed):=by
 obtain ⟨d,hd⟩:=sV b feed 4 c (Pd c.st)
 unfold mv
 rw [h,hd];rfl
theorem Fc (c:Ctx) (b:ae) (feed:ay) (h:form c=af):mv c b feed=dp:=by
 unfold mv
 rw [h];rfl
def pI (c:Ctx) (b:ae):Ctx:=mv c b aj
theorem kD {p:Prop} [Decidable p] {q:ay} (h:(if p then af else q)=aj):¬ p∧q=aj:=by
 split at h
 ·cases h
 ·rename_i hp;exact ⟨hp,h⟩
theorem Ak (c:Ctx) (h:form c=aj):(if c.st == 3 || c.st == 5 || c.st == 6 then small c.nm 32 else if c.st == 8 && c.at' == 1 && c.pa == 1 then small c.nm 16 else if c.st == 19 then pre c.nm (nameOf c.el) else c.nm == [])=aj:=by
 unfold form at h
 exact (kD (kD (kD (kD (kD (kD (kD (kD (kD h).2).2).2).2).2).2).2).2).2
theorem Td {p l:ai ae} (h:pre p l=aj):p.length≤l.length:=by
 simp only [pre,Bool.and_eq_true,aG] at h
 exact h.1
theorem Jk (el:ae):(nameOf el).length≤8:=cu (l8 (p:=fun el=>decide ((nameOf el).length≤8)) (by kernel_rfl) el)
theorem vd {l:ai ae} {n:aB} (h:small l n=aj):1≤l.length∧(l.length:aB)≤n:=by
 simp only [small,Bool.and_eq_true,aG] at h
 exact h.2
theorem BJ (c:Ctx) (h:form c=aj):c.nm.length≤32:=by
 have h:=Ak c h
 split at h
 ·have:=vd h;omega
 ·split at h
  ·have:=vd h;omega
  ·split at h
   ·have:=Td h;have:=Jk c.el;omega
   ·rw [bD h];simp
end Sx
namespace Sx
open Go
def qq (c:Ctx) (b:ae) (script:ay):Ctx :=
 if script && b == 96 || !script && (b == 40 || b == 92) then dp else if b == 34 then (if b == 39 then (if b == 47 then { c with su:=3 } else { c with su:=2 }) else if b == 47 then { c with su:=3 } else { c with su:=1 })
 else if b == 39 then (if b == 47 then { c with su:=3 } else { c with su:=2 }) else if b == 47 then { c with su:=3 } else c
theorem Jl (c:Ctx) (b:ae) (script:ay):qq c b script=nB c b script:=by
 unfold qq nB
 cases Y6:(b == 34) with
 | true=>rw [bD Y6];cases script <;> rfl
 | false =>
 cases h39:(b == 39) with
 | true=>rw [bD h39];cases script <;> rfl
 | false =>
 cases Fe:(b == 47) with
 | true=>rw [bD Fe];cases script <;> rfl
 | false=>cases script <;> cases (b == 96) <;> cases (b == 40) <;> cases (b == 92) <;> rfl
def Al (c:Ctx) (b:ae):Ctx :=
 if c.es then { c with es:=af } else if b == 92 then (if b == 10 || b == 13 then dp else if c.su == 1 && b == 34 || c.su == 2 && b == 39 then { c with es:=aj,su:=0 } else { c with es:=aj })
 else if b == 10 || b == 13 then dp else if c.su == 1 && b == 34 || c.su == 2 && b == 39 then { c with su:=0 } else c
theorem Le (c:Ctx) (b:ae):Al c b=text c b:=by
 unfold Al text
 cases h92:(b == 92) with
 | true=>rw [bD h92];cases c.es <;> cases (c.su == 1) <;> cases (c.su == 2) <;> rfl
 | false=>cases c.es <;> cases (b == 10) <;> cases (b == 13) <;> cases (c.su == 1) <;> cases (c.su == 2) <;> cases (b == 34) <;> cases (b == 39) <;> rfl
def pJ (c:Ctx) (b:ae) (script:ay):Ctx :=
 if c.su == 0 then qq c b script else if c.su == 1 then Al c b else if c.su == 2 then Al c b
 else if c.su == 3 then (if b == 42 then { c with su:=5 } else if script && b == 47 then { c with su:=4 } else if script then dp else qq { c with su:=0 } b script)
 else if c.su == 4 then (if b == 10 || b == 13 then { c with su:=0 } else c)
 else if c.su == 5 then (if b == 42 then { c with su:=6 } else c)
 else if c.su == 6 then (if b == 47 then { c with su:=0 } else if b != 42 then { c with su:=5 } else c) else c
theorem yn (c:Ctx) (b:ae) (script:ay):pJ c b script=code c b script:=by
 unfold pJ code
 simp only [Jl,Le]
 cases h3:(c.su == 3) with
 | true=>rw [bD h3];rfl
 | false =>
  have:(if (b != 42)=aj then { c with su:=5 } else c:Ctx)=if (b == 42)=aj then c else { c with su:=5 }:=by
   unfold bne;cases (b == 42) <;> rfl
  rw [this]
  rfl
def BK (c:Ctx) (b:ae):Ctx :=
 if decide (4≤c.pa) then c else if b == 38 then dp else if b == 63 || b == 35 then { c with pa:=4,nm:=[] } else if c.pa == 3 then c else if b == 47 then { c with pa:=3,nm:=[] }
 else if b == 58 then (if c.pa == 2 then dp else if DT c.nm then { c with pa:=3,nm:=[] } else { c with pa:=5,nm:=[] }) else if c.pa == 2 then c
 else if decide (c.nm.length < 16) then { c with pa:=1,nm:=c.nm ++ [lC b] } else { c with pa:=1 }
theorem Pe (c:Ctx) (b:ae) (hp:c.pa≤5) (h:c.pa≠1→c.nm=[]):BK c b=url c b:=by
 obtain ⟨st,el,en,at',qu,pa,su,es,da,nm⟩:=c
 simp only at hp h
 unfold BK url
 simp only
 rcases DK pa with e | e | e | e | e | e | e
 ·subst e;have:=h (by decide);subst this;cases (b == 38) <;> cases (b == 63 || b == 35) <;> cases (b == 47) <;> cases (b == 58) <;> rfl
 ·subst e
  have e1:decide (nm.length < 16)=!decide (16≤nm.length):=by rw [← decide_not,decide_eq_decide];omega
  rw [e1]
  cases (b == 38) <;> cases (b == 63 || b == 35) <;> cases (b == 47) <;> cases (b == 58) <;> cases DT nm <;> cases decide (16≤nm.length) <;> rfl
 ·subst e;have:=h (by decide);subst this;cases (b == 38) <;> cases (b == 63 || b == 35) <;> cases (b == 47) <;> cases (b == 58) <;> rfl
 ·subst e;have:=h (by decide);subst this;cases (b == 38) <;> cases (b == 63 || b == 35) <;> rfl
 ·subst e;have:=h (by decide);subst this;rfl
 ·subst e;have:=h (by decide);subst this;rfl
 ·rw [bq] at hp;rw [bg] at e;omega
def rvalue (c:Ctx) (b:ae):Ctx :=
 if c.qu != 0 && b == c.qu then (if !(c.su == 0 || c.su == 4) then dp else within c 9)
 else if c.qu == 0 then (if dT b || b == 62 then (if !(c.su == 0 || c.su == 4) then dp else if b == 62 then ou c.el else within c 4) else if ym b then dp else
  (if c.at' == 1 then BK c b else if c.at' == 2 then (if b == 38 then dp else pJ c b (c.at' == 2)) else if c.at' == 3 then (if b == 38 then dp else pJ c b (c.at' == 2)) else c))
 else (if c.at' == 1 then BK c b else if c.at' == 2 then (if b == 38 then dp else pJ c b (c.at' == 2)) else if c.at' == 3 then (if b == 38 then dp else pJ c b (c.at' == 2)) else c)
theorem Jm (c:Ctx) (b:ae) (h:(c.at' == 1)=aj→BK c b=url c b):rvalue c b=value c b:=by
 have hc:(if c.at' == 1 then BK c b else if c.at' == 2 then (if b == 38 then dp else pJ c b (c.at' == 2)) else if c.at' == 3 then (if b == 38 then dp else pJ c b (c.at' == 2)) else c:Ctx) =
   if c.at' == 1 then url c b else if c.at' == 2 || c.at' == 3 then (if b == 38 then dp else code c b (c.at' == 2)) else c:=by
  simp only [yn]
  cases h1:(c.at' == 1) with
  | true=>rw [aJ rfl,aJ rfl,h h1]
  | false=>cases (c.at' == 2) <;> cases (c.at' == 3) <;> rfl
 unfold rvalue value ends
 rw [hc]
 unfold bne
 cases (c.qu == 0) <;> cases (b == c.qu) <;> cases (dT b || b == 62) <;> cases (ym b) <;> rfl
def DU (c:Ctx) (b:ae):Ctx :=
 if c.st == 11 || c.st == 12 then (if b == 62 then ea 0 else if b == 45 then (if c.st == 11 then ea 12 else ea 13) else ea 16)
 else if c.st == 13 || c.st == 14 then (if b == 62 then dp else if b != 45 then ea 15 else if c.st == 13 then ea 14 else ⟨15,0,af,0,0,0,0,af,2,[]⟩)
 else if c.st == 15 then (if b == 45 then (if decide (c.da < 2) then { c with da:=c.da+1 } else c) else if c.da == 2 && b == 62 then ea 0 else if c.da == 2 && b == 33 then dp else ea 15)
 else if c.st == 16 then (if b == 62 then ea 0 else c) else c
theorem nC (c:Ctx) (b:ae) (h:(c.st == 15)=aj→c=⟨15,0,af,0,0,0,0,af,c.da,[]⟩∧c.da≤2):DU c b=note c b:=by
 unfold DU note
 cases Y7:(c.st == 15) with
 | true =>
  obtain ⟨hc,hd⟩:=h Y7
  rw [bD Y7]
  have hx:((15:ae) == 11 || (15:ae) == 12)=af:=rfl
  have hy:((15:ae) == 13 || (15:ae) == 14)=af:=rfl
  rw [hx,hy]
  simp only [Bool.false_eq_true,aH,aO]
  cases h45:(b == 45) with
  | true =>
   rw [bD h45]
   have:c.da=0∨c.da=1∨c.da=2:=by
    have:=l8 (p:=fun d=>!decide (d≤2) || (d == 0 || (d == 1 || d == 2))) (by kernel_rfl) c.da
    simp only [Bool.or_eq_true,Bool.not_eq_true',aQ,bK] at this
    rcases this with h | h
    ·exact absurd hd h
    ·exact h
   rw [hc]
   rcases this with e | e | e <;> rw [e] <;> rfl
  | false=>cases (c.da == 2) <;> cases NY:(b == 62) <;> cases h33:(b == 33) <;> first | rfl | (rw [bD NY] at h33;cases h33)
 | false =>
  unfold bne
  cases h11:(c.st == 11) <;> cases (c.st == 12) <;> cases (c.st == 13) <;> cases (c.st == 14) <;> cases (c.st == 16) <;> cases (b == 62) <;> cases (b == 45) <;> rfl
theorem nD (c:Ctx) (h:form c=aj):DR c=aj:=by
 obtain ⟨⟩:=c
 rw [G9];exact h
theorem ly (c:Ctx) (h:form c=aj):(if (c.st == 3)=aj then fc c ⟨c.st,0,c.en,0,0,0,0,af,0,c.nm⟩ && small c.nm 32
 else if (c.st == 4 || c.st == 9 || c.st == 10)=aj then fc c ⟨c.st,c.el,c.en,0,0,0,0,af,0,[]⟩
 else if (c.st == 5 || c.st == 6)=aj then fc c ⟨c.st,c.el,c.en,0,0,0,0,af,0,c.nm⟩ && small c.nm 32
 else if (c.st == 7)=aj then fc c ⟨c.st,c.el,c.en,c.at',0,0,0,af,0,[]⟩
 else if (c.st == 8)=aj then ui c ⟨c.st,c.el,c.en,0,0,0,0,af,0,[]⟩
 else if (c.st == 15)=aj then fc c ⟨c.st,0,af,0,0,0,0,af,c.da,[]⟩ && decide (c.da≤2)
 else if (c.st == 17 || c.st == 18 || c.st == 19)=aj then (fc c ⟨c.st,c.el,af,0,0,0,if (c.el == 3 || c.el == 4)=aj then c.su else 0,if (c.el == 3 || c.el == 4)=aj then c.es else af,0,if (c.st == 19)=aj then c.nm else []⟩ && (c.el != 0) && pre c.nm (nameOf c.el) && gA c.su c.es (c.el == 3))
 else fc c ⟨c.st,0,af,0,0,0,0,af,0,[]⟩)=aj:=(kD (nD c h)).2
theorem lO {a b:Ctx} (h:fc a b=aj):a=b:=by rw [DJ] at h;exact cu h
theorem ri (c:Ctx) (h:form c=aj) (hs:c.st=0∨c.st=1∨c.st=2∨c.st=11∨c.st=12∨c.st=13∨c.st=14∨c.st=16∨c.st=20):c=ea c.st:=by
 have t:=ly c h
 rcases hs with e | e | e | e | e | e | e | e | e <;> rw [e] at t <;> have:=lO t <;> rw [e] <;> exact this
theorem DV (c:Ctx) (h:form c=aj) (e:c.st=3):c=⟨3,0,c.en,0,0,0,0,af,0,c.nm⟩∧small c.nm 32=aj:=by
 have t:=ly c h
 rw [e] at t
 have t:(fc c ⟨3,0,c.en,0,0,0,0,af,0,c.nm⟩ && small c.nm 32)=aj:=t
 rw [Bool.and_eq_true] at t
 exact ⟨lO t.1,t.2⟩
theorem DW (c:Ctx) (h:form c=aj) (e:c.st=4∨c.st=9∨c.st=10):c=within c c.st:=by
 have t:=ly c h
 rcases e with e | e | e <;> rw [e] at t <;> have:=lO t <;> rw [e] <;> exact this
theorem DX (c:Ctx) (h:form c=aj) (e:c.st=5∨c.st=6):c={ within c c.st with nm:=c.nm }∧small c.nm 32=aj:=by
 have t:=ly c h
 rcases e with e | e <;> rw [e] at t <;> (have t:=Bool.and_eq_true_iff.1 t) <;> rw [e] <;> exact ⟨lO t.1,t.2⟩
theorem DY (c:Ctx) (h:form c=aj) (e:c.st=7):c={ within c 7 with at':=c.at' }:=by
 have t:=ly c h
 rw [e] at t
 exact lO t
theorem Lg (c:Ctx) (h:form c=aj) (e:c.st=8):ui c ⟨8,c.el,c.en,0,0,0,0,af,0,[]⟩=aj:=by
 have t:=ly c h
 rw [e] at t
 exact t
theorem Am (c:Ctx) (h:form c=aj) (e:c.st=15):c=⟨15,0,af,0,0,0,0,af,c.da,[]⟩∧c.da≤2:=by
 have t:=ly c h
 rw [e] at t
 have t:(fc c ⟨15,0,af,0,0,0,0,af,c.da,[]⟩ && decide (c.da≤2))=aj:=t
 rw [Bool.and_eq_true] at t
 exact ⟨lO t.1,cu t.2⟩
theorem Hb (c:Ctx) (h:form c=aj):c.pa≤5:=by
 have t:=(kD (nD c h)).1
 simp only [Bool.or_eq_true,aG] at t
 rw [bq]
 have:¬ 5 < c.pa:=fun hh=>t (.inl (.inl (.inr hh)))
 rw [bg] at this
 omega
theorem Lh (c:Ctx) (h:form c=aj) (e:c.st=8):c.pa≠1→c.nm=[]:=by
 intro hp
 have t:=Ak c h
 rw [e] at t
 have h1:(c.pa == 1)=af:=by simpa using hp
 rw [h1,Bool.and_false] at t
 simpa using t
end Sx
namespace Sx
theorem Hc (nm:ai ae):uY nm≤4:=by
 unfold uY
 repeat' split
 all_goals decide
theorem rj (s el:ae) (en:ay) (hs:s=4∨s=9∨s=10):form ⟨s,el,en,0,0,0,0,af,0,[]⟩=(decide (el≤4) && !(en && el != 0)):=by
 rcases lN el with h | h | h | h | h | h
 ·subst h;cases en <;> rcases hs with e | e | e <;> subst e <;> rfl
 ·subst h;cases en <;> rcases hs with e | e | e <;> subst e <;> rfl
 ·subst h;cases en <;> rcases hs with e | e | e <;> subst e <;> rfl
 ·subst h;cases en <;> rcases hs with e | e | e <;> subst e <;> rfl
 ·subst h;cases en <;> rcases hs with e | e | e <;> subst e <;> rfl
 ·have h1:decide (el≤4)=af:=by rw [aQ,bq];rw [bg] at h;omega
  rw [h1,dn]
  unfold form
  have:decide (4 < el)=aj:=decide_eq_true h
  simp only [this,Bool.or_true,Bool.true_or,aO]
theorem n6 (c:Ctx) (h:form c=aj):c.el≤4∧(c.en && c.el != 0)=af:=by
 have t:=(kD (nD c h)).1
 simp only [fM,Bool.or_eq_false_iff,aQ] at t
 refine ⟨?_,t.2⟩
 have:=t.1.1.1.1.2
 rw [bg] at this
 rw [bq];omega
theorem fx (c:Ctx) (h:form c=aj) (s:ae) (hs:s=4∨s=9∨s=10):form (within c s)=aj:=by
 obtain ⟨h1,h2⟩:=n6 c h
 have:=rj s c.el c.en hs
 unfold within
 rw [this,h2,decide_eq_true h1];rfl
theorem xf (c:Ctx) (h:form c=aj):c.at'≤4:=by
 have t:=(kD (nD c h)).1
 simp only [fM,Bool.or_eq_false_iff,aQ] at t
 have:=t.1.1.1.2
 rw [bg] at this
 rw [bq];omega
theorem sW (el at' qu:ae) (en:ay) (h1:el≤4) (h2:(en && el != 0)=af) (h3:at'≤4) (h4:qu=0∨qu=34∨qu=39):form ⟨8,el,en,at',qu,0,0,af,0,[]⟩=aj:=by
 have l1:el=0∨el=1∨el=2∨el=3∨el=4:=by
  rcases lN el with h | h | h | h | h | h
  ·exact .inl h
  ·exact .inr (.inl h)
  ·exact .inr (.inr (.inl h))
  ·exact .inr (.inr (.inr (.inl h)))
  ·exact .inr (.inr (.inr (.inr h)))
  ·rw [bg] at h;rw [bq] at h1;omega
 have l3:at'=0∨at'=1∨at'=2∨at'=3∨at'=4:=by
  rcases lN at' with h | h | h | h | h | h
  ·exact .inl h
  ·exact .inr (.inl h)
  ·exact .inr (.inr (.inl h))
  ·exact .inr (.inr (.inr (.inl h)))
  ·exact .inr (.inr (.inr (.inr h)))
  ·rw [bg] at h;rw [bq] at h3;omega
 rcases l1 with e | e | e | e | e <;> subst e <;> cases en <;> first | (cases h2;done) | (rcases l3 with e | e | e | e | e <;> subst e <;> rcases h4 with e | e | e <;> subst e <;> rfl)
def Q (c:Ctx) (b:ae):Prop:=form c=aj∨(c=within c 5∧(b == 61)=af∧(b == 47 || b == 62)=af∧dT b=af)
theorem aao {c:Ctx} {b:ae} (h:Q c b):c.nm.length≤32:=by
 rcases h with h | ⟨h,_⟩
 ·exact BJ c h
 ·rw [h];exact Nat.zero_le _
theorem ve (x:ae):conv .u8 (.int (x.toNat:aB))=aa (.u8 x):=by
 rw [DB (DA x),jw]
theorem Jn (el:ae):ou el=if el == 0 then ea 0 else ⟨17,el,af,0,0,0,0,af,0,[]⟩:=by
 unfold ou bne
 by_cases h:(el == 0)=aj
 ·rw [h];rfl
 ·have:(el == 0)=af:=by simpa using h
  rw [this];rfl
def o9 (c:Ctx):ai ae→Ctx
 | []=>c
 | b :: r=>if (c.el == 3 || c.el == 4) && c.st == 17 then o9 (code c b (c.el == 3)) r else c
theorem yo (c:Ctx) (b:ae) (s:ay):nB c b s=dp∨((nB c b s).st=c.st∧(nB c b s).el=c.el):=by
 unfold nB
 repeat' split
 all_goals first | exact .inl rfl | exact .inr ⟨rfl,rfl⟩
theorem Jo (c:Ctx) (b:ae) (s:ay):code c b s=dp∨((code c b s).st=c.st∧(code c b s).el=c.el):=by
 unfold code
 split
 ·exact yo c b s
 ·split
  ·repeat' split
   all_goals first | exact .inl rfl | exact .inr ⟨rfl,rfl⟩ | exact yo _ b s
  ·unfold text
   repeat' split
   all_goals first | exact .inl rfl | exact .inr ⟨rfl,rfl⟩
theorem Ff (l:ai ae):o9 dp l=dp:=by cases l <;> rfl
theorem Ao:∀ (l:ai ae) (c:Ctx),(c.el == 3 || c.el == 4)=aj→(c.st == 17)=aj→o9 c l=rV c l
 | [],c,h1,h2=>rfl
 | b :: r,c,h1,h2=>by
  simp only [o9,rV,h1,h2,Bool.and_self,aO]
  rcases Jo c b (c.el == 3) with e | ⟨e1,e2⟩
  ·rw [e];exact Ff r
  ·have:((code c b (c.el == 3)).st == 20)=af:=by rw [e1,bD h2];rfl
   rw [this,aI (by simp)]
   exact Ao r _ (by rw [e2];exact h1) (by rw [e1];exact h2)
theorem Li (c:Ctx) (s:ai ae):o9 { c with st:=17,nm:=[] } s=sU c s aj:=by
 unfold sU
 have h:rU 17 c.el c.at'=(c.el == 3 || c.el == 4):=by
  unfold rU
  cases (c.el == 3 || c.el == 4) <;> rfl
 rw [h]
 cases he:(c.el == 3 || c.el == 4) with
 | true =>
  rw [aI (by simp)]
  exact Ao s _ he rfl
 | false =>
  rw [aJ (by simp)]
  cases s with
  | nil=>rfl
  | cons b r=>simp only [o9,he,dn,Bool.false_eq_true,aH]
theorem Fh (c:Ctx) (b:ae) (h:c.st=9):(tag c b).2=af:=by
 unfold tag
 rw [h]
 cases dT b <;> cases (b == 47) <;> cases (b == 62) <;> rfl
end Sx
namespace Sx
open Go
def Hd (el:ae) (en:ay):ay:=decide (el≤4) && !(en && el != 0)
theorem Lj (c:Ctx) (h:form c=aj):Hd c.el c.en=aj:=by
 obtain ⟨h1,h2⟩:=n6 c h
 unfold Hd
 rw [h2,decide_eq_true h1];rfl
theorem vg {el:ae} {en:ay} (h:Hd el en=aj):(en=aj∧el=0)∨(en=af∧(el=0∨el=1∨el=2∨el=3∨el=4)):=by
 unfold Hd at h
 rw [Bool.and_eq_true,aG] at h
 rcases lN el with e | e | e | e | e | e
 ·cases en
  ·exact .inr ⟨rfl,.inl e⟩
  ·exact .inl ⟨rfl,e⟩
 ·subst e;cases en
  ·exact .inr ⟨rfl,by decide⟩
  ·exact absurd h.2 (by decide)
 ·subst e;cases en
  ·exact .inr ⟨rfl,by decide⟩
  ·exact absurd h.2 (by decide)
 ·subst e;cases en
  ·exact .inr ⟨rfl,by decide⟩
  ·exact absurd h.2 (by decide)
 ·subst e;cases en
  ·exact .inr ⟨rfl,by decide⟩
  ·exact absurd h.2 (by decide)
 ·have:=h.1
  rw [bq] at this
  rw [bg] at e
  omega
theorem mk3 (en:ay) (nm:ai ae):form ⟨3,0,en,0,0,0,0,af,0,nm⟩=small nm 32:=by cases en <;> rfl
theorem mkT {el:ae} {en:ay} (h:Hd el en=aj) (s:ae) (hs:s=4∨s=9∨s=10):form ⟨s,el,en,0,0,0,0,af,0,[]⟩=aj:=by
 rw [rj s el en hs];exact h
theorem mk5 {el:ae} {en:ay} (h:Hd el en=aj) (s:ae) (hs:s=5∨s=6) (nm:ai ae):form ⟨s,el,en,0,0,0,0,af,0,nm⟩=small nm 32:=by
 rcases vg h with ⟨rfl,rfl⟩ | ⟨rfl,e | e | e | e | e⟩ <;> rcases hs with e' | e' <;> subst e' <;> (try subst e) <;> rfl
theorem mk7 {el:ae} {en:ay} (h:Hd el en=aj) {at':ae} (ha:at'=0∨at'=1∨at'=2∨at'=3∨at'=4):form ⟨7,el,en,at',0,0,0,af,0,[]⟩=aj:=by
 rcases vg h with ⟨rfl,rfl⟩ | ⟨rfl,e | e | e | e | e⟩ <;> rcases ha with e' | e' | e' | e' | e' <;> subst e' <;> (try subst e) <;> rfl
theorem WA {el:ae} {en:ay} (h:Hd el en=aj) (at' qu pa su:ae) (es:ay) (nm:ai ae):form ⟨8,el,en,at',qu,pa,su,es,0,nm⟩=form ⟨8,0,af,at',qu,pa,su,es,0,nm⟩:=by
 rcases vg h with ⟨rfl,rfl⟩ | ⟨rfl,e | e | e | e | e⟩ <;> (try subst e) <;> rfl
theorem Te (qu:ae) (hq:qu=0∨qu=34∨qu=39) (pa:ae) (hp:pa=0∨pa=1∨pa=2∨pa=3∨pa=4∨pa=5) (nm:ai ae):form ⟨8,0,af,1,qu,pa,0,af,0,nm⟩=if pa == 1 then small nm 16 else nm == []:=by
 rcases hq with e | e | e <;> subst e <;> rcases hp with e | e | e | e | e | e <;> subst e <;> rfl
theorem Pf (qu:ae) (hq:qu=0∨qu=34∨qu=39) (at':ae) (ha:at'=2∨at'=3) (su:ae) (hs:su=0∨su=1∨su=2∨su=3∨su=4∨su=5∨su=6) (es:ay):form ⟨8,0,af,at',qu,0,su,es,0,[]⟩=gA su es (at' == 2):=by
 rcases hq with e | e | e <;> subst e <;> rcases ha with e | e <;> subst e <;> rcases hs with e | e | e | e | e | e | e <;> subst e <;> cases es <;> rfl
theorem mkR (s el:ae) (hs:s=17∨s=18) (he:el=1∨el=2):form ⟨s,el,af,0,0,0,0,af,0,[]⟩=aj:=by
 rcases hs with e | e <;> subst e <;> rcases he with e | e <;> subst e <;> rfl
theorem WB (s el:ae) (hs:s=17∨s=18) (he:el=3∨el=4) (su:ae) (hu:su=0∨su=1∨su=2∨su=3∨su=4∨su=5∨su=6) (es:ay):form ⟨s,el,af,0,0,0,su,es,0,[]⟩=gA su es (el == 3):=by
 rcases hs with e | e <;> subst e <;> rcases he with e | e <;> subst e <;> rcases hu with e | e | e | e | e | e | e <;> subst e <;> cases es <;> rfl
theorem WC (el:ae) (he:el=1∨el=2) (nm:ai ae):form ⟨19,el,af,0,0,0,0,af,0,nm⟩=pre nm (nameOf el):=by
 rcases he with e | e <;> subst e <;> rfl
theorem Rc (el:ae) (he:el=3∨el=4) (su:ae) (hu:su=0∨su=1∨su=2∨su=3∨su=4∨su=5∨su=6) (es:ay) (nm:ai ae):form ⟨19,el,af,0,0,0,su,es,0,nm⟩=(gA su es (el == 3) && pre nm (nameOf el)):=by
 rcases he with e | e <;> subst e <;> rcases hu with e | e | e | e | e | e | e <;> subst e <;> cases es <;> rfl
theorem BL (nm:ai ae):nz nm=0∨nz nm=1∨nz nm=2∨nz nm=3∨nz nm=4:=by
 unfold nz
 repeat' split
 all_goals simp
theorem Ll (b:ae):low [lC b]=aj:=by
 revert b
 exact l8 (by kernel_rfl)
theorem Lm {nm:ai ae} (h:low nm=aj) (b:ae):low (nm ++ [lC b])=aj:=by
 have:=Ll b
 unfold low at *
 rw [List.all_append,h,this];rfl
theorem vh {nm:ai ae} {n:aB} (h:small nm n=aj):low nm=aj:=by
 unfold small at h
 rw [Bool.and_eq_true] at h
 exact h.1
theorem nE {nm:ai ae} (h:low nm=aj) (b:ae) {n:ax} (hl:nm.length < n):small (nm ++ [lC b]) (n:aB)=aj:=by
 unfold small
 rw [Lm h b,Bool.true_and,Bool.and_eq_true,aG,aG]
 simp;omega
theorem qw {el:ae} (h:el≤4):form (ou el)=aj:=by
 rcases lN el with e | e | e | e | e | e
 ·subst e;rfl
 ·subst e;rfl
 ·subst e;rfl
 ·subst e;rfl
 ·subst e;rfl
 ·rw [bq] at h;rw [bg] at e;omega
theorem DZ (b:ae):form (opened b).1=aj:=by
 unfold opened
 repeat' split
 all_goals first | rfl | (show form ⟨3,0,af,0,0,0,0,af,0,[lC b]⟩=aj;rw [mk3];exact nE (nm:=[]) rfl b (n:=32) (by decide))
theorem D1 (b:ae):form (closed b)=aj:=by
 unfold closed
 repeat' split
 all_goals first | rfl | (rw [mk3];exact nE (nm:=[]) rfl b (n:=32) (by decide))
theorem Re (c:Ctx) (h:form c=aj):c.su=0∨c.su=1∨c.su=2∨c.su=3∨c.su=4∨c.su=5∨c.su=6:=by
 have t:=(kD (nD c h)).1
 simp only [fM,Bool.or_eq_false_iff,aQ] at t
 have:=t.1.2
 rcases K7 c.su with e | e | e | e | e | e | e | e
 ·exact .inl e
 ·exact .inr (.inl e)
 ·exact .inr (.inr (.inl e))
 ·exact .inr (.inr (.inr (.inl e)))
 ·exact .inr (.inr (.inr (.inr (.inl e))))
 ·exact .inr (.inr (.inr (.inr (.inr (.inl e)))))
 ·exact .inr (.inr (.inr (.inr (.inr (.inr e)))))
 ·exact absurd e this
theorem WD (c:Ctx) (h:form c=aj):c.at'=0∨c.at'=1∨c.at'=2∨c.at'=3∨c.at'=4:=by
 have:=xf c h
 rcases lN c.at' with e | e | e | e | e | e
 ·exact .inl e
 ·exact .inr (.inl e)
 ·exact .inr (.inr (.inl e))
 ·exact .inr (.inr (.inr (.inl e)))
 ·exact .inr (.inr (.inr (.inr e)))
 ·rw [bq] at this;rw [bg] at e;omega
theorem WE (c:Ctx) (h:form c=aj):c.pa=0∨c.pa=1∨c.pa=2∨c.pa=3∨c.pa=4∨c.pa=5:=by
 have:=Hb c h
 rcases DK c.pa with e | e | e | e | e | e | e
 ·exact .inl e
 ·exact .inr (.inl e)
 ·exact .inr (.inr (.inl e))
 ·exact .inr (.inr (.inr (.inl e)))
 ·exact .inr (.inr (.inr (.inr (.inl e))))
 ·exact .inr (.inr (.inr (.inr (.inr e))))
 ·rw [bq] at this;rw [bg] at e;omega
theorem Ln (c:Ctx) (h:form c=aj) (e:c.st=8):(c.qu=0∨c.qu=34∨c.qu=39) ∧
  ((c.at'=1∧c=⟨8,c.el,c.en,1,c.qu,c.pa,0,af,0,c.nm⟩∧(if c.pa == 1 then small c.nm 16 else c.nm == [])=aj) ∨
   ((c.at'=2∨c.at'=3)∧c=⟨8,c.el,c.en,c.at',c.qu,0,c.su,c.es,0,[]⟩∧gA c.su c.es (c.at' == 2)=aj) ∨
   ((c.at'=0∨c.at'=4)∧c=⟨8,c.el,c.en,c.at',c.qu,0,0,af,0,[]⟩)):=by
 have t:=Lg c h e
 unfold ui at t
 obtain ⟨t1,t⟩:=kD t
 have hq:c.qu=0∨c.qu=34∨c.qu=39:=by
  simp only [Bool.and_eq_true,bne_iff_ne,not_and,Classical.not_not] at t1
  by_cases h0:c.qu=0
  ·exact .inl h0
  ·by_cases Y6:c.qu=34
   ·exact .inr (.inl Y6)
   ·exact .inr (.inr (t1 ⟨h0,Y6⟩))
 refine ⟨hq,?_⟩
 split at t
 ·rename_i h1
  have h1:=bD h1
  split at t
  ·rename_i hp
   rw [Bool.and_eq_true] at t
   refine .inl ⟨h1,?_,?_⟩
   ·have:=lO t.1;rw [h1] at this;exact this
   ·rw [hp,aJ rfl];exact t.2
  ·rename_i hp
   have NW:=lO t
   refine .inl ⟨h1,?_,?_⟩
   ·have hn:c.nm=[]:=by rw [NW]
    rw [h1] at NW;rw [hn];exact NW
   ·rw [aI hp,NW];rfl
 ·rename_i h1
  split at t
  ·rename_i Lp
   rw [Bool.and_eq_true] at t
   refine .inr (.inl ⟨?_,lO t.1,t.2⟩)
   simpa using Lp
  ·rename_i Lp
   refine .inr (.inr ⟨?_,lO t⟩)
   rcases WD c h with x | x | x | x | x
   ·exact .inl x
   ·rw [x] at h1;exact absurd rfl h1
   ·rw [x] at Lp;exact absurd rfl Lp
   ·rw [x] at Lp;exact absurd rfl Lp
   ·exact .inr x
def pc (su:ae):Prop:=su=0∨su=1∨su=2∨su=3∨su=4∨su=5∨su=6
theorem wq (c:Ctx) (b:ae) (script:ay) (hs:gA c.su c.es script=aj) (h0:c.su=0):nB c b script=dp∨∃ wu es',nB c b script={ c with su:=wu,es:=es' }∧pc wu∧gA wu es' script=aj:=by
 have hes:c.es=af:=by
  rw [h0] at hs
  cases hx:c.es with
  | false=>rfl
  | true=>rw [hx] at hs;cases script <;> cases hs
 unfold nB
 repeat' split
 ·exact .inr ⟨1,c.es,rfl,by simp [pc],by rw [hes];cases script <;> rfl⟩
 ·exact .inr ⟨2,c.es,rfl,by simp [pc],by rw [hes];cases script <;> rfl⟩
 ·exact .inr ⟨3,c.es,rfl,by simp [pc],by rw [hes];cases script <;> rfl⟩
 ·exact .inl rfl
 ·exact .inl rfl
 ·exact .inr ⟨c.su,c.es,rfl,by simp [pc,h0],hs⟩
theorem yr (c:Ctx) (b:ae) (script:ay) (hu:pc c.su) (hs:gA c.su c.es script=aj):code c b script=dp∨∃ wu es',code c b script={ c with su:=wu,es:=es' }∧pc wu∧gA wu es' script=aj:=by
 have hes:c.su≠1→c.su≠2→c.es=af:=by
  intro h1 h2
  unfold gA at hs
  cases hx:c.es with
  | false=>rfl
  | true =>
   rw [hx,Bool.and_eq_true] at hs
   have h3:(c.su == 1)=af:=by simpa using h1
   have h4:(c.su == 2)=af:=by simpa using h2
   rw [h3,h4] at hs
   exact absurd hs.2 (by simp)
 have stay:∃ wu es',c={ c with su:=wu,es:=es' }∧pc wu∧gA wu es' script=aj:=⟨c.su,c.es,rfl,hu,hs⟩
 have to (su:ae) (hk:pc su) (hz:c.es=af) (h:gA su af script=aj):∃ wu es',({ c with su:=su }:Ctx)={ c with su:=wu,es:=es' }∧pc wu∧gA wu es' script=aj:=⟨su,c.es,rfl,hk,by rw [hz];exact h⟩
 have s0:gA 0 af script=aj:=by cases script <;> rfl
 have s5:gA 5 af script=aj:=by cases script <;> rfl
 have s6:gA 6 af script=aj:=by cases script <;> rfl
 unfold code
 split
 ·rename_i h
  exact wq c b script hs (bD h)
 ·split
  ·rename_i h
   have hz:=hes (by rw [bD h];decide) (by rw [bD h];decide)
   split
   ·exact .inr (to 5 (by simp [pc]) hz s5)
   ·split
    ·rename_i h2
     rw [Bool.and_eq_true] at h2
     exact .inr (to 4 (by simp [pc]) hz (by rw [h2.1];rfl))
    ·split
     ·exact .inl rfl
     ·rcases wq { c with su:=0 } b script (by show gA 0 c.es script=aj;rw [hz];exact s0) rfl with e | ⟨wu,es',e,k1,k2⟩
      ·exact .inl e
      ·exact .inr ⟨wu,es',e,k1,k2⟩
  ·have tx:(c.su=1∨c.su=2)→text c b=dp∨∃ wu es',text c b={ c with su:=wu,es:=es' }∧pc wu∧gA wu es' script=aj:=by
    intro J6
    unfold text
    have keep (es:ay):gA c.su es script=aj:=by rcases J6 with e | e <;> rw [e] <;> cases es <;> cases script <;> rfl
    split
    ·exact .inr ⟨c.su,af,rfl,hu,keep af⟩
    ·rename_i hn
     have hz:c.es=af:=by simpa using hn
     split
     ·exact .inr ⟨c.su,aj,rfl,hu,keep aj⟩
     ·split
      ·exact .inl rfl
      ·split
       ·exact .inr (to 0 (by simp [pc]) hz s0)
       ·exact .inr stay
   split
   ·rename_i h;exact tx (.inl (bD h))
   ·split
    ·rename_i h;exact tx (.inr (bD h))
    ·rename_i h1 h2
     have hz:=hes (by simpa using h1) (by simpa using h2)
     repeat' split
     all_goals first | exact .inr stay | exact .inr (to 0 (by simp [pc]) hz s0) | exact .inr (to 5 (by simp [pc]) hz s5) | exact .inr (to 6 (by simp [pc]) hz s6)
theorem Lq (c:Ctx) (b:ae) (hE:Hd c.el c.en=aj) (hq:c.qu=0∨c.qu=34∨c.qu=39) (hp:c.pa=0∨c.pa=1∨c.pa=2∨c.pa=3∨c.pa=4∨c.pa=5) (hc:c=⟨8,c.el,c.en,1,c.qu,c.pa,0,af,0,c.nm⟩) (hn:(if c.pa == 1 then small c.nm 16 else c.nm == [])=aj):form (url c b)=aj:=by
 have mk (pa:ae) (nm:ai ae) (hp:pa=0∨pa=1∨pa=2∨pa=3∨pa=4∨pa=5) (h:(if pa == 1 then small nm 16 else nm == [])=aj):form ⟨c.st,c.el,c.en,c.at',c.qu,pa,c.su,c.es,c.da,nm⟩=aj:=by
  rw [hc]
  show form ⟨8,c.el,c.en,1,c.qu,pa,0,af,0,nm⟩=aj
  rw [WA hE,Te c.qu hq pa hp nm];exact h
 have aap:low c.nm=aj:=by
  split at hn
  ·exact vh hn
  ·rw [bD hn];rfl
 unfold url
 split
 ·rename_i h
  refine mk c.pa [] hp ?_
  rw [Bool.or_eq_true] at h
  rcases h with h | h <;> rw [bD h] <;> rfl
 ·split
  ·rfl
  ·split
   ·exact mk 4 [] (by simp) rfl
   ·split
    ·rename_i h;refine mk c.pa [] hp ?_;rw [bD h];rfl
    ·split
     ·exact mk 3 [] (by simp) rfl
     ·split
      ·rfl
      ·split
       ·split
        ·exact mk 3 [] (by simp) rfl
        ·exact mk 5 [] (by simp) rfl
       ·split
        ·rename_i h;refine mk c.pa [] hp ?_;rw [bD h];rfl
        ·split
         ·rename_i hlen
          refine mk 1 c.nm (by simp) ?_
          show small c.nm 16=aj
          split at hn
          ·exact hn
          ·rw [bD hn] at hlen;simp at hlen
         ·rename_i hlen
          refine mk 1 (c.nm ++ [lC b]) (by simp) ?_
          show small (c.nm ++ [lC b]) 16=aj
          exact nE aap b (n:=16) (by simpa using hlen)
theorem Fi (c:Ctx) (b:ae) (h:form c=aj) (e:c.st=8):form (value c b)=aj:=by
 have hE:=Lj c h
 obtain ⟨hq,hv⟩:=Ln c h e
 unfold value
 split
 ·split
  ·rfl
  ·split
   ·exact fx c h 9 (by simp)
   ·split
    ·exact qw (n6 c h).1
    ·exact fx c h 4 (by simp)
 ·split
  ·rfl
  ·split
   ·rename_i h1
    rcases hv with ⟨_,hc,hn⟩ | ⟨ha,_,_⟩ | ⟨ha,_⟩
    ·exact Lq c b hE hq (WE c h) hc hn
    ·rcases ha with x | x <;> (rw [x] at h1;cases h1)
    ·rcases ha with x | x <;> (rw [x] at h1;cases h1)
   ·split
    ·rename_i Lp
     split
     ·rfl
     ·rcases hv with ⟨ha,_,_⟩ | ⟨ha,hc,hs⟩ | ⟨ha,_⟩
      ·rw [ha] at Lp;cases Lp
      ·rcases yr c b (c.at' == 2) (Re c h) hs with x | ⟨wu,es',x,k1,k2⟩
       ·rw [x];rfl
       ·rw [x,hc]
        show form ⟨8,c.el,c.en,c.at',c.qu,0,wu,es',0,[]⟩=aj
        rw [WA hE,Pf c.qu hq c.at' ha wu k1 es'];exact k2
      ·rcases ha with x | x <;> (rw [x] at Lp;cases Lp)
    ·exact h
theorem Lr (c:Ctx) (h:form c=aj) (e:c.st=17∨c.st=18∨c.st=19):∃ su es,c=⟨c.st,c.el,af,0,0,0,su,es,0,if (c.st == 19)=aj then c.nm else []⟩∧(c.el=1∨c.el=2∨c.el=3∨c.el=4)∧pre c.nm (nameOf c.el)=aj∧pc su∧gA su es (c.el == 3)=aj∧((c.el=1∨c.el=2)→su=0∧es=af):=by
 have t:=ly c h
 have t:(fc c ⟨c.st,c.el,af,0,0,0,if (c.el == 3 || c.el == 4)=aj then c.su else 0,if (c.el == 3 || c.el == 4)=aj then c.es else af,0,if (c.st == 19)=aj then c.nm else []⟩ && (c.el != 0) && pre c.nm (nameOf c.el) && gA c.su c.es (c.el == 3))=aj:=by
  rcases e with e | e | e <;> rw [e] at t ⊢ <;> exact t
 simp only [Bool.and_eq_true] at t
 obtain ⟨⟨⟨t1,t2⟩,t3⟩,t4⟩:=t
 have hc:=lO t1
 have yl:c.el=1∨c.el=2∨c.el=3∨c.el=4:=by
  have:=(n6 c h).1
  rcases lN c.el with x | x | x | x | x | x
  ·rw [x] at t2;cases t2
  ·exact .inl x
  ·exact .inr (.inl x)
  ·exact .inr (.inr (.inl x))
  ·exact .inr (.inr (.inr x))
  ·rw [bq] at this;rw [bg] at x;omega
 have hsu:c.su=if (c.el == 3 || c.el == 4)=aj then c.su else 0:=congrArg Ctx.su hc
 have hes:c.es=if (c.el == 3 || c.el == 4)=aj then c.es else af:=congrArg Ctx.es hc
 refine ⟨c.su,c.es,?_,yl,t3,Re c h,t4,fun J6=>?_⟩
 ·rw [← hsu,← hes] at hc;exact hc
 ·rcases J6 with x | x <;> rw [x] at hsu hes <;> exact ⟨hsu,hes⟩
def RW (s:ae) (d:Ctx) (nm:ai ae):Prop:=∃ el su es,d=⟨s,el,af,0,0,0,su,es,0,nm⟩∧(el=1∨el=2∨el=3∨el=4)∧pc su∧gA su es (el == 3)=aj∧((el=1∨el=2)→su=0∧es=af)
theorem RW.form {s:ae} {d:Ctx} (h:RW s d []) (hs:s=17∨s=18):form d=aj:=by
 obtain ⟨el,su,es,rfl,yl,hu,hk,J6⟩:=h
 rcases yl with x | x | x | x
 ·obtain ⟨rfl,rfl⟩:=J6 (.inl x);exact mkR s el hs (.inl x)
 ·obtain ⟨rfl,rfl⟩:=J6 (.inr x);exact mkR s el hs (.inr x)
 ·rw [WB s el hs (.inl x) su hu es];exact hk
 ·rw [WB s el hs (.inr x) su hu es];exact hk
theorem RW.Ls {d:Ctx} {nm:ai ae} (h:RW 19 d nm) (hp:pre nm (nameOf d.el)=aj):Sx.form d=aj:=by
 obtain ⟨el,su,es,rfl,yl,hu,hk,J6⟩:=h
 rcases yl with x | x | x | x
 ·obtain ⟨rfl,rfl⟩:=J6 (.inl x);rw [WC el (.inl x)];exact hp
 ·obtain ⟨rfl,rfl⟩:=J6 (.inr x);rw [WC el (.inr x)];exact hp
 ·rw [Rc el (.inl x) su hu es];rw [hk,Bool.true_and];exact hp
 ·rw [Rc el (.inr x) su hu es];rw [hk,Bool.true_and];exact hp
theorem RW.to {s:ae} {d:Ctx} {nm:ai ae} (h:RW s d nm) (s':ae) (nm':ai ae):RW s' { d with st:=s',nm:=nm' } nm':=by
 obtain ⟨el,su,es,rfl,r⟩:=h
 exact ⟨el,su,es,rfl,r⟩
theorem D2:∀ (l:ai ae) (d:Ctx),RW 17 d []→(d.el=3∨d.el=4)→rV d l=dp∨RW 17 (rV d l) []
 | [],d,h,_=>.inr h
 | b :: r,d,h,he=>by
  unfold rV
  split
  ·exact .inl rfl
  ·rename_i hb
   obtain ⟨el,su,es,rfl,yl,hu,hk,J6⟩:=h
   simp only at he
   rcases yr ⟨17,el,af,0,0,0,su,es,0,[]⟩ b (el == 3) hu hk with x | ⟨wu,es',x,k1,k2⟩
   ·simp only at hb;rw [x] at hb;exact absurd rfl hb
   ·simp only
    rw [x]
    refine D2 r _ ⟨el,wu,es',rfl,yl,k1,k2,fun h=>?_⟩ he
    rcases he with e | e <;> rw [e] at h <;> rcases h with h | h <;> exact absurd h (by decide)
theorem Lt {s:ae} {d:Ctx} {nm:ai ae} (h:RW s d nm) (l:ai ae) (feed:ay):sU d l feed=dp∨RW 17 (sU d l feed) []:=by
 have h':=h.to 17 []
 unfold sU
 split
 ·exact .inr h'
 ·rename_i hc
  refine D2 l _ h' ?_
  simp only [Bool.or_eq_true,not_or,fM,Bool.not_eq_false',Bool.not_eq_true'] at hc
  have:=hc.2
  obtain ⟨el,su,es,rfl,yl,_⟩:=h
  show el=3∨el=4
  rcases yl with x | x | x | x
  ·subst x;exact absurd rfl this
  ·subst x;exact absurd rfl this
  ·exact .inl x
  ·exact .inr x
theorem Ap {s:ae} {d:Ctx} {nm:ai ae} (h:RW s d nm∨d=dp) (b:ae) (feed:ay):form (wW d b feed)=aj:=by
 rcases h with h | rfl
 case inr=>rfl
 unfold wW
 split
 ·rfl
 ·rcases Lt h [b] feed with x | x
  ·rw [x];rfl
  ·split
   ·have:=(x.to 18 []).form (.inr rfl)
    obtain ⟨el,su,es,e,_⟩:=x
    rw [e] at this ⊢;exact this
   ·exact x.form (.inl rfl)
theorem Lu (c:Ctx) (b:ae) (feed:ay) (h:form c=aj) (e:c.st=17∨c.st=18∨c.st=19):form (raw c b feed)=aj:=by
 obtain ⟨su,es,hc,yl,hp,hu,hk,J6⟩:=Lr c h e
 have hR:RW c.st c (if (c.st == 19)=aj then c.nm else []):=⟨c.el,su,es,hc,yl,hu,hk,J6⟩
 unfold raw
 split
 ·rename_i h1
  rw [Bool.and_eq_true] at h1
  have WG:=bD h1.1
  have hn:c.nm=[]:=by rw [hc,WG];rfl
  have:=(hR.to 19 []).Ls rfl
  rw [show ({ c with st:=19,nm:=[] }:Ctx)={ c with st:=19 } by rw [← hn]] at this
  exact this
 ·split
  ·rfl
  ·split
   ·split
    ·rfl
    ·unfold tag
     simp only [show ((9:ae) == 3)=af from rfl,show ((9:ae) == 9)=aj from rfl,Bool.false_eq_true,aH,aO]
     repeat' split
     all_goals rfl
   ·split
    ·rename_i hx
     rw [Bool.and_eq_true] at hx
     have NZ:=bD hx.1
     have:=(hR.to 19 (c.nm ++ [lC b])).Ls hx.2
     rw [← NZ] at this
     exact this
    ·split
     ·exact Ap (s:=17) (nm:=[]) ((Lt hR (47 :: c.nm) feed).symm) b feed
     ·exact Ap (.inl hR) b feed
theorem Jp (c:Ctx) (b:ae) (h:form c=aj):form (note c b)=aj:=by
 unfold note
 repeat' split
 all_goals first | rfl | exact h | skip
 rename_i Y7 _ _ _ hd
 have hda:=(Am c h (bD Y7)).2
 have:c.da=0∨c.da=1∨c.da=2:=by
  have:=l8 (p:=fun d=>!decide (d≤2) || (d == 0 || (d == 1 || d == 2))) (by kernel_rfl) c.da
  simp only [Bool.or_eq_true,Bool.not_eq_true',aQ,bK] at this
  rcases this with h | h
  ·exact absurd hda h
  ·exact h
 rcases this with x | x | x
 ·rw [x];rfl
 ·rw [x];rfl
 ·rw [x] at hd;exact absurd rfl hd
theorem D3 (c:Ctx) (b:ae) (h:form c=aj) (e:c.st=7):form (j5 c b).1=aj:=by
 have hc:=DY c h e
 obtain ⟨q1,q2⟩:=n6 c h
 unfold j5
 split
 ·exact h
 ·split
  ·rfl
  ·split
   ·rename_i hq
    have:form ⟨8,c.el,c.en,c.at',b,0,0,af,0,[]⟩=aj:=sW c.el c.at' b c.en q1 q2 (xf c h) (by simpa using .inr (by simpa using hq))
    rw [hc];exact this
   ·have:form ⟨8,c.el,c.en,c.at',0,0,0,af,0,[]⟩=aj:=sW c.el c.at' 0 c.en q1 q2 (xf c h) (.inl rfl)
    rw [hc];exact this
theorem WH {c:Ctx} {b:ae} (h:Q c b) (he:form c=af→Hd c.el c.en=aj):Hd c.el c.en=aj:=by
 cases hf:form c with
 | true=>exact Lj c hf
 | false=>exact he hf
theorem D4 (en:ay) (c:Ctx) (b:ae) (hc:c=⟨3,0,c.en,0,0,0,0,af,0,c.nm⟩) (hl:low c.nm=aj):form (grown c b)=aj:=by
 unfold grown
 split
 ·rfl
 ·rename_i h
  have:form ⟨3,0,c.en,0,0,0,0,af,0,c.nm ++ [lC b]⟩=aj:=by
   rw [mk3];exact nE hl b (n:=32) (by simpa using h)
  rw [hc];exact this
theorem D5 (c:Ctx) (b:ae) (hE:Hd c.el c.en=aj) (hs:c.st=5∨c.st=6) (hc:c={ within c c.st with nm:=c.nm }) (hl:low c.nm=aj):form (grown c b)=aj:=by
 unfold grown
 split
 ·rfl
 ·rename_i h
  have:form ⟨c.st,c.el,c.en,0,0,0,0,af,0,c.nm ++ [lC b]⟩=aj:=by
   rw [mk5 hE c.st hs];exact nE hl b (n:=32) (by simpa using h)
  rw [hc];exact this
theorem Fj (c:Ctx) (b:ae) (hE:Hd c.el c.en=aj) (hs:c.st=5∨c.st=6) (hc:c={ within c c.st with nm:=c.nm }) (hn:small c.nm 32=aj∨(c.nm=[]∧dT b=af)):form (named c b).1=aj:=by
 have hl:low c.nm=aj:=by
  rcases hn with h | ⟨h,_⟩
  ·exact vh h
  ·rw [h];rfl
 unfold named
 split
 ·exact mk7 hE (BL c.nm)
 ·split
  ·exact mkT hE 9 (by simp)
  ·split
   ·rename_i hb
    rcases hn with h | ⟨_,h⟩
    ·have:form ⟨6,c.el,c.en,0,0,0,0,af,0,c.nm⟩=aj:=by rw [mk5 hE 6 (by simp)];exact h
     rw [hc];exact this
    ·rw [hb] at h;cases h
   ·split
    ·exact mkT hE 4 (by simp)
    ·split
     ·rfl
     ·exact D5 c b hE hs hc hl
theorem sX (b:ae) (feed:ay):∀ (n:ax) (c d:Ctx),Q c b→(form c=af→Hd c.el c.en=aj)→again n c b feed=aa d→form d=aj
 | 0,c,d,_,_,h=>by cases h
 | n+1,c,d,hQ,hE0,h=>by
  have hE:=WH hQ hE0
  have IH (c':Ctx) (hf:form c'=aj) (h:again n c' b feed=aa d):form d=aj:=sX b feed n c' d (.inl hf) (fun h=>absurd hf (by rw [h];simp)) h
  have WI (hs:c.st=5∨c.st=6) (hh:(if (named c b).2 then again n (named c b).1 b feed else aa (named c b).1)=aa d):form d=aj:=by
   have key:c={ within c c.st with nm:=c.nm }∧(small c.nm 32=aj∨(c.nm=[]∧dT b=af)):=by
    rcases hQ with hf | ⟨hx,_,_,hb⟩
    ·obtain ⟨h1,h2⟩:=DX c hf hs
     exact ⟨h1,.inl h2⟩
    ·have hn:c.nm=[]:=by rw [hx];rfl
     have h5:c.st=5:=by rw [hx];rfl
     refine ⟨?_,.inr ⟨hn,hb⟩⟩
     rw [h5,hn];exact hx
   have hf:=Fj c b hE hs key.1 key.2
   split at hh
   ·exact IH _ hf hh
   ·cases hh;exact hf
  unfold again at h
  rcases hQ with hf | ⟨hx,EB,Fe,hbl⟩
  case inr =>
   have e:c.st=5:=by rw [hx];rfl
   refine WI (.inl e) ?_
   rw [e] at h
   have h:(if (tag c b).2 then again n (tag c b).1 b feed else aa (tag c b).1)=aa d:=h
   unfold tag at h
   rw [e] at h
   exact h
  rcases uh c.st with e | e | e | e | e | e | e | e | e | e | e | e | e | e | e | e | e | e | e | e | e | e
  ·have hc:=ri c hf (by simp [e])
   rw [e] at hc
   subst hc
   have h:(if (b == 60)=aj then aa (ea 1) else aa (ea 0))=aa d:=h
   split at h <;> cases h <;> rfl
  ·have hc:=ri c hf (by simp [e])
   rw [e] at hc
   subst hc
   have h:(if (opened b).2 then aa (opened b).1 else again n (ea 0) b feed)=aa d:=h
   split at h
   ·cases h;exact DZ b
   ·exact IH (ea 0) rfl h
  ·rw [e] at h
   have h:aa (closed b)=aa d:=h
   cases h;exact D1 b
  ·rw [e] at h
   have h:(if (tag c b).2 then again n (tag c b).1 b feed else aa (tag c b).1)=aa d:=h
   obtain ⟨hc,hsm⟩:=DV c hf e
   have ht:form (tag c b).1=aj:=by
    unfold tag
    rw [e]
    simp only [show ((3:ae) == 3)=aj from rfl,aO]
    split
    ·exact D4 c.en c b hc (vh hsm)
    ·split
     ·rename_i hen
      have:c.en=af:=by simpa using hen
      have h2:=rj 9 (uY c.nm) c.en (by simp)
      show form ⟨9,uY c.nm,c.en,0,0,0,0,af,0,[]⟩=aj
      rw [h2,this,decide_eq_true (Hc c.nm)];rfl
     ·exact fx c hf 9 (by simp)
   split at h
   ·exact IH _ ht h
   ·cases h;exact ht
  ·rw [e] at h
   have h:(if (tag c b).2 then again n (tag c b).1 b feed else aa (tag c b).1)=aa d:=h
   have hc:=DW c hf (by simp [e])
   unfold tag at h
   rw [e] at h
   simp only [show ((4:ae) == 3)=af from rfl,show ((4:ae) == 9)=af from rfl,show ((4:ae) == 10)=af from rfl,show ((4:ae) == 4)=aj from rfl,Bool.false_eq_true,aH,aO] at h
   cases hbl:dT b with
   | true=>rw [hbl] at h;cases h;exact hf
   | false =>
   rw [hbl] at h
   cases Fe:(b == 47 || b == 62) with
   | true=>rw [Fe] at h;exact IH _ (fx c hf 9 (by simp)) h
   | false =>
   rw [Fe] at h
   cases EB:(b == 61) with
   | true=>rw [EB] at h;cases h;rfl
   | false =>
    rw [EB] at h
    have hcw:{ c with st:=5 }=within c 5:=by rw [hc];rfl
    have h:again n (within c 5) b feed=aa d:=by rw [← hcw];exact h
    exact sX b feed n (within c 5) d (.inr ⟨rfl,EB,Fe,hbl⟩) (fun _=>hE) h
  ·rw [e] at h
   have h:(if (tag c b).2 then again n (tag c b).1 b feed else aa (tag c b).1)=aa d:=h
   unfold tag at h
   rw [e] at h
   exact WI (.inl e) h
  ·rw [e] at h
   have h:(if (tag c b).2 then again n (tag c b).1 b feed else aa (tag c b).1)=aa d:=h
   unfold tag at h
   rw [e] at h
   exact WI (.inr e) h
  ·rw [e] at h
   have h:(if (tag c b).2 then again n (tag c b).1 b feed else aa (tag c b).1)=aa d:=h
   unfold tag at h
   rw [e] at h
   have h:(if (j5 c b).2 then again n (j5 c b).1 b feed else aa (j5 c b).1)=aa d:=h
   have ht:=D3 c b hf e
   split at h
   ·exact IH _ ht h
   ·cases h;exact ht
  ·rw [e] at h
   have h:aa (value c b)=aa d:=h
   cases h;exact Fi c b hf e
  ·rw [e] at h
   have h:(if (tag c b).2 then again n (tag c b).1 b feed else aa (tag c b).1)=aa d:=h
   rw [Fh c b e,aI (by simp)] at h
   cases h
   unfold tag
   rw [e]
   simp only [show ((9:ae) == 3)=af from rfl,show ((9:ae) == 9)=aj from rfl,Bool.false_eq_true,aH,aO]
   split
   ·exact fx c hf 4 (by simp)
   ·split
    ·exact fx c hf 10 (by simp)
    ·split
     ·exact qw (n6 c hf).1
     ·rfl
  ·rw [e] at h
   have h:(if (tag c b).2 then again n (tag c b).1 b feed else aa (tag c b).1)=aa d:=h
   unfold tag at h
   rw [e] at h
   simp only [show ((10:ae) == 3)=af from rfl,show ((10:ae) == 9)=af from rfl,show ((10:ae) == 10)=aj from rfl,Bool.false_eq_true,aH,aO] at h
   cases NY:(b == 62) with
   | true=>rw [NY] at h;cases h;exact qw (n6 c hf).1
   | false=>rw [NY] at h;exact IH _ (fx c hf 4 (by simp)) h
  all_goals first
   | (rw [e] at h;have h:aa (note c b)=aa d:=h;cases h;exact Jp c b hf)
   | (rw [e] at h;have h:aa (raw c b feed)=aa d:=h;cases h;exact Lu c b feed hf (by simp [e]))
   | skip
  exfalso
  have t:=(kD (nD c hf)).1
  rw [decide_eq_true e] at t
  exact t rfl
theorem Pg (c:Ctx) (b:ae) (feed:ay):form (mv c b feed)=aj:=by
 cases hf:form c with
 | true=>exact sX b feed 4 c _ (.inl hf) (fun h=>absurd hf (by rw [h];simp)) (BI c b feed hf)
 | false=>rw [Fc c b feed hf];rfl
theorem rp (c:Ctx) (b:ae):form (pI c b)=aj:=Pg c b aj
end Sx
namespace Sx
open Go
def mP (f:Ctx→ae→Ctx):Ctx→ai ae→aB→Ctx×aB
 | c,[],_=>(c,-1)
 | c,b :: r,i=>if (f c b).st == 20 then (f c b,i) else mP f (f c b) r (i+1)
def Tf (c:Ctx):Ctx:=if form c then c else dp
theorem Lv (c:Ctx):form (Tf c)=aj:=by
 unfold Tf
 split
 ·assumption
 ·rfl
def js (c:Ctx) (p:ai ae):Ctx×aB:=mP pI (Tf c) p 0
theorem Aq {f:Ctx→ae→Ctx} (hf:∀ c b,form (f c b)=aj):∀ (l:ai ae) (c:Ctx) (i:aB),form c=aj→form (mP f c l i).1=aj
 | [],c,i,h=>h
 | b :: r,c,i,h=>by
  unfold mP
  split
  ·exact hf c b
  ·exact Aq hf r _ _ (hf c b)
theorem Th {c:Ctx} (h:form c=aj) (e:(c.st == 20)=aj):c=dp:=by
 have:=ri c h (by simp [bD e])
 rw [bD e] at this
 exact this
theorem BM {c:Ctx} (h:form c=aj):c.nm.length < 9223372036854775808:=by have:=BJ c h;omega
theorem sY (f:Ctx→ae→Ctx):∀ (l:ai ae) (c:Ctx) (i:aB),(mP f c l i).1=(mP f c l 0).1∧((mP f c l 0).2=-1→(mP f c l i).2=-1)∧((mP f c l 0).2≠-1→(mP f c l i).2=(mP f c l 0).2+i)∧-1≤(mP f c l 0).2∧(mP f c l 0).2 < l.length
 | [],c,i=>⟨rfl,fun _=>rfl,fun h=>absurd rfl h,Int.le_refl _,(by show (-1:aB) < 0;omega)⟩
 | b :: r,c,i=>by
  unfold mP
  split
  ·refine ⟨rfl,fun h=>?_,fun _=>(by simp),(by simp),?_⟩
   ·exact absurd (show (0:aB)=-1 from h) (by decide)
   ·show (0:aB) < ((r.length+1:ax):aB);omega
  ·obtain ⟨a1,a2,a3,a4,a5⟩:=sY f r (f c b) (i+1)
   obtain ⟨b1,b2,b3,b4,b5⟩:=sY f r (f c b) (0+1)
   refine ⟨a1.trans b1.symm,?_⟩
   by_cases h:(mP f (f c b) r 0).2=-1
   ·rw [a2 h,b2 h]
    exact ⟨fun _=>rfl,fun hh=>absurd rfl hh,Int.le_refl _,(by simp;omega)⟩
   ·rw [a3 h,b3 h]
    simp only [List.length_cons]
    refine ⟨fun hh=>?_,fun _=>by omega,by omega,by omega⟩
    omega
end Sx
namespace Sx
end Sx
namespace Sx
open Go
end Sx
