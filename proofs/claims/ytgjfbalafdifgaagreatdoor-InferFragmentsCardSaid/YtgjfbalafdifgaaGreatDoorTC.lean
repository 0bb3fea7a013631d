/-
  A part of InferFragments's proof.
-/
import Derived.Test.YtgjfbalafdifgaaGreatDoorTB
import Derived.Lib.Bytealg
import Derived.ReadAgain
import Derived.ChangeArms
import Derived.ChangeSame
import Derived.RowKit
import Derived.Deep.DeepHandedRow
import Derived.Lib.LaidTab
set_option linter.unusedVariables false
set_option linter.unusedSimpArgs false
set_option linter.unusedSectionVars false
set_option linter.unnecessarySimpa false
noncomputable section
namespace Sx
open Go Go.RowKit Go.Lib
def oM (C:cU) (f nt:Nat) (id:Nat) (ops:Array Oper) (draw:Bool):Bool :=
 ops.all (fun o=>match o.dst with | some d=>Nat.blt d nt | none=>true) &&
  (match draw with
   | false=>true
   | true=>match C.D2 f id with
    | none=>true
    | some l=>nG ops l.2 l.1 (Array.replicate ops.size false) && Region.noSelect ops && Nat.beq l.1.len ops.size)
def eM (p:Nat→Array Oper→Bool→Bool):Code→Bool
 | .region id ops d=>p id ops d
 | .seq a b=>eM p a && eM p b
 | .cond _ a b=>eM p a && eM p b
 | .block _ c=>eM p c
 | .loop c=>eM p c
 | .scope c=>eM p c
 | _=>true
def iF (p:Nat→Array Oper→Bool→Bool):Item→Bool
 | .code c=>eM p c
 | .inLoop c=>eM p c
 | .inScope c=>eM p c
 | _=>true
structure Fit (C:cU) (P:Program):Prop where
 ty:∀ t i,C.ty t=some i→cr P t i
 code:∀ (f:Nat) (fn:Func) (c:Code),P.funcs[f]?=some fn→fn.body=some c→eM (oM C f fn.ntmps) c=true
 mixed:P.follows .mixedOrders=true
 name:∀ (f:Nat) (fn:Func) (c:Code),P.funcs[f]?=some fn→fn.body=some c→(fn.name == "runtime.NumGoroutine")=false
 gv:∀ (g:Nat) (G:List AV→Option AV),C.gv g=some G→(C.own g).all Option.isNone=true→∀ (args:List AV) (r:AV),G args=some r→∀ (w:World) (F:Nat→Prop) (vs:Array Value),aQ C w F→vs.size=args.length →
  (∀ (j:Nat) (a:AV) (v:Value),args[j]?=some a→vs[j]?=some v→Rel w F a v)→dN P g vs w (fX C g w F r)
 ext:∀ (f:Nat) (fn:Func),P.funcs[f]?=some fn→fn.body=none→(fn.name == "internal/bytealg.IndexByteString")=true→∀ (s:ByteArray) (c:Int) (w:World),(callFunc f #[.string s,.int .u8 c]).run P w=.ok (.value (.int .i64 (Lib.indexByte s.data.toList c.toNat.toUInt8))) w
theorem rX {p:Nat→Array Oper→Bool→Bool}:∀ {c:Code} {l:Nat} {r:Code},findLabel c l=some r→eM p c=true→eM p r=true:=by
 intro c
 induction c with
 | seq a b iha vV =>
  intro l r h hg
  simp only [eM,Bool.and_eq_true] at hg
  simp only [findLabel] at h
  split at h
  ·rename_i rest hr
   cases h
   simp only [eM,Bool.and_eq_true]
   exact ⟨iha hr hg.1,hg.2⟩
  ·exact vV h hg.2
 | label l' =>
  intro l r h hg
  simp only [findLabel] at h
  split at h
  ·cases h;rfl
  ·cases h
 | _=>intro l r h;simp [findLabel] at h
theorem pR {p:Nat→Array Oper→Bool→Bool} {l:Nat}:∀ {k k':List Item},gotoIn l k=some k'→(∀ x ∈ k,iF p x=true)→∀ x ∈ k',iF p x=true
 | [],k',h,_=>by simp [gotoIn] at h
 | it :: k,k',h,hg=>by
  have rest:gotoIn l k=some k'→∀ x ∈ k',iF p x=true:=fun h=>pR h fun x hx=>hg x (List.mem_cons_of_mem _ hx)
  cases it with
  | inScope body =>
   simp only [gotoIn] at h
   split at h
   ·rename_i r hr
    cases h
    intro x hx
    rcases List.mem_cons.1 hx with rfl | hx
    ·exact rX hr (hg (.inScope body) (List.mem_cons_self ..))
    ·exact hg x hx
   ·exact rest h
  | _=>exact rest (by simpa [gotoIn] using h)
theorem pS {p:Nat→Array Oper→Bool→Bool} {l:Nat}:∀ {k k':List Item},exitTo l k=some k'→(∀ x ∈ k,iF p x=true)→∀ x ∈ k',iF p x=true
 | [],k',h,_=>by simp [exitTo] at h
 | it :: k,k',h,hg=>by
  have rest:exitTo l k=some k'→∀ x ∈ k',iF p x=true:=fun h=>pS h fun x hx=>hg x (List.mem_cons_of_mem _ hx)
  cases it with
  | inBlock id =>
   simp only [exitTo] at h
   split at h
   ·cases h
    intro x hx
    exact hg x (List.mem_cons_of_mem _ hx)
   ·exact rest h
  | _=>exact rest (by simpa [exitTo] using h)
section
variable {C:cU} {P:Program}
theorem step_scope {b:Frame} {a:Act} {k:List Item} {cs:List Frame} {w:World} {c:Code} :
  Go.step P (lone (b.at a (.code (.scope c) :: k)) cs w)=.next (lone (b.at a (.code c :: .inScope c :: k)) cs w) :=
 step_lone_go (by simp [stepG,stepG.exec,Frame.at])
theorem step_inScope {b:Frame} {a:Act} {k:List Item} {cs:List Frame} {w:World} {c:Code} :
  Go.step P (lone (b.at a (.inScope c :: k)) cs w)=.next (lone (b.at a k) cs w) :=
 step_lone_go (by simp [stepG,stepG.exec,Frame.at])
def Ends (P:Program) (b:Frame) (a:Act) (k:List Item) (w:World) (R:Ending→World→Prop):Prop :=
 ∀ cs,∃ e w' fr,R e w'∧Comes P (lone (b.at a k) cs w) (lone fr cs w') e∧fr.fn=b.fn∧fr.leaving P w' e
theorem Ends.of_steps {b:Frame} {a a':Act} {k k':List Item} {w w':World} {R:Ending→World→Prop} (h:∀ cs,Steps P (lone (b.at a k) cs w) (lone (b.at a' k') cs w')) (he:Ends P b a' k' w' R):Ends P b a k w R:=fun cs=>by
 obtain ⟨e,w2,fr,h1,h2,h3⟩:=he cs
 exact ⟨e,w2,fr,h1,Comes.of_steps (h cs) h2,h3⟩
def rY (C:cU) (P:Program) (f:Nat) (fn:Func) (w0:World) (F0:Fs) (r:AV) (e:Ending) (w':World):Prop :=
 match C.sig f with
 | none=>(∀ b,¬ F0.gj b)→fX C f w0 F0.rd r e w'
 | some sg=>FJ C P f fn sg w0 F0 r e w'
def yH (C:cU) (P:Program) (f:Nat) (fn:Func) (go:List Item→St→Option AV):Prop :=
 ∀ (k:List Item) (st:St) (r:AV),go k st=some r→(∀ x ∈ k,iF (oM C f fn.ntmps) x=true)→∀ (w0:World) (F0:Fs) (a:Act) (w:World) (H:Nat→Option Value) (σ:Nat→Option Nat) (b:Frame),b.fn=f→b.kind=.normal →
  Inv C w0 F0 fn.ntmps st a w H σ→Ends P b a k w (rY C P f fn w0 F0 r)
theorem Av {f:Nat} {fn:Func} {go:List Item→St→Option AV} (h:yH C P f fn go):yH C P f fn (arr C f go):=by
 intro k st r hr hk w0 F0 a w H σ b hb jf hI
 unfold arr at hr
 split at hr
 ·rename_i l s _
  obtain ⟨H',hI'⟩:=hI.canon l s
  exact h k _ r hr hk w0 F0 a w H' σ b hb jf hI'
 ·exact h k st r hr hk w0 F0 a w H σ b hb jf hI
theorem Ends.finish {f:Nat} {fn:Func} {st:St} {r:AV} {w0:World} {F0:Fs} {a:Act} {w:World} {H:Nat→Option Value} {σ:Nat→Option Nat} {b:Frame} {k:List Item} (dE:Fit C P) (hfn:P.funcs[f]?=some fn) (hb:b.fn=f) (jf:b.kind=.normal)
  (hI:Inv C w0 F0 fn.ntmps st a w H σ) (hf:Sx.fin C f fn st=some r) (hs:∀ cs,∃ todo,Steps P (lone (b.at a k) cs w) (lone { b.at a todo with mode:=.returning } cs w)):Ends P b a k w (rY C P f fn w0 F0 r):=fun cs=>by
 obtain ⟨todo,hst⟩:=hs cs
 have Ka:P.funcs[b.fn]?=some fn:=by rw [hb];exact hfn
 unfold fin at hf
 cases dr:C.sig f with
 | none =>
  rw [dr] at hf
  obtain ⟨v,hv,hr⟩:=Ef dE.ty hI hf
  refine ⟨.returned v,w,_,?_,hst,rfl,rfl,hI.defers,jf,fn,Ka,hv⟩
  unfold rY
  rw [dr]
  exact fun hl=>⟨v,rfl,Ext.ND hI.below hl,hr hl⟩
 | some sg =>
  rw [dr] at hf
  have qE:∃ v,(results fn a.tmps).run P w=.ok v w:=by
   obtain ⟨outs,f1,f2,_⟩:=nE hf
   obtain ⟨vs,g1,g2,g3⟩:=mA dE.ty hI fn fun rv hm=>List.all_eq_true.1 f2 _ (List.mem_map.2 ⟨rv,hm,rfl⟩)
   exact ⟨_,g2⟩
  obtain ⟨v,hv⟩:=qE
  refine ⟨.returned v,w,_,?_,hst,rfl,rfl,hI.defers,jf,fn,Ka,hv⟩
  unfold rY
  rw [dr]
  exact ⟨v,rfl,st,a,H,σ,hI,hf,hv⟩
theorem Eg {f:Nat} {fn:Func} {call:Nat→List AV→Option AV} (dE:Fit C P) (hC:iT C P call) {id:Nat} {ops:Array Oper} {draw:Bool} {st:St} {K:St→Option AV} {r:AV} (hg:oM C f fn.ntmps id ops draw=true)
  (hK:gP C call f id ops draw st K=some r) {w0:World} {F0:Fs} {a:Act} {w:World} {H:Nat→Option Value} {σ:Nat→Option Nat} (hI:Inv C w0 F0 fn.ntmps st a w H σ) :
  (Code.region id ops draw).wp P (fun e a' w'=>e=.normal∧∃ st' H' σ',K st'=some r∧Inv C w0 F0 fn.ntmps st' a' w' H' σ') a w:=by
 unfold oM at hg
 rw [Bool.and_eq_true] at hg
 obtain ⟨hg1,hg2⟩:=hg
 have bz:∀ (i:Nat) (o:Oper) (t:Nat),ops[i]?=some o→o.dst=some t→t < fn.ntmps:=by
  intro i o t hi ht
  have:=Array.all_eq_true_iff_forall_mem.1 hg1 o (Array.mem_of_getElem? hi)
  rw [ht] at this
  unfold Nat.blt at this
  exact Nat.le_of_ble_eq_true this
 unfold gP at hK
 cases draw with
 | false =>
  simp only [cond_false] at hK
  refine wp_region (vS (nc:=[]) (E:=Held none σ) _ a w ?_)
  exact eY (D:=none) hC dE.ty bz _ hK hI (fun ws e=>by cases e) trivial fun a' w' st' H' σ' q1 q2 _ _ _=>⟨rfl,st',H',σ',q1,q2⟩
 | true =>
  simp only [cond_true] at hK hg2
  cases hp:C.D2 f id with
  | none=>rw [hp] at hK;cases hK
  | some l =>
   rw [hp] at hK hg2
   simp only at hK
   simp only [Bool.and_eq_true] at hg2
   obtain ⟨⟨h1,h2⟩,h3⟩:=hg2
   have hlen:=Nat.eq_of_beq_eq_true h3
   have hI':=hI.ext (Ext.drew w (w.drawn+1))
   refine wp_region_any dE.mixed (mE.any (nc:=l.2) (E:=Held (some l.2) σ) _ ?_)
   have key:=iD (P:=P) (nc:=l.2) (E:=Held (some l.2) σ) (Q:=fun e a' w'=>e=.normal∧∃ st' H' σ',K st'=some r∧Inv C w0 F0 fn.ntmps st' a' w' H' σ') (Held.refl _ _) (fun u v w h k=>h.trans k) h2 (fun c a w hc=>by cases hc.1) l.1 (Array.replicate ops.size false) a _
    (fun j o hj=>by rw [show (Array.replicate ops.size false).getD j false=false by rw [Array.getD_eq_getD_getElem?,Array.getElem?_replicate];split <;> rfl] at hj;cases hj) h1
    (lp (D:=some l.2) (σ0:=σ) hC dE.ty bz (fun a' w' st' H' σ' q1 q2=>⟨rfl,st',H',σ',q1,q2⟩) l.1 hK hI' (fun ws _ s _=>rfl))
   rw [hlen] at key
   exact key
theorem Kg {f:Nat} {fn:Func} {call:Nat→List AV→Option AV} {go:List Item→St→Option AV} (dE:Fit C P) (hfn:P.funcs[f]?=some fn) (hC:iT C P call) (hgo:yH C P f fn go):yH C P f fn (Sx.step C call f fn go):=by
 intro k st r hr hk w0 F0 a w H σ b hb jf hI
 have ue:∀ {x:Item} {k':List Item},k=x :: k'→∀ y ∈ k',iF (oM C f fn.ntmps) y=true:=fun e y hy=>hk y (by rw [e];exact List.mem_cons_of_mem _ hy)
 have pD:∀ {x:Item} {k':List Item},k=x :: k'→iF (oM C f fn.ntmps) x=true:=fun e=>hk _ (by rw [e];exact List.mem_cons_self ..)
 have jV:∀ {x:Item} {k':List Item},iF (oM C f fn.ntmps) x=true→(∀ y ∈ k',iF (oM C f fn.ntmps) y=true)→∀ y ∈ x :: k',iF (oM C f fn.ntmps) y=true:=fun h1 h2 y hy=>by
  rcases List.mem_cons.1 hy with rfl | hy
  ·exact h1
  ·exact h2 y hy
 have next:∀ (k':List Item) (st':St),go k' st'=some r→(∀ y ∈ k',iF (oM C f fn.ntmps) y=true)→Inv C w0 F0 fn.ntmps st' a w H σ→(∀ cs,Go.step P (lone (b.at a k) cs w)=.next (lone (b.at a k') cs w))→Ends P b a k w (rY C P f fn w0 F0 r) :=
  fun k' st' h1 h2 h3 h4=>Ends.of_steps (fun cs=>.one (h4 cs)) (hgo k' st' r h1 h2 w0 F0 a w H σ b hb jf h3)
 cases k with
 | nil=>exact Ends.finish dE hfn hb jf hI hr fun cs=>⟨_,.one step_end⟩
 | cons it k =>
  cases it with
  | inBlock id=>exact next k st hr (ue rfl) hI fun cs=>step_inBlock
  | inScope c=>exact next k st hr (ue rfl) hI fun cs=>step_inScope
  | inLoop c=>exact next _ st hr (jV (show iF _ (.code c)=true from pD (x:=.inLoop c) rfl) (jV (pD rfl) (ue rfl))) hI fun cs=>step_inLoop
  | code c =>
   have hc0:eM (oM C f fn.ntmps) c=true:=pD rfl
   cases c with
   | skip=>exact next k st hr (ue rfl) hI fun cs=>step_skip
   | label l=>exact next k st hr (ue rfl) hI fun cs=>step_label
   | loop c=>exact next _ st hr (jV hc0 (jV hc0 (ue rfl))) hI fun cs=>step_loop
   | seq x y =>
    simp only [eM,Bool.and_eq_true] at hc0
    exact next _ st hr (jV hc0.1 (jV hc0.2 (ue rfl))) hI fun cs=>step_seq
   | block id c=>exact next _ st hr (jV hc0 (jV rfl (ue rfl))) hI fun cs=>step_block
   | scope c=>exact next _ st hr (jV hc0 (jV hc0 (ue rfl))) hI fun cs=>step_scope
   | ret=>exact Ends.finish dE hfn hb jf hI hr fun cs=>⟨_,.one step_ret⟩
   | exit id =>
    have vG:(match exitTo id k with | some k'=>go k' st | none=>none)=some r:=hr
    split at vG
    ·rename_i k' he
     exact next k' st vG (pS he (ue rfl)) hI fun cs=>step_exit he
    ·cases vG
   | goto l =>
    have vG:(match gotoIn l k with | some k'=>go k' st | none=>none)=some r:=hr
    split at vG
    ·rename_i k' he
     exact next k' st vG (pR he (ue rfl)) hI fun cs=>step_goto he
    ·cases vG
   | cond c x y =>
    simp only [eM,Bool.and_eq_true] at hc0
    have vG:ah (st.get C c).aX (go (.code x :: k) (st.assume c true)) (go (.code y :: k) (st.assume c false))=some r:=hr
    unfold ah at vG
    split at vG
    ·rename_i q hq
     have hv:=kE hI hq
     have RB:Inv C w0 F0 fn.ntmps (st.assume c q) a w H σ:=by
      cases c with
      | tmp t =>
       refine hI.Fv ?_
       have:a.tmps.getD t undef=.bool q:=hv
       rw [this]
       exact Rel.b q
      | _=>exact hI
     cases q with
     | true=>exact next _ _ vG (jV hc0.1 (ue rfl)) RB fun cs=>step_cond hv
     | false=>exact next _ _ vG (jV hc0.2 (ue rfl)) RB fun cs=>step_cond hv
    ·cases vG
   | region id ops draw =>
    have vG:gP C call f id ops draw st (fun st=>go k st)=some r:=hr
    have hw:=Eg dE hC hc0 vG hI
    intro cs
    obtain ⟨e,a',w',⟨he,st',H',σ',q1,q2⟩,VP⟩:=hw b k cs
    subst he
    obtain ⟨e2,w2,fr,h1,h2,h3⟩:=hgo k st' r q1 (ue rfl) w0 F0 a' w' H' σ' b hb jf q2 cs
    exact ⟨e2,w2,fr,h1,Comes.of_steps VP h2,h3⟩
   | _=>cases hr
  | _=>cases hr
theorem firstIdx (l:List UInt8) (c:UInt8):iB l c=Lib.indexByte l c:=by
 unfold iB
 induction l with
 | nil=>rfl
 | cons x l ih =>
  simp only [List.findIdx?_cons,Lib.indexByte]
  by_cases hx:(x == c)=true
  ·simp [hx]
  ·simp only [hx,Bool.false_eq_true,if_false]
   rw [← ih]
   cases hf:l.findIdx? (· == c) with
   | none=>simp
   | some i =>
    have hne:(((i:Nat):Int) == -1)=false:=by
     rw [beq_eq_false_iff_ne]
     omega
    simp [hne]
theorem vW (dE:Fit C P):∀ n,iT C P (both C P n).1∧∀ (f:Nat) (fn:Func),P.funcs[f]?=some fn→yH C P f fn ((both C P n).2 f fn)
 | 0=>⟨⟨fun g args r h=>by simp [both] at h,fun g sg args r h=>by simp [both] at h⟩,fun f fn _ k st r h=>by simp [both] at h⟩
 | n+1=>by
  obtain ⟨ihC,VQ⟩:=vW dE n
  refine ⟨⟨fun g args r h dr w F vs hG hl hv=>?_,fun g sg args r h dr=>?_⟩,fun f fn hfn=>?_⟩
  ·have h':(match C.gv g with
   | some G=>bif (C.own g).all Option.isNone && (C.sig g).isNone then G args else none
   | none=>match P.funcs[g]? with
    | some fn=>match fn.body with
     | some c=>bif lU C g fn.ntmps args.length then arr C g ((both C P n).2 g fn) [.code c] (lT C g fn.ntmps args) else none
     | none=>bif (C.own g).all Option.isNone && (C.sig g).isNone then ext fn.name args else none
    | none=>none)=some r:=h
   cases xX:C.gv g with
   | some G =>
    rw [xX] at h'
    simp only [dr] at h'
    cases hall:(C.own g).all Option.isNone with
    | false=>rw [hall] at h';cases h'
    | true =>
     rw [hall] at h'
     exact dE.gv g G xX hall args r h' w F vs hG hl hv
   | none =>
   rw [xX] at h'
   simp only at h'
   unfold lT lU at h'
   simp only [dr] at h'
   split at h'
   case h_2=>cases h'
   rename_i fn hfn
   split at h'
   ·rename_i c fO
    cases hle:Nat.ble args.length fn.ntmps with
    | false=>rw [hle] at h';cases h'
    | true =>
     rw [hle] at h'
     have vJ:=Nat.le_of_ble_eq_true hle
     left
     refine ⟨fn,c,hfn,fO,dE.name g fn c hfn fO,fun cs=>?_⟩
     let b:Frame:=Frame.enter P g vs .normal
     have fw:Frame.enter P g vs .normal=b.at ⟨b.tmps,[]⟩ [.code c]:=by
      simp [b,Frame.enter,Frame.at,hfn,fO]
     have nJ:b.tmps=vs ++ Array.replicate (fn.ntmps - vs.size) undef:=by simp [b,Frame.enter,hfn]
     have hI:Inv C w (Fs.of F) fn.ntmps (Ae args) ⟨b.tmps,[]⟩ w (fun _=>none) (fun _=>none):={
      defers:=rfl
      size:=by rw [nJ];simp;omega
      env:=fun t=>by
       show bS _ _ _ _ (match args[t]? with | some v=>.val v | none=>.dead) _
       cases ht:args[t]? with
       | none=>trivial
       | some x =>
        have hlt:t < vs.size:=by rw [hl];exact (List.getElem?_eq_some_iff.1 ht).1
        show Rel _ _ x _
        have hg:vs[t]?=some vs[t]:=by simp [hlt]
        have:=hv t x vs[t] ht hg
        have e:b.tmps.getD t undef=vs[t]:=by
         rw [nJ]
         simp [Array.getElem?_append,hlt]
        rw [e]
        refine this.mono fun b' hb' hF=>⟨⟨fun _=>.inl hF,fun i v hi=>(by cases hi),fun s hs=>(by cases hs)⟩,rfl⟩
      mem:=fun s cs hs=>by cases hs
      hown:=fun i x g hi=>by cases hi
      sown:=fun s r hs=>by cases hs
      obj:=fun s b hb=>by cases hb
      hh:=fun i j x y g _ hi=>by cases hi
      hs:=fun i s x r hi=>by cases hi
      ss:=fun s s' r _ hs=>by cases hs
      glob:=fun g k e hg=>by
       obtain ⟨b',o,h1,h2,h3,h4⟩:=hG g k e hg
       refine ⟨b',o,h1,⟨fun _=>.inl h2,fun i v hi=>(by cases hi),fun s hs=>(by cases hs)⟩,h3,fun j hj=>?_⟩
       obtain ⟨v,q1,q2,q3⟩:=h4 j hj
       exact ⟨v,q1,q2,q3.mono fun b' hb' hF=>⟨⟨fun _=>.inl hF,fun i v hi=>(by cases hi),fun s hs=>(by cases hs)⟩,rfl⟩⟩
      below:=Fq.refl _ w }
     have hrun:=Av (VQ g fn hfn) [.code c] (Ae args) r h' (fun x hx=>by
      have:x=.code c:=by simpa using hx
      subst this
      exact dE.code g fn c hfn fO) w (Fs.of F) _ w _ _ b rfl rfl hI cs
     rw [fw]
     obtain ⟨e,w',fr,h1,h2⟩:=hrun
     unfold rY at h1
     rw [dr] at h1
     exact ⟨e,w',fr,h1 (fun _ hb=>hb),h2⟩
   ·rename_i fO
    right
    cases hall:(C.own g).all Option.isNone with
    | false=>rw [hall] at h';cases h'
    | true =>
    rw [hall] at h'
    simp only [Option.isNone_none,Bool.and_self,cond_true] at h'
    unfold ext at h'
    split at h'
    ·rename_i l c
     cases oq:(fn.name == "internal/bytealg.IndexByteString") with
     | false=>rw [oq] at h';cases h'
     | true =>
      rw [oq] at h'
      simp only [cond_true,Option.some.injEq] at h'
      subst h'
      match vs,hl,hv with
      | ⟨[x,y]⟩,_,hv =>
       have hx:=hv 0 _ x rfl rfl
       have hy:=hv 1 _ y rfl rfl
       cases hx with
       | s q =>
        cases hy
        refine ⟨_,dE.ext g fn hfn fO oq q c.toNat w,_,rfl,Ext.refl w,?_⟩
        unfold eV
        rw [if_pos hall,firstIdx]
        have e:((c.toNat:Int)).toNat.toUInt8=c:=by simp
        rw [e]
        exact .int _
    ·cases h'
  ·have h':(match C.gv g with
   | some G=>bif (C.own g).all Option.isNone && (C.sig g).isNone then G args else none
   | none=>match P.funcs[g]? with
    | some fn=>match fn.body with
     | some c=>bif lU C g fn.ntmps args.length then arr C g ((both C P n).2 g fn) [.code c] (lT C g fn.ntmps args) else none
     | none=>bif (C.own g).all Option.isNone && (C.sig g).isNone then ext fn.name args else none
    | none=>none)=some r:=h
   cases xX:C.gv g with
   | some G =>
    rw [xX] at h'
    simp only [dr] at h'
    cases hall:(C.own g).all Option.isNone with
    | false=>rw [hall] at h';cases h'
    | true =>
     rw [hall] at h'
     cases h'
   | none =>
   rw [xX] at h'
   simp only at h'
   unfold lT lU at h'
   simp only [dr] at h'
   split at h'
   case h_2=>cases h'
   rename_i fn hfn
   split at h'
   ·rename_i c fO
    cases hle:(Nat.ble sg.ps.length fn.ntmps && Nat.beq args.length (sg.ps.length+sg.objs.length)) with
    | false=>rw [hle] at h';cases h'
    | true =>
     rw [hle] at h'
     rw [Bool.and_eq_true] at hle
     refine ⟨fn,hfn,Nat.le_of_ble_eq_true hle.1,Nat.eq_of_beq_eq_true hle.2,fun w F0 vs H σ oG hI=>.inl ⟨fn,c,hfn,fO,dE.name g fn c hfn fO,fun cs=>?_⟩⟩
     let b:Frame:=Frame.enter P g vs .normal
     have fw:Frame.enter P g vs .normal=b.at ⟨b.tmps,[]⟩ [.code c]:=by
      simp [b,Frame.enter,Frame.at,hfn,fO]
     have nJ:b.tmps=vs ++ Array.replicate (fn.ntmps - vs.size) undef:=by simp [b,Frame.enter,hfn]
     have hrun:=Av (VQ g fn hfn) [.code c] (B4 fn.ntmps sg args) r h' (fun x hx=>by
      have:x=.code c:=by simpa using hx
      subst this
      exact dE.code g fn c hfn fO) w F0 ⟨b.tmps,[]⟩ w H σ b rfl rfl (by rw [nJ];exact hI) cs
     rw [fw]
     obtain ⟨e,w',fr,h1,h2⟩:=hrun
     unfold rY at h1
     rw [dr] at h1
     exact ⟨e,w',fr,h1,h2⟩
   ·simp at h'
  ·exact Kg dE hfn ihC (Av (VQ f fn hfn))
end
end Sx
namespace Sx
open Go
section
variable {C:cU} {call:Nat→List AV→Option AV} {f:Nat} {R:Type}
theorem lift_bind (st:St) (dst:Option Nat) (K:St→Option R) (o:Option AV):lift st dst K o=(lift st dst some o).bind K:=by
 unfold lift;cases o <;> rfl
theorem bF (t:Nat) (e:aY) (K:List Cell→Option R):cellsOf C t e K=(cellsOf C t e some).bind K:=by
 unfold cellsOf
 cases C.ty t with
 | none=>rfl
 | some i =>
  simp only
  cases i.kd.agg with
  | true =>
   simp only [cond_true]
   cases e with
   | agg cs=>simp only;cases Nat.beq cs.length i.size <;> rfl
   | cell c=>cases c with
    | val v=>simp only;cases AV.aI i.size v <;> rfl
    | _=>rfl
   | _=>rfl
  | false =>
   simp only [cond_false]
   cases Nat.beq i.size 1 with
   | false=>rfl
   | true =>
    simp only [cond_true]
    cases e with
    | cell c=>cases c with
     | val v=>simp only;cases AV.one v <;> rfl
     | _=>rfl
    | _=>rfl
theorem yI (t:Nat) (a:aY) (dst:Option Nat) (st:St) (K:St→Option R):ou C t a dst st K=(ou C t a dst st some).bind K:=by
 unfold ou
 cases C.ty t with
 | none=>rfl
 | some i =>
  simp only
  split
  ·split
   ·cases Nat.ble _ _ <;> rfl
   ·rfl
  ·cases Nat.ble _ _ <;> rfl
  ·cases Nat.ble _ _ <;> rfl
  ·rfl
theorem vX (t:Nat) (a v:aY) (st:St) (K:St→Option R):ld C t a v st K=(ld C t a v st some).bind K:=by
 unfold ld
 split
 ·rw [bF];conv=>rhs;rw [bF]
  cases cellsOf C t v some with
  | none=>rfl
  | some new =>
   simp only [Option.bind_some]
   split
   ·cases Nat.ble _ _ <;> rfl
   ·rfl
 ·rw [bF];conv=>rhs;rw [bF]
  cases cellsOf C t v some with
  | none=>rfl
  | some new =>
   simp only [Option.bind_some]
   split
   ·cases (_ && _:Bool) <;> rfl
   ·rfl
 ·rfl
theorem mG (fields:List (Nat×Nat)) (st:St) (K:List Cell→Option R):∀ (ps:List (Nat×Operand)) (cs:List Cell),nj C fields st ps cs K=(nj C fields st ps cs some).bind K
 | [],cs=>rfl
 | (i,x) :: r,cs=>by
  simp only [nj]
  split
  ·rw [bF];conv=>rhs;rw [bF]
   cases cellsOf C _ (st.get C x) some with
   | none=>rfl
   | some new =>
    simp only [Option.bind_some]
    cases Nat.ble _ _ with
    | false=>rfl
    | true=>simp only [cond_true];exact mG fields st K r _
  ·rfl
theorem mH (t:Nat) (agg:Bool) (st:St) (K:List AV→Option R):∀ (ps:List (Nat×Operand)) (l:List AV),j6 C t agg st ps l K=(j6 C t agg st ps l some).bind K
 | [],l=>rfl
 | (i,x) :: r,l=>by
  simp only [j6]
  cases (_ && _:Bool) with
  | false=>rfl
  | true =>
   simp only [cond_true]
   rw [bF];conv=>rhs;rw [bF]
   cases cellsOf C _ (st.get C x) some with
   | none=>rfl
   | some new=>simp only [Option.bind_some];exact mH t agg st K r _
theorem vY (t:Nat) (x:aY) (lo hi mx:Option Operand) (dst:Option Nat) (st:St) (K:St→Option R):jy C f t x lo hi mx dst st K=(jy C f t x lo hi mx dst st some).bind K:=by
 cases mx with
 | some m=>rfl
 | none =>
  simp only [jy]
  split
  ·exact lift_bind ..
  ·split
   ·rfl
   ·cases (dst.map (C.ux f)).getD false with
    | false=>simp only [cond_false];exact lift_bind ..
    | true =>
     simp only [cond_true]
     split
     ·cases xW _ _ with
      | none=>rfl
      | some n=>cases dst <;> rfl
     ·rfl
  ·rfl
theorem yJ (src to:Nat) (x:aY) (dst:Option Nat) (st:St) (K:St→Option R):iR C src to x dst st K=(iR C src to x dst st some).bind K:=by
 unfold iR
 split
 ·exact lift_bind ..
 ·exact lift_bind ..
 ·split
  ·exact lift_bind ..
  ·rfl
 ·split
  ·exact lift_bind ..
  ·rfl
 ·split
  ·cases (_ && _:Bool) with
   | false=>rfl
   | true =>
    simp only [cond_true]
    split <;> rfl
  ·rfl
 ·rfl
theorem rZ (b:Builtin) (args:List Operand) (ts:List Nat) (dst:Option Nat) (st:St) (K:St→Option R):gG C b args ts dst st K=(gG C b args ts dst st some).bind K:=by
 unfold gG
 split
 ·split
  ·exact lift_bind ..
  ·exact lift_bind ..
  ·rfl
 ·exact lift_bind ..
 ·exact lift_bind ..
 ·exact lift_bind ..
 ·split
  ·split
   ·cases (Kd.qw _) with
    | false=>rfl
    | true =>
     simp only [cond_true]
     split
     ·cases (_ && _:Bool) with
      | false=>rfl
      | true =>
       simp only [cond_true]
       cases app _ _ _ _ with
       | none=>rfl
       | some m=>cases dst <;> rfl
     ·cases app _ _ _ _ with
      | none=>rfl
      | some m=>cases dst <;> rfl
     ·rfl
   ·cases (Kd.qw _) with
    | false=>rfl
    | true =>
     simp only [cond_true]
     split
     ·cases (_ && _:Bool) with
      | false=>rfl
      | true =>
       simp only [cond_true]
       cases app _ _ _ _ with
       | none=>rfl
       | some m=>cases dst <;> rfl
     ·cases app _ _ _ _ with
      | none=>rfl
      | some m=>cases dst <;> rfl
     ·rfl
   ·rfl
  ·rfl
 ·rfl
theorem mI (site:Nat→Nat) (res:AV) (K:St→Option R):∀ (objs:List (Src×List gi)) (i:Nat) (st:St),pA site res i objs st K=(pA site res i objs st some).bind K
 | [],i,st=>rfl
 | o :: r,i,st=>by
  simp only [pA]
  cases aV res (i+1) with
  | none=>rfl
  | some v =>
   simp only [Option.bind_some]
   cases AV.aI o.2.length v with
   | none=>rfl
   | some l=>simp only [Option.bind_some];exact mI site res K r _ _
theorem nK (sg:vE) (g:Nat) (xs:List aY) (dst:Option Nat) (st:St) (K:St→Option R):cX C call sg g xs dst st K=(cX C call sg g xs dst st some).bind K:=by
 unfold cX
 cases nk st xs [] sg.objs with
 | none=>rfl
 | some sites =>
  simp only [Option.bind_some]
  cases (_ && _:Bool) with
  | false=>rfl
  | true =>
   simp only [cond_true]
   cases np _ _ _ _ with
   | none=>rfl
   | some ins =>
    simp only [Option.bind_some]
    cases call _ _ with
    | none=>rfl
    | some res =>
     simp only [Option.bind_some]
     cases aV res 0 with
     | none=>rfl
     | some v =>
      simp only [Option.bind_some]
      rw [mI]
      conv=>rhs;rw [mI]
      cases pA _ _ _ _ _ some <;> rfl
theorem yK (c:Call) (dst:Option Nat) (st:St) (K:St→Option R):j7 C call c dst st K=(j7 C call c dst st some).bind K:=by
 unfold j7
 simp only
 split
 ·split
  ·exact nK ..
  ·cases List.all _ _ with
   | false=>rfl
   | true =>
    simp only [cond_true]
    cases call _ _ with
    | none=>rfl
    | some r=>simp only [Option.bind_some];cases ma _ _ _ _ <;> rfl
 ·split
  ·split
   ·exact nK ..
   ·rfl
  ·cases List.all _ _ with
   | false=>rfl
   | true =>
    simp only [cond_true]
    cases AV.Nx _ with
    | none=>rfl
    | some g =>
     simp only [Option.bind_some]
     cases pB C call _ _ <;> rfl
 ·exact rZ ..
 ·rfl
theorem uL (o:Oper) (st:St) (K:St→Option R):bM C call f o st K=(bM C call f o st some).bind K:=by
 cases ho:o.op with
 | move x=>simp only [bM,ho];rfl
 | assign x=>simp only [bM,ho];rfl
 | pick c a b=>simp only [bM,ho];exact lift_bind ..
 | alloc t=>simp only [bM,ho];cases C.ty t with
  | none=>rfl
  | some i=>cases o.dst <;> rfl
 | box t x =>
  simp only [bM,ho]
  rw [bF];conv=>rhs;rw [bF]
  cases cellsOf C t (st.get C x) some with
  | none=>rfl
  | some cs =>
   simp only [Option.bind_some]
   cases C.pt t with
   | true =>
    simp only [cond_true]
    cases (cs.all Cell.isVal && !cs.isEmpty) <;> rfl
   | false=>cases o.dst <;> rfl
 | build t ps=>simp only [bM,ho];cases C.ty t with
  | none=>rfl
  | some i =>
   simp only
   cases i.kd.agg with
   | false=>rfl
   | true =>
    simp only [cond_true]
    rw [mG];conv=>rhs;rw [mG]
    cases nj C i.fields st ps.toList _ some <;> rfl
 | buildSlice t n ps =>
  simp only [bM,ho]
  split
  ·cases (_ && _:Bool) with
   | false=>rfl
   | true =>
    simp only [cond_true]
    rw [mH];conv=>rhs;rw [mH]
    cases j6 C _ _ st ps.toList _ some with
    | none=>rfl
    | some l=>cases o.dst <;> rfl
  ·rfl
 | load t a=>simp only [bM,ho];exact yI ..
 | store t a x=>simp only [bM,ho];cases o.dst with
  | none=>exact vX ..
  | some d=>rfl
 | binOp op t x y u =>
  simp only [bM,ho]
  cases C.ty t with
  | none=>rfl
  | some i =>
   simp only
   cases i.kd.agg with
   | true =>
    simp only [cond_true]
    cases i.eqk with
    | none=>rfl
    | some ks=>exact lift_bind ..
   | false =>
    simp only [cond_false]
    cases i.kd <;> first | exact lift_bind .. | rfl
 | unOp op t x=>simp only [bM,ho];exact lift_bind ..
 | convert s t x=>simp only [bM,ho];exact yJ ..
 | makeSlice t n c =>
  simp only [bM,ho]
  split
  ·cases (bif _ then _ else _:Option (List AV)) with
   | none=>rfl
   | some l=>cases o.dst <;> rfl
  ·rfl
 | slice t x lo hi mx=>simp only [bM,ho];exact vY ..
 | fieldAddr t x i=>simp only [bM,ho];split <;> rfl
 | field t x i =>
  simp only [bM,ho]
  split
  ·rw [bF];conv=>rhs;rw [bF]
   cases cellsOf C t (st.get C x) some with
   | none=>rfl
   | some cs =>
    simp only [Option.bind_some]
    split
    ·cases Nat.ble _ _ <;> rfl
    ·rfl
  ·rfl
 | indexAddr t x i =>
  simp only [bM,ho]
  split
  ·split
   ·cases Nat.beq _ _ with
    | false=>rfl
    | true=>simp only [cond_true];cases lS _ _ <;> rfl
   ·cases idx _ _ _ <;> rfl
   ·rfl
  ·rfl
 | index t x i =>
  simp only [bM,ho]
  split
  ·exact lift_bind ..
  ·rfl
 | extract x i =>
  simp only [bM,ho]
  cases x with
  | tmp t =>
   simp only
   split
   ·split <;> rfl
   ·exact lift_bind ..
   ·rfl
  | _=>rfl
 | makeFunc fn fi ca =>
  simp only [bM,ho]
  split
  ·rfl
  ·cases mi _ <;> rfl
  ·rfl
 | nilCheck x=>simp only [bM,ho];split <;> rfl
 | call c=>simp only [bM,ho];exact yK ..
 | _=>simp only [bM,ho];rfl
end
def Ev (p:Nat→Prop):Prop:=∃ n0,∀ n,n0≤n→p n
theorem Ev.of {p:Nat→Prop} (h:∀ n,p n):Ev p:=⟨0,fun n _=>h n⟩
theorem Ev.mono {p q:Nat→Prop} (h:Ev p) (hq:∀ n,p n→q n):Ev q:=by
 obtain ⟨n0,h⟩:=h;exact ⟨n0,fun n hn=>hq n (h n hn)⟩
theorem Ev.and {p q:Nat→Prop} (h:Ev p) (k:Ev q):Ev fun n=>p n∧q n:=by
 obtain ⟨a,h⟩:=h;obtain ⟨b,k⟩:=k
 exact ⟨max a b,fun n hn=>⟨h n (Nat.le_trans (Nat.le_max_left ..) hn),k n (Nat.le_trans (Nat.le_max_right ..) hn)⟩⟩
theorem Ev.const {p:Prop} (h:Ev fun _=>p):p:=by obtain ⟨n0,h⟩:=h;exact h n0 (Nat.le_refl _)
theorem Ev.ex {p:Nat→Prop} (h:Ev p):∃ n,p n:=by obtain ⟨n0,h⟩:=h;exact ⟨n0,h n0 (Nat.le_refl _)⟩
section
variable {C:cU} {call:Nat→List AV→Option AV} {cs:Nat→Nat→List AV→Option AV} {f:Nat}
theorem se (hc:∀ g xs r,call g xs=some r→Ev fun n=>cs n g xs=some r) {sg:vE} {g:Nat} {xs:List aY} {dst:Option Nat} {st st':St} (h:cX C call sg g xs dst st some=some st'):Ev fun n=>cX C (cs n) sg g xs dst st some=some st':=by
 unfold cX at h ⊢
 obtain ⟨sites,h1,h⟩:=Option.bind_eq_some_iff.1 h
 simp only at h
 generalize hb:(B3 sg && (nodup sites && (mb sites sg.ps xs && (nodup (ck true (fun i=>sites.getD i 0) (st.ju (mf sg.ps xs ++ ck false (fun i=>sites.getD i 0) st.mem 0 sg.objs)).mem 0 sg.objs) && (C.own g).isEmpty))))=b at h
 cases b with
 | false=>cases h
 | true =>
  simp only [cond_true] at h
  obtain ⟨ins,h2,h⟩:=Option.bind_eq_some_iff.1 h
  obtain ⟨res,h3,h⟩:=Option.bind_eq_some_iff.1 h
  refine (hc _ _ _ h3).mono fun n hn=>?_
  simp only [h1,Option.bind_some,hb,cond_true,h2,hn]
  exact h
theorem Kh (hc:∀ g xs r,call g xs=some r→Ev fun n=>cs n g xs=some r) (o:Oper) (st st':St) (h:bM C call f o st some=some st'):Ev fun n=>bM C (cs n) f o st some=some st':=by
 cases ho:o.op <;> first
  | (refine Ev.of fun n=>?_;simp only [bM,ho] at h ⊢;exact h;done)
  | skip
 case call c =>
  simp only [bM,ho] at h ⊢
  unfold j7 at h ⊢
  simp only at h ⊢
  split at h
  ·rename_i g hg
   cases dr:C.sig g with
   | some sg =>
    rw [dr] at h
    simp only [hg,dr]
    exact se hc h
   | none =>
   rw [dr] at h
   simp only at h
   cases ha:(c.args.toList.map (st.get C)).all aY.told with
   | false=>rw [ha] at h;cases h
   | true =>
    rw [ha] at h
    simp only [cond_true] at h
    obtain ⟨r,hr,h⟩:=Option.bind_eq_some_iff.1 h
    refine (hc _ _ _ hr).mono fun n hn=>?_
    simp only [hg,dr,ha,cond_true,hn,Option.bind_some]
    exact h
  ·rename_i t ht
   split at h
   ·rename_i g ss cK
    cases dr:C.sig g with
    | none=>rw [dr] at h;cases h
    | some sg =>
     rw [dr] at h
     simp only [ht,cK,dr]
     exact se hc h
   ·rename_i Q0
    cases ha:(c.args.toList.map (st.get C)).all aY.told with
    | false=>rw [ha] at h;cases h
    | true =>
     rw [ha] at h
     simp only [cond_true] at h
     obtain ⟨g,hg,h⟩:=Option.bind_eq_some_iff.1 h
     obtain ⟨r,hr,h⟩:=Option.bind_eq_some_iff.1 h
     unfold pB at hr
     cases hb:((C.sig g).isNone && (C.own g).all Option.isNone) with
     | false=>rw [hb] at hr;cases hr
     | true =>
     rw [hb] at hr
     simp only [cond_true] at hr
     refine (hc _ _ _ hr).mono fun n hn=>?_
     simp only [cond_true,hg,Option.bind_some,pB,hb,hn]
     exact h
  ·rename_i b hb
   refine Ev.of fun n=>?_
   (try simp only [hb])
   exact h
  ·cases h
theorem eC (hc:∀ g xs r,call g xs=some r→Ev fun n=>cs n g xs=some r) {ops:Array Oper} {D:Option (List Nat)} :
  ∀ (m:Nat) {R:Type} (ctx:Option (Nat×Bool)) (l:List (Nat×Bool)) (st:St) (K:St→Option R) (Ks:Nat→St→Option R) (r:R),(∀ st r,K st=some r→Ev fun n=>Ks n st=some r) →
   cC C call f ops D m ctx l st K=some r→Ev fun n=>cC C (cs n) f ops D m ctx l st (Ks n)=some r
 | 0,R,ctx,l,st,K,Ks,r,hK,h=>by cases h
 | m+1,R,ctx,[],st,K,Ks,r,hK,h=>hK st r h
 | m+1,R,ctx,i :: l,st,K,Ks,r,hK,h=>by
  simp only [cC] at h ⊢
  cases hlt:Nat.blt i.1 ops.size with
  | false=>rw [hlt] at h;cases h
  | true =>
   simp only [hlt,Bool.not_true,cond_false] at h ⊢
   cases QE:pC (opAt ops i.1).guard ctx with
   | true =>
    simp only [QE,cond_true] at h ⊢
    cases fp:vF C i.1 (opAt ops i.1) i.2 D st with
    | false=>rw [fp] at h;cases h
    | true =>
     simp only [fp,cond_true] at h ⊢
     rw [uL] at h
     obtain ⟨st',h1,h2⟩:=Option.bind_eq_some_iff.1 h
     refine ((Kh hc _ _ _ h1).and (eC hc m _ l st' K Ks r hK h2)).mono fun n hn=>?_
     rw [uL,hn.1]
     exact hn.2
   | false =>
    simp only [QE,cond_false] at h ⊢
    split at h
    ·cases h
    rename_i j want hg
    split at h
    ·cases h
    rename_i d j4
    split at h
    case h_2=>cases h
    rename_i j8 p A B rest hcut
    cases hh:(hangs C ops true j want d j8 [] && Nat.blt p.1 ops.size) with
    | false =>
     rw [hh] at h
     simp only [cond_false] at h
     cases Ck:(hangs C ops false j want d j8 [] && Nat.blt p.1 ops.size) with
     | false=>rw [Ck] at h;cases h
     | true =>
      rw [Ck] at h
      simp only [cond_true] at h
      have k1:∀ r,cC C call f ops D m (some (j,want)) j8 st (fun st=>cC C call f ops D m ctx rest (st.put (opAt ops p.1).dst (st.get C (bif want then A else B))) K)=some r →
        Ev fun n=>cC C (cs n) f ops D m (some (j,want)) j8 st (fun st=>cC C (cs n) f ops D m ctx rest (st.put (opAt ops p.1).dst (st.get C (bif want then A else B))) (Ks n))=some r :=
       fun r h=>eC hc m _ j8 st _ (fun n st=>cC C (cs n) f ops D m ctx rest (st.put (opAt ops p.1).dst (st.get C (bif want then A else B))) (Ks n)) r (fun st r h=>eC hc m _ rest _ K Ks r hK h) h
      have k2:∀ r,cC C call f ops D m ctx rest ((st.eL (j8.filterMap fun i=>bR ops i.1)).put (opAt ops p.1).dst (st.get C (bif want then B else A))) K=some r →
        Ev fun n=>cC C (cs n) f ops D m ctx rest ((st.eL (j8.filterMap fun i=>bR ops i.1)).put (opAt ops p.1).dst (st.get C (bif want then B else A))) (Ks n)=some r :=
       fun r h=>eC hc m _ rest _ K Ks r hK h
      unfold Ad ah at h
      cases want with
      | true =>
       simp only [cond_true] at h
       split at h
       ·rename_i x hx
        cases x with
        | true=>exact (k1 r h).mono fun n hn=>by simp only [j4,hcut,hh,Ck,cond_false,cond_true];unfold Ad ah;rw [hx];exact hn
        | false=>exact (k2 r h).mono fun n hn=>by simp only [j4,hcut,hh,Ck,cond_false,cond_true];unfold Ad ah;rw [hx];exact hn
       ·cases h
      | false =>
       simp only [cond_false] at h
       split at h
       ·rename_i x hx
        cases x with
        | true=>exact (k2 r h).mono fun n hn=>by simp only [j4,hcut,hh,Ck,cond_false,cond_true];unfold Ad ah;rw [hx];exact hn
        | false=>exact (k1 r h).mono fun n hn=>by simp only [j4,hcut,hh,Ck,cond_false,cond_true];unfold Ad ah;rw [hx];exact hn
       ·cases h
    | true =>
     rw [hh] at h
     simp only [cond_true] at h
     obtain ⟨v,hv,h⟩:=Option.bind_eq_some_iff.1 h
     have VR:Ev fun n=>az (st.env d).aX want (cC C (cs n) f ops D m (some (j,want)) j8 st fun st=>some (st.get C (bif want then A else B)).aX) (st.get C (bif want then B else A)).aX=some v:=by
      unfold az at hv ⊢
      split at hv
      ·rename_i x hx
       (try simp only [hx])
       cases xY:(x == want) with
       | true =>
        simp only [xY,cond_true] at hv ⊢
        split at hv
        ·rename_i y hy
         refine (eC hc m _ j8 st _ (fun _ st=>some (st.get C (bif want then A else B)).aX) _ (fun st r h=>Ev.of fun _=>h) hy).mono fun n hn=>?_
         rw [hn]
         exact hv
        ·cases hv
       | false =>
        simp only [xY,cond_false] at hv ⊢
        exact Ev.of fun _=>hv
      ·cases hv
     refine (VR.and (eC hc m _ rest _ K Ks r hK h)).mono fun n hn=>?_
     simp only [j4,hcut,hh,cond_true,hn.1,Option.bind_some]
     exact hn.2
theorem Aw {R:Type} {A B:Option R} {r:R} (h:agree A B=some r):A=some r∧B=some r:=by
 unfold agree at h
 split at h
 ·rename_i e;exact ⟨h,e ▸ h⟩
 ·cases h
theorem Ge {R:Type} {A B:Option R} {r:R} (h1:A=some r) (h2:B=some r):agree A B=some r:=by
 unfold agree
 rw [h1,h2,if_pos rfl]
@[simp] theorem Ki {R:Type} (A:Option R):same A=A:=by
 unfold same agree
 rw [if_pos rfl]
theorem lq (hc:∀ g xs r,call g xs=some r→Ev fun n=>cs n g xs=some r) {R:Type} {ops:Array Oper} {D:Option (List Nat)} {m:Nat} {K:St→Option R} {Ks:Nat→St→Option R} (hK:∀ st r,K st=some r→Ev fun n=>Ks n st=some r) :
  ∀ (T:j5) {st:St} {r:R},eU C call f ops D m T st K=some r→Ev fun n=>eU C (cs n) f ops D m T st (Ks n)=some r
 | .done,st,r,h=>hK st r h
 | .seq l t,st,r,h=>eC hc m _ l st _ (fun n st=>eU C (cs n) f ops D m t st (Ks n)) r (fun st r h=>lq hc hK t h) h
 | .fork i x j y,st,r,h=>by
  simp only [eU] at h ⊢
  obtain ⟨h1,h2⟩:=Aw h
  have k1:=eC hc m _ [(i,false)] st _ (fun n st=>eU C (cs n) f ops D m x st (Ks n)) r (fun st r h=>lq hc hK x h) h1
  have k2:=eC hc m _ [(j,false)] st _ (fun n st=>eU C (cs n) f ops D m y st (Ks n)) r (fun st r h=>lq hc hK y h) h2
  exact (k1.and k2).mono fun n hn=>Ge hn.1 hn.2
theorem yL (hc:∀ g xs r,call g xs=some r→Ev fun n=>cs n g xs=some r) {R:Type} {D4:Nat} {ops:Array Oper} {draw:Bool} {st:St} {K:St→Option R} {Ks:Nat→St→Option R} {r:R} (hK:∀ st r,K st=some r→Ev fun n=>Ks n st=some r)
  (h:gP C call f D4 ops draw st K=some r):Ev fun n=>gP C (cs n) f D4 ops draw st (Ks n)=some r:=by
 unfold gP at h ⊢
 cases draw with
 | false =>
  simp only [cond_false] at h ⊢
  exact eC hc _ _ _ _ _ _ _ hK h
 | true =>
  simp only [cond_true] at h ⊢
  split at h
  ·rename_i p hp
   (try simp only [hp])
   exact lq hc hK p.1 h
  ·cases h
theorem vZ (hc:∀ g xs r,call g xs=some r→Ev fun n=>cs n g xs=some r) {fn:Func} {go:List Item→St→Option AV} {gos:Nat→List Item→St→Option AV} (hgo:∀ k st r,go k st=some r→Ev fun n=>gos n k st=some r)
  {k:List Item} {st:St} {r:AV} (h:step C call f fn go k st=some r):Ev fun n=>step C (cs n) f fn (gos n) k st=some r:=by
 cases k with
 | nil=>exact Ev.of fun _=>h
 | cons it k =>
  cases it with
  | inBlock id=>exact hgo _ _ _ h
  | inScope c=>exact hgo _ _ _ h
  | inLoop c=>exact hgo _ _ _ h
  | code c =>
   cases c with
   | skip=>exact hgo _ _ _ h
   | label l=>exact hgo _ _ _ h
   | loop c=>exact hgo _ _ _ h
   | seq x y=>exact hgo _ _ _ h
   | block id c=>exact hgo _ _ _ h
   | scope c=>exact hgo _ _ _ h
   | ret=>exact Ev.of fun _=>h
   | exit id =>
    simp only [step] at h ⊢
    split at h
    ·rename_i k' he;(try simp only [he]);exact hgo _ _ _ h
    ·cases h
   | goto l =>
    simp only [step] at h ⊢
    split at h
    ·rename_i k' he;(try simp only [he]);exact hgo _ _ _ h
    ·cases h
   | cond c x y =>
    simp only [step,ah] at h ⊢
    split at h
    ·rename_i q hq
     (try simp only [hq])
     cases q with
     | true=>exact hgo _ _ _ h
     | false=>exact hgo _ _ _ h
    ·cases h
   | region id ops draw =>
    simp only [step] at h ⊢
    exact yL hc (fun st r h=>hgo k st r h) h
   | _=>cases h
  | _=>cases h
theorem Gf {go:List Item→St→Option AV} {gos:Nat→List Item→St→Option AV} (hgo:∀ k st r,go k st=some r→Ev fun n=>gos n k st=some r) {k:List Item} {st:St} {r:AV} (h:arr C f go k st=some r):Ev fun n=>arr C f (gos n) k st=some r:=by
 unfold arr at h ⊢
 split at h
 ·rename_i l s hl;(try simp only [hl]);exact hgo _ _ _ h
 ·rename_i hl;(try simp only [hl]);exact hgo _ _ _ h
end
section
open Classical
def ae (C:cU) (P:Program) (g:Nat) (xs:List AV):Option AV:=if h:∃ r,Ev fun n=>(both C P n).1 g xs=some r then some (choose h) else none
def af (C:cU) (P:Program) (f:Nat) (fn:Func) (k:List Item) (st:St):Option AV:=if h:∃ r,Ev fun n=>(both C P n).2 f fn k st=some r then some (choose h) else none
variable {C:cU} {P:Program}
theorem jD {g:Nat} {xs:List AV} {r:AV} (h:ae C P g xs=some r):Ev fun n=>(both C P n).1 g xs=some r:=by
 unfold ae at h
 split at h
 ·rename_i hh
  have:=choose_spec hh
  cases h
  exact this
 ·cases h
theorem pT {f:Nat} {fn:Func} {k:List Item} {st:St} {r:AV} (h:af C P f fn k st=some r):Ev fun n=>(both C P n).2 f fn k st=some r:=by
 unfold af at h
 split at h
 ·rename_i hh
  have:=choose_spec hh
  cases h
  exact this
 ·cases h
theorem mJ {g:Nat} {xs:List AV} {r:AV} (h:Ev fun n=>(both C P n).1 g xs=some r):ae C P g xs=some r:=by
 have hh:∃ r,Ev fun n=>(both C P n).1 g xs=some r:=⟨r,h⟩
 unfold ae
 rw [dif_pos hh]
 obtain ⟨n,h1,h2⟩:=((choose_spec hh).and h).ex
 rw [← h1];exact h2
theorem Eh {f:Nat} {fn:Func} {k:List Item} {st:St} {r:AV} (h:Ev fun n=>(both C P n).2 f fn k st=some r):af C P f fn k st=some r:=by
 have hh:∃ r,Ev fun n=>(both C P n).2 f fn k st=some r:=⟨r,h⟩
 unfold af
 rw [dif_pos hh]
 obtain ⟨n,h1,h2⟩:=((choose_spec hh).and h).ex
 rw [← h1];exact h2
theorem Ev.succ {p:Nat→Prop} (h:Ev fun n=>p (n+1)):Ev p:=by
 obtain ⟨n0,h⟩:=h
 refine ⟨n0+1,fun n hn=>?_⟩
 obtain ⟨m,rfl⟩:∃ m,n=m+1:=⟨n - 1,by omega⟩
 exact h m (by omega)
theorem pU {f:Nat} {fn:Func} {k:List Item} {st:St} {r:AV} (h:step C (ae C P) f fn (arr C f (af C P f fn)) k st=some r):af C P f fn k st=some r :=
 Eh (Ev.succ (vZ (cs:=fun n=>(both C P n).1) (gos:=fun n=>arr C f ((both C P n).2 f fn)) (fun _ _ _ h=>jD h) (fun _ _ _ h=>Gf (gos:=fun n=>(both C P n).2 f fn) (fun _ _ _ h=>pT h) h) h))
def Oh (C:cU) (call:Nat→List AV→Option AV) (run:List Item→St→Option AV) (f:Nat) (fn:Func):Nat→List Item→St→Option AV
 | 0,_,_=>none
 | n+1,k,st=>match Fp C f k with
  | some (l,s)=>run k (st.canon l s)
  | none=>step C call f fn (Oh C call run f fn n) k st
theorem Ax {f:Nat} {fn:Func}:∀ (n:Nat) {k:List Item} {st:St} {r:AV},Oh C (ae C P) (af C P f fn) f fn n k st=some r→arr C f (af C P f fn) k st=some r
 | 0,k,st,r,h=>by cases h
 | n+1,k,st,r,h=>by
  simp only [Oh] at h
  unfold arr
  split at h
  ·rename_i l s hl;simp only [hl];exact h
  ·rename_i hl
   simp only [hl]
   refine pU ?_
   exact (vZ (cs:=fun _=>ae C P) (gos:=fun _=>arr C f (af C P f fn)) (fun _ _ _ h=>Ev.of fun _=>h) (fun _ _ _ h=>Ev.of fun _=>Ax n h) h).const
theorem Ay {f:Nat} {fn:Func} (n:Nat) {k:List Item} {st:St} {r:AV} (h:step C (ae C P) f fn (Oh C (ae C P) (af C P f fn) f fn n) k st=some r):af C P f fn k st=some r :=
 pU (vZ (cs:=fun _=>ae C P) (gos:=fun _=>arr C f (af C P f fn)) (fun _ _ _ h=>Ev.of fun _=>h) (fun _ _ _ h=>Ev.of fun _=>Ax n h) h).const
theorem yM {g:Nat} {fn:Func} {c:Code} (hfn:P.funcs[g]?=some fn) (hb:fn.body=some c) (n:Nat) {xs:List AV} {r:AV} (hl:lU C g fn.ntmps xs.length=true) (h:Oh C (ae C P) (af C P g fn) g fn n [.code c] (lT C g fn.ntmps xs)=some r) (xX:C.gv g=none:=by rfl):ae C P g xs=some r:=by
 refine mJ (Ev.succ ?_)
 have h1:=Gf (C:=C) (f:=g) (gos:=fun n=>(both C P n).2 g fn) (fun _ _ _ h=>pT h) (Ax n h)
 refine h1.mono fun n hn=>?_
 show (match C.gv g with
   | some G=>bif (C.own g).all Option.isNone && (C.sig g).isNone then G xs else none
   | none=>match P.funcs[g]? with
    | some fn=>match fn.body with
     | some c=>bif lU C g fn.ntmps xs.length then arr C g ((both C P n).2 g fn) [.code c] (lT C g fn.ntmps xs) else none
     | none=>bif (C.own g).all Option.isNone && (C.sig g).isNone then ext fn.name xs else none
    | none=>none)=some r
 rw [xX]
 simp only
 rw [hfn]
 simp only [hb,hl,cond_true]
 exact hn
theorem yN {g:Nat} {fn:Func} (hfn:P.funcs[g]?=some fn) (hb:fn.body=none) (ho:((C.own g).all Option.isNone && (C.sig g).isNone)=true) {xs:List AV} {r:AV} (h:ext fn.name xs=some r) (xX:C.gv g=none:=by rfl):ae C P g xs=some r:=by
 refine mJ (Ev.succ (Ev.of fun n=>?_))
 show (match C.gv g with
   | some G=>bif (C.own g).all Option.isNone && (C.sig g).isNone then G xs else none
   | none=>match P.funcs[g]? with
    | some fn=>match fn.body with
     | some c=>bif lU C g fn.ntmps xs.length then arr C g ((both C P n).2 g fn) [.code c] (lT C g fn.ntmps xs) else none
     | none=>bif (C.own g).all Option.isNone && (C.sig g).isNone then ext fn.name xs else none
    | none=>none)=some r
 rw [xX]
 simp only
 rw [hfn]
 simp only [hb,ho,cond_true]
 exact h
theorem gU {g:Nat} {G:List AV→Option AV} (xX:C.gv g=some G) (ho:((C.own g).all Option.isNone && (C.sig g).isNone)=true) {xs:List AV} {r:AV} (h:G xs=some r):ae C P g xs=some r:=by
 refine mJ (Ev.succ (Ev.of fun n=>?_))
 show (match C.gv g with
   | some G=>bif (C.own g).all Option.isNone && (C.sig g).isNone then G xs else none
   | none=>match P.funcs[g]? with
    | some fn=>match fn.body with
     | some c=>bif lU C g fn.ntmps xs.length then arr C g ((both C P n).2 g fn) [.code c] (lT C g fn.ntmps xs) else none
     | none=>bif (C.own g).all Option.isNone && (C.sig g).isNone then ext fn.name xs else none
    | none=>none)=some r
 rw [xX]
 simp only [ho,cond_true]
 exact h
theorem gV (dE:Fit C P):iT C P (ae C P) :=
 ⟨fun g xs r h hs=>by
  obtain ⟨n,hn⟩:=(jD h).ex
  exact (vW dE n).1.1 g xs r hn hs,
 fun g sg xs r h hs=>by
  obtain ⟨n,hn⟩:=(jD h).ex
  exact (vW dE n).1.2 g sg xs r hn hs⟩
end
abbrev aq:=Nat→List AV→Option AV
abbrev RunT:=List Item→St→Option AV
def jE {α:Type}:List (Nat×α)→Nat→Option α
 | [],_=>none
 | p :: r,t=>bif Nat.beq p.1 t then some p.2 else jE r t
def Cm {α:Type}:List ((Nat×Nat)×α)→Nat→Nat→Option α
 | [],_,_=>none
 | p :: r,f,t=>bif Nat.beq p.1.1 f && Nat.beq p.1.2 t then some p.2 else Cm r f t
def Gg (ty:List (Nat×Ty)) (D2:List ((Nat×Nat)×(j5×List Nat))) (stops:List (Nat×List (Nat×List (Nat×Option (Nat×Nat))×List (Nat×List (Nat×Nat×Nat))))) (own:List (Nat×List (Option (Nat×Nat))))
  (ux:List (Nat×List Nat)) (glob:Nat→Option (Nat×AV)) (sig:List (Nat×vE)) (gv:Nat→Option (List AV→Option AV):=fun _=>none) (pt:Nat→Bool:=fun _=>false):cU where
 ty:=jE ty
 own:=fun f=>(jE own f).getD []
 stops:=fun f=>(jE stops f).getD []
 D2:=Cm D2
 ux:=fun f t=>((jE ux f).getD []).any (Nat.beq t)
 glob:=glob
 sig:=jE sig
 gv:=gv
 pt:=pt
def bP (D4:Nat):Code→List Item→Option (List Item)
 | .region id ops d,k=>bif Nat.beq id D4 then some (.code (.region id ops d) :: k) else none
 | .seq a b,k=>match bP D4 a (.code b :: k) with
  | some r=>some r
  | none=>bP D4 b k
 | .cond _ a b,k=>match bP D4 a k with
  | some r=>some r
  | none=>bP D4 b k
 | .block id c,k=>bP D4 c (.inBlock id :: k)
 | .loop c,k=>bP D4 c (.inLoop c :: k)
 | .scope c,k=>bP D4 c (.inScope c :: k)
 | _,_=>none
def VS:AV→AV→Bool
 | .un,.un=>true
 | .b x,.b y=>x == y
 | .u8 x,.u8 y=>Nat.beq x.toNat y.toNat
 | .int x,.int y=>decide (x=y)
 | .ik k x,.ik k' y=>decide (k=k') && decide (x=y)
 | .s [],.s []=>true
 | .aG,.aG=>true
 | .rH,.rH=>true
 | .eB,.eB=>true
 | _,_=>false
theorem Oi {a b:AV} (h:VS a b=true):a=b:=by
 unfold VS at h
 split at h
 ·rfl
 ·rename_i x y;have:x=y:=by simpa using h
  rw [this]
 ·rw [UInt8.toNat_inj.1 (Nat.eq_of_beq_eq_true h)]
 ·rw [of_decide_eq_true h]
 ·rw [Bool.and_eq_true] at h
  rw [of_decide_eq_true h.1,of_decide_eq_true h.2]
 ·rfl
 ·rfl
 ·rfl
 ·rfl
 ·cases h
def Kj:List AV→List AV→Bool
 | [],[]=>true
 | x :: xs,y :: ys=>VS x y && Kj xs ys
 | _,_=>false
theorem Cn:∀ {l m:List AV},Kj l m=true→l=m
 | [],[],_=>rfl
 | x :: xs,y :: ys,h=>by
  simp only [Kj,Bool.and_eq_true] at h
  rw [Oi h.1,Cn h.2]
 | [],y :: ys,h=>by cases h
 | x :: xs,[],h=>by cases h
def qH:List Field→List (Nat×Nat)→Bool
 | [],[]=>true
 | f :: fs,p :: ps=>Nat.beq f.offset p.1 && Nat.beq f.type p.2 && qH fs ps
 | _,_=>false
theorem si:∀ {l:List Field} {m:List (Nat×Nat)},qH l m=true→l.map (fun f=>(f.offset,f.type))=m
 | [],[],_=>rfl
 | f :: fs,p :: ps,h=>by
  simp only [qH,Bool.and_eq_true] at h
  simp only [List.map_cons]
  rw [si h.2,Nat.eq_of_beq_eq_true h.1.1,Nat.eq_of_beq_eq_true h.1.2]
 | [],_ :: _,h=>by cases h
 | _ :: _,[],h=>by cases h
def VT (P:Program) (t:TypeId):EK→Bool
 | .b=>match P.underlying t with | some .bool=>true | _=>false
 | .i=>match P.underlying t with | some (.int _)=>true | _=>false
 | .s=>match P.underlying t with | some .string=>true | _=>false
theorem Oj {P:Program} {t:TypeId} {k:EK} (h:VT P t k=true):FE P t k:=by
 cases k <;> simp only [VT] at h <;> split at h <;> first | (cases h;done) | skip
 ·rename_i hu;exact hu
 ·rename_i k hu;exact ⟨k,hu⟩
 ·rename_i hu;exact hu
def Ei (P:Program):Nat→List Field→List EK→Bool
 | _,[],[]=>true
 | n,f :: fs,k :: ks=>Nat.beq f.offset n && !(f.name == "_") && VT P f.type k && Ei P (n+1) fs ks
 | _,_,_=>false
theorem Co {P:Program}:∀ {n:Nat} {fs:List Field} {ks:List EK},Ei P n fs ks=true→fs.length=ks.length∧∀ (j:Nat) (f:Field) (k:EK),fs[j]?=some f→ks[j]?=some k→f.offset=n+j∧f.name ≠ "_" ∧ FE P f.type k
 | n,[],[],_=>⟨rfl,fun j f k h=>by simp at h⟩
 | n,f :: fs,k :: ks,h=>by
  simp only [Ei,Bool.and_eq_true] at h
  obtain ⟨⟨⟨h1,h2⟩,h3⟩,h4⟩:=h
  obtain ⟨q1,q2⟩:=Co h4
  refine ⟨by simp [q1],fun j f' k' hf hk=>?_⟩
  cases j with
  | zero =>
   simp at hf hk
   subst hf hk
   exact ⟨Nat.eq_of_beq_eq_true h1,by simpa using h2,Oj h3⟩
  | succ j =>
   obtain ⟨a,b⟩:=q2 j f' k' (by simpa using hf) (by simpa using hk)
   exact ⟨by omega,b⟩
 | n,[],_ :: _,h=>by simp [Ei] at h
 | n,_ :: _,[],h=>by simp [Ei] at h
def Ym (P:Program) (t:TypeId) (i:Ty):Bool :=
 match i.kd,P.underlying t with
 | .bool,some .bool=>true
 | .int k,some (.int k')=>decide (k=k')
 | .str,some .string=>true
 | .slice,some (.slice e)=>Nat.beq e i.elem
 | .struct,some (.struct fs)=>qH fs.toList i.fields && fs.toList.all fun f=>match P.info? f.type with | some inf=>!Nat.beq inf.size 0 | none=>false
 | .ptr,some (.pointer _)=>true
 | .func,some (.struct _) | .func,some (.array _ _) | .other,some (.struct _) | .other,some (.array _ _)=>false
 | .func,some _ | .other,some _=>true
 | _,_=>false
def Ok (P:Program) (t:TypeId) (i:Ty):Bool :=
 (match P.info? t with
  | some inf=>Nat.beq inf.size i.size && Nat.beq inf.bytes i.bytes && (match inf.zero with
   | some z=>Kj (z.cells.toList.map E8) i.zero && Nat.beq z.cells.size i.size && z.cells.toList.all Value.oneCell'
   | none=>false)
  | none=>false) && Ym P t i && Nat.blt 0 i.size && Nat.blt 0 i.bytes && (i.kd.agg || Nat.beq i.size 1) && (match i.kd with | .struct=>true | _=>i.fields.isEmpty) &&
 (match i.eqk with
  | none=>true
  | some ks=>!P.stoodInHeld t && !P.eqGuardType P.depth t && (match P.underlying t with | some (.struct fs)=>Ei P 0 fs.toList ks | _=>false))
theorem Ol {P:Program} {t:TypeId} {i:Ty} (h:Ok P t i=true):cr P t i:=by
 unfold Ok at h
 simp only [Bool.and_eq_true] at h
 obtain ⟨⟨⟨⟨⟨⟨h1,h2⟩,h3⟩,h4⟩,h5⟩,h6⟩,h7⟩:=h
 refine { info:=?_,und:=?_,pos:=⟨by unfold Nat.blt at h3;exact Nat.le_of_ble_eq_true h3,by unfold Nat.blt at h4;exact Nat.le_of_ble_eq_true h4⟩,one:=fun hh=>?_,fieldsOnly:=fun hh=>?_,eqOk:=fun ks hk=>?_ }
 ·split at h1
  ·rename_i inf Om
   simp only [Bool.and_eq_true] at h1
   obtain ⟨⟨q1,q2⟩,q3⟩:=h1
   split at q3
   ·rename_i z hz
    simp only [Bool.and_eq_true] at q3
    exact ⟨inf,z,Om,Nat.eq_of_beq_eq_true q1,Nat.eq_of_beq_eq_true q2,hz,Cn q3.1.1,Nat.eq_of_beq_eq_true q3.1.2,fun v hv=>List.all_eq_true.1 q3.2 v hv⟩
   ·cases q3
  ·cases h1
 ·unfold Ym at h2
  cases hk:i.kd <;> rw [hk] at h2 <;> cases hu:P.underlying t <;> rw [hu] at h2 <;> simp only at h2 ⊢ <;> first | (cases h2;done) | skip
  all_goals rename_i d
  all_goals cases d <;> simp only at h2 <;> first | (cases h2;done) | skip
  all_goals first
   | rfl
   | (rw [of_decide_eq_true h2];done)
   | (rw [Nat.eq_of_beq_eq_true h2];done)
   | exact ⟨_,rfl,rfl⟩
   | exact ⟨_,rfl⟩
   | skip
  rename_i fs
  rw [Bool.and_eq_true] at h2
  refine ⟨fs,rfl,si h2.1,fun f hf=>?_⟩
  have:=List.all_eq_true.1 h2.2 f hf
  split at this
  ·rename_i inf Om
   refine ⟨inf,Om,fun e=>?_⟩
   rw [e] at this
   cases this
  ·cases this
 ·rw [hh,Bool.false_or] at h5
  exact Nat.eq_of_beq_eq_true h5
 ·cases hk:i.kd <;> rw [hk] at h6 hh <;> first | exact absurd rfl hh | exact List.isEmpty_iff.1 h6
 ·rw [hk] at h7
  simp only [Bool.and_eq_true,Bool.not_eq_true'] at h7
  obtain ⟨⟨q1,q2⟩,q3⟩:=h7
  split at q3
  ·rename_i fs hu
   obtain ⟨z1,z2⟩:=Co q3
   exact { stood:=q1,guard:=q2,fields:=⟨fs,hu,by simpa using z1,fun j f k h1 h2=>by have:=z2 j f k h1 h2;simpa using this⟩ }
  ·cases q3
theorem Oo {P:Program} {l:List (Nat×Ty)} (h:l.all (fun p=>Ok P p.1 p.2)=true):∀ t i,jE l t=some i→cr P t i:=by
 induction l with
 | nil=>intro t i hi;cases hi
 | cons p r ih =>
  simp only [List.all_cons,Bool.and_eq_true] at h
  intro t i hi
  simp only [jE] at hi
  cases hb:Nat.beq p.1 t with
  | true =>
   rw [hb] at hi
   simp only [cond_true,Option.some.injEq] at hi
   rw [← Nat.eq_of_beq_eq_true hb,← hi]
   exact Ol h.1
  | false=>rw [hb] at hi;exact ih h.2 t i hi
def VU (C:cU) (f:Nat) (fn:Func):Bool :=
 match fn.body with
 | some c=>eM (oM C f fn.ntmps) c && !(fn.name == "runtime.NumGoroutine")
 | none=>true
def Az (C:cU):Nat→List Func→Bool
 | _,[]=>true
 | n,fn :: r=>VU C n fn && Az C (n+1) r
theorem Cq {C:cU}:∀ {n:Nat} {l:List Func},Az C n l=true→∀ (j:Nat) (fn:Func),l[j]?=some fn→VU C (n+j) fn=true
 | n,[],_,j,fn,h=>by simp at h
 | n,g :: r,h,j,fn,hf=>by
  simp only [Az,Bool.and_eq_true] at h
  cases j with
  | zero=>simp at hf;subst hf;exact h.1
  | succ j =>
   have:=Cq h.2 j fn (by simpa using hf)
   rw [show n+1+j=n+(j+1) by omega] at this
   exact this
theorem Fit.of {C:cU} {P:Program} {tab:List (Nat×Ty)} (hC:C.ty=jE tab) (h1:tab.all (fun p=>Ok P p.1 p.2)=true) (h2:Az C 0 P.funcs.toList=true) (h3:P.follows .mixedOrders=true)
  (h4:∀ (f:Nat) (fn:Func),P.funcs[f]?=some fn→fn.body=none→(fn.name == "internal/bytealg.IndexByteString")=true→∀ (s:ByteArray) (c:Int) (w:World),(callFunc f #[.string s,.int .u8 c]).run P w=.ok (.value (.int .i64 (Lib.indexByte s.data.toList c.toNat.toUInt8))) w)
  (h5:∀ (g:Nat) (G:List AV→Option AV),C.gv g=some G→(C.own g).all Option.isNone=true→∀ (args:List AV) (r:AV),G args=some r→∀ (w:World) (F:Nat→Prop) (vs:Array Value),aQ C w F→vs.size=args.length →
   (∀ (j:Nat) (a:AV) (v:Value),args[j]?=some a→vs[j]?=some v→Rel w F a v)→dN P g vs w (fX C g w F r):=by intro g G h;exact nomatch (show (none:Option (List AV→Option AV))=some G from h)):Fit C P:=by
 have hf:∀ (f:Nat) (fn:Func) (c:Code),P.funcs[f]?=some fn→fn.body=some c→eM (oM C f fn.ntmps) c=true∧(fn.name == "runtime.NumGoroutine")=false:=by
  intro f fn c hfn hb
  have:=Cq h2 f fn (by rw [Array.getElem?_toList];exact hfn)
  rw [Nat.zero_add] at this
  unfold VU at this
  rw [hb] at this
  simp only [Bool.and_eq_true,Bool.not_eq_true'] at this
  exact this
 exact { ty:=fun t i hi=>Oo h1 t i (by rw [← hC];exact hi),code:=fun f fn c h1 h2=>(hf f fn c h1 h2).1,mixed:=h3,name:=fun f fn c h1 h2=>(hf f fn c h1 h2).2,gv:=h5,ext:=h4 }
def Gh (n:Nat):Nat→List Func→Bool
 | _,[]=>true
 | m,fn :: r=>(fn.body.isSome || !(fn.name == "internal/bytealg.IndexByteString") || Nat.beq m n) && Gh n (m+1) r
theorem Cr {n:Nat}:∀ {m:Nat} {l:List Func},Gh n m l=true→∀ (j:Nat) (fn:Func),l[j]?=some fn→fn.body=none→(fn.name == "internal/bytealg.IndexByteString")=true→m+j=n
 | m,[],_,j,fn,h,_,_=>by simp at h
 | m,g :: r,h,j,fn,hf,hb,hn=>by
  simp only [Gh,Bool.and_eq_true] at h
  cases j with
  | zero =>
   simp at hf
   subst hf
   have:=h.1
   rw [hb,hn] at this
   simp only [Option.isSome_none,Bool.not_true,Bool.or_self,Bool.false_or] at this
   exact Nat.eq_of_beq_eq_true this
  | succ j =>
   have:=Cr h.2 j fn (by simpa using hf) hb hn
   omega
theorem AA {P:Program} {n:Nat} (hall:Gh n 0 P.funcs.toList=true) (hrun:∀ (s:ByteArray) (c:Int) (w:World),(callFunc n #[.string s,.int .u8 c]).run P w=.ok (.value (.int .i64 (Lib.indexByte s.data.toList c.toNat.toUInt8))) w) :
  ∀ (f:Nat) (fn:Func),P.funcs[f]?=some fn→fn.body=none→(fn.name == "internal/bytealg.IndexByteString")=true→∀ (s:ByteArray) (c:Int) (w:World),(callFunc f #[.string s,.int .u8 c]).run P w=.ok (.value (.int .i64 (Lib.indexByte s.data.toList c.toNat.toUInt8))) w:=by
 intro f fn hfn hb hn
 have:=Cr hall f fn (by rw [Array.getElem?_toList];exact hfn) hb hn
 rw [Nat.zero_add] at this
 rw [this]
 exact hrun
theorem Kk {P:Program} {n:Nat} {fn:Func} (h1:P.funcs[n]?=some fn) (h2:(fn.name == "runtime.NumGoroutine")=false) (h3:fn.body=none) (h4:(Extern.findNext fn).isNone=true) (h5:Extern.find fn=some Extern.BytealgIndexByte.indexByte) (s:ByteArray) (c:Int) (w:World) :
  (callFunc n #[.string s,.int .u8 c]).run P w=.ok (.value (.int .i64 (Lib.indexByte s.data.toList c.toNat.toUInt8))) w:=by
 have h2':¬ fn.name = "runtime.NumGoroutine" := by simpa using h2
 have VV:Extern.findNext fn=none:=by simpa using h4
 simp [callFunc,h1,h2',h3,VV,h5,Lib.run_indexByteString]
end Sx
namespace Sx
open Go Go.RowKit
theorem AB {C:cU} {P:Program} (dE:Fit C P) {g:Nat} {fn:Func} {c:Code} (hfn:P.funcs[g]?=some fn) (hb:fn.body=some c) (ho:(C.own g).all Option.isNone=true) (hs:C.sig g=none) {args:List AV} {b:Bool} (h:ae C P g args=some (.b b))
  (w:World) (F:Nat→Prop) (vs:Array Value) (hG:aQ C w F) (hl:vs.size=args.length) (hv:∀ (j:Nat) (a:AV) (v:Value),args[j]?=some a→vs[j]?=some v→Rel w F a v) :
  Calls P g vs w (fun e w'=>e=.returned (.bool b)∧Below w.heap.size w w'):=by
 have hname:=dE.name g fn c hfn hb
 rcases (gV dE).1 g args _ h hs w F vs hG hl hv with ⟨VI,c',_,_,_,hc⟩ | ⟨v,hv',_⟩
 ·refine Calls.mono hc fun e w' he=>?_
  obtain ⟨v,rfl,hx,hr⟩:=he
  unfold eV at hr
  rw [if_pos ho] at hr
  cases hr
  exact ⟨rfl,⟨hx.os,hx.tape,hx.output,hx.size,hx.block⟩⟩
 ·exfalso
  have mC:¬ fn.name = "runtime.NumGoroutine" := by simpa using hname
  simp [callFunc,hfn,hb,mC] at hv'
end Sx
namespace Sx
open Go
variable {C:cU} {P:Program}
end Sx
namespace Sx
open Go
section cond
variable {R:Type}
@[simp] theorem ai (x:Bool) (A B:Option R):ah (.b x) A B=if x=true then A else B:=by cases x <;> rfl
@[simp] theorem qI (b:Bool) (A:AV):az (.b true) true (some (.b b)) A=some (.b b):=rfl
@[simp] theorem gm (A:Option AV) (b:Bool):az (.b false) true A (.b b)=some (.b b):=rfl
@[simp] theorem Uq (b:Bool) (A:AV):az (.b false) false (some (.b b)) A=some (.b b):=rfl
@[simp] theorem Ur (A:Option AV) (b:Bool):az (.b true) false A (.b b)=some (.b b):=rfl
@[simp] theorem aA (x y:Bool):az (.b x) true (some (.b y)) (.b false)=some (.b (x && y)):=by cases x <;> rfl
@[simp] theorem aM (x y:Bool):az (.b x) false (some (.b y)) (.b true)=some (.b (x || y)):=by cases x <;> rfl
end cond
section one
@[simp] theorem eK (x:UInt8):AV.one (.u8 x)=some (.u8 x):=rfl
@[simp] theorem Yn (x:Bool):AV.one (.b x)=some (.b x):=rfl
@[simp] theorem fJ (x:Int):AV.one (.int x)=some (.int x):=rfl
@[simp] theorem VW (k:IntKind) (x:Int):AV.one (.ik k x)=some (.ik k x):=rfl
@[simp] theorem jW (x:List UInt8):AV.one (.s x)=some (.s x):=rfl
@[simp] theorem RD:AV.one .aG=some .aG:=rfl
@[simp] theorem Gi (k:Nat) (l:List AV):AV.one (.ro k l)=some (.ro k l):=rfl
@[simp] theorem Cs (x:UInt8):AV.cell (.u8 x) 0=.u8 x:=rfl
@[simp] theorem VX (x:Bool):AV.cell (.b x) 0=.b x:=rfl
@[simp] theorem yO (x:Int):AV.cell (.int x) 0=.int x:=rfl
@[simp] theorem Us (k:IntKind) (x:Int):AV.cell (.ik k x) 0=.ik k x:=rfl
@[simp] theorem Gj (x:List UInt8):AV.cell (.s x) 0=.s x:=rfl
@[simp] theorem Ut (k:Nat) (l:List AV):AV.cell (.ro k l) 0=.ro k l:=rfl
@[simp] theorem QG:AV.cell .aG 0=.aG:=rfl
@[simp] theorem Kl (l:List AV) (j:Nat):AV.cell (.ag l) j=l.getD j .un:=by cases j <;> rfl
end one
section num
theorem yP (x:UInt8):x.toNat < 256:=x.toNat_lt
theorem AD {n:Nat} (h:n < 256):AV.xV .u8 (n:Int)=some (.u8 (UInt8.ofNat n)):=by
 unfold AV.xV
 rw [if_pos ⟨by omega,by omega⟩]
 simp
@[simp] theorem Uu (n:Int):AV.xV .i64 n=some (.int n):=rfl
@[simp] theorem cI (x y:UInt8):aH .eql (.u8 x) (.u8 y)=some (.b (x == y)):=by
 show some (AV.b ((x.toNat:Int) == (y.toNat:Int)))=_
 congr 2
 rw [Bool.eq_iff_iff]
 simp only [beq_iff_eq,Int.ofNat_inj]
 exact ⟨fun h=>UInt8.toNat_inj.1 h,fun h=>by rw [h]⟩
@[simp] theorem wa (x y:UInt8):aH .neq (.u8 x) (.u8 y)=some (.b (x != y)):=by
 show some (AV.b ((x.toNat:Int) != (y.toNat:Int)))=_
 congr 2
 rw [Bool.eq_iff_iff]
 simp only [bne_iff_ne,ne_eq,Int.ofNat_inj]
 exact ⟨fun h e=>h (by rw [e]),fun h e=>h (UInt8.toNat_inj.1 e)⟩
@[simp] theorem Gk (x y:UInt8):aH .lss (.u8 x) (.u8 y)=some (.b (decide (x < y))):=by
 show some (AV.b (decide ((x.toNat:Int) < (y.toNat:Int))))=_
 congr 2
 rw [decide_eq_decide,UInt8.lt_iff_toNat_lt];omega
@[simp] theorem wb (x y:UInt8):aH .leq (.u8 x) (.u8 y)=some (.b (decide (x≤y))):=by
 show some (AV.b (decide ((x.toNat:Int)≤(y.toNat:Int))))=_
 congr 2
 rw [decide_eq_decide,UInt8.le_iff_toNat_le];omega
@[simp] theorem Gl (x y:UInt8):aH .gtr (.u8 x) (.u8 y)=some (.b (decide (y < x))):=by
 show some (AV.b (decide ((x.toNat:Int) > (y.toNat:Int))))=_
 congr 2
 rw [decide_eq_decide,UInt8.lt_iff_toNat_lt];omega
@[simp] theorem wh (x y:UInt8):aH .geq (.u8 x) (.u8 y)=some (.b (decide (y≤x))):=by
 show some (AV.b (decide ((x.toNat:Int) ≥ (y.toNat:Int))))=_
 congr 2
 rw [decide_eq_decide,UInt8.le_iff_toNat_le];omega
@[simp] theorem VY (k:IntKind) (x y:Int):aH .eql (.ik k x) (.ik k y)=some (.b (x == y)):=by
 show (if k=k then uw .eql k x y else none)=_
 rw [if_pos rfl];rfl
@[simp] theorem bA (x y:Int):aH .eql (.int x) (.int y)=some (.b (x == y)):=rfl
@[simp] theorem gp (x y:Int):aH .neq (.int x) (.int y)=some (.b (x != y)):=rfl
@[simp] theorem bo (x y:Int):aH .lss (.int x) (.int y)=some (.b (decide (x < y))):=rfl
@[simp] theorem lr (x y:Int):aH .leq (.int x) (.int y)=some (.b (decide (x≤y))):=rfl
@[simp] theorem wj (x y:Int):aH .gtr (.int x) (.int y)=some (.b (decide (y < x))):=rfl
@[simp] theorem gq (x y:Int):aH .geq (.int x) (.int y)=some (.b (decide (y≤x))):=rfl
theorem wrap_i64 {n:Int} (h1:-9223372036854775808≤n) (h2:n < 9223372036854775808):IntKind.i64.wrap n=n:=by
 simp only [IntKind.wrap,IntKind.bits,IntKind.signed,Bool.true_and]
 split <;> rename_i h <;> simp only [decide_eq_true_eq,ge_iff_le] at h <;> omega
theorem fK {x y:Int} (h1:-9223372036854775808≤x+y) (h2:x+y < 9223372036854775808):aH .add (.int x) (.int y)=some (.int (x+y)):=by
 show some (AV.int (IntKind.i64.wrap (x+y)))=_
 rw [wrap_i64 h1 h2]
theorem Km {x y:Int} (h1:-9223372036854775808≤x - y) (h2:x - y < 9223372036854775808):aH .sub (.int x) (.int y)=some (.int (x - y)):=by
 show some (AV.int (IntKind.i64.wrap (x - y)))=_
 rw [wrap_i64 h1 h2]
@[simp] theorem iG (x:UInt8):conv .i64 (.u8 x)=some (.int x.toNat):=by
 show some (AV.int (IntKind.i64.wrap (x.toNat:Int)))=_
 have:=yP x
 rw [wrap_i64 (by omega) (by omega)]
theorem wrap_u8 {n:Int} (h1:0≤n) (h2:n < 256):IntKind.u8.wrap n=n:=by
 simp only [IntKind.wrap,IntKind.bits,IntKind.signed,Bool.false_and,Bool.false_eq_true,if_false]
 omega
theorem yQ {n:Nat} (h:n < 256):conv .u8 (.int (n:Int))=some (.u8 (UInt8.ofNat n)):=by
 unfold conv
 simp only [AV.l8,Option.bind_some]
 rw [wrap_u8 (by omega) (by omega),AD h]
@[simp] theorem Oq (x:UInt8):conv .u8 (.u8 x)=some (.u8 x):=by
 have:=yP x
 unfold conv
 simp only [AV.l8,Option.bind_some]
 rw [wrap_u8 (by omega) (by omega),AD this,UInt8.ofNat_toNat]
@[simp] theorem bq (x:Bool):unop .not (.b x)=some (.b (!x)):=rfl
end num
section strs
@[simp] theorem nL (p q:List UInt8):cy .eql (.s p) (.s q)=some (.b (p == q)):=rfl
@[simp] theorem Yo (p q:List UInt8):cy .neq (.s p) (.s q)=some (.b (p != q)):=rfl
theorem RF {p q:List UInt8} (h:p.length+q.length≤big):cy .add (.s p) (.s q)=some (.s (p ++ q)):=by
 show (if p.length+q.length≤big then some (AV.s (p ++ q)) else none)=_
 rw [if_pos h]
@[simp] theorem Yp (p q:Bool):Ac .eql (.b p) (.b q)=some (.b (p == q)):=rfl
@[simp] theorem Yq (p q:Bool):Ac .neq (.b p) (.b q)=some (.b (p != q)):=rfl
@[simp] theorem Gm (l:List UInt8):iQ (.s l)=some (.int l.length):=rfl
@[simp] theorem dI (k:Nat) (l:List AV):eP (.ro k l)=some (.int l.length):=rfl
@[simp] theorem QH:eP .aG=some (.int 0):=rfl
theorem eZ {n i:Nat} (h:i < n):lS n (.int (i:Int))=some i:=by
 show (if 0≤(i:Int)∧(i:Int) < (n:Int) then some (i:Int).toNat else none)=_
 rw [if_pos ⟨by omega,by omega⟩];simp
theorem Ct {n i:Nat} (h:i≤n):xW n (.int (i:Int))=some i:=by
 show (if 0≤(i:Int)∧(i:Int)≤(n:Int) then some (i:Int).toNat else none)=_
 rw [if_pos ⟨by omega,by omega⟩];simp
theorem e9 {l:List UInt8} {i:Nat} (h:i < l.length):dm (.s l) (.int (i:Int))=some (.u8 l[i]):=by
 show ((lS l.length (.int (i:Int))).bind fun n=>some (AV.u8 (l.getD n 0)))=_
 rw [eZ h]
 simp [h]
theorem Ot {l:List UInt8} {i:Nat} (h:i < l.length):idx 1 (.ro 1 (l.map .u8)) (.int (i:Int))=some (.u8 l[i]):=by
 show (if 1=1 then (lS (l.map AV.u8).length (.int (i:Int))).bind fun n=>some ((l.map AV.u8).getD n .un) else none)=_
 rw [if_pos rfl,eZ (by simpa using h)]
 simp [h]
theorem yR (l:List UInt8):bytesOf (l.map .u8)=some l:=by
 induction l with
 | nil=>rfl
 | cons x r ih=>simp [bytesOf,ih]
theorem Ou {l:List UInt8} (h:l.length≤big):B2 (.ro 1 (l.map .u8))=some (.s l):=by
 show ((bytesOf (l.map AV.u8)).bind fun p=>if p.length≤big then some (AV.s p) else none)=_
 rw [yR]
 simp [h]
end strs
end Sx
namespace Sx
open Go
theorem fD {p:UInt8→Bool} (h:(List.range 256).all (fun n=>p (UInt8.ofNat n))=true) (x:UInt8):p x=true:=by
 have:=List.all_eq_true.1 h x.toNat (List.mem_range.2 (yP x))
 simpa using this
theorem Ej {f g:UInt8→Bool} (h:(List.range 256).all (fun n=>f (UInt8.ofNat n) == g (UInt8.ofNat n))=true) (x:UInt8):f x=g x:=by
 simpa using fD (p:=fun x=>f x == g x) h x
def isStr (o:Option AV) (l:List UInt8):Bool :=
 match o with
 | some (.s m)=>m == l
 | _=>false
theorem yS {o:Option AV} {l:List UInt8} (h:isStr o l=true):o=some (.s l):=by
 unfold isStr at h
 split at h
 ·rw [eq_of_beq h]
 ·cases h
def Yr (o:Option AV) (b:Bool):Bool :=
 match o with
 | some (.b c)=>c == b
 | _=>false
theorem Ov {o:Option AV} {b:Bool} (h:Yr o b=true):o=some (.b b):=by
 unfold Yr at h
 split at h
 ·rw [eq_of_beq h]
 ·cases h
theorem iH (p:List UInt8) (c:UInt8) (r:List UInt8):dm (.s (p ++ c :: r)) (.int (p.length:Int))=some (.u8 c):=by
 rw [e9 (by simp)];simp
theorem Gn (p:List UInt8) (c:UInt8) (r:List UInt8):idx 1 (.ro 1 ((p ++ c :: r).map .u8)) (.int (p.length:Int))=some (.u8 c):=by
 rw [Ot (by simp)];simp
theorem sj (p:List UInt8) (c:UInt8):((p.length:Int)+1)=((p ++ [c]).length:Int):=by simp
theorem dz (p:List UInt8) (c:UInt8) (r:List UInt8):p ++ c :: r=(p ++ [c]) ++ r:=by simp
theorem wk (p:List UInt8) (c:UInt8) (r:List UInt8):decide ((p.length:Int) < ((p ++ c :: r).length:Int))=true:=by simp;omega
theorem Cu (p:List UInt8) (c:UInt8) (r:List UInt8):decide ((p.length:Int) < (((p ++ c :: r).map AV.u8).length:Int))=true:=by simp;omega
theorem qJ (p:List UInt8):decide ((p.length:Int) < ((p ++ []).length:Int))=false:=by simp
theorem Cv (p:List UInt8):decide ((p.length:Int) < ((p.map AV.u8).length:Int))=false:=by simp
theorem nM (n:Int):decide (n < n)=false:=by simp
end Sx
namespace Sx
def RG (o:Option AV) (x:UInt8):Bool :=
 match o with
 | some (.u8 m)=>m == x
 | _=>false
theorem Kn {o:Option AV} {x:UInt8} (h:RG o x=true):o=some (.u8 x):=by
 unfold RG at h
 split at h
 ·rw [eq_of_beq h]
 ·cases h
end Sx
namespace Sx
open Go
def aO (x y:UInt8):Bool:=(x.toNat:Int) == (y.toNat:Int)
def nN (x y:UInt8):Bool:=(x.toNat:Int) != (y.toNat:Int)
def ult (x y:UInt8):Bool:=decide ((x.toNat:Int) < (y.toNat:Int))
def ule (x y:UInt8):Bool:=decide ((x.toNat:Int)≤(y.toNat:Int))
def Fe (x y:UInt8):Bool:=decide ((x.toNat:Int) > (y.toNat:Int))
def Ko (x y:UInt8):Bool:=decide ((x.toNat:Int) ≥ (y.toNat:Int))
def bN (n:Int):Int:=IntKind.i64.wrap n
@[simp] theorem aN (x y:UInt8):aO x y=(x == y):=by
 have:=cI x y
 have h:aH .eql (.u8 x) (.u8 y)=some (.b (aO x y)):=rfl
 rw [h] at this;simpa using this
@[simp] theorem cA (x y:UInt8):nN x y=(x != y):=by
 have:=wa x y
 have h:aH .neq (.u8 x) (.u8 y)=some (.b (nN x y)):=rfl
 rw [h] at this;simpa only [Option.some.injEq,AV.b.injEq] using this
@[simp] theorem dO (x y:UInt8):ult x y=decide (x < y):=by
 have:=Gk x y
 have h:aH .lss (.u8 x) (.u8 y)=some (.b (ult x y)):=rfl
 rw [h] at this;simpa only [Option.some.injEq,AV.b.injEq] using this
@[simp] theorem dt (x y:UInt8):ule x y=decide (x≤y):=by
 have:=wb x y
 have h:aH .leq (.u8 x) (.u8 y)=some (.b (ule x y)):=rfl
 rw [h] at this;simpa only [Option.some.injEq,AV.b.injEq] using this
@[simp] theorem et (x y:UInt8):Fe x y=decide (y < x):=by
 have:=Gl x y
 have h:aH .gtr (.u8 x) (.u8 y)=some (.b (Fe x y)):=rfl
 rw [h] at this;simpa only [Option.some.injEq,AV.b.injEq] using this
@[simp] theorem cY (x y:UInt8):Ko x y=decide (y≤x):=by
 have:=wh x y
 have h:aH .geq (.u8 x) (.u8 y)=some (.b (Ko x y)):=rfl
 rw [h] at this;simpa only [Option.some.injEq,AV.b.injEq] using this
theorem cJ {n:Int} (h1:-9223372036854775808≤n) (h2:n < 9223372036854775808):bN n=n:=wrap_i64 h1 h2
@[simp] theorem gW (x:UInt8):bN (x.toNat:Int)=x.toNat:=by have:=yP x;exact cJ (by omega) (by omega)
theorem lu (p:List UInt8) (c:UInt8) (r:List UInt8) (h:(p ++ c :: r).length < 9223372036854775808):bN ((p.length:Int)+1)=((p ++ [c]).length:Int):=by
 simp at h
 rw [cJ (by omega) (by omega),sj p c]
end Sx
namespace Sx
open Go
theorem AE (x y:UInt8):aH .add (.u8 x) (.u8 y)=some (.u8 (x+y)):=by
 unfold aH uw
 simp only [AV.l8,Option.bind_some,if_true]
 have h:IntKind.u8.wrap ((x.toNat:Int)+(y.toNat:Int))=(((x.toNat+y.toNat) % 256:Nat):Int):=by
  simp only [IntKind.wrap,IntKind.bits,IntKind.signed,Bool.false_and,Bool.false_eq_true,if_false]
  omega
 rw [h,AD (by omega)]
 congr 2
 apply UInt8.toNat_inj.1
 rw [UInt8.toNat_add,UInt8.toNat_ofNat_of_lt' (by show _ < 256;omega)]
theorem RH (x y:UInt8):mm true (.u8 x) (.u8 y)=some (.u8 (if y < x then y else x)):=rfl
abbrev gt (l:List AV) (i:Nat):AV:=l.getD i .un
def cT (a b:UInt8) (d:Bool) (e f g i:UInt8) (j:Bool) (k:UInt8) (l:List UInt8):List Cell:=[.val (.u8 a),.val (.u8 b),.val (.b d),.val (.u8 e),.val (.u8 f),.val (.u8 g),.val (.u8 i),.val (.b j),.val (.u8 k),.val (.s l)]
def cV (a b d e f g i j k l:AV):List Cell:=[.val a,.val b,.val d,.val e,.val f,.val g,.val i,.val j,.val k,.val l]
def cN (a b d e f g i j k:AV):List Cell:=[.val a,.val b,.val d,.val e,.val f,.val g,.val i,.val j,.val k]
theorem ak {C:cU} {P:Program} {f:Nat} {fn:Func} {k:List Item} {st:St} {r:AV} {X:aq→RunT→Option AV} (hx:∀ call run,step C call f fn (Oh C call run f fn 400) k st=X call run) (h:X (ae C P) (af C P f fn)=some r):af C P f fn k st=some r :=
 Ay 400 ((hx _ _).trans h)
theorem aj {C:cU} {P:Program} {g:Nat} {fn:Func} {xs:List AV} {r:AV} {X:aq→RunT→Option AV} (hx:∀ call run,Oh C call run g fn 400 [.code ((fn.body).getD .skip)] (lT C g fn.ntmps xs)=X call run) (h:X (ae C P) (af C P g fn)=some r)
  (hfn:P.funcs[g]?=some fn:=by kernel_rfl) (hb:fn.body=some ((fn.body).getD .skip):=by kernel_rfl) (hl:lU C g fn.ntmps xs.length=true:=by kernel_rfl) (xX:C.gv g=none:=by rfl):ae C P g xs=some r :=
 yM hfn hb 400 hl ((hx _ _).trans h) xX
end Sx
namespace Sx
open Go Go.RowKit Go.WideShapes
inductive Lf where
 | b | u8 | int | ik (k:IntKind) | s | sl (agg:Bool) (ls:List Lf)
inductive Is:Lf→AV→Prop
 | b (x:Bool):Is .b (.b x)
 | u8 (x:UInt8):Is .u8 (.u8 x)
 | int (n:Int) (h:(Lit.int .i64 n).wf=true):Is .int (.int n)
 | ik (k:IntKind) (n:Int) (h:(Lit.int k n).wf=true):Is (.ik k) (.ik k n)
 | s (l:List UInt8) (h:l.length≤maxLen):Is .s (.s l)
 | Ys (lf:Lf) (l:List AV) (h:∀ x ∈ l,Is lf x) (hm:l.length≤maxLen):Is (.sl false [lf]) (.ro 1 l)
 | Yt (ls:List Lf) (ms:List (List AV)) (hl:∀ m ∈ ms,m.length=ls.length) (h:∀ m ∈ ms,∀ (j:Nat) (a:Lf) (x:AV),ls[j]?=some a→m[j]?=some x→Is a x) (hm:ms.length≤maxLen):Is (.sl true ls) (.ro ls.length (ms.map .ag))
mutual
def wt:AV→Nat
 | .s l=>l.length+1
 | .ro _ l=>qB l+1
 | .ag l=>qB l
 | _=>1
def qB:List AV→Nat
 | []=>0
 | x :: r=>wt x+qB r
end
mutual
def bulk {H:Type}:DataW H→Nat
 | .lit (.string bytes)=>bytes.length+1
 | .lit _=>1
 | .nil=>1
 | .ptr d=>bulk d+1
 | .slice elems spare=>dW elems+dW spare+1
 | .agg parts=>dW parts+1
 | .iface _ d=>bulk d+1
 | .map entries=>pV entries+1
 | .held _=>1
def dW {H:Type}:List (DataW H)→Nat
 | []=>0
 | d :: r=>bulk d+dW r
def pV {H:Type}:List (Lit×DataW H)→Nat
 | []=>0
 | x :: r=>Ek x+pV r
def Ek {H:Type}:Lit×DataW H→Nat
 | (.string bytes,d)=>bytes.length+bulk d+1
 | (_,d)=>bulk d+1
end
theorem AG (l m:List AV):qB (l ++ m)=qB l+qB m:=by
 induction l with
 | nil=>simp [qB]
 | cons x r ih=>simp only [List.cons_append,qB,ih];omega
section leaves
variable (P:Program)
def oN (t:TypeId):Bool:=match P.underlying t with | some (.struct _)=>true | _=>false
mutual
def leaves:Nat→TypeId→Option (List Lf)
 | 0,_=>none
 | n+1,t=>match P.underlying t with
  | some .bool=>some [.b]
  | some (.int k)=>match k with
   | .u8=>some [.u8]
   | .i64=>some [.int]
   | k=>some [.ik k]
  | some .string=>some [.s]
  | some (.slice e)=>(leaves n e).bind fun ls=>bif Nat.beq ls.length (P.cellsOf e) && Nat.blt 0 ls.length && (oN P e || Nat.beq ls.length 1) then some [.sl (oN P e) ls] else none
  | some (.struct fs)=>(lv n fs.toList 0).bind fun ls=>bif Nat.beq ls.length (P.cellsOf t) then some ls else none
  | _=>none
def lv:Nat→List Field→Nat→Option (List Lf)
 | 0,_,_=>none
 | _+1,[],_=>some []
 | n+1,f :: r,off=>(leaves n f.type).bind fun ls=>bif Nat.beq f.offset off && Nat.beq ls.length (P.cellsOf f.type) then (lv n r (off+ls.length)).map (ls ++ ·) else none
end
end leaves
structure cQ (w:World) (ls:List Lf) (cs:List Value) (as:List AV):Prop where
 yT:as.length=ls.length
 Kp:cs.length=ls.length
 one:∀ v ∈ cs,v.oneCell'=true
 rel:∀ (j:Nat) (v:Value),cs[j]?=some v→Rel w (fun _=>True) (as.getD j .un) v
 is:∀ (j:Nat) (lf:Lf) (a:AV),ls[j]?=some lf→as[j]?=some a→Is lf a
theorem cQ.nil (w:World):cQ w [] [] []:=⟨rfl,rfl,fun v h=>(by cases h),fun j v h=>(by simp at h),fun j lf a h=>(by simp at h)⟩
theorem cQ.single {w:World} {lf:Lf} {v:Value} {a:AV} (h1:v.oneCell'=true) (h2:Rel w (fun _=>True) a v) (h3:Is lf a):cQ w [lf] [v] [a]:=by
 refine ⟨rfl,rfl,fun u h=>?_,fun j u h=>?_,fun j l x hl hx=>?_⟩
 ·simp at h;subst h;exact h1
 ·cases j with
  | zero=>simp at h;subst h;exact h2
  | succ j=>simp at h
 ·cases j with
  | zero=>simp at hl hx;subst hl;subst hx;exact h3
  | succ j=>simp at hl
theorem cQ.append {w:World} {ls kF:List Lf} {cs cs':List Value} {as as':List AV} (h:cQ w ls cs as) (h':cQ w kF cs' as'):cQ w (ls ++ kF) (cs ++ cs') (as ++ as'):=by
 have e1:=h.yT;have e2:=h.Kp
 refine ⟨by simp [h.yT,h'.yT],by simp [h.Kp,h'.Kp],fun v hv=>?_,fun j v hv=>?_,fun j lf a hl ha=>?_⟩
 ·rcases List.mem_append.1 hv with hv | hv
  ·exact h.one v hv
  ·exact h'.one v hv
 ·by_cases hj:j < cs.length
  ·rw [List.getElem?_append_left hj] at hv
   have:=h.rel j v hv
   rwa [List.getD_eq_getElem?_getD,List.getElem?_append_left (by omega),← List.getD_eq_getElem?_getD]
  ·rw [List.getElem?_append_right (by omega)] at hv
   have:=h'.rel _ v hv
   rwa [List.getD_eq_getElem?_getD,List.getElem?_append_right (by omega),show j - as.length=j - cs.length by omega,← List.getD_eq_getElem?_getD]
 ·by_cases hj:j < ls.length
  ·rw [List.getElem?_append_left hj] at hl
   rw [List.getElem?_append_left (by omega)] at ha
   exact h.is j lf a hl ha
  ·rw [List.getElem?_append_right (by omega)] at hl
   rw [List.getElem?_append_right (by omega),show j - as.length=j - ls.length by omega] at ha
   exact h'.is _ lf a hl ha
theorem sq {w:World} {base:Nat} {a:Addr} {n:Nat} {cs:List Value} (h:w.cells? base a n=some cs):cs.length=n∧∀ (j:Nat) (v:Value),cs[j]?=some v→w.cell? (a.add j)=some v:=by
 unfold World.cells? at h
 split at h
 ·have hl:=mapM_some_length h
  simp at hl
  refine ⟨hl,fun j v hv=>?_⟩
  have hj:j < n:=by have:=(List.getElem?_eq_some_iff.1 hv).1;omega
  have:=mapM_some_get h j j (by simp [hj])
  rw [this,hv]
 ·cases h
theorem pW {α:Type} {p:Nat→α→Prop}:∀ n:Nat,(∀ i,i < n→∃ a,p i a)→∃ L:List α,L.length=n∧∀ i a,L[i]?=some a→p i a
 | 0,_=>⟨[],rfl,fun i a h=>(by simp at h)⟩
 | n+1,h=>by
  obtain ⟨L,hl,hL⟩:=pW n (fun i hi=>h i (by omega))
  obtain ⟨a,ha⟩:=h n (by omega)
  refine ⟨L ++ [a],by simp [hl],fun i x hx=>?_⟩
  by_cases hi:i < L.length
  ·rw [List.getElem?_append_left hi] at hx;exact hL i x hx
  ·rw [List.getElem?_append_right (by omega)] at hx
   have Vm:i - L.length=0:=by
    have:=(List.getElem?_eq_some_iff.1 hx).1
    simp at this;omega
   rw [Vm] at hx
   simp at hx
   rw [← hx,show i=n by omega]
   exact ha
theorem yU {H:Type}:∀ {L:List (List AV)} {ds:List (DataW H)},L.length=ds.length→(∀ (i:Nat) (as:List AV) (d:DataW H),L[i]?=some as→ds[i]?=some d→qB as≤bulk d)→qB (L.map .ag)≤dW ds
 | [],[],_,_=>Nat.le_refl _
 | as :: L,d :: ds,hl,h=>by
  have h0:=h 0 as d rfl rfl
  have:=yU (L:=L) (ds:=ds) (by simpa using hl) (fun i a x h1 h2=>h (i+1) a x (by simpa using h1) (by simpa using h2))
  simp only [List.map_cons,qB,wt,dW]
  omega
 | [],_ :: _,hl,_=>by simp at hl
 | _ :: _,[],hl,_=>by simp at hl
theorem uM {H:Type}:∀ {L:List (List AV)} {ds:List (DataW H)},L.length=ds.length→(∀ (i:Nat) (as:List AV) (d:DataW H),L[i]?=some as→ds[i]?=some d→qB as≤bulk d∧as.length=1)→qB (L.map (·.getD 0 .un))≤dW ds
 | [],[],_,_=>Nat.le_refl _
 | as :: L,d :: ds,hl,h=>by
  obtain ⟨h0,h1⟩:=h 0 as d rfl rfl
  have:=uM (L:=L) (ds:=ds) (by simpa using hl) (fun i a x h1 h2=>h (i+1) a x (by simpa using h1) (by simpa using h2))
  cases as with
  | nil=>simp at h1
  | cons x r =>
   have:r=[]:=List.eq_nil_of_length_eq_zero (by simpa using h1)
   subst this
   simp only [qB] at h0
   simp only [List.map_cons,qB,dW,List.getD_cons_zero]
   omega
 | [],_ :: _,hl,_=>by simp at hl
 | _ :: _,[],hl,_=>by simp at hl
theorem Is.RI {lf:Lf} {a:AV} (h:Is lf a):∀ j,j < 1→a.cell j=a:=by
 intro j hj
 obtain rfl:j=0:=by omega
 cases h <;> rfl
section opening
variable {H:Type} {enc:TypeId×Value→H} {P:Program} {w:World} {base:Nat} {spare:Nat→Bool} {held:Bool}
theorem pX:∀ n:Nat,(∀ (t:TypeId) (ls:List Lf) (fuel:Nat) (cs:List Value) (x:DataW H×List MemPlace),leaves P n t=some ls→DataW.trod enc P w base spare held fuel t cs=some x→∃ as,cQ w ls cs as∧qB as≤bulk x.1) ∧
  (∀ (fs:List Field) (off:Nat) (ls:List Lf) (fuel:Nat) (cs:List Value) (xs:List (DataW H×List MemPlace)),lv P n fs off=some ls→xs.length=fs.length→cs.length=off+ls.length →
   (∀ (i:Nat) (f:Field),fs[i]?=some f→DataW.trod enc P w base spare held fuel f.type ((cs.drop f.offset).take (P.cellsOf f.type))=xs[i]?)→∃ as,cQ w ls (cs.drop off) as∧qB as≤dW (xs.map (·.1)))
 | 0=>⟨fun t ls fuel cs x h=>(by simp [leaves] at h),fun fs off ls fuel cs xs h=>(by simp [lv] at h)⟩
 | n+1=>by
  obtain ⟨Yu,Yv⟩:=pX n
  refine ⟨fun t ls fuel cs x h ht=>?_,fun fs off ls fuel cs xs h hl hc hx=>?_⟩
  ·simp only [leaves] at h
   cases hu:P.underlying t with
   | none=>rw [hu] at h;cases h
   | some d =>
    rw [hu] at h
    cases d <;> simp only at h <;> try (cases h;done)
    case bool =>
     cases h
     obtain ⟨b,rfl,rfl⟩:=DataW.trod_bool hu ht
     exact ⟨[.b b],cQ.single rfl (.b b) (.b b),Nat.le_refl _⟩
    case int k =>
     obtain ⟨m,rfl,rfl,hw⟩:=DataW.trod_int hu ht
     cases k <;> simp only at h <;> cases h <;> first
      | exact ⟨[.int m],cQ.single rfl (.int m) (.int m hw),Nat.le_refl _⟩
      | exact ⟨[.ik _ m],cQ.single rfl (.ik _ m) (.ik _ m hw),Nat.le_refl _⟩
      | skip
     have hb:0≤m∧m < 256:=by
      simp only [Lit.wf,Bool.and_eq_true,decide_eq_true_eq] at hw
      have h1:IntKind.u8.min=0:=rfl
      have h2:IntKind.u8.max=255:=rfl
      omega
     refine ⟨[.u8 (UInt8.ofNat m.toNat)],cQ.single rfl ?_ (.u8 _),Nat.le_refl _⟩
     have:=Rel.u8 (w:=w) (F:=fun _=>True) (UInt8.ofNat m.toNat)
     rw [UInt8.toNat_ofNat_of_lt' (by show m.toNat < 256;omega)] at this
     rwa [show ((m.toNat:Nat):Int)=m by omega] at this
    case string =>
     cases h
     obtain ⟨s,rfl,rfl,hs⟩:=DataW.trod_string hu ht
     exact ⟨[.s s.data.toList],cQ.single rfl (.s s) (.s _ (by simpa using hs)),Nat.le_refl _⟩
    case slice e =>
     obtain ⟨kF,Jc,h⟩:=Option.bind_eq_some_iff.1 h
     cases hb:(Nat.beq kF.length (P.cellsOf e) && Nat.blt 0 kF.length && (oN P e || Nat.beq kF.length 1)) with
     | false=>rw [hb] at h;cases h
     | true =>
      rw [hb] at h
      simp only [cond_true,Option.some.injEq] at h
      subst h
      simp only [Bool.and_eq_true,Bool.or_eq_true] at hb
      obtain ⟨⟨b1,b2⟩,b3⟩:=hb
      have b1:=Nat.eq_of_beq_eq_true b1
      have b2:0 < kF.length:=by simpa [Nat.blt_eq] using b2
      rcases DataW.trod_slice hu ht with ⟨rfl,rfl⟩ | ⟨a,len,cap,elems,rest,m,rfl,rfl,rfl,_,hlc,hcm,AH,qy,_,_⟩
      ·cases hst:oN P e with
       | true=>exact ⟨[.ro kF.length []],cQ.single rfl (.ub _ none 0) (.Yt kF [] (fun _ h=>by cases h) (fun _ h=>by cases h) (Nat.zero_le _)),Nat.le_refl _⟩
       | false =>
        rw [hst] at b3
        have b4:kF.length=1:=by
         rcases b3 with h | h
         ·cases h
         ·exact Nat.eq_of_beq_eq_true h
        obtain ⟨lf,rfl⟩:∃ lf,kF=[lf]:=by
         cases kF with
         | nil=>simp at b4
         | cons lf r=>exact ⟨lf,by rw [List.eq_nil_of_length_eq_zero (l:=r) (by simpa using b4)]⟩
        exact ⟨[.ro 1 []],cQ.single rfl (.ub _ none 0) (.Ys lf [] (fun _ h=>by cases h) (Nat.zero_le _)),Nat.le_refl _⟩
      ·
       have RJ:∀ i,i < len→∃ as,∃ (cs:List Value) (d:DataW H),w.cells? base (a.add (i * P.cellsOf e)) (P.cellsOf e)=some cs∧(elems.map (·.1))[i]?=some d∧cQ w kF cs as∧qB as≤bulk d:=by
        intro i hi
        have h1:=qy i hi
        have h2:elems[i]?=some elems[i]:=List.getElem?_eq_getElem (by omega)
        rw [h2] at h1
        obtain ⟨cs,hcs,Uh⟩:=Option.bind_eq_some_iff.1 h1
        obtain ⟨as,ho,hle⟩:=Yu e kF m cs _ Jc Uh
        exact ⟨as,cs,_,hcs,by simp [h2],ho,hle⟩
       obtain ⟨L,hL,hp⟩:=pW len RJ
       have Yw:L.length=(elems.map (·.1)).length:=by simp;omega
       have Kq:∀ (i:Nat) (as:List AV),L[i]?=some as→as.length=kF.length∧∀ d,(elems.map (·.1))[i]?=some d→qB as≤bulk d:=by
        intro i as hi
        obtain ⟨cs,d,_,hd,ho,hle⟩:=hp i as hi
        exact ⟨ho.yT,fun d' E9=>by rw [hd] at E9;cases E9;exact hle⟩
       have key:∀ (F:List AV→AV),(∀ (i:Nat) (as:List AV) (j:Nat),L[i]?=some as→j < kF.length→(F as).cell j=as.getD j .un)→Rel w (fun _=>True) (.ro kF.length (L.map F)) (.slice (some a) len cap):=by
        intro F hF
        by_cases h0:len=0
        ·subst h0
         rw [List.eq_nil_of_length_eq_zero hL]
         exact .ub _ _ _
        ·have hsp:a.spot=none:=by
          obtain ⟨as,cs,d,hcs,hd,ho,hle⟩:=RJ 0 (by omega)
          obtain ⟨jw,VZ⟩:=sq hcs
          have h1:cs[0]?=some cs[0]:=List.getElem?_eq_getElem (by omega)
          have h2:=VZ 0 _ h1
          have:=World.cell?_spot h2
          simpa [Addr.add] using this
         obtain ⟨r,off,sp⟩:=a
         simp only at hsp
         subst hsp
         have hcell:∀ i j,i < len→j < kF.length→∃ (as:List AV) (v:Value),L[i]?=some as∧w.cell? ⟨r,off+(i * kF.length+j),none⟩=some v∧v.oneCell'=true∧Rel w (fun _=>True) (as.getD j .un) v:=by
          intro i j hi hj
          have hi':L[i]?=some L[i]:=List.getElem?_eq_getElem (by omega)
          obtain ⟨cs,d,hcs,hd,ho,hle⟩:=hp i _ hi'
          obtain ⟨jw,VZ⟩:=sq hcs
          have h1:cs[j]?=some cs[j]:=List.getElem?_eq_getElem (by omega)
          refine ⟨_,_,hi',?_,ho.one _ (List.getElem_mem (by omega)),ho.rel j _ h1⟩
          have h2:=VZ j _ h1
          rw [add_plain,add_plain,← b1] at h2
          rw [← Nat.add_assoc]
          exact h2
         have:=Rel.ro (w:=w) (F:=fun _=>True) kF.length (L.map F) r off cap ((List.range (len * kF.length)).map fun m=>(w.cell? ⟨r,off+m,none⟩).getD undef) b2 (by simp;omega) trivial (by simp [hL]) ?_ ?_ ?_
         ·simpa [hL] using this
         ·intro j v hj
          have hlt:=(List.getElem?_eq_some_iff.1 hj).1
          simp only [List.length_map,List.length_range] at hlt
          simp only [List.getElem?_map,List.getElem?_range hlt,Option.map_some,Option.some.injEq] at hj
          have hq:j / kF.length < len:=Nat.div_lt_of_lt_mul (by rw [Nat.mul_comm];exact hlt)
          have hr:=Nat.mod_lt j b2
          obtain ⟨as,u,_,hc,_,_⟩:=hcell _ _ hq hr
          rw [Nat.mul_comm,Nat.div_add_mod] at hc
          rw [hc] at hj ⊢
          simpa using hj
         ·intro v hv
          obtain ⟨j,hj,rfl⟩:=List.mem_map.1 hv
          have hlt:=List.mem_range.1 hj
          have hq:j / kF.length < len:=Nat.div_lt_of_lt_mul (by rw [Nat.mul_comm];exact hlt)
          have hr:=Nat.mod_lt j b2
          obtain ⟨as,u,_,hc,h1,_⟩:=hcell _ _ hq hr
          rw [Nat.mul_comm,Nat.div_add_mod] at hc
          rw [hc]
          exact h1
         ·intro i j v hi hj hv
          simp only [List.length_map] at hi
          obtain ⟨as,u,Uv,hc,h1,hrel⟩:=hcell i j (by omega) hj
          have hlt:=(List.getElem?_eq_some_iff.1 hv).1
          simp only [List.length_map,List.length_range] at hlt
          simp only [List.getElem?_map,List.getElem?_range hlt,Option.map_some,Option.some.injEq] at hv
          rw [hc] at hv
          simp only [Option.getD_some] at hv
          subst hv
          rw [show (L.map F).getD i .un=F as by simp [List.getD_eq_getElem?_getD,Uv],hF i as j Uv hj]
          exact hrel
       cases hst:oN P e with
       | true =>
        refine ⟨[.ro kF.length (L.map .ag)],cQ.single rfl (key .ag fun i as j _ _=>Kl as j) (.Yt kF L (fun m hm=>?_) (fun m hm j lf x hj hx=>?_) (by omega)),?_⟩
        ·obtain ⟨i,hi,rfl⟩:=List.getElem_of_mem hm
         exact (Kq i _ (List.getElem?_eq_getElem hi)).1
        ·obtain ⟨i,hi,rfl⟩:=List.getElem_of_mem hm
         obtain ⟨cs,d,_,_,ho,_⟩:=hp i _ (List.getElem?_eq_getElem hi)
         exact ho.is j lf x hj hx
        ·have:=yU Yw (fun i as d h1 h2=>(Kq i as h1).2 d h2)
         simp only [qB,wt,bulk]
         omega
       | false =>
        rw [hst] at b3
        have b4:kF.length=1:=by
         rcases b3 with h | h
         ·cases h
         ·exact Nat.eq_of_beq_eq_true h
        obtain ⟨lf,rfl⟩:∃ lf,kF=[lf]:=by
         cases kF with
         | nil=>simp at b4
         | cons lf r=>exact ⟨lf,by rw [List.eq_nil_of_length_eq_zero (l:=r) (by simpa using b4)]⟩
        have Yx:∀ (i:Nat) (as:List AV),L[i]?=some as→Is lf (as.getD 0 .un):=by
         intro i as hi
         obtain ⟨cs,d,_,_,ho,_⟩:=hp i as hi
         have hl:=ho.yT
         cases as with
         | nil=>simp at hl
         | cons x r=>exact ho.is 0 lf x rfl rfl
        refine ⟨[.ro 1 (L.map (·.getD 0 .un))],cQ.single rfl (key (·.getD 0 .un) fun i as j hi hj=>?_) (.Ys lf _ (fun x hx=>?_) (by simp only [List.length_map];omega)),?_⟩
        ·have hj1:j < 1:=by simpa using hj
         rw [(Yx i as hi).RI j hj1,show j=0 by omega]
        ·obtain ⟨as,has,rfl⟩:=List.mem_map.1 hx
         obtain ⟨i,hi,rfl⟩:=List.getElem_of_mem has
         exact Yx i _ (List.getElem?_eq_getElem hi)
        ·have:=uM Yw (fun i as d h1 h2=>⟨(Kq i as h1).2 d h2,by simpa using (Kq i as h1).1⟩)
         simp only [qB,wt,bulk]
         omega
    case struct fs =>
     obtain ⟨kF,Jc,h⟩:=Option.bind_eq_some_iff.1 h
     cases hb:Nat.beq kF.length (P.cellsOf t) with
     | false=>rw [hb] at h;cases h
     | true =>
      rw [hb] at h
      simp only [cond_true,Option.some.injEq] at h
      subst h
      obtain ⟨xs,m,rfl,rfl,jw,B9,qy⟩:=DataW.trod_struct hu ht
      have:=Nat.eq_of_beq_eq_true hb
      obtain ⟨as,ho,hle⟩:=Yv fs.toList 0 kF m cs xs Jc (by simpa using B9) (by omega) (fun i f hf=>qy i f (by simpa using hf))
      refine ⟨as,by simpa using ho,?_⟩
      simp only [bulk]
      omega
  ·cases fs with
   | nil =>
    simp only [lv,Option.some.injEq] at h
    subst h
    obtain rfl:xs=[]:=List.eq_nil_of_length_eq_zero (by simpa using hl)
    refine ⟨[],?_,Nat.le_refl _⟩
    rw [List.drop_eq_nil_of_le (by simp at hc;omega)]
    exact cQ.nil w
   | cons f r =>
    cases xs with
    | nil=>simp at hl
    | cons x xs =>
     simp only [lv] at h
     obtain ⟨kF,Jc,h⟩:=Option.bind_eq_some_iff.1 h
     cases hb:(Nat.beq f.offset off && Nat.beq kF.length (P.cellsOf f.type)) with
     | false=>rw [hb] at h;cases h
     | true =>
      rw [hb] at h
      simp only [cond_true] at h
      obtain ⟨ls2,h2,rfl⟩:=Option.map_eq_some_iff.1 h
      rw [Bool.and_eq_true] at hb
      have e1:=Nat.eq_of_beq_eq_true hb.1
      have e2:=Nat.eq_of_beq_eq_true hb.2
      have t0:=hx 0 f rfl
      rw [e1,← e2] at t0
      obtain ⟨as,ho,hle⟩:=Yu f.type kF fuel _ x Jc t0
      simp only [List.length_append] at hc
      obtain ⟨as2,Un,aac⟩:=Yv r (off+kF.length) ls2 fuel cs xs h2 (by simpa using hl) (by omega) (fun i g hg=>by simpa using hx (i+1) g (by simpa using hg))
      refine ⟨as ++ as2,?_,?_⟩
      ·have:=ho.append Un
       rwa [← List.drop_drop,List.take_append_drop] at this
      ·rw [AG]
       simp only [List.map_cons,dW]
       omega
end opening
end Sx
namespace Sx
open Go Go.RowKit Go.WideShapes Go.ChangeShapes
def sr (agg:Bool) (ls:List Lf) (a:AV):Prop :=
 match agg with
 | true=>∃ m,a=.ag m∧m.length=ls.length∧∀ (j:Nat) (lf:Lf) (x:AV),ls[j]?=some lf→m[j]?=some x→Is lf x
 | false=>∃ lf,ls=[lf]∧Is lf a
def wm:List (Bool×List Lf)→List AV→Prop
 | [],[]=>True
 | p :: r,a :: as=>sr p.1 p.2 a∧wm r as
 | _,_=>False
def nO (P:Program):List TypeId→Option (List (Bool×List Lf))
 | []=>some []
 | t :: ts=>(leaves P 12 t).bind fun ls=>bif oN P t || Nat.beq ls.length 1 then (nO P ts).map ((oN P t,ls) :: ·) else none
section
variable {H:Type} {enc:TypeId×Value→H} {P:Program} {w:World} {base:Nat} {spare:Nat→Bool} {held:Bool}
theorem Gp {t:TypeId} {ls:List Lf} {v:Value} {d:DataW H} {p:List MemPlace} {r:Reach} {b0:Nat} (hl:leaves P 12 t=some ls) (hb:(oN P t || Nat.beq ls.length 1)=true) (hval:Value.okWide P w r b0 t v) (h:DataW.Trod enc P w base spare held t v d p) :
  ∃ a,sr (oN P t) ls a∧wt a≤bulk d∧Rel w (fun _=>True) a v:=by
 obtain ⟨fuel,hf⟩:=h
 obtain ⟨as,ho,hle⟩:=(pX 12).1 t ls fuel _ _ hl hf
 cases hst:oN P t with
 | true =>
  unfold oN at hst
  split at hst
  ·rename_i fs hu
   obtain ⟨cs,rfl,_⟩:=okWide_struct hu hval
   have hc:(Value.agg cs).cells.toList=cs.toList:=rfl
   rw [hc] at ho
   refine ⟨.ag as,⟨as,rfl,ho.yT,ho.is⟩,by simpa only [wt] using hle,?_⟩
   have:=Rel.ag (w:=w) (F:=fun _=>True) as cs.toList (by rw [ho.yT,ho.Kp]) ho.one ho.rel
   simpa using this
  ·cases hst
 | false =>
  rw [hst,Bool.false_or] at hb
  have h1:=Nat.eq_of_beq_eq_true hb
  obtain ⟨lf,rfl⟩:∃ lf,ls=[lf]:=by
   cases ls with
   | nil=>simp at h1
   | cons lf r=>exact ⟨lf,by rw [List.eq_nil_of_length_eq_zero (l:=r) (by simpa using h1)]⟩
  have hlen:=ho.yT
  obtain ⟨a,rfl⟩:∃ a,as=[a]:=by
   cases as with
   | nil=>simp at hlen
   | cons a r=>exact ⟨a,by rw [List.eq_nil_of_length_eq_zero (l:=r) (by simpa using hlen)]⟩
  have hv:v.cells.toList=[v]:=by
   simp only [leaves] at hl
   cases hu:P.underlying t with
   | none=>rw [hu] at hl;cases hl
   | some dd =>
    rw [hu] at hl
    cases dd <;> simp only at hl <;> try (cases hl;done)
    case bool=>obtain ⟨b,rfl⟩:=okWide_bool hu hval;rfl
    case int k=>obtain ⟨b,rfl⟩:=okWide_int hu hval;rfl
    case string=>obtain ⟨b,rfl⟩:=okWide_string hu hval;rfl
    case slice e=>obtain ⟨a,len,cap,rfl⟩:=okWide_slice hu hval;rfl
    case struct fs=>unfold oN at hst;rw [hu] at hst;cases hst
  rw [hv] at ho
  refine ⟨a,⟨lf,rfl,ho.is 0 lf a rfl rfl⟩,by simpa [qB] using hle,?_⟩
  simpa using ho.rel 0 v rfl
theorem uN {r:Reach} {b0:Nat}:∀ {ts:List TypeId} {shs:List (Bool×List Lf)} {vs:List Value} {ds:List (DataW H)} {p:List MemPlace},nO P ts=some shs→DataW.TrodAll enc P w base spare held ts vs ds p →
  (∀ (j:Nat) (t:TypeId) (v:Value),ts[j]?=some t→vs[j]?=some v→Value.okWide P w r b0 t v) →
  ∃ as,as.length=vs.length∧ds.length=ts.length∧wm shs as∧qB as≤dW ds∧∀ (j:Nat) (a:AV) (v:Value),as[j]?=some a→vs[j]?=some v→Rel w (fun _=>True) a v
 | [],shs,vs,ds,p,hs,h,hv=>by
  obtain ⟨rfl,rfl,rfl⟩:=trodAll_nil h
  cases hs
  exact ⟨[],rfl,rfl,trivial,Nat.le_refl _,fun j a v h=>by simp at h⟩
 | t :: ts,shs,vs,ds,p,hs,h,hv=>by
  obtain ⟨v,vs1,d,ds1,p1,p2,rfl,rfl,rfl,h1,h2⟩:=trodAll_cons h
  simp only [nO] at hs
  obtain ⟨ls,Jc,hs⟩:=Option.bind_eq_some_iff.1 hs
  cases hb:(oN P t || Nat.beq ls.length 1) with
  | false=>rw [hb] at hs;cases hs
  | true =>
   rw [hb] at hs
   simp only [cond_true] at hs
   obtain ⟨aad,hs',rfl⟩:=Option.map_eq_some_iff.1 hs
   obtain ⟨a,ha,hle,hr⟩:=Gp Jc hb (hv 0 t v rfl rfl) h1
   obtain ⟨as,e1,e2,e3,e4,e5⟩:=uN hs' h2 (fun j t v h1 h2=>hv (j+1) t v (by simpa using h1) (by simpa using h2))
   refine ⟨a :: as,by simp [e1],by simp [e2],⟨ha,e3⟩,?_,fun j x u hx hu=>?_⟩
   ·simp only [qB,dW];omega
   ·cases j with
    | zero=>simp at hx hu;subst hx;subst hu;exact hr
    | succ j=>exact e5 j x u (by simpa using hx) (by simpa using hu)
theorem lY {w':World}:∀ {ts:List TypeId} {vs:List Value} {ds:List (DataW H)} {ps:List MemPlace},DataW.TrodAll enc P w base spare held ts vs ds ps→(∀ p ∈ ps,w.sameAt w' p)→DataW.TrodAll enc P w' base spare held ts vs ds ps
 | [],vs,ds,ps,h,hs=>by
  obtain ⟨rfl,rfl,rfl⟩:=trodAll_nil h
  exact trodAll_mk0
 | t :: ts,vs,ds,ps,h,hs=>by
  obtain ⟨v,vs1,d,ds1,p1,p2,rfl,rfl,rfl,⟨n,hn⟩,h2⟩:=trodAll_cons h
  exact ⟨p1,p2,⟨n,DataW.trod_carry n _ _ _ hn (fun p hp=>hs p (List.mem_append_left _ hp))⟩,lY h2 (fun p hp=>hs p (List.mem_append_right _ hp)),rfl⟩
end
theorem wo {C:cU} {P:Program} (dE:Fit C P) {g:Nat} {fn:Func} {c:Code} (hfn:P.funcs[g]?=some fn) (hb:fn.body=some c) (ho:(C.own g).all Option.isNone=true) (dr:C.sig g=none)
  {tb:TypeId} (hres:fn.resultTypes = #[tb]) (htb:P.underlying tb=some .bool)
  (jA:laidOutB P=true) (MF:mapsRowed P=true) (hz:((List.range P.types.size).all fun t=>match P.underlying t with | some (.slice e)=>decide (0 < P.cellsOf e) | _=>true)=true)
  (Jb:fn.params.toList.all (fun t=>decide (t < P.types.size))=true)
  {s:ChangeSpec} (MG:s.vars=[]) (hs:∀ (H:Type) (ds:List (DataW H)),ds.length=fn.params.toList.length→s.fn H ds={ results:=[.lit (.bool true)],args:=ds })
  {shs:List (Bool×List Lf)} (RL:nO P fn.params.toList=some shs)
  {H:Type} {enc:TypeId×Value→H} {W:World} {base:Nat} {args:Array Value} {ds gs:List (DataW H)} {before:List MemPlace} {apart fresh handsOn:Bool}
  (hval:∀ (j:Nat) t v,fn.params[j]?=some t→args[j]?=some v→Value.okWide P W .any base t v)
  (hW:DataW.Whole enc P fn.params.toList s.vars apart W args.toList ds gs before)
  (hG:aQ C W (fun _=>True))
  (law:∀ as,wm shs as→qB as≤dW (ds ++ gs)→ae C P g as=some (.b true)) :
  Calls P g args W fun e W'=>∃ v,e=.returned v∧s.post enc P fn apart fresh handsOn false W args v W':=by
 have hW0:=hW
 have hlt:=hW.lt
 obtain ⟨p,q,hA,hV,rfl,hfz,qK⟩:=hW
 rw [MG] at hV
 obtain ⟨rfl,rfl⟩:=trodVars_none hV
 simp only [List.append_nil] at law hlt hW0
 obtain ⟨as,e1,e2,e3,e4,e5⟩:=uN RL hA (fun j t v h1 h2=>hval j t v (by simpa using h1) (by simpa using h2))
 have Ga:=law as e3 e4
 refine (AB dE hfn hb ho dr Ga W (fun _=>True) args hG (by simpa using e1.symm) (fun j a v h1 h2=>e5 j a v h1 (by simpa using h2))).mono fun e W' he=>?_
 obtain ⟨rfl,Qv⟩:=he
 have V0:=hs H ds e2
 refine ⟨_,rfl,ds,[],p,[],p,[],hW0,?_,?_,?_,Qv.frame _,fun h=>by cases h⟩
 ·rw [List.append_nil,V0,hres]
  exact trodAll_mk1 (shut_bool htb _)
 ·rw [List.append_nil,V0]
  have h1:=lY (w':=W') hA (fun x hx=>Qv.same (hlt x hx))
  exact DataW.TrodAll.respare (kids_rows jA MF) (fun t e ht hu=>slices_full_of P hz t e ht hu) (fun t ht=>of_decide_eq_true (List.all_eq_true.1 Jb t ht)) h1 (fun x hx=>by simpa using hlt x hx)
 ·rw [MG,List.append_nil,V0]
  exact rfl
end Sx
namespace Sx
theorem Ow {a:AV} (h:sr false [.s] a):∃ l:List UInt8,a=.s l∧l.length≤Go.maxLen:=by
 obtain ⟨lf,e,h⟩:=h
 cases e
 cases h with
 | s l h=>exact ⟨l,rfl,h⟩
theorem MH {p q:Bool×List Lf} {as:List AV} (h:wm [p,q] as):∃ a b,as=[a,b]∧sr p.1 p.2 a∧sr q.1 q.2 b:=by
 match as,h with
 | [a,b],h=>exact ⟨a,b,rfl,h.1,h.2.1⟩
end Sx
namespace Sx
open Go
structure Ctx where
 st:UInt8
 el:UInt8
 en:Bool
 at':UInt8
 qu:UInt8
 pa:UInt8
 su:UInt8
 es:Bool
 da:UInt8
 nm:List UInt8
 deriving DecidableEq
abbrev cx (st el:UInt8) (en:Bool) (at' qu pa su:UInt8) (es:Bool) (da:UInt8) (nm:List UInt8):AV :=
 .ag [.u8 st,.u8 el,.b en,.u8 at',.u8 qu,.u8 pa,.u8 su,.b es,.u8 da,.s nm]
abbrev Ctx.av (c:Ctx):AV:=cx c.st c.el c.en c.at' c.qu c.pa c.su c.es c.da c.nm
@[simp] theorem RM (a b c d e f g h i j:AV):AV.aI 10 (.ag [a,b,c,d,e,f,g,h,i,j])=some [a,b,c,d,e,f,g,h,i,j]:=rfl
section get
variable (a b c d e f g h i j:AV)
@[simp] theorem aae:[a,b,c,d,e,f,g,h,i,j].getD 0 .un=a:=rfl
@[simp] theorem aaf:[a,b,c,d,e,f,g,h,i,j].getD 1 .un=b:=rfl
@[simp] theorem aag:[a,b,c,d,e,f,g,h,i,j].getD 2 .un=c:=rfl
@[simp] theorem aah:[a,b,c,d,e,f,g,h,i,j].getD 3 .un=d:=rfl
@[simp] theorem aai:[a,b,c,d,e,f,g,h,i,j].getD 4 .un=e:=rfl
@[simp] theorem aaj:[a,b,c,d,e,f,g,h,i,j].getD 5 .un=f:=rfl
@[simp] theorem aak:[a,b,c,d,e,f,g,h,i,j].getD 6 .un=g:=rfl
@[simp] theorem aal:[a,b,c,d,e,f,g,h,i,j].getD 7 .un=h:=rfl
@[simp] theorem aam:[a,b,c,d,e,f,g,h,i,j].getD 8 .un=i:=rfl
@[simp] theorem aan:[a,b,c,d,e,f,g,h,i,j].getD 9 .un=j:=rfl
end get
def bH (a b:Ctx):Bool :=
 a.st == b.st && (a.el == b.el && (a.en == b.en && (a.at' == b.at' && (a.qu == b.qu && (a.pa == b.pa && (a.su == b.su && (a.es == b.es && (a.da == b.da && a.nm == b.nm))))))))
@[simp] theorem Gq (st el:UInt8) (en:Bool) (at' qu pa su:UInt8) (es:Bool) (da:UInt8) (nm:List UInt8) (bG wq:UInt8) (wu:Bool) (lZ wx wy ya:UInt8) (yc:Bool) (wz:UInt8) (wA:List UInt8) :
  fM [.i,.i,.b,.i,.i,.i,.i,.b,.i,.s] .eql (.ag [.u8 st,.u8 el,.b en,.u8 at',.u8 qu,.u8 pa,.u8 su,.b es,.u8 da,.s nm]) (.ag [.u8 bG,.u8 wq,.b wu,.u8 lZ,.u8 wx,.u8 wy,.u8 ya,.b yc,.u8 wz,.s wA]) =
   some (.b (bH ⟨st,el,en,at',qu,pa,su,es,da,nm⟩ ⟨bG,wq,wu,lZ,wx,wy,ya,yc,wz,wA⟩)):=by
 simp only [fM,eqs,Jz,Option.bind_some,bH,Bool.and_true]
@[simp] theorem yV (st el:UInt8) (en:Bool) (at' qu pa su:UInt8) (es:Bool) (da:UInt8) (nm:List UInt8) (bG wq:UInt8) (wu:Bool) (lZ wx wy ya:UInt8) (yc:Bool) (wz:UInt8) (wA:List UInt8) :
  fM [.i,.i,.b,.i,.i,.i,.i,.b,.i,.s] .neq (.ag [.u8 st,.u8 el,.b en,.u8 at',.u8 qu,.u8 pa,.u8 su,.b es,.u8 da,.s nm]) (.ag [.u8 bG,.u8 wq,.b wu,.u8 lZ,.u8 wx,.u8 wy,.u8 ya,.b yc,.u8 wz,.s wA]) =
   some (.b (!bH ⟨st,el,en,at',qu,pa,su,es,da,nm⟩ ⟨bG,wq,wu,lZ,wx,wy,ya,yc,wz,wA⟩)):=by
 simp only [fM,eqs,Jz,Option.bind_some,bH,Bool.and_true]
theorem sw (a b:Ctx):bH a b=decide (a=b):=by
 obtain ⟨⟩:=a;obtain ⟨⟩:=b
 rw [Bool.eq_iff_iff]
 simp only [bH,Ctx.mk.injEq,Bool.and_eq_true,beq_iff_eq,decide_eq_true_eq]
theorem Ox {a:AV} (h:sr true [.u8,.u8,.b,.u8,.u8,.u8,.u8,.b,.u8,.s] a):∃ c:Ctx,a=c.av∧c.nm.length≤maxLen:=by
 obtain ⟨m,rfl,hl,hi⟩:=h
 match m,hl with
 | [a0,a1,a2,a3,a4,a5,a6,a7,a8,a9],_ =>
  have h0:=hi 0 _ _ rfl rfl
  have h1:=hi 1 _ _ rfl rfl
  have h2:=hi 2 _ _ rfl rfl
  have h3:=hi 3 _ _ rfl rfl
  have h4:=hi 4 _ _ rfl rfl
  have h5:=hi 5 _ _ rfl rfl
  have h6:=hi 6 _ _ rfl rfl
  have h7:=hi 7 _ _ rfl rfl
  have h8:=hi 8 _ _ rfl rfl
  have h9:=hi 9 _ _ rfl rfl
  cases h0;cases h1;cases h2;cases h3;cases h4;cases h5;cases h6;cases h7;cases h8
  cases h9 with
  | s l hl=>exact ⟨⟨_,_,_,_,_,_,_,_,_,l⟩,rfl,hl⟩
theorem nP (st:UInt8):st=0∨st=1∨st=2∨st=3∨st=4∨st=5∨st=6∨st=7∨st=8∨st=9∨st=10∨st=11∨st=12∨st=13∨st=14∨st=15∨st=16∨st=17∨st=18∨st=19∨st=20∨20 < st:=by
 have:=fD (p:=fun st=>st == 0 || (st == 1 || (st == 2 || (st == 3 || (st == 4 || (st == 5 || (st == 6 || (st == 7 || (st == 8 || (st == 9 || (st == 10 || (st == 11 || (st == 12 || (st == 13 || (st == 14 || (st == 15 || (st == 16 || (st == 17 || (st == 18 || (st == 19 || (st == 20 || decide (20 < st)))))))))))))))))))))) (by kernel_rfl) st
 simpa only [Bool.or_eq_true,beq_iff_eq,decide_eq_true_eq] using this
theorem fc (x:UInt8):x=0∨x=1∨x=2∨x=3∨x=4∨4 < x:=by
 have:=fD (p:=fun st=>st == 0 || (st == 1 || (st == 2 || (st == 3 || (st == 4 || decide (4 < st)))))) (by kernel_rfl) x
 simpa only [Bool.or_eq_true,beq_iff_eq,decide_eq_true_eq] using this
theorem yX (x:UInt8):x=0∨x=1∨x=2∨x=3∨x=4∨x=5∨5 < x:=by
 have:=fD (p:=fun st=>st == 0 || (st == 1 || (st == 2 || (st == 3 || (st == 4 || (st == 5 || decide (5 < st))))))) (by kernel_rfl) x
 simpa only [Bool.or_eq_true,beq_iff_eq,decide_eq_true_eq] using this
theorem Gr (x:UInt8):x=0∨x=1∨x=2∨x=3∨x=4∨x=5∨x=6∨6 < x:=by
 have:=fD (p:=fun st=>st == 0 || (st == 1 || (st == 2 || (st == 3 || (st == 4 || (st == 5 || (st == 6 || decide (6 < st)))))))) (by kernel_rfl) x
 simpa only [Bool.or_eq_true,beq_iff_eq,decide_eq_true_eq] using this
theorem gu {k:Nat} (h:k < 256):(OfNat.ofNat k:UInt8).toNat=k:=UInt8.toNat_ofNat_of_lt' h
theorem bT (x:UInt8) (k:Nat) (h:k < 256):((x.toNat:Int) == (OfNat.ofNat k:Int))=(x == (OfNat.ofNat k:UInt8)):=by
 have h1:=gu h
 rw [Bool.eq_iff_iff,beq_iff_eq,beq_iff_eq]
 show (x.toNat:Int)=((k:Nat):Int)↔_
 exact ⟨fun e=>UInt8.toNat_inj.1 (by rw [h1];omega),fun e=>by rw [e,h1]⟩
theorem Cw (x:UInt8) (k:Nat) (h:k < 256):((x.toNat:Int) != (OfNat.ofNat k:Int))=(x != (OfNat.ofNat k:UInt8)):=by
 simp only [bne,bT x k h]
theorem Oy (x:UInt8) (k:Nat) (h:k < 256):decide ((x.toNat:Int)≤(OfNat.ofNat k:Int))=decide (x≤(OfNat.ofNat k:UInt8)):=by
 have h1:=gu h
 rw [decide_eq_decide,UInt8.le_iff_toNat_le,h1]
 show (x.toNat:Int)≤((k:Nat):Int)↔_
 omega
theorem Oz (x:UInt8) (k:Nat) (h:k < 256):decide ((OfNat.ofNat k:Int)≤(x.toNat:Int))=decide ((OfNat.ofNat k:UInt8)≤x):=by
 have h1:=gu h
 rw [decide_eq_decide,UInt8.le_iff_toNat_le,h1]
 show ((k:Nat):Int)≤(x.toNat:Int)↔_
 omega
theorem V1 (x:UInt8) (k:Nat) (h:k < 256):decide ((OfNat.ofNat k:Int) < (x.toNat:Int))=decide ((OfNat.ofNat k:UInt8) < x):=by
 have h1:=gu h
 rw [decide_eq_decide,UInt8.lt_iff_toNat_lt,h1]
 show ((k:Nat):Int) < (x.toNat:Int)↔_
 omega
def low (l:List UInt8):Bool:=l.all fun b=>!(decide (65≤b) && decide (b≤90))
def small (l:List UInt8) (most:Int):Bool:=low l && (decide (1≤l.length) && decide ((l.length:Int)≤most))
def pre (p l:List UInt8):Bool:=decide (p.length≤l.length) && l.take p.length == p
theorem mK {l:List UInt8} {i:Nat} (h:i≤l.length):iv (.s l) none (some (.int (i:Int)))=some (.s (l.take i)):=by
 show ((gh l.length none (some (.int (i:Int)))).bind fun p=>some (AV.s ((l.take p.2).drop p.1)))=_
 simp [gh,Ct h]
theorem mL {l:List UInt8} {i:Nat} (h:i≤l.length):iv (.s l) (some (.int (i:Int))) none=some (.s (l.drop i)):=by
 show ((gh l.length (some (.int (i:Int))) none).bind fun p=>some (AV.s ((l.take p.2).drop p.1)))=_
 simp [gh,Ct h]
theorem zA {α:Type}:(∀ (l:List α) (i:Nat),l.toArray[i]?=l[i]?)∧(∀ (a:α) (l:List α) (i:Nat),(a :: l)[i+1]?=l[i]?)∧∀ (a:α) (l:List α),(a :: l)[0]?=some a :=
 ⟨fun _ _=>by simp,fun _ _ _=>by simp,fun _ _=>by simp⟩
theorem zB {α:Type}:(∀ (l:List α) (i:Nat) (a:α),l.toArray.setIfInBounds i a=(l.set i a).toArray)∧(∀ (a b:α) (l:List α),(a :: l).set 0 b=b :: l)∧∀ (a b:α) (l:List α) (n:Nat),(a :: l).set (n+1) b=a :: l.set n b :=
 ⟨fun _ _ _=>by simp,fun _ _ _=>by simp,fun _ _ _ _=>by simp⟩
theorem zC {α:Type}:(∀ l:List α,l.toArray.size=l.length)∧(∀ (a:α) (l:List α),(a :: l).length=l.length+1)∧([]:List α).length=0∧(∀ (n:Nat) (a:α),Array.replicate (n+1) a=(Array.replicate n a).push a)∧(∀ a:α,Array.replicate 0 a = #[]) ∧
  (∀ (l:List α) (a:α),l.toArray.push a=(l ++ [a]).toArray)∧(∀ l m:List α,l.toArray ++ m.toArray=(l ++ m).toArray)∧(∀ l:List α,[] ++ l=l)∧∀ (a:α) (l m:List α),a :: l ++ m=a :: (l ++ m) :=
 ⟨fun _=>by simp,fun _ _=>by simp,rfl,fun _ _=>Array.replicate_succ,fun _=>rfl,fun _ _=>by simp,fun _ _=>by simp,fun _=>rfl,fun _ _ _=>rfl⟩
theorem zT {a b c d e f g h i j:AV}:[a,b,c,d,e,f,g,h,i,j].getD 0 .un=a∧[a,b,c,d,e,f,g,h,i,j].getD 1 .un=b∧[a,b,c,d,e,f,g,h,i,j].getD 2 .un=c∧[a,b,c,d,e,f,g,h,i,j].getD 3 .un=d∧[a,b,c,d,e,f,g,h,i,j].getD 4 .un=e ∧
  [a,b,c,d,e,f,g,h,i,j].getD 5 .un=f∧[a,b,c,d,e,f,g,h,i,j].getD 6 .un=g∧[a,b,c,d,e,f,g,h,i,j].getD 7 .un=h∧[a,b,c,d,e,f,g,h,i,j].getD 8 .un=i∧[a,b,c,d,e,f,g,h,i,j].getD 9 .un=j :=
 ⟨rfl,rfl,rfl,rfl,rfl,rfl,rfl,rfl,rfl,rfl⟩
end Sx
namespace Sx
open Go Go.RowKit Go.WideShapes Go.ChangeShapes
def Uw {H:Type}:DataW H→AV
 | .lit (.bool b)=>.b b
 | .lit (.int .u8 n)=>.u8 (UInt8.ofNat n.toNat)
 | .lit (.int .i64 n)=>.int n
 | .lit (.int k n)=>.ik k n
 | .lit (.string l)=>.s l
 | _=>.un
def qL (P:Program) (t:TypeId):Bool:=match P.underlying t with | some .bool | some (.int _) | some .string=>true | _=>false
section
variable {H:Type} {enc:TypeId×Value→H} {P:Program} {w:World} {base:Nat} {spare:Nat→Bool} {held:Bool}
theorem yY {fuel:Nat} {t:TypeId} {cs:List Value} {x:DataW H×List MemPlace} (hs:qL P t=true) (h:DataW.trod enc P w base spare held fuel t cs=some x):∃ v,cs=[v]∧v.oneCell'=true∧Rel w (fun _=>True) (Uw x.1) v:=by
 unfold qL at hs
 split at hs
 ·rename_i hu
  obtain ⟨b,rfl,rfl⟩:=DataW.trod_bool hu h
  exact ⟨_,rfl,rfl,.b b⟩
 ·rename_i k hu
  obtain ⟨n,rfl,rfl,hw⟩:=DataW.trod_int hu h
  refine ⟨_,rfl,rfl,?_⟩
  cases k <;> first | exact .int n | exact .ik _ n | skip
  have hb:0≤n∧n < 256:=by
   simp only [Lit.wf,Bool.and_eq_true,decide_eq_true_eq] at hw
   have h1:IntKind.u8.min=0:=rfl
   have h2:IntKind.u8.max=255:=rfl
   omega
  have:=Rel.u8 (w:=w) (F:=fun _=>True) (UInt8.ofNat n.toNat)
  rw [UInt8.toNat_ofNat_of_lt' (by show n.toNat < 256;omega)] at this
  rwa [show ((n.toNat:Nat):Int)=n by omega] at this
 ·rename_i hu
  obtain ⟨s,rfl,rfl,_⟩:=DataW.trod_string hu h
  exact ⟨_,rfl,rfl,.s s⟩
 ·cases hs
def yZ (P:Program):Nat→List Field→Bool
 | _,[]=>true
 | n,f :: r=>Nat.beq f.offset n && qL P f.type && Nat.beq (P.cellsOf f.type) 1 && yZ P (n+1) r
theorem za:∀ {n:Nat} {fs:List Field},yZ P n fs=true→∀ (i:Nat) (f:Field),fs[i]?=some f→f.offset=n+i∧qL P f.type=true∧P.cellsOf f.type=1
 | n,[],_,i,f,h=>by simp at h
 | n,g :: r,hb,i,f,h=>by
  simp only [yZ,Bool.and_eq_true] at hb
  cases i with
  | zero=>simp at h;subst h;exact ⟨Nat.eq_of_beq_eq_true hb.1.1.1,hb.1.1.2,Nat.eq_of_beq_eq_true hb.1.2⟩
  | succ i =>
   obtain ⟨h1,h2⟩:=za hb.2 i f (by simpa using h)
   exact ⟨by omega,h2⟩
theorem El {fuel:Nat} {t:TypeId} {fs:Array Field} {cs:List Value} {x:DataW H×List MemPlace} (hu:P.underlying t=some (.struct fs)) (hb:yZ P 0 fs.toList=true) (h:DataW.trod enc P w base spare held fuel t cs=some x) :
  ∃ parts,x.1=.agg parts∧parts.length=fs.size∧∀ (i:Nat) (d:DataW H),parts[i]?=some d→∃ v,cs[i]?=some v∧v.oneCell'=true∧Rel w (fun _=>True) (Uw d) v:=by
 obtain ⟨xs,n,rfl,rfl,jw,B9,qy⟩:=DataW.trod_struct hu h
 refine ⟨_,rfl,by simpa using B9,fun i d hd=>?_⟩
 simp only [List.getElem?_map,Option.map_eq_some_iff] at hd
 obtain ⟨y,hy,rfl⟩:=hd
 have hi:i < fs.size:=by have:=(List.getElem?_eq_some_iff.1 hy).1;omega
 have hf:fs.toList[i]?=some fs[i]:=by simp [hi]
 obtain ⟨h1,h2,h3⟩:=za hb i _ hf
 have ht:=qy i fs[i] (by simp [hi])
 rw [hy,h1,h3,Nat.zero_add] at ht
 obtain ⟨v,hv,h4,h5⟩:=yY h2 ht
 refine ⟨v,?_,h4,h5⟩
 have:((cs.drop i).take 1)[0]?=some v:=by rw [hv];rfl
 simpa using this
end
theorem AJ {C:cU} {P:Program} {w:World} {name:String} {g t k:Nat} {fs:Array Field} {parts:List (DataW Unit)} {e:AV} (hC:∀ g' k' e',C.glob g'=some (k',e')→g'=g∧k'=k∧e'=e)
  (hg:P.globalNamed name=some g) (ht:(P.globals[g]?).map (·.type)=some t) (hu:P.underlying t=some (.struct fs)) (hb:yZ P 0 fs.toList=true)
  (hk:k=parts.length) (pD:0 < k) (he:∀ j,j < k→e.cell j=Uw (parts.getD j .nil)) {ps:List MemPlace} (hl:DataW.LaidVars P w [(name,.agg parts)] ps):aQ C w (fun _=>True):=by
 intro g' k' e' h
 obtain ⟨rfl,rfl,rfl⟩:=hC _ _ _ h
 obtain ⟨g2,t2,cs,fuel,p,q,h1,h2,h3,h4,_⟩:=hl
 obtain rfl:=Option.some.inj (hg.symm.trans h1)
 obtain rfl:=Option.some.inj (ht.symm.trans h2)
 obtain ⟨parts',e1,_,hp⟩:=El hu hb h4
 cases e1
 unfold World.var? at h3
 rw [hg] at h3
 simp only [Option.bind_some] at h3
 split at h3
 ·rename_i cs' ty fr hh
  cases h3
  have hlt:g' < w.heap.size:=(Array.getElem?_eq_some_iff.1 hh).1
  refine ⟨g',0,rfl,trivial,hlt,fun j hj=>?_⟩
  have hj':parts[j]?=some (parts.getD j .nil):=by
   rw [List.getD_eq_getElem?_getD,List.getElem?_eq_getElem (by omega)];rfl
  obtain ⟨v,hv,h5,h6⟩:=hp j _ hj'
  refine ⟨v,?_,h5,?_⟩
  ·simp only [World.cell?,hh,Nat.zero_add]
   simpa using hv
  ·rw [he j hj];exact h6
 ·cases h3
end Sx
namespace Sx
open Go
def l4 (st el at':UInt8):Bool:=st == 8 && (at' == 2 || at' == 3) || (decide (17≤st) && decide (st≤19)) && (el == 3 || el == 4)
def nameOf (el:UInt8):List UInt8 :=
 if el=1 then [116,101,120,116,97,114,101,97] else if el=2 then [116,105,116,108,101] else if el=3 then [115,99,114,105,112,116] else if el=4 then [115,116,121,108,101] else []
theorem nlt (n:UInt8):(20 < n)→¬ n=0∧¬ n=1∧¬ n=2∧¬ n=3∧¬ n=4∧¬ n=5∧¬ n=6∧¬ n=7∧¬ n=8∧¬ n=9∧¬ n=10∧¬ n=11∧¬ n=12∧¬ n=13∧¬ n=14∧¬ n=15∧¬ n=16∧¬ n=17∧¬ n=18∧¬ n=19:=by
 intro h
 refine ⟨?_,?_,?_,?_,?_,?_,?_,?_,?_,?_,?_,?_,?_,?_,?_,?_,?_,?_,?_,?_⟩ <;> (rintro rfl;revert h;decide)
def cm (su:UInt8) (es script:Bool):Bool:=(script || su != 4) && (!es || su == 1 || su == 2)
def Cx (st:UInt8):Bool:=decide (4≤st) && decide (st≤10)
def zb (st:UInt8):Bool:=decide (17≤st) && decide (st≤19)
def form (c:Ctx):Bool :=
 if decide (20 < c.st) || decide (4 < c.el) || decide (4 < c.at') || decide (5 < c.pa) || decide (6 < c.su) || decide (2 < c.da) then false
 else if (c.el != 0 && !Cx c.st && !zb c.st) || (zb c.st && c.el == 0) then false
 else if c.en && ((c.st != 3 && !Cx c.st) || c.el != 0) then false
 else if c.at' != 0 && c.st != 7 && c.st != 8 then false
 else if c.qu != 0 && (c.st != 8 || (c.qu != 34 && c.qu != 39)) then false
 else if c.pa != 0 && (c.st != 8 || c.at' != 1) then false
 else if c.da != 0 && c.st != 15 then false
 else if (c.su != 0 && !l4 c.st c.el c.at') || (((c.st == 8 && c.at' == 3) || (zb c.st && c.el == 4)) && c.su == 4) then false
 else if c.es && c.su != 1 && c.su != 2 then false
 else if c.st == 3 || c.st == 5 || c.st == 6 then small c.nm 32
 else if c.st == 8 && c.at' == 1 && c.pa == 1 then small c.nm 16
 else if c.st == 19 then pre c.nm (nameOf c.el)
 else c.nm == []
theorem Gs {c:Bool} {a b:Bool}:(if c=true then some (AV.b a) else some (AV.b b))=some (.b (if c=true then a else b)):=by cases c <;> rfl
def nQ (c t:Ctx):Bool :=
 if (c.qu != 0 && c.qu != 34 && c.qu != 39)=true then false
 else if (c.at' == 1)=true then (if (c.pa == 1)=true then bH c ⟨t.st,t.el,t.en,c.at',c.qu,c.pa,t.su,t.es,t.da,c.nm⟩ && small c.nm 16 else bH c ⟨t.st,t.el,t.en,c.at',c.qu,c.pa,t.su,t.es,t.da,t.nm⟩)
 else if (c.at' == 2 || c.at' == 3)=true then bH c ⟨t.st,t.el,t.en,c.at',c.qu,t.pa,c.su,c.es,t.da,t.nm⟩ && cm c.su c.es (c.at' == 2)
 else bH c ⟨t.st,t.el,t.en,c.at',c.qu,t.pa,t.su,t.es,t.da,t.nm⟩
def ze (c:Ctx):Bool :=
 if (decide (20 < c.st) || decide (4 < c.el) || decide (4 < c.at') || decide (5 < c.pa) || decide (6 < c.su) || (c.en && c.el != 0))=true then false
 else if (c.st == 3)=true then bH c ⟨c.st,0,c.en,0,0,0,0,false,0,c.nm⟩ && small c.nm 32
 else if (c.st == 4 || c.st == 9 || c.st == 10)=true then bH c ⟨c.st,c.el,c.en,0,0,0,0,false,0,[]⟩
 else if (c.st == 5 || c.st == 6)=true then bH c ⟨c.st,c.el,c.en,0,0,0,0,false,0,c.nm⟩ && small c.nm 32
 else if (c.st == 7)=true then bH c ⟨c.st,c.el,c.en,c.at',0,0,0,false,0,[]⟩
 else if (c.st == 8)=true then nQ c ⟨c.st,c.el,c.en,0,0,0,0,false,0,[]⟩
 else if (c.st == 15)=true then bH c ⟨c.st,0,false,0,0,0,0,false,c.da,[]⟩ && decide (c.da≤2)
 else if (c.st == 17 || c.st == 18 || c.st == 19)=true then (bH c ⟨c.st,c.el,false,0,0,0,if (c.el == 3 || c.el == 4)=true then c.su else 0,if (c.el == 3 || c.el == 4)=true then c.es else false,0,if (c.st == 19)=true then c.nm else []⟩ && (c.el != 0) && pre c.nm (nameOf c.el) && cm c.su c.es (c.el == 3))
 else bH c ⟨c.st,0,false,0,0,0,0,false,0,[]⟩
theorem Cy (st el:UInt8) (en:Bool) (at' qu pa su:UInt8) (es:Bool) (da:UInt8) (nm:List UInt8):ze ⟨st,el,en,at',qu,pa,su,es,da,nm⟩=form ⟨st,el,en,at',qu,pa,su,es,da,nm⟩:=by
 unfold ze form
 dsimp only
 rcases nP st with h | h | h | h | h | h | h | h | h | h | h | h | h | h | h | h | h | h | h | h | h | h
 all_goals try subst h
 all_goals try simp [Cx,zb,bH,l4,cm,nQ, *]
 all_goals try (grind;done)
 ·rcases fc at' with h | h | h | h | h | h
  all_goals try subst h
  all_goals simp [*]
  all_goals try (grind;done)
 all_goals (have hp:pre [] (nameOf el)=true:=by simp [pre]);cases nm <;> simp [hp] <;> rcases fc el with h | h | h | h | h | h <;> (try subst h) <;> (try simp [*]) <;> (try grind)
def hole (c:Ctx):UInt8 :=
 if c.st == 0 then 1
 else if c.st == 17 then (if c.el == 1 || c.el == 2 then 2 else if (c.su == 1 || c.su == 2) && !c.es && c.el == 3 then 7 else if (c.su == 1 || c.su == 2) && !c.es && c.el == 4 then 9 else 0)
 else if c.st == 8 then
  (if c.qu == 0 then 0 else if c.at' == 0 then 3
  else if c.at' == 1 then (if c.pa == 0 then 4 else if c.pa == 3 then 5 else if c.pa == 4 then 6 else 0)
  else if c.at' == 2 then (if (c.su == 1 || c.su == 2) && !c.es then 8 else 0)
  else if c.at' == 3 then (if (c.su == 1 || c.su == 2) && !c.es then 10 else 0) else 0)
 else 0
def bg:Ctx:=⟨20,0,false,0,0,0,0,false,0,[]⟩
def after (c:Ctx):Ctx:=if hole c == 0 then bg else if hole c == 4 then { c with pa:=2 } else c
def oO (nm:List UInt8):UInt8 :=
 if nm == [116,101,120,116,97,114,101,97] then 1 else if nm == [116,105,116,108,101] then 2 else if nm == [115,99,114,105,112,116] then 3 else if nm == [115,116,121,108,101] then 4 else 0
def urls:List (List UInt8):=[[97,99,116,105,111,110],[98,97,99,107,103,114,111,117,110,100],[99,105,116,101],[100,97,116,97],[102,111,114,109,97,99,116,105,111,110],[104,114,101,102],[108,111,110,103,100,101,115,99],[109,97,110,105,102,101,115,116],[112,111,115,116,101,114],[115,114,99],[120,108,105,110,107,58,104,114,101,102]]
def AK:List (List UInt8):=[[115,114,99,100,111,99],[115,114,99,115,101,116],[105,109,97,103,101,115,114,99,115,101,116],[99,111,110,116,101,110,116],[104,116,116,112,45,101,113,117,105,118]]
def gX (nm:List UInt8):UInt8 :=
 if urls.contains nm then 1 else if nm == [115,116,121,108,101] then 3 else if AK.contains nm then 4 else if decide (2 < nm.length) && pre [111,110] nm then 2 else 0
theorem Em {a b:List UInt8} (h:(a == b)=false):(b == a)=false:=by
 rw [beq_eq_false_iff_ne] at h ⊢;exact fun e=>h e.symm
theorem MI (P:List (List UInt8)) (c:List UInt8) (R:List (List UInt8)):lS ((P ++ c :: R).map AV.s).length (.int (P.length:Int))=some P.length:=eZ (by simp)
theorem Gt (P:List (List UInt8)) (c:List UInt8) (R:List (List UInt8)):((P ++ c :: R).map AV.s).getD P.length .un=.s c:=by simp
def Ctx.ay (c:Ctx):AV:=cx c.st c.el c.en c.at' c.qu c.pa c.su c.es c.da c.nm
theorem aC (st el:UInt8) (en:Bool) (at' qu pa su:UInt8) (es:Bool) (da:UInt8) (nm:List UInt8) :
  (.ag [.u8 st,.u8 el,.b en,.u8 at',.u8 qu,.u8 pa,.u8 su,.b es,.u8 da,.s nm]:AV)=Ctx.ay ⟨st,el,en,at',qu,pa,su,es,da,nm⟩:=rfl
theorem aJ (d:Ctx):(⟨d.st,d.el,d.en,d.at',d.qu,d.pa,d.su,d.es,d.da,d.nm⟩:Ctx)=d:=rfl
theorem ax (d:Ctx):AV.aI 10 d.ay=some [.u8 d.st,.u8 d.el,.b d.en,.u8 d.at',.u8 d.qu,.u8 d.pa,.u8 d.su,.b d.es,.u8 d.da,.s d.nm]:=rfl
theorem Kr (a b:Ctx):fM [.i,.i,.b,.i,.i,.i,.i,.b,.i,.s] .eql a.ay b.ay=some (.b (decide (a=b))):=by
 obtain ⟨⟩:=a;obtain ⟨⟩:=b
 rw [← sw]
 exact Gq ..
theorem qM (a b:Ctx):fM [.i,.i,.b,.i,.i,.i,.i,.b,.i,.s] .neq a.ay b.ay=some (.b (!decide (a=b))):=by
 obtain ⟨⟩:=a;obtain ⟨⟩:=b
 rw [← sw]
 exact yV ..
theorem aT (p:Prop) [Decidable p] (a b:Ctx):some (Ctx.ay (if p then a else b))=if p then some a.ay else some b.ay:=by split <;> rfl
def tv (p:Ctx×Bool):AV:=.tu [p.1.ay,.b p.2]
theorem Gu (c:Ctx) (b:Bool):(.tu [c.ay,.b b]:AV)=tv (c,b):=rfl
theorem wC (p:Prop) [Decidable p] (a b:Ctx×Bool):some (tv (if p then a else b))=if p then some (tv a) else some (tv b):=by split <;> rfl
theorem Kt (p:Ctx×Bool):aV (tv p) 0=some p.1.ay:=rfl
theorem Ku (p:Ctx×Bool):aV (tv p) 1=some (.b p.2):=rfl
def ti (p:Ctx×Int):AV:=.tu [p.1.ay,.int p.2]
theorem Cz (c:Ctx) (n:Int):(.tu [c.ay,.int n]:AV)=ti (c,n):=rfl
theorem Kv (p:Ctx×Int):aV (ti p) 0=some p.1.ay:=rfl
theorem Kw (p:Ctx×Int):aV (ti p) 1=some (.int p.2):=rfl
theorem iI (x:UInt8):B2 (.ro 1 [.u8 x])=some (.s [x]):=Ou (l:=[x]) (by show 1≤big;decide)
theorem Ky {a:AV} (h:sr true [.u8,.u8,.b,.u8,.u8,.u8,.u8,.b,.u8,.s] a):∃ c:Ctx,a=c.ay∧c.nm.length < 9223372036854775808:=by
 obtain ⟨c,rfl,hc⟩:=Ox h
 exact ⟨c,rfl,Nat.lt_of_le_of_lt hc (by decide)⟩
theorem kG {p q:List UInt8} (h:p.length+q.length≤1000000):cy .add (.s p) (.s q)=some (.s (p ++ q)):=RF (Nat.le_trans h (by decide))
end Sx
namespace Sx
open Go
def bm (b:UInt8):Bool:=b == 32 || b == 9 || b == 10 || b == 12 || b == 13
def letter (b:UInt8):Bool:=decide (97≤b) && decide (b≤122) || decide (65≤b) && decide (b≤90)
def eR (b:UInt8):UInt8:=if decide (65≤b) && decide (b≤90) then b+32 else b
def bG (s:UInt8):Ctx:=⟨s,0,false,0,0,0,0,false,0,[]⟩
def opened (b:UInt8):Ctx×Bool :=
 if letter b then (⟨3,0,false,0,0,0,0,false,0,[eR b]⟩,true) else if b == 47 then (bG 2,true) else if b == 33 then (bG 11,true) else if b == 63 then (bG 16,true) else (bG 0,false)
def closed (b:UInt8):Ctx:=if letter b then ⟨3,0,true,0,0,0,0,false,0,[eR b]⟩ else if b == 62 then bG 0 else bG 16
def iV (el:UInt8):Ctx:=if el != 0 then ⟨17,el,false,0,0,0,0,false,0,[]⟩ else bG 0
def grown (c:Ctx) (b:UInt8):Ctx:=if decide (32≤c.nm.length) then bg else { c with nm:=c.nm ++ [eR b] }
def within (c:Ctx) (s:UInt8):Ctx:=⟨s,c.el,c.en,0,0,0,0,false,0,[]⟩
def ends (c:Ctx):Bool:=c.su == 0 || c.su == 4
def dv (c:Ctx) (b:UInt8):Ctx×Bool :=
 if bm b then (c,false) else if b == 62 then (bg,false) else if b == 34 || b == 39 then ({ c with st:=8,qu:=b },false) else ({ c with st:=8 },true)
def named (c:Ctx) (b:UInt8):Ctx×Bool :=
 if b == 61 && c.nm != [] then ({ within c 7 with at':=gX c.nm },false) else if b == 47 || b == 62 then (within c 9,true) else if bm b then ({ c with st:=6 },false)
 else if c.st == 6 then (within c 4,true) else if b == 34 || b == 39 || b == 60 then (bg,false) else (grown c b,false)
def tag (c:Ctx) (b:UInt8):Ctx×Bool :=
 if c.st == 3 then (if !bm b && b != 47 && b != 62 then (grown c b,false) else if !c.en then (within { c with el:=oO c.nm } 9,true) else (within c 9,true))
 else if c.st == 9 then (if bm b then (within c 4,false) else if b == 47 then (within c 10,false) else if b == 62 then (iV c.el,false) else (bg,false))
 else if c.st == 10 then (if b == 62 then (iV c.el,false) else (within c 4,true))
 else if c.st == 4 then (if bm b then (c,false) else if b == 47 || b == 62 then (within c 9,true) else if b == 61 then (bg,false) else ({ c with st:=5 },true))
 else if c.st == 7 then dv c b else named c b
def text (c:Ctx) (b:UInt8):Ctx :=
 if c.es then { c with es:=false } else if b == 92 then { c with es:=true } else if b == 10 || b == 13 then bg else if b == 34 && c.su == 1 || b == 39 && c.su == 2 then { c with su:=0 } else c
def gY (c:Ctx) (b:UInt8) (script:Bool):Ctx :=
 if b == 34 then { c with su:=1 } else if b == 39 then { c with su:=2 } else if b == 47 then { c with su:=3 } else if script && b == 96 then bg else if !script && (b == 40 || b == 92) then bg else c
def code (c:Ctx) (b:UInt8) (script:Bool):Ctx :=
 if c.su == 0 then gY c b script
 else if c.su == 3 then (if b == 42 then { c with su:=5 } else if script && b == 47 then { c with su:=4 } else if script then bg else gY { c with su:=0 } b script)
 else if c.su == 1 then text c b else if c.su == 2 then text c b
 else if c.su == 4 then (if b == 10 || b == 13 then { c with su:=0 } else c)
 else if c.su == 5 then (if b == 42 then { c with su:=6 } else c)
 else if c.su == 6 then (if b == 47 then { c with su:=0 } else if b == 42 then c else { c with su:=5 }) else c
def zf (l:List UInt8):Bool:=l == [104,116,116,112] || l == [104,116,116,112,115] || l == [109,97,105,108,116,111]
def url (c:Ctx) (b:UInt8):Ctx :=
 if c.pa == 4 || c.pa == 5 then { c with nm:=[] } else if b == 38 then bg else if b == 63 || b == 35 then { c with pa:=4,nm:=[] } else if c.pa == 3 then { c with nm:=[] } else if b == 47 then { c with pa:=3,nm:=[] }
 else if b == 58 && c.pa == 2 then bg else if b == 58 then (if zf c.nm then { c with pa:=3,nm:=[] } else { c with pa:=5,nm:=[] }) else if c.pa == 2 then { c with nm:=[] }
 else if decide (16≤c.nm.length) then { c with pa:=1 } else { c with pa:=1,nm:=c.nm ++ [eR b] }
def sx (b:UInt8):Bool:=b == 34 || b == 39 || b == 60 || b == 61 || b == 96
def value (c:Ctx) (b:UInt8):Ctx :=
 if (!(c.qu == 0) && b == c.qu) || (c.qu == 0 && (bm b || b == 62)) then (if !ends c then bg else if !(c.qu == 0) then within c 9 else if b == 62 then iV c.el else within c 4)
 else if c.qu == 0 && sx b then bg else if c.at' == 1 then url c b else if c.at' == 2 || c.at' == 3 then (if b == 38 then bg else code c b (c.at' == 2)) else c
def l5 (c:Ctx):List UInt8→Ctx
 | []=>c
 | b :: r=>if (code c b (c.el == 3)).st == 20 then bg else l5 (code c b (c.el == 3)) r
def mM (c:Ctx) (s:List UInt8) (feed:Bool):Ctx :=
 if !feed || !l4 17 c.el c.at' then { c with st:=17,nm:=[] } else l5 { c with st:=17,nm:=[] } s
def qC (c:Ctx) (b:UInt8) (feed:Bool):Ctx :=
 if c.st == 20 then bg else if (mM c [b] feed).st == 17 && b == 60 then { mM c [b] feed with st:=18 } else mM c [b] feed
def raw (c:Ctx) (b:UInt8) (feed:Bool):Ctx :=
 if c.st == 18 && b == 47 then { c with st:=19 }
 else if c.st == 18 && b == 33 && c.el == 3 then bg
 else if c.st == 19 && c.nm == nameOf c.el && (bm b || b == 47 || b == 62) then (if !ends c then bg else (tag ⟨9,0,true,0,0,0,0,false,0,[]⟩ b).1)
 else if c.st == 19 && pre (c.nm ++ [eR b]) (nameOf c.el) then { c with nm:=c.nm ++ [eR b] }
 else if c.st == 19 then qC (mM c (47 :: c.nm) feed) b feed else qC c b feed
def note (c:Ctx) (b:UInt8):Ctx :=
 if c.st == 11 || c.st == 12 then (if b == 62 then bG 0 else if b == 45 && c.st == 11 then bG 12 else if b == 45 then bG 13 else bG 16)
 else if c.st == 13 || c.st == 14 then (if b == 62 then bg else if b == 45 && c.st == 13 then bG 14 else if b == 45 then ⟨15,0,false,0,0,0,0,false,2,[]⟩ else bG 15)
 else if c.st == 15 then (if b == 62 && c.da == 2 then bG 0 else if b == 33 && c.da == 2 then bg else if b == 45 then ⟨15,0,false,0,0,0,0,false,(if decide (2 < c.da+1) then 2 else c.da+1),[]⟩ else bG 15)
 else if c.st == 16 then (if b == 62 then bG 0 else c) else c
def QI (s:UInt8):Bool:=s == 3 || s == 4 || s == 5 || s == 6 || s == 7 || s == 9 || s == 10
def again:Nat→Ctx→UInt8→Bool→Option Ctx
 | 0,_,_,_=>none
 | n+1,c,b,feed =>
  if c.st == 0 then (if b == 60 then some { c with st:=1 } else some c)
  else if c.st == 1 then (if (opened b).2 then some (opened b).1 else again n { c with st:=0 } b feed)
  else if c.st == 2 then some (closed b)
  else if QI c.st then (if (tag c b).2 then again n (tag c b).1 b feed else some (tag c b).1)
  else if c.st == 8 then some (value c b)
  else if c.st == 17 || c.st == 18 || c.st == 19 then some (raw c b feed)
  else some (note c b)
end Sx
namespace Sx
theorem Gv (c:Ctx) (b:UInt8) (h:(named c b).2=true):(named c b).1.nm.length≤c.nm.length:=by
 unfold named at *
 cases h1:(b == 61 && c.nm != []) <;> cases h2:(b == 47 || b == 62) <;> cases h3:bm b <;> cases h4:(c.st == 6) <;> cases h5:(b == 34 || b == 39 || b == 60) <;> rw [h1,h2,h3,h4,h5] at h <;> first | (cases h;done) | exact Nat.zero_le _
theorem Gw (c:Ctx) (b:UInt8) (h:(dv c b).2=true):(dv c b).1.nm.length≤c.nm.length:=by
 unfold dv at *
 cases h3:bm b <;> cases h4:(b == 62) <;> cases h5:(b == 34 || b == 39) <;> rw [h3,h4,h5] at h <;> first | (cases h;done) | exact Nat.le_refl _
theorem OA (c:Ctx) (b:UInt8) (h:(tag c b).2=true):(tag c b).1.nm.length≤c.nm.length:=by
 unfold tag at *
 cases h3:(c.st == 3) with
 | true =>
  rw [h3] at h
  cases h1:(!bm b && b != 47 && b != 62) <;> cases h2:c.en <;> rw [h1,h2] at h <;> first | (cases h;done) | exact Nat.zero_le _
 | false =>
 cases h9:(c.st == 9) with
 | true =>
  rw [h3,h9] at h
  cases h1:bm b <;> cases h2:(b == 47) <;> cases h4:(b == 62) <;> rw [h1,h2,h4] at h <;> cases h
 | false =>
 cases h10:(c.st == 10) with
 | true =>
  rw [h3,h9,h10] at h
  cases h1:(b == 62) <;> rw [h1] at h <;> first | (cases h;done) | exact Nat.zero_le _
 | false =>
 cases h4:(c.st == 4) with
 | true =>
  rw [h3,h9,h10,h4] at h
  cases h1:bm b <;> cases h2:(b == 47 || b == 62) <;> cases h5:(b == 61) <;> rw [h1,h2,h5] at h <;> first | (cases h;done) | exact Nat.zero_le _ | exact Nat.le_refl _
 | false =>
 cases h7:(c.st == 7) with
 | true =>
  rw [h3,h9,h10,h4,h7] at h
  exact Gw c b h
 | false =>
  rw [h3,h9,h10,h4,h7] at h
  exact Gv c b h
end Sx
namespace Sx
open Go
def oP (s:UInt8):Nat:=if s == 1 || s == 3 || s == 5 || s == 7 then 2 else if s == 4 then 3 else if s == 6 || s == 10 then 4 else 1
theorem AL (c:Ctx) (b:UInt8) (h:(dv c b).2=true):oP (dv c b).1.st=1:=by
 unfold dv at *
 cases h3:bm b <;> cases h4:(b == 62) <;> cases h5:(b == 34 || b == 39) <;> rw [h3,h4,h5] at h <;> first | (cases h;done) | rfl
theorem AO (c:Ctx) (b:UInt8) (h:(named c b).2=true):oP (named c b).1.st=1∨(c.st == 6)=true∧oP (named c b).1.st=3:=by
 unfold named at *
 cases h1:(b == 61 && c.nm != []) <;> cases h2:(b == 47 || b == 62) <;> cases h3:bm b <;> cases h4:(c.st == 6) <;> cases h5:(b == 34 || b == 39 || b == 60) <;> rw [h1,h2,h3,h4,h5] at h <;> first | (cases h;done) | exact .inl rfl | exact .inr ⟨rfl,rfl⟩
theorem Gx (c:Ctx) (b:UInt8) (hT:QI c.st=true) (h:(tag c b).2=true):oP (tag c b).1.st < oP c.st:=by
 unfold tag at *
 cases h3:(c.st == 3) with
 | true =>
  rw [h3] at h
  rw [eq_of_beq h3]
  cases h1:(!bm b && b != 47 && b != 62) <;> cases h2:c.en <;> rw [h1,h2] at h <;> first | (cases h;done) | (show 1 < 2;omega)
 | false =>
 cases h9:(c.st == 9) with
 | true =>
  rw [h3,h9] at h
  cases h1:bm b <;> cases h2:(b == 47) <;> cases h4:(b == 62) <;> rw [h1,h2,h4] at h <;> cases h
 | false =>
 cases h10:(c.st == 10) with
 | true =>
  rw [h3,h9,h10] at h
  rw [eq_of_beq h10]
  cases h1:(b == 62) <;> rw [h1] at h <;> first | (cases h;done) | (show 3 < 4;omega)
 | false =>
 cases h4:(c.st == 4) with
 | true =>
  rw [h3,h9,h10,h4] at h
  rw [eq_of_beq h4]
  cases h1:bm b <;> cases h2:(b == 47 || b == 62) <;> cases h5:(b == 61) <;> rw [h1,h2,h5] at h <;> first | (cases h;done) | (show 1 < 3;omega) | (show 2 < 3;omega)
 | false =>
 cases h7:(c.st == 7) with
 | true =>
  rw [h3,h9,h10,h4,h7] at h
  have:=AL c b h
  show oP (dv c b).1.st < oP c.st
  rw [this,eq_of_beq h7];show 1 < 2;omega
 | false =>
  rw [h3,h9,h10,h4,h7] at h
  show oP (named c b).1.st < oP c.st
  have OB:(c.st == 5)=true∨(c.st == 6)=true:=by
   unfold QI at hT
   rw [h3,h4,h7,h9,h10] at hT
   simpa using hT
  rcases AO c b h with e | ⟨h6,e⟩
  ·rw [e]
   rcases OB with h | h <;> rw [eq_of_beq h]
   ·show 1 < 2;omega
   ·show 1 < 4;omega
  ·rw [e,eq_of_beq h6];show 3 < 4;omega
theorem mN (b:UInt8) (feed:Bool):∀ (n:Nat) (c:Ctx),oP c.st≤n→∃ d,again n c b feed=some d
 | 0,c,h=>by
  unfold oP at h
  repeat' split at h
  all_goals omega
 | n+1,c,h=>by
  unfold again
  split
  ·split <;> exact ⟨_,rfl⟩
  ·split
   ·rename_i h1
    split
    ·exact ⟨_,rfl⟩
    ·refine mN b feed n _ ?_
     rw [eq_of_beq h1] at h
     have h':2≤n+1:=h
     show 1≤n;omega
   ·split
    ·exact ⟨_,rfl⟩
    ·split
     ·rename_i hT
      split
      ·rename_i h4
       refine mN b feed n _ ?_
       have:=Gx c b hT h4
       omega
      ·exact ⟨_,rfl⟩
     ·split
      ·exact ⟨_,rfl⟩
      ·split <;> exact ⟨_,rfl⟩
theorem Kz (s:UInt8):oP s≤4:=by
 unfold oP
 repeat' split
 all_goals omega
def mv (c:Ctx) (b:UInt8) (feed:Bool):Ctx:=if form c then (again 4 c b feed).getD bg else bg
theorem wD (c:Ctx) (b:UInt8) (feed:Bool) (h:form c=true):again 4 c b feed=some (mv c b feed):=by
 obtain ⟨d,hd⟩:=mN b feed 4 c (Kz c.st)
 unfold mv
 rw [h,hd];rfl
theorem AP (c:Ctx) (b:UInt8) (feed:Bool) (h:form c=false):mv c b feed=bg:=by
 unfold mv
 rw [h];rfl
def jX (c:Ctx) (b:UInt8):Ctx:=mv c b true
theorem dP {p:Prop} [Decidable p] {q:Bool} (h:(if p then false else q)=true):¬ p∧q=true:=by
 split at h
 ·cases h
 ·rename_i hp;exact ⟨hp,h⟩
theorem uO (c:Ctx) (h:form c=true):(if c.st == 3 || c.st == 5 || c.st == 6 then small c.nm 32 else if c.st == 8 && c.at' == 1 && c.pa == 1 then small c.nm 16 else if c.st == 19 then pre c.nm (nameOf c.el) else c.nm == [])=true:=by
 unfold form at h
 exact (dP (dP (dP (dP (dP (dP (dP (dP (dP h).2).2).2).2).2).2).2).2).2
theorem OC {p l:List UInt8} (h:pre p l=true):p.length≤l.length:=by
 simp only [pre,Bool.and_eq_true,decide_eq_true_eq] at h
 exact h.1
theorem En (el:UInt8):(nameOf el).length≤8:=of_decide_eq_true (fD (p:=fun el=>decide ((nameOf el).length≤8)) (by kernel_rfl) el)
theorem oQ {l:List UInt8} {n:Int} (h:small l n=true):1≤l.length∧(l.length:Int)≤n:=by
 simp only [small,Bool.and_eq_true,decide_eq_true_eq] at h
 exact h.2
theorem wE (c:Ctx) (h:form c=true):c.nm.length≤32:=by
 have h:=uO c h
 split at h
 ·have:=oQ h;omega
 ·split at h
  ·have:=oQ h;omega
  ·split at h
   ·have:=OC h;have:=En c.el;omega
   ·rw [eq_of_beq h];simp
end Sx
namespace Sx
open Go
def kH (c:Ctx) (b:UInt8) (script:Bool):Ctx :=
 if script && b == 96 || !script && (b == 40 || b == 92) then bg else if b == 34 then (if b == 39 then (if b == 47 then { c with su:=3 } else { c with su:=2 }) else if b == 47 then { c with su:=3 } else { c with su:=1 })
 else if b == 39 then (if b == 47 then { c with su:=3 } else { c with su:=2 }) else if b == 47 then { c with su:=3 } else c
theorem Eo (c:Ctx) (b:UInt8) (script:Bool):kH c b script=gY c b script:=by
 unfold kH gY
 cases Ux:(b == 34) with
 | true=>rw [eq_of_beq Ux];cases script <;> rfl
 | false =>
 cases h39:(b == 39) with
 | true=>rw [eq_of_beq h39];cases script <;> rfl
 | false =>
 cases AQ:(b == 47) with
 | true=>rw [eq_of_beq AQ];cases script <;> rfl
 | false=>cases script <;> cases (b == 96) <;> cases (b == 40) <;> cases (b == 92) <;> rfl
def uP (c:Ctx) (b:UInt8):Ctx :=
 if c.es then { c with es:=false } else if b == 92 then (if b == 10 || b == 13 then bg else if c.su == 1 && b == 34 || c.su == 2 && b == 39 then { c with es:=true,su:=0 } else { c with es:=true })
 else if b == 10 || b == 13 then bg else if c.su == 1 && b == 34 || c.su == 2 && b == 39 then { c with su:=0 } else c
theorem Gy (c:Ctx) (b:UInt8):uP c b=text c b:=by
 unfold uP text
 cases h92:(b == 92) with
 | true=>rw [eq_of_beq h92];cases c.es <;> cases (c.su == 1) <;> cases (c.su == 2) <;> rfl
 | false=>cases c.es <;> cases (b == 10) <;> cases (b == 13) <;> cases (c.su == 1) <;> cases (c.su == 2) <;> cases (b == 34) <;> cases (b == 39) <;> rfl
def jY (c:Ctx) (b:UInt8) (script:Bool):Ctx :=
 if c.su == 0 then kH c b script else if c.su == 1 then uP c b else if c.su == 2 then uP c b
 else if c.su == 3 then (if b == 42 then { c with su:=5 } else if script && b == 47 then { c with su:=4 } else if script then bg else kH { c with su:=0 } b script)
 else if c.su == 4 then (if b == 10 || b == 13 then { c with su:=0 } else c)
 else if c.su == 5 then (if b == 42 then { c with su:=6 } else c)
 else if c.su == 6 then (if b == 47 then { c with su:=0 } else if b != 42 then { c with su:=5 } else c) else c
theorem sy (c:Ctx) (b:UInt8) (script:Bool):jY c b script=code c b script:=by
 unfold jY code
 simp only [Eo,Gy]
 cases h3:(c.su == 3) with
 | true=>rw [eq_of_beq h3];rfl
 | false =>
  have:(if (b != 42)=true then { c with su:=5 } else c:Ctx)=if (b == 42)=true then c else { c with su:=5 }:=by
   unfold bne;cases (b == 42) <;> rfl
  rw [this]
  rfl
def wF (c:Ctx) (b:UInt8):Ctx :=
 if decide (4≤c.pa) then c else if b == 38 then bg else if b == 63 || b == 35 then { c with pa:=4,nm:=[] } else if c.pa == 3 then c else if b == 47 then { c with pa:=3,nm:=[] }
 else if b == 58 then (if c.pa == 2 then bg else if zf c.nm then { c with pa:=3,nm:=[] } else { c with pa:=5,nm:=[] }) else if c.pa == 2 then c
 else if decide (c.nm.length < 16) then { c with pa:=1,nm:=c.nm ++ [eR b] } else { c with pa:=1 }
theorem KA (c:Ctx) (b:UInt8) (hp:c.pa≤5) (h:c.pa≠1→c.nm=[]):wF c b=url c b:=by
 obtain ⟨st,el,en,at',qu,pa,su,es,da,nm⟩:=c
 simp only at hp h
 unfold wF url
 simp only
 rcases yX pa with e | e | e | e | e | e | e
 ·subst e;have:=h (by decide);subst this;cases (b == 38) <;> cases (b == 63 || b == 35) <;> cases (b == 47) <;> cases (b == 58) <;> rfl
 ·subst e
  have e1:decide (nm.length < 16)=!decide (16≤nm.length):=by rw [← decide_not,decide_eq_decide];omega
  rw [e1]
  cases (b == 38) <;> cases (b == 63 || b == 35) <;> cases (b == 47) <;> cases (b == 58) <;> cases zf nm <;> cases decide (16≤nm.length) <;> rfl
 ·subst e;have:=h (by decide);subst this;cases (b == 38) <;> cases (b == 63 || b == 35) <;> cases (b == 47) <;> cases (b == 58) <;> rfl
 ·subst e;have:=h (by decide);subst this;cases (b == 38) <;> cases (b == 63 || b == 35) <;> rfl
 ·subst e;have:=h (by decide);subst this;rfl
 ·subst e;have:=h (by decide);subst this;rfl
 ·rw [UInt8.le_iff_toNat_le] at hp;rw [UInt8.lt_iff_toNat_lt] at e;omega
def rvalue (c:Ctx) (b:UInt8):Ctx :=
 if c.qu != 0 && b == c.qu then (if !(c.su == 0 || c.su == 4) then bg else within c 9)
 else if c.qu == 0 then (if bm b || b == 62 then (if !(c.su == 0 || c.su == 4) then bg else if b == 62 then iV c.el else within c 4) else if sx b then bg else
  (if c.at' == 1 then wF c b else if c.at' == 2 then (if b == 38 then bg else jY c b (c.at' == 2)) else if c.at' == 3 then (if b == 38 then bg else jY c b (c.at' == 2)) else c))
 else (if c.at' == 1 then wF c b else if c.at' == 2 then (if b == 38 then bg else jY c b (c.at' == 2)) else if c.at' == 3 then (if b == 38 then bg else jY c b (c.at' == 2)) else c)
theorem Ep (c:Ctx) (b:UInt8) (h:(c.at' == 1)=true→wF c b=url c b):rvalue c b=value c b:=by
 have hc:(if c.at' == 1 then wF c b else if c.at' == 2 then (if b == 38 then bg else jY c b (c.at' == 2)) else if c.at' == 3 then (if b == 38 then bg else jY c b (c.at' == 2)) else c:Ctx) =
   if c.at' == 1 then url c b else if c.at' == 2 || c.at' == 3 then (if b == 38 then bg else code c b (c.at' == 2)) else c:=by
  simp only [sy]
  cases h1:(c.at' == 1) with
  | true=>rw [if_pos rfl,if_pos rfl,h h1]
  | false=>cases (c.at' == 2) <;> cases (c.at' == 3) <;> rfl
 unfold rvalue value ends
 rw [hc]
 unfold bne
 cases (c.qu == 0) <;> cases (b == c.qu) <;> cases (bm b || b == 62) <;> cases (sx b) <;> rfl
def zg (c:Ctx) (b:UInt8):Ctx :=
 if c.st == 11 || c.st == 12 then (if b == 62 then bG 0 else if b == 45 then (if c.st == 11 then bG 12 else bG 13) else bG 16)
 else if c.st == 13 || c.st == 14 then (if b == 62 then bg else if b != 45 then bG 15 else if c.st == 13 then bG 14 else ⟨15,0,false,0,0,0,0,false,2,[]⟩)
 else if c.st == 15 then (if b == 45 then (if decide (c.da < 2) then { c with da:=c.da+1 } else c) else if c.da == 2 && b == 62 then bG 0 else if c.da == 2 && b == 33 then bg else bG 15)
 else if c.st == 16 then (if b == 62 then bG 0 else c) else c
theorem gZ (c:Ctx) (b:UInt8) (h:(c.st == 15)=true→c=⟨15,0,false,0,0,0,0,false,c.da,[]⟩∧c.da≤2):zg c b=note c b:=by
 unfold zg note
 cases Uy:(c.st == 15) with
 | true =>
  obtain ⟨hc,hd⟩:=h Uy
  rw [eq_of_beq Uy]
  have hx:((15:UInt8) == 11 || (15:UInt8) == 12)=false:=rfl
  have hy:((15:UInt8) == 13 || (15:UInt8) == 14)=false:=rfl
  rw [hx,hy]
  simp only [Bool.false_eq_true,if_false,if_true]
  cases h45:(b == 45) with
  | true =>
   rw [eq_of_beq h45]
   have:c.da=0∨c.da=1∨c.da=2:=by
    have:=fD (p:=fun d=>!decide (d≤2) || (d == 0 || (d == 1 || d == 2))) (by kernel_rfl) c.da
    simp only [Bool.or_eq_true,Bool.not_eq_true',decide_eq_false_iff_not,beq_iff_eq] at this
    rcases this with h | h
    ·exact absurd hd h
    ·exact h
   rw [hc]
   rcases this with e | e | e <;> rw [e] <;> rfl
  | false=>cases (c.da == 2) <;> cases Ji:(b == 62) <;> cases Yy:(b == 33) <;> first | rfl | (rw [eq_of_beq Ji] at Yy;cases Yy)
 | false =>
  unfold bne
  cases h11:(c.st == 11) <;> cases (c.st == 12) <;> cases (c.st == 13) <;> cases (c.st == 14) <;> cases (c.st == 16) <;> cases (b == 62) <;> cases (b == 45) <;> rfl
theorem hZ (c:Ctx) (h:form c=true):ze c=true:=by
 obtain ⟨⟩:=c
 rw [Cy];exact h
theorem eN (c:Ctx) (h:form c=true):(if (c.st == 3)=true then bH c ⟨c.st,0,c.en,0,0,0,0,false,0,c.nm⟩ && small c.nm 32
 else if (c.st == 4 || c.st == 9 || c.st == 10)=true then bH c ⟨c.st,c.el,c.en,0,0,0,0,false,0,[]⟩
 else if (c.st == 5 || c.st == 6)=true then bH c ⟨c.st,c.el,c.en,0,0,0,0,false,0,c.nm⟩ && small c.nm 32
 else if (c.st == 7)=true then bH c ⟨c.st,c.el,c.en,c.at',0,0,0,false,0,[]⟩
 else if (c.st == 8)=true then nQ c ⟨c.st,c.el,c.en,0,0,0,0,false,0,[]⟩
 else if (c.st == 15)=true then bH c ⟨c.st,0,false,0,0,0,0,false,c.da,[]⟩ && decide (c.da≤2)
 else if (c.st == 17 || c.st == 18 || c.st == 19)=true then (bH c ⟨c.st,c.el,false,0,0,0,if (c.el == 3 || c.el == 4)=true then c.su else 0,if (c.el == 3 || c.el == 4)=true then c.es else false,0,if (c.st == 19)=true then c.nm else []⟩ && (c.el != 0) && pre c.nm (nameOf c.el) && cm c.su c.es (c.el == 3))
 else bH c ⟨c.st,0,false,0,0,0,0,false,0,[]⟩)=true:=(dP (hZ c h)).2
theorem fe {a b:Ctx} (h:bH a b=true):a=b:=by rw [sw] at h;exact of_decide_eq_true h
theorem lx (c:Ctx) (h:form c=true) (hs:c.st=0∨c.st=1∨c.st=2∨c.st=11∨c.st=12∨c.st=13∨c.st=14∨c.st=16∨c.st=20):c=bG c.st:=by
 have t:=eN c h
 rcases hs with e | e | e | e | e | e | e | e | e <;> rw [e] at t <;> have:=fe t <;> rw [e] <;> exact this
theorem zh (c:Ctx) (h:form c=true) (e:c.st=3):c=⟨3,0,c.en,0,0,0,0,false,0,c.nm⟩∧small c.nm 32=true:=by
 have t:=eN c h
 rw [e] at t
 have t:(bH c ⟨3,0,c.en,0,0,0,0,false,0,c.nm⟩ && small c.nm 32)=true:=t
 rw [Bool.and_eq_true] at t
 exact ⟨fe t.1,t.2⟩
theorem zi (c:Ctx) (h:form c=true) (e:c.st=4∨c.st=9∨c.st=10):c=within c c.st:=by
 have t:=eN c h
 rcases e with e | e | e <;> rw [e] at t <;> have:=fe t <;> rw [e] <;> exact this
theorem zj (c:Ctx) (h:form c=true) (e:c.st=5∨c.st=6):c={ within c c.st with nm:=c.nm }∧small c.nm 32=true:=by
 have t:=eN c h
 rcases e with e | e <;> rw [e] at t <;> (have t:=Bool.and_eq_true_iff.1 t) <;> rw [e] <;> exact ⟨fe t.1,t.2⟩
theorem zk (c:Ctx) (h:form c=true) (e:c.st=7):c={ within c 7 with at':=c.at' }:=by
 have t:=eN c h
 rw [e] at t
 exact fe t
theorem Gz (c:Ctx) (h:form c=true) (e:c.st=8):nQ c ⟨8,c.el,c.en,0,0,0,0,false,0,[]⟩=true:=by
 have t:=eN c h
 rw [e] at t
 exact t
theorem uQ (c:Ctx) (h:form c=true) (e:c.st=15):c=⟨15,0,false,0,0,0,0,false,c.da,[]⟩∧c.da≤2:=by
 have t:=eN c h
 rw [e] at t
 have t:(bH c ⟨15,0,false,0,0,0,0,false,c.da,[]⟩ && decide (c.da≤2))=true:=t
 rw [Bool.and_eq_true] at t
 exact ⟨fe t.1,of_decide_eq_true t.2⟩
theorem CA (c:Ctx) (h:form c=true):c.pa≤5:=by
 have t:=(dP (hZ c h)).1
 simp only [Bool.or_eq_true,decide_eq_true_eq] at t
 rw [UInt8.le_iff_toNat_le]
 have:¬ 5 < c.pa:=fun hh=>t (.inl (.inl (.inr hh)))
 rw [UInt8.lt_iff_toNat_lt] at this
 omega
theorem GA (c:Ctx) (h:form c=true) (e:c.st=8):c.pa≠1→c.nm=[]:=by
 intro hp
 have t:=uO c h
 rw [e] at t
 have h1:(c.pa == 1)=false:=by simpa using hp
 rw [h1,Bool.and_false] at t
 simpa using t
end Sx
namespace Sx
theorem CB (nm:List UInt8):oO nm≤4:=by
 unfold oO
 repeat' split
 all_goals decide
theorem ly (s el:UInt8) (en:Bool) (hs:s=4∨s=9∨s=10):form ⟨s,el,en,0,0,0,0,false,0,[]⟩=(decide (el≤4) && !(en && el != 0)):=by
 rcases fc el with h | h | h | h | h | h
 ·subst h;cases en <;> rcases hs with e | e | e <;> subst e <;> rfl
 ·subst h;cases en <;> rcases hs with e | e | e <;> subst e <;> rfl
 ·subst h;cases en <;> rcases hs with e | e | e <;> subst e <;> rfl
 ·subst h;cases en <;> rcases hs with e | e | e <;> subst e <;> rfl
 ·subst h;cases en <;> rcases hs with e | e | e <;> subst e <;> rfl
 ·have h1:decide (el≤4)=false:=by rw [decide_eq_false_iff_not,UInt8.le_iff_toNat_le];rw [UInt8.lt_iff_toNat_lt] at h;omega
  rw [h1,Bool.false_and]
  unfold form
  have:decide (4 < el)=true:=decide_eq_true h
  simp only [this,Bool.or_true,Bool.true_or,if_true]
theorem iJ (c:Ctx) (h:form c=true):c.el≤4∧(c.en && c.el != 0)=false:=by
 have t:=(dP (hZ c h)).1
 simp only [Bool.not_eq_true,Bool.or_eq_false_iff,decide_eq_false_iff_not] at t
 refine ⟨?_,t.2⟩
 have:=t.1.1.1.1.2
 rw [UInt8.lt_iff_toNat_lt] at this
 rw [UInt8.le_iff_toNat_le];omega
theorem bQ (c:Ctx) (h:form c=true) (s:UInt8) (hs:s=4∨s=9∨s=10):form (within c s)=true:=by
 obtain ⟨h1,h2⟩:=iJ c h
 have:=ly s c.el c.en hs
 unfold within
 rw [this,h2,decide_eq_true h1];rfl
theorem qN (c:Ctx) (h:form c=true):c.at'≤4:=by
 have t:=(dP (hZ c h)).1
 simp only [Bool.not_eq_true,Bool.or_eq_false_iff,decide_eq_false_iff_not] at t
 have:=t.1.1.1.2
 rw [UInt8.lt_iff_toNat_lt] at this
 rw [UInt8.le_iff_toNat_le];omega
theorem mO (el at' qu:UInt8) (en:Bool) (h1:el≤4) (h2:(en && el != 0)=false) (h3:at'≤4) (h4:qu=0∨qu=34∨qu=39):form ⟨8,el,en,at',qu,0,0,false,0,[]⟩=true:=by
 have l1:el=0∨el=1∨el=2∨el=3∨el=4:=by
  rcases fc el with h | h | h | h | h | h
  ·exact .inl h
  ·exact .inr (.inl h)
  ·exact .inr (.inr (.inl h))
  ·exact .inr (.inr (.inr (.inl h)))
  ·exact .inr (.inr (.inr (.inr h)))
  ·rw [UInt8.lt_iff_toNat_lt] at h;rw [UInt8.le_iff_toNat_le] at h1;omega
 have l3:at'=0∨at'=1∨at'=2∨at'=3∨at'=4:=by
  rcases fc at' with h | h | h | h | h | h
  ·exact .inl h
  ·exact .inr (.inl h)
  ·exact .inr (.inr (.inl h))
  ·exact .inr (.inr (.inr (.inl h)))
  ·exact .inr (.inr (.inr (.inr h)))
  ·rw [UInt8.lt_iff_toNat_lt] at h;rw [UInt8.le_iff_toNat_le] at h3;omega
 rcases l1 with e | e | e | e | e <;> subst e <;> cases en <;> first | (cases h2;done) | (rcases l3 with e | e | e | e | e <;> subst e <;> rcases h4 with e | e | e <;> subst e <;> rfl)
def Q (c:Ctx) (b:UInt8):Prop:=form c=true∨(c=within c 5∧(b == 61)=false∧(b == 47 || b == 62)=false∧bm b=false)
theorem V2 {c:Ctx} {b:UInt8} (h:Q c b):c.nm.length≤32:=by
 rcases h with h | ⟨h,_⟩
 ·exact wE c h
 ·rw [h];exact Nat.zero_le _
theorem oT (x:UInt8):conv .u8 (.int (x.toNat:Int))=some (.u8 x):=by
 rw [yQ (yP x),UInt8.ofNat_toNat]
theorem Er (el:UInt8):iV el=if el == 0 then bG 0 else ⟨17,el,false,0,0,0,0,false,0,[]⟩:=by
 unfold iV bne
 by_cases h:(el == 0)=true
 ·rw [h];rfl
 ·have:(el == 0)=false:=by simpa using h
  rw [this];rfl
def jF (c:Ctx):List UInt8→Ctx
 | []=>c
 | b :: r=>if (c.el == 3 || c.el == 4) && c.st == 17 then jF (code c b (c.el == 3)) r else c
theorem sA (c:Ctx) (b:UInt8) (s:Bool):gY c b s=bg∨((gY c b s).st=c.st∧(gY c b s).el=c.el):=by
 unfold gY
 repeat' split
 all_goals first | exact .inl rfl | exact .inr ⟨rfl,rfl⟩
theorem Es (c:Ctx) (b:UInt8) (s:Bool):code c b s=bg∨((code c b s).st=c.st∧(code c b s).el=c.el):=by
 unfold code
 split
 ·exact sA c b s
 ·split
  ·repeat' split
   all_goals first | exact .inl rfl | exact .inr ⟨rfl,rfl⟩ | exact sA _ b s
  ·unfold text
   repeat' split
   all_goals first | exact .inl rfl | exact .inr ⟨rfl,rfl⟩
theorem AR (l:List UInt8):jF bg l=bg:=by cases l <;> rfl
theorem uR:∀ (l:List UInt8) (c:Ctx),(c.el == 3 || c.el == 4)=true→(c.st == 17)=true→jF c l=l5 c l
 | [],c,h1,h2=>rfl
 | b :: r,c,h1,h2=>by
  simp only [jF,l5,h1,h2,Bool.and_self,if_true]
  rcases Es c b (c.el == 3) with e | ⟨e1,e2⟩
  ·rw [e];exact AR r
  ·have:((code c b (c.el == 3)).st == 20)=false:=by rw [e1,eq_of_beq h2];rfl
   rw [this,if_neg (by simp)]
   exact uR r _ (by rw [e2];exact h1) (by rw [e1];exact h2)
theorem GC (c:Ctx) (s:List UInt8):jF { c with st:=17,nm:=[] } s=mM c s true:=by
 unfold mM
 have h:l4 17 c.el c.at'=(c.el == 3 || c.el == 4):=by
  unfold l4
  cases (c.el == 3 || c.el == 4) <;> rfl
 rw [h]
 cases he:(c.el == 3 || c.el == 4) with
 | true =>
  rw [if_neg (by simp)]
  exact uR s _ he rfl
 | false =>
  rw [if_pos (by simp)]
  cases s with
  | nil=>rfl
  | cons b r=>simp only [jF,he,Bool.false_and,Bool.false_eq_true,if_false]
theorem AU (c:Ctx) (b:UInt8) (h:c.st=9):(tag c b).2=false:=by
 unfold tag
 rw [h]
 cases bm b <;> cases (b == 47) <;> cases (b == 62) <;> rfl
end Sx
namespace Sx
open Go
def CC (el:UInt8) (en:Bool):Bool:=decide (el≤4) && !(en && el != 0)
theorem GD (c:Ctx) (h:form c=true):CC c.el c.en=true:=by
 obtain ⟨h1,h2⟩:=iJ c h
 unfold CC
 rw [h2,decide_eq_true h1];rfl
theorem oU {el:UInt8} {en:Bool} (h:CC el en=true):(en=true∧el=0)∨(en=false∧(el=0∨el=1∨el=2∨el=3∨el=4)):=by
 unfold CC at h
 rw [Bool.and_eq_true,decide_eq_true_eq] at h
 rcases fc el with e | e | e | e | e | e
 ·cases en
  ·exact .inr ⟨rfl,.inl e⟩
  ·exact .inl ⟨rfl,e⟩
 ·subst e;cases en
  ·exact .inr ⟨rfl,by decide⟩
  ·exact absurd h.2 (by decide)
 ·subst e;cases en
  ·exact .inr ⟨rfl,by decide⟩
  ·exact absurd h.2 (by decide)
 ·subst e;cases en
  ·exact .inr ⟨rfl,by decide⟩
  ·exact absurd h.2 (by decide)
 ·subst e;cases en
  ·exact .inr ⟨rfl,by decide⟩
  ·exact absurd h.2 (by decide)
 ·have:=h.1
  rw [UInt8.le_iff_toNat_le] at this
  rw [UInt8.lt_iff_toNat_lt] at e
  omega
theorem V3 (en:Bool) (nm:List UInt8):form ⟨3,0,en,0,0,0,0,false,0,nm⟩=small nm 32:=by cases en <;> rfl
theorem Yz {el:UInt8} {en:Bool} (h:CC el en=true) (s:UInt8) (hs:s=4∨s=9∨s=10):form ⟨s,el,en,0,0,0,0,false,0,[]⟩=true:=by
 rw [ly s el en hs];exact h
theorem YA {el:UInt8} {en:Bool} (h:CC el en=true) (s:UInt8) (hs:s=5∨s=6) (nm:List UInt8):form ⟨s,el,en,0,0,0,0,false,0,nm⟩=small nm 32:=by
 rcases oU h with ⟨rfl,rfl⟩ | ⟨rfl,e | e | e | e | e⟩ <;> rcases hs with e' | e' <;> subst e' <;> (try subst e) <;> rfl
theorem mk7 {el:UInt8} {en:Bool} (h:CC el en=true) {at':UInt8} (ha:at'=0∨at'=1∨at'=2∨at'=3∨at'=4):form ⟨7,el,en,at',0,0,0,false,0,[]⟩=true:=by
 rcases oU h with ⟨rfl,rfl⟩ | ⟨rfl,e | e | e | e | e⟩ <;> rcases ha with e' | e' | e' | e' | e' <;> subst e' <;> (try subst e) <;> rfl
theorem RN {el:UInt8} {en:Bool} (h:CC el en=true) (at' qu pa su:UInt8) (es:Bool) (nm:List UInt8):form ⟨8,el,en,at',qu,pa,su,es,0,nm⟩=form ⟨8,0,false,at',qu,pa,su,es,0,nm⟩:=by
 rcases oU h with ⟨rfl,rfl⟩ | ⟨rfl,e | e | e | e | e⟩ <;> (try subst e) <;> rfl
theorem OD (qu:UInt8) (hq:qu=0∨qu=34∨qu=39) (pa:UInt8) (hp:pa=0∨pa=1∨pa=2∨pa=3∨pa=4∨pa=5) (nm:List UInt8):form ⟨8,0,false,1,qu,pa,0,false,0,nm⟩=if pa == 1 then small nm 16 else nm == []:=by
 rcases hq with e | e | e <;> subst e <;> rcases hp with e | e | e | e | e | e <;> subst e <;> rfl
theorem KB (qu:UInt8) (hq:qu=0∨qu=34∨qu=39) (at':UInt8) (ha:at'=2∨at'=3) (su:UInt8) (hs:su=0∨su=1∨su=2∨su=3∨su=4∨su=5∨su=6) (es:Bool):form ⟨8,0,false,at',qu,0,su,es,0,[]⟩=cm su es (at' == 2):=by
 rcases hq with e | e | e <;> subst e <;> rcases ha with e | e <;> subst e <;> rcases hs with e | e | e | e | e | e | e <;> subst e <;> cases es <;> rfl
theorem YB (s el:UInt8) (hs:s=17∨s=18) (he:el=1∨el=2):form ⟨s,el,false,0,0,0,0,false,0,[]⟩=true:=by
 rcases hs with e | e <;> subst e <;> rcases he with e | e <;> subst e <;> rfl
theorem RO (s el:UInt8) (hs:s=17∨s=18) (he:el=3∨el=4) (su:UInt8) (hu:su=0∨su=1∨su=2∨su=3∨su=4∨su=5∨su=6) (es:Bool):form ⟨s,el,false,0,0,0,su,es,0,[]⟩=cm su es (el == 3):=by
 rcases hs with e | e <;> subst e <;> rcases he with e | e <;> subst e <;> rcases hu with e | e | e | e | e | e | e <;> subst e <;> cases es <;> rfl
theorem RP (el:UInt8) (he:el=1∨el=2) (nm:List UInt8):form ⟨19,el,false,0,0,0,0,false,0,nm⟩=pre nm (nameOf el):=by
 rcases he with e | e <;> subst e <;> rfl
theorem MJ (el:UInt8) (he:el=3∨el=4) (su:UInt8) (hu:su=0∨su=1∨su=2∨su=3∨su=4∨su=5∨su=6) (es:Bool) (nm:List UInt8):form ⟨19,el,false,0,0,0,su,es,0,nm⟩=(cm su es (el == 3) && pre nm (nameOf el)):=by
 rcases he with e | e <;> subst e <;> rcases hu with e | e | e | e | e | e | e <;> subst e <;> cases es <;> rfl
theorem wG (nm:List UInt8):gX nm=0∨gX nm=1∨gX nm=2∨gX nm=3∨gX nm=4:=by
 unfold gX
 repeat' split
 all_goals simp
theorem GF (b:UInt8):low [eR b]=true:=by
 revert b
 exact fD (by kernel_rfl)
theorem GG {nm:List UInt8} (h:low nm=true) (b:UInt8):low (nm ++ [eR b])=true:=by
 have:=GF b
 unfold low at *
 rw [List.all_append,h,this];rfl
theorem oV {nm:List UInt8} {n:Int} (h:small nm n=true):low nm=true:=by
 unfold small at h
 rw [Bool.and_eq_true] at h
 exact h.1
theorem ia {nm:List UInt8} (h:low nm=true) (b:UInt8) {n:Nat} (hl:nm.length < n):small (nm ++ [eR b]) (n:Int)=true:=by
 unfold small
 rw [GG h b,Bool.true_and,Bool.and_eq_true,decide_eq_true_eq,decide_eq_true_eq]
 simp;omega
theorem kI {el:UInt8} (h:el≤4):form (iV el)=true:=by
 rcases fc el with e | e | e | e | e | e
 ·subst e;rfl
 ·subst e;rfl
 ·subst e;rfl
 ·subst e;rfl
 ·subst e;rfl
 ·rw [UInt8.le_iff_toNat_le] at h;rw [UInt8.lt_iff_toNat_lt] at e;omega
theorem zl (b:UInt8):form (opened b).1=true:=by
 unfold opened
 repeat' split
 all_goals first | rfl | (show form ⟨3,0,false,0,0,0,0,false,0,[eR b]⟩=true;rw [V3];exact ia (nm:=[]) rfl b (n:=32) (by decide))
theorem zm (b:UInt8):form (closed b)=true:=by
 unfold closed
 repeat' split
 all_goals first | rfl | (rw [V3];exact ia (nm:=[]) rfl b (n:=32) (by decide))
theorem MK (c:Ctx) (h:form c=true):c.su=0∨c.su=1∨c.su=2∨c.su=3∨c.su=4∨c.su=5∨c.su=6:=by
 have t:=(dP (hZ c h)).1
 simp only [Bool.not_eq_true,Bool.or_eq_false_iff,decide_eq_false_iff_not] at t
 have:=t.1.2
 rcases Gr c.su with e | e | e | e | e | e | e | e
 ·exact .inl e
 ·exact .inr (.inl e)
 ·exact .inr (.inr (.inl e))
 ·exact .inr (.inr (.inr (.inl e)))
 ·exact .inr (.inr (.inr (.inr (.inl e))))
 ·exact .inr (.inr (.inr (.inr (.inr (.inl e)))))
 ·exact .inr (.inr (.inr (.inr (.inr (.inr e)))))
 ·exact absurd e this
theorem RQ (c:Ctx) (h:form c=true):c.at'=0∨c.at'=1∨c.at'=2∨c.at'=3∨c.at'=4:=by
 have:=qN c h
 rcases fc c.at' with e | e | e | e | e | e
 ·exact .inl e
 ·exact .inr (.inl e)
 ·exact .inr (.inr (.inl e))
 ·exact .inr (.inr (.inr (.inl e)))
 ·exact .inr (.inr (.inr (.inr e)))
 ·rw [UInt8.le_iff_toNat_le] at this;rw [UInt8.lt_iff_toNat_lt] at e;omega
theorem RS (c:Ctx) (h:form c=true):c.pa=0∨c.pa=1∨c.pa=2∨c.pa=3∨c.pa=4∨c.pa=5:=by
 have:=CA c h
 rcases yX c.pa with e | e | e | e | e | e | e
 ·exact .inl e
 ·exact .inr (.inl e)
 ·exact .inr (.inr (.inl e))
 ·exact .inr (.inr (.inr (.inl e)))
 ·exact .inr (.inr (.inr (.inr (.inl e))))
 ·exact .inr (.inr (.inr (.inr (.inr e))))
 ·rw [UInt8.le_iff_toNat_le] at this;rw [UInt8.lt_iff_toNat_lt] at e;omega
theorem GH (c:Ctx) (h:form c=true) (e:c.st=8):(c.qu=0∨c.qu=34∨c.qu=39) ∧
  ((c.at'=1∧c=⟨8,c.el,c.en,1,c.qu,c.pa,0,false,0,c.nm⟩∧(if c.pa == 1 then small c.nm 16 else c.nm == [])=true) ∨
   ((c.at'=2∨c.at'=3)∧c=⟨8,c.el,c.en,c.at',c.qu,0,c.su,c.es,0,[]⟩∧cm c.su c.es (c.at' == 2)=true) ∨
   ((c.at'=0∨c.at'=4)∧c=⟨8,c.el,c.en,c.at',c.qu,0,0,false,0,[]⟩)):=by
 have t:=Gz c h e
 unfold nQ at t
 obtain ⟨t1,t⟩:=dP t
 have hq:c.qu=0∨c.qu=34∨c.qu=39:=by
  simp only [Bool.and_eq_true,bne_iff_ne,not_and,Classical.not_not] at t1
  by_cases h0:c.qu=0
  ·exact .inl h0
  ·by_cases Ux:c.qu=34
   ·exact .inr (.inl Ux)
   ·exact .inr (.inr (t1 ⟨h0,Ux⟩))
 refine ⟨hq,?_⟩
 split at t
 ·rename_i h1
  have h1:=eq_of_beq h1
  split at t
  ·rename_i hp
   rw [Bool.and_eq_true] at t
   refine .inl ⟨h1,?_,?_⟩
   ·have:=fe t.1;rw [h1] at this;exact this
   ·rw [hp,if_pos rfl];exact t.2
  ·rename_i hp
   have Jg:=fe t
   refine .inl ⟨h1,?_,?_⟩
   ·have hn:c.nm=[]:=by rw [Jg]
    rw [h1] at Jg;rw [hn];exact Jg
   ·rw [if_neg hp,Jg];rfl
 ·rename_i h1
  split at t
  ·rename_i GI
   rw [Bool.and_eq_true] at t
   refine .inr (.inl ⟨?_,fe t.1,t.2⟩)
   simpa using GI
  ·rename_i GI
   refine .inr (.inr ⟨?_,fe t⟩)
   rcases RQ c h with x | x | x | x | x
   ·exact .inl x
   ·rw [x] at h1;exact absurd rfl h1
   ·rw [x] at GI;exact absurd rfl GI
   ·rw [x] at GI;exact absurd rfl GI
   ·exact .inr x
def jG (su:UInt8):Prop:=su=0∨su=1∨su=2∨su=3∨su=4∨su=5∨su=6
theorem pY (c:Ctx) (b:UInt8) (script:Bool) (hs:cm c.su c.es script=true) (h0:c.su=0):gY c b script=bg∨∃ pZ es',gY c b script={ c with su:=pZ,es:=es' }∧jG pZ∧cm pZ es' script=true:=by
 have hes:c.es=false:=by
  rw [h0] at hs
  cases hx:c.es with
  | false=>rfl
  | true=>rw [hx] at hs;cases script <;> cases hs
 unfold gY
 repeat' split
 ·exact .inr ⟨1,c.es,rfl,by simp [jG],by rw [hes];cases script <;> rfl⟩
 ·exact .inr ⟨2,c.es,rfl,by simp [jG],by rw [hes];cases script <;> rfl⟩
 ·exact .inr ⟨3,c.es,rfl,by simp [jG],by rw [hes];cases script <;> rfl⟩
 ·exact .inl rfl
 ·exact .inl rfl
 ·exact .inr ⟨c.su,c.es,rfl,by simp [jG,h0],hs⟩
theorem sD (c:Ctx) (b:UInt8) (script:Bool) (hu:jG c.su) (hs:cm c.su c.es script=true):code c b script=bg∨∃ pZ es',code c b script={ c with su:=pZ,es:=es' }∧jG pZ∧cm pZ es' script=true:=by
 have hes:c.su≠1→c.su≠2→c.es=false:=by
  intro h1 h2
  unfold cm at hs
  cases hx:c.es with
  | false=>rfl
  | true =>
   rw [hx,Bool.and_eq_true] at hs
   have h3:(c.su == 1)=false:=by simpa using h1
   have h4:(c.su == 2)=false:=by simpa using h2
   rw [h3,h4] at hs
   exact absurd hs.2 (by simp)
 have stay:∃ pZ es',c={ c with su:=pZ,es:=es' }∧jG pZ∧cm pZ es' script=true:=⟨c.su,c.es,rfl,hu,hs⟩
 have to (su:UInt8) (hk:jG su) (hz:c.es=false) (h:cm su false script=true):∃ pZ es',({ c with su:=su }:Ctx)={ c with su:=pZ,es:=es' }∧jG pZ∧cm pZ es' script=true:=⟨su,c.es,rfl,hk,by rw [hz];exact h⟩
 have s0:cm 0 false script=true:=by cases script <;> rfl
 have s5:cm 5 false script=true:=by cases script <;> rfl
 have s6:cm 6 false script=true:=by cases script <;> rfl
 unfold code
 split
 ·rename_i h
  exact pY c b script hs (eq_of_beq h)
 ·split
  ·rename_i h
   have hz:=hes (by rw [eq_of_beq h];decide) (by rw [eq_of_beq h];decide)
   split
   ·exact .inr (to 5 (by simp [jG]) hz s5)
   ·split
    ·rename_i h2
     rw [Bool.and_eq_true] at h2
     exact .inr (to 4 (by simp [jG]) hz (by rw [h2.1];rfl))
    ·split
     ·exact .inl rfl
     ·rcases pY { c with su:=0 } b script (by show cm 0 c.es script=true;rw [hz];exact s0) rfl with e | ⟨pZ,es',e,k1,k2⟩
      ·exact .inl e
      ·exact .inr ⟨pZ,es',e,k1,k2⟩
  ·have tx:(c.su=1∨c.su=2)→text c b=bg∨∃ pZ es',text c b={ c with su:=pZ,es:=es' }∧jG pZ∧cm pZ es' script=true:=by
    intro Ff
    unfold text
    have keep (es:Bool):cm c.su es script=true:=by rcases Ff with e | e <;> rw [e] <;> cases es <;> cases script <;> rfl
    split
    ·exact .inr ⟨c.su,false,rfl,hu,keep false⟩
    ·rename_i hn
     have hz:c.es=false:=by simpa using hn
     split
     ·exact .inr ⟨c.su,true,rfl,hu,keep true⟩
     ·split
      ·exact .inl rfl
      ·split
       ·exact .inr (to 0 (by simp [jG]) hz s0)
       ·exact .inr stay
   split
   ·rename_i h;exact tx (.inl (eq_of_beq h))
   ·split
    ·rename_i h;exact tx (.inr (eq_of_beq h))
    ·rename_i h1 h2
     have hz:=hes (by simpa using h1) (by simpa using h2)
     repeat' split
     all_goals first | exact .inr stay | exact .inr (to 0 (by simp [jG]) hz s0) | exact .inr (to 5 (by simp [jG]) hz s5) | exact .inr (to 6 (by simp [jG]) hz s6)
theorem GJ (c:Ctx) (b:UInt8) (hE:CC c.el c.en=true) (hq:c.qu=0∨c.qu=34∨c.qu=39) (hp:c.pa=0∨c.pa=1∨c.pa=2∨c.pa=3∨c.pa=4∨c.pa=5) (hc:c=⟨8,c.el,c.en,1,c.qu,c.pa,0,false,0,c.nm⟩) (hn:(if c.pa == 1 then small c.nm 16 else c.nm == [])=true):form (url c b)=true:=by
 have mk (pa:UInt8) (nm:List UInt8) (hp:pa=0∨pa=1∨pa=2∨pa=3∨pa=4∨pa=5) (h:(if pa == 1 then small nm 16 else nm == [])=true):form ⟨c.st,c.el,c.en,c.at',c.qu,pa,c.su,c.es,c.da,nm⟩=true:=by
  rw [hc]
  show form ⟨8,c.el,c.en,1,c.qu,pa,0,false,0,nm⟩=true
  rw [RN hE,OD c.qu hq pa hp nm];exact h
 have V4:low c.nm=true:=by
  split at hn
  ·exact oV hn
  ·rw [eq_of_beq hn];rfl
 unfold url
 split
 ·rename_i h
  refine mk c.pa [] hp ?_
  rw [Bool.or_eq_true] at h
  rcases h with h | h <;> rw [eq_of_beq h] <;> rfl
 ·split
  ·rfl
  ·split
   ·exact mk 4 [] (by simp) rfl
   ·split
    ·rename_i h;refine mk c.pa [] hp ?_;rw [eq_of_beq h];rfl
    ·split
     ·exact mk 3 [] (by simp) rfl
     ·split
      ·rfl
      ·split
       ·split
        ·exact mk 3 [] (by simp) rfl
        ·exact mk 5 [] (by simp) rfl
       ·split
        ·rename_i h;refine mk c.pa [] hp ?_;rw [eq_of_beq h];rfl
        ·split
         ·rename_i hlen
          refine mk 1 c.nm (by simp) ?_
          show small c.nm 16=true
          split at hn
          ·exact hn
          ·rw [eq_of_beq hn] at hlen;simp at hlen
         ·rename_i hlen
          refine mk 1 (c.nm ++ [eR b]) (by simp) ?_
          show small (c.nm ++ [eR b]) 16=true
          exact ia V4 b (n:=16) (by simpa using hlen)
theorem AW (c:Ctx) (b:UInt8) (h:form c=true) (e:c.st=8):form (value c b)=true:=by
 have hE:=GD c h
 obtain ⟨hq,hv⟩:=GH c h e
 unfold value
 split
 ·split
  ·rfl
  ·split
   ·exact bQ c h 9 (by simp)
   ·split
    ·exact kI (iJ c h).1
    ·exact bQ c h 4 (by simp)
 ·split
  ·rfl
  ·split
   ·rename_i h1
    rcases hv with ⟨_,hc,hn⟩ | ⟨ha,_,_⟩ | ⟨ha,_⟩
    ·exact GJ c b hE hq (RS c h) hc hn
    ·rcases ha with x | x <;> (rw [x] at h1;cases h1)
    ·rcases ha with x | x <;> (rw [x] at h1;cases h1)
   ·split
    ·rename_i GI
     split
     ·rfl
     ·rcases hv with ⟨ha,_,_⟩ | ⟨ha,hc,hs⟩ | ⟨ha,_⟩
      ·rw [ha] at GI;cases GI
      ·rcases sD c b (c.at' == 2) (MK c h) hs with x | ⟨pZ,es',x,k1,k2⟩
       ·rw [x];rfl
       ·rw [x,hc]
        show form ⟨8,c.el,c.en,c.at',c.qu,0,pZ,es',0,[]⟩=true
        rw [RN hE,KB c.qu hq c.at' ha pZ k1 es'];exact k2
      ·rcases ha with x | x <;> (rw [x] at GI;cases GI)
    ·exact h
theorem GK (c:Ctx) (h:form c=true) (e:c.st=17∨c.st=18∨c.st=19):∃ su es,c=⟨c.st,c.el,false,0,0,0,su,es,0,if (c.st == 19)=true then c.nm else []⟩∧(c.el=1∨c.el=2∨c.el=3∨c.el=4)∧pre c.nm (nameOf c.el)=true∧jG su∧cm su es (c.el == 3)=true∧((c.el=1∨c.el=2)→su=0∧es=false):=by
 have t:=eN c h
 have t:(bH c ⟨c.st,c.el,false,0,0,0,if (c.el == 3 || c.el == 4)=true then c.su else 0,if (c.el == 3 || c.el == 4)=true then c.es else false,0,if (c.st == 19)=true then c.nm else []⟩ && (c.el != 0) && pre c.nm (nameOf c.el) && cm c.su c.es (c.el == 3))=true:=by
  rcases e with e | e | e <;> rw [e] at t ⊢ <;> exact t
 simp only [Bool.and_eq_true] at t
 obtain ⟨⟨⟨t1,t2⟩,t3⟩,t4⟩:=t
 have hc:=fe t1
 have AH:c.el=1∨c.el=2∨c.el=3∨c.el=4:=by
  have:=(iJ c h).1
  rcases fc c.el with x | x | x | x | x | x
  ·rw [x] at t2;cases t2
  ·exact .inl x
  ·exact .inr (.inl x)
  ·exact .inr (.inr (.inl x))
  ·exact .inr (.inr (.inr x))
  ·rw [UInt8.le_iff_toNat_le] at this;rw [UInt8.lt_iff_toNat_lt] at x;omega
 have hsu:c.su=if (c.el == 3 || c.el == 4)=true then c.su else 0:=congrArg Ctx.su hc
 have hes:c.es=if (c.el == 3 || c.el == 4)=true then c.es else false:=congrArg Ctx.es hc
 refine ⟨c.su,c.es,?_,AH,t3,MK c h,t4,fun Ff=>?_⟩
 ·rw [← hsu,← hes] at hc;exact hc
 ·rcases Ff with x | x <;> rw [x] at hsu hes <;> exact ⟨hsu,hes⟩
def RW (s:UInt8) (d:Ctx) (nm:List UInt8):Prop:=∃ el su es,d=⟨s,el,false,0,0,0,su,es,0,nm⟩∧(el=1∨el=2∨el=3∨el=4)∧jG su∧cm su es (el == 3)=true∧((el=1∨el=2)→su=0∧es=false)
theorem RW.form {s:UInt8} {d:Ctx} (h:RW s d []) (hs:s=17∨s=18):form d=true:=by
 obtain ⟨el,su,es,rfl,AH,hu,hk,Ff⟩:=h
 rcases AH with x | x | x | x
 ·obtain ⟨rfl,rfl⟩:=Ff (.inl x);exact YB s el hs (.inl x)
 ·obtain ⟨rfl,rfl⟩:=Ff (.inr x);exact YB s el hs (.inr x)
 ·rw [RO s el hs (.inl x) su hu es];exact hk
 ·rw [RO s el hs (.inr x) su hu es];exact hk
theorem RW.GL {d:Ctx} {nm:List UInt8} (h:RW 19 d nm) (hp:pre nm (nameOf d.el)=true):Sx.form d=true:=by
 obtain ⟨el,su,es,rfl,AH,hu,hk,Ff⟩:=h
 rcases AH with x | x | x | x
 ·obtain ⟨rfl,rfl⟩:=Ff (.inl x);rw [RP el (.inl x)];exact hp
 ·obtain ⟨rfl,rfl⟩:=Ff (.inr x);rw [RP el (.inr x)];exact hp
 ·rw [MJ el (.inl x) su hu es];rw [hk,Bool.true_and];exact hp
 ·rw [MJ el (.inr x) su hu es];rw [hk,Bool.true_and];exact hp
theorem RW.to {s:UInt8} {d:Ctx} {nm:List UInt8} (h:RW s d nm) (s':UInt8) (YC:List UInt8):RW s' { d with st:=s',nm:=YC } YC:=by
 obtain ⟨el,su,es,rfl,r⟩:=h
 exact ⟨el,su,es,rfl,r⟩
theorem zn:∀ (l:List UInt8) (d:Ctx),RW 17 d []→(d.el=3∨d.el=4)→l5 d l=bg∨RW 17 (l5 d l) []
 | [],d,h,_=>.inr h
 | b :: r,d,h,he=>by
  unfold l5
  split
  ·exact .inl rfl
  ·rename_i hb
   obtain ⟨el,su,es,rfl,AH,hu,hk,Ff⟩:=h
   simp only at he
   rcases sD ⟨17,el,false,0,0,0,su,es,0,[]⟩ b (el == 3) hu hk with x | ⟨pZ,es',x,k1,k2⟩
   ·simp only at hb;rw [x] at hb;exact absurd rfl hb
   ·simp only
    rw [x]
    refine zn r _ ⟨el,pZ,es',rfl,AH,k1,k2,fun h=>?_⟩ he
    rcases he with e | e <;> rw [e] at h <;> rcases h with h | h <;> exact absurd h (by decide)
theorem GM {s:UInt8} {d:Ctx} {nm:List UInt8} (h:RW s d nm) (l:List UInt8) (feed:Bool):mM d l feed=bg∨RW 17 (mM d l feed) []:=by
 have h':=h.to 17 []
 unfold mM
 split
 ·exact .inr h'
 ·rename_i hc
  refine zn l _ h' ?_
  simp only [Bool.or_eq_true,not_or,Bool.not_eq_true,Bool.not_eq_false',Bool.not_eq_true'] at hc
  have:=hc.2
  obtain ⟨el,su,es,rfl,AH,_⟩:=h
  show el=3∨el=4
  rcases AH with x | x | x | x
  ·subst x;exact absurd rfl this
  ·subst x;exact absurd rfl this
  ·exact .inl x
  ·exact .inr x
theorem uS {s:UInt8} {d:Ctx} {nm:List UInt8} (h:RW s d nm∨d=bg) (b:UInt8) (feed:Bool):form (qC d b feed)=true:=by
 rcases h with h | rfl
 case inr=>rfl
 unfold qC
 split
 ·rfl
 ·rcases GM h [b] feed with x | x
  ·rw [x];rfl
  ·split
   ·have:=(x.to 18 []).form (.inr rfl)
    obtain ⟨el,su,es,e,_⟩:=x
    rw [e] at this ⊢;exact this
   ·exact x.form (.inl rfl)
theorem GN (c:Ctx) (b:UInt8) (feed:Bool) (h:form c=true) (e:c.st=17∨c.st=18∨c.st=19):form (raw c b feed)=true:=by
 obtain ⟨su,es,hc,AH,hp,hu,hk,Ff⟩:=GK c h e
 have hR:RW c.st c (if (c.st == 19)=true then c.nm else []):=⟨c.el,su,es,hc,AH,hu,hk,Ff⟩
 unfold raw
 split
 ·rename_i h1
  rw [Bool.and_eq_true] at h1
  have RT:=eq_of_beq h1.1
  have hn:c.nm=[]:=by rw [hc,RT];rfl
  have:=(hR.to 19 []).GL rfl
  rw [show ({ c with st:=19,nm:=[] }:Ctx)={ c with st:=19 } by rw [← hn]] at this
  exact this
 ·split
  ·rfl
  ·split
   ·split
    ·rfl
    ·unfold tag
     simp only [show ((9:UInt8) == 3)=false from rfl,show ((9:UInt8) == 9)=true from rfl,Bool.false_eq_true,if_false,if_true]
     repeat' split
     all_goals rfl
   ·split
    ·rename_i hx
     rw [Bool.and_eq_true] at hx
     have Jj:=eq_of_beq hx.1
     have:=(hR.to 19 (c.nm ++ [eR b])).GL hx.2
     rw [← Jj] at this
     exact this
    ·split
     ·exact uS (s:=17) (nm:=[]) ((GM hR (47 :: c.nm) feed).symm) b feed
     ·exact uS (.inl hR) b feed
theorem Et (c:Ctx) (b:UInt8) (h:form c=true):form (note c b)=true:=by
 unfold note
 repeat' split
 all_goals first | rfl | exact h | skip
 rename_i Uy _ _ _ hd
 have hda:=(uQ c h (eq_of_beq Uy)).2
 have:c.da=0∨c.da=1∨c.da=2:=by
  have:=fD (p:=fun d=>!decide (d≤2) || (d == 0 || (d == 1 || d == 2))) (by kernel_rfl) c.da
  simp only [Bool.or_eq_true,Bool.not_eq_true',decide_eq_false_iff_not,beq_iff_eq] at this
  rcases this with h | h
  ·exact absurd hda h
  ·exact h
 rcases this with x | x | x
 ·rw [x];rfl
 ·rw [x];rfl
 ·rw [x] at hd;exact absurd rfl hd
theorem zo (c:Ctx) (b:UInt8) (h:form c=true) (e:c.st=7):form (dv c b).1=true:=by
 have hc:=zk c h e
 obtain ⟨q1,q2⟩:=iJ c h
 unfold dv
 split
 ·exact h
 ·split
  ·rfl
  ·split
   ·rename_i hq
    have:form ⟨8,c.el,c.en,c.at',b,0,0,false,0,[]⟩=true:=mO c.el c.at' b c.en q1 q2 (qN c h) (by simpa using .inr (by simpa using hq))
    rw [hc];exact this
   ·have:form ⟨8,c.el,c.en,c.at',0,0,0,false,0,[]⟩=true:=mO c.el c.at' 0 c.en q1 q2 (qN c h) (.inl rfl)
    rw [hc];exact this
theorem RU {c:Ctx} {b:UInt8} (h:Q c b) (he:form c=false→CC c.el c.en=true):CC c.el c.en=true:=by
 cases hf:form c with
 | true=>exact GD c hf
 | false=>exact he hf
theorem zq (en:Bool) (c:Ctx) (b:UInt8) (hc:c=⟨3,0,c.en,0,0,0,0,false,0,c.nm⟩) (hl:low c.nm=true):form (grown c b)=true:=by
 unfold grown
 split
 ·rfl
 ·rename_i h
  have:form ⟨3,0,c.en,0,0,0,0,false,0,c.nm ++ [eR b]⟩=true:=by
   rw [V3];exact ia hl b (n:=32) (by simpa using h)
  rw [hc];exact this
theorem zr (c:Ctx) (b:UInt8) (hE:CC c.el c.en=true) (hs:c.st=5∨c.st=6) (hc:c={ within c c.st with nm:=c.nm }) (hl:low c.nm=true):form (grown c b)=true:=by
 unfold grown
 split
 ·rfl
 ·rename_i h
  have:form ⟨c.st,c.el,c.en,0,0,0,0,false,0,c.nm ++ [eR b]⟩=true:=by
   rw [YA hE c.st hs];exact ia hl b (n:=32) (by simpa using h)
  rw [hc];exact this
theorem AX (c:Ctx) (b:UInt8) (hE:CC c.el c.en=true) (hs:c.st=5∨c.st=6) (hc:c={ within c c.st with nm:=c.nm }) (hn:small c.nm 32=true∨(c.nm=[]∧bm b=false)):form (named c b).1=true:=by
 have hl:low c.nm=true:=by
  rcases hn with h | ⟨h,_⟩
  ·exact oV h
  ·rw [h];rfl
 unfold named
 split
 ·exact mk7 hE (wG c.nm)
 ·split
  ·exact Yz hE 9 (by simp)
  ·split
   ·rename_i hb
    rcases hn with h | ⟨_,h⟩
    ·have:form ⟨6,c.el,c.en,0,0,0,0,false,0,c.nm⟩=true:=by rw [YA hE 6 (by simp)];exact h
     rw [hc];exact this
    ·rw [hb] at h;cases h
   ·split
    ·exact Yz hE 4 (by simp)
    ·split
     ·rfl
     ·exact zr c b hE hs hc hl
theorem mP (b:UInt8) (feed:Bool):∀ (n:Nat) (c d:Ctx),Q c b→(form c=false→CC c.el c.en=true)→again n c b feed=some d→form d=true
 | 0,c,d,_,_,h=>by cases h
 | n+1,c,d,hQ,hE0,h=>by
  have hE:=RU hQ hE0
  have IH (c':Ctx) (hf:form c'=true) (h:again n c' b feed=some d):form d=true:=mP b feed n c' d (.inl hf) (fun h=>absurd hf (by rw [h];simp)) h
  have RV (hs:c.st=5∨c.st=6) (hh:(if (named c b).2 then again n (named c b).1 b feed else some (named c b).1)=some d):form d=true:=by
   have key:c={ within c c.st with nm:=c.nm }∧(small c.nm 32=true∨(c.nm=[]∧bm b=false)):=by
    rcases hQ with hf | ⟨hx,_,_,hb⟩
    ·obtain ⟨h1,h2⟩:=zj c hf hs
     exact ⟨h1,.inl h2⟩
    ·have hn:c.nm=[]:=by rw [hx];rfl
     have h5:c.st=5:=by rw [hx];rfl
     refine ⟨?_,.inr ⟨hn,hb⟩⟩
     rw [h5,hn];exact hx
   have hf:=AX c b hE hs key.1 key.2
   split at hh
   ·exact IH _ hf hh
   ·cases hh;exact hf
  unfold again at h
  rcases hQ with hf | ⟨hx,zY,AQ,hbl⟩
  case inr =>
   have e:c.st=5:=by rw [hx];rfl
   refine RV (.inl e) ?_
   rw [e] at h
   have h:(if (tag c b).2 then again n (tag c b).1 b feed else some (tag c b).1)=some d:=h
   unfold tag at h
   rw [e] at h
   exact h
  rcases nP c.st with e | e | e | e | e | e | e | e | e | e | e | e | e | e | e | e | e | e | e | e | e | e
  ·have hc:=lx c hf (by simp [e])
   rw [e] at hc
   subst hc
   have h:(if (b == 60)=true then some (bG 1) else some (bG 0))=some d:=h
   split at h <;> cases h <;> rfl
  ·have hc:=lx c hf (by simp [e])
   rw [e] at hc
   subst hc
   have h:(if (opened b).2 then some (opened b).1 else again n (bG 0) b feed)=some d:=h
   split at h
   ·cases h;exact zl b
   ·exact IH (bG 0) rfl h
  ·rw [e] at h
   have h:some (closed b)=some d:=h
   cases h;exact zm b
  ·rw [e] at h
   have h:(if (tag c b).2 then again n (tag c b).1 b feed else some (tag c b).1)=some d:=h
   obtain ⟨hc,hsm⟩:=zh c hf e
   have ht:form (tag c b).1=true:=by
    unfold tag
    rw [e]
    simp only [show ((3:UInt8) == 3)=true from rfl,if_true]
    split
    ·exact zq c.en c b hc (oV hsm)
    ·split
     ·rename_i hen
      have:c.en=false:=by simpa using hen
      have h2:=ly 9 (oO c.nm) c.en (by simp)
      show form ⟨9,oO c.nm,c.en,0,0,0,0,false,0,[]⟩=true
      rw [h2,this,decide_eq_true (CB c.nm)];rfl
     ·exact bQ c hf 9 (by simp)
   split at h
   ·exact IH _ ht h
   ·cases h;exact ht
  ·rw [e] at h
   have h:(if (tag c b).2 then again n (tag c b).1 b feed else some (tag c b).1)=some d:=h
   have hc:=zi c hf (by simp [e])
   unfold tag at h
   rw [e] at h
   simp only [show ((4:UInt8) == 3)=false from rfl,show ((4:UInt8) == 9)=false from rfl,show ((4:UInt8) == 10)=false from rfl,show ((4:UInt8) == 4)=true from rfl,Bool.false_eq_true,if_false,if_true] at h
   cases hbl:bm b with
   | true=>rw [hbl] at h;cases h;exact hf
   | false =>
   rw [hbl] at h
   cases AQ:(b == 47 || b == 62) with
   | true=>rw [AQ] at h;exact IH _ (bQ c hf 9 (by simp)) h
   | false =>
   rw [AQ] at h
   cases zY:(b == 61) with
   | true=>rw [zY] at h;cases h;rfl
   | false =>
    rw [zY] at h
    have hcw:{ c with st:=5 }=within c 5:=by rw [hc];rfl
    have h:again n (within c 5) b feed=some d:=by rw [← hcw];exact h
    exact mP b feed n (within c 5) d (.inr ⟨rfl,zY,AQ,hbl⟩) (fun _=>hE) h
  ·rw [e] at h
   have h:(if (tag c b).2 then again n (tag c b).1 b feed else some (tag c b).1)=some d:=h
   unfold tag at h
   rw [e] at h
   exact RV (.inl e) h
  ·rw [e] at h
   have h:(if (tag c b).2 then again n (tag c b).1 b feed else some (tag c b).1)=some d:=h
   unfold tag at h
   rw [e] at h
   exact RV (.inr e) h
  ·rw [e] at h
   have h:(if (tag c b).2 then again n (tag c b).1 b feed else some (tag c b).1)=some d:=h
   unfold tag at h
   rw [e] at h
   have h:(if (dv c b).2 then again n (dv c b).1 b feed else some (dv c b).1)=some d:=h
   have ht:=zo c b hf e
   split at h
   ·exact IH _ ht h
   ·cases h;exact ht
  ·rw [e] at h
   have h:some (value c b)=some d:=h
   cases h;exact AW c b hf e
  ·rw [e] at h
   have h:(if (tag c b).2 then again n (tag c b).1 b feed else some (tag c b).1)=some d:=h
   rw [AU c b e,if_neg (by simp)] at h
   cases h
   unfold tag
   rw [e]
   simp only [show ((9:UInt8) == 3)=false from rfl,show ((9:UInt8) == 9)=true from rfl,Bool.false_eq_true,if_false,if_true]
   split
   ·exact bQ c hf 4 (by simp)
   ·split
    ·exact bQ c hf 10 (by simp)
    ·split
     ·exact kI (iJ c hf).1
     ·rfl
  ·rw [e] at h
   have h:(if (tag c b).2 then again n (tag c b).1 b feed else some (tag c b).1)=some d:=h
   unfold tag at h
   rw [e] at h
   simp only [show ((10:UInt8) == 3)=false from rfl,show ((10:UInt8) == 9)=false from rfl,show ((10:UInt8) == 10)=true from rfl,Bool.false_eq_true,if_false,if_true] at h
   cases Ji:(b == 62) with
   | true=>rw [Ji] at h;cases h;exact kI (iJ c hf).1
   | false=>rw [Ji] at h;exact IH _ (bQ c hf 4 (by simp)) h
  all_goals first
   | (rw [e] at h;have h:some (note c b)=some d:=h;cases h;exact Et c b hf)
   | (rw [e] at h;have h:some (raw c b feed)=some d:=h;cases h;exact GN c b feed hf (by simp [e]))
   | skip
  exfalso
  have t:=(dP (hZ c hf)).1
  rw [decide_eq_true e] at t
  exact t rfl
theorem KC (c:Ctx) (b:UInt8) (feed:Bool):form (mv c b feed)=true:=by
 cases hf:form c with
 | true=>exact mP b feed 4 c _ (.inl hf) (fun h=>absurd hf (by rw [h];simp)) (wD c b feed hf)
 | false=>rw [AP c b feed hf];rfl
theorem lz (c:Ctx) (b:UInt8):form (jX c b)=true:=KC c b true
end Sx
namespace Sx
open Go
def gw (f:Ctx→UInt8→Ctx):Ctx→List UInt8→Int→Ctx×Int
 | c,[],_=>(c,-1)
 | c,b :: r,i=>if (f c b).st == 20 then (f c b,i) else gw f (f c b) r (i+1)
def OE (c:Ctx):Ctx:=if form c then c else bg
theorem GP (c:Ctx):form (OE c)=true:=by
 unfold OE
 split
 ·assumption
 ·rfl
def cD (c:Ctx) (p:List UInt8):Ctx×Int:=gw jX (OE c) p 0
theorem uT {f:Ctx→UInt8→Ctx} (hf:∀ c b,form (f c b)=true):∀ (l:List UInt8) (c:Ctx) (i:Int),form c=true→form (gw f c l i).1=true
 | [],c,i,h=>h
 | b :: r,c,i,h=>by
  unfold gw
  split
  ·exact hf c b
  ·exact uT hf r _ _ (hf c b)
theorem OG {c:Ctx} (h:form c=true) (e:(c.st == 20)=true):c=bg:=by
 have:=lx c h (by simp [eq_of_beq e])
 rw [eq_of_beq e] at this
 exact this
theorem wH {c:Ctx} (h:form c=true):c.nm.length < 9223372036854775808:=by have:=wE c h;omega
theorem mQ (f:Ctx→UInt8→Ctx):∀ (l:List UInt8) (c:Ctx) (i:Int),(gw f c l i).1=(gw f c l 0).1∧((gw f c l 0).2=-1→(gw f c l i).2=-1)∧((gw f c l 0).2≠-1→(gw f c l i).2=(gw f c l 0).2+i)∧-1≤(gw f c l 0).2∧(gw f c l 0).2 < l.length
 | [],c,i=>⟨rfl,fun _=>rfl,fun h=>absurd rfl h,Int.le_refl _,(by show (-1:Int) < 0;omega)⟩
 | b :: r,c,i=>by
  unfold gw
  split
  ·refine ⟨rfl,fun h=>?_,fun _=>(by simp),(by simp),?_⟩
   ·exact absurd (show (0:Int)=-1 from h) (by decide)
   ·show (0:Int) < ((r.length+1:Nat):Int);omega
  ·obtain ⟨a1,a2,a3,a4,a5⟩:=mQ f r (f c b) (i+1)
   obtain ⟨b1,b2,b3,b4,b5⟩:=mQ f r (f c b) (0+1)
   refine ⟨a1.trans b1.symm,?_⟩
   by_cases h:(gw f (f c b) r 0).2=-1
   ·rw [a2 h,b2 h]
    exact ⟨fun _=>rfl,fun hh=>absurd rfl hh,Int.le_refl _,(by simp;omega)⟩
   ·rw [a3 h,b3 h]
    simp only [List.length_cons]
    refine ⟨fun hh=>?_,fun _=>by omega,by omega,by omega⟩
    omega
end Sx
namespace Sx
end Sx
namespace Sx
open Go
end Sx
end
