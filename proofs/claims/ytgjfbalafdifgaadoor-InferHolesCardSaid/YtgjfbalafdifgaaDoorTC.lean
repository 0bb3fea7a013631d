/-
  A part of InferHoles's proof: an evaluator of translated functions over plain data, what functions of this seat come to, and laws on plain data.
-/
import Derived.Test.YtgjfbalafdifgaaDoorTB
import Derived.Lib.Bytealg
import Derived.ReadAgain
import Derived.ChangeArms
import Derived.ChangeSame
import Derived.RowKit
import Derived.Deep.DeepHandedRow
import Derived.Lib.LaidTab
set_option linter.unusedVariables false
set_option linter.unusedSimpArgs false
set_option linter.unusedSectionVars false
set_option linter.unnecessarySimpa false
namespace Sx
open Go Go.RowKit Go.Lib
section
variable {C:Cfg} {P:Program} {w0:World} {F0:Fs} {nt:Nat} {st:St} {a:Act} {w:World} {H:Nat→Option Value} {σ:Nat→Option Nat}
theorem finL_some {es:List Ent}:∀ {ks:List (Option (Nat×Nat))} {K:List AV→Option AV} {r:AV},finL ks es K=some r →
  ∃ rs,K rs=some r∧rs.length=es.length∧∀ (j:Nat) (e:Ent),es[j]?=some e→∃ v,finOne (ks[j]?.getD none) e=some v∧rs[j]?=some v:=by
 induction es with
 | nil=>intro ks K r h;cases ks <;> exact ⟨[],h,rfl,fun j e he=>by simp at he⟩
 | cons e es ih =>
  intro ks K r h
  cases ks with
  | nil =>
   simp only [finL] at h
   obtain ⟨v,hv,h⟩:=Option.bind_eq_some_iff.1 h
   obtain ⟨rs,h1,h2,h3⟩:=ih h
   refine ⟨v :: rs,h1,by simp [h2],fun j e' he=>?_⟩
   cases j with
   | zero=>simp at he;subst he;exact ⟨v,hv,rfl⟩
   | succ j=>obtain ⟨u,q1,q2⟩:=h3 j e' (by simpa using he);exact ⟨u,by simpa using q1,by simpa using q2⟩
  | cons o ks =>
   simp only [finL] at h
   obtain ⟨v,hv,h⟩:=Option.bind_eq_some_iff.1 h
   obtain ⟨rs,h1,h2,h3⟩:=ih h
   refine ⟨v :: rs,h1,by simp [h2],fun j e' he=>?_⟩
   cases j with
   | zero=>simp at he;subst he;exact ⟨v,hv,rfl⟩
   | succ j=>obtain ⟨u,q1,q2⟩:=h3 j e' (by simpa using he);exact ⟨u,by simpa using q1,by simpa using q2⟩
theorem ownIds_mem {es:List Ent}:∀ {ks:List (Option (Nat×Nat))} {j i:Nat} {e:Ent} {p:Nat×Nat},es[j]?=some e→ks[j]?=some (some p)→i ∈ e.ids→i ∈ ownIds ks es:=by
 induction es with
 | nil=>intro ks j i e p h;simp at h
 | cons e0 es ih =>
  intro ks j i e p he hk hi
  cases ks with
  | nil=>simp at hk
  | cons o ks =>
   cases j with
   | zero =>
    simp at he hk
    subst he hk
    exact List.mem_append_left _ hi
   | succ j =>
    have:=ih (by simpa using he) (by simpa using hk) hi
    cases o with
    | none=>exact this
    | some q=>exact List.mem_append_right _ this
theorem valIds_mem {es:List Ent}:∀ {ks:List (Option (Nat×Nat))} {j i:Nat} {e:Ent},es[j]?=some e→ks[j]?.getD none=none→i ∈ e.ids→i ∈ valIds ks es:=by
 induction es with
 | nil=>intro ks j i e h;simp at h
 | cons e0 es ih =>
  intro ks j i e he hk hi
  cases ks with
  | nil =>
   cases j with
   | zero=>simp at he;subst he;exact List.mem_append_left _ hi
   | succ j=>exact List.mem_append_right _ (ih (ks:=[]) (by simpa using he) (by simp) hi)
  | cons o ks =>
   cases j with
   | zero =>
    simp at he hk
    subst he hk
    exact List.mem_append_left _ hi
   | succ j =>
    have:=ih (by simpa using he) (by simpa using hk) hi
    cases o with
    | none=>exact List.mem_append_right _ this
    | some q=>exact this
theorem nodup_app {l m:List Nat} (h:nodup (l ++ m)=true):nodup m=true∧∀ x ∈ l,x ∉ m:=by
 induction l with
 | nil=>exact ⟨h,by simp⟩
 | cons x l ih =>
  simp only [List.cons_append,nodup,Bool.and_eq_true] at h
  obtain ⟨h1,h2⟩:=ih h.2
  refine ⟨h1,fun y hy=>?_⟩
  rcases List.mem_cons.1 hy with rfl | hy
  ·intro hm
   have:=h.1
   simp only [Bool.not_eq_true',List.any_eq_false] at this
   exact this y (List.mem_append_right _ hm) (Nat.beq_refl y)
  ·exact h2 y hy
theorem ownIds_ne {es:List Ent}:∀ {ks:List (Option (Nat×Nat))} {j j' i i':Nat} {e e':Ent} {p p':Nat×Nat},nodup (ownIds ks es)=true→j < j'→es[j]?=some e→ks[j]?=some (some p)→es[j']?=some e'→ks[j']?=some (some p') →
  i ∈ e.ids→i' ∈ e'.ids→i≠i':=by
 induction es with
 | nil=>intro ks j j' i i' e e' p p' _ _ h;simp at h
 | cons e0 es ih =>
  intro ks j j' i i' e e' p p' hn hlt he hk he' hk' hi hi'
  cases ks with
  | nil=>simp at hk
  | cons o ks =>
   cases j' with
   | zero=>omega
   | succ j' =>
    cases j with
    | zero =>
     simp at he hk
     subst he hk
     have h1:=(nodup_app hn).2 i hi
     intro e
     exact h1 (e ▸ ownIds_mem (by simpa using he') (by simpa using hk') hi')
    | succ j =>
     refine ih (ks:=ks) (j:=j) (j':=j') ?_ (by omega) (by simpa using he) (by simpa using hk) (by simpa using he') (by simpa using hk') hi hi'
     cases o with
     | none=>exact hn
     | some q=>exact (nodup_app hn).1
theorem finOne_told {o:Option (Nat×Nat)} {e:Ent} {v:AV} (h:finOne o e=some v):e.told=true:=by
 unfold finOne at h
 split at h
 ·split at h
  ·rfl
  ·rfl
  ·cases h
 ·cases ht:e.told with
  | true=>rfl
  | false=>rw [ht] at h;cases h
theorem finish_ok (hT:∀ t i,C.ty t=some i→TyOk P t i) (h:Inv C w0 F0 nt st a w H σ) {f:Nat} {fn:Func} {r:AV} (hf:finish C f fn st=some r) :
  ∃ v,(results fn a.tmps).run P w=.ok v w∧((∀ b,¬ F0.lent b)→ResOk (C.own f) w0 w F0.rd r v):=by
 unfold finish at hf
 simp only at hf
 generalize hes:fn.results.toList.map (resEnt C st)=es at hf
 generalize C.own f=ks at hf ⊢
 cases hb:((ks.all Option.isNone || Nat.beq ks.length es.length) && nodup (ownIds ks es) && (ownIds ks es).all (fun i=>!((valIds ks es).any fun j=>Nat.beq i j))) with
 | false=>rw [hb] at hf;cases hf
 | true =>
  rw [hb] at hf
  simp only [cond_true] at hf
  rw [Bool.and_eq_true,Bool.and_eq_true] at hb
  obtain ⟨⟨hb1,hb2⟩,hb3⟩:=hb
  obtain ⟨rs,hr,hrl,hfin⟩:=finL_some hf
  simp only [Option.some.injEq] at hr
  obtain ⟨vs,hvl,hrun,hrel⟩:=results_ok hT h fn (fun rv hm=>by
   obtain ⟨j,hj⟩:=List.getElem?_of_mem hm
   obtain ⟨v,hv,_⟩:=hfin j (resEnt C st rv) (by rw [← hes,List.getElem?_map,hj];rfl)
   exact finOne_told hv)
  rw [hes] at hrel
  have hvs:vs.length=es.length:=by rw [hvl,← hes];simp
  refine ⟨tupV vs,hrun,fun hlent=>?_⟩
  obtain ⟨H',h',hent,hsub,hsup⟩:=h.fzs2 (valIds ks es)
  have hval:∀ (j:Nat) (e:Ent) (x:Value) (v:AV),es[j]?=some e→vs[j]?=some x→ks[j]?.getD none=none→finOne (ks[j]?.getD none) e=some v→Rel w (Fr w0.heap.size F0 H' σ) v x:=by
   intro j e x v he hx hk hv
   rw [hk] at hv
   have ht:=finOne_told hv
   simp only [finOne,ht,cond_true,Option.some.injEq] at hv
   subst hv
   exact told_fzs (hent _ _ (hrel j e x he hx)) ht fun i hi=>valIds_mem he hk hi
  have hone:∀ (F:Nat→Prop),(∀ (j:Nat) (x:Value) (v:AV),vs[j]?=some x→rs[j]?=some v→Rel w F v x)→Rel w F r (tupV vs):=by
   intro F hF
   rw [← hr]
   have hl:rs.length=vs.length:=by rw [hrl,hvs]
   match rs,vs,hl with
   | [],[],_=>exact .tu [] [] rfl (fun j v hv=>by simp at hv)
   | [v],[x],_=>exact hF 0 x v rfl rfl
   | v :: v' :: rs,x :: x' :: vs,hl =>
    refine .tu (v :: v' :: rs) (x :: x' :: vs) hl fun j u hu=>?_
    have hj:j < (v :: v' :: rs).length:=by rw [hl];exact (List.getElem?_eq_some_iff.1 hu).1
    have:=hF j u _ hu (List.getElem?_eq_getElem hj)
    rw [List.getD_eq_getElem?_getD,List.getElem?_eq_getElem hj]
    exact this
  have hget:∀ (j:Nat) (x:Value),vs[j]?=some x→∃ e,es[j]?=some e:=fun j x hx=>by
   have:j < es.length:=by rw [← hvs];exact (List.getElem?_eq_some_iff.1 hx).1
   exact ⟨_,List.getElem?_eq_getElem this⟩
  unfold ResOk
  cases hall:ks.all Option.isNone with
  | true =>
   rw [if_pos rfl]
   refine Rel.mono (F:=Fr w0.heap.size F0 H' σ) (fun b hb hF=>⟨fun hlt=>(hF.1 hlt).resolve_right (hlent b),rfl⟩) (hone _ fun j x v hx hv=>?_)
   obtain ⟨e,he⟩:=hget j x hx
   obtain ⟨v',hv1,hv2⟩:=hfin j e he
   have:v'=v:=by rw [hv2] at hv;exact Option.some.inj hv
   subst this
   refine hval j e x v' he hx ?_ hv1
   cases hk:ks[j]? with
   | none=>rfl
   | some o =>
    have:=List.all_eq_true.1 hall o (List.mem_of_getElem? hk)
    cases o with
    | none=>rfl
    | some p=>cases this
  | false =>
   rw [if_neg (by simp)]
   rw [hall,Bool.false_or] at hb1
   have hkl:=Nat.eq_of_beq_eq_true hb1
   have hown:∀ (j:Nat) (x:Value) (e k:Nat) (v:AV),vs[j]?=some x→ks[j]?=some (some (e,k))→rs[j]?=some v →
     (x.ownBlock=none∧v.elems=[]∧0 < k∧x=.slice none 0 0)∨∃ id,(∃ en,es[j]?=some en∧id ∈ en.ids)∧H id=some x∧OwnOk w (Fr w0.heap.size F0 H σ) e k v.elems x:=by
    intro j x e k v hx hk hv
    obtain ⟨en,he⟩:=hget j x hx
    obtain ⟨v',hv1,hv2⟩:=hfin j en he
    have:v'=v:=by rw [hv2] at hv;exact Option.some.inj hv
    subst this
    have hre:=hrel j en x he hx
    rw [hk] at hv1
    simp only [Option.getD_some,finOne] at hv1
    split at hv1
    ·rename_i id y' k' l
     cases hbb:(Nat.beq e y' && Nat.beq k k') with
     | false=>rw [hbb] at hv1;cases hv1
     | true =>
      rw [hbb] at hv1
      simp only [cond_true,Option.some.injEq] at hv1
      subst hv1
      rw [Bool.and_eq_true] at hbb
      have e1:=Nat.eq_of_beq_eq_true hbb.1
      have e2:=Nat.eq_of_beq_eq_true hbb.2
      subst e1 e2
      exact .inr ⟨id,⟨_,he,by simp [Ent.ids,Cell.ids]⟩,hre.1,hre.2⟩
    ·cases hk0:Nat.blt 0 k with
     | false=>rw [hk0] at hv1;cases hv1
     | true =>
      rw [hk0] at hv1
      simp only [cond_true,Option.some.injEq] at hv1
      subst hv1
      have hx0:x=.slice none 0 0:=by
       have hre':Rel w _ .nils x:=hre
       cases hre';rfl
      subst hx0
      exact .inl ⟨rfl,rfl,by unfold Nat.blt at hk0;exact Nat.le_of_ble_eq_true hk0,rfl⟩
    ·cases hv1
   have hrs:∀ (j:Nat) (x:Value),vs[j]?=some x→∃ v,rs[j]?=some v∧compOf vs.length r j=v:=by
    intro j x hx
    have hj:j < vs.length:=(List.getElem?_eq_some_iff.1 hx).1
    have hjr:j < rs.length:=by rw [hrl,← hvs];exact hj
    refine ⟨rs[j],List.getElem?_eq_getElem hjr,?_⟩
    have hl:rs.length=vs.length:=by rw [hrl,hvs]
    unfold compOf
    rw [← hr]
    by_cases h1:vs.length=1
    ·rw [if_pos h1]
     match rs,hl.trans h1,hjr with
     | [v],_,hjr =>
      have:j=0:=by simpa using hjr
      subst this
      rfl
    ·rw [if_neg h1]
     match rs,hl,hjr with
     | [],_,hjr=>simp at hjr
     | [v],hl,_=>simp at hl;omega
     | v :: v' :: rs,_,hjr =>
      show (v :: v' :: rs).getD j .un=_
      rw [List.getD_eq_getElem?_getD,List.getElem?_eq_getElem hjr]
      rfl
   refine ⟨vs,by rw [hvs,hkl],rfl,fun j x o hx ho=>?_,fun i j x y p q g hij hx hy hi hj hg=>?_⟩
   ·obtain ⟨v,hv,hcv⟩:=hrs j x hx
    rw [hcv]
    cases o with
    | some p =>
     obtain ⟨e,k⟩:=p
     simp only
     rcases hown j x e k v hx ho hv with ⟨_,h2,h3,rfl⟩ | ⟨id,_,h2,h3⟩
     ·rw [h2]
      exact ⟨⟨h3,[],World.ownsRow_nil w 0 _ _,by simp,fun i j v hi=>by simp at hi⟩,fun g hg=>by cases hg⟩
     ·refine ⟨h3.mono (fun b hb hF=>⟨⟨fun hlt=>(hF.1 hlt).resolve_right (hlent b),fun i y p hy hp e=>?_⟩,rfl⟩) (fun _ _=>rfl),fun g hg=>((h.hown id x g h2 hg).1).resolve_right (hlent g)⟩
      obtain ⟨v',hv',_⟩:=hrs i y hy
      rcases hown i y p.1 p.2 v' hy hp hv' with ⟨h5,_⟩ | ⟨id',_,h5,_⟩
      ·rw [h5] at e;cases e
      ·exact hF.2.1 id' y h5 e
    | none =>
     simp only
     obtain ⟨e,he⟩:=hget j x hx
     obtain ⟨v',hv1,hv2⟩:=hfin j e he
     have:v'=v:=by rw [hv2] at hv;exact Option.some.inj hv
     subst this
     refine (hval j e x v' he hx (by rw [ho];rfl) hv1).mono fun b hb hF=>⟨⟨fun hlt=>(hF.1 hlt).resolve_right (hlent b),fun i y p hy hp eb=>?_⟩,rfl⟩
     obtain ⟨v2,hv',_⟩:=hrs i y hy
     rcases hown i y p.1 p.2 v2 hy hp hv' with ⟨h5,_⟩ | ⟨id',⟨en,hen,hid⟩,h5,_⟩
     ·rw [h5] at eb;cases eb
     ·have hm:=ownIds_mem hen hp hid
      have hnv:id' ∉ valIds ks es:=fun hm2=>by
       have:=List.all_eq_true.1 hb3 id' hm
       simp only [Bool.not_eq_true',List.any_eq_false] at this
       exact this id' hm2 (Nat.beq_refl id')
      exact hF.2.1 id' y (hsup id' y hnv h5) eb
   ·obtain ⟨v,hv,_⟩:=hrs i x hx
    obtain ⟨v',hv',_⟩:=hrs j y hy
    rcases hown i x p.1 p.2 v hx hi hv with ⟨h5,_⟩ | ⟨id,⟨en,hen,hid⟩,h5,_⟩
    ·rw [h5] at hg;cases hg
    ·rcases hown j y q.1 q.2 v' hy hj hv' with ⟨h6,_⟩ | ⟨id',⟨en',hen',hid'⟩,h6,_⟩
     ·rw [h6];simp
     ·have hne:id≠id':=by
       rcases Nat.lt_or_gt_of_ne hij with hlt | hgt
       ·exact ownIds_ne hb2 hlt hen hi hen' hj hid hid'
       ·exact fun e=>ownIds_ne hb2 hgt hen' hj hen hi hid' hid e.symm
      exact h.hh id id' x y g hne h5 h6 hg
end
end Sx

namespace Sx
open Go Go.RowKit Go.Lib
def regB (C:Cfg) (f nt:Nat) (id:Nat) (ops:Array Oper) (draw:Bool):Bool :=
 ops.all (fun o=>match o.dst with | some d=>Nat.blt d nt | none=>true) &&
  (match draw with
   | false=>true
   | true=>match C.plan f id with
    | none=>true
    | some l=>planT ops l.2 l.1 (Array.replicate ops.size false) && Region.noSelect ops && Nat.beq l.1.len ops.size)
def codeB (p:Nat→Array Oper→Bool→Bool):Code→Bool
 | .region id ops d=>p id ops d
 | .seq a b=>codeB p a && codeB p b
 | .cond _ a b=>codeB p a && codeB p b
 | .block _ c=>codeB p c
 | .loop c=>codeB p c
 | .scope c=>codeB p c
 | _=>true
def itemB (p:Nat→Array Oper→Bool→Bool):Item→Bool
 | .code c=>codeB p c
 | .inLoop c=>codeB p c
 | .inScope c=>codeB p c
 | _=>true
structure Fit (C:Cfg) (P:Program):Prop where
 ty:∀ t i,C.ty t=some i→TyOk P t i
 code:∀ (f:Nat) (fn:Func) (c:Code),P.funcs[f]?=some fn→fn.body=some c→codeB (regB C f fn.ntmps) c=true
 mixed:P.follows .mixedOrders=true
 name:∀ (f:Nat) (fn:Func) (c:Code),P.funcs[f]?=some fn→fn.body=some c→(fn.name == "runtime.NumGoroutine")=false
 gv:∀ (g:Nat) (G:List AV→Option AV),C.gv g=some G→(C.own g).all Option.isNone=true→∀ (args:List AV) (r:AV),G args=some r→∀ (w:World) (F:Nat→Prop) (vs:Array Value),GlobOk C w F→vs.size=args.length →
  (∀ (j:Nat) (a:AV) (v:Value),args[j]?=some a→vs[j]?=some v→Rel w F a v)→CallRuns P g vs w (PostOk C g w F r)
 ext:∀ (f:Nat) (fn:Func),P.funcs[f]?=some fn→fn.body=none→(fn.name == "internal/bytealg.IndexByteString")=true→∀ (s:ByteArray) (c:Int) (w:World),(callFunc f #[.string s, .int .u8 c]).run P w=.ok (.value (.int .i64 (Lib.indexByte s.data.toList c.toNat.toUInt8))) w
theorem findLabel_good {p:Nat→Array Oper→Bool→Bool}:∀ {c:Code} {l:Nat} {r:Code},findLabel c l=some r→codeB p c=true→codeB p r=true:=by
 intro c
 induction c with
 | seq a b iha ihb =>
  intro l r h hg
  simp only [codeB,Bool.and_eq_true] at hg
  simp only [findLabel] at h
  split at h
  ·rename_i rest hr
   cases h
   simp only [codeB,Bool.and_eq_true]
   exact ⟨iha hr hg.1,hg.2⟩
  ·exact ihb h hg.2
 | label l' =>
  intro l r h hg
  simp only [findLabel] at h
  split at h
  ·cases h;rfl
  ·cases h
 | _=>intro l r h;simp [findLabel] at h
theorem gotoIn_good {p:Nat→Array Oper→Bool→Bool} {l:Nat}:∀ {k k':List Item},gotoIn l k=some k'→(∀ x ∈ k,itemB p x=true)→∀ x ∈ k',itemB p x=true
 | [],k',h,_=>by simp [gotoIn] at h
 | it :: k,k',h,hg=>by
  have rest:gotoIn l k=some k'→∀ x ∈ k',itemB p x=true:=fun h=>gotoIn_good h fun x hx=>hg x (List.mem_cons_of_mem _ hx)
  cases it with
  | inScope body =>
   simp only [gotoIn] at h
   split at h
   ·rename_i r hr
    cases h
    intro x hx
    rcases List.mem_cons.1 hx with rfl | hx
    ·exact findLabel_good hr (hg (.inScope body) (List.mem_cons_self ..))
    ·exact hg x hx
   ·exact rest h
  | _=>exact rest (by simpa [gotoIn] using h)
theorem exitTo_good {p:Nat→Array Oper→Bool→Bool} {l:Nat}:∀ {k k':List Item},exitTo l k=some k'→(∀ x ∈ k,itemB p x=true)→∀ x ∈ k',itemB p x=true
 | [],k',h,_=>by simp [exitTo] at h
 | it :: k,k',h,hg=>by
  have rest:exitTo l k=some k'→∀ x ∈ k',itemB p x=true:=fun h=>exitTo_good h fun x hx=>hg x (List.mem_cons_of_mem _ hx)
  cases it with
  | inBlock id =>
   simp only [exitTo] at h
   split at h
   ·cases h
    intro x hx
    exact hg x (List.mem_cons_of_mem _ hx)
   ·exact rest h
  | _=>exact rest (by simpa [exitTo] using h)
section
variable {C:Cfg} {P:Program}
theorem step_scope {b:Frame} {a:Act} {k:List Item} {cs:List Frame} {w:World} {c:Code} :
  Go.step P (lone (b.at a (.code (.scope c) :: k)) cs w)=.next (lone (b.at a (.code c :: .inScope c :: k)) cs w) :=
 step_lone_go (by simp [stepG,stepG.exec,Frame.at])
theorem step_inScope {b:Frame} {a:Act} {k:List Item} {cs:List Frame} {w:World} {c:Code} :
  Go.step P (lone (b.at a (.inScope c :: k)) cs w)=.next (lone (b.at a k) cs w) :=
 step_lone_go (by simp [stepG,stepG.exec,Frame.at])
def Ends (P:Program) (b:Frame) (a:Act) (k:List Item) (w:World) (R:Ending→World→Prop):Prop :=
 ∀ cs,∃ e w' fr,R e w'∧Comes P (lone (b.at a k) cs w) (lone fr cs w') e∧fr.fn=b.fn∧fr.leaving P w' e
theorem Ends.of_steps {b:Frame} {a a':Act} {k k':List Item} {w w':World} {R:Ending→World→Prop} (h:∀ cs,Steps P (lone (b.at a k) cs w) (lone (b.at a' k') cs w')) (he:Ends P b a' k' w' R):Ends P b a k w R:=fun cs=>by
 obtain ⟨e,w2,fr,h1,h2,h3⟩:=he cs
 exact ⟨e,w2,fr,h1,Comes.of_steps (h cs) h2,h3⟩
def PostF (C:Cfg) (P:Program) (f:Nat) (fn:Func) (w0:World) (F0:Fs) (r:AV) (e:Ending) (w':World):Prop :=
 match C.sig f with
 | none=>(∀ b,¬ F0.lent b)→PostOk C f w0 F0.rd r e w'
 | some sg=>PostM C P f fn sg w0 F0 r e w'
def RunOk (C:Cfg) (P:Program) (f:Nat) (fn:Func) (go:List Item→St→Option AV):Prop :=
 ∀ (k:List Item) (st:St) (r:AV),go k st=some r→(∀ x ∈ k,itemB (regB C f fn.ntmps) x=true)→∀ (w0:World) (F0:Fs) (a:Act) (w:World) (H:Nat→Option Value) (σ:Nat→Option Nat) (b:Frame),b.fn=f→b.kind=.normal →
  Inv C w0 F0 fn.ntmps st a w H σ→Ends P b a k w (PostF C P f fn w0 F0 r)
theorem arr_ok {f:Nat} {fn:Func} {go:List Item→St→Option AV} (h:RunOk C P f fn go):RunOk C P f fn (arr C f go):=by
 intro k st r hr hk w0 F0 a w H σ b hb hkd hI
 unfold arr at hr
 split at hr
 ·rename_i l s _
  obtain ⟨H',hI'⟩:=hI.canon l s
  exact h k _ r hr hk w0 F0 a w H' σ b hb hkd hI'
 ·exact h k st r hr hk w0 F0 a w H σ b hb hkd hI
theorem Ends.finish {f:Nat} {fn:Func} {st:St} {r:AV} {w0:World} {F0:Fs} {a:Act} {w:World} {H:Nat→Option Value} {σ:Nat→Option Nat} {b:Frame} {k:List Item} (hfit:Fit C P) (hfn:P.funcs[f]?=some fn) (hb:b.fn=f) (hkd:b.kind=.normal)
  (hI:Inv C w0 F0 fn.ntmps st a w H σ) (hf:Sx.fin C f fn st=some r) (hs:∀ cs,∃ todo,Steps P (lone (b.at a k) cs w) (lone { b.at a todo with mode:=.returning } cs w)):Ends P b a k w (PostF C P f fn w0 F0 r):=fun cs=>by
 obtain ⟨todo,hst⟩:=hs cs
 have hfn':P.funcs[b.fn]?=some fn:=by rw [hb];exact hfn
 unfold fin at hf
 cases hsig:C.sig f with
 | none =>
  rw [hsig] at hf
  obtain ⟨v,hv,hr⟩:=finish_ok hfit.ty hI hf
  refine ⟨.returned v,w,_,?_,hst,rfl,rfl,hI.defers,hkd,fn,hfn',hv⟩
  unfold PostF
  rw [hsig]
  exact fun hl=>⟨v,rfl,Ext.of_bel hI.below hl,hr hl⟩
 | some sg =>
  rw [hsig] at hf
  have hrr:∃ v,(results fn a.tmps).run P w=.ok v w:=by
   obtain ⟨outs,f1,f2,_⟩:=finishM_some hf
   obtain ⟨vs,g1,g2,g3⟩:=results_ok hfit.ty hI fn fun rv hm=>List.all_eq_true.1 f2 _ (List.mem_map.2 ⟨rv,hm,rfl⟩)
   exact ⟨_,g2⟩
  obtain ⟨v,hv⟩:=hrr
  refine ⟨.returned v,w,_,?_,hst,rfl,rfl,hI.defers,hkd,fn,hfn',hv⟩
  unfold PostF
  rw [hsig]
  exact ⟨v,rfl,st,a,H,σ,hI,hf,hv⟩
theorem region_ok {f:Nat} {fn:Func} {call:Nat→List AV→Option AV} (hfit:Fit C P) (hC:CallOk C P call) {id:Nat} {ops:Array Oper} {draw:Bool} {st:St} {K:St→Option AV} {r:AV} (hg:regB C f fn.ntmps id ops draw=true)
  (hK:evRegion C call f id ops draw st K=some r) {w0:World} {F0:Fs} {a:Act} {w:World} {H:Nat→Option Value} {σ:Nat→Option Nat} (hI:Inv C w0 F0 fn.ntmps st a w H σ) :
  (Code.region id ops draw).wp P (fun e a' w'=>e=.normal∧∃ st' H' σ',K st'=some r∧Inv C w0 F0 fn.ntmps st' a' w' H' σ') a w:=by
 unfold regB at hg
 rw [Bool.and_eq_true] at hg
 obtain ⟨hg1,hg2⟩:=hg
 have hdst:∀ (i:Nat) (o:Oper) (t:Nat),ops[i]?=some o→o.dst=some t→t < fn.ntmps:=by
  intro i o t hi ht
  have:=Array.all_eq_true_iff_forall_mem.1 hg1 o (Array.mem_of_getElem? hi)
  rw [ht] at this
  unfold Nat.blt at this
  exact Nat.le_of_ble_eq_true this
 unfold evRegion at hK
 cases draw with
 | false =>
  simp only [cond_false] at hK
  refine wp_region (wpOps_of_wpL (nc:=[]) (E:=Held none σ) _ a w ?_)
  exact evOps_ok (D:=none) hC hfit.ty hdst _ hK hI (fun ws e=>by cases e) trivial fun a' w' st' H' σ' q1 q2 _ _ _=>⟨rfl,st',H',σ',q1,q2⟩
 | true =>
  simp only [cond_true] at hK hg2
  cases hp:C.plan f id with
  | none=>rw [hp] at hK;cases hK
  | some l =>
   rw [hp] at hK hg2
   simp only at hK
   simp only [Bool.and_eq_true] at hg2
   obtain ⟨⟨h1,h2⟩,h3⟩:=hg2
   have hlen:=Nat.eq_of_beq_eq_true h3
   have hI':=hI.ext (Ext.drew w (w.drawn+1))
   refine wp_region_any hfit.mixed (AnyE.any (nc:=l.2) (E:=Held (some l.2) σ) _ ?_)
   have key:=anyE_of_wpT (P:=P) (nc:=l.2) (E:=Held (some l.2) σ) (Q:=fun e a' w'=>e=.normal∧∃ st' H' σ',K st'=some r∧Inv C w0 F0 fn.ntmps st' a' w' H' σ') (Held.refl _ _) (fun u v w h k=>h.trans k) h2 (fun c a w hc=>by cases hc.1) l.1 (Array.replicate ops.size false) a _
    (fun j o hj=>by rw [show (Array.replicate ops.size false).getD j false=false by rw [Array.getD_eq_getD_getElem?,Array.getElem?_replicate];split <;> rfl] at hj;cases hj) h1
    (evTree_ok (D:=some l.2) (σ0:=σ) hC hfit.ty hdst (fun a' w' st' H' σ' q1 q2=>⟨rfl,st',H',σ',q1,q2⟩) l.1 hK hI' (fun ws _ s _=>rfl))
   rw [hlen] at key
   exact key
theorem step_ok {f:Nat} {fn:Func} {call:Nat→List AV→Option AV} {go:List Item→St→Option AV} (hfit:Fit C P) (hfn:P.funcs[f]?=some fn) (hC:CallOk C P call) (hgo:RunOk C P f fn go):RunOk C P f fn (Sx.step C call f fn go):=by
 intro k st r hr hk w0 F0 a w H σ b hb hkd hI
 have hk1:∀ {x:Item} {k':List Item},k=x :: k'→∀ y ∈ k',itemB (regB C f fn.ntmps) y=true:=fun e y hy=>hk y (by rw [e];exact List.mem_cons_of_mem _ hy)
 have hk0:∀ {x:Item} {k':List Item},k=x :: k'→itemB (regB C f fn.ntmps) x=true:=fun e=>hk _ (by rw [e];exact List.mem_cons_self ..)
 have cons2:∀ {x:Item} {k':List Item},itemB (regB C f fn.ntmps) x=true→(∀ y ∈ k',itemB (regB C f fn.ntmps) y=true)→∀ y ∈ x :: k',itemB (regB C f fn.ntmps) y=true:=fun h1 h2 y hy=>by
  rcases List.mem_cons.1 hy with rfl | hy
  ·exact h1
  ·exact h2 y hy
 have next:∀ (k':List Item) (st':St),go k' st'=some r→(∀ y ∈ k',itemB (regB C f fn.ntmps) y=true)→Inv C w0 F0 fn.ntmps st' a w H σ→(∀ cs,Go.step P (lone (b.at a k) cs w)=.next (lone (b.at a k') cs w))→Ends P b a k w (PostF C P f fn w0 F0 r) :=
  fun k' st' h1 h2 h3 h4=>Ends.of_steps (fun cs=>.one (h4 cs)) (hgo k' st' r h1 h2 w0 F0 a w H σ b hb hkd h3)
 cases k with
 | nil=>exact Ends.finish hfit hfn hb hkd hI hr fun cs=>⟨_, .one step_end⟩
 | cons it k =>
  cases it with
  | inBlock id=>exact next k st hr (hk1 rfl) hI fun cs=>step_inBlock
  | inScope c=>exact next k st hr (hk1 rfl) hI fun cs=>step_inScope
  | inLoop c=>exact next _ st hr (cons2 (show itemB _ (.code c)=true from hk0 (x:=.inLoop c) rfl) (cons2 (hk0 rfl) (hk1 rfl))) hI fun cs=>step_inLoop
  | code c =>
   have hc0:codeB (regB C f fn.ntmps) c=true:=hk0 rfl
   cases c with
   | skip=>exact next k st hr (hk1 rfl) hI fun cs=>step_skip
   | label l=>exact next k st hr (hk1 rfl) hI fun cs=>step_label
   | loop c=>exact next _ st hr (cons2 hc0 (cons2 hc0 (hk1 rfl))) hI fun cs=>step_loop
   | seq x y =>
    simp only [codeB,Bool.and_eq_true] at hc0
    exact next _ st hr (cons2 hc0.1 (cons2 hc0.2 (hk1 rfl))) hI fun cs=>step_seq
   | block id c=>exact next _ st hr (cons2 hc0 (cons2 rfl (hk1 rfl))) hI fun cs=>step_block
   | scope c=>exact next _ st hr (cons2 hc0 (cons2 hc0 (hk1 rfl))) hI fun cs=>step_scope
   | ret=>exact Ends.finish hfit hfn hb hkd hI hr fun cs=>⟨_, .one step_ret⟩
   | exit id =>
    have hr':(match exitTo id k with | some k'=>go k' st | none=>none)=some r:=hr
    split at hr'
    ·rename_i k' he
     exact next k' st hr' (exitTo_good he (hk1 rfl)) hI fun cs=>step_exit he
    ·cases hr'
   | goto l =>
    have hr':(match gotoIn l k with | some k'=>go k' st | none=>none)=some r:=hr
    split at hr'
    ·rename_i k' he
     exact next k' st hr' (gotoIn_good he (hk1 rfl)) hI fun cs=>step_goto he
    ·cases hr'
   | cond c x y =>
    simp only [codeB,Bool.and_eq_true] at hc0
    have hr':condM (st.get C c).pay (go (.code x :: k) (st.assume c true)) (go (.code y :: k) (st.assume c false))=some r:=hr
    unfold condM at hr'
    split at hr'
    ·rename_i q hq
     have hv:=pay_bool hI hq
     have hass:Inv C w0 F0 fn.ntmps (st.assume c q) a w H σ:=by
      cases c with
      | tmp t =>
       refine hI.setVal ?_
       have:a.tmps.getD t undef=.bool q:=hv
       rw [this]
       exact Rel.b q
      | _=>exact hI
     cases q with
     | true=>exact next _ _ hr' (cons2 hc0.1 (hk1 rfl)) hass fun cs=>step_cond hv
     | false=>exact next _ _ hr' (cons2 hc0.2 (hk1 rfl)) hass fun cs=>step_cond hv
    ·cases hr'
   | region id ops draw =>
    have hr':evRegion C call f id ops draw st (fun st=>go k st)=some r:=hr
    have hw:=region_ok hfit hC hc0 hr' hI
    intro cs
    obtain ⟨e,a',w',⟨he,st',H',σ',q1,q2⟩,harr⟩:=hw b k cs
    subst he
    obtain ⟨e2,w2,fr,h1,h2,h3⟩:=hgo k st' r q1 (hk1 rfl) w0 F0 a' w' H' σ' b hb hkd q2 cs
    exact ⟨e2,w2,fr,h1,Comes.of_steps harr h2,h3⟩
   | _=>cases hr
  | _=>cases hr
theorem firstIdx (l:List UInt8) (c:UInt8):idxByte l c=Lib.indexByte l c:=by
 unfold idxByte
 induction l with
 | nil=>rfl
 | cons x l ih =>
  simp only [List.findIdx?_cons,Lib.indexByte]
  by_cases hx:(x == c)=true
  ·simp [hx]
  ·simp only [hx,Bool.false_eq_true,if_false]
   rw [← ih]
   cases hf:l.findIdx? (· == c) with
   | none=>simp
   | some i =>
    have hne:(((i:Nat):Int) == -1)=false:=by
     rw [beq_eq_false_iff_ne]
     omega
    simp [hne]
theorem both_ok (hfit:Fit C P):∀ n,CallOk C P (both C P n).1∧∀ (f:Nat) (fn:Func),P.funcs[f]?=some fn→RunOk C P f fn ((both C P n).2 f fn)
 | 0=>⟨⟨fun g args r h=>by simp [both] at h,fun g sg args r h=>by simp [both] at h⟩,fun f fn _ k st r h=>by simp [both] at h⟩
 | n+1=>by
  obtain ⟨ihC,ihR⟩:=both_ok hfit n
  refine ⟨⟨fun g args r h hsig w F vs hG hl hv=>?_,fun g sg args r h hsig=>?_⟩,fun f fn hfn=>?_⟩
  ·have h':(match C.gv g with
   | some G=>bif (C.own g).all Option.isNone && (C.sig g).isNone then G args else none
   | none=>match P.funcs[g]? with
    | some fn=>match fn.body with
     | some c=>bif lenOk C g fn.ntmps args.length then arr C g ((both C P n).2 g fn) [.code c] (initF C g fn.ntmps args) else none
     | none=>bif (C.own g).all Option.isNone && (C.sig g).isNone then ext fn.name args else none
    | none=>none)=some r:=h
   cases hgv:C.gv g with
   | some G =>
    rw [hgv] at h'
    simp only [hsig] at h'
    cases hall:(C.own g).all Option.isNone with
    | false=>rw [hall] at h';cases h'
    | true =>
     rw [hall] at h'
     exact hfit.gv g G hgv hall args r h' w F vs hG hl hv
   | none =>
   rw [hgv] at h'
   simp only at h'
   unfold initF lenOk at h'
   simp only [hsig] at h'
   split at h'
   case h_2=>cases h'
   rename_i fn hfn
   split at h'
   ·rename_i c hbody
    cases hle:Nat.ble args.length fn.ntmps with
    | false=>rw [hle] at h';cases h'
    | true =>
     rw [hle] at h'
     have hle':=Nat.le_of_ble_eq_true hle
     left
     refine ⟨fn,c,hfn,hbody,hfit.name g fn c hfn hbody,fun cs=>?_⟩
     let b:Frame:=Frame.enter P g vs .normal
     have hfr:Frame.enter P g vs .normal=b.at ⟨b.tmps,[]⟩ [.code c]:=by
      simp [b,Frame.enter,Frame.at,hfn,hbody]
     have htm:b.tmps=vs ++ Array.replicate (fn.ntmps - vs.size) undef:=by simp [b,Frame.enter,hfn]
     have hI:Inv C w (Fs.of F) fn.ntmps (initSt args) ⟨b.tmps,[]⟩ w (fun _=>none) (fun _=>none):={
      defers:=rfl
      size:=by rw [htm];simp;omega
      env:=fun t=>by
       show REnt _ _ _ _ (match args[t]? with | some v=>.val v | none=>.dead) _
       cases ht:args[t]? with
       | none=>trivial
       | some x =>
        have hlt:t < vs.size:=by rw [hl];exact (List.getElem?_eq_some_iff.1 ht).1
        show Rel _ _ x _
        have hg:vs[t]?=some vs[t]:=by simp [hlt]
        have:=hv t x vs[t] ht hg
        have e:b.tmps.getD t undef=vs[t]:=by
         rw [htm]
         simp [Array.getElem?_append,hlt]
        rw [e]
        refine this.mono fun b' hb' hF=>⟨⟨fun _=>.inl hF,fun i v hi=>(by cases hi),fun s hs=>(by cases hs)⟩,rfl⟩
      mem:=fun s cs hs=>by cases hs
      hown:=fun i x g hi=>by cases hi
      sown:=fun s r hs=>by cases hs
      obj:=fun s b hb=>by cases hb
      hh:=fun i j x y g _ hi=>by cases hi
      hs:=fun i s x r hi=>by cases hi
      ss:=fun s s' r _ hs=>by cases hs
      glob:=fun g k e hg=>by
       obtain ⟨b',o,h1,h2,h3,h4⟩:=hG g k e hg
       refine ⟨b',o,h1,⟨fun _=>.inl h2,fun i v hi=>(by cases hi),fun s hs=>(by cases hs)⟩,h3,fun j hj=>?_⟩
       obtain ⟨v,q1,q2,q3⟩:=h4 j hj
       exact ⟨v,q1,q2,q3.mono fun b' hb' hF=>⟨⟨fun _=>.inl hF,fun i v hi=>(by cases hi),fun s hs=>(by cases hs)⟩,rfl⟩⟩
      below:=Bel.refl _ w }
     have hrun:=arr_ok (ihR g fn hfn) [.code c] (initSt args) r h' (fun x hx=>by
      have:x=.code c:=by simpa using hx
      subst this
      exact hfit.code g fn c hfn hbody) w (Fs.of F) _ w _ _ b rfl rfl hI cs
     rw [hfr]
     obtain ⟨e,w',fr,h1,h2⟩:=hrun
     unfold PostF at h1
     rw [hsig] at h1
     exact ⟨e,w',fr,h1 (fun _ hb=>hb),h2⟩
   ·rename_i hbody
    right
    cases hall:(C.own g).all Option.isNone with
    | false=>rw [hall] at h';cases h'
    | true =>
    rw [hall] at h'
    simp only [Option.isNone_none,Bool.and_self,cond_true] at h'
    unfold ext at h'
    split at h'
    ·rename_i l c
     cases hnm:(fn.name == "internal/bytealg.IndexByteString") with
     | false=>rw [hnm] at h';cases h'
     | true =>
      rw [hnm] at h'
      simp only [cond_true,Option.some.injEq] at h'
      subst h'
      match vs,hl,hv with
      | ⟨[x,y]⟩,_,hv =>
       have hx:=hv 0 _ x rfl rfl
       have hy:=hv 1 _ y rfl rfl
       cases hx with
       | s q =>
        cases hy
        refine ⟨_,hfit.ext g fn hfn hbody hnm q c.toNat w,_,rfl,Ext.refl w,?_⟩
        unfold ResOk
        rw [if_pos hall,firstIdx]
        have e:((c.toNat:Int)).toNat.toUInt8=c:=by simp
        rw [e]
        exact .int _
    ·cases h'
  ·have h':(match C.gv g with
   | some G=>bif (C.own g).all Option.isNone && (C.sig g).isNone then G args else none
   | none=>match P.funcs[g]? with
    | some fn=>match fn.body with
     | some c=>bif lenOk C g fn.ntmps args.length then arr C g ((both C P n).2 g fn) [.code c] (initF C g fn.ntmps args) else none
     | none=>bif (C.own g).all Option.isNone && (C.sig g).isNone then ext fn.name args else none
    | none=>none)=some r:=h
   cases hgv:C.gv g with
   | some G =>
    rw [hgv] at h'
    simp only [hsig] at h'
    cases hall:(C.own g).all Option.isNone with
    | false=>rw [hall] at h';cases h'
    | true =>
     rw [hall] at h'
     cases h'
   | none =>
   rw [hgv] at h'
   simp only at h'
   unfold initF lenOk at h'
   simp only [hsig] at h'
   split at h'
   case h_2=>cases h'
   rename_i fn hfn
   split at h'
   ·rename_i c hbody
    cases hle:(Nat.ble sg.ps.length fn.ntmps && Nat.beq args.length (sg.ps.length+sg.objs.length)) with
    | false=>rw [hle] at h';cases h'
    | true =>
     rw [hle] at h'
     rw [Bool.and_eq_true] at hle
     refine ⟨fn,hfn,Nat.le_of_ble_eq_true hle.1,Nat.eq_of_beq_eq_true hle.2,fun w F0 vs H σ hvs hI=>.inl ⟨fn,c,hfn,hbody,hfit.name g fn c hfn hbody,fun cs=>?_⟩⟩
     let b:Frame:=Frame.enter P g vs .normal
     have hfr:Frame.enter P g vs .normal=b.at ⟨b.tmps,[]⟩ [.code c]:=by
      simp [b,Frame.enter,Frame.at,hfn,hbody]
     have htm:b.tmps=vs ++ Array.replicate (fn.ntmps - vs.size) undef:=by simp [b,Frame.enter,hfn]
     have hrun:=arr_ok (ihR g fn hfn) [.code c] (initM fn.ntmps sg args) r h' (fun x hx=>by
      have:x=.code c:=by simpa using hx
      subst this
      exact hfit.code g fn c hfn hbody) w F0 ⟨b.tmps,[]⟩ w H σ b rfl rfl (by rw [htm];exact hI) cs
     rw [hfr]
     obtain ⟨e,w',fr,h1,h2⟩:=hrun
     unfold PostF at h1
     rw [hsig] at h1
     exact ⟨e,w',fr,h1,h2⟩
   ·simp at h'
  ·exact step_ok hfit hfn ihC (arr_ok (ihR f fn hfn))
end
end Sx

namespace Sx
open Go
section
variable {C:Cfg} {call:Nat→List AV→Option AV} {f:Nat} {R:Type}
theorem lift_bind (st:St) (dst:Option Nat) (K:St→Option R) (o:Option AV):lift st dst K o=(lift st dst some o).bind K:=by
 unfold lift;cases o <;> rfl
theorem cellsOf_bind (t:Nat) (e:Ent) (K:List Cell→Option R):cellsOf C t e K=(cellsOf C t e some).bind K:=by
 unfold cellsOf
 cases C.ty t with
 | none=>rfl
 | some i =>
  simp only
  cases i.kd.agg with
  | true =>
   simp only [cond_true]
   cases e with
   | agg cs=>simp only;cases Nat.beq cs.length i.size <;> rfl
   | cell c=>cases c with
    | val v=>simp only;cases AV.asAg i.size v <;> rfl
    | _=>rfl
   | _=>rfl
  | false =>
   simp only [cond_false]
   cases Nat.beq i.size 1 with
   | false=>rfl
   | true =>
    simp only [cond_true]
    cases e with
    | cell c=>cases c with
     | val v=>simp only;cases AV.one v <;> rfl
     | _=>rfl
    | _=>rfl
theorem evLoad_bind (t:Nat) (a:Ent) (dst:Option Nat) (st:St) (K:St→Option R):evLoad C t a dst st K=(evLoad C t a dst st some).bind K:=by
 unfold evLoad
 cases C.ty t with
 | none=>rfl
 | some i =>
  simp only
  split
  ·split
   ·cases Nat.ble _ _ <;> rfl
   ·rfl
  ·cases Nat.ble _ _ <;> rfl
  ·cases Nat.ble _ _ <;> rfl
  ·rfl
theorem evStore_bind (t:Nat) (a v:Ent) (st:St) (K:St→Option R):evStore C t a v st K=(evStore C t a v st some).bind K:=by
 unfold evStore
 split
 ·rw [cellsOf_bind];conv=>rhs;rw [cellsOf_bind]
  cases cellsOf C t v some with
  | none=>rfl
  | some new =>
   simp only [Option.bind_some]
   split
   ·cases Nat.ble _ _ <;> rfl
   ·rfl
 ·rw [cellsOf_bind];conv=>rhs;rw [cellsOf_bind]
  cases cellsOf C t v some with
  | none=>rfl
  | some new =>
   simp only [Option.bind_some]
   split
   ·cases (_ && _:Bool) <;> rfl
   ·rfl
 ·rfl
theorem fillC_bind (fields:List (Nat×Nat)) (st:St) (K:List Cell→Option R):∀ (ps:List (Nat×Operand)) (cs:List Cell),fillC C fields st ps cs K=(fillC C fields st ps cs some).bind K
 | [],cs=>rfl
 | (i,x) :: r,cs=>by
  simp only [fillC]
  split
  ·rw [cellsOf_bind];conv=>rhs;rw [cellsOf_bind]
   cases cellsOf C _ (st.get C x) some with
   | none=>rfl
   | some new =>
    simp only [Option.bind_some]
    cases Nat.ble _ _ with
    | false=>rfl
    | true=>simp only [cond_true];exact fillC_bind fields st K r _
  ·rfl
theorem fillE_bind (t:Nat) (agg:Bool) (st:St) (K:List AV→Option R):∀ (ps:List (Nat×Operand)) (l:List AV),fillE C t agg st ps l K=(fillE C t agg st ps l some).bind K
 | [],l=>rfl
 | (i,x) :: r,l=>by
  simp only [fillE]
  cases (_ && _:Bool) with
  | false=>rfl
  | true =>
   simp only [cond_true]
   rw [cellsOf_bind];conv=>rhs;rw [cellsOf_bind]
   cases cellsOf C _ (st.get C x) some with
   | none=>rfl
   | some new=>simp only [Option.bind_some];exact fillE_bind t agg st K r _
theorem evSlice_bind (t:Nat) (x:Ent) (lo hi mx:Option Operand) (dst:Option Nat) (st:St) (K:St→Option R):evSlice C f t x lo hi mx dst st K=(evSlice C f t x lo hi mx dst st some).bind K:=by
 cases mx with
 | some m=>rfl
 | none =>
  simp only [evSlice]
  split
  ·exact lift_bind ..
  ·split
   ·rfl
   ·cases (dst.map (C.trunc f)).getD false with
    | false=>simp only [cond_false];exact lift_bind ..
    | true =>
     simp only [cond_true]
     split
     ·cases upN _ _ with
      | none=>rfl
      | some n=>cases dst <;> rfl
     ·rfl
  ·rfl
theorem evConv_bind (src to:Nat) (x:Ent) (dst:Option Nat) (st:St) (K:St→Option R):evConv C src to x dst st K=(evConv C src to x dst st some).bind K:=by
 unfold evConv
 split
 ·exact lift_bind ..
 ·exact lift_bind ..
 ·split
  ·exact lift_bind ..
  ·rfl
 ·split
  ·exact lift_bind ..
  ·rfl
 ·split
  ·cases (_ && _:Bool) with
   | false=>rfl
   | true =>
    simp only [cond_true]
    split <;> rfl
  ·rfl
 ·rfl
theorem evBuiltin_bind (b:Builtin) (args:List Operand) (ts:List Nat) (dst:Option Nat) (st:St) (K:St→Option R):evBuiltin C b args ts dst st K=(evBuiltin C b args ts dst st some).bind K:=by
 unfold evBuiltin
 split
 ·split
  ·exact lift_bind ..
  ·exact lift_bind ..
  ·rfl
 ·exact lift_bind ..
 ·exact lift_bind ..
 ·exact lift_bind ..
 ·split
  ·split
   ·cases (Kd.isSl _) with
    | false=>rfl
    | true =>
     simp only [cond_true]
     split
     ·cases (_ && _:Bool) with
      | false=>rfl
      | true =>
       simp only [cond_true]
       cases app _ _ _ _ with
       | none=>rfl
       | some m=>cases dst <;> rfl
     ·cases app _ _ _ _ with
      | none=>rfl
      | some m=>cases dst <;> rfl
     ·rfl
   ·cases (Kd.isSl _) with
    | false=>rfl
    | true =>
     simp only [cond_true]
     split
     ·cases (_ && _:Bool) with
      | false=>rfl
      | true =>
       simp only [cond_true]
       cases app _ _ _ _ with
       | none=>rfl
       | some m=>cases dst <;> rfl
     ·cases app _ _ _ _ with
      | none=>rfl
      | some m=>cases dst <;> rfl
     ·rfl
   ·rfl
  ·rfl
 ·rfl
theorem backM_bind (site:Nat→Nat) (res:AV) (K:St→Option R):∀ (objs:List (Src×List Knd)) (i:Nat) (st:St),backM site res i objs st K=(backM site res i objs st some).bind K
 | [],i,st=>rfl
 | o :: r,i,st=>by
  simp only [backM]
  cases tupI res (i+1) with
  | none=>rfl
  | some v =>
   simp only [Option.bind_some]
   cases AV.asAg o.2.length v with
   | none=>rfl
   | some l=>simp only [Option.bind_some];exact backM_bind site res K r _ _
theorem evCallM_bind (sg:Sig) (g:Nat) (xs:List Ent) (dst:Option Nat) (st:St) (K:St→Option R):evCallM C call sg g xs dst st K=(evCallM C call sg g xs dst st some).bind K:=by
 unfold evCallM
 cases sitesOf st xs [] sg.objs with
 | none=>rfl
 | some sites =>
  simp only [Option.bind_some]
  cases (_ && _:Bool) with
  | false=>rfl
  | true =>
   simp only [cond_true]
   cases kndss _ _ _ _ with
   | none=>rfl
   | some ins =>
    simp only [Option.bind_some]
    cases call _ _ with
    | none=>rfl
    | some res =>
     simp only [Option.bind_some]
     cases tupI res 0 with
     | none=>rfl
     | some v =>
      simp only [Option.bind_some]
      rw [backM_bind]
      conv=>rhs;rw [backM_bind]
      cases backM _ _ _ _ _ some <;> rfl
theorem evCall_bind (c:Call) (dst:Option Nat) (st:St) (K:St→Option R):evCall C call c dst st K=(evCall C call c dst st some).bind K:=by
 unfold evCall
 simp only
 split
 ·split
  ·exact evCallM_bind ..
  ·cases List.all _ _ with
   | false=>rfl
   | true =>
    simp only [cond_true]
    cases call _ _ with
    | none=>rfl
    | some r=>simp only [Option.bind_some];cases putRes _ _ _ _ <;> rfl
 ·split
  ·split
   ·exact evCallM_bind ..
   ·rfl
  ·cases List.all _ _ with
   | false=>rfl
   | true =>
    simp only [cond_true]
    cases AV.fnId _ with
    | none=>rfl
    | some g =>
     simp only [Option.bind_some]
     cases callV C call _ _ <;> rfl
 ·exact evBuiltin_bind ..
 ·rfl
theorem evOp_bind (o:Oper) (st:St) (K:St→Option R):evOp C call f o st K=(evOp C call f o st some).bind K:=by
 cases ho:o.op with
 | move x=>simp only [evOp,ho];rfl
 | assign x=>simp only [evOp,ho];rfl
 | pick c a b=>simp only [evOp,ho];exact lift_bind ..
 | alloc t=>simp only [evOp,ho];cases C.ty t with
  | none=>rfl
  | some i=>cases o.dst <;> rfl
 | box t x =>
  simp only [evOp,ho]
  rw [cellsOf_bind];conv=>rhs;rw [cellsOf_bind]
  cases cellsOf C t (st.get C x) some with
  | none=>rfl
  | some cs =>
   simp only [Option.bind_some]
   cases C.pt t with
   | true =>
    simp only [cond_true]
    cases (cs.all Cell.isVal && !cs.isEmpty) <;> rfl
   | false=>cases o.dst <;> rfl
 | build t ps=>simp only [evOp,ho];cases C.ty t with
  | none=>rfl
  | some i =>
   simp only
   cases i.kd.agg with
   | false=>rfl
   | true =>
    simp only [cond_true]
    rw [fillC_bind];conv=>rhs;rw [fillC_bind]
    cases fillC C i.fields st ps.toList _ some <;> rfl
 | buildSlice t n ps =>
  simp only [evOp,ho]
  split
  ·cases (_ && _:Bool) with
   | false=>rfl
   | true =>
    simp only [cond_true]
    rw [fillE_bind];conv=>rhs;rw [fillE_bind]
    cases fillE C _ _ st ps.toList _ some with
    | none=>rfl
    | some l=>cases o.dst <;> rfl
  ·rfl
 | load t a=>simp only [evOp,ho];exact evLoad_bind ..
 | store t a x=>simp only [evOp,ho];cases o.dst with
  | none=>exact evStore_bind ..
  | some d=>rfl
 | binOp op t x y u =>
  simp only [evOp,ho]
  cases C.ty t with
  | none=>rfl
  | some i =>
   simp only
   cases i.kd.agg with
   | true =>
    simp only [cond_true]
    cases i.eqk with
    | none=>rfl
    | some ks=>exact lift_bind ..
   | false =>
    simp only [cond_false]
    cases i.kd <;> first | exact lift_bind .. | rfl
 | unOp op t x=>simp only [evOp,ho];exact lift_bind ..
 | convert s t x=>simp only [evOp,ho];exact evConv_bind ..
 | makeSlice t n c =>
  simp only [evOp,ho]
  split
  ·cases (bif _ then _ else _:Option (List AV)) with
   | none=>rfl
   | some l=>cases o.dst <;> rfl
  ·rfl
 | slice t x lo hi mx=>simp only [evOp,ho];exact evSlice_bind ..
 | fieldAddr t x i=>simp only [evOp,ho];split <;> rfl
 | field t x i =>
  simp only [evOp,ho]
  split
  ·rw [cellsOf_bind];conv=>rhs;rw [cellsOf_bind]
   cases cellsOf C t (st.get C x) some with
   | none=>rfl
   | some cs =>
    simp only [Option.bind_some]
    split
    ·cases Nat.ble _ _ <;> rfl
    ·rfl
  ·rfl
 | indexAddr t x i =>
  simp only [evOp,ho]
  split
  ·split
   ·cases Nat.beq _ _ with
    | false=>rfl
    | true=>simp only [cond_true];cases inN _ _ <;> rfl
   ·cases idx _ _ _ <;> rfl
   ·rfl
  ·rfl
 | index t x i =>
  simp only [evOp,ho]
  split
  ·exact lift_bind ..
  ·rfl
 | extract x i =>
  simp only [evOp,ho]
  cases x with
  | tmp t =>
   simp only
   split
   ·split <;> rfl
   ·exact lift_bind ..
   ·rfl
  | _=>rfl
 | makeFunc fn fi ca =>
  simp only [evOp,ho]
  split
  ·rfl
  ·cases capsOf _ <;> rfl
  ·rfl
 | nilCheck x=>simp only [evOp,ho];split <;> rfl
 | call c=>simp only [evOp,ho];exact evCall_bind ..
 | _=>simp only [evOp,ho];rfl
end
def Ev (p:Nat→Prop):Prop:=∃ n0,∀ n,n0≤n→p n
theorem Ev.of {p:Nat→Prop} (h:∀ n,p n):Ev p:=⟨0,fun n _=>h n⟩
theorem Ev.mono {p q:Nat→Prop} (h:Ev p) (hq:∀ n,p n→q n):Ev q:=by
 obtain ⟨n0,h⟩:=h;exact ⟨n0,fun n hn=>hq n (h n hn)⟩
theorem Ev.and {p q:Nat→Prop} (h:Ev p) (k:Ev q):Ev fun n=>p n∧q n:=by
 obtain ⟨a,h⟩:=h;obtain ⟨b,k⟩:=k
 exact ⟨max a b,fun n hn=>⟨h n (Nat.le_trans (Nat.le_max_left ..) hn),k n (Nat.le_trans (Nat.le_max_right ..) hn)⟩⟩
theorem Ev.const {p:Prop} (h:Ev fun _=>p):p:=by obtain ⟨n0,h⟩:=h;exact h n0 (Nat.le_refl _)
theorem Ev.ex {p:Nat→Prop} (h:Ev p):∃ n,p n:=by obtain ⟨n0,h⟩:=h;exact ⟨n0,h n0 (Nat.le_refl _)⟩
section
variable {C:Cfg} {call:Nat→List AV→Option AV} {cs:Nat→Nat→List AV→Option AV} {f:Nat}
theorem evCallM_ev (hc:∀ g xs r,call g xs=some r→Ev fun n=>cs n g xs=some r) {sg:Sig} {g:Nat} {xs:List Ent} {dst:Option Nat} {st st':St} (h:evCallM C call sg g xs dst st some=some st'):Ev fun n=>evCallM C (cs n) sg g xs dst st some=some st':=by
 unfold evCallM at h ⊢
 obtain ⟨sites,h1,h⟩:=Option.bind_eq_some_iff.1 h
 simp only at h
 generalize hb:(sigOk sg && (nodup sites && (parsOk sites sg.ps xs && (nodup (kIdss true (fun i=>sites.getD i 0) (st.fzs (parIds sg.ps xs ++ kIdss false (fun i=>sites.getD i 0) st.mem 0 sg.objs)).mem 0 sg.objs) && (C.own g).isEmpty))))=b at h
 cases b with
 | false=>cases h
 | true =>
  simp only [cond_true] at h
  obtain ⟨ins,h2,h⟩:=Option.bind_eq_some_iff.1 h
  obtain ⟨res,h3,h⟩:=Option.bind_eq_some_iff.1 h
  refine (hc _ _ _ h3).mono fun n hn=>?_
  simp only [h1,Option.bind_some,hb,cond_true,h2,hn]
  exact h
theorem evOp_ev (hc:∀ g xs r,call g xs=some r→Ev fun n=>cs n g xs=some r) (o:Oper) (st st':St) (h:evOp C call f o st some=some st'):Ev fun n=>evOp C (cs n) f o st some=some st':=by
 cases ho:o.op <;> first
  | (refine Ev.of fun n=>?_;simp only [evOp,ho] at h ⊢;exact h;done)
  | skip
 case call c =>
  simp only [evOp,ho] at h ⊢
  unfold evCall at h ⊢
  simp only at h ⊢
  split at h
  ·rename_i g hg
   cases hsig:C.sig g with
   | some sg =>
    rw [hsig] at h
    simp only [hg,hsig]
    exact evCallM_ev hc h
   | none =>
   rw [hsig] at h
   simp only at h
   cases ha:(c.args.toList.map (st.get C)).all Ent.told with
   | false=>rw [ha] at h;cases h
   | true =>
    rw [ha] at h
    simp only [cond_true] at h
    obtain ⟨r,hr,h⟩:=Option.bind_eq_some_iff.1 h
    refine (hc _ _ _ hr).mono fun n hn=>?_
    simp only [hg,hsig,ha,cond_true,hn,Option.bind_some]
    exact h
  ·rename_i t ht
   split at h
   ·rename_i g ss hge
    cases hsig:C.sig g with
    | none=>rw [hsig] at h;cases h
    | some sg =>
     rw [hsig] at h
     simp only [ht,hge,hsig]
     exact evCallM_ev hc h
   ·rename_i hnc
    cases ha:(c.args.toList.map (st.get C)).all Ent.told with
    | false=>rw [ha] at h;cases h
    | true =>
     rw [ha] at h
     simp only [cond_true] at h
     obtain ⟨g,hg,h⟩:=Option.bind_eq_some_iff.1 h
     obtain ⟨r,hr,h⟩:=Option.bind_eq_some_iff.1 h
     unfold callV at hr
     cases hb:((C.sig g).isNone && (C.own g).all Option.isNone) with
     | false=>rw [hb] at hr;cases hr
     | true =>
     rw [hb] at hr
     simp only [cond_true] at hr
     refine (hc _ _ _ hr).mono fun n hn=>?_
     simp only [cond_true,hg,Option.bind_some,callV,hb,hn]
     exact h
  ·rename_i b hb
   refine Ev.of fun n=>?_
   (try simp only [hb])
   exact h
  ·cases h
theorem evOps_ev (hc:∀ g xs r,call g xs=some r→Ev fun n=>cs n g xs=some r) {ops:Array Oper} {D:Option (List Nat)} :
  ∀ (m:Nat) {R:Type} (ctx:Option (Nat×Bool)) (l:List (Nat×Bool)) (st:St) (K:St→Option R) (Ks:Nat→St→Option R) (r:R),(∀ st r,K st=some r→Ev fun n=>Ks n st=some r) →
   evOps C call f ops D m ctx l st K=some r→Ev fun n=>evOps C (cs n) f ops D m ctx l st (Ks n)=some r
 | 0,R,ctx,l,st,K,Ks,r,hK,h=>by cases h
 | m+1,R,ctx,[],st,K,Ks,r,hK,h=>hK st r h
 | m+1,R,ctx,i :: l,st,K,Ks,r,hK,h=>by
  simp only [evOps] at h ⊢
  cases hlt:Nat.blt i.1 ops.size with
  | false=>rw [hlt] at h;cases h
  | true =>
   simp only [hlt,Bool.not_true,cond_false] at h ⊢
   cases hsg:sameG (opAt ops i.1).guard ctx with
   | true =>
    simp only [hsg,cond_true] at h ⊢
    cases hok:okOp C i.1 (opAt ops i.1) i.2 D st with
    | false=>rw [hok] at h;cases h
    | true =>
     simp only [hok,cond_true] at h ⊢
     rw [evOp_bind] at h
     obtain ⟨st',h1,h2⟩:=Option.bind_eq_some_iff.1 h
     refine ((evOp_ev hc _ _ _ h1).and (evOps_ev hc m _ l st' K Ks r hK h2)).mono fun n hn=>?_
     rw [evOp_bind,hn.1]
     exact hn.2
   | false =>
    simp only [hsg,cond_false] at h ⊢
    split at h
    ·cases h
    rename_i j want hg
    split at h
    ·cases h
    rename_i d hjd
    split at h
    case h_2=>cases h
    rename_i seg p A B rest hcut
    cases hh:(hangs C ops true j want d seg [] && Nat.blt p.1 ops.size) with
    | false =>
     rw [hh] at h
     simp only [cond_false] at h
     cases hh2:(hangs C ops false j want d seg [] && Nat.blt p.1 ops.size) with
     | false=>rw [hh2] at h;cases h
     | true =>
      rw [hh2] at h
      simp only [cond_true] at h
      have k1:∀ r,evOps C call f ops D m (some (j,want)) seg st (fun st=>evOps C call f ops D m ctx rest (st.put (opAt ops p.1).dst (st.get C (bif want then A else B))) K)=some r →
        Ev fun n=>evOps C (cs n) f ops D m (some (j,want)) seg st (fun st=>evOps C (cs n) f ops D m ctx rest (st.put (opAt ops p.1).dst (st.get C (bif want then A else B))) (Ks n))=some r :=
       fun r h=>evOps_ev hc m _ seg st _ (fun n st=>evOps C (cs n) f ops D m ctx rest (st.put (opAt ops p.1).dst (st.get C (bif want then A else B))) (Ks n)) r (fun st r h=>evOps_ev hc m _ rest _ K Ks r hK h) h
      have k2:∀ r,evOps C call f ops D m ctx rest ((st.deads (seg.filterMap fun i=>dstOf ops i.1)).put (opAt ops p.1).dst (st.get C (bif want then B else A))) K=some r →
        Ev fun n=>evOps C (cs n) f ops D m ctx rest ((st.deads (seg.filterMap fun i=>dstOf ops i.1)).put (opAt ops p.1).dst (st.get C (bif want then B else A))) (Ks n)=some r :=
       fun r h=>evOps_ev hc m _ rest _ K Ks r hK h
      unfold selM condM at h
      cases want with
      | true =>
       simp only [cond_true] at h
       split at h
       ·rename_i x hx
        cases x with
        | true=>exact (k1 r h).mono fun n hn=>by simp only [hjd,hcut,hh,hh2,cond_false,cond_true];unfold selM condM;rw [hx];exact hn
        | false=>exact (k2 r h).mono fun n hn=>by simp only [hjd,hcut,hh,hh2,cond_false,cond_true];unfold selM condM;rw [hx];exact hn
       ·cases h
      | false =>
       simp only [cond_false] at h
       split at h
       ·rename_i x hx
        cases x with
        | true=>exact (k2 r h).mono fun n hn=>by simp only [hjd,hcut,hh,hh2,cond_false,cond_true];unfold selM condM;rw [hx];exact hn
        | false=>exact (k1 r h).mono fun n hn=>by simp only [hjd,hcut,hh,hh2,cond_false,cond_true];unfold selM condM;rw [hx];exact hn
       ·cases h
    | true =>
     rw [hh] at h
     simp only [cond_true] at h
     obtain ⟨v,hv,h⟩:=Option.bind_eq_some_iff.1 h
     have hsel:Ev fun n=>selW (st.env d).pay want (evOps C (cs n) f ops D m (some (j,want)) seg st fun st=>some (st.get C (bif want then A else B)).pay) (st.get C (bif want then B else A)).pay=some v:=by
      unfold selW at hv ⊢
      split at hv
      ·rename_i x hx
       (try simp only [hx])
       cases hxw:(x == want) with
       | true =>
        simp only [hxw,cond_true] at hv ⊢
        split at hv
        ·rename_i y hy
         refine (evOps_ev hc m _ seg st _ (fun _ st=>some (st.get C (bif want then A else B)).pay) _ (fun st r h=>Ev.of fun _=>h) hy).mono fun n hn=>?_
         rw [hn]
         exact hv
        ·cases hv
       | false =>
        simp only [hxw,cond_false] at hv ⊢
        exact Ev.of fun _=>hv
      ·cases hv
     refine (hsel.and (evOps_ev hc m _ rest _ K Ks r hK h)).mono fun n hn=>?_
     simp only [hjd,hcut,hh,cond_true,hn.1,Option.bind_some]
     exact hn.2
theorem agree_some {R:Type} {A B:Option R} {r:R} (h:agree A B=some r):A=some r∧B=some r:=by
 unfold agree at h
 split at h
 ·rename_i e;exact ⟨h,e ▸ h⟩
 ·cases h
theorem agree_of {R:Type} {A B:Option R} {r:R} (h1:A=some r) (h2:B=some r):agree A B=some r:=by
 unfold agree
 rw [h1,h2,if_pos rfl]
@[simp] theorem same_eq {R:Type} (A:Option R):same A=A:=by
 unfold same agree
 rw [if_pos rfl]
theorem evTree_ev (hc:∀ g xs r,call g xs=some r→Ev fun n=>cs n g xs=some r) {R:Type} {ops:Array Oper} {D:Option (List Nat)} {m:Nat} {K:St→Option R} {Ks:Nat→St→Option R} (hK:∀ st r,K st=some r→Ev fun n=>Ks n st=some r) :
  ∀ (T:Plan) {st:St} {r:R},evTree C call f ops D m T st K=some r→Ev fun n=>evTree C (cs n) f ops D m T st (Ks n)=some r
 | .done,st,r,h=>hK st r h
 | .seq l t,st,r,h=>evOps_ev hc m _ l st _ (fun n st=>evTree C (cs n) f ops D m t st (Ks n)) r (fun st r h=>evTree_ev hc hK t h) h
 | .fork i x j y,st,r,h=>by
  simp only [evTree] at h ⊢
  obtain ⟨h1,h2⟩:=agree_some h
  have k1:=evOps_ev hc m _ [(i,false)] st _ (fun n st=>evTree C (cs n) f ops D m x st (Ks n)) r (fun st r h=>evTree_ev hc hK x h) h1
  have k2:=evOps_ev hc m _ [(j,false)] st _ (fun n st=>evTree C (cs n) f ops D m y st (Ks n)) r (fun st r h=>evTree_ev hc hK y h) h2
  exact (k1.and k2).mono fun n hn=>agree_of hn.1 hn.2
theorem evRegion_ev (hc:∀ g xs r,call g xs=some r→Ev fun n=>cs n g xs=some r) {R:Type} {rid:Nat} {ops:Array Oper} {draw:Bool} {st:St} {K:St→Option R} {Ks:Nat→St→Option R} {r:R} (hK:∀ st r,K st=some r→Ev fun n=>Ks n st=some r)
  (h:evRegion C call f rid ops draw st K=some r):Ev fun n=>evRegion C (cs n) f rid ops draw st (Ks n)=some r:=by
 unfold evRegion at h ⊢
 cases draw with
 | false =>
  simp only [cond_false] at h ⊢
  exact evOps_ev hc _ _ _ _ _ _ _ hK h
 | true =>
  simp only [cond_true] at h ⊢
  split at h
  ·rename_i p hp
   (try simp only [hp])
   exact evTree_ev hc hK p.1 h
  ·cases h
theorem step_ev (hc:∀ g xs r,call g xs=some r→Ev fun n=>cs n g xs=some r) {fn:Func} {go:List Item→St→Option AV} {gos:Nat→List Item→St→Option AV} (hgo:∀ k st r,go k st=some r→Ev fun n=>gos n k st=some r)
  {k:List Item} {st:St} {r:AV} (h:step C call f fn go k st=some r):Ev fun n=>step C (cs n) f fn (gos n) k st=some r:=by
 cases k with
 | nil=>exact Ev.of fun _=>h
 | cons it k =>
  cases it with
  | inBlock id=>exact hgo _ _ _ h
  | inScope c=>exact hgo _ _ _ h
  | inLoop c=>exact hgo _ _ _ h
  | code c =>
   cases c with
   | skip=>exact hgo _ _ _ h
   | label l=>exact hgo _ _ _ h
   | loop c=>exact hgo _ _ _ h
   | seq x y=>exact hgo _ _ _ h
   | block id c=>exact hgo _ _ _ h
   | scope c=>exact hgo _ _ _ h
   | ret=>exact Ev.of fun _=>h
   | exit id =>
    simp only [step] at h ⊢
    split at h
    ·rename_i k' he;(try simp only [he]);exact hgo _ _ _ h
    ·cases h
   | goto l =>
    simp only [step] at h ⊢
    split at h
    ·rename_i k' he;(try simp only [he]);exact hgo _ _ _ h
    ·cases h
   | cond c x y =>
    simp only [step,condM] at h ⊢
    split at h
    ·rename_i q hq
     (try simp only [hq])
     cases q with
     | true=>exact hgo _ _ _ h
     | false=>exact hgo _ _ _ h
    ·cases h
   | region id ops draw =>
    simp only [step] at h ⊢
    exact evRegion_ev hc (fun st r h=>hgo k st r h) h
   | _=>cases h
  | _=>cases h
theorem arr_ev {go:List Item→St→Option AV} {gos:Nat→List Item→St→Option AV} (hgo:∀ k st r,go k st=some r→Ev fun n=>gos n k st=some r) {k:List Item} {st:St} {r:AV} (h:arr C f go k st=some r):Ev fun n=>arr C f (gos n) k st=some r:=by
 unfold arr at h ⊢
 split at h
 ·rename_i l s hl;(try simp only [hl]);exact hgo _ _ _ h
 ·rename_i hl;(try simp only [hl]);exact hgo _ _ _ h
end
section
open Classical
noncomputable def semCall (C:Cfg) (P:Program) (g:Nat) (xs:List AV):Option AV:=if h:∃ r,Ev fun n=>(both C P n).1 g xs=some r then some (choose h) else none
noncomputable def semRun (C:Cfg) (P:Program) (f:Nat) (fn:Func) (k:List Item) (st:St):Option AV:=if h:∃ r,Ev fun n=>(both C P n).2 f fn k st=some r then some (choose h) else none
variable {C:Cfg} {P:Program}
theorem semCall_some {g:Nat} {xs:List AV} {r:AV} (h:semCall C P g xs=some r):Ev fun n=>(both C P n).1 g xs=some r:=by
 unfold semCall at h
 split at h
 ·rename_i hh
  have:=choose_spec hh
  cases h
  exact this
 ·cases h
theorem semRun_some {f:Nat} {fn:Func} {k:List Item} {st:St} {r:AV} (h:semRun C P f fn k st=some r):Ev fun n=>(both C P n).2 f fn k st=some r:=by
 unfold semRun at h
 split at h
 ·rename_i hh
  have:=choose_spec hh
  cases h
  exact this
 ·cases h
theorem semCall_of {g:Nat} {xs:List AV} {r:AV} (h:Ev fun n=>(both C P n).1 g xs=some r):semCall C P g xs=some r:=by
 have hh:∃ r,Ev fun n=>(both C P n).1 g xs=some r:=⟨r,h⟩
 unfold semCall
 rw [dif_pos hh]
 obtain ⟨n,h1,h2⟩:=((choose_spec hh).and h).ex
 rw [← h1];exact h2
theorem semRun_of {f:Nat} {fn:Func} {k:List Item} {st:St} {r:AV} (h:Ev fun n=>(both C P n).2 f fn k st=some r):semRun C P f fn k st=some r:=by
 have hh:∃ r,Ev fun n=>(both C P n).2 f fn k st=some r:=⟨r,h⟩
 unfold semRun
 rw [dif_pos hh]
 obtain ⟨n,h1,h2⟩:=((choose_spec hh).and h).ex
 rw [← h1];exact h2
theorem Ev.succ {p:Nat→Prop} (h:Ev fun n=>p (n+1)):Ev p:=by
 obtain ⟨n0,h⟩:=h
 refine ⟨n0+1,fun n hn=>?_⟩
 obtain ⟨m,rfl⟩:∃ m,n=m+1:=⟨n - 1,by omega⟩
 exact h m (by omega)
theorem semRun_step {f:Nat} {fn:Func} {k:List Item} {st:St} {r:AV} (h:step C (semCall C P) f fn (arr C f (semRun C P f fn)) k st=some r):semRun C P f fn k st=some r :=
 semRun_of (Ev.succ (step_ev (cs:=fun n=>(both C P n).1) (gos:=fun n=>arr C f ((both C P n).2 f fn)) (fun _ _ _ h=>semCall_some h) (fun _ _ _ h=>arr_ev (gos:=fun n=>(both C P n).2 f fn) (fun _ _ _ h=>semRun_some h) h) h))
noncomputable def unr (C:Cfg) (call:Nat→List AV→Option AV) (run:List Item→St→Option AV) (f:Nat) (fn:Func):Nat→List Item→St→Option AV
 | 0,_,_=>none
 | n+1,k,st=>match stopOf C f k with
  | some (l,s)=>run k (st.canon l s)
  | none=>step C call f fn (unr C call run f fn n) k st
theorem unr_ok {f:Nat} {fn:Func}:∀ (n:Nat) {k:List Item} {st:St} {r:AV},unr C (semCall C P) (semRun C P f fn) f fn n k st=some r→arr C f (semRun C P f fn) k st=some r
 | 0,k,st,r,h=>by cases h
 | n+1,k,st,r,h=>by
  simp only [unr] at h
  unfold arr
  split at h
  ·rename_i l s hl;simp only [hl];exact h
  ·rename_i hl
   simp only [hl]
   refine semRun_step ?_
   exact (step_ev (cs:=fun _=>semCall C P) (gos:=fun _=>arr C f (semRun C P f fn)) (fun _ _ _ h=>Ev.of fun _=>h) (fun _ _ _ h=>Ev.of fun _=>unr_ok n h) h).const
theorem semRun_unr {f:Nat} {fn:Func} (n:Nat) {k:List Item} {st:St} {r:AV} (h:step C (semCall C P) f fn (unr C (semCall C P) (semRun C P f fn) f fn n) k st=some r):semRun C P f fn k st=some r :=
 semRun_step (step_ev (cs:=fun _=>semCall C P) (gos:=fun _=>arr C f (semRun C P f fn)) (fun _ _ _ h=>Ev.of fun _=>h) (fun _ _ _ h=>Ev.of fun _=>unr_ok n h) h).const
theorem semCall_unr {g:Nat} {fn:Func} {c:Code} (hfn:P.funcs[g]?=some fn) (hb:fn.body=some c) (n:Nat) {xs:List AV} {r:AV} (hl:lenOk C g fn.ntmps xs.length=true) (h:unr C (semCall C P) (semRun C P g fn) g fn n [.code c] (initF C g fn.ntmps xs)=some r) (hgv:C.gv g=none:=by rfl):semCall C P g xs=some r:=by
 refine semCall_of (Ev.succ ?_)
 have h1:=arr_ev (C:=C) (f:=g) (gos:=fun n=>(both C P n).2 g fn) (fun _ _ _ h=>semRun_some h) (unr_ok n h)
 refine h1.mono fun n hn=>?_
 show (match C.gv g with
   | some G=>bif (C.own g).all Option.isNone && (C.sig g).isNone then G xs else none
   | none=>match P.funcs[g]? with
    | some fn=>match fn.body with
     | some c=>bif lenOk C g fn.ntmps xs.length then arr C g ((both C P n).2 g fn) [.code c] (initF C g fn.ntmps xs) else none
     | none=>bif (C.own g).all Option.isNone && (C.sig g).isNone then ext fn.name xs else none
    | none=>none)=some r
 rw [hgv]
 simp only
 rw [hfn]
 simp only [hb,hl,cond_true]
 exact hn
theorem semCall_ext {g:Nat} {fn:Func} (hfn:P.funcs[g]?=some fn) (hb:fn.body=none) (ho:((C.own g).all Option.isNone && (C.sig g).isNone)=true) {xs:List AV} {r:AV} (h:ext fn.name xs=some r) (hgv:C.gv g=none:=by rfl):semCall C P g xs=some r:=by
 refine semCall_of (Ev.succ (Ev.of fun n=>?_))
 show (match C.gv g with
   | some G=>bif (C.own g).all Option.isNone && (C.sig g).isNone then G xs else none
   | none=>match P.funcs[g]? with
    | some fn=>match fn.body with
     | some c=>bif lenOk C g fn.ntmps xs.length then arr C g ((both C P n).2 g fn) [.code c] (initF C g fn.ntmps xs) else none
     | none=>bif (C.own g).all Option.isNone && (C.sig g).isNone then ext fn.name xs else none
    | none=>none)=some r
 rw [hgv]
 simp only
 rw [hfn]
 simp only [hb,ho,cond_true]
 exact h
theorem semCall_gv {g:Nat} {G:List AV→Option AV} (hgv:C.gv g=some G) (ho:((C.own g).all Option.isNone && (C.sig g).isNone)=true) {xs:List AV} {r:AV} (h:G xs=some r):semCall C P g xs=some r:=by
 refine semCall_of (Ev.succ (Ev.of fun n=>?_))
 show (match C.gv g with
   | some G=>bif (C.own g).all Option.isNone && (C.sig g).isNone then G xs else none
   | none=>match P.funcs[g]? with
    | some fn=>match fn.body with
     | some c=>bif lenOk C g fn.ntmps xs.length then arr C g ((both C P n).2 g fn) [.code c] (initF C g fn.ntmps xs) else none
     | none=>bif (C.own g).all Option.isNone && (C.sig g).isNone then ext fn.name xs else none
    | none=>none)=some r
 rw [hgv]
 simp only [ho,cond_true]
 exact h
theorem semCall_ok (hfit:Fit C P):CallOk C P (semCall C P) :=
 ⟨fun g xs r h hs=>by
  obtain ⟨n,hn⟩:=(semCall_some h).ex
  exact (both_ok hfit n).1.1 g xs r hn hs,
 fun g sg xs r h hs=>by
  obtain ⟨n,hn⟩:=(semCall_some h).ex
  exact (both_ok hfit n).1.2 g sg xs r hn hs⟩
end
end Sx

namespace Sx
open Go
abbrev CallT:=Nat→List AV→Option AV
abbrev RunT:=List Item→St→Option AV
def tabGet {α:Type}:List (Nat×α)→Nat→Option α
 | [],_=>none
 | p :: r,t=>bif Nat.beq p.1 t then some p.2 else tabGet r t
def tabGet2 {α:Type}:List ((Nat×Nat)×α)→Nat→Nat→Option α
 | [],_,_=>none
 | p :: r,f,t=>bif Nat.beq p.1.1 f && Nat.beq p.1.2 t then some p.2 else tabGet2 r f t
def mkCfg (ty:List (Nat×Ty)) (plan:List ((Nat×Nat)×(Plan×List Nat))) (stops:List (Nat×List (Nat×List (Nat×Option (Nat×Nat))×List (Nat×List (Nat×Nat×Nat))))) (own:List (Nat×List (Option (Nat×Nat))))
  (trunc:List (Nat×List Nat)) (glob:Nat→Option (Nat×AV)) (sig:List (Nat×Sig)) (gv:Nat→Option (List AV→Option AV):=fun _=>none) (pt:Nat→Bool:=fun _=>false):Cfg where
 ty:=tabGet ty
 own:=fun f=>(tabGet own f).getD []
 stops:=fun f=>(tabGet stops f).getD []
 plan:=tabGet2 plan
 trunc:=fun f t=>((tabGet trunc f).getD []).any (Nat.beq t)
 glob:=glob
 sig:=tabGet sig
 gv:=gv
 pt:=pt
def kAt (rid:Nat):Code→List Item→Option (List Item)
 | .region id ops d,k=>bif Nat.beq id rid then some (.code (.region id ops d) :: k) else none
 | .seq a b,k=>match kAt rid a (.code b :: k) with
  | some r=>some r
  | none=>kAt rid b k
 | .cond _ a b,k=>match kAt rid a k with
  | some r=>some r
  | none=>kAt rid b k
 | .block id c,k=>kAt rid c (.inBlock id :: k)
 | .loop c,k=>kAt rid c (.inLoop c :: k)
 | .scope c,k=>kAt rid c (.inScope c :: k)
 | _,_=>none
end Sx

namespace Sx
open Go
def avB:AV→AV→Bool
 | .un, .un=>true
 | .b x, .b y=>x == y
 | .u8 x, .u8 y=>Nat.beq x.toNat y.toNat
 | .int x, .int y=>decide (x=y)
 | .ik k x, .ik k' y=>decide (k=k') && decide (x=y)
 | .s [], .s []=>true
 | .nils, .nils=>true
 | .nilf, .nilf=>true
 | .nilp, .nilp=>true
 | _,_=>false
theorem avB_eq {a b:AV} (h:avB a b=true):a=b:=by
 unfold avB at h
 split at h
 ·rfl
 ·rename_i x y;have:x=y:=by simpa using h
  rw [this]
 ·rw [UInt8.toNat_inj.1 (Nat.eq_of_beq_eq_true h)]
 ·rw [of_decide_eq_true h]
 ·rw [Bool.and_eq_true] at h
  rw [of_decide_eq_true h.1,of_decide_eq_true h.2]
 ·rfl
 ·rfl
 ·rfl
 ·rfl
 ·cases h
def avsB:List AV→List AV→Bool
 | [],[]=>true
 | x :: xs,y :: ys=>avB x y && avsB xs ys
 | _,_=>false
theorem avsB_eq:∀ {l m:List AV},avsB l m=true→l=m
 | [],[],_=>rfl
 | x :: xs,y :: ys,h=>by
  simp only [avsB,Bool.and_eq_true] at h
  rw [avB_eq h.1,avsB_eq h.2]
 | [],y :: ys,h=>by cases h
 | x :: xs,[],h=>by cases h
def fieldsB:List Field→List (Nat×Nat)→Bool
 | [],[]=>true
 | f :: fs,p :: ps=>Nat.beq f.offset p.1 && Nat.beq f.type p.2 && fieldsB fs ps
 | _,_=>false
theorem fieldsB_eq:∀ {l:List Field} {m:List (Nat×Nat)},fieldsB l m=true→l.map (fun f=>(f.offset,f.type))=m
 | [],[],_=>rfl
 | f :: fs,p :: ps,h=>by
  simp only [fieldsB,Bool.and_eq_true] at h
  simp only [List.map_cons]
  rw [fieldsB_eq h.2,Nat.eq_of_beq_eq_true h.1.1,Nat.eq_of_beq_eq_true h.1.2]
 | [],_ :: _,h=>by cases h
 | _ :: _,[],h=>by cases h
def ekB (P:Program) (t:TypeId):EK→Bool
 | .b=>match P.underlying t with | some .bool=>true | _=>false
 | .i=>match P.underlying t with | some (.int _)=>true | _=>false
 | .s=>match P.underlying t with | some .string=>true | _=>false
theorem ekB_ok {P:Program} {t:TypeId} {k:EK} (h:ekB P t k=true):EKOk P t k:=by
 cases k <;> simp only [ekB] at h <;> split at h <;> first | (cases h;done) | skip
 ·rename_i hu;exact hu
 ·rename_i k hu;exact ⟨k,hu⟩
 ·rename_i hu;exact hu
def eqFB (P:Program):Nat→List Field→List EK→Bool
 | _,[],[]=>true
 | n,f :: fs,k :: ks=>Nat.beq f.offset n && !(f.name == "_") && ekB P f.type k && eqFB P (n+1) fs ks
 | _,_,_=>false
theorem eqFB_ok {P:Program}:∀ {n:Nat} {fs:List Field} {ks:List EK},eqFB P n fs ks=true→fs.length=ks.length∧∀ (j:Nat) (f:Field) (k:EK),fs[j]?=some f→ks[j]?=some k→f.offset=n+j∧f.name ≠ "_" ∧ EKOk P f.type k
 | n,[],[],_=>⟨rfl,fun j f k h=>by simp at h⟩
 | n,f :: fs,k :: ks,h=>by
  simp only [eqFB,Bool.and_eq_true] at h
  obtain ⟨⟨⟨h1,h2⟩,h3⟩,h4⟩:=h
  obtain ⟨q1,q2⟩:=eqFB_ok h4
  refine ⟨by simp [q1],fun j f' k' hf hk=>?_⟩
  cases j with
  | zero =>
   simp at hf hk
   subst hf hk
   exact ⟨Nat.eq_of_beq_eq_true h1,by simpa using h2,ekB_ok h3⟩
  | succ j =>
   obtain ⟨a,b⟩:=q2 j f' k' (by simpa using hf) (by simpa using hk)
   exact ⟨by omega,b⟩
 | n,[],_ :: _,h=>by simp [eqFB] at h
 | n,_ :: _,[],h=>by simp [eqFB] at h
def kdB (P:Program) (t:TypeId) (i:Ty):Bool :=
 match i.kd,P.underlying t with
 | .bool,some .bool=>true
 | .int k,some (.int k')=>decide (k=k')
 | .str,some .string=>true
 | .slice,some (.slice e)=>Nat.beq e i.elem
 | .struct,some (.struct fs)=>fieldsB fs.toList i.fields && fs.toList.all fun f=>match P.info? f.type with | some inf=>!Nat.beq inf.size 0 | none=>false
 | .ptr,some (.pointer _)=>true
 | .func,some (.struct _) | .func,some (.array _ _) | .other,some (.struct _) | .other,some (.array _ _)=>false
 | .func,some _ | .other,some _=>true
 | _,_=>false
def tyB (P:Program) (t:TypeId) (i:Ty):Bool :=
 (match P.info? t with
  | some inf=>Nat.beq inf.size i.size && Nat.beq inf.bytes i.bytes && (match inf.zero with
   | some z=>avsB (z.cells.toList.map ofV) i.zero && Nat.beq z.cells.size i.size && z.cells.toList.all Value.oneCell'
   | none=>false)
  | none=>false) && kdB P t i && Nat.blt 0 i.size && Nat.blt 0 i.bytes && (i.kd.agg || Nat.beq i.size 1) && (match i.kd with | .struct=>true | _=>i.fields.isEmpty) &&
 (match i.eqk with
  | none=>true
  | some ks=>!P.stoodInHeld t && !P.eqGuardType P.depth t && (match P.underlying t with | some (.struct fs)=>eqFB P 0 fs.toList ks | _=>false))
theorem tyB_ok {P:Program} {t:TypeId} {i:Ty} (h:tyB P t i=true):TyOk P t i:=by
 unfold tyB at h
 simp only [Bool.and_eq_true] at h
 obtain ⟨⟨⟨⟨⟨⟨h1,h2⟩,h3⟩,h4⟩,h5⟩,h6⟩,h7⟩:=h
 refine { info:=?_,und:=?_,pos:=⟨by unfold Nat.blt at h3;exact Nat.le_of_ble_eq_true h3,by unfold Nat.blt at h4;exact Nat.le_of_ble_eq_true h4⟩,one:=fun hh=>?_,fieldsOnly:=fun hh=>?_,eqOk:=fun ks hk=>?_ }
 ·split at h1
  ·rename_i inf hinf
   simp only [Bool.and_eq_true] at h1
   obtain ⟨⟨q1,q2⟩,q3⟩:=h1
   split at q3
   ·rename_i z hz
    simp only [Bool.and_eq_true] at q3
    exact ⟨inf,z,hinf,Nat.eq_of_beq_eq_true q1,Nat.eq_of_beq_eq_true q2,hz,avsB_eq q3.1.1,Nat.eq_of_beq_eq_true q3.1.2,fun v hv=>List.all_eq_true.1 q3.2 v hv⟩
   ·cases q3
  ·cases h1
 ·unfold kdB at h2
  cases hk:i.kd <;> rw [hk] at h2 <;> cases hu:P.underlying t <;> rw [hu] at h2 <;> simp only at h2 ⊢ <;> first | (cases h2;done) | skip
  all_goals rename_i d
  all_goals cases d <;> simp only at h2 <;> first | (cases h2;done) | skip
  all_goals first
   | rfl
   | (rw [of_decide_eq_true h2];done)
   | (rw [Nat.eq_of_beq_eq_true h2];done)
   | exact ⟨_,rfl,rfl⟩
   | exact ⟨_,rfl⟩
   | skip
  rename_i fs
  rw [Bool.and_eq_true] at h2
  refine ⟨fs,rfl,fieldsB_eq h2.1,fun f hf=>?_⟩
  have:=List.all_eq_true.1 h2.2 f hf
  split at this
  ·rename_i inf hinf
   refine ⟨inf,hinf,fun e=>?_⟩
   rw [e] at this
   cases this
  ·cases this
 ·rw [hh,Bool.false_or] at h5
  exact Nat.eq_of_beq_eq_true h5
 ·cases hk:i.kd <;> rw [hk] at h6 hh <;> first | exact absurd rfl hh | exact List.isEmpty_iff.1 h6
 ·rw [hk] at h7
  simp only [Bool.and_eq_true,Bool.not_eq_true'] at h7
  obtain ⟨⟨q1,q2⟩,q3⟩:=h7
  split at q3
  ·rename_i fs hu
   obtain ⟨z1,z2⟩:=eqFB_ok q3
   exact { stood:=q1,guard:=q2,fields:=⟨fs,hu,by simpa using z1,fun j f k h1 h2=>by have:=z2 j f k h1 h2;simpa using this⟩ }
  ·cases q3
theorem tab_ok {P:Program} {l:List (Nat×Ty)} (h:l.all (fun p=>tyB P p.1 p.2)=true):∀ t i,tabGet l t=some i→TyOk P t i:=by
 induction l with
 | nil=>intro t i hi;cases hi
 | cons p r ih =>
  simp only [List.all_cons,Bool.and_eq_true] at h
  intro t i hi
  simp only [tabGet] at hi
  cases hb:Nat.beq p.1 t with
  | true =>
   rw [hb] at hi
   simp only [cond_true,Option.some.injEq] at hi
   rw [← Nat.eq_of_beq_eq_true hb,← hi]
   exact tyB_ok h.1
  | false=>rw [hb] at hi;exact ih h.2 t i hi
def fnB (C:Cfg) (f:Nat) (fn:Func):Bool :=
 match fn.body with
 | some c=>codeB (regB C f fn.ntmps) c && !(fn.name == "runtime.NumGoroutine")
 | none=>true
def fnsB (C:Cfg):Nat→List Func→Bool
 | _,[]=>true
 | n,fn :: r=>fnB C n fn && fnsB C (n+1) r
theorem fnsB_ok {C:Cfg}:∀ {n:Nat} {l:List Func},fnsB C n l=true→∀ (j:Nat) (fn:Func),l[j]?=some fn→fnB C (n+j) fn=true
 | n,[],_,j,fn,h=>by simp at h
 | n,g :: r,h,j,fn,hf=>by
  simp only [fnsB,Bool.and_eq_true] at h
  cases j with
  | zero=>simp at hf;subst hf;exact h.1
  | succ j =>
   have:=fnsB_ok h.2 j fn (by simpa using hf)
   rw [show n+1+j=n+(j+1) by omega] at this
   exact this
theorem Fit.of {C:Cfg} {P:Program} {tab:List (Nat×Ty)} (hC:C.ty=tabGet tab) (h1:tab.all (fun p=>tyB P p.1 p.2)=true) (h2:fnsB C 0 P.funcs.toList=true) (h3:P.follows .mixedOrders=true)
  (h4:∀ (f:Nat) (fn:Func),P.funcs[f]?=some fn→fn.body=none→(fn.name == "internal/bytealg.IndexByteString")=true→∀ (s:ByteArray) (c:Int) (w:World),(callFunc f #[.string s, .int .u8 c]).run P w=.ok (.value (.int .i64 (Lib.indexByte s.data.toList c.toNat.toUInt8))) w)
  (h5:∀ (g:Nat) (G:List AV→Option AV),C.gv g=some G→(C.own g).all Option.isNone=true→∀ (args:List AV) (r:AV),G args=some r→∀ (w:World) (F:Nat→Prop) (vs:Array Value),GlobOk C w F→vs.size=args.length →
   (∀ (j:Nat) (a:AV) (v:Value),args[j]?=some a→vs[j]?=some v→Rel w F a v)→CallRuns P g vs w (PostOk C g w F r):=by intro g G h;exact nomatch (show (none:Option (List AV→Option AV))=some G from h)):Fit C P:=by
 have hf:∀ (f:Nat) (fn:Func) (c:Code),P.funcs[f]?=some fn→fn.body=some c→codeB (regB C f fn.ntmps) c=true∧(fn.name == "runtime.NumGoroutine")=false:=by
  intro f fn c hfn hb
  have:=fnsB_ok h2 f fn (by rw [Array.getElem?_toList];exact hfn)
  rw [Nat.zero_add] at this
  unfold fnB at this
  rw [hb] at this
  simp only [Bool.and_eq_true,Bool.not_eq_true'] at this
  exact this
 exact { ty:=fun t i hi=>tab_ok h1 t i (by rw [← hC];exact hi),code:=fun f fn c h1 h2=>(hf f fn c h1 h2).1,mixed:=h3,name:=fun f fn c h1 h2=>(hf f fn c h1 h2).2,gv:=h5,ext:=h4 }
def idxB (n:Nat):Nat→List Func→Bool
 | _,[]=>true
 | m,fn :: r=>(fn.body.isSome || !(fn.name == "internal/bytealg.IndexByteString") || Nat.beq m n) && idxB n (m+1) r
theorem idxB_ok {n:Nat}:∀ {m:Nat} {l:List Func},idxB n m l=true→∀ (j:Nat) (fn:Func),l[j]?=some fn→fn.body=none→(fn.name == "internal/bytealg.IndexByteString")=true→m+j=n
 | m,[],_,j,fn,h,_,_=>by simp at h
 | m,g :: r,h,j,fn,hf,hb,hn=>by
  simp only [idxB,Bool.and_eq_true] at h
  cases j with
  | zero =>
   simp at hf
   subst hf
   have:=h.1
   rw [hb,hn] at this
   simp only [Option.isSome_none,Bool.not_true,Bool.or_self,Bool.false_or] at this
   exact Nat.eq_of_beq_eq_true this
  | succ j =>
   have:=idxB_ok h.2 j fn (by simpa using hf) hb hn
   omega
theorem ext_of {P:Program} {n:Nat} (hall:idxB n 0 P.funcs.toList=true) (hrun:∀ (s:ByteArray) (c:Int) (w:World),(callFunc n #[.string s, .int .u8 c]).run P w=.ok (.value (.int .i64 (Lib.indexByte s.data.toList c.toNat.toUInt8))) w) :
  ∀ (f:Nat) (fn:Func),P.funcs[f]?=some fn→fn.body=none→(fn.name == "internal/bytealg.IndexByteString")=true→∀ (s:ByteArray) (c:Int) (w:World),(callFunc f #[.string s, .int .u8 c]).run P w=.ok (.value (.int .i64 (Lib.indexByte s.data.toList c.toNat.toUInt8))) w:=by
 intro f fn hfn hb hn
 have:=idxB_ok hall f fn (by rw [Array.getElem?_toList];exact hfn) hb hn
 rw [Nat.zero_add] at this
 rw [this]
 exact hrun
theorem run_idx {P:Program} {n:Nat} {fn:Func} (h1:P.funcs[n]?=some fn) (h2:(fn.name == "runtime.NumGoroutine")=false) (h3:fn.body=none) (h4:(Extern.findNext fn).isNone=true) (h5:Extern.find fn=some Extern.BytealgIndexByte.indexByte) (s:ByteArray) (c:Int) (w:World) :
  (callFunc n #[.string s, .int .u8 c]).run P w=.ok (.value (.int .i64 (Lib.indexByte s.data.toList c.toNat.toUInt8))) w:=by
 have h2':¬ fn.name = "runtime.NumGoroutine" := by simpa using h2
 have h4':Extern.findNext fn=none:=by simpa using h4
 simp [callFunc,h1,h2',h3,h4',h5,Lib.run_indexByteString]
end Sx

namespace Sx
open Go Go.RowKit
theorem calls_true {C:Cfg} {P:Program} (hfit:Fit C P) {g:Nat} {fn:Func} {c:Code} (hfn:P.funcs[g]?=some fn) (hb:fn.body=some c) (ho:(C.own g).all Option.isNone=true) (hs:C.sig g=none) {args:List AV} {b:Bool} (h:semCall C P g args=some (.b b))
  (w:World) (F:Nat→Prop) (vs:Array Value) (hG:GlobOk C w F) (hl:vs.size=args.length) (hv:∀ (j:Nat) (a:AV) (v:Value),args[j]?=some a→vs[j]?=some v→Rel w F a v) :
  Calls P g vs w (fun e w'=>e=.returned (.bool b)∧Below w.heap.size w w'):=by
 have hname:=hfit.name g fn c hfn hb
 rcases (semCall_ok hfit).1 g args _ h hs w F vs hG hl hv with ⟨fn',c',_,_,_,hc⟩ | ⟨v,hv',_⟩
 ·refine Calls.mono hc fun e w' he=>?_
  obtain ⟨v,rfl,hx,hr⟩:=he
  unfold ResOk at hr
  rw [if_pos ho] at hr
  cases hr
  exact ⟨rfl,⟨hx.os,hx.tape,hx.output,hx.size,hx.block⟩⟩
 ·exfalso
  have hname':¬ fn.name = "runtime.NumGoroutine" := by simpa using hname
  simp [callFunc,hfn,hb,hname'] at hv'
end Sx

namespace Sx
open Go
variable {C:Cfg} {P:Program}
end Sx

namespace Sx
open Go
section cond
variable {R:Type}
@[simp] theorem condM_b (x:Bool) (A B:Option R):condM (.b x) A B=if x=true then A else B:=by cases x <;> rfl
@[simp] theorem selW_tt (b:Bool) (A:AV):selW (.b true) true (some (.b b)) A=some (.b b):=rfl
@[simp] theorem selW_tf (A:Option AV) (b:Bool):selW (.b false) true A (.b b)=some (.b b):=rfl
@[simp] theorem selW_ff (b:Bool) (A:AV):selW (.b false) false (some (.b b)) A=some (.b b):=rfl
@[simp] theorem selW_ft (A:Option AV) (b:Bool):selW (.b true) false A (.b b)=some (.b b):=rfl
@[simp] theorem selW_and (x y:Bool):selW (.b x) true (some (.b y)) (.b false)=some (.b (x && y)):=by cases x <;> rfl
@[simp] theorem selW_or (x y:Bool):selW (.b x) false (some (.b y)) (.b true)=some (.b (x || y)):=by cases x <;> rfl
end cond
section one
@[simp] theorem one_u8 (x:UInt8):AV.one (.u8 x)=some (.u8 x):=rfl
@[simp] theorem one_b (x:Bool):AV.one (.b x)=some (.b x):=rfl
@[simp] theorem one_int (x:Int):AV.one (.int x)=some (.int x):=rfl
@[simp] theorem one_ik (k:IntKind) (x:Int):AV.one (.ik k x)=some (.ik k x):=rfl
@[simp] theorem one_s (x:List UInt8):AV.one (.s x)=some (.s x):=rfl
@[simp] theorem one_nils:AV.one .nils=some .nils:=rfl
@[simp] theorem one_ro (k:Nat) (l:List AV):AV.one (.ro k l)=some (.ro k l):=rfl
@[simp] theorem cell_u8 (x:UInt8):AV.cell (.u8 x) 0=.u8 x:=rfl
@[simp] theorem cell_b (x:Bool):AV.cell (.b x) 0=.b x:=rfl
@[simp] theorem cell_int (x:Int):AV.cell (.int x) 0=.int x:=rfl
@[simp] theorem cell_ik (k:IntKind) (x:Int):AV.cell (.ik k x) 0=.ik k x:=rfl
@[simp] theorem cell_s (x:List UInt8):AV.cell (.s x) 0=.s x:=rfl
@[simp] theorem cell_ro (k:Nat) (l:List AV):AV.cell (.ro k l) 0=.ro k l:=rfl
@[simp] theorem cell_nils:AV.cell .nils 0=.nils:=rfl
@[simp] theorem cell_ag (l:List AV) (j:Nat):AV.cell (.ag l) j=l.getD j .un:=by cases j <;> rfl
end one
section num
theorem u8_lt (x:UInt8):x.toNat < 256:=x.toNat_lt
theorem ofI_u8 {n:Nat} (h:n < 256):AV.ofI .u8 (n:Int)=some (.u8 (UInt8.ofNat n)):=by
 unfold AV.ofI
 rw [if_pos ⟨by omega,by omega⟩]
 simp
@[simp] theorem ofI_int (n:Int):AV.ofI .i64 n=some (.int n):=rfl
@[simp] theorem u8_eql (x y:UInt8):binI .eql (.u8 x) (.u8 y)=some (.b (x == y)):=by
 show some (AV.b ((x.toNat:Int) == (y.toNat:Int)))=_
 congr 2
 rw [Bool.eq_iff_iff]
 simp only [beq_iff_eq,Int.ofNat_inj]
 exact ⟨fun h=>UInt8.toNat_inj.1 h,fun h=>by rw [h]⟩
@[simp] theorem u8_neq (x y:UInt8):binI .neq (.u8 x) (.u8 y)=some (.b (x != y)):=by
 show some (AV.b ((x.toNat:Int) != (y.toNat:Int)))=_
 congr 2
 rw [Bool.eq_iff_iff]
 simp only [bne_iff_ne,ne_eq,Int.ofNat_inj]
 exact ⟨fun h e=>h (by rw [e]),fun h e=>h (UInt8.toNat_inj.1 e)⟩
@[simp] theorem u8_lss (x y:UInt8):binI .lss (.u8 x) (.u8 y)=some (.b (decide (x < y))):=by
 show some (AV.b (decide ((x.toNat:Int) < (y.toNat:Int))))=_
 congr 2
 rw [decide_eq_decide,UInt8.lt_iff_toNat_lt];omega
@[simp] theorem u8_leq (x y:UInt8):binI .leq (.u8 x) (.u8 y)=some (.b (decide (x≤y))):=by
 show some (AV.b (decide ((x.toNat:Int)≤(y.toNat:Int))))=_
 congr 2
 rw [decide_eq_decide,UInt8.le_iff_toNat_le];omega
@[simp] theorem u8_gtr (x y:UInt8):binI .gtr (.u8 x) (.u8 y)=some (.b (decide (y < x))):=by
 show some (AV.b (decide ((x.toNat:Int) > (y.toNat:Int))))=_
 congr 2
 rw [decide_eq_decide,UInt8.lt_iff_toNat_lt];omega
@[simp] theorem u8_geq (x y:UInt8):binI .geq (.u8 x) (.u8 y)=some (.b (decide (y≤x))):=by
 show some (AV.b (decide ((x.toNat:Int) ≥ (y.toNat:Int))))=_
 congr 2
 rw [decide_eq_decide,UInt8.le_iff_toNat_le];omega
@[simp] theorem ik_eql (k:IntKind) (x y:Int):binI .eql (.ik k x) (.ik k y)=some (.b (x == y)):=by
 show (if k=k then intOp .eql k x y else none)=_
 rw [if_pos rfl];rfl
@[simp] theorem int_eql (x y:Int):binI .eql (.int x) (.int y)=some (.b (x == y)):=rfl
@[simp] theorem int_neq (x y:Int):binI .neq (.int x) (.int y)=some (.b (x != y)):=rfl
@[simp] theorem int_lss (x y:Int):binI .lss (.int x) (.int y)=some (.b (decide (x < y))):=rfl
@[simp] theorem int_leq (x y:Int):binI .leq (.int x) (.int y)=some (.b (decide (x≤y))):=rfl
@[simp] theorem int_gtr (x y:Int):binI .gtr (.int x) (.int y)=some (.b (decide (y < x))):=rfl
@[simp] theorem int_geq (x y:Int):binI .geq (.int x) (.int y)=some (.b (decide (y≤x))):=rfl
theorem wrap_i64 {n:Int} (h1:-9223372036854775808≤n) (h2:n < 9223372036854775808):IntKind.i64.wrap n=n:=by
 simp only [IntKind.wrap,IntKind.bits,IntKind.signed,Bool.true_and]
 split <;> rename_i h <;> simp only [decide_eq_true_eq,ge_iff_le] at h <;> omega
theorem int_add {x y:Int} (h1:-9223372036854775808≤x+y) (h2:x+y < 9223372036854775808):binI .add (.int x) (.int y)=some (.int (x+y)):=by
 show some (AV.int (IntKind.i64.wrap (x+y)))=_
 rw [wrap_i64 h1 h2]
theorem int_sub {x y:Int} (h1:-9223372036854775808≤x - y) (h2:x - y < 9223372036854775808):binI .sub (.int x) (.int y)=some (.int (x - y)):=by
 show some (AV.int (IntKind.i64.wrap (x - y)))=_
 rw [wrap_i64 h1 h2]
@[simp] theorem conv_int_u8 (x:UInt8):conv .i64 (.u8 x)=some (.int x.toNat):=by
 show some (AV.int (IntKind.i64.wrap (x.toNat:Int)))=_
 have:=u8_lt x
 rw [wrap_i64 (by omega) (by omega)]
theorem wrap_u8 {n:Int} (h1:0≤n) (h2:n < 256):IntKind.u8.wrap n=n:=by
 simp only [IntKind.wrap,IntKind.bits,IntKind.signed,Bool.false_and,Bool.false_eq_true,if_false]
 omega
@[simp] theorem conv_u8_u8 (x:UInt8):conv .u8 (.u8 x)=some (.u8 x):=by
 have:=u8_lt x
 unfold conv
 simp only [AV.toI,Option.bind_some]
 rw [wrap_u8 (by omega) (by omega),ofI_u8 this,UInt8.ofNat_toNat]
@[simp] theorem unop_not (x:Bool):unop .not (.b x)=some (.b (!x)):=rfl
end num
section strs
@[simp] theorem s_eql (p q:List UInt8):binS .eql (.s p) (.s q)=some (.b (p == q)):=rfl
@[simp] theorem s_neq (p q:List UInt8):binS .neq (.s p) (.s q)=some (.b (p != q)):=rfl
theorem s_add {p q:List UInt8} (h:p.length+q.length≤big):binS .add (.s p) (.s q)=some (.s (p ++ q)):=by
 show (if p.length+q.length≤big then some (AV.s (p ++ q)) else none)=_
 rw [if_pos h]
@[simp] theorem b_eql (p q:Bool):binB .eql (.b p) (.b q)=some (.b (p == q)):=rfl
@[simp] theorem b_neq (p q:Bool):binB .neq (.b p) (.b q)=some (.b (p != q)):=rfl
@[simp] theorem lenS_s (l:List UInt8):lenS (.s l)=some (.int l.length):=rfl
@[simp] theorem lenR_ro (k:Nat) (l:List AV):lenR (.ro k l)=some (.int l.length):=rfl
@[simp] theorem lenR_nils:lenR .nils=some (.int 0):=rfl
theorem inN_int {n i:Nat} (h:i < n):inN n (.int (i:Int))=some i:=by
 show (if 0≤(i:Int)∧(i:Int) < (n:Int) then some (i:Int).toNat else none)=_
 rw [if_pos ⟨by omega,by omega⟩];simp
theorem upN_int {n i:Nat} (h:i≤n):upN n (.int (i:Int))=some i:=by
 show (if 0≤(i:Int)∧(i:Int)≤(n:Int) then some (i:Int).toNat else none)=_
 rw [if_pos ⟨by omega,by omega⟩];simp
theorem idxS_int {l:List UInt8} {i:Nat} (h:i < l.length):idxS (.s l) (.int (i:Int))=some (.u8 l[i]):=by
 show ((inN l.length (.int (i:Int))).bind fun n=>some (AV.u8 (l.getD n 0)))=_
 rw [inN_int h]
 simp [h]
theorem idx_u8 {l:List UInt8} {i:Nat} (h:i < l.length):idx 1 (.ro 1 (l.map .u8)) (.int (i:Int))=some (.u8 l[i]):=by
 show (if 1=1 then (inN (l.map AV.u8).length (.int (i:Int))).bind fun n=>some ((l.map AV.u8).getD n .un) else none)=_
 rw [if_pos rfl,inN_int (by simpa using h)]
 simp [h]
theorem bytesOf_map (l:List UInt8):bytesOf (l.map .u8)=some l:=by
 induction l with
 | nil=>rfl
 | cons x r ih=>simp [bytesOf,ih]
theorem b2s_u8 {l:List UInt8} (h:l.length≤big):b2s (.ro 1 (l.map .u8))=some (.s l):=by
 show ((bytesOf (l.map AV.u8)).bind fun p=>if p.length≤big then some (AV.s p) else none)=_
 rw [bytesOf_map]
 simp [h]
end strs
end Sx

namespace Sx
open Go
theorem all_u8 {p:UInt8→Bool} (h:(List.range 256).all (fun n=>p (UInt8.ofNat n))=true) (x:UInt8):p x=true:=by
 have:=List.all_eq_true.1 h x.toNat (List.mem_range.2 (u8_lt x))
 simpa using this
theorem all_u8_eq {f g:UInt8→Bool} (h:(List.range 256).all (fun n=>f (UInt8.ofNat n) == g (UInt8.ofNat n))=true) (x:UInt8):f x=g x:=by
 simpa using all_u8 (p:=fun x=>f x == g x) h x
theorem bytesOf_eq:∀ {m:List AV} {l:List UInt8},bytesOf m=some l→m=l.map .u8
 | [],l,h=>by cases h;rfl
 | x :: r,l,h=>by
  cases x <;> simp only [bytesOf] at h <;> try (cases h;done)
  obtain ⟨l',h1,h2⟩:=Option.bind_eq_some_iff.1 h
  cases h2
  rw [bytesOf_eq h1];rfl
def isStr (o:Option AV) (l:List UInt8):Bool :=
 match o with
 | some (.s m)=>m == l
 | _=>false
theorem of_isStr {o:Option AV} {l:List UInt8} (h:isStr o l=true):o=some (.s l):=by
 unfold isStr at h
 split at h
 ·rw [eq_of_beq h]
 ·cases h
theorem idxS_at (p:List UInt8) (c:UInt8) (r:List UInt8):idxS (.s (p ++ c :: r)) (.int (p.length:Int))=some (.u8 c):=by
 rw [idxS_int (by simp)];simp
theorem idx_at (p:List UInt8) (c:UInt8) (r:List UInt8):idx 1 (.ro 1 ((p ++ c :: r).map .u8)) (.int (p.length:Int))=some (.u8 c):=by
 rw [idx_u8 (by simp)];simp
theorem snoc_len (p:List UInt8) (c:UInt8):((p.length:Int)+1)=((p ++ [c]).length:Int):=by simp
theorem snoc_app (p:List UInt8) (c:UInt8) (r:List UInt8):p ++ c :: r=(p ++ [c]) ++ r:=by simp
theorem lt_len (p:List UInt8) (c:UInt8) (r:List UInt8):decide ((p.length:Int) < ((p ++ c :: r).length:Int))=true:=by simp;omega
theorem lt_len' (p:List UInt8) (c:UInt8) (r:List UInt8):decide ((p.length:Int) < (((p ++ c :: r).map AV.u8).length:Int))=true:=by simp;omega
theorem nlt_len (p:List UInt8):decide ((p.length:Int) < ((p ++ []).length:Int))=false:=by simp
theorem nlt_map (p:List UInt8):decide ((p.length:Int) < ((p.map AV.u8).length:Int))=false:=by simp
theorem nlt_self (n:Int):decide (n < n)=false:=by simp
end Sx
namespace Sx
def isU8 (o:Option AV) (x:UInt8):Bool :=
 match o with
 | some (.u8 m)=>m == x
 | _=>false
theorem of_isU8 {o:Option AV} {x:UInt8} (h:isU8 o x=true):o=some (.u8 x):=by
 unfold isU8 at h
 split at h
 ·rw [eq_of_beq h]
 ·cases h
end Sx

namespace Sx
open Go
def ueq (x y:UInt8):Bool:=(x.toNat:Int) == (y.toNat:Int)
def une (x y:UInt8):Bool:=(x.toNat:Int) != (y.toNat:Int)
def ult (x y:UInt8):Bool:=decide ((x.toNat:Int) < (y.toNat:Int))
def ule (x y:UInt8):Bool:=decide ((x.toNat:Int)≤(y.toNat:Int))
def ugt (x y:UInt8):Bool:=decide ((x.toNat:Int) > (y.toNat:Int))
def uge (x y:UInt8):Bool:=decide ((x.toNat:Int) ≥ (y.toNat:Int))
def w64 (n:Int):Int:=IntKind.i64.wrap n
@[simp] theorem ueq_eq (x y:UInt8):ueq x y=(x == y):=by
 have:=u8_eql x y
 have h:binI .eql (.u8 x) (.u8 y)=some (.b (ueq x y)):=rfl
 rw [h] at this;simpa using this
@[simp] theorem une_eq (x y:UInt8):une x y=(x != y):=by
 have:=u8_neq x y
 have h:binI .neq (.u8 x) (.u8 y)=some (.b (une x y)):=rfl
 rw [h] at this;simpa only [Option.some.injEq,AV.b.injEq] using this
@[simp] theorem ult_eq (x y:UInt8):ult x y=decide (x < y):=by
 have:=u8_lss x y
 have h:binI .lss (.u8 x) (.u8 y)=some (.b (ult x y)):=rfl
 rw [h] at this;simpa only [Option.some.injEq,AV.b.injEq] using this
@[simp] theorem ule_eq (x y:UInt8):ule x y=decide (x≤y):=by
 have:=u8_leq x y
 have h:binI .leq (.u8 x) (.u8 y)=some (.b (ule x y)):=rfl
 rw [h] at this;simpa only [Option.some.injEq,AV.b.injEq] using this
@[simp] theorem ugt_eq (x y:UInt8):ugt x y=decide (y < x):=by
 have:=u8_gtr x y
 have h:binI .gtr (.u8 x) (.u8 y)=some (.b (ugt x y)):=rfl
 rw [h] at this;simpa only [Option.some.injEq,AV.b.injEq] using this
@[simp] theorem uge_eq (x y:UInt8):uge x y=decide (y≤x):=by
 have:=u8_geq x y
 have h:binI .geq (.u8 x) (.u8 y)=some (.b (uge x y)):=rfl
 rw [h] at this;simpa only [Option.some.injEq,AV.b.injEq] using this
theorem w64_eq {n:Int} (h1:-9223372036854775808≤n) (h2:n < 9223372036854775808):w64 n=n:=wrap_i64 h1 h2
@[simp] theorem w64_u8 (x:UInt8):w64 (x.toNat:Int)=x.toNat:=by have:=u8_lt x;exact w64_eq (by omega) (by omega)
theorem w64_inc (p:List UInt8) (c:UInt8) (r:List UInt8) (h:(p ++ c :: r).length < 9223372036854775808):w64 ((p.length:Int)+1)=((p ++ [c]).length:Int):=by
 simp at h
 rw [w64_eq (by omega) (by omega),snoc_len p c]
end Sx
namespace Sx
open Go
theorem u8_add (x y:UInt8):binI .add (.u8 x) (.u8 y)=some (.u8 (x+y)):=by
 unfold binI intOp
 simp only [AV.toI,Option.bind_some,if_true]
 have h:IntKind.u8.wrap ((x.toNat:Int)+(y.toNat:Int))=(((x.toNat+y.toNat) % 256:Nat):Int):=by
  simp only [IntKind.wrap,IntKind.bits,IntKind.signed,Bool.false_and,Bool.false_eq_true,if_false]
  omega
 rw [h,ofI_u8 (by omega)]
 congr 2
 apply UInt8.toNat_inj.1
 rw [UInt8.toNat_add,UInt8.toNat_ofNat_of_lt' (by show _ < 256;omega)]
theorem mm_u8 (x y:UInt8):mm true (.u8 x) (.u8 y)=some (.u8 (if y < x then y else x)):=rfl
end Sx

namespace Sx
open Go Go.RowKit Go.WideShapes
inductive Lf where
 | b | u8 | int | ik (k:IntKind) | s | sl (agg:Bool) (ls:List Lf)
inductive Is:Lf→AV→Prop
 | b (x:Bool):Is .b (.b x)
 | u8 (x:UInt8):Is .u8 (.u8 x)
 | int (n:Int) (h:(Lit.int .i64 n).wf=true):Is .int (.int n)
 | ik (k:IntKind) (n:Int) (h:(Lit.int k n).wf=true):Is (.ik k) (.ik k n)
 | s (l:List UInt8) (h:l.length≤maxLen):Is .s (.s l)
 | sl1 (lf:Lf) (l:List AV) (h:∀ x ∈ l,Is lf x) (hm:l.length≤maxLen):Is (.sl false [lf]) (.ro 1 l)
 | slA (ls:List Lf) (ms:List (List AV)) (hl:∀ m ∈ ms,m.length=ls.length) (h:∀ m ∈ ms,∀ (j:Nat) (a:Lf) (x:AV),ls[j]?=some a→m[j]?=some x→Is a x) (hm:ms.length≤maxLen):Is (.sl true ls) (.ro ls.length (ms.map .ag))
mutual
def wt:AV→Nat
 | .s l=>l.length+1
 | .ro _ l=>wts l+1
 | .ag l=>wts l
 | _=>1
def wts:List AV→Nat
 | []=>0
 | x :: r=>wt x+wts r
end
mutual
def bulk {H:Type}:DataW H→Nat
 | .lit (.string bytes)=>bytes.length+1
 | .lit _=>1
 | .nil=>1
 | .ptr d=>bulk d+1
 | .slice elems spare=>bulkAll elems+bulkAll spare+1
 | .agg parts=>bulkAll parts+1
 | .iface _ d=>bulk d+1
 | .map entries=>bulkEntries entries+1
 | .held _=>1
def bulkAll {H:Type}:List (DataW H)→Nat
 | []=>0
 | d :: r=>bulk d+bulkAll r
def bulkEntries {H:Type}:List (Lit×DataW H)→Nat
 | []=>0
 | x :: r=>bulkEntry x+bulkEntries r
def bulkEntry {H:Type}:Lit×DataW H→Nat
 | (.string bytes,d)=>bytes.length+bulk d+1
 | (_,d)=>bulk d+1
end
theorem wts_append (l m:List AV):wts (l ++ m)=wts l+wts m:=by
 induction l with
 | nil=>simp [wts]
 | cons x r ih=>simp only [List.cons_append,wts,ih];omega
section leaves
variable (P:Program)
def isSt (t:TypeId):Bool:=match P.underlying t with | some (.struct _)=>true | _=>false
mutual
def leaves:Nat→TypeId→Option (List Lf)
 | 0,_=>none
 | n+1,t=>match P.underlying t with
  | some .bool=>some [.b]
  | some (.int k)=>match k with
   | .u8=>some [.u8]
   | .i64=>some [.int]
   | k=>some [.ik k]
  | some .string=>some [.s]
  | some (.slice e)=>(leaves n e).bind fun ls=>bif Nat.beq ls.length (P.cellsOf e) && Nat.blt 0 ls.length && (isSt P e || Nat.beq ls.length 1) then some [.sl (isSt P e) ls] else none
  | some (.struct fs)=>(leavesF n fs.toList 0).bind fun ls=>bif Nat.beq ls.length (P.cellsOf t) then some ls else none
  | _=>none
def leavesF:Nat→List Field→Nat→Option (List Lf)
 | 0,_,_=>none
 | _+1,[],_=>some []
 | n+1,f :: r,off=>(leaves n f.type).bind fun ls=>bif Nat.beq f.offset off && Nat.beq ls.length (P.cellsOf f.type) then (leavesF n r (off+ls.length)).map (ls ++ ·) else none
end
end leaves
structure Opened (w:World) (ls:List Lf) (cs:List Value) (as:List AV):Prop where
 len1:as.length=ls.length
 len2:cs.length=ls.length
 one:∀ v ∈ cs,v.oneCell'=true
 rel:∀ (j:Nat) (v:Value),cs[j]?=some v→Rel w (fun _=>True) (as.getD j .un) v
 is:∀ (j:Nat) (lf:Lf) (a:AV),ls[j]?=some lf→as[j]?=some a→Is lf a
theorem Opened.nil (w:World):Opened w [] [] []:=⟨rfl,rfl,fun v h=>(by cases h),fun j v h=>(by simp at h),fun j lf a h=>(by simp at h)⟩
theorem Opened.single {w:World} {lf:Lf} {v:Value} {a:AV} (h1:v.oneCell'=true) (h2:Rel w (fun _=>True) a v) (h3:Is lf a):Opened w [lf] [v] [a]:=by
 refine ⟨rfl,rfl,fun u h=>?_,fun j u h=>?_,fun j l x hl hx=>?_⟩
 ·simp at h;subst h;exact h1
 ·cases j with
  | zero=>simp at h;subst h;exact h2
  | succ j=>simp at h
 ·cases j with
  | zero=>simp at hl hx;subst hl;subst hx;exact h3
  | succ j=>simp at hl
theorem Opened.append {w:World} {ls ls':List Lf} {cs cs':List Value} {as as':List AV} (h:Opened w ls cs as) (h':Opened w ls' cs' as'):Opened w (ls ++ ls') (cs ++ cs') (as ++ as'):=by
 have e1:=h.len1;have e2:=h.len2
 refine ⟨by simp [h.len1,h'.len1],by simp [h.len2,h'.len2],fun v hv=>?_,fun j v hv=>?_,fun j lf a hl ha=>?_⟩
 ·rcases List.mem_append.1 hv with hv | hv
  ·exact h.one v hv
  ·exact h'.one v hv
 ·by_cases hj:j < cs.length
  ·rw [List.getElem?_append_left hj] at hv
   have:=h.rel j v hv
   rwa [List.getD_eq_getElem?_getD,List.getElem?_append_left (by omega),← List.getD_eq_getElem?_getD]
  ·rw [List.getElem?_append_right (by omega)] at hv
   have:=h'.rel _ v hv
   rwa [List.getD_eq_getElem?_getD,List.getElem?_append_right (by omega),show j - as.length=j - cs.length by omega,← List.getD_eq_getElem?_getD]
 ·by_cases hj:j < ls.length
  ·rw [List.getElem?_append_left hj] at hl
   rw [List.getElem?_append_left (by omega)] at ha
   exact h.is j lf a hl ha
  ·rw [List.getElem?_append_right (by omega)] at hl
   rw [List.getElem?_append_right (by omega),show j - as.length=j - ls.length by omega] at ha
   exact h'.is _ lf a hl ha
theorem cells?_get {w:World} {base:Nat} {a:Addr} {n:Nat} {cs:List Value} (h:w.cells? base a n=some cs):cs.length=n∧∀ (j:Nat) (v:Value),cs[j]?=some v→w.cell? (a.add j)=some v:=by
 unfold World.cells? at h
 split at h
 ·have hl:=mapM_some_length h
  simp at hl
  refine ⟨hl,fun j v hv=>?_⟩
  have hj:j < n:=by have:=(List.getElem?_eq_some_iff.1 hv).1;omega
  have:=mapM_some_get h j j (by simp [hj])
  rw [this,hv]
 ·cases h
theorem exists_list {α:Type} {p:Nat→α→Prop}:∀ n:Nat,(∀ i,i < n→∃ a,p i a)→∃ L:List α,L.length=n∧∀ i a,L[i]?=some a→p i a
 | 0,_=>⟨[],rfl,fun i a h=>(by simp at h)⟩
 | n+1,h=>by
  obtain ⟨L,hl,hL⟩:=exists_list n (fun i hi=>h i (by omega))
  obtain ⟨a,ha⟩:=h n (by omega)
  refine ⟨L ++ [a],by simp [hl],fun i x hx=>?_⟩
  by_cases hi:i < L.length
  ·rw [List.getElem?_append_left hi] at hx;exact hL i x hx
  ·rw [List.getElem?_append_right (by omega)] at hx
   have hi0:i - L.length=0:=by
    have:=(List.getElem?_eq_some_iff.1 hx).1
    simp at this;omega
   rw [hi0] at hx
   simp at hx
   rw [← hx,show i=n by omega]
   exact ha
theorem bulks_le {H:Type}:∀ {L:List (List AV)} {ds:List (DataW H)},L.length=ds.length→(∀ (i:Nat) (as:List AV) (d:DataW H),L[i]?=some as→ds[i]?=some d→wts as≤bulk d)→wts (L.map .ag)≤bulkAll ds
 | [],[],_,_=>Nat.le_refl _
 | as :: L,d :: ds,hl,h=>by
  have h0:=h 0 as d rfl rfl
  have:=bulks_le (L:=L) (ds:=ds) (by simpa using hl) (fun i a x h1 h2=>h (i+1) a x (by simpa using h1) (by simpa using h2))
  simp only [List.map_cons,wts,wt,bulkAll]
  omega
 | [],_ :: _,hl,_=>by simp at hl
 | _ :: _,[],hl,_=>by simp at hl
theorem bulks_le1 {H:Type}:∀ {L:List (List AV)} {ds:List (DataW H)},L.length=ds.length→(∀ (i:Nat) (as:List AV) (d:DataW H),L[i]?=some as→ds[i]?=some d→wts as≤bulk d∧as.length=1)→wts (L.map (·.getD 0 .un))≤bulkAll ds
 | [],[],_,_=>Nat.le_refl _
 | as :: L,d :: ds,hl,h=>by
  obtain ⟨h0,h1⟩:=h 0 as d rfl rfl
  have:=bulks_le1 (L:=L) (ds:=ds) (by simpa using hl) (fun i a x h1 h2=>h (i+1) a x (by simpa using h1) (by simpa using h2))
  cases as with
  | nil=>simp at h1
  | cons x r =>
   have:r=[]:=List.eq_nil_of_length_eq_zero (by simpa using h1)
   subst this
   simp only [wts] at h0
   simp only [List.map_cons,wts,bulkAll,List.getD_cons_zero]
   omega
 | [],_ :: _,hl,_=>by simp at hl
 | _ :: _,[],hl,_=>by simp at hl
theorem Is.notAg {lf:Lf} {a:AV} (h:Is lf a):∀ j,j < 1→a.cell j=a:=by
 intro j hj
 obtain rfl:j=0:=by omega
 cases h <;> rfl
section opening
variable {H:Type} {enc:TypeId×Value→H} {P:Program} {w:World} {base:Nat} {spare:Nat→Bool} {held:Bool}
theorem open_leaves:∀ n:Nat,(∀ (t:TypeId) (ls:List Lf) (fuel:Nat) (cs:List Value) (x:DataW H×List MemPlace),leaves P n t=some ls→DataW.trod enc P w base spare held fuel t cs=some x→∃ as,Opened w ls cs as∧wts as≤bulk x.1) ∧
  (∀ (fs:List Field) (off:Nat) (ls:List Lf) (fuel:Nat) (cs:List Value) (xs:List (DataW H×List MemPlace)),leavesF P n fs off=some ls→xs.length=fs.length→cs.length=off+ls.length →
   (∀ (i:Nat) (f:Field),fs[i]?=some f→DataW.trod enc P w base spare held fuel f.type ((cs.drop f.offset).take (P.cellsOf f.type))=xs[i]?)→∃ as,Opened w ls (cs.drop off) as∧wts as≤bulkAll (xs.map (·.1)))
 | 0=>⟨fun t ls fuel cs x h=>(by simp [leaves] at h),fun fs off ls fuel cs xs h=>(by simp [leavesF] at h)⟩
 | n+1=>by
  obtain ⟨ih1,ih2⟩:=open_leaves n
  refine ⟨fun t ls fuel cs x h ht=>?_,fun fs off ls fuel cs xs h hl hc hx=>?_⟩
  ·simp only [leaves] at h
   cases hu:P.underlying t with
   | none=>rw [hu] at h;cases h
   | some d =>
    rw [hu] at h
    cases d <;> simp only at h <;> try (cases h;done)
    case bool =>
     cases h
     obtain ⟨b,rfl,rfl⟩:=DataW.trod_bool hu ht
     exact ⟨[.b b],Opened.single rfl (.b b) (.b b),Nat.le_refl _⟩
    case int k =>
     obtain ⟨m,rfl,rfl,hw⟩:=DataW.trod_int hu ht
     cases k <;> simp only at h <;> cases h <;> first
      | exact ⟨[.int m],Opened.single rfl (.int m) (.int m hw),Nat.le_refl _⟩
      | exact ⟨[.ik _ m],Opened.single rfl (.ik _ m) (.ik _ m hw),Nat.le_refl _⟩
      | skip
     have hb:0≤m∧m < 256:=by
      simp only [Lit.wf,Bool.and_eq_true,decide_eq_true_eq] at hw
      have h1:IntKind.u8.min=0:=rfl
      have h2:IntKind.u8.max=255:=rfl
      omega
     refine ⟨[.u8 (UInt8.ofNat m.toNat)],Opened.single rfl ?_ (.u8 _),Nat.le_refl _⟩
     have:=Rel.u8 (w:=w) (F:=fun _=>True) (UInt8.ofNat m.toNat)
     rw [UInt8.toNat_ofNat_of_lt' (by show m.toNat < 256;omega)] at this
     rwa [show ((m.toNat:Nat):Int)=m by omega] at this
    case string =>
     cases h
     obtain ⟨s,rfl,rfl,hs⟩:=DataW.trod_string hu ht
     exact ⟨[.s s.data.toList],Opened.single rfl (.s s) (.s _ (by simpa using hs)),Nat.le_refl _⟩
    case slice e =>
     obtain ⟨ls',hls,h⟩:=Option.bind_eq_some_iff.1 h
     cases hb:(Nat.beq ls'.length (P.cellsOf e) && Nat.blt 0 ls'.length && (isSt P e || Nat.beq ls'.length 1)) with
     | false=>rw [hb] at h;cases h
     | true =>
      rw [hb] at h
      simp only [cond_true,Option.some.injEq] at h
      subst h
      simp only [Bool.and_eq_true,Bool.or_eq_true] at hb
      obtain ⟨⟨b1,b2⟩,b3⟩:=hb
      have b1:=Nat.eq_of_beq_eq_true b1
      have b2:0 < ls'.length:=by simpa [Nat.blt_eq] using b2
      rcases DataW.trod_slice hu ht with ⟨rfl,rfl⟩ | ⟨a,len,cap,elems,rest,m,rfl,rfl,rfl,_,hlc,hcm,hel,hget,_,_⟩
      ·cases hst:isSt P e with
       | true=>exact ⟨[.ro ls'.length []],Opened.single rfl (.ro0 _ none 0) (.slA ls' [] (fun _ h=>by cases h) (fun _ h=>by cases h) (Nat.zero_le _)),Nat.le_refl _⟩
       | false =>
        rw [hst] at b3
        have b4:ls'.length=1:=by
         rcases b3 with h | h
         ·cases h
         ·exact Nat.eq_of_beq_eq_true h
        obtain ⟨lf,rfl⟩:∃ lf,ls'=[lf]:=by
         cases ls' with
         | nil=>simp at b4
         | cons lf r=>exact ⟨lf,by rw [List.eq_nil_of_length_eq_zero (l:=r) (by simpa using b4)]⟩
        exact ⟨[.ro 1 []],Opened.single rfl (.ro0 _ none 0) (.sl1 lf [] (fun _ h=>by cases h) (Nat.zero_le _)),Nat.le_refl _⟩
      ·
       have hel':∀ i,i < len→∃ as,∃ (cs:List Value) (d:DataW H),w.cells? base (a.add (i * P.cellsOf e)) (P.cellsOf e)=some cs∧(elems.map (·.1))[i]?=some d∧Opened w ls' cs as∧wts as≤bulk d:=by
        intro i hi
        have h1:=hget i hi
        have h2:elems[i]?=some elems[i]:=List.getElem?_eq_getElem (by omega)
        rw [h2] at h1
        obtain ⟨cs,hcs,htr⟩:=Option.bind_eq_some_iff.1 h1
        obtain ⟨as,ho,hle⟩:=ih1 e ls' m cs _ hls htr
        exact ⟨as,cs,_,hcs,by simp [h2],ho,hle⟩
       obtain ⟨L,hL,hp⟩:=exists_list len hel'
       have hLe:L.length=(elems.map (·.1)).length:=by simp;omega
       have hAll:∀ (i:Nat) (as:List AV),L[i]?=some as→as.length=ls'.length∧∀ d,(elems.map (·.1))[i]?=some d→wts as≤bulk d:=by
        intro i as hi
        obtain ⟨cs,d,_,hd,ho,hle⟩:=hp i as hi
        exact ⟨ho.len1,fun d' hd'=>by rw [hd] at hd';cases hd';exact hle⟩
       have key:∀ (F:List AV→AV),(∀ (i:Nat) (as:List AV) (j:Nat),L[i]?=some as→j < ls'.length→(F as).cell j=as.getD j .un)→Rel w (fun _=>True) (.ro ls'.length (L.map F)) (.slice (some a) len cap):=by
        intro F hF
        by_cases h0:len=0
        ·subst h0
         rw [List.eq_nil_of_length_eq_zero hL]
         exact .ro0 _ _ _
        ·have hsp:a.spot=none:=by
          obtain ⟨as,cs,d,hcs,hd,ho,hle⟩:=hel' 0 (by omega)
          obtain ⟨hcl,hcg⟩:=cells?_get hcs
          have h1:cs[0]?=some cs[0]:=List.getElem?_eq_getElem (by omega)
          have h2:=hcg 0 _ h1
          have:=World.cell?_spot h2
          simpa [Addr.add] using this
         obtain ⟨r,off,sp⟩:=a
         simp only at hsp
         subst hsp
         have hcell:∀ i j,i < len→j < ls'.length→∃ (as:List AV) (v:Value),L[i]?=some as∧w.cell? ⟨r,off+(i * ls'.length+j),none⟩=some v∧v.oneCell'=true∧Rel w (fun _=>True) (as.getD j .un) v:=by
          intro i j hi hj
          have hi':L[i]?=some L[i]:=List.getElem?_eq_getElem (by omega)
          obtain ⟨cs,d,hcs,hd,ho,hle⟩:=hp i _ hi'
          obtain ⟨hcl,hcg⟩:=cells?_get hcs
          have h1:cs[j]?=some cs[j]:=List.getElem?_eq_getElem (by omega)
          refine ⟨_,_,hi',?_,ho.one _ (List.getElem_mem (by omega)),ho.rel j _ h1⟩
          have h2:=hcg j _ h1
          rw [add_plain,add_plain,← b1] at h2
          rw [← Nat.add_assoc]
          exact h2
         have:=Rel.ro (w:=w) (F:=fun _=>True) ls'.length (L.map F) r off cap ((List.range (len * ls'.length)).map fun m=>(w.cell? ⟨r,off+m,none⟩).getD undef) b2 (by simp;omega) trivial (by simp [hL]) ?_ ?_ ?_
         ·simpa [hL] using this
         ·intro j v hj
          have hlt:=(List.getElem?_eq_some_iff.1 hj).1
          simp only [List.length_map,List.length_range] at hlt
          simp only [List.getElem?_map,List.getElem?_range hlt,Option.map_some,Option.some.injEq] at hj
          have hq:j / ls'.length < len:=Nat.div_lt_of_lt_mul (by rw [Nat.mul_comm];exact hlt)
          have hr:=Nat.mod_lt j b2
          obtain ⟨as,u,_,hc,_,_⟩:=hcell _ _ hq hr
          rw [Nat.mul_comm,Nat.div_add_mod] at hc
          rw [hc] at hj ⊢
          simpa using hj
         ·intro v hv
          obtain ⟨j,hj,rfl⟩:=List.mem_map.1 hv
          have hlt:=List.mem_range.1 hj
          have hq:j / ls'.length < len:=Nat.div_lt_of_lt_mul (by rw [Nat.mul_comm];exact hlt)
          have hr:=Nat.mod_lt j b2
          obtain ⟨as,u,_,hc,h1,_⟩:=hcell _ _ hq hr
          rw [Nat.mul_comm,Nat.div_add_mod] at hc
          rw [hc]
          exact h1
         ·intro i j v hi hj hv
          simp only [List.length_map] at hi
          obtain ⟨as,u,hL',hc,h1,hrel⟩:=hcell i j (by omega) hj
          have hlt:=(List.getElem?_eq_some_iff.1 hv).1
          simp only [List.length_map,List.length_range] at hlt
          simp only [List.getElem?_map,List.getElem?_range hlt,Option.map_some,Option.some.injEq] at hv
          rw [hc] at hv
          simp only [Option.getD_some] at hv
          subst hv
          rw [show (L.map F).getD i .un=F as by simp [List.getD_eq_getElem?_getD,hL'],hF i as j hL' hj]
          exact hrel
       cases hst:isSt P e with
       | true =>
        refine ⟨[.ro ls'.length (L.map .ag)],Opened.single rfl (key .ag fun i as j _ _=>cell_ag as j) (.slA ls' L (fun m hm=>?_) (fun m hm j lf x hj hx=>?_) (by omega)),?_⟩
        ·obtain ⟨i,hi,rfl⟩:=List.getElem_of_mem hm
         exact (hAll i _ (List.getElem?_eq_getElem hi)).1
        ·obtain ⟨i,hi,rfl⟩:=List.getElem_of_mem hm
         obtain ⟨cs,d,_,_,ho,_⟩:=hp i _ (List.getElem?_eq_getElem hi)
         exact ho.is j lf x hj hx
        ·have:=bulks_le hLe (fun i as d h1 h2=>(hAll i as h1).2 d h2)
         simp only [wts,wt,bulk]
         omega
       | false =>
        rw [hst] at b3
        have b4:ls'.length=1:=by
         rcases b3 with h | h
         ·cases h
         ·exact Nat.eq_of_beq_eq_true h
        obtain ⟨lf,rfl⟩:∃ lf,ls'=[lf]:=by
         cases ls' with
         | nil=>simp at b4
         | cons lf r=>exact ⟨lf,by rw [List.eq_nil_of_length_eq_zero (l:=r) (by simpa using b4)]⟩
        have hIs:∀ (i:Nat) (as:List AV),L[i]?=some as→Is lf (as.getD 0 .un):=by
         intro i as hi
         obtain ⟨cs,d,_,_,ho,_⟩:=hp i as hi
         have hl:=ho.len1
         cases as with
         | nil=>simp at hl
         | cons x r=>exact ho.is 0 lf x rfl rfl
        refine ⟨[.ro 1 (L.map (·.getD 0 .un))],Opened.single rfl (key (·.getD 0 .un) fun i as j hi hj=>?_) (.sl1 lf _ (fun x hx=>?_) (by simp only [List.length_map];omega)),?_⟩
        ·have hj1:j < 1:=by simpa using hj
         rw [(hIs i as hi).notAg j hj1,show j=0 by omega]
        ·obtain ⟨as,has,rfl⟩:=List.mem_map.1 hx
         obtain ⟨i,hi,rfl⟩:=List.getElem_of_mem has
         exact hIs i _ (List.getElem?_eq_getElem hi)
        ·have:=bulks_le1 hLe (fun i as d h1 h2=>⟨(hAll i as h1).2 d h2,by simpa using (hAll i as h1).1⟩)
         simp only [wts,wt,bulk]
         omega
    case struct fs =>
     obtain ⟨ls',hls,h⟩:=Option.bind_eq_some_iff.1 h
     cases hb:Nat.beq ls'.length (P.cellsOf t) with
     | false=>rw [hb] at h;cases h
     | true =>
      rw [hb] at h
      simp only [cond_true,Option.some.injEq] at h
      subst h
      obtain ⟨xs,m,rfl,rfl,hcl,hxl,hget⟩:=DataW.trod_struct hu ht
      have:=Nat.eq_of_beq_eq_true hb
      obtain ⟨as,ho,hle⟩:=ih2 fs.toList 0 ls' m cs xs hls (by simpa using hxl) (by omega) (fun i f hf=>hget i f (by simpa using hf))
      refine ⟨as,by simpa using ho,?_⟩
      simp only [bulk]
      omega
  ·cases fs with
   | nil =>
    simp only [leavesF,Option.some.injEq] at h
    subst h
    obtain rfl:xs=[]:=List.eq_nil_of_length_eq_zero (by simpa using hl)
    refine ⟨[],?_,Nat.le_refl _⟩
    rw [List.drop_eq_nil_of_le (by simp at hc;omega)]
    exact Opened.nil w
   | cons f r =>
    cases xs with
    | nil=>simp at hl
    | cons x xs =>
     simp only [leavesF] at h
     obtain ⟨ls',hls,h⟩:=Option.bind_eq_some_iff.1 h
     cases hb:(Nat.beq f.offset off && Nat.beq ls'.length (P.cellsOf f.type)) with
     | false=>rw [hb] at h;cases h
     | true =>
      rw [hb] at h
      simp only [cond_true] at h
      obtain ⟨ls2,h2,rfl⟩:=Option.map_eq_some_iff.1 h
      rw [Bool.and_eq_true] at hb
      have e1:=Nat.eq_of_beq_eq_true hb.1
      have e2:=Nat.eq_of_beq_eq_true hb.2
      have t0:=hx 0 f rfl
      rw [e1,← e2] at t0
      obtain ⟨as,ho,hle⟩:=ih1 f.type ls' fuel _ x hls t0
      simp only [List.length_append] at hc
      obtain ⟨as2,ho2,hle2⟩:=ih2 r (off+ls'.length) ls2 fuel cs xs h2 (by simpa using hl) (by omega) (fun i g hg=>by simpa using hx (i+1) g (by simpa using hg))
      refine ⟨as ++ as2,?_,?_⟩
      ·have:=ho.append ho2
       rwa [← List.drop_drop,List.take_append_drop] at this
      ·rw [wts_append]
       simp only [List.map_cons,bulkAll]
       omega
end opening
end Sx

namespace Sx
open Go Go.RowKit Go.WideShapes Go.ChangeShapes
def IsArg (agg:Bool) (ls:List Lf) (a:AV):Prop :=
 match agg with
 | true=>∃ m,a=.ag m∧m.length=ls.length∧∀ (j:Nat) (lf:Lf) (x:AV),ls[j]?=some lf→m[j]?=some x→Is lf x
 | false=>∃ lf,ls=[lf]∧Is lf a
def ArgsOk:List (Bool×List Lf)→List AV→Prop
 | [],[]=>True
 | p :: r,a :: as=>IsArg p.1 p.2 a∧ArgsOk r as
 | _,_=>False
def shapesOf (P:Program):List TypeId→Option (List (Bool×List Lf))
 | []=>some []
 | t :: ts=>(leaves P 12 t).bind fun ls=>bif isSt P t || Nat.beq ls.length 1 then (shapesOf P ts).map ((isSt P t,ls) :: ·) else none
section
variable {H:Type} {enc:TypeId×Value→H} {P:Program} {w:World} {base:Nat} {spare:Nat→Bool} {held:Bool}
theorem open_arg {t:TypeId} {ls:List Lf} {v:Value} {d:DataW H} {p:List MemPlace} {r:Reach} {b0:Nat} (hl:leaves P 12 t=some ls) (hb:(isSt P t || Nat.beq ls.length 1)=true) (hval:Value.okWide P w r b0 t v) (h:DataW.Trod enc P w base spare held t v d p) :
  ∃ a,IsArg (isSt P t) ls a∧wt a≤bulk d∧Rel w (fun _=>True) a v:=by
 obtain ⟨fuel,hf⟩:=h
 obtain ⟨as,ho,hle⟩:=(open_leaves 12).1 t ls fuel _ _ hl hf
 cases hst:isSt P t with
 | true =>
  unfold isSt at hst
  split at hst
  ·rename_i fs hu
   obtain ⟨cs,rfl,_⟩:=okWide_struct hu hval
   have hc:(Value.agg cs).cells.toList=cs.toList:=rfl
   rw [hc] at ho
   refine ⟨.ag as,⟨as,rfl,ho.len1,ho.is⟩,by simpa only [wt] using hle,?_⟩
   have:=Rel.ag (w:=w) (F:=fun _=>True) as cs.toList (by rw [ho.len1,ho.len2]) ho.one ho.rel
   simpa using this
  ·cases hst
 | false =>
  rw [hst,Bool.false_or] at hb
  have h1:=Nat.eq_of_beq_eq_true hb
  obtain ⟨lf,rfl⟩:∃ lf,ls=[lf]:=by
   cases ls with
   | nil=>simp at h1
   | cons lf r=>exact ⟨lf,by rw [List.eq_nil_of_length_eq_zero (l:=r) (by simpa using h1)]⟩
  have hlen:=ho.len1
  obtain ⟨a,rfl⟩:∃ a,as=[a]:=by
   cases as with
   | nil=>simp at hlen
   | cons a r=>exact ⟨a,by rw [List.eq_nil_of_length_eq_zero (l:=r) (by simpa using hlen)]⟩
  have hv:v.cells.toList=[v]:=by
   simp only [leaves] at hl
   cases hu:P.underlying t with
   | none=>rw [hu] at hl;cases hl
   | some dd =>
    rw [hu] at hl
    cases dd <;> simp only at hl <;> try (cases hl;done)
    case bool=>obtain ⟨b,rfl⟩:=okWide_bool hu hval;rfl
    case int k=>obtain ⟨b,rfl⟩:=okWide_int hu hval;rfl
    case string=>obtain ⟨b,rfl⟩:=okWide_string hu hval;rfl
    case slice e=>obtain ⟨a,len,cap,rfl⟩:=okWide_slice hu hval;rfl
    case struct fs=>unfold isSt at hst;rw [hu] at hst;cases hst
  rw [hv] at ho
  refine ⟨a,⟨lf,rfl,ho.is 0 lf a rfl rfl⟩,by simpa [wts] using hle,?_⟩
  simpa using ho.rel 0 v rfl
theorem open_args {r:Reach} {b0:Nat}:∀ {ts:List TypeId} {shs:List (Bool×List Lf)} {vs:List Value} {ds:List (DataW H)} {p:List MemPlace},shapesOf P ts=some shs→DataW.TrodAll enc P w base spare held ts vs ds p →
  (∀ (j:Nat) (t:TypeId) (v:Value),ts[j]?=some t→vs[j]?=some v→Value.okWide P w r b0 t v) →
  ∃ as,as.length=vs.length∧ds.length=ts.length∧ArgsOk shs as∧wts as≤bulkAll ds∧∀ (j:Nat) (a:AV) (v:Value),as[j]?=some a→vs[j]?=some v→Rel w (fun _=>True) a v
 | [],shs,vs,ds,p,hs,h,hv=>by
  obtain ⟨rfl,rfl,rfl⟩:=trodAll_nil h
  cases hs
  exact ⟨[],rfl,rfl,trivial,Nat.le_refl _,fun j a v h=>by simp at h⟩
 | t :: ts,shs,vs,ds,p,hs,h,hv=>by
  obtain ⟨v,vs1,d,ds1,p1,p2,rfl,rfl,rfl,h1,h2⟩:=trodAll_cons h
  simp only [shapesOf] at hs
  obtain ⟨ls,hls,hs⟩:=Option.bind_eq_some_iff.1 hs
  cases hb:(isSt P t || Nat.beq ls.length 1) with
  | false=>rw [hb] at hs;cases hs
  | true =>
   rw [hb] at hs
   simp only [cond_true] at hs
   obtain ⟨shs',hs',rfl⟩:=Option.map_eq_some_iff.1 hs
   obtain ⟨a,ha,hle,hr⟩:=open_arg hls hb (hv 0 t v rfl rfl) h1
   obtain ⟨as,e1,e2,e3,e4,e5⟩:=open_args hs' h2 (fun j t v h1 h2=>hv (j+1) t v (by simpa using h1) (by simpa using h2))
   refine ⟨a :: as,by simp [e1],by simp [e2],⟨ha,e3⟩,?_,fun j x u hx hu=>?_⟩
   ·simp only [wts,bulkAll];omega
   ·cases j with
    | zero=>simp at hx hu;subst hx;subst hu;exact hr
    | succ j=>exact e5 j x u (by simpa using hx) (by simpa using hu)
theorem trodAll_carry {w':World}:∀ {ts:List TypeId} {vs:List Value} {ds:List (DataW H)} {ps:List MemPlace},DataW.TrodAll enc P w base spare held ts vs ds ps→(∀ p ∈ ps,w.sameAt w' p)→DataW.TrodAll enc P w' base spare held ts vs ds ps
 | [],vs,ds,ps,h,hs=>by
  obtain ⟨rfl,rfl,rfl⟩:=trodAll_nil h
  exact trodAll_mk0
 | t :: ts,vs,ds,ps,h,hs=>by
  obtain ⟨v,vs1,d,ds1,p1,p2,rfl,rfl,rfl,⟨n,hn⟩,h2⟩:=trodAll_cons h
  exact ⟨p1,p2,⟨n,DataW.trod_carry n _ _ _ hn (fun p hp=>hs p (List.mem_append_left _ hp))⟩,trodAll_carry h2 (fun p hp=>hs p (List.mem_append_right _ hp)),rfl⟩
end
theorem law_contract {C:Cfg} {P:Program} (hfit:Fit C P) {g:Nat} {fn:Func} {c:Code} (hfn:P.funcs[g]?=some fn) (hb:fn.body=some c) (ho:(C.own g).all Option.isNone=true) (hsig:C.sig g=none)
  {tb:TypeId} (hres:fn.resultTypes = #[tb]) (htb:P.underlying tb=some .bool)
  (hlo:laidOutB P=true) (hmr:mapsRowed P=true) (hz:((List.range P.types.size).all fun t=>match P.underlying t with | some (.slice e)=>decide (0 < P.cellsOf e) | _=>true)=true)
  (hts:fn.params.toList.all (fun t=>decide (t < P.types.size))=true)
  {s:ChangeSpec} (hvars:s.vars=[]) (hs:∀ (H:Type) (ds:List (DataW H)),ds.length=fn.params.toList.length→s.fn H ds={ results:=[.lit (.bool true)],args:=ds })
  {shs:List (Bool×List Lf)} (hsh:shapesOf P fn.params.toList=some shs)
  {H:Type} {enc:TypeId×Value→H} {W:World} {base:Nat} {args:Array Value} {ds gs:List (DataW H)} {before:List MemPlace} {apart fresh handsOn:Bool}
  (hval:∀ (j:Nat) t v,fn.params[j]?=some t→args[j]?=some v→Value.okWide P W .any base t v)
  (hW:DataW.Whole enc P fn.params.toList s.vars apart W args.toList ds gs before)
  (hG:GlobOk C W (fun _=>True))
  (law:∀ as,ArgsOk shs as→wts as≤bulkAll (ds ++ gs)→semCall C P g as=some (.b true)) :
  Calls P g args W fun e W'=>∃ v,e=.returned v∧s.post enc P fn apart fresh handsOn false W args v W':=by
 have hW0:=hW
 have hlt:=hW.lt
 obtain ⟨p,q,hA,hV,rfl,hfz,hnd⟩:=hW
 rw [hvars] at hV
 obtain ⟨rfl,rfl⟩:=trodVars_none hV
 simp only [List.append_nil] at law hlt hW0
 obtain ⟨as,e1,e2,e3,e4,e5⟩:=open_args hsh hA (fun j t v h1 h2=>hval j t v (by simpa using h1) (by simpa using h2))
 have hcall:=law as e3 e4
 refine (calls_true hfit hfn hb ho hsig hcall W (fun _=>True) args hG (by simpa using e1.symm) (fun j a v h1 h2=>e5 j a v h1 (by simpa using h2))).mono fun e W' he=>?_
 obtain ⟨rfl,bel⟩:=he
 have hsd:=hs H ds e2
 refine ⟨_,rfl,ds,[],p,[],p,[],hW0,?_,?_,?_,bel.frame _,fun h=>by cases h⟩
 ·rw [List.append_nil,hsd,hres]
  exact trodAll_mk1 (shut_bool htb _)
 ·rw [List.append_nil,hsd]
  have h1:=trodAll_carry (w':=W') hA (fun x hx=>bel.same (hlt x hx))
  exact DataW.TrodAll.respare (kids_rows hlo hmr) (fun t e ht hu=>slices_full_of P hz t e ht hu) (fun t ht=>of_decide_eq_true (List.all_eq_true.1 hts t ht)) h1 (fun x hx=>by simpa using hlt x hx)
 ·rw [hvars,List.append_nil,hsd]
  exact rfl
end Sx
namespace Sx
theorem is_str {a:AV} (h:IsArg false [.s] a):∃ l:List UInt8,a=.s l∧l.length≤Go.maxLen:=by
 obtain ⟨lf,e,h⟩:=h
 cases e
 cases h with
 | s l h=>exact ⟨l,rfl,h⟩
theorem args1 {p:Bool×List Lf} {as:List AV} (h:ArgsOk [p] as):∃ a,as=[a]∧IsArg p.1 p.2 a:=by
 match as,h with
 | [a],h=>exact ⟨a,rfl,h.1⟩
end Sx

namespace Sx
open Go Go.RowKit Go.WideShapes Go.ChangeShapes
def avL {H:Type}:DataW H→AV
 | .lit (.bool b)=>.b b
 | .lit (.int .u8 n)=>.u8 (UInt8.ofNat n.toNat)
 | .lit (.int .i64 n)=>.int n
 | .lit (.int k n)=>.ik k n
 | .lit (.string l)=>.s l
 | _=>.un
def scalarB (P:Program) (t:TypeId):Bool:=match P.underlying t with | some .bool | some (.int _) | some .string=>true | _=>false
section
variable {H:Type} {enc:TypeId×Value→H} {P:Program} {w:World} {base:Nat} {spare:Nat→Bool} {held:Bool}
theorem trod_scalar {fuel:Nat} {t:TypeId} {cs:List Value} {x:DataW H×List MemPlace} (hs:scalarB P t=true) (h:DataW.trod enc P w base spare held fuel t cs=some x):∃ v,cs=[v]∧v.oneCell'=true∧Rel w (fun _=>True) (avL x.1) v:=by
 unfold scalarB at hs
 split at hs
 ·rename_i hu
  obtain ⟨b,rfl,rfl⟩:=DataW.trod_bool hu h
  exact ⟨_,rfl,rfl, .b b⟩
 ·rename_i k hu
  obtain ⟨n,rfl,rfl,hw⟩:=DataW.trod_int hu h
  refine ⟨_,rfl,rfl,?_⟩
  cases k <;> first | exact .int n | exact .ik _ n | skip
  have hb:0≤n∧n < 256:=by
   simp only [Lit.wf,Bool.and_eq_true,decide_eq_true_eq] at hw
   have h1:IntKind.u8.min=0:=rfl
   have h2:IntKind.u8.max=255:=rfl
   omega
  have:=Rel.u8 (w:=w) (F:=fun _=>True) (UInt8.ofNat n.toNat)
  rw [UInt8.toNat_ofNat_of_lt' (by show n.toNat < 256;omega)] at this
  rwa [show ((n.toNat:Nat):Int)=n by omega] at this
 ·rename_i hu
  obtain ⟨s,rfl,rfl,_⟩:=DataW.trod_string hu h
  exact ⟨_,rfl,rfl, .s s⟩
 ·cases hs
def flatB (P:Program):Nat→List Field→Bool
 | _,[]=>true
 | n,f :: r=>Nat.beq f.offset n && scalarB P f.type && Nat.beq (P.cellsOf f.type) 1 && flatB P (n+1) r
theorem flatB_ok:∀ {n:Nat} {fs:List Field},flatB P n fs=true→∀ (i:Nat) (f:Field),fs[i]?=some f→f.offset=n+i∧scalarB P f.type=true∧P.cellsOf f.type=1
 | n,[],_,i,f,h=>by simp at h
 | n,g :: r,hb,i,f,h=>by
  simp only [flatB,Bool.and_eq_true] at hb
  cases i with
  | zero=>simp at h;subst h;exact ⟨Nat.eq_of_beq_eq_true hb.1.1.1,hb.1.1.2,Nat.eq_of_beq_eq_true hb.1.2⟩
  | succ i =>
   obtain ⟨h1,h2⟩:=flatB_ok hb.2 i f (by simpa using h)
   exact ⟨by omega,h2⟩
theorem trod_flat {fuel:Nat} {t:TypeId} {fs:Array Field} {cs:List Value} {x:DataW H×List MemPlace} (hu:P.underlying t=some (.struct fs)) (hb:flatB P 0 fs.toList=true) (h:DataW.trod enc P w base spare held fuel t cs=some x) :
  ∃ parts,x.1=.agg parts∧parts.length=fs.size∧∀ (i:Nat) (d:DataW H),parts[i]?=some d→∃ v,cs[i]?=some v∧v.oneCell'=true∧Rel w (fun _=>True) (avL d) v:=by
 obtain ⟨xs,n,rfl,rfl,hcl,hxl,hget⟩:=DataW.trod_struct hu h
 refine ⟨_,rfl,by simpa using hxl,fun i d hd=>?_⟩
 simp only [List.getElem?_map,Option.map_eq_some_iff] at hd
 obtain ⟨y,hy,rfl⟩:=hd
 have hi:i < fs.size:=by have:=(List.getElem?_eq_some_iff.1 hy).1;omega
 have hf:fs.toList[i]?=some fs[i]:=by simp [hi]
 obtain ⟨h1,h2,h3⟩:=flatB_ok hb i _ hf
 have ht:=hget i fs[i] (by simp [hi])
 rw [hy,h1,h3,Nat.zero_add] at ht
 obtain ⟨v,hv,h4,h5⟩:=trod_scalar h2 ht
 refine ⟨v,?_,h4,h5⟩
 have:((cs.drop i).take 1)[0]?=some v:=by rw [hv];rfl
 simpa using this
end
theorem globOk_one {C:Cfg} {P:Program} {w:World} {name:String} {g t k:Nat} {fs:Array Field} {parts:List (DataW Unit)} {e:AV} (hC:∀ g' k' e',C.glob g'=some (k',e')→g'=g∧k'=k∧e'=e)
  (hg:P.globalNamed name=some g) (ht:(P.globals[g]?).map (·.type)=some t) (hu:P.underlying t=some (.struct fs)) (hb:flatB P 0 fs.toList=true)
  (hk:k=parts.length) (hk0:0 < k) (he:∀ j,j < k→e.cell j=avL (parts.getD j .nil)) {ps:List MemPlace} (hl:DataW.LaidVars P w [(name, .agg parts)] ps):GlobOk C w (fun _=>True):=by
 intro g' k' e' h
 obtain ⟨rfl,rfl,rfl⟩:=hC _ _ _ h
 obtain ⟨g2,t2,cs,fuel,p,q,h1,h2,h3,h4,_⟩:=hl
 obtain rfl:=Option.some.inj (hg.symm.trans h1)
 obtain rfl:=Option.some.inj (ht.symm.trans h2)
 obtain ⟨parts',e1,_,hp⟩:=trod_flat hu hb h4
 cases e1
 unfold World.var? at h3
 rw [hg] at h3
 simp only [Option.bind_some] at h3
 split at h3
 ·rename_i cs' ty fr hh
  cases h3
  have hlt:g' < w.heap.size:=(Array.getElem?_eq_some_iff.1 hh).1
  refine ⟨g',0,rfl,trivial,hlt,fun j hj=>?_⟩
  have hj':parts[j]?=some (parts.getD j .nil):=by
   rw [List.getD_eq_getElem?_getD,List.getElem?_eq_getElem (by omega)];rfl
  obtain ⟨v,hv,h5,h6⟩:=hp j _ hj'
  refine ⟨v,?_,h5,?_⟩
  ·simp only [World.cell?,hh,Nat.zero_add]
   simpa using hv
  ·rw [he j hj];exact h6
 ·cases h3
end Sx

namespace Sx
open Go
structure Ctx where
 st:UInt8
 el:UInt8
 en:Bool
 at':UInt8
 qu:UInt8
 pa:UInt8
 su:UInt8
 es:Bool
 da:UInt8
 nm:List UInt8
 deriving DecidableEq
abbrev cx (st el:UInt8) (en:Bool) (at' qu pa su:UInt8) (es:Bool) (da:UInt8) (nm:List UInt8):AV :=
 .ag [.u8 st, .u8 el, .b en, .u8 at', .u8 qu, .u8 pa, .u8 su, .b es, .u8 da, .s nm]
abbrev Ctx.av (c:Ctx):AV:=cx c.st c.el c.en c.at' c.qu c.pa c.su c.es c.da c.nm
@[simp] theorem asAg_ten (a b c d e f g h i j:AV):AV.asAg 10 (.ag [a,b,c,d,e,f,g,h,i,j])=some [a,b,c,d,e,f,g,h,i,j]:=rfl
section get
variable (a b c d e f g h i j:AV)
@[simp] theorem ten0:[a,b,c,d,e,f,g,h,i,j].getD 0 .un=a:=rfl
@[simp] theorem ten1:[a,b,c,d,e,f,g,h,i,j].getD 1 .un=b:=rfl
@[simp] theorem ten2:[a,b,c,d,e,f,g,h,i,j].getD 2 .un=c:=rfl
@[simp] theorem ten3:[a,b,c,d,e,f,g,h,i,j].getD 3 .un=d:=rfl
@[simp] theorem ten4:[a,b,c,d,e,f,g,h,i,j].getD 4 .un=e:=rfl
@[simp] theorem ten5:[a,b,c,d,e,f,g,h,i,j].getD 5 .un=f:=rfl
@[simp] theorem ten6:[a,b,c,d,e,f,g,h,i,j].getD 6 .un=g:=rfl
@[simp] theorem ten7:[a,b,c,d,e,f,g,h,i,j].getD 7 .un=h:=rfl
@[simp] theorem ten8:[a,b,c,d,e,f,g,h,i,j].getD 8 .un=i:=rfl
@[simp] theorem ten9:[a,b,c,d,e,f,g,h,i,j].getD 9 .un=j:=rfl
end get
def cxeq (a b:Ctx):Bool :=
 a.st == b.st && (a.el == b.el && (a.en == b.en && (a.at' == b.at' && (a.qu == b.qu && (a.pa == b.pa && (a.su == b.su && (a.es == b.es && (a.da == b.da && a.nm == b.nm))))))))
@[simp] theorem binAg_cx (st el:UInt8) (en:Bool) (at' qu pa su:UInt8) (es:Bool) (da:UInt8) (nm:List UInt8) (st1 el1:UInt8) (en1:Bool) (at1 qu1 pa1 su1:UInt8) (es1:Bool) (da1:UInt8) (nm1:List UInt8) :
  binAg [.i, .i, .b, .i, .i, .i, .i, .b, .i, .s] .eql (.ag [.u8 st, .u8 el, .b en, .u8 at', .u8 qu, .u8 pa, .u8 su, .b es, .u8 da, .s nm]) (.ag [.u8 st1, .u8 el1, .b en1, .u8 at1, .u8 qu1, .u8 pa1, .u8 su1, .b es1, .u8 da1, .s nm1]) =
   some (.b (cxeq ⟨st,el,en,at',qu,pa,su,es,da,nm⟩ ⟨st1,el1,en1,at1,qu1,pa1,su1,es1,da1,nm1⟩)):=by
 simp only [binAg,eqs,eq1,Option.bind_some,cxeq,Bool.and_true]
@[simp] theorem binAg_cx_ne (st el:UInt8) (en:Bool) (at' qu pa su:UInt8) (es:Bool) (da:UInt8) (nm:List UInt8) (st1 el1:UInt8) (en1:Bool) (at1 qu1 pa1 su1:UInt8) (es1:Bool) (da1:UInt8) (nm1:List UInt8) :
  binAg [.i, .i, .b, .i, .i, .i, .i, .b, .i, .s] .neq (.ag [.u8 st, .u8 el, .b en, .u8 at', .u8 qu, .u8 pa, .u8 su, .b es, .u8 da, .s nm]) (.ag [.u8 st1, .u8 el1, .b en1, .u8 at1, .u8 qu1, .u8 pa1, .u8 su1, .b es1, .u8 da1, .s nm1]) =
   some (.b (!cxeq ⟨st,el,en,at',qu,pa,su,es,da,nm⟩ ⟨st1,el1,en1,at1,qu1,pa1,su1,es1,da1,nm1⟩)):=by
 simp only [binAg,eqs,eq1,Option.bind_some,cxeq,Bool.and_true]
theorem cxeq_iff (a b:Ctx):cxeq a b=decide (a=b):=by
 obtain ⟨⟩:=a;obtain ⟨⟩:=b
 rw [Bool.eq_iff_iff]
 simp only [cxeq,Ctx.mk.injEq,Bool.and_eq_true,beq_iff_eq,decide_eq_true_eq]
theorem st_cases (st:UInt8):st=0∨st=1∨st=2∨st=3∨st=4∨st=5∨st=6∨st=7∨st=8∨st=9∨st=10∨st=11∨st=12∨st=13∨st=14∨st=15∨st=16∨st=17∨st=18∨st=19∨st=20∨20 < st:=by
 have:=all_u8 (p:=fun st=>st == 0 || (st == 1 || (st == 2 || (st == 3 || (st == 4 || (st == 5 || (st == 6 || (st == 7 || (st == 8 || (st == 9 || (st == 10 || (st == 11 || (st == 12 || (st == 13 || (st == 14 || (st == 15 || (st == 16 || (st == 17 || (st == 18 || (st == 19 || (st == 20 || decide (20 < st)))))))))))))))))))))) (by kernel_rfl) st
 simpa only [Bool.or_eq_true,beq_iff_eq,decide_eq_true_eq] using this
theorem el_cases (x:UInt8):x=0∨x=1∨x=2∨x=3∨x=4∨4 < x:=by
 have:=all_u8 (p:=fun st=>st == 0 || (st == 1 || (st == 2 || (st == 3 || (st == 4 || decide (4 < st)))))) (by kernel_rfl) x
 simpa only [Bool.or_eq_true,beq_iff_eq,decide_eq_true_eq] using this
theorem pa_cases (x:UInt8):x=0∨x=1∨x=2∨x=3∨x=4∨x=5∨5 < x:=by
 have:=all_u8 (p:=fun st=>st == 0 || (st == 1 || (st == 2 || (st == 3 || (st == 4 || (st == 5 || decide (5 < st))))))) (by kernel_rfl) x
 simpa only [Bool.or_eq_true,beq_iff_eq,decide_eq_true_eq] using this
theorem su_cases (x:UInt8):x=0∨x=1∨x=2∨x=3∨x=4∨x=5∨x=6∨6 < x:=by
 have:=all_u8 (p:=fun st=>st == 0 || (st == 1 || (st == 2 || (st == 3 || (st == 4 || (st == 5 || (st == 6 || decide (6 < st)))))))) (by kernel_rfl) x
 simpa only [Bool.or_eq_true,beq_iff_eq,decide_eq_true_eq] using this
def low (l:List UInt8):Bool:=l.all fun b=>!(decide (65≤b) && decide (b≤90))
def small (l:List UInt8) (most:Int):Bool:=low l && (decide (1≤l.length) && decide ((l.length:Int)≤most))
def pre (p l:List UInt8):Bool:=decide (p.length≤l.length) && l.take p.length == p
theorem slS_hi {l:List UInt8} {i:Nat} (h:i≤l.length):slS (.s l) none (some (.int (i:Int)))=some (.s (l.take i)):=by
 show ((lohi l.length none (some (.int (i:Int)))).bind fun p=>some (AV.s ((l.take p.2).drop p.1)))=_
 simp [lohi,upN_int h]
theorem slS_lo {l:List UInt8} {i:Nat} (h:i≤l.length):slS (.s l) (some (.int (i:Int))) none=some (.s (l.drop i)):=by
 show ((lohi l.length (some (.int (i:Int))) none).bind fun p=>some (AV.s ((l.take p.2).drop p.1)))=_
 simp [lohi,upN_int h]
end Sx

namespace Sx
open Go
def coded (st el at':UInt8):Bool:=st == 8 && (at' == 2 || at' == 3) || (decide (17≤st) && decide (st≤19)) && (el == 3 || el == 4)
def nameOf (el:UInt8):List UInt8 :=
 if el=1 then [116,101,120,116,97,114,101,97] else if el=2 then [116,105,116,108,101] else if el=3 then [115,99,114,105,112,116] else if el=4 then [115,116,121,108,101] else []
theorem nlt (n:UInt8):(20 < n)→¬ n=0∧¬ n=1∧¬ n=2∧¬ n=3∧¬ n=4∧¬ n=5∧¬ n=6∧¬ n=7∧¬ n=8∧¬ n=9∧¬ n=10∧¬ n=11∧¬ n=12∧¬ n=13∧¬ n=14∧¬ n=15∧¬ n=16∧¬ n=17∧¬ n=18∧¬ n=19:=by
 intro h
 refine ⟨?_,?_,?_,?_,?_,?_,?_,?_,?_,?_,?_,?_,?_,?_,?_,?_,?_,?_,?_,?_⟩ <;> (rintro rfl;revert h;decide)
def subOk (su:UInt8) (es script:Bool):Bool:=(script || su != 4) && (!es || su == 1 || su == 2)
def isTag (st:UInt8):Bool:=decide (4≤st) && decide (st≤10)
def isRaw (st:UInt8):Bool:=decide (17≤st) && decide (st≤19)
def form (c:Ctx):Bool :=
 if decide (20 < c.st) || decide (4 < c.el) || decide (4 < c.at') || decide (5 < c.pa) || decide (6 < c.su) || decide (2 < c.da) then false
 else if (c.el != 0 && !isTag c.st && !isRaw c.st) || (isRaw c.st && c.el == 0) then false
 else if c.en && ((c.st != 3 && !isTag c.st) || c.el != 0) then false
 else if c.at' != 0 && c.st != 7 && c.st != 8 then false
 else if c.qu != 0 && (c.st != 8 || (c.qu != 34 && c.qu != 39)) then false
 else if c.pa != 0 && (c.st != 8 || c.at' != 1) then false
 else if c.da != 0 && c.st != 15 then false
 else if (c.su != 0 && !coded c.st c.el c.at') || (((c.st == 8 && c.at' == 3) || (isRaw c.st && c.el == 4)) && c.su == 4) then false
 else if c.es && c.su != 1 && c.su != 2 then false
 else if c.st == 3 || c.st == 5 || c.st == 6 then small c.nm 32
 else if c.st == 8 && c.at' == 1 && c.pa == 1 then small c.nm 16
 else if c.st == 19 then pre c.nm (nameOf c.el)
 else c.nm == []
def valOk (c t:Ctx):Bool :=
 if (c.qu != 0 && c.qu != 34 && c.qu != 39)=true then false
 else if (c.at' == 1)=true then (if (c.pa == 1)=true then cxeq c ⟨t.st,t.el,t.en,c.at',c.qu,c.pa,t.su,t.es,t.da,c.nm⟩ && small c.nm 16 else cxeq c ⟨t.st,t.el,t.en,c.at',c.qu,c.pa,t.su,t.es,t.da,t.nm⟩)
 else if (c.at' == 2 || c.at' == 3)=true then cxeq c ⟨t.st,t.el,t.en,c.at',c.qu,t.pa,c.su,c.es,t.da,t.nm⟩ && subOk c.su c.es (c.at' == 2)
 else cxeq c ⟨t.st,t.el,t.en,c.at',c.qu,t.pa,t.su,t.es,t.da,t.nm⟩
def form1 (c:Ctx):Bool :=
 if (decide (20 < c.st) || decide (4 < c.el) || decide (4 < c.at') || decide (5 < c.pa) || decide (6 < c.su) || (c.en && c.el != 0))=true then false
 else if (c.st == 3)=true then cxeq c ⟨c.st,0,c.en,0,0,0,0,false,0,c.nm⟩ && small c.nm 32
 else if (c.st == 4 || c.st == 9 || c.st == 10)=true then cxeq c ⟨c.st,c.el,c.en,0,0,0,0,false,0,[]⟩
 else if (c.st == 5 || c.st == 6)=true then cxeq c ⟨c.st,c.el,c.en,0,0,0,0,false,0,c.nm⟩ && small c.nm 32
 else if (c.st == 7)=true then cxeq c ⟨c.st,c.el,c.en,c.at',0,0,0,false,0,[]⟩
 else if (c.st == 8)=true then valOk c ⟨c.st,c.el,c.en,0,0,0,0,false,0,[]⟩
 else if (c.st == 15)=true then cxeq c ⟨c.st,0,false,0,0,0,0,false,c.da,[]⟩ && decide (c.da≤2)
 else if (c.st == 17 || c.st == 18 || c.st == 19)=true then (cxeq c ⟨c.st,c.el,false,0,0,0,if (c.el == 3 || c.el == 4)=true then c.su else 0,if (c.el == 3 || c.el == 4)=true then c.es else false,0,if (c.st == 19)=true then c.nm else []⟩ && (c.el != 0) && pre c.nm (nameOf c.el) && subOk c.su c.es (c.el == 3))
 else cxeq c ⟨c.st,0,false,0,0,0,0,false,0,[]⟩
theorem form_eq (st el:UInt8) (en:Bool) (at' qu pa su:UInt8) (es:Bool) (da:UInt8) (nm:List UInt8):form1 ⟨st,el,en,at',qu,pa,su,es,da,nm⟩=form ⟨st,el,en,at',qu,pa,su,es,da,nm⟩:=by
 unfold form1 form
 dsimp only
 rcases st_cases st with h | h | h | h | h | h | h | h | h | h | h | h | h | h | h | h | h | h | h | h | h | h
 all_goals try subst h
 all_goals try simp [isTag,isRaw,cxeq,coded,subOk,valOk, *]
 all_goals try (grind;done)
 ·rcases el_cases at' with h | h | h | h | h | h
  all_goals try subst h
  all_goals simp [*]
  all_goals try (grind;done)
 all_goals (have hp:pre [] (nameOf el)=true:=by simp [pre]);cases nm <;> simp [hp] <;> rcases el_cases el with h | h | h | h | h | h <;> (try subst h) <;> (try simp [*]) <;> (try grind)
def hole (c:Ctx):UInt8 :=
 if c.st == 0 then 1
 else if c.st == 17 then (if c.el == 1 || c.el == 2 then 2 else if (c.su == 1 || c.su == 2) && !c.es && c.el == 3 then 7 else if (c.su == 1 || c.su == 2) && !c.es && c.el == 4 then 9 else 0)
 else if c.st == 8 then
  (if c.qu == 0 then 0 else if c.at' == 0 then 3
  else if c.at' == 1 then (if c.pa == 0 then 4 else if c.pa == 3 then 5 else if c.pa == 4 then 6 else 0)
  else if c.at' == 2 then (if (c.su == 1 || c.su == 2) && !c.es then 8 else 0)
  else if c.at' == 3 then (if (c.su == 1 || c.su == 2) && !c.es then 10 else 0) else 0)
 else 0
def badC:Ctx:=⟨20,0,false,0,0,0,0,false,0,[]⟩
def after (c:Ctx):Ctx:=if hole c == 0 then badC else if hole c == 4 then { c with pa:=2 } else c
theorem hole4 (c:Ctx) (h:hole c=4):c.st=8∧c.qu≠0∧c.at'=1∧c.pa=0:=by
 unfold hole at h
 grind (splits:=30)
theorem form_after (c:Ctx) (h:hole c≠0) (hf:form c=true):form (after c)=true:=by
 unfold after
 have h0:(hole c == 0)=false:=by simpa using h
 cases h4:(hole c == 4) with
 | false=>simpa [h0] using hf
 | true =>
  obtain ⟨h1,h2,h3,h5⟩:=hole4 c (by simpa using h4)
  obtain ⟨st,el,en,at',qu,pa,su,es,da,nm⟩:=c
  simp only at h1 h2 h3 h5
  subst h1 h3 h5
  simp only [h0,Bool.false_eq_true,if_false,if_true]
  unfold form at hf ⊢
  simp only [isTag,isRaw,coded] at hf ⊢
  simp at hf ⊢
  grind
def elOf (nm:List UInt8):UInt8 :=
 if nm == [116,101,120,116,97,114,101,97] then 1 else if nm == [116,105,116,108,101] then 2 else if nm == [115,99,114,105,112,116] then 3 else if nm == [115,116,121,108,101] then 4 else 0
def urls:List (List UInt8):=[[97,99,116,105,111,110],[98,97,99,107,103,114,111,117,110,100],[99,105,116,101],[100,97,116,97],[102,111,114,109,97,99,116,105,111,110],[104,114,101,102],[108,111,110,103,100,101,115,99],[109,97,110,105,102,101,115,116],[112,111,115,116,101,114],[115,114,99],[120,108,105,110,107,58,104,114,101,102]]
def odds:List (List UInt8):=[[115,114,99,100,111,99],[115,114,99,115,101,116],[105,109,97,103,101,115,114,99,115,101,116],[99,111,110,116,101,110,116],[104,116,116,112,45,101,113,117,105,118]]
def attrOf (nm:List UInt8):UInt8 :=
 if urls.contains nm then 1 else if nm == [115,116,121,108,101] then 3 else if odds.contains nm then 4 else if decide (2 < nm.length) && pre [111,110] nm then 2 else 0
end Sx

namespace Sx
open Go
def Ctx.toAV (c:Ctx):AV:=cx c.st c.el c.en c.at' c.qu c.pa c.su c.es c.da c.nm
theorem mk_toAV (st el:UInt8) (en:Bool) (at' qu pa su:UInt8) (es:Bool) (da:UInt8) (nm:List UInt8) :
  (.ag [.u8 st, .u8 el, .b en, .u8 at', .u8 qu, .u8 pa, .u8 su, .b es, .u8 da, .s nm]:AV)=Ctx.toAV ⟨st,el,en,at',qu,pa,su,es,da,nm⟩:=rfl
theorem mk_eta (d:Ctx):(⟨d.st,d.el,d.en,d.at',d.qu,d.pa,d.su,d.es,d.da,d.nm⟩:Ctx)=d:=rfl
theorem asAg_toAV (d:Ctx):AV.asAg 10 d.toAV=some [.u8 d.st, .u8 d.el, .b d.en, .u8 d.at', .u8 d.qu, .u8 d.pa, .u8 d.su, .b d.es, .u8 d.da, .s d.nm]:=rfl
theorem eq_toAV (a b:Ctx):binAg [.i, .i, .b, .i, .i, .i, .i, .b, .i, .s] .eql a.toAV b.toAV=some (.b (decide (a=b))):=by
 obtain ⟨⟩:=a;obtain ⟨⟩:=b
 rw [← cxeq_iff]
 exact binAg_cx ..
theorem ne_toAV (a b:Ctx):binAg [.i, .i, .b, .i, .i, .i, .i, .b, .i, .s] .neq a.toAV b.toAV=some (.b (!decide (a=b))):=by
 obtain ⟨⟩:=a;obtain ⟨⟩:=b
 rw [← cxeq_iff]
 exact binAg_cx_ne ..
theorem toAV_ite (p:Prop) [Decidable p] (a b:Ctx):some (Ctx.toAV (if p then a else b))=if p then some a.toAV else some b.toAV:=by split <;> rfl
def tv (p:Ctx×Bool):AV:=.tu [p.1.toAV, .b p.2]
theorem tv_mk (c:Ctx) (b:Bool):(.tu [c.toAV, .b b]:AV)=tv (c,b):=rfl
theorem tv_ite (p:Prop) [Decidable p] (a b:Ctx×Bool):some (tv (if p then a else b))=if p then some (tv a) else some (tv b):=by split <;> rfl
theorem tv_0 (p:Ctx×Bool):tupI (tv p) 0=some p.1.toAV:=rfl
theorem tv_1 (p:Ctx×Bool):tupI (tv p) 1=some (.b p.2):=rfl
def ti (p:Ctx×Int):AV:=.tu [p.1.toAV, .int p.2]
theorem ti_mk (c:Ctx) (n:Int):(.tu [c.toAV, .int n]:AV)=ti (c,n):=rfl
theorem ti_0 (p:Ctx×Int):tupI (ti p) 0=some p.1.toAV:=rfl
theorem ti_1 (p:Ctx×Int):tupI (ti p) 1=some (.int p.2):=rfl
theorem b2s_one (x:UInt8):b2s (.ro 1 [.u8 x])=some (.s [x]):=b2s_u8 (l:=[x]) (by show 1≤big;decide)
theorem s_add' {p q:List UInt8} (h:p.length+q.length≤1000000):binS .add (.s p) (.s q)=some (.s (p ++ q)):=s_add (Nat.le_trans h (by decide))
end Sx

namespace Sx
open Go
def blankB (b:UInt8):Bool:=b == 32 || b == 9 || b == 10 || b == 12 || b == 13
def letter (b:UInt8):Bool:=decide (97≤b) && decide (b≤122) || decide (65≤b) && decide (b≤90)
def lowb (b:UInt8):UInt8:=if decide (65≤b) && decide (b≤90) then b+32 else b
def st1 (s:UInt8):Ctx:=⟨s,0,false,0,0,0,0,false,0,[]⟩
def opened (b:UInt8):Ctx×Bool :=
 if letter b then (⟨3,0,false,0,0,0,0,false,0,[lowb b]⟩,true) else if b == 47 then (st1 2,true) else if b == 33 then (st1 11,true) else if b == 63 then (st1 16,true) else (st1 0,false)
def closed (b:UInt8):Ctx:=if letter b then ⟨3,0,true,0,0,0,0,false,0,[lowb b]⟩ else if b == 62 then st1 0 else st1 16
def tagEnd (el:UInt8):Ctx:=if el != 0 then ⟨17,el,false,0,0,0,0,false,0,[]⟩ else st1 0
def grown (c:Ctx) (b:UInt8):Ctx:=if decide (32≤c.nm.length) then badC else { c with nm:=c.nm ++ [lowb b] }
def within (c:Ctx) (s:UInt8):Ctx:=⟨s,c.el,c.en,0,0,0,0,false,0,[]⟩
def ends (c:Ctx):Bool:=c.su == 0 || c.su == 4
def begunV (c:Ctx) (b:UInt8):Ctx×Bool :=
 if blankB b then (c,false) else if b == 62 then (badC,false) else if b == 34 || b == 39 then ({ c with st:=8,qu:=b },false) else ({ c with st:=8 },true)
def named (c:Ctx) (b:UInt8):Ctx×Bool :=
 if b == 61 && c.nm != [] then ({ within c 7 with at':=attrOf c.nm },false) else if b == 47 || b == 62 then (within c 9,true) else if blankB b then ({ c with st:=6 },false)
 else if c.st == 6 then (within c 4,true) else if b == 34 || b == 39 || b == 60 then (badC,false) else (grown c b,false)
def tag (c:Ctx) (b:UInt8):Ctx×Bool :=
 if c.st == 3 then (if !blankB b && b != 47 && b != 62 then (grown c b,false) else if !c.en then (within { c with el:=elOf c.nm } 9,true) else (within c 9,true))
 else if c.st == 9 then (if blankB b then (within c 4,false) else if b == 47 then (within c 10,false) else if b == 62 then (tagEnd c.el,false) else (badC,false))
 else if c.st == 10 then (if b == 62 then (tagEnd c.el,false) else (within c 4,true))
 else if c.st == 4 then (if blankB b then (c,false) else if b == 47 || b == 62 then (within c 9,true) else if b == 61 then (badC,false) else ({ c with st:=5 },true))
 else if c.st == 7 then begunV c b else named c b
def text (c:Ctx) (b:UInt8):Ctx :=
 if c.es then { c with es:=false } else if b == 92 then { c with es:=true } else if b == 10 || b == 13 then badC else if b == 34 && c.su == 1 || b == 39 && c.su == 2 then { c with su:=0 } else c
def code0 (c:Ctx) (b:UInt8) (script:Bool):Ctx :=
 if b == 34 then { c with su:=1 } else if b == 39 then { c with su:=2 } else if b == 47 then { c with su:=3 } else if script && b == 96 then badC else if !script && (b == 40 || b == 92) then badC else c
def code (c:Ctx) (b:UInt8) (script:Bool):Ctx :=
 if c.su == 0 then code0 c b script
 else if c.su == 3 then (if b == 42 then { c with su:=5 } else if script && b == 47 then { c with su:=4 } else if script then badC else code0 { c with su:=0 } b script)
 else if c.su == 1 then text c b else if c.su == 2 then text c b
 else if c.su == 4 then (if b == 10 || b == 13 then { c with su:=0 } else c)
 else if c.su == 5 then (if b == 42 then { c with su:=6 } else c)
 else if c.su == 6 then (if b == 47 then { c with su:=0 } else if b == 42 then c else { c with su:=5 }) else c
def httpS (l:List UInt8):Bool:=l == [104,116,116,112] || l == [104,116,116,112,115] || l == [109,97,105,108,116,111]
def url (c:Ctx) (b:UInt8):Ctx :=
 if c.pa == 4 || c.pa == 5 then { c with nm:=[] } else if b == 38 then badC else if b == 63 || b == 35 then { c with pa:=4,nm:=[] } else if c.pa == 3 then { c with nm:=[] } else if b == 47 then { c with pa:=3,nm:=[] }
 else if b == 58 && c.pa == 2 then badC else if b == 58 then (if httpS c.nm then { c with pa:=3,nm:=[] } else { c with pa:=5,nm:=[] }) else if c.pa == 2 then { c with nm:=[] }
 else if decide (16≤c.nm.length) then { c with pa:=1 } else { c with pa:=1,nm:=c.nm ++ [lowb b] }
def quoteB (b:UInt8):Bool:=b == 34 || b == 39 || b == 60 || b == 61 || b == 96
def value (c:Ctx) (b:UInt8):Ctx :=
 if (!(c.qu == 0) && b == c.qu) || (c.qu == 0 && (blankB b || b == 62)) then (if !ends c then badC else if !(c.qu == 0) then within c 9 else if b == 62 then tagEnd c.el else within c 4)
 else if c.qu == 0 && quoteB b then badC else if c.at' == 1 then url c b else if c.at' == 2 || c.at' == 3 then (if b == 38 then badC else code c b (c.at' == 2)) else c
def feedL (c:Ctx):List UInt8→Ctx
 | []=>c
 | b :: r=>if (code c b (c.el == 3)).st == 20 then badC else feedL (code c b (c.el == 3)) r
def fed (c:Ctx) (s:List UInt8) (feed:Bool):Ctx :=
 if !feed || !coded 17 c.el c.at' then { c with st:=17,nm:=[] } else feedL { c with st:=17,nm:=[] } s
def raw2 (c:Ctx) (b:UInt8) (feed:Bool):Ctx :=
 if c.st == 20 then badC else if (fed c [b] feed).st == 17 && b == 60 then { fed c [b] feed with st:=18 } else fed c [b] feed
def raw (c:Ctx) (b:UInt8) (feed:Bool):Ctx :=
 if c.st == 18 && b == 47 then { c with st:=19 }
 else if c.st == 18 && b == 33 && c.el == 3 then badC
 else if c.st == 19 && c.nm == nameOf c.el && (blankB b || b == 47 || b == 62) then (if !ends c then badC else (tag ⟨9,0,true,0,0,0,0,false,0,[]⟩ b).1)
 else if c.st == 19 && pre (c.nm ++ [lowb b]) (nameOf c.el) then { c with nm:=c.nm ++ [lowb b] }
 else if c.st == 19 then raw2 (fed c (47 :: c.nm) feed) b feed else raw2 c b feed
def note (c:Ctx) (b:UInt8):Ctx :=
 if c.st == 11 || c.st == 12 then (if b == 62 then st1 0 else if b == 45 && c.st == 11 then st1 12 else if b == 45 then st1 13 else st1 16)
 else if c.st == 13 || c.st == 14 then (if b == 62 then badC else if b == 45 && c.st == 13 then st1 14 else if b == 45 then ⟨15,0,false,0,0,0,0,false,2,[]⟩ else st1 15)
 else if c.st == 15 then (if b == 62 && c.da == 2 then st1 0 else if b == 33 && c.da == 2 then badC else if b == 45 then ⟨15,0,false,0,0,0,0,false,(if decide (2 < c.da+1) then 2 else c.da+1),[]⟩ else st1 15)
 else if c.st == 16 then (if b == 62 then st1 0 else c) else c
def isT (s:UInt8):Bool:=s == 3 || s == 4 || s == 5 || s == 6 || s == 7 || s == 9 || s == 10
def again:Nat→Ctx→UInt8→Bool→Option Ctx
 | 0,_,_,_=>none
 | n+1,c,b,feed =>
  if c.st == 0 then (if b == 60 then some { c with st:=1 } else some c)
  else if c.st == 1 then (if (opened b).2 then some (opened b).1 else again n { c with st:=0 } b feed)
  else if c.st == 2 then some (closed b)
  else if isT c.st then (if (tag c b).2 then again n (tag c b).1 b feed else some (tag c b).1)
  else if c.st == 8 then some (value c b)
  else if c.st == 17 || c.st == 18 || c.st == 19 then some (raw c b feed)
  else some (note c b)
end Sx
namespace Sx
theorem named_nm (c:Ctx) (b:UInt8) (h:(named c b).2=true):(named c b).1.nm.length≤c.nm.length:=by
 unfold named at *
 cases h1:(b == 61 && c.nm != []) <;> cases h2:(b == 47 || b == 62) <;> cases h3:blankB b <;> cases h4:(c.st == 6) <;> cases h5:(b == 34 || b == 39 || b == 60) <;> rw [h1,h2,h3,h4,h5] at h <;> first | (cases h;done) | exact Nat.zero_le _
theorem begun_nm (c:Ctx) (b:UInt8) (h:(begunV c b).2=true):(begunV c b).1.nm.length≤c.nm.length:=by
 unfold begunV at *
 cases h3:blankB b <;> cases h4:(b == 62) <;> cases h5:(b == 34 || b == 39) <;> rw [h3,h4,h5] at h <;> first | (cases h;done) | exact Nat.le_refl _
theorem tag_nm (c:Ctx) (b:UInt8) (h:(tag c b).2=true):(tag c b).1.nm.length≤c.nm.length:=by
 unfold tag at *
 cases h3:(c.st == 3) with
 | true =>
  rw [h3] at h
  cases h1:(!blankB b && b != 47 && b != 62) <;> cases h2:c.en <;> rw [h1,h2] at h <;> first | (cases h;done) | exact Nat.zero_le _
 | false =>
 cases h9:(c.st == 9) with
 | true =>
  rw [h3,h9] at h
  cases h1:blankB b <;> cases h2:(b == 47) <;> cases h4:(b == 62) <;> rw [h1,h2,h4] at h <;> cases h
 | false =>
 cases h10:(c.st == 10) with
 | true =>
  rw [h3,h9,h10] at h
  cases h1:(b == 62) <;> rw [h1] at h <;> first | (cases h;done) | exact Nat.zero_le _
 | false =>
 cases h4:(c.st == 4) with
 | true =>
  rw [h3,h9,h10,h4] at h
  cases h1:blankB b <;> cases h2:(b == 47 || b == 62) <;> cases h5:(b == 61) <;> rw [h1,h2,h5] at h <;> first | (cases h;done) | exact Nat.zero_le _ | exact Nat.le_refl _
 | false =>
 cases h7:(c.st == 7) with
 | true =>
  rw [h3,h9,h10,h4,h7] at h
  exact begun_nm c b h
 | false =>
  rw [h3,h9,h10,h4,h7] at h
  exact named_nm c b h
end Sx

namespace Sx
open Go
def rank (s:UInt8):Nat:=if s == 1 || s == 3 || s == 5 || s == 7 then 2 else if s == 4 then 3 else if s == 6 || s == 10 then 4 else 1
theorem rank_begun (c:Ctx) (b:UInt8) (h:(begunV c b).2=true):rank (begunV c b).1.st=1:=by
 unfold begunV at *
 cases h3:blankB b <;> cases h4:(b == 62) <;> cases h5:(b == 34 || b == 39) <;> rw [h3,h4,h5] at h <;> first | (cases h;done) | rfl
theorem rank_named (c:Ctx) (b:UInt8) (h:(named c b).2=true):rank (named c b).1.st=1∨(c.st == 6)=true∧rank (named c b).1.st=3:=by
 unfold named at *
 cases h1:(b == 61 && c.nm != []) <;> cases h2:(b == 47 || b == 62) <;> cases h3:blankB b <;> cases h4:(c.st == 6) <;> cases h5:(b == 34 || b == 39 || b == 60) <;> rw [h1,h2,h3,h4,h5] at h <;> first | (cases h;done) | exact .inl rfl | exact .inr ⟨rfl,rfl⟩
theorem rank_tag (c:Ctx) (b:UInt8) (hT:isT c.st=true) (h:(tag c b).2=true):rank (tag c b).1.st < rank c.st:=by
 unfold tag at *
 cases h3:(c.st == 3) with
 | true =>
  rw [h3] at h
  rw [eq_of_beq h3]
  cases h1:(!blankB b && b != 47 && b != 62) <;> cases h2:c.en <;> rw [h1,h2] at h <;> first | (cases h;done) | (show 1 < 2;omega)
 | false =>
 cases h9:(c.st == 9) with
 | true =>
  rw [h3,h9] at h
  cases h1:blankB b <;> cases h2:(b == 47) <;> cases h4:(b == 62) <;> rw [h1,h2,h4] at h <;> cases h
 | false =>
 cases h10:(c.st == 10) with
 | true =>
  rw [h3,h9,h10] at h
  rw [eq_of_beq h10]
  cases h1:(b == 62) <;> rw [h1] at h <;> first | (cases h;done) | (show 3 < 4;omega)
 | false =>
 cases h4:(c.st == 4) with
 | true =>
  rw [h3,h9,h10,h4] at h
  rw [eq_of_beq h4]
  cases h1:blankB b <;> cases h2:(b == 47 || b == 62) <;> cases h5:(b == 61) <;> rw [h1,h2,h5] at h <;> first | (cases h;done) | (show 1 < 3;omega) | (show 2 < 3;omega)
 | false =>
 cases h7:(c.st == 7) with
 | true =>
  rw [h3,h9,h10,h4,h7] at h
  have:=rank_begun c b h
  show rank (begunV c b).1.st < rank c.st
  rw [this,eq_of_beq h7];show 1 < 2;omega
 | false =>
  rw [h3,h9,h10,h4,h7] at h
  show rank (named c b).1.st < rank c.st
  have h56:(c.st == 5)=true∨(c.st == 6)=true:=by
   unfold isT at hT
   rw [h3,h4,h7,h9,h10] at hT
   simpa using hT
  rcases rank_named c b h with e | ⟨h6,e⟩
  ·rw [e]
   rcases h56 with h | h <;> rw [eq_of_beq h]
   ·show 1 < 2;omega
   ·show 1 < 4;omega
  ·rw [e,eq_of_beq h6];show 3 < 4;omega
theorem again_some (b:UInt8) (feed:Bool):∀ (n:Nat) (c:Ctx),rank c.st≤n→∃ d,again n c b feed=some d
 | 0,c,h=>by
  unfold rank at h
  repeat' split at h
  all_goals omega
 | n+1,c,h=>by
  unfold again
  split
  ·split <;> exact ⟨_,rfl⟩
  ·split
   ·rename_i h1
    split
    ·exact ⟨_,rfl⟩
    ·refine again_some b feed n _ ?_
     rw [eq_of_beq h1] at h
     have h':2≤n+1:=h
     show 1≤n;omega
   ·split
    ·exact ⟨_,rfl⟩
    ·split
     ·rename_i hT
      split
      ·rename_i h4
       refine again_some b feed n _ ?_
       have:=rank_tag c b hT h4
       omega
      ·exact ⟨_,rfl⟩
     ·split
      ·exact ⟨_,rfl⟩
      ·split <;> exact ⟨_,rfl⟩
theorem rank_le (s:UInt8):rank s≤4:=by
 unfold rank
 repeat' split
 all_goals omega
def mv (c:Ctx) (b:UInt8) (feed:Bool):Ctx:=if form c then (again 4 c b feed).getD badC else badC
theorem mv_some (c:Ctx) (b:UInt8) (feed:Bool) (h:form c=true):again 4 c b feed=some (mv c b feed):=by
 obtain ⟨d,hd⟩:=again_some b feed 4 c (rank_le c.st)
 unfold mv
 rw [h,hd];rfl
theorem mv_bad (c:Ctx) (b:UInt8) (feed:Bool) (h:form c=false):mv c b feed=badC:=by
 unfold mv
 rw [h];rfl
def stepB (c:Ctx) (b:UInt8):Ctx:=mv c b true
theorem of_ite {p:Prop} [Decidable p] {q:Bool} (h:(if p then false else q)=true):¬ p∧q=true:=by
 split at h
 ·cases h
 ·rename_i hp;exact ⟨hp,h⟩
theorem form_name (c:Ctx) (h:form c=true):(if c.st == 3 || c.st == 5 || c.st == 6 then small c.nm 32 else if c.st == 8 && c.at' == 1 && c.pa == 1 then small c.nm 16 else if c.st == 19 then pre c.nm (nameOf c.el) else c.nm == [])=true:=by
 unfold form at h
 exact (of_ite (of_ite (of_ite (of_ite (of_ite (of_ite (of_ite (of_ite (of_ite h).2).2).2).2).2).2).2).2).2
theorem pre_le {p l:List UInt8} (h:pre p l=true):p.length≤l.length:=by
 simp only [pre,Bool.and_eq_true,decide_eq_true_eq] at h
 exact h.1
theorem nameOf_le (el:UInt8):(nameOf el).length≤8:=of_decide_eq_true (all_u8 (p:=fun el=>decide ((nameOf el).length≤8)) (by kernel_rfl) el)
theorem small_len {l:List UInt8} {n:Int} (h:small l n=true):1≤l.length∧(l.length:Int)≤n:=by
 simp only [small,Bool.and_eq_true,decide_eq_true_eq] at h
 exact h.2
theorem form_nm (c:Ctx) (h:form c=true):c.nm.length≤32:=by
 have h:=form_name c h
 split at h
 ·have:=small_len h;omega
 ·split at h
  ·have:=small_len h;omega
  ·split at h
   ·have:=pre_le h;have:=nameOf_le c.el;omega
   ·rw [eq_of_beq h];simp
end Sx

namespace Sx
open Go
theorem form1_of (c:Ctx) (h:form c=true):form1 c=true:=by
 obtain ⟨⟩:=c
 rw [form_eq];exact h
theorem form_tail (c:Ctx) (h:form c=true):(if (c.st == 3)=true then cxeq c ⟨c.st,0,c.en,0,0,0,0,false,0,c.nm⟩ && small c.nm 32
 else if (c.st == 4 || c.st == 9 || c.st == 10)=true then cxeq c ⟨c.st,c.el,c.en,0,0,0,0,false,0,[]⟩
 else if (c.st == 5 || c.st == 6)=true then cxeq c ⟨c.st,c.el,c.en,0,0,0,0,false,0,c.nm⟩ && small c.nm 32
 else if (c.st == 7)=true then cxeq c ⟨c.st,c.el,c.en,c.at',0,0,0,false,0,[]⟩
 else if (c.st == 8)=true then valOk c ⟨c.st,c.el,c.en,0,0,0,0,false,0,[]⟩
 else if (c.st == 15)=true then cxeq c ⟨c.st,0,false,0,0,0,0,false,c.da,[]⟩ && decide (c.da≤2)
 else if (c.st == 17 || c.st == 18 || c.st == 19)=true then (cxeq c ⟨c.st,c.el,false,0,0,0,if (c.el == 3 || c.el == 4)=true then c.su else 0,if (c.el == 3 || c.el == 4)=true then c.es else false,0,if (c.st == 19)=true then c.nm else []⟩ && (c.el != 0) && pre c.nm (nameOf c.el) && subOk c.su c.es (c.el == 3))
 else cxeq c ⟨c.st,0,false,0,0,0,0,false,0,[]⟩)=true:=(of_ite (form1_of c h)).2
theorem of_cxeq {a b:Ctx} (h:cxeq a b=true):a=b:=by rw [cxeq_iff] at h;exact of_decide_eq_true h
theorem form_pl (c:Ctx) (h:form c=true) (hs:c.st=0∨c.st=1∨c.st=2∨c.st=11∨c.st=12∨c.st=13∨c.st=14∨c.st=16∨c.st=20):c=st1 c.st:=by
 have t:=form_tail c h
 rcases hs with e | e | e | e | e | e | e | e | e <;> rw [e] at t <;> have:=of_cxeq t <;> rw [e] <;> exact this
theorem form_st3 (c:Ctx) (h:form c=true) (e:c.st=3):c=⟨3,0,c.en,0,0,0,0,false,0,c.nm⟩∧small c.nm 32=true:=by
 have t:=form_tail c h
 rw [e] at t
 have t:(cxeq c ⟨3,0,c.en,0,0,0,0,false,0,c.nm⟩ && small c.nm 32)=true:=t
 rw [Bool.and_eq_true] at t
 exact ⟨of_cxeq t.1,t.2⟩
theorem form_st4 (c:Ctx) (h:form c=true) (e:c.st=4∨c.st=9∨c.st=10):c=within c c.st:=by
 have t:=form_tail c h
 rcases e with e | e | e <;> rw [e] at t <;> have:=of_cxeq t <;> rw [e] <;> exact this
theorem form_st5 (c:Ctx) (h:form c=true) (e:c.st=5∨c.st=6):c={ within c c.st with nm:=c.nm }∧small c.nm 32=true:=by
 have t:=form_tail c h
 rcases e with e | e <;> rw [e] at t <;> (have t:=Bool.and_eq_true_iff.1 t) <;> rw [e] <;> exact ⟨of_cxeq t.1,t.2⟩
theorem form_st7 (c:Ctx) (h:form c=true) (e:c.st=7):c={ within c 7 with at':=c.at' }:=by
 have t:=form_tail c h
 rw [e] at t
 exact of_cxeq t
theorem form_st8 (c:Ctx) (h:form c=true) (e:c.st=8):valOk c ⟨8,c.el,c.en,0,0,0,0,false,0,[]⟩=true:=by
 have t:=form_tail c h
 rw [e] at t
 exact t
theorem form_st15 (c:Ctx) (h:form c=true) (e:c.st=15):c=⟨15,0,false,0,0,0,0,false,c.da,[]⟩∧c.da≤2:=by
 have t:=form_tail c h
 rw [e] at t
 have t:(cxeq c ⟨15,0,false,0,0,0,0,false,c.da,[]⟩ && decide (c.da≤2))=true:=t
 rw [Bool.and_eq_true] at t
 exact ⟨of_cxeq t.1,of_decide_eq_true t.2⟩
theorem form_pa (c:Ctx) (h:form c=true):c.pa≤5:=by
 have t:=(of_ite (form1_of c h)).1
 simp only [Bool.or_eq_true,decide_eq_true_eq] at t
 rw [UInt8.le_iff_toNat_le]
 have:¬ 5 < c.pa:=fun hh=>t (.inl (.inl (.inr hh)))
 rw [UInt8.lt_iff_toNat_lt] at this
 omega
end Sx
namespace Sx
theorem elOf_le (nm:List UInt8):elOf nm≤4:=by
 unfold elOf
 repeat' split
 all_goals decide
theorem form_tagS (s el:UInt8) (en:Bool) (hs:s=4∨s=9∨s=10):form ⟨s,el,en,0,0,0,0,false,0,[]⟩=(decide (el≤4) && !(en && el != 0)):=by
 rcases el_cases el with h | h | h | h | h | h
 ·subst h;cases en <;> rcases hs with e | e | e <;> subst e <;> rfl
 ·subst h;cases en <;> rcases hs with e | e | e <;> subst e <;> rfl
 ·subst h;cases en <;> rcases hs with e | e | e <;> subst e <;> rfl
 ·subst h;cases en <;> rcases hs with e | e | e <;> subst e <;> rfl
 ·subst h;cases en <;> rcases hs with e | e | e <;> subst e <;> rfl
 ·have h1:decide (el≤4)=false:=by rw [decide_eq_false_iff_not,UInt8.le_iff_toNat_le];rw [UInt8.lt_iff_toNat_lt] at h;omega
  rw [h1,Bool.false_and]
  unfold form
  have:decide (4 < el)=true:=decide_eq_true h
  simp only [this,Bool.or_true,Bool.true_or,if_true]
theorem form_en (c:Ctx) (h:form c=true):c.el≤4∧(c.en && c.el != 0)=false:=by
 have t:=(of_ite (form1_of c h)).1
 simp only [Bool.not_eq_true,Bool.or_eq_false_iff,decide_eq_false_iff_not] at t
 refine ⟨?_,t.2⟩
 have:=t.1.1.1.1.2
 rw [UInt8.lt_iff_toNat_lt] at this
 rw [UInt8.le_iff_toNat_le];omega
theorem form_within (c:Ctx) (h:form c=true) (s:UInt8) (hs:s=4∨s=9∨s=10):form (within c s)=true:=by
 obtain ⟨h1,h2⟩:=form_en c h
 have:=form_tagS s c.el c.en hs
 unfold within
 rw [this,h2,decide_eq_true h1];rfl
theorem form_at (c:Ctx) (h:form c=true):c.at'≤4:=by
 have t:=(of_ite (form1_of c h)).1
 simp only [Bool.not_eq_true,Bool.or_eq_false_iff,decide_eq_false_iff_not] at t
 have:=t.1.1.1.2
 rw [UInt8.lt_iff_toNat_lt] at this
 rw [UInt8.le_iff_toNat_le];omega
theorem form_st8mk (el at' qu:UInt8) (en:Bool) (h1:el≤4) (h2:(en && el != 0)=false) (h3:at'≤4) (h4:qu=0∨qu=34∨qu=39):form ⟨8,el,en,at',qu,0,0,false,0,[]⟩=true:=by
 have l1:el=0∨el=1∨el=2∨el=3∨el=4:=by
  rcases el_cases el with h | h | h | h | h | h
  ·exact .inl h
  ·exact .inr (.inl h)
  ·exact .inr (.inr (.inl h))
  ·exact .inr (.inr (.inr (.inl h)))
  ·exact .inr (.inr (.inr (.inr h)))
  ·rw [UInt8.lt_iff_toNat_lt] at h;rw [UInt8.le_iff_toNat_le] at h1;omega
 have l3:at'=0∨at'=1∨at'=2∨at'=3∨at'=4:=by
  rcases el_cases at' with h | h | h | h | h | h
  ·exact .inl h
  ·exact .inr (.inl h)
  ·exact .inr (.inr (.inl h))
  ·exact .inr (.inr (.inr (.inl h)))
  ·exact .inr (.inr (.inr (.inr h)))
  ·rw [UInt8.lt_iff_toNat_lt] at h;rw [UInt8.le_iff_toNat_le] at h3;omega
 rcases l1 with e | e | e | e | e <;> subst e <;> cases en <;> first | (cases h2;done) | (rcases l3 with e | e | e | e | e <;> subst e <;> rcases h4 with e | e | e <;> subst e <;> rfl)
def Q (c:Ctx) (b:UInt8):Prop:=form c=true∨(c=within c 5∧(b == 61)=false∧(b == 47 || b == 62)=false∧blankB b=false)
theorem tag9 (c:Ctx) (b:UInt8) (h:c.st=9):(tag c b).2=false:=by
 unfold tag
 rw [h]
 cases blankB b <;> cases (b == 47) <;> cases (b == 62) <;> rfl
end Sx

namespace Sx
open Go
def okE (el:UInt8) (en:Bool):Bool:=decide (el≤4) && !(en && el != 0)
theorem okE_of (c:Ctx) (h:form c=true):okE c.el c.en=true:=by
 obtain ⟨h1,h2⟩:=form_en c h
 unfold okE
 rw [h2,decide_eq_true h1];rfl
theorem okE_cases {el:UInt8} {en:Bool} (h:okE el en=true):(en=true∧el=0)∨(en=false∧(el=0∨el=1∨el=2∨el=3∨el=4)):=by
 unfold okE at h
 rw [Bool.and_eq_true,decide_eq_true_eq] at h
 rcases el_cases el with e | e | e | e | e | e
 ·cases en
  ·exact .inr ⟨rfl, .inl e⟩
  ·exact .inl ⟨rfl,e⟩
 ·subst e;cases en
  ·exact .inr ⟨rfl,by decide⟩
  ·exact absurd h.2 (by decide)
 ·subst e;cases en
  ·exact .inr ⟨rfl,by decide⟩
  ·exact absurd h.2 (by decide)
 ·subst e;cases en
  ·exact .inr ⟨rfl,by decide⟩
  ·exact absurd h.2 (by decide)
 ·subst e;cases en
  ·exact .inr ⟨rfl,by decide⟩
  ·exact absurd h.2 (by decide)
 ·have:=h.1
  rw [UInt8.le_iff_toNat_le] at this
  rw [UInt8.lt_iff_toNat_lt] at e
  omega
theorem mk3 (en:Bool) (nm:List UInt8):form ⟨3,0,en,0,0,0,0,false,0,nm⟩=small nm 32:=by cases en <;> rfl
theorem mkT {el:UInt8} {en:Bool} (h:okE el en=true) (s:UInt8) (hs:s=4∨s=9∨s=10):form ⟨s,el,en,0,0,0,0,false,0,[]⟩=true:=by
 rw [form_tagS s el en hs];exact h
theorem mk5 {el:UInt8} {en:Bool} (h:okE el en=true) (s:UInt8) (hs:s=5∨s=6) (nm:List UInt8):form ⟨s,el,en,0,0,0,0,false,0,nm⟩=small nm 32:=by
 rcases okE_cases h with ⟨rfl,rfl⟩ | ⟨rfl,e | e | e | e | e⟩ <;> rcases hs with e' | e' <;> subst e' <;> (try subst e) <;> rfl
theorem mk7 {el:UInt8} {en:Bool} (h:okE el en=true) {at':UInt8} (ha:at'=0∨at'=1∨at'=2∨at'=3∨at'=4):form ⟨7,el,en,at',0,0,0,false,0,[]⟩=true:=by
 rcases okE_cases h with ⟨rfl,rfl⟩ | ⟨rfl,e | e | e | e | e⟩ <;> rcases ha with e' | e' | e' | e' | e' <;> subst e' <;> (try subst e) <;> rfl
theorem mk8E {el:UInt8} {en:Bool} (h:okE el en=true) (at' qu pa su:UInt8) (es:Bool) (nm:List UInt8):form ⟨8,el,en,at',qu,pa,su,es,0,nm⟩=form ⟨8,0,false,at',qu,pa,su,es,0,nm⟩:=by
 rcases okE_cases h with ⟨rfl,rfl⟩ | ⟨rfl,e | e | e | e | e⟩ <;> (try subst e) <;> rfl
theorem mk8url (qu:UInt8) (hq:qu=0∨qu=34∨qu=39) (pa:UInt8) (hp:pa=0∨pa=1∨pa=2∨pa=3∨pa=4∨pa=5) (nm:List UInt8):form ⟨8,0,false,1,qu,pa,0,false,0,nm⟩=if pa == 1 then small nm 16 else nm == []:=by
 rcases hq with e | e | e <;> subst e <;> rcases hp with e | e | e | e | e | e <;> subst e <;> rfl
theorem mk8code (qu:UInt8) (hq:qu=0∨qu=34∨qu=39) (at':UInt8) (ha:at'=2∨at'=3) (su:UInt8) (hs:su=0∨su=1∨su=2∨su=3∨su=4∨su=5∨su=6) (es:Bool):form ⟨8,0,false,at',qu,0,su,es,0,[]⟩=subOk su es (at' == 2):=by
 rcases hq with e | e | e <;> subst e <;> rcases ha with e | e <;> subst e <;> rcases hs with e | e | e | e | e | e | e <;> subst e <;> cases es <;> rfl
theorem mkR (s el:UInt8) (hs:s=17∨s=18) (he:el=1∨el=2):form ⟨s,el,false,0,0,0,0,false,0,[]⟩=true:=by
 rcases hs with e | e <;> subst e <;> rcases he with e | e <;> subst e <;> rfl
theorem mkRc (s el:UInt8) (hs:s=17∨s=18) (he:el=3∨el=4) (su:UInt8) (hu:su=0∨su=1∨su=2∨su=3∨su=4∨su=5∨su=6) (es:Bool):form ⟨s,el,false,0,0,0,su,es,0,[]⟩=subOk su es (el == 3):=by
 rcases hs with e | e <;> subst e <;> rcases he with e | e <;> subst e <;> rcases hu with e | e | e | e | e | e | e <;> subst e <;> cases es <;> rfl
theorem mkRe (el:UInt8) (he:el=1∨el=2) (nm:List UInt8):form ⟨19,el,false,0,0,0,0,false,0,nm⟩=pre nm (nameOf el):=by
 rcases he with e | e <;> subst e <;> rfl
theorem mkRec (el:UInt8) (he:el=3∨el=4) (su:UInt8) (hu:su=0∨su=1∨su=2∨su=3∨su=4∨su=5∨su=6) (es:Bool) (nm:List UInt8):form ⟨19,el,false,0,0,0,su,es,0,nm⟩=(subOk su es (el == 3) && pre nm (nameOf el)):=by
 rcases he with e | e <;> subst e <;> rcases hu with e | e | e | e | e | e | e <;> subst e <;> cases es <;> rfl
theorem attrOf_cases (nm:List UInt8):attrOf nm=0∨attrOf nm=1∨attrOf nm=2∨attrOf nm=3∨attrOf nm=4:=by
 unfold attrOf
 repeat' split
 all_goals simp
theorem low_lowb (b:UInt8):low [lowb b]=true:=by
 revert b
 exact all_u8 (by kernel_rfl)
theorem low_snoc {nm:List UInt8} (h:low nm=true) (b:UInt8):low (nm ++ [lowb b])=true:=by
 have:=low_lowb b
 unfold low at *
 rw [List.all_append,h,this];rfl
theorem small_low {nm:List UInt8} {n:Int} (h:small nm n=true):low nm=true:=by
 unfold small at h
 rw [Bool.and_eq_true] at h
 exact h.1
theorem small_snoc {nm:List UInt8} (h:low nm=true) (b:UInt8) {n:Nat} (hl:nm.length < n):small (nm ++ [lowb b]) (n:Int)=true:=by
 unfold small
 rw [low_snoc h b,Bool.true_and,Bool.and_eq_true,decide_eq_true_eq,decide_eq_true_eq]
 simp;omega
theorem tagEnd_form {el:UInt8} (h:el≤4):form (tagEnd el)=true:=by
 rcases el_cases el with e | e | e | e | e | e
 ·subst e;rfl
 ·subst e;rfl
 ·subst e;rfl
 ·subst e;rfl
 ·subst e;rfl
 ·rw [UInt8.le_iff_toNat_le] at h;rw [UInt8.lt_iff_toNat_lt] at e;omega
theorem opened_form (b:UInt8):form (opened b).1=true:=by
 unfold opened
 repeat' split
 all_goals first | rfl | (show form ⟨3,0,false,0,0,0,0,false,0,[lowb b]⟩=true;rw [mk3];exact small_snoc (nm:=[]) rfl b (n:=32) (by decide))
theorem closed_form (b:UInt8):form (closed b)=true:=by
 unfold closed
 repeat' split
 all_goals first | rfl | (rw [mk3];exact small_snoc (nm:=[]) rfl b (n:=32) (by decide))
end Sx

namespace Sx
open Go
theorem su_of (c:Ctx) (h:form c=true):c.su=0∨c.su=1∨c.su=2∨c.su=3∨c.su=4∨c.su=5∨c.su=6:=by
 have t:=(of_ite (form1_of c h)).1
 simp only [Bool.not_eq_true,Bool.or_eq_false_iff,decide_eq_false_iff_not] at t
 have:=t.1.2
 rcases su_cases c.su with e | e | e | e | e | e | e | e
 ·exact .inl e
 ·exact .inr (.inl e)
 ·exact .inr (.inr (.inl e))
 ·exact .inr (.inr (.inr (.inl e)))
 ·exact .inr (.inr (.inr (.inr (.inl e))))
 ·exact .inr (.inr (.inr (.inr (.inr (.inl e)))))
 ·exact .inr (.inr (.inr (.inr (.inr (.inr e)))))
 ·exact absurd e this
theorem at_of (c:Ctx) (h:form c=true):c.at'=0∨c.at'=1∨c.at'=2∨c.at'=3∨c.at'=4:=by
 have:=form_at c h
 rcases el_cases c.at' with e | e | e | e | e | e
 ·exact .inl e
 ·exact .inr (.inl e)
 ·exact .inr (.inr (.inl e))
 ·exact .inr (.inr (.inr (.inl e)))
 ·exact .inr (.inr (.inr (.inr e)))
 ·rw [UInt8.le_iff_toNat_le] at this;rw [UInt8.lt_iff_toNat_lt] at e;omega
theorem pa_of (c:Ctx) (h:form c=true):c.pa=0∨c.pa=1∨c.pa=2∨c.pa=3∨c.pa=4∨c.pa=5:=by
 have:=form_pa c h
 rcases pa_cases c.pa with e | e | e | e | e | e | e
 ·exact .inl e
 ·exact .inr (.inl e)
 ·exact .inr (.inr (.inl e))
 ·exact .inr (.inr (.inr (.inl e)))
 ·exact .inr (.inr (.inr (.inr (.inl e))))
 ·exact .inr (.inr (.inr (.inr (.inr e))))
 ·rw [UInt8.le_iff_toNat_le] at this;rw [UInt8.lt_iff_toNat_lt] at e;omega
theorem form_val (c:Ctx) (h:form c=true) (e:c.st=8):(c.qu=0∨c.qu=34∨c.qu=39) ∧
  ((c.at'=1∧c=⟨8,c.el,c.en,1,c.qu,c.pa,0,false,0,c.nm⟩∧(if c.pa == 1 then small c.nm 16 else c.nm == [])=true) ∨
   ((c.at'=2∨c.at'=3)∧c=⟨8,c.el,c.en,c.at',c.qu,0,c.su,c.es,0,[]⟩∧subOk c.su c.es (c.at' == 2)=true) ∨
   ((c.at'=0∨c.at'=4)∧c=⟨8,c.el,c.en,c.at',c.qu,0,0,false,0,[]⟩)):=by
 have t:=form_st8 c h e
 unfold valOk at t
 obtain ⟨t1,t⟩:=of_ite t
 have hq:c.qu=0∨c.qu=34∨c.qu=39:=by
  simp only [Bool.and_eq_true,bne_iff_ne,not_and,Classical.not_not] at t1
  by_cases h0:c.qu=0
  ·exact .inl h0
  ·by_cases h34:c.qu=34
   ·exact .inr (.inl h34)
   ·exact .inr (.inr (t1 ⟨h0,h34⟩))
 refine ⟨hq,?_⟩
 split at t
 ·rename_i h1
  have h1:=eq_of_beq h1
  split at t
  ·rename_i hp
   rw [Bool.and_eq_true] at t
   refine .inl ⟨h1,?_,?_⟩
   ·have:=of_cxeq t.1;rw [h1] at this;exact this
   ·rw [hp,if_pos rfl];exact t.2
  ·rename_i hp
   have hcx:=of_cxeq t
   refine .inl ⟨h1,?_,?_⟩
   ·have hn:c.nm=[]:=by rw [hcx]
    rw [h1] at hcx;rw [hn];exact hcx
   ·rw [if_neg hp,hcx];rfl
 ·rename_i h1
  split at t
  ·rename_i h23
   rw [Bool.and_eq_true] at t
   refine .inr (.inl ⟨?_,of_cxeq t.1,t.2⟩)
   simpa using h23
  ·rename_i h23
   refine .inr (.inr ⟨?_,of_cxeq t⟩)
   rcases at_of c h with x | x | x | x | x
   ·exact .inl x
   ·rw [x] at h1;exact absurd rfl h1
   ·rw [x] at h23;exact absurd rfl h23
   ·rw [x] at h23;exact absurd rfl h23
   ·exact .inr x
def okSu (su:UInt8):Prop:=su=0∨su=1∨su=2∨su=3∨su=4∨su=5∨su=6
theorem code0_shape (c:Ctx) (b:UInt8) (script:Bool) (hs:subOk c.su c.es script=true) (h0:c.su=0):code0 c b script=badC∨∃ su' es',code0 c b script={ c with su:=su',es:=es' }∧okSu su'∧subOk su' es' script=true:=by
 have hes:c.es=false:=by
  rw [h0] at hs
  cases hx:c.es with
  | false=>rfl
  | true=>rw [hx] at hs;cases script <;> cases hs
 unfold code0
 repeat' split
 ·exact .inr ⟨1,c.es,rfl,by simp [okSu],by rw [hes];cases script <;> rfl⟩
 ·exact .inr ⟨2,c.es,rfl,by simp [okSu],by rw [hes];cases script <;> rfl⟩
 ·exact .inr ⟨3,c.es,rfl,by simp [okSu],by rw [hes];cases script <;> rfl⟩
 ·exact .inl rfl
 ·exact .inl rfl
 ·exact .inr ⟨c.su,c.es,rfl,by simp [okSu,h0],hs⟩
theorem code_shape (c:Ctx) (b:UInt8) (script:Bool) (hu:okSu c.su) (hs:subOk c.su c.es script=true):code c b script=badC∨∃ su' es',code c b script={ c with su:=su',es:=es' }∧okSu su'∧subOk su' es' script=true:=by
 have hes:c.su≠1→c.su≠2→c.es=false:=by
  intro h1 h2
  unfold subOk at hs
  cases hx:c.es with
  | false=>rfl
  | true =>
   rw [hx,Bool.and_eq_true] at hs
   have h3:(c.su == 1)=false:=by simpa using h1
   have h4:(c.su == 2)=false:=by simpa using h2
   rw [h3,h4] at hs
   exact absurd hs.2 (by simp)
 have stay:∃ su' es',c={ c with su:=su',es:=es' }∧okSu su'∧subOk su' es' script=true:=⟨c.su,c.es,rfl,hu,hs⟩
 have to (su:UInt8) (hk:okSu su) (hz:c.es=false) (h:subOk su false script=true):∃ su' es',({ c with su:=su }:Ctx)={ c with su:=su',es:=es' }∧okSu su'∧subOk su' es' script=true:=⟨su,c.es,rfl,hk,by rw [hz];exact h⟩
 have s0:subOk 0 false script=true:=by cases script <;> rfl
 have s5:subOk 5 false script=true:=by cases script <;> rfl
 have s6:subOk 6 false script=true:=by cases script <;> rfl
 unfold code
 split
 ·rename_i h
  exact code0_shape c b script hs (eq_of_beq h)
 ·split
  ·rename_i h
   have hz:=hes (by rw [eq_of_beq h];decide) (by rw [eq_of_beq h];decide)
   split
   ·exact .inr (to 5 (by simp [okSu]) hz s5)
   ·split
    ·rename_i h2
     rw [Bool.and_eq_true] at h2
     exact .inr (to 4 (by simp [okSu]) hz (by rw [h2.1];rfl))
    ·split
     ·exact .inl rfl
     ·rcases code0_shape { c with su:=0 } b script (by show subOk 0 c.es script=true;rw [hz];exact s0) rfl with e | ⟨su',es',e,k1,k2⟩
      ·exact .inl e
      ·exact .inr ⟨su',es',e,k1,k2⟩
  ·have tx:(c.su=1∨c.su=2)→text c b=badC∨∃ su' es',text c b={ c with su:=su',es:=es' }∧okSu su'∧subOk su' es' script=true:=by
    intro h12
    unfold text
    have keep (es:Bool):subOk c.su es script=true:=by rcases h12 with e | e <;> rw [e] <;> cases es <;> cases script <;> rfl
    split
    ·exact .inr ⟨c.su,false,rfl,hu,keep false⟩
    ·rename_i hn
     have hz:c.es=false:=by simpa using hn
     split
     ·exact .inr ⟨c.su,true,rfl,hu,keep true⟩
     ·split
      ·exact .inl rfl
      ·split
       ·exact .inr (to 0 (by simp [okSu]) hz s0)
       ·exact .inr stay
   split
   ·rename_i h;exact tx (.inl (eq_of_beq h))
   ·split
    ·rename_i h;exact tx (.inr (eq_of_beq h))
    ·rename_i h1 h2
     have hz:=hes (by simpa using h1) (by simpa using h2)
     repeat' split
     all_goals first | exact .inr stay | exact .inr (to 0 (by simp [okSu]) hz s0) | exact .inr (to 5 (by simp [okSu]) hz s5) | exact .inr (to 6 (by simp [okSu]) hz s6)
theorem url_form (c:Ctx) (b:UInt8) (hE:okE c.el c.en=true) (hq:c.qu=0∨c.qu=34∨c.qu=39) (hp:c.pa=0∨c.pa=1∨c.pa=2∨c.pa=3∨c.pa=4∨c.pa=5) (hc:c=⟨8,c.el,c.en,1,c.qu,c.pa,0,false,0,c.nm⟩) (hn:(if c.pa == 1 then small c.nm 16 else c.nm == [])=true):form (url c b)=true:=by
 have mk (pa:UInt8) (nm:List UInt8) (hp:pa=0∨pa=1∨pa=2∨pa=3∨pa=4∨pa=5) (h:(if pa == 1 then small nm 16 else nm == [])=true):form ⟨c.st,c.el,c.en,c.at',c.qu,pa,c.su,c.es,c.da,nm⟩=true:=by
  rw [hc]
  show form ⟨8,c.el,c.en,1,c.qu,pa,0,false,0,nm⟩=true
  rw [mk8E hE,mk8url c.qu hq pa hp nm];exact h
 have hlow:low c.nm=true:=by
  split at hn
  ·exact small_low hn
  ·rw [eq_of_beq hn];rfl
 unfold url
 split
 ·rename_i h
  refine mk c.pa [] hp ?_
  rw [Bool.or_eq_true] at h
  rcases h with h | h <;> rw [eq_of_beq h] <;> rfl
 ·split
  ·rfl
  ·split
   ·exact mk 4 [] (by simp) rfl
   ·split
    ·rename_i h;refine mk c.pa [] hp ?_;rw [eq_of_beq h];rfl
    ·split
     ·exact mk 3 [] (by simp) rfl
     ·split
      ·rfl
      ·split
       ·split
        ·exact mk 3 [] (by simp) rfl
        ·exact mk 5 [] (by simp) rfl
       ·split
        ·rename_i h;refine mk c.pa [] hp ?_;rw [eq_of_beq h];rfl
        ·split
         ·rename_i hlen
          refine mk 1 c.nm (by simp) ?_
          show small c.nm 16=true
          split at hn
          ·exact hn
          ·rw [eq_of_beq hn] at hlen;simp at hlen
         ·rename_i hlen
          refine mk 1 (c.nm ++ [lowb b]) (by simp) ?_
          show small (c.nm ++ [lowb b]) 16=true
          exact small_snoc hlow b (n:=16) (by simpa using hlen)
theorem value_form (c:Ctx) (b:UInt8) (h:form c=true) (e:c.st=8):form (value c b)=true:=by
 have hE:=okE_of c h
 obtain ⟨hq,hv⟩:=form_val c h e
 unfold value
 split
 ·split
  ·rfl
  ·split
   ·exact form_within c h 9 (by simp)
   ·split
    ·exact tagEnd_form (form_en c h).1
    ·exact form_within c h 4 (by simp)
 ·split
  ·rfl
  ·split
   ·rename_i h1
    rcases hv with ⟨_,hc,hn⟩ | ⟨ha,_,_⟩ | ⟨ha,_⟩
    ·exact url_form c b hE hq (pa_of c h) hc hn
    ·rcases ha with x | x <;> (rw [x] at h1;cases h1)
    ·rcases ha with x | x <;> (rw [x] at h1;cases h1)
   ·split
    ·rename_i h23
     split
     ·rfl
     ·rcases hv with ⟨ha,_,_⟩ | ⟨ha,hc,hs⟩ | ⟨ha,_⟩
      ·rw [ha] at h23;cases h23
      ·rcases code_shape c b (c.at' == 2) (su_of c h) hs with x | ⟨su',es',x,k1,k2⟩
       ·rw [x];rfl
       ·rw [x,hc]
        show form ⟨8,c.el,c.en,c.at',c.qu,0,su',es',0,[]⟩=true
        rw [mk8E hE,mk8code c.qu hq c.at' ha su' k1 es'];exact k2
      ·rcases ha with x | x <;> (rw [x] at h23;cases h23)
    ·exact h
theorem form_raw (c:Ctx) (h:form c=true) (e:c.st=17∨c.st=18∨c.st=19):∃ su es,c=⟨c.st,c.el,false,0,0,0,su,es,0,if (c.st == 19)=true then c.nm else []⟩∧(c.el=1∨c.el=2∨c.el=3∨c.el=4)∧pre c.nm (nameOf c.el)=true∧okSu su∧subOk su es (c.el == 3)=true∧((c.el=1∨c.el=2)→su=0∧es=false):=by
 have t:=form_tail c h
 have t:(cxeq c ⟨c.st,c.el,false,0,0,0,if (c.el == 3 || c.el == 4)=true then c.su else 0,if (c.el == 3 || c.el == 4)=true then c.es else false,0,if (c.st == 19)=true then c.nm else []⟩ && (c.el != 0) && pre c.nm (nameOf c.el) && subOk c.su c.es (c.el == 3))=true:=by
  rcases e with e | e | e <;> rw [e] at t ⊢ <;> exact t
 simp only [Bool.and_eq_true] at t
 obtain ⟨⟨⟨t1,t2⟩,t3⟩,t4⟩:=t
 have hc:=of_cxeq t1
 have hel:c.el=1∨c.el=2∨c.el=3∨c.el=4:=by
  have:=(form_en c h).1
  rcases el_cases c.el with x | x | x | x | x | x
  ·rw [x] at t2;cases t2
  ·exact .inl x
  ·exact .inr (.inl x)
  ·exact .inr (.inr (.inl x))
  ·exact .inr (.inr (.inr x))
  ·rw [UInt8.le_iff_toNat_le] at this;rw [UInt8.lt_iff_toNat_lt] at x;omega
 have hsu:c.su=if (c.el == 3 || c.el == 4)=true then c.su else 0:=congrArg Ctx.su hc
 have hes:c.es=if (c.el == 3 || c.el == 4)=true then c.es else false:=congrArg Ctx.es hc
 refine ⟨c.su,c.es,?_,hel,t3,su_of c h,t4,fun h12=>?_⟩
 ·rw [← hsu,← hes] at hc;exact hc
 ·rcases h12 with x | x <;> rw [x] at hsu hes <;> exact ⟨hsu,hes⟩
end Sx

namespace Sx
open Go
def RW (s:UInt8) (d:Ctx) (nm:List UInt8):Prop:=∃ el su es,d=⟨s,el,false,0,0,0,su,es,0,nm⟩∧(el=1∨el=2∨el=3∨el=4)∧okSu su∧subOk su es (el == 3)=true∧((el=1∨el=2)→su=0∧es=false)
theorem RW.form {s:UInt8} {d:Ctx} (h:RW s d []) (hs:s=17∨s=18):form d=true:=by
 obtain ⟨el,su,es,rfl,hel,hu,hk,h12⟩:=h
 rcases hel with x | x | x | x
 ·obtain ⟨rfl,rfl⟩:=h12 (.inl x);exact mkR s el hs (.inl x)
 ·obtain ⟨rfl,rfl⟩:=h12 (.inr x);exact mkR s el hs (.inr x)
 ·rw [mkRc s el hs (.inl x) su hu es];exact hk
 ·rw [mkRc s el hs (.inr x) su hu es];exact hk
theorem RW.form19 {d:Ctx} {nm:List UInt8} (h:RW 19 d nm) (hp:pre nm (nameOf d.el)=true):Sx.form d=true:=by
 obtain ⟨el,su,es,rfl,hel,hu,hk,h12⟩:=h
 rcases hel with x | x | x | x
 ·obtain ⟨rfl,rfl⟩:=h12 (.inl x);rw [mkRe el (.inl x)];exact hp
 ·obtain ⟨rfl,rfl⟩:=h12 (.inr x);rw [mkRe el (.inr x)];exact hp
 ·rw [mkRec el (.inl x) su hu es];rw [hk,Bool.true_and];exact hp
 ·rw [mkRec el (.inr x) su hu es];rw [hk,Bool.true_and];exact hp
theorem RW.to {s:UInt8} {d:Ctx} {nm:List UInt8} (h:RW s d nm) (s':UInt8) (nm':List UInt8):RW s' { d with st:=s',nm:=nm' } nm':=by
 obtain ⟨el,su,es,rfl,r⟩:=h
 exact ⟨el,su,es,rfl,r⟩
theorem feedL_rw:∀ (l:List UInt8) (d:Ctx),RW 17 d []→(d.el=3∨d.el=4)→feedL d l=badC∨RW 17 (feedL d l) []
 | [],d,h,_=>.inr h
 | b :: r,d,h,he=>by
  unfold feedL
  split
  ·exact .inl rfl
  ·rename_i hb
   obtain ⟨el,su,es,rfl,hel,hu,hk,h12⟩:=h
   simp only at he
   rcases code_shape ⟨17,el,false,0,0,0,su,es,0,[]⟩ b (el == 3) hu hk with x | ⟨su',es',x,k1,k2⟩
   ·simp only at hb;rw [x] at hb;exact absurd rfl hb
   ·simp only
    rw [x]
    refine feedL_rw r _ ⟨el,su',es',rfl,hel,k1,k2,fun h=>?_⟩ he
    rcases he with e | e <;> rw [e] at h <;> rcases h with h | h <;> exact absurd h (by decide)
theorem fed_rw {s:UInt8} {d:Ctx} {nm:List UInt8} (h:RW s d nm) (l:List UInt8) (feed:Bool):fed d l feed=badC∨RW 17 (fed d l feed) []:=by
 have h':=h.to 17 []
 unfold fed
 split
 ·exact .inr h'
 ·rename_i hc
  refine feedL_rw l _ h' ?_
  simp only [Bool.or_eq_true,not_or,Bool.not_eq_true,Bool.not_eq_false',Bool.not_eq_true'] at hc
  have:=hc.2
  obtain ⟨el,su,es,rfl,hel,_⟩:=h
  show el=3∨el=4
  rcases hel with x | x | x | x
  ·subst x;exact absurd rfl this
  ·subst x;exact absurd rfl this
  ·exact .inl x
  ·exact .inr x
theorem raw2_form {s:UInt8} {d:Ctx} {nm:List UInt8} (h:RW s d nm∨d=badC) (b:UInt8) (feed:Bool):form (raw2 d b feed)=true:=by
 rcases h with h | rfl
 case inr=>rfl
 unfold raw2
 split
 ·rfl
 ·rcases fed_rw h [b] feed with x | x
  ·rw [x];rfl
  ·split
   ·have:=(x.to 18 []).form (.inr rfl)
    obtain ⟨el,su,es,e,_⟩:=x
    rw [e] at this ⊢;exact this
   ·exact x.form (.inl rfl)
theorem raw_form (c:Ctx) (b:UInt8) (feed:Bool) (h:form c=true) (e:c.st=17∨c.st=18∨c.st=19):form (raw c b feed)=true:=by
 obtain ⟨su,es,hc,hel,hp,hu,hk,h12⟩:=form_raw c h e
 have hR:RW c.st c (if (c.st == 19)=true then c.nm else []):=⟨c.el,su,es,hc,hel,hu,hk,h12⟩
 unfold raw
 split
 ·rename_i h1
  rw [Bool.and_eq_true] at h1
  have h18:=eq_of_beq h1.1
  have hn:c.nm=[]:=by rw [hc,h18];rfl
  have:=(hR.to 19 []).form19 rfl
  rw [show ({ c with st:=19,nm:=[] }:Ctx)={ c with st:=19 } by rw [← hn]] at this
  exact this
 ·split
  ·rfl
  ·split
   ·split
    ·rfl
    ·unfold tag
     simp only [show ((9:UInt8) == 3)=false from rfl,show ((9:UInt8) == 9)=true from rfl,Bool.false_eq_true,if_false,if_true]
     repeat' split
     all_goals rfl
   ·split
    ·rename_i hx
     rw [Bool.and_eq_true] at hx
     have h19:=eq_of_beq hx.1
     have:=(hR.to 19 (c.nm ++ [lowb b])).form19 hx.2
     rw [← h19] at this
     exact this
    ·split
     ·exact raw2_form (s:=17) (nm:=[]) ((fed_rw hR (47 :: c.nm) feed).symm) b feed
     ·exact raw2_form (.inl hR) b feed
theorem note_form (c:Ctx) (b:UInt8) (h:form c=true):form (note c b)=true:=by
 unfold note
 repeat' split
 all_goals first | rfl | exact h | skip
 rename_i h15 _ _ _ hd
 have hda:=(form_st15 c h (eq_of_beq h15)).2
 have:c.da=0∨c.da=1∨c.da=2:=by
  have:=all_u8 (p:=fun d=>!decide (d≤2) || (d == 0 || (d == 1 || d == 2))) (by kernel_rfl) c.da
  simp only [Bool.or_eq_true,Bool.not_eq_true',decide_eq_false_iff_not,beq_iff_eq] at this
  rcases this with h | h
  ·exact absurd hda h
  ·exact h
 rcases this with x | x | x
 ·rw [x];rfl
 ·rw [x];rfl
 ·rw [x] at hd;exact absurd rfl hd
theorem begunV_form (c:Ctx) (b:UInt8) (h:form c=true) (e:c.st=7):form (begunV c b).1=true:=by
 have hc:=form_st7 c h e
 obtain ⟨q1,q2⟩:=form_en c h
 unfold begunV
 split
 ·exact h
 ·split
  ·rfl
  ·split
   ·rename_i hq
    have:form ⟨8,c.el,c.en,c.at',b,0,0,false,0,[]⟩=true:=form_st8mk c.el c.at' b c.en q1 q2 (form_at c h) (by simpa using .inr (by simpa using hq))
    rw [hc];exact this
   ·have:form ⟨8,c.el,c.en,c.at',0,0,0,false,0,[]⟩=true:=form_st8mk c.el c.at' 0 c.en q1 q2 (form_at c h) (.inl rfl)
    rw [hc];exact this
theorem Q_okE {c:Ctx} {b:UInt8} (h:Q c b) (he:form c=false→okE c.el c.en=true):okE c.el c.en=true:=by
 cases hf:form c with
 | true=>exact okE_of c hf
 | false=>exact he hf
theorem grown_form3 (en:Bool) (c:Ctx) (b:UInt8) (hc:c=⟨3,0,c.en,0,0,0,0,false,0,c.nm⟩) (hl:low c.nm=true):form (grown c b)=true:=by
 unfold grown
 split
 ·rfl
 ·rename_i h
  have:form ⟨3,0,c.en,0,0,0,0,false,0,c.nm ++ [lowb b]⟩=true:=by
   rw [mk3];exact small_snoc hl b (n:=32) (by simpa using h)
  rw [hc];exact this
theorem grown_form5 (c:Ctx) (b:UInt8) (hE:okE c.el c.en=true) (hs:c.st=5∨c.st=6) (hc:c={ within c c.st with nm:=c.nm }) (hl:low c.nm=true):form (grown c b)=true:=by
 unfold grown
 split
 ·rfl
 ·rename_i h
  have:form ⟨c.st,c.el,c.en,0,0,0,0,false,0,c.nm ++ [lowb b]⟩=true:=by
   rw [mk5 hE c.st hs];exact small_snoc hl b (n:=32) (by simpa using h)
  rw [hc];exact this
theorem named_form (c:Ctx) (b:UInt8) (hE:okE c.el c.en=true) (hs:c.st=5∨c.st=6) (hc:c={ within c c.st with nm:=c.nm }) (hn:small c.nm 32=true∨(c.nm=[]∧blankB b=false)):form (named c b).1=true:=by
 have hl:low c.nm=true:=by
  rcases hn with h | ⟨h,_⟩
  ·exact small_low h
  ·rw [h];rfl
 unfold named
 split
 ·exact mk7 hE (attrOf_cases c.nm)
 ·split
  ·exact mkT hE 9 (by simp)
  ·split
   ·rename_i hb
    rcases hn with h | ⟨_,h⟩
    ·have:form ⟨6,c.el,c.en,0,0,0,0,false,0,c.nm⟩=true:=by rw [mk5 hE 6 (by simp)];exact h
     rw [hc];exact this
    ·rw [hb] at h;cases h
   ·split
    ·exact mkT hE 4 (by simp)
    ·split
     ·rfl
     ·exact grown_form5 c b hE hs hc hl
theorem again_form (b:UInt8) (feed:Bool):∀ (n:Nat) (c d:Ctx),Q c b→(form c=false→okE c.el c.en=true)→again n c b feed=some d→form d=true
 | 0,c,d,_,_,h=>by cases h
 | n+1,c,d,hQ,hE0,h=>by
  have hE:=Q_okE hQ hE0
  have IH (c':Ctx) (hf:form c'=true) (h:again n c' b feed=some d):form d=true:=again_form b feed n c' d (.inl hf) (fun h=>absurd hf (by rw [h];simp)) h
  have nmd (hs:c.st=5∨c.st=6) (hh:(if (named c b).2 then again n (named c b).1 b feed else some (named c b).1)=some d):form d=true:=by
   have key:c={ within c c.st with nm:=c.nm }∧(small c.nm 32=true∨(c.nm=[]∧blankB b=false)):=by
    rcases hQ with hf | ⟨hx,_,_,hb⟩
    ·obtain ⟨h1,h2⟩:=form_st5 c hf hs
     exact ⟨h1, .inl h2⟩
    ·have hn:c.nm=[]:=by rw [hx];rfl
     have h5:c.st=5:=by rw [hx];rfl
     refine ⟨?_, .inr ⟨hn,hb⟩⟩
     rw [h5,hn];exact hx
   have hf:=named_form c b hE hs key.1 key.2
   split at hh
   ·exact IH _ hf hh
   ·cases hh;exact hf
  unfold again at h
  rcases hQ with hf | ⟨hx,h61,h47,hbl⟩
  case inr =>
   have e:c.st=5:=by rw [hx];rfl
   refine nmd (.inl e) ?_
   rw [e] at h
   have h:(if (tag c b).2 then again n (tag c b).1 b feed else some (tag c b).1)=some d:=h
   unfold tag at h
   rw [e] at h
   exact h
  rcases st_cases c.st with e | e | e | e | e | e | e | e | e | e | e | e | e | e | e | e | e | e | e | e | e | e
  ·have hc:=form_pl c hf (by simp [e])
   rw [e] at hc
   subst hc
   have h:(if (b == 60)=true then some (st1 1) else some (st1 0))=some d:=h
   split at h <;> cases h <;> rfl
  ·have hc:=form_pl c hf (by simp [e])
   rw [e] at hc
   subst hc
   have h:(if (opened b).2 then some (opened b).1 else again n (st1 0) b feed)=some d:=h
   split at h
   ·cases h;exact opened_form b
   ·exact IH (st1 0) rfl h
  ·rw [e] at h
   have h:some (closed b)=some d:=h
   cases h;exact closed_form b
  ·rw [e] at h
   have h:(if (tag c b).2 then again n (tag c b).1 b feed else some (tag c b).1)=some d:=h
   obtain ⟨hc,hsm⟩:=form_st3 c hf e
   have ht:form (tag c b).1=true:=by
    unfold tag
    rw [e]
    simp only [show ((3:UInt8) == 3)=true from rfl,if_true]
    split
    ·exact grown_form3 c.en c b hc (small_low hsm)
    ·split
     ·rename_i hen
      have:c.en=false:=by simpa using hen
      have h2:=form_tagS 9 (elOf c.nm) c.en (by simp)
      show form ⟨9,elOf c.nm,c.en,0,0,0,0,false,0,[]⟩=true
      rw [h2,this,decide_eq_true (elOf_le c.nm)];rfl
     ·exact form_within c hf 9 (by simp)
   split at h
   ·exact IH _ ht h
   ·cases h;exact ht
  ·rw [e] at h
   have h:(if (tag c b).2 then again n (tag c b).1 b feed else some (tag c b).1)=some d:=h
   have hc:=form_st4 c hf (by simp [e])
   unfold tag at h
   rw [e] at h
   simp only [show ((4:UInt8) == 3)=false from rfl,show ((4:UInt8) == 9)=false from rfl,show ((4:UInt8) == 10)=false from rfl,show ((4:UInt8) == 4)=true from rfl,Bool.false_eq_true,if_false,if_true] at h
   cases hbl:blankB b with
   | true=>rw [hbl] at h;cases h;exact hf
   | false =>
   rw [hbl] at h
   cases h47:(b == 47 || b == 62) with
   | true=>rw [h47] at h;exact IH _ (form_within c hf 9 (by simp)) h
   | false =>
   rw [h47] at h
   cases h61:(b == 61) with
   | true=>rw [h61] at h;cases h;rfl
   | false =>
    rw [h61] at h
    have hcw:{ c with st:=5 }=within c 5:=by rw [hc];rfl
    have h:again n (within c 5) b feed=some d:=by rw [← hcw];exact h
    exact again_form b feed n (within c 5) d (.inr ⟨rfl,h61,h47,hbl⟩) (fun _=>hE) h
  ·rw [e] at h
   have h:(if (tag c b).2 then again n (tag c b).1 b feed else some (tag c b).1)=some d:=h
   unfold tag at h
   rw [e] at h
   exact nmd (.inl e) h
  ·rw [e] at h
   have h:(if (tag c b).2 then again n (tag c b).1 b feed else some (tag c b).1)=some d:=h
   unfold tag at h
   rw [e] at h
   exact nmd (.inr e) h
  ·rw [e] at h
   have h:(if (tag c b).2 then again n (tag c b).1 b feed else some (tag c b).1)=some d:=h
   unfold tag at h
   rw [e] at h
   have h:(if (begunV c b).2 then again n (begunV c b).1 b feed else some (begunV c b).1)=some d:=h
   have ht:=begunV_form c b hf e
   split at h
   ·exact IH _ ht h
   ·cases h;exact ht
  ·rw [e] at h
   have h:some (value c b)=some d:=h
   cases h;exact value_form c b hf e
  ·rw [e] at h
   have h:(if (tag c b).2 then again n (tag c b).1 b feed else some (tag c b).1)=some d:=h
   rw [tag9 c b e,if_neg (by simp)] at h
   cases h
   unfold tag
   rw [e]
   simp only [show ((9:UInt8) == 3)=false from rfl,show ((9:UInt8) == 9)=true from rfl,Bool.false_eq_true,if_false,if_true]
   split
   ·exact form_within c hf 4 (by simp)
   ·split
    ·exact form_within c hf 10 (by simp)
    ·split
     ·exact tagEnd_form (form_en c hf).1
     ·rfl
  ·rw [e] at h
   have h:(if (tag c b).2 then again n (tag c b).1 b feed else some (tag c b).1)=some d:=h
   unfold tag at h
   rw [e] at h
   simp only [show ((10:UInt8) == 3)=false from rfl,show ((10:UInt8) == 9)=false from rfl,show ((10:UInt8) == 10)=true from rfl,Bool.false_eq_true,if_false,if_true] at h
   cases h62:(b == 62) with
   | true=>rw [h62] at h;cases h;exact tagEnd_form (form_en c hf).1
   | false=>rw [h62] at h;exact IH _ (form_within c hf 4 (by simp)) h
  all_goals first
   | (rw [e] at h;have h:some (note c b)=some d:=h;cases h;exact note_form c b hf)
   | (rw [e] at h;have h:some (raw c b feed)=some d:=h;cases h;exact raw_form c b feed hf (by simp [e]))
   | skip
  exfalso
  have t:=(of_ite (form1_of c hf)).1
  rw [decide_eq_true e] at t
  exact t rfl
theorem mv_form (c:Ctx) (b:UInt8) (feed:Bool):form (mv c b feed)=true:=by
 cases hf:form c with
 | true=>exact again_form b feed 4 c _ (.inl hf) (fun h=>absurd hf (by rw [h];simp)) (mv_some c b feed hf)
 | false=>rw [mv_bad c b feed hf];rfl
theorem step_form (c:Ctx) (b:UInt8):form (stepB c b)=true:=mv_form c b true
end Sx

namespace Sx
open Go
def runL (f:Ctx→UInt8→Ctx):Ctx→List UInt8→Int→Ctx×Int
 | c,[],_=>(c,-1)
 | c,b :: r,i=>if (f c b).st == 20 then (f c b,i) else runL f (f c b) r (i+1)
def inF (c:Ctx):Ctx:=if form c then c else badC
theorem inF_form (c:Ctx):form (inF c)=true:=by
 unfold inF
 split
 ·assumption
 ·rfl
def bytesB (c:Ctx) (p:List UInt8):Ctx×Int:=runL stepB (inF c) p 0
theorem runL_form {f:Ctx→UInt8→Ctx} (hf:∀ c b,form (f c b)=true):∀ (l:List UInt8) (c:Ctx) (i:Int),form c=true→form (runL f c l i).1=true
 | [],c,i,h=>h
 | b :: r,c,i,h=>by
  unfold runL
  split
  ·exact hf c b
  ·exact runL_form hf r _ _ (hf c b)
theorem form_lt {c:Ctx} (h:form c=true):c.nm.length < 9223372036854775808:=by have:=form_nm c h;omega
theorem runL_shift (f:Ctx→UInt8→Ctx):∀ (l:List UInt8) (c:Ctx) (i:Int),(runL f c l i).1=(runL f c l 0).1∧((runL f c l 0).2=-1→(runL f c l i).2=-1)∧((runL f c l 0).2≠-1→(runL f c l i).2=(runL f c l 0).2+i)∧-1≤(runL f c l 0).2∧(runL f c l 0).2 < l.length
 | [],c,i=>⟨rfl,fun _=>rfl,fun h=>absurd rfl h,Int.le_refl _,(by show (-1:Int) < 0;omega)⟩
 | b :: r,c,i=>by
  unfold runL
  split
  ·refine ⟨rfl,fun h=>?_,fun _=>(by simp),(by simp),?_⟩
   ·exact absurd (show (0:Int)=-1 from h) (by decide)
   ·show (0:Int) < ((r.length+1:Nat):Int);omega
  ·obtain ⟨a1,a2,a3,a4,a5⟩:=runL_shift f r (f c b) (i+1)
   obtain ⟨b1,b2,b3,b4,b5⟩:=runL_shift f r (f c b) (0+1)
   refine ⟨a1.trans b1.symm,?_⟩
   by_cases h:(runL f (f c b) r 0).2=-1
   ·rw [a2 h,b2 h]
    exact ⟨fun _=>rfl,fun hh=>absurd rfl hh,Int.le_refl _,(by simp;omega)⟩
   ·rw [a3 h,b3 h]
    simp only [List.length_cons]
    refine ⟨fun hh=>?_,fun _=>by omega,by omega,by omega⟩
    omega
end Sx
namespace Sx
end Sx
namespace Sx
open Go
end Sx

namespace Sx
open Go
def flat (c:Ctx):Ctx:=⟨c.st,c.el,c.en,0,c.qu,0,0,false,c.da,if c.st == 8 then [] else c.nm⟩
theorem code0_flat (c:Ctx) (b:UInt8) (s:Bool):code0 c b s=badC∨flat (code0 c b s)=flat c:=by
 unfold code0
 repeat' split
 all_goals first | exact .inr rfl | exact .inl rfl
theorem text_flat (c:Ctx) (b:UInt8):text c b=badC∨flat (text c b)=flat c:=by
 unfold text
 repeat' split
 all_goals first | exact .inr rfl | exact .inl rfl
theorem code_flat (c:Ctx) (b:UInt8) (s:Bool):code c b s=badC∨flat (code c b s)=flat c:=by
 unfold code
 repeat' split
 all_goals first | exact .inr rfl | exact .inl rfl | exact code0_flat c b s | exact text_flat c b | exact code0_flat { c with su:=0 } b s
theorem fed_uncoded (c:Ctx) (s:List UInt8) (h:(c.el == 3 || c.el == 4)=false):fed c s false=fed c s true:=by
 have:coded 17 c.el c.at'=false:=by
  show ((17:UInt8) == 8 && (c.at' == 2 || c.at' == 3) || (decide ((17:UInt8)≤17) && decide ((17:UInt8)≤19)) && (c.el == 3 || c.el == 4))=false
  rw [h];rfl
 unfold fed
 rw [this];rfl
theorem raw_begun (c:Ctx) (b:UInt8) (h:(begunV c b).2=true):isRaw (begunV c b).1.st=false:=by
 unfold begunV at *
 cases h3:blankB b <;> cases h4:(b == 62) <;> cases h5:(b == 34 || b == 39) <;> rw [h3,h4,h5] at h <;> first | (cases h;done) | rfl
theorem raw_named (c:Ctx) (b:UInt8) (h:(named c b).2=true):isRaw (named c b).1.st=false:=by
 unfold named at *
 cases h1:(b == 61 && c.nm != []) <;> cases h2:(b == 47 || b == 62) <;> cases h3:blankB b <;> cases h4:(c.st == 6) <;> cases h5:(b == 34 || b == 39 || b == 60) <;> rw [h1,h2,h3,h4,h5] at h <;> first | (cases h;done) | rfl
theorem raw_tag (c:Ctx) (b:UInt8) (h:(tag c b).2=true):isRaw (tag c b).1.st=false:=by
 unfold tag at *
 cases h3:(c.st == 3) with
 | true =>
  rw [h3] at h
  cases h1:(!blankB b && b != 47 && b != 62) <;> cases h2:c.en <;> rw [h1,h2] at h <;> first | (cases h;done) | rfl
 | false =>
 cases h9:(c.st == 9) with
 | true =>
  rw [h3,h9] at h
  cases h1:blankB b <;> cases h2:(b == 47) <;> cases h4:(b == 62) <;> rw [h1,h2,h4] at h <;> cases h
 | false =>
 cases h10:(c.st == 10) with
 | true =>
  rw [h3,h9,h10] at h
  cases h1:(b == 62) <;> rw [h1] at h <;> first | (cases h;done) | rfl
 | false =>
 cases h4:(c.st == 4) with
 | true =>
  rw [h3,h9,h10,h4] at h
  cases h1:blankB b <;> cases h2:(b == 47 || b == 62) <;> cases h5:(b == 61) <;> rw [h1,h2,h5] at h <;> first | (cases h;done) | rfl
 | false =>
 cases h7:(c.st == 7) with
 | true =>
  rw [h3,h9,h10,h4,h7] at h
  exact raw_begun c b h
 | false =>
  rw [h3,h9,h10,h4,h7] at h
  exact raw_named c b h
end Sx

namespace Sx
open Go
def codeT (su:UInt8) (es script:Bool):List UInt8 :=
 if su == 1 then (if es then [110] else []) ++ [34] else if su == 2 then (if es then [110] else []) ++ [39] else if su == 3 then (if script then [47] else [120]) else if su == 5 then [42,47] else if su == 6 then [47] else []
def elemT (el:UInt8):List UInt8:=if el == 0 then [] else 60 :: 47 :: (nameOf el ++ [62])
def backC (c:Ctx):Ctx:=(bytesB ⟨17,c.el,false,0,0,0,c.su,c.es,0,[]⟩ (47 :: c.nm)).1
def trailR (c:Ctx):List UInt8 :=
 if c.st != 19 then codeT c.su c.es (c.el == 3) ++ elemT c.el
 else if c.su == 0 || c.su == 4 then (nameOf c.el).drop c.nm.length ++ [62] else codeT (backC c).su (backC c).es (c.el == 3) ++ elemT c.el
def quoteT (qu:UInt8):List UInt8:=if qu != 0 then [qu] else []
def trail (c:Ctx):List UInt8 :=
 if c.st == 1 then [32] else if c.st == 3 then (if c.en then [62] else 62 :: elemT (elOf c.nm)) else if c.st == 2 || c.st == 11 || c.st == 12 || c.st == 16 then [62]
 else if c.st == 13 || c.st == 14 || c.st == 15 then [45,45,62] else if c.st == 4 || c.st == 5 || c.st == 6 || c.st == 9 || c.st == 10 then 62 :: elemT c.el
 else if c.st == 7 then 34 :: 34 :: 62 :: elemT c.el else if c.st == 8 then codeT c.su c.es (c.at' == 2) ++ (quoteT c.qu ++ 62 :: elemT c.el) else if c.st == 17 || c.st == 18 || c.st == 19 then trailR c else []
def okV (c:Ctx):Bool :=
 if c.st == 8 then (if c.qu == 34 then c.su != 1 else if c.qu == 39 then c.su != 2 else c.su != 1 && c.su != 2)
 else if c.st == 18 || c.st == 19 then (c.su == 0 || c.su == 1 || c.su == 2 || c.su == 4 || c.su == 5) && !c.es else true
def endsAll (c:Ctx):Bool:=cxeq (runL stepB c (trail c) 0).1 (st1 0) && (runL stepB c (trail c) 0).2 == -1 && decide ((trail c).length≤40)
def chk (c:Ctx):Bool:=!(form c && okV c) || endsAll c
def els:List UInt8:=[0,1,2,3,4]
def sus:List UInt8:=[0,1,2,3,4,5,6]
theorem chk8:([2,3]:List UInt8).all (fun a=>([0,34,39]:List UInt8).all fun q=>els.all fun el=>sus.all fun su=>[false,true].all fun es=>[false,true].all fun en=>chk ⟨8,el,en,a,q,0,su,es,0,[]⟩)=true:=by kernel_rfl
theorem chkR:els.all (fun el=>sus.all fun su=>[false,true].all fun es=>chk ⟨17,el,false,0,0,0,su,es,0,[]⟩ && chk ⟨18,el,false,0,0,0,su,es,0,[]⟩)=true:=by kernel_rfl
theorem chkE:els.all (fun el=>sus.all fun su=>[false,true].all fun es=>(List.range 9).all fun k=>chk ⟨19,el,false,0,0,0,su,es,0,(nameOf el).take k⟩)=true:=by kernel_rfl
theorem chkB:els.all (fun el=>sus.all fun su=>[false,true].all fun es=>(List.range 9).all fun k=>su == 0 || su == 4 || !form ⟨19,el,false,0,0,0,su,es,0,(nameOf el).take k⟩ || ((backC ⟨19,el,false,0,0,0,su,es,0,(nameOf el).take k⟩).el == el && (backC ⟨19,el,false,0,0,0,su,es,0,(nameOf el).take k⟩).st != 8 && (!(backC ⟨19,el,false,0,0,0,su,es,0,(nameOf el).take k⟩).es || (backC ⟨19,el,false,0,0,0,su,es,0,(nameOf el).take k⟩).su == 1 || (backC ⟨19,el,false,0,0,0,su,es,0,(nameOf el).take k⟩).su == 2)))=true:=by kernel_rfl
theorem mem_sus {su:UInt8} (h:okSu su):su ∈ sus:=by
 rcases h with e | e | e | e | e | e | e <;> subst e <;> simp [sus]
theorem mem_b (b:Bool):b ∈ [false,true]:=by cases b <;> simp
theorem mem_els {el:UInt8} (h:el=0∨el=1∨el=2∨el=3∨el=4):el ∈ els:=by
 rcases h with e | e | e | e | e <;> subst e <;> simp [els]
theorem of_all {α:Type} {l:List α} {p:α→Bool} (h:l.all p=true) {x:α} (hx:x ∈ l):p x=true:=List.all_eq_true.1 h x hx
theorem el5 {c:Ctx} (h:form c=true):c.el=0∨c.el=1∨c.el=2∨c.el=3∨c.el=4:=by
 rcases okE_cases (okE_of c h) with ⟨_,e⟩ | ⟨_,e⟩
 ·exact .inl e
 ·exact e
theorem nameOf_len (el:UInt8):(nameOf el).length≤8:=by
 unfold nameOf
 repeat' split
 all_goals decide
theorem pre_take {p l:List UInt8} (h:pre p l=true):p=l.take p.length∧p.length≤l.length:=by
 unfold pre at h
 rw [Bool.and_eq_true] at h
 exact ⟨(eq_of_beq h.2).symm,of_decide_eq_true h.1⟩
theorem stepB_eq {c d:Ctx} {b:UInt8} (h:form c=true) (e:again 4 c b true=some d):stepB c b=d:=Option.some.inj ((mv_some c b true h).symm.trans e)
theorem run_cons {f:Ctx→UInt8→Ctx} {c d:Ctx} {b:UInt8} {r:List UInt8} {i:Int} (h:f c b=d) (hd:(d.st == 20)=false):runL f c (b :: r) i=runL f d r (i+1):=by
 show (if (f c b).st == 20 then _ else runL f (f c b) r (i+1))=_
 rw [h,hd];rfl
theorem run_i {f:Ctx→UInt8→Ctx} {c d:Ctx} {l:List UInt8} (i:Int) (h:runL f c l 0=(d,-1)):runL f c l i=(d,-1):=by
 obtain ⟨a1,a2,_⟩:=runL_shift f l c i
 rw [h] at a1 a2
 exact Prod.ext a1 (a2 rfl)
theorem elem_run {el:UInt8} (h:el=0∨el=1∨el=2∨el=3∨el=4) (i:Int):runL stepB (tagEnd el) (elemT el) i=(st1 0,-1):=by
 refine run_i i ?_
 rcases h with e | e | e | e | e <;> subst e <;> kernel_rfl
theorem tagEnd_st {el:UInt8} (h:el=0∨el=1∨el=2∨el=3∨el=4):((tagEnd el).st == 20)=false:=by
 rcases h with e | e | e | e | e <;> subst e <;> rfl
theorem elemT_len (el:UInt8):(elemT el).length≤11:=by
 unfold elemT
 split
 ·simp
 ·have:=nameOf_len el
  simp;omega
theorem endsAll_of {c:Ctx} (h:runL stepB c (trail c) 0=(st1 0,-1)) (hl:(trail c).length≤40):endsAll c=true:=by
 unfold endsAll
 rw [h,decide_eq_true hl];rfl
theorem of_endsAll {c:Ctx} (h:endsAll c=true):runL stepB c (trail c) 0=(st1 0,-1)∧(trail c).length≤40:=by
 unfold endsAll at h
 simp only [Bool.and_eq_true,decide_eq_true_eq] at h
 exact ⟨Prod.ext (of_cxeq h.1.1) (eq_of_beq h.1.2),h.2⟩
theorem of_chk {c:Ctx} (h:chk c=true) (hf:form c=true) (hv:okV c=true):endsAll c=true:=by
 unfold chk at h
 rw [hf,hv] at h
 simpa using h
theorem elOf_cases (nm:List UInt8):elOf nm=0∨elOf nm=1∨elOf nm=2∨elOf nm=3∨elOf nm=4:=by
 unfold elOf
 repeat' split
 all_goals simp
theorem cls (c:Ctx) (h:form c=true):c.st=0∨c.st=1∨c.st=2∨c.st=3∨c.st=4∨c.st=5∨c.st=6∨c.st=7∨c.st=8∨c.st=9∨c.st=10∨c.st=11∨c.st=12∨c.st=13∨c.st=14∨c.st=15∨c.st=16∨c.st=17∨c.st=18∨c.st=19∨c.st=20:=by
 have h1:¬ (20 < c.st):=by
  unfold form at h
  obtain ⟨a,_⟩:=of_ite h
  simp only [Bool.or_eq_true,decide_eq_true_eq,not_or] at a
  exact a.1.1.1.1.1
 rw [UInt8.lt_iff_toNat_lt] at h1
 have h2:(20:UInt8).toNat=20:=rfl
 have h3:c.st=UInt8.ofNat c.st.toNat:=by simp
 have h4:c.st.toNat≤20:=by omega
 generalize c.st.toNat=n at h3 h4
 rw [h3]
 have:n=0∨n=1∨n=2∨n=3∨n=4∨n=5∨n=6∨n=7∨n=8∨n=9∨n=10∨n=11∨n=12∨n=13∨n=14∨n=15∨n=16∨n=17∨n=18∨n=19∨n=20:=by omega
 rcases this with e | e | e | e | e | e | e | e | e | e | e | e | e | e | e | e | e | e | e | e | e <;> rw [e] <;> decide
theorem val_ends (c:Ctx) (h:form c=true) (hc:(c.qu=0∨c.qu=34∨c.qu=39)∧c.st=8∧c.su=0∧c.es=false):endsAll c=true:=by
 have he:=el5 h
 have hel:=elemT_len c.el
 obtain ⟨st,el,en,at',qu,pa,su,es,da,nm⟩:=c
 simp only at hc hel he
 obtain ⟨hq,rfl,rfl,rfl⟩:=hc
 rcases hq with rfl | rfl | rfl
 ·refine endsAll_of ?_ (by show (elemT el).length+1≤40;omega)
  show runL stepB _ (62 :: elemT el) 0=_
  rw [run_cons (d:=tagEnd el) (stepB_eq h rfl) (tagEnd_st he)]
  exact elem_run he _
 ·refine endsAll_of ?_ (by show (elemT el).length+1+1≤40;omega)
  show runL stepB _ (34 :: 62 :: elemT el) 0=_
  have h2:stepB ⟨8,el,en,at',34,pa,0,false,da,nm⟩ 34=⟨9,el,en,0,0,0,0,false,0,[]⟩:=stepB_eq h rfl
  have f2:=step_form ⟨8,el,en,at',34,pa,0,false,da,nm⟩ 34
  rw [h2] at f2
  have h3:stepB ⟨9,el,en,0,0,0,0,false,0,[]⟩ 62=tagEnd el:=stepB_eq f2 rfl
  rw [run_cons h2 rfl,run_cons h3 (tagEnd_st he)]
  exact elem_run he _
 ·refine endsAll_of ?_ (by show (elemT el).length+1+1≤40;omega)
  show runL stepB _ (39 :: 62 :: elemT el) 0=_
  have h2:stepB ⟨8,el,en,at',39,pa,0,false,da,nm⟩ 39=⟨9,el,en,0,0,0,0,false,0,[]⟩:=stepB_eq h rfl
  have f2:=step_form ⟨8,el,en,at',39,pa,0,false,da,nm⟩ 39
  rw [h2] at f2
  have h3:stepB ⟨9,el,en,0,0,0,0,false,0,[]⟩ 62=tagEnd el:=stepB_eq f2 rfl
  rw [run_cons h2 rfl,run_cons h3 (tagEnd_st he)]
  exact elem_run he _
theorem trail_ends (c:Ctx) (h:form c=true) (hv:okV c=true) (h20:c.st≠20):endsAll c=true:=by
 have he:=el5 h
 have hel:=elemT_len c.el
 rcases cls c h with e | e | e | e | e | e | e | e | e | e | e | e | e | e | e | e | e | e | e | e | e
 ·rw [form_pl c h (by simp [e]),e];rfl
 ·rw [form_pl c h (by simp [e]),e];show endsAll (st1 1)=true;kernel_rfl
 ·rw [form_pl c h (by simp [e]),e];show endsAll (st1 2)=true;kernel_rfl
 ·obtain ⟨hc,hn⟩:=form_st3 c h e
  obtain ⟨st,el,en,at',qu,pa,su,es,da,nm⟩:=c
  simp only [Ctx.mk.injEq] at hc hn
  obtain ⟨rfl,rfl,-,rfl,rfl,rfl,rfl,rfl,rfl,-⟩:=hc
  cases en with
  | true =>
   refine endsAll_of ?_ (by show 1≤40;omega)
   show runL stepB _ [62] 0=_
   rw [run_cons (d:=st1 0) (stepB_eq h rfl) rfl];rfl
  | false =>
   have hE:=elOf_cases nm
   refine endsAll_of ?_ (by have:=elemT_len (elOf nm);show (elemT (elOf nm)).length+1≤40;omega)
   show runL stepB _ (62 :: elemT (elOf nm)) 0=_
   rw [run_cons (d:=tagEnd (elOf nm)) (stepB_eq h rfl) (tagEnd_st hE)]
   exact elem_run hE _
 ·have hc:=form_st4 c h (by simp [e])
  obtain ⟨st,el,en,at',qu,pa,su,es,da,nm⟩:=c
  simp only at e;subst e
  rw [hc] at h ⊢
  refine endsAll_of ?_ (by show (elemT el).length+1≤40;simp only at hel;omega)
  show runL stepB _ (62 :: elemT el) 0=_
  rw [run_cons (d:=tagEnd el) (stepB_eq h rfl) (tagEnd_st he)]
  exact elem_run he _
 ·obtain ⟨hc,hn⟩:=form_st5 c h (by simp [e])
  obtain ⟨st,el,en,at',qu,pa,su,es,da,nm⟩:=c
  simp only at e;subst e
  rw [hc] at h ⊢
  refine endsAll_of ?_ (by show (elemT el).length+1≤40;simp only at hel;omega)
  show runL stepB _ (62 :: elemT el) 0=_
  rw [run_cons (d:=tagEnd el) (stepB_eq h rfl) (tagEnd_st he)]
  exact elem_run he _
 ·obtain ⟨hc,hn⟩:=form_st5 c h (by simp [e])
  obtain ⟨st,el,en,at',qu,pa,su,es,da,nm⟩:=c
  simp only at e;subst e
  rw [hc] at h ⊢
  refine endsAll_of ?_ (by show (elemT el).length+1≤40;simp only at hel;omega)
  show runL stepB _ (62 :: elemT el) 0=_
  rw [run_cons (d:=tagEnd el) (stepB_eq h rfl) (tagEnd_st he)]
  exact elem_run he _
 ·have hc:=form_st7 c h e
  have hA:=at_of c h
  obtain ⟨st,el,en,at',qu,pa,su,es,da,nm⟩:=c
  simp only at e;subst e
  rw [hc] at h ⊢
  refine endsAll_of ?_ (by show (elemT el).length+1+1+1≤40;simp only at hel;omega)
  show runL stepB ⟨7,el,en,at',0,0,0,false,0,[]⟩ (34 :: 34 :: 62 :: elemT el) 0=_
  have h1:stepB ⟨7,el,en,at',0,0,0,false,0,[]⟩ 34=⟨8,el,en,at',34,0,0,false,0,[]⟩:=stepB_eq h rfl
  have f1:=step_form ⟨7,el,en,at',0,0,0,false,0,[]⟩ 34
  rw [h1] at f1
  have h2:stepB ⟨8,el,en,at',34,0,0,false,0,[]⟩ 34=⟨9,el,en,0,0,0,0,false,0,[]⟩:=stepB_eq f1 rfl
  have f2:=step_form ⟨8,el,en,at',34,0,0,false,0,[]⟩ 34
  rw [h2] at f2
  have h3:stepB ⟨9,el,en,0,0,0,0,false,0,[]⟩ 62=tagEnd el:=stepB_eq f2 rfl
  rw [run_cons (d:=⟨8,el,en,at',34,0,0,false,0,[]⟩) h1 rfl,run_cons h2 rfl,run_cons h3 (tagEnd_st he)]
  exact elem_run he _
 ·obtain ⟨hq,hc⟩:=form_val c h e
  rcases hc with ⟨ha,hc,hn⟩ | ⟨ha,hc,hs⟩ | ⟨ha,hc⟩
  ·exact val_ends c h ⟨hq,by rw [hc],by rw [hc],by rw [hc]⟩
  ·rw [hc] at h hv ⊢
   refine of_chk ?_ h hv
   refine of_all (of_all (of_all (of_all (of_all (of_all chk8 (x:=c.at') ?_) (x:=c.qu) ?_) (mem_els he)) (mem_sus (su_of c (by rw [hc];exact h)))) (mem_b c.es)) (mem_b c.en)
   ·rcases ha with x | x <;> rw [x] <;> simp
   ·rcases hq with x | x | x <;> rw [x] <;> simp
  ·exact val_ends c h ⟨hq,by rw [hc],by rw [hc],by rw [hc]⟩
 ·have hc:=form_st4 c h (by simp [e])
  obtain ⟨st,el,en,at',qu,pa,su,es,da,nm⟩:=c
  simp only at e;subst e
  rw [hc] at h ⊢
  refine endsAll_of ?_ (by show (elemT el).length+1≤40;simp only at hel;omega)
  show runL stepB _ (62 :: elemT el) 0=_
  rw [run_cons (d:=tagEnd el) (stepB_eq h rfl) (tagEnd_st he)]
  exact elem_run he _
 ·have hc:=form_st4 c h (by simp [e])
  obtain ⟨st,el,en,at',qu,pa,su,es,da,nm⟩:=c
  simp only at e;subst e
  rw [hc] at h ⊢
  refine endsAll_of ?_ (by show (elemT el).length+1≤40;simp only at hel;omega)
  show runL stepB _ (62 :: elemT el) 0=_
  rw [run_cons (d:=tagEnd el) (stepB_eq h rfl) (tagEnd_st he)]
  exact elem_run he _
 ·rw [form_pl c h (by simp [e]),e];show endsAll (st1 11)=true;kernel_rfl
 ·rw [form_pl c h (by simp [e]),e];show endsAll (st1 12)=true;kernel_rfl
 ·rw [form_pl c h (by simp [e]),e];show endsAll (st1 13)=true;kernel_rfl
 ·rw [form_pl c h (by simp [e]),e];show endsAll (st1 14)=true;kernel_rfl
 ·obtain ⟨hc,hd⟩:=form_st15 c h e
  have hda:c.da=0∨c.da=1∨c.da=2:=by
   rw [UInt8.le_iff_toNat_le] at hd
   have h2:(2:UInt8).toNat=2:=rfl
   have:c.da.toNat=0∨c.da.toNat=1∨c.da.toNat=2:=by omega
   rcases this with x | x | x
   ·exact .inl (UInt8.toNat_inj.1 x)
   ·exact .inr (.inl (UInt8.toNat_inj.1 x))
   ·exact .inr (.inr (UInt8.toNat_inj.1 x))
  rw [hc]
  rcases hda with x | x | x <;> rw [x]
  ·show endsAll ⟨15,0,false,0,0,0,0,false,0,[]⟩=true;kernel_rfl
  ·show endsAll ⟨15,0,false,0,0,0,0,false,1,[]⟩=true;kernel_rfl
  ·show endsAll ⟨15,0,false,0,0,0,0,false,2,[]⟩=true;kernel_rfl
 ·rw [form_pl c h (by simp [e]),e];show endsAll (st1 16)=true;kernel_rfl
 ·obtain ⟨su,es,hc,hl,hp,hu,hs,h12⟩:=form_raw c h (by simp [e])
  have hc:c=⟨17,c.el,false,0,0,0,su,es,0,[]⟩:=by rw [e] at hc;exact hc
  rw [hc] at h hv ⊢
  refine of_chk ?_ h hv
  have:=of_all (of_all (of_all chkR (mem_els he)) (mem_sus hu)) (mem_b es)
  rw [Bool.and_eq_true] at this
  exact this.1
 ·obtain ⟨su,es,hc,hl,hp,hu,hs,h12⟩:=form_raw c h (by simp [e])
  have hc:c=⟨18,c.el,false,0,0,0,su,es,0,[]⟩:=by rw [e] at hc;exact hc
  rw [hc] at h hv ⊢
  refine of_chk ?_ h hv
  have:=of_all (of_all (of_all chkR (mem_els he)) (mem_sus hu)) (mem_b es)
  rw [Bool.and_eq_true] at this
  exact this.2
 ·obtain ⟨su,es,hc,hl,hp,hu,hs,h12⟩:=form_raw c h (by simp [e])
  obtain ⟨p1,p2⟩:=pre_take hp
  have hc:c=⟨19,c.el,false,0,0,0,su,es,0,(nameOf c.el).take c.nm.length⟩:=by rw [e] at hc;rw [← p1];exact hc
  have hk:c.nm.length ∈ List.range 9:=by have:=nameOf_len c.el;simp;omega
  have hx:=of_all (of_all (of_all (of_all chkE (mem_els he)) (mem_sus hu)) (mem_b es)) hk
  rw [← hc] at hx
  exact of_chk hx h hv
 ·exact absurd e h20
end Sx
