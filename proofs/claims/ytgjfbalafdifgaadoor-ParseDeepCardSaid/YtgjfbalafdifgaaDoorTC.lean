/-
  A part of ParseDeep's proof: an evaluator of translated functions over plain data, what functions of this seat come to, and laws on plain data.
-/
import Derived.Test.YtgjfbalafdifgaaDoorTB
import Derived.Lib.Bytealg
import Derived.ReadAgain
import Derived.ChangeArms
import Derived.ChangeSame
import Derived.RowKit
import Derived.Deep.DeepHandedRow
import Derived.Lib.LaidTab
set_option linter.unusedVariables false
set_option linter.unusedSimpArgs false
set_option linter.unusedSectionVars false
set_option linter.unnecessarySimpa false
namespace Sx
open Go Go.RowKit Go.Lib
section
variable {C:Cfg} {P:Program} {w0:World} {F0:Fs} {nt:Nat} {st:St} {a:Act} {w:World} {H:Nat→Option Value} {σ:Nat→Option Nat}
theorem finL_some {es:List Ent}:∀ {ks:List (Option (Nat×Nat))} {K:List AV→Option AV} {r:AV},finL ks es K=some r →
  ∃ rs,K rs=some r∧rs.length=es.length∧∀ (j:Nat) (e:Ent),es[j]?=some e→∃ v,finOne (ks[j]?.getD none) e=some v∧rs[j]?=some v:=by
 induction es with
 | nil=>intro ks K r h;cases ks <;> exact ⟨[],h,rfl,fun j e he=>by simp at he⟩
 | cons e es ih =>
  intro ks K r h
  cases ks with
  | nil =>
   simp only [finL] at h
   obtain ⟨v,hv,h⟩:=Option.bind_eq_some_iff.1 h
   obtain ⟨rs,h1,h2,h3⟩:=ih h
   refine ⟨v :: rs,h1,by simp [h2],fun j e' he=>?_⟩
   cases j with
   | zero=>simp at he;subst he;exact ⟨v,hv,rfl⟩
   | succ j=>obtain ⟨u,q1,q2⟩:=h3 j e' (by simpa using he);exact ⟨u,by simpa using q1,by simpa using q2⟩
  | cons o ks =>
   simp only [finL] at h
   obtain ⟨v,hv,h⟩:=Option.bind_eq_some_iff.1 h
   obtain ⟨rs,h1,h2,h3⟩:=ih h
   refine ⟨v :: rs,h1,by simp [h2],fun j e' he=>?_⟩
   cases j with
   | zero=>simp at he;subst he;exact ⟨v,hv,rfl⟩
   | succ j=>obtain ⟨u,q1,q2⟩:=h3 j e' (by simpa using he);exact ⟨u,by simpa using q1,by simpa using q2⟩
theorem ownIds_mem {es:List Ent}:∀ {ks:List (Option (Nat×Nat))} {j i:Nat} {e:Ent} {p:Nat×Nat},es[j]?=some e→ks[j]?=some (some p)→i ∈ e.ids→i ∈ ownIds ks es:=by
 induction es with
 | nil=>intro ks j i e p h;simp at h
 | cons e0 es ih =>
  intro ks j i e p he hk hi
  cases ks with
  | nil=>simp at hk
  | cons o ks =>
   cases j with
   | zero =>
    simp at he hk
    subst he hk
    exact List.mem_append_left _ hi
   | succ j =>
    have:=ih (by simpa using he) (by simpa using hk) hi
    cases o with
    | none=>exact this
    | some q=>exact List.mem_append_right _ this
theorem valIds_mem {es:List Ent}:∀ {ks:List (Option (Nat×Nat))} {j i:Nat} {e:Ent},es[j]?=some e→ks[j]?.getD none=none→i ∈ e.ids→i ∈ valIds ks es:=by
 induction es with
 | nil=>intro ks j i e h;simp at h
 | cons e0 es ih =>
  intro ks j i e he hk hi
  cases ks with
  | nil =>
   cases j with
   | zero=>simp at he;subst he;exact List.mem_append_left _ hi
   | succ j=>exact List.mem_append_right _ (ih (ks:=[]) (by simpa using he) (by simp) hi)
  | cons o ks =>
   cases j with
   | zero =>
    simp at he hk
    subst he hk
    exact List.mem_append_left _ hi
   | succ j =>
    have:=ih (by simpa using he) (by simpa using hk) hi
    cases o with
    | none=>exact List.mem_append_right _ this
    | some q=>exact this
theorem nodup_app {l m:List Nat} (h:nodup (l ++ m)=true):nodup m=true∧∀ x ∈ l,x ∉ m:=by
 induction l with
 | nil=>exact ⟨h,by simp⟩
 | cons x l ih =>
  simp only [List.cons_append,nodup,Bool.and_eq_true] at h
  obtain ⟨h1,h2⟩:=ih h.2
  refine ⟨h1,fun y hy=>?_⟩
  rcases List.mem_cons.1 hy with rfl | hy
  ·intro hm
   have:=h.1
   simp only [Bool.not_eq_true',List.any_eq_false] at this
   exact this y (List.mem_append_right _ hm) (Nat.beq_refl y)
  ·exact h2 y hy
theorem ownIds_ne {es:List Ent}:∀ {ks:List (Option (Nat×Nat))} {j j' i i':Nat} {e e':Ent} {p p':Nat×Nat},nodup (ownIds ks es)=true→j < j'→es[j]?=some e→ks[j]?=some (some p)→es[j']?=some e'→ks[j']?=some (some p') →
  i ∈ e.ids→i' ∈ e'.ids→i≠i':=by
 induction es with
 | nil=>intro ks j j' i i' e e' p p' _ _ h;simp at h
 | cons e0 es ih =>
  intro ks j j' i i' e e' p p' hn hlt he hk he' hk' hi hi'
  cases ks with
  | nil=>simp at hk
  | cons o ks =>
   cases j' with
   | zero=>omega
   | succ j' =>
    cases j with
    | zero =>
     simp at he hk
     subst he hk
     have h1:=(nodup_app hn).2 i hi
     intro e
     exact h1 (e ▸ ownIds_mem (by simpa using he') (by simpa using hk') hi')
    | succ j =>
     refine ih (ks:=ks) (j:=j) (j':=j') ?_ (by omega) (by simpa using he) (by simpa using hk) (by simpa using he') (by simpa using hk') hi hi'
     cases o with
     | none=>exact hn
     | some q=>exact (nodup_app hn).1
theorem finOne_told {o:Option (Nat×Nat)} {e:Ent} {v:AV} (h:finOne o e=some v):e.told=true:=by
 unfold finOne at h
 split at h
 ·split at h
  ·rfl
  ·rfl
  ·cases h
 ·cases ht:e.told with
  | true=>rfl
  | false=>rw [ht] at h;cases h
theorem finish_ok (hT:∀ t i,C.ty t=some i→TyOk P t i) (h:Inv C w0 F0 nt st a w H σ) {f:Nat} {fn:Func} {r:AV} (hf:finish C f fn st=some r) :
  ∃ v,(results fn a.tmps).run P w=.ok v w∧((∀ b,¬ F0.lent b)→ResOk (C.own f) w0 w F0.rd r v):=by
 unfold finish at hf
 simp only at hf
 generalize hes:fn.results.toList.map (resEnt C st)=es at hf
 generalize C.own f=ks at hf ⊢
 cases hb:((ks.all Option.isNone || Nat.beq ks.length es.length) && nodup (ownIds ks es) && (ownIds ks es).all (fun i=>!((valIds ks es).any fun j=>Nat.beq i j))) with
 | false=>rw [hb] at hf;cases hf
 | true =>
  rw [hb] at hf
  simp only [cond_true] at hf
  rw [Bool.and_eq_true,Bool.and_eq_true] at hb
  obtain ⟨⟨hb1,hb2⟩,hb3⟩:=hb
  obtain ⟨rs,hr,hrl,hfin⟩:=finL_some hf
  simp only [Option.some.injEq] at hr
  obtain ⟨vs,hvl,hrun,hrel⟩:=results_ok hT h fn (fun rv hm=>by
   obtain ⟨j,hj⟩:=List.getElem?_of_mem hm
   obtain ⟨v,hv,_⟩:=hfin j (resEnt C st rv) (by rw [← hes,List.getElem?_map,hj];rfl)
   exact finOne_told hv)
  rw [hes] at hrel
  have hvs:vs.length=es.length:=by rw [hvl,← hes];simp
  refine ⟨tupV vs,hrun,fun hlent=>?_⟩
  obtain ⟨H',h',hent,hsub,hsup⟩:=h.fzs2 (valIds ks es)
  have hval:∀ (j:Nat) (e:Ent) (x:Value) (v:AV),es[j]?=some e→vs[j]?=some x→ks[j]?.getD none=none→finOne (ks[j]?.getD none) e=some v→Rel w (Fr w0.heap.size F0 H' σ) v x:=by
   intro j e x v he hx hk hv
   rw [hk] at hv
   have ht:=finOne_told hv
   simp only [finOne,ht,cond_true,Option.some.injEq] at hv
   subst hv
   exact told_fzs (hent _ _ (hrel j e x he hx)) ht fun i hi=>valIds_mem he hk hi
  have hone:∀ (F:Nat→Prop),(∀ (j:Nat) (x:Value) (v:AV),vs[j]?=some x→rs[j]?=some v→Rel w F v x)→Rel w F r (tupV vs):=by
   intro F hF
   rw [← hr]
   have hl:rs.length=vs.length:=by rw [hrl,hvs]
   match rs,vs,hl with
   | [],[],_=>exact .tu [] [] rfl (fun j v hv=>by simp at hv)
   | [v],[x],_=>exact hF 0 x v rfl rfl
   | v :: v' :: rs,x :: x' :: vs,hl =>
    refine .tu (v :: v' :: rs) (x :: x' :: vs) hl fun j u hu=>?_
    have hj:j < (v :: v' :: rs).length:=by rw [hl];exact (List.getElem?_eq_some_iff.1 hu).1
    have:=hF j u _ hu (List.getElem?_eq_getElem hj)
    rw [List.getD_eq_getElem?_getD,List.getElem?_eq_getElem hj]
    exact this
  have hget:∀ (j:Nat) (x:Value),vs[j]?=some x→∃ e,es[j]?=some e:=fun j x hx=>by
   have:j < es.length:=by rw [← hvs];exact (List.getElem?_eq_some_iff.1 hx).1
   exact ⟨_,List.getElem?_eq_getElem this⟩
  unfold ResOk
  cases hall:ks.all Option.isNone with
  | true =>
   rw [if_pos rfl]
   refine Rel.mono (F:=Fr w0.heap.size F0 H' σ) (fun b hb hF=>⟨fun hlt=>(hF.1 hlt).resolve_right (hlent b),rfl⟩) (hone _ fun j x v hx hv=>?_)
   obtain ⟨e,he⟩:=hget j x hx
   obtain ⟨v',hv1,hv2⟩:=hfin j e he
   have:v'=v:=by rw [hv2] at hv;exact Option.some.inj hv
   subst this
   refine hval j e x v' he hx ?_ hv1
   cases hk:ks[j]? with
   | none=>rfl
   | some o =>
    have:=List.all_eq_true.1 hall o (List.mem_of_getElem? hk)
    cases o with
    | none=>rfl
    | some p=>cases this
  | false =>
   rw [if_neg (by simp)]
   rw [hall,Bool.false_or] at hb1
   have hkl:=Nat.eq_of_beq_eq_true hb1
   have hown:∀ (j:Nat) (x:Value) (e k:Nat) (v:AV),vs[j]?=some x→ks[j]?=some (some (e,k))→rs[j]?=some v →
     (x.ownBlock=none∧v.elems=[]∧0 < k∧x=.slice none 0 0)∨∃ id,(∃ en,es[j]?=some en∧id ∈ en.ids)∧H id=some x∧OwnOk w (Fr w0.heap.size F0 H σ) e k v.elems x:=by
    intro j x e k v hx hk hv
    obtain ⟨en,he⟩:=hget j x hx
    obtain ⟨v',hv1,hv2⟩:=hfin j en he
    have:v'=v:=by rw [hv2] at hv;exact Option.some.inj hv
    subst this
    have hre:=hrel j en x he hx
    rw [hk] at hv1
    simp only [Option.getD_some,finOne] at hv1
    split at hv1
    ·rename_i id y' k' l
     cases hbb:(Nat.beq e y' && Nat.beq k k') with
     | false=>rw [hbb] at hv1;cases hv1
     | true =>
      rw [hbb] at hv1
      simp only [cond_true,Option.some.injEq] at hv1
      subst hv1
      rw [Bool.and_eq_true] at hbb
      have e1:=Nat.eq_of_beq_eq_true hbb.1
      have e2:=Nat.eq_of_beq_eq_true hbb.2
      subst e1 e2
      exact .inr ⟨id,⟨_,he,by simp [Ent.ids,Cell.ids]⟩,hre.1,hre.2⟩
    ·cases hk0:Nat.blt 0 k with
     | false=>rw [hk0] at hv1;cases hv1
     | true =>
      rw [hk0] at hv1
      simp only [cond_true,Option.some.injEq] at hv1
      subst hv1
      have hx0:x=.slice none 0 0:=by
       have hre':Rel w _ .nils x:=hre
       cases hre';rfl
      subst hx0
      exact .inl ⟨rfl,rfl,by unfold Nat.blt at hk0;exact Nat.le_of_ble_eq_true hk0,rfl⟩
    ·cases hv1
   have hrs:∀ (j:Nat) (x:Value),vs[j]?=some x→∃ v,rs[j]?=some v∧compOf vs.length r j=v:=by
    intro j x hx
    have hj:j < vs.length:=(List.getElem?_eq_some_iff.1 hx).1
    have hjr:j < rs.length:=by rw [hrl,← hvs];exact hj
    refine ⟨rs[j],List.getElem?_eq_getElem hjr,?_⟩
    have hl:rs.length=vs.length:=by rw [hrl,hvs]
    unfold compOf
    rw [← hr]
    by_cases h1:vs.length=1
    ·rw [if_pos h1]
     match rs,hl.trans h1,hjr with
     | [v],_,hjr =>
      have:j=0:=by simpa using hjr
      subst this
      rfl
    ·rw [if_neg h1]
     match rs,hl,hjr with
     | [],_,hjr=>simp at hjr
     | [v],hl,_=>simp at hl;omega
     | v :: v' :: rs,_,hjr =>
      show (v :: v' :: rs).getD j .un=_
      rw [List.getD_eq_getElem?_getD,List.getElem?_eq_getElem hjr]
      rfl
   refine ⟨vs,by rw [hvs,hkl],rfl,fun j x o hx ho=>?_,fun i j x y p q g hij hx hy hi hj hg=>?_⟩
   ·obtain ⟨v,hv,hcv⟩:=hrs j x hx
    rw [hcv]
    cases o with
    | some p =>
     obtain ⟨e,k⟩:=p
     simp only
     rcases hown j x e k v hx ho hv with ⟨_,h2,h3,rfl⟩ | ⟨id,_,h2,h3⟩
     ·rw [h2]
      exact ⟨⟨h3,[],World.ownsRow_nil w 0 _ _,by simp,fun i j v hi=>by simp at hi⟩,fun g hg=>by cases hg⟩
     ·refine ⟨h3.mono (fun b hb hF=>⟨⟨fun hlt=>(hF.1 hlt).resolve_right (hlent b),fun i y p hy hp e=>?_⟩,rfl⟩) (fun _ _=>rfl),fun g hg=>((h.hown id x g h2 hg).1).resolve_right (hlent g)⟩
      obtain ⟨v',hv',_⟩:=hrs i y hy
      rcases hown i y p.1 p.2 v' hy hp hv' with ⟨h5,_⟩ | ⟨id',_,h5,_⟩
      ·rw [h5] at e;cases e
      ·exact hF.2.1 id' y h5 e
    | none =>
     simp only
     obtain ⟨e,he⟩:=hget j x hx
     obtain ⟨v',hv1,hv2⟩:=hfin j e he
     have:v'=v:=by rw [hv2] at hv;exact Option.some.inj hv
     subst this
     refine (hval j e x v' he hx (by rw [ho];rfl) hv1).mono fun b hb hF=>⟨⟨fun hlt=>(hF.1 hlt).resolve_right (hlent b),fun i y p hy hp eb=>?_⟩,rfl⟩
     obtain ⟨v2,hv',_⟩:=hrs i y hy
     rcases hown i y p.1 p.2 v2 hy hp hv' with ⟨h5,_⟩ | ⟨id',⟨en,hen,hid⟩,h5,_⟩
     ·rw [h5] at eb;cases eb
     ·have hm:=ownIds_mem hen hp hid
      have hnv:id' ∉ valIds ks es:=fun hm2=>by
       have:=List.all_eq_true.1 hb3 id' hm
       simp only [Bool.not_eq_true',List.any_eq_false] at this
       exact this id' hm2 (Nat.beq_refl id')
      exact hF.2.1 id' y (hsup id' y hnv h5) eb
   ·obtain ⟨v,hv,_⟩:=hrs i x hx
    obtain ⟨v',hv',_⟩:=hrs j y hy
    rcases hown i x p.1 p.2 v hx hi hv with ⟨h5,_⟩ | ⟨id,⟨en,hen,hid⟩,h5,_⟩
    ·rw [h5] at hg;cases hg
    ·rcases hown j y q.1 q.2 v' hy hj hv' with ⟨h6,_⟩ | ⟨id',⟨en',hen',hid'⟩,h6,_⟩
     ·rw [h6];simp
     ·have hne:id≠id':=by
       rcases Nat.lt_or_gt_of_ne hij with hlt | hgt
       ·exact ownIds_ne hb2 hlt hen hi hen' hj hid hid'
       ·exact fun e=>ownIds_ne hb2 hgt hen' hj hen hi hid' hid e.symm
      exact h.hh id id' x y g hne h5 h6 hg
end
end Sx

namespace Sx
open Go Go.RowKit Go.Lib
def regB (C:Cfg) (f nt:Nat) (id:Nat) (ops:Array Oper) (draw:Bool):Bool :=
 ops.all (fun o=>match o.dst with | some d=>Nat.blt d nt | none=>true) &&
  (match draw with
   | false=>true
   | true=>match C.plan f id with
    | none=>true
    | some l=>planT ops l.2 l.1 (Array.replicate ops.size false) && Region.noSelect ops && Nat.beq l.1.len ops.size)
def codeB (p:Nat→Array Oper→Bool→Bool):Code→Bool
 | .region id ops d=>p id ops d
 | .seq a b=>codeB p a && codeB p b
 | .cond _ a b=>codeB p a && codeB p b
 | .block _ c=>codeB p c
 | .loop c=>codeB p c
 | .scope c=>codeB p c
 | _=>true
def itemB (p:Nat→Array Oper→Bool→Bool):Item→Bool
 | .code c=>codeB p c
 | .inLoop c=>codeB p c
 | .inScope c=>codeB p c
 | _=>true
structure Fit (C:Cfg) (P:Program):Prop where
 ty:∀ t i,C.ty t=some i→TyOk P t i
 code:∀ (f:Nat) (fn:Func) (c:Code),P.funcs[f]?=some fn→fn.body=some c→codeB (regB C f fn.ntmps) c=true
 mixed:P.follows .mixedOrders=true
 name:∀ (f:Nat) (fn:Func) (c:Code),P.funcs[f]?=some fn→fn.body=some c→(fn.name == "runtime.NumGoroutine")=false
 gv:∀ (g:Nat) (G:List AV→Option AV),C.gv g=some G→(C.own g).all Option.isNone=true→∀ (args:List AV) (r:AV),G args=some r→∀ (w:World) (F:Nat→Prop) (vs:Array Value),GlobOk C w F→vs.size=args.length →
  (∀ (j:Nat) (a:AV) (v:Value),args[j]?=some a→vs[j]?=some v→Rel w F a v)→CallRuns P g vs w (PostOk C g w F r)
 ext:∀ (f:Nat) (fn:Func),P.funcs[f]?=some fn→fn.body=none→(fn.name == "internal/bytealg.IndexByteString")=true→∀ (s:ByteArray) (c:Int) (w:World),(callFunc f #[.string s, .int .u8 c]).run P w=.ok (.value (.int .i64 (Lib.indexByte s.data.toList c.toNat.toUInt8))) w
theorem findLabel_good {p:Nat→Array Oper→Bool→Bool}:∀ {c:Code} {l:Nat} {r:Code},findLabel c l=some r→codeB p c=true→codeB p r=true:=by
 intro c
 induction c with
 | seq a b iha ihb =>
  intro l r h hg
  simp only [codeB,Bool.and_eq_true] at hg
  simp only [findLabel] at h
  split at h
  ·rename_i rest hr
   cases h
   simp only [codeB,Bool.and_eq_true]
   exact ⟨iha hr hg.1,hg.2⟩
  ·exact ihb h hg.2
 | label l' =>
  intro l r h hg
  simp only [findLabel] at h
  split at h
  ·cases h;rfl
  ·cases h
 | _=>intro l r h;simp [findLabel] at h
theorem gotoIn_good {p:Nat→Array Oper→Bool→Bool} {l:Nat}:∀ {k k':List Item},gotoIn l k=some k'→(∀ x ∈ k,itemB p x=true)→∀ x ∈ k',itemB p x=true
 | [],k',h,_=>by simp [gotoIn] at h
 | it :: k,k',h,hg=>by
  have rest:gotoIn l k=some k'→∀ x ∈ k',itemB p x=true:=fun h=>gotoIn_good h fun x hx=>hg x (List.mem_cons_of_mem _ hx)
  cases it with
  | inScope body =>
   simp only [gotoIn] at h
   split at h
   ·rename_i r hr
    cases h
    intro x hx
    rcases List.mem_cons.1 hx with rfl | hx
    ·exact findLabel_good hr (hg (.inScope body) (List.mem_cons_self ..))
    ·exact hg x hx
   ·exact rest h
  | _=>exact rest (by simpa [gotoIn] using h)
theorem exitTo_good {p:Nat→Array Oper→Bool→Bool} {l:Nat}:∀ {k k':List Item},exitTo l k=some k'→(∀ x ∈ k,itemB p x=true)→∀ x ∈ k',itemB p x=true
 | [],k',h,_=>by simp [exitTo] at h
 | it :: k,k',h,hg=>by
  have rest:exitTo l k=some k'→∀ x ∈ k',itemB p x=true:=fun h=>exitTo_good h fun x hx=>hg x (List.mem_cons_of_mem _ hx)
  cases it with
  | inBlock id =>
   simp only [exitTo] at h
   split at h
   ·cases h
    intro x hx
    exact hg x (List.mem_cons_of_mem _ hx)
   ·exact rest h
  | _=>exact rest (by simpa [exitTo] using h)
section
variable {C:Cfg} {P:Program}
theorem step_scope {b:Frame} {a:Act} {k:List Item} {cs:List Frame} {w:World} {c:Code} :
  Go.step P (lone (b.at a (.code (.scope c) :: k)) cs w)=.next (lone (b.at a (.code c :: .inScope c :: k)) cs w) :=
 step_lone_go (by simp [stepG,stepG.exec,Frame.at])
theorem step_inScope {b:Frame} {a:Act} {k:List Item} {cs:List Frame} {w:World} {c:Code} :
  Go.step P (lone (b.at a (.inScope c :: k)) cs w)=.next (lone (b.at a k) cs w) :=
 step_lone_go (by simp [stepG,stepG.exec,Frame.at])
def Ends (P:Program) (b:Frame) (a:Act) (k:List Item) (w:World) (R:Ending→World→Prop):Prop :=
 ∀ cs,∃ e w' fr,R e w'∧Comes P (lone (b.at a k) cs w) (lone fr cs w') e∧fr.fn=b.fn∧fr.leaving P w' e
theorem Ends.of_steps {b:Frame} {a a':Act} {k k':List Item} {w w':World} {R:Ending→World→Prop} (h:∀ cs,Steps P (lone (b.at a k) cs w) (lone (b.at a' k') cs w')) (he:Ends P b a' k' w' R):Ends P b a k w R:=fun cs=>by
 obtain ⟨e,w2,fr,h1,h2,h3⟩:=he cs
 exact ⟨e,w2,fr,h1,Comes.of_steps (h cs) h2,h3⟩
def PostF (C:Cfg) (P:Program) (f:Nat) (fn:Func) (w0:World) (F0:Fs) (r:AV) (e:Ending) (w':World):Prop :=
 match C.sig f with
 | none=>(∀ b,¬ F0.lent b)→PostOk C f w0 F0.rd r e w'
 | some sg=>PostM C P f fn sg w0 F0 r e w'
def RunOk (C:Cfg) (P:Program) (f:Nat) (fn:Func) (go:List Item→St→Option AV):Prop :=
 ∀ (k:List Item) (st:St) (r:AV),go k st=some r→(∀ x ∈ k,itemB (regB C f fn.ntmps) x=true)→∀ (w0:World) (F0:Fs) (a:Act) (w:World) (H:Nat→Option Value) (σ:Nat→Option Nat) (b:Frame),b.fn=f→b.kind=.normal →
  Inv C w0 F0 fn.ntmps st a w H σ→Ends P b a k w (PostF C P f fn w0 F0 r)
theorem arr_ok {f:Nat} {fn:Func} {go:List Item→St→Option AV} (h:RunOk C P f fn go):RunOk C P f fn (arr C f go):=by
 intro k st r hr hk w0 F0 a w H σ b hb hkd hI
 unfold arr at hr
 split at hr
 ·rename_i l s _
  obtain ⟨H',hI'⟩:=hI.canon l s
  exact h k _ r hr hk w0 F0 a w H' σ b hb hkd hI'
 ·exact h k st r hr hk w0 F0 a w H σ b hb hkd hI
theorem Ends.finish {f:Nat} {fn:Func} {st:St} {r:AV} {w0:World} {F0:Fs} {a:Act} {w:World} {H:Nat→Option Value} {σ:Nat→Option Nat} {b:Frame} {k:List Item} (hfit:Fit C P) (hfn:P.funcs[f]?=some fn) (hb:b.fn=f) (hkd:b.kind=.normal)
  (hI:Inv C w0 F0 fn.ntmps st a w H σ) (hf:Sx.fin C f fn st=some r) (hs:∀ cs,∃ todo,Steps P (lone (b.at a k) cs w) (lone { b.at a todo with mode:=.returning } cs w)):Ends P b a k w (PostF C P f fn w0 F0 r):=fun cs=>by
 obtain ⟨todo,hst⟩:=hs cs
 have hfn':P.funcs[b.fn]?=some fn:=by rw [hb];exact hfn
 unfold fin at hf
 cases hsig:C.sig f with
 | none =>
  rw [hsig] at hf
  obtain ⟨v,hv,hr⟩:=finish_ok hfit.ty hI hf
  refine ⟨.returned v,w,_,?_,hst,rfl,rfl,hI.defers,hkd,fn,hfn',hv⟩
  unfold PostF
  rw [hsig]
  exact fun hl=>⟨v,rfl,Ext.of_bel hI.below hl,hr hl⟩
 | some sg =>
  rw [hsig] at hf
  have hrr:∃ v,(results fn a.tmps).run P w=.ok v w:=by
   obtain ⟨outs,f1,f2,_⟩:=finishM_some hf
   obtain ⟨vs,g1,g2,g3⟩:=results_ok hfit.ty hI fn fun rv hm=>List.all_eq_true.1 f2 _ (List.mem_map.2 ⟨rv,hm,rfl⟩)
   exact ⟨_,g2⟩
  obtain ⟨v,hv⟩:=hrr
  refine ⟨.returned v,w,_,?_,hst,rfl,rfl,hI.defers,hkd,fn,hfn',hv⟩
  unfold PostF
  rw [hsig]
  exact ⟨v,rfl,st,a,H,σ,hI,hf,hv⟩
theorem region_ok {f:Nat} {fn:Func} {call:Nat→List AV→Option AV} (hfit:Fit C P) (hC:CallOk C P call) {id:Nat} {ops:Array Oper} {draw:Bool} {st:St} {K:St→Option AV} {r:AV} (hg:regB C f fn.ntmps id ops draw=true)
  (hK:evRegion C call f id ops draw st K=some r) {w0:World} {F0:Fs} {a:Act} {w:World} {H:Nat→Option Value} {σ:Nat→Option Nat} (hI:Inv C w0 F0 fn.ntmps st a w H σ) :
  (Code.region id ops draw).wp P (fun e a' w'=>e=.normal∧∃ st' H' σ',K st'=some r∧Inv C w0 F0 fn.ntmps st' a' w' H' σ') a w:=by
 unfold regB at hg
 rw [Bool.and_eq_true] at hg
 obtain ⟨hg1,hg2⟩:=hg
 have hdst:∀ (i:Nat) (o:Oper) (t:Nat),ops[i]?=some o→o.dst=some t→t < fn.ntmps:=by
  intro i o t hi ht
  have:=Array.all_eq_true_iff_forall_mem.1 hg1 o (Array.mem_of_getElem? hi)
  rw [ht] at this
  unfold Nat.blt at this
  exact Nat.le_of_ble_eq_true this
 unfold evRegion at hK
 cases draw with
 | false =>
  simp only [cond_false] at hK
  refine wp_region (wpOps_of_wpL (nc:=[]) (E:=Held none σ) _ a w ?_)
  exact evOps_ok (D:=none) hC hfit.ty hdst _ hK hI (fun ws e=>by cases e) trivial fun a' w' st' H' σ' q1 q2 _ _ _=>⟨rfl,st',H',σ',q1,q2⟩
 | true =>
  simp only [cond_true] at hK hg2
  cases hp:C.plan f id with
  | none=>rw [hp] at hK;cases hK
  | some l =>
   rw [hp] at hK hg2
   simp only at hK
   simp only [Bool.and_eq_true] at hg2
   obtain ⟨⟨h1,h2⟩,h3⟩:=hg2
   have hlen:=Nat.eq_of_beq_eq_true h3
   have hI':=hI.ext (Ext.drew w (w.drawn+1))
   refine wp_region_any hfit.mixed (AnyE.any (nc:=l.2) (E:=Held (some l.2) σ) _ ?_)
   have key:=anyE_of_wpT (P:=P) (nc:=l.2) (E:=Held (some l.2) σ) (Q:=fun e a' w'=>e=.normal∧∃ st' H' σ',K st'=some r∧Inv C w0 F0 fn.ntmps st' a' w' H' σ') (Held.refl _ _) (fun u v w h k=>h.trans k) h2 (fun c a w hc=>by cases hc.1) l.1 (Array.replicate ops.size false) a _
    (fun j o hj=>by rw [show (Array.replicate ops.size false).getD j false=false by rw [Array.getD_eq_getD_getElem?,Array.getElem?_replicate];split <;> rfl] at hj;cases hj) h1
    (evTree_ok (D:=some l.2) (σ0:=σ) hC hfit.ty hdst (fun a' w' st' H' σ' q1 q2=>⟨rfl,st',H',σ',q1,q2⟩) l.1 hK hI' (fun ws _ s _=>rfl))
   rw [hlen] at key
   exact key
theorem step_ok {f:Nat} {fn:Func} {call:Nat→List AV→Option AV} {go:List Item→St→Option AV} (hfit:Fit C P) (hfn:P.funcs[f]?=some fn) (hC:CallOk C P call) (hgo:RunOk C P f fn go):RunOk C P f fn (Sx.step C call f fn go):=by
 intro k st r hr hk w0 F0 a w H σ b hb hkd hI
 have hk1:∀ {x:Item} {k':List Item},k=x :: k'→∀ y ∈ k',itemB (regB C f fn.ntmps) y=true:=fun e y hy=>hk y (by rw [e];exact List.mem_cons_of_mem _ hy)
 have hk0:∀ {x:Item} {k':List Item},k=x :: k'→itemB (regB C f fn.ntmps) x=true:=fun e=>hk _ (by rw [e];exact List.mem_cons_self ..)
 have cons2:∀ {x:Item} {k':List Item},itemB (regB C f fn.ntmps) x=true→(∀ y ∈ k',itemB (regB C f fn.ntmps) y=true)→∀ y ∈ x :: k',itemB (regB C f fn.ntmps) y=true:=fun h1 h2 y hy=>by
  rcases List.mem_cons.1 hy with rfl | hy
  ·exact h1
  ·exact h2 y hy
 have next:∀ (k':List Item) (st':St),go k' st'=some r→(∀ y ∈ k',itemB (regB C f fn.ntmps) y=true)→Inv C w0 F0 fn.ntmps st' a w H σ→(∀ cs,Go.step P (lone (b.at a k) cs w)=.next (lone (b.at a k') cs w))→Ends P b a k w (PostF C P f fn w0 F0 r) :=
  fun k' st' h1 h2 h3 h4=>Ends.of_steps (fun cs=>.one (h4 cs)) (hgo k' st' r h1 h2 w0 F0 a w H σ b hb hkd h3)
 cases k with
 | nil=>exact Ends.finish hfit hfn hb hkd hI hr fun cs=>⟨_, .one step_end⟩
 | cons it k =>
  cases it with
  | inBlock id=>exact next k st hr (hk1 rfl) hI fun cs=>step_inBlock
  | inScope c=>exact next k st hr (hk1 rfl) hI fun cs=>step_inScope
  | inLoop c=>exact next _ st hr (cons2 (show itemB _ (.code c)=true from hk0 (x:=.inLoop c) rfl) (cons2 (hk0 rfl) (hk1 rfl))) hI fun cs=>step_inLoop
  | code c =>
   have hc0:codeB (regB C f fn.ntmps) c=true:=hk0 rfl
   cases c with
   | skip=>exact next k st hr (hk1 rfl) hI fun cs=>step_skip
   | label l=>exact next k st hr (hk1 rfl) hI fun cs=>step_label
   | loop c=>exact next _ st hr (cons2 hc0 (cons2 hc0 (hk1 rfl))) hI fun cs=>step_loop
   | seq x y =>
    simp only [codeB,Bool.and_eq_true] at hc0
    exact next _ st hr (cons2 hc0.1 (cons2 hc0.2 (hk1 rfl))) hI fun cs=>step_seq
   | block id c=>exact next _ st hr (cons2 hc0 (cons2 rfl (hk1 rfl))) hI fun cs=>step_block
   | scope c=>exact next _ st hr (cons2 hc0 (cons2 hc0 (hk1 rfl))) hI fun cs=>step_scope
   | ret=>exact Ends.finish hfit hfn hb hkd hI hr fun cs=>⟨_, .one step_ret⟩
   | exit id =>
    have hr':(match exitTo id k with | some k'=>go k' st | none=>none)=some r:=hr
    split at hr'
    ·rename_i k' he
     exact next k' st hr' (exitTo_good he (hk1 rfl)) hI fun cs=>step_exit he
    ·cases hr'
   | goto l =>
    have hr':(match gotoIn l k with | some k'=>go k' st | none=>none)=some r:=hr
    split at hr'
    ·rename_i k' he
     exact next k' st hr' (gotoIn_good he (hk1 rfl)) hI fun cs=>step_goto he
    ·cases hr'
   | cond c x y =>
    simp only [codeB,Bool.and_eq_true] at hc0
    have hr':condM (st.get C c).pay (go (.code x :: k) (st.assume c true)) (go (.code y :: k) (st.assume c false))=some r:=hr
    unfold condM at hr'
    split at hr'
    ·rename_i q hq
     have hv:=pay_bool hI hq
     have hass:Inv C w0 F0 fn.ntmps (st.assume c q) a w H σ:=by
      cases c with
      | tmp t =>
       refine hI.setVal ?_
       have:a.tmps.getD t undef=.bool q:=hv
       rw [this]
       exact Rel.b q
      | _=>exact hI
     cases q with
     | true=>exact next _ _ hr' (cons2 hc0.1 (hk1 rfl)) hass fun cs=>step_cond hv
     | false=>exact next _ _ hr' (cons2 hc0.2 (hk1 rfl)) hass fun cs=>step_cond hv
    ·cases hr'
   | region id ops draw =>
    have hr':evRegion C call f id ops draw st (fun st=>go k st)=some r:=hr
    have hw:=region_ok hfit hC hc0 hr' hI
    intro cs
    obtain ⟨e,a',w',⟨he,st',H',σ',q1,q2⟩,harr⟩:=hw b k cs
    subst he
    obtain ⟨e2,w2,fr,h1,h2,h3⟩:=hgo k st' r q1 (hk1 rfl) w0 F0 a' w' H' σ' b hb hkd q2 cs
    exact ⟨e2,w2,fr,h1,Comes.of_steps harr h2,h3⟩
   | _=>cases hr
  | _=>cases hr
theorem firstIdx (l:List UInt8) (c:UInt8):idxByte l c=Lib.indexByte l c:=by
 unfold idxByte
 induction l with
 | nil=>rfl
 | cons x l ih =>
  simp only [List.findIdx?_cons,Lib.indexByte]
  by_cases hx:(x == c)=true
  ·simp [hx]
  ·simp only [hx,Bool.false_eq_true,if_false]
   rw [← ih]
   cases hf:l.findIdx? (· == c) with
   | none=>simp
   | some i =>
    have hne:(((i:Nat):Int) == -1)=false:=by
     rw [beq_eq_false_iff_ne]
     omega
    simp [hne]
theorem both_ok (hfit:Fit C P):∀ n,CallOk C P (both C P n).1∧∀ (f:Nat) (fn:Func),P.funcs[f]?=some fn→RunOk C P f fn ((both C P n).2 f fn)
 | 0=>⟨⟨fun g args r h=>by simp [both] at h,fun g sg args r h=>by simp [both] at h⟩,fun f fn _ k st r h=>by simp [both] at h⟩
 | n+1=>by
  obtain ⟨ihC,ihR⟩:=both_ok hfit n
  refine ⟨⟨fun g args r h hsig w F vs hG hl hv=>?_,fun g sg args r h hsig=>?_⟩,fun f fn hfn=>?_⟩
  ·have h':(match C.gv g with
   | some G=>bif (C.own g).all Option.isNone && (C.sig g).isNone then G args else none
   | none=>match P.funcs[g]? with
    | some fn=>match fn.body with
     | some c=>bif lenOk C g fn.ntmps args.length then arr C g ((both C P n).2 g fn) [.code c] (initF C g fn.ntmps args) else none
     | none=>bif (C.own g).all Option.isNone && (C.sig g).isNone then ext fn.name args else none
    | none=>none)=some r:=h
   cases hgv:C.gv g with
   | some G =>
    rw [hgv] at h'
    simp only [hsig] at h'
    cases hall:(C.own g).all Option.isNone with
    | false=>rw [hall] at h';cases h'
    | true =>
     rw [hall] at h'
     exact hfit.gv g G hgv hall args r h' w F vs hG hl hv
   | none =>
   rw [hgv] at h'
   simp only at h'
   unfold initF lenOk at h'
   simp only [hsig] at h'
   split at h'
   case h_2=>cases h'
   rename_i fn hfn
   split at h'
   ·rename_i c hbody
    cases hle:Nat.ble args.length fn.ntmps with
    | false=>rw [hle] at h';cases h'
    | true =>
     rw [hle] at h'
     have hle':=Nat.le_of_ble_eq_true hle
     left
     refine ⟨fn,c,hfn,hbody,hfit.name g fn c hfn hbody,fun cs=>?_⟩
     let b:Frame:=Frame.enter P g vs .normal
     have hfr:Frame.enter P g vs .normal=b.at ⟨b.tmps,[]⟩ [.code c]:=by
      simp [b,Frame.enter,Frame.at,hfn,hbody]
     have htm:b.tmps=vs ++ Array.replicate (fn.ntmps - vs.size) undef:=by simp [b,Frame.enter,hfn]
     have hI:Inv C w (Fs.of F) fn.ntmps (initSt args) ⟨b.tmps,[]⟩ w (fun _=>none) (fun _=>none):={
      defers:=rfl
      size:=by rw [htm];simp;omega
      env:=fun t=>by
       show REnt _ _ _ _ (match args[t]? with | some v=>.val v | none=>.dead) _
       cases ht:args[t]? with
       | none=>trivial
       | some x =>
        have hlt:t < vs.size:=by rw [hl];exact (List.getElem?_eq_some_iff.1 ht).1
        show Rel _ _ x _
        have hg:vs[t]?=some vs[t]:=by simp [hlt]
        have:=hv t x vs[t] ht hg
        have e:b.tmps.getD t undef=vs[t]:=by
         rw [htm]
         simp [Array.getElem?_append,hlt]
        rw [e]
        refine this.mono fun b' hb' hF=>⟨⟨fun _=>.inl hF,fun i v hi=>(by cases hi),fun s hs=>(by cases hs)⟩,rfl⟩
      mem:=fun s cs hs=>by cases hs
      hown:=fun i x g hi=>by cases hi
      sown:=fun s r hs=>by cases hs
      obj:=fun s b hb=>by cases hb
      hh:=fun i j x y g _ hi=>by cases hi
      hs:=fun i s x r hi=>by cases hi
      ss:=fun s s' r _ hs=>by cases hs
      glob:=fun g k e hg=>by
       obtain ⟨b',o,h1,h2,h3,h4⟩:=hG g k e hg
       refine ⟨b',o,h1,⟨fun _=>.inl h2,fun i v hi=>(by cases hi),fun s hs=>(by cases hs)⟩,h3,fun j hj=>?_⟩
       obtain ⟨v,q1,q2,q3⟩:=h4 j hj
       exact ⟨v,q1,q2,q3.mono fun b' hb' hF=>⟨⟨fun _=>.inl hF,fun i v hi=>(by cases hi),fun s hs=>(by cases hs)⟩,rfl⟩⟩
      below:=Bel.refl _ w }
     have hrun:=arr_ok (ihR g fn hfn) [.code c] (initSt args) r h' (fun x hx=>by
      have:x=.code c:=by simpa using hx
      subst this
      exact hfit.code g fn c hfn hbody) w (Fs.of F) _ w _ _ b rfl rfl hI cs
     rw [hfr]
     obtain ⟨e,w',fr,h1,h2⟩:=hrun
     unfold PostF at h1
     rw [hsig] at h1
     exact ⟨e,w',fr,h1 (fun _ hb=>hb),h2⟩
   ·rename_i hbody
    right
    cases hall:(C.own g).all Option.isNone with
    | false=>rw [hall] at h';cases h'
    | true =>
    rw [hall] at h'
    simp only [Option.isNone_none,Bool.and_self,cond_true] at h'
    unfold ext at h'
    split at h'
    ·rename_i l c
     cases hnm:(fn.name == "internal/bytealg.IndexByteString") with
     | false=>rw [hnm] at h';cases h'
     | true =>
      rw [hnm] at h'
      simp only [cond_true,Option.some.injEq] at h'
      subst h'
      match vs,hl,hv with
      | ⟨[x,y]⟩,_,hv =>
       have hx:=hv 0 _ x rfl rfl
       have hy:=hv 1 _ y rfl rfl
       cases hx with
       | s q =>
        cases hy
        refine ⟨_,hfit.ext g fn hfn hbody hnm q c.toNat w,_,rfl,Ext.refl w,?_⟩
        unfold ResOk
        rw [if_pos hall,firstIdx]
        have e:((c.toNat:Int)).toNat.toUInt8=c:=by simp
        rw [e]
        exact .int _
    ·cases h'
  ·have h':(match C.gv g with
   | some G=>bif (C.own g).all Option.isNone && (C.sig g).isNone then G args else none
   | none=>match P.funcs[g]? with
    | some fn=>match fn.body with
     | some c=>bif lenOk C g fn.ntmps args.length then arr C g ((both C P n).2 g fn) [.code c] (initF C g fn.ntmps args) else none
     | none=>bif (C.own g).all Option.isNone && (C.sig g).isNone then ext fn.name args else none
    | none=>none)=some r:=h
   cases hgv:C.gv g with
   | some G =>
    rw [hgv] at h'
    simp only [hsig] at h'
    cases hall:(C.own g).all Option.isNone with
    | false=>rw [hall] at h';cases h'
    | true =>
     rw [hall] at h'
     cases h'
   | none =>
   rw [hgv] at h'
   simp only at h'
   unfold initF lenOk at h'
   simp only [hsig] at h'
   split at h'
   case h_2=>cases h'
   rename_i fn hfn
   split at h'
   ·rename_i c hbody
    cases hle:(Nat.ble sg.ps.length fn.ntmps && Nat.beq args.length (sg.ps.length+sg.objs.length)) with
    | false=>rw [hle] at h';cases h'
    | true =>
     rw [hle] at h'
     rw [Bool.and_eq_true] at hle
     refine ⟨fn,hfn,Nat.le_of_ble_eq_true hle.1,Nat.eq_of_beq_eq_true hle.2,fun w F0 vs H σ hvs hI=>.inl ⟨fn,c,hfn,hbody,hfit.name g fn c hfn hbody,fun cs=>?_⟩⟩
     let b:Frame:=Frame.enter P g vs .normal
     have hfr:Frame.enter P g vs .normal=b.at ⟨b.tmps,[]⟩ [.code c]:=by
      simp [b,Frame.enter,Frame.at,hfn,hbody]
     have htm:b.tmps=vs ++ Array.replicate (fn.ntmps - vs.size) undef:=by simp [b,Frame.enter,hfn]
     have hrun:=arr_ok (ihR g fn hfn) [.code c] (initM fn.ntmps sg args) r h' (fun x hx=>by
      have:x=.code c:=by simpa using hx
      subst this
      exact hfit.code g fn c hfn hbody) w F0 ⟨b.tmps,[]⟩ w H σ b rfl rfl (by rw [htm];exact hI) cs
     rw [hfr]
     obtain ⟨e,w',fr,h1,h2⟩:=hrun
     unfold PostF at h1
     rw [hsig] at h1
     exact ⟨e,w',fr,h1,h2⟩
   ·simp at h'
  ·exact step_ok hfit hfn ihC (arr_ok (ihR f fn hfn))
end
end Sx

namespace Sx
open Go
section
variable {C:Cfg} {call:Nat→List AV→Option AV} {f:Nat} {R:Type}
theorem lift_bind (st:St) (dst:Option Nat) (K:St→Option R) (o:Option AV):lift st dst K o=(lift st dst some o).bind K:=by
 unfold lift;cases o <;> rfl
theorem cellsOf_bind (t:Nat) (e:Ent) (K:List Cell→Option R):cellsOf C t e K=(cellsOf C t e some).bind K:=by
 unfold cellsOf
 cases C.ty t with
 | none=>rfl
 | some i =>
  simp only
  cases i.kd.agg with
  | true =>
   simp only [cond_true]
   cases e with
   | agg cs=>simp only;cases Nat.beq cs.length i.size <;> rfl
   | cell c=>cases c with
    | val v=>simp only;cases AV.asAg i.size v <;> rfl
    | _=>rfl
   | _=>rfl
  | false =>
   simp only [cond_false]
   cases Nat.beq i.size 1 with
   | false=>rfl
   | true =>
    simp only [cond_true]
    cases e with
    | cell c=>cases c with
     | val v=>simp only;cases AV.one v <;> rfl
     | _=>rfl
    | _=>rfl
theorem evLoad_bind (t:Nat) (a:Ent) (dst:Option Nat) (st:St) (K:St→Option R):evLoad C t a dst st K=(evLoad C t a dst st some).bind K:=by
 unfold evLoad
 cases C.ty t with
 | none=>rfl
 | some i =>
  simp only
  split
  ·split
   ·cases Nat.ble _ _ <;> rfl
   ·rfl
  ·cases Nat.ble _ _ <;> rfl
  ·cases Nat.ble _ _ <;> rfl
  ·rfl
theorem evStore_bind (t:Nat) (a v:Ent) (st:St) (K:St→Option R):evStore C t a v st K=(evStore C t a v st some).bind K:=by
 unfold evStore
 split
 ·rw [cellsOf_bind];conv=>rhs;rw [cellsOf_bind]
  cases cellsOf C t v some with
  | none=>rfl
  | some new =>
   simp only [Option.bind_some]
   split
   ·cases Nat.ble _ _ <;> rfl
   ·rfl
 ·rw [cellsOf_bind];conv=>rhs;rw [cellsOf_bind]
  cases cellsOf C t v some with
  | none=>rfl
  | some new =>
   simp only [Option.bind_some]
   split
   ·cases (_ && _:Bool) <;> rfl
   ·rfl
 ·rfl
theorem fillC_bind (fields:List (Nat×Nat)) (st:St) (K:List Cell→Option R):∀ (ps:List (Nat×Operand)) (cs:List Cell),fillC C fields st ps cs K=(fillC C fields st ps cs some).bind K
 | [],cs=>rfl
 | (i,x) :: r,cs=>by
  simp only [fillC]
  split
  ·rw [cellsOf_bind];conv=>rhs;rw [cellsOf_bind]
   cases cellsOf C _ (st.get C x) some with
   | none=>rfl
   | some new =>
    simp only [Option.bind_some]
    cases Nat.ble _ _ with
    | false=>rfl
    | true=>simp only [cond_true];exact fillC_bind fields st K r _
  ·rfl
theorem fillE_bind (t:Nat) (agg:Bool) (st:St) (K:List AV→Option R):∀ (ps:List (Nat×Operand)) (l:List AV),fillE C t agg st ps l K=(fillE C t agg st ps l some).bind K
 | [],l=>rfl
 | (i,x) :: r,l=>by
  simp only [fillE]
  cases (_ && _:Bool) with
  | false=>rfl
  | true =>
   simp only [cond_true]
   rw [cellsOf_bind];conv=>rhs;rw [cellsOf_bind]
   cases cellsOf C _ (st.get C x) some with
   | none=>rfl
   | some new=>simp only [Option.bind_some];exact fillE_bind t agg st K r _
theorem evSlice_bind (t:Nat) (x:Ent) (lo hi mx:Option Operand) (dst:Option Nat) (st:St) (K:St→Option R):evSlice C f t x lo hi mx dst st K=(evSlice C f t x lo hi mx dst st some).bind K:=by
 cases mx with
 | some m=>rfl
 | none =>
  simp only [evSlice]
  split
  ·exact lift_bind ..
  ·split
   ·rfl
   ·cases (dst.map (C.trunc f)).getD false with
    | false=>simp only [cond_false];exact lift_bind ..
    | true =>
     simp only [cond_true]
     split
     ·cases upN _ _ with
      | none=>rfl
      | some n=>cases dst <;> rfl
     ·rfl
  ·rfl
theorem evConv_bind (src to:Nat) (x:Ent) (dst:Option Nat) (st:St) (K:St→Option R):evConv C src to x dst st K=(evConv C src to x dst st some).bind K:=by
 unfold evConv
 split
 ·exact lift_bind ..
 ·exact lift_bind ..
 ·split
  ·exact lift_bind ..
  ·rfl
 ·split
  ·exact lift_bind ..
  ·rfl
 ·split
  ·cases (_ && _:Bool) with
   | false=>rfl
   | true =>
    simp only [cond_true]
    split <;> rfl
  ·rfl
 ·rfl
theorem evBuiltin_bind (b:Builtin) (args:List Operand) (ts:List Nat) (dst:Option Nat) (st:St) (K:St→Option R):evBuiltin C b args ts dst st K=(evBuiltin C b args ts dst st some).bind K:=by
 unfold evBuiltin
 split
 ·split
  ·exact lift_bind ..
  ·exact lift_bind ..
  ·rfl
 ·exact lift_bind ..
 ·exact lift_bind ..
 ·exact lift_bind ..
 ·split
  ·split
   ·cases (Kd.isSl _) with
    | false=>rfl
    | true =>
     simp only [cond_true]
     split
     ·cases (_ && _:Bool) with
      | false=>rfl
      | true =>
       simp only [cond_true]
       cases app _ _ _ _ with
       | none=>rfl
       | some m=>cases dst <;> rfl
     ·cases app _ _ _ _ with
      | none=>rfl
      | some m=>cases dst <;> rfl
     ·rfl
   ·cases (Kd.isSl _) with
    | false=>rfl
    | true =>
     simp only [cond_true]
     split
     ·cases (_ && _:Bool) with
      | false=>rfl
      | true =>
       simp only [cond_true]
       cases app _ _ _ _ with
       | none=>rfl
       | some m=>cases dst <;> rfl
     ·cases app _ _ _ _ with
      | none=>rfl
      | some m=>cases dst <;> rfl
     ·rfl
   ·rfl
  ·rfl
 ·rfl
theorem backM_bind (site:Nat→Nat) (res:AV) (K:St→Option R):∀ (objs:List (Src×List Knd)) (i:Nat) (st:St),backM site res i objs st K=(backM site res i objs st some).bind K
 | [],i,st=>rfl
 | o :: r,i,st=>by
  simp only [backM]
  cases tupI res (i+1) with
  | none=>rfl
  | some v =>
   simp only [Option.bind_some]
   cases AV.asAg o.2.length v with
   | none=>rfl
   | some l=>simp only [Option.bind_some];exact backM_bind site res K r _ _
theorem evCallM_bind (sg:Sig) (g:Nat) (xs:List Ent) (dst:Option Nat) (st:St) (K:St→Option R):evCallM C call sg g xs dst st K=(evCallM C call sg g xs dst st some).bind K:=by
 unfold evCallM
 cases sitesOf st xs [] sg.objs with
 | none=>rfl
 | some sites =>
  simp only [Option.bind_some]
  cases (_ && _:Bool) with
  | false=>rfl
  | true =>
   simp only [cond_true]
   cases kndss _ _ _ _ with
   | none=>rfl
   | some ins =>
    simp only [Option.bind_some]
    cases call _ _ with
    | none=>rfl
    | some res =>
     simp only [Option.bind_some]
     cases tupI res 0 with
     | none=>rfl
     | some v =>
      simp only [Option.bind_some]
      rw [backM_bind]
      conv=>rhs;rw [backM_bind]
      cases backM _ _ _ _ _ some <;> rfl
theorem evCall_bind (c:Call) (dst:Option Nat) (st:St) (K:St→Option R):evCall C call c dst st K=(evCall C call c dst st some).bind K:=by
 unfold evCall
 simp only
 split
 ·split
  ·exact evCallM_bind ..
  ·cases List.all _ _ with
   | false=>rfl
   | true =>
    simp only [cond_true]
    cases call _ _ with
    | none=>rfl
    | some r=>simp only [Option.bind_some];cases putRes _ _ _ _ <;> rfl
 ·split
  ·split
   ·exact evCallM_bind ..
   ·rfl
  ·cases List.all _ _ with
   | false=>rfl
   | true =>
    simp only [cond_true]
    cases AV.fnId _ with
    | none=>rfl
    | some g =>
     simp only [Option.bind_some]
     cases callV C call _ _ <;> rfl
 ·exact evBuiltin_bind ..
 ·rfl
theorem evOp_bind (o:Oper) (st:St) (K:St→Option R):evOp C call f o st K=(evOp C call f o st some).bind K:=by
 cases ho:o.op with
 | move x=>simp only [evOp,ho];rfl
 | assign x=>simp only [evOp,ho];rfl
 | pick c a b=>simp only [evOp,ho];exact lift_bind ..
 | alloc t=>simp only [evOp,ho];cases C.ty t with
  | none=>rfl
  | some i=>cases o.dst <;> rfl
 | box t x =>
  simp only [evOp,ho]
  rw [cellsOf_bind];conv=>rhs;rw [cellsOf_bind]
  cases cellsOf C t (st.get C x) some with
  | none=>rfl
  | some cs =>
   simp only [Option.bind_some]
   cases C.pt t with
   | true =>
    simp only [cond_true]
    cases (cs.all Cell.isVal && !cs.isEmpty) <;> rfl
   | false=>cases o.dst <;> rfl
 | build t ps=>simp only [evOp,ho];cases C.ty t with
  | none=>rfl
  | some i =>
   simp only
   cases i.kd.agg with
   | false=>rfl
   | true =>
    simp only [cond_true]
    rw [fillC_bind];conv=>rhs;rw [fillC_bind]
    cases fillC C i.fields st ps.toList _ some <;> rfl
 | buildSlice t n ps =>
  simp only [evOp,ho]
  split
  ·cases (_ && _:Bool) with
   | false=>rfl
   | true =>
    simp only [cond_true]
    rw [fillE_bind];conv=>rhs;rw [fillE_bind]
    cases fillE C _ _ st ps.toList _ some with
    | none=>rfl
    | some l=>cases o.dst <;> rfl
  ·rfl
 | load t a=>simp only [evOp,ho];exact evLoad_bind ..
 | store t a x=>simp only [evOp,ho];cases o.dst with
  | none=>exact evStore_bind ..
  | some d=>rfl
 | binOp op t x y u =>
  simp only [evOp,ho]
  cases C.ty t with
  | none=>rfl
  | some i =>
   simp only
   cases i.kd.agg with
   | true =>
    simp only [cond_true]
    cases i.eqk with
    | none=>rfl
    | some ks=>exact lift_bind ..
   | false =>
    simp only [cond_false]
    cases i.kd <;> first | exact lift_bind .. | rfl
 | unOp op t x=>simp only [evOp,ho];exact lift_bind ..
 | convert s t x=>simp only [evOp,ho];exact evConv_bind ..
 | makeSlice t n c =>
  simp only [evOp,ho]
  split
  ·cases (bif _ then _ else _:Option (List AV)) with
   | none=>rfl
   | some l=>cases o.dst <;> rfl
  ·rfl
 | slice t x lo hi mx=>simp only [evOp,ho];exact evSlice_bind ..
 | fieldAddr t x i=>simp only [evOp,ho];split <;> rfl
 | field t x i =>
  simp only [evOp,ho]
  split
  ·rw [cellsOf_bind];conv=>rhs;rw [cellsOf_bind]
   cases cellsOf C t (st.get C x) some with
   | none=>rfl
   | some cs =>
    simp only [Option.bind_some]
    split
    ·cases Nat.ble _ _ <;> rfl
    ·rfl
  ·rfl
 | indexAddr t x i =>
  simp only [evOp,ho]
  split
  ·split
   ·cases Nat.beq _ _ with
    | false=>rfl
    | true=>simp only [cond_true];cases inN _ _ <;> rfl
   ·cases idx _ _ _ <;> rfl
   ·rfl
  ·rfl
 | index t x i =>
  simp only [evOp,ho]
  split
  ·exact lift_bind ..
  ·rfl
 | extract x i =>
  simp only [evOp,ho]
  cases x with
  | tmp t =>
   simp only
   split
   ·split <;> rfl
   ·exact lift_bind ..
   ·rfl
  | _=>rfl
 | makeFunc fn fi ca =>
  simp only [evOp,ho]
  split
  ·rfl
  ·cases capsOf _ <;> rfl
  ·rfl
 | nilCheck x=>simp only [evOp,ho];split <;> rfl
 | call c=>simp only [evOp,ho];exact evCall_bind ..
 | _=>simp only [evOp,ho];rfl
end
def Ev (p:Nat→Prop):Prop:=∃ n0,∀ n,n0≤n→p n
theorem Ev.of {p:Nat→Prop} (h:∀ n,p n):Ev p:=⟨0,fun n _=>h n⟩
theorem Ev.mono {p q:Nat→Prop} (h:Ev p) (hq:∀ n,p n→q n):Ev q:=by
 obtain ⟨n0,h⟩:=h;exact ⟨n0,fun n hn=>hq n (h n hn)⟩
theorem Ev.and {p q:Nat→Prop} (h:Ev p) (k:Ev q):Ev fun n=>p n∧q n:=by
 obtain ⟨a,h⟩:=h;obtain ⟨b,k⟩:=k
 exact ⟨max a b,fun n hn=>⟨h n (Nat.le_trans (Nat.le_max_left ..) hn),k n (Nat.le_trans (Nat.le_max_right ..) hn)⟩⟩
theorem Ev.const {p:Prop} (h:Ev fun _=>p):p:=by obtain ⟨n0,h⟩:=h;exact h n0 (Nat.le_refl _)
theorem Ev.ex {p:Nat→Prop} (h:Ev p):∃ n,p n:=by obtain ⟨n0,h⟩:=h;exact ⟨n0,h n0 (Nat.le_refl _)⟩
section
variable {C:Cfg} {call:Nat→List AV→Option AV} {cs:Nat→Nat→List AV→Option AV} {f:Nat}
theorem evCallM_ev (hc:∀ g xs r,call g xs=some r→Ev fun n=>cs n g xs=some r) {sg:Sig} {g:Nat} {xs:List Ent} {dst:Option Nat} {st st':St} (h:evCallM C call sg g xs dst st some=some st'):Ev fun n=>evCallM C (cs n) sg g xs dst st some=some st':=by
 unfold evCallM at h ⊢
 obtain ⟨sites,h1,h⟩:=Option.bind_eq_some_iff.1 h
 simp only at h
 generalize hb:(sigOk sg && (nodup sites && (parsOk sites sg.ps xs && (nodup (kIdss true (fun i=>sites.getD i 0) (st.fzs (parIds sg.ps xs ++ kIdss false (fun i=>sites.getD i 0) st.mem 0 sg.objs)).mem 0 sg.objs) && (C.own g).isEmpty))))=b at h
 cases b with
 | false=>cases h
 | true =>
  simp only [cond_true] at h
  obtain ⟨ins,h2,h⟩:=Option.bind_eq_some_iff.1 h
  obtain ⟨res,h3,h⟩:=Option.bind_eq_some_iff.1 h
  refine (hc _ _ _ h3).mono fun n hn=>?_
  simp only [h1,Option.bind_some,hb,cond_true,h2,hn]
  exact h
theorem evOp_ev (hc:∀ g xs r,call g xs=some r→Ev fun n=>cs n g xs=some r) (o:Oper) (st st':St) (h:evOp C call f o st some=some st'):Ev fun n=>evOp C (cs n) f o st some=some st':=by
 cases ho:o.op <;> first
  | (refine Ev.of fun n=>?_;simp only [evOp,ho] at h ⊢;exact h;done)
  | skip
 case call c =>
  simp only [evOp,ho] at h ⊢
  unfold evCall at h ⊢
  simp only at h ⊢
  split at h
  ·rename_i g hg
   cases hsig:C.sig g with
   | some sg =>
    rw [hsig] at h
    simp only [hg,hsig]
    exact evCallM_ev hc h
   | none =>
   rw [hsig] at h
   simp only at h
   cases ha:(c.args.toList.map (st.get C)).all Ent.told with
   | false=>rw [ha] at h;cases h
   | true =>
    rw [ha] at h
    simp only [cond_true] at h
    obtain ⟨r,hr,h⟩:=Option.bind_eq_some_iff.1 h
    refine (hc _ _ _ hr).mono fun n hn=>?_
    simp only [hg,hsig,ha,cond_true,hn,Option.bind_some]
    exact h
  ·rename_i t ht
   split at h
   ·rename_i g ss hge
    cases hsig:C.sig g with
    | none=>rw [hsig] at h;cases h
    | some sg =>
     rw [hsig] at h
     simp only [ht,hge,hsig]
     exact evCallM_ev hc h
   ·rename_i hnc
    cases ha:(c.args.toList.map (st.get C)).all Ent.told with
    | false=>rw [ha] at h;cases h
    | true =>
     rw [ha] at h
     simp only [cond_true] at h
     obtain ⟨g,hg,h⟩:=Option.bind_eq_some_iff.1 h
     obtain ⟨r,hr,h⟩:=Option.bind_eq_some_iff.1 h
     unfold callV at hr
     cases hb:((C.sig g).isNone && (C.own g).all Option.isNone) with
     | false=>rw [hb] at hr;cases hr
     | true =>
     rw [hb] at hr
     simp only [cond_true] at hr
     refine (hc _ _ _ hr).mono fun n hn=>?_
     simp only [cond_true,hg,Option.bind_some,callV,hb,hn]
     exact h
  ·rename_i b hb
   refine Ev.of fun n=>?_
   (try simp only [hb])
   exact h
  ·cases h
theorem evOps_ev (hc:∀ g xs r,call g xs=some r→Ev fun n=>cs n g xs=some r) {ops:Array Oper} {D:Option (List Nat)} :
  ∀ (m:Nat) {R:Type} (ctx:Option (Nat×Bool)) (l:List (Nat×Bool)) (st:St) (K:St→Option R) (Ks:Nat→St→Option R) (r:R),(∀ st r,K st=some r→Ev fun n=>Ks n st=some r) →
   evOps C call f ops D m ctx l st K=some r→Ev fun n=>evOps C (cs n) f ops D m ctx l st (Ks n)=some r
 | 0,R,ctx,l,st,K,Ks,r,hK,h=>by cases h
 | m+1,R,ctx,[],st,K,Ks,r,hK,h=>hK st r h
 | m+1,R,ctx,i :: l,st,K,Ks,r,hK,h=>by
  simp only [evOps] at h ⊢
  cases hlt:Nat.blt i.1 ops.size with
  | false=>rw [hlt] at h;cases h
  | true =>
   simp only [hlt,Bool.not_true,cond_false] at h ⊢
   cases hsg:sameG (opAt ops i.1).guard ctx with
   | true =>
    simp only [hsg,cond_true] at h ⊢
    cases hok:okOp C i.1 (opAt ops i.1) i.2 D st with
    | false=>rw [hok] at h;cases h
    | true =>
     simp only [hok,cond_true] at h ⊢
     rw [evOp_bind] at h
     obtain ⟨st',h1,h2⟩:=Option.bind_eq_some_iff.1 h
     refine ((evOp_ev hc _ _ _ h1).and (evOps_ev hc m _ l st' K Ks r hK h2)).mono fun n hn=>?_
     rw [evOp_bind,hn.1]
     exact hn.2
   | false =>
    simp only [hsg,cond_false] at h ⊢
    split at h
    ·cases h
    rename_i j want hg
    split at h
    ·cases h
    rename_i d hjd
    split at h
    case h_2=>cases h
    rename_i seg p A B rest hcut
    cases hh:(hangs C ops true j want d seg [] && Nat.blt p.1 ops.size) with
    | false =>
     rw [hh] at h
     simp only [cond_false] at h
     cases hh2:(hangs C ops false j want d seg [] && Nat.blt p.1 ops.size) with
     | false=>rw [hh2] at h;cases h
     | true =>
      rw [hh2] at h
      simp only [cond_true] at h
      have k1:∀ r,evOps C call f ops D m (some (j,want)) seg st (fun st=>evOps C call f ops D m ctx rest (st.put (opAt ops p.1).dst (st.get C (bif want then A else B))) K)=some r →
        Ev fun n=>evOps C (cs n) f ops D m (some (j,want)) seg st (fun st=>evOps C (cs n) f ops D m ctx rest (st.put (opAt ops p.1).dst (st.get C (bif want then A else B))) (Ks n))=some r :=
       fun r h=>evOps_ev hc m _ seg st _ (fun n st=>evOps C (cs n) f ops D m ctx rest (st.put (opAt ops p.1).dst (st.get C (bif want then A else B))) (Ks n)) r (fun st r h=>evOps_ev hc m _ rest _ K Ks r hK h) h
      have k2:∀ r,evOps C call f ops D m ctx rest ((st.deads (seg.filterMap fun i=>dstOf ops i.1)).put (opAt ops p.1).dst (st.get C (bif want then B else A))) K=some r →
        Ev fun n=>evOps C (cs n) f ops D m ctx rest ((st.deads (seg.filterMap fun i=>dstOf ops i.1)).put (opAt ops p.1).dst (st.get C (bif want then B else A))) (Ks n)=some r :=
       fun r h=>evOps_ev hc m _ rest _ K Ks r hK h
      unfold selM condM at h
      cases want with
      | true =>
       simp only [cond_true] at h
       split at h
       ·rename_i x hx
        cases x with
        | true=>exact (k1 r h).mono fun n hn=>by simp only [hjd,hcut,hh,hh2,cond_false,cond_true];unfold selM condM;rw [hx];exact hn
        | false=>exact (k2 r h).mono fun n hn=>by simp only [hjd,hcut,hh,hh2,cond_false,cond_true];unfold selM condM;rw [hx];exact hn
       ·cases h
      | false =>
       simp only [cond_false] at h
       split at h
       ·rename_i x hx
        cases x with
        | true=>exact (k2 r h).mono fun n hn=>by simp only [hjd,hcut,hh,hh2,cond_false,cond_true];unfold selM condM;rw [hx];exact hn
        | false=>exact (k1 r h).mono fun n hn=>by simp only [hjd,hcut,hh,hh2,cond_false,cond_true];unfold selM condM;rw [hx];exact hn
       ·cases h
    | true =>
     rw [hh] at h
     simp only [cond_true] at h
     obtain ⟨v,hv,h⟩:=Option.bind_eq_some_iff.1 h
     have hsel:Ev fun n=>selW (st.env d).pay want (evOps C (cs n) f ops D m (some (j,want)) seg st fun st=>some (st.get C (bif want then A else B)).pay) (st.get C (bif want then B else A)).pay=some v:=by
      unfold selW at hv ⊢
      split at hv
      ·rename_i x hx
       (try simp only [hx])
       cases hxw:(x == want) with
       | true =>
        simp only [hxw,cond_true] at hv ⊢
        split at hv
        ·rename_i y hy
         refine (evOps_ev hc m _ seg st _ (fun _ st=>some (st.get C (bif want then A else B)).pay) _ (fun st r h=>Ev.of fun _=>h) hy).mono fun n hn=>?_
         rw [hn]
         exact hv
        ·cases hv
       | false =>
        simp only [hxw,cond_false] at hv ⊢
        exact Ev.of fun _=>hv
      ·cases hv
     refine (hsel.and (evOps_ev hc m _ rest _ K Ks r hK h)).mono fun n hn=>?_
     simp only [hjd,hcut,hh,cond_true,hn.1,Option.bind_some]
     exact hn.2
theorem agree_some {R:Type} {A B:Option R} {r:R} (h:agree A B=some r):A=some r∧B=some r:=by
 unfold agree at h
 split at h
 ·rename_i e;exact ⟨h,e ▸ h⟩
 ·cases h
theorem agree_of {R:Type} {A B:Option R} {r:R} (h1:A=some r) (h2:B=some r):agree A B=some r:=by
 unfold agree
 rw [h1,h2,if_pos rfl]
@[simp] theorem same_eq {R:Type} (A:Option R):same A=A:=by
 unfold same agree
 rw [if_pos rfl]
theorem evTree_ev (hc:∀ g xs r,call g xs=some r→Ev fun n=>cs n g xs=some r) {R:Type} {ops:Array Oper} {D:Option (List Nat)} {m:Nat} {K:St→Option R} {Ks:Nat→St→Option R} (hK:∀ st r,K st=some r→Ev fun n=>Ks n st=some r) :
  ∀ (T:Plan) {st:St} {r:R},evTree C call f ops D m T st K=some r→Ev fun n=>evTree C (cs n) f ops D m T st (Ks n)=some r
 | .done,st,r,h=>hK st r h
 | .seq l t,st,r,h=>evOps_ev hc m _ l st _ (fun n st=>evTree C (cs n) f ops D m t st (Ks n)) r (fun st r h=>evTree_ev hc hK t h) h
 | .fork i x j y,st,r,h=>by
  simp only [evTree] at h ⊢
  obtain ⟨h1,h2⟩:=agree_some h
  have k1:=evOps_ev hc m _ [(i,false)] st _ (fun n st=>evTree C (cs n) f ops D m x st (Ks n)) r (fun st r h=>evTree_ev hc hK x h) h1
  have k2:=evOps_ev hc m _ [(j,false)] st _ (fun n st=>evTree C (cs n) f ops D m y st (Ks n)) r (fun st r h=>evTree_ev hc hK y h) h2
  exact (k1.and k2).mono fun n hn=>agree_of hn.1 hn.2
theorem evRegion_ev (hc:∀ g xs r,call g xs=some r→Ev fun n=>cs n g xs=some r) {R:Type} {rid:Nat} {ops:Array Oper} {draw:Bool} {st:St} {K:St→Option R} {Ks:Nat→St→Option R} {r:R} (hK:∀ st r,K st=some r→Ev fun n=>Ks n st=some r)
  (h:evRegion C call f rid ops draw st K=some r):Ev fun n=>evRegion C (cs n) f rid ops draw st (Ks n)=some r:=by
 unfold evRegion at h ⊢
 cases draw with
 | false =>
  simp only [cond_false] at h ⊢
  exact evOps_ev hc _ _ _ _ _ _ _ hK h
 | true =>
  simp only [cond_true] at h ⊢
  split at h
  ·rename_i p hp
   (try simp only [hp])
   exact evTree_ev hc hK p.1 h
  ·cases h
theorem step_ev (hc:∀ g xs r,call g xs=some r→Ev fun n=>cs n g xs=some r) {fn:Func} {go:List Item→St→Option AV} {gos:Nat→List Item→St→Option AV} (hgo:∀ k st r,go k st=some r→Ev fun n=>gos n k st=some r)
  {k:List Item} {st:St} {r:AV} (h:step C call f fn go k st=some r):Ev fun n=>step C (cs n) f fn (gos n) k st=some r:=by
 cases k with
 | nil=>exact Ev.of fun _=>h
 | cons it k =>
  cases it with
  | inBlock id=>exact hgo _ _ _ h
  | inScope c=>exact hgo _ _ _ h
  | inLoop c=>exact hgo _ _ _ h
  | code c =>
   cases c with
   | skip=>exact hgo _ _ _ h
   | label l=>exact hgo _ _ _ h
   | loop c=>exact hgo _ _ _ h
   | seq x y=>exact hgo _ _ _ h
   | block id c=>exact hgo _ _ _ h
   | scope c=>exact hgo _ _ _ h
   | ret=>exact Ev.of fun _=>h
   | exit id =>
    simp only [step] at h ⊢
    split at h
    ·rename_i k' he;(try simp only [he]);exact hgo _ _ _ h
    ·cases h
   | goto l =>
    simp only [step] at h ⊢
    split at h
    ·rename_i k' he;(try simp only [he]);exact hgo _ _ _ h
    ·cases h
   | cond c x y =>
    simp only [step,condM] at h ⊢
    split at h
    ·rename_i q hq
     (try simp only [hq])
     cases q with
     | true=>exact hgo _ _ _ h
     | false=>exact hgo _ _ _ h
    ·cases h
   | region id ops draw =>
    simp only [step] at h ⊢
    exact evRegion_ev hc (fun st r h=>hgo k st r h) h
   | _=>cases h
  | _=>cases h
theorem arr_ev {go:List Item→St→Option AV} {gos:Nat→List Item→St→Option AV} (hgo:∀ k st r,go k st=some r→Ev fun n=>gos n k st=some r) {k:List Item} {st:St} {r:AV} (h:arr C f go k st=some r):Ev fun n=>arr C f (gos n) k st=some r:=by
 unfold arr at h ⊢
 split at h
 ·rename_i l s hl;(try simp only [hl]);exact hgo _ _ _ h
 ·rename_i hl;(try simp only [hl]);exact hgo _ _ _ h
end
section
open Classical
noncomputable def semCall (C:Cfg) (P:Program) (g:Nat) (xs:List AV):Option AV:=if h:∃ r,Ev fun n=>(both C P n).1 g xs=some r then some (choose h) else none
noncomputable def semRun (C:Cfg) (P:Program) (f:Nat) (fn:Func) (k:List Item) (st:St):Option AV:=if h:∃ r,Ev fun n=>(both C P n).2 f fn k st=some r then some (choose h) else none
variable {C:Cfg} {P:Program}
theorem semCall_some {g:Nat} {xs:List AV} {r:AV} (h:semCall C P g xs=some r):Ev fun n=>(both C P n).1 g xs=some r:=by
 unfold semCall at h
 split at h
 ·rename_i hh
  have:=choose_spec hh
  cases h
  exact this
 ·cases h
theorem semRun_some {f:Nat} {fn:Func} {k:List Item} {st:St} {r:AV} (h:semRun C P f fn k st=some r):Ev fun n=>(both C P n).2 f fn k st=some r:=by
 unfold semRun at h
 split at h
 ·rename_i hh
  have:=choose_spec hh
  cases h
  exact this
 ·cases h
theorem semCall_of {g:Nat} {xs:List AV} {r:AV} (h:Ev fun n=>(both C P n).1 g xs=some r):semCall C P g xs=some r:=by
 have hh:∃ r,Ev fun n=>(both C P n).1 g xs=some r:=⟨r,h⟩
 unfold semCall
 rw [dif_pos hh]
 obtain ⟨n,h1,h2⟩:=((choose_spec hh).and h).ex
 rw [← h1];exact h2
theorem semRun_of {f:Nat} {fn:Func} {k:List Item} {st:St} {r:AV} (h:Ev fun n=>(both C P n).2 f fn k st=some r):semRun C P f fn k st=some r:=by
 have hh:∃ r,Ev fun n=>(both C P n).2 f fn k st=some r:=⟨r,h⟩
 unfold semRun
 rw [dif_pos hh]
 obtain ⟨n,h1,h2⟩:=((choose_spec hh).and h).ex
 rw [← h1];exact h2
theorem Ev.succ {p:Nat→Prop} (h:Ev fun n=>p (n+1)):Ev p:=by
 obtain ⟨n0,h⟩:=h
 refine ⟨n0+1,fun n hn=>?_⟩
 obtain ⟨m,rfl⟩:∃ m,n=m+1:=⟨n - 1,by omega⟩
 exact h m (by omega)
theorem semRun_step {f:Nat} {fn:Func} {k:List Item} {st:St} {r:AV} (h:step C (semCall C P) f fn (arr C f (semRun C P f fn)) k st=some r):semRun C P f fn k st=some r :=
 semRun_of (Ev.succ (step_ev (cs:=fun n=>(both C P n).1) (gos:=fun n=>arr C f ((both C P n).2 f fn)) (fun _ _ _ h=>semCall_some h) (fun _ _ _ h=>arr_ev (gos:=fun n=>(both C P n).2 f fn) (fun _ _ _ h=>semRun_some h) h) h))
noncomputable def unr (C:Cfg) (call:Nat→List AV→Option AV) (run:List Item→St→Option AV) (f:Nat) (fn:Func):Nat→List Item→St→Option AV
 | 0,_,_=>none
 | n+1,k,st=>match stopOf C f k with
  | some (l,s)=>run k (st.canon l s)
  | none=>step C call f fn (unr C call run f fn n) k st
theorem unr_ok {f:Nat} {fn:Func}:∀ (n:Nat) {k:List Item} {st:St} {r:AV},unr C (semCall C P) (semRun C P f fn) f fn n k st=some r→arr C f (semRun C P f fn) k st=some r
 | 0,k,st,r,h=>by cases h
 | n+1,k,st,r,h=>by
  simp only [unr] at h
  unfold arr
  split at h
  ·rename_i l s hl;simp only [hl];exact h
  ·rename_i hl
   simp only [hl]
   refine semRun_step ?_
   exact (step_ev (cs:=fun _=>semCall C P) (gos:=fun _=>arr C f (semRun C P f fn)) (fun _ _ _ h=>Ev.of fun _=>h) (fun _ _ _ h=>Ev.of fun _=>unr_ok n h) h).const
theorem semRun_unr {f:Nat} {fn:Func} (n:Nat) {k:List Item} {st:St} {r:AV} (h:step C (semCall C P) f fn (unr C (semCall C P) (semRun C P f fn) f fn n) k st=some r):semRun C P f fn k st=some r :=
 semRun_step (step_ev (cs:=fun _=>semCall C P) (gos:=fun _=>arr C f (semRun C P f fn)) (fun _ _ _ h=>Ev.of fun _=>h) (fun _ _ _ h=>Ev.of fun _=>unr_ok n h) h).const
theorem semCall_unr {g:Nat} {fn:Func} {c:Code} (hfn:P.funcs[g]?=some fn) (hb:fn.body=some c) (n:Nat) {xs:List AV} {r:AV} (hl:lenOk C g fn.ntmps xs.length=true) (h:unr C (semCall C P) (semRun C P g fn) g fn n [.code c] (initF C g fn.ntmps xs)=some r) (hgv:C.gv g=none:=by rfl):semCall C P g xs=some r:=by
 refine semCall_of (Ev.succ ?_)
 have h1:=arr_ev (C:=C) (f:=g) (gos:=fun n=>(both C P n).2 g fn) (fun _ _ _ h=>semRun_some h) (unr_ok n h)
 refine h1.mono fun n hn=>?_
 show (match C.gv g with
   | some G=>bif (C.own g).all Option.isNone && (C.sig g).isNone then G xs else none
   | none=>match P.funcs[g]? with
    | some fn=>match fn.body with
     | some c=>bif lenOk C g fn.ntmps xs.length then arr C g ((both C P n).2 g fn) [.code c] (initF C g fn.ntmps xs) else none
     | none=>bif (C.own g).all Option.isNone && (C.sig g).isNone then ext fn.name xs else none
    | none=>none)=some r
 rw [hgv]
 simp only
 rw [hfn]
 simp only [hb,hl,cond_true]
 exact hn
theorem semCall_gv {g:Nat} {G:List AV→Option AV} (hgv:C.gv g=some G) (ho:((C.own g).all Option.isNone && (C.sig g).isNone)=true) {xs:List AV} {r:AV} (h:G xs=some r):semCall C P g xs=some r:=by
 refine semCall_of (Ev.succ (Ev.of fun n=>?_))
 show (match C.gv g with
   | some G=>bif (C.own g).all Option.isNone && (C.sig g).isNone then G xs else none
   | none=>match P.funcs[g]? with
    | some fn=>match fn.body with
     | some c=>bif lenOk C g fn.ntmps xs.length then arr C g ((both C P n).2 g fn) [.code c] (initF C g fn.ntmps xs) else none
     | none=>bif (C.own g).all Option.isNone && (C.sig g).isNone then ext fn.name xs else none
    | none=>none)=some r
 rw [hgv]
 simp only [ho,cond_true]
 exact h
theorem semCall_ok (hfit:Fit C P):CallOk C P (semCall C P) :=
 ⟨fun g xs r h hs=>by
  obtain ⟨n,hn⟩:=(semCall_some h).ex
  exact (both_ok hfit n).1.1 g xs r hn hs,
 fun g sg xs r h hs=>by
  obtain ⟨n,hn⟩:=(semCall_some h).ex
  exact (both_ok hfit n).1.2 g sg xs r hn hs⟩
end
end Sx

namespace Sx
open Go
abbrev CallT:=Nat→List AV→Option AV
abbrev RunT:=List Item→St→Option AV
def tabGet {α:Type}:List (Nat×α)→Nat→Option α
 | [],_=>none
 | p :: r,t=>bif Nat.beq p.1 t then some p.2 else tabGet r t
def tabGet2 {α:Type}:List ((Nat×Nat)×α)→Nat→Nat→Option α
 | [],_,_=>none
 | p :: r,f,t=>bif Nat.beq p.1.1 f && Nat.beq p.1.2 t then some p.2 else tabGet2 r f t
def mkCfg (ty:List (Nat×Ty)) (plan:List ((Nat×Nat)×(Plan×List Nat))) (stops:List (Nat×List (Nat×List (Nat×Option (Nat×Nat))×List (Nat×List (Nat×Nat×Nat))))) (own:List (Nat×List (Option (Nat×Nat))))
  (trunc:List (Nat×List Nat)) (glob:Nat→Option (Nat×AV)) (sig:List (Nat×Sig)) (gv:Nat→Option (List AV→Option AV):=fun _=>none) (pt:Nat→Bool:=fun _=>false):Cfg where
 ty:=tabGet ty
 own:=fun f=>(tabGet own f).getD []
 stops:=fun f=>(tabGet stops f).getD []
 plan:=tabGet2 plan
 trunc:=fun f t=>((tabGet trunc f).getD []).any (Nat.beq t)
 glob:=glob
 sig:=tabGet sig
 gv:=gv
 pt:=pt
def kAt (rid:Nat):Code→List Item→Option (List Item)
 | .region id ops d,k=>bif Nat.beq id rid then some (.code (.region id ops d) :: k) else none
 | .seq a b,k=>match kAt rid a (.code b :: k) with
  | some r=>some r
  | none=>kAt rid b k
 | .cond _ a b,k=>match kAt rid a k with
  | some r=>some r
  | none=>kAt rid b k
 | .block id c,k=>kAt rid c (.inBlock id :: k)
 | .loop c,k=>kAt rid c (.inLoop c :: k)
 | .scope c,k=>kAt rid c (.inScope c :: k)
 | _,_=>none
end Sx

namespace Sx
open Go
def avB:AV→AV→Bool
 | .un, .un=>true
 | .b x, .b y=>x == y
 | .u8 x, .u8 y=>Nat.beq x.toNat y.toNat
 | .int x, .int y=>decide (x=y)
 | .ik k x, .ik k' y=>decide (k=k') && decide (x=y)
 | .s [], .s []=>true
 | .nils, .nils=>true
 | .nilf, .nilf=>true
 | .nilp, .nilp=>true
 | _,_=>false
theorem avB_eq {a b:AV} (h:avB a b=true):a=b:=by
 unfold avB at h
 split at h
 ·rfl
 ·rename_i x y;have:x=y:=by simpa using h
  rw [this]
 ·rw [UInt8.toNat_inj.1 (Nat.eq_of_beq_eq_true h)]
 ·rw [of_decide_eq_true h]
 ·rw [Bool.and_eq_true] at h
  rw [of_decide_eq_true h.1,of_decide_eq_true h.2]
 ·rfl
 ·rfl
 ·rfl
 ·rfl
 ·cases h
def avsB:List AV→List AV→Bool
 | [],[]=>true
 | x :: xs,y :: ys=>avB x y && avsB xs ys
 | _,_=>false
theorem avsB_eq:∀ {l m:List AV},avsB l m=true→l=m
 | [],[],_=>rfl
 | x :: xs,y :: ys,h=>by
  simp only [avsB,Bool.and_eq_true] at h
  rw [avB_eq h.1,avsB_eq h.2]
 | [],y :: ys,h=>by cases h
 | x :: xs,[],h=>by cases h
def fieldsB:List Field→List (Nat×Nat)→Bool
 | [],[]=>true
 | f :: fs,p :: ps=>Nat.beq f.offset p.1 && Nat.beq f.type p.2 && fieldsB fs ps
 | _,_=>false
theorem fieldsB_eq:∀ {l:List Field} {m:List (Nat×Nat)},fieldsB l m=true→l.map (fun f=>(f.offset,f.type))=m
 | [],[],_=>rfl
 | f :: fs,p :: ps,h=>by
  simp only [fieldsB,Bool.and_eq_true] at h
  simp only [List.map_cons]
  rw [fieldsB_eq h.2,Nat.eq_of_beq_eq_true h.1.1,Nat.eq_of_beq_eq_true h.1.2]
 | [],_ :: _,h=>by cases h
 | _ :: _,[],h=>by cases h
def ekB (P:Program) (t:TypeId):EK→Bool
 | .b=>match P.underlying t with | some .bool=>true | _=>false
 | .i=>match P.underlying t with | some (.int _)=>true | _=>false
 | .s=>match P.underlying t with | some .string=>true | _=>false
theorem ekB_ok {P:Program} {t:TypeId} {k:EK} (h:ekB P t k=true):EKOk P t k:=by
 cases k <;> simp only [ekB] at h <;> split at h <;> first | (cases h;done) | skip
 ·rename_i hu;exact hu
 ·rename_i k hu;exact ⟨k,hu⟩
 ·rename_i hu;exact hu
def eqFB (P:Program):Nat→List Field→List EK→Bool
 | _,[],[]=>true
 | n,f :: fs,k :: ks=>Nat.beq f.offset n && !(f.name == "_") && ekB P f.type k && eqFB P (n+1) fs ks
 | _,_,_=>false
theorem eqFB_ok {P:Program}:∀ {n:Nat} {fs:List Field} {ks:List EK},eqFB P n fs ks=true→fs.length=ks.length∧∀ (j:Nat) (f:Field) (k:EK),fs[j]?=some f→ks[j]?=some k→f.offset=n+j∧f.name ≠ "_" ∧ EKOk P f.type k
 | n,[],[],_=>⟨rfl,fun j f k h=>by simp at h⟩
 | n,f :: fs,k :: ks,h=>by
  simp only [eqFB,Bool.and_eq_true] at h
  obtain ⟨⟨⟨h1,h2⟩,h3⟩,h4⟩:=h
  obtain ⟨q1,q2⟩:=eqFB_ok h4
  refine ⟨by simp [q1],fun j f' k' hf hk=>?_⟩
  cases j with
  | zero =>
   simp at hf hk
   subst hf hk
   exact ⟨Nat.eq_of_beq_eq_true h1,by simpa using h2,ekB_ok h3⟩
  | succ j =>
   obtain ⟨a,b⟩:=q2 j f' k' (by simpa using hf) (by simpa using hk)
   exact ⟨by omega,b⟩
 | n,[],_ :: _,h=>by simp [eqFB] at h
 | n,_ :: _,[],h=>by simp [eqFB] at h
def kdB (P:Program) (t:TypeId) (i:Ty):Bool :=
 match i.kd,P.underlying t with
 | .bool,some .bool=>true
 | .int k,some (.int k')=>decide (k=k')
 | .str,some .string=>true
 | .slice,some (.slice e)=>Nat.beq e i.elem
 | .struct,some (.struct fs)=>fieldsB fs.toList i.fields && fs.toList.all fun f=>match P.info? f.type with | some inf=>!Nat.beq inf.size 0 | none=>false
 | .ptr,some (.pointer _)=>true
 | .func,some (.struct _) | .func,some (.array _ _) | .other,some (.struct _) | .other,some (.array _ _)=>false
 | .func,some _ | .other,some _=>true
 | _,_=>false
def tyB (P:Program) (t:TypeId) (i:Ty):Bool :=
 (match P.info? t with
  | some inf=>Nat.beq inf.size i.size && Nat.beq inf.bytes i.bytes && (match inf.zero with
   | some z=>avsB (z.cells.toList.map ofV) i.zero && Nat.beq z.cells.size i.size && z.cells.toList.all Value.oneCell'
   | none=>false)
  | none=>false) && kdB P t i && Nat.blt 0 i.size && Nat.blt 0 i.bytes && (i.kd.agg || Nat.beq i.size 1) && (match i.kd with | .struct=>true | _=>i.fields.isEmpty) &&
 (match i.eqk with
  | none=>true
  | some ks=>!P.stoodInHeld t && !P.eqGuardType P.depth t && (match P.underlying t with | some (.struct fs)=>eqFB P 0 fs.toList ks | _=>false))
theorem tyB_ok {P:Program} {t:TypeId} {i:Ty} (h:tyB P t i=true):TyOk P t i:=by
 unfold tyB at h
 simp only [Bool.and_eq_true] at h
 obtain ⟨⟨⟨⟨⟨⟨h1,h2⟩,h3⟩,h4⟩,h5⟩,h6⟩,h7⟩:=h
 refine { info:=?_,und:=?_,pos:=⟨by unfold Nat.blt at h3;exact Nat.le_of_ble_eq_true h3,by unfold Nat.blt at h4;exact Nat.le_of_ble_eq_true h4⟩,one:=fun hh=>?_,fieldsOnly:=fun hh=>?_,eqOk:=fun ks hk=>?_ }
 ·split at h1
  ·rename_i inf hinf
   simp only [Bool.and_eq_true] at h1
   obtain ⟨⟨q1,q2⟩,q3⟩:=h1
   split at q3
   ·rename_i z hz
    simp only [Bool.and_eq_true] at q3
    exact ⟨inf,z,hinf,Nat.eq_of_beq_eq_true q1,Nat.eq_of_beq_eq_true q2,hz,avsB_eq q3.1.1,Nat.eq_of_beq_eq_true q3.1.2,fun v hv=>List.all_eq_true.1 q3.2 v hv⟩
   ·cases q3
  ·cases h1
 ·unfold kdB at h2
  cases hk:i.kd <;> rw [hk] at h2 <;> cases hu:P.underlying t <;> rw [hu] at h2 <;> simp only at h2 ⊢ <;> first | (cases h2;done) | skip
  all_goals rename_i d
  all_goals cases d <;> simp only at h2 <;> first | (cases h2;done) | skip
  all_goals first
   | rfl
   | (rw [of_decide_eq_true h2];done)
   | (rw [Nat.eq_of_beq_eq_true h2];done)
   | exact ⟨_,rfl,rfl⟩
   | exact ⟨_,rfl⟩
   | skip
  rename_i fs
  rw [Bool.and_eq_true] at h2
  refine ⟨fs,rfl,fieldsB_eq h2.1,fun f hf=>?_⟩
  have:=List.all_eq_true.1 h2.2 f hf
  split at this
  ·rename_i inf hinf
   refine ⟨inf,hinf,fun e=>?_⟩
   rw [e] at this
   cases this
  ·cases this
 ·rw [hh,Bool.false_or] at h5
  exact Nat.eq_of_beq_eq_true h5
 ·cases hk:i.kd <;> rw [hk] at h6 hh <;> first | exact absurd rfl hh | exact List.isEmpty_iff.1 h6
 ·rw [hk] at h7
  simp only [Bool.and_eq_true,Bool.not_eq_true'] at h7
  obtain ⟨⟨q1,q2⟩,q3⟩:=h7
  split at q3
  ·rename_i fs hu
   obtain ⟨z1,z2⟩:=eqFB_ok q3
   exact { stood:=q1,guard:=q2,fields:=⟨fs,hu,by simpa using z1,fun j f k h1 h2=>by have:=z2 j f k h1 h2;simpa using this⟩ }
  ·cases q3
theorem tab_ok {P:Program} {l:List (Nat×Ty)} (h:l.all (fun p=>tyB P p.1 p.2)=true):∀ t i,tabGet l t=some i→TyOk P t i:=by
 induction l with
 | nil=>intro t i hi;cases hi
 | cons p r ih =>
  simp only [List.all_cons,Bool.and_eq_true] at h
  intro t i hi
  simp only [tabGet] at hi
  cases hb:Nat.beq p.1 t with
  | true =>
   rw [hb] at hi
   simp only [cond_true,Option.some.injEq] at hi
   rw [← Nat.eq_of_beq_eq_true hb,← hi]
   exact tyB_ok h.1
  | false=>rw [hb] at hi;exact ih h.2 t i hi
def fnB (C:Cfg) (f:Nat) (fn:Func):Bool :=
 match fn.body with
 | some c=>codeB (regB C f fn.ntmps) c && !(fn.name == "runtime.NumGoroutine")
 | none=>true
def fnsB (C:Cfg):Nat→List Func→Bool
 | _,[]=>true
 | n,fn :: r=>fnB C n fn && fnsB C (n+1) r
theorem fnsB_ok {C:Cfg}:∀ {n:Nat} {l:List Func},fnsB C n l=true→∀ (j:Nat) (fn:Func),l[j]?=some fn→fnB C (n+j) fn=true
 | n,[],_,j,fn,h=>by simp at h
 | n,g :: r,h,j,fn,hf=>by
  simp only [fnsB,Bool.and_eq_true] at h
  cases j with
  | zero=>simp at hf;subst hf;exact h.1
  | succ j =>
   have:=fnsB_ok h.2 j fn (by simpa using hf)
   rw [show n+1+j=n+(j+1) by omega] at this
   exact this
theorem Fit.of {C:Cfg} {P:Program} {tab:List (Nat×Ty)} (hC:C.ty=tabGet tab) (h1:tab.all (fun p=>tyB P p.1 p.2)=true) (h2:fnsB C 0 P.funcs.toList=true) (h3:P.follows .mixedOrders=true)
  (h4:∀ (f:Nat) (fn:Func),P.funcs[f]?=some fn→fn.body=none→(fn.name == "internal/bytealg.IndexByteString")=true→∀ (s:ByteArray) (c:Int) (w:World),(callFunc f #[.string s, .int .u8 c]).run P w=.ok (.value (.int .i64 (Lib.indexByte s.data.toList c.toNat.toUInt8))) w)
  (h5:∀ (g:Nat) (G:List AV→Option AV),C.gv g=some G→(C.own g).all Option.isNone=true→∀ (args:List AV) (r:AV),G args=some r→∀ (w:World) (F:Nat→Prop) (vs:Array Value),GlobOk C w F→vs.size=args.length →
   (∀ (j:Nat) (a:AV) (v:Value),args[j]?=some a→vs[j]?=some v→Rel w F a v)→CallRuns P g vs w (PostOk C g w F r):=by intro g G h;exact nomatch (show (none:Option (List AV→Option AV))=some G from h)):Fit C P:=by
 have hf:∀ (f:Nat) (fn:Func) (c:Code),P.funcs[f]?=some fn→fn.body=some c→codeB (regB C f fn.ntmps) c=true∧(fn.name == "runtime.NumGoroutine")=false:=by
  intro f fn c hfn hb
  have:=fnsB_ok h2 f fn (by rw [Array.getElem?_toList];exact hfn)
  rw [Nat.zero_add] at this
  unfold fnB at this
  rw [hb] at this
  simp only [Bool.and_eq_true,Bool.not_eq_true'] at this
  exact this
 exact { ty:=fun t i hi=>tab_ok h1 t i (by rw [← hC];exact hi),code:=fun f fn c h1 h2=>(hf f fn c h1 h2).1,mixed:=h3,name:=fun f fn c h1 h2=>(hf f fn c h1 h2).2,gv:=h5,ext:=h4 }
def idxB (n:Nat):Nat→List Func→Bool
 | _,[]=>true
 | m,fn :: r=>(fn.body.isSome || !(fn.name == "internal/bytealg.IndexByteString") || Nat.beq m n) && idxB n (m+1) r
theorem idxB_ok {n:Nat}:∀ {m:Nat} {l:List Func},idxB n m l=true→∀ (j:Nat) (fn:Func),l[j]?=some fn→fn.body=none→(fn.name == "internal/bytealg.IndexByteString")=true→m+j=n
 | m,[],_,j,fn,h,_,_=>by simp at h
 | m,g :: r,h,j,fn,hf,hb,hn=>by
  simp only [idxB,Bool.and_eq_true] at h
  cases j with
  | zero =>
   simp at hf
   subst hf
   have:=h.1
   rw [hb,hn] at this
   simp only [Option.isSome_none,Bool.not_true,Bool.or_self,Bool.false_or] at this
   exact Nat.eq_of_beq_eq_true this
  | succ j =>
   have:=idxB_ok h.2 j fn (by simpa using hf) hb hn
   omega
theorem ext_of {P:Program} {n:Nat} (hall:idxB n 0 P.funcs.toList=true) (hrun:∀ (s:ByteArray) (c:Int) (w:World),(callFunc n #[.string s, .int .u8 c]).run P w=.ok (.value (.int .i64 (Lib.indexByte s.data.toList c.toNat.toUInt8))) w) :
  ∀ (f:Nat) (fn:Func),P.funcs[f]?=some fn→fn.body=none→(fn.name == "internal/bytealg.IndexByteString")=true→∀ (s:ByteArray) (c:Int) (w:World),(callFunc f #[.string s, .int .u8 c]).run P w=.ok (.value (.int .i64 (Lib.indexByte s.data.toList c.toNat.toUInt8))) w:=by
 intro f fn hfn hb hn
 have:=idxB_ok hall f fn (by rw [Array.getElem?_toList];exact hfn) hb hn
 rw [Nat.zero_add] at this
 rw [this]
 exact hrun
theorem run_idx {P:Program} {n:Nat} {fn:Func} (h1:P.funcs[n]?=some fn) (h2:(fn.name == "runtime.NumGoroutine")=false) (h3:fn.body=none) (h4:(Extern.findNext fn).isNone=true) (h5:Extern.find fn=some Extern.BytealgIndexByte.indexByte) (s:ByteArray) (c:Int) (w:World) :
  (callFunc n #[.string s, .int .u8 c]).run P w=.ok (.value (.int .i64 (Lib.indexByte s.data.toList c.toNat.toUInt8))) w:=by
 have h2':¬ fn.name = "runtime.NumGoroutine" := by simpa using h2
 have h4':Extern.findNext fn=none:=by simpa using h4
 simp [callFunc,h1,h2',h3,h4',h5,Lib.run_indexByteString]
end Sx

namespace Sx
open Go Go.RowKit
theorem calls_true {C:Cfg} {P:Program} (hfit:Fit C P) {g:Nat} {fn:Func} {c:Code} (hfn:P.funcs[g]?=some fn) (hb:fn.body=some c) (ho:(C.own g).all Option.isNone=true) (hs:C.sig g=none) {args:List AV} {b:Bool} (h:semCall C P g args=some (.b b))
  (w:World) (F:Nat→Prop) (vs:Array Value) (hG:GlobOk C w F) (hl:vs.size=args.length) (hv:∀ (j:Nat) (a:AV) (v:Value),args[j]?=some a→vs[j]?=some v→Rel w F a v) :
  Calls P g vs w (fun e w'=>e=.returned (.bool b)∧Below w.heap.size w w'):=by
 have hname:=hfit.name g fn c hfn hb
 rcases (semCall_ok hfit).1 g args _ h hs w F vs hG hl hv with ⟨fn',c',_,_,_,hc⟩ | ⟨v,hv',_⟩
 ·refine Calls.mono hc fun e w' he=>?_
  obtain ⟨v,rfl,hx,hr⟩:=he
  unfold ResOk at hr
  rw [if_pos ho] at hr
  cases hr
  exact ⟨rfl,⟨hx.os,hx.tape,hx.output,hx.size,hx.block⟩⟩
 ·exfalso
  have hname':¬ fn.name = "runtime.NumGoroutine" := by simpa using hname
  simp [callFunc,hfn,hb,hname'] at hv'
end Sx

namespace Sx
open Go
variable {C:Cfg} {P:Program}
end Sx

namespace Sx
open Go
section cond
variable {R:Type}
@[simp] theorem condM_b (x:Bool) (A B:Option R):condM (.b x) A B=if x=true then A else B:=by cases x <;> rfl
@[simp] theorem selW_tt (b:Bool) (A:AV):selW (.b true) true (some (.b b)) A=some (.b b):=rfl
@[simp] theorem selW_tf (A:Option AV) (b:Bool):selW (.b false) true A (.b b)=some (.b b):=rfl
@[simp] theorem selW_ff (b:Bool) (A:AV):selW (.b false) false (some (.b b)) A=some (.b b):=rfl
@[simp] theorem selW_ft (A:Option AV) (b:Bool):selW (.b true) false A (.b b)=some (.b b):=rfl
@[simp] theorem selW_and (x y:Bool):selW (.b x) true (some (.b y)) (.b false)=some (.b (x && y)):=by cases x <;> rfl
@[simp] theorem selW_or (x y:Bool):selW (.b x) false (some (.b y)) (.b true)=some (.b (x || y)):=by cases x <;> rfl
end cond
section one
@[simp] theorem one_u8 (x:UInt8):AV.one (.u8 x)=some (.u8 x):=rfl
@[simp] theorem one_b (x:Bool):AV.one (.b x)=some (.b x):=rfl
@[simp] theorem one_int (x:Int):AV.one (.int x)=some (.int x):=rfl
@[simp] theorem one_ik (k:IntKind) (x:Int):AV.one (.ik k x)=some (.ik k x):=rfl
@[simp] theorem one_s (x:List UInt8):AV.one (.s x)=some (.s x):=rfl
@[simp] theorem one_nils:AV.one .nils=some .nils:=rfl
@[simp] theorem one_ro (k:Nat) (l:List AV):AV.one (.ro k l)=some (.ro k l):=rfl
@[simp] theorem cell_u8 (x:UInt8):AV.cell (.u8 x) 0=.u8 x:=rfl
@[simp] theorem cell_b (x:Bool):AV.cell (.b x) 0=.b x:=rfl
@[simp] theorem cell_int (x:Int):AV.cell (.int x) 0=.int x:=rfl
@[simp] theorem cell_ik (k:IntKind) (x:Int):AV.cell (.ik k x) 0=.ik k x:=rfl
@[simp] theorem cell_s (x:List UInt8):AV.cell (.s x) 0=.s x:=rfl
@[simp] theorem cell_ro (k:Nat) (l:List AV):AV.cell (.ro k l) 0=.ro k l:=rfl
@[simp] theorem cell_nils:AV.cell .nils 0=.nils:=rfl
@[simp] theorem cell_ag (l:List AV) (j:Nat):AV.cell (.ag l) j=l.getD j .un:=by cases j <;> rfl
end one
section num
theorem u8_lt (x:UInt8):x.toNat < 256:=x.toNat_lt
theorem ofI_u8 {n:Nat} (h:n < 256):AV.ofI .u8 (n:Int)=some (.u8 (UInt8.ofNat n)):=by
 unfold AV.ofI
 rw [if_pos ⟨by omega,by omega⟩]
 simp
@[simp] theorem ofI_int (n:Int):AV.ofI .i64 n=some (.int n):=rfl
@[simp] theorem u8_eql (x y:UInt8):binI .eql (.u8 x) (.u8 y)=some (.b (x == y)):=by
 show some (AV.b ((x.toNat:Int) == (y.toNat:Int)))=_
 congr 2
 rw [Bool.eq_iff_iff]
 simp only [beq_iff_eq,Int.ofNat_inj]
 exact ⟨fun h=>UInt8.toNat_inj.1 h,fun h=>by rw [h]⟩
@[simp] theorem u8_neq (x y:UInt8):binI .neq (.u8 x) (.u8 y)=some (.b (x != y)):=by
 show some (AV.b ((x.toNat:Int) != (y.toNat:Int)))=_
 congr 2
 rw [Bool.eq_iff_iff]
 simp only [bne_iff_ne,ne_eq,Int.ofNat_inj]
 exact ⟨fun h e=>h (by rw [e]),fun h e=>h (UInt8.toNat_inj.1 e)⟩
@[simp] theorem u8_lss (x y:UInt8):binI .lss (.u8 x) (.u8 y)=some (.b (decide (x < y))):=by
 show some (AV.b (decide ((x.toNat:Int) < (y.toNat:Int))))=_
 congr 2
 rw [decide_eq_decide,UInt8.lt_iff_toNat_lt];omega
@[simp] theorem u8_leq (x y:UInt8):binI .leq (.u8 x) (.u8 y)=some (.b (decide (x≤y))):=by
 show some (AV.b (decide ((x.toNat:Int)≤(y.toNat:Int))))=_
 congr 2
 rw [decide_eq_decide,UInt8.le_iff_toNat_le];omega
@[simp] theorem u8_gtr (x y:UInt8):binI .gtr (.u8 x) (.u8 y)=some (.b (decide (y < x))):=by
 show some (AV.b (decide ((x.toNat:Int) > (y.toNat:Int))))=_
 congr 2
 rw [decide_eq_decide,UInt8.lt_iff_toNat_lt];omega
@[simp] theorem u8_geq (x y:UInt8):binI .geq (.u8 x) (.u8 y)=some (.b (decide (y≤x))):=by
 show some (AV.b (decide ((x.toNat:Int) ≥ (y.toNat:Int))))=_
 congr 2
 rw [decide_eq_decide,UInt8.le_iff_toNat_le];omega
@[simp] theorem ik_eql (k:IntKind) (x y:Int):binI .eql (.ik k x) (.ik k y)=some (.b (x == y)):=by
 show (if k=k then intOp .eql k x y else none)=_
 rw [if_pos rfl];rfl
@[simp] theorem int_eql (x y:Int):binI .eql (.int x) (.int y)=some (.b (x == y)):=rfl
@[simp] theorem int_neq (x y:Int):binI .neq (.int x) (.int y)=some (.b (x != y)):=rfl
@[simp] theorem int_lss (x y:Int):binI .lss (.int x) (.int y)=some (.b (decide (x < y))):=rfl
@[simp] theorem int_leq (x y:Int):binI .leq (.int x) (.int y)=some (.b (decide (x≤y))):=rfl
@[simp] theorem int_gtr (x y:Int):binI .gtr (.int x) (.int y)=some (.b (decide (y < x))):=rfl
@[simp] theorem int_geq (x y:Int):binI .geq (.int x) (.int y)=some (.b (decide (y≤x))):=rfl
theorem wrap_i64 {n:Int} (h1:-9223372036854775808≤n) (h2:n < 9223372036854775808):IntKind.i64.wrap n=n:=by
 simp only [IntKind.wrap,IntKind.bits,IntKind.signed,Bool.true_and]
 split <;> rename_i h <;> simp only [decide_eq_true_eq,ge_iff_le] at h <;> omega
theorem int_add {x y:Int} (h1:-9223372036854775808≤x+y) (h2:x+y < 9223372036854775808):binI .add (.int x) (.int y)=some (.int (x+y)):=by
 show some (AV.int (IntKind.i64.wrap (x+y)))=_
 rw [wrap_i64 h1 h2]
theorem int_sub {x y:Int} (h1:-9223372036854775808≤x - y) (h2:x - y < 9223372036854775808):binI .sub (.int x) (.int y)=some (.int (x - y)):=by
 show some (AV.int (IntKind.i64.wrap (x - y)))=_
 rw [wrap_i64 h1 h2]
@[simp] theorem conv_int_u8 (x:UInt8):conv .i64 (.u8 x)=some (.int x.toNat):=by
 show some (AV.int (IntKind.i64.wrap (x.toNat:Int)))=_
 have:=u8_lt x
 rw [wrap_i64 (by omega) (by omega)]
theorem wrap_u8 {n:Int} (h1:0≤n) (h2:n < 256):IntKind.u8.wrap n=n:=by
 simp only [IntKind.wrap,IntKind.bits,IntKind.signed,Bool.false_and,Bool.false_eq_true,if_false]
 omega
@[simp] theorem conv_u8_u8 (x:UInt8):conv .u8 (.u8 x)=some (.u8 x):=by
 have:=u8_lt x
 unfold conv
 simp only [AV.toI,Option.bind_some]
 rw [wrap_u8 (by omega) (by omega),ofI_u8 this,UInt8.ofNat_toNat]
@[simp] theorem unop_not (x:Bool):unop .not (.b x)=some (.b (!x)):=rfl
end num
section strs
@[simp] theorem s_eql (p q:List UInt8):binS .eql (.s p) (.s q)=some (.b (p == q)):=rfl
@[simp] theorem s_neq (p q:List UInt8):binS .neq (.s p) (.s q)=some (.b (p != q)):=rfl
theorem s_add {p q:List UInt8} (h:p.length+q.length≤big):binS .add (.s p) (.s q)=some (.s (p ++ q)):=by
 show (if p.length+q.length≤big then some (AV.s (p ++ q)) else none)=_
 rw [if_pos h]
@[simp] theorem b_eql (p q:Bool):binB .eql (.b p) (.b q)=some (.b (p == q)):=rfl
@[simp] theorem b_neq (p q:Bool):binB .neq (.b p) (.b q)=some (.b (p != q)):=rfl
@[simp] theorem lenS_s (l:List UInt8):lenS (.s l)=some (.int l.length):=rfl
@[simp] theorem lenR_ro (k:Nat) (l:List AV):lenR (.ro k l)=some (.int l.length):=rfl
@[simp] theorem lenR_nils:lenR .nils=some (.int 0):=rfl
theorem inN_int {n i:Nat} (h:i < n):inN n (.int (i:Int))=some i:=by
 show (if 0≤(i:Int)∧(i:Int) < (n:Int) then some (i:Int).toNat else none)=_
 rw [if_pos ⟨by omega,by omega⟩];simp
theorem upN_int {n i:Nat} (h:i≤n):upN n (.int (i:Int))=some i:=by
 show (if 0≤(i:Int)∧(i:Int)≤(n:Int) then some (i:Int).toNat else none)=_
 rw [if_pos ⟨by omega,by omega⟩];simp
theorem idxS_int {l:List UInt8} {i:Nat} (h:i < l.length):idxS (.s l) (.int (i:Int))=some (.u8 l[i]):=by
 show ((inN l.length (.int (i:Int))).bind fun n=>some (AV.u8 (l.getD n 0)))=_
 rw [inN_int h]
 simp [h]
end strs
end Sx

namespace Sx
open Go
theorem idxS_at (p:List UInt8) (c:UInt8) (r:List UInt8):idxS (.s (p ++ c :: r)) (.int (p.length:Int))=some (.u8 c):=by
 rw [idxS_int (by simp)];simp
end Sx
namespace Sx
end Sx

namespace Sx
open Go
def ueq (x y:UInt8):Bool:=(x.toNat:Int) == (y.toNat:Int)
def w64 (n:Int):Int:=IntKind.i64.wrap n
@[simp] theorem ueq_eq (x y:UInt8):ueq x y=(x == y):=by
 have:=u8_eql x y
 have h:binI .eql (.u8 x) (.u8 y)=some (.b (ueq x y)):=rfl
 rw [h] at this;simpa using this
theorem w64_eq {n:Int} (h1:-9223372036854775808≤n) (h2:n < 9223372036854775808):w64 n=n:=wrap_i64 h1 h2
@[simp] theorem w64_u8 (x:UInt8):w64 (x.toNat:Int)=x.toNat:=by have:=u8_lt x;exact w64_eq (by omega) (by omega)
end Sx
namespace Sx
open Go
end Sx

namespace Sx
open Go Go.RowKit Go.WideShapes
inductive Lf where
 | b | u8 | int | ik (k:IntKind) | s | sl (agg:Bool) (ls:List Lf)
inductive Is:Lf→AV→Prop
 | b (x:Bool):Is .b (.b x)
 | u8 (x:UInt8):Is .u8 (.u8 x)
 | int (n:Int) (h:(Lit.int .i64 n).wf=true):Is .int (.int n)
 | ik (k:IntKind) (n:Int) (h:(Lit.int k n).wf=true):Is (.ik k) (.ik k n)
 | s (l:List UInt8) (h:l.length≤maxLen):Is .s (.s l)
 | sl1 (lf:Lf) (l:List AV) (h:∀ x ∈ l,Is lf x) (hm:l.length≤maxLen):Is (.sl false [lf]) (.ro 1 l)
 | slA (ls:List Lf) (ms:List (List AV)) (hl:∀ m ∈ ms,m.length=ls.length) (h:∀ m ∈ ms,∀ (j:Nat) (a:Lf) (x:AV),ls[j]?=some a→m[j]?=some x→Is a x) (hm:ms.length≤maxLen):Is (.sl true ls) (.ro ls.length (ms.map .ag))
mutual
def wt:AV→Nat
 | .s l=>l.length+1
 | .ro _ l=>wts l+1
 | .ag l=>wts l
 | _=>1
def wts:List AV→Nat
 | []=>0
 | x :: r=>wt x+wts r
end
mutual
def bulk {H:Type}:DataW H→Nat
 | .lit (.string bytes)=>bytes.length+1
 | .lit _=>1
 | .nil=>1
 | .ptr d=>bulk d+1
 | .slice elems spare=>bulkAll elems+bulkAll spare+1
 | .agg parts=>bulkAll parts+1
 | .iface _ d=>bulk d+1
 | .map entries=>bulkEntries entries+1
 | .held _=>1
def bulkAll {H:Type}:List (DataW H)→Nat
 | []=>0
 | d :: r=>bulk d+bulkAll r
def bulkEntries {H:Type}:List (Lit×DataW H)→Nat
 | []=>0
 | x :: r=>bulkEntry x+bulkEntries r
def bulkEntry {H:Type}:Lit×DataW H→Nat
 | (.string bytes,d)=>bytes.length+bulk d+1
 | (_,d)=>bulk d+1
end
theorem wts_append (l m:List AV):wts (l ++ m)=wts l+wts m:=by
 induction l with
 | nil=>simp [wts]
 | cons x r ih=>simp only [List.cons_append,wts,ih];omega
section leaves
variable (P:Program)
def isSt (t:TypeId):Bool:=match P.underlying t with | some (.struct _)=>true | _=>false
mutual
def leaves:Nat→TypeId→Option (List Lf)
 | 0,_=>none
 | n+1,t=>match P.underlying t with
  | some .bool=>some [.b]
  | some (.int k)=>match k with
   | .u8=>some [.u8]
   | .i64=>some [.int]
   | k=>some [.ik k]
  | some .string=>some [.s]
  | some (.slice e)=>(leaves n e).bind fun ls=>bif Nat.beq ls.length (P.cellsOf e) && Nat.blt 0 ls.length && (isSt P e || Nat.beq ls.length 1) then some [.sl (isSt P e) ls] else none
  | some (.struct fs)=>(leavesF n fs.toList 0).bind fun ls=>bif Nat.beq ls.length (P.cellsOf t) then some ls else none
  | _=>none
def leavesF:Nat→List Field→Nat→Option (List Lf)
 | 0,_,_=>none
 | _+1,[],_=>some []
 | n+1,f :: r,off=>(leaves n f.type).bind fun ls=>bif Nat.beq f.offset off && Nat.beq ls.length (P.cellsOf f.type) then (leavesF n r (off+ls.length)).map (ls ++ ·) else none
end
end leaves
structure Opened (w:World) (ls:List Lf) (cs:List Value) (as:List AV):Prop where
 len1:as.length=ls.length
 len2:cs.length=ls.length
 one:∀ v ∈ cs,v.oneCell'=true
 rel:∀ (j:Nat) (v:Value),cs[j]?=some v→Rel w (fun _=>True) (as.getD j .un) v
 is:∀ (j:Nat) (lf:Lf) (a:AV),ls[j]?=some lf→as[j]?=some a→Is lf a
theorem Opened.nil (w:World):Opened w [] [] []:=⟨rfl,rfl,fun v h=>(by cases h),fun j v h=>(by simp at h),fun j lf a h=>(by simp at h)⟩
theorem Opened.single {w:World} {lf:Lf} {v:Value} {a:AV} (h1:v.oneCell'=true) (h2:Rel w (fun _=>True) a v) (h3:Is lf a):Opened w [lf] [v] [a]:=by
 refine ⟨rfl,rfl,fun u h=>?_,fun j u h=>?_,fun j l x hl hx=>?_⟩
 ·simp at h;subst h;exact h1
 ·cases j with
  | zero=>simp at h;subst h;exact h2
  | succ j=>simp at h
 ·cases j with
  | zero=>simp at hl hx;subst hl;subst hx;exact h3
  | succ j=>simp at hl
theorem Opened.append {w:World} {ls ls':List Lf} {cs cs':List Value} {as as':List AV} (h:Opened w ls cs as) (h':Opened w ls' cs' as'):Opened w (ls ++ ls') (cs ++ cs') (as ++ as'):=by
 have e1:=h.len1;have e2:=h.len2
 refine ⟨by simp [h.len1,h'.len1],by simp [h.len2,h'.len2],fun v hv=>?_,fun j v hv=>?_,fun j lf a hl ha=>?_⟩
 ·rcases List.mem_append.1 hv with hv | hv
  ·exact h.one v hv
  ·exact h'.one v hv
 ·by_cases hj:j < cs.length
  ·rw [List.getElem?_append_left hj] at hv
   have:=h.rel j v hv
   rwa [List.getD_eq_getElem?_getD,List.getElem?_append_left (by omega),← List.getD_eq_getElem?_getD]
  ·rw [List.getElem?_append_right (by omega)] at hv
   have:=h'.rel _ v hv
   rwa [List.getD_eq_getElem?_getD,List.getElem?_append_right (by omega),show j - as.length=j - cs.length by omega,← List.getD_eq_getElem?_getD]
 ·by_cases hj:j < ls.length
  ·rw [List.getElem?_append_left hj] at hl
   rw [List.getElem?_append_left (by omega)] at ha
   exact h.is j lf a hl ha
  ·rw [List.getElem?_append_right (by omega)] at hl
   rw [List.getElem?_append_right (by omega),show j - as.length=j - ls.length by omega] at ha
   exact h'.is _ lf a hl ha
theorem cells?_get {w:World} {base:Nat} {a:Addr} {n:Nat} {cs:List Value} (h:w.cells? base a n=some cs):cs.length=n∧∀ (j:Nat) (v:Value),cs[j]?=some v→w.cell? (a.add j)=some v:=by
 unfold World.cells? at h
 split at h
 ·have hl:=mapM_some_length h
  simp at hl
  refine ⟨hl,fun j v hv=>?_⟩
  have hj:j < n:=by have:=(List.getElem?_eq_some_iff.1 hv).1;omega
  have:=mapM_some_get h j j (by simp [hj])
  rw [this,hv]
 ·cases h
theorem exists_list {α:Type} {p:Nat→α→Prop}:∀ n:Nat,(∀ i,i < n→∃ a,p i a)→∃ L:List α,L.length=n∧∀ i a,L[i]?=some a→p i a
 | 0,_=>⟨[],rfl,fun i a h=>(by simp at h)⟩
 | n+1,h=>by
  obtain ⟨L,hl,hL⟩:=exists_list n (fun i hi=>h i (by omega))
  obtain ⟨a,ha⟩:=h n (by omega)
  refine ⟨L ++ [a],by simp [hl],fun i x hx=>?_⟩
  by_cases hi:i < L.length
  ·rw [List.getElem?_append_left hi] at hx;exact hL i x hx
  ·rw [List.getElem?_append_right (by omega)] at hx
   have hi0:i - L.length=0:=by
    have:=(List.getElem?_eq_some_iff.1 hx).1
    simp at this;omega
   rw [hi0] at hx
   simp at hx
   rw [← hx,show i=n by omega]
   exact ha
theorem bulks_le {H:Type}:∀ {L:List (List AV)} {ds:List (DataW H)},L.length=ds.length→(∀ (i:Nat) (as:List AV) (d:DataW H),L[i]?=some as→ds[i]?=some d→wts as≤bulk d)→wts (L.map .ag)≤bulkAll ds
 | [],[],_,_=>Nat.le_refl _
 | as :: L,d :: ds,hl,h=>by
  have h0:=h 0 as d rfl rfl
  have:=bulks_le (L:=L) (ds:=ds) (by simpa using hl) (fun i a x h1 h2=>h (i+1) a x (by simpa using h1) (by simpa using h2))
  simp only [List.map_cons,wts,wt,bulkAll]
  omega
 | [],_ :: _,hl,_=>by simp at hl
 | _ :: _,[],hl,_=>by simp at hl
theorem bulks_le1 {H:Type}:∀ {L:List (List AV)} {ds:List (DataW H)},L.length=ds.length→(∀ (i:Nat) (as:List AV) (d:DataW H),L[i]?=some as→ds[i]?=some d→wts as≤bulk d∧as.length=1)→wts (L.map (·.getD 0 .un))≤bulkAll ds
 | [],[],_,_=>Nat.le_refl _
 | as :: L,d :: ds,hl,h=>by
  obtain ⟨h0,h1⟩:=h 0 as d rfl rfl
  have:=bulks_le1 (L:=L) (ds:=ds) (by simpa using hl) (fun i a x h1 h2=>h (i+1) a x (by simpa using h1) (by simpa using h2))
  cases as with
  | nil=>simp at h1
  | cons x r =>
   have:r=[]:=List.eq_nil_of_length_eq_zero (by simpa using h1)
   subst this
   simp only [wts] at h0
   simp only [List.map_cons,wts,bulkAll,List.getD_cons_zero]
   omega
 | [],_ :: _,hl,_=>by simp at hl
 | _ :: _,[],hl,_=>by simp at hl
theorem Is.notAg {lf:Lf} {a:AV} (h:Is lf a):∀ j,j < 1→a.cell j=a:=by
 intro j hj
 obtain rfl:j=0:=by omega
 cases h <;> rfl
section opening
variable {H:Type} {enc:TypeId×Value→H} {P:Program} {w:World} {base:Nat} {spare:Nat→Bool} {held:Bool}
theorem open_leaves:∀ n:Nat,(∀ (t:TypeId) (ls:List Lf) (fuel:Nat) (cs:List Value) (x:DataW H×List MemPlace),leaves P n t=some ls→DataW.trod enc P w base spare held fuel t cs=some x→∃ as,Opened w ls cs as∧wts as≤bulk x.1) ∧
  (∀ (fs:List Field) (off:Nat) (ls:List Lf) (fuel:Nat) (cs:List Value) (xs:List (DataW H×List MemPlace)),leavesF P n fs off=some ls→xs.length=fs.length→cs.length=off+ls.length →
   (∀ (i:Nat) (f:Field),fs[i]?=some f→DataW.trod enc P w base spare held fuel f.type ((cs.drop f.offset).take (P.cellsOf f.type))=xs[i]?)→∃ as,Opened w ls (cs.drop off) as∧wts as≤bulkAll (xs.map (·.1)))
 | 0=>⟨fun t ls fuel cs x h=>(by simp [leaves] at h),fun fs off ls fuel cs xs h=>(by simp [leavesF] at h)⟩
 | n+1=>by
  obtain ⟨ih1,ih2⟩:=open_leaves n
  refine ⟨fun t ls fuel cs x h ht=>?_,fun fs off ls fuel cs xs h hl hc hx=>?_⟩
  ·simp only [leaves] at h
   cases hu:P.underlying t with
   | none=>rw [hu] at h;cases h
   | some d =>
    rw [hu] at h
    cases d <;> simp only at h <;> try (cases h;done)
    case bool =>
     cases h
     obtain ⟨b,rfl,rfl⟩:=DataW.trod_bool hu ht
     exact ⟨[.b b],Opened.single rfl (.b b) (.b b),Nat.le_refl _⟩
    case int k =>
     obtain ⟨m,rfl,rfl,hw⟩:=DataW.trod_int hu ht
     cases k <;> simp only at h <;> cases h <;> first
      | exact ⟨[.int m],Opened.single rfl (.int m) (.int m hw),Nat.le_refl _⟩
      | exact ⟨[.ik _ m],Opened.single rfl (.ik _ m) (.ik _ m hw),Nat.le_refl _⟩
      | skip
     have hb:0≤m∧m < 256:=by
      simp only [Lit.wf,Bool.and_eq_true,decide_eq_true_eq] at hw
      have h1:IntKind.u8.min=0:=rfl
      have h2:IntKind.u8.max=255:=rfl
      omega
     refine ⟨[.u8 (UInt8.ofNat m.toNat)],Opened.single rfl ?_ (.u8 _),Nat.le_refl _⟩
     have:=Rel.u8 (w:=w) (F:=fun _=>True) (UInt8.ofNat m.toNat)
     rw [UInt8.toNat_ofNat_of_lt' (by show m.toNat < 256;omega)] at this
     rwa [show ((m.toNat:Nat):Int)=m by omega] at this
    case string =>
     cases h
     obtain ⟨s,rfl,rfl,hs⟩:=DataW.trod_string hu ht
     exact ⟨[.s s.data.toList],Opened.single rfl (.s s) (.s _ (by simpa using hs)),Nat.le_refl _⟩
    case slice e =>
     obtain ⟨ls',hls,h⟩:=Option.bind_eq_some_iff.1 h
     cases hb:(Nat.beq ls'.length (P.cellsOf e) && Nat.blt 0 ls'.length && (isSt P e || Nat.beq ls'.length 1)) with
     | false=>rw [hb] at h;cases h
     | true =>
      rw [hb] at h
      simp only [cond_true,Option.some.injEq] at h
      subst h
      simp only [Bool.and_eq_true,Bool.or_eq_true] at hb
      obtain ⟨⟨b1,b2⟩,b3⟩:=hb
      have b1:=Nat.eq_of_beq_eq_true b1
      have b2:0 < ls'.length:=by simpa [Nat.blt_eq] using b2
      rcases DataW.trod_slice hu ht with ⟨rfl,rfl⟩ | ⟨a,len,cap,elems,rest,m,rfl,rfl,rfl,_,hlc,hcm,hel,hget,_,_⟩
      ·cases hst:isSt P e with
       | true=>exact ⟨[.ro ls'.length []],Opened.single rfl (.ro0 _ none 0) (.slA ls' [] (fun _ h=>by cases h) (fun _ h=>by cases h) (Nat.zero_le _)),Nat.le_refl _⟩
       | false =>
        rw [hst] at b3
        have b4:ls'.length=1:=by
         rcases b3 with h | h
         ·cases h
         ·exact Nat.eq_of_beq_eq_true h
        obtain ⟨lf,rfl⟩:∃ lf,ls'=[lf]:=by
         cases ls' with
         | nil=>simp at b4
         | cons lf r=>exact ⟨lf,by rw [List.eq_nil_of_length_eq_zero (l:=r) (by simpa using b4)]⟩
        exact ⟨[.ro 1 []],Opened.single rfl (.ro0 _ none 0) (.sl1 lf [] (fun _ h=>by cases h) (Nat.zero_le _)),Nat.le_refl _⟩
      ·
       have hel':∀ i,i < len→∃ as,∃ (cs:List Value) (d:DataW H),w.cells? base (a.add (i * P.cellsOf e)) (P.cellsOf e)=some cs∧(elems.map (·.1))[i]?=some d∧Opened w ls' cs as∧wts as≤bulk d:=by
        intro i hi
        have h1:=hget i hi
        have h2:elems[i]?=some elems[i]:=List.getElem?_eq_getElem (by omega)
        rw [h2] at h1
        obtain ⟨cs,hcs,htr⟩:=Option.bind_eq_some_iff.1 h1
        obtain ⟨as,ho,hle⟩:=ih1 e ls' m cs _ hls htr
        exact ⟨as,cs,_,hcs,by simp [h2],ho,hle⟩
       obtain ⟨L,hL,hp⟩:=exists_list len hel'
       have hLe:L.length=(elems.map (·.1)).length:=by simp;omega
       have hAll:∀ (i:Nat) (as:List AV),L[i]?=some as→as.length=ls'.length∧∀ d,(elems.map (·.1))[i]?=some d→wts as≤bulk d:=by
        intro i as hi
        obtain ⟨cs,d,_,hd,ho,hle⟩:=hp i as hi
        exact ⟨ho.len1,fun d' hd'=>by rw [hd] at hd';cases hd';exact hle⟩
       have key:∀ (F:List AV→AV),(∀ (i:Nat) (as:List AV) (j:Nat),L[i]?=some as→j < ls'.length→(F as).cell j=as.getD j .un)→Rel w (fun _=>True) (.ro ls'.length (L.map F)) (.slice (some a) len cap):=by
        intro F hF
        by_cases h0:len=0
        ·subst h0
         rw [List.eq_nil_of_length_eq_zero hL]
         exact .ro0 _ _ _
        ·have hsp:a.spot=none:=by
          obtain ⟨as,cs,d,hcs,hd,ho,hle⟩:=hel' 0 (by omega)
          obtain ⟨hcl,hcg⟩:=cells?_get hcs
          have h1:cs[0]?=some cs[0]:=List.getElem?_eq_getElem (by omega)
          have h2:=hcg 0 _ h1
          have:=World.cell?_spot h2
          simpa [Addr.add] using this
         obtain ⟨r,off,sp⟩:=a
         simp only at hsp
         subst hsp
         have hcell:∀ i j,i < len→j < ls'.length→∃ (as:List AV) (v:Value),L[i]?=some as∧w.cell? ⟨r,off+(i * ls'.length+j),none⟩=some v∧v.oneCell'=true∧Rel w (fun _=>True) (as.getD j .un) v:=by
          intro i j hi hj
          have hi':L[i]?=some L[i]:=List.getElem?_eq_getElem (by omega)
          obtain ⟨cs,d,hcs,hd,ho,hle⟩:=hp i _ hi'
          obtain ⟨hcl,hcg⟩:=cells?_get hcs
          have h1:cs[j]?=some cs[j]:=List.getElem?_eq_getElem (by omega)
          refine ⟨_,_,hi',?_,ho.one _ (List.getElem_mem (by omega)),ho.rel j _ h1⟩
          have h2:=hcg j _ h1
          rw [add_plain,add_plain,← b1] at h2
          rw [← Nat.add_assoc]
          exact h2
         have:=Rel.ro (w:=w) (F:=fun _=>True) ls'.length (L.map F) r off cap ((List.range (len * ls'.length)).map fun m=>(w.cell? ⟨r,off+m,none⟩).getD undef) b2 (by simp;omega) trivial (by simp [hL]) ?_ ?_ ?_
         ·simpa [hL] using this
         ·intro j v hj
          have hlt:=(List.getElem?_eq_some_iff.1 hj).1
          simp only [List.length_map,List.length_range] at hlt
          simp only [List.getElem?_map,List.getElem?_range hlt,Option.map_some,Option.some.injEq] at hj
          have hq:j / ls'.length < len:=Nat.div_lt_of_lt_mul (by rw [Nat.mul_comm];exact hlt)
          have hr:=Nat.mod_lt j b2
          obtain ⟨as,u,_,hc,_,_⟩:=hcell _ _ hq hr
          rw [Nat.mul_comm,Nat.div_add_mod] at hc
          rw [hc] at hj ⊢
          simpa using hj
         ·intro v hv
          obtain ⟨j,hj,rfl⟩:=List.mem_map.1 hv
          have hlt:=List.mem_range.1 hj
          have hq:j / ls'.length < len:=Nat.div_lt_of_lt_mul (by rw [Nat.mul_comm];exact hlt)
          have hr:=Nat.mod_lt j b2
          obtain ⟨as,u,_,hc,h1,_⟩:=hcell _ _ hq hr
          rw [Nat.mul_comm,Nat.div_add_mod] at hc
          rw [hc]
          exact h1
         ·intro i j v hi hj hv
          simp only [List.length_map] at hi
          obtain ⟨as,u,hL',hc,h1,hrel⟩:=hcell i j (by omega) hj
          have hlt:=(List.getElem?_eq_some_iff.1 hv).1
          simp only [List.length_map,List.length_range] at hlt
          simp only [List.getElem?_map,List.getElem?_range hlt,Option.map_some,Option.some.injEq] at hv
          rw [hc] at hv
          simp only [Option.getD_some] at hv
          subst hv
          rw [show (L.map F).getD i .un=F as by simp [List.getD_eq_getElem?_getD,hL'],hF i as j hL' hj]
          exact hrel
       cases hst:isSt P e with
       | true =>
        refine ⟨[.ro ls'.length (L.map .ag)],Opened.single rfl (key .ag fun i as j _ _=>cell_ag as j) (.slA ls' L (fun m hm=>?_) (fun m hm j lf x hj hx=>?_) (by omega)),?_⟩
        ·obtain ⟨i,hi,rfl⟩:=List.getElem_of_mem hm
         exact (hAll i _ (List.getElem?_eq_getElem hi)).1
        ·obtain ⟨i,hi,rfl⟩:=List.getElem_of_mem hm
         obtain ⟨cs,d,_,_,ho,_⟩:=hp i _ (List.getElem?_eq_getElem hi)
         exact ho.is j lf x hj hx
        ·have:=bulks_le hLe (fun i as d h1 h2=>(hAll i as h1).2 d h2)
         simp only [wts,wt,bulk]
         omega
       | false =>
        rw [hst] at b3
        have b4:ls'.length=1:=by
         rcases b3 with h | h
         ·cases h
         ·exact Nat.eq_of_beq_eq_true h
        obtain ⟨lf,rfl⟩:∃ lf,ls'=[lf]:=by
         cases ls' with
         | nil=>simp at b4
         | cons lf r=>exact ⟨lf,by rw [List.eq_nil_of_length_eq_zero (l:=r) (by simpa using b4)]⟩
        have hIs:∀ (i:Nat) (as:List AV),L[i]?=some as→Is lf (as.getD 0 .un):=by
         intro i as hi
         obtain ⟨cs,d,_,_,ho,_⟩:=hp i as hi
         have hl:=ho.len1
         cases as with
         | nil=>simp at hl
         | cons x r=>exact ho.is 0 lf x rfl rfl
        refine ⟨[.ro 1 (L.map (·.getD 0 .un))],Opened.single rfl (key (·.getD 0 .un) fun i as j hi hj=>?_) (.sl1 lf _ (fun x hx=>?_) (by simp only [List.length_map];omega)),?_⟩
        ·have hj1:j < 1:=by simpa using hj
         rw [(hIs i as hi).notAg j hj1,show j=0 by omega]
        ·obtain ⟨as,has,rfl⟩:=List.mem_map.1 hx
         obtain ⟨i,hi,rfl⟩:=List.getElem_of_mem has
         exact hIs i _ (List.getElem?_eq_getElem hi)
        ·have:=bulks_le1 hLe (fun i as d h1 h2=>⟨(hAll i as h1).2 d h2,by simpa using (hAll i as h1).1⟩)
         simp only [wts,wt,bulk]
         omega
    case struct fs =>
     obtain ⟨ls',hls,h⟩:=Option.bind_eq_some_iff.1 h
     cases hb:Nat.beq ls'.length (P.cellsOf t) with
     | false=>rw [hb] at h;cases h
     | true =>
      rw [hb] at h
      simp only [cond_true,Option.some.injEq] at h
      subst h
      obtain ⟨xs,m,rfl,rfl,hcl,hxl,hget⟩:=DataW.trod_struct hu ht
      have:=Nat.eq_of_beq_eq_true hb
      obtain ⟨as,ho,hle⟩:=ih2 fs.toList 0 ls' m cs xs hls (by simpa using hxl) (by omega) (fun i f hf=>hget i f (by simpa using hf))
      refine ⟨as,by simpa using ho,?_⟩
      simp only [bulk]
      omega
  ·cases fs with
   | nil =>
    simp only [leavesF,Option.some.injEq] at h
    subst h
    obtain rfl:xs=[]:=List.eq_nil_of_length_eq_zero (by simpa using hl)
    refine ⟨[],?_,Nat.le_refl _⟩
    rw [List.drop_eq_nil_of_le (by simp at hc;omega)]
    exact Opened.nil w
   | cons f r =>
    cases xs with
    | nil=>simp at hl
    | cons x xs =>
     simp only [leavesF] at h
     obtain ⟨ls',hls,h⟩:=Option.bind_eq_some_iff.1 h
     cases hb:(Nat.beq f.offset off && Nat.beq ls'.length (P.cellsOf f.type)) with
     | false=>rw [hb] at h;cases h
     | true =>
      rw [hb] at h
      simp only [cond_true] at h
      obtain ⟨ls2,h2,rfl⟩:=Option.map_eq_some_iff.1 h
      rw [Bool.and_eq_true] at hb
      have e1:=Nat.eq_of_beq_eq_true hb.1
      have e2:=Nat.eq_of_beq_eq_true hb.2
      have t0:=hx 0 f rfl
      rw [e1,← e2] at t0
      obtain ⟨as,ho,hle⟩:=ih1 f.type ls' fuel _ x hls t0
      simp only [List.length_append] at hc
      obtain ⟨as2,ho2,hle2⟩:=ih2 r (off+ls'.length) ls2 fuel cs xs h2 (by simpa using hl) (by omega) (fun i g hg=>by simpa using hx (i+1) g (by simpa using hg))
      refine ⟨as ++ as2,?_,?_⟩
      ·have:=ho.append ho2
       rwa [← List.drop_drop,List.take_append_drop] at this
      ·rw [wts_append]
       simp only [List.map_cons,bulkAll]
       omega
end opening
end Sx

namespace Sx
open Go Go.RowKit Go.WideShapes Go.ChangeShapes
def IsArg (agg:Bool) (ls:List Lf) (a:AV):Prop :=
 match agg with
 | true=>∃ m,a=.ag m∧m.length=ls.length∧∀ (j:Nat) (lf:Lf) (x:AV),ls[j]?=some lf→m[j]?=some x→Is lf x
 | false=>∃ lf,ls=[lf]∧Is lf a
def ArgsOk:List (Bool×List Lf)→List AV→Prop
 | [],[]=>True
 | p :: r,a :: as=>IsArg p.1 p.2 a∧ArgsOk r as
 | _,_=>False
def shapesOf (P:Program):List TypeId→Option (List (Bool×List Lf))
 | []=>some []
 | t :: ts=>(leaves P 12 t).bind fun ls=>bif isSt P t || Nat.beq ls.length 1 then (shapesOf P ts).map ((isSt P t,ls) :: ·) else none
section
variable {H:Type} {enc:TypeId×Value→H} {P:Program} {w:World} {base:Nat} {spare:Nat→Bool} {held:Bool}
theorem open_arg {t:TypeId} {ls:List Lf} {v:Value} {d:DataW H} {p:List MemPlace} {r:Reach} {b0:Nat} (hl:leaves P 12 t=some ls) (hb:(isSt P t || Nat.beq ls.length 1)=true) (hval:Value.okWide P w r b0 t v) (h:DataW.Trod enc P w base spare held t v d p) :
  ∃ a,IsArg (isSt P t) ls a∧wt a≤bulk d∧Rel w (fun _=>True) a v:=by
 obtain ⟨fuel,hf⟩:=h
 obtain ⟨as,ho,hle⟩:=(open_leaves 12).1 t ls fuel _ _ hl hf
 cases hst:isSt P t with
 | true =>
  unfold isSt at hst
  split at hst
  ·rename_i fs hu
   obtain ⟨cs,rfl,_⟩:=okWide_struct hu hval
   have hc:(Value.agg cs).cells.toList=cs.toList:=rfl
   rw [hc] at ho
   refine ⟨.ag as,⟨as,rfl,ho.len1,ho.is⟩,by simpa only [wt] using hle,?_⟩
   have:=Rel.ag (w:=w) (F:=fun _=>True) as cs.toList (by rw [ho.len1,ho.len2]) ho.one ho.rel
   simpa using this
  ·cases hst
 | false =>
  rw [hst,Bool.false_or] at hb
  have h1:=Nat.eq_of_beq_eq_true hb
  obtain ⟨lf,rfl⟩:∃ lf,ls=[lf]:=by
   cases ls with
   | nil=>simp at h1
   | cons lf r=>exact ⟨lf,by rw [List.eq_nil_of_length_eq_zero (l:=r) (by simpa using h1)]⟩
  have hlen:=ho.len1
  obtain ⟨a,rfl⟩:∃ a,as=[a]:=by
   cases as with
   | nil=>simp at hlen
   | cons a r=>exact ⟨a,by rw [List.eq_nil_of_length_eq_zero (l:=r) (by simpa using hlen)]⟩
  have hv:v.cells.toList=[v]:=by
   simp only [leaves] at hl
   cases hu:P.underlying t with
   | none=>rw [hu] at hl;cases hl
   | some dd =>
    rw [hu] at hl
    cases dd <;> simp only at hl <;> try (cases hl;done)
    case bool=>obtain ⟨b,rfl⟩:=okWide_bool hu hval;rfl
    case int k=>obtain ⟨b,rfl⟩:=okWide_int hu hval;rfl
    case string=>obtain ⟨b,rfl⟩:=okWide_string hu hval;rfl
    case slice e=>obtain ⟨a,len,cap,rfl⟩:=okWide_slice hu hval;rfl
    case struct fs=>unfold isSt at hst;rw [hu] at hst;cases hst
  rw [hv] at ho
  refine ⟨a,⟨lf,rfl,ho.is 0 lf a rfl rfl⟩,by simpa [wts] using hle,?_⟩
  simpa using ho.rel 0 v rfl
theorem open_args {r:Reach} {b0:Nat}:∀ {ts:List TypeId} {shs:List (Bool×List Lf)} {vs:List Value} {ds:List (DataW H)} {p:List MemPlace},shapesOf P ts=some shs→DataW.TrodAll enc P w base spare held ts vs ds p →
  (∀ (j:Nat) (t:TypeId) (v:Value),ts[j]?=some t→vs[j]?=some v→Value.okWide P w r b0 t v) →
  ∃ as,as.length=vs.length∧ds.length=ts.length∧ArgsOk shs as∧wts as≤bulkAll ds∧∀ (j:Nat) (a:AV) (v:Value),as[j]?=some a→vs[j]?=some v→Rel w (fun _=>True) a v
 | [],shs,vs,ds,p,hs,h,hv=>by
  obtain ⟨rfl,rfl,rfl⟩:=trodAll_nil h
  cases hs
  exact ⟨[],rfl,rfl,trivial,Nat.le_refl _,fun j a v h=>by simp at h⟩
 | t :: ts,shs,vs,ds,p,hs,h,hv=>by
  obtain ⟨v,vs1,d,ds1,p1,p2,rfl,rfl,rfl,h1,h2⟩:=trodAll_cons h
  simp only [shapesOf] at hs
  obtain ⟨ls,hls,hs⟩:=Option.bind_eq_some_iff.1 hs
  cases hb:(isSt P t || Nat.beq ls.length 1) with
  | false=>rw [hb] at hs;cases hs
  | true =>
   rw [hb] at hs
   simp only [cond_true] at hs
   obtain ⟨shs',hs',rfl⟩:=Option.map_eq_some_iff.1 hs
   obtain ⟨a,ha,hle,hr⟩:=open_arg hls hb (hv 0 t v rfl rfl) h1
   obtain ⟨as,e1,e2,e3,e4,e5⟩:=open_args hs' h2 (fun j t v h1 h2=>hv (j+1) t v (by simpa using h1) (by simpa using h2))
   refine ⟨a :: as,by simp [e1],by simp [e2],⟨ha,e3⟩,?_,fun j x u hx hu=>?_⟩
   ·simp only [wts,bulkAll];omega
   ·cases j with
    | zero=>simp at hx hu;subst hx;subst hu;exact hr
    | succ j=>exact e5 j x u (by simpa using hx) (by simpa using hu)
theorem trodAll_carry {w':World}:∀ {ts:List TypeId} {vs:List Value} {ds:List (DataW H)} {ps:List MemPlace},DataW.TrodAll enc P w base spare held ts vs ds ps→(∀ p ∈ ps,w.sameAt w' p)→DataW.TrodAll enc P w' base spare held ts vs ds ps
 | [],vs,ds,ps,h,hs=>by
  obtain ⟨rfl,rfl,rfl⟩:=trodAll_nil h
  exact trodAll_mk0
 | t :: ts,vs,ds,ps,h,hs=>by
  obtain ⟨v,vs1,d,ds1,p1,p2,rfl,rfl,rfl,⟨n,hn⟩,h2⟩:=trodAll_cons h
  exact ⟨p1,p2,⟨n,DataW.trod_carry n _ _ _ hn (fun p hp=>hs p (List.mem_append_left _ hp))⟩,trodAll_carry h2 (fun p hp=>hs p (List.mem_append_right _ hp)),rfl⟩
end
theorem law_contract {C:Cfg} {P:Program} (hfit:Fit C P) {g:Nat} {fn:Func} {c:Code} (hfn:P.funcs[g]?=some fn) (hb:fn.body=some c) (ho:(C.own g).all Option.isNone=true) (hsig:C.sig g=none)
  {tb:TypeId} (hres:fn.resultTypes = #[tb]) (htb:P.underlying tb=some .bool)
  (hlo:laidOutB P=true) (hmr:mapsRowed P=true) (hz:((List.range P.types.size).all fun t=>match P.underlying t with | some (.slice e)=>decide (0 < P.cellsOf e) | _=>true)=true)
  (hts:fn.params.toList.all (fun t=>decide (t < P.types.size))=true)
  {s:ChangeSpec} (hvars:s.vars=[]) (hs:∀ (H:Type) (ds:List (DataW H)),ds.length=fn.params.toList.length→s.fn H ds={ results:=[.lit (.bool true)],args:=ds })
  {shs:List (Bool×List Lf)} (hsh:shapesOf P fn.params.toList=some shs)
  {H:Type} {enc:TypeId×Value→H} {W:World} {base:Nat} {args:Array Value} {ds gs:List (DataW H)} {before:List MemPlace} {apart fresh handsOn:Bool}
  (hval:∀ (j:Nat) t v,fn.params[j]?=some t→args[j]?=some v→Value.okWide P W .any base t v)
  (hW:DataW.Whole enc P fn.params.toList s.vars apart W args.toList ds gs before)
  (hG:GlobOk C W (fun _=>True))
  (law:∀ as,ArgsOk shs as→wts as≤bulkAll (ds ++ gs)→semCall C P g as=some (.b true)) :
  Calls P g args W fun e W'=>∃ v,e=.returned v∧s.post enc P fn apart fresh handsOn false W args v W':=by
 have hW0:=hW
 have hlt:=hW.lt
 obtain ⟨p,q,hA,hV,rfl,hfz,hnd⟩:=hW
 rw [hvars] at hV
 obtain ⟨rfl,rfl⟩:=trodVars_none hV
 simp only [List.append_nil] at law hlt hW0
 obtain ⟨as,e1,e2,e3,e4,e5⟩:=open_args hsh hA (fun j t v h1 h2=>hval j t v (by simpa using h1) (by simpa using h2))
 have hcall:=law as e3 e4
 refine (calls_true hfit hfn hb ho hsig hcall W (fun _=>True) args hG (by simpa using e1.symm) (fun j a v h1 h2=>e5 j a v h1 (by simpa using h2))).mono fun e W' he=>?_
 obtain ⟨rfl,bel⟩:=he
 have hsd:=hs H ds e2
 refine ⟨_,rfl,ds,[],p,[],p,[],hW0,?_,?_,?_,bel.frame _,fun h=>by cases h⟩
 ·rw [List.append_nil,hsd,hres]
  exact trodAll_mk1 (shut_bool htb _)
 ·rw [List.append_nil,hsd]
  have h1:=trodAll_carry (w':=W') hA (fun x hx=>bel.same (hlt x hx))
  exact DataW.TrodAll.respare (kids_rows hlo hmr) (fun t e ht hu=>slices_full_of P hz t e ht hu) (fun t ht=>of_decide_eq_true (List.all_eq_true.1 hts t ht)) h1 (fun x hx=>by simpa using hlt x hx)
 ·rw [hvars,List.append_nil,hsd]
  exact rfl
end Sx
namespace Sx
theorem is_byte {a:AV} (h:IsArg false [.u8] a):∃ x:UInt8,a=.u8 x:=by
 obtain ⟨lf,e,h⟩:=h
 cases e
 cases h with
 | u8 x=>exact ⟨x,rfl⟩
theorem args2 {p q:Bool×List Lf} {as:List AV} (h:ArgsOk [p,q] as):∃ a b,as=[a,b]∧IsArg p.1 p.2 a∧IsArg q.1 q.2 b:=by
 match as,h with
 | [a,b],h=>exact ⟨a,b,rfl,h.1,h.2.1⟩
end Sx

namespace Sx
open Go
structure Ctx where
 st:UInt8
 el:UInt8
 en:Bool
 at':UInt8
 qu:UInt8
 pa:UInt8
 su:UInt8
 es:Bool
 da:UInt8
 nm:List UInt8
 deriving DecidableEq
abbrev cx (st el:UInt8) (en:Bool) (at' qu pa su:UInt8) (es:Bool) (da:UInt8) (nm:List UInt8):AV :=
 .ag [.u8 st, .u8 el, .b en, .u8 at', .u8 qu, .u8 pa, .u8 su, .b es, .u8 da, .s nm]
abbrev Ctx.av (c:Ctx):AV:=cx c.st c.el c.en c.at' c.qu c.pa c.su c.es c.da c.nm
@[simp] theorem asAg_ten (a b c d e f g h i j:AV):AV.asAg 10 (.ag [a,b,c,d,e,f,g,h,i,j])=some [a,b,c,d,e,f,g,h,i,j]:=rfl
section get
variable (a b c d e f g h i j:AV)
@[simp] theorem ten0:[a,b,c,d,e,f,g,h,i,j].getD 0 .un=a:=rfl
@[simp] theorem ten1:[a,b,c,d,e,f,g,h,i,j].getD 1 .un=b:=rfl
@[simp] theorem ten2:[a,b,c,d,e,f,g,h,i,j].getD 2 .un=c:=rfl
@[simp] theorem ten3:[a,b,c,d,e,f,g,h,i,j].getD 3 .un=d:=rfl
@[simp] theorem ten4:[a,b,c,d,e,f,g,h,i,j].getD 4 .un=e:=rfl
@[simp] theorem ten5:[a,b,c,d,e,f,g,h,i,j].getD 5 .un=f:=rfl
@[simp] theorem ten6:[a,b,c,d,e,f,g,h,i,j].getD 6 .un=g:=rfl
@[simp] theorem ten7:[a,b,c,d,e,f,g,h,i,j].getD 7 .un=h:=rfl
@[simp] theorem ten8:[a,b,c,d,e,f,g,h,i,j].getD 8 .un=i:=rfl
@[simp] theorem ten9:[a,b,c,d,e,f,g,h,i,j].getD 9 .un=j:=rfl
end get
def pre (p l:List UInt8):Bool:=decide (p.length≤l.length) && l.take p.length == p
theorem slS_hi {l:List UInt8} {i:Nat} (h:i≤l.length):slS (.s l) none (some (.int (i:Int)))=some (.s (l.take i)):=by
 show ((lohi l.length none (some (.int (i:Int)))).bind fun p=>some (AV.s ((l.take p.2).drop p.1)))=_
 simp [lohi,upN_int h]
theorem slS_lo {l:List UInt8} {i:Nat} (h:i≤l.length):slS (.s l) (some (.int (i:Int))) none=some (.s (l.drop i)):=by
 show ((lohi l.length (some (.int (i:Int))) none).bind fun p=>some (AV.s ((l.take p.2).drop p.1)))=_
 simp [lohi,upN_int h]
end Sx

namespace Sx
open Go
def hole (c:Ctx):UInt8 :=
 if c.st == 0 then 1
 else if c.st == 17 then (if c.el == 1 || c.el == 2 then 2 else if (c.su == 1 || c.su == 2) && !c.es && c.el == 3 then 7 else if (c.su == 1 || c.su == 2) && !c.es && c.el == 4 then 9 else 0)
 else if c.st == 8 then
  (if c.qu == 0 then 0 else if c.at' == 0 then 3
  else if c.at' == 1 then (if c.pa == 0 then 4 else if c.pa == 3 then 5 else if c.pa == 4 then 6 else 0)
  else if c.at' == 2 then (if (c.su == 1 || c.su == 2) && !c.es then 8 else 0)
  else if c.at' == 3 then (if (c.su == 1 || c.su == 2) && !c.es then 10 else 0) else 0)
 else 0
def badC:Ctx:=⟨20,0,false,0,0,0,0,false,0,[]⟩
def after (c:Ctx):Ctx:=if hole c == 0 then badC else if hole c == 4 then { c with pa:=2 } else c
end Sx

namespace Sx
open Go
def Ctx.toAV (c:Ctx):AV:=cx c.st c.el c.en c.at' c.qu c.pa c.su c.es c.da c.nm
def tv (p:Ctx×Bool):AV:=.tu [p.1.toAV, .b p.2]
end Sx

namespace Sx
open Go Go.RowKit Go.WideShapes Go.ChangeShapes
section
variable {H:Type} {enc:TypeId×Value→H} {P:Program} {w:World} {base:Nat} {spare:Nat→Bool} {held:Bool}
end
end Sx
