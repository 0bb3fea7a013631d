/-
  A part of InferTemplates's proof.
-/
import Derived.Test.YtgjfbalafdifgaaGreatDoorTA
import Derived.Lib.Bytealg
import Derived.ReadAgain
import Derived.ChangeArms
import Derived.ChangeSame
import Derived.RowKit
import Derived.Deep.DeepHandedRow
import Derived.Lib.LaidTab
noncomputable section
namespace Sx
open Go Go.RowKit Go.Lib
open Classical in
def gM (R:Nat→Value→Prop):Nat→Option Value:=fun n=>if h:∃ x,R n x then some (Classical.choose h) else none
theorem gN {R:Nat→Value→Prop} {n:Nat} {x:Value} (h:gM R n=some x):R n x:=by
 unfold gM at h
 split at h
 ·rename_i hh;cases h;exact Classical.choose_spec hh
 ·cases h
theorem rU {R:Nat→Value→Prop} {n:Nat} {x:Value} (hf:∀ y,R n y→y=x) (h:R n x):gM R n=some x:=by
 unfold gM
 have hh:∃ x,R n x:=⟨x,h⟩
 rw [dif_pos hh]
 exact congrArg some (hf _ (Classical.choose_spec hh))
theorem kt:∀ {l m:List Nat},eT l m=true→l=m
 | [],[],_=>rfl
 | x :: r,y :: t,h=>by
  simp only [eT,Bool.and_eq_true] at h
  rw [Nat.eq_of_beq_eq_true h.1,kt h.2]
 | [],_ :: _,h=>by cases h
 | _ :: _,[],h=>by cases h
theorem uB {l:List Nat} (h:nodup l=true) {i j x:Nat} (hi:l[i]?=some x) (hj:l[j]?=some x):i=j:=by
 induction l generalizing i j with
 | nil=>simp at hi
 | cons y r ih =>
  simp only [nodup,Bool.and_eq_true,Bool.not_eq_true',List.any_eq_false] at h
  cases i with
  | zero =>
   cases j with
   | zero=>rfl
   | succ j =>
    simp at hi hj
    subst hi
    exact absurd (Nat.beq_refl y) (h.1 y (List.mem_of_getElem? hj))
  | succ i =>
   cases j with
   | zero =>
    simp at hi hj
    subst hj
    exact absurd (Nat.beq_refl y) (h.1 y (List.mem_of_getElem? hi))
   | succ j=>exact congrArg Nat.succ (ih h.2 (by simpa using hi) (by simpa using hj))
theorem rV {l m:List Nat} (h:nodup (l ++ m)=true):nodup l=true∧nodup m=true∧∀ x ∈ l,x ∉ m:=by
 induction l with
 | nil=>exact ⟨rfl,h,by simp⟩
 | cons x l ih =>
  simp only [List.cons_append,nodup,Bool.and_eq_true] at h
  obtain ⟨h1,h2,h3⟩:=ih h.2
  have hx:=h.1
  simp only [Bool.not_eq_true',List.any_eq_false] at hx
  refine ⟨?_,h2,fun y hy=>?_⟩
  ·simp only [nodup,Bool.and_eq_true,Bool.not_eq_true',List.any_eq_false]
   exact ⟨fun y hy=>hx y (List.mem_append_left _ hy),h1⟩
  ·rcases List.mem_cons.1 hy with rfl | hy
   ·exact fun hm=>hx y (List.mem_append_right _ hm) (Nat.beq_refl y)
   ·exact h3 y hy
theorem jh {site:Nat→Nat}:∀ {ks:List gf} {cs:List Cell} {l:List AV},DE site ks cs=some l→cs.length=ks.length∧l.length=ks.length ∧
  ∀ (j:Nat) (k:gf) (c:Cell),ks[j]?=some k→cs[j]?=some c→∃ v,l[j]?=some v∧Jb site k c=some v
 | [],[],l,h=>by cases h;exact ⟨rfl,rfl,fun j k c hk=>by simp at hk⟩
 | k :: ks,c :: cs,l,h=>by
  simp only [DE] at h
  obtain ⟨v,hv,h⟩:=Option.bind_eq_some_iff.1 h
  obtain ⟨vs,oO,h⟩:=Option.bind_eq_some_iff.1 h
  cases h
  obtain ⟨h1,h2,h3⟩:=jh oO
  refine ⟨by simp [h1],by simp [h2],fun j k' c' hk hc=>?_⟩
  cases j with
  | zero=>simp at hk hc;subst hk;subst hc;exact ⟨v,rfl,hv⟩
  | succ j=>obtain ⟨u,q1,q2⟩:=h3 j k' c' (by simpa using hk) (by simpa using hc);exact ⟨u,by simpa using q1,q2⟩
 | [],_ :: _,l,h=>by cases h
 | _ :: _,[],l,h=>by cases h
theorem jD {site:Nat→Nat} {mem:Nat→Option (List Cell)}:∀ {objs:List (Src×List gf)} {i0:Nat} {l:List AV},nD site mem i0 objs=some l→l.length=objs.length ∧
  ∀ (i:Nat) (o:Src×List gf),objs[i]?=some o→∃ cs vs,mem (site (i0+i))=some cs∧DE site o.2 cs=some vs∧l[i]?=some (.ag vs)
 | [],i0,l,h=>by cases h;exact ⟨rfl,fun i o ho=>by simp at ho⟩
 | o :: r,i0,l,h=>by
  simp only [nD] at h
  split at h
  ·rename_i cs ea
   obtain ⟨vs,oO,h⟩:=Option.bind_eq_some_iff.1 h
   obtain ⟨t,ht,h⟩:=Option.bind_eq_some_iff.1 h
   cases h
   obtain ⟨h1,h2⟩:=jD ht
   refine ⟨by simp [h1],fun i o' ho=>?_⟩
   cases i with
   | zero=>simp at ho;subst ho;exact ⟨cs,vs,ea,oO,rfl⟩
   | succ i =>
    obtain ⟨ud,Vd,q1,q2,q3⟩:=h2 i o' (by simpa using ho)
    exact ⟨ud,Vd,by rw [show i0+(i+1)=i0+1+i by omega];exact q1,q2,by simpa using q3⟩
  ·cases h
def jW (site:Nat→Nat) (mem:Nat→Option (List Cell)) (objs:List (Src×List gf)) (i0 i j id:Nat):Prop :=
 ∃ (o:Src×List gf) (cs:List Cell) (e k e' k':Nat) (l:List AV),objs[i]?=some o∧mem (site (i0+i))=some cs∧o.2[j]?=some (.own e k)∧cs[j]?=some (.own id e' k' l)
theorem nM:∀ {ks:List gf} {cs:List Cell} {j e k id e' k':Nat} {l:List AV},ks[j]?=some (.own e k)→cs[j]?=some (.own id e' k' l)→id ∈ qw true ks cs
 | [],_,j,e,k,id,e',k',l,h,_=>by simp at h
 | _ :: _,[],j,e,k,id,e',k',l,_,h=>by simp at h
 | q :: ks,c :: cs,j,e,k,id,e',k',l,h,h'=>by
  cases j with
  | zero =>
   simp at h h'
   subst h;subst h'
   simp [qw,Cell.ids]
  | succ j =>
   have:=nM (ks:=ks) (cs:=cs) (j:=j) (by simpa using h) (by simpa using h')
   cases q <;> exact List.mem_append_right _ this
theorem BS:∀ {ks:List gf} {cs:List Cell} {j j' e k id e' k' e2 k2 mJ e3 k3:Nat} {l l2:List AV},nodup (qw true ks cs)=true→j < j'→ks[j]?=some (.own e k)→cs[j]?=some (.own id e' k' l)→ks[j']?=some (.own e2 k2)→cs[j']?=some (.own mJ e3 k3 l2)→id≠mJ
 | [],_,j,j',e,k,id,e',k',e2,k2,mJ,e3,k3,l,l2,_,_,h,_,_,_=>by simp at h
 | _ :: _,[],j,j',e,k,id,e',k',e2,k2,mJ,e3,k3,l,l2,_,_,_,h,_,_=>by simp at h
 | q :: ks,c :: cs,j,j',e,k,id,e',k',e2,k2,mJ,e3,k3,l,l2,hn,aM,h1,h2,h3,h4=>by
  cases j' with
  | zero=>omega
  | succ j' =>
   cases j with
   | zero =>
    simp at h1 h2
    subst h1;subst h2
    have hn:nodup (id :: qw true ks cs)=true:=by simpa [qw,Cell.ids] using hn
    have hm:mJ ∈ qw true ks cs:=nM (by simpa using h3) (by simpa using h4)
    simp only [nodup,Bool.and_eq_true,Bool.not_eq_true',List.any_eq_false] at hn
    intro e
    exact hn.1 mJ hm (by rw [e];exact Nat.beq_refl mJ)
   | succ j =>
    have QT:nodup (qw true ks cs)=true:=by
     cases q <;> exact (rV hn).2.1
    exact BS QT (by omega:j < j') (by simpa using h1) (by simpa using h2) (by simpa using h3) (by simpa using h4)
theorem lq {site:Nat→Nat} {mem:Nat→Option (List Cell)}:∀ {objs:List (Src×List gf)} {i0 i j id:Nat},jW site mem objs i0 i j id→id ∈ cf true site mem i0 objs
 | [],i0,i,j,id,h=>by obtain ⟨o,cs,e,k,e',k',l,h,_⟩:=h;simp at h
 | o :: r,i0,i,j,id,h=>by
  obtain ⟨o',cs,e,k,e',k',l,h1,h2,h3,h4⟩:=h
  cases i with
  | zero =>
   simp at h1
   subst h1
   have h2:mem (site i0)=some cs:=h2
   simp only [cf,h2]
   exact List.mem_append_left _ (nM h3 h4)
  | succ i =>
   exact List.mem_append_right _ (lq ⟨o',cs,e,k,e',k',l,by simpa using h1,by rw [show i0+1+i=i0+(i+1) by omega];exact h2,h3,h4⟩)
theorem ku {site:Nat→Nat} {mem:Nat→Option (List Cell)}:∀ {objs:List (Src×List gf)} {i0 i j i' j' id gO:Nat},nodup (cf true site mem i0 objs)=true→jW site mem objs i0 i j id→jW site mem objs i0 i' j' gO→(i < i'∨i=i'∧j < j')→id≠gO
 | [],i0,i,j,i',j',id,gO,_,h,_,_=>by obtain ⟨o,cs,e,k,e',k',l,h,_⟩:=h;simp at h
 | o :: r,i0,i,j,i',j',id,gO,hn,h,h',aM=>by
  have QT:=rV hn
  cases i with
  | zero =>
   obtain ⟨o1,cs,e,k,e',k',l,h1,h2,h3,h4⟩:=h
   simp at h1
   subst h1
   have h2:mem (site i0)=some cs:=h2
   cases i' with
   | zero =>
    obtain ⟨o2,qM,e2,k2,e3,k3,l2,h5,h6,h7,h8⟩:=h'
    simp at h5
    subst h5
    have h6:mem (site i0)=some qM:=h6
    rw [h2] at h6
    cases h6
    have hk:=QT.1
    simp only [h2] at hk
    exact BS hk (by rcases aM with h | h;omega;exact h.2) h3 h4 h7 h8
   | succ i' =>
    obtain ⟨o2,qM,e2,k2,e3,k3,l2,h5,h6,h7,h8⟩:=h'
    have hm:gO ∈ cf true site mem (i0+1) r:=lq ⟨o2,qM,e2,k2,e3,k3,l2,by simpa using h5,by rw [show i0+1+i'=i0+(i'+1) by omega];exact h6,h7,h8⟩
    have hm':id ∈ (match mem (site i0) with | some cs=>qw true o.2 cs | none=>[]):=by rw [h2];exact nM h3 h4
    exact fun e=>QT.2.2 id hm' (e ▸ hm)
  | succ i =>
   cases i' with
   | zero=>rcases aM with h | h <;> omega
   | succ i' =>
    have conv:∀ {i j id:Nat},jW site mem (o :: r) i0 (i+1) j id→jW site mem r (i0+1) i j id:=by
     intro i j id ⟨o1,cs,e,k,e',k',l,h1,h2,h3,h4⟩
     exact ⟨o1,cs,e,k,e',k',l,by simpa using h1,by rw [show i0+1+i=i0+(i+1) by omega];exact h2,h3,h4⟩
    exact ku QT.2.1 (conv h) (conv h') (by rcases aM with h | h;exact .inl (by omega);exact .inr ⟨by omega,h.2⟩)
theorem uC {site:Nat→Nat} {mem:Nat→Option (List Cell)} {objs:List (Src×List gf)} {i0 i j i' j' id:Nat} (hn:nodup (cf true site mem i0 objs)=true) (h:jW site mem objs i0 i j id) (h':jW site mem objs i0 i' j' id):i=i'∧j=j':=by
 rcases Nat.lt_trichotomy i i' with h1 | h1 | h1
 ·exact absurd rfl (ku hn h h' (.inl h1))
 ·subst h1
  rcases Nat.lt_trichotomy j j' with h2 | h2 | h2
  ·exact absurd rfl (ku hn h h' (.inr ⟨rfl,h2⟩))
  ·exact ⟨rfl,h2⟩
  ·exact absurd rfl (ku hn h' h (.inr ⟨rfl,h2⟩))
 ·exact absurd rfl (ku hn h' h (.inl h1))
theorem rW {s j s' j':Nat} (h:cu s j=cu s' j') (hj:j < 1000) (jf:j' < 1000):s=s'∧j=j':=by
 unfold cu at h
 omega
theorem pO {s:Nat}:∀ {ks:List gf} {j0 j e k:Nat},ks[j]?=some (.own e k)→cu s (j0+j) ∈ qG s j0 ks
 | [],j0,j,e,k,h=>by simp at h
 | q :: ks,j0,j,e,k,h=>by
  cases j with
  | zero=>simp at h;subst h;exact List.mem_cons_self ..
  | succ j =>
   have:=pO (s:=s) (ks:=ks) (j0:=j0+1) (j:=j) (by simpa using h)
   rw [show j0+1+j=j0+(j+1) by omega] at this
   cases q <;> first | exact this | exact List.mem_cons_of_mem _ this
theorem nN {site:Nat→Nat}:∀ {objs:List (Src×List gf)} {i0 i j e k:Nat} {o:Src×List gf},objs[i]?=some o→o.2[j]?=some (.own e k)→cu (site (i0+i)) j ∈ cz site i0 objs
 | [],i0,i,j,e,k,o,h,_=>by simp at h
 | q :: r,i0,i,j,e,k,o,h,h'=>by
  cases i with
  | zero =>
   simp at h
   subst h
   have:=pO (s:=site i0) (j0:=0) h'
   rw [Nat.zero_add] at this
   exact List.mem_append_left _ this
  | succ i =>
   have:=nN (site:=site) (objs:=r) (i0:=i0+1) (i:=i) (by simpa using h) h'
   rw [show i0+1+i=i0+(i+1) by omega] at this
   exact List.mem_append_right _ this
theorem kv {site:Nat→Nat} {s:Nat}:∀ {ks:List gf} {j0:Nat} {l:List AV},(dQ site s j0 ks l).length=ks.length∧∀ (j:Nat) (k:gf),ks[j]?=some k→(dQ site s j0 ks l)[j]?=some (match k with
  | .v=>.val (l.getD (j0+j) .un)
  | .own e k=>.own (cu s (j0+j)) e k (l.getD (j0+j) .un).elems
  | .eF g os=>.eF g (os.map site))
 | [],j0,l=>⟨rfl,fun j k h=>by simp at h⟩
 | q :: ks,j0,l=>by
  obtain ⟨h1,h2⟩:=kv (site:=site) (s:=s) (ks:=ks) (j0:=j0+1) (l:=l)
  refine ⟨by cases q <;> simp [dQ,h1],fun j k hk=>?_⟩
  cases j with
  | zero=>simp at hk;subst hk;cases q <;> rfl
  | succ j =>
   have:=h2 j k (by simpa using hk)
   rw [show j0+1+j=j0+(j+1) by omega] at this
   cases q <;> simpa [dQ] using this
theorem pP {st:St} {xs:List aV}:∀ {objs:List (Src×List gf)} {acc sites:List Nat},nC st xs acc objs=some sites→sites.length=acc.length+objs.length
 | [],acc,sites,h=>by cases h;rfl
 | o :: r,acc,sites,h=>by
  simp only [nC] at h
  obtain ⟨s,_,h⟩:=Option.bind_eq_some_iff.1 h
  have:=pP h
  simp at this ⊢
  omega
def erases (H:Nat→Option Value) (ids:List Nat):Nat→Option Value:=ids.foldl Sx.erase H
theorem yk {ids:List Nat}:∀ {H:Nat→Option Value} {i:Nat} {x:Value},erases H ids i=some x→H i=some x∧i ∉ ids:=by
 induction ids with
 | nil=>intro H i x h;exact ⟨h,by simp⟩
 | cons a r ih =>
  intro H i x h
  obtain ⟨h1,h2⟩:=ih (H:=Sx.erase H a) h
  obtain ⟨h3,h4⟩:=aG h1
  exact ⟨h4,fun hm=>by rcases List.mem_cons.1 hm with e | e;exact h3 e;exact h2 e⟩
section
variable {w:World} {F:Nat→Prop} {H:Nat→Option Value} {σ:Nat→Option Nat}
theorem JE (ids:List Nat):∀ {H:Nat→Option Value} {e:aV} {x:Value},bO w F H σ e x→bO w F (erases H ids) σ (ids.foldl (fun e i=>aV.kl i e) e) x:=by
 induction ids with
 | nil=>intro H e x h;exact h
 | cons a r ih=>intro H e x h;exact ih (mA a (fun _ _ hb=>hb) e x h)
theorem FE (ids:List Nat):∀ {H:Nat→Option Value} {c:Cell} {x:Value},bg w F H σ c x→bg w F (erases H ids) σ (ids.foldl (fun c i=>Cell.kl i c) c) x:=by
 induction ids with
 | nil=>intro H c x h;exact h
 | cons a r ih =>
  intro H c x h
  exact ih (bg.drop (Cell.kl a) (fun c hc=>Cell.kj c hc) (fun _ _ hb=>hb) (fun e k l x hx=>by simp only [Cell.kl,aO,if_true];exact Value.bV hx.2) h)
end
theorem JF (ids:List Nat):∀ (st:St) (t:Nat),(st.E1 ids).env t=ids.foldl (fun e i=>aV.kl i e) (st.env t):=by
 induction ids with
 | nil=>intro st t;rfl
 | cons a r ih=>intro st t;exact ih (st.kl a) t
theorem JG (ids:List Nat):∀ (st:St) (s:Nat),(st.E1 ids).mem s=(st.mem s).map (·.map fun c=>ids.foldl (fun c i=>Cell.kl i c) c):=by
 induction ids with
 | nil=>intro st s;simp [St.E1]
 | cons a r ih =>
  intro st s
  have:(st.E1 (a :: r)).mem s=((st.kl a).E1 r).mem s:=rfl
  rw [this,ih]
  simp [St.kl,St.map,Option.map_map,Function.comp_def]
section
variable {C:cS} {P:Program} {w0:World} {F0:Fs} {nt:Nat} {st:St} {a:Act} {w:World} {H:Nat→Option Value} {σ:Nat→Option Nat}
def uD (σ:Nat→Option Nat) (H:Nat→Option Value) (site:Nat→Nat) (n:Nat) (L:List Nat) (b:Nat):Prop:=(∃ i,i < n∧σ (site i)=some b)∨∃ id ∈ L,∃ x,H id=some x∧x.ownBlock=some b
def kz (σ:Nat→Option Nat) (site:Nat→Nat) (n ntg:Nat):Nat→Option Nat:=fun s=>if ntg≤s∧s < ntg+n then σ (site (s - ntg)) else none
def l8 (H:Nat→Option Value) (site:Nat→Nat) (mem:Nat→Option (List Cell)) (objs:List (Src×List gf)) (ntg id:Nat) (x:Value):Prop :=
 ∃ (i j e k:Nat) (o:Src×List gf) (cs:List Cell),objs[i]?=some o∧o.2[j]?=some (.own e k)∧mem (site i)=some cs∧id=cu (ntg+i) j ∧
  ((∃ (gO e' k':Nat) (l:List AV),cs[j]?=some (.own gO e' k' l)∧H gO=some x)∨(cs[j]?=some (.val .aC)∧x=.slice none 0 0))
def kA (w0:World) (F0:Fs) (H:Nat→Option Value) (σ:Nat→Option Nat) (site:Nat→Nat) (n ntg:Nat) (L:List Nat):Fs:=⟨Fr w0.heap.size F0 H σ,uD σ H site n L,kz σ site n ntg⟩
theorem lr {n:Nat} {objs:List (Src×List gf)} (h:mw n objs=true) {i j:Nat} {o:Src×List gf} {k:gf} (ho:objs[i]?=some o) (hk:o.2[j]?=some k):j < 1000∧(∀ e m,k=.own e m→0 < m)∧∀ g os,k=.eF g os→∀ q ∈ os,q < n:=by
 have h1:=List.all_eq_true.1 h o (List.mem_of_getElem? ho)
 rw [Bool.and_eq_true] at h1
 have h2:=Nat.le_of_ble_eq_true h1.1
 have hj:j < o.2.length:=(List.getElem?_eq_some_iff.1 hk).1
 have h3:=List.all_eq_true.1 h1.2 k (List.mem_of_getElem? hk)
 refine ⟨by omega,fun e m em=>?_,fun g os eg q hq=>?_⟩
 ·subst em
  have h3:Nat.blt 0 m=true:=h3
  unfold Nat.blt at h3
  exact Nat.le_of_ble_eq_true h3
 ·subst eg
  have:=List.all_eq_true.1 h3 q hq
  unfold Nat.blt at this
  exact Nat.le_of_ble_eq_true this
theorem l8.inj {n:Nat} {objs:List (Src×List gf)} (h:mw n objs=true) {site:Nat→Nat} {mem:Nat→Option (List Cell)} {ntg id:Nat} {x y:Value} (h1:l8 H site mem objs ntg id x) (h2:l8 H site mem objs ntg id y):y=x:=by
 obtain ⟨i,j,e,k,o,cs,a1,a2,a3,a4,a5⟩:=h1
 obtain ⟨i',j',e',k',o',ud,b1,b2,b3,b4,b5⟩:=h2
 obtain ⟨q1,q2⟩:=rW (a4.symm.trans b4) (lr h a1 a2).1 (lr h b1 b2).1
 have q1:i=i':=by omega
 subst q1;subst q2
 rw [a1] at b1;cases b1
 rw [a3] at b3;cases b3
 rcases a5 with ⟨Ve,e1,k1,l1,c1,c2⟩ | ⟨c1,rfl⟩ <;> rcases b5 with ⟨mJ,e2,k2,l2,d1,d2⟩ | ⟨d1,rfl⟩
 ·rw [c1] at d1;cases d1
  rw [c2] at d2;exact (Option.some.inj d2).symm
 ·rw [c1] at d1;cases d1
 ·rw [c1] at d1;cases d1
 ·rfl
theorem oS {sites:List Nat}:∀ {ps:List M5} {xs:List aV},mr sites ps xs=true→xs.length=ps.length∧(cU ps xs).length=ps.length∧∀ (t:Nat) (p:M5),ps[t]?=some p→∃ e,xs[t]?=some e∧uq sites p e=true∧(match p with | .v=>(cU ps xs)[t]?=some e.aU∧∀ i ∈ e.ids,i ∈ mu ps xs | _=>True)
 | [],[],_=>⟨rfl,rfl,fun t p h=>by simp at h⟩
 | p :: ps,x :: xs,h=>by
  simp only [mr,Bool.and_eq_true] at h
  obtain ⟨h1,h2,h3⟩:=oS h.2
  refine ⟨by simp [h1],by cases p <;> simp [cU,h2],fun t q hq=>?_⟩
  cases t with
  | zero =>
   simp at hq
   subst hq
   refine ⟨x,rfl,h.1,?_⟩
   cases p with
   | v=>exact ⟨rfl,fun i hi=>List.mem_append_left _ hi⟩
   | _=>trivial
  | succ t =>
   obtain ⟨e,q1,q2,q3⟩:=h3 t q (by simpa using hq)
   refine ⟨e,by simpa using q1,q2,?_⟩
   cases q with
   | v =>
    refine ⟨by cases p <;> simpa [cU] using q3.1,fun i hi=>?_⟩
    have:=q3.2 i hi
    cases p <;> first | exact List.mem_append_right _ this | exact this
   | _=>trivial
 | [],_ :: _,h=>by cases h
 | _ :: _,[],h=>by cases h
theorem DP {sites:List Nat} {i:Nat} {e:aV} (h:uq sites (.obj i) e=true):∃ s,e=.cell (.ptr s 0)∧sites[i]?=some s:=by
 cases e with
 | cell c =>
  cases c with
  | ptr s o =>
   simp only [uq,Bool.and_eq_true] at h
   have ho:=Nat.eq_of_beq_eq_true h.1
   subst ho
   refine ⟨s,rfl,?_⟩
   have h2:=h.2
   cases hs:sites[i]? with
   | none=>rw [hs] at h2;cases h2
   | some t=>rw [hs] at h2;rw [Nat.eq_of_beq_eq_true h2]
  | _=>cases h
 | _=>cases h
theorem DQ {sites:List Nat} {g:Nat} {os:List Nat} {e:aV} (h:uq sites (.eF g os) e=true):∃ ss,e=.cell (.eF g ss)∧eT ss (os.map fun o=>sites.getD o 0)=true∧∀ q ∈ os,q < sites.length:=by
 cases e with
 | cell c =>
  cases c with
  | eF g' ss =>
   simp only [uq,Bool.and_eq_true] at h
   have hg:=Nat.eq_of_beq_eq_true h.1.1
   subst hg
   exact ⟨ss,rfl,h.1.2,fun q hq=>by have:=List.all_eq_true.1 h.2 q hq;unfold Nat.blt at this;exact Nat.le_of_ble_eq_true this⟩
  | _=>cases h
 | _=>cases h
theorem FF (h:Inv C w0 F0 nt st a w H σ) {sg:vp} {sites:List Nat} {xs:List aV} {vs:Array Value} {ntg:Nat} {ins:List AV} {ids:List Nat}
  (fm:mw sg.objs.length sg.objs=true) (hn:nodup sites=true) (hp:mr sites sg.ps xs=true) (hl:sites.length=sg.objs.length) (Nx:nodup (cf true (fun i=>sites.getD i 0) st.mem 0 sg.objs)=true)
  (hk:nD (fun i=>sites.getD i 0) st.mem 0 sg.objs=some ins) (hv:vs.size=sg.ps.length) (X1:sg.ps.length≤ntg)
  (oO:∀ (i j:Nat) (o:Src×List gf) (cs:List Cell) (c:Cell),sg.objs[i]?=some o→o.2[j]?=some .v→st.mem (sites.getD i 0)=some cs→cs[j]?=some c→∀ id e k l,c≠.own id e k l)
  (hx:∀ (t:Nat) (e:aV) (v:Value),xs[t]?=some e→vs[t]?=some v→(e.told=true→(∀ i ∈ e.ids,i ∈ mu sg.ps xs)→Rel w (Fr w0.heap.size F0 H σ) e.aU v)∧∀ c,e=.cell c→bg w (Fr w0.heap.size F0 H σ) (fun _=>none) σ c v∨c.told=true∨c=.dead) :
  Inv C w (kA w0 F0 H σ (fun i=>sites.getD i 0) sites.length ntg (cf true (fun i=>sites.getD i 0) st.mem 0 sg.objs)) ntg (BJ ntg sg (cU sg.ps xs ++ ins)) ⟨vs ++ Array.replicate (ntg - vs.size) undef,[]⟩ w
   (gM (l8 H (fun i=>sites.getD i 0) st.mem sg.objs ntg)) (kz σ (fun i=>sites.getD i 0) sites.length ntg):=by
 obtain ⟨tU,DK⟩:=jD hk
 obtain ⟨TT,Vf,hp3⟩:=oS hp
 generalize hL:cf true (fun i=>sites.getD i 0) st.mem 0 sg.objs=L at Nx
 have Vg:∀ id x,gM (l8 H (fun i=>sites.getD i 0) st.mem sg.objs ntg) id=some x→∀ b,x.ownBlock=some b→∃ gO,gO ∈ L∧H gO=some x:=by
  intro id x hid b hb
  obtain ⟨i,j,e,k,o,cs,a1,a2,a3,a4,a5⟩:=gN hid
  rcases a5 with ⟨gO,e',k',l,c1,c2⟩ | ⟨_,rfl⟩
  ·refine ⟨gO,?_,c2⟩
   rw [← hL]
   exact lq ⟨o,cs,e,k,e',k',l,a1,by rw [Nat.zero_add];exact a3,a2,c1⟩
  ·cases hb
 have hσc:∀ s r,kz σ (fun i=>sites.getD i 0) sites.length ntg s=some r→∃ i,i < sites.length∧s=ntg+i∧σ (sites.getD i 0)=some r:=by
  intro s r hs
  unfold kz at hs
  split at hs
  ·rename_i hc
   exact ⟨s - ntg,by omega,by omega,hs⟩
  ·cases hs
 have hσo:∀ i,i < sites.length→kz σ (fun i=>sites.getD i 0) sites.length ntg (ntg+i)=σ (sites.getD i 0):=by
  intro i hi
  unfold kz
  rw [if_pos (by omega),show ntg+i - ntg=i by omega]
 have hF:∀ b,b < w.heap.size→Fr w0.heap.size F0 H σ b→Fr w.heap.size (kA w0 F0 H σ (fun i=>sites.getD i 0) sites.length ntg L) (gM (l8 H (fun i=>sites.getD i 0) st.mem sg.objs ntg)) (kz σ (fun i=>sites.getD i 0) sites.length ntg) b∧w.heap[b]?=w.heap[b]?:=by
  intro b hb hf
  refine ⟨⟨fun _=>.inl hf,fun i v hv e=>?_,fun s hs=>?_⟩,rfl⟩
  ·obtain ⟨gO,_,h2⟩:=Vg i v hv b e
   exact hf.2.1 gO v h2 e
  ·obtain ⟨i,_,_,h3⟩:=hσc s b hs
   exact hf.2.2 _ h3
 have tm:∀ t v,vs[t]?=some v→(vs ++ Array.replicate (ntg - vs.size) undef).getD t undef=v:=by
  intro t v hv
  have aM:t < vs.size:=by
   rcases Nat.lt_or_ge t vs.size with h | h
   ·exact h
   ·rw [Array.getElem?_eq_none h] at hv;cases hv
  simp [Array.getElem?_append,aM] at hv ⊢
  exact hv
 have FG:∀ (g:Nat) (os ss:List Nat) (v:Value) (Hn:Nat→Option Value),(∀ q ∈ os,q < sites.length)→eT ss (os.map fun o=>sites.getD o 0)=true→bg w (Fr w0.heap.size F0 H σ) Hn σ (.eF g ss) v →
   bg w (Fr w.heap.size (kA w0 F0 H σ (fun i=>sites.getD i 0) sites.length ntg L) (gM (l8 H (fun i=>sites.getD i 0) st.mem sg.objs ntg)) (kz σ (fun i=>sites.getD i 0) sites.length ntg)) (gM (l8 H (fun i=>sites.getD i 0) st.mem sg.objs ntg)) (kz σ (fun i=>sites.getD i 0) sites.length ntg) (.eF g (os.map fun i=>ntg+i)) v:=by
  intro g os ss v Hn M9 TQ hr
  obtain ⟨rs,h1,h2,h3⟩:=hr
  have:=kt TQ
  subst this
  refine ⟨rs,by simpa using h1,h2,fun j s r q1 q2=>?_⟩
  rw [List.getElem?_map] at q1
  cases ho:os[j]? with
  | none=>rw [ho] at q1;cases q1
  | some o =>
   rw [ho] at q1
   simp only [Option.map_some,Option.some.injEq] at q1
   subst q1
   have:=h3 j (sites.getD o 0) r (by rw [List.getElem?_map,ho];rfl) q2
   rw [hσo o (M9 o (List.mem_of_getElem? ho))]
   exact this
 exact {
  defers:=rfl
  size:=by simp;omega
  env:=fun t=>by
   show bO _ _ _ _ (match sg.ps[t]? with
    | some .v=>.val ((cU sg.ps xs ++ ins).getD t .un)
    | some (.obj i)=>.cell (.ptr (ntg+i) 0)
    | some (.eF g os)=>.cell (.eF g (os.map fun i=>ntg+i))
    | none=>.dead) _
   cases P':sg.ps[t]? with
   | none=>trivial
   | some p =>
    obtain ⟨e,q1,q2,q3⟩:=hp3 t p P'
    have U':t < vs.size:=by rw [hv];exact (List.getElem?_eq_some_iff.1 P').1
    have X2:vs[t]?=some vs[t]:=Array.getElem?_eq_getElem U'
    have QK:=tm t vs[t] X2
    obtain ⟨r1,r2⟩:=hx t e vs[t] q1 X2
    show bO _ _ _ _ _ ((vs ++ Array.replicate (ntg - vs.size) undef).getD t undef)
    rw [QK]
    cases p with
    | v =>
     have aM:t < (cU sg.ps xs).length:=by rw [Vf];exact (List.getElem?_eq_some_iff.1 P').1
     have e1:(cU sg.ps xs ++ ins).getD t .un=e.aU:=by
      rw [List.getD_eq_getElem?_getD,List.getElem?_append_left aM,q3.1];rfl
     show Rel _ _ ((cU sg.ps xs ++ ins).getD t .un) _
     rw [e1]
     exact (r1 q2 q3.2).mono hF
    | obj i =>
     obtain ⟨s,rfl,QS⟩:=DP q2
     rcases r2 _ rfl with h5 | h5 | h5
     ·obtain ⟨b,hb,hvb⟩:=h5
      have aM:i < sites.length:=(List.getElem?_eq_some_iff.1 QS).1
      refine ⟨b,?_,hvb⟩
      rw [hσo i aM]
      show σ (sites.getD i 0)=some b
      rw [List.getD_eq_getElem?_getD,QS];exact hb
     ·cases h5
     ·cases h5
    | eF g os =>
     obtain ⟨ss,rfl,k1,k2⟩:=DQ q2
     rcases r2 _ rfl with h5 | h5 | h5
     ·exact FG g os ss _ _ k2 k1 h5
     ·cases h5
     ·cases h5
  mem:=fun s cs ea=>by
   have ea:(bif Nat.ble ntg s then (match sg.objs[s - ntg]? with
    | some o=>(match (cU sg.ps xs ++ ins)[sg.ps.length+(s - ntg)]? with
     | some (.ag l)=>some (dQ (fun i=>ntg+i) s 0 o.2 l)
     | _=>none)
    | none=>none) else none)=some cs:=ea
   cases hb:Nat.ble ntg s with
   | false=>rw [hb] at ea;cases ea
   | true =>
    rw [hb] at ea
    simp only [cond_true] at ea
    have hle:=Nat.le_of_ble_eq_true hb
    cases ho:sg.objs[s - ntg]? with
    | none=>rw [ho] at ea;cases ea
    | some o =>
     rw [ho] at ea
     simp only at ea
     obtain ⟨oF,l,c1,c2,c3⟩:=DK (s - ntg) o ho
     rw [Nat.zero_add] at c1
     have e1:(cU sg.ps xs ++ ins)[sg.ps.length+(s - ntg)]?=some (.ag l):=by
      rw [← Vf,List.getElem?_append_right (by omega),show (cU sg.ps xs).length+(s - ntg) - (cU sg.ps xs).length=s - ntg by omega]
      exact c3
     rw [e1] at ea
     simp only [Option.some.injEq] at ea
     subst ea
     obtain ⟨r,us,e,d1,d2,d3,d4⟩:=h.mem _ oF c1
     obtain ⟨f1,f2,f3⟩:=jh c2
     obtain ⟨g1,g2⟩:=kv (site:=fun i=>ntg+i) (s:=s) (ks:=o.2) (j0:=0) (l:=l)
     have hi:s - ntg < sites.length:=by rw [hl];exact (List.getElem?_eq_some_iff.1 ho).1
     refine ⟨r,us,e,?_,d2,by rw [d3,f1,g1],fun j c v hc QU=>?_⟩
     ·have:=hσo (s - ntg) hi
      rw [show ntg+(s - ntg)=s by omega] at this
      rw [this];exact d1
     ·have hj:j < o.2.length:=by rw [← g1];exact (List.getElem?_eq_some_iff.1 hc).1
      have Aa:o.2[j]?=some o.2[j]:=List.getElem?_eq_getElem hj
      have ju:oF[j]?=some oF[j]:=List.getElem?_eq_getElem (by omega)
      obtain ⟨u,u1,u2⟩:=f3 j _ _ Aa ju
      have hr:=d4 j _ v ju QU
      rw [g2 j _ Aa] at hc
      simp only [Nat.zero_add,Option.some.injEq] at hc
      have QV:l.getD j .un=u:=by rw [List.getD_eq_getElem?_getD,u1];rfl
      rw [QV] at hc
      obtain ⟨s1,s2,s3⟩:=lr fm ho Aa
      generalize tZ:o.2[j]=kk at hc Aa u2 s2 s3
      generalize ln:oF[j]=cc at ju u2 hr
      subst hc
      cases kk with
      | v =>
       unfold Jb at u2
       simp only at u2
       cases ht:cc.told with
       | false=>rw [ht] at u2;cases u2
       | true =>
        rw [ht] at u2
        simp only [cond_true,Option.some.injEq] at u2
        subst u2
        cases cc with
        | val x=>exact ⟨hr.1,hr.2.mono hF⟩
        | own id e k l'=>exact absurd rfl (oO _ j o oF _ ho Aa c1 ju id e k l')
        | _=>cases ht
      | own e k =>
       unfold Jb at u2
       simp only at u2
       split at u2
       ·rename_i id e' k' l'
        cases lp:(Nat.beq e e' && Nat.beq k k') with
        | false=>rw [lp] at u2;cases u2
        | true =>
         rw [lp] at u2
         simp only [cond_true,Option.some.injEq] at u2
         subst u2
         rw [Bool.and_eq_true] at lp
         have z1:=Nat.eq_of_beq_eq_true lp.1
         have z2:=Nat.eq_of_beq_eq_true lp.2
         subst z1;subst z2
         refine ⟨rU (fun y hy=>l8.inj fm ?_ hy) ?_,hr.2.mono hF fun _ _=>rfl⟩ <;>
         exact ⟨s - ntg,j,e,k,o,oF,ho,Aa,c1,by rw [show ntg+(s - ntg)=s by omega], .inl ⟨id,e,k,l',ju,hr.1⟩⟩
       ·cases Nt:Nat.blt 0 k with
        | false=>rw [Nt] at u2;cases u2
        | true =>
         rw [Nt] at u2
         simp only [cond_true,Option.some.injEq] at u2
         subst u2
         have QW:v=.slice none 0 0:=by
          have:=hr.2
          cases this;rfl
         subst QW
         refine ⟨rU (fun y hy=>l8.inj fm ?_ hy) ?_,s2 e k rfl,[],World.ownsRow_nil w 0 _ _,by simp,fun i j v hi=>by simp [AV.elems] at hi⟩ <;>
         exact ⟨s - ntg,j,e,k,o,oF,ho,Aa,c1,by rw [show ntg+(s - ntg)=s by omega], .inr ⟨ju,rfl⟩⟩
       ·cases u2
      | eF g os =>
       unfold Jb at u2
       simp only at u2
       split at u2
       ·rename_i h' ss
        cases lp:(Nat.beq g h' && eT ss (os.map fun i=>sites.getD i 0)) with
        | false=>rw [lp] at u2;cases u2
        | true =>
         rw [Bool.and_eq_true] at lp
         have z1:=Nat.eq_of_beq_eq_true lp.1
         subst z1
         exact FG g os ss v H (fun q hq=>by rw [hl];exact s3 g os rfl q hq) lp.2 hr
       ·cases u2
  hown:=fun i x g hi hg=>by
   obtain ⟨gO,h1,h2⟩:=Vg i x hi g hg
   exact ⟨.inr (.inr ⟨gO,h1,x,h2,hg⟩),(h.hown gO x g h2 hg).2⟩
  sown:=fun s r hs=>by
   obtain ⟨i,h1,_,h3⟩:=hσc s r hs
   exact ⟨.inr (.inl ⟨i,h1,h3⟩),(h.sown _ r h3).2⟩
  obj:=fun s b hb=>by
   refine ⟨?_,hb⟩
   obtain ⟨i,_,h2,_⟩:=hσc s b hb
   omega
  hh:=fun i i' x y g aY hi eQ hx hy=>by
   obtain ⟨i1,j1,e1,k1,o1,XO,a1,a2,a3,a4,a5⟩:=gN hi
   obtain ⟨i2,j2,e2,k2,o2,qM,b1,b2,b3,b4,b5⟩:=gN eQ
   rcases a5 with ⟨Ve,e3,k3,l1,c1,c2⟩ | ⟨_,rfl⟩
   ·rcases b5 with ⟨mJ,e4,k4,l2,d1,d2⟩ | ⟨_,rfl⟩
    ·have q1:jW (fun i=>sites.getD i 0) st.mem sg.objs 0 i1 j1 Ve:=⟨o1,XO,e1,k1,e3,k3,l1,a1,by rw [Nat.zero_add];exact a3,a2,c1⟩
     have q2:jW (fun i=>sites.getD i 0) st.mem sg.objs 0 i2 j2 mJ:=⟨o2,qM,e2,k2,e4,k4,l2,b1,by rw [Nat.zero_add];exact b3,b2,d1⟩
     refine h.hh Ve mJ x y g (fun e=>?_) c2 d2 hx hy
     subst e
     obtain ⟨z1,z2⟩:=uC (by rw [hL];exact Nx) q1 q2
     subst z1;subst z2
     exact aY (a4.trans b4.symm)
    ·cases hy
   ·cases hx
  hs:=fun i s x r hi hs hx=>by
   obtain ⟨gO,_,h2⟩:=Vg i x hi r hx
   obtain ⟨q,_,_,h3⟩:=hσc s r hs
   exact h.hs gO _ x r h2 h3 hx
  ss:=fun s s' r aY hs lj=>by
   obtain ⟨q,q1,q2,q3⟩:=hσc s r hs
   obtain ⟨p,p1,p2,p3⟩:=hσc s' r lj
   refine h.ss _ _ r (fun e=>?_) q3 p3
   have e1:sites[q]?=some (sites.getD q 0):=by rw [List.getD_eq_getElem?_getD,List.getElem?_eq_getElem q1];rfl
   have e2:sites[p]?=some (sites.getD q 0):=by rw [e,List.getD_eq_getElem?_getD,List.getElem?_eq_getElem p1];rfl
   have:=uB hn e1 e2
   omega
  glob:=fun g k e hg=>by
   obtain ⟨r,o,h1,h2,h3,h4⟩:=h.glob g k e hg
   exact ⟨r,o,h1,(hF r h3 h2).1,h3,fun j hj=>by
    obtain ⟨v,a1,a2,a3⟩:=h4 j hj
    exact ⟨v,a1,a2,a3.mono hF⟩⟩
  below:=E4.refl _ w }
end
def lu (site:Nat→Nat):Nat→List (Src×List gf)→List (List AV)→St→St
 | i,o :: r,l :: ls,st=>lu site (i+1) r ls (st.dZ (site i) (dQ site (site i) 0 o.2 l))
 | _,_,_,st=>st
theorem pQ {site:Nat→Nat}:∀ {objs:List (Src×List gf)} {ls:List (List AV)} {i:Nat} {st:St},(lu site i objs ls st).env=st.env
 | [],_,_,_=>rfl
 | _ :: _,[],_,_=>rfl
 | o :: r,l :: ls,i,st=>pQ (objs:=r) (ls:=ls)
theorem pR {site:Nat→Nat}:∀ {objs:List (Src×List gf)} {ls:List (List AV)} {i0:Nat} {st:St} {s:Nat} {cs:List Cell},(lu site i0 objs ls st).mem s=some cs →
  (∃ i o l,objs[i]?=some o∧ls[i]?=some l∧s=site (i0+i)∧cs=dQ site s 0 o.2 l)∨((∀ i,i < objs.length→i < ls.length→s≠site (i0+i))∧st.mem s=some cs)
 | [],_,_,_,_,_,h=>.inr ⟨fun i hi=>by simp at hi,h⟩
 | _ :: _,[],_,_,_,_,h=>.inr ⟨fun i _ hi=>by simp at hi,h⟩
 | o :: r,l :: ls,i0,st,s,cs,h=>by
  have h:(lu site (i0+1) r ls (st.dZ (site i0) (dQ site (site i0) 0 o.2 l))).mem s=some cs:=h
  rcases pR h with ⟨i,o',l',h1,h2,h3,h4⟩ | ⟨h1,h2⟩
  ·exact .inl ⟨i+1,o',l',by simpa using h1,by simpa using h2,by rw [h3];congr 1;omega,h4⟩
  ·simp only [St.dZ,aO] at h2
   split at h2
   ·rename_i hs
    cases h2
    exact .inl ⟨0,o,l,rfl,rfl,hs,by rw [hs]⟩
   ·rename_i hs
    refine .inr ⟨fun i hi eQ=>?_,h2⟩
    cases i with
    | zero=>exact hs
    | succ i =>
     have:=h1 i (by simpa using hi) (by simpa using eQ)
     rw [show i0+(i+1)=i0+1+i by omega];exact this
theorem rX {R:Type} {site:Nat→Nat} {r0:AV} {K:St→Option R} {r:R}:∀ {objs:List (Src×List gf)} {pre ls:List (List AV)} {st:St},ls.length=objs.length→pD site (.tu (r0 :: (pre ++ ls).map .ag)) pre.length objs st K=some r→K (lu site pre.length objs ls st)=some r
 | [],pre,[],st,_,h=>h
 | [],pre,_ :: _,st,hl,_=>by simp at hl
 | _ :: _,pre,[],st,hl,_=>by simp at hl
 | o :: t,pre,l :: ls,st,hl,h=>by
  simp only [pD] at h
  obtain ⟨v,hv,h⟩:=Option.bind_eq_some_iff.1 h
  obtain ⟨l',Fq,h⟩:=Option.bind_eq_some_iff.1 h
  have hv:(r0 :: (pre ++ l :: ls).map AV.ag)[pre.length+1]?=some v:=hv
  rw [List.getElem?_cons_succ,List.getElem?_map,List.getElem?_append_right (Nat.le_refl _),Nat.sub_self] at hv
  simp only [List.getElem?_cons_zero,Option.map_some,Option.some.injEq] at hv
  subst hv
  unfold AV.aE at Fq
  simp only at Fq
  split at Fq
  ·cases Fq
   have e:(pre ++ l :: ls)=((pre ++ [l]) ++ ls):=by simp
   rw [e,show pre.length+1=(pre ++ [l]).length by simp] at h
   have:=rX (objs:=t) (pre:=pre ++ [l]) (ls:=ls) (by simpa using hl) h
   rw [show (pre ++ [l]).length=pre.length+1 by simp] at this
   exact this
  ·cases Fq
section
variable {C:cS} {P:Program} {w0:World} {F0:Fs} {nt:Nat} {st:St} {a:Act} {w:World} {H:Nat→Option Value} {σ:Nat→Option Nat}
def fp (w':World) (σ:Nat→Option Nat) (site:Nat→Nat) (objs:List (Src×List gf)) (id:Nat) (x:Value):Prop :=
 ∃ (i j e k b t:Nat) (o:Src×List gf) (us:List Value),objs[i]?=some o∧o.2[j]?=some (.own e k)∧id=cu (site i) j∧σ (site i)=some b∧w'.heap[b]?=some (.cells us.toArray t (0,0))∧us[j]?=some x
theorem nO {g ntg:Nat} {sg:vp} {fn:Func} {res:AV} (h:nE C g ntg sg fn st=some res):∃ outs,C.own g=[]∧(fn.results.toList.map (dh C st)).all aV.told=true∧nodup (cf true (fun i=>ntg+i) st.mem 0 sg.outs)=true ∧
  (∀ id ∈ cf true (fun i=>ntg+i) st.mem 0 sg.outs,id ∉ ((fn.results.toList.map (dh C st)).flatMap aV.ids ++ cf false (fun i=>ntg+i) st.mem 0 sg.outs))∧nD (fun i=>ntg+i) st.mem 0 sg.outs=some outs∧res=.tu (one? ((fn.results.toList.map (dh C st)).map aV.aU) :: outs):=by
 unfold nE at h
 simp only at h
 cases hb:((C.own g).isEmpty && ((fn.results.toList.map (dh C st)).all aV.told && (nodup (cf true (fun i=>ntg+i) st.mem 0 sg.outs) && (cf true (fun i=>ntg+i) st.mem 0 sg.outs).all (fun i=>!(((fn.results.toList.map (dh C st)).flatMap aV.ids ++ cf false (fun i=>ntg+i) st.mem 0 sg.outs).any fun j=>Nat.beq i j))))) with
 | false=>rw [hb] at h;cases h
 | true =>
  rw [hb] at h
  simp only [cond_true] at h
  obtain ⟨outs,ho,h⟩:=Option.bind_eq_some_iff.1 h
  cases h
  simp only [Bool.and_eq_true] at hb
  refine ⟨outs,by simpa using hb.1,hb.2.1,hb.2.2.1,fun id hid hm=>?_,ho,rfl⟩
  have:=List.all_eq_true.1 hb.2.2.2 id hid
  simp only [Bool.not_eq_true',List.any_eq_false] at this
  exact this id hm (Nat.beq_refl id)
theorem yl:∀ {ks:List gf} {cs:List Cell} {j id:Nat} {c:Cell},(∀ e k,ks[j]?≠some (.own e k))→j < ks.length→cs[j]?=some c→id ∈ c.ids→id ∈ qw false ks cs
 | [],_,j,id,c,_,h,_,_=>by simp at h
 | _ :: _,[],j,id,c,_,_,h,_=>by simp at h
 | q :: ks,c0 :: cs,j,id,c,hk,hj,hc,hi=>by
  cases j with
  | zero =>
   simp at hc
   subst hc
   cases q with
   | own e k=>exact absurd rfl (hk e k)
   | _=>exact List.mem_append_left _ hi
  | succ j =>
   have:=yl (ks:=ks) (cs:=cs) (j:=j) (id:=id) (fun e k=>by simpa using hk e k) (by simpa using hj) (by simpa using hc) hi
   cases q <;> exact List.mem_append_right _ this
theorem oT {site:Nat→Nat} {mem:Nat→Option (List Cell)}:∀ {objs:List (Src×List gf)} {i0 i j id:Nat} {o:Src×List gf} {cs:List Cell} {c:Cell},objs[i]?=some o→mem (site (i0+i))=some cs→(∀ e k,o.2[j]?≠some (.own e k))→j < o.2.length→cs[j]?=some c→id ∈ c.ids→id ∈ cf false site mem i0 objs
 | [],i0,i,j,id,o,cs,c,h,_,_,_,_,_=>by simp at h
 | q :: r,i0,i,j,id,o,cs,c,h1,h2,h3,h4,h5,h6=>by
  cases i with
  | zero =>
   simp at h1
   subst h1
   have h2:mem (site i0)=some cs:=h2
   simp only [cf,h2]
   exact List.mem_append_left _ (yl h3 h4 h5 h6)
  | succ i=>exact List.mem_append_right _ (oT (i:=i) (by simpa using h1) (by rw [show i0+1+i=i0+(i+1) by omega];exact h2) h3 h4 h5 h6)
theorem BT:∀ {outs:List AV},(∀ (i:Nat) (x:AV),outs[i]?=some x→∃ l,x=.ag l)→∃ ls:List (List AV),outs=ls.map .ag
 | [],_=>⟨[],rfl⟩
 | x :: r,h=>by
  obtain ⟨l,rfl⟩:=h 0 x rfl
  obtain ⟨ls,rfl⟩:=BT (outs:=r) fun i x hx=>h (i+1) x (by simpa using hx)
  exact ⟨l :: ls,rfl⟩
theorem JH {F:Nat→Prop}:∀ {rs:List AV} {vs:List Value},rs.length=vs.length→(∀ (j:Nat) (x:Value) (v:AV),vs[j]?=some x→rs[j]?=some v→Rel w F v x)→Rel w F (one? rs) (ub vs)
 | [],[],_,_=>.tu [] [] rfl (fun j v hv=>by simp at hv)
 | [v],[x],_,h=>h 0 x v rfl rfl
 | v :: v' :: rs,x :: x' :: vs,hl,h=>by
  refine .tu (v :: v' :: rs) (x :: x' :: vs) hl fun j u hu=>?_
  have hj:j < (v :: v' :: rs).length:=by rw [hl];exact (List.getElem?_eq_some_iff.1 hu).1
  have:=h j u _ hu (List.getElem?_eq_getElem hj)
  rw [List.getD_eq_getElem?_getD,List.getElem?_eq_getElem hj]
  exact this
 | [],_ :: _,hl,_=>by simp at hl
 | _ :: _,[],hl,_=>by simp at hl
 | [_],_ :: _ :: _,hl,_=>by simp at hl
 | _ :: _ :: _,[_],hl,_=>by simp at hl
theorem fp.inj {n:Nat} {objs:List (Src×List gf)} {w':World} {sites:List Nat} (h:mw n objs=true) (hn:nodup sites=true) (hl:sites.length=objs.length) {id:Nat} {x y:Value} (h1:fp w' σ (fun i=>sites.getD i 0) objs id x) (h2:fp w' σ (fun i=>sites.getD i 0) objs id y):y=x:=by
 obtain ⟨i,j,e,k,b,t,o,us,a1,a2,a3,a4,a5,a6⟩:=h1
 obtain ⟨i',j',e',k',b',t',o',QX,c1,c2,c3,c4,c5,c6⟩:=h2
 obtain ⟨q1,q2⟩:=rW (a3.symm.trans c3) (lr h a1 a2).1 (lr h c1 c2).1
 have hi:i < sites.length:=by rw [hl];exact (List.getElem?_eq_some_iff.1 a1).1
 have eQ:i' < sites.length:=by rw [hl];exact (List.getElem?_eq_some_iff.1 c1).1
 have e1:sites[i]?=some (sites.getD i 0):=by rw [List.getD_eq_getElem?_getD,List.getElem?_eq_getElem hi];rfl
 have q1:sites.getD i 0=sites.getD i' 0:=q1
 have e2:sites[i']?=some (sites.getD i 0):=by rw [q1,List.getD_eq_getElem?_getD,List.getElem?_eq_getElem eQ];rfl
 have:=uB hn e1 e2
 subst this;subst q2
 rw [a4] at c4;cases c4
 rw [a5] at c5
 have:us=QX:=by have:=Option.some.inj c5;simp at this;exact this.1
 subst this
 rw [a6] at c6
 exact (Option.some.inj c6).symm
theorem DR (hT:∀ t i,C.ty t=some i→cm P t i) (h:Inv C w0 F0 nt st a w H σ) {sg:vp} {sites:List Nat} {g:Nat} {fn:Func} {ins:List AV} {w':World} {j5:St} {a2:Act} {H2:Nat→Option Value} {σ2:Nat→Option Nat} {res:AV} {v:Value}
  (fm:mw sg.objs.length sg.outs=true) (jB:sg.outs.length=sg.objs.length) (hn:nodup sites=true) (hl:sites.length=sg.outs.length) (Nx:nodup (cf true (fun i=>sites.getD i 0) st.mem 0 sg.objs)=true)
  (hk:nD (fun i=>sites.getD i 0) st.mem 0 sg.objs=some ins)
  (hI:Inv C w (kA w0 F0 H σ (fun i=>sites.getD i 0) sites.length fn.ntmps (cf true (fun i=>sites.getD i 0) st.mem 0 sg.objs)) fn.ntmps j5 a2 w' H2 σ2)
  (hf:nE C g fn.ntmps sg fn j5=some res) (a8:(results fn a2.tmps).run P w'=.ok v w') :
  ∃ r0 ls H',res=.tu (r0 :: ls.map .ag)∧ls.length=sg.outs.length ∧
   Inv C w0 F0 nt (lu (fun i=>sites.getD i 0) 0 sg.outs ls (st.E1 (cf true (fun i=>sites.getD i 0) st.mem 0 sg.objs ++ cz (fun i=>sites.getD i 0) 0 sg.outs))) a w' H' σ∧Rel w' (Fr w0.heap.size F0 H' σ) r0 v:=by
 obtain ⟨tU,DK⟩:=jD hk
 obtain ⟨outs,f1,f2,f3,f4,f5,rfl⟩:=nO hf
 obtain ⟨X5,TZ⟩:=jD f5
 generalize hL:cf true (fun i=>sites.getD i 0) st.mem 0 sg.objs=L at Nx hI ⊢
 generalize L4:(fun i=>sites.getD i 0)=site at *
 have hsi:∀ i,site i=sites.getD i 0:=fun i=>by rw [← L4]
 obtain ⟨vs,g1,g2,g3⟩:=mI hT hI fn fun rv hm=>List.all_eq_true.1 f2 _ (List.mem_map.2 ⟨rv,hm,rfl⟩)
 have hv:v=ub vs:=by rw [g2] at a8;cases a8;rfl
 subst hv
 obtain ⟨H3,Vh,L5,QY,QZ⟩:=hI.vC ((fn.results.toList.map (dh C j5)).flatMap aV.ids ++ cf false (fun i=>fn.ntmps+i) j5.mem 0 sg.outs)
 obtain ⟨ls,rfl⟩:=BT (outs:=outs) fun i x hx=>by
  have hi:i < sg.outs.length:=by rw [← X5];exact (List.getElem?_eq_some_iff.1 hx).1
  obtain ⟨cs,Vd,_,_,q3⟩:=TZ i sg.outs[i] (List.getElem?_eq_getElem hi)
  rw [q3] at hx
  exact ⟨Vd,(Option.some.inj hx).symm⟩
 have L3:ls.length=sg.outs.length:=by simpa using X5
 have FH:∀ (i:Nat) (o:Src×List gf),sg.outs[i]?=some o→∃ (b:Nat) (us:List Value) (t:Nat) (qM:List Cell) (l:List AV),σ (site i)=some b∧σ2 (fn.ntmps+i)=some b∧w'.heap[b]?=some (.cells us.toArray t (0,0))∧us.length=o.2.length∧ls[i]?=some l∧DE (fun i=>fn.ntmps+i) o.2 qM=some l∧j5.mem (fn.ntmps+i)=some qM ∧
   ∀ (j:Nat) (c:Cell) (x:Value),qM[j]?=some c→us[j]?=some x→bg w' (Fr w.heap.size (kA w0 F0 H σ site sites.length fn.ntmps L) H2 σ2) H2 σ2 c x:=by
  intro i o ho
  obtain ⟨cs,_,q1,_,_⟩:=DK i (sg.objs[i]'(by rw [← jB];exact (List.getElem?_eq_some_iff.1 ho).1)) (List.getElem?_eq_getElem _)
  rw [Nat.zero_add] at q1
  obtain ⟨b,_,_,b1,_,_,_⟩:=h.mem (site i) cs (by rw [hsi];exact q1)
  have hi:i < sites.length:=by rw [hl];exact (List.getElem?_eq_some_iff.1 ho).1
  have hob:(kA w0 F0 H σ site sites.length fn.ntmps L).obj (fn.ntmps+i)=some b:=by
   show kz σ site sites.length fn.ntmps (fn.ntmps+i)=some b
   unfold kz
   rw [if_pos (by omega),show fn.ntmps+i - fn.ntmps=i by omega]
   exact b1
  obtain ⟨qM,l,r1,r2,r3⟩:=TZ i o ho
  rw [Nat.zero_add] at r1
  obtain ⟨b',us,t,c1,c2,c3,c4⟩:=hI.mem _ qM r1
  have lp:=(hI.obj _ b hob).2
  have:b'=b:=by rw [lp] at c1;exact (Option.some.inj c1).symm
  subst this
  obtain ⟨z1,z2,_⟩:=jh r2
  rw [List.getElem?_map] at r3
  cases II:ls[i]? with
  | none=>rw [II] at r3;cases r3
  | some l' =>
   rw [II] at r3
   simp only [Option.map_some,Option.some.injEq,AV.ag.injEq] at r3
   subst r3
   exact ⟨b',us,t,qM,l',b1,lp,c2,by rw [c3,z1],rfl,r2,r1,c4⟩
 have ma:∀ b,uD σ H site sites.length L b→(w0.heap.size≤b∨F0.gg b)∧b < w.heap.size∧(∀ id x,id ∉ L→H id=some x→x.ownBlock≠some b)∧(∀ s,(∀ i,i < sites.length→s≠site i)→σ s≠some b)∧¬ Fr w0.heap.size F0 H σ b:=by
  intro b hb
  rcases hb with ⟨i,hi,hs⟩ | ⟨id,hid,x,hx,oU⟩
  ·exact ⟨(h.sown _ b hs).1,(h.sown _ b hs).2,fun id x _ hx e=>h.hs id _ x b hx hs e,fun s aY lj=>h.ss s (site i) b (aY i hi) lj hs,fun hf=>hf.2.2 _ hs⟩
  ·exact ⟨(h.hown id x b hx oU).1,(h.hown id x b hx oU).2,fun gO y JI hy e=>h.hh gO id y x b (fun e=>JI (e ▸ hid)) hy hx e oU,fun s _ hs=>h.hs id s x b hx hs oU,fun hf=>hf.2.1 id x hx oU⟩
 have BU:∀ id x,fp w' σ site sg.outs id x→id ∈ cz site 0 sg.outs∧∃ i j e k,id=cu (site i) j∧i < sites.length∧(∃ o,sg.outs[i]?=some o∧o.2[j]?=some (.own e k)) ∧
   ((x=.slice none 0 0)∨∃ mJ,jW (fun i=>fn.ntmps+i) j5.mem sg.outs 0 i j mJ∧H3 mJ=some x):=by
  intro id x hx
  obtain ⟨i,j,e,k,b,t,o,us,a1,a2,a3,a4,a5,a6⟩:=hx
  have hm:=nN (site:=site) (i0:=0) a1 a2
  rw [Nat.zero_add] at hm
  refine ⟨by rw [a3];exact hm,i,j,e,k,a3,by rw [hl];exact (List.getElem?_eq_some_iff.1 a1).1,⟨o,a1,a2⟩,?_⟩
  obtain ⟨b',QX,t',qM,l,b1,b2,b3,b4,b5,b6,b7,b8⟩:=FH i o a1
  rw [a4] at b1;cases b1
  rw [a5] at b3
  have:us=QX:=by have:=Option.some.inj b3;simp at this;exact this.1
  subst this
  obtain ⟨z1,z2,z3⟩:=jh b6
  have hj:j < qM.length:=by rw [z1];exact (List.getElem?_eq_some_iff.1 a2).1
  have ju:qM[j]?=some qM[j]:=List.getElem?_eq_getElem hj
  obtain ⟨u,_,u2⟩:=z3 j _ _ a2 ju
  have hr:=b8 j _ x ju a6
  generalize ln:qM[j]=cc at ju u2 hr
  unfold Jb at u2
  simp only at u2
  split at u2
  ·rename_i mJ e' k' l'
   right
   have how:jW (fun i=>fn.ntmps+i) j5.mem sg.outs 0 i j mJ:=⟨o,qM,e,k,e',k',l',a1,by rw [Nat.zero_add];exact b7,a2,ju⟩
   exact ⟨mJ,how,QZ mJ x (f4 mJ (lq how)) hr.1⟩
  ·left
   have:=hr.2
   cases this;rfl
  ·cases u2
 have ym:∀ id x b,fp w' σ site sg.outs id x→x.ownBlock=some b→(w.heap.size≤b∨uD σ H site sites.length L b)∧b < w'.heap.size∧∃ mJ,H3 mJ=some x:=by
  intro id x b hx hb
  obtain ⟨_,i,j,e,k,_,_,_,lS⟩:=BU id x hx
  rcases lS with rfl | ⟨mJ,_,h3⟩
  ·cases hb
  ·have:=Vh.hown mJ x b h3 hb
   exact ⟨this.1,this.2,mJ,h3⟩
 have Vi:∀ id x y,fp w' σ site sg.outs id x→fp w' σ site sg.outs id y→y=x:=by
  intro id x y h1 h2
  rw [← L4] at h1 h2
  exact fp.inj fm hn hl h1 h2
 let H':Nat→Option Value:=fun id=>match gM (fp w' σ site sg.outs) id with | some x=>some x | none=>erases H (L ++ cz site 0 sg.outs) id
 have Qa:∀ id x,H' id=some x→fp w' σ site sg.outs id x∨(erases H (L ++ cz site 0 sg.outs) id=some x):=by
  intro id x hx
  have hx:(match gM (fp w' σ site sg.outs) id with | some x=>some x | none=>erases H (L ++ cz site 0 sg.outs) id)=some x:=hx
  cases hp:gM (fp w' σ site sg.outs) id with
  | some y=>rw [hp] at hx;cases hx;exact .inl (gN hp)
  | none=>rw [hp] at hx;exact .inr hx
 have Ya:∀ id x,fp w' σ site sg.outs id x→H' id=some x:=by
  intro id x hx
  show (match gM (fp w' σ site sg.outs) id with | some x=>some x | none=>_)=some x
  rw [rU (fun y hy=>Vi id x y hx hy) hx]
 have L6:∀ id x,erases H (L ++ cz site 0 sg.outs) id=some x→H id=some x∧id ∉ L∧id ∉ cz site 0 sg.outs:=by
  intro id x hx
  obtain ⟨h1,h2⟩:=yk hx
  exact ⟨h1,fun hm=>h2 (List.mem_append_left _ hm),fun hm=>h2 (List.mem_append_right _ hm)⟩
 have BV:∀ b,b < w.heap.size→¬ uD σ H site sites.length L b→w'.heap[b]?=w.heap[b]?:=fun b hb pH=>hI.below.block b hb pH
 have hF:∀ b,b < w.heap.size→Fr w0.heap.size F0 H σ b→Fr w0.heap.size F0 H' σ b∧w'.heap[b]?=w.heap[b]?:=by
  intro b hb hf
  have pH:¬ uD σ H site sites.length L b:=fun IJ=>(ma b IJ).2.2.2.2 hf
  refine ⟨⟨hf.1,fun id x hx e=>?_,hf.2.2⟩,BV b hb pH⟩
  rcases Qa id x hx with hx | hx
  ·rcases (ym id x b hx e).1 with h5 | h5
   ·omega
   ·exact pH h5
  ·exact hf.2.1 id x (L6 id x hx).1 e
 have Vj:∀ b,b < w'.heap.size→Fr w.heap.size (kA w0 F0 H σ site sites.length fn.ntmps L) H3 σ2 b→Fr w0.heap.size F0 H' σ b∧w'.heap[b]?=w'.heap[b]?:=by
  intro b hb hf
  have ux:w.heap.size≤b∨Fr w0.heap.size F0 H σ b∨uD σ H site sites.length L b:=by
   rcases Nat.lt_or_ge b w.heap.size with aM | cI
   ·exact .inr (hf.1 aM)
   ·exact .inl cI
  refine ⟨⟨fun aM=>?_,fun id x hx e=>?_,fun s hs=>?_⟩,rfl⟩
  ·rcases ux with h5 | h5 | h5
   ·have:=h.below.size;omega
   ·exact h5.1 aM
   ·rcases (ma b h5).1 with h6 | h6
    ·omega
    ·exact .inr h6
  ·rcases Qa id x hx with hx | hx
   ·obtain ⟨_,_,mJ,h3⟩:=ym id x b hx e
    exact hf.2.1 mJ x h3 e
   ·obtain ⟨h1,h2,_⟩:=L6 id x hx
    have Vk:=(h.hown id x b h1 e).2
    rcases ux with h5 | h5 | h5
    ·omega
    ·exact h5.2.1 id x h1 e
    ·exact (ma b h5).2.2.1 id x h2 h1 e
  ·by_cases lj:∃ i,i < sites.length∧s=site i
   ·obtain ⟨i,hi,rfl⟩:=lj
    obtain ⟨b',_,_,_,_,b1,b2,_⟩:=FH i sg.outs[i] (List.getElem?_eq_getElem (by omega))
    rw [hs] at b1;cases b1
    exact hf.2.2 _ b2
   ·have Vk:=(h.sown s b hs).2
    rcases ux with h5 | h5 | h5
    ·omega
    ·exact h5.2.2 s hs
    ·exact (ma b h5).2.2.2.1 s (fun i hi e=>lj ⟨i,hi,e⟩) hs
 have Yb:∀ id y,erases H (L ++ cz site 0 sg.outs) id=some y→H' id=some y∧∀ b,y.ownBlock=some b→w'.heap[b]?=w.heap[b]?:=by
  intro id y hy
  obtain ⟨h1,h2,h3⟩:=L6 id y hy
  refine ⟨?_,fun b hb=>BV b (h.hown id y b h1 hb).2 fun IJ=>(ma b IJ).2.2.1 id y h2 h1 hb⟩
  show (match gM (fp w' σ site sg.outs) id with | some x=>some x | none=>erases H (L ++ cz site 0 sg.outs) id)=some y
  cases hp:gM (fp w' σ site sg.outs) id with
  | some z=>exact absurd (BU id z (gN hp)).1 h3
  | none=>exact hy
 have oH:∀ e y,bO w (Fr w0.heap.size F0 H σ) H σ e y→bO w' (Fr w0.heap.size F0 H' σ) H' σ ((L ++ cz site 0 sg.outs).foldl (fun e i=>aV.kl i e) e) y:=fun e y he=>(JE _ he).mono hF Yb fun _ _ hs=>hs
 have l7:∀ c y,bg w (Fr w0.heap.size F0 H σ) H σ c y→bg w' (Fr w0.heap.size F0 H' σ) H' σ ((L ++ cz site 0 sg.outs).foldl (fun c i=>Cell.kl i c) c) y:=fun c y hc=>(FE _ hc).mono hF (fun i y hi _=>Yb i y hi) fun _ _ hs _=>hs
 refine ⟨_,ls,H',rfl,L3,?_,?_⟩
 ·exact {
   defers:=h.defers
   size:=h.size
   env:=fun t=>by rw [pQ,JF];exact oH _ _ (h.env t)
   mem:=fun s cs ea=>by
    rcases pR ea with ⟨i,o,l,q1,q2,q3,q4⟩ | ⟨q1,q2⟩
    ·rw [Nat.zero_add] at q3
     subst q3;subst q4
     obtain ⟨b,us,t,qM,l',b1,b2,b3,b4,b5,b6,b7,b8⟩:=FH i o q1
     rw [q2] at b5;cases b5
     obtain ⟨z1,z2,z3⟩:=jh b6
     obtain ⟨y1,y2⟩:=kv (site:=site) (s:=site i) (ks:=o.2) (j0:=0) (l:=l)
     refine ⟨b,us,t,b1,b3,by rw [b4,y1],fun j c x hc hx=>?_⟩
     have hj:j < o.2.length:=by rw [← y1];exact (List.getElem?_eq_some_iff.1 hc).1
     have Aa:o.2[j]?=some o.2[j]:=List.getElem?_eq_getElem hj
     have ju:qM[j]?=some qM[j]:=List.getElem?_eq_getElem (by omega)
     obtain ⟨u,u1,u2⟩:=z3 j _ _ Aa ju
     have hr:=b8 j _ x ju hx
     rw [y2 j _ Aa] at hc
     simp only [Nat.zero_add,Option.some.injEq] at hc
     have QV:l.getD j .un=u:=by rw [List.getD_eq_getElem?_getD,u1];rfl
     rw [QV] at hc
     obtain ⟨s1,s2,s3⟩:=lr fm q1 Aa
     have il:(∀ e k,o.2[j]≠.own e k)→∀ id ∈ (qM[j]).ids,id ∈ cf false (fun i=>fn.ntmps+i) j5.mem 0 sg.outs:=fun aY id hid =>
      oT q1 (by rw [Nat.zero_add];exact b7) (fun e k he=>by rw [Aa] at he;exact aY e k (Option.some.inj he)) hj ju hid
     generalize tZ:o.2[j]=kk at hc Aa u2 s2 s3 il
     generalize ln:qM[j]=cc at ju u2 hr il
     subst hc
     cases kk with
     | v =>
      unfold Jb at u2
      simp only at u2
      cases ht:cc.told with
      | false=>rw [ht] at u2;cases u2
      | true =>
       rw [ht] at u2
       simp only [cond_true,Option.some.injEq] at u2
       subst u2
       refine ⟨hr.one,?_⟩
       have h5:bO w' (Fr w.heap.size (kA w0 F0 H σ site sites.length fn.ntmps L) H2 σ2) H2 σ2 (.cell cc) x:=by
        cases cc with
        | val y=>exact hr.2
        | own id e k l'=>exact hr
        | _=>cases ht
       have h6:=du (L5 _ _ h5) ht fun id hid=>List.mem_append_right _ (il (fun e k he=>by cases he) id hid)
       exact h6.mono Vj
     | own e k =>
      unfold Jb at u2
      simp only at u2
      have L7:fp w' σ site sg.outs (cu (site i) j) x:=⟨i,j,e,k,b,t,o,us,q1,Aa,rfl,b1,b3,hx⟩
      split at u2
      ·rename_i id e' k' l'
       cases lp:(Nat.beq e e' && Nat.beq k k') with
       | false=>rw [lp] at u2;cases u2
       | true =>
        rw [lp] at u2
        simp only [cond_true,Option.some.injEq] at u2
        subst u2
        rw [Bool.and_eq_true] at lp
        have w1:=Nat.eq_of_beq_eq_true lp.1
        have w2:=Nat.eq_of_beq_eq_true lp.2
        subst w1;subst w2
        refine ⟨Ya _ x L7,?_⟩
        have how:jW (fun i=>fn.ntmps+i) j5.mem sg.outs 0 i j id:=⟨o,qM,e,k,e,k,l',q1,by rw [Nat.zero_add];exact b7,Aa,ju⟩
        have h5:aX w' (Fr w.heap.size (kA w0 F0 H σ site sites.length fn.ntmps L) H3 σ2) e k l' x :=
         hr.2.mono (fun b hb hf=>⟨⟨hf.1,fun i y hy=>hf.2.1 i y (QY i y hy),hf.2.2⟩,rfl⟩) fun _ _=>rfl
        exact h5.mono Vj fun _ _=>rfl
      ·cases Nt:Nat.blt 0 k with
       | false=>rw [Nt] at u2;cases u2
       | true =>
        rw [Nt] at u2
        simp only [cond_true,Option.some.injEq] at u2
        subst u2
        have QW:x=.slice none 0 0:=by
         have:=hr.2
         cases this;rfl
        subst QW
        exact ⟨Ya _ _ L7,s2 e k rfl,[],World.ownsRow_nil w' 0 _ _,by simp,fun i j v hi=>by simp [AV.elems] at hi⟩
      ·cases u2
     | eF g' os =>
      unfold Jb at u2
      simp only at u2
      split at u2
      ·rename_i h' ss
       cases lp:(Nat.beq g' h' && eT ss (os.map fun i=>fn.ntmps+i)) with
       | false=>rw [lp] at u2;cases u2
       | true =>
        rw [Bool.and_eq_true] at lp
        have w1:=Nat.eq_of_beq_eq_true lp.1
        have w2:=kt lp.2
        subst w1;subst w2
        obtain ⟨rs,r1,r2,r3⟩:=hr
        refine ⟨rs,by simpa using r1,r2,fun m s r p1 p2=>?_⟩
        rw [List.getElem?_map] at p1
        cases T1:os[m]? with
        | none=>rw [T1] at p1;cases p1
        | some q =>
         rw [T1] at p1
         simp only [Option.map_some,Option.some.injEq] at p1
         subst p1
         have hq:=s3 g' os rfl q (List.mem_of_getElem? T1)
         obtain ⟨b',_,_,_,_,d1,d2,_⟩:=FH q (sg.outs[q]'(by rw [jB];exact hq)) (List.getElem?_eq_getElem (by rw [jB];exact hq))
         have:=r3 m (fn.ntmps+q) r (by rw [List.getElem?_map,T1];rfl) p2
         rw [d2] at this;cases this
         exact d1
      ·cases u2
    ·rw [JG] at q2
     simp only [Option.map_eq_some_iff] at q2
     obtain ⟨oF,c0,rfl⟩:=q2
     obtain ⟨r,us,e,c1,c2,c3,c4⟩:=h.mem s oF c0
     refine ⟨r,us,e,c1,?_,by simpa using c3,fun j c x hc hx=>?_⟩
     ·rw [BV r (h.sown s r c1).2 fun IJ=>(ma r IJ).2.2.2.1 s (fun i hi e=>q1 i (by omega) (by omega) (by rw [Nat.zero_add];exact e)) c1]
      exact c2
     ·rw [List.getElem?_map] at hc
      cases eh:oF[j]? with
      | none=>rw [eh] at hc;cases hc
      | some cc =>
       rw [eh] at hc
       simp only [Option.map_some,Option.some.injEq] at hc
       subst hc
       exact l7 cc x (c4 j cc x eh hx)
   hown:=fun id x b hx hb=>by
    rcases Qa id x hx with hx | hx
    ·obtain ⟨h1,h2,_⟩:=ym id x b hx hb
     refine ⟨?_,h2⟩
     rcases h1 with h1 | h1
     ·exact .inl (Nat.le_trans h.below.size h1)
     ·exact (ma b h1).1
    ·obtain ⟨h1,h2⟩:=h.hown id x b (L6 id x hx).1 hb
     exact ⟨h1,Nat.lt_of_lt_of_le h2 hI.below.size⟩
   sown:=fun s r hs=>⟨(h.sown s r hs).1,Nat.lt_of_lt_of_le (h.sown s r hs).2 hI.below.size⟩
   obj:=h.obj
   hh:=fun id gO x y b aY hx hy oU IF=>by
    have mixed:∀ id gO x y,fp w' σ site sg.outs id x→erases H (L ++ cz site 0 sg.outs) gO=some y→x.ownBlock=some b→y.ownBlock=some b→False:=by
     intro id gO x y hx hy oU IF
     obtain ⟨h1,_,_⟩:=ym id x b hx oU
     obtain ⟨e1,e2,_⟩:=L6 gO y hy
     have:=(h.hown gO y b e1 IF).2
     rcases h1 with h1 | h1
     ·omega
     ·exact (ma b h1).2.2.1 gO y e2 e1 IF
    rcases Qa id x hx with lS | lS <;> rcases Qa gO y hy with qK | qK
    ·obtain ⟨_,i,j,e,k,a1,a2,a3,a4⟩:=BU id x lS
     obtain ⟨_,i',j',e',k',b1,b2,b3,b4⟩:=BU gO y qK
     rcases a4 with rfl | ⟨mJ,c1,c2⟩
     ·cases oU
     ·rcases b4 with rfl | ⟨id3,d1,d2⟩
      ·cases IF
      ·refine Vh.hh mJ id3 x y b (fun e=>?_) c2 d2 oU IF
       subst e
       obtain ⟨p1,p2⟩:=uC f3 c1 d1
       subst p1;subst p2
       exact aY (a1.trans b1.symm)
    ·exact mixed id gO x y lS qK oU IF
    ·exact mixed gO id y x qK lS IF oU
    ·exact h.hh id gO x y b aY (L6 id x lS).1 (L6 gO y qK).1 oU IF
   hs:=fun id s x r hx hs oU=>by
    rcases Qa id x hx with lS | lS
    ·obtain ⟨h1,_,mJ,h3⟩:=ym id x r lS oU
     by_cases lj:∃ i,i < sites.length∧s=site i
     ·obtain ⟨i,hi,rfl⟩:=lj
      obtain ⟨b',_,_,_,_,b1,b2,_⟩:=FH i sg.outs[i] (List.getElem?_eq_getElem (by omega))
      rw [hs] at b1;cases b1
      exact Vh.hs mJ _ x _ h3 b2 oU
     ·have:=(h.sown s r hs).2
      rcases h1 with h1 | h1
      ·omega
      ·exact (ma r h1).2.2.2.1 s (fun i hi e=>lj ⟨i,hi,e⟩) hs
    ·exact h.hs id s x r (L6 id x lS).1 hs oU
   ss:=h.ss
   glob:=fun g k e hg=>by
    have:=h.glob g k e hg
    obtain ⟨r,o,h1,h2,h3,h4⟩:=this
    obtain ⟨e1,e2⟩:=hF r h3 h2
    refine ⟨r,o,h1,e1,Nat.lt_of_lt_of_le h3 hI.below.size,fun j hj=>?_⟩
    obtain ⟨x,a1,a2,a3⟩:=h4 j hj
    exact ⟨x,by rw [← a1];exact World.cell?_of_block (w:=w) e2,a2,a3.mono hF⟩
   below:=by
    have base:=h.below
    have hb:=hI.below
    refine ⟨hb.os.trans base.os,hb.tape.trans base.tape,hb.output.trans base.output,Nat.le_trans base.size hb.size,fun b aM pH=>?_⟩
    rw [BV b (Nat.lt_of_lt_of_le aM base.size) fun IJ=>?_]
    ·exact base.block b aM pH
    ·rcases (ma b IJ).1 with h5 | h5
     ·omega
     ·exact pH h5 }
 ·have h5:Rel w' (Fr w.heap.size (kA w0 F0 H σ site sites.length fn.ntmps L) H3 σ2) (one? ((fn.results.toList.map (dh C j5)).map aV.aU)) (ub vs):=by
   refine JH (by simp [g1]) fun j x u hx hu=>?_
   rw [List.getElem?_map] at hu
   cases he:(fn.results.toList.map (dh C j5))[j]? with
   | none=>rw [he] at hu;cases hu
   | some e =>
    rw [he] at hu
    simp only [Option.map_some,Option.some.injEq] at hu
    subst hu
    have hm:=List.mem_of_getElem? he
    exact du (L5 _ _ (g3 j e x he hx)) (List.all_eq_true.1 f2 e hm) fun id hid=>List.mem_append_left _ (List.mem_flatMap.2 ⟨e,hm,hid⟩)
  exact h5.mono Vj
end
end Sx
namespace Sx
open Go Go.RowKit Go.Lib
section
variable {C:cS} {P:Program} {w0:World} {F0:Fs} {nt:Nat} {st:St} {a:Act} {w:World} {H:Nat→Option Value} {σ:Nat→Option Nat} {R:Type} {K:St→Option R} {r:R} {call:Nat→List AV→Option AV} {f:Nat}
def qA (N H:Nat→Option Value):Nat→Option Value:=fun i=>match N i with | some x=>some x | none=>H i
theorem gB {N:Nat→Option Value} {i:Nat} {x:Value} (h:qA N H i=some x):N i=some x∨(N i=none∧H i=some x):=by
 unfold qA at h
 cases hn:N i with
 | none=>rw [hn] at h;exact .inr ⟨rfl,h⟩
 | some y=>rw [hn] at h;exact .inl h
theorem Inv.names (h:Inv C w0 F0 nt st a w H σ) {w':World} (hw:Ext w w') {N:Nat→Option Value} (hN:∀ i x,N i=some x→H i=none) (hb:∀ i x g,N i=some x→x.ownBlock=some g→w.heap.size≤g∧g < w'.heap.size)
  (hd:∀ i j x y g,i≠j→N i=some x→N j=some y→x.ownBlock=some g→y.ownBlock≠some g):Inv C w0 F0 nt st a w' (qA N H) σ:=by
 have hF:∀ b,b < w.heap.size→Fr w0.heap.size F0 H σ b→Fr w0.heap.size F0 (qA N H) σ b∧w'.heap[b]?=w.heap[b]?:=fun b DS hf=>by
  refine ⟨⟨hf.1,fun i v hv=>?_,hf.2.2⟩,hw.block b DS⟩
  rcases gB hv with hv | ⟨_,hv⟩
  ·intro e;have:=(hb i v b hv e).1;omega
  ·exact hf.2.1 i v hv
 have hH:∀ i y,H i=some y→qA N H i=some y∧∀ b,y.ownBlock=some b→w'.heap[b]?=w.heap[b]?:=fun i y hi=>by
  refine ⟨?_,fun b DS=>hw.block b (h.hown i y b hi DS).2⟩
  unfold qA
  cases hn:N i with
  | none=>exact hi
  | some x=>have:=hN i x hn;rw [hi] at this;cases this
 refine { h with env:=fun t=>(h.env t).mono hF hH fun _ _ hs=>hs,mem:=fun s cs ea=>?_,hown:=fun i x g hi hx=>?_,sown:=fun s r hs=>?_,hh:=?_,hs:=?_,glob:=fun g k e hg=>?_,below:=hw.P3 h.below }
 ·obtain ⟨r,vs,e,h1,h2,h3,h4⟩:=h.mem s cs ea
  exact ⟨r,vs,e,h1,by rw [hw.block r (h.sown s r h1).2];exact h2,h3,fun j c v hc hv=>(h4 j c v hc hv).mono hF (fun i y hi _=>hH i y hi) fun _ _ hs _=>hs⟩
 ·rcases gB hi with hi | ⟨_,hi⟩
  ·obtain ⟨h1,h2⟩:=hb i x g hi hx;exact ⟨.inl (Nat.le_trans h.below.size h1),h2⟩
  ·obtain ⟨h1,h2⟩:=h.hown i x g hi hx;exact ⟨h1,Nat.lt_of_lt_of_le h2 hw.size⟩
 ·obtain ⟨h1,h2⟩:=h.sown s r hs;exact ⟨h1,Nat.lt_of_lt_of_le h2 hw.size⟩
 ·intro i j x y g tY hi hj hx hy
  rcases gB hi with hi | ⟨_,hi⟩ <;> rcases gB hj with hj | ⟨_,hj⟩
  ·exact hd i j x y g tY hi hj hx hy
  ·have:=(hb i x g hi hx).1;have:=(h.hown j y g hj hy).2;omega
  ·have:=(hb j y g hj hy).1;have:=(h.hown i x g hi hx).2;omega
  ·exact h.hh i j x y g tY hi hj hx hy
 ·intro i s x r hi hs hx
  rcases gB hi with hi | ⟨_,hi⟩
  ·have:=(hb i x r hi hx).1;have:=(h.sown s r hs).2;omega
  ·exact h.hs i s x r hi hs hx
 ·exact (h.glob g k e hg).mono hF hH fun _ _ hs=>hs
theorem Inv.E1 (h:Inv C w0 F0 nt st a w H σ) (ids:List Nat):∃ H',Inv C w0 F0 nt (ids.foldl St.kl st) a w H' σ∧(∀ i x,H' i=some x→H i=some x)∧∀ i ∈ ids,H' i=none:=by
 induction ids generalizing st H with
 | nil=>exact ⟨H,h,fun _ _ hx=>hx,by simp⟩
 | cons i r ih =>
  obtain ⟨H',h',h1,h2⟩:=ih (h.kl i)
  refine ⟨H',h',fun j x hj=>(aG (h1 j x hj)).2,fun j hj=>?_⟩
  rcases List.mem_cons.1 hj with rfl | hj
  ·cases hx:H' j with
   | none=>rfl
   | some x=>exact absurd rfl (aG (h1 j x hx)).1
  ·exact h2 j hj
theorem JJ {d i j:Nat} (h:Ja d i=Ja d j):i=j:=by unfold Ja at h;omega
theorem DT {st':St} {o:Oper} {ks:List (Option (Nat×Nat))} {res:AV} {w':World} {v:Value} (hd:∀ t,o.dst=some t→t < nt) (h:Inv C w0 F0 nt st a w H σ) (hw:Ext w w') (hr:eV ks w w' (Fr w0.heap.size F0 H σ) res v)
  (hp:mq st o.dst ks res=some st'):∃ H',Inv C w0 F0 nt st' (a.put o.dst v) w' H' σ:=by
 unfold mq at hp
 unfold eV at hr
 cases bP:ks.all Option.isNone with
 | true =>
  rw [bP] at hp
  rw [if_pos bP] at hr
  simp only [cond_true,Option.some.injEq] at hp
  subst hp
  refine ⟨H,(h.ext hw).put hd ?_⟩
  refine Rel.mono (fun b hb hf=>⟨?_,rfl⟩) hr
  by_cases aM:b < w.heap.size
  ·exact hf aM
  ·exact ⟨fun hh=>by have:=h.below.size;omega,fun i v hv e=>by have:=(h.hown i v b hv e).2;omega,fun s e=>by have:=(h.sown s b e).2;omega⟩
 | false =>
  rw [bP] at hp
  rw [if_neg (by rw [bP];simp)] at hr
  simp only [cond_false] at hp
  obtain ⟨vs,hl,hv,iT,Vl⟩:=hr
  have main:∀ (d:Nat) (id:Nat→Nat) (e:aV),o.dst=some d→(∀ i j,id i=id j→i=j) →
    (∀ (N H':Nat→Option Value),(∀ (j:Nat) (x:Value) (p:Nat×Nat),vs[j]?=some x→ks[j]?=some (some p)→N (id j)=some x)→(∀ i x,N i=some x→∃ j p,i=id j∧vs[j]?=some x∧ks[j]?=some (some p)) →
     (∀ i x,H' i=some x→H i=some x) →
     (∀ (F:Nat→Prop),(∀ b,b < w'.heap.size→((b < w.heap.size→Fr w0.heap.size F0 H σ b)∧∀ (i:Nat) (y:Value) (p:Nat×Nat),vs[i]?=some y→ks[i]?=some (some p)→y.ownBlock≠some b)→F b)→F=Fr w0.heap.size F0 (qA N H') σ→bO w' F (qA N H') σ e v)) →
    ∃ H',Inv C w0 F0 nt ((((List.range ks.length).map id).foldl St.kl st).set d e) (a.put o.dst v) w' H' σ:=by
   intro d id e bu Vm he
   obtain ⟨H1,h1,kq,Q0⟩:=h.E1 ((List.range ks.length).map id)
   let N:Nat→Option Value:=fun i=>match (List.range ks.length).find? (fun j=>id j == i) with
    | some j=>match ks[j]? with | some (some _)=>vs[j]? | _=>none
    | none=>none
   have Q1:∀ j,j < ks.length→(List.range ks.length).find? (fun q=>id q == id j)=some j:=by
    intro j hj
    cases hf:(List.range ks.length).find? (fun q=>id q == id j) with
    | none =>
     have:=List.find?_eq_none.1 hf j (List.mem_range.2 hj)
     simp at this
    | some q =>
     have:=List.find?_some hf
     rw [Vm q j (by simpa using this)]
   have Q2:∀ (j:Nat) (x:Value) (p:Nat×Nat),vs[j]?=some x→ks[j]?=some (some p)→N (id j)=some x:=by
    intro j x p hx hk
    have hj:j < ks.length:=(List.getElem?_eq_some_iff.1 hk).1
    show (match (List.range ks.length).find? (fun q=>id q == id j) with
    | some j=>match ks[j]? with | some (some _)=>vs[j]? | _=>none
    | none=>none)=some x
    rw [Q1 j hj]
    simp only [hk]
    exact hx
   have L8:∀ i x,N i=some x→∃ j p,i=id j∧vs[j]?=some x∧ks[j]?=some (some p):=by
    intro i x hi
    have eQ:(match (List.range ks.length).find? (fun q=>id q == i) with
    | some j=>match ks[j]? with | some (some _)=>vs[j]? | _=>none
    | none=>none)=some x:=hi
    cases hf:(List.range ks.length).find? (fun q=>id q == i) with
    | none=>rw [hf] at eQ;cases eQ
    | some j =>
     rw [hf] at eQ
     have hj:id j=i:=by simpa using List.find?_some hf
     cases hk:ks[j]? with
     | none=>simp only [hk] at eQ;cases eQ
     | some o=>cases o with
      | none=>simp only [hk] at eQ;cases eQ
      | some p=>simp only [hk] at eQ;exact ⟨j,p,hj.symm,eQ,hk⟩
   have Vo:=h1.names hw (N:=N) (fun i x hi=>by
     obtain ⟨j,p,rfl,hx,hk⟩:=L8 i x hi
     exact Q0 _ (List.mem_map.2 ⟨j,List.mem_range.2 (List.getElem?_eq_some_iff.1 hk).1,rfl⟩))
    (fun i x g hi hg=>by
     obtain ⟨j,p,rfl,hx,hk⟩:=L8 i x hi
     have:=iT j x (some p) hx hk
     exact ⟨this.2 g hg,this.1.lt hg⟩)
    (fun i i' x y g aY hi eQ hg=>by
     obtain ⟨j,p,rfl,hx,hk⟩:=L8 i x hi
     obtain ⟨j',p',rfl,lS,oK⟩:=L8 i' y eQ
     exact Vl j j' x y p p' g (fun e=>aY (by rw [e])) hx lS hk oK hg)
   refine ⟨qA N H1,?_⟩
   rw [bu]
   refine Vo.put (d:=some d) (fun t ht=>by cases ht;exact hd _ bu) (he N H1 Q2 L8 kq _ (fun b hb hf=>?_) rfl)
   refine ⟨fun hh=>(hf.1 (Nat.lt_of_lt_of_le hh h.below.size)).1 hh,fun i x hi=>?_,fun s e=>?_⟩
   ·rcases gB hi with hi | ⟨_,hi⟩
    ·obtain ⟨j,p,rfl,hx,hk⟩:=L8 i x hi
     exact hf.2 j x p hx hk
    ·intro e
     have h3:=kq i x hi
     have aM:=(h.hown i x b h3 e).2
     exact (hf.1 aM).2.1 i x h3 e
   ·have aM:=(h.sown s b e).2
    exact (hf.1 aM).2.2 s e
  have single:∀ e k d,ks=[some (e,k)]→o.dst=some d→some (dg st d e k res.elems)=some st'→∃ H',Inv C w0 F0 nt st' (a.put o.dst v) w' H' σ:=by
   intro e k d DI bu cq
   subst DI
   cases cq
   obtain ⟨x,rfl⟩:=List.length_eq_one_iff.1 (by simpa using hl:vs.length=1)
   have hvx:v=x:=hv
   subst hvx
   have h0:=iT 0 v (some (e,k)) rfl rfl
   have hm:=main d (fun j=>d+j) (.cell (.own d e k res.elems)) bu (fun i j tY=>by omega) (fun N H' Q2 L8 kq F hF Yc=>by
    refine ⟨?_,?_⟩
    ·have hh:=Q2 0 v (e,k) rfl rfl
     show qA N H' d=some v
     unfold qA
     rw [show d=d+0 from rfl,hh]
    ·have:=h0.1
     have hco:mD [v].length res 0=res:=by simp [mD]
     rw [hco] at this
     subst Yc
     exact this.mono (fun b hb hf=>⟨hF b hb hf,rfl⟩) (fun _ _=>rfl))
   simpa [dg] using hm
  have JK:∀ d,o.dst=some d→2≤ks.length→some (((List.range ks.length).foldl (fun st j=>st.kl (Ja d j)) st).set d (.oB res (ks.zipIdx.map fun (o,j)=>some (o.map fun (e,k)=>(Ja d j,e,k)))))=some st'→∃ H',Inv C w0 F0 nt st' (a.put o.dst v) w' H' σ:=by
   intro d bu h2 cq
   cases cq
   have hm:=main d (Ja d) (.oB res (ks.zipIdx.map fun (o,j)=>some (o.map fun (e,k)=>(Ja d j,e,k)))) bu (fun i j tY=>JJ tY) (fun N H' Q2 L8 kq F hF Yc=>by
    have TV:v=.tuple vs.toArray:=by
     rw [hv]
     match vs,hl with
     | [],hl=>rfl
     | [x],hl=>simp at hl;omega
     | x :: y :: r,hl=>rfl
    have hlen:vs.length≠1:=by omega
    refine ⟨vs,TV,by simp [hl],fun j q x hq hx=>?_⟩
    rw [List.getElem?_map,List.getElem?_zipIdx] at hq
    cases hk:ks[j]? with
    | none=>rw [hk] at hq;cases hq
    | some p =>
     rw [hk] at hq
     simp only [Option.map_some,Nat.zero_add,Option.some.injEq] at hq
     subst hq
     have h3:=iT j x p hx hk
     unfold mD at h3
     rw [if_neg hlen] at h3
     cases p with
     | none=>exact Rel.mono (fun b hb hf=>⟨hF b hb hf,rfl⟩) h3
     | some p =>
      obtain ⟨e,k⟩:=p
      refine ⟨?_,h3.1.mono (fun b hb hf=>⟨hF b hb hf,rfl⟩) (fun _ _=>rfl)⟩
      unfold qA
      rw [Q2 j x (e,k) hx hk])
   rw [List.foldl_map] at hm
   exact hm
  cases Q3:o.dst with
  | none =>
   rw [Q3] at hp
   rcases ks with _ | ⟨x,_ | ⟨y,rest⟩⟩
   ·simp at bP
   ·cases x with
    | none=>simp at bP
    | some p=>cases hp
   ·cases x <;> cases hp
  | some d =>
   rw [Q3] at hp
   rw [← Q3]
   rcases ks with _ | ⟨x,_ | ⟨y,rest⟩⟩
   ·simp at bP
   ·cases x with
    | none=>simp at bP
    | some p=>exact single p.1 p.2 d rfl Q3 hp
   ·exact JK d Q3 (by simp) (by cases x <;> exact hp)
theorem FI {F:Nat→Prop} {xs:List Operand} {ids:List Nat} {H':Nat→Option Value} (h:Inv C w0 F0 nt st a w H σ) (kp:∀ e x,bO w (Fr w0.heap.size F0 H σ) H σ e x→bO w F H' σ (e.jt ids) x)
  (yd:∀ x ∈ xs,∀ i ∈ (st.get C x).ids,i ∈ ids) (ht:xs.all (fun x=>(st.get C x).told)=true) (j:Nat) (b:AV) (v:Value) (hb:(xs.map fun x=>(st.get C x).aU)[j]?=some b) (hv:(xs.map a.eval)[j]?=some v):Rel w F b v:=by
 rw [List.getElem?_map] at hb hv
 cases hx:xs[j]? with
 | none=>rw [hx] at hb;cases hb
 | some x =>
  rw [hx] at hb hv
  cases hb;cases hv
  have hm:=List.mem_of_getElem? hx
  exact du (kp _ _ (h.get x)) (List.all_eq_true.1 ht x hm) (yd x hm)
theorem yn {o:Oper} {c:Call} {g:Nat} {X:Operand} (ho:o.op=.call c) (hc:c.callee=.value X) (hg:a.eval X=.func (.func g) #[] #[]) (dk:C.sig g=none) (hC:iR C P call) (h:Inv C w0 F0 nt st a w H σ) (hd:∀ t,o.dst=some t→t < nt)
  (ht:(c.args.toList.map (st.get C)).all aV.told=true) {res:AV} (FJ:call g ((c.args.toList.map (st.get C)).map aV.aU)=some res) {st':St} (hp:mq (st.jt ((c.args.toList.map (st.get C)).flatMap aV.ids)) o.dst (C.own g) res=some st') (hK:K st'=some r):mG C P w0 F0 nt st a w σ K r o:=by
 obtain ⟨H1,h1,kp,kq,yi⟩:=h.vC ((c.args.toList.map (st.get C)).flatMap aV.ids)
 intro next Q hn
 have eW:∀ w',Ext w w'→dY C st o σ w w':=fun w' hw=>by
  unfold dY
  rw [ho]
  obtain ⟨ce,ar,QO⟩:=c
  simp only at hc
  subst hc
  show if Jc C st X=true then True else Ext w w'
  split
  ·trivial
  ·exact hw
 have a8:=hC.1 g _ res FJ dk w (Fr w0.heap.size F0 H1 σ) (c.args.map a.eval) (fun g k e hg=>h1.glob g k e hg) (by simp) (fun j b v hb hv=>by
  rw [List.map_map] at hb
  refine FI (xs:=c.args.toList) h kp (fun x hx i hi=>?_) ?_ j b v hb (by simpa using hv)
  ·exact List.mem_flatMap.2 ⟨_,List.mem_map.2 ⟨x,hx,rfl⟩,hi⟩
  ·simpa [List.all_map] using ht)
 have post:∀ v w',Ext w w'→eV (C.own g) w w' (Fr w0.heap.size F0 H1 σ) res v→next (a.put o.dst v) w':=by
  intro v w' hw hr
  obtain ⟨H',hI⟩:=DT (o:=o) hd h1 hw hr hp
  exact hn _ w' _ H' σ hK hI (eW w' hw) ⟨fun s _=>rfl, .inr (.inr rfl)⟩ (mE.put a o.dst v)
 have FK:∀ w:World,(execOp a.eval o).run P w=(callFunc g (c.args.map a.eval)).run P w:=fun w=>by
  simp only [execOp,ho,resolve,hc,hg]
  simp [Deferred.ofValue,invoke]
 unfold Oper.wp
 rw [FK w]
 rcases a8 with ⟨fn,cb,gC,fL,rY,Ab⟩ | ⟨v,hv,bK⟩
 ·have:(callFunc g (c.args.map a.eval)).run P w=.ok (.enter g (c.args.map a.eval)) w:=by
   have mK:¬ fn.name = "runtime.NumGoroutine" := by simpa using rY
   simp [callFunc,gC,fL,mK]
  rw [this,Oper.upon_enter]
  refine Calls.mono Ab fun e w' he=>?_
  obtain ⟨v,rfl,hw,hr⟩:=he
  exact post v w' hw hr
 ·rw [hv,Oper.upon_value]
  obtain ⟨v',he,hw,hr⟩:=bK
  cases he
  exact post v w hw hr
theorem JL (ids:List Nat):∀ (st:St) (s:Nat),(st.jt ids).mem s=(st.mem s).map (·.map fun c=>ids.foldl (fun c i=>Cell.fz i c) c):=by
 induction ids with
 | nil=>intro st s;simp [St.jt]
 | cons a r ih =>
  intro st s
  have:(st.jt (a :: r)).mem s=((st.fz a).jt r).mem s:=rfl
  rw [this,ih]
  simp [St.fz,St.map,Option.map_map,Function.comp_def]
theorem JM (ids:List Nat):∀ (c:Cell) (id e k:Nat) (l:List AV),ids.foldl (fun c i=>Cell.fz i c) c=.own id e k l→c=.own id e k l∧id ∉ ids:=by
 induction ids with
 | nil=>intro c id e k l h;exact ⟨h,by simp⟩
 | cons a r ih =>
  intro c id e k l h
  obtain ⟨h1,h2⟩:=ih (Cell.fz a c) id e k l h
  cases c with
  | own i e' k' l' =>
   simp only [Cell.fz,aO] at h1
   split at h1
   ·cases h1
   ·rename_i aY
    cases h1
    exact ⟨rfl,fun hm=>by rcases List.mem_cons.1 hm with e | e;exact aY e;exact h2 e⟩
  | _=>cases h1
theorem kB {o:Oper} {c:Call} {g:Nat} {X:Operand} {sg:vp} {cv:Array Value} {ss:List Nat} (ho:o.op=.call c) (hc:c.callee=.value X) (hg:a.eval X=.func (.func g) #[] cv) (dk:C.sig g=some sg) (hM:Jc C st X=true)
  (DN:cv.size=ss.length∧∀ (j s:Nat) (v:Value),ss[j]?=some s→cv[j]?=some v→∃ r,σ s=some r∧v=.pointer (some ⟨r,0,none⟩))
  (hC:iR C P call) (hT:∀ t i,C.ty t=some i→cm P t i) (h:Inv C w0 F0 nt st a w H σ) (hd:∀ t,o.dst=some t→t < nt)
  (hK:cW C call sg g (c.args.toList.map (st.get C) ++ ss.map fun s=>.cell (.ptr s 0)) o.dst st K=some r):mG C P w0 F0 nt st a w σ K r o:=by
 generalize TO:c.args.toList.map (st.get C) ++ ss.map (fun s=>aV.cell (.ptr s 0))=xs at hK
 unfold cW at hK
 obtain ⟨sites,Ny,hK⟩:=Option.bind_eq_some_iff.1 hK
 simp only at hK
 generalize yd:mu sg.ps xs ++ cf false (fun i=>sites.getD i 0) st.mem 0 sg.objs=ids at hK
 cases hb:(BI sg && (nodup sites && (mr sites sg.ps xs && (nodup (cf true (fun i=>sites.getD i 0) (st.jt ids).mem 0 sg.objs) && (C.own g).isEmpty)))) with
 | false=>rw [hb] at hK;cases hK
 | true =>
  rw [hb] at hK
  simp only [cond_true] at hK
  simp only [Bool.and_eq_true] at hb
  obtain ⟨Nz,hn,hp,Nx,_⟩:=hb
  unfold BI at Nz
  simp only [Bool.and_eq_true] at Nz
  obtain ⟨fm,JD,jB⟩:=Nz
  have jB:=Nat.eq_of_beq_eq_true jB
  obtain ⟨ins,Q4,hK⟩:=Option.bind_eq_some_iff.1 hK
  obtain ⟨res,FJ,hK⟩:=Option.bind_eq_some_iff.1 hK
  obtain ⟨v0,QW,hK⟩:=Option.bind_eq_some_iff.1 hK
  obtain ⟨H1,h1,kp,kq,yi⟩:=h.vC ids
  have hl:sites.length=sg.objs.length:=by have:=pP Ny;simpa using this
  obtain ⟨fn,gC,X1,Fh,a8⟩:=hC.2 g sg _ res FJ dk
  obtain ⟨TT,_,_⟩:=oS hp
  have oO:(c.args.map a.eval ++ cv).size=sg.ps.length:=by
   rw [← TT,← TO]
   simp [DN.1]
  have hx:∀ (t:Nat) (e:aV) (v:Value),xs[t]?=some e→(c.args.map a.eval ++ cv)[t]?=some v→bO w (Fr w0.heap.size F0 H σ) H σ e v:=by
   intro t e v he hv
   rw [← TO] at he
   by_cases ht:t < c.args.size
   ·rw [List.getElem?_append_left (by simpa using ht),List.getElem?_map] at he
    rw [Array.getElem?_append_left (by simpa using ht),Array.getElem?_map] at hv
    have e1:c.args.toList[t]?=some c.args[t]:=by simp [ht]
    have e2:c.args[t]?=some c.args[t]:=by simp [ht]
    rw [e1] at he
    rw [e2] at hv
    cases he;cases hv
    exact h.get _
   ·rw [List.getElem?_append_right (by simpa using ht),List.getElem?_map] at he
    rw [Array.getElem?_append_right (by simpa using ht)] at hv
    simp only [List.length_map,Array.length_toList,Array.size_map] at he hv
    cases hs:ss[t - c.args.size]? with
    | none=>rw [hs] at he;cases he
    | some s =>
     rw [hs] at he
     cases he
     obtain ⟨b,q1,q2⟩:=DN.2 _ s v hs hv
     exact ⟨b,q1,q2⟩
  have hI:=FF (vs:=c.args.map a.eval ++ cv) (ntg:=fn.ntmps) (ids:=ids) h1 fm hn hp hl Nx Q4 oO X1
   (fun i j o' cs cc IK hk hm ln id e k l heq=>by
    rw [JL] at hm
    simp only [Option.map_eq_some_iff] at hm
    obtain ⟨oF,ji,rfl⟩:=hm
    rw [List.getElem?_map] at ln
    cases eh:oF[j]? with
    | none=>rw [eh] at ln;cases ln
    | some c0 =>
     rw [eh] at ln
     simp only [Option.map_some,Option.some.injEq] at ln
     subst ln
     obtain ⟨h5,h6⟩:=JM ids c0 id e k l heq
     subst h5
     refine h6 ?_
     rw [← yd]
     refine List.mem_append_right _ (oT (site:=fun i=>sites.getD i 0) (i0:=0) (i:=i) IK (by rw [Nat.zero_add];exact ji) (fun e k he=>by rw [hk] at he;cases he) (List.getElem?_eq_some_iff.1 hk).1 eh (by simp [Cell.ids])))
   (fun t e v he hv=>⟨fun ht hi=>du (kp _ _ (hx t e v he hv)) ht fun i eQ=>by rw [← yd];exact List.mem_append_left _ (hi i eQ),fun cc ln=>by
    have h5:=hx t e v he hv
    subst ln
    cases cc with
    | dead=>exact .inr (.inr rfl)
    | val u=>exact .inr (.inl rfl)
    | own id e k l=>exact .inr (.inl rfl)
    | ptr s o'=>exact .inl h5
    | eF g' ss'=>exact .inl h5⟩)
  have FL:=a8 w _ (c.args.map a.eval ++ cv) _ _ oO hI
  have post:∀ v w',Fl C P g fn sg w (kA w0 F0 H1 σ (fun i=>sites.getD i 0) sites.length fn.ntmps (cf true (fun i=>sites.getD i 0) (st.jt ids).mem 0 sg.objs)) res (.returned v) w'→∀ (next:Act→World→Prop),(∀ (a':Act) (w':World) (st':St) (H':Nat→Option Value) (σ':Nat→Option Nat),K st'=some r→Inv C w0 F0 nt st' a' w' H' σ'→dY C st o σ w w' →
  ((∀ s,o.dst≠some s→σ' s=σ s)∧((∃ t,o.op=.alloc t)∨(∃ t x,o.op=.box t x)∨σ'=σ))→mE o.dst a a'→next a' w')→next (a.put o.dst v) w':=by
   intro v w' bK next L9
   obtain ⟨v',he,j5,a2,H2,σ2,Q5,DU,rQ⟩:=bK
   cases he
   obtain ⟨r0,ls,H',Q6,L3,hIn,iT⟩:=DR (a:=a) hT h1 JD jB hn (hl.trans jB.symm) Nx Q4 Q5 DU rQ
   subst Q6
   have Vp:v0=r0:=by
    have:(r0 :: ls.map AV.ag)[0]?=some v0:=QW
    simpa using this.symm
   subst Vp
   have JN:=rX (pre:=[]) (ls:=ls) L3 (by simpa using hK)
   refine L9 _ w' _ H' σ JN (hIn.put hd iT) ?_ ⟨fun s _=>rfl, .inr (.inr rfl)⟩ (mE.put a o.dst v)
   unfold dY
   rw [ho]
   obtain ⟨ce,ar,QO⟩:=c
   simp only at hc
   subst hc
   show if Jc C st X=true then True else Ext w w'
   rw [if_pos hM];trivial
  intro next Q L9
  have FK:∀ w:World,(execOp a.eval o).run P w=(callFunc g (c.args.map a.eval ++ cv)).run P w:=fun w=>by
   simp only [execOp,ho,resolve,hc,hg]
   simp [Deferred.ofValue,invoke]
  unfold Oper.wp
  rw [FK w]
  rcases FL with ⟨Vq,cb,JO,fL,rY,Ab⟩ | ⟨v,hv,bK⟩
  ·have:(callFunc g (c.args.map a.eval ++ cv)).run P w=.ok (.enter g (c.args.map a.eval ++ cv)) w:=by
    have mK:¬ Vq.name = "runtime.NumGoroutine" := by simpa using rY
    simp [callFunc,JO,fL,mK]
   rw [this,Oper.upon_enter]
   refine Calls.mono Ab fun e w' he=>?_
   have Ma:=he
   obtain ⟨v,rfl,_⟩:=he
   exact post v w' Ma next L9
  ·rw [hv,Oper.upon_value]
   have Ma:=bK
   obtain ⟨v',he,_⟩:=bK
   cases he
   exact post v w Ma next L9
theorem JP {o:Oper} {c:Call} (ho:o.op=.call c) (hC:iR C P call) (hT:∀ t i,C.ty t=some i→cm P t i) (h:Inv C w0 F0 nt st a w H σ) (hd:∀ t,o.dst=some t→t < nt)
  (hK:j9 C call c o.dst st K=some r) (P7:C.pure o.op=false):mG C P w0 F0 nt st a w σ K r o:=by
 unfold j9 at hK
 cases hc:c.callee with
 | invoke x n=>rw [hc] at hK;cases hK
 | builtin b =>
  rw [hc] at hK
  simp only [gz] at hK
  rw [ho] at P7
  obtain ⟨ce,ar,QO⟩:=c
  simp only at hc
  subst hc
  split at hK <;> first | (cases hK;done) | (exfalso;cases P7;done) | skip
  rename_i x y t u ts ha IG
  exact DO ho rfl ha IG hT h hd hK
 | value X =>
  rw [hc] at hK
  cases X with
  | func g =>
   simp only at hK
   cases dk:C.sig g with
   | some sg =>
    rw [dk] at hK
    exact kB (ss:=[]) (cv := #[]) ho hc rfl dk (by show (C.sig g).isSome=true;rw [dk];rfl) ⟨rfl,fun j s v hs=>by simp at hs⟩ hC hT h hd (by simpa using hK)
   | none =>
   rw [dk] at hK
   simp only at hK
   cases ht:(c.args.toList.map (st.get C)).all aV.told with
   | false=>rw [ht] at hK;cases hK
   | true =>
    rw [ht] at hK
    simp only [cond_true] at hK
    cases hr:call g ((c.args.toList.map (st.get C)).map aV.aU) with
    | none=>rw [hr] at hK;cases hK
    | some res =>
     rw [hr] at hK
     simp only [Option.bind_some] at hK
     cases hp:mq (st.jt ((c.args.toList.map (st.get C)).flatMap aV.ids)) o.dst (C.own g) res with
     | none=>rw [hp] at hK;cases hK
     | some st' =>
      rw [hp] at hK
      exact yn ho hc rfl dk hC h hd ht hr hp hK
  | tmp t =>
   simp only at hK
   split at hK
   ·rename_i g ss cI
    cases dk:C.sig g with
    | none=>rw [dk] at hK;cases hK
    | some sg =>
     rw [dk] at hK
     have hx:=h.env t
     rw [cI] at hx
     obtain ⟨rs,h1,h2,h3⟩:=hx
     have h2:a.eval (.tmp t)=.func (.func g) #[] (rs.map fun r=>(.pointer (some ⟨r,0,none⟩):Value)).toArray:=h2
     refine kB (ss:=ss) (cv:=(rs.map fun r=>.pointer (some ⟨r,0,none⟩)).toArray) ho hc h2 dk (by show (match st.env t with | .cell (.eF _ _)=>true | _=>false)=true;rw [cI]) ⟨by simpa using h1,fun j s v hs hv=>?_⟩ hC hT h hd hK
     have hv:(rs.map fun r=>(.pointer (some ⟨r,0,none⟩):Value))[j]?=some v:=by simpa using hv
     rw [List.getElem?_map] at hv
     cases hr:rs[j]? with
     | none=>rw [hr] at hv;cases hv
     | some b=>rw [hr] at hv;cases hv;exact ⟨b,h3 j s b hs hr,rfl⟩
   ·rename_i QB
    cases ht:(c.args.toList.map (st.get C)).all aV.told with
    | false=>rw [ht] at hK;cases hK
    | true =>
     rw [ht] at hK
     simp only [cond_true] at hK
     cases hf:AV.M1 (st.env t).aU with
     | none=>rw [hf] at hK;cases hK
     | some g =>
      rw [hf] at hK
      simp only [Option.bind_some] at hK
      have hg:a.eval (.tmp t)=.func (.func g) #[] #[]:=by
       have:=(h.get (.tmp t)).aU
       rcases this with e | e
       ·have e':(st.env t).aU=.un:=e
        rw [e'] at hf;cases hf
       ·have e':Rel w T (st.env t).aU (a.eval (.tmp t)):=e
        generalize (st.env t).aU=Y at hf e'
        generalize a.eval (.tmp t)=V at e'
        cases Y <;> first | cases hf | skip
        cases e'
        rfl
      obtain ⟨res,hr,hK⟩:=Option.bind_eq_some_iff.1 hK
      unfold pE at hr
      cases hb:((C.sig g).isNone && (C.own g).all Option.isNone) with
      | false=>rw [hb] at hr;cases hr
      | true =>
       rw [hb] at hr
       simp only [cond_true] at hr
       rw [Bool.and_eq_true] at hb
       exact yn (st':=(st.jt ((c.args.toList.map (st.get C)).flatMap aV.ids)).put o.dst (.val res)) ho hc hg (by simpa using hb.1) hC h hd ht hr (by unfold mq;rw [hb.2];rfl) hK
  | const v=>cases hK
  | global g=>cases hK
theorem NA {o:Oper} {t u:TypeId} {x:Operand} (ho:o.op=.convert t u x) (hT:∀ t i,C.ty t=some i→cm P t i) (h:Inv C w0 F0 nt st a w H σ) (hd:∀ t,o.dst=some t→t < nt)
  (hs:C.kd t=some .slice) (hl:C.kd u=some .slice) (hK:iP C t u (st.get C x) o.dst st K=some r):mG C P w0 F0 nt st a w σ K r o:=by
 unfold iP at hK
 rw [hs,hl] at hK
 simp only at hK
 split at hK
 ·rename_i id e k v l cI
  cases hb:(Nat.beq t u && Nat.beq k 1) with
  | false=>rw [hb] at hK;cases hK
  | true =>
   rw [hb] at hK
   simp only [cond_true] at hK
   rw [Bool.and_eq_true] at hb
   have htu:=Nat.eq_of_beq_eq_true hb.1
   have tU:=Nat.eq_of_beq_eq_true hb.2
   subst htu tU
   obtain ⟨i,hi,Jw⟩:=cJ hs
   have hu:=(hT t i hi).und
   rw [Jw] at hu
   rw [hi] at hK
   simp only [Option.bind_some] at hK
   split at hK
   ·rename_i h3
    obtain ⟨i3,e3,f3⟩:=cJ h3
    have ER:=(hT i.elem i3 e3).und
    rw [f3] at ER
    have hr:=h.get x
    rw [cI] at hr
    obtain ⟨hH,hown⟩:=hr
    obtain ⟨g,cap,cur,hx,hg,hc,hm,cg,_,qI⟩:=hown.rr (by simp)
    have di:(a.eval x).ownBlock=some g:=by rw [hx];rfl
    let w':World:=w.freeze ⟨g,cur.size,none⟩ 1
    have FN:∀ b,b≠g→w'.heap[b]?=w.heap[b]?:=fun b aY=>by
     simp [w',World.freeze,Array.getElem?_modify,Ne.symm aY]
    have aM:=(h.hown id _ g hH di).2
    have qB:∃ fz,w'.heap[g]?=some (.cells cur e fz):=by
     have xK:w.heap[g]=.cells cur e (0,0):=(Array.getElem?_eq_some_iff.1 hg).2
     refine ⟨(cur.size,cur.size+1),?_⟩
     simp [w',World.freeze,Array.getElem?_modify,hg]
    obtain ⟨fz,qB⟩:=qB
    have lV:w'.heap.size=w.heap.size:=by simp [w',World.freeze]
    have Fy:=h.oG id id (some g) (w':=w') (x:=a.eval x) rfl rfl rfl (by rw [lV];exact Nat.le_refl _) (fun b _ aY=>FN b fun e=>aY (by rw [e])) (fun g' Qb=>⟨_,hH,by cases Qb;exact di⟩)
     (fun g' Qb=>by rw [di] at Qb;cases Qb;exact ⟨.inl rfl,by rw [lV];exact aM⟩)
    have h4:=Fy.kl id
    rw [uu,uu] at h4
    refine gh (v:=a.eval x) (w':=w') ?_ hK (h4.put hd ?_) (by unfold dY;rw [ho];simp [cS.pure,hs]) ⟨fun s _=>rfl, .inr (.inr rfl)⟩
    ·simp only [execOp,ho,Sem.run_bind,hx]
     have NB:w.shape? g=some (e,cur.size):=by simp [World.shape?,hg]
     simp [convert,run_underlying hu,run_underlying ER,markStringish,NB,w']
    ·have Qc:∀ b,b < w.heap.size→Fr w0.heap.size F0 H σ b→Fr w0.heap.size F0 (Sx.erase (rL (Sx.erase (Sx.erase H id) id) id (a.eval x)) id) σ b∧w'.heap[b]?=w.heap[b]?:=fun b hb hf=>by
      refine ⟨⟨hf.1,fun j y hy=>?_,hf.2.2⟩,FN b fun e=>hf.2.1 id _ hH (by rw [di,e])⟩
      obtain ⟨hj,hy⟩:=aG hy
      rcases dI hy with ⟨e,_⟩ | ⟨_,hy⟩
      ·exact absurd e hj
      ·exact hf.2.1 j y (aG (aG hy).2).2
     show Rel w' _ (.ro 1 (v :: l)) (a.eval x)
     refine (congrArg (fun y=>Rel w' (Fr w0.heap.size F0 (Sx.erase (rL (Sx.erase (Sx.erase H id) id) id (a.eval x)) id) σ) (.ro 1 (v :: l)) y) hx).mpr ?_
     refine Rel.ro 1 (v :: l) g 0 cap (cur.toList.take ((v :: l).length * 1)) (by omega) hc ⟨fun hh=>?_,fun j y hy=>?_,fun s lj=>?_⟩ qI.1 (fun j y hy=>?_) qI.2.1 (fun q j y hq hj hy=>(qI.2.2 q j y hq hj hy).mono Qc)
     ·rcases (h.hown id _ g hH di).1 with h5 | h5
      ·omega
      ·exact .inr h5
     ·obtain ⟨hj,hy⟩:=aG hy
      rcases dI hy with ⟨e,_⟩ | ⟨_,hy⟩
      ·exact absurd e hj
      ·have qK:=(aG (aG hy).2).2
       intro e
       exact h.hh j id y _ g hj qK hH e di
     ·exact h.hs id s _ g hH lj di
     ·rw [Nat.zero_add,cell_of_row w' g j cur e fz qB]
      rw [List.getElem?_take] at hy
      split at hy
      ·simpa using hy
      ·cases hy
   ·cases hK
 ·cases hK
theorem JQ {o:Oper} (hC:iR C P call) (hT:∀ t i,C.ty t=some i→cm P t i) (h:Inv C w0 F0 nt st a w H σ) (hd:∀ t,o.dst=some t→t < nt) (hK:bI C call f o st K=some r):mG C P w0 F0 nt st a w σ K r o:=by
 cases hp:C.pure o.op with
 | true=>exact (oP (ws:=[]) hp hT h hd hK (rR.self [] σ w) (fun _ _ _ _ _ _=>by simp)).goes hp
 | false =>
  have P7:=hp
  cases dj:o.op <;> rw [dj] at hp <;> first | (cases hp;done) | skip
  all_goals first | (simp only [bI,dj] at hK;cases hK;done) | skip
  case alloc t=>simp only [bI,dj] at hK;exact FB dj hT h hd hK
  case box t x=>simp only [bI,dj] at hK;exact Ns dj hT h hd hK
  case buildSlice t n ps=>simp only [bI,dj] at hK;exact uf dj hT h hd hK
  case store t x y=>simp only [bI,dj] at hK;exact FD dj hT h hK
  case makeSlice t n c=>simp only [bI,dj] at hK;exact vH dj hT h hd hK
  case call c=>simp only [bI,dj] at hK;exact JP dj hC hT h hd hK P7
  case slice t x lo hi mx =>
   simp only [bI,dj] at hK
   exfalso
   simp only [cS.pure] at hp
   cases mx with
   | some m=>cases hK
   | none =>
    simp only [jz] at hK
    split at hK
    ·rename_i hk;rw [hk] at hp;cases hp
    ·rename_i hk;rw [hk] at hp;cases hp
    ·cases hK
  case convert t u x =>
   simp only [bI,dj] at hK
   simp only [cS.pure] at hp
   split at hp
   ·rename_i h1 h2;exact Nu dj hT h hd h1 h2 hK
   ·rename_i h1 h2;exact NA dj hT h hd h1 h2 hK
   ·cases hp
end
section plain
variable {P:Program} {ops:Array Oper} {nc:List Nat} {Q:Exit→Act→World→Prop} {E:World→World→Prop}
def mL (ops:Array Oper) (nc:List Nat) (i:Nat):Bool:=match ops[i]? with | some o=>Op.calm o.op && !(nc.any (Nat.beq (1000000+i))) | none=>true
def behind (ops:Array Oper) (i:Nat):Nat→Nat→Bool
 | 0,_=>false
 | m+1,j=>match ops[j]? with
  | some o=>o.after.any fun e=>Region.binds .any e && (Nat.beq e.on i || behind ops i m e.on)
  | none=>false
def fy (ops:Array Oper) (done:Array Bool):Prop:=∀ (j:Nat) (o:Oper),done.getD j false=true→ops[j]?=some o→∀ e ∈ o.after,Region.binds .any e=true→done.getD e.on false=true
theorem fy.set {ops:Array Oper} {done:Array Bool} (h:fy ops done) {i:Nat} (hi:i ∈ Region.ready .any ops done):fy ops (done.setIfInBounds i true):=by
 intro j o hj ho e he hb
 refine getD_set_true ?_
 by_cases tY:i=j
 ·subst tY
  obtain ⟨_,o',IK,hd⟩:=mem_ready.1 hi
  rw [ho] at IK
  cases IK
  exact hd e he hb
 ·rw [getD_set_ne false tY] at hj
  exact h j o hj ho e he hb
theorem kC {ops:Array Oper} {done:Array Bool} (h:fy ops done) {i:Nat}:∀ (m j:Nat),(∀ o,ops[j]?=some o→∀ e ∈ o.after,Region.binds .any e=true→done.getD e.on false=true)→behind ops i m j=true→done.getD i false=true
 | 0,j,_,hb=>by simp [behind] at hb
 | m+1,j,hd,hb=>by
  simp only [behind] at hb
  split at hb
  ·rename_i o ho
   obtain ⟨e,he,hx⟩:=Array.any_eq_true'.1 hb
   rw [Bool.and_eq_true,Bool.or_eq_true] at hx
   have h1:=hd o ho e he hx.1
   rcases hx.2 with h2 | h2
   ·rw [Nat.eq_of_beq_eq_true h2] at h1;exact h1
   ·exact kC h m e.on (fun o' IK e' Ma DS=>h e.on o' h1 IK e' Ma DS) h2
  ·cases hb
def fM (P:Program) (ops:Array Oper) (nc:List Nat) (Q:Exit→Act→World→Prop) (E:World→World→Prop) (p:Nat×Bool) (N:Act→World→Prop) (a:Act) (w:World):Prop :=
 if p.2=true then ∃ oi v,ops[p.1]?=some oi∧YieldsIf P ops (E w) oi v a∧N (a.put oi.dst v) w
 else wpOp P ops Q p.1 (fun a' w'=>(mL ops nc p.1=true→E w w')∧N a' w') a w
def nw (P:Program) (ops:Array Oper) (nc:List Nat) (Q:Exit→Act→World→Prop) (E:World→World→Prop):List (Nat×Bool)→(Act→World→Prop)→Act→World→Prop
 | [],N,a,w=>N a w
 | p :: r,N,a,w=>fM P ops nc Q E p (nw P ops nc Q E r N) a w
theorem rZ (l m:List (Nat×Bool)) (N:Act→World→Prop) (a:Act) (w:World):nw P ops nc Q E (l ++ m) N a w=nw P ops nc Q E l (nw P ops nc Q E m N) a w:=by
 induction l generalizing a w with
 | nil=>rfl
 | cons p r ih =>
  have:nw P ops nc Q E (r ++ m) N=nw P ops nc Q E r (nw P ops nc Q E m N):=by funext a w;exact ih a w
  show fM P ops nc Q E p (nw P ops nc Q E (r ++ m) N) a w=fM P ops nc Q E p (nw P ops nc Q E r (nw P ops nc Q E m N)) a w
  rw [this]
theorem vI (l:List Nat) (a:Act) (w:World) (h:nw P ops nc Q E (l.map fun i=>(i,false)) (fun a w=>Q .normal a w) a w):wpOps P ops Q l a w:=by
 induction l generalizing a w with
 | nil=>exact h
 | cons i r ih =>
  rw [wpOps_cons]
  have h':fM P ops nc Q E (i,false) _ a w:=h
  unfold fM at h'
  rw [if_neg (by simp)] at h'
  exact wpOp_mono (fun a' w' hh=>ih a' w' hh.2) h'
def mM (P:Program) (ops:Array Oper) (nc:List Nat) (Q:Exit→Act→World→Prop) (E:World→World→Prop):Nat→Array Bool→Act→World→Prop
 | 0,done,a,w=>Region.ready .any ops done=[]∧Q .normal a w
 | m+1,done,a,w=>(Region.ready .any ops done=[]→Q .normal a w)∧∀ i ∈ Region.ready .any ops done,wpOp P ops Q i (fun a' w'=>(mL ops nc i=true→E w w')∧mM P ops nc Q E m (done.setIfInBounds i true) a' w') a w
theorem mM.any:∀ (m:Nat) {done:Array Bool} {a:Act} {w:World},mM P ops nc Q E m done a w→wpAny P .any ops Q m done a w
 | 0,_,_,_,h=>h
 | m+1,_,_,_,h=>⟨h.1,fun i hi=>wpOp_mono (fun _ _ hh=>mM.any m hh.2) (h.2 i hi)⟩
theorem mM.take {S:World→World→Prop} (hr:∀ w,E w w) (NC:∀ u v,E u v→S u v) (ht:∀ u v w,S u v→S v w→S u w) (hQ:∀ c a w,¬ Q (.panic c) a w) (Np:Region.noSelect ops=true) {i:Nat} {oi:Oper} {v:Value} (hi:ops[i]?=some oi):∀ (m:Nat) {done:Array Bool} {a:Act} {w:World},
  (∀ (j:Nat) (oj:Oper),ops[j]?=some oj→j≠i→done.getD j true=false→(∀ e ∈ oj.after,Region.binds .any e=true→e.on≠i)→oi.apart ops oj=true)→i ∈ Region.ready .any ops done→fy ops done→((∀ u v,S u v)∨∀ j,j < ops.size→j≠i→done.getD j true=false→mL ops nc j=true∨behind ops i ops.size j=true)→YieldsIf P ops (S w) oi v a →
  mM P ops nc Q E m (done.setIfInBounds i true) (a.put oi.dst v) w→mM P ops nc Q E (m+1) done a w:=by
 have Q7:=Region.noSelect_spec Np
 intro m
 induction m with
 | zero =>
  intro done a w _ im _ _ hy h
  constructor
  ·intro e;rw [e] at im;cases im
  ·intro j hj
   rcases Nat.decEq j i with aY | rfl
   ·have:=ready_mono hj aY;rw [h.1] at this;cases this
   ·exact hy.wpOp hi (NC _ _ (hr w)) ⟨fun _=>hr w,h⟩
 | succ m ih =>
  intro done a w lW im jx eX hy h
  constructor
  ·intro e;rw [e] at im;cases im
  ·intro j hj
   rcases Nat.decEq j i with aY | rfl
   ·obtain ⟨j6,oj,FO,yo⟩:=mem_ready.1 hj
    have hid:=(mem_ready.1 im).1
    have FP:∀ e ∈ oj.after,Region.binds .any e=true→e.on≠i:=by
     intro e he hb heq
     have hd:=yo e he hb
     rw [heq] at hd
     by_cases aM:i < done.size
     ·simp [aM] at hid hd;rw [hid] at hd;cases hd
     ·simp [aM] at hd
    have ND:j < ops.size:=(Array.getElem?_eq_some_iff.1 FO).1
    have Ac:∀ w',(mL ops nc j=true→E w w')→S w w':=by
     intro w' hE
     rcases eX with hc | eX
     ·exact hc _ _
     ·rcases eX j ND aY j6 with hc | hb
      ·exact NC _ _ (hE hc)
      ·exfalso
       have:=kC jx ops.size j (fun o ho=>by rw [FO] at ho;cases ho;exact yo) hb
       by_cases aM:i < done.size
       ·simp [aM] at hid this;rw [hid] at this;cases this
       ·simp [aM] at this
    have hh:=wpOp_putIf FO (lW j oj FO aY j6 FP) (fun cs b=>Q7 i oi cs b hi) (fun cs b=>Q7 j oj cs b FO) (fun c a w hc=>absurd hc (hQ c _ w)) hy (h.2 j (ready_mono hj aY))
    refine wpOp_mono (fun a' w' ⟨qK,hE,fN⟩=>⟨hE,ih ?_ (ready_mono im (Ne.symm aY)) (jx.set hj) ?_ ?_ ?_⟩) hh
    ·intro k ok hk NF je Vr
     refine lW k ok hk NF ?_ Vr
     by_cases FQ:j=k
     ·subst FQ;exact j6
     ·rwa [getD_set_ne true FQ] at je
    ·rcases eX with hc | eX
     ·exact .inl hc
     ·refine .inr fun k hk NF je=>eX k hk NF ?_
      by_cases FQ:j=k
      ·subst FQ;exact j6
      ·rwa [getD_set_ne true FQ] at je
    ·rcases qK with ⟨q1,q2⟩ | q
     ·exact .inl ⟨q1,fun u hu=>q2 u (ht w w' u (Ac w' hE) hu)⟩
     ·exact .inr q
    ·rw [Array.setIfInBounds_comm _ _ aY]
     exact fN
   ·exact hy.wpOp hi (NC _ _ (hr w)) ⟨fun _=>hr w,h⟩
def Ad (ops:Array Oper) (i:Nat):Bool:=match ops[i]? with | some o=>(match o.op with | .move _=>true | _=>false) | none=>false
theorem YieldsIf.move {S:World→Prop} {oi:Oper} {v:Value} {a:Act} {x:Operand} {w:World} (ho:oi.op=.move x) (hw:S w) (h:YieldsIf P ops S oi v a):YieldsIf P ops (fun _=>True) oi v a:=by
 rcases h with ⟨h1,h2⟩ | h
 ·refine .inl ⟨h1,fun u _=>?_⟩
  have:=h2 w hw
  have e:∀ u:World,(execOp a.eval oi).run P u=.ok (.value (a.eval x)) u:=fun u=>by simp [execOp,ho]
  rw [e] at this ⊢
  cases this
  rfl
 ·exact .inr h
def BW (ops:Array Oper) (nc:List Nat) (k:Array Bool→Bool):Array Bool→List (Nat×Bool)→Bool
 | listed,[]=>k listed
 | listed,p :: r=>(bif p.2 then Region.free .any ops listed p.1 && (Region.ready .any ops listed).contains p.1 && (Ad ops p.1 || (List.range ops.size).all fun j=>Nat.beq j p.1 || listed.getD j true || mL ops nc j || behind ops p.1 ops.size j) else decide (Region.ready .any ops listed=[p.1])) && BW ops nc k (listed.setIfInBounds p.1 true) r
def j7.len:j7→Nat
 | .done=>0
 | .seq l t=>l.length+t.len
 | .fork _ x _ _=>x.len+1
def nP (ops:Array Oper) (nc:List Nat):j7→Array Bool→Bool
 | .done,listed=>(Region.ready .any ops listed).isEmpty
 | .seq l t,listed=>BW ops nc (nP ops nc t) listed l
 | .fork i x j y,listed=>decide (Region.ready .any ops listed=[i,j]) && Nat.beq x.len y.len && nP ops nc x (listed.setIfInBounds i true) && nP ops nc y (listed.setIfInBounds j true)
theorem kD (hr:∀ w,E w w) (ht:∀ u v w,E u v→E v w→E u w) (hs:Region.noSelect ops=true) (hQ:∀ c a w,¬ Q (.panic c) a w) {k:Array Bool→Bool} {N:Act→World→Prop} {m:Nat}
  (hN:∀ (listed:Array Bool) (a:Act) (w:World),fy ops listed→k listed=true→N a w→mM P ops nc Q E m listed a w):∀ (l:List (Nat×Bool)) (listed:Array Bool) (a:Act) (w:World),fy ops listed→BW ops nc k listed l=true →
  nw P ops nc Q E l N a w→mM P ops nc Q E (l.length+m) listed a w
 | [],listed,a,w,jx,hp,h=>by
  rw [List.length_nil,Nat.zero_add]
  exact hN listed a w jx hp h
 | (i,tk) :: r,listed,a,w,jx,hp,h=>by
  simp only [BW,Bool.and_eq_true] at hp
  have h':fM P ops nc Q E (i,tk) (nw P ops nc Q E r N) a w:=h
  unfold fM at h'
  rw [List.length_cons,show r.length+1+m=(r.length+m)+1 by omega]
  cases tk with
  | true =>
   rw [if_pos rfl] at h'
   obtain ⟨oi,v,hi,hy,hn⟩:=h'
   simp only [cond_true,Bool.and_eq_true] at hp
   have im:i ∈ Region.ready .any ops listed:=by simpa using hp.1.1.2
   have fN:=kD hr ht hs hQ hN r _ _ _ (jx.set im) hp.2 hn
   cases JR:Ad ops i with
   | true =>
    unfold Ad at JR
    rw [hi] at JR
    simp only at JR
    split at JR
    ·rename_i x hx
     exact mM.take (S:=fun _ _=>True) hr (fun _ _ _=>trivial) (fun _ _ _ _ _=>trivial) hQ hs hi (r.length+m) (Region.free_spec hi hp.1.1.1) im jx (.inl fun _ _=>trivial) (YieldsIf.move hx (hr w) hy) fN
    ·cases JR
   | false =>
   rw [JR,Bool.false_or] at hp
   refine mM.take hr (fun _ _ h=>h) ht hQ hs hi (r.length+m) (Region.free_spec hi hp.1.1.1) im jx (.inr fun j hj aY BV=>?_) hy fN
   have:=List.all_eq_true.1 hp.1.2 j (List.mem_range.2 hj)
   rw [Bool.or_eq_true,Bool.or_eq_true,Bool.or_eq_true] at this
   rcases this with ((h1 | h1) | h1) | h1
   ·exact absurd (Nat.eq_of_beq_eq_true h1) aY
   ·rw [BV] at h1;cases h1
   ·exact .inl h1
   ·exact .inr h1
  | false =>
   rw [if_neg (by simp)] at h'
   simp only [cond_false,decide_eq_true_eq] at hp
   refine ⟨fun e=>(by rw [hp.1] at e;cases e),fun j hj=>?_⟩
   rw [hp.1] at hj
   have:j=i:=by simpa using hj
   subst this
   exact wpOp_mono (fun a' w' hh=>⟨hh.1,kD hr ht hs hQ hN r _ _ _ (jx.set (by rw [hp.1];simp)) hp.2 hh.2⟩) h'
def Mb (P:Program) (ops:Array Oper) (nc:List Nat) (Q:Exit→Act→World→Prop) (E:World→World→Prop):j7→(Act→World→Prop)→Act→World→Prop
 | .done,N,a,w=>N a w
 | .seq l t,N,a,w=>nw P ops nc Q E l (Mb P ops nc Q E t N) a w
 | .fork i x j y,N,a,w=>nw P ops nc Q E [(i,false)] (Mb P ops nc Q E x N) a w∧nw P ops nc Q E [(j,false)] (Mb P ops nc Q E y N) a w
theorem iy (hr:∀ w,E w w) (ht:∀ u v w,E u v→E v w→E u w) (hs:Region.noSelect ops=true) (hQ:∀ c a w,¬ Q (.panic c) a w):∀ (T:j7) (listed:Array Bool) (a:Act) (w:World),fy ops listed→nP ops nc T listed=true →
  Mb P ops nc Q E T (fun a w=>Q .normal a w) a w→mM P ops nc Q E T.len listed a w
 | .done,listed,a,w,jx,hp,h=>⟨by simpa [nP] using hp,h⟩
 | .seq l t,listed,a,w,jx,hp,h=>kD hr ht hs hQ (fun listed a w jx hk hn=>iy hr ht hs hQ t listed a w jx hk hn) l listed a w jx hp h
 | .fork i x j y,listed,a,w,jx,hp,h=>by
  simp only [nP,Bool.and_eq_true,decide_eq_true_eq] at hp
  obtain ⟨⟨⟨h1,h2⟩,h3⟩,h4⟩:=hp
  have hl:=Nat.eq_of_beq_eq_true h2
  have key:∀ (q:Nat) (z:j7),(∀ (listed:Array Bool) (a:Act) (w:World),fy ops listed→nP ops nc z listed=true→Mb P ops nc Q E z (fun a w=>Q .normal a w) a w→mM P ops nc Q E z.len listed a w)→q ∈ Region.ready .any ops listed→nP ops nc z (listed.setIfInBounds q true)=true→nw P ops nc Q E [(q,false)] (Mb P ops nc Q E z fun a w=>Q .normal a w) a w →
    wpOp P ops Q q (fun a' w'=>(mL ops nc q=true→E w w')∧mM P ops nc Q E z.len (listed.setIfInBounds q true) a' w') a w:=by
   intro q z ih hq hz hw
   have h':fM P ops nc Q E (q,false) (nw P ops nc Q E [] (Mb P ops nc Q E z fun a w=>Q .normal a w)) a w:=hw
   unfold fM at h'
   rw [if_neg (by simp)] at h'
   exact wpOp_mono (fun a' w' hh=>⟨hh.1,ih _ _ _ (jx.set hq) hz hh.2⟩) h'
  have kx:=iy hr ht hs hQ x
  have ky:=iy hr ht hs hQ y
  refine ⟨fun e=>(by rw [h1] at e;cases e),fun q hq=>?_⟩
  have qN:=hq
  rw [h1] at qN
  rcases List.mem_cons.1 qN with e | qN
  ·subst e;exact key _ x kx hq h3 h.1
  ·rcases List.mem_cons.1 qN with e | qN
   ·subst e
    have:=key _ y ky hq h4 h.2
    rw [← hl] at this
    exact this
   ·cases qN
end plain
section
variable {C:cS} {P:Program} {w0:World} {F0:Fs} {nt:Nat} {call:Nat→List AV→Option AV} {f:Nat} {ops:Array Oper} {nc:List Nat} {Q:Exit→Act→World→Prop}
def eH (D:Option (List Nat)) (σ0:Nat→Option Nat) (w w':World):Prop :=
 match D with
 | none=>True
 | some ws=>w.heap.size≤w'.heap.size∧∀ b,b < w.heap.size→(∀ s ∈ ws,σ0 s≠some b)→w'.heap[b]?=w.heap[b]?
theorem eH.refl (D:Option (List Nat)) (σ0:Nat→Option Nat) (w:World):eH D σ0 w w:=by
 cases D with
 | none=>trivial
 | some ws=>exact ⟨Nat.le_refl _,fun _ _ _=>rfl⟩
theorem eH.trans {D:Option (List Nat)} {σ0:Nat→Option Nat} {u v w:World} (h:eH D σ0 u v) (k:eH D σ0 v w):eH D σ0 u w:=by
 cases D with
 | none=>trivial
 | some ws=>exact ⟨Nat.le_trans h.1 k.1,fun b hb hs=>(k.2 b (Nat.lt_of_lt_of_le hb h.1) hs).trans (h.2 b hb hs)⟩
def Ord (D:Option (List Nat)) (σ0 σ:Nat→Option Nat):Prop:=∀ ws,D=some ws→∀ s ∈ ws,σ s=σ0 s
def iz (ops:Array Oper) (ctx:Option (Nat×Bool)) (l:List (Nat×Bool)) (a:Act):Prop :=
 match ctx with
 | none=>True
 | some (j,want)=>yielded ops a.tmps j=some want∧∃ d,bN ops j=some d∧∀ i ∈ l,bN ops i.1≠some d
theorem jj {i:Nat} (h:Nat.blt i ops.size=true):ops[i]?=some (opAt ops i):=by
 have aM:i < ops.size:=by unfold Nat.blt at h;exact Nat.le_of_ble_eq_true h
 unfold opAt
 simp [aM]
theorem fA {i:Nat} (h:Nat.blt i ops.size=true):bN ops i=(opAt ops i).dst:=by
 unfold bN
 rw [jj h]
 rfl
theorem jE {o:Oper} {ctx:Option (Nat×Bool)} {l:List (Nat×Bool)} {a:Act} (h:pF o.guard ctx=true) (hc:iz ops ctx l a):Region.wanted o (yielded ops a.tmps)=true:=by
 unfold Region.wanted
 unfold pF at h
 split at h
 ·rename_i hg;rw [hg]
 ·rename_i i x j y hg
  rw [hg]
  rw [Bool.and_eq_true] at h
  have e1:=Nat.eq_of_beq_eq_true h.1
  have e2:x=y:=by simpa using h.2
  subst e1 e2
  simp [hc.1]
 ·cases h
theorem kE {a:Act} {dst:Option Nat} {v:Value} {j d:Nat} (hj:bN ops j=some d) (aY:dst≠some d):yielded ops (a.put dst v).tmps j=yielded ops a.tmps j:=by
 unfold yielded
 unfold bN at hj
 rw [hj]
 cases dst with
 | none=>rfl
 | some e =>
  simp only [Act.put,Option.bind_some]
  rw [Array.getElem?_setIfInBounds_ne (fun hh=>aY (by rw [hh]))]
theorem nQ {a:Act} {j:Nat} (hj:bN ops j=none):yielded ops a.tmps j=none:=by
 unfold yielded
 unfold bN at hj
 rw [hj]
 rfl
theorem iz.put {ctx:Option (Nat×Bool)} {l:List (Nat×Bool)} {a:Act} (h:iz ops ctx l a) {i:Nat×Bool} (hi:i ∈ l) (v:Value):iz ops ctx l (a.put (bN ops i.1) v):=by
 unfold iz at *
 match ctx,h with
 | none,_=>trivial
 | some (j,want),⟨h1,d,hd,h2⟩=>exact ⟨by rw [kE hd (h2 i hi)];exact h1,d,hd,h2⟩
theorem iz.sub {ctx:Option (Nat×Bool)} {l m:List (Nat×Bool)} {a:Act} (h:iz ops ctx l a) (hm:∀ i ∈ m,i ∈ l):iz ops ctx m a:=by
 unfold iz at *
 match ctx,h with
 | none,_=>trivial
 | some (j,want),⟨h1,d,hd,h2⟩=>exact ⟨h1,d,hd,fun i hi=>h2 i (hm i hi)⟩
theorem vJ {a a':Act} {j d:Nat} (hj:bN ops j=some d) (cg:a'.tmps.size=a.tmps.size) (h:a'.tmps.getD d undef=a.tmps.getD d undef):yielded ops a'.tmps j=yielded ops a.tmps j:=by
 unfold yielded
 unfold bN at hj
 rw [hj]
 simp only [Option.bind_some]
 by_cases hd:d < a.tmps.size
 ·have EN:d < a'.tmps.size:=by omega
  have:a'.tmps[d]?=a.tmps[d]?:=by
   simp only [Array.getD_eq_getD_getElem?,Array.getElem?_eq_getElem hd,Array.getElem?_eq_getElem EN,Option.getD_some] at h
   rw [Array.getElem?_eq_getElem hd,Array.getElem?_eq_getElem EN,h]
  rw [this]
 ·rw [Array.getElem?_eq_none (by omega),Array.getElem?_eq_none (by omega)]
def ga (ops:Array Oper) (l:List (Nat×Bool)) (a a':Act):Prop:=∀ t,(∀ i ∈ l,bN ops i.1≠some t)→a'.tmps.getD t undef=a.tmps.getD t undef
theorem iz.same {ctx:Option (Nat×Bool)} {l m:List (Nat×Bool)} {a a':Act} (h:iz ops ctx l a) (hm:∀ i ∈ m,i ∈ l) (cg:a'.tmps.size=a.tmps.size) (hs:ga ops m a a'):iz ops ctx l a':=by
 unfold iz at *
 match ctx,h with
 | none,_=>trivial
 | some (j,want),⟨h1,d,hd,h2⟩=>exact ⟨by rw [vJ hd cg (hs d fun i hi=>h2 i (hm i hi))];exact h1,d,hd,h2⟩
theorem Inv.eJ {st:St} {a a':Act} {w w':World} {H:Nat→Option Value} {σ:Nat→Option Nat} (h:Inv C w0 F0 nt st a w H σ) (hw:Ext w w') {l:List (Nat×Bool)} (cg:a'.tmps.size=a.tmps.size) (Vs:a'.defers=[]) (hs:ga ops l a a') :
  Inv C w0 F0 nt (st.eJ (l.filterMap fun i=>bN ops i.1)) a' w' H σ:=by
 have h1:=h.ext hw
 have key:∀ (ts:List Nat) (BX:St) (t:Nat),(t ∈ ts→(BX.eJ ts).env t=.dead)∧(t ∉ ts→(BX.eJ ts).env t=BX.env t)∧(BX.env t=.dead→(BX.eJ ts).env t=.dead)∧(BX.eJ ts).mem=BX.mem:=by
  intro ts
  induction ts with
  | nil=>intro BX t;simp [St.eJ]
  | cons u ts ih =>
   intro BX t
   obtain ⟨i1,i2,i3,i4⟩:=ih (BX.set u .dead) t
   have e:BX.eJ (u :: ts)=(BX.set u .dead).eJ ts:=rfl
   have rS:(BX.set u .dead).env t=if t=u then .dead else BX.env t:=by simp [St.set,aO]
   rw [e]
   refine ⟨fun hm=>?_,fun hm=>?_,fun hd=>i3 ?_,i4⟩
   ·by_cases JB:t ∈ ts
    ·exact i1 JB
    ·rw [i2 JB,rS]
     rcases List.mem_cons.1 hm with h | h
     ·rw [if_pos h]
     ·exact absurd h JB
   ·rw [i2 fun JB=>hm (List.mem_cons_of_mem _ JB),rS,if_neg]
    intro e;exact hm (e ▸ List.mem_cons_self ..)
   ·rw [rS];split
    ·rfl
    ·exact hd
 refine { h1 with defers:=Vs,size:=cg.trans h1.size,env:=fun t=>?_,mem:=?_ }
 ·obtain ⟨k1,k2,_,_⟩:=key (l.filterMap fun i=>bN ops i.1) st t
  by_cases ht:t ∈ l.filterMap fun i=>bN ops i.1
  ·rw [k1 ht];trivial
  ·rw [k2 ht,hs t fun i hi e=>ht (List.mem_filterMap.2 ⟨i,hi,e⟩)]
   exact h1.env t
 ·obtain ⟨_,_,_,k4⟩:=key (l.filterMap fun i=>bN ops i.1) st 0
  rw [k4]
  exact h1.mem
theorem pS {ctx:Option (Nat×Bool)} {d:Nat} {want:Bool}:∀ {l:List (Nat×Bool)} {kc:List (Nat×Bool)} {p:Nat×Bool} {ab:Operand×Operand} {rest:List (Nat×Bool)},
  rK ops ctx d want l=some (kc,p,ab,rest)→l=kc ++ p :: rest∧vr ctx d want (opAt ops p.1)=some ab
 | [],_,_,_,_,h=>by cases h
 | i :: r,kc,p,ab,rest,h=>by
  simp only [rK] at h
  split at h
  ·rename_i hc
   cases h
   exact ⟨rfl,hc⟩
  ·cases hr:rK ops ctx d want r with
   | none=>rw [hr] at h;cases h
   | some q =>
    obtain ⟨aaa,p',ab',FR⟩:=q
    rw [hr] at h
    cases h
    obtain ⟨h1,h2⟩:=pS hr
    exact ⟨by rw [h1];rfl,h2⟩
theorem mN {C:cS} {li:Bool} {j:Nat} {want:Bool} {d:Nat}:∀ {l:List (Nat×Bool)} {seen:List Nat},ka C ops li j want d l seen=true →
  (∀ i ∈ l,(li=true→Op.ur C (opAt ops i.1).op=true)∧bN ops i.1≠some d)
 | [],_,_=>by simp
 | i :: r,seen,h=>by
  simp only [ka,Bool.and_eq_true] at h
  obtain ⟨⟨⟨⟨h1,h2⟩,h3⟩,h4⟩,h5⟩:=h
  intro q hq
  rcases List.mem_cons.1 hq with rfl | hq
  ·refine ⟨fun e=>by rw [e] at h3;simpa using h3,?_⟩
   rw [fA h1]
   intro e
   rw [e] at h4
   simp at h4
  ·exact mN h5 q hq
theorem vK {C:cS} {li:Bool} {E:World→World→Prop} (hE:∀ w,E w w) {j:Nat} {want x:Bool} {d:Nat} (hx:x≠want) (j6:bN ops j=some d):∀ {l:List (Nat×Bool)} {seen:List Nat},ka C ops li j want d l seen=true →
  ∀ {N:Act→World→Prop} {a:Act} {w:World},yielded ops a.tmps j=some x→(∀ g ∈ seen,yielded ops a.tmps g=none) →
   (∀ a',a'.tmps.size=a.tmps.size→a'.defers=a.defers→ga ops l a a'→N a' w)→nw P ops nc Q E l N a w
 | [],seen,h,N,a,w,hj,hs,hn=>hn a rfl rfl fun _ _=>rfl
 | i :: r,seen,h,N,a,w,hj,hs,hn=>by
  simp only [ka,Bool.and_eq_true] at h
  obtain ⟨⟨⟨⟨h1,h2⟩,h3⟩,h4⟩,h5⟩:=h
  have dj:=jj h1
  have Yd:Region.wanted (opAt ops i.1) (yielded ops a.tmps)=false:=by
   unfold Region.wanted
   split at h2
   ·rename_i g x' hg
    rw [hg]
    simp only
    rw [Bool.or_eq_true] at h2
    rcases h2 with h2 | h2
    ·rw [Bool.and_eq_true] at h2
     have e1:=Nat.eq_of_beq_eq_true h2.1
     have e2:x'=want:=by simpa using h2.2
     subst e1 e2
     rw [hj]
     simpa using hx
    ·rw [hs g (by simpa using h2)]
     rfl
   ·cases h2
  have hdi:(opAt ops i.1).dst≠some d:=by
   intro e
   rw [e] at h4
   simp at h4
  have NG:∀ g,yielded ops (a.put (opAt ops i.1).dst undef).tmps g=yielded ops a.tmps g∨yielded ops (a.put (opAt ops i.1).dst undef).tmps g=none:=by
   intro g
   cases hg:bN ops g with
   | none=>exact .inr (nQ hg)
   | some e =>
    by_cases he:(opAt ops i.1).dst=some e
    ·right
     unfold yielded
     unfold bN at hg
     rw [hg]
     simp only [Option.bind_some,he,Act.put]
     by_cases aM:e < a.tmps.size
     ·simp [aM,undef]
     ·simp [aM]
    ·exact .inl (kE hg he)
  have yp:yielded ops (a.put (opAt ops i.1).dst undef).tmps i.1=none:=by
   cases hg:bN ops i.1 with
   | none=>exact nQ hg
   | some e =>
    have he:(opAt ops i.1).dst=some e:=by rw [← fA h1];exact hg
    unfold yielded
    unfold bN at hg
    rw [hg]
    simp only [Option.bind_some,he,Act.put]
    by_cases aM:e < a.tmps.size
    ·simp [aM,undef]
    ·simp [aM]
  have fN:nw P ops nc Q E r N (a.put (opAt ops i.1).dst undef) w:=by
   refine vK hE hx j6 h5 (by rw [kE j6 hdi];exact hj) (fun g hg=>?_) (fun a' q1 q2 q3=>hn a' (q1.trans (size_put ..)) (q2.trans (zS ..)) fun t ht=>?_)
   ·rcases List.mem_cons.1 hg with rfl | hg
    ·exact yp
    ·rcases NG g with e | e
     ·rw [e];exact hs g hg
     ·exact e
   ·rw [q3 t fun i hi=>ht i (List.mem_cons_of_mem _ hi)]
    refine mE.put a _ undef t fun e=>ht i (List.mem_cons_self ..) ?_
    rw [fA h1];exact e
  show fM P ops nc Q E i (nw P ops nc Q E r N) a w
  unfold fM
  split
  ·exact ⟨_,undef,dj, .inr ⟨Yd,rfl⟩,fN⟩
  ·unfold wpOp
   rw [dj]
   simp only [Yd,Bool.false_eq_true,if_false]
   exact ⟨fun _=>hE w,fN⟩
end
section
variable {C:cS} {P:Program} {w0:World} {F0:Fs} {nt:Nat} {call:Nat→List AV→Option AV} {f:Nat} {ops:Array Oper} {nc:List Nat} {Q:Exit→Act→World→Prop}
def nR (D:Option (List Nat)):List Nat:=D.getD []
theorem any_beq {s:Nat} {ws:List Nat}:ws.any (Nat.beq s)=true↔s ∈ ws:=by
 rw [List.any_eq_true]
 constructor
 ·rintro ⟨x,hx,he⟩
  rw [Nat.eq_of_beq_eq_true he];exact hx
 ·intro h;exact ⟨s,h,Nat.beq_refl s⟩
theorem Ord.step {D:Option (List Nat)} {σ0:Nat→Option Nat} {st:St} {w w':World} {σ σ':Nat→Option Nat} {o:Oper} {i:Nat} (h:Ord D σ0 σ) (fm:vq C i o false D st=true) (hk:dY C st o σ w w')
  (hσ:∀ s,o.dst≠some s→σ' s=σ s) (Fh:(∃ t,o.op=.alloc t)∨(∃ t x,o.op=.box t x)∨σ'=σ):Ord D σ0 σ'∧(Op.calm o.op=true→(nR D).any (Nat.beq (1000000+i))=false→eH D σ0 w w'):=by
 cases D with
 | none=>exact ⟨fun ws e=>(by cases e),fun _ _=>trivial⟩
 | some ws =>
  have dk:∀ s ∈ ws,σ' s=σ0 s:=fun s hs=>by
   rw [← h ws rfl s hs]
   rcases Fh with ⟨t,ht⟩ | ⟨t,x,ht⟩ | e
   ·refine hσ s fun hd=>?_
    simp only [vq,ht,hd,cond_false,Bool.not_eq_true'] at fm
    rw [any_beq.2 hs] at fm;cases fm
   ·refine hσ s fun hd=>?_
    simp only [vq,ht,hd,cond_false,Bool.not_eq_true'] at fm
    rw [any_beq.2 hs] at fm;cases fm
   ·rw [e]
  refine ⟨fun ws' e s hs=>by cases e;exact dk s hs,fun eX QB=>?_⟩
  have ext:Ext w w'→eH (some ws) σ0 w w':=fun hx=>⟨hx.size,fun b hb _=>hx.block b hb⟩
  unfold dY at hk
  cases ho:o.op with
  | store t x y =>
   rw [ho] at hk
   simp only [vq,ho,cond_false] at fm
   simp only at hk
   have NH:ws.any (Nat.beq (1000000+i))=false:=QB
   rw [NH,Bool.false_or] at fm
   split at fm
   ·rename_i s off cI
    rw [cI] at hk
    refine ⟨hk.1,fun b hb hs=>hk.2 b hb ?_⟩
    have hm:=any_beq.1 fm
    rw [h ws rfl s hm]
    exact hs s hm
   ·cases fm
  | call c =>
   rw [ho] at hk
   obtain ⟨ce,ar,QO⟩:=c
   cases ce with
   | builtin b =>
    cases b <;> first | (rw [ho] at eX;exact ext ((if_pos (show gI ar.toList=true from eX)).mp hk);done) | exact ext hk
   | value x =>
    have oK:if Jc C st x=true then True else Ext w w':=hk
    cases hm:Jc C st x with
    | false=>rw [hm] at oK;exact ext oK
    | true =>
     exfalso
     simp only [vq,ho,hm,cond_false,Bool.not_true,Bool.false_or] at fm
     have NH:ws.any (Nat.beq (1000000+i))=false:=QB
     rw [NH] at fm;cases fm
   | invoke x n=>exact ext hk
  | convert s t x =>
   rw [ho] at hk eX
   simp only [Op.calm,Bool.not_eq_true'] at eX
   simp only [eX] at hk
   rw [if_neg (by simp)] at hk
   exact ext hk
  | _=>rw [ho] at hk;exact ext hk
theorem ga.sub {l m:List (Nat×Bool)} {a a':Act} (h:ga ops l a a') (hm:∀ i ∈ l,i ∈ m):ga ops m a a':=fun t ht=>h t fun i hi=>ht i (hm i hi)
theorem ga.trans {l:List (Nat×Bool)} {a b c:Act} (h:ga ops l a b) (k:ga ops l b c):ga ops l a c:=fun t ht=>(k t ht).trans (h t ht)
theorem kF {st:St} {a:Act} {w:World} {H:Nat→Option Value} {σ:Nat→Option Nat} {x:Operand} {y:Bool} (h:Inv C w0 F0 nt st a w H σ) (hp:(st.get C x).aU=.b y):a.eval x=.bool y:=by
 rcases (h.get x).aU with e | e
 ·rw [hp] at e;cases e
 ·rw [hp] at e
  generalize a.eval x=V at e
  cases e;rfl
theorem yr {ctx:Option (Nat×Bool)} {d:Nat} {want:Bool} {o:Oper} {A B:Operand} (h:vr ctx d want o=some (A,B)):o.op=.pick (.tmp d) A B∧pF o.guard ctx=true∧∃ v,(bif want then B else A)=.const v:=by
 unfold vr at h
 split at h
 ·rename_i c A' B' dj
  rename_i h0
  cases hb:(Nat.beq c d && pF o.guard ctx && isConst (bif want then B' else A')) with
  | false=>rw [hb] at h;cases h
  | true =>
   rw [hb] at h
   simp only [cond_true,Option.some.injEq,Prod.mk.injEq] at h
   obtain ⟨rfl,rfl⟩:=h
   rw [Bool.and_eq_true,Bool.and_eq_true] at hb
   have:=Nat.eq_of_beq_eq_true hb.1.1
   subst this
   refine ⟨dj,hb.1.2,?_⟩
   have h3:=hb.2
   unfold isConst at h3
   split at h3
   ·rename_i v hv;exact ⟨v,hv⟩
   ·cases h3
 ·cases h
theorem eY (hC:iR C P call) (hT:∀ t i,C.ty t=some i→cm P t i) (bu:∀ (i:Nat) (o:Oper) (t:Nat),ops[i]?=some o→o.dst=some t→t < nt) {D:Option (List Nat)} {σ0:Nat→Option Nat} :
  ∀ (n:Nat) {R:Type} {ctx:Option (Nat×Bool)} {l:List (Nat×Bool)} {st:St} {K:St→Option R} {r:R} {a:Act} {w:World} {H:Nat→Option Value} {σ:Nat→Option Nat} {N:Act→World→Prop},
   cA C call f ops D n ctx l st K=some r→Inv C w0 F0 nt st a w H σ→Ord D σ0 σ→iz ops ctx l a →
   (∀ (a':Act) (w':World) (st':St) (H':Nat→Option Value) (σ':Nat→Option Nat),K st'=some r→Inv C w0 F0 nt st' a' w' H' σ'→Ord D σ0 σ' →
    ga ops l a a'→((∀ i ∈ l,Op.ur C (opAt ops i.1).op=true)→Ext w w')→N a' w') →
   nw P ops (nR D) Q (eH D σ0) l N a w
 | 0,R,ctx,l,st,K,r,a,w,H,σ,N,hK,hI,hO,hc,hn=>by cases hK
 | n+1,R,ctx,[],st,K,r,a,w,H,σ,N,hK,hI,hO,hc,hn=>hn a w st H σ hK hI hO (fun _ _=>rfl) (fun _=>Ext.refl w)
 | n+1,R,ctx,i :: l,st,K,r,a,w,H,σ,N,hK,hI,hO,hc,hn=>by
  simp only [cA] at hK
  cases aM:Nat.blt i.1 ops.size with
  | false=>rw [aM] at hK;cases hK
  | true =>
   rw [aM] at hK
   simp only [Bool.not_true,cond_false] at hK
   have dj:=jj aM
   cases Qd:pF (opAt ops i.1).guard ctx with
   | true =>
    rw [Qd] at hK
    simp only [cond_true] at hK
    have hw:=jE Qd hc
    cases fm:vq C i.1 (opAt ops i.1) i.2 D st with
    | false=>rw [fm] at hK;cases hK
    | true =>
     rw [fm] at hK
     simp only [cond_true] at hK
     have hd:∀ t,(opAt ops i.1).dst=some t→t < nt:=fun t ht=>bu i.1 _ t dj ht
     have go:∀ (a':Act) (w':World) (st':St) (H':Nat→Option Value) (σ':Nat→Option Nat),cA C call f ops D n ctx l st' K=some r→Inv C w0 F0 nt st' a' w' H' σ' →
       Ord D σ0 σ'→mE (opAt ops i.1).dst a a'→(Op.ur C (opAt ops i.1).op=true→Ext w w')→nw P ops (nR D) Q (eH D σ0) l N a' w':=by
      intro a' w' st' H' σ' JN iA Q8 NI hex
      have kn:ga ops [i] a a':=fun t ht=>NI t fun e=>ht i (List.mem_cons_self ..) (by rw [fA aM];exact e)
      have cg:a'.tmps.size=a.tmps.size:=iA.size.trans hI.size.symm
      refine eY hC hT bu n JN iA Q8 ((hc.same (m:=[i]) (fun q hq=>by simp at hq;subst hq;exact List.mem_cons_self ..) cg kn).sub fun q hq=>List.mem_cons_of_mem _ hq) fun a2 w2 j5 H2 σ2 q1 q2 q3 q4 q5=>?_
      refine hn a2 w2 j5 H2 σ2 q1 q2 q3 ((kn.sub fun q hq=>by simp at hq;subst hq;exact List.mem_cons_self ..).trans (q4.sub fun q hq=>List.mem_cons_of_mem _ hq)) fun hl=>?_
      ·exact (hex (hl i (List.mem_cons_self ..))).trans (q5 fun q hq=>hl q (List.mem_cons_of_mem _ hq))
     show fM P ops (nR D) Q (eH D σ0) i (nw P ops (nR D) Q (eH D σ0) l N) a w
     unfold fM
     cases TY:i.2 with
     | true =>
      rw [if_pos rfl]
      rw [TY] at fm
      have hy:C.pure (opAt ops i.1).op=true∧oM C P w0 F0 nt a w σ (fun st=>cA C call f ops D n ctx l st K) r (opAt ops i.1) (eH D σ0 w):=by
       cases D with
       | none=>cases fm
       | some ws =>
        unfold vq at fm
        simp only [cond_true,Bool.and_eq_true] at fm
        obtain ⟨k1,k3⟩:=fm
        refine ⟨k1,?_⟩
        refine oP (ws:=ws) k1 hT hI hd hK (fun w' ua b hb hs=>ua.2 b hb fun s hm=>by rw [← hO ws rfl s hm];exact hs s hm) (fun t x s off ho cI hm=>?_)
        ·rw [ho] at k3
         simp only [cI,Bool.not_eq_true'] at k3
         have:=any_beq.2 hm
         rw [k3] at this;cases this
      obtain ⟨k1,v,hv,st',H',JN,iA⟩:=hy
      refine ⟨_,v,dj, .inl ⟨hw,hv⟩,go _ w st' H' σ JN iA hO (mE.put a _ v) (fun _=>Ext.refl w)⟩
     | false =>
      rw [if_neg (by simp)]
      rw [TY] at fm
      unfold wpOp
      rw [dj]
      simp only [hw,if_true]
      left
      cases hp:C.pure (opAt ops i.1).op with
      | true =>
       obtain ⟨v,hv,st',H',JN,iA⟩:=oP (ws:=[]) hp hT hI hd hK (S:=(· = w)) (rR.self [] σ w) (fun _ _ _ _ _ _=>by simp)
       unfold Oper.wp
       rw [hv w rfl,Oper.upon_value]
       exact ⟨fun _=>eH.refl D σ0 w,go _ w st' H' σ JN iA hO (mE.put a _ v) (fun _=>Ext.refl w)⟩
      | false =>
       refine JQ hC hT hI hd hK _ Q fun a' w' st' H' σ' q1 q2 q3 q4 q5=>?_
       obtain ⟨Q8,Q9⟩:=hO.step fm q3 q4.1 q4.2
       refine ⟨fun hc=>(by unfold mL at hc;rw [dj] at hc;simp only [Bool.and_eq_true,Bool.not_eq_true'] at hc;exact Q9 hc.1 hc.2),go a' w' st' H' σ' q1 q2 Q8 q5 fun hl=>?_⟩
       unfold dY at q3
       split at q3
       ·rename_i ho;rw [ho] at hl;cases hl
       ·rename_i ho;rw [ho] at hl;cases hl
       ·rename_i c _ ho
        rw [ho] at hl
        obtain ⟨ce,ar,QO⟩:=c
        cases ce with
        | builtin b=>exact q3
        | invoke x m=>exact q3
        | value x =>
         have q3:if Jc C st x=true then True else Ext w w':=q3
         cases x with
         | func g =>
          have hl:(C.sig g).isNone=true:=hl
          have:Jc C st (.func g)=false:=by
           show (C.sig g).isSome=false
           cases hs:C.sig g with
           | none=>rfl
           | some _=>rw [hs] at hl;cases hl
          rw [this] at q3
          exact q3
         | _=>cases hl
       ·rename_i ho
        rw [ho] at hl
        simp only [Op.ur,Bool.not_eq_true'] at hl
        rw [hl,if_neg (by simp)] at q3
        exact q3
       ·exact q3
   | false =>
    rw [Qd] at hK
    simp only [cond_false] at hK
    split at hK
    ·cases hK
    rename_i j want hg
    split at hK
    ·cases hK
    rename_i d j6
    split at hK
    case h_2=>cases hK
    rename_i kc p A B rest Ae
    obtain ⟨hl,jx⟩:=pS Ae
    obtain ⟨Q',Ye,cv,DN⟩:=yr jx
    cases hh:(ka C ops true j want d kc [] && Nat.blt p.1 ops.size) with
    | false =>
     rw [hh] at hK
     simp only [cond_false] at hK
     cases BZ:(ka C ops false j want d kc [] && Nat.blt p.1 ops.size) with
     | false=>rw [BZ] at hK;cases hK
     | true =>
      rw [BZ] at hK
      simp only [cond_true] at hK
      rw [Bool.and_eq_true] at BZ
      have sa:=jj BZ.2
      have JS:=mN BZ.1
      have Vt:d < nt:=by
       unfold bN at j6
       cases NJ:ops[j]? with
       | none=>rw [NJ] at j6;cases j6
       | some oj=>rw [NJ] at j6;exact bu j oj d NJ j6
      obtain ⟨x,hx,hK⟩:∃ x,(st.env d).aU=.b x∧(if x=want then cA C call f ops D n (some (j,want)) kc st (fun st=>cA C call f ops D n ctx rest (st.put (opAt ops p.1).dst (st.get C (bif want then A else B))) K)
        else cA C call f ops D n ctx rest ((st.eJ (kc.filterMap fun i=>bN ops i.1)).put (opAt ops p.1).dst (st.get C (bif want then B else A))) K)=some r:=by
       unfold zO ah at hK
       cases want with
       | true =>
        simp only [cond_true] at hK
        split at hK
        ·rename_i x hx
         refine ⟨x,hx,?_⟩
         cases x with
         | true=>rw [if_pos rfl];exact hK
         | false=>rw [if_neg (by simp)];exact hK
        ·cases hK
       | false =>
        simp only [cond_false] at hK
        split at hK
        ·rename_i x hx
         refine ⟨x,hx,?_⟩
         cases x with
         | true=>rw [if_neg (by simp)];exact hK
         | false=>rw [if_pos rfl];exact hK
        ·cases hK
      have pK:a.tmps.getD d undef=.bool x:=kF (x:=.tmp d) hI hx
      have Ra:yielded ops a.tmps j=some x:=by
       have zR:d < a.tmps.size:=by rw [hI.size];exact Vt
       unfold yielded
       unfold bN at j6
       rw [j6]
       simp only [Option.bind_some]
       rw [Array.getElem?_eq_getElem zR]
       simp only [Array.getD_eq_getD_getElem?,Array.getElem?_eq_getElem zR,Option.getD_some] at pK
       rw [pK]
      rw [hl]
      rw [rZ]
      rw [hl] at hc hn
      have EP:∀ t,(opAt ops p.1).dst=some t→t < nt:=fun t ht=>bu p.1 _ t sa ht
      have Rb:∀ (a':Act) (w':World) (st':St) (H':Nat→Option Value) (σ':Nat→Option Nat) (Y:Operand),Inv C w0 F0 nt st' a' w' H' σ'→Ord D σ0 σ'→ga ops kc a a'→((∀ i ∈ kc,Op.ur C (opAt ops i.1).op=true)→Ext w w') →
        cA C call f ops D n ctx rest (st'.put (opAt ops p.1).dst (st'.get C Y)) K=some r→(if x=true then a'.eval A else a'.eval B)=a'.eval Y→nw P ops (nR D) Q (eH D σ0) (p :: rest) N a' w':=by
       intro a' w' st' H' σ' Y iA Q8 IL dR JN il
       have cg:a'.tmps.size=a.tmps.size:=iA.size.trans hI.size.symm
       have Qe:a'.tmps.getD d undef=.bool x:=by rw [IL d fun i hi=>(JS i hi).2];exact pK
       have IM:=hc.same (m:=kc) (fun q hq=>List.mem_append_left _ hq) cg IL
       have hw:=jE Ye IM
       have a8:∀ w1:World,(execOp a'.eval (opAt ops p.1)).run P w1=.ok (.value (a'.eval Y)) w1:=fun w1=>by
        have NK:a'.eval (.tmp d)=.bool x:=Qe
        simp only [execOp,Q',NK]
        simp [asBool,il]
       have Q5:Inv C w0 F0 nt (st'.put (opAt ops p.1).dst (st'.get C Y)) (a'.put (opAt ops p.1).dst (a'.eval Y)) w' H' σ':=iA.put EP (iA.get Y)
       have fN:nw P ops (nR D) Q (eH D σ0) rest N (a'.put (opAt ops p.1).dst (a'.eval Y)) w':=by
        have qL:ga ops [p] a' (a'.put (opAt ops p.1).dst (a'.eval Y)):=fun t ht=>mE.put a' _ _ t fun e=>ht p (List.mem_cons_self ..) (by rw [fA BZ.2];exact e)
        refine eY hC hT bu n JN Q5 Q8 ((IM.same (m:=[p]) (fun q hq=>by simp at hq;subst hq;exact List.mem_append_right _ (List.mem_cons_self ..)) (size_put ..) qL).sub fun q hq=>List.mem_append_right _ (List.mem_cons_of_mem _ hq)) fun a2 w2 j5 H2 σ2 q1 q2 q3 q4 q5=>?_
        refine hn a2 w2 j5 H2 σ2 q1 q2 q3 (((IL.sub fun q hq=>List.mem_append_left _ hq).trans (qL.sub fun q hq=>by simp at hq;subst hq;exact List.mem_append_right _ (List.mem_cons_self ..))).trans (q4.sub fun q hq=>List.mem_append_right _ (List.mem_cons_of_mem _ hq))) fun hl=>?_
        exact (dR fun q hq=>hl q (List.mem_append_left _ hq)).trans (q5 fun q hq=>hl q (List.mem_append_right _ (List.mem_cons_of_mem _ hq)))
       show fM P ops (nR D) Q (eH D σ0) p (nw P ops (nR D) Q (eH D σ0) rest N) a' w'
       unfold fM
       split
       ·exact ⟨_,_,sa, .inl ⟨hw,fun w1 _=>a8 w1⟩,fN⟩
       ·unfold wpOp
        rw [sa]
        simp only [hw,if_true]
        left
        unfold Oper.wp
        rw [a8 w',Oper.upon_value]
        exact ⟨fun _=>eH.refl D σ0 w',fN⟩
      by_cases xL:x=want
      ·subst xL
       rw [if_pos rfl] at hK
       refine eY hC hT bu n hK hI hO ⟨Ra,d,j6,fun q hq=>(JS q hq).2⟩ fun a2 w2 j5 H2 σ2 q1 q2 q3 q4 q5=>?_
       exact Rb a2 w2 j5 H2 σ2 _ q2 q3 q4 q5 q1 (by cases x <;> rfl)
      ·rw [if_neg xL] at hK
       refine vK (eH.refl D σ0) xL j6 BZ.1 Ra (by simp) fun a2 q1 q2 q3=>?_
       have Vu:Inv C w0 F0 nt (st.eJ (kc.filterMap fun i=>bN ops i.1)) a2 w H σ:=hI.eJ (Ext.refl w) q1 (q2.trans hI.defers) q3
       have hYc:∀ Y,(bif want then B else A)=Y→(∃ v,Y=.const v)→(st.eJ (kc.filterMap fun i=>bN ops i.1)).get C Y=st.get C Y:=fun Y _ hv=>by obtain ⟨v,rfl⟩:=hv;rfl
       refine Rb a2 w _ H σ (bif want then B else A) Vu hO q3 (fun _=>Ext.refl w) ?_ ?_
       ·rw [hYc _ rfl ⟨cv,DN⟩];exact hK
       ·cases x <;> cases want <;> first | rfl | exact absurd rfl xL
    | true =>
     rw [hh] at hK
     simp only [cond_true] at hK
     rw [Bool.and_eq_true] at hh
     have sa:=jj hh.2
     obtain ⟨z,hz,hK⟩:=Option.bind_eq_some_iff.1 hK
     have JS:=mN hh.1
     have Vt:d < nt:=by
      unfold bN at j6
      cases NJ:ops[j]? with
      | none=>rw [NJ] at j6;cases j6
      | some oj=>rw [NJ] at j6;exact bu j oj d NJ j6
     obtain ⟨x,hx⟩:∃ x,(st.env d).aU=.b x:=by
      unfold aq at hz
      split at hz
      ·rename_i x hx;exact ⟨x,hx⟩
      ·cases hz
     have pK:a.tmps.getD d undef=.bool x:=kF (x:=.tmp d) hI hx
     have Ra:yielded ops a.tmps j=some x:=by
      have zR:d < a.tmps.size:=by rw [hI.size];exact Vt
      unfold yielded
      unfold bN at j6
      rw [j6]
      simp only [Option.bind_some]
      rw [Array.getElem?_eq_getElem zR]
      simp only [Array.getD_eq_getD_getElem?,Array.getElem?_eq_getElem zR,Option.getD_some] at pK
      rw [pK]
     rw [hl]
     rw [rZ]
     rw [hl] at hc hn
     have ea:=hc.sub (m:=kc) fun q hq=>List.mem_append_left _ hq
     have EP:d ∉ (bN ops p.1).toList∨True:=.inr trivial
     have fin:∀ (a':Act) (w':World) (y:Bool),a'.tmps.size=a.tmps.size→a'.defers=[]→ga ops kc a a'→Ext w w'→z=.b y →
       (if x=true then a'.eval A else a'.eval B)=.bool y→nw P ops (nR D) Q (eH D σ0) (p :: rest) N a' w':=by
      intro a' w' y cg Vs IL dR hzy il
      subst hzy
      have Vu:Inv C w0 F0 nt (st.eJ (kc.filterMap fun i=>bN ops i.1)) a' w' H σ:=hI.eJ dR cg Vs IL
      have Qe:a'.tmps.getD d undef=.bool x:=by rw [IL d fun i hi=>(JS i hi).2];exact pK
      have IM:=hc.same (m:=kc) (fun q hq=>List.mem_append_left _ hq) cg IL
      have hw:=jE Ye IM
      have a8:∀ w1:World,(execOp a'.eval (opAt ops p.1)).run P w1=.ok (.value (.bool y)) w1:=fun w1=>by
       have NK:a'.eval (.tmp d)=.bool x:=Qe
       simp only [execOp,Q',NK]
       simp [asBool,il]
      have EP:∀ t,(opAt ops p.1).dst=some t→t < nt:=fun t ht=>bu p.1 _ t sa ht
      have Q5:Inv C w0 F0 nt ((st.eJ (kc.filterMap fun i=>bN ops i.1)).put (opAt ops p.1).dst (.val (.b y))) (a'.put (opAt ops p.1).dst (.bool y)) w' H σ:=Vu.put EP (Rel.b y)
      have fN:nw P ops (nR D) Q (eH D σ0) rest N (a'.put (opAt ops p.1).dst (.bool y)) w':=by
       have qL:ga ops [p] a' (a'.put (opAt ops p.1).dst (.bool y)):=fun t ht=>mE.put a' _ _ t fun e=>ht p (List.mem_cons_self ..) (by rw [fA hh.2];exact e)
       refine eY hC hT bu n hK Q5 hO ((IM.same (m:=[p]) (fun q hq=>by simp at hq;subst hq;exact List.mem_append_right _ (List.mem_cons_self ..)) (size_put ..) qL).sub fun q hq=>List.mem_append_right _ (List.mem_cons_of_mem _ hq)) fun a2 w2 j5 H2 σ2 q1 q2 q3 q4 q5=>?_
       refine hn a2 w2 j5 H2 σ2 q1 q2 q3 (((IL.sub fun q hq=>List.mem_append_left _ hq).trans (qL.sub fun q hq=>by simp at hq;subst hq;exact List.mem_append_right _ (List.mem_cons_self ..))).trans (q4.sub fun q hq=>List.mem_append_right _ (List.mem_cons_of_mem _ hq))) fun hl=>?_
       ·exact dR.trans (q5 fun q hq=>hl q (List.mem_append_right _ (List.mem_cons_of_mem _ hq)))
      show fM P ops (nR D) Q (eH D σ0) p (nw P ops (nR D) Q (eH D σ0) rest N) a' w'
      unfold fM
      split
      ·exact ⟨_,_,sa, .inl ⟨hw,fun w1 _=>a8 w1⟩,fN⟩
      ·unfold wpOp
       rw [sa]
       simp only [hw,if_true]
       left
       unfold Oper.wp
       rw [a8 w',Oper.upon_value]
       exact ⟨fun _=>eH.refl D σ0 w',fN⟩
     unfold aq at hz
     rw [hx] at hz
     simp only at hz
     by_cases xL:x=want
     ·subst xL
      simp only [BEq.rfl,cond_true] at hz
      split at hz
      ·rename_i y hy
       cases hz
       refine eY hC hT bu n hy hI hO ⟨Ra,d,j6,fun q hq=>(JS q hq).2⟩ fun a2 w2 j5 H2 σ2 q1 q2 q3 q4 q5=>?_
       refine fin a2 w2 y (q2.size.trans hI.size.symm) q2.defers q4 (q5 fun q hq=>(JS q hq).1 rfl) rfl ?_
       have:=kF q2 (Option.some.inj q1)
       cases x with
       | true=>simpa using this
       | false=>simpa using this
      ·cases hz
     ·have Vv:(x == want)=false:=by simpa using xL
      rw [Vv] at hz
      simp only [cond_false] at hz
      split at hz
      ·rename_i y hy
       cases hz
       refine vK (eH.refl D σ0) xL j6 hh.1 Ra (by simp) fun a2 q1 q2 q3=>?_
       refine fin a2 w y q1 (q2.trans hI.defers) q3 (Ext.refl w) rfl ?_
       have:=kF hI hy
       rw [DN] at this
       cases x with
       | true =>
        have xM:want=false:=by cases want with
         | true=>exact absurd rfl xL
         | false=>rfl
        subst xM
        simp only [cond_false] at DN
        subst DN
        have Rc:cv=.bool y:=this
        simp [Act.eval,Rc]
       | false =>
        have xM:want=true:=by cases want with
         | false=>exact absurd rfl xL
         | true=>rfl
        subst xM
        simp only [cond_true] at DN
        subst DN
        have Rc:cv=.bool y:=this
        simp [Act.eval,Rc]
      ·cases hz
theorem lv (hC:iR C P call) (hT:∀ t i,C.ty t=some i→cm P t i) (bu:∀ (i:Nat) (o:Oper) (t:Nat),ops[i]?=some o→o.dst=some t→t < nt) {D:Option (List Nat)} {σ0:Nat→Option Nat} {n:Nat} {R:Type} {K:St→Option R} {r:R} {N:Act→World→Prop}
  (hn:∀ (a':Act) (w':World) (st':St) (H':Nat→Option Value) (σ':Nat→Option Nat),K st'=some r→Inv C w0 F0 nt st' a' w' H' σ'→N a' w') :
  ∀ (T:j7) {st:St} {a:Act} {w:World} {H:Nat→Option Value} {σ:Nat→Option Nat},eU C call f ops D n T st K=some r→Inv C w0 F0 nt st a w H σ→Ord D σ0 σ→Mb P ops (nR D) Q (eH D σ0) T N a w
 | .done,st,a,w,H,σ,h,hI,hO=>hn a w st H σ h hI
 | .seq l t,st,a,w,H,σ,h,hI,hO=>eY hC hT bu n h hI hO trivial fun a' w' st' H' σ' q1 q2 q3 _ _=>lv hC hT bu hn t q1 q2 q3
 | .fork i x j y,st,a,w,H,σ,h,hI,hO=>by
  simp only [eU] at h
  have h1:cA C call f ops D n none [(i,false)] st (fun st=>eU C call f ops D n x st K)=some r∧cA C call f ops D n none [(j,false)] st (fun st=>eU C call f ops D n y st K)=some r:=by
   unfold agree at h
   split at h
   ·rename_i e;exact ⟨h,e ▸ h⟩
   ·cases h
  exact ⟨eY hC hT bu n h1.1 hI hO trivial fun a' w' st' H' σ' q1 q2 q3 _ _=>lv hC hT bu hn x q1 q2 q3,
   eY hC hT bu n h1.2 hI hO trivial fun a' w' st' H' σ' q1 q2 q3 _ _=>lv hC hT bu hn y q1 q2 q3⟩
end
section
variable {C:cS} {P:Program} {w0:World} {F0:Fs} {nt:Nat} {st:St} {a:Act} {w:World} {H:Nat→Option Value} {σ:Nat→Option Nat}
def qC (H:Nat→Option Value) (i j:Nat):Nat→Option Value:=fun x=>if x=j then H i else if x=i then none else H x
theorem jk {i j x:Nat} {v:Value} (h:qC H i j x=some v):(x=j∧H i=some v)∨(x≠j∧x≠i∧H x=some v):=by
 unfold qC at h
 split at h
 ·exact .inl ⟨‹_›,h⟩
 ·split at h
  ·cases h
  ·exact .inr ⟨‹_›,‹_›,h⟩
theorem Inv.rn (h:Inv C w0 F0 nt st a w H σ) {i j:Nat} (tY:i≠j) (hj:H j=none):Inv C w0 F0 nt (st.rn i j) a w (qC H i j) σ:=by
 have hF:∀ b,b < w.heap.size→Fr w0.heap.size F0 H σ b→Fr w0.heap.size F0 (qC H i j) σ b∧w.heap[b]?=w.heap[b]?:=fun b _ hf=>⟨⟨hf.1,fun x v hv=>by
  rcases jk hv with ⟨_,hv⟩ | ⟨_,_,hv⟩ <;> exact hf.2.1 _ v hv,hf.2.2⟩,rfl⟩
 have yp:∀ v,H i=some v→qC H i j j=some v:=fun v hv=>by unfold qC;rw [if_pos rfl];exact hv
 have NL:∀ x v,x≠i→H x=some v→qC H i j x=some v:=fun x v hx hv=>by
  unfold qC
  rw [if_neg (fun e=>by rw [e,hj] at hv;cases hv),if_neg hx]
  exact hv
 have hc:∀ c y,bg w (Fr w0.heap.size F0 H σ) H σ c y→bg w (Fr w0.heap.size F0 (qC H i j) σ) (qC H i j) σ (c.rn i j) y:=by
  intro c y hy
  cases c with
  | dead=>exact hy
  | val v=>exact ⟨hy.1,hy.2.mono hF⟩
  | ptr s o=>exact hy
  | eF g ss=>exact hy
  | own x e k l =>
   simp only [Cell.rn,aO]
   by_cases hx:x=i
   ·subst hx;rw [if_pos rfl];exact ⟨yp y hy.1,hy.2.mono hF fun _ _=>rfl⟩
   ·rw [if_neg hx];exact ⟨NL x y hx hy.1,hy.2.mono hF fun _ _=>rfl⟩
 have he:∀ e y,bO w (Fr w0.heap.size F0 H σ) H σ e y→bO w (Fr w0.heap.size F0 (qC H i j) σ) (qC H i j) σ (e.rn i j) y:=by
  intro e y hy
  cases e with
  | cell c=>cases c with
   | dead=>trivial
   | val v=>exact Rel.mono hF hy
   | own x e k l =>
    have:=hc (.own x e k l) y hy
    simp only [aV.rn,Cell.rn,aO] at this ⊢
    split
    ·rename_i hx;rw [if_pos hx] at this;exact this
    ·rename_i hx;rw [if_neg hx] at this;exact this
   | ptr s o=>exact hy
   | eF g ss=>exact hy
  | agg cs =>
   obtain ⟨vs,rfl,hl,hv⟩:=hy
   refine ⟨vs,rfl,by simpa using hl,fun j' c v h1 h2=>?_⟩
   rw [List.getElem?_map] at h1
   cases eh:cs[j']? with
   | none=>rw [eh] at h1;cases h1
   | some c0 =>
    rw [eh] at h1
    simp only [Option.map_some,Option.some.injEq] at h1
    subst h1
    exact hc c0 v (hv j' c0 v eh h2)
  | j4 k e off =>
   obtain ⟨b,o,rfl,a2,a3,a4⟩:=hy
   refine ⟨b,o,rfl,(hF b a3 a2).1,a3,fun q hq=>?_⟩
   obtain ⟨v,c1,c2,c3⟩:=a4 q hq
   exact ⟨v,c1,c2,c3.mono hF⟩
  | ig x e k l n off =>
   obtain ⟨g,m,cap,a1,a2,a3,rfl⟩:=hy
   simp only [aV.rn,aO]
   by_cases hx:x=i
   ·subst hx;rw [if_pos rfl];exact ⟨g,m,cap,yp _ a1,a2.mono hF (fun _ _=>rfl),a3,rfl⟩
   ·rw [if_neg hx];exact ⟨g,m,cap,NL x _ hx a1,a2.mono hF (fun _ _=>rfl),a3,rfl⟩
  | oB rr ks =>
   obtain ⟨vs,rfl,hl,hv⟩:=hy
   refine ⟨vs,rfl,by simpa using hl,fun q o v h1 h2=>?_⟩
   rw [List.getElem?_map] at h1
   cases ho:ks[q]? with
   | none=>rw [ho] at h1;cases h1
   | some o' =>
    rw [ho] at h1
    have h3:=hv q o' v ho h2
    simp only [Option.map_some,Option.some.injEq] at h1
    subst h1
    match o',h3 with
    | none,_=>trivial
    | some none,h3=>exact Rel.mono hF h3
    | some (some (x,e,k)),h3 =>
     simp only [aO]
     by_cases hx:x=i
     ·subst hx;rw [if_pos rfl];exact ⟨yp v h3.1,h3.2.mono hF fun _ _=>rfl⟩
     ·rw [if_neg hx];exact ⟨NL x v hx h3.1,h3.2.mono hF fun _ _=>rfl⟩
 refine { h with env:=fun t=>he _ _ (h.env t),mem:=fun s cs ea=>?_,hown:=fun x v g hx hv=>?_,hh:=?_,hs:=fun x s v r hx hs=>?_,glob:=fun g k e hg=>he (.j4 k e 0) _ (h.glob g k e hg) }
 ·simp only [St.rn,St.map,Option.map_eq_some_iff] at ea
  obtain ⟨oF,h0,rfl⟩:=ea
  obtain ⟨r,us,e',h1,h2,h3,h4⟩:=h.mem s oF h0
  refine ⟨r,us,e',h1,h2,by simpa using h3,fun q c v qx hv=>?_⟩
  rw [List.getElem?_map] at qx
  cases eh:oF[q]? with
  | none=>rw [eh] at qx;cases qx
  | some c0 =>
   rw [eh] at qx
   simp only [Option.map_some,Option.some.injEq] at qx
   subst qx
   exact hc c0 v (h4 q c0 v eh hv)
 ·rcases jk hx with ⟨_,hx⟩ | ⟨_,_,hx⟩ <;> exact h.hown _ v g hx hv
 ·intro x y u v g aY hx hy
  rcases jk hx with ⟨a0,lS⟩ | ⟨a1,a2,lS⟩ <;> rcases jk hy with ⟨b0,qK⟩ | ⟨b1,b2,qK⟩
  ·exact absurd (a0.trans b0.symm) aY
  ·exact h.hh i y u v g (Ne.symm b2) lS qK
  ·exact h.hh x i u v g a2 lS qK
  ·exact h.hh x y u v g aY lS qK
 ·rcases jk hx with ⟨_,hx⟩ | ⟨_,_,hx⟩ <;> exact h.hs _ s v r hx hs
theorem Inv.oD (h:Inv C w0 F0 nt st a w H σ) (p:Nat×Option (Nat×Nat)):∃ H',Inv C w0 F0 nt (st.oD p) a w H' σ:=by
 unfold St.oD
 split
 ·rename_i e k hp
  split
  ·rename_i id e' k' l cI
   cases hb:(Nat.beq e e' && Nat.beq k k') with
   | false=>exact ⟨H,h.dead p.1⟩
   | true =>
    simp only [cond_true,aO]
    by_cases hid:id=300000+p.1
    ·rw [if_pos hid];exact ⟨H,h⟩
    ·rw [if_neg hid]
     exact ⟨_,(h.kl (300000+p.1)).rn hid (by unfold Sx.erase;simp)⟩
  ·rename_i cI
   cases hk:Nat.blt 0 k with
   | false=>exact ⟨H,h.dead p.1⟩
   | true =>
    simp only [cond_true]
    have pG:0 < k:=by unfold Nat.blt at hk;exact Nat.le_of_ble_eq_true hk
    have hv:=h.env p.1
    rw [cI] at hv
    have oQ:a.tmps.getD p.1 undef=.slice none 0 0:=by
     generalize a.tmps.getD p.1 undef=V at hv
     cases hv;rfl
    have h2:=h.oG (300000+p.1) (300000+p.1) none (w':=w) (x:=.slice none 0 0) rfl rfl rfl (Nat.le_refl _) (fun _ _ _=>rfl) (fun g hg=>by cases hg) (fun g hg=>by cases hg)
    have tZ:=uu st (300000+p.1)
    rw [tZ] at h2
    refine ⟨_,h2.E6 (t:=p.1) ?_⟩
    rw [oQ]
    exact ⟨by unfold rL;simp,pG,[],World.ownsRow_nil w 0 _ _,by simp,fun i j v hi=>by simp at hi⟩
  ·exact ⟨H,h.dead p.1⟩
 ·exact ⟨H,h⟩
theorem Inv.oE (h:Inv C w0 F0 nt st a w H σ) (s:Nat) (p:Nat×Nat×Nat):∃ H',Inv C w0 F0 nt (st.oE s p) a w H' σ:=by
 unfold St.oE
 split
 ·rename_i cs ea
  cases Nat.beq p.2.2 0 with
  | true =>
   simp only [cond_true]
   split
   ·exact ⟨_,h.fz _⟩
   ·exact ⟨H,h⟩
  | false =>
  simp only [cond_false]
  split
  ·rename_i id e' k' l hc
   ·cases hb:(Nat.beq p.2.1 e' && Nat.beq p.2.2 k') with
    | false=>exact ⟨H,h⟩
    | true =>
     simp only [cond_true,aO]
     by_cases hid:id=cu s p.1
     ·rw [if_pos hid];exact ⟨H,h⟩
     ·rw [if_neg hid]
      exact ⟨_,(h.kl (cu s p.1)).rn hid (by unfold Sx.erase;simp)⟩
  ·rename_i hc
   cases hk:Nat.blt 0 p.2.2 with
   | false=>exact ⟨H,h⟩
   | true =>
    simp only [cond_true]
    have pG:0 < p.2.2:=by unfold Nat.blt at hk;exact Nat.le_of_ble_eq_true hk
    obtain ⟨r,us,e,h1,h2,h3,h4⟩:=h.mem s cs ea
    have hj:p.1 < us.length:=by rw [h3];exact (List.getElem?_eq_some_iff.1 hc).1
    have hv:=h4 p.1 _ us[p.1] hc (List.getElem?_eq_getElem hj)
    have oQ:us[p.1]=.slice none 0 0:=by
     have:=hv.2
     generalize us[p.1]=V at this
     cases this;rfl
    have g:=h.oG (cu s p.1) (cu s p.1) none (w':=w) (x:=.slice none 0 0) rfl rfl rfl (Nat.le_refl _) (fun _ _ _=>rfl) (fun g hg=>by cases hg) (fun g hg=>by cases hg)
    rw [uu st (cu s p.1)] at g
    refine ⟨_,{ g with mem:=fun s' ud yt=>?_ }⟩
    simp only [St.dZ,aO] at yt
    split at yt
    ·rename_i hs
     subst hs
     cases yt
     obtain ⟨r',QX,e'',g1,g2,g3,g4⟩:=g.mem s' (cs.map (Cell.kl (cu s' p.1))) (by simp [St.kl,St.map,ea])
     rw [h1] at g1;cases g1
     rw [h2] at g2
     have he:us=QX:=by have:=Option.some.inj g2;simp at this;exact this.1
     subst he
     refine ⟨r,us,e,h1,h2,by simpa using g3,fun j c v ju QU=>?_⟩
     rw [List.getElem?_set] at ju
     split at ju
     ·rename_i jf
      subst jf
      simp at ju
      obtain ⟨_,rfl⟩:=ju
      rw [List.getElem?_eq_getElem hj,oQ] at QU
      cases QU
      exact ⟨by unfold rL;simp,pG,[],World.ownsRow_nil w 0 _ _,by simp,fun i j v hi=>by simp at hi⟩
     ·exact g4 j c v ju QU
    ·exact g.mem s' ud yt
  ·exact ⟨H,h⟩
 ·exact ⟨H,h⟩
theorem Inv.mz (h:Inv C w0 F0 nt st a w H σ) (live:List (Nat×Option (Nat×Nat))) (sites:List (Nat×List (Nat×Nat×Nat))):∃ H',Inv C w0 F0 nt (st.mz live sites) a w H' σ:=by
 have fold:∀ {α:Type} (f:St→α→St),(∀ (p:α) (st:St) (H:Nat→Option Value),Inv C w0 F0 nt st a w H σ→∃ H',Inv C w0 F0 nt (f st p) a w H' σ) →
   ∀ (l:List α) (st:St) (H:Nat→Option Value),Inv C w0 F0 nt st a w H σ→∃ H',Inv C w0 F0 nt (l.foldl f st) a w H' σ:=by
  intro α f hf l
  induction l with
  | nil=>exact fun st H h=>⟨H,h⟩
  | cons p l ih =>
   intro st H h
   obtain ⟨H',h'⟩:=hf p st H h
   exact ih _ _ h'
 obtain ⟨H1,h1⟩:=fold St.oD (fun p st H h=>h.oD p) live st H h
 exact fold St.E2 (fun q st H h=>fold (St.oE q.1) (fun p st H h=>h.oE q.1 p) q.2 st H h) sites _ H1 h1
theorem Inv.canon (h:Inv C w0 F0 nt st a w H σ) (live:List (Nat×Option (Nat×Nat))) (sites:List (Nat×List (Nat×Nat×Nat))):∃ H',Inv C w0 F0 nt (st.canon live sites) a w H' σ:=by
 obtain ⟨H',h'⟩:=h.mz live sites
 refine ⟨H',{ h' with env:=fun t=>?_,mem:=fun s cs ea=>?_ }⟩
 ·show bO _ _ _ _ (match (live.map fun p=>(p.1,(st.mz live sites).env p.1)).find? (fun p=>Nat.beq p.1 t) with | some p=>p.2 | none=>.dead) _
  split
  ·rename_i p hp
   have h1:=List.mem_of_find?_eq_some hp
   have h2:=List.find?_some hp
   obtain ⟨q,hq,rfl⟩:=List.mem_map.1 h1
   have:=Nat.eq_of_beq_eq_true h2
   simp only at this
   subst this
   exact h'.env q.1
  ·trivial
 ·have yt:(match (sites.map fun s=>(s.1,(st.mz live sites).mem s.1)).find? (fun p=>Nat.beq p.1 s) with | some p=>p.2 | none=>none)=some cs:=ea
  split at yt
  ·rename_i p hp
   have h1:=List.mem_of_find?_eq_some hp
   have h2:=List.find?_some hp
   obtain ⟨q,hq,rfl⟩:=List.mem_map.1 h1
   have:=Nat.eq_of_beq_eq_true h2
   simp only at this
   subst this
   exact h'.mem q.1 cs yt
  ·cases yt
end
section
variable {C:cS} {P:Program} {w0:World} {F0:Fs} {nt:Nat} {st:St} {a:Act} {w:World} {H:Nat→Option Value} {σ:Nat→Option Nat}
theorem DV {es:List aV}:∀ {ks:List (Option (Nat×Nat))} {K:List AV→Option AV} {r:AV},DG ks es K=some r →
  ∃ rs,K rs=some r∧rs.length=es.length∧∀ (j:Nat) (e:aV),es[j]?=some e→∃ v,kf (ks[j]?.getD none) e=some v∧rs[j]?=some v:=by
 induction es with
 | nil=>intro ks K r h;cases ks <;> exact ⟨[],h,rfl,fun j e he=>by simp at he⟩
 | cons e es ih =>
  intro ks K r h
  cases ks with
  | nil =>
   simp only [DG] at h
   obtain ⟨v,hv,h⟩:=Option.bind_eq_some_iff.1 h
   obtain ⟨rs,h1,h2,h3⟩:=ih h
   refine ⟨v :: rs,h1,by simp [h2],fun j e' he=>?_⟩
   cases j with
   | zero=>simp at he;subst he;exact ⟨v,hv,rfl⟩
   | succ j=>obtain ⟨u,q1,q2⟩:=h3 j e' (by simpa using he);exact ⟨u,by simpa using q1,by simpa using q2⟩
  | cons o ks =>
   simp only [DG] at h
   obtain ⟨v,hv,h⟩:=Option.bind_eq_some_iff.1 h
   obtain ⟨rs,h1,h2,h3⟩:=ih h
   refine ⟨v :: rs,h1,by simp [h2],fun j e' he=>?_⟩
   cases j with
   | zero=>simp at he;subst he;exact ⟨v,hv,rfl⟩
   | succ j=>obtain ⟨u,q1,q2⟩:=h3 j e' (by simpa using he);exact ⟨u,by simpa using q1,by simpa using q2⟩
theorem sb {es:List aV}:∀ {ks:List (Option (Nat×Nat))} {j i:Nat} {e:aV} {p:Nat×Nat},es[j]?=some e→ks[j]?=some (some p)→i ∈ e.ids→i ∈ kg ks es:=by
 induction es with
 | nil=>intro ks j i e p h;simp at h
 | cons e0 es ih =>
  intro ks j i e p he hk hi
  cases ks with
  | nil=>simp at hk
  | cons o ks =>
   cases j with
   | zero =>
    simp at he hk
    subst he hk
    exact List.mem_append_left _ hi
   | succ j =>
    have:=ih (by simpa using he) (by simpa using hk) hi
    cases o with
    | none=>exact this
    | some q=>exact List.mem_append_right _ this
theorem Af {es:List aV}:∀ {ks:List (Option (Nat×Nat))} {j i:Nat} {e:aV},es[j]?=some e→ks[j]?.getD none=none→i ∈ e.ids→i ∈ kh ks es:=by
 induction es with
 | nil=>intro ks j i e h;simp at h
 | cons e0 es ih =>
  intro ks j i e he hk hi
  cases ks with
  | nil =>
   cases j with
   | zero=>simp at he;subst he;exact List.mem_append_left _ hi
   | succ j=>exact List.mem_append_right _ (ih (ks:=[]) (by simpa using he) (by simp) hi)
  | cons o ks =>
   cases j with
   | zero =>
    simp at he hk
    subst he hk
    exact List.mem_append_left _ hi
   | succ j =>
    have:=ih (by simpa using he) (by simpa using hk) hi
    cases o with
    | none=>exact List.mem_append_right _ this
    | some q=>exact this
theorem uE {l m:List Nat} (h:nodup (l ++ m)=true):nodup m=true∧∀ x ∈ l,x ∉ m:=by
 induction l with
 | nil=>exact ⟨h,by simp⟩
 | cons x l ih =>
  simp only [List.cons_append,nodup,Bool.and_eq_true] at h
  obtain ⟨h1,h2⟩:=ih h.2
  refine ⟨h1,fun y hy=>?_⟩
  rcases List.mem_cons.1 hy with rfl | hy
  ·intro hm
   have:=h.1
   simp only [Bool.not_eq_true',List.any_eq_false] at this
   exact this y (List.mem_append_right _ hm) (Nat.beq_refl y)
  ·exact h2 y hy
theorem uF {es:List aV}:∀ {ks:List (Option (Nat×Nat))} {j j' i i':Nat} {e e':aV} {p p':Nat×Nat},nodup (kg ks es)=true→j < j'→es[j]?=some e→ks[j]?=some (some p)→es[j']?=some e'→ks[j']?=some (some p') →
  i ∈ e.ids→i' ∈ e'.ids→i≠i':=by
 induction es with
 | nil=>intro ks j j' i i' e e' p p' _ _ h;simp at h
 | cons e0 es ih =>
  intro ks j j' i i' e e' p p' hn aM he hk Ma oK hi eQ
  cases ks with
  | nil=>simp at hk
  | cons o ks =>
   cases j' with
   | zero=>omega
   | succ j' =>
    cases j with
    | zero =>
     simp at he hk
     subst he hk
     have h1:=(uE hn).2 i hi
     intro e
     exact h1 (e ▸ sb (by simpa using Ma) (by simpa using oK) eQ)
    | succ j =>
     refine ih (ks:=ks) (j:=j) (j':=j') ?_ (by omega) (by simpa using he) (by simpa using hk) (by simpa using Ma) (by simpa using oK) hi eQ
     cases o with
     | none=>exact hn
     | some q=>exact (uE hn).1
theorem pT {o:Option (Nat×Nat)} {e:aV} {v:AV} (h:kf o e=some v):e.told=true:=by
 unfold kf at h
 split at h
 ·split at h
  ·rfl
  ·rfl
  ·cases h
 ·cases ht:e.told with
  | true=>rfl
  | false=>rw [ht] at h;cases h
theorem DW (hT:∀ t i,C.ty t=some i→cm P t i) (h:Inv C w0 F0 nt st a w H σ) {f:Nat} {fn:Func} {r:AV} (hf:finish C f fn st=some r) :
  ∃ v,(results fn a.tmps).run P w=.ok v w∧((∀ b,¬ F0.gg b)→eV (C.own f) w0 w F0.rd r v):=by
 unfold finish at hf
 simp only at hf
 generalize qO:fn.results.toList.map (dh C st)=es at hf
 generalize C.own f=ks at hf ⊢
 cases hb:((ks.all Option.isNone || Nat.beq ks.length es.length) && nodup (kg ks es) && (kg ks es).all (fun i=>!((kh ks es).any fun j=>Nat.beq i j))) with
 | false=>rw [hb] at hf;cases hf
 | true =>
  rw [hb] at hf
  simp only [cond_true] at hf
  rw [Bool.and_eq_true,Bool.and_eq_true] at hb
  obtain ⟨⟨Yf,lT⟩,hb3⟩:=hb
  obtain ⟨rs,hr,Qf,yu⟩:=DV hf
  simp only [Option.some.injEq] at hr
  obtain ⟨vs,hvl,a8,iT⟩:=mI hT h fn (fun rv hm=>by
   obtain ⟨j,hj⟩:=List.getElem?_of_mem hm
   obtain ⟨v,hv,_⟩:=yu j (dh C st rv) (by rw [← qO,List.getElem?_map,hj];rfl)
   exact pT hv)
  rw [qO] at iT
  have oO:vs.length=es.length:=by rw [hvl,← qO];simp
  refine ⟨ub vs,a8,fun B0=>?_⟩
  obtain ⟨H',h',kp,kq,yi⟩:=h.vC (kh ks es)
  have il:∀ (j:Nat) (e:aV) (x:Value) (v:AV),es[j]?=some e→vs[j]?=some x→ks[j]?.getD none=none→kf (ks[j]?.getD none) e=some v→Rel w (Fr w0.heap.size F0 H' σ) v x:=by
   intro j e x v he hx hk hv
   rw [hk] at hv
   have ht:=pT hv
   simp only [kf,ht,cond_true,Option.some.injEq] at hv
   subst hv
   exact du (kp _ _ (iT j e x he hx)) ht fun i hi=>Af he hk hi
  have oR:∀ (F:Nat→Prop),(∀ (j:Nat) (x:Value) (v:AV),vs[j]?=some x→rs[j]?=some v→Rel w F v x)→Rel w F r (ub vs):=by
   intro F hF
   rw [← hr]
   have hl:rs.length=vs.length:=by rw [Qf,oO]
   match rs,vs,hl with
   | [],[],_=>exact .tu [] [] rfl (fun j v hv=>by simp at hv)
   | [v],[x],_=>exact hF 0 x v rfl rfl
   | v :: v' :: rs,x :: x' :: vs,hl =>
    refine .tu (v :: v' :: rs) (x :: x' :: vs) hl fun j u hu=>?_
    have hj:j < (v :: v' :: rs).length:=by rw [hl];exact (List.getElem?_eq_some_iff.1 hu).1
    have:=hF j u _ hu (List.getElem?_eq_getElem hj)
    rw [List.getD_eq_getElem?_getD,List.getElem?_eq_getElem hj]
    exact this
  have qz:∀ (j:Nat) (x:Value),vs[j]?=some x→∃ e,es[j]?=some e:=fun j x hx=>by
   have:j < es.length:=by rw [← oO];exact (List.getElem?_eq_some_iff.1 hx).1
   exact ⟨_,List.getElem?_eq_getElem this⟩
  unfold eV
  cases bP:ks.all Option.isNone with
  | true =>
   rw [if_pos rfl]
   refine Rel.mono (F:=Fr w0.heap.size F0 H' σ) (fun b hb hF=>⟨fun aM=>(hF.1 aM).resolve_right (B0 b),rfl⟩) (oR _ fun j x v hx hv=>?_)
   obtain ⟨e,he⟩:=qz j x hx
   obtain ⟨v',uz,EO⟩:=yu j e he
   have:v'=v:=by rw [EO] at hv;exact Option.some.inj hv
   subst this
   refine il j e x v' he hx ?_ uz
   cases hk:ks[j]? with
   | none=>rfl
   | some o =>
    have:=List.all_eq_true.1 bP o (List.mem_of_getElem? hk)
    cases o with
    | none=>rfl
    | some p=>cases this
  | false =>
   rw [if_neg (by simp)]
   rw [bP,Bool.false_or] at Yf
   have hkl:=Nat.eq_of_beq_eq_true Yf
   have hown:∀ (j:Nat) (x:Value) (e k:Nat) (v:AV),vs[j]?=some x→ks[j]?=some (some (e,k))→rs[j]?=some v →
     (x.ownBlock=none∧v.elems=[]∧0 < k∧x=.slice none 0 0)∨∃ id,(∃ en,es[j]?=some en∧id ∈ en.ids)∧H id=some x∧aX w (Fr w0.heap.size F0 H σ) e k v.elems x:=by
    intro j x e k v hx hk hv
    obtain ⟨en,he⟩:=qz j x hx
    obtain ⟨v',uz,EO⟩:=yu j en he
    have:v'=v:=by rw [EO] at hv;exact Option.some.inj hv
    subst this
    have Q6:=iT j en x he hx
    rw [hk] at uz
    simp only [Option.getD_some,kf] at uz
    split at uz
    ·rename_i id y' k' l
     cases lp:(Nat.beq e y' && Nat.beq k k') with
     | false=>rw [lp] at uz;cases uz
     | true =>
      rw [lp] at uz
      simp only [cond_true,Option.some.injEq] at uz
      subst uz
      rw [Bool.and_eq_true] at lp
      have e1:=Nat.eq_of_beq_eq_true lp.1
      have e2:=Nat.eq_of_beq_eq_true lp.2
      subst e1 e2
      exact .inr ⟨id,⟨_,he,by simp [aV.ids,Cell.ids]⟩,Q6.1,Q6.2⟩
    ·cases pG:Nat.blt 0 k with
     | false=>rw [pG] at uz;cases uz
     | true =>
      rw [pG] at uz
      simp only [cond_true,Option.some.injEq] at uz
      subst uz
      have IE:x=.slice none 0 0:=by
       have Vw:Rel w _ .aC x:=Q6
       cases Vw;rfl
      subst IE
      exact .inl ⟨rfl,rfl,by unfold Nat.blt at pG;exact Nat.le_of_ble_eq_true pG,rfl⟩
    ·cases uz
   have Rd:∀ (j:Nat) (x:Value),vs[j]?=some x→∃ v,rs[j]?=some v∧mD vs.length r j=v:=by
    intro j x hx
    have hj:j < vs.length:=(List.getElem?_eq_some_iff.1 hx).1
    have IP:j < rs.length:=by rw [Qf,← oO];exact hj
    refine ⟨rs[j],List.getElem?_eq_getElem IP,?_⟩
    have hl:rs.length=vs.length:=by rw [Qf,oO]
    unfold mD
    rw [← hr]
    by_cases h1:vs.length=1
    ·rw [if_pos h1]
     match rs,hl.trans h1,IP with
     | [v],_,IP =>
      have:j=0:=by simpa using IP
      subst this
      rfl
    ·rw [if_neg h1]
     match rs,hl,IP with
     | [],_,IP=>simp at IP
     | [v],hl,_=>simp at hl;omega
     | v :: v' :: rs,_,IP =>
      show (v :: v' :: rs).getD j .un=_
      rw [List.getD_eq_getElem?_getD,List.getElem?_eq_getElem IP]
      rfl
   refine ⟨vs,by rw [oO,hkl],rfl,fun j x o hx ho=>?_,fun i j x y p q g tY hx hy hi hj hg=>?_⟩
   ·obtain ⟨v,hv,DN⟩:=Rd j x hx
    rw [DN]
    cases o with
    | some p =>
     obtain ⟨e,k⟩:=p
     simp only
     rcases hown j x e k v hx ho hv with ⟨_,h2,h3,rfl⟩ | ⟨id,_,h2,h3⟩
     ·rw [h2]
      exact ⟨⟨h3,[],World.ownsRow_nil w 0 _ _,by simp,fun i j v hi=>by simp at hi⟩,fun g hg=>by cases hg⟩
     ·refine ⟨h3.mono (fun b hb hF=>⟨⟨fun aM=>(hF.1 aM).resolve_right (B0 b),fun i y p hy hp e=>?_⟩,rfl⟩) (fun _ _=>rfl),fun g hg=>((h.hown id x g h2 hg).1).resolve_right (B0 g)⟩
      obtain ⟨v',oQ,_⟩:=Rd i y hy
      rcases hown i y p.1 p.2 v' hy hp oQ with ⟨h5,_⟩ | ⟨gO,_,h5,_⟩
      ·rw [h5] at e;cases e
      ·exact hF.2.1 gO y h5 e
    | none =>
     simp only
     obtain ⟨e,he⟩:=qz j x hx
     obtain ⟨v',uz,EO⟩:=yu j e he
     have:v'=v:=by rw [EO] at hv;exact Option.some.inj hv
     subst this
     refine (il j e x v' he hx (by rw [ho];rfl) uz).mono fun b hb hF=>⟨⟨fun aM=>(hF.1 aM).resolve_right (B0 b),fun i y p hy hp eb=>?_⟩,rfl⟩
     obtain ⟨v2,oQ,_⟩:=Rd i y hy
     rcases hown i y p.1 p.2 v2 hy hp oQ with ⟨h5,_⟩ | ⟨gO,⟨en,DX,hid⟩,h5,_⟩
     ·rw [h5] at eb;cases eb
     ·have hm:=sb DX hp hid
      have hnv:gO ∉ kh ks es:=fun NM=>by
       have:=List.all_eq_true.1 hb3 gO hm
       simp only [Bool.not_eq_true',List.any_eq_false] at this
       exact this gO NM (Nat.beq_refl gO)
      exact hF.2.1 gO y (yi gO y hnv h5) eb
   ·obtain ⟨v,hv,_⟩:=Rd i x hx
    obtain ⟨v',oQ,_⟩:=Rd j y hy
    rcases hown i x p.1 p.2 v hx hi hv with ⟨h5,_⟩ | ⟨id,⟨en,DX,hid⟩,h5,_⟩
    ·rw [h5] at hg;cases hg
    ·rcases hown j y q.1 q.2 v' hy hj oQ with ⟨h6,_⟩ | ⟨gO,⟨en',Re,JI⟩,h6,_⟩
     ·rw [h6];simp
     ·have aY:id≠gO:=by
       rcases Nat.lt_or_gt_of_ne tY with aM | uw
       ·exact uF lT aM DX hi Re hj hid JI
       ·exact fun e=>uF lT uw Re hj DX hi JI hid e.symm
      exact h.hh id gO x y g aY h5 h6 hg
end
def oV (C:cS) (f nt:Nat) (id:Nat) (ops:Array Oper) (draw:Bool):Bool :=
 ops.all (fun o=>match o.dst with | some d=>Nat.blt d nt | none=>true) &&
  (match draw with
   | false=>true
   | true=>match C.DD f id with
    | none=>true
    | some l=>nP ops l.2 l.1 (Array.replicate ops.size false) && Region.noSelect ops && Nat.beq l.1.len ops.size)
def eL (p:Nat→Array Oper→Bool→Bool):Code→Bool
 | .region id ops d=>p id ops d
 | .seq a b=>eL p a && eL p b
 | .cond _ a b=>eL p a && eL p b
 | .block _ c=>eL p c
 | .loop c=>eL p c
 | .scope c=>eL p c
 | _=>true
def iB (p:Nat→Array Oper→Bool→Bool):Item→Bool
 | .code c=>eL p c
 | .inLoop c=>eL p c
 | .inScope c=>eL p c
 | _=>true
structure Fit (C:cS) (P:Program):Prop where
 ty:∀ t i,C.ty t=some i→cm P t i
 code:∀ (f:Nat) (fn:Func) (c:Code),P.funcs[f]?=some fn→fn.body=some c→eL (oV C f fn.ntmps) c=true
 mixed:P.follows .mixedOrders=true
 name:∀ (f:Nat) (fn:Func) (c:Code),P.funcs[f]?=some fn→fn.body=some c→(fn.name == "runtime.NumGoroutine")=false
 gv:∀ (g:Nat) (G:List AV→Option AV),C.gv g=some G→(C.own g).all Option.isNone=true→∀ (args:List AV) (r:AV),G args=some r→∀ (w:World) (F:Nat→Prop) (vs:Array Value),aN C w F→vs.size=args.length →
  (∀ (j:Nat) (a:AV) (v:Value),args[j]?=some a→vs[j]?=some v→Rel w F a v)→dJ P g vs w (fU C g w F r)
 ext:∀ (f:Nat) (fn:Func),P.funcs[f]?=some fn→fn.body=none→(fn.name == "internal/bytealg.IndexByteString")=true→∀ (s:ByteArray) (c:Int) (w:World),(callFunc f #[.string s, .int .u8 c]).run P w=.ok (.value (.int .i64 (Lib.indexByte s.data.toList c.toNat.toUInt8))) w
theorem sc {p:Nat→Array Oper→Bool→Bool}:∀ {c:Code} {l:Nat} {r:Code},findLabel c l=some r→eL p c=true→eL p r=true:=by
 intro c
 induction c with
 | seq a b iha vL =>
  intro l r h hg
  simp only [eL,Bool.and_eq_true] at hg
  simp only [findLabel] at h
  split at h
  ·rename_i rest hr
   cases h
   simp only [eL,Bool.and_eq_true]
   exact ⟨iha hr hg.1,hg.2⟩
  ·exact vL h hg.2
 | label l' =>
  intro l r h hg
  simp only [findLabel] at h
  split at h
  ·cases h;rfl
  ·cases h
 | _=>intro l r h;simp [findLabel] at h
theorem pU {p:Nat→Array Oper→Bool→Bool} {l:Nat}:∀ {k k':List Item},gotoIn l k=some k'→(∀ x ∈ k,iB p x=true)→∀ x ∈ k',iB p x=true
 | [],k',h,_=>by simp [gotoIn] at h
 | it :: k,k',h,hg=>by
  have rest:gotoIn l k=some k'→∀ x ∈ k',iB p x=true:=fun h=>pU h fun x hx=>hg x (List.mem_cons_of_mem _ hx)
  cases it with
  | inScope body =>
   simp only [gotoIn] at h
   split at h
   ·rename_i r hr
    cases h
    intro x hx
    rcases List.mem_cons.1 hx with rfl | hx
    ·exact sc hr (hg (.inScope body) (List.mem_cons_self ..))
    ·exact hg x hx
   ·exact rest h
  | _=>exact rest (by simpa [gotoIn] using h)
theorem pV {p:Nat→Array Oper→Bool→Bool} {l:Nat}:∀ {k k':List Item},exitTo l k=some k'→(∀ x ∈ k,iB p x=true)→∀ x ∈ k',iB p x=true
 | [],k',h,_=>by simp [exitTo] at h
 | it :: k,k',h,hg=>by
  have rest:exitTo l k=some k'→∀ x ∈ k',iB p x=true:=fun h=>pV h fun x hx=>hg x (List.mem_cons_of_mem _ hx)
  cases it with
  | inBlock id =>
   simp only [exitTo] at h
   split at h
   ·cases h
    intro x hx
    exact hg x (List.mem_cons_of_mem _ hx)
   ·exact rest h
  | _=>exact rest (by simpa [exitTo] using h)
section
variable {C:cS} {P:Program}
theorem step_scope {b:Frame} {a:Act} {k:List Item} {cs:List Frame} {w:World} {c:Code} :
  Go.step P (lone (b.at a (.code (.scope c) :: k)) cs w)=.next (lone (b.at a (.code c :: .inScope c :: k)) cs w) :=
 step_lone_go (by simp [stepG,stepG.exec,Frame.at])
theorem step_inScope {b:Frame} {a:Act} {k:List Item} {cs:List Frame} {w:World} {c:Code} :
  Go.step P (lone (b.at a (.inScope c :: k)) cs w)=.next (lone (b.at a k) cs w) :=
 step_lone_go (by simp [stepG,stepG.exec,Frame.at])
def Ends (P:Program) (b:Frame) (a:Act) (k:List Item) (w:World) (R:Ending→World→Prop):Prop :=
 ∀ cs,∃ e w' fr,R e w'∧Comes P (lone (b.at a k) cs w) (lone fr cs w') e∧fr.fn=b.fn∧fr.leaving P w' e
theorem Ends.of_steps {b:Frame} {a a':Act} {k k':List Item} {w w':World} {R:Ending→World→Prop} (h:∀ cs,Steps P (lone (b.at a k) cs w) (lone (b.at a' k') cs w')) (he:Ends P b a' k' w' R):Ends P b a k w R:=fun cs=>by
 obtain ⟨e,w2,fr,h1,h2,h3⟩:=he cs
 exact ⟨e,w2,fr,h1,Comes.of_steps (h cs) h2,h3⟩
def sd (C:cS) (P:Program) (f:Nat) (fn:Func) (w0:World) (F0:Fs) (r:AV) (e:Ending) (w':World):Prop :=
 match C.sig f with
 | none=>(∀ b,¬ F0.gg b)→fU C f w0 F0.rd r e w'
 | some sg=>Fl C P f fn sg w0 F0 r e w'
def yv (C:cS) (P:Program) (f:Nat) (fn:Func) (go:List Item→St→Option AV):Prop :=
 ∀ (k:List Item) (st:St) (r:AV),go k st=some r→(∀ x ∈ k,iB (oV C f fn.ntmps) x=true)→∀ (w0:World) (F0:Fs) (a:Act) (w:World) (H:Nat→Option Value) (σ:Nat→Option Nat) (b:Frame),b.fn=f→b.kind=.normal →
  Inv C w0 F0 fn.ntmps st a w H σ→Ends P b a k w (sd C P f fn w0 F0 r)
theorem Ag {f:Nat} {fn:Func} {go:List Item→St→Option AV} (h:yv C P f fn go):yv C P f fn (arr C f go):=by
 intro k st r hr hk w0 F0 a w H σ b hb je hI
 unfold arr at hr
 split at hr
 ·rename_i l s _
  obtain ⟨H',iA⟩:=hI.canon l s
  exact h k _ r hr hk w0 F0 a w H' σ b hb je iA
 ·exact h k st r hr hk w0 F0 a w H σ b hb je hI
theorem Ends.finish {f:Nat} {fn:Func} {st:St} {r:AV} {w0:World} {F0:Fs} {a:Act} {w:World} {H:Nat→Option Value} {σ:Nat→Option Nat} {b:Frame} {k:List Item} (dB:Fit C P) (gC:P.funcs[f]?=some fn) (hb:b.fn=f) (je:b.kind=.normal)
  (hI:Inv C w0 F0 fn.ntmps st a w H σ) (hf:Sx.fin C f fn st=some r) (hs:∀ cs,∃ todo,Steps P (lone (b.at a k) cs w) (lone { b.at a todo with mode:=.returning } cs w)):Ends P b a k w (sd C P f fn w0 F0 r):=fun cs=>by
 obtain ⟨todo,cq⟩:=hs cs
 have JO:P.funcs[b.fn]?=some fn:=by rw [hb];exact gC
 unfold fin at hf
 cases dk:C.sig f with
 | none =>
  rw [dk] at hf
  obtain ⟨v,hv,hr⟩:=DW dB.ty hI hf
  refine ⟨.returned v,w,_,?_,cq,rfl,rfl,hI.defers,je,fn,JO,hv⟩
  unfold sd
  rw [dk]
  exact fun hl=>⟨v,rfl,Ext.M8 hI.below hl,hr hl⟩
 | some sg =>
  rw [dk] at hf
  have qI:∃ v,(results fn a.tmps).run P w=.ok v w:=by
   obtain ⟨outs,f1,f2,_⟩:=nO hf
   obtain ⟨vs,g1,g2,g3⟩:=mI dB.ty hI fn fun rv hm=>List.all_eq_true.1 f2 _ (List.mem_map.2 ⟨rv,hm,rfl⟩)
   exact ⟨_,g2⟩
  obtain ⟨v,hv⟩:=qI
  refine ⟨.returned v,w,_,?_,cq,rfl,rfl,hI.defers,je,fn,JO,hv⟩
  unfold sd
  rw [dk]
  exact ⟨v,rfl,st,a,H,σ,hI,hf,hv⟩
theorem DY {f:Nat} {fn:Func} {call:Nat→List AV→Option AV} (dB:Fit C P) (hC:iR C P call) {id:Nat} {ops:Array Oper} {draw:Bool} {st:St} {K:St→Option AV} {r:AV} (hg:oV C f fn.ntmps id ops draw=true)
  (hK:gJ C call f id ops draw st K=some r) {w0:World} {F0:Fs} {a:Act} {w:World} {H:Nat→Option Value} {σ:Nat→Option Nat} (hI:Inv C w0 F0 fn.ntmps st a w H σ) :
  (Code.region id ops draw).wp P (fun e a' w'=>e=.normal∧∃ st' H' σ',K st'=some r∧Inv C w0 F0 fn.ntmps st' a' w' H' σ') a w:=by
 unfold oV at hg
 rw [Bool.and_eq_true] at hg
 obtain ⟨hg1,T2⟩:=hg
 have bu:∀ (i:Nat) (o:Oper) (t:Nat),ops[i]?=some o→o.dst=some t→t < fn.ntmps:=by
  intro i o t hi ht
  have:=Array.all_eq_true_iff_forall_mem.1 hg1 o (Array.mem_of_getElem? hi)
  rw [ht] at this
  unfold Nat.blt at this
  exact Nat.le_of_ble_eq_true this
 unfold gJ at hK
 cases draw with
 | false =>
  simp only [cond_false] at hK
  refine wp_region (vI (nc:=[]) (E:=eH none σ) _ a w ?_)
  exact eY (D:=none) hC dB.ty bu _ hK hI (fun ws e=>by cases e) trivial fun a' w' st' H' σ' q1 q2 _ _ _=>⟨rfl,st',H',σ',q1,q2⟩
 | true =>
  simp only [cond_true] at hK T2
  cases hp:C.DD f id with
  | none=>rw [hp] at hK;cases hK
  | some l =>
   rw [hp] at hK T2
   simp only at hK
   simp only [Bool.and_eq_true] at T2
   obtain ⟨⟨h1,h2⟩,h3⟩:=T2
   have hlen:=Nat.eq_of_beq_eq_true h3
   have iA:=hI.ext (Ext.drew w (w.drawn+1))
   refine wp_region_any dB.mixed (mM.any (nc:=l.2) (E:=eH (some l.2) σ) _ ?_)
   have key:=iy (P:=P) (nc:=l.2) (E:=eH (some l.2) σ) (Q:=fun e a' w'=>e=.normal∧∃ st' H' σ',K st'=some r∧Inv C w0 F0 fn.ntmps st' a' w' H' σ') (eH.refl _ _) (fun u v w h k=>h.trans k) h2 (fun c a w hc=>by cases hc.1) l.1 (Array.replicate ops.size false) a _
    (fun j o hj=>by rw [show (Array.replicate ops.size false).getD j false=false by rw [Array.getD_eq_getD_getElem?,Array.getElem?_replicate];split <;> rfl] at hj;cases hj) h1
    (lv (D:=some l.2) (σ0:=σ) hC dB.ty bu (fun a' w' st' H' σ' q1 q2=>⟨rfl,st',H',σ',q1,q2⟩) l.1 hK iA (fun ws _ s _=>rfl))
   rw [hlen] at key
   exact key
theorem JT {f:Nat} {fn:Func} {call:Nat→List AV→Option AV} {go:List Item→St→Option AV} (dB:Fit C P) (gC:P.funcs[f]?=some fn) (hC:iR C P call) (mb:yv C P f fn go):yv C P f fn (Sx.step C call f fn go):=by
 intro k st r hr hk w0 F0 a w H σ b hb je hI
 have tU:∀ {x:Item} {k':List Item},k=x :: k'→∀ y ∈ k',iB (oV C f fn.ntmps) y=true:=fun e y hy=>hk y (by rw [e];exact List.mem_cons_of_mem _ hy)
 have pG:∀ {x:Item} {k':List Item},k=x :: k'→iB (oV C f fn.ntmps) x=true:=fun e=>hk _ (by rw [e];exact List.mem_cons_self ..)
 have jX:∀ {x:Item} {k':List Item},iB (oV C f fn.ntmps) x=true→(∀ y ∈ k',iB (oV C f fn.ntmps) y=true)→∀ y ∈ x :: k',iB (oV C f fn.ntmps) y=true:=fun h1 h2 y hy=>by
  rcases List.mem_cons.1 hy with rfl | hy
  ·exact h1
  ·exact h2 y hy
 have next:∀ (k':List Item) (st':St),go k' st'=some r→(∀ y ∈ k',iB (oV C f fn.ntmps) y=true)→Inv C w0 F0 fn.ntmps st' a w H σ→(∀ cs,Go.step P (lone (b.at a k) cs w)=.next (lone (b.at a k') cs w))→Ends P b a k w (sd C P f fn w0 F0 r) :=
  fun k' st' h1 h2 h3 h4=>Ends.of_steps (fun cs=>.one (h4 cs)) (mb k' st' r h1 h2 w0 F0 a w H σ b hb je h3)
 cases k with
 | nil=>exact Ends.finish dB gC hb je hI hr fun cs=>⟨_, .one step_end⟩
 | cons it k =>
  cases it with
  | inBlock id=>exact next k st hr (tU rfl) hI fun cs=>step_inBlock
  | inScope c=>exact next k st hr (tU rfl) hI fun cs=>step_inScope
  | inLoop c=>exact next _ st hr (jX (show iB _ (.code c)=true from pG (x:=.inLoop c) rfl) (jX (pG rfl) (tU rfl))) hI fun cs=>step_inLoop
  | code c =>
   have eh:eL (oV C f fn.ntmps) c=true:=pG rfl
   cases c with
   | skip=>exact next k st hr (tU rfl) hI fun cs=>step_skip
   | label l=>exact next k st hr (tU rfl) hI fun cs=>step_label
   | loop c=>exact next _ st hr (jX eh (jX eh (tU rfl))) hI fun cs=>step_loop
   | seq x y =>
    simp only [eL,Bool.and_eq_true] at eh
    exact next _ st hr (jX eh.1 (jX eh.2 (tU rfl))) hI fun cs=>step_seq
   | block id c=>exact next _ st hr (jX eh (jX rfl (tU rfl))) hI fun cs=>step_block
   | scope c=>exact next _ st hr (jX eh (jX eh (tU rfl))) hI fun cs=>step_scope
   | ret=>exact Ends.finish dB gC hb je hI hr fun cs=>⟨_, .one step_ret⟩
   | exit id =>
    have vu:(match exitTo id k with | some k'=>go k' st | none=>none)=some r:=hr
    split at vu
    ·rename_i k' he
     exact next k' st vu (pV he (tU rfl)) hI fun cs=>step_exit he
    ·cases vu
   | goto l =>
    have vu:(match gotoIn l k with | some k'=>go k' st | none=>none)=some r:=hr
    split at vu
    ·rename_i k' he
     exact next k' st vu (pU he (tU rfl)) hI fun cs=>step_goto he
    ·cases vu
   | cond c x y =>
    simp only [eL,Bool.and_eq_true] at eh
    have vu:ah (st.get C c).aU (go (.code x :: k) (st.assume c true)) (go (.code y :: k) (st.assume c false))=some r:=hr
    unfold ah at vu
    split at vu
    ·rename_i q hq
     have hv:=kF hI hq
     have Rf:Inv C w0 F0 fn.ntmps (st.assume c q) a w H σ:=by
      cases c with
      | tmp t =>
       refine hI.E6 ?_
       have:a.tmps.getD t undef=.bool q:=hv
       rw [this]
       exact Rel.b q
      | _=>exact hI
     cases q with
     | true=>exact next _ _ vu (jX eh.1 (tU rfl)) Rf fun cs=>step_cond hv
     | false=>exact next _ _ vu (jX eh.2 (tU rfl)) Rf fun cs=>step_cond hv
    ·cases vu
   | region id ops draw =>
    have vu:gJ C call f id ops draw st (fun st=>go k st)=some r:=hr
    have hw:=DY dB hC eh vu hI
    intro cs
    obtain ⟨e,a',w',⟨he,st',H',σ',q1,q2⟩,Vx⟩:=hw b k cs
    subst he
    obtain ⟨e2,w2,fr,h1,h2,h3⟩:=mb k st' r q1 (tU rfl) w0 F0 a' w' H' σ' b hb je q2 cs
    exact ⟨e2,w2,fr,h1,Comes.of_steps Vx h2,h3⟩
   | _=>cases hr
  | _=>cases hr
theorem firstIdx (l:List UInt8) (c:UInt8):iv l c=Lib.indexByte l c:=by
 unfold iv
 induction l with
 | nil=>rfl
 | cons x l ih =>
  simp only [List.findIdx?_cons,Lib.indexByte]
  by_cases hx:(x == c)=true
  ·simp [hx]
  ·simp only [hx,Bool.false_eq_true,if_false]
   rw [← ih]
   cases hf:l.findIdx? (· == c) with
   | none=>simp
   | some i =>
    have aY:(((i:Nat):Int) == -1)=false:=by
     rw [beq_eq_false_iff_ne]
     omega
    simp [aY]
theorem vM (dB:Fit C P):∀ n,iR C P (both C P n).1∧∀ (f:Nat) (fn:Func),P.funcs[f]?=some fn→yv C P f fn ((both C P n).2 f fn)
 | 0=>⟨⟨fun g args r h=>by simp [both] at h,fun g sg args r h=>by simp [both] at h⟩,fun f fn _ k st r h=>by simp [both] at h⟩
 | n+1=>by
  obtain ⟨ihC,Vy⟩:=vM dB n
  refine ⟨⟨fun g args r h dk w F vs hG hl hv=>?_,fun g sg args r h dk=>?_⟩,fun f fn gC=>?_⟩
  ·have h':(match C.gv g with
   | some G=>bif (C.own g).all Option.isNone && (C.sig g).isNone then G args else none
   | none=>match P.funcs[g]? with
    | some fn=>match fn.body with
     | some c=>bif l6 C g fn.ntmps args.length then arr C g ((both C P n).2 g fn) [.code c] (l5 C g fn.ntmps args) else none
     | none=>bif (C.own g).all Option.isNone && (C.sig g).isNone then ext fn.name args else none
    | none=>none)=some r:=h
   cases xK:C.gv g with
   | some G =>
    rw [xK] at h'
    simp only [dk] at h'
    cases bP:(C.own g).all Option.isNone with
    | false=>rw [bP] at h';cases h'
    | true =>
     rw [bP] at h'
     exact dB.gv g G xK bP args r h' w F vs hG hl hv
   | none =>
   rw [xK] at h'
   simp only at h'
   unfold l5 l6 at h'
   simp only [dk] at h'
   split at h'
   case h_2=>cases h'
   rename_i fn gC
   split at h'
   ·rename_i c fL
    cases hle:Nat.ble args.length fn.ntmps with
    | false=>rw [hle] at h';cases h'
    | true =>
     rw [hle] at h'
     have vz:=Nat.le_of_ble_eq_true hle
     left
     refine ⟨fn,c,gC,fL,dB.name g fn c gC fL,fun cs=>?_⟩
     let b:Frame:=Frame.enter P g vs .normal
     have fq:Frame.enter P g vs .normal=b.at ⟨b.tmps,[]⟩ [.code c]:=by
      simp [b,Frame.enter,Frame.at,gC,fL]
     have nS:b.tmps=vs ++ Array.replicate (fn.ntmps - vs.size) undef:=by simp [b,Frame.enter,gC]
     have hI:Inv C w (Fs.of F) fn.ntmps (zP args) ⟨b.tmps,[]⟩ w (fun _=>none) (fun _=>none):={
      defers:=rfl
      size:=by rw [nS];simp;omega
      env:=fun t=>by
       show bO _ _ _ _ (match args[t]? with | some v=>.val v | none=>.dead) _
       cases ht:args[t]? with
       | none=>trivial
       | some x =>
        have aM:t < vs.size:=by rw [hl];exact (List.getElem?_eq_some_iff.1 ht).1
        show Rel _ _ x _
        have hg:vs[t]?=some vs[t]:=by simp [aM]
        have:=hv t x vs[t] ht hg
        have e:b.tmps.getD t undef=vs[t]:=by
         rw [nS]
         simp [Array.getElem?_append,aM]
        rw [e]
        refine this.mono fun b' DS hF=>⟨⟨fun _=>.inl hF,fun i v hi=>(by cases hi),fun s hs=>(by cases hs)⟩,rfl⟩
      mem:=fun s cs hs=>by cases hs
      hown:=fun i x g hi=>by cases hi
      sown:=fun s r hs=>by cases hs
      obj:=fun s b hb=>by cases hb
      hh:=fun i j x y g _ hi=>by cases hi
      hs:=fun i s x r hi=>by cases hi
      ss:=fun s s' r _ hs=>by cases hs
      glob:=fun g k e hg=>by
       obtain ⟨b',o,h1,h2,h3,h4⟩:=hG g k e hg
       refine ⟨b',o,h1,⟨fun _=>.inl h2,fun i v hi=>(by cases hi),fun s hs=>(by cases hs)⟩,h3,fun j hj=>?_⟩
       obtain ⟨v,q1,q2,q3⟩:=h4 j hj
       exact ⟨v,q1,q2,q3.mono fun b' DS hF=>⟨⟨fun _=>.inl hF,fun i v hi=>(by cases hi),fun s hs=>(by cases hs)⟩,rfl⟩⟩
      below:=E4.refl _ w }
     have a8:=Ag (Vy g fn gC) [.code c] (zP args) r h' (fun x hx=>by
      have:x=.code c:=by simpa using hx
      subst this
      exact dB.code g fn c gC fL) w (Fs.of F) _ w _ _ b rfl rfl hI cs
     rw [fq]
     obtain ⟨e,w',fr,h1,h2⟩:=a8
     unfold sd at h1
     rw [dk] at h1
     exact ⟨e,w',fr,h1 (fun _ hb=>hb),h2⟩
   ·rename_i fL
    right
    cases bP:(C.own g).all Option.isNone with
    | false=>rw [bP] at h';cases h'
    | true =>
    rw [bP] at h'
    simp only [Option.isNone_none,Bool.and_self,cond_true] at h'
    unfold ext at h'
    split at h'
    ·rename_i l c
     cases oA:(fn.name == "internal/bytealg.IndexByteString") with
     | false=>rw [oA] at h';cases h'
     | true =>
      rw [oA] at h'
      simp only [cond_true,Option.some.injEq] at h'
      subst h'
      match vs,hl,hv with
      | ⟨[x,y]⟩,_,hv =>
       have hx:=hv 0 _ x rfl rfl
       have hy:=hv 1 _ y rfl rfl
       cases hx with
       | s q =>
        cases hy
        refine ⟨_,dB.ext g fn gC fL oA q c.toNat w,_,rfl,Ext.refl w,?_⟩
        unfold eV
        rw [if_pos bP,firstIdx]
        have e:((c.toNat:Int)).toNat.toUInt8=c:=by simp
        rw [e]
        exact .int _
    ·cases h'
  ·have h':(match C.gv g with
   | some G=>bif (C.own g).all Option.isNone && (C.sig g).isNone then G args else none
   | none=>match P.funcs[g]? with
    | some fn=>match fn.body with
     | some c=>bif l6 C g fn.ntmps args.length then arr C g ((both C P n).2 g fn) [.code c] (l5 C g fn.ntmps args) else none
     | none=>bif (C.own g).all Option.isNone && (C.sig g).isNone then ext fn.name args else none
    | none=>none)=some r:=h
   cases xK:C.gv g with
   | some G =>
    rw [xK] at h'
    simp only [dk] at h'
    cases bP:(C.own g).all Option.isNone with
    | false=>rw [bP] at h';cases h'
    | true =>
     rw [bP] at h'
     cases h'
   | none =>
   rw [xK] at h'
   simp only at h'
   unfold l5 l6 at h'
   simp only [dk] at h'
   split at h'
   case h_2=>cases h'
   rename_i fn gC
   split at h'
   ·rename_i c fL
    cases hle:(Nat.ble sg.ps.length fn.ntmps && Nat.beq args.length (sg.ps.length+sg.objs.length)) with
    | false=>rw [hle] at h';cases h'
    | true =>
     rw [hle] at h'
     rw [Bool.and_eq_true] at hle
     refine ⟨fn,gC,Nat.le_of_ble_eq_true hle.1,Nat.eq_of_beq_eq_true hle.2,fun w F0 vs H σ oO hI=>.inl ⟨fn,c,gC,fL,dB.name g fn c gC fL,fun cs=>?_⟩⟩
     let b:Frame:=Frame.enter P g vs .normal
     have fq:Frame.enter P g vs .normal=b.at ⟨b.tmps,[]⟩ [.code c]:=by
      simp [b,Frame.enter,Frame.at,gC,fL]
     have nS:b.tmps=vs ++ Array.replicate (fn.ntmps - vs.size) undef:=by simp [b,Frame.enter,gC]
     have a8:=Ag (Vy g fn gC) [.code c] (BJ fn.ntmps sg args) r h' (fun x hx=>by
      have:x=.code c:=by simpa using hx
      subst this
      exact dB.code g fn c gC fL) w F0 ⟨b.tmps,[]⟩ w H σ b rfl rfl (by rw [nS];exact hI) cs
     rw [fq]
     obtain ⟨e,w',fr,h1,h2⟩:=a8
     unfold sd at h1
     rw [dk] at h1
     exact ⟨e,w',fr,h1,h2⟩
   ·simp at h'
  ·exact JT dB gC ihC (Ag (Vy f fn gC))
end
end Sx
namespace Sx
open Go
section
variable {C:cS} {call:Nat→List AV→Option AV} {f:Nat} {R:Type}
theorem lift_bind (st:St) (dst:Option Nat) (K:St→Option R) (o:Option AV):lift st dst K o=(lift st dst some o).bind K:=by
 unfold lift;cases o <;> rfl
theorem bB (t:Nat) (e:aV) (K:List Cell→Option R):cellsOf C t e K=(cellsOf C t e some).bind K:=by
 unfold cellsOf
 cases C.ty t with
 | none=>rfl
 | some i =>
  simp only
  cases i.kd.agg with
  | true =>
   simp only [cond_true]
   cases e with
   | agg cs=>simp only;cases Nat.beq cs.length i.size <;> rfl
   | cell c=>cases c with
    | val v=>simp only;cases AV.aE i.size v <;> rfl
    | _=>rfl
   | _=>rfl
  | false =>
   simp only [cond_false]
   cases Nat.beq i.size 1 with
   | false=>rfl
   | true =>
    simp only [cond_true]
    cases e with
    | cell c=>cases c with
     | val v=>simp only;cases AV.one v <;> rfl
     | _=>rfl
    | _=>rfl
theorem yw (t:Nat) (a:aV) (dst:Option Nat) (st:St) (K:St→Option R):oC C t a dst st K=(oC C t a dst st some).bind K:=by
 unfold oC
 cases C.ty t with
 | none=>rfl
 | some i =>
  simp only
  split
  ·split
   ·cases Nat.ble _ _ <;> rfl
   ·rfl
  ·cases Nat.ble _ _ <;> rfl
  ·cases Nat.ble _ _ <;> rfl
  ·rfl
theorem vN (t:Nat) (a v:aV) (st:St) (K:St→Option R):lh C t a v st K=(lh C t a v st some).bind K:=by
 unfold lh
 split
 ·rw [bB];conv=>rhs;rw [bB]
  cases cellsOf C t v some with
  | none=>rfl
  | some new =>
   simp only [Option.bind_some]
   split
   ·cases Nat.ble _ _ <;> rfl
   ·rfl
 ·rw [bB];conv=>rhs;rw [bB]
  cases cellsOf C t v some with
  | none=>rfl
  | some new =>
   simp only [Option.bind_some]
   split
   ·cases (_ && _:Bool) <;> rfl
   ·rfl
 ·rfl
theorem mO (fields:List (Nat×Nat)) (st:St) (K:List Cell→Option R):∀ (ps:List (Nat×Operand)) (cs:List Cell),nB C fields st ps cs K=(nB C fields st ps cs some).bind K
 | [],cs=>rfl
 | (i,x) :: r,cs=>by
  simp only [nB]
  split
  ·rw [bB];conv=>rhs;rw [bB]
   cases cellsOf C _ (st.get C x) some with
   | none=>rfl
   | some new =>
    simp only [Option.bind_some]
    cases Nat.ble _ _ with
    | false=>rfl
    | true=>simp only [cond_true];exact mO fields st K r _
  ·rfl
theorem mP (t:Nat) (agg:Bool) (st:St) (K:List AV→Option R):∀ (ps:List (Nat×Operand)) (l:List AV),j8 C t agg st ps l K=(j8 C t agg st ps l some).bind K
 | [],l=>rfl
 | (i,x) :: r,l=>by
  simp only [j8]
  cases (_ && _:Bool) with
  | false=>rfl
  | true =>
   simp only [cond_true]
   rw [bB];conv=>rhs;rw [bB]
   cases cellsOf C _ (st.get C x) some with
   | none=>rfl
   | some new=>simp only [Option.bind_some];exact mP t agg st K r _
theorem vO (t:Nat) (x:aV) (lo hi mx:Option Operand) (dst:Option Nat) (st:St) (K:St→Option R):jz C f t x lo hi mx dst st K=(jz C f t x lo hi mx dst st some).bind K:=by
 cases mx with
 | some m=>rfl
 | none =>
  simp only [jz]
  split
  ·exact lift_bind ..
  ·split
   ·rfl
   ·cases (dst.map (C.uo f)).getD false with
    | false=>simp only [cond_false];exact lift_bind ..
    | true =>
     simp only [cond_true]
     split
     ·cases xI _ _ with
      | none=>rfl
      | some n=>cases dst <;> rfl
     ·rfl
  ·rfl
theorem yx (src to:Nat) (x:aV) (dst:Option Nat) (st:St) (K:St→Option R):iP C src to x dst st K=(iP C src to x dst st some).bind K:=by
 unfold iP
 split
 ·exact lift_bind ..
 ·exact lift_bind ..
 ·split
  ·exact lift_bind ..
  ·rfl
 ·split
  ·exact lift_bind ..
  ·rfl
 ·split
  ·cases (_ && _:Bool) with
   | false=>rfl
   | true =>
    simp only [cond_true]
    split <;> rfl
  ·rfl
 ·rfl
theorem se (b:Builtin) (args:List Operand) (ts:List Nat) (dst:Option Nat) (st:St) (K:St→Option R):gz C b args ts dst st K=(gz C b args ts dst st some).bind K:=by
 unfold gz
 split
 ·split
  ·exact lift_bind ..
  ·exact lift_bind ..
  ·rfl
 ·exact lift_bind ..
 ·exact lift_bind ..
 ·exact lift_bind ..
 ·split
  ·split
   ·cases (Kd.qv _) with
    | false=>rfl
    | true =>
     simp only [cond_true]
     split
     ·cases (_ && _:Bool) with
      | false=>rfl
      | true =>
       simp only [cond_true]
       cases app _ _ _ _ with
       | none=>rfl
       | some m=>cases dst <;> rfl
     ·cases app _ _ _ _ with
      | none=>rfl
      | some m=>cases dst <;> rfl
     ·rfl
   ·cases (Kd.qv _) with
    | false=>rfl
    | true =>
     simp only [cond_true]
     split
     ·cases (_ && _:Bool) with
      | false=>rfl
      | true =>
       simp only [cond_true]
       cases app _ _ _ _ with
       | none=>rfl
       | some m=>cases dst <;> rfl
     ·cases app _ _ _ _ with
      | none=>rfl
      | some m=>cases dst <;> rfl
     ·rfl
   ·rfl
  ·rfl
 ·rfl
theorem mQ (site:Nat→Nat) (res:AV) (K:St→Option R):∀ (objs:List (Src×List gf)) (i:Nat) (st:St),pD site res i objs st K=(pD site res i objs st some).bind K
 | [],i,st=>rfl
 | o :: r,i,st=>by
  simp only [pD]
  cases aP res (i+1) with
  | none=>rfl
  | some v =>
   simp only [Option.bind_some]
   cases AV.aE o.2.length v with
   | none=>rfl
   | some l=>simp only [Option.bind_some];exact mQ site res K r _ _
theorem nT (sg:vp) (g:Nat) (xs:List aV) (dst:Option Nat) (st:St) (K:St→Option R):cW C call sg g xs dst st K=(cW C call sg g xs dst st some).bind K:=by
 unfold cW
 cases nC st xs [] sg.objs with
 | none=>rfl
 | some sites =>
  simp only [Option.bind_some]
  cases (_ && _:Bool) with
  | false=>rfl
  | true =>
   simp only [cond_true]
   cases nD _ _ _ _ with
   | none=>rfl
   | some ins =>
    simp only [Option.bind_some]
    cases call _ _ with
    | none=>rfl
    | some res =>
     simp only [Option.bind_some]
     cases aP res 0 with
     | none=>rfl
     | some v =>
      simp only [Option.bind_some]
      rw [mQ]
      conv=>rhs;rw [mQ]
      cases pD _ _ _ _ _ some <;> rfl
theorem yy (c:Call) (dst:Option Nat) (st:St) (K:St→Option R):j9 C call c dst st K=(j9 C call c dst st some).bind K:=by
 unfold j9
 simp only
 split
 ·split
  ·exact nT ..
  ·cases List.all _ _ with
   | false=>rfl
   | true =>
    simp only [cond_true]
    cases call _ _ with
    | none=>rfl
    | some r=>simp only [Option.bind_some];cases mq _ _ _ _ <;> rfl
 ·split
  ·split
   ·exact nT ..
   ·rfl
  ·cases List.all _ _ with
   | false=>rfl
   | true =>
    simp only [cond_true]
    cases AV.M1 _ with
    | none=>rfl
    | some g =>
     simp only [Option.bind_some]
     cases pE C call _ _ <;> rfl
 ·exact se ..
 ·rfl
theorem uG (o:Oper) (st:St) (K:St→Option R):bI C call f o st K=(bI C call f o st some).bind K:=by
 cases ho:o.op with
 | move x=>simp only [bI,ho];rfl
 | assign x=>simp only [bI,ho];rfl
 | pick c a b=>simp only [bI,ho];exact lift_bind ..
 | alloc t=>simp only [bI,ho];cases C.ty t with
  | none=>rfl
  | some i=>cases o.dst <;> rfl
 | box t x =>
  simp only [bI,ho]
  rw [bB];conv=>rhs;rw [bB]
  cases cellsOf C t (st.get C x) some with
  | none=>rfl
  | some cs =>
   simp only [Option.bind_some]
   cases C.pt t with
   | true =>
    simp only [cond_true]
    cases (cs.all Cell.isVal && !cs.isEmpty) <;> rfl
   | false=>cases o.dst <;> rfl
 | build t ps=>simp only [bI,ho];cases C.ty t with
  | none=>rfl
  | some i =>
   simp only
   cases i.kd.agg with
   | false=>rfl
   | true =>
    simp only [cond_true]
    rw [mO];conv=>rhs;rw [mO]
    cases nB C i.fields st ps.toList _ some <;> rfl
 | buildSlice t n ps =>
  simp only [bI,ho]
  split
  ·cases (_ && _:Bool) with
   | false=>rfl
   | true =>
    simp only [cond_true]
    rw [mP];conv=>rhs;rw [mP]
    cases j8 C _ _ st ps.toList _ some with
    | none=>rfl
    | some l=>cases o.dst <;> rfl
  ·rfl
 | load t a=>simp only [bI,ho];exact yw ..
 | store t a x=>simp only [bI,ho];cases o.dst with
  | none=>exact vN ..
  | some d=>rfl
 | binOp op t x y u =>
  simp only [bI,ho]
  cases C.ty t with
  | none=>rfl
  | some i =>
   simp only
   cases i.kd.agg with
   | true =>
    simp only [cond_true]
    cases i.eqk with
    | none=>rfl
    | some ks=>exact lift_bind ..
   | false =>
    simp only [cond_false]
    cases i.kd <;> first | exact lift_bind .. | rfl
 | unOp op t x=>simp only [bI,ho];exact lift_bind ..
 | convert s t x=>simp only [bI,ho];exact yx ..
 | makeSlice t n c =>
  simp only [bI,ho]
  split
  ·cases (bif _ then _ else _:Option (List AV)) with
   | none=>rfl
   | some l=>cases o.dst <;> rfl
  ·rfl
 | slice t x lo hi mx=>simp only [bI,ho];exact vO ..
 | fieldAddr t x i=>simp only [bI,ho];split <;> rfl
 | field t x i =>
  simp only [bI,ho]
  split
  ·rw [bB];conv=>rhs;rw [bB]
   cases cellsOf C t (st.get C x) some with
   | none=>rfl
   | some cs =>
    simp only [Option.bind_some]
    split
    ·cases Nat.ble _ _ <;> rfl
    ·rfl
  ·rfl
 | indexAddr t x i =>
  simp only [bI,ho]
  split
  ·split
   ·cases Nat.beq _ _ with
    | false=>rfl
    | true=>simp only [cond_true];cases lZ _ _ <;> rfl
   ·cases idx _ _ _ <;> rfl
   ·rfl
  ·rfl
 | index t x i =>
  simp only [bI,ho]
  split
  ·exact lift_bind ..
  ·rfl
 | extract x i =>
  simp only [bI,ho]
  cases x with
  | tmp t =>
   simp only
   split
   ·split <;> rfl
   ·exact lift_bind ..
   ·rfl
  | _=>rfl
 | makeFunc fn fi ca =>
  simp only [bI,ho]
  split
  ·rfl
  ·cases my _ <;> rfl
  ·rfl
 | nilCheck x=>simp only [bI,ho];split <;> rfl
 | call c=>simp only [bI,ho];exact yy ..
 | _=>simp only [bI,ho];rfl
end
def Ev (p:Nat→Prop):Prop:=∃ n0,∀ n,n0≤n→p n
theorem Ev.of {p:Nat→Prop} (h:∀ n,p n):Ev p:=⟨0,fun n _=>h n⟩
theorem Ev.mono {p q:Nat→Prop} (h:Ev p) (hq:∀ n,p n→q n):Ev q:=by
 obtain ⟨n0,h⟩:=h;exact ⟨n0,fun n hn=>hq n (h n hn)⟩
theorem Ev.and {p q:Nat→Prop} (h:Ev p) (k:Ev q):Ev fun n=>p n∧q n:=by
 obtain ⟨a,h⟩:=h;obtain ⟨b,k⟩:=k
 exact ⟨max a b,fun n hn=>⟨h n (Nat.le_trans (Nat.le_max_left ..) hn),k n (Nat.le_trans (Nat.le_max_right ..) hn)⟩⟩
theorem Ev.const {p:Prop} (h:Ev fun _=>p):p:=by obtain ⟨n0,h⟩:=h;exact h n0 (Nat.le_refl _)
theorem Ev.ex {p:Nat→Prop} (h:Ev p):∃ n,p n:=by obtain ⟨n0,h⟩:=h;exact ⟨n0,h n0 (Nat.le_refl _)⟩
section
variable {C:cS} {call:Nat→List AV→Option AV} {cs:Nat→Nat→List AV→Option AV} {f:Nat}
theorem si (hc:∀ g xs r,call g xs=some r→Ev fun n=>cs n g xs=some r) {sg:vp} {g:Nat} {xs:List aV} {dst:Option Nat} {st st':St} (h:cW C call sg g xs dst st some=some st'):Ev fun n=>cW C (cs n) sg g xs dst st some=some st':=by
 unfold cW at h ⊢
 obtain ⟨sites,h1,h⟩:=Option.bind_eq_some_iff.1 h
 simp only at h
 generalize hb:(BI sg && (nodup sites && (mr sites sg.ps xs && (nodup (cf true (fun i=>sites.getD i 0) (st.jt (mu sg.ps xs ++ cf false (fun i=>sites.getD i 0) st.mem 0 sg.objs)).mem 0 sg.objs) && (C.own g).isEmpty))))=b at h
 cases b with
 | false=>cases h
 | true =>
  simp only [cond_true] at h
  obtain ⟨ins,h2,h⟩:=Option.bind_eq_some_iff.1 h
  obtain ⟨res,h3,h⟩:=Option.bind_eq_some_iff.1 h
  refine (hc _ _ _ h3).mono fun n hn=>?_
  simp only [h1,Option.bind_some,hb,cond_true,h2,hn]
  exact h
theorem JU (hc:∀ g xs r,call g xs=some r→Ev fun n=>cs n g xs=some r) (o:Oper) (st st':St) (h:bI C call f o st some=some st'):Ev fun n=>bI C (cs n) f o st some=some st':=by
 cases ho:o.op <;> first
  | (refine Ev.of fun n=>?_;simp only [bI,ho] at h ⊢;exact h;done)
  | skip
 case call c =>
  simp only [bI,ho] at h ⊢
  unfold j9 at h ⊢
  simp only at h ⊢
  split at h
  ·rename_i g hg
   cases dk:C.sig g with
   | some sg =>
    rw [dk] at h
    simp only [hg,dk]
    exact si hc h
   | none =>
   rw [dk] at h
   simp only at h
   cases ha:(c.args.toList.map (st.get C)).all aV.told with
   | false=>rw [ha] at h;cases h
   | true =>
    rw [ha] at h
    simp only [cond_true] at h
    obtain ⟨r,hr,h⟩:=Option.bind_eq_some_iff.1 h
    refine (hc _ _ _ hr).mono fun n hn=>?_
    simp only [hg,dk,ha,cond_true,hn,Option.bind_some]
    exact h
  ·rename_i t ht
   split at h
   ·rename_i g ss cI
    cases dk:C.sig g with
    | none=>rw [dk] at h;cases h
    | some sg =>
     rw [dk] at h
     simp only [ht,cI,dk]
     exact si hc h
   ·rename_i QB
    cases ha:(c.args.toList.map (st.get C)).all aV.told with
    | false=>rw [ha] at h;cases h
    | true =>
     rw [ha] at h
     simp only [cond_true] at h
     obtain ⟨g,hg,h⟩:=Option.bind_eq_some_iff.1 h
     obtain ⟨r,hr,h⟩:=Option.bind_eq_some_iff.1 h
     unfold pE at hr
     cases hb:((C.sig g).isNone && (C.own g).all Option.isNone) with
     | false=>rw [hb] at hr;cases hr
     | true =>
     rw [hb] at hr
     simp only [cond_true] at hr
     refine (hc _ _ _ hr).mono fun n hn=>?_
     simp only [cond_true,hg,Option.bind_some,pE,hb,hn]
     exact h
  ·rename_i b hb
   refine Ev.of fun n=>?_
   (try simp only [hb])
   exact h
  ·cases h
theorem eu (hc:∀ g xs r,call g xs=some r→Ev fun n=>cs n g xs=some r) {ops:Array Oper} {D:Option (List Nat)} :
  ∀ (m:Nat) {R:Type} (ctx:Option (Nat×Bool)) (l:List (Nat×Bool)) (st:St) (K:St→Option R) (Ks:Nat→St→Option R) (r:R),(∀ st r,K st=some r→Ev fun n=>Ks n st=some r) →
   cA C call f ops D m ctx l st K=some r→Ev fun n=>cA C (cs n) f ops D m ctx l st (Ks n)=some r
 | 0,R,ctx,l,st,K,Ks,r,hK,h=>by cases h
 | m+1,R,ctx,[],st,K,Ks,r,hK,h=>hK st r h
 | m+1,R,ctx,i :: l,st,K,Ks,r,hK,h=>by
  simp only [cA] at h ⊢
  cases aM:Nat.blt i.1 ops.size with
  | false=>rw [aM] at h;cases h
  | true =>
   simp only [aM,Bool.not_true,cond_false] at h ⊢
   cases Qd:pF (opAt ops i.1).guard ctx with
   | true =>
    simp only [Qd,cond_true] at h ⊢
    cases fm:vq C i.1 (opAt ops i.1) i.2 D st with
    | false=>rw [fm] at h;cases h
    | true =>
     simp only [fm,cond_true] at h ⊢
     rw [uG] at h
     obtain ⟨st',h1,h2⟩:=Option.bind_eq_some_iff.1 h
     refine ((JU hc _ _ _ h1).and (eu hc m _ l st' K Ks r hK h2)).mono fun n hn=>?_
     rw [uG,hn.1]
     exact hn.2
   | false =>
    simp only [Qd,cond_false] at h ⊢
    split at h
    ·cases h
    rename_i j want hg
    split at h
    ·cases h
    rename_i d j6
    split at h
    case h_2=>cases h
    rename_i kc p A B rest Ae
    cases hh:(ka C ops true j want d kc [] && Nat.blt p.1 ops.size) with
    | false =>
     rw [hh] at h
     simp only [cond_false] at h
     cases BZ:(ka C ops false j want d kc [] && Nat.blt p.1 ops.size) with
     | false=>rw [BZ] at h;cases h
     | true =>
      rw [BZ] at h
      simp only [cond_true] at h
      have k1:∀ r,cA C call f ops D m (some (j,want)) kc st (fun st=>cA C call f ops D m ctx rest (st.put (opAt ops p.1).dst (st.get C (bif want then A else B))) K)=some r →
        Ev fun n=>cA C (cs n) f ops D m (some (j,want)) kc st (fun st=>cA C (cs n) f ops D m ctx rest (st.put (opAt ops p.1).dst (st.get C (bif want then A else B))) (Ks n))=some r :=
       fun r h=>eu hc m _ kc st _ (fun n st=>cA C (cs n) f ops D m ctx rest (st.put (opAt ops p.1).dst (st.get C (bif want then A else B))) (Ks n)) r (fun st r h=>eu hc m _ rest _ K Ks r hK h) h
      have k2:∀ r,cA C call f ops D m ctx rest ((st.eJ (kc.filterMap fun i=>bN ops i.1)).put (opAt ops p.1).dst (st.get C (bif want then B else A))) K=some r →
        Ev fun n=>cA C (cs n) f ops D m ctx rest ((st.eJ (kc.filterMap fun i=>bN ops i.1)).put (opAt ops p.1).dst (st.get C (bif want then B else A))) (Ks n)=some r :=
       fun r h=>eu hc m _ rest _ K Ks r hK h
      unfold zO ah at h
      cases want with
      | true =>
       simp only [cond_true] at h
       split at h
       ·rename_i x hx
        cases x with
        | true=>exact (k1 r h).mono fun n hn=>by simp only [j6,Ae,hh,BZ,cond_false,cond_true];unfold zO ah;rw [hx];exact hn
        | false=>exact (k2 r h).mono fun n hn=>by simp only [j6,Ae,hh,BZ,cond_false,cond_true];unfold zO ah;rw [hx];exact hn
       ·cases h
      | false =>
       simp only [cond_false] at h
       split at h
       ·rename_i x hx
        cases x with
        | true=>exact (k2 r h).mono fun n hn=>by simp only [j6,Ae,hh,BZ,cond_false,cond_true];unfold zO ah;rw [hx];exact hn
        | false=>exact (k1 r h).mono fun n hn=>by simp only [j6,Ae,hh,BZ,cond_false,cond_true];unfold zO ah;rw [hx];exact hn
       ·cases h
    | true =>
     rw [hh] at h
     simp only [cond_true] at h
     obtain ⟨v,hv,h⟩:=Option.bind_eq_some_iff.1 h
     have Vz:Ev fun n=>aq (st.env d).aU want (cA C (cs n) f ops D m (some (j,want)) kc st fun st=>some (st.get C (bif want then A else B)).aU) (st.get C (bif want then B else A)).aU=some v:=by
      unfold aq at hv ⊢
      split at hv
      ·rename_i x hx
       (try simp only [hx])
       cases xL:(x == want) with
       | true =>
        simp only [xL,cond_true] at hv ⊢
        split at hv
        ·rename_i y hy
         refine (eu hc m _ kc st _ (fun _ st=>some (st.get C (bif want then A else B)).aU) _ (fun st r h=>Ev.of fun _=>h) hy).mono fun n hn=>?_
         rw [hn]
         exact hv
        ·cases hv
       | false =>
        simp only [xL,cond_false] at hv ⊢
        exact Ev.of fun _=>hv
      ·cases hv
     refine (Vz.and (eu hc m _ rest _ K Ks r hK h)).mono fun n hn=>?_
     simp only [j6,Ae,hh,cond_true,hn.1,Option.bind_some]
     exact hn.2
theorem Ah {R:Type} {A B:Option R} {r:R} (h:agree A B=some r):A=some r∧B=some r:=by
 unfold agree at h
 split at h
 ·rename_i e;exact ⟨h,e ▸ h⟩
 ·cases h
theorem FT {R:Type} {A B:Option R} {r:R} (h1:A=some r) (h2:B=some r):agree A B=some r:=by
 unfold agree
 rw [h1,h2,if_pos rfl]
@[simp] theorem JV {R:Type} (A:Option R):same A=A:=by
 unfold same agree
 rw [if_pos rfl]
theorem lx (hc:∀ g xs r,call g xs=some r→Ev fun n=>cs n g xs=some r) {R:Type} {ops:Array Oper} {D:Option (List Nat)} {m:Nat} {K:St→Option R} {Ks:Nat→St→Option R} (hK:∀ st r,K st=some r→Ev fun n=>Ks n st=some r) :
  ∀ (T:j7) {st:St} {r:R},eU C call f ops D m T st K=some r→Ev fun n=>eU C (cs n) f ops D m T st (Ks n)=some r
 | .done,st,r,h=>hK st r h
 | .seq l t,st,r,h=>eu hc m _ l st _ (fun n st=>eU C (cs n) f ops D m t st (Ks n)) r (fun st r h=>lx hc hK t h) h
 | .fork i x j y,st,r,h=>by
  simp only [eU] at h ⊢
  obtain ⟨h1,h2⟩:=Ah h
  have k1:=eu hc m _ [(i,false)] st _ (fun n st=>eU C (cs n) f ops D m x st (Ks n)) r (fun st r h=>lx hc hK x h) h1
  have k2:=eu hc m _ [(j,false)] st _ (fun n st=>eU C (cs n) f ops D m y st (Ks n)) r (fun st r h=>lx hc hK y h) h2
  exact (k1.and k2).mono fun n hn=>FT hn.1 hn.2
theorem yz (hc:∀ g xs r,call g xs=some r→Ev fun n=>cs n g xs=some r) {R:Type} {DF:Nat} {ops:Array Oper} {draw:Bool} {st:St} {K:St→Option R} {Ks:Nat→St→Option R} {r:R} (hK:∀ st r,K st=some r→Ev fun n=>Ks n st=some r)
  (h:gJ C call f DF ops draw st K=some r):Ev fun n=>gJ C (cs n) f DF ops draw st (Ks n)=some r:=by
 unfold gJ at h ⊢
 cases draw with
 | false =>
  simp only [cond_false] at h ⊢
  exact eu hc _ _ _ _ _ _ _ hK h
 | true =>
  simp only [cond_true] at h ⊢
  split at h
  ·rename_i p hp
   (try simp only [hp])
   exact lx hc hK p.1 h
  ·cases h
theorem vP (hc:∀ g xs r,call g xs=some r→Ev fun n=>cs n g xs=some r) {fn:Func} {go:List Item→St→Option AV} {gos:Nat→List Item→St→Option AV} (mb:∀ k st r,go k st=some r→Ev fun n=>gos n k st=some r)
  {k:List Item} {st:St} {r:AV} (h:step C call f fn go k st=some r):Ev fun n=>step C (cs n) f fn (gos n) k st=some r:=by
 cases k with
 | nil=>exact Ev.of fun _=>h
 | cons it k =>
  cases it with
  | inBlock id=>exact mb _ _ _ h
  | inScope c=>exact mb _ _ _ h
  | inLoop c=>exact mb _ _ _ h
  | code c =>
   cases c with
   | skip=>exact mb _ _ _ h
   | label l=>exact mb _ _ _ h
   | loop c=>exact mb _ _ _ h
   | seq x y=>exact mb _ _ _ h
   | block id c=>exact mb _ _ _ h
   | scope c=>exact mb _ _ _ h
   | ret=>exact Ev.of fun _=>h
   | exit id =>
    simp only [step] at h ⊢
    split at h
    ·rename_i k' he;(try simp only [he]);exact mb _ _ _ h
    ·cases h
   | goto l =>
    simp only [step] at h ⊢
    split at h
    ·rename_i k' he;(try simp only [he]);exact mb _ _ _ h
    ·cases h
   | cond c x y =>
    simp only [step,ah] at h ⊢
    split at h
    ·rename_i q hq
     (try simp only [hq])
     cases q with
     | true=>exact mb _ _ _ h
     | false=>exact mb _ _ _ h
    ·cases h
   | region id ops draw =>
    simp only [step] at h ⊢
    exact yz hc (fun st r h=>mb k st r h) h
   | _=>cases h
  | _=>cases h
theorem FU {go:List Item→St→Option AV} {gos:Nat→List Item→St→Option AV} (mb:∀ k st r,go k st=some r→Ev fun n=>gos n k st=some r) {k:List Item} {st:St} {r:AV} (h:arr C f go k st=some r):Ev fun n=>arr C f (gos n) k st=some r:=by
 unfold arr at h ⊢
 split at h
 ·rename_i l s hl;(try simp only [hl]);exact mb _ _ _ h
 ·rename_i hl;(try simp only [hl]);exact mb _ _ _ h
end
section
open Classical
def ae (C:cS) (P:Program) (g:Nat) (xs:List AV):Option AV:=if h:∃ r,Ev fun n=>(both C P n).1 g xs=some r then some (choose h) else none
def af (C:cS) (P:Program) (f:Nat) (fn:Func) (k:List Item) (st:St):Option AV:=if h:∃ r,Ev fun n=>(both C P n).2 f fn k st=some r then some (choose h) else none
variable {C:cS} {P:Program}
theorem jF {g:Nat} {xs:List AV} {r:AV} (h:ae C P g xs=some r):Ev fun n=>(both C P n).1 g xs=some r:=by
 unfold ae at h
 split at h
 ·rename_i hh
  have:=choose_spec hh
  cases h
  exact this
 ·cases h
theorem pW {f:Nat} {fn:Func} {k:List Item} {st:St} {r:AV} (h:af C P f fn k st=some r):Ev fun n=>(both C P n).2 f fn k st=some r:=by
 unfold af at h
 split at h
 ·rename_i hh
  have:=choose_spec hh
  cases h
  exact this
 ·cases h
theorem mR {g:Nat} {xs:List AV} {r:AV} (h:Ev fun n=>(both C P n).1 g xs=some r):ae C P g xs=some r:=by
 have hh:∃ r,Ev fun n=>(both C P n).1 g xs=some r:=⟨r,h⟩
 unfold ae
 rw [dif_pos hh]
 obtain ⟨n,h1,h2⟩:=((choose_spec hh).and h).ex
 rw [← h1];exact h2
theorem DZ {f:Nat} {fn:Func} {k:List Item} {st:St} {r:AV} (h:Ev fun n=>(both C P n).2 f fn k st=some r):af C P f fn k st=some r:=by
 have hh:∃ r,Ev fun n=>(both C P n).2 f fn k st=some r:=⟨r,h⟩
 unfold af
 rw [dif_pos hh]
 obtain ⟨n,h1,h2⟩:=((choose_spec hh).and h).ex
 rw [← h1];exact h2
theorem Ev.succ {p:Nat→Prop} (h:Ev fun n=>p (n+1)):Ev p:=by
 obtain ⟨n0,h⟩:=h
 refine ⟨n0+1,fun n hn=>?_⟩
 obtain ⟨m,rfl⟩:∃ m,n=m+1:=⟨n - 1,by omega⟩
 exact h m (by omega)
theorem pX {f:Nat} {fn:Func} {k:List Item} {st:St} {r:AV} (h:step C (ae C P) f fn (arr C f (af C P f fn)) k st=some r):af C P f fn k st=some r :=
 DZ (Ev.succ (vP (cs:=fun n=>(both C P n).1) (gos:=fun n=>arr C f ((both C P n).2 f fn)) (fun _ _ _ h=>jF h) (fun _ _ _ h=>FU (gos:=fun n=>(both C P n).2 f fn) (fun _ _ _ h=>pW h) h) h))
def NN (C:cS) (call:Nat→List AV→Option AV) (run:List Item→St→Option AV) (f:Nat) (fn:Func):Nat→List Item→St→Option AV
 | 0,_,_=>none
 | n+1,k,st=>match E3 C f k with
  | some (l,s)=>run k (st.canon l s)
  | none=>step C call f fn (NN C call run f fn n) k st
theorem Ai {f:Nat} {fn:Func}:∀ (n:Nat) {k:List Item} {st:St} {r:AV},NN C (ae C P) (af C P f fn) f fn n k st=some r→arr C f (af C P f fn) k st=some r
 | 0,k,st,r,h=>by cases h
 | n+1,k,st,r,h=>by
  simp only [NN] at h
  unfold arr
  split at h
  ·rename_i l s hl;simp only [hl];exact h
  ·rename_i hl
   simp only [hl]
   refine pX ?_
   exact (vP (cs:=fun _=>ae C P) (gos:=fun _=>arr C f (af C P f fn)) (fun _ _ _ h=>Ev.of fun _=>h) (fun _ _ _ h=>Ev.of fun _=>Ai n h) h).const
theorem Aj {f:Nat} {fn:Func} (n:Nat) {k:List Item} {st:St} {r:AV} (h:step C (ae C P) f fn (NN C (ae C P) (af C P f fn) f fn n) k st=some r):af C P f fn k st=some r :=
 pX (vP (cs:=fun _=>ae C P) (gos:=fun _=>arr C f (af C P f fn)) (fun _ _ _ h=>Ev.of fun _=>h) (fun _ _ _ h=>Ev.of fun _=>Ai n h) h).const
theorem yA {g:Nat} {fn:Func} {c:Code} (gC:P.funcs[g]?=some fn) (hb:fn.body=some c) (n:Nat) {xs:List AV} {r:AV} (hl:l6 C g fn.ntmps xs.length=true) (h:NN C (ae C P) (af C P g fn) g fn n [.code c] (l5 C g fn.ntmps xs)=some r) (xK:C.gv g=none:=by rfl):ae C P g xs=some r:=by
 refine mR (Ev.succ ?_)
 have h1:=FU (C:=C) (f:=g) (gos:=fun n=>(both C P n).2 g fn) (fun _ _ _ h=>pW h) (Ai n h)
 refine h1.mono fun n hn=>?_
 show (match C.gv g with
   | some G=>bif (C.own g).all Option.isNone && (C.sig g).isNone then G xs else none
   | none=>match P.funcs[g]? with
    | some fn=>match fn.body with
     | some c=>bif l6 C g fn.ntmps xs.length then arr C g ((both C P n).2 g fn) [.code c] (l5 C g fn.ntmps xs) else none
     | none=>bif (C.own g).all Option.isNone && (C.sig g).isNone then ext fn.name xs else none
    | none=>none)=some r
 rw [xK]
 simp only
 rw [gC]
 simp only [hb,hl,cond_true]
 exact hn
theorem yB {g:Nat} {fn:Func} (gC:P.funcs[g]?=some fn) (hb:fn.body=none) (ho:((C.own g).all Option.isNone && (C.sig g).isNone)=true) {xs:List AV} {r:AV} (h:ext fn.name xs=some r) (xK:C.gv g=none:=by rfl):ae C P g xs=some r:=by
 refine mR (Ev.succ (Ev.of fun n=>?_))
 show (match C.gv g with
   | some G=>bif (C.own g).all Option.isNone && (C.sig g).isNone then G xs else none
   | none=>match P.funcs[g]? with
    | some fn=>match fn.body with
     | some c=>bif l6 C g fn.ntmps xs.length then arr C g ((both C P n).2 g fn) [.code c] (l5 C g fn.ntmps xs) else none
     | none=>bif (C.own g).all Option.isNone && (C.sig g).isNone then ext fn.name xs else none
    | none=>none)=some r
 rw [xK]
 simp only
 rw [gC]
 simp only [hb,ho,cond_true]
 exact h
theorem gP {g:Nat} {G:List AV→Option AV} (xK:C.gv g=some G) (ho:((C.own g).all Option.isNone && (C.sig g).isNone)=true) {xs:List AV} {r:AV} (h:G xs=some r):ae C P g xs=some r:=by
 refine mR (Ev.succ (Ev.of fun n=>?_))
 show (match C.gv g with
   | some G=>bif (C.own g).all Option.isNone && (C.sig g).isNone then G xs else none
   | none=>match P.funcs[g]? with
    | some fn=>match fn.body with
     | some c=>bif l6 C g fn.ntmps xs.length then arr C g ((both C P n).2 g fn) [.code c] (l5 C g fn.ntmps xs) else none
     | none=>bif (C.own g).all Option.isNone && (C.sig g).isNone then ext fn.name xs else none
    | none=>none)=some r
 rw [xK]
 simp only [ho,cond_true]
 exact h
theorem gQ (dB:Fit C P):iR C P (ae C P) :=
 ⟨fun g xs r h hs=>by
  obtain ⟨n,hn⟩:=(jF h).ex
  exact (vM dB n).1.1 g xs r hn hs,
 fun g sg xs r h hs=>by
  obtain ⟨n,hn⟩:=(jF h).ex
  exact (vM dB n).1.2 g sg xs r hn hs⟩
end
abbrev al:=Nat→List AV→Option AV
abbrev RunT:=List Item→St→Option AV
def jG {α:Type}:List (Nat×α)→Nat→Option α
 | [],_=>none
 | p :: r,t=>bif Nat.beq p.1 t then some p.2 else jG r t
def B1 {α:Type}:List ((Nat×Nat)×α)→Nat→Nat→Option α
 | [],_,_=>none
 | p :: r,f,t=>bif Nat.beq p.1.1 f && Nat.beq p.1.2 t then some p.2 else B1 r f t
def FV (ty:List (Nat×Ty)) (DD:List ((Nat×Nat)×(j7×List Nat))) (stops:List (Nat×List (Nat×List (Nat×Option (Nat×Nat))×List (Nat×List (Nat×Nat×Nat))))) (own:List (Nat×List (Option (Nat×Nat))))
  (uo:List (Nat×List Nat)) (glob:Nat→Option (Nat×AV)) (sig:List (Nat×vp)) (gv:Nat→Option (List AV→Option AV):=fun _=>none) (pt:Nat→Bool:=fun _=>false):cS where
 ty:=jG ty
 own:=fun f=>(jG own f).getD []
 stops:=fun f=>(jG stops f).getD []
 DD:=B1 DD
 uo:=fun f t=>((jG uo f).getD []).any (Nat.beq t)
 glob:=glob
 sig:=jG sig
 gv:=gv
 pt:=pt
def bL (DF:Nat):Code→List Item→Option (List Item)
 | .region id ops d,k=>bif Nat.beq id DF then some (.code (.region id ops d) :: k) else none
 | .seq a b,k=>match bL DF a (.code b :: k) with
  | some r=>some r
  | none=>bL DF b k
 | .cond _ a b,k=>match bL DF a k with
  | some r=>some r
  | none=>bL DF b k
 | .block id c,k=>bL DF c (.inBlock id :: k)
 | .loop c,k=>bL DF c (.inLoop c :: k)
 | .scope c,k=>bL DF c (.inScope c :: k)
 | _,_=>none
def VA:AV→AV→Bool
 | .un, .un=>true
 | .b x, .b y=>x == y
 | .u8 x, .u8 y=>Nat.beq x.toNat y.toNat
 | .int x, .int y=>decide (x=y)
 | .ik k x, .ik k' y=>decide (k=k') && decide (x=y)
 | .s [], .s []=>true
 | .aC, .aC=>true
 | .rJ, .rJ=>true
 | .ek, .ek=>true
 | _,_=>false
theorem NO {a b:AV} (h:VA a b=true):a=b:=by
 unfold VA at h
 split at h
 ·rfl
 ·rename_i x y;have:x=y:=by simpa using h
  rw [this]
 ·rw [UInt8.toNat_inj.1 (Nat.eq_of_beq_eq_true h)]
 ·rw [of_decide_eq_true h]
 ·rw [Bool.and_eq_true] at h
  rw [of_decide_eq_true h.1,of_decide_eq_true h.2]
 ·rfl
 ·rfl
 ·rfl
 ·rfl
 ·cases h
def JW:List AV→List AV→Bool
 | [],[]=>true
 | x :: xs,y :: ys=>VA x y && JW xs ys
 | _,_=>false
theorem B2:∀ {l m:List AV},JW l m=true→l=m
 | [],[],_=>rfl
 | x :: xs,y :: ys,h=>by
  simp only [JW,Bool.and_eq_true] at h
  rw [NO h.1,B2 h.2]
 | [],y :: ys,h=>by cases h
 | x :: xs,[],h=>by cases h
def qP:List Field→List (Nat×Nat)→Bool
 | [],[]=>true
 | f :: fs,p :: ps=>Nat.beq f.offset p.1 && Nat.beq f.type p.2 && qP fs ps
 | _,_=>false
theorem sj:∀ {l:List Field} {m:List (Nat×Nat)},qP l m=true→l.map (fun f=>(f.offset,f.type))=m
 | [],[],_=>rfl
 | f :: fs,p :: ps,h=>by
  simp only [qP,Bool.and_eq_true] at h
  simp only [List.map_cons]
  rw [sj h.2,Nat.eq_of_beq_eq_true h.1.1,Nat.eq_of_beq_eq_true h.1.2]
 | [],_ :: _,h=>by cases h
 | _ :: _,[],h=>by cases h
def VB (P:Program) (t:TypeId):EK→Bool
 | .b=>match P.underlying t with | some .bool=>true | _=>false
 | .i=>match P.underlying t with | some (.int _)=>true | _=>false
 | .s=>match P.underlying t with | some .string=>true | _=>false
theorem NP {P:Program} {t:TypeId} {k:EK} (h:VB P t k=true):Fi P t k:=by
 cases k <;> simp only [VB] at h <;> split at h <;> first | (cases h;done) | skip
 ·rename_i hu;exact hu
 ·rename_i k hu;exact ⟨k,hu⟩
 ·rename_i hu;exact hu
def D0 (P:Program):Nat→List Field→List EK→Bool
 | _,[],[]=>true
 | n,f :: fs,k :: ks=>Nat.beq f.offset n && !(f.name == "_") && VB P f.type k && D0 P (n+1) fs ks
 | _,_,_=>false
theorem B3 {P:Program}:∀ {n:Nat} {fs:List Field} {ks:List EK},D0 P n fs ks=true→fs.length=ks.length∧∀ (j:Nat) (f:Field) (k:EK),fs[j]?=some f→ks[j]?=some k→f.offset=n+j∧f.name ≠ "_" ∧ Fi P f.type k
 | n,[],[],_=>⟨rfl,fun j f k h=>by simp at h⟩
 | n,f :: fs,k :: ks,h=>by
  simp only [D0,Bool.and_eq_true] at h
  obtain ⟨⟨⟨h1,h2⟩,h3⟩,h4⟩:=h
  obtain ⟨q1,q2⟩:=B3 h4
  refine ⟨by simp [q1],fun j f' k' hf hk=>?_⟩
  cases j with
  | zero =>
   simp at hf hk
   subst hf hk
   exact ⟨Nat.eq_of_beq_eq_true h1,by simpa using h2,NP h3⟩
  | succ j =>
   obtain ⟨a,b⟩:=q2 j f' k' (by simpa using hf) (by simpa using hk)
   exact ⟨by omega,b⟩
 | n,[],_ :: _,h=>by simp [D0] at h
 | n,_ :: _,[],h=>by simp [D0] at h
def Yg (P:Program) (t:TypeId) (i:Ty):Bool :=
 match i.kd,P.underlying t with
 | .bool,some .bool=>true
 | .int k,some (.int k')=>decide (k=k')
 | .str,some .string=>true
 | .slice,some (.slice e)=>Nat.beq e i.elem
 | .struct,some (.struct fs)=>qP fs.toList i.fields && fs.toList.all fun f=>match P.info? f.type with | some inf=>!Nat.beq inf.size 0 | none=>false
 | .ptr,some (.pointer _)=>true
 | .func,some (.struct _) | .func,some (.array _ _) | .other,some (.struct _) | .other,some (.array _ _)=>false
 | .func,some _ | .other,some _=>true
 | _,_=>false
def NQ (P:Program) (t:TypeId) (i:Ty):Bool :=
 (match P.info? t with
  | some inf=>Nat.beq inf.size i.size && Nat.beq inf.bytes i.bytes && (match inf.zero with
   | some z=>JW (z.cells.toList.map EM) i.zero && Nat.beq z.cells.size i.size && z.cells.toList.all Value.oneCell'
   | none=>false)
  | none=>false) && Yg P t i && Nat.blt 0 i.size && Nat.blt 0 i.bytes && (i.kd.agg || Nat.beq i.size 1) && (match i.kd with | .struct=>true | _=>i.fields.isEmpty) &&
 (match i.eqk with
  | none=>true
  | some ks=>!P.stoodInHeld t && !P.eqGuardType P.depth t && (match P.underlying t with | some (.struct fs)=>D0 P 0 fs.toList ks | _=>false))
theorem NR {P:Program} {t:TypeId} {i:Ty} (h:NQ P t i=true):cm P t i:=by
 unfold NQ at h
 simp only [Bool.and_eq_true] at h
 obtain ⟨⟨⟨⟨⟨⟨h1,h2⟩,h3⟩,h4⟩,h5⟩,h6⟩,h7⟩:=h
 refine { info:=?_,und:=?_,pos:=⟨by unfold Nat.blt at h3;exact Nat.le_of_ble_eq_true h3,by unfold Nat.blt at h4;exact Nat.le_of_ble_eq_true h4⟩,one:=fun hh=>?_,fieldsOnly:=fun hh=>?_,eqOk:=fun ks hk=>?_ }
 ·split at h1
  ·rename_i inf NS
   simp only [Bool.and_eq_true] at h1
   obtain ⟨⟨q1,q2⟩,q3⟩:=h1
   split at q3
   ·rename_i z hz
    simp only [Bool.and_eq_true] at q3
    exact ⟨inf,z,NS,Nat.eq_of_beq_eq_true q1,Nat.eq_of_beq_eq_true q2,hz,B2 q3.1.1,Nat.eq_of_beq_eq_true q3.1.2,fun v hv=>List.all_eq_true.1 q3.2 v hv⟩
   ·cases q3
  ·cases h1
 ·unfold Yg at h2
  cases hk:i.kd <;> rw [hk] at h2 <;> cases hu:P.underlying t <;> rw [hu] at h2 <;> simp only at h2 ⊢ <;> first | (cases h2;done) | skip
  all_goals rename_i d
  all_goals cases d <;> simp only at h2 <;> first | (cases h2;done) | skip
  all_goals first
   | rfl
   | (rw [of_decide_eq_true h2];done)
   | (rw [Nat.eq_of_beq_eq_true h2];done)
   | exact ⟨_,rfl,rfl⟩
   | exact ⟨_,rfl⟩
   | skip
  rename_i fs
  rw [Bool.and_eq_true] at h2
  refine ⟨fs,rfl,sj h2.1,fun f hf=>?_⟩
  have:=List.all_eq_true.1 h2.2 f hf
  split at this
  ·rename_i inf NS
   refine ⟨inf,NS,fun e=>?_⟩
   rw [e] at this
   cases this
  ·cases this
 ·rw [hh,Bool.false_or] at h5
  exact Nat.eq_of_beq_eq_true h5
 ·cases hk:i.kd <;> rw [hk] at h6 hh <;> first | exact absurd rfl hh | exact List.isEmpty_iff.1 h6
 ·rw [hk] at h7
  simp only [Bool.and_eq_true,Bool.not_eq_true'] at h7
  obtain ⟨⟨q1,q2⟩,q3⟩:=h7
  split at q3
  ·rename_i fs hu
   obtain ⟨z1,z2⟩:=B3 q3
   exact { stood:=q1,guard:=q2,fields:=⟨fs,hu,by simpa using z1,fun j f k h1 h2=>by have:=z2 j f k h1 h2;simpa using this⟩ }
  ·cases q3
theorem NT {P:Program} {l:List (Nat×Ty)} (h:l.all (fun p=>NQ P p.1 p.2)=true):∀ t i,jG l t=some i→cm P t i:=by
 induction l with
 | nil=>intro t i hi;cases hi
 | cons p r ih =>
  simp only [List.all_cons,Bool.and_eq_true] at h
  intro t i hi
  simp only [jG] at hi
  cases hb:Nat.beq p.1 t with
  | true =>
   rw [hb] at hi
   simp only [cond_true,Option.some.injEq] at hi
   rw [← Nat.eq_of_beq_eq_true hb,← hi]
   exact NR h.1
  | false=>rw [hb] at hi;exact ih h.2 t i hi
def VC (C:cS) (f:Nat) (fn:Func):Bool :=
 match fn.body with
 | some c=>eL (oV C f fn.ntmps) c && !(fn.name == "runtime.NumGoroutine")
 | none=>true
def Ak (C:cS):Nat→List Func→Bool
 | _,[]=>true
 | n,fn :: r=>VC C n fn && Ak C (n+1) r
theorem B4 {C:cS}:∀ {n:Nat} {l:List Func},Ak C n l=true→∀ (j:Nat) (fn:Func),l[j]?=some fn→VC C (n+j) fn=true
 | n,[],_,j,fn,h=>by simp at h
 | n,g :: r,h,j,fn,hf=>by
  simp only [Ak,Bool.and_eq_true] at h
  cases j with
  | zero=>simp at hf;subst hf;exact h.1
  | succ j =>
   have:=B4 h.2 j fn (by simpa using hf)
   rw [show n+1+j=n+(j+1) by omega] at this
   exact this
theorem Fit.of {C:cS} {P:Program} {tab:List (Nat×Ty)} (hC:C.ty=jG tab) (h1:tab.all (fun p=>NQ P p.1 p.2)=true) (h2:Ak C 0 P.funcs.toList=true) (h3:P.follows .mixedOrders=true)
  (h4:∀ (f:Nat) (fn:Func),P.funcs[f]?=some fn→fn.body=none→(fn.name == "internal/bytealg.IndexByteString")=true→∀ (s:ByteArray) (c:Int) (w:World),(callFunc f #[.string s, .int .u8 c]).run P w=.ok (.value (.int .i64 (Lib.indexByte s.data.toList c.toNat.toUInt8))) w)
  (h5:∀ (g:Nat) (G:List AV→Option AV),C.gv g=some G→(C.own g).all Option.isNone=true→∀ (args:List AV) (r:AV),G args=some r→∀ (w:World) (F:Nat→Prop) (vs:Array Value),aN C w F→vs.size=args.length →
   (∀ (j:Nat) (a:AV) (v:Value),args[j]?=some a→vs[j]?=some v→Rel w F a v)→dJ P g vs w (fU C g w F r):=by intro g G h;exact nomatch (show (none:Option (List AV→Option AV))=some G from h)):Fit C P:=by
 have hf:∀ (f:Nat) (fn:Func) (c:Code),P.funcs[f]?=some fn→fn.body=some c→eL (oV C f fn.ntmps) c=true∧(fn.name == "runtime.NumGoroutine")=false:=by
  intro f fn c gC hb
  have:=B4 h2 f fn (by rw [Array.getElem?_toList];exact gC)
  rw [Nat.zero_add] at this
  unfold VC at this
  rw [hb] at this
  simp only [Bool.and_eq_true,Bool.not_eq_true'] at this
  exact this
 exact { ty:=fun t i hi=>NT h1 t i (by rw [← hC];exact hi),code:=fun f fn c h1 h2=>(hf f fn c h1 h2).1,mixed:=h3,name:=fun f fn c h1 h2=>(hf f fn c h1 h2).2,gv:=h5,ext:=h4 }
def FW (n:Nat):Nat→List Func→Bool
 | _,[]=>true
 | m,fn :: r=>(fn.body.isSome || !(fn.name == "internal/bytealg.IndexByteString") || Nat.beq m n) && FW n (m+1) r
theorem B5 {n:Nat}:∀ {m:Nat} {l:List Func},FW n m l=true→∀ (j:Nat) (fn:Func),l[j]?=some fn→fn.body=none→(fn.name == "internal/bytealg.IndexByteString")=true→m+j=n
 | m,[],_,j,fn,h,_,_=>by simp at h
 | m,g :: r,h,j,fn,hf,hb,hn=>by
  simp only [FW,Bool.and_eq_true] at h
  cases j with
  | zero =>
   simp at hf
   subst hf
   have:=h.1
   rw [hb,hn] at this
   simp only [Option.isSome_none,Bool.not_true,Bool.or_self,Bool.false_or] at this
   exact Nat.eq_of_beq_eq_true this
  | succ j =>
   have:=B5 h.2 j fn (by simpa using hf) hb hn
   omega
theorem Al {P:Program} {n:Nat} (bP:FW n 0 P.funcs.toList=true) (a8:∀ (s:ByteArray) (c:Int) (w:World),(callFunc n #[.string s, .int .u8 c]).run P w=.ok (.value (.int .i64 (Lib.indexByte s.data.toList c.toNat.toUInt8))) w) :
  ∀ (f:Nat) (fn:Func),P.funcs[f]?=some fn→fn.body=none→(fn.name == "internal/bytealg.IndexByteString")=true→∀ (s:ByteArray) (c:Int) (w:World),(callFunc f #[.string s, .int .u8 c]).run P w=.ok (.value (.int .i64 (Lib.indexByte s.data.toList c.toNat.toUInt8))) w:=by
 intro f fn gC hb hn
 have:=B5 bP f fn (by rw [Array.getElem?_toList];exact gC) hb hn
 rw [Nat.zero_add] at this
 rw [this]
 exact a8
theorem JX {P:Program} {n:Nat} {fn:Func} (h1:P.funcs[n]?=some fn) (h2:(fn.name == "runtime.NumGoroutine")=false) (h3:fn.body=none) (h4:(Extern.findNext fn).isNone=true) (h5:Extern.find fn=some Extern.BytealgIndexByte.indexByte) (s:ByteArray) (c:Int) (w:World) :
  (callFunc n #[.string s, .int .u8 c]).run P w=.ok (.value (.int .i64 (Lib.indexByte s.data.toList c.toNat.toUInt8))) w:=by
 have h2':¬ fn.name = "runtime.NumGoroutine" := by simpa using h2
 have VD:Extern.findNext fn=none:=by simpa using h4
 simp [callFunc,h1,h2',h3,VD,h5,Lib.run_indexByteString]
end Sx
namespace Sx
open Go Go.RowKit
theorem Am {C:cS} {P:Program} (dB:Fit C P) {g:Nat} {fn:Func} {c:Code} (gC:P.funcs[g]?=some fn) (hb:fn.body=some c) (ho:(C.own g).all Option.isNone=true) (hs:C.sig g=none) {args:List AV} {b:Bool} (h:ae C P g args=some (.b b))
  (w:World) (F:Nat→Prop) (vs:Array Value) (hG:aN C w F) (hl:vs.size=args.length) (hv:∀ (j:Nat) (a:AV) (v:Value),args[j]?=some a→vs[j]?=some v→Rel w F a v) :
  Calls P g vs w (fun e w'=>e=.returned (.bool b)∧Below w.heap.size w w'):=by
 have rY:=dB.name g fn c gC hb
 rcases (gQ dB).1 g args _ h hs w F vs hG hl hv with ⟨Vq,c',_,_,_,hc⟩ | ⟨v,oQ,_⟩
 ·refine Calls.mono hc fun e w' he=>?_
  obtain ⟨v,rfl,hx,hr⟩:=he
  unfold eV at hr
  rw [if_pos ho] at hr
  cases hr
  exact ⟨rfl,⟨hx.os,hx.tape,hx.output,hx.size,hx.block⟩⟩
 ·exfalso
  have mK:¬ fn.name = "runtime.NumGoroutine" := by simpa using rY
  simp [callFunc,gC,hb,mK] at oQ
end Sx
namespace Sx
open Go
variable {C:cS} {P:Program}
end Sx
namespace Sx
open Go
section cond
variable {R:Type}
@[simp] theorem ai (x:Bool) (A B:Option R):ah (.b x) A B=if x=true then A else B:=by cases x <;> rfl
@[simp] theorem iC (b:Bool) (A:AV):aq (.b true) true (some (.b b)) A=some (.b b):=rfl
@[simp] theorem eZ (A:Option AV) (b:Bool):aq (.b false) true A (.b b)=some (.b b):=rfl
@[simp] theorem T3 (b:Bool) (A:AV):aq (.b false) false (some (.b b)) A=some (.b b):=rfl
@[simp] theorem T4 (A:Option AV) (b:Bool):aq (.b true) false A (.b b)=some (.b b):=rfl
@[simp] theorem ax (x y:Bool):aq (.b x) true (some (.b y)) (.b false)=some (.b (x && y)):=by cases x <;> rfl
@[simp] theorem aI (x y:Bool):aq (.b x) false (some (.b y)) (.b true)=some (.b (x || y)):=by cases x <;> rfl
end cond
section one
@[simp] theorem eI (x:UInt8):AV.one (.u8 x)=some (.u8 x):=rfl
@[simp] theorem Yh (x:Bool):AV.one (.b x)=some (.b x):=rfl
@[simp] theorem fH (x:Int):AV.one (.int x)=some (.int x):=rfl
@[simp] theorem VE (k:IntKind) (x:Int):AV.one (.ik k x)=some (.ik k x):=rfl
@[simp] theorem jY (x:List UInt8):AV.one (.s x)=some (.s x):=rfl
@[simp] theorem Rg:AV.one .aC=some .aC:=rfl
@[simp] theorem FX (k:Nat) (l:List AV):AV.one (.ro k l)=some (.ro k l):=rfl
@[simp] theorem B6 (x:UInt8):AV.cell (.u8 x) 0=.u8 x:=rfl
@[simp] theorem VF (x:Bool):AV.cell (.b x) 0=.b x:=rfl
@[simp] theorem yC (x:Int):AV.cell (.int x) 0=.int x:=rfl
@[simp] theorem T5 (k:IntKind) (x:Int):AV.cell (.ik k x) 0=.ik k x:=rfl
@[simp] theorem FY (x:List UInt8):AV.cell (.s x) 0=.s x:=rfl
@[simp] theorem T6 (k:Nat) (l:List AV):AV.cell (.ro k l) 0=.ro k l:=rfl
@[simp] theorem Qg:AV.cell .aC 0=.aC:=rfl
@[simp] theorem JY (l:List AV) (j:Nat):AV.cell (.ag l) j=l.getD j .un:=by cases j <;> rfl
end one
section num
theorem yD (x:UInt8):x.toNat < 256:=x.toNat_lt
theorem An {n:Nat} (h:n < 256):AV.xH .u8 (n:Int)=some (.u8 (UInt8.ofNat n)):=by
 unfold AV.xH
 rw [if_pos ⟨by omega,by omega⟩]
 simp
@[simp] theorem T7 (n:Int):AV.xH .i64 n=some (.int n):=rfl
@[simp] theorem cG (x y:UInt8):aD .eql (.u8 x) (.u8 y)=some (.b (x == y)):=by
 show some (AV.b ((x.toNat:Int) == (y.toNat:Int)))=_
 congr 2
 rw [Bool.eq_iff_iff]
 simp only [beq_iff_eq,Int.ofNat_inj]
 exact ⟨fun h=>UInt8.toNat_inj.1 h,fun h=>by rw [h]⟩
@[simp] theorem vQ (x y:UInt8):aD .neq (.u8 x) (.u8 y)=some (.b (x != y)):=by
 show some (AV.b ((x.toNat:Int) != (y.toNat:Int)))=_
 congr 2
 rw [Bool.eq_iff_iff]
 simp only [bne_iff_ne,ne_eq,Int.ofNat_inj]
 exact ⟨fun h e=>h (by rw [e]),fun h e=>h (UInt8.toNat_inj.1 e)⟩
@[simp] theorem FZ (x y:UInt8):aD .lss (.u8 x) (.u8 y)=some (.b (decide (x < y))):=by
 show some (AV.b (decide ((x.toNat:Int) < (y.toNat:Int))))=_
 congr 2
 rw [decide_eq_decide,UInt8.lt_iff_toNat_lt];omega
@[simp] theorem vR (x y:UInt8):aD .leq (.u8 x) (.u8 y)=some (.b (decide (x≤y))):=by
 show some (AV.b (decide ((x.toNat:Int)≤(y.toNat:Int))))=_
 congr 2
 rw [decide_eq_decide,UInt8.le_iff_toNat_le];omega
@[simp] theorem F4 (x y:UInt8):aD .gtr (.u8 x) (.u8 y)=some (.b (decide (y < x))):=by
 show some (AV.b (decide ((x.toNat:Int) > (y.toNat:Int))))=_
 congr 2
 rw [decide_eq_decide,UInt8.lt_iff_toNat_lt];omega
@[simp] theorem vS (x y:UInt8):aD .geq (.u8 x) (.u8 y)=some (.b (decide (y≤x))):=by
 show some (AV.b (decide ((x.toNat:Int) ≥ (y.toNat:Int))))=_
 congr 2
 rw [decide_eq_decide,UInt8.le_iff_toNat_le];omega
@[simp] theorem VG (k:IntKind) (x y:Int):aD .eql (.ik k x) (.ik k y)=some (.b (x == y)):=by
 show (if k=k then um .eql k x y else none)=_
 rw [if_pos rfl];rfl
@[simp] theorem aZ (x y:Int):aD .eql (.int x) (.int y)=some (.b (x == y)):=rfl
@[simp] theorem gi (x y:Int):aD .neq (.int x) (.int y)=some (.b (x != y)):=rfl
@[simp] theorem bm (x y:Int):aD .lss (.int x) (.int y)=some (.b (decide (x < y))):=rfl
@[simp] theorem ly (x y:Int):aD .leq (.int x) (.int y)=some (.b (decide (x≤y))):=rfl
@[simp] theorem vT (x y:Int):aD .gtr (.int x) (.int y)=some (.b (decide (y < x))):=rfl
@[simp] theorem gj (x y:Int):aD .geq (.int x) (.int y)=some (.b (decide (y≤x))):=rfl
theorem wrap_i64 {n:Int} (h1:-9223372036854775808≤n) (h2:n < 9223372036854775808):IntKind.i64.wrap n=n:=by
 simp only [IntKind.wrap,IntKind.bits,IntKind.signed,Bool.true_and]
 split <;> rename_i h <;> simp only [decide_eq_true_eq,ge_iff_le] at h <;> omega
theorem fI {x y:Int} (h1:-9223372036854775808≤x+y) (h2:x+y < 9223372036854775808):aD .add (.int x) (.int y)=some (.int (x+y)):=by
 show some (AV.int (IntKind.i64.wrap (x+y)))=_
 rw [wrap_i64 h1 h2]
theorem JZ {x y:Int} (h1:-9223372036854775808≤x - y) (h2:x - y < 9223372036854775808):aD .sub (.int x) (.int y)=some (.int (x - y)):=by
 show some (AV.int (IntKind.i64.wrap (x - y)))=_
 rw [wrap_i64 h1 h2]
@[simp] theorem iD (x:UInt8):conv .i64 (.u8 x)=some (.int x.toNat):=by
 show some (AV.int (IntKind.i64.wrap (x.toNat:Int)))=_
 have:=yD x
 rw [wrap_i64 (by omega) (by omega)]
theorem wrap_u8 {n:Int} (h1:0≤n) (h2:n < 256):IntKind.u8.wrap n=n:=by
 simp only [IntKind.wrap,IntKind.bits,IntKind.signed,Bool.false_and,Bool.false_eq_true,if_false]
 omega
theorem yE {n:Nat} (h:n < 256):conv .u8 (.int (n:Int))=some (.u8 (UInt8.ofNat n)):=by
 unfold conv
 simp only [AV.mo,Option.bind_some]
 rw [wrap_u8 (by omega) (by omega),An h]
@[simp] theorem NU (x:UInt8):conv .u8 (.u8 x)=some (.u8 x):=by
 have:=yD x
 unfold conv
 simp only [AV.mo,Option.bind_some]
 rw [wrap_u8 (by omega) (by omega),An this,UInt8.ofNat_toNat]
@[simp] theorem bn (x:Bool):unop .not (.b x)=some (.b (!x)):=rfl
end num
section strs
@[simp] theorem nU (p q:List UInt8):cr .eql (.s p) (.s q)=some (.b (p == q)):=rfl
@[simp] theorem Yi (p q:List UInt8):cr .neq (.s p) (.s q)=some (.b (p != q)):=rfl
theorem Rh {p q:List UInt8} (h:p.length+q.length≤nz):cr .add (.s p) (.s q)=some (.s (p ++ q)):=by
 show (if p.length+q.length≤nz then some (AV.s (p ++ q)) else none)=_
 rw [if_pos h]
@[simp] theorem Yj (p q:Bool):zN .eql (.b p) (.b q)=some (.b (p == q)):=rfl
@[simp] theorem Yk (p q:Bool):zN .neq (.b p) (.b q)=some (.b (p != q)):=rfl
@[simp] theorem F5 (l:List UInt8):iO (.s l)=some (.int l.length):=rfl
@[simp] theorem dE (k:Nat) (l:List AV):eP (.ro k l)=some (.int l.length):=rfl
@[simp] theorem Qh:eP .aC=some (.int 0):=rfl
theorem e9 {n i:Nat} (h:i < n):lZ n (.int (i:Int))=some i:=by
 show (if 0≤(i:Int)∧(i:Int) < (n:Int) then some (i:Int).toNat else none)=_
 rw [if_pos ⟨by omega,by omega⟩];simp
theorem B7 {n i:Nat} (h:i≤n):xI n (.int (i:Int))=some i:=by
 show (if 0≤(i:Int)∧(i:Int)≤(n:Int) then some (i:Int).toNat else none)=_
 rw [if_pos ⟨by omega,by omega⟩];simp
theorem fa {l:List UInt8} {i:Nat} (h:i < l.length):df (.s l) (.int (i:Int))=some (.u8 l[i]):=by
 show ((lZ l.length (.int (i:Int))).bind fun n=>some (AV.u8 (l.getD n 0)))=_
 rw [e9 h]
 simp [h]
theorem NV {l:List UInt8} {i:Nat} (h:i < l.length):idx 1 (.ro 1 (l.map .u8)) (.int (i:Int))=some (.u8 l[i]):=by
 show (if 1=1 then (lZ (l.map AV.u8).length (.int (i:Int))).bind fun n=>some ((l.map AV.u8).getD n .un) else none)=_
 rw [if_pos rfl,e9 (by simpa using h)]
 simp [h]
theorem yF (l:List UInt8):bytesOf (l.map .u8)=some l:=by
 induction l with
 | nil=>rfl
 | cons x r ih=>simp [bytesOf,ih]
theorem NW {l:List UInt8} (h:l.length≤nz):BH (.ro 1 (l.map .u8))=some (.s l):=by
 show ((bytesOf (l.map AV.u8)).bind fun p=>if p.length≤nz then some (AV.s p) else none)=_
 rw [yF]
 simp [h]
end strs
end Sx
namespace Sx
open Go
theorem fB {p:UInt8→Bool} (h:(List.range 256).all (fun n=>p (UInt8.ofNat n))=true) (x:UInt8):p x=true:=by
 have:=List.all_eq_true.1 h x.toNat (List.mem_range.2 (yD x))
 simpa using this
theorem D1 {f g:UInt8→Bool} (h:(List.range 256).all (fun n=>f (UInt8.ofNat n) == g (UInt8.ofNat n))=true) (x:UInt8):f x=g x:=by
 simpa using fB (p:=fun x=>f x == g x) h x
def isStr (o:Option AV) (l:List UInt8):Bool :=
 match o with
 | some (.s m)=>m == l
 | _=>false
theorem yG {o:Option AV} {l:List UInt8} (h:isStr o l=true):o=some (.s l):=by
 unfold isStr at h
 split at h
 ·rw [eq_of_beq h]
 ·cases h
def Yl (o:Option AV) (b:Bool):Bool :=
 match o with
 | some (.b c)=>c == b
 | _=>false
theorem NX {o:Option AV} {b:Bool} (h:Yl o b=true):o=some (.b b):=by
 unfold Yl at h
 split at h
 ·rw [eq_of_beq h]
 ·cases h
theorem iE (p:List UInt8) (c:UInt8) (r:List UInt8):df (.s (p ++ c :: r)) (.int (p.length:Int))=some (.u8 c):=by
 rw [fa (by simp)];simp
theorem F6 (p:List UInt8) (c:UInt8) (r:List UInt8):idx 1 (.ro 1 ((p ++ c :: r).map .u8)) (.int (p.length:Int))=some (.u8 c):=by
 rw [NV (by simp)];simp
theorem sm (p:List UInt8) (c:UInt8):((p.length:Int)+1)=((p ++ [c]).length:Int):=by simp
theorem dv (p:List UInt8) (c:UInt8) (r:List UInt8):p ++ c :: r=(p ++ [c]) ++ r:=by simp
theorem vU (p:List UInt8) (c:UInt8) (r:List UInt8):decide ((p.length:Int) < ((p ++ c :: r).length:Int))=true:=by simp;omega
theorem B8 (p:List UInt8) (c:UInt8) (r:List UInt8):decide ((p.length:Int) < (((p ++ c :: r).map AV.u8).length:Int))=true:=by simp;omega
theorem qQ (p:List UInt8):decide ((p.length:Int) < ((p ++ []).length:Int))=false:=by simp
theorem B9 (p:List UInt8):decide ((p.length:Int) < ((p.map AV.u8).length:Int))=false:=by simp
theorem nV (n:Int):decide (n < n)=false:=by simp
end Sx
namespace Sx
def Ri (o:Option AV) (x:UInt8):Bool :=
 match o with
 | some (.u8 m)=>m == x
 | _=>false
theorem J0 {o:Option AV} {x:UInt8} (h:Ri o x=true):o=some (.u8 x):=by
 unfold Ri at h
 split at h
 ·rw [eq_of_beq h]
 ·cases h
end Sx
namespace Sx
open Go
def aK (x y:UInt8):Bool:=(x.toNat:Int) == (y.toNat:Int)
def nW (x y:UInt8):Bool:=(x.toNat:Int) != (y.toNat:Int)
def ult (x y:UInt8):Bool:=decide ((x.toNat:Int) < (y.toNat:Int))
def ule (x y:UInt8):Bool:=decide ((x.toNat:Int)≤(y.toNat:Int))
def ET (x y:UInt8):Bool:=decide ((x.toNat:Int) > (y.toNat:Int))
def J1 (x y:UInt8):Bool:=decide ((x.toNat:Int) ≥ (y.toNat:Int))
def bJ (n:Int):Int:=IntKind.i64.wrap n
@[simp] theorem aJ (x y:UInt8):aK x y=(x == y):=by
 have:=cG x y
 have h:aD .eql (.u8 x) (.u8 y)=some (.b (aK x y)):=rfl
 rw [h] at this;simpa using this
@[simp] theorem cy (x y:UInt8):nW x y=(x != y):=by
 have:=vQ x y
 have h:aD .neq (.u8 x) (.u8 y)=some (.b (nW x y)):=rfl
 rw [h] at this;simpa only [Option.some.injEq,AV.b.injEq] using this
@[simp] theorem dK (x y:UInt8):ult x y=decide (x < y):=by
 have:=FZ x y
 have h:aD .lss (.u8 x) (.u8 y)=some (.b (ult x y)):=rfl
 rw [h] at this;simpa only [Option.some.injEq,AV.b.injEq] using this
@[simp] theorem dm (x y:UInt8):ule x y=decide (x≤y):=by
 have:=vR x y
 have h:aD .leq (.u8 x) (.u8 y)=some (.b (ule x y)):=rfl
 rw [h] at this;simpa only [Option.some.injEq,AV.b.injEq] using this
@[simp] theorem ec (x y:UInt8):ET x y=decide (y < x):=by
 have:=F4 x y
 have h:aD .gtr (.u8 x) (.u8 y)=some (.b (ET x y)):=rfl
 rw [h] at this;simpa only [Option.some.injEq,AV.b.injEq] using this
@[simp] theorem cX (x y:UInt8):J1 x y=decide (y≤x):=by
 have:=vS x y
 have h:aD .geq (.u8 x) (.u8 y)=some (.b (J1 x y)):=rfl
 rw [h] at this;simpa only [Option.some.injEq,AV.b.injEq] using this
theorem cH {n:Int} (h1:-9223372036854775808≤n) (h2:n < 9223372036854775808):bJ n=n:=wrap_i64 h1 h2
@[simp] theorem gR (x:UInt8):bJ (x.toNat:Int)=x.toNat:=by have:=yD x;exact cH (by omega) (by omega)
theorem lz (p:List UInt8) (c:UInt8) (r:List UInt8) (h:(p ++ c :: r).length < 9223372036854775808):bJ ((p.length:Int)+1)=((p ++ [c]).length:Int):=by
 simp at h
 rw [cH (by omega) (by omega),sm p c]
end Sx
namespace Sx
open Go
theorem Ao (x y:UInt8):aD .add (.u8 x) (.u8 y)=some (.u8 (x+y)):=by
 unfold aD um
 simp only [AV.mo,Option.bind_some,if_true]
 have h:IntKind.u8.wrap ((x.toNat:Int)+(y.toNat:Int))=(((x.toNat+y.toNat) % 256:Nat):Int):=by
  simp only [IntKind.wrap,IntKind.bits,IntKind.signed,Bool.false_and,Bool.false_eq_true,if_false]
  omega
 rw [h,An (by omega)]
 congr 2
 apply UInt8.toNat_inj.1
 rw [UInt8.toNat_add,UInt8.toNat_ofNat_of_lt' (by show _ < 256;omega)]
theorem Rj (x y:UInt8):mm true (.u8 x) (.u8 y)=some (.u8 (if y < x then y else x)):=rfl
abbrev gt (l:List AV) (i:Nat):AV:=l.getD i .un
def cT (a b:UInt8) (d:Bool) (e f g i:UInt8) (j:Bool) (k:UInt8) (l:List UInt8):List Cell:=[.val (.u8 a), .val (.u8 b), .val (.b d), .val (.u8 e), .val (.u8 f), .val (.u8 g), .val (.u8 i), .val (.b j), .val (.u8 k), .val (.s l)]
def cV (a b d e f g i j k l:AV):List Cell:=[.val a, .val b, .val d, .val e, .val f, .val g, .val i, .val j, .val k, .val l]
def cN (a b d e f g i j k:AV):List Cell:=[.val a, .val b, .val d, .val e, .val f, .val g, .val i, .val j, .val k]
theorem ak {C:cS} {P:Program} {f:Nat} {fn:Func} {k:List Item} {st:St} {r:AV} {X:al→RunT→Option AV} (hx:∀ call run,step C call f fn (NN C call run f fn 400) k st=X call run) (h:X (ae C P) (af C P f fn)=some r):af C P f fn k st=some r :=
 Aj 400 ((hx _ _).trans h)
theorem aj {C:cS} {P:Program} {g:Nat} {fn:Func} {xs:List AV} {r:AV} {X:al→RunT→Option AV} (hx:∀ call run,NN C call run g fn 400 [.code ((fn.body).getD .skip)] (l5 C g fn.ntmps xs)=X call run) (h:X (ae C P) (af C P g fn)=some r)
  (gC:P.funcs[g]?=some fn:=by kernel_rfl) (hb:fn.body=some ((fn.body).getD .skip):=by kernel_rfl) (hl:l6 C g fn.ntmps xs.length=true:=by kernel_rfl) (xK:C.gv g=none:=by rfl):ae C P g xs=some r :=
 yA gC hb 400 hl ((hx _ _).trans h) xK
end Sx
namespace Sx
open Go Go.RowKit Go.WideShapes
inductive Lf where
 | b | u8 | int | ik (k:IntKind) | s | sl (agg:Bool) (ls:List Lf)
inductive Is:Lf→AV→Prop
 | b (x:Bool):Is .b (.b x)
 | u8 (x:UInt8):Is .u8 (.u8 x)
 | int (n:Int) (h:(Lit.int .i64 n).wf=true):Is .int (.int n)
 | ik (k:IntKind) (n:Int) (h:(Lit.int k n).wf=true):Is (.ik k) (.ik k n)
 | s (l:List UInt8) (h:l.length≤maxLen):Is .s (.s l)
 | Ym (lf:Lf) (l:List AV) (h:∀ x ∈ l,Is lf x) (hm:l.length≤maxLen):Is (.sl false [lf]) (.ro 1 l)
 | Yn (ls:List Lf) (ms:List (List AV)) (hl:∀ m ∈ ms,m.length=ls.length) (h:∀ m ∈ ms,∀ (j:Nat) (a:Lf) (x:AV),ls[j]?=some a→m[j]?=some x→Is a x) (hm:ms.length≤maxLen):Is (.sl true ls) (.ro ls.length (ms.map .ag))
mutual
def wt:AV→Nat
 | .s l=>l.length+1
 | .ro _ l=>qD l+1
 | .ag l=>qD l
 | _=>1
def qD:List AV→Nat
 | []=>0
 | x :: r=>wt x+qD r
end
mutual
def bulk {H:Type}:DataW H→Nat
 | .lit (.string bytes)=>bytes.length+1
 | .lit _=>1
 | .nil=>1
 | .ptr d=>bulk d+1
 | .slice elems spare=>dS elems+dS spare+1
 | .agg parts=>dS parts+1
 | .iface _ d=>bulk d+1
 | .map entries=>pY entries+1
 | .held _=>1
def dS {H:Type}:List (DataW H)→Nat
 | []=>0
 | d :: r=>bulk d+dS r
def pY {H:Type}:List (Lit×DataW H)→Nat
 | []=>0
 | x :: r=>D2 x+pY r
def D2 {H:Type}:Lit×DataW H→Nat
 | (.string bytes,d)=>bytes.length+bulk d+1
 | (_,d)=>bulk d+1
end
theorem Ap (l m:List AV):qD (l ++ m)=qD l+qD m:=by
 induction l with
 | nil=>simp [qD]
 | cons x r ih=>simp only [List.cons_append,qD,ih];omega
section leaves
variable (P:Program)
def oW (t:TypeId):Bool:=match P.underlying t with | some (.struct _)=>true | _=>false
mutual
def leaves:Nat→TypeId→Option (List Lf)
 | 0,_=>none
 | n+1,t=>match P.underlying t with
  | some .bool=>some [.b]
  | some (.int k)=>match k with
   | .u8=>some [.u8]
   | .i64=>some [.int]
   | k=>some [.ik k]
  | some .string=>some [.s]
  | some (.slice e)=>(leaves n e).bind fun ls=>bif Nat.beq ls.length (P.cellsOf e) && Nat.blt 0 ls.length && (oW P e || Nat.beq ls.length 1) then some [.sl (oW P e) ls] else none
  | some (.struct fs)=>(lA n fs.toList 0).bind fun ls=>bif Nat.beq ls.length (P.cellsOf t) then some ls else none
  | _=>none
def lA:Nat→List Field→Nat→Option (List Lf)
 | 0,_,_=>none
 | _+1,[],_=>some []
 | n+1,f :: r,off=>(leaves n f.type).bind fun ls=>bif Nat.beq f.offset off && Nat.beq ls.length (P.cellsOf f.type) then (lA n r (off+ls.length)).map (ls ++ ·) else none
end
end leaves
structure cO (w:World) (ls:List Lf) (cs:List Value) (as:List AV):Prop where
 yH:as.length=ls.length
 J3:cs.length=ls.length
 one:∀ v ∈ cs,v.oneCell'=true
 rel:∀ (j:Nat) (v:Value),cs[j]?=some v→Rel w (fun _=>True) (as.getD j .un) v
 is:∀ (j:Nat) (lf:Lf) (a:AV),ls[j]?=some lf→as[j]?=some a→Is lf a
theorem cO.nil (w:World):cO w [] [] []:=⟨rfl,rfl,fun v h=>(by cases h),fun j v h=>(by simp at h),fun j lf a h=>(by simp at h)⟩
theorem cO.single {w:World} {lf:Lf} {v:Value} {a:AV} (h1:v.oneCell'=true) (h2:Rel w (fun _=>True) a v) (h3:Is lf a):cO w [lf] [v] [a]:=by
 refine ⟨rfl,rfl,fun u h=>?_,fun j u h=>?_,fun j l x hl hx=>?_⟩
 ·simp at h;subst h;exact h1
 ·cases j with
  | zero=>simp at h;subst h;exact h2
  | succ j=>simp at h
 ·cases j with
  | zero=>simp at hl hx;subst hl;subst hx;exact h3
  | succ j=>simp at hl
theorem cO.append {w:World} {ls kG:List Lf} {cs ud:List Value} {as Yo:List AV} (h:cO w ls cs as) (h':cO w kG ud Yo):cO w (ls ++ kG) (cs ++ ud) (as ++ Yo):=by
 have e1:=h.yH;have e2:=h.J3
 refine ⟨by simp [h.yH,h'.yH],by simp [h.J3,h'.J3],fun v hv=>?_,fun j v hv=>?_,fun j lf a hl ha=>?_⟩
 ·rcases List.mem_append.1 hv with hv | hv
  ·exact h.one v hv
  ·exact h'.one v hv
 ·by_cases hj:j < cs.length
  ·rw [List.getElem?_append_left hj] at hv
   have:=h.rel j v hv
   rwa [List.getD_eq_getElem?_getD,List.getElem?_append_left (by omega),← List.getD_eq_getElem?_getD]
  ·rw [List.getElem?_append_right (by omega)] at hv
   have:=h'.rel _ v hv
   rwa [List.getD_eq_getElem?_getD,List.getElem?_append_right (by omega),show j - as.length=j - cs.length by omega,← List.getD_eq_getElem?_getD]
 ·by_cases hj:j < ls.length
  ·rw [List.getElem?_append_left hj] at hl
   rw [List.getElem?_append_left (by omega)] at ha
   exact h.is j lf a hl ha
  ·rw [List.getElem?_append_right (by omega)] at hl
   rw [List.getElem?_append_right (by omega),show j - as.length=j - ls.length by omega] at ha
   exact h'.is _ lf a hl ha
theorem sn {w:World} {base:Nat} {a:Addr} {n:Nat} {cs:List Value} (h:w.cells? base a n=some cs):cs.length=n∧∀ (j:Nat) (v:Value),cs[j]?=some v→w.cell? (a.add j)=some v:=by
 unfold World.cells? at h
 split at h
 ·have hl:=mapM_some_length h
  simp at hl
  refine ⟨hl,fun j v hv=>?_⟩
  have hj:j < n:=by have:=(List.getElem?_eq_some_iff.1 hv).1;omega
  have:=mapM_some_get h j j (by simp [hj])
  rw [this,hv]
 ·cases h
theorem pZ {α:Type} {p:Nat→α→Prop}:∀ n:Nat,(∀ i,i < n→∃ a,p i a)→∃ L:List α,L.length=n∧∀ i a,L[i]?=some a→p i a
 | 0,_=>⟨[],rfl,fun i a h=>(by simp at h)⟩
 | n+1,h=>by
  obtain ⟨L,hl,hL⟩:=pZ n (fun i hi=>h i (by omega))
  obtain ⟨a,ha⟩:=h n (by omega)
  refine ⟨L ++ [a],by simp [hl],fun i x hx=>?_⟩
  by_cases hi:i < L.length
  ·rw [List.getElem?_append_left hi] at hx;exact hL i x hx
  ·rw [List.getElem?_append_right (by omega)] at hx
   have U5:i - L.length=0:=by
    have:=(List.getElem?_eq_some_iff.1 hx).1
    simp at this;omega
   rw [U5] at hx
   simp at hx
   rw [← hx,show i=n by omega]
   exact ha
theorem yI {H:Type}:∀ {L:List (List AV)} {ds:List (DataW H)},L.length=ds.length→(∀ (i:Nat) (as:List AV) (d:DataW H),L[i]?=some as→ds[i]?=some d→qD as≤bulk d)→qD (L.map .ag)≤dS ds
 | [],[],_,_=>Nat.le_refl _
 | as :: L,d :: ds,hl,h=>by
  have h0:=h 0 as d rfl rfl
  have:=yI (L:=L) (ds:=ds) (by simpa using hl) (fun i a x h1 h2=>h (i+1) a x (by simpa using h1) (by simpa using h2))
  simp only [List.map_cons,qD,wt,dS]
  omega
 | [],_ :: _,hl,_=>by simp at hl
 | _ :: _,[],hl,_=>by simp at hl
theorem uH {H:Type}:∀ {L:List (List AV)} {ds:List (DataW H)},L.length=ds.length→(∀ (i:Nat) (as:List AV) (d:DataW H),L[i]?=some as→ds[i]?=some d→qD as≤bulk d∧as.length=1)→qD (L.map (·.getD 0 .un))≤dS ds
 | [],[],_,_=>Nat.le_refl _
 | as :: L,d :: ds,hl,h=>by
  obtain ⟨h0,h1⟩:=h 0 as d rfl rfl
  have:=uH (L:=L) (ds:=ds) (by simpa using hl) (fun i a x h1 h2=>h (i+1) a x (by simpa using h1) (by simpa using h2))
  cases as with
  | nil=>simp at h1
  | cons x r =>
   have:r=[]:=List.eq_nil_of_length_eq_zero (by simpa using h1)
   subst this
   simp only [qD] at h0
   simp only [List.map_cons,qD,dS,List.getD_cons_zero]
   omega
 | [],_ :: _,hl,_=>by simp at hl
 | _ :: _,[],hl,_=>by simp at hl
theorem Is.Rk {lf:Lf} {a:AV} (h:Is lf a):∀ j,j < 1→a.cell j=a:=by
 intro j hj
 obtain rfl:j=0:=by omega
 cases h <;> rfl
section J4
variable {H:Type} {enc:TypeId×Value→H} {P:Program} {w:World} {base:Nat} {spare:Nat→Bool} {held:Bool}
theorem qa:∀ n:Nat,(∀ (t:TypeId) (ls:List Lf) (fuel:Nat) (cs:List Value) (x:DataW H×List MemPlace),leaves P n t=some ls→DataW.trod enc P w base spare held fuel t cs=some x→∃ as,cO w ls cs as∧qD as≤bulk x.1) ∧
  (∀ (fs:List Field) (off:Nat) (ls:List Lf) (fuel:Nat) (cs:List Value) (xs:List (DataW H×List MemPlace)),lA P n fs off=some ls→xs.length=fs.length→cs.length=off+ls.length →
   (∀ (i:Nat) (f:Field),fs[i]?=some f→DataW.trod enc P w base spare held fuel f.type ((cs.drop f.offset).take (P.cellsOf f.type))=xs[i]?)→∃ as,cO w ls (cs.drop off) as∧qD as≤dS (xs.map (·.1)))
 | 0=>⟨fun t ls fuel cs x h=>(by simp [leaves] at h),fun fs off ls fuel cs xs h=>(by simp [lA] at h)⟩
 | n+1=>by
  obtain ⟨Yp,Yq⟩:=qa n
  refine ⟨fun t ls fuel cs x h ht=>?_,fun fs off ls fuel cs xs h hl hc hx=>?_⟩
  ·simp only [leaves] at h
   cases hu:P.underlying t with
   | none=>rw [hu] at h;cases h
   | some d =>
    rw [hu] at h
    cases d <;> simp only at h <;> try (cases h;done)
    case bool =>
     cases h
     obtain ⟨b,rfl,rfl⟩:=DataW.trod_bool hu ht
     exact ⟨[.b b],cO.single rfl (.b b) (.b b),Nat.le_refl _⟩
    case int k =>
     obtain ⟨m,rfl,rfl,hw⟩:=DataW.trod_int hu ht
     cases k <;> simp only at h <;> cases h <;> first
      | exact ⟨[.int m],cO.single rfl (.int m) (.int m hw),Nat.le_refl _⟩
      | exact ⟨[.ik _ m],cO.single rfl (.ik _ m) (.ik _ m hw),Nat.le_refl _⟩
      | skip
     have hb:0≤m∧m < 256:=by
      simp only [Lit.wf,Bool.and_eq_true,decide_eq_true_eq] at hw
      have h1:IntKind.u8.min=0:=rfl
      have h2:IntKind.u8.max=255:=rfl
      omega
     refine ⟨[.u8 (UInt8.ofNat m.toNat)],cO.single rfl ?_ (.u8 _),Nat.le_refl _⟩
     have:=Rel.u8 (w:=w) (F:=fun _=>True) (UInt8.ofNat m.toNat)
     rw [UInt8.toNat_ofNat_of_lt' (by show m.toNat < 256;omega)] at this
     rwa [show ((m.toNat:Nat):Int)=m by omega] at this
    case string =>
     cases h
     obtain ⟨s,rfl,rfl,hs⟩:=DataW.trod_string hu ht
     exact ⟨[.s s.data.toList],cO.single rfl (.s s) (.s _ (by simpa using hs)),Nat.le_refl _⟩
    case slice e =>
     obtain ⟨kG,II,h⟩:=Option.bind_eq_some_iff.1 h
     cases hb:(Nat.beq kG.length (P.cellsOf e) && Nat.blt 0 kG.length && (oW P e || Nat.beq kG.length 1)) with
     | false=>rw [hb] at h;cases h
     | true =>
      rw [hb] at h
      simp only [cond_true,Option.some.injEq] at h
      subst h
      simp only [Bool.and_eq_true,Bool.or_eq_true] at hb
      obtain ⟨⟨b1,b2⟩,b3⟩:=hb
      have b1:=Nat.eq_of_beq_eq_true b1
      have b2:0 < kG.length:=by simpa [Nat.blt_eq] using b2
      rcases DataW.trod_slice hu ht with ⟨rfl,rfl⟩ | ⟨a,len,cap,elems,rest,m,rfl,rfl,rfl,_,hlc,TP,Aq,qz,_,_⟩
      ·cases cq:oW P e with
       | true=>exact ⟨[.ro kG.length []],cO.single rfl (.tS _ none 0) (.Yn kG [] (fun _ h=>by cases h) (fun _ h=>by cases h) (Nat.zero_le _)),Nat.le_refl _⟩
       | false =>
        rw [cq] at b3
        have b4:kG.length=1:=by
         rcases b3 with h | h
         ·cases h
         ·exact Nat.eq_of_beq_eq_true h
        obtain ⟨lf,rfl⟩:∃ lf,kG=[lf]:=by
         cases kG with
         | nil=>simp at b4
         | cons lf r=>exact ⟨lf,by rw [List.eq_nil_of_length_eq_zero (l:=r) (by simpa using b4)]⟩
        exact ⟨[.ro 1 []],cO.single rfl (.tS _ none 0) (.Ym lf [] (fun _ h=>by cases h) (Nat.zero_le _)),Nat.le_refl _⟩
      ·
       have Rl:∀ i,i < len→∃ as,∃ (cs:List Value) (d:DataW H),w.cells? base (a.add (i * P.cellsOf e)) (P.cellsOf e)=some cs∧(elems.map (·.1))[i]?=some d∧cO w kG cs as∧qD as≤bulk d:=by
        intro i hi
        have h1:=qz i hi
        have h2:elems[i]?=some elems[i]:=List.getElem?_eq_getElem (by omega)
        rw [h2] at h1
        obtain ⟨cs,ea,TS⟩:=Option.bind_eq_some_iff.1 h1
        obtain ⟨as,ho,hle⟩:=Yp e kG m cs _ II TS
        exact ⟨as,cs,_,ea,by simp [h2],ho,hle⟩
       obtain ⟨L,hL,hp⟩:=pZ len Rl
       have Yr:L.length=(elems.map (·.1)).length:=by simp;omega
       have J5:∀ (i:Nat) (as:List AV),L[i]?=some as→as.length=kG.length∧∀ d,(elems.map (·.1))[i]?=some d→qD as≤bulk d:=by
        intro i as hi
        obtain ⟨cs,d,_,hd,ho,hle⟩:=hp i as hi
        exact ⟨ho.yH,fun d' EN=>by rw [hd] at EN;cases EN;exact hle⟩
       have key:∀ (F:List AV→AV),(∀ (i:Nat) (as:List AV) (j:Nat),L[i]?=some as→j < kG.length→(F as).cell j=as.getD j .un)→Rel w (fun _=>True) (.ro kG.length (L.map F)) (.slice (some a) len cap):=by
        intro F hF
        by_cases h0:len=0
        ·subst h0
         rw [List.eq_nil_of_length_eq_zero hL]
         exact .tS _ _ _
        ·have JS:a.spot=none:=by
          obtain ⟨as,cs,d,ea,hd,ho,hle⟩:=Rl 0 (by omega)
          obtain ⟨jx,VH⟩:=sn ea
          have h1:cs[0]?=some cs[0]:=List.getElem?_eq_getElem (by omega)
          have h2:=VH 0 _ h1
          have:=World.cell?_spot h2
          simpa [Addr.add] using this
         obtain ⟨r,off,sp⟩:=a
         simp only at JS
         subst JS
         have eK:∀ i j,i < len→j < kG.length→∃ (as:List AV) (v:Value),L[i]?=some as∧w.cell? ⟨r,off+(i * kG.length+j),none⟩=some v∧v.oneCell'=true∧Rel w (fun _=>True) (as.getD j .un) v:=by
          intro i j hi hj
          have eQ:L[i]?=some L[i]:=List.getElem?_eq_getElem (by omega)
          obtain ⟨cs,d,ea,hd,ho,hle⟩:=hp i _ eQ
          obtain ⟨jx,VH⟩:=sn ea
          have h1:cs[j]?=some cs[j]:=List.getElem?_eq_getElem (by omega)
          refine ⟨_,_,eQ,?_,ho.one _ (List.getElem_mem (by omega)),ho.rel j _ h1⟩
          have h2:=VH j _ h1
          rw [add_plain,add_plain,← b1] at h2
          rw [← Nat.add_assoc]
          exact h2
         have:=Rel.ro (w:=w) (F:=fun _=>True) kG.length (L.map F) r off cap ((List.range (len * kG.length)).map fun m=>(w.cell? ⟨r,off+m,none⟩).getD undef) b2 (by simp;omega) trivial (by simp [hL]) ?_ ?_ ?_
         ·simpa [hL] using this
         ·intro j v hj
          have aM:=(List.getElem?_eq_some_iff.1 hj).1
          simp only [List.length_map,List.length_range] at aM
          simp only [List.getElem?_map,List.getElem?_range aM,Option.map_some,Option.some.injEq] at hj
          have hq:j / kG.length < len:=Nat.div_lt_of_lt_mul (by rw [Nat.mul_comm];exact aM)
          have hr:=Nat.mod_lt j b2
          obtain ⟨as,u,_,hc,_,_⟩:=eK _ _ hq hr
          rw [Nat.mul_comm,Nat.div_add_mod] at hc
          rw [hc] at hj ⊢
          simpa using hj
         ·intro v hv
          obtain ⟨j,hj,rfl⟩:=List.mem_map.1 hv
          have aM:=List.mem_range.1 hj
          have hq:j / kG.length < len:=Nat.div_lt_of_lt_mul (by rw [Nat.mul_comm];exact aM)
          have hr:=Nat.mod_lt j b2
          obtain ⟨as,u,_,hc,h1,_⟩:=eK _ _ hq hr
          rw [Nat.mul_comm,Nat.div_add_mod] at hc
          rw [hc]
          exact h1
         ·intro i j v hi hj hv
          simp only [List.length_map] at hi
          obtain ⟨as,u,T8,hc,h1,iT⟩:=eK i j (by omega) hj
          have aM:=(List.getElem?_eq_some_iff.1 hv).1
          simp only [List.length_map,List.length_range] at aM
          simp only [List.getElem?_map,List.getElem?_range aM,Option.map_some,Option.some.injEq] at hv
          rw [hc] at hv
          simp only [Option.getD_some] at hv
          subst hv
          rw [show (L.map F).getD i .un=F as by simp [List.getD_eq_getElem?_getD,T8],hF i as j T8 hj]
          exact iT
       cases cq:oW P e with
       | true =>
        refine ⟨[.ro kG.length (L.map .ag)],cO.single rfl (key .ag fun i as j _ _=>JY as j) (.Yn kG L (fun m hm=>?_) (fun m hm j lf x hj hx=>?_) (by omega)),?_⟩
        ·obtain ⟨i,hi,rfl⟩:=List.getElem_of_mem hm
         exact (J5 i _ (List.getElem?_eq_getElem hi)).1
        ·obtain ⟨i,hi,rfl⟩:=List.getElem_of_mem hm
         obtain ⟨cs,d,_,_,ho,_⟩:=hp i _ (List.getElem?_eq_getElem hi)
         exact ho.is j lf x hj hx
        ·have:=yI Yr (fun i as d h1 h2=>(J5 i as h1).2 d h2)
         simp only [qD,wt,bulk]
         omega
       | false =>
        rw [cq] at b3
        have b4:kG.length=1:=by
         rcases b3 with h | h
         ·cases h
         ·exact Nat.eq_of_beq_eq_true h
        obtain ⟨lf,rfl⟩:∃ lf,kG=[lf]:=by
         cases kG with
         | nil=>simp at b4
         | cons lf r=>exact ⟨lf,by rw [List.eq_nil_of_length_eq_zero (l:=r) (by simpa using b4)]⟩
        have Ys:∀ (i:Nat) (as:List AV),L[i]?=some as→Is lf (as.getD 0 .un):=by
         intro i as hi
         obtain ⟨cs,d,_,_,ho,_⟩:=hp i as hi
         have hl:=ho.yH
         cases as with
         | nil=>simp at hl
         | cons x r=>exact ho.is 0 lf x rfl rfl
        refine ⟨[.ro 1 (L.map (·.getD 0 .un))],cO.single rfl (key (·.getD 0 .un) fun i as j hi hj=>?_) (.Ym lf _ (fun x hx=>?_) (by simp only [List.length_map];omega)),?_⟩
        ·have hj1:j < 1:=by simpa using hj
         rw [(Ys i as hi).Rk j hj1,show j=0 by omega]
        ·obtain ⟨as,has,rfl⟩:=List.mem_map.1 hx
         obtain ⟨i,hi,rfl⟩:=List.getElem_of_mem has
         exact Ys i _ (List.getElem?_eq_getElem hi)
        ·have:=uH Yr (fun i as d h1 h2=>⟨(J5 i as h1).2 d h2,by simpa using (J5 i as h1).1⟩)
         simp only [qD,wt,bulk]
         omega
    case struct fs =>
     obtain ⟨kG,II,h⟩:=Option.bind_eq_some_iff.1 h
     cases hb:Nat.beq kG.length (P.cellsOf t) with
     | false=>rw [hb] at h;cases h
     | true =>
      rw [hb] at h
      simp only [cond_true,Option.some.injEq] at h
      subst h
      obtain ⟨xs,m,rfl,rfl,jx,BP,qz⟩:=DataW.trod_struct hu ht
      have:=Nat.eq_of_beq_eq_true hb
      obtain ⟨as,ho,hle⟩:=Yq fs.toList 0 kG m cs xs II (by simpa using BP) (by omega) (fun i f hf=>qz i f (by simpa using hf))
      refine ⟨as,by simpa using ho,?_⟩
      simp only [bulk]
      omega
  ·cases fs with
   | nil =>
    simp only [lA,Option.some.injEq] at h
    subst h
    obtain rfl:xs=[]:=List.eq_nil_of_length_eq_zero (by simpa using hl)
    refine ⟨[],?_,Nat.le_refl _⟩
    rw [List.drop_eq_nil_of_le (by simp at hc;omega)]
    exact cO.nil w
   | cons f r =>
    cases xs with
    | nil=>simp at hl
    | cons x xs =>
     simp only [lA] at h
     obtain ⟨kG,II,h⟩:=Option.bind_eq_some_iff.1 h
     cases hb:(Nat.beq f.offset off && Nat.beq kG.length (P.cellsOf f.type)) with
     | false=>rw [hb] at h;cases h
     | true =>
      rw [hb] at h
      simp only [cond_true] at h
      obtain ⟨ls2,h2,rfl⟩:=Option.map_eq_some_iff.1 h
      rw [Bool.and_eq_true] at hb
      have e1:=Nat.eq_of_beq_eq_true hb.1
      have e2:=Nat.eq_of_beq_eq_true hb.2
      have t0:=hx 0 f rfl
      rw [e1,← e2] at t0
      obtain ⟨as,ho,hle⟩:=Yp f.type kG fuel _ x II t0
      simp only [List.length_append] at hc
      obtain ⟨as2,TZ,aab⟩:=Yq r (off+kG.length) ls2 fuel cs xs h2 (by simpa using hl) (by omega) (fun i g hg=>by simpa using hx (i+1) g (by simpa using hg))
      refine ⟨as ++ as2,?_,?_⟩
      ·have:=ho.append TZ
       rwa [← List.drop_drop,List.take_append_drop] at this
      ·rw [Ap]
       simp only [List.map_cons,dS]
       omega
end J4
end Sx
namespace Sx
open Go Go.RowKit Go.WideShapes Go.ChangeShapes
def Ca (agg:Bool) (ls:List Lf) (a:AV):Prop :=
 match agg with
 | true=>∃ m,a=.ag m∧m.length=ls.length∧∀ (j:Nat) (lf:Lf) (x:AV),ls[j]?=some lf→m[j]?=some x→Is lf x
 | false=>∃ lf,ls=[lf]∧Is lf a
def vV:List (Bool×List Lf)→List AV→Prop
 | [],[]=>True
 | p :: r,a :: as=>Ca p.1 p.2 a∧vV r as
 | _,_=>False
def nX (P:Program):List TypeId→Option (List (Bool×List Lf))
 | []=>some []
 | t :: ts=>(leaves P 12 t).bind fun ls=>bif oW P t || Nat.beq ls.length 1 then (nX P ts).map ((oW P t,ls) :: ·) else none
section
variable {H:Type} {enc:TypeId×Value→H} {P:Program} {w:World} {base:Nat} {spare:Nat→Bool} {held:Bool}
theorem F7 {t:TypeId} {ls:List Lf} {v:Value} {d:DataW H} {p:List MemPlace} {r:Reach} {b0:Nat} (hl:leaves P 12 t=some ls) (hb:(oW P t || Nat.beq ls.length 1)=true) (il:Value.okWide P w r b0 t v) (h:DataW.Trod enc P w base spare held t v d p) :
  ∃ a,Ca (oW P t) ls a∧wt a≤bulk d∧Rel w (fun _=>True) a v:=by
 obtain ⟨fuel,hf⟩:=h
 obtain ⟨as,ho,hle⟩:=(qa 12).1 t ls fuel _ _ hl hf
 cases cq:oW P t with
 | true =>
  unfold oW at cq
  split at cq
  ·rename_i fs hu
   obtain ⟨cs,rfl,_⟩:=okWide_struct hu il
   have hc:(Value.agg cs).cells.toList=cs.toList:=rfl
   rw [hc] at ho
   refine ⟨.ag as,⟨as,rfl,ho.yH,ho.is⟩,by simpa only [wt] using hle,?_⟩
   have:=Rel.ag (w:=w) (F:=fun _=>True) as cs.toList (by rw [ho.yH,ho.J3]) ho.one ho.rel
   simpa using this
  ·cases cq
 | false =>
  rw [cq,Bool.false_or] at hb
  have h1:=Nat.eq_of_beq_eq_true hb
  obtain ⟨lf,rfl⟩:∃ lf,ls=[lf]:=by
   cases ls with
   | nil=>simp at h1
   | cons lf r=>exact ⟨lf,by rw [List.eq_nil_of_length_eq_zero (l:=r) (by simpa using h1)]⟩
  have hlen:=ho.yH
  obtain ⟨a,rfl⟩:∃ a,as=[a]:=by
   cases as with
   | nil=>simp at hlen
   | cons a r=>exact ⟨a,by rw [List.eq_nil_of_length_eq_zero (l:=r) (by simpa using hlen)]⟩
  have hv:v.cells.toList=[v]:=by
   simp only [leaves] at hl
   cases hu:P.underlying t with
   | none=>rw [hu] at hl;cases hl
   | some dd =>
    rw [hu] at hl
    cases dd <;> simp only at hl <;> try (cases hl;done)
    case bool=>obtain ⟨b,rfl⟩:=okWide_bool hu il;rfl
    case int k=>obtain ⟨b,rfl⟩:=okWide_int hu il;rfl
    case string=>obtain ⟨b,rfl⟩:=okWide_string hu il;rfl
    case slice e=>obtain ⟨a,len,cap,rfl⟩:=okWide_slice hu il;rfl
    case struct fs=>unfold oW at cq;rw [hu] at cq;cases cq
  rw [hv] at ho
  refine ⟨a,⟨lf,rfl,ho.is 0 lf a rfl rfl⟩,by simpa [qD] using hle,?_⟩
  simpa using ho.rel 0 v rfl
theorem uI {r:Reach} {b0:Nat}:∀ {ts:List TypeId} {shs:List (Bool×List Lf)} {vs:List Value} {ds:List (DataW H)} {p:List MemPlace},nX P ts=some shs→DataW.TrodAll enc P w base spare held ts vs ds p →
  (∀ (j:Nat) (t:TypeId) (v:Value),ts[j]?=some t→vs[j]?=some v→Value.okWide P w r b0 t v) →
  ∃ as,as.length=vs.length∧ds.length=ts.length∧vV shs as∧qD as≤dS ds∧∀ (j:Nat) (a:AV) (v:Value),as[j]?=some a→vs[j]?=some v→Rel w (fun _=>True) a v
 | [],shs,vs,ds,p,hs,h,hv=>by
  obtain ⟨rfl,rfl,rfl⟩:=trodAll_nil h
  cases hs
  exact ⟨[],rfl,rfl,trivial,Nat.le_refl _,fun j a v h=>by simp at h⟩
 | t :: ts,shs,vs,ds,p,hs,h,hv=>by
  obtain ⟨v,vs1,d,ds1,p1,p2,rfl,rfl,rfl,h1,h2⟩:=trodAll_cons h
  simp only [nX] at hs
  obtain ⟨ls,II,hs⟩:=Option.bind_eq_some_iff.1 hs
  cases hb:(oW P t || Nat.beq ls.length 1) with
  | false=>rw [hb] at hs;cases hs
  | true =>
   rw [hb] at hs
   simp only [cond_true] at hs
   obtain ⟨aac,lj,rfl⟩:=Option.map_eq_some_iff.1 hs
   obtain ⟨a,ha,hle,hr⟩:=F7 II hb (hv 0 t v rfl rfl) h1
   obtain ⟨as,e1,e2,e3,e4,e5⟩:=uI lj h2 (fun j t v h1 h2=>hv (j+1) t v (by simpa using h1) (by simpa using h2))
   refine ⟨a :: as,by simp [e1],by simp [e2],⟨ha,e3⟩,?_,fun j x u hx hu=>?_⟩
   ·simp only [qD,dS];omega
   ·cases j with
    | zero=>simp at hx hu;subst hx;subst hu;exact hr
    | succ j=>exact e5 j x u (by simpa using hx) (by simpa using hu)
theorem mc {w':World}:∀ {ts:List TypeId} {vs:List Value} {ds:List (DataW H)} {ps:List MemPlace},DataW.TrodAll enc P w base spare held ts vs ds ps→(∀ p ∈ ps,w.sameAt w' p)→DataW.TrodAll enc P w' base spare held ts vs ds ps
 | [],vs,ds,ps,h,hs=>by
  obtain ⟨rfl,rfl,rfl⟩:=trodAll_nil h
  exact trodAll_mk0
 | t :: ts,vs,ds,ps,h,hs=>by
  obtain ⟨v,vs1,d,ds1,p1,p2,rfl,rfl,rfl,⟨n,hn⟩,h2⟩:=trodAll_cons h
  exact ⟨p1,p2,⟨n,DataW.trod_carry n _ _ _ hn (fun p hp=>hs p (List.mem_append_left _ hp))⟩,mc h2 (fun p hp=>hs p (List.mem_append_right _ hp)),rfl⟩
end
theorem vW {C:cS} {P:Program} (dB:Fit C P) {g:Nat} {fn:Func} {c:Code} (gC:P.funcs[g]?=some fn) (hb:fn.body=some c) (ho:(C.own g).all Option.isNone=true) (dk:C.sig g=none)
  {tb:TypeId} (FJ:fn.resultTypes = #[tb]) (htb:P.underlying tb=some .bool)
  (jB:laidOutB P=true) (Mc:mapsRowed P=true) (hz:((List.range P.types.size).all fun t=>match P.underlying t with | some (.slice e)=>decide (0 < P.cellsOf e) | _=>true)=true)
  (IG:fn.params.toList.all (fun t=>decide (t < P.types.size))=true)
  {s:ChangeSpec} (Md:s.vars=[]) (hs:∀ (H:Type) (ds:List (DataW H)),ds.length=fn.params.toList.length→s.fn H ds={ results:=[.lit (.bool true)],args:=ds })
  {shs:List (Bool×List Lf)} (Rm:nX P fn.params.toList=some shs)
  {H:Type} {enc:TypeId×Value→H} {W:World} {base:Nat} {args:Array Value} {ds gs:List (DataW H)} {before:List MemPlace} {apart fresh handsOn:Bool}
  (il:∀ (j:Nat) t v,fn.params[j]?=some t→args[j]?=some v→Value.okWide P W .any base t v)
  (hW:DataW.Whole enc P fn.params.toList s.vars apart W args.toList ds gs before)
  (hG:aN C W (fun _=>True))
  (law:∀ as,vV shs as→qD as≤dS (ds ++ gs)→ae C P g as=some (.b true)) :
  Calls P g args W fun e W'=>∃ v,e=.returned v∧s.post enc P fn apart fresh handsOn false W args v W':=by
 have Yt:=hW
 have aM:=hW.lt
 obtain ⟨p,q,hA,hV,rfl,hfz,qR⟩:=hW
 rw [Md] at hV
 obtain ⟨rfl,rfl⟩:=trodVars_none hV
 simp only [List.append_nil] at law aM Yt
 obtain ⟨as,e1,e2,e3,e4,e5⟩:=uI Rm hA (fun j t v h1 h2=>il j t v (by simpa using h1) (by simpa using h2))
 have FL:=law as e3 e4
 refine (Am dB gC hb ho dk FL W (fun _=>True) args hG (by simpa using e1.symm) (fun j a v h1 h2=>e5 j a v h1 (by simpa using h2))).mono fun e W' he=>?_
 obtain ⟨rfl,P3⟩:=he
 have VI:=hs H ds e2
 refine ⟨_,rfl,ds,[],p,[],p,[],Yt,?_,?_,?_,P3.frame _,fun h=>by cases h⟩
 ·rw [List.append_nil,VI,FJ]
  exact trodAll_mk1 (shut_bool htb _)
 ·rw [List.append_nil,VI]
  have h1:=mc (w':=W') hA (fun x hx=>P3.same (aM x hx))
  exact DataW.TrodAll.respare (kids_rows jB Mc) (fun t e ht hu=>slices_full_of P hz t e ht hu) (fun t ht=>of_decide_eq_true (List.all_eq_true.1 IG t ht)) h1 (fun x hx=>by simpa using aM x hx)
 ·rw [Md,List.append_nil,VI]
  exact rfl
end Sx
namespace Sx
theorem NY {a:AV} (h:Ca false [.s] a):∃ l:List UInt8,a=.s l∧l.length≤Go.maxLen:=by
 obtain ⟨lf,e,h⟩:=h
 cases e
 cases h with
 | s l h=>exact ⟨l,rfl,h⟩
theorem Rn {p:Bool×List Lf} {as:List AV} (h:vV [p] as):∃ a,as=[a]∧Ca p.1 p.2 a:=by
 match as,h with
 | [a],h=>exact ⟨a,rfl,h.1⟩
end Sx
namespace Sx
open Go
structure Ctx where
 st:UInt8
 el:UInt8
 en:Bool
 at':UInt8
 qu:UInt8
 pa:UInt8
 su:UInt8
 es:Bool
 da:UInt8
 nm:List UInt8
 deriving DecidableEq
abbrev cx (st el:UInt8) (en:Bool) (at' qu pa su:UInt8) (es:Bool) (da:UInt8) (nm:List UInt8):AV :=
 .ag [.u8 st, .u8 el, .b en, .u8 at', .u8 qu, .u8 pa, .u8 su, .b es, .u8 da, .s nm]
abbrev Ctx.av (c:Ctx):AV:=cx c.st c.el c.en c.at' c.qu c.pa c.su c.es c.da c.nm
@[simp] theorem Ro (a b c d e f g h i j:AV):AV.aE 10 (.ag [a,b,c,d,e,f,g,h,i,j])=some [a,b,c,d,e,f,g,h,i,j]:=rfl
section get
variable (a b c d e f g h i j:AV)
@[simp] theorem aad:[a,b,c,d,e,f,g,h,i,j].getD 0 .un=a:=rfl
@[simp] theorem aae:[a,b,c,d,e,f,g,h,i,j].getD 1 .un=b:=rfl
@[simp] theorem aaf:[a,b,c,d,e,f,g,h,i,j].getD 2 .un=c:=rfl
@[simp] theorem aag:[a,b,c,d,e,f,g,h,i,j].getD 3 .un=d:=rfl
@[simp] theorem aah:[a,b,c,d,e,f,g,h,i,j].getD 4 .un=e:=rfl
@[simp] theorem aai:[a,b,c,d,e,f,g,h,i,j].getD 5 .un=f:=rfl
@[simp] theorem aaj:[a,b,c,d,e,f,g,h,i,j].getD 6 .un=g:=rfl
@[simp] theorem aak:[a,b,c,d,e,f,g,h,i,j].getD 7 .un=h:=rfl
@[simp] theorem aal:[a,b,c,d,e,f,g,h,i,j].getD 8 .un=i:=rfl
@[simp] theorem aam:[a,b,c,d,e,f,g,h,i,j].getD 9 .un=j:=rfl
end get
def bD (a b:Ctx):Bool :=
 a.st == b.st && (a.el == b.el && (a.en == b.en && (a.at' == b.at' && (a.qu == b.qu && (a.pa == b.pa && (a.su == b.su && (a.es == b.es && (a.da == b.da && a.nm == b.nm))))))))
@[simp] theorem Rp (st el:UInt8) (en:Bool) (at' qu pa su:UInt8) (es:Bool) (da:UInt8) (nm:List UInt8) (bC vX:UInt8) (vY:Bool) (me vZ wa xN:UInt8) (xO:Bool) (wb:UInt8) (wc:List UInt8) :
  fZ [.i, .i, .b, .i, .i, .i, .i, .b, .i, .s] .eql (.ag [.u8 st, .u8 el, .b en, .u8 at', .u8 qu, .u8 pa, .u8 su, .b es, .u8 da, .s nm]) (.ag [.u8 bC, .u8 vX, .b vY, .u8 me, .u8 vZ, .u8 wa, .u8 xN, .b xO, .u8 wb, .s wc]) =
   some (.b (bD ⟨st,el,en,at',qu,pa,su,es,da,nm⟩ ⟨bC,vX,vY,me,vZ,wa,xN,xO,wb,wc⟩)):=by
 simp only [fZ,eqs,I9,Option.bind_some,bD,Bool.and_true]
@[simp] theorem yJ (st el:UInt8) (en:Bool) (at' qu pa su:UInt8) (es:Bool) (da:UInt8) (nm:List UInt8) (bC vX:UInt8) (vY:Bool) (me vZ wa xN:UInt8) (xO:Bool) (wb:UInt8) (wc:List UInt8) :
  fZ [.i, .i, .b, .i, .i, .i, .i, .b, .i, .s] .neq (.ag [.u8 st, .u8 el, .b en, .u8 at', .u8 qu, .u8 pa, .u8 su, .b es, .u8 da, .s nm]) (.ag [.u8 bC, .u8 vX, .b vY, .u8 me, .u8 vZ, .u8 wa, .u8 xN, .b xO, .u8 wb, .s wc]) =
   some (.b (!bD ⟨st,el,en,at',qu,pa,su,es,da,nm⟩ ⟨bC,vX,vY,me,vZ,wa,xN,xO,wb,wc⟩)):=by
 simp only [fZ,eqs,I9,Option.bind_some,bD,Bool.and_true]
theorem yK (a b:Ctx):bD a b=decide (a=b):=by
 obtain ⟨⟩:=a;obtain ⟨⟩:=b
 rw [Bool.eq_iff_iff]
 simp only [bD,Ctx.mk.injEq,Bool.and_eq_true,beq_iff_eq,decide_eq_true_eq]
theorem nY (st:UInt8):st=0∨st=1∨st=2∨st=3∨st=4∨st=5∨st=6∨st=7∨st=8∨st=9∨st=10∨st=11∨st=12∨st=13∨st=14∨st=15∨st=16∨st=17∨st=18∨st=19∨st=20∨20 < st:=by
 have:=fB (p:=fun st=>st == 0 || (st == 1 || (st == 2 || (st == 3 || (st == 4 || (st == 5 || (st == 6 || (st == 7 || (st == 8 || (st == 9 || (st == 10 || (st == 11 || (st == 12 || (st == 13 || (st == 14 || (st == 15 || (st == 16 || (st == 17 || (st == 18 || (st == 19 || (st == 20 || decide (20 < st)))))))))))))))))))))) (by kernel_rfl) st
 simpa only [Bool.or_eq_true,beq_iff_eq,decide_eq_true_eq] using this
theorem fb (x:UInt8):x=0∨x=1∨x=2∨x=3∨x=4∨4 < x:=by
 have:=fB (p:=fun st=>st == 0 || (st == 1 || (st == 2 || (st == 3 || (st == 4 || decide (4 < st)))))) (by kernel_rfl) x
 simpa only [Bool.or_eq_true,beq_iff_eq,decide_eq_true_eq] using this
theorem yL (x:UInt8):x=0∨x=1∨x=2∨x=3∨x=4∨x=5∨5 < x:=by
 have:=fB (p:=fun st=>st == 0 || (st == 1 || (st == 2 || (st == 3 || (st == 4 || (st == 5 || decide (5 < st))))))) (by kernel_rfl) x
 simpa only [Bool.or_eq_true,beq_iff_eq,decide_eq_true_eq] using this
theorem F9 (x:UInt8):x=0∨x=1∨x=2∨x=3∨x=4∨x=5∨x=6∨6 < x:=by
 have:=fB (p:=fun st=>st == 0 || (st == 1 || (st == 2 || (st == 3 || (st == 4 || (st == 5 || (st == 6 || decide (6 < st)))))))) (by kernel_rfl) x
 simpa only [Bool.or_eq_true,beq_iff_eq,decide_eq_true_eq] using this
theorem gk {k:Nat} (h:k < 256):(OfNat.ofNat k:UInt8).toNat=k:=UInt8.toNat_ofNat_of_lt' h
theorem bQ (x:UInt8) (k:Nat) (h:k < 256):((x.toNat:Int) == (OfNat.ofNat k:Int))=(x == (OfNat.ofNat k:UInt8)):=by
 have h1:=gk h
 rw [Bool.eq_iff_iff,beq_iff_eq,beq_iff_eq]
 show (x.toNat:Int)=((k:Nat):Int)↔_
 exact ⟨fun e=>UInt8.toNat_inj.1 (by rw [h1];omega),fun e=>by rw [e,h1]⟩
theorem Cb (x:UInt8) (k:Nat) (h:k < 256):((x.toNat:Int) != (OfNat.ofNat k:Int))=(x != (OfNat.ofNat k:UInt8)):=by
 simp only [bne,bQ x k h]
theorem NZ (x:UInt8) (k:Nat) (h:k < 256):decide ((x.toNat:Int)≤(OfNat.ofNat k:Int))=decide (x≤(OfNat.ofNat k:UInt8)):=by
 have h1:=gk h
 rw [decide_eq_decide,UInt8.le_iff_toNat_le,h1]
 show (x.toNat:Int)≤((k:Nat):Int)↔_
 omega
theorem N0 (x:UInt8) (k:Nat) (h:k < 256):decide ((OfNat.ofNat k:Int)≤(x.toNat:Int))=decide ((OfNat.ofNat k:UInt8)≤x):=by
 have h1:=gk h
 rw [decide_eq_decide,UInt8.le_iff_toNat_le,h1]
 show ((k:Nat):Int)≤(x.toNat:Int)↔_
 omega
theorem VJ (x:UInt8) (k:Nat) (h:k < 256):decide ((OfNat.ofNat k:Int) < (x.toNat:Int))=decide ((OfNat.ofNat k:UInt8) < x):=by
 have h1:=gk h
 rw [decide_eq_decide,UInt8.lt_iff_toNat_lt,h1]
 show ((k:Nat):Int) < (x.toNat:Int)↔_
 omega
def low (l:List UInt8):Bool:=l.all fun b=>!(decide (65≤b) && decide (b≤90))
def small (l:List UInt8) (most:Int):Bool:=low l && (decide (1≤l.length) && decide ((l.length:Int)≤most))
def pre (p l:List UInt8):Bool:=decide (p.length≤l.length) && l.take p.length == p
theorem mS {l:List UInt8} {i:Nat} (h:i≤l.length):ic (.s l) none (some (.int (i:Int)))=some (.s (l.take i)):=by
 show ((gb l.length none (some (.int (i:Int)))).bind fun p=>some (AV.s ((l.take p.2).drop p.1)))=_
 simp [gb,B7 h]
theorem mT {l:List UInt8} {i:Nat} (h:i≤l.length):ic (.s l) (some (.int (i:Int))) none=some (.s (l.drop i)):=by
 show ((gb l.length (some (.int (i:Int))) none).bind fun p=>some (AV.s ((l.take p.2).drop p.1)))=_
 simp [gb,B7 h]
theorem zA {α:Type}:(∀ (l:List α) (i:Nat),l.toArray[i]?=l[i]?)∧(∀ (a:α) (l:List α) (i:Nat),(a :: l)[i+1]?=l[i]?)∧∀ (a:α) (l:List α),(a :: l)[0]?=some a :=
 ⟨fun _ _=>by simp,fun _ _ _=>by simp,fun _ _=>by simp⟩
theorem zB {α:Type}:(∀ (l:List α) (i:Nat) (a:α),l.toArray.setIfInBounds i a=(l.set i a).toArray)∧(∀ (a b:α) (l:List α),(a :: l).set 0 b=b :: l)∧∀ (a b:α) (l:List α) (n:Nat),(a :: l).set (n+1) b=a :: l.set n b :=
 ⟨fun _ _ _=>by simp,fun _ _ _=>by simp,fun _ _ _ _=>by simp⟩
theorem zC {α:Type}:(∀ l:List α,l.toArray.size=l.length)∧(∀ (a:α) (l:List α),(a :: l).length=l.length+1)∧([]:List α).length=0∧(∀ (n:Nat) (a:α),Array.replicate (n+1) a=(Array.replicate n a).push a)∧(∀ a:α,Array.replicate 0 a = #[]) ∧
  (∀ (l:List α) (a:α),l.toArray.push a=(l ++ [a]).toArray)∧(∀ l m:List α,l.toArray ++ m.toArray=(l ++ m).toArray)∧(∀ l:List α,[] ++ l=l)∧∀ (a:α) (l m:List α),a :: l ++ m=a :: (l ++ m) :=
 ⟨fun _=>by simp,fun _ _=>by simp,rfl,fun _ _=>Array.replicate_succ,fun _=>rfl,fun _ _=>by simp,fun _ _=>by simp,fun _=>rfl,fun _ _ _=>rfl⟩
theorem zT {a b c d e f g h i j:AV}:[a,b,c,d,e,f,g,h,i,j].getD 0 .un=a∧[a,b,c,d,e,f,g,h,i,j].getD 1 .un=b∧[a,b,c,d,e,f,g,h,i,j].getD 2 .un=c∧[a,b,c,d,e,f,g,h,i,j].getD 3 .un=d∧[a,b,c,d,e,f,g,h,i,j].getD 4 .un=e ∧
  [a,b,c,d,e,f,g,h,i,j].getD 5 .un=f∧[a,b,c,d,e,f,g,h,i,j].getD 6 .un=g∧[a,b,c,d,e,f,g,h,i,j].getD 7 .un=h∧[a,b,c,d,e,f,g,h,i,j].getD 8 .un=i∧[a,b,c,d,e,f,g,h,i,j].getD 9 .un=j :=
 ⟨rfl,rfl,rfl,rfl,rfl,rfl,rfl,rfl,rfl,rfl⟩
end Sx
namespace Sx
open Go Go.RowKit Go.WideShapes Go.ChangeShapes
def T9 {H:Type}:DataW H→AV
 | .lit (.bool b)=>.b b
 | .lit (.int .u8 n)=>.u8 (UInt8.ofNat n.toNat)
 | .lit (.int .i64 n)=>.int n
 | .lit (.int k n)=>.ik k n
 | .lit (.string l)=>.s l
 | _=>.un
def qS (P:Program) (t:TypeId):Bool:=match P.underlying t with | some .bool | some (.int _) | some .string=>true | _=>false
section
variable {H:Type} {enc:TypeId×Value→H} {P:Program} {w:World} {base:Nat} {spare:Nat→Bool} {held:Bool}
theorem yM {fuel:Nat} {t:TypeId} {cs:List Value} {x:DataW H×List MemPlace} (hs:qS P t=true) (h:DataW.trod enc P w base spare held fuel t cs=some x):∃ v,cs=[v]∧v.oneCell'=true∧Rel w (fun _=>True) (T9 x.1) v:=by
 unfold qS at hs
 split at hs
 ·rename_i hu
  obtain ⟨b,rfl,rfl⟩:=DataW.trod_bool hu h
  exact ⟨_,rfl,rfl, .b b⟩
 ·rename_i k hu
  obtain ⟨n,rfl,rfl,hw⟩:=DataW.trod_int hu h
  refine ⟨_,rfl,rfl,?_⟩
  cases k <;> first | exact .int n | exact .ik _ n | skip
  have hb:0≤n∧n < 256:=by
   simp only [Lit.wf,Bool.and_eq_true,decide_eq_true_eq] at hw
   have h1:IntKind.u8.min=0:=rfl
   have h2:IntKind.u8.max=255:=rfl
   omega
  have:=Rel.u8 (w:=w) (F:=fun _=>True) (UInt8.ofNat n.toNat)
  rw [UInt8.toNat_ofNat_of_lt' (by show n.toNat < 256;omega)] at this
  rwa [show ((n.toNat:Nat):Int)=n by omega] at this
 ·rename_i hu
  obtain ⟨s,rfl,rfl,_⟩:=DataW.trod_string hu h
  exact ⟨_,rfl,rfl, .s s⟩
 ·cases hs
def yN (P:Program):Nat→List Field→Bool
 | _,[]=>true
 | n,f :: r=>Nat.beq f.offset n && qS P f.type && Nat.beq (P.cellsOf f.type) 1 && yN P (n+1) r
theorem yO:∀ {n:Nat} {fs:List Field},yN P n fs=true→∀ (i:Nat) (f:Field),fs[i]?=some f→f.offset=n+i∧qS P f.type=true∧P.cellsOf f.type=1
 | n,[],_,i,f,h=>by simp at h
 | n,g :: r,hb,i,f,h=>by
  simp only [yN,Bool.and_eq_true] at hb
  cases i with
  | zero=>simp at h;subst h;exact ⟨Nat.eq_of_beq_eq_true hb.1.1.1,hb.1.1.2,Nat.eq_of_beq_eq_true hb.1.2⟩
  | succ i =>
   obtain ⟨h1,h2⟩:=yO hb.2 i f (by simpa using h)
   exact ⟨by omega,h2⟩
theorem D3 {fuel:Nat} {t:TypeId} {fs:Array Field} {cs:List Value} {x:DataW H×List MemPlace} (hu:P.underlying t=some (.struct fs)) (hb:yN P 0 fs.toList=true) (h:DataW.trod enc P w base spare held fuel t cs=some x) :
  ∃ parts,x.1=.agg parts∧parts.length=fs.size∧∀ (i:Nat) (d:DataW H),parts[i]?=some d→∃ v,cs[i]?=some v∧v.oneCell'=true∧Rel w (fun _=>True) (T9 d) v:=by
 obtain ⟨xs,n,rfl,rfl,jx,BP,qz⟩:=DataW.trod_struct hu h
 refine ⟨_,rfl,by simpa using BP,fun i d hd=>?_⟩
 simp only [List.getElem?_map,Option.map_eq_some_iff] at hd
 obtain ⟨y,hy,rfl⟩:=hd
 have hi:i < fs.size:=by have:=(List.getElem?_eq_some_iff.1 hy).1;omega
 have hf:fs.toList[i]?=some fs[i]:=by simp [hi]
 obtain ⟨h1,h2,h3⟩:=yO hb i _ hf
 have ht:=qz i fs[i] (by simp [hi])
 rw [hy,h1,h3,Nat.zero_add] at ht
 obtain ⟨v,hv,h4,h5⟩:=yM h2 ht
 refine ⟨v,?_,h4,h5⟩
 have:((cs.drop i).take 1)[0]?=some v:=by rw [hv];rfl
 simpa using this
end
theorem Ar {C:cS} {P:Program} {w:World} {name:String} {g t k:Nat} {fs:Array Field} {parts:List (DataW Unit)} {e:AV} (hC:∀ g' k' e',C.glob g'=some (k',e')→g'=g∧k'=k∧e'=e)
  (hg:P.globalNamed name=some g) (ht:(P.globals[g]?).map (·.type)=some t) (hu:P.underlying t=some (.struct fs)) (hb:yN P 0 fs.toList=true)
  (hk:k=parts.length) (pG:0 < k) (he:∀ j,j < k→e.cell j=T9 (parts.getD j .nil)) {ps:List MemPlace} (hl:DataW.LaidVars P w [(name, .agg parts)] ps):aN C w (fun _=>True):=by
 intro g' k' e' h
 obtain ⟨rfl,rfl,rfl⟩:=hC _ _ _ h
 obtain ⟨g2,t2,cs,fuel,p,q,h1,h2,h3,h4,_⟩:=hl
 obtain rfl:=Option.some.inj (hg.symm.trans h1)
 obtain rfl:=Option.some.inj (ht.symm.trans h2)
 obtain ⟨VK,e1,_,hp⟩:=D3 hu hb h4
 cases e1
 unfold World.var? at h3
 rw [hg] at h3
 simp only [Option.bind_some] at h3
 split at h3
 ·rename_i ud ty fr hh
  cases h3
  have aM:g' < w.heap.size:=(Array.getElem?_eq_some_iff.1 hh).1
  refine ⟨g',0,rfl,trivial,aM,fun j hj=>?_⟩
  have jf:parts[j]?=some (parts.getD j .nil):=by
   rw [List.getD_eq_getElem?_getD,List.getElem?_eq_getElem (by omega)];rfl
  obtain ⟨v,hv,h5,h6⟩:=hp j _ jf
  refine ⟨v,?_,h5,?_⟩
  ·simp only [World.cell?,hh,Nat.zero_add]
   simpa using hv
  ·rw [he j hj];exact h6
 ·cases h3
end Sx
namespace Sx
open Go
def mf (st el at':UInt8):Bool:=st == 8 && (at' == 2 || at' == 3) || (decide (17≤st) && decide (st≤19)) && (el == 3 || el == 4)
def nameOf (el:UInt8):List UInt8 :=
 if el=1 then [116,101,120,116,97,114,101,97] else if el=2 then [116,105,116,108,101] else if el=3 then [115,99,114,105,112,116] else if el=4 then [115,116,121,108,101] else []
theorem nlt (n:UInt8):(20 < n)→¬ n=0∧¬ n=1∧¬ n=2∧¬ n=3∧¬ n=4∧¬ n=5∧¬ n=6∧¬ n=7∧¬ n=8∧¬ n=9∧¬ n=10∧¬ n=11∧¬ n=12∧¬ n=13∧¬ n=14∧¬ n=15∧¬ n=16∧¬ n=17∧¬ n=18∧¬ n=19:=by
 intro h
 refine ⟨?_,?_,?_,?_,?_,?_,?_,?_,?_,?_,?_,?_,?_,?_,?_,?_,?_,?_,?_,?_⟩ <;> (rintro rfl;revert h;decide)
def cj (su:UInt8) (es script:Bool):Bool:=(script || su != 4) && (!es || su == 1 || su == 2)
def Cd (st:UInt8):Bool:=decide (4≤st) && decide (st≤10)
def yP (st:UInt8):Bool:=decide (17≤st) && decide (st≤19)
def form (c:Ctx):Bool :=
 if decide (20 < c.st) || decide (4 < c.el) || decide (4 < c.at') || decide (5 < c.pa) || decide (6 < c.su) || decide (2 < c.da) then false
 else if (c.el != 0 && !Cd c.st && !yP c.st) || (yP c.st && c.el == 0) then false
 else if c.en && ((c.st != 3 && !Cd c.st) || c.el != 0) then false
 else if c.at' != 0 && c.st != 7 && c.st != 8 then false
 else if c.qu != 0 && (c.st != 8 || (c.qu != 34 && c.qu != 39)) then false
 else if c.pa != 0 && (c.st != 8 || c.at' != 1) then false
 else if c.da != 0 && c.st != 15 then false
 else if (c.su != 0 && !mf c.st c.el c.at') || (((c.st == 8 && c.at' == 3) || (yP c.st && c.el == 4)) && c.su == 4) then false
 else if c.es && c.su != 1 && c.su != 2 then false
 else if c.st == 3 || c.st == 5 || c.st == 6 then small c.nm 32
 else if c.st == 8 && c.at' == 1 && c.pa == 1 then small c.nm 16
 else if c.st == 19 then pre c.nm (nameOf c.el)
 else c.nm == []
theorem Ga {c:Bool} {a b:Bool}:(if c=true then some (AV.b a) else some (AV.b b))=some (.b (if c=true then a else b)):=by cases c <;> rfl
def nZ (c t:Ctx):Bool :=
 if (c.qu != 0 && c.qu != 34 && c.qu != 39)=true then false
 else if (c.at' == 1)=true then (if (c.pa == 1)=true then bD c ⟨t.st,t.el,t.en,c.at',c.qu,c.pa,t.su,t.es,t.da,c.nm⟩ && small c.nm 16 else bD c ⟨t.st,t.el,t.en,c.at',c.qu,c.pa,t.su,t.es,t.da,t.nm⟩)
 else if (c.at' == 2 || c.at' == 3)=true then bD c ⟨t.st,t.el,t.en,c.at',c.qu,t.pa,c.su,c.es,t.da,t.nm⟩ && cj c.su c.es (c.at' == 2)
 else bD c ⟨t.st,t.el,t.en,c.at',c.qu,t.pa,t.su,t.es,t.da,t.nm⟩
def yQ (c:Ctx):Bool :=
 if (decide (20 < c.st) || decide (4 < c.el) || decide (4 < c.at') || decide (5 < c.pa) || decide (6 < c.su) || (c.en && c.el != 0))=true then false
 else if (c.st == 3)=true then bD c ⟨c.st,0,c.en,0,0,0,0,false,0,c.nm⟩ && small c.nm 32
 else if (c.st == 4 || c.st == 9 || c.st == 10)=true then bD c ⟨c.st,c.el,c.en,0,0,0,0,false,0,[]⟩
 else if (c.st == 5 || c.st == 6)=true then bD c ⟨c.st,c.el,c.en,0,0,0,0,false,0,c.nm⟩ && small c.nm 32
 else if (c.st == 7)=true then bD c ⟨c.st,c.el,c.en,c.at',0,0,0,false,0,[]⟩
 else if (c.st == 8)=true then nZ c ⟨c.st,c.el,c.en,0,0,0,0,false,0,[]⟩
 else if (c.st == 15)=true then bD c ⟨c.st,0,false,0,0,0,0,false,c.da,[]⟩ && decide (c.da≤2)
 else if (c.st == 17 || c.st == 18 || c.st == 19)=true then (bD c ⟨c.st,c.el,false,0,0,0,if (c.el == 3 || c.el == 4)=true then c.su else 0,if (c.el == 3 || c.el == 4)=true then c.es else false,0,if (c.st == 19)=true then c.nm else []⟩ && (c.el != 0) && pre c.nm (nameOf c.el) && cj c.su c.es (c.el == 3))
 else bD c ⟨c.st,0,false,0,0,0,0,false,0,[]⟩
theorem Ce (st el:UInt8) (en:Bool) (at' qu pa su:UInt8) (es:Bool) (da:UInt8) (nm:List UInt8):yQ ⟨st,el,en,at',qu,pa,su,es,da,nm⟩=form ⟨st,el,en,at',qu,pa,su,es,da,nm⟩:=by
 unfold yQ form
 dsimp only
 rcases nY st with h | h | h | h | h | h | h | h | h | h | h | h | h | h | h | h | h | h | h | h | h | h
 all_goals try subst h
 all_goals try simp [Cd,yP,bD,mf,cj,nZ, *]
 all_goals try (grind;done)
 ·rcases fb at' with h | h | h | h | h | h
  all_goals try subst h
  all_goals simp [*]
  all_goals try (grind;done)
 all_goals (have hp:pre [] (nameOf el)=true:=by simp [pre]);cases nm <;> simp [hp] <;> rcases fb el with h | h | h | h | h | h <;> (try subst h) <;> (try simp [*]) <;> (try grind)
def hole (c:Ctx):UInt8 :=
 if c.st == 0 then 1
 else if c.st == 17 then (if c.el == 1 || c.el == 2 then 2 else if (c.su == 1 || c.su == 2) && !c.es && c.el == 3 then 7 else if (c.su == 1 || c.su == 2) && !c.es && c.el == 4 then 9 else 0)
 else if c.st == 8 then
  (if c.qu == 0 then 0 else if c.at' == 0 then 3
  else if c.at' == 1 then (if c.pa == 0 then 4 else if c.pa == 3 then 5 else if c.pa == 4 then 6 else 0)
  else if c.at' == 2 then (if (c.su == 1 || c.su == 2) && !c.es then 8 else 0)
  else if c.at' == 3 then (if (c.su == 1 || c.su == 2) && !c.es then 10 else 0) else 0)
 else 0
def bc:Ctx:=⟨20,0,false,0,0,0,0,false,0,[]⟩
def after (c:Ctx):Ctx:=if hole c == 0 then bc else if hole c == 4 then { c with pa:=2 } else c
def oX (nm:List UInt8):UInt8 :=
 if nm == [116,101,120,116,97,114,101,97] then 1 else if nm == [116,105,116,108,101] then 2 else if nm == [115,99,114,105,112,116] then 3 else if nm == [115,116,121,108,101] then 4 else 0
def urls:List (List UInt8):=[[97,99,116,105,111,110],[98,97,99,107,103,114,111,117,110,100],[99,105,116,101],[100,97,116,97],[102,111,114,109,97,99,116,105,111,110],[104,114,101,102],[108,111,110,103,100,101,115,99],[109,97,110,105,102,101,115,116],[112,111,115,116,101,114],[115,114,99],[120,108,105,110,107,58,104,114,101,102]]
def As:List (List UInt8):=[[115,114,99,100,111,99],[115,114,99,115,101,116],[105,109,97,103,101,115,114,99,115,101,116],[99,111,110,116,101,110,116],[104,116,116,112,45,101,113,117,105,118]]
def gS (nm:List UInt8):UInt8 :=
 if urls.contains nm then 1 else if nm == [115,116,121,108,101] then 3 else if As.contains nm then 4 else if decide (2 < nm.length) && pre [111,110] nm then 2 else 0
theorem D4 {a b:List UInt8} (h:(a == b)=false):(b == a)=false:=by
 rw [beq_eq_false_iff_ne] at h ⊢;exact fun e=>h e.symm
theorem Me (P:List (List UInt8)) (c:List UInt8) (R:List (List UInt8)):lZ ((P ++ c :: R).map AV.s).length (.int (P.length:Int))=some P.length:=e9 (by simp)
theorem Gb (P:List (List UInt8)) (c:List UInt8) (R:List (List UInt8)):((P ++ c :: R).map AV.s).getD P.length .un=.s c:=by simp
def Ctx.au (c:Ctx):AV:=cx c.st c.el c.en c.at' c.qu c.pa c.su c.es c.da c.nm
theorem az (st el:UInt8) (en:Bool) (at' qu pa su:UInt8) (es:Bool) (da:UInt8) (nm:List UInt8) :
  (.ag [.u8 st, .u8 el, .b en, .u8 at', .u8 qu, .u8 pa, .u8 su, .b es, .u8 da, .s nm]:AV)=Ctx.au ⟨st,el,en,at',qu,pa,su,es,da,nm⟩:=rfl
theorem aF (d:Ctx):(⟨d.st,d.el,d.en,d.at',d.qu,d.pa,d.su,d.es,d.da,d.nm⟩:Ctx)=d:=rfl
theorem ao (d:Ctx):AV.aE 10 d.au=some [.u8 d.st, .u8 d.el, .b d.en, .u8 d.at', .u8 d.qu, .u8 d.pa, .u8 d.su, .b d.es, .u8 d.da, .s d.nm]:=rfl
theorem iF (a b:Ctx):fZ [.i, .i, .b, .i, .i, .i, .i, .b, .i, .s] .neq a.au b.au=some (.b (!decide (a=b))):=by
 obtain ⟨⟩:=a;obtain ⟨⟩:=b
 rw [← yK]
 exact yJ ..
theorem aR (p:Prop) [Decidable p] (a b:Ctx):some (Ctx.au (if p then a else b))=if p then some a.au else some b.au:=by split <;> rfl
def tv (p:Ctx×Bool):AV:=.tu [p.1.au, .b p.2]
theorem Gc (c:Ctx) (b:Bool):(.tu [c.au, .b b]:AV)=tv (c,b):=rfl
theorem we (p:Prop) [Decidable p] (a b:Ctx×Bool):some (tv (if p then a else b))=if p then some (tv a) else some (tv b):=by split <;> rfl
theorem J6 (p:Ctx×Bool):aP (tv p) 0=some p.1.au:=rfl
theorem J7 (p:Ctx×Bool):aP (tv p) 1=some (.b p.2):=rfl
def ti (p:Ctx×Int):AV:=.tu [p.1.au, .int p.2]
theorem Cf (c:Ctx) (n:Int):(.tu [c.au, .int n]:AV)=ti (c,n):=rfl
theorem J8 (p:Ctx×Int):aP (ti p) 0=some p.1.au:=rfl
theorem J9 (p:Ctx×Int):aP (ti p) 1=some (.int p.2):=rfl
theorem iG (x:UInt8):BH (.ro 1 [.u8 x])=some (.s [x]):=NW (l:=[x]) (by show 1≤nz;decide)
theorem kH {p q:List UInt8} (h:p.length+q.length≤1000000):cr .add (.s p) (.s q)=some (.s (p ++ q)):=Rh (Nat.le_trans h (by decide))
end Sx
namespace Sx
open Go
def bj (b:UInt8):Bool:=b == 32 || b == 9 || b == 10 || b == 12 || b == 13
def letter (b:UInt8):Bool:=decide (97≤b) && decide (b≤122) || decide (65≤b) && decide (b≤90)
def eS (b:UInt8):UInt8:=if decide (65≤b) && decide (b≤90) then b+32 else b
def bC (s:UInt8):Ctx:=⟨s,0,false,0,0,0,0,false,0,[]⟩
def opened (b:UInt8):Ctx×Bool :=
 if letter b then (⟨3,0,false,0,0,0,0,false,0,[eS b]⟩,true) else if b == 47 then (bC 2,true) else if b == 33 then (bC 11,true) else if b == 63 then (bC 16,true) else (bC 0,false)
def closed (b:UInt8):Ctx:=if letter b then ⟨3,0,true,0,0,0,0,false,0,[eS b]⟩ else if b == 62 then bC 0 else bC 16
def iU (el:UInt8):Ctx:=if el != 0 then ⟨17,el,false,0,0,0,0,false,0,[]⟩ else bC 0
def grown (c:Ctx) (b:UInt8):Ctx:=if decide (32≤c.nm.length) then bc else { c with nm:=c.nm ++ [eS b] }
def within (c:Ctx) (s:UInt8):Ctx:=⟨s,c.el,c.en,0,0,0,0,false,0,[]⟩
def ends (c:Ctx):Bool:=c.su == 0 || c.su == 4
def dn (c:Ctx) (b:UInt8):Ctx×Bool :=
 if bj b then (c,false) else if b == 62 then (bc,false) else if b == 34 || b == 39 then ({ c with st:=8,qu:=b },false) else ({ c with st:=8 },true)
def named (c:Ctx) (b:UInt8):Ctx×Bool :=
 if b == 61 && c.nm != [] then ({ within c 7 with at':=gS c.nm },false) else if b == 47 || b == 62 then (within c 9,true) else if bj b then ({ c with st:=6 },false)
 else if c.st == 6 then (within c 4,true) else if b == 34 || b == 39 || b == 60 then (bc,false) else (grown c b,false)
def tag (c:Ctx) (b:UInt8):Ctx×Bool :=
 if c.st == 3 then (if !bj b && b != 47 && b != 62 then (grown c b,false) else if !c.en then (within { c with el:=oX c.nm } 9,true) else (within c 9,true))
 else if c.st == 9 then (if bj b then (within c 4,false) else if b == 47 then (within c 10,false) else if b == 62 then (iU c.el,false) else (bc,false))
 else if c.st == 10 then (if b == 62 then (iU c.el,false) else (within c 4,true))
 else if c.st == 4 then (if bj b then (c,false) else if b == 47 || b == 62 then (within c 9,true) else if b == 61 then (bc,false) else ({ c with st:=5 },true))
 else if c.st == 7 then dn c b else named c b
def text (c:Ctx) (b:UInt8):Ctx :=
 if c.es then { c with es:=false } else if b == 92 then { c with es:=true } else if b == 10 || b == 13 then bc else if b == 34 && c.su == 1 || b == 39 && c.su == 2 then { c with su:=0 } else c
def gT (c:Ctx) (b:UInt8) (script:Bool):Ctx :=
 if b == 34 then { c with su:=1 } else if b == 39 then { c with su:=2 } else if b == 47 then { c with su:=3 } else if script && b == 96 then bc else if !script && (b == 40 || b == 92) then bc else c
def code (c:Ctx) (b:UInt8) (script:Bool):Ctx :=
 if c.su == 0 then gT c b script
 else if c.su == 3 then (if b == 42 then { c with su:=5 } else if script && b == 47 then { c with su:=4 } else if script then bc else gT { c with su:=0 } b script)
 else if c.su == 1 then text c b else if c.su == 2 then text c b
 else if c.su == 4 then (if b == 10 || b == 13 then { c with su:=0 } else c)
 else if c.su == 5 then (if b == 42 then { c with su:=6 } else c)
 else if c.su == 6 then (if b == 47 then { c with su:=0 } else if b == 42 then c else { c with su:=5 }) else c
def yR (l:List UInt8):Bool:=l == [104,116,116,112] || l == [104,116,116,112,115] || l == [109,97,105,108,116,111]
def url (c:Ctx) (b:UInt8):Ctx :=
 if c.pa == 4 || c.pa == 5 then { c with nm:=[] } else if b == 38 then bc else if b == 63 || b == 35 then { c with pa:=4,nm:=[] } else if c.pa == 3 then { c with nm:=[] } else if b == 47 then { c with pa:=3,nm:=[] }
 else if b == 58 && c.pa == 2 then bc else if b == 58 then (if yR c.nm then { c with pa:=3,nm:=[] } else { c with pa:=5,nm:=[] }) else if c.pa == 2 then { c with nm:=[] }
 else if decide (16≤c.nm.length) then { c with pa:=1 } else { c with pa:=1,nm:=c.nm ++ [eS b] }
def so (b:UInt8):Bool:=b == 34 || b == 39 || b == 60 || b == 61 || b == 96
def value (c:Ctx) (b:UInt8):Ctx :=
 if (!(c.qu == 0) && b == c.qu) || (c.qu == 0 && (bj b || b == 62)) then (if !ends c then bc else if !(c.qu == 0) then within c 9 else if b == 62 then iU c.el else within c 4)
 else if c.qu == 0 && so b then bc else if c.at' == 1 then url c b else if c.at' == 2 || c.at' == 3 then (if b == 38 then bc else code c b (c.at' == 2)) else c
def mg (c:Ctx):List UInt8→Ctx
 | []=>c
 | b :: r=>if (code c b (c.el == 3)).st == 20 then bc else mg (code c b (c.el == 3)) r
def mU (c:Ctx) (s:List UInt8) (feed:Bool):Ctx :=
 if !feed || !mf 17 c.el c.at' then { c with st:=17,nm:=[] } else mg { c with st:=17,nm:=[] } s
def qE (c:Ctx) (b:UInt8) (feed:Bool):Ctx :=
 if c.st == 20 then bc else if (mU c [b] feed).st == 17 && b == 60 then { mU c [b] feed with st:=18 } else mU c [b] feed
def raw (c:Ctx) (b:UInt8) (feed:Bool):Ctx :=
 if c.st == 18 && b == 47 then { c with st:=19 }
 else if c.st == 18 && b == 33 && c.el == 3 then bc
 else if c.st == 19 && c.nm == nameOf c.el && (bj b || b == 47 || b == 62) then (if !ends c then bc else (tag ⟨9,0,true,0,0,0,0,false,0,[]⟩ b).1)
 else if c.st == 19 && pre (c.nm ++ [eS b]) (nameOf c.el) then { c with nm:=c.nm ++ [eS b] }
 else if c.st == 19 then qE (mU c (47 :: c.nm) feed) b feed else qE c b feed
def note (c:Ctx) (b:UInt8):Ctx :=
 if c.st == 11 || c.st == 12 then (if b == 62 then bC 0 else if b == 45 && c.st == 11 then bC 12 else if b == 45 then bC 13 else bC 16)
 else if c.st == 13 || c.st == 14 then (if b == 62 then bc else if b == 45 && c.st == 13 then bC 14 else if b == 45 then ⟨15,0,false,0,0,0,0,false,2,[]⟩ else bC 15)
 else if c.st == 15 then (if b == 62 && c.da == 2 then bC 0 else if b == 33 && c.da == 2 then bc else if b == 45 then ⟨15,0,false,0,0,0,0,false,(if decide (2 < c.da+1) then 2 else c.da+1),[]⟩ else bC 15)
 else if c.st == 16 then (if b == 62 then bC 0 else c) else c
def Qi (s:UInt8):Bool:=s == 3 || s == 4 || s == 5 || s == 6 || s == 7 || s == 9 || s == 10
def again:Nat→Ctx→UInt8→Bool→Option Ctx
 | 0,_,_,_=>none
 | n+1,c,b,feed =>
  if c.st == 0 then (if b == 60 then some { c with st:=1 } else some c)
  else if c.st == 1 then (if (opened b).2 then some (opened b).1 else again n { c with st:=0 } b feed)
  else if c.st == 2 then some (closed b)
  else if Qi c.st then (if (tag c b).2 then again n (tag c b).1 b feed else some (tag c b).1)
  else if c.st == 8 then some (value c b)
  else if c.st == 17 || c.st == 18 || c.st == 19 then some (raw c b feed)
  else some (note c b)
end Sx
namespace Sx
theorem Gd (c:Ctx) (b:UInt8) (h:(named c b).2=true):(named c b).1.nm.length≤c.nm.length:=by
 unfold named at *
 cases h1:(b == 61 && c.nm != []) <;> cases h2:(b == 47 || b == 62) <;> cases h3:bj b <;> cases h4:(c.st == 6) <;> cases h5:(b == 34 || b == 39 || b == 60) <;> rw [h1,h2,h3,h4,h5] at h <;> first | (cases h;done) | exact Nat.zero_le _
theorem Ge (c:Ctx) (b:UInt8) (h:(dn c b).2=true):(dn c b).1.nm.length≤c.nm.length:=by
 unfold dn at *
 cases h3:bj b <;> cases h4:(b == 62) <;> cases h5:(b == 34 || b == 39) <;> rw [h3,h4,h5] at h <;> first | (cases h;done) | exact Nat.le_refl _
theorem N3 (c:Ctx) (b:UInt8) (h:(tag c b).2=true):(tag c b).1.nm.length≤c.nm.length:=by
 unfold tag at *
 cases h3:(c.st == 3) with
 | true =>
  rw [h3] at h
  cases h1:(!bj b && b != 47 && b != 62) <;> cases h2:c.en <;> rw [h1,h2] at h <;> first | (cases h;done) | exact Nat.zero_le _
 | false =>
 cases h9:(c.st == 9) with
 | true =>
  rw [h3,h9] at h
  cases h1:bj b <;> cases h2:(b == 47) <;> cases h4:(b == 62) <;> rw [h1,h2,h4] at h <;> cases h
 | false =>
 cases At:(c.st == 10) with
 | true =>
  rw [h3,h9,At] at h
  cases h1:(b == 62) <;> rw [h1] at h <;> first | (cases h;done) | exact Nat.zero_le _
 | false =>
 cases h4:(c.st == 4) with
 | true =>
  rw [h3,h9,At,h4] at h
  cases h1:bj b <;> cases h2:(b == 47 || b == 62) <;> cases h5:(b == 61) <;> rw [h1,h2,h5] at h <;> first | (cases h;done) | exact Nat.zero_le _ | exact Nat.le_refl _
 | false =>
 cases h7:(c.st == 7) with
 | true =>
  rw [h3,h9,At,h4,h7] at h
  exact Ge c b h
 | false =>
  rw [h3,h9,At,h4,h7] at h
  exact Gd c b h
end Sx
namespace Sx
open Go
def oY (s:UInt8):Nat:=if s == 1 || s == 3 || s == 5 || s == 7 then 2 else if s == 4 then 3 else if s == 6 || s == 10 then 4 else 1
theorem Au (c:Ctx) (b:UInt8) (h:(dn c b).2=true):oY (dn c b).1.st=1:=by
 unfold dn at *
 cases h3:bj b <;> cases h4:(b == 62) <;> cases h5:(b == 34 || b == 39) <;> rw [h3,h4,h5] at h <;> first | (cases h;done) | rfl
theorem Av (c:Ctx) (b:UInt8) (h:(named c b).2=true):oY (named c b).1.st=1∨(c.st == 6)=true∧oY (named c b).1.st=3:=by
 unfold named at *
 cases h1:(b == 61 && c.nm != []) <;> cases h2:(b == 47 || b == 62) <;> cases h3:bj b <;> cases h4:(c.st == 6) <;> cases h5:(b == 34 || b == 39 || b == 60) <;> rw [h1,h2,h3,h4,h5] at h <;> first | (cases h;done) | exact .inl rfl | exact .inr ⟨rfl,rfl⟩
theorem Gf (c:Ctx) (b:UInt8) (hT:Qi c.st=true) (h:(tag c b).2=true):oY (tag c b).1.st < oY c.st:=by
 unfold tag at *
 cases h3:(c.st == 3) with
 | true =>
  rw [h3] at h
  rw [eq_of_beq h3]
  cases h1:(!bj b && b != 47 && b != 62) <;> cases h2:c.en <;> rw [h1,h2] at h <;> first | (cases h;done) | (show 1 < 2;omega)
 | false =>
 cases h9:(c.st == 9) with
 | true =>
  rw [h3,h9] at h
  cases h1:bj b <;> cases h2:(b == 47) <;> cases h4:(b == 62) <;> rw [h1,h2,h4] at h <;> cases h
 | false =>
 cases At:(c.st == 10) with
 | true =>
  rw [h3,h9,At] at h
  rw [eq_of_beq At]
  cases h1:(b == 62) <;> rw [h1] at h <;> first | (cases h;done) | (show 3 < 4;omega)
 | false =>
 cases h4:(c.st == 4) with
 | true =>
  rw [h3,h9,At,h4] at h
  rw [eq_of_beq h4]
  cases h1:bj b <;> cases h2:(b == 47 || b == 62) <;> cases h5:(b == 61) <;> rw [h1,h2,h5] at h <;> first | (cases h;done) | (show 1 < 3;omega) | (show 2 < 3;omega)
 | false =>
 cases h7:(c.st == 7) with
 | true =>
  rw [h3,h9,At,h4,h7] at h
  have:=Au c b h
  show oY (dn c b).1.st < oY c.st
  rw [this,eq_of_beq h7];show 1 < 2;omega
 | false =>
  rw [h3,h9,At,h4,h7] at h
  show oY (named c b).1.st < oY c.st
  have N4:(c.st == 5)=true∨(c.st == 6)=true:=by
   unfold Qi at hT
   rw [h3,h4,h7,h9,At] at hT
   simpa using hT
  rcases Av c b h with e | ⟨h6,e⟩
  ·rw [e]
   rcases N4 with h | h <;> rw [eq_of_beq h]
   ·show 1 < 2;omega
   ·show 1 < 4;omega
  ·rw [e,eq_of_beq h6];show 3 < 4;omega
theorem mV (b:UInt8) (feed:Bool):∀ (n:Nat) (c:Ctx),oY c.st≤n→∃ d,again n c b feed=some d
 | 0,c,h=>by
  unfold oY at h
  repeat' split at h
  all_goals omega
 | n+1,c,h=>by
  unfold again
  split
  ·split <;> exact ⟨_,rfl⟩
  ·split
   ·rename_i h1
    split
    ·exact ⟨_,rfl⟩
    ·refine mV b feed n _ ?_
     rw [eq_of_beq h1] at h
     have h':2≤n+1:=h
     show 1≤n;omega
   ·split
    ·exact ⟨_,rfl⟩
    ·split
     ·rename_i hT
      split
      ·rename_i h4
       refine mV b feed n _ ?_
       have:=Gf c b hT h4
       omega
      ·exact ⟨_,rfl⟩
     ·split
      ·exact ⟨_,rfl⟩
      ·split <;> exact ⟨_,rfl⟩
theorem Ka (s:UInt8):oY s≤4:=by
 unfold oY
 repeat' split
 all_goals omega
def mv (c:Ctx) (b:UInt8) (feed:Bool):Ctx:=if form c then (again 4 c b feed).getD bc else bc
theorem wg (c:Ctx) (b:UInt8) (feed:Bool) (h:form c=true):again 4 c b feed=some (mv c b feed):=by
 obtain ⟨d,hd⟩:=mV b feed 4 c (Ka c.st)
 unfold mv
 rw [h,hd];rfl
theorem Aw (c:Ctx) (b:UInt8) (feed:Bool) (h:form c=false):mv c b feed=bc:=by
 unfold mv
 rw [h];rfl
def jZ (c:Ctx) (b:UInt8):Ctx:=mv c b true
theorem dL {p:Prop} [Decidable p] {q:Bool} (h:(if p then false else q)=true):¬ p∧q=true:=by
 split at h
 ·cases h
 ·rename_i hp;exact ⟨hp,h⟩
theorem uJ (c:Ctx) (h:form c=true):(if c.st == 3 || c.st == 5 || c.st == 6 then small c.nm 32 else if c.st == 8 && c.at' == 1 && c.pa == 1 then small c.nm 16 else if c.st == 19 then pre c.nm (nameOf c.el) else c.nm == [])=true:=by
 unfold form at h
 exact (dL (dL (dL (dL (dL (dL (dL (dL (dL h).2).2).2).2).2).2).2).2).2
theorem N5 {p l:List UInt8} (h:pre p l=true):p.length≤l.length:=by
 simp only [pre,Bool.and_eq_true,decide_eq_true_eq] at h
 exact h.1
theorem D5 (el:UInt8):(nameOf el).length≤8:=of_decide_eq_true (fB (p:=fun el=>decide ((nameOf el).length≤8)) (by kernel_rfl) el)
theorem oZ {l:List UInt8} {n:Int} (h:small l n=true):1≤l.length∧(l.length:Int)≤n:=by
 simp only [small,Bool.and_eq_true,decide_eq_true_eq] at h
 exact h.2
theorem wh (c:Ctx) (h:form c=true):c.nm.length≤32:=by
 have h:=uJ c h
 split at h
 ·have:=oZ h;omega
 ·split at h
  ·have:=oZ h;omega
  ·split at h
   ·have:=N5 h;have:=D5 c.el;omega
   ·rw [eq_of_beq h];simp
end Sx
end
