/-
  A part of InferTemplates's proof.
-/
import Derived.Test.YtgjfbalafdifgaaGreatDoorTB
import Derived.Test.YtgjfbalafdifgaaGreatDoorTF
import Derived.Test.YtgjfbalafdifgaaGreatDoorTD
import Derived.Test.YtgjfbalafdifgaaGreatDoorProg
import Derived.Test.YtgjfbalafdifgaaGreatDoorTE
noncomputable section
namespace eA
open Go Go.Proofs Sx R3
variable {mx:Int}
theorem PQ (x:Nd):AV.one (AV.int (x.at':Int))=some (.int (x.at':Int)):=rfl
theorem Iw {A R:List Nd} {x:Nd} (hk:x.kind=2∨x.kind=3) {c:Ctx} {top:AV} {a:Int} {r:AV}
  (h:xD (af (C mx) Tryz.prog 39 Tryz.f39) c.st c.el c.en c.at' c.qu c.pa c.su c.es c.da c.nm 0 0 false 0 0 0 0 false 0 [] (AV.cell (mh x) 0) (.int (x.at':Int)) (AV.cell (mh x) 2) (AV.cell (mh x) 3) (AV.cell (mh x) 4) (.ro 1 (aA (x.body.getD []))) (.ro 1 (aA (x.els.getD []))) (AV.cell (mh x) 7) (AV.cell (mh x) 8) ((A ++ x :: R).map mh) top a 0=some r) :
  ae (C mx) Tryz.prog 39 [.un, .int (A.length:Int),c.au,lg (A ++ x :: R) top a 0]=some r:=by
 have go:∀ {r:AV},I2 (A.length:Int) c.st c.el c.en c.at' c.qu c.pa c.su c.es c.da c.nm ((A ++ x :: R).map mh) top a 0 (ae (C mx) Tryz.prog) (af (C mx) Tryz.prog 39 Tryz.f39)=some r→ae (C mx) Tryz.prog 39 [.un, .int (A.length:Int),c.au,lg (A ++ x :: R) top a 0]=some r:=fun h=>ZL _ _ _ _ _ _ _ _ _ _ _ _ _ _ _ h
 have z20:((2:Int) == 0)=false:=rfl
 have z21:((2:Int) == 1)=false:=rfl
 have z30:((3:Int) == 0)=false:=rfl
 have z31:((3:Int) == 1)=false:=rfl
 have z32:((3:Int) == 2)=false:=rfl
 apply go
 rcases hk with k | k
 ·simp only [I2,tN,tM,Option.bind_some,ia,k,cv2,aZ,z20,z21,ai,Bool.false_eq_true,if_false,beq_self_eq_true,if_true]
  rw [← k]
  exact h
 ·simp only [I2,tN,tM,Option.bind_some,ia,k,cv3,aZ,z30,z31,z32,ai,Bool.false_eq_true,if_false,beq_self_eq_true,if_true]
  rw [← k]
  exact h
theorem Dv {A R:List Nd} {x:Nd} (hk:x.kind=2∨x.kind=3) {c d1:Ctx} {N1:List Nd} {top:AV} {a a1 e1:Int}
  (h1:ae (C mx) Tryz.prog 22 [.un, .ro 1 (aA (x.body.getD [])),c.au,lg (A ++ x :: R) top a 0]=some (.tu [d1.au,lg N1 top a1 e1])) (he:e1≠0) :
  ae (C mx) Tryz.prog 39 [.un, .int (A.length:Int),c.au,lg (A ++ x :: R) top a 0]=some (.tu [d1.au,lg N1 top a1 e1]):=by
 apply Iw hk
 apply Ir
 have z:(e1 == 0)=false:=by simpa using he
 unfold lg at h1
 simp only [BC,az,aF,h1,Option.bind_some,iZ,ja,mi,ao,zT,kU,kV,kW,kX,bE,aZ,z,ai,Bool.false_eq_true,if_false]
 apply It
 simp only [BD,aZ,Option.bind_some,z,eZ,ai,Bool.false_eq_true,if_false]
 apply BE
 rfl
theorem xF {A R:List Nd} {x:Nd} (hk:x.kind=2∨x.kind=3) {c d1 d2:Ctx} {N1 N2:List Nd} {top:AV} {a a1 a2 e2:Int}
  (h1:ae (C mx) Tryz.prog 22 [.un, .ro 1 (aA (x.body.getD [])),c.au,lg (A ++ x :: R) top a 0]=some (.tu [d1.au,lg N1 top a1 0]))
  (h2:ae (C mx) Tryz.prog 22 [.un, .ro 1 (aA (x.els.getD [])),c.au,lg N1 top a1 0]=some (.tu [d2.au,lg N2 top a2 e2])) :
  ae (C mx) Tryz.prog 39 [.un, .int (A.length:Int),c.au,lg (A ++ x :: R) top a 0]=some (.tu [d1.au,if (e2 == 0 && !decide (d1=d2))=true then lg N2 top (x.at':Int) 7 else lg N2 top a2 e2]):=by
 apply Iw hk
 apply Ir
 unfold lg at h1 h2
 simp only [BC,az,aF,h1,Option.bind_some,iZ,ja,mi,ao,zT,kU,kV,kW,kX,bE,aZ,beq_self_eq_true,ai,if_true,h2]
 apply It
 simp only [BD,aZ,Option.bind_some,az,aF,iF,ax,ai,PQ]
 split
 ·apply BE
  rfl
 ·apply BE
  rfl
theorem tO:∀ (ts:Ts) (pre:List Nat) (c:Ctx) (A B:List Nd) (x:Int) (top:AV),ts.ok→lY c→(∀ w ∈ ts.flat,w.at'≤1000000000∧w.text.length≤1000000000)→pre.length+ts.size≤1000000 →
  (∀ d:Ctx,bG ts c=.ok d→LF mx (pre ++ ts.aH A.length) pre.length c (A ++ (ts.arr A.length ++ B)) top x 0=some (.tu [d.au,lg (A ++ (cd A.length ts c ++ B)) top x 0])∧lY d) ∧
  (∀ a e,bG ts c=.bad a e→e≠0∧∃ (c':Ctx) (N':List Nd),LF mx (pre ++ ts.aH A.length) pre.length c (A ++ (ts.arr A.length ++ B)) top x 0=some (.tu [c'.au,lg N' top a e]))
 | .nil,pre,c,A,B,x,top,ho,hc,hw,hn=>by
  refine ⟨fun d h=>?_,fun a e h=>by simp [bG] at h⟩
  simp only [bG,WR.ok.injEq] at h
  subst h
  exact ⟨Du (by simp [Ts.aH]) _ _ _ _ _,hc⟩
 | .leaf w k,pre,c,A,B,x,top,ho,hc,hw,hn=>by
  obtain ⟨⟨k2,k3,k4,k5⟩,hk⟩:=ho
  simp only [Ts.size] at hn
  have ht:=cE k (A.length+1)
  have hL:(pre ++ A.length :: k.aH (A.length+1)).length≤1000000:=by simp only [List.length_append,List.length_cons];omega
  have hi:(pre ++ A.length :: k.aH (A.length+1))[pre.length]?=some A.length:=by simp
  have he:A ++ (Ts.arr A.length (.leaf w k) ++ B)=A ++ dc w :: (k.arr (A.length+1) ++ B):=by simp [Ts.arr]
  obtain ⟨n1,n2⟩:=Iv (mx:=mx) k2 k4 (hw w (by simp [Ts.flat])) hc A (k.arr (A.length+1) ++ B) top x
  have ih:=fun c1 qH=>tO k (pre ++ [A.length]) c1 (A ++ [fv w c]) B x top hk qH (fun y hy=>hw y (by simp [Ts.flat,hy])) (by simp only [List.length_append,List.length_cons,List.length_nil];omega)
  simp only [List.length_append,List.length_cons,List.length_nil,Nat.zero_add,List.append_assoc,List.singleton_append] at ih
  show (∀ d:Ctx,_→LF mx (pre ++ A.length :: k.aH (A.length+1)) pre.length c _ top x 0=_∧_)∧(∀ a e,_→_∧∃ c' N',LF mx (pre ++ A.length :: k.aH (A.length+1)) pre.length c _ top x 0=_)
  rw [he]
  refine ⟨fun d h=>?_,fun a e h=>?_⟩
  ·unfold bG at h
   cases hl:fX w c with
   | bad a e=>rw [hl] at h;cases h
   | ok c1 =>
    rw [hl] at h
    have h:bG k c1=.ok d:=h
    obtain ⟨g1,g2⟩:=n1 c1 hl
    obtain ⟨i1,i2⟩:=(ih c1 g2).1 d h
    refine ⟨(fY hi hL g1 i1).trans ?_,i2⟩
    simp only [cd,hl,WR.get,List.cons_append]
  ·unfold bG at h
   cases hl:fX w c with
   | bad a' e' =>
    rw [hl] at h;cases h
    obtain ⟨g1,d,g2⟩:=n2 a e hl
    exact ⟨g1,d,_,fY hi hL g2 (lQ _ _ _ _ g1)⟩
   | ok c1 =>
    rw [hl] at h
    have h:bG k c1=.bad a e:=h
    obtain ⟨g1,g2⟩:=n1 c1 hl
    obtain ⟨i1,c',N',i2⟩:=(ih c1 g2).2 a e h
    exact ⟨i1,c',N',fY hi hL g1 i2⟩
 | .lL w b e' k,pre,c,A,B,x,top,ho,hc,hw,hn=>by
  obtain ⟨hk,ke,hb,oK⟩:=ho
  simp only [Ts.size] at hn
  have ht:=cE k (A.length+1+b.size)
  have hL:(pre ++ A.length :: k.aH (A.length+1+b.size)).length≤1000000:=by simp only [List.length_append,List.length_cons];omega
  have hi:(pre ++ A.length :: k.aH (A.length+1+b.size))[pre.length]?=some A.length:=by simp
  have he:A ++ (Ts.arr A.length (.lL w b e' k) ++ B)=A ++ iq w (b.aH (A.length+1)) :: (b.arr (A.length+1) ++ (k.arr (A.length+1+b.size) ++ B)):=by simp [Ts.arr]
  have HS:A ++ (cd A.length (.lL w b e' k) c ++ B)=A ++ iq w (b.aH (A.length+1)) :: (cd (A.length+1) b c ++ (cd (A.length+1+b.size) k c ++ B)):=by simp [cd]
  show (∀ d:Ctx,_→LF mx (pre ++ A.length :: k.aH (A.length+1+b.size)) pre.length c _ top x 0=_∧_)∧(∀ a e,_→_∧∃ c' N',LF mx (pre ++ A.length :: k.aH (A.length+1+b.size)) pre.length c _ top x 0=_)
  rw [he,HS]
  clear he HS
  have xT:(iq w (b.aH (A.length+1))).kind=2∨(iq w (b.aH (A.length+1))).kind=3:=zs hk
  have C8:(iq w (b.aH (A.length+1))).body.getD []=b.aH (A.length+1):=rfl
  have BR:(iq w (b.aH (A.length+1))).els.getD []=[]:=rfl
  have EZ:(iq w (b.aH (A.length+1))).at'=w.at':=rfl
  generalize iq w (b.aH (A.length+1))=nd at xT C8 BR EZ ⊢
  have vL:=tO b [] c (A ++ [nd]) (k.arr (A.length+1+b.size) ++ B) x top hb hc (fun y hy=>hw y (by simp [Ts.flat,hy])) (by simp only [List.length_nil];omega)
  simp only [List.length_append,List.length_cons,List.length_nil,Nat.zero_add,List.append_assoc,List.singleton_append,List.nil_append] at vL
  have xn:=fun c1 qH=>tO k (pre ++ [A.length]) c1 (A ++ nd :: cd (A.length+1) b c) B x top oK qH (fun y hy=>hw y (by simp [Ts.flat,hy])) (by simp only [List.length_append,List.length_cons,List.length_nil];omega)
  simp only [List.length_append,List.length_cons,List.length_nil,Nat.zero_add,de,List.append_assoc,List.cons_append,List.nil_append] at xn
  rw [show A.length+(b.size+1)=A.length+1+b.size by omega] at xn
  have HR:∀ a,bG b c=.ok a→ae (C mx) Tryz.prog 39 [.un, .int (A.length:Int),c.au,lg (A ++ nd :: (b.arr (A.length+1) ++ (k.arr (A.length+1+b.size) ++ B))) top x 0]=some (.tu [a.au,if a=c then lg (A ++ nd :: (cd (A.length+1) b c ++ (k.arr (A.length+1+b.size) ++ B))) top x 0 else lg (A ++ nd :: (cd (A.length+1) b c ++ (k.arr (A.length+1+b.size) ++ B))) top (w.at':Int) 7]):=fun a h=>by
   have h1:=LK (vL.1 a h).1
   rw [← C8] at h1
   have h2:=LK (Du (mx:=mx) (L:=nd.els.getD []) (j:=0) (by rw [BR];exact Nat.le_refl _) c (A ++ nd :: (cd (A.length+1) b c ++ (k.arr (A.length+1+b.size) ++ B))) top x 0)
   rw [xF xT h1 h2,EZ]
   by_cases IZ:a=c
   ·rw [if_neg (by simp [IZ]),if_pos IZ]
   ·rw [if_pos (by simp [IZ]),if_neg IZ]
  refine ⟨fun d h=>?_,fun a e h=>?_⟩
  ·unfold bG at h
   cases hl:bG b c with
   | bad a e=>rw [hl] at h;cases h
   | ok c1 =>
    rw [hl] at h
    have h:(if c1=c then bG k c else _)=WR.ok d:=h
    by_cases qH:c1=c
    ·rw [if_pos qH] at h
     have g:=HR c1 hl
     rw [if_pos qH] at g
     subst qH
     obtain ⟨i1,i2⟩:=(xn c1 hc).1 d h
     exact ⟨fY hi hL g i1,i2⟩
    ·rw [if_neg qH] at h;cases h
  ·unfold bG at h
   cases hl:bG b c with
   | bad a' e' =>
    rw [hl] at h;cases h
    obtain ⟨g1,c',N',g2⟩:=vL.2 a e hl
    have h1:=LK g2
    rw [← C8] at h1
    exact ⟨g1,_,_,fY hi hL (Dv xT h1 g1) (lQ _ _ _ _ g1)⟩
   | ok c1 =>
    rw [hl] at h
    have h:(if c1=c then bG k c else _)=WR.bad a e:=h
    have g:=HR c1 hl
    by_cases qH:c1=c
    ·rw [if_pos qH] at h g
     subst qH
     obtain ⟨i1,c',N',i2⟩:=(xn c1 hc).2 a e h
     exact ⟨i1,c',N',fY hi hL g i2⟩
    ·rw [if_neg qH] at h g;cases h
     exact ⟨by decide,_,_,fY hi hL g (lQ _ _ _ _ (by decide))⟩
 | .alt w b l y e' k,pre,c,A,B,x,top,ho,hc,hw,hn=>by
  obtain ⟨hk,kl,ke,hb,hy,oK⟩:=ho
  simp only [Ts.size] at hn
  have ht:=cE k (A.length+1+b.size+y.size)
  have hL:(pre ++ A.length :: k.aH (A.length+1+b.size+y.size)).length≤1000000:=by simp only [List.length_append,List.length_cons];omega
  have hi:(pre ++ A.length :: k.aH (A.length+1+b.size+y.size))[pre.length]?=some A.length:=by simp
  have he:A ++ (Ts.arr A.length (.alt w b l y e' k) ++ B)=A ++ jd w (b.aH (A.length+1)) (y.aH (A.length+1+b.size)) :: (b.arr (A.length+1) ++ (y.arr (A.length+1+b.size) ++ (k.arr (A.length+1+b.size+y.size) ++ B))):=by simp [Ts.arr]
  have HS:A ++ (cd A.length (.alt w b l y e' k) c ++ B)=A ++ jd w (b.aH (A.length+1)) (y.aH (A.length+1+b.size)) :: (cd (A.length+1) b c ++ (cd (A.length+1+b.size) y c ++ (cd (A.length+1+b.size+y.size) k ((bG b c).get c) ++ B))):=by simp [cd]
  show (∀ d:Ctx,_→LF mx (pre ++ A.length :: k.aH (A.length+1+b.size+y.size)) pre.length c _ top x 0=_∧_)∧(∀ a e,_→_∧∃ c' N',LF mx (pre ++ A.length :: k.aH (A.length+1+b.size+y.size)) pre.length c _ top x 0=_)
  rw [he,HS]
  clear he HS
  have xT:(jd w (b.aH (A.length+1)) (y.aH (A.length+1+b.size))).kind=2∨(jd w (b.aH (A.length+1)) (y.aH (A.length+1+b.size))).kind=3:=.inl (by show bf w.kind=2;rw [hk];rfl)
  have C8:(jd w (b.aH (A.length+1)) (y.aH (A.length+1+b.size))).body.getD []=b.aH (A.length+1):=rfl
  have BR:(jd w (b.aH (A.length+1)) (y.aH (A.length+1+b.size))).els.getD []=y.aH (A.length+1+b.size):=rfl
  have EZ:(jd w (b.aH (A.length+1)) (y.aH (A.length+1+b.size))).at'=w.at':=rfl
  generalize jd w (b.aH (A.length+1)) (y.aH (A.length+1+b.size))=nd at xT C8 BR EZ ⊢
  have vL:=tO b [] c (A ++ [nd]) (y.arr (A.length+1+b.size) ++ (k.arr (A.length+1+b.size+y.size) ++ B)) x top hb hc (fun z hz=>hw z (by simp [Ts.flat,hz])) (by simp only [List.length_nil];omega)
  simp only [List.length_append,List.length_cons,List.length_nil,Nat.zero_add,List.append_assoc,List.singleton_append,List.nil_append] at vL
  have Ls:=tO y [] c (A ++ nd :: cd (A.length+1) b c) (k.arr (A.length+1+b.size+y.size) ++ B) x top hy hc (fun z hz=>hw z (by simp [Ts.flat,hz])) (by simp only [List.length_nil];omega)
  simp only [List.length_append,List.length_cons,List.length_nil,de,List.append_assoc,List.cons_append,List.nil_append] at Ls
  rw [show A.length+(b.size+1)=A.length+1+b.size by omega] at Ls
  have xn:=fun c1 qH=>tO k (pre ++ [A.length]) c1 (A ++ nd :: (cd (A.length+1) b c ++ cd (A.length+1+b.size) y c)) B x top oK qH (fun z hz=>hw z (by simp [Ts.flat,hz])) (by simp only [List.length_append,List.length_cons,List.length_nil];omega)
  simp only [List.length_append,List.length_cons,List.length_nil,Nat.zero_add,de,List.append_assoc,List.cons_append,List.nil_append] at xn
  rw [show A.length+(b.size+y.size+1)=A.length+1+b.size+y.size by omega] at xn
  have mb:bG (.alt w b l y e' k) c=(bG b c).then' fun a=>(bG y c).then' fun z=>if a=z then bG k z else .bad (w.at':Int) 7:=rfl
  simp only [mb]
  cases hl:bG b c with
  | bad a1 e1 =>
   refine ⟨fun d h=>(by cases h),fun a e h=>?_⟩
   cases h
   obtain ⟨i1,c',N',i2⟩:=vL.2 _ _ hl
   have h1:=LK i2
   rw [← C8] at h1
   exact ⟨i1,_,_,fY hi hL (Dv xT h1 i1) (lQ _ _ _ _ i1)⟩
  | ok a1 =>
   have h1:=LK (vL.1 a1 hl).1
   rw [← C8] at h1
   cases hr:bG y c with
   | bad a2 e2 =>
    refine ⟨fun d h=>(by cases h),fun a e h=>?_⟩
    cases h
    obtain ⟨j1,c',N',j2⟩:=Ls.2 _ _ hr
    have h2:=LK j2
    rw [← BR] at h2
    have g:=xF xT h1 h2
    rw [if_neg (by simp [j1])] at g
    exact ⟨j1,_,_,fY hi hL g (lQ _ _ _ _ j1)⟩
   | ok a2 =>
    obtain ⟨j1,j2⟩:=Ls.1 a2 hr
    have h2:=LK j1
    rw [← BR] at h2
    have g:=xF xT h1 h2
    rw [EZ] at g
    show (∀ d,(if a1=a2 then bG k a2 else _)=WR.ok d→_)∧(∀ a e,(if a1=a2 then bG k a2 else _)=WR.bad a e→_)
    by_cases qH:a1=a2
    ·subst qH
     simp only [if_true]
     rw [if_neg (by simp)] at g
     refine ⟨fun d h=>?_,fun a e h=>?_⟩
     ·obtain ⟨i1,i2⟩:=(xn a1 j2).1 d h
      exact ⟨fY hi hL g i1,i2⟩
     ·obtain ⟨i1,c',N',i2⟩:=(xn a1 j2).2 a e h
      exact ⟨i1,c',N',fY hi hL g i2⟩
    ·simp only [if_neg qH]
     rw [if_pos (by simp [qH])] at g
     refine ⟨fun d h=>(by cases h),fun a e h=>?_⟩
     cases h
     exact ⟨by decide,_,_,fY hi hL g (lQ _ _ _ _ (by decide))⟩
end eA
namespace HU
open Go Go.Proofs Go.RowKit Go.Shelf Sx R3 eA
variable {mx:Int}
def jV (l:List UInt8) (c:Ctx):AV :=
 if !form c || c.st == 20 then .tu [dr,(bC 0).au, .int 0, .int 1]
 else match dp l with
  | .bad a e=>.tu [dr,(bC 0).au, .int (a:Int), .int (e:Int)]
  | .ok nodes top=>match db (2 * nodes.length+1) top c ⟨nodes,0,0⟩ with
   | none=>.un
   | some (d,t)=>if t.e != 0 then .tu [dr,(bC 0).au, .int t.at', .int t.e] else .tu [.ag [.ro 9 (t.nodes.map mh), .ro 1 (aA top)],d.au, .int 0, .int 0]
theorem Iy {l:List UInt8} {a e:Nat} (h:dp l=.bad a e):xw l=.bad a e:=by
 unfold dp at h
 unfold xw
 split at h
 ·rename_i h1
  rw [if_pos h1];cases h;rfl
 ·rename_i h1
  rw [if_neg h1]
  split at h
  ·rename_i h2
   rw [if_pos h2];cases h;rfl
  ·rename_i h2
   rw [if_neg h2]
   exact EC h
theorem Dw {l:List UInt8} {nodes:List Nd} {top:List Nat} (h:dp l=.ok nodes top):∃ ts:Ts,ts.ok∧nodes=ts.arr 0∧top=ts.aH 0∧xw l=.ok (nodes.map Nd.mn) top∧(nodes.map Nd.mn).map Mn.av=nodes.map mh∧ts.size≤65536∧(∀ w ∈ ts.flat,w.at'≤65536∧w.text.length≤65536)∧∀ w ∈ ts.flat,cR w.names:=by
 unfold dp at h
 unfold xw
 split at h
 ·cases h
 ·rename_i h1
  rw [if_neg h1]
  split at h
  ·cases h
  ·rename_i h2
   rw [if_neg h2]
   obtain ⟨ts,t1,t2,t3,rfl,rfl⟩:=uX h
   have hw:=gm (l.length+1) l 0 [] 65536 (by omega) (fun w hw=>by simp at hw)
   have hw:∀ w ∈ (bl l).1,w.at'≤65536∧w.text.length≤65536:=hw
   have hlen:=fD (l.length+1) l 0 []
   have hlen:(bl l).1.length≤l.length:=by simpa [bl] using hlen
   have hn:∀ w ∈ (bl l).1,cR w.names:=gX _ _ _ _ fun w hw=>by simp at hw
   rw [t3] at hw hlen hn
   have hs:=Ts.fQ ts
   refine ⟨ts,t1,rfl,rfl,by rw [t3,HV t1 t2,nr],?_,by omega,hw,hn⟩
   rw [List.map_map]
   exact List.map_congr_left fun x hx=>(To (ld ts 0 x hx).1).symm
theorem Iz {w:World} {F:Nat→Prop} (hG:aN (eA.C mx) w F) (s q:ByteArray) (c:Ctx) (hc:lY c) (hq:q.data.toList=c.nm) :
  CallsIn Fence.wide 12 Tryz.prog 11 #[.string s,dq c q] w (bF w F (jV s.data.toList c)):=by
 unfold jV
 cases hf:form c with
 | false=>exact pg hG hc hq hf
 | true =>
  cases cq:c.st == 20 with
  | true=>exact ph hG hc hq hf cq
  | false =>
   simp only [Bool.not_true,Bool.or_self,Bool.false_eq_true,if_false]
   cases hp:dp s.data.toList with
   | bad a e=>exact nh hG hc hq hf cq (nj hp) (Iy hp)
   | ok nodes top =>
    obtain ⟨ts,g0,rfl,rfl,g1,g2,g3,g4,-⟩:=Dw hp
    have cg:=cE ts 0
    have Fh:(ts.arr 0).length=ts.size:=Ts.eE ts 0
    obtain ⟨k1,k2⟩:=fJ ts c [] [] 0 (2 * (ts.arr 0).length+1) g0 (by rw [Fh];exact Nat.le_refl _)
    obtain ⟨r1,r2⟩:=tO (mx:=mx) ts [] c [] [] 0 (.ro 1 (aA (ts.aH 0))) g0 hc (fun w hw=>by have:=g4 w hw;omega) (by simp only [List.length_nil];omega)
    simp only [List.length_nil,List.nil_append,List.append_nil] at k1 k2 r1 r2
    have Tp:∀ {r:AV},ae (eA.C mx) Tryz.prog 22 [.un, .ro 1 (aA (ts.aH 0)),c.au,lg (ts.arr 0) (.ro 1 (aA (ts.aH 0))) 0 0]=some r→ae (eA.C mx) Tryz.prog 22 [.un, .ro 1 (aA (ts.aH 0)),c.au, .ag [.ro 9 (((ts.arr 0).map Nd.mn).map Mn.av), .ro 1 (aA (ts.aH 0)), .int 0, .int 0]]=some r:=fun h=>by rw [g2];exact h
    dsimp only
    cases mb:bG ts c with
    | ok d =>
     rw [k1 d mb]
     exact xl hG hc hq hf cq g1 (Tp (LK (r1 d mb).1)) rfl
    | bad a e =>
     obtain ⟨h1,c',N',h2⟩:=k2 a e mb
     obtain ⟨_,c2,N2,h3⟩:=r2 a e mb
     rw [h2]
     simp only
     rw [if_pos (by simpa using h1)]
     exact sY hG hc hq hf cq g1 (Tp (LK h3)) h1
def Tq (args:List AV):Option AV :=
 match args with
 | [.s l,a]=>match C9 a with
  | some c=>if c.nm.length < 9223372036854775808 then some (jV l c) else none
  | none=>none
 | _=>none
theorem LL {C':cS} {mx:Int} (AG:C'.glob=(eA.C mx).glob) (ho:(C'.own 11).all Option.isNone=true) (args:List AV) (r:AV) (h:Tq args=some r) (w:World) (F:Nat→Prop) (vs:Array Value) (hG:aN C' w F) (hl:vs.size=args.length)
  (hv:∀ (j:Nat) (a:AV) (v:Value),args[j]?=some a→vs[j]?=some v→Rel w F a v):dJ Tryz.prog 11 vs w (fU C' 11 w F r):=by
 have Xl:aN (eA.C mx) w F:=fun g k e hg=>hG g k e (by rw [AG];exact hg)
 unfold Tq at h
 split at h
 ·rename_i l a
  split at h
  ·rename_i c hc
   split at h
   ·rename_i hn
    cases h
    obtain rfl:=zt hc
    match vs,hl,hv with
    | ⟨[x,y]⟩,_,hv =>
     have hx:=hv 0 _ x rfl rfl
     have hy:=hv 1 _ y rfl rfl
     cases hx with
     | s p =>
      obtain ⟨q,hq,rfl⟩:=rA hy
      refine .inl ⟨Tryz.f11,(Tryz.f11.body).getD .skip,Tryz.func11,by kernel_rfl,by kernel_rfl,Calls.mono (callsIn_wide.1 (Iz (mx:=mx) Xl p q c hn hq)) fun e w' he=>?_⟩
      obtain ⟨hx,v,rfl,hr⟩:=he
      refine ⟨_,rfl,hx,?_⟩
      unfold eV
      rw [if_pos ho]
      exact hr
   ·cases h
  ·cases h
 ·cases h
end HU
namespace R3
open Go Go.Proofs Sx
variable {mx:Int}
def Dx (run:RunT) (a b:AV) (d:Int):Option AV :=
 run ((bL 4 ((Tryz.f27.body).getD .skip) []).getD []) (St.bU [(0, .cell (.val a)),(1, .cell (.val b)),(5, .cell (.val (.int d)))] [])
def ZP (a b:AV) (c:al) (r:RunT):Option AV :=
 (eP a).bind fun d=>(eP b).bind fun e=>(aD .neq d e).bind fun f=>ah f
 (some (.b false))
 (Dx r a b 0)
theorem c27 (a b) {r:AV} (h:ZP a b (ae (C mx) Tryz.prog) (af (C mx) Tryz.prog 27 Tryz.f27)=some r):ae (C mx) Tryz.prog 27 [a,b]=some r :=
 aj (fun _ _=>by kernel_rfl) h
def IA (a b:AV) (d:Int) (c:al) (r:RunT):Option AV :=
 (eP a).bind fun e=>(aD .lss (.int d) e).bind fun f=>ah f
 ((idx 1 a (.int d)).bind fun g=>(idx 1 b (.int d)).bind fun i=>(aD .neq (AV.cell g 0) (AV.cell i 0)).bind fun j=>ah j
 (some (.b false))
 (Dx r a b (bJ (d+1))))
 (some (.b true))
theorem MZ (a b d) {r:AV} (h:IA a b d (ae (C mx) Tryz.prog) (af (C mx) Tryz.prog 27 Tryz.f27)=some r):Dx (af (C mx) Tryz.prog 27 Tryz.f27) a b d=some r :=
 ak (fun _ _=>by kernel_rfl) h
end R3
namespace R3
open Go Go.RowKit Sx
section
variable {P:Program} {ops:Array Oper} {nc:List Nat} {Q:Exit→Act→World→Prop} {E:World→World→Prop}
theorem tP {id:Nat} {a:Act} {w:World} (hm:P.follows .mixedOrders=true) (nc:List Nat) (E:World→World→Prop) (l:List (Nat×Bool)) (i j:Nat) (l2 l3:List (Nat×Bool)) (L:List Bool)
  (hp:qp ops nc (fun listed=>decide (listed=L.toArray)) (Array.replicate ops.size false) l=true)
  (ZQ:Region.ready .any ops L.toArray=[i,j])
  (h2:qp ops nc (fun listed=>(Region.ready .any ops listed).isEmpty) (L.toArray.setIfInBounds i true) l2=true)
  (h3:qp ops nc (fun listed=>(Region.ready .any ops listed).isEmpty) (L.toArray.setIfInBounds j true) l3=true)
  (hlen:Nat.beq (l.length+(l2.length+1)) ops.size=true) (Tt:Nat.beq l3.length l2.length=true) (hs:Region.noSelect ops=true)
  (hr:∀ w,E w w) (ht:∀ u v w,E u v→E v w→E u w)
  (h:tW P ops nc (NoPanic Q) E l (fun a w=>tW P ops nc (NoPanic Q) E ((i,false) :: l2) (fun a w=>Q .normal a w) a w∧tW P ops nc (NoPanic Q) E ((j,false) :: l3) (fun a w=>Q .normal a w) a w) a w.drew):(Code.region id ops true).wp P Q a w:=by
 refine wp_region_noPanic ?_
 refine wp_region_any hm ?_
 have hl:=Nat.eq_of_beq_eq_true hlen
 have EV:=Nat.eq_of_beq_eq_true Tt
 have fin:∀ (l:List (Nat×Bool)) (listed:Array Bool) (a:Act) (w:World),fy ops listed→qp ops nc (fun listed=>(Region.ready .any ops listed).isEmpty) listed l=true→tW P ops nc (NoPanic Q) E l (fun a w=>Q .normal a w) a w→pA P ops nc (NoPanic Q) E (l.length+0) listed a w:=fun l listed a w jx xJ hw =>
  fR (m:=0) hr ht hs (fun _ _ _ h=>h) (fun listed a w jx hk hn=>⟨by simpa using hk,hn⟩) l listed a w jx xJ hw
 have key:=fR (m:=l2.length+1) hr ht hs (fun _ _ _ h=>h) (k:=fun listed=>decide (listed=L.toArray)) (N:=fun a w=>tW P ops nc (NoPanic Q) E ((i,false) :: l2) (fun a w=>Q .normal a w) a w∧tW P ops nc (NoPanic Q) E ((j,false) :: l3) (fun a w=>Q .normal a w) a w)
  (fun listed a w jx hk hn=>by
   obtain rfl:=of_decide_eq_true hk
   refine ⟨fun e=>(by rw [ZQ] at e;cases e),fun q hq=>?_⟩
   have qN:=hq
   rw [ZQ] at qN
   simp only [List.mem_cons,List.not_mem_nil,or_false] at qN
   rcases qN with rfl | rfl
   ·exact wpOp_mono (fun a' w' hh=>⟨hh.1,fin l2 _ _ _ (jx.set hq) h2 hh.2⟩) (show wpOp P ops (NoPanic Q) q (fun a' w'=>(quiet nc q=true→E w w')∧tW P ops nc (NoPanic Q) E l2 (fun a w=>Q .normal a w) a' w') a w from hn.1)
   ·exact wpOp_mono (fun a' w' hh=>⟨hh.1,by have:=fin l3 _ _ _ (jx.set hq) h3 hh.2;rwa [EV] at this⟩) (show wpOp P ops (NoPanic Q) q (fun a' w'=>(quiet nc q=true→E w w')∧tW P ops nc (NoPanic Q) E l3 (fun a w=>Q .normal a w) a' w') a w from hn.2)) l (Array.replicate ops.size false) a _
  (fun j o hj=>by
   simp [Array.getD] at hj) hp h
 rw [hl] at key
 exact pA.any _ key
end
end R3
namespace R3
open Go Go.Proofs Go.RowKit Go.Shelf Sx
variable {mx:Int}
def Dy (a:AV) (l:List Nat):Prop:=a=.ro 1 (aA l)∨(a=.aC∧l=[])
theorem lR (o:Option (List Nat)):Dy (dw o) (o.getD []):=by
 cases o with
 | none=>exact .inr ⟨rfl,rfl⟩
 | some l=>exact .inl rfl
theorem rH {a:AV} {l:List Nat} (h:Dy a l):eP a=some (.int (l.length:Int)):=by
 rcases h with rfl | ⟨rfl,rfl⟩
 ·simp [eP,aA]
 ·rfl
theorem Dz {a:AV} {l:List Nat} (h:Dy a l) {i:Nat} (hi:i < l.length):idx 1 a (.int (i:Int))=some (.int (l[i]:Int)):=by
 rcases h with rfl | ⟨rfl,rfl⟩
 ·rw [lI 1 (by rw [aA,List.length_map];exact hi)]
  simp only [aA,List.getElem_map]
 ·simp at hi
theorem gH {a:AV} {l:List Nat} (h:Dy a l) {w:World} {F:Nat→Prop} {v:Value} (hr:Rel w F a v):∃ (ad:Option Addr) (n c:Nat),v=.slice ad n c:=by
 rcases h with rfl | ⟨rfl,rfl⟩
 ·obtain ⟨ad,c,h,_⟩:=bt hr
  exact ⟨_,_,_,h⟩
 ·cases hr
  exact ⟨_,_,_,rfl⟩
theorem ZR {a b:AV} {l:List Nat} (ha:Dy a l) (hb:Dy b l) (hl:l.length≤100000):∀ (m i:Nat),l.length=i+m→Dx (af (C mx) Tryz.prog 27 Tryz.f27) a b (i:Int)=some (.b true)
 | 0,i,hi=>by
  apply MZ
  have e:decide ((i:Int) < (l.length:Int))=false:=by rw [decide_eq_false_iff_not];omega
  simp only [IA,rH ha,Option.bind_some,bm,e,ai,Bool.false_eq_true,if_false]
 | m+1,i,hi=>by
  apply MZ
  have aM:i < l.length:=by omega
  have e:decide ((i:Int) < (l.length:Int))=true:=by rw [decide_eq_true_eq];omega
  have e3:bJ ((i:Int)+1)=((i+1:Nat):Int):=by rw [cH (by omega) (by omega)];omega
  have hc:AV.cell (.int (l[i]:Int)) 0=.int (l[i]:Int):=rfl
  simp only [IA,rH ha,Option.bind_some,bm,e,ai,if_true,Dz ha aM,Dz hb aM,hc,gi,bne_self_eq_false,Bool.false_eq_true,if_false,e3]
  exact ZR ha hb hl m (i+1) (by omega)
theorem s27 {a b:AV} {l:List Nat} (ha:Dy a l) (hb:Dy b l) (hl:l.length≤100000):ae (C mx) Tryz.prog 27 [a,b]=some (.b true):=by
 apply c27
 simp only [ZP,rH ha,rH hb,Option.bind_some,gi,bne_self_eq_false,ai,Bool.false_eq_true,if_false]
 exact ZR (mx:=mx) ha hb hl l.length 0 (by omega)
theorem Tu {w:World} {F:Nat→Prop} {a b:AV} {u v:Value} (h:Rel w F a u) (h2:Rel w F b v):∀ (j:Nat) (a':AV) (v':Value),([a,b]:List AV)[j]?=some a'→(#[u,v]:Array Value)[j]?=some v'→Rel w F a' v':=by
 intro j a' v' h1 h3
 match j with
 | 0=>cases h1;cases h3;exact h
 | 1=>cases h1;cases h3;exact h2
 | j+2=>simp at h1
theorem js {W:World} (hm:W.cell? ⟨1,0,none⟩=some (.int .i64 mx)) {a b:AV} {l:List Nat} (ha:Dy a l) (hb:Dy b l) (hl:l.length≤100000) {u v:Value} (h1:Rel W (fun _=>True) a u) (h2:Rel W (fun _=>True) b v) :
  Calls Tryz.prog 27 #[u,v] W fun e W'=>Ext W W'∧e=.returned (.bool true):=by
 refine Calls.mono (gD (fit mx) (c:=Tryz.f27.body.getD .skip) Tryz.func27 (by kernel_rfl) (s27 (mx:=mx) ha hb hl) (by kernel_rfl) W (fun _=>True) #[u,v] (xf hm trivial) rfl (Tu h1 h2)) fun e w' he=>?_
 obtain ⟨v,rfl,hx,hr⟩:=he
 unfold eV at hr
 rw [if_pos (by kernel_rfl)] at hr
 cases hr
 exact ⟨hx,rfl⟩
theorem PR {v:AV} (h:cR v):SV v:=by
 rcases h with rfl | ⟨x,l,rfl,hl⟩
 ·exact .inl rfl
 ·exact .inr ⟨x :: l,rfl,by simp only [List.length_cons];omega⟩
theorem oz {a:AV} (h:cR a) {w:World} {F:Nat→Prop} {v:Value} (hr:Rel w F a v):∃ (ad:Option Addr) (n c:Nat),v=.slice ad n c:=by
 rcases h with rfl | ⟨x,l,rfl,hl⟩
 ·cases hr
  exact ⟨_,_,_,rfl⟩
 ·obtain ⟨ad,c,h,_⟩:=bt hr
  exact ⟨_,_,_,h⟩
theorem tQ {W:World} (hm:W.cell? ⟨1,0,none⟩=some (.int .i64 mx)) {a:AV} (ha:cR a) (r:Bool) {u v:Value} (h1:Rel W (fun _=>True) a u) (h2:Rel W (fun _=>True) a v) :
  Calls Tryz.prog 26 #[.agg #[.bool r,u], .agg #[.bool r,v]] W fun e W'=>Ext W W'∧e=.returned (.bool true):=by
 obtain ⟨ad,n,c,rfl⟩:=oz ha h1
 obtain ⟨ad',n',c',rfl⟩:=oz ha h2
 refine Calls.mono (gD (fit mx) (c:=Tryz.f26.body.getD .skip) Tryz.func26 (by kernel_rfl) (s26 (mx:=mx) r a (PR ha)) (by kernel_rfl) W (fun _=>True) _ (xf hm trivial) rfl (Tu (vf (.b r) h1 rfl rfl) (vf (.b r) h2 rfl rfl))) fun e w' he=>?_
 obtain ⟨v,rfl,hx,hr⟩:=he
 unfold eV at hr
 rw [if_pos (by kernel_rfl)] at hr
 cases hr
 exact ⟨hx,rfl⟩
theorem zE {w:World} {F:Nat→Prop} {k:Nat} {l:List AV} {ad:Option Addr} {n c:Nat} (h:Rel w F (.ro k l) (.slice ad n c)) {i:Nat} (hi:i < l.length):∃ (r off:Nat) (x:Nat→Value),ad=some ⟨r,off,none⟩∧∀ j,j < k→w.cell? ⟨r,off+i * k+j,none⟩=some (x j)∧Rel w F (l[i].cell j) (x j):=by
 have key:∀ (l:List AV) (v:Value),Rel w F (.ro k l) v→(hi:i < l.length)→∃ (r off c:Nat) (x:Nat→Value),v=.slice (some ⟨r,off,none⟩) l.length c∧∀ j,j < k→w.cell? ⟨r,off+i * k+j,none⟩=some (x j)∧Rel w F (l[i].cell j) (x j):=by
  intro l v h hi
  cases h with
  | tS=>simp at hi
  | ro _ _ r off c xs hk hc hF hl MH h1 hr =>
   refine ⟨r,off,c,fun j=>xs.getD (i * k+j) undef,rfl,fun j hj=>?_⟩
   have jf:i * k+j < xs.length:=by
    have:(i+1) * k≤l.length * k:=Nat.mul_le_mul_right _ hi
    rw [Nat.succ_mul] at this
    omega
   have h2:xs[i * k+j]?=some xs[i * k+j]:=List.getElem?_eq_getElem jf
   show w.cell? _=some (xs.getD (i * k+j) undef)∧Rel w F _ (xs.getD (i * k+j) undef)
   rw [List.getD_eq_getElem?_getD (l:=xs),h2,Option.getD_some]
   have h3:=hr i j _ hi hj h2
   have e:l.getD i .un=l[i]:=by rw [List.getD_eq_getElem?_getD,List.getElem?_eq_getElem hi];rfl
   rw [e] at h3
   refine ⟨?_,h3⟩
   rw [← MH _ _ h2,Nat.add_assoc]
 obtain ⟨r,off,c',x,e,hx⟩:=key _ _ h hi
 cases e
 exact ⟨r,off,x,rfl,hx⟩
theorem rI {w:World} {F:Nat→Prop} {k:UInt8} {v:Value} (h:Rel w F (.u8 k) v):v=.int .u8 (k.toNat:Int):=by cases h;rfl
theorem zF {w:World} {F:Nat→Prop} {k:Int} {v:Value} (h:Rel w F (.int k) v):v=.int .i64 k:=by cases h;rfl
theorem xG {w:World} {F:Nat→Prop} {k:Bool} {v:Value} (h:Rel w F (.b k) v):v=.bool k:=by cases h;rfl
theorem PS {w:World} {F:Nat→Prop} {l:List UInt8} {u v:Value} (h:Rel w F (.s l) u) (h2:Rel w F (.s l) v):∃ q,u=.string q∧v=.string q:=by
 have hu:∃ q:ByteArray,u=.string q∧q.data.toList=l:=by cases h;exact ⟨_,rfl,rfl⟩
 have hv:∃ q:ByteArray,v=.string q∧q.data.toList=l:=by cases h2;exact ⟨_,rfl,rfl⟩
 obtain ⟨q,rfl,h3⟩:=hu
 obtain ⟨q',rfl,h4⟩:=hv
 have:q=q':=by
  cases q with | mk d=>cases q' with | mk d' =>
  have:d=d':=Array.toList_inj.1 (h3.trans h4.symm)
  rw [this]
 exact ⟨q,rfl,by rw [this]⟩
theorem EL {w:World} {F:Nat→Prop} {x:Nd} (hn:cR x.names) {f g:Nat→Value} (hf:∀ j,j < 9→Rel w F (x.av.cell j) (f j)) (hg:∀ j,j < 9→Rel w F ((mh x).cell j) (g j)) :
  ∃ (q:ByteArray) (a4 a5 a6 b4 b5 b6:Option Addr) (m4 m5 m6 n4 n5 n6 c4 c5 c6 d4 d5 d6:Nat),
   (f 0=.int .u8 (x.kind.toNat:Int)∧f 1=.int .i64 (x.at':Int)∧f 2=.string q∧f 3=.bool x.root∧f 4=.slice a4 m4 c4∧f 5=.slice a5 m5 c5∧f 6=.slice a6 m6 c6∧f 7=.bool x.has∧f 8=.int .u8 (x.hole.toNat:Int)) ∧
   (g 0=.int .u8 (x.kind.toNat:Int)∧g 1=.int .i64 (x.at':Int)∧g 2=.string q∧g 3=.bool x.root∧g 4=.slice b4 n4 d4∧g 5=.slice b5 n5 d5∧g 6=.slice b6 n6 d6∧g 7=.bool x.has∧g 8=.int .u8 (x.hole.toNat:Int)) ∧
   (Rel w F x.names (.slice a4 m4 c4)∧Rel w F (dw x.body) (.slice a5 m5 c5)∧Rel w F (dw x.els) (.slice a6 m6 c6)) ∧
   (Rel w F x.names (.slice b4 n4 d4)∧Rel w F (.ro 1 (aA (x.body.getD []))) (.slice b5 n5 d5)∧Rel w F (.ro 1 (aA (x.els.getD []))) (.slice b6 n6 d6)):=by
 have f0:Rel w F (.u8 x.kind) (f 0):=hf 0 (by decide)
 have f1:Rel w F (.int (x.at':Int)) (f 1):=hf 1 (by decide)
 have f2:Rel w F (.s x.text) (f 2):=hf 2 (by decide)
 have f3:Rel w F (.b x.root) (f 3):=hf 3 (by decide)
 have f4:Rel w F x.names (f 4):=hf 4 (by decide)
 have f5:Rel w F (dw x.body) (f 5):=hf 5 (by decide)
 have f6:Rel w F (dw x.els) (f 6):=hf 6 (by decide)
 have f7:Rel w F (.b x.has) (f 7):=hf 7 (by decide)
 have f8:Rel w F (.u8 x.hole) (f 8):=hf 8 (by decide)
 have g0:Rel w F (.u8 x.kind) (g 0):=hg 0 (by decide)
 have g1:Rel w F (.int (x.at':Int)) (g 1):=hg 1 (by decide)
 have g2:Rel w F (.s x.text) (g 2):=hg 2 (by decide)
 have g3:Rel w F (.b x.root) (g 3):=hg 3 (by decide)
 have g4:Rel w F x.names (g 4):=hg 4 (by decide)
 have g5:Rel w F (.ro 1 (aA (x.body.getD []))) (g 5):=hg 5 (by decide)
 have g6:Rel w F (.ro 1 (aA (x.els.getD []))) (g 6):=hg 6 (by decide)
 have g7:Rel w F (.b x.has) (g 7):=hg 7 (by decide)
 have g8:Rel w F (.u8 x.hole) (g 8):=hg 8 (by decide)
 obtain ⟨q,e2,e2'⟩:=PS f2 g2
 obtain ⟨a4,m4,c4,e4⟩:=oz hn f4
 obtain ⟨b4,n4,d4,ZS⟩:=oz hn g4
 obtain ⟨a5,m5,c5,e5⟩:=gH (lR x.body) f5
 obtain ⟨b5,n5,d5,ZT⟩:=gH (.inl rfl) g5
 obtain ⟨a6,m6,c6,e6⟩:=gH (lR x.els) f6
 obtain ⟨b6,n6,d6,ZU⟩:=gH (.inl rfl) g6
 rw [e4] at f4;rw [e5] at f5;rw [e6] at f6;rw [ZS] at g4;rw [ZT] at g5;rw [ZU] at g6
 exact ⟨q,a4,a5,a6,b4,b5,b6,m4,m5,m6,n4,n5,n6,c4,c5,c6,d4,d5,d6,⟨rI f0,zF f1,e2,xG f3,e4,e5,e6,xG f7,rI f8⟩,⟨rI g0,zF g1,e2',xG g3,ZS,ZT,ZU,xG g7,rI g8⟩,⟨f4,f5,f6⟩,⟨g4,g5,g6⟩⟩
theorem ba {u v:World} {N:Nat} (hE:∀ b,b < N→v.heap[b]?=u.heap[b]?) {r o:Nat} {x:Value} (h:u.cell? ⟨r,o,none⟩=some x) (hb:r < N):v.cell? ⟨r,o,none⟩=some x:=(World.cell?_of_block (hE _ hb)).trans h
def Tv (a:AV) (l:List AV):Prop:=a=.ro 9 l∨(a=.aC∧l=[])
theorem vl {a:AV} {l:List AV} (h:Tv a l) {w:World} {F:Nat→Prop} {v:Value} (hr:Rel w F a v):∃ (ad:Option Addr) (c:Nat),v=.slice ad l.length c∧(0 < l.length→Rel w F (.ro 9 l) v):=by
 rcases h with rfl | ⟨rfl,rfl⟩
 ·obtain ⟨ad,c,e,_⟩:=bt hr
  exact ⟨ad,c,e,fun _=>hr⟩
 ·cases hr
  exact ⟨_,_,rfl,fun h=>by simp at h⟩
theorem DA {W:World} {b:Nat} {x0 x1 x2 x3 x4 x5 x6 x7 x8:Value} {t:TypeId} (h:W.heap[b]?=some (.cells #[x0,x1,x2,x3,x4,x5,x6,x7,x8] t)):W.cell? ⟨b,0,none⟩=some x0∧W.cell? ⟨b,1,none⟩=some x1∧W.cell? ⟨b,2,none⟩=some x2∧W.cell? ⟨b,3,none⟩=some x3∧W.cell? ⟨b,4,none⟩=some x4∧W.cell? ⟨b,5,none⟩=some x5∧W.cell? ⟨b,6,none⟩=some x6∧W.cell? ⟨b,7,none⟩=some x7∧W.cell? ⟨b,8,none⟩=some x8:=by simp [World.cell?,h]
theorem iN {w:World} {A B:Obj} {b:Nat} (hb:b < w.heap.size):((w.alloc A).alloc B).heap[b]?=w.heap[b]?:=(ay (by simp;omega)).trans (ay hb)
theorem results39 (T:Array Value) (W:World) (a:Value) (t4:T[4]?.getD undef=a):(results Tryz.f16 T).run Tryz.prog W=.ok a W:=by
 have hr:Tryz.f16.results = #[.tmp 4]:=by kernel_rfl
 unfold results
 rw [hr]
 simp [t4,Sem.run_bind,Result.andThen]
set_option maxRecDepth 100000 in
set_option maxHeartbeats 4000000 in
theorem IB {ns:List Nd} {top:List Nat} (hN:ns.length≤100000) (hT:top.length≤100000) (oA:∀ x ∈ ns,cR x.names) (ZV:∀ x ∈ ns,(x.body.getD []).length≤100000∧(x.els.getD []).length≤100000)
  {w:World} (hm:w.cell? ⟨1,0,none⟩=some (.int .i64 mx)) {a b c d:AV} (ha:Tv a (ns.map Nd.av)) (hb:Tv b (ns.map mh)) (hc:Dy c top) (hd:Dy d top) {va vb ta tb:Value} (ra:Rel w (fun _=>True) a va) (rb:Rel w (fun _=>True) b vb) (ZW:Rel w (fun _=>True) c ta) (ZX:Rel w (fun _=>True) d tb) :
  CallsIn Fence.wide 7 Tryz.prog 16 #[.agg #[va,ta], .agg #[vb,tb]] w (fun e w'=>Ext w w'∧e=.returned (.bool true)):=by
 obtain ⟨aa,ca,rfl,ra⟩:=vl ha ra
 obtain ⟨ab,cb,rfl,rb⟩:=vl hb rb
 obtain ⟨a5,n5,c5,rfl⟩:=gH hc ZW
 obtain ⟨a6,n6,c6,rfl⟩:=gH hd ZX
 have la:(ns.map Nd.av).length=ns.length:=List.length_map ..
 have lb:(ns.map mh).length=ns.length:=List.length_map ..
 rw [la] at ra
 rw [lb] at rb
 simp only [la,lb]
 have jw:Ext w ((w.alloc (.cells #[.slice aa ns.length ca, .slice a5 n5 c5] 26)).alloc (.cells #[.slice ab ns.length cb, .slice a6 n6 c6] 26)):=(Ext.push w _).trans (Ext.push _ _)
 have hA:((w.alloc (.cells #[.slice aa ns.length ca, .slice a5 n5 c5] 26)).alloc (.cells #[.slice ab ns.length cb, .slice a6 n6 c6] 26)).heap[w.heap.size]?=some (.cells #[.slice aa ns.length ca, .slice a5 n5 c5] 26):=(ay (by simp)).trans (World.alloc_heap_new w _)
 have hB:((w.alloc (.cells #[.slice aa ns.length ca, .slice a5 n5 c5] 26)).alloc (.cells #[.slice ab ns.length cb, .slice a6 n6 c6] 26)).heap[w.heap.size+1]?=some (.cells #[.slice ab ns.length cb, .slice a6 n6 c6] 26):=bq (by simp)
 refine callsIn_of_wp Tryz.func16 rfl trivial ?_ rfl
 simp only [Tryz.ntmps16,Nat.reduceAdd,Nat.reduceSub,zC]
 obtain ⟨e0,e1,-,-⟩:=aL hA
 obtain ⟨e2,e3,-,-⟩:=aL hB
 have Tw:=js (mx:=mx) (aB jw hm) hc hd hT (ZW.mono fun b hb _=>⟨trivial,jw.block b hb⟩) (ZX.mono fun b hb _=>⟨trivial,jw.block b hb⟩)
 gi_wp2_with (refine ⟨trivial,?_⟩;gi_at_call 27;refine (callsIn_wide.2 Tw).mono ?_;clear Tw;rintro e w2 ⟨dt,rfl⟩)
 have zo:=(dt.block w.heap.size (by simp;omega)).trans hA
 have hB2:=(dt.block (w.heap.size+1) (by simp)).trans hB
 have nf:=jw.trans dt
 have qL:w.heap.size+2≤w2.heap.size:=by have:=dt.size;simp at this;omega
 clear hA hB e0 e1 e2 e3 jw dt
 sA [5] (fun v5 wr=>∃ i:Nat,v5=.int .i64 (i:Int)∧i≤ns.length∧Ext w2 wr) (fun v5 wr=>ns.length - (match v5 with | .int _ a=>a.toNat | _=>0))
 case atStart=>exact ⟨0,rfl,Nat.zero_le _,Ext.refl _⟩
 case round =>
  obtain ⟨i,rfl,hi,PT⟩:=iT
  have hAr:=(PT.block w.heap.size (by omega)).trans zo
  have hBr:=(PT.block (w.heap.size+1) (by omega)).trans hB2
  have xL:=nf.trans PT
  obtain ⟨e0,e1,-,-⟩:=aL hAr
  obtain ⟨e2,e3,-,-⟩:=aL hBr
  have Mc:=aB xL hm
  by_cases aM:i < ns.length
  ·have ZY:i < (ns.map Nd.av).length:=by rw [la];exact aM
   have IJ:i < (ns.map mh).length:=by rw [lb];exact aM
   obtain ⟨r1,o1,f,rfl,hf⟩:=zE ((ra (by omega)).mono fun b hb _=>⟨trivial,xL.block b hb⟩) ZY
   obtain ⟨r2,o2,g,rfl,hg⟩:=zE ((rb (by omega)).mono fun b hb _=>⟨trivial,xL.block b hb⟩) IJ
   simp only [List.getElem_map] at hf hg
   have L9:=oA _ (List.getElem_mem aM)
   have Uz:=ZV _ (List.getElem_mem aM)
   generalize ns[i]=x at *
   obtain ⟨q,a4,I3,I4,b4,b5,b6,m4,m5,m6,n4,I5,I6,c4,I7,I8,d4,d5,d6,⟨f0,f1,f2,f3,f4,f5,f6,f7,f8⟩,⟨g0,g1,g2,g3,g4,g5,g6,g7,g8⟩,⟨rn,ZZ,Z0⟩,⟨Z1,Tx,Tz⟩⟩:=EL L9 (fun j hj=>(hf j hj).2) (fun j hj=>(hg j hj).2)
   have y0:=(hf 0 (by decide)).1
   have y1:=(hf 1 (by decide)).1
   have y2:=(hf 2 (by decide)).1
   have y3:=(hf 3 (by decide)).1
   have y4:=(hf 4 (by decide)).1
   have y5:=(hf 5 (by decide)).1
   have y6:=(hf 6 (by decide)).1
   have y7:=(hf 7 (by decide)).1
   have y8:=(hf 8 (by decide)).1
   have z0:=(hg 0 (by decide)).1
   have z1:=(hg 1 (by decide)).1
   have z2:=(hg 2 (by decide)).1
   have z3:=(hg 3 (by decide)).1
   have z4:=(hg 4 (by decide)).1
   have z5:=(hg 5 (by decide)).1
   have z6:=(hg 6 (by decide)).1
   have z7:=(hg 7 (by decide)).1
   have z8:=(hg 8 (by decide)).1
   rw [f0] at y0;rw [f1] at y1;rw [f2] at y2;rw [f3] at y3;rw [f4] at y4;rw [f5] at y5;rw [f6] at y6;rw [f7] at y7;rw [f8] at y8
   rw [g0] at z0;rw [g1] at z1;rw [g2] at z2;rw [g3] at z3;rw [g4] at z4;rw [g5] at z5;rw [g6] at z6;rw [g7] at z7;rw [g8] at z8
   rw [Nat.add_zero] at y0 z0
   clear hf hg f0 f1 f2 f3 f4 f5 f6 f7 f8 g0 g1 g2 g3 g4 g5 g6 g7 g8 ra rb oA ZV la lb ZY IJ
   gi_wp2
   rw [wpIn_wide]
   have jC:=aS y0
   have rQ:=aS z0
   simp only at jC rQ
   have Z2:w.heap.size < wr.heap.size:=by have:=PT.size;omega
   have zH:w.heap.size+1 < wr.heap.size:=by have:=PT.size;omega
   refine tP (by kernel_rfl) [] (fun u v=>∀ b,b < wr.heap.size→v.heap[b]?=u.heap[b]?) [(0,true),(1,true),(2,true),(3,true),(4,true),(5,true),(6,true),(7,true),(8,true),(9,true)] 10 11 [(11,false),(12,false),(13,false)] [(10,false),(12,false),(13,false)]
    [true,true,true,true,true,true,true,true,true,true,false,false,false,false] (by kernel_rfl) (by kernel_rfl) (by kernel_rfl) (by kernel_rfl) (by kernel_rfl) (by kernel_rfl) (by kernel_rfl) (fun _ _ _=>rfl) (fun _ _ _ h1 h2 b hb=>(h2 b hb).trans (h1 b hb)) ?_
   iterate 4 (
    refine' aT ?_ ?_ ?_ ?_;rotate_left 2
    ·(simp only [zA];rfl)
    ·rfl
    ·(intro w' hE;have q1:=ba (u:=wr.drew) hE e0 Z2;have q2:=ba (u:=wr.drew) hE e2 zH;go_simp;try rfl)
    try simp only [Act.put,zB])
   iterate 1 (
    refine' aT ?_ ?_ ?_ ?_;rotate_left 2
    ·(simp only [zA];rfl)
    ·rfl
    ·(intro w' hE;have q0:=ba (u:=wr.drew) hE y0 jC;have q1:=ba (u:=wr.drew) hE y1 jC;have q2:=ba (u:=wr.drew) hE y2 jC;have q3:=ba (u:=wr.drew) hE y3 jC;have q4:=ba (u:=wr.drew) hE y4 jC;have q5:=ba (u:=wr.drew) hE y5 jC;have q6:=ba (u:=wr.drew) hE y6 jC;have q7:=ba (u:=wr.drew) hE y7 jC;have q8:=ba (u:=wr.drew) hE y8 jC;go_simp;try rfl)
    try simp only [Act.put,zB])
   iterate 4 (
    refine' aT ?_ ?_ ?_ ?_;rotate_left 2
    ·(simp only [zA];rfl)
    ·rfl
    ·(intro w' hE;have q1:=ba (u:=wr.drew) hE e0 Z2;have q2:=ba (u:=wr.drew) hE e2 zH;go_simp;try rfl)
    try simp only [Act.put,zB])
   iterate 1 (
    refine' aT ?_ ?_ ?_ ?_;rotate_left 2
    ·(simp only [zA];rfl)
    ·rfl
    ·(intro w' hE;have q0:=ba (u:=wr.drew) hE z0 rQ;have q1:=ba (u:=wr.drew) hE z1 rQ;have q2:=ba (u:=wr.drew) hE z2 rQ;have q3:=ba (u:=wr.drew) hE z3 rQ;have q4:=ba (u:=wr.drew) hE z4 rQ;have q5:=ba (u:=wr.drew) hE z5 rQ;have q6:=ba (u:=wr.drew) hE z6 rQ;have q7:=ba (u:=wr.drew) hE z7 rQ;have q8:=ba (u:=wr.drew) hE z8 rQ;go_simp;try rfl)
    try simp only [Act.put,zB])
   refine cF ⟨?_,?_⟩
   ·refine' bH ?_ ?_;rotate_left 1
    ·(simp only [zA];rfl)
    intro K hK
    go_simp
    refine hK.out _ _ (fun b hb=>ay (by simpa using hb)) ?_
    clear hK K
    try simp only [Act.put,zB]
    refine' bH ?_ ?_;rotate_left 1
    ·(simp only [zA];rfl)
    intro K hK
    go_simp
    refine hK.out _ _ (fun b hb=>ay (by simp;omega)) ?_
    clear hK K
    try simp only [Act.put,zB]
    refine' bH ?_ ?_;rotate_left 1
    ·(simp only [zA];rfl)
    intro K hK
    go_simp
    refine hK.out _ _ (fun b hb=>(iN hb).trans (iN hb).symm) ?_
    clear hK K
    try simp only [Act.put,zB]
    refine' bH ?_ ?_;rotate_left 1
    ·(simp only [zA];rfl)
    intro K hK
    go_simp
    refine hK.out _ _ (fun b hb=>(iN hb).trans (iN hb).symm) ?_
    clear hK K
    try simp only [Act.put,zB]
    refine cF ?_
    have dG:Ext wr (((wr.alloc (.cells #[.int .u8 (x.kind.toNat:Int), .int .i64 (x.at':Int), .string q, .bool x.root, .slice a4 m4 c4, .slice I3 m5 I7, .slice I4 m6 I8, .bool x.has, .int .u8 (x.hole.toNat:Int)] 58)).alloc (.cells #[.int .u8 (x.kind.toNat:Int), .int .i64 (x.at':Int), .string q, .bool x.root, .slice b4 n4 d4, .slice b5 I5 d5, .slice b6 I6 d6, .bool x.has, .int .u8 (x.hole.toNat:Int)] 58)).drew):=dO ((Ext.push wr _).trans (Ext.push _ _))
    have hp:(((wr.alloc (.cells #[.int .u8 (x.kind.toNat:Int), .int .i64 (x.at':Int), .string q, .bool x.root, .slice a4 m4 c4, .slice I3 m5 I7, .slice I4 m6 I8, .bool x.has, .int .u8 (x.hole.toNat:Int)] 58)).alloc (.cells #[.int .u8 (x.kind.toNat:Int), .int .i64 (x.at':Int), .string q, .bool x.root, .slice b4 n4 d4, .slice b5 I5 d5, .slice b6 I6 d6, .bool x.has, .int .u8 (x.hole.toNat:Int)] 58)).drew).heap[wr.heap.size]?=some (.cells #[.int .u8 (x.kind.toNat:Int), .int .i64 (x.at':Int), .string q, .bool x.root, .slice a4 m4 c4, .slice I3 m5 I7, .slice I4 m6 I8, .bool x.has, .int .u8 (x.hole.toNat:Int)] 58):=(ay (by simp)).trans (World.alloc_heap_new wr _)
    have hq:(((wr.alloc (.cells #[.int .u8 (x.kind.toNat:Int), .int .i64 (x.at':Int), .string q, .bool x.root, .slice a4 m4 c4, .slice I3 m5 I7, .slice I4 m6 I8, .bool x.has, .int .u8 (x.hole.toNat:Int)] 58)).alloc (.cells #[.int .u8 (x.kind.toNat:Int), .int .i64 (x.at':Int), .string q, .bool x.root, .slice b4 n4 d4, .slice b5 I5 d5, .slice b6 I6 d6, .bool x.has, .int .u8 (x.hole.toNat:Int)] 58)).drew).heap[wr.heap.size+1]?=some (.cells #[.int .u8 (x.kind.toNat:Int), .int .i64 (x.at':Int), .string q, .bool x.root, .slice b4 n4 d4, .slice b5 I5 d5, .slice b6 I6 d6, .bool x.has, .int .u8 (x.hole.toNat:Int)] 58):=bq (by simp)
    generalize ((wr.alloc (.cells #[.int .u8 (x.kind.toNat:Int), .int .i64 (x.at':Int), .string q, .bool x.root, .slice a4 m4 c4, .slice I3 m5 I7, .slice I4 m6 I8, .bool x.has, .int .u8 (x.hole.toNat:Int)] 58)).alloc (.cells #[.int .u8 (x.kind.toNat:Int), .int .i64 (x.at':Int), .string q, .bool x.root, .slice b4 n4 d4, .slice b5 I5 d5, .slice b6 I6 d6, .bool x.has, .int .u8 (x.hole.toNat:Int)] 58)).drew=W6 at dG hp hq ⊢
    have hw:=tQ (mx:=mx) (aB dG Mc) L9 x.root (rn.mono fun b hb _=>⟨trivial,dG.block b hb⟩) (Z1.mono fun b hb _=>⟨trivial,dG.block b hb⟩)
    obtain ⟨p0,p1,p2,p3,p4,p5,p6,p7,p8⟩:=DA hp
    obtain ⟨s0,s1,s2,s3,s4,s5,s6,s7,s8⟩:=DA hq
    clear y0 y1 y2 y3 y4 y5 y6 y7 y8 z0 z1 z2 z3 z4 z5 z6 z7 z8 e0 e1 e2 e3
    gi_wp2_with (first
     | (refine ⟨trivial,?_⟩;gi_at_call 26;refine (callsIn_wide.2 hw).mono ?_;clear hw;rintro e w7 ⟨lX,rfl⟩;have LM:=dG.trans lX;have TH:=js (mx:=mx) (aB LM Mc) (lR x.body) (.inl rfl) Uz.1 (ZZ.mono fun b hb _=>⟨trivial,LM.block b hb⟩) (Tx.mono fun b hb _=>⟨trivial,LM.block b hb⟩);have c5a:=aB lX p5;have c5b:=aB lX s5;have XG:=aB lX p6;have XH:=aB lX s6)
     | (refine ⟨trivial,?_⟩;gi_at_call 27;refine (callsIn_wide.2 TH).mono ?_;clear TH;rintro e w8 ⟨PU,rfl⟩;have oU:=LM.trans PU;have TI:=js (mx:=mx) (aB oU Mc) (lR x.els) (.inl rfl) Uz.2 (Z0.mono fun b hb _=>⟨trivial,oU.block b hb⟩) (Tz.mono fun b hb _=>⟨trivial,oU.block b hb⟩);have c6c:=aB PU XG;have c6d:=aB PU XH)
     | (refine ⟨trivial,?_⟩;gi_at_call 27;refine (callsIn_wide.2 TI).mono ?_;clear TI;rintro e w9 ⟨pn,rfl⟩;have Qs:=oU.trans pn))
    exact ⟨⟨i+1,congrArg (Value.int .i64) (by omega),aM,PT.trans Qs⟩,by show _ - Int.toNat _ < _ - Int.toNat _;omega⟩
   ·refine' bH ?_ ?_;rotate_left 1
    ·(simp only [zA];rfl)
    intro K hK
    go_simp
    refine hK.out _ _ (fun b hb=>ay (by simpa using hb)) ?_
    clear hK K
    try simp only [Act.put,zB]
    refine' bH ?_ ?_;rotate_left 1
    ·(simp only [zA];rfl)
    intro K hK
    go_simp
    refine hK.out _ _ (fun b hb=>ay (by simp;omega)) ?_
    clear hK K
    try simp only [Act.put,zB]
    refine' bH ?_ ?_;rotate_left 1
    ·(simp only [zA];rfl)
    intro K hK
    go_simp
    refine hK.out _ _ (fun b hb=>(iN hb).trans (iN hb).symm) ?_
    clear hK K
    try simp only [Act.put,zB]
    refine' bH ?_ ?_;rotate_left 1
    ·(simp only [zA];rfl)
    intro K hK
    go_simp
    refine hK.out _ _ (fun b hb=>(iN hb).trans (iN hb).symm) ?_
    clear hK K
    try simp only [Act.put,zB]
    refine cF ?_
    have dG:Ext wr (((wr.alloc (.cells #[.int .u8 (x.kind.toNat:Int), .int .i64 (x.at':Int), .string q, .bool x.root, .slice b4 n4 d4, .slice b5 I5 d5, .slice b6 I6 d6, .bool x.has, .int .u8 (x.hole.toNat:Int)] 58)).alloc (.cells #[.int .u8 (x.kind.toNat:Int), .int .i64 (x.at':Int), .string q, .bool x.root, .slice a4 m4 c4, .slice I3 m5 I7, .slice I4 m6 I8, .bool x.has, .int .u8 (x.hole.toNat:Int)] 58)).drew):=dO ((Ext.push wr _).trans (Ext.push _ _))
    have hq:(((wr.alloc (.cells #[.int .u8 (x.kind.toNat:Int), .int .i64 (x.at':Int), .string q, .bool x.root, .slice b4 n4 d4, .slice b5 I5 d5, .slice b6 I6 d6, .bool x.has, .int .u8 (x.hole.toNat:Int)] 58)).alloc (.cells #[.int .u8 (x.kind.toNat:Int), .int .i64 (x.at':Int), .string q, .bool x.root, .slice a4 m4 c4, .slice I3 m5 I7, .slice I4 m6 I8, .bool x.has, .int .u8 (x.hole.toNat:Int)] 58)).drew).heap[wr.heap.size]?=some (.cells #[.int .u8 (x.kind.toNat:Int), .int .i64 (x.at':Int), .string q, .bool x.root, .slice b4 n4 d4, .slice b5 I5 d5, .slice b6 I6 d6, .bool x.has, .int .u8 (x.hole.toNat:Int)] 58):=(ay (by simp)).trans (World.alloc_heap_new wr _)
    have hp:(((wr.alloc (.cells #[.int .u8 (x.kind.toNat:Int), .int .i64 (x.at':Int), .string q, .bool x.root, .slice b4 n4 d4, .slice b5 I5 d5, .slice b6 I6 d6, .bool x.has, .int .u8 (x.hole.toNat:Int)] 58)).alloc (.cells #[.int .u8 (x.kind.toNat:Int), .int .i64 (x.at':Int), .string q, .bool x.root, .slice a4 m4 c4, .slice I3 m5 I7, .slice I4 m6 I8, .bool x.has, .int .u8 (x.hole.toNat:Int)] 58)).drew).heap[wr.heap.size+1]?=some (.cells #[.int .u8 (x.kind.toNat:Int), .int .i64 (x.at':Int), .string q, .bool x.root, .slice a4 m4 c4, .slice I3 m5 I7, .slice I4 m6 I8, .bool x.has, .int .u8 (x.hole.toNat:Int)] 58):=bq (by simp)
    generalize ((wr.alloc (.cells #[.int .u8 (x.kind.toNat:Int), .int .i64 (x.at':Int), .string q, .bool x.root, .slice b4 n4 d4, .slice b5 I5 d5, .slice b6 I6 d6, .bool x.has, .int .u8 (x.hole.toNat:Int)] 58)).alloc (.cells #[.int .u8 (x.kind.toNat:Int), .int .i64 (x.at':Int), .string q, .bool x.root, .slice a4 m4 c4, .slice I3 m5 I7, .slice I4 m6 I8, .bool x.has, .int .u8 (x.hole.toNat:Int)] 58)).drew=W6 at dG hp hq ⊢
    have hw:=tQ (mx:=mx) (aB dG Mc) L9 x.root (rn.mono fun b hb _=>⟨trivial,dG.block b hb⟩) (Z1.mono fun b hb _=>⟨trivial,dG.block b hb⟩)
    obtain ⟨p0,p1,p2,p3,p4,p5,p6,p7,p8⟩:=DA hp
    obtain ⟨s0,s1,s2,s3,s4,s5,s6,s7,s8⟩:=DA hq
    clear y0 y1 y2 y3 y4 y5 y6 y7 y8 z0 z1 z2 z3 z4 z5 z6 z7 z8 e0 e1 e2 e3
    gi_wp2_with (first
     | (refine ⟨trivial,?_⟩;gi_at_call 26;refine (callsIn_wide.2 hw).mono ?_;clear hw;rintro e w7 ⟨lX,rfl⟩;have LM:=dG.trans lX;have TH:=js (mx:=mx) (aB LM Mc) (lR x.body) (.inl rfl) Uz.1 (ZZ.mono fun b hb _=>⟨trivial,LM.block b hb⟩) (Tx.mono fun b hb _=>⟨trivial,LM.block b hb⟩);have c5a:=aB lX p5;have c5b:=aB lX s5;have XG:=aB lX p6;have XH:=aB lX s6)
     | (refine ⟨trivial,?_⟩;gi_at_call 27;refine (callsIn_wide.2 TH).mono ?_;clear TH;rintro e w8 ⟨PU,rfl⟩;have oU:=LM.trans PU;have TI:=js (mx:=mx) (aB oU Mc) (lR x.els) (.inl rfl) Uz.2 (Z0.mono fun b hb _=>⟨trivial,oU.block b hb⟩) (Tz.mono fun b hb _=>⟨trivial,oU.block b hb⟩);have c6c:=aB PU XG;have c6d:=aB PU XH)
     | (refine ⟨trivial,?_⟩;gi_at_call 27;refine (callsIn_wide.2 TI).mono ?_;clear TI;rintro e w9 ⟨pn,rfl⟩;have Qs:=oU.trans pn))
    exact ⟨⟨i+1,congrArg (Value.int .i64) (by omega),aM,PT.trans Qs⟩,by show _ - Int.toNat _ < _ - Int.toNat _;omega⟩
  ·obtain rfl:i=ns.length:=by omega
   gi_wp2
   exact bodyPost_ret (results39 _ _ (.bool true) rfl) rfl ⟨xL,rfl⟩
def tR (x y:AV):Prop:=∃ (ns:List Nd) (top:List Nat) (a b c d:AV),ns.length≤100000∧top.length≤100000∧(∀ x ∈ ns,cR x.names)∧(∀ x ∈ ns,(x.body.getD []).length≤100000∧(x.els.getD []).length≤100000) ∧
 Tv a (ns.map Nd.av)∧Tv b (ns.map mh)∧Dy c top∧Dy d top∧x=.ag [a,c]∧y=.ag [b,d]
open Classical in
def Qx (args:List AV):Option AV :=
 match args with
 | [x,y]=>if tR x y then some (.b true) else none
 | _=>none
theorem g39 {x y:AV} (h:tR x y):Qx [x,y]=some (.b true):=if_pos h
theorem DB {w:World} {F:Nat→Prop} {a c:AV} {v:Value} (h:Rel w F (.ag [a,c]) v):∃ x y,v=.agg #[x,y]∧Rel w F a x∧Rel w F c y:=by
 cases h with
 | ag _ vs hl oR hj =>
  match vs,hl,hj with
  | [x,y],_,hj=>exact ⟨x,y,rfl,hj 0 x rfl,hj 1 y rfl⟩
theorem LN {C:cS} {mx:Int} (AG:C.glob 1=some (1, .int mx)) (ho:(C.own 16).all Option.isNone=true) (args:List AV) (r:AV) (h:Qx args=some r) (w:World) (F:Nat→Prop) (vs:Array Value) (hG:aN C w F) (hl:vs.size=args.length)
  (hv:∀ (j:Nat) (a:AV) (v:Value),args[j]?=some a→vs[j]?=some v→Rel w F a v):dJ Tryz.prog 16 vs w (fU C 16 w F r):=by
 obtain ⟨hm,Nj⟩:=LC AG hG
 unfold Qx at h
 split at h
 ·rename_i x y
  split at h
  ·rename_i ht
   cases h
   obtain ⟨ns,top,a,b,c,d,h1,h2,h3,h4,ha,hb,hc,hd,rfl,rfl⟩:=ht
   match vs,hl,hv with
   | ⟨[u,v]⟩,_,hv =>
    obtain ⟨u0,u1,rfl,ru0,ru1⟩:=DB (hv 0 _ u rfl rfl)
    obtain ⟨v0,v1,rfl,rv0,rv1⟩:=DB (hv 1 _ v rfl rfl)
    have tr:∀ {a:AV} {v:Value},Rel w F a v→Rel w (fun _=>True) a v:=fun h=>h.mono fun _ _ _=>⟨trivial,rfl⟩
    refine .inl ⟨Tryz.f16,(Tryz.f16.body).getD .skip,Tryz.func16,by kernel_rfl,by kernel_rfl,Calls.mono (callsIn_wide.1 (IB (mx:=mx) h1 h2 h3 h4 hm ha hb hc hd (tr ru0) (tr rv0) (tr ru1) (tr rv1))) fun e w' he=>?_⟩
    obtain ⟨hx,rfl⟩:=he
    refine ⟨_,rfl,hx,?_⟩
    unfold eV
    rw [if_pos ho]
    exact .b true
  ·cases h
 ·cases h
end R3
namespace xV
open Go Sx
def kK:List (Nat×Ty):=[
 (3,{ size:=1,bytes:=8,kd:=.int .i64,elem:=0,zero:=[.int 0],fields:=[],eqk:=none }),
 (4,{ size:=1,bytes:=1,kd:=.bool,elem:=0,zero:=[.b false],fields:=[],eqk:=none }),
 (5,{ size:=1,bytes:=1,kd:=.int .u8,elem:=0,zero:=[.u8 0],fields:=[],eqk:=none }),
 (9,{ size:=1,bytes:=16,kd:=.str,elem:=0,zero:=[.s []],fields:=[],eqk:=none }),
 (23,{ size:=1,bytes:=24,kd:=.slice,elem:=58,zero:=[.aC],fields:=[],eqk:=none }),
 (24,{ size:=1,bytes:=24,kd:=.slice,elem:=3,zero:=[.aC],fields:=[],eqk:=none }),
 (26,{ size:=2,bytes:=48,kd:=.struct,elem:=0,zero:=[.aC, .aC],fields:=[(0,23),(1,24)],eqk:=none }),
 (27,{ size:=1,bytes:=8,kd:=.int .i64,elem:=0,zero:=[.int 0],fields:=[],eqk:=none }),
 (34,{ size:=1,bytes:=1,kd:=.int .u8,elem:=0,zero:=[.u8 0],fields:=[],eqk:=none }),
 (35,{ size:=1,bytes:=1,kd:=.int .u8,elem:=0,zero:=[.u8 0],fields:=[],eqk:=none }),
 (36,{ size:=1,bytes:=1,kd:=.int .u8,elem:=0,zero:=[.u8 0],fields:=[],eqk:=none }),
 (37,{ size:=1,bytes:=1,kd:=.int .u8,elem:=0,zero:=[.u8 0],fields:=[],eqk:=none }),
 (38,{ size:=1,bytes:=1,kd:=.int .u8,elem:=0,zero:=[.u8 0],fields:=[],eqk:=none }),
 (40,{ size:=10,bytes:=32,kd:=.struct,elem:=0,zero:=[.u8 0, .u8 0, .b false, .u8 0, .u8 0, .u8 0, .u8 0, .b false, .u8 0, .s []],fields:=[(0,34),(1,35),(2,4),(3,36),(4,5),(5,37),(6,38),(7,4),(8,5),(9,9)],eqk:=some [.i, .i, .b, .i, .i, .i, .i, .b, .i, .s] }),
 (52,{ size:=1,bytes:=1,kd:=.int .u8,elem:=0,zero:=[.u8 0],fields:=[],eqk:=none }),
 (53,{ size:=1,bytes:=24,kd:=.slice,elem:=9,zero:=[.aC],fields:=[],eqk:=none }),
 (55,{ size:=2,bytes:=32,kd:=.struct,elem:=0,zero:=[.b false, .aC],fields:=[(0,4),(1,53)],eqk:=none }),
 (56,{ size:=1,bytes:=1,kd:=.int .u8,elem:=0,zero:=[.u8 0],fields:=[],eqk:=none }),
 (58,{ size:=9,bytes:=120,kd:=.struct,elem:=0,zero:=[.u8 0, .int 0, .s [], .b false, .aC, .aC, .aC, .b false, .u8 0],fields:=[(0,52),(1,3),(2,9),(3,55),(5,24),(6,24),(7,4),(8,56)],eqk:=none })
]
def n7:List ((Nat×Nat)×(j7×List Nat)):=[((9,6),(.seq [(0,true),(1,true),(2,true),(3,true),(4,true),(5,true),(6,true),(7,true),(8,true),(9,true),(10,true),(11,true),(12,true)] .done,[]))]
def n8:List (Nat×List (Nat×List (Nat×Option (Nat×Nat))×List (Nat×List (Nat×Nat×Nat)))):=[(9,[(4,[(2,none),(3,none),(5,none)],[(2,[]),(3,[])])])]
def sx:List (Nat×List (Option (Nat×Nat))):=[]
def sy:List (Nat×vp):=[]
def kL:List (Nat×List Nat):=[]
def C (mx:Int):cS:=FV kK n7 n8 sx kL (fun g=>bif Nat.beq g 0 then some (10, .ag [.u8 20, .u8 0, .b false, .u8 0, .u8 0, .u8 0, .u8 0, .b false, .u8 0, .s []]) else bif Nat.beq g 1 then some (1, .int mx) else none) sy (fun g=>bif Nat.beq g 10 then some eA.S9 else bif Nat.beq g 11 then some HU.Tq else bif Nat.beq g 16 then some R3.Qx else none)
end xV
open Go Go.Proofs Sx
namespace xV
theorem RF:kK.all (fun p=>NQ Tryz.prog p.1 p.2)=true:=by kernel_rfl
theorem fns (mx:Int):Ak (C mx) 0 Tryz.prog.funcs.toList=true:=by kernel_rfl
theorem VT (mx:Int):∀ (g:Nat) (G:List AV→Option AV),(C mx).gv g=some G→((C mx).own g).all Option.isNone=true→∀ (args:List AV) (r:AV),G args=some r→∀ (w:World) (F:Nat→Prop) (vs:Array Value),aN (C mx) w F→vs.size=args.length →
   (∀ (j:Nat) (a:AV) (v:Value),args[j]?=some a→vs[j]?=some v→Rel w F a v)→dJ Tryz.prog g vs w (fU (C mx) g w F r):=by
 intro g G h ho args r hr w F vs hG hl hv
 have h:(bif Nat.beq g 10 then some eA.S9 else bif Nat.beq g 11 then some HU.Tq else bif Nat.beq g 16 then some R3.Qx else none)=some G:=h
 cases h1:Nat.beq g 10 with
 | true =>
  rw [h1] at h;cases h
  obtain rfl:=Nat.eq_of_beq_eq_true h1
  exact eA.Lu (mx:=mx) rfl ho args r hr w F vs hG hl hv
 | false =>
  rw [h1] at h
  cases h2:Nat.beq g 11 with
  | true =>
   rw [h2] at h;cases h
   obtain rfl:=Nat.eq_of_beq_eq_true h2
   exact HU.LL (mx:=mx) rfl ho args r hr w F vs hG hl hv
  | false =>
   rw [h2] at h
   cases h3:Nat.beq g 16 with
   | true =>
    rw [h3] at h;cases h
    obtain rfl:=Nat.eq_of_beq_eq_true h3
    exact R3.LN (mx:=mx) rfl ho args r hr w F vs hG hl hv
   | false=>rw [h3] at h;cases h
theorem fit (mx:Int):Fit (C mx) Tryz.prog:=Fit.of (tab:=kK) rfl RF (fns mx) R3.mixed (Al R3.idxs R3.wo) (VT mx)
theorem maxLen {W:World} (h:W.ShapedOpen Tryz.prog):∃ m,W.cell? ⟨1,0,none⟩=some (.int .i64 m):=R3.maxLen h
end xV
open Go Go.Proofs Sx
namespace xV
theorem zG {P:Program} {w:World} {a b c:String×DataW Unit} {ps:List MemPlace} (h:DataW.LaidVars P w [a,b,c] ps):∃ qs,DataW.LaidVars P w [b] qs:=by
 obtain ⟨g,t,cs,fuel,p,q,h1,h2,h3,h4,h5,h6⟩:=h
 obtain ⟨g',t',ud,TJ,p',q',k1,k2,k3,k4,k5,k6⟩:=h5
 exact ⟨_,g',t',ud,TJ,p',[],k1,k2,k3,k4,rfl,rfl⟩
def vm:AV:=.ag [.u8 20, .u8 0, .b false, .u8 0, .u8 0, .u8 0, .u8 0, .b false, .u8 0, .s []]
def C0 (mx:Int):cS:={ C mx with glob:=fun g=>bif Nat.beq g 0 then some (10,vm) else none }
theorem TK (mx:Int):∀ g' k' e',(C0 mx).glob g'=some (k',e')→g'=0∧k'=10∧e'=vm:=by
 intro g k e h
 have h:(bif Nat.beq g 0 then some (10,vm) else none)=some (k,e):=h
 cases hg:Nat.beq g 0 with
 | false=>rw [hg] at h;cases h
 | true=>rw [hg] at h;cases h;exact ⟨Nat.eq_of_beq_eq_true hg,rfl,rfl⟩
theorem TL:∀ j,j < 10→vm.cell j=T9 (([.lit (.int .u8 20), .lit (.int .u8 0), .lit (.bool false), .lit (.int .u8 0), .lit (.int .u8 0), .lit (.int .u8 0), .lit (.int .u8 0), .lit (.bool false), .lit (.int .u8 0), .lit (.string [])]:List (DataW Unit)).getD j .nil):=by
 intro j hj
 match j,hj with
 | 0,_ | 1,_ | 2,_ | 3,_ | 4,_ | 5,_ | 6,_ | 7,_ | 8,_ | 9,_=>rfl
theorem GG {W:World} {m:Int} (h:W.cell? ⟨1,0,none⟩=some (.int .i64 m)) {a c:String×DataW Unit} {ps:List MemPlace}
  (hl:DataW.LaidVars Tryz.prog W [a, ("bobbin/step.bad", .agg [.lit (.int .u8 20), .lit (.int .u8 0), .lit (.bool false), .lit (.int .u8 0), .lit (.int .u8 0), .lit (.int .u8 0), .lit (.int .u8 0), .lit (.bool false), .lit (.int .u8 0), .lit (.string [])]),c] ps):aN (C m) W (fun _=>True):=by
 obtain ⟨qs,hl⟩:=zG hl
 have h0:aN (C0 m) W (fun _=>True):=Ar (k:=10) (TK m) (by kernel_rfl) (t:=40) (by kernel_rfl) Tryz.underlying40 (by kernel_rfl) rfl (by decide) TL hl
 intro g k e hg
 have hg:(bif Nat.beq g 0 then some (10,vm) else bif Nat.beq g 1 then some (1,AV.int m) else none)=some (k,e):=hg
 cases h1:Nat.beq g 0 with
 | true =>
  rw [h1] at hg
  refine h0 g k e ?_
  show (bif Nat.beq g 0 then some (10,vm) else none)=some (k,e)
  rw [h1];exact hg
 | false =>
  rw [h1] at hg
  cases h2:Nat.beq g 1 with
  | false=>rw [h2] at hg;cases hg
  | true =>
   rw [h2] at hg;cases hg
   obtain rfl:=Nat.eq_of_beq_eq_true h2
   refine ⟨1,0,rfl,trivial,aS h,fun j hj=>?_⟩
   obtain rfl:j=0:=by omega
   exact ⟨.int .i64 m,h,rfl,Rel.int m⟩
mutual
def uQ:DataW Unit→List Value
 | .lit (.int k n)=>[.int k n]
 | .lit (.bool b)=>[.bool b]
 | .lit (.string l)=>[.string ⟨l.toArray⟩]
 | .agg ps=>sE ps
 | _=>[]
def sE:List (DataW Unit)→List Value
 | []=>[]
 | d :: r=>uQ d ++ sE r
end
end xV
namespace xV
open Go Go.Proofs Sx
variable {mx:Int}
def TM:Code:=(Tryz.f3.body).getD .skip
def X3 (a:List UInt8) (c:al) (r:RunT):Option AV :=
 (c 6 []).bind fun b=>(unop .not b).bind fun d=>(aq d true (some (.b true)) (.b false)).bind fun e=>(aq e true (some (.b true)) (.b false)).bind fun f=>(aq f true (some (.b true)) (.b false)).bind fun g=>ah g
 (some (.b false))
 ((c 7 [.s a]).bind fun i=>(aP i 0).bind fun j=>(aP i 1).bind fun k=>(aP i 2).bind fun l=>(AV.aE 2 j).bind fun m=>(c 8 [.s a]).bind fun n=>(aP n 0).bind fun o=>(aP n 1).bind fun p=>(aP n 2).bind fun q=>(AV.aE 2 o).bind fun s=>(aD .eql l q).bind fun t=>(aq t true ((aD .eql k p).bind fun u=>some u) (.b false)).bind fun w=>(aq w true ((c 9 [.ag [gt m 0,gt m 1], .ag [gt s 0,gt s 1]]).bind fun x=>some x) (.b false)).bind fun y=>some y)
theorem c3 a {r:AV} (h:X3 a (ae (C mx) Tryz.prog) (af (C mx) Tryz.prog 3 Tryz.f3)=some r):ae (C mx) Tryz.prog 3 [.s a]=some r :=
 aj (fun _ _=>by kernel_rfl) h
def X4 (a:List UInt8) (b d:UInt8) (e:Bool) (f g i j:UInt8) (k:Bool) (l:UInt8) (m:List UInt8) (c:al) (r:RunT):Option AV :=
 (c 6 []).bind fun n=>(unop .not n).bind fun o=>ah o
 (some (.b false))
 ((c 10 [.s a, .ag [.u8 b, .u8 d, .b e, .u8 f, .u8 g, .u8 i, .u8 j, .b k, .u8 l, .s m]]).bind fun p=>(aP p 0).bind fun q=>(aP p 1).bind fun s=>(aP p 2).bind fun t=>(aP p 3).bind fun u=>(AV.aE 2 q).bind fun w=>(AV.aE 10 s).bind fun x=>(c 11 [.s a, .ag [.u8 b, .u8 d, .b e, .u8 f, .u8 g, .u8 i, .u8 j, .b k, .u8 l, .s m]]).bind fun y=>(aP y 0).bind fun z=>(aP y 1).bind fun A=>(aP y 2).bind fun B=>(aP y 3).bind fun D=>(AV.aE 2 z).bind fun E=>(AV.aE 10 A).bind fun G=>(aD .eql u D).bind fun H=>(aq H true ((aD .eql t B).bind fun I=>some I) (.b false)).bind fun J=>(aq J true ((fZ [.i, .i, .b, .i, .i, .i, .i, .b, .i, .s] .eql (.ag [gt x 0,gt x 1,gt x 2,gt x 3,gt x 4,gt x 5,gt x 6,gt x 7,gt x 8,gt x 9]) (.ag [gt G 0,gt G 1,gt G 2,gt G 3,gt G 4,gt G 5,gt G 6,gt G 7,gt G 8,gt G 9])).bind fun L=>some L) (.b false)).bind fun M=>(aq M true ((c 9 [.ag [gt w 0,gt w 1], .ag [gt E 0,gt E 1]]).bind fun N=>some N) (.b false)).bind fun O=>some O)
theorem c4 (a b d e f g i j k l m) {r:AV} (h:X4 a b d e f g i j k l m (ae (C mx) Tryz.prog) (af (C mx) Tryz.prog 4 Tryz.f4)=some r):ae (C mx) Tryz.prog 4 [.s a, .ag [.u8 b, .u8 d, .b e, .u8 f, .u8 g, .u8 i, .u8 j, .b k, .u8 l, .s m]]=some r :=
 aj (fun _ _=>by kernel_rfl) h
def X6  (c:al) (r:RunT):Option AV :=
 (c 7 [.s [123,123,120,125,125]]).bind fun a=>(aP a 0).bind fun b=>(aP a 1).bind fun d=>(aP a 2).bind fun e=>(AV.aE 2 b).bind fun f=>(aD .eql e (.int 0)).bind fun g=>(aq g true ((eP (gt f 0)).bind fun i=>(aD .eql i (.int 1)).bind fun j=>some j) (.b false)).bind fun k=>(aq k true ((idx 9 (gt f 0) (.int 0)).bind fun l=>(aD .eql (AV.cell l 8) (.u8 1)).bind fun m=>some m) (.b false)).bind fun n=>some n
theorem c6 {r:AV} (h:X6  (ae (C mx) Tryz.prog) (af (C mx) Tryz.prog 6 Tryz.f6)=some r):ae (C mx) Tryz.prog 6 []=some r :=
 aj (fun _ _=>by kernel_rfl) h
def X7 (a:List UInt8) (c:al) (r:RunT):Option AV :=
 (c 10 [.s a, .ag [.u8 0, .u8 0, .b false, .u8 0, .u8 0, .u8 0, .u8 0, .b false, .u8 0, .s []]]).bind fun b=>(aP b 0).bind fun d=>(aP b 1).bind fun e=>(aP b 2).bind fun f=>(aP b 3).bind fun g=>(AV.aE 2 d).bind fun i=>(AV.aE 10 e).bind fun j=>(aD .eql g (.int 0)).bind fun k=>(aq k true ((fZ [.i, .i, .b, .i, .i, .i, .i, .b, .i, .s] .neq (.ag [gt j 0,gt j 1,gt j 2,gt j 3,gt j 4,gt j 5,gt j 6,gt j 7,gt j 8,gt j 9]) (.ag [.u8 0, .u8 0, .b false, .u8 0, .u8 0, .u8 0, .u8 0, .b false, .u8 0, .s []])).bind fun l=>some l) (.b false)).bind fun m=>ah m
 (some (.tu [.ag [.aC, .aC], .int ((a.length:Int)), .int 8]))
 (some (.tu [.ag [gt i 0,gt i 1],f,g]))
theorem c7 a {r:AV} (h:X7 a (ae (C mx) Tryz.prog) (af (C mx) Tryz.prog 7 Tryz.f7)=some r):ae (C mx) Tryz.prog 7 [.s a]=some r :=
 aj (fun _ _=>by kernel_rfl) h
def X8 (a:List UInt8) (c:al) (r:RunT):Option AV :=
 (c 11 [.s a, .ag [.u8 0, .u8 0, .b false, .u8 0, .u8 0, .u8 0, .u8 0, .b false, .u8 0, .s []]]).bind fun b=>(aP b 0).bind fun d=>(aP b 1).bind fun e=>(aP b 2).bind fun f=>(aP b 3).bind fun g=>(AV.aE 2 d).bind fun i=>(AV.aE 10 e).bind fun j=>(aD .eql g (.int 0)).bind fun k=>(aq k true ((fZ [.i, .i, .b, .i, .i, .i, .i, .b, .i, .s] .neq (.ag [gt j 0,gt j 1,gt j 2,gt j 3,gt j 4,gt j 5,gt j 6,gt j 7,gt j 8,gt j 9]) (.ag [.u8 0, .u8 0, .b false, .u8 0, .u8 0, .u8 0, .u8 0, .b false, .u8 0, .s []])).bind fun l=>some l) (.b false)).bind fun m=>ah m
 (some (.tu [.ag [.aC, .aC], .int ((a.length:Int)), .int 8]))
 (some (.tu [.ag [gt i 0,gt i 1],f,g]))
theorem c8 a {r:AV} (h:X8 a (ae (C mx) Tryz.prog) (af (C mx) Tryz.prog 8 Tryz.f8)=some r):ae (C mx) Tryz.prog 8 [.s a]=some r :=
 aj (fun _ _=>by kernel_rfl) h
def LO (run:RunT) (a:Int) (b d e f:AV):Option AV :=
 run ((bL 4 ((Tryz.f9.body).getD .skip) []).getD []) (St.bU [(2, .cell (.ptr 2 0)),(3, .cell (.ptr 3 0)),(5, .cell (.val (.int a)))] [(2,some [.val b, .val (d)]),(3,some [.val e, .val (f)])])
def X9 (a b d e:AV) (c:al) (r:RunT):Option AV :=
 (c 16 [.ag [a,b], .ag [d,e]]).bind fun f=>(unop .not f).bind fun g=>ah g
 (some (.b false))
 (LO r 0 a b d e)
theorem c9 (a b d e) {r:AV} (h:X9 a b d e (ae (C mx) Tryz.prog) (af (C mx) Tryz.prog 9 Tryz.f9)=some r):ae (C mx) Tryz.prog 9 [.ag [a,b], .ag [d,e]]=some r :=
 aj (fun _ _=>by kernel_rfl) h
def LP (a:Int) (b d e f:AV) (c:al) (r:RunT):Option AV :=
 (eP b).bind fun g=>(aD .lss (.int a) g).bind fun i=>ah i
 ((idx 9 b (.int a)).bind fun j=>(idx 9 e (.int a)).bind fun k=>(aD .neq (AV.cell j 8) (AV.cell k 8)).bind fun l=>ah l
 (some (.b false))
 (LO r (bJ (a+1)) b d e f))
 (some (.b true))
theorem PV (a b d e f) {r:AV} (h:LP a b d e f (ae (C mx) Tryz.prog) (af (C mx) Tryz.prog 9 Tryz.f9)=some r):LO (af (C mx) Tryz.prog 9 Tryz.f9) a b d e f=some r :=
 ak (fun _ _=>by kernel_rfl) h
end xV
namespace HU
open Go Go.Proofs Sx R3 eA
def M0 (x:Nd):Nd:={ x with hole:=0 }
theorem ib:∀ (ts:Ts) (m:Nat) (c:Ctx),(cd m ts c).map M0=ts.arr m
 | .nil,m,c=>rfl
 | .leaf w k,m,c=>by simp only [cd,Ts.arr,List.map_cons,ib k];rfl
 | .lL w b e k,m,c=>by simp only [cd,Ts.arr,List.map_cons,List.map_append,ib b,ib k];rfl
 | .alt w b l x e k,m,c=>by simp only [cd,Ts.arr,List.map_cons,List.map_append,ib b,ib x,ib k];rfl
theorem PW (l:List UInt8) (c:Ctx):(∃ a e:Int,e≠0∧kY l c=.tu [dr,(bC 0).au, .int a, .int e]∧jV l c=.tu [dr,(bC 0).au, .int a, .int e]) ∨
  ∃ (ns:List Nd) (top:List Nat) (d:Ctx),kY l c=.tu [.ag [.ro 9 (ns.map Nd.av), .ro 1 (aA top)],d.au, .int 0, .int 0]∧jV l c=.tu [.ag [.ro 9 (ns.map mh), .ro 1 (aA top)],d.au, .int 0, .int 0] ∧
   ns.length≤100000∧top.length≤100000∧(∀ x ∈ ns,cR x.names)∧∀ x ∈ ns,(x.body.getD []).length≤100000∧(x.els.getD []).length≤100000:=by
 unfold kY jV
 by_cases h1:(!form c || c.st == 20)=true
 ·rw [if_pos h1,if_pos h1]
  exact .inl ⟨0,1,by decide,rfl,rfl⟩
 ·rw [if_neg h1,if_neg h1]
  cases hp:dp l with
  | bad a e=>exact .inl ⟨a,e,by have:=nj hp;omega,rfl,rfl⟩
  | ok nodes top =>
   obtain ⟨ts,g0,rfl,rfl,g1,g2,g3,g4,hn⟩:=Dw hp
   have cg:=cE ts 0
   have Fh:(ts.arr 0).length=ts.size:=Ts.eE ts 0
   obtain ⟨k1,k2⟩:=fJ ts c [] [] 0 (2 * (ts.arr 0).length+1) g0 (by rw [Fh];exact Nat.le_refl _)
   simp only [List.length_nil,List.nil_append,List.append_nil] at k1 k2
   dsimp only
   cases mb:bG ts c with
   | bad a e =>
    obtain ⟨h2,c',N',h3⟩:=k2 a e mb
    rw [h3]
    simp only
    rw [if_pos (by simpa using h2),if_pos (by simpa using h2)]
    exact .inl ⟨a,e,h2,rfl,rfl⟩
   | ok d =>
    rw [k1 d mb]
    have hm:∀ x ∈ cd 0 ts c,M0 x ∈ ts.arr 0:=fun x hx=>by
     rw [← ib ts 0 c]
     exact List.mem_map_of_mem hx
    refine .inr ⟨cd 0 ts c,ts.aH 0,d,rfl,rfl,by rw [de];omega,by omega,fun x hx=>?_,fun x hx=>?_⟩
    ·obtain ⟨_,w,hw,e⟩:=ld ts 0 _ (hm x hx)
     have e:x.names=w.names:=e
     rw [e]
     exact hn w hw
    ·have h:=fG ts 0 _ (hm x hx)
     have h:(x.body.getD []).length≤ts.size∧(x.els.getD []).length≤ts.size:=h
     omega
end HU
namespace xV
open Go Go.Proofs Sx R3 eA HU
variable {mx:Int}
theorem UA (l:List UInt8) {c:Ctx} (h:lY c):ae (C mx) Tryz.prog 10 [.s l,c.au]=some (kY l c):=gP (G:=S9) rfl rfl (by show (if c.nm.length < _ then some _ else none)=_;exact if_pos h)
theorem XI (l:List UInt8) {c:Ctx} (h:lY c):ae (C mx) Tryz.prog 11 [.s l,c.au]=some (jV l c):=gP (G:=Tq) rfl rfl (by show (if c.nm.length < _ then some _ else none)=_;exact if_pos h)
theorem Z3 {x y:AV} (h:tR x y):ae (C mx) Tryz.prog 16 [x,y]=some (.b true):=gP (G:=Qx) rfl rfl (g39 h)
theorem l9 {ns:List Nd} {ta tb:AV} (hl:ns.length≤100000):∀ (m i:Nat),ns.length=i+m→LO (af (C mx) Tryz.prog 9 Tryz.f9) (i:Int) (.ro 9 (ns.map Nd.av)) ta (.ro 9 (ns.map mh)) tb=some (.b true)
 | 0,i,hi=>by
  apply PV
  have e:decide ((i:Int) < ((ns.map Nd.av).length:Int))=false:=by rw [decide_eq_false_iff_not,List.length_map];omega
  simp only [LP,dE,Sx.bm,e,Option.bind_some,ai,Bool.false_eq_true,if_false]
 | m+1,i,hi=>by
  apply PV
  have aM:i < ns.length:=by omega
  have e:decide ((i:Int) < ((ns.map Nd.av).length:Int))=true:=by rw [decide_eq_true_eq,List.length_map];omega
  have e3:bJ ((i:Int)+1)=((i+1:Nat):Int):=by rw [cH (by omega) (by omega)];omega
  have x1:idx 9 (.ro 9 (ns.map Nd.av)) (.int (i:Int))=some (ns[i]).av:=by rw [lI 9 (by rw [List.length_map];exact aM),List.getElem_map]
  have x2:idx 9 (.ro 9 (ns.map mh)) (.int (i:Int))=some (mh ns[i]):=by rw [lI 9 (by rw [List.length_map];exact aM),List.getElem_map]
  have c1:AV.cell (ns[i]).av 8=.u8 (ns[i]).hole:=rfl
  have c2:AV.cell (mh ns[i]) 8=.u8 (ns[i]).hole:=rfl
  simp only [LP,dE,Sx.bm,e,Option.bind_some,ai,if_true,x1,x2,c1,c2,vQ,bne_self_eq_false,Bool.false_eq_true,if_false,e3]
  exact l9 hl m (i+1) (by omega)
theorem s9 {ns:List Nd} {top:List Nat} (h1:ns.length≤100000) (h2:top.length≤100000) (h3:∀ x ∈ ns,cR x.names) (h4:∀ x ∈ ns,(x.body.getD []).length≤100000∧(x.els.getD []).length≤100000) :
  ae (C mx) Tryz.prog 9 [.ag [.ro 9 (ns.map Nd.av), .ro 1 (aA top)], .ag [.ro 9 (ns.map mh), .ro 1 (aA top)]]=some (.b true):=by
 apply c9
 have fm:tR (.ag [.ro 9 (ns.map Nd.av), .ro 1 (aA top)]) (.ag [.ro 9 (ns.map mh), .ro 1 (aA top)]):=⟨ns,top,_,_,_,_,h1,h2,h3,h4, .inl rfl, .inl rfl, .inl rfl, .inl rfl,rfl,rfl⟩
 have BV:unop .not (.b true)=some (.b false):=rfl
 simp only [X9,Z3 fm,Option.bind_some,BV,ai,Bool.false_eq_true,if_false]
 exact l9 (mx:=mx) h1 ns.length 0 (by omega)
theorem s9n:ae (C mx) Tryz.prog 9 [.ag [.aC, .aC], .ag [.aC, .aC]]=some (.b true):=by
 apply c9
 have fm:tR (.ag [.aC, .aC]) (.ag [.aC, .aC]) :=
  ⟨[],[], .aC, .aC, .aC, .aC,Nat.zero_le _,Nat.zero_le _,by simp,by simp, .inr ⟨rfl,rfl⟩, .inr ⟨rfl,rfl⟩, .inr ⟨rfl,rfl⟩, .inr ⟨rfl,rfl⟩,rfl,rfl⟩
 have BV:unop .not (.b true)=some (.b false):=rfl
 simp only [X9,Z3 fm,Option.bind_some,BV,ai,Bool.false_eq_true,if_false]
 apply PV
 have e0:eP .aC=some (.int 0):=rfl
 simp only [LP,e0,Sx.bm,Option.bind_some]
 rfl
theorem PX (a b c d:AV):aP (.tu [a,b,c,d]) 0=some a:=rfl
theorem PY (a b c d:AV):aP (.tu [a,b,c,d]) 1=some b:=rfl
theorem PZ (a b c d:AV):aP (.tu [a,b,c,d]) 2=some c:=rfl
theorem P0 (a b c d:AV):aP (.tu [a,b,c,d]) 3=some d:=rfl
theorem XJ (a b c:AV):aP (.tu [a,b,c]) 0=some a:=rfl
theorem XK (a b c:AV):aP (.tu [a,b,c]) 1=some b:=rfl
theorem XL (a b c:AV):aP (.tu [a,b,c]) 2=some c:=rfl
theorem ml (a b:AV):AV.aE 2 (.ag [a,b])=some [a,b]:=rfl
theorem Lg:lY (bC 0):=by show (0:Nat) < _;decide
theorem nu:AV.ag [.u8 0, .u8 0, .b false, .u8 0, .u8 0, .u8 0, .u8 0, .b false, .u8 0, .s []]=(bC 0).au:=rfl
theorem z0:Ctx.au ⟨0,0,false,0,0,0,0,false,0,[]⟩=(bC 0).au:=rfl
theorem P1 (l:List UInt8):(∃ a e:Int,ae (C mx) Tryz.prog 7 [.s l]=some (.tu [.ag [.aC, .aC], .int a, .int e])∧ae (C mx) Tryz.prog 8 [.s l]=some (.tu [.ag [.aC, .aC], .int a, .int e])) ∨
  ∃ (ns:List Nd) (top:List Nat),ae (C mx) Tryz.prog 7 [.s l]=some (.tu [.ag [.ro 9 (ns.map Nd.av), .ro 1 (aA top)], .int 0, .int 0])∧ae (C mx) Tryz.prog 8 [.s l]=some (.tu [.ag [.ro 9 (ns.map mh), .ro 1 (aA top)], .int 0, .int 0]) ∧
   ns.length≤100000∧top.length≤100000∧(∀ x ∈ ns,cR x.names)∧∀ x ∈ ns,(x.body.getD []).length≤100000∧(x.els.getD []).length≤100000:=by
 rcases PW l (bC 0) with ⟨a,e,he,h1,h2⟩ | ⟨ns,top,d,h1,h2,g⟩
 ·have z:(e == 0)=false:=by simpa using he
  refine .inl ⟨a,e,?_,?_⟩
  ·apply c7
   simp only [X7,nu,UA l Lg,h1,dr,Option.bind_some,PX,PY,PZ,P0,ml,ao,Sx.aZ,z,eZ,ai,Bool.false_eq_true,if_false,List.getD_cons_zero,List.getD_cons_succ]
  ·apply c8
   simp only [X8,nu,XI l Lg,h2,dr,Option.bind_some,PX,PY,PZ,P0,ml,ao,Sx.aZ,z,eZ,ai,Bool.false_eq_true,if_false,List.getD_cons_zero,List.getD_cons_succ]
 ·by_cases hd:d=bC 0
  ·refine .inr ⟨ns,top,?_,?_,g⟩
   ·apply c7
    simp only [X7,nu,UA l Lg,h1,Option.bind_some,PX,PY,PZ,P0,ml,ao,Sx.aZ,beq_self_eq_true,zT,az,z0,aF,iF,hd,decide_true,Bool.not_true,iC,ai,Bool.false_eq_true,if_false,List.getD_cons_zero,List.getD_cons_succ]
   ·apply c8
    simp only [X8,nu,XI l Lg,h2,Option.bind_some,PX,PY,PZ,P0,ml,ao,Sx.aZ,beq_self_eq_true,zT,az,z0,aF,iF,hd,decide_true,Bool.not_true,iC,ai,Bool.false_eq_true,if_false,List.getD_cons_zero,List.getD_cons_succ]
  ·refine .inl ⟨(l.length:Int),8,?_,?_⟩
   ·apply c7
    simp only [X7,nu,UA l Lg,h1,Option.bind_some,PX,PY,PZ,P0,ml,ao,Sx.aZ,beq_self_eq_true,zT,az,z0,aF,iF,hd,decide_false,Bool.not_false,iC,ai,if_true]
   ·apply c8
    simp only [X8,nu,XI l Lg,h2,Option.bind_some,PX,PY,PZ,P0,ml,ao,Sx.aZ,beq_self_eq_true,zT,az,z0,aF,iF,hd,decide_false,Bool.not_false,iC,ai,if_true]
theorem P2:kY [123,123,120,125,125] (bC 0)=.tu [.ag [.ro 9 [.ag [.u8 1, .int 0, .s [], .b false, .ro 1 [.s [120]], .aC, .aC, .b false, .u8 1]], .ro 1 [.int 0]],(bC 0).au, .int 0, .int 0]:=by
 kernel_rfl
theorem s6:ae (C mx) Tryz.prog 6 []=some (.b true):=by
 apply c6
 have h7:ae (C mx) Tryz.prog 7 [.s [123,123,120,125,125]]=some (.tu [.ag [.ro 9 [.ag [.u8 1, .int 0, .s [], .b false, .ro 1 [.s [120]], .aC, .aC, .b false, .u8 1]], .ro 1 [.int 0]], .int 0, .int 0]):=by
  apply c7
  simp only [X7,nu,UA _ Lg,P2,Option.bind_some,PX,PY,PZ,P0,ml,ao,Sx.aZ,beq_self_eq_true,zT,az,z0,aF,iF,decide_true,Bool.not_true,iC,ai,Bool.false_eq_true,if_false,List.getD_cons_zero,List.getD_cons_succ]
 simp only [X6,h7,Option.bind_some,XJ,XK,XL,ml,Sx.aZ]
 rfl
theorem XM (l:List UInt8):ae (C mx) Tryz.prog 3 [.s l]=some (.b true):=by
 apply c3
 have BV:unop .not (.b true)=some (.b false):=rfl
 have Xi:aq (.b false) true (some (.b true)) (.b false)=some (.b false):=rfl
 simp only [X3,s6 (mx:=mx),Option.bind_some,BV,Xi,ai,Bool.false_eq_true,if_false]
 rcases P1 (mx:=mx) l with ⟨a,e,h1,h2⟩ | ⟨ns,top,h1,h2,g1,g2,g3,g4⟩
 ·simp only [h1,h2,Option.bind_some,XJ,XK,XL,ml,Sx.aZ,beq_self_eq_true,iC,List.getD_cons_zero,List.getD_cons_succ,s9n]
 ·simp only [h1,h2,Option.bind_some,XJ,XK,XL,ml,Sx.aZ,beq_self_eq_true,iC,List.getD_cons_zero,List.getD_cons_succ,s9 g1 g2 g3 g4]
end xV
end
