/-
  A part of CodeGoes's proof: an evaluator of translated functions over plain data, what functions of this seat come to, and laws on plain data.
-/
import Derived.Test.YtgjfbalafdifgaaDoorTF
import Derived.Test.YtgjfbalafdifgaaDoorProg
set_option linter.unusedVariables false
set_option linter.unusedSimpArgs false
set_option linter.unusedSectionVars false
set_option linter.unnecessarySimpa false
namespace R3K
open Go Go.Proofs Sx R3 R3I
variable {mx:Int}
def NmW (ts:Ts):Prop:=∀ w ∈ ts.flat,NmOk2 w.names
theorem leaf3 {w:Wd} (h:w.kind≠2∧w.kind≠3∧w.kind≠4∧w.kind≠5):ndKind w.kind=0∨ndKind w.kind=1∨ndKind w.kind=4:=by
 unfold ndKind
 repeat' split
 all_goals first
  | exact .inl rfl
  | exact .inr (.inl rfl)
  | exact .inr (.inr rfl)
  | (rename_i e;exact absurd (by simpa using e) h.1)
  | (rename_i e;exact absurd (by simpa using e) h.2.2.1)
theorem c26 {oa la N T:AV} {j:Nat} {out:List AV} {r:AV} (hj:j≤1000000) (h:F72_1 (semRun (C mx) Tryd.prog 72 Tryd.f72) oa la ((j+1:Nat):Int) N T out=some r):F72_26 (semRun (C mx) Tryd.prog 72 Tryd.f72) oa la (j:Int) N T out=some r:=by
 apply r72_26
 have e3:w64 ((j:Int)+1)=((j+1:Nat):Int):=by rw [w64_eq (by omega) (by omega)];omega
 simp only [X72_26,e3]
 exact h
theorem elems6 (l:List AV):AV.elems (.ro 6 l)=l:=rfl
theorem drop_tops {o:Option (List Nat)} {j m:Nat} {l:List Nat} (h:(o.getD []).drop j=m :: l):(o.getD [])[j]?=some m∧(o.getD []).drop (j+1)=l∧j < (o.getD []).length:=by
 have h1:=congrArg (fun l=>l[0]?) h
 simp at h1
 have h2:=congrArg (List.drop 1) h
 refine ⟨by simpa using h1,by simpa [List.drop_drop] using h2,?_⟩
 by_cases hh:j < (o.getD []).length
 ·exact hh
 ·rw [List.drop_eq_nil_of_le (by omega)] at h;cases h
def WOk (mx:Int) (ts:Ts):Prop:=∀ (A B:List Nd) (c:Ctx) (o:Option (List Nat)) (j:Nat) (T:AV) (out:List In),(o.getD []).drop j=ts.tops A.length→j≤(o.getD []).length→(o.getD []).length≤500000→out.length+isz ts≤500000→ts.ok→NmW ts →
 F72_1 (semRun (C mx) Tryd.prog 72 Tryd.f72) (optAV o) (.int ((o.getD []).length:Int)) (j:Int) (.ro 9 ((A ++ (arrH A.length ts c ++ B)).map Nd.av)) T (out.map In.av)=some (.tu [.tu [], .ag [.ro 9 ((A ++ (arrH A.length ts c ++ B)).map Nd.av),T, .ro 6 ((out ++ comp out.length ts c).map In.av)]])
theorem wok_call {ts:Ts} (h:WOk mx ts) {N A B:List Nd} {c:Ctx} {l:List Nat} {T:AV} {out:List In} (hN:N=A ++ (arrH A.length ts c ++ B)) (hl:l=ts.tops A.length) (h1:l.length≤500000) (h2:out.length+isz ts≤500000) (h3:ts.ok) (h4:NmW ts) :
  semCall (C mx) Tryd.prog 72 [.un,optAV (some l), .ag [.ro 9 (N.map Nd.av),T, .ro 6 (out.map In.av)]]=some (.tu [.tu [], .ag [.ro 9 (N.map Nd.av),T, .ro 6 ((out ++ comp out.length ts c).map In.av)]]):=by
 subst hN
 apply c72
 simp only [X72,opt_len,Option.bind_some]
 exact h A B c (some l) 0 T out (by simpa using hl) (Nat.zero_le _) h1 h2 h3 h4
theorem size_isz:∀ (t:Ts),t.size≤isz t
 | .nil=>Nat.le_refl _
 | .leaf w k=>by simp only [Ts.size,isz];have:=size_isz k;omega
 | .blk w b e k=>by simp only [Ts.size,isz];have:=size_isz k;have:=size_isz b;split <;> omega
 | .alt w b l x e k=>by simp only [Ts.size,isz];have:=size_isz k;have:=size_isz b;have:=size_isz x;omega
theorem wok:∀ (ts:Ts),WOk mx ts
 | .nil=>by
  intro A B c o j T out hd hj hlen hout hok hn
  apply r72_1
  have hge:(o.getD []).length≤j:=by
   have:=congrArg List.length hd
   simp [Ts.tops] at this
   omega
  have e1:decide ((j:Int) < ((o.getD []).length:Int))=false:=by rw [decide_eq_false_iff_not];omega
  simp only [X72_1,Sx.int_lss,e1,Option.bind_some,condM_b,Bool.false_eq_true,if_false,comp,List.append_nil]
 | .leaf w k=>by
  intro A B c o j T out hd hj hlen hout hok hn
  obtain ⟨hx,hd',hlt⟩:=drop_tops hd
  apply r72_1
  have e1:decide ((j:Int) < ((o.getD []).length:Int))=true:=by rw [decide_eq_true_eq];omega
  have eN:A ++ (arrH A.length (.leaf w k) c ++ B)=A ++ nHole w c :: (arrH (A.length+1) k ((leafGo w c).get c) ++ B):=by simp [arrH]
  obtain ⟨nl,n1,n2⟩:=cp_names (hn w (by simp [Ts.flat]))
  simp only [isz] at hout
  have ih:=wok k (A ++ [nHole w c]) B ((leafGo w c).get c) o (j+1) T (out ++ [leafIn w c]) (by rw [List.length_append];exact hd') (by omega) hlen (by rw [List.length_append];simp only [List.length_cons,List.length_nil];omega) hok.2 (fun x hx=>hn x (by simp [Ts.flat,hx]))
  simp only [List.length_append,List.length_cons,List.length_nil,Nat.zero_add,List.append_assoc,List.singleton_append] at ih
  have hidx:idx 9 (.ro 9 ((A ++ nHole w c :: (arrH (A.length+1) k ((leafGo w c).get c) ++ B)).map Nd.av)) (.int (A.length:Int))=some (nHole w c).av:=at_av
  have hs:=fun i=>s73 (mx:=mx) i (.ro 9 ((A ++ nHole w c :: (arrH (A.length+1) k ((leafGo w c).get c) ++ B)).map Nd.av)) T out (by omega)
  rw [eN]
  have fin:∀ i,i=leafIn w c→F72_26 (semRun (C mx) Tryd.prog 72 Tryd.f72) (optAV o) (.int ((o.getD []).length:Int)) (j:Int) (.ro 9 ((A ++ nHole w c :: (arrH (A.length+1) k ((leafGo w c).get c) ++ B)).map Nd.av)) T ((out ++ [i]).map In.av)=some (.tu [.tu [], .ag [.ro 9 ((A ++ nHole w c :: (arrH (A.length+1) k ((leafGo w c).get c) ++ B)).map Nd.av),T, .ro 6 ((out ++ comp out.length (.leaf w k) c).map In.av)]]):=by
   intro i hi
   subst hi
   exact c26 (by omega) ih
  generalize (A ++ nHole w c :: (arrH (A.length+1) k ((leafGo w c).get c) ++ B)).map Nd.av=NN at hidx hs fin ⊢
  simp only [X72_1,Sx.int_lss,e1,Option.bind_some,condM_b,if_true,opt_idx hx,cell_int,hidx,same_eq,k0,k2,k3,k4,k5,k6,k7,k8,show (nHole w c).names=w.names from rfl,n1,one_b,one_s,one_u8,u8_eql,show (nHole w c).kind=ndKind w.kind from rfl,show (nHole w c).text=w.text from rfl,show (nHole w c).root=w.root from rfl,show (nHole w c).hole=holeOf w c from rfl]
  rcases leaf3 hok.1 with hk | hk | hk
  ·have hi:=fin _ rfl
   unfold leafIn at hi
   have h73:=hs ⟨0,w.text,false, .nils,0,0⟩
   have h73:semCall (C mx) Tryd.prog 73 [.un, .ag [.u8 0, .s w.text, .b false, .nils, .u8 0, .int 0], .ag [.ro 9 NN,T, .ro 6 (out.map In.av)]]=_:=h73
   rw [hk] at hi ⊢
   simp only [show ((0:UInt8) == 0)=true from rfl,if_true,h73,Option.bind_some,tu0,tu1,asAg3,th0,th1,th2,elems6] at hi ⊢
   exact hi
  ·have hi:=fin _ rfl
   unfold leafIn at hi
   have h73:=hs ⟨1,[],w.root,cpN w.names,holeOf w c,0⟩
   have h73:semCall (C mx) Tryd.prog 73 [.un, .ag [.u8 1, .s [], .b w.root,cpN w.names, .u8 (holeOf w c), .int 0], .ag [.ro 9 NN,T, .ro 6 (out.map In.av)]]=_:=h73
   rw [n2] at h73
   rw [hk] at hi ⊢
   simp only [show ((1:UInt8) == 0)=false from rfl,show ((1:UInt8) == 1)=true from rfl,Bool.false_eq_true,if_false,if_true,h73,Option.bind_some,tu0,tu1,asAg3,th0,th1,th2,elems6,n2] at hi ⊢
   exact hi
  ·have hi:=fin _ rfl
   unfold leafIn at hi
   have h73:=hs ⟨6,[],false, .nils,0,0⟩
   have h73:semCall (C mx) Tryd.prog 73 [.un, .ag [.u8 6, .s [], .b false, .nils, .u8 0, .int 0], .ag [.ro 9 NN,T, .ro 6 (out.map In.av)]]=_:=h73
   rw [hk] at hi ⊢
   simp only [show ((4:UInt8) == 0)=false from rfl,show ((4:UInt8) == 1)=false from rfl,show ((4:UInt8) == 4)=true from rfl,Bool.false_eq_true,if_false,if_true,h73,Option.bind_some,tu0,tu1,asAg3,th0,th1,th2,elems6] at hi ⊢
   exact hi
 | .blk w b e' k=>by
  intro A B c o j T out hd hj hlen hout hok hn
  obtain ⟨hx,hd',hlt⟩:=drop_tops hd
  apply r72_1
  have e1:decide ((j:Int) < ((o.getD []).length:Int))=true:=by rw [decide_eq_true_eq];omega
  obtain ⟨nl,n1,n2⟩:=cp_names (hn w (by simp [Ts.flat]))
  obtain ⟨hk,ke,hb,hk'⟩:=hok
  simp only [isz] at hout
  have eN:A ++ (arrH A.length (.blk w b e' k) c ++ B)=A ++ nBlk w (b.tops (A.length+1)) :: (arrH (A.length+1) b c ++ (arrH (A.length+1+b.size) k c ++ B)):=by simp [arrH]
  have eN2:A ++ nBlk w (b.tops (A.length+1)) :: (arrH (A.length+1) b c ++ (arrH (A.length+1+b.size) k c ++ B))=(A ++ [nBlk w (b.tops (A.length+1))]) ++ (arrH (A ++ [nBlk w (b.tops (A.length+1))]).length b c ++ (arrH (A.length+1+b.size) k c ++ B)):=by simp
  have eN3:A ++ nBlk w (b.tops (A.length+1)) :: (arrH (A.length+1) b c ++ (arrH (A.length+1+b.size) k c ++ B))=(A ++ nBlk w (b.tops (A.length+1)) :: arrH (A.length+1) b c) ++ (arrH (A ++ nBlk w (b.tops (A.length+1)) :: arrH (A.length+1) b c).length k c ++ B):=by
   rw [List.length_append,List.length_cons,arrH_len,show A.length+(b.size+1)=A.length+1+b.size by omega];simp
  have hbn:NmW b:=fun x hx=>hn x (by simp [Ts.flat,hx])
  have hkn:NmW k:=fun x hx=>hn x (by simp [Ts.flat,hx])
  have hA3:(A ++ nBlk w (b.tops (A.length+1)) :: arrH (A.length+1) b c).length=A.length+1+b.size:=by rw [List.length_append,List.length_cons,arrH_len];omega
  have hsz1:=size_isz b
  have hsz2:=tops_len b (A.length+1)
  have hcall:=fun (out:List In) (ho:out.length+isz b≤500000)=>wok_call (T:=T) (wok b) eN2 (l:=b.tops (A.length+1)) (by simp) (by omega) ho hb hbn
  have hk2:=fun (out:List In) (ho:out.length+isz k≤500000)=>wok k (A ++ nBlk w (b.tops (A.length+1)) :: arrH (A.length+1) b c) B c o (j+1) T out (by rw [hA3];exact hd') (by omega) hlen ho hk' hkn
  rw [← eN3] at hk2
  rw [eN]
  have hidx:idx 9 (.ro 9 ((A ++ nBlk w (b.tops (A.length+1)) :: (arrH (A.length+1) b c ++ (arrH (A.length+1+b.size) k c ++ B))).map Nd.av)) (.int (A.length:Int))=some (nBlk w (b.tops (A.length+1))).av:=at_av
  have hs:=fun (out:List In) (ho:out.length≤1000000) i=>s73 (mx:=mx) i (.ro 9 ((A ++ nBlk w (b.tops (A.length+1)) :: (arrH (A.length+1) b c ++ (arrH (A.length+1+b.size) k c ++ B))).map Nd.av)) T out ho
  generalize (A ++ nBlk w (b.tops (A.length+1)) :: (arrH (A.length+1) b c ++ (arrH (A.length+1+b.size) k c ++ B))).map Nd.av=NN at hidx hs hcall hk2 ⊢
  simp only [X72_1,Sx.int_lss,e1,Option.bind_some,condM_b,if_true,opt_idx hx,cell_int,hidx,same_eq,k0,k2,k3,k4,k5,k6,k7,k8,show (nBlk w (b.tops (A.length+1))).names=w.names from rfl,n1,one_b,one_s,one_u8,u8_eql,show (nBlk w (b.tops (A.length+1))).kind=ndKind w.kind from rfl,show (nBlk w (b.tops (A.length+1))).root=w.root from rfl,show (nBlk w (b.tops (A.length+1))).has=false from rfl,show (nBlk w (b.tops (A.length+1))).body=some (b.tops (A.length+1)) from rfl]
  rcases blk_kind hk with hk | hk
  ·rw [hk] at hout ⊢
   simp only [show ((2:UInt8) == 2)=true from rfl,if_true] at hout
   have h73:semCall (C mx) Tryd.prog 73 [.un, .ag [.u8 2, .s [], .b w.root, .ro 1 nl, .u8 0, .int 0], .ag [.ro 9 NN,T, .ro 6 (out.map In.av)]]=_:=hs out (by omega) ⟨2,[],w.root, .ro 1 nl,0,0⟩
   have h72:=hcall (out ++ [⟨2,[],w.root, .ro 1 nl,0,0⟩]) (by rw [List.length_append];simp only [List.length_cons,List.length_nil];omega)
   simp only [show ((2:UInt8) == 0)=false from rfl,show ((2:UInt8) == 1)=false from rfl,show ((2:UInt8) == 4)=false from rfl,show ((2:UInt8) == 2)=true from rfl,Bool.false_eq_true,if_false,if_true,h73,Option.bind_some,tu0,tu1,asAg3,th0,th1,th2,elems6,h72]
   apply r72_20
   simp only [List.append_assoc,List.singleton_append]
   simp only [X72_20,in_at,Option.bind_some]
   rw [set_to out.length rfl _ (out.length+1+isz b) (by simp only [List.length_map,List.length_append,List.length_cons,comp_len,List.length_nil];omega)]
   apply c26 (by omega)
   have hkk:=hk2 (out ++ ⟨2,[],w.root, .ro 1 nl,0,out.length+1+isz b⟩ :: comp (out.length+1) b c) (by rw [List.length_append,List.length_cons,comp_len];omega)
   simp only [List.length_append,List.length_cons,comp_len,List.length_nil,Nat.zero_add,List.nil_append] at hkk ⊢
   rw [hkk]
   simp only [comp,hk,show ((2:UInt8) == 2)=true from rfl,if_true,n2,List.append_assoc,List.cons_append]
   rw [show out.length+(isz b+1)=out.length+1+isz b by omega]
  ·rw [hk] at hout ⊢
   simp only [show ((3:UInt8) == 2)=false from rfl,Bool.false_eq_true,if_false] at hout
   have h73:semCall (C mx) Tryd.prog 73 [.un, .ag [.u8 4, .s [], .b w.root, .ro 1 nl, .u8 0, .int 0], .ag [.ro 9 NN,T, .ro 6 (out.map In.av)]]=_:=hs out (by omega) ⟨4,[],w.root, .ro 1 nl,0,0⟩
   have h72:=hcall (out ++ [⟨4,[],w.root, .ro 1 nl,0,0⟩]) (by rw [List.length_append];simp only [List.length_cons,List.length_nil];omega)
   have hplus:binI .add (.int (out.length:Int)) (.int 1)=some (.int ((out.length+1:Nat):Int)):=by
    rw [int_add (by omega) (by omega)];congr 2
   have h73b:semCall (C mx) Tryd.prog 73 [.un, .ag [.u8 5, .s [], .b false, .nils, .u8 0, .int ((out.length+1:Nat):Int)], .ag [.ro 9 NN,T, .ro 6 ((out ++ [(⟨4,[],w.root, .ro 1 nl,0,0⟩:In)] ++ comp (out ++ [(⟨4,[],w.root, .ro 1 nl,0,0⟩:In)]).length b c).map In.av)]]=_:=hs (out ++ [(⟨4,[],w.root, .ro 1 nl,0,0⟩:In)] ++ comp (out ++ [(⟨4,[],w.root, .ro 1 nl,0,0⟩:In)]).length b c) (by rw [List.length_append,List.length_append,comp_len];simp only [List.length_cons,List.length_nil];omega) ⟨5,[],false, .nils,0,out.length+1⟩
   have one_i (n:Int):AV.one (.int n)=some (.int n):=rfl
   simp only [show ((3:UInt8) == 0)=false from rfl,show ((3:UInt8) == 1)=false from rfl,show ((3:UInt8) == 4)=false from rfl,show ((3:UInt8) == 2)=false from rfl,show ((3:UInt8) == 3)=true from rfl,Bool.false_eq_true,if_false,if_true,h73,Option.bind_some,tu0,tu1,asAg3,th0,th1,th2,elems6,h72,hplus,one_i,h73b]
   simp only [List.append_assoc,List.singleton_append,List.cons_append]
   simp only [in_at,Option.bind_some]
   rw [set_to out.length rfl _ (out.length+2+isz b) (by simp only [List.length_map,List.length_append,List.length_cons,comp_len,List.length_nil];omega)]
   apply c26 (by omega)
   have hkk:=hk2 (out ++ ⟨4,[],w.root, .ro 1 nl,0,out.length+2+isz b⟩ :: (comp (out.length+1) b c ++ [⟨5,[],false, .nils,0,out.length+1⟩])) (by simp only [List.length_append,List.length_cons,List.length_nil,comp_len];omega)
   simp only [List.length_append,List.length_cons,comp_len,List.length_nil,Nat.zero_add,List.nil_append] at hkk ⊢
   rw [hkk]
   simp only [comp,hk,show ((3:UInt8) == 2)=false from rfl,Bool.false_eq_true,if_false,n2,List.append_assoc,List.cons_append,List.nil_append]
   rw [show out.length+(isz b+1+1)=out.length+2+isz b by omega]
 | .alt w b l y e' k=>by
  intro A B c o j T out hd hj hlen hout hok hn
  obtain ⟨hx,hd',hlt⟩:=drop_tops hd
  apply r72_1
  have e1:decide ((j:Int) < ((o.getD []).length:Int))=true:=by rw [decide_eq_true_eq];omega
  obtain ⟨nl,n1,n2⟩:=cp_names (hn w (by simp [Ts.flat]))
  obtain ⟨hk,kl,ke,hb,hy,hk'⟩:=hok
  have hk2':ndKind w.kind=2:=by rw [hk];rfl
  simp only [isz] at hout
  have eN:A ++ (arrH A.length (.alt w b l y e' k) c ++ B)=A ++ nAlt w (b.tops (A.length+1)) (y.tops (A.length+1+b.size)) :: (arrH (A.length+1) b c ++ (arrH (A.length+1+b.size) y c ++ (arrH (A.length+1+b.size+y.size) k ((tsGo b c).get c) ++ B))):=by simp [arrH]
  generalize hnd:nAlt w (b.tops (A.length+1)) (y.tops (A.length+1+b.size))=nd at eN
  have eN2:A ++ nd :: (arrH (A.length+1) b c ++ (arrH (A.length+1+b.size) y c ++ (arrH (A.length+1+b.size+y.size) k ((tsGo b c).get c) ++ B)))=(A ++ [nd]) ++ (arrH (A ++ [nd]).length b c ++ (arrH (A.length+1+b.size) y c ++ (arrH (A.length+1+b.size+y.size) k ((tsGo b c).get c) ++ B))):=by simp
  have hA3:(A ++ nd :: arrH (A.length+1) b c).length=A.length+1+b.size:=by rw [List.length_append,List.length_cons,arrH_len];omega
  have hA4:(A ++ nd :: (arrH (A.length+1) b c ++ arrH (A.length+1+b.size) y c)).length=A.length+1+b.size+y.size:=by rw [List.length_append,List.length_cons,List.length_append,arrH_len,arrH_len];omega
  have eN3:A ++ nd :: (arrH (A.length+1) b c ++ (arrH (A.length+1+b.size) y c ++ (arrH (A.length+1+b.size+y.size) k ((tsGo b c).get c) ++ B)))=(A ++ nd :: arrH (A.length+1) b c) ++ (arrH (A ++ nd :: arrH (A.length+1) b c).length y c ++ (arrH (A.length+1+b.size+y.size) k ((tsGo b c).get c) ++ B)):=by rw [hA3];simp
  have eN4:A ++ nd :: (arrH (A.length+1) b c ++ (arrH (A.length+1+b.size) y c ++ (arrH (A.length+1+b.size+y.size) k ((tsGo b c).get c) ++ B)))=(A ++ nd :: (arrH (A.length+1) b c ++ arrH (A.length+1+b.size) y c)) ++ (arrH (A ++ nd :: (arrH (A.length+1) b c ++ arrH (A.length+1+b.size) y c)).length k ((tsGo b c).get c) ++ B):=by rw [hA4];simp
  have hbn:NmW b:=fun x hx=>hn x (by simp [Ts.flat,hx])
  have hyn:NmW y:=fun x hx=>hn x (by simp [Ts.flat,hx])
  have hkn:NmW k:=fun x hx=>hn x (by simp [Ts.flat,hx])
  have hsz1:=size_isz b
  have hsz2:=tops_len b (A.length+1)
  have hsz3:=size_isz y
  have hsz4:=tops_len y (A.length+1+b.size)
  have hcall:=fun (out:List In) (ho:out.length+isz b≤500000)=>wok_call (T:=T) (wok b) eN2 (l:=b.tops (A.length+1)) (by simp) (by omega) ho hb hbn
  have hcally:=fun (out:List In) (ho:out.length+isz y≤500000)=>wok_call (T:=T) (wok y) eN3 (l:=y.tops (A.length+1+b.size)) (by rw [hA3]) (by omega) ho hy hyn
  have hk2:=fun (out:List In) (ho:out.length+isz k≤500000)=>wok k (A ++ nd :: (arrH (A.length+1) b c ++ arrH (A.length+1+b.size) y c)) B ((tsGo b c).get c) o (j+1) T out (by rw [hA4];exact hd') (by omega) hlen ho hk' hkn
  rw [← eN4] at hk2
  rw [eN]
  have hidx:idx 9 (.ro 9 ((A ++ nd :: (arrH (A.length+1) b c ++ (arrH (A.length+1+b.size) y c ++ (arrH (A.length+1+b.size+y.size) k ((tsGo b c).get c) ++ B)))).map Nd.av)) (.int (A.length:Int))=some nd.av:=at_av
  have hs:=fun (out:List In) (ho:out.length≤1000000) i=>s73 (mx:=mx) i (.ro 9 ((A ++ nd :: (arrH (A.length+1) b c ++ (arrH (A.length+1+b.size) y c ++ (arrH (A.length+1+b.size+y.size) k ((tsGo b c).get c) ++ B)))).map Nd.av)) T out ho
  generalize (A ++ nd :: (arrH (A.length+1) b c ++ (arrH (A.length+1+b.size) y c ++ (arrH (A.length+1+b.size+y.size) k ((tsGo b c).get c) ++ B)))).map Nd.av=NN at hidx hs hcall hcally hk2 ⊢
  subst hnd
  have h73:semCall (C mx) Tryd.prog 73 [.un, .ag [.u8 2, .s [], .b w.root, .ro 1 nl, .u8 0, .int 0], .ag [.ro 9 NN,T, .ro 6 (out.map In.av)]]=_:=hs out (by omega) ⟨2,[],w.root, .ro 1 nl,0,0⟩
  have h72:=hcall (out ++ [⟨2,[],w.root, .ro 1 nl,0,0⟩]) (by rw [List.length_append];simp only [List.length_cons,List.length_nil];omega)
  have h73b:semCall (C mx) Tryd.prog 73 [.un, .ag [.u8 3, .s [], .b false, .nils, .u8 0, .int 0], .ag [.ro 9 NN,T, .ro 6 ((out ++ [(⟨2,[],w.root, .ro 1 nl,0,0⟩:In)] ++ comp (out ++ [(⟨2,[],w.root, .ro 1 nl,0,0⟩:In)]).length b c).map In.av)]]=_:=hs (out ++ [(⟨2,[],w.root, .ro 1 nl,0,0⟩:In)] ++ comp (out ++ [(⟨2,[],w.root, .ro 1 nl,0,0⟩:In)]).length b c) (by rw [List.length_append,List.length_append,comp_len];simp only [List.length_cons,List.length_nil];omega) ⟨3,[],false, .nils,0,0⟩
  simp only [X72_1,Sx.int_lss,e1,Option.bind_some,condM_b,if_true,opt_idx hx,cell_int,hidx,same_eq,k0,k2,k3,k4,k5,k6,k7,k8,show (nAlt w (b.tops (A.length+1)) (y.tops (A.length+1+b.size))).names=w.names from rfl,n1,one_b,one_s,one_u8,u8_eql,show (nAlt w (b.tops (A.length+1)) (y.tops (A.length+1+b.size))).kind=ndKind w.kind from rfl,show (nAlt w (b.tops (A.length+1)) (y.tops (A.length+1+b.size))).root=w.root from rfl,show (nAlt w (b.tops (A.length+1)) (y.tops (A.length+1+b.size))).has=true from rfl,show (nAlt w (b.tops (A.length+1)) (y.tops (A.length+1+b.size))).body=some (b.tops (A.length+1)) from rfl,show (nAlt w (b.tops (A.length+1)) (y.tops (A.length+1+b.size))).els=some (y.tops (A.length+1+b.size)) from rfl,hk2',show ((2:UInt8) == 0)=false from rfl,show ((2:UInt8) == 1)=false from rfl,show ((2:UInt8) == 4)=false from rfl,show ((2:UInt8) == 2)=true from rfl,Bool.false_eq_true,if_false,h73,tu0,tu1,asAg3,th0,th1,th2,elems6,h72,h73b]
  simp only [List.append_assoc,List.singleton_append,List.cons_append]
  simp only [in_at,Option.bind_some]
  rw [set_to out.length rfl _ (out.length+2+isz b) (by simp only [List.length_map,List.length_append,List.length_cons,comp_len,List.length_nil];omega)]
  have hyc:=hcally (out ++ ⟨2,[],w.root, .ro 1 nl,0,out.length+2+isz b⟩ :: (comp (out.length+1) b c ++ [⟨3,[],false, .nils,0,0⟩])) (by simp only [List.length_append,List.length_cons,List.length_nil,comp_len];omega)
  simp only [List.length_append,List.length_cons,comp_len,List.length_nil,Nat.zero_add,List.nil_append] at hyc ⊢
  simp only [hyc,Option.bind_some,tu0,tu1,asAg3,th0,th1,th2,elems6]
  apply r72_20
  have hX:(out ++ ⟨2,[],w.root, .ro 1 nl,0,out.length+2+isz b⟩ :: comp (out.length+1) b c).length=out.length+(isz b+1):=by rw [List.length_append,List.length_cons,comp_len]
  have esh:∀ (i:In) (R:List In),out ++ ⟨2,[],w.root, .ro 1 nl,0,out.length+2+isz b⟩ :: (comp (out.length+1) b c ++ [i]) ++ R=(out ++ ⟨2,[],w.root, .ro 1 nl,0,out.length+2+isz b⟩ :: comp (out.length+1) b c) ++ i :: R:=by intro i R;simp
  have hin:=in_at (X:=out ++ ⟨2,[],w.root, .ro 1 nl,0,out.length+2+isz b⟩ :: comp (out.length+1) b c) (R:=comp (out.length+(isz b+1+1)) y c) (i:=⟨3,[],false, .nils,0,0⟩)
  rw [hX] at hin
  simp only [X72_20,esh,hin,Option.bind_some]
  rw [set_to _ hX.symm _ (out.length+2+isz b+isz y) (by simp only [List.length_map,List.length_append,List.length_cons,comp_len,List.length_nil];omega)]
  apply c26 (by omega)
  have hkk:=hk2 ((out ++ ⟨2,[],w.root, .ro 1 nl,0,out.length+2+isz b⟩ :: comp (out.length+1) b c) ++ ⟨3,[],false, .nils,0,out.length+2+isz b+isz y⟩ :: comp (out.length+(isz b+1+1)) y c) (by simp only [List.length_append,List.length_cons,List.length_nil,comp_len];omega)
  simp only [List.length_append,List.length_cons,comp_len,List.length_nil,Nat.zero_add,List.nil_append] at hkk ⊢
  rw [hkk]
  simp only [comp,n2,List.append_assoc,List.cons_append,List.nil_append]
  rw [show out.length+(isz b+1)+(isz y+1)=out.length+2+isz b+isz y by omega,show out.length+(isz b+1+1)=out.length+2+isz b by omega]
end R3K

namespace R3K
open Go Go.Proofs Sx
variable {mx:Int}
noncomputable def body43:Code:=(Tryd.f43.body).getD .skip
noncomputable def X43 (call:CallT) (run:RunT) (a0:List UInt8):Option AV :=
 (call 41 [.s a0, .ag [.u8 0, .u8 0, .b false, .u8 0, .u8 0, .u8 0, .u8 0, .b false, .u8 0, .s []]]).bind fun v1=>(tupI v1 0).bind fun v2=>(tupI v1 1).bind fun v3=>(tupI v1 2).bind fun v4=>(tupI v1 3).bind fun v5=>(AV.asAg 2 v2).bind fun v6=>(AV.asAg 10 v3).bind fun v7=>(binI .eql v5 (.int 0)).bind fun v8=>(selW v8 true ((binAg [.i, .i, .b, .i, .i, .i, .i, .b, .i, .s] .neq (.ag [v7.getD 0 .un,v7.getD 1 .un,v7.getD 2 .un,v7.getD 3 .un,v7.getD 4 .un,v7.getD 5 .un,v7.getD 6 .un,v7.getD 7 .un,v7.getD 8 .un,v7.getD 9 .un]) (.ag [.u8 0, .u8 0, .b false, .u8 0, .u8 0, .u8 0, .u8 0, .b false, .u8 0, .s []])).bind fun v9=>some v9) (.b false)).bind fun v10=>condM v10
 (some (.tu [.ag [.nils, .nils], .int (a0.length:Int), .int 8]))
 (some (.tu [.ag [v6.getD 0 .un,v6.getD 1 .un],v4,v5]))
section
variable (call:CallT) (run:RunT) (a0:List UInt8)
theorem text43:unr (C mx) call run 43 Tryd.f43 400 [.code body43] (initF (C mx) 43 Tryd.f43.ntmps [.s a0])=X43 call run a0:=by
 kernel_rfl
theorem c43 {r:AV} (h:X43 (semCall (C mx) Tryd.prog) (semRun (C mx) Tryd.prog 43 Tryd.f43) a0=some r):semCall (C mx) Tryd.prog 43 [.s a0]=some r :=
 semCall_unr (fn:=Tryd.f43) (c:=body43) (by kernel_rfl) (by kernel_rfl) 400 (by kernel_rfl) ((text43 _ _ a0).trans h)
end
end R3K

namespace R3K
open Go Go.Proofs Sx
variable {mx:Int}
noncomputable def body45:Code:=(Tryd.f45.body).getD .skip
noncomputable def X45 (call:CallT) (run:RunT)  : Option AV :=
 (call 46 [.s [123,123,120,125,125]]).bind fun v1=>(tupI v1 0).bind fun v2=>(tupI v1 1).bind fun v3=>(tupI v1 2).bind fun v4=>(binI .eql v4 (.int 0)).bind fun v5=>(selW v5 true ((lenR v2).bind fun v6=>(binI .eql v6 (.int 2)).bind fun v7=>some v7) (.b false)).bind fun v8=>(selW v8 true ((idx 6 v2 (.int 0)).bind fun v9=>(binI .eql (AV.cell v9 0) (.u8 1)).bind fun v10=>some v10) (.b false)).bind fun v11=>(selW v11 true ((idx 6 v2 (.int 1)).bind fun v12=>(binI .eql (AV.cell v12 0) (.u8 7)).bind fun v13=>some v13) (.b false)).bind fun v14=>some v14
section
variable (call:CallT) (run:RunT)
theorem text45:unr (C mx) call run 45 Tryd.f45 400 [.code body45] (initF (C mx) 45 Tryd.f45.ntmps [])=X45 call run  := by
 kernel_rfl
theorem c45 {r:AV} (h:X45 (semCall (C mx) Tryd.prog) (semRun (C mx) Tryd.prog 45 Tryd.f45)  = some r):semCall (C mx) Tryd.prog 45 []=some r :=
 semCall_unr (fn:=Tryd.f45) (c:=body45) (by kernel_rfl) (by kernel_rfl) 400 (by kernel_rfl) ((text45 _ _ ).trans h)
end
end R3K

namespace R3K
open Go Go.Proofs Sx
variable {mx:Int}
noncomputable def body46:Code:=(Tryd.f46.body).getD .skip
noncomputable def X46 (call:CallT) (run:RunT) (a0:List UInt8):Option AV :=
 (call 43 [.s a0]).bind fun v1=>(tupI v1 0).bind fun v2=>(tupI v1 1).bind fun v3=>(tupI v1 2).bind fun v4=>(AV.asAg 2 v2).bind fun v5=>(binI .neq v4 (.int 0)).bind fun v6=>condM v6
 (some (.tu [.nils,v3,v4]))
 ((call 72 [.un,v5.getD 1 .un, .ag [v5.getD 0 .un,v5.getD 1 .un, .ro 6 []]]).bind fun v7=>(tupI v7 0).bind fun v8=>(tupI v7 1).bind fun v9=>(AV.asAg 3 v9).bind fun v10=>(call 73 [.un, .ag [.u8 7, .s [], .b false, .nils, .u8 0, .int 0], .ag [v10.getD 0 .un,v10.getD 1 .un, .ro 6 (AV.elems (v10.getD 2 .un))]]).bind fun v11=>(tupI v11 0).bind fun v12=>(tupI v11 1).bind fun v13=>(AV.asAg 3 v13).bind fun v14=>some (.tu [.ro 6 (AV.elems (v14.getD 2 .un)), .int 0, .int 0]))
section
variable (call:CallT) (run:RunT) (a0:List UInt8)
theorem text46:unr (C mx) call run 46 Tryd.f46 400 [.code body46] (initF (C mx) 46 Tryd.f46.ntmps [.s a0])=X46 call run a0:=by
 kernel_rfl
theorem c46 {r:AV} (h:X46 (semCall (C mx) Tryd.prog) (semRun (C mx) Tryd.prog 46 Tryd.f46) a0=some r):semCall (C mx) Tryd.prog 46 [.s a0]=some r :=
 semCall_unr (fn:=Tryd.f46) (c:=body46) (by kernel_rfl) (by kernel_rfl) 400 (by kernel_rfl) ((text46 _ _ a0).trans h)
end
end R3K

namespace R3K
open Go Go.Proofs Sx R3 R3I
variable {mx:Int}
theorem j41 (l:List UInt8) (c:Ctx) (h:NmS c):semCall (C mx) Tryd.prog 41 [.s l,c.toAV]=some (fragAV l c) :=
 semCall_gv (G:=G41) rfl rfl (by
  show (match ctxOf c.toAV with | some c=>if c.nm.length < 9223372036854775808 then some (fragAV l c) else none | none=>none)=_
  rw [ctxOf_toAV]
  exact if_pos h)
theorem z0:Ctx.toAV ⟨0,0,false,0,0,0,0,false,0,[]⟩=(st1 0).toAV:=rfl
theorem nz:NmS (st1 0):=by show (0:Nat) < _;decide
theorem q0 (a b c d:AV):tupI (.tu [a,b,c,d]) 0=some a:=rfl
theorem q1 (a b c d:AV):tupI (.tu [a,b,c,d]) 1=some b:=rfl
theorem q2 (a b c d:AV):tupI (.tu [a,b,c,d]) 2=some c:=rfl
theorem q3 (a b c d:AV):tupI (.tu [a,b,c,d]) 3=some d:=rfl
theorem p0 (a b c:AV):tupI (.tu [a,b,c]) 0=some a:=rfl
theorem p1 (a b c:AV):tupI (.tu [a,b,c]) 1=some b:=rfl
theorem p2 (a b c:AV):tupI (.tu [a,b,c]) 2=some c:=rfl
theorem asAg2 (a b:AV):AV.asAg 2 (.ag [a,b])=some [a,b]:=rfl
theorem templ (l:List UInt8):(∃ a e:Int,e≠0∧semCall (C mx) Tryd.prog 43 [.s l]=some (.tu [.ag [.nils, .nils], .int a, .int e])) ∨
  ∃ ts,Frag l (st1 0) ts (st1 0)∧semCall (C mx) Tryd.prog 43 [.s l]=some (.tu [.ag [.ro 9 ((arrH 0 ts (st1 0)).map Nd.av), .ro 1 (numsAV (ts.tops 0))], .int 0, .int 0]):=by
 have key:∀ (t1 t2:AV) (d:Ctx) (a e:Int),fragAV l (st1 0)=.tu [.ag [t1,t2],d.toAV, .int a, .int e]→semCall (C mx) Tryd.prog 43 [.s l]=some (if e=0∧d≠st1 0 then .tu [.ag [.nils, .nils], .int (l.length:Int), .int 8] else .tu [.ag [t1,t2], .int a, .int e]):=by
  intro t1 t2 d a e h
  apply c43
  have x1:=(j41 (mx:=mx) l (st1 0) nz).trans (congrArg some h)
  simp only [X43,mk_toAV,z0,x1,Option.bind_some,q0,q1,q2,q3,asAg2,asAg_toAV,ten0,ten1,ten2,ten3,ten4,ten5,ten6,ten7,ten8,ten9,mk_eta,ne_toAV,Sx.int_eql,selW_and,condM_b,List.getD_cons_zero,List.getD_cons_succ]
  by_cases h1:e=0∧d≠st1 0
  ·rw [if_pos h1,if_pos (by simp [h1.1,h1.2])]
  ·rw [if_neg h1,if_neg (by simpa using h1)]
 rcases frag_or l (st1 0) with ⟨a,e,h1,h2⟩ | ⟨ts,d,h⟩
 ·have:=key _ _ _ _ _ h2
  rw [if_neg (fun hh=>h1 hh.1)] at this
  exact .inl ⟨a,e,h1,this⟩
 ·have hk:=key _ _ _ _ _ h.av
  by_cases hd:d=st1 0
  ·subst hd
   rw [if_neg (by simp)] at hk
   exact .inr ⟨ts,h,hk⟩
  ·rw [if_pos ⟨rfl,hd⟩] at hk
   exact .inl ⟨_,_,by decide,hk⟩
theorem templ_ok {l:List UInt8} {ts:Ts} (h:Frag l (st1 0) ts (st1 0)):semCall (C mx) Tryd.prog 43 [.s l]=some (.tu [.ag [.ro 9 ((arrH 0 ts (st1 0)).map Nd.av), .ro 1 (numsAV (ts.tops 0))], .int 0, .int 0]):=by
 apply c43
 have x1:=(j41 (mx:=mx) l (st1 0) nz).trans (congrArg some h.av)
 simp only [X43,mk_toAV,z0,x1,Option.bind_some,q0,q1,q2,q3,asAg2,asAg_toAV,ten0,ten1,ten2,ten3,ten4,ten5,ten6,ten7,ten8,ten9,mk_eta,ne_toAV,Sx.int_eql,selW_and,condM_b,List.getD_cons_zero,List.getD_cons_succ,decide_true,Bool.not_true,Bool.and_false,Bool.false_eq_true,if_false]
theorem frag_flat {l:List UInt8} {c d:Ctx} {ts:Ts} (h:Frag l c ts d):ts.flat.length≤65536∧NmW ts:=by
 have h1:=lx_words h.lx
 have h2:=wordsF_len (l.length+1) l 0 []
 have h3:=wordsF_nm2 (l.length+1) l 0 [] (fun w hw=>by simp at hw)
 unfold wordsW at h1
 rw [h1] at h2 h3
 simp only [List.length_nil] at h2
 have:=h.len
 exact ⟨by omega,h3⟩
def haltI:In:=⟨7,[],false, .nils,0,0⟩
theorem compile_ok {l:List UInt8} {ts:Ts} (h:Frag l (st1 0) ts (st1 0)):semCall (C mx) Tryd.prog 46 [.s l]=some (.tu [.ro 6 ((comp 0 ts (st1 0) ++ [haltI]).map In.av), .int 0, .int 0]):=by
 apply c46
 obtain ⟨g1,g2⟩:=frag_flat h
 have g3:=isz_flat ts
 have g4:=size_isz ts
 have g5:=tops_len ts 0
 have h72:=wok_call (mx:=mx) (T:=.ro 1 (numsAV (ts.tops 0))) (wok ts) (N:=arrH 0 ts (st1 0)) (A:=[]) (B:=[]) (c:=st1 0) (l:=ts.tops 0) (out:=[]) (by simp) rfl (by omega) (by simp;omega) h.ok g2
 have h72:semCall (C mx) Tryd.prog 72 [.un, .ro 1 (numsAV (ts.tops 0)), .ag [.ro 9 ((arrH 0 ts (st1 0)).map Nd.av), .ro 1 (numsAV (ts.tops 0)), .ro 6 []]]=_:=h72
 have h73:semCall (C mx) Tryd.prog 73 [.un, .ag [.u8 7, .s [], .b false, .nils, .u8 0, .int 0], .ag [.ro 9 ((arrH 0 ts (st1 0)).map Nd.av), .ro 1 (numsAV (ts.tops 0)), .ro 6 ((comp 0 ts (st1 0)).map In.av)]]=_:=s73 (mx:=mx) haltI (.ro 9 ((arrH 0 ts (st1 0)).map Nd.av)) (.ro 1 (numsAV (ts.tops 0))) (comp 0 ts (st1 0)) (by rw [comp_len];omega)
 simp only [List.nil_append,List.length_nil] at h72
 simp only [X46,templ_ok h,Option.bind_some,p0,p1,p2,asAg2,Sx.int_neq,bne_self_eq_false,condM_b,Bool.false_eq_true,if_false,List.getD_cons_zero,List.getD_cons_succ,h72,tu0,tu1,asAg3,elems6,h73]
theorem compiled (l:List UInt8):(∃ a e:Int,e≠0∧semCall (C mx) Tryd.prog 46 [.s l]=some (.tu [.nils, .int a, .int e])∧semCall (C mx) Tryd.prog 43 [.s l]=some (.tu [.ag [.nils, .nils], .int a, .int e])) ∨
  ∃ ts,Frag l (st1 0) ts (st1 0)∧semCall (C mx) Tryd.prog 46 [.s l]=some (.tu [.ro 6 ((comp 0 ts (st1 0) ++ [haltI]).map In.av), .int 0, .int 0]):=by
 rcases templ (mx:=mx) l with ⟨a,e,he,h⟩ | ⟨ts,hF,h⟩
 ·refine .inl ⟨a,e,he,?_,h⟩
  apply c46
  simp only [X46,h,Option.bind_some,p0,p1,p2,asAg2,Sx.int_neq,condM_b]
  rw [if_pos (by simpa using he)]
 ·exact .inr ⟨ts,hF,compile_ok hF⟩
end R3K

namespace R3K
open Go Go.Proofs Sx
variable {mx:Int}
section
variable (run:RunT) (a0:List AV) (a1 a2:AV) (a3:Int)
end
section
variable (run:RunT) (a0:List AV) (a1 a2:AV) (a3:Int)
end
section
variable (call:CallT) (run:RunT) (a0:AV)
end
section
variable (call:CallT) (run:RunT) (a0:List AV) (a1 a2:AV) (a3:Int)
end
section
variable (call:CallT) (run:RunT) (a0:List AV) (a1 a2:AV) (a3:Int)
end
section
variable (a0:List AV) (a1 a2:AV) (a3:Int)
end
section
variable (a0:List AV) (a1 a2:AV) (a3:Int)
end
end R3K

namespace R3K
open Go Go.Proofs Sx
variable {mx:Int}
noncomputable def body49:Code:=(Tryd.f49.body).getD .skip
section
variable (run:RunT) (a0 a1 a2 a3:AV) (a4:Int)
noncomputable def K49_3:List Item:=(kAt 3 body49 []).getD []
def S49_3:St:=St.ofL [(3, .cell (.val a0)),(4, .cell (.val a1)),(7, .cell (.val a2)),(8, .cell (.val a3)),(9, .cell (.val (.int a4)))] []
noncomputable def F49_3:Option AV:=run K49_3 (S49_3 a0 a1 a2 a3 a4)
end
section
variable (run:RunT) (a0 a1 a2 a3:AV) (a4:Int)
noncomputable def K49_11:List Item:=(kAt 11 body49 []).getD []
def S49_11:St:=St.ofL [(3, .cell (.val a0)),(4, .cell (.val a1)),(7, .cell (.val a2)),(8, .cell (.val a3)),(9, .cell (.val (.int a4)))] []
noncomputable def F49_11:Option AV:=run K49_11 (S49_11 a0 a1 a2 a3 a4)
end
noncomputable def X49 (call:CallT) (run:RunT) (a0:AV):Option AV :=
 (lenR a0).bind fun v1=>F49_3 run (.int 0) (.int 0) a0 v1 0
section
variable (call:CallT) (run:RunT) (a0:AV)
theorem text49:unr (C mx) call run 49 Tryd.f49 400 [.code body49] (initF (C mx) 49 Tryd.f49.ntmps [a0])=X49 call run a0:=by
 kernel_rfl
theorem c49 {r:AV} (h:X49 (semCall (C mx) Tryd.prog) (semRun (C mx) Tryd.prog 49 Tryd.f49) a0=some r):semCall (C mx) Tryd.prog 49 [a0]=some r :=
 semCall_unr (fn:=Tryd.f49) (c:=body49) (by kernel_rfl) (by kernel_rfl) 400 (by kernel_rfl) ((text49 _ _ a0).trans h)
end
noncomputable def X49_3 (call:CallT) (run:RunT) (a0 a1 a2 a3:AV) (a4:Int):Option AV :=
 (binI .lss (.int a4) a3).bind fun v1=>condM v1
 ((idx 6 a2 (.int a4)).bind fun v2=>(binI .eql (AV.cell v2 0) (.u8 4)).bind fun v3=>condM v3
 ((binI .add a1 (.int 1)).bind fun v4=>(mm false a0 v4).bind fun v5=>F49_11 run v5 v4 a2 a3 a4)
 ((binI .eql (AV.cell v2 0) (.u8 5)).bind fun v6=>condM v6
 ((binI .sub a1 (.int 1)).bind fun v7=>(mm false v7 (.int 0)).bind fun v8=>F49_11 run a0 v8 a2 a3 a4)
 (F49_11 run a0 a1 a2 a3 a4)))
 (some a0)
section
variable (call:CallT) (run:RunT) (a0 a1 a2 a3:AV) (a4:Int)
theorem text49_3:step (C mx) call 49 Tryd.f49 (unr (C mx) call run 49 Tryd.f49 400) K49_3 (S49_3 a0 a1 a2 a3 a4)=X49_3 call run a0 a1 a2 a3 a4:=by
 kernel_rfl
end
noncomputable def X49_11 (call:CallT) (run:RunT) (a0 a1 a2 a3:AV) (a4:Int):Option AV :=
 F49_3 run a0 a1 a2 a3 (w64 (a4+1))
section
variable (call:CallT) (run:RunT) (a0 a1 a2 a3:AV) (a4:Int)
theorem text49_11:step (C mx) call 49 Tryd.f49 (unr (C mx) call run 49 Tryd.f49 400) K49_11 (S49_11 a0 a1 a2 a3 a4)=X49_11 call run a0 a1 a2 a3 a4:=by
 kernel_rfl
end
section
variable (a0 a1 a2 a3:AV) (a4:Int)
theorem r49_3 {r:AV} (h:X49_3 (semCall (C mx) Tryd.prog) (semRun (C mx) Tryd.prog 49 Tryd.f49) a0 a1 a2 a3 a4=some r):F49_3 (semRun (C mx) Tryd.prog 49 Tryd.f49) a0 a1 a2 a3 a4=some r :=
 semRun_unr 400 ((text49_3 _ _ a0 a1 a2 a3 a4).trans h)
end
section
variable (a0 a1 a2 a3:AV) (a4:Int)
theorem r49_11 {r:AV} (h:X49_11 (semCall (C mx) Tryd.prog) (semRun (C mx) Tryd.prog 49 Tryd.f49) a0 a1 a2 a3 a4=some r):F49_11 (semRun (C mx) Tryd.prog 49 Tryd.f49) a0 a1 a2 a3 a4=some r :=
 semRun_unr 400 ((text49_11 _ _ a0 a1 a2 a3 a4).trans h)
end
end R3K

namespace R3K
open Go Go.Proofs Sx R3 R3I
variable {mx:Int}
def opA (e:AV):UInt8:=match e.cell 0 with | .u8 x=>x | _=>0
def hlA (e:AV):UInt8:=match e.cell 4 with | .u8 x=>x | _=>0
def Good (e:AV):Prop:=e.cell 0=.u8 (opA e)∧e.cell 4=.u8 (hlA e)
def hls (P:List AV):List UInt8:=(P.filter fun e=>opA e == 1).map hlA
def dstep (s:Nat×Nat) (e:AV):Nat×Nat:=if opA e == 4 then (max s.1 (s.2+1),s.2+1) else if opA e == 5 then (s.1,s.2 - 1) else s
def dep (P:List AV) (s:Nat×Nat):Nat×Nat:=P.foldl dstep s
theorem in_good (i:In):Good i.av:=⟨rfl,rfl⟩
theorem idx6 {P:List AV} {i:Nat} (h:i < P.length):idx 6 (.ro 6 P) (.int (i:Int))=some P[i]:=idx_get 6 h
theorem mm_int (p q:Nat):mm false (.int (p:Int)) (.int (q:Int))=some (.int ((max p q:Nat):Int)):=by
 show some (AV.int (if (q:Int) > p then (q:Int) else p))=_
 congr 2
 split <;> omega
theorem l49 (P:List AV) (hP:∀ e ∈ P,Good e) (hl:P.length≤2000000):∀ (m i:Nat) (a b:Nat),P.length=i+m→b≤i →
  F49_3 (semRun (C mx) Tryd.prog 49 Tryd.f49) (.int (a:Int)) (.int (b:Int)) (.ro 6 P) (.int (P.length:Int)) (i:Int)=some (.int ((dep (P.drop i) (a,b)).1:Int))
 | 0,i,a,b,hi,hb=>by
  apply r49_3
  have e:decide ((i:Int) < (P.length:Int))=false:=by rw [decide_eq_false_iff_not];omega
  simp only [X49_3,Sx.int_lss,e,Option.bind_some,condM_b,Bool.false_eq_true,if_false]
  rw [List.drop_eq_nil_of_le (by omega)]
  rfl
 | m+1,i,a,b,hi,hb=>by
  apply r49_3
  have hlt:i < P.length:=by omega
  have e:decide ((i:Int) < (P.length:Int))=true:=by rw [decide_eq_true_eq];omega
  have e3:w64 ((i:Int)+1)=((i+1:Nat):Int):=by rw [w64_eq (by omega) (by omega)];omega
  obtain ⟨g1,g2⟩:=hP _ (List.getElem_mem hlt)
  have ha:binI .add (.int (b:Int)) (.int 1)=some (.int ((b+1:Nat):Int)):=by rw [int_add (by omega) (by omega)];rfl
  have hs:binI .sub (.int (b:Int)) (.int 1)=some (.int ((b:Int) - 1)):=by
   show some (AV.int (w64 _))=_
   rw [w64_eq (by omega) (by omega)]
  have hm:mm false (.int ((b:Int) - 1)) (.int 0)=some (.int ((b - 1:Nat):Int)):=by
   show some (AV.int (if (0:Int) > (b:Int) - 1 then 0 else (b:Int) - 1))=_
   congr 2
   split <;> omega
  have hd:dep (P.drop i) (a,b)=dep (P.drop (i+1)) (dstep (a,b) P[i]):=by rw [List.drop_eq_getElem_cons hlt];rfl
  simp only [X49_3,Sx.int_lss,e,Option.bind_some,condM_b,if_true,idx6 hlt,g1,u8_eql,ha,hs,hm,mm_int]
  rw [hd]
  unfold dstep
  cases hk:(opA P[i] == 4) with
  | true =>
   simp only [if_true]
   apply r49_11
   simp only [X49_11,e3]
   exact l49 P hP hl m (i+1) _ _ (by omega) (by omega)
  | false =>
   simp only [Bool.false_eq_true,if_false]
   cases hk:(opA P[i] == 5) with
   | true =>
    simp only [if_true]
    apply r49_11
    simp only [X49_11,e3]
    exact l49 P hP hl m (i+1) _ _ (by omega) (by omega)
   | false =>
    simp only [Bool.false_eq_true,if_false]
    apply r49_11
    simp only [X49_11,e3]
    exact l49 P hP hl m (i+1) _ _ (by omega) (by omega)
theorem s49 (P:List AV) (hP:∀ e ∈ P,Good e) (hl:P.length≤2000000):semCall (C mx) Tryd.prog 49 [.ro 6 P]=some (.int ((dep P (0,0)).1:Int)):=by
 apply c49
 simp only [X49,lenR_ro,Option.bind_some]
 have:=l49 (mx:=mx) P hP hl P.length 0 0 0 (by omega) (by omega)
 rw [List.drop_zero] at this
 exact this
theorem xTs:Frag [123,123,120,125,125] (st1 0) (.leaf ⟨1,0,[],false, .ro 1 [.s [120]]⟩ .nil) (st1 0):=⟨rfl,rfl,by decide,words_lx awakeW,⟨⟨by decide,by decide,by decide,by decide⟩,trivial⟩,by decide,by kernel_rfl⟩
theorem s45:semCall (C mx) Tryd.prog 45 []=some (.b true):=by
 apply c45
 have h:=compile_ok (mx:=mx) xTs
 have e:comp 0 (.leaf ⟨1,0,[],false, .ro 1 [.s [120]]⟩ .nil) (st1 0)=[⟨1,[],false, .ro 1 [.s [120]],hole (st1 0),0⟩]:=rfl
 rw [e] at h
 simp only [X45,h,Option.bind_some,p0,p1,p2]
 rfl
end R3K

namespace R3K
open Go Go.Proofs Sx
variable {mx:Int}
section
variable (run:RunT) (a0:Int) (a1:Bool) (a2:AV) (a3:Bool) (a4:AV)
end
section
variable (call:CallT) (run:RunT) (a0:Bool) (a1:AV) (a2:Bool) (a3:AV)
end
section
variable (call:CallT) (run:RunT) (a0:Int) (a1:Bool) (a2:AV) (a3:Bool) (a4:AV)
end
section
variable (a0:Int) (a1:Bool) (a2:AV) (a3:Bool) (a4:AV)
end
end R3K

namespace R3K
open Go Go.Proofs Sx
variable {mx:Int}
section
variable (run:RunT) (a0 a1:AV) (a2:Int)
end
section
variable (call:CallT) (run:RunT) (a0 a1:AV)
end
section
variable (call:CallT) (run:RunT) (a0 a1:AV) (a2:Int)
end
section
variable (a0 a1:AV) (a2:Int)
end
end R3K

namespace R3K
open Go Go.Proofs Sx R3 R3I
variable {mx:Int}
end R3K

namespace R3K
open Go Go.Proofs Sx
variable {mx:Int}
noncomputable def body19:Code:=(Tryd.f19.body).getD .skip
section
variable (run:RunT) (a0 a1:AV) (a2:List AV) (a3:Int)
noncomputable def K19_11:List Item:=(kAt 11 body19 []).getD []
def S19_11:St:=St.ofL [(3, .cell (.val a0)),(6, .cell (.val a1)),(7, .cell (.own 300007 3 1 a2)),(8, .cell (.val (.int a3)))] []
noncomputable def F19_11:Option AV:=run K19_11 (S19_11 a0 a1 a2 a3)
end
section
variable (run:RunT) (a0 a1:AV) (a2:List AV) (a3:Int)
noncomputable def K19_12:List Item:=(kAt 12 body19 []).getD []
def S19_12:St:=St.ofL [(3, .cell (.val a0)),(6, .cell (.val a1)),(7, .cell (.own 300007 3 1 a2)),(8, .cell (.val (.int a3)))] []
noncomputable def F19_12:Option AV:=run K19_12 (S19_12 a0 a1 a2 a3)
end
section
variable (run:RunT) (a0 a1:AV) (a2:List AV) (a3:Int)
noncomputable def K19_19:List Item:=(kAt 19 body19 []).getD []
def S19_19:St:=St.ofL [(3, .cell (.val a0)),(6, .cell (.val a1)),(7, .cell (.own 300007 3 1 a2)),(8, .cell (.val (.int a3)))] []
noncomputable def F19_19:Option AV:=run K19_19 (S19_19 a0 a1 a2 a3)
end
section
variable (run:RunT) (a0 a1:AV) (a2:List AV) (a3:Int) (a4:AV)
noncomputable def K19_21:List Item:=(kAt 21 body19 []).getD []
def S19_21:St:=St.ofL [(3, .cell (.val a0)),(6, .cell (.val a1)),(7, .cell (.own 300007 3 1 a2)),(8, .cell (.val (.int a3))),(50, .cell (.val a4))] []
noncomputable def F19_21:Option AV:=run K19_21 (S19_21 a0 a1 a2 a3 a4)
end
noncomputable def X19 (call:CallT) (run:RunT) (a0:List UInt8):Option AV :=
 (call 45 []).bind fun v1=>(unop .not v1).bind fun v2=>condM v2
 (some (.b false))
 ((call 46 [.s a0]).bind fun v3=>(tupI v3 0).bind fun v4=>(tupI v3 1).bind fun v5=>(tupI v3 2).bind fun v6=>(binI .neq v6 (.int 0)).bind fun v7=>condM v7
 ((lenR v4).bind fun v8=>(binI .eql v8 (.int 0)).bind fun v9=>some v9)
 ((lenR v4).bind fun v10=>(binI .eql v10 (.int 0)).bind fun v11=>(selW v11 false ((binI .sub v10 (.int 1)).bind fun v12=>(idx 6 v4 v12).bind fun v13=>(binI .neq (AV.cell v13 0) (.u8 7)).bind fun v14=>some v14) (.b true)).bind fun v15=>(selW v15 false ((call 49 [v4]).bind fun v16=>(binI .gtr v16 (.int 16)).bind fun v17=>some v17) (.b true)).bind fun v18=>condM v18
 (some (.b false))
 (F19_11 run v4 v10 [] 0)))
section
variable (call:CallT) (run:RunT) (a0:List UInt8)
theorem text19:unr (C mx) call run 19 Tryd.f19 400 [.code body19] (initF (C mx) 19 Tryd.f19.ntmps [.s a0])=X19 call run a0:=by
 kernel_rfl
theorem c19 {r:AV} (h:X19 (semCall (C mx) Tryd.prog) (semRun (C mx) Tryd.prog 19 Tryd.f19) a0=some r):semCall (C mx) Tryd.prog 19 [.s a0]=some r :=
 semCall_unr (fn:=Tryd.f19) (c:=body19) (by kernel_rfl) (by kernel_rfl) 400 (by kernel_rfl) ((text19 _ _ a0).trans h)
end
noncomputable def X19_11 (call:CallT) (run:RunT) (a0 a1:AV) (a2:List AV) (a3:Int):Option AV :=
 (binI .lss (.int a3) a1).bind fun v1=>condM v1
 ((idx 6 a0 (.int a3)).bind fun v2=>(binI .eql (AV.cell v2 0) (.u8 7)).bind fun v3=>condM v3
 ((binI .sub a1 (.int 1)).bind fun v4=>(binI .neq (.int a3) v4).bind fun v5=>condM v5
 (some (.b false))
 (F19_12 run a0 a1 a2 a3))
 ((binI .eql (AV.cell v2 0) (.u8 2)).bind fun v6=>condM v6
 (F19_19 run a0 a1 a2 a3)
 ((binI .eql (AV.cell v2 0) (.u8 3)).bind fun v7=>condM v7
 (F19_19 run a0 a1 a2 a3)
 (F19_21 run a0 a1 a2 a3 (AV.cell v2 0)))))
 (some (.b ((a2.length:Int) == 0)))
section
variable (call:CallT) (run:RunT) (a0 a1:AV) (a2:List AV) (a3:Int)
theorem text19_11:step (C mx) call 19 Tryd.f19 (unr (C mx) call run 19 Tryd.f19 400) K19_11 (S19_11 a0 a1 a2 a3)=X19_11 call run a0 a1 a2 a3:=by
 kernel_rfl
end
noncomputable def X19_12 (call:CallT) (run:RunT) (a0 a1:AV) (a2:List AV) (a3:Int):Option AV :=
 F19_11 run a0 a1 a2 (w64 (a3+1))
section
variable (call:CallT) (run:RunT) (a0 a1:AV) (a2:List AV) (a3:Int)
theorem text19_12:step (C mx) call 19 Tryd.f19 (unr (C mx) call run 19 Tryd.f19 400) K19_12 (S19_12 a0 a1 a2 a3)=X19_12 call run a0 a1 a2 a3:=by
 kernel_rfl
end
noncomputable def X19_19 (call:CallT) (run:RunT) (a0 a1:AV) (a2:List AV) (a3:Int):Option AV :=
 (idx 6 a0 (.int a3)).bind fun v1=>(binI .leq (AV.cell v1 5) (.int a3)).bind fun v2=>(selW v2 false ((idx 6 a0 (.int a3)).bind fun v3=>(binI .geq (AV.cell v3 5) a1).bind fun v4=>some v4) (.b true)).bind fun v5=>condM v5
 (some (.b false))
 (F19_12 run a0 a1 a2 a3)
section
variable (call:CallT) (run:RunT) (a0 a1:AV) (a2:List AV) (a3:Int)
theorem text19_19:step (C mx) call 19 Tryd.f19 (unr (C mx) call run 19 Tryd.f19 400) K19_19 (S19_19 a0 a1 a2 a3)=X19_19 call run a0 a1 a2 a3:=by
 kernel_rfl
end
noncomputable def X19_21 (call:CallT) (run:RunT) (a0 a1:AV) (a2:List AV) (a3:Int) (a4:AV):Option AV :=
 (binI .eql a4 (.u8 4)).bind fun v1=>condM v1
 ((idx 6 a0 (.int a3)).bind fun v2=>(binI .leq (AV.cell v2 5) (.int a3)).bind fun v3=>(selW v3 false ((idx 6 a0 (.int a3)).bind fun v4=>(binI .geq (AV.cell v4 5) a1).bind fun v5=>some v5) (.b true)).bind fun v6=>(selW v6 false ((idx 6 a0 (.int a3)).bind fun v7=>(binI .sub (AV.cell v7 5) (.int 1)).bind fun v8=>(idx 6 a0 v8).bind fun v9=>(binI .neq (AV.cell v9 0) (.u8 5)).bind fun v10=>some v10) (.b true)).bind fun v11=>condM v11
 (some (.b false))
 ((app 8 1 a2 (.ro 1 (([.int a3]:List AV)))).bind fun v12=>F19_12 run a0 a1 v12 a3))
 ((binI .eql a4 (.u8 5)).bind fun v13=>condM v13
 ((selW (.b ((a2.length:Int) == 0)) false ((idx 6 a0 (.int a3)).bind fun v14=>(inN a2.length (.int (w64 ((a2.length:Int) - 1)))).bind fun v15=>(binI .add (AV.cell (a2.getD v15 .un) 0) (.int 1)).bind fun v16=>(binI .neq (AV.cell v14 5) v16).bind fun v17=>some v17) (.b true)).bind fun v18=>(selW v18 false ((inN a2.length (.int (w64 ((a2.length:Int) - 1)))).bind fun v19=>(idx 6 a0 (AV.cell (a2.getD v19 .un) 0)).bind fun v20=>(binI .neq (AV.cell v20 5) (.int (w64 (a3+1)))).bind fun v21=>some v21) (.b true)).bind fun v22=>condM v22
 (some (.b false))
 ((upN a2.length (.int (w64 ((a2.length:Int) - 1)))).bind fun v23=>F19_12 run a0 a1 (a2.take v23) a3))
 ((binI .eql a4 (.u8 1)).bind fun v24=>condM v24
 ((idx 6 a0 (.int a3)).bind fun v25=>(binI .lss (AV.cell v25 4) (.u8 1)).bind fun v26=>(selW v26 false ((idx 6 a0 (.int a3)).bind fun v27=>(binI .gtr (AV.cell v27 4) (.u8 10)).bind fun v28=>some v28) (.b true)).bind fun v29=>condM v29
 (some (.b false))
 (F19_12 run a0 a1 a2 a3))
 ((binI .eql a4 (.u8 0)).bind fun v30=>condM v30
 ((idx 6 a0 (.int a3)).bind fun v31=>(binS .eql (AV.cell v31 1) (.s [])).bind fun v32=>condM v32
 (some (.b false))
 (F19_12 run a0 a1 a2 a3))
 (F19_12 run a0 a1 a2 a3))))
section
variable (call:CallT) (run:RunT) (a0 a1:AV) (a2:List AV) (a3:Int) (a4:AV)
theorem text19_21:step (C mx) call 19 Tryd.f19 (unr (C mx) call run 19 Tryd.f19 400) K19_21 (S19_21 a0 a1 a2 a3 a4)=X19_21 call run a0 a1 a2 a3 a4:=by
 kernel_rfl
end
section
variable (a0 a1:AV) (a2:List AV) (a3:Int)
theorem r19_11 {r:AV} (h:X19_11 (semCall (C mx) Tryd.prog) (semRun (C mx) Tryd.prog 19 Tryd.f19) a0 a1 a2 a3=some r):F19_11 (semRun (C mx) Tryd.prog 19 Tryd.f19) a0 a1 a2 a3=some r :=
 semRun_unr 400 ((text19_11 _ _ a0 a1 a2 a3).trans h)
end
section
variable (a0 a1:AV) (a2:List AV) (a3:Int)
theorem r19_12 {r:AV} (h:X19_12 (semCall (C mx) Tryd.prog) (semRun (C mx) Tryd.prog 19 Tryd.f19) a0 a1 a2 a3=some r):F19_12 (semRun (C mx) Tryd.prog 19 Tryd.f19) a0 a1 a2 a3=some r :=
 semRun_unr 400 ((text19_12 _ _ a0 a1 a2 a3).trans h)
end
section
variable (a0 a1:AV) (a2:List AV) (a3:Int)
theorem r19_19 {r:AV} (h:X19_19 (semCall (C mx) Tryd.prog) (semRun (C mx) Tryd.prog 19 Tryd.f19) a0 a1 a2 a3=some r):F19_19 (semRun (C mx) Tryd.prog 19 Tryd.f19) a0 a1 a2 a3=some r :=
 semRun_unr 400 ((text19_19 _ _ a0 a1 a2 a3).trans h)
end
section
variable (a0 a1:AV) (a2:List AV) (a3:Int) (a4:AV)
theorem r19_21 {r:AV} (h:X19_21 (semCall (C mx) Tryd.prog) (semRun (C mx) Tryd.prog 19 Tryd.f19) a0 a1 a2 a3 a4=some r):F19_21 (semRun (C mx) Tryd.prog 19 Tryd.f19) a0 a1 a2 a3 a4=some r :=
 semRun_unr 400 ((text19_21 _ _ a0 a1 a2 a3 a4).trans h)
end
end R3K

namespace R3K
open Go Go.Proofs Sx R3 R3I
variable {mx:Int}
theorem hole_le (c:Ctx):hole c≤10:=by
 unfold hole
 repeat' split
 all_goals decide
def iv (k:Nat):AV:=.int (k:Int)
def Gs (mx:Int) (L:List In) (o:List Nat) (i:Nat):Prop:=F19_11 (semRun (C mx) Tryd.prog 19 Tryd.f19) (.ro 6 (L.map In.av)) (.int (L.length:Int)) (o.map iv) (i:Int)=some (.b true)
theorem d0 (x:In):x.av.cell 0=.u8 x.op:=rfl
theorem d1 (x:In):x.av.cell 1=.s x.text:=rfl
theorem d4 (x:In):x.av.cell 4=.u8 x.hole:=rfl
theorem d5 (x:In):x.av.cell 5=.int (x.to':Int):=rfl
theorem in_idx {L:List In} {i:Nat} {x:In} (h:L[i]?=some x):idx 6 (.ro 6 (L.map In.av)) (.int (i:Int))=some x.av:=by
 obtain ⟨h1,rfl⟩:=List.getElem?_eq_some_iff.1 h
 rw [idx_get 6 (by rw [List.length_map];exact h1)];simp
section
variable {L:List In} {o:List Nat} {i:Nat} {x:In}
theorem g12 (hi:i≤1000000) (h:Gs mx L o (i+1)):F19_12 (semRun (C mx) Tryd.prog 19 Tryd.f19) (.ro 6 (L.map In.av)) (.int (L.length:Int)) (o.map iv) (i:Int)=some (.b true):=by
 apply r19_12
 have e3:w64 ((i:Int)+1)=((i+1:Nat):Int):=by rw [w64_eq (by omega) (by omega)];omega
 simp only [X19_12,e3]
 exact h
theorem gEnd (hi:i=L.length):Gs mx L [] i:=by
 apply r19_11
 have e:decide ((i:Int) < (L.length:Int))=false:=by rw [decide_eq_false_iff_not];omega
 simp only [X19_11,Sx.int_lss,e,Option.bind_some,condM_b,Bool.false_eq_true,if_false]
 rfl
theorem gStep (hL:L.length≤100000) (hx:L[i]?=some x) (h:(if x.op == 7 then Gs mx L o (i+1)∧i+1=L.length else if x.op == 2 || x.op == 3 then Gs mx L o (i+1)∧i < x.to'∧x.to' < L.length else
  F19_21 (semRun (C mx) Tryd.prog 19 Tryd.f19) (.ro 6 (L.map In.av)) (.int (L.length:Int)) (o.map iv) (i:Int) (.u8 x.op)=some (.b true))):Gs mx L o i:=by
 have hlt:=(List.getElem?_eq_some_iff.1 hx).1
 apply r19_11
 have e:decide ((i:Int) < (L.length:Int))=true:=by rw [decide_eq_true_eq];omega
 have hix:=in_idx hx
 simp only [X19_11,Sx.int_lss,e,Option.bind_some,condM_b,if_true,hix,d0,u8_eql]
 cases k7:(x.op == 7) with
 | true =>
  rw [k7] at h
  simp only [if_true] at h ⊢
  have hs:binI .sub (.int (L.length:Int)) (.int 1)=some (.int ((i:Nat):Int)):=by
   show some (AV.int (w64 _))=_
   rw [w64_eq (by omega) (by omega)];congr 2;omega
  simp only [hs,Option.bind_some,Sx.int_neq,bne_self_eq_false,condM_b,Bool.false_eq_true,if_false]
  exact g12 (by omega) h.1
 | false =>
  rw [k7] at h
  simp only [Bool.false_eq_true,if_false] at h ⊢
  have g19:Gs mx L o (i+1)∧i < x.to'∧x.to' < L.length→F19_19 (semRun (C mx) Tryd.prog 19 Tryd.f19) (.ro 6 (L.map In.av)) (.int (L.length:Int)) (o.map iv) (i:Int)=some (.b true):=by
   rintro ⟨h1,h2,h3⟩
   apply r19_19
   have e1:binI .leq (.int (x.to':Int)) (.int (i:Int))=some (.b false):=by
    show some (AV.b (decide _))=_
    congr 2;rw [decide_eq_false_iff_not];omega
   have e2:decide ((x.to':Int) ≥ (L.length:Int))=false:=by rw [decide_eq_false_iff_not];omega
   simp only [X19_19,hix,Option.bind_some,d5,e1,R3I.int_geq,e2,selW_or,Bool.or_self,condM_b,Bool.false_eq_true,if_false]
   exact g12 (by omega) h1
  cases k2:(x.op == 2) with
  | true =>
   rw [k2] at h
   simp only [Bool.true_or,if_true] at h ⊢
   exact g19 h
  | false =>
   rw [k2] at h
   simp only [Bool.false_or,Bool.false_eq_true,if_false] at h ⊢
   cases k3:(x.op == 3) with
   | true =>
    rw [k3] at h
    simp only [if_true] at h ⊢
    exact g19 h
   | false =>
    rw [k3] at h
    simp only [Bool.false_eq_true,if_false] at h ⊢
    exact h
theorem gLit (hL:L.length≤100000) (hx:L[i]?=some x) (ho:x.op=0) (ht:x.text≠[]) (h:Gs mx L o (i+1)):Gs mx L o i:=by
 have hlt:=(List.getElem?_eq_some_iff.1 hx).1
 refine gStep hL hx ?_
 rw [ho]
 show F19_21 _ _ _ _ _ _=_
 apply r19_21
 have hix:=in_idx hx
 have e:binS .eql (.s x.text) (.s [])=some (.b false):=by rw [s_eql];congr 2;rw [beq_eq_false_iff_ne];exact ht
 simp only [X19_21,u8_eql,Option.bind_some,condM_b,show ((0:UInt8) == 4)=false from rfl,show ((0:UInt8) == 5)=false from rfl,show ((0:UInt8) == 1)=false from rfl,show ((0:UInt8) == 0)=true from rfl,Bool.false_eq_true,if_false,if_true,hix,d1,e]
 exact g12 (by omega) h
theorem gFlush (hL:L.length≤100000) (hx:L[i]?=some x) (ho:x.op=6) (h:Gs mx L o (i+1)):Gs mx L o i:=by
 have hlt:=(List.getElem?_eq_some_iff.1 hx).1
 refine gStep hL hx ?_
 rw [ho]
 show F19_21 _ _ _ _ _ _=_
 apply r19_21
 simp only [X19_21,u8_eql,Option.bind_some,condM_b,show ((6:UInt8) == 4)=false from rfl,show ((6:UInt8) == 5)=false from rfl,show ((6:UInt8) == 1)=false from rfl,show ((6:UInt8) == 0)=false from rfl,Bool.false_eq_true,if_false]
 exact g12 (by omega) h
theorem gHole (hL:L.length≤100000) (hx:L[i]?=some x) (ho:x.op=1) (h1:x.hole≠0) (h2:x.hole≤10) (h:Gs mx L o (i+1)):Gs mx L o i:=by
 have hlt:=(List.getElem?_eq_some_iff.1 hx).1
 refine gStep hL hx ?_
 rw [ho]
 show F19_21 _ _ _ _ _ _=_
 apply r19_21
 have hix:=in_idx hx
 have e1:decide (x.hole < 1)=false:=by
  rw [decide_eq_false_iff_not];intro hh
  apply h1
  have:x.hole.toNat < 1:=hh
  exact UInt8.toNat.inj (by show x.hole.toNat=0;omega)
 have e2:decide (10 < x.hole)=false:=by
  rw [decide_eq_false_iff_not];intro hh
  have a1:(10:UInt8).toNat < x.hole.toNat:=hh
  have a2:x.hole.toNat≤(10:UInt8).toNat:=h2
  omega
 simp only [X19_21,u8_eql,Option.bind_some,condM_b,show ((1:UInt8) == 4)=false from rfl,show ((1:UInt8) == 5)=false from rfl,show ((1:UInt8) == 1)=true from rfl,Bool.false_eq_true,if_false,if_true,hix,d4,u8_lss,u8_gtr,e1,e2,selW_or,Bool.or_self]
 exact g12 (by omega) h
theorem gIf (hL:L.length≤100000) (hx:L[i]?=some x) (ho:x.op=2∨x.op=3) (h1:i < x.to') (h2:x.to' < L.length) (h:Gs mx L o (i+1)):Gs mx L o i:=by
 refine gStep hL hx ?_
 rcases ho with ho | ho <;> rw [ho] <;> exact ⟨h,h1,h2⟩
theorem app8 {l:List AV} {x:AV} (h:l.length≤1000000):app 8 1 l (.ro 1 [x])=some (l ++ [x]):=by
 show ((if 1=1 then some [x] else none).bind fun q=>if (l.length+q.length) * 8≤big then some (l ++ q) else none)=_
 rw [if_pos rfl]
 simp only [Option.bind_some,List.length_cons,List.length_nil,Nat.zero_add]
 rw [if_pos (Nat.le_trans (m:=16000000) (by omega) (by decide))]
theorem gRange {y:In} (hL:L.length≤100000) (hx:L[i]?=some x) (ho:x.op=4) (h1:i < x.to') (h2:x.to' < L.length) (hy:L[x.to' - 1]?=some y) (hy5:y.op=5) (hol:o.length≤100000) (h:Gs mx L (o ++ [i]) (i+1)):Gs mx L o i:=by
 have hlt:=(List.getElem?_eq_some_iff.1 hx).1
 refine gStep hL hx ?_
 rw [ho]
 show F19_21 _ _ _ _ _ _=_
 apply r19_21
 have hix:=in_idx hx
 have hiy:=in_idx hy
 have e1:binI .leq (.int (x.to':Int)) (.int (i:Int))=some (.b false):=by
  show some (AV.b (decide _))=_
  congr 2;rw [decide_eq_false_iff_not];omega
 have e2:decide ((x.to':Int) ≥ (L.length:Int))=false:=by rw [decide_eq_false_iff_not];omega
 have e3:binI .sub (.int (x.to':Int)) (.int 1)=some (.int ((x.to' - 1:Nat):Int)):=by
  show some (AV.int (w64 _))=_
  rw [w64_eq (by omega) (by omega)];congr 2;omega
 have e4:app 8 1 (o.map iv) (.ro 1 [.int (i:Int)])=some ((o ++ [i]).map iv):=by
  rw [app8 (by rw [List.length_map];omega)];simp [iv]
 simp only [X19_21,u8_eql,Option.bind_some,condM_b,show ((4:UInt8) == 4)=true from rfl,if_true,hix,d5,e1,R3I.int_geq,e2,e3,hiy,d0,hy5,u8_neq,bne_self_eq_false,selW_or,Bool.or_self,Bool.false_eq_true,if_false,e4]
 exact g12 (by omega) h
theorem gNext {k:Nat} {y:In} (hL:L.length≤100000) (hx:L[i]?=some x) (ho:x.op=5) (h1:x.to'=k+1) (hk:k≤100000) (hy:L[k]?=some y) (hy2:y.to'=i+1) (hol:o.length≤100000) (h:Gs mx L o (i+1)):Gs mx L (o ++ [k]) i:=by
 have hlt:=(List.getElem?_eq_some_iff.1 hx).1
 refine gStep hL hx ?_
 rw [ho]
 show F19_21 _ _ _ _ _ _=_
 apply r19_21
 have hix:=in_idx hx
 have hiy:=in_idx hy
 have hlen:((o ++ [k]).map iv).length=o.length+1:=by simp
 have e0:(((o.length+1:Nat):Int) == 0)=false:=by rw [beq_eq_false_iff_ne];omega
 have e1:w64 (((o.length+1:Nat):Int) - 1)=((o.length:Nat):Int):=by rw [w64_eq (by omega) (by omega)];omega
 have e2:inN (o.length+1) (.int (o.length:Int))=some o.length:=inN_int (by omega)
 have e3:((o ++ [k]).map iv).getD o.length .un=.int (k:Int):=by simp [List.getD,iv]
 have e4:binI .add (.int (k:Int)) (.int 1)=some (.int ((k+1:Nat):Int)):=by rw [int_add (by omega) (by omega)];rfl
 have e5:w64 ((i:Int)+1)=((i+1:Nat):Int):=by rw [w64_eq (by omega) (by omega)];omega
 have e6:upN (o.length+1) (.int (o.length:Int))=some o.length:=upN_int (by omega)
 have e7:((o ++ [k]).map iv).take o.length=o.map iv:=by rw [List.map_append,List.take_left' (by simp)]
 have ci (n:Int):AV.cell (.int n) 0=.int n:=rfl
 simp only [X19_21,u8_eql,Option.bind_some,condM_b,show ((5:UInt8) == 4)=false from rfl,show ((5:UInt8) == 5)=true from rfl,Bool.false_eq_true,if_false,if_true,hlen,e0,hix,d5,e1,e2,e3,ci,e4,h1,Sx.int_neq,bne_self_eq_false,selW_or,Bool.or_self,hiy,hy2,e5,e6,e7]
 exact g12 (by omega) h
theorem gHalt (hL:L.length≤100000) (hx:L[i]?=some x) (ho:x.op=7) (hi:i+1=L.length) (h:Gs mx L o (i+1)):Gs mx L o i:=by
 refine gStep hL hx ?_
 rw [ho]
 exact ⟨h,hi⟩
end
def LitT (t:Ts):Prop:=∀ w ∈ t.flat,ndKind w.kind=0→w.kind≠3→w.kind≠5→w.text≠[]
theorem at_len' {X R:List In} {x:In} {i:Nat} (hi:i=X.length):(X ++ x :: R)[i]?=some x:=by subst hi;simp
theorem goes:∀ (t:Ts) (L X Y:List In) (o:List Nat) (c d:Ctx),L=X ++ (comp X.length t c ++ Y)→Y≠[]→L.length≤100000→o.length≤X.length→tsGo t c=.ok d→t.ok→LitT t→Gs mx L o (X.length+isz t)→Gs mx L o X.length
 | .nil,L,X,Y,o,c,d,hL,hY,hl,hol,hg,hok,hlit,h=>h
 | .leaf w k,L,X,Y,o,c,d,hL,hY,hl,hol,hg,hok,hlit,h=>by
  obtain ⟨c1,h1,h2⟩:=go_leaf_ok hg
  have e:L=(X ++ [leafIn w c]) ++ (comp (X ++ [leafIn w c]).length k c1 ++ Y):=by
   rw [hL]
   simp only [comp,h1,WR.get,List.length_append,List.length_cons,List.length_nil,List.append_assoc,List.cons_append,List.nil_append]
  have hx:L[X.length]?=some (leafIn w c):=by rw [hL];exact at_len' rfl
  have hX:(X ++ [leafIn w c]).length=X.length+1:=by simp
  have ih:=goes k L (X ++ [leafIn w c]) Y o c1 d e hY hl (by omega) h2 hok.2 (fun x hx=>hlit x (by simp [Ts.flat,hx]))
  rw [hX] at ih
  have hnx:=ih (by rw [show X.length+1+isz k=X.length+isz (.leaf w k) by simp only [isz];omega];exact h)
  rcases leaf3 hok.1 with hk | hk | hk
  ·have el:leafIn w c=⟨0,w.text,false, .nils,0,0⟩:=by unfold leafIn;rw [hk];rfl
   exact gLit hl hx (by rw [el]) (by rw [el];exact hlit w (by simp [Ts.flat]) hk hok.1.2.1 hok.1.2.2.2) hnx
  ·have el:leafIn w c=⟨1,[],w.root,cpN w.names,holeOf w c,0⟩:=by unfold leafIn;rw [hk];rfl
   have e2:holeOf w c=hole c:=by unfold holeOf;rw [hk];rfl
   have hne:hole c≠0:=by
    intro hz
    unfold leafGo at h1
    rw [hk,hz] at h1
    cases h1
   exact gHole hl hx (by rw [el]) (by rw [el];show holeOf w c≠0;rw [e2];exact hne) (by rw [el];show holeOf w c≤10;rw [e2];exact hole_le c) hnx
  ·have el:leafIn w c=⟨6,[],false, .nils,0,0⟩:=by unfold leafIn;rw [hk];rfl
   exact gFlush hl hx (by rw [el]) hnx
 | .blk w b e' k,L,X,Y,o,c,d,hL,hY,hl,hol,hg,hok,hlit,h=>by
  obtain ⟨hgb,hgk⟩:=go_blk_ok hg
  obtain ⟨hk,ke,hb,hk'⟩:=hok
  have hYp:=List.length_pos_iff.2 hY
  have hlb:LitT b:=fun x hx=>hlit x (by simp [Ts.flat,hx])
  have hlk:LitT k:=fun x hx=>hlit x (by simp [Ts.flat,hx])
  rcases blk_kind hk with hk | hk
  ·have hw2:(ndKind w.kind == 2)=true:=by rw [hk];rfl
   simp only [comp,hw2,if_true] at hL
   simp only [isz,hw2,if_true] at h
   generalize hi0:(⟨2,[],w.root,cpN w.names,0,X.length+1+isz b⟩:In)=i0 at hL
   have hX1:(X ++ [i0]).length=X.length+1:=by simp
   have e1:L=(X ++ [i0]) ++ (comp (X ++ [i0]).length b c ++ (comp (X.length+1+isz b) k c ++ Y)):=by rw [hX1,hL];simp
   have hX2:(X ++ i0 :: comp (X.length+1) b c).length=X.length+1+isz b:=by rw [List.length_append,List.length_cons,comp_len];omega
   have e2:L=(X ++ i0 :: comp (X.length+1) b c) ++ (comp (X ++ i0 :: comp (X.length+1) b c).length k c ++ Y):=by rw [hX2,hL];simp
   have ihb:=goes b L _ _ o c c e1 (by simp [hY]) hl (by omega) hgb hb hlb
   have ihk:=goes k L _ _ o c d e2 hY hl (by omega) hgk hk' hlk
   rw [hX1] at ihb
   rw [hX2] at ihk
   have hlen:L.length=X.length+1+isz b+isz k+Y.length:=by rw [e2,List.length_append,hX2,List.length_append,comp_len];omega
   have hx:L[X.length]?=some i0:=by rw [hL];exact at_len' rfl
   have g3:=ihb (ihk (by rw [show X.length+1+isz b+isz k=X.length+(1+isz b+isz k) by omega];exact h))
   exact gIf hl hx (.inl (by rw [← hi0])) (by rw [← hi0];show X.length < X.length+1+isz b;omega) (by rw [← hi0];show X.length+1+isz b < L.length;omega) g3
  ·have hw2:(ndKind w.kind == 2)=false:=by rw [hk];rfl
   simp only [comp,hw2,Bool.false_eq_true,if_false] at hL
   simp only [isz,hw2,Bool.false_eq_true,if_false] at h
   generalize hi0:(⟨4,[],w.root,cpN w.names,0,X.length+2+isz b⟩:In)=i0 at hL
   generalize hn0:(⟨5,[],false, .nils,0,X.length+1⟩:In)=n0 at hL
   have hX1:(X ++ [i0]).length=X.length+1:=by simp
   have e1:L=(X ++ [i0]) ++ (comp (X ++ [i0]).length b c ++ (n0 :: comp (X.length+2+isz b) k c ++ Y)):=by rw [hX1,hL];simp
   have hX2:(X ++ i0 :: (comp (X.length+1) b c ++ [n0])).length=X.length+2+isz b:=by rw [List.length_append,List.length_cons,List.length_append,comp_len];simp only [List.length_cons,List.length_nil];omega
   have e2:L=(X ++ i0 :: (comp (X.length+1) b c ++ [n0])) ++ (comp (X ++ i0 :: (comp (X.length+1) b c ++ [n0])).length k c ++ Y):=by rw [hX2,hL];simp
   have ihb:=goes b L _ _ (o ++ [X.length]) c c e1 (by simp) hl (by rw [hX1,List.length_append];simp only [List.length_cons,List.length_nil];omega) hgb hb hlb
   have ihk:=goes k L _ _ o c d e2 hY hl (by omega) hgk hk' hlk
   rw [hX1] at ihb
   rw [hX2] at ihk
   have hlen:L.length=X.length+2+isz b+isz k+Y.length:=by rw [e2,List.length_append,hX2,List.length_append,comp_len];omega
   have hx:L[X.length]?=some i0:=by rw [hL];exact at_len' rfl
   have hn:L[X.length+1+isz b]?=some n0:=by
    have e3:L=(X ++ i0 :: comp (X.length+1) b c) ++ n0 :: (comp (X.length+2+isz b) k c ++ Y):=by rw [hL];simp
    rw [e3]
    exact at_len' (by rw [List.length_append,List.length_cons,comp_len];omega)
   have g3:=ihk (by rw [show X.length+2+isz b+isz k=X.length+(2+isz b+isz k) by omega];exact h)
   have g4:Gs mx L (o ++ [X.length]) (X.length+1+isz b):=gNext hl hn (by rw [← hn0]) (by rw [← hn0]) (by omega) hx (by rw [← hi0];show X.length+2+isz b=X.length+1+isz b+1;omega) (by omega) (by rw [show X.length+1+isz b+1=X.length+2+isz b by omega];exact g3)
   have g5:=ihb g4
   exact gRange (y:=n0) hl hx (by rw [← hi0]) (by rw [← hi0];show X.length < X.length+2+isz b;omega) (by rw [← hi0];show X.length+2+isz b < L.length;omega) (by rw [← hi0];show L[X.length+2+isz b - 1]?=_;rw [show X.length+2+isz b - 1=X.length+1+isz b by omega];exact hn) (by rw [← hn0]) (by omega) g5
 | .alt w b l x e' k,L,X,Y,o,c,d,hL,hY,hl,hol,hg,hok,hlit,h=>by
  obtain ⟨c1,hgb,hgx,hgk⟩:=go_alt_ok hg
  obtain ⟨hk,kl,ke,hb,hx',hk'⟩:=hok
  have hYp:=List.length_pos_iff.2 hY
  have hlb:LitT b:=fun x hx=>hlit x (by simp [Ts.flat,hx])
  have hlx:LitT x:=fun y hy=>hlit y (by simp [Ts.flat,hy])
  have hlk:LitT k:=fun x hx=>hlit x (by simp [Ts.flat,hx])
  simp only [comp,hgb,WR.get] at hL
  simp only [isz] at h
  generalize hi0:(⟨2,[],w.root,cpN w.names,0,X.length+2+isz b⟩:In)=i0 at hL
  generalize hj0:(⟨3,[],false, .nils,0,X.length+2+isz b+isz x⟩:In)=j0 at hL
  have hX1:(X ++ [i0]).length=X.length+1:=by simp
  have e1:L=(X ++ [i0]) ++ (comp (X ++ [i0]).length b c ++ (j0 :: (comp (X.length+2+isz b) x c ++ comp (X.length+2+isz b+isz x) k c1) ++ Y)):=by rw [hX1,hL];simp
  have hX2:(X ++ i0 :: (comp (X.length+1) b c ++ [j0])).length=X.length+2+isz b:=by rw [List.length_append,List.length_cons,List.length_append,comp_len];simp only [List.length_cons,List.length_nil];omega
  have e2:L=(X ++ i0 :: (comp (X.length+1) b c ++ [j0])) ++ (comp (X ++ i0 :: (comp (X.length+1) b c ++ [j0])).length x c ++ (comp (X.length+2+isz b+isz x) k c1 ++ Y)):=by rw [hX2,hL];simp
  have hX3:(X ++ i0 :: (comp (X.length+1) b c ++ j0 :: comp (X.length+2+isz b) x c)).length=X.length+2+isz b+isz x:=by rw [List.length_append,List.length_cons,List.length_append,List.length_cons,comp_len,comp_len];omega
  have e3:L=(X ++ i0 :: (comp (X.length+1) b c ++ j0 :: comp (X.length+2+isz b) x c)) ++ (comp (X ++ i0 :: (comp (X.length+1) b c ++ j0 :: comp (X.length+2+isz b) x c)).length k c1 ++ Y):=by rw [hX3,hL];simp
  have ihb:=goes b L _ _ o c c1 e1 (by simp) hl (by omega) hgb hb hlb
  have ihx:=goes x L _ _ o c c1 e2 (by simp [hY]) hl (by omega) hgx hx' hlx
  have ihk:=goes k L _ _ o c1 d e3 hY hl (by omega) hgk hk' hlk
  rw [hX1] at ihb
  rw [hX2] at ihx
  rw [hX3] at ihk
  have hlen:L.length=X.length+2+isz b+isz x+isz k+Y.length:=by rw [e3,List.length_append,hX3,List.length_append,comp_len];omega
  have hx:L[X.length]?=some i0:=by rw [hL];exact at_len' rfl
  have hj:L[X.length+1+isz b]?=some j0:=by
   have e3:L=(X ++ i0 :: comp (X.length+1) b c) ++ j0 :: ((comp (X.length+2+isz b) x c ++ comp (X.length+2+isz b+isz x) k c1) ++ Y):=by rw [hL];simp
   rw [e3]
   exact at_len' (by rw [List.length_append,List.length_cons,comp_len];omega)
  have g3:=ihk (by rw [show X.length+2+isz b+isz x+isz k=X.length+(2+isz b+isz x+isz k) by omega];exact h)
  have g4:=ihx g3
  have g5:Gs mx L o (X.length+1+isz b):=gIf hl hj (.inr (by rw [← hj0])) (by rw [← hj0];show X.length+1+isz b < X.length+2+isz b+isz x;omega) (by rw [← hj0];show X.length+2+isz b+isz x < L.length;omega) (by rw [show X.length+1+isz b+1=X.length+2+isz b by omega];exact g4)
  have g6:=ihb g5
  exact gIf hl hx (.inl (by rw [← hi0])) (by rw [← hi0];show X.length < X.length+2+isz b;omega) (by rw [← hi0];show X.length+2+isz b < L.length;omega) g6
def rdep:Ts→Nat
 | .nil=>0
 | .leaf _ k=>rdep k
 | .blk w b _ k=>max (if ndKind w.kind == 2 then rdep b else rdep b+1) (rdep k)
 | .alt _ b _ x _ k=>max (max (rdep b) (rdep x)) (rdep k)
theorem rdep_le:∀ t:Ts,rdep t≤t.depth
 | .nil=>Nat.le_refl _
 | .leaf w k=>rdep_le k
 | .blk w b e k=>by simp only [rdep,Ts.depth];have:=rdep_le b;have:=rdep_le k;split <;> omega
 | .alt w b l x e k=>by simp only [rdep,Ts.depth];have:=rdep_le b;have:=rdep_le x;have:=rdep_le k;omega
theorem dep_append (P Q:List AV) (s:Nat×Nat):dep (P ++ Q) s=dep Q (dep P s):=by simp [dep]
theorem dep_cons (e:AV) (P:List AV) (s:Nat×Nat):dep (e :: P) s=dep P (dstep s e):=rfl
theorem dstep_in (s:Nat×Nat) (i:In):dstep s i.av=if i.op == 4 then (max s.1 (s.2+1),s.2+1) else if i.op == 5 then (s.1,s.2 - 1) else s:=rfl
theorem dep_comp:∀ (t:Ts) (n:Nat) (c:Ctx) (a b:Nat),t.ok→b≤a→dep ((comp n t c).map In.av) (a,b)=(max a (b+rdep t),b)
 | .nil,n,c,a,b,_,hab=>by simp only [comp,rdep,List.map_nil,dep,List.foldl_nil];rw [Nat.max_eq_left (by omega)]
 | .leaf w k,n,c,a,b,h,hab=>by
  simp only [comp,List.map_cons,dep_cons,dstep_in,rdep]
  have:(leafIn w c).op=0∨(leafIn w c).op=1∨(leafIn w c).op=6:=by
   unfold leafIn;split
   ·exact .inl rfl
   ·split
    ·exact .inr (.inl rfl)
    ·exact .inr (.inr rfl)
  have e:(if (leafIn w c).op == 4 then (max a (b+1),b+1) else if (leafIn w c).op == 5 then (a,b - 1) else (a,b))=(a,b):=by
   rcases this with e | e | e <;> rw [e] <;> rfl
  rw [e]
  exact dep_comp k _ _ a b h.2 hab
 | .blk w x e' k,n,c,a,b,h,hab=>by
  simp only [comp,rdep]
  rcases blk_kind h.1 with hk | hk
  ·have hw2:(ndKind w.kind == 2)=true:=by rw [hk];rfl
   simp only [hw2,if_true,List.map_cons,List.map_append,dep_cons,dstep_in,dep_append,show ((2:UInt8) == 4)=false from rfl,show ((2:UInt8) == 5)=false from rfl,Bool.false_eq_true,if_false]
   rw [dep_comp x _ _ a b h.2.2.1 hab,dep_comp k _ _ _ b h.2.2.2 (by omega)]
   congr 1;omega
  ·have hw2:(ndKind w.kind == 2)=false:=by rw [hk];rfl
   simp only [hw2,Bool.false_eq_true,if_false,List.map_cons,List.map_append,dep_cons,dstep_in,dep_append,show ((4:UInt8) == 4)=true from rfl,if_true]
   rw [dep_comp x _ _ _ (b+1) h.2.2.1 (by omega)]
   simp only [show ((5:UInt8) == 4)=false from rfl,show ((5:UInt8) == 5)=true from rfl,Bool.false_eq_true,if_false,if_true,Nat.add_sub_cancel]
   rw [dep_comp k _ _ _ b h.2.2.2 (by omega)]
   congr 1;omega
 | .alt w x l y e' k,n,c,a,b,h,hab=>by
  simp only [comp,rdep,List.map_cons,List.map_append,dep_cons,dstep_in,dep_append,show ((2:UInt8) == 4)=false from rfl,show ((2:UInt8) == 5)=false from rfl,show ((3:UInt8) == 4)=false from rfl,show ((3:UInt8) == 5)=false from rfl,Bool.false_eq_true,if_false]
  rw [dep_comp x _ _ a b h.2.2.2.1 hab]
  rw [dep_comp y _ _ _ b h.2.2.2.2.1 (by omega)]
  rw [dep_comp k _ _ _ b h.2.2.2.2.2 (by omega)]
  congr 1;omega
theorem lx_lit {a:Nat} {r:List UInt8} {W:List Wd} (h:Lx a r W):∀ w ∈ W,ndKind w.kind=0→w.kind≠3→w.kind≠5→w.text≠[]:=by
 induction h with
 | nil a=>intro w hw;cases hw
 | lit a u r W hu hi _ ih =>
  intro w hw
  rcases List.mem_cons.1 hw with rfl | hw
  ·intro _ _ _;exact hu
  ·exact ih w hw
 | act a t r W hi hok _ ih =>
  intro w hw
  rcases List.mem_cons.1 hw with rfl | hw
  ·intro h0 h3 h5
   exfalso
   have e:(actWd a (actW t)).kind=(actW t).kind:=rfl
   rw [e] at h0 h3 h5
   rcases actW_kind hok with e | e | e | e | e | e <;> rw [e] at h0 h3 h5
   ·exact absurd h0 (by decide)
   ·exact absurd h0 (by decide)
   ·exact h3 rfl
   ·exact absurd h0 (by decide)
   ·exact h5 rfl
   ·exact absurd h0 (by decide)
  ·exact ih w hw
theorem law19 (s:List UInt8):semCall (C mx) Tryd.prog 19 [.s s]=some (.b true):=by
 apply c19
 have hun:unop .not (.b true)=some (.b false):=rfl
 rcases compiled (mx:=mx) s with ⟨a,e,he,h1,h2⟩ | ⟨ts,hF,h1⟩
 ·simp only [X19,s45 (mx:=mx),Option.bind_some,hun,condM_b,Bool.false_eq_true,if_false,h1,p0,p1,p2,Sx.int_neq]
  rw [if_pos (by simpa using he)]
  rfl
 ·have hsz:isz ts≤65536:=by
   have:=(frag_flat hF).1
   have:=isz_flat ts
   omega
  have hL:(comp 0 ts (st1 0) ++ [haltI]).length=isz ts+1:=by rw [List.length_append,comp_len];rfl
  have hml:((comp 0 ts (st1 0) ++ [haltI]).map In.av).length=isz ts+1:=by rw [List.length_map,hL]
  have h49:=s49 (mx:=mx) ((comp 0 ts (st1 0) ++ [haltI]).map In.av) (fun e he=>by obtain ⟨i,_,rfl⟩:=List.mem_map.1 he;exact in_good i) (by omega)
  have hd:(dep ((comp 0 ts (st1 0) ++ [haltI]).map In.av) (0,0)).1≤16:=by
   rw [List.map_append,dep_append,dep_comp ts 0 _ 0 0 hF.ok (Nat.le_refl _)]
   show max 0 (0+rdep ts)≤16
   have:=rdep_le ts
   have:=hF.depth
   omega
  have hx:(comp 0 ts (st1 0) ++ [haltI])[isz ts]?=some haltI:=at_len' (by rw [comp_len])
  have hsub:binI .sub (.int ((isz ts+1:Nat):Int)) (.int 1)=some (.int ((isz ts:Nat):Int)):=by
   show some (AV.int (w64 _))=_
   rw [w64_eq (by omega) (by omega)];congr 2;omega
  have hix:=in_idx hx
  have e0:(((isz ts+1:Nat):Int) == 0)=false:=by rw [beq_eq_false_iff_ne];omega
  have eh:haltI.av.cell 0=.u8 7:=rfl
  have e16:binI .gtr (.int ((dep ((comp 0 ts (st1 0) ++ [haltI]).map In.av) (0,0)).1:Int)) (.int 16)=some (.b false):=by
   rw [int_gtr];congr 2;rw [decide_eq_false_iff_not];omega
  have hgs:Gs mx (comp 0 ts (st1 0) ++ [haltI]) [] 0:=by
   refine goes ts _ [] [haltI] [] (st1 0) (st1 0) rfl (by simp) (by omega) (Nat.le_refl _) hF.go hF.ok (lx_lit hF.lx) ?_
   rw [List.length_nil,Nat.zero_add]
   exact gHalt (by omega) hx rfl (by omega) (gEnd (by omega))
  unfold Gs at hgs
  rw [hL] at hgs
  simp only [X19,s45 (mx:=mx),Option.bind_some,hun,condM_b,Bool.false_eq_true,if_false,h1,p0,p1,p2,Sx.int_neq,bne_self_eq_false,lenR_ro,hml,Sx.int_eql,e0,hsub,hix,eh,u8_neq,selW_or,Bool.or_self,h49,e16]
  exact hgs
end R3K
