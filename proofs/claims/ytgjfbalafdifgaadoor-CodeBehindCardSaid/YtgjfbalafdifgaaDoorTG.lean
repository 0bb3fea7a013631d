/-
  A part of CodeBehind's proof: an evaluator of translated functions over plain data, what functions of this seat come to, and laws on plain data.
-/
import Derived.Test.YtgjfbalafdifgaaDoorTF
import Derived.Test.YtgjfbalafdifgaaDoorProg
set_option linter.unusedVariables false
set_option linter.unusedSimpArgs false
set_option linter.unusedSectionVars false
set_option linter.unnecessarySimpa false
namespace R3K
open Go Go.Proofs Sx R3 R3I
variable {mx:Int}
def NmW (ts:Ts):Prop:=∀ w ∈ ts.flat,NmOk2 w.names
theorem leaf3 {w:Wd} (h:w.kind≠2∧w.kind≠3∧w.kind≠4∧w.kind≠5):ndKind w.kind=0∨ndKind w.kind=1∨ndKind w.kind=4:=by
 unfold ndKind
 repeat' split
 all_goals first
  | exact .inl rfl
  | exact .inr (.inl rfl)
  | exact .inr (.inr rfl)
  | (rename_i e;exact absurd (by simpa using e) h.1)
  | (rename_i e;exact absurd (by simpa using e) h.2.2.1)
theorem c26 {oa la N T:AV} {j:Nat} {out:List AV} {r:AV} (hj:j≤1000000) (h:F72_1 (semRun (C mx) Tryd.prog 72 Tryd.f72) oa la ((j+1:Nat):Int) N T out=some r):F72_26 (semRun (C mx) Tryd.prog 72 Tryd.f72) oa la (j:Int) N T out=some r:=by
 apply r72_26
 have e3:w64 ((j:Int)+1)=((j+1:Nat):Int):=by rw [w64_eq (by omega) (by omega)];omega
 simp only [X72_26,e3]
 exact h
theorem elems6 (l:List AV):AV.elems (.ro 6 l)=l:=rfl
theorem drop_tops {o:Option (List Nat)} {j m:Nat} {l:List Nat} (h:(o.getD []).drop j=m :: l):(o.getD [])[j]?=some m∧(o.getD []).drop (j+1)=l∧j < (o.getD []).length:=by
 have h1:=congrArg (fun l=>l[0]?) h
 simp at h1
 have h2:=congrArg (List.drop 1) h
 refine ⟨by simpa using h1,by simpa [List.drop_drop] using h2,?_⟩
 by_cases hh:j < (o.getD []).length
 ·exact hh
 ·rw [List.drop_eq_nil_of_le (by omega)] at h;cases h
def WOk (mx:Int) (ts:Ts):Prop:=∀ (A B:List Nd) (c:Ctx) (o:Option (List Nat)) (j:Nat) (T:AV) (out:List In),(o.getD []).drop j=ts.tops A.length→j≤(o.getD []).length→(o.getD []).length≤500000→out.length+isz ts≤500000→ts.ok→NmW ts →
 F72_1 (semRun (C mx) Tryd.prog 72 Tryd.f72) (optAV o) (.int ((o.getD []).length:Int)) (j:Int) (.ro 9 ((A ++ (arrH A.length ts c ++ B)).map Nd.av)) T (out.map In.av)=some (.tu [.tu [], .ag [.ro 9 ((A ++ (arrH A.length ts c ++ B)).map Nd.av),T, .ro 6 ((out ++ comp out.length ts c).map In.av)]])
theorem wok_call {ts:Ts} (h:WOk mx ts) {N A B:List Nd} {c:Ctx} {l:List Nat} {T:AV} {out:List In} (hN:N=A ++ (arrH A.length ts c ++ B)) (hl:l=ts.tops A.length) (h1:l.length≤500000) (h2:out.length+isz ts≤500000) (h3:ts.ok) (h4:NmW ts) :
  semCall (C mx) Tryd.prog 72 [.un,optAV (some l), .ag [.ro 9 (N.map Nd.av),T, .ro 6 (out.map In.av)]]=some (.tu [.tu [], .ag [.ro 9 (N.map Nd.av),T, .ro 6 ((out ++ comp out.length ts c).map In.av)]]):=by
 subst hN
 apply c72
 simp only [X72,opt_len,Option.bind_some]
 exact h A B c (some l) 0 T out (by simpa using hl) (Nat.zero_le _) h1 h2 h3 h4
theorem size_isz:∀ (t:Ts),t.size≤isz t
 | .nil=>Nat.le_refl _
 | .leaf w k=>by simp only [Ts.size,isz];have:=size_isz k;omega
 | .blk w b e k=>by simp only [Ts.size,isz];have:=size_isz k;have:=size_isz b;split <;> omega
 | .alt w b l x e k=>by simp only [Ts.size,isz];have:=size_isz k;have:=size_isz b;have:=size_isz x;omega
theorem wok:∀ (ts:Ts),WOk mx ts
 | .nil=>by
  intro A B c o j T out hd hj hlen hout hok hn
  apply r72_1
  have hge:(o.getD []).length≤j:=by
   have:=congrArg List.length hd
   simp [Ts.tops] at this
   omega
  have e1:decide ((j:Int) < ((o.getD []).length:Int))=false:=by rw [decide_eq_false_iff_not];omega
  simp only [X72_1,Sx.int_lss,e1,Option.bind_some,condM_b,Bool.false_eq_true,if_false,comp,List.append_nil]
 | .leaf w k=>by
  intro A B c o j T out hd hj hlen hout hok hn
  obtain ⟨hx,hd',hlt⟩:=drop_tops hd
  apply r72_1
  have e1:decide ((j:Int) < ((o.getD []).length:Int))=true:=by rw [decide_eq_true_eq];omega
  have eN:A ++ (arrH A.length (.leaf w k) c ++ B)=A ++ nHole w c :: (arrH (A.length+1) k ((leafGo w c).get c) ++ B):=by simp [arrH]
  obtain ⟨nl,n1,n2⟩:=cp_names (hn w (by simp [Ts.flat]))
  simp only [isz] at hout
  have ih:=wok k (A ++ [nHole w c]) B ((leafGo w c).get c) o (j+1) T (out ++ [leafIn w c]) (by rw [List.length_append];exact hd') (by omega) hlen (by rw [List.length_append];simp only [List.length_cons,List.length_nil];omega) hok.2 (fun x hx=>hn x (by simp [Ts.flat,hx]))
  simp only [List.length_append,List.length_cons,List.length_nil,Nat.zero_add,List.append_assoc,List.singleton_append] at ih
  have hidx:idx 9 (.ro 9 ((A ++ nHole w c :: (arrH (A.length+1) k ((leafGo w c).get c) ++ B)).map Nd.av)) (.int (A.length:Int))=some (nHole w c).av:=at_av
  have hs:=fun i=>s73 (mx:=mx) i (.ro 9 ((A ++ nHole w c :: (arrH (A.length+1) k ((leafGo w c).get c) ++ B)).map Nd.av)) T out (by omega)
  rw [eN]
  have fin:∀ i,i=leafIn w c→F72_26 (semRun (C mx) Tryd.prog 72 Tryd.f72) (optAV o) (.int ((o.getD []).length:Int)) (j:Int) (.ro 9 ((A ++ nHole w c :: (arrH (A.length+1) k ((leafGo w c).get c) ++ B)).map Nd.av)) T ((out ++ [i]).map In.av)=some (.tu [.tu [], .ag [.ro 9 ((A ++ nHole w c :: (arrH (A.length+1) k ((leafGo w c).get c) ++ B)).map Nd.av),T, .ro 6 ((out ++ comp out.length (.leaf w k) c).map In.av)]]):=by
   intro i hi
   subst hi
   exact c26 (by omega) ih
  generalize (A ++ nHole w c :: (arrH (A.length+1) k ((leafGo w c).get c) ++ B)).map Nd.av=NN at hidx hs fin ⊢
  simp only [X72_1,Sx.int_lss,e1,Option.bind_some,condM_b,if_true,opt_idx hx,cell_int,hidx,same_eq,k0,k2,k3,k4,k5,k6,k7,k8,show (nHole w c).names=w.names from rfl,n1,one_b,one_s,one_u8,u8_eql,show (nHole w c).kind=ndKind w.kind from rfl,show (nHole w c).text=w.text from rfl,show (nHole w c).root=w.root from rfl,show (nHole w c).hole=holeOf w c from rfl]
  rcases leaf3 hok.1 with hk | hk | hk
  ·have hi:=fin _ rfl
   unfold leafIn at hi
   have h73:=hs ⟨0,w.text,false, .nils,0,0⟩
   have h73:semCall (C mx) Tryd.prog 73 [.un, .ag [.u8 0, .s w.text, .b false, .nils, .u8 0, .int 0], .ag [.ro 9 NN,T, .ro 6 (out.map In.av)]]=_:=h73
   rw [hk] at hi ⊢
   simp only [show ((0:UInt8) == 0)=true from rfl,if_true,h73,Option.bind_some,tu0,tu1,asAg3,th0,th1,th2,elems6] at hi ⊢
   exact hi
  ·have hi:=fin _ rfl
   unfold leafIn at hi
   have h73:=hs ⟨1,[],w.root,cpN w.names,holeOf w c,0⟩
   have h73:semCall (C mx) Tryd.prog 73 [.un, .ag [.u8 1, .s [], .b w.root,cpN w.names, .u8 (holeOf w c), .int 0], .ag [.ro 9 NN,T, .ro 6 (out.map In.av)]]=_:=h73
   rw [n2] at h73
   rw [hk] at hi ⊢
   simp only [show ((1:UInt8) == 0)=false from rfl,show ((1:UInt8) == 1)=true from rfl,Bool.false_eq_true,if_false,if_true,h73,Option.bind_some,tu0,tu1,asAg3,th0,th1,th2,elems6,n2] at hi ⊢
   exact hi
  ·have hi:=fin _ rfl
   unfold leafIn at hi
   have h73:=hs ⟨6,[],false, .nils,0,0⟩
   have h73:semCall (C mx) Tryd.prog 73 [.un, .ag [.u8 6, .s [], .b false, .nils, .u8 0, .int 0], .ag [.ro 9 NN,T, .ro 6 (out.map In.av)]]=_:=h73
   rw [hk] at hi ⊢
   simp only [show ((4:UInt8) == 0)=false from rfl,show ((4:UInt8) == 1)=false from rfl,show ((4:UInt8) == 4)=true from rfl,Bool.false_eq_true,if_false,if_true,h73,Option.bind_some,tu0,tu1,asAg3,th0,th1,th2,elems6] at hi ⊢
   exact hi
 | .blk w b e' k=>by
  intro A B c o j T out hd hj hlen hout hok hn
  obtain ⟨hx,hd',hlt⟩:=drop_tops hd
  apply r72_1
  have e1:decide ((j:Int) < ((o.getD []).length:Int))=true:=by rw [decide_eq_true_eq];omega
  obtain ⟨nl,n1,n2⟩:=cp_names (hn w (by simp [Ts.flat]))
  obtain ⟨hk,ke,hb,hk'⟩:=hok
  simp only [isz] at hout
  have eN:A ++ (arrH A.length (.blk w b e' k) c ++ B)=A ++ nBlk w (b.tops (A.length+1)) :: (arrH (A.length+1) b c ++ (arrH (A.length+1+b.size) k c ++ B)):=by simp [arrH]
  have eN2:A ++ nBlk w (b.tops (A.length+1)) :: (arrH (A.length+1) b c ++ (arrH (A.length+1+b.size) k c ++ B))=(A ++ [nBlk w (b.tops (A.length+1))]) ++ (arrH (A ++ [nBlk w (b.tops (A.length+1))]).length b c ++ (arrH (A.length+1+b.size) k c ++ B)):=by simp
  have eN3:A ++ nBlk w (b.tops (A.length+1)) :: (arrH (A.length+1) b c ++ (arrH (A.length+1+b.size) k c ++ B))=(A ++ nBlk w (b.tops (A.length+1)) :: arrH (A.length+1) b c) ++ (arrH (A ++ nBlk w (b.tops (A.length+1)) :: arrH (A.length+1) b c).length k c ++ B):=by
   rw [List.length_append,List.length_cons,arrH_len,show A.length+(b.size+1)=A.length+1+b.size by omega];simp
  have hbn:NmW b:=fun x hx=>hn x (by simp [Ts.flat,hx])
  have hkn:NmW k:=fun x hx=>hn x (by simp [Ts.flat,hx])
  have hA3:(A ++ nBlk w (b.tops (A.length+1)) :: arrH (A.length+1) b c).length=A.length+1+b.size:=by rw [List.length_append,List.length_cons,arrH_len];omega
  have hsz1:=size_isz b
  have hsz2:=tops_len b (A.length+1)
  have hcall:=fun (out:List In) (ho:out.length+isz b≤500000)=>wok_call (T:=T) (wok b) eN2 (l:=b.tops (A.length+1)) (by simp) (by omega) ho hb hbn
  have hk2:=fun (out:List In) (ho:out.length+isz k≤500000)=>wok k (A ++ nBlk w (b.tops (A.length+1)) :: arrH (A.length+1) b c) B c o (j+1) T out (by rw [hA3];exact hd') (by omega) hlen ho hk' hkn
  rw [← eN3] at hk2
  rw [eN]
  have hidx:idx 9 (.ro 9 ((A ++ nBlk w (b.tops (A.length+1)) :: (arrH (A.length+1) b c ++ (arrH (A.length+1+b.size) k c ++ B))).map Nd.av)) (.int (A.length:Int))=some (nBlk w (b.tops (A.length+1))).av:=at_av
  have hs:=fun (out:List In) (ho:out.length≤1000000) i=>s73 (mx:=mx) i (.ro 9 ((A ++ nBlk w (b.tops (A.length+1)) :: (arrH (A.length+1) b c ++ (arrH (A.length+1+b.size) k c ++ B))).map Nd.av)) T out ho
  generalize (A ++ nBlk w (b.tops (A.length+1)) :: (arrH (A.length+1) b c ++ (arrH (A.length+1+b.size) k c ++ B))).map Nd.av=NN at hidx hs hcall hk2 ⊢
  simp only [X72_1,Sx.int_lss,e1,Option.bind_some,condM_b,if_true,opt_idx hx,cell_int,hidx,same_eq,k0,k2,k3,k4,k5,k6,k7,k8,show (nBlk w (b.tops (A.length+1))).names=w.names from rfl,n1,one_b,one_s,one_u8,u8_eql,show (nBlk w (b.tops (A.length+1))).kind=ndKind w.kind from rfl,show (nBlk w (b.tops (A.length+1))).root=w.root from rfl,show (nBlk w (b.tops (A.length+1))).has=false from rfl,show (nBlk w (b.tops (A.length+1))).body=some (b.tops (A.length+1)) from rfl]
  rcases blk_kind hk with hk | hk
  ·rw [hk] at hout ⊢
   simp only [show ((2:UInt8) == 2)=true from rfl,if_true] at hout
   have h73:semCall (C mx) Tryd.prog 73 [.un, .ag [.u8 2, .s [], .b w.root, .ro 1 nl, .u8 0, .int 0], .ag [.ro 9 NN,T, .ro 6 (out.map In.av)]]=_:=hs out (by omega) ⟨2,[],w.root, .ro 1 nl,0,0⟩
   have h72:=hcall (out ++ [⟨2,[],w.root, .ro 1 nl,0,0⟩]) (by rw [List.length_append];simp only [List.length_cons,List.length_nil];omega)
   simp only [show ((2:UInt8) == 0)=false from rfl,show ((2:UInt8) == 1)=false from rfl,show ((2:UInt8) == 4)=false from rfl,show ((2:UInt8) == 2)=true from rfl,Bool.false_eq_true,if_false,if_true,h73,Option.bind_some,tu0,tu1,asAg3,th0,th1,th2,elems6,h72]
   apply r72_20
   simp only [List.append_assoc,List.singleton_append]
   simp only [X72_20,in_at,Option.bind_some]
   rw [set_to out.length rfl _ (out.length+1+isz b) (by simp only [List.length_map,List.length_append,List.length_cons,comp_len,List.length_nil];omega)]
   apply c26 (by omega)
   have hkk:=hk2 (out ++ ⟨2,[],w.root, .ro 1 nl,0,out.length+1+isz b⟩ :: comp (out.length+1) b c) (by rw [List.length_append,List.length_cons,comp_len];omega)
   simp only [List.length_append,List.length_cons,comp_len,List.length_nil,Nat.zero_add,List.nil_append] at hkk ⊢
   rw [hkk]
   simp only [comp,hk,show ((2:UInt8) == 2)=true from rfl,if_true,n2,List.append_assoc,List.cons_append]
   rw [show out.length+(isz b+1)=out.length+1+isz b by omega]
  ·rw [hk] at hout ⊢
   simp only [show ((3:UInt8) == 2)=false from rfl,Bool.false_eq_true,if_false] at hout
   have h73:semCall (C mx) Tryd.prog 73 [.un, .ag [.u8 4, .s [], .b w.root, .ro 1 nl, .u8 0, .int 0], .ag [.ro 9 NN,T, .ro 6 (out.map In.av)]]=_:=hs out (by omega) ⟨4,[],w.root, .ro 1 nl,0,0⟩
   have h72:=hcall (out ++ [⟨4,[],w.root, .ro 1 nl,0,0⟩]) (by rw [List.length_append];simp only [List.length_cons,List.length_nil];omega)
   have hplus:binI .add (.int (out.length:Int)) (.int 1)=some (.int ((out.length+1:Nat):Int)):=by
    rw [int_add (by omega) (by omega)];congr 2
   have h73b:semCall (C mx) Tryd.prog 73 [.un, .ag [.u8 5, .s [], .b false, .nils, .u8 0, .int ((out.length+1:Nat):Int)], .ag [.ro 9 NN,T, .ro 6 ((out ++ [(⟨4,[],w.root, .ro 1 nl,0,0⟩:In)] ++ comp (out ++ [(⟨4,[],w.root, .ro 1 nl,0,0⟩:In)]).length b c).map In.av)]]=_:=hs (out ++ [(⟨4,[],w.root, .ro 1 nl,0,0⟩:In)] ++ comp (out ++ [(⟨4,[],w.root, .ro 1 nl,0,0⟩:In)]).length b c) (by rw [List.length_append,List.length_append,comp_len];simp only [List.length_cons,List.length_nil];omega) ⟨5,[],false, .nils,0,out.length+1⟩
   have one_i (n:Int):AV.one (.int n)=some (.int n):=rfl
   simp only [show ((3:UInt8) == 0)=false from rfl,show ((3:UInt8) == 1)=false from rfl,show ((3:UInt8) == 4)=false from rfl,show ((3:UInt8) == 2)=false from rfl,show ((3:UInt8) == 3)=true from rfl,Bool.false_eq_true,if_false,if_true,h73,Option.bind_some,tu0,tu1,asAg3,th0,th1,th2,elems6,h72,hplus,one_i,h73b]
   simp only [List.append_assoc,List.singleton_append,List.cons_append]
   simp only [in_at,Option.bind_some]
   rw [set_to out.length rfl _ (out.length+2+isz b) (by simp only [List.length_map,List.length_append,List.length_cons,comp_len,List.length_nil];omega)]
   apply c26 (by omega)
   have hkk:=hk2 (out ++ ⟨4,[],w.root, .ro 1 nl,0,out.length+2+isz b⟩ :: (comp (out.length+1) b c ++ [⟨5,[],false, .nils,0,out.length+1⟩])) (by simp only [List.length_append,List.length_cons,List.length_nil,comp_len];omega)
   simp only [List.length_append,List.length_cons,comp_len,List.length_nil,Nat.zero_add,List.nil_append] at hkk ⊢
   rw [hkk]
   simp only [comp,hk,show ((3:UInt8) == 2)=false from rfl,Bool.false_eq_true,if_false,n2,List.append_assoc,List.cons_append,List.nil_append]
   rw [show out.length+(isz b+1+1)=out.length+2+isz b by omega]
 | .alt w b l y e' k=>by
  intro A B c o j T out hd hj hlen hout hok hn
  obtain ⟨hx,hd',hlt⟩:=drop_tops hd
  apply r72_1
  have e1:decide ((j:Int) < ((o.getD []).length:Int))=true:=by rw [decide_eq_true_eq];omega
  obtain ⟨nl,n1,n2⟩:=cp_names (hn w (by simp [Ts.flat]))
  obtain ⟨hk,kl,ke,hb,hy,hk'⟩:=hok
  have hk2':ndKind w.kind=2:=by rw [hk];rfl
  simp only [isz] at hout
  have eN:A ++ (arrH A.length (.alt w b l y e' k) c ++ B)=A ++ nAlt w (b.tops (A.length+1)) (y.tops (A.length+1+b.size)) :: (arrH (A.length+1) b c ++ (arrH (A.length+1+b.size) y c ++ (arrH (A.length+1+b.size+y.size) k ((tsGo b c).get c) ++ B))):=by simp [arrH]
  generalize hnd:nAlt w (b.tops (A.length+1)) (y.tops (A.length+1+b.size))=nd at eN
  have eN2:A ++ nd :: (arrH (A.length+1) b c ++ (arrH (A.length+1+b.size) y c ++ (arrH (A.length+1+b.size+y.size) k ((tsGo b c).get c) ++ B)))=(A ++ [nd]) ++ (arrH (A ++ [nd]).length b c ++ (arrH (A.length+1+b.size) y c ++ (arrH (A.length+1+b.size+y.size) k ((tsGo b c).get c) ++ B))):=by simp
  have hA3:(A ++ nd :: arrH (A.length+1) b c).length=A.length+1+b.size:=by rw [List.length_append,List.length_cons,arrH_len];omega
  have hA4:(A ++ nd :: (arrH (A.length+1) b c ++ arrH (A.length+1+b.size) y c)).length=A.length+1+b.size+y.size:=by rw [List.length_append,List.length_cons,List.length_append,arrH_len,arrH_len];omega
  have eN3:A ++ nd :: (arrH (A.length+1) b c ++ (arrH (A.length+1+b.size) y c ++ (arrH (A.length+1+b.size+y.size) k ((tsGo b c).get c) ++ B)))=(A ++ nd :: arrH (A.length+1) b c) ++ (arrH (A ++ nd :: arrH (A.length+1) b c).length y c ++ (arrH (A.length+1+b.size+y.size) k ((tsGo b c).get c) ++ B)):=by rw [hA3];simp
  have eN4:A ++ nd :: (arrH (A.length+1) b c ++ (arrH (A.length+1+b.size) y c ++ (arrH (A.length+1+b.size+y.size) k ((tsGo b c).get c) ++ B)))=(A ++ nd :: (arrH (A.length+1) b c ++ arrH (A.length+1+b.size) y c)) ++ (arrH (A ++ nd :: (arrH (A.length+1) b c ++ arrH (A.length+1+b.size) y c)).length k ((tsGo b c).get c) ++ B):=by rw [hA4];simp
  have hbn:NmW b:=fun x hx=>hn x (by simp [Ts.flat,hx])
  have hyn:NmW y:=fun x hx=>hn x (by simp [Ts.flat,hx])
  have hkn:NmW k:=fun x hx=>hn x (by simp [Ts.flat,hx])
  have hsz1:=size_isz b
  have hsz2:=tops_len b (A.length+1)
  have hsz3:=size_isz y
  have hsz4:=tops_len y (A.length+1+b.size)
  have hcall:=fun (out:List In) (ho:out.length+isz b≤500000)=>wok_call (T:=T) (wok b) eN2 (l:=b.tops (A.length+1)) (by simp) (by omega) ho hb hbn
  have hcally:=fun (out:List In) (ho:out.length+isz y≤500000)=>wok_call (T:=T) (wok y) eN3 (l:=y.tops (A.length+1+b.size)) (by rw [hA3]) (by omega) ho hy hyn
  have hk2:=fun (out:List In) (ho:out.length+isz k≤500000)=>wok k (A ++ nd :: (arrH (A.length+1) b c ++ arrH (A.length+1+b.size) y c)) B ((tsGo b c).get c) o (j+1) T out (by rw [hA4];exact hd') (by omega) hlen ho hk' hkn
  rw [← eN4] at hk2
  rw [eN]
  have hidx:idx 9 (.ro 9 ((A ++ nd :: (arrH (A.length+1) b c ++ (arrH (A.length+1+b.size) y c ++ (arrH (A.length+1+b.size+y.size) k ((tsGo b c).get c) ++ B)))).map Nd.av)) (.int (A.length:Int))=some nd.av:=at_av
  have hs:=fun (out:List In) (ho:out.length≤1000000) i=>s73 (mx:=mx) i (.ro 9 ((A ++ nd :: (arrH (A.length+1) b c ++ (arrH (A.length+1+b.size) y c ++ (arrH (A.length+1+b.size+y.size) k ((tsGo b c).get c) ++ B)))).map Nd.av)) T out ho
  generalize (A ++ nd :: (arrH (A.length+1) b c ++ (arrH (A.length+1+b.size) y c ++ (arrH (A.length+1+b.size+y.size) k ((tsGo b c).get c) ++ B)))).map Nd.av=NN at hidx hs hcall hcally hk2 ⊢
  subst hnd
  have h73:semCall (C mx) Tryd.prog 73 [.un, .ag [.u8 2, .s [], .b w.root, .ro 1 nl, .u8 0, .int 0], .ag [.ro 9 NN,T, .ro 6 (out.map In.av)]]=_:=hs out (by omega) ⟨2,[],w.root, .ro 1 nl,0,0⟩
  have h72:=hcall (out ++ [⟨2,[],w.root, .ro 1 nl,0,0⟩]) (by rw [List.length_append];simp only [List.length_cons,List.length_nil];omega)
  have h73b:semCall (C mx) Tryd.prog 73 [.un, .ag [.u8 3, .s [], .b false, .nils, .u8 0, .int 0], .ag [.ro 9 NN,T, .ro 6 ((out ++ [(⟨2,[],w.root, .ro 1 nl,0,0⟩:In)] ++ comp (out ++ [(⟨2,[],w.root, .ro 1 nl,0,0⟩:In)]).length b c).map In.av)]]=_:=hs (out ++ [(⟨2,[],w.root, .ro 1 nl,0,0⟩:In)] ++ comp (out ++ [(⟨2,[],w.root, .ro 1 nl,0,0⟩:In)]).length b c) (by rw [List.length_append,List.length_append,comp_len];simp only [List.length_cons,List.length_nil];omega) ⟨3,[],false, .nils,0,0⟩
  simp only [X72_1,Sx.int_lss,e1,Option.bind_some,condM_b,if_true,opt_idx hx,cell_int,hidx,same_eq,k0,k2,k3,k4,k5,k6,k7,k8,show (nAlt w (b.tops (A.length+1)) (y.tops (A.length+1+b.size))).names=w.names from rfl,n1,one_b,one_s,one_u8,u8_eql,show (nAlt w (b.tops (A.length+1)) (y.tops (A.length+1+b.size))).kind=ndKind w.kind from rfl,show (nAlt w (b.tops (A.length+1)) (y.tops (A.length+1+b.size))).root=w.root from rfl,show (nAlt w (b.tops (A.length+1)) (y.tops (A.length+1+b.size))).has=true from rfl,show (nAlt w (b.tops (A.length+1)) (y.tops (A.length+1+b.size))).body=some (b.tops (A.length+1)) from rfl,show (nAlt w (b.tops (A.length+1)) (y.tops (A.length+1+b.size))).els=some (y.tops (A.length+1+b.size)) from rfl,hk2',show ((2:UInt8) == 0)=false from rfl,show ((2:UInt8) == 1)=false from rfl,show ((2:UInt8) == 4)=false from rfl,show ((2:UInt8) == 2)=true from rfl,Bool.false_eq_true,if_false,h73,tu0,tu1,asAg3,th0,th1,th2,elems6,h72,h73b]
  simp only [List.append_assoc,List.singleton_append,List.cons_append]
  simp only [in_at,Option.bind_some]
  rw [set_to out.length rfl _ (out.length+2+isz b) (by simp only [List.length_map,List.length_append,List.length_cons,comp_len,List.length_nil];omega)]
  have hyc:=hcally (out ++ ⟨2,[],w.root, .ro 1 nl,0,out.length+2+isz b⟩ :: (comp (out.length+1) b c ++ [⟨3,[],false, .nils,0,0⟩])) (by simp only [List.length_append,List.length_cons,List.length_nil,comp_len];omega)
  simp only [List.length_append,List.length_cons,comp_len,List.length_nil,Nat.zero_add,List.nil_append] at hyc ⊢
  simp only [hyc,Option.bind_some,tu0,tu1,asAg3,th0,th1,th2,elems6]
  apply r72_20
  have hX:(out ++ ⟨2,[],w.root, .ro 1 nl,0,out.length+2+isz b⟩ :: comp (out.length+1) b c).length=out.length+(isz b+1):=by rw [List.length_append,List.length_cons,comp_len]
  have esh:∀ (i:In) (R:List In),out ++ ⟨2,[],w.root, .ro 1 nl,0,out.length+2+isz b⟩ :: (comp (out.length+1) b c ++ [i]) ++ R=(out ++ ⟨2,[],w.root, .ro 1 nl,0,out.length+2+isz b⟩ :: comp (out.length+1) b c) ++ i :: R:=by intro i R;simp
  have hin:=in_at (X:=out ++ ⟨2,[],w.root, .ro 1 nl,0,out.length+2+isz b⟩ :: comp (out.length+1) b c) (R:=comp (out.length+(isz b+1+1)) y c) (i:=⟨3,[],false, .nils,0,0⟩)
  rw [hX] at hin
  simp only [X72_20,esh,hin,Option.bind_some]
  rw [set_to _ hX.symm _ (out.length+2+isz b+isz y) (by simp only [List.length_map,List.length_append,List.length_cons,comp_len,List.length_nil];omega)]
  apply c26 (by omega)
  have hkk:=hk2 ((out ++ ⟨2,[],w.root, .ro 1 nl,0,out.length+2+isz b⟩ :: comp (out.length+1) b c) ++ ⟨3,[],false, .nils,0,out.length+2+isz b+isz y⟩ :: comp (out.length+(isz b+1+1)) y c) (by simp only [List.length_append,List.length_cons,List.length_nil,comp_len];omega)
  simp only [List.length_append,List.length_cons,comp_len,List.length_nil,Nat.zero_add,List.nil_append] at hkk ⊢
  rw [hkk]
  simp only [comp,n2,List.append_assoc,List.cons_append,List.nil_append]
  rw [show out.length+(isz b+1)+(isz y+1)=out.length+2+isz b+isz y by omega,show out.length+(isz b+1+1)=out.length+2+isz b by omega]
end R3K

namespace R3K
open Go Go.Proofs Sx
variable {mx:Int}
noncomputable def body43:Code:=(Tryd.f43.body).getD .skip
noncomputable def X43 (call:CallT) (run:RunT) (a0:List UInt8):Option AV :=
 (call 41 [.s a0, .ag [.u8 0, .u8 0, .b false, .u8 0, .u8 0, .u8 0, .u8 0, .b false, .u8 0, .s []]]).bind fun v1=>(tupI v1 0).bind fun v2=>(tupI v1 1).bind fun v3=>(tupI v1 2).bind fun v4=>(tupI v1 3).bind fun v5=>(AV.asAg 2 v2).bind fun v6=>(AV.asAg 10 v3).bind fun v7=>(binI .eql v5 (.int 0)).bind fun v8=>(selW v8 true ((binAg [.i, .i, .b, .i, .i, .i, .i, .b, .i, .s] .neq (.ag [v7.getD 0 .un,v7.getD 1 .un,v7.getD 2 .un,v7.getD 3 .un,v7.getD 4 .un,v7.getD 5 .un,v7.getD 6 .un,v7.getD 7 .un,v7.getD 8 .un,v7.getD 9 .un]) (.ag [.u8 0, .u8 0, .b false, .u8 0, .u8 0, .u8 0, .u8 0, .b false, .u8 0, .s []])).bind fun v9=>some v9) (.b false)).bind fun v10=>condM v10
 (some (.tu [.ag [.nils, .nils], .int (a0.length:Int), .int 8]))
 (some (.tu [.ag [v6.getD 0 .un,v6.getD 1 .un],v4,v5]))
section
variable (call:CallT) (run:RunT) (a0:List UInt8)
theorem text43:unr (C mx) call run 43 Tryd.f43 400 [.code body43] (initF (C mx) 43 Tryd.f43.ntmps [.s a0])=X43 call run a0:=by
 kernel_rfl
theorem c43 {r:AV} (h:X43 (semCall (C mx) Tryd.prog) (semRun (C mx) Tryd.prog 43 Tryd.f43) a0=some r):semCall (C mx) Tryd.prog 43 [.s a0]=some r :=
 semCall_unr (fn:=Tryd.f43) (c:=body43) (by kernel_rfl) (by kernel_rfl) 400 (by kernel_rfl) ((text43 _ _ a0).trans h)
end
end R3K

namespace R3K
open Go Go.Proofs Sx
variable {mx:Int}
noncomputable def body45:Code:=(Tryd.f45.body).getD .skip
noncomputable def X45 (call:CallT) (run:RunT)  : Option AV :=
 (call 46 [.s [123,123,120,125,125]]).bind fun v1=>(tupI v1 0).bind fun v2=>(tupI v1 1).bind fun v3=>(tupI v1 2).bind fun v4=>(binI .eql v4 (.int 0)).bind fun v5=>(selW v5 true ((lenR v2).bind fun v6=>(binI .eql v6 (.int 2)).bind fun v7=>some v7) (.b false)).bind fun v8=>(selW v8 true ((idx 6 v2 (.int 0)).bind fun v9=>(binI .eql (AV.cell v9 0) (.u8 1)).bind fun v10=>some v10) (.b false)).bind fun v11=>(selW v11 true ((idx 6 v2 (.int 1)).bind fun v12=>(binI .eql (AV.cell v12 0) (.u8 7)).bind fun v13=>some v13) (.b false)).bind fun v14=>some v14
section
variable (call:CallT) (run:RunT)
theorem text45:unr (C mx) call run 45 Tryd.f45 400 [.code body45] (initF (C mx) 45 Tryd.f45.ntmps [])=X45 call run  := by
 kernel_rfl
theorem c45 {r:AV} (h:X45 (semCall (C mx) Tryd.prog) (semRun (C mx) Tryd.prog 45 Tryd.f45)  = some r):semCall (C mx) Tryd.prog 45 []=some r :=
 semCall_unr (fn:=Tryd.f45) (c:=body45) (by kernel_rfl) (by kernel_rfl) 400 (by kernel_rfl) ((text45 _ _ ).trans h)
end
end R3K

namespace R3K
open Go Go.Proofs Sx
variable {mx:Int}
noncomputable def body46:Code:=(Tryd.f46.body).getD .skip
noncomputable def X46 (call:CallT) (run:RunT) (a0:List UInt8):Option AV :=
 (call 43 [.s a0]).bind fun v1=>(tupI v1 0).bind fun v2=>(tupI v1 1).bind fun v3=>(tupI v1 2).bind fun v4=>(AV.asAg 2 v2).bind fun v5=>(binI .neq v4 (.int 0)).bind fun v6=>condM v6
 (some (.tu [.nils,v3,v4]))
 ((call 72 [.un,v5.getD 1 .un, .ag [v5.getD 0 .un,v5.getD 1 .un, .ro 6 []]]).bind fun v7=>(tupI v7 0).bind fun v8=>(tupI v7 1).bind fun v9=>(AV.asAg 3 v9).bind fun v10=>(call 73 [.un, .ag [.u8 7, .s [], .b false, .nils, .u8 0, .int 0], .ag [v10.getD 0 .un,v10.getD 1 .un, .ro 6 (AV.elems (v10.getD 2 .un))]]).bind fun v11=>(tupI v11 0).bind fun v12=>(tupI v11 1).bind fun v13=>(AV.asAg 3 v13).bind fun v14=>some (.tu [.ro 6 (AV.elems (v14.getD 2 .un)), .int 0, .int 0]))
section
variable (call:CallT) (run:RunT) (a0:List UInt8)
theorem text46:unr (C mx) call run 46 Tryd.f46 400 [.code body46] (initF (C mx) 46 Tryd.f46.ntmps [.s a0])=X46 call run a0:=by
 kernel_rfl
theorem c46 {r:AV} (h:X46 (semCall (C mx) Tryd.prog) (semRun (C mx) Tryd.prog 46 Tryd.f46) a0=some r):semCall (C mx) Tryd.prog 46 [.s a0]=some r :=
 semCall_unr (fn:=Tryd.f46) (c:=body46) (by kernel_rfl) (by kernel_rfl) 400 (by kernel_rfl) ((text46 _ _ a0).trans h)
end
end R3K

namespace R3K
open Go Go.Proofs Sx R3 R3I
variable {mx:Int}
theorem j41 (l:List UInt8) (c:Ctx) (h:NmS c):semCall (C mx) Tryd.prog 41 [.s l,c.toAV]=some (fragAV l c) :=
 semCall_gv (G:=G41) rfl rfl (by
  show (match ctxOf c.toAV with | some c=>if c.nm.length < 9223372036854775808 then some (fragAV l c) else none | none=>none)=_
  rw [ctxOf_toAV]
  exact if_pos h)
theorem z0:Ctx.toAV ⟨0,0,false,0,0,0,0,false,0,[]⟩=(st1 0).toAV:=rfl
theorem nz:NmS (st1 0):=by show (0:Nat) < _;decide
theorem q0 (a b c d:AV):tupI (.tu [a,b,c,d]) 0=some a:=rfl
theorem q1 (a b c d:AV):tupI (.tu [a,b,c,d]) 1=some b:=rfl
theorem q2 (a b c d:AV):tupI (.tu [a,b,c,d]) 2=some c:=rfl
theorem q3 (a b c d:AV):tupI (.tu [a,b,c,d]) 3=some d:=rfl
theorem p0 (a b c:AV):tupI (.tu [a,b,c]) 0=some a:=rfl
theorem p1 (a b c:AV):tupI (.tu [a,b,c]) 1=some b:=rfl
theorem p2 (a b c:AV):tupI (.tu [a,b,c]) 2=some c:=rfl
theorem asAg2 (a b:AV):AV.asAg 2 (.ag [a,b])=some [a,b]:=rfl
theorem templ (l:List UInt8):(∃ a e:Int,e≠0∧semCall (C mx) Tryd.prog 43 [.s l]=some (.tu [.ag [.nils, .nils], .int a, .int e])) ∨
  ∃ ts,Frag l (st1 0) ts (st1 0)∧semCall (C mx) Tryd.prog 43 [.s l]=some (.tu [.ag [.ro 9 ((arrH 0 ts (st1 0)).map Nd.av), .ro 1 (numsAV (ts.tops 0))], .int 0, .int 0]):=by
 have key:∀ (t1 t2:AV) (d:Ctx) (a e:Int),fragAV l (st1 0)=.tu [.ag [t1,t2],d.toAV, .int a, .int e]→semCall (C mx) Tryd.prog 43 [.s l]=some (if e=0∧d≠st1 0 then .tu [.ag [.nils, .nils], .int (l.length:Int), .int 8] else .tu [.ag [t1,t2], .int a, .int e]):=by
  intro t1 t2 d a e h
  apply c43
  have x1:=(j41 (mx:=mx) l (st1 0) nz).trans (congrArg some h)
  simp only [X43,mk_toAV,z0,x1,Option.bind_some,q0,q1,q2,q3,asAg2,asAg_toAV,ten0,ten1,ten2,ten3,ten4,ten5,ten6,ten7,ten8,ten9,mk_eta,ne_toAV,Sx.int_eql,selW_and,condM_b,List.getD_cons_zero,List.getD_cons_succ]
  by_cases h1:e=0∧d≠st1 0
  ·rw [if_pos h1,if_pos (by simp [h1.1,h1.2])]
  ·rw [if_neg h1,if_neg (by simpa using h1)]
 rcases frag_or l (st1 0) with ⟨a,e,h1,h2⟩ | ⟨ts,d,h⟩
 ·have:=key _ _ _ _ _ h2
  rw [if_neg (fun hh=>h1 hh.1)] at this
  exact .inl ⟨a,e,h1,this⟩
 ·have hk:=key _ _ _ _ _ h.av
  by_cases hd:d=st1 0
  ·subst hd
   rw [if_neg (by simp)] at hk
   exact .inr ⟨ts,h,hk⟩
  ·rw [if_pos ⟨rfl,hd⟩] at hk
   exact .inl ⟨_,_,by decide,hk⟩
theorem templ_ok {l:List UInt8} {ts:Ts} (h:Frag l (st1 0) ts (st1 0)):semCall (C mx) Tryd.prog 43 [.s l]=some (.tu [.ag [.ro 9 ((arrH 0 ts (st1 0)).map Nd.av), .ro 1 (numsAV (ts.tops 0))], .int 0, .int 0]):=by
 apply c43
 have x1:=(j41 (mx:=mx) l (st1 0) nz).trans (congrArg some h.av)
 simp only [X43,mk_toAV,z0,x1,Option.bind_some,q0,q1,q2,q3,asAg2,asAg_toAV,ten0,ten1,ten2,ten3,ten4,ten5,ten6,ten7,ten8,ten9,mk_eta,ne_toAV,Sx.int_eql,selW_and,condM_b,List.getD_cons_zero,List.getD_cons_succ,decide_true,Bool.not_true,Bool.and_false,Bool.false_eq_true,if_false]
theorem frag_flat {l:List UInt8} {c d:Ctx} {ts:Ts} (h:Frag l c ts d):ts.flat.length≤65536∧NmW ts:=by
 have h1:=lx_words h.lx
 have h2:=wordsF_len (l.length+1) l 0 []
 have h3:=wordsF_nm2 (l.length+1) l 0 [] (fun w hw=>by simp at hw)
 unfold wordsW at h1
 rw [h1] at h2 h3
 simp only [List.length_nil] at h2
 have:=h.len
 exact ⟨by omega,h3⟩
def haltI:In:=⟨7,[],false, .nils,0,0⟩
theorem compile_ok {l:List UInt8} {ts:Ts} (h:Frag l (st1 0) ts (st1 0)):semCall (C mx) Tryd.prog 46 [.s l]=some (.tu [.ro 6 ((comp 0 ts (st1 0) ++ [haltI]).map In.av), .int 0, .int 0]):=by
 apply c46
 obtain ⟨g1,g2⟩:=frag_flat h
 have g3:=isz_flat ts
 have g4:=size_isz ts
 have g5:=tops_len ts 0
 have h72:=wok_call (mx:=mx) (T:=.ro 1 (numsAV (ts.tops 0))) (wok ts) (N:=arrH 0 ts (st1 0)) (A:=[]) (B:=[]) (c:=st1 0) (l:=ts.tops 0) (out:=[]) (by simp) rfl (by omega) (by simp;omega) h.ok g2
 have h72:semCall (C mx) Tryd.prog 72 [.un, .ro 1 (numsAV (ts.tops 0)), .ag [.ro 9 ((arrH 0 ts (st1 0)).map Nd.av), .ro 1 (numsAV (ts.tops 0)), .ro 6 []]]=_:=h72
 have h73:semCall (C mx) Tryd.prog 73 [.un, .ag [.u8 7, .s [], .b false, .nils, .u8 0, .int 0], .ag [.ro 9 ((arrH 0 ts (st1 0)).map Nd.av), .ro 1 (numsAV (ts.tops 0)), .ro 6 ((comp 0 ts (st1 0)).map In.av)]]=_:=s73 (mx:=mx) haltI (.ro 9 ((arrH 0 ts (st1 0)).map Nd.av)) (.ro 1 (numsAV (ts.tops 0))) (comp 0 ts (st1 0)) (by rw [comp_len];omega)
 simp only [List.nil_append,List.length_nil] at h72
 simp only [X46,templ_ok h,Option.bind_some,p0,p1,p2,asAg2,Sx.int_neq,bne_self_eq_false,condM_b,Bool.false_eq_true,if_false,List.getD_cons_zero,List.getD_cons_succ,h72,tu0,tu1,asAg3,elems6,h73]
theorem compiled (l:List UInt8):(∃ a e:Int,e≠0∧semCall (C mx) Tryd.prog 46 [.s l]=some (.tu [.nils, .int a, .int e])∧semCall (C mx) Tryd.prog 43 [.s l]=some (.tu [.ag [.nils, .nils], .int a, .int e])) ∨
  ∃ ts,Frag l (st1 0) ts (st1 0)∧semCall (C mx) Tryd.prog 46 [.s l]=some (.tu [.ro 6 ((comp 0 ts (st1 0) ++ [haltI]).map In.av), .int 0, .int 0]):=by
 rcases templ (mx:=mx) l with ⟨a,e,he,h⟩ | ⟨ts,hF,h⟩
 ·refine .inl ⟨a,e,he,?_,h⟩
  apply c46
  simp only [X46,h,Option.bind_some,p0,p1,p2,asAg2,Sx.int_neq,condM_b]
  rw [if_pos (by simpa using he)]
 ·exact .inr ⟨ts,hF,compile_ok hF⟩
end R3K

namespace R3K
open Go Go.Proofs Sx
variable {mx:Int}
section
variable (run:RunT) (a0:List AV) (a1 a2:AV) (a3:Int)
end
section
variable (run:RunT) (a0:List AV) (a1 a2:AV) (a3:Int)
end
section
variable (call:CallT) (run:RunT) (a0:AV)
end
section
variable (call:CallT) (run:RunT) (a0:List AV) (a1 a2:AV) (a3:Int)
end
section
variable (call:CallT) (run:RunT) (a0:List AV) (a1 a2:AV) (a3:Int)
end
section
variable (a0:List AV) (a1 a2:AV) (a3:Int)
end
section
variable (a0:List AV) (a1 a2:AV) (a3:Int)
end
end R3K

namespace R3K
open Go Go.Proofs Sx
variable {mx:Int}
section
variable (run:RunT) (a0 a1 a2 a3:AV) (a4:Int)
end
section
variable (run:RunT) (a0 a1 a2 a3:AV) (a4:Int)
end
section
variable (call:CallT) (run:RunT) (a0:AV)
end
section
variable (call:CallT) (run:RunT) (a0 a1 a2 a3:AV) (a4:Int)
end
section
variable (call:CallT) (run:RunT) (a0 a1 a2 a3:AV) (a4:Int)
end
section
variable (a0 a1 a2 a3:AV) (a4:Int)
end
section
variable (a0 a1 a2 a3:AV) (a4:Int)
end
end R3K

namespace R3K
open Go Go.Proofs Sx R3 R3I
variable {mx:Int}
def opA (e:AV):UInt8:=match e.cell 0 with | .u8 x=>x | _=>0
def hlA (e:AV):UInt8:=match e.cell 4 with | .u8 x=>x | _=>0
def hls (P:List AV):List UInt8:=(P.filter fun e=>opA e == 1).map hlA
theorem xTs:Frag [123,123,120,125,125] (st1 0) (.leaf ⟨1,0,[],false, .ro 1 [.s [120]]⟩ .nil) (st1 0):=⟨rfl,rfl,by decide,words_lx awakeW,⟨⟨by decide,by decide,by decide,by decide⟩,trivial⟩,by decide,by kernel_rfl⟩
theorem s45:semCall (C mx) Tryd.prog 45 []=some (.b true):=by
 apply c45
 have h:=compile_ok (mx:=mx) xTs
 have e:comp 0 (.leaf ⟨1,0,[],false, .ro 1 [.s [120]]⟩ .nil) (st1 0)=[⟨1,[],false, .ro 1 [.s [120]],hole (st1 0),0⟩]:=rfl
 rw [e] at h
 simp only [X45,h,Option.bind_some,p0,p1,p2]
 rfl
end R3K

namespace R3K
open Go Go.Proofs Sx
variable {mx:Int}
noncomputable def body31:Code:=(Tryd.f31.body).getD .skip
section
variable (run:RunT) (a0:Int) (a1:Bool) (a2:AV) (a3:Bool) (a4:AV)
noncomputable def K31_4:List Item:=(kAt 4 body31 []).getD []
def S31_4:St:=St.ofL [(2, .cell (.ptr 2 0)),(3, .cell (.ptr 3 0)),(5, .cell (.val (.int a0)))] [(2,some [.val (.b a1), .val (a2)]),(3,some [.val (.b a3), .val (a4)])]
noncomputable def F31_4:Option AV:=run K31_4 (S31_4 a0 a1 a2 a3 a4)
end
noncomputable def X31 (call:CallT) (run:RunT) (a0:Bool) (a1:AV) (a2:Bool) (a3:AV):Option AV :=
 (selW (.b (a0 != a2)) false ((lenR a1).bind fun v1=>(lenR a3).bind fun v2=>(binI .neq v1 v2).bind fun v3=>some v3) (.b true)).bind fun v4=>condM v4
 (some (.b false))
 (F31_4 run 0 a0 a1 a2 a3)
section
variable (call:CallT) (run:RunT) (a0:Bool) (a1:AV) (a2:Bool) (a3:AV)
theorem text31:unr (C mx) call run 31 Tryd.f31 400 [.code body31] (initF (C mx) 31 Tryd.f31.ntmps [.ag [.b a0,a1], .ag [.b a2,a3]])=X31 call run a0 a1 a2 a3:=by
 kernel_rfl
theorem c31 {r:AV} (h:X31 (semCall (C mx) Tryd.prog) (semRun (C mx) Tryd.prog 31 Tryd.f31) a0 a1 a2 a3=some r):semCall (C mx) Tryd.prog 31 [.ag [.b a0,a1], .ag [.b a2,a3]]=some r :=
 semCall_unr (fn:=Tryd.f31) (c:=body31) (by kernel_rfl) (by kernel_rfl) 400 (by kernel_rfl) ((text31 _ _ a0 a1 a2 a3).trans h)
end
noncomputable def X31_4 (call:CallT) (run:RunT) (a0:Int) (a1:Bool) (a2:AV) (a3:Bool) (a4:AV):Option AV :=
 (lenR a2).bind fun v1=>(binI .lss (.int a0) v1).bind fun v2=>condM v2
 ((idx 1 a2 (.int a0)).bind fun v3=>(idx 1 a4 (.int a0)).bind fun v4=>(binS .neq (AV.cell v3 0) (AV.cell v4 0)).bind fun v5=>condM v5
 (some (.b false))
 (F31_4 run (w64 (a0+1)) a1 a2 a3 a4))
 (some (.b true))
section
variable (call:CallT) (run:RunT) (a0:Int) (a1:Bool) (a2:AV) (a3:Bool) (a4:AV)
theorem text31_4:step (C mx) call 31 Tryd.f31 (unr (C mx) call run 31 Tryd.f31 400) K31_4 (S31_4 a0 a1 a2 a3 a4)=X31_4 call run a0 a1 a2 a3 a4:=by
 kernel_rfl
end
section
variable (a0:Int) (a1:Bool) (a2:AV) (a3:Bool) (a4:AV)
theorem r31_4 {r:AV} (h:X31_4 (semCall (C mx) Tryd.prog) (semRun (C mx) Tryd.prog 31 Tryd.f31) a0 a1 a2 a3 a4=some r):F31_4 (semRun (C mx) Tryd.prog 31 Tryd.f31) a0 a1 a2 a3 a4=some r :=
 semRun_unr 400 ((text31_4 _ _ a0 a1 a2 a3 a4).trans h)
end
end R3K

namespace R3K
open Go Go.Proofs Sx
variable {mx:Int}
noncomputable def body47:Code:=(Tryd.f47.body).getD .skip
section
variable (run:RunT) (a0 a1:AV) (a2:Int)
noncomputable def K47_4:List Item:=(kAt 4 body47 []).getD []
def S47_4:St:=St.ofL [(0, .cell (.val a0)),(1, .cell (.val a1)),(5, .cell (.val (.int a2)))] []
noncomputable def F47_4:Option AV:=run K47_4 (S47_4 a0 a1 a2)
end
noncomputable def X47 (call:CallT) (run:RunT) (a0 a1:AV):Option AV :=
 (lenR a0).bind fun v1=>(lenR a1).bind fun v2=>(binI .neq v1 v2).bind fun v3=>condM v3
 (some (.b false))
 (F47_4 run a0 a1 0)
section
variable (call:CallT) (run:RunT) (a0 a1:AV)
theorem text47:unr (C mx) call run 47 Tryd.f47 400 [.code body47] (initF (C mx) 47 Tryd.f47.ntmps [a0,a1])=X47 call run a0 a1:=by
 kernel_rfl
theorem c47 {r:AV} (h:X47 (semCall (C mx) Tryd.prog) (semRun (C mx) Tryd.prog 47 Tryd.f47) a0 a1=some r):semCall (C mx) Tryd.prog 47 [a0,a1]=some r :=
 semCall_unr (fn:=Tryd.f47) (c:=body47) (by kernel_rfl) (by kernel_rfl) 400 (by kernel_rfl) ((text47 _ _ a0 a1).trans h)
end
noncomputable def X47_4 (call:CallT) (run:RunT) (a0 a1:AV) (a2:Int):Option AV :=
 (lenR a0).bind fun v1=>(binI .lss (.int a2) v1).bind fun v2=>condM v2
 ((idx 6 a0 (.int a2)).bind fun v3=>(idx 6 a1 (.int a2)).bind fun v4=>(binI .neq (AV.cell v3 0) (AV.cell v4 0)).bind fun v5=>(selW v5 false ((idx 6 a0 (.int a2)).bind fun v6=>(idx 6 a1 (.int a2)).bind fun v7=>(binS .neq (AV.cell v6 1) (AV.cell v7 1)).bind fun v8=>some v8) (.b true)).bind fun v9=>(selW v9 false ((idx 6 a0 (.int a2)).bind fun v10=>(idx 6 a1 (.int a2)).bind fun v11=>(binI .neq (AV.cell v10 4) (AV.cell v11 4)).bind fun v12=>some v12) (.b true)).bind fun v13=>(selW v13 false ((idx 6 a0 (.int a2)).bind fun v14=>(idx 6 a1 (.int a2)).bind fun v15=>(binI .neq (AV.cell v14 5) (AV.cell v15 5)).bind fun v16=>some v16) (.b true)).bind fun v17=>(selW v17 false ((idx 6 a0 (.int a2)).bind fun v18=>(idx 6 a1 (.int a2)).bind fun v19=>(call 31 [.ag [AV.cell v18 2,AV.cell v18 3], .ag [AV.cell v19 2,AV.cell v19 3]]).bind fun v20=>(unop .not v20).bind fun v21=>some v21) (.b true)).bind fun v22=>condM v22
 (some (.b false))
 (F47_4 run a0 a1 (w64 (a2+1))))
 (some (.b true))
section
variable (call:CallT) (run:RunT) (a0 a1:AV) (a2:Int)
theorem text47_4:step (C mx) call 47 Tryd.f47 (unr (C mx) call run 47 Tryd.f47 400) K47_4 (S47_4 a0 a1 a2)=X47_4 call run a0 a1 a2:=by
 kernel_rfl
end
section
variable (a0 a1:AV) (a2:Int)
theorem r47_4 {r:AV} (h:X47_4 (semCall (C mx) Tryd.prog) (semRun (C mx) Tryd.prog 47 Tryd.f47) a0 a1 a2=some r):F47_4 (semRun (C mx) Tryd.prog 47 Tryd.f47) a0 a1 a2=some r :=
 semRun_unr 400 ((text47_4 _ _ a0 a1 a2).trans h)
end
end R3K

namespace R3K
open Go Go.Proofs Sx R3 R3I
variable {mx:Int}
theorem isz_up (k:Nat):∀ t:Ts,isz (t.up k)=isz t
 | .nil=>rfl
 | .leaf w t=>by simp only [Ts.up,isz,isz_up k t]
 | .blk w b e t=>by simp only [Ts.up,isz,isz_up k t,isz_up k b];rfl
 | .alt w b l x e t=>by simp only [Ts.up,isz,isz_up k t,isz_up k b,isz_up k x]
theorem comp_up (k:Nat):∀ (t:Ts) (n:Nat) (c:Ctx),comp n (t.up k) c=comp n t c
 | .nil,n,c=>rfl
 | .leaf w t,n,c=>by
  simp only [Ts.up,comp,leafGo_up,get_up,comp_up k t]
  rfl
 | .blk w b e t,n,c=>by simp only [Ts.up,comp,comp_up k t,comp_up k b,isz_up];rfl
 | .alt w b l x e t,n,c=>by simp only [Ts.up,comp,comp_up k t,comp_up k b,comp_up k x,isz_up,go_up,get_up];rfl
def In.up1 (i:In):In:=if i.op == 2 || i.op == 3 || i.op == 4 || i.op == 5 then { i with to':=i.to'+1 } else i
theorem leaf_up1 (w:Wd) (c:Ctx):(leafIn w c).up1=leafIn w c:=by
 unfold leafIn
 split
 ·rfl
 ·split <;> rfl
theorem comp_up1:∀ (t:Ts) (n:Nat) (c:Ctx),comp (n+1) t c=(comp n t c).map In.up1
 | .nil,n,c=>rfl
 | .leaf w t,n,c=>by simp only [comp,comp_up1 t (n+1),List.map_cons,leaf_up1]
 | .blk w b e t,n,c=>by
  simp only [comp]
  split
  ·simp only [List.map_cons,List.map_append]
   rw [show n+1+1+isz b=(n+1+isz b)+1 by omega,comp_up1 b (n+1),comp_up1 t (n+1+isz b)]
   rfl
  ·simp only [List.map_cons,List.map_append]
   rw [show n+1+2+isz b=(n+2+isz b)+1 by omega,comp_up1 b (n+1),comp_up1 t (n+2+isz b)]
   rfl
 | .alt w b l x e t,n,c=>by
  simp only [comp,List.map_cons,List.map_append]
  rw [show n+1+2+isz b+isz x=(n+2+isz b+isz x)+1 by omega,show n+1+2+isz b=(n+2+isz b)+1 by omega,comp_up1 b (n+1),comp_up1 x (n+2+isz b),comp_up1 t (n+2+isz b+isz x)]
  rfl
def NmI (v:AV):Prop:=v=.nils∨∃ l:List (List UInt8),v=.ro 1 (l.map .s)∧l.length≤200000
theorem l31 (r:Bool) (l:List (List UInt8)) (hl:l.length≤200000):∀ (m i:Nat),l.length=i+m→F31_4 (semRun (C mx) Tryd.prog 31 Tryd.f31) (i:Int) r (.ro 1 (l.map .s)) r (.ro 1 (l.map .s))=some (.b true)
 | 0,i,hi=>by
  apply r31_4
  have e:decide ((i:Int) < ((l.map AV.s).length:Int))=false:=by rw [decide_eq_false_iff_not,List.length_map];omega
  simp only [X31_4,lenR_ro,Sx.int_lss,e,Option.bind_some,condM_b,Bool.false_eq_true,if_false]
 | m+1,i,hi=>by
  apply r31_4
  have hlt:i < (l.map AV.s).length:=by rw [List.length_map];omega
  have e:decide ((i:Int) < ((l.map AV.s).length:Int))=true:=by rw [decide_eq_true_eq];omega
  have e3:w64 ((i:Int)+1)=((i+1:Nat):Int):=by rw [w64_eq (by omega) (by omega)];omega
  have hx:idx 1 (.ro 1 (l.map AV.s)) (.int (i:Int))=some (l.map AV.s)[i]:=idx_get 1 hlt
  have hn:binS .neq ((l.map AV.s)[i].cell 0) ((l.map AV.s)[i].cell 0)=some (.b false):=by
   rw [List.getElem_map]
   show binS .neq (.s _) (.s _)=_
   rw [s_neq];simp
  simp only [X31_4,lenR_ro,Sx.int_lss,e,Option.bind_some,condM_b,if_true,hx,hn,Bool.false_eq_true,if_false,e3]
  exact l31 r l hl m (i+1) (by omega)
theorem s31 (r:Bool) {v:AV} (h:NmI v):semCall (C mx) Tryd.prog 31 [.ag [.b r,v], .ag [.b r,v]]=some (.b true):=by
 apply c31
 rcases h with rfl | ⟨l,rfl,hl⟩
 ·simp only [X31,lenR_nils,Option.bind_some,Sx.int_neq,bne_self_eq_false,selW_or,Bool.or_self,condM_b,Bool.false_eq_true,if_false]
  apply r31_4
  rfl
 ·simp only [X31,lenR_ro,Option.bind_some,Sx.int_neq,bne_self_eq_false,selW_or,Bool.or_self,condM_b,Bool.false_eq_true,if_false]
  exact l31 r l hl l.length 0 (by omega)
theorem l47 (L:List In) (hL:∀ i ∈ L,NmI i.names) (hl:L.length≤2000000):∀ (m i:Nat),L.length=i+m→F47_4 (semRun (C mx) Tryd.prog 47 Tryd.f47) (.ro 6 (L.map In.av)) (.ro 6 (L.map In.av)) (i:Int)=some (.b true)
 | 0,i,hi=>by
  apply r47_4
  have e:decide ((i:Int) < ((L.map In.av).length:Int))=false:=by rw [decide_eq_false_iff_not,List.length_map];omega
  simp only [X47_4,lenR_ro,Sx.int_lss,e,Option.bind_some,condM_b,Bool.false_eq_true,if_false]
 | m+1,i,hi=>by
  apply r47_4
  have hlt:i < (L.map In.av).length:=by rw [List.length_map];omega
  have hlt':i < L.length:=by omega
  have e:decide ((i:Int) < ((L.map In.av).length:Int))=true:=by rw [decide_eq_true_eq];omega
  have e3:w64 ((i:Int)+1)=((i+1:Nat):Int):=by rw [w64_eq (by omega) (by omega)];omega
  have hx:idx 6 (.ro 6 (L.map In.av)) (.int (i:Int))=some (L[i]).av:=by rw [idx_get 6 hlt];simp
  have d0 (x:In):x.av.cell 0=.u8 x.op:=rfl
  have d1 (x:In):x.av.cell 1=.s x.text:=rfl
  have d2 (x:In):x.av.cell 2=.b x.root:=rfl
  have d3 (x:In):x.av.cell 3=x.names:=rfl
  have d4 (x:In):x.av.cell 4=.u8 x.hole:=rfl
  have d5 (x:In):x.av.cell 5=.int (x.to':Int):=rfl
  have hw:=s31 (mx:=mx) (L[i]).root (hL _ (List.getElem_mem hlt'))
  have hun:unop .not (.b true)=some (.b false):=rfl
  simp only [X47_4,lenR_ro,Sx.int_lss,e,Option.bind_some,condM_b,if_true,hx,d0,d1,d2,d3,d4,d5,u8_neq,s_neq,Sx.int_neq,bne_self_eq_false,selW_or,Bool.or_self,hw,hun,Bool.false_eq_true,if_false,e3]
  exact l47 L hL hl m (i+1) (by omega)
theorem s47 (L:List In) (hL:∀ i ∈ L,NmI i.names) (hl:L.length≤2000000):semCall (C mx) Tryd.prog 47 [.ro 6 (L.map In.av), .ro 6 (L.map In.av)]=some (.b true):=by
 apply c47
 simp only [X47,lenR_ro,Option.bind_some,Sx.int_neq,bne_self_eq_false,condM_b,Bool.false_eq_true,if_false]
 exact l47 L hL hl L.length 0 (by omega)
theorem cp_nmi {v:AV} (h:NmOk2 v):NmI (cpN v):=by
 rcases h with rfl | ⟨x,l,rfl,hl⟩
 ·exact .inr ⟨[],rfl,by decide⟩
 ·exact .inr ⟨x :: l,rfl,by simp only [List.length_cons];omega⟩
theorem comp_nm:∀ (t:Ts) (n:Nat) (c:Ctx),NmW t→∀ i ∈ comp n t c,NmI i.names
 | .nil,n,c,h,i,hi=>by cases hi
 | .leaf w k,n,c,h,i,hi=>by
  rcases List.mem_cons.1 hi with rfl | hi
  ·unfold leafIn
   split
   ·exact .inl rfl
   ·split
    ·exact cp_nmi (h w (by simp [Ts.flat]))
    ·exact .inl rfl
  ·exact comp_nm k _ _ (fun x hx=>h x (by simp [Ts.flat,hx])) i hi
 | .blk w b e k,n,c,h,i,hi=>by
  have hb:=fun n=>comp_nm b n c (fun x hx=>h x (by simp [Ts.flat,hx]))
  have hk:=fun n=>comp_nm k n c (fun x hx=>h x (by simp [Ts.flat,hx]))
  have hw:=cp_nmi (h w (by simp [Ts.flat]))
  simp only [comp] at hi
  split at hi
  ·rcases List.mem_cons.1 hi with rfl | hi
   ·exact hw
   ·rcases List.mem_append.1 hi with hi | hi
    ·exact hb _ i hi
    ·exact hk _ i hi
  ·rcases List.mem_cons.1 hi with rfl | hi
   ·exact hw
   ·rcases List.mem_append.1 hi with hi | hi
    ·exact hb _ i hi
    ·rcases List.mem_cons.1 hi with rfl | hi
     ·exact .inl rfl
     ·exact hk _ i hi
 | .alt w b l x e k,n,c,h,i,hi=>by
  have hb:=fun n=>comp_nm b n c (fun x hx=>h x (by simp [Ts.flat,hx]))
  have hx:=fun n=>comp_nm x n c (fun y hy=>h y (by simp [Ts.flat,hy]))
  have hk:=fun n d=>comp_nm k n d (fun x hx=>h x (by simp [Ts.flat,hx]))
  have hw:=cp_nmi (h w (by simp [Ts.flat]))
  simp only [comp] at hi
  rcases List.mem_cons.1 hi with rfl | hi
  ·exact hw
  ·rcases List.mem_append.1 hi with hi | hi
   ·exact hb _ i hi
   ·rcases List.mem_cons.1 hi with rfl | hi
    ·exact .inl rfl
    ·rcases List.mem_append.1 hi with hi | hi
     ·exact hx _ i hi
     ·exact hk _ _ i hi
end R3K

namespace R3K
open Go Go.Proofs Sx
variable {mx:Int}
section
variable (call:CallT) (run:RunT) (a0:List UInt8)
end
end R3K

namespace R3K
open Go Go.Proofs Sx
variable {mx:Int}
noncomputable def body17:Code:=(Tryd.f17.body).getD .skip
section
variable (run:RunT) (a0 a1 a2:AV) (a3:List AV) (a4:Int)
noncomputable def K17_9:List Item:=(kAt 9 body17 []).getD []
def S17_9:St:=St.ofL [(3, .cell (.val a0)),(6, .cell (.val a1)),(8, .cell (.val a2)),(9, .cell (.own 300009 86 6 a3)),(10, .cell (.val (.int a4)))] []
noncomputable def F17_9:Option AV:=run K17_9 (S17_9 a0 a1 a2 a3 a4)
end
section
variable (run:RunT) (a0 a1 a2:AV) (a3:List AV) (a4:Int) (a5 a6 a7 a8 a9 a10:AV)
noncomputable def K17_17:List Item:=(kAt 17 body17 []).getD []
def S17_17:St:=St.ofL [(3, .cell (.val a0)),(6, .cell (.val a1)),(8, .cell (.val a2)),(9, .cell (.own 300009 86 6 a3)),(10, .cell (.val (.int a4))),(11, .cell (.ptr 11 0))] [(11,some [.val a5, .val a6, .val a7, .val a8, .val a9, .val (a10)])]
noncomputable def F17_17:Option AV:=run K17_17 (S17_17 a0 a1 a2 a3 a4 a5 a6 a7 a8 a9 a10)
end
section
variable (run:RunT) (a0 a1 a2:AV) (a3:List AV) (a4:Int) (a5 a6 a7 a8 a9 a10:AV)
noncomputable def K17_18:List Item:=(kAt 18 body17 []).getD []
def S17_18:St:=St.ofL [(3, .cell (.val a0)),(6, .cell (.val a1)),(8, .cell (.val a2)),(9, .cell (.own 300009 86 6 a3)),(10, .cell (.val (.int a4))),(11, .cell (.ptr 11 0))] [(11,some [.val a5, .val a6, .val a7, .val a8, .val a9, .val (a10)])]
noncomputable def F17_18:Option AV:=run K17_18 (S17_18 a0 a1 a2 a3 a4 a5 a6 a7 a8 a9 a10)
end
noncomputable def X17 (call:CallT) (run:RunT) (a0:List UInt8):Option AV :=
 (call 45 []).bind fun v1=>(unop .not v1).bind fun v2=>condM v2
 (some (.b false))
 ((call 46 [.s a0]).bind fun v3=>(tupI v3 0).bind fun v4=>(tupI v3 1).bind fun v5=>(tupI v3 2).bind fun v6=>(binI .neq v6 (.int 0)).bind fun v7=>(selW v7 false (some (.b (decide ((a0.length:Int) > 60000)))) (.b true)).bind fun v8=>condM v8
 (some (.b true))
 ((binS .add (.s [123,123,102,108,117,115,104,125,125]) (.s a0)).bind fun v9=>(call 46 [v9]).bind fun v10=>(tupI v10 0).bind fun v11=>(tupI v10 1).bind fun v12=>(tupI v10 2).bind fun v13=>F17_9 run v4 v11 v13 (([.ag [.u8 6, .s [], .b false, .nils, .u8 0, .int 0]]:List AV)) 0))
section
variable (call:CallT) (run:RunT) (a0:List UInt8)
theorem text17:unr (C mx) call run 17 Tryd.f17 400 [.code body17] (initF (C mx) 17 Tryd.f17.ntmps [.s a0])=X17 call run a0:=by
 kernel_rfl
theorem c17 {r:AV} (h:X17 (semCall (C mx) Tryd.prog) (semRun (C mx) Tryd.prog 17 Tryd.f17) a0=some r):semCall (C mx) Tryd.prog 17 [.s a0]=some r :=
 semCall_unr (fn:=Tryd.f17) (c:=body17) (by kernel_rfl) (by kernel_rfl) 400 (by kernel_rfl) ((text17 _ _ a0).trans h)
end
noncomputable def X17_9 (call:CallT) (run:RunT) (a0 a1 a2:AV) (a3:List AV) (a4:Int):Option AV :=
 (lenR a0).bind fun v1=>(binI .lss (.int a4) v1).bind fun v2=>condM v2
 ((idx 6 a0 (.int a4)).bind fun v3=>(binI .eql (AV.cell v3 0) (.u8 2)).bind fun v4=>condM v4
 (F17_17 run a0 a1 a2 a3 a4 (AV.cell v3 0) (AV.cell v3 1) (AV.cell v3 2) (AV.cell v3 3) (AV.cell v3 4) (AV.cell v3 5))
 ((binI .eql (AV.cell v3 0) (.u8 3)).bind fun v5=>condM v5
 (F17_17 run a0 a1 a2 a3 a4 (AV.cell v3 0) (AV.cell v3 1) (AV.cell v3 2) (AV.cell v3 3) (AV.cell v3 4) (AV.cell v3 5))
 ((binI .eql (AV.cell v3 0) (.u8 4)).bind fun v6=>condM v6
 (F17_17 run a0 a1 a2 a3 a4 (AV.cell v3 0) (AV.cell v3 1) (AV.cell v3 2) (AV.cell v3 3) (AV.cell v3 4) (AV.cell v3 5))
 ((binI .eql (AV.cell v3 0) (.u8 5)).bind fun v7=>condM v7
 (F17_17 run a0 a1 a2 a3 a4 (AV.cell v3 0) (AV.cell v3 1) (AV.cell v3 2) (AV.cell v3 3) (AV.cell v3 4) (AV.cell v3 5))
 (F17_18 run a0 a1 a2 a3 a4 (AV.cell v3 0) (AV.cell v3 1) (AV.cell v3 2) (AV.cell v3 3) (AV.cell v3 4) (AV.cell v3 5))))))
 ((binI .eql a2 (.int 0)).bind fun v8=>(selW v8 true ((call 47 [a1, .ro 6 a3]).bind fun v9=>some v9) (.b false)).bind fun v10=>some v10)
section
variable (call:CallT) (run:RunT) (a0 a1 a2:AV) (a3:List AV) (a4:Int)
theorem text17_9:step (C mx) call 17 Tryd.f17 (unr (C mx) call run 17 Tryd.f17 400) K17_9 (S17_9 a0 a1 a2 a3 a4)=X17_9 call run a0 a1 a2 a3 a4:=by
 kernel_rfl
end
noncomputable def X17_17 (call:CallT) (run:RunT) (a0 a1 a2:AV) (a3:List AV) (a4:Int) (a5 a6 a7 a8 a9 a10:AV):Option AV :=
 (binI .add a10 (.int 1)).bind fun v1=>(AV.one v1).bind fun v2=>F17_18 run a0 a1 a2 a3 a4 a5 a6 a7 a8 a9 v2
section
variable (call:CallT) (run:RunT) (a0 a1 a2:AV) (a3:List AV) (a4:Int) (a5 a6 a7 a8 a9 a10:AV)
theorem text17_17:step (C mx) call 17 Tryd.f17 (unr (C mx) call run 17 Tryd.f17 400) K17_17 (S17_17 a0 a1 a2 a3 a4 a5 a6 a7 a8 a9 a10)=X17_17 call run a0 a1 a2 a3 a4 a5 a6 a7 a8 a9 a10:=by
 kernel_rfl
end
noncomputable def X17_18 (call:CallT) (run:RunT) (a0 a1 a2:AV) (a3:List AV) (a4:Int) (a5 a6 a7 a8 a9 a10:AV):Option AV :=
 (app 72 6 a3 (.ro 6 (([.ag [a5,a6,a7,a8,a9,a10]]:List AV)))).bind fun v1=>F17_9 run a0 a1 a2 v1 (w64 (a4+1))
section
variable (call:CallT) (run:RunT) (a0 a1 a2:AV) (a3:List AV) (a4:Int) (a5 a6 a7 a8 a9 a10:AV)
theorem text17_18:step (C mx) call 17 Tryd.f17 (unr (C mx) call run 17 Tryd.f17 400) K17_18 (S17_18 a0 a1 a2 a3 a4 a5 a6 a7 a8 a9 a10)=X17_18 call run a0 a1 a2 a3 a4 a5 a6 a7 a8 a9 a10:=by
 kernel_rfl
end
section
variable (a0 a1 a2:AV) (a3:List AV) (a4:Int)
theorem r17_9 {r:AV} (h:X17_9 (semCall (C mx) Tryd.prog) (semRun (C mx) Tryd.prog 17 Tryd.f17) a0 a1 a2 a3 a4=some r):F17_9 (semRun (C mx) Tryd.prog 17 Tryd.f17) a0 a1 a2 a3 a4=some r :=
 semRun_unr 400 ((text17_9 _ _ a0 a1 a2 a3 a4).trans h)
end
section
variable (a0 a1 a2:AV) (a3:List AV) (a4:Int) (a5 a6 a7 a8 a9 a10:AV)
theorem r17_17 {r:AV} (h:X17_17 (semCall (C mx) Tryd.prog) (semRun (C mx) Tryd.prog 17 Tryd.f17) a0 a1 a2 a3 a4 a5 a6 a7 a8 a9 a10=some r):F17_17 (semRun (C mx) Tryd.prog 17 Tryd.f17) a0 a1 a2 a3 a4 a5 a6 a7 a8 a9 a10=some r :=
 semRun_unr 400 ((text17_17 _ _ a0 a1 a2 a3 a4 a5 a6 a7 a8 a9 a10).trans h)
end
section
variable (a0 a1 a2:AV) (a3:List AV) (a4:Int) (a5 a6 a7 a8 a9 a10:AV)
theorem r17_18 {r:AV} (h:X17_18 (semCall (C mx) Tryd.prog) (semRun (C mx) Tryd.prog 17 Tryd.f17) a0 a1 a2 a3 a4 a5 a6 a7 a8 a9 a10=some r):F17_18 (semRun (C mx) Tryd.prog 17 Tryd.f17) a0 a1 a2 a3 a4 a5 a6 a7 a8 a9 a10=some r :=
 semRun_unr 400 ((text17_18 _ _ a0 a1 a2 a3 a4 a5 a6 a7 a8 a9 a10).trans h)
end
end R3K

namespace R3K
open Go Go.Proofs Sx R3 R3I
variable {mx:Int}
def tFlush:List UInt8:=[102,108,117,115,104]
theorem aFlush:actW tFlush=⟨6,false, .nils,true⟩:=by kernel_rfl
def flushI:In:=⟨6,[],false, .nils,0,0⟩
theorem flush_kind (a:Nat):(actWd a ⟨6,false, .nils,true⟩).kind≠2∧(actWd a ⟨6,false, .nils,true⟩).kind≠3∧(actWd a ⟨6,false, .nils,true⟩).kind≠4∧(actWd a ⟨6,false, .nils,true⟩).kind≠5:=by
 show (6:UInt8)≠2∧(6:UInt8)≠3∧(6:UInt8)≠4∧(6:UInt8)≠5
 decide
theorem flush_go (a:Nat) (c:Ctx) (k:Ts):tsGo (.leaf (actWd a ⟨6,false, .nils,true⟩) k) c=tsGo k c:=rfl
theorem frag_ahead {s:List UInt8} {c d:Ctx} {ts:Ts} (h:Frag s c ts d) (hl:s.length≤60000):Frag (actS tFlush ++ s) c (.leaf (actWd 0 ⟨6,false, .nils,true⟩) (ts.up 9)) d:=by
 have h1:=lx_act (t:=tFlush) (a:=0) (by decide) (by rw [aFlush]) (h.lx.up 9)
 rw [aFlush] at h1
 refine ⟨h.hf,h.hst,?_,?_,⟨flush_kind _,Ts.up_ok _ _ h.ok⟩,?_,?_⟩
 ·rw [List.length_append,actS_len];show 5+4+s.length≤65536;omega
 ·show Lx 0 _ (_ :: (ts.up 9).flat)
  rw [Ts.up_flat];exact h1
 ·show (ts.up 9).depth≤16
  rw [Ts.up_depth];exact h.depth
 ·rw [flush_go,go_up,h.go];rfl
theorem frag_sizes' {l:List UInt8} {c d:Ctx} {ts:Ts} (h:Frag l c ts d):isz ts≤65536:=by
 have:=(frag_flat h).1
 have:=isz_flat ts
 omega
def isJ (o:UInt8):Bool:=o == 2 || o == 3 || o == 4 || o == 5
theorem l17 (L:List In) (q:AV) (hL:∀ i ∈ L,i.to'≤1000000) (hl:L.length≤100000) (h47:semCall (C mx) Tryd.prog 47 [q, .ro 6 ((flushI :: L.map In.up1).map In.av)]=some (.b true)):∀ (m i:Nat),L.length=i+m →
  F17_9 (semRun (C mx) Tryd.prog 17 Tryd.f17) (.ro 6 (L.map In.av)) q (.int 0) ((flushI :: (L.take i).map In.up1).map In.av) (i:Int)=some (.b true)
 | 0,i,hi=>by
  apply r17_9
  have e:decide ((i:Int) < ((L.map In.av).length:Int))=false:=by rw [decide_eq_false_iff_not,List.length_map];omega
  rw [List.take_of_length_le (by omega)]
  simp only [X17_9,lenR_ro,Sx.int_lss,e,Option.bind_some,condM_b,Bool.false_eq_true,if_false,Sx.int_eql,beq_self_eq_true,h47,selW_and,Bool.and_self]
 | m+1,i,hi=>by
  apply r17_9
  have hlt:i < (L.map In.av).length:=by rw [List.length_map];omega
  have hlt':i < L.length:=by omega
  have e:decide ((i:Int) < ((L.map In.av).length:Int))=true:=by rw [decide_eq_true_eq];omega
  have e3:w64 ((i:Int)+1)=((i+1:Nat):Int):=by rw [w64_eq (by omega) (by omega)];omega
  have hx:idx 6 (.ro 6 (L.map In.av)) (.int (i:Int))=some (L[i]).av:=by rw [idx_get 6 hlt];simp
  have ht:=hL _ (List.getElem_mem hlt')
  have hstep:∀ x:In,x=L[i].up1→F17_18 (semRun (C mx) Tryd.prog 17 Tryd.f17) (.ro 6 (L.map In.av)) q (.int 0) ((flushI :: (L.take i).map In.up1).map In.av) (i:Int) (.u8 x.op) (.s x.text) (.b x.root) x.names (.u8 x.hole) (.int (x.to':Int))=some (.b true):=by
   intro x hx'
   apply r17_18
   have ha:app 72 6 ((flushI :: (L.take i).map In.up1).map In.av) (.ro 6 [.ag [.u8 x.op, .s x.text, .b x.root,x.names, .u8 x.hole, .int (x.to':Int)]])=some ((flushI :: (L.take (i+1)).map In.up1).map In.av):=by
    rw [app6 (by simp only [List.length_map,List.length_cons,List.length_take];omega),List.take_add_one,List.getElem?_eq_getElem hlt']
    subst hx'
    simp only [Option.toList_some,List.map_append,List.map_cons,List.map_nil,List.cons_append]
    rfl
   simp only [X17_18,ha,Option.bind_some,e3]
   exact l17 L q hL hl h47 m (i+1) (by omega)
  have d0 (x:In):x.av.cell 0=.u8 x.op:=rfl
  have d1 (x:In):x.av.cell 1=.s x.text:=rfl
  have d2 (x:In):x.av.cell 2=.b x.root:=rfl
  have d3 (x:In):x.av.cell 3=x.names:=rfl
  have d4 (x:In):x.av.cell 4=.u8 x.hole:=rfl
  have d5 (x:In):x.av.cell 5=.int (x.to':Int):=rfl
  generalize L[i]=x at hx hstep ht
  have hj:isJ x.op=true→F17_17 (semRun (C mx) Tryd.prog 17 Tryd.f17) (.ro 6 (L.map In.av)) q (.int 0) ((flushI :: (L.take i).map In.up1).map In.av) (i:Int) (.u8 x.op) (.s x.text) (.b x.root) x.names (.u8 x.hole) (.int (x.to':Int))=some (.b true):=by
   intro hj
   apply r17_17
   have hp:binI .add (.int (x.to':Int)) (.int 1)=some (.int ((x.to'+1:Nat):Int)):=by rw [int_add (by omega) (by omega)];rfl
   have one_i (n:Int):AV.one (.int n)=some (.int n):=rfl
   simp only [X17_17,hp,Option.bind_some,one_i]
   exact hstep { x with to':=x.to'+1 } (by unfold In.up1;exact (if_pos hj).symm)
  simp only [X17_9,lenR_ro,Sx.int_lss,e,Option.bind_some,condM_b,if_true,hx,d0,d1,d2,d3,d4,d5,u8_eql]
  cases k2:(x.op == 2) with
  | true=>simp only [if_true];exact hj (by unfold isJ;rw [k2];rfl)
  | false =>
   simp only [Bool.false_eq_true,if_false]
   cases k3:(x.op == 3) with
   | true=>simp only [if_true];exact hj (by unfold isJ;rw [k2,k3];rfl)
   | false =>
    simp only [Bool.false_eq_true,if_false]
    cases k4:(x.op == 4) with
    | true=>simp only [if_true];exact hj (by unfold isJ;rw [k2,k3,k4];rfl)
    | false =>
     simp only [Bool.false_eq_true,if_false]
     cases k5:(x.op == 5) with
     | true=>simp only [if_true];exact hj (by unfold isJ;rw [k2,k3,k4,k5];rfl)
     | false =>
      simp only [Bool.false_eq_true,if_false]
      exact hstep x (by unfold In.up1;rw [k2,k3,k4,k5];rfl)
theorem comp_to:∀ (t:Ts) (n:Nat) (c:Ctx),∀ i ∈ comp n t c,i.to'≤n+isz t
 | .nil,n,c,i,hi=>by cases hi
 | .leaf w k,n,c,i,hi=>by
  simp only [isz]
  rcases List.mem_cons.1 hi with rfl | hi
  ·unfold leafIn;split
   ·exact Nat.zero_le _
   ·split <;> exact Nat.zero_le _
  ·have:=comp_to k _ _ i hi;omega
 | .blk w b e k,n,c,i,hi=>by
  have hb:=fun n=>comp_to b n c i
  have hk:=fun n=>comp_to k n c i
  simp only [comp] at hi
  simp only [isz]
  split at hi
  ·rename_i e2
   rw [if_pos e2]
   rcases List.mem_cons.1 hi with rfl | hi
   ·show n+1+isz b≤_;omega
   ·rcases List.mem_append.1 hi with hi | hi
    ·have:=hb _ hi;omega
    ·have:=hk _ hi;omega
  ·rename_i e2
   rw [if_neg e2]
   rcases List.mem_cons.1 hi with rfl | hi
   ·show n+2+isz b≤_;omega
   ·rcases List.mem_append.1 hi with hi | hi
    ·have:=hb _ hi;omega
    ·rcases List.mem_cons.1 hi with rfl | hi
     ·show n+1≤_;omega
     ·have:=hk _ hi;omega
 | .alt w b l x e k,n,c,i,hi=>by
  have hb:=fun n=>comp_to b n c i
  have hx:=fun n=>comp_to x n c i
  have hk:=fun n d=>comp_to k n d i
  simp only [comp] at hi
  simp only [isz]
  rcases List.mem_cons.1 hi with rfl | hi
  ·show n+2+isz b≤_;omega
  ·rcases List.mem_append.1 hi with hi | hi
   ·have:=hb _ hi;omega
   ·rcases List.mem_cons.1 hi with rfl | hi
    ·show n+2+isz b+isz x≤_;omega
    ·rcases List.mem_append.1 hi with hi | hi
     ·have:=hx _ hi;omega
     ·have:=hk _ _ hi;omega
theorem law17 (s:List UInt8):semCall (C mx) Tryd.prog 17 [.s s]=some (.b true):=by
 apply c17
 have hun:unop .not (.b true)=some (.b false):=rfl
 rcases compiled (mx:=mx) s with ⟨a,e,he,h1,h2⟩ | ⟨ts,hF,h1⟩
 ·simp only [X17,s45 (mx:=mx),Option.bind_some,hun,condM_b,Bool.false_eq_true,if_false,h1,p0,p1,p2,Sx.int_neq,selW_or]
  rw [if_pos (by simp [he])]
 ·simp only [X17,s45 (mx:=mx),Option.bind_some,hun,condM_b,Bool.false_eq_true,if_false,h1,p0,p1,p2,Sx.int_neq,selW_or,bne_self_eq_false,Bool.false_or]
  by_cases hl:s.length > 60000
  ·rw [if_pos (by rw [decide_eq_true_eq];omega)]
  ·rw [if_neg (by rw [decide_eq_true_eq];omega)]
   have hl':s.length≤60000:=by omega
   have hadd:binS .add (.s [123,123,102,108,117,115,104,125,125]) (.s s)=some (.s (actS tFlush ++ s)):=s_add' (by simp only [List.length_cons,List.length_nil];omega)
   have hq:=compile_ok (mx:=mx) (frag_ahead hF hl')
   have hcomp:comp 0 (.leaf (actWd 0 ⟨6,false, .nils,true⟩) (ts.up 9)) (st1 0) ++ [haltI]=flushI :: (comp 0 ts (st1 0) ++ [haltI]).map In.up1:=by
    have e1:comp 0 (.leaf (actWd 0 ⟨6,false, .nils,true⟩) (ts.up 9)) (st1 0)=flushI :: comp (0+1) (ts.up 9) (st1 0):=rfl
    rw [e1,comp_up,comp_up1,List.map_append];rfl
   rw [hcomp] at hq
   have hsz:=frag_sizes' hF
   have hnm:=(frag_flat hF).2
   have h47:=s47 (mx:=mx) (flushI :: (comp 0 ts (st1 0) ++ [haltI]).map In.up1) (fun i hi=>by
    rcases List.mem_cons.1 hi with rfl | hi
    ·exact .inl rfl
    ·obtain ⟨x,hx,rfl⟩:=List.mem_map.1 hi
     have:x.up1.names=x.names:=by unfold In.up1;split <;> rfl
     rw [this]
     rcases List.mem_append.1 hx with hx | hx
     ·exact comp_nm _ _ _ hnm x hx
     ·obtain rfl:=List.mem_singleton.1 hx;exact .inl rfl) (by simp only [List.length_cons,List.length_map,List.length_append,comp_len,List.length_nil];omega)
   simp only [hadd,hq,Option.bind_some,p0,p1,p2]
   refine l17 (comp 0 ts (st1 0) ++ [haltI]) _ (fun i hi=>?_) (by simp only [List.length_append,comp_len,List.length_cons,List.length_nil];omega) h47 (comp 0 ts (st1 0) ++ [haltI]).length 0 (by omega)
   rcases List.mem_append.1 hi with hi | hi
   ·have:=comp_to _ _ _ i hi;omega
   ·obtain rfl:=List.mem_singleton.1 hi;exact Nat.zero_le _
end R3K
