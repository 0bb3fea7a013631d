/-
  A part of CodeAgrees's proof: an evaluator of translated functions over plain data, what functions of this seat come to, and laws on plain data.
-/
import Derived.Test.YtgjfbalafdifgaaDoorTF
import Derived.Test.YtgjfbalafdifgaaDoorProg
set_option linter.unusedVariables false
set_option linter.unusedSimpArgs false
set_option linter.unusedSectionVars false
set_option linter.unnecessarySimpa false
namespace R3K
open Go Go.Proofs Sx R3 R3I
variable {mx:Int}
def NmW (ts:Ts):Prop:=∀ w ∈ ts.flat,NmOk2 w.names
theorem leaf3 {w:Wd} (h:w.kind≠2∧w.kind≠3∧w.kind≠4∧w.kind≠5):ndKind w.kind=0∨ndKind w.kind=1∨ndKind w.kind=4:=by
 unfold ndKind
 repeat' split
 all_goals first
  | exact .inl rfl
  | exact .inr (.inl rfl)
  | exact .inr (.inr rfl)
  | (rename_i e;exact absurd (by simpa using e) h.1)
  | (rename_i e;exact absurd (by simpa using e) h.2.2.1)
theorem c26 {oa la N T:AV} {j:Nat} {out:List AV} {r:AV} (hj:j≤1000000) (h:F72_1 (semRun (C mx) Tryd.prog 72 Tryd.f72) oa la ((j+1:Nat):Int) N T out=some r):F72_26 (semRun (C mx) Tryd.prog 72 Tryd.f72) oa la (j:Int) N T out=some r:=by
 apply r72_26
 have e3:w64 ((j:Int)+1)=((j+1:Nat):Int):=by rw [w64_eq (by omega) (by omega)];omega
 simp only [X72_26,e3]
 exact h
theorem elems6 (l:List AV):AV.elems (.ro 6 l)=l:=rfl
theorem drop_tops {o:Option (List Nat)} {j m:Nat} {l:List Nat} (h:(o.getD []).drop j=m :: l):(o.getD [])[j]?=some m∧(o.getD []).drop (j+1)=l∧j < (o.getD []).length:=by
 have h1:=congrArg (fun l=>l[0]?) h
 simp at h1
 have h2:=congrArg (List.drop 1) h
 refine ⟨by simpa using h1,by simpa [List.drop_drop] using h2,?_⟩
 by_cases hh:j < (o.getD []).length
 ·exact hh
 ·rw [List.drop_eq_nil_of_le (by omega)] at h;cases h
def WOk (mx:Int) (ts:Ts):Prop:=∀ (A B:List Nd) (c:Ctx) (o:Option (List Nat)) (j:Nat) (T:AV) (out:List In),(o.getD []).drop j=ts.tops A.length→j≤(o.getD []).length→(o.getD []).length≤500000→out.length+isz ts≤500000→ts.ok→NmW ts →
 F72_1 (semRun (C mx) Tryd.prog 72 Tryd.f72) (optAV o) (.int ((o.getD []).length:Int)) (j:Int) (.ro 9 ((A ++ (arrH A.length ts c ++ B)).map Nd.av)) T (out.map In.av)=some (.tu [.tu [], .ag [.ro 9 ((A ++ (arrH A.length ts c ++ B)).map Nd.av),T, .ro 6 ((out ++ comp out.length ts c).map In.av)]])
theorem wok_call {ts:Ts} (h:WOk mx ts) {N A B:List Nd} {c:Ctx} {l:List Nat} {T:AV} {out:List In} (hN:N=A ++ (arrH A.length ts c ++ B)) (hl:l=ts.tops A.length) (h1:l.length≤500000) (h2:out.length+isz ts≤500000) (h3:ts.ok) (h4:NmW ts) :
  semCall (C mx) Tryd.prog 72 [.un,optAV (some l), .ag [.ro 9 (N.map Nd.av),T, .ro 6 (out.map In.av)]]=some (.tu [.tu [], .ag [.ro 9 (N.map Nd.av),T, .ro 6 ((out ++ comp out.length ts c).map In.av)]]):=by
 subst hN
 apply c72
 simp only [X72,opt_len,Option.bind_some]
 exact h A B c (some l) 0 T out (by simpa using hl) (Nat.zero_le _) h1 h2 h3 h4
theorem size_isz:∀ (t:Ts),t.size≤isz t
 | .nil=>Nat.le_refl _
 | .leaf w k=>by simp only [Ts.size,isz];have:=size_isz k;omega
 | .blk w b e k=>by simp only [Ts.size,isz];have:=size_isz k;have:=size_isz b;split <;> omega
 | .alt w b l x e k=>by simp only [Ts.size,isz];have:=size_isz k;have:=size_isz b;have:=size_isz x;omega
theorem wok:∀ (ts:Ts),WOk mx ts
 | .nil=>by
  intro A B c o j T out hd hj hlen hout hok hn
  apply r72_1
  have hge:(o.getD []).length≤j:=by
   have:=congrArg List.length hd
   simp [Ts.tops] at this
   omega
  have e1:decide ((j:Int) < ((o.getD []).length:Int))=false:=by rw [decide_eq_false_iff_not];omega
  simp only [X72_1,Sx.int_lss,e1,Option.bind_some,condM_b,Bool.false_eq_true,if_false,comp,List.append_nil]
 | .leaf w k=>by
  intro A B c o j T out hd hj hlen hout hok hn
  obtain ⟨hx,hd',hlt⟩:=drop_tops hd
  apply r72_1
  have e1:decide ((j:Int) < ((o.getD []).length:Int))=true:=by rw [decide_eq_true_eq];omega
  have eN:A ++ (arrH A.length (.leaf w k) c ++ B)=A ++ nHole w c :: (arrH (A.length+1) k ((leafGo w c).get c) ++ B):=by simp [arrH]
  obtain ⟨nl,n1,n2⟩:=cp_names (hn w (by simp [Ts.flat]))
  simp only [isz] at hout
  have ih:=wok k (A ++ [nHole w c]) B ((leafGo w c).get c) o (j+1) T (out ++ [leafIn w c]) (by rw [List.length_append];exact hd') (by omega) hlen (by rw [List.length_append];simp only [List.length_cons,List.length_nil];omega) hok.2 (fun x hx=>hn x (by simp [Ts.flat,hx]))
  simp only [List.length_append,List.length_cons,List.length_nil,Nat.zero_add,List.append_assoc,List.singleton_append] at ih
  have hidx:idx 9 (.ro 9 ((A ++ nHole w c :: (arrH (A.length+1) k ((leafGo w c).get c) ++ B)).map Nd.av)) (.int (A.length:Int))=some (nHole w c).av:=at_av
  have hs:=fun i=>s73 (mx:=mx) i (.ro 9 ((A ++ nHole w c :: (arrH (A.length+1) k ((leafGo w c).get c) ++ B)).map Nd.av)) T out (by omega)
  rw [eN]
  have fin:∀ i,i=leafIn w c→F72_26 (semRun (C mx) Tryd.prog 72 Tryd.f72) (optAV o) (.int ((o.getD []).length:Int)) (j:Int) (.ro 9 ((A ++ nHole w c :: (arrH (A.length+1) k ((leafGo w c).get c) ++ B)).map Nd.av)) T ((out ++ [i]).map In.av)=some (.tu [.tu [], .ag [.ro 9 ((A ++ nHole w c :: (arrH (A.length+1) k ((leafGo w c).get c) ++ B)).map Nd.av),T, .ro 6 ((out ++ comp out.length (.leaf w k) c).map In.av)]]):=by
   intro i hi
   subst hi
   exact c26 (by omega) ih
  generalize (A ++ nHole w c :: (arrH (A.length+1) k ((leafGo w c).get c) ++ B)).map Nd.av=NN at hidx hs fin ⊢
  simp only [X72_1,Sx.int_lss,e1,Option.bind_some,condM_b,if_true,opt_idx hx,cell_int,hidx,same_eq,k0,k2,k3,k4,k5,k6,k7,k8,show (nHole w c).names=w.names from rfl,n1,one_b,one_s,one_u8,u8_eql,show (nHole w c).kind=ndKind w.kind from rfl,show (nHole w c).text=w.text from rfl,show (nHole w c).root=w.root from rfl,show (nHole w c).hole=holeOf w c from rfl]
  rcases leaf3 hok.1 with hk | hk | hk
  ·have hi:=fin _ rfl
   unfold leafIn at hi
   have h73:=hs ⟨0,w.text,false, .nils,0,0⟩
   have h73:semCall (C mx) Tryd.prog 73 [.un, .ag [.u8 0, .s w.text, .b false, .nils, .u8 0, .int 0], .ag [.ro 9 NN,T, .ro 6 (out.map In.av)]]=_:=h73
   rw [hk] at hi ⊢
   simp only [show ((0:UInt8) == 0)=true from rfl,if_true,h73,Option.bind_some,tu0,tu1,asAg3,th0,th1,th2,elems6] at hi ⊢
   exact hi
  ·have hi:=fin _ rfl
   unfold leafIn at hi
   have h73:=hs ⟨1,[],w.root,cpN w.names,holeOf w c,0⟩
   have h73:semCall (C mx) Tryd.prog 73 [.un, .ag [.u8 1, .s [], .b w.root,cpN w.names, .u8 (holeOf w c), .int 0], .ag [.ro 9 NN,T, .ro 6 (out.map In.av)]]=_:=h73
   rw [n2] at h73
   rw [hk] at hi ⊢
   simp only [show ((1:UInt8) == 0)=false from rfl,show ((1:UInt8) == 1)=true from rfl,Bool.false_eq_true,if_false,if_true,h73,Option.bind_some,tu0,tu1,asAg3,th0,th1,th2,elems6,n2] at hi ⊢
   exact hi
  ·have hi:=fin _ rfl
   unfold leafIn at hi
   have h73:=hs ⟨6,[],false, .nils,0,0⟩
   have h73:semCall (C mx) Tryd.prog 73 [.un, .ag [.u8 6, .s [], .b false, .nils, .u8 0, .int 0], .ag [.ro 9 NN,T, .ro 6 (out.map In.av)]]=_:=h73
   rw [hk] at hi ⊢
   simp only [show ((4:UInt8) == 0)=false from rfl,show ((4:UInt8) == 1)=false from rfl,show ((4:UInt8) == 4)=true from rfl,Bool.false_eq_true,if_false,if_true,h73,Option.bind_some,tu0,tu1,asAg3,th0,th1,th2,elems6] at hi ⊢
   exact hi
 | .blk w b e' k=>by
  intro A B c o j T out hd hj hlen hout hok hn
  obtain ⟨hx,hd',hlt⟩:=drop_tops hd
  apply r72_1
  have e1:decide ((j:Int) < ((o.getD []).length:Int))=true:=by rw [decide_eq_true_eq];omega
  obtain ⟨nl,n1,n2⟩:=cp_names (hn w (by simp [Ts.flat]))
  obtain ⟨hk,ke,hb,hk'⟩:=hok
  simp only [isz] at hout
  have eN:A ++ (arrH A.length (.blk w b e' k) c ++ B)=A ++ nBlk w (b.tops (A.length+1)) :: (arrH (A.length+1) b c ++ (arrH (A.length+1+b.size) k c ++ B)):=by simp [arrH]
  have eN2:A ++ nBlk w (b.tops (A.length+1)) :: (arrH (A.length+1) b c ++ (arrH (A.length+1+b.size) k c ++ B))=(A ++ [nBlk w (b.tops (A.length+1))]) ++ (arrH (A ++ [nBlk w (b.tops (A.length+1))]).length b c ++ (arrH (A.length+1+b.size) k c ++ B)):=by simp
  have eN3:A ++ nBlk w (b.tops (A.length+1)) :: (arrH (A.length+1) b c ++ (arrH (A.length+1+b.size) k c ++ B))=(A ++ nBlk w (b.tops (A.length+1)) :: arrH (A.length+1) b c) ++ (arrH (A ++ nBlk w (b.tops (A.length+1)) :: arrH (A.length+1) b c).length k c ++ B):=by
   rw [List.length_append,List.length_cons,arrH_len,show A.length+(b.size+1)=A.length+1+b.size by omega];simp
  have hbn:NmW b:=fun x hx=>hn x (by simp [Ts.flat,hx])
  have hkn:NmW k:=fun x hx=>hn x (by simp [Ts.flat,hx])
  have hA3:(A ++ nBlk w (b.tops (A.length+1)) :: arrH (A.length+1) b c).length=A.length+1+b.size:=by rw [List.length_append,List.length_cons,arrH_len];omega
  have hsz1:=size_isz b
  have hsz2:=tops_len b (A.length+1)
  have hcall:=fun (out:List In) (ho:out.length+isz b≤500000)=>wok_call (T:=T) (wok b) eN2 (l:=b.tops (A.length+1)) (by simp) (by omega) ho hb hbn
  have hk2:=fun (out:List In) (ho:out.length+isz k≤500000)=>wok k (A ++ nBlk w (b.tops (A.length+1)) :: arrH (A.length+1) b c) B c o (j+1) T out (by rw [hA3];exact hd') (by omega) hlen ho hk' hkn
  rw [← eN3] at hk2
  rw [eN]
  have hidx:idx 9 (.ro 9 ((A ++ nBlk w (b.tops (A.length+1)) :: (arrH (A.length+1) b c ++ (arrH (A.length+1+b.size) k c ++ B))).map Nd.av)) (.int (A.length:Int))=some (nBlk w (b.tops (A.length+1))).av:=at_av
  have hs:=fun (out:List In) (ho:out.length≤1000000) i=>s73 (mx:=mx) i (.ro 9 ((A ++ nBlk w (b.tops (A.length+1)) :: (arrH (A.length+1) b c ++ (arrH (A.length+1+b.size) k c ++ B))).map Nd.av)) T out ho
  generalize (A ++ nBlk w (b.tops (A.length+1)) :: (arrH (A.length+1) b c ++ (arrH (A.length+1+b.size) k c ++ B))).map Nd.av=NN at hidx hs hcall hk2 ⊢
  simp only [X72_1,Sx.int_lss,e1,Option.bind_some,condM_b,if_true,opt_idx hx,cell_int,hidx,same_eq,k0,k2,k3,k4,k5,k6,k7,k8,show (nBlk w (b.tops (A.length+1))).names=w.names from rfl,n1,one_b,one_s,one_u8,u8_eql,show (nBlk w (b.tops (A.length+1))).kind=ndKind w.kind from rfl,show (nBlk w (b.tops (A.length+1))).root=w.root from rfl,show (nBlk w (b.tops (A.length+1))).has=false from rfl,show (nBlk w (b.tops (A.length+1))).body=some (b.tops (A.length+1)) from rfl]
  rcases blk_kind hk with hk | hk
  ·rw [hk] at hout ⊢
   simp only [show ((2:UInt8) == 2)=true from rfl,if_true] at hout
   have h73:semCall (C mx) Tryd.prog 73 [.un, .ag [.u8 2, .s [], .b w.root, .ro 1 nl, .u8 0, .int 0], .ag [.ro 9 NN,T, .ro 6 (out.map In.av)]]=_:=hs out (by omega) ⟨2,[],w.root, .ro 1 nl,0,0⟩
   have h72:=hcall (out ++ [⟨2,[],w.root, .ro 1 nl,0,0⟩]) (by rw [List.length_append];simp only [List.length_cons,List.length_nil];omega)
   simp only [show ((2:UInt8) == 0)=false from rfl,show ((2:UInt8) == 1)=false from rfl,show ((2:UInt8) == 4)=false from rfl,show ((2:UInt8) == 2)=true from rfl,Bool.false_eq_true,if_false,if_true,h73,Option.bind_some,tu0,tu1,asAg3,th0,th1,th2,elems6,h72]
   apply r72_20
   simp only [List.append_assoc,List.singleton_append]
   simp only [X72_20,in_at,Option.bind_some]
   rw [set_to out.length rfl _ (out.length+1+isz b) (by simp only [List.length_map,List.length_append,List.length_cons,comp_len,List.length_nil];omega)]
   apply c26 (by omega)
   have hkk:=hk2 (out ++ ⟨2,[],w.root, .ro 1 nl,0,out.length+1+isz b⟩ :: comp (out.length+1) b c) (by rw [List.length_append,List.length_cons,comp_len];omega)
   simp only [List.length_append,List.length_cons,comp_len,List.length_nil,Nat.zero_add,List.nil_append] at hkk ⊢
   rw [hkk]
   simp only [comp,hk,show ((2:UInt8) == 2)=true from rfl,if_true,n2,List.append_assoc,List.cons_append]
   rw [show out.length+(isz b+1)=out.length+1+isz b by omega]
  ·rw [hk] at hout ⊢
   simp only [show ((3:UInt8) == 2)=false from rfl,Bool.false_eq_true,if_false] at hout
   have h73:semCall (C mx) Tryd.prog 73 [.un, .ag [.u8 4, .s [], .b w.root, .ro 1 nl, .u8 0, .int 0], .ag [.ro 9 NN,T, .ro 6 (out.map In.av)]]=_:=hs out (by omega) ⟨4,[],w.root, .ro 1 nl,0,0⟩
   have h72:=hcall (out ++ [⟨4,[],w.root, .ro 1 nl,0,0⟩]) (by rw [List.length_append];simp only [List.length_cons,List.length_nil];omega)
   have hplus:binI .add (.int (out.length:Int)) (.int 1)=some (.int ((out.length+1:Nat):Int)):=by
    rw [int_add (by omega) (by omega)];congr 2
   have h73b:semCall (C mx) Tryd.prog 73 [.un, .ag [.u8 5, .s [], .b false, .nils, .u8 0, .int ((out.length+1:Nat):Int)], .ag [.ro 9 NN,T, .ro 6 ((out ++ [(⟨4,[],w.root, .ro 1 nl,0,0⟩:In)] ++ comp (out ++ [(⟨4,[],w.root, .ro 1 nl,0,0⟩:In)]).length b c).map In.av)]]=_:=hs (out ++ [(⟨4,[],w.root, .ro 1 nl,0,0⟩:In)] ++ comp (out ++ [(⟨4,[],w.root, .ro 1 nl,0,0⟩:In)]).length b c) (by rw [List.length_append,List.length_append,comp_len];simp only [List.length_cons,List.length_nil];omega) ⟨5,[],false, .nils,0,out.length+1⟩
   have one_i (n:Int):AV.one (.int n)=some (.int n):=rfl
   simp only [show ((3:UInt8) == 0)=false from rfl,show ((3:UInt8) == 1)=false from rfl,show ((3:UInt8) == 4)=false from rfl,show ((3:UInt8) == 2)=false from rfl,show ((3:UInt8) == 3)=true from rfl,Bool.false_eq_true,if_false,if_true,h73,Option.bind_some,tu0,tu1,asAg3,th0,th1,th2,elems6,h72,hplus,one_i,h73b]
   simp only [List.append_assoc,List.singleton_append,List.cons_append]
   simp only [in_at,Option.bind_some]
   rw [set_to out.length rfl _ (out.length+2+isz b) (by simp only [List.length_map,List.length_append,List.length_cons,comp_len,List.length_nil];omega)]
   apply c26 (by omega)
   have hkk:=hk2 (out ++ ⟨4,[],w.root, .ro 1 nl,0,out.length+2+isz b⟩ :: (comp (out.length+1) b c ++ [⟨5,[],false, .nils,0,out.length+1⟩])) (by simp only [List.length_append,List.length_cons,List.length_nil,comp_len];omega)
   simp only [List.length_append,List.length_cons,comp_len,List.length_nil,Nat.zero_add,List.nil_append] at hkk ⊢
   rw [hkk]
   simp only [comp,hk,show ((3:UInt8) == 2)=false from rfl,Bool.false_eq_true,if_false,n2,List.append_assoc,List.cons_append,List.nil_append]
   rw [show out.length+(isz b+1+1)=out.length+2+isz b by omega]
 | .alt w b l y e' k=>by
  intro A B c o j T out hd hj hlen hout hok hn
  obtain ⟨hx,hd',hlt⟩:=drop_tops hd
  apply r72_1
  have e1:decide ((j:Int) < ((o.getD []).length:Int))=true:=by rw [decide_eq_true_eq];omega
  obtain ⟨nl,n1,n2⟩:=cp_names (hn w (by simp [Ts.flat]))
  obtain ⟨hk,kl,ke,hb,hy,hk'⟩:=hok
  have hk2':ndKind w.kind=2:=by rw [hk];rfl
  simp only [isz] at hout
  have eN:A ++ (arrH A.length (.alt w b l y e' k) c ++ B)=A ++ nAlt w (b.tops (A.length+1)) (y.tops (A.length+1+b.size)) :: (arrH (A.length+1) b c ++ (arrH (A.length+1+b.size) y c ++ (arrH (A.length+1+b.size+y.size) k ((tsGo b c).get c) ++ B))):=by simp [arrH]
  generalize hnd:nAlt w (b.tops (A.length+1)) (y.tops (A.length+1+b.size))=nd at eN
  have eN2:A ++ nd :: (arrH (A.length+1) b c ++ (arrH (A.length+1+b.size) y c ++ (arrH (A.length+1+b.size+y.size) k ((tsGo b c).get c) ++ B)))=(A ++ [nd]) ++ (arrH (A ++ [nd]).length b c ++ (arrH (A.length+1+b.size) y c ++ (arrH (A.length+1+b.size+y.size) k ((tsGo b c).get c) ++ B))):=by simp
  have hA3:(A ++ nd :: arrH (A.length+1) b c).length=A.length+1+b.size:=by rw [List.length_append,List.length_cons,arrH_len];omega
  have hA4:(A ++ nd :: (arrH (A.length+1) b c ++ arrH (A.length+1+b.size) y c)).length=A.length+1+b.size+y.size:=by rw [List.length_append,List.length_cons,List.length_append,arrH_len,arrH_len];omega
  have eN3:A ++ nd :: (arrH (A.length+1) b c ++ (arrH (A.length+1+b.size) y c ++ (arrH (A.length+1+b.size+y.size) k ((tsGo b c).get c) ++ B)))=(A ++ nd :: arrH (A.length+1) b c) ++ (arrH (A ++ nd :: arrH (A.length+1) b c).length y c ++ (arrH (A.length+1+b.size+y.size) k ((tsGo b c).get c) ++ B)):=by rw [hA3];simp
  have eN4:A ++ nd :: (arrH (A.length+1) b c ++ (arrH (A.length+1+b.size) y c ++ (arrH (A.length+1+b.size+y.size) k ((tsGo b c).get c) ++ B)))=(A ++ nd :: (arrH (A.length+1) b c ++ arrH (A.length+1+b.size) y c)) ++ (arrH (A ++ nd :: (arrH (A.length+1) b c ++ arrH (A.length+1+b.size) y c)).length k ((tsGo b c).get c) ++ B):=by rw [hA4];simp
  have hbn:NmW b:=fun x hx=>hn x (by simp [Ts.flat,hx])
  have hyn:NmW y:=fun x hx=>hn x (by simp [Ts.flat,hx])
  have hkn:NmW k:=fun x hx=>hn x (by simp [Ts.flat,hx])
  have hsz1:=size_isz b
  have hsz2:=tops_len b (A.length+1)
  have hsz3:=size_isz y
  have hsz4:=tops_len y (A.length+1+b.size)
  have hcall:=fun (out:List In) (ho:out.length+isz b≤500000)=>wok_call (T:=T) (wok b) eN2 (l:=b.tops (A.length+1)) (by simp) (by omega) ho hb hbn
  have hcally:=fun (out:List In) (ho:out.length+isz y≤500000)=>wok_call (T:=T) (wok y) eN3 (l:=y.tops (A.length+1+b.size)) (by rw [hA3]) (by omega) ho hy hyn
  have hk2:=fun (out:List In) (ho:out.length+isz k≤500000)=>wok k (A ++ nd :: (arrH (A.length+1) b c ++ arrH (A.length+1+b.size) y c)) B ((tsGo b c).get c) o (j+1) T out (by rw [hA4];exact hd') (by omega) hlen ho hk' hkn
  rw [← eN4] at hk2
  rw [eN]
  have hidx:idx 9 (.ro 9 ((A ++ nd :: (arrH (A.length+1) b c ++ (arrH (A.length+1+b.size) y c ++ (arrH (A.length+1+b.size+y.size) k ((tsGo b c).get c) ++ B)))).map Nd.av)) (.int (A.length:Int))=some nd.av:=at_av
  have hs:=fun (out:List In) (ho:out.length≤1000000) i=>s73 (mx:=mx) i (.ro 9 ((A ++ nd :: (arrH (A.length+1) b c ++ (arrH (A.length+1+b.size) y c ++ (arrH (A.length+1+b.size+y.size) k ((tsGo b c).get c) ++ B)))).map Nd.av)) T out ho
  generalize (A ++ nd :: (arrH (A.length+1) b c ++ (arrH (A.length+1+b.size) y c ++ (arrH (A.length+1+b.size+y.size) k ((tsGo b c).get c) ++ B)))).map Nd.av=NN at hidx hs hcall hcally hk2 ⊢
  subst hnd
  have h73:semCall (C mx) Tryd.prog 73 [.un, .ag [.u8 2, .s [], .b w.root, .ro 1 nl, .u8 0, .int 0], .ag [.ro 9 NN,T, .ro 6 (out.map In.av)]]=_:=hs out (by omega) ⟨2,[],w.root, .ro 1 nl,0,0⟩
  have h72:=hcall (out ++ [⟨2,[],w.root, .ro 1 nl,0,0⟩]) (by rw [List.length_append];simp only [List.length_cons,List.length_nil];omega)
  have h73b:semCall (C mx) Tryd.prog 73 [.un, .ag [.u8 3, .s [], .b false, .nils, .u8 0, .int 0], .ag [.ro 9 NN,T, .ro 6 ((out ++ [(⟨2,[],w.root, .ro 1 nl,0,0⟩:In)] ++ comp (out ++ [(⟨2,[],w.root, .ro 1 nl,0,0⟩:In)]).length b c).map In.av)]]=_:=hs (out ++ [(⟨2,[],w.root, .ro 1 nl,0,0⟩:In)] ++ comp (out ++ [(⟨2,[],w.root, .ro 1 nl,0,0⟩:In)]).length b c) (by rw [List.length_append,List.length_append,comp_len];simp only [List.length_cons,List.length_nil];omega) ⟨3,[],false, .nils,0,0⟩
  simp only [X72_1,Sx.int_lss,e1,Option.bind_some,condM_b,if_true,opt_idx hx,cell_int,hidx,same_eq,k0,k2,k3,k4,k5,k6,k7,k8,show (nAlt w (b.tops (A.length+1)) (y.tops (A.length+1+b.size))).names=w.names from rfl,n1,one_b,one_s,one_u8,u8_eql,show (nAlt w (b.tops (A.length+1)) (y.tops (A.length+1+b.size))).kind=ndKind w.kind from rfl,show (nAlt w (b.tops (A.length+1)) (y.tops (A.length+1+b.size))).root=w.root from rfl,show (nAlt w (b.tops (A.length+1)) (y.tops (A.length+1+b.size))).has=true from rfl,show (nAlt w (b.tops (A.length+1)) (y.tops (A.length+1+b.size))).body=some (b.tops (A.length+1)) from rfl,show (nAlt w (b.tops (A.length+1)) (y.tops (A.length+1+b.size))).els=some (y.tops (A.length+1+b.size)) from rfl,hk2',show ((2:UInt8) == 0)=false from rfl,show ((2:UInt8) == 1)=false from rfl,show ((2:UInt8) == 4)=false from rfl,show ((2:UInt8) == 2)=true from rfl,Bool.false_eq_true,if_false,h73,tu0,tu1,asAg3,th0,th1,th2,elems6,h72,h73b]
  simp only [List.append_assoc,List.singleton_append,List.cons_append]
  simp only [in_at,Option.bind_some]
  rw [set_to out.length rfl _ (out.length+2+isz b) (by simp only [List.length_map,List.length_append,List.length_cons,comp_len,List.length_nil];omega)]
  have hyc:=hcally (out ++ ⟨2,[],w.root, .ro 1 nl,0,out.length+2+isz b⟩ :: (comp (out.length+1) b c ++ [⟨3,[],false, .nils,0,0⟩])) (by simp only [List.length_append,List.length_cons,List.length_nil,comp_len];omega)
  simp only [List.length_append,List.length_cons,comp_len,List.length_nil,Nat.zero_add,List.nil_append] at hyc ⊢
  simp only [hyc,Option.bind_some,tu0,tu1,asAg3,th0,th1,th2,elems6]
  apply r72_20
  have hX:(out ++ ⟨2,[],w.root, .ro 1 nl,0,out.length+2+isz b⟩ :: comp (out.length+1) b c).length=out.length+(isz b+1):=by rw [List.length_append,List.length_cons,comp_len]
  have esh:∀ (i:In) (R:List In),out ++ ⟨2,[],w.root, .ro 1 nl,0,out.length+2+isz b⟩ :: (comp (out.length+1) b c ++ [i]) ++ R=(out ++ ⟨2,[],w.root, .ro 1 nl,0,out.length+2+isz b⟩ :: comp (out.length+1) b c) ++ i :: R:=by intro i R;simp
  have hin:=in_at (X:=out ++ ⟨2,[],w.root, .ro 1 nl,0,out.length+2+isz b⟩ :: comp (out.length+1) b c) (R:=comp (out.length+(isz b+1+1)) y c) (i:=⟨3,[],false, .nils,0,0⟩)
  rw [hX] at hin
  simp only [X72_20,esh,hin,Option.bind_some]
  rw [set_to _ hX.symm _ (out.length+2+isz b+isz y) (by simp only [List.length_map,List.length_append,List.length_cons,comp_len,List.length_nil];omega)]
  apply c26 (by omega)
  have hkk:=hk2 ((out ++ ⟨2,[],w.root, .ro 1 nl,0,out.length+2+isz b⟩ :: comp (out.length+1) b c) ++ ⟨3,[],false, .nils,0,out.length+2+isz b+isz y⟩ :: comp (out.length+(isz b+1+1)) y c) (by simp only [List.length_append,List.length_cons,List.length_nil,comp_len];omega)
  simp only [List.length_append,List.length_cons,comp_len,List.length_nil,Nat.zero_add,List.nil_append] at hkk ⊢
  rw [hkk]
  simp only [comp,n2,List.append_assoc,List.cons_append,List.nil_append]
  rw [show out.length+(isz b+1)+(isz y+1)=out.length+2+isz b+isz y by omega,show out.length+(isz b+1+1)=out.length+2+isz b by omega]
end R3K

namespace R3K
open Go Go.Proofs Sx
variable {mx:Int}
noncomputable def body43:Code:=(Tryd.f43.body).getD .skip
noncomputable def X43 (call:CallT) (run:RunT) (a0:List UInt8):Option AV :=
 (call 41 [.s a0, .ag [.u8 0, .u8 0, .b false, .u8 0, .u8 0, .u8 0, .u8 0, .b false, .u8 0, .s []]]).bind fun v1=>(tupI v1 0).bind fun v2=>(tupI v1 1).bind fun v3=>(tupI v1 2).bind fun v4=>(tupI v1 3).bind fun v5=>(AV.asAg 2 v2).bind fun v6=>(AV.asAg 10 v3).bind fun v7=>(binI .eql v5 (.int 0)).bind fun v8=>(selW v8 true ((binAg [.i, .i, .b, .i, .i, .i, .i, .b, .i, .s] .neq (.ag [v7.getD 0 .un,v7.getD 1 .un,v7.getD 2 .un,v7.getD 3 .un,v7.getD 4 .un,v7.getD 5 .un,v7.getD 6 .un,v7.getD 7 .un,v7.getD 8 .un,v7.getD 9 .un]) (.ag [.u8 0, .u8 0, .b false, .u8 0, .u8 0, .u8 0, .u8 0, .b false, .u8 0, .s []])).bind fun v9=>some v9) (.b false)).bind fun v10=>condM v10
 (some (.tu [.ag [.nils, .nils], .int (a0.length:Int), .int 8]))
 (some (.tu [.ag [v6.getD 0 .un,v6.getD 1 .un],v4,v5]))
section
variable (call:CallT) (run:RunT) (a0:List UInt8)
theorem text43:unr (C mx) call run 43 Tryd.f43 400 [.code body43] (initF (C mx) 43 Tryd.f43.ntmps [.s a0])=X43 call run a0:=by
 kernel_rfl
theorem c43 {r:AV} (h:X43 (semCall (C mx) Tryd.prog) (semRun (C mx) Tryd.prog 43 Tryd.f43) a0=some r):semCall (C mx) Tryd.prog 43 [.s a0]=some r :=
 semCall_unr (fn:=Tryd.f43) (c:=body43) (by kernel_rfl) (by kernel_rfl) 400 (by kernel_rfl) ((text43 _ _ a0).trans h)
end
end R3K

namespace R3K
open Go Go.Proofs Sx
variable {mx:Int}
noncomputable def body45:Code:=(Tryd.f45.body).getD .skip
noncomputable def X45 (call:CallT) (run:RunT)  : Option AV :=
 (call 46 [.s [123,123,120,125,125]]).bind fun v1=>(tupI v1 0).bind fun v2=>(tupI v1 1).bind fun v3=>(tupI v1 2).bind fun v4=>(binI .eql v4 (.int 0)).bind fun v5=>(selW v5 true ((lenR v2).bind fun v6=>(binI .eql v6 (.int 2)).bind fun v7=>some v7) (.b false)).bind fun v8=>(selW v8 true ((idx 6 v2 (.int 0)).bind fun v9=>(binI .eql (AV.cell v9 0) (.u8 1)).bind fun v10=>some v10) (.b false)).bind fun v11=>(selW v11 true ((idx 6 v2 (.int 1)).bind fun v12=>(binI .eql (AV.cell v12 0) (.u8 7)).bind fun v13=>some v13) (.b false)).bind fun v14=>some v14
section
variable (call:CallT) (run:RunT)
theorem text45:unr (C mx) call run 45 Tryd.f45 400 [.code body45] (initF (C mx) 45 Tryd.f45.ntmps [])=X45 call run  := by
 kernel_rfl
theorem c45 {r:AV} (h:X45 (semCall (C mx) Tryd.prog) (semRun (C mx) Tryd.prog 45 Tryd.f45)  = some r):semCall (C mx) Tryd.prog 45 []=some r :=
 semCall_unr (fn:=Tryd.f45) (c:=body45) (by kernel_rfl) (by kernel_rfl) 400 (by kernel_rfl) ((text45 _ _ ).trans h)
end
end R3K

namespace R3K
open Go Go.Proofs Sx
variable {mx:Int}
noncomputable def body46:Code:=(Tryd.f46.body).getD .skip
noncomputable def X46 (call:CallT) (run:RunT) (a0:List UInt8):Option AV :=
 (call 43 [.s a0]).bind fun v1=>(tupI v1 0).bind fun v2=>(tupI v1 1).bind fun v3=>(tupI v1 2).bind fun v4=>(AV.asAg 2 v2).bind fun v5=>(binI .neq v4 (.int 0)).bind fun v6=>condM v6
 (some (.tu [.nils,v3,v4]))
 ((call 72 [.un,v5.getD 1 .un, .ag [v5.getD 0 .un,v5.getD 1 .un, .ro 6 []]]).bind fun v7=>(tupI v7 0).bind fun v8=>(tupI v7 1).bind fun v9=>(AV.asAg 3 v9).bind fun v10=>(call 73 [.un, .ag [.u8 7, .s [], .b false, .nils, .u8 0, .int 0], .ag [v10.getD 0 .un,v10.getD 1 .un, .ro 6 (AV.elems (v10.getD 2 .un))]]).bind fun v11=>(tupI v11 0).bind fun v12=>(tupI v11 1).bind fun v13=>(AV.asAg 3 v13).bind fun v14=>some (.tu [.ro 6 (AV.elems (v14.getD 2 .un)), .int 0, .int 0]))
section
variable (call:CallT) (run:RunT) (a0:List UInt8)
theorem text46:unr (C mx) call run 46 Tryd.f46 400 [.code body46] (initF (C mx) 46 Tryd.f46.ntmps [.s a0])=X46 call run a0:=by
 kernel_rfl
theorem c46 {r:AV} (h:X46 (semCall (C mx) Tryd.prog) (semRun (C mx) Tryd.prog 46 Tryd.f46) a0=some r):semCall (C mx) Tryd.prog 46 [.s a0]=some r :=
 semCall_unr (fn:=Tryd.f46) (c:=body46) (by kernel_rfl) (by kernel_rfl) 400 (by kernel_rfl) ((text46 _ _ a0).trans h)
end
end R3K

namespace R3K
open Go Go.Proofs Sx R3 R3I
variable {mx:Int}
theorem j41 (l:List UInt8) (c:Ctx) (h:NmS c):semCall (C mx) Tryd.prog 41 [.s l,c.toAV]=some (fragAV l c) :=
 semCall_gv (G:=G41) rfl rfl (by
  show (match ctxOf c.toAV with | some c=>if c.nm.length < 9223372036854775808 then some (fragAV l c) else none | none=>none)=_
  rw [ctxOf_toAV]
  exact if_pos h)
theorem z0:Ctx.toAV ⟨0,0,false,0,0,0,0,false,0,[]⟩=(st1 0).toAV:=rfl
theorem nz:NmS (st1 0):=by show (0:Nat) < _;decide
theorem q0 (a b c d:AV):tupI (.tu [a,b,c,d]) 0=some a:=rfl
theorem q1 (a b c d:AV):tupI (.tu [a,b,c,d]) 1=some b:=rfl
theorem q2 (a b c d:AV):tupI (.tu [a,b,c,d]) 2=some c:=rfl
theorem q3 (a b c d:AV):tupI (.tu [a,b,c,d]) 3=some d:=rfl
theorem p0 (a b c:AV):tupI (.tu [a,b,c]) 0=some a:=rfl
theorem p1 (a b c:AV):tupI (.tu [a,b,c]) 1=some b:=rfl
theorem p2 (a b c:AV):tupI (.tu [a,b,c]) 2=some c:=rfl
theorem asAg2 (a b:AV):AV.asAg 2 (.ag [a,b])=some [a,b]:=rfl
theorem templ (l:List UInt8):(∃ a e:Int,e≠0∧semCall (C mx) Tryd.prog 43 [.s l]=some (.tu [.ag [.nils, .nils], .int a, .int e])) ∨
  ∃ ts,Frag l (st1 0) ts (st1 0)∧semCall (C mx) Tryd.prog 43 [.s l]=some (.tu [.ag [.ro 9 ((arrH 0 ts (st1 0)).map Nd.av), .ro 1 (numsAV (ts.tops 0))], .int 0, .int 0]):=by
 have key:∀ (t1 t2:AV) (d:Ctx) (a e:Int),fragAV l (st1 0)=.tu [.ag [t1,t2],d.toAV, .int a, .int e]→semCall (C mx) Tryd.prog 43 [.s l]=some (if e=0∧d≠st1 0 then .tu [.ag [.nils, .nils], .int (l.length:Int), .int 8] else .tu [.ag [t1,t2], .int a, .int e]):=by
  intro t1 t2 d a e h
  apply c43
  have x1:=(j41 (mx:=mx) l (st1 0) nz).trans (congrArg some h)
  simp only [X43,mk_toAV,z0,x1,Option.bind_some,q0,q1,q2,q3,asAg2,asAg_toAV,ten0,ten1,ten2,ten3,ten4,ten5,ten6,ten7,ten8,ten9,mk_eta,ne_toAV,Sx.int_eql,selW_and,condM_b,List.getD_cons_zero,List.getD_cons_succ]
  by_cases h1:e=0∧d≠st1 0
  ·rw [if_pos h1,if_pos (by simp [h1.1,h1.2])]
  ·rw [if_neg h1,if_neg (by simpa using h1)]
 rcases frag_or l (st1 0) with ⟨a,e,h1,h2⟩ | ⟨ts,d,h⟩
 ·have:=key _ _ _ _ _ h2
  rw [if_neg (fun hh=>h1 hh.1)] at this
  exact .inl ⟨a,e,h1,this⟩
 ·have hk:=key _ _ _ _ _ h.av
  by_cases hd:d=st1 0
  ·subst hd
   rw [if_neg (by simp)] at hk
   exact .inr ⟨ts,h,hk⟩
  ·rw [if_pos ⟨rfl,hd⟩] at hk
   exact .inl ⟨_,_,by decide,hk⟩
theorem templ_ok {l:List UInt8} {ts:Ts} (h:Frag l (st1 0) ts (st1 0)):semCall (C mx) Tryd.prog 43 [.s l]=some (.tu [.ag [.ro 9 ((arrH 0 ts (st1 0)).map Nd.av), .ro 1 (numsAV (ts.tops 0))], .int 0, .int 0]):=by
 apply c43
 have x1:=(j41 (mx:=mx) l (st1 0) nz).trans (congrArg some h.av)
 simp only [X43,mk_toAV,z0,x1,Option.bind_some,q0,q1,q2,q3,asAg2,asAg_toAV,ten0,ten1,ten2,ten3,ten4,ten5,ten6,ten7,ten8,ten9,mk_eta,ne_toAV,Sx.int_eql,selW_and,condM_b,List.getD_cons_zero,List.getD_cons_succ,decide_true,Bool.not_true,Bool.and_false,Bool.false_eq_true,if_false]
theorem frag_flat {l:List UInt8} {c d:Ctx} {ts:Ts} (h:Frag l c ts d):ts.flat.length≤65536∧NmW ts:=by
 have h1:=lx_words h.lx
 have h2:=wordsF_len (l.length+1) l 0 []
 have h3:=wordsF_nm2 (l.length+1) l 0 [] (fun w hw=>by simp at hw)
 unfold wordsW at h1
 rw [h1] at h2 h3
 simp only [List.length_nil] at h2
 have:=h.len
 exact ⟨by omega,h3⟩
def haltI:In:=⟨7,[],false, .nils,0,0⟩
theorem compile_ok {l:List UInt8} {ts:Ts} (h:Frag l (st1 0) ts (st1 0)):semCall (C mx) Tryd.prog 46 [.s l]=some (.tu [.ro 6 ((comp 0 ts (st1 0) ++ [haltI]).map In.av), .int 0, .int 0]):=by
 apply c46
 obtain ⟨g1,g2⟩:=frag_flat h
 have g3:=isz_flat ts
 have g4:=size_isz ts
 have g5:=tops_len ts 0
 have h72:=wok_call (mx:=mx) (T:=.ro 1 (numsAV (ts.tops 0))) (wok ts) (N:=arrH 0 ts (st1 0)) (A:=[]) (B:=[]) (c:=st1 0) (l:=ts.tops 0) (out:=[]) (by simp) rfl (by omega) (by simp;omega) h.ok g2
 have h72:semCall (C mx) Tryd.prog 72 [.un, .ro 1 (numsAV (ts.tops 0)), .ag [.ro 9 ((arrH 0 ts (st1 0)).map Nd.av), .ro 1 (numsAV (ts.tops 0)), .ro 6 []]]=_:=h72
 have h73:semCall (C mx) Tryd.prog 73 [.un, .ag [.u8 7, .s [], .b false, .nils, .u8 0, .int 0], .ag [.ro 9 ((arrH 0 ts (st1 0)).map Nd.av), .ro 1 (numsAV (ts.tops 0)), .ro 6 ((comp 0 ts (st1 0)).map In.av)]]=_:=s73 (mx:=mx) haltI (.ro 9 ((arrH 0 ts (st1 0)).map Nd.av)) (.ro 1 (numsAV (ts.tops 0))) (comp 0 ts (st1 0)) (by rw [comp_len];omega)
 simp only [List.nil_append,List.length_nil] at h72
 simp only [X46,templ_ok h,Option.bind_some,p0,p1,p2,asAg2,Sx.int_neq,bne_self_eq_false,condM_b,Bool.false_eq_true,if_false,List.getD_cons_zero,List.getD_cons_succ,h72,tu0,tu1,asAg3,elems6,h73]
theorem compiled (l:List UInt8):(∃ a e:Int,e≠0∧semCall (C mx) Tryd.prog 46 [.s l]=some (.tu [.nils, .int a, .int e])∧semCall (C mx) Tryd.prog 43 [.s l]=some (.tu [.ag [.nils, .nils], .int a, .int e])) ∨
  ∃ ts,Frag l (st1 0) ts (st1 0)∧semCall (C mx) Tryd.prog 46 [.s l]=some (.tu [.ro 6 ((comp 0 ts (st1 0) ++ [haltI]).map In.av), .int 0, .int 0]):=by
 rcases templ (mx:=mx) l with ⟨a,e,he,h⟩ | ⟨ts,hF,h⟩
 ·refine .inl ⟨a,e,he,?_,h⟩
  apply c46
  simp only [X46,h,Option.bind_some,p0,p1,p2,asAg2,Sx.int_neq,condM_b]
  rw [if_pos (by simpa using he)]
 ·exact .inr ⟨ts,hF,compile_ok hF⟩
end R3K

namespace R3K
open Go Go.Proofs Sx
variable {mx:Int}
noncomputable def body48:Code:=(Tryd.f48.body).getD .skip
section
variable (run:RunT) (a0:List AV) (a1 a2:AV) (a3:Int)
noncomputable def K48_3:List Item:=(kAt 3 body48 []).getD []
def S48_3:St:=St.ofL [(3, .cell (.own 300003 59 1 a0)),(6, .cell (.val a1)),(7, .cell (.val a2)),(8, .cell (.val (.int a3)))] []
noncomputable def F48_3:Option AV:=run K48_3 (S48_3 a0 a1 a2 a3)
end
section
variable (run:RunT) (a0:List AV) (a1 a2:AV) (a3:Int)
noncomputable def K48_7:List Item:=(kAt 7 body48 []).getD []
def S48_7:St:=St.ofL [(3, .cell (.own 300003 59 1 a0)),(6, .cell (.val a1)),(7, .cell (.val a2)),(8, .cell (.val (.int a3)))] []
noncomputable def F48_7:Option AV:=run K48_7 (S48_7 a0 a1 a2 a3)
end
noncomputable def X48 (call:CallT) (run:RunT) (a0:AV):Option AV :=
 (lenR a0).bind fun v1=>F48_3 run [] a0 v1 0
section
variable (call:CallT) (run:RunT) (a0:AV)
theorem text48:unr (C mx) call run 48 Tryd.f48 400 [.code body48] (initF (C mx) 48 Tryd.f48.ntmps [a0])=X48 call run a0:=by
 kernel_rfl
theorem c48 {r:AV} (h:X48 (semCall (C mx) Tryd.prog) (semRun (C mx) Tryd.prog 48 Tryd.f48) a0=some r):semCall (C mx) Tryd.prog 48 [a0]=some r :=
 semCall_unr (fn:=Tryd.f48) (c:=body48) (by kernel_rfl) (by kernel_rfl) 400 (by kernel_rfl) ((text48 _ _ a0).trans h)
end
noncomputable def X48_3 (call:CallT) (run:RunT) (a0:List AV) (a1 a2:AV) (a3:Int):Option AV :=
 (binI .lss (.int a3) a2).bind fun v1=>condM v1
 ((idx 6 a1 (.int a3)).bind fun v2=>(binI .eql (AV.cell v2 0) (.u8 1)).bind fun v3=>condM v3
 ((AV.one (AV.cell v2 4)).bind fun v4=>(app 1 1 a0 (.ro 1 (([v4]:List AV)))).bind fun v5=>F48_7 run v5 a1 a2 a3)
 (F48_7 run a0 a1 a2 a3))
 (some (.ro 1 a0))
section
variable (call:CallT) (run:RunT) (a0:List AV) (a1 a2:AV) (a3:Int)
theorem text48_3:step (C mx) call 48 Tryd.f48 (unr (C mx) call run 48 Tryd.f48 400) K48_3 (S48_3 a0 a1 a2 a3)=X48_3 call run a0 a1 a2 a3:=by
 kernel_rfl
end
noncomputable def X48_7 (call:CallT) (run:RunT) (a0:List AV) (a1 a2:AV) (a3:Int):Option AV :=
 F48_3 run a0 a1 a2 (w64 (a3+1))
section
variable (call:CallT) (run:RunT) (a0:List AV) (a1 a2:AV) (a3:Int)
theorem text48_7:step (C mx) call 48 Tryd.f48 (unr (C mx) call run 48 Tryd.f48 400) K48_7 (S48_7 a0 a1 a2 a3)=X48_7 call run a0 a1 a2 a3:=by
 kernel_rfl
end
section
variable (a0:List AV) (a1 a2:AV) (a3:Int)
theorem r48_3 {r:AV} (h:X48_3 (semCall (C mx) Tryd.prog) (semRun (C mx) Tryd.prog 48 Tryd.f48) a0 a1 a2 a3=some r):F48_3 (semRun (C mx) Tryd.prog 48 Tryd.f48) a0 a1 a2 a3=some r :=
 semRun_unr 400 ((text48_3 _ _ a0 a1 a2 a3).trans h)
end
section
variable (a0:List AV) (a1 a2:AV) (a3:Int)
theorem r48_7 {r:AV} (h:X48_7 (semCall (C mx) Tryd.prog) (semRun (C mx) Tryd.prog 48 Tryd.f48) a0 a1 a2 a3=some r):F48_7 (semRun (C mx) Tryd.prog 48 Tryd.f48) a0 a1 a2 a3=some r :=
 semRun_unr 400 ((text48_7 _ _ a0 a1 a2 a3).trans h)
end
end R3K

namespace R3K
open Go Go.Proofs Sx
variable {mx:Int}
section
variable (run:RunT) (a0 a1 a2 a3:AV) (a4:Int)
end
section
variable (run:RunT) (a0 a1 a2 a3:AV) (a4:Int)
end
section
variable (call:CallT) (run:RunT) (a0:AV)
end
section
variable (call:CallT) (run:RunT) (a0 a1 a2 a3:AV) (a4:Int)
end
section
variable (call:CallT) (run:RunT) (a0 a1 a2 a3:AV) (a4:Int)
end
section
variable (a0 a1 a2 a3:AV) (a4:Int)
end
section
variable (a0 a1 a2 a3:AV) (a4:Int)
end
end R3K

namespace R3K
open Go Go.Proofs Sx R3 R3I
variable {mx:Int}
def opA (e:AV):UInt8:=match e.cell 0 with | .u8 x=>x | _=>0
def hlA (e:AV):UInt8:=match e.cell 4 with | .u8 x=>x | _=>0
def Good (e:AV):Prop:=e.cell 0=.u8 (opA e)∧e.cell 4=.u8 (hlA e)
def hls (P:List AV):List UInt8:=(P.filter fun e=>opA e == 1).map hlA
theorem in_good (i:In):Good i.av:=⟨rfl,rfl⟩
theorem idx6 {P:List AV} {i:Nat} (h:i < P.length):idx 6 (.ro 6 P) (.int (i:Int))=some P[i]:=idx_get 6 h
theorem one_u8' (x:UInt8):AV.one (.u8 x)=some (.u8 x):=rfl
theorem app1 {l:List AV} {x:AV} (h:l.length≤2000000):app 1 1 l (.ro 1 [x])=some (l ++ [x]):=by
 show ((if 1=1 then some [x] else none).bind fun q=>if (l.length+q.length) * 1≤big then some (l ++ q) else none)=_
 rw [if_pos rfl]
 simp only [Option.bind_some,List.length_cons,List.length_nil,Nat.zero_add,Nat.mul_one]
 rw [if_pos (Nat.le_trans (m:=4000000) (by omega) (by decide))]
theorem l48 (P:List AV) (hP:∀ e ∈ P,Good e) (hl:P.length≤2000000):∀ (m i:Nat) (acc:List AV),P.length=i+m→acc.length≤i →
  F48_3 (semRun (C mx) Tryd.prog 48 Tryd.f48) acc (.ro 6 P) (.int (P.length:Int)) (i:Int)=some (.ro 1 (acc ++ (hls (P.drop i)).map .u8))
 | 0,i,acc,hi,ha=>by
  apply r48_3
  have e:decide ((i:Int) < (P.length:Int))=false:=by rw [decide_eq_false_iff_not];omega
  simp only [X48_3,Sx.int_lss,e,Option.bind_some,condM_b,Bool.false_eq_true,if_false]
  rw [List.drop_eq_nil_of_le (by omega)]
  simp [hls]
 | m+1,i,acc,hi,ha=>by
  apply r48_3
  have hlt:i < P.length:=by omega
  have e:decide ((i:Int) < (P.length:Int))=true:=by rw [decide_eq_true_eq];omega
  have e3:w64 ((i:Int)+1)=((i+1:Nat):Int):=by rw [w64_eq (by omega) (by omega)];omega
  obtain ⟨g1,g2⟩:=hP _ (List.getElem_mem hlt)
  have hd:hls (P.drop i)=(if opA P[i] == 1 then [hlA P[i]] else []) ++ hls (P.drop (i+1)):=by
   rw [List.drop_eq_getElem_cons hlt]
   unfold hls
   rw [List.filter_cons]
   split <;> simp
  simp only [X48_3,Sx.int_lss,e,Option.bind_some,condM_b,if_true,idx6 hlt,g1,g2,u8_eql,one_u8',app1 (l:=acc) (by omega)]
  rw [hd]
  cases hk:(opA P[i] == 1) with
  | true =>
   simp only [if_true]
   apply r48_7
   simp only [X48_7,e3]
   rw [l48 P hP hl m (i+1) _ (by omega) (by rw [List.length_append];simp;omega)]
   simp
  | false =>
   simp only [Bool.false_eq_true,if_false]
   apply r48_7
   simp only [X48_7,e3]
   rw [l48 P hP hl m (i+1) _ (by omega) (by omega)]
   simp
theorem s48 (P:List AV) (hP:∀ e ∈ P,Good e) (hl:P.length≤2000000):semCall (C mx) Tryd.prog 48 [.ro 6 P]=some (.ro 1 ((hls P).map .u8)):=by
 apply c48
 simp only [X48,lenR_ro,Option.bind_some]
 have:=l48 (mx:=mx) P hP hl P.length 0 [] (by omega) (by simp)
 rw [List.drop_zero,List.nil_append] at this
 exact this
theorem xTs:Frag [123,123,120,125,125] (st1 0) (.leaf ⟨1,0,[],false, .ro 1 [.s [120]]⟩ .nil) (st1 0):=⟨rfl,rfl,by decide,words_lx awakeW,⟨⟨by decide,by decide,by decide,by decide⟩,trivial⟩,by decide,by kernel_rfl⟩
theorem s45:semCall (C mx) Tryd.prog 45 []=some (.b true):=by
 apply c45
 have h:=compile_ok (mx:=mx) xTs
 have e:comp 0 (.leaf ⟨1,0,[],false, .ro 1 [.s [120]]⟩ .nil) (st1 0)=[⟨1,[],false, .ro 1 [.s [120]],hole (st1 0),0⟩]:=rfl
 rw [e] at h
 simp only [X45,h,Option.bind_some,p0,p1,p2]
 rfl
end R3K

namespace R3K
open Go Go.Proofs Sx
variable {mx:Int}
section
variable (run:RunT) (a0:Int) (a1:Bool) (a2:AV) (a3:Bool) (a4:AV)
end
section
variable (call:CallT) (run:RunT) (a0:Bool) (a1:AV) (a2:Bool) (a3:AV)
end
section
variable (call:CallT) (run:RunT) (a0:Int) (a1:Bool) (a2:AV) (a3:Bool) (a4:AV)
end
section
variable (a0:Int) (a1:Bool) (a2:AV) (a3:Bool) (a4:AV)
end
end R3K

namespace R3K
open Go Go.Proofs Sx
variable {mx:Int}
section
variable (run:RunT) (a0 a1:AV) (a2:Int)
end
section
variable (call:CallT) (run:RunT) (a0 a1:AV)
end
section
variable (call:CallT) (run:RunT) (a0 a1:AV) (a2:Int)
end
section
variable (a0 a1:AV) (a2:Int)
end
end R3K

namespace R3K
open Go Go.Proofs Sx R3 R3I
variable {mx:Int}
theorem comp_holes:∀ (t:Ts) (n:Nat) (c:Ctx),t.ok→((comp n t c).filter fun i=>i.op == 1).map In.hole=holesT t c
 | .nil,n,c,_=>rfl
 | .leaf w k,n,c,h=>by
  have ih:=comp_holes k (n+1) ((leafGo w c).get c) h.2
  simp only [comp,holesT,List.filter_cons]
  rcases leaf3 h.1 with hk | hk | hk
  ·have e:leafIn w c=⟨0,w.text,false, .nils,0,0⟩:=by unfold leafIn;rw [hk];rfl
   rw [e,hk]
   simpa using ih
  ·have e:leafIn w c=⟨1,[],w.root,cpN w.names,holeOf w c,0⟩:=by unfold leafIn;rw [hk];rfl
   have e2:holeOf w c=hole c:=by unfold holeOf;rw [hk];rfl
   rw [e,hk,e2]
   simpa using ih
  ·have e:leafIn w c=⟨6,[],false, .nils,0,0⟩:=by unfold leafIn;rw [hk];rfl
   rw [e,hk]
   simpa using ih
 | .blk w b e k,n,c,h=>by
  simp only [comp,holesT]
  split
  ·simp only [List.filter_cons,List.filter_append,List.map_append,show ((2:UInt8) == 1)=false from rfl,Bool.false_eq_true,if_false,comp_holes b _ c h.2.2.1,comp_holes k _ c h.2.2.2]
  ·simp only [List.filter_cons,List.filter_append,List.map_append,show ((4:UInt8) == 1)=false from rfl,show ((5:UInt8) == 1)=false from rfl,Bool.false_eq_true,if_false,comp_holes b _ c h.2.2.1,comp_holes k _ c h.2.2.2]
 | .alt w b l x e k,n,c,h=>by
  simp only [comp,holesT,List.filter_cons,List.filter_append,List.map_append,show ((2:UInt8) == 1)=false from rfl,show ((3:UInt8) == 1)=false from rfl,Bool.false_eq_true,if_false,comp_holes b _ c h.2.2.2.1,comp_holes x _ c h.2.2.2.2.1,comp_holes k _ _ h.2.2.2.2.2]
theorem hls_map (L:List In):hls (L.map In.av)=(L.filter fun i=>i.op == 1).map In.hole:=by
 unfold hls
 rw [List.filter_map,List.map_map]
 rfl
end R3K

namespace R3K
open Go Go.Proofs Sx
variable {mx:Int}
noncomputable def body18:Code:=(Tryd.f18.body).getD .skip
section
variable (run:RunT) (a0:AV) (a1 a2:Int) (a3 a4:AV)
noncomputable def K18_10:List Item:=(kAt 10 body18 []).getD []
def S18_10:St:=St.ofL [(6, .cell (.ptr 6 0)),(9, .cell (.val a0)),(10, .cell (.val (.int a1))),(11, .cell (.val (.int a2)))] [(6,some [.val a3, .val (a4)])]
noncomputable def F18_10:Option AV:=run K18_10 (S18_10 a0 a1 a2 a3 a4)
end
section
variable (run:RunT) (a0:AV) (a1 a2:Int) (a3 a4:AV)
noncomputable def K18_11:List Item:=(kAt 11 body18 []).getD []
def S18_11:St:=St.ofL [(6, .cell (.ptr 6 0)),(9, .cell (.val a0)),(10, .cell (.val (.int a1))),(11, .cell (.val (.int a2)))] [(6,some [.val a3, .val (a4)])]
noncomputable def F18_11:Option AV:=run K18_11 (S18_11 a0 a1 a2 a3 a4)
end
noncomputable def X18 (call:CallT) (run:RunT) (a0:List UInt8):Option AV :=
 (call 45 []).bind fun v1=>(unop .not v1).bind fun v2=>condM v2
 (some (.b false))
 ((call 46 [.s a0]).bind fun v3=>(tupI v3 0).bind fun v4=>(tupI v3 1).bind fun v5=>(tupI v3 2).bind fun v6=>(call 43 [.s a0]).bind fun v7=>(tupI v7 0).bind fun v8=>(tupI v7 1).bind fun v9=>(tupI v7 2).bind fun v10=>(AV.asAg 2 v8).bind fun v11=>(binI .neq v6 v10).bind fun v12=>(selW v12 false ((binI .neq v5 v9).bind fun v13=>some v13) (.b true)).bind fun v14=>condM v14
 (some (.b false))
 ((call 48 [v4]).bind fun v15=>F18_10 run v15 0 0 (v11.getD 0 .un) (v11.getD 1 .un)))
section
variable (call:CallT) (run:RunT) (a0:List UInt8)
theorem text18:unr (C mx) call run 18 Tryd.f18 400 [.code body18] (initF (C mx) 18 Tryd.f18.ntmps [.s a0])=X18 call run a0:=by
 kernel_rfl
theorem c18 {r:AV} (h:X18 (semCall (C mx) Tryd.prog) (semRun (C mx) Tryd.prog 18 Tryd.f18) a0=some r):semCall (C mx) Tryd.prog 18 [.s a0]=some r :=
 semCall_unr (fn:=Tryd.f18) (c:=body18) (by kernel_rfl) (by kernel_rfl) 400 (by kernel_rfl) ((text18 _ _ a0).trans h)
end
noncomputable def X18_10 (call:CallT) (run:RunT) (a0:AV) (a1 a2:Int) (a3 a4:AV):Option AV :=
 (lenR a3).bind fun v1=>(binI .lss (.int a2) v1).bind fun v2=>condM v2
 ((idx 9 a3 (.int a2)).bind fun v3=>(binI .eql (AV.cell v3 0) (.u8 1)).bind fun v4=>condM v4
 ((lenR a0).bind fun v5=>(binI .geq (.int a1) v5).bind fun v6=>(selW v6 false ((idx 1 a0 (.int a1)).bind fun v7=>(idx 9 a3 (.int a2)).bind fun v8=>(binI .neq (AV.cell v7 0) (AV.cell v8 8)).bind fun v9=>some v9) (.b true)).bind fun v10=>condM v10
 (some (.b false))
 (F18_11 run a0 (w64 (a1+1)) a2 a3 a4))
 (F18_11 run a0 a1 a2 a3 a4))
 ((lenR a0).bind fun v11=>(binI .eql (.int a1) v11).bind fun v12=>some v12)
section
variable (call:CallT) (run:RunT) (a0:AV) (a1 a2:Int) (a3 a4:AV)
theorem text18_10:step (C mx) call 18 Tryd.f18 (unr (C mx) call run 18 Tryd.f18 400) K18_10 (S18_10 a0 a1 a2 a3 a4)=X18_10 call run a0 a1 a2 a3 a4:=by
 kernel_rfl
end
noncomputable def X18_11 (call:CallT) (run:RunT) (a0:AV) (a1 a2:Int) (a3 a4:AV):Option AV :=
 F18_10 run a0 a1 (w64 (a2+1)) a3 a4
section
variable (call:CallT) (run:RunT) (a0:AV) (a1 a2:Int) (a3 a4:AV)
theorem text18_11:step (C mx) call 18 Tryd.f18 (unr (C mx) call run 18 Tryd.f18 400) K18_11 (S18_11 a0 a1 a2 a3 a4)=X18_11 call run a0 a1 a2 a3 a4:=by
 kernel_rfl
end
section
variable (a0:AV) (a1 a2:Int) (a3 a4:AV)
theorem r18_10 {r:AV} (h:X18_10 (semCall (C mx) Tryd.prog) (semRun (C mx) Tryd.prog 18 Tryd.f18) a0 a1 a2 a3 a4=some r):F18_10 (semRun (C mx) Tryd.prog 18 Tryd.f18) a0 a1 a2 a3 a4=some r :=
 semRun_unr 400 ((text18_10 _ _ a0 a1 a2 a3 a4).trans h)
end
section
variable (a0:AV) (a1 a2:Int) (a3 a4:AV)
theorem r18_11 {r:AV} (h:X18_11 (semCall (C mx) Tryd.prog) (semRun (C mx) Tryd.prog 18 Tryd.f18) a0 a1 a2 a3 a4=some r):F18_11 (semRun (C mx) Tryd.prog 18 Tryd.f18) a0 a1 a2 a3 a4=some r :=
 semRun_unr 400 ((text18_11 _ _ a0 a1 a2 a3 a4).trans h)
end
end R3K

namespace R3K
open Go Go.Proofs Sx R3 R3I
variable {mx:Int}
theorem s48n:semCall (C mx) Tryd.prog 48 [.nils]=some (.ro 1 []):=by
 apply c48
 simp only [X48,lenR_nils,Option.bind_some]
 apply r48_3
 rfl
theorem l18 (N:List Nd) (H:List UInt8) (T:AV) (hN:N.length≤1000000) (hH:H.length≤1000000):∀ (m i n:Nat),N.length=i+m→n≤H.length→H.drop n=((N.drop i).filter fun x=>x.kind == 1).map Nd.hole →
  F18_10 (semRun (C mx) Tryd.prog 18 Tryd.f18) (.ro 1 (H.map .u8)) (n:Int) (i:Int) (.ro 9 (N.map Nd.av)) T=some (.b true)
 | 0,i,n,hi,hn,h=>by
  apply r18_10
  have e:decide ((i:Int) < (N.length:Int))=false:=by rw [decide_eq_false_iff_not];omega
  rw [List.drop_eq_nil_of_le (show N.length≤i by omega)] at h
  have h:H.drop n=[]:=h
  have hn2:n=H.length:=by have:=congrArg List.length h;simp at this;omega
  subst hn2
  simp only [X18_10,lenR_ro,List.length_map,Sx.int_lss,e,Option.bind_some,condM_b,Bool.false_eq_true,if_false,List.length_map,Sx.int_eql,beq_self_eq_true]
 | m+1,i,n,hi,hn,h=>by
  apply r18_10
  have hlt:i < (N.map Nd.av).length:=by rw [List.length_map];omega
  have hlt':i < N.length:=by omega
  have e:decide ((i:Int) < (N.length:Int))=true:=by rw [decide_eq_true_eq];omega
  have e3:w64 ((i:Int)+1)=((i+1:Nat):Int):=by rw [w64_eq (by omega) (by omega)];omega
  have e4:w64 ((n:Int)+1)=((n+1:Nat):Int):=by rw [w64_eq (by omega) (by omega)];omega
  have hx:idx 9 (.ro 9 (N.map Nd.av)) (.int (i:Int))=some (N[i]).av:=by rw [idx_get 9 hlt];simp
  rw [List.drop_eq_getElem_cons hlt',List.filter_cons] at h
  simp only [X18_10,lenR_ro,List.length_map,Sx.int_lss,e,Option.bind_some,condM_b,if_true,hx,k0,k8,u8_eql,List.length_map,R3I.int_geq]
  cases hk:(N[i].kind == 1) with
  | true =>
   rw [hk] at h
   simp only [if_true,List.map_cons] at h
   have hnl:n < H.length:=by
    by_cases hh:n < H.length
    ·exact hh
    ·rw [List.drop_eq_nil_of_le (by omega)] at h;cases h
   rw [List.drop_eq_getElem_cons hnl] at h
   obtain ⟨h1,h2⟩:=List.cons.inj h
   have hy:idx 1 (.ro 1 (H.map .u8)) (.int (n:Int))=some (.u8 H[n]):=by
    rw [idx_get 1 (by rw [List.length_map];exact hnl)];simp
   have cu (x:UInt8):AV.cell (.u8 x) 0=.u8 x:=rfl
   have eg:decide ((n:Int) ≥ (H.length:Int))=false:=by rw [decide_eq_false_iff_not];omega
   simp only [if_true,eg,hy,Option.bind_some,cu,h1,u8_neq,bne_self_eq_false,selW_or,Bool.or_self,condM_b,Bool.false_eq_true,if_false,e4]
   apply r18_11
   simp only [X18_11,e3]
   exact l18 N H T hN hH m (i+1) (n+1) (by omega) (by omega) h2
  | false =>
   rw [hk] at h
   simp only [Bool.false_eq_true,if_false] at h ⊢
   apply r18_11
   simp only [X18_11,e3]
   exact l18 N H T hN hH m (i+1) n (by omega) hn h
theorem frag_sizes {l:List UInt8} {c d:Ctx} {ts:Ts} (h:Frag l c ts d):ts.size≤65536∧isz ts≤65536:=by
 have:=(frag_flat h).1
 have:=isz_flat ts
 have:=size_isz ts
 omega
theorem law18 (s:List UInt8):semCall (C mx) Tryd.prog 18 [.s s]=some (.b true):=by
 apply c18
 have hun:unop .not (.b true)=some (.b false):=rfl
 rcases compiled (mx:=mx) s with ⟨a,e,he,h1,h2⟩ | ⟨ts,hF,h1⟩
 ·simp only [X18,s45 (mx:=mx),Option.bind_some,hun,condM_b,Bool.false_eq_true,if_false,h1,h2,p0,p1,p2,asAg2,Sx.int_neq,bne_self_eq_false,selW_or,Bool.or_self,s48n,List.getD_cons_zero,List.getD_cons_succ]
  apply r18_10
  rfl
 ·have h2:=templ_ok (mx:=mx) hF
  obtain ⟨z1,z2⟩:=frag_sizes hF
  have h3:=s48 (mx:=mx) ((comp 0 ts (st1 0) ++ [haltI]).map In.av) (fun e he=>by obtain ⟨i,_,rfl⟩:=List.mem_map.1 he;exact in_good i) (by rw [List.length_map,List.length_append,comp_len];simp only [List.length_cons,List.length_nil];omega)
  have hh:hls ((comp 0 ts (st1 0) ++ [haltI]).map In.av)=holesT ts (st1 0):=by
   rw [hls_map,List.filter_append,List.map_append,comp_holes _ _ _ hF.ok]
   simp [haltI]
  rw [hh] at h3
  simp only [X18,s45 (mx:=mx),Option.bind_some,hun,condM_b,Bool.false_eq_true,if_false,h1,h2,h3,p0,p1,p2,asAg2,Sx.int_neq,bne_self_eq_false,selW_or,Bool.or_self,List.getD_cons_zero,List.getD_cons_succ]
  have hla:(arrH 0 ts (st1 0)).length≤65536:=by rw [arrH_len];exact z1
  refine l18 (arrH 0 ts (st1 0)) (holesT ts (st1 0)) _ (by omega) ?_ (arrH 0 ts (st1 0)).length 0 0 (by omega) (by omega) ?_
  ·rw [← holes_arr ts 0 (st1 0) hF.ok,List.length_map]
   exact Nat.le_trans (List.length_filter_le _ _) (by omega)
  ·rw [List.drop_zero,List.drop_zero,holes_arr ts 0 (st1 0) hF.ok]
end R3K
