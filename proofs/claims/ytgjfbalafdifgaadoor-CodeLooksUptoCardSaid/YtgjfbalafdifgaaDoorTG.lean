/-
  A part of CodeLooks's proof: an evaluator of translated functions over plain data, what functions of this seat come to, and laws on plain data.
-/
import Derived.Test.YtgjfbalafdifgaaDoorTF
import Derived.Test.YtgjfbalafdifgaaDoorProg
import Derived.Test.YtgjfbalafdifgaaDoorTC
import Derived.Test.YtgjfbalafdifgaaDoorRows
set_option linter.unusedVariables false
set_option linter.unusedSimpArgs false
set_option linter.unusedSectionVars false
set_option linter.unnecessarySimpa false
namespace R3K
open Go Go.Proofs Sx R3 R3I
variable {mx:Int}
def NmW (ts:Ts):Prop:=∀ w ∈ ts.flat,NmOk2 w.names
theorem leaf3 {w:Wd} (h:w.kind≠2∧w.kind≠3∧w.kind≠4∧w.kind≠5):ndKind w.kind=0∨ndKind w.kind=1∨ndKind w.kind=4:=by
 unfold ndKind
 repeat' split
 all_goals first
  | exact .inl rfl
  | exact .inr (.inl rfl)
  | exact .inr (.inr rfl)
  | (rename_i e;exact absurd (by simpa using e) h.1)
  | (rename_i e;exact absurd (by simpa using e) h.2.2.1)
theorem c26 {oa la N T:AV} {j:Nat} {out:List AV} {r:AV} (hj:j≤1000000) (h:F72_1 (semRun (C mx) Tryd.prog 72 Tryd.f72) oa la ((j+1:Nat):Int) N T out=some r):F72_26 (semRun (C mx) Tryd.prog 72 Tryd.f72) oa la (j:Int) N T out=some r:=by
 apply r72_26
 have e3:w64 ((j:Int)+1)=((j+1:Nat):Int):=by rw [w64_eq (by omega) (by omega)];omega
 simp only [X72_26,e3]
 exact h
theorem elems6 (l:List AV):AV.elems (.ro 6 l)=l:=rfl
theorem drop_tops {o:Option (List Nat)} {j m:Nat} {l:List Nat} (h:(o.getD []).drop j=m :: l):(o.getD [])[j]?=some m∧(o.getD []).drop (j+1)=l∧j < (o.getD []).length:=by
 have h1:=congrArg (fun l=>l[0]?) h
 simp at h1
 have h2:=congrArg (List.drop 1) h
 refine ⟨by simpa using h1,by simpa [List.drop_drop] using h2,?_⟩
 by_cases hh:j < (o.getD []).length
 ·exact hh
 ·rw [List.drop_eq_nil_of_le (by omega)] at h;cases h
def WOk (mx:Int) (ts:Ts):Prop:=∀ (A B:List Nd) (c:Ctx) (o:Option (List Nat)) (j:Nat) (T:AV) (out:List In),(o.getD []).drop j=ts.tops A.length→j≤(o.getD []).length→(o.getD []).length≤500000→out.length+isz ts≤500000→ts.ok→NmW ts →
 F72_1 (semRun (C mx) Tryd.prog 72 Tryd.f72) (optAV o) (.int ((o.getD []).length:Int)) (j:Int) (.ro 9 ((A ++ (arrH A.length ts c ++ B)).map Nd.av)) T (out.map In.av)=some (.tu [.tu [], .ag [.ro 9 ((A ++ (arrH A.length ts c ++ B)).map Nd.av),T, .ro 6 ((out ++ comp out.length ts c).map In.av)]])
theorem wok_call {ts:Ts} (h:WOk mx ts) {N A B:List Nd} {c:Ctx} {l:List Nat} {T:AV} {out:List In} (hN:N=A ++ (arrH A.length ts c ++ B)) (hl:l=ts.tops A.length) (h1:l.length≤500000) (h2:out.length+isz ts≤500000) (h3:ts.ok) (h4:NmW ts) :
  semCall (C mx) Tryd.prog 72 [.un,optAV (some l), .ag [.ro 9 (N.map Nd.av),T, .ro 6 (out.map In.av)]]=some (.tu [.tu [], .ag [.ro 9 (N.map Nd.av),T, .ro 6 ((out ++ comp out.length ts c).map In.av)]]):=by
 subst hN
 apply c72
 simp only [X72,opt_len,Option.bind_some]
 exact h A B c (some l) 0 T out (by simpa using hl) (Nat.zero_le _) h1 h2 h3 h4
theorem size_isz:∀ (t:Ts),t.size≤isz t
 | .nil=>Nat.le_refl _
 | .leaf w k=>by simp only [Ts.size,isz];have:=size_isz k;omega
 | .blk w b e k=>by simp only [Ts.size,isz];have:=size_isz k;have:=size_isz b;split <;> omega
 | .alt w b l x e k=>by simp only [Ts.size,isz];have:=size_isz k;have:=size_isz b;have:=size_isz x;omega
theorem wok:∀ (ts:Ts),WOk mx ts
 | .nil=>by
  intro A B c o j T out hd hj hlen hout hok hn
  apply r72_1
  have hge:(o.getD []).length≤j:=by
   have:=congrArg List.length hd
   simp [Ts.tops] at this
   omega
  have e1:decide ((j:Int) < ((o.getD []).length:Int))=false:=by rw [decide_eq_false_iff_not];omega
  simp only [X72_1,Sx.int_lss,e1,Option.bind_some,condM_b,Bool.false_eq_true,if_false,comp,List.append_nil]
 | .leaf w k=>by
  intro A B c o j T out hd hj hlen hout hok hn
  obtain ⟨hx,hd',hlt⟩:=drop_tops hd
  apply r72_1
  have e1:decide ((j:Int) < ((o.getD []).length:Int))=true:=by rw [decide_eq_true_eq];omega
  have eN:A ++ (arrH A.length (.leaf w k) c ++ B)=A ++ nHole w c :: (arrH (A.length+1) k ((leafGo w c).get c) ++ B):=by simp [arrH]
  obtain ⟨nl,n1,n2⟩:=cp_names (hn w (by simp [Ts.flat]))
  simp only [isz] at hout
  have ih:=wok k (A ++ [nHole w c]) B ((leafGo w c).get c) o (j+1) T (out ++ [leafIn w c]) (by rw [List.length_append];exact hd') (by omega) hlen (by rw [List.length_append];simp only [List.length_cons,List.length_nil];omega) hok.2 (fun x hx=>hn x (by simp [Ts.flat,hx]))
  simp only [List.length_append,List.length_cons,List.length_nil,Nat.zero_add,List.append_assoc,List.singleton_append] at ih
  have hidx:idx 9 (.ro 9 ((A ++ nHole w c :: (arrH (A.length+1) k ((leafGo w c).get c) ++ B)).map Nd.av)) (.int (A.length:Int))=some (nHole w c).av:=at_av
  have hs:=fun i=>s73 (mx:=mx) i (.ro 9 ((A ++ nHole w c :: (arrH (A.length+1) k ((leafGo w c).get c) ++ B)).map Nd.av)) T out (by omega)
  rw [eN]
  have fin:∀ i,i=leafIn w c→F72_26 (semRun (C mx) Tryd.prog 72 Tryd.f72) (optAV o) (.int ((o.getD []).length:Int)) (j:Int) (.ro 9 ((A ++ nHole w c :: (arrH (A.length+1) k ((leafGo w c).get c) ++ B)).map Nd.av)) T ((out ++ [i]).map In.av)=some (.tu [.tu [], .ag [.ro 9 ((A ++ nHole w c :: (arrH (A.length+1) k ((leafGo w c).get c) ++ B)).map Nd.av),T, .ro 6 ((out ++ comp out.length (.leaf w k) c).map In.av)]]):=by
   intro i hi
   subst hi
   exact c26 (by omega) ih
  generalize (A ++ nHole w c :: (arrH (A.length+1) k ((leafGo w c).get c) ++ B)).map Nd.av=NN at hidx hs fin ⊢
  simp only [X72_1,Sx.int_lss,e1,Option.bind_some,condM_b,if_true,opt_idx hx,cell_int,hidx,same_eq,k0,k2,k3,k4,k5,k6,k7,k8,show (nHole w c).names=w.names from rfl,n1,one_b,one_s,one_u8,u8_eql,show (nHole w c).kind=ndKind w.kind from rfl,show (nHole w c).text=w.text from rfl,show (nHole w c).root=w.root from rfl,show (nHole w c).hole=holeOf w c from rfl]
  rcases leaf3 hok.1 with hk | hk | hk
  ·have hi:=fin _ rfl
   unfold leafIn at hi
   have h73:=hs ⟨0,w.text,false, .nils,0,0⟩
   have h73:semCall (C mx) Tryd.prog 73 [.un, .ag [.u8 0, .s w.text, .b false, .nils, .u8 0, .int 0], .ag [.ro 9 NN,T, .ro 6 (out.map In.av)]]=_:=h73
   rw [hk] at hi ⊢
   simp only [show ((0:UInt8) == 0)=true from rfl,if_true,h73,Option.bind_some,tu0,tu1,asAg3,th0,th1,th2,elems6] at hi ⊢
   exact hi
  ·have hi:=fin _ rfl
   unfold leafIn at hi
   have h73:=hs ⟨1,[],w.root,cpN w.names,holeOf w c,0⟩
   have h73:semCall (C mx) Tryd.prog 73 [.un, .ag [.u8 1, .s [], .b w.root,cpN w.names, .u8 (holeOf w c), .int 0], .ag [.ro 9 NN,T, .ro 6 (out.map In.av)]]=_:=h73
   rw [n2] at h73
   rw [hk] at hi ⊢
   simp only [show ((1:UInt8) == 0)=false from rfl,show ((1:UInt8) == 1)=true from rfl,Bool.false_eq_true,if_false,if_true,h73,Option.bind_some,tu0,tu1,asAg3,th0,th1,th2,elems6,n2] at hi ⊢
   exact hi
  ·have hi:=fin _ rfl
   unfold leafIn at hi
   have h73:=hs ⟨6,[],false, .nils,0,0⟩
   have h73:semCall (C mx) Tryd.prog 73 [.un, .ag [.u8 6, .s [], .b false, .nils, .u8 0, .int 0], .ag [.ro 9 NN,T, .ro 6 (out.map In.av)]]=_:=h73
   rw [hk] at hi ⊢
   simp only [show ((4:UInt8) == 0)=false from rfl,show ((4:UInt8) == 1)=false from rfl,show ((4:UInt8) == 4)=true from rfl,Bool.false_eq_true,if_false,if_true,h73,Option.bind_some,tu0,tu1,asAg3,th0,th1,th2,elems6] at hi ⊢
   exact hi
 | .blk w b e' k=>by
  intro A B c o j T out hd hj hlen hout hok hn
  obtain ⟨hx,hd',hlt⟩:=drop_tops hd
  apply r72_1
  have e1:decide ((j:Int) < ((o.getD []).length:Int))=true:=by rw [decide_eq_true_eq];omega
  obtain ⟨nl,n1,n2⟩:=cp_names (hn w (by simp [Ts.flat]))
  obtain ⟨hk,ke,hb,hk'⟩:=hok
  simp only [isz] at hout
  have eN:A ++ (arrH A.length (.blk w b e' k) c ++ B)=A ++ nBlk w (b.tops (A.length+1)) :: (arrH (A.length+1) b c ++ (arrH (A.length+1+b.size) k c ++ B)):=by simp [arrH]
  have eN2:A ++ nBlk w (b.tops (A.length+1)) :: (arrH (A.length+1) b c ++ (arrH (A.length+1+b.size) k c ++ B))=(A ++ [nBlk w (b.tops (A.length+1))]) ++ (arrH (A ++ [nBlk w (b.tops (A.length+1))]).length b c ++ (arrH (A.length+1+b.size) k c ++ B)):=by simp
  have eN3:A ++ nBlk w (b.tops (A.length+1)) :: (arrH (A.length+1) b c ++ (arrH (A.length+1+b.size) k c ++ B))=(A ++ nBlk w (b.tops (A.length+1)) :: arrH (A.length+1) b c) ++ (arrH (A ++ nBlk w (b.tops (A.length+1)) :: arrH (A.length+1) b c).length k c ++ B):=by
   rw [List.length_append,List.length_cons,arrH_len,show A.length+(b.size+1)=A.length+1+b.size by omega];simp
  have hbn:NmW b:=fun x hx=>hn x (by simp [Ts.flat,hx])
  have hkn:NmW k:=fun x hx=>hn x (by simp [Ts.flat,hx])
  have hA3:(A ++ nBlk w (b.tops (A.length+1)) :: arrH (A.length+1) b c).length=A.length+1+b.size:=by rw [List.length_append,List.length_cons,arrH_len];omega
  have hsz1:=size_isz b
  have hsz2:=tops_len b (A.length+1)
  have hcall:=fun (out:List In) (ho:out.length+isz b≤500000)=>wok_call (T:=T) (wok b) eN2 (l:=b.tops (A.length+1)) (by simp) (by omega) ho hb hbn
  have hk2:=fun (out:List In) (ho:out.length+isz k≤500000)=>wok k (A ++ nBlk w (b.tops (A.length+1)) :: arrH (A.length+1) b c) B c o (j+1) T out (by rw [hA3];exact hd') (by omega) hlen ho hk' hkn
  rw [← eN3] at hk2
  rw [eN]
  have hidx:idx 9 (.ro 9 ((A ++ nBlk w (b.tops (A.length+1)) :: (arrH (A.length+1) b c ++ (arrH (A.length+1+b.size) k c ++ B))).map Nd.av)) (.int (A.length:Int))=some (nBlk w (b.tops (A.length+1))).av:=at_av
  have hs:=fun (out:List In) (ho:out.length≤1000000) i=>s73 (mx:=mx) i (.ro 9 ((A ++ nBlk w (b.tops (A.length+1)) :: (arrH (A.length+1) b c ++ (arrH (A.length+1+b.size) k c ++ B))).map Nd.av)) T out ho
  generalize (A ++ nBlk w (b.tops (A.length+1)) :: (arrH (A.length+1) b c ++ (arrH (A.length+1+b.size) k c ++ B))).map Nd.av=NN at hidx hs hcall hk2 ⊢
  simp only [X72_1,Sx.int_lss,e1,Option.bind_some,condM_b,if_true,opt_idx hx,cell_int,hidx,same_eq,k0,k2,k3,k4,k5,k6,k7,k8,show (nBlk w (b.tops (A.length+1))).names=w.names from rfl,n1,one_b,one_s,one_u8,u8_eql,show (nBlk w (b.tops (A.length+1))).kind=ndKind w.kind from rfl,show (nBlk w (b.tops (A.length+1))).root=w.root from rfl,show (nBlk w (b.tops (A.length+1))).has=false from rfl,show (nBlk w (b.tops (A.length+1))).body=some (b.tops (A.length+1)) from rfl]
  rcases blk_kind hk with hk | hk
  ·rw [hk] at hout ⊢
   simp only [show ((2:UInt8) == 2)=true from rfl,if_true] at hout
   have h73:semCall (C mx) Tryd.prog 73 [.un, .ag [.u8 2, .s [], .b w.root, .ro 1 nl, .u8 0, .int 0], .ag [.ro 9 NN,T, .ro 6 (out.map In.av)]]=_:=hs out (by omega) ⟨2,[],w.root, .ro 1 nl,0,0⟩
   have h72:=hcall (out ++ [⟨2,[],w.root, .ro 1 nl,0,0⟩]) (by rw [List.length_append];simp only [List.length_cons,List.length_nil];omega)
   simp only [show ((2:UInt8) == 0)=false from rfl,show ((2:UInt8) == 1)=false from rfl,show ((2:UInt8) == 4)=false from rfl,show ((2:UInt8) == 2)=true from rfl,Bool.false_eq_true,if_false,if_true,h73,Option.bind_some,tu0,tu1,asAg3,th0,th1,th2,elems6,h72]
   apply r72_20
   simp only [List.append_assoc,List.singleton_append]
   simp only [X72_20,in_at,Option.bind_some]
   rw [set_to out.length rfl _ (out.length+1+isz b) (by simp only [List.length_map,List.length_append,List.length_cons,comp_len,List.length_nil];omega)]
   apply c26 (by omega)
   have hkk:=hk2 (out ++ ⟨2,[],w.root, .ro 1 nl,0,out.length+1+isz b⟩ :: comp (out.length+1) b c) (by rw [List.length_append,List.length_cons,comp_len];omega)
   simp only [List.length_append,List.length_cons,comp_len,List.length_nil,Nat.zero_add,List.nil_append] at hkk ⊢
   rw [hkk]
   simp only [comp,hk,show ((2:UInt8) == 2)=true from rfl,if_true,n2,List.append_assoc,List.cons_append]
   rw [show out.length+(isz b+1)=out.length+1+isz b by omega]
  ·rw [hk] at hout ⊢
   simp only [show ((3:UInt8) == 2)=false from rfl,Bool.false_eq_true,if_false] at hout
   have h73:semCall (C mx) Tryd.prog 73 [.un, .ag [.u8 4, .s [], .b w.root, .ro 1 nl, .u8 0, .int 0], .ag [.ro 9 NN,T, .ro 6 (out.map In.av)]]=_:=hs out (by omega) ⟨4,[],w.root, .ro 1 nl,0,0⟩
   have h72:=hcall (out ++ [⟨4,[],w.root, .ro 1 nl,0,0⟩]) (by rw [List.length_append];simp only [List.length_cons,List.length_nil];omega)
   have hplus:binI .add (.int (out.length:Int)) (.int 1)=some (.int ((out.length+1:Nat):Int)):=by
    rw [int_add (by omega) (by omega)];congr 2
   have h73b:semCall (C mx) Tryd.prog 73 [.un, .ag [.u8 5, .s [], .b false, .nils, .u8 0, .int ((out.length+1:Nat):Int)], .ag [.ro 9 NN,T, .ro 6 ((out ++ [(⟨4,[],w.root, .ro 1 nl,0,0⟩:In)] ++ comp (out ++ [(⟨4,[],w.root, .ro 1 nl,0,0⟩:In)]).length b c).map In.av)]]=_:=hs (out ++ [(⟨4,[],w.root, .ro 1 nl,0,0⟩:In)] ++ comp (out ++ [(⟨4,[],w.root, .ro 1 nl,0,0⟩:In)]).length b c) (by rw [List.length_append,List.length_append,comp_len];simp only [List.length_cons,List.length_nil];omega) ⟨5,[],false, .nils,0,out.length+1⟩
   have one_i (n:Int):AV.one (.int n)=some (.int n):=rfl
   simp only [show ((3:UInt8) == 0)=false from rfl,show ((3:UInt8) == 1)=false from rfl,show ((3:UInt8) == 4)=false from rfl,show ((3:UInt8) == 2)=false from rfl,show ((3:UInt8) == 3)=true from rfl,Bool.false_eq_true,if_false,if_true,h73,Option.bind_some,tu0,tu1,asAg3,th0,th1,th2,elems6,h72,hplus,one_i,h73b]
   simp only [List.append_assoc,List.singleton_append,List.cons_append]
   simp only [in_at,Option.bind_some]
   rw [set_to out.length rfl _ (out.length+2+isz b) (by simp only [List.length_map,List.length_append,List.length_cons,comp_len,List.length_nil];omega)]
   apply c26 (by omega)
   have hkk:=hk2 (out ++ ⟨4,[],w.root, .ro 1 nl,0,out.length+2+isz b⟩ :: (comp (out.length+1) b c ++ [⟨5,[],false, .nils,0,out.length+1⟩])) (by simp only [List.length_append,List.length_cons,List.length_nil,comp_len];omega)
   simp only [List.length_append,List.length_cons,comp_len,List.length_nil,Nat.zero_add,List.nil_append] at hkk ⊢
   rw [hkk]
   simp only [comp,hk,show ((3:UInt8) == 2)=false from rfl,Bool.false_eq_true,if_false,n2,List.append_assoc,List.cons_append,List.nil_append]
   rw [show out.length+(isz b+1+1)=out.length+2+isz b by omega]
 | .alt w b l y e' k=>by
  intro A B c o j T out hd hj hlen hout hok hn
  obtain ⟨hx,hd',hlt⟩:=drop_tops hd
  apply r72_1
  have e1:decide ((j:Int) < ((o.getD []).length:Int))=true:=by rw [decide_eq_true_eq];omega
  obtain ⟨nl,n1,n2⟩:=cp_names (hn w (by simp [Ts.flat]))
  obtain ⟨hk,kl,ke,hb,hy,hk'⟩:=hok
  have hk2':ndKind w.kind=2:=by rw [hk];rfl
  simp only [isz] at hout
  have eN:A ++ (arrH A.length (.alt w b l y e' k) c ++ B)=A ++ nAlt w (b.tops (A.length+1)) (y.tops (A.length+1+b.size)) :: (arrH (A.length+1) b c ++ (arrH (A.length+1+b.size) y c ++ (arrH (A.length+1+b.size+y.size) k ((tsGo b c).get c) ++ B))):=by simp [arrH]
  generalize hnd:nAlt w (b.tops (A.length+1)) (y.tops (A.length+1+b.size))=nd at eN
  have eN2:A ++ nd :: (arrH (A.length+1) b c ++ (arrH (A.length+1+b.size) y c ++ (arrH (A.length+1+b.size+y.size) k ((tsGo b c).get c) ++ B)))=(A ++ [nd]) ++ (arrH (A ++ [nd]).length b c ++ (arrH (A.length+1+b.size) y c ++ (arrH (A.length+1+b.size+y.size) k ((tsGo b c).get c) ++ B))):=by simp
  have hA3:(A ++ nd :: arrH (A.length+1) b c).length=A.length+1+b.size:=by rw [List.length_append,List.length_cons,arrH_len];omega
  have hA4:(A ++ nd :: (arrH (A.length+1) b c ++ arrH (A.length+1+b.size) y c)).length=A.length+1+b.size+y.size:=by rw [List.length_append,List.length_cons,List.length_append,arrH_len,arrH_len];omega
  have eN3:A ++ nd :: (arrH (A.length+1) b c ++ (arrH (A.length+1+b.size) y c ++ (arrH (A.length+1+b.size+y.size) k ((tsGo b c).get c) ++ B)))=(A ++ nd :: arrH (A.length+1) b c) ++ (arrH (A ++ nd :: arrH (A.length+1) b c).length y c ++ (arrH (A.length+1+b.size+y.size) k ((tsGo b c).get c) ++ B)):=by rw [hA3];simp
  have eN4:A ++ nd :: (arrH (A.length+1) b c ++ (arrH (A.length+1+b.size) y c ++ (arrH (A.length+1+b.size+y.size) k ((tsGo b c).get c) ++ B)))=(A ++ nd :: (arrH (A.length+1) b c ++ arrH (A.length+1+b.size) y c)) ++ (arrH (A ++ nd :: (arrH (A.length+1) b c ++ arrH (A.length+1+b.size) y c)).length k ((tsGo b c).get c) ++ B):=by rw [hA4];simp
  have hbn:NmW b:=fun x hx=>hn x (by simp [Ts.flat,hx])
  have hyn:NmW y:=fun x hx=>hn x (by simp [Ts.flat,hx])
  have hkn:NmW k:=fun x hx=>hn x (by simp [Ts.flat,hx])
  have hsz1:=size_isz b
  have hsz2:=tops_len b (A.length+1)
  have hsz3:=size_isz y
  have hsz4:=tops_len y (A.length+1+b.size)
  have hcall:=fun (out:List In) (ho:out.length+isz b≤500000)=>wok_call (T:=T) (wok b) eN2 (l:=b.tops (A.length+1)) (by simp) (by omega) ho hb hbn
  have hcally:=fun (out:List In) (ho:out.length+isz y≤500000)=>wok_call (T:=T) (wok y) eN3 (l:=y.tops (A.length+1+b.size)) (by rw [hA3]) (by omega) ho hy hyn
  have hk2:=fun (out:List In) (ho:out.length+isz k≤500000)=>wok k (A ++ nd :: (arrH (A.length+1) b c ++ arrH (A.length+1+b.size) y c)) B ((tsGo b c).get c) o (j+1) T out (by rw [hA4];exact hd') (by omega) hlen ho hk' hkn
  rw [← eN4] at hk2
  rw [eN]
  have hidx:idx 9 (.ro 9 ((A ++ nd :: (arrH (A.length+1) b c ++ (arrH (A.length+1+b.size) y c ++ (arrH (A.length+1+b.size+y.size) k ((tsGo b c).get c) ++ B)))).map Nd.av)) (.int (A.length:Int))=some nd.av:=at_av
  have hs:=fun (out:List In) (ho:out.length≤1000000) i=>s73 (mx:=mx) i (.ro 9 ((A ++ nd :: (arrH (A.length+1) b c ++ (arrH (A.length+1+b.size) y c ++ (arrH (A.length+1+b.size+y.size) k ((tsGo b c).get c) ++ B)))).map Nd.av)) T out ho
  generalize (A ++ nd :: (arrH (A.length+1) b c ++ (arrH (A.length+1+b.size) y c ++ (arrH (A.length+1+b.size+y.size) k ((tsGo b c).get c) ++ B)))).map Nd.av=NN at hidx hs hcall hcally hk2 ⊢
  subst hnd
  have h73:semCall (C mx) Tryd.prog 73 [.un, .ag [.u8 2, .s [], .b w.root, .ro 1 nl, .u8 0, .int 0], .ag [.ro 9 NN,T, .ro 6 (out.map In.av)]]=_:=hs out (by omega) ⟨2,[],w.root, .ro 1 nl,0,0⟩
  have h72:=hcall (out ++ [⟨2,[],w.root, .ro 1 nl,0,0⟩]) (by rw [List.length_append];simp only [List.length_cons,List.length_nil];omega)
  have h73b:semCall (C mx) Tryd.prog 73 [.un, .ag [.u8 3, .s [], .b false, .nils, .u8 0, .int 0], .ag [.ro 9 NN,T, .ro 6 ((out ++ [(⟨2,[],w.root, .ro 1 nl,0,0⟩:In)] ++ comp (out ++ [(⟨2,[],w.root, .ro 1 nl,0,0⟩:In)]).length b c).map In.av)]]=_:=hs (out ++ [(⟨2,[],w.root, .ro 1 nl,0,0⟩:In)] ++ comp (out ++ [(⟨2,[],w.root, .ro 1 nl,0,0⟩:In)]).length b c) (by rw [List.length_append,List.length_append,comp_len];simp only [List.length_cons,List.length_nil];omega) ⟨3,[],false, .nils,0,0⟩
  simp only [X72_1,Sx.int_lss,e1,Option.bind_some,condM_b,if_true,opt_idx hx,cell_int,hidx,same_eq,k0,k2,k3,k4,k5,k6,k7,k8,show (nAlt w (b.tops (A.length+1)) (y.tops (A.length+1+b.size))).names=w.names from rfl,n1,one_b,one_s,one_u8,u8_eql,show (nAlt w (b.tops (A.length+1)) (y.tops (A.length+1+b.size))).kind=ndKind w.kind from rfl,show (nAlt w (b.tops (A.length+1)) (y.tops (A.length+1+b.size))).root=w.root from rfl,show (nAlt w (b.tops (A.length+1)) (y.tops (A.length+1+b.size))).has=true from rfl,show (nAlt w (b.tops (A.length+1)) (y.tops (A.length+1+b.size))).body=some (b.tops (A.length+1)) from rfl,show (nAlt w (b.tops (A.length+1)) (y.tops (A.length+1+b.size))).els=some (y.tops (A.length+1+b.size)) from rfl,hk2',show ((2:UInt8) == 0)=false from rfl,show ((2:UInt8) == 1)=false from rfl,show ((2:UInt8) == 4)=false from rfl,show ((2:UInt8) == 2)=true from rfl,Bool.false_eq_true,if_false,h73,tu0,tu1,asAg3,th0,th1,th2,elems6,h72,h73b]
  simp only [List.append_assoc,List.singleton_append,List.cons_append]
  simp only [in_at,Option.bind_some]
  rw [set_to out.length rfl _ (out.length+2+isz b) (by simp only [List.length_map,List.length_append,List.length_cons,comp_len,List.length_nil];omega)]
  have hyc:=hcally (out ++ ⟨2,[],w.root, .ro 1 nl,0,out.length+2+isz b⟩ :: (comp (out.length+1) b c ++ [⟨3,[],false, .nils,0,0⟩])) (by simp only [List.length_append,List.length_cons,List.length_nil,comp_len];omega)
  simp only [List.length_append,List.length_cons,comp_len,List.length_nil,Nat.zero_add,List.nil_append] at hyc ⊢
  simp only [hyc,Option.bind_some,tu0,tu1,asAg3,th0,th1,th2,elems6]
  apply r72_20
  have hX:(out ++ ⟨2,[],w.root, .ro 1 nl,0,out.length+2+isz b⟩ :: comp (out.length+1) b c).length=out.length+(isz b+1):=by rw [List.length_append,List.length_cons,comp_len]
  have esh:∀ (i:In) (R:List In),out ++ ⟨2,[],w.root, .ro 1 nl,0,out.length+2+isz b⟩ :: (comp (out.length+1) b c ++ [i]) ++ R=(out ++ ⟨2,[],w.root, .ro 1 nl,0,out.length+2+isz b⟩ :: comp (out.length+1) b c) ++ i :: R:=by intro i R;simp
  have hin:=in_at (X:=out ++ ⟨2,[],w.root, .ro 1 nl,0,out.length+2+isz b⟩ :: comp (out.length+1) b c) (R:=comp (out.length+(isz b+1+1)) y c) (i:=⟨3,[],false, .nils,0,0⟩)
  rw [hX] at hin
  simp only [X72_20,esh,hin,Option.bind_some]
  rw [set_to _ hX.symm _ (out.length+2+isz b+isz y) (by simp only [List.length_map,List.length_append,List.length_cons,comp_len,List.length_nil];omega)]
  apply c26 (by omega)
  have hkk:=hk2 ((out ++ ⟨2,[],w.root, .ro 1 nl,0,out.length+2+isz b⟩ :: comp (out.length+1) b c) ++ ⟨3,[],false, .nils,0,out.length+2+isz b+isz y⟩ :: comp (out.length+(isz b+1+1)) y c) (by simp only [List.length_append,List.length_cons,List.length_nil,comp_len];omega)
  simp only [List.length_append,List.length_cons,comp_len,List.length_nil,Nat.zero_add,List.nil_append] at hkk ⊢
  rw [hkk]
  simp only [comp,n2,List.append_assoc,List.cons_append,List.nil_append]
  rw [show out.length+(isz b+1)+(isz y+1)=out.length+2+isz b+isz y by omega,show out.length+(isz b+1+1)=out.length+2+isz b by omega]
end R3K

namespace R3K
open Go Go.Proofs Sx
variable {mx:Int}
noncomputable def body43:Code:=(Tryd.f43.body).getD .skip
noncomputable def X43 (call:CallT) (run:RunT) (a0:List UInt8):Option AV :=
 (call 41 [.s a0, .ag [.u8 0, .u8 0, .b false, .u8 0, .u8 0, .u8 0, .u8 0, .b false, .u8 0, .s []]]).bind fun v1=>(tupI v1 0).bind fun v2=>(tupI v1 1).bind fun v3=>(tupI v1 2).bind fun v4=>(tupI v1 3).bind fun v5=>(AV.asAg 2 v2).bind fun v6=>(AV.asAg 10 v3).bind fun v7=>(binI .eql v5 (.int 0)).bind fun v8=>(selW v8 true ((binAg [.i, .i, .b, .i, .i, .i, .i, .b, .i, .s] .neq (.ag [v7.getD 0 .un,v7.getD 1 .un,v7.getD 2 .un,v7.getD 3 .un,v7.getD 4 .un,v7.getD 5 .un,v7.getD 6 .un,v7.getD 7 .un,v7.getD 8 .un,v7.getD 9 .un]) (.ag [.u8 0, .u8 0, .b false, .u8 0, .u8 0, .u8 0, .u8 0, .b false, .u8 0, .s []])).bind fun v9=>some v9) (.b false)).bind fun v10=>condM v10
 (some (.tu [.ag [.nils, .nils], .int (a0.length:Int), .int 8]))
 (some (.tu [.ag [v6.getD 0 .un,v6.getD 1 .un],v4,v5]))
section
variable (call:CallT) (run:RunT) (a0:List UInt8)
theorem text43:unr (C mx) call run 43 Tryd.f43 400 [.code body43] (initF (C mx) 43 Tryd.f43.ntmps [.s a0])=X43 call run a0:=by
 kernel_rfl
theorem c43 {r:AV} (h:X43 (semCall (C mx) Tryd.prog) (semRun (C mx) Tryd.prog 43 Tryd.f43) a0=some r):semCall (C mx) Tryd.prog 43 [.s a0]=some r :=
 semCall_unr (fn:=Tryd.f43) (c:=body43) (by kernel_rfl) (by kernel_rfl) 400 (by kernel_rfl) ((text43 _ _ a0).trans h)
end
end R3K

namespace R3K
open Go Go.Proofs Sx
variable {mx:Int}
noncomputable def body45:Code:=(Tryd.f45.body).getD .skip
noncomputable def X45 (call:CallT) (run:RunT)  : Option AV :=
 (call 46 [.s [123,123,120,125,125]]).bind fun v1=>(tupI v1 0).bind fun v2=>(tupI v1 1).bind fun v3=>(tupI v1 2).bind fun v4=>(binI .eql v4 (.int 0)).bind fun v5=>(selW v5 true ((lenR v2).bind fun v6=>(binI .eql v6 (.int 2)).bind fun v7=>some v7) (.b false)).bind fun v8=>(selW v8 true ((idx 6 v2 (.int 0)).bind fun v9=>(binI .eql (AV.cell v9 0) (.u8 1)).bind fun v10=>some v10) (.b false)).bind fun v11=>(selW v11 true ((idx 6 v2 (.int 1)).bind fun v12=>(binI .eql (AV.cell v12 0) (.u8 7)).bind fun v13=>some v13) (.b false)).bind fun v14=>some v14
section
variable (call:CallT) (run:RunT)
theorem text45:unr (C mx) call run 45 Tryd.f45 400 [.code body45] (initF (C mx) 45 Tryd.f45.ntmps [])=X45 call run  := by
 kernel_rfl
theorem c45 {r:AV} (h:X45 (semCall (C mx) Tryd.prog) (semRun (C mx) Tryd.prog 45 Tryd.f45)  = some r):semCall (C mx) Tryd.prog 45 []=some r :=
 semCall_unr (fn:=Tryd.f45) (c:=body45) (by kernel_rfl) (by kernel_rfl) 400 (by kernel_rfl) ((text45 _ _ ).trans h)
end
end R3K

namespace R3K
open Go Go.Proofs Sx
variable {mx:Int}
noncomputable def body46:Code:=(Tryd.f46.body).getD .skip
noncomputable def X46 (call:CallT) (run:RunT) (a0:List UInt8):Option AV :=
 (call 43 [.s a0]).bind fun v1=>(tupI v1 0).bind fun v2=>(tupI v1 1).bind fun v3=>(tupI v1 2).bind fun v4=>(AV.asAg 2 v2).bind fun v5=>(binI .neq v4 (.int 0)).bind fun v6=>condM v6
 (some (.tu [.nils,v3,v4]))
 ((call 72 [.un,v5.getD 1 .un, .ag [v5.getD 0 .un,v5.getD 1 .un, .ro 6 []]]).bind fun v7=>(tupI v7 0).bind fun v8=>(tupI v7 1).bind fun v9=>(AV.asAg 3 v9).bind fun v10=>(call 73 [.un, .ag [.u8 7, .s [], .b false, .nils, .u8 0, .int 0], .ag [v10.getD 0 .un,v10.getD 1 .un, .ro 6 (AV.elems (v10.getD 2 .un))]]).bind fun v11=>(tupI v11 0).bind fun v12=>(tupI v11 1).bind fun v13=>(AV.asAg 3 v13).bind fun v14=>some (.tu [.ro 6 (AV.elems (v14.getD 2 .un)), .int 0, .int 0]))
section
variable (call:CallT) (run:RunT) (a0:List UInt8)
theorem text46:unr (C mx) call run 46 Tryd.f46 400 [.code body46] (initF (C mx) 46 Tryd.f46.ntmps [.s a0])=X46 call run a0:=by
 kernel_rfl
theorem c46 {r:AV} (h:X46 (semCall (C mx) Tryd.prog) (semRun (C mx) Tryd.prog 46 Tryd.f46) a0=some r):semCall (C mx) Tryd.prog 46 [.s a0]=some r :=
 semCall_unr (fn:=Tryd.f46) (c:=body46) (by kernel_rfl) (by kernel_rfl) 400 (by kernel_rfl) ((text46 _ _ a0).trans h)
end
end R3K

namespace R3K
open Go Go.Proofs Sx R3 R3I
variable {mx:Int}
theorem j41 (l:List UInt8) (c:Ctx) (h:NmS c):semCall (C mx) Tryd.prog 41 [.s l,c.toAV]=some (fragAV l c) :=
 semCall_gv (G:=G41) rfl rfl (by
  show (match ctxOf c.toAV with | some c=>if c.nm.length < 9223372036854775808 then some (fragAV l c) else none | none=>none)=_
  rw [ctxOf_toAV]
  exact if_pos h)
theorem z0:Ctx.toAV ⟨0,0,false,0,0,0,0,false,0,[]⟩=(st1 0).toAV:=rfl
theorem nz:NmS (st1 0):=by show (0:Nat) < _;decide
theorem q0 (a b c d:AV):tupI (.tu [a,b,c,d]) 0=some a:=rfl
theorem q1 (a b c d:AV):tupI (.tu [a,b,c,d]) 1=some b:=rfl
theorem q2 (a b c d:AV):tupI (.tu [a,b,c,d]) 2=some c:=rfl
theorem q3 (a b c d:AV):tupI (.tu [a,b,c,d]) 3=some d:=rfl
theorem p0 (a b c:AV):tupI (.tu [a,b,c]) 0=some a:=rfl
theorem p1 (a b c:AV):tupI (.tu [a,b,c]) 1=some b:=rfl
theorem p2 (a b c:AV):tupI (.tu [a,b,c]) 2=some c:=rfl
theorem asAg2 (a b:AV):AV.asAg 2 (.ag [a,b])=some [a,b]:=rfl
theorem templ_ok {l:List UInt8} {ts:Ts} (h:Frag l (st1 0) ts (st1 0)):semCall (C mx) Tryd.prog 43 [.s l]=some (.tu [.ag [.ro 9 ((arrH 0 ts (st1 0)).map Nd.av), .ro 1 (numsAV (ts.tops 0))], .int 0, .int 0]):=by
 apply c43
 have x1:=(j41 (mx:=mx) l (st1 0) nz).trans (congrArg some h.av)
 simp only [X43,mk_toAV,z0,x1,Option.bind_some,q0,q1,q2,q3,asAg2,asAg_toAV,ten0,ten1,ten2,ten3,ten4,ten5,ten6,ten7,ten8,ten9,mk_eta,ne_toAV,Sx.int_eql,selW_and,condM_b,List.getD_cons_zero,List.getD_cons_succ,decide_true,Bool.not_true,Bool.and_false,Bool.false_eq_true,if_false]
theorem frag_flat {l:List UInt8} {c d:Ctx} {ts:Ts} (h:Frag l c ts d):ts.flat.length≤65536∧NmW ts:=by
 have h1:=lx_words h.lx
 have h2:=wordsF_len (l.length+1) l 0 []
 have h3:=wordsF_nm2 (l.length+1) l 0 [] (fun w hw=>by simp at hw)
 unfold wordsW at h1
 rw [h1] at h2 h3
 simp only [List.length_nil] at h2
 have:=h.len
 exact ⟨by omega,h3⟩
def haltI:In:=⟨7,[],false, .nils,0,0⟩
theorem compile_ok {l:List UInt8} {ts:Ts} (h:Frag l (st1 0) ts (st1 0)):semCall (C mx) Tryd.prog 46 [.s l]=some (.tu [.ro 6 ((comp 0 ts (st1 0) ++ [haltI]).map In.av), .int 0, .int 0]):=by
 apply c46
 obtain ⟨g1,g2⟩:=frag_flat h
 have g3:=isz_flat ts
 have g4:=size_isz ts
 have g5:=tops_len ts 0
 have h72:=wok_call (mx:=mx) (T:=.ro 1 (numsAV (ts.tops 0))) (wok ts) (N:=arrH 0 ts (st1 0)) (A:=[]) (B:=[]) (c:=st1 0) (l:=ts.tops 0) (out:=[]) (by simp) rfl (by omega) (by simp;omega) h.ok g2
 have h72:semCall (C mx) Tryd.prog 72 [.un, .ro 1 (numsAV (ts.tops 0)), .ag [.ro 9 ((arrH 0 ts (st1 0)).map Nd.av), .ro 1 (numsAV (ts.tops 0)), .ro 6 []]]=_:=h72
 have h73:semCall (C mx) Tryd.prog 73 [.un, .ag [.u8 7, .s [], .b false, .nils, .u8 0, .int 0], .ag [.ro 9 ((arrH 0 ts (st1 0)).map Nd.av), .ro 1 (numsAV (ts.tops 0)), .ro 6 ((comp 0 ts (st1 0)).map In.av)]]=_:=s73 (mx:=mx) haltI (.ro 9 ((arrH 0 ts (st1 0)).map Nd.av)) (.ro 1 (numsAV (ts.tops 0))) (comp 0 ts (st1 0)) (by rw [comp_len];omega)
 simp only [List.nil_append,List.length_nil] at h72
 simp only [X46,templ_ok h,Option.bind_some,p0,p1,p2,asAg2,Sx.int_neq,bne_self_eq_false,condM_b,Bool.false_eq_true,if_false,List.getD_cons_zero,List.getD_cons_succ,h72,tu0,tu1,asAg3,elems6,h73]
end R3K

namespace R3K
open Go Go.Proofs Sx
variable {mx:Int}
noncomputable def body48:Code:=(Tryd.f48.body).getD .skip
section
variable (run:RunT) (a0:List AV) (a1 a2:AV) (a3:Int)
noncomputable def K48_3:List Item:=(kAt 3 body48 []).getD []
def S48_3:St:=St.ofL [(3, .cell (.own 300003 59 1 a0)),(6, .cell (.val a1)),(7, .cell (.val a2)),(8, .cell (.val (.int a3)))] []
noncomputable def F48_3:Option AV:=run K48_3 (S48_3 a0 a1 a2 a3)
end
section
variable (run:RunT) (a0:List AV) (a1 a2:AV) (a3:Int)
noncomputable def K48_7:List Item:=(kAt 7 body48 []).getD []
def S48_7:St:=St.ofL [(3, .cell (.own 300003 59 1 a0)),(6, .cell (.val a1)),(7, .cell (.val a2)),(8, .cell (.val (.int a3)))] []
noncomputable def F48_7:Option AV:=run K48_7 (S48_7 a0 a1 a2 a3)
end
noncomputable def X48 (call:CallT) (run:RunT) (a0:AV):Option AV :=
 (lenR a0).bind fun v1=>F48_3 run [] a0 v1 0
section
variable (call:CallT) (run:RunT) (a0:AV)
theorem text48:unr (C mx) call run 48 Tryd.f48 400 [.code body48] (initF (C mx) 48 Tryd.f48.ntmps [a0])=X48 call run a0:=by
 kernel_rfl
theorem c48 {r:AV} (h:X48 (semCall (C mx) Tryd.prog) (semRun (C mx) Tryd.prog 48 Tryd.f48) a0=some r):semCall (C mx) Tryd.prog 48 [a0]=some r :=
 semCall_unr (fn:=Tryd.f48) (c:=body48) (by kernel_rfl) (by kernel_rfl) 400 (by kernel_rfl) ((text48 _ _ a0).trans h)
end
noncomputable def X48_3 (call:CallT) (run:RunT) (a0:List AV) (a1 a2:AV) (a3:Int):Option AV :=
 (binI .lss (.int a3) a2).bind fun v1=>condM v1
 ((idx 6 a1 (.int a3)).bind fun v2=>(binI .eql (AV.cell v2 0) (.u8 1)).bind fun v3=>condM v3
 ((AV.one (AV.cell v2 4)).bind fun v4=>(app 1 1 a0 (.ro 1 (([v4]:List AV)))).bind fun v5=>F48_7 run v5 a1 a2 a3)
 (F48_7 run a0 a1 a2 a3))
 (some (.ro 1 a0))
section
variable (call:CallT) (run:RunT) (a0:List AV) (a1 a2:AV) (a3:Int)
theorem text48_3:step (C mx) call 48 Tryd.f48 (unr (C mx) call run 48 Tryd.f48 400) K48_3 (S48_3 a0 a1 a2 a3)=X48_3 call run a0 a1 a2 a3:=by
 kernel_rfl
end
noncomputable def X48_7 (call:CallT) (run:RunT) (a0:List AV) (a1 a2:AV) (a3:Int):Option AV :=
 F48_3 run a0 a1 a2 (w64 (a3+1))
section
variable (call:CallT) (run:RunT) (a0:List AV) (a1 a2:AV) (a3:Int)
theorem text48_7:step (C mx) call 48 Tryd.f48 (unr (C mx) call run 48 Tryd.f48 400) K48_7 (S48_7 a0 a1 a2 a3)=X48_7 call run a0 a1 a2 a3:=by
 kernel_rfl
end
section
variable (a0:List AV) (a1 a2:AV) (a3:Int)
theorem r48_3 {r:AV} (h:X48_3 (semCall (C mx) Tryd.prog) (semRun (C mx) Tryd.prog 48 Tryd.f48) a0 a1 a2 a3=some r):F48_3 (semRun (C mx) Tryd.prog 48 Tryd.f48) a0 a1 a2 a3=some r :=
 semRun_unr 400 ((text48_3 _ _ a0 a1 a2 a3).trans h)
end
section
variable (a0:List AV) (a1 a2:AV) (a3:Int)
theorem r48_7 {r:AV} (h:X48_7 (semCall (C mx) Tryd.prog) (semRun (C mx) Tryd.prog 48 Tryd.f48) a0 a1 a2 a3=some r):F48_7 (semRun (C mx) Tryd.prog 48 Tryd.f48) a0 a1 a2 a3=some r :=
 semRun_unr 400 ((text48_7 _ _ a0 a1 a2 a3).trans h)
end
end R3K

namespace R3K
open Go Go.Proofs Sx
variable {mx:Int}
noncomputable def body49:Code:=(Tryd.f49.body).getD .skip
section
variable (run:RunT) (a0 a1 a2 a3:AV) (a4:Int)
noncomputable def K49_3:List Item:=(kAt 3 body49 []).getD []
def S49_3:St:=St.ofL [(3, .cell (.val a0)),(4, .cell (.val a1)),(7, .cell (.val a2)),(8, .cell (.val a3)),(9, .cell (.val (.int a4)))] []
noncomputable def F49_3:Option AV:=run K49_3 (S49_3 a0 a1 a2 a3 a4)
end
section
variable (run:RunT) (a0 a1 a2 a3:AV) (a4:Int)
noncomputable def K49_11:List Item:=(kAt 11 body49 []).getD []
def S49_11:St:=St.ofL [(3, .cell (.val a0)),(4, .cell (.val a1)),(7, .cell (.val a2)),(8, .cell (.val a3)),(9, .cell (.val (.int a4)))] []
noncomputable def F49_11:Option AV:=run K49_11 (S49_11 a0 a1 a2 a3 a4)
end
noncomputable def X49 (call:CallT) (run:RunT) (a0:AV):Option AV :=
 (lenR a0).bind fun v1=>F49_3 run (.int 0) (.int 0) a0 v1 0
section
variable (call:CallT) (run:RunT) (a0:AV)
theorem text49:unr (C mx) call run 49 Tryd.f49 400 [.code body49] (initF (C mx) 49 Tryd.f49.ntmps [a0])=X49 call run a0:=by
 kernel_rfl
theorem c49 {r:AV} (h:X49 (semCall (C mx) Tryd.prog) (semRun (C mx) Tryd.prog 49 Tryd.f49) a0=some r):semCall (C mx) Tryd.prog 49 [a0]=some r :=
 semCall_unr (fn:=Tryd.f49) (c:=body49) (by kernel_rfl) (by kernel_rfl) 400 (by kernel_rfl) ((text49 _ _ a0).trans h)
end
noncomputable def X49_3 (call:CallT) (run:RunT) (a0 a1 a2 a3:AV) (a4:Int):Option AV :=
 (binI .lss (.int a4) a3).bind fun v1=>condM v1
 ((idx 6 a2 (.int a4)).bind fun v2=>(binI .eql (AV.cell v2 0) (.u8 4)).bind fun v3=>condM v3
 ((binI .add a1 (.int 1)).bind fun v4=>(mm false a0 v4).bind fun v5=>F49_11 run v5 v4 a2 a3 a4)
 ((binI .eql (AV.cell v2 0) (.u8 5)).bind fun v6=>condM v6
 ((binI .sub a1 (.int 1)).bind fun v7=>(mm false v7 (.int 0)).bind fun v8=>F49_11 run a0 v8 a2 a3 a4)
 (F49_11 run a0 a1 a2 a3 a4)))
 (some a0)
section
variable (call:CallT) (run:RunT) (a0 a1 a2 a3:AV) (a4:Int)
theorem text49_3:step (C mx) call 49 Tryd.f49 (unr (C mx) call run 49 Tryd.f49 400) K49_3 (S49_3 a0 a1 a2 a3 a4)=X49_3 call run a0 a1 a2 a3 a4:=by
 kernel_rfl
end
noncomputable def X49_11 (call:CallT) (run:RunT) (a0 a1 a2 a3:AV) (a4:Int):Option AV :=
 F49_3 run a0 a1 a2 a3 (w64 (a4+1))
section
variable (call:CallT) (run:RunT) (a0 a1 a2 a3:AV) (a4:Int)
theorem text49_11:step (C mx) call 49 Tryd.f49 (unr (C mx) call run 49 Tryd.f49 400) K49_11 (S49_11 a0 a1 a2 a3 a4)=X49_11 call run a0 a1 a2 a3 a4:=by
 kernel_rfl
end
section
variable (a0 a1 a2 a3:AV) (a4:Int)
theorem r49_3 {r:AV} (h:X49_3 (semCall (C mx) Tryd.prog) (semRun (C mx) Tryd.prog 49 Tryd.f49) a0 a1 a2 a3 a4=some r):F49_3 (semRun (C mx) Tryd.prog 49 Tryd.f49) a0 a1 a2 a3 a4=some r :=
 semRun_unr 400 ((text49_3 _ _ a0 a1 a2 a3 a4).trans h)
end
section
variable (a0 a1 a2 a3:AV) (a4:Int)
theorem r49_11 {r:AV} (h:X49_11 (semCall (C mx) Tryd.prog) (semRun (C mx) Tryd.prog 49 Tryd.f49) a0 a1 a2 a3 a4=some r):F49_11 (semRun (C mx) Tryd.prog 49 Tryd.f49) a0 a1 a2 a3 a4=some r :=
 semRun_unr 400 ((text49_11 _ _ a0 a1 a2 a3 a4).trans h)
end
end R3K

namespace R3K
open Go Go.Proofs Sx R3 R3I
variable {mx:Int}
def opA (e:AV):UInt8:=match e.cell 0 with | .u8 x=>x | _=>0
def hlA (e:AV):UInt8:=match e.cell 4 with | .u8 x=>x | _=>0
def Good (e:AV):Prop:=e.cell 0=.u8 (opA e)∧e.cell 4=.u8 (hlA e)
def hls (P:List AV):List UInt8:=(P.filter fun e=>opA e == 1).map hlA
def dstep (s:Nat×Nat) (e:AV):Nat×Nat:=if opA e == 4 then (max s.1 (s.2+1),s.2+1) else if opA e == 5 then (s.1,s.2 - 1) else s
def dep (P:List AV) (s:Nat×Nat):Nat×Nat:=P.foldl dstep s
theorem idx6 {P:List AV} {i:Nat} (h:i < P.length):idx 6 (.ro 6 P) (.int (i:Int))=some P[i]:=idx_get 6 h
theorem one_u8' (x:UInt8):AV.one (.u8 x)=some (.u8 x):=rfl
theorem app1 {l:List AV} {x:AV} (h:l.length≤2000000):app 1 1 l (.ro 1 [x])=some (l ++ [x]):=by
 show ((if 1=1 then some [x] else none).bind fun q=>if (l.length+q.length) * 1≤big then some (l ++ q) else none)=_
 rw [if_pos rfl]
 simp only [Option.bind_some,List.length_cons,List.length_nil,Nat.zero_add,Nat.mul_one]
 rw [if_pos (Nat.le_trans (m:=4000000) (by omega) (by decide))]
theorem l48 (P:List AV) (hP:∀ e ∈ P,Good e) (hl:P.length≤2000000):∀ (m i:Nat) (acc:List AV),P.length=i+m→acc.length≤i →
  F48_3 (semRun (C mx) Tryd.prog 48 Tryd.f48) acc (.ro 6 P) (.int (P.length:Int)) (i:Int)=some (.ro 1 (acc ++ (hls (P.drop i)).map .u8))
 | 0,i,acc,hi,ha=>by
  apply r48_3
  have e:decide ((i:Int) < (P.length:Int))=false:=by rw [decide_eq_false_iff_not];omega
  simp only [X48_3,Sx.int_lss,e,Option.bind_some,condM_b,Bool.false_eq_true,if_false]
  rw [List.drop_eq_nil_of_le (by omega)]
  simp [hls]
 | m+1,i,acc,hi,ha=>by
  apply r48_3
  have hlt:i < P.length:=by omega
  have e:decide ((i:Int) < (P.length:Int))=true:=by rw [decide_eq_true_eq];omega
  have e3:w64 ((i:Int)+1)=((i+1:Nat):Int):=by rw [w64_eq (by omega) (by omega)];omega
  obtain ⟨g1,g2⟩:=hP _ (List.getElem_mem hlt)
  have hd:hls (P.drop i)=(if opA P[i] == 1 then [hlA P[i]] else []) ++ hls (P.drop (i+1)):=by
   rw [List.drop_eq_getElem_cons hlt]
   unfold hls
   rw [List.filter_cons]
   split <;> simp
  simp only [X48_3,Sx.int_lss,e,Option.bind_some,condM_b,if_true,idx6 hlt,g1,g2,u8_eql,one_u8',app1 (l:=acc) (by omega)]
  rw [hd]
  cases hk:(opA P[i] == 1) with
  | true =>
   simp only [if_true]
   apply r48_7
   simp only [X48_7,e3]
   rw [l48 P hP hl m (i+1) _ (by omega) (by rw [List.length_append];simp;omega)]
   simp
  | false =>
   simp only [Bool.false_eq_true,if_false]
   apply r48_7
   simp only [X48_7,e3]
   rw [l48 P hP hl m (i+1) _ (by omega) (by omega)]
   simp
theorem s48 (P:List AV) (hP:∀ e ∈ P,Good e) (hl:P.length≤2000000):semCall (C mx) Tryd.prog 48 [.ro 6 P]=some (.ro 1 ((hls P).map .u8)):=by
 apply c48
 simp only [X48,lenR_ro,Option.bind_some]
 have:=l48 (mx:=mx) P hP hl P.length 0 [] (by omega) (by simp)
 rw [List.drop_zero,List.nil_append] at this
 exact this
theorem mm_int (p q:Nat):mm false (.int (p:Int)) (.int (q:Int))=some (.int ((max p q:Nat):Int)):=by
 show some (AV.int (if (q:Int) > p then (q:Int) else p))=_
 congr 2
 split <;> omega
theorem l49 (P:List AV) (hP:∀ e ∈ P,Good e) (hl:P.length≤2000000):∀ (m i:Nat) (a b:Nat),P.length=i+m→b≤i →
  F49_3 (semRun (C mx) Tryd.prog 49 Tryd.f49) (.int (a:Int)) (.int (b:Int)) (.ro 6 P) (.int (P.length:Int)) (i:Int)=some (.int ((dep (P.drop i) (a,b)).1:Int))
 | 0,i,a,b,hi,hb=>by
  apply r49_3
  have e:decide ((i:Int) < (P.length:Int))=false:=by rw [decide_eq_false_iff_not];omega
  simp only [X49_3,Sx.int_lss,e,Option.bind_some,condM_b,Bool.false_eq_true,if_false]
  rw [List.drop_eq_nil_of_le (by omega)]
  rfl
 | m+1,i,a,b,hi,hb=>by
  apply r49_3
  have hlt:i < P.length:=by omega
  have e:decide ((i:Int) < (P.length:Int))=true:=by rw [decide_eq_true_eq];omega
  have e3:w64 ((i:Int)+1)=((i+1:Nat):Int):=by rw [w64_eq (by omega) (by omega)];omega
  obtain ⟨g1,g2⟩:=hP _ (List.getElem_mem hlt)
  have ha:binI .add (.int (b:Int)) (.int 1)=some (.int ((b+1:Nat):Int)):=by rw [int_add (by omega) (by omega)];rfl
  have hs:binI .sub (.int (b:Int)) (.int 1)=some (.int ((b:Int) - 1)):=by
   show some (AV.int (w64 _))=_
   rw [w64_eq (by omega) (by omega)]
  have hm:mm false (.int ((b:Int) - 1)) (.int 0)=some (.int ((b - 1:Nat):Int)):=by
   show some (AV.int (if (0:Int) > (b:Int) - 1 then 0 else (b:Int) - 1))=_
   congr 2
   split <;> omega
  have hd:dep (P.drop i) (a,b)=dep (P.drop (i+1)) (dstep (a,b) P[i]):=by rw [List.drop_eq_getElem_cons hlt];rfl
  simp only [X49_3,Sx.int_lss,e,Option.bind_some,condM_b,if_true,idx6 hlt,g1,u8_eql,ha,hs,hm,mm_int]
  rw [hd]
  unfold dstep
  cases hk:(opA P[i] == 4) with
  | true =>
   simp only [if_true]
   apply r49_11
   simp only [X49_11,e3]
   exact l49 P hP hl m (i+1) _ _ (by omega) (by omega)
  | false =>
   simp only [Bool.false_eq_true,if_false]
   cases hk:(opA P[i] == 5) with
   | true =>
    simp only [if_true]
    apply r49_11
    simp only [X49_11,e3]
    exact l49 P hP hl m (i+1) _ _ (by omega) (by omega)
   | false =>
    simp only [Bool.false_eq_true,if_false]
    apply r49_11
    simp only [X49_11,e3]
    exact l49 P hP hl m (i+1) _ _ (by omega) (by omega)
theorem s49 (P:List AV) (hP:∀ e ∈ P,Good e) (hl:P.length≤2000000):semCall (C mx) Tryd.prog 49 [.ro 6 P]=some (.int ((dep P (0,0)).1:Int)):=by
 apply c49
 simp only [X49,lenR_ro,Option.bind_some]
 have:=l49 (mx:=mx) P hP hl P.length 0 0 0 (by omega) (by omega)
 rw [List.drop_zero] at this
 exact this
theorem xTs:Frag [123,123,120,125,125] (st1 0) (.leaf ⟨1,0,[],false, .ro 1 [.s [120]]⟩ .nil) (st1 0):=⟨rfl,rfl,by decide,words_lx awakeW,⟨⟨by decide,by decide,by decide,by decide⟩,trivial⟩,by decide,by kernel_rfl⟩
theorem s45:semCall (C mx) Tryd.prog 45 []=some (.b true):=by
 apply c45
 have h:=compile_ok (mx:=mx) xTs
 have e:comp 0 (.leaf ⟨1,0,[],false, .ro 1 [.s [120]]⟩ .nil) (st1 0)=[⟨1,[],false, .ro 1 [.s [120]],hole (st1 0),0⟩]:=rfl
 rw [e] at h
 simp only [X45,h,Option.bind_some,p0,p1,p2]
 rfl
end R3K

namespace R3K
open Go Go.Proofs Sx
variable {mx:Int}
noncomputable def body20:Code:=(Tryd.f20.body).getD .skip
section
variable (run:RunT) (a0:AV) (a1 a2:Int) (a3:List AV) (a4:Int)
noncomputable def K20_7:List Item:=(kAt 7 body20 []).getD []
def S20_7:St:=St.ofL [(0, .cell (.val a0)),(3, .cell (.val (.int a1))),(4, .cell (.val (.int a2))),(5, .cell (.own 300005 59 1 a3)),(6, .cell (.val (.int a4)))] []
noncomputable def F20_7:Option AV:=run K20_7 (S20_7 a0 a1 a2 a3 a4)
end
section
variable (run:RunT) (a0:AV) (a1 a2:Int) (a3:List AV) (a4:Int)
noncomputable def K20_8:List Item:=(kAt 8 body20 []).getD []
def S20_8:St:=St.ofL [(0, .cell (.val a0)),(3, .cell (.val (.int a1))),(4, .cell (.val (.int a2))),(5, .cell (.own 300005 59 1 a3)),(6, .cell (.val (.int a4)))] []
noncomputable def F20_8:Option AV:=run K20_8 (S20_8 a0 a1 a2 a3 a4)
end
section
variable (run:RunT) (a0:List AV) (a1:AV) (a2:Int)
noncomputable def K20_23:List Item:=(kAt 23 body20 []).getD []
def S20_23:St:=St.ofL [(5, .cell (.own 300005 59 1 a0)),(7, .cell (.val a1)),(8, .cell (.val (.int a2)))] []
noncomputable def F20_23:Option AV:=run K20_23 (S20_23 a0 a1 a2)
end
noncomputable def X20 (call:CallT) (run:RunT) (a0:AV):Option AV :=
 (call 45 []).bind fun v1=>(unop .not v1).bind fun v2=>condM v2
 (some (.b false))
 (F20_7 run a0 0 0 [] 0)
section
variable (call:CallT) (run:RunT) (a0:AV)
theorem text20:unr (C mx) call run 20 Tryd.f20 400 [.code body20] (initF (C mx) 20 Tryd.f20.ntmps [a0])=X20 call run a0:=by
 kernel_rfl
theorem c20 {r:AV} (h:X20 (semCall (C mx) Tryd.prog) (semRun (C mx) Tryd.prog 20 Tryd.f20) a0=some r):semCall (C mx) Tryd.prog 20 [a0]=some r :=
 semCall_unr (fn:=Tryd.f20) (c:=body20) (by kernel_rfl) (by kernel_rfl) 400 (by kernel_rfl) ((text20 _ _ a0).trans h)
end
noncomputable def X20_7 (call:CallT) (run:RunT) (a0:AV) (a1 a2:Int) (a3:List AV) (a4:Int):Option AV :=
 (lenR a0).bind fun v1=>(binI .lss (.int a4) v1).bind fun v2=>condM v2
 ((idx 6 a0 (.int a4)).bind fun v3=>(conv .i64 (AV.cell v3 0)).bind fun v4=>(binI .eql v4 (.int 1)).bind fun v5=>condM v5
 ((idx 6 a0 (.int a4)).bind fun v6=>(AV.one (AV.cell v6 4)).bind fun v7=>(app 1 1 a3 (.ro 1 (([v7]:List AV)))).bind fun v8=>F20_8 run a0 a1 a2 v8 a4)
 ((binI .eql v4 (.int 4)).bind fun v9=>condM v9
 (condM (.b (decide ((w64 (a2+1)) > a1)))
 (F20_8 run a0 (w64 (a2+1)) (w64 (a2+1)) a3 a4)
 (F20_8 run a0 a1 (w64 (a2+1)) a3 a4))
 ((binI .eql v4 (.int 5)).bind fun v10=>condM v10
 (condM (.b (decide (a2 > 0)))
 (F20_8 run a0 a1 (w64 (a2 - 1)) a3 a4)
 (F20_8 run a0 a1 a2 a3 a4))
 (F20_8 run a0 a1 a2 a3 a4))))
 ((call 48 [a0]).bind fun v11=>(call 49 [a0]).bind fun v12=>(binI .neq v12 (.int a1)).bind fun v13=>(selW v13 false ((lenR v11).bind fun v14=>(binI .neq v14 (.int (a3.length:Int))).bind fun v15=>some v15) (.b true)).bind fun v16=>condM v16
 (some (.b false))
 (F20_23 run a3 v11 0))
section
variable (call:CallT) (run:RunT) (a0:AV) (a1 a2:Int) (a3:List AV) (a4:Int)
theorem text20_7:step (C mx) call 20 Tryd.f20 (unr (C mx) call run 20 Tryd.f20 400) K20_7 (S20_7 a0 a1 a2 a3 a4)=X20_7 call run a0 a1 a2 a3 a4:=by
 kernel_rfl
end
noncomputable def X20_8 (call:CallT) (run:RunT) (a0:AV) (a1 a2:Int) (a3:List AV) (a4:Int):Option AV :=
 F20_7 run a0 a1 a2 a3 (w64 (a4+1))
section
variable (call:CallT) (run:RunT) (a0:AV) (a1 a2:Int) (a3:List AV) (a4:Int)
theorem text20_8:step (C mx) call 20 Tryd.f20 (unr (C mx) call run 20 Tryd.f20 400) K20_8 (S20_8 a0 a1 a2 a3 a4)=X20_8 call run a0 a1 a2 a3 a4:=by
 kernel_rfl
end
noncomputable def X20_23 (call:CallT) (run:RunT) (a0:List AV) (a1:AV) (a2:Int):Option AV :=
 (lenR a1).bind fun v1=>(binI .lss (.int a2) v1).bind fun v2=>condM v2
 ((idx 1 a1 (.int a2)).bind fun v3=>(inN a0.length (.int a2)).bind fun v4=>(binI .neq (AV.cell v3 0) (AV.cell (a0.getD v4 .un) 0)).bind fun v5=>condM v5
 (some (.b false))
 (F20_23 run a0 a1 (w64 (a2+1))))
 (some (.b true))
section
variable (call:CallT) (run:RunT) (a0:List AV) (a1:AV) (a2:Int)
theorem text20_23:step (C mx) call 20 Tryd.f20 (unr (C mx) call run 20 Tryd.f20 400) K20_23 (S20_23 a0 a1 a2)=X20_23 call run a0 a1 a2:=by
 kernel_rfl
end
section
variable (a0:AV) (a1 a2:Int) (a3:List AV) (a4:Int)
theorem r20_7 {r:AV} (h:X20_7 (semCall (C mx) Tryd.prog) (semRun (C mx) Tryd.prog 20 Tryd.f20) a0 a1 a2 a3 a4=some r):F20_7 (semRun (C mx) Tryd.prog 20 Tryd.f20) a0 a1 a2 a3 a4=some r :=
 semRun_unr 400 ((text20_7 _ _ a0 a1 a2 a3 a4).trans h)
end
section
variable (a0:AV) (a1 a2:Int) (a3:List AV) (a4:Int)
theorem r20_8 {r:AV} (h:X20_8 (semCall (C mx) Tryd.prog) (semRun (C mx) Tryd.prog 20 Tryd.f20) a0 a1 a2 a3 a4=some r):F20_8 (semRun (C mx) Tryd.prog 20 Tryd.f20) a0 a1 a2 a3 a4=some r :=
 semRun_unr 400 ((text20_8 _ _ a0 a1 a2 a3 a4).trans h)
end
section
variable (a0:List AV) (a1:AV) (a2:Int)
theorem r20_23 {r:AV} (h:X20_23 (semCall (C mx) Tryd.prog) (semRun (C mx) Tryd.prog 20 Tryd.f20) a0 a1 a2=some r):F20_23 (semRun (C mx) Tryd.prog 20 Tryd.f20) a0 a1 a2=some r :=
 semRun_unr 400 ((text20_23 _ _ a0 a1 a2).trans h)
end
end R3K

namespace R3K
open Go Go.Proofs Sx R3 R3I
variable {mx:Int}
theorem u8_int (o:UInt8) (k:Nat) (hk:k < 256):binI .eql (.int (o.toNat:Int)) (.int (k:Int))=some (.b (o == UInt8.ofNat k)):=by
 rw [Sx.int_eql]
 congr 2
 rw [Bool.eq_iff_iff]
 simp only [beq_iff_eq]
 constructor
 ·intro h
  have h:o.toNat=k:=by omega
  subst h
  simp
 ·intro h
  subst h
  simp
  omega
theorem l20b (P:List AV) (H:List UInt8) (hl:H.length≤2000000):∀ (m i:Nat),H.length=i+m →
  F20_23 (semRun (C mx) Tryd.prog 20 Tryd.f20) (H.map .u8) (.ro 1 (H.map .u8)) (i:Int)=some (.b true)
 | 0,i,hi=>by
  apply r20_23
  have e:decide ((i:Int) < ((H.map AV.u8).length:Int))=false:=by rw [decide_eq_false_iff_not,List.length_map];omega
  simp only [X20_23,lenR_ro,Sx.int_lss,e,Option.bind_some,condM_b,Bool.false_eq_true,if_false]
 | m+1,i,hi=>by
  apply r20_23
  have hlt:i < (H.map AV.u8).length:=by rw [List.length_map];omega
  have e:decide ((i:Int) < ((H.map AV.u8).length:Int))=true:=by rw [decide_eq_true_eq];omega
  have e3:w64 ((i:Int)+1)=((i+1:Nat):Int):=by rw [w64_eq (by omega) (by omega)];omega
  have hx:idx 1 (.ro 1 (H.map AV.u8)) (.int (i:Int))=some (H.map AV.u8)[i]:=idx_get 1 hlt
  have hg:(H.map AV.u8).getD i .un=(H.map AV.u8)[i]:=by rw [List.getD_eq_getElem?_getD,List.getElem?_eq_getElem hlt];rfl
  have hn:binI .neq ((H.map AV.u8)[i].cell 0) ((H.map AV.u8)[i].cell 0)=some (.b false):=by
   rw [List.getElem_map]
   show binI .neq (.u8 _) (.u8 _)=_
   rw [u8_neq];simp
  simp only [X20_23,lenR_ro,Sx.int_lss,e,Option.bind_some,condM_b,if_true,hx,inN_int hlt,hg,hn,Bool.false_eq_true,if_false,e3]
  exact l20b P H hl m (i+1) (by omega)
theorem l20 (P:List AV) (hP:∀ e ∈ P,Good e) (hl:P.length≤2000000):∀ (m i a b:Nat) (acc:List AV),P.length=i+m→b≤i→a≤i→acc.length≤i→acc ++ (hls (P.drop i)).map .u8=(hls P).map .u8→dep (P.drop i) (a,b)=dep P (0,0) →
  F20_7 (semRun (C mx) Tryd.prog 20 Tryd.f20) (.ro 6 P) (a:Int) (b:Int) acc (i:Int)=some (.b true)
 | 0,i,a,b,acc,hi,hb,ha',hc,h1,h2=>by
  apply r20_7
  have e:decide ((i:Int) < (P.length:Int))=false:=by rw [decide_eq_false_iff_not];omega
  rw [List.drop_eq_nil_of_le (by omega)] at h1 h2
  have h1:acc=(hls P).map .u8:=by simpa [hls] using h1
  have h2:a=(dep P (0,0)).1:=congrArg Prod.fst h2
  have hlh:(hls P).length≤2000000:=by
   unfold hls
   rw [List.length_map]
   exact Nat.le_trans (List.length_filter_le _ _) hl
  subst h1 h2
  simp only [X20_7,lenR_ro,Sx.int_lss,e,Option.bind_some,condM_b,Bool.false_eq_true,if_false,s48 P hP hl,s49 P hP hl,Sx.int_neq,bne_self_eq_false,selW_or,Bool.or_self]
  exact l20b P (hls P) hlh (hls P).length 0 (by omega)
 | m+1,i,a,b,acc,hi,hb,ha',hc,h1,h2=>by
  apply r20_7
  have hlt:i < P.length:=by omega
  have e:decide ((i:Int) < (P.length:Int))=true:=by rw [decide_eq_true_eq];omega
  have e3:w64 ((i:Int)+1)=((i+1:Nat):Int):=by rw [w64_eq (by omega) (by omega)];omega
  have eb:w64 ((b:Int)+1)=((b+1:Nat):Int):=by rw [w64_eq (by omega) (by omega)];omega
  obtain ⟨g1,g2⟩:=hP _ (List.getElem_mem hlt)
  have hd:hls (P.drop i)=(if opA P[i] == 1 then [hlA P[i]] else []) ++ hls (P.drop (i+1)):=by
   rw [List.drop_eq_getElem_cons hlt]
   unfold hls
   rw [List.filter_cons]
   split <;> simp
  have hdp:dep (P.drop i) (a,b)=dep (P.drop (i+1)) (dstep (a,b) P[i]):=by rw [List.drop_eq_getElem_cons hlt];rfl
  rw [hd] at h1
  rw [hdp] at h2
  unfold dstep at h2
  have c1:=u8_int (opA P[i]) 1 (by decide)
  have c4:=u8_int (opA P[i]) 4 (by decide)
  have c5:=u8_int (opA P[i]) 5 (by decide)
  have c1:binI .eql (.int ((opA P[i]).toNat:Int)) (.int 1)=some (.b (opA P[i] == 1)):=c1
  have c4:binI .eql (.int ((opA P[i]).toNat:Int)) (.int 4)=some (.b (opA P[i] == 4)):=c4
  have c5:binI .eql (.int ((opA P[i]).toNat:Int)) (.int 5)=some (.b (opA P[i] == 5)):=c5
  simp only [X20_7,lenR_ro,Sx.int_lss,e,Option.bind_some,condM_b,if_true,idx6 hlt,g1,g2,conv_int_u8,c1,c4,c5,one_u8',app1 (l:=acc) (by omega)]
  cases k1:(opA P[i] == 1) with
  | true =>
   rw [k1] at h1
   have k4:(opA P[i] == 4)=false:=by rw [eq_of_beq k1];rfl
   have k5:(opA P[i] == 5)=false:=by rw [eq_of_beq k1];rfl
   rw [k4,k5] at h2
   simp only [if_true,Bool.false_eq_true,if_false,List.singleton_append,List.map_cons] at h1 h2 ⊢
   apply r20_8
   simp only [X20_8,e3]
   exact l20 P hP hl m (i+1) a b _ (by omega) (by omega) (by omega) (by rw [List.length_append];simp;omega) (by simpa using h1) h2
  | false =>
   rw [k1] at h1
   simp only [Bool.false_eq_true,if_false,List.nil_append] at h1 ⊢
   cases k4:(opA P[i] == 4) with
   | true =>
    rw [k4] at h2
    simp only [if_true] at h2 ⊢
    rw [eb]
    by_cases hgt:b+1 > a
    ·rw [if_pos (by rw [decide_eq_true_eq];omega)]
     apply r20_8
     simp only [X20_8,e3]
     exact l20 P hP hl m (i+1) (b+1) (b+1) acc (by omega) (by omega) (by omega) (by omega) h1 (by rw [← h2,Nat.max_eq_right (by omega)])
    ·rw [if_neg (by rw [decide_eq_true_eq];omega)]
     apply r20_8
     simp only [X20_8,e3]
     exact l20 P hP hl m (i+1) a (b+1) acc (by omega) (by omega) (by omega) (by omega) h1 (by rw [← h2,Nat.max_eq_left (by omega)])
   | false =>
    rw [k4] at h2
    simp only [Bool.false_eq_true,if_false] at h2 ⊢
    cases k5:(opA P[i] == 5) with
    | true =>
     rw [k5] at h2
     simp only [if_true] at h2 ⊢
     by_cases hb0:b > 0
     ·have es:w64 ((b:Int) - 1)=((b - 1:Nat):Int):=by rw [w64_eq (by omega) (by omega)];omega
      rw [if_pos (by rw [decide_eq_true_eq];omega),es]
      apply r20_8
      simp only [X20_8,e3]
      exact l20 P hP hl m (i+1) a (b - 1) acc (by omega) (by omega) (by omega) (by omega) h1 h2
     ·rw [if_neg (by rw [decide_eq_true_eq];omega)]
      apply r20_8
      simp only [X20_8,e3]
      exact l20 P hP hl m (i+1) a b acc (by omega) (by omega) (by omega) (by omega) h1 (by rw [← h2,show b - 1=b by omega])
    | false =>
     rw [k5] at h2
     simp only [Bool.false_eq_true,if_false] at h2 ⊢
     apply r20_8
     simp only [X20_8,e3]
     exact l20 P hP hl m (i+1) a b acc (by omega) (by omega) (by omega) (by omega) h1 h2
theorem law20 (P:List AV) (hP:∀ e ∈ P,Good e) (hl:P.length≤2000000):semCall (C mx) Tryd.prog 20 [.ro 6 P]=some (.b true):=by
 apply c20
 have hun:unop .not (.b true)=some (.b false):=rfl
 simp only [X20,s45 (mx:=mx),Option.bind_some,hun,condM_b,Bool.false_eq_true,if_false]
 exact l20 P hP hl P.length 0 0 0 [] (by omega) (by omega) (by omega) (by simp) (by simp) (by simp)
end R3K
namespace Sx
open Go
theorem wt_pos_aux:∀ (ls:List Lf) (m:List AV),m.length=ls.length→(∀ (j:Nat) (a:Lf) (x:AV),ls[j]?=some a→m[j]?=some x→Is a x)→m.length≤wts m
 | [],[],_,_=>Nat.zero_le _
 | a :: ls,x :: m,hl,h=>by
  have h0:=h 0 a x rfl rfl
  have:=wt_pos_aux ls m (by simpa using hl) (fun j l0 y hb hy=>h (j+1) l0 y hb hy)
  have h1:1≤wt x:=by cases h0 <;> simp [wt]
  simp only [wts,List.length_cons]
  omega
theorem len_slA {ls:List Lf} {a:AV} (hn:0 < ls.length) (h:IsArg false [.sl true ls] a):∃ ms:List (List AV),a=.ro ls.length (ms.map .ag)∧(∀ m ∈ ms,m.length=ls.length∧∀ (j:Nat) (a:Lf) (x:AV),ls[j]?=some a→m[j]?=some x→Is a x)∧ms.length≤wt a:=by
 obtain ⟨lf,e,h⟩:=h
 cases e
 cases h with
 | slA ls ms hl h hm =>
  refine ⟨ms,rfl,fun m hmm=>⟨hl m hmm,h m hmm⟩,?_⟩
  have key:∀ ms:List (List AV),(∀ m ∈ ms,m.length=ls.length)→(∀ m ∈ ms,∀ (j:Nat) (a:Lf) (x:AV),ls[j]?=some a→m[j]?=some x→Is a x)→ms.length≤wts (ms.map .ag):=by
   intro ms
   induction ms with
   | nil=>intro _ _;exact Nat.zero_le _
   | cons m r ih =>
    intro hl h
    have h1:=wt_pos_aux ls m (hl m (by simp)) (h m (by simp))
    have h2:=ih (fun x hx=>hl x (by simp [hx])) (fun x hx=>h x (by simp [hx]))
    have h3:=hl m (by simp)
    simp only [List.map_cons,wts,wt,List.length_cons]
    omega
  have:=key ms hl h
  simp only [wt]
  omega
end Sx
namespace R3K
open Go Sx
theorem is_instrs {a:AV} (h:IsArg false [.sl true [.u8, .s, .b, .sl false [.s], .u8, .int]] a):∃ P:List AV,a=.ro 6 P∧(∀ e ∈ P,Good e)∧P.length≤wt a:=by
 obtain ⟨ms,rfl,hm,hw⟩:=len_slA (by decide) h
 refine ⟨ms.map .ag,rfl,fun e he=>?_,by rw [List.length_map];exact hw⟩
 obtain ⟨m,hmm,rfl⟩:=List.mem_map.1 he
 obtain ⟨h1,h2⟩:=hm m hmm
 match m,h1,h2 with
 | [x0,x1,x2,x3,x4,x5],_,h2 =>
  have i0:=h2 0 _ x0 rfl rfl
  have i4:=h2 4 _ x4 rfl rfl
  cases i0;cases i4
  exact ⟨rfl,rfl⟩
end R3K

namespace Go.Proofs.YtgjfbalafdifgaaDoor
open Sx
mutual
theorem bulk_eq {H:Type}:∀ d:DataW H,Rows.uptoBulk d=bulk d
 | .lit l=>by cases l <;> simp only [Rows.uptoBulk,bulk]
 | .nil=>by simp only [Rows.uptoBulk,bulk]
 | .ptr d=>by simp only [Rows.uptoBulk,bulk,bulk_eq d]
 | .slice elems spare=>by simp only [Rows.uptoBulk,bulk,bulkAll_eq elems,bulkAll_eq spare]
 | .agg parts=>by simp only [Rows.uptoBulk,bulk,bulkAll_eq parts]
 | .iface _ d=>by simp only [Rows.uptoBulk,bulk,bulk_eq d]
 | .map entries=>by simp only [Rows.uptoBulk,bulk,bulkEntries_eq entries]
 | .held _=>by simp only [Rows.uptoBulk,bulk]
theorem bulkAll_eq {H:Type}:∀ l:List (DataW H),Rows.uptoBulkAll l=bulkAll l
 | []=>by simp only [Rows.uptoBulkAll,bulkAll]
 | d :: r=>by simp only [Rows.uptoBulkAll,bulkAll,bulk_eq d,bulkAll_eq r]
theorem bulkEntries_eq {H:Type}:∀ l:List (Lit×DataW H),Rows.uptoBulkEntries l=bulkEntries l
 | []=>by simp only [Rows.uptoBulkEntries,bulkEntries]
 | x :: r=>by simp only [Rows.uptoBulkEntries,bulkEntries,bulkEntry_eq x,bulkEntries_eq r]
theorem bulkEntry_eq {H:Type}:∀ x:Lit×DataW H,Rows.uptoBulkEntry x=bulkEntry x
 | (l,d)=>by cases l <;> simp only [Rows.uptoBulkEntry,bulkEntry,bulk_eq d]
end
end Go.Proofs.YtgjfbalafdifgaaDoor
