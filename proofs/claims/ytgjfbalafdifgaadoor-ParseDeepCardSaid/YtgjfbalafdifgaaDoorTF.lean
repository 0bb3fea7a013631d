/-
  A part of ParseDeep's proof: an evaluator of translated functions over plain data, what functions of this seat come to, and laws on plain data.
-/
import Derived.Test.YtgjfbalafdifgaaDoorTD
import Derived.Test.YtgjfbalafdifgaaDoorProg
import Derived.Test.YtgjfbalafdifgaaDoorTE
import Derived.Test.YtgjfbalafdifgaaDoorTC
set_option linter.unusedVariables false
set_option linter.unusedSimpArgs false
set_option linter.unusedSectionVars false
set_option linter.unnecessarySimpa false
namespace R3
open Go Go.Proofs Sx
variable {mx:Int}
noncomputable def body3:Code:=(Tryd.f3.body).getD .skip
noncomputable def X3 (call:CallT) (run:RunT) (a0:List UInt8):Option AV :=
 (call 22 []).bind fun v1=>(unop .not v1).bind fun v2=>(selW v2 true (some (.b true)) (.b false)).bind fun v3=>(selW v3 true (some (.b true)) (.b false)).bind fun v4=>condM v4
 (some (.b false))
 ((call 23 [.s a0]).bind fun v5=>(tupI v5 0).bind fun v6=>(tupI v5 1).bind fun v7=>(tupI v5 2).bind fun v8=>condM (.b (decide ((a0.length:Int) > 65536)))
 ((binI .eql v8 (.int 2)).bind fun v9=>(selW v9 true ((binI .eql v7 (.int 0)).bind fun v10=>some v10) (.b false)).bind fun v11=>(selW v11 true ((lenR v6).bind fun v12=>(binI .eql v12 (.int 0)).bind fun v13=>some v13) (.b false)).bind fun v14=>some v14)
 ((call 24 [.s a0]).bind fun v15=>(tupI v15 0).bind fun v16=>(tupI v15 1).bind fun v17=>(binI .geq v17 (.int 0)).bind fun v18=>condM v18
 ((binI .eql v8 (.int 4)).bind fun v19=>(selW v19 true ((binI .eql v7 v17).bind fun v20=>some v20) (.b false)).bind fun v21=>(selW v21 true ((lenR v6).bind fun v22=>(binI .eql v22 (.int 0)).bind fun v23=>some v23) (.b false)).bind fun v24=>some v24)
 ((binI .eql v8 (.int 0)).bind fun v25=>(selW v25 true ((binI .eql v7 (.int 0)).bind fun v26=>some v26) (.b false)).bind fun v27=>(selW v27 true ((call 25 [v6,v16]).bind fun v28=>some v28) (.b false)).bind fun v29=>some v29)))
section
variable (call:CallT) (run:RunT) (a0:List UInt8)
theorem text3:unr (C mx) call run 3 Tryd.f3 400 [.code body3] (initF (C mx) 3 Tryd.f3.ntmps [.s a0])=X3 call run a0:=by
 kernel_rfl
theorem c3 {r:AV} (h:X3 (semCall (C mx) Tryd.prog) (semRun (C mx) Tryd.prog 3 Tryd.f3) a0=some r):semCall (C mx) Tryd.prog 3 [.s a0]=some r :=
 semCall_unr (fn:=Tryd.f3) (c:=body3) (by kernel_rfl) (by kernel_rfl) 400 (by kernel_rfl) ((text3 _ _ a0).trans h)
end
end R3

namespace R3
open Go Go.Proofs Sx
variable {mx:Int}
theorem occ_app (p r sub:List UInt8) (k:Nat):Lib.occAt (p ++ r) sub (p.length+k)=Lib.occAt r sub k:=by
 unfold Lib.occAt
 rw [← List.drop_drop,List.drop_left]
theorem app64 (w:Wd) (acc:List Wd) (h:acc.length≤1000000000):app 64 5 (acc.map Wd.av) (.ro 5 ([w.av]:List AV))=some ((acc ++ [w]).map Wd.av):=by
 have hb:big=70368744177664:=rfl
 show ((if 5=5 then some [w.av] else none).bind fun q=>if ((acc.map Wd.av).length+q.length) * 64≤big then some (acc.map Wd.av ++ q) else none)=_
 rw [if_pos rfl]
 simp only [Option.bind_some,List.length_map,List.length_cons,List.length_nil,hb]
 rw [if_pos (by omega),List.map_append];rfl
theorem idxO_no (r:List UInt8) (k:Nat) (h:k < idxO r):Lib.occAt r brO k=false:=by
 unfold idxO at h
 rcases Lib.index_spec r brO with ⟨h1,h2⟩ | ⟨i,h1,h2,h3,h4⟩
 ·rw [if_pos (by omega)] at h
  exact h2 k (by omega)
 ·rw [if_neg (by omega),h1] at h
  exact h4 k h
theorem idxO_end (r:List UInt8):idxO r=r.length∨(idxO r < r.length∧Lib.occAt r brO (idxO r)=true):=by
 unfold idxO
 rcases Lib.index_spec r brO with ⟨h1,h2⟩ | ⟨i,h1,h2,h3,h4⟩
 ·rw [if_pos (by omega)];exact Or.inl rfl
 ·rw [if_neg (by omega),h1]
  have:=Lib.index_room r brO (by omega)
  have e:(brO.length:Int)=2:=rfl
  exact Or.inr ⟨by omega,h3⟩
theorem l24_5 (p r:List UInt8) (hl:(p ++ r).length≤1000000000) (acc:List AV) (R:Option AV)
  (hR:(condM (.b (decide (((p.length+idxO r:Nat):Int) > (p.length:Int))))
 ((slS (.s (p ++ r)) (some (.int (p.length:Int))) (some (.int ((p.length+idxO r:Nat):Int)))).bind fun v4=>(AV.one v4).bind fun v5=>(app 64 5 acc (.ro 5 (([.ag [.u8 0, .int (p.length:Int),v5, .b false, .nils]]:List AV)))).bind fun v6=>F24_3 (semRun (C mx) Tryd.prog 24 Tryd.f24) (p ++ r) v6 ((p.length+idxO r:Nat):Int))
 (F24_11 (semRun (C mx) Tryd.prog 24 Tryd.f24) (p ++ r) acc (p.length:Int) (w64 ((p.length:Int)+2))))=R) (hs:∃ x,R=some x):∀ (d k:Nat),k+d=idxO r →
  F24_5 (semRun (C mx) Tryd.prog 24 Tryd.f24) (p ++ r) acc (p.length:Int) ((p.length+k:Nat):Int)=R
 | 0,k,e=>by
  obtain rfl:k=idxO r:=by omega
  obtain ⟨x,rfl⟩:=hs
  apply r24_5
  have hle:=idxO_le r
  have hpl:p.length+r.length≤1000000000:=by simpa using hl
  have h55:=s55 (mx:=mx) (p ++ r) [123,123] (p.length+idxO r) hl (by simp;omega) (by decide)
  rw [occ_app] at h55
  rcases idxO_end r with h | ⟨h,ho⟩
  ·have hd:decide (((p.length+idxO r:Nat):Int) < ((p ++ r).length:Int))=false:=by rw [decide_eq_false_iff_not,List.length_append];omega
   simp only [X24_5,hd,h55,Option.bind_some,unop_not,selW_and,Bool.false_and,condM_b,Bool.false_eq_true,if_false]
   simpa only [condM_b] using hR
  ·have hd:decide (((p.length+idxO r:Nat):Int) < ((p ++ r).length:Int))=true:=by rw [decide_eq_true_eq,List.length_append];omega
   have ho':Lib.occAt r [123,123] (idxO r)=true:=ho
   rw [ho'] at h55
   simp only [X24_5,hd,h55,Option.bind_some,unop_not,selW_and,Bool.not_true,Bool.and_false,condM_b,Bool.false_eq_true,if_false]
   simpa only [condM_b] using hR
 | d+1,k,e=>by
  have ih:=l24_5 p r hl acc R hR hs d (k+1) (by omega)
  obtain ⟨x,rfl⟩:=hs
  apply r24_5
  have hle:=idxO_le r
  have hpl:p.length+r.length≤1000000000:=by simpa using hl
  have h55:=s55 (mx:=mx) (p ++ r) [123,123] (p.length+k) hl (by simp;omega) (by decide)
  rw [occ_app,show Lib.occAt r [123,123] k=false from idxO_no r k (by omega)] at h55
  have hd:decide (((p.length+k:Nat):Int) < ((p ++ r).length:Int))=true:=by rw [decide_eq_true_eq,List.length_append];omega
  have hw:w64 (((p.length+k:Nat):Int)+1)=((p.length+(k+1):Nat):Int):=by rw [w64_eq (by omega) (by omega)];omega
  simp only [X24_5,hd,h55,hw,Option.bind_some,unop_not,selW_and,Bool.not_false,Bool.and_true,condM_b,if_true]
  exact ih
def idxC (r:List UInt8):Nat:=if Lib.index r brC < 0 then r.length else (Lib.index r brC).toNat
theorem idxC_no (r:List UInt8) (k:Nat) (h:k < idxC r):Lib.occAt r brC k=false:=by
 unfold idxC at h
 rcases Lib.index_spec r brC with ⟨h1,h2⟩ | ⟨i,h1,h2,h3,h4⟩
 ·rw [if_pos (by omega)] at h
  exact h2 k (by omega)
 ·rw [if_neg (by omega),h1] at h
  exact h4 k h
theorem idxC_end (r:List UInt8):(Lib.index r brC < 0∧idxC r=r.length)∨(Lib.index r brC=(idxC r:Int)∧idxC r+2≤r.length∧Lib.occAt r brC (idxC r)=true):=by
 unfold idxC
 rcases Lib.index_spec r brC with ⟨h1,h2⟩ | ⟨i,h1,h2,h3,h4⟩
 ·rw [if_pos (by omega)];exact Or.inl ⟨by omega,rfl⟩
 ·rw [if_neg (by omega),h1]
  have:=Lib.index_room r brC (by omega)
  have e:(brC.length:Int)=2:=rfl
  exact Or.inr ⟨rfl,by omega,h3⟩
theorem l24_11 (p r:List UInt8) (hl:(p ++ r).length≤1000000000) (acc:List AV) (R:Option AV)
  (hR:(condM (.b (decide (((p.length+idxC r:Nat):Int) ≥ ((p ++ r).length:Int))))
 (some (.tu [.ro 5 acc, .int (p.length:Int)]))
 ((slS (.s (p ++ r)) (some (.int (w64 ((p.length:Int)+2)))) (some (.int ((p.length+idxC r:Nat):Int)))).bind fun v4=>(semCall (C mx) Tryd.prog 56 [v4]).bind fun v5=>(tupI v5 0).bind fun v6=>(tupI v5 1).bind fun v7=>(AV.asAg 5 v6).bind fun v8=>(unop .not v7).bind fun v9=>condM v9
 (some (.tu [.ro 5 acc, .int (p.length:Int)]))
 ((app 64 5 acc (.ro 5 (([.ag [v8.getD 0 .un, .int (p.length:Int),v8.getD 2 .un,v8.getD 3 .un,v8.getD 4 .un]]:List AV)))).bind fun v10=>F24_3 (semRun (C mx) Tryd.prog 24 Tryd.f24) (p ++ r) v10 (w64 (((p.length+idxC r:Nat):Int)+2)))))=R) (hs:∃ x,R=some x):∀ (d k:Nat),k+d=idxC r →
  F24_11 (semRun (C mx) Tryd.prog 24 Tryd.f24) (p ++ r) acc (p.length:Int) ((p.length+k:Nat):Int)=R
 | 0,k,e=>by
  obtain rfl:k=idxC r:=by omega
  obtain ⟨x,rfl⟩:=hs
  apply r24_11
  have hle:idxC r≤r.length:=by rcases idxC_end r with h | h <;> omega
  have hpl:p.length+r.length≤1000000000:=by simpa using hl
  have h55:=s55 (mx:=mx) (p ++ r) [125,125] (p.length+idxC r) hl (by simp;omega) (by decide)
  rw [occ_app] at h55
  rcases idxC_end r with ⟨_,h⟩ | ⟨_,h,ho⟩
  ·have hd:decide (((p.length+idxC r:Nat):Int) < ((p ++ r).length:Int))=false:=by rw [decide_eq_false_iff_not,List.length_append];omega
   simp only [X24_11,hd,h55,Option.bind_some,unop_not,selW_and,Bool.false_and,condM_b,Bool.false_eq_true,if_false]
   simpa only [condM_b] using hR
  ·have hd:decide (((p.length+idxC r:Nat):Int) < ((p ++ r).length:Int))=true:=by rw [decide_eq_true_eq,List.length_append];omega
   have ho':Lib.occAt r [125,125] (idxC r)=true:=ho
   rw [ho'] at h55
   simp only [X24_11,hd,h55,Option.bind_some,unop_not,selW_and,Bool.not_true,Bool.and_false,condM_b,Bool.false_eq_true,if_false]
   simpa only [condM_b] using hR
 | d+1,k,e=>by
  have ih:=l24_11 p r hl acc R hR hs d (k+1) (by omega)
  obtain ⟨x,rfl⟩:=hs
  apply r24_11
  have hle:idxC r≤r.length:=by rcases idxC_end r with h | h <;> omega
  have hpl:p.length+r.length≤1000000000:=by simpa using hl
  have h55:=s55 (mx:=mx) (p ++ r) [125,125] (p.length+k) hl (by simp;omega) (by decide)
  rw [occ_app,show Lib.occAt r [125,125] k=false from idxC_no r k (by omega)] at h55
  have hd:decide (((p.length+k:Nat):Int) < ((p ++ r).length:Int))=true:=by rw [decide_eq_true_eq,List.length_append];omega
  have hw:w64 (((p.length+k:Nat):Int)+1)=((p.length+(k+1):Nat):Int):=by rw [w64_eq (by omega) (by omega)];omega
  simp only [X24_11,hd,h55,hw,Option.bind_some,unop_not,selW_and,Bool.not_false,Bool.and_true,condM_b,if_true]
  exact ih
def refAV (q:List Wd×Int):AV:=.tu [.ro 5 (q.1.map Wd.av), .int q.2]
theorem l24:∀ (n:Nat) (r p:List UInt8) (acc:List Wd),r.length≤n→(p ++ r).length≤1000000000→acc.length≤p.length →
  F24_3 (semRun (C mx) Tryd.prog 24 Tryd.f24) (p ++ r) (acc.map Wd.av) (p.length:Int)=some (refAV (wordsF (n+1) r p.length acc)):=by
 intro n
 induction n with
 | zero =>
  intro r p acc hr hp ha
  obtain rfl:=List.eq_nil_of_length_eq_zero (Nat.le_zero.1 hr)
  apply r24_3
  have:decide ((p.length:Int) < ((p ++ []).length:Int))=false:=by simp
  simp only [X24_3,this,condM_b,Bool.false_eq_true,if_false]
  rfl
 | succ n ih =>
  intro r p acc hr hp ha
  cases r with
  | nil =>
   apply r24_3
   have:decide ((p.length:Int) < ((p ++ []).length:Int))=false:=by simp
   simp only [X24_3,this,condM_b,Bool.false_eq_true,if_false]
   rfl
  | cons x r' =>
   obtain ⟨r,hreq⟩:∃ r,r=x :: r':=⟨_,rfl⟩
   rw [← hreq] at hr hp ⊢
   have hne:r.isEmpty=false:=by rw [hreq];rfl
   have hpos:0 < r.length:=by rw [hreq];simp
   have hpl:p.length+r.length≤1000000000:=by simpa using hp
   have hio:=idxO_le r
   apply r24_3
   have hlt:decide ((p.length:Int) < ((p ++ r).length:Int))=true:=by rw [decide_eq_true_eq];simp;omega
   simp only [X24_3,hlt,condM_b,if_true]
   rw [wordsF,if_neg (by rw [hne];decide)]
   refine l24_5 p r hp (acc.map Wd.av) _ ?_ ⟨_,rfl⟩ (idxO r) 0 (by omega)
   by_cases hi:0 < idxO r
   ·have hgt:decide (((p.length+idxO r:Nat):Int) > (p.length:Int))=true:=by rw [decide_eq_true_eq];omega
    have hc:=app64 (litW p.length (r.take (idxO r))) acc (by omega)
    have hw:(litW p.length (r.take (idxO r))).av=.ag [.u8 0, .int (p.length:Int), .s (r.take (idxO r)), .b false, .nils]:=rfl
    rw [hw] at hc
    have:=ih (r.drop (idxO r)) (p ++ r.take (idxO r)) (acc ++ [litW p.length (r.take (idxO r))]) (by rw [List.length_drop];omega) (by rw [List.append_assoc,List.take_append_drop];exact hp) (by simp;omega)
    have hlen:(p ++ r.take (idxO r)).length=p.length+idxO r:=by simp;omega
    rw [List.append_assoc,List.take_append_drop,hlen] at this
    simp only [hgt,sl_mid p r _ hio,one_s,hc,Option.bind_some,condM_b,if_true]
    rw [if_pos hi]
    exact this
   ·have hgt:decide (((p.length+idxO r:Nat):Int) > (p.length:Int))=false:=by rw [decide_eq_false_iff_not];omega
    rw [if_neg hi]
    simp only [hgt,condM_b,Bool.false_eq_true,if_false]
    have hr2:2≤r.length:=by
     have:=congrArg List.length (idxO_pre r (by omega) hpos)
     rw [List.length_take] at this
     have e:brO.length=2:=rfl
     omega
    have hw2:w64 ((p.length:Int)+2)=((p.length+2:Nat):Int):=by rw [w64_eq (by omega) (by omega)];omega
    rw [hw2]
    have hC2:2≤idxC r:=by
     rcases idxC_end r with ⟨_,h⟩ | ⟨h,_⟩
     ·omega
     ·exact idxC_ge r (by omega) hpos _ h
    refine l24_11 p r hp (acc.map Wd.av) _ ?_ ⟨_,rfl⟩ (idxC r - 2) 2 (by omega)
    rcases idxC_end r with ⟨h,h'⟩ | ⟨h,h',_⟩
    ·have hge:decide (((p.length+idxC r:Nat):Int) ≥ ((p ++ r).length:Int))=true:=by rw [decide_eq_true_eq,List.length_append];omega
     rw [if_pos h]
     simp only [hge,condM_b,if_true]
     rfl
    ·have hge:decide (((p.length+idxC r:Nat):Int) ≥ ((p ++ r).length:Int))=false:=by rw [decide_eq_false_iff_not,List.length_append];omega
     rw [if_neg (by omega),h,Int.toNat_natCast]
     generalize idxC r=j at *
     have a4:w64 (((p.length+j:Nat):Int)+2)=((p.length+(j+2):Nat):Int):=by rw [w64_eq (by omega) (by omega)];omega
     have hsl:=sl_act p r j hC2 (by omega)
     have hact:=s56 (mx:=mx) ((r.take j).drop 2) (by simp;omega)
     have hw:(actW ((r.take j).drop 2)).av=.tu [.ag [.u8 (actW ((r.take j).drop 2)).kind, .int 0, .s [], .b (actW ((r.take j).drop 2)).root,(actW ((r.take j).drop 2)).names], .b (actW ((r.take j).drop 2)).ok]:=rfl
     rw [hw] at hact
     have hc:=app64 (actWd p.length (actW ((r.take j).drop 2))) acc (by omega)
     have hw2:(actWd p.length (actW ((r.take j).drop 2))).av=.ag [.u8 (actW ((r.take j).drop 2)).kind, .int (p.length:Int), .s [], .b (actW ((r.take j).drop 2)).root,(actW ((r.take j).drop 2)).names]:=rfl
     rw [hw2] at hc
     have hih:=ih (r.drop (j+2)) (p ++ r.take (j+2)) (acc ++ [actWd p.length (actW ((r.take j).drop 2))]) (by rw [List.length_drop];omega) (by rw [List.append_assoc,List.take_append_drop];exact hp) (by simp;omega)
     have hlen:(p ++ r.take (j+2)).length=p.length+(j+2):=by simp;omega
     rw [List.append_assoc,List.take_append_drop,hlen] at hih
     generalize actW ((r.take j).drop 2)=A at *
     simp only [hge,a4,‹w64 ((p.length:Int)+2)=((p.length+2:Nat):Int)›,hsl,hact,tup2_0,tup2_1,asAg5,unop_not,Option.bind_some,condM_b,List.getD_cons_zero,List.getD_cons_succ,hc,Bool.false_eq_true,if_false]
     cases hA:A.ok with
     | false=>rfl
     | true =>
      simp only [Bool.not_true,Bool.false_eq_true,if_false,if_true]
      exact hih
theorem s24 (l:List UInt8) (h:l.length≤1000000000):semCall (C mx) Tryd.prog 24 [.s l]=some (refAV (wordsW l)):=by
 apply c24
 have:=l24 (mx:=mx) l.length l [] [] (Nat.le_refl _) (by simpa using h) (by simp)
 exact this
end R3

namespace R3
open Go Go.Proofs Go.RowKit Go.Shelf Sx
variable {mx:Int}
end R3

namespace R3
open Go Go.Proofs Go.RowKit Go.Shelf Sx
variable {mx:Int}
theorem word_cells {w:World} {F:Nat→Prop} {ws:List Wd} {aw:Option Addr} {cw i:Nat} (hw:Rel w F (.ro 5 (ws.map Wd.av)) (.slice aw ws.length cw)) (hi:i < ws.length) (hn:NmOk2 ws[i].names) :
  ∃ (r off:Nat) (q:ByteArray) (a4:Option Addr) (m4 c4:Nat),aw=some ⟨r,off,none⟩∧(w.cell? ⟨r,off+i * 5,none⟩=some (.int .u8 (ws[i].kind.toNat:Int))∧w.cell? ⟨r,off+i * 5+1,none⟩=some (.int .i64 (ws[i].at':Int))∧w.cell? ⟨r,off+i * 5+2,none⟩=some (.string q) ∧
   w.cell? ⟨r,off+i * 5+3,none⟩=some (.bool ws[i].root)∧w.cell? ⟨r,off+i * 5+4,none⟩=some (.slice a4 m4 c4))∧q.data.toList=ws[i].text∧Rel w F ws[i].names (.slice a4 m4 c4):=by
 have key:∀ (l:List AV) (v:Value),Rel w F (.ro 5 l) v→i < l.length→∃ (r off c:Nat) (x:Nat→Value),v=.slice (some ⟨r,off,none⟩) l.length c∧∀ j,j < 5→w.cell? ⟨r,off+i * 5+j,none⟩=some (x j)∧Rel w F ((l.getD i .un).cell j) (x j):=by
  intro l v h hi
  cases h with
  | ro0=>simp at hi
  | ro _ _ r off c xs hk hc hF hl hxx h1 hr =>
   refine ⟨r,off,c,fun j=>xs.getD (i * 5+j) undef,rfl,fun j hj=>?_⟩
   have hj':i * 5+j < xs.length:=by omega
   have h2:xs[i * 5+j]?=some xs[i * 5+j]:=List.getElem?_eq_getElem hj'
   show w.cell? _=some (xs.getD (i * 5+j) undef)∧Rel w F _ (xs.getD (i * 5+j) undef)
   rw [List.getD_eq_getElem?_getD (l:=xs),h2,Option.getD_some]
   refine ⟨?_,hr i j _ hi hj h2⟩
   rw [← hxx _ _ h2,Nat.add_assoc]
 obtain ⟨r,off,c,x,e,h⟩:=key _ _ hw (by simpa using hi)
 rw [List.length_map] at e
 cases e
 have ew:((ws.map Wd.av).getD i .un)=ws[i].av:=by rw [List.getD_eq_getElem?_getD,List.getElem?_map,List.getElem?_eq_getElem hi];rfl
 rw [ew] at h
 obtain ⟨y0,e0⟩:=h 0 (by decide)
 obtain ⟨y1,e1⟩:=h 1 (by decide)
 obtain ⟨y2,e2⟩:=h 2 (by decide)
 obtain ⟨y3,e3⟩:=h 3 (by decide)
 obtain ⟨y4,e4⟩:=h 4 (by decide)
 replace e0:Rel w F (.u8 ws[i].kind) (x 0):=e0
 replace e1:Rel w F (.int (ws[i].at':Int)) (x 1):=e1
 replace e2:Rel w F (.s ws[i].text) (x 2):=e2
 replace e3:Rel w F (.b ws[i].root) (x 3):=e3
 replace e4:Rel w F ws[i].names (x 4):=e4
 have s4:∃ (a:Option Addr) (m c:Nat),x 4=.slice a m c:=by
  rcases hn with e | ⟨y,l,e,_⟩
  ·rw [e] at e4;generalize x 4=v at e4;cases e4;exact ⟨_,_,_,rfl⟩
  ·rw [e] at e4;obtain ⟨ad,c,h,_⟩:=rel_ro_shape e4;exact ⟨_,_,_,h⟩
 obtain ⟨a4,m4,c4,h4⟩:=s4
 have g0:x 0=.int .u8 (ws[i].kind.toNat:Int):=by generalize x 0=v at e0;cases e0;rfl
 have g1:x 1=.int .i64 (ws[i].at':Int):=by generalize x 1=v at e1;cases e1;rfl
 have g2:∃ q:ByteArray,x 2=.string q∧q.data.toList=ws[i].text:=by
  generalize x 2=v at e2
  generalize ws[i].text=tt at e2
  cases e2;exact ⟨_,rfl,rfl⟩
 have g3:x 3=.bool ws[i].root:=by generalize x 3=v at e3;cases e3;rfl
 obtain ⟨q,g2,hq⟩:=g2
 rw [g0] at y0;rw [g1] at y1;rw [g2] at y2;rw [g3] at y3;rw [h4] at y4 e4
 exact ⟨r,off,q,a4,m4,c4,rfl,⟨y0,y1,y2,y3,y4⟩,hq,e4⟩
theorem info61:(Tryd.prog.info? 61).map (fun i=>(i.zero,i.size,i.bytes))=some (some (.agg #[.int .u8 0, .int .i64 0, .string ⟨#[]⟩, .bool false, .slice none 0 0, .slice none 0 0, .slice none 0 0, .bool false, .int .u8 0]),9,120):=by kernel_rfl
theorem info108:(Tryd.prog.info? 108).map (fun i=>(i.zero,i.size,i.bytes))=some (some (.agg #[.int .i64 0, .int .i64 0, .bool false]),3,24):=by kernel_rfl
theorem new_of (W:World) (l:List Value) (t:TypeId):∀ j u,l[j]?=some u→(W.alloc (.cells l.toArray t)).cell? ((⟨W.heap.size,0,none⟩:Addr).add j)=some u:=fun j u hu=>World.news_of_block (cs:=l.toArray) (World.alloc_heap_new W _) j u (by simpa using hu)
theorem add_eta (s:Ms) (n:List Nat):s.add n=⟨(s.add n).nodes,(s.add n).top,s.stack⟩:=by rw [← add_stack s n]
theorem PM.cap {w W:World} {F:Nat→Prop} {b7:Nat} {s:Ms} {X:List Vn} {tag:Nat→Tg} {vn vt:Value} {ad:Option Addr} {n c:Nat} (h:PM w F b7 s X tag vn vt (.slice ad n c) W):s.stack.length≤c:=by
 rcases h.sk.1.2 with ⟨e,h0⟩ | ⟨g,cap,cur,e,h1,h2,h3,_⟩
 ·omega
 ·cases e;exact h3
theorem all_callsF (s:ByteArray) (hs:s.size≤1000000000) (W:World) (hm:W.cell? ⟨1,0,none⟩=some (.int .i64 mx)):Calls Tryd.prog 24 #[.string s] W fun e W' =>
  ∃ (ad:Option Addr) (c:Nat),e=.returned (.tuple #[.slice ad (wordsW s.data.toList).1.length c, .int .i64 (wordsW s.data.toList).2])∧Ext W W' ∧
   Rel W' (fun b=>b < W.heap.size→b=1) (.ro 5 ((wordsW s.data.toList).1.map Wd.av)) (.slice ad (wordsW s.data.toList).1.length c):=by
 refine Calls.mono (calls_sem (fit mx) (c:=Tryd.f24.body.getD .skip) Tryd.func24 (by kernel_rfl) (s24 (mx:=mx) s.data.toList hs) (by kernel_rfl) W (fun b=>b=1) #[.string s] (globOk1 hm) rfl (arg1 (.s s))) fun e w' he=>?_
 obtain ⟨v,rfl,hx,hr⟩:=he
 generalize wordsW s.data.toList=ww at hr ⊢
 unfold ResOk at hr
 rw [if_pos (by kernel_rfl)] at hr
 unfold refAV at hr
 cases hr with
 | tu _ vs hl hj =>
  match vs,hl,hj with
  | [v0,v1],_,hj =>
   have h0:=hj 0 v0 rfl
   have h1:=hj 1 v1 rfl
   simp only [List.getD_cons_zero,List.getD_cons_succ] at h0 h1
   cases h1
   obtain ⟨ad,c,rfl,hc⟩:=rel_ro_shape h0
   rw [List.length_map] at hc h0 ⊢
   exact ⟨ad,c,rfl,hx,h0⟩
set_option maxRecDepth 100000 in
set_option maxHeartbeats 4000000 in
theorem doc_words (s:ByteArray) (w:World) (hm:w.cell? ⟨1,0,none⟩=some (.int .i64 mx)) (hs:s.data.toList.length≤65536) (hb:¬ 0≤(wordsW s.data.toList).2) {ws:List Wd} (hws:(wordsW s.data.toList).1=ws) (hl:ws.length≤100000) (hnm:∀ x ∈ ws,NmOk2 x.names) (hkd:∀ x ∈ ws,x.kind.toNat≤6) :
  CallsIn Fence.wide 7 Tryd.prog 36 #[.string s] w (DocPost w (fun b=>b=1) (mTree ws)):=by
 have hx1:Ext w (w.alloc (.cells #[.slice none 0 0, .slice none 0 0] 50)):=Ext.push w _
 have hsz:s.size=s.data.toList.length:=rfl
 have hlex:=all_callsF (mx:=mx) s (by omega) (w.alloc (.cells #[.slice none 0 0, .slice none 0 0] 50)) (ext_cell hx1 hm)
 rw [hws] at hlex
 generalize (wordsW s.data.toList).2=bad at hlex hb
 have hlt1:=cell_lt hm
 have hs1:((s.size:Nat):Int)≤65536:=by omega
 clear hsz hs hws
 refine callsIn_of_wp Tryd.func36 rfl trivial ?_ rfl
 simp only [Tryd.ntmps36,List.size_toArray,List.length_cons,List.length_nil,Nat.reduceAdd,Nat.reduceSub,Array.replicate_succ,Array.replicate_zero,List.push_toArray,List.append_toArray,List.nil_append,List.cons_append]
 gi_wp2_with (refine ⟨trivial,?_⟩;gi_at_call 24;refine (callsIn_wide.2 hlex).mono ?_;clear hlex;rintro e w2 ⟨ad,c,rfl,hx2,hwr⟩)
 have hA2:=(hx2.block w.heap.size (by simp)).trans (World.alloc_heap_new w (.cells #[.slice none 0 0, .slice none 0 0] 50))
 generalize hF:(fun b=>b < (w.alloc (.cells #[.slice none 0 0, .slice none 0 0] 50)).heap.size→b=1)=F at hwr
 have hinit:PM w2 F w2.heap.size ⟨[],[],[]⟩ [] (fun _=>.top) (.slice none 0 0) (.slice none 0 0) (.slice none 0 0) (w2.alloc (.cells #[.slice none 0 0, .slice none 0 0] 50)) :=
  ⟨Ext.push w2 _,Nat.le_refl _,World.alloc_heap_new w2 _,Row.nil _ _ _ _ _ _,Row.nil _ _ _ _ _ _,Row.nil _ _ _ _ _ _,rfl,fun i x y h=>by simp at h,fun i x y h=>by simp at h⟩
 gi_loopw [8,9] (fun v8 v9 wr=>∃ (i:Nat) (s':Ms) (X:List Vn) (tag:Nat→Tg) (vn vt:Value),v9=.int .i64 (i:Int)∧i≤ws.length∧mRun (ws.drop i) s'=mTree ws∧s'.wf∧s'.sz i∧PM w2 F w2.heap.size s' X tag vn vt v8 wr) (fun v8 v9 wr=>ws.length - (match v9 with | .int _ a=>a.toNat | _=>0))
 case atStart=>exact ⟨0,_,_,_,_,_,rfl,Nat.zero_le _,rfl,wf0,⟨Nat.le_refl _,Nat.le_refl _,fun y hy=>(by simp at hy),Nat.zero_le _⟩,hinit⟩
 case round =>
  obtain ⟨i,s',X,tag,vn,vt,rfl,hi,hrun,hwf,hsz,hpm⟩:=hrel
  by_cases hlt:i < ws.length
  ·obtain ⟨r,off,q,a4,m4,c4,rfl,⟨y0,y1,y2,y3,y4⟩,hq,hnr⟩:=word_cells (i:=i) hwr hlt (hnm _ (List.getElem_mem hlt))
   replace y0:=ext_cell hpm.ext y0
   replace y1:=ext_cell hpm.ext y1
   replace y2:=ext_cell hpm.ext y2
   replace y3:=ext_cell hpm.ext y3
   replace y4:=ext_cell hpm.ext y4
   have hk6:=hkd _ (List.getElem_mem hlt)
   have hnk:=hnm _ (List.getElem_mem hlt)
   rw [List.drop_eq_getElem_cons hlt,mRun] at hrun
   generalize ws[i]=wd at *
   obtain ⟨ads,cs,rfl⟩:=row_len hpm.sk.1
   have hl8:=hsz.stack
   have hext:=hpm.ext
   clear hinit hnm hkd hm hlt1 hs1
   obtain ⟨N,T,S⟩:=s'
   have hA2r:wr.heap[w.heap.size]?=some (.cells #[.slice none 0 0, .slice none 0 0] 50):=(hpm.ext.block _ (Array.getElem?_eq_some_iff.1 hA2).1).trans hA2
   simp only at hl8
   by_cases hk5:wd.kind=5
   ·rw [hk5] at y0
    rcases List.eq_nil_or_concat S with rfl | ⟨S,o,rfl⟩
    ·have hans:mTree ws=.bad wd.at' 4:=by rw [← hrun];unfold mStep;rw [if_neg (by simp [hk5]),if_pos (by simp [hk5])];rfl
     clear hrun
     simp only [List.length_nil] at *
     gi_wp2
     rw [wpIn_wide]
     have hx5:Ext wr (wr.alloc (.cells #[.int .u8 5, .int .i64 (wd.at':Int), .string q, .bool wd.root, .slice a4 m4 c4] 36)):=Ext.push wr _
     have hb5:=World.alloc_heap_new wr (.cells #[.int .u8 5, .int .i64 (wd.at':Int), .string q, .bool wd.root, .slice a4 m4 c4] 36)
     generalize wr.alloc (.cells #[.int .u8 5, .int .i64 (wd.at':Int), .string q, .bool wd.root, .slice a4 m4 c4] 36)=W5 at hx5 hb5 ⊢
     have p1:W5.cell? ⟨wr.heap.size,1,none⟩=some (.int .i64 (wd.at':Int)):=by simp [World.cell?,hb5]
     clear hb5
     have hA5:=(hx5.block _ (Array.getElem?_eq_some_iff.1 hA2r).1).trans hA2r
     obtain ⟨v1,v2,v3,v4⟩:=cell2 hA5
     have hne:wr.heap.size≠w.heap.size:=by have:=(Array.getElem?_eq_some_iff.1 hA2r).1;omega
     clear y0 y1 y2 y3 y4 hk6 hnr hnk hpm
     refine wp_region_plan (by kernel_rfl) [] (fun u v=>v.cell? ⟨wr.heap.size,1,none⟩=u.cell? ⟨wr.heap.size,1,none⟩) [(0,true),(1,true),(2,true),(3,false),(4,true),(5,true)]
      (by kernel_rfl) (by kernel_rfl) (by kernel_rfl) (fun _=>rfl) (fun _ _ _ h1 h2=>h2.trans h1) ?_
     iterate 3 (
      refine' wpQ_take ?_ ?_ ?_ ?_;rotate_left 2
      ·(simp only [List.getElem?_toArray,List.getElem?_cons_succ,List.getElem?_cons_zero];rfl)
      ·rfl
      ·(intro w' hE;have q1:=hE.trans p1;go_simp;try rfl)
      try simp only [Act.put,List.setIfInBounds_toArray,List.set_cons_zero,List.set_cons_succ])
     refine' wpQ_go ?_ ?_;rotate_left 1
     ·(simp only [List.getElem?_toArray,List.getElem?_cons_succ,List.getElem?_cons_zero];rfl)
     intro K hK
     go_simp
     refine hK.out _ _ (World.cell?_of_block ((set_other hne).trans (set_other hne))) ?_
     clear hK K
     try simp only [Act.put,List.setIfInBounds_toArray,List.set_cons_zero,List.set_cons_succ]
     iterate 2 (
      refine' wpQ_take ?_ ?_ ?_ ?_;rotate_left 2
      ·(simp only [List.getElem?_toArray,List.getElem?_cons_succ,List.getElem?_cons_zero];rfl)
      ·rfl
      ·(intro w' hE;go_simp;try rfl)
      try simp only [Act.put,List.setIfInBounds_toArray,List.set_cons_zero,List.set_cons_succ])
     refine wpQ_end ?_
     gi_wp2
     refine bodyPost_ret (results36 _ _ w.heap.size (.slice none 0 0) (.slice none 0 0) (.int .i64 (wd.at':Int)) (.int .i64 4) rfl rfl rfl (set_both _ _ hA5)) rfl ?_
     exact ⟨ext_set2 (ext_drew (hx1.trans (hx2.trans (hext.trans hx5)))) _ _,_,rfl,by rw [hans];exact rel_tri (rel_pair2 .nils .nils rfl rfl) (.int _) (.int _)⟩
    ·rw [List.concat_eq_append] at *
     have hst:mStep ⟨N,T,S ++ [o]⟩ wd=.inl ⟨N,T,S⟩:=step_end hk5 rfl
     have hwf':=wf_step hwf hst
     have hsz':=sz_step hsz hst
     rw [hst] at hrun
     simp only at hrun
     obtain ⟨gs,cap,hvs,-,-⟩:=hpm.last
     simp only [Value.slice.injEq] at hvs
     obtain ⟨rfl,-,rfl⟩:=hvs
     have el:(S ++ [o]).length=S.length+1:=by simp
     have hpm0:PM w2 F w2.heap.size ⟨N,T,S ++ [o]⟩ X tag vn vt (.slice (some ⟨gs,0,none⟩) (S.length+1) cs) wr:=by rw [← el];exact hpm
     have hpm':=(hpm0.ext' (Ext.push wr (.cells #[.int .u8 5, .int .i64 (wd.at':Int), .string q, .bool wd.root, .slice a4 m4 c4] 36))).pop
     have hcap:S.length+1≤cs:=by rw [← el];exact hpm.cap
     clear hpm hpm0 el hnr hk6 hnk hst hwf hsz hext
     simp only [List.length_append,List.length_cons,List.length_nil] at hl8 ⊢
     generalize hd:S.length=d at *
     gi_wp2
     exact ⟨⟨i+1,_,_,_,_,_,congrArg (Value.int .i64) (by omega),hlt,hrun,hwf',hsz',hpm'⟩,by show _ - Int.toNat _ < _ - Int.toNat _;omega⟩
   ·by_cases hk3:wd.kind=3
    ·rw [hk3] at y0
     rcases List.eq_nil_or_concat S with rfl | ⟨S,o,rfl⟩
     ·have hans:mTree ws=.bad wd.at' 4:=by rw [← hrun];unfold mStep;rw [if_pos (by simp [hk3])];rfl
      clear hrun
      simp only [List.length_nil] at *
      gi_wp2
      rw [wpIn_wide]
      have hx5:Ext wr (wr.alloc (.cells #[.int .u8 3, .int .i64 (wd.at':Int), .string q, .bool wd.root, .slice a4 m4 c4] 36)):=Ext.push wr _
      have hb5:=World.alloc_heap_new wr (.cells #[.int .u8 3, .int .i64 (wd.at':Int), .string q, .bool wd.root, .slice a4 m4 c4] 36)
      generalize wr.alloc (.cells #[.int .u8 3, .int .i64 (wd.at':Int), .string q, .bool wd.root, .slice a4 m4 c4] 36)=W5 at hx5 hb5 ⊢
      have p1:W5.cell? ⟨wr.heap.size,1,none⟩=some (.int .i64 (wd.at':Int)):=by simp [World.cell?,hb5]
      clear hb5
      have hA5:=(hx5.block _ (Array.getElem?_eq_some_iff.1 hA2r).1).trans hA2r
      obtain ⟨v1,v2,v3,v4⟩:=cell2 hA5
      have hne:wr.heap.size≠w.heap.size:=by have:=(Array.getElem?_eq_some_iff.1 hA2r).1;omega
      clear y0 y1 y2 y3 y4 hk6 hnr hnk hpm
      refine wp_region_plan (by kernel_rfl) [] (fun u v=>v.cell? ⟨wr.heap.size,1,none⟩=u.cell? ⟨wr.heap.size,1,none⟩) [(0,true),(1,true),(2,true),(3,false),(4,true),(5,true)]
       (by kernel_rfl) (by kernel_rfl) (by kernel_rfl) (fun _=>rfl) (fun _ _ _ h1 h2=>h2.trans h1) ?_
      iterate 3 (
       refine' wpQ_take ?_ ?_ ?_ ?_;rotate_left 2
       ·(simp only [List.getElem?_toArray,List.getElem?_cons_succ,List.getElem?_cons_zero];rfl)
       ·rfl
       ·(intro w' hE;have q1:=hE.trans p1;go_simp;try rfl)
       try simp only [Act.put,List.setIfInBounds_toArray,List.set_cons_zero,List.set_cons_succ])
      refine' wpQ_go ?_ ?_;rotate_left 1
      ·(simp only [List.getElem?_toArray,List.getElem?_cons_succ,List.getElem?_cons_zero];rfl)
      intro K hK
      go_simp
      refine hK.out _ _ (World.cell?_of_block ((set_other hne).trans (set_other hne))) ?_
      clear hK K
      try simp only [Act.put,List.setIfInBounds_toArray,List.set_cons_zero,List.set_cons_succ]
      iterate 2 (
       refine' wpQ_take ?_ ?_ ?_ ?_;rotate_left 2
       ·(simp only [List.getElem?_toArray,List.getElem?_cons_succ,List.getElem?_cons_zero];rfl)
       ·rfl
       ·(intro w' hE;go_simp;try rfl)
       try simp only [Act.put,List.setIfInBounds_toArray,List.set_cons_zero,List.set_cons_succ])
      refine wpQ_end ?_
      gi_wp2
      refine bodyPost_ret (results36 _ _ w.heap.size (.slice none 0 0) (.slice none 0 0) (.int .i64 (wd.at':Int)) (.int .i64 4) rfl rfl rfl (set_both _ _ hA5)) rfl ?_
      exact ⟨ext_set2 (ext_drew (hx1.trans (hx2.trans (hext.trans hx5)))) _ _,_,rfl,by rw [hans];exact rel_tri (rel_pair2 .nils .nils rfl rfl) (.int _) (.int _)⟩
     ·rw [List.concat_eq_append] at *
      obtain ⟨gs,cap,hvs,⟨s0,s1,s2⟩,sf⟩:=hpm.last
      simp only [Value.slice.injEq] at hvs
      obtain ⟨rfl,-,rfl⟩:=hvs
      have el:(S ++ [o]).length=S.length+1:=by simp
      have hpm0:PM w2 F w2.heap.size ⟨N,T,S ++ [o]⟩ X tag vn vt (.slice (some ⟨gs,0,none⟩) (S.length+1) cs) wr:=by rw [← el];exact hpm
      have hx5:Ext wr (wr.alloc (.cells #[.int .u8 3, .int .i64 (wd.at':Int), .string q, .bool wd.root, .slice a4 m4 c4] 36)):=Ext.push wr _
      have t0:=ext_cell hx5 s0
      have t1:=ext_cell hx5 s1
      have t2:=ext_cell hx5 s2
      have tf:(wr.alloc (.cells #[.int .u8 3, .int .i64 (wd.at':Int), .string q, .bool wd.root, .slice a4 m4 c4] 36)).frozen? ⟨gs,S.length * 3+2,none⟩=false:=(World.frozen?_of_block (hx5.block gs (cell_lt s0))).trans (sf _)
      simp only [List.length_append,List.length_cons,List.length_nil] at hl8 ⊢
      by_cases hg:o.kind=2∧o.els=false
      ·rw [hg.1] at s1 t1
       rw [hg.2] at s2 t2
       have hst:mStep ⟨N,T,S ++ [o]⟩ wd=.inl ⟨N.modify o.node fun x=>{ x with has:=true },T,S ++ [{ o with els:=true }]⟩:=by
        unfold mStep
        rw [if_pos (by simp [hk3])]
        simp [hg.1,hg.2]
       have hwf':=wf_step hwf hst
       have hsz':=sz_step hsz hst
       rw [hst] at hrun
       simp only at hrun
       have hon:o.node < N.length:=hwf o (by simp)
       have hpm6:=(hpm0.ext' hx5).setEls
       clear hx5 hpm hpm0 el hnr hk6 hnk hst hwf hsz hext sf
       generalize hd:S.length=d at *
       gi_wp2
       rw [wpIn_wide]
       generalize (wr.alloc (.cells #[.int .u8 3, .int .i64 (wd.at':Int), .string q, .bool wd.root, .slice a4 m4 c4] 36)).setCell ⟨gs,d * 3+2,none⟩ (.bool true)=W6 at hpm6 ⊢
       obtain ⟨gs',cap',hvs',⟨r0,-,-⟩,-⟩:=hpm6.last
       simp only [Value.slice.injEq,Option.some.injEq,Addr.mk.injEq] at hvs'
       obtain ⟨⟨rfl,-,-⟩,-,-⟩:=hvs'
       rw [hd] at r0
       obtain ⟨gn,cn,x,y,rfl,hx,hy,hcell,hfr⟩:=hpm6.node hon
       have hXl:X.length=N.length:=hpm6.len
       obtain ⟨v1,v2,v3,v4⟩:=cell2 hpm6.c7
       have fn7:=hfr (o.node * 9+7)
       have c7:=hcell 7 (by decide)
       have c7:W6.cell? ⟨gn,o.node * 9+7,none⟩=some (.bool x.has):=c7
       obtain ⟨X',hpm7⟩:=hpm6.setHas rfl hx
       clear t0 t1 t2 tf s0 s1 s2 y0 y1 y2 y3 y4 hcell hfr v3 v4
       simp only at hon v1 r0 c7 fn7
       generalize hk:o.node=k at *
       refine wp_region_plan (by kernel_rfl) [9] (fun u v=>v.cell? ⟨w2.heap.size,0,none⟩=u.cell? ⟨w2.heap.size,0,none⟩∧v.cell? ⟨gs,d * 3,none⟩=u.cell? ⟨gs,d * 3,none⟩) [(0,true),(1,true),(2,true),(3,true),(4,true),(5,true),(6,true),(7,true),(8,true),(9,false)]
        (by kernel_rfl) (by kernel_rfl) (by kernel_rfl) (fun _=>⟨rfl,rfl⟩) (fun _ _ _ h1 h2=>⟨h2.1.trans h1.1,h2.2.trans h1.2⟩) ?_
       iterate 9 (
        refine' wpQ_take ?_ ?_ ?_ ?_;rotate_left 2
        ·(simp only [List.getElem?_toArray,List.getElem?_cons_succ,List.getElem?_cons_zero];rfl)
        ·rfl
        ·(intro w' hE;have q1:=hE.1.trans v1;have q2:=hE.2.trans r0;go_simp;try rfl)
        try simp only [Act.put,List.setIfInBounds_toArray,List.set_cons_zero,List.set_cons_succ])
       refine' wpQ_wild ?_ (by kernel_rfl) ?_;rotate_left 1
       ·(simp only [List.getElem?_toArray,List.getElem?_cons_succ,List.getElem?_cons_zero];rfl)
       intro K hK
       go_simp
       refine hK.out _ _ ?_
       clear hK K
       refine wpQ_end ?_
       gi_wp2
       exact ⟨⟨i+1,_,_,_,_,_,congrArg (Value.int .i64) (by omega),hlt,hrun,hwf',hsz',hpm7.ext' (Ext.drew _ _)⟩,by show _ - Int.toNat _ < _ - Int.toNat _;omega⟩
      ·have hans:mTree ws=.bad wd.at' 4:=by
        rw [← hrun]
        unfold mStep
        rw [if_pos (by simp [hk3])]
        have:(o.kind != 2 || o.els)=true:=by
         rw [Bool.or_eq_true,bne_iff_ne]
         by_cases h2:o.kind=2
         ·right
          cases he:o.els with
          | true=>rfl
          | false=>exact absurd ⟨h2,he⟩ hg
         ·exact .inl h2
        simp [this]
       have hkind:(o.kind=2∧o.els=true)∨¬ ((o.kind.toNat:Int)=2):=by
        by_cases h2:o.kind=2
        ·left
         refine ⟨h2,?_⟩
         cases he:o.els with
         | true=>rfl
         | false=>exact absurd ⟨h2,he⟩ hg
        ·right
         intro e
         exact h2 (UInt8.toNat_inj.1 (by show _=2;omega))
       clear hrun hg
       generalize hd:S.length=d at *
       rcases hkind with ⟨e1,e2⟩ | hk2
       ·rw [e1] at t1 s1
        rw [e2] at t2 s2
        clear e1 e2
        gi_wp2
        rw [wpIn_wide]
        clear t0 t1 t2 tf
        have hx5:Ext wr (wr.alloc (.cells #[.int .u8 3, .int .i64 (wd.at':Int), .string q, .bool wd.root, .slice a4 m4 c4] 36)):=Ext.push wr _
        have hb5:=World.alloc_heap_new wr (.cells #[.int .u8 3, .int .i64 (wd.at':Int), .string q, .bool wd.root, .slice a4 m4 c4] 36)
        generalize wr.alloc (.cells #[.int .u8 3, .int .i64 (wd.at':Int), .string q, .bool wd.root, .slice a4 m4 c4] 36)=W5 at hx5 hb5 ⊢
        have p1:W5.cell? ⟨wr.heap.size,1,none⟩=some (.int .i64 (wd.at':Int)):=by simp [World.cell?,hb5]
        clear hb5
        have hA5:=(hx5.block _ (Array.getElem?_eq_some_iff.1 hA2r).1).trans hA2r
        obtain ⟨v1,v2,v3,v4⟩:=cell2 hA5
        have hne:wr.heap.size≠w.heap.size:=by have:=(Array.getElem?_eq_some_iff.1 hA2r).1;omega
        clear y0 y1 y2 y3 y4 hk6 hnr hnk hpm
        refine wp_region_plan (by kernel_rfl) [] (fun u v=>v.cell? ⟨wr.heap.size,1,none⟩=u.cell? ⟨wr.heap.size,1,none⟩) [(0,true),(1,true),(2,true),(3,false),(4,true),(5,true)]
         (by kernel_rfl) (by kernel_rfl) (by kernel_rfl) (fun _=>rfl) (fun _ _ _ h1 h2=>h2.trans h1) ?_
        iterate 3 (
         refine' wpQ_take ?_ ?_ ?_ ?_;rotate_left 2
         ·(simp only [List.getElem?_toArray,List.getElem?_cons_succ,List.getElem?_cons_zero];rfl)
         ·rfl
         ·(intro w' hE;have q1:=hE.trans p1;go_simp;try rfl)
         try simp only [Act.put,List.setIfInBounds_toArray,List.set_cons_zero,List.set_cons_succ])
        refine' wpQ_go ?_ ?_;rotate_left 1
        ·(simp only [List.getElem?_toArray,List.getElem?_cons_succ,List.getElem?_cons_zero];rfl)
        intro K hK
        go_simp
        refine hK.out _ _ (World.cell?_of_block ((set_other hne).trans (set_other hne))) ?_
        clear hK K
        try simp only [Act.put,List.setIfInBounds_toArray,List.set_cons_zero,List.set_cons_succ]
        iterate 2 (
         refine' wpQ_take ?_ ?_ ?_ ?_;rotate_left 2
         ·(simp only [List.getElem?_toArray,List.getElem?_cons_succ,List.getElem?_cons_zero];rfl)
         ·rfl
         ·(intro w' hE;go_simp;try rfl)
         try simp only [Act.put,List.setIfInBounds_toArray,List.set_cons_zero,List.set_cons_succ])
        refine wpQ_end ?_
        gi_wp2
        refine bodyPost_ret (results36 _ _ w.heap.size (.slice none 0 0) (.slice none 0 0) (.int .i64 (wd.at':Int)) (.int .i64 4) rfl rfl rfl (set_both _ _ hA5)) rfl ?_
        exact ⟨ext_set2 (ext_drew (hx1.trans (hx2.trans (hext.trans hx5)))) _ _,_,rfl,by rw [hans];exact rel_tri (rel_pair2 .nils .nils rfl rfl) (.int _) (.int _)⟩
       ·gi_wp2
        rw [wpIn_wide]
        clear t0 t1 t2 tf
        have hx5:Ext wr (wr.alloc (.cells #[.int .u8 3, .int .i64 (wd.at':Int), .string q, .bool wd.root, .slice a4 m4 c4] 36)):=Ext.push wr _
        have hb5:=World.alloc_heap_new wr (.cells #[.int .u8 3, .int .i64 (wd.at':Int), .string q, .bool wd.root, .slice a4 m4 c4] 36)
        generalize wr.alloc (.cells #[.int .u8 3, .int .i64 (wd.at':Int), .string q, .bool wd.root, .slice a4 m4 c4] 36)=W5 at hx5 hb5 ⊢
        have p1:W5.cell? ⟨wr.heap.size,1,none⟩=some (.int .i64 (wd.at':Int)):=by simp [World.cell?,hb5]
        clear hb5
        have hA5:=(hx5.block _ (Array.getElem?_eq_some_iff.1 hA2r).1).trans hA2r
        obtain ⟨v1,v2,v3,v4⟩:=cell2 hA5
        have hne:wr.heap.size≠w.heap.size:=by have:=(Array.getElem?_eq_some_iff.1 hA2r).1;omega
        clear y0 y1 y2 y3 y4 hk6 hnr hnk hpm
        refine wp_region_plan (by kernel_rfl) [] (fun u v=>v.cell? ⟨wr.heap.size,1,none⟩=u.cell? ⟨wr.heap.size,1,none⟩) [(0,true),(1,true),(2,true),(3,false),(4,true),(5,true)]
         (by kernel_rfl) (by kernel_rfl) (by kernel_rfl) (fun _=>rfl) (fun _ _ _ h1 h2=>h2.trans h1) ?_
        iterate 3 (
         refine' wpQ_take ?_ ?_ ?_ ?_;rotate_left 2
         ·(simp only [List.getElem?_toArray,List.getElem?_cons_succ,List.getElem?_cons_zero];rfl)
         ·rfl
         ·(intro w' hE;have q1:=hE.trans p1;go_simp;try rfl)
         try simp only [Act.put,List.setIfInBounds_toArray,List.set_cons_zero,List.set_cons_succ])
        refine' wpQ_go ?_ ?_;rotate_left 1
        ·(simp only [List.getElem?_toArray,List.getElem?_cons_succ,List.getElem?_cons_zero];rfl)
        intro K hK
        go_simp
        refine hK.out _ _ (World.cell?_of_block ((set_other hne).trans (set_other hne))) ?_
        clear hK K
        try simp only [Act.put,List.setIfInBounds_toArray,List.set_cons_zero,List.set_cons_succ]
        iterate 2 (
         refine' wpQ_take ?_ ?_ ?_ ?_;rotate_left 2
         ·(simp only [List.getElem?_toArray,List.getElem?_cons_succ,List.getElem?_cons_zero];rfl)
         ·rfl
         ·(intro w' hE;go_simp;try rfl)
         try simp only [Act.put,List.setIfInBounds_toArray,List.set_cons_zero,List.set_cons_succ])
        refine wpQ_end ?_
        gi_wp2
        refine bodyPost_ret (results36 _ _ w.heap.size (.slice none 0 0) (.slice none 0 0) (.int .i64 (wd.at':Int)) (.int .i64 4) rfl rfl rfl (set_both _ _ hA5)) rfl ?_
        exact ⟨ext_set2 (ext_drew (hx1.trans (hx2.trans (hext.trans hx5)))) _ _,_,rfl,by rw [hans];exact rel_tri (rel_pair2 .nils .nils rfl rfl) (.int _) (.int _)⟩
    ·have hkk:wd.kind=0∨wd.kind=1∨wd.kind=6∨wd.kind=2∨wd.kind=4:=by
      have a3:wd.kind.toNat≠3:=fun e=>hk3 (UInt8.toNat_inj.1 e)
      have a5:wd.kind.toNat≠5:=fun e=>hk5 (UInt8.toNat_inj.1 e)
      have:wd.kind.toNat=0∨wd.kind.toNat=1∨wd.kind.toNat=6∨wd.kind.toNat=2∨wd.kind.toNat=4:=by omega
      rcases this with e | e | e | e | e
      ·exact .inl (UInt8.toNat_inj.1 e)
      ·exact .inr (.inl (UInt8.toNat_inj.1 e))
      ·exact .inr (.inr (.inl (UInt8.toNat_inj.1 e)))
      ·exact .inr (.inr (.inr (.inl (UInt8.toNat_inj.1 e))))
      ·exact .inr (.inr (.inr (.inr (UInt8.toNat_inj.1 e))))
     obtain ⟨adn,cn,rfl⟩:=row_len hpm.nd.1
     have hXl:X.length=N.length:=hpm.len
     obtain ⟨v1,v2,v3,v4⟩:=cell2 hpm.c7
     have hlt7:=hpm.lt7
     have hwf1:(⟨N ++ [mLeaf wd],T,S⟩:Ms).wf:=fun o ho=>by have:=hwf o ho;simp only [List.length_append] at this ⊢;omega
     have hsz1:(⟨N ++ [mLeaf wd],T,S⟩:Ms).sz (i+1):=⟨by have:=hsz.nodes;simp at this ⊢;omega,by have:=hsz.top;simp at this ⊢;omega,fun y hy=>by
      rcases List.mem_append.1 hy with hy | hy
      ·have:=hsz.two y hy;omega
      ·obtain rfl:=List.mem_singleton.1 hy;exact ⟨Nat.zero_le _,Nat.zero_le _⟩,hl8⟩
     rcases hkk with hk | hk | hk | hk | hk
     ·rw [hk] at y0
      have hst:mStep ⟨N,T,S⟩ wd=.inl (Ms.add ⟨N ++ [mLeaf wd],T,S⟩ [N.length]):=by
       unfold mStep
       rw [if_neg (by simp [hk]),if_neg (by simp [hk]),if_neg (by simp [hk])]
       simp [hk]
      have hwf':=wf_step hwf hst
      have hsz':=sz_step hsz hst
      rw [hst] at hrun
      simp only at hrun
      have hx6:Ext wr ((wr.alloc (.cells #[.int .u8 0, .int .i64 (wd.at':Int), .string q, .bool wd.root, .slice a4 m4 c4] 36)).alloc (.cells #[.int .i64 0, .int .i64 1, .int .i64 2, .int .i64 0, .int .i64 3, .int .i64 0, .int .i64 4] 3)):=(Ext.push wr _).trans (Ext.push _ _)
      have u1:=ext_cell hx6 v1
      generalize hd:S.length=d at *
      gi_wp2
      rw [wpIn_wide]
      have hb5:=al_old' (o:=.cells #[.int .i64 0, .int .i64 1, .int .i64 2, .int .i64 0, .int .i64 3, .int .i64 0, .int .i64 4] 3) (w:=wr.alloc (.cells #[.int .u8 0, .int .i64 (wd.at':Int), .string q, .bool wd.root, .slice a4 m4 c4] 36)) (i:=wr.heap.size) (by simp)
      rw [World.alloc_heap_new wr _] at hb5
      have hb6:=World.alloc_heap_new (wr.alloc (.cells #[.int .u8 0, .int .i64 (wd.at':Int), .string q, .bool wd.root, .slice a4 m4 c4] 36)) (.cells #[.int .i64 0, .int .i64 1, .int .i64 2, .int .i64 0, .int .i64 3, .int .i64 0, .int .i64 4] 3)
      rw [show (wr.alloc (.cells #[.int .u8 0, .int .i64 (wd.at':Int), .string q, .bool wd.root, .slice a4 m4 c4] 36)).heap.size=wr.heap.size+1 by simp] at hb6
      generalize (wr.alloc (.cells #[.int .u8 0, .int .i64 (wd.at':Int), .string q, .bool wd.root, .slice a4 m4 c4] 36)).alloc (.cells #[.int .i64 0, .int .i64 1, .int .i64 2, .int .i64 0, .int .i64 3, .int .i64 0, .int .i64 4] 3)=W5 at hb5 hb6 hx6 u1 ⊢
      have p0:W5.cell? ⟨wr.heap.size,0,none⟩=some (.int .u8 0):=by simp [World.cell?,hb5]
      have p1:W5.cell? ⟨wr.heap.size,1,none⟩=some (.int .i64 (wd.at':Int)):=by simp [World.cell?,hb5]
      have p2:W5.cell? ⟨wr.heap.size,2,none⟩=some (.string q):=by simp [World.cell?,hb5]
      have p3:W5.cell? ⟨wr.heap.size,3,none⟩=some (.bool wd.root):=by simp [World.cell?,hb5]
      have p4:W5.cell? ⟨wr.heap.size,4,none⟩=some (.slice a4 m4 c4):=by simp [World.cell?,hb5]
      have pk:W5.cell? ⟨wr.heap.size+1,0,none⟩=some (.int .i64 0):=by simp [World.cell?,hb6]
      have hwrap:IntKind.u8.wrap 0=0:=by decide
      have h5:=hpm.ext' hx6
      clear v1 v2 v3 v4 y0 y1 y2 y3 y4 hb6
      refine wp_region_plan (by kernel_rfl) [18] (fun u v=>v.heap[w2.heap.size]?=u.heap[w2.heap.size]?∧v.heap[wr.heap.size]?=u.heap[wr.heap.size]?∧v.heap[wr.heap.size+1]?=u.heap[wr.heap.size+1]?) [(0,true),(1,true),(2,true),(3,true),(4,true),(5,true),(6,true),(7,true),(8,true),(9,true),(10,true),(11,true),(12,true),(13,true),(14,true),(15,false),(16,false),(17,true),(18,false)]
       (by kernel_rfl) (by kernel_rfl) (by kernel_rfl) (fun _=>⟨rfl,rfl,rfl⟩) (fun _ _ _ h1 h2=>⟨h2.1.trans h1.1,h2.2.1.trans h1.2.1,h2.2.2.trans h1.2.2⟩) ?_
      iterate 15 (
       refine' wpQ_take ?_ ?_ ?_ ?_;rotate_left 2
       ·(simp only [List.getElem?_toArray,List.getElem?_cons_succ,List.getElem?_cons_zero];rfl)
       ·rfl
       ·(intro w' hE;have q1:=(World.cell?_of_block (a:=⟨w2.heap.size,0,none⟩) hE.1).trans u1;have r0:=(World.cell?_of_block (a:=⟨wr.heap.size,0,none⟩) hE.2.1).trans p0;have r1:=(World.cell?_of_block (a:=⟨wr.heap.size,1,none⟩) hE.2.1).trans p1;have r2:=(World.cell?_of_block (a:=⟨wr.heap.size,2,none⟩) hE.2.1).trans p2;have r3:=(World.cell?_of_block (a:=⟨wr.heap.size,3,none⟩) hE.2.1).trans p3;have r4:=(World.cell?_of_block (a:=⟨wr.heap.size,4,none⟩) hE.2.1).trans p4;have rk:=(World.cell?_of_block (a:=⟨wr.heap.size+1,0,none⟩) hE.2.2).trans pk;go_simp;try rfl)
       try simp only [Act.put,List.setIfInBounds_toArray,List.set_cons_zero,List.set_cons_succ])
      refine' wpQ_go ?_ ?_;rotate_left 1
      ·(simp only [List.getElem?_toArray,List.getElem?_cons_succ,List.getElem?_cons_zero];rfl)
      intro K hK
      go_simp
      have z5:wr.heap.size < W5.heap.size:=cell_lt p0
      have z6:wr.heap.size+1 < W5.heap.size:=cell_lt pk
      have z7:w2.heap.size < W5.heap.size:=cell_lt u1
      refine hK.out _ _ ⟨al_old' z7,al_old' z5,al_old' z6⟩ ?_
      clear hK K
      try simp only [Act.put,List.setIfInBounds_toArray,List.set_cons_zero,List.set_cons_succ]
      have hx7:Ext W5 (W5.alloc (.cells #[.int .u8 0, .int .i64 (wd.at':Int), .string q, .bool wd.root, .slice a4 m4 c4, .slice none 0 0, .slice none 0 0, .bool false, .int .u8 0] 61)):=Ext.push W5 _
      have h6:=h5.ext' hx7
      have hnews:=new_of W5 (Vn.cells ⟨0,wd.at',q,wd.root, .slice a4 m4 c4, .slice none 0 0, .slice none 0 0,false⟩) 61
      obtain ⟨i61,hi9,hz0,hz1,hz2⟩:=info_parts info61
      have hnd:=h6.nd.1
      rw [hXl] at hnd
      have hbase6:w2.heap.size+1≤(W5.alloc (.cells #[.int .u8 0, .int .i64 (wd.at':Int), .string q, .bool wd.root, .slice a4 m4 c4, .slice none 0 0, .slice none 0 0, .bool false, .int .u8 0] 61)).heap.size:=h6.lt7
      refine' wpQ_go ?_ ?_;rotate_left 1
      ·(simp only [List.getElem?_toArray,List.getElem?_cons_succ,List.getElem?_cons_zero];rfl)
      intro K hK
      refine step_append_lies _ rfl (.tmp 65) (.tmp 79) 47 rfl (w2.heap.size+1) 61 i61 _ 9 120 Tryd.underlying47 hi9 hz0 hz1 hz2 rfl (by decide) (.slice adn N.length cn) N.length (X.flatMap Vn.cells) rfl hnd ⟨W5.heap.size,0,none⟩ 1 1 (Vn.cells ⟨0,wd.at',q,wd.root, .slice a4 m4 c4, .slice none 0 0, .slice none 0 0,false⟩) rfl rfl hnews (by simp [Vn.cells,Value.oneCell']) (by decide) (by have:Go.maxLen=9223372036854775807:=rfl;have:=hsz.nodes;simp only at this;omega) (by have:=hsz.nodes;simp only at this;omega) hbase6 _ rfl ?_
      intro g cap w7 hown7 hgrow7 hat7 hlt7'
      rw [← hXl] at hown7 hgrow7 hat7 ⊢
      have hg7:(W5.alloc (.cells #[.int .u8 0, .int .i64 (wd.at':Int), .string q, .bool wd.root, .slice a4 m4 c4, .slice none 0 0, .slice none 0 0, .bool false, .int .u8 0] 61)).grownBy w7 (Value.slice adn X.length cn).ownBlock:=⟨hgrow7.os,hgrow7.tape,hgrow7.output,hgrow7.size,hgrow7.block⟩
      obtain ⟨tag8,hpm8⟩:=h6.addNode (y:=mLeaf wd) hg7 hown7 hat7 ⟨by show (0:UInt8)=ndKind wd.kind;rw [hk];rfl,rfl,hq,rfl,rfl,hnr,rfl,_,_,_,rfl⟩ rfl rfl rfl rfl
      have hown0:∀ g,(Value.slice adn X.length cn).ownBlock=some g→w2.heap.size+1≤g∧g < wr.heap.size:=fun g e=>hpm.nd.1.lt g e
      have hs6:(W5.alloc (.cells #[.int .u8 0, .int .i64 (wd.at':Int), .string q, .bool wd.root, .slice a4 m4 c4, .slice none 0 0, .slice none 0 0, .bool false, .int .u8 0] 61)).heap.size=W5.heap.size+1:=by simp
      have old7:∀ b,b < W5.heap.size→(Value.slice adn X.length cn).ownBlock≠some b→w7.heap[b]?=W5.heap[b]?:=fun b hb ho=>(hg7.block b (by omega) (fun e=>ho e.symm)).trans (al_old' hb)
      have k7:=old7 w2.heap.size z7 (fun e=>by have:=hown0 _ e;omega)
      have k5:=old7 wr.heap.size z5 (fun e=>by have:=hown0 _ e;omega)
      have k6:=old7 (wr.heap.size+1) z6 (fun e=>by have:=hown0 _ e;omega)
      have c75:=k7.trans h5.c7
      obtain ⟨-,-,e3,e4⟩:=cell2 c75
      refine hK.out _ _ ⟨k7.trans (al_old' z7).symm,k5.trans (al_old' z5).symm,k6.trans (al_old' z6).symm⟩ ?_
      clear hK K
      try simp only [Act.put,List.setIfInBounds_toArray,List.set_cons_zero,List.set_cons_succ]
      refine' wpQ_take ?_ ?_ ?_ ?_;rotate_left 2
      ·(simp only [List.getElem?_toArray,List.getElem?_cons_succ,List.getElem?_cons_zero];rfl)
      ·rfl
      ·(intro w' hE;go_simp;try rfl)
      try simp only [Act.put,List.setIfInBounds_toArray,List.set_cons_zero,List.set_cons_succ]
      obtain ⟨f1,-,f3,-⟩:=cell2 c75
      refine' wpQ_wild ?_ (by kernel_rfl) ?_;rotate_left 1
      ·(simp only [List.getElem?_toArray,List.getElem?_cons_succ,List.getElem?_cons_zero];rfl)
      intro K hK
      go_simp
      refine hK.out _ _ ?_
      clear hK K
      refine wpQ_end ?_
      have hz8:(w7.setCell ⟨w2.heap.size,0,none⟩ (.slice (some ⟨g,0,none⟩) (X.length+1) cap)).cell? ⟨wr.heap.size,0,none⟩=some (.int .u8 0):=(World.cell?_of_block (a:=⟨wr.heap.size,0,none⟩) ((set_other (show wr.heap.size≠w2.heap.size by omega)).trans k5)).trans p0
      rw [hXl] at hpm8 hz8
      have hs8:∀ v:Value,(w7.setCell ⟨w2.heap.size,0,none⟩ v).heap.size=w7.heap.size:=fun v=>set_size _ _ _
      have hap:Apart (X ++ [⟨0,wd.at',q,wd.root, .slice a4 m4 c4, .slice none 0 0, .slice none 0 0,false⟩]) w2.heap.size (.slice (some ⟨g,0,none⟩) (N.length+1) cap) vt wr.heap.size:=by
       refine ⟨by omega,fun e=>?_,fun e=>by have:=(hpm.tp.1.lt _ e).2;omega,fun x hx=>?_⟩
       ·simp only [Value.ownBlock,Option.some.injEq] at e
        rcases hat7 with h | h
        ·have:=hown0 g h;omega
        ·have:=h.trans hs6;omega
       ·rcases List.mem_append.1 hx with hx | hx
        ·obtain ⟨j,hj,rfl⟩:=List.mem_iff_getElem.1 hx
         have hj':j < N.length:=by omega
         obtain ⟨bb,be⟩:=hpm.bd j _ _ (List.getElem?_eq_getElem hj) (List.getElem?_eq_getElem hj')
         exact ⟨fun e=>by have:=(bb.1.lt _ e).2;omega,fun e=>by have:=(be.1.lt _ e).2;omega⟩
        ·obtain rfl:=List.mem_singleton.1 hx
         exact ⟨nofun,nofun⟩
      have hlt8:wr.heap.size < w7.heap.size:=by have:=hg7.size;omega
      generalize hW8:w7.setCell ⟨w2.heap.size,0,none⟩ (.slice (some ⟨g,0,none⟩) (N.length+1) cap)=W8 at hpm8 hz8 ⊢
      have hlt9:wr.heap.size < W8.heap.size:=by rw [← hW8,hs8];exact hlt8
      have hadd:=add_in hpm8 hwf1 hsz1 (by omega) (n:=N.length)
      clear e3 e4 f1 f3 c75 k5 k6 k7 old7 hs6 hg7 hgrow7 hown7 hat7 hnews hnd hx7 h6 h5 u1 p0 p1 p2 p3 p4 pk hb5 hx6 z5 z6 z7 hbase6 hz0 hz1 hz2 hi9 hW8 hs8 hown0 hpm8 hpm
      gi_wp2_with (refine ⟨trivial,?_⟩;gi_at_call 63;refine hadd.mono ?_;clear hadd;rintro e w9 ⟨rfl,⟨X9,tag9,vn9,vt9,hpm9⟩,hkeep⟩;have z9:=(World.cell?_of_block (a:=⟨wr.heap.size,0,none⟩) (hkeep wr.heap.size hlt9 hap)).trans hz8;clear hkeep hap hz8)
      exact ⟨⟨i+1,_,_,_,_,_,congrArg (Value.int .i64) (by omega),hlt,hrun,hwf',hsz',hpm9⟩,by show _ - Int.toNat _ < _ - Int.toNat _;omega⟩
     ·rw [hk] at y0
      have hst:mStep ⟨N,T,S⟩ wd=.inl (Ms.add ⟨N ++ [mLeaf wd],T,S⟩ [N.length]):=by
       unfold mStep
       rw [if_neg (by simp [hk]),if_neg (by simp [hk]),if_neg (by simp [hk])]
       simp [hk]
      have hwf':=wf_step hwf hst
      have hsz':=sz_step hsz hst
      rw [hst] at hrun
      simp only at hrun
      have hx6:Ext wr ((wr.alloc (.cells #[.int .u8 1, .int .i64 (wd.at':Int), .string q, .bool wd.root, .slice a4 m4 c4] 36)).alloc (.cells #[.int .i64 0, .int .i64 1, .int .i64 2, .int .i64 0, .int .i64 3, .int .i64 0, .int .i64 4] 3)):=(Ext.push wr _).trans (Ext.push _ _)
      have u1:=ext_cell hx6 v1
      generalize hd:S.length=d at *
      gi_wp2
      rw [wpIn_wide]
      have hb5:=al_old' (o:=.cells #[.int .i64 0, .int .i64 1, .int .i64 2, .int .i64 0, .int .i64 3, .int .i64 0, .int .i64 4] 3) (w:=wr.alloc (.cells #[.int .u8 1, .int .i64 (wd.at':Int), .string q, .bool wd.root, .slice a4 m4 c4] 36)) (i:=wr.heap.size) (by simp)
      rw [World.alloc_heap_new wr _] at hb5
      have hb6:=World.alloc_heap_new (wr.alloc (.cells #[.int .u8 1, .int .i64 (wd.at':Int), .string q, .bool wd.root, .slice a4 m4 c4] 36)) (.cells #[.int .i64 0, .int .i64 1, .int .i64 2, .int .i64 0, .int .i64 3, .int .i64 0, .int .i64 4] 3)
      rw [show (wr.alloc (.cells #[.int .u8 1, .int .i64 (wd.at':Int), .string q, .bool wd.root, .slice a4 m4 c4] 36)).heap.size=wr.heap.size+1 by simp] at hb6
      generalize (wr.alloc (.cells #[.int .u8 1, .int .i64 (wd.at':Int), .string q, .bool wd.root, .slice a4 m4 c4] 36)).alloc (.cells #[.int .i64 0, .int .i64 1, .int .i64 2, .int .i64 0, .int .i64 3, .int .i64 0, .int .i64 4] 3)=W5 at hb5 hb6 hx6 u1 ⊢
      have p0:W5.cell? ⟨wr.heap.size,0,none⟩=some (.int .u8 1):=by simp [World.cell?,hb5]
      have p1:W5.cell? ⟨wr.heap.size,1,none⟩=some (.int .i64 (wd.at':Int)):=by simp [World.cell?,hb5]
      have p2:W5.cell? ⟨wr.heap.size,2,none⟩=some (.string q):=by simp [World.cell?,hb5]
      have p3:W5.cell? ⟨wr.heap.size,3,none⟩=some (.bool wd.root):=by simp [World.cell?,hb5]
      have p4:W5.cell? ⟨wr.heap.size,4,none⟩=some (.slice a4 m4 c4):=by simp [World.cell?,hb5]
      have pk:W5.cell? ⟨wr.heap.size+1,1,none⟩=some (.int .i64 1):=by simp [World.cell?,hb6]
      have hwrap:IntKind.u8.wrap 1=1:=by decide
      have h5:=hpm.ext' hx6
      clear v1 v2 v3 v4 y0 y1 y2 y3 y4 hb6
      refine wp_region_plan (by kernel_rfl) [18] (fun u v=>v.heap[w2.heap.size]?=u.heap[w2.heap.size]?∧v.heap[wr.heap.size]?=u.heap[wr.heap.size]?∧v.heap[wr.heap.size+1]?=u.heap[wr.heap.size+1]?) [(0,true),(1,true),(2,true),(3,true),(4,true),(5,true),(6,true),(7,true),(8,true),(9,true),(10,true),(11,true),(12,true),(13,true),(14,true),(15,false),(16,false),(17,true),(18,false)]
       (by kernel_rfl) (by kernel_rfl) (by kernel_rfl) (fun _=>⟨rfl,rfl,rfl⟩) (fun _ _ _ h1 h2=>⟨h2.1.trans h1.1,h2.2.1.trans h1.2.1,h2.2.2.trans h1.2.2⟩) ?_
      iterate 15 (
       refine' wpQ_take ?_ ?_ ?_ ?_;rotate_left 2
       ·(simp only [List.getElem?_toArray,List.getElem?_cons_succ,List.getElem?_cons_zero];rfl)
       ·rfl
       ·(intro w' hE;have q1:=(World.cell?_of_block (a:=⟨w2.heap.size,0,none⟩) hE.1).trans u1;have r0:=(World.cell?_of_block (a:=⟨wr.heap.size,0,none⟩) hE.2.1).trans p0;have r1:=(World.cell?_of_block (a:=⟨wr.heap.size,1,none⟩) hE.2.1).trans p1;have r2:=(World.cell?_of_block (a:=⟨wr.heap.size,2,none⟩) hE.2.1).trans p2;have r3:=(World.cell?_of_block (a:=⟨wr.heap.size,3,none⟩) hE.2.1).trans p3;have r4:=(World.cell?_of_block (a:=⟨wr.heap.size,4,none⟩) hE.2.1).trans p4;have rk:=(World.cell?_of_block (a:=⟨wr.heap.size+1,1,none⟩) hE.2.2).trans pk;go_simp;try rfl)
       try simp only [Act.put,List.setIfInBounds_toArray,List.set_cons_zero,List.set_cons_succ])
      refine' wpQ_go ?_ ?_;rotate_left 1
      ·(simp only [List.getElem?_toArray,List.getElem?_cons_succ,List.getElem?_cons_zero];rfl)
      intro K hK
      go_simp
      have z5:wr.heap.size < W5.heap.size:=cell_lt p0
      have z6:wr.heap.size+1 < W5.heap.size:=cell_lt pk
      have z7:w2.heap.size < W5.heap.size:=cell_lt u1
      refine hK.out _ _ ⟨al_old' z7,al_old' z5,al_old' z6⟩ ?_
      clear hK K
      try simp only [Act.put,List.setIfInBounds_toArray,List.set_cons_zero,List.set_cons_succ]
      have hx7:Ext W5 (W5.alloc (.cells #[.int .u8 1, .int .i64 (wd.at':Int), .string q, .bool wd.root, .slice a4 m4 c4, .slice none 0 0, .slice none 0 0, .bool false, .int .u8 0] 61)):=Ext.push W5 _
      have h6:=h5.ext' hx7
      have hnews:=new_of W5 (Vn.cells ⟨1,wd.at',q,wd.root, .slice a4 m4 c4, .slice none 0 0, .slice none 0 0,false⟩) 61
      obtain ⟨i61,hi9,hz0,hz1,hz2⟩:=info_parts info61
      have hnd:=h6.nd.1
      rw [hXl] at hnd
      have hbase6:w2.heap.size+1≤(W5.alloc (.cells #[.int .u8 1, .int .i64 (wd.at':Int), .string q, .bool wd.root, .slice a4 m4 c4, .slice none 0 0, .slice none 0 0, .bool false, .int .u8 0] 61)).heap.size:=h6.lt7
      refine' wpQ_go ?_ ?_;rotate_left 1
      ·(simp only [List.getElem?_toArray,List.getElem?_cons_succ,List.getElem?_cons_zero];rfl)
      intro K hK
      refine step_append_lies _ rfl (.tmp 65) (.tmp 79) 47 rfl (w2.heap.size+1) 61 i61 _ 9 120 Tryd.underlying47 hi9 hz0 hz1 hz2 rfl (by decide) (.slice adn N.length cn) N.length (X.flatMap Vn.cells) rfl hnd ⟨W5.heap.size,0,none⟩ 1 1 (Vn.cells ⟨1,wd.at',q,wd.root, .slice a4 m4 c4, .slice none 0 0, .slice none 0 0,false⟩) rfl rfl hnews (by simp [Vn.cells,Value.oneCell']) (by decide) (by have:Go.maxLen=9223372036854775807:=rfl;have:=hsz.nodes;simp only at this;omega) (by have:=hsz.nodes;simp only at this;omega) hbase6 _ rfl ?_
      intro g cap w7 hown7 hgrow7 hat7 hlt7'
      rw [← hXl] at hown7 hgrow7 hat7 ⊢
      have hg7:(W5.alloc (.cells #[.int .u8 1, .int .i64 (wd.at':Int), .string q, .bool wd.root, .slice a4 m4 c4, .slice none 0 0, .slice none 0 0, .bool false, .int .u8 0] 61)).grownBy w7 (Value.slice adn X.length cn).ownBlock:=⟨hgrow7.os,hgrow7.tape,hgrow7.output,hgrow7.size,hgrow7.block⟩
      obtain ⟨tag8,hpm8⟩:=h6.addNode (y:=mLeaf wd) hg7 hown7 hat7 ⟨by show (1:UInt8)=ndKind wd.kind;rw [hk];rfl,rfl,hq,rfl,rfl,hnr,rfl,_,_,_,rfl⟩ rfl rfl rfl rfl
      have hown0:∀ g,(Value.slice adn X.length cn).ownBlock=some g→w2.heap.size+1≤g∧g < wr.heap.size:=fun g e=>hpm.nd.1.lt g e
      have hs6:(W5.alloc (.cells #[.int .u8 1, .int .i64 (wd.at':Int), .string q, .bool wd.root, .slice a4 m4 c4, .slice none 0 0, .slice none 0 0, .bool false, .int .u8 0] 61)).heap.size=W5.heap.size+1:=by simp
      have old7:∀ b,b < W5.heap.size→(Value.slice adn X.length cn).ownBlock≠some b→w7.heap[b]?=W5.heap[b]?:=fun b hb ho=>(hg7.block b (by omega) (fun e=>ho e.symm)).trans (al_old' hb)
      have k7:=old7 w2.heap.size z7 (fun e=>by have:=hown0 _ e;omega)
      have k5:=old7 wr.heap.size z5 (fun e=>by have:=hown0 _ e;omega)
      have k6:=old7 (wr.heap.size+1) z6 (fun e=>by have:=hown0 _ e;omega)
      have c75:=k7.trans h5.c7
      obtain ⟨-,-,e3,e4⟩:=cell2 c75
      refine hK.out _ _ ⟨k7.trans (al_old' z7).symm,k5.trans (al_old' z5).symm,k6.trans (al_old' z6).symm⟩ ?_
      clear hK K
      try simp only [Act.put,List.setIfInBounds_toArray,List.set_cons_zero,List.set_cons_succ]
      refine' wpQ_take ?_ ?_ ?_ ?_;rotate_left 2
      ·(simp only [List.getElem?_toArray,List.getElem?_cons_succ,List.getElem?_cons_zero];rfl)
      ·rfl
      ·(intro w' hE;go_simp;try rfl)
      try simp only [Act.put,List.setIfInBounds_toArray,List.set_cons_zero,List.set_cons_succ]
      obtain ⟨f1,-,f3,-⟩:=cell2 c75
      refine' wpQ_wild ?_ (by kernel_rfl) ?_;rotate_left 1
      ·(simp only [List.getElem?_toArray,List.getElem?_cons_succ,List.getElem?_cons_zero];rfl)
      intro K hK
      go_simp
      refine hK.out _ _ ?_
      clear hK K
      refine wpQ_end ?_
      have hz8:(w7.setCell ⟨w2.heap.size,0,none⟩ (.slice (some ⟨g,0,none⟩) (X.length+1) cap)).cell? ⟨wr.heap.size,0,none⟩=some (.int .u8 1):=(World.cell?_of_block (a:=⟨wr.heap.size,0,none⟩) ((set_other (show wr.heap.size≠w2.heap.size by omega)).trans k5)).trans p0
      rw [hXl] at hpm8 hz8
      have hs8:∀ v:Value,(w7.setCell ⟨w2.heap.size,0,none⟩ v).heap.size=w7.heap.size:=fun v=>set_size _ _ _
      have hap:Apart (X ++ [⟨1,wd.at',q,wd.root, .slice a4 m4 c4, .slice none 0 0, .slice none 0 0,false⟩]) w2.heap.size (.slice (some ⟨g,0,none⟩) (N.length+1) cap) vt wr.heap.size:=by
       refine ⟨by omega,fun e=>?_,fun e=>by have:=(hpm.tp.1.lt _ e).2;omega,fun x hx=>?_⟩
       ·simp only [Value.ownBlock,Option.some.injEq] at e
        rcases hat7 with h | h
        ·have:=hown0 g h;omega
        ·have:=h.trans hs6;omega
       ·rcases List.mem_append.1 hx with hx | hx
        ·obtain ⟨j,hj,rfl⟩:=List.mem_iff_getElem.1 hx
         have hj':j < N.length:=by omega
         obtain ⟨bb,be⟩:=hpm.bd j _ _ (List.getElem?_eq_getElem hj) (List.getElem?_eq_getElem hj')
         exact ⟨fun e=>by have:=(bb.1.lt _ e).2;omega,fun e=>by have:=(be.1.lt _ e).2;omega⟩
        ·obtain rfl:=List.mem_singleton.1 hx
         exact ⟨nofun,nofun⟩
      have hlt8:wr.heap.size < w7.heap.size:=by have:=hg7.size;omega
      generalize hW8:w7.setCell ⟨w2.heap.size,0,none⟩ (.slice (some ⟨g,0,none⟩) (N.length+1) cap)=W8 at hpm8 hz8 ⊢
      have hlt9:wr.heap.size < W8.heap.size:=by rw [← hW8,hs8];exact hlt8
      have hadd:=add_in hpm8 hwf1 hsz1 (by omega) (n:=N.length)
      clear e3 e4 f1 f3 c75 k5 k6 k7 old7 hs6 hg7 hgrow7 hown7 hat7 hnews hnd hx7 h6 h5 u1 p0 p1 p2 p3 p4 pk hb5 hx6 z5 z6 z7 hbase6 hz0 hz1 hz2 hi9 hW8 hs8 hown0 hpm8 hpm
      gi_wp2_with (refine ⟨trivial,?_⟩;gi_at_call 63;refine hadd.mono ?_;clear hadd;rintro e w9 ⟨rfl,⟨X9,tag9,vn9,vt9,hpm9⟩,hkeep⟩;have z9:=(World.cell?_of_block (a:=⟨wr.heap.size,0,none⟩) (hkeep wr.heap.size hlt9 hap)).trans hz8;clear hkeep hap hz8)
      exact ⟨⟨i+1,_,_,_,_,_,congrArg (Value.int .i64) (by omega),hlt,hrun,hwf',hsz',hpm9⟩,by show _ - Int.toNat _ < _ - Int.toNat _;omega⟩
     ·rw [hk] at y0
      have hst:mStep ⟨N,T,S⟩ wd=.inl (Ms.add ⟨N ++ [mLeaf wd],T,S⟩ [N.length]):=by
       unfold mStep
       rw [if_neg (by simp [hk]),if_neg (by simp [hk]),if_neg (by simp [hk])]
       simp [hk]
      have hwf':=wf_step hwf hst
      have hsz':=sz_step hsz hst
      rw [hst] at hrun
      simp only at hrun
      have hx6:Ext wr ((wr.alloc (.cells #[.int .u8 6, .int .i64 (wd.at':Int), .string q, .bool wd.root, .slice a4 m4 c4] 36)).alloc (.cells #[.int .i64 0, .int .i64 1, .int .i64 2, .int .i64 0, .int .i64 3, .int .i64 0, .int .i64 4] 3)):=(Ext.push wr _).trans (Ext.push _ _)
      have u1:=ext_cell hx6 v1
      generalize hd:S.length=d at *
      gi_wp2
      rw [wpIn_wide]
      have hb5:=al_old' (o:=.cells #[.int .i64 0, .int .i64 1, .int .i64 2, .int .i64 0, .int .i64 3, .int .i64 0, .int .i64 4] 3) (w:=wr.alloc (.cells #[.int .u8 6, .int .i64 (wd.at':Int), .string q, .bool wd.root, .slice a4 m4 c4] 36)) (i:=wr.heap.size) (by simp)
      rw [World.alloc_heap_new wr _] at hb5
      have hb6:=World.alloc_heap_new (wr.alloc (.cells #[.int .u8 6, .int .i64 (wd.at':Int), .string q, .bool wd.root, .slice a4 m4 c4] 36)) (.cells #[.int .i64 0, .int .i64 1, .int .i64 2, .int .i64 0, .int .i64 3, .int .i64 0, .int .i64 4] 3)
      rw [show (wr.alloc (.cells #[.int .u8 6, .int .i64 (wd.at':Int), .string q, .bool wd.root, .slice a4 m4 c4] 36)).heap.size=wr.heap.size+1 by simp] at hb6
      generalize (wr.alloc (.cells #[.int .u8 6, .int .i64 (wd.at':Int), .string q, .bool wd.root, .slice a4 m4 c4] 36)).alloc (.cells #[.int .i64 0, .int .i64 1, .int .i64 2, .int .i64 0, .int .i64 3, .int .i64 0, .int .i64 4] 3)=W5 at hb5 hb6 hx6 u1 ⊢
      have p0:W5.cell? ⟨wr.heap.size,0,none⟩=some (.int .u8 6):=by simp [World.cell?,hb5]
      have p1:W5.cell? ⟨wr.heap.size,1,none⟩=some (.int .i64 (wd.at':Int)):=by simp [World.cell?,hb5]
      have p2:W5.cell? ⟨wr.heap.size,2,none⟩=some (.string q):=by simp [World.cell?,hb5]
      have p3:W5.cell? ⟨wr.heap.size,3,none⟩=some (.bool wd.root):=by simp [World.cell?,hb5]
      have p4:W5.cell? ⟨wr.heap.size,4,none⟩=some (.slice a4 m4 c4):=by simp [World.cell?,hb5]
      have pk:W5.cell? ⟨wr.heap.size+1,6,none⟩=some (.int .i64 4):=by simp [World.cell?,hb6]
      have hwrap:IntKind.u8.wrap 4=4:=by decide
      have h5:=hpm.ext' hx6
      clear v1 v2 v3 v4 y0 y1 y2 y3 y4 hb6
      refine wp_region_plan (by kernel_rfl) [18] (fun u v=>v.heap[w2.heap.size]?=u.heap[w2.heap.size]?∧v.heap[wr.heap.size]?=u.heap[wr.heap.size]?∧v.heap[wr.heap.size+1]?=u.heap[wr.heap.size+1]?) [(0,true),(1,true),(2,true),(3,true),(4,true),(5,true),(6,true),(7,true),(8,true),(9,true),(10,true),(11,true),(12,true),(13,true),(14,true),(15,false),(16,false),(17,true),(18,false)]
       (by kernel_rfl) (by kernel_rfl) (by kernel_rfl) (fun _=>⟨rfl,rfl,rfl⟩) (fun _ _ _ h1 h2=>⟨h2.1.trans h1.1,h2.2.1.trans h1.2.1,h2.2.2.trans h1.2.2⟩) ?_
      iterate 15 (
       refine' wpQ_take ?_ ?_ ?_ ?_;rotate_left 2
       ·(simp only [List.getElem?_toArray,List.getElem?_cons_succ,List.getElem?_cons_zero];rfl)
       ·rfl
       ·(intro w' hE;have q1:=(World.cell?_of_block (a:=⟨w2.heap.size,0,none⟩) hE.1).trans u1;have r0:=(World.cell?_of_block (a:=⟨wr.heap.size,0,none⟩) hE.2.1).trans p0;have r1:=(World.cell?_of_block (a:=⟨wr.heap.size,1,none⟩) hE.2.1).trans p1;have r2:=(World.cell?_of_block (a:=⟨wr.heap.size,2,none⟩) hE.2.1).trans p2;have r3:=(World.cell?_of_block (a:=⟨wr.heap.size,3,none⟩) hE.2.1).trans p3;have r4:=(World.cell?_of_block (a:=⟨wr.heap.size,4,none⟩) hE.2.1).trans p4;have rk:=(World.cell?_of_block (a:=⟨wr.heap.size+1,6,none⟩) hE.2.2).trans pk;go_simp;try rfl)
       try simp only [Act.put,List.setIfInBounds_toArray,List.set_cons_zero,List.set_cons_succ])
      refine' wpQ_go ?_ ?_;rotate_left 1
      ·(simp only [List.getElem?_toArray,List.getElem?_cons_succ,List.getElem?_cons_zero];rfl)
      intro K hK
      go_simp
      have z5:wr.heap.size < W5.heap.size:=cell_lt p0
      have z6:wr.heap.size+1 < W5.heap.size:=cell_lt pk
      have z7:w2.heap.size < W5.heap.size:=cell_lt u1
      refine hK.out _ _ ⟨al_old' z7,al_old' z5,al_old' z6⟩ ?_
      clear hK K
      try simp only [Act.put,List.setIfInBounds_toArray,List.set_cons_zero,List.set_cons_succ]
      have hx7:Ext W5 (W5.alloc (.cells #[.int .u8 4, .int .i64 (wd.at':Int), .string q, .bool wd.root, .slice a4 m4 c4, .slice none 0 0, .slice none 0 0, .bool false, .int .u8 0] 61)):=Ext.push W5 _
      have h6:=h5.ext' hx7
      have hnews:=new_of W5 (Vn.cells ⟨4,wd.at',q,wd.root, .slice a4 m4 c4, .slice none 0 0, .slice none 0 0,false⟩) 61
      obtain ⟨i61,hi9,hz0,hz1,hz2⟩:=info_parts info61
      have hnd:=h6.nd.1
      rw [hXl] at hnd
      have hbase6:w2.heap.size+1≤(W5.alloc (.cells #[.int .u8 4, .int .i64 (wd.at':Int), .string q, .bool wd.root, .slice a4 m4 c4, .slice none 0 0, .slice none 0 0, .bool false, .int .u8 0] 61)).heap.size:=h6.lt7
      refine' wpQ_go ?_ ?_;rotate_left 1
      ·(simp only [List.getElem?_toArray,List.getElem?_cons_succ,List.getElem?_cons_zero];rfl)
      intro K hK
      refine step_append_lies _ rfl (.tmp 65) (.tmp 79) 47 rfl (w2.heap.size+1) 61 i61 _ 9 120 Tryd.underlying47 hi9 hz0 hz1 hz2 rfl (by decide) (.slice adn N.length cn) N.length (X.flatMap Vn.cells) rfl hnd ⟨W5.heap.size,0,none⟩ 1 1 (Vn.cells ⟨4,wd.at',q,wd.root, .slice a4 m4 c4, .slice none 0 0, .slice none 0 0,false⟩) rfl rfl hnews (by simp [Vn.cells,Value.oneCell']) (by decide) (by have:Go.maxLen=9223372036854775807:=rfl;have:=hsz.nodes;simp only at this;omega) (by have:=hsz.nodes;simp only at this;omega) hbase6 _ rfl ?_
      intro g cap w7 hown7 hgrow7 hat7 hlt7'
      rw [← hXl] at hown7 hgrow7 hat7 ⊢
      have hg7:(W5.alloc (.cells #[.int .u8 4, .int .i64 (wd.at':Int), .string q, .bool wd.root, .slice a4 m4 c4, .slice none 0 0, .slice none 0 0, .bool false, .int .u8 0] 61)).grownBy w7 (Value.slice adn X.length cn).ownBlock:=⟨hgrow7.os,hgrow7.tape,hgrow7.output,hgrow7.size,hgrow7.block⟩
      obtain ⟨tag8,hpm8⟩:=h6.addNode (y:=mLeaf wd) hg7 hown7 hat7 ⟨by show (4:UInt8)=ndKind wd.kind;rw [hk];rfl,rfl,hq,rfl,rfl,hnr,rfl,_,_,_,rfl⟩ rfl rfl rfl rfl
      have hown0:∀ g,(Value.slice adn X.length cn).ownBlock=some g→w2.heap.size+1≤g∧g < wr.heap.size:=fun g e=>hpm.nd.1.lt g e
      have hs6:(W5.alloc (.cells #[.int .u8 4, .int .i64 (wd.at':Int), .string q, .bool wd.root, .slice a4 m4 c4, .slice none 0 0, .slice none 0 0, .bool false, .int .u8 0] 61)).heap.size=W5.heap.size+1:=by simp
      have old7:∀ b,b < W5.heap.size→(Value.slice adn X.length cn).ownBlock≠some b→w7.heap[b]?=W5.heap[b]?:=fun b hb ho=>(hg7.block b (by omega) (fun e=>ho e.symm)).trans (al_old' hb)
      have k7:=old7 w2.heap.size z7 (fun e=>by have:=hown0 _ e;omega)
      have k5:=old7 wr.heap.size z5 (fun e=>by have:=hown0 _ e;omega)
      have k6:=old7 (wr.heap.size+1) z6 (fun e=>by have:=hown0 _ e;omega)
      have c75:=k7.trans h5.c7
      obtain ⟨-,-,e3,e4⟩:=cell2 c75
      refine hK.out _ _ ⟨k7.trans (al_old' z7).symm,k5.trans (al_old' z5).symm,k6.trans (al_old' z6).symm⟩ ?_
      clear hK K
      try simp only [Act.put,List.setIfInBounds_toArray,List.set_cons_zero,List.set_cons_succ]
      refine' wpQ_take ?_ ?_ ?_ ?_;rotate_left 2
      ·(simp only [List.getElem?_toArray,List.getElem?_cons_succ,List.getElem?_cons_zero];rfl)
      ·rfl
      ·(intro w' hE;go_simp;try rfl)
      try simp only [Act.put,List.setIfInBounds_toArray,List.set_cons_zero,List.set_cons_succ]
      obtain ⟨f1,-,f3,-⟩:=cell2 c75
      refine' wpQ_wild ?_ (by kernel_rfl) ?_;rotate_left 1
      ·(simp only [List.getElem?_toArray,List.getElem?_cons_succ,List.getElem?_cons_zero];rfl)
      intro K hK
      go_simp
      refine hK.out _ _ ?_
      clear hK K
      refine wpQ_end ?_
      have hz8:(w7.setCell ⟨w2.heap.size,0,none⟩ (.slice (some ⟨g,0,none⟩) (X.length+1) cap)).cell? ⟨wr.heap.size,0,none⟩=some (.int .u8 6):=(World.cell?_of_block (a:=⟨wr.heap.size,0,none⟩) ((set_other (show wr.heap.size≠w2.heap.size by omega)).trans k5)).trans p0
      rw [hXl] at hpm8 hz8
      have hs8:∀ v:Value,(w7.setCell ⟨w2.heap.size,0,none⟩ v).heap.size=w7.heap.size:=fun v=>set_size _ _ _
      have hap:Apart (X ++ [⟨4,wd.at',q,wd.root, .slice a4 m4 c4, .slice none 0 0, .slice none 0 0,false⟩]) w2.heap.size (.slice (some ⟨g,0,none⟩) (N.length+1) cap) vt wr.heap.size:=by
       refine ⟨by omega,fun e=>?_,fun e=>by have:=(hpm.tp.1.lt _ e).2;omega,fun x hx=>?_⟩
       ·simp only [Value.ownBlock,Option.some.injEq] at e
        rcases hat7 with h | h
        ·have:=hown0 g h;omega
        ·have:=h.trans hs6;omega
       ·rcases List.mem_append.1 hx with hx | hx
        ·obtain ⟨j,hj,rfl⟩:=List.mem_iff_getElem.1 hx
         have hj':j < N.length:=by omega
         obtain ⟨bb,be⟩:=hpm.bd j _ _ (List.getElem?_eq_getElem hj) (List.getElem?_eq_getElem hj')
         exact ⟨fun e=>by have:=(bb.1.lt _ e).2;omega,fun e=>by have:=(be.1.lt _ e).2;omega⟩
        ·obtain rfl:=List.mem_singleton.1 hx
         exact ⟨nofun,nofun⟩
      have hlt8:wr.heap.size < w7.heap.size:=by have:=hg7.size;omega
      generalize hW8:w7.setCell ⟨w2.heap.size,0,none⟩ (.slice (some ⟨g,0,none⟩) (N.length+1) cap)=W8 at hpm8 hz8 ⊢
      have hlt9:wr.heap.size < W8.heap.size:=by rw [← hW8,hs8];exact hlt8
      have hadd:=add_in hpm8 hwf1 hsz1 (by omega) (n:=N.length)
      clear e3 e4 f1 f3 c75 k5 k6 k7 old7 hs6 hg7 hgrow7 hown7 hat7 hnews hnd hx7 h6 h5 u1 p0 p1 p2 p3 p4 pk hb5 hx6 z5 z6 z7 hbase6 hz0 hz1 hz2 hi9 hW8 hs8 hown0 hpm8 hpm
      gi_wp2_with (refine ⟨trivial,?_⟩;gi_at_call 63;refine hadd.mono ?_;clear hadd;rintro e w9 ⟨rfl,⟨X9,tag9,vn9,vt9,hpm9⟩,hkeep⟩;have z9:=(World.cell?_of_block (a:=⟨wr.heap.size,0,none⟩) (hkeep wr.heap.size hlt9 hap)).trans hz8;clear hkeep hap hz8)
      exact ⟨⟨i+1,_,_,_,_,_,congrArg (Value.int .i64) (by omega),hlt,hrun,hwf',hsz',hpm9⟩,by show _ - Int.toNat _ < _ - Int.toNat _;omega⟩
     ·by_cases h16:16≤S.length
      ·have hans:mTree ws=.bad wd.at' 3:=by
        rw [← hrun]
        unfold mStep
        rw [if_neg (by simp [hk]),if_neg (by simp [hk]),if_pos (by simp [hk];omega)]
       clear hrun
       rw [hk] at y0
       have h16i:(16:Int)≤(S.length:Int):=by omega
       generalize hd:S.length=d at *
       gi_wp2
       rw [wpIn_wide]
       have hx5:Ext wr (wr.alloc (.cells #[.int .u8 2, .int .i64 (wd.at':Int), .string q, .bool wd.root, .slice a4 m4 c4] 36)):=Ext.push wr _
       have hb5:=World.alloc_heap_new wr (.cells #[.int .u8 2, .int .i64 (wd.at':Int), .string q, .bool wd.root, .slice a4 m4 c4] 36)
       generalize wr.alloc (.cells #[.int .u8 2, .int .i64 (wd.at':Int), .string q, .bool wd.root, .slice a4 m4 c4] 36)=W5 at hx5 hb5 ⊢
       have p1:W5.cell? ⟨wr.heap.size,1,none⟩=some (.int .i64 (wd.at':Int)):=by simp [World.cell?,hb5]
       clear hb5
       have hA5:=(hx5.block _ (Array.getElem?_eq_some_iff.1 hA2r).1).trans hA2r
       obtain ⟨v1,v2,v3,v4⟩:=cell2 hA5
       have hne:wr.heap.size≠w.heap.size:=by have:=(Array.getElem?_eq_some_iff.1 hA2r).1;omega
       clear y0 y1 y2 y3 y4 hk6 hnr hnk hpm
       refine wp_region_plan (by kernel_rfl) [] (fun u v=>v.cell? ⟨wr.heap.size,1,none⟩=u.cell? ⟨wr.heap.size,1,none⟩) [(0,true),(1,true),(2,true),(3,false),(4,true),(5,true)]
        (by kernel_rfl) (by kernel_rfl) (by kernel_rfl) (fun _=>rfl) (fun _ _ _ h1 h2=>h2.trans h1) ?_
       iterate 3 (
        refine' wpQ_take ?_ ?_ ?_ ?_;rotate_left 2
        ·(simp only [List.getElem?_toArray,List.getElem?_cons_succ,List.getElem?_cons_zero];rfl)
        ·rfl
        ·(intro w' hE;have q1:=hE.trans p1;go_simp;try rfl)
        try simp only [Act.put,List.setIfInBounds_toArray,List.set_cons_zero,List.set_cons_succ])
       refine' wpQ_go ?_ ?_;rotate_left 1
       ·(simp only [List.getElem?_toArray,List.getElem?_cons_succ,List.getElem?_cons_zero];rfl)
       intro K hK
       go_simp
       refine hK.out _ _ (World.cell?_of_block ((set_other hne).trans (set_other hne))) ?_
       clear hK K
       try simp only [Act.put,List.setIfInBounds_toArray,List.set_cons_zero,List.set_cons_succ]
       iterate 2 (
        refine' wpQ_take ?_ ?_ ?_ ?_;rotate_left 2
        ·(simp only [List.getElem?_toArray,List.getElem?_cons_succ,List.getElem?_cons_zero];rfl)
        ·rfl
        ·(intro w' hE;go_simp;try rfl)
        try simp only [Act.put,List.setIfInBounds_toArray,List.set_cons_zero,List.set_cons_succ])
       refine wpQ_end ?_
       gi_wp2
       refine bodyPost_ret (results36 _ _ w.heap.size (.slice none 0 0) (.slice none 0 0) (.int .i64 (wd.at':Int)) (.int .i64 3) rfl rfl rfl (set_both _ _ hA5)) rfl ?_
       exact ⟨ext_set2 (ext_drew (hx1.trans (hx2.trans (hext.trans hx5)))) _ _,_,rfl,by rw [hans];exact rel_tri (rel_pair2 .nils .nils rfl rfl) (.int _) (.int _)⟩
      ·rw [hk] at y0
       have hst:mStep ⟨N,T,S⟩ wd=.inl ⟨(Ms.add ⟨N ++ [mLeaf wd],T,S⟩ [N.length]).nodes,(Ms.add ⟨N ++ [mLeaf wd],T,S⟩ [N.length]).top,S ++ [⟨N.length,2,false⟩]⟩:=by
        unfold mStep
        rw [if_neg (by simp [hk]),if_neg (by simp [hk]),if_neg (by simp [hk];omega)]
        simp [hk,add_stack]
       have h16i:(S.length:Int) < 16:=by omega
       obtain ⟨i108,hj9,hw0,hw1,hw2⟩:=info_parts info108
       have hwf':=wf_step hwf hst
       have hsz':=sz_step hsz hst
       rw [hst] at hrun
       simp only at hrun
       have hx6:Ext wr ((wr.alloc (.cells #[.int .u8 2, .int .i64 (wd.at':Int), .string q, .bool wd.root, .slice a4 m4 c4] 36)).alloc (.cells #[.int .i64 0, .int .i64 1, .int .i64 2, .int .i64 0, .int .i64 3, .int .i64 0, .int .i64 4] 3)):=(Ext.push wr _).trans (Ext.push _ _)
       have u1:=ext_cell hx6 v1
       generalize hd:S.length=d at *
       gi_wp2
       rw [wpIn_wide]
       have hb5:=al_old' (o:=.cells #[.int .i64 0, .int .i64 1, .int .i64 2, .int .i64 0, .int .i64 3, .int .i64 0, .int .i64 4] 3) (w:=wr.alloc (.cells #[.int .u8 2, .int .i64 (wd.at':Int), .string q, .bool wd.root, .slice a4 m4 c4] 36)) (i:=wr.heap.size) (by simp)
       rw [World.alloc_heap_new wr _] at hb5
       have hb6:=World.alloc_heap_new (wr.alloc (.cells #[.int .u8 2, .int .i64 (wd.at':Int), .string q, .bool wd.root, .slice a4 m4 c4] 36)) (.cells #[.int .i64 0, .int .i64 1, .int .i64 2, .int .i64 0, .int .i64 3, .int .i64 0, .int .i64 4] 3)
       rw [show (wr.alloc (.cells #[.int .u8 2, .int .i64 (wd.at':Int), .string q, .bool wd.root, .slice a4 m4 c4] 36)).heap.size=wr.heap.size+1 by simp] at hb6
       generalize (wr.alloc (.cells #[.int .u8 2, .int .i64 (wd.at':Int), .string q, .bool wd.root, .slice a4 m4 c4] 36)).alloc (.cells #[.int .i64 0, .int .i64 1, .int .i64 2, .int .i64 0, .int .i64 3, .int .i64 0, .int .i64 4] 3)=W5 at hb5 hb6 hx6 u1 ⊢
       have p0:W5.cell? ⟨wr.heap.size,0,none⟩=some (.int .u8 2):=by simp [World.cell?,hb5]
       have p1:W5.cell? ⟨wr.heap.size,1,none⟩=some (.int .i64 (wd.at':Int)):=by simp [World.cell?,hb5]
       have p2:W5.cell? ⟨wr.heap.size,2,none⟩=some (.string q):=by simp [World.cell?,hb5]
       have p3:W5.cell? ⟨wr.heap.size,3,none⟩=some (.bool wd.root):=by simp [World.cell?,hb5]
       have p4:W5.cell? ⟨wr.heap.size,4,none⟩=some (.slice a4 m4 c4):=by simp [World.cell?,hb5]
       have pk:W5.cell? ⟨wr.heap.size+1,2,none⟩=some (.int .i64 2):=by simp [World.cell?,hb6]
       have hwrap:IntKind.u8.wrap 2=2:=by decide
       have h5:=hpm.ext' hx6
       clear v1 v2 v3 v4 y0 y1 y2 y3 y4 hb6
       refine wp_region_plan (by kernel_rfl) [18] (fun u v=>v.heap[w2.heap.size]?=u.heap[w2.heap.size]?∧v.heap[wr.heap.size]?=u.heap[wr.heap.size]?∧v.heap[wr.heap.size+1]?=u.heap[wr.heap.size+1]?) [(0,true),(1,true),(2,true),(3,true),(4,true),(5,true),(6,true),(7,true),(8,true),(9,true),(10,true),(11,true),(12,true),(13,true),(14,true),(15,false),(16,false),(17,true),(18,false)]
        (by kernel_rfl) (by kernel_rfl) (by kernel_rfl) (fun _=>⟨rfl,rfl,rfl⟩) (fun _ _ _ h1 h2=>⟨h2.1.trans h1.1,h2.2.1.trans h1.2.1,h2.2.2.trans h1.2.2⟩) ?_
       iterate 15 (
        refine' wpQ_take ?_ ?_ ?_ ?_;rotate_left 2
        ·(simp only [List.getElem?_toArray,List.getElem?_cons_succ,List.getElem?_cons_zero];rfl)
        ·rfl
        ·(intro w' hE;have q1:=(World.cell?_of_block (a:=⟨w2.heap.size,0,none⟩) hE.1).trans u1;have r0:=(World.cell?_of_block (a:=⟨wr.heap.size,0,none⟩) hE.2.1).trans p0;have r1:=(World.cell?_of_block (a:=⟨wr.heap.size,1,none⟩) hE.2.1).trans p1;have r2:=(World.cell?_of_block (a:=⟨wr.heap.size,2,none⟩) hE.2.1).trans p2;have r3:=(World.cell?_of_block (a:=⟨wr.heap.size,3,none⟩) hE.2.1).trans p3;have r4:=(World.cell?_of_block (a:=⟨wr.heap.size,4,none⟩) hE.2.1).trans p4;have rk:=(World.cell?_of_block (a:=⟨wr.heap.size+1,2,none⟩) hE.2.2).trans pk;go_simp;try rfl)
        try simp only [Act.put,List.setIfInBounds_toArray,List.set_cons_zero,List.set_cons_succ])
       refine' wpQ_go ?_ ?_;rotate_left 1
       ·(simp only [List.getElem?_toArray,List.getElem?_cons_succ,List.getElem?_cons_zero];rfl)
       intro K hK
       go_simp
       have z5:wr.heap.size < W5.heap.size:=cell_lt p0
       have z6:wr.heap.size+1 < W5.heap.size:=cell_lt pk
       have z7:w2.heap.size < W5.heap.size:=cell_lt u1
       refine hK.out _ _ ⟨al_old' z7,al_old' z5,al_old' z6⟩ ?_
       clear hK K
       try simp only [Act.put,List.setIfInBounds_toArray,List.set_cons_zero,List.set_cons_succ]
       have hx7:Ext W5 (W5.alloc (.cells #[.int .u8 2, .int .i64 (wd.at':Int), .string q, .bool wd.root, .slice a4 m4 c4, .slice none 0 0, .slice none 0 0, .bool false, .int .u8 0] 61)):=Ext.push W5 _
       have h6:=h5.ext' hx7
       have hnews:=new_of W5 (Vn.cells ⟨2,wd.at',q,wd.root, .slice a4 m4 c4, .slice none 0 0, .slice none 0 0,false⟩) 61
       obtain ⟨i61,hi9,hz0,hz1,hz2⟩:=info_parts info61
       have hnd:=h6.nd.1
       rw [hXl] at hnd
       have hbase6:w2.heap.size+1≤(W5.alloc (.cells #[.int .u8 2, .int .i64 (wd.at':Int), .string q, .bool wd.root, .slice a4 m4 c4, .slice none 0 0, .slice none 0 0, .bool false, .int .u8 0] 61)).heap.size:=h6.lt7
       refine' wpQ_go ?_ ?_;rotate_left 1
       ·(simp only [List.getElem?_toArray,List.getElem?_cons_succ,List.getElem?_cons_zero];rfl)
       intro K hK
       refine step_append_lies _ rfl (.tmp 65) (.tmp 79) 47 rfl (w2.heap.size+1) 61 i61 _ 9 120 Tryd.underlying47 hi9 hz0 hz1 hz2 rfl (by decide) (.slice adn N.length cn) N.length (X.flatMap Vn.cells) rfl hnd ⟨W5.heap.size,0,none⟩ 1 1 (Vn.cells ⟨2,wd.at',q,wd.root, .slice a4 m4 c4, .slice none 0 0, .slice none 0 0,false⟩) rfl rfl hnews (by simp [Vn.cells,Value.oneCell']) (by decide) (by have:Go.maxLen=9223372036854775807:=rfl;have:=hsz.nodes;simp only at this;omega) (by have:=hsz.nodes;simp only at this;omega) hbase6 _ rfl ?_
       intro g cap w7 hown7 hgrow7 hat7 hlt7'
       rw [← hXl] at hown7 hgrow7 hat7 ⊢
       have hg7:(W5.alloc (.cells #[.int .u8 2, .int .i64 (wd.at':Int), .string q, .bool wd.root, .slice a4 m4 c4, .slice none 0 0, .slice none 0 0, .bool false, .int .u8 0] 61)).grownBy w7 (Value.slice adn X.length cn).ownBlock:=⟨hgrow7.os,hgrow7.tape,hgrow7.output,hgrow7.size,hgrow7.block⟩
       obtain ⟨tag8,hpm8⟩:=h6.addNode (y:=mLeaf wd) hg7 hown7 hat7 ⟨by show (2:UInt8)=ndKind wd.kind;rw [hk];rfl,rfl,hq,rfl,rfl,hnr,rfl,_,_,_,rfl⟩ rfl rfl rfl rfl
       have hown0:∀ g,(Value.slice adn X.length cn).ownBlock=some g→w2.heap.size+1≤g∧g < wr.heap.size:=fun g e=>hpm.nd.1.lt g e
       have hs6:(W5.alloc (.cells #[.int .u8 2, .int .i64 (wd.at':Int), .string q, .bool wd.root, .slice a4 m4 c4, .slice none 0 0, .slice none 0 0, .bool false, .int .u8 0] 61)).heap.size=W5.heap.size+1:=by simp
       have old7:∀ b,b < W5.heap.size→(Value.slice adn X.length cn).ownBlock≠some b→w7.heap[b]?=W5.heap[b]?:=fun b hb ho=>(hg7.block b (by omega) (fun e=>ho e.symm)).trans (al_old' hb)
       have k7:=old7 w2.heap.size z7 (fun e=>by have:=hown0 _ e;omega)
       have k5:=old7 wr.heap.size z5 (fun e=>by have:=hown0 _ e;omega)
       have k6:=old7 (wr.heap.size+1) z6 (fun e=>by have:=hown0 _ e;omega)
       have c75:=k7.trans h5.c7
       obtain ⟨-,-,e3,e4⟩:=cell2 c75
       refine hK.out _ _ ⟨k7.trans (al_old' z7).symm,k5.trans (al_old' z5).symm,k6.trans (al_old' z6).symm⟩ ?_
       clear hK K
       try simp only [Act.put,List.setIfInBounds_toArray,List.set_cons_zero,List.set_cons_succ]
       refine' wpQ_take ?_ ?_ ?_ ?_;rotate_left 2
       ·(simp only [List.getElem?_toArray,List.getElem?_cons_succ,List.getElem?_cons_zero];rfl)
       ·rfl
       ·(intro w' hE;go_simp;try rfl)
       try simp only [Act.put,List.setIfInBounds_toArray,List.set_cons_zero,List.set_cons_succ]
       obtain ⟨f1,-,f3,-⟩:=cell2 c75
       refine' wpQ_wild ?_ (by kernel_rfl) ?_;rotate_left 1
       ·(simp only [List.getElem?_toArray,List.getElem?_cons_succ,List.getElem?_cons_zero];rfl)
       intro K hK
       go_simp
       refine hK.out _ _ ?_
       clear hK K
       refine wpQ_end ?_
       have hz8:(w7.setCell ⟨w2.heap.size,0,none⟩ (.slice (some ⟨g,0,none⟩) (X.length+1) cap)).cell? ⟨wr.heap.size,0,none⟩=some (.int .u8 2):=(World.cell?_of_block (a:=⟨wr.heap.size,0,none⟩) ((set_other (show wr.heap.size≠w2.heap.size by omega)).trans k5)).trans p0
       rw [hXl] at hpm8 hz8
       have hs8:∀ v:Value,(w7.setCell ⟨w2.heap.size,0,none⟩ v).heap.size=w7.heap.size:=fun v=>set_size _ _ _
       have hap:Apart (X ++ [⟨2,wd.at',q,wd.root, .slice a4 m4 c4, .slice none 0 0, .slice none 0 0,false⟩]) w2.heap.size (.slice (some ⟨g,0,none⟩) (N.length+1) cap) vt wr.heap.size:=by
        refine ⟨by omega,fun e=>?_,fun e=>by have:=(hpm.tp.1.lt _ e).2;omega,fun x hx=>?_⟩
        ·simp only [Value.ownBlock,Option.some.injEq] at e
         rcases hat7 with h | h
         ·have:=hown0 g h;omega
         ·have:=h.trans hs6;omega
        ·rcases List.mem_append.1 hx with hx | hx
         ·obtain ⟨j,hj,rfl⟩:=List.mem_iff_getElem.1 hx
          have hj':j < N.length:=by omega
          obtain ⟨bb,be⟩:=hpm.bd j _ _ (List.getElem?_eq_getElem hj) (List.getElem?_eq_getElem hj')
          exact ⟨fun e=>by have:=(bb.1.lt _ e).2;omega,fun e=>by have:=(be.1.lt _ e).2;omega⟩
         ·obtain rfl:=List.mem_singleton.1 hx
          exact ⟨nofun,nofun⟩
       have hlt8:wr.heap.size < w7.heap.size:=by have:=hg7.size;omega
       generalize hW8:w7.setCell ⟨w2.heap.size,0,none⟩ (.slice (some ⟨g,0,none⟩) (N.length+1) cap)=W8 at hpm8 hz8 ⊢
       have hlt9:wr.heap.size < W8.heap.size:=by rw [← hW8,hs8];exact hlt8
       have hadd:=add_in hpm8 hwf1 hsz1 (by omega) (n:=N.length)
       clear e3 e4 f1 f3 c75 k5 k6 k7 old7 hs6 hg7 hgrow7 hown7 hat7 hnews hnd hx7 h6 h5 u1 p0 p1 p2 p3 p4 pk hb5 hx6 z5 z6 z7 hbase6 hz0 hz1 hz2 hi9 hW8 hs8 hown0 hpm8 hpm
       gi_wp2_with (first
        | (refine ⟨trivial,?_⟩;gi_at_call 63;refine hadd.mono ?_;clear hadd;rintro e w9 ⟨rfl,⟨X9,tag9,vn9,vt9,hpm9⟩,hkeep⟩;have z9:=(World.cell?_of_block (a:=⟨wr.heap.size,0,none⟩) (hkeep wr.heap.size hlt9 hap)).trans hz8;clear hkeep hap hz8;rw [add_eta] at hpm9;have h9:=hpm9.ext' (Ext.push w9 (.cells #[.int .i64 (N.length:Int), .int .i64 2, .bool false] 108));have hsk:=h9.sk.1;simp only at hsk;rw [hd] at hsk)
        | (gi_at_builtin;refine wpListIn_append_own_at _ rfl _ _ 106 rfl (w2.heap.size+1) 108 i108 _ 3 24 Tryd.underlying106 hj9 hw0 hw1 hw2 rfl (by decide) (.slice ads d cs) d (S.flatMap opCells) rfl hsk ⟨w9.heap.size,0,none⟩ 1 1 (opCells ⟨N.length,2,false⟩) rfl rfl (new_of w9 (opCells ⟨N.length,2,false⟩) 108) (by simp [opCells,Value.oneCell']) (by have:Go.maxLen=9223372036854775807:=rfl;omega) (by omega) (by have:=h9.lt7;simp at this ⊢;omega) ?_;intro v' w10 hown10 hgrow10 _ hv';obtain ⟨g',cap',rfl⟩:=ownsRow_succ hown10;obtain ⟨tag10,hpm10⟩:=h9.push (o:=⟨N.length,2,false⟩) ⟨hgrow10.os,hgrow10.tape,hgrow10.output,hgrow10.size,hgrow10.block⟩ (by simp only;rw [hd];exact hown10) (by rcases hv' with e | e;exact .inl (by rw [← e];rfl);exact .inr (by simpa [Value.ownBlock] using e));simp only at hpm10;rw [hd] at hpm10))
       exact ⟨⟨i+1,_,_,_,_,_,congrArg (Value.int .i64) (by omega),hlt,hrun,hwf',hsz',hpm10⟩,by show _ - Int.toNat _ < _ - Int.toNat _;omega⟩
     ·by_cases h16:16≤S.length
      ·have hans:mTree ws=.bad wd.at' 3:=by
        rw [← hrun]
        unfold mStep
        rw [if_neg (by simp [hk]),if_neg (by simp [hk]),if_pos (by simp [hk];omega)]
       clear hrun
       rw [hk] at y0
       have h16i:(16:Int)≤(S.length:Int):=by omega
       generalize hd:S.length=d at *
       gi_wp2
       rw [wpIn_wide]
       have hx5:Ext wr (wr.alloc (.cells #[.int .u8 4, .int .i64 (wd.at':Int), .string q, .bool wd.root, .slice a4 m4 c4] 36)):=Ext.push wr _
       have hb5:=World.alloc_heap_new wr (.cells #[.int .u8 4, .int .i64 (wd.at':Int), .string q, .bool wd.root, .slice a4 m4 c4] 36)
       generalize wr.alloc (.cells #[.int .u8 4, .int .i64 (wd.at':Int), .string q, .bool wd.root, .slice a4 m4 c4] 36)=W5 at hx5 hb5 ⊢
       have p1:W5.cell? ⟨wr.heap.size,1,none⟩=some (.int .i64 (wd.at':Int)):=by simp [World.cell?,hb5]
       clear hb5
       have hA5:=(hx5.block _ (Array.getElem?_eq_some_iff.1 hA2r).1).trans hA2r
       obtain ⟨v1,v2,v3,v4⟩:=cell2 hA5
       have hne:wr.heap.size≠w.heap.size:=by have:=(Array.getElem?_eq_some_iff.1 hA2r).1;omega
       clear y0 y1 y2 y3 y4 hk6 hnr hnk hpm
       refine wp_region_plan (by kernel_rfl) [] (fun u v=>v.cell? ⟨wr.heap.size,1,none⟩=u.cell? ⟨wr.heap.size,1,none⟩) [(0,true),(1,true),(2,true),(3,false),(4,true),(5,true)]
        (by kernel_rfl) (by kernel_rfl) (by kernel_rfl) (fun _=>rfl) (fun _ _ _ h1 h2=>h2.trans h1) ?_
       iterate 3 (
        refine' wpQ_take ?_ ?_ ?_ ?_;rotate_left 2
        ·(simp only [List.getElem?_toArray,List.getElem?_cons_succ,List.getElem?_cons_zero];rfl)
        ·rfl
        ·(intro w' hE;have q1:=hE.trans p1;go_simp;try rfl)
        try simp only [Act.put,List.setIfInBounds_toArray,List.set_cons_zero,List.set_cons_succ])
       refine' wpQ_go ?_ ?_;rotate_left 1
       ·(simp only [List.getElem?_toArray,List.getElem?_cons_succ,List.getElem?_cons_zero];rfl)
       intro K hK
       go_simp
       refine hK.out _ _ (World.cell?_of_block ((set_other hne).trans (set_other hne))) ?_
       clear hK K
       try simp only [Act.put,List.setIfInBounds_toArray,List.set_cons_zero,List.set_cons_succ]
       iterate 2 (
        refine' wpQ_take ?_ ?_ ?_ ?_;rotate_left 2
        ·(simp only [List.getElem?_toArray,List.getElem?_cons_succ,List.getElem?_cons_zero];rfl)
        ·rfl
        ·(intro w' hE;go_simp;try rfl)
        try simp only [Act.put,List.setIfInBounds_toArray,List.set_cons_zero,List.set_cons_succ])
       refine wpQ_end ?_
       gi_wp2
       refine bodyPost_ret (results36 _ _ w.heap.size (.slice none 0 0) (.slice none 0 0) (.int .i64 (wd.at':Int)) (.int .i64 3) rfl rfl rfl (set_both _ _ hA5)) rfl ?_
       exact ⟨ext_set2 (ext_drew (hx1.trans (hx2.trans (hext.trans hx5)))) _ _,_,rfl,by rw [hans];exact rel_tri (rel_pair2 .nils .nils rfl rfl) (.int _) (.int _)⟩
      ·rw [hk] at y0
       have hst:mStep ⟨N,T,S⟩ wd=.inl ⟨(Ms.add ⟨N ++ [mLeaf wd],T,S⟩ [N.length]).nodes,(Ms.add ⟨N ++ [mLeaf wd],T,S⟩ [N.length]).top,S ++ [⟨N.length,4,false⟩]⟩:=by
        unfold mStep
        rw [if_neg (by simp [hk]),if_neg (by simp [hk]),if_neg (by simp [hk];omega)]
        simp [hk,add_stack]
       have h16i:(S.length:Int) < 16:=by omega
       obtain ⟨i108,hj9,hw0,hw1,hw2⟩:=info_parts info108
       have hwf':=wf_step hwf hst
       have hsz':=sz_step hsz hst
       rw [hst] at hrun
       simp only at hrun
       have hx6:Ext wr ((wr.alloc (.cells #[.int .u8 4, .int .i64 (wd.at':Int), .string q, .bool wd.root, .slice a4 m4 c4] 36)).alloc (.cells #[.int .i64 0, .int .i64 1, .int .i64 2, .int .i64 0, .int .i64 3, .int .i64 0, .int .i64 4] 3)):=(Ext.push wr _).trans (Ext.push _ _)
       have u1:=ext_cell hx6 v1
       generalize hd:S.length=d at *
       gi_wp2
       rw [wpIn_wide]
       have hb5:=al_old' (o:=.cells #[.int .i64 0, .int .i64 1, .int .i64 2, .int .i64 0, .int .i64 3, .int .i64 0, .int .i64 4] 3) (w:=wr.alloc (.cells #[.int .u8 4, .int .i64 (wd.at':Int), .string q, .bool wd.root, .slice a4 m4 c4] 36)) (i:=wr.heap.size) (by simp)
       rw [World.alloc_heap_new wr _] at hb5
       have hb6:=World.alloc_heap_new (wr.alloc (.cells #[.int .u8 4, .int .i64 (wd.at':Int), .string q, .bool wd.root, .slice a4 m4 c4] 36)) (.cells #[.int .i64 0, .int .i64 1, .int .i64 2, .int .i64 0, .int .i64 3, .int .i64 0, .int .i64 4] 3)
       rw [show (wr.alloc (.cells #[.int .u8 4, .int .i64 (wd.at':Int), .string q, .bool wd.root, .slice a4 m4 c4] 36)).heap.size=wr.heap.size+1 by simp] at hb6
       generalize (wr.alloc (.cells #[.int .u8 4, .int .i64 (wd.at':Int), .string q, .bool wd.root, .slice a4 m4 c4] 36)).alloc (.cells #[.int .i64 0, .int .i64 1, .int .i64 2, .int .i64 0, .int .i64 3, .int .i64 0, .int .i64 4] 3)=W5 at hb5 hb6 hx6 u1 ⊢
       have p0:W5.cell? ⟨wr.heap.size,0,none⟩=some (.int .u8 4):=by simp [World.cell?,hb5]
       have p1:W5.cell? ⟨wr.heap.size,1,none⟩=some (.int .i64 (wd.at':Int)):=by simp [World.cell?,hb5]
       have p2:W5.cell? ⟨wr.heap.size,2,none⟩=some (.string q):=by simp [World.cell?,hb5]
       have p3:W5.cell? ⟨wr.heap.size,3,none⟩=some (.bool wd.root):=by simp [World.cell?,hb5]
       have p4:W5.cell? ⟨wr.heap.size,4,none⟩=some (.slice a4 m4 c4):=by simp [World.cell?,hb5]
       have pk:W5.cell? ⟨wr.heap.size+1,4,none⟩=some (.int .i64 3):=by simp [World.cell?,hb6]
       have hwrap:IntKind.u8.wrap 3=3:=by decide
       have h5:=hpm.ext' hx6
       clear v1 v2 v3 v4 y0 y1 y2 y3 y4 hb6
       refine wp_region_plan (by kernel_rfl) [18] (fun u v=>v.heap[w2.heap.size]?=u.heap[w2.heap.size]?∧v.heap[wr.heap.size]?=u.heap[wr.heap.size]?∧v.heap[wr.heap.size+1]?=u.heap[wr.heap.size+1]?) [(0,true),(1,true),(2,true),(3,true),(4,true),(5,true),(6,true),(7,true),(8,true),(9,true),(10,true),(11,true),(12,true),(13,true),(14,true),(15,false),(16,false),(17,true),(18,false)]
        (by kernel_rfl) (by kernel_rfl) (by kernel_rfl) (fun _=>⟨rfl,rfl,rfl⟩) (fun _ _ _ h1 h2=>⟨h2.1.trans h1.1,h2.2.1.trans h1.2.1,h2.2.2.trans h1.2.2⟩) ?_
       iterate 15 (
        refine' wpQ_take ?_ ?_ ?_ ?_;rotate_left 2
        ·(simp only [List.getElem?_toArray,List.getElem?_cons_succ,List.getElem?_cons_zero];rfl)
        ·rfl
        ·(intro w' hE;have q1:=(World.cell?_of_block (a:=⟨w2.heap.size,0,none⟩) hE.1).trans u1;have r0:=(World.cell?_of_block (a:=⟨wr.heap.size,0,none⟩) hE.2.1).trans p0;have r1:=(World.cell?_of_block (a:=⟨wr.heap.size,1,none⟩) hE.2.1).trans p1;have r2:=(World.cell?_of_block (a:=⟨wr.heap.size,2,none⟩) hE.2.1).trans p2;have r3:=(World.cell?_of_block (a:=⟨wr.heap.size,3,none⟩) hE.2.1).trans p3;have r4:=(World.cell?_of_block (a:=⟨wr.heap.size,4,none⟩) hE.2.1).trans p4;have rk:=(World.cell?_of_block (a:=⟨wr.heap.size+1,4,none⟩) hE.2.2).trans pk;go_simp;try rfl)
        try simp only [Act.put,List.setIfInBounds_toArray,List.set_cons_zero,List.set_cons_succ])
       refine' wpQ_go ?_ ?_;rotate_left 1
       ·(simp only [List.getElem?_toArray,List.getElem?_cons_succ,List.getElem?_cons_zero];rfl)
       intro K hK
       go_simp
       have z5:wr.heap.size < W5.heap.size:=cell_lt p0
       have z6:wr.heap.size+1 < W5.heap.size:=cell_lt pk
       have z7:w2.heap.size < W5.heap.size:=cell_lt u1
       refine hK.out _ _ ⟨al_old' z7,al_old' z5,al_old' z6⟩ ?_
       clear hK K
       try simp only [Act.put,List.setIfInBounds_toArray,List.set_cons_zero,List.set_cons_succ]
       have hx7:Ext W5 (W5.alloc (.cells #[.int .u8 3, .int .i64 (wd.at':Int), .string q, .bool wd.root, .slice a4 m4 c4, .slice none 0 0, .slice none 0 0, .bool false, .int .u8 0] 61)):=Ext.push W5 _
       have h6:=h5.ext' hx7
       have hnews:=new_of W5 (Vn.cells ⟨3,wd.at',q,wd.root, .slice a4 m4 c4, .slice none 0 0, .slice none 0 0,false⟩) 61
       obtain ⟨i61,hi9,hz0,hz1,hz2⟩:=info_parts info61
       have hnd:=h6.nd.1
       rw [hXl] at hnd
       have hbase6:w2.heap.size+1≤(W5.alloc (.cells #[.int .u8 3, .int .i64 (wd.at':Int), .string q, .bool wd.root, .slice a4 m4 c4, .slice none 0 0, .slice none 0 0, .bool false, .int .u8 0] 61)).heap.size:=h6.lt7
       refine' wpQ_go ?_ ?_;rotate_left 1
       ·(simp only [List.getElem?_toArray,List.getElem?_cons_succ,List.getElem?_cons_zero];rfl)
       intro K hK
       refine step_append_lies _ rfl (.tmp 65) (.tmp 79) 47 rfl (w2.heap.size+1) 61 i61 _ 9 120 Tryd.underlying47 hi9 hz0 hz1 hz2 rfl (by decide) (.slice adn N.length cn) N.length (X.flatMap Vn.cells) rfl hnd ⟨W5.heap.size,0,none⟩ 1 1 (Vn.cells ⟨3,wd.at',q,wd.root, .slice a4 m4 c4, .slice none 0 0, .slice none 0 0,false⟩) rfl rfl hnews (by simp [Vn.cells,Value.oneCell']) (by decide) (by have:Go.maxLen=9223372036854775807:=rfl;have:=hsz.nodes;simp only at this;omega) (by have:=hsz.nodes;simp only at this;omega) hbase6 _ rfl ?_
       intro g cap w7 hown7 hgrow7 hat7 hlt7'
       rw [← hXl] at hown7 hgrow7 hat7 ⊢
       have hg7:(W5.alloc (.cells #[.int .u8 3, .int .i64 (wd.at':Int), .string q, .bool wd.root, .slice a4 m4 c4, .slice none 0 0, .slice none 0 0, .bool false, .int .u8 0] 61)).grownBy w7 (Value.slice adn X.length cn).ownBlock:=⟨hgrow7.os,hgrow7.tape,hgrow7.output,hgrow7.size,hgrow7.block⟩
       obtain ⟨tag8,hpm8⟩:=h6.addNode (y:=mLeaf wd) hg7 hown7 hat7 ⟨by show (3:UInt8)=ndKind wd.kind;rw [hk];rfl,rfl,hq,rfl,rfl,hnr,rfl,_,_,_,rfl⟩ rfl rfl rfl rfl
       have hown0:∀ g,(Value.slice adn X.length cn).ownBlock=some g→w2.heap.size+1≤g∧g < wr.heap.size:=fun g e=>hpm.nd.1.lt g e
       have hs6:(W5.alloc (.cells #[.int .u8 3, .int .i64 (wd.at':Int), .string q, .bool wd.root, .slice a4 m4 c4, .slice none 0 0, .slice none 0 0, .bool false, .int .u8 0] 61)).heap.size=W5.heap.size+1:=by simp
       have old7:∀ b,b < W5.heap.size→(Value.slice adn X.length cn).ownBlock≠some b→w7.heap[b]?=W5.heap[b]?:=fun b hb ho=>(hg7.block b (by omega) (fun e=>ho e.symm)).trans (al_old' hb)
       have k7:=old7 w2.heap.size z7 (fun e=>by have:=hown0 _ e;omega)
       have k5:=old7 wr.heap.size z5 (fun e=>by have:=hown0 _ e;omega)
       have k6:=old7 (wr.heap.size+1) z6 (fun e=>by have:=hown0 _ e;omega)
       have c75:=k7.trans h5.c7
       obtain ⟨-,-,e3,e4⟩:=cell2 c75
       refine hK.out _ _ ⟨k7.trans (al_old' z7).symm,k5.trans (al_old' z5).symm,k6.trans (al_old' z6).symm⟩ ?_
       clear hK K
       try simp only [Act.put,List.setIfInBounds_toArray,List.set_cons_zero,List.set_cons_succ]
       refine' wpQ_take ?_ ?_ ?_ ?_;rotate_left 2
       ·(simp only [List.getElem?_toArray,List.getElem?_cons_succ,List.getElem?_cons_zero];rfl)
       ·rfl
       ·(intro w' hE;go_simp;try rfl)
       try simp only [Act.put,List.setIfInBounds_toArray,List.set_cons_zero,List.set_cons_succ]
       obtain ⟨f1,-,f3,-⟩:=cell2 c75
       refine' wpQ_wild ?_ (by kernel_rfl) ?_;rotate_left 1
       ·(simp only [List.getElem?_toArray,List.getElem?_cons_succ,List.getElem?_cons_zero];rfl)
       intro K hK
       go_simp
       refine hK.out _ _ ?_
       clear hK K
       refine wpQ_end ?_
       have hz8:(w7.setCell ⟨w2.heap.size,0,none⟩ (.slice (some ⟨g,0,none⟩) (X.length+1) cap)).cell? ⟨wr.heap.size,0,none⟩=some (.int .u8 4):=(World.cell?_of_block (a:=⟨wr.heap.size,0,none⟩) ((set_other (show wr.heap.size≠w2.heap.size by omega)).trans k5)).trans p0
       rw [hXl] at hpm8 hz8
       have hs8:∀ v:Value,(w7.setCell ⟨w2.heap.size,0,none⟩ v).heap.size=w7.heap.size:=fun v=>set_size _ _ _
       have hap:Apart (X ++ [⟨3,wd.at',q,wd.root, .slice a4 m4 c4, .slice none 0 0, .slice none 0 0,false⟩]) w2.heap.size (.slice (some ⟨g,0,none⟩) (N.length+1) cap) vt wr.heap.size:=by
        refine ⟨by omega,fun e=>?_,fun e=>by have:=(hpm.tp.1.lt _ e).2;omega,fun x hx=>?_⟩
        ·simp only [Value.ownBlock,Option.some.injEq] at e
         rcases hat7 with h | h
         ·have:=hown0 g h;omega
         ·have:=h.trans hs6;omega
        ·rcases List.mem_append.1 hx with hx | hx
         ·obtain ⟨j,hj,rfl⟩:=List.mem_iff_getElem.1 hx
          have hj':j < N.length:=by omega
          obtain ⟨bb,be⟩:=hpm.bd j _ _ (List.getElem?_eq_getElem hj) (List.getElem?_eq_getElem hj')
          exact ⟨fun e=>by have:=(bb.1.lt _ e).2;omega,fun e=>by have:=(be.1.lt _ e).2;omega⟩
         ·obtain rfl:=List.mem_singleton.1 hx
          exact ⟨nofun,nofun⟩
       have hlt8:wr.heap.size < w7.heap.size:=by have:=hg7.size;omega
       generalize hW8:w7.setCell ⟨w2.heap.size,0,none⟩ (.slice (some ⟨g,0,none⟩) (N.length+1) cap)=W8 at hpm8 hz8 ⊢
       have hlt9:wr.heap.size < W8.heap.size:=by rw [← hW8,hs8];exact hlt8
       have hadd:=add_in hpm8 hwf1 hsz1 (by omega) (n:=N.length)
       clear e3 e4 f1 f3 c75 k5 k6 k7 old7 hs6 hg7 hgrow7 hown7 hat7 hnews hnd hx7 h6 h5 u1 p0 p1 p2 p3 p4 pk hb5 hx6 z5 z6 z7 hbase6 hz0 hz1 hz2 hi9 hW8 hs8 hown0 hpm8 hpm
       gi_wp2_with (first
        | (refine ⟨trivial,?_⟩;gi_at_call 63;refine hadd.mono ?_;clear hadd;rintro e w9 ⟨rfl,⟨X9,tag9,vn9,vt9,hpm9⟩,hkeep⟩;have z9:=(World.cell?_of_block (a:=⟨wr.heap.size,0,none⟩) (hkeep wr.heap.size hlt9 hap)).trans hz8;clear hkeep hap hz8;rw [add_eta] at hpm9;have h9:=hpm9.ext' (Ext.push w9 (.cells #[.int .i64 (N.length:Int), .int .i64 4, .bool false] 108));have hsk:=h9.sk.1;simp only at hsk;rw [hd] at hsk)
        | (gi_at_builtin;refine wpListIn_append_own_at _ rfl _ _ 106 rfl (w2.heap.size+1) 108 i108 _ 3 24 Tryd.underlying106 hj9 hw0 hw1 hw2 rfl (by decide) (.slice ads d cs) d (S.flatMap opCells) rfl hsk ⟨w9.heap.size,0,none⟩ 1 1 (opCells ⟨N.length,4,false⟩) rfl rfl (new_of w9 (opCells ⟨N.length,4,false⟩) 108) (by simp [opCells,Value.oneCell']) (by have:Go.maxLen=9223372036854775807:=rfl;omega) (by omega) (by have:=h9.lt7;simp at this ⊢;omega) ?_;intro v' w10 hown10 hgrow10 _ hv';obtain ⟨g',cap',rfl⟩:=ownsRow_succ hown10;obtain ⟨tag10,hpm10⟩:=h9.push (o:=⟨N.length,4,false⟩) ⟨hgrow10.os,hgrow10.tape,hgrow10.output,hgrow10.size,hgrow10.block⟩ (by simp only;rw [hd];exact hown10) (by rcases hv' with e | e;exact .inl (by rw [← e];rfl);exact .inr (by simpa [Value.ownBlock] using e));simp only at hpm10;rw [hd] at hpm10))
       exact ⟨⟨i+1,_,_,_,_,_,congrArg (Value.int .i64) (by omega),hlt,hrun,hwf',hsz',hpm10⟩,by show _ - Int.toNat _ < _ - Int.toNat _;omega⟩
  ·have hnil:ws.drop i=[]:=List.drop_eq_nil_of_le (by omega)
   rw [hnil] at hrun
   obtain ⟨N,T,S⟩:=s'
   obtain ⟨adn,cn,rfl⟩:=row_len hpm.nd.1
   obtain ⟨adt,ct,rfl⟩:=row_len hpm.tp.1
   obtain ⟨ads,cs,rfl⟩:=row_len hpm.sk.1
   obtain ⟨v1,v2,v3,v4⟩:=cell2 hpm.c7
   have hs2:w.heap.size < w2.heap.size:=(Array.getElem?_eq_some_iff.1 hA2).1
   have hA2r:wr.heap[w.heap.size]?=some (.cells #[.slice none 0 0, .slice none 0 0] 50):=(hpm.ext.block _ hs2).trans hA2
   obtain ⟨a1,a2,a3,a4⟩:=cell2 hA2r
   have hl8:=hsz.stack
   simp only at hl8 hlt1
   rcases List.eq_nil_or_concat S with rfl | ⟨S,o,rfl⟩
   ·have hans:mTree ws=.ok N T:=by rw [← hrun];rfl
    obtain ⟨hr1,hr2⟩:=hpm.rel (G:=fun b=>b < w2.heap.size→F b) (fun b _ h _=>h) (fun b h1 h2=>by omega)
    have hext:=hpm.ext
    have hGm:∀ b,(b < w2.heap.size→F b)→(b < w.heap.size→b=1)∧b≠w.heap.size:=by
     intro b hg
     rw [← hF] at hg
     refine ⟨fun hlt=>hg (by omega) (by simp;omega),fun e=>?_⟩
     have:=hg (by omega) (by simp;omega)
     omega
    simp only [List.length_nil] at *
    clear hrun hnm hkd hinit hpm hwf hsz hm hwr
    gi_wp2
    refine bodyPost_ret (results36 _ _ w.heap.size (.slice adn X.length cn) (.slice adt T.length ct) (.int .i64 0) (.int .i64 0) rfl rfl rfl (set_both _ _ hA2r)) rfl ?_
    refine ⟨ext_set2 (hx1.trans (hx2.trans hext)) _ _,_,rfl,?_⟩
    rw [hans]
    exact rel_tri (rel_pair2 (hr1.mono fun b _ hg=>⟨(hGm b hg).1,(set_other (hGm b hg).2).trans (set_other (hGm b hg).2)⟩) (hr2.mono fun b _ hg=>⟨(hGm b hg).1,(set_other (hGm b hg).2).trans (set_other (hGm b hg).2)⟩) rfl rfl) (.int _) (.int _)
   ·rw [List.concat_eq_append] at *
    have hon:o.node < N.length:=hwf o (by simp)
    obtain ⟨gs,cap,hvs,⟨s0,s1,s2⟩,sf⟩:=hpm.last
    simp only [Value.slice.injEq] at hvs
    obtain ⟨rfl,-,rfl⟩:=hvs
    obtain ⟨gn,cn',x,y,hvn,hx,hy,hcell,hfr⟩:=hpm.node hon
    simp only [Value.slice.injEq] at hvn
    obtain ⟨rfl,-,rfl⟩:=hvn
    have c1:=hcell 1 (by decide)
    have c1:wr.cell? ⟨gn,o.node * 9+1,none⟩=some (.int .i64 (x.at':Int)):=c1
    have hat:=(hpm.lk _ _ _ hx hy).at'
    have hans:mTree ws=.bad y.at' 4:=by
     rw [← hrun,mRun]
     simp only [List.getLast?_append,List.getLast?_singleton,Option.some_or]
     have hy:N[o.node]?=some y:=hy
     rw [hy]
     rfl
    have hXl:X.length=N.length:=hpm.len
    have hext:=hpm.ext
    have ng1:w2.heap.size≠w.heap.size:=by omega
    have ng2:gs≠w.heap.size:=by have:=own_ge7 hpm.sk (g:=gs) rfl;omega
    have ng3:gn≠w.heap.size:=by have:=own_ge7 hpm.nd (g:=gn) rfl;omega
    simp only [List.length_append,List.length_cons,List.length_nil] at hl8 hon ⊢
    clear hrun hnm hkd hinit hpm hwf hsz hm hwr hcell hfr sf hx hy s1 s2
    generalize hd:S.length=d at *
    generalize hk:o.node=k at *
    gi_wp2
    rw [wpIn_wide]
    have hdd:(d:Int) < (d:Int)+1:=by omega
    have hwr0:IntKind.i64.wrap (d:Int)=(d:Int):=w64_eq (by omega) (by omega)
    have hwr1:IntKind.i64.wrap ((d:Int)+1 - 1)=(d:Int):=by rw [show ((d:Int)+1 - 1)=d by omega];exact hwr0
    refine wp_region_plan (by kernel_rfl) [] (fun u v=>v.cell? ⟨w2.heap.size,0,none⟩=u.cell? ⟨w2.heap.size,0,none⟩∧v.cell? ⟨gs,d * 3,none⟩=u.cell? ⟨gs,d * 3,none⟩∧v.cell? ⟨gn,k * 9+1,none⟩=u.cell? ⟨gn,k * 9+1,none⟩) [(0,true),(1,true),(2,true),(3,true),(4,true),(5,true),(6,true),(7,true),(8,true),(9,true),(10,true),(11,true),(12,true),(13,false),(14,true),(15,true)]
     (by kernel_rfl) (by kernel_rfl) (by kernel_rfl) (fun _=>⟨rfl,rfl,rfl⟩) (fun _ _ _ h1 h2=>⟨h2.1.trans h1.1,h2.2.1.trans h1.2.1,h2.2.2.trans h1.2.2⟩) ?_
    iterate 5 (
     refine' wpQ_take ?_ ?_ ?_ ?_;rotate_left 2
     ·(simp only [List.getElem?_toArray,List.getElem?_cons_succ,List.getElem?_cons_zero];rfl)
     ·rfl
     ·(intro w' hE;have q1:=hE.1.trans v1;have q2:=hE.2.1.trans s0;have q3:=hE.2.2.trans c1;go_simp;try rfl)
     try simp only [Act.put,List.setIfInBounds_toArray,List.set_cons_zero,List.set_cons_succ])
    refine' wpQ_take (v:=.int .i64 ((d:Int)+1)) ?_ ?_ ?_ ?_;rotate_left 1
    ·(simp only [List.getElem?_toArray,List.getElem?_cons_succ,List.getElem?_cons_zero];rfl)
    ·rfl
    ·(intro w' hE;go_simp)
    try simp only [Act.put,List.setIfInBounds_toArray,List.set_cons_zero,List.set_cons_succ]
    refine' wpQ_take (v:=.int .i64 (d:Int)) ?_ ?_ ?_ ?_;rotate_left 1
    ·(simp only [List.getElem?_toArray,List.getElem?_cons_succ,List.getElem?_cons_zero];rfl)
    ·rfl
    ·(intro w' hE;go_simp)
    try simp only [Act.put,List.setIfInBounds_toArray,List.set_cons_zero,List.set_cons_succ]
    iterate 6 (
     refine' wpQ_take ?_ ?_ ?_ ?_;rotate_left 2
     ·(simp only [List.getElem?_toArray,List.getElem?_cons_succ,List.getElem?_cons_zero];rfl)
     ·rfl
     ·(intro w' hE;have q1:=hE.1.trans v1;have q2:=hE.2.1.trans s0;have q3:=hE.2.2.trans c1;go_simp;try rfl)
     try simp only [Act.put,List.setIfInBounds_toArray,List.set_cons_zero,List.set_cons_succ])
    refine' wpQ_go ?_ ?_;rotate_left 1
    ·(simp only [List.getElem?_toArray,List.getElem?_cons_succ,List.getElem?_cons_zero];rfl)
    intro K hK
    go_simp
    refine hK.out _ _ ⟨World.cell?_of_block ((set_other ng1).trans (set_other ng1)),World.cell?_of_block ((set_other ng2).trans (set_other ng2)),World.cell?_of_block ((set_other ng3).trans (set_other ng3))⟩ ?_
    clear hK K
    try simp only [Act.put,List.setIfInBounds_toArray,List.set_cons_zero,List.set_cons_succ]
    iterate 2 (
     refine' wpQ_take ?_ ?_ ?_ ?_;rotate_left 2
     ·(simp only [List.getElem?_toArray,List.getElem?_cons_succ,List.getElem?_cons_zero];rfl)
     ·rfl
     ·(intro w' hE;go_simp;try rfl)
     try simp only [Act.put,List.setIfInBounds_toArray,List.set_cons_zero,List.set_cons_succ])
    refine wpQ_end ?_
    gi_wp2
    refine bodyPost_ret (results36 _ _ w.heap.size (.slice none 0 0) (.slice none 0 0) (.int .i64 (y.at':Int)) (.int .i64 4) rfl rfl rfl (set_both _ _ hA2r)) rfl ?_
    exact ⟨ext_set2 (ext_drew (hx1.trans (hx2.trans hext))) _ _,_,rfl,by rw [hans];exact rel_tri (rel_pair2 .nils .nils rfl rfl) (.int _) (.int _)⟩
end R3

namespace R3
open Go Go.Proofs Go.RowKit Go.Shelf Sx
variable {mx:Int}
set_option maxRecDepth 100000 in
set_option maxHeartbeats 4000000 in
theorem doc_long (s:ByteArray) (w:World) (hs:s.data.toList.length > 65536) :
  CallsIn Fence.wide 7 Tryd.prog 36 #[.string s] w (DocPost w (fun b=>b=1) (.bad 0 2)):=by
 have hx1:Ext w (w.alloc (.cells #[.slice none 0 0, .slice none 0 0] 50)):=Ext.push w _
 have hA1:=World.alloc_heap_new w (.cells #[.slice none 0 0, .slice none 0 0] 50)
 obtain ⟨a0,a1,a2,a3⟩:=cell2 hA1
 have hs1:(65536:Int) < ((s.size:Nat):Int):=by
  have:s.size=s.data.toList.length:=rfl
  omega
 clear hs
 refine callsIn_of_wp Tryd.func36 rfl trivial ?_ rfl
 simp only [Tryd.ntmps36,List.size_toArray,List.length_cons,List.length_nil,Nat.reduceAdd,Nat.reduceSub,Array.replicate_succ,Array.replicate_zero,List.push_toArray,List.append_toArray,List.nil_append,List.cons_append]
 gi_wp2
 exact bodyPost_ret (results36 _ _ w.heap.size (.slice none 0 0) (.slice none 0 0) (.int .i64 0) (.int .i64 2) rfl rfl rfl hA1) rfl ⟨hx1,_,rfl,rel_tri (rel_pair2 .nils .nils rfl rfl) (.int _) (.int _)⟩
set_option maxRecDepth 100000 in
set_option maxHeartbeats 4000000 in
theorem doc_text (s:ByteArray) (w:World) (hm:w.cell? ⟨1,0,none⟩=some (.int .i64 mx)) (hs:s.data.toList.length≤65536) (hb:0≤(wordsW s.data.toList).2) :
  CallsIn Fence.wide 7 Tryd.prog 36 #[.string s] w (DocPost w (fun b=>b=1) (.bad (wordsW s.data.toList).2.toNat 4)):=by
 have hx1:Ext w (w.alloc (.cells #[.slice none 0 0, .slice none 0 0] 50)):=Ext.push w _
 have hsz:s.size=s.data.toList.length:=rfl
 have hlex:=all_callsF (mx:=mx) s (by omega) (w.alloc (.cells #[.slice none 0 0, .slice none 0 0] 50)) (ext_cell hx1 hm)
 generalize (wordsW s.data.toList).2=bad at hlex hb ⊢
 generalize (wordsW s.data.toList).1=ws at hlex
 have hs1:((s.size:Nat):Int)≤65536:=by omega
 clear hsz hs
 refine callsIn_of_wp Tryd.func36 rfl trivial ?_ rfl
 simp only [Tryd.ntmps36,List.size_toArray,List.length_cons,List.length_nil,Nat.reduceAdd,Nat.reduceSub,Array.replicate_succ,Array.replicate_zero,List.push_toArray,List.append_toArray,List.nil_append,List.cons_append]
 gi_wp2_with (refine ⟨trivial,?_⟩;gi_at_call 24;refine (callsIn_wide.2 hlex).mono ?_;clear hlex;rintro e w2 ⟨ad,c,rfl,hx2,hwr⟩;have hA2:=(hx2.block w.heap.size (by simp)).trans (World.alloc_heap_new w (.cells #[.slice none 0 0, .slice none 0 0] 50));obtain ⟨a0,a1,a2,a3⟩:=cell2 hA2)
 refine bodyPost_ret (results36 _ _ w.heap.size (.slice none 0 0) (.slice none 0 0) (.int .i64 bad) (.int .i64 4) rfl rfl rfl (set_both _ _ hA2)) rfl ⟨ext_set2 (hx1.trans hx2) _ _,_,rfl,?_⟩
 show Rel _ _ (.tu [.ag [.nils, .nils], .int (bad.toNat:Int), .int 4]) _
 rw [Int.toNat_of_nonneg hb]
 exact rel_tri (rel_pair2 .nils .nils rfl rfl) (.int _) (.int _)
theorem doc_in (s:ByteArray) (w:World) (hm:w.cell? ⟨1,0,none⟩=some (.int .i64 mx)):CallsIn Fence.wide 7 Tryd.prog 36 #[.string s] w (DocPost w (fun b=>b=1) (docT s.data.toList)):=by
 unfold docT
 by_cases h1:s.data.toList.length > 65536
 ·rw [if_pos h1]
  exact doc_long s w h1
 ·rw [if_neg h1]
  by_cases h2:0≤(wordsW s.data.toList).2
  ·rw [if_pos h2]
   exact doc_text (mx:=mx) s w hm (by omega) h2
  ·rw [if_neg h2]
   refine doc_words (mx:=mx) s w hm (by omega) h2 rfl ?_ ?_ ?_
   ·have:=wordsF_len (s.data.toList.length+1) s.data.toList 0 []
    simp only [List.length_nil] at this
    unfold wordsW
    omega
   ·exact wordsF_nm2 _ _ _ _ fun w hw=>by simp at hw
   ·exact wordsF_kind _ _ _ _ fun w hw=>by simp at hw
def G36 (args:List AV):Option AV :=
 match args with
 | [.s l]=>some (mrAV (docT l))
 | _=>none
theorem gv36_ok {C:Cfg} {mx:Int} (hgl:C.glob 1=some (1, .int mx)) (ho:(C.own 36).all Option.isNone=true) (args:List AV) (r:AV) (h:G36 args=some r) (w:World) (F:Nat→Prop) (vs:Array Value) (hG:GlobOk C w F) (hl:vs.size=args.length)
  (hv:∀ (j:Nat) (a:AV) (v:Value),args[j]?=some a→vs[j]?=some v→Rel w F a v):CallRuns Tryd.prog 36 vs w (PostOk C 36 w F r):=by
 obtain ⟨hm,hF1⟩:=cellOf1 hgl hG
 unfold G36 at h
 split at h
 ·cases h
  match vs,hl,hv with
  | ⟨[x]⟩,_,hv =>
   have hx:=hv 0 _ x rfl rfl
   cases hx with
   | s q =>
    refine .inl ⟨Tryd.f36,(Tryd.f36.body).getD .skip,Tryd.func36,by kernel_rfl,by kernel_rfl,Calls.mono (callsIn_wide.1 (doc_in (mx:=mx) q w hm)) fun e w' he=>?_⟩
    obtain ⟨hx,v,rfl,hr⟩:=he
    refine ⟨_,rfl,hx,?_⟩
    unfold ResOk
    rw [if_pos ho]
    exact hr.mono fun b _ hb=>⟨fun hlt=>by rw [hb hlt];exact hF1,rfl⟩
 ·cases h
end R3

namespace R3
open Go Go.Proofs Sx
def Nd.mn (x:Nd):Mn:=⟨x.kind,x.at',x.text,x.root,x.names,x.body.getD [],x.els.getD [],x.has⟩
theorem arr_mn:∀ (t:Ts) (m:Nat),(t.arr m).map Nd.mn=mArr m t
 | .nil,m=>rfl
 | .leaf w k,m=>by simp only [Ts.arr,mArr,List.map_cons,arr_mn k];rfl
 | .blk w b e k,m=>by simp only [Ts.arr,mArr,List.map_cons,List.map_append,arr_mn b,arr_mn k];rfl
 | .alt w b l c e k,m=>by simp only [Ts.arr,mArr,List.map_cons,List.map_append,arr_mn b,arr_mn c,arr_mn k];rfl
theorem arr_of:∀ (t:Ts) (m:Nat),∀ x ∈ t.arr m,x.hole=0∧∃ w ∈ t.flat,x.names=w.names
 | .nil,m,x,h=>by cases h
 | .leaf w k,m,x,h=>by
  rcases List.mem_cons.1 h with rfl | h
  ·exact ⟨rfl,w,List.mem_cons_self ..,rfl⟩
  ·obtain ⟨h1,v,hv,h2⟩:=arr_of k _ x h
   exact ⟨h1,v,List.mem_cons_of_mem _ hv,h2⟩
 | .blk w b e k,m,x,h=>by
  rcases List.mem_cons.1 h with rfl | h
  ·exact ⟨rfl,w,List.mem_cons_self ..,rfl⟩
  ·rcases List.mem_append.1 h with h | h
   ·obtain ⟨h1,v,hv,h2⟩:=arr_of b _ x h
    exact ⟨h1,v,List.mem_cons_of_mem _ (List.mem_append_left _ hv),h2⟩
   ·obtain ⟨h1,v,hv,h2⟩:=arr_of k _ x h
    exact ⟨h1,v,List.mem_cons_of_mem _ (List.mem_append_right _ (List.mem_cons_of_mem _ hv)),h2⟩
 | .alt w b l c e k,m,x,h=>by
  rcases List.mem_cons.1 h with rfl | h
  ·exact ⟨rfl,w,List.mem_cons_self ..,rfl⟩
  ·rcases List.mem_append.1 h with h | h
   ·obtain ⟨h1,v,hv,h2⟩:=arr_of b _ x h
    exact ⟨h1,v,List.mem_cons_of_mem _ (List.mem_append_left _ hv),h2⟩
   ·rcases List.mem_append.1 h with h | h
    ·obtain ⟨h1,v,hv,h2⟩:=arr_of c _ x h
     exact ⟨h1,v,List.mem_cons_of_mem _ (List.mem_append_right _ (List.mem_cons_of_mem _ (List.mem_append_left _ hv))),h2⟩
    ·obtain ⟨h1,v,hv,h2⟩:=arr_of k _ x h
     exact ⟨h1,v,List.mem_cons_of_mem _ (List.mem_append_right _ (List.mem_cons_of_mem _ (List.mem_append_right _ (List.mem_cons_of_mem _ hv)))),h2⟩
theorem arr_lists:∀ (t:Ts) (m:Nat),∀ x ∈ t.arr m,(x.body.getD []).length≤t.size∧(x.els.getD []).length≤t.size
 | .nil,m,x,h=>by cases h
 | .leaf w k,m,x,h=>by
  simp only [Ts.size]
  rcases List.mem_cons.1 h with rfl | h
  ·exact ⟨Nat.zero_le _,Nat.zero_le _⟩
  ·have:=arr_lists k _ x h
   omega
 | .blk w b e k,m,x,h=>by
  simp only [Ts.size]
  rcases List.mem_cons.1 h with rfl | h
  ·have h1:((nBlk w (b.tops (m+1))).body.getD []).length=(b.tops (m+1)).length:=rfl
   have h2:((nBlk w (b.tops (m+1))).els.getD []).length=0:=rfl
   have:=tops_len b (m+1)
   omega
  ·rcases List.mem_append.1 h with h | h
   ·have:=arr_lists b _ x h
    omega
   ·have:=arr_lists k _ x h
    omega
 | .alt w b l c e k,m,x,h=>by
  simp only [Ts.size]
  rcases List.mem_cons.1 h with rfl | h
  ·have h1:((nAlt w (b.tops (m+1)) (c.tops (m+1+b.size))).body.getD []).length=(b.tops (m+1)).length:=rfl
   have h2:((nAlt w (b.tops (m+1)) (c.tops (m+1+b.size))).els.getD []).length=(c.tops (m+1+b.size)).length:=rfl
   have:=tops_len b (m+1)
   have:=tops_len c (m+1+b.size)
   omega
  ·rcases List.mem_append.1 h with h | h
   ·have:=arr_lists b _ x h
    omega
   ·rcases List.mem_append.1 h with h | h
    ·have:=arr_lists c _ x h
     omega
    ·have:=arr_lists k _ x h
     omega
end R3

namespace R3
open Go Go.Proofs Sx
variable {mx:Int}
noncomputable def body67:Code:=(Tryd.f67.body).getD .skip
section
variable (run:RunT) (a0 a1:AV) (a2:Int)
noncomputable def K67_4:List Item:=(kAt 4 body67 []).getD []
def S67_4:St:=St.ofL [(0, .cell (.val a0)),(1, .cell (.val a1)),(5, .cell (.val (.int a2)))] []
noncomputable def F67_4:Option AV:=run K67_4 (S67_4 a0 a1 a2)
end
noncomputable def X67 (call:CallT) (run:RunT) (a0 a1:AV):Option AV :=
 (lenR a0).bind fun v1=>(lenR a1).bind fun v2=>(binI .neq v1 v2).bind fun v3=>condM v3
 (some (.b false))
 (F67_4 run a0 a1 0)
section
variable (call:CallT) (run:RunT) (a0 a1:AV)
theorem text67:unr (C mx) call run 67 Tryd.f67 400 [.code body67] (initF (C mx) 67 Tryd.f67.ntmps [a0,a1])=X67 call run a0 a1:=by
 kernel_rfl
theorem c67 {r:AV} (h:X67 (semCall (C mx) Tryd.prog) (semRun (C mx) Tryd.prog 67 Tryd.f67) a0 a1=some r):semCall (C mx) Tryd.prog 67 [a0,a1]=some r :=
 semCall_unr (fn:=Tryd.f67) (c:=body67) (by kernel_rfl) (by kernel_rfl) 400 (by kernel_rfl) ((text67 _ _ a0 a1).trans h)
end
noncomputable def X67_4 (call:CallT) (run:RunT) (a0 a1:AV) (a2:Int):Option AV :=
 (lenR a0).bind fun v1=>(binI .lss (.int a2) v1).bind fun v2=>condM v2
 ((idx 1 a0 (.int a2)).bind fun v3=>(idx 1 a1 (.int a2)).bind fun v4=>(binI .neq (AV.cell v3 0) (AV.cell v4 0)).bind fun v5=>condM v5
 (some (.b false))
 (F67_4 run a0 a1 (w64 (a2+1))))
 (some (.b true))
section
variable (call:CallT) (run:RunT) (a0 a1:AV) (a2:Int)
theorem text67_4:step (C mx) call 67 Tryd.f67 (unr (C mx) call run 67 Tryd.f67 400) K67_4 (S67_4 a0 a1 a2)=X67_4 call run a0 a1 a2:=by
 kernel_rfl
end
section
variable (a0 a1:AV) (a2:Int)
theorem r67_4 {r:AV} (h:X67_4 (semCall (C mx) Tryd.prog) (semRun (C mx) Tryd.prog 67 Tryd.f67) a0 a1 a2=some r):F67_4 (semRun (C mx) Tryd.prog 67 Tryd.f67) a0 a1 a2=some r :=
 semRun_unr 400 ((text67_4 _ _ a0 a1 a2).trans h)
end
end R3

namespace R3
open Go Go.RowKit Sx
section
variable {P:Program} {ops:Array Oper} {nc:List Nat} {Q:Exit→Act→World→Prop} {E:World→World→Prop}
theorem wp_region_fork {id:Nat} {a:Act} {w:World} (hm:P.follows .mixedOrders=true) (nc:List Nat) (E:World→World→Prop) (l:List (Nat×Bool)) (i j:Nat) (l2 l3:List (Nat×Bool)) (L:List Bool)
  (hp:planQ ops nc (fun listed=>decide (listed=L.toArray)) (Array.replicate ops.size false) l=true)
  (hrd:Region.ready .any ops L.toArray=[i,j])
  (h2:planQ ops nc (fun listed=>(Region.ready .any ops listed).isEmpty) (L.toArray.setIfInBounds i true) l2=true)
  (h3:planQ ops nc (fun listed=>(Region.ready .any ops listed).isEmpty) (L.toArray.setIfInBounds j true) l3=true)
  (hlen:Nat.beq (l.length+(l2.length+1)) ops.size=true) (hlen3:Nat.beq l3.length l2.length=true) (hs:Region.noSelect ops=true)
  (hr:∀ w,E w w) (ht:∀ u v w,E u v→E v w→E u w)
  (h:wpQ P ops nc (NoPanic Q) E l (fun a w=>wpQ P ops nc (NoPanic Q) E ((i,false) :: l2) (fun a w=>Q .normal a w) a w∧wpQ P ops nc (NoPanic Q) E ((j,false) :: l3) (fun a w=>Q .normal a w) a w) a w.drew):(Code.region id ops true).wp P Q a w:=by
 refine wp_region_noPanic ?_
 refine wp_region_any hm ?_
 have hl:=Nat.eq_of_beq_eq_true hlen
 have hl3:=Nat.eq_of_beq_eq_true hlen3
 have fin:∀ (l:List (Nat×Bool)) (listed:Array Bool) (a:Act) (w:World),Closed ops listed→planQ ops nc (fun listed=>(Region.ready .any ops listed).isEmpty) listed l=true→wpQ P ops nc (NoPanic Q) E l (fun a w=>Q .normal a w) a w→AnyQ P ops nc (NoPanic Q) E (l.length+0) listed a w:=fun l listed a w hcl hpl hw =>
  anyQ_of_wpQ (m:=0) hr ht hs (fun _ _ _ h=>h) (fun listed a w hcl hk hn=>⟨by simpa using hk,hn⟩) l listed a w hcl hpl hw
 have key:=anyQ_of_wpQ (m:=l2.length+1) hr ht hs (fun _ _ _ h=>h) (k:=fun listed=>decide (listed=L.toArray)) (N:=fun a w=>wpQ P ops nc (NoPanic Q) E ((i,false) :: l2) (fun a w=>Q .normal a w) a w∧wpQ P ops nc (NoPanic Q) E ((j,false) :: l3) (fun a w=>Q .normal a w) a w)
  (fun listed a w hcl hk hn=>by
   obtain rfl:=of_decide_eq_true hk
   refine ⟨fun e=>(by rw [hrd] at e;cases e),fun q hq=>?_⟩
   have hq':=hq
   rw [hrd] at hq'
   simp only [List.mem_cons,List.not_mem_nil,or_false] at hq'
   rcases hq' with rfl | rfl
   ·exact wpOp_mono (fun a' w' hh=>⟨hh.1,fin l2 _ _ _ (hcl.set hq) h2 hh.2⟩) (show wpOp P ops (NoPanic Q) q (fun a' w'=>(quiet nc q=true→E w w')∧wpQ P ops nc (NoPanic Q) E l2 (fun a w=>Q .normal a w) a' w') a w from hn.1)
   ·exact wpOp_mono (fun a' w' hh=>⟨hh.1,by have:=fin l3 _ _ _ (hcl.set hq) h3 hh.2;rwa [hl3] at this⟩) (show wpOp P ops (NoPanic Q) q (fun a' w'=>(quiet nc q=true→E w w')∧wpQ P ops nc (NoPanic Q) E l3 (fun a w=>Q .normal a w) a' w') a w from hn.2)) l (Array.replicate ops.size false) a _
  (fun j o hj=>by
   simp [Array.getD] at hj) hp h
 rw [hl] at key
 exact AnyQ.any _ key
end
end R3

namespace R3
open Go Go.Proofs Go.RowKit Go.Shelf Sx
variable {mx:Int}
def IsL (a:AV) (l:List Nat):Prop:=a=.ro 1 (numsAV l)∨(a=.nils∧l=[])
theorem isl_opt (o:Option (List Nat)):IsL (optAV o) (o.getD []):=by
 cases o with
 | none=>exact .inr ⟨rfl,rfl⟩
 | some l=>exact .inl rfl
theorem isl_len {a:AV} {l:List Nat} (h:IsL a l):lenR a=some (.int (l.length:Int)):=by
 rcases h with rfl | ⟨rfl,rfl⟩
 ·simp [lenR,numsAV]
 ·rfl
theorem isl_idx {a:AV} {l:List Nat} (h:IsL a l) {i:Nat} (hi:i < l.length):idx 1 a (.int (i:Int))=some (.int (l[i]:Int)):=by
 rcases h with rfl | ⟨rfl,rfl⟩
 ·rw [idx_get 1 (by rw [numsAV,List.length_map];exact hi)]
  simp only [numsAV,List.getElem_map]
 ·simp at hi
theorem isl_slice {a:AV} {l:List Nat} (h:IsL a l) {w:World} {F:Nat→Prop} {v:Value} (hr:Rel w F a v):∃ (ad:Option Addr) (n c:Nat),v=.slice ad n c:=by
 rcases h with rfl | ⟨rfl,rfl⟩
 ·obtain ⟨ad,c,h,_⟩:=rel_ro_shape hr
  exact ⟨_,_,_,h⟩
 ·cases hr
  exact ⟨_,_,_,rfl⟩
theorem l67 {a b:AV} {l:List Nat} (ha:IsL a l) (hb:IsL b l) (hl:l.length≤100000):∀ (m i:Nat),l.length=i+m→F67_4 (semRun (C mx) Tryd.prog 67 Tryd.f67) a b (i:Int)=some (.b true)
 | 0,i,hi=>by
  apply r67_4
  have e:decide ((i:Int) < (l.length:Int))=false:=by rw [decide_eq_false_iff_not];omega
  simp only [X67_4,isl_len ha,Option.bind_some,int_lss,e,condM_b,Bool.false_eq_true,if_false]
 | m+1,i,hi=>by
  apply r67_4
  have hlt:i < l.length:=by omega
  have e:decide ((i:Int) < (l.length:Int))=true:=by rw [decide_eq_true_eq];omega
  have e3:w64 ((i:Int)+1)=((i+1:Nat):Int):=by rw [w64_eq (by omega) (by omega)];omega
  have hc:AV.cell (.int (l[i]:Int)) 0=.int (l[i]:Int):=rfl
  simp only [X67_4,isl_len ha,Option.bind_some,int_lss,e,condM_b,if_true,isl_idx ha hlt,isl_idx hb hlt,hc,int_neq,bne_self_eq_false,Bool.false_eq_true,if_false,e3]
  exact l67 ha hb hl m (i+1) (by omega)
theorem s67 {a b:AV} {l:List Nat} (ha:IsL a l) (hb:IsL b l) (hl:l.length≤100000):semCall (C mx) Tryd.prog 67 [a,b]=some (.b true):=by
 apply c67
 simp only [X67,isl_len ha,isl_len hb,Option.bind_some,int_neq,bne_self_eq_false,condM_b,Bool.false_eq_true,if_false]
 exact l67 (mx:=mx) ha hb hl l.length 0 (by omega)
theorem arg2 {w:World} {F:Nat→Prop} {a b:AV} {u v:Value} (h:Rel w F a u) (h2:Rel w F b v):∀ (j:Nat) (a':AV) (v':Value),([a,b]:List AV)[j]?=some a'→(#[u,v]:Array Value)[j]?=some v'→Rel w F a' v':=by
 intro j a' v' h1 h3
 match j with
 | 0=>cases h1;cases h3;exact h
 | 1=>cases h1;cases h3;exact h2
 | j+2=>simp at h1
theorem num_calls {W:World} (hm:W.cell? ⟨1,0,none⟩=some (.int .i64 mx)) {a b:AV} {l:List Nat} (ha:IsL a l) (hb:IsL b l) (hl:l.length≤100000) {u v:Value} (h1:Rel W (fun _=>True) a u) (h2:Rel W (fun _=>True) b v) :
  Calls Tryd.prog 67 #[u,v] W fun e W'=>Ext W W'∧e=.returned (.bool true):=by
 refine Calls.mono (calls_sem (fit mx) (c:=Tryd.f67.body.getD .skip) Tryd.func67 (by kernel_rfl) (s67 (mx:=mx) ha hb hl) (by kernel_rfl) W (fun _=>True) #[u,v] (globOkF hm trivial) rfl (arg2 h1 h2)) fun e w' he=>?_
 obtain ⟨v,rfl,hx,hr⟩:=he
 unfold ResOk at hr
 rw [if_pos (by kernel_rfl)] at hr
 cases hr
 exact ⟨hx,rfl⟩
theorem nm_of2 {v:AV} (h:NmOk2 v):NmOk v:=by
 rcases h with rfl | ⟨x,l,rfl,hl⟩
 ·exact .inl rfl
 ·exact .inr ⟨x :: l,rfl,by simp only [List.length_cons];omega⟩
theorem nm_slice {a:AV} (h:NmOk2 a) {w:World} {F:Nat→Prop} {v:Value} (hr:Rel w F a v):∃ (ad:Option Addr) (n c:Nat),v=.slice ad n c:=by
 rcases h with rfl | ⟨x,l,rfl,hl⟩
 ·cases hr
  exact ⟨_,_,_,rfl⟩
 ·obtain ⟨ad,c,h,_⟩:=rel_ro_shape hr
  exact ⟨_,_,_,h⟩
theorem way_calls2 {W:World} (hm:W.cell? ⟨1,0,none⟩=some (.int .i64 mx)) {a:AV} (ha:NmOk2 a) (r:Bool) {u v:Value} (h1:Rel W (fun _=>True) a u) (h2:Rel W (fun _=>True) a v) :
  Calls Tryd.prog 31 #[.agg #[.bool r,u], .agg #[.bool r,v]] W fun e W'=>Ext W W'∧e=.returned (.bool true):=by
 obtain ⟨ad,n,c,rfl⟩:=nm_slice ha h1
 obtain ⟨ad',n',c',rfl⟩:=nm_slice ha h2
 refine Calls.mono (calls_sem (fit mx) (c:=Tryd.f31.body.getD .skip) Tryd.func31 (by kernel_rfl) (s31 (mx:=mx) r a (nm_of2 ha)) (by kernel_rfl) W (fun _=>True) _ (globOkF hm trivial) rfl (arg2 (rel_pair2 (.b r) h1 rfl rfl) (rel_pair2 (.b r) h2 rfl rfl))) fun e w' he=>?_
 obtain ⟨v,rfl,hx,hr⟩:=he
 unfold ResOk at hr
 rw [if_pos (by kernel_rfl)] at hr
 cases hr
 exact ⟨hx,rfl⟩
theorem ro_cells {w:World} {F:Nat→Prop} {k:Nat} {l:List AV} {ad:Option Addr} {n c:Nat} (h:Rel w F (.ro k l) (.slice ad n c)) {i:Nat} (hi:i < l.length):∃ (r off:Nat) (x:Nat→Value),ad=some ⟨r,off,none⟩∧∀ j,j < k→w.cell? ⟨r,off+i * k+j,none⟩=some (x j)∧Rel w F (l[i].cell j) (x j):=by
 have key:∀ (l:List AV) (v:Value),Rel w F (.ro k l) v→(hi:i < l.length)→∃ (r off c:Nat) (x:Nat→Value),v=.slice (some ⟨r,off,none⟩) l.length c∧∀ j,j < k→w.cell? ⟨r,off+i * k+j,none⟩=some (x j)∧Rel w F (l[i].cell j) (x j):=by
  intro l v h hi
  cases h with
  | ro0=>simp at hi
  | ro _ _ r off c xs hk hc hF hl hxx h1 hr =>
   refine ⟨r,off,c,fun j=>xs.getD (i * k+j) undef,rfl,fun j hj=>?_⟩
   have hj':i * k+j < xs.length:=by
    have:(i+1) * k≤l.length * k:=Nat.mul_le_mul_right _ hi
    rw [Nat.succ_mul] at this
    omega
   have h2:xs[i * k+j]?=some xs[i * k+j]:=List.getElem?_eq_getElem hj'
   show w.cell? _=some (xs.getD (i * k+j) undef)∧Rel w F _ (xs.getD (i * k+j) undef)
   rw [List.getD_eq_getElem?_getD (l:=xs),h2,Option.getD_some]
   have h3:=hr i j _ hi hj h2
   have e:l.getD i .un=l[i]:=by rw [List.getD_eq_getElem?_getD,List.getElem?_eq_getElem hi];rfl
   rw [e] at h3
   refine ⟨?_,h3⟩
   rw [← hxx _ _ h2,Nat.add_assoc]
 obtain ⟨r,off,c',x,e,hx⟩:=key _ _ h hi
 cases e
 exact ⟨r,off,x,rfl,hx⟩
theorem rel_u8' {w:World} {F:Nat→Prop} {k:UInt8} {v:Value} (h:Rel w F (.u8 k) v):v=.int .u8 (k.toNat:Int):=by cases h;rfl
theorem rel_int' {w:World} {F:Nat→Prop} {k:Int} {v:Value} (h:Rel w F (.int k) v):v=.int .i64 k:=by cases h;rfl
theorem rel_b' {w:World} {F:Nat→Prop} {k:Bool} {v:Value} (h:Rel w F (.b k) v):v=.bool k:=by cases h;rfl
theorem rel_s2 {w:World} {F:Nat→Prop} {l:List UInt8} {u v:Value} (h:Rel w F (.s l) u) (h2:Rel w F (.s l) v):∃ q,u=.string q∧v=.string q:=by
 have hu:∃ q:ByteArray,u=.string q∧q.data.toList=l:=by cases h;exact ⟨_,rfl,rfl⟩
 have hv:∃ q:ByteArray,v=.string q∧q.data.toList=l:=by cases h2;exact ⟨_,rfl,rfl⟩
 obtain ⟨q,rfl,h3⟩:=hu
 obtain ⟨q',rfl,h4⟩:=hv
 have:q=q':=by
  cases q with | mk d=>cases q' with | mk d' =>
  have:d=d':=Array.toList_inj.1 (h3.trans h4.symm)
  rw [this]
 exact ⟨q,rfl,by rw [this]⟩
theorem pair_vals {w:World} {F:Nat→Prop} {x:Nd} (hn:NmOk2 x.names) {f g:Nat→Value} (hf:∀ j,j < 9→Rel w F (x.av.cell j) (f j)) (hg:∀ j,j < 9→Rel w F (x.mn.av.cell j) (g j)) :
  ∃ (q:ByteArray) (a4 a5 a6 b4 b5 b6:Option Addr) (m4 m5 m6 n4 n5 n6 c4 c5 c6 d4 d5 d6:Nat),
   (f 0=.int .u8 (x.kind.toNat:Int)∧f 1=.int .i64 (x.at':Int)∧f 2=.string q∧f 3=.bool x.root∧f 4=.slice a4 m4 c4∧f 5=.slice a5 m5 c5∧f 6=.slice a6 m6 c6∧f 7=.bool x.has∧f 8=.int .u8 (x.hole.toNat:Int)) ∧
   (g 0=.int .u8 (x.kind.toNat:Int)∧g 1=.int .i64 (x.at':Int)∧g 2=.string q∧g 3=.bool x.root∧g 4=.slice b4 n4 d4∧g 5=.slice b5 n5 d5∧g 6=.slice b6 n6 d6∧g 7=.bool x.has∧g 8=.int .u8 0) ∧
   (Rel w F x.names (.slice a4 m4 c4)∧Rel w F (optAV x.body) (.slice a5 m5 c5)∧Rel w F (optAV x.els) (.slice a6 m6 c6)) ∧
   (Rel w F x.names (.slice b4 n4 d4)∧Rel w F (.ro 1 (numsAV (x.body.getD []))) (.slice b5 n5 d5)∧Rel w F (.ro 1 (numsAV (x.els.getD []))) (.slice b6 n6 d6)):=by
 have f0:Rel w F (.u8 x.kind) (f 0):=hf 0 (by decide)
 have f1:Rel w F (.int (x.at':Int)) (f 1):=hf 1 (by decide)
 have f2:Rel w F (.s x.text) (f 2):=hf 2 (by decide)
 have f3:Rel w F (.b x.root) (f 3):=hf 3 (by decide)
 have f4:Rel w F x.names (f 4):=hf 4 (by decide)
 have f5:Rel w F (optAV x.body) (f 5):=hf 5 (by decide)
 have f6:Rel w F (optAV x.els) (f 6):=hf 6 (by decide)
 have f7:Rel w F (.b x.has) (f 7):=hf 7 (by decide)
 have f8:Rel w F (.u8 x.hole) (f 8):=hf 8 (by decide)
 have g0:Rel w F (.u8 x.kind) (g 0):=hg 0 (by decide)
 have g1:Rel w F (.int (x.at':Int)) (g 1):=hg 1 (by decide)
 have g2:Rel w F (.s x.text) (g 2):=hg 2 (by decide)
 have g3:Rel w F (.b x.root) (g 3):=hg 3 (by decide)
 have g4:Rel w F x.names (g 4):=hg 4 (by decide)
 have g5:Rel w F (.ro 1 (numsAV (x.body.getD []))) (g 5):=hg 5 (by decide)
 have g6:Rel w F (.ro 1 (numsAV (x.els.getD []))) (g 6):=hg 6 (by decide)
 have g7:Rel w F (.b x.has) (g 7):=hg 7 (by decide)
 have g8:Rel w F (.u8 0) (g 8):=hg 8 (by decide)
 obtain ⟨q,e2,e2'⟩:=rel_s2 f2 g2
 obtain ⟨a4,m4,c4,e4⟩:=nm_slice hn f4
 obtain ⟨b4,n4,d4,e4'⟩:=nm_slice hn g4
 obtain ⟨a5,m5,c5,e5⟩:=isl_slice (isl_opt x.body) f5
 obtain ⟨b5,n5,d5,e5'⟩:=isl_slice (.inl rfl) g5
 obtain ⟨a6,m6,c6,e6⟩:=isl_slice (isl_opt x.els) f6
 obtain ⟨b6,n6,d6,e6'⟩:=isl_slice (.inl rfl) g6
 rw [e4] at f4;rw [e5] at f5;rw [e6] at f6;rw [e4'] at g4;rw [e5'] at g5;rw [e6'] at g6
 exact ⟨q,a4,a5,a6,b4,b5,b6,m4,m5,m6,n4,n5,n6,c4,c5,c6,d4,d5,d6,⟨rel_u8' f0,rel_int' f1,e2,rel_b' f3,e4,e5,e6,rel_b' f7,rel_u8' f8⟩,⟨rel_u8' g0,rel_int' g1,e2',rel_b' g3,e4',e5',e6',rel_b' g7,rel_u8' g8⟩,⟨f4,f5,f6⟩,⟨g4,g5,g6⟩⟩
end R3

namespace R3
open Go Go.Proofs Go.RowKit Go.Shelf Sx
variable {mx:Int}
theorem cell_keep {u v:World} {N:Nat} (hE:∀ b,b < N→v.heap[b]?=u.heap[b]?) {r o:Nat} {x:Value} (h:u.cell? ⟨r,o,none⟩=some x) (hb:r < N):v.cell? ⟨r,o,none⟩=some x:=(World.cell?_of_block (hE _ hb)).trans h
def IsN (a:AV) (l:List AV):Prop:=a=.ro 9 l∨(a=.nils∧l=[])
theorem isn_slice {a:AV} {l:List AV} (h:IsN a l) {w:World} {F:Nat→Prop} {v:Value} (hr:Rel w F a v):∃ (ad:Option Addr) (c:Nat),v=.slice ad l.length c∧(0 < l.length→Rel w F (.ro 9 l) v):=by
 rcases h with rfl | ⟨rfl,rfl⟩
 ·obtain ⟨ad,c,e,_⟩:=rel_ro_shape hr
  exact ⟨ad,c,e,fun _=>hr⟩
 ·cases hr
  exact ⟨_,_,rfl,fun h=>by simp at h⟩
theorem cell9 {W:World} {b:Nat} {x0 x1 x2 x3 x4 x5 x6 x7 x8:Value} {t:TypeId} (h:W.heap[b]?=some (.cells #[x0,x1,x2,x3,x4,x5,x6,x7,x8] t)):W.cell? ⟨b,0,none⟩=some x0∧W.cell? ⟨b,1,none⟩=some x1∧W.cell? ⟨b,2,none⟩=some x2∧W.cell? ⟨b,3,none⟩=some x3∧W.cell? ⟨b,4,none⟩=some x4∧W.cell? ⟨b,5,none⟩=some x5∧W.cell? ⟨b,6,none⟩=some x6∧W.cell? ⟨b,7,none⟩=some x7∧W.cell? ⟨b,8,none⟩=some x8:=by simp [World.cell?,h]
theorem two_old {w:World} {A B:Obj} {b:Nat} (hb:b < w.heap.size):((w.alloc A).alloc B).heap[b]?=w.heap[b]?:=(al_old' (by simp;omega)).trans (al_old' hb)
theorem results39 (T:Array Value) (W:World) (a:Value) (t4:T[4]?.getD undef=a):(results Tryd.f39 T).run Tryd.prog W=.ok a W:=by
 have hr:Tryd.f39.results = #[.tmp 4]:=by kernel_rfl
 unfold results
 rw [hr]
 simp [t4,Sem.run_bind,Result.andThen]
set_option maxRecDepth 100000 in
set_option maxHeartbeats 4000000 in
theorem alike_in {ns:List Nd} {top:List Nat} (hN:ns.length≤100000) (hT:top.length≤100000) (hnm:∀ x ∈ ns,NmOk2 x.names) (hbd:∀ x ∈ ns,(x.body.getD []).length≤100000∧(x.els.getD []).length≤100000)
  {w:World} (hm:w.cell? ⟨1,0,none⟩=some (.int .i64 mx)) {a b c d:AV} (ha:IsN a (ns.map Nd.av)) (hb:IsN b (ns.map fun x=>x.mn.av)) (hc:IsL c top) (hd:IsL d top) {va vb ta tb:Value} (ra:Rel w (fun _=>True) a va) (rb:Rel w (fun _=>True) b vb) (rta:Rel w (fun _=>True) c ta) (rtb:Rel w (fun _=>True) d tb) :
  CallsIn Fence.wide 7 Tryd.prog 39 #[.agg #[va,ta], .agg #[vb,tb]] w (fun e w'=>Ext w w'∧e=.returned (.bool true)):=by
 obtain ⟨aa,ca,rfl,ra⟩:=isn_slice ha ra
 obtain ⟨ab,cb,rfl,rb⟩:=isn_slice hb rb
 obtain ⟨a5,n5,c5,rfl⟩:=isl_slice hc rta
 obtain ⟨a6,n6,c6,rfl⟩:=isl_slice hd rtb
 have la:(ns.map Nd.av).length=ns.length:=List.length_map ..
 have lb:(ns.map fun x=>x.mn.av).length=ns.length:=List.length_map ..
 rw [la] at ra
 rw [lb] at rb
 simp only [la,lb]
 have hx1:Ext w ((w.alloc (.cells #[.slice aa ns.length ca, .slice a5 n5 c5] 50)).alloc (.cells #[.slice ab ns.length cb, .slice a6 n6 c6] 50)):=(Ext.push w _).trans (Ext.push _ _)
 have hA:((w.alloc (.cells #[.slice aa ns.length ca, .slice a5 n5 c5] 50)).alloc (.cells #[.slice ab ns.length cb, .slice a6 n6 c6] 50)).heap[w.heap.size]?=some (.cells #[.slice aa ns.length ca, .slice a5 n5 c5] 50):=(al_old' (by simp)).trans (World.alloc_heap_new w _)
 have hB:((w.alloc (.cells #[.slice aa ns.length ca, .slice a5 n5 c5] 50)).alloc (.cells #[.slice ab ns.length cb, .slice a6 n6 c6] 50)).heap[w.heap.size+1]?=some (.cells #[.slice ab ns.length cb, .slice a6 n6 c6] 50):=al_new' (by simp)
 refine callsIn_of_wp Tryd.func39 rfl trivial ?_ rfl
 simp only [Tryd.ntmps39,List.size_toArray,List.length_cons,List.length_nil,Nat.reduceAdd,Nat.reduceSub,Array.replicate_succ,Array.replicate_zero,List.push_toArray,List.append_toArray,List.nil_append,List.cons_append]
 obtain ⟨e0,e1,-,-⟩:=cell2 hA
 obtain ⟨e2,e3,-,-⟩:=cell2 hB
 have hnum:=num_calls (mx:=mx) (ext_cell hx1 hm) hc hd hT (rta.mono fun b hb _=>⟨trivial,hx1.block b hb⟩) (rtb.mono fun b hb _=>⟨trivial,hx1.block b hb⟩)
 gi_wp2_with (refine ⟨trivial,?_⟩;gi_at_call 67;refine (callsIn_wide.2 hnum).mono ?_;clear hnum;rintro e w2 ⟨hx2,rfl⟩)
 have hA2:=(hx2.block w.heap.size (by simp;omega)).trans hA
 have hB2:=(hx2.block (w.heap.size+1) (by simp)).trans hB
 have hx3:=hx1.trans hx2
 have hs2:w.heap.size+2≤w2.heap.size:=by have:=hx2.size;simp at this;omega
 clear hA hB e0 e1 e2 e3 hx1 hx2
 gi_loopw [5] (fun v5 wr=>∃ i:Nat,v5=.int .i64 (i:Int)∧i≤ns.length∧Ext w2 wr) (fun v5 wr=>ns.length - (match v5 with | .int _ a=>a.toNat | _=>0))
 case atStart=>exact ⟨0,rfl,Nat.zero_le _,Ext.refl _⟩
 case round =>
  obtain ⟨i,rfl,hi,hxr⟩:=hrel
  have hAr:=(hxr.block w.heap.size (by omega)).trans hA2
  have hBr:=(hxr.block (w.heap.size+1) (by omega)).trans hB2
  have hxw:=hx3.trans hxr
  obtain ⟨e0,e1,-,-⟩:=cell2 hAr
  obtain ⟨e2,e3,-,-⟩:=cell2 hBr
  have hmr:=ext_cell hxw hm
  by_cases hlt:i < ns.length
  ·have hla:i < (ns.map Nd.av).length:=by rw [la];exact hlt
   have hlb:i < (ns.map fun x=>x.mn.av).length:=by rw [lb];exact hlt
   obtain ⟨r1,o1,f,rfl,hf⟩:=ro_cells ((ra (by omega)).mono fun b hb _=>⟨trivial,hxw.block b hb⟩) hla
   obtain ⟨r2,o2,g,rfl,hg⟩:=ro_cells ((rb (by omega)).mono fun b hb _=>⟨trivial,hxw.block b hb⟩) hlb
   simp only [List.getElem_map] at hf hg
   have hnx:=hnm _ (List.getElem_mem hlt)
   have hbx:=hbd _ (List.getElem_mem hlt)
   generalize ns[i]=x at *
   obtain ⟨q,a4,a5',a6',b4,b5,b6,m4,m5,m6,n4,n5',n6',c4,c5',c6',d4,d5,d6,⟨f0,f1,f2,f3,f4,f5,f6,f7,f8⟩,⟨g0,g1,g2,g3,g4,g5,g6,g7,g8⟩,⟨rn,rb5,re6⟩,⟨rn',rb5',re6'⟩⟩:=pair_vals hnx (fun j hj=>(hf j hj).2) (fun j hj=>(hg j hj).2)
   have y0:=(hf 0 (by decide)).1
   have y1:=(hf 1 (by decide)).1
   have y2:=(hf 2 (by decide)).1
   have y3:=(hf 3 (by decide)).1
   have y4:=(hf 4 (by decide)).1
   have y5:=(hf 5 (by decide)).1
   have y6:=(hf 6 (by decide)).1
   have y7:=(hf 7 (by decide)).1
   have y8:=(hf 8 (by decide)).1
   have z0:=(hg 0 (by decide)).1
   have z1:=(hg 1 (by decide)).1
   have z2:=(hg 2 (by decide)).1
   have z3:=(hg 3 (by decide)).1
   have z4:=(hg 4 (by decide)).1
   have z5:=(hg 5 (by decide)).1
   have z6:=(hg 6 (by decide)).1
   have z7:=(hg 7 (by decide)).1
   have z8:=(hg 8 (by decide)).1
   rw [f0] at y0;rw [f1] at y1;rw [f2] at y2;rw [f3] at y3;rw [f4] at y4;rw [f5] at y5;rw [f6] at y6;rw [f7] at y7;rw [f8] at y8
   rw [g0] at z0;rw [g1] at z1;rw [g2] at z2;rw [g3] at z3;rw [g4] at z4;rw [g5] at z5;rw [g6] at z6;rw [g7] at z7;rw [g8] at z8
   rw [Nat.add_zero] at y0 z0
   clear hf hg f0 f1 f2 f3 f4 f5 f6 f7 f8 g0 g1 g2 g3 g4 g5 g6 g7 g8 ra rb hnm hbd la lb hla hlb
   gi_wp2
   rw [wpIn_wide]
   have hr1:=cell_lt y0
   have hr2:=cell_lt z0
   simp only at hr1 hr2
   have hza:w.heap.size < wr.heap.size:=by have:=hxr.size;omega
   have hzb:w.heap.size+1 < wr.heap.size:=by have:=hxr.size;omega
   refine wp_region_fork (by kernel_rfl) [] (fun u v=>∀ b,b < wr.heap.size→v.heap[b]?=u.heap[b]?) [(0,true),(1,true),(2,true),(3,true),(4,true),(5,true),(6,true),(7,true),(8,true),(9,true)] 10 11 [(11,false),(12,false),(13,false)] [(10,false),(12,false),(13,false)]
    [true,true,true,true,true,true,true,true,true,true,false,false,false,false] (by kernel_rfl) (by kernel_rfl) (by kernel_rfl) (by kernel_rfl) (by kernel_rfl) (by kernel_rfl) (by kernel_rfl) (fun _ _ _=>rfl) (fun _ _ _ h1 h2 b hb=>(h2 b hb).trans (h1 b hb)) ?_
   iterate 4 (
    refine' wpQ_take ?_ ?_ ?_ ?_;rotate_left 2
    ·(simp only [List.getElem?_toArray,List.getElem?_cons_succ,List.getElem?_cons_zero];rfl)
    ·rfl
    ·(intro w' hE;have q1:=cell_keep (u:=wr.drew) hE e0 hza;have q2:=cell_keep (u:=wr.drew) hE e2 hzb;go_simp;try rfl)
    try simp only [Act.put,List.setIfInBounds_toArray,List.set_cons_zero,List.set_cons_succ])
   iterate 1 (
    refine' wpQ_take ?_ ?_ ?_ ?_;rotate_left 2
    ·(simp only [List.getElem?_toArray,List.getElem?_cons_succ,List.getElem?_cons_zero];rfl)
    ·rfl
    ·(intro w' hE;have q0:=cell_keep (u:=wr.drew) hE y0 hr1;have q1:=cell_keep (u:=wr.drew) hE y1 hr1;have q2:=cell_keep (u:=wr.drew) hE y2 hr1;have q3:=cell_keep (u:=wr.drew) hE y3 hr1;have q4:=cell_keep (u:=wr.drew) hE y4 hr1;have q5:=cell_keep (u:=wr.drew) hE y5 hr1;have q6:=cell_keep (u:=wr.drew) hE y6 hr1;have q7:=cell_keep (u:=wr.drew) hE y7 hr1;have q8:=cell_keep (u:=wr.drew) hE y8 hr1;go_simp;try rfl)
    try simp only [Act.put,List.setIfInBounds_toArray,List.set_cons_zero,List.set_cons_succ])
   iterate 4 (
    refine' wpQ_take ?_ ?_ ?_ ?_;rotate_left 2
    ·(simp only [List.getElem?_toArray,List.getElem?_cons_succ,List.getElem?_cons_zero];rfl)
    ·rfl
    ·(intro w' hE;have q1:=cell_keep (u:=wr.drew) hE e0 hza;have q2:=cell_keep (u:=wr.drew) hE e2 hzb;go_simp;try rfl)
    try simp only [Act.put,List.setIfInBounds_toArray,List.set_cons_zero,List.set_cons_succ])
   iterate 1 (
    refine' wpQ_take ?_ ?_ ?_ ?_;rotate_left 2
    ·(simp only [List.getElem?_toArray,List.getElem?_cons_succ,List.getElem?_cons_zero];rfl)
    ·rfl
    ·(intro w' hE;have q0:=cell_keep (u:=wr.drew) hE z0 hr2;have q1:=cell_keep (u:=wr.drew) hE z1 hr2;have q2:=cell_keep (u:=wr.drew) hE z2 hr2;have q3:=cell_keep (u:=wr.drew) hE z3 hr2;have q4:=cell_keep (u:=wr.drew) hE z4 hr2;have q5:=cell_keep (u:=wr.drew) hE z5 hr2;have q6:=cell_keep (u:=wr.drew) hE z6 hr2;have q7:=cell_keep (u:=wr.drew) hE z7 hr2;have q8:=cell_keep (u:=wr.drew) hE z8 hr2;go_simp;try rfl)
    try simp only [Act.put,List.setIfInBounds_toArray,List.set_cons_zero,List.set_cons_succ])
   refine wpQ_end ⟨?_,?_⟩
   ·refine' wpQ_go ?_ ?_;rotate_left 1
    ·(simp only [List.getElem?_toArray,List.getElem?_cons_succ,List.getElem?_cons_zero];rfl)
    intro K hK
    go_simp
    refine hK.out _ _ (fun b hb=>al_old' (by simpa using hb)) ?_
    clear hK K
    try simp only [Act.put,List.setIfInBounds_toArray,List.set_cons_zero,List.set_cons_succ]
    refine' wpQ_go ?_ ?_;rotate_left 1
    ·(simp only [List.getElem?_toArray,List.getElem?_cons_succ,List.getElem?_cons_zero];rfl)
    intro K hK
    go_simp
    refine hK.out _ _ (fun b hb=>al_old' (by simp;omega)) ?_
    clear hK K
    try simp only [Act.put,List.setIfInBounds_toArray,List.set_cons_zero,List.set_cons_succ]
    refine' wpQ_go ?_ ?_;rotate_left 1
    ·(simp only [List.getElem?_toArray,List.getElem?_cons_succ,List.getElem?_cons_zero];rfl)
    intro K hK
    go_simp
    refine hK.out _ _ (fun b hb=>(two_old hb).trans (two_old hb).symm) ?_
    clear hK K
    try simp only [Act.put,List.setIfInBounds_toArray,List.set_cons_zero,List.set_cons_succ]
    refine' wpQ_go ?_ ?_;rotate_left 1
    ·(simp only [List.getElem?_toArray,List.getElem?_cons_succ,List.getElem?_cons_zero];rfl)
    intro K hK
    go_simp
    refine hK.out _ _ (fun b hb=>(two_old hb).trans (two_old hb).symm) ?_
    clear hK K
    try simp only [Act.put,List.setIfInBounds_toArray,List.set_cons_zero,List.set_cons_succ]
    refine wpQ_end ?_
    have hx6:Ext wr (((wr.alloc (.cells #[.int .u8 (x.kind.toNat:Int), .int .i64 (x.at':Int), .string q, .bool x.root, .slice a4 m4 c4, .slice a5' m5 c5', .slice a6' m6 c6', .bool x.has, .int .u8 (x.hole.toNat:Int)] 61)).alloc (.cells #[.int .u8 (x.kind.toNat:Int), .int .i64 (x.at':Int), .string q, .bool x.root, .slice b4 n4 d4, .slice b5 n5' d5, .slice b6 n6' d6, .bool x.has, .int .u8 0] 61)).drew):=ext_drew ((Ext.push wr _).trans (Ext.push _ _))
    have hp:(((wr.alloc (.cells #[.int .u8 (x.kind.toNat:Int), .int .i64 (x.at':Int), .string q, .bool x.root, .slice a4 m4 c4, .slice a5' m5 c5', .slice a6' m6 c6', .bool x.has, .int .u8 (x.hole.toNat:Int)] 61)).alloc (.cells #[.int .u8 (x.kind.toNat:Int), .int .i64 (x.at':Int), .string q, .bool x.root, .slice b4 n4 d4, .slice b5 n5' d5, .slice b6 n6' d6, .bool x.has, .int .u8 0] 61)).drew).heap[wr.heap.size]?=some (.cells #[.int .u8 (x.kind.toNat:Int), .int .i64 (x.at':Int), .string q, .bool x.root, .slice a4 m4 c4, .slice a5' m5 c5', .slice a6' m6 c6', .bool x.has, .int .u8 (x.hole.toNat:Int)] 61):=(al_old' (by simp)).trans (World.alloc_heap_new wr _)
    have hq:(((wr.alloc (.cells #[.int .u8 (x.kind.toNat:Int), .int .i64 (x.at':Int), .string q, .bool x.root, .slice a4 m4 c4, .slice a5' m5 c5', .slice a6' m6 c6', .bool x.has, .int .u8 (x.hole.toNat:Int)] 61)).alloc (.cells #[.int .u8 (x.kind.toNat:Int), .int .i64 (x.at':Int), .string q, .bool x.root, .slice b4 n4 d4, .slice b5 n5' d5, .slice b6 n6' d6, .bool x.has, .int .u8 0] 61)).drew).heap[wr.heap.size+1]?=some (.cells #[.int .u8 (x.kind.toNat:Int), .int .i64 (x.at':Int), .string q, .bool x.root, .slice b4 n4 d4, .slice b5 n5' d5, .slice b6 n6' d6, .bool x.has, .int .u8 0] 61):=al_new' (by simp)
    generalize ((wr.alloc (.cells #[.int .u8 (x.kind.toNat:Int), .int .i64 (x.at':Int), .string q, .bool x.root, .slice a4 m4 c4, .slice a5' m5 c5', .slice a6' m6 c6', .bool x.has, .int .u8 (x.hole.toNat:Int)] 61)).alloc (.cells #[.int .u8 (x.kind.toNat:Int), .int .i64 (x.at':Int), .string q, .bool x.root, .slice b4 n4 d4, .slice b5 n5' d5, .slice b6 n6' d6, .bool x.has, .int .u8 0] 61)).drew=W6 at hx6 hp hq ⊢
    have hw:=way_calls2 (mx:=mx) (ext_cell hx6 hmr) hnx x.root (rn.mono fun b hb _=>⟨trivial,hx6.block b hb⟩) (rn'.mono fun b hb _=>⟨trivial,hx6.block b hb⟩)
    obtain ⟨p0,p1,p2,p3,p4,p5,p6,p7,p8⟩:=cell9 hp
    obtain ⟨s0,s1,s2,s3,s4,s5,s6,s7,s8⟩:=cell9 hq
    clear y0 y1 y2 y3 y4 y5 y6 y7 y8 z0 z1 z2 z3 z4 z5 z6 z7 z8 e0 e1 e2 e3
    gi_wp2_with (first
     | (refine ⟨trivial,?_⟩;gi_at_call 31;refine (callsIn_wide.2 hw).mono ?_;clear hw;rintro e w7 ⟨hx7,rfl⟩;have hxa:=hx6.trans hx7;have n5a:=num_calls (mx:=mx) (ext_cell hxa hmr) (isl_opt x.body) (.inl rfl) hbx.1 (rb5.mono fun b hb _=>⟨trivial,hxa.block b hb⟩) (rb5'.mono fun b hb _=>⟨trivial,hxa.block b hb⟩);have c5a:=ext_cell hx7 p5;have c5b:=ext_cell hx7 s5;have c6a:=ext_cell hx7 p6;have c6b:=ext_cell hx7 s6)
     | (refine ⟨trivial,?_⟩;gi_at_call 67;refine (callsIn_wide.2 n5a).mono ?_;clear n5a;rintro e w8 ⟨hx8,rfl⟩;have hxb:=hxa.trans hx8;have n6a:=num_calls (mx:=mx) (ext_cell hxb hmr) (isl_opt x.els) (.inl rfl) hbx.2 (re6.mono fun b hb _=>⟨trivial,hxb.block b hb⟩) (re6'.mono fun b hb _=>⟨trivial,hxb.block b hb⟩);have c6c:=ext_cell hx8 c6a;have c6d:=ext_cell hx8 c6b)
     | (refine ⟨trivial,?_⟩;gi_at_call 67;refine (callsIn_wide.2 n6a).mono ?_;clear n6a;rintro e w9 ⟨hx9,rfl⟩;have hxc:=hxb.trans hx9))
    exact ⟨⟨i+1,congrArg (Value.int .i64) (by omega),hlt,hxr.trans hxc⟩,by show _ - Int.toNat _ < _ - Int.toNat _;omega⟩
   ·refine' wpQ_go ?_ ?_;rotate_left 1
    ·(simp only [List.getElem?_toArray,List.getElem?_cons_succ,List.getElem?_cons_zero];rfl)
    intro K hK
    go_simp
    refine hK.out _ _ (fun b hb=>al_old' (by simpa using hb)) ?_
    clear hK K
    try simp only [Act.put,List.setIfInBounds_toArray,List.set_cons_zero,List.set_cons_succ]
    refine' wpQ_go ?_ ?_;rotate_left 1
    ·(simp only [List.getElem?_toArray,List.getElem?_cons_succ,List.getElem?_cons_zero];rfl)
    intro K hK
    go_simp
    refine hK.out _ _ (fun b hb=>al_old' (by simp;omega)) ?_
    clear hK K
    try simp only [Act.put,List.setIfInBounds_toArray,List.set_cons_zero,List.set_cons_succ]
    refine' wpQ_go ?_ ?_;rotate_left 1
    ·(simp only [List.getElem?_toArray,List.getElem?_cons_succ,List.getElem?_cons_zero];rfl)
    intro K hK
    go_simp
    refine hK.out _ _ (fun b hb=>(two_old hb).trans (two_old hb).symm) ?_
    clear hK K
    try simp only [Act.put,List.setIfInBounds_toArray,List.set_cons_zero,List.set_cons_succ]
    refine' wpQ_go ?_ ?_;rotate_left 1
    ·(simp only [List.getElem?_toArray,List.getElem?_cons_succ,List.getElem?_cons_zero];rfl)
    intro K hK
    go_simp
    refine hK.out _ _ (fun b hb=>(two_old hb).trans (two_old hb).symm) ?_
    clear hK K
    try simp only [Act.put,List.setIfInBounds_toArray,List.set_cons_zero,List.set_cons_succ]
    refine wpQ_end ?_
    have hx6:Ext wr (((wr.alloc (.cells #[.int .u8 (x.kind.toNat:Int), .int .i64 (x.at':Int), .string q, .bool x.root, .slice b4 n4 d4, .slice b5 n5' d5, .slice b6 n6' d6, .bool x.has, .int .u8 0] 61)).alloc (.cells #[.int .u8 (x.kind.toNat:Int), .int .i64 (x.at':Int), .string q, .bool x.root, .slice a4 m4 c4, .slice a5' m5 c5', .slice a6' m6 c6', .bool x.has, .int .u8 (x.hole.toNat:Int)] 61)).drew):=ext_drew ((Ext.push wr _).trans (Ext.push _ _))
    have hq:(((wr.alloc (.cells #[.int .u8 (x.kind.toNat:Int), .int .i64 (x.at':Int), .string q, .bool x.root, .slice b4 n4 d4, .slice b5 n5' d5, .slice b6 n6' d6, .bool x.has, .int .u8 0] 61)).alloc (.cells #[.int .u8 (x.kind.toNat:Int), .int .i64 (x.at':Int), .string q, .bool x.root, .slice a4 m4 c4, .slice a5' m5 c5', .slice a6' m6 c6', .bool x.has, .int .u8 (x.hole.toNat:Int)] 61)).drew).heap[wr.heap.size]?=some (.cells #[.int .u8 (x.kind.toNat:Int), .int .i64 (x.at':Int), .string q, .bool x.root, .slice b4 n4 d4, .slice b5 n5' d5, .slice b6 n6' d6, .bool x.has, .int .u8 0] 61):=(al_old' (by simp)).trans (World.alloc_heap_new wr _)
    have hp:(((wr.alloc (.cells #[.int .u8 (x.kind.toNat:Int), .int .i64 (x.at':Int), .string q, .bool x.root, .slice b4 n4 d4, .slice b5 n5' d5, .slice b6 n6' d6, .bool x.has, .int .u8 0] 61)).alloc (.cells #[.int .u8 (x.kind.toNat:Int), .int .i64 (x.at':Int), .string q, .bool x.root, .slice a4 m4 c4, .slice a5' m5 c5', .slice a6' m6 c6', .bool x.has, .int .u8 (x.hole.toNat:Int)] 61)).drew).heap[wr.heap.size+1]?=some (.cells #[.int .u8 (x.kind.toNat:Int), .int .i64 (x.at':Int), .string q, .bool x.root, .slice a4 m4 c4, .slice a5' m5 c5', .slice a6' m6 c6', .bool x.has, .int .u8 (x.hole.toNat:Int)] 61):=al_new' (by simp)
    generalize ((wr.alloc (.cells #[.int .u8 (x.kind.toNat:Int), .int .i64 (x.at':Int), .string q, .bool x.root, .slice b4 n4 d4, .slice b5 n5' d5, .slice b6 n6' d6, .bool x.has, .int .u8 0] 61)).alloc (.cells #[.int .u8 (x.kind.toNat:Int), .int .i64 (x.at':Int), .string q, .bool x.root, .slice a4 m4 c4, .slice a5' m5 c5', .slice a6' m6 c6', .bool x.has, .int .u8 (x.hole.toNat:Int)] 61)).drew=W6 at hx6 hp hq ⊢
    have hw:=way_calls2 (mx:=mx) (ext_cell hx6 hmr) hnx x.root (rn.mono fun b hb _=>⟨trivial,hx6.block b hb⟩) (rn'.mono fun b hb _=>⟨trivial,hx6.block b hb⟩)
    obtain ⟨p0,p1,p2,p3,p4,p5,p6,p7,p8⟩:=cell9 hp
    obtain ⟨s0,s1,s2,s3,s4,s5,s6,s7,s8⟩:=cell9 hq
    clear y0 y1 y2 y3 y4 y5 y6 y7 y8 z0 z1 z2 z3 z4 z5 z6 z7 z8 e0 e1 e2 e3
    gi_wp2_with (first
     | (refine ⟨trivial,?_⟩;gi_at_call 31;refine (callsIn_wide.2 hw).mono ?_;clear hw;rintro e w7 ⟨hx7,rfl⟩;have hxa:=hx6.trans hx7;have n5a:=num_calls (mx:=mx) (ext_cell hxa hmr) (isl_opt x.body) (.inl rfl) hbx.1 (rb5.mono fun b hb _=>⟨trivial,hxa.block b hb⟩) (rb5'.mono fun b hb _=>⟨trivial,hxa.block b hb⟩);have c5a:=ext_cell hx7 p5;have c5b:=ext_cell hx7 s5;have c6a:=ext_cell hx7 p6;have c6b:=ext_cell hx7 s6)
     | (refine ⟨trivial,?_⟩;gi_at_call 67;refine (callsIn_wide.2 n5a).mono ?_;clear n5a;rintro e w8 ⟨hx8,rfl⟩;have hxb:=hxa.trans hx8;have n6a:=num_calls (mx:=mx) (ext_cell hxb hmr) (isl_opt x.els) (.inl rfl) hbx.2 (re6.mono fun b hb _=>⟨trivial,hxb.block b hb⟩) (re6'.mono fun b hb _=>⟨trivial,hxb.block b hb⟩);have c6c:=ext_cell hx8 c6a;have c6d:=ext_cell hx8 c6b)
     | (refine ⟨trivial,?_⟩;gi_at_call 67;refine (callsIn_wide.2 n6a).mono ?_;clear n6a;rintro e w9 ⟨hx9,rfl⟩;have hxc:=hxb.trans hx9))
    exact ⟨⟨i+1,congrArg (Value.int .i64) (by omega),hlt,hxr.trans hxc⟩,by show _ - Int.toNat _ < _ - Int.toNat _;omega⟩
  ·obtain rfl:i=ns.length:=by omega
   gi_wp2
   exact bodyPost_ret (results39 _ _ (.bool true) rfl) rfl ⟨hxw,rfl⟩
def TreeOk (x y:AV):Prop:=∃ (ns:List Nd) (top:List Nat) (a b c d:AV),ns.length≤100000∧top.length≤100000∧(∀ x ∈ ns,NmOk2 x.names)∧(∀ x ∈ ns,(x.body.getD []).length≤100000∧(x.els.getD []).length≤100000) ∧
 IsN a (ns.map Nd.av)∧IsN b (ns.map fun x=>x.mn.av)∧IsL c top∧IsL d top∧x=.ag [a,c]∧y=.ag [b,d]
open Classical in
noncomputable def G39 (args:List AV):Option AV :=
 match args with
 | [x,y]=>if TreeOk x y then some (.b true) else none
 | _=>none
theorem g39 {x y:AV} (h:TreeOk x y):G39 [x,y]=some (.b true):=if_pos h
theorem rel_two {w:World} {F:Nat→Prop} {a c:AV} {v:Value} (h:Rel w F (.ag [a,c]) v):∃ x y,v=.agg #[x,y]∧Rel w F a x∧Rel w F c y:=by
 cases h with
 | ag _ vs hl hone hj =>
  match vs,hl,hj with
  | [x,y],_,hj=>exact ⟨x,y,rfl,hj 0 x rfl,hj 1 y rfl⟩
theorem gv39_ok {C:Cfg} {mx:Int} (hgl:C.glob 1=some (1, .int mx)) (ho:(C.own 39).all Option.isNone=true) (args:List AV) (r:AV) (h:G39 args=some r) (w:World) (F:Nat→Prop) (vs:Array Value) (hG:GlobOk C w F) (hl:vs.size=args.length)
  (hv:∀ (j:Nat) (a:AV) (v:Value),args[j]?=some a→vs[j]?=some v→Rel w F a v):CallRuns Tryd.prog 39 vs w (PostOk C 39 w F r):=by
 obtain ⟨hm,hF1⟩:=cellOf1 hgl hG
 unfold G39 at h
 split at h
 ·rename_i x y
  split at h
  ·rename_i ht
   cases h
   obtain ⟨ns,top,a,b,c,d,h1,h2,h3,h4,ha,hb,hc,hd,rfl,rfl⟩:=ht
   match vs,hl,hv with
   | ⟨[u,v]⟩,_,hv =>
    obtain ⟨u0,u1,rfl,ru0,ru1⟩:=rel_two (hv 0 _ u rfl rfl)
    obtain ⟨v0,v1,rfl,rv0,rv1⟩:=rel_two (hv 1 _ v rfl rfl)
    have tr:∀ {a:AV} {v:Value},Rel w F a v→Rel w (fun _=>True) a v:=fun h=>h.mono fun _ _ _=>⟨trivial,rfl⟩
    refine .inl ⟨Tryd.f39,(Tryd.f39.body).getD .skip,Tryd.func39,by kernel_rfl,by kernel_rfl,Calls.mono (callsIn_wide.1 (alike_in (mx:=mx) h1 h2 h3 h4 hm ha hb hc hd (tr ru0) (tr rv0) (tr ru1) (tr rv1))) fun e w' he=>?_⟩
    obtain ⟨hx,rfl⟩:=he
    refine ⟨_,rfl,hx,?_⟩
    unfold ResOk
    rw [if_pos ho]
    exact .b true
  ·cases h
 ·cases h
end R3

namespace R3G
open Go Sx
def tyTab:List (Nat×Ty):=[
 (3,{ size:=1,bytes:=8,kd:=.int .i64,elem:=0,zero:=[.int 0],fields:=[],eqk:=none }),
 (4,{ size:=1,bytes:=1,kd:=.bool,elem:=0,zero:=[.b false],fields:=[],eqk:=none }),
 (5,{ size:=1,bytes:=1,kd:=.int .u8,elem:=0,zero:=[.u8 0],fields:=[],eqk:=none }),
 (9,{ size:=1,bytes:=16,kd:=.str,elem:=0,zero:=[.s []],fields:=[],eqk:=none }),
 (24,{ size:=1,bytes:=8,kd:=.int .i64,elem:=0,zero:=[.int 0],fields:=[],eqk:=none }),
 (32,{ size:=1,bytes:=24,kd:=.slice,elem:=9,zero:=[.nils],fields:=[],eqk:=none }),
 (34,{ size:=2,bytes:=32,kd:=.struct,elem:=0,zero:=[.b false, .nils],fields:=[(0,4),(1,32)],eqk:=none }),
 (47,{ size:=1,bytes:=24,kd:=.slice,elem:=61,zero:=[.nils],fields:=[],eqk:=none }),
 (48,{ size:=1,bytes:=24,kd:=.slice,elem:=3,zero:=[.nils],fields:=[],eqk:=none }),
 (50,{ size:=2,bytes:=48,kd:=.struct,elem:=0,zero:=[.nils, .nils],fields:=[(0,47),(1,48)],eqk:=none }),
 (56,{ size:=1,bytes:=4,kd:=.int .u32,elem:=0,zero:=[.ik .u32 0],fields:=[],eqk:=none }),
 (58,{ size:=1,bytes:=1,kd:=.int .u8,elem:=0,zero:=[.u8 0],fields:=[],eqk:=none }),
 (59,{ size:=1,bytes:=1,kd:=.int .u8,elem:=0,zero:=[.u8 0],fields:=[],eqk:=none }),
 (61,{ size:=9,bytes:=120,kd:=.struct,elem:=0,zero:=[.u8 0, .int 0, .s [], .b false, .nils, .nils, .nils, .b false, .u8 0],fields:=[(0,58),(1,3),(2,9),(3,34),(5,48),(6,48),(7,4),(8,59)],eqk:=none })
]
def planTab:List ((Nat×Nat)×(Plan×List Nat)):=[((37,6),(.seq [(0,true),(1,true),(2,true),(3,true),(4,true),(5,true),(6,true),(7,true),(8,true),(9,true),(10,true),(11,true),(12,true)] .done,[]))]
def stopTab:List (Nat×List (Nat×List (Nat×Option (Nat×Nat))×List (Nat×List (Nat×Nat×Nat)))):=[(10,[(6,[(1,none),(5,none),(6,none),(7,none)],[]),(7,[(1,none),(5,none),(6,none),(7,none)],[]),(14,[(5,none),(6,none),(8,none),(9,none),(10,none),(11,none),(12,none)],[(8,[])])]),
 (37,[(4,[(2,none),(3,none),(5,none)],[(2,[]),(3,[])])])]
def ownTab:List (Nat×List (Option (Nat×Nat))):=[]
def sigTab:List (Nat×Sig):=[]
def truncTab:List (Nat×List Nat):=[]
noncomputable def C (mx:Int):Cfg:=mkCfg tyTab planTab stopTab ownTab truncTab (fun g=>bif Nat.beq g 1 then some (1, .int mx) else none) sigTab (fun g=>bif Nat.beq g 35 then some R3.G35 else bif Nat.beq g 36 then some R3.G36 else bif Nat.beq g 39 then some R3.G39 else none)
end R3G

open Go Go.Proofs Sx
namespace R3G
theorem tys:tyTab.all (fun p=>tyB Tryd.prog p.1 p.2)=true:=by kernel_rfl
theorem fns (mx:Int):fnsB (C mx) 0 Tryd.prog.funcs.toList=true:=by kernel_rfl
theorem gvs (mx:Int):∀ (g:Nat) (G:List AV→Option AV),(C mx).gv g=some G→((C mx).own g).all Option.isNone=true→∀ (args:List AV) (r:AV),G args=some r→∀ (w:World) (F:Nat→Prop) (vs:Array Value),GlobOk (C mx) w F→vs.size=args.length →
   (∀ (j:Nat) (a:AV) (v:Value),args[j]?=some a→vs[j]?=some v→Rel w F a v)→CallRuns Tryd.prog g vs w (PostOk (C mx) g w F r):=by
 intro g G h ho args r hr w F vs hG hl hv
 have h:(bif Nat.beq g 35 then some R3.G35 else bif Nat.beq g 36 then some R3.G36 else bif Nat.beq g 39 then some R3.G39 else none)=some G:=h
 cases h1:Nat.beq g 35 with
 | true =>
  rw [h1] at h;cases h
  obtain rfl:=Nat.eq_of_beq_eq_true h1
  exact R3.gv35_ok (mx:=mx) rfl ho args r hr w F vs hG hl hv
 | false =>
  rw [h1] at h
  cases h2:Nat.beq g 36 with
  | true =>
   rw [h2] at h;cases h
   obtain rfl:=Nat.eq_of_beq_eq_true h2
   exact R3.gv36_ok (mx:=mx) rfl ho args r hr w F vs hG hl hv
  | false =>
   rw [h2] at h
   cases h3:Nat.beq g 39 with
   | true =>
    rw [h3] at h;cases h
    obtain rfl:=Nat.eq_of_beq_eq_true h3
    exact R3.gv39_ok (mx:=mx) rfl ho args r hr w F vs hG hl hv
   | false=>rw [h3] at h;cases h
theorem fit (mx:Int):Fit (C mx) Tryd.prog:=Fit.of (tab:=tyTab) rfl tys (fns mx) R3.mixed (ext_of R3.idxs R3.run145) (gvs mx)
theorem maxLen {W:World} (h:W.ShapedOpen Tryd.prog):∃ m,W.cell? ⟨1,0,none⟩=some (.int .i64 m):=R3.maxLen h
theorem globOk {W:World} {m:Int} (h:W.cell? ⟨1,0,none⟩=some (.int .i64 m)):GlobOk (C m) W (fun _=>True):=by
 intro g k e hg
 have hg:(bif Nat.beq g 1 then some (1,AV.int m) else none)=some (k,e):=hg
 cases h1:Nat.beq g 1 with
 | false=>rw [h1] at hg;cases hg
 | true =>
  rw [h1] at hg;cases hg
  obtain rfl:=Nat.eq_of_beq_eq_true h1
  refine ⟨1,0,rfl,trivial,cell_lt h,fun j hj=>?_⟩
  obtain rfl:j=0:=by omega
  exact ⟨.int .i64 m,h,rfl,Rel.int m⟩
def flatV:=R3.flatV
end R3G

namespace R3G
open Go Go.Proofs Sx
variable {mx:Int}
noncomputable def body37:Code:=(Tryd.f37.body).getD .skip
section
variable (run:RunT) (a0:Int) (a1 a2 a3 a4:AV)
noncomputable def K37_4:List Item:=(kAt 4 body37 []).getD []
def S37_4:St:=St.ofL [(2, .cell (.ptr 2 0)),(3, .cell (.ptr 3 0)),(5, .cell (.val (.int a0)))] [(2,some [.val a1, .val (a2)]),(3,some [.val a3, .val (a4)])]
noncomputable def F37_4:Option AV:=run K37_4 (S37_4 a0 a1 a2 a3 a4)
end
noncomputable def X37 (call:CallT) (run:RunT) (a0 a1 a2 a3:AV):Option AV :=
 (call 39 [.ag [a0,a1], .ag [a2,a3]]).bind fun v1=>(unop .not v1).bind fun v2=>condM v2
 (some (.b false))
 (F37_4 run 0 a0 a1 a2 a3)
section
variable (call:CallT) (run:RunT) (a0 a1 a2 a3:AV)
theorem text37:unr (C mx) call run 37 Tryd.f37 400 [.code body37] (initF (C mx) 37 Tryd.f37.ntmps [.ag [a0,a1], .ag [a2,a3]])=X37 call run a0 a1 a2 a3:=by
 kernel_rfl
theorem c37 {r:AV} (h:X37 (semCall (C mx) Tryd.prog) (semRun (C mx) Tryd.prog 37 Tryd.f37) a0 a1 a2 a3=some r):semCall (C mx) Tryd.prog 37 [.ag [a0,a1], .ag [a2,a3]]=some r :=
 semCall_unr (fn:=Tryd.f37) (c:=body37) (by kernel_rfl) (by kernel_rfl) 400 (by kernel_rfl) ((text37 _ _ a0 a1 a2 a3).trans h)
end
noncomputable def X37_4 (call:CallT) (run:RunT) (a0:Int) (a1 a2 a3 a4:AV):Option AV :=
 (lenR a1).bind fun v1=>(binI .lss (.int a0) v1).bind fun v2=>condM v2
 ((idx 9 a1 (.int a0)).bind fun v3=>(idx 9 a3 (.int a0)).bind fun v4=>(binI .neq (AV.cell v3 8) (AV.cell v4 8)).bind fun v5=>condM v5
 (some (.b false))
 (F37_4 run (w64 (a0+1)) a1 a2 a3 a4))
 (some (.b true))
section
variable (call:CallT) (run:RunT) (a0:Int) (a1 a2 a3 a4:AV)
theorem text37_4:step (C mx) call 37 Tryd.f37 (unr (C mx) call run 37 Tryd.f37 400) K37_4 (S37_4 a0 a1 a2 a3 a4)=X37_4 call run a0 a1 a2 a3 a4:=by
 kernel_rfl
end
section
variable (a0:Int) (a1 a2 a3 a4:AV)
theorem r37_4 {r:AV} (h:X37_4 (semCall (C mx) Tryd.prog) (semRun (C mx) Tryd.prog 37 Tryd.f37) a0 a1 a2 a3 a4=some r):F37_4 (semRun (C mx) Tryd.prog 37 Tryd.f37) a0 a1 a2 a3 a4=some r :=
 semRun_unr 400 ((text37_4 _ _ a0 a1 a2 a3 a4).trans h)
end
end R3G

namespace R3G
open Go Go.Proofs Sx
variable {mx:Int}
noncomputable def body34:Code:=(Tryd.f34.body).getD .skip
noncomputable def X34 (call:CallT) (run:RunT)  : Option AV :=
 (call 35 [.s [123,123,120,125,125]]).bind fun v1=>(tupI v1 0).bind fun v2=>(tupI v1 1).bind fun v3=>(tupI v1 2).bind fun v4=>(AV.asAg 2 v2).bind fun v5=>(binI .eql v4 (.int 0)).bind fun v6=>(selW v6 true ((lenR (v5.getD 0 .un)).bind fun v7=>(binI .eql v7 (.int 1)).bind fun v8=>some v8) (.b false)).bind fun v9=>(selW v9 true ((idx 9 (v5.getD 0 .un) (.int 0)).bind fun v10=>(binI .eql (AV.cell v10 0) (.u8 1)).bind fun v11=>some v11) (.b false)).bind fun v12=>(selW v12 true ((lenR (v5.getD 1 .un)).bind fun v13=>(binI .eql v13 (.int 1)).bind fun v14=>some v14) (.b false)).bind fun v15=>some v15
section
variable (call:CallT) (run:RunT)
theorem text34:unr (C mx) call run 34 Tryd.f34 400 [.code body34] (initF (C mx) 34 Tryd.f34.ntmps [])=X34 call run  := by
 kernel_rfl
theorem c34 {r:AV} (h:X34 (semCall (C mx) Tryd.prog) (semRun (C mx) Tryd.prog 34 Tryd.f34)  = some r):semCall (C mx) Tryd.prog 34 []=some r :=
 semCall_unr (fn:=Tryd.f34) (c:=body34) (by kernel_rfl) (by kernel_rfl) 400 (by kernel_rfl) ((text34 _ _ ).trans h)
end
end R3G

namespace R3G
open Go Go.Proofs Sx
variable {mx:Int}
noncomputable def X9 (call:CallT) (run:RunT) (a0:List UInt8):Option AV :=
 (call 34 []).bind fun v1=>(unop .not v1).bind fun v2=>(selW v2 true (some (.b true)) (.b false)).bind fun v3=>(selW v3 true (some (.b true)) (.b false)).bind fun v4=>condM v4
 (some (.b false))
 ((call 35 [.s a0]).bind fun v5=>(tupI v5 0).bind fun v6=>(tupI v5 1).bind fun v7=>(tupI v5 2).bind fun v8=>(AV.asAg 2 v6).bind fun v9=>(call 36 [.s a0]).bind fun v10=>(tupI v10 0).bind fun v11=>(tupI v10 1).bind fun v12=>(tupI v10 2).bind fun v13=>(AV.asAg 2 v11).bind fun v14=>(binI .eql v8 v13).bind fun v15=>(selW v15 true ((binI .eql v7 v12).bind fun v16=>some v16) (.b false)).bind fun v17=>(selW v17 true ((call 37 [.ag [v9.getD 0 .un,v9.getD 1 .un], .ag [v14.getD 0 .un,v14.getD 1 .un]]).bind fun v18=>some v18) (.b false)).bind fun v19=>some v19)
section
variable (call:CallT) (run:RunT) (a0:List UInt8)
end
end R3G

namespace R3G
open Go Go.Proofs Sx
variable {mx:Int}
noncomputable def body10:Code:=(Tryd.f10.body).getD .skip
section
variable (run:RunT) (a0 a1:Int) (a2:AV) (a3:Int)
noncomputable def K10_6:List Item:=(kAt 6 body10 []).getD []
def S10_6:St:=St.ofL [(1, .cell (.val (.ik .u32 a0))),(5, .cell (.val (.int a1))),(6, .cell (.val a2)),(7, .cell (.val (.int a3)))] []
noncomputable def F10_6:Option AV:=run K10_6 (S10_6 a0 a1 a2 a3)
end
section
variable (run:RunT) (a0 a1:Int) (a2:AV) (a3:Int)
noncomputable def K10_7:List Item:=(kAt 7 body10 []).getD []
def S10_7:St:=St.ofL [(1, .cell (.val (.ik .u32 a0))),(5, .cell (.val (.int a1))),(6, .cell (.val a2)),(7, .cell (.val (.int a3)))] []
noncomputable def F10_7:Option AV:=run K10_7 (S10_7 a0 a1 a2 a3)
end
section
variable (run:RunT) (a0:Int) (a1 a2 a3 a4:AV) (a5:Int) (a6 a7:AV)
noncomputable def K10_14:List Item:=(kAt 14 body10 []).getD []
def S10_14:St:=St.ofL [(5, .cell (.val (.int a0))),(6, .cell (.val a1)),(8, .cell (.ptr 8 0)),(9, .cell (.val a2)),(10, .cell (.val a3)),(11, .cell (.val a4)),(12, .cell (.val (.int a5)))] [(8,some [.val a6, .val (a7)])]
noncomputable def F10_14:Option AV:=run K10_14 (S10_14 a0 a1 a2 a3 a4 a5 a6 a7)
end
noncomputable def X10 (call:CallT) (run:RunT) (a0:UInt8) (a1:Int):Option AV :=
 (call 34 []).bind fun v1=>(unop .not v1).bind fun v2=>condM v2
 (some (.b false))
 (F10_6 run a1 (Int.tmod (w64 (a0.toNat:Int)) 20) (.s []) 0)
section
variable (call:CallT) (run:RunT) (a0:UInt8) (a1:Int)
theorem text10:unr (C mx) call run 10 Tryd.f10 400 [.code body10] (initF (C mx) 10 Tryd.f10.ntmps [.u8 a0, .ik .u32 a1])=X10 call run a0 a1:=by
 kernel_rfl
theorem c10 {r:AV} (h:X10 (semCall (C mx) Tryd.prog) (semRun (C mx) Tryd.prog 10 Tryd.f10) a0 a1=some r):semCall (C mx) Tryd.prog 10 [.u8 a0, .ik .u32 a1]=some r :=
 semCall_unr (fn:=Tryd.f10) (c:=body10) (by kernel_rfl) (by kernel_rfl) 400 (by kernel_rfl) ((text10 _ _ a0 a1).trans h)
end
noncomputable def X10_6 (call:CallT) (run:RunT) (a0 a1:Int) (a2:AV) (a3:Int):Option AV :=
 condM (.b (decide (a3 < a1)))
 ((binI .shr (.ik .u32 a0) (.int a3)).bind fun v1=>(binI .and v1 (.ik .u32 1)).bind fun v2=>(binI .eql v2 (.ik .u32 0)).bind fun v3=>condM v3
 ((binS .add a2 (.s [123,123,105,102,32,97,125,125])).bind fun v4=>F10_7 run a0 a1 v4 a3)
 ((binS .add a2 (.s [123,123,114,97,110,103,101,32,97,125,125])).bind fun v5=>F10_7 run a0 a1 v5 a3))
 ((binS .add a2 (.s [120])).bind fun v6=>(call 35 [v6]).bind fun v7=>(tupI v7 0).bind fun v8=>(tupI v7 1).bind fun v9=>(tupI v7 2).bind fun v10=>(AV.asAg 2 v8).bind fun v11=>(binS .add a2 (.s [120])).bind fun v12=>F10_14 run a1 a2 v9 v10 v12 0 (v11.getD 0 .un) (v11.getD 1 .un))
section
variable (call:CallT) (run:RunT) (a0 a1:Int) (a2:AV) (a3:Int)
theorem text10_6:step (C mx) call 10 Tryd.f10 (unr (C mx) call run 10 Tryd.f10 400) K10_6 (S10_6 a0 a1 a2 a3)=X10_6 call run a0 a1 a2 a3:=by
 kernel_rfl
end
noncomputable def X10_7 (call:CallT) (run:RunT) (a0 a1:Int) (a2:AV) (a3:Int):Option AV :=
 F10_6 run a0 a1 a2 (w64 (a3+1))
section
variable (call:CallT) (run:RunT) (a0 a1:Int) (a2:AV) (a3:Int)
theorem text10_7:step (C mx) call 10 Tryd.f10 (unr (C mx) call run 10 Tryd.f10 400) K10_7 (S10_7 a0 a1 a2 a3)=X10_7 call run a0 a1 a2 a3:=by
 kernel_rfl
end
noncomputable def X10_14 (call:CallT) (run:RunT) (a0:Int) (a1 a2 a3 a4:AV) (a5:Int) (a6 a7:AV):Option AV :=
 condM (.b (decide (a5 < a0)))
 ((binS .add a4 (.s [123,123,101,110,100,125,125])).bind fun v1=>F10_14 run a0 a1 a2 a3 v1 (w64 (a5+1)) a6 a7)
 ((call 35 [a4]).bind fun v2=>(tupI v2 0).bind fun v3=>(tupI v2 1).bind fun v4=>(tupI v2 2).bind fun v5=>(AV.asAg 2 v3).bind fun v6=>(call 36 [a4]).bind fun v7=>(tupI v7 0).bind fun v8=>(tupI v7 1).bind fun v9=>(tupI v7 2).bind fun v10=>(AV.asAg 2 v8).bind fun v11=>(binS .add a1 (.s [120])).bind fun v12=>(call 36 [v12]).bind fun v13=>(tupI v13 0).bind fun v14=>(tupI v13 1).bind fun v15=>(tupI v13 2).bind fun v16=>(AV.asAg 2 v14).bind fun v17=>(binI .eql a3 v16).bind fun v18=>(selW v18 true ((binI .eql a2 v15).bind fun v19=>some v19) (.b false)).bind fun v20=>(selW v20 true ((binI .eql a3 (.int 0)).bind fun v21=>(binB .eql (.b (a0 == 0)) v21).bind fun v22=>some v22) (.b false)).bind fun v23=>(selW v23 true ((lenR a6).bind fun v24=>(binI .eql v24 (.int 1)).bind fun v25=>(binB .eql (.b (a0 == 0)) v25).bind fun v26=>some v26) (.b false)).bind fun v27=>(selW v27 true ((binI .eql v5 v10).bind fun v28=>some v28) (.b false)).bind fun v29=>(selW v29 true ((binI .eql v4 v9).bind fun v30=>some v30) (.b false)).bind fun v31=>(selW v31 true ((call 37 [.ag [v6.getD 0 .un,v6.getD 1 .un], .ag [v11.getD 0 .un,v11.getD 1 .un]]).bind fun v32=>some v32) (.b false)).bind fun v33=>(selW v33 true ((binI .eql v5 (.int 3)).bind fun v34=>(binB .eql v34 (.b (decide (a0 > 16)))).bind fun v35=>some v35) (.b false)).bind fun v36=>some v36)
section
variable (call:CallT) (run:RunT) (a0:Int) (a1 a2 a3 a4:AV) (a5:Int) (a6 a7:AV)
theorem text10_14:step (C mx) call 10 Tryd.f10 (unr (C mx) call run 10 Tryd.f10 400) K10_14 (S10_14 a0 a1 a2 a3 a4 a5 a6 a7)=X10_14 call run a0 a1 a2 a3 a4 a5 a6 a7:=by
 kernel_rfl
end
section
variable (a0 a1:Int) (a2:AV) (a3:Int)
theorem r10_6 {r:AV} (h:X10_6 (semCall (C mx) Tryd.prog) (semRun (C mx) Tryd.prog 10 Tryd.f10) a0 a1 a2 a3=some r):F10_6 (semRun (C mx) Tryd.prog 10 Tryd.f10) a0 a1 a2 a3=some r :=
 semRun_unr 400 ((text10_6 _ _ a0 a1 a2 a3).trans h)
end
section
variable (a0 a1:Int) (a2:AV) (a3:Int)
theorem r10_7 {r:AV} (h:X10_7 (semCall (C mx) Tryd.prog) (semRun (C mx) Tryd.prog 10 Tryd.f10) a0 a1 a2 a3=some r):F10_7 (semRun (C mx) Tryd.prog 10 Tryd.f10) a0 a1 a2 a3=some r :=
 semRun_unr 400 ((text10_7 _ _ a0 a1 a2 a3).trans h)
end
section
variable (a0:Int) (a1 a2 a3 a4:AV) (a5:Int) (a6 a7:AV)
theorem r10_14 {r:AV} (h:X10_14 (semCall (C mx) Tryd.prog) (semRun (C mx) Tryd.prog 10 Tryd.f10) a0 a1 a2 a3 a4 a5 a6 a7=some r):F10_14 (semRun (C mx) Tryd.prog 10 Tryd.f10) a0 a1 a2 a3 a4 a5 a6 a7=some r :=
 semRun_unr 400 ((text10_14 _ _ a0 a1 a2 a3 a4 a5 a6 a7).trans h)
end
end R3G

namespace R3Q
open Go Sx
def tyTab:List (Nat×Ty):=[
 (3,{ size:=1,bytes:=8,kd:=.int .i64,elem:=0,zero:=[.int 0],fields:=[],eqk:=none }),
 (4,{ size:=1,bytes:=1,kd:=.bool,elem:=0,zero:=[.b false],fields:=[],eqk:=none }),
 (9,{ size:=1,bytes:=16,kd:=.str,elem:=0,zero:=[.s []],fields:=[],eqk:=none }),
 (23,{ size:=1,bytes:=24,kd:=.slice,elem:=36,zero:=[.nils],fields:=[],eqk:=none }),
 (24,{ size:=1,bytes:=8,kd:=.int .i64,elem:=0,zero:=[.int 0],fields:=[],eqk:=none }),
 (31,{ size:=1,bytes:=1,kd:=.int .u8,elem:=0,zero:=[.u8 0],fields:=[],eqk:=none }),
 (32,{ size:=1,bytes:=24,kd:=.slice,elem:=9,zero:=[.nils],fields:=[],eqk:=none }),
 (34,{ size:=2,bytes:=32,kd:=.struct,elem:=0,zero:=[.b false, .nils],fields:=[(0,4),(1,32)],eqk:=none }),
 (36,{ size:=5,bytes:=64,kd:=.struct,elem:=0,zero:=[.u8 0, .int 0, .s [], .b false, .nils],fields:=[(0,31),(1,3),(2,9),(3,34)],eqk:=none }),
 (47,{ size:=1,bytes:=24,kd:=.slice,elem:=61,zero:=[.nils],fields:=[],eqk:=none }),
 (48,{ size:=1,bytes:=24,kd:=.slice,elem:=3,zero:=[.nils],fields:=[],eqk:=none }),
 (50,{ size:=2,bytes:=48,kd:=.struct,elem:=0,zero:=[.nils, .nils],fields:=[(0,47),(1,48)],eqk:=none }),
 (58,{ size:=1,bytes:=1,kd:=.int .u8,elem:=0,zero:=[.u8 0],fields:=[],eqk:=none }),
 (59,{ size:=1,bytes:=1,kd:=.int .u8,elem:=0,zero:=[.u8 0],fields:=[],eqk:=none }),
 (61,{ size:=9,bytes:=120,kd:=.struct,elem:=0,zero:=[.u8 0, .int 0, .s [], .b false, .nils, .nils, .nils, .b false, .u8 0],fields:=[(0,58),(1,3),(2,9),(3,34),(5,48),(6,48),(7,4),(8,59)],eqk:=none }),
 (62,{ size:=1,bytes:=24,kd:=.slice,elem:=48,zero:=[.nils],fields:=[],eqk:=none })
]
def planTab:List ((Nat×Nat)×(Plan×List Nat)):=[((11,12),(.seq [(0,true),(1,true),(2,true),(3,true),(4,true),(5,true),(6,true),(7,true),(8,true),(9,true),(10,true),(11,true),(12,true),(13,true),(14,true),(15,true),(16,true),(17,true),(18,true),(19,true),(20,true),(21,true),(22,true),(23,true),(24,true),(25,true),(26,true),(27,true),(28,true),(29,true),(30,true),(31,true),(32,true)] .done,[])),
 ((11,20),(.seq [(0,true),(1,true),(2,true),(3,true),(4,true),(5,true),(6,true),(7,true),(8,true),(9,true),(10,true),(11,true),(12,true),(13,false),(14,false),(15,true)] .done,[]))]
def stopTab:List (Nat×List (Nat×List (Nat×Option (Nat×Nat))×List (Nat×List (Nat×Nat×Nat)))):=[(11,[(9,[(3,none),(6,none),(8,none),(9,none),(10,none)],[(3,[])]),(10,[(3,none),(6,none),(8,none),(9,none),(10,none)],[(3,[])]),(18,[(3,none),(8,none),(9,none),(11,none),(12,some (48,1)),(13,none)],[(3,[])]),(22,[(3,none),(8,none),(9,none),(11,none),(12,some (48,1)),(14,none)],[(3,[])]),(25,[(3,none),(8,none),(9,none),(11,none),(12,some (48,1)),(14,none),(15,none)],[(3,[])]),(32,[(3,none),(8,none),(9,none),(11,none),(17,none)],[(3,[])])])]
def ownTab:List (Nat×List (Option (Nat×Nat))):=[]
def sigTab:List (Nat×Sig):=[]
def truncTab:List (Nat×List Nat):=[]
def C (mx:Int):Cfg:=mkCfg tyTab planTab stopTab ownTab truncTab (fun g=>bif Nat.beq g 1 then some (1, .int mx) else none) sigTab (fun g=>bif Nat.beq g 23 then some R3.G23 else bif Nat.beq g 35 then some R3.G35 else none)
end R3Q

namespace R3Q
open Go Go.Proofs Sx
variable {mx:Int}
section
variable (run:RunT) (a0 a1:AV) (a2 a3:Int) (a4 a5:AV)
end
section
variable (run:RunT) (a0 a1:AV) (a2 a3:Int) (a4 a5:AV)
end
section
variable (run:RunT) (a0:AV) (a1:Int) (a2 a3:List AV) (a4:Int) (a5 a6:AV)
end
section
variable (run:RunT) (a0:AV) (a1:Int) (a2 a3:List AV) (a4:Int) (a5 a6:AV)
end
section
variable (run:RunT) (a0:AV) (a1:Int) (a2 a3:List AV) (a4 a5:Int) (a6 a7:AV)
end
section
variable (run:RunT) (a0:AV) (a1:Int) (a2:List AV) (a3:Int) (a4 a5:AV)
end
section
variable (call:CallT) (run:RunT) (a0:List UInt8)
end
section
variable (call:CallT) (run:RunT) (a0 a1:AV) (a2 a3:Int) (a4 a5:AV)
end
section
variable (call:CallT) (run:RunT) (a0 a1:AV) (a2 a3:Int) (a4 a5:AV)
end
section
variable (call:CallT) (run:RunT) (a0:AV) (a1:Int) (a2 a3:List AV) (a4:Int) (a5 a6:AV)
end
section
variable (call:CallT) (run:RunT) (a0:AV) (a1:Int) (a2 a3:List AV) (a4:Int) (a5 a6:AV)
end
section
variable (call:CallT) (run:RunT) (a0:AV) (a1:Int) (a2 a3:List AV) (a4 a5:Int) (a6 a7:AV)
end
section
variable (call:CallT) (run:RunT) (a0:AV) (a1:Int) (a2:List AV) (a3:Int) (a4 a5:AV)
end
section
variable (a0 a1:AV) (a2 a3:Int) (a4 a5:AV)
end
section
variable (a0 a1:AV) (a2 a3:Int) (a4 a5:AV)
end
section
variable (a0:AV) (a1:Int) (a2 a3:List AV) (a4:Int) (a5 a6:AV)
end
section
variable (a0:AV) (a1:Int) (a2 a3:List AV) (a4:Int) (a5 a6:AV)
end
section
variable (a0:AV) (a1:Int) (a2 a3:List AV) (a4 a5:Int) (a6 a7:AV)
end
section
variable (a0:AV) (a1:Int) (a2:List AV) (a3:Int) (a4 a5:AV)
end
end R3Q

namespace R3Q
open Go Go.Proofs Sx
variable {mx:Int}
noncomputable def body34:Code:=(Tryd.f34.body).getD .skip
noncomputable def X34 (call:CallT) (run:RunT)  : Option AV :=
 (call 35 [.s [123,123,120,125,125]]).bind fun v1=>(tupI v1 0).bind fun v2=>(tupI v1 1).bind fun v3=>(tupI v1 2).bind fun v4=>(AV.asAg 2 v2).bind fun v5=>(binI .eql v4 (.int 0)).bind fun v6=>(selW v6 true ((lenR (v5.getD 0 .un)).bind fun v7=>(binI .eql v7 (.int 1)).bind fun v8=>some v8) (.b false)).bind fun v9=>(selW v9 true ((idx 9 (v5.getD 0 .un) (.int 0)).bind fun v10=>(binI .eql (AV.cell v10 0) (.u8 1)).bind fun v11=>some v11) (.b false)).bind fun v12=>(selW v12 true ((lenR (v5.getD 1 .un)).bind fun v13=>(binI .eql v13 (.int 1)).bind fun v14=>some v14) (.b false)).bind fun v15=>some v15
section
variable (call:CallT) (run:RunT)
theorem text34:unr (C mx) call run 34 Tryd.f34 400 [.code body34] (initF (C mx) 34 Tryd.f34.ntmps [])=X34 call run  := by
 kernel_rfl
theorem c34 {r:AV} (h:X34 (semCall (C mx) Tryd.prog) (semRun (C mx) Tryd.prog 34 Tryd.f34)  = some r):semCall (C mx) Tryd.prog 34 []=some r :=
 semCall_unr (fn:=Tryd.f34) (c:=body34) (by kernel_rfl) (by kernel_rfl) 400 (by kernel_rfl) ((text34 _ _ ).trans h)
end
end R3Q

namespace R3Q
open Go Go.Proofs Sx R3
variable {mx:Int}
theorem int_lss (x y:Int):binI .lss (.int x) (.int y)=some (.b (decide (x < y))):=rfl
theorem int_leq (x y:Int):binI .leq (.int x) (.int y)=some (.b (decide (x≤y))):=rfl
theorem int_geq (x y:Int):binI .geq (.int x) (.int y)=some (.b (decide (x ≥ y))):=rfl
theorem int_neq (x y:Int):binI .neq (.int x) (.int y)=some (.b (x != y)):=rfl
theorem int_eql (x y:Int):binI .eql (.int x) (.int y)=some (.b (x == y)):=rfl
end R3Q

namespace R3Q
open Go Go.Proofs Sx R3
variable {mx:Int}
def flat (L:List (Option (List Nat))):List Nat:=L.flatMap (·.getD [])
end R3Q

namespace R3Q
open Go Go.Proofs Sx R3
variable {mx:Int}
theorem treeOf_bad {ws:List Wd} {a e:Nat} (h:treeOf ws=.bad a e):e=3∨e=4:=by
 obtain ⟨r,q,e1,_⟩:=(parse_tot ws (3 * ws.length+1)).1 0 ⟨0,[]⟩ [] (Nat.zero_le _) (by simp)
 unfold treeOf at h
 rw [e1] at h
 cases r with
 | bad a' e'=>simp only [treeR] at h;cases h;exact (parse_er ws _).1 _ _ _ _ _ _ e1
 | ok top =>
  simp only [treeR] at h
  split at h
  ·cases h;exact .inr rfl
  ·cases h
theorem parseT_bad {l:List UInt8} {a e:Nat} (h:parseT l=.bad a e):e≠0:=by
 unfold parseT at h
 split at h
 ·cases h;decide
 ·split at h
  ·cases h;decide
  ·rcases treeOf_bad h with rfl | rfl <;> decide
theorem s35 (l:List UInt8):semCall (C mx) Tryd.prog 35 [.s l]=some (trAV (parseT l)):=semCall_gv (G:=G35) rfl rfl rfl
theorem s23 (l:List UInt8):semCall (C mx) Tryd.prog 23 [.s l]=some (allAV l):=semCall_gv (G:=G23) rfl rfl rfl
theorem awakeT:trAV (parseT [123,123,120,125,125])=.tu [.ag [.ro 9 [.ag [.u8 1, .int 0, .s [], .b false, .ro 1 [.s [120]], .nils, .nils, .b false, .u8 0]], .ro 1 [.int 0]], .int 0, .int 0]:=by
 kernel_rfl
theorem tri0 (a b c:AV):tupI (.tu [a,b,c]) 0=some a:=rfl
theorem tri1 (a b c:AV):tupI (.tu [a,b,c]) 1=some b:=rfl
theorem tri2 (a b c:AV):tupI (.tu [a,b,c]) 2=some c:=rfl
theorem asAg2 (a b:AV):AV.asAg 2 (.ag [a,b])=some [a,b]:=rfl
theorem s34:semCall (C mx) Tryd.prog 34 []=some (.b true):=by
 apply c34
 simp only [X34,s35,awakeT,Option.bind_some,tri0,tri1,tri2,asAg2,int_eql]
 rfl
end R3Q

namespace R3
open Go Go.Proofs Sx
theorem occ2 (s:List UInt8) (x y:UInt8) (i:Nat):Lib.occAt s [x,y] i=true↔s[i]?=some x∧s[i+1]?=some y:=by
 unfold Lib.occAt
 have e:∀ l:List UInt8,List.isPrefixOf [x,y] l=true↔l[0]?=some x∧l[1]?=some y:=by
  intro l
  match l with
  | []=>simp [List.isPrefixOf]
  | [a]=>simp [List.isPrefixOf]
  | a :: b :: r =>
   simp only [List.isPrefixOf,Bool.and_true,Bool.and_eq_true,beq_iff_eq,List.getElem?_cons_zero,List.getElem?_cons_succ,Option.some.injEq]
   constructor <;> rintro ⟨h1,h2⟩ <;> exact ⟨h1.symm,h2.symm⟩
 rw [e]
 simp [List.getElem?_drop]
theorem index_app {s t:List UInt8} {x y:UInt8} {j:Nat} (h:Lib.index s [x,y]=(j:Int)):Lib.index (s ++ t) [x,y]=(j:Int):=by
 rcases Lib.index_spec s [x,y] with ⟨h1,_⟩ | ⟨i,h1,h2,h3,h4⟩
 ·omega
 ·obtain rfl:i=j:=by omega
  obtain ⟨g1,g2⟩:=(occ2 s x y i).1 h3
  have l1:i+1 < s.length:=(List.getElem?_eq_some_iff.1 g2).1
  refine Lib.index_first (by rw [List.length_append];omega) ((occ2 _ _ _ _).2 ⟨by rw [List.getElem?_append_left (by omega)];exact g1,by rw [List.getElem?_append_left l1];exact g2⟩) fun k hk=>?_
  cases hc:Lib.occAt (s ++ t) [x,y] k with
  | false=>rfl
  | true =>
   obtain ⟨k1,k2⟩:=(occ2 _ _ _ _).1 hc
   rw [List.getElem?_append_left (by omega)] at k1 k2
   have:=h4 k hk
   rw [(occ2 _ _ _ _).2 ⟨k1,k2⟩] at this
   cases this
def Meet (s t:List UInt8):Prop:=¬ (s.getLast?=some 123∧t[0]?=some 123)
theorem idxO_app {s t:List UInt8} (h:idxO s=s.length) (hm:Meet s t):idxO (s ++ t)=s.length+idxO t:=by
 have hno:∀ j,Lib.occAt s brO j=false:=by
  intro j
  rcases Lib.index_spec s brO with ⟨h1,h2⟩ | ⟨i,h1,h2,h3,h4⟩
  ·by_cases hj:j≤s.length
   ·exact h2 j hj
   ·cases hc:Lib.occAt s brO j with
    | false=>rfl
    | true =>
     have:=((occ2 s 123 123 j).1 hc).1
     have:=(List.getElem?_eq_some_iff.1 this).1
     omega
  ·unfold idxO at h
   rw [if_neg (by omega),h1] at h
   have:=((occ2 s 123 123 i).1 h3).1
   have:=(List.getElem?_eq_some_iff.1 this).1
   omega
 have hearly:∀ j,Lib.occAt (s ++ t) brO j=true→s.length≤j∧Lib.occAt t brO (j - s.length)=true:=by
  intro j hc
  obtain ⟨k1,k2⟩:=(occ2 _ _ _ _).1 hc
  by_cases hj:s.length≤j
  ·rw [List.getElem?_append_right hj] at k1
   rw [List.getElem?_append_right (by omega)] at k2
   refine ⟨hj,(occ2 _ _ _ _).2 ⟨k1,?_⟩⟩
   rw [← k2];congr 1;omega
  ·exfalso
   rw [List.getElem?_append_left (by omega)] at k1
   by_cases hj2:j+1 < s.length
   ·rw [List.getElem?_append_left hj2] at k2
    have h5:Lib.occAt s brO j=true:=(occ2 s 123 123 j).2 ⟨k1,k2⟩
    rw [hno j] at h5
    cases h5
   ·rw [List.getElem?_append_right (by omega)] at k2
    refine hm ⟨?_,?_⟩
    ·rw [List.getLast?_eq_getElem?,← k1];congr 1;omega
    ·rw [← k2];congr 1;omega
 rcases Lib.index_spec t brO with ⟨h1,h2⟩ | ⟨i,h1,h2,h3,h4⟩
 ·have hz:Lib.index (s ++ t) brO=-1:=by
   rcases Lib.index_spec (s ++ t) brO with ⟨g1,_⟩ | ⟨i,g1,g2,g3,g4⟩
   ·exact g1
   ·obtain ⟨a1,a2⟩:=hearly i g3
    rw [h2 _ (by rw [List.length_append] at g2;omega)] at a2
    cases a2
  unfold idxO
  rw [hz,h1,if_pos (by decide),if_pos (by decide),List.length_append]
 ·have hz:Lib.index (s ++ t) brO=((s.length+i:Nat):Int):=by
   refine Lib.index_first (by rw [List.length_append];omega) ?_ fun k hk=>?_
   ·obtain ⟨k1,k2⟩:=(occ2 _ _ _ _).1 h3
    refine (occ2 _ _ _ _).2 ⟨?_,?_⟩
    ·rw [List.getElem?_append_right (by omega),← k1];congr 1;omega
    ·rw [List.getElem?_append_right (by omega),← k2];congr 1;omega
   ·cases hc:Lib.occAt (s ++ t) brO k with
    | false=>rfl
    | true =>
     obtain ⟨a1,a2⟩:=hearly k hc
     have:=h4 (k - s.length) (by omega)
     rw [a2] at this
     cases this
  unfold idxO
  rw [hz,h1,if_neg (by omega),if_neg (by omega)]
  rfl
inductive Lx:Nat→List UInt8→List Wd→Prop where
 | nil (a:Nat):Lx a [] []
 | lit (a:Nat) (u r:List UInt8) (W:List Wd):u≠[]→idxO (u ++ r)=u.length→Lx (a+u.length) r W→Lx a (u ++ r) (litW a u :: W)
 | act (a:Nat) (t r:List UInt8) (W:List Wd):Lib.index (brO ++ (t ++ (brC ++ r))) brC=((t.length+2:Nat):Int)→(actW t).ok=true→Lx (a+(t.length+4)) r W→Lx a (brO ++ (t ++ (brC ++ r))) (actWd a (actW t) :: W)
theorem idxO_brO (r:List UInt8):idxO (brO ++ r)=0:=by
 have:Lib.index (brO ++ r) brO=((0:Nat):Int):=Lib.index_first (Nat.zero_le _) (by unfold Lib.occAt;simp [brO,List.isPrefixOf]) fun j hj=>by omega
 unfold idxO
 rw [this];rfl
theorem of_lx {a:Nat} {r:List UInt8} {W:List Wd} (h:Lx a r W):∀ (n:Nat) (acc:List Wd),r.length < n→wordsF n r a acc=(acc ++ W,-1):=by
 induction h with
 | nil a =>
  intro n acc hn
  obtain ⟨k,rfl⟩:∃ k,n=k+1:=⟨n - 1,by omega⟩
  rw [wordsF];simp
 | lit a u r W hu hi _ ih =>
  intro n acc hn
  obtain ⟨k,rfl⟩:∃ k,n=k+1:=⟨n - 1,by omega⟩
  have hpos:0 < u.length:=List.length_pos_iff.2 hu
  have hne:(u ++ r).isEmpty=false:=by cases u with | nil=>exact absurd rfl hu | cons x t=>rfl
  rw [List.length_append] at hn
  rw [wordsF,hne,if_neg (by decide),hi,if_pos hpos,List.drop_left,List.take_left,ih k _ (by omega),List.append_assoc]
  rfl
 | act a t r W hi hok _ ih =>
  intro n acc hn
  obtain ⟨k,rfl⟩:∃ k,n=k+1:=⟨n - 1,by omega⟩
  have hd:((brO ++ (t ++ (brC ++ r))).take (t.length+2)).drop 2=t:=by
   rw [show brO ++ (t ++ (brC ++ r))=(brO ++ t) ++ (brC ++ r) by simp [List.append_assoc],List.take_left' (by simp [brO])]
   rfl
  have hr:(brO ++ (t ++ (brC ++ r))).drop (t.length+2+2)=r:=by
   rw [show brO ++ (t ++ (brC ++ r))=(brO ++ t ++ brC) ++ r by simp [List.append_assoc],List.drop_left' (by simp [brO,brC])]
  have hl:(brO ++ (t ++ (brC ++ r))).length=t.length+r.length+4:=by simp [brO,brC];omega
  rw [hl] at hn
  rw [wordsF,show (brO ++ (t ++ (brC ++ r))).isEmpty=false from rfl,if_neg (by decide),idxO_brO,if_neg (by decide),hi,if_neg (by omega),Int.toNat_natCast,hd,hr,if_pos hok,show a+(t.length+2+2)=a+(t.length+4) by omega,ih k _ (by omega),List.append_assoc]
  rfl
theorem lx_words {l:List UInt8} {W:List Wd} (h:Lx 0 l W):wordsW l=(W,-1):=by
 have:=of_lx h (l.length+1) [] (by omega)
 rwa [List.nil_append] at this
def Wd.up (k:Nat) (w:Wd):Wd:={ w with at':=w.at'+k }
theorem Lx.up {a:Nat} {r:List UInt8} {W:List Wd} (h:Lx a r W) (k:Nat):Lx (a+k) r (W.map (Wd.up k)):=by
 induction h with
 | nil a=>exact .nil _
 | lit a u r W hu hi _ ih=>exact .lit (a+k) u r _ hu hi (by rw [show a+k+u.length=a+u.length+k by omega];exact ih)
 | act a t r W hi hok _ ih=>exact .act (a+k) t r _ hi hok (by rw [show a+k+(t.length+4)=a+(t.length+4)+k by omega];exact ih)
theorem Lx.nil_inv {a:Nat} {r:List UInt8} {W:List Wd} (h:Lx a r W) (hr:r=[]):W=[]:=by
 cases h with
 | nil=>rfl
 | lit _ u r W hu _ _=>exact absurd (List.append_eq_nil_iff.1 hr).1 hu
 | act=>simp [brO] at hr
theorem Lx.app {a:Nat} {s:List UInt8} {W:List Wd} (h:Lx a s W):∀ {t:List UInt8} {V:List Wd},Lx (a+s.length) t V→Meet s t →
  Lx a (s ++ t) (W ++ V)∨∃ W' p q u v V',W=W' ++ [litW p u]∧V=litW q v :: V'∧Lx a (s ++ t) (W' ++ litW p (u ++ v) :: V'):=by
 induction h with
 | nil a=>intro t V hV hm;exact .inl hV
 | lit a u r W hu hi hr ih =>
  intro t V hV hm
  by_cases hr0:r=[]
  ·subst hr0
   rw [List.append_nil] at hi hV hm ⊢
   have hi2:=idxO_app hi hm
   obtain rfl:=hr.nil_inv rfl
   cases hV with
   | nil=>left;rw [List.append_nil] at hi2 ⊢;have:=Lx.lit a u [] [] hu (by rw [List.append_nil];exact hi) (.nil _);rwa [List.append_nil] at this
   | lit a' v r' W' hv hiv hr' =>
    right
    refine ⟨[],a,a+u.length,u,v,W',rfl,rfl,?_⟩
    have:=Lx.lit a (u ++ v) r' W' (by simp [hu]) (by rw [List.append_assoc,hi2,hiv,List.length_append]) (by rw [List.length_append,← Nat.add_assoc];exact hr')
    rwa [List.append_assoc] at this
   | act a' t' r' W' hi' hok' hr' =>
    left
    exact Lx.lit a u _ _ hu (by rw [hi2,idxO_brO];rfl) (Lx.act _ t' r' W' hi' hok' hr')
  ·have hm':Meet r t:=by
    intro hh
    refine hm ⟨?_,hh.2⟩
    rw [List.getLast?_append,hh.1];rfl
   have hi':idxO (u ++ (r ++ t))=u.length:=by
    have hlt:u.length < (u ++ r).length:=by rw [List.length_append];have:=List.length_pos_iff.2 hr0;omega
    obtain ⟨j,hj⟩:∃ j:Nat,Lib.index (u ++ r) brO=(j:Int):=by
     unfold idxO at hi
     split at hi
     ·omega
     ·exact ⟨(Lib.index (u ++ r) brO).toNat,by omega⟩
    have hju:j=u.length:=by
     unfold idxO at hi
     rw [hj,if_neg (by omega)] at hi
     exact hi
    rw [← List.append_assoc]
    have h7:Lib.index (u ++ r ++ t) brO=(j:Int):=index_app (t:=t) hj
    unfold idxO
    rw [h7,if_neg (by omega)]
    omega
   rcases ih (t:=t) (V:=V) (by rw [List.length_append,← Nat.add_assoc] at hV;exact hV) hm' with g | ⟨W',p,q,x,y,V',e1,e2,g⟩
   ·left
    have:=Lx.lit a u (r ++ t) _ hu hi' g
    rwa [← List.append_assoc] at this
   ·right
    refine ⟨litW a u :: W',p,q,x,y,V',by rw [e1];rfl,e2,?_⟩
    have:=Lx.lit a u (r ++ t) _ hu hi' g
    rwa [← List.append_assoc] at this
 | act a t0 r W hi hok hr ih =>
  intro t V hV hm
  have hi':Lib.index (brO ++ (t0 ++ (brC ++ (r ++ t)))) brC=((t0.length+2:Nat):Int):=by
   have:=index_app (t:=t) hi
   rwa [show (brO ++ (t0 ++ (brC ++ r))) ++ t=brO ++ (t0 ++ (brC ++ (r ++ t))) by simp] at this
  have hm':Meet r t:=by
   intro hh
   refine hm ⟨?_,hh.2⟩
   rw [List.getLast?_append,List.getLast?_append,List.getLast?_append,hh.1];rfl
  have el:(brO ++ (t0 ++ (brC ++ r))).length=t0.length+4+r.length:=by simp [brO,brC];omega
  have ea:(brO ++ (t0 ++ (brC ++ r))) ++ t=brO ++ (t0 ++ (brC ++ (r ++ t))):=by simp
  rw [ea]
  rcases ih (t:=t) (V:=V) (by rw [el,← Nat.add_assoc] at hV;exact hV) hm' with g | ⟨W',p,q,x,y,V',e1,e2,g⟩
  ·exact .inl (Lx.act a t0 (r ++ t) _ hi' hok g)
  ·exact .inr ⟨actWd a (actW t0) :: W',p,q,x,y,V',by rw [e1];rfl,e2,Lx.act a t0 (r ++ t) _ hi' hok g⟩
end R3

namespace R3
open Go Go.Proofs Sx
theorem idx_act {t:List UInt8} (hb:∀ x ∈ t,x≠125) (r:List UInt8):Lib.index (brO ++ (t ++ (brC ++ r))) brC=((t.length+2:Nat):Int):=by
 refine Lib.index_first (by simp [brO]) ?_ fun j hj=>?_
 ·unfold Lib.occAt
  rw [show brO ++ (t ++ (brC ++ r))=(brO ++ t) ++ (brC ++ r) by simp [List.append_assoc],List.drop_left' (by simp [brO])]
  simp [brC,List.isPrefixOf]
 ·cases h:Lib.occAt (brO ++ (t ++ (brC ++ r))) brC j with
  | false=>rfl
  | true =>
   have:=Lib.occAt_head (c:=125) (t:=[125]) rfl h
   rw [show brO ++ (t ++ (brC ++ r))=(brO ++ t) ++ (brC ++ r) by simp [List.append_assoc],List.getElem?_append_left (by simp [brO];omega)] at this
   rcases List.mem_append.1 (List.mem_of_getElem? this) with h | h
   ·simp [brO] at h
   ·exact absurd rfl (hb 125 h)
def actS (t:List UInt8):List UInt8:=brO ++ (t ++ (brC ++ []))
theorem actS_app (t r:List UInt8):actS t ++ r=brO ++ (t ++ (brC ++ r)):=by simp [actS]
theorem actS_len (t:List UInt8):(actS t).length=t.length+4:=by simp [actS,brO,brC]
theorem lx_act {t r:List UInt8} {W:List Wd} {a:Nat} (hb:∀ x ∈ t,x≠125) (hok:(actW t).ok=true) (h:Lx (a+(t.length+4)) r W):Lx a (actS t ++ r) (actWd a (actW t) :: W):=by
 rw [actS_app]
 exact .act a t r W (idx_act hb r) hok h
end R3

namespace R3
open Go Go.Proofs Sx
def opT (b:Bool):List UInt8:=if b then [114,97,110,103,101,32,97] else [105,102,32,97]
def enT:List UInt8:=[101,110,100]
def aAV:AV:=.ro 1 [.s [97]]
theorem act_op (b:Bool):actW (opT b)=⟨if b then 4 else 2,false,aAV,true⟩:=by
 cases b
 ·kernel_rfl
 ·kernel_rfl
theorem act_en:actW enT=⟨5,false, .nils,true⟩:=by kernel_rfl
theorem op_no (b:Bool):∀ x ∈ opT b,x≠125:=by cases b <;> decide
theorem en_no:∀ x ∈ enT,x≠125:=by decide
def opens:List Bool→List UInt8
 | []=>[]
 | b :: l=>actS (opT b) ++ opens l
def opsW:Nat→List Bool→List Wd
 | _,[]=>[]
 | a,b :: l=>actWd a (actW (opT b)) :: opsW (a+((opT b).length+4)) l
def ends:Nat→List UInt8
 | 0=>[]
 | n+1=>actS enT ++ ends n
def endsW:Nat→Nat→List Wd
 | _,0=>[]
 | a,n+1=>actWd a (actW enT) :: endsW (a+(enT.length+4)) n
theorem opens_snoc (b:Bool):∀ l:List Bool,opens (l ++ [b])=opens l ++ actS (opT b)
 | []=>by simp [opens]
 | c :: l=>by simp only [List.cons_append,opens,opens_snoc b l,List.append_assoc]
theorem ends_snoc:∀ n,ends (n+1)=ends n ++ actS enT
 | 0=>by simp [ends]
 | n+1=>by
  have h:=ends_snoc n
  show actS enT ++ ends (n+1)=(actS enT ++ ends n) ++ actS enT
  rw [h,List.append_assoc]
theorem opens_len:∀ l:List Bool,(opens l).length≤11 * l.length
 | []=>Nat.le_refl _
 | b :: l=>by
  have h:=opens_len l
  have h2:(opT b).length≤7:=by cases b <;> decide
  simp only [opens,List.length_append,actS_len,List.length_cons]
  omega
theorem ends_len:∀ n,(ends n).length=7 * n
 | 0=>rfl
 | n+1=>by
  have h:=ends_len n
  have h2:enT.length=3:=rfl
  simp only [ends,List.length_append,actS_len]
  omega
theorem endsW_snoc:∀ (n a:Nat),∃ p,endsW a (n+1)=endsW a n ++ [actWd p (actW enT)]
 | 0,a=>⟨a,rfl⟩
 | n+1,a=>by
  obtain ⟨p,h⟩:=endsW_snoc n (a+(enT.length+4))
  exact ⟨p,by rw [endsW,h,endsW,List.cons_append]⟩
theorem lx_opens {r:List UInt8} {W:List Wd}:∀ (l:List Bool) (a:Nat),Lx (a+(opens l).length) r W→Lx a (opens l ++ r) (opsW a l ++ W)
 | [],a,h=>h
 | b :: l,a,h=>by
  simp only [opens,opsW,List.append_assoc,List.cons_append]
  refine lx_act (op_no b) (by rw [act_op]) (lx_opens l _ ?_)
  have e:a+((opT b).length+4)+(opens l).length=a+(opens (b :: l)).length:=by simp only [opens,List.length_append,actS_len];omega
  rw [e]
  exact h
theorem lx_ends:∀ (n a:Nat),Lx a (ends n) (endsW a n)
 | 0,a=>.nil a
 | n+1,a=>lx_act en_no (by rw [act_en]) (lx_ends n _)
theorem lx_x (n a:Nat):Lx a ([120] ++ ends n) (litW a [120] :: endsW (a+1) n):=by
 refine .lit a [120] _ _ (by simp) ?_ (lx_ends n _)
 cases n with
 | zero=>kernel_rfl
 | succ n =>
  have:Lib.index ([120] ++ ends (n+1)) brO=((1:Nat):Int):=by
   refine Lib.index_first (by simp [ends]) ?_ fun j hj=>?_
   ·unfold Lib.occAt
    simp [ends,actS,brO,List.isPrefixOf]
   ·obtain rfl:j=0:=by omega
    unfold Lib.occAt
    simp [brO,List.isPrefixOf]
  unfold idxO
  rw [this];rfl
def deepW (l:List Bool) (n:Nat):List Wd:=opsW 0 l ++ litW (opens l).length [120] :: endsW ((opens l).length+1) n
theorem words_deep (l:List Bool) (n:Nat):wordsW (opens l ++ ([120] ++ ends n))=(deepW l n,-1) :=
 lx_words (lx_opens l 0 (by rw [Nat.zero_add];exact lx_x n _))
theorem lit_kind (p:Nat):(litW p [120]).kind≠2∧(litW p [120]).kind≠3∧(litW p [120]).kind≠4∧(litW p [120]).kind≠5:=by
 have e:(litW p [120]).kind=0:=rfl
 rw [e];decide
theorem deep_ts:∀ (l:List Bool) (a p q:Nat),∃ ts:Ts,ts.ok∧ts.depth≤l.length∧ts.flat=opsW a l ++ litW p [120] :: endsW q l.length
 | [],a,p,q=>⟨.leaf (litW p [120]) .nil,⟨lit_kind p,trivial⟩,Nat.le_refl _,rfl⟩
 | b :: l,a,p,q=>by
  obtain ⟨ts,h1,h2,h3⟩:=deep_ts l (a+((opT b).length+4)) p q
  obtain ⟨e,he⟩:=endsW_snoc l.length q
  refine ⟨.blk (actWd a (actW (opT b))) ts (actWd e (actW enT)) .nil,⟨?_,?_,h1,trivial⟩,?_,?_⟩
  ·rw [act_op];cases b
   ·exact .inl rfl
   ·exact .inr rfl
  ·rw [act_en];rfl
  ·simp only [Ts.depth,List.length_cons];omega
  ·simp only [Ts.flat,h3,List.length_cons,he,opsW,List.append_assoc,List.cons_append]
theorem tree_deep (l:List Bool) (h:l.length≤16):∃ nodes top,treeOf (deepW l l.length)=.ok nodes top:=by
 obtain ⟨ts,h1,h2,h3⟩:=deep_ts l 0 (opens l).length ((opens l).length+1)
 have:=treeOf_flat h1 (by omega)
 rw [h3] at this
 exact ⟨_,_,this⟩
theorem run_deep (rest:List Wd):∀ (l:List Bool) (a:Nat) (s:Ms),s.wf→s.stack.length≤16→16 < s.stack.length+l.length→∃ x,mRun (opsW a l ++ rest) s=.bad x 3
 | [],a,s,hw,h1,h2=>by simp at h2;omega
 | b :: l,a,s,hw,h1,h2=>by
  have hk:(actWd a (actW (opT b))).kind=2∨(actWd a (actW (opT b))).kind=4:=by
   rw [act_op];cases b
   ·exact .inl rfl
   ·exact .inr rfl
  simp only [opsW,List.cons_append]
  rw [mRun]
  by_cases h16:s.stack.length < 16
  ·rw [step_open hw hk h16]
   simp only
   exact run_deep rest l _ _ (opened_wf hw _) (by rw [opened_len];omega) (by rw [opened_len];simp only [List.length_cons] at h2;omega)
  ·have h3:(actWd a (actW (opT b))).kind≠3∧(actWd a (actW (opT b))).kind≠5:=by rcases hk with e | e <;> rw [e] <;> decide
   unfold mStep
   rw [if_neg (by simp [h3]),if_neg (by simp [h3]),if_pos (by simp;exact ⟨hk,by omega⟩)]
   exact ⟨_,rfl⟩
theorem tree_too (l:List Bool) (n:Nat) (h:16 < l.length):∃ a,treeOf (deepW l n)=.bad a 3:=by
 obtain ⟨x,hx⟩:=run_deep (litW (opens l).length [120] :: endsW ((opens l).length+1) n) l 0 ⟨[],[],[]⟩ wf0 (Nat.zero_le _) (by simpa using h)
 have hx:mTree (deepW l n)=.bad x 3:=hx
 cases ht:treeOf (deepW l n) with
 | bad a e =>
  rw [mtree_bad ht] at hx
  cases hx
  exact ⟨_,rfl⟩
 | ok nodes top =>
  obtain ⟨ts,h1,h2,h3,_,_⟩:=of_treeOf ht
  rw [h3,mtree_ok h1 h2] at hx
  cases hx
theorem flat_bal:∀ t:Ts,t.ok→(t.flat.countP fun w=>w.kind == 2 || w.kind == 4)=t.flat.countP fun w=>w.kind == 5
 | .nil,_=>rfl
 | .leaf w k,h=>by
  have:=flat_bal k h.2
  obtain ⟨h2,h3,h4,h5⟩:=h.1
  simp only [Ts.flat,List.countP_cons,this,h2,h4,h5,beq_iff_eq,Bool.or_eq_true,or_self,if_false]
 | .blk w b e k,h=>by
  obtain ⟨hk,he,hb,hk'⟩:=h
  have i1:=flat_bal b hb
  have i2:=flat_bal k hk'
  have e1:(w.kind == 2 || w.kind == 4)=true:=by simpa using hk
  have e2:(w.kind == 5)=false:=by rcases hk with e | e <;> rw [e] <;> rfl
  have e3:(e.kind == 2 || e.kind == 4)=false:=by rw [he];rfl
  have e4:(e.kind == 5)=true:=by rw [he];rfl
  simp only [Ts.flat,List.countP_cons,List.countP_append,i1,i2,e1,e2,e3,e4,if_true,Bool.false_eq_true,if_false]
  omega
 | .alt w b l c e k,h=>by
  obtain ⟨hk,hl,he,hb,hc,hk'⟩:=h
  have i1:=flat_bal b hb
  have i2:=flat_bal c hc
  have i3:=flat_bal k hk'
  have e1:(w.kind == 2 || w.kind == 4)=true:=by rw [hk];rfl
  have e2:(w.kind == 5)=false:=by rw [hk];rfl
  have e3:(e.kind == 2 || e.kind == 4)=false:=by rw [he];rfl
  have e4:(e.kind == 5)=true:=by rw [he];rfl
  have e5:(l.kind == 2 || l.kind == 4)=false:=by rw [hl];rfl
  have e6:(l.kind == 5)=false:=by rw [hl];rfl
  simp only [Ts.flat,List.countP_cons,List.countP_append,i1,i2,i3,e1,e2,e3,e4,e5,e6,if_true,Bool.false_eq_true,if_false]
  omega
theorem ops_count:∀ (l:List Bool) (a:Nat),((opsW a l).countP fun w=>w.kind == 2 || w.kind == 4)=l.length∧((opsW a l).countP fun w=>w.kind == 5)=0
 | [],a=>⟨rfl,rfl⟩
 | b :: l,a=>by
  obtain ⟨h1,h2⟩:=ops_count l (a+((opT b).length+4))
  have e1:((actWd a (actW (opT b))).kind == 2 || (actWd a (actW (opT b))).kind == 4)=true:=by rw [act_op];cases b <;> rfl
  have e2:((actWd a (actW (opT b))).kind == 5)=false:=by rw [act_op];cases b <;> rfl
  simp only [opsW,List.countP_cons,h1,h2,e1,e2,if_true,Bool.false_eq_true,if_false,List.length_cons,and_self]
theorem tree_open (l:List Bool) (h:l≠[]):∃ a e,treeOf (deepW l 0)=.bad a e:=by
 cases ht:treeOf (deepW l 0) with
 | bad a e=>exact ⟨_,_,rfl⟩
 | ok nodes top =>
  exfalso
  obtain ⟨ts,h1,h2,h3,_,_⟩:=of_treeOf ht
  have hb:=flat_bal ts h1
  obtain ⟨g1,g2⟩:=ops_count l 0
  rw [← h3] at hb
  unfold deepW at hb
  have e1:((litW (opens l).length [120]).kind == 2 || (litW (opens l).length [120]).kind == 4)=false:=rfl
  have e2:((litW (opens l).length [120]).kind == 5)=false:=rfl
  simp only [List.countP_append,List.countP_cons,g1,g2,e1,e2,endsW,List.countP_nil,Bool.false_eq_true,if_false] at hb
  exact h (List.length_eq_zero_iff.1 (by omega))
theorem parse_deepL (l:List Bool) (n:Nat) (h:l.length≤20) (hn:n≤20):parseT (opens l ++ ([120] ++ ends n))=treeOf (deepW l n):=by
 have h1:=opens_len l
 have h2:=ends_len n
 unfold parseT
 rw [if_neg (by simp only [List.length_append,List.length_cons,List.length_nil];omega),words_deep]
 rfl
end R3

namespace R3G
open Go Go.Proofs Sx R3
variable {mx:Int}
theorem s35 (l:List UInt8):semCall (C mx) Tryd.prog 35 [.s l]=some (trAV (parseT l)):=semCall_gv (G:=G35) rfl rfl rfl
theorem s36 (l:List UInt8):semCall (C mx) Tryd.prog 36 [.s l]=some (mrAV (docT l)):=semCall_gv (G:=G36) rfl rfl rfl
theorem s39 {x y:AV} (h:TreeOk x y):semCall (C mx) Tryd.prog 39 [x,y]=some (.b true):=semCall_gv (G:=G39) rfl rfl (g39 h)
theorem doc_bad {l:List UInt8} {a e:Nat} (h:parseT l=.bad a e):docT l=.bad a e:=by
 unfold parseT at h
 unfold docT
 split at h
 ·rename_i h1
  rw [if_pos h1];cases h;rfl
 ·rename_i h1
  rw [if_neg h1]
  split at h
  ·rename_i h2
   rw [if_pos h2];cases h;rfl
  ·rename_i h2
   rw [if_neg h2]
   exact mtree_bad h
theorem doc_ok {l:List UInt8} {nodes:List Nd} {top:List Nat} (h:parseT l=.ok nodes top):docT l=.ok (nodes.map Nd.mn) top∧(∀ x ∈ nodes,x.hole=0)∧nodes.length≤100000∧top.length≤100000∧(∀ x ∈ nodes,NmOk2 x.names)∧∀ x ∈ nodes,(x.body.getD []).length≤100000∧(x.els.getD []).length≤100000:=by
 unfold parseT at h
 unfold docT
 split at h
 ·cases h
 ·rename_i h1
  rw [if_neg h1]
  split at h
  ·cases h
  ·rename_i h2
   rw [if_neg h2]
   obtain ⟨ts,t1,t2,t3,rfl,rfl⟩:=of_treeOf h
   have hw:(wordsW l).1.length≤100000:=by
    have:=wordsF_len (l.length+1) l 0 []
    simp only [List.length_nil] at this
    unfold wordsW
    omega
   have hn:∀ w ∈ (wordsW l).1,NmOk2 w.names:=wordsF_nm2 _ _ _ _ fun w hw=>by simp at hw
   have hs:=Ts.flat_len ts
   rw [t3] at hw hn
   refine ⟨by rw [t3,mtree_ok t1 t2,arr_mn],fun x hx=>(arr_of ts 0 x hx).1,by rw [Ts.arr_len];omega,by have:=tops_len ts 0;omega,fun x hx=>?_,fun x hx=>?_⟩
   ·obtain ⟨_,w,hw,e⟩:=arr_of ts 0 x hx
    rw [e]
    exact hn w hw
   ·have:=arr_lists ts 0 x hx
    omega
theorem l37 {ns:List Nd} {ta tb:AV} (h0:∀ x ∈ ns,x.hole=0) (hl:ns.length≤100000):∀ (m i:Nat),ns.length=i+m→F37_4 (semRun (C mx) Tryd.prog 37 Tryd.f37) (i:Int) (.ro 9 (ns.map Nd.av)) ta (.ro 9 ((ns.map Nd.mn).map Mn.av)) tb=some (.b true)
 | 0,i,hi=>by
  apply r37_4
  have e:decide ((i:Int) < ((ns.map Nd.av).length:Int))=false:=by rw [decide_eq_false_iff_not,List.length_map];omega
  simp only [X37_4,lenR_ro,Sx.int_lss,e,Option.bind_some,condM_b,Bool.false_eq_true,if_false]
 | m+1,i,hi=>by
  apply r37_4
  have hlt:i < ns.length:=by omega
  have e:decide ((i:Int) < ((ns.map Nd.av).length:Int))=true:=by rw [decide_eq_true_eq,List.length_map];omega
  have e3:w64 ((i:Int)+1)=((i+1:Nat):Int):=by rw [w64_eq (by omega) (by omega)];omega
  have x1:idx 9 (.ro 9 (ns.map Nd.av)) (.int (i:Int))=some (ns[i]).av:=by rw [idx_get 9 (by rw [List.length_map];exact hlt),List.getElem_map]
  have x2:idx 9 (.ro 9 ((ns.map Nd.mn).map Mn.av)) (.int (i:Int))=some (ns[i]).mn.av:=by rw [idx_get 9 (by rw [List.length_map,List.length_map];exact hlt),List.getElem_map,List.getElem_map]
  have hz:=h0 _ (List.getElem_mem hlt)
  have c1:AV.cell (ns[i]).av 8=.u8 (ns[i]).hole:=rfl
  have c2:AV.cell (ns[i]).mn.av 8=.u8 0:=rfl
  have hn:binI .neq (.u8 0) (.u8 0)=some (.b false):=rfl
  simp only [X37_4,lenR_ro,Sx.int_lss,e,Option.bind_some,condM_b,if_true,x1,x2,c1,c2,hz,hn,Bool.false_eq_true,if_false,e3]
  exact l37 h0 hl m (i+1) (by omega)
theorem s37 {ns:List Nd} {top:List Nat} (h0:∀ x ∈ ns,x.hole=0) (h1:ns.length≤100000) (h2:top.length≤100000) (h3:∀ x ∈ ns,NmOk2 x.names) (h4:∀ x ∈ ns,(x.body.getD []).length≤100000∧(x.els.getD []).length≤100000) :
  semCall (C mx) Tryd.prog 37 [.ag [.ro 9 (ns.map Nd.av), .ro 1 (numsAV top)], .ag [.ro 9 ((ns.map Nd.mn).map Mn.av), .ro 1 (numsAV top)]]=some (.b true):=by
 apply c37
 have hok:TreeOk (.ag [.ro 9 (ns.map Nd.av), .ro 1 (numsAV top)]) (.ag [.ro 9 ((ns.map Nd.mn).map Mn.av), .ro 1 (numsAV top)]) :=
  ⟨ns,top,_,_,_,_,h1,h2,h3,h4, .inl rfl, .inl (by rw [List.map_map];rfl), .inl rfl, .inl rfl,rfl,rfl⟩
 have hun:unop .not (.b true)=some (.b false):=rfl
 simp only [X37,s39 hok,Option.bind_some,hun,condM_b,Bool.false_eq_true,if_false]
 exact l37 (mx:=mx) h0 h1 ns.length 0 (by omega)
theorem s37n:semCall (C mx) Tryd.prog 37 [.ag [.nils, .nils], .ag [.nils, .nils]]=some (.b true):=by
 apply c37
 have hok:TreeOk (.ag [.nils, .nils]) (.ag [.nils, .nils]) :=
  ⟨[],[], .nils, .nils, .nils, .nils,Nat.zero_le _,Nat.zero_le _,by simp,by simp, .inr ⟨rfl,rfl⟩, .inr ⟨rfl,rfl⟩, .inr ⟨rfl,rfl⟩, .inr ⟨rfl,rfl⟩,rfl,rfl⟩
 have hun:unop .not (.b true)=some (.b false):=rfl
 simp only [X37,s39 hok,Option.bind_some,hun,condM_b,Bool.false_eq_true,if_false]
 apply r37_4
 have e0:lenR .nils=some (.int 0):=rfl
 simp only [X37_4,e0,Sx.int_lss,Option.bind_some]
 rfl
theorem tri0 (a b c:AV):tupI (.tu [a,b,c]) 0=some a:=rfl
theorem tri1 (a b c:AV):tupI (.tu [a,b,c]) 1=some b:=rfl
theorem tri2 (a b c:AV):tupI (.tu [a,b,c]) 2=some c:=rfl
theorem asAg2 (a b:AV):AV.asAg 2 (.ag [a,b])=some [a,b]:=rfl
theorem s34:semCall (C mx) Tryd.prog 34 []=some (.b true):=by
 apply c34
 simp only [X34,s35,R3Q.awakeT,Option.bind_some,tri0,tri1,tri2,asAg2,Sx.int_eql]
 rfl
end R3G

namespace R3G
open Go Go.Proofs Sx R3
variable {mx:Int}
theorem is_u32 {a:AV} (h:IsArg false [.ik .u32] a):∃ n:Int,a=.ik .u32 n:=by
 obtain ⟨lf,e,h⟩:=h
 cases e
 cases h with
 | ik k n h=>exact ⟨n,rfl⟩
theorem opI:actS (opT false)=[123,123,105,102,32,97,125,125]:=rfl
theorem opR:actS (opT true)=[123,123,114,97,110,103,101,32,97,125,125]:=rfl
theorem opE:actS enT=[123,123,101,110,100,125,125]:=rfl
theorem b_eql (p q:Bool):binB .eql (.b p) (.b q)=some (.b (p == q)):=rfl
theorem bit (n:Int) (i:Nat):∃ b:Bool,∀ K:AV→Option AV,((binI .shr (.ik .u32 n) (.int (i:Int))).bind fun v1=>(binI .and v1 (.ik .u32 1)).bind fun v2=>(binI .eql v2 (.ik .u32 0)).bind K)=K (.b b):=by
 have h:∃ y,binI .shr (.ik .u32 n) (.int (i:Int))=some (.ik .u32 y):=by
  refine ⟨n.fdiv (2 ^ (min (i:Int).toNat IntKind.u32.bits)),?_⟩
  show shiftOp .shr .u32 n (i:Int)=_
  unfold shiftOp
  rw [if_neg (by omega)]
  rfl
 obtain ⟨y,h⟩:=h
 rw [h]
 exact ⟨_,fun K=>rfl⟩
theorem l10_14 {l:List Bool} (hl:l.length≤19) {p q a6 a7:AV} {at' e k:Int} (h36:semCall (C mx) Tryd.prog 36 [.s (opens l ++ [120])]=some (.tu [.ag [p,q], .int at', .int e])) (hlen:lenR a6=some (.int k)) (k1:(((l.length:Int) == 0) == (e == 0))=true) (k2:(((l.length:Int) == 0) == (k == 1))=true):∀ (d i:Nat),i+d=l.length →
  F10_14 (semRun (C mx) Tryd.prog 10 Tryd.f10) (l.length:Int) (.s (opens l)) (.int at') (.int e) (.s (opens l ++ ([120] ++ ends i))) (i:Int) a6 a7=some (.b true)
 | 0,i,hi=>by
  obtain rfl:i=l.length:=by omega
  apply r10_14
  have ho:=opens_len l
  have hbig:big=70368744177664:=rfl
  have hd:decide ((l.length:Int) < (l.length:Int))=false:=by simp
  have ha:binS .add (.s (opens l)) (.s [120])=some (.s (opens l ++ [120])):=s_add (by simp only [List.length_cons,List.length_nil,hbig];omega)
  have hp:=parse_deepL l l.length (by omega) (by omega)
  by_cases h16:l.length≤16
  ·obtain ⟨nodes,top,ht⟩:=tree_deep l h16
   rw [ht] at hp
   obtain ⟨hdc,g0,g1,g2,g3,g4⟩:=doc_ok hp
   have hg:decide ((l.length:Int) > 16)=false:=by rw [decide_eq_false_iff_not];omega
   have h3:((0:Int) == 3)=false:=rfl
   simp only [X10_14,hd,condM_b,Bool.false_eq_true,if_false,s35,s36,hp,hdc,trAV,mrAV,Option.bind_some,tri0,tri1,tri2,asAg2,ha,h36,Sx.int_eql,beq_self_eq_true,selW_tt,List.getD_cons_zero,List.getD_cons_succ,hlen,b_eql,k1,k2,s37 g0 g1 g2 g3 g4,hg,h3]
  ·obtain ⟨a,ht⟩:=tree_too l l.length (by omega)
   rw [ht] at hp
   have hdc:=doc_bad hp
   have hg:decide ((l.length:Int) > 16)=true:=by rw [decide_eq_true_eq];omega
   have h3:(((3:Nat):Int) == 3)=true:=rfl
   simp only [X10_14,hd,condM_b,Bool.false_eq_true,if_false,s35,s36,hp,hdc,trAV,mrAV,Option.bind_some,tri0,tri1,tri2,asAg2,ha,h36,Sx.int_eql,beq_self_eq_true,selW_tt,List.getD_cons_zero,List.getD_cons_succ,hlen,b_eql,k1,k2,s37n,hg,h3]
 | d+1,i,hi=>by
  apply r10_14
  have ho:=opens_len l
  have he:=ends_len i
  have hbig:big=70368744177664:=rfl
  have hd:decide ((i:Int) < (l.length:Int))=true:=by rw [decide_eq_true_eq];omega
  have ha:binS .add (.s (opens l ++ ([120] ++ ends i))) (.s [123,123,101,110,100,125,125])=some (.s (opens l ++ ([120] ++ ends (i+1)))):=by
   rw [s_add (by simp only [List.length_append,List.length_cons,List.length_nil,hbig];omega),ends_snoc,opE]
   simp only [List.append_assoc]
  have hw:w64 ((i:Int)+1)=((i+1:Nat):Int):=by rw [w64_eq (by omega) (by omega)];rfl
  simp only [X10_14,hd,condM_b,if_true,ha,Option.bind_some,hw]
  exact l10_14 hl h36 hlen k1 k2 d (i+1) (by omega)
theorem one_x:trAV (parseT [120])=.tu [.ag [.ro 9 [.ag [.u8 0, .int 0, .s [120], .b false, .nils, .nils, .nils, .b false, .u8 0]], .ro 1 [.int 0]], .int 0, .int 0]:=by
 kernel_rfl
theorem doc_x:∃ p q,mrAV (docT [120])=.tu [.ag [p,q], .int 0, .int 0]:=by
 refine ⟨.ro 9 [.ag [.u8 0, .int 0, .s [120], .b false, .nils, .ro 1 [], .ro 1 [], .b false, .u8 0]], .ro 1 [.int 0],?_⟩
 kernel_rfl
theorem l10_6 (n:Int) {m:Nat} (hm:m≤19):∀ (d:Nat) (l:List Bool),l.length+d=m→F10_6 (semRun (C mx) Tryd.prog 10 Tryd.f10) n (m:Int) (.s (opens l)) (l.length:Int)=some (.b true)
 | 0,l,hl=>by
  obtain rfl:l.length=m:=by omega
  apply r10_6
  have ho:=opens_len l
  have hbig:big=70368744177664:=rfl
  have hd:decide ((l.length:Int) < (l.length:Int))=false:=by simp
  have ha:binS .add (.s (opens l)) (.s [120])=some (.s (opens l ++ [120])):=s_add (by simp only [List.length_cons,List.length_nil,hbig];omega)
  simp only [X10_6,hd,condM_b,Bool.false_eq_true,if_false,ha,Option.bind_some]
  have hz:opens l ++ [120]=opens l ++ ([120] ++ ends 0):=rfl
  by_cases h0:l=[]
  ·subst h0
   obtain ⟨p,q,hx⟩:=doc_x
   have h36:semCall (C mx) Tryd.prog 36 [.s (opens [] ++ [120])]=some (.tu [.ag [p,q], .int 0, .int 0]):=by
    rw [s36];exact congrArg some hx
   have h35:semCall (C mx) Tryd.prog 35 [.s (opens [] ++ [120])]=some (.tu [.ag [.ro 9 [.ag [.u8 0, .int 0, .s [120], .b false, .nils, .nils, .nils, .b false, .u8 0]], .ro 1 [.int 0]], .int 0, .int 0]):=by
    rw [s35];exact congrArg some one_x
   simp only [h35,Option.bind_some,tri0,tri1,tri2,asAg2,List.getD_cons_zero,List.getD_cons_succ]
   exact l10_14 (l:=[]) (by decide) h36 rfl rfl rfl 0 0 rfl
  ·have hp:=parse_deepL l 0 (by omega) (by omega)
   obtain ⟨a,e,ht⟩:=tree_open l h0
   rw [ht,← hz] at hp
   have hdc:=doc_bad hp
   have hne:=R3Q.parseT_bad hp
   have hl0:0 < l.length:=List.length_pos_iff.2 h0
   have z1:((l.length:Int) == 0)=false:=by simp;omega
   have z2:((e:Int) == 0)=false:=by simp;omega
   have h36:semCall (C mx) Tryd.prog 36 [.s (opens l ++ [120])]=some (.tu [.ag [.nils, .nils], .int (a:Int), .int (e:Int)]):=by rw [s36,hdc];rfl
   have h35:semCall (C mx) Tryd.prog 35 [.s (opens l ++ [120])]=some (.tu [.ag [.nils, .nils], .int (a:Int), .int (e:Int)]):=by rw [s35,hp];rfl
   simp only [h35,Option.bind_some,tri0,tri1,tri2,asAg2,List.getD_cons_zero,List.getD_cons_succ]
   exact l10_14 (k:=0) hm h36 rfl (by rw [z1,z2];rfl) (by rw [z1];rfl) l.length 0 (by omega)
 | d+1,l,hl=>by
  apply r10_6
  have ho:=opens_len l
  have hbig:big=70368744177664:=rfl
  have hd:decide ((l.length:Int) < (m:Int))=true:=by rw [decide_eq_true_eq];omega
  have hw:∀ b:Bool,w64 ((l.length:Int)+1)=((l ++ [b]).length:Int):=fun b=>by rw [w64_eq (by omega) (by omega),List.length_append];rfl
  obtain ⟨b,hb⟩:=bit n l.length
  have go:∀ b:Bool,F10_7 (semRun (C mx) Tryd.prog 10 Tryd.f10) n (m:Int) (.s (opens (l ++ [b]))) (l.length:Int)=some (.b true):=fun b=>by
   apply r10_7
   simp only [X10_7,hw b]
   exact l10_6 n hm d (l ++ [b]) (by rw [List.length_append];simp only [List.length_cons,List.length_nil];omega)
  have a1:binS .add (.s (opens l)) (.s [123,123,105,102,32,97,125,125])=some (.s (opens (l ++ [false]))):=by
   rw [s_add (by simp only [List.length_cons,List.length_nil,hbig];omega),opens_snoc,opI]
  have a2:binS .add (.s (opens l)) (.s [123,123,114,97,110,103,101,32,97,125,125])=some (.s (opens (l ++ [true]))):=by
   rw [s_add (by simp only [List.length_cons,List.length_nil,hbig];omega),opens_snoc,opR]
  simp only [X10_6,hd,condM_b,if_true,hb,a1,a2,Option.bind_some,go]
  cases b <;> rfl
theorem law10 (x:UInt8) (n:Int):semCall (C mx) Tryd.prog 10 [.u8 x, .ik .u32 n]=some (.b true):=by
 apply c10
 have hun:unop .not (.b true)=some (.b false):=rfl
 have hm:Int.tmod (w64 (x.toNat:Int)) 20=((x.toNat % 20:Nat):Int):=by
  have:=x.toNat_lt
  rw [w64_eq (by omega) (by omega)];rfl
 simp only [X10,s34 (mx:=mx),Option.bind_some,hun,condM_b,Bool.false_eq_true,if_false,hm]
 exact l10_6 (mx:=mx) n (by omega) (x.toNat % 20) [] (by simp)
end R3G
