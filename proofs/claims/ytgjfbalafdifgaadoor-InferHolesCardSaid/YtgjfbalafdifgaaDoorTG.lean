/-
  A part of InferHoles's proof: an evaluator of translated functions over plain data, what functions of this seat come to, and laws on plain data.
-/
import Derived.Test.YtgjfbalafdifgaaDoorTF
import Derived.StillTailTactics
import Derived.Deep.RegionLawGrows
import Derived.Test.YtgjfbalafdifgaaDoorTE
import Derived.Test.YtgjfbalafdifgaaDoorProg
import Derived.Test.YtgjfbalafdifgaaDoorTD
import Derived.Test.YtgjfbalafdifgaaDoorTC
set_option linter.unusedVariables false
set_option linter.unusedSimpArgs false
set_option linter.unusedSectionVars false
set_option linter.unnecessarySimpa false
namespace R3
open Go Go.Proofs Go.RowKit Go.Shelf Sx
variable {mx:Int}
theorem own_cells {W:World} {F:Nat→Prop} {e k:Nat} {l:List AV} {g n cap:Nat} (h:OwnOk W F e k l (.slice (some ⟨g,0,none⟩) n cap)) {i:Nat} (hi:i < l.length) :
  n=l.length∧∃ x:Nat→Value,(∀ j,j < k→W.cell? ⟨g,i * k+j,none⟩=some (x j)∧W.frozen? ⟨g,i * k+j,none⟩=false)∧∀ j,j < k→Rel W F ((l.getD i .un).cell j) (x j):=by
 obtain ⟨hk,xs,⟨hl,h2⟩,ho,hr⟩:=h
 rcases h2 with ⟨e0,_⟩ | ⟨g',cap',cur,e1,hg0,hgg,hc,hm,hs,htake⟩
 ·cases e0
 ·cases e1
  have hlt:∀ j,j < k→i * k+j < l.length * k:=fun j hj=>by
   have:i * k+k≤l.length * k:=by rw [← Nat.succ_mul];exact Nat.mul_le_mul_right k hi
   omega
  refine ⟨rfl,fun j=>xs.getD (i * k+j) undef,fun j hj=>⟨?_,by simp [World.frozen?,hgg]⟩,fun j hj=>?_⟩
  ·have h1:i * k+j < xs.length:=by rw [hl];exact hlt j hj
   rw [cell_of_row W g (i * k+j) cur e (0,0) hgg]
   obtain ⟨u,hu⟩:∃ u,xs[i * k+j]?=some u:=⟨xs[i * k+j],List.getElem?_eq_getElem h1⟩
   show _=some (xs.getD (i * k+j) undef)
   rw [List.getD_eq_getElem?_getD,hu,Option.getD_some]
   rw [← htake,List.getElem?_take] at hu
   split at hu
   ·rw [Array.getElem?_toList] at hu
    simpa using hu
   ·cases hu
  ·have h1:i * k+j < xs.length:=by rw [hl];exact hlt j hj
   have h2:xs[i * k+j]?=some xs[i * k+j]:=List.getElem?_eq_getElem h1
   show Rel W F _ (xs.getD (i * k+j) undef)
   rw [List.getD_eq_getElem?_getD (l:=xs),h2,Option.getD_some]
   exact hr i j _ hi hj h2
def CF (w:World) (F:Nat→Prop) (nv:Value) (b:Nat):Prop:=(b < w.heap.size→F b)∧nv.ownBlock≠some b∧b≠w.heap.size∧b≠w.heap.size+1
structure Cp (w:World) (F:Nat→Prop) (ns:List Nd) (nv tv:Value) (W:World):Prop where
 os:W.os=w.os
 tape:W.tape=w.tape
 output:W.output=w.output
 size:w.heap.size+2≤W.heap.size
 block:∀ b,b < w.heap.size→nv.ownBlock≠some b→W.heap[b]?=w.heap[b]?
 b1:W.heap[w.heap.size]?=some (.cells #[nv,tv] 50)
 b2:W.heap[w.heap.size+1]?=some (.cells #[.slice none 0 0, .slice none 0 0] 50)
 own:OwnOk W (CF w F nv) 61 9 (ns.map Nd.av) nv
theorem Cp.ext {w:World} {F:Nat→Prop} {ns:List Nd} {nv tv:Value} {W W':World} (h:Cp w F ns nv tv W) (hx:Ext W W'):Cp w F ns nv tv W':=by
 have hs:=h.size
 exact ⟨hx.os.trans h.os,hx.tape.trans h.tape,hx.output.trans h.output,Nat.le_trans hs hx.size,fun b hb ho=>(hx.block b (by omega)).trans (h.block b hb ho),(hx.block _ (by omega)).trans h.b1,(hx.block _ (by omega)).trans h.b2,
  h.own.mono (fun b hb hF=>⟨hF,hx.block b hb⟩) (fun b hb=>hx.block b (h.own.lt hb))⟩
theorem Cp.set0 {w:World} {F:Nat→Prop} {ns:List Nd} {g n cap:Nat} {tv:Value} {W:World} (h:Cp w F ns (.slice (some ⟨g,0,none⟩) n cap) tv W) (hg:g < w.heap.size) {i:Nat} (hi:i < ns.length) {v:Value} (h1:v.oneCell'=true) (hv:Rel W (CF w F (.slice (some ⟨g,0,none⟩) n cap)) ns[i].names v) :
  Cp w F ns (.slice (some ⟨g,0,none⟩) n cap) tv (W.setCell ⟨g,i * 9+3+1,none⟩ v):=by
 have hs:Cp w F ns (.slice (some ⟨g,0,none⟩) n cap) tv (W.setCell ⟨g,i * 9+4,none⟩ v):=by
  refine ⟨h.os,h.tape,h.output,by rw [set_size];exact h.size,fun b hb ho=>(set_other (fun e=>ho (by rw [e];rfl))).trans (h.block b hb ho),(set_other (show w.heap.size≠g by omega)).trans h.b1,(set_other (show w.heap.size+1≠g by omega)).trans h.b2,?_⟩
  have hl:i < (ns.map Nd.av).length:=by rw [List.length_map];exact hi
  exact own_set h.own hl (by decide) h1 (by rw [nd_get hi,nc4];exact hv) (fun hF=>hF.2.1 rfl)
 exact hs
theorem Cp.set {w:World} {F:Nat→Prop} {ns:List Nd} {g n cap:Nat} {tv:Value} {W:World} (h:Cp w F ns (.slice (some ⟨g,0,none⟩) n cap) tv W) (hg:g < w.heap.size) {i:Nat} (hi:i < ns.length) {v:Value} (h1:v.oneCell'=true) (hv:Rel W (CF w F (.slice (some ⟨g,0,none⟩) n cap)) ns[i].names v) :
  Cp w F ns (.slice (some ⟨g,0,none⟩) n cap) tv (W.setCell ⟨g,i * 9+3+1,none⟩ v).drew:=(h.set0 hg hi h1 hv).ext (Ext.drew _ _)
structure Cp0 (w:World) (F:Nat→Prop) (ns:List Nd) (nv:Value) (W:World):Prop where
 os:W.os=w.os
 tape:W.tape=w.tape
 output:W.output=w.output
 size:w.heap.size≤W.heap.size
 block:∀ b,b < w.heap.size→nv.ownBlock≠some b→W.heap[b]?=w.heap[b]?
 own:OwnOk W (CF w F nv) 61 9 (ns.map Nd.av) nv
theorem Cp.fin {w:World} {F:Nat→Prop} {ns:List Nd} {nv tv:Value} {W:World} (h:Cp w F ns nv tv W) (hg:∀ g,nv.ownBlock=some g→g < w.heap.size) (x y:Value):Cp0 w F ns nv ((W.setCell ⟨w.heap.size+1,0,none⟩ x).setCell ⟨w.heap.size+1,1,none⟩ y):=by
 have same:∀ b,b≠w.heap.size+1→((W.setCell ⟨w.heap.size+1,0,none⟩ x).setCell ⟨w.heap.size+1,1,none⟩ y).heap[b]?=W.heap[b]?:=fun b hb=>(set_other hb).trans (set_other hb)
 refine ⟨h.os,h.tape,h.output,by rw [set_size,set_size];have:=h.size;omega,fun b hb ho=>(same b (by omega)).trans (h.block b hb ho),h.own.mono (fun b _ hF=>⟨hF,same b hF.2.2.2⟩) (fun b hb=>same b (by have:=hg b hb;omega))⟩
theorem results89 (T:Array Value) (W:World) (N:Nat) (x y:Value) (t2:T[2]?.getD undef=.pointer (some ⟨N,0,none⟩)) (h0:W.heap[N]?=some (.cells #[x,y] 50)) :
  (results Tryd.f89 T).run Tryd.prog W=.ok (.agg #[x,y]) W:=by
 have hr:Tryd.f89.results = #[.cell 2 50]:=by kernel_rfl
 have l1:(loadVar 50 ⟨N,0,none⟩).run Tryd.prog W=.ok (.agg #[x,y]) W:=by
  simp [loadVar,go_sem,(cell2 h0).1,(cell2 h0).2.1,Result.andThen]
 unfold results
 rw [hr]
 simp [t2,Sem.run_bind,asAddr,l1,Result.andThen]
theorem names_rel {W w7:World} {F F':Nat→Prop} {l:List AV} {base:Nat} {v':Value} (hx:Ext W w7) (hF:∀ b,b < W.heap.size→F b→F' b) (hb:∀ b,base≤b→F' b) {xs:List Value} (hl:xs.length=l.length) (h1:∀ v ∈ xs,v.oneCell'=true)
  (hr:∀ i j v,i < l.length→j < 1→xs[i * 1+j]?=some v→Rel W F ((l.getD i .un).cell j) v) (hown:w7.ownsRow base 9 1 v' l.length xs):Rel w7 F' (.ro 1 l) v':=by
 have ho:OwnOk w7 F' 9 1 l v':=⟨by decide,xs,row_base hown (Nat.zero_le _),h1,fun i j v hi hj hv=>(hr i j v hi hj hv).mono fun b hb' hf=>⟨hF b hb' hf,hx.block b hb'⟩⟩
 exact ho.rel (fun _ _ h=>h) (fun g hg=>hb g (hown.lt g hg).1)
set_option maxRecDepth 100000 in
set_option maxHeartbeats 4000000 in
theorem copied_in {w:World} {F:Nat→Prop} {ns:List Nd} {nv tv:Value} (hN:∀ n ∈ ns,NmOk2 n.names) (hl:ns.length≤100000) (hn:OwnOk w F 61 9 (ns.map Nd.av) nv) (hnF:∀ g,nv.ownBlock=some g→¬ F g∧g < w.heap.size) (htv:∃ (a:Option Addr) (m c:Nat),tv=.slice a m c) :
  CallsIn Fence.wide 8 Tryd.prog 89 #[.agg #[nv,tv]] w fun e w'=>e=.returned (.agg #[nv,tv])∧Cp0 w F ns nv w':=by
 obtain ⟨ta,tm,tc,rfl⟩:=htv
 have hown0:∀ g,nv.ownBlock=some g→g < w.heap.size:=fun g hg=>(hnF g hg).2
 have hlen:(ns.map Nd.av).length=ns.length:=List.length_map ..
 obtain ⟨ad,c,rfl⟩:∃ (ad:Option Addr) (c:Nat),nv=.slice ad ns.length c:=by
  obtain ⟨_,xs,⟨_,h2⟩,_⟩:=hn
  rw [hlen] at h2
  rcases h2 with ⟨rfl,h0⟩ | ⟨g,cap,cur,rfl,_⟩
  ·exact ⟨none,0,by rw [h0]⟩
  ·exact ⟨_,_,rfl⟩
 have h0:Cp w F ns (.slice ad ns.length c) (.slice ta tm tc) ((w.alloc (.cells #[.slice ad ns.length c, .slice ta tm tc] 50)).alloc (.cells #[.slice none 0 0, .slice none 0 0] 50)):=by
  have hx:Ext w ((w.alloc (.cells #[.slice ad ns.length c, .slice ta tm tc] 50)).alloc (.cells #[.slice none 0 0, .slice none 0 0] 50)):=(Ext.push w _).trans (Ext.push _ _)
  refine ⟨rfl,rfl,rfl,by simp,fun b hb _=>hx.block b hb,(al_old' (by simp)).trans (World.alloc_heap_new w _),al_new' (by simp),hn.mono (fun b hb hF=>⟨⟨fun _=>hF,fun e=>(hnF b e).1 hF,by omega,by omega⟩,hx.block b hb⟩) (fun b hb=>hx.block b (hn.lt hb))⟩
 refine callsIn_of_wp Tryd.func89 rfl trivial ?_ rfl
 simp only [Tryd.ntmps89,List.size_toArray,List.length_cons,List.length_nil,Nat.reduceAdd,Nat.reduceSub,Array.replicate_succ,Array.replicate_zero,List.push_toArray,List.append_toArray,List.nil_append,List.cons_append]
 gi_wp2
 gi_loopw [8] (fun vi wr=>∃ i:Nat,vi=.int .i64 (i:Int)∧i≤ns.length∧Cp w F ns (.slice ad ns.length c) (.slice ta tm tc) wr) (fun vi wr=>ns.length - (match vi with | .int _ a=>a.toNat | _=>0))
 case atStart=>exact ⟨0,rfl,Nat.zero_le _,h0⟩
 case round =>
  obtain ⟨i,rfl,hi,hcp⟩:=hrel
  obtain ⟨v1,v2,v3,v4⟩:=cell2 hcp.b1
  obtain ⟨v5,v6,v7,v8⟩:=cell2 hcp.b2
  by_cases hlt:i < ns.length
  ·have hg:∃ g,ad=some ⟨g,0,none⟩:=by
    obtain ⟨_,xs,⟨_,h2⟩,_⟩:=hcp.own
    rcases h2 with ⟨e,h0⟩ | ⟨g,cap,cur,e,_⟩
    ·rw [hlen] at h0;omega
    ·simp only [Value.slice.injEq] at e;exact ⟨g,e.1⟩
   obtain ⟨g,rfl⟩:=hg
   have hg0:g < w.heap.size:=hown0 g rfl
   obtain ⟨-,x,hx1,hx2⟩:=own_cells hcp.own (i:=i) (by rw [hlen];exact hlt)
   rw [nd_get hlt] at hx2
   obtain ⟨q,a4,a5,a6,m4,m5,m6,c4,c5,c6,g0,g1,g2,g3,g4,g5,g6,g7,g8⟩:=nd_vals hx2 (by cases ns[i].body <;> simp) (hN ns[i] (List.getElem_mem hlt))
   obtain ⟨y0,z0⟩:=hx1 0 (by decide)
   obtain ⟨y1,z1⟩:=hx1 1 (by decide)
   obtain ⟨y2,z2⟩:=hx1 2 (by decide)
   obtain ⟨y3,z3⟩:=hx1 3 (by decide)
   obtain ⟨y4,z4⟩:=hx1 4 (by decide)
   obtain ⟨y5,z5⟩:=hx1 5 (by decide)
   obtain ⟨y6,z6⟩:=hx1 6 (by decide)
   obtain ⟨y7,z7⟩:=hx1 7 (by decide)
   obtain ⟨y8,z8⟩:=hx1 8 (by decide)
   rw [g0] at y0;rw [g1] at y1;rw [g2] at y2;rw [g3] at y3;rw [g4] at y4;rw [g5] at y5;rw [g6] at y6;rw [g7] at y7;rw [g8] at y8
   rw [Nat.add_zero] at y0 z0
   have hr4:=hx2 4 (by decide)
   rw [nc4] at hr4
   have hNi:=hN ns[i] (List.getElem_mem hlt)
   clear hx1 hx2 h0 hn hnF hN hown0 g0 g1 g2 g3 g5 g6 g7 g8
   gi_wp2
   rw [wpIn_wide]
   have hb4:(wr.alloc (.cells #[.int .u8 (ns[i].kind.toNat:Int), .int .i64 (ns[i].at':Int), .string q, .bool ns[i].root, .slice a4 m4 c4, .slice a5 m5 c5, .slice a6 m6 c6, .bool ns[i].has, .int .u8 (ns[i].hole.toNat:Int)] 61)).heap[wr.heap.size]?=some (.cells #[.int .u8 (ns[i].kind.toNat:Int), .int .i64 (ns[i].at':Int), .string q, .bool ns[i].root, .slice a4 m4 c4, .slice a5 m5 c5, .slice a6 m6 c6, .bool ns[i].has, .int .u8 (ns[i].hole.toNat:Int)] 61):=World.alloc_heap_new wr _
   have hx5:Ext wr (wr.alloc (.cells #[.int .u8 (ns[i].kind.toNat:Int), .int .i64 (ns[i].at':Int), .string q, .bool ns[i].root, .slice a4 m4 c4, .slice a5 m5 c5, .slice a6 m6 c6, .bool ns[i].has, .int .u8 (ns[i].hole.toNat:Int)] 61)):=Ext.push wr _
   generalize wr.alloc (.cells #[.int .u8 (ns[i].kind.toNat:Int), .int .i64 (ns[i].at':Int), .string q, .bool ns[i].root, .slice a4 m4 c4, .slice a5 m5 c5, .slice a6 m6 c6, .bool ns[i].has, .int .u8 (ns[i].hole.toNat:Int)] 61)=W5 at hb4 hx5 ⊢
   have hcp5:=hcp.ext hx5
   have p1:=ext_cell hx5 v1
   have p4:W5.cell? ⟨wr.heap.size,4,none⟩=some (.slice a4 m4 c4):=by simp [World.cell?,hb4]
   have p5:=ext_cell hx5 y4
   have p6:W5.frozen? ⟨g,i * 9+4,none⟩=false:=by
    rw [← z4]
    exact World.frozen?_of_block (hx5.block g (cell_lt y4))
   clear v1 v2 v3 v4 v5 v6 v7 v8 y0 y1 y2 y3 y4 y5 y6 y7 y8 z0 z1 z2 z3 z4 z5 z6 z7 z8
   have hr5:Rel W5 (CF w F (.slice (some ⟨g,0,none⟩) ns.length c)) ns[i].names (.slice a4 m4 c4):=by rw [← g4];exact hr4.mono fun b hb hF=>⟨hF,hx5.block b hb⟩
   clear g4 hr4
   rcases hNi with hnm | ⟨nm0,nms,hnm,hnl⟩
   ·
    rw [hnm] at hr5
    cases hr5
    have hcp6:=hcp5.set hg0 hlt (v:=.slice none 0 0) rfl (by rw [hnm];exact .nils)
    generalize hW6:(W5.setCell ⟨g,i * 9+3+1,none⟩ (.slice none 0 0)).drew=W6 at hcp6
    go_region_law (fail)
    all_goals (try rw [hW6])
    all_goals (clear hcp hcp5 hx5 hW6 hg0 p1 p4 p5 p6 hb4;gi_wp2)
    all_goals exact ⟨⟨i+1,congrArg (Value.int .i64) (by omega),hlt,hcp6⟩,by show _ - Int.toNat _ < _ - Int.toNat _;omega⟩
   ·
    obtain ⟨i9,hi9,hz0,hz1,hz2⟩:=info_parts info9
    rw [hnm] at hr5
    generalize hll:(nm0 :: nms).map AV.s=ll at hr5
    have hlll:ll.length=nms.length+1:=by rw [← hll];simp
    cases hr5 with
    | ro0=>simp at hlll
    | ro _ _ r off _ xs hk hc hFr hxl hx h1 hrr =>
     rw [hlll] at hxl
     have hxc:∀ j u,xs[j]?=some u→W5.cell? ((⟨r,off,none⟩:Addr).add j)=some u:=fun j u hu=>by
      have hadd:(⟨r,off,none⟩:Addr).add j=⟨r,off+j,none⟩:=by unfold Addr.add;split <;> simp_all
      rw [hadd];exact hx j u hu
     have hfr7:∀ b,b < W5.heap.size→CF w F (.slice (some ⟨g,0,none⟩) ns.length c) b→CF w F (.slice (some ⟨g,0,none⟩) ns.length c) b:=fun _ _ h=>h
     have hnew7:∀ b,W5.heap.size≤b→CF w F (.slice (some ⟨g,0,none⟩) ns.length c) b:=fun b hb=>by
      have:=hcp5.size
      refine ⟨fun h=>by omega,fun e=>?_,by omega,by omega⟩
      simp only [Value.ownBlock,Option.some.injEq] at e
      omega
     go_region_law (refine step_append_grows rfl (.const (.slice none 0 0)) (.tmp 18) 32 rfl 9 i9 (.string ⟨#[]⟩) 1 16 Tryd.underlying32 hi9 hz0 hz1 hz2 rfl (by decide) none 0 0 [] rfl (fun _=>⟨rfl,rfl⟩) rfl (fun b h=>by cases h) ⟨r,off,none⟩ (nms.length+1) c4 xs rfl hxl hxc h1 (by omega) (by have:Go.maxLen=9223372036854775807:=rfl;omega) (by omega) ?_;intro v' w7 hown7 hgrow7;obtain ⟨ad7,m7,c7,rfl⟩:=row_shape hown7;have hx7:Ext W5 w7:=⟨hgrow7.os,hgrow7.tape,hgrow7.output,hgrow7.size,fun b hb=>hgrow7.block b hb (by simp)⟩;have p1:=ext_cell hx7 p1;have p5:=ext_cell hx7 p5;have p6:w7.frozen? ⟨g,i * 9+4,none⟩=false:=(World.frozen?_of_block (hx7.block g (hcp5.own.lt rfl))).trans p6;have hcp7:=(hcp5.ext hx7).set0 hg0 hlt (v:=.slice ad7 m7 c7) rfl (by rw [hnm,hll];exact names_rel hx7 hfr7 hnew7 (by rw [hxl,hlll];omega) h1 hrr (by rw [hlll];simpa using hown7)))
     all_goals (try generalize w7.setCell ⟨g,i * 9+3+1,none⟩ (.slice ad7 m7 c7)=W6 at hcp7 ⊢)
     all_goals (clear hcp hcp5 hx5 hg0 p1 p4 p5 p6 hb4 hx7 hgrow7 hown7 hxc hx hfr7 hnew7 hrr;gi_wp2)
     all_goals exact ⟨⟨i+1,congrArg (Value.int .i64) (by omega),hlt,hcp7⟩,by show _ - Int.toNat _ < _ - Int.toNat _;omega⟩
  ·have hfin:=hcp.fin hown0 (.slice ad ns.length c) (.slice ta tm tc)
   have hb2:=set_both (.slice ad ns.length c) (.slice ta tm tc) hcp.b2
   clear h0 hn hnF hN hown0
   gi_wp2
   refine bodyPost_ret (results89 _ _ (w.heap.size+1) (.slice ad ns.length c) (.slice ta tm tc) rfl hb2) rfl ?_
   exact ⟨rfl,hfin⟩
end R3

namespace R3
open Go Go.Proofs Go.RowKit Go.Shelf Sx
variable {mx:Int}
theorem wayN_ok2 (l:List UInt8):NmOk2 (wayN l):=by
 unfold wayN
 split
 ·exact Or.inl rfl
 ·split
  ·exact Or.inl rfl
  ·generalize (if dollar l then l.drop 2 else l)=q
   split
   ·rename_i h
    obtain ⟨x,t,e⟩:=splitL_cons q
    simp only [Bool.and_eq_true,decide_eq_true_eq] at h
    rw [e] at h ⊢
    exact Or.inr ⟨x,t,rfl,by have:=h.2;simp only [List.length_cons] at this;omega⟩
   ·exact Or.inl rfl
theorem actW_nm2 (l:List UInt8):NmOk2 (actW l).names:=by
 unfold actW actT
 repeat' split
 all_goals first
  | exact Or.inl rfl
  | exact wayN_ok2 _
theorem wordsF_nm2:∀ (n:Nat) (r:List UInt8) (a:Nat) (acc:List Wd),(∀ w ∈ acc,NmOk2 w.names)→∀ w ∈ (wordsF n r a acc).1,NmOk2 w.names
 | 0,r,a,acc,h=>h
 | n+1,r,a,acc,h=>by
  rw [wordsF]
  split
  ·exact h
  ·split
   ·refine wordsF_nm2 n _ _ _ fun w hw=>?_
    rcases List.mem_append.1 hw with hw | hw
    ·exact h w hw
    ·obtain rfl:=List.mem_singleton.1 hw;exact Or.inl rfl
   ·split
    ·exact h
    ·split
     ·refine wordsF_nm2 n _ _ _ fun w hw=>?_
      rcases List.mem_append.1 hw with hw | hw
      ·exact h w hw
      ·obtain rfl:=List.mem_singleton.1 hw;exact actW_nm2 _
     ·exact h
def NmAll (p:Ps):Prop:=∀ n ∈ p.nodes,NmOk2 n.names
theorem modNd_nm {l:List Nd} {i:Nat} {f:Nd→Nd} (hf:∀ x,(f x).names=x.names) (h:∀ n ∈ l,NmOk2 n.names):∀ n ∈ modNd l i f,NmOk2 n.names:=by
 intro n hn
 unfold modNd at hn
 obtain ⟨j,hj,rfl⟩:=List.mem_iff_getElem.1 hn
 rw [List.getElem_modify]
 split
 ·rw [hf];exact h _ (List.getElem_mem _)
 ·exact h _ (List.getElem_mem _)
theorem parse_nm {ws:List Wd} (hw:∀ w ∈ ws,NmOk2 w.names):∀ n,
  (∀ d p out r q,pList ws n d p out=some (r,q)→NmAll p→NmAll q)∧(∀ d w p r q,pNode ws n d w p=some (r,q)→NmOk2 w.names→NmAll p→NmAll q)∧(∀ d i w p r q,pBody ws n d i w p=some (r,q)→NmAll p→NmAll q)
 | 0=>⟨fun d p out r q h=>by simp [pList] at h,fun d w p r q h=>by simp [pNode] at h,fun d i w p r q h=>by simp [pBody] at h⟩
 | n+1=>by
  obtain ⟨hL,hN,hB⟩:=parse_nm hw n
  refine ⟨fun d p out r q h hp=>?_,fun d w p r q h hwn hp=>?_,fun d i w p r q h hp=>?_⟩
  ·unfold pList at h
   split at h
   ·cases h;exact hp
   ·rename_i w hws
    split at h
    ·cases h;exact hp
    ·split at h
     ·cases h
     ·rename_i e;cases h;exact hN _ _ _ _ _ e (hw w (List.mem_of_getElem? hws)) hp
     ·rename_i i q1 e
      exact hL _ _ _ _ _ h (hN _ _ _ _ _ e (hw w (List.mem_of_getElem? hws)) hp)
  ·unfold pNode at h
   simp only at h
   have h0:NmAll { p with nodes:=p.nodes ++ [newNd w] }:=fun x hx=>by
    rcases List.mem_append.1 hx with hx | hx
    ·exact hp x hx
    ·obtain rfl:=List.mem_singleton.1 hx;exact hwn
   split at h
   ·split at h
    ·cases h;exact h0
    ·split at h
     ·cases h
     ·rename_i e;cases h;exact hB _ _ _ _ _ _ e h0
     ·rename_i e;cases h;exact modNd_nm (fun _=>rfl) (hB _ _ _ _ _ _ e h0)
   ·cases h;exact modNd_nm (fun _=>rfl) h0
  ·unfold pBody at h
   split at h
   ·cases h
   ·rename_i e;cases h;exact hL _ _ _ _ _ e hp
   ·rename_i body q1 e
    have h1:=hL _ _ _ _ _ e hp
    have h2:NmAll { q1 with nodes:=modNd q1.nodes i fun x=>{ x with body:=some body } }:=modNd_nm (fun _=>rfl) h1
    simp only at h
    split at h
    ·cases h;exact h2
    ·split at h
     ·split at h
      ·cases h;exact h2
      ·split at h
       ·cases h
       ·rename_i e2;cases h;exact hL _ _ _ _ _ e2 h2
       ·rename_i els r1 e2
        have h3:=hL _ _ _ _ _ e2 h2
        have h4:NmAll { r1 with nodes:=modNd r1.nodes i fun x=>{ x with els:=some els,has:=true } }:=modNd_nm (fun _=>rfl) h3
        split at h
        ·cases h;exact h4
        ·split at h <;> (cases h;exact h4)
     ·cases h;exact h2
inductive Tr where
 | ok (nodes:List Nd) (top:List Nat)
 | bad (at' e:Nat)
def treeR (ws:List Wd):Pr (List Nat)×Ps→Tr
 | (.bad a e,_)=>.bad a e
 | (.ok top,q)=>match ws[q.at']? with
  | some v=>.bad v.at' 4
  | none=>.ok q.nodes top
theorem ptr_rel {w:World} {F:Nat→Prop} {a e:Int} {v:Value} (h:Rel w F (.pt [.int a, .int e]) v):∃ r:Nat,v=.pointer (some ⟨r,0,none⟩)∧F r∧w.cell? ⟨r,0,none⟩=some (.int .i64 a)∧w.cell? ⟨r,1,none⟩=some (.int .i64 e):=by
 cases h with
 | pt _ r xs h0 hF hl hx h1 hr =>
  match xs,hl,hx,hr with
  | [x,y],_,hx,hr =>
   have r0:=hr 0 x rfl
   have r1:=hr 1 y rfl
   simp only [List.getD_cons_zero,List.getD_cons_succ] at r0 r1
   cases r0;cases r1
   exact ⟨r,rfl,hF,hx 0 _ rfl,hx 1 _ rfl⟩
theorem pair_rel {w:World} {F:Nat→Prop} {a b:AV} {v:Value} (h:Rel w F (.tu [a,b]) v):∃ x y,v=.tuple #[x,y]∧Rel w F a x∧Rel w F b y:=by
 cases h with
 | tu _ vs hl hj =>
  match vs,hl,hj with
  | [v0,v1],_,hj =>
   have h0:=hj 0 v0 rfl
   have h1:=hj 1 v1 rfl
   simp only [List.getD_cons_zero,List.getD_cons_succ] at h0 h1
   exact ⟨v0,v1,rfl,h0,h1⟩
end R3

namespace R3
open Go Go.Proofs Go.RowKit Go.Shelf Sx
variable {mx:Int}
theorem cell4 {W:World} {b:Nat} {x0 x1 x2 x3:Value} {t:TypeId} (h:W.heap[b]?=some (.cells #[x0,x1,x2,x3] t)):(W.cell? ⟨b,0,none⟩=some x0∧W.cell? ⟨b,1,none⟩=some x1∧W.cell? ⟨b,2,none⟩=some x2∧W.cell? ⟨b,3,none⟩=some x3) ∧
  W.frozen? ⟨b,0,none⟩=false∧W.frozen? ⟨b,1,none⟩=false∧W.frozen? ⟨b,2,none⟩=false∧W.frozen? ⟨b,3,none⟩=false:=by
 simp [World.cell?,World.frozen?,h]
theorem results62 (T:Array Value) (W:World) (N:Nat) (x y a b:Value) (t2:T[2]?.getD undef=.pointer (some ⟨N,0,none⟩)) (t3:T[3]?.getD undef=a) (t4:T[4]?.getD undef=b) (h0:W.heap[N]?=some (.cells #[x,y] 50)) :
  (results Tryd.f62 T).run Tryd.prog W=.ok (.tuple #[.agg #[x,y],a,b]) W:=by
 have hr:Tryd.f62.results = #[.cell 2 50, .tmp 3, .tmp 4]:=by kernel_rfl
 have l1:(loadVar 50 ⟨N,0,none⟩).run Tryd.prog W=.ok (.agg #[x,y]) W:=by
  simp [loadVar,go_sem,(cell2 h0).1,(cell2 h0).2.1,Result.andThen]
 unfold results
 rw [hr]
 simp [t2,t3,t4,Sem.run_bind,asAddr,l1,Result.andThen]
def TF (w:World) (F:Nat→Prop) (b:Nat):Prop:=b < w.heap.size+2→F b∧b < w.heap.size
structure TreeMem (w:World) (F:Nat→Prop) (ws:List Wd) (q:Ps) (wv x0 x2:Value) (w2:World):Prop where
 ext:Ext w w2
 a:w2.heap[w.heap.size]?=some (.cells #[.slice none 0 0, .slice none 0 0] 50)
 p:∃ e',w2.heap[w.heap.size+1]?=some (.cells #[x0, .int .i64 (q.at':Int),x2, .slice none 0 0] e' (0,0))
 size:w.heap.size+2≤w2.heap.size
 sx0:∃ (ad:Option Addr) (c:Nat),x0=.slice ad ws.length c
 sx2:∃ (ad:Option Addr) (n c:Nat),x2=.slice ad n c
 own:OwnOk w2 (readF w2 (TF w F) (w.heap.size+1) x2 x2) 61 9 (q.nodes.map Nd.av) x2
 fresh:∀ g,x2.ownBlock=some g→w.heap.size+2≤g∧g < w2.heap.size
theorem tree_list {w:World} {F:Nat→Prop} {ws:List Wd} {wv:Value} (hG:GlobOk (C mx) w F) (hw:Rel w F (.ro 5 (ws.map Wd.av)) wv) (h1:wv.oneCell'=true) (hws:ws.length≤100000) {n:Nat} {r:Pr (List Nat)} {q:Ps} (hp:pList ws n 0 ⟨0,[]⟩ []=some (r,q)) :
  Calls Tryd.prog 88 #[.pointer (some ⟨w.heap.size+1,0,none⟩), .int .i64 0] ((w.alloc (.cells #[.slice none 0 0, .slice none 0 0] 50)).alloc (.cells #[wv, .int .i64 0, .slice none 0 0, .slice none 0 0] 146)) fun e w2 =>
   ∃ v x0 x2,e=.returned v∧TreeMem w F ws q wv x0 x2 w2∧Rel w2 (readF w2 (TF w F) (w.heap.size+1) x2 x2) (listAV r) v:=by
 have hx:Ext w ((w.alloc (.cells #[.slice none 0 0, .slice none 0 0] 50)).alloc (.cells #[wv, .int .i64 0, .slice none 0 0, .slice none 0 0] 146)):=(Ext.push w _).trans (Ext.push _ _)
 have hP:((w.alloc (.cells #[.slice none 0 0, .slice none 0 0] 50)).alloc (.cells #[wv, .int .i64 0, .slice none 0 0, .slice none 0 0] 146)).heap[w.heap.size+1]?=some (.cells #[wv, .int .i64 0, .slice none 0 0, .slice none 0 0] 146):=al_new' (by simp)
 have hA:((w.alloc (.cells #[.slice none 0 0, .slice none 0 0] 50)).alloc (.cells #[wv, .int .i64 0, .slice none 0 0, .slice none 0 0] 146)).heap[w.heap.size]?=some (.cells #[.slice none 0 0, .slice none 0 0] 50):=(al_old' (by simp)).trans (World.alloc_heap_new w _)
 have hsz:((w.alloc (.cells #[.slice none 0 0, .slice none 0 0] 50)).alloc (.cells #[wv, .int .i64 0, .slice none 0 0, .slice none 0 0] 146)).heap.size=w.heap.size+2:=by simp
 generalize (w.alloc (.cells #[.slice none 0 0, .slice none 0 0] 50)).alloc (.cells #[wv, .int .i64 0, .slice none 0 0, .slice none 0 0] 146)=W1 at *
 obtain ⟨hL,_,_⟩:=parse_all (mx:=mx) hws n
 obtain ⟨hc,hok,_⟩:=s88_of (mx:=mx) hL hp (by omega) (Nat.zero_le _) (Nat.zero_le _)
 have hG1:GlobOk (C mx) W1 (fun b=>F b∧b < w.heap.size):=fun g k e hg=>by
  obtain ⟨b',o,q1,q2,q3,q4⟩:=hG g k e hg
  refine ⟨b',o,q1,⟨q2,q3⟩,Nat.lt_of_lt_of_le q3 hx.size,fun j hj=>?_⟩
  obtain ⟨v,p1,p2,p3⟩:=q4 j hj
  exact ⟨v,(World.cell?_of_block (hx.block _ q3)).trans p1,p2,p3.mono fun b hb hF=>⟨⟨hF,hb⟩,hx.block b hb⟩⟩
 have key:=list_calls (mx:=mx) (w:=W1) (F:=fun b=>F b∧b < w.heap.size) hG1 (Pb:=w.heap.size+1) (e:=146) (wv:=wv) (tv:=.slice none 0 0) (nv:=.slice none 0 0) (at':=0) (d:=0) (words:=.ro 5 (ws.map Wd.av)) (top:=.nils) (nodes:=[]) hP (by omega)
  (fun g hg=>by simp [Value.ownBlock] at hg) h1 (hw.mono fun b hb hF=>⟨⟨hF,hb⟩,hx.block b hb⟩) rfl .nils ⟨by decide,[],World.ownsRow_nil _ _ _ _,by simp,fun i j v hi=>by simp at hi⟩ hc
 refine Calls.mono key fun e w2 h=>?_
 obtain ⟨v,x0,x1,x2,x3,e',rfl,hb2,hP2,hrv,hr0,hr1,hown2,⟨h31,hr3⟩,hog⟩:=h
 have e1:x1=.int .i64 (q.at':Int):=by cases hr1;rfl
 have e3:x3=.slice none 0 0:=by cases hr3;rfl
 subst e1 e3
 obtain ⟨ad0,c0,e0,_⟩:=rel_ro_shape hr0
 rw [List.length_map] at e0
 have hF:∀ b,readF W1 (fun b=>F b∧b < w.heap.size) (w.heap.size+1) (.slice none 0 0) x2 b→readF w2 (TF w F) (w.heap.size+1) x2 x2 b:=fun b hb =>
  ⟨fun _=>.inl fun hlt=>((hb.1 (by omega)).elim (fun h=>h) fun h=>by simp [Value.ownBlock] at h),hb.2.1,hb.2.2⟩
 have hs2:w.heap.size+2≤w2.heap.size:=by have:=hb2.size;omega
 refine ⟨v,x0,x2,rfl,⟨?_,(hb2.block _ (by omega) (by omega) (by simp [Value.ownBlock])).trans hA,⟨e',hP2⟩,hs2,⟨ad0,c0,e0⟩,?_,hown2.mono (fun b _ h=>⟨hF b h,rfl⟩) (fun _ _=>rfl),fun g hg=>?_⟩,hrv.mono fun b _ h=>⟨hF b h,rfl⟩⟩
 ·exact ⟨hb2.os.trans hx.os,hb2.tape.trans hx.tape,hb2.output.trans hx.output,by omega,fun b hb=>(hb2.block b (by omega) (by omega) (by simp [Value.ownBlock])).trans (hx.block b hb)⟩
 ·obtain ⟨_,xs,hrow,_⟩:=hown2
  exact row_shape hrow
 ·obtain ⟨q1,_,q3⟩:=hog g hg
  rcases q1 with q1 | q1
  ·exact ⟨by omega,q3⟩
  ·simp [Value.ownBlock] at q1
end R3

namespace R3
open Go Go.Proofs Go.RowKit Go.Shelf Sx
variable {mx:Int}
theorem numsAV_len (l:List Nat):(numsAV l).length=l.length:=List.length_map ..
def TreePost (w:World) (F:Nat→Prop) (tr:Tr) (e:Ending) (w':World):Prop:=Ext w w'∧match tr with
 | .bad a er=>e=.returned (.tuple #[.agg #[.slice none 0 0, .slice none 0 0], .int .i64 (a:Int), .int .i64 (er:Int)])
 | .ok nodes top=>∃ (ad2:Option Addr) (n2 c2:Nat) (ad3:Option Addr) (c3:Nat),e=.returned (.tuple #[.agg #[.slice ad2 n2 c2, .slice ad3 top.length c3], .int .i64 0, .int .i64 0]) ∧
   OwnOk w' (fun b=>(b < w.heap.size→F b)∧(Value.slice ad2 n2 c2).ownBlock≠some b) 61 9 (nodes.map Nd.av) (.slice ad2 n2 c2)∧(∀ g,(Value.slice ad2 n2 c2).ownBlock=some g→w.heap.size≤g∧g < w'.heap.size) ∧
   Rel w' (fun b=>(b < w.heap.size→F b)∧(Value.slice ad2 n2 c2).ownBlock≠some b) (.ro 1 (numsAV top)) (.slice ad3 top.length c3)
theorem TreeMem.own3 {w:World} {F:Nat→Prop} {ws:List Wd} {q:Ps} {wv x0 x2:Value} {w2:World} (h:TreeMem w F ws q wv x0 x2 w2) (v:Value):OwnOk (w2.setCell ⟨w.heap.size+1,3,none⟩ v) (readF w2 (TF w F) (w.heap.size+1) x2 x2) 61 9 (q.nodes.map Nd.av) x2 :=
 h.own.mono (fun b _ hF=>⟨hF,set_other hF.2.1⟩) (fun b hb=>set_other (by have:=(h.fresh b hb).1;omega))
theorem TreeMem.nF {w:World} {F:Nat→Prop} {ws:List Wd} {q:Ps} {wv x0 x2:Value} {w2:World} (h:TreeMem w F ws q wv x0 x2 w2) (v:Value):∀ g,x2.ownBlock=some g→¬ readF w2 (TF w F) (w.heap.size+1) x2 x2 g∧g < (w2.setCell ⟨w.heap.size+1,3,none⟩ v).heap.size :=
 fun g hg=>⟨fun hF=>hF.2.2 hg,by rw [set_size];exact (h.fresh g hg).2⟩
theorem tree_fin {w:World} {F:Nat→Prop} {ws:List Wd} {q:Ps} {wv x0:Value} {w2 w4:World} {ad2 ad3:Option Addr} {n2 c2 c3:Nat} {top:List Nat} {v:Value} (h:TreeMem w F ws q wv x0 (.slice ad2 n2 c2) w2) (hsv:Rel w2 (readF w2 (TF w F) (w.heap.size+1) (.slice ad2 n2 c2) (.slice ad2 n2 c2)) (.ro 1 (numsAV top)) (.slice ad3 top.length c3))
  (hcp:Cp0 (w2.setCell ⟨w.heap.size+1,3,none⟩ v) (readF w2 (TF w F) (w.heap.size+1) (.slice ad2 n2 c2) (.slice ad2 n2 c2)) q.nodes (.slice ad2 n2 c2) w4) :
  w4.heap[w.heap.size]?=some (.cells #[.slice none 0 0, .slice none 0 0] 50)∧∀ x y,TreePost w F (.ok q.nodes top) (.returned (.tuple #[.agg #[.slice ad2 n2 c2, .slice ad3 top.length c3], .int .i64 0, .int .i64 0])) ((w4.setCell ⟨w.heap.size,0,none⟩ x).setCell ⟨w.heap.size,1,none⟩ y):=by
 have hs3:(w2.setCell ⟨w.heap.size+1,3,none⟩ v).heap.size=w2.heap.size:=set_size _ _ _
 have hs:=h.size
 have hbl:=hcp.block
 have hcs:=hcp.size
 rw [hs3] at hbl hcs
 have hown:∀ b,b < w.heap.size+2→(Value.slice ad2 n2 c2).ownBlock≠some b:=fun b hb e=>by have:=(h.fresh b e).1;omega
 have old:∀ b,b < w2.heap.size→b≠w.heap.size+1→(Value.slice ad2 n2 c2).ownBlock≠some b→w4.heap[b]?=w2.heap[b]?:=fun b hb hne ho=>(hbl b hb ho).trans (set_other hne)
 refine ⟨(old _ (by omega) (by omega) (hown _ (by omega))).trans h.a,fun x y=>?_⟩
 have same:∀ b,b≠w.heap.size→((w4.setCell ⟨w.heap.size,0,none⟩ x).setCell ⟨w.heap.size,1,none⟩ y).heap[b]?=w4.heap[b]?:=fun b hb=>(set_other hb).trans (set_other hb)
 have hsz:((w4.setCell ⟨w.heap.size,0,none⟩ x).setCell ⟨w.heap.size,1,none⟩ y).heap.size=w4.heap.size:=by rw [set_size,set_size]
 have fF:∀ b,CF (w2.setCell ⟨w.heap.size+1,3,none⟩ v) (readF w2 (TF w F) (w.heap.size+1) (.slice ad2 n2 c2) (.slice ad2 n2 c2)) (.slice ad2 n2 c2) b→((b < w.heap.size→F b)∧(Value.slice ad2 n2 c2).ownBlock≠some b):=fun b hb=>by
  refine ⟨fun hlt=>?_,hb.2.1⟩
  have h1:=hb.1 (by rw [hs3];omega)
  exact (h1.1 (by omega)).elim (fun h=>(h (by omega)).1) fun e=>absurd e hb.2.1
 have nA:∀ b,b < w2.heap.size→readF w2 (TF w F) (w.heap.size+1) (.slice ad2 n2 c2) (.slice ad2 n2 c2) b→b≠w.heap.size:=fun b hb hF e=>by
  rcases hF.1 hb with h | h
  ·have:=(h (by omega)).2;omega
  ·exact hF.2.2 h
 refine ⟨⟨hcp.os.trans h.ext.os,hcp.tape.trans h.ext.tape,hcp.output.trans h.ext.output,by rw [hsz];omega,fun b hb=>(same b (by omega)).trans ((old b (by omega) (by omega) (hown b (by omega))).trans (h.ext.block b hb))⟩,ad2,n2,c2,ad3,c3,rfl,?_,fun g hg=>?_,?_⟩
 ·refine hcp.own.mono (fun b hb hF=>⟨fF b hF,same b fun e=>nA b (by omega) (hF.1 (by rw [hs3];omega)) e⟩) (fun b hb=>same b (by have:=(h.fresh b hb).1;omega))
 ·have:=h.fresh g hg
  rw [hsz];omega
 ·refine hsv.mono fun b hb hF=>⟨⟨fun hlt=>(hF.1 hb).elim (fun h=>(h (by omega)).1) fun e=>absurd e hF.2.2,hF.2.2⟩,(same b (nA b hb hF)).trans (old b hb hF.2.1 hF.2.2)⟩
set_option maxRecDepth 100000 in
set_option maxHeartbeats 4000000 in
theorem tree_ok {w:World} {F:Nat→Prop} {ws:List Wd} {aw:Option Addr} {cw:Nat} (hG:GlobOk (C mx) w F) (hw:Rel w F (.ro 5 (ws.map Wd.av)) (.slice aw ws.length cw)) (hws:ws.length≤100000) (hnm:∀ x ∈ ws,NmOk2 x.names) {n:Nat} {top:List Nat} {q:Ps} (hp:pList ws n 0 ⟨0,[]⟩ []=some (.ok top,q)) (hq:ws[q.at']?=none) (hq2:q.nodes.length≤100000) :
  CallsIn Fence.wide 9 Tryd.prog 62 #[.slice aw ws.length cw] w (TreePost w F (.ok q.nodes top)):=by
 have hge:ws.length≤q.at':=List.getElem?_eq_none_iff.1 hq
 have hlist:=tree_list (mx:=mx) hG hw rfl hws hp
 have hqn:∀ x ∈ q.nodes,NmOk2 x.names:=(parse_nm hnm n).1 _ _ _ _ _ hp (fun x hx=>by simp at hx)
 clear hp hq hnm hG hw
 refine callsIn_of_wp Tryd.func62 rfl trivial ?_ rfl
 simp only [Tryd.ntmps62,List.size_toArray,List.length_cons,List.length_nil,Nat.reduceAdd,Nat.reduceSub,Array.replicate_succ,Array.replicate_zero,List.push_toArray,List.append_toArray,List.nil_append,List.cons_append]
 gi_wp2_with (first
  | (refine ⟨trivial,?_⟩;gi_at_call 88;refine (callsIn_wide.2 hlist).mono ?_;clear hlist;rintro e w2 ⟨v,x0,x2,rfl,htm,hrv⟩;obtain ⟨e',hP⟩:=htm.p;obtain ⟨ad0,c0,rfl⟩:=htm.sx0;obtain ⟨ad2,n2,c2,rfl⟩:=htm.sx2;obtain ⟨⟨p0,p1,p2,p3⟩,f0,f1,f2,f3⟩:=cell4 hP;obtain ⟨sv,pv,rfl,hsv,hpv⟩:=pair_rel (show Rel _ _ (.tu [.ro 1 (numsAV top), .nilp]) v from hrv);obtain ⟨ads,cs,rfl,_⟩:=rel_ro_shape hsv;cases hpv)
  | (refine ⟨trivial,?_⟩;gi_at_call 89;refine (copied_in hqn hq2 (htm.own3 _) (htm.nF _) ⟨_,_,_,rfl⟩).mono ?_;rintro e w4 ⟨rfl,hcp⟩;rw [numsAV_len] at hsv hcp;obtain ⟨hA4,hfin⟩:=tree_fin htm hsv hcp;obtain ⟨a0,a1,a2,a3⟩:=cell2 hA4))
 rw [numsAV_len]
 exact bodyPost_ret (results62 _ _ w.heap.size (.slice ad2 n2 c2) (.slice ads top.length cs) (.int .i64 0) (.int .i64 0) rfl rfl rfl (set_both _ _ hA4)) rfl (hfin _ _)
end R3

namespace R3
open Go Go.Proofs Go.RowKit Go.Shelf Sx
variable {mx:Int}
theorem ext_set2 {w W:World} (h:Ext w W) (x y:Value):Ext w ((W.setCell ⟨w.heap.size,0,none⟩ x).setCell ⟨w.heap.size,1,none⟩ y) :=
 ⟨h.os,h.tape,h.output,by rw [set_size,set_size];exact h.size,fun b hb=>(set_other (show b≠w.heap.size by omega)).trans ((set_other (show b≠w.heap.size by omega)).trans (h.block b hb))⟩
theorem ext_drew {w W:World} (h:Ext w W):Ext w W.drew:=h.trans (Ext.drew _ _)
set_option maxRecDepth 100000 in
set_option maxHeartbeats 4000000 in
theorem tree_bad1 {w:World} {F:Nat→Prop} {ws:List Wd} {aw:Option Addr} {cw:Nat} (hG:GlobOk (C mx) w F) (hw:Rel w F (.ro 5 (ws.map Wd.av)) (.slice aw ws.length cw)) (hws:ws.length≤100000) {n:Nat} {a er:Nat} {q:Ps} (hp:pList ws n 0 ⟨0,[]⟩ []=some (.bad a er,q)) :
  CallsIn Fence.wide 9 Tryd.prog 62 #[.slice aw ws.length cw] w (TreePost w F (.bad a er)):=by
 have hlist:=tree_list (mx:=mx) hG hw rfl hws hp
 clear hp hG hw
 refine callsIn_of_wp Tryd.func62 rfl trivial ?_ rfl
 simp only [Tryd.ntmps62,List.size_toArray,List.length_cons,List.length_nil,Nat.reduceAdd,Nat.reduceSub,Array.replicate_succ,Array.replicate_zero,List.push_toArray,List.append_toArray,List.nil_append,List.cons_append]
 gi_wp2_with (refine ⟨trivial,?_⟩;gi_at_call 88;refine (callsIn_wide.2 hlist).mono ?_;clear hlist;rintro e w2 ⟨v,x0,x2,rfl,htm,hrv⟩;obtain ⟨e',hP⟩:=htm.p;obtain ⟨ad0,c0,rfl⟩:=htm.sx0;obtain ⟨ad2,n2,c2,rfl⟩:=htm.sx2;obtain ⟨⟨p0,p1,p2,p3⟩,f0,f1,f2,f3⟩:=cell4 hP;obtain ⟨sv,pv,rfl,hsv,hpv⟩:=pair_rel (show Rel _ _ (.tu [.nils, .pt [.int (a:Int), .int (er:Int)]]) v from hrv);cases hsv;obtain ⟨rb,rfl,hFr,ha,he⟩:=ptr_rel hpv;obtain ⟨a0,a1,a2,a3⟩:=cell2 htm.a)
 have hrb:rb≠w.heap.size:=fun e=>by
  rcases hFr.1 (cell_lt ha) with h | h
  ·have:=(h (by omega)).2;omega
  ·exact hFr.2.2 h
 have hx2:=htm.ext
 have hA2:=htm.a
 clear hFr hpv hrv htm hP p0 p1 p2 p3 f0 f1 f2 f3
 rw [wpIn_wide]
 go_region_law (fail)
 all_goals gi_wp2
 all_goals first
  | exact bodyPost_ret (results62 _ _ w.heap.size (.slice none 0 0) (.slice none 0 0) (.int .i64 (a:Int)) (.int .i64 (er:Int)) rfl rfl rfl (set_both _ _ hA2)) rfl ⟨ext_set2 hx2 _ _,rfl⟩
  | exact bodyPost_ret (results62 _ _ w.heap.size (.slice none 0 0) (.slice none 0 0) (.int .i64 (a:Int)) (.int .i64 (er:Int)) rfl rfl rfl (set_both _ _ hA2)) rfl ⟨ext_drew (ext_set2 hx2 _ _),rfl⟩
end R3

namespace R3
open Go Go.Proofs Go.RowKit Go.Shelf Sx
variable {mx:Int}
theorem word_cell {w:World} {F:Nat→Prop} {ws:List Wd} {aw:Option Addr} {cw i:Nat} (hw:Rel w F (.ro 5 (ws.map Wd.av)) (.slice aw ws.length cw)) (hi:i < ws.length) :
  ∃ r off:Nat,aw=some ⟨r,off,none⟩∧w.cell? ⟨r,off+i * 5+1,none⟩=some (.int .i64 (ws[i].at':Int)):=by
 have key:∀ (l:List AV) (v:Value),Rel w F (.ro 5 l) v→∀ x,(l.getD i .un).cell 1=.int x→i < l.length→∃ r off c:Nat,v=.slice (some ⟨r,off,none⟩) l.length c∧w.cell? ⟨r,off+i * 5+1,none⟩=some (.int .i64 x):=by
  intro l v h x hx hi
  cases h with
  | ro0=>simp at hi
  | ro _ _ r off c xs hk hc hF hl hxx h1 hr =>
   have hj:i * 5+1 < xs.length:=by omega
   have h2:xs[i * 5+1]?=some xs[i * 5+1]:=List.getElem?_eq_getElem hj
   have h3:=hr i 1 _ hi (by decide) h2
   rw [hx] at h3
   have h4:=hxx _ _ h2
   generalize xs[i * 5+1]=y at h3 h4
   cases h3
   exact ⟨r,off,c,rfl,by rw [← h4,Nat.add_assoc]⟩
 obtain ⟨r,off,c,e,h⟩:=key _ _ hw (ws[i].at':Int) (by rw [List.getD_eq_getElem?_getD,List.getElem?_map,List.getElem?_eq_getElem hi];rfl) (by simpa using hi)
 rw [List.length_map] at e
 cases e
 exact ⟨r,off,rfl,h⟩
set_option maxRecDepth 100000 in
set_option maxHeartbeats 4000000 in
theorem tree_bad2 {w:World} {F:Nat→Prop} {ws:List Wd} {aw:Option Addr} {cw:Nat} (hG:GlobOk (C mx) w F) (hw:Rel w F (.ro 5 (ws.map Wd.av)) (.slice aw ws.length cw)) (hws:ws.length≤100000) {n:Nat} {top:List Nat} {q:Ps} (hp:pList ws n 0 ⟨0,[]⟩ []=some (.ok top,q)) (hq:q.at' < ws.length) :
  CallsIn Fence.wide 9 Tryd.prog 62 #[.slice aw ws.length cw] w (TreePost w F (.bad ws[q.at'].at' 4)):=by
 have hlist:=tree_list (mx:=mx) hG hw rfl hws hp
 obtain ⟨r,off,rfl,hc⟩:=word_cell hw hq
 generalize ws[q.at'].at'=a at hc ⊢
 have hrw:=cell_lt hc
 clear hp hG hw
 refine callsIn_of_wp Tryd.func62 rfl trivial ?_ rfl
 simp only [Tryd.ntmps62,List.size_toArray,List.length_cons,List.length_nil,Nat.reduceAdd,Nat.reduceSub,Array.replicate_succ,Array.replicate_zero,List.push_toArray,List.append_toArray,List.nil_append,List.cons_append]
 gi_wp2_with (refine ⟨trivial,?_⟩;gi_at_call 88;refine (callsIn_wide.2 hlist).mono ?_;clear hlist;rintro e w2 ⟨v,x0,x2,rfl,htm,hrv⟩;obtain ⟨e',hP⟩:=htm.p;obtain ⟨ad0,c0,rfl⟩:=htm.sx0;obtain ⟨ad2,n2,c2,rfl⟩:=htm.sx2;obtain ⟨⟨p0,p1,p2,p3⟩,f0,f1,f2,f3⟩:=cell4 hP;obtain ⟨sv,pv,rfl,hsv,hpv⟩:=pair_rel (show Rel _ _ (.tu [.ro 1 (numsAV top), .nilp]) v from hrv);obtain ⟨ads,cs,rfl,_⟩:=rel_ro_shape hsv;cases hpv;obtain ⟨a0,a1,a2,a3⟩:=cell2 htm.a;have hc2:=ext_cell htm.ext hc)
 have hx5:Ext w2 (w2.alloc (.cells #[.int .i64 (a:Int), .int .i64 4] 151)):=Ext.push w2 _
 have hb5:(w2.alloc (.cells #[.int .i64 (a:Int), .int .i64 4] 151)).heap[w2.heap.size]?=some (.cells #[.int .i64 (a:Int), .int .i64 4] 151):=World.alloc_heap_new w2 _
 generalize w2.alloc (.cells #[.int .i64 (a:Int), .int .i64 4] 151)=W5 at hx5 hb5 ⊢
 have hs2:=htm.size
 have hA5:W5.heap[w.heap.size]?=some (.cells #[.slice none 0 0, .slice none 0 0] 50):=(hx5.block _ (by omega)).trans htm.a
 have hxx:=htm.ext.trans hx5
 obtain ⟨⟨ha,he⟩,-,-⟩:(W5.cell? ⟨w2.heap.size,0,none⟩=some (.int .i64 (a:Int))∧W5.cell? ⟨w2.heap.size,1,none⟩=some (.int .i64 4))∧True∧True:=by
  obtain ⟨b0,b1,_⟩:=cell2 hb5
  exact ⟨⟨b0,b1⟩,trivial,trivial⟩
 obtain ⟨a0',a1',a2',a3'⟩:=cell2 hA5
 have hrb:w2.heap.size≠w.heap.size:=by omega
 clear hP htm p0 p1 p2 p3 f0 f1 f2 f3 a0 a1 a2 a3 hsv hc hc2
 rw [wpIn_wide]
 go_region_law (fail)
 all_goals gi_wp2
 all_goals first
  | exact bodyPost_ret (results62 _ _ w.heap.size (.slice none 0 0) (.slice none 0 0) (.int .i64 (a:Int)) (.int .i64 4) rfl rfl rfl (set_both _ _ hA5)) rfl ⟨ext_set2 hxx _ _,rfl⟩
  | exact bodyPost_ret (results62 _ _ w.heap.size (.slice none 0 0) (.slice none 0 0) (.int .i64 (a:Int)) (.int .i64 4) rfl rfl rfl (set_both _ _ hA5)) rfl ⟨ext_drew (ext_set2 hxx _ _),rfl⟩
end R3

namespace R3
open Go Go.Proofs Sx
variable {mx:Int}
theorem modNd_len (l:List Nd) (i:Nat) (f:Nd→Nd):(modNd l i f).length=l.length:=by simp [modNd]
theorem parse_tot (ws:List Wd):∀ n,
  (∀ d p out,p.at'≤ws.length→3 * (ws.length - p.at')+1≤n→∃ r q,pList ws n d p out=some (r,q)∧p.at'≤q.at'∧q.at'≤ws.length∧q.nodes.length+p.at'≤p.nodes.length+q.at') ∧
  (∀ d w p,p.at'≤ws.length→3 * (ws.length - p.at')+3≤n→∃ r q,pNode ws n d w p=some (r,q)∧p.at'≤q.at'∧q.at'≤ws.length∧q.nodes.length+p.at'≤p.nodes.length+1+q.at') ∧
  (∀ d i w p,p.at'≤ws.length→3 * (ws.length - p.at')+2≤n→∃ r q,pBody ws n d i w p=some (r,q)∧p.at'≤q.at'∧q.at'≤ws.length∧q.nodes.length+p.at'≤p.nodes.length+q.at')
 | 0=>⟨fun d p out _ h=>by omega,fun d w p _ h=>by omega,fun d i w p _ h=>by omega⟩
 | n+1=>by
  obtain ⟨hL,hN,hB⟩:=parse_tot ws n
  refine ⟨fun d p out hp hn=>?_,fun d w p hp hn=>?_,fun d i w p hp hn=>?_⟩
  ·unfold pList
   split
   ·exact ⟨_,_,rfl,by omega,hp,by omega⟩
   ·rename_i w hw
    have hlt:p.at' < ws.length:=(List.getElem?_eq_some_iff.1 hw).1
    split
    ·exact ⟨_,_,rfl,by omega,hp,by omega⟩
    ·obtain ⟨r,q,e,h1,h2,h3⟩:=hN d w { p with at':=p.at'+1 } hlt (by show 3 * (ws.length - (p.at'+1))+3≤n;omega)
     rw [e]
     simp only at h1 h2 h3
     cases r with
     | bad a er=>exact ⟨_,_,rfl,by omega,h2,by omega⟩
     | ok i =>
      obtain ⟨r',q',e',g1,g2,g3⟩:=hL d q (out ++ [i]) h2 (by omega)
      exact ⟨r',q',e',by omega,g2,by omega⟩
  ·unfold pNode
   simp only
   split
   ·split
    ·exact ⟨_,_,rfl,Nat.le_refl _,hp,by simp only [List.length_append,List.length_singleton];omega⟩
    ·obtain ⟨r,q,e,h1,h2,h3⟩:=hB d p.nodes.length w { p with nodes:=p.nodes ++ [newNd w] } hp (by show 3 * (ws.length - p.at')+2≤n;omega)
     rw [e]
     simp only [List.length_append,List.length_singleton] at h1 h2 h3
     cases r with
     | bad a er=>exact ⟨_,_,rfl,by omega,h2,by omega⟩
     | ok i=>exact ⟨_,_,rfl,h1,h2,by simp only [modNd_len];omega⟩
   ·exact ⟨_,_,rfl,Nat.le_refl _,hp,by simp only [modNd_len,List.length_append,List.length_singleton];omega⟩
  ·unfold pBody
   obtain ⟨r,q,e,h1,h2,h3⟩:=hL (d+1) p [] hp (by omega)
   rw [e]
   cases r with
   | bad a er=>exact ⟨_,_,rfl,h1,h2,h3⟩
   | ok body =>
    simp only
    split
    ·exact ⟨_,_,rfl,h1,h2,by simp only [modNd_len];omega⟩
    ·rename_i v hv
     have hlt:q.at' < ws.length:=(List.getElem?_eq_some_iff.1 hv).1
     split
     ·split
      ·exact ⟨_,_,rfl,h1,h2,by simp only [modNd_len];omega⟩
      ·obtain ⟨r',q',e',g1,g2,g3⟩:=hL (d+1) { at':=q.at'+1,nodes:=modNd q.nodes i fun x=>{ x with body:=some body } } [] hlt (by show 3 * (ws.length - (q.at'+1))+1≤n;omega)
       rw [e']
       simp only [modNd_len] at g1 g2 g3
       cases r' with
       | bad a er=>exact ⟨_,_,rfl,by omega,g2,by omega⟩
       | ok els =>
        simp only
        split
        ·exact ⟨_,_,rfl,by show p.at'≤q'.at';omega,g2,by show (modNd _ _ _).length+p.at'≤p.nodes.length+q'.at';rw [modNd_len];omega⟩
        ·rename_i u hu
         have hlu:q'.at' < ws.length:=(List.getElem?_eq_some_iff.1 hu).1
         split
         ·exact ⟨_,_,rfl,by show p.at'≤q'.at';omega,g2,by show (modNd _ _ _).length+p.at'≤p.nodes.length+q'.at';rw [modNd_len];omega⟩
         ·exact ⟨_,_,rfl,Nat.le_trans h1 (Nat.le_succ_of_le (Nat.le_trans (Nat.le_succ _) g1)),hlu,by simp only [modNd_len];omega⟩
     ·exact ⟨_,_,rfl,Nat.le_succ_of_le h1,hlt,by simp only [modNd_len];omega⟩
def treeOf (ws:List Wd):Tr:=match pList ws (3 * ws.length+1) 0 ⟨0,[]⟩ [] with
 | some x=>treeR ws x
 | none=>.bad 0 0
set_option maxRecDepth 10000 in
theorem tree_in {w:World} {F:Nat→Prop} {ws:List Wd} {aw:Option Addr} {cw:Nat} (hG:GlobOk (C mx) w F) (hw:Rel w F (.ro 5 (ws.map Wd.av)) (.slice aw ws.length cw)) (hws:ws.length≤100000) (hnm:∀ x ∈ ws,NmOk2 x.names) :
  CallsIn Fence.wide 9 Tryd.prog 62 #[.slice aw ws.length cw] w (TreePost w F (treeOf ws)):=by
 obtain ⟨r,q,e,h1,h2,h3⟩:=(parse_tot ws (3 * ws.length+1)).1 0 ⟨0,[]⟩ [] (Nat.zero_le _) (by simp)
 unfold treeOf
 rw [e]
 simp only [List.length_nil,Nat.zero_add,Nat.add_zero] at h3
 cases r with
 | bad a er=>exact tree_bad1 hG hw hws e
 | ok top =>
  simp only [treeR]
  split
  ·rename_i v hv
   obtain ⟨hlt,rfl⟩:=List.getElem?_eq_some_iff.1 hv
   exact tree_bad2 hG hw hws e hlt
  ·rename_i hv
   exact tree_ok hG hw hws hnm e hv (by omega)
end R3

namespace R3
open Go Go.Proofs Go.RowKit Go.Shelf Sx
variable {mx:Int}
theorem relt3 {w:World} {F:Nat→Prop} {a:AV} {p q:Int} {v:Value} (h:Rel w F (.tu [a, .int p, .int q]) v):∃ x,v=.tuple #[x, .int .i64 p, .int .i64 q]∧Rel w F a x:=by
 cases h with
 | tu _ vs hl hj =>
  match vs,hl,hj with
  | [v0,v1,v2],_,hj =>
   have h0:=hj 0 v0 rfl
   have h1:=hj 1 v1 rfl
   have h2:=hj 2 v2 rfl
   simp only [List.getD_cons_zero,List.getD_cons_succ] at h0 h1 h2
   cases h1;cases h2
   exact ⟨v0,rfl,h0⟩
theorem lexAll_calls (s:ByteArray) (W:World) (hm:W.cell? ⟨1,0,none⟩=some (.int .i64 mx)):Calls Tryd.prog 23 #[.string s] W fun e W'=>Ext W W'∧∃ v,e=.returned v∧Rel W' (fun b=>b < W.heap.size→b=1) (allAV s.data.toList) v:=by
 refine Calls.mono (calls_sem (fit mx) (c:=Tryd.f23.body.getD .skip) Tryd.func23 (by kernel_rfl) (s23 (mx:=mx) s.data.toList) (by kernel_rfl) W (fun b=>b=1) #[.string s] (globOk1 hm) rfl (arg1 (.s s))) fun e w' he=>?_
 obtain ⟨v,rfl,hx,hr⟩:=he
 unfold ResOk at hr
 rw [if_pos (by kernel_rfl)] at hr
 exact ⟨hx,v,rfl,hr⟩
theorem results35 (T:Array Value) (W:World) (N:Nat) (x y a b:Value) (t2:T[2]?.getD undef=.pointer (some ⟨N,0,none⟩)) (t3:T[3]?.getD undef=a) (t4:T[4]?.getD undef=b) (h0:W.heap[N]?=some (.cells #[x,y] 50)) :
  (results Tryd.f35 T).run Tryd.prog W=.ok (.tuple #[.agg #[x,y],a,b]) W:=by
 have hr:Tryd.f35.results = #[.cell 2 50, .tmp 3, .tmp 4]:=by kernel_rfl
 have l1:(loadVar 50 ⟨N,0,none⟩).run Tryd.prog W=.ok (.agg #[x,y]) W:=by
  simp [loadVar,go_sem,(cell2 h0).1,(cell2 h0).2.1,Result.andThen]
 unfold results
 rw [hr]
 simp [t2,t3,t4,Sem.run_bind,asAddr,l1,Result.andThen]
def parseT (l:List UInt8):Tr:=if l.length > 65536 then .bad 0 2 else if 0≤(wordsW l).2 then .bad (wordsW l).2.toNat 4 else treeOf (wordsW l).1
set_option maxRecDepth 100000 in
set_option maxHeartbeats 4000000 in
theorem parse_bad (s:ByteArray) (w:World) (hm:w.cell? ⟨1,0,none⟩=some (.int .i64 mx)) (a er:Nat) (he:0 < er) (hall:allAV s.data.toList=.tu [.nils, .int (a:Int), .int (er:Int)]) :
  CallsIn Fence.wide 10 Tryd.prog 35 #[.string s] w (TreePost w (fun b=>b=1) (.bad a er)):=by
 have hx1:Ext w (w.alloc (.cells #[.slice none 0 0, .slice none 0 0] 50)):=Ext.push w _
 have hlex:=lexAll_calls (mx:=mx) s (w.alloc (.cells #[.slice none 0 0, .slice none 0 0] 50)) (ext_cell hx1 hm)
 rw [hall] at hlex
 have h1:(decide (0=(er:Int)))=false:=by simp;omega
 have h2:(decide ((er:Int)=0))=false:=by simp;omega
 refine callsIn_of_wp Tryd.func35 rfl trivial ?_ rfl
 simp only [Tryd.ntmps35,List.size_toArray,List.length_cons,List.length_nil,Nat.reduceAdd,Nat.reduceSub,Array.replicate_succ,Array.replicate_zero,List.push_toArray,List.append_toArray,List.nil_append,List.cons_append]
 gi_wp2_with (refine ⟨trivial,?_⟩;gi_at_call 23;refine (callsIn_wide.2 hlex).mono ?_;clear hlex hall;rintro e w2 ⟨hx2,v,rfl,hrv⟩;obtain ⟨x,rfl,hx0⟩:=relt3 hrv;cases hx0;have hA2:=(hx2.block w.heap.size (by simp)).trans (World.alloc_heap_new w (.cells #[.slice none 0 0, .slice none 0 0] 50));have hx3:=hx1.trans hx2;obtain ⟨a0,a1,a2,a3⟩:=cell2 hA2)
 exact bodyPost_ret (results35 _ _ w.heap.size (.slice none 0 0) (.slice none 0 0) (.int .i64 (a:Int)) (.int .i64 (er:Int)) rfl rfl rfl (set_both _ _ hA2)) rfl ⟨ext_set2 hx3 _ _,rfl⟩
theorem globOkF {W:World} {m:Int} {F:Nat→Prop} (h:W.cell? ⟨1,0,none⟩=some (.int .i64 m)) (hF:F 1):GlobOk (C m) W F:=by
 intro g k e hg
 have hg:(bif Nat.beq g 1 then some (1,AV.int m) else none)=some (k,e):=hg
 cases h1:Nat.beq g 1 with
 | false=>rw [h1] at hg;cases hg
 | true =>
  rw [h1] at hg;cases hg
  obtain rfl:=Nat.eq_of_beq_eq_true h1
  refine ⟨1,0,rfl,hF,cell_lt h,fun j hj=>?_⟩
  obtain rfl:j=0:=by omega
  exact ⟨.int .i64 m,h,rfl,Rel.int m⟩
theorem TreePost.shape {w w':World} {F:Nat→Prop} {tr:Tr} {e:Ending} (h:TreePost w F tr e w'):Ext w w'∧∃ (p q:Option Addr) (m1 m2 c1 c2:Nat) (a er:Int),e=.returned (.tuple #[.agg #[.slice p m1 c1, .slice q m2 c2], .int .i64 a, .int .i64 er]):=by
 obtain ⟨h0,h⟩:=h
 cases tr with
 | bad a er=>exact ⟨h0,_,_,_,_,_,_,_,_,h⟩
 | ok nodes top =>
  obtain ⟨ad2,n2,c2,ad3,c3,he,_⟩:=h
  exact ⟨h0,_,_,_,_,_,_,_,_,he⟩
theorem TreePost.mono {w1 w2 w3 w4:World} {F F':Nat→Prop} {tr:Tr} {e:Ending} (h:TreePost w2 F tr e w3) (hx:Ext w1 w2) (hx4:Ext w1 w4) (hs:w4.heap.size=w3.heap.size) (hF:∀ b,b < w3.heap.size→(b < w2.heap.size→F b)→(b < w1.heap.size→F' b)) (hb:∀ b,b < w3.heap.size→(b < w2.heap.size→F b)→w4.heap[b]?=w3.heap[b]?) (hg:∀ b,w2.heap.size≤b→b < w3.heap.size→w4.heap[b]?=w3.heap[b]?):TreePost w1 F' tr e w4:=by
 obtain ⟨h0,h⟩:=h
 refine ⟨hx4,?_⟩
 cases tr with
 | bad a er=>exact h
 | ok nodes top =>
  obtain ⟨ad2,n2,c2,ad3,c3,he,hown,hfr,hr⟩:=h
  refine ⟨ad2,n2,c2,ad3,c3,he,hown.mono (fun b hlt hf=>⟨⟨hF b hlt hf.1,hf.2⟩,hb b hlt hf.1⟩) (fun b hb'=>hg b (hfr b hb').1 (hfr b hb').2),fun g hg'=>?_,hr.mono fun b hlt hf=>⟨⟨hF b hlt hf.1,hf.2⟩,hb b hlt hf.1⟩⟩
  have:=hfr g hg'
  have:=hx.size
  omega
set_option maxRecDepth 100000 in
set_option maxHeartbeats 4000000 in
theorem parse_ok (s:ByteArray) (w:World) (hm:w.cell? ⟨1,0,none⟩=some (.int .i64 mx)) (ws:List Wd) (hws:ws.length≤100000) (hnm:∀ x ∈ ws,NmOk2 x.names) (hall:allAV s.data.toList=.tu [.ro 5 (ws.map Wd.av), .int 0, .int 0]) :
  CallsIn Fence.wide 10 Tryd.prog 35 #[.string s] w (TreePost w (fun b=>b=1) (treeOf ws)):=by
 have hx1:Ext w (w.alloc (.cells #[.slice none 0 0, .slice none 0 0] 50)):=Ext.push w _
 have hlex:=lexAll_calls (mx:=mx) s (w.alloc (.cells #[.slice none 0 0, .slice none 0 0] 50)) (ext_cell hx1 hm)
 rw [hall] at hlex
 have hlt1:=cell_lt hm
 refine callsIn_of_wp Tryd.func35 rfl trivial ?_ rfl
 simp only [Tryd.ntmps35,List.size_toArray,List.length_cons,List.length_nil,Nat.reduceAdd,Nat.reduceSub,Array.replicate_succ,Array.replicate_zero,List.push_toArray,List.append_toArray,List.nil_append,List.cons_append]
 gi_wp2_with (first
  | (refine ⟨trivial,?_⟩;gi_at_call 23;refine (callsIn_wide.2 hlex).mono ?_;clear hlex hall;rintro e w2 ⟨hx2,v,rfl,hrv⟩;obtain ⟨x,rfl,hx0⟩:=relt3 hrv;obtain ⟨ad,c,rfl,hc⟩:=rel_ro_shape hx0;rw [List.length_map] at hx0;have hA2:=(hx2.block w.heap.size (by simp)).trans (World.alloc_heap_new w (.cells #[.slice none 0 0, .slice none 0 0] 50));have hx3:=hx1.trans hx2;have hlen:(ws.map Wd.av).length=ws.length:=List.length_map ..;rw [hlen];clear hlen hrv hc)
  | (refine ⟨trivial,?_⟩;gi_at_call 62;refine (tree_in (mx:=mx) (globOkF (ext_cell hx3 hm) (fun _=>rfl)) hx0 hws hnm).mono ?_;rintro e w3 htp;obtain ⟨hx4,p,q,m1,m2,c1,c2,a,er,rfl⟩:=htp.shape;have hs2:=hx2.size;have hA4:=(hx4.block w.heap.size (by simp at hs2;omega)).trans hA2;obtain ⟨a0,a1,a2,a3⟩:=cell2 hA4;clear hx0))
 refine bodyPost_ret (results35 _ _ w.heap.size (.slice p m1 c1) (.slice q m2 c2) (.int .i64 a) (.int .i64 er) rfl rfl rfl (set_both _ _ hA4)) rfl ?_
 have hsz:∀ o,(w.alloc o).heap.size=w.heap.size+1:=fun o=>by simp
 rw [hsz] at hs2
 refine htp.mono hx3 (ext_set2 (hx3.trans hx4) _ _) (by rw [set_size,set_size]) (fun b hlt hF hb=>hF (by omega) (by rw [hsz];omega)) (fun b hlt hF=>?_) (fun b h1 h2=>?_)
 ·have hne:b≠w.heap.size:=fun e=>by
   have:=hF (by omega) (by rw [hsz];omega)
   omega
  exact (set_other hne).trans (set_other hne)
 ·have hne:b≠w.heap.size:=by omega
  exact (set_other hne).trans (set_other hne)
theorem parse_in (s:ByteArray) (w:World) (hm:w.cell? ⟨1,0,none⟩=some (.int .i64 mx)):CallsIn Fence.wide 10 Tryd.prog 35 #[.string s] w (TreePost w (fun b=>b=1) (parseT s.data.toList)):=by
 unfold parseT
 by_cases h1:s.data.toList.length > 65536
 ·rw [if_pos h1]
  exact parse_bad (mx:=mx) s w hm 0 2 (by decide) (by unfold allAV;rw [if_pos h1];rfl)
 ·rw [if_neg h1]
  by_cases h2:0≤(wordsW s.data.toList).2
  ·rw [if_pos h2]
   exact parse_bad (mx:=mx) s w hm _ 4 (by decide) (by unfold allAV;rw [if_neg h1,if_pos h2,Int.toNat_of_nonneg h2];rfl)
  ·rw [if_neg h2]
   refine parse_ok (mx:=mx) s w hm _ ?_ ?_ (by unfold allAV;rw [if_neg h1,if_neg h2])
   ·have:=wordsF_len (s.data.toList.length+1) s.data.toList 0 []
    simp only [List.length_nil] at this
    unfold wordsW
    omega
   ·exact wordsF_nm2 _ _ _ _ fun w hw=>by simp at hw
end R3

namespace R3
open Go Go.Proofs Sx
def Nd.key (n:Nd):Nat×List UInt8:=(n.at',n.text)
def Wd.key (w:Wd):Nat×List UInt8:=(w.at',w.text)
end R3

namespace R3
open Go Go.Proofs Sx
def Asc (lo hi:Nat) (l:List Nat):Prop:=l.Pairwise (· < ·)∧∀ x ∈ l,lo≤x∧x < hi
def UpN (m hi:Nat) (x:Nd):Prop:=Asc (m+1) hi (x.body.getD [])∧Asc (m+1) hi (x.els.getD [])
def Up (m hi:Nat) (nn:List Nd):Prop:=∀ j x,nn[j]?=some x→UpN (m+j) hi x
theorem Asc.mono {lo hi lo' hi':Nat} {l:List Nat} (h:Asc lo hi l) (h1:lo'≤lo) (h2:hi≤hi'):Asc lo' hi' l:=⟨h.1,fun x hx=>by have:=h.2 x hx;omega⟩
theorem Asc.nil (lo hi:Nat):Asc lo hi []:=⟨List.Pairwise.nil,fun x hx=>by simp at hx⟩
theorem Up.mono {m hi hi':Nat} {nn:List Nd} (h:Up m hi nn) (h2:hi≤hi'):Up m hi' nn:=fun j x hx=>⟨(h j x hx).1.mono (Nat.le_refl _) h2,(h j x hx).2.mono (Nat.le_refl _) h2⟩
theorem Up.nil (m hi:Nat):Up m hi []:=fun j x hx=>by simp at hx
theorem Up.append {m hi:Nat} {a b:List Nd} (ha:Up m hi a) (hb:Up (m+a.length) hi b):Up m hi (a ++ b):=fun j x hx=>by
 by_cases h:j < a.length
 ·rw [List.getElem?_append_left h] at hx;exact ha j x hx
 ·rw [List.getElem?_append_right (by omega)] at hx
  have:=hb _ x hx
  rwa [show m+a.length+(j - a.length)=m+j by omega] at this
theorem Up.one {m hi:Nat} {x:Nd} (h:UpN m hi x):Up m hi [x]:=fun j y hy=>by
 match j,hy with
 | 0,hy=>cases hy;exact h
 | j+1,hy=>simp at hy
theorem modNd_at {a b:List Nd} {x:Nd} {f:Nd→Nd} {i:Nat} (hi:i=a.length):modNd (a ++ x :: b) i f=a ++ f x :: b:=by
 subst hi
 unfold modNd
 induction a with
 | nil=>rfl
 | cons y a ih=>simp only [List.length_cons,List.cons_append,List.modify_succ_cons];rw [ih]
theorem parse_er (ws:List Wd):∀ n,
  (∀ d p out a e q,pList ws n d p out=some (.bad a e,q)→e=3∨e=4)∧(∀ d w p a e q,pNode ws n d w p=some (.bad a e,q)→e=3∨e=4)∧(∀ d i w p a e q,pBody ws n d i w p=some (.bad a e,q)→e=3∨e=4)
 | 0=>⟨fun d p out x e q h=>by simp [pList] at h,fun d w p x e q h=>by simp [pNode] at h,fun d i w p x e q h=>by simp [pBody] at h⟩
 | n+1=>by
  obtain ⟨hL,hN,hB⟩:=parse_er ws n
  refine ⟨fun d p out x e q h=>?_,fun d w p x e q h=>?_,fun d i w p x e q h=>?_⟩
  ·unfold pList at h
   split at h
   ·cases h
   ·split at h
    ·cases h
    ·split at h
     ·cases h
     ·rename_i e1;cases h;exact hN _ _ _ _ _ _ e1
     ·exact hL _ _ _ _ _ _ h
  ·unfold pNode at h
   simp only at h
   split at h
   ·split at h
    ·cases h;exact .inl rfl
    ·split at h
     ·cases h
     ·rename_i e1;cases h;exact hB _ _ _ _ _ _ _ e1
     ·cases h
   ·cases h
  ·unfold pBody at h
   split at h
   ·cases h
   ·rename_i e1;cases h;exact hL _ _ _ _ _ _ e1
   ·simp only at h
    split at h
    ·cases h;exact .inr rfl
    ·split at h
     ·split at h
      ·cases h;exact .inr rfl
      ·split at h
       ·cases h
       ·rename_i e1;cases h;exact hL _ _ _ _ _ _ e1
       ·split at h
        ·cases h;exact .inr rfl
        ·split at h
         ·cases h;exact .inr rfl
         ·cases h
     ·cases h
end R3

namespace R3I
open Go Go.Proofs Sx R3
variable {mx:Int}
structure Wk where
 nodes:List Nd
 at':Int
 e:Int
def Wk.av (top:AV) (s:Wk):AV:=.ag [.ro 9 (s.nodes.map Nd.av),top, .int s.at', .int s.e]
def Wk.fail (s:Wk) (at' e:Int):Option (Ctx×Wk):=some (badC,{ s with at':=at',e:=e })
mutual
def wList:Nat→List Nat→Ctx→Wk→Option (Ctx×Wk)
 | 0,_,_,_=>none
 | n+1,[],c,s=>some (c,s)
 | n+1,i :: l,c,s=>match wNode n i c s with
  | none=>none
  | some (d,t)=>if t.e != 0 then some (d,t) else wList n l d t
def wNode:Nat→Nat→Ctx→Wk→Option (Ctx×Wk)
 | 0,_,_,_=>none
 | n+1,i,c,s=>match s.nodes[i]? with
  | none=>none
  | some x =>
   if x.kind == 0 then
    if (bytesB c x.text).2 ≥ 0 then s.fail (x.at'+(bytesB c x.text).2) 5 else some ((bytesB c x.text).1,s)
   else if x.kind == 1 then
    if hole c == 0 then s.fail x.at' 6 else some (after c,{ s with nodes:=modNd s.nodes i fun y=>{ y with hole:=hole c } })
   else if x.kind == 2 then match wList n (x.body.getD []) c s with
    | none=>none
    | some (a,t)=>if t.e != 0 then some (a,t) else match wList n (x.els.getD []) c t with
     | none=>none
     | some (b,u)=>if u.e == 0 && !decide (a=b) then u.fail x.at' 7 else some (b,u)
   else if x.kind == 3 then match wList n (x.body.getD []) c s with
    | none=>none
    | some (a,t)=>if t.e == 0 && !decide (a=c) then t.fail x.at' 7 else some (a,t)
   else some (c,s)
end
def NmS (c:Ctx):Prop:=c.nm.length < 9223372036854775808
def Sml (l:List Nd):Prop:=∀ x ∈ l,x.at'≤1000000000∧x.text.length≤1000000000∧(x.body.getD []).length≤1000000∧(x.els.getD []).length≤1000000
theorem modNd_sml {l:List Nd} {i:Nat} {h:UInt8} (hl:Sml l):Sml (modNd l i fun y=>{ y with hole:=h }):=by
 intro x hx
 unfold modNd at hx
 obtain ⟨j,hj,rfl⟩:=List.mem_iff_getElem.1 hx
 rw [List.length_modify] at hj
 rw [List.getElem_modify]
 have:=hl l[j] (List.getElem_mem hj)
 split
 ·exact this
 ·exact this
def ListOkW (mx:Int) (n:Nat):Prop:=∀ (o:Option (List Nat)) (j:Nat) (c:Ctx) (s:Wk) (d:Ctx) (t:Wk) (top:AV),wList n ((o.getD []).drop j) c s=some (d,t)→j≤(o.getD []).length→(o.getD []).length≤1000000→NmS c→Sml s.nodes →
 F69_2 (semRun (C mx) Tryd.prog 69 Tryd.f69) (optAV o) (.int ((o.getD []).length:Int)) (j:Int) (.u8 c.st) (.u8 c.el) (.b c.en) (.u8 c.at') (.u8 c.qu) (.u8 c.pa) (.u8 c.su) (.b c.es) (.u8 c.da) (.s c.nm) 0 0 false 0 0 0 0 false 0 [] (s.nodes.map Nd.av) top (.int s.at') (.int s.e)=some (.tu [d.toAV,t.av top])∧NmS d∧Sml t.nodes∧t.nodes.length=s.nodes.length
def NodeOkW (mx:Int) (n:Nat):Prop:=∀ (i:Nat) (c:Ctx) (s:Wk) (d:Ctx) (t:Wk) (top:AV),wNode n i c s=some (d,t)→NmS c→Sml s.nodes →
 semCall (C mx) Tryd.prog 94 [.un, .int (i:Int),c.toAV,s.av top]=some (.tu [d.toAV,t.av top])∧NmS d∧Sml t.nodes∧t.nodes.length=s.nodes.length
theorem s108 (a e:Int) (s:Wk) (top:AV):semCall (C mx) Tryd.prog 108 [.un, .int a, .int e, .ag [.ro 9 (s.nodes.map Nd.av),top, .int s.at', .int s.e]]=some (.tu [badC.toAV,Wk.av top { s with at':=a,e:=e }]):=by
 apply c108
 rfl
theorem opt_len (o:Option (List Nat)):lenR (optAV o)=some (.int ((o.getD []).length:Int)):=by
 cases o with
 | none=>rfl
 | some l=>simp [optAV,lenR,numsAV]
theorem opt_idx {o:Option (List Nat)} {j x:Nat} (h:(o.getD [])[j]?=some x):idx 1 (optAV o) (.int (j:Int))=some (.int (x:Int)):=by
 cases o with
 | none=>simp at h
 | some l =>
  simp only [Option.getD_some] at h
  have hi:j < l.length:=(List.getElem?_eq_some_iff.1 h).1
  show idx 1 (.ro 1 (numsAV l)) _=_
  rw [idx_get 1 (by rw [numsAV,List.length_map];exact hi)]
  simp only [numsAV,List.getElem_map,(List.getElem?_eq_some_iff.1 h).2]
theorem int_lss (x y:Int):binI .lss (.int x) (.int y)=some (.b (decide (x < y))):=rfl
theorem int_geq (x y:Int):binI .geq (.int x) (.int y)=some (.b (decide (x ≥ y))):=rfl
theorem int_neq (x y:Int):binI .neq (.int x) (.int y)=some (.b (x != y)):=rfl
theorem int_eql (x y:Int):binI .eql (.int x) (.int y)=some (.b (x == y)):=rfl
theorem four0 (a b c d:AV):[a,b,c,d].getD 0 .un=a:=rfl
theorem four1 (a b c d:AV):[a,b,c,d].getD 1 .un=b:=rfl
theorem four2 (a b c d:AV):[a,b,c,d].getD 2 .un=c:=rfl
theorem four3 (a b c d:AV):[a,b,c,d].getD 3 .un=d:=rfl
theorem asAgW (top:AV) (t:Wk):AV.asAg 4 (t.av top)=some [.ro 9 (t.nodes.map Nd.av),top, .int t.at', .int t.e]:=rfl
theorem wlist_step {n:Nat} (hL:ListOkW mx n) (hN:NodeOkW mx n):ListOkW mx (n+1):=by
 intro o j c s d t top h hj hlen hc hs
 apply (show ∀ {P Q R:Prop},(X69_2 (semCall (C mx) Tryd.prog) (semRun (C mx) Tryd.prog 69 Tryd.f69) (optAV o) (.int ((o.getD []).length:Int)) (j:Int) (.u8 c.st) (.u8 c.el) (.b c.en) (.u8 c.at') (.u8 c.qu) (.u8 c.pa) (.u8 c.su) (.b c.es) (.u8 c.da) (.s c.nm) 0 0 false 0 0 0 0 false 0 [] (s.nodes.map Nd.av) top (.int s.at') (.int s.e)=some (.tu [d.toAV,t.av top]))∧P∧Q∧R→(F69_2 (semRun (C mx) Tryd.prog 69 Tryd.f69) (optAV o) (.int ((o.getD []).length:Int)) (j:Int) (.u8 c.st) (.u8 c.el) (.b c.en) (.u8 c.at') (.u8 c.qu) (.u8 c.pa) (.u8 c.su) (.b c.es) (.u8 c.da) (.s c.nm) 0 0 false 0 0 0 0 false 0 [] (s.nodes.map Nd.av) top (.int s.at') (.int s.e)=some (.tu [d.toAV,t.av top]))∧P∧Q∧R from fun h=>⟨r69_2 _ _ _ _ _ _ _ _ _ _ _ _ _ _ _ _ _ _ _ _ _ _ _ _ _ _ _ h.1,h.2⟩)
 by_cases hlt:j < (o.getD []).length
 ·have e1:decide ((j:Int) < ((o.getD []).length:Int))=true:=by rw [decide_eq_true_eq];omega
  have e3:w64 ((j:Int)+1)=((j+1:Nat):Int):=by rw [w64_eq (by omega) (by omega)];omega
  rw [List.drop_eq_getElem_cons hlt] at h
  have hx:(o.getD [])[j]?=some (o.getD [])[j]:=List.getElem?_eq_getElem hlt
  generalize (o.getD [])[j]=i at h hx
  unfold wList at h
  split at h
  ·cases h
  ·rename_i d1 t1 hn
   obtain ⟨g1,g2,g3,g4⟩:=hN i c s d1 t1 top hn hc hs
   have g1':semCall (C mx) Tryd.prog 94 [.un, .int (i:Int),c.toAV, .ag [.ro 9 (s.nodes.map Nd.av),top, .int s.at', .int s.e]]=some (.tu [d1.toAV,t1.av top]):=g1
   simp only [X69_2,int_lss,e1,Option.bind_some,condM_b,if_true,opt_idx hx,cell_int,mk_toAV,mk_eta,g1',tup0,tup1,asAgW,asAg_toAV,ten0,ten1,ten2,ten3,ten4,ten5,ten6,ten7,ten8,ten9,four0,four1,four2,four3,int_neq,elems_ro,e3]
   split at h
   ·rename_i he
    cases h
    rw [if_pos he]
    refine ⟨?_,g2,g3,g4⟩
    apply r69_7
    rfl
   ·rename_i he
    rw [if_neg he]
    obtain ⟨k1,k2,k3,k4⟩:=hL o (j+1) d1 t1 d t top h (by omega) hlen g2 g3
    exact ⟨k1,k2,k3,by omega⟩
 ·have e1:decide ((j:Int) < ((o.getD []).length:Int))=false:=by rw [decide_eq_false_iff_not];omega
  rw [List.drop_eq_nil_of_le (by omega)] at h
  unfold wList at h
  cases h
  refine ⟨?_,hc,hs,rfl⟩
  simp only [X69_2,int_lss,e1,Option.bind_some,condM_b,Bool.false_eq_true,if_false]
  apply r69_7
  rfl
theorem s69_of {n:Nat} (hL:ListOkW mx n) {o:Option (List Nat)} {c:Ctx} {s:Wk} {d:Ctx} {t:Wk} {top:AV} (h:wList n (o.getD []) c s=some (d,t)) (hlen:(o.getD []).length≤1000000) (hc:NmS c) (hs:Sml s.nodes) :
  semCall (C mx) Tryd.prog 69 [.un,optAV o,c.toAV, .ag [.ro 9 (s.nodes.map Nd.av),top, .int s.at', .int s.e]]=some (.tu [d.toAV,t.av top])∧NmS d∧Sml t.nodes∧t.nodes.length=s.nodes.length:=by
 obtain ⟨k1,k2⟩:=hL o 0 c s d t top (by simpa using h) (Nat.zero_le _) hlen hc hs
 refine ⟨?_,k2⟩
 apply c69
 simp only [X69,opt_len,Option.bind_some]
 exact k1
theorem bytes_small (c:Ctx) (l:List UInt8):NmS (bytesB c l).1∧-1≤(bytesB c l).2∧(bytesB c l).2 < l.length:=by
 refine ⟨form_lt (runL_form step_form _ _ _ (inF_form c)),?_⟩
 obtain ⟨_,_,_,a,b⟩:=runL_shift stepB l (inF c) 0
 exact ⟨a,b⟩
theorem after_small {c:Ctx} (h:NmS c):NmS (after c):=by
 unfold after
 split
 ·show (0:Nat) < _;decide
 ·split
  ·exact h
  ·exact h
theorem wnode_step {n:Nat} (hL:ListOkW mx n):NodeOkW mx (n+1):=by
 intro i c s d t top h hc hs
 unfold wNode at h
 split at h
 ·cases h
 ·rename_i x hx
  have hi:i < s.nodes.length:=(List.getElem?_eq_some_iff.1 hx).1
  have hxe:s.nodes[i]=x:=(List.getElem?_eq_some_iff.1 hx).2
  have hlen:(s.nodes.map Nd.av).length=s.nodes.length:=List.length_map ..
  have i1:inN (s.nodes.map Nd.av).length (.int (i:Int))=some i:=by rw [hlen];exact inN_int hi
  have i2:(s.nodes.map Nd.av).getD i .un=x.av:=by rw [nd_get hi,hxe]
  obtain ⟨b1,b2,b3,b4⟩:=hs x (List.mem_of_getElem? hx)
  have h50:semCall (C mx) Tryd.prog 50 [c.toAV]=some (.u8 (hole c)):=s50 ..
  have h51:semCall (C mx) Tryd.prog 51 [c.toAV]=some (after c).toAV:=s51 ..
  have h42:semCall (C mx) Tryd.prog 42 [c.toAV, .ro 1 (x.text.map .u8)]=some (ti (bytesB c x.text)):=s42 c x.text hc (by omega)
  have hs2b (p:List UInt8):s2b (.s p)=some (.ro 1 (p.map .u8)):=rfl
  obtain ⟨m1,m2,m3⟩:=bytes_small c x.text
  have nb:NmS badC:=by show (0:Nat) < _;decide
  apply (show ∀ {P Q R:Prop},(X94 (semCall (C mx) Tryd.prog) (semRun (C mx) Tryd.prog 94 Tryd.f94) (i:Int) c.st c.el c.en c.at' c.qu c.pa c.su c.es c.da c.nm (s.nodes.map Nd.av) top s.at' s.e=some (.tu [d.toAV,t.av top]))∧P∧Q∧R→(semCall (C mx) Tryd.prog 94 [.un, .int (i:Int),c.toAV,s.av top]=some (.tu [d.toAV,t.av top]))∧P∧Q∧R from fun h=>⟨c94 _ _ _ _ _ _ _ _ _ _ _ _ _ _ _ h.1,h.2⟩)
  simp only [X94,i1,i2,Option.bind_some,nc0,nc1,nc2,nc5,nc6,u8_eql,condM_b,hs2b,mk_toAV,mk_eta,h42,ti_0,ti_1,asAg_toAV,ten0,ten1,ten2,ten3,ten4,ten5,ten6,ten7,ten8,ten9,int_geq,h50,h51,one_u8]
  split at h
  ·rename_i k0
   rw [if_pos k0]
   split at h
   ·rename_i hbad
    cases h
    rw [if_pos (by simpa using hbad)]
    rw [int_add (by omega) (by omega)]
    simp only [Option.bind_some,s108,tup0,tup1,asAgW,asAg_toAV,ten0,ten1,ten2,ten3,ten4,ten5,ten6,ten7,ten8,ten9,four0,four1,four2,four3,elems_ro,mk_toAV,mk_eta]
    exact ⟨rfl,nb,hs,by simp⟩
   ·rename_i hbad
    cases h
    rw [if_neg (by simpa using hbad)]
    exact ⟨rfl,m1,hs,rfl⟩
  ·rename_i k0
   rw [if_neg k0]
   split at h
   ·rename_i k1
    rw [if_pos k1]
    split at h
    ·rename_i hh
     cases h
     rw [if_pos hh]
     simp only [Option.bind_some,s108,tup0,tup1,asAgW,asAg_toAV,ten0,ten1,ten2,ten3,ten4,ten5,ten6,ten7,ten8,ten9,four0,four1,four2,four3,elems_ro,mk_toAV,mk_eta]
     exact ⟨rfl,nb,hs,by simp⟩
    ·rename_i hh
     cases h
     rw [if_neg hh]
     refine ⟨?_,after_small hc,modNd_sml hs,by simp only [modNd_len]⟩
     have key:=nd_set (ns:=s.nodes) hi (fun y=>{ y with hole:=hole c })
     rw [hxe] at key
     show some (AV.tu [(after c).toAV, .ag [.ro 9 ((s.nodes.map Nd.av).set i _),top, .int s.at', .int s.e]])=_
     rw [show (AV.ag [.u8 x.kind, .int (x.at':Int), .s x.text,AV.cell x.av 3,AV.cell x.av 4,optAV x.body,optAV x.els,AV.cell x.av 7, .u8 (hole c)])=Nd.av { x with hole:=hole c } from rfl,key]
     rfl
   ·rename_i k1
    rw [if_neg k1]
    split at h
    ·rename_i k2
     rw [if_pos k2]
     split at h
     ·cases h
     ·rename_i a t1 h1
      obtain ⟨g1,g2,g3,g4⟩:=s69_of (top:=top) hL h1 b3 hc hs
      simp only [g1,Option.bind_some,tup0,tup1,asAgW,asAg_toAV,ten0,ten1,ten2,ten3,ten4,ten5,ten6,ten7,ten8,ten9,four0,four1,four2,four3,elems_ro,mk_toAV,mk_eta,int_neq,int_eql,condM_b]
      split at h
      ·rename_i he
       cases h
       rw [if_pos he]
       exact ⟨rfl,g2,g3,g4⟩
      ·rename_i he
       rw [if_neg he]
       split at h
       ·cases h
       ·rename_i b u h2
        obtain ⟨p1,p2,p3,p4⟩:=s69_of (top:=top) hL h2 b4 hc g3
        simp only [p1,Option.bind_some,tup0,tup1,asAgW,asAg_toAV,ten0,ten1,ten2,ten3,ten4,ten5,ten6,ten7,ten8,ten9,four0,four1,four2,four3,elems_ro,mk_toAV,mk_eta,int_neq,int_eql,ne_toAV,selW_and,condM_b]
        split at h
        ·rename_i hj
         cases h
         rw [if_pos hj]
         simp only [Option.bind_some,s108,tup0,tup1,asAgW,asAg_toAV,ten0,ten1,ten2,ten3,ten4,ten5,ten6,ten7,ten8,ten9,four0,four1,four2,four3,elems_ro,mk_toAV,mk_eta]
         exact ⟨rfl,nb,p3,by omega⟩
        ·rename_i hj
         cases h
         rw [if_neg hj]
         exact ⟨rfl,p2,p3,by omega⟩
    ·rename_i k2
     rw [if_neg k2]
     split at h
     ·rename_i k3
      rw [if_pos k3]
      split at h
      ·cases h
      ·rename_i a t1 h1
       obtain ⟨g1,g2,g3,g4⟩:=s69_of (top:=top) hL h1 b3 hc hs
       simp only [g1,Option.bind_some,tup0,tup1,asAgW,asAg_toAV,ten0,ten1,ten2,ten3,ten4,ten5,ten6,ten7,ten8,ten9,four0,four1,four2,four3,elems_ro,mk_toAV,mk_eta,int_neq,int_eql,ne_toAV,selW_and,condM_b]
       split at h
       ·rename_i hj
        cases h
        rw [if_pos hj]
        simp only [Option.bind_some,s108,tup0,tup1,asAgW,asAg_toAV,ten0,ten1,ten2,ten3,ten4,ten5,ten6,ten7,ten8,ten9,four0,four1,four2,four3,elems_ro,mk_toAV,mk_eta]
        exact ⟨rfl,nb,g3,by omega⟩
       ·rename_i hj
        cases h
        rw [if_neg hj]
        exact ⟨rfl,g2,g3,by omega⟩
     ·rename_i k3
      rw [if_neg k3]
      cases h
      exact ⟨rfl,hc,hs,by simp⟩
theorem walk_all (mx:Int):∀ n,ListOkW mx n∧NodeOkW mx n
 | 0=>⟨fun o j c s d t top h=>by simp [wList] at h,fun i c s d t top h=>by simp [wNode] at h⟩
 | n+1=>⟨wlist_step (walk_all mx n).1 (walk_all mx n).2,wnode_step (walk_all mx n).1⟩
end R3I

namespace R3I
open Go Go.Proofs Go.RowKit Go.Shelf Sx R3
variable {mx:Int}
def lentS2 (cs:List Cell) (u1 u2:AV):St:=⟨fun t=>bif Nat.beq t 0 then .cell (.ptr 0 0) else bif Nat.beq t 1 then .val u1 else bif Nat.beq t 2 then .val u2 else .dead,fun s=>bif Nat.beq s 0 then some cs else none⟩
theorem lent2 {C:Cfg} {w:World} {F:Nat→Prop} (hG:GlobOk C w F) {Pb e:Nat} {vs:List Value} {cs:List Cell} {id0:Nat} {nv:Value} (hP:w.heap[Pb]?=some (.cells vs.toArray e (0,0))) (hl:vs.length=cs.length) (hPF:¬ F Pb)
  (hnF:∀ g,nv.ownBlock=some g→¬ F g∧g≠Pb∧g < w.heap.size)
  {u1 u2:AV} {v1 v2:Value} (hu1:Rel w F u1 v1) (hu2:Rel w F u2 v2) (hcs:∀ (j:Nat) (c:Cell) (v:Value),cs[j]?=some c→vs[j]?=some v→(∃ u,c=.val u∧v.oneCell'=true∧Rel w F u v)∨(∃ e k l,c=.own id0 e k l∧v=nv∧OwnOk w F e k l v)) :
  Inv C w (lentF1 F Pb nv) 4 (lentS2 cs u1 u2) ⟨#[.pointer (some ⟨Pb,0,none⟩),v1,v2,undef],[]⟩ w (lentH id0 nv) (lentσ Pb):=by
 have hlt:Pb < w.heap.size:=(Array.getElem?_eq_some_iff.1 hP).1
 have hfr:∀ b,F b→Fr w.heap.size (lentF1 F Pb nv) (lentH id0 nv) (lentσ Pb) b:=fun b hb=>by
  refine ⟨fun _=>.inl hb,fun i v hi ho=>?_,fun s hs=>?_⟩
  ·unfold lentH at hi
   split at hi
   ·cases hi;exact (hnF b ho).1 hb
   ·cases hi
  ·unfold lentσ at hs
   split at hs
   ·cases hs;exact hPF hb
   ·cases hs
 have hmono:∀ {a:AV} {v:Value},Rel w F a v→Rel w (Fr w.heap.size (lentF1 F Pb nv) (lentH id0 nv) (lentσ Pb)) a v:=fun h=>h.mono fun b _ hb=>⟨hfr b hb,rfl⟩
 exact {
  defers:=rfl
  size:=rfl
  env:=fun t=>by
   match t with
   | 0=>exact ⟨Pb,rfl,rfl⟩
   | 1=>exact hmono hu1
   | 2=>exact hmono hu2
   | t+3=>trivial
  mem:=fun s cs' hs=>by
   match s,hs with
   | 0,hs =>
    cases hs
    refine ⟨Pb,vs,e,rfl,hP,hl,fun j c v hc hv=>?_⟩
    rcases hcs j c v hc hv with ⟨u,rfl,h1,h2⟩ | ⟨e,k,l,rfl,rfl,h2⟩
    ·exact ⟨h1,hmono h2⟩
    ·refine ⟨by show lentH id0 v id0=some v;unfold lentH;rw [if_pos rfl],h2.mono (fun b _ hb=>⟨hfr b hb,rfl⟩) fun _ _=>rfl⟩
   | s+1,hs=>cases hs
  hown:=fun i x g hi hx=>by
   unfold lentH at hi
   split at hi
   ·cases hi;exact ⟨.inr (.inr hx),(hnF g hx).2.2⟩
   ·cases hi
  sown:=fun s r hs=>by
   unfold lentσ at hs
   split at hs
   ·cases hs;exact ⟨.inr (.inl rfl),hlt⟩
   ·cases hs
  obj:=fun s b hb=>by cases hb
  hh:=fun i j x y g hne hi hj=>by
   unfold lentH at hi hj
   split at hi
   ·split at hj
    ·omega
    ·cases hj
   ·cases hi
  hs:=fun i s x r hi hs=>by
   unfold lentH at hi
   unfold lentσ at hs
   split at hi
   ·split at hs
    ·cases hi;cases hs;exact fun e=>(hnF _ e).2.1 rfl
    ·cases hs
   ·cases hi
  ss:=fun s s' r hne hs=>by
   unfold lentσ at hs ⊢
   split at hs
   ·rw [if_neg (by omega)];simp
   ·cases hs
  glob:=fun g k e hg=>by
   obtain ⟨b',o,h1,h2,h3,h4⟩:=hG g k e hg
   refine ⟨b',o,h1,hfr b' h2,h3,fun j hj=>?_⟩
   obtain ⟨v,q1,q2,q3⟩:=h4 j hj
   exact ⟨v,q1,q2,hmono q3⟩
  below:=Bel.refl _ w }
set_option maxRecDepth 100000
def sg69:Sig:={ ps:=[.obj 0, .v, .v],objs:=[(.arg 0,[.own 61 9, .v, .v, .v])],outs:=[(.arg 0,[.own 61 9, .v, .v, .v])] }
def cells69 (nodes:List AV) (top:AV) (at' e:Int):List Cell:=[.own 9 61 9 nodes, .val top, .val (.int at'), .val (.int e)]
def st69 (nodes:List AV) (top:AV) (at' e:Int) (u1 u2:AV) (res o0 o1 o2 o3:AV):St :=
 (((lentS2 (cells69 nodes top at' e) u1 u2).kls [9,600000]).setMem 0 [.own 600000 61 9 o0.elems, .val o1, .val o2, .val o3]).put (some 3) (.val res)
theorem ev69 (call:Nat→List AV→Option AV) {top u1 u2:AV} {at' e:Int} {nodes:List AV} {res o0 o1 o2 o3:AV} (hc:call 69 [.un,u1,u2, .ag [.ro 9 nodes,top, .int at', .int e]]=some (.tu [res, .ag [o0,o1,o2,o3]])) :
  evCallM (C mx) call sg69 69 (([.tmp 0, .tmp 1, .tmp 2]:List Operand).map ((lentS2 (cells69 nodes top at' e) u1 u2).get (C mx)) ++ ([]:List Nat).map fun s=>.cell (.ptr s 0)) (some 3) (lentS2 (cells69 nodes top at' e) u1 u2) (fun st=>some st)=some (st69 nodes top at' e u1 u2 res o0 o1 o2 o3):=by
 show ((call 69 [.un,u1,u2, .ag [.ro 9 nodes,top, .int at', .int e]]).bind fun res=>_)=_
 rw [hc]
 rfl
set_option maxRecDepth 100000 in
theorem walk_calls {w:World} {F:Nat→Prop} (hG:GlobOk (C mx) w F) {Pb ty:Nat} {nv tv v1 v2:Value} {at' e:Int} {u1 u2 top:AV} {nodes:List AV} (hP:w.heap[Pb]?=some (.cells #[nv,tv, .int .i64 at', .int .i64 e] ty (0,0))) (hPF:¬ F Pb)
  (hnF:∀ g,nv.ownBlock=some g→¬ F g∧g≠Pb∧g < w.heap.size) (hu1:Rel w F u1 v1) (hu2:Rel w F u2 v2) (h2:tv.oneCell'=true) (ht:Rel w F top tv) (hn:OwnOk w F 61 9 nodes nv)
  {res o0 o1 o2 o3:AV} (hc:semCall (C mx) Tryd.prog 69 [.un,u1,u2, .ag [.ro 9 nodes,top, .int at', .int e]]=some (.tu [res, .ag [o0,o1,o2,o3]])) :
  Calls Tryd.prog 69 #[.pointer (some ⟨Pb,0,none⟩),v1,v2] w fun en w'=>∃ v x0 x1 x2 x3 e',en=.returned v∧But2 w Pb nv w'∧w'.heap[Pb]?=some (.cells #[x0,x1,x2,x3] e' (0,0)) ∧
   Rel w' (readF w F Pb nv x0) res v∧OwnOk w' (readF w F Pb nv x0) 61 9 o0.elems x0∧(x1.oneCell'=true∧Rel w' (readF w F Pb nv x0) o1 x1)∧Rel w' (readF w F Pb nv x0) o2 x2∧Rel w' (readF w F Pb nv x0) o3 x3 ∧
   (∀ g,x0.ownBlock=some g→(w.heap.size≤g∨nv.ownBlock=some g)∧g≠Pb∧g < w'.heap.size):=by
 have hI:=lent2 (C:=C mx) hG (Pb:=Pb) (e:=ty) (vs:=[nv,tv, .int .i64 at', .int .i64 e]) (cs:=cells69 nodes top at' e) (id0:=9) (nv:=nv) hP rfl hPF hnF hu1 hu2 (fun j c v hc hv=>by
  match j,hc,hv with
  | 0,hc,hv=>cases hc;cases hv;exact .inr ⟨_,_,_,rfl,rfl,hn⟩
  | 1,hc,hv=>cases hc;cases hv;exact .inl ⟨_,rfl,h2,ht⟩
  | 2,hc,hv=>cases hc;cases hv;exact .inl ⟨_,rfl,rfl, .int at'⟩
  | 3,hc,hv=>cases hc;cases hv;exact .inl ⟨_,rfl,rfl, .int e⟩
  | j+4,hc,hv=>simp [cells69] at hc)
 have hK:evCallM (C mx) (semCall (C mx) Tryd.prog) sg69 69 (([.tmp 0, .tmp 1, .tmp 2]:List Operand).map ((lentS2 (cells69 nodes top at' e) u1 u2).get (C mx)) ++ ([]:List Nat).map fun s=>.cell (.ptr s 0)) (some 3) (lentS2 (cells69 nodes top at' e) u1 u2) (fun st=>some st)=some (st69 nodes top at' e u1 u2 res o0 o1 o2 o3) :=
  ev69 _ hc
 have key:=op_callM (C:=C mx) (P:=Tryd.prog) (call:=semCall (C mx) Tryd.prog) (R:=St) (K:=fun st=>some st) (o:={ dst:=some 3,op:=.call { callee:=.value (.func 69),args := #[.tmp 0, .tmp 1, .tmp 2],argTypes := #[118,48,72] },type:=0,pos := "", after := #[],guard:=none }) (X:=.func 69) (g:=69) (cv := #[]) (ss:=[])
  rfl rfl rfl (by kernel_rfl) (by kernel_rfl) ⟨rfl,fun j s v hs=>by simp at hs⟩ (semCall_ok (fit mx)) (fit mx).ty hI (fun t ht=>by cases ht;decide) hK
 have hW:=key (fun a' w'=>∃ x0 x1 x2 x3 e',But2 w Pb nv w'∧w'.heap[Pb]?=some (.cells #[x0,x1,x2,x3] e' (0,0)) ∧
   Rel w' (readF w F Pb nv x0) res (a'.tmps.getD 3 undef)∧OwnOk w' (readF w F Pb nv x0) 61 9 o0.elems x0∧(x1.oneCell'=true∧Rel w' (readF w F Pb nv x0) o1 x1)∧Rel w' (readF w F Pb nv x0) o2 x2∧Rel w' (readF w F Pb nv x0) o3 x3 ∧
   (∀ g,x0.ownBlock=some g→(w.heap.size≤g∨nv.ownBlock=some g)∧g≠Pb∧g < w'.heap.size)) (fun _ _ _=>False) (fun a' w' st' H' σ' hst hI' _ hσ _=>?_)
 ·unfold Oper.wp at hW
  have hrun:(execOp (⟨#[.pointer (some ⟨Pb,0,none⟩),v1,v2,undef],[]⟩:Act).eval { dst:=some 3,op:=.call { callee:=.value (.func 69),args := #[.tmp 0, .tmp 1, .tmp 2],argTypes := #[118,48,72] },type:=0,pos := "", after := #[],guard:=none }).run Tryd.prog w=.ok (.enter 69 #[.pointer (some ⟨Pb,0,none⟩),v1,v2]) w:=by
   simp [execOp,go_sem,resolve,invoke,enters_of Tryd.func69 (by kernel_rfl) rfl]
  rw [hrun,Oper.upon_enter] at hW
  refine Calls.mono hW fun en w' h=>?_
  cases en with
  | returned v =>
   obtain ⟨x0,x1,x2,x3,e',q1,q2,q3,q4⟩:=h
   exact ⟨v,x0,x1,x2,x3,e',rfl,q1,q2,q3,q4⟩
  | panicked c=>exact h.elim
  | outgrown=>exact absurd h (by simp [LetsOut])
 ·cases hst
  obtain ⟨r,us,e',g1,g2,g3,g4⟩:=hI'.mem 0 _ rfl
  have hσ0:σ' 0=some Pb:=(hσ.1 0 (by simp)).trans rfl
  rw [hσ0] at g1
  cases g1
  match us,g3,g4,g2 with
  | [x0,x1,x2,x3],_,g4,g2 =>
   have y0:=g4 0 _ x0 rfl rfl
   have y1:=g4 1 _ x1 rfl rfl
   have y2:=g4 2 _ x2 rfl rfl
   have y3:=g4 3 _ x3 rfl rfl
   have hF:∀ b,Fr w.heap.size (lentF1 F Pb nv) H' σ' b→readF w F Pb nv x0 b:=fun b hb=>by
    have hne:b≠Pb:=fun e=>hb.2.2 0 (e ▸ hσ0)
    exact ⟨fun hlt=>(hb.1 hlt).elim .inl fun h=>h.elim (fun e=>absurd e hne) .inr,hne,hb.2.1 _ x0 y0.1⟩
   have hm:∀ {a:AV} {v:Value},Rel w' (Fr w.heap.size (lentF1 F Pb nv) H' σ') a v→Rel w' (readF w F Pb nv x0) a v:=fun h=>h.mono fun b _ hb=>⟨hF b hb,rfl⟩
   refine ⟨x0,x1,x2,x3,e',⟨hI'.below.os,hI'.below.tape,hI'.below.output,hI'.below.size,fun b hb hne ho=>hI'.below.block b hb (fun h=>h.elim hne ho)⟩,g2,hm (hI'.env 3),y0.2.mono (fun b _ hb=>⟨hF b hb,rfl⟩) (fun _ _=>rfl),⟨y1.1,hm y1.2⟩,hm y2.2,hm y3.2,fun g hg=>?_⟩
   obtain ⟨q1,q2⟩:=hI'.hown _ x0 g y0.1 hg
   have q3:g≠Pb:=fun e=>hI'.hs _ 0 x0 Pb y0.1 hσ0 (e ▸ hg)
   exact ⟨q1.elim .inl fun h=>h.elim (fun e=>absurd e q3) .inr,q3,q2⟩
end R3I

namespace R3I
open Go Go.Proofs Go.RowKit Go.Shelf Sx R3
variable {mx:Int}
def ctxV (c:Ctx) (q:ByteArray):Value:=.agg #[.int .u8 (c.st.toNat:Int), .int .u8 (c.el.toNat:Int), .bool c.en, .int .u8 (c.at'.toNat:Int), .int .u8 (c.qu.toNat:Int), .int .u8 (c.pa.toNat:Int), .int .u8 (c.su.toNat:Int), .bool c.es, .int .u8 (c.da.toNat:Int), .string q]
theorem rel_ctx {w:World} {F:Nat→Prop} {c:Ctx} {v:Value} (h:Rel w F c.toAV v):∃ q:ByteArray,q.data.toList=c.nm∧v=ctxV c q:=by
 cases h with
 | ag _ vs hl h1 hr =>
  match vs,hl,hr with
  | [v0,v1,v2,v3,v4,v5,v6,v7,v8,v9],_,hr =>
   have r0:=hr 0 v0 rfl
   have r1:=hr 1 v1 rfl
   have r2:=hr 2 v2 rfl
   have r3:=hr 3 v3 rfl
   have r4:=hr 4 v4 rfl
   have r5:=hr 5 v5 rfl
   have r6:=hr 6 v6 rfl
   have r7:=hr 7 v7 rfl
   have r8:=hr 8 v8 rfl
   have r9:=hr 9 v9 rfl
   simp only [List.getD_cons_zero,List.getD_cons_succ] at r0 r1 r2 r3 r4 r5 r6 r7 r8 r9
   cases r0;cases r1;cases r2;cases r3;cases r4;cases r5;cases r6;cases r7;cases r8
   generalize hx:AV.s c.nm=y at r9
   cases r9 with
   | s q=>exact ⟨q,(AV.s.inj hx).symm,rfl⟩
   | _=>cases hx
theorem ctx_rel (w:World) (F:Nat→Prop) (c:Ctx) (q:ByteArray) (hq:q.data.toList=c.nm):Rel w F c.toAV (ctxV c q):=by
 unfold ctxV Ctx.toAV
 rw [← hq]
 refine Rel.ag _ [_,_,_,_,_,_,_,_,_,_] rfl (fun v hv=>?_) (fun j v hv=>?_)
 ·simp only [List.mem_cons,List.not_mem_nil,or_false] at hv
  rcases hv with rfl | rfl | rfl | rfl | rfl | rfl | rfl | rfl | rfl | rfl <;> rfl
 ·match j,hv with
  | 0,hv=>cases hv;exact .u8 _
  | 1,hv=>cases hv;exact .u8 _
  | 2,hv=>cases hv;exact .b _
  | 3,hv=>cases hv;exact .u8 _
  | 4,hv=>cases hv;exact .u8 _
  | 5,hv=>cases hv;exact .u8 _
  | 6,hv=>cases hv;exact .u8 _
  | 7,hv=>cases hv;exact .b _
  | 8,hv=>cases hv;exact .u8 _
  | 9,hv=>cases hv;exact .s _
  | j+10,hv=>simp at hv
theorem GlobOk.ext' {C:Cfg} {w W:World} {F F':Nat→Prop} (h:GlobOk C w F) (hx:Ext w W) (hF:∀ b,b < w.heap.size→F b→F' b):GlobOk C W F':=fun g k e hg=>by
 obtain ⟨b',o,q1,q2,q3,q4⟩:=h g k e hg
 refine ⟨b',o,q1,hF _ q3 q2,Nat.lt_of_lt_of_le q3 hx.size,fun j hj=>?_⟩
 obtain ⟨v,p1,p2,p3⟩:=q4 j hj
 exact ⟨v,(World.cell?_of_block (hx.block _ q3)).trans p1,p2,p3.mono fun b hb hf=>⟨hF b hb hf,hx.block b hb⟩⟩
theorem form_calls {w:World} {F:Nat→Prop} (hG:GlobOk (C mx) w F) (c:Ctx) (hc:NmS c) (q:ByteArray) (hq:q.data.toList=c.nm):Calls Tryd.prog 68 #[ctxV c q] w fun e w'=>e=.returned (.bool (form c))∧Ext w w':=by
 refine Calls.mono (calls_sem (fit mx) (c:=Tryd.f68.body.getD .skip) Tryd.func68 (by kernel_rfl) (sForm (mx:=mx) c hc) (by kernel_rfl) w F #[ctxV c q] hG rfl (arg1 (ctx_rel w F c q hq))) fun e w' he=>?_
 obtain ⟨v,rfl,hx,hr⟩:=he
 unfold ResOk at hr
 rw [if_pos (by kernel_rfl)] at hr
 cases hr
 exact ⟨rfl,hx⟩
def noTree:AV:=.ag [.nils, .nils]
def fragAV (l:List UInt8) (c:Ctx):AV :=
 if !form c || c.st == 20 then .tu [noTree,(st1 0).toAV, .int 0, .int 1]
 else match parseT l with
  | .bad a e=>.tu [noTree,(st1 0).toAV, .int (a:Int), .int (e:Int)]
  | .ok nodes top=>match wList (2 * nodes.length+1) top c ⟨nodes,0,0⟩ with
   | none=>.un
   | some (d,t)=>if t.e != 0 then .tu [noTree,(st1 0).toAV, .int t.at', .int t.e] else .tu [.ag [.ro 9 (t.nodes.map Nd.av), .ro 1 (numsAV top)],d.toAV, .int 0, .int 0]
def FragPost (w:World) (F:Nat→Prop) (r:AV) (e:Ending) (w':World):Prop:=Ext w w'∧∃ v,e=.returned v∧Rel w' (fun b=>b < w.heap.size→F b) r v
theorem cells10 {W:World} {b:Nat} {x0 x1 x2 x3 x4 x5 x6 x7 x8 x9:Value} {t:TypeId} (h:W.heap[b]?=some (.cells #[x0,x1,x2,x3,x4,x5,x6,x7,x8,x9] t)):(W.cell? ⟨b,0,none⟩=some x0∧W.cell? ⟨b,1,none⟩=some x1∧W.cell? ⟨b,2,none⟩=some x2∧W.cell? ⟨b,3,none⟩=some x3∧W.cell? ⟨b,4,none⟩=some x4∧W.cell? ⟨b,5,none⟩=some x5∧W.cell? ⟨b,6,none⟩=some x6∧W.cell? ⟨b,7,none⟩=some x7∧W.cell? ⟨b,8,none⟩=some x8∧W.cell? ⟨b,9,none⟩=some x9) ∧
  (W.frozen? ⟨b,0,none⟩=false∧W.frozen? ⟨b,1,none⟩=false∧W.frozen? ⟨b,2,none⟩=false∧W.frozen? ⟨b,3,none⟩=false∧W.frozen? ⟨b,4,none⟩=false∧W.frozen? ⟨b,5,none⟩=false∧W.frozen? ⟨b,6,none⟩=false∧W.frozen? ⟨b,7,none⟩=false∧W.frozen? ⟨b,8,none⟩=false∧W.frozen? ⟨b,9,none⟩=false):=by
 simp [World.cell?,World.frozen?,h]
theorem results41 (T:Array Value) (W:World) (N M:Nat) (x y a b x0 x1 x2 x3 x4 x5 x6 x7 x8 x9:Value) (t4:T[4]?.getD undef=.pointer (some ⟨N,0,none⟩)) (t5:T[5]?.getD undef=.pointer (some ⟨M,0,none⟩)) (t6:T[6]?.getD undef=a) (t7:T[7]?.getD undef=b) (h0:W.heap[N]?=some (.cells #[x,y] 50))
  (h1:W.heap[M]?=some (.cells #[x0,x1,x2,x3,x4,x5,x6,x7,x8,x9] 72)) :
  (results Tryd.f41 T).run Tryd.prog W=.ok (.tuple #[.agg #[x,y], .agg #[x0,x1,x2,x3,x4,x5,x6,x7,x8,x9],a,b]) W:=by
 have hr:Tryd.f41.results = #[.cell 4 50, .cell 5 72, .tmp 6, .tmp 7]:=by kernel_rfl
 have l1:(loadVar 50 ⟨N,0,none⟩).run Tryd.prog W=.ok (.agg #[x,y]) W:=by
  simp [loadVar,go_sem,(cell2 h0).1,(cell2 h0).2.1,Result.andThen]
 obtain ⟨⟨c0,c1,c2,c3,c4,c5,c6,c7,c8,c9⟩,_⟩:=cells10 h1
 have l2:(loadVar 72 ⟨M,0,none⟩).run Tryd.prog W=.ok (.agg #[x0,x1,x2,x3,x4,x5,x6,x7,x8,x9]) W:=by
  simp [loadVar,go_sem,c0,c1,c2,c3,c4,c5,c6,c7,c8,c9,Result.andThen]
 unfold results
 rw [hr]
 simp [t4,t5,t6,t7,Sem.run_bind,asAddr,l1,l2,Result.andThen]
theorem set_at {W:World} {b:Nat} {a:Array Value} {t:TypeId} (h:W.heap[b]?=some (.cells a t)) (i:Nat) (v:Value):(W.setCell ⟨b,i,none⟩ v).heap[b]?=some (.cells (a.setIfInBounds i v) t):=by
 obtain ⟨hlt,hk⟩:=Array.getElem?_eq_some_iff.1 h
 show (W.heap.modify b _)[b]?=_
 rw [Array.getElem?_eq_getElem (by rw [Array.size_modify];exact hlt),Array.getElem_modify_self,hk]
 rfl
theorem ext_set1 {w W:World} (h:Ext w W) {b:Nat} (hb:w.heap.size≤b) (i:Nat) (v:Value):Ext w (W.setCell ⟨b,i,none⟩ v) :=
 ⟨h.os,h.tape,h.output,by rw [set_size];exact h.size,fun k hk=>(set_other (show k≠b by omega)).trans (h.block k hk)⟩
def setCtx (W:World) (b:Nat) (y0 y1 y2 y3 y4 y5 y6 y7 y8 y9:Value):World :=
 (((((((((W.setCell ⟨b,0,none⟩ y0).setCell ⟨b,1,none⟩ y1).setCell ⟨b,2,none⟩ y2).setCell ⟨b,3,none⟩ y3).setCell ⟨b,4,none⟩ y4).setCell ⟨b,5,none⟩ y5).setCell ⟨b,6,none⟩ y6).setCell ⟨b,7,none⟩ y7).setCell ⟨b,8,none⟩ y8).setCell ⟨b,9,none⟩ y9
theorem setCtx_at {W:World} {b:Nat} {x0 x1 x2 x3 x4 x5 x6 x7 x8 x9:Value} {t:TypeId} (h:W.heap[b]?=some (.cells #[x0,x1,x2,x3,x4,x5,x6,x7,x8,x9] t)) (y0 y1 y2 y3 y4 y5 y6 y7 y8 y9:Value) :
  (setCtx W b y0 y1 y2 y3 y4 y5 y6 y7 y8 y9).heap[b]?=some (.cells #[y0,y1,y2,y3,y4,y5,y6,y7,y8,y9] t):=by
 have h0:(W.setCell ⟨b,0,none⟩ y0).heap[b]?=some (.cells #[y0,x1,x2,x3,x4,x5,x6,x7,x8,x9] t):=set_at h 0 y0
 have h1:((W.setCell ⟨b,0,none⟩ y0).setCell ⟨b,1,none⟩ y1).heap[b]?=some (.cells #[y0,y1,x2,x3,x4,x5,x6,x7,x8,x9] t):=set_at h0 1 y1
 have h2:(((W.setCell ⟨b,0,none⟩ y0).setCell ⟨b,1,none⟩ y1).setCell ⟨b,2,none⟩ y2).heap[b]?=some (.cells #[y0,y1,y2,x3,x4,x5,x6,x7,x8,x9] t):=set_at h1 2 y2
 have h3:((((W.setCell ⟨b,0,none⟩ y0).setCell ⟨b,1,none⟩ y1).setCell ⟨b,2,none⟩ y2).setCell ⟨b,3,none⟩ y3).heap[b]?=some (.cells #[y0,y1,y2,y3,x4,x5,x6,x7,x8,x9] t):=set_at h2 3 y3
 have h4:(((((W.setCell ⟨b,0,none⟩ y0).setCell ⟨b,1,none⟩ y1).setCell ⟨b,2,none⟩ y2).setCell ⟨b,3,none⟩ y3).setCell ⟨b,4,none⟩ y4).heap[b]?=some (.cells #[y0,y1,y2,y3,y4,x5,x6,x7,x8,x9] t):=set_at h3 4 y4
 have h5:((((((W.setCell ⟨b,0,none⟩ y0).setCell ⟨b,1,none⟩ y1).setCell ⟨b,2,none⟩ y2).setCell ⟨b,3,none⟩ y3).setCell ⟨b,4,none⟩ y4).setCell ⟨b,5,none⟩ y5).heap[b]?=some (.cells #[y0,y1,y2,y3,y4,y5,x6,x7,x8,x9] t):=set_at h4 5 y5
 have h6:(((((((W.setCell ⟨b,0,none⟩ y0).setCell ⟨b,1,none⟩ y1).setCell ⟨b,2,none⟩ y2).setCell ⟨b,3,none⟩ y3).setCell ⟨b,4,none⟩ y4).setCell ⟨b,5,none⟩ y5).setCell ⟨b,6,none⟩ y6).heap[b]?=some (.cells #[y0,y1,y2,y3,y4,y5,y6,x7,x8,x9] t):=set_at h5 6 y6
 have h7:((((((((W.setCell ⟨b,0,none⟩ y0).setCell ⟨b,1,none⟩ y1).setCell ⟨b,2,none⟩ y2).setCell ⟨b,3,none⟩ y3).setCell ⟨b,4,none⟩ y4).setCell ⟨b,5,none⟩ y5).setCell ⟨b,6,none⟩ y6).setCell ⟨b,7,none⟩ y7).heap[b]?=some (.cells #[y0,y1,y2,y3,y4,y5,y6,y7,x8,x9] t):=set_at h6 7 y7
 have h8:(((((((((W.setCell ⟨b,0,none⟩ y0).setCell ⟨b,1,none⟩ y1).setCell ⟨b,2,none⟩ y2).setCell ⟨b,3,none⟩ y3).setCell ⟨b,4,none⟩ y4).setCell ⟨b,5,none⟩ y5).setCell ⟨b,6,none⟩ y6).setCell ⟨b,7,none⟩ y7).setCell ⟨b,8,none⟩ y8).heap[b]?=some (.cells #[y0,y1,y2,y3,y4,y5,y6,y7,y8,x9] t):=set_at h7 8 y8
 have h9:((((((((((W.setCell ⟨b,0,none⟩ y0).setCell ⟨b,1,none⟩ y1).setCell ⟨b,2,none⟩ y2).setCell ⟨b,3,none⟩ y3).setCell ⟨b,4,none⟩ y4).setCell ⟨b,5,none⟩ y5).setCell ⟨b,6,none⟩ y6).setCell ⟨b,7,none⟩ y7).setCell ⟨b,8,none⟩ y8).setCell ⟨b,9,none⟩ y9).heap[b]?=some (.cells #[y0,y1,y2,y3,y4,y5,y6,y7,y8,y9] t):=set_at h8 9 y9
 exact h9
theorem setCtx_ext {w W:World} (h:Ext w W) {b:Nat} (hb:w.heap.size≤b) (y0 y1 y2 y3 y4 y5 y6 y7 y8 y9:Value):Ext w (setCtx W b y0 y1 y2 y3 y4 y5 y6 y7 y8 y9) :=
 ext_set1 (ext_set1 (ext_set1 (ext_set1 (ext_set1 (ext_set1 (ext_set1 (ext_set1 (ext_set1 (ext_set1 h hb 0 y0) hb 1 y1) hb 2 y2) hb 3 y3) hb 4 y4) hb 5 y5) hb 6 y6) hb 7 y7) hb 8 y8) hb 9 y9
theorem setCtx_other {W:World} {b k:Nat} (h:k≠b) (y0 y1 y2 y3 y4 y5 y6 y7 y8 y9:Value):(setCtx W b y0 y1 y2 y3 y4 y5 y6 y7 y8 y9).heap[k]?=W.heap[k]?:=by
 unfold setCtx
 simp only [set_other h]
structure FM (w:World) (c:Ctx) (q:ByteArray) (W:World):Prop where
 ext:Ext w W
 size:w.heap.size+3≤W.heap.size
 b0:W.heap[w.heap.size]?=some (.cells #[.int .u8 (c.st.toNat:Int), .int .u8 (c.el.toNat:Int), .bool c.en, .int .u8 (c.at'.toNat:Int), .int .u8 (c.qu.toNat:Int), .int .u8 (c.pa.toNat:Int), .int .u8 (c.su.toNat:Int), .bool c.es, .int .u8 (c.da.toNat:Int), .string q] 72)
 b1:W.heap[w.heap.size+1]?=some (.cells #[.slice none 0 0, .slice none 0 0] 50)
 b2:W.heap[w.heap.size+1+1]?=some (.cells #[.int .u8 0, .int .u8 0, .bool false, .int .u8 0, .int .u8 0, .int .u8 0, .int .u8 0, .bool false, .int .u8 0, .string ByteArray.empty] 72)
theorem FM.next {w:World} {c:Ctx} {q:ByteArray} {W W':World} (h:FM w c q W) (hx:Ext W W'):FM w c q W':=by
 have hs:=h.size
 have hs':=hx.size
 exact ⟨h.ext.trans hx,by omega,(hx.block _ (by omega)).trans h.b0,(hx.block _ (by omega)).trans h.b1,(hx.block _ (by omega)).trans h.b2⟩
theorem FM.first (w:World) (c:Ctx) (q:ByteArray):FM w c q (((w.alloc (.cells #[.int .u8 (c.st.toNat:Int), .int .u8 (c.el.toNat:Int), .bool c.en, .int .u8 (c.at'.toNat:Int), .int .u8 (c.qu.toNat:Int), .int .u8 (c.pa.toNat:Int), .int .u8 (c.su.toNat:Int), .bool c.es, .int .u8 (c.da.toNat:Int), .string q] 72)).alloc (.cells #[.slice none 0 0, .slice none 0 0] 50)).alloc (.cells #[.int .u8 0, .int .u8 0, .bool false, .int .u8 0, .int .u8 0, .int .u8 0, .int .u8 0, .bool false, .int .u8 0, .string ByteArray.empty] 72)) where
 ext:=((Ext.push w _).trans (Ext.push _ _)).trans (Ext.push _ _)
 size:=by simp
 b0:=(al_old' (by simp;omega)).trans ((al_old' (by simp)).trans (World.alloc_heap_new w _))
 b1:=(al_old' (by simp)).trans (al_new' (by simp))
 b2:=al_new' (by simp)
theorem FM.bad {w:World} {F:Nat→Prop} {c:Ctx} {q:ByteArray} {W:World} (h:FM w c q W) (a e:Int):FragPost w F (.tu [noTree,(st1 0).toAV, .int a, .int e]) (.returned (.tuple #[.agg #[.slice none 0 0, .slice none 0 0], .agg #[.int .u8 0, .int .u8 0, .bool false, .int .u8 0, .int .u8 0, .int .u8 0, .int .u8 0, .bool false, .int .u8 0, .string ByteArray.empty], .int .i64 a, .int .i64 e])) (setCtx ((W.setCell ⟨w.heap.size+1,0,none⟩ (.slice none 0 0)).setCell ⟨w.heap.size+1,1,none⟩ (.slice none 0 0)) (w.heap.size+1+1) (.int .u8 0) (.int .u8 0) (.bool false) (.int .u8 0) (.int .u8 0) (.int .u8 0) (.int .u8 0) (.bool false) (.int .u8 0) (.string ByteArray.empty)):=by
 refine ⟨setCtx_ext (ext_set1 (ext_set1 h.ext (by omega) _ _) (by omega) _ _) (by omega) _ _ _ _ _ _ _ _ _ _,_,rfl,?_⟩
 have z:=ctx_rel (setCtx ((W.setCell ⟨w.heap.size+1,0,none⟩ (.slice none 0 0)).setCell ⟨w.heap.size+1,1,none⟩ (.slice none 0 0)) (w.heap.size+1+1) (.int .u8 0) (.int .u8 0) (.bool false) (.int .u8 0) (.int .u8 0) (.int .u8 0) (.int .u8 0) (.bool false) (.int .u8 0) (.string ByteArray.empty)) (fun b=>b < w.heap.size→F b) (st1 0) ByteArray.empty rfl
 refine Rel.tu [_,_,_,_] [_,_,_,_] rfl (fun j v hv=>?_)
 match j,hv with
 | 0,hv =>
  cases hv
  refine Rel.ag [.nils, .nils] [_,_] rfl (fun v hv=>?_) (fun j v hv=>?_)
  ·simp only [List.mem_cons,List.not_mem_nil,or_false] at hv
   rcases hv with rfl | rfl <;> rfl
  ·match j,hv with
   | 0,hv=>cases hv;exact .nils
   | 1,hv=>cases hv;exact .nils
   | j+2,hv=>simp at hv
 | 1,hv=>cases hv;exact z
 | 2,hv=>cases hv;exact .int _
 | 3,hv=>cases hv;exact .int _
 | j+4,hv=>simp at hv
theorem FM.bad_at {w:World} {c:Ctx} {q:ByteArray} {W:World} (h:FM w c q W) (x y y0 y1 y2 y3 y4 y5 y6 y7 y8 y9:Value) :
  (setCtx ((W.setCell ⟨w.heap.size+1,0,none⟩ x).setCell ⟨w.heap.size+1,1,none⟩ y) (w.heap.size+1+1) y0 y1 y2 y3 y4 y5 y6 y7 y8 y9).heap[w.heap.size+1]?=some (.cells #[x,y] 50) ∧
  (setCtx ((W.setCell ⟨w.heap.size+1,0,none⟩ x).setCell ⟨w.heap.size+1,1,none⟩ y) (w.heap.size+1+1) y0 y1 y2 y3 y4 y5 y6 y7 y8 y9).heap[w.heap.size+1+1]?=some (.cells #[y0,y1,y2,y3,y4,y5,y6,y7,y8,y9] 72):=by
 refine ⟨(setCtx_other (by omega) _ _ _ _ _ _ _ _ _ _).trans (set_both _ _ h.b1),setCtx_at (x0:=.int .u8 0) (x1:=.int .u8 0) (x2:=.bool false) (x3:=.int .u8 0) (x4:=.int .u8 0) (x5:=.int .u8 0) (x6:=.int .u8 0) (x7:=.bool false) (x8:=.int .u8 0) (x9:=.string ByteArray.empty) ?_ _ _ _ _ _ _ _ _ _ _⟩
 exact (set_other (by omega)).trans ((set_other (by omega)).trans h.b2)
end R3I

namespace R3I
open Go Go.Proofs Go.RowKit Go.Shelf Sx R3
variable {mx:Int}
theorem FM.var {w:World} {c:Ctx} {q:ByteArray} {W:World} (h:FM w c q W) (x y:Value) :
  FM w c q (((W.alloc (.cells #[.slice none 0 0, .slice none 0 0] 50)).setCell ⟨W.heap.size,0,none⟩ x).setCell ⟨W.heap.size,1,none⟩ y)∧(W.alloc (.cells #[.slice none 0 0, .slice none 0 0] 50)).heap[W.heap.size]?=some (.cells #[.slice none 0 0, .slice none 0 0] 50) ∧
  (((W.alloc (.cells #[.slice none 0 0, .slice none 0 0] 50)).setCell ⟨W.heap.size,0,none⟩ x).setCell ⟨W.heap.size,1,none⟩ y).heap[W.heap.size]?=some (.cells #[x,y] 50)∧Ext W (((W.alloc (.cells #[.slice none 0 0, .slice none 0 0] 50)).setCell ⟨W.heap.size,0,none⟩ x).setCell ⟨W.heap.size,1,none⟩ y):=by
 have hb:=World.alloc_heap_new W (.cells #[.slice none 0 0, .slice none 0 0] 50)
 have hx:Ext W (((W.alloc (.cells #[.slice none 0 0, .slice none 0 0] 50)).setCell ⟨W.heap.size,0,none⟩ x).setCell ⟨W.heap.size,1,none⟩ y):=ext_set1 (ext_set1 (Ext.push W _) (Nat.le_refl _) _ _) (Nat.le_refl _) _ _
 exact ⟨h.next hx,hb,set_both _ _ hb,hx⟩
theorem glob1 {mx:Int} {w:World} {F:Nat→Prop} (hG:GlobOk (C mx) w F):w.cell? ⟨1,0,none⟩=some (.int .i64 mx)∧F 1:=by
 obtain ⟨r,o,h1,h2,h3,h4⟩:=hG 1 1 _ rfl
 simp only [Value.pointer.injEq,Option.some.injEq,Addr.mk.injEq,Nat.add_zero] at h1
 obtain ⟨v,q1,q2,q3⟩:=h4 0 (by decide)
 obtain ⟨rfl,rfl,_⟩:=h1
 have q3:Rel w F (.int mx) v:=q3
 cases q3
 exact ⟨q1,h2⟩
theorem st_is (x:UInt8):(((x.toNat:Int)) == 20)=(x == 20):=by
 rw [Bool.eq_iff_iff,beq_iff_eq,beq_iff_eq]
 exact ⟨fun h=>UInt8.toNat_inj.1 (by have:(20:UInt8).toNat=20:=rfl;omega),fun h=>by rw [h];rfl⟩
set_option maxRecDepth 100000 in
set_option maxHeartbeats 4000000 in
theorem frag_arg1 {w:World} {F:Nat→Prop} (hG:GlobOk (C mx) w F) {s q:ByteArray} {c:Ctx} (hc:NmS c) (hq:q.data.toList=c.nm) (hf:form c=false) :
  CallsIn Fence.wide 12 Tryd.prog 41 #[.string s,ctxV c q] w (FragPost w F (.tu [noTree,(st1 0).toAV, .int 0, .int 1])):=by
 have hm0:=FM.first w c q
 have hform:=form_calls (mx:=mx) (GlobOk.ext' hG hm0.ext (F':=F) fun _ _ h=>h) c hc q hq
 rw [hf] at hform
 clear hG
 refine callsIn_of_wp Tryd.func41 rfl trivial ?_ rfl
 simp only [Tryd.ntmps41,List.size_toArray,List.length_cons,List.length_nil,Nat.reduceAdd,Nat.reduceSub,Array.replicate_succ,Array.replicate_zero,List.push_toArray,List.append_toArray,List.nil_append,List.cons_append,ctxV]
 gi_wp2_with (refine ⟨trivial,?_⟩;gi_at_call 68;refine (callsIn_wide.2 hform).mono ?_;clear hform;rintro e w2 ⟨rfl,hx2⟩;have hm:=hm0.next hx2;obtain ⟨⟨p0,p1,p2,p3,p4,p5,p6,p7,p8,p9⟩,-⟩:=cells10 hm.b0;obtain ⟨a0,a1,a2,a3⟩:=cell2 hm.b1;obtain ⟨⟨u0,u1,u2,u3,u4,u5,u6,u7,u8,u9⟩,v0,v1,v2,v3,v4,v5,v6,v7,v8,v9⟩:=cells10 hm.b2;clear hx2 hm0)
 exact bodyPost_ret (results41 _ _ (w.heap.size+1) (w.heap.size+1+1) _ _ _ _ _ _ _ _ _ _ _ _ _ _ rfl rfl rfl rfl (hm.bad_at _ _ _ _ _ _ _ _ _ _ _ _).1 (hm.bad_at _ _ _ _ _ _ _ _ _ _ _ _).2) rfl (hm.bad 0 1)
set_option maxRecDepth 100000 in
set_option maxHeartbeats 4000000 in
theorem frag_arg2 {w:World} {F:Nat→Prop} (hG:GlobOk (C mx) w F) {s q:ByteArray} {c:Ctx} (hc:NmS c) (hq:q.data.toList=c.nm) (hf:form c=true) (hst:(c.st == 20)=true) :
  CallsIn Fence.wide 12 Tryd.prog 41 #[.string s,ctxV c q] w (FragPost w F (.tu [noTree,(st1 0).toAV, .int 0, .int 1])):=by
 have hm0:=FM.first w c q
 have hform:=form_calls (mx:=mx) (GlobOk.ext' hG hm0.ext (F':=F) fun _ _ h=>h) c hc q hq
 rw [hf] at hform
 rw [← st_is] at hst
 clear hG
 refine callsIn_of_wp Tryd.func41 rfl trivial ?_ rfl
 simp only [Tryd.ntmps41,List.size_toArray,List.length_cons,List.length_nil,Nat.reduceAdd,Nat.reduceSub,Array.replicate_succ,Array.replicate_zero,List.push_toArray,List.append_toArray,List.nil_append,List.cons_append,ctxV]
 gi_wp2_with (refine ⟨trivial,?_⟩;gi_at_call 68;refine (callsIn_wide.2 hform).mono ?_;clear hform;rintro e w2 ⟨rfl,hx2⟩;have hm:=hm0.next hx2;obtain ⟨⟨p0,p1,p2,p3,p4,p5,p6,p7,p8,p9⟩,-⟩:=cells10 hm.b0;obtain ⟨a0,a1,a2,a3⟩:=cell2 hm.b1;obtain ⟨⟨u0,u1,u2,u3,u4,u5,u6,u7,u8,u9⟩,v0,v1,v2,v3,v4,v5,v6,v7,v8,v9⟩:=cells10 hm.b2;clear hx2 hm0)
 exact bodyPost_ret (results41 _ _ (w.heap.size+1) (w.heap.size+1+1) _ _ _ _ _ _ _ _ _ _ _ _ _ _ rfl rfl rfl rfl (hm.bad_at _ _ _ _ _ _ _ _ _ _ _ _).1 (hm.bad_at _ _ _ _ _ _ _ _ _ _ _ _).2) rfl (hm.bad 0 1)
set_option maxRecDepth 100000 in
set_option maxHeartbeats 4000000 in
theorem frag_parse {w:World} {F:Nat→Prop} (hG:GlobOk (C mx) w F) {s q:ByteArray} {c:Ctx} (hc:NmS c) (hq:q.data.toList=c.nm) (hf:form c=true) (hst:(c.st == 20)=false) {a er:Nat} (he:er≠0) (hp:parseT s.data.toList=.bad a er) :
  CallsIn Fence.wide 12 Tryd.prog 41 #[.string s,ctxV c q] w (FragPost w F (.tu [noTree,(st1 0).toAV, .int (a:Int), .int (er:Int)])):=by
 have hm0:=FM.first w c q
 have hform:=form_calls (mx:=mx) (GlobOk.ext' hG hm0.ext (F':=F) fun _ _ h=>h) c hc q hq
 rw [hf] at hform
 rw [← st_is] at hst
 obtain ⟨hmx,-⟩:=glob1 hG
 have h1:decide (0=(er:Int))=false:=by simp;omega
 have h2:decide ((er:Int)=0)=false:=by simp;omega
 clear hG
 refine callsIn_of_wp Tryd.func41 rfl trivial ?_ rfl
 simp only [Tryd.ntmps41,List.size_toArray,List.length_cons,List.length_nil,Nat.reduceAdd,Nat.reduceSub,Array.replicate_succ,Array.replicate_zero,List.push_toArray,List.append_toArray,List.nil_append,List.cons_append,ctxV]
 gi_wp2_with (first
  | (refine ⟨trivial,?_⟩;gi_at_call 68;refine (callsIn_wide.2 hform).mono ?_;clear hform;rintro e w2 ⟨rfl,hx2⟩;have hm:=hm0.next hx2;obtain ⟨⟨p0,p1,p2,p3,p4,p5,p6,p7,p8,p9⟩,-⟩:=cells10 hm.b0;clear hx2 hm0)
  | (refine ⟨trivial,?_⟩;gi_at_call 35;refine (callsIn_wide.2 (callsIn_wide.1 (parse_in (mx:=mx) s w2 (ext_cell hm.ext hmx)))).mono ?_;rintro e w3 hpost;rw [hp] at hpost;obtain ⟨hx3,rfl⟩:=hpost;clear p0 p1 p2 p3 p4 p5 p6 p7 p8 p9;obtain ⟨hm5,ht4,ht5,-⟩:=(hm.next hx3).var (.slice none 0 0) (.slice none 0 0);generalize hW4:w3.alloc (.cells #[.slice none 0 0, .slice none 0 0] 50)=W4 at hm5 ht4 ht5;generalize hW5:(W4.setCell ⟨w3.heap.size,0,none⟩ (.slice none 0 0)).setCell ⟨w3.heap.size,1,none⟩ (.slice none 0 0)=W5 at hm5 ht5;obtain ⟨t0,t1,t2,t3⟩:=cell2 ht4;clear ht4 ht5;obtain ⟨a0,a1,a2,a3⟩:=cell2 hm5.b1;obtain ⟨⟨u0,u1,u2,u3,u4,u5,u6,u7,u8,u9⟩,v0,v1,v2,v3,v4,v5,v6,v7,v8,v9⟩:=cells10 hm5.b2))
 exact bodyPost_ret (results41 _ _ (w.heap.size+1) (w.heap.size+1+1) _ _ _ _ _ _ _ _ _ _ _ _ _ _ rfl rfl rfl rfl (hm5.bad_at _ _ _ _ _ _ _ _ _ _ _ _).1 (hm5.bad_at _ _ _ _ _ _ _ _ _ _ _ _).2) rfl (hm5.bad (a:Int) (er:Int))
end R3I

namespace R3I
open Go Go.Proofs Go.RowKit Go.Shelf Sx R3
variable {mx:Int}
def F8 (w w2:World) (F:Nat→Prop) (b:Nat):Prop:=b < w2.heap.size→b < w.heap.size∧F b
theorem own_shape {w:World} {F:Nat→Prop} {e k:Nat} {l:List AV} {v:Value} (h:OwnOk w F e k l v):∃ (ad:Option Addr) (n c:Nat),v=.slice ad n c:=by
 obtain ⟨_,xs,hrow,_⟩:=h
 exact row_shape hrow
theorem walk69 {w w2 w3 W5:World} {F:Nat→Prop} (hG:GlobOk (C mx) w F) {q:ByteArray} {c:Ctx} (hc:NmS c) (hq:q.data.toList=c.nm) (hm2:FM w c q w2) (hx3:Ext w2 w3) (hx5:Ext w3 W5) (hm5:FM w c q W5) {nodes:List Nd} {top:List Nat} {s2 s3:Value}
  (hown:OwnOk w3 (fun b=>(b < w2.heap.size→b=1)∧s2.ownBlock≠some b) 61 9 (nodes.map Nd.av) s2) (hfr:∀ g,s2.ownBlock=some g→w2.heap.size≤g∧g < w3.heap.size) (h31:s3.oneCell'=true) (hr:Rel w3 (fun b=>(b < w2.heap.size→b=1)∧s2.ownBlock≠some b) (.ro 1 (numsAV top)) s3)
  {d:Ctx} {t:Wk} (hs69:semCall (C mx) Tryd.prog 69 [.un, .ro 1 (numsAV top),c.toAV, .ag [.ro 9 (nodes.map Nd.av), .ro 1 (numsAV top), .int 0, .int 0]]=some (.tu [d.toAV,t.av (.ro 1 (numsAV top))])) :
  Calls Tryd.prog 69 #[.pointer (some ⟨W5.heap.size,0,none⟩),s3,ctxV c q] (W5.alloc (.cells #[s2,s3, .int .i64 0, .int .i64 0] 120)) fun e w7=>∃ (q':ByteArray) (a0 a1:Option Addr) (m0 m1 k0 k1 e':Nat),e=.returned (ctxV d q')∧q'.data.toList=d.nm∧FM w c q w7∧W5.heap.size < w7.heap.size ∧
   w7.heap[W5.heap.size]?=some (.cells #[.slice a0 m0 k0, .slice a1 m1 k1, .int .i64 t.at', .int .i64 t.e] e' (0,0))∧Rel w7 (F8 w w2 F) (.ro 9 (t.nodes.map Nd.av)) (.slice a0 m0 k0)∧Rel w7 (F8 w w2 F) (.ro 1 (numsAV top)) (.slice a1 m1 k1):=by
 obtain ⟨hmx,hF1⟩:=glob1 hG
 have hlt1:=cell_lt hmx
 have hs2:=hm2.size
 have hs3:=hx3.size
 have hs5:=hx5.size
 have hx6:Ext W5 (W5.alloc (.cells #[s2,s3, .int .i64 0, .int .i64 0] 120)):=Ext.push W5 _
 have hP:=World.alloc_heap_new W5 (.cells #[s2,s3, .int .i64 0, .int .i64 0] 120)
 have hsz:(W5.alloc (.cells #[s2,s3, .int .i64 0, .int .i64 0] 120)).heap.size=W5.heap.size+1:=by simp
 have hm6:=hm5.next hx6
 generalize W5.alloc (.cells #[s2,s3, .int .i64 0, .int .i64 0] 120)=W6 at hx6 hP hsz hm6 ⊢
 have hFw:∀ b,b < w3.heap.size→((b < w2.heap.size→b=1)∧s2.ownBlock≠some b)→((b < W5.heap.size∧(b < w2.heap.size→b < w.heap.size∧F b))∧s2.ownBlock≠some b)∧W6.heap[b]?=w3.heap[b]?:=fun b hb h =>
  ⟨⟨⟨by omega,fun hlt=>by have:=h.1 hlt;subst this;exact ⟨hlt1,hF1⟩⟩,h.2⟩,(hx6.block b (by omega)).trans (hx5.block b hb)⟩
 have key:=walk_calls (mx:=mx) (w:=W6) (F:=fun b=>(b < W5.heap.size∧(b < w2.heap.size→b < w.heap.size∧F b))∧s2.ownBlock≠some b)
  (GlobOk.ext' hG (hm6.ext) (fun b hb hf=>⟨⟨by have:=hm5.size;omega,fun _=>⟨hb,hf⟩⟩,fun e=>by have:=(hfr b e).1;omega⟩)) (Pb:=W5.heap.size) (ty:=120) (nv:=s2) (tv:=s3) (v1:=s3) (v2:=ctxV c q) (at':=0) (e:=0) (u1:=.ro 1 (numsAV top)) (u2:=c.toAV) (top:=.ro 1 (numsAV top)) (nodes:=nodes.map Nd.av)
  hP (fun h=>by have:=h.1.1;omega) (fun g hg=>⟨fun h=>h.2 hg,by have:=(hfr g hg).2;omega,by have:=(hfr g hg).2;omega⟩) (hr.mono hFw) (ctx_rel _ _ c q hq) h31 (hr.mono hFw) (hown.mono hFw (fun b hb=>(hx6.block b (by have:=(hfr b hb).2;omega)).trans (hx5.block b (hfr b hb).2))) hs69
 refine Calls.mono key fun e w7 h=>?_
 obtain ⟨v,x0,x1,x2,x3,e',rfl,hb2,hP2,hrv,hown2,⟨h11,hr1⟩,hr2,hr3,hog⟩:=h
 obtain ⟨q',hq',rfl⟩:=rel_ctx hrv
 obtain ⟨a0,m0,k0,rfl⟩:=own_shape hown2
 obtain ⟨a1,k1,rfl,_⟩:=rel_ro_shape hr1
 cases hr2;cases hr3
 have hsw:=hb2.size
 have same:∀ b,b < W5.heap.size→s2.ownBlock≠some b→w7.heap[b]?=W6.heap[b]?:=fun b hb ho=>hb2.block b (by omega) (by omega) ho
 have nown:∀ b,b < w2.heap.size→s2.ownBlock≠some b:=fun b hb e=>by have:=(hfr b e).1;omega
 refine ⟨q',a0,a1,m0,_,k0,k1,e',rfl,hq',⟨⟨hb2.os.trans hm6.ext.os,hb2.tape.trans hm6.ext.tape,hb2.output.trans hm6.ext.output,by have:=hm6.ext.size;omega,fun b hb=>(same b (by omega) (nown b (by omega))).trans (hm6.ext.block b hb)⟩,by have:=hm6.size;omega,(same _ (by omega) (nown _ (by omega))).trans hm6.b0,(same _ (by omega) (nown _ (by omega))).trans hm6.b1,(same _ (by omega) (nown _ (by omega))).trans hm6.b2⟩,by omega,hP2,?_,?_⟩
 ·refine hown2.rel (fun b hb h hlt=>?_) (fun g hg hlt=>?_)
  ·rcases h.1 (by omega) with h | h
   ·exact h.1.2 hlt
   ·exact absurd h (nown b hlt)
  ·rcases (hog g hg).1 with h | h
   ·omega
   ·exact absurd h (nown g hlt)
 ·refine hr1.mono fun b hb h=>⟨fun hlt=>?_,rfl⟩
  rcases h.1 (by omega) with h | h
  ·exact h.1.2 hlt
  ·exact absurd h (nown b hlt)
end R3I

namespace R3I
open Go Go.Proofs Go.RowKit Go.Shelf Sx R3
variable {mx:Int}
theorem cell4' {W:World} {b:Nat} {x0 x1 x2 x3:Value} {t:TypeId} (h:W.heap[b]?=some (.cells #[x0,x1,x2,x3] t (0,0))):(W.cell? ⟨b,0,none⟩=some x0∧W.cell? ⟨b,1,none⟩=some x1∧W.cell? ⟨b,2,none⟩=some x2∧W.cell? ⟨b,3,none⟩=some x3)∧True:=by
 simp [World.cell?,h]
theorem FragPost.drew {w:World} {F:Nat→Prop} {r:AV} {e:Ending} {W:World} (h:FragPost w F r e W):FragPost w F r e W.drew:=by
 obtain ⟨h1,v,h2,h3⟩:=h
 exact ⟨h1.trans (Ext.drew _ _),v,h2,Rel.mono (w:=W) (w':=W.drew) (fun b _ hb=>⟨hb,rfl⟩) h3⟩
set_option maxRecDepth 100000 in
set_option maxHeartbeats 4000000 in
theorem frag_bad {w:World} {F:Nat→Prop} (hG:GlobOk (C mx) w F) {s q:ByteArray} {c:Ctx} (hc:NmS c) (hq:q.data.toList=c.nm) (hf:form c=true) (hst:(c.st == 20)=false) {nodes:List Nd} {top:List Nat} (hp:parseT s.data.toList=.ok nodes top)
  {d:Ctx} {t:Wk} (hs69:semCall (C mx) Tryd.prog 69 [.un, .ro 1 (numsAV top),c.toAV, .ag [.ro 9 (nodes.map Nd.av), .ro 1 (numsAV top), .int 0, .int 0]]=some (.tu [d.toAV,t.av (.ro 1 (numsAV top))])) (hte:t.e≠0) :
  CallsIn Fence.wide 12 Tryd.prog 41 #[.string s,ctxV c q] w (FragPost w F (.tu [noTree,(st1 0).toAV, .int t.at', .int t.e])):=by
 have hm0:=FM.first w c q
 have hform:=form_calls (mx:=mx) (GlobOk.ext' hG hm0.ext (F':=F) fun _ _ h=>h) c hc q hq
 rw [hf] at hform
 rw [← st_is] at hst
 obtain ⟨hmx,-⟩:=glob1 hG
 refine callsIn_of_wp Tryd.func41 rfl trivial ?_ rfl
 simp only [Tryd.ntmps41,List.size_toArray,List.length_cons,List.length_nil,Nat.reduceAdd,Nat.reduceSub,Array.replicate_succ,Array.replicate_zero,List.push_toArray,List.append_toArray,List.nil_append,List.cons_append,ctxV]
 gi_wp2_with (first
  | (refine ⟨trivial,?_⟩;gi_at_call 68;refine (callsIn_wide.2 hform).mono ?_;clear hform;rintro e w2 ⟨rfl,hx2⟩;have hm:=hm0.next hx2;obtain ⟨⟨p0,p1,p2,p3,p4,p5,p6,p7,p8,p9⟩,-⟩:=cells10 hm.b0;clear hx2 hm0)
  | (refine ⟨trivial,?_⟩;gi_at_call 35;refine (callsIn_wide.2 (callsIn_wide.1 (parse_in (mx:=mx) s w2 (ext_cell hm.ext hmx)))).mono ?_;rintro e w3 hpost;rw [hp] at hpost;obtain ⟨hx3,ad2,n2,c2,ad3,c3,rfl,hown,hfr,hr⟩:=hpost;clear p0 p1 p2 p3 p4 p5 p6 p7 p8 p9 hp;obtain ⟨hm5,ht4,ht5,hx35⟩:=(hm.next hx3).var (.slice ad2 n2 c2) (.slice ad3 top.length c3);generalize hW4:w3.alloc (.cells #[.slice none 0 0, .slice none 0 0] 50)=W4 at hm5 ht4 ht5 hx35;generalize hW5:(W4.setCell ⟨w3.heap.size,0,none⟩ (.slice ad2 n2 c2)).setCell ⟨w3.heap.size,1,none⟩ (.slice ad3 top.length c3)=W5 at hm5 ht5 hx35;obtain ⟨t0,t1,t2,t3⟩:=cell2 ht4;obtain ⟨z0,z1,z2,z3⟩:=cell2 ht5;have key:=walk69 (mx:=mx) hG hc hq hm hx3 hx35 hm5 hown hfr rfl hr hs69;have hx6:Ext W5 (W5.alloc (.cells #[.slice ad2 n2 c2, .slice ad3 top.length c3, .int .i64 0, .int .i64 0] 120)):=Ext.push W5 _;generalize hW6:W5.alloc (.cells #[.slice ad2 n2 c2, .slice ad3 top.length c3, .int .i64 0, .int .i64 0] 120)=W6 at key hx6;have z4:=ext_cell hx6 z1;obtain ⟨⟨p0,p1,p2,p3,p4,p5,p6,p7,p8,p9⟩,-⟩:=cells10 (hm5.next hx6).b0;have hne1:W5.heap.size≠w.heap.size+1:=(by have:=hm5.size;omega);have hne2:W5.heap.size≠w.heap.size+1+1:=(by have:=hm5.size;omega);clear hm ht4 ht5 hx3 hx35 hm5 hown hfr hr hs69 hx6 hG hmx hc hq)
  | (refine ⟨trivial,?_⟩;gi_at_call 69;refine (callsIn_wide.2 key).mono ?_;clear key;rintro e w7 ⟨q',a0,a1,m0,m1,k0,k1,e',rfl,hq',hm7,hs7,hP7,hr0,hr1⟩;clear t0 t1 t2 t3 z0 z1 z2 z3 z4 p0 p1 p2 p3 p4 p5 p6 p7 p8 p9 hW4 hW5 hW6;have hx9:Ext w7 (w7.alloc (.cells #[.int .u8 (d.st.toNat:Int), .int .u8 (d.el.toNat:Int), .bool d.en, .int .u8 (d.at'.toNat:Int), .int .u8 (d.qu.toNat:Int), .int .u8 (d.pa.toNat:Int), .int .u8 (d.su.toNat:Int), .bool d.es, .int .u8 (d.da.toNat:Int), .string q'] 72)):=Ext.push w7 _;have hb9:=World.alloc_heap_new w7 (.cells #[.int .u8 (d.st.toNat:Int), .int .u8 (d.el.toNat:Int), .bool d.en, .int .u8 (d.at'.toNat:Int), .int .u8 (d.qu.toNat:Int), .int .u8 (d.pa.toNat:Int), .int .u8 (d.su.toNat:Int), .bool d.es, .int .u8 (d.da.toNat:Int), .string q'] 72);generalize hW9:w7.alloc (.cells #[.int .u8 (d.st.toNat:Int), .int .u8 (d.el.toNat:Int), .bool d.en, .int .u8 (d.at'.toNat:Int), .int .u8 (d.qu.toNat:Int), .int .u8 (d.pa.toNat:Int), .int .u8 (d.su.toNat:Int), .bool d.es, .int .u8 (d.da.toNat:Int), .string q'] 72)=W9 at hx9 hb9;have hm9:=hm7.next hx9;have hP9:=(hx9.block _ hs7).trans hP7;obtain ⟨⟨l0,l1,l2,l3⟩,-⟩:=cell4' hP9;obtain ⟨⟨y0,y1,y2,y3,y4,y5,y6,y7,y8,y9⟩,-⟩:=cells10 hb9;obtain ⟨b0,b1,b2,b3⟩:=cell2 hm9.b1;obtain ⟨⟨u0,u1,u2,u3,u4,u5,u6,u7,u8,u9⟩,v0,v1,v2,v3,v4,v5,v6,v7,v8,v9⟩:=cells10 hm9.b2;clear hm7 hs7 hP7 hb9 hx9;unfold ctxV))
 have hde1:decide (0=t.e)=false:=by simp;omega
 obtain ⟨hf1,hf2⟩:=hm9.bad_at (.slice none 0 0) (.slice none 0 0) (.int .u8 0) (.int .u8 0) (.bool false) (.int .u8 0) (.int .u8 0) (.int .u8 0) (.int .u8 0) (.bool false) (.int .u8 0) (.string ⟨#[]⟩)
 have hpost:=hm9.bad (F:=F) t.at' t.e
 change FragPost w F _ (.returned (.tuple #[.agg #[.slice none 0 0, .slice none 0 0], .agg #[.int .u8 0, .int .u8 0, .bool false, .int .u8 0, .int .u8 0, .int .u8 0, .int .u8 0, .bool false, .int .u8 0, .string ⟨#[]⟩], .int .i64 t.at', .int .i64 t.e])) (setCtx ((W9.setCell ⟨w.heap.size+1,0,none⟩ (.slice none 0 0)).setCell ⟨w.heap.size+1,1,none⟩ (.slice none 0 0)) (w.heap.size+1+1) (.int .u8 0) (.int .u8 0) (.bool false) (.int .u8 0) (.int .u8 0) (.int .u8 0) (.int .u8 0) (.bool false) (.int .u8 0) (.string ⟨#[]⟩)) at hpost
 have hPf:=(setCtx_other (W:=(W9.setCell ⟨w.heap.size+1,0,none⟩ (.slice none 0 0)).setCell ⟨w.heap.size+1,1,none⟩ (.slice none 0 0)) hne2 (.int .u8 0) (.int .u8 0) (.bool false) (.int .u8 0) (.int .u8 0) (.int .u8 0) (.int .u8 0) (.bool false) (.int .u8 0) (.string ⟨#[]⟩)).trans ((set_other hne1).trans ((set_other hne1).trans hP9))
 generalize hWf:setCtx ((W9.setCell ⟨w.heap.size+1,0,none⟩ (.slice none 0 0)).setCell ⟨w.heap.size+1,1,none⟩ (.slice none 0 0)) (w.heap.size+1+1) (.int .u8 0) (.int .u8 0) (.bool false) (.int .u8 0) (.int .u8 0) (.int .u8 0) (.int .u8 0) (.bool false) (.int .u8 0) (.string ⟨#[]⟩)=Wf at hf1 hf2 hpost hPf
 obtain ⟨⟨x0,x1,x2,x3⟩,-⟩:=cell4' hPf
 unfold setCtx at hWf
 rw [wpIn_wide]
 clear hr0 hr1 hq' y0 y1 y2 y3 y4 y5 y6 y7 y8 y9 hW9
 go_region_law (fail)
 all_goals gi_wp2
 all_goals first
  | exact bodyPost_ret (results41 _ _ (w.heap.size+1) (w.heap.size+1+1) (.slice none 0 0) (.slice none 0 0) (.int .i64 t.at') (.int .i64 t.e) (.int .u8 0) (.int .u8 0) (.bool false) (.int .u8 0) (.int .u8 0) (.int .u8 0) (.int .u8 0) (.bool false) (.int .u8 0) (.string ⟨#[]⟩) rfl rfl rfl rfl hf1 hf2) rfl hpost.drew
end R3I

namespace R3I
open Go Go.Proofs Go.RowKit Go.Shelf Sx R3
variable {mx:Int}
theorem FM.good {w w2:World} {F:Nat→Prop} {c d:Ctx} {q q':ByteArray} {W:World} (h:FM w c q W) (hs:w.heap.size+3≤w2.heap.size) {nodes top:AV} {a0 a1:Option Addr} {m0 m1 k0 k1:Nat} (hr0:Rel W (F8 w w2 F) nodes (.slice a0 m0 k0)) (hr1:Rel W (F8 w w2 F) top (.slice a1 m1 k1)) (hq:q'.data.toList=d.nm) :
  FragPost w F (.tu [.ag [nodes,top],d.toAV, .int 0, .int 0]) (.returned (.tuple #[.agg #[.slice a0 m0 k0, .slice a1 m1 k1], .agg #[.int .u8 (d.st.toNat:Int), .int .u8 (d.el.toNat:Int), .bool d.en, .int .u8 (d.at'.toNat:Int), .int .u8 (d.qu.toNat:Int), .int .u8 (d.pa.toNat:Int), .int .u8 (d.su.toNat:Int), .bool d.es, .int .u8 (d.da.toNat:Int), .string q'], .int .i64 0, .int .i64 0]))
   (setCtx ((W.setCell ⟨w.heap.size+1,0,none⟩ (.slice a0 m0 k0)).setCell ⟨w.heap.size+1,1,none⟩ (.slice a1 m1 k1)) (w.heap.size+1+1) (.int .u8 (d.st.toNat:Int)) (.int .u8 (d.el.toNat:Int)) (.bool d.en) (.int .u8 (d.at'.toNat:Int)) (.int .u8 (d.qu.toNat:Int)) (.int .u8 (d.pa.toNat:Int)) (.int .u8 (d.su.toNat:Int)) (.bool d.es) (.int .u8 (d.da.toNat:Int)) (.string q')):=by
 have hmv:∀ b,b < W.heap.size→F8 w w2 F b→(b < w.heap.size→F b)∧(setCtx ((W.setCell ⟨w.heap.size+1,0,none⟩ (.slice a0 m0 k0)).setCell ⟨w.heap.size+1,1,none⟩ (.slice a1 m1 k1)) (w.heap.size+1+1) (.int .u8 (d.st.toNat:Int)) (.int .u8 (d.el.toNat:Int)) (.bool d.en) (.int .u8 (d.at'.toNat:Int)) (.int .u8 (d.qu.toNat:Int)) (.int .u8 (d.pa.toNat:Int)) (.int .u8 (d.su.toNat:Int)) (.bool d.es) (.int .u8 (d.da.toNat:Int)) (.string q')).heap[b]?=W.heap[b]?:=fun b hb hf=>by
  refine ⟨fun hlt=>(hf (by omega)).2,?_⟩
  have hne:b≠w.heap.size+1:=fun e=>by have:=(hf (by omega)).1;omega
  have hne2:b≠w.heap.size+1+1:=fun e=>by have:=(hf (by omega)).1;omega
  exact (setCtx_other hne2 _ _ _ _ _ _ _ _ _ _).trans ((set_other hne).trans (set_other hne))
 have g0:=hr0.mono hmv
 have g1:=hr1.mono hmv
 refine ⟨setCtx_ext (ext_set1 (ext_set1 h.ext (by omega) _ _) (by omega) _ _) (by omega) _ _ _ _ _ _ _ _ _ _,_,rfl,?_⟩
 generalize setCtx ((W.setCell ⟨w.heap.size+1,0,none⟩ (.slice a0 m0 k0)).setCell ⟨w.heap.size+1,1,none⟩ (.slice a1 m1 k1)) (w.heap.size+1+1) (.int .u8 (d.st.toNat:Int)) (.int .u8 (d.el.toNat:Int)) (.bool d.en) (.int .u8 (d.at'.toNat:Int)) (.int .u8 (d.qu.toNat:Int)) (.int .u8 (d.pa.toNat:Int)) (.int .u8 (d.su.toNat:Int)) (.bool d.es) (.int .u8 (d.da.toNat:Int)) (.string q')=Wf at g0 g1 ⊢
 have z:=ctx_rel Wf (fun b=>b < w.heap.size→F b) d q' hq
 refine Rel.tu [_,_,_,_] [_,_,_,_] rfl (fun j v hv=>?_)
 match j,hv with
 | 0,hv =>
  cases hv
  refine Rel.ag [nodes,top] [_,_] rfl (fun v hv=>?_) (fun j v hv=>?_)
  ·simp only [List.mem_cons,List.not_mem_nil,or_false] at hv
   rcases hv with rfl | rfl <;> rfl
  ·match j,hv with
   | 0,hv=>cases hv;exact g0
   | 1,hv=>cases hv;exact g1
   | j+2,hv=>simp at hv
 | 1,hv=>cases hv;exact z
 | 2,hv=>cases hv;exact .int _
 | 3,hv=>cases hv;exact .int _
 | j+4,hv=>simp at hv
set_option maxRecDepth 100000 in
set_option maxHeartbeats 4000000 in
theorem frag_ok {w:World} {F:Nat→Prop} (hG:GlobOk (C mx) w F) {s q:ByteArray} {c:Ctx} (hc:NmS c) (hq:q.data.toList=c.nm) (hf:form c=true) (hst:(c.st == 20)=false) {nodes:List Nd} {top:List Nat} (hp:parseT s.data.toList=.ok nodes top)
  {d:Ctx} {t:Wk} (hs69:semCall (C mx) Tryd.prog 69 [.un, .ro 1 (numsAV top),c.toAV, .ag [.ro 9 (nodes.map Nd.av), .ro 1 (numsAV top), .int 0, .int 0]]=some (.tu [d.toAV,t.av (.ro 1 (numsAV top))])) (hte:t.e=0) :
  CallsIn Fence.wide 12 Tryd.prog 41 #[.string s,ctxV c q] w (FragPost w F (.tu [.ag [.ro 9 (t.nodes.map Nd.av), .ro 1 (numsAV top)],d.toAV, .int 0, .int 0])):=by
 have hm0:=FM.first w c q
 have hform:=form_calls (mx:=mx) (GlobOk.ext' hG hm0.ext (F':=F) fun _ _ h=>h) c hc q hq
 rw [hf] at hform
 rw [← st_is] at hst
 obtain ⟨hmx,-⟩:=glob1 hG
 refine callsIn_of_wp Tryd.func41 rfl trivial ?_ rfl
 simp only [Tryd.ntmps41,List.size_toArray,List.length_cons,List.length_nil,Nat.reduceAdd,Nat.reduceSub,Array.replicate_succ,Array.replicate_zero,List.push_toArray,List.append_toArray,List.nil_append,List.cons_append,ctxV]
 gi_wp2_with (first
  | (refine ⟨trivial,?_⟩;gi_at_call 68;refine (callsIn_wide.2 hform).mono ?_;clear hform;rintro e w2 ⟨rfl,hx2⟩;have hm:=hm0.next hx2;have hs2:=hm.size;obtain ⟨⟨p0,p1,p2,p3,p4,p5,p6,p7,p8,p9⟩,-⟩:=cells10 hm.b0;clear hx2 hm0)
  | (refine ⟨trivial,?_⟩;gi_at_call 35;refine (callsIn_wide.2 (callsIn_wide.1 (parse_in (mx:=mx) s w2 (ext_cell hm.ext hmx)))).mono ?_;rintro e w3 hpost;rw [hp] at hpost;obtain ⟨hx3,ad2,n2,c2,ad3,c3,rfl,hown,hfr,hr⟩:=hpost;clear p0 p1 p2 p3 p4 p5 p6 p7 p8 p9 hp;obtain ⟨hm5,ht4,ht5,hx35⟩:=(hm.next hx3).var (.slice ad2 n2 c2) (.slice ad3 top.length c3);generalize hW4:w3.alloc (.cells #[.slice none 0 0, .slice none 0 0] 50)=W4 at hm5 ht4 ht5 hx35;generalize hW5:(W4.setCell ⟨w3.heap.size,0,none⟩ (.slice ad2 n2 c2)).setCell ⟨w3.heap.size,1,none⟩ (.slice ad3 top.length c3)=W5 at hm5 ht5 hx35;obtain ⟨t0,t1,t2,t3⟩:=cell2 ht4;obtain ⟨z0,z1,z2,z3⟩:=cell2 ht5;have key:=walk69 (mx:=mx) hG hc hq hm hx3 hx35 hm5 hown hfr rfl hr hs69;have hx6:Ext W5 (W5.alloc (.cells #[.slice ad2 n2 c2, .slice ad3 top.length c3, .int .i64 0, .int .i64 0] 120)):=Ext.push W5 _;generalize hW6:W5.alloc (.cells #[.slice ad2 n2 c2, .slice ad3 top.length c3, .int .i64 0, .int .i64 0] 120)=W6 at key hx6;have z4:=ext_cell hx6 z1;obtain ⟨⟨p0,p1,p2,p3,p4,p5,p6,p7,p8,p9⟩,-⟩:=cells10 (hm5.next hx6).b0;have hne1:W5.heap.size≠w.heap.size+1:=(by have:=hm5.size;omega);have hne2:W5.heap.size≠w.heap.size+1+1:=(by have:=hm5.size;omega);clear hm ht4 ht5 hx3 hx35 hm5 hown hfr hr hs69 hx6 hG hmx hc hq)
  | (refine ⟨trivial,?_⟩;gi_at_call 69;refine (callsIn_wide.2 key).mono ?_;clear key;rintro e w7 ⟨q',a0,a1,m0,m1,k0,k1,e',rfl,hq',hm7,hs7,hP7,hr0,hr1⟩;clear t0 t1 t2 t3 z0 z1 z2 z3 z4 p0 p1 p2 p3 p4 p5 p6 p7 p8 p9 hW4 hW5 hW6;have hx9:Ext w7 (w7.alloc (.cells #[.int .u8 (d.st.toNat:Int), .int .u8 (d.el.toNat:Int), .bool d.en, .int .u8 (d.at'.toNat:Int), .int .u8 (d.qu.toNat:Int), .int .u8 (d.pa.toNat:Int), .int .u8 (d.su.toNat:Int), .bool d.es, .int .u8 (d.da.toNat:Int), .string q'] 72)):=Ext.push w7 _;have hb9:=World.alloc_heap_new w7 (.cells #[.int .u8 (d.st.toNat:Int), .int .u8 (d.el.toNat:Int), .bool d.en, .int .u8 (d.at'.toNat:Int), .int .u8 (d.qu.toNat:Int), .int .u8 (d.pa.toNat:Int), .int .u8 (d.su.toNat:Int), .bool d.es, .int .u8 (d.da.toNat:Int), .string q'] 72);generalize hW9:w7.alloc (.cells #[.int .u8 (d.st.toNat:Int), .int .u8 (d.el.toNat:Int), .bool d.en, .int .u8 (d.at'.toNat:Int), .int .u8 (d.qu.toNat:Int), .int .u8 (d.pa.toNat:Int), .int .u8 (d.su.toNat:Int), .bool d.es, .int .u8 (d.da.toNat:Int), .string q'] 72)=W9 at hx9 hb9;have hm9:=hm7.next hx9;have hr0':=hr0.mono (w':=W9) (fun b hb hf=>⟨hf,hx9.block b hb⟩);have hr1':=hr1.mono (w':=W9) (fun b hb hf=>⟨hf,hx9.block b hb⟩);clear hr0 hr1;have hP9:=(hx9.block _ hs7).trans hP7;obtain ⟨⟨l0,l1,l2,l3⟩,-⟩:=cell4' hP9;obtain ⟨⟨y0,y1,y2,y3,y4,y5,y6,y7,y8,y9⟩,-⟩:=cells10 hb9;obtain ⟨b0,b1,b2,b3⟩:=cell2 hm9.b1;obtain ⟨⟨u0,u1,u2,u3,u4,u5,u6,u7,u8,u9⟩,v0,v1,v2,v3,v4,v5,v6,v7,v8,v9⟩:=cells10 hm9.b2;have hs77:=hm7.size;clear hm7 hs7 hP7 hx9;rw [hte] at hP9 l3;unfold ctxV))
 obtain ⟨hf1,hf2⟩:=hm9.bad_at (.slice a0 m0 k0) (.slice a1 m1 k1) (.int .u8 (d.st.toNat:Int)) (.int .u8 (d.el.toNat:Int)) (.bool d.en) (.int .u8 (d.at'.toNat:Int)) (.int .u8 (d.qu.toNat:Int)) (.int .u8 (d.pa.toNat:Int)) (.int .u8 (d.su.toNat:Int)) (.bool d.es) (.int .u8 (d.da.toNat:Int)) (.string q')
 have hpost:=hm9.good hs2 hr0' hr1' hq'
 have hPf:=(setCtx_other (W:=((W9.setCell ⟨w.heap.size+1,0,none⟩ (.slice a0 m0 k0)).setCell ⟨w.heap.size+1,1,none⟩ (.slice a1 m1 k1))) hne2 (.int .u8 (d.st.toNat:Int)) (.int .u8 (d.el.toNat:Int)) (.bool d.en) (.int .u8 (d.at'.toNat:Int)) (.int .u8 (d.qu.toNat:Int)) (.int .u8 (d.pa.toNat:Int)) (.int .u8 (d.su.toNat:Int)) (.bool d.es) (.int .u8 (d.da.toNat:Int)) (.string q')).trans ((set_other hne1).trans ((set_other hne1).trans hP9))
 have hCf:=(setCtx_other (W:=((W9.setCell ⟨w.heap.size+1,0,none⟩ (.slice a0 m0 k0)).setCell ⟨w.heap.size+1,1,none⟩ (.slice a1 m1 k1))) (b:=w.heap.size+1+1) (k:=w7.heap.size) (by omega) (.int .u8 (d.st.toNat:Int)) (.int .u8 (d.el.toNat:Int)) (.bool d.en) (.int .u8 (d.at'.toNat:Int)) (.int .u8 (d.qu.toNat:Int)) (.int .u8 (d.pa.toNat:Int)) (.int .u8 (d.su.toNat:Int)) (.bool d.es) (.int .u8 (d.da.toNat:Int)) (.string q')).trans ((set_other (show w7.heap.size≠w.heap.size+1 by omega)).trans ((set_other (show w7.heap.size≠w.heap.size+1 by omega)).trans hb9))
 generalize hWf:setCtx ((W9.setCell ⟨w.heap.size+1,0,none⟩ (.slice a0 m0 k0)).setCell ⟨w.heap.size+1,1,none⟩ (.slice a1 m1 k1)) (w.heap.size+1+1) (.int .u8 (d.st.toNat:Int)) (.int .u8 (d.el.toNat:Int)) (.bool d.en) (.int .u8 (d.at'.toNat:Int)) (.int .u8 (d.qu.toNat:Int)) (.int .u8 (d.pa.toNat:Int)) (.int .u8 (d.su.toNat:Int)) (.bool d.es) (.int .u8 (d.da.toNat:Int)) (.string q')=Wf at hf1 hf2 hpost hPf hCf
 obtain ⟨⟨x0,x1,x2,x3⟩,-⟩:=cell4' hPf
 obtain ⟨⟨g0,g1,g2,g3,g4,g5,g6,g7,g8,g9⟩,-⟩:=cells10 hCf
 unfold setCtx at hWf
 rw [wpIn_wide]
 clear hq' hW9 hP9 hb9
 go_region_law (fail)
 all_goals gi_wp2
 all_goals first
  | exact bodyPost_ret (results41 _ _ (w.heap.size+1) (w.heap.size+1+1) (.slice a0 m0 k0) (.slice a1 m1 k1) (.int .i64 0) (.int .i64 0) (.int .u8 (d.st.toNat:Int)) (.int .u8 (d.el.toNat:Int)) (.bool d.en) (.int .u8 (d.at'.toNat:Int)) (.int .u8 (d.qu.toNat:Int)) (.int .u8 (d.pa.toNat:Int)) (.int .u8 (d.su.toNat:Int)) (.bool d.es) (.int .u8 (d.da.toNat:Int)) (.string q') rfl rfl rfl rfl hf1 hf2) rfl hpost.drew
end R3I

namespace R3
open Go Go.Proofs Sx
theorem treeOf_bad {ws:List Wd} {a e:Nat} (h:treeOf ws=.bad a e):e=3∨e=4:=by
 obtain ⟨r,q,e1,_⟩:=(parse_tot ws (3 * ws.length+1)).1 0 ⟨0,[]⟩ [] (Nat.zero_le _) (by simp)
 unfold treeOf at h
 rw [e1] at h
 cases r with
 | bad a' e'=>simp only [treeR] at h;cases h;exact (parse_er ws _).1 _ _ _ _ _ _ e1
 | ok top =>
  simp only [treeR] at h
  split at h
  ·cases h;exact .inr rfl
  ·cases h
theorem parseT_bad {l:List UInt8} {a e:Nat} (h:parseT l=.bad a e):e≠0:=by
 unfold parseT at h
 split at h
 ·cases h;decide
 ·split at h
  ·cases h;decide
  ·rcases treeOf_bad h with rfl | rfl <;> decide
end R3

namespace R3
open Go Go.Proofs Sx
inductive Ts where
 | nil
 | leaf (w:Wd) (k:Ts)
 | blk (w:Wd) (b:Ts) (e:Wd) (k:Ts)
 | alt (w:Wd) (b:Ts) (l:Wd) (c:Ts) (e:Wd) (k:Ts)
def nLeaf (w:Wd):Nd:=⟨ndKind w.kind,w.at',w.text,w.root,w.names,none,none,false,0⟩
def nOpen (w:Wd) (b:List Nat):Nd:=⟨0,w.at',w.text,w.root,w.names,some b,none,false,0⟩
def nBlk (w:Wd) (b:List Nat):Nd:=⟨ndKind w.kind,w.at',w.text,w.root,w.names,some b,none,false,0⟩
def nAlt (w:Wd) (b e:List Nat):Nd:=⟨ndKind w.kind,w.at',w.text,w.root,w.names,some b,some e,true,0⟩
theorem nOpen_eq (w:Wd) (b:List Nat):Nd.mk (newNd w).kind (newNd w).at' (newNd w).text (newNd w).root (newNd w).names (some b) (newNd w).els (newNd w).has (newNd w).hole=nOpen w b:=rfl
namespace Ts
def flat:Ts→List Wd
 | nil=>[]
 | leaf w k=>w :: k.flat
 | blk w b e k=>w :: (b.flat ++ e :: k.flat)
 | alt w b l c e k=>w :: (b.flat ++ l :: (c.flat ++ e :: k.flat))
def size:Ts→Nat
 | nil=>0
 | leaf _ k=>1+k.size
 | blk _ b _ k=>1+b.size+k.size
 | alt _ b _ c _ k=>1+b.size+c.size+k.size
def depth:Ts→Nat
 | nil=>0
 | leaf _ k=>k.depth
 | blk _ b _ k=>max (b.depth+1) k.depth
 | alt _ b _ c _ k=>max (max (b.depth+1) (c.depth+1)) k.depth
def tops:Nat→Ts→List Nat
 | _,nil=>[]
 | m,leaf _ k=>m :: tops (m+1) k
 | m,blk _ b _ k=>m :: tops (m+1+b.size) k
 | m,alt _ b _ c _ k=>m :: tops (m+1+b.size+c.size) k
def arr:Nat→Ts→List Nd
 | _,nil=>[]
 | m,leaf w k=>nLeaf w :: arr (m+1) k
 | m,blk w b _ k=>nBlk w (tops (m+1) b) :: (arr (m+1) b ++ arr (m+1+b.size) k)
 | m,alt w b _ c _ k=>nAlt w (tops (m+1) b) (tops (m+1+b.size) c) :: (arr (m+1) b ++ (arr (m+1+b.size) c ++ arr (m+1+b.size+c.size) k))
def ok:Ts→Prop
 | nil=>True
 | leaf w k=>(w.kind≠2∧w.kind≠3∧w.kind≠4∧w.kind≠5)∧k.ok
 | blk w b e k=>(w.kind=2∨w.kind=4)∧e.kind=5∧b.ok∧k.ok
 | alt w b l c e k=>w.kind=2∧l.kind=3∧e.kind=5∧b.ok∧c.ok∧k.ok
def app:Ts→Ts→Ts
 | nil,t=>t
 | leaf w k,t=>leaf w (k.app t)
 | blk w b e k,t=>blk w b e (k.app t)
 | alt w b l c e k,t=>alt w b l c e (k.app t)
theorem flat_app:∀ (s t:Ts),(s.app t).flat=s.flat ++ t.flat
 | nil,t=>rfl
 | leaf w k,t=>by simp [app,flat,flat_app k t]
 | blk w b e k,t=>by simp [app,flat,flat_app k t]
 | alt w b l c e k,t=>by simp [app,flat,flat_app k t]
theorem depth_app:∀ (s t:Ts),(s.app t).depth=max s.depth t.depth
 | nil,t=>by simp [app,depth]
 | leaf w k,t=>by simp [app,depth,depth_app k t]
 | blk w b e k,t=>by simp [app,depth,depth_app k t]
 | alt w b l c e k,t=>by simp [app,depth,depth_app k t]
theorem ok_app:∀ (s t:Ts),s.ok→t.ok→(s.app t).ok
 | nil,t,_,h=>h
 | leaf w k,t,hs,h=>⟨hs.1,ok_app k t hs.2 h⟩
 | blk w b e k,t,hs,h=>⟨hs.1,hs.2.1,hs.2.2.1,ok_app k t hs.2.2.2 h⟩
 | alt w b l c e k,t,hs,h=>⟨hs.1,hs.2.1,hs.2.2.1,hs.2.2.2.1,hs.2.2.2.2.1,ok_app k t hs.2.2.2.2.2 h⟩
theorem tops_app:∀ (s t:Ts) (m:Nat),(s.app t).tops m=s.tops m ++ t.tops (m+s.size)
 | nil,t,m=>rfl
 | leaf w k,t,m=>by simp only [app,tops,tops_app k t,size,List.cons_append];rw [Nat.add_assoc m 1]
 | blk w b e k,t,m=>by simp only [app,tops,tops_app k t,size,List.cons_append];rw [show m+1+b.size+k.size=m+(1+b.size+k.size) by omega]
 | alt w b l c e k,t,m=>by simp only [app,tops,tops_app k t,size,List.cons_append];rw [show m+1+b.size+c.size+k.size=m+(1+b.size+c.size+k.size) by omega]
theorem arr_app:∀ (s t:Ts) (m:Nat),(s.app t).arr m=s.arr m ++ t.arr (m+s.size)
 | nil,t,m=>rfl
 | leaf w k,t,m=>by simp only [app,arr,arr_app k t,size,List.cons_append];rw [Nat.add_assoc m 1]
 | blk w b e k,t,m=>by simp only [app,arr,arr_app k t,size,List.cons_append,List.append_assoc];rw [show m+1+b.size+k.size=m+(1+b.size+k.size) by omega]
 | alt w b l c e k,t,m=>by simp only [app,arr,arr_app k t,size,List.cons_append,List.append_assoc];rw [show m+1+b.size+c.size+k.size=m+(1+b.size+c.size+k.size) by omega]
theorem arr_len:∀ (s:Ts) (m:Nat),(s.arr m).length=s.size
 | nil,m=>rfl
 | leaf w k,m=>by simp [arr,size,arr_len k,Nat.add_comm]
 | blk w b e k,m=>by simp [arr,size,arr_len k,arr_len b];omega
 | alt w b l c e k,m=>by simp [arr,size,arr_len k,arr_len b,arr_len c];omega
theorem flat_len:∀ (s:Ts),s.size≤s.flat.length
 | nil=>Nat.le_refl _
 | leaf w k=>by simp only [flat,size,List.length_cons,List.length_append];have:=flat_len k;omega
 | blk w b e k=>by simp only [flat,size,List.length_cons,List.length_append];have:=flat_len k;have:=flat_len b;omega
 | alt w b l c e k=>by simp only [flat,size,List.length_cons,List.length_append];have:=flat_len k;have:=flat_len b;have:=flat_len c;omega
end Ts
theorem tops_len:∀ (t:Ts) (m:Nat),(t.tops m).length≤t.size
 | .nil,m=>Nat.le_refl _
 | .leaf w k,m=>by simp only [Ts.tops,Ts.size,List.length_cons];have:=tops_len k (m+1);omega
 | .blk w b e k,m=>by simp only [Ts.tops,Ts.size,List.length_cons];have:=tops_len k (m+1+b.size);omega
 | .alt w b l x e k,m=>by simp only [Ts.tops,Ts.size,List.length_cons];have:=tops_len k (m+1+b.size+x.size);omega
theorem drop_at {ws:List Wd} {i:Nat} {w:Wd} (h:ws[i]?=some w):ws.drop i=w :: ws.drop (i+1):=by
 obtain ⟨hi,rfl⟩:=List.getElem?_eq_some_iff.1 h
 exact List.drop_eq_getElem_cons hi
theorem at_drop {ws r:List Wd} {i:Nat} {w:Wd} (h:ws.drop i=w :: r):ws[i]?=some w∧ws.drop (i+1)=r:=by
 constructor
 ·have:=congrArg (fun l=>l[0]?) h
  simpa using this
 ·have:=congrArg (List.drop 1) h
  simpa [List.drop_drop] using this
theorem parse_snd (ws:List Wd):∀ n,
  (∀ d p out x q,d≤16→pList ws n d p out=some (.ok x,q)→∃ ts:Ts,ts.ok∧d+ts.depth≤16∧ws.drop p.at'=ts.flat ++ ws.drop q.at'∧q.nodes=p.nodes ++ ts.arr p.nodes.length∧x=out ++ ts.tops p.nodes.length∧∀ v,ws[q.at']?=some v→v.kind=3∨v.kind=5) ∧
  (∀ d w p x q,d≤16→w.kind≠3→w.kind≠5→pNode ws n d w p=some (.ok x,q)→∃ ts:Ts,ts.ok∧d+ts.depth≤16∧w :: ws.drop p.at'=ts.flat ++ ws.drop q.at'∧q.nodes=p.nodes ++ ts.arr p.nodes.length∧[x]=ts.tops p.nodes.length) ∧
  (∀ d i w p x q a y,d < 16→pBody ws n d i w p=some (.ok x,q)→p.nodes=a ++ [y]→a.length=i →
   (∃ (b:Ts) (e:Wd),b.ok∧e.kind=5∧d+1+b.depth≤16∧ws.drop p.at'=b.flat ++ e :: ws.drop q.at'∧q.nodes=a ++ { y with body:=some (b.tops (i+1)) } :: b.arr (i+1)) ∨
   (∃ (b:Ts) (l:Wd) (c:Ts) (e:Wd),w.kind≠4∧l.kind=3∧b.ok∧c.ok∧e.kind=5∧d+1+b.depth≤16∧d+1+c.depth≤16∧ws.drop p.at'=b.flat ++ l :: (c.flat ++ e :: ws.drop q.at') ∧
    q.nodes=a ++ { y with body:=some (b.tops (i+1)),els:=some (c.tops (i+1+b.size)),has:=true } :: (b.arr (i+1) ++ c.arr (i+1+b.size))))
 | 0=>⟨fun d p out x q _ h=>by simp [pList] at h,fun d w p x q _ _ _ h=>by simp [pNode] at h,fun d i w p x q a y _ h=>by simp [pBody] at h⟩
 | n+1=>by
  obtain ⟨hL,hN,hB⟩:=parse_snd ws n
  refine ⟨fun d p out x q hd h=>?_,fun d w p x q hd k3 k5 h=>?_,fun d i w p x q a y hd h hp hi=>?_⟩
  ·unfold pList at h
   split at h
   ·rename_i hw
    cases h
    exact ⟨.nil,trivial,hd,rfl,by simp [Ts.arr],by simp [Ts.tops],fun v hv=>by rw [hw] at hv;cases hv⟩
   ·rename_i w hw
    split at h
    ·rename_i hk
     cases h
     refine ⟨.nil,trivial,hd,rfl,by simp [Ts.arr],by simp [Ts.tops],fun v hv=>?_⟩
     rw [hw] at hv;cases hv
     simpa using hk
    ·rename_i hk
     simp only [Bool.or_eq_true,beq_iff_eq,not_or] at hk
     split at h
     ·cases h
     ·cases h
     ·rename_i i q1 e
      obtain ⟨t1,a1,a2,a3,a4,a5⟩:=hN _ _ _ _ _ hd hk.1 hk.2 e
      obtain ⟨t2,b1,b2,b3,b4,b5,b6⟩:=hL _ _ _ _ _ hd h
      simp only at a3 a4 a5
      refine ⟨t1.app t2,Ts.ok_app _ _ a1 b1,by rw [Ts.depth_app];omega,?_,?_,?_,b6⟩
      ·rw [drop_at hw,a3,b3,Ts.flat_app,List.append_assoc]
      ·rw [b4,a4,Ts.arr_app,List.append_assoc,List.length_append,Ts.arr_len]
      ·rw [b5,List.append_assoc,a5,a4,Ts.tops_app,List.length_append,Ts.arr_len]
  ·unfold pNode at h
   simp only at h
   split at h
   ·rename_i hk
    simp only [Bool.or_eq_true,beq_iff_eq] at hk
    split at h
    ·cases h
    ·rename_i hd'
     split at h
     ·cases h
     ·cases h
     ·rename_i r e
      cases h
      rcases hB _ _ _ _ _ _ p.nodes (newNd w) (by omega) e rfl rfl with ⟨b,e',c1,c2,c3,c4,c5⟩ | ⟨b,l,c,e',c0,c1,c2,c3,c4,c5,c6,c7,c8⟩
      ·refine ⟨.blk w b e' .nil,⟨hk,c2,c1,trivial⟩,by simp [Ts.depth];omega,?_,?_,by simp [Ts.tops]⟩
       ·simp only at c4
        rw [c4];simp [Ts.flat]
       ·show modNd r.nodes _ _=_
        rw [c5,modNd_at rfl]
        simp only [Ts.arr,List.append_nil]
        rfl
      ·refine ⟨.alt w b l c e' .nil,⟨?_,c1,c4,c2,c3,trivial⟩,by simp [Ts.depth];omega,?_,?_,by simp [Ts.tops]⟩
       ·rcases hk with hk | hk
        ·exact hk
        ·exact absurd hk c0
       ·simp only at c7
        rw [c7];simp [Ts.flat]
       ·show modNd r.nodes _ _=_
        rw [c8,modNd_at rfl]
        simp only [Ts.arr,List.append_nil]
        rfl
   ·rename_i hk
    simp only [Bool.or_eq_true,beq_iff_eq,not_or] at hk
    cases h
    refine ⟨.leaf w .nil,⟨⟨hk.1,k3,hk.2,k5⟩,trivial⟩,by simp [Ts.depth];omega,by simp [Ts.flat],?_,by simp [Ts.tops]⟩
    show modNd _ _ _=_
    rw [modNd_at rfl]
    simp only [Ts.arr]
    rfl
  ·unfold pBody at h
   have hpl:p.nodes.length=i+1:=by rw [hp,List.length_append,hi];rfl
   split at h
   ·cases h
   ·cases h
   ·rename_i body q1 e
    obtain ⟨b,b1,b2,b3,b4,b5,b6⟩:=hL _ _ _ _ _ (by omega) e
    rw [List.nil_append,hpl] at b5
    subst b5
    rw [hpl] at b4
    have hm:modNd q1.nodes i (fun x=>{ x with body:=some (b.tops (i+1)) })=a ++ { y with body:=some (b.tops (i+1)) } :: b.arr (i+1):=by
     rw [b4,hp,List.append_assoc,List.singleton_append,modNd_at hi.symm]
    simp only at h
    rw [hm] at h
    split at h
    ·cases h
    ·rename_i v hv
     have hv':=b6 v hv
     split at h
     ·rename_i hk
      have hk:v.kind=3:=by simpa using hk
      split at h
      ·cases h
      ·rename_i hk4
       have hk4:w.kind≠4:=by simpa using hk4
       split at h
       ·cases h
       ·cases h
       ·rename_i els r1 e2
        obtain ⟨c,c1,c2,c3,c4,c5,c6⟩:=hL _ _ _ _ _ (by omega) e2
        simp only at c3 c4 c5
        have hl2:(a ++ { y with body:=some (b.tops (i+1)) } :: b.arr (i+1)).length=i+1+b.size:=by rw [List.length_append,List.length_cons,hi,Ts.arr_len];omega
        rw [hl2] at c4 c5
        rw [List.nil_append] at c5
        subst c5
        have hm2:modNd r1.nodes i (fun x=>{ x with els:=some (c.tops (i+1+b.size)),has:=true })=a ++ { y with body:=some (b.tops (i+1)),els:=some (c.tops (i+1+b.size)),has:=true } :: (b.arr (i+1) ++ c.arr (i+1+b.size)):=by
         rw [c4,List.append_assoc,List.cons_append,modNd_at hi.symm]
        rw [hm2] at h
        split at h
        ·cases h
        ·rename_i u hu
         split at h
         ·cases h
         ·rename_i hk3
          have hk3:u.kind≠3:=by simpa using hk3
          cases h
          refine .inr ⟨b,v,c,u,hk4,hk,b1,c1,(c6 u hu).resolve_left hk3,by omega,by omega,?_,rfl⟩
          show _=_ ++ _ :: (_ ++ _ :: ws.drop (r1.at'+1))
          rw [b3,drop_at hv,c3,drop_at hu]
     ·rename_i hk3
      have hk3:v.kind≠3:=by simpa using hk3
      cases h
      refine .inl ⟨b,v,b1,hv'.resolve_left hk3,by omega,?_,rfl⟩
      show _=_ ++ _ :: ws.drop (q1.at'+1)
      rw [b3,drop_at hv]
def stopper (r:List Wd):Prop:=∀ v,r[0]?=some v→v.kind=3∨v.kind=5
theorem stop_cons {e:Wd} {r:List Wd} (h:e.kind=3∨e.kind=5):stopper (e :: r):=fun v hv=>by
 simp at hv;subst hv;exact h
theorem parse_cmp (ws:List Wd):∀ (ts:Ts) (d:Nat) (p:Ps) (out:List Nat) (n:Nat) (rest:List Wd),ts.ok→d+ts.depth≤16→ws.drop p.at'=ts.flat ++ rest→stopper rest→3 * ts.flat.length+1≤n →
  pList ws n d p out=some (.ok (out ++ ts.tops p.nodes.length),⟨p.at'+ts.flat.length,p.nodes ++ ts.arr p.nodes.length⟩)
 | .nil,d,p,out,n,rest,ho,hd,hw,hr,hn=>by
  obtain ⟨k,rfl⟩:∃ k,n=k+1:=⟨n - 1,by simp [Ts.flat] at hn;omega⟩
  unfold pList
  simp only [Ts.flat,List.nil_append] at hw
  have h0:ws[p.at']?=rest[0]?:=by rw [← hw];simp
  have fin:(some (Pr.ok out,p):Option (Pr (List Nat)×Ps))=some (.ok (out ++ Ts.nil.tops p.nodes.length),⟨p.at'+Ts.nil.flat.length,p.nodes ++ Ts.nil.arr p.nodes.length⟩):=by simp [Ts.tops,Ts.flat,Ts.arr]
  cases hv:ws[p.at']? with
  | none=>exact fin
  | some v =>
   simp only
   rw [if_pos (by simpa using hr v (h0.symm.trans hv))]
   exact fin
 | .leaf w k,d,p,out,n,rest,ho,hd,hw,hr,hn=>by
  obtain ⟨⟨k2,k3,k4,k5⟩,hk⟩:=ho
  simp only [Ts.flat,List.length_cons] at hn
  obtain ⟨n,rfl⟩:∃ k,n=k+1+1:=⟨n - 2,by omega⟩
  obtain ⟨g1,g2⟩:=at_drop (show ws.drop p.at'=w :: (k.flat ++ rest) from hw)
  have e1:pNode ws (n+1) d w ⟨p.at'+1,p.nodes⟩=some (.ok p.nodes.length,⟨p.at'+1,p.nodes ++ [nLeaf w]⟩):=by
   unfold pNode
   simp only
   rw [if_neg (by simp [k2,k4]),modNd_at rfl]
   try rfl
  unfold pList
  simp only [g1,e1]
  rw [if_neg (by simp [k3,k5])]
  have ih:=parse_cmp ws k d ⟨p.at'+1,p.nodes ++ [nLeaf w]⟩ (out ++ [p.nodes.length]) (n+1) rest hk hd g2 hr (by omega)
  rw [ih]
  simp only [Ts.tops,Ts.flat,Ts.arr,List.length_append,List.length_cons,List.length_nil,Nat.zero_add,List.append_assoc,List.singleton_append]
  rw [show p.at'+1+k.flat.length=p.at'+(k.flat.length+1) by omega]
 | .blk w b e k,d,p,out,n,rest,ho,hd,hw,hr,hn=>by
  obtain ⟨hk,ke,hb,hk'⟩:=ho
  simp only [Ts.flat,List.length_cons,List.length_append] at hn
  simp only [Ts.depth] at hd
  obtain ⟨n,rfl⟩:∃ k,n=k+1+1+1:=⟨n - 3,by omega⟩
  obtain ⟨g1,g2⟩:=at_drop (show ws.drop p.at'=w :: ((b.flat ++ e :: k.flat) ++ rest) from hw)
  have k3:w.kind≠3∧w.kind≠5:=by rcases hk with h | h <;> rw [h] <;> decide
  have ihb:=parse_cmp ws b (d+1) ⟨p.at'+1,p.nodes ++ [newNd w]⟩ [] n (e :: (k.flat ++ rest)) hb (by omega) (by rw [g2];simp) (stop_cons (.inr ke)) (by omega)
  have ge:ws.drop (p.at'+1+b.flat.length)=e :: (k.flat ++ rest):=by
   rw [← List.drop_drop,g2,List.append_assoc,List.drop_left];rfl
  obtain ⟨g3,g4⟩:=at_drop ge
  simp only [List.length_append,List.length_cons,List.length_nil,Nat.zero_add,List.append_assoc,List.singleton_append,List.nil_append] at ihb
  have e1:pNode ws (n+1+1) d w ⟨p.at'+1,p.nodes⟩=some (.ok p.nodes.length,⟨p.at'+1+b.flat.length+1,p.nodes ++ nBlk w (b.tops (p.nodes.length+1)) :: b.arr (p.nodes.length+1)⟩):=by
   unfold pNode
   simp only
   rw [if_pos (by simpa using hk),if_neg (by omega)]
   unfold pBody
   rw [ihb]
   simp only [modNd_at,g3,nOpen_eq]
   rw [if_neg (by rw [ke];decide)]
   simp only [modNd_at]
   try rfl
  unfold pList
  simp only [g1,e1]
  rw [if_neg (by simp [k3])]
  have ih:=parse_cmp ws k d ⟨p.at'+1+b.flat.length+1,p.nodes ++ nBlk w (b.tops (p.nodes.length+1)) :: b.arr (p.nodes.length+1)⟩ (out ++ [p.nodes.length]) (n+1+1) rest hk' (by omega) g4 hr (by omega)
  rw [ih]
  simp only [Ts.tops,Ts.flat,Ts.arr,List.length_append,List.length_cons,Ts.arr_len,List.append_assoc,List.singleton_append,List.cons_append,List.nil_append]
  rw [show p.nodes.length+(b.size+1)=p.nodes.length+1+b.size by omega,show p.at'+1+b.flat.length+1+k.flat.length=p.at'+(b.flat.length+(k.flat.length+1)+1) by omega]
 | .alt w b l c e k,d,p,out,n,rest,ho,hd,hw,hr,hn=>by
  obtain ⟨hk,kl,ke,hb,hc,hk'⟩:=ho
  simp only [Ts.flat,List.length_cons,List.length_append] at hn
  simp only [Ts.depth] at hd
  obtain ⟨n,rfl⟩:∃ k,n=k+1+1+1:=⟨n - 3,by omega⟩
  obtain ⟨g1,g2⟩:=at_drop (show ws.drop p.at'=w :: ((b.flat ++ l :: (c.flat ++ e :: k.flat)) ++ rest) from hw)
  have ihb:=parse_cmp ws b (d+1) ⟨p.at'+1,p.nodes ++ [newNd w]⟩ [] n (l :: (c.flat ++ e :: k.flat) ++ rest) hb (by omega) (by rw [g2];simp) (stop_cons (.inl kl)) (by omega)
  have gl:ws.drop (p.at'+1+b.flat.length)=l :: ((c.flat ++ e :: k.flat) ++ rest):=by
   rw [← List.drop_drop,g2,List.append_assoc,List.drop_left];rfl
  obtain ⟨g3,g4⟩:=at_drop gl
  simp only [List.length_append,List.length_cons,List.length_nil,Nat.zero_add,List.append_assoc,List.singleton_append,List.nil_append] at ihb
  have ihc:=parse_cmp ws c (d+1) ⟨p.at'+1+b.flat.length+1,p.nodes ++ nOpen w (b.tops (p.nodes.length+1)) :: b.arr (p.nodes.length+1)⟩ [] n (e :: (k.flat ++ rest)) hc (by omega) (by rw [g4];simp) (stop_cons (.inr ke)) (by omega)
  have ge:ws.drop (p.at'+1+b.flat.length+1+c.flat.length)=e :: (k.flat ++ rest):=by
   rw [← List.drop_drop,g4,List.append_assoc,List.drop_left];rfl
  obtain ⟨g5,g6⟩:=at_drop ge
  simp only [List.length_append,List.length_cons,Ts.arr_len,List.nil_append,List.append_assoc,List.cons_append] at ihc
  rw [show p.nodes.length+(b.size+1)=p.nodes.length+1+b.size by omega] at ihc
  have e1:pNode ws (n+1+1) d w ⟨p.at'+1,p.nodes⟩=some (.ok p.nodes.length,⟨p.at'+1+b.flat.length+1+c.flat.length+1,p.nodes ++ nAlt w (b.tops (p.nodes.length+1)) (c.tops (p.nodes.length+1+b.size)) :: (b.arr (p.nodes.length+1) ++ c.arr (p.nodes.length+1+b.size))⟩):=by
   unfold pNode
   simp only
   rw [if_pos (by simp [hk]),if_neg (by omega)]
   unfold pBody
   rw [ihb]
   simp only [modNd_at,g3,nOpen_eq]
   rw [if_pos (by simp [kl]),if_neg (by simp [hk]),ihc]
   simp only [modNd_at,g5]
   rw [if_neg (by rw [ke];decide)]
   simp only [modNd_at]
   try rfl
  unfold pList
  simp only [g1,e1]
  rw [if_neg (by simp [hk])]
  have ih:=parse_cmp ws k d ⟨p.at'+1+b.flat.length+1+c.flat.length+1,p.nodes ++ nAlt w (b.tops (p.nodes.length+1)) (c.tops (p.nodes.length+1+b.size)) :: (b.arr (p.nodes.length+1) ++ c.arr (p.nodes.length+1+b.size))⟩ (out ++ [p.nodes.length]) (n+1+1) rest hk' (by omega) g6 hr (by omega)
  rw [ih]
  simp only [Ts.tops,Ts.flat,Ts.arr,List.length_append,List.length_cons,Ts.arr_len,List.append_assoc,List.singleton_append,List.cons_append,List.nil_append]
  rw [show p.nodes.length+(b.size+c.size+1)=p.nodes.length+1+b.size+c.size by omega,show p.at'+1+b.flat.length+1+c.flat.length+1+k.flat.length=p.at'+(b.flat.length+(c.flat.length+(k.flat.length+1)+1)+1) by omega]
end R3

namespace R3
open Go Go.Proofs Sx
theorem treeOf_flat {ts:Ts} (h:ts.ok) (hd:ts.depth≤16):treeOf ts.flat=.ok (ts.arr 0) (ts.tops 0):=by
 unfold treeOf
 rw [parse_cmp ts.flat ts 0 ⟨0,[]⟩ [] (3 * ts.flat.length+1) [] h (by omega) (by simp) (fun v hv=>by simp at hv) (by omega)]
 simp only [treeR,Nat.zero_add,List.nil_append,List.length_nil]
 rw [List.getElem?_eq_none (Nat.le_refl _)]
theorem of_treeOf {ws:List Wd} {nodes:List Nd} {top:List Nat} (h:treeOf ws=.ok nodes top):∃ ts:Ts,ts.ok∧ts.depth≤16∧ws=ts.flat∧nodes=ts.arr 0∧top=ts.tops 0:=by
 obtain ⟨r,q,e1,h1,h2,h3⟩:=(parse_tot ws (3 * ws.length+1)).1 0 ⟨0,[]⟩ [] (Nat.zero_le _) (by simp)
 unfold treeOf at h
 rw [e1] at h
 cases r with
 | bad a' e'=>simp only [treeR] at h;cases h
 | ok top' =>
  simp only [treeR] at h
  split at h
  ·cases h
  ·rename_i hq
   cases h
   have hge:ws.length≤q.at':=List.getElem?_eq_none_iff.1 hq
   obtain ⟨ts,g1,g2,g3,g4,g5,_⟩:=(parse_snd ws _).1 _ _ _ _ _ (by omega) e1
   rw [List.drop_zero,List.drop_eq_nil_of_le hge,List.append_nil] at g3
   exact ⟨ts,g1,by omega,g3,by simpa using g4,by simpa using g5⟩
end R3

namespace R3I
open Go Go.Proofs Sx R3
inductive WR where
 | ok (c:Ctx)
 | bad (a e:Int)
def WR.then':WR→(Ctx→WR)→WR
 | .ok c,f=>f c
 | .bad a e,_=>.bad a e
def WR.get (c:Ctx):WR→Ctx
 | .ok d=>d
 | .bad _ _=>c
def leafGo (w:Wd) (c:Ctx):WR :=
 if ndKind w.kind == 0 then (if (bytesB c w.text).2 ≥ 0 then .bad ((w.at':Int)+(bytesB c w.text).2) 5 else .ok (bytesB c w.text).1)
 else if ndKind w.kind == 1 then (if hole c == 0 then .bad (w.at':Int) 6 else .ok (after c))
 else .ok c
def tsGo:Ts→Ctx→WR
 | .nil,c=>.ok c
 | .leaf w k,c=>(leafGo w c).then' (tsGo k)
 | .blk w b _ k,c=>(tsGo b c).then' fun a=>if a=c then tsGo k c else .bad (w.at':Int) 7
 | .alt w b _ x _ k,c=>(tsGo b c).then' fun a=>(tsGo x c).then' fun y=>if a=y then tsGo k y else .bad (w.at':Int) 7
def holeOf (w:Wd) (c:Ctx):UInt8:=if ndKind w.kind == 1 then hole c else 0
def nHole (w:Wd) (c:Ctx):Nd:=⟨ndKind w.kind,w.at',w.text,w.root,w.names,none,none,false,holeOf w c⟩
def arrH:Nat→Ts→Ctx→List Nd
 | _, .nil,_=>[]
 | m, .leaf w k,c=>nHole w c :: arrH (m+1) k ((leafGo w c).get c)
 | m, .blk w b _ k,c=>nBlk w (b.tops (m+1)) :: (arrH (m+1) b c ++ arrH (m+1+b.size) k c)
 | m, .alt w b _ x _ k,c=>nAlt w (b.tops (m+1)) (x.tops (m+1+b.size)) :: (arrH (m+1) b c ++ (arrH (m+1+b.size) x c ++ arrH (m+1+b.size+x.size) k ((tsGo b c).get c)))
theorem arrH_len:∀ (s:Ts) (m:Nat) (c:Ctx),(arrH m s c).length=s.size
 | .nil,m,c=>rfl
 | .leaf w k,m,c=>by simp [arrH,Ts.size,arrH_len k];omega
 | .blk w b e k,m,c=>by simp [arrH,Ts.size,arrH_len k,arrH_len b];omega
 | .alt w b l x e k,m,c=>by simp [arrH,Ts.size,arrH_len k,arrH_len b,arrH_len x];omega
theorem at_len {A R:List Nd} {x:Nd}:(A ++ x :: R)[A.length]?=some x:=by simp
theorem leaf_kind {w:Wd} (h2:w.kind≠2) (h4:w.kind≠4):ndKind w.kind≠2∧ndKind w.kind≠3:=by
 unfold ndKind
 repeat' split
 all_goals first
  | decide
  | (rename_i h;exact absurd (by simpa using h) h2)
  | (rename_i h;exact absurd (by simpa using h) h4)
theorem blk_kind {w:Wd} (h:w.kind=2∨w.kind=4):ndKind w.kind=2∨ndKind w.kind=3:=by
 rcases h with h | h <;> rw [h] <;> decide
theorem wcons {n i:Nat} {l:List Nat} {c d:Ctx} {s t:Wk} (h:wNode n i c s=some (d,t)) (ht:t.e=0):wList (n+1) (i :: l) c s=wList n l d t:=by
 rw [wList,h]
 simp [ht]
theorem wcons_bad {n i:Nat} {l:List Nat} {c d:Ctx} {s t:Wk} (h:wNode n i c s=some (d,t)) (ht:t.e≠0):wList (n+1) (i :: l) c s=some (d,t):=by
 rw [wList,h]
 simp [ht]
theorem walk_ts:∀ (ts:Ts) (c:Ctx) (A B:List Nd) (x:Int) (n:Nat),ts.ok→2 * ts.size+1≤n →
  (∀ d,tsGo ts c=.ok d→wList n (ts.tops A.length) c ⟨A ++ (ts.arr A.length ++ B),x,0⟩=some (d,⟨A ++ (arrH A.length ts c ++ B),x,0⟩)) ∧
  (∀ a e,tsGo ts c=.bad a e→e≠0∧∃ c' N',wList n (ts.tops A.length) c ⟨A ++ (ts.arr A.length ++ B),x,0⟩=some (c',⟨N',a,e⟩))
 | .nil,c,A,B,x,n,ho,hn=>by
  obtain ⟨n,rfl⟩:∃ k,n=k+1:=⟨n - 1,by omega⟩
  refine ⟨fun d h=>?_,fun a e h=>by simp [tsGo] at h⟩
  simp only [tsGo,WR.ok.injEq] at h
  subst h
  simp only [Ts.tops,Ts.arr,arrH]
  rw [wList]
 | .leaf w k,c,A,B,x,n,ho,hn=>by
  obtain ⟨⟨k2,k3,k4,k5⟩,hk⟩:=ho
  simp only [Ts.size] at hn
  obtain ⟨n,rfl⟩:∃ k,n=k+1+1:=⟨n - 2,by omega⟩
  obtain ⟨q2,q3⟩:=leaf_kind k2 k4
  have hg:(A ++ (Ts.arr A.length (.leaf w k) ++ B))[A.length]?=some (nLeaf w):=by
   simp only [Ts.arr,List.cons_append];exact at_len
  have hnode:(∀ d,leafGo w c=.ok d→wNode (n+1) A.length c ⟨A ++ (Ts.arr A.length (.leaf w k) ++ B),x,0⟩=some (d,⟨A ++ nHole w c :: (k.arr (A.length+1) ++ B),x,0⟩)) ∧
    (∀ a e,leafGo w c=.bad a e→e≠0∧wNode (n+1) A.length c ⟨A ++ (Ts.arr A.length (.leaf w k) ++ B),x,0⟩=some (badC,⟨A ++ (Ts.arr A.length (.leaf w k) ++ B),a,e⟩)):=by
   unfold leafGo
   rw [wNode]
   simp only [hg]
   show (∀ d,_→(if ndKind w.kind == 0 then _ else _)=_)∧(∀ a e,_→_∧(if ndKind w.kind == 0 then _ else _)=_)
   by_cases h0:(ndKind w.kind == 0)=true
   ·have h01:(ndKind w.kind == 1)=false:=by rw [beq_iff_eq] at h0;rw [h0];rfl
    have hH:nHole w c=nLeaf w:=by unfold nHole holeOf;rw [h01];rfl
    simp only [if_pos h0,hH]
    show (∀ d,(if (bytesB c w.text).2 ≥ 0 then _ else _)=_→(if (bytesB c w.text).2 ≥ 0 then _ else _)=_)∧(∀ a e,(if (bytesB c w.text).2 ≥ 0 then _ else _)=_→_∧(if (bytesB c w.text).2 ≥ 0 then _ else _)=_)
    by_cases hb:(bytesB c w.text).2 ≥ 0
    ·simp only [if_pos hb]
     refine ⟨fun d h=>(by cases h),fun a e h=>?_⟩
     cases h
     exact ⟨by decide,rfl⟩
    ·simp only [if_neg hb]
     refine ⟨fun d h=>?_,fun a e h=>(by cases h)⟩
     cases h
     simp only [Ts.arr,List.cons_append]
     rfl
   ·simp only [if_neg h0]
    show (∀ d,_→(if ndKind w.kind == 1 then _ else _)=_)∧(∀ a e,_→_∧(if ndKind w.kind == 1 then _ else _)=_)
    by_cases h1:(ndKind w.kind == 1)=true
    ·have hH:nHole w c={ nLeaf w with hole:=hole c }:=by unfold nHole holeOf;rw [if_pos h1];rfl
     simp only [if_pos h1,hH]
     by_cases hh:(hole c == 0)=true
     ·simp only [if_pos hh]
      refine ⟨fun d h=>(by cases h),fun a e h=>?_⟩
      cases h
      exact ⟨by decide,rfl⟩
     ·simp only [if_neg hh]
      refine ⟨fun d h=>?_,fun a e h=>(by cases h)⟩
      cases h
      simp only [Ts.arr,List.cons_append,modNd_at]
    ·have hH:nHole w c=nLeaf w:=by unfold nHole holeOf;rw [if_neg h1];rfl
     simp only [if_neg h1,hH]
     refine ⟨fun d h=>?_,fun a e h=>(by cases h)⟩
     cases h
     show (if ndKind w.kind == 2 then _ else if ndKind w.kind == 3 then _ else _)=_
     rw [if_neg (by simpa using q2),if_neg (by simpa using q3)]
     simp only [Ts.arr,List.cons_append]
  refine ⟨fun d h=>?_,fun a e h=>?_⟩
  ·unfold tsGo at h
   cases hl:leafGo w c with
   | bad a e=>rw [hl] at h;cases h
   | ok c1 =>
    rw [hl] at h
    have h:tsGo k c1=.ok d:=h
    have ih:=(walk_ts k c1 (A ++ [nHole w c]) B x (n+1) hk (by omega)).1 d h
    simp only [List.length_append,List.length_cons,List.length_nil,Nat.zero_add,List.append_assoc,List.singleton_append] at ih
    show wList (n+1+1) (A.length :: k.tops (A.length+1)) c _=_
    rw [wcons (hnode.1 c1 hl) rfl,ih]
    simp only [arrH,hl,WR.get,List.cons_append]
  ·unfold tsGo at h
   cases hl:leafGo w c with
   | bad a' e' =>
    rw [hl] at h;cases h
    obtain ⟨g1,g2⟩:=hnode.2 a e hl
    exact ⟨g1,_,_,wcons_bad g2 g1⟩
   | ok c1 =>
    rw [hl] at h
    have h:tsGo k c1=.bad a e:=h
    obtain ⟨i1,c',N',i2⟩:=(walk_ts k c1 (A ++ [nHole w c]) B x (n+1) hk (by omega)).2 a e h
    simp only [List.length_append,List.length_cons,List.length_nil,Nat.zero_add,List.append_assoc,List.singleton_append] at i2
    exact ⟨i1,c',N',(wcons (hnode.1 c1 hl) rfl).trans i2⟩
 | .blk w b e' k,c,A,B,x,n,ho,hn=>by
  obtain ⟨hk,ke,hb,hk'⟩:=ho
  simp only [Ts.size] at hn
  obtain ⟨n,rfl⟩:∃ k,n=k+1+1:=⟨n - 2,by omega⟩
  have hbk:=blk_kind hk
  have he:A ++ (Ts.arr A.length (.blk w b e' k) ++ B)=A ++ nBlk w (b.tops (A.length+1)) :: (b.arr (A.length+1) ++ (k.arr (A.length+1+b.size) ++ B)):=by simp [Ts.arr]
  have he2:A ++ (arrH A.length (.blk w b e' k) c ++ B)=A ++ nBlk w (b.tops (A.length+1)) :: (arrH (A.length+1) b c ++ (arrH (A.length+1+b.size) k c ++ B)):=by simp [arrH]
  rw [he,he2]
  clear he he2
  have hg:(A ++ nBlk w (b.tops (A.length+1)) :: (b.arr (A.length+1) ++ (k.arr (A.length+1+b.size) ++ B)))[A.length]?=some (nBlk w (b.tops (A.length+1))):=at_len
  have hkv:(nBlk w (b.tops (A.length+1))).kind=2∨(nBlk w (b.tops (A.length+1))).kind=3:=hbk
  have hbv:(nBlk w (b.tops (A.length+1))).body=some (b.tops (A.length+1)):=rfl
  have hev:(nBlk w (b.tops (A.length+1))).els=none:=rfl
  have hav:(nBlk w (b.tops (A.length+1))).at'=w.at':=rfl
  generalize nBlk w (b.tops (A.length+1))=nd at hg hkv hbv hev hav ⊢
  have ihb:=walk_ts b c (A ++ [nd]) (k.arr (A.length+1+b.size) ++ B) x n hb (by omega)
  simp only [List.length_append,List.length_cons,List.length_nil,Nat.zero_add,List.append_assoc,List.singleton_append] at ihb
  have hnode:(∀ a,tsGo b c=.ok a→wNode (n+1) A.length c ⟨A ++ nd :: (b.arr (A.length+1) ++ (k.arr (A.length+1+b.size) ++ B)),x,0⟩=if a=c then some (c,⟨A ++ nd :: (arrH (A.length+1) b c ++ (k.arr (A.length+1+b.size) ++ B)),x,0⟩) else some (badC,⟨A ++ nd :: (arrH (A.length+1) b c ++ (k.arr (A.length+1+b.size) ++ B)),(w.at':Int),7⟩)) ∧
    (∀ a e,tsGo b c=.bad a e→e≠0∧∃ c' N',wNode (n+1) A.length c ⟨A ++ nd :: (b.arr (A.length+1) ++ (k.arr (A.length+1+b.size) ++ B)),x,0⟩=some (c',⟨N',a,e⟩)):=by
   rw [wNode]
   simp only [hg]
   rcases hkv with hkv | hkv
   ·simp only [hkv,hbv,hev,hav,Option.getD_some,Option.getD_none,show ((2:UInt8) == 0)=false from rfl,show ((2:UInt8) == 1)=false from rfl,Bool.false_eq_true,if_false,beq_self_eq_true,if_true]
    refine ⟨fun a h=>?_,fun a e h=>?_⟩
    ·have i1:=ihb.1 a h
     obtain ⟨n,rfl⟩:∃ k,n=k+1:=⟨n - 1,by omega⟩
     rw [i1]
     simp only [bne_self_eq_false,Bool.false_eq_true,if_false]
     rw [wList]
     simp only [beq_self_eq_true,Bool.true_and]
     by_cases hac:a=c
     ·simp [hac]
     ·simp [hac,Wk.fail]
    ·obtain ⟨i1,c',N',i2⟩:=ihb.2 a e h
     refine ⟨i1,c',N',?_⟩
     rw [i2]
     simp only
     rw [if_pos (by simpa using i1)]
   ·simp only [hkv,hbv,hav,Option.getD_some,show ((3:UInt8) == 0)=false from rfl,show ((3:UInt8) == 1)=false from rfl,show ((3:UInt8) == 2)=false from rfl,Bool.false_eq_true,if_false,beq_self_eq_true,if_true]
    refine ⟨fun a h=>?_,fun a e h=>?_⟩
    ·have i1:=ihb.1 a h
     rw [i1]
     simp only [beq_self_eq_true,Bool.true_and]
     by_cases hac:a=c
     ·simp [hac]
     ·simp [hac,Wk.fail]
    ·obtain ⟨i1,c',N',i2⟩:=ihb.2 a e h
     refine ⟨i1,c',N',?_⟩
     rw [i2]
     simp only
     rw [if_neg (by simp [i1])]
  have ihk:=walk_ts k c (A ++ nd :: arrH (A.length+1) b c) B x (n+1) hk' (by omega)
  simp only [List.length_append,List.length_cons,arrH_len,List.append_assoc,List.cons_append] at ihk
  rw [show A.length+(b.size+1)=A.length+1+b.size by omega] at ihk
  refine ⟨fun d h=>?_,fun a e h=>?_⟩
  ·unfold tsGo at h
   cases hl:tsGo b c with
   | bad a e=>rw [hl] at h;cases h
   | ok c1 =>
    rw [hl] at h
    have h:(if c1=c then tsGo k c else _)=WR.ok d:=h
    by_cases hc:c1=c
    ·rw [if_pos hc] at h
     have:=hnode.1 c1 hl
     rw [if_pos hc] at this
     show wList (n+1+1) (A.length :: k.tops (A.length+1+b.size)) c _=_
     rw [wcons this rfl,ihk.1 d h]
    ·rw [if_neg hc] at h;cases h
  ·unfold tsGo at h
   cases hl:tsGo b c with
   | bad a' e' =>
    rw [hl] at h;cases h
    obtain ⟨g1,c',N',g2⟩:=hnode.2 a e hl
    exact ⟨g1,_,_,wcons_bad g2 g1⟩
   | ok c1 =>
    rw [hl] at h
    have h:(if c1=c then tsGo k c else _)=WR.bad a e:=h
    have this:=hnode.1 c1 hl
    by_cases hc:c1=c
    ·rw [if_pos hc] at h this
     obtain ⟨i1,c',N',i2⟩:=ihk.2 a e h
     exact ⟨i1,c',N',(wcons this rfl).trans i2⟩
    ·rw [if_neg hc] at h this;cases h
     exact ⟨by decide,_,_,wcons_bad this (by show (7:Int)≠0;decide)⟩
 | .alt w b l y e' k,c,A,B,x,n,ho,hn=>by
  obtain ⟨hk,kl,ke,hb,hy,hk'⟩:=ho
  simp only [Ts.size] at hn
  obtain ⟨n,rfl⟩:∃ k,n=k+1+1:=⟨n - 2,by omega⟩
  have hk2:ndKind w.kind=2:=by rw [hk];rfl
  have he:A ++ (Ts.arr A.length (.alt w b l y e' k) ++ B)=A ++ nAlt w (b.tops (A.length+1)) (y.tops (A.length+1+b.size)) :: (b.arr (A.length+1) ++ (y.arr (A.length+1+b.size) ++ (k.arr (A.length+1+b.size+y.size) ++ B))):=by simp [Ts.arr]
  have he2:A ++ (arrH A.length (.alt w b l y e' k) c ++ B)=A ++ nAlt w (b.tops (A.length+1)) (y.tops (A.length+1+b.size)) :: (arrH (A.length+1) b c ++ (arrH (A.length+1+b.size) y c ++ (arrH (A.length+1+b.size+y.size) k ((tsGo b c).get c) ++ B))):=by simp [arrH]
  rw [he,he2]
  clear he he2
  have hg:(A ++ nAlt w (b.tops (A.length+1)) (y.tops (A.length+1+b.size)) :: (b.arr (A.length+1) ++ (y.arr (A.length+1+b.size) ++ (k.arr (A.length+1+b.size+y.size) ++ B))))[A.length]?=some (nAlt w (b.tops (A.length+1)) (y.tops (A.length+1+b.size))):=at_len
  have hkv:(nAlt w (b.tops (A.length+1)) (y.tops (A.length+1+b.size))).kind=2:=hk2
  have hbv:(nAlt w (b.tops (A.length+1)) (y.tops (A.length+1+b.size))).body=some (b.tops (A.length+1)):=rfl
  have hev:(nAlt w (b.tops (A.length+1)) (y.tops (A.length+1+b.size))).els=some (y.tops (A.length+1+b.size)):=rfl
  have hav:(nAlt w (b.tops (A.length+1)) (y.tops (A.length+1+b.size))).at'=w.at':=rfl
  generalize (nAlt w (b.tops (A.length+1)) (y.tops (A.length+1+b.size)))=nd at hg hkv hbv hev hav ⊢
  have ihb:=walk_ts b c (A ++ [nd]) (y.arr (A.length+1+b.size) ++ (k.arr (A.length+1+b.size+y.size) ++ B)) x n hb (by omega)
  simp only [List.length_append,List.length_cons,List.length_nil,Nat.zero_add,List.append_assoc,List.singleton_append] at ihb
  have ihy:=walk_ts y c (A ++ nd :: arrH (A.length+1) b c) (k.arr (A.length+1+b.size+y.size) ++ B) x n hy (by omega)
  simp only [List.length_append,List.length_cons,arrH_len,List.append_assoc,List.cons_append] at ihy
  rw [show A.length+(b.size+1)=A.length+1+b.size by omega] at ihy
  have ihk:=fun c2=>walk_ts k c2 (A ++ nd :: (arrH (A.length+1) b c ++ arrH (A.length+1+b.size) y c)) B x (n+1) hk' (by omega)
  simp only [List.length_append,List.length_cons,arrH_len,List.append_assoc,List.cons_append] at ihk
  rw [show A.length+(b.size+y.size+1)=A.length+1+b.size+y.size by omega] at ihk
  have hnode:wNode (n+1) A.length c ⟨A ++ nd :: (b.arr (A.length+1) ++ (y.arr (A.length+1+b.size) ++ (k.arr (A.length+1+b.size+y.size) ++ B))),x,0⟩=match wList n (b.tops (A.length+1)) c ⟨A ++ nd :: (b.arr (A.length+1) ++ (y.arr (A.length+1+b.size) ++ (k.arr (A.length+1+b.size+y.size) ++ B))),x,0⟩ with
    | none=>none
    | some (a,t)=>if t.e != 0 then some (a,t) else match wList n (y.tops (A.length+1+b.size)) c t with
     | none=>none
     | some (b,u)=>if u.e == 0 && !decide (a=b) then u.fail w.at' 7 else some (b,u):=by
   rw [wNode]
   simp only [hg,hkv,hbv,hev,hav,Option.getD_some,show ((2:UInt8) == 0)=false from rfl,show ((2:UInt8) == 1)=false from rfl,Bool.false_eq_true,if_false,beq_self_eq_true,if_true]
   try rfl
  show (∀ d,_→wList (n+1+1) (A.length :: k.tops (A.length+1+b.size+y.size)) c _=_)∧(∀ a e,_→_∧∃ c' N',wList (n+1+1) (A.length :: k.tops (A.length+1+b.size+y.size)) c _=_)
  have hgo:tsGo (.alt w b l y e' k) c=(tsGo b c).then' fun a=>(tsGo y c).then' fun z=>if a=z then tsGo k z else .bad (w.at':Int) 7:=rfl
  simp only [hgo]
  cases hl:tsGo b c with
  | bad a1 e1 =>
   refine ⟨fun d h=>(by cases h),fun a e h=>?_⟩
   cases h
   obtain ⟨i1,c',N',i2⟩:=ihb.2 _ _ hl
   refine ⟨i1,c',N',?_⟩
   rw [i2] at hnode
   simp only at hnode
   rw [if_pos (by simpa using i1)] at hnode
   exact wcons_bad hnode i1
  | ok a1 =>
   have i2:=ihb.1 a1 hl
   rw [i2] at hnode
   simp only [bne_self_eq_false,Bool.false_eq_true,if_false] at hnode
   cases hr:tsGo y c with
   | bad a2 e2 =>
    refine ⟨fun d h=>(by cases h),fun a e h=>?_⟩
    cases h
    obtain ⟨j1,c',N',j2⟩:=ihy.2 _ _ hr
    refine ⟨j1,c',N',?_⟩
    rw [j2] at hnode
    simp only at hnode
    rw [if_neg (by simp [j1])] at hnode
    exact wcons_bad hnode j1
   | ok a2 =>
    have j2:=ihy.1 a2 hr
    rw [j2] at hnode
    simp only [beq_self_eq_true,Bool.true_and] at hnode
    show (∀ d,(if a1=a2 then tsGo k a2 else _)=WR.ok d→_)∧(∀ a e,(if a1=a2 then tsGo k a2 else _)=WR.bad a e→_)
    by_cases hc:a1=a2
    ·subst hc
     simp only [if_true]
     rw [if_neg (by simp)] at hnode
     refine ⟨fun d h=>?_,fun a e h=>?_⟩
     ·rw [wcons hnode rfl,(ihk a1).1 d h]
      rfl
     ·obtain ⟨i1,c',N',i2⟩:=(ihk a1).2 a e h
      exact ⟨i1,c',N',(wcons hnode rfl).trans i2⟩
    ·simp only [if_neg hc]
     rw [if_pos (by simp [hc])] at hnode
     refine ⟨fun d h=>(by cases h),fun a e h=>?_⟩
     cases h
     exact ⟨by decide,_,_,wcons_bad hnode (by show (7:Int)≠0;decide)⟩
end R3I

namespace R3I
open Go Go.Proofs Go.RowKit Go.Shelf Sx R3
variable {mx:Int}
theorem wordsF_small:∀ (n:Nat) (r:List UInt8) (a:Nat) (acc:List Wd) (N:Nat),a+r.length≤N→(∀ w ∈ acc,w.at'≤N∧w.text.length≤N)→∀ w ∈ (wordsF n r a acc).1,w.at'≤N∧w.text.length≤N
 | 0,r,a,acc,N,hN,h=>h
 | n+1,r,a,acc,N,hN,h=>by
  rw [wordsF]
  split
  ·exact h
  ·split
   ·have:=idxO_le r
    refine wordsF_small n _ _ _ N (by rw [List.length_drop];omega) fun w hw=>?_
    rcases List.mem_append.1 hw with hw | hw
    ·exact h w hw
    ·obtain rfl:=List.mem_singleton.1 hw
     refine ⟨by show a≤N;omega,?_⟩
     show (r.take (idxO r)).length≤N
     rw [List.length_take];omega
   ·split
    ·exact h
    ·rename_i h0 h1
     split
     ·have hroom:=Lib.index_room r brC (by omega)
      have e:(brC.length:Int)=2:=rfl
      refine wordsF_small n _ _ _ N (by rw [List.length_drop];omega) fun w hw=>?_
      rcases List.mem_append.1 hw with hw | hw
      ·exact h w hw
      ·obtain rfl:=List.mem_singleton.1 hw
       exact ⟨by show a≤N;omega,Nat.zero_le _⟩
     ·exact h
theorem arr_sml {N:Nat} (hN:N≤1000000):∀ (t:Ts) (m:Nat),t.size≤N→(∀ w ∈ t.flat,w.at'≤N∧w.text.length≤N)→Sml (t.arr m)
 | .nil,m,hs,hw,x,hx=>by cases hx
 | .leaf w k,m,hs,hw,x,hx=>by
  simp only [Ts.size] at hs
  have h0:=hw w (by simp [Ts.flat])
  rcases List.mem_cons.1 hx with rfl | hx
  ·exact ⟨by show w.at'≤_;omega,by show w.text.length≤_;omega,Nat.zero_le _,Nat.zero_le _⟩
  ·exact arr_sml hN k _ (by omega) (fun y hy=>hw y (by simp [Ts.flat,hy])) x hx
 | .blk w b e k,m,hs,hw,x,hx=>by
  simp only [Ts.size] at hs
  have h0:=hw w (by simp [Ts.flat])
  have h1:=tops_len b (m+1)
  rcases List.mem_cons.1 hx with rfl | hx
  ·exact ⟨by show w.at'≤_;omega,by show w.text.length≤_;omega,by show (b.tops (m+1)).length≤_;omega,Nat.zero_le _⟩
  ·rcases List.mem_append.1 hx with hx | hx
   ·exact arr_sml hN b _ (by omega) (fun y hy=>hw y (by simp [Ts.flat,hy])) x hx
   ·exact arr_sml hN k _ (by omega) (fun y hy=>hw y (by simp [Ts.flat,hy])) x hx
 | .alt w b l c e k,m,hs,hw,x,hx=>by
  simp only [Ts.size] at hs
  have h0:=hw w (by simp [Ts.flat])
  have h1:=tops_len b (m+1)
  have h2:=tops_len c (m+1+b.size)
  rcases List.mem_cons.1 hx with rfl | hx
  ·exact ⟨by show w.at'≤_;omega,by show w.text.length≤_;omega,by show (b.tops (m+1)).length≤_;omega,by show (c.tops (m+1+b.size)).length≤_;omega⟩
  ·rcases List.mem_append.1 hx with hx | hx
   ·exact arr_sml hN b _ (by omega) (fun y hy=>hw y (by simp [Ts.flat,hy])) x hx
   ·rcases List.mem_append.1 hx with hx | hx
    ·exact arr_sml hN c _ (by omega) (fun y hy=>hw y (by simp [Ts.flat,hy])) x hx
    ·exact arr_sml hN k _ (by omega) (fun y hy=>hw y (by simp [Ts.flat,hy])) x hx
theorem parse_ts {l:List UInt8} {nodes:List Nd} {top:List Nat} (h:parseT l=.ok nodes top):∃ ts:Ts,ts.ok∧nodes=ts.arr 0∧top=ts.tops 0∧Sml nodes∧top.length≤1000000:=by
 have hl:l.length≤65536:=by
  unfold parseT at h
  split at h
  ·cases h
  ·omega
 have ht:treeOf (wordsW l).1=.ok nodes top:=by
  unfold parseT at h
  rw [if_neg (by omega)] at h
  split at h
  ·cases h
  ·exact h
 obtain ⟨ts,g1,g2,g3,rfl,rfl⟩:=of_treeOf ht
 have hw:=wordsF_small (l.length+1) l 0 [] 65536 (by omega) (fun w hw=>by simp at hw)
 have hlen:=wordsF_len (l.length+1) l 0 []
 have hlen:(wordsW l).1.length≤l.length:=by simpa [wordsW] using hlen
 have hw:∀ w ∈ (wordsW l).1,w.at'≤65536∧w.text.length≤65536:=hw
 rw [g3] at hw hlen
 have h1:=Ts.flat_len ts
 have h2:=tops_len ts 0
 exact ⟨ts,g1,rfl,rfl,arr_sml (by decide) ts 0 (by omega) hw,by omega⟩
theorem frag_in {w:World} {F:Nat→Prop} (hG:GlobOk (C mx) w F) (s q:ByteArray) (c:Ctx) (hc:NmS c) (hq:q.data.toList=c.nm) :
  CallsIn Fence.wide 12 Tryd.prog 41 #[.string s,ctxV c q] w (FragPost w F (fragAV s.data.toList c)):=by
 unfold fragAV
 cases hf:form c with
 | false=>exact frag_arg1 hG hc hq hf
 | true =>
  cases hst:c.st == 20 with
  | true=>exact frag_arg2 hG hc hq hf hst
  | false =>
   simp only [Bool.not_true,Bool.or_self,Bool.false_eq_true,if_false]
   cases hp:parseT s.data.toList with
   | bad a e=>exact frag_parse hG hc hq hf hst (parseT_bad hp) hp
   | ok nodes top =>
    obtain ⟨ts,g0,rfl,rfl,g1,g2⟩:=parse_ts hp
    obtain ⟨w1,w2⟩:=walk_ts ts c [] [] 0 (2 * (ts.arr 0).length+1) g0 (by rw [Ts.arr_len];exact Nat.le_refl _)
    simp only [List.length_nil,List.nil_append,List.append_nil] at w1 w2
    obtain ⟨d,t,e⟩:∃ d t,wList (2 * (ts.arr 0).length+1) (ts.tops 0) c ⟨ts.arr 0,0,0⟩=some (d,t):=by
     cases hg:tsGo ts c with
     | ok d=>exact ⟨_,_,w1 d hg⟩
     | bad a e=>obtain ⟨_,c',N',h⟩:=w2 a e hg;exact ⟨_,_,h⟩
    simp only [e]
    obtain ⟨k1,_⟩:=s69_of (mx:=mx) (top:=.ro 1 (numsAV (ts.tops 0))) (walk_all mx (2 * (ts.arr 0).length+1)).1 (o:=some (ts.tops 0)) e g2 hc g1
    by_cases hte:t.e=0
    ·rw [if_neg (by simp [hte])]
     exact frag_ok hG hc hq hf hst hp k1 hte
    ·rw [if_pos (by simpa using hte)]
     exact frag_bad hG hc hq hf hst hp k1 hte
end R3I

namespace R3I
open Go Go.Proofs Go.RowKit Go.Shelf Sx R3
variable {mx:Int}
def ctxOf:AV→Option Ctx
 | .ag [.u8 st, .u8 el, .b en, .u8 at', .u8 qu, .u8 pa, .u8 su, .b es, .u8 da, .s nm]=>some ⟨st,el,en,at',qu,pa,su,es,da,nm⟩
 | _=>none
theorem ctxOf_toAV (c:Ctx):ctxOf c.toAV=some c:=rfl
theorem of_ctxOf {a:AV} {c:Ctx} (h:ctxOf a=some c):a=c.toAV:=by
 unfold ctxOf at h
 split at h
 ·cases h;rfl
 ·cases h
def G41 (args:List AV):Option AV :=
 match args with
 | [.s l,a]=>match ctxOf a with
  | some c=>if c.nm.length < 9223372036854775808 then some (fragAV l c) else none
  | none=>none
 | _=>none
def G42 (args:List AV):Option AV :=
 match args with
 | [a, .ro 1 m]=>match ctxOf a,bytesOf m with
  | some c,some l=>if c.nm.length < 9223372036854775808∧l.length < 9223372036854775808 then some (ti (bytesB c l)) else none
  | _,_=>none
 | _=>none
theorem gv41_ok {C':Cfg} {mx:Int} (hgl:C'.glob=(C mx).glob) (ho:(C'.own 41).all Option.isNone=true) (args:List AV) (r:AV) (h:G41 args=some r) (w:World) (F:Nat→Prop) (vs:Array Value) (hG:GlobOk C' w F) (hl:vs.size=args.length)
  (hv:∀ (j:Nat) (a:AV) (v:Value),args[j]?=some a→vs[j]?=some v→Rel w F a v):CallRuns Tryd.prog 41 vs w (PostOk C' 41 w F r):=by
 have hG':GlobOk (C mx) w F:=fun g k e hg=>hG g k e (by rw [hgl];exact hg)
 unfold G41 at h
 split at h
 ·rename_i l a
  split at h
  ·rename_i c hc
   split at h
   ·rename_i hn
    cases h
    obtain rfl:=of_ctxOf hc
    match vs,hl,hv with
    | ⟨[x,y]⟩,_,hv =>
     have hx:=hv 0 _ x rfl rfl
     have hy:=hv 1 _ y rfl rfl
     cases hx with
     | s p =>
      obtain ⟨q,hq,rfl⟩:=rel_ctx hy
      refine .inl ⟨Tryd.f41,(Tryd.f41.body).getD .skip,Tryd.func41,by kernel_rfl,by kernel_rfl,Calls.mono (callsIn_wide.1 (frag_in (mx:=mx) hG' p q c hn hq)) fun e w' he=>?_⟩
      obtain ⟨hx,v,rfl,hr⟩:=he
      refine ⟨_,rfl,hx,?_⟩
      unfold ResOk
      rw [if_pos ho]
      exact hr
   ·cases h
  ·cases h
 ·cases h
theorem gv42_ok {C':Cfg} {mx:Int} (hgl:C'.glob=(C mx).glob) (ho:(C'.own 42).all Option.isNone=true) (args:List AV) (r:AV) (h:G42 args=some r) (w:World) (F:Nat→Prop) (vs:Array Value) (hG:GlobOk C' w F) (hl:vs.size=args.length)
  (hv:∀ (j:Nat) (a:AV) (v:Value),args[j]?=some a→vs[j]?=some v→Rel w F a v):CallRuns Tryd.prog 42 vs w (PostOk C' 42 w F r):=by
 have hG':GlobOk (C mx) w F:=fun g k e hg=>hG g k e (by rw [hgl];exact hg)
 unfold G42 at h
 split at h
 ·rename_i a m
  split at h
  ·rename_i c l hc hb
   split at h
   ·rename_i hn
    cases h
    obtain rfl:=of_ctxOf hc
    have hm:=bytesOf_eq hb
    subst hm
    refine .inl ⟨Tryd.f42,(Tryd.f42.body).getD .skip,Tryd.func42,by kernel_rfl,by kernel_rfl,Calls.mono (calls_sem (fit mx) (c:=Tryd.f42.body.getD .skip) Tryd.func42 (by kernel_rfl) (s42 (mx:=mx) c l hn.1 hn.2) (by kernel_rfl) w F vs hG' hl hv) fun e w' he=>?_⟩
    obtain ⟨v,rfl,hx,hr⟩:=he
    refine ⟨_,rfl,hx,?_⟩
    unfold ResOk at hr ⊢
    rw [if_pos (by kernel_rfl)] at hr
    rw [if_pos ho]
    exact hr
   ·cases h
  ·cases h
 ·cases h
end R3I

namespace R3I
open Go Go.Proofs Sx
variable {mx:Int}
noncomputable def body52:Code:=(Tryd.f52.body).getD .skip
section
variable (run:RunT)
noncomputable def K52_16:List Item:=(kAt 16 body52 []).getD []
def S52_16:St:=St.ofL [] []
noncomputable def F52_16:Option AV:=run K52_16 (S52_16 )
end
section
variable (run:RunT) (a0 a1 a2:UInt8) (a3:Bool) (a4 a5 a6 a7:UInt8) (a8:Bool) (a9:UInt8) (a10:List UInt8)
noncomputable def K52_17:List Item:=(kAt 17 body52 []).getD []
def S52_17:St:=St.ofL [(1, .cell (.ptr 1 0)),(9, .cell (.val (.u8 a0)))] [(1,some [.val (.u8 a1), .val (.u8 a2), .val (.b a3), .val (.u8 a4), .val (.u8 a5), .val (.u8 a6), .val (.u8 a7), .val (.b a8), .val (.u8 a9), .val (.s a10)])]
noncomputable def F52_17:Option AV:=run K52_17 (S52_17 a0 a1 a2 a3 a4 a5 a6 a7 a8 a9 a10)
end
section
variable (run:RunT)
noncomputable def K52_20:List Item:=(kAt 20 body52 []).getD []
def S52_20:St:=St.ofL [] []
noncomputable def F52_20:Option AV:=run K52_20 (S52_20 )
end
section
variable (run:RunT) (a0 a1 a2:UInt8) (a3:Bool) (a4 a5 a6 a7:UInt8) (a8:Bool) (a9:UInt8) (a10:List UInt8)
noncomputable def K52_21:List Item:=(kAt 21 body52 []).getD []
def S52_21:St:=St.ofL [(1, .cell (.ptr 1 0)),(9, .cell (.val (.u8 a0)))] [(1,some [.val (.u8 a1), .val (.u8 a2), .val (.b a3), .val (.u8 a4), .val (.u8 a5), .val (.u8 a6), .val (.u8 a7), .val (.b a8), .val (.u8 a9), .val (.s a10)])]
noncomputable def F52_21:Option AV:=run K52_21 (S52_21 a0 a1 a2 a3 a4 a5 a6 a7 a8 a9 a10)
end
section
variable (run:RunT) (a0 a1:UInt8) (a2:Bool) (a3 a4 a5 a6:UInt8) (a7:Bool) (a8:UInt8) (a9:List UInt8)
noncomputable def K52_26:List Item:=(kAt 26 body52 []).getD []
def S52_26:St:=St.ofL [(1, .cell (.ptr 1 0))] [(1,some [.val (.u8 a0), .val (.u8 a1), .val (.b a2), .val (.u8 a3), .val (.u8 a4), .val (.u8 a5), .val (.u8 a6), .val (.b a7), .val (.u8 a8), .val (.s a9)])]
noncomputable def F52_26:Option AV:=run K52_26 (S52_26 a0 a1 a2 a3 a4 a5 a6 a7 a8 a9)
end
section
variable (run:RunT) (a0 a1 a2:UInt8) (a3:Bool) (a4 a5 a6 a7:UInt8) (a8:Bool) (a9:UInt8) (a10:List UInt8)
noncomputable def K52_27:List Item:=(kAt 27 body52 []).getD []
def S52_27:St:=St.ofL [(1, .cell (.ptr 1 0)),(9, .cell (.val (.u8 a0)))] [(1,some [.val (.u8 a1), .val (.u8 a2), .val (.b a3), .val (.u8 a4), .val (.u8 a5), .val (.u8 a6), .val (.u8 a7), .val (.b a8), .val (.u8 a9), .val (.s a10)])]
noncomputable def F52_27:Option AV:=run K52_27 (S52_27 a0 a1 a2 a3 a4 a5 a6 a7 a8 a9 a10)
end
section
variable (run:RunT) (a0:AV) (a1 a2:UInt8) (a3:Bool) (a4 a5 a6 a7:UInt8) (a8:Bool) (a9:UInt8) (a10:List UInt8)
noncomputable def K52_33:List Item:=(kAt 33 body52 []).getD []
def S52_33:St:=St.ofL [(1, .cell (.ptr 1 0)),(4, .cell (.val a0))] [(1,some [.val (.u8 a1), .val (.u8 a2), .val (.b a3), .val (.u8 a4), .val (.u8 a5), .val (.u8 a6), .val (.u8 a7), .val (.b a8), .val (.u8 a9), .val (.s a10)])]
noncomputable def F52_33:Option AV:=run K52_33 (S52_33 a0 a1 a2 a3 a4 a5 a6 a7 a8 a9 a10)
end
section
variable (run:RunT) (a0 a1:UInt8) (a2:Bool) (a3 a4 a5 a6:UInt8) (a7:Bool) (a8:UInt8) (a9:List UInt8)
noncomputable def K52_37:List Item:=(kAt 37 body52 []).getD []
def S52_37:St:=St.ofL [(1, .cell (.ptr 1 0))] [(1,some [.val (.u8 a0), .val (.u8 a1), .val (.b a2), .val (.u8 a3), .val (.u8 a4), .val (.u8 a5), .val (.u8 a6), .val (.b a7), .val (.u8 a8), .val (.s a9)])]
noncomputable def F52_37:Option AV:=run K52_37 (S52_37 a0 a1 a2 a3 a4 a5 a6 a7 a8 a9)
end
section
variable (run:RunT)
noncomputable def K52_38:List Item:=(kAt 38 body52 []).getD []
def S52_38:St:=St.ofL [] []
noncomputable def F52_38:Option AV:=run K52_38 (S52_38 )
end
noncomputable def X52 (call:CallT) (run:RunT) (a0 a1:UInt8) (a2:Bool) (a3 a4 a5 a6:UInt8) (a7:Bool) (a8:UInt8) (a9:List UInt8):Option AV :=
 (call 68 [.ag [.u8 a0, .u8 a1, .b a2, .u8 a3, .u8 a4, .u8 a5, .u8 a6, .b a7, .u8 a8, .s a9]]).bind fun v1=>(unop .not v1).bind fun v2=>condM v2
 (some (.tu [.s [], .int 1]))
 (condM (.b (ueq a0 20))
 (some (.tu [.s [], .int 5]))
 (condM (.b (ueq a0 1))
 (some (.tu [.s [32], .int 0]))
 (condM (.b (ueq a0 3))
 (condM (.b a2)
 (some (.tu [.s [62], .int 0]))
 ((call 76 [.s a9]).bind fun v3=>(call 75 [v3]).bind fun v4=>(binS .add (.s [62]) v4).bind fun v5=>some (.tu [v5, .int 0])))
 (condM (.b (ueq a0 2))
 (F52_16 run)
 (condM (.b (ueq a0 11))
 (F52_16 run)
 (condM (.b (ueq a0 12))
 (F52_16 run)
 (condM (.b (ueq a0 16))
 (F52_16 run)
 (F52_17 run a0 a0 a1 a2 a3 a4 a5 a6 a7 a8 a9))))))))
section
variable (call:CallT) (run:RunT) (a0 a1:UInt8) (a2:Bool) (a3 a4 a5 a6:UInt8) (a7:Bool) (a8:UInt8) (a9:List UInt8)
theorem text52:unr (C mx) call run 52 Tryd.f52 400 [.code body52] (initF (C mx) 52 Tryd.f52.ntmps [.ag [.u8 a0, .u8 a1, .b a2, .u8 a3, .u8 a4, .u8 a5, .u8 a6, .b a7, .u8 a8, .s a9]])=X52 call run a0 a1 a2 a3 a4 a5 a6 a7 a8 a9:=by
 kernel_rfl
theorem c52 {r:AV} (h:X52 (semCall (C mx) Tryd.prog) (semRun (C mx) Tryd.prog 52 Tryd.f52) a0 a1 a2 a3 a4 a5 a6 a7 a8 a9=some r):semCall (C mx) Tryd.prog 52 [.ag [.u8 a0, .u8 a1, .b a2, .u8 a3, .u8 a4, .u8 a5, .u8 a6, .b a7, .u8 a8, .s a9]]=some r :=
 semCall_unr (fn:=Tryd.f52) (c:=body52) (by kernel_rfl) (by kernel_rfl) 400 (by kernel_rfl) ((text52 _ _ a0 a1 a2 a3 a4 a5 a6 a7 a8 a9).trans h)
end
noncomputable def X52_16 (call:CallT) (run:RunT)  : Option AV :=
 some (.tu [.s [62], .int 0])
section
variable (call:CallT) (run:RunT)
theorem text52_16:step (C mx) call 52 Tryd.f52 (unr (C mx) call run 52 Tryd.f52 400) K52_16 (S52_16 )=X52_16 call run  := by
 kernel_rfl
end
noncomputable def X52_17 (call:CallT) (run:RunT) (a0 a1 a2:UInt8) (a3:Bool) (a4 a5 a6 a7:UInt8) (a8:Bool) (a9:UInt8) (a10:List UInt8):Option AV :=
 condM (.b (ueq a0 13))
 (F52_20 run)
 (condM (.b (ueq a0 14))
 (F52_20 run)
 (condM (.b (ueq a0 15))
 (F52_20 run)
 (F52_21 run a0 a1 a2 a3 a4 a5 a6 a7 a8 a9 a10)))
section
variable (call:CallT) (run:RunT) (a0 a1 a2:UInt8) (a3:Bool) (a4 a5 a6 a7:UInt8) (a8:Bool) (a9:UInt8) (a10:List UInt8)
theorem text52_17:step (C mx) call 52 Tryd.f52 (unr (C mx) call run 52 Tryd.f52 400) K52_17 (S52_17 a0 a1 a2 a3 a4 a5 a6 a7 a8 a9 a10)=X52_17 call run a0 a1 a2 a3 a4 a5 a6 a7 a8 a9 a10:=by
 kernel_rfl
end
noncomputable def X52_20 (call:CallT) (run:RunT)  : Option AV :=
 some (.tu [.s [45,45,62], .int 0])
section
variable (call:CallT) (run:RunT)
theorem text52_20:step (C mx) call 52 Tryd.f52 (unr (C mx) call run 52 Tryd.f52 400) K52_20 (S52_20 )=X52_20 call run  := by
 kernel_rfl
end
noncomputable def X52_21 (call:CallT) (run:RunT) (a0 a1 a2:UInt8) (a3:Bool) (a4 a5 a6 a7:UInt8) (a8:Bool) (a9:UInt8) (a10:List UInt8):Option AV :=
 condM (.b (ueq a0 4))
 (F52_26 run a1 a2 a3 a4 a5 a6 a7 a8 a9 a10)
 (condM (.b (ueq a0 5))
 (F52_26 run a1 a2 a3 a4 a5 a6 a7 a8 a9 a10)
 (condM (.b (ueq a0 6))
 (F52_26 run a1 a2 a3 a4 a5 a6 a7 a8 a9 a10)
 (condM (.b (ueq a0 9))
 (F52_26 run a1 a2 a3 a4 a5 a6 a7 a8 a9 a10)
 (condM (.b (ueq a0 10))
 (F52_26 run a1 a2 a3 a4 a5 a6 a7 a8 a9 a10)
 (F52_27 run a0 a1 a2 a3 a4 a5 a6 a7 a8 a9 a10)))))
section
variable (call:CallT) (run:RunT) (a0 a1 a2:UInt8) (a3:Bool) (a4 a5 a6 a7:UInt8) (a8:Bool) (a9:UInt8) (a10:List UInt8)
theorem text52_21:step (C mx) call 52 Tryd.f52 (unr (C mx) call run 52 Tryd.f52 400) K52_21 (S52_21 a0 a1 a2 a3 a4 a5 a6 a7 a8 a9 a10)=X52_21 call run a0 a1 a2 a3 a4 a5 a6 a7 a8 a9 a10:=by
 kernel_rfl
end
noncomputable def X52_26 (call:CallT) (run:RunT) (a0 a1:UInt8) (a2:Bool) (a3 a4 a5 a6:UInt8) (a7:Bool) (a8:UInt8) (a9:List UInt8):Option AV :=
 (call 75 [.u8 a1]).bind fun v1=>(binS .add (.s [62]) v1).bind fun v2=>some (.tu [v2, .int 0])
section
variable (call:CallT) (run:RunT) (a0 a1:UInt8) (a2:Bool) (a3 a4 a5 a6:UInt8) (a7:Bool) (a8:UInt8) (a9:List UInt8)
theorem text52_26:step (C mx) call 52 Tryd.f52 (unr (C mx) call run 52 Tryd.f52 400) K52_26 (S52_26 a0 a1 a2 a3 a4 a5 a6 a7 a8 a9)=X52_26 call run a0 a1 a2 a3 a4 a5 a6 a7 a8 a9:=by
 kernel_rfl
end
noncomputable def X52_27 (call:CallT) (run:RunT) (a0 a1 a2:UInt8) (a3:Bool) (a4 a5 a6 a7:UInt8) (a8:Bool) (a9:UInt8) (a10:List UInt8):Option AV :=
 condM (.b (ueq a0 7))
 ((call 75 [.u8 a2]).bind fun v1=>(binS .add (.s [34,34,62]) v1).bind fun v2=>some (.tu [v2, .int 0]))
 (condM (.b (ueq a0 8))
 (condM (.b (une a5 0))
 ((b2s (.ro 1 (([.u8 a5]:List AV)))).bind fun v3=>F52_33 run v3 a1 a2 a3 a4 a5 a6 a7 a8 a9 a10)
 (F52_33 run (.s []) a1 a2 a3 a4 a5 a6 a7 a8 a9 a10))
 (condM (.b (ueq a0 17))
 (F52_37 run a1 a2 a3 a4 a5 a6 a7 a8 a9 a10)
 (condM (.b (ueq a0 18))
 (F52_37 run a1 a2 a3 a4 a5 a6 a7 a8 a9 a10)
 (condM (.b (ueq a0 19))
 (F52_37 run a1 a2 a3 a4 a5 a6 a7 a8 a9 a10)
 (F52_38 run)))))
section
variable (call:CallT) (run:RunT) (a0 a1 a2:UInt8) (a3:Bool) (a4 a5 a6 a7:UInt8) (a8:Bool) (a9:UInt8) (a10:List UInt8)
theorem text52_27:step (C mx) call 52 Tryd.f52 (unr (C mx) call run 52 Tryd.f52 400) K52_27 (S52_27 a0 a1 a2 a3 a4 a5 a6 a7 a8 a9 a10)=X52_27 call run a0 a1 a2 a3 a4 a5 a6 a7 a8 a9 a10:=by
 kernel_rfl
end
noncomputable def X52_33 (call:CallT) (run:RunT) (a0:AV) (a1 a2:UInt8) (a3:Bool) (a4 a5 a6 a7:UInt8) (a8:Bool) (a9:UInt8) (a10:List UInt8):Option AV :=
 (call 77 [.ag [.u8 a1, .u8 a2, .b a3, .u8 a4, .u8 a5, .u8 a6, .u8 a7, .b a8, .u8 a9, .s a10]]).bind fun v1=>(binS .add v1 a0).bind fun v2=>(binS .add v2 (.s [62])).bind fun v3=>(call 75 [.u8 a2]).bind fun v4=>(binS .add v3 v4).bind fun v5=>some (.tu [v5, .int 0])
section
variable (call:CallT) (run:RunT) (a0:AV) (a1 a2:UInt8) (a3:Bool) (a4 a5 a6 a7:UInt8) (a8:Bool) (a9:UInt8) (a10:List UInt8)
theorem text52_33:step (C mx) call 52 Tryd.f52 (unr (C mx) call run 52 Tryd.f52 400) K52_33 (S52_33 a0 a1 a2 a3 a4 a5 a6 a7 a8 a9 a10)=X52_33 call run a0 a1 a2 a3 a4 a5 a6 a7 a8 a9 a10:=by
 kernel_rfl
end
noncomputable def X52_37 (call:CallT) (run:RunT) (a0 a1:UInt8) (a2:Bool) (a3 a4 a5 a6:UInt8) (a7:Bool) (a8:UInt8) (a9:List UInt8):Option AV :=
 (call 78 [.ag [.u8 a0, .u8 a1, .b a2, .u8 a3, .u8 a4, .u8 a5, .u8 a6, .b a7, .u8 a8, .s a9]]).bind fun v1=>some (.tu [v1, .int 0])
section
variable (call:CallT) (run:RunT) (a0 a1:UInt8) (a2:Bool) (a3 a4 a5 a6:UInt8) (a7:Bool) (a8:UInt8) (a9:List UInt8)
theorem text52_37:step (C mx) call 52 Tryd.f52 (unr (C mx) call run 52 Tryd.f52 400) K52_37 (S52_37 a0 a1 a2 a3 a4 a5 a6 a7 a8 a9)=X52_37 call run a0 a1 a2 a3 a4 a5 a6 a7 a8 a9:=by
 kernel_rfl
end
noncomputable def X52_38 (call:CallT) (run:RunT)  : Option AV :=
 some (.tu [.s [], .int 0])
section
variable (call:CallT) (run:RunT)
theorem text52_38:step (C mx) call 52 Tryd.f52 (unr (C mx) call run 52 Tryd.f52 400) K52_38 (S52_38 )=X52_38 call run  := by
 kernel_rfl
end
section
theorem r52_16 {r:AV} (h:X52_16 (semCall (C mx) Tryd.prog) (semRun (C mx) Tryd.prog 52 Tryd.f52)  = some r):F52_16 (semRun (C mx) Tryd.prog 52 Tryd.f52)  = some r :=
 semRun_unr 400 ((text52_16 _ _ ).trans h)
end
section
variable (a0 a1 a2:UInt8) (a3:Bool) (a4 a5 a6 a7:UInt8) (a8:Bool) (a9:UInt8) (a10:List UInt8)
theorem r52_17 {r:AV} (h:X52_17 (semCall (C mx) Tryd.prog) (semRun (C mx) Tryd.prog 52 Tryd.f52) a0 a1 a2 a3 a4 a5 a6 a7 a8 a9 a10=some r):F52_17 (semRun (C mx) Tryd.prog 52 Tryd.f52) a0 a1 a2 a3 a4 a5 a6 a7 a8 a9 a10=some r :=
 semRun_unr 400 ((text52_17 _ _ a0 a1 a2 a3 a4 a5 a6 a7 a8 a9 a10).trans h)
end
section
theorem r52_20 {r:AV} (h:X52_20 (semCall (C mx) Tryd.prog) (semRun (C mx) Tryd.prog 52 Tryd.f52)  = some r):F52_20 (semRun (C mx) Tryd.prog 52 Tryd.f52)  = some r :=
 semRun_unr 400 ((text52_20 _ _ ).trans h)
end
section
variable (a0 a1 a2:UInt8) (a3:Bool) (a4 a5 a6 a7:UInt8) (a8:Bool) (a9:UInt8) (a10:List UInt8)
theorem r52_21 {r:AV} (h:X52_21 (semCall (C mx) Tryd.prog) (semRun (C mx) Tryd.prog 52 Tryd.f52) a0 a1 a2 a3 a4 a5 a6 a7 a8 a9 a10=some r):F52_21 (semRun (C mx) Tryd.prog 52 Tryd.f52) a0 a1 a2 a3 a4 a5 a6 a7 a8 a9 a10=some r :=
 semRun_unr 400 ((text52_21 _ _ a0 a1 a2 a3 a4 a5 a6 a7 a8 a9 a10).trans h)
end
section
variable (a0 a1:UInt8) (a2:Bool) (a3 a4 a5 a6:UInt8) (a7:Bool) (a8:UInt8) (a9:List UInt8)
theorem r52_26 {r:AV} (h:X52_26 (semCall (C mx) Tryd.prog) (semRun (C mx) Tryd.prog 52 Tryd.f52) a0 a1 a2 a3 a4 a5 a6 a7 a8 a9=some r):F52_26 (semRun (C mx) Tryd.prog 52 Tryd.f52) a0 a1 a2 a3 a4 a5 a6 a7 a8 a9=some r :=
 semRun_unr 400 ((text52_26 _ _ a0 a1 a2 a3 a4 a5 a6 a7 a8 a9).trans h)
end
section
variable (a0 a1 a2:UInt8) (a3:Bool) (a4 a5 a6 a7:UInt8) (a8:Bool) (a9:UInt8) (a10:List UInt8)
theorem r52_27 {r:AV} (h:X52_27 (semCall (C mx) Tryd.prog) (semRun (C mx) Tryd.prog 52 Tryd.f52) a0 a1 a2 a3 a4 a5 a6 a7 a8 a9 a10=some r):F52_27 (semRun (C mx) Tryd.prog 52 Tryd.f52) a0 a1 a2 a3 a4 a5 a6 a7 a8 a9 a10=some r :=
 semRun_unr 400 ((text52_27 _ _ a0 a1 a2 a3 a4 a5 a6 a7 a8 a9 a10).trans h)
end
section
variable (a0:AV) (a1 a2:UInt8) (a3:Bool) (a4 a5 a6 a7:UInt8) (a8:Bool) (a9:UInt8) (a10:List UInt8)
theorem r52_33 {r:AV} (h:X52_33 (semCall (C mx) Tryd.prog) (semRun (C mx) Tryd.prog 52 Tryd.f52) a0 a1 a2 a3 a4 a5 a6 a7 a8 a9 a10=some r):F52_33 (semRun (C mx) Tryd.prog 52 Tryd.f52) a0 a1 a2 a3 a4 a5 a6 a7 a8 a9 a10=some r :=
 semRun_unr 400 ((text52_33 _ _ a0 a1 a2 a3 a4 a5 a6 a7 a8 a9 a10).trans h)
end
section
variable (a0 a1:UInt8) (a2:Bool) (a3 a4 a5 a6:UInt8) (a7:Bool) (a8:UInt8) (a9:List UInt8)
theorem r52_37 {r:AV} (h:X52_37 (semCall (C mx) Tryd.prog) (semRun (C mx) Tryd.prog 52 Tryd.f52) a0 a1 a2 a3 a4 a5 a6 a7 a8 a9=some r):F52_37 (semRun (C mx) Tryd.prog 52 Tryd.f52) a0 a1 a2 a3 a4 a5 a6 a7 a8 a9=some r :=
 semRun_unr 400 ((text52_37 _ _ a0 a1 a2 a3 a4 a5 a6 a7 a8 a9).trans h)
end
section
theorem r52_38 {r:AV} (h:X52_38 (semCall (C mx) Tryd.prog) (semRun (C mx) Tryd.prog 52 Tryd.f52)  = some r):F52_38 (semRun (C mx) Tryd.prog 52 Tryd.f52)  = some r :=
 semRun_unr 400 ((text52_38 _ _ ).trans h)
end
end R3I

namespace R3I
open Go Go.Proofs Sx
variable {mx:Int}
noncomputable def body75:Code:=(Tryd.f75.body).getD .skip
noncomputable def X75 (call:CallT) (run:RunT) (a0:UInt8):Option AV :=
 condM (.b (ueq a0 0))
 (some (.s []))
 ((call 96 [.u8 a0]).bind fun v1=>(binS .add (.s [60,47]) v1).bind fun v2=>(binS .add v2 (.s [62])).bind fun v3=>some v3)
section
variable (call:CallT) (run:RunT) (a0:UInt8)
theorem text75:unr (C mx) call run 75 Tryd.f75 400 [.code body75] (initF (C mx) 75 Tryd.f75.ntmps [.u8 a0])=X75 call run a0:=by
 kernel_rfl
theorem c75 {r:AV} (h:X75 (semCall (C mx) Tryd.prog) (semRun (C mx) Tryd.prog 75 Tryd.f75) a0=some r):semCall (C mx) Tryd.prog 75 [.u8 a0]=some r :=
 semCall_unr (fn:=Tryd.f75) (c:=body75) (by kernel_rfl) (by kernel_rfl) 400 (by kernel_rfl) ((text75 _ _ a0).trans h)
end
end R3I

namespace R3I
open Go Go.Proofs Sx
variable {mx:Int}
noncomputable def body77:Code:=(Tryd.f77.body).getD .skip
section
variable (run:RunT) (a0:List UInt8) (a1 a2:UInt8) (a3:Bool) (a4 a5 a6 a7:UInt8) (a8:Bool) (a9:UInt8) (a10:List UInt8)
noncomputable def K77_4:List Item:=(kAt 4 body77 []).getD []
def S77_4:St:=St.ofL [(1, .cell (.ptr 1 0)),(3, .cell (.val (.s a0)))] [(1,some [.val (.u8 a1), .val (.u8 a2), .val (.b a3), .val (.u8 a4), .val (.u8 a5), .val (.u8 a6), .val (.u8 a7), .val (.b a8), .val (.u8 a9), .val (.s a10)])]
noncomputable def F77_4:Option AV:=run K77_4 (S77_4 a0 a1 a2 a3 a4 a5 a6 a7 a8 a9 a10)
end
section
variable (run:RunT) (a0:List UInt8) (a1:Bool) (a2 a3:UInt8) (a4:Bool) (a5 a6 a7 a8:UInt8) (a9:Bool) (a10:UInt8) (a11:List UInt8)
noncomputable def K77_7:List Item:=(kAt 7 body77 []).getD []
def S77_7:St:=St.ofL [(1, .cell (.ptr 1 0)),(3, .cell (.val (.s a0))),(4, .cell (.val (.b a1)))] [(1,some [.val (.u8 a2), .val (.u8 a3), .val (.b a4), .val (.u8 a5), .val (.u8 a6), .val (.u8 a7), .val (.u8 a8), .val (.b a9), .val (.u8 a10), .val (.s a11)])]
noncomputable def F77_7:Option AV:=run K77_7 (S77_7 a0 a1 a2 a3 a4 a5 a6 a7 a8 a9 a10 a11)
end
noncomputable def X77 (call:CallT) (run:RunT) (a0 a1:UInt8) (a2:Bool) (a3 a4 a5 a6:UInt8) (a7:Bool) (a8:UInt8) (a9:List UInt8):Option AV :=
 condM (.b a7)
 (F77_4 run [110] a0 a1 a2 a3 a4 a5 a6 a7 a8 a9)
 (F77_4 run [] a0 a1 a2 a3 a4 a5 a6 a7 a8 a9)
section
variable (call:CallT) (run:RunT) (a0 a1:UInt8) (a2:Bool) (a3 a4 a5 a6:UInt8) (a7:Bool) (a8:UInt8) (a9:List UInt8)
theorem text77:unr (C mx) call run 77 Tryd.f77 400 [.code body77] (initF (C mx) 77 Tryd.f77.ntmps [.ag [.u8 a0, .u8 a1, .b a2, .u8 a3, .u8 a4, .u8 a5, .u8 a6, .b a7, .u8 a8, .s a9]])=X77 call run a0 a1 a2 a3 a4 a5 a6 a7 a8 a9:=by
 kernel_rfl
theorem c77 {r:AV} (h:X77 (semCall (C mx) Tryd.prog) (semRun (C mx) Tryd.prog 77 Tryd.f77) a0 a1 a2 a3 a4 a5 a6 a7 a8 a9=some r):semCall (C mx) Tryd.prog 77 [.ag [.u8 a0, .u8 a1, .b a2, .u8 a3, .u8 a4, .u8 a5, .u8 a6, .b a7, .u8 a8, .s a9]]=some r :=
 semCall_unr (fn:=Tryd.f77) (c:=body77) (by kernel_rfl) (by kernel_rfl) 400 (by kernel_rfl) ((text77 _ _ a0 a1 a2 a3 a4 a5 a6 a7 a8 a9).trans h)
end
noncomputable def X77_4 (call:CallT) (run:RunT) (a0:List UInt8) (a1 a2:UInt8) (a3:Bool) (a4 a5 a6 a7:UInt8) (a8:Bool) (a9:UInt8) (a10:List UInt8):Option AV :=
 condM (.b (ueq a1 8))
 (F77_7 run a0 (ueq a4 2) a1 a2 a3 a4 a5 a6 a7 a8 a9 a10)
 (F77_7 run a0 (ueq a2 3) a1 a2 a3 a4 a5 a6 a7 a8 a9 a10)
section
variable (call:CallT) (run:RunT) (a0:List UInt8) (a1 a2:UInt8) (a3:Bool) (a4 a5 a6 a7:UInt8) (a8:Bool) (a9:UInt8) (a10:List UInt8)
theorem text77_4:step (C mx) call 77 Tryd.f77 (unr (C mx) call run 77 Tryd.f77 400) K77_4 (S77_4 a0 a1 a2 a3 a4 a5 a6 a7 a8 a9 a10)=X77_4 call run a0 a1 a2 a3 a4 a5 a6 a7 a8 a9 a10:=by
 kernel_rfl
end
noncomputable def X77_7 (call:CallT) (run:RunT) (a0:List UInt8) (a1:Bool) (a2 a3:UInt8) (a4:Bool) (a5 a6 a7 a8:UInt8) (a9:Bool) (a10:UInt8) (a11:List UInt8):Option AV :=
 condM (.b (ueq a8 1))
 ((binS .add (.s a0) (.s [34])).bind fun v1=>some v1)
 (condM (.b (ueq a8 2))
 ((binS .add (.s a0) (.s [39])).bind fun v2=>some v2)
 (condM (.b (ueq a8 3))
 (condM (.b a1)
 (some (.s [47]))
 (some (.s [120])))
 (condM (.b (ueq a8 5))
 (some (.s [42,47]))
 (condM (.b (ueq a8 6))
 (some (.s [47]))
 (some (.s []))))))
section
variable (call:CallT) (run:RunT) (a0:List UInt8) (a1:Bool) (a2 a3:UInt8) (a4:Bool) (a5 a6 a7 a8:UInt8) (a9:Bool) (a10:UInt8) (a11:List UInt8)
theorem text77_7:step (C mx) call 77 Tryd.f77 (unr (C mx) call run 77 Tryd.f77 400) K77_7 (S77_7 a0 a1 a2 a3 a4 a5 a6 a7 a8 a9 a10 a11)=X77_7 call run a0 a1 a2 a3 a4 a5 a6 a7 a8 a9 a10 a11:=by
 kernel_rfl
end
section
variable (a0:List UInt8) (a1 a2:UInt8) (a3:Bool) (a4 a5 a6 a7:UInt8) (a8:Bool) (a9:UInt8) (a10:List UInt8)
theorem r77_4 {r:AV} (h:X77_4 (semCall (C mx) Tryd.prog) (semRun (C mx) Tryd.prog 77 Tryd.f77) a0 a1 a2 a3 a4 a5 a6 a7 a8 a9 a10=some r):F77_4 (semRun (C mx) Tryd.prog 77 Tryd.f77) a0 a1 a2 a3 a4 a5 a6 a7 a8 a9 a10=some r :=
 semRun_unr 400 ((text77_4 _ _ a0 a1 a2 a3 a4 a5 a6 a7 a8 a9 a10).trans h)
end
section
variable (a0:List UInt8) (a1:Bool) (a2 a3:UInt8) (a4:Bool) (a5 a6 a7 a8:UInt8) (a9:Bool) (a10:UInt8) (a11:List UInt8)
theorem r77_7 {r:AV} (h:X77_7 (semCall (C mx) Tryd.prog) (semRun (C mx) Tryd.prog 77 Tryd.f77) a0 a1 a2 a3 a4 a5 a6 a7 a8 a9 a10 a11=some r):F77_7 (semRun (C mx) Tryd.prog 77 Tryd.f77) a0 a1 a2 a3 a4 a5 a6 a7 a8 a9 a10 a11=some r :=
 semRun_unr 400 ((text77_7 _ _ a0 a1 a2 a3 a4 a5 a6 a7 a8 a9 a10 a11).trans h)
end
end R3I

namespace R3I
open Go Go.Proofs Sx
variable {mx:Int}
noncomputable def body78:Code:=(Tryd.f78.body).getD .skip
noncomputable def X78 (call:CallT) (run:RunT) (a0 a1:UInt8) (a2:Bool) (a3 a4 a5 a6:UInt8) (a7:Bool) (a8:UInt8) (a9:List UInt8):Option AV :=
 condM (.b (une a0 19))
 ((call 77 [.ag [.u8 a0, .u8 a1, .b a2, .u8 a3, .u8 a4, .u8 a5, .u8 a6, .b a7, .u8 a8, .s a9]]).bind fun v1=>(call 75 [.u8 a1]).bind fun v2=>(binS .add v1 v2).bind fun v3=>some v3)
 ((selW (.b (ueq a6 0)) false (some (.b (ueq a6 4))) (.b true)).bind fun v4=>condM v4
 ((call 96 [.u8 a1]).bind fun v5=>(call 97 [v5, .s a9]).bind fun v6=>(binS .add v6 (.s [62])).bind fun v7=>some v7)
 ((binS .add (.s [47]) (.s a9)).bind fun v8=>(s2b v8).bind fun v9=>(call 42 [.ag [.u8 17, .u8 a1, .b false, .u8 0, .u8 0, .u8 0, .u8 a6, .b a7, .u8 0, .s []],v9]).bind fun v10=>(tupI v10 0).bind fun v11=>(tupI v10 1).bind fun v12=>(AV.asAg 10 v11).bind fun v13=>(call 77 [.ag [v13.getD 0 .un,v13.getD 1 .un,v13.getD 2 .un,v13.getD 3 .un,v13.getD 4 .un,v13.getD 5 .un,v13.getD 6 .un,v13.getD 7 .un,v13.getD 8 .un,v13.getD 9 .un]]).bind fun v14=>(call 75 [.u8 a1]).bind fun v15=>(binS .add v14 v15).bind fun v16=>some v16))
section
variable (call:CallT) (run:RunT) (a0 a1:UInt8) (a2:Bool) (a3 a4 a5 a6:UInt8) (a7:Bool) (a8:UInt8) (a9:List UInt8)
theorem text78:unr (C mx) call run 78 Tryd.f78 400 [.code body78] (initF (C mx) 78 Tryd.f78.ntmps [.ag [.u8 a0, .u8 a1, .b a2, .u8 a3, .u8 a4, .u8 a5, .u8 a6, .b a7, .u8 a8, .s a9]])=X78 call run a0 a1 a2 a3 a4 a5 a6 a7 a8 a9:=by
 kernel_rfl
theorem c78 {r:AV} (h:X78 (semCall (C mx) Tryd.prog) (semRun (C mx) Tryd.prog 78 Tryd.f78) a0 a1 a2 a3 a4 a5 a6 a7 a8 a9=some r):semCall (C mx) Tryd.prog 78 [.ag [.u8 a0, .u8 a1, .b a2, .u8 a3, .u8 a4, .u8 a5, .u8 a6, .b a7, .u8 a8, .s a9]]=some r :=
 semCall_unr (fn:=Tryd.f78) (c:=body78) (by kernel_rfl) (by kernel_rfl) 400 (by kernel_rfl) ((text78 _ _ a0 a1 a2 a3 a4 a5 a6 a7 a8 a9).trans h)
end
end R3I

namespace R3I
open Go Go.Proofs Sx
variable {mx:Int}
noncomputable def body97:Code:=(Tryd.f97.body).getD .skip
noncomputable def X97 (call:CallT) (run:RunT) (a0 a1:List UInt8):Option AV :=
 (call 115 [.s a0, .s a1]).bind fun v1=>some v1
section
variable (call:CallT) (run:RunT) (a0 a1:List UInt8)
theorem text97:unr (C mx) call run 97 Tryd.f97 400 [.code body97] (initF (C mx) 97 Tryd.f97.ntmps [.s a0, .s a1])=X97 call run a0 a1:=by
 kernel_rfl
theorem c97 {r:AV} (h:X97 (semCall (C mx) Tryd.prog) (semRun (C mx) Tryd.prog 97 Tryd.f97) a0 a1=some r):semCall (C mx) Tryd.prog 97 [.s a0, .s a1]=some r :=
 semCall_unr (fn:=Tryd.f97) (c:=body97) (by kernel_rfl) (by kernel_rfl) 400 (by kernel_rfl) ((text97 _ _ a0 a1).trans h)
end
end R3I

namespace R3I
open Go Go.Proofs Sx
variable {mx:Int}
noncomputable def body115:Code:=(Tryd.f115.body).getD .skip
noncomputable def X115 (call:CallT) (run:RunT) (a0 a1:List UInt8):Option AV :=
 (call 83 [.s a0, .s a1]).bind fun v1=>condM v1
 ((slS (.s a0) (some (.int (a1.length:Int))) none).bind fun v2=>some v2)
 (some (.s a0))
section
variable (call:CallT) (run:RunT) (a0 a1:List UInt8)
theorem text115:unr (C mx) call run 115 Tryd.f115 400 [.code body115] (initF (C mx) 115 Tryd.f115.ntmps [.s a0, .s a1])=X115 call run a0 a1:=by
 kernel_rfl
theorem c115 {r:AV} (h:X115 (semCall (C mx) Tryd.prog) (semRun (C mx) Tryd.prog 115 Tryd.f115) a0 a1=some r):semCall (C mx) Tryd.prog 115 [.s a0, .s a1]=some r :=
 semCall_unr (fn:=Tryd.f115) (c:=body115) (by kernel_rfl) (by kernel_rfl) 400 (by kernel_rfl) ((text115 _ _ a0 a1).trans h)
end
end R3I

namespace R3I
open Go Go.Proofs Sx
variable {mx:Int}
def ts (p:List UInt8×Int):AV:=.tu [.s p.1, .int p.2]
def trailE (c:Ctx):List UInt8×Int:=if form c then (if c.st == 20 then ([],5) else (trail c,0)) else ([],1)
theorem ts_0 (p:List UInt8×Int):tupI (ts p) 0=some (.s p.1):=rfl
theorem ts_1 (p:List UInt8×Int):tupI (ts p) 1=some (.int p.2):=rfl
theorem s75 (el:UInt8):semCall (C mx) Tryd.prog 75 [.u8 el]=some (.s (elemT el)):=by
 apply c75
 have hl:=nameOf_len el
 simp only [X75,ueq_eq,condM_b,s96,Option.bind_some]
 unfold elemT
 cases (el == 0) with
 | true=>rfl
 | false =>
  rw [if_neg (by simp),if_neg (by simp),s_add' (by simp;omega)]
  simp only [Option.bind_some]
  rw [s_add' (by simp;omega)]
  rfl
theorem s77 (c:Ctx):semCall (C mx) Tryd.prog 77 [c.toAV]=some (.s (codeT c.su c.es (if c.st == 8 then c.at' == 2 else c.el == 3))):=by
 have f7 (t:List UInt8) (s:Bool) (ht:t.length≤1):F77_7 (semRun (C mx) Tryd.prog 77 Tryd.f77) t s c.st c.el c.en c.at' c.qu c.pa c.su c.es c.da c.nm=some (.s (if c.su == 1 then t ++ [34] else if c.su == 2 then t ++ [39] else if c.su == 3 then (if s then [47] else [120]) else if c.su == 5 then [42,47] else if c.su == 6 then [47] else [])):=by
  apply r77_7
  simp only [X77_7,ueq_eq,condM_b]
  rw [s_add' (by simp;omega),s_add' (by simp;omega)]
  cases (c.su == 1) <;> cases (c.su == 2) <;> cases (c.su == 3) <;> cases (c.su == 5) <;> cases (c.su == 6) <;> cases s <;> rfl
 have f4 (t:List UInt8) (ht:t.length≤1):F77_4 (semRun (C mx) Tryd.prog 77 Tryd.f77) t c.st c.el c.en c.at' c.qu c.pa c.su c.es c.da c.nm=some (.s (if c.su == 1 then t ++ [34] else if c.su == 2 then t ++ [39] else if c.su == 3 then (if (if c.st == 8 then c.at' == 2 else c.el == 3) then [47] else [120]) else if c.su == 5 then [42,47] else if c.su == 6 then [47] else [])):=by
  apply r77_4
  simp only [X77_4,ueq_eq,condM_b,f7 _ _ ht]
  cases (c.st == 8) <;> rfl
 apply c77
 simp only [X77,condM_b]
 rw [f4 [110] (by simp),f4 [] (by simp)]
 unfold codeT
 cases c.es <;> rfl
theorem s115 (l p:List UInt8) (h:pre p l=true):semCall (C mx) Tryd.prog 115 [.s l, .s p]=some (.s (l.drop p.length)):=by
 apply c115
 simp only [X115,s83,h,Option.bind_some,condM_b,if_true]
 rw [slS_lo (pre_take h).2]
 rfl
theorem s97 (l p:List UInt8) (h:pre p l=true):semCall (C mx) Tryd.prog 97 [.s l, .s p]=some (.s (l.drop p.length)):=by
 apply c97
 simp only [X97,s115 l p h,Option.bind_some]
theorem codeT_len (su:UInt8) (es s:Bool):(codeT su es s).length≤2:=by
 unfold codeT
 repeat' split
 all_goals simp
theorem backC_of {c:Ctx} (h:form c=true) (e:c.st=19) (hs:(c.su == 0 || c.su == 4)=false):(backC c).el=c.el∧((backC c).st == 8)=false∧((backC c).es=true→(backC c).su=1∨(backC c).su=2):=by
 obtain ⟨su,es,hc,hl,hp,hu,hsu,h12⟩:=form_raw c h (by simp [e])
 obtain ⟨p1,p2⟩:=pre_take hp
 have hc:c=⟨19,c.el,false,0,0,0,su,es,0,(nameOf c.el).take c.nm.length⟩:=by rw [e] at hc;rw [← p1];exact hc
 have hk:c.nm.length ∈ List.range 9:=by have:=nameOf_len c.el;simp;omega
 have hx:=of_all (of_all (of_all (of_all chkB (mem_els (el5 h))) (mem_sus hu)) (mem_b es)) hk
 rw [← hc] at hx
 have hsu':su=c.su:=by rw [hc]
 rw [h,hsu',hs] at hx
 simp only [Bool.not_true,Bool.false_or,Bool.and_eq_true,Bool.or_eq_true,beq_iff_eq,bne_iff_ne,Bool.not_eq_true'] at hx
 refine ⟨hx.1.1,by simpa using hx.1.2,fun he=>?_⟩
 rcases hx.2 with (y | y) | y
 ·rw [he] at y;cases y
 ·exact .inl y
 ·exact .inr y
theorem s78 (c:Ctx) (h:form c=true) (e:c.st=17∨c.st=18∨c.st=19):semCall (C mx) Tryd.prog 78 [c.toAV]=some (.s (trailR c)):=by
 have hn:=form_nm c h
 have e8:(c.st == 8)=false:=by rcases e with x | x | x <;> rw [x] <;> rfl
 have hp:pre c.nm (nameOf c.el)=true:=(form_raw c h e).choose_spec.choose_spec.2.2.1
 have l1:=codeT_len c.su c.es (c.el == 3)
 have l2:=elemT_len c.el
 have l3:=nameOf_len c.el
 apply c78
 simp only [X78,une_eq,ueq_eq,condM_b,selW_or,mk_toAV,mk_eta,s77,s75,s96,s97 _ _ hp,e8,Option.bind_some,Bool.false_eq_true,if_false]
 rw [s_add' (by omega),s_add' (by simp;omega),s_add' (by simp;omega)]
 simp only [Option.bind_some,show s2b (.s ([47] ++ c.nm))=some (.ro 1 ((47 :: c.nm).map .u8)) from rfl]
 unfold trailR
 cases h19:(c.st == 19) with
 | false =>
  have hne:(c.st != 19)=true:=by unfold bne;rw [h19];rfl
  simp only [hne,if_true]
 | true =>
  have hne:(c.st != 19)=false:=by unfold bne;rw [h19];rfl
  simp only [hne,Bool.false_eq_true,if_false]
  cases hsu:(c.su == 0 || c.su == 4) with
  | true=>rfl
  | false =>
   obtain ⟨b1,b2,b3⟩:=backC_of h (eq_of_beq h19) hsu
   rw [if_neg (by decide),if_neg (by decide),s42 _ (47 :: c.nm) (by show 0 < 9223372036854775808;decide) (by simp;omega)]
   simp only [Option.bind_some,ti_0,ti_1,asAg_toAV,ten0,ten1,ten2,ten3,ten4,ten5,ten6,ten7,ten8,ten9,mk_toAV,mk_eta,s77]
   show (binS .add (.s (codeT (backC c).su (backC c).es (if (backC c).st == 8 then (backC c).at' == 2 else (backC c).el == 3))) (.s (elemT c.el))).bind _=_
   rw [b2,b1]
   have l4:=codeT_len (backC c).su (backC c).es (c.el == 3)
   rw [if_neg (by decide),s_add' (by omega)]
   rfl
theorem one_b2s (x:UInt8):b2s (.ro 1 [.u8 x])=some (.s [x]):=b2s_one x
theorem s52 (c:Ctx) (hc:c.nm.length < 9223372036854775808):semCall (C mx) Tryd.prog 52 [c.toAV]=some (ts (trailE c)):=by
 apply c52
 simp only [X52,ueq_eq,condM_b,mk_toAV,mk_eta,sForm (h:=hc),Option.bind_some,unop_not,s76,s75]
 unfold trailE
 cases h:form c with
 | false=>rfl
 | true =>
  have l2:=elemT_len c.el
  have l3:=elemT_len (elOf c.nm)
  have lc:=codeT_len c.su c.es (c.at' == 2)
  have f16:F52_16 (semRun (C mx) Tryd.prog 52 Tryd.f52)=some (ts ([62],0)):=by apply r52_16;rfl
  have f20:F52_20 (semRun (C mx) Tryd.prog 52 Tryd.f52)=some (ts ([45,45,62],0)):=by apply r52_20;rfl
  have f38:F52_38 (semRun (C mx) Tryd.prog 52 Tryd.f52)=some (ts ([],0)):=by apply r52_38;rfl
  have f26:F52_26 (semRun (C mx) Tryd.prog 52 Tryd.f52) c.st c.el c.en c.at' c.qu c.pa c.su c.es c.da c.nm=some (ts (62 :: elemT c.el,0)):=by
   apply r52_26
   simp only [X52_26,s75,Option.bind_some]
   rw [s_add' (by simp;omega)]
   rfl
  have f37 (e:c.st=17∨c.st=18∨c.st=19):F52_37 (semRun (C mx) Tryd.prog 52 Tryd.f52) c.st c.el c.en c.at' c.qu c.pa c.su c.es c.da c.nm=some (ts (trailR c,0)):=by
   apply r52_37
   simp only [X52_37,mk_toAV,mk_eta,s78 c h e,Option.bind_some]
   rfl
  have f33 (q:List UInt8) (hq:q.length≤1) (e:(c.st == 8)=true):F52_33 (semRun (C mx) Tryd.prog 52 Tryd.f52) (.s q) c.st c.el c.en c.at' c.qu c.pa c.su c.es c.da c.nm=some (ts (codeT c.su c.es (c.at' == 2) ++ (q ++ 62 :: elemT c.el),0)):=by
   apply r52_33
   simp only [X52_33,mk_toAV,mk_eta,s77,s75,e,if_true,Option.bind_some]
   rw [s_add' (by omega)]
   simp only [Option.bind_some]
   rw [s_add' (by simp;omega)]
   simp only [Option.bind_some]
   rw [s_add' (by simp;omega)]
   simp only [Option.bind_some,List.append_assoc,List.singleton_append]
   rfl
  have f27:F52_27 (semRun (C mx) Tryd.prog 52 Tryd.f52) c.st c.st c.el c.en c.at' c.qu c.pa c.su c.es c.da c.nm=some (ts (if c.st == 7 then 34 :: 34 :: 62 :: elemT c.el else if c.st == 8 then codeT c.su c.es (c.at' == 2) ++ (quoteT c.qu ++ 62 :: elemT c.el) else if c.st == 17 || c.st == 18 || c.st == 19 then trailR c else [],0)):=by
   apply r52_27
   simp only [X52_27,ueq_eq,une_eq,condM_b,s75,one_b2s,Option.bind_some,f38]
   rw [s_add' (by simp;omega)]
   by_cases h7:(c.st == 7)=true
   ·rw [if_pos h7,if_pos h7];rfl
   rw [if_neg h7,if_neg h7]
   by_cases h8:(c.st == 8)=true
   ·rw [if_pos h8,if_pos h8,f33 [c.qu] (by simp) h8,f33 [] (by simp) h8]
    unfold quoteT
    cases (c.qu != 0) <;> rfl
   rw [if_neg h8,if_neg h8]
   by_cases h17:(c.st == 17)=true
   ·rw [if_pos h17,f37 (.inl (eq_of_beq h17)),h17];rfl
   rw [if_neg h17]
   by_cases h18:(c.st == 18)=true
   ·rw [if_pos h18,f37 (.inr (.inl (eq_of_beq h18))),h18,Bool.or_true];rfl
   rw [if_neg h18]
   by_cases h19:(c.st == 19)=true
   ·rw [if_pos h19,f37 (.inr (.inr (eq_of_beq h19))),h19,Bool.or_true];rfl
   rw [if_neg h19,Bool.eq_false_iff.2 h17,Bool.eq_false_iff.2 h18,Bool.eq_false_iff.2 h19];rfl
  have f21:F52_21 (semRun (C mx) Tryd.prog 52 Tryd.f52) c.st c.st c.el c.en c.at' c.qu c.pa c.su c.es c.da c.nm=some (ts (if c.st == 4 || c.st == 5 || c.st == 6 || c.st == 9 || c.st == 10 then 62 :: elemT c.el else if c.st == 7 then 34 :: 34 :: 62 :: elemT c.el else if c.st == 8 then codeT c.su c.es (c.at' == 2) ++ (quoteT c.qu ++ 62 :: elemT c.el) else if c.st == 17 || c.st == 18 || c.st == 19 then trailR c else [],0)):=by
   apply r52_21
   simp only [X52_21,ueq_eq,condM_b,f26,f27]
   cases (c.st == 4) <;> cases (c.st == 5) <;> cases (c.st == 6) <;> cases (c.st == 9) <;> cases (c.st == 10) <;> rfl
  have f17:F52_17 (semRun (C mx) Tryd.prog 52 Tryd.f52) c.st c.st c.el c.en c.at' c.qu c.pa c.su c.es c.da c.nm=some (ts (if c.st == 13 || c.st == 14 || c.st == 15 then [45,45,62] else if c.st == 4 || c.st == 5 || c.st == 6 || c.st == 9 || c.st == 10 then 62 :: elemT c.el else if c.st == 7 then 34 :: 34 :: 62 :: elemT c.el else if c.st == 8 then codeT c.su c.es (c.at' == 2) ++ (quoteT c.qu ++ 62 :: elemT c.el) else if c.st == 17 || c.st == 18 || c.st == 19 then trailR c else [],0)):=by
   apply r52_17
   simp only [X52_17,ueq_eq,condM_b,f20,f21]
   cases (c.st == 13) <;> cases (c.st == 14) <;> cases (c.st == 15) <;> rfl
  simp only [Bool.not_true,Bool.false_eq_true,if_false,if_true,f16,f17]
  rw [s_add' (by simp;omega)]
  unfold trail
  cases (c.st == 20) <;> cases (c.st == 1) <;> cases (c.st == 3) <;> cases (c.st == 2) <;> cases (c.st == 11) <;> cases (c.st == 12) <;> cases (c.st == 16) <;> cases c.en <;> rfl
end R3I

namespace R3I
open Go Go.Proofs Go.RowKit Go.Shelf Sx R3
variable {mx:Int}
def GC (r:Ctx→AV) (args:List AV):Option AV :=
 match args with
 | [a]=>match ctxOf a with
  | some c=>if c.nm.length < 9223372036854775808 then some (r c) else none
  | none=>none
 | _=>none
theorem GC_at (r:Ctx→AV) (c:Ctx) (h:NmS c):GC r [c.toAV]=some (r c):=by
 show (match ctxOf c.toAV with | some c=>if c.nm.length < 9223372036854775808 then some (r c) else none | none=>none)=_
 rw [ctxOf_toAV]
 exact if_pos h
theorem GC_of {r:Ctx→AV} {args:List AV} {x:AV} (h:GC r args=some x):∃ c:Ctx,args=[c.toAV]∧NmS c∧x=r c:=by
 unfold GC at h
 split at h
 ·rename_i a
  split at h
  ·rename_i c hc
   split at h
   ·rename_i hn
    cases h
    exact ⟨c,by rw [of_ctxOf hc],hn,rfl⟩
   ·cases h
  ·cases h
 ·cases h
def G50:List AV→Option AV:=GC fun c=>.u8 (hole c)
def G51:List AV→Option AV:=GC fun c=>(after c).toAV
def G52:List AV→Option AV:=GC fun c=>ts (trailE c)
theorem gv50_ok {C':Cfg} {mx:Int} (hgl:C'.glob=(C mx).glob) (ho:(C'.own 50).all Option.isNone=true) (args:List AV) (r:AV) (h:G50 args=some r) (w:World) (F:Nat→Prop) (vs:Array Value) (hG:GlobOk C' w F) (hl:vs.size=args.length)
  (hv:∀ (j:Nat) (a:AV) (v:Value),args[j]?=some a→vs[j]?=some v→Rel w F a v):CallRuns Tryd.prog 50 vs w (PostOk C' 50 w F r):=by
 have hG':GlobOk (C mx) w F:=fun g k e hg=>hG g k e (by rw [hgl];exact hg)
 obtain ⟨c,rfl,hn,rfl⟩:=GC_of h
 refine .inl ⟨Tryd.f50,(Tryd.f50.body).getD .skip,Tryd.func50,by kernel_rfl,by kernel_rfl,Calls.mono (calls_sem (fit mx) (c:=Tryd.f50.body.getD .skip) Tryd.func50 (by kernel_rfl) (s50 ..) (by kernel_rfl) w F vs hG' hl hv) fun e w' he=>?_⟩
 obtain ⟨v,rfl,hx,hr⟩:=he
 refine ⟨_,rfl,hx,?_⟩
 unfold ResOk at hr ⊢
 rw [if_pos (by kernel_rfl)] at hr
 rw [if_pos ho]
 exact hr
theorem gv51_ok {C':Cfg} {mx:Int} (hgl:C'.glob=(C mx).glob) (ho:(C'.own 51).all Option.isNone=true) (args:List AV) (r:AV) (h:G51 args=some r) (w:World) (F:Nat→Prop) (vs:Array Value) (hG:GlobOk C' w F) (hl:vs.size=args.length)
  (hv:∀ (j:Nat) (a:AV) (v:Value),args[j]?=some a→vs[j]?=some v→Rel w F a v):CallRuns Tryd.prog 51 vs w (PostOk C' 51 w F r):=by
 have hG':GlobOk (C mx) w F:=fun g k e hg=>hG g k e (by rw [hgl];exact hg)
 obtain ⟨c,rfl,hn,rfl⟩:=GC_of h
 refine .inl ⟨Tryd.f51,(Tryd.f51.body).getD .skip,Tryd.func51,by kernel_rfl,by kernel_rfl,Calls.mono (calls_sem (fit mx) (c:=Tryd.f51.body.getD .skip) Tryd.func51 (by kernel_rfl) (s51 ..) (by kernel_rfl) w F vs hG' hl hv) fun e w' he=>?_⟩
 obtain ⟨v,rfl,hx,hr⟩:=he
 refine ⟨_,rfl,hx,?_⟩
 unfold ResOk at hr ⊢
 rw [if_pos (by kernel_rfl)] at hr
 rw [if_pos ho]
 exact hr
theorem gv52_ok {C':Cfg} {mx:Int} (hgl:C'.glob=(C mx).glob) (ho:(C'.own 52).all Option.isNone=true) (args:List AV) (r:AV) (h:G52 args=some r) (w:World) (F:Nat→Prop) (vs:Array Value) (hG:GlobOk C' w F) (hl:vs.size=args.length)
  (hv:∀ (j:Nat) (a:AV) (v:Value),args[j]?=some a→vs[j]?=some v→Rel w F a v):CallRuns Tryd.prog 52 vs w (PostOk C' 52 w F r):=by
 have hG':GlobOk (C mx) w F:=fun g k e hg=>hG g k e (by rw [hgl];exact hg)
 obtain ⟨c,rfl,hn,rfl⟩:=GC_of h
 refine .inl ⟨Tryd.f52,(Tryd.f52.body).getD .skip,Tryd.func52,by kernel_rfl,by kernel_rfl,Calls.mono (calls_sem (fit mx) (c:=Tryd.f52.body.getD .skip) Tryd.func52 (by kernel_rfl) (s52 c hn) (by kernel_rfl) w F vs hG' hl hv) fun e w' he=>?_⟩
 obtain ⟨v,rfl,hx,hr⟩:=he
 refine ⟨_,rfl,hx,?_⟩
 unfold ResOk at hr ⊢
 rw [if_pos (by kernel_rfl)] at hr
 rw [if_pos ho]
 exact hr
end R3I

namespace R3H
open Go Sx
def tyTab:List (Nat×Ty):=[
 (3,{ size:=1,bytes:=8,kd:=.int .i64,elem:=0,zero:=[.int 0],fields:=[],eqk:=none }),
 (4,{ size:=1,bytes:=1,kd:=.bool,elem:=0,zero:=[.b false],fields:=[],eqk:=none }),
 (5,{ size:=1,bytes:=1,kd:=.int .u8,elem:=0,zero:=[.u8 0],fields:=[],eqk:=none }),
 (9,{ size:=1,bytes:=16,kd:=.str,elem:=0,zero:=[.s []],fields:=[],eqk:=none }),
 (24,{ size:=1,bytes:=8,kd:=.int .i64,elem:=0,zero:=[.int 0],fields:=[],eqk:=none }),
 (32,{ size:=1,bytes:=24,kd:=.slice,elem:=9,zero:=[.nils],fields:=[],eqk:=none }),
 (34,{ size:=2,bytes:=32,kd:=.struct,elem:=0,zero:=[.b false, .nils],fields:=[(0,4),(1,32)],eqk:=none }),
 (38,{ size:=1,bytes:=24,kd:=.slice,elem:=5,zero:=[.nils],fields:=[],eqk:=none }),
 (47,{ size:=1,bytes:=24,kd:=.slice,elem:=61,zero:=[.nils],fields:=[],eqk:=none }),
 (48,{ size:=1,bytes:=24,kd:=.slice,elem:=3,zero:=[.nils],fields:=[],eqk:=none }),
 (50,{ size:=2,bytes:=48,kd:=.struct,elem:=0,zero:=[.nils, .nils],fields:=[(0,47),(1,48)],eqk:=none }),
 (58,{ size:=1,bytes:=1,kd:=.int .u8,elem:=0,zero:=[.u8 0],fields:=[],eqk:=none }),
 (59,{ size:=1,bytes:=1,kd:=.int .u8,elem:=0,zero:=[.u8 0],fields:=[],eqk:=none }),
 (61,{ size:=9,bytes:=120,kd:=.struct,elem:=0,zero:=[.u8 0, .int 0, .s [], .b false, .nils, .nils, .nils, .b false, .u8 0],fields:=[(0,58),(1,3),(2,9),(3,34),(5,48),(6,48),(7,4),(8,59)],eqk:=none }),
 (66,{ size:=1,bytes:=1,kd:=.int .u8,elem:=0,zero:=[.u8 0],fields:=[],eqk:=none }),
 (67,{ size:=1,bytes:=1,kd:=.int .u8,elem:=0,zero:=[.u8 0],fields:=[],eqk:=none }),
 (68,{ size:=1,bytes:=1,kd:=.int .u8,elem:=0,zero:=[.u8 0],fields:=[],eqk:=none }),
 (69,{ size:=1,bytes:=1,kd:=.int .u8,elem:=0,zero:=[.u8 0],fields:=[],eqk:=none }),
 (70,{ size:=1,bytes:=1,kd:=.int .u8,elem:=0,zero:=[.u8 0],fields:=[],eqk:=none }),
 (72,{ size:=10,bytes:=32,kd:=.struct,elem:=0,zero:=[.u8 0, .u8 0, .b false, .u8 0, .u8 0, .u8 0, .u8 0, .b false, .u8 0, .s []],fields:=[(0,66),(1,67),(2,4),(3,68),(4,5),(5,69),(6,70),(7,4),(8,5),(9,9)],eqk:=some [.i, .i, .b, .i, .i, .i, .i, .b, .i, .s] })
]
def planTab:List ((Nat×Nat)×(Plan×List Nat)):=[((21,17),(.seq [(0,true),(1,true),(2,true),(3,true),(4,true),(5,true),(6,true),(7,true),(8,true),(9,true),(10,true),(11,true),(12,true),(13,true),(14,true),(15,false),(16,true),(17,true),(18,true),(19,true),(20,true),(21,false),(22,true),(23,true)] .done,[]))]
def stopTab:List (Nat×List (Nat×List (Nat×Option (Nat×Nat))×List (Nat×List (Nat×Nat×Nat)))):=[(21,[(4,[(0,none),(3,none)],[])])]
def ownTab:List (Nat×List (Option (Nat×Nat))):=[]
def sigTab:List (Nat×Sig):=[]
def truncTab:List (Nat×List Nat):=[]
def C (mx:Int):Cfg:=mkCfg tyTab planTab stopTab ownTab truncTab (fun g=>bif Nat.beq g 0 then some (10, .ag [.u8 20, .u8 0, .b false, .u8 0, .u8 0, .u8 0, .u8 0, .b false, .u8 0, .s []]) else bif Nat.beq g 1 then some (1, .int mx) else none) sigTab (fun g=>bif Nat.beq g 41 then some R3I.G41 else bif Nat.beq g 42 then some R3I.G42 else bif Nat.beq g 50 then some R3I.G50 else bif Nat.beq g 51 then some R3I.G51 else bif Nat.beq g 52 then some R3I.G52 else none)
end R3H

open Go Go.Proofs Sx
namespace R3H
theorem tys:tyTab.all (fun p=>tyB Tryd.prog p.1 p.2)=true:=by kernel_rfl
theorem fns (mx:Int):fnsB (C mx) 0 Tryd.prog.funcs.toList=true:=by kernel_rfl
theorem gvs (mx:Int):∀ (g:Nat) (G:List AV→Option AV),(C mx).gv g=some G→((C mx).own g).all Option.isNone=true→∀ (args:List AV) (r:AV),G args=some r→∀ (w:World) (F:Nat→Prop) (vs:Array Value),GlobOk (C mx) w F→vs.size=args.length →
   (∀ (j:Nat) (a:AV) (v:Value),args[j]?=some a→vs[j]?=some v→Rel w F a v)→CallRuns Tryd.prog g vs w (PostOk (C mx) g w F r):=by
 intro g G h ho args r hr w F vs hG hl hv
 have h:(bif Nat.beq g 41 then some R3I.G41 else bif Nat.beq g 42 then some R3I.G42 else bif Nat.beq g 50 then some R3I.G50 else bif Nat.beq g 51 then some R3I.G51 else bif Nat.beq g 52 then some R3I.G52 else none)=some G:=h
 cases h1:Nat.beq g 41 with
 | true =>
  rw [h1] at h;cases h
  obtain rfl:=Nat.eq_of_beq_eq_true h1
  exact R3I.gv41_ok (mx:=mx) rfl ho args r hr w F vs hG hl hv
 | false =>
  rw [h1] at h
  cases h2:Nat.beq g 42 with
  | true =>
   rw [h2] at h;cases h
   obtain rfl:=Nat.eq_of_beq_eq_true h2
   exact R3I.gv42_ok (mx:=mx) rfl ho args r hr w F vs hG hl hv
  | false =>
   rw [h2] at h
   cases h3:Nat.beq g 50 with
   | true =>
    rw [h3] at h;cases h
    obtain rfl:=Nat.eq_of_beq_eq_true h3
    exact R3I.gv50_ok (mx:=mx) rfl ho args r hr w F vs hG hl hv
   | false =>
    rw [h3] at h
    cases h4:Nat.beq g 51 with
    | true =>
     rw [h4] at h;cases h
     obtain rfl:=Nat.eq_of_beq_eq_true h4
     exact R3I.gv51_ok (mx:=mx) rfl ho args r hr w F vs hG hl hv
    | false =>
     rw [h4] at h
     cases h5:Nat.beq g 52 with
     | true =>
      rw [h5] at h;cases h
      obtain rfl:=Nat.eq_of_beq_eq_true h5
      exact R3I.gv52_ok (mx:=mx) rfl ho args r hr w F vs hG hl hv
     | false=>rw [h5] at h;cases h
theorem fit (mx:Int):Fit (C mx) Tryd.prog:=Fit.of (tab:=tyTab) rfl tys (fns mx) R3.mixed (ext_of R3.idxs R3.run145) (gvs mx)
theorem maxLen {W:World} (h:W.ShapedOpen Tryd.prog):∃ m,W.cell? ⟨1,0,none⟩=some (.int .i64 m):=R3.maxLen h
end R3H

open Go Go.Proofs Sx
namespace R3H
theorem laid_second {P:Program} {w:World} {a b c:String×DataW Unit} {ps:List MemPlace} (h:DataW.LaidVars P w [a,b,c] ps):∃ qs,DataW.LaidVars P w [b] qs:=by
 obtain ⟨g,t,cs,fuel,p,q,h1,h2,h3,h4,h5,h6⟩:=h
 obtain ⟨g',t',cs',fuel',p',q',k1,k2,k3,k4,k5,k6⟩:=h5
 exact ⟨_,g',t',cs',fuel',p',[],k1,k2,k3,k4,rfl,rfl⟩
def badAV:AV:=.ag [.u8 20, .u8 0, .b false, .u8 0, .u8 0, .u8 0, .u8 0, .b false, .u8 0, .s []]
def C0 (mx:Int):Cfg:={ C mx with glob:=fun g=>bif Nat.beq g 0 then some (10,badAV) else none }
theorem globC (mx:Int):∀ g' k' e',(C0 mx).glob g'=some (k',e')→g'=0∧k'=10∧e'=badAV:=by
 intro g k e h
 have h:(bif Nat.beq g 0 then some (10,badAV) else none)=some (k,e):=h
 cases hg:Nat.beq g 0 with
 | false=>rw [hg] at h;cases h
 | true=>rw [hg] at h;cases h;exact ⟨Nat.eq_of_beq_eq_true hg,rfl,rfl⟩
theorem globE:∀ j,j < 10→badAV.cell j=avL (([.lit (.int .u8 20), .lit (.int .u8 0), .lit (.bool false), .lit (.int .u8 0), .lit (.int .u8 0), .lit (.int .u8 0), .lit (.int .u8 0), .lit (.bool false), .lit (.int .u8 0), .lit (.string [])]:List (DataW Unit)).getD j .nil):=by
 intro j hj
 match j,hj with
 | 0,_ | 1,_ | 2,_ | 3,_ | 4,_ | 5,_ | 6,_ | 7,_ | 8,_ | 9,_=>rfl
theorem globOk {W:World} {m:Int} (h:W.cell? ⟨1,0,none⟩=some (.int .i64 m)) {a c:String×DataW Unit} {ps:List MemPlace}
  (hl:DataW.LaidVars Tryd.prog W [a, ("bobbin/step.bad", .agg [.lit (.int .u8 20), .lit (.int .u8 0), .lit (.bool false), .lit (.int .u8 0), .lit (.int .u8 0), .lit (.int .u8 0), .lit (.int .u8 0), .lit (.bool false), .lit (.int .u8 0), .lit (.string [])]),c] ps):GlobOk (C m) W (fun _=>True):=by
 obtain ⟨qs,hl⟩:=laid_second hl
 have h0:GlobOk (C0 m) W (fun _=>True):=globOk_one (k:=10) (globC m) (by kernel_rfl) (t:=72) (by kernel_rfl) Tryd.underlying72 (by kernel_rfl) rfl (by decide) globE hl
 intro g k e hg
 have hg:(bif Nat.beq g 0 then some (10,badAV) else bif Nat.beq g 1 then some (1,AV.int m) else none)=some (k,e):=hg
 cases h1:Nat.beq g 0 with
 | true =>
  rw [h1] at hg
  refine h0 g k e ?_
  show (bif Nat.beq g 0 then some (10,badAV) else none)=some (k,e)
  rw [h1];exact hg
 | false =>
  rw [h1] at hg
  cases h2:Nat.beq g 1 with
  | false=>rw [h2] at hg;cases hg
  | true =>
   rw [h2] at hg;cases hg
   obtain rfl:=Nat.eq_of_beq_eq_true h2
   refine ⟨1,0,rfl,trivial,cell_lt h,fun j hj=>?_⟩
   obtain rfl:j=0:=by omega
   exact ⟨.int .i64 m,h,rfl,Rel.int m⟩
mutual
def flatV:DataW Unit→List Value
 | .lit (.int k n)=>[.int k n]
 | .lit (.bool b)=>[.bool b]
 | .lit (.string l)=>[.string ⟨l.toArray⟩]
 | .agg ps=>flatVs ps
 | _=>[]
def flatVs:List (DataW Unit)→List Value
 | []=>[]
 | d :: r=>flatV d ++ flatVs r
end
end R3H

namespace R3
open Go Go.Proofs Sx
theorem occ2 (s:List UInt8) (x y:UInt8) (i:Nat):Lib.occAt s [x,y] i=true↔s[i]?=some x∧s[i+1]?=some y:=by
 unfold Lib.occAt
 have e:∀ l:List UInt8,List.isPrefixOf [x,y] l=true↔l[0]?=some x∧l[1]?=some y:=by
  intro l
  match l with
  | []=>simp [List.isPrefixOf]
  | [a]=>simp [List.isPrefixOf]
  | a :: b :: r =>
   simp only [List.isPrefixOf,Bool.and_true,Bool.and_eq_true,beq_iff_eq,List.getElem?_cons_zero,List.getElem?_cons_succ,Option.some.injEq]
   constructor <;> rintro ⟨h1,h2⟩ <;> exact ⟨h1.symm,h2.symm⟩
 rw [e]
 simp [List.getElem?_drop]
theorem index_app {s t:List UInt8} {x y:UInt8} {j:Nat} (h:Lib.index s [x,y]=(j:Int)):Lib.index (s ++ t) [x,y]=(j:Int):=by
 rcases Lib.index_spec s [x,y] with ⟨h1,_⟩ | ⟨i,h1,h2,h3,h4⟩
 ·omega
 ·obtain rfl:i=j:=by omega
  obtain ⟨g1,g2⟩:=(occ2 s x y i).1 h3
  have l1:i+1 < s.length:=(List.getElem?_eq_some_iff.1 g2).1
  refine Lib.index_first (by rw [List.length_append];omega) ((occ2 _ _ _ _).2 ⟨by rw [List.getElem?_append_left (by omega)];exact g1,by rw [List.getElem?_append_left l1];exact g2⟩) fun k hk=>?_
  cases hc:Lib.occAt (s ++ t) [x,y] k with
  | false=>rfl
  | true =>
   obtain ⟨k1,k2⟩:=(occ2 _ _ _ _).1 hc
   rw [List.getElem?_append_left (by omega)] at k1 k2
   have:=h4 k hk
   rw [(occ2 _ _ _ _).2 ⟨k1,k2⟩] at this
   cases this
def Meet (s t:List UInt8):Prop:=¬ (s.getLast?=some 123∧t[0]?=some 123)
theorem idxO_app {s t:List UInt8} (h:idxO s=s.length) (hm:Meet s t):idxO (s ++ t)=s.length+idxO t:=by
 have hno:∀ j,Lib.occAt s brO j=false:=by
  intro j
  rcases Lib.index_spec s brO with ⟨h1,h2⟩ | ⟨i,h1,h2,h3,h4⟩
  ·by_cases hj:j≤s.length
   ·exact h2 j hj
   ·cases hc:Lib.occAt s brO j with
    | false=>rfl
    | true =>
     have:=((occ2 s 123 123 j).1 hc).1
     have:=(List.getElem?_eq_some_iff.1 this).1
     omega
  ·unfold idxO at h
   rw [if_neg (by omega),h1] at h
   have:=((occ2 s 123 123 i).1 h3).1
   have:=(List.getElem?_eq_some_iff.1 this).1
   omega
 have hearly:∀ j,Lib.occAt (s ++ t) brO j=true→s.length≤j∧Lib.occAt t brO (j - s.length)=true:=by
  intro j hc
  obtain ⟨k1,k2⟩:=(occ2 _ _ _ _).1 hc
  by_cases hj:s.length≤j
  ·rw [List.getElem?_append_right hj] at k1
   rw [List.getElem?_append_right (by omega)] at k2
   refine ⟨hj,(occ2 _ _ _ _).2 ⟨k1,?_⟩⟩
   rw [← k2];congr 1;omega
  ·exfalso
   rw [List.getElem?_append_left (by omega)] at k1
   by_cases hj2:j+1 < s.length
   ·rw [List.getElem?_append_left hj2] at k2
    have h5:Lib.occAt s brO j=true:=(occ2 s 123 123 j).2 ⟨k1,k2⟩
    rw [hno j] at h5
    cases h5
   ·rw [List.getElem?_append_right (by omega)] at k2
    refine hm ⟨?_,?_⟩
    ·rw [List.getLast?_eq_getElem?,← k1];congr 1;omega
    ·rw [← k2];congr 1;omega
 rcases Lib.index_spec t brO with ⟨h1,h2⟩ | ⟨i,h1,h2,h3,h4⟩
 ·have hz:Lib.index (s ++ t) brO=-1:=by
   rcases Lib.index_spec (s ++ t) brO with ⟨g1,_⟩ | ⟨i,g1,g2,g3,g4⟩
   ·exact g1
   ·obtain ⟨a1,a2⟩:=hearly i g3
    rw [h2 _ (by rw [List.length_append] at g2;omega)] at a2
    cases a2
  unfold idxO
  rw [hz,h1,if_pos (by decide),if_pos (by decide),List.length_append]
 ·have hz:Lib.index (s ++ t) brO=((s.length+i:Nat):Int):=by
   refine Lib.index_first (by rw [List.length_append];omega) ?_ fun k hk=>?_
   ·obtain ⟨k1,k2⟩:=(occ2 _ _ _ _).1 h3
    refine (occ2 _ _ _ _).2 ⟨?_,?_⟩
    ·rw [List.getElem?_append_right (by omega),← k1];congr 1;omega
    ·rw [List.getElem?_append_right (by omega),← k2];congr 1;omega
   ·cases hc:Lib.occAt (s ++ t) brO k with
    | false=>rfl
    | true =>
     obtain ⟨a1,a2⟩:=hearly k hc
     have:=h4 (k - s.length) (by omega)
     rw [a2] at this
     cases this
  unfold idxO
  rw [hz,h1,if_neg (by omega),if_neg (by omega)]
  rfl
inductive Lx:Nat→List UInt8→List Wd→Prop where
 | nil (a:Nat):Lx a [] []
 | lit (a:Nat) (u r:List UInt8) (W:List Wd):u≠[]→idxO (u ++ r)=u.length→Lx (a+u.length) r W→Lx a (u ++ r) (litW a u :: W)
 | act (a:Nat) (t r:List UInt8) (W:List Wd):Lib.index (brO ++ (t ++ (brC ++ r))) brC=((t.length+2:Nat):Int)→(actW t).ok=true→Lx (a+(t.length+4)) r W→Lx a (brO ++ (t ++ (brC ++ r))) (actWd a (actW t) :: W)
theorem idxO_brO (r:List UInt8):idxO (brO ++ r)=0:=by
 have:Lib.index (brO ++ r) brO=((0:Nat):Int):=Lib.index_first (Nat.zero_le _) (by unfold Lib.occAt;simp [brO,List.isPrefixOf]) fun j hj=>by omega
 unfold idxO
 rw [this];rfl
theorem of_lx {a:Nat} {r:List UInt8} {W:List Wd} (h:Lx a r W):∀ (n:Nat) (acc:List Wd),r.length < n→wordsF n r a acc=(acc ++ W,-1):=by
 induction h with
 | nil a =>
  intro n acc hn
  obtain ⟨k,rfl⟩:∃ k,n=k+1:=⟨n - 1,by omega⟩
  rw [wordsF];simp
 | lit a u r W hu hi _ ih =>
  intro n acc hn
  obtain ⟨k,rfl⟩:∃ k,n=k+1:=⟨n - 1,by omega⟩
  have hpos:0 < u.length:=List.length_pos_iff.2 hu
  have hne:(u ++ r).isEmpty=false:=by cases u with | nil=>exact absurd rfl hu | cons x t=>rfl
  rw [List.length_append] at hn
  rw [wordsF,hne,if_neg (by decide),hi,if_pos hpos,List.drop_left,List.take_left,ih k _ (by omega),List.append_assoc]
  rfl
 | act a t r W hi hok _ ih =>
  intro n acc hn
  obtain ⟨k,rfl⟩:∃ k,n=k+1:=⟨n - 1,by omega⟩
  have hd:((brO ++ (t ++ (brC ++ r))).take (t.length+2)).drop 2=t:=by
   rw [show brO ++ (t ++ (brC ++ r))=(brO ++ t) ++ (brC ++ r) by simp [List.append_assoc],List.take_left' (by simp [brO])]
   rfl
  have hr:(brO ++ (t ++ (brC ++ r))).drop (t.length+2+2)=r:=by
   rw [show brO ++ (t ++ (brC ++ r))=(brO ++ t ++ brC) ++ r by simp [List.append_assoc],List.drop_left' (by simp [brO,brC])]
  have hl:(brO ++ (t ++ (brC ++ r))).length=t.length+r.length+4:=by simp [brO,brC];omega
  rw [hl] at hn
  rw [wordsF,show (brO ++ (t ++ (brC ++ r))).isEmpty=false from rfl,if_neg (by decide),idxO_brO,if_neg (by decide),hi,if_neg (by omega),Int.toNat_natCast,hd,hr,if_pos hok,show a+(t.length+2+2)=a+(t.length+4) by omega,ih k _ (by omega),List.append_assoc]
  rfl
theorem lx_words {l:List UInt8} {W:List Wd} (h:Lx 0 l W):wordsW l=(W,-1):=by
 have:=of_lx h (l.length+1) [] (by omega)
 rwa [List.nil_append] at this
def Wd.up (k:Nat) (w:Wd):Wd:={ w with at':=w.at'+k }
theorem Lx.up {a:Nat} {r:List UInt8} {W:List Wd} (h:Lx a r W) (k:Nat):Lx (a+k) r (W.map (Wd.up k)):=by
 induction h with
 | nil a=>exact .nil _
 | lit a u r W hu hi _ ih=>exact .lit (a+k) u r _ hu hi (by rw [show a+k+u.length=a+u.length+k by omega];exact ih)
 | act a t r W hi hok _ ih=>exact .act (a+k) t r _ hi hok (by rw [show a+k+(t.length+4)=a+(t.length+4)+k by omega];exact ih)
theorem Lx.nil_inv {a:Nat} {r:List UInt8} {W:List Wd} (h:Lx a r W) (hr:r=[]):W=[]:=by
 cases h with
 | nil=>rfl
 | lit _ u r W hu _ _=>exact absurd (List.append_eq_nil_iff.1 hr).1 hu
 | act=>simp [brO] at hr
theorem Lx.app {a:Nat} {s:List UInt8} {W:List Wd} (h:Lx a s W):∀ {t:List UInt8} {V:List Wd},Lx (a+s.length) t V→Meet s t →
  Lx a (s ++ t) (W ++ V)∨∃ W' p q u v V',W=W' ++ [litW p u]∧V=litW q v :: V'∧Lx a (s ++ t) (W' ++ litW p (u ++ v) :: V'):=by
 induction h with
 | nil a=>intro t V hV hm;exact .inl hV
 | lit a u r W hu hi hr ih =>
  intro t V hV hm
  by_cases hr0:r=[]
  ·subst hr0
   rw [List.append_nil] at hi hV hm ⊢
   have hi2:=idxO_app hi hm
   obtain rfl:=hr.nil_inv rfl
   cases hV with
   | nil=>left;rw [List.append_nil] at hi2 ⊢;have:=Lx.lit a u [] [] hu (by rw [List.append_nil];exact hi) (.nil _);rwa [List.append_nil] at this
   | lit a' v r' W' hv hiv hr' =>
    right
    refine ⟨[],a,a+u.length,u,v,W',rfl,rfl,?_⟩
    have:=Lx.lit a (u ++ v) r' W' (by simp [hu]) (by rw [List.append_assoc,hi2,hiv,List.length_append]) (by rw [List.length_append,← Nat.add_assoc];exact hr')
    rwa [List.append_assoc] at this
   | act a' t' r' W' hi' hok' hr' =>
    left
    exact Lx.lit a u _ _ hu (by rw [hi2,idxO_brO];rfl) (Lx.act _ t' r' W' hi' hok' hr')
  ·have hm':Meet r t:=by
    intro hh
    refine hm ⟨?_,hh.2⟩
    rw [List.getLast?_append,hh.1];rfl
   have hi':idxO (u ++ (r ++ t))=u.length:=by
    have hlt:u.length < (u ++ r).length:=by rw [List.length_append];have:=List.length_pos_iff.2 hr0;omega
    obtain ⟨j,hj⟩:∃ j:Nat,Lib.index (u ++ r) brO=(j:Int):=by
     unfold idxO at hi
     split at hi
     ·omega
     ·exact ⟨(Lib.index (u ++ r) brO).toNat,by omega⟩
    have hju:j=u.length:=by
     unfold idxO at hi
     rw [hj,if_neg (by omega)] at hi
     exact hi
    rw [← List.append_assoc]
    have h7:Lib.index (u ++ r ++ t) brO=(j:Int):=index_app (t:=t) hj
    unfold idxO
    rw [h7,if_neg (by omega)]
    omega
   rcases ih (t:=t) (V:=V) (by rw [List.length_append,← Nat.add_assoc] at hV;exact hV) hm' with g | ⟨W',p,q,x,y,V',e1,e2,g⟩
   ·left
    have:=Lx.lit a u (r ++ t) _ hu hi' g
    rwa [← List.append_assoc] at this
   ·right
    refine ⟨litW a u :: W',p,q,x,y,V',by rw [e1];rfl,e2,?_⟩
    have:=Lx.lit a u (r ++ t) _ hu hi' g
    rwa [← List.append_assoc] at this
 | act a t0 r W hi hok hr ih =>
  intro t V hV hm
  have hi':Lib.index (brO ++ (t0 ++ (brC ++ (r ++ t)))) brC=((t0.length+2:Nat):Int):=by
   have:=index_app (t:=t) hi
   rwa [show (brO ++ (t0 ++ (brC ++ r))) ++ t=brO ++ (t0 ++ (brC ++ (r ++ t))) by simp] at this
  have hm':Meet r t:=by
   intro hh
   refine hm ⟨?_,hh.2⟩
   rw [List.getLast?_append,List.getLast?_append,List.getLast?_append,hh.1];rfl
  have el:(brO ++ (t0 ++ (brC ++ r))).length=t0.length+4+r.length:=by simp [brO,brC];omega
  have ea:(brO ++ (t0 ++ (brC ++ r))) ++ t=brO ++ (t0 ++ (brC ++ (r ++ t))):=by simp
  rw [ea]
  rcases ih (t:=t) (V:=V) (by rw [el,← Nat.add_assoc] at hV;exact hV) hm' with g | ⟨W',p,q,x,y,V',e1,e2,g⟩
  ·exact .inl (Lx.act a t0 (r ++ t) _ hi' hok g)
  ·exact .inr ⟨actWd a (actW t0) :: W',p,q,x,y,V',by rw [e1];rfl,e2,Lx.act a t0 (r ++ t) _ hi' hok g⟩
end R3

namespace R3
open Go Go.Proofs Sx
end R3

namespace R3
open Go Go.Proofs Sx
end R3

namespace R3I
open Go Go.Proofs Sx R3
theorem bytes_nil {c:Ctx} (h:form c=true):bytesB c []=(c,-1):=by
 unfold bytesB inF
 rw [if_pos h]
 rfl
theorem parseT_of {l:List UInt8} {ws:List Wd} (hl:l.length≤65536) (h:wordsW l=(ws,-1)):parseT l=treeOf ws:=by
 unfold parseT
 rw [if_neg (by omega),h,if_neg (by show ¬ (0:Int)≤-1;decide)]
end R3I
