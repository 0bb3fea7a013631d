/-
  A part of ParseDeep's proof: an evaluator of translated functions over plain data, what functions of this seat come to, and laws on plain data.
-/
import Derived.Test.YtgjfbalafdifgaaDoorTD
import Derived.StillTailTactics
import Derived.Deep.RegionLawGrows
import Derived.Deep.AppendLies
import Derived.OneCell
import Derived.WalkSmall
import Derived.Laws.OwnMore
import Derived.Test.YtgjfbalafdifgaaDoorTB
import Derived.Deep.RegionHeld3
import Derived.Test.YtgjfbalafdifgaaDoorProg
set_option linter.unusedVariables false
set_option linter.unusedSimpArgs false
set_option linter.unusedSectionVars false
set_option linter.unnecessarySimpa false
namespace R3
open Go Go.Proofs Go.RowKit Go.Shelf Sx
variable {mx:Int}
theorem own_cells {W:World} {F:Nat→Prop} {e k:Nat} {l:List AV} {g n cap:Nat} (h:OwnOk W F e k l (.slice (some ⟨g,0,none⟩) n cap)) {i:Nat} (hi:i < l.length) :
  n=l.length∧∃ x:Nat→Value,(∀ j,j < k→W.cell? ⟨g,i * k+j,none⟩=some (x j)∧W.frozen? ⟨g,i * k+j,none⟩=false)∧∀ j,j < k→Rel W F ((l.getD i .un).cell j) (x j):=by
 obtain ⟨hk,xs,⟨hl,h2⟩,ho,hr⟩:=h
 rcases h2 with ⟨e0,_⟩ | ⟨g',cap',cur,e1,hg0,hgg,hc,hm,hs,htake⟩
 ·cases e0
 ·cases e1
  have hlt:∀ j,j < k→i * k+j < l.length * k:=fun j hj=>by
   have:i * k+k≤l.length * k:=by rw [← Nat.succ_mul];exact Nat.mul_le_mul_right k hi
   omega
  refine ⟨rfl,fun j=>xs.getD (i * k+j) undef,fun j hj=>⟨?_,by simp [World.frozen?,hgg]⟩,fun j hj=>?_⟩
  ·have h1:i * k+j < xs.length:=by rw [hl];exact hlt j hj
   rw [cell_of_row W g (i * k+j) cur e (0,0) hgg]
   obtain ⟨u,hu⟩:∃ u,xs[i * k+j]?=some u:=⟨xs[i * k+j],List.getElem?_eq_getElem h1⟩
   show _=some (xs.getD (i * k+j) undef)
   rw [List.getD_eq_getElem?_getD,hu,Option.getD_some]
   rw [← htake,List.getElem?_take] at hu
   split at hu
   ·rw [Array.getElem?_toList] at hu
    simpa using hu
   ·cases hu
  ·have h1:i * k+j < xs.length:=by rw [hl];exact hlt j hj
   have h2:xs[i * k+j]?=some xs[i * k+j]:=List.getElem?_eq_getElem h1
   show Rel W F _ (xs.getD (i * k+j) undef)
   rw [List.getD_eq_getElem?_getD (l:=xs),h2,Option.getD_some]
   exact hr i j _ hi hj h2
def CF (w:World) (F:Nat→Prop) (nv:Value) (b:Nat):Prop:=(b < w.heap.size→F b)∧nv.ownBlock≠some b∧b≠w.heap.size∧b≠w.heap.size+1
structure Cp (w:World) (F:Nat→Prop) (ns:List Nd) (nv tv:Value) (W:World):Prop where
 os:W.os=w.os
 tape:W.tape=w.tape
 output:W.output=w.output
 size:w.heap.size+2≤W.heap.size
 block:∀ b,b < w.heap.size→nv.ownBlock≠some b→W.heap[b]?=w.heap[b]?
 b1:W.heap[w.heap.size]?=some (.cells #[nv,tv] 50)
 b2:W.heap[w.heap.size+1]?=some (.cells #[.slice none 0 0, .slice none 0 0] 50)
 own:OwnOk W (CF w F nv) 61 9 (ns.map Nd.av) nv
theorem Cp.ext {w:World} {F:Nat→Prop} {ns:List Nd} {nv tv:Value} {W W':World} (h:Cp w F ns nv tv W) (hx:Ext W W'):Cp w F ns nv tv W':=by
 have hs:=h.size
 exact ⟨hx.os.trans h.os,hx.tape.trans h.tape,hx.output.trans h.output,Nat.le_trans hs hx.size,fun b hb ho=>(hx.block b (by omega)).trans (h.block b hb ho),(hx.block _ (by omega)).trans h.b1,(hx.block _ (by omega)).trans h.b2,
  h.own.mono (fun b hb hF=>⟨hF,hx.block b hb⟩) (fun b hb=>hx.block b (h.own.lt hb))⟩
theorem Cp.set0 {w:World} {F:Nat→Prop} {ns:List Nd} {g n cap:Nat} {tv:Value} {W:World} (h:Cp w F ns (.slice (some ⟨g,0,none⟩) n cap) tv W) (hg:g < w.heap.size) {i:Nat} (hi:i < ns.length) {v:Value} (h1:v.oneCell'=true) (hv:Rel W (CF w F (.slice (some ⟨g,0,none⟩) n cap)) ns[i].names v) :
  Cp w F ns (.slice (some ⟨g,0,none⟩) n cap) tv (W.setCell ⟨g,i * 9+3+1,none⟩ v):=by
 have hs:Cp w F ns (.slice (some ⟨g,0,none⟩) n cap) tv (W.setCell ⟨g,i * 9+4,none⟩ v):=by
  refine ⟨h.os,h.tape,h.output,by rw [set_size];exact h.size,fun b hb ho=>(set_other (fun e=>ho (by rw [e];rfl))).trans (h.block b hb ho),(set_other (show w.heap.size≠g by omega)).trans h.b1,(set_other (show w.heap.size+1≠g by omega)).trans h.b2,?_⟩
  have hl:i < (ns.map Nd.av).length:=by rw [List.length_map];exact hi
  exact own_set h.own hl (by decide) h1 (by rw [nd_get hi,nc4];exact hv) (fun hF=>hF.2.1 rfl)
 exact hs
theorem Cp.set {w:World} {F:Nat→Prop} {ns:List Nd} {g n cap:Nat} {tv:Value} {W:World} (h:Cp w F ns (.slice (some ⟨g,0,none⟩) n cap) tv W) (hg:g < w.heap.size) {i:Nat} (hi:i < ns.length) {v:Value} (h1:v.oneCell'=true) (hv:Rel W (CF w F (.slice (some ⟨g,0,none⟩) n cap)) ns[i].names v) :
  Cp w F ns (.slice (some ⟨g,0,none⟩) n cap) tv (W.setCell ⟨g,i * 9+3+1,none⟩ v).drew:=(h.set0 hg hi h1 hv).ext (Ext.drew _ _)
structure Cp0 (w:World) (F:Nat→Prop) (ns:List Nd) (nv:Value) (W:World):Prop where
 os:W.os=w.os
 tape:W.tape=w.tape
 output:W.output=w.output
 size:w.heap.size≤W.heap.size
 block:∀ b,b < w.heap.size→nv.ownBlock≠some b→W.heap[b]?=w.heap[b]?
 own:OwnOk W (CF w F nv) 61 9 (ns.map Nd.av) nv
theorem Cp.fin {w:World} {F:Nat→Prop} {ns:List Nd} {nv tv:Value} {W:World} (h:Cp w F ns nv tv W) (hg:∀ g,nv.ownBlock=some g→g < w.heap.size) (x y:Value):Cp0 w F ns nv ((W.setCell ⟨w.heap.size+1,0,none⟩ x).setCell ⟨w.heap.size+1,1,none⟩ y):=by
 have same:∀ b,b≠w.heap.size+1→((W.setCell ⟨w.heap.size+1,0,none⟩ x).setCell ⟨w.heap.size+1,1,none⟩ y).heap[b]?=W.heap[b]?:=fun b hb=>(set_other hb).trans (set_other hb)
 refine ⟨h.os,h.tape,h.output,by rw [set_size,set_size];have:=h.size;omega,fun b hb ho=>(same b (by omega)).trans (h.block b hb ho),h.own.mono (fun b _ hF=>⟨hF,same b hF.2.2.2⟩) (fun b hb=>same b (by have:=hg b hb;omega))⟩
theorem results89 (T:Array Value) (W:World) (N:Nat) (x y:Value) (t2:T[2]?.getD undef=.pointer (some ⟨N,0,none⟩)) (h0:W.heap[N]?=some (.cells #[x,y] 50)) :
  (results Tryd.f89 T).run Tryd.prog W=.ok (.agg #[x,y]) W:=by
 have hr:Tryd.f89.results = #[.cell 2 50]:=by kernel_rfl
 have l1:(loadVar 50 ⟨N,0,none⟩).run Tryd.prog W=.ok (.agg #[x,y]) W:=by
  simp [loadVar,go_sem,(cell2 h0).1,(cell2 h0).2.1,Result.andThen]
 unfold results
 rw [hr]
 simp [t2,Sem.run_bind,asAddr,l1,Result.andThen]
theorem names_rel {W w7:World} {F F':Nat→Prop} {l:List AV} {base:Nat} {v':Value} (hx:Ext W w7) (hF:∀ b,b < W.heap.size→F b→F' b) (hb:∀ b,base≤b→F' b) {xs:List Value} (hl:xs.length=l.length) (h1:∀ v ∈ xs,v.oneCell'=true)
  (hr:∀ i j v,i < l.length→j < 1→xs[i * 1+j]?=some v→Rel W F ((l.getD i .un).cell j) v) (hown:w7.ownsRow base 9 1 v' l.length xs):Rel w7 F' (.ro 1 l) v':=by
 have ho:OwnOk w7 F' 9 1 l v':=⟨by decide,xs,row_base hown (Nat.zero_le _),h1,fun i j v hi hj hv=>(hr i j v hi hj hv).mono fun b hb' hf=>⟨hF b hb' hf,hx.block b hb'⟩⟩
 exact ho.rel (fun _ _ h=>h) (fun g hg=>hb g (hown.lt g hg).1)
set_option maxRecDepth 100000 in
set_option maxHeartbeats 4000000 in
theorem copied_in {w:World} {F:Nat→Prop} {ns:List Nd} {nv tv:Value} (hN:∀ n ∈ ns,NmOk2 n.names) (hl:ns.length≤100000) (hn:OwnOk w F 61 9 (ns.map Nd.av) nv) (hnF:∀ g,nv.ownBlock=some g→¬ F g∧g < w.heap.size) (htv:∃ (a:Option Addr) (m c:Nat),tv=.slice a m c) :
  CallsIn Fence.wide 8 Tryd.prog 89 #[.agg #[nv,tv]] w fun e w'=>e=.returned (.agg #[nv,tv])∧Cp0 w F ns nv w':=by
 obtain ⟨ta,tm,tc,rfl⟩:=htv
 have hown0:∀ g,nv.ownBlock=some g→g < w.heap.size:=fun g hg=>(hnF g hg).2
 have hlen:(ns.map Nd.av).length=ns.length:=List.length_map ..
 obtain ⟨ad,c,rfl⟩:∃ (ad:Option Addr) (c:Nat),nv=.slice ad ns.length c:=by
  obtain ⟨_,xs,⟨_,h2⟩,_⟩:=hn
  rw [hlen] at h2
  rcases h2 with ⟨rfl,h0⟩ | ⟨g,cap,cur,rfl,_⟩
  ·exact ⟨none,0,by rw [h0]⟩
  ·exact ⟨_,_,rfl⟩
 have h0:Cp w F ns (.slice ad ns.length c) (.slice ta tm tc) ((w.alloc (.cells #[.slice ad ns.length c, .slice ta tm tc] 50)).alloc (.cells #[.slice none 0 0, .slice none 0 0] 50)):=by
  have hx:Ext w ((w.alloc (.cells #[.slice ad ns.length c, .slice ta tm tc] 50)).alloc (.cells #[.slice none 0 0, .slice none 0 0] 50)):=(Ext.push w _).trans (Ext.push _ _)
  refine ⟨rfl,rfl,rfl,by simp,fun b hb _=>hx.block b hb,(al_old' (by simp)).trans (World.alloc_heap_new w _),al_new' (by simp),hn.mono (fun b hb hF=>⟨⟨fun _=>hF,fun e=>(hnF b e).1 hF,by omega,by omega⟩,hx.block b hb⟩) (fun b hb=>hx.block b (hn.lt hb))⟩
 refine callsIn_of_wp Tryd.func89 rfl trivial ?_ rfl
 simp only [Tryd.ntmps89,List.size_toArray,List.length_cons,List.length_nil,Nat.reduceAdd,Nat.reduceSub,Array.replicate_succ,Array.replicate_zero,List.push_toArray,List.append_toArray,List.nil_append,List.cons_append]
 gi_wp2
 gi_loopw [8] (fun vi wr=>∃ i:Nat,vi=.int .i64 (i:Int)∧i≤ns.length∧Cp w F ns (.slice ad ns.length c) (.slice ta tm tc) wr) (fun vi wr=>ns.length - (match vi with | .int _ a=>a.toNat | _=>0))
 case atStart=>exact ⟨0,rfl,Nat.zero_le _,h0⟩
 case round =>
  obtain ⟨i,rfl,hi,hcp⟩:=hrel
  obtain ⟨v1,v2,v3,v4⟩:=cell2 hcp.b1
  obtain ⟨v5,v6,v7,v8⟩:=cell2 hcp.b2
  by_cases hlt:i < ns.length
  ·have hg:∃ g,ad=some ⟨g,0,none⟩:=by
    obtain ⟨_,xs,⟨_,h2⟩,_⟩:=hcp.own
    rcases h2 with ⟨e,h0⟩ | ⟨g,cap,cur,e,_⟩
    ·rw [hlen] at h0;omega
    ·simp only [Value.slice.injEq] at e;exact ⟨g,e.1⟩
   obtain ⟨g,rfl⟩:=hg
   have hg0:g < w.heap.size:=hown0 g rfl
   obtain ⟨-,x,hx1,hx2⟩:=own_cells hcp.own (i:=i) (by rw [hlen];exact hlt)
   rw [nd_get hlt] at hx2
   obtain ⟨q,a4,a5,a6,m4,m5,m6,c4,c5,c6,g0,g1,g2,g3,g4,g5,g6,g7,g8⟩:=nd_vals hx2 (by cases ns[i].body <;> simp) (hN ns[i] (List.getElem_mem hlt))
   obtain ⟨y0,z0⟩:=hx1 0 (by decide)
   obtain ⟨y1,z1⟩:=hx1 1 (by decide)
   obtain ⟨y2,z2⟩:=hx1 2 (by decide)
   obtain ⟨y3,z3⟩:=hx1 3 (by decide)
   obtain ⟨y4,z4⟩:=hx1 4 (by decide)
   obtain ⟨y5,z5⟩:=hx1 5 (by decide)
   obtain ⟨y6,z6⟩:=hx1 6 (by decide)
   obtain ⟨y7,z7⟩:=hx1 7 (by decide)
   obtain ⟨y8,z8⟩:=hx1 8 (by decide)
   rw [g0] at y0;rw [g1] at y1;rw [g2] at y2;rw [g3] at y3;rw [g4] at y4;rw [g5] at y5;rw [g6] at y6;rw [g7] at y7;rw [g8] at y8
   rw [Nat.add_zero] at y0 z0
   have hr4:=hx2 4 (by decide)
   rw [nc4] at hr4
   have hNi:=hN ns[i] (List.getElem_mem hlt)
   clear hx1 hx2 h0 hn hnF hN hown0 g0 g1 g2 g3 g5 g6 g7 g8
   gi_wp2
   rw [wpIn_wide]
   have hb4:(wr.alloc (.cells #[.int .u8 (ns[i].kind.toNat:Int), .int .i64 (ns[i].at':Int), .string q, .bool ns[i].root, .slice a4 m4 c4, .slice a5 m5 c5, .slice a6 m6 c6, .bool ns[i].has, .int .u8 (ns[i].hole.toNat:Int)] 61)).heap[wr.heap.size]?=some (.cells #[.int .u8 (ns[i].kind.toNat:Int), .int .i64 (ns[i].at':Int), .string q, .bool ns[i].root, .slice a4 m4 c4, .slice a5 m5 c5, .slice a6 m6 c6, .bool ns[i].has, .int .u8 (ns[i].hole.toNat:Int)] 61):=World.alloc_heap_new wr _
   have hx5:Ext wr (wr.alloc (.cells #[.int .u8 (ns[i].kind.toNat:Int), .int .i64 (ns[i].at':Int), .string q, .bool ns[i].root, .slice a4 m4 c4, .slice a5 m5 c5, .slice a6 m6 c6, .bool ns[i].has, .int .u8 (ns[i].hole.toNat:Int)] 61)):=Ext.push wr _
   generalize wr.alloc (.cells #[.int .u8 (ns[i].kind.toNat:Int), .int .i64 (ns[i].at':Int), .string q, .bool ns[i].root, .slice a4 m4 c4, .slice a5 m5 c5, .slice a6 m6 c6, .bool ns[i].has, .int .u8 (ns[i].hole.toNat:Int)] 61)=W5 at hb4 hx5 ⊢
   have hcp5:=hcp.ext hx5
   have p1:=ext_cell hx5 v1
   have p4:W5.cell? ⟨wr.heap.size,4,none⟩=some (.slice a4 m4 c4):=by simp [World.cell?,hb4]
   have p5:=ext_cell hx5 y4
   have p6:W5.frozen? ⟨g,i * 9+4,none⟩=false:=by
    rw [← z4]
    exact World.frozen?_of_block (hx5.block g (cell_lt y4))
   clear v1 v2 v3 v4 v5 v6 v7 v8 y0 y1 y2 y3 y4 y5 y6 y7 y8 z0 z1 z2 z3 z4 z5 z6 z7 z8
   have hr5:Rel W5 (CF w F (.slice (some ⟨g,0,none⟩) ns.length c)) ns[i].names (.slice a4 m4 c4):=by rw [← g4];exact hr4.mono fun b hb hF=>⟨hF,hx5.block b hb⟩
   clear g4 hr4
   rcases hNi with hnm | ⟨nm0,nms,hnm,hnl⟩
   ·
    rw [hnm] at hr5
    cases hr5
    have hcp6:=hcp5.set hg0 hlt (v:=.slice none 0 0) rfl (by rw [hnm];exact .nils)
    generalize hW6:(W5.setCell ⟨g,i * 9+3+1,none⟩ (.slice none 0 0)).drew=W6 at hcp6
    go_region_law (fail)
    all_goals (try rw [hW6])
    all_goals (clear hcp hcp5 hx5 hW6 hg0 p1 p4 p5 p6 hb4;gi_wp2)
    all_goals exact ⟨⟨i+1,congrArg (Value.int .i64) (by omega),hlt,hcp6⟩,by show _ - Int.toNat _ < _ - Int.toNat _;omega⟩
   ·
    obtain ⟨i9,hi9,hz0,hz1,hz2⟩:=info_parts info9
    rw [hnm] at hr5
    generalize hll:(nm0 :: nms).map AV.s=ll at hr5
    have hlll:ll.length=nms.length+1:=by rw [← hll];simp
    cases hr5 with
    | ro0=>simp at hlll
    | ro _ _ r off _ xs hk hc hFr hxl hx h1 hrr =>
     rw [hlll] at hxl
     have hxc:∀ j u,xs[j]?=some u→W5.cell? ((⟨r,off,none⟩:Addr).add j)=some u:=fun j u hu=>by
      have hadd:(⟨r,off,none⟩:Addr).add j=⟨r,off+j,none⟩:=by unfold Addr.add;split <;> simp_all
      rw [hadd];exact hx j u hu
     have hfr7:∀ b,b < W5.heap.size→CF w F (.slice (some ⟨g,0,none⟩) ns.length c) b→CF w F (.slice (some ⟨g,0,none⟩) ns.length c) b:=fun _ _ h=>h
     have hnew7:∀ b,W5.heap.size≤b→CF w F (.slice (some ⟨g,0,none⟩) ns.length c) b:=fun b hb=>by
      have:=hcp5.size
      refine ⟨fun h=>by omega,fun e=>?_,by omega,by omega⟩
      simp only [Value.ownBlock,Option.some.injEq] at e
      omega
     go_region_law (refine step_append_grows rfl (.const (.slice none 0 0)) (.tmp 18) 32 rfl 9 i9 (.string ⟨#[]⟩) 1 16 Tryd.underlying32 hi9 hz0 hz1 hz2 rfl (by decide) none 0 0 [] rfl (fun _=>⟨rfl,rfl⟩) rfl (fun b h=>by cases h) ⟨r,off,none⟩ (nms.length+1) c4 xs rfl hxl hxc h1 (by omega) (by have:Go.maxLen=9223372036854775807:=rfl;omega) (by omega) ?_;intro v' w7 hown7 hgrow7;obtain ⟨ad7,m7,c7,rfl⟩:=row_shape hown7;have hx7:Ext W5 w7:=⟨hgrow7.os,hgrow7.tape,hgrow7.output,hgrow7.size,fun b hb=>hgrow7.block b hb (by simp)⟩;have p1:=ext_cell hx7 p1;have p5:=ext_cell hx7 p5;have p6:w7.frozen? ⟨g,i * 9+4,none⟩=false:=(World.frozen?_of_block (hx7.block g (hcp5.own.lt rfl))).trans p6;have hcp7:=(hcp5.ext hx7).set0 hg0 hlt (v:=.slice ad7 m7 c7) rfl (by rw [hnm,hll];exact names_rel hx7 hfr7 hnew7 (by rw [hxl,hlll];omega) h1 hrr (by rw [hlll];simpa using hown7)))
     all_goals (try generalize w7.setCell ⟨g,i * 9+3+1,none⟩ (.slice ad7 m7 c7)=W6 at hcp7 ⊢)
     all_goals (clear hcp hcp5 hx5 hg0 p1 p4 p5 p6 hb4 hx7 hgrow7 hown7 hxc hx hfr7 hnew7 hrr;gi_wp2)
     all_goals exact ⟨⟨i+1,congrArg (Value.int .i64) (by omega),hlt,hcp7⟩,by show _ - Int.toNat _ < _ - Int.toNat _;omega⟩
  ·have hfin:=hcp.fin hown0 (.slice ad ns.length c) (.slice ta tm tc)
   have hb2:=set_both (.slice ad ns.length c) (.slice ta tm tc) hcp.b2
   clear h0 hn hnF hN hown0
   gi_wp2
   refine bodyPost_ret (results89 _ _ (w.heap.size+1) (.slice ad ns.length c) (.slice ta tm tc) rfl hb2) rfl ?_
   exact ⟨rfl,hfin⟩
end R3

namespace R3
open Go Go.Proofs Go.RowKit Go.Shelf Sx
variable {mx:Int}
theorem wayN_ok2 (l:List UInt8):NmOk2 (wayN l):=by
 unfold wayN
 split
 ·exact Or.inl rfl
 ·split
  ·exact Or.inl rfl
  ·generalize (if dollar l then l.drop 2 else l)=q
   split
   ·rename_i h
    obtain ⟨x,t,e⟩:=splitL_cons q
    simp only [Bool.and_eq_true,decide_eq_true_eq] at h
    rw [e] at h ⊢
    exact Or.inr ⟨x,t,rfl,by have:=h.2;simp only [List.length_cons] at this;omega⟩
   ·exact Or.inl rfl
theorem actW_nm2 (l:List UInt8):NmOk2 (actW l).names:=by
 unfold actW actT
 repeat' split
 all_goals first
  | exact Or.inl rfl
  | exact wayN_ok2 _
theorem wordsF_nm2:∀ (n:Nat) (r:List UInt8) (a:Nat) (acc:List Wd),(∀ w ∈ acc,NmOk2 w.names)→∀ w ∈ (wordsF n r a acc).1,NmOk2 w.names
 | 0,r,a,acc,h=>h
 | n+1,r,a,acc,h=>by
  rw [wordsF]
  split
  ·exact h
  ·split
   ·refine wordsF_nm2 n _ _ _ fun w hw=>?_
    rcases List.mem_append.1 hw with hw | hw
    ·exact h w hw
    ·obtain rfl:=List.mem_singleton.1 hw;exact Or.inl rfl
   ·split
    ·exact h
    ·split
     ·refine wordsF_nm2 n _ _ _ fun w hw=>?_
      rcases List.mem_append.1 hw with hw | hw
      ·exact h w hw
      ·obtain rfl:=List.mem_singleton.1 hw;exact actW_nm2 _
     ·exact h
def NmAll (p:Ps):Prop:=∀ n ∈ p.nodes,NmOk2 n.names
theorem modNd_nm {l:List Nd} {i:Nat} {f:Nd→Nd} (hf:∀ x,(f x).names=x.names) (h:∀ n ∈ l,NmOk2 n.names):∀ n ∈ modNd l i f,NmOk2 n.names:=by
 intro n hn
 unfold modNd at hn
 obtain ⟨j,hj,rfl⟩:=List.mem_iff_getElem.1 hn
 rw [List.getElem_modify]
 split
 ·rw [hf];exact h _ (List.getElem_mem _)
 ·exact h _ (List.getElem_mem _)
theorem parse_nm {ws:List Wd} (hw:∀ w ∈ ws,NmOk2 w.names):∀ n,
  (∀ d p out r q,pList ws n d p out=some (r,q)→NmAll p→NmAll q)∧(∀ d w p r q,pNode ws n d w p=some (r,q)→NmOk2 w.names→NmAll p→NmAll q)∧(∀ d i w p r q,pBody ws n d i w p=some (r,q)→NmAll p→NmAll q)
 | 0=>⟨fun d p out r q h=>by simp [pList] at h,fun d w p r q h=>by simp [pNode] at h,fun d i w p r q h=>by simp [pBody] at h⟩
 | n+1=>by
  obtain ⟨hL,hN,hB⟩:=parse_nm hw n
  refine ⟨fun d p out r q h hp=>?_,fun d w p r q h hwn hp=>?_,fun d i w p r q h hp=>?_⟩
  ·unfold pList at h
   split at h
   ·cases h;exact hp
   ·rename_i w hws
    split at h
    ·cases h;exact hp
    ·split at h
     ·cases h
     ·rename_i e;cases h;exact hN _ _ _ _ _ e (hw w (List.mem_of_getElem? hws)) hp
     ·rename_i i q1 e
      exact hL _ _ _ _ _ h (hN _ _ _ _ _ e (hw w (List.mem_of_getElem? hws)) hp)
  ·unfold pNode at h
   simp only at h
   have h0:NmAll { p with nodes:=p.nodes ++ [newNd w] }:=fun x hx=>by
    rcases List.mem_append.1 hx with hx | hx
    ·exact hp x hx
    ·obtain rfl:=List.mem_singleton.1 hx;exact hwn
   split at h
   ·split at h
    ·cases h;exact h0
    ·split at h
     ·cases h
     ·rename_i e;cases h;exact hB _ _ _ _ _ _ e h0
     ·rename_i e;cases h;exact modNd_nm (fun _=>rfl) (hB _ _ _ _ _ _ e h0)
   ·cases h;exact modNd_nm (fun _=>rfl) h0
  ·unfold pBody at h
   split at h
   ·cases h
   ·rename_i e;cases h;exact hL _ _ _ _ _ e hp
   ·rename_i body q1 e
    have h1:=hL _ _ _ _ _ e hp
    have h2:NmAll { q1 with nodes:=modNd q1.nodes i fun x=>{ x with body:=some body } }:=modNd_nm (fun _=>rfl) h1
    simp only at h
    split at h
    ·cases h;exact h2
    ·split at h
     ·split at h
      ·cases h;exact h2
      ·split at h
       ·cases h
       ·rename_i e2;cases h;exact hL _ _ _ _ _ e2 h2
       ·rename_i els r1 e2
        have h3:=hL _ _ _ _ _ e2 h2
        have h4:NmAll { r1 with nodes:=modNd r1.nodes i fun x=>{ x with els:=some els,has:=true } }:=modNd_nm (fun _=>rfl) h3
        split at h
        ·cases h;exact h4
        ·split at h <;> (cases h;exact h4)
     ·cases h;exact h2
inductive Tr where
 | ok (nodes:List Nd) (top:List Nat)
 | bad (at' e:Nat)
def treeR (ws:List Wd):Pr (List Nat)×Ps→Tr
 | (.bad a e,_)=>.bad a e
 | (.ok top,q)=>match ws[q.at']? with
  | some v=>.bad v.at' 4
  | none=>.ok q.nodes top
theorem ptr_rel {w:World} {F:Nat→Prop} {a e:Int} {v:Value} (h:Rel w F (.pt [.int a, .int e]) v):∃ r:Nat,v=.pointer (some ⟨r,0,none⟩)∧F r∧w.cell? ⟨r,0,none⟩=some (.int .i64 a)∧w.cell? ⟨r,1,none⟩=some (.int .i64 e):=by
 cases h with
 | pt _ r xs h0 hF hl hx h1 hr =>
  match xs,hl,hx,hr with
  | [x,y],_,hx,hr =>
   have r0:=hr 0 x rfl
   have r1:=hr 1 y rfl
   simp only [List.getD_cons_zero,List.getD_cons_succ] at r0 r1
   cases r0;cases r1
   exact ⟨r,rfl,hF,hx 0 _ rfl,hx 1 _ rfl⟩
theorem pair_rel {w:World} {F:Nat→Prop} {a b:AV} {v:Value} (h:Rel w F (.tu [a,b]) v):∃ x y,v=.tuple #[x,y]∧Rel w F a x∧Rel w F b y:=by
 cases h with
 | tu _ vs hl hj =>
  match vs,hl,hj with
  | [v0,v1],_,hj =>
   have h0:=hj 0 v0 rfl
   have h1:=hj 1 v1 rfl
   simp only [List.getD_cons_zero,List.getD_cons_succ] at h0 h1
   exact ⟨v0,v1,rfl,h0,h1⟩
end R3

namespace R3
open Go Go.Proofs Go.RowKit Go.Shelf Sx
variable {mx:Int}
theorem cell4 {W:World} {b:Nat} {x0 x1 x2 x3:Value} {t:TypeId} (h:W.heap[b]?=some (.cells #[x0,x1,x2,x3] t)):(W.cell? ⟨b,0,none⟩=some x0∧W.cell? ⟨b,1,none⟩=some x1∧W.cell? ⟨b,2,none⟩=some x2∧W.cell? ⟨b,3,none⟩=some x3) ∧
  W.frozen? ⟨b,0,none⟩=false∧W.frozen? ⟨b,1,none⟩=false∧W.frozen? ⟨b,2,none⟩=false∧W.frozen? ⟨b,3,none⟩=false:=by
 simp [World.cell?,World.frozen?,h]
theorem results62 (T:Array Value) (W:World) (N:Nat) (x y a b:Value) (t2:T[2]?.getD undef=.pointer (some ⟨N,0,none⟩)) (t3:T[3]?.getD undef=a) (t4:T[4]?.getD undef=b) (h0:W.heap[N]?=some (.cells #[x,y] 50)) :
  (results Tryd.f62 T).run Tryd.prog W=.ok (.tuple #[.agg #[x,y],a,b]) W:=by
 have hr:Tryd.f62.results = #[.cell 2 50, .tmp 3, .tmp 4]:=by kernel_rfl
 have l1:(loadVar 50 ⟨N,0,none⟩).run Tryd.prog W=.ok (.agg #[x,y]) W:=by
  simp [loadVar,go_sem,(cell2 h0).1,(cell2 h0).2.1,Result.andThen]
 unfold results
 rw [hr]
 simp [t2,t3,t4,Sem.run_bind,asAddr,l1,Result.andThen]
def TF (w:World) (F:Nat→Prop) (b:Nat):Prop:=b < w.heap.size+2→F b∧b < w.heap.size
structure TreeMem (w:World) (F:Nat→Prop) (ws:List Wd) (q:Ps) (wv x0 x2:Value) (w2:World):Prop where
 ext:Ext w w2
 a:w2.heap[w.heap.size]?=some (.cells #[.slice none 0 0, .slice none 0 0] 50)
 p:∃ e',w2.heap[w.heap.size+1]?=some (.cells #[x0, .int .i64 (q.at':Int),x2, .slice none 0 0] e' (0,0))
 size:w.heap.size+2≤w2.heap.size
 sx0:∃ (ad:Option Addr) (c:Nat),x0=.slice ad ws.length c
 sx2:∃ (ad:Option Addr) (n c:Nat),x2=.slice ad n c
 own:OwnOk w2 (readF w2 (TF w F) (w.heap.size+1) x2 x2) 61 9 (q.nodes.map Nd.av) x2
 fresh:∀ g,x2.ownBlock=some g→w.heap.size+2≤g∧g < w2.heap.size
theorem tree_list {w:World} {F:Nat→Prop} {ws:List Wd} {wv:Value} (hG:GlobOk (C mx) w F) (hw:Rel w F (.ro 5 (ws.map Wd.av)) wv) (h1:wv.oneCell'=true) (hws:ws.length≤100000) {n:Nat} {r:Pr (List Nat)} {q:Ps} (hp:pList ws n 0 ⟨0,[]⟩ []=some (r,q)) :
  Calls Tryd.prog 88 #[.pointer (some ⟨w.heap.size+1,0,none⟩), .int .i64 0] ((w.alloc (.cells #[.slice none 0 0, .slice none 0 0] 50)).alloc (.cells #[wv, .int .i64 0, .slice none 0 0, .slice none 0 0] 146)) fun e w2 =>
   ∃ v x0 x2,e=.returned v∧TreeMem w F ws q wv x0 x2 w2∧Rel w2 (readF w2 (TF w F) (w.heap.size+1) x2 x2) (listAV r) v:=by
 have hx:Ext w ((w.alloc (.cells #[.slice none 0 0, .slice none 0 0] 50)).alloc (.cells #[wv, .int .i64 0, .slice none 0 0, .slice none 0 0] 146)):=(Ext.push w _).trans (Ext.push _ _)
 have hP:((w.alloc (.cells #[.slice none 0 0, .slice none 0 0] 50)).alloc (.cells #[wv, .int .i64 0, .slice none 0 0, .slice none 0 0] 146)).heap[w.heap.size+1]?=some (.cells #[wv, .int .i64 0, .slice none 0 0, .slice none 0 0] 146):=al_new' (by simp)
 have hA:((w.alloc (.cells #[.slice none 0 0, .slice none 0 0] 50)).alloc (.cells #[wv, .int .i64 0, .slice none 0 0, .slice none 0 0] 146)).heap[w.heap.size]?=some (.cells #[.slice none 0 0, .slice none 0 0] 50):=(al_old' (by simp)).trans (World.alloc_heap_new w _)
 have hsz:((w.alloc (.cells #[.slice none 0 0, .slice none 0 0] 50)).alloc (.cells #[wv, .int .i64 0, .slice none 0 0, .slice none 0 0] 146)).heap.size=w.heap.size+2:=by simp
 generalize (w.alloc (.cells #[.slice none 0 0, .slice none 0 0] 50)).alloc (.cells #[wv, .int .i64 0, .slice none 0 0, .slice none 0 0] 146)=W1 at *
 obtain ⟨hL,_,_⟩:=parse_all (mx:=mx) hws n
 obtain ⟨hc,hok,_⟩:=s88_of (mx:=mx) hL hp (by omega) (Nat.zero_le _) (Nat.zero_le _)
 have hG1:GlobOk (C mx) W1 (fun b=>F b∧b < w.heap.size):=fun g k e hg=>by
  obtain ⟨b',o,q1,q2,q3,q4⟩:=hG g k e hg
  refine ⟨b',o,q1,⟨q2,q3⟩,Nat.lt_of_lt_of_le q3 hx.size,fun j hj=>?_⟩
  obtain ⟨v,p1,p2,p3⟩:=q4 j hj
  exact ⟨v,(World.cell?_of_block (hx.block _ q3)).trans p1,p2,p3.mono fun b hb hF=>⟨⟨hF,hb⟩,hx.block b hb⟩⟩
 have key:=list_calls (mx:=mx) (w:=W1) (F:=fun b=>F b∧b < w.heap.size) hG1 (Pb:=w.heap.size+1) (e:=146) (wv:=wv) (tv:=.slice none 0 0) (nv:=.slice none 0 0) (at':=0) (d:=0) (words:=.ro 5 (ws.map Wd.av)) (top:=.nils) (nodes:=[]) hP (by omega)
  (fun g hg=>by simp [Value.ownBlock] at hg) h1 (hw.mono fun b hb hF=>⟨⟨hF,hb⟩,hx.block b hb⟩) rfl .nils ⟨by decide,[],World.ownsRow_nil _ _ _ _,by simp,fun i j v hi=>by simp at hi⟩ hc
 refine Calls.mono key fun e w2 h=>?_
 obtain ⟨v,x0,x1,x2,x3,e',rfl,hb2,hP2,hrv,hr0,hr1,hown2,⟨h31,hr3⟩,hog⟩:=h
 have e1:x1=.int .i64 (q.at':Int):=by cases hr1;rfl
 have e3:x3=.slice none 0 0:=by cases hr3;rfl
 subst e1 e3
 obtain ⟨ad0,c0,e0,_⟩:=rel_ro_shape hr0
 rw [List.length_map] at e0
 have hF:∀ b,readF W1 (fun b=>F b∧b < w.heap.size) (w.heap.size+1) (.slice none 0 0) x2 b→readF w2 (TF w F) (w.heap.size+1) x2 x2 b:=fun b hb =>
  ⟨fun _=>.inl fun hlt=>((hb.1 (by omega)).elim (fun h=>h) fun h=>by simp [Value.ownBlock] at h),hb.2.1,hb.2.2⟩
 have hs2:w.heap.size+2≤w2.heap.size:=by have:=hb2.size;omega
 refine ⟨v,x0,x2,rfl,⟨?_,(hb2.block _ (by omega) (by omega) (by simp [Value.ownBlock])).trans hA,⟨e',hP2⟩,hs2,⟨ad0,c0,e0⟩,?_,hown2.mono (fun b _ h=>⟨hF b h,rfl⟩) (fun _ _=>rfl),fun g hg=>?_⟩,hrv.mono fun b _ h=>⟨hF b h,rfl⟩⟩
 ·exact ⟨hb2.os.trans hx.os,hb2.tape.trans hx.tape,hb2.output.trans hx.output,by omega,fun b hb=>(hb2.block b (by omega) (by omega) (by simp [Value.ownBlock])).trans (hx.block b hb)⟩
 ·obtain ⟨_,xs,hrow,_⟩:=hown2
  exact row_shape hrow
 ·obtain ⟨q1,_,q3⟩:=hog g hg
  rcases q1 with q1 | q1
  ·exact ⟨by omega,q3⟩
  ·simp [Value.ownBlock] at q1
end R3

namespace R3
open Go Go.Proofs Go.RowKit Go.Shelf Sx
variable {mx:Int}
theorem numsAV_len (l:List Nat):(numsAV l).length=l.length:=List.length_map ..
def TreePost (w:World) (F:Nat→Prop) (tr:Tr) (e:Ending) (w':World):Prop:=Ext w w'∧match tr with
 | .bad a er=>e=.returned (.tuple #[.agg #[.slice none 0 0, .slice none 0 0], .int .i64 (a:Int), .int .i64 (er:Int)])
 | .ok nodes top=>∃ (ad2:Option Addr) (n2 c2:Nat) (ad3:Option Addr) (c3:Nat),e=.returned (.tuple #[.agg #[.slice ad2 n2 c2, .slice ad3 top.length c3], .int .i64 0, .int .i64 0]) ∧
   OwnOk w' (fun b=>(b < w.heap.size→F b)∧(Value.slice ad2 n2 c2).ownBlock≠some b) 61 9 (nodes.map Nd.av) (.slice ad2 n2 c2)∧(∀ g,(Value.slice ad2 n2 c2).ownBlock=some g→w.heap.size≤g∧g < w'.heap.size) ∧
   Rel w' (fun b=>(b < w.heap.size→F b)∧(Value.slice ad2 n2 c2).ownBlock≠some b) (.ro 1 (numsAV top)) (.slice ad3 top.length c3)
theorem TreeMem.own3 {w:World} {F:Nat→Prop} {ws:List Wd} {q:Ps} {wv x0 x2:Value} {w2:World} (h:TreeMem w F ws q wv x0 x2 w2) (v:Value):OwnOk (w2.setCell ⟨w.heap.size+1,3,none⟩ v) (readF w2 (TF w F) (w.heap.size+1) x2 x2) 61 9 (q.nodes.map Nd.av) x2 :=
 h.own.mono (fun b _ hF=>⟨hF,set_other hF.2.1⟩) (fun b hb=>set_other (by have:=(h.fresh b hb).1;omega))
theorem TreeMem.nF {w:World} {F:Nat→Prop} {ws:List Wd} {q:Ps} {wv x0 x2:Value} {w2:World} (h:TreeMem w F ws q wv x0 x2 w2) (v:Value):∀ g,x2.ownBlock=some g→¬ readF w2 (TF w F) (w.heap.size+1) x2 x2 g∧g < (w2.setCell ⟨w.heap.size+1,3,none⟩ v).heap.size :=
 fun g hg=>⟨fun hF=>hF.2.2 hg,by rw [set_size];exact (h.fresh g hg).2⟩
theorem tree_fin {w:World} {F:Nat→Prop} {ws:List Wd} {q:Ps} {wv x0:Value} {w2 w4:World} {ad2 ad3:Option Addr} {n2 c2 c3:Nat} {top:List Nat} {v:Value} (h:TreeMem w F ws q wv x0 (.slice ad2 n2 c2) w2) (hsv:Rel w2 (readF w2 (TF w F) (w.heap.size+1) (.slice ad2 n2 c2) (.slice ad2 n2 c2)) (.ro 1 (numsAV top)) (.slice ad3 top.length c3))
  (hcp:Cp0 (w2.setCell ⟨w.heap.size+1,3,none⟩ v) (readF w2 (TF w F) (w.heap.size+1) (.slice ad2 n2 c2) (.slice ad2 n2 c2)) q.nodes (.slice ad2 n2 c2) w4) :
  w4.heap[w.heap.size]?=some (.cells #[.slice none 0 0, .slice none 0 0] 50)∧∀ x y,TreePost w F (.ok q.nodes top) (.returned (.tuple #[.agg #[.slice ad2 n2 c2, .slice ad3 top.length c3], .int .i64 0, .int .i64 0])) ((w4.setCell ⟨w.heap.size,0,none⟩ x).setCell ⟨w.heap.size,1,none⟩ y):=by
 have hs3:(w2.setCell ⟨w.heap.size+1,3,none⟩ v).heap.size=w2.heap.size:=set_size _ _ _
 have hs:=h.size
 have hbl:=hcp.block
 have hcs:=hcp.size
 rw [hs3] at hbl hcs
 have hown:∀ b,b < w.heap.size+2→(Value.slice ad2 n2 c2).ownBlock≠some b:=fun b hb e=>by have:=(h.fresh b e).1;omega
 have old:∀ b,b < w2.heap.size→b≠w.heap.size+1→(Value.slice ad2 n2 c2).ownBlock≠some b→w4.heap[b]?=w2.heap[b]?:=fun b hb hne ho=>(hbl b hb ho).trans (set_other hne)
 refine ⟨(old _ (by omega) (by omega) (hown _ (by omega))).trans h.a,fun x y=>?_⟩
 have same:∀ b,b≠w.heap.size→((w4.setCell ⟨w.heap.size,0,none⟩ x).setCell ⟨w.heap.size,1,none⟩ y).heap[b]?=w4.heap[b]?:=fun b hb=>(set_other hb).trans (set_other hb)
 have hsz:((w4.setCell ⟨w.heap.size,0,none⟩ x).setCell ⟨w.heap.size,1,none⟩ y).heap.size=w4.heap.size:=by rw [set_size,set_size]
 have fF:∀ b,CF (w2.setCell ⟨w.heap.size+1,3,none⟩ v) (readF w2 (TF w F) (w.heap.size+1) (.slice ad2 n2 c2) (.slice ad2 n2 c2)) (.slice ad2 n2 c2) b→((b < w.heap.size→F b)∧(Value.slice ad2 n2 c2).ownBlock≠some b):=fun b hb=>by
  refine ⟨fun hlt=>?_,hb.2.1⟩
  have h1:=hb.1 (by rw [hs3];omega)
  exact (h1.1 (by omega)).elim (fun h=>(h (by omega)).1) fun e=>absurd e hb.2.1
 have nA:∀ b,b < w2.heap.size→readF w2 (TF w F) (w.heap.size+1) (.slice ad2 n2 c2) (.slice ad2 n2 c2) b→b≠w.heap.size:=fun b hb hF e=>by
  rcases hF.1 hb with h | h
  ·have:=(h (by omega)).2;omega
  ·exact hF.2.2 h
 refine ⟨⟨hcp.os.trans h.ext.os,hcp.tape.trans h.ext.tape,hcp.output.trans h.ext.output,by rw [hsz];omega,fun b hb=>(same b (by omega)).trans ((old b (by omega) (by omega) (hown b (by omega))).trans (h.ext.block b hb))⟩,ad2,n2,c2,ad3,c3,rfl,?_,fun g hg=>?_,?_⟩
 ·refine hcp.own.mono (fun b hb hF=>⟨fF b hF,same b fun e=>nA b (by omega) (hF.1 (by rw [hs3];omega)) e⟩) (fun b hb=>same b (by have:=(h.fresh b hb).1;omega))
 ·have:=h.fresh g hg
  rw [hsz];omega
 ·refine hsv.mono fun b hb hF=>⟨⟨fun hlt=>(hF.1 hb).elim (fun h=>(h (by omega)).1) fun e=>absurd e hF.2.2,hF.2.2⟩,(same b (nA b hb hF)).trans (old b hb hF.2.1 hF.2.2)⟩
set_option maxRecDepth 100000 in
set_option maxHeartbeats 4000000 in
theorem tree_ok {w:World} {F:Nat→Prop} {ws:List Wd} {aw:Option Addr} {cw:Nat} (hG:GlobOk (C mx) w F) (hw:Rel w F (.ro 5 (ws.map Wd.av)) (.slice aw ws.length cw)) (hws:ws.length≤100000) (hnm:∀ x ∈ ws,NmOk2 x.names) {n:Nat} {top:List Nat} {q:Ps} (hp:pList ws n 0 ⟨0,[]⟩ []=some (.ok top,q)) (hq:ws[q.at']?=none) (hq2:q.nodes.length≤100000) :
  CallsIn Fence.wide 9 Tryd.prog 62 #[.slice aw ws.length cw] w (TreePost w F (.ok q.nodes top)):=by
 have hge:ws.length≤q.at':=List.getElem?_eq_none_iff.1 hq
 have hlist:=tree_list (mx:=mx) hG hw rfl hws hp
 have hqn:∀ x ∈ q.nodes,NmOk2 x.names:=(parse_nm hnm n).1 _ _ _ _ _ hp (fun x hx=>by simp at hx)
 clear hp hq hnm hG hw
 refine callsIn_of_wp Tryd.func62 rfl trivial ?_ rfl
 simp only [Tryd.ntmps62,List.size_toArray,List.length_cons,List.length_nil,Nat.reduceAdd,Nat.reduceSub,Array.replicate_succ,Array.replicate_zero,List.push_toArray,List.append_toArray,List.nil_append,List.cons_append]
 gi_wp2_with (first
  | (refine ⟨trivial,?_⟩;gi_at_call 88;refine (callsIn_wide.2 hlist).mono ?_;clear hlist;rintro e w2 ⟨v,x0,x2,rfl,htm,hrv⟩;obtain ⟨e',hP⟩:=htm.p;obtain ⟨ad0,c0,rfl⟩:=htm.sx0;obtain ⟨ad2,n2,c2,rfl⟩:=htm.sx2;obtain ⟨⟨p0,p1,p2,p3⟩,f0,f1,f2,f3⟩:=cell4 hP;obtain ⟨sv,pv,rfl,hsv,hpv⟩:=pair_rel (show Rel _ _ (.tu [.ro 1 (numsAV top), .nilp]) v from hrv);obtain ⟨ads,cs,rfl,_⟩:=rel_ro_shape hsv;cases hpv)
  | (refine ⟨trivial,?_⟩;gi_at_call 89;refine (copied_in hqn hq2 (htm.own3 _) (htm.nF _) ⟨_,_,_,rfl⟩).mono ?_;rintro e w4 ⟨rfl,hcp⟩;rw [numsAV_len] at hsv hcp;obtain ⟨hA4,hfin⟩:=tree_fin htm hsv hcp;obtain ⟨a0,a1,a2,a3⟩:=cell2 hA4))
 rw [numsAV_len]
 exact bodyPost_ret (results62 _ _ w.heap.size (.slice ad2 n2 c2) (.slice ads top.length cs) (.int .i64 0) (.int .i64 0) rfl rfl rfl (set_both _ _ hA4)) rfl (hfin _ _)
end R3

namespace R3
open Go Go.Proofs Go.RowKit Go.Shelf Sx
variable {mx:Int}
theorem ext_set2 {w W:World} (h:Ext w W) (x y:Value):Ext w ((W.setCell ⟨w.heap.size,0,none⟩ x).setCell ⟨w.heap.size,1,none⟩ y) :=
 ⟨h.os,h.tape,h.output,by rw [set_size,set_size];exact h.size,fun b hb=>(set_other (show b≠w.heap.size by omega)).trans ((set_other (show b≠w.heap.size by omega)).trans (h.block b hb))⟩
theorem ext_drew {w W:World} (h:Ext w W):Ext w W.drew:=h.trans (Ext.drew _ _)
set_option maxRecDepth 100000 in
set_option maxHeartbeats 4000000 in
theorem tree_bad1 {w:World} {F:Nat→Prop} {ws:List Wd} {aw:Option Addr} {cw:Nat} (hG:GlobOk (C mx) w F) (hw:Rel w F (.ro 5 (ws.map Wd.av)) (.slice aw ws.length cw)) (hws:ws.length≤100000) {n:Nat} {a er:Nat} {q:Ps} (hp:pList ws n 0 ⟨0,[]⟩ []=some (.bad a er,q)) :
  CallsIn Fence.wide 9 Tryd.prog 62 #[.slice aw ws.length cw] w (TreePost w F (.bad a er)):=by
 have hlist:=tree_list (mx:=mx) hG hw rfl hws hp
 clear hp hG hw
 refine callsIn_of_wp Tryd.func62 rfl trivial ?_ rfl
 simp only [Tryd.ntmps62,List.size_toArray,List.length_cons,List.length_nil,Nat.reduceAdd,Nat.reduceSub,Array.replicate_succ,Array.replicate_zero,List.push_toArray,List.append_toArray,List.nil_append,List.cons_append]
 gi_wp2_with (refine ⟨trivial,?_⟩;gi_at_call 88;refine (callsIn_wide.2 hlist).mono ?_;clear hlist;rintro e w2 ⟨v,x0,x2,rfl,htm,hrv⟩;obtain ⟨e',hP⟩:=htm.p;obtain ⟨ad0,c0,rfl⟩:=htm.sx0;obtain ⟨ad2,n2,c2,rfl⟩:=htm.sx2;obtain ⟨⟨p0,p1,p2,p3⟩,f0,f1,f2,f3⟩:=cell4 hP;obtain ⟨sv,pv,rfl,hsv,hpv⟩:=pair_rel (show Rel _ _ (.tu [.nils, .pt [.int (a:Int), .int (er:Int)]]) v from hrv);cases hsv;obtain ⟨rb,rfl,hFr,ha,he⟩:=ptr_rel hpv;obtain ⟨a0,a1,a2,a3⟩:=cell2 htm.a)
 have hrb:rb≠w.heap.size:=fun e=>by
  rcases hFr.1 (cell_lt ha) with h | h
  ·have:=(h (by omega)).2;omega
  ·exact hFr.2.2 h
 have hx2:=htm.ext
 have hA2:=htm.a
 clear hFr hpv hrv htm hP p0 p1 p2 p3 f0 f1 f2 f3
 rw [wpIn_wide]
 go_region_law (fail)
 all_goals gi_wp2
 all_goals first
  | exact bodyPost_ret (results62 _ _ w.heap.size (.slice none 0 0) (.slice none 0 0) (.int .i64 (a:Int)) (.int .i64 (er:Int)) rfl rfl rfl (set_both _ _ hA2)) rfl ⟨ext_set2 hx2 _ _,rfl⟩
  | exact bodyPost_ret (results62 _ _ w.heap.size (.slice none 0 0) (.slice none 0 0) (.int .i64 (a:Int)) (.int .i64 (er:Int)) rfl rfl rfl (set_both _ _ hA2)) rfl ⟨ext_drew (ext_set2 hx2 _ _),rfl⟩
end R3

namespace R3
open Go Go.Proofs Go.RowKit Go.Shelf Sx
variable {mx:Int}
theorem word_cell {w:World} {F:Nat→Prop} {ws:List Wd} {aw:Option Addr} {cw i:Nat} (hw:Rel w F (.ro 5 (ws.map Wd.av)) (.slice aw ws.length cw)) (hi:i < ws.length) :
  ∃ r off:Nat,aw=some ⟨r,off,none⟩∧w.cell? ⟨r,off+i * 5+1,none⟩=some (.int .i64 (ws[i].at':Int)):=by
 have key:∀ (l:List AV) (v:Value),Rel w F (.ro 5 l) v→∀ x,(l.getD i .un).cell 1=.int x→i < l.length→∃ r off c:Nat,v=.slice (some ⟨r,off,none⟩) l.length c∧w.cell? ⟨r,off+i * 5+1,none⟩=some (.int .i64 x):=by
  intro l v h x hx hi
  cases h with
  | ro0=>simp at hi
  | ro _ _ r off c xs hk hc hF hl hxx h1 hr =>
   have hj:i * 5+1 < xs.length:=by omega
   have h2:xs[i * 5+1]?=some xs[i * 5+1]:=List.getElem?_eq_getElem hj
   have h3:=hr i 1 _ hi (by decide) h2
   rw [hx] at h3
   have h4:=hxx _ _ h2
   generalize xs[i * 5+1]=y at h3 h4
   cases h3
   exact ⟨r,off,c,rfl,by rw [← h4,Nat.add_assoc]⟩
 obtain ⟨r,off,c,e,h⟩:=key _ _ hw (ws[i].at':Int) (by rw [List.getD_eq_getElem?_getD,List.getElem?_map,List.getElem?_eq_getElem hi];rfl) (by simpa using hi)
 rw [List.length_map] at e
 cases e
 exact ⟨r,off,rfl,h⟩
set_option maxRecDepth 100000 in
set_option maxHeartbeats 4000000 in
theorem tree_bad2 {w:World} {F:Nat→Prop} {ws:List Wd} {aw:Option Addr} {cw:Nat} (hG:GlobOk (C mx) w F) (hw:Rel w F (.ro 5 (ws.map Wd.av)) (.slice aw ws.length cw)) (hws:ws.length≤100000) {n:Nat} {top:List Nat} {q:Ps} (hp:pList ws n 0 ⟨0,[]⟩ []=some (.ok top,q)) (hq:q.at' < ws.length) :
  CallsIn Fence.wide 9 Tryd.prog 62 #[.slice aw ws.length cw] w (TreePost w F (.bad ws[q.at'].at' 4)):=by
 have hlist:=tree_list (mx:=mx) hG hw rfl hws hp
 obtain ⟨r,off,rfl,hc⟩:=word_cell hw hq
 generalize ws[q.at'].at'=a at hc ⊢
 have hrw:=cell_lt hc
 clear hp hG hw
 refine callsIn_of_wp Tryd.func62 rfl trivial ?_ rfl
 simp only [Tryd.ntmps62,List.size_toArray,List.length_cons,List.length_nil,Nat.reduceAdd,Nat.reduceSub,Array.replicate_succ,Array.replicate_zero,List.push_toArray,List.append_toArray,List.nil_append,List.cons_append]
 gi_wp2_with (refine ⟨trivial,?_⟩;gi_at_call 88;refine (callsIn_wide.2 hlist).mono ?_;clear hlist;rintro e w2 ⟨v,x0,x2,rfl,htm,hrv⟩;obtain ⟨e',hP⟩:=htm.p;obtain ⟨ad0,c0,rfl⟩:=htm.sx0;obtain ⟨ad2,n2,c2,rfl⟩:=htm.sx2;obtain ⟨⟨p0,p1,p2,p3⟩,f0,f1,f2,f3⟩:=cell4 hP;obtain ⟨sv,pv,rfl,hsv,hpv⟩:=pair_rel (show Rel _ _ (.tu [.ro 1 (numsAV top), .nilp]) v from hrv);obtain ⟨ads,cs,rfl,_⟩:=rel_ro_shape hsv;cases hpv;obtain ⟨a0,a1,a2,a3⟩:=cell2 htm.a;have hc2:=ext_cell htm.ext hc)
 have hx5:Ext w2 (w2.alloc (.cells #[.int .i64 (a:Int), .int .i64 4] 151)):=Ext.push w2 _
 have hb5:(w2.alloc (.cells #[.int .i64 (a:Int), .int .i64 4] 151)).heap[w2.heap.size]?=some (.cells #[.int .i64 (a:Int), .int .i64 4] 151):=World.alloc_heap_new w2 _
 generalize w2.alloc (.cells #[.int .i64 (a:Int), .int .i64 4] 151)=W5 at hx5 hb5 ⊢
 have hs2:=htm.size
 have hA5:W5.heap[w.heap.size]?=some (.cells #[.slice none 0 0, .slice none 0 0] 50):=(hx5.block _ (by omega)).trans htm.a
 have hxx:=htm.ext.trans hx5
 obtain ⟨⟨ha,he⟩,-,-⟩:(W5.cell? ⟨w2.heap.size,0,none⟩=some (.int .i64 (a:Int))∧W5.cell? ⟨w2.heap.size,1,none⟩=some (.int .i64 4))∧True∧True:=by
  obtain ⟨b0,b1,_⟩:=cell2 hb5
  exact ⟨⟨b0,b1⟩,trivial,trivial⟩
 obtain ⟨a0',a1',a2',a3'⟩:=cell2 hA5
 have hrb:w2.heap.size≠w.heap.size:=by omega
 clear hP htm p0 p1 p2 p3 f0 f1 f2 f3 a0 a1 a2 a3 hsv hc hc2
 rw [wpIn_wide]
 go_region_law (fail)
 all_goals gi_wp2
 all_goals first
  | exact bodyPost_ret (results62 _ _ w.heap.size (.slice none 0 0) (.slice none 0 0) (.int .i64 (a:Int)) (.int .i64 4) rfl rfl rfl (set_both _ _ hA5)) rfl ⟨ext_set2 hxx _ _,rfl⟩
  | exact bodyPost_ret (results62 _ _ w.heap.size (.slice none 0 0) (.slice none 0 0) (.int .i64 (a:Int)) (.int .i64 4) rfl rfl rfl (set_both _ _ hA5)) rfl ⟨ext_drew (ext_set2 hxx _ _),rfl⟩
end R3

namespace R3
open Go Go.Proofs Sx
variable {mx:Int}
theorem modNd_len (l:List Nd) (i:Nat) (f:Nd→Nd):(modNd l i f).length=l.length:=by simp [modNd]
theorem parse_tot (ws:List Wd):∀ n,
  (∀ d p out,p.at'≤ws.length→3 * (ws.length - p.at')+1≤n→∃ r q,pList ws n d p out=some (r,q)∧p.at'≤q.at'∧q.at'≤ws.length∧q.nodes.length+p.at'≤p.nodes.length+q.at') ∧
  (∀ d w p,p.at'≤ws.length→3 * (ws.length - p.at')+3≤n→∃ r q,pNode ws n d w p=some (r,q)∧p.at'≤q.at'∧q.at'≤ws.length∧q.nodes.length+p.at'≤p.nodes.length+1+q.at') ∧
  (∀ d i w p,p.at'≤ws.length→3 * (ws.length - p.at')+2≤n→∃ r q,pBody ws n d i w p=some (r,q)∧p.at'≤q.at'∧q.at'≤ws.length∧q.nodes.length+p.at'≤p.nodes.length+q.at')
 | 0=>⟨fun d p out _ h=>by omega,fun d w p _ h=>by omega,fun d i w p _ h=>by omega⟩
 | n+1=>by
  obtain ⟨hL,hN,hB⟩:=parse_tot ws n
  refine ⟨fun d p out hp hn=>?_,fun d w p hp hn=>?_,fun d i w p hp hn=>?_⟩
  ·unfold pList
   split
   ·exact ⟨_,_,rfl,by omega,hp,by omega⟩
   ·rename_i w hw
    have hlt:p.at' < ws.length:=(List.getElem?_eq_some_iff.1 hw).1
    split
    ·exact ⟨_,_,rfl,by omega,hp,by omega⟩
    ·obtain ⟨r,q,e,h1,h2,h3⟩:=hN d w { p with at':=p.at'+1 } hlt (by show 3 * (ws.length - (p.at'+1))+3≤n;omega)
     rw [e]
     simp only at h1 h2 h3
     cases r with
     | bad a er=>exact ⟨_,_,rfl,by omega,h2,by omega⟩
     | ok i =>
      obtain ⟨r',q',e',g1,g2,g3⟩:=hL d q (out ++ [i]) h2 (by omega)
      exact ⟨r',q',e',by omega,g2,by omega⟩
  ·unfold pNode
   simp only
   split
   ·split
    ·exact ⟨_,_,rfl,Nat.le_refl _,hp,by simp only [List.length_append,List.length_singleton];omega⟩
    ·obtain ⟨r,q,e,h1,h2,h3⟩:=hB d p.nodes.length w { p with nodes:=p.nodes ++ [newNd w] } hp (by show 3 * (ws.length - p.at')+2≤n;omega)
     rw [e]
     simp only [List.length_append,List.length_singleton] at h1 h2 h3
     cases r with
     | bad a er=>exact ⟨_,_,rfl,by omega,h2,by omega⟩
     | ok i=>exact ⟨_,_,rfl,h1,h2,by simp only [modNd_len];omega⟩
   ·exact ⟨_,_,rfl,Nat.le_refl _,hp,by simp only [modNd_len,List.length_append,List.length_singleton];omega⟩
  ·unfold pBody
   obtain ⟨r,q,e,h1,h2,h3⟩:=hL (d+1) p [] hp (by omega)
   rw [e]
   cases r with
   | bad a er=>exact ⟨_,_,rfl,h1,h2,h3⟩
   | ok body =>
    simp only
    split
    ·exact ⟨_,_,rfl,h1,h2,by simp only [modNd_len];omega⟩
    ·rename_i v hv
     have hlt:q.at' < ws.length:=(List.getElem?_eq_some_iff.1 hv).1
     split
     ·split
      ·exact ⟨_,_,rfl,h1,h2,by simp only [modNd_len];omega⟩
      ·obtain ⟨r',q',e',g1,g2,g3⟩:=hL (d+1) { at':=q.at'+1,nodes:=modNd q.nodes i fun x=>{ x with body:=some body } } [] hlt (by show 3 * (ws.length - (q.at'+1))+1≤n;omega)
       rw [e']
       simp only [modNd_len] at g1 g2 g3
       cases r' with
       | bad a er=>exact ⟨_,_,rfl,by omega,g2,by omega⟩
       | ok els =>
        simp only
        split
        ·exact ⟨_,_,rfl,by show p.at'≤q'.at';omega,g2,by show (modNd _ _ _).length+p.at'≤p.nodes.length+q'.at';rw [modNd_len];omega⟩
        ·rename_i u hu
         have hlu:q'.at' < ws.length:=(List.getElem?_eq_some_iff.1 hu).1
         split
         ·exact ⟨_,_,rfl,by show p.at'≤q'.at';omega,g2,by show (modNd _ _ _).length+p.at'≤p.nodes.length+q'.at';rw [modNd_len];omega⟩
         ·exact ⟨_,_,rfl,Nat.le_trans h1 (Nat.le_succ_of_le (Nat.le_trans (Nat.le_succ _) g1)),hlu,by simp only [modNd_len];omega⟩
     ·exact ⟨_,_,rfl,Nat.le_succ_of_le h1,hlt,by simp only [modNd_len];omega⟩
def treeOf (ws:List Wd):Tr:=match pList ws (3 * ws.length+1) 0 ⟨0,[]⟩ [] with
 | some x=>treeR ws x
 | none=>.bad 0 0
set_option maxRecDepth 10000 in
theorem tree_in {w:World} {F:Nat→Prop} {ws:List Wd} {aw:Option Addr} {cw:Nat} (hG:GlobOk (C mx) w F) (hw:Rel w F (.ro 5 (ws.map Wd.av)) (.slice aw ws.length cw)) (hws:ws.length≤100000) (hnm:∀ x ∈ ws,NmOk2 x.names) :
  CallsIn Fence.wide 9 Tryd.prog 62 #[.slice aw ws.length cw] w (TreePost w F (treeOf ws)):=by
 obtain ⟨r,q,e,h1,h2,h3⟩:=(parse_tot ws (3 * ws.length+1)).1 0 ⟨0,[]⟩ [] (Nat.zero_le _) (by simp)
 unfold treeOf
 rw [e]
 simp only [List.length_nil,Nat.zero_add,Nat.add_zero] at h3
 cases r with
 | bad a er=>exact tree_bad1 hG hw hws e
 | ok top =>
  simp only [treeR]
  split
  ·rename_i v hv
   obtain ⟨hlt,rfl⟩:=List.getElem?_eq_some_iff.1 hv
   exact tree_bad2 hG hw hws e hlt
  ·rename_i hv
   exact tree_ok hG hw hws hnm e hv (by omega)
end R3

namespace R3
open Go Go.Proofs Go.RowKit Go.Shelf Sx
variable {mx:Int}
theorem relt3 {w:World} {F:Nat→Prop} {a:AV} {p q:Int} {v:Value} (h:Rel w F (.tu [a, .int p, .int q]) v):∃ x,v=.tuple #[x, .int .i64 p, .int .i64 q]∧Rel w F a x:=by
 cases h with
 | tu _ vs hl hj =>
  match vs,hl,hj with
  | [v0,v1,v2],_,hj =>
   have h0:=hj 0 v0 rfl
   have h1:=hj 1 v1 rfl
   have h2:=hj 2 v2 rfl
   simp only [List.getD_cons_zero,List.getD_cons_succ] at h0 h1 h2
   cases h1;cases h2
   exact ⟨v0,rfl,h0⟩
theorem lexAll_calls (s:ByteArray) (W:World) (hm:W.cell? ⟨1,0,none⟩=some (.int .i64 mx)):Calls Tryd.prog 23 #[.string s] W fun e W'=>Ext W W'∧∃ v,e=.returned v∧Rel W' (fun b=>b < W.heap.size→b=1) (allAV s.data.toList) v:=by
 refine Calls.mono (calls_sem (fit mx) (c:=Tryd.f23.body.getD .skip) Tryd.func23 (by kernel_rfl) (s23 (mx:=mx) s.data.toList) (by kernel_rfl) W (fun b=>b=1) #[.string s] (globOk1 hm) rfl (arg1 (.s s))) fun e w' he=>?_
 obtain ⟨v,rfl,hx,hr⟩:=he
 unfold ResOk at hr
 rw [if_pos (by kernel_rfl)] at hr
 exact ⟨hx,v,rfl,hr⟩
theorem results35 (T:Array Value) (W:World) (N:Nat) (x y a b:Value) (t2:T[2]?.getD undef=.pointer (some ⟨N,0,none⟩)) (t3:T[3]?.getD undef=a) (t4:T[4]?.getD undef=b) (h0:W.heap[N]?=some (.cells #[x,y] 50)) :
  (results Tryd.f35 T).run Tryd.prog W=.ok (.tuple #[.agg #[x,y],a,b]) W:=by
 have hr:Tryd.f35.results = #[.cell 2 50, .tmp 3, .tmp 4]:=by kernel_rfl
 have l1:(loadVar 50 ⟨N,0,none⟩).run Tryd.prog W=.ok (.agg #[x,y]) W:=by
  simp [loadVar,go_sem,(cell2 h0).1,(cell2 h0).2.1,Result.andThen]
 unfold results
 rw [hr]
 simp [t2,t3,t4,Sem.run_bind,asAddr,l1,Result.andThen]
def parseT (l:List UInt8):Tr:=if l.length > 65536 then .bad 0 2 else if 0≤(wordsW l).2 then .bad (wordsW l).2.toNat 4 else treeOf (wordsW l).1
set_option maxRecDepth 100000 in
set_option maxHeartbeats 4000000 in
theorem parse_bad (s:ByteArray) (w:World) (hm:w.cell? ⟨1,0,none⟩=some (.int .i64 mx)) (a er:Nat) (he:0 < er) (hall:allAV s.data.toList=.tu [.nils, .int (a:Int), .int (er:Int)]) :
  CallsIn Fence.wide 10 Tryd.prog 35 #[.string s] w (TreePost w (fun b=>b=1) (.bad a er)):=by
 have hx1:Ext w (w.alloc (.cells #[.slice none 0 0, .slice none 0 0] 50)):=Ext.push w _
 have hlex:=lexAll_calls (mx:=mx) s (w.alloc (.cells #[.slice none 0 0, .slice none 0 0] 50)) (ext_cell hx1 hm)
 rw [hall] at hlex
 have h1:(decide (0=(er:Int)))=false:=by simp;omega
 have h2:(decide ((er:Int)=0))=false:=by simp;omega
 refine callsIn_of_wp Tryd.func35 rfl trivial ?_ rfl
 simp only [Tryd.ntmps35,List.size_toArray,List.length_cons,List.length_nil,Nat.reduceAdd,Nat.reduceSub,Array.replicate_succ,Array.replicate_zero,List.push_toArray,List.append_toArray,List.nil_append,List.cons_append]
 gi_wp2_with (refine ⟨trivial,?_⟩;gi_at_call 23;refine (callsIn_wide.2 hlex).mono ?_;clear hlex hall;rintro e w2 ⟨hx2,v,rfl,hrv⟩;obtain ⟨x,rfl,hx0⟩:=relt3 hrv;cases hx0;have hA2:=(hx2.block w.heap.size (by simp)).trans (World.alloc_heap_new w (.cells #[.slice none 0 0, .slice none 0 0] 50));have hx3:=hx1.trans hx2;obtain ⟨a0,a1,a2,a3⟩:=cell2 hA2)
 exact bodyPost_ret (results35 _ _ w.heap.size (.slice none 0 0) (.slice none 0 0) (.int .i64 (a:Int)) (.int .i64 (er:Int)) rfl rfl rfl (set_both _ _ hA2)) rfl ⟨ext_set2 hx3 _ _,rfl⟩
theorem globOkF {W:World} {m:Int} {F:Nat→Prop} (h:W.cell? ⟨1,0,none⟩=some (.int .i64 m)) (hF:F 1):GlobOk (C m) W F:=by
 intro g k e hg
 have hg:(bif Nat.beq g 1 then some (1,AV.int m) else none)=some (k,e):=hg
 cases h1:Nat.beq g 1 with
 | false=>rw [h1] at hg;cases hg
 | true =>
  rw [h1] at hg;cases hg
  obtain rfl:=Nat.eq_of_beq_eq_true h1
  refine ⟨1,0,rfl,hF,cell_lt h,fun j hj=>?_⟩
  obtain rfl:j=0:=by omega
  exact ⟨.int .i64 m,h,rfl,Rel.int m⟩
theorem TreePost.shape {w w':World} {F:Nat→Prop} {tr:Tr} {e:Ending} (h:TreePost w F tr e w'):Ext w w'∧∃ (p q:Option Addr) (m1 m2 c1 c2:Nat) (a er:Int),e=.returned (.tuple #[.agg #[.slice p m1 c1, .slice q m2 c2], .int .i64 a, .int .i64 er]):=by
 obtain ⟨h0,h⟩:=h
 cases tr with
 | bad a er=>exact ⟨h0,_,_,_,_,_,_,_,_,h⟩
 | ok nodes top =>
  obtain ⟨ad2,n2,c2,ad3,c3,he,_⟩:=h
  exact ⟨h0,_,_,_,_,_,_,_,_,he⟩
theorem TreePost.mono {w1 w2 w3 w4:World} {F F':Nat→Prop} {tr:Tr} {e:Ending} (h:TreePost w2 F tr e w3) (hx:Ext w1 w2) (hx4:Ext w1 w4) (hs:w4.heap.size=w3.heap.size) (hF:∀ b,b < w3.heap.size→(b < w2.heap.size→F b)→(b < w1.heap.size→F' b)) (hb:∀ b,b < w3.heap.size→(b < w2.heap.size→F b)→w4.heap[b]?=w3.heap[b]?) (hg:∀ b,w2.heap.size≤b→b < w3.heap.size→w4.heap[b]?=w3.heap[b]?):TreePost w1 F' tr e w4:=by
 obtain ⟨h0,h⟩:=h
 refine ⟨hx4,?_⟩
 cases tr with
 | bad a er=>exact h
 | ok nodes top =>
  obtain ⟨ad2,n2,c2,ad3,c3,he,hown,hfr,hr⟩:=h
  refine ⟨ad2,n2,c2,ad3,c3,he,hown.mono (fun b hlt hf=>⟨⟨hF b hlt hf.1,hf.2⟩,hb b hlt hf.1⟩) (fun b hb'=>hg b (hfr b hb').1 (hfr b hb').2),fun g hg'=>?_,hr.mono fun b hlt hf=>⟨⟨hF b hlt hf.1,hf.2⟩,hb b hlt hf.1⟩⟩
  have:=hfr g hg'
  have:=hx.size
  omega
set_option maxRecDepth 100000 in
set_option maxHeartbeats 4000000 in
theorem parse_ok (s:ByteArray) (w:World) (hm:w.cell? ⟨1,0,none⟩=some (.int .i64 mx)) (ws:List Wd) (hws:ws.length≤100000) (hnm:∀ x ∈ ws,NmOk2 x.names) (hall:allAV s.data.toList=.tu [.ro 5 (ws.map Wd.av), .int 0, .int 0]) :
  CallsIn Fence.wide 10 Tryd.prog 35 #[.string s] w (TreePost w (fun b=>b=1) (treeOf ws)):=by
 have hx1:Ext w (w.alloc (.cells #[.slice none 0 0, .slice none 0 0] 50)):=Ext.push w _
 have hlex:=lexAll_calls (mx:=mx) s (w.alloc (.cells #[.slice none 0 0, .slice none 0 0] 50)) (ext_cell hx1 hm)
 rw [hall] at hlex
 have hlt1:=cell_lt hm
 refine callsIn_of_wp Tryd.func35 rfl trivial ?_ rfl
 simp only [Tryd.ntmps35,List.size_toArray,List.length_cons,List.length_nil,Nat.reduceAdd,Nat.reduceSub,Array.replicate_succ,Array.replicate_zero,List.push_toArray,List.append_toArray,List.nil_append,List.cons_append]
 gi_wp2_with (first
  | (refine ⟨trivial,?_⟩;gi_at_call 23;refine (callsIn_wide.2 hlex).mono ?_;clear hlex hall;rintro e w2 ⟨hx2,v,rfl,hrv⟩;obtain ⟨x,rfl,hx0⟩:=relt3 hrv;obtain ⟨ad,c,rfl,hc⟩:=rel_ro_shape hx0;rw [List.length_map] at hx0;have hA2:=(hx2.block w.heap.size (by simp)).trans (World.alloc_heap_new w (.cells #[.slice none 0 0, .slice none 0 0] 50));have hx3:=hx1.trans hx2;have hlen:(ws.map Wd.av).length=ws.length:=List.length_map ..;rw [hlen];clear hlen hrv hc)
  | (refine ⟨trivial,?_⟩;gi_at_call 62;refine (tree_in (mx:=mx) (globOkF (ext_cell hx3 hm) (fun _=>rfl)) hx0 hws hnm).mono ?_;rintro e w3 htp;obtain ⟨hx4,p,q,m1,m2,c1,c2,a,er,rfl⟩:=htp.shape;have hs2:=hx2.size;have hA4:=(hx4.block w.heap.size (by simp at hs2;omega)).trans hA2;obtain ⟨a0,a1,a2,a3⟩:=cell2 hA4;clear hx0))
 refine bodyPost_ret (results35 _ _ w.heap.size (.slice p m1 c1) (.slice q m2 c2) (.int .i64 a) (.int .i64 er) rfl rfl rfl (set_both _ _ hA4)) rfl ?_
 have hsz:∀ o,(w.alloc o).heap.size=w.heap.size+1:=fun o=>by simp
 rw [hsz] at hs2
 refine htp.mono hx3 (ext_set2 (hx3.trans hx4) _ _) (by rw [set_size,set_size]) (fun b hlt hF hb=>hF (by omega) (by rw [hsz];omega)) (fun b hlt hF=>?_) (fun b h1 h2=>?_)
 ·have hne:b≠w.heap.size:=fun e=>by
   have:=hF (by omega) (by rw [hsz];omega)
   omega
  exact (set_other hne).trans (set_other hne)
 ·have hne:b≠w.heap.size:=by omega
  exact (set_other hne).trans (set_other hne)
theorem parse_in (s:ByteArray) (w:World) (hm:w.cell? ⟨1,0,none⟩=some (.int .i64 mx)):CallsIn Fence.wide 10 Tryd.prog 35 #[.string s] w (TreePost w (fun b=>b=1) (parseT s.data.toList)):=by
 unfold parseT
 by_cases h1:s.data.toList.length > 65536
 ·rw [if_pos h1]
  exact parse_bad (mx:=mx) s w hm 0 2 (by decide) (by unfold allAV;rw [if_pos h1];rfl)
 ·rw [if_neg h1]
  by_cases h2:0≤(wordsW s.data.toList).2
  ·rw [if_pos h2]
   exact parse_bad (mx:=mx) s w hm _ 4 (by decide) (by unfold allAV;rw [if_neg h1,if_pos h2,Int.toNat_of_nonneg h2];rfl)
  ·rw [if_neg h2]
   refine parse_ok (mx:=mx) s w hm _ ?_ ?_ (by unfold allAV;rw [if_neg h1,if_neg h2])
   ·have:=wordsF_len (s.data.toList.length+1) s.data.toList 0 []
    simp only [List.length_nil] at this
    unfold wordsW
    omega
   ·exact wordsF_nm2 _ _ _ _ fun w hw=>by simp at hw
end R3

namespace R3
open Go Go.Proofs Go.RowKit Go.Shelf Sx
variable {mx:Int}
def trAV:Tr→AV
 | .bad a e=>.tu [.ag [.nils, .nils], .int (a:Int), .int (e:Int)]
 | .ok nodes top=>.tu [.ag [.ro 9 (nodes.map Nd.av), .ro 1 (numsAV top)], .int 0, .int 0]
def G35 (args:List AV):Option AV :=
 match args with
 | [.s l]=>some (trAV (parseT l))
 | _=>none
def G23 (args:List AV):Option AV :=
 match args with
 | [.s l]=>some (allAV l)
 | _=>none
theorem cellOf1 {mx:Int} {C:Cfg} (hgl:C.glob 1=some (1, .int mx)) {w:World} {F:Nat→Prop} (hG:GlobOk C w F):w.cell? ⟨1,0,none⟩=some (.int .i64 mx)∧F 1:=by
 obtain ⟨r,o,h1,h2,h3,h4⟩:=hG 1 1 _ hgl
 simp only [Value.pointer.injEq,Option.some.injEq,Addr.mk.injEq,Nat.add_zero] at h1
 obtain ⟨v,q1,q2,q3⟩:=h4 0 (by decide)
 obtain ⟨rfl,rfl,_⟩:=h1
 have q3:Rel w F (.int mx) v:=q3
 cases q3
 exact ⟨q1,h2⟩
theorem rel_pair2 {w:World} {F:Nat→Prop} {a b:AV} {x y:Value} (hx:Rel w F a x) (hy:Rel w F b y) (h1:x.oneCell'=true) (h2:y.oneCell'=true):Rel w F (.ag [a,b]) (.agg #[x,y]):=by
 refine Rel.ag [a,b] [x,y] rfl (fun v hv=>?_) (fun j v hv=>?_)
 ·simp only [List.mem_cons,List.not_mem_nil,or_false] at hv
  rcases hv with rfl | rfl
  ·exact h1
  ·exact h2
 ·match j,hv with
  | 0,hv=>cases hv;exact hx
  | 1,hv=>cases hv;exact hy
  | j+2,hv=>simp at hv
theorem rel_tri {w:World} {F:Nat→Prop} {a b c:AV} {x y z:Value} (hx:Rel w F a x) (hy:Rel w F b y) (hz:Rel w F c z):Rel w F (.tu [a,b,c]) (.tuple #[x,y,z]):=by
 refine Rel.tu [a,b,c] [x,y,z] rfl (fun j v hv=>?_)
 match j,hv with
 | 0,hv=>cases hv;exact hx
 | 1,hv=>cases hv;exact hy
 | 2,hv=>cases hv;exact hz
 | j+3,hv=>simp at hv
theorem gv35_ok {C:Cfg} {mx:Int} (hgl:C.glob 1=some (1, .int mx)) (ho:(C.own 35).all Option.isNone=true) (args:List AV) (r:AV) (h:G35 args=some r) (w:World) (F:Nat→Prop) (vs:Array Value) (hG:GlobOk C w F) (hl:vs.size=args.length)
  (hv:∀ (j:Nat) (a:AV) (v:Value),args[j]?=some a→vs[j]?=some v→Rel w F a v):CallRuns Tryd.prog 35 vs w (PostOk C 35 w F r):=by
 obtain ⟨hm,hF1⟩:=cellOf1 hgl hG
 unfold G35 at h
 split at h
 ·cases h
  match vs,hl,hv with
  | ⟨[x]⟩,_,hv =>
   have hx:=hv 0 _ x rfl rfl
   cases hx with
   | s q =>
    refine .inl ⟨Tryd.f35,(Tryd.f35.body).getD .skip,Tryd.func35,by kernel_rfl,by kernel_rfl,Calls.mono (callsIn_wide.1 (parse_in (mx:=mx) q w hm)) fun e w' he=>?_⟩
    obtain ⟨hx,hp⟩:=he
    generalize parseT q.data.toList=tr at hp ⊢
    cases tr with
    | bad a er =>
     obtain rfl:=hp
     refine ⟨_,rfl,hx,?_⟩
     unfold ResOk
     rw [if_pos ho]
     exact rel_tri (rel_pair2 .nils .nils rfl rfl) (.int _) (.int _)
    | ok nodes top =>
     obtain ⟨ad2,n2,c2,ad3,c3,rfl,hown,hfr,hr⟩:=hp
     refine ⟨_,rfl,hx,?_⟩
     unfold ResOk
     rw [if_pos ho]
     refine rel_tri (rel_pair2 (hown.rel (fun b _ hb hlt=>by rw [hb.1 hlt];exact hF1) (fun g hg hlt=>by have:=(hfr g hg).1;omega)) (hr.mono fun b _ hb=>⟨fun hlt=>by rw [hb.1 hlt];exact hF1,rfl⟩) rfl rfl) (.int _) (.int _)
 ·cases h
end R3

namespace R3
open Go Go.Proofs Sx
def Nd.key (n:Nd):Nat×List UInt8:=(n.at',n.text)
def Wd.key (w:Wd):Nat×List UInt8:=(w.at',w.text)
end R3

namespace R3
open Go Go.Proofs Sx
def Asc (lo hi:Nat) (l:List Nat):Prop:=l.Pairwise (· < ·)∧∀ x ∈ l,lo≤x∧x < hi
def UpN (m hi:Nat) (x:Nd):Prop:=Asc (m+1) hi (x.body.getD [])∧Asc (m+1) hi (x.els.getD [])
def Up (m hi:Nat) (nn:List Nd):Prop:=∀ j x,nn[j]?=some x→UpN (m+j) hi x
theorem Asc.mono {lo hi lo' hi':Nat} {l:List Nat} (h:Asc lo hi l) (h1:lo'≤lo) (h2:hi≤hi'):Asc lo' hi' l:=⟨h.1,fun x hx=>by have:=h.2 x hx;omega⟩
theorem Asc.nil (lo hi:Nat):Asc lo hi []:=⟨List.Pairwise.nil,fun x hx=>by simp at hx⟩
theorem Up.mono {m hi hi':Nat} {nn:List Nd} (h:Up m hi nn) (h2:hi≤hi'):Up m hi' nn:=fun j x hx=>⟨(h j x hx).1.mono (Nat.le_refl _) h2,(h j x hx).2.mono (Nat.le_refl _) h2⟩
theorem Up.nil (m hi:Nat):Up m hi []:=fun j x hx=>by simp at hx
theorem Up.append {m hi:Nat} {a b:List Nd} (ha:Up m hi a) (hb:Up (m+a.length) hi b):Up m hi (a ++ b):=fun j x hx=>by
 by_cases h:j < a.length
 ·rw [List.getElem?_append_left h] at hx;exact ha j x hx
 ·rw [List.getElem?_append_right (by omega)] at hx
  have:=hb _ x hx
  rwa [show m+a.length+(j - a.length)=m+j by omega] at this
theorem Up.one {m hi:Nat} {x:Nd} (h:UpN m hi x):Up m hi [x]:=fun j y hy=>by
 match j,hy with
 | 0,hy=>cases hy;exact h
 | j+1,hy=>simp at hy
theorem modNd_at {a b:List Nd} {x:Nd} {f:Nd→Nd} {i:Nat} (hi:i=a.length):modNd (a ++ x :: b) i f=a ++ f x :: b:=by
 subst hi
 unfold modNd
 induction a with
 | nil=>rfl
 | cons y a ih=>simp only [List.length_cons,List.cons_append,List.modify_succ_cons];rw [ih]
theorem parse_er (ws:List Wd):∀ n,
  (∀ d p out a e q,pList ws n d p out=some (.bad a e,q)→e=3∨e=4)∧(∀ d w p a e q,pNode ws n d w p=some (.bad a e,q)→e=3∨e=4)∧(∀ d i w p a e q,pBody ws n d i w p=some (.bad a e,q)→e=3∨e=4)
 | 0=>⟨fun d p out x e q h=>by simp [pList] at h,fun d w p x e q h=>by simp [pNode] at h,fun d i w p x e q h=>by simp [pBody] at h⟩
 | n+1=>by
  obtain ⟨hL,hN,hB⟩:=parse_er ws n
  refine ⟨fun d p out x e q h=>?_,fun d w p x e q h=>?_,fun d i w p x e q h=>?_⟩
  ·unfold pList at h
   split at h
   ·cases h
   ·split at h
    ·cases h
    ·split at h
     ·cases h
     ·rename_i e1;cases h;exact hN _ _ _ _ _ _ e1
     ·exact hL _ _ _ _ _ _ h
  ·unfold pNode at h
   simp only at h
   split at h
   ·split at h
    ·cases h;exact .inl rfl
    ·split at h
     ·cases h
     ·rename_i e1;cases h;exact hB _ _ _ _ _ _ _ e1
     ·cases h
   ·cases h
  ·unfold pBody at h
   split at h
   ·cases h
   ·rename_i e1;cases h;exact hL _ _ _ _ _ _ e1
   ·simp only at h
    split at h
    ·cases h;exact .inr rfl
    ·split at h
     ·split at h
      ·cases h;exact .inr rfl
      ·split at h
       ·cases h
       ·rename_i e1;cases h;exact hL _ _ _ _ _ _ e1
       ·split at h
        ·cases h;exact .inr rfl
        ·split at h
         ·cases h;exact .inr rfl
         ·cases h
     ·cases h
end R3

namespace R3
open Go Go.Proofs Sx
theorem treeOf_bad {ws:List Wd} {a e:Nat} (h:treeOf ws=.bad a e):e=3∨e=4:=by
 obtain ⟨r,q,e1,_⟩:=(parse_tot ws (3 * ws.length+1)).1 0 ⟨0,[]⟩ [] (Nat.zero_le _) (by simp)
 unfold treeOf at h
 rw [e1] at h
 cases r with
 | bad a' e'=>simp only [treeR] at h;cases h;exact (parse_er ws _).1 _ _ _ _ _ _ e1
 | ok top =>
  simp only [treeR] at h
  split at h
  ·cases h;exact .inr rfl
  ·cases h
theorem parseT_bad {l:List UInt8} {a e:Nat} (h:parseT l=.bad a e):e≠0:=by
 unfold parseT at h
 split at h
 ·cases h;decide
 ·split at h
  ·cases h;decide
  ·rcases treeOf_bad h with rfl | rfl <;> decide
end R3

namespace R3
open Go Go.Proofs Sx
inductive Ts where
 | nil
 | leaf (w:Wd) (k:Ts)
 | blk (w:Wd) (b:Ts) (e:Wd) (k:Ts)
 | alt (w:Wd) (b:Ts) (l:Wd) (c:Ts) (e:Wd) (k:Ts)
def nLeaf (w:Wd):Nd:=⟨ndKind w.kind,w.at',w.text,w.root,w.names,none,none,false,0⟩
def nOpen (w:Wd) (b:List Nat):Nd:=⟨0,w.at',w.text,w.root,w.names,some b,none,false,0⟩
def nBlk (w:Wd) (b:List Nat):Nd:=⟨ndKind w.kind,w.at',w.text,w.root,w.names,some b,none,false,0⟩
def nAlt (w:Wd) (b e:List Nat):Nd:=⟨ndKind w.kind,w.at',w.text,w.root,w.names,some b,some e,true,0⟩
theorem nOpen_eq (w:Wd) (b:List Nat):Nd.mk (newNd w).kind (newNd w).at' (newNd w).text (newNd w).root (newNd w).names (some b) (newNd w).els (newNd w).has (newNd w).hole=nOpen w b:=rfl
namespace Ts
def flat:Ts→List Wd
 | nil=>[]
 | leaf w k=>w :: k.flat
 | blk w b e k=>w :: (b.flat ++ e :: k.flat)
 | alt w b l c e k=>w :: (b.flat ++ l :: (c.flat ++ e :: k.flat))
def size:Ts→Nat
 | nil=>0
 | leaf _ k=>1+k.size
 | blk _ b _ k=>1+b.size+k.size
 | alt _ b _ c _ k=>1+b.size+c.size+k.size
def depth:Ts→Nat
 | nil=>0
 | leaf _ k=>k.depth
 | blk _ b _ k=>max (b.depth+1) k.depth
 | alt _ b _ c _ k=>max (max (b.depth+1) (c.depth+1)) k.depth
def tops:Nat→Ts→List Nat
 | _,nil=>[]
 | m,leaf _ k=>m :: tops (m+1) k
 | m,blk _ b _ k=>m :: tops (m+1+b.size) k
 | m,alt _ b _ c _ k=>m :: tops (m+1+b.size+c.size) k
def arr:Nat→Ts→List Nd
 | _,nil=>[]
 | m,leaf w k=>nLeaf w :: arr (m+1) k
 | m,blk w b _ k=>nBlk w (tops (m+1) b) :: (arr (m+1) b ++ arr (m+1+b.size) k)
 | m,alt w b _ c _ k=>nAlt w (tops (m+1) b) (tops (m+1+b.size) c) :: (arr (m+1) b ++ (arr (m+1+b.size) c ++ arr (m+1+b.size+c.size) k))
def ok:Ts→Prop
 | nil=>True
 | leaf w k=>(w.kind≠2∧w.kind≠3∧w.kind≠4∧w.kind≠5)∧k.ok
 | blk w b e k=>(w.kind=2∨w.kind=4)∧e.kind=5∧b.ok∧k.ok
 | alt w b l c e k=>w.kind=2∧l.kind=3∧e.kind=5∧b.ok∧c.ok∧k.ok
def app:Ts→Ts→Ts
 | nil,t=>t
 | leaf w k,t=>leaf w (k.app t)
 | blk w b e k,t=>blk w b e (k.app t)
 | alt w b l c e k,t=>alt w b l c e (k.app t)
theorem flat_app:∀ (s t:Ts),(s.app t).flat=s.flat ++ t.flat
 | nil,t=>rfl
 | leaf w k,t=>by simp [app,flat,flat_app k t]
 | blk w b e k,t=>by simp [app,flat,flat_app k t]
 | alt w b l c e k,t=>by simp [app,flat,flat_app k t]
theorem depth_app:∀ (s t:Ts),(s.app t).depth=max s.depth t.depth
 | nil,t=>by simp [app,depth]
 | leaf w k,t=>by simp [app,depth,depth_app k t]
 | blk w b e k,t=>by simp [app,depth,depth_app k t]
 | alt w b l c e k,t=>by simp [app,depth,depth_app k t]
theorem ok_app:∀ (s t:Ts),s.ok→t.ok→(s.app t).ok
 | nil,t,_,h=>h
 | leaf w k,t,hs,h=>⟨hs.1,ok_app k t hs.2 h⟩
 | blk w b e k,t,hs,h=>⟨hs.1,hs.2.1,hs.2.2.1,ok_app k t hs.2.2.2 h⟩
 | alt w b l c e k,t,hs,h=>⟨hs.1,hs.2.1,hs.2.2.1,hs.2.2.2.1,hs.2.2.2.2.1,ok_app k t hs.2.2.2.2.2 h⟩
theorem tops_app:∀ (s t:Ts) (m:Nat),(s.app t).tops m=s.tops m ++ t.tops (m+s.size)
 | nil,t,m=>rfl
 | leaf w k,t,m=>by simp only [app,tops,tops_app k t,size,List.cons_append];rw [Nat.add_assoc m 1]
 | blk w b e k,t,m=>by simp only [app,tops,tops_app k t,size,List.cons_append];rw [show m+1+b.size+k.size=m+(1+b.size+k.size) by omega]
 | alt w b l c e k,t,m=>by simp only [app,tops,tops_app k t,size,List.cons_append];rw [show m+1+b.size+c.size+k.size=m+(1+b.size+c.size+k.size) by omega]
theorem arr_app:∀ (s t:Ts) (m:Nat),(s.app t).arr m=s.arr m ++ t.arr (m+s.size)
 | nil,t,m=>rfl
 | leaf w k,t,m=>by simp only [app,arr,arr_app k t,size,List.cons_append];rw [Nat.add_assoc m 1]
 | blk w b e k,t,m=>by simp only [app,arr,arr_app k t,size,List.cons_append,List.append_assoc];rw [show m+1+b.size+k.size=m+(1+b.size+k.size) by omega]
 | alt w b l c e k,t,m=>by simp only [app,arr,arr_app k t,size,List.cons_append,List.append_assoc];rw [show m+1+b.size+c.size+k.size=m+(1+b.size+c.size+k.size) by omega]
theorem arr_len:∀ (s:Ts) (m:Nat),(s.arr m).length=s.size
 | nil,m=>rfl
 | leaf w k,m=>by simp [arr,size,arr_len k,Nat.add_comm]
 | blk w b e k,m=>by simp [arr,size,arr_len k,arr_len b];omega
 | alt w b l c e k,m=>by simp [arr,size,arr_len k,arr_len b,arr_len c];omega
theorem flat_len:∀ (s:Ts),s.size≤s.flat.length
 | nil=>Nat.le_refl _
 | leaf w k=>by simp only [flat,size,List.length_cons,List.length_append];have:=flat_len k;omega
 | blk w b e k=>by simp only [flat,size,List.length_cons,List.length_append];have:=flat_len k;have:=flat_len b;omega
 | alt w b l c e k=>by simp only [flat,size,List.length_cons,List.length_append];have:=flat_len k;have:=flat_len b;have:=flat_len c;omega
end Ts
theorem tops_len:∀ (t:Ts) (m:Nat),(t.tops m).length≤t.size
 | .nil,m=>Nat.le_refl _
 | .leaf w k,m=>by simp only [Ts.tops,Ts.size,List.length_cons];have:=tops_len k (m+1);omega
 | .blk w b e k,m=>by simp only [Ts.tops,Ts.size,List.length_cons];have:=tops_len k (m+1+b.size);omega
 | .alt w b l x e k,m=>by simp only [Ts.tops,Ts.size,List.length_cons];have:=tops_len k (m+1+b.size+x.size);omega
theorem drop_at {ws:List Wd} {i:Nat} {w:Wd} (h:ws[i]?=some w):ws.drop i=w :: ws.drop (i+1):=by
 obtain ⟨hi,rfl⟩:=List.getElem?_eq_some_iff.1 h
 exact List.drop_eq_getElem_cons hi
theorem at_drop {ws r:List Wd} {i:Nat} {w:Wd} (h:ws.drop i=w :: r):ws[i]?=some w∧ws.drop (i+1)=r:=by
 constructor
 ·have:=congrArg (fun l=>l[0]?) h
  simpa using this
 ·have:=congrArg (List.drop 1) h
  simpa [List.drop_drop] using this
theorem parse_snd (ws:List Wd):∀ n,
  (∀ d p out x q,d≤16→pList ws n d p out=some (.ok x,q)→∃ ts:Ts,ts.ok∧d+ts.depth≤16∧ws.drop p.at'=ts.flat ++ ws.drop q.at'∧q.nodes=p.nodes ++ ts.arr p.nodes.length∧x=out ++ ts.tops p.nodes.length∧∀ v,ws[q.at']?=some v→v.kind=3∨v.kind=5) ∧
  (∀ d w p x q,d≤16→w.kind≠3→w.kind≠5→pNode ws n d w p=some (.ok x,q)→∃ ts:Ts,ts.ok∧d+ts.depth≤16∧w :: ws.drop p.at'=ts.flat ++ ws.drop q.at'∧q.nodes=p.nodes ++ ts.arr p.nodes.length∧[x]=ts.tops p.nodes.length) ∧
  (∀ d i w p x q a y,d < 16→pBody ws n d i w p=some (.ok x,q)→p.nodes=a ++ [y]→a.length=i →
   (∃ (b:Ts) (e:Wd),b.ok∧e.kind=5∧d+1+b.depth≤16∧ws.drop p.at'=b.flat ++ e :: ws.drop q.at'∧q.nodes=a ++ { y with body:=some (b.tops (i+1)) } :: b.arr (i+1)) ∨
   (∃ (b:Ts) (l:Wd) (c:Ts) (e:Wd),w.kind≠4∧l.kind=3∧b.ok∧c.ok∧e.kind=5∧d+1+b.depth≤16∧d+1+c.depth≤16∧ws.drop p.at'=b.flat ++ l :: (c.flat ++ e :: ws.drop q.at') ∧
    q.nodes=a ++ { y with body:=some (b.tops (i+1)),els:=some (c.tops (i+1+b.size)),has:=true } :: (b.arr (i+1) ++ c.arr (i+1+b.size))))
 | 0=>⟨fun d p out x q _ h=>by simp [pList] at h,fun d w p x q _ _ _ h=>by simp [pNode] at h,fun d i w p x q a y _ h=>by simp [pBody] at h⟩
 | n+1=>by
  obtain ⟨hL,hN,hB⟩:=parse_snd ws n
  refine ⟨fun d p out x q hd h=>?_,fun d w p x q hd k3 k5 h=>?_,fun d i w p x q a y hd h hp hi=>?_⟩
  ·unfold pList at h
   split at h
   ·rename_i hw
    cases h
    exact ⟨.nil,trivial,hd,rfl,by simp [Ts.arr],by simp [Ts.tops],fun v hv=>by rw [hw] at hv;cases hv⟩
   ·rename_i w hw
    split at h
    ·rename_i hk
     cases h
     refine ⟨.nil,trivial,hd,rfl,by simp [Ts.arr],by simp [Ts.tops],fun v hv=>?_⟩
     rw [hw] at hv;cases hv
     simpa using hk
    ·rename_i hk
     simp only [Bool.or_eq_true,beq_iff_eq,not_or] at hk
     split at h
     ·cases h
     ·cases h
     ·rename_i i q1 e
      obtain ⟨t1,a1,a2,a3,a4,a5⟩:=hN _ _ _ _ _ hd hk.1 hk.2 e
      obtain ⟨t2,b1,b2,b3,b4,b5,b6⟩:=hL _ _ _ _ _ hd h
      simp only at a3 a4 a5
      refine ⟨t1.app t2,Ts.ok_app _ _ a1 b1,by rw [Ts.depth_app];omega,?_,?_,?_,b6⟩
      ·rw [drop_at hw,a3,b3,Ts.flat_app,List.append_assoc]
      ·rw [b4,a4,Ts.arr_app,List.append_assoc,List.length_append,Ts.arr_len]
      ·rw [b5,List.append_assoc,a5,a4,Ts.tops_app,List.length_append,Ts.arr_len]
  ·unfold pNode at h
   simp only at h
   split at h
   ·rename_i hk
    simp only [Bool.or_eq_true,beq_iff_eq] at hk
    split at h
    ·cases h
    ·rename_i hd'
     split at h
     ·cases h
     ·cases h
     ·rename_i r e
      cases h
      rcases hB _ _ _ _ _ _ p.nodes (newNd w) (by omega) e rfl rfl with ⟨b,e',c1,c2,c3,c4,c5⟩ | ⟨b,l,c,e',c0,c1,c2,c3,c4,c5,c6,c7,c8⟩
      ·refine ⟨.blk w b e' .nil,⟨hk,c2,c1,trivial⟩,by simp [Ts.depth];omega,?_,?_,by simp [Ts.tops]⟩
       ·simp only at c4
        rw [c4];simp [Ts.flat]
       ·show modNd r.nodes _ _=_
        rw [c5,modNd_at rfl]
        simp only [Ts.arr,List.append_nil]
        rfl
      ·refine ⟨.alt w b l c e' .nil,⟨?_,c1,c4,c2,c3,trivial⟩,by simp [Ts.depth];omega,?_,?_,by simp [Ts.tops]⟩
       ·rcases hk with hk | hk
        ·exact hk
        ·exact absurd hk c0
       ·simp only at c7
        rw [c7];simp [Ts.flat]
       ·show modNd r.nodes _ _=_
        rw [c8,modNd_at rfl]
        simp only [Ts.arr,List.append_nil]
        rfl
   ·rename_i hk
    simp only [Bool.or_eq_true,beq_iff_eq,not_or] at hk
    cases h
    refine ⟨.leaf w .nil,⟨⟨hk.1,k3,hk.2,k5⟩,trivial⟩,by simp [Ts.depth];omega,by simp [Ts.flat],?_,by simp [Ts.tops]⟩
    show modNd _ _ _=_
    rw [modNd_at rfl]
    simp only [Ts.arr]
    rfl
  ·unfold pBody at h
   have hpl:p.nodes.length=i+1:=by rw [hp,List.length_append,hi];rfl
   split at h
   ·cases h
   ·cases h
   ·rename_i body q1 e
    obtain ⟨b,b1,b2,b3,b4,b5,b6⟩:=hL _ _ _ _ _ (by omega) e
    rw [List.nil_append,hpl] at b5
    subst b5
    rw [hpl] at b4
    have hm:modNd q1.nodes i (fun x=>{ x with body:=some (b.tops (i+1)) })=a ++ { y with body:=some (b.tops (i+1)) } :: b.arr (i+1):=by
     rw [b4,hp,List.append_assoc,List.singleton_append,modNd_at hi.symm]
    simp only at h
    rw [hm] at h
    split at h
    ·cases h
    ·rename_i v hv
     have hv':=b6 v hv
     split at h
     ·rename_i hk
      have hk:v.kind=3:=by simpa using hk
      split at h
      ·cases h
      ·rename_i hk4
       have hk4:w.kind≠4:=by simpa using hk4
       split at h
       ·cases h
       ·cases h
       ·rename_i els r1 e2
        obtain ⟨c,c1,c2,c3,c4,c5,c6⟩:=hL _ _ _ _ _ (by omega) e2
        simp only at c3 c4 c5
        have hl2:(a ++ { y with body:=some (b.tops (i+1)) } :: b.arr (i+1)).length=i+1+b.size:=by rw [List.length_append,List.length_cons,hi,Ts.arr_len];omega
        rw [hl2] at c4 c5
        rw [List.nil_append] at c5
        subst c5
        have hm2:modNd r1.nodes i (fun x=>{ x with els:=some (c.tops (i+1+b.size)),has:=true })=a ++ { y with body:=some (b.tops (i+1)),els:=some (c.tops (i+1+b.size)),has:=true } :: (b.arr (i+1) ++ c.arr (i+1+b.size)):=by
         rw [c4,List.append_assoc,List.cons_append,modNd_at hi.symm]
        rw [hm2] at h
        split at h
        ·cases h
        ·rename_i u hu
         split at h
         ·cases h
         ·rename_i hk3
          have hk3:u.kind≠3:=by simpa using hk3
          cases h
          refine .inr ⟨b,v,c,u,hk4,hk,b1,c1,(c6 u hu).resolve_left hk3,by omega,by omega,?_,rfl⟩
          show _=_ ++ _ :: (_ ++ _ :: ws.drop (r1.at'+1))
          rw [b3,drop_at hv,c3,drop_at hu]
     ·rename_i hk3
      have hk3:v.kind≠3:=by simpa using hk3
      cases h
      refine .inl ⟨b,v,b1,hv'.resolve_left hk3,by omega,?_,rfl⟩
      show _=_ ++ _ :: ws.drop (q1.at'+1)
      rw [b3,drop_at hv]
def stopper (r:List Wd):Prop:=∀ v,r[0]?=some v→v.kind=3∨v.kind=5
theorem stop_cons {e:Wd} {r:List Wd} (h:e.kind=3∨e.kind=5):stopper (e :: r):=fun v hv=>by
 simp at hv;subst hv;exact h
theorem parse_cmp (ws:List Wd):∀ (ts:Ts) (d:Nat) (p:Ps) (out:List Nat) (n:Nat) (rest:List Wd),ts.ok→d+ts.depth≤16→ws.drop p.at'=ts.flat ++ rest→stopper rest→3 * ts.flat.length+1≤n →
  pList ws n d p out=some (.ok (out ++ ts.tops p.nodes.length),⟨p.at'+ts.flat.length,p.nodes ++ ts.arr p.nodes.length⟩)
 | .nil,d,p,out,n,rest,ho,hd,hw,hr,hn=>by
  obtain ⟨k,rfl⟩:∃ k,n=k+1:=⟨n - 1,by simp [Ts.flat] at hn;omega⟩
  unfold pList
  simp only [Ts.flat,List.nil_append] at hw
  have h0:ws[p.at']?=rest[0]?:=by rw [← hw];simp
  have fin:(some (Pr.ok out,p):Option (Pr (List Nat)×Ps))=some (.ok (out ++ Ts.nil.tops p.nodes.length),⟨p.at'+Ts.nil.flat.length,p.nodes ++ Ts.nil.arr p.nodes.length⟩):=by simp [Ts.tops,Ts.flat,Ts.arr]
  cases hv:ws[p.at']? with
  | none=>exact fin
  | some v =>
   simp only
   rw [if_pos (by simpa using hr v (h0.symm.trans hv))]
   exact fin
 | .leaf w k,d,p,out,n,rest,ho,hd,hw,hr,hn=>by
  obtain ⟨⟨k2,k3,k4,k5⟩,hk⟩:=ho
  simp only [Ts.flat,List.length_cons] at hn
  obtain ⟨n,rfl⟩:∃ k,n=k+1+1:=⟨n - 2,by omega⟩
  obtain ⟨g1,g2⟩:=at_drop (show ws.drop p.at'=w :: (k.flat ++ rest) from hw)
  have e1:pNode ws (n+1) d w ⟨p.at'+1,p.nodes⟩=some (.ok p.nodes.length,⟨p.at'+1,p.nodes ++ [nLeaf w]⟩):=by
   unfold pNode
   simp only
   rw [if_neg (by simp [k2,k4]),modNd_at rfl]
   try rfl
  unfold pList
  simp only [g1,e1]
  rw [if_neg (by simp [k3,k5])]
  have ih:=parse_cmp ws k d ⟨p.at'+1,p.nodes ++ [nLeaf w]⟩ (out ++ [p.nodes.length]) (n+1) rest hk hd g2 hr (by omega)
  rw [ih]
  simp only [Ts.tops,Ts.flat,Ts.arr,List.length_append,List.length_cons,List.length_nil,Nat.zero_add,List.append_assoc,List.singleton_append]
  rw [show p.at'+1+k.flat.length=p.at'+(k.flat.length+1) by omega]
 | .blk w b e k,d,p,out,n,rest,ho,hd,hw,hr,hn=>by
  obtain ⟨hk,ke,hb,hk'⟩:=ho
  simp only [Ts.flat,List.length_cons,List.length_append] at hn
  simp only [Ts.depth] at hd
  obtain ⟨n,rfl⟩:∃ k,n=k+1+1+1:=⟨n - 3,by omega⟩
  obtain ⟨g1,g2⟩:=at_drop (show ws.drop p.at'=w :: ((b.flat ++ e :: k.flat) ++ rest) from hw)
  have k3:w.kind≠3∧w.kind≠5:=by rcases hk with h | h <;> rw [h] <;> decide
  have ihb:=parse_cmp ws b (d+1) ⟨p.at'+1,p.nodes ++ [newNd w]⟩ [] n (e :: (k.flat ++ rest)) hb (by omega) (by rw [g2];simp) (stop_cons (.inr ke)) (by omega)
  have ge:ws.drop (p.at'+1+b.flat.length)=e :: (k.flat ++ rest):=by
   rw [← List.drop_drop,g2,List.append_assoc,List.drop_left];rfl
  obtain ⟨g3,g4⟩:=at_drop ge
  simp only [List.length_append,List.length_cons,List.length_nil,Nat.zero_add,List.append_assoc,List.singleton_append,List.nil_append] at ihb
  have e1:pNode ws (n+1+1) d w ⟨p.at'+1,p.nodes⟩=some (.ok p.nodes.length,⟨p.at'+1+b.flat.length+1,p.nodes ++ nBlk w (b.tops (p.nodes.length+1)) :: b.arr (p.nodes.length+1)⟩):=by
   unfold pNode
   simp only
   rw [if_pos (by simpa using hk),if_neg (by omega)]
   unfold pBody
   rw [ihb]
   simp only [modNd_at,g3,nOpen_eq]
   rw [if_neg (by rw [ke];decide)]
   simp only [modNd_at]
   try rfl
  unfold pList
  simp only [g1,e1]
  rw [if_neg (by simp [k3])]
  have ih:=parse_cmp ws k d ⟨p.at'+1+b.flat.length+1,p.nodes ++ nBlk w (b.tops (p.nodes.length+1)) :: b.arr (p.nodes.length+1)⟩ (out ++ [p.nodes.length]) (n+1+1) rest hk' (by omega) g4 hr (by omega)
  rw [ih]
  simp only [Ts.tops,Ts.flat,Ts.arr,List.length_append,List.length_cons,Ts.arr_len,List.append_assoc,List.singleton_append,List.cons_append,List.nil_append]
  rw [show p.nodes.length+(b.size+1)=p.nodes.length+1+b.size by omega,show p.at'+1+b.flat.length+1+k.flat.length=p.at'+(b.flat.length+(k.flat.length+1)+1) by omega]
 | .alt w b l c e k,d,p,out,n,rest,ho,hd,hw,hr,hn=>by
  obtain ⟨hk,kl,ke,hb,hc,hk'⟩:=ho
  simp only [Ts.flat,List.length_cons,List.length_append] at hn
  simp only [Ts.depth] at hd
  obtain ⟨n,rfl⟩:∃ k,n=k+1+1+1:=⟨n - 3,by omega⟩
  obtain ⟨g1,g2⟩:=at_drop (show ws.drop p.at'=w :: ((b.flat ++ l :: (c.flat ++ e :: k.flat)) ++ rest) from hw)
  have ihb:=parse_cmp ws b (d+1) ⟨p.at'+1,p.nodes ++ [newNd w]⟩ [] n (l :: (c.flat ++ e :: k.flat) ++ rest) hb (by omega) (by rw [g2];simp) (stop_cons (.inl kl)) (by omega)
  have gl:ws.drop (p.at'+1+b.flat.length)=l :: ((c.flat ++ e :: k.flat) ++ rest):=by
   rw [← List.drop_drop,g2,List.append_assoc,List.drop_left];rfl
  obtain ⟨g3,g4⟩:=at_drop gl
  simp only [List.length_append,List.length_cons,List.length_nil,Nat.zero_add,List.append_assoc,List.singleton_append,List.nil_append] at ihb
  have ihc:=parse_cmp ws c (d+1) ⟨p.at'+1+b.flat.length+1,p.nodes ++ nOpen w (b.tops (p.nodes.length+1)) :: b.arr (p.nodes.length+1)⟩ [] n (e :: (k.flat ++ rest)) hc (by omega) (by rw [g4];simp) (stop_cons (.inr ke)) (by omega)
  have ge:ws.drop (p.at'+1+b.flat.length+1+c.flat.length)=e :: (k.flat ++ rest):=by
   rw [← List.drop_drop,g4,List.append_assoc,List.drop_left];rfl
  obtain ⟨g5,g6⟩:=at_drop ge
  simp only [List.length_append,List.length_cons,Ts.arr_len,List.nil_append,List.append_assoc,List.cons_append] at ihc
  rw [show p.nodes.length+(b.size+1)=p.nodes.length+1+b.size by omega] at ihc
  have e1:pNode ws (n+1+1) d w ⟨p.at'+1,p.nodes⟩=some (.ok p.nodes.length,⟨p.at'+1+b.flat.length+1+c.flat.length+1,p.nodes ++ nAlt w (b.tops (p.nodes.length+1)) (c.tops (p.nodes.length+1+b.size)) :: (b.arr (p.nodes.length+1) ++ c.arr (p.nodes.length+1+b.size))⟩):=by
   unfold pNode
   simp only
   rw [if_pos (by simp [hk]),if_neg (by omega)]
   unfold pBody
   rw [ihb]
   simp only [modNd_at,g3,nOpen_eq]
   rw [if_pos (by simp [kl]),if_neg (by simp [hk]),ihc]
   simp only [modNd_at,g5]
   rw [if_neg (by rw [ke];decide)]
   simp only [modNd_at]
   try rfl
  unfold pList
  simp only [g1,e1]
  rw [if_neg (by simp [hk])]
  have ih:=parse_cmp ws k d ⟨p.at'+1+b.flat.length+1+c.flat.length+1,p.nodes ++ nAlt w (b.tops (p.nodes.length+1)) (c.tops (p.nodes.length+1+b.size)) :: (b.arr (p.nodes.length+1) ++ c.arr (p.nodes.length+1+b.size))⟩ (out ++ [p.nodes.length]) (n+1+1) rest hk' (by omega) g6 hr (by omega)
  rw [ih]
  simp only [Ts.tops,Ts.flat,Ts.arr,List.length_append,List.length_cons,Ts.arr_len,List.append_assoc,List.singleton_append,List.cons_append,List.nil_append]
  rw [show p.nodes.length+(b.size+c.size+1)=p.nodes.length+1+b.size+c.size by omega,show p.at'+1+b.flat.length+1+c.flat.length+1+k.flat.length=p.at'+(b.flat.length+(c.flat.length+(k.flat.length+1)+1)+1) by omega]
end R3

namespace R3
open Go Go.Proofs Sx
theorem treeOf_flat {ts:Ts} (h:ts.ok) (hd:ts.depth≤16):treeOf ts.flat=.ok (ts.arr 0) (ts.tops 0):=by
 unfold treeOf
 rw [parse_cmp ts.flat ts 0 ⟨0,[]⟩ [] (3 * ts.flat.length+1) [] h (by omega) (by simp) (fun v hv=>by simp at hv) (by omega)]
 simp only [treeR,Nat.zero_add,List.nil_append,List.length_nil]
 rw [List.getElem?_eq_none (Nat.le_refl _)]
theorem of_treeOf {ws:List Wd} {nodes:List Nd} {top:List Nat} (h:treeOf ws=.ok nodes top):∃ ts:Ts,ts.ok∧ts.depth≤16∧ws=ts.flat∧nodes=ts.arr 0∧top=ts.tops 0:=by
 obtain ⟨r,q,e1,h1,h2,h3⟩:=(parse_tot ws (3 * ws.length+1)).1 0 ⟨0,[]⟩ [] (Nat.zero_le _) (by simp)
 unfold treeOf at h
 rw [e1] at h
 cases r with
 | bad a' e'=>simp only [treeR] at h;cases h
 | ok top' =>
  simp only [treeR] at h
  split at h
  ·cases h
  ·rename_i hq
   cases h
   have hge:ws.length≤q.at':=List.getElem?_eq_none_iff.1 hq
   obtain ⟨ts,g1,g2,g3,g4,g5,_⟩:=(parse_snd ws _).1 _ _ _ _ _ (by omega) e1
   rw [List.drop_zero,List.drop_eq_nil_of_le hge,List.append_nil] at g3
   exact ⟨ts,g1,by omega,g3,by simpa using g4,by simpa using g5⟩
end R3

namespace R3
open Go Go.Proofs Sx
structure Op' where
 node:Nat
 kind:UInt8
 els:Bool
structure Mn where
 kind:UInt8
 at':Nat
 text:List UInt8
 root:Bool
 names:AV
 body:List Nat
 els:List Nat
 has:Bool
structure Ms where
 nodes:List Mn
 top:List Nat
 stack:List Op'
def mLeaf (w:Wd):Mn:=⟨ndKind w.kind,w.at',w.text,w.root,w.names,[],[],false⟩
def Ms.add (s:Ms) (n:List Nat):Ms :=
 match s.stack.getLast? with
 | none=>{ s with top:=s.top ++ n }
 | some o=>if o.els then { s with nodes:=s.nodes.modify o.node fun x=>{ x with els:=x.els ++ n } } else { s with nodes:=s.nodes.modify o.node fun x=>{ x with body:=x.body ++ n } }
inductive Mr where
 | ok (nodes:List Mn) (top:List Nat)
 | bad (a e:Nat)
def mStep (s:Ms) (w:Wd):Ms ⊕ (Nat×Nat) :=
 if w.kind == 3 then
  match s.stack.getLast? with
  | none=>.inr (w.at',4)
  | some o=>if o.kind != 2 || o.els then .inr (w.at',4) else .inl { s with stack:=s.stack.dropLast ++ [{ o with els:=true }],nodes:=s.nodes.modify o.node fun x=>{ x with has:=true } }
 else if w.kind == 5 then
  match s.stack.getLast? with
  | none=>.inr (w.at',4)
  | some o=>.inl { s with stack:=s.stack.dropLast }
 else if (w.kind == 2 || w.kind == 4) && decide (16≤s.stack.length) then .inr (w.at',3)
 else
  let t:=Ms.add { s with nodes:=s.nodes ++ [mLeaf w] } [s.nodes.length]
  .inl (if w.kind == 2 || w.kind == 4 then { t with stack:=t.stack ++ [⟨s.nodes.length,w.kind,false⟩] } else t)
def mRun:List Wd→Ms→Mr
 | [],s=>match s.stack.getLast? with
  | none=>.ok s.nodes s.top
  | some o=>.bad ((s.nodes[o.node]?.map Mn.at').getD 0) 4
 | w :: r,s=>match mStep s w with
  | .inl t=>mRun r t
  | .inr (a,e)=>.bad a e
def mArr:Nat→Ts→List Mn
 | _, .nil=>[]
 | m, .leaf w k=>mLeaf w :: mArr (m+1) k
 | m, .blk w b _ k=>{ mLeaf w with body:=b.tops (m+1) } :: (mArr (m+1) b ++ mArr (m+1+b.size) k)
 | m, .alt w b _ c _ k=>{ mLeaf w with body:=b.tops (m+1),els:=c.tops (m+1+b.size),has:=true } :: (mArr (m+1) b ++ (mArr (m+1+b.size) c ++ mArr (m+1+b.size+c.size) k))
theorem mArr_len:∀ (s:Ts) (m:Nat),(mArr m s).length=s.size
 | .nil,m=>rfl
 | .leaf w k,m=>by simp [mArr,Ts.size,mArr_len k,Nat.add_comm]
 | .blk w b e k,m=>by simp [mArr,Ts.size,mArr_len k,mArr_len b];omega
 | .alt w b l c e k,m=>by simp [mArr,Ts.size,mArr_len k,mArr_len b,mArr_len c];omega
def Ms.wf (s:Ms):Prop:=∀ o ∈ s.stack,o.node < s.nodes.length
theorem add_stack (s:Ms) (n:List Nat):(s.add n).stack=s.stack:=by
 unfold Ms.add;split
 ·rfl
 ·split <;> rfl
theorem add_len (s:Ms) (n:List Nat):(s.add n).nodes.length=s.nodes.length:=by
 unfold Ms.add;split
 ·rfl
 ·split <;> simp
theorem add_nil (s:Ms):s.add []=s:=by
 unfold Ms.add
 have e1:∀ (l:List Mn) (i:Nat),(l.modify i fun x=>{ x with els:=x.els ++ [] })=l:=fun l i=>by
  simp only [List.append_nil]
  exact List.modify_id i l
 have e2:∀ (l:List Mn) (i:Nat),(l.modify i fun x=>{ x with body:=x.body ++ [] })=l:=fun l i=>by
  simp only [List.append_nil]
  exact List.modify_id i l
 split
 ·simp
 ·split
  ·rw [e1]
  ·rw [e2]
theorem modify_app {l r:List Mn} {i:Nat} {f:Mn→Mn} (h:i < l.length):(l ++ r).modify i f=l.modify i f ++ r:=by
 apply List.ext_getElem?
 intro j
 rw [List.getElem?_modify]
 by_cases hj:j < l.length
 ·rw [List.getElem?_append_left hj,List.getElem?_append_left (by rw [List.length_modify];exact hj),List.getElem?_modify]
 ·rw [List.getElem?_append_right (by omega),List.getElem?_append_right (by rw [List.length_modify];omega),List.length_modify]
  have hne:i≠j:=by omega
  cases r[j - l.length]? <;> simp [hne]
theorem modify_two {l:List Mn} {i:Nat} {f g:Mn→Mn}:(l.modify i f).modify i g=l.modify i fun x=>g (f x):=by
 apply List.ext_getElem?
 intro j
 rw [List.getElem?_modify,List.getElem?_modify,List.getElem?_modify]
 by_cases h:i=j
 ·cases l[j]? <;> simp [h]
 ·cases l[j]? <;> simp [h]
theorem modify_at {l r:List Mn} {x:Mn} {i:Nat} {f:Mn→Mn} (h:i=l.length):(l ++ x :: r).modify i f=l ++ f x :: r:=by
 subst h
 induction l with
 | nil=>rfl
 | cons y l ih=>simp only [List.length_cons,List.cons_append,List.modify_succ_cons];rw [ih]
def Ms.put (s:Ms) (n:List Nat) (a:List Mn):Ms:={ s.add n with nodes:=(s.add n).nodes ++ a }
theorem put_nil (s:Ms):s.put [] []=s:=by unfold Ms.put;rw [add_nil];simp
theorem put_stack (s:Ms) (n:List Nat) (a:List Mn):(s.put n a).stack=s.stack:=add_stack s n
theorem put_len (s:Ms) (n:List Nat) (a:List Mn):(s.put n a).nodes.length=s.nodes.length+a.length:=by unfold Ms.put;simp only [List.length_append,add_len]
theorem put_put {s:Ms} (h:s.wf) (n m:List Nat) (a b:List Mn):(s.put n a).put m b=s.put (n ++ m) (a ++ b):=by
 unfold Ms.put Ms.add
 cases hl:s.stack.getLast? with
 | none=>simp [hl]
 | some o =>
  have ho:o.node < s.nodes.length:=h o (List.mem_of_getLast? hl)
  by_cases he:o.els=true
  ·simp only [he,if_true,hl]
   rw [modify_app (by rw [List.length_modify];exact ho),modify_two]
   simp only [List.append_assoc]
  ·simp only [he,if_false,hl,Bool.false_eq_true]
   rw [modify_app (by rw [List.length_modify];exact ho),modify_two]
   simp only [List.append_assoc]
theorem put_wf {s:Ms} (h:s.wf) (n:List Nat) (a:List Mn):(s.put n a).wf:=fun o ho=>by
 rw [put_stack] at ho
 rw [put_len]
 have:=h o ho
 omega
theorem add_new {s:Ms} (h:s.wf) (n:List Nat) (x:Mn):Ms.add { s with nodes:=s.nodes ++ [x] } n=s.put n [x]:=by
 unfold Ms.put Ms.add
 cases hl:s.stack.getLast? with
 | none=>simp [hl]
 | some o =>
  have ho:o.node < s.nodes.length:=h o (List.mem_of_getLast? hl)
  by_cases he:o.els=true
  ·simp only [he,if_true,hl]
   rw [modify_app ho]
  ·simp only [he,if_false,hl,Bool.false_eq_true]
   rw [modify_app ho]
theorem step_leaf {s:Ms} (h:s.wf) {w:Wd} (hk:w.kind≠2∧w.kind≠3∧w.kind≠4∧w.kind≠5):mStep s w=.inl (s.put [s.nodes.length] [mLeaf w]):=by
 unfold mStep
 rw [if_neg (by simp [hk]),if_neg (by simp [hk]),if_neg (by simp [hk])]
 simp only
 rw [if_neg (by simp [hk]),add_new h]
def opened' (s:Ms) (w:Wd):Ms:={ s.put [s.nodes.length] [mLeaf w] with stack:=s.stack ++ [⟨s.nodes.length,w.kind,false⟩] }
theorem step_open {s:Ms} (h:s.wf) {w:Wd} (hk:w.kind=2∨w.kind=4) (hd:s.stack.length < 16):mStep s w=.inl (opened' s w):=by
 have h3:w.kind≠3∧w.kind≠5:=by rcases hk with e | e <;> rw [e] <;> decide
 unfold mStep
 rw [if_neg (by simp [h3]),if_neg (by simp [h3]),if_neg (by simp;omega)]
 simp only
 rw [if_pos (by simpa using hk),add_new h]
 unfold opened'
 rw [put_stack]
theorem opened_wf {s:Ms} (h:s.wf) (w:Wd):(opened' s w).wf:=fun o ho=>by
 show o.node < (s.put _ _).nodes.length
 rw [put_len]
 rcases List.mem_append.1 ho with ho | ho
 ·have:=h o ho;simp only [List.length_cons,List.length_nil];omega
 ·obtain rfl:=List.mem_singleton.1 ho;simp only [List.length_cons,List.length_nil];omega
theorem opened_put (s:Ms) (w:Wd) (n:List Nat) (a:List Mn):(opened' s w).put n a={ s.put [s.nodes.length] ({ mLeaf w with body:=n } :: a) with stack:=s.stack ++ [⟨s.nodes.length,w.kind,false⟩] }:=by
 have hl:(opened' s w).stack.getLast?=some ⟨s.nodes.length,w.kind,false⟩:=by simp [opened']
 unfold Ms.put
 have e:(opened' s w).add n={ opened' s w with nodes:=(opened' s w).nodes.modify s.nodes.length fun x=>{ x with body:=x.body ++ n } }:=by
  unfold Ms.add
  rw [hl]
  rfl
 rw [e]
 have e2:(opened' s w).nodes=(s.add [s.nodes.length]).nodes ++ [mLeaf w]:=rfl
 rw [e2,modify_at (by rw [add_len])]
 simp [opened',mLeaf,Ms.put]
def elsed (s:Ms) (w:Wd) (n:List Nat) (a:List Mn):Ms:={ s.put [s.nodes.length] ({ mLeaf w with body:=n,has:=true } :: a) with stack:=s.stack ++ [⟨s.nodes.length,w.kind,true⟩] }
theorem step_else {s:Ms} {w l:Wd} (hk:w.kind=2) (hl:l.kind=3) (n:List Nat) (a:List Mn):mStep ((opened' s w).put n a) l=.inl (elsed s w n a):=by
 rw [opened_put]
 unfold mStep
 rw [if_pos (by simp [hl])]
 simp only [List.getLast?_append,List.getLast?_singleton,Option.some_or]
 rw [if_neg (by simp [hk])]
 congr 1
 unfold elsed Ms.put
 have:∀ X:List Mn,(((s.add [s.nodes.length]).nodes ++ ({ mLeaf w with body:=n } :: a)).modify s.nodes.length fun x=>{ x with has:=true })=(s.add [s.nodes.length]).nodes ++ ({ mLeaf w with body:=n,has:=true } :: a):=fun _=>by
  rw [modify_at (by rw [add_len])]
 simp only [this []]
 simp
theorem elsed_wf {s:Ms} (h:s.wf) (w:Wd) (n:List Nat) (a:List Mn):(elsed s w n a).wf:=fun o ho=>by
 show o.node < (s.put _ _).nodes.length
 rw [put_len]
 rcases List.mem_append.1 ho with ho | ho
 ·have:=h o ho;omega
 ·obtain rfl:=List.mem_singleton.1 ho;simp only [List.length_cons];omega
theorem elsed_put (s:Ms) (w:Wd) (n m:List Nat) (a b:List Mn):(elsed s w n a).put m b={ s.put [s.nodes.length] ({ mLeaf w with body:=n,els:=m,has:=true } :: (a ++ b)) with stack:=s.stack ++ [⟨s.nodes.length,w.kind,true⟩] }:=by
 have hl:(elsed s w n a).stack.getLast?=some ⟨s.nodes.length,w.kind,true⟩:=by simp [elsed]
 unfold Ms.put
 have e:(elsed s w n a).add m={ elsed s w n a with nodes:=(elsed s w n a).nodes.modify s.nodes.length fun x=>{ x with els:=x.els ++ m } }:=by
  unfold Ms.add
  rw [hl]
  rfl
 rw [e]
 have e2:(elsed s w n a).nodes=(s.add [s.nodes.length]).nodes ++ ({ mLeaf w with body:=n,has:=true } :: a):=rfl
 rw [e2,modify_at (by rw [add_len])]
 simp [elsed,mLeaf,Ms.put]
theorem step_end {s:Ms} {e:Wd} (he:e.kind=5) {S:List Op'} {o:Op'} (hs:s.stack=S ++ [o]):mStep s e=.inl { s with stack:=S }:=by
 unfold mStep
 rw [if_neg (by simp [he]),if_pos (by simp [he]),hs]
 simp
theorem mrun_ts:∀ (t:Ts) (s:Ms) (rest:List Wd),t.ok→s.stack.length+t.depth≤16→s.wf→mRun (t.flat ++ rest) s=mRun rest (s.put (t.tops s.nodes.length) (mArr s.nodes.length t))
 | .nil,s,rest,ho,hd,hw=>by
  show mRun rest s=mRun rest (s.put [] [])
  rw [put_nil]
 | .leaf w k,s,rest,ho,hd,hw=>by
  show mRun (w :: (k.flat ++ rest)) s=_
  rw [mRun,step_leaf hw ho.1]
  simp only
  rw [mrun_ts k _ rest ho.2 (by rw [put_stack];exact hd) (put_wf hw _ _),put_put hw,put_len]
  rfl
 | .blk w b e k,s,rest,ho,hd,hw=>by
  obtain ⟨hk,ke,hb,hk'⟩:=ho
  simp only [Ts.depth] at hd
  show mRun (w :: ((b.flat ++ e :: k.flat) ++ rest)) s=_
  rw [mRun,step_open hw hk (by omega)]
  simp only
  have e1:(b.flat ++ e :: k.flat) ++ rest=b.flat ++ (e :: (k.flat ++ rest)):=by simp
  have hol:(opened' s w).nodes.length=s.nodes.length+1:=put_len s _ _
  rw [e1,mrun_ts b (opened' s w) _ hb (by show (s.stack ++ [_]).length+b.depth≤16;rw [List.length_append];simp only [List.length_cons,List.length_nil];omega) (opened_wf hw w),hol,opened_put,mRun]
  rw [step_end ke rfl]
  simp only
  have e2:∀ (n:List Nat) (a:List Mn),(⟨(s.put n a).nodes,(s.put n a).top,s.stack⟩:Ms)=s.put n a:=fun n a=>by rw [← put_stack s n a]
  rw [e2,mrun_ts k _ rest hk' (by rw [put_stack];omega) (put_wf hw _ _),put_put hw,put_len,List.length_cons,mArr_len]
  rw [show s.nodes.length+(b.size+1)=s.nodes.length+1+b.size by omega]
  rfl
 | .alt w b l c e k,s,rest,ho,hd,hw=>by
  obtain ⟨hk,kl,ke,hb,hc,hk'⟩:=ho
  simp only [Ts.depth] at hd
  show mRun (w :: ((b.flat ++ l :: (c.flat ++ e :: k.flat)) ++ rest)) s=_
  rw [mRun,step_open hw (.inl hk) (by omega)]
  simp only
  have e1:(b.flat ++ l :: (c.flat ++ e :: k.flat)) ++ rest=b.flat ++ (l :: (c.flat ++ (e :: (k.flat ++ rest)))):=by simp
  have hol:(opened' s w).nodes.length=s.nodes.length+1:=put_len s _ _
  rw [e1,mrun_ts b (opened' s w) _ hb (by show (s.stack ++ [_]).length+b.depth≤16;rw [List.length_append];simp only [List.length_cons,List.length_nil];omega) (opened_wf hw w),hol,mRun,step_else hk kl]
  simp only
  have hel:(elsed s w (b.tops (s.nodes.length+1)) (mArr (s.nodes.length+1) b)).nodes.length=s.nodes.length+1+b.size:=by
   show (s.put _ _).nodes.length=_
   rw [put_len,List.length_cons,mArr_len];omega
  rw [mrun_ts c _ _ hc (by show (s.stack ++ [_]).length+c.depth≤16;rw [List.length_append];simp only [List.length_cons,List.length_nil];omega) (elsed_wf hw w _ _),hel,elsed_put,mRun]
  rw [step_end ke rfl]
  simp only
  have e2:∀ (n:List Nat) (a:List Mn),(⟨(s.put n a).nodes,(s.put n a).top,s.stack⟩:Ms)=s.put n a:=fun n a=>by rw [← put_stack s n a]
  rw [e2,mrun_ts k _ rest hk' (by rw [put_stack];omega) (put_wf hw _ _),put_put hw,put_len,List.length_cons,List.length_append,mArr_len,mArr_len]
  rw [show s.nodes.length+(b.size+c.size+1)=s.nodes.length+1+b.size+c.size by omega]
  simp only [Ts.tops,mArr,List.singleton_append,List.cons_append,List.append_assoc,List.nil_append]
end R3

namespace R3
open Go Go.Proofs Sx
theorem opened_len (s:Ms) (w:Wd):(opened' s w).stack.length=s.stack.length+1:=by simp [opened']
theorem elsed_len (s:Ms) (w:Wd) (n:List Nat) (a:List Mn):(elsed s w n a).stack.length=s.stack.length+1:=by simp [elsed]
theorem run_end_open (s:Ms) (w:Wd) (n:List Nat) (a:List Mn):mRun [] ((opened' s w).put n a)=.bad w.at' 4:=by
 rw [opened_put,mRun]
 simp only [List.getLast?_append,List.getLast?_singleton,Option.some_or]
 have:((s.put [s.nodes.length] ({ mLeaf w with body:=n } :: a)).nodes)[s.nodes.length]?=some { mLeaf w with body:=n }:=by
  show ((s.add _).nodes ++ _ :: a)[s.nodes.length]?=_
  rw [List.getElem?_append_right (by rw [add_len];exact Nat.le_refl _),add_len]
  simp
 rw [this];rfl
theorem run_end_els (s:Ms) (w:Wd) (n m:List Nat) (a b:List Mn):mRun [] ((elsed s w n a).put m b)=.bad w.at' 4:=by
 rw [elsed_put,mRun]
 simp only [List.getLast?_append,List.getLast?_singleton,Option.some_or]
 have:((s.put [s.nodes.length] ({ mLeaf w with body:=n,els:=m,has:=true } :: (a ++ b))).nodes)[s.nodes.length]?=some { mLeaf w with body:=n,els:=m,has:=true }:=by
  show ((s.add _).nodes ++ _ :: (a ++ b))[s.nodes.length]?=_
  rw [List.getElem?_append_right (by rw [add_len];exact Nat.le_refl _),add_len]
  simp
 rw [this];rfl
theorem mrun_bad (ws:List Wd):∀ n,
  (∀ d p out a e q,d≤16→pList ws n d p out=some (.bad a e,q)→∀ s:Ms,s.wf→s.stack.length=d→mRun (ws.drop p.at') s=.bad a e) ∧
  (∀ d w p a e q,d≤16→w.kind≠3→w.kind≠5→pNode ws n d w p=some (.bad a e,q)→∀ s:Ms,s.wf→s.stack.length=d→mRun (w :: ws.drop p.at') s=.bad a e) ∧
  (∀ d i w p a e q,d < 16→(w.kind=2∨w.kind=4)→pBody ws n d i w p=some (.bad a e,q)→∀ s:Ms,s.wf→s.stack.length=d→mRun (ws.drop p.at') (opened' s w)=.bad a e)
 | 0=>⟨fun d p out a e q _ h=>by simp [pList] at h,fun d w p a e q _ _ _ h=>by simp [pNode] at h,fun d i w p a e q _ _ h=>by simp [pBody] at h⟩
 | n+1=>by
  obtain ⟨hL,hN,hB⟩:=mrun_bad ws n
  obtain ⟨sL,sN,sB⟩:=parse_snd ws n
  refine ⟨fun d p out a e q hd h s hs hl=>?_,fun d w p a e q hd k3 k5 h s hs hl=>?_,fun d i w p a e q hd hk h s hs hl=>?_⟩
  ·unfold pList at h
   split at h
   ·cases h
   ·rename_i w hw
    split at h
    ·cases h
    ·rename_i hk
     simp only [Bool.or_eq_true,beq_iff_eq,not_or] at hk
     rw [drop_at hw]
     split at h
     ·cases h
     ·rename_i e1
      cases h
      exact hN _ _ _ _ _ _ hd hk.1 hk.2 e1 s hs hl
     ·rename_i i q1 e1
      obtain ⟨t,a1,a2,a3,_,_⟩:=sN _ _ _ _ _ hd hk.1 hk.2 e1
      simp only at a3
      rw [a3,mrun_ts t s _ a1 (by omega) hs]
      exact hL _ _ _ _ _ _ hd h _ (put_wf hs _ _) (by rw [put_stack];exact hl)
  ·unfold pNode at h
   simp only at h
   split at h
   ·rename_i hk
    simp only [Bool.or_eq_true,beq_iff_eq] at hk
    split at h
    ·rename_i h16
     cases h
     rw [mRun]
     unfold mStep
     rw [if_neg (by simp [k3]),if_neg (by simp [k5]),if_pos (by simp [hl,h16];exact hk)]
    ·rename_i h16
     split at h
     ·cases h
     ·rename_i e1
      cases h
      rw [mRun,step_open hs hk (by omega)]
      exact hB _ _ _ _ _ _ _ (by omega) hk e1 s hs hl
     ·cases h
   ·cases h
  ·unfold pBody at h
   split at h
   ·cases h
   ·rename_i e1
    cases h
    exact hL _ _ _ _ _ _ (by omega) e1 _ (opened_wf hs w) (by rw [opened_len,hl])
   ·rename_i body q1 e1
    obtain ⟨b,b1,b2,b3,b4,b5,b6⟩:=sL _ _ _ _ _ (by omega) e1
    rw [b3,mrun_ts b _ _ b1 (by rw [opened_len];omega) (opened_wf hs w)]
    simp only at h
    split at h
    ·rename_i hn
     cases h
     rw [List.drop_eq_nil_of_le (List.getElem?_eq_none_iff.1 hn),run_end_open]
    ·rename_i v hv
     have hv':=b6 v hv
     rw [drop_at hv]
     split at h
     ·rename_i hk3
      have hk3:v.kind=3:=by simpa using hk3
      split at h
      ·rename_i hk4
       cases h
       have hk4:w.kind=4:=by simpa using hk4
       rw [opened_put,mRun]
       unfold mStep
       rw [if_pos (by simp [hk3])]
       simp only [List.getLast?_append,List.getLast?_singleton,Option.some_or]
       rw [if_pos (by simp [hk4])]
      ·rename_i hk4
       have hk4:w.kind≠4:=by simpa using hk4
       have hk2:w.kind=2:=hk.resolve_right hk4
       rw [mRun,step_else hk2 hk3]
       simp only
       split at h
       ·cases h
       ·rename_i e2
        cases h
        exact hL _ _ _ _ _ _ (by omega) e2 _ (elsed_wf hs w _ _) (by rw [elsed_len,hl])
       ·rename_i els r1 e2
        obtain ⟨c,c1,c2,c3,c4,c5,c6⟩:=sL _ _ _ _ _ (by omega) e2
        simp only at c3
        rw [c3,mrun_ts c _ _ c1 (by rw [elsed_len];omega) (elsed_wf hs w _ _)]
        split at h
        ·rename_i hn
         cases h
         rw [List.drop_eq_nil_of_le (List.getElem?_eq_none_iff.1 hn),run_end_els]
        ·rename_i u hu
         rw [drop_at hu]
         split at h
         ·rename_i hu3
          cases h
          have hu3:u.kind=3:=by simpa using hu3
          rw [elsed_put,mRun]
          unfold mStep
          rw [if_pos (by simp [hu3])]
          simp only [List.getLast?_append,List.getLast?_singleton,Option.some_or]
          rw [if_pos (by simp)]
         ·cases h
     ·cases h
theorem wf0:(⟨[],[],[]⟩:Ms).wf:=fun o ho=>by cases ho
def mTree (ws:List Wd):Mr:=mRun ws ⟨[],[],[]⟩
theorem mtree_ok {ts:Ts} (h:ts.ok) (hd:ts.depth≤16):mTree ts.flat=.ok (mArr 0 ts) (ts.tops 0):=by
 unfold mTree
 have:=mrun_ts ts ⟨[],[],[]⟩ [] h (by simpa using hd) wf0
 rw [List.append_nil] at this
 rw [this,mRun]
 simp [Ms.put,Ms.add]
theorem mtree_bad {ws:List Wd} {a e:Nat} (h:treeOf ws=.bad a e):mTree ws=.bad a e:=by
 obtain ⟨r,q,e1,h1,h2,h3⟩:=(parse_tot ws (3 * ws.length+1)).1 0 ⟨0,[]⟩ [] (Nat.zero_le _) (by simp)
 unfold treeOf at h
 rw [e1] at h
 cases r with
 | bad a' e' =>
  simp only [treeR] at h
  cases h
  have:=(mrun_bad ws _).1 _ _ _ _ _ _ (by omega) e1 ⟨[],[],[]⟩ wf0 rfl
  rwa [List.drop_zero] at this
 | ok top =>
  simp only [treeR] at h
  split at h
  ·rename_i v hv
   cases h
   obtain ⟨ts,g1,g2,g3,g4,g5,g6⟩:=(parse_snd ws _).1 _ _ _ _ _ (by omega) e1
   simp only [List.drop_zero] at g3
   unfold mTree
   rw [g3,mrun_ts ts _ _ g1 (by simpa using g2) wf0,drop_at hv,mRun]
   have hst:((⟨[],[],[]⟩:Ms).put (ts.tops (⟨[],[],[]⟩:Ms).nodes.length) (mArr (⟨[],[],[]⟩:Ms).nodes.length ts)).stack=[]:=put_stack _ _ _
   unfold mStep
   rw [hst]
   rcases g6 v hv with e | e <;> rw [e] <;> rfl
  ·cases h
end R3

namespace R3
open Go Go.Proofs Go.RowKit Go.Shelf Sx
inductive Tg where
 | nodes | top | stack | body (i:Nat) | els (i:Nat)
def Row (W:World) (base:Nat) (tag:Nat→Tg) (T:Tg) (e:TypeId) (k:Nat) (v:Value) (n:Nat) (xs:List Value):Prop:=W.ownsRow base e k v n xs∧∀ g,v.ownBlock=some g→tag g=T
def updT (tag:Nat→Tg) (g:Nat) (T:Tg) (b:Nat):Tg:=if b=g then T else tag b
section
variable {W W':World} {base:Nat} {tag tag':Nat→Tg} {T:Tg} {e:TypeId} {k:Nat} {v:Value} {n:Nat} {xs:List Value}
theorem Row.kept (h:Row W base tag T e k v n xs) {row:Option Nat} (hg:W.grownBy W' row) (hr:∀ g,row=some g→tag g≠T) (ht:∀ b,b < W.heap.size→tag' b=tag b):Row W' base tag' T e k v n xs:=by
 refine ⟨h.1.kept hg ?_,fun g hgv=>?_⟩
 ·cases hv:v.ownBlock with
  | none=>exact .inl rfl
  | some g=>exact .inr fun e=>hr g e.symm (h.2 g hv)
 ·rw [ht g (h.1.lt g hgv).2];exact h.2 g hgv
theorem Row.below (h:Row W base tag T e k v n xs) {a:Addr} (ha:a.block < base) (u:Value):Row (W.setCell a u) base tag T e k v n xs:=⟨ownsRow_setCell_below h.1 ha u,h.2⟩
theorem Row.nil (W:World) (base:Nat) (tag:Nat→Tg) (T:Tg) (e:TypeId) (k:Nat):Row W base tag T e k (.slice none 0 0) 0 []:=⟨World.ownsRow_nil _ _ _ _,fun g h=>by cases h⟩
theorem Row.tags (h:Row W base tag T e k v n xs) {g:Nat} (hat:v.ownBlock=some g∨g=W.heap.size):∀ b,b < W.heap.size→updT tag g T b=tag b:=by
 intro b hb
 unfold updT
 split
 ·rename_i hbg
  subst hbg
  rcases hat with h1 | h1
  ·exact (h.2 b h1).symm
  ·omega
 ·rfl
theorem Row.grown (h:Row W base tag T e k v n xs) {g cap n':Nat} {xs':List Value} (hown:W'.ownsRow base e k (.slice (some ⟨g,0,none⟩) n' cap) n' xs'):Row W' base (updT tag g T) T e k (.slice (some ⟨g,0,none⟩) n' cap) n' xs' :=
 ⟨hown,fun b hb=>by
  have:g=b:=by simpa [Value.ownBlock] using hb
  subst this;unfold updT;rw [if_pos rfl]⟩
theorem Row.rowTag (h:Row W base tag T e k v n xs) {T':Tg} (hne:T≠T'):∀ g,v.ownBlock=some g→tag g≠T':=fun g hg=>by rw [h.2 g hg];exact hne
end
def iv64 (n:Nat):Value:=.int .i64 (n:Int)
def ints (l:List Nat):List Value:=l.map iv64
structure Vn where
 kind:UInt8
 at':Nat
 text:ByteArray
 root:Bool
 nm:Value
 bs:Value
 es:Value
 has:Bool
def Vn.cells (x:Vn):List Value:=[.int .u8 (x.kind.toNat:Int), .int .i64 (x.at':Int), .string x.text, .bool x.root,x.nm,x.bs,x.es, .bool x.has, .int .u8 0]
def opCells (o:Op'):List Value:=[.int .i64 (o.node:Int), .int .i64 (o.kind.toNat:Int), .bool o.els]
structure Lk (w:World) (F:Nat→Prop) (x:Vn) (y:Mn):Prop where
 kind:x.kind=y.kind
 at':x.at'=y.at'
 text:x.text.data.toList=y.text
 root:x.root=y.root
 has:x.has=y.has
 nm:Rel w F y.names x.nm
 one:x.nm.oneCell'=true
 sl:∃ (a:Option Addr) (m c:Nat),x.nm=.slice a m c
structure PM (w:World) (F:Nat→Prop) (b7:Nat) (s:Ms) (X:List Vn) (tag:Nat→Tg) (vn vt vs:Value) (W:World):Prop where
 ext:Ext w W
 b7s:w.heap.size≤b7
 c7:W.heap[b7]?=some (.cells #[vn,vt] 50)
 nd:Row W (b7+1) tag .nodes 61 9 vn X.length (X.flatMap Vn.cells)
 tp:Row W (b7+1) tag .top 3 1 vt s.top.length (ints s.top)
 sk:Row W (b7+1) tag .stack 108 3 vs s.stack.length (s.stack.flatMap opCells)
 len:X.length=s.nodes.length
 lk:∀ (i:Nat) (x:Vn) (y:Mn),X[i]?=some x→s.nodes[i]?=some y→Lk w F x y
 bd:∀ (i:Nat) (x:Vn) (y:Mn),X[i]?=some x→s.nodes[i]?=some y→Row W (b7+1) tag (.body i) 3 1 x.bs y.body.length (ints y.body)∧Row W (b7+1) tag (.els i) 3 1 x.es y.els.length (ints y.els)
theorem ext_one {w W:World} (h:Ext w W) {b:Nat} (hb:w.heap.size≤b) (i:Nat) (v:Value):Ext w (W.setCell ⟨b,i,none⟩ v) :=
 ⟨h.os,h.tape,h.output,by rw [set_size];exact h.size,fun k hk=>(set_other (show k≠b by omega)).trans (h.block k hk)⟩
theorem grown_ext {w W W':World} {row:Option Nat} (h:Ext w W) (hg:W.grownBy W' row) (hr:∀ g,row=some g→w.heap.size≤g):Ext w W' :=
 ⟨hg.os.trans h.os,hg.tape.trans h.tape,hg.output.trans h.output,Nat.le_trans h.size hg.size,fun b hb=>(hg.block b (Nat.lt_of_lt_of_le hb h.size) (fun e=>by have:=hr b e.symm;omega)).trans (h.block b hb)⟩
theorem ext_grown {W W':World} (h:Ext W W') (row:Option Nat):W.grownBy W' row:=⟨h.os,h.tape,h.output,h.size,fun b hb _=>h.block b hb⟩
section
variable {w W W1:World} {F:Nat→Prop} {b7:Nat} {s:Ms} {X:List Vn} {tag:Nat→Tg} {vn vt vs:Value}
theorem PM.lt7 (h:PM w F b7 s X tag vn vt vs W):b7 < W.heap.size:=(Array.getElem?_eq_some_iff.1 h.c7).1
theorem PM.ext' (h:PM w F b7 s X tag vn vt vs W) (hx:Ext W W1):PM w F b7 s X tag vn vt vs W1 where
 ext:=h.ext.trans hx
 b7s:=h.b7s
 c7:=(hx.block _ h.lt7).trans h.c7
 nd:=h.nd.kept (ext_grown hx none) (fun g e=>by cases e) (fun _ _=>rfl)
 tp:=h.tp.kept (ext_grown hx none) (fun g e=>by cases e) (fun _ _=>rfl)
 sk:=h.sk.kept (ext_grown hx none) (fun g e=>by cases e) (fun _ _=>rfl)
 len:=h.len
 lk:=h.lk
 bd:=fun i x y hx' hy=>⟨(h.bd i x y hx' hy).1.kept (ext_grown hx none) (fun g e=>by cases e) (fun _ _=>rfl),(h.bd i x y hx' hy).2.kept (ext_grown hx none) (fun g e=>by cases e) (fun _ _=>rfl)⟩
theorem own_ge7 {base:Nat} {T:Tg} {e:TypeId} {k:Nat} {v:Value} {n:Nat} {xs:List Value} (h:Row W base tag T e k v n xs) {g:Nat} (hg:v.ownBlock=some g):base≤g:=(h.1.lt g hg).1
theorem PM.addTop (h:PM w F b7 s X tag vn vt vs W) {n g cap:Nat} (hg:W.grownBy W1 vt.ownBlock) (hown:W1.ownsRow (b7+1) 3 1 (.slice (some ⟨g,0,none⟩) (s.top.length+1) cap) (s.top.length+1) (ints s.top ++ [iv64 n])) (hat:vt.ownBlock=some g∨g=W.heap.size) :
  ∃ tag',PM w F b7 { s with top:=s.top ++ [n] } X tag' vn (.slice (some ⟨g,0,none⟩) (s.top.length+1) cap) vs (W1.setCell ⟨b7,1,none⟩ (.slice (some ⟨g,0,none⟩) (s.top.length+1) cap)):=by
 have ht:=h.tp.tags hat
 have h7:=h.b7s
 have hge:∀ g,vt.ownBlock=some g→w.heap.size≤g:=fun g e=>by have:=own_ge7 h.tp e;omega
 have hr:∀ {T:Tg},Tg.top≠T→∀ g,vt.ownBlock=some g→tag g≠T:=fun hne=>h.tp.rowTag hne
 have h71:W1.heap[b7]?=some (.cells #[vn,vt] 50):=(hg.block b7 h.lt7 (fun e=>by have:=own_ge7 h.tp e.symm;omega)).trans h.c7
 refine ⟨updT tag g .top,?_,h.b7s,?_,?_,?_,?_,h.len,h.lk,fun i x y hx hy=>?_⟩
 ·exact ext_one (grown_ext h.ext hg hge) h.b7s _ _
 ·exact set_second _ h71
 ·exact (h.nd.kept hg (hr (by simp)) ht).below (by show b7 < b7+1;omega) _
 ·refine Row.below ?_ (by show b7 < b7+1;omega) _
  have:=h.tp.grown hown
  simpa [ints,iv64] using this
 ·exact (h.sk.kept hg (hr (by simp)) ht).below (by show b7 < b7+1;omega) _
 ·exact ⟨((h.bd i x y hx hy).1.kept hg (hr (by simp)) ht).below (by show b7 < b7+1;omega) _,((h.bd i x y hx hy).2.kept hg (hr (by simp)) ht).below (by show b7 < b7+1;omega) _⟩
theorem flat_get9:∀ (X:List Vn) (i j:Nat) (x:Vn),X[i]?=some x→j < 9→(X.flatMap Vn.cells)[i * 9+j]?=x.cells[j]?
 | [],i,j,x,h,_=>by simp at h
 | y :: X,0,j,x,h,hj=>by
  simp at h;subst h
  rw [List.flatMap_cons,List.getElem?_append_left (by show 0 * 9+j < 9;omega),Nat.zero_mul,Nat.zero_add]
 | y :: X,i+1,j,x,h,hj=>by
  have h:X[i]?=some x:=by simpa using h
  rw [List.flatMap_cons,List.getElem?_append_right (by show 9≤(i+1) * 9+j;omega),← flat_get9 X i j x h hj]
  congr 1
  show (i+1) * 9+j - 9=_
  omega
theorem flat_set9:∀ (X:List Vn) (i j:Nat) (x x':Vn) (v:Value),X[i]?=some x→j < 9→x'.cells=x.cells.set j v→(X.set i x').flatMap Vn.cells=(X.flatMap Vn.cells).set (i * 9+j) v
 | [],i,j,x,x',v,h,_,_=>by simp at h
 | y :: X,0,j,x,x',v,h,hj,he=>by
  simp at h;subst h
  simp only [List.set_cons_zero,List.flatMap_cons,he,Nat.zero_mul,Nat.zero_add]
  rw [List.set_append_left _ _ (by show j < 9;exact hj)]
 | y :: X,i+1,j,x,x',v,h,hj,he=>by
  have h:X[i]?=some x:=by simpa using h
  simp only [List.set_cons_succ,List.flatMap_cons]
  rw [List.set_append_right _ _ (by show 9≤(i+1) * 9+j;omega),flat_set9 X i j x x' v h hj he]
  congr 2
  show i * 9+j=(i+1) * 9+j - 9
  omega
theorem modify_get {l:List Mn} {i j:Nat} {f:Mn→Mn} {y:Mn} (h:(l.modify i f)[j]?=some y):∃ z,l[j]?=some z∧y=if i=j then f z else z:=by
 rw [List.getElem?_modify] at h
 obtain ⟨z,hz,rfl⟩:=Option.map_eq_some_iff.1 h
 exact ⟨z,hz,rfl⟩
theorem PM.setNode (h:PM w F b7 s X tag vn vt vs W) {i:Nat} {T0:Tg} (hT0:T0=.body i∨T0=.els i) {row:Option Nat} (hg:W.grownBy W1 row) (hr0:∀ g,row=some g→tag g=T0∧b7+1≤g) {tag':Nat→Tg} (ht:∀ b,b < W.heap.size→tag' b=tag b)
  {gn cn:Nat} (hvn:vn=.slice (some ⟨gn,0,none⟩) X.length cn) {j:Nat} {x x':Vn} {v:Value} (hx:X[i]?=some x) (hj:j < 9) (he:x'.cells=x.cells.set j v) {f:Mn→Mn}
  (hl:∀ y,s.nodes[i]?=some y→Lk w F x' (f y)) (hb:∀ y,s.nodes[i]?=some y→Row W1 (b7+1) tag' (.body i) 3 1 x'.bs (f y).body.length (ints (f y).body)∧Row W1 (b7+1) tag' (.els i) 3 1 x'.es (f y).els.length (ints (f y).els)) :
  PM w F b7 { s with nodes:=s.nodes.modify i f } (X.set i x') tag' vn vt vs (W1.setCell ⟨gn,i * 9+j,none⟩ v):=by
 subst hvn
 have hro:∀ {T:Tg},T0≠T→∀ g,row=some g→tag g≠T:=fun hne g e=>by rw [(hr0 g e).1];exact hne
 have n1:T0≠.nodes:=by rcases hT0 with e | e <;> rw [e] <;> simp
 have n2:T0≠.top:=by rcases hT0 with e | e <;> rw [e] <;> simp
 have n3:T0≠.stack:=by rcases hT0 with e | e <;> rw [e] <;> simp
 have n4:∀ q,i≠q→T0≠.body q:=fun q hq=>by rcases hT0 with e | e <;> rw [e] <;> simp [hq]
 have n5:∀ q,i≠q→T0≠.els q:=fun q hq=>by rcases hT0 with e | e <;> rw [e] <;> simp [hq]
 have nd1:=h.nd.kept hg (hro n1) ht
 have htag:tag' gn=.nodes:=nd1.2 gn rfl
 have hge:b7+1≤gn:=own_ge7 nd1 rfl
 obtain ⟨st1,st2⟩:=nd1.1.stored (i * 9+j) v
 have h7:=h.b7s
 have hr:∀ {T:Tg},Tg.nodes≠T→∀ g,some gn=some g→tag' g≠T:=fun hne g e=>by cases e;rw [htag];exact hne
 have h71:W1.heap[b7]?=some (.cells #[.slice (some ⟨gn,0,none⟩) X.length cn,vt] 50):=(hg.block b7 h.lt7 (fun e=>by have:=(hr0 b7 e.symm).2;omega)).trans h.c7
 have hlt1:b7 < W1.heap.size:=Nat.lt_of_lt_of_le h.lt7 hg.size
 refine ⟨grown_ext (grown_ext h.ext hg (fun g e=>by have:=(hr0 g e).2;omega)) st2 (fun g e=>by cases e;omega),h.b7s,(st2.block b7 hlt1 (by simp;omega)).trans h71,?_,(h.tp.kept hg (hro n2) ht).kept st2 (hr (by simp)) (fun _ _=>rfl),(h.sk.kept hg (hro n3) ht).kept st2 (hr (by simp)) (fun _ _=>rfl),by rw [List.length_set,List.length_modify];exact h.len,?_,?_⟩
 ·rw [List.length_set,flat_set9 X i j x x' v hx hj he]
  exact ⟨st1,nd1.2⟩
 ·intro q xq yq hxq hyq
  obtain ⟨z,hz,rfl⟩:=modify_get hyq
  by_cases hiq:i=q
  ·subst hiq
   have hlt:=(List.getElem?_eq_some_iff.1 hx).1
   rw [List.getElem?_set_self hlt] at hxq
   cases hxq
   rw [if_pos rfl]
   exact hl z hz
  ·rw [List.getElem?_set_ne hiq] at hxq
   rw [if_neg hiq]
   exact h.lk q xq z hxq hz
 ·intro q xq yq hxq hyq
  obtain ⟨z,hz,rfl⟩:=modify_get hyq
  by_cases hiq:i=q
  ·subst hiq
   have hlt:=(List.getElem?_eq_some_iff.1 hx).1
   rw [List.getElem?_set_self hlt] at hxq
   cases hxq
   rw [if_pos rfl]
   obtain ⟨q1,q2⟩:=hb z hz
   exact ⟨q1.kept st2 (hr (by simp)) (fun _ _=>rfl),q2.kept st2 (hr (by simp)) (fun _ _=>rfl)⟩
  ·rw [List.getElem?_set_ne hiq] at hxq
   rw [if_neg hiq]
   obtain ⟨q1,q2⟩:=h.bd q xq z hxq hz
   exact ⟨(q1.kept hg (hro (n4 q hiq)) ht).kept st2 (hr (by simp)) (fun _ _=>rfl),(q2.kept hg (hro (n5 q hiq)) ht).kept st2 (hr (by simp)) (fun _ _=>rfl)⟩
theorem ints_snoc (l:List Nat) (n:Nat):ints (l ++ [n])=ints l ++ [iv64 n]:=by simp [ints]
theorem PM.addBody (h:PM w F b7 s X tag vn vt vs W) {gn cn i n g cap:Nat} (hvn:vn=.slice (some ⟨gn,0,none⟩) X.length cn) {x:Vn} {y:Mn} (hx:X[i]?=some x) (hy:s.nodes[i]?=some y) (hg:W.grownBy W1 x.bs.ownBlock)
  (hown:W1.ownsRow (b7+1) 3 1 (.slice (some ⟨g,0,none⟩) (y.body.length+1) cap) (y.body.length+1) (ints y.body ++ [iv64 n])) (hat:x.bs.ownBlock=some g∨g=W.heap.size) :
  ∃ X' tag',PM w F b7 { s with nodes:=s.nodes.modify i fun y=>{ y with body:=y.body ++ [n] } } X' tag' vn vt vs (W1.setCell ⟨gn,i * 9+5,none⟩ (.slice (some ⟨g,0,none⟩) (y.body.length+1) cap)):=by
 obtain ⟨b1,b2⟩:=h.bd i x y hx hy
 refine ⟨X.set i { x with bs:=.slice (some ⟨g,0,none⟩) (y.body.length+1) cap },updT tag g (.body i),h.setNode (T0:=.body i) (.inl rfl) hg (fun q e=>⟨b1.2 q e,own_ge7 b1 e⟩) (b1.tags hat) hvn hx (by decide) rfl (fun z hz=>?_) (fun z hz=>?_)⟩
 ·have:=h.lk i x z hx hz
  exact ⟨this.kind,this.at',this.text,this.root,this.has,this.nm,this.one,this.sl⟩
 ·rw [hy] at hz;cases hz
  refine ⟨?_,b2.kept hg (b1.rowTag (by simp)) (b1.tags hat)⟩
  have:=b1.grown hown
  simp only [ints_snoc,List.length_append,List.length_cons,List.length_nil]
  exact this
theorem PM.addEls (h:PM w F b7 s X tag vn vt vs W) {gn cn i n g cap:Nat} (hvn:vn=.slice (some ⟨gn,0,none⟩) X.length cn) {x:Vn} {y:Mn} (hx:X[i]?=some x) (hy:s.nodes[i]?=some y) (hg:W.grownBy W1 x.es.ownBlock)
  (hown:W1.ownsRow (b7+1) 3 1 (.slice (some ⟨g,0,none⟩) (y.els.length+1) cap) (y.els.length+1) (ints y.els ++ [iv64 n])) (hat:x.es.ownBlock=some g∨g=W.heap.size) :
  ∃ X' tag',PM w F b7 { s with nodes:=s.nodes.modify i fun y=>{ y with els:=y.els ++ [n] } } X' tag' vn vt vs (W1.setCell ⟨gn,i * 9+6,none⟩ (.slice (some ⟨g,0,none⟩) (y.els.length+1) cap)):=by
 obtain ⟨b1,b2⟩:=h.bd i x y hx hy
 refine ⟨X.set i { x with es:=.slice (some ⟨g,0,none⟩) (y.els.length+1) cap },updT tag g (.els i),h.setNode (T0:=.els i) (.inr rfl) hg (fun q e=>⟨b2.2 q e,own_ge7 b2 e⟩) (b2.tags hat) hvn hx (by decide) rfl (fun z hz=>?_) (fun z hz=>?_)⟩
 ·have:=h.lk i x z hx hz
  exact ⟨this.kind,this.at',this.text,this.root,this.has,this.nm,this.one,this.sl⟩
 ·rw [hy] at hz;cases hz
  refine ⟨b1.kept hg (b2.rowTag (by simp)) (b2.tags hat),?_⟩
  have:=b2.grown hown
  simp only [ints_snoc,List.length_append,List.length_cons,List.length_nil]
  exact this
theorem grown_refl (W:World):W.grownBy W none:=⟨rfl,rfl,rfl,Nat.le_refl _,fun _ _ _=>rfl⟩
theorem PM.setHas (h:PM w F b7 s X tag vn vt vs W) {gn cn i:Nat} (hvn:vn=.slice (some ⟨gn,0,none⟩) X.length cn) {x:Vn} (hx:X[i]?=some x) :
  ∃ X',PM w F b7 { s with nodes:=s.nodes.modify i fun y=>{ y with has:=true } } X' tag vn vt vs (W.setCell ⟨gn,i * 9+7,none⟩ (.bool true)):=by
 refine ⟨X.set i { x with has:=true },h.setNode (T0:=.body i) (.inl rfl) (grown_refl W) (fun q e=>by cases e) (fun _ _=>rfl) hvn hx (by decide) rfl (fun z hz=>?_) (fun z hz=>h.bd i x z hx hz)⟩
 have:=h.lk i x z hx hz
 exact ⟨this.kind,this.at',this.text,this.root,rfl,this.nm,this.one,this.sl⟩
theorem PM.addNode (h:PM w F b7 s X tag vn vt vs W) {g cap:Nat} {x:Vn} {y:Mn} (hg:W.grownBy W1 vn.ownBlock) (hown:W1.ownsRow (b7+1) 61 9 (.slice (some ⟨g,0,none⟩) (X.length+1) cap) (X.length+1) (X.flatMap Vn.cells ++ x.cells)) (hat:vn.ownBlock=some g∨g=W.heap.size)
  (hl:Lk w F x y) (hb:x.bs=.slice none 0 0) (he:x.es=.slice none 0 0) (yb:y.body=[]) (ye:y.els=[]) :
  ∃ tag',PM w F b7 { s with nodes:=s.nodes ++ [y] } (X ++ [x]) tag' (.slice (some ⟨g,0,none⟩) (X.length+1) cap) vt vs (W1.setCell ⟨b7,0,none⟩ (.slice (some ⟨g,0,none⟩) (X.length+1) cap)):=by
 have ht:=h.nd.tags hat
 have h7:=h.b7s
 have hge:∀ g,vn.ownBlock=some g→w.heap.size≤g:=fun g e=>by have:=own_ge7 h.nd e;omega
 have hr:∀ {T:Tg},Tg.nodes≠T→∀ g,vn.ownBlock=some g→tag g≠T:=fun hne=>h.nd.rowTag hne
 have h71:W1.heap[b7]?=some (.cells #[vn,vt] 50):=(hg.block b7 h.lt7 (fun e=>by have:=own_ge7 h.nd e.symm;omega)).trans h.c7
 refine ⟨updT tag g .nodes,ext_one (grown_ext h.ext hg hge) h.b7s _ _,h.b7s,?_,?_,(h.tp.kept hg (hr (by simp)) ht).below (by show b7 < b7+1;omega) _,(h.sk.kept hg (hr (by simp)) ht).below (by show b7 < b7+1;omega) _,by rw [List.length_append,List.length_append,h.len];rfl,fun i x' y' hx hy=>?_,fun i x' y' hx hy=>?_⟩
 ·obtain ⟨hlt,hk⟩:=Array.getElem?_eq_some_iff.1 h71
  show (W1.heap.modify b7 _)[b7]?=_
  rw [Array.getElem?_eq_getElem (by rw [Array.size_modify];exact hlt),Array.getElem_modify_self,hk]
  rfl
 ·refine Row.below ?_ (by show b7 < b7+1;omega) _
  have:=h.nd.grown hown
  rw [List.length_append,List.flatMap_append]
  simpa using this
 ·by_cases hi:i < X.length
  ·rw [List.getElem?_append_left hi] at hx
   rw [List.getElem?_append_left (by rw [← h.len];exact hi)] at hy
   exact h.lk i x' y' hx hy
  ·rw [List.getElem?_append_right (by omega)] at hx
   rw [List.getElem?_append_right (by rw [← h.len];omega),← h.len] at hy
   generalize i - X.length=k at hx hy
   cases k with
   | zero=>simp at hx hy;subst hx hy;exact hl
   | succ k=>simp at hx
 ·by_cases hi:i < X.length
  ·rw [List.getElem?_append_left hi] at hx
   rw [List.getElem?_append_left (by rw [← h.len];exact hi)] at hy
   obtain ⟨q1,q2⟩:=h.bd i x' y' hx hy
   exact ⟨(q1.kept hg (hr (by simp)) ht).below (by show b7 < b7+1;omega) _,(q2.kept hg (hr (by simp)) ht).below (by show b7 < b7+1;omega) _⟩
  ·rw [List.getElem?_append_right (by omega)] at hx
   rw [List.getElem?_append_right (by rw [← h.len];omega),← h.len] at hy
   generalize i - X.length=k at hx hy
   cases k with
   | zero=>simp at hx hy;subst hx hy;rw [hb,he,yb,ye];exact ⟨Row.nil _ _ _ _ _ _,Row.nil _ _ _ _ _ _⟩
   | succ k=>simp at hx
theorem PM.push (h:PM w F b7 s X tag vn vt vs W) {g cap:Nat} {o:Op'} (hg:W.grownBy W1 vs.ownBlock) (hown:W1.ownsRow (b7+1) 108 3 (.slice (some ⟨g,0,none⟩) (s.stack.length+1) cap) (s.stack.length+1) (s.stack.flatMap opCells ++ opCells o)) (hat:vs.ownBlock=some g∨g=W.heap.size) :
  ∃ tag',PM w F b7 { s with stack:=s.stack ++ [o] } X tag' vn vt (.slice (some ⟨g,0,none⟩) (s.stack.length+1) cap) W1:=by
 have ht:=h.sk.tags hat
 have h7:=h.b7s
 have hge:∀ g,vs.ownBlock=some g→w.heap.size≤g:=fun g e=>by have:=own_ge7 h.sk e;omega
 have hr:∀ {T:Tg},Tg.stack≠T→∀ g,vs.ownBlock=some g→tag g≠T:=fun hne=>h.sk.rowTag hne
 refine ⟨updT tag g .stack,grown_ext h.ext hg hge,h.b7s,(hg.block b7 h.lt7 (fun e=>by have:=own_ge7 h.sk e.symm;omega)).trans h.c7,h.nd.kept hg (hr (by simp)) ht,h.tp.kept hg (hr (by simp)) ht,?_,h.len,h.lk,fun i x y hx hy=>?_⟩
 ·have:=h.sk.grown hown
  rw [List.length_append,List.flatMap_append]
  simpa using this
 ·obtain ⟨q1,q2⟩:=h.bd i x y hx hy
  exact ⟨q1.kept hg (hr (by simp)) ht,q2.kept hg (hr (by simp)) ht⟩
theorem flat_len3:∀ S:List Op',(S.flatMap opCells).length=S.length * 3
 | []=>rfl
 | x :: S=>by
  have:=flat_len3 S
  simp only [List.flatMap_cons,List.length_append,List.length_cons,this]
  show 3+_=_
  omega
theorem PM.pop {S:List Op'} {o:Op'} {g cap:Nat} {N T:_} (h:PM w F b7 ⟨N,T,S ++ [o]⟩ X tag vn vt (.slice (some ⟨g,0,none⟩) (S.length+1) cap) W):PM w F b7 ⟨N,T,S⟩ X tag vn vt (.slice (some ⟨g,0,none⟩) S.length cap) W:=by
 refine ⟨h.ext,h.b7s,h.c7,h.nd,h.tp,⟨?_,fun b hb=>h.sk.2 b hb⟩,h.len,h.lk,h.bd⟩
 have:=h.sk.1
 simp only [List.length_append,List.length_cons,List.length_nil,List.flatMap_append,List.flatMap_cons,List.flatMap_nil,List.append_nil] at this
 exact ownsRow_pop (flat_len3 S) this
theorem PM.setEls {S:List Op'} {o:Op'} {g cap:Nat} {N T:_} (h:PM w F b7 ⟨N,T,S ++ [o]⟩ X tag vn vt (.slice (some ⟨g,0,none⟩) (S.length+1) cap) W):PM w F b7 ⟨N,T,S ++ [{ o with els:=true }]⟩ X tag vn vt (.slice (some ⟨g,0,none⟩) (S.length+1) cap) (W.setCell ⟨g,S.length * 3+2,none⟩ (.bool true)):=by
 have hs:=h.sk.1
 simp only [List.length_append,List.length_cons,List.length_nil,List.flatMap_append,List.flatMap_cons,List.flatMap_nil,List.append_nil] at hs
 obtain ⟨st1,st2⟩:=hs.stored (S.length * 3+2) (.bool true)
 have htag:tag g=.stack:=h.sk.2 g rfl
 have hge:b7+1≤g:=own_ge7 h.sk rfl
 have h7:=h.b7s
 have hr:∀ {T:Tg},Tg.stack≠T→∀ q,some g=some q→tag q≠T:=fun hne q e=>by cases e;rw [htag];exact hne
 refine ⟨grown_ext h.ext st2 (fun q e=>by cases e;omega),h.b7s,(st2.block b7 h.lt7 (by simp;omega)).trans h.c7,h.nd.kept st2 (hr (by simp)) (fun _ _=>rfl),h.tp.kept st2 (hr (by simp)) (fun _ _=>rfl),⟨?_,fun q e=>h.sk.2 q e⟩,h.len,h.lk,fun i x y hx hy=>?_⟩
 ·rw [List.set_append_right _ _ (by rw [flat_len3];omega),flat_len3,show S.length * 3+2 - S.length * 3=2 by omega] at st1
  simp only [List.length_append,List.length_cons,List.length_nil,List.flatMap_append,List.flatMap_cons,List.flatMap_nil,List.append_nil]
  exact st1
 ·obtain ⟨q1,q2⟩:=h.bd i x y hx hy
  exact ⟨q1.kept st2 (hr (by simp)) (fun _ _=>rfl),q2.kept st2 (hr (by simp)) (fun _ _=>rfl)⟩
end
end R3

namespace R3
open Go Go.Proofs Go.RowKit Go.Shelf Sx
variable {mx:Int}
theorem info3:(Tryd.prog.info? 3).map (fun i=>(i.zero,i.size,i.bytes))=some (some (.int .i64 0),1,8):=by kernel_rfl
theorem row_len {W:World} {base:Nat} {e:TypeId} {size:Nat} {v:Value} {k:Nat} {xs:List Value} (h:W.ownsRow base e size v k xs):∃ (ad:Option Addr) (c:Nat),v=.slice ad k c:=by
 rcases h.2 with ⟨rfl,h0⟩ | ⟨g,cap,_,rfl,_⟩
 ·exact ⟨none,0,by rw [h0]⟩
 ·exact ⟨_,_,rfl⟩
theorem new1 (W:World) (v:Value) (t:TypeId):∀ j u,[v][j]?=some u→(W.alloc (.cells #[v] t)).cell? ((⟨W.heap.size,0,none⟩:Addr).add j)=some u:=fun j u hu=>World.news_of_block (cs := #[v]) (World.alloc_heap_new W _) j u (by simpa using hu)
def Apart (X:List Vn) (b7:Nat) (vn vt:Value) (b:Nat):Prop:=b≠b7∧vn.ownBlock≠some b∧vt.ownBlock≠some b∧∀ x ∈ X,x.bs.ownBlock≠some b∧x.es.ownBlock≠some b
def AddPost (w:World) (F:Nat→Prop) (b7:Nat) (s:Ms) (vs:Value) (X:List Vn) (vn vt:Value) (W:World) (e:Ending) (W':World):Prop :=
 e=.returned (.tuple #[])∧(∃ X' tag' vn' vt',PM w F b7 s X' tag' vn' vt' vs W')∧∀ b,b < W.heap.size→Apart X b7 vn vt b→W'.heap[b]?=W.heap[b]?
theorem results63 (T:Array Value) (W:World):(results Tryd.f63 T).run Tryd.prog W=.ok (.tuple #[]) W:=by
 have hr:Tryd.f63.results = #[]:=by kernel_rfl
 unfold results
 rw [hr]
 simp [Sem.run_bind,Result.andThen]
set_option maxRecDepth 100000 in
set_option maxHeartbeats 4000000 in
theorem add_top {w W:World} {F:Nat→Prop} {b7:Nat} {N:List Mn} {T:List Nat} {X:List Vn} {tag:Nat→Tg} {vn vt vs:Value} (h:PM w F b7 ⟨N,T,[]⟩ X tag vn vt vs W) {n:Nat} (hT:T.length≤1000000) :
  CallsIn Fence.wide 6 Tryd.prog 63 #[.pointer (some ⟨b7,0,none⟩),vs, .int .i64 (n:Int)] W (AddPost w F b7 ⟨N,T ++ [n],[]⟩ vs X vn vt W):=by
 obtain ⟨ads,cs,rfl⟩:=row_len h.sk.1
 obtain ⟨adt,ct,rfl⟩:=row_len h.tp.1
 simp only [List.length_nil] at *
 obtain ⟨i0,hi9,hz0,hz1,hz2⟩:=info_parts info3
 have h1:=h.ext' (Ext.push W (.cells #[.int .i64 (n:Int)] 3))
 obtain ⟨v1,v2,v3,v4⟩:=cell2 h.c7
 have hlt:=h.lt7
 refine callsIn_of_wp Tryd.func63 rfl trivial ?_ rfl
 simp only [Tryd.ntmps63,List.size_toArray,List.length_cons,List.length_nil,Nat.reduceAdd,Nat.reduceSub,Array.replicate_succ,Array.replicate_zero,List.push_toArray,List.append_toArray,List.nil_append,List.cons_append]
 gi_wp2_with (gi_at_builtin;refine wpListIn_append_own_at _ rfl _ _ 48 rfl (b7+1) 3 i0 _ 1 8 Tryd.underlying48 hi9 hz0 hz1 hz2 rfl (by decide) (.slice adt T.length ct) T.length (ints T) rfl h1.tp.1 ⟨W.heap.size,0,none⟩ 1 1 [.int .i64 (n:Int)] rfl rfl (new1 _ _ _) (by simp [Value.oneCell']) (by have:Go.maxLen=9223372036854775807:=rfl;omega) (by omega) (by simp;omega) ?_;intro v' w5 hown' hgrow _ hv';obtain ⟨g',cap',rfl⟩:=ownsRow_succ hown';obtain ⟨tag',hpm⟩:=h1.addTop (n:=n) hgrow hown' (by rcases hv' with e | e;exact .inl (by rw [← e];rfl);exact .inr (by simpa [Value.ownBlock] using e));have h71:w5.heap[b7]?=some (.cells #[vn, .slice adt T.length ct] 50):=(hgrow.block b7 h1.lt7 (fun e=>by have:=own_ge7 h1.tp e.symm;omega)).trans h1.c7;obtain ⟨y1,y2,y3,y4⟩:=cell2 h71)
 refine bodyPost_ret (results63 _ _) rfl ?_
 exact ⟨rfl,⟨_,_,_,_,hpm⟩,fun b hb hap=>(set_other hap.1).trans ((hgrow.block b (by simp;omega) (fun e=>hap.2.2.1 e.symm)).trans (al_old' hb))⟩
end R3

namespace R3
open Go Go.RowKit Sx
section
variable {P:Program} {ops:Array Oper} {nc:List Nat} {Q:Exit→Act→World→Prop} {E:World→World→Prop}
def quiet (nc:List Nat) (i:Nat):Bool:=!(nc.any (Nat.beq i))
def stepQ (P:Program) (ops:Array Oper) (nc:List Nat) (Q:Exit→Act→World→Prop) (E:World→World→Prop) (p:Nat×Bool) (N:Act→World→Prop) (a:Act) (w:World):Prop :=
 if p.2=true then ∃ oi v,ops[p.1]?=some oi∧YieldsIf P ops (E w) oi v a∧N (a.put oi.dst v) w
 else wpOp P ops Q p.1 (fun a' w'=>(quiet nc p.1=true→E w w')∧N a' w') a w
def wpQ (P:Program) (ops:Array Oper) (nc:List Nat) (Q:Exit→Act→World→Prop) (E:World→World→Prop):List (Nat×Bool)→(Act→World→Prop)→Act→World→Prop
 | [],N,a,w=>N a w
 | p :: r,N,a,w=>stepQ P ops nc Q E p (wpQ P ops nc Q E r N) a w
def AnyQ (P:Program) (ops:Array Oper) (nc:List Nat) (Q:Exit→Act→World→Prop) (E:World→World→Prop):Nat→Array Bool→Act→World→Prop
 | 0,done,a,w=>Region.ready .any ops done=[]∧Q .normal a w
 | m+1,done,a,w=>(Region.ready .any ops done=[]→Q .normal a w)∧∀ i ∈ Region.ready .any ops done,wpOp P ops Q i (fun a' w'=>(quiet nc i=true→E w w')∧AnyQ P ops nc Q E m (done.setIfInBounds i true) a' w') a w
theorem AnyQ.any:∀ (m:Nat) {done:Array Bool} {a:Act} {w:World},AnyQ P ops nc Q E m done a w→wpAny P .any ops Q m done a w
 | 0,_,_,_,h=>h
 | m+1,_,_,_,h=>⟨h.1,fun i hi=>wpOp_mono (fun _ _ hh=>AnyQ.any m hh.2) (h.2 i hi)⟩
theorem AnyQ.take {S:World→World→Prop} (hr:∀ w,E w w) (hES:∀ u v,E u v→S u v) (ht:∀ u v w,S u v→S v w→S u w) (hQ:∀ c a w,¬ Q (.panic c) a w) (hns:Region.noSelect ops=true) {i:Nat} {oi:Oper} {v:Value} (hi:ops[i]?=some oi):∀ (m:Nat) {done:Array Bool} {a:Act} {w:World},
  (∀ (j:Nat) (oj:Oper),ops[j]?=some oj→j≠i→done.getD j true=false→(∀ e ∈ oj.after,Region.binds .any e=true→e.on≠i)→oi.apart ops oj=true)→i ∈ Region.ready .any ops done→Closed ops done→((∀ u v,S u v)∨∀ j,j < ops.size→j≠i→done.getD j true=false→quiet nc j=true∨behind ops i ops.size j=true)→YieldsIf P ops (S w) oi v a →
  AnyQ P ops nc Q E m (done.setIfInBounds i true) (a.put oi.dst v) w→AnyQ P ops nc Q E (m+1) done a w:=by
 have sel:=Region.noSelect_spec hns
 intro m
 induction m with
 | zero =>
  intro done a w _ hrdy _ _ hy h
  constructor
  ·intro e;rw [e] at hrdy;cases hrdy
  ·intro j hj
   rcases Nat.decEq j i with hne | rfl
   ·have:=ready_mono hj hne;rw [h.1] at this;cases this
   ·exact hy.wpOp hi (hES _ _ (hr w)) ⟨fun _=>hr w,h⟩
 | succ m ih =>
  intro done a w hap hrdy hcl hcalm hy h
  constructor
  ·intro e;rw [e] at hrdy;cases hrdy
  ·intro j hj
   rcases Nat.decEq j i with hne | rfl
   ·obtain ⟨hjd,oj,hoj,hdeps⟩:=mem_ready.1 hj
    have hid:=(mem_ready.1 hrdy).1
    have hwait:∀ e ∈ oj.after,Region.binds .any e=true→e.on≠i:=by
     intro e he hb heq
     have hd:=hdeps e he hb
     rw [heq] at hd
     by_cases hlt:i < done.size
     ·simp [hlt] at hid hd;rw [hid] at hd;cases hd
     ·simp [hlt] at hd
    have hjlt:j < ops.size:=(Array.getElem?_eq_some_iff.1 hoj).1
    have hjcalm:∀ w',(quiet nc j=true→E w w')→S w w':=by
     intro w' hE
     rcases hcalm with hc | hcalm
     ·exact hc _ _
     ·rcases hcalm j hjlt hne hjd with hc | hb
      ·exact hES _ _ (hE hc)
      ·exfalso
       have:=behind_done hcl ops.size j (fun o ho=>by rw [hoj] at ho;cases ho;exact hdeps) hb
       by_cases hlt:i < done.size
       ·simp [hlt] at hid this;rw [hid] at this;cases this
       ·simp [hlt] at this
    have hh:=wpOp_putIf hoj (hap j oj hoj hne hjd hwait) (fun cs b=>sel i oi cs b hi) (fun cs b=>sel j oj cs b hoj) (fun c a w hc=>absurd hc (hQ c _ w)) hy (h.2 j (ready_mono hj hne))
    refine wpOp_mono (fun a' w' ⟨hy',hE,hrest⟩=>⟨hE,ih ?_ (ready_mono hrdy (Ne.symm hne)) (hcl.set hj) ?_ ?_ ?_⟩) hh
    ·intro k ok hk hki hkd hkw
     refine hap k ok hk hki ?_ hkw
     by_cases hjk:j=k
     ·subst hjk;exact hjd
     ·rwa [getD_set_ne true hjk] at hkd
    ·rcases hcalm with hc | hcalm
     ·exact .inl hc
     ·refine .inr fun k hk hki hkd=>hcalm k hk hki ?_
      by_cases hjk:j=k
      ·subst hjk;exact hjd
      ·rwa [getD_set_ne true hjk] at hkd
    ·rcases hy' with ⟨q1,q2⟩ | q
     ·exact .inl ⟨q1,fun u hu=>q2 u (ht w w' u (hjcalm w' hE) hu)⟩
     ·exact .inr q
    ·rw [Array.setIfInBounds_comm _ _ hne]
     exact hrest
   ·exact hy.wpOp hi (hES _ _ (hr w)) ⟨fun _=>hr w,h⟩
def planQ (ops:Array Oper) (nc:List Nat) (k:Array Bool→Bool):Array Bool→List (Nat×Bool)→Bool
 | listed,[]=>k listed
 | listed,p :: r=>(bif p.2 then Region.free .any ops listed p.1 && (Region.ready .any ops listed).contains p.1 && ((List.range ops.size).all fun j=>Nat.beq j p.1 || listed.getD j true || quiet nc j || behind ops p.1 ops.size j) else decide (Region.ready .any ops listed=[p.1])) && planQ ops nc k (listed.setIfInBounds p.1 true) r
theorem anyQ_of_wpQ (hr:∀ w,E w w) (ht:∀ u v w,E u v→E v w→E u w) (hs:Region.noSelect ops=true) (hQ:∀ c a w,¬ Q (.panic c) a w) {k:Array Bool→Bool} {N:Act→World→Prop} {m:Nat}
  (hN:∀ (listed:Array Bool) (a:Act) (w:World),Closed ops listed→k listed=true→N a w→AnyQ P ops nc Q E m listed a w):∀ (l:List (Nat×Bool)) (listed:Array Bool) (a:Act) (w:World),Closed ops listed→planQ ops nc k listed l=true →
  wpQ P ops nc Q E l N a w→AnyQ P ops nc Q E (l.length+m) listed a w
 | [],listed,a,w,hcl,hp,h=>by
  rw [List.length_nil,Nat.zero_add]
  exact hN listed a w hcl hp h
 | (i,tk) :: r,listed,a,w,hcl,hp,h=>by
  simp only [planQ,Bool.and_eq_true] at hp
  have h':stepQ P ops nc Q E (i,tk) (wpQ P ops nc Q E r N) a w:=h
  unfold stepQ at h'
  rw [List.length_cons,show r.length+1+m=(r.length+m)+1 by omega]
  cases tk with
  | true =>
   rw [if_pos rfl] at h'
   obtain ⟨oi,v,hi,hy,hn⟩:=h'
   simp only [cond_true,Bool.and_eq_true] at hp
   have hrdy:i ∈ Region.ready .any ops listed:=by simpa using hp.1.1.2
   have hrest:=anyQ_of_wpQ hr ht hs hQ hN r _ _ _ (hcl.set hrdy) hp.2 hn
   refine AnyQ.take hr (fun _ _ h=>h) ht hQ hs hi (r.length+m) (Region.free_spec hi hp.1.1.1) hrdy hcl (.inr fun j hj hne hun=>?_) hy hrest
   have:=List.all_eq_true.1 hp.1.2 j (List.mem_range.2 hj)
   rw [Bool.or_eq_true,Bool.or_eq_true,Bool.or_eq_true] at this
   rcases this with ((h1 | h1) | h1) | h1
   ·exact absurd (Nat.eq_of_beq_eq_true h1) hne
   ·rw [hun] at h1;cases h1
   ·exact .inl h1
   ·exact .inr h1
  | false =>
   rw [if_neg (by simp)] at h'
   simp only [cond_false,decide_eq_true_eq] at hp
   refine ⟨fun e=>(by rw [hp.1] at e;cases e),fun j hj=>?_⟩
   rw [hp.1] at hj
   have:j=i:=by simpa using hj
   subst this
   exact wpOp_mono (fun a' w' hh=>⟨hh.1,anyQ_of_wpQ hr ht hs hQ hN r _ _ _ (hcl.set (by rw [hp.1];simp)) hp.2 hh.2⟩) h'
theorem wp_region_plan {id:Nat} {a:Act} {w:World} (hm:P.follows .mixedOrders=true) (nc:List Nat) (E:World→World→Prop) (l:List (Nat×Bool))
  (hp:planQ ops nc (fun listed=>(Region.ready .any ops listed).isEmpty) (Array.replicate ops.size false) l=true) (hlen:Nat.beq l.length ops.size=true) (hs:Region.noSelect ops=true)
  (hr:∀ w,E w w) (ht:∀ u v w,E u v→E v w→E u w)
  (h:wpQ P ops nc (NoPanic Q) E l (fun a w=>Q .normal a w) a w.drew):(Code.region id ops true).wp P Q a w:=by
 refine wp_region_noPanic ?_
 refine wp_region_any hm ?_
 have hl:=Nat.eq_of_beq_eq_true hlen
 have key:=anyQ_of_wpQ (m:=0) hr ht hs (fun _ _ _ h=>h) (fun listed a w hcl hk hn=>⟨by simpa using hk,hn⟩) l (Array.replicate ops.size false) a _
  (fun j o hj=>by
   simp [Array.getD] at hj) hp h
 rw [Nat.add_zero,hl] at key
 exact AnyQ.any _ key
theorem wpQ_take {i:Nat} {o:Oper} {v:Value} {r:List (Nat×Bool)} {N:Act→World→Prop} {a:Act} {w:World} (hi:ops[i]?=some o) (hw:Region.wanted o (yielded ops a.tmps)=true)
  (hv:∀ w',E w w'→(execOp a.eval o).run P w'=.ok (.value v) w') (h:wpQ P ops nc Q E r N (a.put o.dst v) w):wpQ P ops nc Q E ((i,true) :: r) N a w:=by
 show stepQ P ops nc Q E (i,true) (wpQ P ops nc Q E r N) a w
 unfold stepQ
 rw [if_pos rfl]
 exact ⟨o,v,hi, .inl ⟨hw,hv⟩,h⟩
theorem wpQ_go {i:Nat} {o:Oper} {r:List (Nat×Bool)} {N:Act→World→Prop} {a:Act} {w:World} (hi:ops[i]?=some o)
  (h:∀ K':Act→World→Prop,Shut (∀ a' w',E w w'→wpQ P ops nc Q E r N a' w'→K' a' w')→if Region.wanted o (yielded ops a.tmps)=true then Oper.wp P o a w K' Q else K' (a.put o.dst undef) w):wpQ P ops nc Q E ((i,false) :: r) N a w:=by
 show stepQ P ops nc Q E (i,false) (wpQ P ops nc Q E r N) a w
 unfold stepQ
 rw [if_neg (by simp)]
 exact wpOp_step hi fun K' hK=>h K' fun a' w' hE hl=>hK a' w' ⟨fun _=>hE,hl⟩
theorem wpQ_wild {i:Nat} {o:Oper} {r:List (Nat×Bool)} {N:Act→World→Prop} {a:Act} {w:World} (hi:ops[i]?=some o) (hc:quiet nc i=false)
  (h:∀ K':Act→World→Prop,Shut (∀ a' w',wpQ P ops nc Q E r N a' w'→K' a' w')→if Region.wanted o (yielded ops a.tmps)=true then Oper.wp P o a w K' Q else K' (a.put o.dst undef) w):wpQ P ops nc Q E ((i,false) :: r) N a w:=by
 show stepQ P ops nc Q E (i,false) (wpQ P ops nc Q E r N) a w
 unfold stepQ
 rw [if_neg (by simp)]
 exact wpOp_step hi fun K' hK=>h K' fun a' w' hl=>hK a' w' ⟨fun hcc=>absurd (hc.symm.trans hcc) Bool.noConfusion,hl⟩
theorem wpQ_end {N:Act→World→Prop} {a:Act} {w:World} (h:N a w):wpQ P ops nc Q E [] N a w:=h
end
end R3

namespace R3
open Go Go.Proofs Go.RowKit Go.Shelf Sx
variable {mx:Int}
theorem PM.last {w W:World} {F:Nat→Prop} {b7:Nat} {N:List Mn} {T:List Nat} {S:List Op'} {o:Op'} {X:List Vn} {tag:Nat→Tg} {vn vt vs:Value} (h:PM w F b7 ⟨N,T,S ++ [o]⟩ X tag vn vt vs W) :
  ∃ gs cap,vs=.slice (some ⟨gs,0,none⟩) (S.length+1) cap∧(W.cell? ⟨gs,S.length * 3,none⟩=some (.int .i64 (o.node:Int))∧W.cell? ⟨gs,S.length * 3+1,none⟩=some (.int .i64 (o.kind.toNat:Int))∧W.cell? ⟨gs,S.length * 3+2,none⟩=some (.bool o.els))∧∀ j,W.frozen? ⟨gs,j,none⟩=false:=by
 have hs:=h.sk.1
 simp only [List.length_append,List.length_cons,List.length_nil,List.flatMap_append,List.flatMap_cons,List.flatMap_nil,List.append_nil] at hs
 obtain ⟨gs,cap,rfl⟩:=ownsRow_succ hs
 have key:∀ j,j < 3→W.cell? ⟨gs,S.length * 3+j,none⟩=(opCells o)[j]?:=fun j hj=>by
  rw [hs.cellAt (S.length * 3+j) (by omega),List.getElem?_append_right (by rw [flat_len3];omega),flat_len3]
  congr 1;omega
 exact ⟨gs,cap,rfl,⟨key 0 (by decide),key 1 (by decide),key 2 (by decide)⟩,fun j=>hs.frozenAt j⟩
theorem PM.node {w W:World} {F:Nat→Prop} {b7:Nat} {s:Ms} {X:List Vn} {tag:Nat→Tg} {vn vt vs:Value} (h:PM w F b7 s X tag vn vt vs W) {i:Nat} (hi:i < s.nodes.length) :
  ∃ gn cn x y,vn=.slice (some ⟨gn,0,none⟩) X.length cn∧X[i]?=some x∧s.nodes[i]?=some y∧(∀ j,j < 9→W.cell? ⟨gn,i * 9+j,none⟩=x.cells[j]?)∧∀ j,W.frozen? ⟨gn,j,none⟩=false:=by
 have hX:i < X.length:=by rw [h.len];exact hi
 have hnd:=h.nd.1
 obtain ⟨k,hk⟩:∃ k,X.length=k+1:=⟨X.length - 1,by omega⟩
 obtain ⟨gn,cn,rfl⟩:∃ g cap,vn=.slice (some ⟨g,0,none⟩) X.length cap:=by
  rcases hnd.2 with ⟨_,h0⟩ | ⟨g,cap,_,rfl,_⟩
  ·omega
  ·exact ⟨g,cap,rfl⟩
 refine ⟨gn,cn,X[i],s.nodes[i],rfl,List.getElem?_eq_getElem hX,List.getElem?_eq_getElem hi,fun j hj=>?_,fun j=>hnd.frozenAt j⟩
 rw [hnd.cellAt (i * 9+j) (by omega)]
 exact flat_get9 X i j X[i] (List.getElem?_eq_getElem hX) hj
set_option maxRecDepth 100000 in
set_option maxHeartbeats 4000000 in
theorem add_els {w W:World} {F:Nat→Prop} {b7:Nat} {N:List Mn} {T:List Nat} {S:List Op'} {o:Op'} {X:List Vn} {tag:Nat→Tg} {vn vt vs:Value} (h:PM w F b7 ⟨N,T,S ++ [o]⟩ X tag vn vt vs W) {n:Nat} (ho:o.node < N.length) (he:o.els=true) (hN:N.length≤100000) (hS:S.length≤1000) (hE:∀ y ∈ N,y.els.length≤1000000) :
  CallsIn Fence.wide 6 Tryd.prog 63 #[.pointer (some ⟨b7,0,none⟩),vs, .int .i64 (n:Int)] W (AddPost w F b7 ⟨N.modify o.node fun y=>{ y with els:=y.els ++ [n] },T,S ++ [o]⟩ vs X vn vt W):=by
 obtain ⟨gs,cs,rfl,⟨s0,s1,s2⟩,sf⟩:=h.last
 obtain ⟨gn,cn,x,y,rfl,hx,hy,hcell,hfr⟩:=h.node ho
 obtain ⟨i0,hi9,hz0,hz1,hz2⟩:=info_parts info3
 obtain ⟨v1,v2,v3,v4⟩:=cell2 h.c7
 have hlt:=h.lt7
 have hy0:N[o.node]?=some y:=hy
 obtain ⟨bb,be⟩:=h.bd o.node x y hx hy
 obtain ⟨ade,ce,hes⟩:=row_len be.1
 have c6:=hcell 6 (by decide)
 have c6:W.cell? ⟨gn,o.node * 9+6,none⟩=some x.es:=c6
 rw [hes] at c6
 have hXl:X.length=N.length:=h.len
 have hyl:=hE y (List.mem_of_getElem? hy0)
 have sf2:=sf (S.length * 3+2)
 have fn6:=hfr (o.node * 9+6)
 rw [he] at s2
 generalize hd:S.length=d at *
 generalize hk:o.node=k at *
 generalize o.kind.toNat=kd at s1
 have hw3:W.heap.size≤W.heap.size:=Nat.le_refl _
 refine callsIn_of_wp Tryd.func63 rfl trivial ?_ rfl
 simp only [Tryd.ntmps63,List.size_toArray,List.length_cons,List.length_nil,Nat.reduceAdd,Nat.reduceSub,Array.replicate_succ,Array.replicate_zero,List.push_toArray,List.append_toArray,List.nil_append,List.cons_append]
 clear hcell sf hfr hE
 gi_wp2
 rw [wpIn_wide]
 have hb4:(W.alloc (.cells #[.int .i64 (k:Int), .int .i64 (kd:Int), .bool true] 108)).heap[W.heap.size]?=some (.cells #[.int .i64 (k:Int), .int .i64 (kd:Int), .bool true] 108):=World.alloc_heap_new W _
 have hx5:Ext W (W.alloc (.cells #[.int .i64 (k:Int), .int .i64 (kd:Int), .bool true] 108)):=Ext.push W _
 generalize W.alloc (.cells #[.int .i64 (k:Int), .int .i64 (kd:Int), .bool true] 108)=W5 at hb4 hx5 ⊢
 have p1:=ext_cell hx5 v1
 have p4:W5.cell? ⟨W.heap.size,0,none⟩=some (.int .i64 (k:Int)):=by simp [World.cell?,hb4]
 have p5:=ext_cell hx5 c6
 have p6:W5.frozen? ⟨gn,k * 9+6,none⟩=false:=by
  rw [← fn6]
  exact World.frozen?_of_block (hx5.block gn (cell_lt c6))
 have h5:=h.ext' hx5
 have h6:=h5.ext' (Ext.push W5 (.cells #[.int .i64 (n:Int)] 3))
 have be6:=(h6.bd k x y hx hy).2.1
 have hnews:=new1 W5 (.int .i64 (n:Int)) 3
 have hbase6:b7+1≤(W5.alloc (.cells #[.int .i64 (n:Int)] 3)).heap.size:=h6.lt7
 rw [hes] at be6
 have hgn:gn < W5.heap.size:=cell_lt p5
 have hgne:∀ {w7:World} {r:Option Nat},r=x.es.ownBlock→(W5.alloc (.cells #[.int .i64 (n:Int)] 3)).grownBy w7 r→w7.heap[gn]?=W5.heap[gn]?:=fun {w7 r} hr hg=>by
  rw [hg.block gn (by simp;omega) (fun e=>by rw [hr] at e;have a1:=be.2 gn e.symm;have a2:=h.nd.2 gn rfl;rw [a1] at a2;cases a2)]
  exact al_old' hgn
 have hx6:Ext W5 (W5.alloc (.cells #[.int .i64 (n:Int)] 3)):=Ext.push W5 _
 have r1:=ext_cell hx6 p1
 have r4:=ext_cell hx6 p4
 have r5:=ext_cell hx6 p5
 have hW5:W.heap.size < W5.heap.size:=cell_lt p4
 have hb75:b7 < W5.heap.size:=cell_lt p1
 have hne:∀ {w7:World} {r:Option Nat},r=x.es.ownBlock→(W5.alloc (.cells #[.int .i64 (n:Int)] 3)).grownBy w7 r→w7.heap[b7]?=W5.heap[b7]?∧w7.heap[W.heap.size]?=W5.heap[W.heap.size]?:=fun {w7 r} hr hg=>by
  refine ⟨?_,?_⟩
  ·rw [hg.block b7 (by simp;omega) (fun e=>by rw [hr] at e;have:=own_ge7 be e.symm;omega)]
   exact al_old' hb75
  ·rw [hg.block _ (by simp;omega) (fun e=>by rw [hr] at e;have:=(be.1.lt _ e.symm).2;omega)]
   exact al_old' hW5
 clear v1 v2 v3 v4 c6 fn6 s0 s1 s2 sf2 hb4
 have cset:∀ {w7:World} {b i:Nat} {u:Value} (v:Value),b≠gn→w7.cell? ⟨b,i,none⟩=some u→(w7.setCell ⟨gn,k * 9+6,none⟩ v).cell? ⟨b,i,none⟩=some u:=fun v hb hu=>(World.cell?_of_block (set_other hb)).trans hu
 have ng1:b7≠gn:=by have:=own_ge7 h.nd (g:=gn) rfl;omega
 have ng2:W.heap.size≠gn:=by have:=(h.nd.1.lt gn rfl).2;omega
 have ng3:gn≠W.heap.size:=fun e=>ng2 e.symm
 refine wp_region_plan (by kernel_rfl) [20] (fun u v=>v.cell? ⟨b7,0,none⟩=u.cell? ⟨b7,0,none⟩∧v.cell? ⟨W.heap.size,0,none⟩=u.cell? ⟨W.heap.size,0,none⟩∧v.cell? ⟨gn,k * 9+6,none⟩=u.cell? ⟨gn,k * 9+6,none⟩)
  [(0,true),(1,true),(2,true),(3,true),(4,true),(5,true),(6,true),(7,true),(8,true),(9,true),(10,true),(11,true),(12,true),(13,true),(14,true),(15,true),(16,false),(17,false),(18,true),(19,true),(20,false)]
  (by kernel_rfl) (by kernel_rfl) (by kernel_rfl) (fun _=>⟨rfl,rfl,rfl⟩) (fun _ _ _ h1 h2=>⟨h2.1.trans h1.1,h2.2.1.trans h1.2.1,h2.2.2.trans h1.2.2⟩) ?_
 iterate 16 (
  refine' wpQ_take ?_ ?_ ?_ ?_;rotate_left 2
  ·(simp only [List.getElem?_toArray,List.getElem?_cons_succ,List.getElem?_cons_zero];rfl)
  ·rfl
  ·(intro w' hE;have q1:=hE.1.trans p1;have q4:=hE.2.1.trans p4;have q5:=hE.2.2.trans p5;go_simp;try rfl)
  simp only [Act.put,List.setIfInBounds_toArray,List.set_cons_zero,List.set_cons_succ])
 refine' wpQ_go ?_ ?_;rotate_left 1
 ·(simp only [List.getElem?_toArray,List.getElem?_cons_succ,List.getElem?_cons_zero];rfl)
 intro K hK
 go_simp
 refine hK.out _ _ ⟨r1.trans p1.symm,r4.trans p4.symm,r5.trans p5.symm⟩ ?_
 clear hK K
 try simp only [Act.put,List.setIfInBounds_toArray,List.set_cons_zero,List.set_cons_succ]
 refine' wpQ_go ?_ ?_;rotate_left 1
 ·(simp only [List.getElem?_toArray,List.getElem?_cons_succ,List.getElem?_cons_zero];rfl)
 intro K hK
 refine step_append_lies _ rfl (.tmp 42) (.tmp 44) 48 rfl (b7+1) 3 i0 _ 1 8 Tryd.underlying48 hi9 hz0 hz1 hz2 rfl (by decide) (.slice ade y.els.length ce) y.els.length (ints y.els) rfl be6 ⟨W5.heap.size,0,none⟩ 1 1 [.int .i64 (n:Int)] rfl rfl hnews (by simp [Value.oneCell']) (by decide) (by have:Go.maxLen=9223372036854775807:=rfl;omega) (by omega) hbase6 _ rfl ?_
 intro g cap w7 hown7 hgrow7 hat7 hlt7
 have hg7:(W5.alloc (.cells #[.int .i64 (n:Int)] 3)).grownBy w7 x.es.ownBlock:=(by rw [hes];exact ⟨hgrow7.os,hgrow7.tape,hgrow7.output,hgrow7.size,hgrow7.block⟩)
 have hgk:=hgne rfl hg7
 have hgl:=hne rfl hg7
 have s1:=(World.cell?_of_block (a:=⟨b7,0,none⟩) hgl.1).trans p1
 have s4:=(World.cell?_of_block (a:=⟨W.heap.size,0,none⟩) hgl.2).trans p4
 have s5:=(World.cell?_of_block (a:=⟨gn,k * 9+6,none⟩) hgk).trans p5
 have s6:=(World.frozen?_of_block (a:=⟨gn,k * 9+6,none⟩) hgk).trans p6
 obtain ⟨X',tag',hpm⟩:=h6.addEls (n:=n) rfl hx hy hg7 hown7 (by rw [hes];exact hat7)
 refine hK.out _ _ ⟨s1.trans r1.symm,s4.trans r4.symm,s5.trans r5.symm⟩ ?_
 clear hK K
 try simp only [Act.put,List.setIfInBounds_toArray,List.set_cons_zero,List.set_cons_succ]
 iterate 2 (
  refine' wpQ_take ?_ ?_ ?_ ?_;rotate_left 2
  ·(simp only [List.getElem?_toArray,List.getElem?_cons_succ,List.getElem?_cons_zero];rfl)
  ·rfl
  ·(intro w' hE;go_simp;try rfl)
  simp only [Act.put,List.setIfInBounds_toArray,List.set_cons_zero,List.set_cons_succ])
 refine' wpQ_wild ?_ (by kernel_rfl) ?_;rotate_left 1
 ·(simp only [List.getElem?_toArray,List.getElem?_cons_succ,List.getElem?_cons_zero];rfl)
 intro K hK
 go_simp
 refine hK.out _ _ ?_
 clear hK K
 refine wpQ_end ?_
 gi_wp2
 refine bodyPost_ret (results63 _ _) rfl ?_
 exact ⟨rfl,⟨_,_,_,_,hpm⟩,fun b hb hap=>(set_other (show b≠gn from fun e=>hap.2.1 (by rw [e];rfl))).trans ((hg7.block b (by simp;omega) (fun e=>(hap.2.2.2 x (List.mem_of_getElem? hx)).2 e.symm)).trans ((al_old' (by have:=hx5.size;omega)).trans (hx5.block b hb)))⟩
set_option maxRecDepth 100000 in
set_option maxHeartbeats 4000000 in
theorem add_body {w W:World} {F:Nat→Prop} {b7:Nat} {N:List Mn} {T:List Nat} {S:List Op'} {o:Op'} {X:List Vn} {tag:Nat→Tg} {vn vt vs:Value} (h:PM w F b7 ⟨N,T,S ++ [o]⟩ X tag vn vt vs W) {n:Nat} (ho:o.node < N.length) (he:o.els=false) (hN:N.length≤100000) (hS:S.length≤1000) (hE:∀ y ∈ N,y.body.length≤1000000) :
  CallsIn Fence.wide 6 Tryd.prog 63 #[.pointer (some ⟨b7,0,none⟩),vs, .int .i64 (n:Int)] W (AddPost w F b7 ⟨N.modify o.node fun y=>{ y with body:=y.body ++ [n] },T,S ++ [o]⟩ vs X vn vt W):=by
 obtain ⟨gs,cs,rfl,⟨s0,s1,s2⟩,sf⟩:=h.last
 obtain ⟨gn,cn,x,y,rfl,hx,hy,hcell,hfr⟩:=h.node ho
 obtain ⟨i0,hi9,hz0,hz1,hz2⟩:=info_parts info3
 obtain ⟨v1,v2,v3,v4⟩:=cell2 h.c7
 have hlt:=h.lt7
 have hy0:N[o.node]?=some y:=hy
 obtain ⟨bb,be⟩:=h.bd o.node x y hx hy
 obtain ⟨ade,ce,hes⟩:=row_len bb.1
 have c6:=hcell 5 (by decide)
 have c6:W.cell? ⟨gn,o.node * 9+5,none⟩=some x.bs:=c6
 rw [hes] at c6
 have hXl:X.length=N.length:=h.len
 have hyl:=hE y (List.mem_of_getElem? hy0)
 have sf2:=sf (S.length * 3+2)
 have fn6:=hfr (o.node * 9+5)
 rw [he] at s2
 generalize hd:S.length=d at *
 generalize hk:o.node=k at *
 generalize o.kind.toNat=kd at s1
 have hw3:W.heap.size≤W.heap.size:=Nat.le_refl _
 refine callsIn_of_wp Tryd.func63 rfl trivial ?_ rfl
 simp only [Tryd.ntmps63,List.size_toArray,List.length_cons,List.length_nil,Nat.reduceAdd,Nat.reduceSub,Array.replicate_succ,Array.replicate_zero,List.push_toArray,List.append_toArray,List.nil_append,List.cons_append]
 clear hcell sf hfr hE
 gi_wp2
 rw [wpIn_wide]
 have hb4:(W.alloc (.cells #[.int .i64 (k:Int), .int .i64 (kd:Int), .bool false] 108)).heap[W.heap.size]?=some (.cells #[.int .i64 (k:Int), .int .i64 (kd:Int), .bool false] 108):=World.alloc_heap_new W _
 have hx5:Ext W (W.alloc (.cells #[.int .i64 (k:Int), .int .i64 (kd:Int), .bool false] 108)):=Ext.push W _
 generalize W.alloc (.cells #[.int .i64 (k:Int), .int .i64 (kd:Int), .bool false] 108)=W5 at hb4 hx5 ⊢
 have p1:=ext_cell hx5 v1
 have p4:W5.cell? ⟨W.heap.size,0,none⟩=some (.int .i64 (k:Int)):=by simp [World.cell?,hb4]
 have p5:=ext_cell hx5 c6
 have p6:W5.frozen? ⟨gn,k * 9+5,none⟩=false:=by
  rw [← fn6]
  exact World.frozen?_of_block (hx5.block gn (cell_lt c6))
 have h5:=h.ext' hx5
 have h6:=h5.ext' (Ext.push W5 (.cells #[.int .i64 (n:Int)] 3))
 have be6:=(h6.bd k x y hx hy).1.1
 have hnews:=new1 W5 (.int .i64 (n:Int)) 3
 have hbase6:b7+1≤(W5.alloc (.cells #[.int .i64 (n:Int)] 3)).heap.size:=h6.lt7
 rw [hes] at be6
 have hgn:gn < W5.heap.size:=cell_lt p5
 have hgne:∀ {w7:World} {r:Option Nat},r=x.bs.ownBlock→(W5.alloc (.cells #[.int .i64 (n:Int)] 3)).grownBy w7 r→w7.heap[gn]?=W5.heap[gn]?:=fun {w7 r} hr hg=>by
  rw [hg.block gn (by simp;omega) (fun e=>by rw [hr] at e;have a1:=bb.2 gn e.symm;have a2:=h.nd.2 gn rfl;rw [a1] at a2;cases a2)]
  exact al_old' hgn
 have hx6:Ext W5 (W5.alloc (.cells #[.int .i64 (n:Int)] 3)):=Ext.push W5 _
 have r1:=ext_cell hx6 p1
 have r4:=ext_cell hx6 p4
 have r5:=ext_cell hx6 p5
 have hW5:W.heap.size < W5.heap.size:=cell_lt p4
 have hb75:b7 < W5.heap.size:=cell_lt p1
 have hne:∀ {w7:World} {r:Option Nat},r=x.bs.ownBlock→(W5.alloc (.cells #[.int .i64 (n:Int)] 3)).grownBy w7 r→w7.heap[b7]?=W5.heap[b7]?∧w7.heap[W.heap.size]?=W5.heap[W.heap.size]?:=fun {w7 r} hr hg=>by
  refine ⟨?_,?_⟩
  ·rw [hg.block b7 (by simp;omega) (fun e=>by rw [hr] at e;have:=own_ge7 bb e.symm;omega)]
   exact al_old' hb75
  ·rw [hg.block _ (by simp;omega) (fun e=>by rw [hr] at e;have:=(bb.1.lt _ e.symm).2;omega)]
   exact al_old' hW5
 clear v1 v2 v3 v4 c6 fn6 s0 s1 s2 sf2 hb4
 have cset:∀ {w7:World} {b i:Nat} {u:Value} (v:Value),b≠gn→w7.cell? ⟨b,i,none⟩=some u→(w7.setCell ⟨gn,k * 9+5,none⟩ v).cell? ⟨b,i,none⟩=some u:=fun v hb hu=>(World.cell?_of_block (set_other hb)).trans hu
 have ng1:b7≠gn:=by have:=own_ge7 h.nd (g:=gn) rfl;omega
 have ng2:W.heap.size≠gn:=by have:=(h.nd.1.lt gn rfl).2;omega
 have ng3:gn≠W.heap.size:=fun e=>ng2 e.symm
 refine wp_region_plan (by kernel_rfl) [20] (fun u v=>v.cell? ⟨b7,0,none⟩=u.cell? ⟨b7,0,none⟩∧v.cell? ⟨W.heap.size,0,none⟩=u.cell? ⟨W.heap.size,0,none⟩∧v.cell? ⟨gn,k * 9+5,none⟩=u.cell? ⟨gn,k * 9+5,none⟩)
  [(0,true),(1,true),(2,true),(3,true),(4,true),(5,true),(6,true),(7,true),(8,true),(9,true),(10,true),(11,true),(12,true),(13,true),(14,true),(15,true),(16,false),(17,false),(18,true),(19,true),(20,false)]
  (by kernel_rfl) (by kernel_rfl) (by kernel_rfl) (fun _=>⟨rfl,rfl,rfl⟩) (fun _ _ _ h1 h2=>⟨h2.1.trans h1.1,h2.2.1.trans h1.2.1,h2.2.2.trans h1.2.2⟩) ?_
 iterate 16 (
  refine' wpQ_take ?_ ?_ ?_ ?_;rotate_left 2
  ·(simp only [List.getElem?_toArray,List.getElem?_cons_succ,List.getElem?_cons_zero];rfl)
  ·rfl
  ·(intro w' hE;have q1:=hE.1.trans p1;have q4:=hE.2.1.trans p4;have q5:=hE.2.2.trans p5;go_simp;try rfl)
  simp only [Act.put,List.setIfInBounds_toArray,List.set_cons_zero,List.set_cons_succ])
 refine' wpQ_go ?_ ?_;rotate_left 1
 ·(simp only [List.getElem?_toArray,List.getElem?_cons_succ,List.getElem?_cons_zero];rfl)
 intro K hK
 go_simp
 refine hK.out _ _ ⟨r1.trans p1.symm,r4.trans p4.symm,r5.trans p5.symm⟩ ?_
 clear hK K
 try simp only [Act.put,List.setIfInBounds_toArray,List.set_cons_zero,List.set_cons_succ]
 refine' wpQ_go ?_ ?_;rotate_left 1
 ·(simp only [List.getElem?_toArray,List.getElem?_cons_succ,List.getElem?_cons_zero];rfl)
 intro K hK
 refine step_append_lies _ rfl (.tmp 62) (.tmp 64) 48 rfl (b7+1) 3 i0 _ 1 8 Tryd.underlying48 hi9 hz0 hz1 hz2 rfl (by decide) (.slice ade y.body.length ce) y.body.length (ints y.body) rfl be6 ⟨W5.heap.size,0,none⟩ 1 1 [.int .i64 (n:Int)] rfl rfl hnews (by simp [Value.oneCell']) (by decide) (by have:Go.maxLen=9223372036854775807:=rfl;omega) (by omega) hbase6 _ rfl ?_
 intro g cap w7 hown7 hgrow7 hat7 hlt7
 have hg7:(W5.alloc (.cells #[.int .i64 (n:Int)] 3)).grownBy w7 x.bs.ownBlock:=(by rw [hes];exact ⟨hgrow7.os,hgrow7.tape,hgrow7.output,hgrow7.size,hgrow7.block⟩)
 have hgk:=hgne rfl hg7
 have hgl:=hne rfl hg7
 have s1:=(World.cell?_of_block (a:=⟨b7,0,none⟩) hgl.1).trans p1
 have s4:=(World.cell?_of_block (a:=⟨W.heap.size,0,none⟩) hgl.2).trans p4
 have s5:=(World.cell?_of_block (a:=⟨gn,k * 9+5,none⟩) hgk).trans p5
 have s6:=(World.frozen?_of_block (a:=⟨gn,k * 9+5,none⟩) hgk).trans p6
 obtain ⟨X',tag',hpm⟩:=h6.addBody (n:=n) rfl hx hy hg7 hown7 (by rw [hes];exact hat7)
 refine hK.out _ _ ⟨s1.trans r1.symm,s4.trans r4.symm,s5.trans r5.symm⟩ ?_
 clear hK K
 try simp only [Act.put,List.setIfInBounds_toArray,List.set_cons_zero,List.set_cons_succ]
 iterate 2 (
  refine' wpQ_take ?_ ?_ ?_ ?_;rotate_left 2
  ·(simp only [List.getElem?_toArray,List.getElem?_cons_succ,List.getElem?_cons_zero];rfl)
  ·rfl
  ·(intro w' hE;go_simp;try rfl)
  simp only [Act.put,List.setIfInBounds_toArray,List.set_cons_zero,List.set_cons_succ])
 refine' wpQ_wild ?_ (by kernel_rfl) ?_;rotate_left 1
 ·(simp only [List.getElem?_toArray,List.getElem?_cons_succ,List.getElem?_cons_zero];rfl)
 intro K hK
 go_simp
 refine hK.out _ _ ?_
 clear hK K
 refine wpQ_end ?_
 gi_wp2
 refine bodyPost_ret (results63 _ _) rfl ?_
 exact ⟨rfl,⟨_,_,_,_,hpm⟩,fun b hb hap=>(set_other (show b≠gn from fun e=>hap.2.1 (by rw [e];rfl))).trans ((hg7.block b (by simp;omega) (fun e=>(hap.2.2.2 x (List.mem_of_getElem? hx)).1 e.symm)).trans ((al_old' (by have:=hx5.size;omega)).trans (hx5.block b hb)))⟩
end R3

namespace R3
open Go Go.Proofs Go.RowKit Go.Shelf Sx
variable {mx:Int}
structure Ms.sz (s:Ms) (k:Nat):Prop where
 nodes:s.nodes.length≤k
 top:s.top.length≤k
 two:∀ y ∈ s.nodes,y.body.length≤k∧y.els.length≤k
 stack:s.stack.length≤16
theorem mem_modify {l:List Mn} {i:Nat} {f:Mn→Mn} {y:Mn} (h:y ∈ l.modify i f):∃ z ∈ l,y=z∨y=f z:=by
 obtain ⟨j,hj,rfl⟩:=List.mem_iff_getElem.1 h
 rw [List.getElem_modify]
 have hj':j < l.length:=by simpa using hj
 refine ⟨l[j],List.getElem_mem _,?_⟩
 split
 ·exact .inr rfl
 ·exact .inl rfl
theorem Ms.sz.mono {s:Ms} {k k':Nat} (h:s.sz k) (hk:k≤k'):s.sz k' :=
 ⟨Nat.le_trans h.nodes hk,Nat.le_trans h.top hk,fun y hy=>⟨Nat.le_trans (h.two y hy).1 hk,Nat.le_trans (h.two y hy).2 hk⟩,h.stack⟩
theorem Ms.sz.add {s:Ms} {k:Nat} (h:s.sz k) (hn:s.nodes.length≤k+1) (n:Nat):(s.add [n]).sz (k+1):=by
 have h':=h.mono (Nat.le_succ k)
 unfold Ms.add
 split
 ·exact ⟨h'.nodes,by simp only [List.length_append,List.length_cons,List.length_nil];have:=h.top;omega,h'.two,h'.stack⟩
 ·split
  ·refine ⟨by simpa using h'.nodes,h'.top,fun y hy=>?_,h'.stack⟩
   obtain ⟨z,hz,e⟩:=mem_modify hy
   have:=h.two z hz
   rcases e with rfl | rfl
   ·omega
   ·simp only [List.length_append,List.length_cons,List.length_nil];omega
  ·refine ⟨by simpa using h'.nodes,h'.top,fun y hy=>?_,h'.stack⟩
   obtain ⟨z,hz,e⟩:=mem_modify hy
   have:=h.two z hz
   rcases e with rfl | rfl
   ·omega
   ·simp only [List.length_append,List.length_cons,List.length_nil];omega
theorem add_in {w W:World} {F:Nat→Prop} {b7:Nat} {s:Ms} {X:List Vn} {tag:Nat→Tg} {vn vt vs:Value} (h:PM w F b7 s X tag vn vt vs W) (hw:s.wf) {k:Nat} (hz:s.sz k) (hk:k≤100000) {n:Nat} :
  CallsIn Fence.wide 6 Tryd.prog 63 #[.pointer (some ⟨b7,0,none⟩),vs, .int .i64 (n:Int)] W (AddPost w F b7 (s.add [n]) vs X vn vt W):=by
 obtain ⟨N,T,S⟩:=s
 have h1:=hz.nodes
 have h2:=hz.top
 have h3:=hz.two
 have h4:=hz.stack
 simp only at h1 h2 h3 h4
 rcases List.eq_nil_or_concat S with rfl | ⟨S,o,rfl⟩
 ·exact add_top h (by omega)
 ·rw [List.concat_eq_append] at *
  have ho:o.node < N.length:=hw o (by simp)
  have hl:S.length≤1000:=by simp at h4;omega
  cases he:o.els with
  | true =>
   have:=add_els h (n:=n) ho he (by omega) hl (fun y hy=>by have:=(h3 y hy).2;omega)
   unfold Ms.add
   simpa [he] using this
  | false =>
   have:=add_body h (n:=n) ho he (by omega) hl (fun y hy=>by have:=(h3 y hy).1;omega)
   unfold Ms.add
   simpa [he] using this
theorem wf_step {s t:Ms} {w:Wd} (h:s.wf) (hs:mStep s w=.inl t):t.wf:=by
 unfold mStep at hs
 split at hs
 ·split at hs
  ·cases hs
  ·rename_i o ho
   split at hs
   ·cases hs
   ·cases hs
    intro p hp
    simp only [List.length_modify]
    rcases List.mem_append.1 hp with hp | hp
    ·exact h p ((List.dropLast_sublist _).subset hp)
    ·obtain rfl:=List.mem_singleton.1 hp;exact h o (List.mem_of_getLast? ho)
 ·split at hs
  ·split at hs
   ·cases hs
   ·cases hs
    exact fun p hp=>h p ((List.dropLast_sublist _).subset hp)
  ·split at hs
   ·cases hs
   ·simp only [Sum.inl.injEq] at hs
    subst hs
    have hb:(Ms.add { s with nodes:=s.nodes ++ [mLeaf w] } [s.nodes.length]).wf:=by rw [add_new h];exact put_wf h _ _
    split
    ·intro p hp
     simp only [List.mem_append,List.mem_singleton] at hp
     rcases hp with hp | rfl
     ·exact hb p hp
     ·rw [add_len];simp
    ·exact hb
theorem sz_step {s t:Ms} {w:Wd} {k:Nat} (h:s.sz k) (hs:mStep s w=.inl t):t.sz (k+1):=by
 have h':=h.mono (Nat.le_succ k)
 unfold mStep at hs
 split at hs
 ·split at hs
  ·cases hs
  ·rename_i o ho
   split at hs
   ·cases hs
   ·cases hs
    have hne:s.stack≠[]:=fun e=>by rw [e] at ho;cases ho
    have hl:0 < s.stack.length:=List.length_pos_iff.2 hne
    refine ⟨by simpa using h'.nodes,h'.top,fun y hy=>?_,?_⟩
    ·obtain ⟨z,hz,e⟩:=mem_modify hy
     rcases e with rfl | rfl
     ·exact h'.two _ hz
     ·exact h'.two z hz
    ·have:=h.stack
     simp only [List.length_append,List.length_dropLast,List.length_cons,List.length_nil];omega
 ·split at hs
  ·split at hs
   ·cases hs
   ·cases hs
    exact ⟨h'.nodes,h'.top,h'.two,by have:=h.stack;simp only [List.length_dropLast];omega⟩
  ·split at hs
   ·cases hs
   ·rename_i h16
    simp only [Sum.inl.injEq] at hs
    subst hs
    have h1:(Ms.sz { s with nodes:=s.nodes ++ [mLeaf w] } (k+1)):=⟨by have:=h.nodes;simp;omega,h'.top,fun y hy=>by
     rcases List.mem_append.1 hy with hy | hy
     ·exact h'.two y hy
     ·obtain rfl:=List.mem_singleton.1 hy;exact ⟨Nat.zero_le _,Nat.zero_le _⟩,h.stack⟩
    have hb:(Ms.add { s with nodes:=s.nodes ++ [mLeaf w] } [s.nodes.length]).sz (k+1):=by
     unfold Ms.add
     split
     ·exact ⟨h1.nodes,by simp only [List.length_append,List.length_cons,List.length_nil];have:=h.top;omega,h1.two,h1.stack⟩
     ·have h2:∀ (f:Mn→Mn),(∀ z,(z.body.length≤k∧z.els.length≤k)→(f z).body.length≤k+1∧(f z).els.length≤k+1)→∀ i,∀ y ∈ (s.nodes ++ [mLeaf w]).modify i f,y.body.length≤k+1∧y.els.length≤k+1:=fun f hf i y hy=>by
       obtain ⟨z,hz,e⟩:=mem_modify hy
       have hz2:z.body.length≤k∧z.els.length≤k:=by
        rcases List.mem_append.1 hz with hz | hz
        ·exact h.two z hz
        ·obtain rfl:=List.mem_singleton.1 hz;exact ⟨Nat.zero_le _,Nat.zero_le _⟩
       rcases e with rfl | rfl
       ·omega
       ·exact hf z hz2
      split
      ·exact ⟨by simpa using h1.nodes,h1.top,h2 _ (fun z hz=>by simp only [List.length_append,List.length_cons,List.length_nil];omega) _,h1.stack⟩
      ·exact ⟨by simpa using h1.nodes,h1.top,h2 _ (fun z hz=>by simp only [List.length_append,List.length_cons,List.length_nil];omega) _,h1.stack⟩
    split
    ·rename_i hk
     refine ⟨hb.nodes,hb.top,hb.two,?_⟩
     have h16':s.stack.length < 16:=by
      rw [hk,Bool.true_and,decide_eq_true_eq] at h16
      omega
     simp only [List.length_append,add_stack,List.length_cons,List.length_nil]
     omega
    ·exact hb
theorem actW_k6 (l:List UInt8):(actW l).kind.toNat≤6:=by
 unfold actW actT
 repeat' split
 all_goals first
  | decide
  | exact (by decide:(1:UInt8).toNat≤6)
  | exact (by decide:(2:UInt8).toNat≤6)
  | exact (by decide:(4:UInt8).toNat≤6)
theorem wordsF_kind:∀ (n:Nat) (r:List UInt8) (a:Nat) (acc:List Wd),(∀ w ∈ acc,w.kind.toNat≤6)→∀ w ∈ (wordsF n r a acc).1,w.kind.toNat≤6
 | 0,r,a,acc,h=>h
 | n+1,r,a,acc,h=>by
  rw [wordsF]
  split
  ·exact h
  ·split
   ·refine wordsF_kind n _ _ _ fun w hw=>?_
    rcases List.mem_append.1 hw with hw | hw
    ·exact h w hw
    ·obtain rfl:=List.mem_singleton.1 hw;exact Nat.zero_le _
   ·split
    ·exact h
    ·split
     ·refine wordsF_kind n _ _ _ fun w hw=>?_
      rcases List.mem_append.1 hw with hw | hw
      ·exact h w hw
      ·obtain rfl:=List.mem_singleton.1 hw;exact actW_k6 _
     ·exact h
def docT (l:List UInt8):Mr :=
 if l.length > 65536 then .bad 0 2
 else if 0≤(wordsW l).2 then .bad (wordsW l).2.toNat 4
 else mTree (wordsW l).1
def Mn.av (y:Mn):AV:=.ag [.u8 y.kind, .int (y.at':Int), .s y.text, .b y.root,y.names, .ro 1 (numsAV y.body), .ro 1 (numsAV y.els), .b y.has, .u8 0]
def mrAV:Mr→AV
 | .bad a e=>.tu [.ag [.nils, .nils], .int (a:Int), .int (e:Int)]
 | .ok nodes top=>.tu [.ag [.ro 9 (nodes.map Mn.av), .ro 1 (numsAV top)], .int 0, .int 0]
def DocPost (w:World) (F:Nat→Prop) (r:Mr) (e:Ending) (w':World):Prop:=Ext w w'∧∃ v,e=.returned v∧Rel w' (fun b=>b < w.heap.size→F b) (mrAV r) v
theorem results36 (T:Array Value) (W:World) (N:Nat) (x y a b:Value) (t2:T[2]?.getD undef=.pointer (some ⟨N,0,none⟩)) (t3:T[3]?.getD undef=a) (t4:T[4]?.getD undef=b) (h0:W.heap[N]?=some (.cells #[x,y] 50)) :
  (results Tryd.f36 T).run Tryd.prog W=.ok (.tuple #[.agg #[x,y],a,b]) W:=by
 have hr:Tryd.f36.results = #[.cell 2 50, .tmp 3, .tmp 4]:=by kernel_rfl
 have l1:(loadVar 50 ⟨N,0,none⟩).run Tryd.prog W=.ok (.agg #[x,y]) W:=by
  simp [loadVar,go_sem,(cell2 h0).1,(cell2 h0).2.1,Result.andThen]
 unfold results
 rw [hr]
 simp [t2,t3,t4,Sem.run_bind,asAddr,l1,Result.andThen]
end R3

namespace R3
open Go Go.Proofs Go.RowKit Go.Shelf Sx
variable {mx:Int}
theorem Row.rel {W:World} {base:Nat} {tag:Nat→Tg} {t:Tg} {v:Value} {l:List Nat} (h:Row W base tag t 3 1 v l.length (ints l)) {G:Nat→Prop} (hG:∀ b,base≤b→G b):Rel W G (.ro 1 (numsAV l)) v:=by
 have ho:OwnOk W G 3 1 (numsAV l) v:=by
  refine ⟨by decide,ints l,?_,?_,?_⟩
  ·rw [numsAV_len];exact row_base h.1 (Nat.zero_le _)
  ·intro u hu
   obtain ⟨n,_,rfl⟩:=List.mem_map.1 hu
   rfl
  ·intro i j u hi hj hu
   have:j=0:=by omega
   subst this
   rw [numsAV_len] at hi
   simp only [Nat.mul_one,Nat.add_zero] at hu
   have e:(ints l)[i]?=some (iv64 l[i]):=by simp [ints,List.getElem?_eq_getElem hi]
   rw [e] at hu
   cases hu
   have e2:(numsAV l).getD i .un=.int (l[i]:Int):=by simp [numsAV,List.getD_eq_getElem?_getD,List.getElem?_eq_getElem hi]
   rw [e2]
   exact .int _
 exact ho.rel (fun _ _ h=>h) (fun g hg=>hG g (h.1.lt g hg).1)
theorem PM.rel {w W:World} {F:Nat→Prop} {b7:Nat} {s:Ms} {X:List Vn} {tag:Nat→Tg} {vn vt vs:Value} (h:PM w F b7 s X tag vn vt vs W) {G:Nat→Prop} (hF:∀ b,b < w.heap.size→F b→G b) (hG:∀ b,w.heap.size≤b→G b) :
  Rel W G (.ro 9 (s.nodes.map Mn.av)) vn∧Rel W G (.ro 1 (numsAV s.top)) vt:=by
 have h7:=h.b7s
 refine ⟨?_,h.tp.rel fun b hb=>hG b (by omega)⟩
 have hl:(s.nodes.map Mn.av).length=X.length:=by rw [List.length_map,h.len]
 have ho:OwnOk W G 61 9 (s.nodes.map Mn.av) vn:=by
  refine ⟨by decide,X.flatMap Vn.cells,?_,?_,?_⟩
  ·rw [hl];exact row_base h.nd.1 (Nat.zero_le _)
  ·intro u hu
   obtain ⟨x,hx,hu⟩:=List.mem_flatMap.1 hu
   obtain ⟨i,hi,rfl⟩:=List.mem_iff_getElem.1 hx
   have hi':i < s.nodes.length:=by rw [← h.len];exact hi
   have hlk:=h.lk i _ _ (List.getElem?_eq_getElem hi) (List.getElem?_eq_getElem hi')
   obtain ⟨hb,he⟩:=h.bd i _ _ (List.getElem?_eq_getElem hi) (List.getElem?_eq_getElem hi')
   obtain ⟨_,_,eb⟩:=row_len hb.1
   obtain ⟨_,_,ee⟩:=row_len he.1
   simp only [Vn.cells,List.mem_cons,List.not_mem_nil,or_false] at hu
   rcases hu with rfl | rfl | rfl | rfl | rfl | rfl | rfl | rfl | rfl
   ·rfl
   ·rfl
   ·rfl
   ·rfl
   ·exact hlk.one
   ·rw [eb];rfl
   ·rw [ee];rfl
   ·rfl
   ·rfl
  ·intro i j u hi hj hu
   rw [hl] at hi
   have hi':i < s.nodes.length:=by rw [← h.len];exact hi
   have hlk:=h.lk i _ _ (List.getElem?_eq_getElem hi) (List.getElem?_eq_getElem hi')
   obtain ⟨hb,he⟩:=h.bd i _ _ (List.getElem?_eq_getElem hi) (List.getElem?_eq_getElem hi')
   rw [flat_get9 X i j _ (List.getElem?_eq_getElem hi) hj] at hu
   have e2:(s.nodes.map Mn.av).getD i .un=(s.nodes[i]).av:=by simp [List.getD_eq_getElem?_getD,List.getElem?_eq_getElem hi']
   rw [e2]
   have hkd:=hlk.kind
   have hat:=hlk.at'
   have htx:=hlk.text
   have hrt:=hlk.root
   have hhs:=hlk.has
   have hnm:Rel W G (s.nodes[i]).names (X[i]).nm:=hlk.nm.mono fun b hb hf=>⟨hF b hb hf,h.ext.block b hb⟩
   have rb:=hb.rel (G:=G) fun b hb=>hG b (by omega)
   have re:=he.rel (G:=G) fun b hb=>hG b (by omega)
   generalize s.nodes[i]=y at *
   generalize X[i]=x at *
   match j,hj,hu with
   | 0,_,hu=>cases hu;show Rel W G (.u8 y.kind) _;rw [← hkd];exact .u8 _
   | 1,_,hu=>cases hu;show Rel W G (.int (y.at':Int)) _;rw [← hat];exact .int _
   | 2,_,hu=>cases hu;show Rel W G (.s y.text) _;rw [← htx];exact .s _
   | 3,_,hu=>cases hu;show Rel W G (.b y.root) _;rw [← hrt];exact .b _
   | 4,_,hu=>cases hu;exact hnm
   | 5,_,hu=>cases hu;exact rb
   | 6,_,hu=>cases hu;exact re
   | 7,_,hu=>cases hu;show Rel W G (.b y.has) _;rw [← hhs];exact .b _
   | 8,_,hu=>cases hu;exact .u8 0
   | j+9,hj,_=>omega
 exact ho.rel (fun _ _ h=>h) (fun g hg=>hG g (by have:=(h.nd.1.lt g hg).1;omega))
end R3

namespace R3
open Go Go.Proofs Sx
variable {mx:Int}
def Cov (l:List UInt8):Nat→Bool→List Wd→Prop
 | a,_,[]=>a=l.length
 | a,pv,w :: ws=>w.at'=a∧∃ m,0 < m∧a+m≤l.length∧(w.kind=0→w.text=(l.drop a).take m∧pv=false)∧(w.kind≠0→w.text=[]∧5≤m∧((l.drop a).take m).take 2=brO∧((l.drop a).take m).drop (m - 2)=brC)∧Cov l (a+m) (w.kind == 0) ws
theorem idxO_pre (r:List UInt8) (h0:idxO r=0) (hne:0 < r.length):r.take 2=brO:=by
 unfold idxO at h0
 split at h0
 ·omega
 ·rename_i hn
  rcases Lib.index_spec r brO with ⟨h1,_⟩ | ⟨i,h1,h2,h3,_⟩
  ·omega
  ·obtain rfl:i=0:=by omega
   have:=(Lib.occAt_iff_take r brO 0 (by have:=Lib.index_room r brO (by omega);have e:(brO.length:Int)=2:=rfl;have e':brO.length=2:=rfl;omega)).symm.trans h3
   simpa [brO] using eq_of_beq this
end R3

namespace R3
open Go Go.Proofs Sx
variable {mx:Int}
noncomputable def body4:Code:=(Tryd.f4.body).getD .skip
section
variable (run:RunT) (a0:List UInt8) (a1:AV) (a2:Int)
noncomputable def K4_7:List Item:=(kAt 7 body4 []).getD []
def S4_7:St:=St.ofL [(0, .cell (.val (.s a0))),(3, .cell (.val a1)),(6, .cell (.val (.int a2)))] []
noncomputable def F4_7:Option AV:=run K4_7 (S4_7 a0 a1 a2)
end
section
variable (run:RunT) (a0:List UInt8) (a1:AV) (a2:Int) (a3 a4:AV)
end
section
variable (run:RunT) (a0:List UInt8) (a1:AV) (a2:Int)
end
noncomputable def X4 (call:CallT) (run:RunT) (a0:List UInt8):Option AV :=
 (call 22 []).bind fun v1=>(unop .not v1).bind fun v2=>condM v2
 (some (.b false))
 ((call 23 [.s a0]).bind fun v3=>(tupI v3 0).bind fun v4=>(tupI v3 1).bind fun v5=>(tupI v3 2).bind fun v6=>(binI .neq v6 (.int 0)).bind fun v7=>condM v7
 ((lenR v4).bind fun v8=>(binI .eql v8 (.int 0)).bind fun v9=>some v9)
 (F4_7 run a0 v4 0))
section
variable (call:CallT) (run:RunT) (a0:List UInt8)
theorem text4:unr (C mx) call run 4 Tryd.f4 400 [.code body4] (initF (C mx) 4 Tryd.f4.ntmps [.s a0])=X4 call run a0:=by
 kernel_rfl
theorem c4 {r:AV} (h:X4 (semCall (C mx) Tryd.prog) (semRun (C mx) Tryd.prog 4 Tryd.f4) a0=some r):semCall (C mx) Tryd.prog 4 [.s a0]=some r :=
 semCall_unr (fn:=Tryd.f4) (c:=body4) (by kernel_rfl) (by kernel_rfl) 400 (by kernel_rfl) ((text4 _ _ a0).trans h)
end
section
variable (call:CallT) (run:RunT) (a0:List UInt8) (a1:AV) (a2:Int)
end
section
variable (call:CallT) (run:RunT) (a0:List UInt8) (a1:AV) (a2:Int) (a3 a4:AV)
end
section
variable (call:CallT) (run:RunT) (a0:List UInt8) (a1:AV) (a2:Int)
end
section
variable (a0:List UInt8) (a1:AV) (a2:Int)
end
section
variable (a0:List UInt8) (a1:AV) (a2:Int) (a3 a4:AV)
end
section
variable (a0:List UInt8) (a1:AV) (a2:Int)
end
end R3

namespace R3
open Go Go.Proofs Sx
variable {mx:Int}
theorem Cov.len {l:List UInt8}:∀ (ws:List Wd) (a:Nat) (pv:Bool),Cov l a pv ws→a+ws.length≤l.length
 | [],a,pv,h=>by have h:a=l.length:=h;simp [h]
 | w :: ws,a,pv,h=>by
  obtain ⟨_,m,h1,h2,_,_,h5⟩:=h
  have:=Cov.len ws _ _ h5
  simp only [List.length_cons]
  omega
theorem s_ne_self (x:List UInt8):binS .neq (.s x) (.s x)=some (.b false):=by simp [binS,strOp]
theorem sl_piece (l:List UInt8) (a m:Nat) (h:a+m≤l.length):slS (.s l) (some (.int (a:Int))) (some (.int ((a+m:Nat):Int)))=some (.s ((l.drop a).take m)):=by
 have e:l=l.take a ++ l.drop a:=(List.take_append_drop a l).symm
 have:=sl_mid (l.take a) (l.drop a) m (by rw [List.length_drop];omega)
 rw [← e] at this
 have hl:(l.take a).length=a:=by simp;omega
 rw [hl] at this
 exact this
end R3

namespace R3
open Go Go.Proofs Sx
variable {mx:Int}
noncomputable def body5:Code:=(Tryd.f5.body).getD .skip
section
variable (run:RunT) (a0:List UInt8) (a1 a2:UInt8) (a3:Int)
noncomputable def K5_4:List Item:=(kAt 4 body5 []).getD []
def S5_4:St:=St.ofL [(0, .cell (.val (.s a0))),(1, .cell (.val (.u8 a1))),(2, .cell (.val (.u8 a2))),(7, .cell (.val (.int a3)))] []
noncomputable def F5_4:Option AV:=run K5_4 (S5_4 a0 a1 a2 a3)
end
section
variable (run:RunT) (a0:List UInt8) (a1 a2:UInt8) (a3:AV) (a4:Int)
end
section
variable (run:RunT) (a0:List UInt8) (a1:UInt8) (a2:AV) (a3:Int)
end
noncomputable def X5 (call:CallT) (run:RunT) (a0:List UInt8) (a1 a2:UInt8):Option AV :=
 (call 22 []).bind fun v1=>(unop .not v1).bind fun v2=>condM v2
 (some (.b false))
 (F5_4 run a0 a1 a2 0)
section
variable (call:CallT) (run:RunT) (a0:List UInt8) (a1 a2:UInt8)
theorem text5:unr (C mx) call run 5 Tryd.f5 400 [.code body5] (initF (C mx) 5 Tryd.f5.ntmps [.s a0, .u8 a1, .u8 a2])=X5 call run a0 a1 a2:=by
 kernel_rfl
theorem c5 {r:AV} (h:X5 (semCall (C mx) Tryd.prog) (semRun (C mx) Tryd.prog 5 Tryd.f5) a0 a1 a2=some r):semCall (C mx) Tryd.prog 5 [.s a0, .u8 a1, .u8 a2]=some r :=
 semCall_unr (fn:=Tryd.f5) (c:=body5) (by kernel_rfl) (by kernel_rfl) 400 (by kernel_rfl) ((text5 _ _ a0 a1 a2).trans h)
end
section
variable (call:CallT) (run:RunT) (a0:List UInt8) (a1 a2:UInt8) (a3:Int)
end
section
variable (call:CallT) (run:RunT) (a0:List UInt8) (a1 a2:UInt8) (a3:AV) (a4:Int)
end
section
variable (call:CallT) (run:RunT) (a0:List UInt8) (a1:UInt8) (a2:AV) (a3:Int)
end
section
variable (a0:List UInt8) (a1 a2:UInt8) (a3:Int)
end
section
variable (a0:List UInt8) (a1 a2:UInt8) (a3:AV) (a4:Int)
end
section
variable (a0:List UInt8) (a1:UInt8) (a2:AV) (a3:Int)
end
end R3

namespace R3
open Go Go.Proofs Sx
variable {mx:Int}
section
variable (run:RunT) (a0 a1:AV) (a2:Int)
end
section
variable (call:CallT) (run:RunT) (a0 a1:AV)
end
section
variable (call:CallT) (run:RunT) (a0 a1:AV) (a2:Int)
end
section
variable (a0 a1:AV) (a2:Int)
end
end R3

namespace R3
open Go Go.Proofs Sx
variable {mx:Int}
section
variable (call:CallT) (run:RunT) (a0:UInt8) (a1:Int) (a2:List UInt8) (a3:Bool) (a4:AV) (a5:UInt8) (a6:Int) (a7:List UInt8) (a8:Bool) (a9:AV)
end
end R3

namespace R3
open Go Go.Proofs Sx
variable {mx:Int}
noncomputable def body31:Code:=(Tryd.f31.body).getD .skip
section
variable (run:RunT) (a0:Int) (a1:Bool) (a2:AV) (a3:Bool) (a4:AV)
noncomputable def K31_4:List Item:=(kAt 4 body31 []).getD []
def S31_4:St:=St.ofL [(2, .cell (.ptr 2 0)),(3, .cell (.ptr 3 0)),(5, .cell (.val (.int a0)))] [(2,some [.val (.b a1), .val (a2)]),(3,some [.val (.b a3), .val (a4)])]
noncomputable def F31_4:Option AV:=run K31_4 (S31_4 a0 a1 a2 a3 a4)
end
noncomputable def X31 (call:CallT) (run:RunT) (a0:Bool) (a1:AV) (a2:Bool) (a3:AV):Option AV :=
 (selW (.b (a0 != a2)) false ((lenR a1).bind fun v1=>(lenR a3).bind fun v2=>(binI .neq v1 v2).bind fun v3=>some v3) (.b true)).bind fun v4=>condM v4
 (some (.b false))
 (F31_4 run 0 a0 a1 a2 a3)
section
variable (call:CallT) (run:RunT) (a0:Bool) (a1:AV) (a2:Bool) (a3:AV)
theorem text31:unr (C mx) call run 31 Tryd.f31 400 [.code body31] (initF (C mx) 31 Tryd.f31.ntmps [.ag [.b a0,a1], .ag [.b a2,a3]])=X31 call run a0 a1 a2 a3:=by
 kernel_rfl
theorem c31 {r:AV} (h:X31 (semCall (C mx) Tryd.prog) (semRun (C mx) Tryd.prog 31 Tryd.f31) a0 a1 a2 a3=some r):semCall (C mx) Tryd.prog 31 [.ag [.b a0,a1], .ag [.b a2,a3]]=some r :=
 semCall_unr (fn:=Tryd.f31) (c:=body31) (by kernel_rfl) (by kernel_rfl) 400 (by kernel_rfl) ((text31 _ _ a0 a1 a2 a3).trans h)
end
noncomputable def X31_4 (call:CallT) (run:RunT) (a0:Int) (a1:Bool) (a2:AV) (a3:Bool) (a4:AV):Option AV :=
 (lenR a2).bind fun v1=>(binI .lss (.int a0) v1).bind fun v2=>condM v2
 ((idx 1 a2 (.int a0)).bind fun v3=>(idx 1 a4 (.int a0)).bind fun v4=>(binS .neq (AV.cell v3 0) (AV.cell v4 0)).bind fun v5=>condM v5
 (some (.b false))
 (F31_4 run (w64 (a0+1)) a1 a2 a3 a4))
 (some (.b true))
section
variable (call:CallT) (run:RunT) (a0:Int) (a1:Bool) (a2:AV) (a3:Bool) (a4:AV)
theorem text31_4:step (C mx) call 31 Tryd.f31 (unr (C mx) call run 31 Tryd.f31 400) K31_4 (S31_4 a0 a1 a2 a3 a4)=X31_4 call run a0 a1 a2 a3 a4:=by
 kernel_rfl
end
section
variable (a0:Int) (a1:Bool) (a2:AV) (a3:Bool) (a4:AV)
theorem r31_4 {r:AV} (h:X31_4 (semCall (C mx) Tryd.prog) (semRun (C mx) Tryd.prog 31 Tryd.f31) a0 a1 a2 a3 a4=some r):F31_4 (semRun (C mx) Tryd.prog 31 Tryd.f31) a0 a1 a2 a3 a4=some r :=
 semRun_unr 400 ((text31_4 _ _ a0 a1 a2 a3 a4).trans h)
end
end R3

namespace R3
open Go Go.Proofs Sx
variable {mx:Int}
theorem idxN (p:List (List UInt8)) (x:List UInt8) (r:List (List UInt8)):idx 1 (.ro 1 ((p ++ x :: r).map .s)) (.int (p.length:Int))=some (.s x):=by
 show (if 1=1 then (inN ((p ++ x :: r).map AV.s).length (.int (p.length:Int))).bind fun n=>some (((p ++ x :: r).map AV.s).getD n .un) else none)=_
 rw [if_pos rfl,inN_int (by simp)]
 simp
theorem l31 (b:Bool):∀ (r p:List (List UInt8)),(p ++ r).length≤1000000000→F31_4 (semRun (C mx) Tryd.prog 31 Tryd.f31) (p.length:Int) b (.ro 1 ((p ++ r).map .s)) b (.ro 1 ((p ++ r).map .s))=some (.b true)
 | [],p,h=>by
  apply r31_4
  have e:decide ((p.length:Int) < (((p ++ []).map AV.s).length:Int))=false:=by simp
  simp only [X31_4,lenR_ro,int_lss,e,Option.bind_some,condM_b,Bool.false_eq_true,if_false]
 | x :: r,p,h=>by
  apply r31_4
  have hl:p.length+(r.length+1)≤1000000000:=by simpa using h
  have ih:=l31 b r (p ++ [x]) (by simp;omega)
  have hw:w64 ((p.length:Int)+1)=((p ++ [x]).length:Int):=by rw [w64_eq (by omega) (by omega)];simp
  have e1:p ++ x :: r=(p ++ [x]) ++ r:=by simp
  have hlt:decide ((p.length:Int) < (((p ++ x :: r).map AV.s).length:Int))=true:=by rw [decide_eq_true_eq];simp;omega
  have hc:AV.cell (.s x) 0=.s x:=rfl
  simp only [X31_4,lenR_ro,int_lss,hlt,idxN,hc,s_ne_self,Option.bind_some,condM_b,Bool.false_eq_true,if_false,if_true,hw]
  rw [e1]
  exact ih
theorem s31 (b:Bool) (v:AV) (h:NmOk v):semCall (C mx) Tryd.prog 31 [.ag [.b b,v], .ag [.b b,v]]=some (.b true):=by
 apply c31
 have hb:(b != b)=false:=by simp
 rcases h with rfl | ⟨l,rfl,hl⟩
 ·have e0:lenR .nils=some (.int 0):=rfl
  simp only [X31,hb,e0,int_neq,bne_self_eq_false,Option.bind_some,selW_or,Bool.or_false,condM_b,Bool.false_eq_true,if_false]
  apply r31_4
  simp only [X31_4,e0,int_lss,Option.bind_some]
  rfl
 ·simp only [X31,hb,lenR_ro,int_neq,bne_self_eq_false,Option.bind_some,selW_or,Bool.or_false,condM_b,Bool.false_eq_true,if_false]
  exact l31 (mx:=mx) b l [] (by simpa using hl)
theorem dropF_rep (b:UInt8) (n:Nat) (l:List UInt8):dropF b (List.replicate n b ++ l)=dropF b l:=by
 unfold dropF
 induction n with
 | zero=>rfl
 | succ n ih=>rw [List.replicate_succ,List.cons_append,List.dropWhile_cons];simpa using ih
theorem dropE_rep (b:UInt8) (n:Nat) (l:List UInt8):dropE b (l ++ List.replicate n b)=dropE b l:=by
 unfold dropE
 rw [List.reverse_append,List.reverse_replicate]
 have:=dropF_rep b n l.reverse
 unfold dropF at this
 rw [this]
theorem dropE_app (b:UInt8) (p l:List UInt8):dropE b (p ++ l)=if dropE b l=[] then dropE b p else p ++ dropE b l:=by
 unfold dropE
 rw [List.reverse_append,List.dropWhile_append]
 cases h:List.dropWhile (· == b) l.reverse with
 | nil=>simp
 | cons x r=>simp
end R3

namespace R3
open Go Go.Proofs Sx
variable {mx:Int}
noncomputable def body81:Code:=(Tryd.f81.body).getD .skip
section
variable (run:RunT) (a0:AV)
noncomputable def K81_1:List Item:=(kAt 1 body81 []).getD []
def S81_1:St:=St.ofL [(0, .cell (.val a0))] []
noncomputable def F81_1:Option AV:=run K81_1 (S81_1 a0)
end
section
variable (run:RunT) (a0:AV)
noncomputable def K81_3:List Item:=(kAt 3 body81 []).getD []
def S81_3:St:=St.ofL [(0, .cell (.val a0))] []
noncomputable def F81_3:Option AV:=run K81_3 (S81_3 a0)
end
noncomputable def X81 (call:CallT) (run:RunT) (a0:List UInt8):Option AV :=
 F81_1 run (.s a0)
section
variable (call:CallT) (run:RunT) (a0:List UInt8)
theorem text81:unr (C mx) call run 81 Tryd.f81 400 [.code body81] (initF (C mx) 81 Tryd.f81.ntmps [.s a0])=X81 call run a0:=by
 kernel_rfl
theorem c81 {r:AV} (h:X81 (semCall (C mx) Tryd.prog) (semRun (C mx) Tryd.prog 81 Tryd.f81) a0=some r):semCall (C mx) Tryd.prog 81 [.s a0]=some r :=
 semCall_unr (fn:=Tryd.f81) (c:=body81) (by kernel_rfl) (by kernel_rfl) 400 (by kernel_rfl) ((text81 _ _ a0).trans h)
end
noncomputable def X81_1 (call:CallT) (run:RunT) (a0:AV):Option AV :=
 (lenS a0).bind fun v1=>(binI .gtr v1 (.int 0)).bind fun v2=>(selW v2 true ((idxS a0 (.int 0)).bind fun v3=>(binI .eql v3 (.u8 32)).bind fun v4=>some v4) (.b false)).bind fun v5=>condM v5
 ((slS a0 (some (.int 1)) none).bind fun v6=>F81_1 run v6)
 (F81_3 run a0)
section
variable (call:CallT) (run:RunT) (a0:AV)
theorem text81_1:step (C mx) call 81 Tryd.f81 (unr (C mx) call run 81 Tryd.f81 400) K81_1 (S81_1 a0)=X81_1 call run a0:=by
 kernel_rfl
end
noncomputable def X81_3 (call:CallT) (run:RunT) (a0:AV):Option AV :=
 (lenS a0).bind fun v1=>(binI .gtr v1 (.int 0)).bind fun v2=>(selW v2 true ((lenS a0).bind fun v3=>(binI .sub v3 (.int 1)).bind fun v4=>(idxS a0 v4).bind fun v5=>(binI .eql v5 (.u8 32)).bind fun v6=>some v6) (.b false)).bind fun v7=>condM v7
 ((lenS a0).bind fun v8=>(binI .sub v8 (.int 1)).bind fun v9=>(slS a0 none (some v9)).bind fun v10=>F81_3 run v10)
 (some a0)
section
variable (call:CallT) (run:RunT) (a0:AV)
theorem text81_3:step (C mx) call 81 Tryd.f81 (unr (C mx) call run 81 Tryd.f81 400) K81_3 (S81_3 a0)=X81_3 call run a0:=by
 kernel_rfl
end
section
variable (a0:AV)
theorem r81_1 {r:AV} (h:X81_1 (semCall (C mx) Tryd.prog) (semRun (C mx) Tryd.prog 81 Tryd.f81) a0=some r):F81_1 (semRun (C mx) Tryd.prog 81 Tryd.f81) a0=some r :=
 semRun_unr 400 ((text81_1 _ _ a0).trans h)
end
section
variable (a0:AV)
theorem r81_3 {r:AV} (h:X81_3 (semCall (C mx) Tryd.prog) (semRun (C mx) Tryd.prog 81 Tryd.f81) a0=some r):F81_3 (semRun (C mx) Tryd.prog 81 Tryd.f81) a0=some r :=
 semRun_unr 400 ((text81_3 _ _ a0).trans h)
end
end R3

namespace R3
open Go Go.Proofs Sx
variable {mx:Int}
noncomputable def body82:Code:=(Tryd.f82.body).getD .skip
noncomputable def X82 (call:CallT) (run:RunT) (a0 a1:List UInt8):Option AV :=
 (selW (.b (decide ((a0.length:Int) > (a1.length:Int)))) true ((slS (.s a0) none (some (.int (a1.length:Int)))).bind fun v1=>(binS .eql v1 (.s a1)).bind fun v2=>some v2) (.b false)).bind fun v3=>(selW v3 true ((idxS (.s a0) (.int (a1.length:Int))).bind fun v4=>(binI .eql v4 (.u8 32)).bind fun v5=>some v5) (.b false)).bind fun v6=>some v6
section
variable (call:CallT) (run:RunT) (a0 a1:List UInt8)
theorem text82:unr (C mx) call run 82 Tryd.f82 400 [.code body82] (initF (C mx) 82 Tryd.f82.ntmps [.s a0, .s a1])=X82 call run a0 a1:=by
 kernel_rfl
theorem c82 {r:AV} (h:X82 (semCall (C mx) Tryd.prog) (semRun (C mx) Tryd.prog 82 Tryd.f82) a0 a1=some r):semCall (C mx) Tryd.prog 82 [.s a0, .s a1]=some r :=
 semCall_unr (fn:=Tryd.f82) (c:=body82) (by kernel_rfl) (by kernel_rfl) 400 (by kernel_rfl) ((text82 _ _ a0 a1).trans h)
end
end R3

namespace R3
open Go Go.Proofs Sx
variable {mx:Int}
noncomputable def body55:Code:=(Tryd.f55.body).getD .skip
noncomputable def X55 (call:CallT) (run:RunT) (a0:List UInt8) (a1:Int) (a2:List UInt8):Option AV :=
 (selW (.b (decide (a1 ≥ 0))) true (some (.b (decide ((w64 ((a0.length:Int) - a1)) ≥ (a2.length:Int))))) (.b false)).bind fun v1=>(selW v1 true ((slS (.s a0) (some (.int a1)) (some (.int (w64 (a1+(a2.length:Int)))))).bind fun v2=>(binS .eql v2 (.s a2)).bind fun v3=>some v3) (.b false)).bind fun v4=>some v4
section
variable (call:CallT) (run:RunT) (a0:List UInt8) (a1:Int) (a2:List UInt8)
theorem text55:unr (C mx) call run 55 Tryd.f55 400 [.code body55] (initF (C mx) 55 Tryd.f55.ntmps [.s a0, .int a1, .s a2])=X55 call run a0 a1 a2:=by
 kernel_rfl
theorem c55 {r:AV} (h:X55 (semCall (C mx) Tryd.prog) (semRun (C mx) Tryd.prog 55 Tryd.f55) a0 a1 a2=some r):semCall (C mx) Tryd.prog 55 [.s a0, .int a1, .s a2]=some r :=
 semCall_unr (fn:=Tryd.f55) (c:=body55) (by kernel_rfl) (by kernel_rfl) 400 (by kernel_rfl) ((text55 _ _ a0 a1 a2).trans h)
end
end R3

namespace R3
open Go Go.Proofs Sx
variable {mx:Int}
noncomputable def body30:Code:=(Tryd.f30.body).getD .skip
section
variable (run:RunT) (a0:List UInt8) (a1:Int)
noncomputable def K30_4:List Item:=(kAt 4 body30 []).getD []
def S30_4:St:=St.ofL [(0, .cell (.val (.s a0))),(3, .cell (.val (.int a1)))] []
noncomputable def F30_4:Option AV:=run K30_4 (S30_4 a0 a1)
end
noncomputable def X30 (call:CallT) (run:RunT) (a0:List UInt8):Option AV :=
 (selW (.b ((a0.length:Int) == 0)) false (some (.b (decide ((a0.length:Int) > 32)))) (.b true)).bind fun v1=>(selW v1 false ((idxS (.s a0) (.int 0)).bind fun v2=>(binI .lss v2 (.u8 97)).bind fun v3=>some v3) (.b true)).bind fun v4=>(selW v4 false ((idxS (.s a0) (.int 0)).bind fun v5=>(binI .gtr v5 (.u8 122)).bind fun v6=>some v6) (.b true)).bind fun v7=>condM v7
 (some (.b false))
 (F30_4 run a0 0)
section
variable (call:CallT) (run:RunT) (a0:List UInt8)
theorem text30:unr (C mx) call run 30 Tryd.f30 400 [.code body30] (initF (C mx) 30 Tryd.f30.ntmps [.s a0])=X30 call run a0:=by
 kernel_rfl
theorem c30 {r:AV} (h:X30 (semCall (C mx) Tryd.prog) (semRun (C mx) Tryd.prog 30 Tryd.f30) a0=some r):semCall (C mx) Tryd.prog 30 [.s a0]=some r :=
 semCall_unr (fn:=Tryd.f30) (c:=body30) (by kernel_rfl) (by kernel_rfl) 400 (by kernel_rfl) ((text30 _ _ a0).trans h)
end
noncomputable def X30_4 (call:CallT) (run:RunT) (a0:List UInt8) (a1:Int):Option AV :=
 condM (.b (decide (a1 < (a0.length:Int))))
 ((idxS (.s a0) (.int a1)).bind fun v1=>(binI .geq v1 (.u8 97)).bind fun v2=>(selW v2 true ((binI .leq v1 (.u8 122)).bind fun v3=>some v3) (.b false)).bind fun v4=>(selW v4 false ((binI .geq v1 (.u8 48)).bind fun v5=>(selW v5 true ((binI .leq v1 (.u8 57)).bind fun v6=>some v6) (.b false)).bind fun v7=>some v7) (.b true)).bind fun v8=>(selW v8 false ((binI .eql v1 (.u8 95)).bind fun v9=>some v9) (.b true)).bind fun v10=>(unop .not v10).bind fun v11=>condM v11
 (some (.b false))
 (F30_4 run a0 (w64 (a1+1))))
 (some (.b true))
section
variable (call:CallT) (run:RunT) (a0:List UInt8) (a1:Int)
theorem text30_4:step (C mx) call 30 Tryd.f30 (unr (C mx) call run 30 Tryd.f30 400) K30_4 (S30_4 a0 a1)=X30_4 call run a0 a1:=by
 kernel_rfl
end
section
variable (a0:List UInt8) (a1:Int)
theorem r30_4 {r:AV} (h:X30_4 (semCall (C mx) Tryd.prog) (semRun (C mx) Tryd.prog 30 Tryd.f30) a0 a1=some r):F30_4 (semRun (C mx) Tryd.prog 30 Tryd.f30) a0 a1=some r :=
 semRun_unr 400 ((text30_4 _ _ a0 a1).trans h)
end
end R3

namespace R3
open Go Go.Proofs Sx
variable {mx:Int}
theorem dropF_form (b:UInt8):∀ (l:List UInt8),∃ n,l=List.replicate n b ++ dropF b l∧(dropF b l=[]∨∃ x r,dropF b l=x :: r∧(x == b)=false)
 | []=>⟨0,rfl,Or.inl rfl⟩
 | x :: r=>by
  obtain ⟨n,h1,h2⟩:=dropF_form b r
  cases hx:(x == b) with
  | true =>
   have e:dropF b (x :: r)=dropF b r:=by unfold dropF;rw [List.dropWhile_cons,if_pos hx]
   rw [e]
   have hx':x=b:=by simpa using hx
   subst hx'
   exact ⟨n+1,by rw [List.replicate_succ,List.cons_append,← h1],h2⟩
  | false =>
   have e:dropF b (x :: r)=x :: r:=by unfold dropF;rw [List.dropWhile_cons,if_neg (by rw [hx];decide)]
   rw [e]
   exact ⟨0,rfl,Or.inr ⟨x,r,rfl,hx⟩⟩
theorem dropE_pre (b:UInt8) (l:List UInt8):∃ t,l=dropE b l ++ t:=by
 refine ⟨(l.reverse.takeWhile (· == b)).reverse,?_⟩
 unfold dropE
 rw [← List.reverse_append,List.takeWhile_append_dropWhile,List.reverse_reverse]
theorem dropE_repl (b:UInt8) (n:Nat):dropE b (List.replicate n b)=[]:=by
 have:=dropE_rep b n []
 simpa [dropE] using this
theorem drop_swap (b:UInt8) (l:List UInt8):dropE b (dropF b l)=dropF b (dropE b l):=by
 obtain ⟨n,h1,h2⟩:=dropF_form b l
 generalize hm:dropF b l=m at h1 h2
 rw [h1,dropE_app]
 split
 ·rename_i h
  rw [h,dropE_repl];rfl
 ·rename_i h
  rw [dropF_rep]
  rcases h2 with rfl | ⟨x,r,rfl,hx⟩
  ·exact absurd rfl h
  ·obtain ⟨t,ht⟩:=dropE_pre b (x :: r)
   cases hd:dropE b (x :: r) with
   | nil=>exact absurd hd h
   | cons y q =>
    rw [hd] at ht
    have:x=y:=(List.cons.inj ht).1
    subst this
    unfold dropF
    rw [List.dropWhile_cons,if_neg (by rw [hx];decide)]
theorem l81_3:∀ (n:Nat) (l:List UInt8),l.length=n→n≤1000000000→F81_3 (semRun (C mx) Tryd.prog 81 Tryd.f81) (.s l)=some (.s (dropE 32 l))
 | 0,l,hn,h=>by
  obtain rfl:=List.eq_nil_of_length_eq_zero hn
  apply r81_3
  rfl
 | n+1,l,hn,h=>by
  apply r81_3
  obtain ⟨p,x,rfl⟩:∃ p x,l=p ++ [x]:=by
   rcases List.eq_nil_or_concat l with e | ⟨p,x,e⟩
   ·rw [e] at hn;cases hn
   ·exact ⟨p,x,by simpa using e⟩
  have hp:p.length=n:=by simpa using hn
  have ih:=l81_3 n p hp (by omega)
  have hl:(p ++ [x]).length=p.length+1:=by simp
  have hsub:binI .sub (.int ((p.length+1:Nat):Int)) (.int 1)=some (.int (p.length:Int)):=by
   show some (AV.int (w64 _))=_
   rw [w64_eq (by omega) (by omega)];congr 2;omega
  have hi:idxS (.s (p ++ [x])) (.int (p.length:Int))=some (.u8 x):=idxS_at p x []
  have hs:slS (.s (p ++ [x])) none (some (.int (p.length:Int)))=some (.s p):=by
   rw [slS_hi (by simp)];simp
  simp only [X81_3,lenS_l,hl,gt0,hsub,hi,hs,Option.bind_some,u8_eql,selW_and,Bool.true_and,condM_b]
  unfold dropE
  rw [List.reverse_append,List.reverse_singleton,List.singleton_append,List.dropWhile_cons]
  cases hx:(x == (32:UInt8)) with
  | true=>simp only [if_true];exact ih
  | false=>simp only [Bool.false_eq_true,if_false];simp
theorem l81_1:∀ (l:List UInt8),l.length≤1000000000→F81_1 (semRun (C mx) Tryd.prog 81 Tryd.f81) (.s l)=some (.s (dropE 32 (dropF 32 l)))
 | [],_=>by
  apply r81_1
  have:=l81_3 (mx:=mx) 0 [] rfl (by omega)
  exact this
 | x :: r,h=>by
  apply r81_1
  have ih:=l81_1 r (by simp at h;omega)
  have hi:idxS (.s (x :: r)) (.int 0)=some (.u8 x):=idxS_int (i:=0) (l:=x :: r) (by simp)
  have hs:slS (.s (x :: r)) (some (.int 1)) none=some (.s r):=slS_lo (l:=x :: r) (i:=1) (by simp)
  simp only [X81_1,lenS_l,List.length_cons,gt0,hi,hs,Option.bind_some,u8_eql,selW_and,Bool.true_and,condM_b]
  unfold dropF
  rw [List.dropWhile_cons]
  cases hx:(x == (32:UInt8)) with
  | true=>simp only [if_true];exact ih
  | false=>simp only [Bool.false_eq_true,if_false];exact l81_3 (mx:=mx) _ (x :: r) rfl h
theorem s81 (l:List UInt8) (h:l.length≤1000000000):semCall (C mx) Tryd.prog 81 [.s l]=some (.s (trimW l)):=by
 apply c81
 have:=l81_1 (mx:=mx) l h
 rw [drop_swap] at this
 exact this
theorem pre_iff (p l:List UInt8):pre p l=p.isPrefixOf l:=by
 rw [Bool.eq_iff_iff,List.isPrefixOf_iff_prefix]
 unfold pre
 simp only [Bool.and_eq_true,decide_eq_true_eq,beq_iff_eq]
 constructor
 ·rintro ⟨_,h⟩
  have e:l.take p.length ++ l.drop p.length=l:=List.take_append_drop _ _
  rw [h] at e
  exact ⟨l.drop p.length,e⟩
 ·rintro ⟨t,rfl⟩
  exact ⟨by simp,by simp⟩
theorem s82 (l p:List UInt8) (hl:l.length≤1000000000):semCall (C mx) Tryd.prog 82 [.s l, .s p]=some (.b (pre (p ++ [32]) l)):=by
 apply c82
 by_cases h:p.length < l.length
 ·have hd:decide ((l.length:Int) > (p.length:Int))=true:=by rw [decide_eq_true_eq];omega
  have hs:slS (.s l) none (some (.int (p.length:Int)))=some (.s (l.take p.length)):=slS_hi (by omega)
  have hi:idxS (.s l) (.int (p.length:Int))=some (.u8 l[p.length]):=idxS_int h
  simp only [X82,hd,hs,hi,s_eql,u8_eql,selW_and,Option.bind_some,Bool.true_and]
  congr 2
  unfold pre
  have h1:decide ((p ++ [32]).length≤l.length)=true:=by rw [decide_eq_true_eq];simp;omega
  have h2:l.take (p ++ [32]).length=l.take p.length ++ [l[p.length]]:=by
   rw [List.length_append,List.length_singleton,List.take_succ_eq_append_getElem h]
  rw [h1,h2,Bool.true_and,Bool.eq_iff_iff,Bool.and_eq_true,beq_iff_eq,beq_iff_eq,beq_iff_eq]
  constructor
  ·rintro ⟨h3,h4⟩;rw [h3,h4]
  ·intro h3
   have h5:=List.append_inj' h3 rfl
   exact ⟨h5.1,by simpa using h5.2⟩
 ·have hd:decide ((l.length:Int) > (p.length:Int))=false:=by rw [decide_eq_false_iff_not];omega
  have hp:pre (p ++ [32]) l=false:=by
   unfold pre
   have:decide ((p ++ [32]).length≤l.length)=false:=by rw [decide_eq_false_iff_not];simp;omega
   rw [this,Bool.false_and]
  rw [hp]
  simp only [X82,hd]
  rfl
theorem s55 (l p:List UInt8) (k:Nat) (hl:l.length≤1000000000) (hk:k≤l.length) (hp:p.length≤1000000000):semCall (C mx) Tryd.prog 55 [.s l, .int (k:Int), .s p]=some (.b (Lib.occAt l p k)):=by
 apply c55
 have h0:decide ((k:Int) ≥ 0)=true:=by rw [decide_eq_true_eq];omega
 have hw:w64 ((l.length:Int) - (k:Int))=((l.length - k:Nat):Int):=by rw [w64_eq (by omega) (by omega)];omega
 have ho:Lib.occAt l p k=pre p (l.drop k):=by rw [pre_iff];rfl
 rw [ho]
 unfold pre
 rw [List.length_drop]
 by_cases h:p.length≤l.length - k
 ·have hd:decide (((l.length - k:Nat):Int) ≥ (p.length:Int))=true:=by rw [decide_eq_true_eq];omega
  have hd':decide (p.length≤l.length - k)=true:=by rw [decide_eq_true_eq];exact h
  have hw2:w64 ((k:Int)+(p.length:Int))=((k+p.length:Nat):Int):=by rw [w64_eq (by omega) (by omega)];omega
  have hs:=sl_piece l k p.length (by omega)
  simp only [X55,h0,hw,hd,hd',hw2,hs,s_eql,selW_and,Option.bind_some,Bool.true_and]
 ·have hd:decide (((l.length - k:Nat):Int) ≥ (p.length:Int))=false:=by rw [decide_eq_false_iff_not];omega
  have hd':decide (p.length≤l.length - k)=false:=by rw [decide_eq_false_iff_not];exact h
  simp only [X55,h0,hw,hd,hd',selW_and,Option.bind_some,Bool.true_and,Bool.false_and]
  rfl
theorem l30 (l:List UInt8) (hl:l.length≤32):∀ (r p:List UInt8),l=p ++ r→F30_4 (semRun (C mx) Tryd.prog 30 Tryd.f30) l (p.length:Int)=some (.b (r.all (okN 1)))
 | [],p,e=>by
  apply r30_4
  have hd:decide ((p.length:Int) < (l.length:Int))=false:=by rw [e];simp
  simp only [X30_4,hd,condM_b,Bool.false_eq_true,if_false]
  rfl
 | c :: r,p,e=>by
  apply r30_4
  have ih:=l30 l hl r (p ++ [c]) (by rw [e];simp)
  have hle:p.length+(r.length+1)≤32:=by rw [e] at hl;simpa using hl
  have hd:decide ((p.length:Int) < (l.length:Int))=true:=by rw [decide_eq_true_eq,e];simp;omega
  have hi:idxS (.s l) (.int (p.length:Int))=some (.u8 c):=by rw [e];exact idxS_at p c r
  have hw:w64 ((p.length:Int)+1)=((p ++ [c]).length:Int):=by rw [w64_eq (by omega) (by omega)];simp
  simp only [X30_4,hd,hi,hw,u8_geq,u8_leq,u8_eql,selW_and,selW_or,unop_not,Option.bind_some,condM_b,if_true]
  rw [List.all_cons]
  have eo:okN 1 c=(((decide (97≤c) && decide (c≤122)) || (decide (48≤c) && decide (c≤57))) || c == 95):=by
   unfold okN
   rw [show ((1:Nat) == 0)=false from rfl,Bool.not_false,Bool.true_and,Bool.or_assoc]
  rw [← eo]
  cases ho:okN 1 c with
  | true=>simp only [Bool.not_true,Bool.false_eq_true,if_false,Bool.true_and];exact ih
  | false=>simp only [Bool.not_false,if_true,Bool.false_and]
theorem okAll_succ:∀ (l:List UInt8) (i:Nat),okAll (i+1) l=l.all (okN 1)
 | [],i=>rfl
 | b :: r,i=>by
  rw [okAll,okAll_succ r (i+1),List.all_cons]
  congr 1
theorem okN0 (b:UInt8):okN 0 b=(decide (97≤b) && decide (b≤122)):=by
 unfold okN
 simp
theorem s30 (l:List UInt8) (hl:l.length≤1000000000):semCall (C mx) Tryd.prog 30 [.s l]=some (.b (nameB l)):=by
 apply c30
 cases l with
 | nil=>rfl
 | cons b r =>
  have hi:idxS (.s (b :: r)) (.int 0)=some (.u8 b):=idxS_int (i:=0) (l:=b :: r) (by simp)
  have h0:(((b :: r).length:Int) == 0)=false:=by rw [beq_eq_false_iff_ne];simp;omega
  unfold nameB
  have e1:decide (1≤(b :: r).length)=true:=by rw [decide_eq_true_eq];simp
  rw [okAll,okAll_succ,okN0,e1,Bool.true_and]
  simp only [X30,hi,h0,u8_lss,u8_gtr,selW_or,Option.bind_some,condM_b,Bool.false_or]
  have hlt:decide (b < 97)=!decide (97≤b):=by
   rw [Bool.eq_iff_iff];simp
  have hgt:decide (122 < b)=!decide (b≤122):=by
   rw [Bool.eq_iff_iff];simp
  have hln:decide (((b :: r).length:Int) > 32)=!decide ((b :: r).length≤32):=by
   rw [Bool.eq_iff_iff];simp <;> omega
  rw [hlt,hgt,hln]
  by_cases h32:(b :: r).length≤32
  ·have ih:=l30 (mx:=mx) (b :: r) h32 (b :: r) [] rfl
   rw [List.all_cons] at ih
   have ih:F30_4 (semRun (C mx) Tryd.prog 30 Tryd.f30) (b :: r) 0=some (.b (okN 1 b && r.all (okN 1))):=ih
   rw [ih]
   have:decide ((b :: r).length≤32)=true:=by rw [decide_eq_true_eq];exact h32
   rw [this]
   have ho:okN 1 b=((decide (97≤b) && decide (b≤122)) || (!((1:Nat) == 0) && ((decide (48≤b) && decide (b≤57)) || b == 95))):=rfl
   rw [ho]
   cases decide (97≤b) <;> cases decide (b≤122) <;> simp
  ·have:decide ((b :: r).length≤32)=false:=by rw [decide_eq_false_iff_not];exact h32
   rw [this]
   simp
end R3

namespace R3
open Go Go.Proofs Sx
variable {mx:Int}
noncomputable def body28:Code:=(Tryd.f28.body).getD .skip
section
variable (run:RunT) (a0:AV) (a1:Bool) (a2:AV) (a3:Bool) (a4:List AV)
noncomputable def K28_9:List Item:=(kAt 9 body28 []).getD []
def S28_9:St:=St.ofL [(0, .cell (.val a0)),(2, .cell (.ptr 2 0)),(4, .cell (.ptr 4 0))] [(2,some [.val (.b a1), .val (a2)]),(4,some [.val (.b a3), .own 604001 9 1 a4])]
noncomputable def F28_9:Option AV:=run K28_9 (S28_9 a0 a1 a2 a3 a4)
end
section
variable (run:RunT) (a0:AV) (a1 a2:Int) (a3:Bool) (a4:AV) (a5:Bool) (a6:List AV)
noncomputable def K28_11:List Item:=(kAt 11 body28 []).getD []
def S28_11:St:=St.ofL [(0, .cell (.val a0)),(2, .cell (.ptr 2 0)),(4, .cell (.ptr 4 0)),(5, .cell (.val (.int a1))),(6, .cell (.val (.int a2)))] [(2,some [.val (.b a3), .val (a4)]),(4,some [.val (.b a5), .own 604001 9 1 a6])]
noncomputable def F28_11:Option AV:=run K28_11 (S28_11 a0 a1 a2 a3 a4 a5 a6)
end
section
variable (run:RunT) (a0:AV) (a1 a2:Int) (a3:Bool) (a4:AV) (a5:Bool) (a6:List AV)
noncomputable def K28_12:List Item:=(kAt 12 body28 []).getD []
def S28_12:St:=St.ofL [(0, .cell (.val a0)),(2, .cell (.ptr 2 0)),(4, .cell (.ptr 4 0)),(5, .cell (.val (.int a1))),(6, .cell (.val (.int a2)))] [(2,some [.val (.b a3), .val (a4)]),(4,some [.val (.b a5), .own 604001 9 1 a6])]
noncomputable def F28_12:Option AV:=run K28_12 (S28_12 a0 a1 a2 a3 a4 a5 a6)
end
noncomputable def X28 (call:CallT) (run:RunT) (a0:List UInt8):Option AV :=
 condM (.b (a0 == [46]))
 (some (.tu [.ag [.b false, .nils], .b true]))
 (condM (.b (a0 == [36]))
 (some (.tu [.ag [.b true, .nils], .b true]))
 ((selW (.b (decide ((a0.length:Int) ≥ 2))) true ((idxS (.s a0) (.int 0)).bind fun v1=>(binI .eql v1 (.u8 36)).bind fun v2=>some v2) (.b false)).bind fun v3=>(selW v3 true ((idxS (.s a0) (.int 1)).bind fun v4=>(binI .eql v4 (.u8 46)).bind fun v5=>some v5) (.b false)).bind fun v6=>condM v6
 ((slS (.s a0) (some (.int 2)) none).bind fun v7=>F28_9 run v7 false (.nils) true [])
 (F28_9 run (.s a0) false (.nils) false [])))
section
variable (call:CallT) (run:RunT) (a0:List UInt8)
theorem text28:unr (C mx) call run 28 Tryd.f28 400 [.code body28] (initF (C mx) 28 Tryd.f28.ntmps [.s a0])=X28 call run a0:=by
 kernel_rfl
theorem c28 {r:AV} (h:X28 (semCall (C mx) Tryd.prog) (semRun (C mx) Tryd.prog 28 Tryd.f28) a0=some r):semCall (C mx) Tryd.prog 28 [.s a0]=some r :=
 semCall_unr (fn:=Tryd.f28) (c:=body28) (by kernel_rfl) (by kernel_rfl) 400 (by kernel_rfl) ((text28 _ _ a0).trans h)
end
noncomputable def X28_9 (call:CallT) (run:RunT) (a0:AV) (a1:Bool) (a2:AV) (a3:Bool) (a4:List AV):Option AV :=
 F28_11 run a0 0 0 a1 a2 a3 a4
section
variable (call:CallT) (run:RunT) (a0:AV) (a1:Bool) (a2:AV) (a3:Bool) (a4:List AV)
theorem text28_9:step (C mx) call 28 Tryd.f28 (unr (C mx) call run 28 Tryd.f28 400) K28_9 (S28_9 a0 a1 a2 a3 a4)=X28_9 call run a0 a1 a2 a3 a4:=by
 kernel_rfl
end
noncomputable def X28_11 (call:CallT) (run:RunT) (a0:AV) (a1 a2:Int) (a3:Bool) (a4:AV) (a5:Bool) (a6:List AV):Option AV :=
 (lenS a0).bind fun v1=>(binI .leq (.int a2) v1).bind fun v2=>condM v2
 ((lenS a0).bind fun v3=>(binI .lss (.int a2) v3).bind fun v4=>(selW v4 true ((idxS a0 (.int a2)).bind fun v5=>(binI .neq v5 (.u8 46)).bind fun v6=>some v6) (.b false)).bind fun v7=>condM v7
 (F28_12 run a0 a1 a2 a3 a4 a5 a6)
 ((slS a0 (some (.int a1)) (some (.int a2))).bind fun v8=>(call 30 [v8]).bind fun v9=>(unop .not v9).bind fun v10=>(selW v10 false (some (.b (decide ((a6.length:Int) ≥ 8)))) (.b true)).bind fun v11=>condM v11
 (some (.tu [.ag [.b false, .nils], .b false]))
 ((slS a0 (some (.int a1)) (some (.int a2))).bind fun v12=>(AV.one v12).bind fun v13=>(app 16 1 a6 (.ro 1 (([v13]:List AV)))).bind fun v14=>F28_12 run a0 (w64 (a2+1)) a2 a3 a4 a5 v14)))
 (some (.tu [.ag [.b a5, .ro 1 a6], .b true]))
section
variable (call:CallT) (run:RunT) (a0:AV) (a1 a2:Int) (a3:Bool) (a4:AV) (a5:Bool) (a6:List AV)
theorem text28_11:step (C mx) call 28 Tryd.f28 (unr (C mx) call run 28 Tryd.f28 400) K28_11 (S28_11 a0 a1 a2 a3 a4 a5 a6)=X28_11 call run a0 a1 a2 a3 a4 a5 a6:=by
 kernel_rfl
end
noncomputable def X28_12 (call:CallT) (run:RunT) (a0:AV) (a1 a2:Int) (a3:Bool) (a4:AV) (a5:Bool) (a6:List AV):Option AV :=
 F28_11 run a0 a1 (w64 (a2+1)) a3 a4 a5 a6
section
variable (call:CallT) (run:RunT) (a0:AV) (a1 a2:Int) (a3:Bool) (a4:AV) (a5:Bool) (a6:List AV)
theorem text28_12:step (C mx) call 28 Tryd.f28 (unr (C mx) call run 28 Tryd.f28 400) K28_12 (S28_12 a0 a1 a2 a3 a4 a5 a6)=X28_12 call run a0 a1 a2 a3 a4 a5 a6:=by
 kernel_rfl
end
section
variable (a0:AV) (a1:Bool) (a2:AV) (a3:Bool) (a4:List AV)
theorem r28_9 {r:AV} (h:X28_9 (semCall (C mx) Tryd.prog) (semRun (C mx) Tryd.prog 28 Tryd.f28) a0 a1 a2 a3 a4=some r):F28_9 (semRun (C mx) Tryd.prog 28 Tryd.f28) a0 a1 a2 a3 a4=some r :=
 semRun_unr 400 ((text28_9 _ _ a0 a1 a2 a3 a4).trans h)
end
section
variable (a0:AV) (a1 a2:Int) (a3:Bool) (a4:AV) (a5:Bool) (a6:List AV)
theorem r28_11 {r:AV} (h:X28_11 (semCall (C mx) Tryd.prog) (semRun (C mx) Tryd.prog 28 Tryd.f28) a0 a1 a2 a3 a4 a5 a6=some r):F28_11 (semRun (C mx) Tryd.prog 28 Tryd.f28) a0 a1 a2 a3 a4 a5 a6=some r :=
 semRun_unr 400 ((text28_11 _ _ a0 a1 a2 a3 a4 a5 a6).trans h)
end
section
variable (a0:AV) (a1 a2:Int) (a3:Bool) (a4:AV) (a5:Bool) (a6:List AV)
theorem r28_12 {r:AV} (h:X28_12 (semCall (C mx) Tryd.prog) (semRun (C mx) Tryd.prog 28 Tryd.f28) a0 a1 a2 a3 a4 a5 a6=some r):F28_12 (semRun (C mx) Tryd.prog 28 Tryd.f28) a0 a1 a2 a3 a4 a5 a6=some r :=
 semRun_unr 400 ((text28_12 _ _ a0 a1 a2 a3 a4 a5 a6).trans h)
end
end R3

namespace R3
open Go Go.Proofs Sx
variable {mx:Int}
def wayFail:AV:=.tu [.ag [.b false, .nils], .b false]
def wayL (b:Bool) (acc segs:List (List UInt8)):AV :=
 if segs.all nameB && decide (acc.length+segs.length≤8) then .tu [.ag [.b b, .ro 1 ((acc ++ segs).map .s)], .b true] else wayFail
theorem wayL_cons (b:Bool) (acc:List (List UInt8)) (x:List UInt8) (t:List (List UInt8)):wayL b acc (x :: t)=if !nameB x || decide ((acc.length:Int) ≥ 8) then wayFail else wayL b (acc ++ [x]) t:=by
 unfold wayL
 rw [List.all_cons]
 cases hx:nameB x with
 | false=>simp
 | true =>
  by_cases h8:8≤acc.length
  ·have h1:decide ((acc.length:Int) ≥ 8)=true:=by rw [decide_eq_true_eq];omega
   have h2:decide (acc.length+(x :: t).length≤8)=false:=by rw [decide_eq_false_iff_not];simp;omega
   rw [h1,h2];simp
  ·have h1:decide ((acc.length:Int) ≥ 8)=false:=by rw [decide_eq_false_iff_not];omega
   have h2:(acc ++ [x]).length+t.length=acc.length+(x :: t).length:=by simp;omega
   rw [h1,h2];simp
theorem app16 (acc:List (List UInt8)) (x:List UInt8) (h:acc.length≤100):app 16 1 (acc.map .s) (.ro 1 ([.s x]:List AV))=some ((acc ++ [x]).map .s):=by
 have hb:big=70368744177664:=rfl
 show ((if 1=1 then some [AV.s x] else none).bind fun q=>if ((acc.map AV.s).length+q.length) * 16≤big then some (acc.map AV.s ++ q) else none)=_
 rw [if_pos rfl]
 simp only [Option.bind_some,List.length_map,List.length_cons,List.length_nil,hb]
 rw [if_pos (by omega),List.map_append];rfl
theorem l28_end (l:List UInt8) (hl:l.length≤1000000000) (b:Bool) (acc:List (List UInt8)) (i j:Int) (hj:(l.length:Int) < j) (h8:acc.length≤8) :
  F28_11 (semRun (C mx) Tryd.prog 28 Tryd.f28) (.s l) i j false .nils b (acc.map .s)=some (wayL b acc []):=by
 apply r28_11
 have hd:decide (j≤(l.length:Int))=false:=by rw [decide_eq_false_iff_not];omega
 simp only [X28_11,lenS_l,int_leq,hd,Option.bind_some,condM_b,Bool.false_eq_true,if_false]
 unfold wayL
 have:decide (acc.length+([]:List (List UInt8)).length≤8)=true:=by rw [decide_eq_true_eq];simpa using h8
 rw [this,List.append_nil]
 rfl
theorem l28 (l:List UInt8) (hl:l.length≤1000000000) (b:Bool):∀ (r p cur:List UInt8) (acc:List (List UInt8)) (h:List UInt8) (t:List (List UInt8)),l=p ++ (cur ++ r)→splitL r=h :: t→acc.length≤8 →
  F28_11 (semRun (C mx) Tryd.prog 28 Tryd.f28) (.s l) (p.length:Int) ((p.length+cur.length:Nat):Int) false .nils b (acc.map .s)=some (wayL b acc ((cur ++ h) :: t))
 | [],p,cur,acc,h,t,e,hs,h8=>by
  cases hs
  apply r28_11
  have el:l.length=p.length+cur.length:=by rw [e];simp
  have hd:decide (((p.length+cur.length:Nat):Int)≤(l.length:Int))=true:=by rw [decide_eq_true_eq];omega
  have hd2:decide (((p.length+cur.length:Nat):Int) < (l.length:Int))=false:=by rw [decide_eq_false_iff_not];omega
  have hsl:=sl_piece l p.length cur.length (by omega)
  have ecur:(l.drop p.length).take cur.length=cur:=by rw [e,List.drop_left,List.append_nil,List.take_length]
  rw [ecur] at hsl
  have hn:=s30 (mx:=mx) cur (by omega)
  simp only [X28_11,lenS_l,int_leq,int_lss,hd,hd2,hsl,hn,one_s,unop_not,Option.bind_some,condM_b,if_true,selW_tf,Bool.false_eq_true,if_false,selW_or,List.length_map]
  rw [List.append_nil,wayL_cons]
  cases hc:(!nameB cur || decide ((acc.length:Int) ≥ 8)) with
  | true=>simp only [if_true];rfl
  | false =>
   simp only [Bool.false_eq_true,if_false]
   have h7:acc.length < 8:=by
    simp only [Bool.or_eq_false_iff,decide_eq_false_iff_not] at hc
    omega
   simp only [app16 acc cur (by omega),Option.bind_some]
   apply r28_12
   have hw:w64 (((p.length+cur.length:Nat):Int)+1)=((p.length+cur.length+1:Nat):Int):=by rw [w64_eq (by omega) (by omega)];omega
   simp only [X28_12,hw]
   exact l28_end l hl b (acc ++ [cur]) _ _ (by omega) (by simp;omega)
 | c :: r,p,cur,acc,h,t,e,hs,h8=>by
  apply r28_11
  have el:l.length=p.length+(cur.length+(r.length+1)):=by rw [e];simp
  have hd:decide (((p.length+cur.length:Nat):Int)≤(l.length:Int))=true:=by rw [decide_eq_true_eq];omega
  have hd2:decide (((p.length+cur.length:Nat):Int) < (l.length:Int))=true:=by rw [decide_eq_true_eq];omega
  have hi:idxS (.s l) (.int ((p.length+cur.length:Nat):Int))=some (.u8 c):=by
   have:=idxS_at (p ++ cur) c r
   rw [List.length_append,List.append_assoc,← e] at this
   exact this
  have hw:w64 (((p.length+cur.length:Nat):Int)+1)=((p.length+cur.length+1:Nat):Int):=by rw [w64_eq (by omega) (by omega)];omega
  obtain ⟨h',t',hs'⟩:=splitL_cons r
  rw [splitL_eq] at hs
  cases hc:(c == 46) with
  | true =>
   rw [hc,if_pos rfl] at hs
   cases hs
   have hne:(c != 46)=false:=by rw [bne,hc];rfl
   have hsl:=sl_piece l p.length cur.length (by omega)
   have ecur:(l.drop p.length).take cur.length=cur:=by rw [e,List.drop_left,List.take_left]
   rw [ecur] at hsl
   have hn:=s30 (mx:=mx) cur (by omega)
   simp only [X28_11,lenS_l,int_leq,int_lss,hd,hd2,hi,u8_neq,hne,hsl,hn,one_s,unop_not,Option.bind_some,condM_b,if_true,selW_and,Bool.true_and,Bool.false_eq_true,if_false,selW_or,List.length_map]
   rw [List.append_nil,wayL_cons]
   cases hc:(!nameB cur || decide ((acc.length:Int) ≥ 8)) with
   | true=>simp only [if_true];rfl
   | false =>
    simp only [Bool.false_eq_true,if_false]
    have h7:acc.length < 8:=by
     simp only [Bool.or_eq_false_iff,decide_eq_false_iff_not] at hc
     omega
    simp only [app16 acc cur (by omega),Option.bind_some]
    apply r28_12
    simp only [X28_12,hw]
    have hc46:c=46:=by simpa using ‹(c == 46)=true›
    have ih:=l28 l hl b r (p ++ (cur ++ [c])) [] (acc ++ [cur]) h' t' (by rw [e];simp) hs' (by simp;omega)
    have e1:(p ++ (cur ++ [c])).length=p.length+cur.length+1:=by simp;omega
    rw [e1,List.nil_append] at ih
    rw [hs']
    exact ih
  | false =>
   rw [hc,if_neg (by decide),hs'] at hs
   cases hs
   have hne:(c != 46)=true:=by rw [bne,hc];rfl
   simp only [X28_11,lenS_l,int_leq,int_lss,hd,hd2,hi,u8_neq,hne,Option.bind_some,condM_b,if_true,selW_and,Bool.true_and]
   apply r28_12
   simp only [X28_12,hw]
   have ih:=l28 l hl b r p (cur ++ [c]) acc h' t (by rw [e];simp) hs' h8
   have e1:p.length+(cur ++ [c]).length=p.length+cur.length+1:=by simp;omega
   rw [e1,List.append_assoc] at ih
   exact ih
theorem wayL_nil (b:Bool) (segs:List (List UInt8)):wayL b [] segs=if segs.all nameB && decide (segs.length≤8) then .tu [.ag [.b b, .ro 1 (segs.map .s)], .b true] else wayFail:=by
 unfold wayL
 simp
theorem l28_all (l:List UInt8) (hl:l.length≤1000000000) (b:Bool):F28_9 (semRun (C mx) Tryd.prog 28 Tryd.f28) (.s l) false .nils b []=some (wayL b [] (splitL l)):=by
 apply r28_9
 obtain ⟨h,t,hs⟩:=splitL_cons l
 have:=l28 (mx:=mx) l hl b l [] [] [] h t rfl hs (by simp)
 rw [hs]
 exact this
theorem s28 (l:List UInt8) (hl:l.length≤1000000000):semCall (C mx) Tryd.prog 28 [.s l]=some (wayAV l):=by
 apply c28
 unfold wayAV
 cases h1:(l == [46]) with
 | true=>simp only [X28,h1,condM_b,if_true]
 | false =>
  cases h2:(l == [36]) with
  | true=>simp only [X28,h1,h2,condM_b,if_true,Bool.false_eq_true,if_false]
  | false =>
   have hdol:((selW (.b (decide ((l.length:Int) ≥ 2))) true ((idxS (.s l) (.int 0)).bind fun v1=>(binI .eql v1 (.u8 36)).bind fun v2=>some v2) (.b false)).bind fun v3=>(selW v3 true ((idxS (.s l) (.int 1)).bind fun v4=>(binI .eql v4 (.u8 46)).bind fun v5=>some v5) (.b false)))=some (.b (dollar l)):=by
    match l with
    | []=>rfl
    | [a]=>rfl
    | a :: b :: r =>
     have hd:decide ((((a :: b :: r).length:Nat):Int) ≥ 2)=true:=by rw [decide_eq_true_eq];simp;omega
     have i0:idxS (.s (a :: b :: r)) (.int 0)=some (.u8 a):=idxS_int (i:=0) (l:=a :: b :: r) (by simp)
     have i1:idxS (.s (a :: b :: r)) (.int 1)=some (.u8 b):=idxS_int (i:=1) (l:=a :: b :: r) (by simp)
     have hdd:dollar (a :: b :: r)=(a == 36 && b == 46):=by
      unfold dollar
      have:decide (2≤(a :: b :: r).length)=true:=by rw [decide_eq_true_eq];simp
      rw [this,Bool.true_and,Bool.eq_iff_iff]
      simp
     rw [hdd]
     simp only [hd,i0,i1,u8_eql,selW_and,Option.bind_some,Bool.true_and]
   simp only [X28,h1,h2,condM_b,Bool.false_eq_true,if_false]
   rw [← Option.bind_assoc,hdol]
   simp only [Option.bind_some,condM_b]
   cases hd:dollar l with
   | true =>
    have hlen:2≤l.length:=by
     unfold dollar at hd
     simp only [Bool.and_eq_true,decide_eq_true_eq] at hd
     exact hd.1
    have hs:slS (.s l) (some (.int 2)) none=some (.s (l.drop 2)):=slS_lo (i:=2) hlen
    simp only [hs,Option.bind_some,if_true]
    rw [l28_all _ (by simp;omega),wayL_nil]
    rfl
   | false =>
    simp only [Bool.false_eq_true,if_false]
    rw [l28_all l hl,wayL_nil]
    rfl
end R3

namespace R3
open Go Go.Proofs Sx
variable {mx:Int}
noncomputable def body56:Code:=(Tryd.f56.body).getD .skip
section
variable (run:RunT) (a0:UInt8) (a1:Int) (a2:List UInt8) (a3:Bool) (a4:AV)
noncomputable def K56_11:List Item:=(kAt 11 body56 []).getD []
def S56_11:St:=St.ofL [(2, .cell (.ptr 2 0))] [(2,some [.val (.u8 a0), .val (.int a1), .val (.s a2), .val (.b a3), .val (a4)])]
noncomputable def F56_11:Option AV:=run K56_11 (S56_11 a0 a1 a2 a3 a4)
end
section
variable (run:RunT) (a0:AV) (a1:UInt8) (a2:Int) (a3:List UInt8) (a4:Bool) (a5:AV)
noncomputable def K56_12:List Item:=(kAt 12 body56 []).getD []
def S56_12:St:=St.ofL [(0, .cell (.val a0)),(2, .cell (.ptr 2 0))] [(2,some [.val (.u8 a1), .val (.int a2), .val (.s a3), .val (.b a4), .val (a5)])]
noncomputable def F56_12:Option AV:=run K56_12 (S56_12 a0 a1 a2 a3 a4 a5)
end
section
variable (run:RunT) (a0:AV) (a1:Int) (a2:UInt8) (a3:Int) (a4:List UInt8) (a5:Bool) (a6:AV)
noncomputable def K56_19:List Item:=(kAt 19 body56 []).getD []
def S56_19:St:=St.ofL [(0, .cell (.val a0)),(2, .cell (.ptr 2 0)),(4, .cell (.val (.int a1)))] [(2,some [.val (.u8 a2), .val (.int a3), .val (.s a4), .val (.b a5), .val (a6)])]
noncomputable def F56_19:Option AV:=run K56_19 (S56_19 a0 a1 a2 a3 a4 a5 a6)
end
noncomputable def X56 (call:CallT) (run:RunT) (a0:List UInt8):Option AV :=
 (call 81 [.s a0]).bind fun v1=>(binS .eql v1 (.s [101,108,115,101])).bind fun v2=>condM v2
 (some (.tu [.ag [.u8 3, .int 0, .s [], .b false, .nils], .b true]))
 ((binS .eql v1 (.s [101,110,100])).bind fun v3=>condM v3
 (some (.tu [.ag [.u8 5, .int 0, .s [], .b false, .nils], .b true]))
 ((binS .eql v1 (.s [102,108,117,115,104])).bind fun v4=>condM v4
 (some (.tu [.ag [.u8 6, .int 0, .s [], .b false, .nils], .b true]))
 ((binS .eql v1 (.s [105,102])).bind fun v5=>condM v5
 (F56_11 run 0 0 [] false (.nils))
 ((binS .eql v1 (.s [114,97,110,103,101])).bind fun v6=>condM v6
 (F56_11 run 0 0 [] false (.nils))
 (F56_12 run v1 0 0 [] false (.nils))))))
section
variable (call:CallT) (run:RunT) (a0:List UInt8)
theorem text56:unr (C mx) call run 56 Tryd.f56 400 [.code body56] (initF (C mx) 56 Tryd.f56.ntmps [.s a0])=X56 call run a0:=by
 kernel_rfl
theorem c56 {r:AV} (h:X56 (semCall (C mx) Tryd.prog) (semRun (C mx) Tryd.prog 56 Tryd.f56) a0=some r):semCall (C mx) Tryd.prog 56 [.s a0]=some r :=
 semCall_unr (fn:=Tryd.f56) (c:=body56) (by kernel_rfl) (by kernel_rfl) 400 (by kernel_rfl) ((text56 _ _ a0).trans h)
end
noncomputable def X56_11 (call:CallT) (run:RunT) (a0:UInt8) (a1:Int) (a2:List UInt8) (a3:Bool) (a4:AV):Option AV :=
 some (.tu [.ag [.u8 0, .int 0, .s [], .b false, .nils], .b false])
section
variable (call:CallT) (run:RunT) (a0:UInt8) (a1:Int) (a2:List UInt8) (a3:Bool) (a4:AV)
theorem text56_11:step (C mx) call 56 Tryd.f56 (unr (C mx) call run 56 Tryd.f56 400) K56_11 (S56_11 a0 a1 a2 a3 a4)=X56_11 call run a0 a1 a2 a3 a4:=by
 kernel_rfl
end
noncomputable def X56_12 (call:CallT) (run:RunT) (a0:AV) (a1:UInt8) (a2:Int) (a3:List UInt8) (a4:Bool) (a5:AV):Option AV :=
 (call 82 [a0, .s [105,102]]).bind fun v1=>condM v1
 ((slS a0 (some (.int 2)) none).bind fun v2=>(call 81 [v2]).bind fun v3=>F56_19 run v3 2 a1 a2 a3 a4 a5)
 ((call 82 [a0, .s [114,97,110,103,101]]).bind fun v4=>condM v4
 ((slS a0 (some (.int 5)) none).bind fun v5=>(call 81 [v5]).bind fun v6=>F56_19 run v6 4 a1 a2 a3 a4 a5)
 (F56_19 run a0 1 a1 a2 a3 a4 a5))
section
variable (call:CallT) (run:RunT) (a0:AV) (a1:UInt8) (a2:Int) (a3:List UInt8) (a4:Bool) (a5:AV)
theorem text56_12:step (C mx) call 56 Tryd.f56 (unr (C mx) call run 56 Tryd.f56 400) K56_12 (S56_12 a0 a1 a2 a3 a4 a5)=X56_12 call run a0 a1 a2 a3 a4 a5:=by
 kernel_rfl
end
noncomputable def X56_19 (call:CallT) (run:RunT) (a0:AV) (a1:Int) (a2:UInt8) (a3:Int) (a4:List UInt8) (a5:Bool) (a6:AV):Option AV :=
 (call 28 [a0]).bind fun v1=>(tupI v1 0).bind fun v2=>(tupI v1 1).bind fun v3=>(AV.asAg 2 v2).bind fun v4=>(conv .u8 (.int a1)).bind fun v5=>(AV.one v5).bind fun v6=>some (.tu [.ag [v6, .int 0, .s [],v4.getD 0 .un,v4.getD 1 .un],v3])
section
variable (call:CallT) (run:RunT) (a0:AV) (a1:Int) (a2:UInt8) (a3:Int) (a4:List UInt8) (a5:Bool) (a6:AV)
theorem text56_19:step (C mx) call 56 Tryd.f56 (unr (C mx) call run 56 Tryd.f56 400) K56_19 (S56_19 a0 a1 a2 a3 a4 a5 a6)=X56_19 call run a0 a1 a2 a3 a4 a5 a6:=by
 kernel_rfl
end
section
variable (a0:UInt8) (a1:Int) (a2:List UInt8) (a3:Bool) (a4:AV)
theorem r56_11 {r:AV} (h:X56_11 (semCall (C mx) Tryd.prog) (semRun (C mx) Tryd.prog 56 Tryd.f56) a0 a1 a2 a3 a4=some r):F56_11 (semRun (C mx) Tryd.prog 56 Tryd.f56) a0 a1 a2 a3 a4=some r :=
 semRun_unr 400 ((text56_11 _ _ a0 a1 a2 a3 a4).trans h)
end
section
variable (a0:AV) (a1:UInt8) (a2:Int) (a3:List UInt8) (a4:Bool) (a5:AV)
theorem r56_12 {r:AV} (h:X56_12 (semCall (C mx) Tryd.prog) (semRun (C mx) Tryd.prog 56 Tryd.f56) a0 a1 a2 a3 a4 a5=some r):F56_12 (semRun (C mx) Tryd.prog 56 Tryd.f56) a0 a1 a2 a3 a4 a5=some r :=
 semRun_unr 400 ((text56_12 _ _ a0 a1 a2 a3 a4 a5).trans h)
end
section
variable (a0:AV) (a1:Int) (a2:UInt8) (a3:Int) (a4:List UInt8) (a5:Bool) (a6:AV)
theorem r56_19 {r:AV} (h:X56_19 (semCall (C mx) Tryd.prog) (semRun (C mx) Tryd.prog 56 Tryd.f56) a0 a1 a2 a3 a4 a5 a6=some r):F56_19 (semRun (C mx) Tryd.prog 56 Tryd.f56) a0 a1 a2 a3 a4 a5 a6=some r :=
 semRun_unr 400 ((text56_19 _ _ a0 a1 a2 a3 a4 a5 a6).trans h)
end
end R3

namespace R3
open Go Go.Proofs Sx
variable {mx:Int}
theorem dropF_idem (b:UInt8) (l:List UInt8):dropF b (dropF b l)=dropF b l:=by
 obtain ⟨n,_,h | ⟨x,r,h,hx⟩⟩:=dropF_form b l
 ·rw [h];rfl
 ·rw [h];unfold dropF;rw [List.dropWhile_cons,if_neg (by rw [hx];decide)]
theorem dropE_idem (b:UInt8) (l:List UInt8):dropE b (dropE b l)=dropE b l:=by
 have:=dropF_idem b l.reverse
 unfold dropF at this
 unfold dropE
 rw [List.reverse_reverse,this]
theorem trimW_end (l:List UInt8):dropE 32 (trimW l)=trimW l:=by
 unfold trimW
 rw [drop_swap,dropE_idem]
theorem trim_behind (s:List UInt8) (n:Nat) (h:dropE 32 s=s) (hn:n < s.length) (h32:s[n]?=some 32):trimW (s.drop n)=dropF 32 (s.drop (n+1)):=by
 have e:s.take n ++ s.drop n=s:=List.take_append_drop n s
 have h1:=dropE_app 32 (s.take n) (s.drop n)
 rw [e,h] at h1
 have h2:dropE 32 (s.drop n)=s.drop n:=by
  split at h1
  ·have h3:=dropE_len 32 (s.take n)
   rw [← h1,List.length_take] at h3
   omega
  ·rw [e.symm] at h1
   have h4:s.take n ++ s.drop n=s.take n ++ dropE 32 (s.drop n):=by
    rw [e] at h1 ⊢
    exact h1
   exact (List.append_cancel_left h4).symm
 unfold trimW
 rw [h2]
 have h5:s.drop n=32 :: s.drop (n+1):=by
  rw [List.drop_eq_getElem_cons hn]
  rw [List.getElem?_eq_getElem hn] at h32
  rw [Option.some.inj h32]
 rw [h5]
 unfold dropF
 rw [List.dropWhile_cons];rfl
theorem l56_19 (x:List UInt8) (hx:x.length≤1000000000) (k:Int) (kb:UInt8) (hc:conv .u8 (.int k)=some (.u8 kb)):F56_19 (semRun (C mx) Tryd.prog 56 Tryd.f56) (.s x) k 0 0 [] false .nils=some (wayW kb x).av:=by
 apply r56_19
 have hw:=s28 (mx:=mx) x hx
 rw [wayAV_eq] at hw
 have e (x y:AV):AV.asAg 2 (.ag [x,y])=some [x,y]:=rfl
 have h1:AV.one (.u8 kb)=some (.u8 kb):=rfl
 simp only [X56_19,hw,tup2_0,tup2_1,e,hc,h1,Option.bind_some,List.getD_cons_zero,List.getD_cons_succ]
 rfl
theorem pre_at {p s:List UInt8} (h:pre (p ++ [32]) s=true):p.length < s.length∧s[p.length]?=some 32:=by
 unfold pre at h
 simp only [Bool.and_eq_true,decide_eq_true_eq,beq_iff_eq] at h
 have h1:p.length < s.length:=by have:=h.1;simp at this;omega
 refine ⟨h1,?_⟩
 have h2:(s.take (p ++ [32]).length)[p.length]?=s[p.length]?:=by rw [List.getElem?_take];simp
 rw [← h2,h.2]
 simp
theorem l56_12 (s:List UInt8) (hs:s.length≤1000000000) (ht:dropE 32 s=s):F56_12 (semRun (C mx) Tryd.prog 56 Tryd.f56) (.s s) 0 0 [] false .nils=some (if pre (ifS ++ [32]) s then wayW 2 (dropF 32 (s.drop 3)) else if pre (rangeS ++ [32]) s then wayW 4 (dropF 32 (s.drop 6)) else wayW 1 s).av:=by
 apply r56_12
 have c1:=s82 (mx:=mx) s [105,102] hs
 have c2:=s82 (mx:=mx) s [114,97,110,103,101] hs
 rw [show ([105,102]:List UInt8) ++ [32]=ifS ++ [32] from rfl] at c1
 rw [show ([114,97,110,103,101]:List UInt8) ++ [32]=rangeS ++ [32] from rfl] at c2
 simp only [X56_12,c1,Option.bind_some,condM_b]
 cases h1:pre (ifS ++ [32]) s with
 | true =>
  obtain ⟨hl,h32⟩:=pre_at h1
  have hl:2 < s.length:=hl
  have hsl:slS (.s s) (some (.int 2)) none=some (.s (s.drop 2)):=slS_lo (i:=2) (by omega)
  have h81:=s81 (mx:=mx) (s.drop 2) (by simp;omega)
  rw [trim_behind s 2 ht hl h32] at h81
  simp only [hsl,h81,Option.bind_some,if_true]
  exact l56_19 _ (Nat.le_trans (dropF_len _ _) (by simp;omega)) 2 2 rfl
 | false =>
  simp only [c2,Option.bind_some,condM_b,Bool.false_eq_true,if_false]
  cases h2:pre (rangeS ++ [32]) s with
  | true =>
   obtain ⟨hl,h32⟩:=pre_at h2
   have hl:5 < s.length:=hl
   have hsl:slS (.s s) (some (.int 5)) none=some (.s (s.drop 5)):=slS_lo (i:=5) (by omega)
   have h81:=s81 (mx:=mx) (s.drop 5) (by simp;omega)
   rw [trim_behind s 5 ht hl h32] at h81
   simp only [hsl,h81,Option.bind_some,if_true]
   exact l56_19 _ (Nat.le_trans (dropF_len _ _) (by simp;omega)) 4 4 rfl
  | false =>
   simp only [Bool.false_eq_true,if_false]
   exact l56_19 _ hs 1 1 rfl
theorem s56 (l:List UInt8) (hl:l.length≤1000000000):semCall (C mx) Tryd.prog 56 [.s l]=some (actW l).av:=by
 apply c56
 have h81:=s81 (mx:=mx) l hl
 have hs:=Nat.le_trans (trimW_len l) hl
 have ht:=trimW_end l
 unfold actW
 generalize trimW l=s at h81 hs ht
 simp only [X56,h81,Option.bind_some,s_eql,condM_b]
 unfold actT
 rw [show ([101,108,115,101]:List UInt8)=els from rfl,show ([101,110,100]:List UInt8)=endS from rfl,show ([102,108,117,115,104]:List UInt8)=flushS from rfl]
 cases h1:(s == els) with
 | true=>simp only [if_true];rfl
 | false =>
  cases h2:(s == endS) with
  | true=>simp only [if_true,Bool.false_eq_true,if_false];rfl
  | false =>
   cases h3:(s == flushS) with
   | true=>simp only [if_true,Bool.false_eq_true,if_false];rfl
   | false =>
    simp only [Bool.false_eq_true,if_false]
    cases h4:(s == ifS) with
    | true =>
     have h4':s=[105,102]:=by simpa [ifS] using h4
     subst h4'
     rw [if_pos (by rfl)]
     apply r56_11
     rfl
    | false =>
     rw [if_neg (by rw [show ([105,102]:List UInt8)=ifS from rfl,h4];decide)]
     cases h5:(s == rangeS) with
     | true =>
      have h5':s=[114,97,110,103,101]:=by simpa [rangeS] using h5
      subst h5'
      rw [if_pos (by rfl)]
      apply r56_11
      rfl
     | false =>
      rw [if_neg (by rw [show ([114,97,110,103,101]:List UInt8)=rangeS from rfl,h5];decide)]
      rw [l56_12 s hs ht]
      simp only [Bool.or_false,Bool.false_eq_true,if_false]
end R3

namespace R3
open Go Go.Proofs Sx
variable {mx:Int}
noncomputable def body24:Code:=(Tryd.f24.body).getD .skip
section
variable (run:RunT) (a0:List UInt8) (a1:List AV) (a2:Int)
noncomputable def K24_3:List Item:=(kAt 3 body24 []).getD []
def S24_3:St:=St.ofL [(0, .cell (.val (.s a0))),(4, .cell (.own 300004 36 5 a1)),(5, .cell (.val (.int a2)))] []
noncomputable def F24_3:Option AV:=run K24_3 (S24_3 a0 a1 a2)
end
section
variable (run:RunT) (a0:List UInt8) (a1:List AV) (a2 a3:Int)
noncomputable def K24_5:List Item:=(kAt 5 body24 []).getD []
def S24_5:St:=St.ofL [(0, .cell (.val (.s a0))),(4, .cell (.own 300004 36 5 a1)),(5, .cell (.val (.int a2))),(6, .cell (.val (.int a3)))] []
noncomputable def F24_5:Option AV:=run K24_5 (S24_5 a0 a1 a2 a3)
end
section
variable (run:RunT) (a0:List UInt8) (a1:List AV) (a2 a3:Int)
noncomputable def K24_11:List Item:=(kAt 11 body24 []).getD []
def S24_11:St:=St.ofL [(0, .cell (.val (.s a0))),(4, .cell (.own 300004 36 5 a1)),(5, .cell (.val (.int a2))),(6, .cell (.val (.int a3)))] []
noncomputable def F24_11:Option AV:=run K24_11 (S24_11 a0 a1 a2 a3)
end
noncomputable def X24 (call:CallT) (run:RunT) (a0:List UInt8):Option AV :=
 F24_3 run a0 [] 0
section
variable (call:CallT) (run:RunT) (a0:List UInt8)
theorem text24:unr (C mx) call run 24 Tryd.f24 400 [.code body24] (initF (C mx) 24 Tryd.f24.ntmps [.s a0])=X24 call run a0:=by
 kernel_rfl
theorem c24 {r:AV} (h:X24 (semCall (C mx) Tryd.prog) (semRun (C mx) Tryd.prog 24 Tryd.f24) a0=some r):semCall (C mx) Tryd.prog 24 [.s a0]=some r :=
 semCall_unr (fn:=Tryd.f24) (c:=body24) (by kernel_rfl) (by kernel_rfl) 400 (by kernel_rfl) ((text24 _ _ a0).trans h)
end
noncomputable def X24_3 (call:CallT) (run:RunT) (a0:List UInt8) (a1:List AV) (a2:Int):Option AV :=
 condM (.b (decide (a2 < (a0.length:Int))))
 (F24_5 run a0 a1 a2 a2)
 (some (.tu [.ro 5 a1, .int ((-1))]))
section
variable (call:CallT) (run:RunT) (a0:List UInt8) (a1:List AV) (a2:Int)
theorem text24_3:step (C mx) call 24 Tryd.f24 (unr (C mx) call run 24 Tryd.f24 400) K24_3 (S24_3 a0 a1 a2)=X24_3 call run a0 a1 a2:=by
 kernel_rfl
end
noncomputable def X24_5 (call:CallT) (run:RunT) (a0:List UInt8) (a1:List AV) (a2 a3:Int):Option AV :=
 (selW (.b (decide (a3 < (a0.length:Int)))) true ((call 55 [.s a0, .int a3, .s [123,123]]).bind fun v1=>(unop .not v1).bind fun v2=>some v2) (.b false)).bind fun v3=>condM v3
 (F24_5 run a0 a1 a2 (w64 (a3+1)))
 (condM (.b (decide (a3 > a2)))
 ((slS (.s a0) (some (.int a2)) (some (.int a3))).bind fun v4=>(AV.one v4).bind fun v5=>(app 64 5 a1 (.ro 5 (([.ag [.u8 0, .int a2,v5, .b false, .nils]]:List AV)))).bind fun v6=>F24_3 run a0 v6 a3)
 (F24_11 run a0 a1 a2 (w64 (a2+2))))
section
variable (call:CallT) (run:RunT) (a0:List UInt8) (a1:List AV) (a2 a3:Int)
theorem text24_5:step (C mx) call 24 Tryd.f24 (unr (C mx) call run 24 Tryd.f24 400) K24_5 (S24_5 a0 a1 a2 a3)=X24_5 call run a0 a1 a2 a3:=by
 kernel_rfl
end
noncomputable def X24_11 (call:CallT) (run:RunT) (a0:List UInt8) (a1:List AV) (a2 a3:Int):Option AV :=
 (selW (.b (decide (a3 < (a0.length:Int)))) true ((call 55 [.s a0, .int a3, .s [125,125]]).bind fun v1=>(unop .not v1).bind fun v2=>some v2) (.b false)).bind fun v3=>condM v3
 (F24_11 run a0 a1 a2 (w64 (a3+1)))
 (condM (.b (decide (a3 ≥ (a0.length:Int))))
 (some (.tu [.ro 5 a1, .int a2]))
 ((slS (.s a0) (some (.int (w64 (a2+2)))) (some (.int a3))).bind fun v4=>(call 56 [v4]).bind fun v5=>(tupI v5 0).bind fun v6=>(tupI v5 1).bind fun v7=>(AV.asAg 5 v6).bind fun v8=>(unop .not v7).bind fun v9=>condM v9
 (some (.tu [.ro 5 a1, .int a2]))
 ((app 64 5 a1 (.ro 5 (([.ag [v8.getD 0 .un, .int a2,v8.getD 2 .un,v8.getD 3 .un,v8.getD 4 .un]]:List AV)))).bind fun v10=>F24_3 run a0 v10 (w64 (a3+2)))))
section
variable (call:CallT) (run:RunT) (a0:List UInt8) (a1:List AV) (a2 a3:Int)
theorem text24_11:step (C mx) call 24 Tryd.f24 (unr (C mx) call run 24 Tryd.f24 400) K24_11 (S24_11 a0 a1 a2 a3)=X24_11 call run a0 a1 a2 a3:=by
 kernel_rfl
end
section
variable (a0:List UInt8) (a1:List AV) (a2:Int)
theorem r24_3 {r:AV} (h:X24_3 (semCall (C mx) Tryd.prog) (semRun (C mx) Tryd.prog 24 Tryd.f24) a0 a1 a2=some r):F24_3 (semRun (C mx) Tryd.prog 24 Tryd.f24) a0 a1 a2=some r :=
 semRun_unr 400 ((text24_3 _ _ a0 a1 a2).trans h)
end
section
variable (a0:List UInt8) (a1:List AV) (a2 a3:Int)
theorem r24_5 {r:AV} (h:X24_5 (semCall (C mx) Tryd.prog) (semRun (C mx) Tryd.prog 24 Tryd.f24) a0 a1 a2 a3=some r):F24_5 (semRun (C mx) Tryd.prog 24 Tryd.f24) a0 a1 a2 a3=some r :=
 semRun_unr 400 ((text24_5 _ _ a0 a1 a2 a3).trans h)
end
section
variable (a0:List UInt8) (a1:List AV) (a2 a3:Int)
theorem r24_11 {r:AV} (h:X24_11 (semCall (C mx) Tryd.prog) (semRun (C mx) Tryd.prog 24 Tryd.f24) a0 a1 a2 a3=some r):F24_11 (semRun (C mx) Tryd.prog 24 Tryd.f24) a0 a1 a2 a3=some r :=
 semRun_unr 400 ((text24_11 _ _ a0 a1 a2 a3).trans h)
end
end R3
