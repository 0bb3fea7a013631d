/-
  A part of CodePrograms's proof.
-/
import Derived.Test.YtgjfbalafdifgaaGreatDoorTC
import Derived.RangeFuncNested
import Derived.RangeFuncBound
import Derived.RangeFuncCalls
import Derived.RangeFuncLeaves
import Derived.Shelf.Abstract
import Derived.Shelf.RegionOpen
import Derived.WalkKit
import Derived.OwnWalkIn
import Derived.TacticsInMore
import Derived.LoopNIn
import Derived.LoopIn
import Derived.Maps.AppendAt
import Derived.Test.YtgjfbalafdifgaaGreatDoorProg
import Derived.Shelf.Strings.Search3
import Derived.Shelf.Vars
set_option linter.unusedVariables false
set_option linter.unusedSimpArgs false
set_option linter.unusedSectionVars false
set_option linter.unnecessarySimpa false
open _root_ renaming Array→bF,Bool→ay,ByteArray→aL,Int→aB,List→ai,Nat→ax,Option→ak,UInt8→ae,beq_iff_eq→bK,bne_iff_ne→iW,congrArg→bA,decide_eq_false_iff_not→aQ,decide_eq_true_eq→aG,if_false→aH,if_neg→aI,if_pos→aJ,if_true→aO
open Bool renaming and_false→gH,false→af,false_and→dn,false_or→eu,not_true→df,true→aj
open ByteArray renaming size_extract→bN
open Function renaming comp_def→iP
open Go.CallsIn renaming inRound→dh
open Go.Lib renaming indexByte→bH,toList_data→eY
open Go.Proofs.Tryz renaming f102→iN,f127→iM,f128→cZ,f129→iL,f130→fu,f138→di,f139→iK,f140→fo,f17→bX,f28→iB,f29→fK,f30→fJ,f35→iA,f51→iy,f55→iw,f56→iq,f73→jl,f94→jk,f96→gB,f97→dz,func58→jg,underlying53→fB
open Go renaming Value→aC,World→az,callsIn_of_wp→bC,callsIn_wide→aT
open Go.World renaming ownsRow_nil→bW
open LawfulBEq renaming eq_of_beq→bD
open List renaming all_append→fZ,all_cons→dW,contains_cons→fw,contains_nil→fA,getElem?_map→aM,length_append→au,length_cons→aA,length_drop→bQ,take_of_length_le→fP
open Nat renaming eq_of_beq_eq_true→aF
open Option renaming none→ah,some→aa
open UInt8 renaming le_iff_toNat_le→bq
namespace lp
open Go Sx
def qx:ai (ax×Ty):=[
 (3,{ size:=1,bytes:=8,kd:=.int .i64,elem:=0,zero:=[.int 0],fields:=[],eqk:=ah }),
 (4,{ size:=1,bytes:=1,kd:=.bool,elem:=0,zero:=[.b af],fields:=[],eqk:=ah }),
 (5,{ size:=1,bytes:=1,kd:=.int .u8,elem:=0,zero:=[.u8 0],fields:=[],eqk:=ah }),
 (9,{ size:=1,bytes:=16,kd:=.str,elem:=0,zero:=[.s []],fields:=[],eqk:=ah }),
 (23,{ size:=1,bytes:=24,kd:=.slice,elem:=58,zero:=[.cd],fields:=[],eqk:=ah }),
 (24,{ size:=1,bytes:=24,kd:=.slice,elem:=3,zero:=[.cd],fields:=[],eqk:=ah }),
 (26,{ size:=2,bytes:=48,kd:=.struct,elem:=0,zero:=[.cd,.cd],fields:=[(0,23),(1,24)],eqk:=ah }),
 (27,{ size:=1,bytes:=8,kd:=.int .i64,elem:=0,zero:=[.int 0],fields:=[],eqk:=ah }),
 (34,{ size:=1,bytes:=1,kd:=.int .u8,elem:=0,zero:=[.u8 0],fields:=[],eqk:=ah }),
 (35,{ size:=1,bytes:=1,kd:=.int .u8,elem:=0,zero:=[.u8 0],fields:=[],eqk:=ah }),
 (36,{ size:=1,bytes:=1,kd:=.int .u8,elem:=0,zero:=[.u8 0],fields:=[],eqk:=ah }),
 (37,{ size:=1,bytes:=1,kd:=.int .u8,elem:=0,zero:=[.u8 0],fields:=[],eqk:=ah }),
 (38,{ size:=1,bytes:=1,kd:=.int .u8,elem:=0,zero:=[.u8 0],fields:=[],eqk:=ah }),
 (40,{ size:=10,bytes:=32,kd:=.struct,elem:=0,zero:=[.u8 0,.u8 0,.b af,.u8 0,.u8 0,.u8 0,.u8 0,.b af,.u8 0,.s []],fields:=[(0,34),(1,35),(2,4),(3,36),(4,5),(5,37),(6,38),(7,4),(8,5),(9,9)],eqk:=aa [.i,.i,.b,.i,.i,.i,.i,.b,.i,.s] }),
 (52,{ size:=1,bytes:=1,kd:=.int .u8,elem:=0,zero:=[.u8 0],fields:=[],eqk:=ah }),
 (53,{ size:=1,bytes:=24,kd:=.slice,elem:=9,zero:=[.cd],fields:=[],eqk:=ah }),
 (55,{ size:=2,bytes:=32,kd:=.struct,elem:=0,zero:=[.b af,.cd],fields:=[(0,4),(1,53)],eqk:=ah }),
 (56,{ size:=1,bytes:=1,kd:=.int .u8,elem:=0,zero:=[.u8 0],fields:=[],eqk:=ah }),
 (58,{ size:=9,bytes:=120,kd:=.struct,elem:=0,zero:=[.u8 0,.int 0,.s [],.b af,.cd,.cd,.cd,.b af,.u8 0],fields:=[(0,52),(1,3),(2,9),(3,55),(5,24),(6,24),(7,4),(8,56)],eqk:=ah }),
 (62,{ size:=4,bytes:=64,kd:=.struct,elem:=0,zero:=[.cd,.cd,.int 0,.int 0],fields:=[(0,26),(2,3),(3,27)],eqk:=ah }),
 (66,{ size:=4,bytes:=64,kd:=.struct,elem:=0,zero:=[.cd,.cd,.int 0,.int 0],fields:=[(0,26),(2,3),(3,3)],eqk:=ah }),
 (113,{ size:=1,bytes:=24,kd:=.slice,elem:=5,zero:=[.cd],fields:=[],eqk:=ah })
]
def uj:ai ((ax×ax)×(pO×ai ax)):=[((29,1),(.seq [(0,aj),(1,aj),(2,aj),(3,aj),(4,aj),(5,af),(6,aj),(7,af)] .done,[3])),
 ((29,12),(.seq [(0,aj),(1,aj),(2,aj),(3,aj),(4,aj),(5,af),(6,aj),(7,af)] .done,[3])),
 ((30,5),(.seq [(0,aj),(1,aj),(2,aj),(3,aj),(4,aj),(5,af),(6,aj),(7,af)] .done,[3])),
 ((30,6),(.seq [(0,aj),(1,aj),(2,aj),(3,aj),(4,aj),(5,aj),(6,aj),(7,aj),(8,aj),(9,aj),(10,aj),(12,aj),(13,aj),(11,af),(14,af),(15,aj),(16,aj),(17,aj),(18,aj),(19,aj),(20,aj),(21,af),(22,aj),(23,aj)] .done,[])),
 ((96,12),(.seq [(0,aj),(1,aj),(2,aj),(3,aj),(4,aj),(5,aj),(6,aj),(7,aj),(8,af),(9,af),(10,aj),(11,aj),(12,af),(13,aj),(14,aj)] .done,[])),
 ((96,13),(.seq [(0,aj),(1,aj),(2,aj),(3,af),(4,af),(5,aj),(6,aj),(7,aj),(8,af)] .done,[1000008])),
 ((119,3),(.seq [(0,aj),(1,aj),(2,aj),(3,af),(4,af),(5,aj),(6,aj),(7,aj),(8,af)] .done,[1000008])),
 ((127,3),(.seq [(0,aj),(1,aj),(6,aj),(2,af)] (.fork 3 (.seq [(4,aj),(5,aj),(7,af),(8,aj),(9,af)] .done) 7 (.seq [(3,af),(4,aj),(5,aj),(8,aj),(9,af)] .done)),[2])),
 ((129,7),(.seq [(0,aj),(1,aj),(2,aj),(3,aj),(4,aj),(5,aj),(6,aj),(7,af),(8,af)] .done,[1000008])),
 ((20,29),(.seq [(0,aj),(1,aj),(2,aj),(3,aj),(4,aj),(5,aj),(6,aj),(7,aj),(8,aj),(9,aj),(10,aj),(11,aj),(12,aj),(13,aj),(14,aj),(15,aj),(16,aj)] .done,[])),
 ((54,6),(.seq [(1,aj),(2,aj),(3,aj),(4,aj),(0,af),(5,af),(6,af)] .done,[2])),
 ((103,3),(.seq [(0,aj),(1,aj),(2,aj),(3,af),(4,aj),(5,aj),(6,af)] .done,[1000006])),
 ((107,13),(.seq [(0,aj),(1,aj),(2,aj),(3,af),(4,aj),(5,aj)] .done,[])),
 ((131,26),(.seq [(0,aj),(1,aj),(2,aj),(3,af),(4,aj),(5,aj),(6,af)] .done,[1000006])),
 ((133,6),(.seq [(0,aj),(1,aj),(2,aj),(3,aj),(4,aj),(5,aj),(6,aj),(7,af),(8,af)] .done,[1000008])),
 ((22,4),(.seq [(0,aj),(1,aj),(2,aj),(3,aj),(4,aj),(5,af),(6,af),(7,af)] .done,[5,1000006]))]
def uk:ai (ax×ai (ax×ai (ax×ak (ax×ax))×ai (ax×ai (ax×ax×ax)))):=[(51,[(6,[(1,ah),(2,ah)],[(1,[]),(2,[])])]),
 (17,[(11,[(1,ah),(4,ah)],[(1,[]),(4,[])]),(12,[(1,ah),(3,ah),(4,ah),(48,ah)],[(1,[]),(3,[]),(4,[])]),(14,[(1,ah),(4,ah)],[(1,[]),(4,[])]),(16,[(1,ah),(3,ah),(4,ah),(48,ah)],[(1,[]),(3,[]),(4,[])]),(27,[(1,ah)],[(1,[])]),(28,[(1,ah),(3,ah)],[(1,[]),(3,[])])]),
 (61,[(3,[(1,ah),(2,ah),(3,ah),(6,ah)],[(3,[]),(6,[])]),(4,[(2,ah),(3,ah),(6,ah),(14,ah),(15,ah),(16,ah)],[(3,[]),(6,[])])]),
 (28,[(2,[(0,ah),(1,ah),(7,ah),(8,ah)],[])]),
 (29,[(12,[(2,ah),(3,ah)],[(2,[]),(3,[])]),(14,[(2,ah),(3,ah)],[(2,[]),(3,[])])]),
 (30,[(4,[(1,ah),(3,ah)],[(1,[]),(3,[])]),(6,[(1,ah),(3,ah)],[(1,[]),(3,[])])]),
 (75,[(3,[(1,ah),(2,ah),(3,ah),(6,ah)],[(3,[]),(6,[])]),(4,[(1,ah),(3,ah),(6,ah)],[(3,[]),(6,[])]),(22,[(1,ah),(2,ah),(3,ah),(6,ah)],[(3,[]),(6,[])]),(26,[(1,ah),(2,ah),(3,ah),(6,ah),(16,ah)],[(3,[]),(6,[])]),(31,[(1,ah),(2,ah),(3,ah),(6,ah)],[(3,[]),(6,[])]),(32,[(3,ah),(6,ah)],[(3,[]),(6,[])])]),
 (94,[(7,[(2,ah),(4,ah)],[(2,[]),(4,[])])]),
 (96,[(17,[(1,ah),(2,ah),(3,ah),(6,ah)],[(3,[]),(6,[])]),(22,[(3,ah),(6,ah)],[(3,[]),(6,[])])]),
 (97,[(4,[(1,ah),(2,ah),(4,ah)],[(2,[]),(4,[])]),(11,[(1,ah),(2,ah),(4,ah),(6,ah)],[(2,[]),(4,[])]),(13,[(1,ah),(2,ah),(4,ah)],[(2,[]),(4,[])]),(20,[(1,ah),(2,ah),(4,ah),(6,ah)],[(2,[]),(4,[])]),(31,[(2,ah),(4,ah)],[(2,[]),(4,[])])]),
 (127,[(24,[(2,ah),(4,ah)],[(2,[]),(4,[])])]),
 (128,[(11,[(6,ah)],[(6,[])]),(23,[(1,ah),(3,ah),(6,ah)],[(3,[]),(6,[])]),(24,[(1,ah),(3,ah),(6,ah),(8,ah)],[(3,[]),(6,[])]),(36,[(3,ah),(6,ah)],[(3,[]),(6,[])])]),
 (129,[(5,[(1,ah),(3,ah),(6,ah),(19,ah),(20,ah)],[(3,[]),(6,[])])]),
 (138,[(13,[],[]),(14,[(0,ah),(3,ah)],[]),(21,[],[]),(22,[(0,ah)],[])]),
 (139,[(9,[(2,ah),(4,ah)],[(2,[]),(4,[])])]),
 (140,[(7,[(1,ah)],[(1,[])]),(8,[],[])]),
 (19,[(2,[(0,ah),(5,ah),(6,ah),(9,ah),(10,ah),(11,ah)],[(5,[]),(6,[]),(26,[(0,58,9)])]),(7,[(5,ah),(6,ah)],[(5,[]),(6,[]),(26,[(0,58,9)])])]),
 (35,[(2,[(0,ah),(1,ah),(5,ah)],[])]),
 (54,[(3,[(1,ah),(2,ah),(4,ah)],[(2,[]),(4,[])]),(4,[(1,ah),(2,ah),(4,ah),(6,ah)],[(2,[]),(4,[])])]),
 (55,[(32,[],[])]),
 (56,[(6,[(1,ah),(2,ah)],[(1,[]),(2,[])])]),
 (77,[(27,[(1,ah),(4,ah),(5,ah)],[(4,[]),(5,[])]),(57,[(1,ah),(2,ah),(4,ah),(5,ah)],[(2,[]),(4,[]),(5,[])]),(58,[(1,ah),(2,ah),(4,ah),(5,ah),(13,ah)],[(2,[]),(4,[]),(5,[])]),(73,[(1,ah),(2,ah),(4,ah)],[(2,[]),(4,[])]),(74,[(1,ah),(2,ah),(4,ah)],[(2,[]),(4,[])])]),
 (100,[(3,[(0,ah)],[])]),
 (102,[(3,[(0,ah),(3,ah),(4,ah)],[])]),
 (106,[(17,[(2,ah),(3,ah),(6,ah)],[(3,[]),(6,[])]),(22,[(2,ah),(3,ah),(6,ah)],[(3,[]),(6,[])]),(25,[(3,ah),(6,ah)],[(3,[]),(6,[])])]),
 (107,[(8,[(1,ah),(2,ah),(4,ah),(5,ah)],[(2,[]),(4,[])]),(20,[(1,ah),(2,ah),(4,ah)],[(2,[]),(4,[])]),(23,[(2,ah),(4,ah)],[(2,[]),(4,[])])]),
 (108,[(4,[(1,ah),(2,ah),(4,ah)],[(2,[]),(4,[])]),(11,[(1,ah),(2,ah),(4,ah),(7,ah)],[(2,[]),(4,[])]),(13,[(1,ah),(2,ah),(4,ah)],[(2,[]),(4,[])]),(20,[(1,ah),(2,ah),(4,ah),(7,ah)],[(2,[]),(4,[])]),(24,[(2,ah),(4,ah)],[(2,[]),(4,[])]),(33,[(2,ah),(4,ah)],[(2,[]),(4,[])])]),
 (130,[(3,[(0,ah),(3,ah),(4,ah)],[]),(9,[(0,ah),(5,ah),(6,ah)],[])]),
 (131,[(21,[(4,ah),(5,ah)],[(4,[]),(5,[])]),(27,[(2,ah),(4,ah)],[(2,[]),(4,[])])]),
 (132,[(8,[(1,ah),(3,ah),(6,ah)],[(3,[]),(6,[])]),(10,[(1,ah),(3,ah),(6,ah)],[(3,[]),(6,[])]),(14,[(1,ah),(3,ah),(6,ah),(7,ah)],[(3,[]),(6,[])]),(19,[(1,ah),(3,ah),(6,ah),(7,ah)],[(3,[]),(6,[])]),(23,[(1,ah),(2,ah),(3,ah),(6,ah),(11,ah)],[(3,[]),(6,[])]),(45,[(3,ah),(6,ah)],[(3,[]),(6,[])])]),
 (133,[(4,[(1,ah),(2,ah),(4,ah),(5,ah)],[(2,[]),(4,[])])]),
 (22,[(2,[(0,ah),(1,ah),(5,ah),(6,ah),(7,ah)],[(5,[]),(6,[]),(29,[(0,58,9)])])]),
 (39,[(8,[(6,ah),(8,ah)],[(6,[]),(8,[]),(113,[(0,58,9)])]),(19,[(0,ah),(5,ah),(6,ah),(7,ah)],[(5,[]),(6,[]),(7,[]),(113,[(0,58,9)])]),(23,[(0,ah),(6,ah),(7,ah),(11,ah),(12,ah)],[(6,[]),(7,[]),(11,[]),(12,[]),(113,[(0,58,9)])]),(26,[(6,ah),(11,ah)],[(6,[]),(11,[]),(113,[(0,58,9)])]),(27,[(5,ah),(6,ah)],[(5,[]),(6,[]),(113,[(0,58,9)])])])]
def yt:ai (ax×ai (ak (ax×ax))):=[]
def yu:ai (ax×A4):=[(19,{ ps:=[.obj 0,.v,.v],objs:=[((.arg 0),[.own 58 9,.v,.v,.v])],outs:=[((.arg 0),[.own 58 9,.v,.v,.v])] }),
 (22,{ ps:=[.obj 0,.v,.v],objs:=[((.arg 0),[.own 58 9,.v,.v,.v])],outs:=[((.arg 0),[.own 58 9,.v,.v,.v])] }),
 (33,{ ps:=[.obj 0,.v,.v],objs:=[((.arg 0),[.own 58 9,.v,.v,.v])],outs:=[((.arg 0),[.own 58 9,.v,.v,.v])] }),
 (39,{ ps:=[.obj 0,.v,.v],objs:=[((.arg 0),[.own 58 9,.v,.v,.v])],outs:=[((.arg 0),[.own 58 9,.v,.v,.v])] }),
 (49,{ ps:=[.obj 0,.v,.v],objs:=[((.arg 0),[.own 58 9,.v,.v,.v])],outs:=[((.arg 0),[.own 58 9,.v,.v,.v])] })]
def qy:ai (ax×ai ax):=[]
def C (mx:aB):jT:=KX qx uj uk yt qy (fun g=>bif Nat.beq g 0 then aa (10,.ag [.u8 20,.u8 0,.b af,.u8 0,.u8 0,.u8 0,.u8 0,.b af,.u8 0,.s []]) else bif Nat.beq g 1 then aa (1,.int mx) else ah) yu
end lp
namespace R3
open Go Go.Proofs Go.RowKit Go.Shelf
def Lx (B:ax) (W:az):ax:=match W.cell? ⟨B,0,ah⟩ with | some (.string s)=>s.size | _=>0
theorem D6 {B:ax} {W:az} {s:aL} (h:W.cell? ⟨B,0,ah⟩=aa (.string s)):Lx B W=s.size:=by unfold Lx;rw [h]
set_option maxRecDepth 100000 in
set_option maxHeartbeats 2000000 in
theorem Jq (n:ax) (hn:1≤n) (l B:ax) (idx:aL→aB) (lD:∀ s,idx s=-1∨(0≤idx s∧idx s+1≤s.size))
  (hI:∀ (s:aL) (w:az),s.size≤9223372036854775807→Calls Tryz.prog 58 #[.string s,.string ⟨#[46]⟩] w fun e w'=>e=.returned (.int .i64 (idx s))∧w'=w)
  (J J':aL→az→Prop) (Jx Je:az→Prop)
  (hJ:∀ s W,J s W→W.cell? ⟨B,0,ah⟩=aa (.string s)∧W.cell? ⟨B+1,0,ah⟩=aa (.string ⟨#[46]⟩)∧W.cell? ⟨B+2,0,ah⟩=aa (.int .i64 0)∧s.size≤9223372036854775807)
  (hJ':∀ s W,J' s W→W.cell? ⟨B,0,ah⟩=aa (.string s)∧W.frozen? ⟨B,0,ah⟩=af∧W.cell? ⟨B+1,0,ah⟩=aa (.string ⟨#[46]⟩))
  (hY:∀ s W,J s W→0≤idx s→YieldAt Fence.wide (n - 1) Tryz.prog l #[.string (s.extract 0 (idx s).toNat)] W fun e W'=>(e=.returned (.bool aj)∧J' s W')∨(e=.returned (.bool af)∧Jx W'))
  (hS:∀ s W,J' s W→0≤idx s→J (s.extract (idx s+1).toNat s.size) (W.setCell ⟨B,0,ah⟩ (.string (s.extract (idx s+1).toNat s.size))))
  (hE:∀ s W,J s W→idx s=-1→YieldAt Fence.wide (n - 1) Tryz.prog l #[.string s] W fun e W'=>(e=.returned (.bool aj)∧Je W')∨(e=.returned (.bool af)∧Jx W'))
  (W:az) (s:aL) (h0:J s W) :
  CallsIn Fence.wide n Tryz.prog 137 #[.func (.yield l) #[] #[],.pointer (aa ⟨B+1,0,ah⟩),.pointer (aa ⟨B,0,ah⟩),.pointer (aa ⟨B+2,0,ah⟩)] W fun e W'=>(∃ v,e=.returned v)∧(Je W'∨Jx W'):=by
 refine bC Tryz.func137 rfl trivial ?_ rfl
 simp only [Tryz.ntmps137,Nat.reduceAdd,Nat.reduceSub,Sx.zC]
 obtain ⟨c1,c3,c4,c5⟩:=hJ s W h0
 gi_wp2
 gi_loopw [] (fun wr=>∃ s,J s wr) (fun wr=>Lx B wr)
 case atStart=>exact ⟨s,h0⟩
 case round =>
  obtain ⟨s,hs⟩:=hrel
  obtain ⟨c1,c3,c4,c5⟩:=hJ s wr hs
  have hi:=lD s
  rcases hi with hi | ⟨Q1,WJ⟩
  ·obtain ⟨fn,tmps,assign,body,hy,hR⟩:=hE s wr hs hi
   gi_wp2_with (refine ⟨trivial,?_⟩;gi_at_call 58;refine (aT.2 (hI _ _ c5)).mono ?_;rintro e w' ⟨rfl,hw⟩;rw [hw,hi])
   refine hR.mono ?_
   rintro e W3 (⟨rfl,hk⟩ | ⟨rfl,hk⟩)
   ·gi_wp2
    go_end0
    exact ⟨⟨_,rfl⟩,.inl hk⟩
   ·gi_wp2
    go_end0
    exact ⟨⟨_,rfl⟩,.inr hk⟩
  ·obtain ⟨fn,tmps,assign,body,hy,hR⟩:=hY s wr hs Q1
   gi_wp2_with (refine ⟨trivial,?_⟩;gi_at_call 58;refine (aT.2 (hI _ _ c5)).mono ?_;rintro e w' ⟨rfl,hw⟩;rw [hw])
   refine hR.mono ?_
   rintro e W3 (⟨rfl,hk⟩ | ⟨rfl,hk⟩)
   ·obtain ⟨d1,d2,d3⟩:=hJ' s W3 hk
    gi_wp2
    refine ⟨⟨_,hS s W3 hk Q1⟩,?_⟩
    have hc:(W3.setCell ⟨B,0,ah⟩ (.string (s.extract (idx s+1).toNat s.size))).cell? ⟨B,0,ah⟩=aa (.string (s.extract (idx s+1).toNat s.size)):=World.cell?_setCell_same' _ _ _ (by rw [d1];rfl)
    rw [D6 hc,D6 c1]
    simp only [bN]
    omega
   ·gi_wp2
    refine bodyPost_ret (results_none rfl _ _ _) rfl ?_
    exact ⟨⟨_,rfl⟩,.inr hk⟩
set_option maxRecDepth 100000
set_option maxHeartbeats 2000000
theorem Jr (n:ax) (s:aL) (w:az) :
  CallsIn Fence.wide n Tryz.prog 115 #[.string s,.string ⟨#[46]⟩,.int .i64 0] w fun e w'=>e=.returned (.func (.func 137) #[] #[.pointer (aa ⟨w.heap.size+1,0,ah⟩),.pointer (aa ⟨w.heap.size,0,ah⟩),.pointer (aa ⟨w.heap.size+2,0,ah⟩)]) ∧
   w'=((w.alloc (.cells #[.string s] 9)).alloc (.cells #[.string ⟨#[46]⟩] 9)).alloc (.cells #[.int .i64 0] 3):=by
 refine bC Tryz.func115 rfl trivial ?_ rfl
 simp only [Tryz.ntmps115,Nat.reduceAdd,Nat.reduceSub,Sx.zC]
 gi_wp2
 go_ret
 exact ⟨rfl,rfl⟩
theorem wx (n:ax) (hn:1≤n) (s:aL) (w:az) :
  CallsIn Fence.wide n Tryz.prog 90 #[.string s,.string ⟨#[46]⟩] w fun e w'=>e=.returned (.func (.func 137) #[] #[.pointer (aa ⟨w.heap.size+1,0,ah⟩),.pointer (aa ⟨w.heap.size,0,ah⟩),.pointer (aa ⟨w.heap.size+2,0,ah⟩)]) ∧
   w'=((w.alloc (.cells #[.string s] 9)).alloc (.cells #[.string ⟨#[46]⟩] 9)).alloc (.cells #[.int .i64 0] 3):=by
 refine bC Tryz.func90 rfl trivial ?_ rfl
 simp only [Tryz.ntmps90,Nat.reduceAdd,Nat.reduceSub,Sx.zC]
 gi_wp2_with (refine ⟨trivial,?_⟩;gi_at_call 115;refine (Jr _ _ _).mono ?_;rintro e w' ⟨rfl,hw⟩;rw [hw])
 go_ret
 exact ⟨rfl,rfl⟩
def yv (I' Ix:az→Prop) (W:az):Exit→Act→az→Prop
 | .normal,_,W'=>KeepsOthers W W'∧I' W'
 | .ret,_,W'=>KeepsOthers W W'∧Ix W'
 | _,_,_=>False
theorem mo {g:Operand} {p:Tmp} {assign body:Code} {Q:Exit→Act→az→Prop} {a:Act} {w:az} {n:ax} (h1:1≤n) (h2:1≤n - 1) {B:ax} (hB:B+2 < w.heap.size)
  (hg:a.eval g=.func (.func 137) #[] #[.pointer (aa ⟨B+1,0,ah⟩),.pointer (aa ⟨B,0,ah⟩),.pointer (aa ⟨B+2,0,ah⟩)])
  (idx:aL→aB) (lD:∀ s,idx s=-1∨(0≤idx s∧idx s+1≤s.size))
  (hI:∀ (s:aL) (w:az),s.size≤9223372036854775807→Calls Tryz.prog 58 #[.string s,.string ⟨#[46]⟩] w fun e w'=>e=.returned (.int .i64 (idx s))∧w'=w)
  (I I':aL→az→Prop) (Ix Ie:az→Prop)
  (hput:∀ (G:az→Prop),(G=Ix∨G=Ie∨∃ s,G=I s∨G=I' s)→∀ (W:az) (l:ax) (o o':Obj),w.heap.size≤l→W.heap[l]?=aa o→o.isCells=af→G W→G (W.putObj l o'))
  (Lz:∀ (s:aL) (W:az) (o:Obj),I s W→I s (W.alloc o))
  (hJ:∀ s W,I s W→W.cell? ⟨B,0,ah⟩=aa (.string s)∧W.cell? ⟨B+1,0,ah⟩=aa (.string ⟨#[46]⟩)∧W.cell? ⟨B+2,0,ah⟩=aa (.int .i64 0)∧s.size≤9223372036854775807)
  (hJ':∀ s W,I' s W→W.cell? ⟨B,0,ah⟩=aa (.string s)∧W.frozen? ⟨B,0,ah⟩=af∧W.cell? ⟨B+1,0,ah⟩=aa (.string ⟨#[46]⟩))
  (hS:∀ s W,I' s W→0≤idx s→I (s.extract (idx s+1).toNat s.size) (W.setCell ⟨B,0,ah⟩ (.string (s.extract (idx s+1).toNat s.size))))
  (a₁:aL→Act)
  (Ph:∀ (l:ax) (x:aL) (W:az) (K:Act→az→Prop),K (a₁ x) W →
   assign.wpIn (Fence.wide.inRound l) (n - 1 - 1) Tryz.prog (Exit.then K (fun _ _ _=>False)) { tmps:=((#[p]:bF Tmp).zip #[.string x]).foldl (fun t (p,v)=>t.setIfInBounds p v) a.tmps,defers:=[] } W)
  (mi:∀ (l:ax) (s:aL) (W:az),I s W→0≤idx s→body.wpIn (Fence.wide.inRound l) (n - 1 - 1) Tryz.prog (yv (I' s) Ix W) (a₁ (s.extract 0 (idx s).toNat)) W)
  (WK:∀ (l:ax) (s:aL) (W:az),I s W→idx s=-1→body.wpIn (Fence.wide.inRound l) (n - 1 - 1) Tryz.prog (yv Ie Ix W) (a₁ s) W)
  (s0:aL) (h0:I s0 w)
  (hdone:∀ (D:ax) (W:az),w.heap.size≤D→Ie W→W.heap[D]?=aa (.deferred (aa []))→Q .normal { a with defers:={ target:=.collected D,args := #[] } :: a.defers } W)
  (WL:∀ (D:ax) (W:az),w.heap.size≤D→Ix W→W.heap[D]?=aa (.deferred (aa []))→Code.ret.wpIn Fence.wide n Tryz.prog Q { a with defers:={ target:=.collected D,args := #[] } :: a.defers } W) :
  (Code.rangeFunc g #[p] assign body).wpIn Fence.wide n Tryz.prog Q a w:=by
 refine wpIn_rangeFunc ?_
 intro fn hfn
 obtain ⟨rec,zM⟩:∃ rec:LoopState→ak Code→Loop,rec=fun st pe=>{ state:=st,pending:=pe,fn,tmps:=a.tmps,params := #[p],assign,body,defers:=w.heap.size }:=⟨_,rfl⟩
 obtain ⟨W1,hW1⟩:∃ W1,(w.alloc (.deferred (aa []))).alloc (.loop (rec .ready ah))=W1:=⟨_,rfl⟩
 have hL1:W1.heap[w.heap.size+1]?=aa (.loop (rec .ready ah)):=by
  rw [← hW1];have:=World.alloc_heap_new (w.alloc (.deferred (aa []))) (.loop (rec .ready ah));rwa [World.size_alloc] at this
 have hK1:W1.heap[w.heap.size]?=aa (.deferred (aa [])):=by
  rw [← hW1];exact (Below.heap_alloc _ _ _ (by simp)).trans (World.alloc_heap_new w _)
 have hI1:I s0 W1:=by rw [← hW1];exact Lz _ _ _ (Lz _ _ _ h0)
 refine ⟨w.heap.size+1,[{ target:=.collected w.heap.size,args := #[] }],W1,{ target:=.fn (.func 137) #[.pointer (aa ⟨B+1,0,ah⟩),.pointer (aa ⟨B,0,ah⟩),.pointer (aa ⟨B+2,0,ah⟩)],args := #[.func (.yield (w.heap.size+1)) #[] #[]] },W1,137,
  #[.func (.yield (w.heap.size+1)) #[] #[]] ++ #[.pointer (aa ⟨B+1,0,ah⟩),.pointer (aa ⟨B,0,ah⟩),.pointer (aa ⟨B+2,0,ah⟩)],W1,?_,?_,?_,?_,fun _=>h1,?_⟩
 ·rw [← hW1,zM];exact run_enterLoop_outer _ _ _ _ _
 ·simp only [resolve,hg]
  simp [go_sem]
 ·intro f' hf';trivial
 ·simp [invoke,go_sem,enters_of Tryz.func137 (by kernel_rfl) rfl]
 ·
  have round:∀ (x:aL) (G G':az→Prop) (W:az),G W→(∀ (l:ax) (o o':Obj),w.heap.size≤l→W.heap[l]?=aa o→o.isCells=af→G (W.putObj l o')) →
    (∀ (W:az) (l:ax) (o o':Obj),w.heap.size≤l→W.heap[l]?=aa o→o.isCells=af→G' W→G' (W.putObj l o')) →
    (∀ W,G W→body.wpIn (Fence.wide.inRound (w.heap.size+1)) (n - 1 - 1) Tryz.prog (yv G' Ix W) (a₁ x) W) →
    W.heap[w.heap.size+1]?=aa (.loop (rec .ready ah))→W.heap[w.heap.size]?=aa (.deferred (aa [])) →
    YieldAt Fence.wide (n - 1 - 1) Tryz.prog (w.heap.size+1) #[.string x] W fun e W' =>
     (e=.returned (.bool aj)∧G' W'∧W'.heap[w.heap.size+1]?=aa (.loop (rec .ready ah))∧W'.heap[w.heap.size]?=aa (.deferred (aa []))) ∨
     (e=.returned (.bool af)∧Ix W'∧W'.heap[w.heap.size+1]?=aa (.loop (rec .done (aa .ret)))∧W'.heap[w.heap.size]?=aa (.deferred (aa []))):=by
   intro x G G' W hi WM Ti hb hl hk
   have hlt:w.heap.size+1 < W.heap.size:=(Array.getElem?_eq_some_iff.1 hl).1
   have hy:=run_yield (P:=Tryz.prog) (args := #[.string x]) hl (by rw [zM];rfl)
   rw [zM] at hy
   refine ⟨fn,_,assign,body,hy,roundIn_of_wpIn hfn (Ph _ x W _ ⟨_,run_beginRound hl (by rw [zM]),?_⟩)⟩
   have hl2:(W.putObj (w.heap.size+1) (.loop { rec .ready ah with state:=.busy })).heap[w.heap.size+1]?=aa (.loop { rec .ready ah with state:=.busy }):=World.putObj_heap_same hlt
   have hk2:(W.putObj (w.heap.size+1) (.loop { rec .ready ah with state:=.busy })).heap[w.heap.size]?=aa (.deferred (aa [])):=(World.putObj_heap_other (by omega)).trans hk
   refine wpIn_mono (hb _ (WM _ _ _ (by omega) hl rfl)) ?_
   have fin:∀ (jump:ak Code) (W3:az),KeepsOthers (W.putObj (w.heap.size+1) (.loop { rec .ready ah with state:=.busy })) W3 →
     (Instr.endRound (w.heap.size+1) jump).run Tryz.prog W3=.ok (.bool jump.isNone) (W3.putObj (w.heap.size+1) (.loop (rec (if jump.isNone then .ready else .done) jump))) ∧
     W3.heap[w.heap.size+1]?=aa (.loop { rec .ready ah with state:=.busy }) ∧
     (W3.putObj (w.heap.size+1) (.loop (rec (if jump.isNone then .ready else .done) jump))).heap[w.heap.size+1]?=aa (.loop (rec (if jump.isNone then .ready else .done) jump)) ∧
     (W3.putObj (w.heap.size+1) (.loop (rec (if jump.isNone then .ready else .done) jump))).heap[w.heap.size]?=aa (.deferred (aa [])):=fun jump W3 hk3=>by
    have N0:=hk3.same _ _ hl2 rfl
    have:=run_endRound (P:=Tryz.prog) jump N0
    rw [zM] at this ⊢
    exact ⟨this,by rw [zM] at N0;exact N0,World.putObj_heap_same (Array.getElem?_eq_some_iff.1 N0).1,(World.putObj_heap_other (by omega)).trans (hk3.same _ _ hk2 rfl)⟩
   rintro e a3 W3 hp
   cases e with
   | normal =>
    obtain ⟨hk3,Tj⟩:=hp
    obtain ⟨hr,N0,hl4,hk4⟩:=fin ah W3 hk3
    exact ⟨_,_,hr,.inl ⟨rfl,Ti _ _ _ _ (by omega) N0 rfl Tj,hl4,hk4⟩⟩
   | ret =>
    obtain ⟨hk3,Tj⟩:=hp
    obtain ⟨hr,N0,hl4,hk4⟩:=fin (aa .ret) W3 hk3
    exact ⟨_,_,hr,.inr ⟨rfl,hput Ix (.inl rfl) _ _ _ _ (by omega) N0 rfl Tj,hl4,hk4⟩⟩
   | exit id=>exact hp.elim
   | goto t=>exact hp.elim
   | panic ch=>exact hp.elim
   | outgrown=>exact hp.elim
  refine (Jq (n - 1) h2 (w.heap.size+1) B idx lD hI
   (fun s W=>I s W∧W.heap[w.heap.size+1]?=aa (.loop (rec .ready ah))∧W.heap[w.heap.size]?=aa (.deferred (aa [])))
   (fun s W=>I' s W∧W.heap[w.heap.size+1]?=aa (.loop (rec .ready ah))∧W.heap[w.heap.size]?=aa (.deferred (aa [])))
   (fun W=>Ix W∧W.heap[w.heap.size+1]?=aa (.loop (rec .done (aa .ret)))∧W.heap[w.heap.size]?=aa (.deferred (aa [])))
   (fun W=>Ie W∧W.heap[w.heap.size+1]?=aa (.loop (rec .ready ah))∧W.heap[w.heap.size]?=aa (.deferred (aa [])))
   (fun s W h=>hJ s W h.1) (fun s W h=>hJ' s W h.1) ?_ ?_ ?_ W1 s0 ⟨hI1,hL1,hK1⟩).mono ?_
  ·rintro s W ⟨hi,hl,hk⟩ hx
   exact round _ (I s) (I' s) W hi (fun l o o' q1 q2 q3=>hput _ (.inr (.inr ⟨s,.inl rfl⟩)) W l o o' q1 q2 q3 hi) (hput _ (.inr (.inr ⟨s,.inr rfl⟩))) (fun W hi=>mi _ s W hi hx) hl hk
  ·rintro s W ⟨hi,hl,hk⟩ hx
   refine ⟨hS s W hi hx,?_,?_⟩
   ·rw [Below.heap_setCell _ _ _ _ (by show w.heap.size+1≠B;omega)];exact hl
   ·rw [Below.heap_setCell _ _ _ _ (by show w.heap.size≠B;omega)];exact hk
  ·rintro s W ⟨hi,hl,hk⟩ hx
   exact round _ (I s) Ie W hi (fun l o o' q1 q2 q3=>hput _ (.inr (.inr ⟨s,.inl rfl⟩)) W l o o' q1 q2 q3 hi) (hput _ (.inr (.inl rfl))) (fun W hi=>WK _ s W hi hx) hl hk
  ·
   rintro e W2 ⟨⟨v,rfl⟩,(⟨hi,hl,hk⟩ | ⟨hi,hl,hk⟩)⟩
   ·exact ⟨ah,_,by have:=run_endLoop (P:=Tryz.prog) hl (by rw [zM];simp);rw [zM] at this;exact this,hdone _ _ (Nat.le_refl _) (hput _ (.inr (.inl rfl)) _ _ _ _ (by omega) hl rfl hi) ((World.putObj_heap_other (by omega)).trans hk)⟩
   ·exact ⟨aa .ret,_,by have:=run_endLoop (P:=Tryz.prog) hl (by rw [zM];simp);rw [zM] at this;exact this,WL _ _ (Nat.le_refl _) (hput _ (.inl rfl) _ _ _ _ (by omega) hl rfl hi) ((World.putObj_heap_other (by omega)).trans hk)⟩
set_option maxRecDepth 100000
set_option maxHeartbeats 4000000
inductive Sp (idx:aL→aB):aL→ai aL→Prop
 | last (s:aL) (h:idx s=-1):Sp idx s [s]
 | more (s:aL) (h:0≤idx s) (R:ai aL) (hR:Sp idx (s.extract (idx s+1).toNat s.size) R):Sp idx s (s.extract 0 (idx s).toNat :: R)
theorem Sp.total (idx:aL→aB) (lD:∀ s,idx s=-1∨(0≤idx s∧idx s+1≤s.size)) (s:aL):∃ L,Sp idx s L:=by
 generalize hn:s.size=n
 induction n using Nat.strongRecOn generalizing s with
 | _ n ih =>
  rcases lD s with h | ⟨h1,h2⟩
  ·exact ⟨_,.last s h⟩
  ·obtain ⟨R,hR⟩:=ih (s.extract (idx s+1).toNat s.size).size (by simp only [bN];omega) _ rfl
   exact ⟨_,.more s h1 R hR⟩
theorem Sp.cons {idx:aL→aB} {s:aL} {L:ai aL} (h:Sp idx s L):∃ x L',L=x :: L':=by cases h <;> exact ⟨_,_,rfl⟩
theorem Sp.len {idx:aL→aB} (lD:∀ s,idx s=-1∨(0≤idx s∧idx s+1≤s.size)) {s:aL} {L:ai aL} (h:Sp idx s L):L.length≤s.size+1:=by
 induction h with
 | last s h=>simp
 | more s h R hR ih =>
  have:=lD s
  simp only [bN] at ih
  simp only [aA]
  omega
structure eK (N:ax) (w:az) (root:ay) (sv:aC) (pre:ai aL) (rest:aL) (W:az):Prop where
 below:Below N w W
 size:N+6≤W.heap.size
 r0:W.heap[N]?=aa (.cells #[.bool af,.slice ah 0 0] 55)
 r1:W.heap[N+1]?=aa (.cells #[.bool af] 4)
 wv:W.heap[N+1+1]?=aa (.cells #[.bool root,sv] 55)
 bs:W.heap[N+1+1+1]?=aa (.cells #[.string rest] 9)
 bp:W.heap[N+1+1+1+1]?=aa (.cells #[.string ⟨#[46]⟩] 9)
 bk:W.heap[N+1+1+1+2]?=aa (.cells #[.int .i64 0] 3)
 row:W.ownsRow (N+6) 9 1 sv pre.length (pre.map .string)
theorem cell1 {W:az} {b:ax} {x:aC} {t:TypeId} (h:W.heap[b]?=aa (.cells #[x] t)):W.cell? ⟨b,0,ah⟩=aa x∧W.frozen? ⟨b,0,ah⟩=af:=by simp [World.cell?,World.frozen?,h]
theorem cF {W:az} {b:ax} {x y:aC} {t:TypeId} (h:W.heap[b]?=aa (.cells #[x,y] t)):W.cell? ⟨b,0,ah⟩=aa x∧W.cell? ⟨b,1,ah⟩=aa y∧W.frozen? ⟨b,0,ah⟩=af∧W.frozen? ⟨b,1,ah⟩=af:=by simp [World.cell?,World.frozen?,h]
theorem eW {w:az} {o:Obj} {i:ax} (h:i=w.heap.size):(w.alloc o).heap[i]?=aa o:=by subst h;exact World.alloc_heap_new w o
theorem ck {w:az} {o:Obj} {i:ax} (h:i < w.heap.size):(w.alloc o).heap[i]?=w.heap[i]?:=Below.heap_alloc w o i h
theorem ov {W:az} {base:ax} {e:TypeId} {size:ax} {v:aC} {k:ax} {xs:ai aC} (h:W.ownsRow base e size v k xs) {j:ax} (hj:v.ownBlock=aa j):base≤j∧∃ o:Obj,W.heap[j]?=aa o∧o.isCells=aj:=by
 rcases h.2 with ⟨rfl,_⟩ | ⟨g,cap,cur,rfl,hb,hgb,_⟩
 ·simp [Value.ownBlock] at hj
 ·obtain rfl:g=j:=by simpa [Value.ownBlock] using hj
  exact ⟨hb,_,hgb,rfl⟩
theorem bl {W:az} {b k:ax} {i:ax} {v:aC} (h:k≠b):(W.setCell ⟨b,i,ah⟩ v).heap[k]?=W.heap[k]?:=Below.heap_setCell W _ v k h
theorem kE (W:az) (b i:ax) (v:aC):W.grownBy (W.setCell ⟨b,i,ah⟩ v) (aa b) :=
 ⟨rfl,rfl,rfl,(KeepsWalks.setCell W _ v).size,fun k _ hk=>bl (fun e=>hk (by rw [e]))⟩
theorem sZ {W:az} {b:ax} {x y:aC} {t:TypeId} (v:aC) (h:W.heap[b]?=aa (.cells #[x,y] t)):(W.setCell ⟨b,1,ah⟩ v).heap[b]?=aa (.cells #[x,v] t):=by
 obtain ⟨hlt,hk⟩:=Array.getElem?_eq_some_iff.1 h
 show (W.heap.modify b _)[b]?=_
 rw [Array.getElem?_eq_getElem (by rw [Array.size_modify];exact hlt),Array.getElem_modify_self,hk]
 rfl
theorem um {W:az} {b:ax} {x:aC} {t:TypeId} (v:aC) (h:W.heap[b]?=aa (.cells #[x] t)):(W.setCell ⟨b,0,ah⟩ v).heap[b]?=aa (.cells #[v] t):=by
 obtain ⟨hlt,hk⟩:=Array.getElem?_eq_some_iff.1 h
 show (W.heap.modify b _)[b]?=_
 rw [Array.getElem?_eq_getElem (by rw [Array.size_modify];exact hlt),Array.getElem_modify_self,hk]
 rfl
theorem eL (W:az) (a:Addr) (v:aC):(W.setCell a v).heap.size=W.heap.size:=by show (W.heap.modify _ _).size=_;rw [Array.size_modify]
theorem eK.appended {N:ax} {w:az} {root:ay} {sv:aC} {pre:ai aL} {rest:aL} {W w1:az} (hm:eK N w root sv pre rest W) {tmp:Obj} {v':aC} {x:aL}
  (hown':w1.ownsRow (N+6) 9 1 v' (pre.length+1) (pre.map .string ++ [.string x])) (hgrow:(W.alloc tmp).grownBy w1 sv.ownBlock) :
  w1.heap[N+1+1]?=aa (.cells #[.bool root,sv] 55)∧KeepsOthers W (w1.setCell ⟨N+1+1,1,ah⟩ v')∧eK N w root v' (pre ++ [x]) rest (w1.setCell ⟨N+1+1,1,ah⟩ v'):=by
 have old:∀ k,k < N+6→w1.heap[k]?=W.heap[k]?:=fun k hk=>by
  have hsz:=hm.size
  rw [hgrow.block k (by simp;omega) (fun e=>by have:=(ov hm.row e.symm).1;omega)]
  exact ck (by omega)
 have LA:∀ k,k < N+6→k≠N+1+1→(w1.setCell ⟨N+1+1,1,ah⟩ v').heap[k]?=W.heap[k]?:=fun k hk hne=>(bl hne).trans (old k hk)
 have hwv:w1.heap[N+1+1]?=aa (.cells #[.bool root,sv] 55):=(old _ (by omega)).trans hm.wv
 refine ⟨hwv,?_,?_⟩
 ·refine ((KeepsOthers.alloc W tmp).trans (KeepsOthers.of_grownBy hgrow fun j o ej hj=>?_)).trans (KeepsOthers.setCell _ _ _)
  obtain ⟨_,o',h1,h2⟩:=ov (hm.row.alloc tmp) ej
  rw [h1] at hj;cases hj;exact h2
 ·have hb:Below N W (w1.setCell ⟨N+1+1,1,ah⟩ v'):=by
   refine (((Below.refl N W).alloc (by have:=hm.size;omega) tmp).grown hgrow (by simp;have:=hm.size;omega) fun j ej=>?_).setCell (p:=⟨N+1+1,1,ah⟩) (by show N≤N+1+1;omega) v'
   have:=(ov hm.row ej).1;omega
  exact {
   below:=hm.below.trans hb
   size:=by have:=hm.size;have:=hb.size;omega
   r0:=(LA _ (by omega) (by omega)).trans hm.r0
   r1:=(LA _ (by omega) (by omega)).trans hm.r1
   wv:=sZ v' hwv
   bs:=(LA _ (by omega) (by omega)).trans hm.bs
   bp:=(LA _ (by omega) (by omega)).trans hm.bp
   bk:=(LA _ (by omega) (by omega)).trans hm.bk
   row:=by
    have:=hown'.kept (kE w1 (N+1+1) 1 v') (.inr fun e=>by have:=(ov hown' e).1;omega)
    simpa using this }
theorem eK.kM {N:ax} {w W:az} (hb:Below N w W) {l:ax} {o:Obj} (o':Obj) (hl:N≤l) (oX:W.heap[l]?=aa o):Below N w (W.putObj l o') :=
 hb.trans ((Below.refl N W).grown (grownBy_putObj' W l o') (by have:=(Array.getElem?_eq_some_iff.1 oX).1;omega) fun j ej=>by cases ej;exact hl)
theorem eK.put {N:ax} {w:az} {root:ay} {sv:aC} {pre:ai aL} {rest:aL} {W:az} (hm:eK N w root sv pre rest W) {l:ax} {o:Obj} (o':Obj) (hl:N+6≤l) (oX:W.heap[l]?=aa o) (Pj:o.isCells=af):eK N w root sv pre rest (W.putObj l o') where
 below:=eK.kM hm.below o' (by omega) oX
 size:=by simpa using hm.size
 r0:=(World.putObj_heap_other (by omega)).trans hm.r0
 r1:=(World.putObj_heap_other (by omega)).trans hm.r1
 wv:=(World.putObj_heap_other (by omega)).trans hm.wv
 bs:=(World.putObj_heap_other (by omega)).trans hm.bs
 bp:=(World.putObj_heap_other (by omega)).trans hm.bp
 bk:=(World.putObj_heap_other (by omega)).trans hm.bk
 row:=ownsRow_putObj hm.row o' oX Pj
theorem eK.alloc {N:ax} {w:az} {root:ay} {sv:aC} {pre:ai aL} {rest:aL} {W:az} (hm:eK N w root sv pre rest W) (o:Obj):eK N w root sv pre rest (W.alloc o) where
 below:=hm.below.alloc (by have:=hm.size;omega) _
 size:=by have:=hm.size;simp;omega
 r0:=(ck (by have:=hm.size;omega)).trans hm.r0
 r1:=(ck (by have:=hm.size;omega)).trans hm.r1
 wv:=(ck (by have:=hm.size;omega)).trans hm.wv
 bs:=(ck (by have:=hm.size;omega)).trans hm.bs
 bp:=(ck (by have:=hm.size;omega)).trans hm.bp
 bk:=(ck (by have:=hm.size;omega)).trans hm.bk
 row:=hm.row.alloc o
theorem eK.set {N:ax} {w:az} {root:ay} {sv:aC} {pre:ai aL} {rest:aL} {W:az} (hm:eK N w root sv pre rest W) (rest':aL):eK N w root sv pre rest' (W.setCell ⟨N+1+1+1,0,ah⟩ (.string rest')) where
 below:=hm.below.trans ((Below.refl N W).setCell (p:=⟨N+1+1+1,0,ah⟩) (by show N≤N+1+1+1;omega) _)
 size:=by rw [eL];exact hm.size
 r0:=(bl (by omega)).trans hm.r0
 r1:=(bl (by omega)).trans hm.r1
 wv:=(bl (by omega)).trans hm.wv
 bs:=um _ hm.bs
 bp:=(bl (by omega)).trans hm.bp
 bk:=(bl (by omega)).trans hm.bk
 row:=hm.row.kept (kE W (N+1+1+1) 0 _) (.inr fun e=>by have:=(ov hm.row e).1;omega)
theorem eM {W:az} {b:ax} {x y:aC} {t:TypeId} (u v:aC) (h:W.heap[b]?=aa (.cells #[x,y] t)):((W.setCell ⟨b,0,ah⟩ u).setCell ⟨b,1,ah⟩ v).heap[b]?=aa (.cells #[u,v] t):=by
 refine sZ v (x:=u) (y:=y) ?_
 obtain ⟨hlt,hk⟩:=Array.getElem?_eq_some_iff.1 h
 show (W.heap.modify b _)[b]?=_
 rw [Array.getElem?_eq_getElem (by rw [Array.size_modify];exact hlt),Array.getElem_modify_self,hk]
 rfl
theorem eK.failed {N:ax} {w:az} {root:ay} {sv:aC} {pre:ai aL} {rest:aL} {W:az} (hm:eK N w root sv pre rest W) {A:Prop} (hA:A) :
  KeepsOthers W (((W.setCell ⟨N,0,ah⟩ (.bool af)).setCell ⟨N,1,ah⟩ (.slice ah 0 0)).setCell ⟨N+1,0,ah⟩ (.bool af))∧A∧Below N w (((W.setCell ⟨N,0,ah⟩ (.bool af)).setCell ⟨N,1,ah⟩ (.slice ah 0 0)).setCell ⟨N+1,0,ah⟩ (.bool af)) ∧
   (((W.setCell ⟨N,0,ah⟩ (.bool af)).setCell ⟨N,1,ah⟩ (.slice ah 0 0)).setCell ⟨N+1,0,ah⟩ (.bool af)).heap[N]?=aa (.cells #[.bool af,.slice ah 0 0] 55) ∧
   (((W.setCell ⟨N,0,ah⟩ (.bool af)).setCell ⟨N,1,ah⟩ (.slice ah 0 0)).setCell ⟨N+1,0,ah⟩ (.bool af)).heap[N+1]?=aa (.cells #[.bool af] 4) :=
 ⟨((KeepsOthers.setCell _ _ _).trans (KeepsOthers.setCell _ _ _)).trans (KeepsOthers.setCell _ _ _),hA,
  hm.below.trans ((((Below.refl N W).setCell (p:=⟨N,0,ah⟩) (Nat.le_refl _) _).setCell (p:=⟨N,1,ah⟩) (Nat.le_refl _) _).setCell (p:=⟨N+1,0,ah⟩) (by show N≤N+1;omega) _),
  (bl (by omega)).trans (eM _ _ hm.r0),um _ ((bl (by omega)).trans ((bl (by omega)).trans hm.r1))⟩
theorem eK.stored {N:ax} {w:az} {root:ay} {sv:aC} {pre:ai aL} {rest:aL} {W:az} (hm:eK N w root sv pre rest W) (u v b:aC) :
  KeepsOthers W (((W.setCell ⟨N,0,ah⟩ u).setCell ⟨N,1,ah⟩ v).setCell ⟨N+1,0,ah⟩ b)∧Below N w (((W.setCell ⟨N,0,ah⟩ u).setCell ⟨N,1,ah⟩ v).setCell ⟨N+1,0,ah⟩ b) ∧
   (((W.setCell ⟨N,0,ah⟩ u).setCell ⟨N,1,ah⟩ v).setCell ⟨N+1,0,ah⟩ b).heap[N]?=aa (.cells #[u,v] 55) ∧
   (((W.setCell ⟨N,0,ah⟩ u).setCell ⟨N,1,ah⟩ v).setCell ⟨N+1,0,ah⟩ b).heap[N+1]?=aa (.cells #[b] 4) ∧
   (((W.setCell ⟨N,0,ah⟩ u).setCell ⟨N,1,ah⟩ v).setCell ⟨N+1,0,ah⟩ b).ownsRow (N+6) 9 1 sv pre.length (pre.map .string):=by
 have hne:∀ k,k < N+6→aa k≠sv.ownBlock:=fun k hk e=>by have:=(ov hm.row e.symm).1;omega
 exact ⟨((KeepsOthers.setCell _ _ _).trans (KeepsOthers.setCell _ _ _)).trans (KeepsOthers.setCell _ _ _),
  hm.below.trans ((((Below.refl N W).setCell (p:=⟨N,0,ah⟩) (Nat.le_refl _) _).setCell (p:=⟨N,1,ah⟩) (Nat.le_refl _) _).setCell (p:=⟨N+1,0,ah⟩) (by show N≤N+1;omega) _),
  (bl (by omega)).trans (eM _ _ hm.r0),um _ ((bl (by omega)).trans ((bl (by omega)).trans hm.r1)),
  ((hm.row.kept (kE W N 0 u) (.inr (hne N (by omega)).symm)).kept (kE _ N 1 v) (.inr (hne N (by omega)).symm)).kept (kE _ (N+1) 0 b) (.inr (hne (N+1) (by omega)).symm)⟩
theorem qz {W:az} {base base':ax} {e:TypeId} {size:ax} {v:aC} {k:ax} {xs:ai aC} (h:W.ownsRow base e size v k xs) (hb:base'≤base):W.ownsRow base' e size v k xs:=by
 refine ⟨h.1,?_⟩
 rcases h.2 with q | ⟨g,cap,cur,q1,q2,q3⟩
 ·exact .inl q
 ·exact .inr ⟨g,cap,cur,q1,Nat.le_trans hb q2,q3⟩
theorem results27 (T:bF aC) (W:az) (N:ax) (x y b:aC) (t2:T[2]?.getD undef=.pointer (aa ⟨N,0,ah⟩)) (t3:T[3]?.getD undef=.pointer (aa ⟨N+1,0,ah⟩))
  (h0:W.heap[N]?=aa (.cells #[x,y] 55)) (h1:W.heap[N+1]?=aa (.cells #[b] 4)) :
  (results jl T).run Tryz.prog W=.ok (.tuple #[.agg #[x,y],b]) W:=by
 have hr:jl.results = #[.cell 2 55,.cell 3 4]:=by kernel_rfl
 have l1:(loadVar 55 ⟨N,0,ah⟩).run Tryz.prog W=.ok (.agg #[x,y]) W:=by
  simp [loadVar,go_sem,(cF h0).1,(cF h0).2.1,Result.andThen]
 have l2:(loadVar 4 ⟨N+1,0,ah⟩).run Tryz.prog W=.ok b W:=by
  simp [loadVar,go_sem,(cell1 h1).1]
 unfold results
 rw [hr]
 simp [t2,t3,Sem.run_bind,asAddr,l1,l2,Result.andThen]
theorem D7:(Tryz.prog.info? 9).map (fun i=>(i.zero,i.size,i.bytes))=aa (aa (.string ⟨#[]⟩),1,16):=by kernel_rfl
def He (idx:aL→aB) (nm pfx:aL→ay) (N:ax) (s:aL) (v:aC) (W:az):Prop :=
 ((s.toList == [46])=aj∧v=.tuple #[.agg #[.bool af,.slice ah 0 0],.bool aj]) ∨
 ((s.toList == [46])=af∧(s.toList == [36])=aj∧v=.tuple #[.agg #[.bool aj,.slice ah 0 0],.bool aj]) ∨
 ((s.toList == [46])=af∧(s.toList == [36])=af∧∃ L,Sp idx (if pfx s then s.extract 2 s.size else s) L ∧
  (((L.all nm=af∨8 < L.length)∧v=.tuple #[.agg #[.bool af,.slice ah 0 0],.bool af]) ∨
   (L.all nm=aj∧L.length≤8∧∃ sv,v=.tuple #[.agg #[.bool (pfx s),sv],.bool aj]∧W.ownsRow N 9 1 sv L.length (L.map .string))))
theorem Tk (n:ax) (hn:4≤n) (idx:aL→aB) (nm pfx:aL→ay) (aaq:∀ s,pfx s=aj→2≤s.size) (lD:∀ s,idx s=-1∨(0≤idx s∧idx s+1≤s.size))
  (hP:∀ (s:aL) (w:az),Calls Tryz.prog 42 #[.string s,.string ⟨#[36,46]⟩] w fun e w'=>e=.returned (.bool (pfx s))∧w'=w)
  (hI:∀ (s:aL) (w:az),s.size≤9223372036854775807→Calls Tryz.prog 58 #[.string s,.string ⟨#[46]⟩] w fun e w'=>e=.returned (.int .i64 (idx s))∧w'=w)
  (hN:∀ (s:aL) (w:az),s.size≤9223372036854775807→Calls Tryz.prog 91 #[.string s] w fun e w'=>e=.returned (.bool (nm s))∧w'=w)
  (s:aL) (hs:s.size≤1000000000) (w:az) :
  CallsIn Fence.wide n Tryz.prog 73 #[.string s] w fun e w'=>∃ v,e=.returned v∧Below w.heap.size w w'∧He idx nm pfx w.heap.size s v w':=by
 have h1:1≤n - 1:=by omega
 have h0:1≤n:=by omega
 have h2:1≤n - 1 - 1:=by omega
 refine callsIn_of_wp_marks Tryz.func73 rfl trivial ?_ rfl
 simp only [Tryz.ntmps73,Nat.reduceAdd,Nat.reduceSub,Sx.zC]
 cases hx:pfx s with
 | false =>
  gi_wp2_with (first | (refine ⟨trivial,?_⟩;gi_at_call 42;refine (aT.2 (hP _ _)).mono ?_;rintro e w' ⟨rfl,hw⟩;rw [hw,hx]) | (refine ⟨trivial,?_⟩;gi_at_call 90;refine (wx _ h1 _ _).mono ?_;rintro e w' ⟨rfl,hw⟩;rw [hw]))
  ·refine ⟨_,results27 _ _ w.heap.size (.bool af) (.slice ah 0 0) (.bool aj) rfl rfl ?_ ?_,_,rfl,?_,.inl ⟨by assumption,rfl⟩⟩
   ·((try simp only [World.size_alloc]);repeat (first | exact eW (by first | (simp only [World.size_alloc];done) | (simp only [World.size_alloc];omega) | omega) | rw [ck (by simp only [World.size_alloc];omega)]))
   ·((try simp only [World.size_alloc]);repeat (first | exact eW (by first | (simp only [World.size_alloc];done) | (simp only [World.size_alloc];omega) | omega) | rw [ck (by simp only [World.size_alloc];omega)]))
   ·exact (((Below.refl _ w).alloc (Nat.le_refl _) _).alloc (by simp) _).alloc (by simp;omega) _
  ·refine ⟨_,results27 _ _ w.heap.size (.bool aj) (.slice ah 0 0) (.bool aj) rfl rfl ?_ ?_,_,rfl,?_,.inr (.inl ⟨by assumption,by assumption,rfl⟩)⟩
   ·((try simp only [World.size_alloc]);repeat (first | exact eW (by first | (simp only [World.size_alloc];done) | (simp only [World.size_alloc];omega) | omega) | rw [ck (by simp only [World.size_alloc];omega)]))
   ·((try simp only [World.size_alloc]);repeat (first | exact eW (by first | (simp only [World.size_alloc];done) | (simp only [World.size_alloc];omega) | omega) | rw [ck (by simp only [World.size_alloc];omega)]))
   ·exact (((Below.refl _ w).alloc (Nat.le_refl _) _).alloc (by simp) _).alloc (by simp;omega) _
  ·obtain ⟨L,Js⟩:=Sp.total idx lD s
   have Vu:=Js.len lD
   refine mo h0 h1 (B:=w.heap.size+1+1+1) (by simp) rfl idx lD hI
    (fun s W=>∃ pre R sv,L=pre ++ R∧Sp idx s R∧pre.all nm=aj∧s.size≤1000000000∧eK w.heap.size w af sv pre s W)
    (fun s W=>∃ pre R sv,L=pre ++ R∧(0≤idx s→Sp idx (s.extract (idx s+1).toNat s.size) R)∧pre.all nm=aj∧s.size≤1000000000∧eK w.heap.size w af sv pre s W)
    (fun W=>L.all nm=af∧Below w.heap.size w W∧W.heap[w.heap.size]?=aa (.cells #[.bool af,.slice ah 0 0] 55)∧W.heap[w.heap.size+1]?=aa (.cells #[.bool af] 4))
    (fun W=>L.all nm=aj∧∃ sv rest,eK w.heap.size w af sv L rest W)
    ?put ?alloc ?J ?J' ?S
    (fun x=>{ tmps := #[.string s,undef,.pointer (aa ⟨w.heap.size,0,ah⟩),.pointer (aa ⟨w.heap.size+1,0,ah⟩),.pointer (aa ⟨w.heap.size+1+1,0,ah⟩),.string x,.bool af,.string s,.bool af,undef,.bool af,.string s,.bool af,undef,.bool af,
     .string s,.bool af,undef,undef,undef,.string s,.func (.func 137) #[] #[.pointer (aa ⟨w.heap.size+1+1+1+1,0,ah⟩),.pointer (aa ⟨w.heap.size+1+1+1,0,ah⟩),.pointer (aa ⟨w.heap.size+1+1+1+2,0,ah⟩)],.string x,
     undef,undef,undef,undef,undef,undef,undef,undef,undef,undef,undef,undef,undef,undef,undef,undef],defers:=[] })
    ?assign ?body ?lst s ?start ?done ?stop
   case assign =>
    intro l x W K hK
    have LB:=@Oper.semAt_some
    gi_wp2
    exact hK
   case body =>
    rintro l s W ⟨pre,R,sv,hL,Tl,hall,hsz,hm⟩ hi
    have LB:=@Oper.semAt_some
    obtain ⟨v1,v2,v3,v4⟩:=cF hm.wv
    obtain ⟨r1,r2,r3,r4⟩:=cF hm.r0
    obtain ⟨q1,q2⟩:=cell1 hm.r1
    have hlen:pre.length≤1000000001:=by rw [hL,au] at Vu;omega
    have LC:(s.extract 0 (idx s).toNat).size≤9223372036854775807:=by simp only [bN];omega
    obtain ⟨R',rfl,hR'⟩:∃ R',R=s.extract 0 (idx s).toNat :: R'∧Sp idx (s.extract (idx s+1).toNat s.size) R':=by
     cases Tl with
     | last _ h=>omega
     | more _ h R hR=>exact ⟨R,rfl,hR⟩
    cases hx:nm (s.extract 0 (idx s).toNat) with
    | false =>
     gi_wp2_with (refine ⟨trivial,?_⟩;gi_at_call 91;refine (dh l (aT.2 (hN _ _ LC))).mono ?_;rintro e w' ⟨rfl,hw⟩;rw [hw,hx])
     exact hm.failed (by rw [hL];simp [hx])
    | true =>
     obtain ⟨i0,tI,hz0,hz1,hz2⟩:=info_parts D7
     have hrow:=hm.row
     gi_wp2_with (first
      | (refine ⟨trivial,?_⟩;gi_at_call 91;refine (dh l (aT.2 (hN _ _ LC))).mono ?_;rintro e w' ⟨rfl,hw⟩;rw [hw,hx])
      | (gi_at_builtin;refine wpListIn_append_own _ rfl _ _ 53 rfl (w.heap.size+6) 9 i0 (.string ⟨#[]⟩) 1 16 fB tI hz0 hz1 hz2 rfl (by decide) _ _ _ rfl (hrow.alloc _) ⟨W.heap.size,0,ah⟩ 1 1 [.string (s.extract 0 (idx s).toNat)] rfl rfl (cell_one_new _ _ _) (by simp [Value.oneCell']) (by have:maxLen=9223372036854775807:=rfl;omega) (by omega) (by have:=hm.size;simp;omega) ?_;intro v' w1 hown' hgrow _;obtain ⟨g',cap',rfl⟩:=ownsRow_succ hown';obtain ⟨Fk,tF,Pk⟩:=hm.appended hown' hgrow;obtain ⟨y1,y2,y3,y4⟩:=cF Fk))
     exact ⟨tF,pre ++ [s.extract 0 (idx s).toNat],R',_,by rw [hL];simp,fun _=>hR',by simp [hall,hx],hsz,Pk⟩
   case lst =>
    rintro l s W ⟨pre,R,sv,hL,Tl,hall,hsz,hm⟩ hi
    have LB:=@Oper.semAt_some
    obtain ⟨v1,v2,v3,v4⟩:=cF hm.wv
    obtain ⟨r1,r2,r3,r4⟩:=cF hm.r0
    obtain ⟨q1,q2⟩:=cell1 hm.r1
    have hlen:pre.length≤1000000001:=by rw [hL,au] at Vu;omega
    have LC:s.size≤9223372036854775807:=by omega
    obtain rfl:R=[s]:=by
     cases Tl with
     | last _ h=>rfl
     | more _ h R hR=>omega
    cases hx:nm s with
    | false =>
     gi_wp2_with (refine ⟨trivial,?_⟩;gi_at_call 91;refine (dh l (aT.2 (hN _ _ LC))).mono ?_;rintro e w' ⟨rfl,hw⟩;rw [hw,hx])
     exact hm.failed (by rw [hL];simp [hx])
    | true =>
     obtain ⟨i0,tI,hz0,hz1,hz2⟩:=info_parts D7
     have hrow:=hm.row
     gi_wp2_with (first
      | (refine ⟨trivial,?_⟩;gi_at_call 91;refine (dh l (aT.2 (hN _ _ LC))).mono ?_;rintro e w' ⟨rfl,hw⟩;rw [hw,hx])
      | (gi_at_builtin;refine wpListIn_append_own _ rfl _ _ 53 rfl (w.heap.size+6) 9 i0 (.string ⟨#[]⟩) 1 16 fB tI hz0 hz1 hz2 rfl (by decide) _ _ _ rfl (hrow.alloc _) ⟨W.heap.size,0,ah⟩ 1 1 [.string s] rfl rfl (cell_one_new _ _ _) (by simp [Value.oneCell']) (by have:maxLen=9223372036854775807:=rfl;omega) (by omega) (by have:=hm.size;simp;omega) ?_;intro v' w1 hown' hgrow _;obtain ⟨g',cap',rfl⟩:=ownsRow_succ hown';obtain ⟨Fk,tF,Pk⟩:=hm.appended hown' hgrow;obtain ⟨y1,y2,y3,y4⟩:=cF Fk))
     exact ⟨tF,by rw [hL];simp [hall,hx],_,_,by rw [hL];exact Pk⟩
   case put =>
    rintro G hG W l o o' hl oX Pj hg
    rcases hG with rfl | rfl | ⟨s,rfl | rfl⟩
    ·obtain ⟨g1,g2,g3,g4⟩:=hg
     exact ⟨g1,eK.kM g2 o' (by simp at hl;omega) oX,(World.putObj_heap_other (by simp at hl;omega)).trans g3,(World.putObj_heap_other (by simp at hl;omega)).trans g4⟩
    ·obtain ⟨g1,sv,rest,hm⟩:=hg
     exact ⟨g1,sv,rest,hm.put o' (by simp at hl;omega) oX Pj⟩
    ·obtain ⟨pre,R,sv,g1,g2,g3,g4,hm⟩:=hg
     exact ⟨pre,R,sv,g1,g2,g3,g4,hm.put o' (by simp at hl;omega) oX Pj⟩
    ·obtain ⟨pre,R,sv,g1,g2,g3,g4,hm⟩:=hg
     exact ⟨pre,R,sv,g1,g2,g3,g4,hm.put o' (by simp at hl;omega) oX Pj⟩
   case alloc =>
    rintro s W o ⟨pre,R,sv,g1,g2,g3,g4,hm⟩
    exact ⟨pre,R,sv,g1,g2,g3,g4,hm.alloc o⟩
   case J =>
    rintro s W ⟨pre,R,sv,g1,g2,g3,g4,hm⟩
    exact ⟨(cell1 hm.bs).1,(cell1 hm.bp).1,(cell1 hm.bk).1,by omega⟩
   case J' =>
    rintro s W ⟨pre,R,sv,g1,g2,g3,g4,hm⟩
    exact ⟨(cell1 hm.bs).1,(cell1 hm.bs).2,(cell1 hm.bp).1⟩
   case S =>
    rintro s W ⟨pre,R,sv,g1,g2,g3,g4,hm⟩ hi
    exact ⟨pre,R,sv,g1,g2 hi,g3,by simp only [bN];omega,hm.set _⟩
   case start =>
    refine ⟨[],L,.slice ah 0 0,rfl,Js,rfl,hs,?_⟩
    exact {
     below:=((((((Below.refl _ w).alloc (Nat.le_refl _) _).alloc (by simp) _).alloc (by simp;omega) _).alloc (by simp;omega) _).alloc (by simp;omega) _).alloc (by simp;omega) _
     size:=by simp
     r0:=by ((try simp only [World.size_alloc]);repeat (first | exact eW (by first | (simp only [World.size_alloc];done) | (simp only [World.size_alloc];omega) | omega) | rw [ck (by simp only [World.size_alloc];omega)]))
     r1:=by ((try simp only [World.size_alloc]);repeat (first | exact eW (by first | (simp only [World.size_alloc];done) | (simp only [World.size_alloc];omega) | omega) | rw [ck (by simp only [World.size_alloc];omega)]))
     wv:=by ((try simp only [World.size_alloc]);repeat (first | exact eW (by first | (simp only [World.size_alloc];done) | (simp only [World.size_alloc];omega) | omega) | rw [ck (by simp only [World.size_alloc];omega)]))
     bs:=by ((try simp only [World.size_alloc]);repeat (first | exact eW (by first | (simp only [World.size_alloc];done) | (simp only [World.size_alloc];omega) | omega) | rw [ck (by simp only [World.size_alloc];omega)]))
     bp:=by ((try simp only [World.size_alloc]);repeat (first | exact eW (by first | (simp only [World.size_alloc];done) | (simp only [World.size_alloc];omega) | omega) | rw [ck (by simp only [World.size_alloc];omega)]))
     bk:=by ((try simp only [World.size_alloc]);repeat (first | exact eW (by first | (simp only [World.size_alloc];done) | (simp only [World.size_alloc];omega) | omega) | rw [ck (by simp only [World.size_alloc];omega)]))
     row:=bW _ _ _ _ }
   case done =>
    rintro D W hD ⟨hall,sv,rest,hm⟩ hk
    obtain ⟨v1,v2,v3,v4⟩:=cF hm.wv
    obtain ⟨r1,r2,r3,r4⟩:=cF hm.r0
    obtain ⟨q1,q2⟩:=cell1 hm.r1
    have hrow:=hm.row
    obtain ⟨x0,L',rfl⟩:=Js.cons
    simp only [aA] at hrow
    obtain ⟨g,cap,rfl⟩:=ownsRow_succ hrow
    gi_wp2
    ·obtain ⟨ko,kb,k0,k1,_⟩:=hm.stored (.bool af) (.slice ah 0 0) (.bool af)
     refine ⟨by simp,.inl ⟨_,_,rfl,run_takeDeferred (ko.same D _ hk rfl),?_⟩⟩
     exact ⟨_,results27 _ _ w.heap.size (.bool af) (.slice ah 0 0) (.bool af) rfl rfl ((World.putObj_heap_other (by simp at hD;omega)).trans k0) ((World.putObj_heap_other (by simp at hD;omega)).trans k1),_,rfl,eK.kM kb _ (by simp at hD;omega) (ko.same D _ hk rfl),.inr (.inr ⟨by assumption,by assumption,x0 :: L',by rw [hx];exact Js,.inl ⟨.inr (by simp only [aA];omega),rfl⟩⟩)⟩
    ·obtain ⟨ko,kb,k0,k1,kr⟩:=hm.stored (.bool af) (.slice (aa ⟨g,0,ah⟩) (L'.length+1) cap) (.bool aj)
     refine ⟨by simp,.inl ⟨_,_,rfl,run_takeDeferred (ko.same D _ hk rfl),?_⟩⟩
     exact ⟨_,results27 _ _ w.heap.size (.bool af) (.slice (aa ⟨g,0,ah⟩) (L'.length+1) cap) (.bool aj) rfl rfl ((World.putObj_heap_other (by simp at hD;omega)).trans k0) ((World.putObj_heap_other (by simp at hD;omega)).trans k1),_,rfl,eK.kM kb _ (by simp at hD;omega) (ko.same D _ hk rfl),.inr (.inr ⟨by assumption,by assumption,x0 :: L',by rw [hx];exact Js,.inr ⟨hall,by simp only [aA];omega,_,by rw [hx],qz (ownsRow_putObj kr _ (ko.same D _ hk rfl) rfl) (by omega)⟩⟩)⟩
   case stop =>
    rintro D W hD ⟨hall,hb,g1,g2⟩ hk
    gi_wp2
    refine ⟨by simp,.inl ⟨_,_,rfl,run_takeDeferred hk,?_⟩⟩
    refine ⟨_,results27 _ _ w.heap.size (.bool af) (.slice ah 0 0) (.bool af) rfl rfl ((World.putObj_heap_other (by simp at hD;omega)).trans g1) ((World.putObj_heap_other (by simp at hD;omega)).trans g2),_,rfl,eK.kM hb _ (by simp at hD;omega) hk,.inr (.inr ⟨by assumption,by assumption,L,by rw [hx];exact Js,.inl ⟨.inl hall,rfl⟩⟩)⟩
 | true =>
  have hp2:=aaq s hx
  gi_wp2_with (first | (refine ⟨trivial,?_⟩;gi_at_call 42;refine (aT.2 (hP _ _)).mono ?_;rintro e w' ⟨rfl,hw⟩;rw [hw,hx]) | (refine ⟨trivial,?_⟩;gi_at_call 90;refine (wx _ h1 _ _).mono ?_;rintro e w' ⟨rfl,hw⟩;rw [hw]))
  ·refine ⟨_,results27 _ _ w.heap.size (.bool af) (.slice ah 0 0) (.bool aj) rfl rfl ?_ ?_,_,rfl,?_,.inl ⟨by assumption,rfl⟩⟩
   ·((try simp only [World.size_alloc]);repeat (first | exact eW (by first | (simp only [World.size_alloc];done) | (simp only [World.size_alloc];omega) | omega) | rw [ck (by simp only [World.size_alloc];omega)]))
   ·((try simp only [World.size_alloc]);repeat (first | exact eW (by first | (simp only [World.size_alloc];done) | (simp only [World.size_alloc];omega) | omega) | rw [ck (by simp only [World.size_alloc];omega)]))
   ·exact (((Below.refl _ w).alloc (Nat.le_refl _) _).alloc (by simp) _).alloc (by simp;omega) _
  ·refine ⟨_,results27 _ _ w.heap.size (.bool aj) (.slice ah 0 0) (.bool aj) rfl rfl ?_ ?_,_,rfl,?_,.inr (.inl ⟨by assumption,by assumption,rfl⟩)⟩
   ·((try simp only [World.size_alloc]);repeat (first | exact eW (by first | (simp only [World.size_alloc];done) | (simp only [World.size_alloc];omega) | omega) | rw [ck (by simp only [World.size_alloc];omega)]))
   ·((try simp only [World.size_alloc]);repeat (first | exact eW (by first | (simp only [World.size_alloc];done) | (simp only [World.size_alloc];omega) | omega) | rw [ck (by simp only [World.size_alloc];omega)]))
   ·exact (((Below.refl _ w).alloc (Nat.le_refl _) _).alloc (by simp) _).alloc (by simp;omega) _
  ·obtain ⟨L,Js⟩:=Sp.total idx lD (s.extract 2 s.size)
   have Vu:=Js.len lD
   simp only [bN] at Vu
   refine mo h0 h1 (B:=w.heap.size+1+1+1) (by simp) rfl idx lD hI
    (fun s W=>∃ pre R sv,L=pre ++ R∧Sp idx s R∧pre.all nm=aj∧s.size≤1000000000∧eK w.heap.size w aj sv pre s W)
    (fun s W=>∃ pre R sv,L=pre ++ R∧(0≤idx s→Sp idx (s.extract (idx s+1).toNat s.size) R)∧pre.all nm=aj∧s.size≤1000000000∧eK w.heap.size w aj sv pre s W)
    (fun W=>L.all nm=af∧Below w.heap.size w W∧W.heap[w.heap.size]?=aa (.cells #[.bool af,.slice ah 0 0] 55)∧W.heap[w.heap.size+1]?=aa (.cells #[.bool af] 4))
    (fun W=>L.all nm=aj∧∃ sv rest,eK w.heap.size w aj sv L rest W)
    ?put2 ?alloc2 ?J2 ?J'2 ?S2
    (fun x=>{ tmps := #[.string (s.extract 2 s.size),undef,.pointer (aa ⟨w.heap.size,0,ah⟩),.pointer (aa ⟨w.heap.size+1,0,ah⟩),.pointer (aa ⟨w.heap.size+1+1,0,ah⟩),.string x,.bool af,.string s,.bool af,undef,.bool af,.string s,.bool af,undef,.bool aj,
     .string s,.bool aj,.pointer (aa ⟨w.heap.size+1+1,0,ah⟩),.string s,.string (s.extract 2 s.size),.string (s.extract 2 s.size),.func (.func 137) #[] #[.pointer (aa ⟨w.heap.size+1+1+1+1,0,ah⟩),.pointer (aa ⟨w.heap.size+1+1+1,0,ah⟩),.pointer (aa ⟨w.heap.size+1+1+1+2,0,ah⟩)],.string x,
     undef,undef,undef,undef,undef,undef,undef,undef,undef,undef,undef,undef,undef,undef,undef,undef],defers:=[] })
    ?assign2 ?body2 ?lst2 (s.extract 2 s.size) ?start2 ?done2 ?stop2
   case assign2 =>
    intro l x W K hK
    have LB:=@Oper.semAt_some
    gi_wp2
    exact hK
   case body2 =>
    rintro l s W ⟨pre,R,sv,hL,Tl,hall,hsz,hm⟩ hi
    have LB:=@Oper.semAt_some
    obtain ⟨v1,v2,v3,v4⟩:=cF hm.wv
    obtain ⟨r1,r2,r3,r4⟩:=cF hm.r0
    obtain ⟨q1,q2⟩:=cell1 hm.r1
    have hlen:pre.length≤1000000001:=by rw [hL,au] at Vu;omega
    have LC:(s.extract 0 (idx s).toNat).size≤9223372036854775807:=by simp only [bN];omega
    obtain ⟨R',rfl,hR'⟩:∃ R',R=s.extract 0 (idx s).toNat :: R'∧Sp idx (s.extract (idx s+1).toNat s.size) R':=by
     cases Tl with
     | last _ h=>omega
     | more _ h R hR=>exact ⟨R,rfl,hR⟩
    cases hx:nm (s.extract 0 (idx s).toNat) with
    | false =>
     gi_wp2_with (refine ⟨trivial,?_⟩;gi_at_call 91;refine (dh l (aT.2 (hN _ _ LC))).mono ?_;rintro e w' ⟨rfl,hw⟩;rw [hw,hx])
     exact hm.failed (by rw [hL];simp [hx])
    | true =>
     obtain ⟨i0,tI,hz0,hz1,hz2⟩:=info_parts D7
     have hrow:=hm.row
     gi_wp2_with (first
      | (refine ⟨trivial,?_⟩;gi_at_call 91;refine (dh l (aT.2 (hN _ _ LC))).mono ?_;rintro e w' ⟨rfl,hw⟩;rw [hw,hx])
      | (gi_at_builtin;refine wpListIn_append_own _ rfl _ _ 53 rfl (w.heap.size+6) 9 i0 (.string ⟨#[]⟩) 1 16 fB tI hz0 hz1 hz2 rfl (by decide) _ _ _ rfl (hrow.alloc _) ⟨W.heap.size,0,ah⟩ 1 1 [.string (s.extract 0 (idx s).toNat)] rfl rfl (cell_one_new _ _ _) (by simp [Value.oneCell']) (by have:maxLen=9223372036854775807:=rfl;omega) (by omega) (by have:=hm.size;simp;omega) ?_;intro v' w1 hown' hgrow _;obtain ⟨g',cap',rfl⟩:=ownsRow_succ hown';obtain ⟨Fk,tF,Pk⟩:=hm.appended hown' hgrow;obtain ⟨y1,y2,y3,y4⟩:=cF Fk))
     exact ⟨tF,pre ++ [s.extract 0 (idx s).toNat],R',_,by rw [hL];simp,fun _=>hR',by simp [hall,hx],hsz,Pk⟩
   case lst2 =>
    rintro l s W ⟨pre,R,sv,hL,Tl,hall,hsz,hm⟩ hi
    have LB:=@Oper.semAt_some
    obtain ⟨v1,v2,v3,v4⟩:=cF hm.wv
    obtain ⟨r1,r2,r3,r4⟩:=cF hm.r0
    obtain ⟨q1,q2⟩:=cell1 hm.r1
    have hlen:pre.length≤1000000001:=by rw [hL,au] at Vu;omega
    have LC:s.size≤9223372036854775807:=by omega
    obtain rfl:R=[s]:=by
     cases Tl with
     | last _ h=>rfl
     | more _ h R hR=>omega
    cases hx:nm s with
    | false =>
     gi_wp2_with (refine ⟨trivial,?_⟩;gi_at_call 91;refine (dh l (aT.2 (hN _ _ LC))).mono ?_;rintro e w' ⟨rfl,hw⟩;rw [hw,hx])
     exact hm.failed (by rw [hL];simp [hx])
    | true =>
     obtain ⟨i0,tI,hz0,hz1,hz2⟩:=info_parts D7
     have hrow:=hm.row
     gi_wp2_with (first
      | (refine ⟨trivial,?_⟩;gi_at_call 91;refine (dh l (aT.2 (hN _ _ LC))).mono ?_;rintro e w' ⟨rfl,hw⟩;rw [hw,hx])
      | (gi_at_builtin;refine wpListIn_append_own _ rfl _ _ 53 rfl (w.heap.size+6) 9 i0 (.string ⟨#[]⟩) 1 16 fB tI hz0 hz1 hz2 rfl (by decide) _ _ _ rfl (hrow.alloc _) ⟨W.heap.size,0,ah⟩ 1 1 [.string s] rfl rfl (cell_one_new _ _ _) (by simp [Value.oneCell']) (by have:maxLen=9223372036854775807:=rfl;omega) (by omega) (by have:=hm.size;simp;omega) ?_;intro v' w1 hown' hgrow _;obtain ⟨g',cap',rfl⟩:=ownsRow_succ hown';obtain ⟨Fk,tF,Pk⟩:=hm.appended hown' hgrow;obtain ⟨y1,y2,y3,y4⟩:=cF Fk))
     exact ⟨tF,by rw [hL];simp [hall,hx],_,_,by rw [hL];exact Pk⟩
   case put2 =>
    rintro G hG W l o o' hl oX Pj hg
    rcases hG with rfl | rfl | ⟨s,rfl | rfl⟩
    ·obtain ⟨g1,g2,g3,g4⟩:=hg
     exact ⟨g1,eK.kM g2 o' (by simp at hl;omega) oX,(World.putObj_heap_other (by simp at hl;omega)).trans g3,(World.putObj_heap_other (by simp at hl;omega)).trans g4⟩
    ·obtain ⟨g1,sv,rest,hm⟩:=hg
     exact ⟨g1,sv,rest,hm.put o' (by simp at hl;omega) oX Pj⟩
    ·obtain ⟨pre,R,sv,g1,g2,g3,g4,hm⟩:=hg
     exact ⟨pre,R,sv,g1,g2,g3,g4,hm.put o' (by simp at hl;omega) oX Pj⟩
    ·obtain ⟨pre,R,sv,g1,g2,g3,g4,hm⟩:=hg
     exact ⟨pre,R,sv,g1,g2,g3,g4,hm.put o' (by simp at hl;omega) oX Pj⟩
   case alloc2 =>
    rintro s W o ⟨pre,R,sv,g1,g2,g3,g4,hm⟩
    exact ⟨pre,R,sv,g1,g2,g3,g4,hm.alloc o⟩
   case J2 =>
    rintro s W ⟨pre,R,sv,g1,g2,g3,g4,hm⟩
    exact ⟨(cell1 hm.bs).1,(cell1 hm.bp).1,(cell1 hm.bk).1,by omega⟩
   case J'2 =>
    rintro s W ⟨pre,R,sv,g1,g2,g3,g4,hm⟩
    exact ⟨(cell1 hm.bs).1,(cell1 hm.bs).2,(cell1 hm.bp).1⟩
   case S2 =>
    rintro s W ⟨pre,R,sv,g1,g2,g3,g4,hm⟩ hi
    exact ⟨pre,R,sv,g1,g2 hi,g3,by simp only [bN];omega,hm.set _⟩
   case start2 =>
    refine ⟨[],L,.slice ah 0 0,rfl,Js,rfl,by simp only [bN];omega,?_⟩
    exact {
     below:=((((((Below.refl _ w).alloc (Nat.le_refl _) _).alloc (by simp) _).alloc (by simp;omega) _).alloc (by simp;omega) _).alloc (by simp;omega) _).alloc (by simp;omega) _
     size:=by simp
     r0:=by ((try simp only [World.size_alloc]);repeat (first | exact eW (by first | (simp only [World.size_alloc];done) | (simp only [World.size_alloc];omega) | omega) | rw [ck (by simp only [World.size_alloc];omega)]))
     r1:=by ((try simp only [World.size_alloc]);repeat (first | exact eW (by first | (simp only [World.size_alloc];done) | (simp only [World.size_alloc];omega) | omega) | rw [ck (by simp only [World.size_alloc];omega)]))
     wv:=by ((try simp only [World.size_alloc]);repeat (first | exact eW (by first | (simp only [World.size_alloc];done) | (simp only [World.size_alloc];omega) | omega) | rw [ck (by simp only [World.size_alloc];omega)]))
     bs:=by ((try simp only [World.size_alloc]);repeat (first | exact eW (by first | (simp only [World.size_alloc];done) | (simp only [World.size_alloc];omega) | omega) | rw [ck (by simp only [World.size_alloc];omega)]))
     bp:=by ((try simp only [World.size_alloc]);repeat (first | exact eW (by first | (simp only [World.size_alloc];done) | (simp only [World.size_alloc];omega) | omega) | rw [ck (by simp only [World.size_alloc];omega)]))
     bk:=by ((try simp only [World.size_alloc]);repeat (first | exact eW (by first | (simp only [World.size_alloc];done) | (simp only [World.size_alloc];omega) | omega) | rw [ck (by simp only [World.size_alloc];omega)]))
     row:=bW _ _ _ _ }
   case done2 =>
    rintro D W hD ⟨hall,sv,rest,hm⟩ hk
    obtain ⟨v1,v2,v3,v4⟩:=cF hm.wv
    obtain ⟨r1,r2,r3,r4⟩:=cF hm.r0
    obtain ⟨q1,q2⟩:=cell1 hm.r1
    have hrow:=hm.row
    obtain ⟨x0,L',rfl⟩:=Js.cons
    simp only [aA] at hrow
    obtain ⟨g,cap,rfl⟩:=ownsRow_succ hrow
    gi_wp2
    ·obtain ⟨ko,kb,k0,k1,_⟩:=hm.stored (.bool af) (.slice ah 0 0) (.bool af)
     refine ⟨by simp,.inl ⟨_,_,rfl,run_takeDeferred (ko.same D _ hk rfl),?_⟩⟩
     exact ⟨_,results27 _ _ w.heap.size (.bool af) (.slice ah 0 0) (.bool af) rfl rfl ((World.putObj_heap_other (by simp at hD;omega)).trans k0) ((World.putObj_heap_other (by simp at hD;omega)).trans k1),_,rfl,eK.kM kb _ (by simp at hD;omega) (ko.same D _ hk rfl),.inr (.inr ⟨by assumption,by assumption,x0 :: L',by rw [hx];exact Js,.inl ⟨.inr (by simp only [aA];omega),rfl⟩⟩)⟩
    ·obtain ⟨ko,kb,k0,k1,kr⟩:=hm.stored (.bool aj) (.slice (aa ⟨g,0,ah⟩) (L'.length+1) cap) (.bool aj)
     refine ⟨by simp,.inl ⟨_,_,rfl,run_takeDeferred (ko.same D _ hk rfl),?_⟩⟩
     exact ⟨_,results27 _ _ w.heap.size (.bool aj) (.slice (aa ⟨g,0,ah⟩) (L'.length+1) cap) (.bool aj) rfl rfl ((World.putObj_heap_other (by simp at hD;omega)).trans k0) ((World.putObj_heap_other (by simp at hD;omega)).trans k1),_,rfl,eK.kM kb _ (by simp at hD;omega) (ko.same D _ hk rfl),.inr (.inr ⟨by assumption,by assumption,x0 :: L',by rw [hx];exact Js,.inr ⟨hall,by simp only [aA];omega,_,by rw [hx],qz (ownsRow_putObj kr _ (ko.same D _ hk rfl) rfl) (by omega)⟩⟩)⟩
   case stop2 =>
    rintro D W hD ⟨hall,hb,g1,g2⟩ hk
    gi_wp2
    refine ⟨by simp,.inl ⟨_,_,rfl,run_takeDeferred hk,?_⟩⟩
    refine ⟨_,results27 _ _ w.heap.size (.bool af) (.slice ah 0 0) (.bool af) rfl rfl ((World.putObj_heap_other (by simp at hD;omega)).trans g1) ((World.putObj_heap_other (by simp at hD;omega)).trans g2),_,rfl,eK.kM hb _ (by simp at hD;omega) hk,.inr (.inr ⟨by assumption,by assumption,L,by rw [hx];exact Js,.inl ⟨.inl hall,rfl⟩⟩)⟩
set_option maxRecDepth 100000
set_option maxHeartbeats 4000000
def BN (s:aL):ay:=decide (2≤s.size) && (s.extract 0 2).toList == [36,46]
theorem Pm (n:ax) (s:aL) (w:az) :
  CallsIn Fence.wide n Tryz.prog 57 #[.string s,.string ⟨#[36,46]⟩] w fun e w'=>e=.returned (.bool (BN s))∧w'=w:=by
 refine bC Tryz.func57 rfl trivial ?_ rfl
 simp only [Tryz.ntmps57,Nat.reduceAdd,Nat.reduceSub,Sx.zC]
 gi_wp2
 ·go_ret
  refine ⟨?_,rfl⟩
  have:decide (2≤s.size)=aj:=by simp;omega
  simp [BN,this]
 ·go_ret
  refine ⟨?_,rfl⟩
  have:decide (2≤s.size)=af:=by simp;omega
  simp [BN,this]
theorem Tm (n:ax) (hn:1≤n) (s:aL) (w:az) :
  CallsIn Fence.wide n Tryz.prog 42 #[.string s,.string ⟨#[36,46]⟩] w fun e w'=>e=.returned (.bool (BN s))∧w'=w:=by
 refine bC Tryz.func42 rfl trivial ?_ rfl
 simp only [Tryz.ntmps42,Nat.reduceAdd,Nat.reduceSub,Sx.zC]
 gi_wp2_with (refine ⟨trivial,?_⟩;gi_at_call 57;refine (Pm _ _ _).mono ?_;rintro e w' ⟨rfl,hw⟩;rw [hw])
 go_ret
 exact ⟨rfl,rfl⟩
def EC (i:ax) (b:ae):ay:=(decide (97≤b) && decide (b≤122)) || (!(i == 0) && ((decide (48≤b) && decide (b≤57)) || b == 95))
def lz:ax→ai ae→ay
 | _,[]=>aj
 | i,b :: r=>EC i b && lz (i+1) r
def ld (l:ai ae):ay:=lz 0 l && (decide (1≤l.length) && decide (l.length≤32))
theorem vk:∀ (l m:ai ae) (i:ax),lz i (l ++ m)=(lz i l && lz (i+l.length) m)
 | [],m,i=>by simp [lz]
 | b :: l,m,i=>by
  simp only [List.cons_append,lz,vk l m (i+1),aA,Bool.and_assoc]
  rw [show i+1+l.length=i+(l.length+1) by omega]
theorem LD (l:ai ae) (k:ax) (h:k < l.length):lz 0 l=(lz 0 (l.take k) && (EC k l[k] && lz (k+1) (l.drop (k+1)))):=by
 have e:l=l.take k ++ (l[k] :: l.drop (k+1)):=by simp
 conv=>lhs;rw [e]
 rw [vk]
 have:(l.take k).length=k:=by simp;omega
 rw [this,Nat.zero_add]
 rfl
theorem Fl (l:ai ae) (k:ax) (h:k < l.length) (h1:lz 0 (l.take k)=aj) (h2:EC k l[k]=aj):lz 0 (l.take (k+1))=aj:=by
 rw [List.take_succ_eq_append_getElem h,vk,h1]
 have:(l.take k).length=k:=by simp;omega
 simp [lz,this,h2]
def Tn (k:ax) (x:ax):Prop:=(97≤x∧x≤122)∨(k≠0∧((48≤x∧x≤57)∨x=95))
theorem Hf (k:ax) (b:ae):EC k b=aj↔Tn k b.toNat:=by
 unfold EC Tn
 have e:(b == 95)=decide (b.toNat=95):=by
  rw [Bool.eq_iff_iff]
  simp only [bK,aG]
  exact ⟨fun h=>by rw [h];rfl,fun h=>UInt8.toNat_inj.1 h⟩
 rw [e]
 simp only [Bool.or_eq_true,Bool.and_eq_true,aG,Bool.not_eq_true',beq_eq_false_iff_ne,bq]
 rfl
theorem LG (s:aL) (k:ax) (h:k < s.size) (hb:¬ Tn k s[k].toNat):ld s.data.toList=af:=by
 unfold ld
 have hl:k < s.data.toList.length:=h
 rw [LD _ k hl]
 have:EC k s.data.toList[k]=af:=by
  rw [Bool.eq_false_iff]
  exact fun e=>hb ((Hf _ _).1 e)
 rw [this];simp
theorem Jt (s:aL) (k:ax) (h:k < s.size) (kf:lz 0 (s.data.toList.take k)=aj) (hb:Tn k s[k].toNat):lz 0 (s.data.toList.take (k+1))=aj :=
 Fl _ k h kf ((Hf _ _).2 hb)
theorem LH (s:aL) (k:ax) (hk:k≤s.size) (h:¬ k < s.size) (kf:lz 0 (s.data.toList.take k)=aj):ld s.data.toList=(decide (1≤s.size) && decide (s.size≤32)):=by
 have:s.data.toList.take k=s.data.toList:=fP (by show s.size≤k;omega)
 rw [this] at kf
 unfold ld
 rw [kf,Bool.true_and]
 rfl
theorem Pn (n:ax) (s:aL) (hs:s.size≤9223372036854775807) (w:az) :
  CallsIn Fence.wide n Tryz.prog 91 #[.string s] w fun e w'=>e=.returned (.bool (ld s.data.toList))∧w'=w:=by
 refine bC Tryz.func91 rfl trivial ?_ rfl
 simp only [Tryz.ntmps91,Nat.reduceAdd,Nat.reduceSub,Sx.zC]
 have hl:s.data.toList.length=s.size:=rfl
 gi_wp2
 gi_loop [7] (fun v=>∃ k:ax,v=.int .i64 k∧k≤s.size∧lz 0 (s.data.toList.take k)=aj) (fun v=>s.size - (intOf v).toNat)
 case atStart=>exact ⟨0,rfl,by omega,rfl⟩
 case round =>
  obtain ⟨k,rfl,hk,kf⟩:=hrel
  by_cases I0:k < s.size
  ·by_cases hP:Tn k s[k].toNat
   ·have hstep:=Jt s k I0 kf hP
    unfold Tn at hP
    by_cases vM:k=0
    ·subst vM
     gi_wp2 <;> first
      | exact ⟨⟨1,rfl,by omega,hstep⟩,by simp [intOf];omega⟩
      | (exfalso;clear hstep kf;simp only [Bool.not_eq_true',Bool.not_eq_false',aG,aQ,iW,ne_eq,bK,bne_eq_false_iff_eq,beq_eq_false_iff_ne] at *;omega)
    ·gi_wp2 <;> first
      | exact ⟨⟨k+1,rfl,by omega,hstep⟩,by simp [intOf];omega⟩
      | (exfalso;clear hstep kf;simp only [Bool.not_eq_true',Bool.not_eq_false',aG,aQ,iW,ne_eq,bK,bne_eq_false_iff_eq,beq_eq_false_iff_ne] at *;omega)
   ·have D8:=LG s k I0 hP
    unfold Tn at hP
    by_cases vM:k=0
    ·subst vM
     gi_wp2 <;> first
      | (exfalso;clear D8 kf;simp only [Bool.not_eq_true',Bool.not_eq_false',aG,aQ,iW,ne_eq,bK,bne_eq_false_iff_eq,beq_eq_false_iff_ne] at *;omega)
      | (go_ret;exact ⟨rfl,rfl⟩)
    ·gi_wp2 <;> first
      | (exfalso;clear D8 kf;simp only [Bool.not_eq_true',Bool.not_eq_false',aG,aQ,iW,ne_eq,bK,bne_eq_false_iff_eq,beq_eq_false_iff_ne] at *;omega)
      | (go_ret;exact ⟨rfl,rfl⟩)
  ·have hend:=LH s k hk I0 kf
   gi_wp2
   ·go_ret
    refine ⟨?_,rfl⟩
    have h1:decide (1≤s.size)=aj:=by rw [aG];omega
    have h2:decide ((s.size:aB)≤32)=decide (s.size≤32):=by rw [decide_eq_decide];omega
    rw [h1,← h2];rfl
   ·go_ret
    refine ⟨?_,rfl⟩
    have h1:decide (1≤s.size)=af:=by rw [aQ];omega
    rw [h1];rfl
set_option maxRecDepth 100000
set_option maxHeartbeats 4000000
theorem BO (s:aL) (c:aB) (w:az):(callFunc 109 #[.string s,.int .u8 c]).run Tryz.prog w=.ok (.value (.int .i64 (bH s.data.toList c.toNat.toUInt8))) w :=
 Sx.O1 (fn:=Tryz.f109) (by kernel_rfl) (by kernel_rfl) (by kernel_rfl) (by kernel_rfl) (by kernel_rfl) s c w
theorem Po (n:ax) (s:aL) (w:az) :
  CallsIn Fence.wide n Tryz.prog 78 #[.string s,.int .u8 46] w fun e w'=>e=.returned (.int .i64 (bH s.data.toList 46))∧w'=w:=by
 refine bC Tryz.func78 rfl trivial ?_ rfl
 simp only [Tryz.ntmps78,Nat.reduceAdd,Nat.reduceSub,Sx.zC]
 have e:=BO s 46 w
 gi_wp2_with (refine ⟨trivial,?_⟩)
 go_ret
 exact ⟨rfl,rfl⟩
theorem Pp (n:ax) (hn:1≤n) (s:aL) (hs:s.size≤9223372036854775807) (w:az) :
  CallsIn Fence.wide n Tryz.prog 69 #[.string s,.string ⟨#[46]⟩] w fun e w'=>e=.returned (.int .i64 (bH s.data.toList 46))∧w'=w:=by
 refine bC Tryz.func69 rfl trivial ?_ rfl
 simp only [Tryz.ntmps69,Nat.reduceAdd,Nat.reduceSub,Sx.zC]
 have e46:((⟨#[46]⟩:aL)[0]'(by decide)).toNat=46:=rfl
 gi_wp2_with (refine ⟨trivial,?_⟩;gi_at_call 78;refine (Po _ _ _).mono ?_;rintro e w' ⟨rfl,hw⟩;rw [hw])
 ·go_ret
  refine ⟨?_,rfl⟩
  have h:([46] == s.toList)=aj:=by assumption
  rw [eY] at h
  rw [← bD h]
  rfl
 ·go_ret
  exact ⟨rfl,rfl⟩
theorem Tp (n:ax) (hn:2≤n) (s:aL) (hs:s.size≤9223372036854775807) (w:az) :
  CallsIn Fence.wide n Tryz.prog 58 #[.string s,.string ⟨#[46]⟩] w fun e w'=>e=.returned (.int .i64 (bH s.data.toList 46))∧w'=w:=by
 refine bC jg rfl trivial ?_ rfl
 simp only [Tryz.ntmps58,Nat.reduceAdd,Nat.reduceSub,Sx.zC]
 have h1:1≤n - 1:=by omega
 have h0:1≤n:=by omega
 gi_wp2_with (refine ⟨trivial,?_⟩;gi_at_call 69;refine (Pp _ h1 _ hs _).mono ?_;rintro e w' ⟨rfl,hw⟩;rw [hw])
 go_ret
 exact ⟨rfl,rfl⟩
theorem indexByte_ge (l:ai ae) (c:ae):bH l c=-1∨(0≤bH l c∧bH l c+1≤l.length):=by
 induction l with
 | nil=>exact .inl rfl
 | cons x l ih =>
  unfold bH
  split
  ·right;simp;omega
  ·simp only [aA]
   rcases ih with h | ⟨h1,h2⟩
   ·rw [h];left;rfl
   ·right
    split
    ·rename_i e;simp only [bK] at e;omega
    ·omega
theorem Ju (s:aL) (hs:s.size≤1000000000) (w:az) :
  Calls Tryz.prog 73 #[.string s] w fun e w'=>∃ v,e=.returned v∧Below w.heap.size w w'∧He (fun s=>bH s.data.toList 46) (fun s=>ld s.data.toList) BN w.heap.size s v w' :=
 aT.1 (Tk 6 (by decide) _ _ _ (fun s h=>by
   unfold BN at h
   rw [Bool.and_eq_true,aG] at h
   exact h.1) (fun s=>by have:=indexByte_ge s.data.toList 46;exact this)
  (fun s w=>aT.1 (Tm 3 (by decide) s w)) (fun s w h=>aT.1 (Tp 3 (by decide) s h w)) (fun s w h=>aT.1 (Pn 3 s h w)) s hs w)
end R3
namespace R3
open Go Go.Proofs Go.RowKit Sx
def gi:ai ae→ai (ai ae)
 | []=>[[]]
 | b :: r=>if b == 46 then [] :: gi r else match gi r with
  | []=>[[b]]
  | h :: t=>(b :: h) :: t
theorem rq (b:ae) (r:ai ae):gi (b :: r)=if b == 46 then [] :: gi r else match gi r with | []=>[[b]] | h :: t=>(b :: h) :: t:=rfl
theorem qA (l:ai ae):∃ h t,gi l=h :: t:=by
 cases l with
 | nil=>exact ⟨_,_,rfl⟩
 | cons b r =>
  unfold gi
  split
  ·exact ⟨_,_,rfl⟩
  ·split <;> exact ⟨_,_,rfl⟩
theorem wy:∀ (l:ai ae),bH l 46=-1→gi l=[l]
 | [],_=>rfl
 | b :: r,h=>by
  unfold bH at h
  split at h
  ·omega
  ·rename_i hb
   have hr:bH r 46=-1:=by
    split at h
    ·rename_i e;simpa using e
    ·have:=indexByte_ge r 46;omega
   rw [rq,aI hb,wy r hr]
theorem wz:∀ (l:ai ae) (i:ax),bH l 46=(i:aB)→gi l=l.take i :: gi (l.drop (i+1))
 | [],i,h=>by exfalso;have:bH [] 46=-1:=rfl;omega
 | b :: r,i,h=>by
  unfold bH at h
  split at h
  ·rename_i hb
   obtain rfl:i=0:=by omega
   rw [rq,aJ hb]
   rfl
  ·rename_i hb
   split at h
   ·omega
   ·obtain ⟨j,rfl⟩:∃ j,i=j+1:=⟨i - 1,by have:=indexByte_ge r 46;rename_i e;simp only [bK] at e;omega⟩
    have hr:bH r 46=(j:aB):=by omega
    rw [rq,aI hb,wz r j hr]
    rfl
theorem n7 (s:aL) (a b:ax):(s.extract a b).data.toList=(s.data.toList.drop a).take (b - a):=by
 simp [ByteArray.data_extract,Array.toList_extract,List.extract]
theorem LI {s:aL} {L:ai aL} (h:Sp (fun s=>bH s.data.toList 46) s L):L.map (·.data.toList)=gi s.data.toList:=by
 induction h with
 | last s h=>rw [wy _ h];rfl
 | more s h R hR ih =>
  obtain ⟨i,hi⟩:=Int.eq_ofNat_of_zero_le h
  rw [wz s.data.toList i hi,List.map_cons,ih,n7,n7,hi]
  have hsz:s.size=s.data.toList.length:=rfl
  congr 1
  rw [show ((i:aB)+1).toNat=i+1 by omega,fP (by rw [bQ];omega)]
def jt (l:ai ae):ay:=decide (2≤l.length) && l.take 2 == [36,46]
def Rf:AV:=.tu [.ag [.b af,.cd],.b af]
def yw (l:ai ae):AV :=
 if l == [46] then .tu [.ag [.b af,.cd],.b aj]
 else if l == [36] then .tu [.ag [.b aj,.cd],.b aj]
 else if (gi (if jt l then l.drop 2 else l)).all ld && decide ((gi (if jt l then l.drop 2 else l)).length≤8) then .tu [.ag [.b (jt l),.ro 1 ((gi (if jt l then l.drop 2 else l)).map .s)],.b aj]
 else Rf
def WN (args:ai AV):ak AV :=
 match args with
 | [.s l]=>if l.length≤1000000000 then aa (yw l) else ah
 | _=>ah
theorem xg {w:az} {F:ax→Prop} {root ok:ay} {x:AV} {v:aC} (h1:v.oneCell'=aj) (h:Rel w F x v):Rel w F (.tu [.ag [.b root,x],.b ok]) (.tuple #[.agg #[.bool root,v],.bool ok]):=by
 refine .tu [.ag [.b root,x],.b ok] [.agg #[.bool root,v],.bool ok] rfl fun j u hu=>?_
 match j,hu with
 | 0,hu =>
  cases hu
  refine .ag [.b root,x] [.bool root,v] rfl (fun u hu=>?_) fun j u hu=>?_
  ·simp only [List.mem_cons,List.not_mem_nil,or_false] at hu
   rcases hu with rfl | rfl
   ·rfl
   ·exact h1
  ·match j,hu with
   | 0,hu=>cases hu;exact .b root
   | 1,hu=>cases hu;exact h
   | j+2,hu=>simp at hu
 | 1,hu=>cases hu;exact .b ok
 | j+2,hu=>simp at hu
theorem Pq {w:az} {F:ax→Prop} {N:ax} {sv:aC} {L:ai aL} (hF:∀ b,N≤b→F b) (h:w.ownsRow N 9 1 sv L.length (L.map .string)):sv.oneCell'=aj∧(Rel w F (.ro 1 ((L.map (·.data.toList)).map .s)) sv∨L=[]):=by
 rcases h.2 with ⟨rfl,h0⟩ | ⟨g,cap,cur,rfl,hb,hg,h4⟩
 ·exact ⟨rfl,.inr (List.eq_nil_of_length_eq_zero h0)⟩
 ·refine ⟨rfl,.inl ?_⟩
  obtain ⟨k1,k2,k3,k4⟩:=h4
  have hlen:((L.map (·.data.toList)).map AV.s).length=L.length:=by simp
  have key:=Rel.ro (w:=w) (F:=F) 1 ((L.map (·.data.toList)).map .s) g 0 cap (L.map .string) (by decide) (by rw [hlen];exact k1) (hF g hb) (by simp) (fun j v hv=>?_) (fun v hv=>?_) (fun i j v hi hj hv=>?_)
  ·rw [hlen] at key;exact key
  ·rw [← k4,Nat.mul_one] at hv
   have:cur[j]?=aa v:=by
    rw [List.getElem?_take] at hv
    split at hv
    ·rw [Array.getElem?_toList] at hv;exact hv
    ·cases hv
   simp [World.cell?,hg,this]
  ·obtain ⟨x,_,rfl⟩:=List.mem_map.1 hv
   rfl
  ·obtain rfl:j=0:=by omega
   rw [Nat.mul_one,Nat.add_zero,aM,Option.map_eq_some_iff] at hv
   obtain ⟨x,hx,rfl⟩:=hv
   have:(((L.map (·.data.toList)).map AV.s).getD i .un)=.s x.data.toList:=by
    rw [List.getD_eq_getElem?_getD,aM,aM,hx];rfl
   rw [this]
   exact .s x
theorem Ar (s:aL):BN s=jt s.data.toList:=by
 unfold BN jt
 rw [eY,n7]
 rfl
theorem Pt {C:jT} (ho:(C.own 73).all Option.isNone=aj) (args:ai AV) (r:AV) (h:WN args=aa r) (w:az) (F:ax→Prop) (vs:bF aC) (hl:vs.size=args.length)
  (hv:∀ (j:ax) (a:AV) (v:aC),args[j]?=aa a→vs[j]?=aa v→Rel w F a v):kZ Tryz.prog 73 vs w (np C 73 w F r):=by
 unfold WN at h
 split at h
 ·rename_i l
  split at h
  ·rename_i hle
   cases h
   match vs,hl,hv with
   | ⟨[x]⟩,_,hv =>
    have hx:=hv 0 _ x rfl rfl
    cases hx with
    | s q =>
     refine .inl ⟨jl,(jl.body).getD .skip,Tryz.func73,by kernel_rfl,by kernel_rfl,Calls.mono (Ju q hle w) fun e w' he=>?_⟩
     obtain ⟨v,rfl,hb,hp⟩:=he
     refine ⟨v,rfl,⟨hb.os,hb.tape,hb.output,hb.size,hb.block⟩,?_⟩
     unfold mG
     rw [aJ ho]
     have hF:∀ b,w.heap.size≤b→(fun b=>b < w.heap.size→F b) b:=fun b hb hlt=>by omega
     unfold yw
     rcases hp with ⟨c1,rfl⟩ | ⟨c1,c2,rfl⟩ | ⟨c1,c2,L,hL,hp⟩
     ·rw [eY] at c1
      rw [aJ c1]
      exact xg rfl .cd
     ·rw [eY] at c1 c2
      rw [aI (by rw [c1];decide),aJ c2]
      exact xg rfl .cd
     ·rw [eY] at c1 c2
      rw [aI (by rw [c1];decide),aI (by rw [c2];decide)]
      have hs:=LI hL
      have hs':gi (if jt q.data.toList then q.data.toList.drop 2 else q.data.toList)=L.map (·.data.toList):=by
       rw [hs,← Ar]
       cases BN q with
       | true =>
        simp only [aO]
        rw [n7,fP (by rw [bQ];exact Nat.le_refl _)]
       | false=>rfl
      rw [hs']
      have hall:(L.map (·.data.toList)).all ld=L.all fun s=>ld s.data.toList:=by simp [List.all_map,iP]
      rw [hall,List.length_map]
      rcases hp with ⟨D8,rfl⟩ | ⟨h1,h2,sv,rfl,hrow⟩
      ·rw [aI]
       ·exact xg rfl .cd
       ·rcases D8 with e | e
        ·rw [e];simp
        ·simp only [Bool.and_eq_true,aG,not_and];intro _;omega
      ·rw [aJ (by rw [h1];simpa using h2),← Ar]
       obtain ⟨o1,o2⟩:=Pq hF hrow
       rcases o2 with o2 | o2
       ·exact xg o1 o2
       ·exfalso
        obtain ⟨x0,L',e⟩:=hL.cons
        rw [e] at o2;cases o2
  ·cases h
 ·cases h
end R3
namespace R3
open Go Go.Proofs Go.RowKit Go.Shelf Sx
def Tq:Ren:=⟨fun | 143=>58 | 219=>69 | 217=>78 | 225=>79 | 224=>80 | 267=>81 | 266=>109 | 314=>110 | n=>n,fun | 46=>137 | 146=>158 | 51=>157 | n=>n,fun n=>n⟩
theorem Tt:Lays.n143 Tryz.prog Tq:={
 mixed:=by kernel_rfl
 f143:=jg.trans (bA aa (by kernel_rfl))
 f217:=Tryz.func78.trans (bA aa (by kernel_rfl))
 f219:=Tryz.func69.trans (bA aa (by kernel_rfl))
 f224:=Tryz.func80.trans (bA aa (by kernel_rfl))
 f225:=Tryz.func79.trans (bA aa (by kernel_rfl))
 f266:=Tryz.func109.trans (bA aa (by kernel_rfl))
 f267:=Tryz.func81.trans (bA aa (by kernel_rfl))
 f314:=Tryz.func110.trans (bA aa (by kernel_rfl))
 t3:=Tryz.underlying3
 a3:=Tryz.isAgg3
 z3:=Tryz.sizeOf3
 v3:=Tryz.zeroValue3
 t4:=Tryz.underlying4
 a4:=Tryz.isAgg4
 z4:=Tryz.sizeOf4
 v4:=Tryz.zeroValue4
 t5:=Tryz.underlying5
 a5:=Tryz.isAgg5
 z5:=Tryz.sizeOf5
 v5:=Tryz.zeroValue5
 t9:=Tryz.underlying9
 a9:=Tryz.isAgg9
 z9:=Tryz.sizeOf9
 v9:=Tryz.zeroValue9
 t46:=Tryz.underlying137
 a46:=Tryz.isAgg137
 z46:=Tryz.sizeOf137
 v46:=Tryz.zeroValue137
 t51:=Tryz.underlying157
 a51:=Tryz.isAgg157
 z51:=Tryz.sizeOf157
 v51:=Tryz.zeroValue157
 t146:=Tryz.underlying158
 a146:=Tryz.isAgg158
 z146:=Tryz.sizeOf158
 v146:=Tryz.zeroValue158
 g1:=by kernel_rfl }
def WO (args:ai AV):ak AV :=
 match args with
 | [.s l,.s sub]=>if l.length≤1000000000 then aa (.int (Lib.index l sub)) else ah
 | _=>ah
theorem Pu {C:jT} {mx:aB} (LJ:C.glob 1=aa (1,.int mx)) (ho:(C.own 58).all Option.isNone=aj) (args:ai AV) (r:AV) (h:WO args=aa r) (w:az) (F:ax→Prop) (vs:bF aC) (hG:cG C w F) (hl:vs.size=args.length)
  (hv:∀ (j:ax) (a:AV) (v:aC),args[j]?=aa a→vs[j]?=aa v→Rel w F a v):kZ Tryz.prog 58 vs w (np C 58 w F r):=by
 have hm:w.cell? ⟨1,0,ah⟩=aa (.int .i64 mx):=by
  obtain ⟨r,o,h1,h2,h3,h4⟩:=hG 1 1 _ LJ
  simp only [Value.pointer.injEq,Option.some.injEq,Addr.mk.injEq,Nat.add_zero] at h1
  obtain ⟨v,q1,q2,q3⟩:=h4 0 (by decide)
  obtain ⟨rfl,rfl,_⟩:=h1
  have q3:Rel w F (.int mx) v:=q3
  cases q3
  exact q1
 unfold WO at h
 split at h
 ·rename_i l sub
  split at h
  ·rename_i hle
   cases h
   match vs,hl,hv with
   | ⟨[x,y]⟩,_,hv =>
    have hx:=hv 0 _ x rfl rfl
    have hy:=hv 1 _ y rfl rfl
    cases hx with
    | s p =>
     cases hy with
     | s q =>
      refine .inl ⟨Tryz.f58,(Tryz.f58.body).getD .skip,jg,by kernel_rfl,by kernel_rfl,Calls.mono (Any.strings_Index Tt p q mx w (by have:p.size=p.data.toList.length:=rfl;omega) hm) fun e w' he=>?_⟩
      obtain ⟨rfl,rfl⟩:=he
      refine ⟨_,rfl,Ext.refl _,?_⟩
      unfold mG
      rw [aJ ho]
      exact .int _
  ·cases h
 ·cases h
end R3
namespace R3
open Go Sx
def qx:ai (ax×Ty):=[
 (3,{ size:=1,bytes:=8,kd:=.int .i64,elem:=0,zero:=[.int 0],fields:=[],eqk:=ah }),
 (4,{ size:=1,bytes:=1,kd:=.bool,elem:=0,zero:=[.b af],fields:=[],eqk:=ah }),
 (5,{ size:=1,bytes:=1,kd:=.int .u8,elem:=0,zero:=[.u8 0],fields:=[],eqk:=ah }),
 (9,{ size:=1,bytes:=16,kd:=.str,elem:=0,zero:=[.s []],fields:=[],eqk:=ah }),
 (23,{ size:=1,bytes:=24,kd:=.slice,elem:=58,zero:=[.cd],fields:=[],eqk:=ah }),
 (24,{ size:=1,bytes:=24,kd:=.slice,elem:=3,zero:=[.cd],fields:=[],eqk:=ah }),
 (26,{ size:=2,bytes:=48,kd:=.struct,elem:=0,zero:=[.cd,.cd],fields:=[(0,23),(1,24)],eqk:=ah }),
 (27,{ size:=1,bytes:=8,kd:=.int .i64,elem:=0,zero:=[.int 0],fields:=[],eqk:=ah }),
 (52,{ size:=1,bytes:=1,kd:=.int .u8,elem:=0,zero:=[.u8 0],fields:=[],eqk:=ah }),
 (53,{ size:=1,bytes:=24,kd:=.slice,elem:=9,zero:=[.cd],fields:=[],eqk:=ah }),
 (55,{ size:=2,bytes:=32,kd:=.struct,elem:=0,zero:=[.b af,.cd],fields:=[(0,4),(1,53)],eqk:=ah }),
 (56,{ size:=1,bytes:=1,kd:=.int .u8,elem:=0,zero:=[.u8 0],fields:=[],eqk:=ah }),
 (58,{ size:=9,bytes:=120,kd:=.struct,elem:=0,zero:=[.u8 0,.int 0,.s [],.b af,.cd,.cd,.cd,.b af,.u8 0],fields:=[(0,52),(1,3),(2,9),(3,55),(5,24),(6,24),(7,4),(8,56)],eqk:=ah }),
 (80,{ size:=1,bytes:=24,kd:=.slice,elem:=91,zero:=[.cd],fields:=[],eqk:=ah }),
 (89,{ size:=1,bytes:=1,kd:=.int .u8,elem:=0,zero:=[.u8 0],fields:=[],eqk:=ah }),
 (91,{ size:=5,bytes:=64,kd:=.struct,elem:=0,zero:=[.u8 0,.int 0,.s [],.b af,.cd],fields:=[(0,89),(1,3),(2,9),(3,55)],eqk:=ah }),
 (104,{ size:=4,bytes:=80,kd:=.struct,elem:=0,zero:=[.cd,.int 0,.cd,.cd],fields:=[(0,80),(1,3),(2,26)],eqk:=ah }),
 (105,{ size:=1,bytes:=8,kd:=.ptr,elem:=0,zero:=[.kY],fields:=[],eqk:=ah }),
 (109,{ size:=2,bytes:=16,kd:=.struct,elem:=0,zero:=[.int 0,.int 0],fields:=[(0,3),(1,27)],eqk:=aa [.i,.i] })
]
def uj:ai ((ax×ax)×(pO×ai ax)):=[((66,16),(.seq [(0,aj),(1,aj),(2,aj),(3,aj),(4,aj),(5,aj),(6,af),(7,af),(8,aj),(9,af)] .done,[1000009])),
 ((26,6),(.seq [(0,aj),(1,aj),(2,aj),(3,aj),(4,aj),(5,aj),(6,aj),(7,aj),(8,aj),(9,aj),(10,aj)] .done,[])),
 ((27,6),(.seq [(0,aj),(1,aj),(2,aj),(3,aj),(4,aj),(5,aj),(6,aj),(7,aj),(8,aj)] .done,[])),
 ((70,4),(.seq [(0,aj),(1,aj),(2,aj),(4,aj),(5,aj),(3,af),(6,af),(7,aj)] .done,[])),
 ((46,2),(.seq [(0,aj),(1,aj),(2,aj),(3,aj),(4,aj),(5,aj),(6,aj),(7,aj),(8,aj),(9,aj)] .done,[])),
 ((46,3),(.seq [(0,aj),(1,aj),(2,aj),(3,aj),(4,aj),(5,aj),(6,aj),(7,aj),(8,aj),(9,aj),(10,af),(11,af)] .done,[1000011])),
 ((60,2),(.seq [(0,aj),(1,aj),(2,aj),(3,aj),(4,aj),(5,aj),(6,aj),(7,aj),(8,aj),(9,aj),(10,aj),(11,aj),(12,aj),(13,af),(14,af),(15,aj),(16,aj),(17,aj),(18,af)] .done,[1000018])),
 ((60,15),(.seq [(0,aj),(1,aj),(2,aj),(4,aj),(3,af),(5,aj)] .done,[])),
 ((74,5),(.seq [(0,aj),(1,aj),(2,aj),(3,aj),(4,aj),(5,aj),(6,aj),(7,aj),(8,aj),(9,aj),(10,aj),(11,aj),(12,aj),(13,aj),(14,aj),(15,aj),(16,aj),(17,aj),(18,aj),(19,aj),(20,aj),(21,aj),(22,aj),(23,aj)] .done,[])),
 ((74,7),(.seq [(0,aj),(1,aj),(2,aj),(3,aj),(4,aj),(5,aj),(6,aj),(7,aj),(8,aj),(9,aj),(10,aj),(11,aj),(12,af),(13,aj)] .done,[])),
 ((74,12),(.seq [(0,aj),(1,aj),(2,aj),(3,aj),(4,aj),(5,aj),(6,aj),(7,aj),(8,aj),(9,aj),(10,aj),(11,aj),(12,aj),(13,aj),(14,aj),(15,af),(16,aj),(17,aj),(18,af)] .done,[1000015,1000018])),
 ((74,13),(.seq [(0,aj),(1,aj),(2,aj),(3,aj),(4,aj),(5,aj),(6,aj),(7,aj),(8,aj),(9,aj),(10,aj)] .done,[])),
 ((74,15),(.seq [(0,aj),(1,aj),(2,aj),(3,aj),(4,aj),(5,aj),(6,aj),(7,aj),(8,aj),(9,aj),(10,aj),(11,aj),(12,aj)] .done,[])),
 ((74,16),(.seq [(0,aj),(1,aj),(2,aj),(3,aj),(4,aj),(5,aj),(6,aj),(7,aj),(8,aj),(9,aj),(10,aj),(11,aj),(12,af),(13,aj)] .done,[]))]
def uk:ai (ax×ai (ax×ai (ax×ak (ax×ax))×ai (ax×ai (ax×ax×ax)))):=[(37,[(3,[(0,ah),(4,aa (91,5)),(5,ah)],[]),(5,[(0,ah),(4,aa (91,5)),(5,ah),(6,ah)],[]),(11,[(0,ah),(4,aa (91,5)),(5,ah),(6,ah)],[])]),
 (66,[(9,[(0,ah),(2,ah),(4,ah)],[(2,[]),(4,[(1,9,1)])]),(11,[(0,ah),(2,ah),(4,ah),(5,ah),(6,ah)],[(2,[]),(4,[(1,9,1)])]),(12,[(0,ah),(2,ah),(4,ah),(5,ah),(6,ah)],[(2,[]),(4,[(1,9,1)])])]),
 (91,[(2,[(0,ah),(6,ah),(7,ah)],[])]),
 (76,[(4,[(0,ah),(3,ah)],[])]),
 (26,[(4,[(2,ah),(3,ah),(5,ah)],[(2,[]),(3,[])])]),
 (44,[(2,[(0,ah),(1,ah),(5,ah)],[(71,[(0,91,5)])]),(6,[(0,ah),(1,ah),(5,ah),(6,ah)],[(71,[(0,91,5)])])]),
 (53,[(11,[(2,ah)],[(2,[])]),(12,[(0,ah),(2,ah)],[(2,[])]),(19,[(0,ah),(2,ah),(4,ah)],[(2,[])])]),
 (27,[(4,[(0,ah),(1,ah),(5,ah)],[])]),
 (59,[(18,[(0,ah),(2,ah),(4,ah)],[(2,[])])]),
 (64,[(1,[(0,ah)],[]),(3,[(0,ah)],[])]),
 (82,[(1,[(0,ah),(1,ah)],[])]),
 (83,[(1,[(0,ah),(1,ah)],[])]),
 (46,[(2,[(0,ah),(1,ah),(6,aa (3,1))],[(61,[(2,58,9)])])]),
 (60,[(11,[(0,ah),(2,ah),(4,ah),(8,ah)],[(4,[]),(71,[(2,58,9)])]),(14,[(0,ah),(2,ah),(4,ah),(8,ah),(9,ah)],[(4,[]),(71,[(2,58,9)])]),(19,[(0,ah),(8,ah),(9,ah)],[(71,[(2,58,9)])])]),
 (74,[(13,[(0,ah),(6,ah)],[(6,[]),(152,[(2,58,9)])])])]
def yt:ai (ax×ai (ak (ax×ax))):=[]
def yu:ai (ax×A4):=[(44,{ ps:=[.v,.lr 45 [0]],objs:=[((.cap 1 0),[.own 91 5])],outs:=[((.cap 1 0),[.own 91 5])] }),
 (45,{ ps:=[.v,.obj 0],objs:=[((.arg 1),[.own 91 5])],outs:=[((.arg 1),[.own 91 5])] }),
 (46,{ ps:=[.obj 0,.v],objs:=[((.arg 0),[.v,.v,.own 58 9,.v])],outs:=[((.arg 0),[.v,.v,.own 58 9,.v])] }),
 (60,{ ps:=[.obj 0,.v,.v],objs:=[((.arg 0),[.v,.v,.own 58 9,.v])],outs:=[((.arg 0),[.v,.v,.own 58 9,.v])] }),
 (74,{ ps:=[.obj 0,.v,.v,.v],objs:=[((.arg 0),[.v,.v,.own 58 9,.v])],outs:=[((.arg 0),[.v,.v,.own 58 9,.v])] })]
def qy:ai (ax×ai ax):=[]
def C (mx:aB):jT:=KX qx uj uk yt qy (fun g=>bif Nat.beq g 1 then aa (1,.int mx) else ah) yu (fun g=>bif Nat.beq g 73 then aa WN else bif Nat.beq g 58 then aa WO else ah) (fun t=>Nat.beq t 109)
end R3
open Go Go.Proofs Sx
namespace R3
theorem WQ:qx.all (fun p=>S0 Tryz.prog p.1 p.2)=aj:=by kernel_rfl
theorem fns (mx:aB):E2 (C mx) 0 Tryz.prog.funcs.toList=aj:=by kernel_rfl
theorem mixed:Tryz.prog.follows .mixedOrders=aj:=by kernel_rfl
theorem idxs:KY 109 0 Tryz.prog.funcs.toList=aj:=by kernel_rfl
theorem gvs (mx:aB):∀ (g:ax) (G:ai AV→ak AV),(C mx).gv g=aa G→((C mx).own g).all Option.isNone=aj→∀ (args:ai AV) (r:AV),G args=aa r→∀ (w:az) (F:ax→Prop) (vs:bF aC),cG (C mx) w F→vs.size=args.length →
   (∀ (j:ax) (a:AV) (v:aC),args[j]?=aa a→vs[j]?=aa v→Rel w F a v)→kZ Tryz.prog g vs w (np (C mx) g w F r):=by
 intro g G h ho args r hr w F vs hG hl hv
 have h:(bif Nat.beq g 73 then aa WN else bif Nat.beq g 58 then aa WO else ah)=aa G:=h
 cases h1:Nat.beq g 73 with
 | true =>
  rw [h1] at h;cases h
  obtain rfl:=aF h1
  exact Pt ho args r hr w F vs hl hv
 | false =>
  rw [h1] at h
  cases h2:Nat.beq g 58 with
  | true =>
   rw [h2] at h;cases h
   obtain rfl:=aF h2
   exact Pu (mx:=mx) rfl ho args r hr w F vs hG hl hv
  | false =>
   rw [h2] at h;cases h
theorem fit (mx:aB):Fit (C mx) Tryz.prog:=Fit.of (tab:=qx) rfl WQ (fns mx) mixed (E3 idxs BO) (gvs mx)
end R3
namespace R3
open Go Go.Proofs Sx
theorem maxLen {W:az} (h:W.ShapedOpen Tryz.prog):∃ m,W.cell? ⟨1,0,ah⟩=aa (.int .i64 m) :=
 cell_of_shapedOpen_int (zero := #[.int .i64 0]) (t:=3) h (of_decide_eq_true (by kernel_rfl)) (by kernel_rfl) rfl (by kernel_rfl) (by kernel_rfl) Tryz.underlying3
theorem LK {W:az} {m:aB} (h:W.cell? ⟨1,0,ah⟩=aa (.int .i64 m)):cG (C m) W (fun _=>True):=by
 intro g k e hg
 have hg:(bif Nat.beq g 1 then aa (1,AV.int m) else ah)=aa (k,e):=hg
 cases h1:Nat.beq g 1 with
 | false=>rw [h1] at hg;cases hg
 | true =>
  rw [h1] at hg;cases hg
  obtain rfl:=aF h1
  refine ⟨1,0,rfl,trivial,cM h,fun j hj=>?_⟩
  obtain rfl:j=0:=by omega
  exact ⟨.int .i64 m,h,rfl,Rel.int m⟩
mutual
def Au:DataW Unit→ai aC
 | .lit (.int k n)=>[.int k n]
 | .agg ps=>yx ps
 | _=>[]
def yx:ai (DataW Unit)→ai aC
 | []=>[]
 | d :: r=>Au d ++ yx r
end
end R3
open Go Go.Proofs Sx
namespace lp
theorem WQ:qx.all (fun p=>S0 Tryz.prog p.1 p.2)=aj:=by kernel_rfl
theorem fns (mx:aB):E2 (C mx) 0 Tryz.prog.funcs.toList=aj:=by kernel_rfl
theorem fit (mx:aB):Fit (C mx) Tryz.prog:=Fit.of (tab:=qx) rfl WQ (fns mx) R3.mixed (E3 R3.idxs R3.BO) (fun g G h=>by cases h)
end lp
namespace lp
open Go Go.Proofs Sx
variable {mx:aB}
noncomputable def vo:Code:=(bX.body).getD .skip
noncomputable def yy (run:RunT) (a b:ae) (d:ay) (e f g i:ae) (j:ay) (k:ae) (l:ai ae) (m n:ae) (o:ay) (p q s t:ae) (u:ay) (w:ae) (x:ai ae):ak AV :=
 run ((eV 11 vo []).getD []) (St.fj [(1,.cell (.ptr 1 0)),(4,.cell (.ptr 4 0))] [(1,aa (cT a b d e f g i j k l)),(4,aa (cT m n o p q s t u w x))])
noncomputable def Fm (run:RunT) (a b d:ae) (e:ay) (f g i j:ae) (k:ay) (l:ae) (m:ai ae) (n o:ae) (p:ay) (q s t u:ae) (w:ay) (x:ae) (y:ai ae) (z A:ae) (B:ay) (D E G H:ae) (I:ay) (J:ae) (L:ai ae):ak AV :=
 run ((eV 12 vo []).getD []) (St.fj [(1,.cell (.ptr 1 0)),(3,.cell (.ptr 3 0)),(4,.cell (.ptr 4 0)),(48,.cell (.val (.u8 a)))] [(1,aa (cT b d e f g i j k l m)),(3,aa (cT n o p q s t u w x y)),(4,aa (cT z A B D E G H I J L))])
noncomputable def BP (run:RunT) (a b:ae) (d:ay) (e f g i:ae) (j:ay) (k:ae) (l:ai ae) (m n:ae) (o:ay) (p q s t:ae) (u:ay) (w:ae) (x:ai ae):ak AV :=
 run ((eV 14 vo []).getD []) (St.fj [(1,.cell (.ptr 1 0)),(4,.cell (.ptr 4 0))] [(1,aa (cT a b d e f g i j k l)),(4,aa (cT m n o p q s t u w x))])
noncomputable def Fo (run:RunT) (a b d:ae) (e:ay) (f g i j:ae) (k:ay) (l:ae) (m:ai ae) (n o:ae) (p:ay) (q s t u:ae) (w:ay) (x:ae) (y:ai ae) (z A:ae) (B:ay) (D E G H:ae) (I:ay) (J:ae) (L:ai ae):ak AV :=
 run ((eV 16 vo []).getD []) (St.fj [(1,.cell (.ptr 1 0)),(3,.cell (.ptr 3 0)),(4,.cell (.ptr 4 0)),(48,.cell (.val (.u8 a)))] [(1,aa (cT b d e f g i j k l m)),(3,aa (cT n o p q s t u w x y)),(4,aa (cT z A B D E G H I J L))])
noncomputable def yz (run:RunT) (a b:ae) (d:ay) (e f g i:ae) (j:ay) (k:ae) (l:ai ae):ak AV :=
 run ((eV 27 vo []).getD []) (St.fj [(1,.cell (.ptr 1 0))] [(1,aa (cT a b d e f g i j k l))])
noncomputable def Fp (run:RunT) (a b:ae) (d:ay) (e f g i:ae) (j:ay) (k:ae) (l:ai ae) (m n:ae) (o:ay) (p q s t:ae) (u:ay) (w:ae) (x:ai ae):ak AV :=
 run ((eV 28 vo []).getD []) (St.fj [(1,.cell (.ptr 1 0)),(3,.cell (.ptr 3 0))] [(1,aa (cT a b d e f g i j k l)),(3,aa (cT m n o p q s t u w x))])
noncomputable def X17 (a b:ae) (d:ay) (e f g i:ae) (j:ay) (k:ae) (l:ai ae) (c:bj) (r:RunT):ak AV :=
 (bt (.b (J5 a 20)) af (aa (.b (J5 b 4))) (.b aj)).bind fun m=>(bt m af (aa (.b (J5 e 4))) (.b aj)).bind fun n=>(bt n af (aa (.b (J5 g 5))) (.b aj)).bind fun o=>(bt o af (aa (.b (J5 i 6))) (.b aj)).bind fun p=>(bt p af ((bt (.b d) aj (aa (.b (uf b 0))) (.b af)).bind fun q=>aa q) (.b aj)).bind fun s=>a8 s
 (aa (.b af))
 (a8 (.b (cD a 3))
 ((bt (.b ((a == a && (b == 0 && (d == d && (e == 0 && (f == 0 && (g == 0 && (i == 0 && (j == af && (k == 0 && (l == l && aj)))))))))))) aj ((c 28 [.s l,.int 32]).bind fun t=>aa t) (.b af)).bind fun u=>aa u)
 (a8 (.b (cD a 4))
 (yy r a b d e f g i j k l a b d 0 0 0 0 af 0 [])
 (a8 (.b (cD a 9))
 (yy r a b d e f g i j k l a b d 0 0 0 0 af 0 [])
 (a8 (.b (cD a 10))
 (yy r a b d e f g i j k l a b d 0 0 0 0 af 0 [])
 (Fm r a a b d e f g i j k l a 0 af 0 0 0 0 af 0 [] a b d 0 0 0 0 af 0 [])))))
theorem c17 (a b d e f g i j k l) {r:AV} (h:X17 a b d e f g i j k l (aq (C mx) Tryz.prog) (a7 (C mx) Tryz.prog 17 bX)=aa r):aq (C mx) Tryz.prog 17 [.ag [.u8 a,.u8 b,.b d,.u8 e,.u8 f,.u8 g,.u8 i,.b j,.u8 k,.s l]]=aa r :=
 bc (fun _ _=>by kernel_rfl) h
noncomputable def LL (a b:ae) (d:ay) (e f g i:ae) (j:ay) (k:ae) (l:ai ae) (m n:ae) (o:ay) (p q s t:ae) (u:ay) (w:ae) (x:ai ae) (c:bj) (r:RunT):ak AV :=
 aa (.b ((a == m && (b == n && (d == o && (e == p && (f == q && (g == s && (i == t && (j == u && (k == w && (l == x && aj))))))))))))
noncomputable def LM (a b d:ae) (e:ay) (f g i j:ae) (k:ay) (l:ae) (m:ai ae) (n o:ae) (p:ay) (q s t u:ae) (w:ay) (x:ae) (y:ai ae) (z A:ae) (B:ay) (D E G H:ae) (I:ay) (J:ae) (L:ai ae) (c:bj) (r:RunT):ak AV :=
 a8 (.b (cD a 5))
 (BP r b d e f g i j k l m z A B D E G H I J L)
 (a8 (.b (cD a 6))
 (BP r b d e f g i j k l m z A B D E G H I J L)
 (Fo r a b d e f g i j k l m n o p q s t u w x y z A B D E G H I J L))
noncomputable def LN (a b:ae) (d:ay) (e f g i:ae) (j:ay) (k:ae) (l:ai ae) (m n:ae) (o:ay) (p q s t:ae) (u:ay) (w:ae) (x:ai ae) (c:bj) (r:RunT):ak AV :=
 (bt (.b ((a == m && (b == n && (d == o && (e == p && (f == q && (g == s && (i == t && (j == u && (k == w && (l == l && aj)))))))))))) aj ((c 28 [.s l,.int 32]).bind fun y=>aa y) (.b af)).bind fun z=>aa z
noncomputable def LO (a b d:ae) (e:ay) (f g i j:ae) (k:ay) (l:ae) (m:ai ae) (n o:ae) (p:ay) (q s t u:ae) (w:ay) (x:ae) (y:ai ae) (z A:ae) (B:ay) (D E G H:ae) (I:ay) (J:ae) (L:ai ae) (c:bj) (r:RunT):ak AV :=
 a8 (.b (cD a 7))
 (aa (.b ((b == z && (d == A && (e == B && (f == f && (g == E && (i == G && (j == H && (k == I && (l == J && (m == L && aj)))))))))))))
 (a8 (.b (cD a 8))
 ((c 29 [.ag [.u8 b,.u8 d,.b e,.u8 f,.u8 g,.u8 i,.u8 j,.b k,.u8 l,.s m],.ag [.u8 z,.u8 A,.b B,.u8 D,.u8 E,.u8 G,.u8 H,.b I,.u8 J,.s L]]).bind fun M=>aa M)
 (a8 (.b (cD a 15))
 ((bt (.b ((b == n && (d == o && (e == p && (f == q && (g == s && (i == t && (j == u && (k == w && (l == l && (m == y && aj)))))))))))) aj (aa (.b (ule l 2))) (.b af)).bind fun N=>aa N)
 (a8 (.b (cD a 17))
 (yz r b d e f g i j k l m)
 (a8 (.b (cD a 18))
 (yz r b d e f g i j k l m)
 (a8 (.b (cD a 19))
 (yz r b d e f g i j k l m)
 (Fp r b d e f g i j k l m n o p q s t u w x y))))))
noncomputable def LP (a b:ae) (d:ay) (e f g i:ae) (j:ay) (k:ae) (l:ai ae) (c:bj) (r:RunT):ak AV :=
 (c 30 [.ag [.u8 a,.u8 b,.b d,.u8 e,.u8 f,.u8 g,.u8 i,.b j,.u8 k,.s l]]).bind fun m=>aa m
noncomputable def LQ (a b:ae) (d:ay) (e f g i:ae) (j:ay) (k:ae) (l:ai ae) (m n:ae) (o:ay) (p q s t:ae) (u:ay) (w:ae) (x:ai ae) (c:bj) (r:RunT):ak AV :=
 aa (.b ((a == m && (b == n && (d == o && (e == p && (f == q && (g == s && (i == t && (j == u && (k == w && (l == x && aj))))))))))))
theorem Tu (a b d e f g i j k l m n o p q s t u w x) {r:AV} (h:LL a b d e f g i j k l m n o p q s t u w x (aq (C mx) Tryz.prog) (a7 (C mx) Tryz.prog 17 bX)=aa r):yy (a7 (C mx) Tryz.prog 17 bX) a b d e f g i j k l m n o p q s t u w x=aa r :=
 bh (fun _ _=>by kernel_rfl) h
theorem Tv (a b d e f g i j k l m n o p q s t u w x y z A B D E G H I J L) {r:AV} (h:LM a b d e f g i j k l m n o p q s t u w x y z A B D E G H I J L (aq (C mx) Tryz.prog) (a7 (C mx) Tryz.prog 17 bX)=aa r):Fm (a7 (C mx) Tryz.prog 17 bX) a b d e f g i j k l m n o p q s t u w x y z A B D E G H I J L=aa r :=
 bh (fun _ _=>by kernel_rfl) h
theorem Tx (a b d e f g i j k l m n o p q s t u w x) {r:AV} (h:LN a b d e f g i j k l m n o p q s t u w x (aq (C mx) Tryz.prog) (a7 (C mx) Tryz.prog 17 bX)=aa r):BP (a7 (C mx) Tryz.prog 17 bX) a b d e f g i j k l m n o p q s t u w x=aa r :=
 bh (fun _ _=>by kernel_rfl) h
theorem Tz (a b d e f g i j k l m n o p q s t u w x y z A B D E G H I J L) {r:AV} (h:LO a b d e f g i j k l m n o p q s t u w x y z A B D E G H I J L (aq (C mx) Tryz.prog) (a7 (C mx) Tryz.prog 17 bX)=aa r):Fo (a7 (C mx) Tryz.prog 17 bX) a b d e f g i j k l m n o p q s t u w x y z A B D E G H I J L=aa r :=
 bh (fun _ _=>by kernel_rfl) h
theorem TI (a b d e f g i j k l) {r:AV} (h:LP a b d e f g i j k l (aq (C mx) Tryz.prog) (a7 (C mx) Tryz.prog 17 bX)=aa r):yz (a7 (C mx) Tryz.prog 17 bX) a b d e f g i j k l=aa r :=
 bh (fun _ _=>by kernel_rfl) h
theorem TJ (a b d e f g i j k l m n o p q s t u w x) {r:AV} (h:LQ a b d e f g i j k l m n o p q s t u w x (aq (C mx) Tryz.prog) (a7 (C mx) Tryz.prog 17 bX)=aa r):Fp (a7 (C mx) Tryz.prog 17 bX) a b d e f g i j k l m n o p q s t u w x=aa r :=
 bh (fun _ _=>by kernel_rfl) h
noncomputable def X20 (a b:ae) (d:ay) (e f g i:ae) (j:ay) (k:ae) (l:ai ae) (c:bj) (r:RunT):ak AV :=
 (bt (.b (decide ((eE (a.toNat:aB)) > 20))) af (aa (.b (J5 b 4))) (.b aj)).bind fun m=>(bt m af (aa (.b (J5 e 4))) (.b aj)).bind fun n=>(bt n af (aa (.b (J5 g 5))) (.b aj)).bind fun o=>(bt o af (aa (.b (J5 i 6))) (.b aj)).bind fun p=>(bt p af (aa (.b (J5 k 2))) (.b aj)).bind fun q=>a8 q
 (aa (.b af))
 ((bt (.b (decide ((eE (a.toNat:aB)) ≥ 4))) aj (aa (.b (decide ((eE (a.toNat:aB))≤10)))) (.b af)).bind fun s=>(bt (.b (decide ((eE (a.toNat:aB)) ≥ 17))) aj (aa (.b (decide ((eE (a.toNat:aB))≤19)))) (.b af)).bind fun t=>(bt (.b (uf b 0)) aj ((unop .not s).bind fun u=>aa u) (.b af)).bind fun w=>(bt w aj ((unop .not t).bind fun x=>aa x) (.b af)).bind fun y=>(bt y af ((bt t aj (aa (.b (cD b 0))) (.b af)).bind fun z=>aa z) (.b aj)).bind fun A=>a8 A
 (aa (.b af))
 ((bt (.b d) aj ((bt (.b ((eE (a.toNat:aB)) != 3)) aj ((unop .not s).bind fun B=>aa B) (.b af)).bind fun D=>(bt D af (aa (.b (uf b 0))) (.b aj)).bind fun E=>aa E) (.b af)).bind fun G=>a8 G
 (aa (.b af))
 ((bt (.b (uf e 0)) aj (aa (.b ((eE (a.toNat:aB)) != 7))) (.b af)).bind fun H=>(bt H aj (aa (.b ((eE (a.toNat:aB)) != 8))) (.b af)).bind fun I=>a8 I
 (aa (.b af))
 ((bt (.b (uf f 0)) aj ((bt (.b ((eE (a.toNat:aB)) != 8)) af ((bt (.b (uf f 34)) aj (aa (.b (uf f 39))) (.b af)).bind fun J=>aa J) (.b aj)).bind fun L=>aa L) (.b af)).bind fun M=>a8 M
 (aa (.b af))
 ((bt (.b (uf g 0)) aj ((bt (.b ((eE (a.toNat:aB)) != 8)) af (aa (.b (uf e 1))) (.b aj)).bind fun N=>aa N) (.b af)).bind fun O=>a8 O
 (aa (.b af))
 ((bt (.b (uf k 0)) aj (aa (.b ((eE (a.toNat:aB)) != 15))) (.b af)).bind fun P=>a8 P
 (aa (.b af))
 ((bt (.b ((eE (a.toNat:aB)) == 8)) aj (aa (.b (cD e 3))) (.b af)).bind fun Q=>(bt Q af ((bt t aj (aa (.b (cD b 4))) (.b af)).bind fun R=>aa R) (.b aj)).bind fun T=>(bt (.b (uf i 0)) aj ((c 34 [.ag [.u8 a,.u8 b,.b d,.u8 e,.u8 f,.u8 g,.u8 i,.b j,.u8 k,.s l]]).bind fun U=>(unop .not U).bind fun V=>aa V) (.b af)).bind fun W=>(bt W af ((bt T aj (aa (.b (cD i 4))) (.b af)).bind fun Y=>aa Y) (.b aj)).bind fun Z=>a8 Z
 (aa (.b af))
 ((bt (.b j) aj (aa (.b (uf i 1))) (.b af)).bind fun v0=>(bt v0 aj (aa (.b (uf i 2))) (.b af)).bind fun v1=>a8 v1
 (aa (.b af))
 ((bt (.b ((eE (a.toNat:aB)) == 3)) af (aa (.b ((eE (a.toNat:aB)) == 5))) (.b aj)).bind fun v2=>(bt v2 af (aa (.b ((eE (a.toNat:aB)) == 6))) (.b aj)).bind fun v3=>a8 v3
 ((c 35 [.s l,.int 32]).bind fun v4=>aa v4)
 ((bt (.b ((eE (a.toNat:aB)) == 8)) aj (aa (.b (cD e 1))) (.b af)).bind fun v5=>(bt v5 aj (aa (.b (cD g 1))) (.b af)).bind fun v6=>a8 v6
 ((c 35 [.s l,.int 16]).bind fun v7=>aa v7)
 (a8 (.b ((eE (a.toNat:aB)) == 19))
 ((c 36 [.int (eE (b.toNat:aB))]).bind fun v8=>(om v8).bind fun v9=>(cf .leq (.int ((l.length:aB))) v9).bind fun w0=>(bt (w0) aj ((nM v8 ah (aa (.int ((l.length:aB))))).bind fun w1=>(gR .eql (w1) (.s l)).bind fun w2=>aa (w2)) (.b af)).bind fun w3=>aa (w3))
 (aa (.b (l == []))))))))))))))
theorem c20 (a b d e f g i j k l) {r:AV} (h:X20 a b d e f g i j k l (aq (C mx) Tryz.prog) (a7 (C mx) Tryz.prog 20 Tryz.f20)=aa r):aq (C mx) Tryz.prog 20 [.ag [.u8 a,.u8 b,.b d,.u8 e,.u8 f,.u8 g,.u8 i,.b j,.u8 k,.s l]]=aa r :=
 bc (fun _ _=>by kernel_rfl) h
noncomputable def Hg (run:RunT) (a:ai ae) (b d e:aB):ak AV :=
 run ((eV 2 ((iB.body).getD .skip) []).getD []) (St.fj [(0,.cell (.val (.s a))),(1,.cell (.val (.int b))),(7,.cell (.val (.int d))),(8,.cell (.val (.int e)))] [])
noncomputable def X28 (a:ai ae) (b:aB) (c:bj) (r:RunT):ak AV :=
 Hg r a b ((a.length:aB)) 0
theorem c28 (a b) {r:AV} (h:X28 a b (aq (C mx) Tryz.prog) (a7 (C mx) Tryz.prog 28 iB)=aa r):aq (C mx) Tryz.prog 28 [.s a,.int b]=aa r :=
 bc (fun _ _=>by kernel_rfl) h
noncomputable def LR (a:ai ae) (b d e:aB) (c:bj) (r:RunT):ak AV :=
 a8 (.b (decide (e < d)))
 ((jU (.s a) (.int e)).bind fun f=>(cf .geq f (.u8 65)).bind fun g=>(bt g aj ((jU (.s a) (.int e)).bind fun i=>(cf .leq i (.u8 90)).bind fun j=>aa j) (.b af)).bind fun k=>a8 k
 (aa (.b af))
 (Hg r a b d (eE (e+1))))
 ((bt (.b (decide (((a.length:aB)) ≥ 1))) aj (aa (.b (decide (((a.length:aB))≤b)))) (.b af)).bind fun l=>aa l)
theorem Rg (a b d e) {r:AV} (h:LR a b d e (aq (C mx) Tryz.prog) (a7 (C mx) Tryz.prog 28 iB)=aa r):Hg (a7 (C mx) Tryz.prog 28 iB) a b d e=aa r :=
 bh (fun _ _=>by kernel_rfl) h
noncomputable def LS:Code:=(fK.body).getD .skip
noncomputable def BQ (run:RunT) (a b:ae) (d:ay) (e f g i:ae) (j:ay) (k:ae) (l:ai ae) (m n:ae) (o:ay) (p q s t:ae) (u:ay) (w:ae) (x:ai ae):ak AV :=
 run ((eV 14 LS []).getD []) (St.fj [(2,.cell (.ptr 2 0)),(3,.cell (.ptr 3 0))] [(2,aa (cT a b d e f g i j k l)),(3,aa (cT m n o p q s t u w x))])
noncomputable def BR (run:RunT) (a b:ae) (d:ay) (e f g i:ae) (j:ay) (k:ae) (l:ai ae) (m n:ae) (o:ay) (p q s t:ae) (u:ay) (w:ae) (x:ai ae):ak AV :=
 run ((eV 12 LS []).getD []) (St.fj [(2,.cell (.ptr 2 0)),(3,.cell (.ptr 3 0))] [(2,aa (cT a b d e f g i j k l)),(3,aa (cT m n o p q s t u w x))])
noncomputable def X29 (a b:ae) (d:ay) (e f g i:ae) (j:ay) (k:ae) (l:ai ae) (m n:ae) (o:ay) (p q s t:ae) (u:ay) (w:ae) (x:ai ae) (c:bj) (r:RunT):ak AV :=
 (bt (.b (uf f 0)) aj (aa (.b (uf f 34))) (.b af)).bind fun y=>(bt y aj (aa (.b (uf f 39))) (.b af)).bind fun z=>a8 z
 (aa (.b af))
 (a8 (.b (cD e 1))
 (a8 (.b (cD g 1))
 ((bt (.b ((a == m && (b == n && (d == o && (e == e && (f == f && (g == g && (i == t && (j == u && (k == w && (l == l && aj)))))))))))) aj ((c 28 [.s l,.int 16]).bind fun A=>aa A) (.b af)).bind fun B=>aa B)
 (BQ r a b d e f g i j k l m n o e f g t u w x))
 (a8 (.b (cD e 2))
 (BR r a b d e f g i j k l m n o e f s t u w x)
 (a8 (.b (cD e 3))
 (BR r a b d e f g i j k l m n o e f s t u w x)
 (BQ r a b d e f g i j k l m n o e f s t u w x))))
theorem c29 (a b d e f g i j k l m n o p q s t u w x) {r:AV} (h:X29 a b d e f g i j k l m n o p q s t u w x (aq (C mx) Tryz.prog) (a7 (C mx) Tryz.prog 29 fK)=aa r):aq (C mx) Tryz.prog 29 [.ag [.u8 a,.u8 b,.b d,.u8 e,.u8 f,.u8 g,.u8 i,.b j,.u8 k,.s l],.ag [.u8 m,.u8 n,.b o,.u8 p,.u8 q,.u8 s,.u8 t,.b u,.u8 w,.s x]]=aa r :=
 bc (fun _ _=>by kernel_rfl) h
noncomputable def LU (a b:ae) (d:ay) (e f g i:ae) (j:ay) (k:ae) (l:ai ae) (m n:ae) (o:ay) (p q s t:ae) (u:ay) (w:ae) (x:ai ae) (c:bj) (r:RunT):ak AV :=
 aa (.b ((a == m && (b == n && (d == o && (e == p && (f == q && (g == s && (i == t && (j == u && (k == w && (l == x && aj))))))))))))
noncomputable def LV (a b:ae) (d:ay) (e f g i:ae) (j:ay) (k:ae) (l:ai ae) (m n:ae) (o:ay) (p q s t:ae) (u:ay) (w:ae) (x:ai ae) (c:bj) (r:RunT):ak AV :=
 (bt (.b ((a == m && (b == n && (d == o && (e == p && (f == q && (g == s && (i == i && (j == j && (k == w && (l == x && aj)))))))))))) aj ((c 41 [.ag [.u8 a,.u8 b,.b d,.u8 e,.u8 f,.u8 g,.u8 i,.b j,.u8 k,.s l],.b (cD e 2)]).bind fun y=>aa y) (.b af)).bind fun z=>aa z
theorem TK (a b d e f g i j k l m n o p q s t u w x) {r:AV} (h:LU a b d e f g i j k l m n o p q s t u w x (aq (C mx) Tryz.prog) (a7 (C mx) Tryz.prog 29 fK)=aa r):BQ (a7 (C mx) Tryz.prog 29 fK) a b d e f g i j k l m n o p q s t u w x=aa r :=
 bh (fun _ _=>by kernel_rfl) h
theorem TL (a b d e f g i j k l m n o p q s t u w x) {r:AV} (h:LV a b d e f g i j k l m n o p q s t u w x (aq (C mx) Tryz.prog) (a7 (C mx) Tryz.prog 29 fK)=aa r):BR (a7 (C mx) Tryz.prog 29 fK) a b d e f g i j k l m n o p q s t u w x=aa r :=
 bh (fun _ _=>by kernel_rfl) h
noncomputable def LW:Code:=(fJ.body).getD .skip
noncomputable def Hh (run:RunT) (a b:ae) (d:ay) (e f g i:ae) (j:ay) (k:ae) (l:ai ae) (m n:ae) (o:ay) (p q s t:ae) (u:ay) (w:ae) (x:ai ae):ak AV :=
 run ((eV 4 LW []).getD []) (St.fj [(1,.cell (.ptr 1 0)),(3,.cell (.ptr 3 0))] [(1,aa (cT a b d e f g i j k l)),(3,aa (cT m n o p q s t u w x))])
noncomputable def Hi (run:RunT) (a b:ae) (d:ay) (e f g i:ae) (j:ay) (k:ae) (l:ai ae) (m n:ae) (o:ay) (p q s t:ae) (u:ay) (w:ae) (x:ai ae):ak AV :=
 run ((eV 6 LW []).getD []) (St.fj [(1,.cell (.ptr 1 0)),(3,.cell (.ptr 3 0))] [(1,aa (cT a b d e f g i j k l)),(3,aa (cT m n o p q s t u w x))])
noncomputable def X30 (a b:ae) (d:ay) (e f g i:ae) (j:ay) (k:ae) (l:ai ae) (c:bj) (r:RunT):ak AV :=
 a8 (.b (cD a 19))
 (Hh r a b d e f g i j k l a b af 0 0 0 0 af 0 l)
 (Hh r a b d e f g i j k l a b af 0 0 0 0 af 0 [])
theorem c30 (a b d e f g i j k l) {r:AV} (h:X30 a b d e f g i j k l (aq (C mx) Tryz.prog) (a7 (C mx) Tryz.prog 30 fJ)=aa r):aq (C mx) Tryz.prog 30 [.ag [.u8 a,.u8 b,.b d,.u8 e,.u8 f,.u8 g,.u8 i,.b j,.u8 k,.s l]]=aa r :=
 bc (fun _ _=>by kernel_rfl) h
noncomputable def Rh (a b:ae) (d:ay) (e f g i:ae) (j:ay) (k:ae) (l:ai ae) (m n:ae) (o:ay) (p q s t:ae) (u:ay) (w:ae) (x:ai ae) (c:bj) (r:RunT):ak AV :=
 (bt (.b (cD b 3)) af (aa (.b (cD b 4))) (.b aj)).bind fun y=>a8 y
 (Hi r a b d e f g i j k l m n o p q s i j w x)
 (Hi r a b d e f g i j k l m n o p q s t u w x)
noncomputable def Ri (a b:ae) (d:ay) (e f g i:ae) (j:ay) (k:ae) (l:ai ae) (m n:ae) (o:ay) (p q s t:ae) (u:ay) (w:ae) (x:ai ae) (c:bj) (r:RunT):ak AV :=
 (bt (.b ((a == m && (b == n && (d == o && (e == p && (f == q && (g == s && (i == t && (j == u && (k == w && (l == x && aj)))))))))))) aj (aa (.b (uf b 0))) (.b af)).bind fun y=>(bt y aj ((c 43 [.u8 b]).bind fun z=>(c 42 [z,.s l]).bind fun A=>aa A) (.b af)).bind fun B=>(bt B aj ((c 41 [.ag [.u8 a,.u8 b,.b d,.u8 e,.u8 f,.u8 g,.u8 i,.b j,.u8 k,.s l],.b (cD b 3)]).bind fun D=>aa D) (.b af)).bind fun E=>aa E
theorem WS (a b d e f g i j k l m n o p q s t u w x) {r:AV} (h:Rh a b d e f g i j k l m n o p q s t u w x (aq (C mx) Tryz.prog) (a7 (C mx) Tryz.prog 30 fJ)=aa r):Hh (a7 (C mx) Tryz.prog 30 fJ) a b d e f g i j k l m n o p q s t u w x=aa r :=
 bh (fun _ _=>by kernel_rfl) h
theorem WT (a b d e f g i j k l m n o p q s t u w x) {r:AV} (h:Ri a b d e f g i j k l m n o p q s t u w x (aq (C mx) Tryz.prog) (a7 (C mx) Tryz.prog 30 fJ)=aa r):Hi (a7 (C mx) Tryz.prog 30 fJ) a b d e f g i j k l m n o p q s t u w x=aa r :=
 bh (fun _ _=>by kernel_rfl) h
noncomputable def X34 (a b:ae) (d:ay) (e f g i:ae) (j:ay) (k:ae) (l:ai ae) (c:bj) (r:RunT):ak AV :=
 (bt (.b ((eE (a.toNat:aB)) == 8)) aj ((bt (.b (cD e 2)) af (aa (.b (cD e 3))) (.b aj)).bind fun m=>aa m) (.b af)).bind fun n=>(bt n af ((bt (.b (decide ((eE (a.toNat:aB)) ≥ 17))) aj (aa (.b (decide ((eE (a.toNat:aB))≤19)))) (.b af)).bind fun o=>(bt o aj ((bt (.b (cD b 3)) af (aa (.b (cD b 4))) (.b aj)).bind fun p=>aa p) (.b af)).bind fun q=>aa q) (.b aj)).bind fun s=>aa s
theorem c34 (a b d e f g i j k l) {r:AV} (h:X34 a b d e f g i j k l (aq (C mx) Tryz.prog) (a7 (C mx) Tryz.prog 34 Tryz.f34)=aa r):aq (C mx) Tryz.prog 34 [.ag [.u8 a,.u8 b,.b d,.u8 e,.u8 f,.u8 g,.u8 i,.b j,.u8 k,.s l]]=aa r :=
 bc (fun _ _=>by kernel_rfl) h
noncomputable def Hj (run:RunT) (a:ai ae) (b d:aB):ak AV :=
 run ((eV 2 ((iA.body).getD .skip) []).getD []) (St.fj [(0,.cell (.val (.s a))),(1,.cell (.val (.int b))),(5,.cell (.val (.int d)))] [])
noncomputable def X35 (a:ai ae) (b:aB) (c:bj) (r:RunT):ak AV :=
 Hj r a b 0
theorem c35 (a b) {r:AV} (h:X35 a b (aq (C mx) Tryz.prog) (a7 (C mx) Tryz.prog 35 iA)=aa r):aq (C mx) Tryz.prog 35 [.s a,.int b]=aa r :=
 bc (fun _ _=>by kernel_rfl) h
noncomputable def LX (a:ai ae) (b d:aB) (c:bj) (r:RunT):ak AV :=
 a8 (.b (decide (d < ((a.length:aB)))))
 ((jU (.s a) (.int d)).bind fun e=>(cf .geq e (.u8 65)).bind fun f=>(bt f aj ((jU (.s a) (.int d)).bind fun g=>(cf .leq g (.u8 90)).bind fun i=>aa i) (.b af)).bind fun j=>a8 j
 (aa (.b af))
 (Hj r a b (eE (d+1))))
 ((bt (.b (decide (((a.length:aB)) > 0))) aj (aa (.b (decide (((a.length:aB))≤b)))) (.b af)).bind fun k=>aa k)
theorem Rj (a b d) {r:AV} (h:LX a b d (aq (C mx) Tryz.prog) (a7 (C mx) Tryz.prog 35 iA)=aa r):Hj (a7 (C mx) Tryz.prog 35 iA) a b d=aa r :=
 bh (fun _ _=>by kernel_rfl) h
noncomputable def X36 (a:aB) (c:bj) (r:RunT):ak AV :=
 (bt (.b (decide (a < 0))) af (aa (.b (decide (a > 4)))) (.b aj)).bind fun b=>a8 b
 (aa (.s []))
 ((pN (([.s [],.s [116,101,120,116,97,114,101,97],.s [116,105,116,108,101],.s [115,99,114,105,112,116],.s [115,116,121,108,101]]:ai AV)).length (.int a)).bind fun d=>aa (AV.cell ((([.s [],.s [116,101,120,116,97,114,101,97],.s [116,105,116,108,101],.s [115,99,114,105,112,116],.s [115,116,121,108,101]]:ai AV)).getD d .un) 0))
theorem c36 a {r:AV} (h:X36 a (aq (C mx) Tryz.prog) (a7 (C mx) Tryz.prog 36 Tryz.f36)=aa r):aq (C mx) Tryz.prog 36 [.int a]=aa r :=
 bc (fun _ _=>by kernel_rfl) h
noncomputable def X41 (a b:ae) (d:ay) (e f g i:ae) (j:ay) (k:ae) (l:ai ae) (m:ay) (c:bj) (r:RunT):ak AV :=
 (bt (.b (!m)) aj (aa (.b (cD i 4))) (.b af)).bind fun n=>a8 n
 (aa (.b af))
 ((bt (.b (!j)) af (aa (.b (cD i 1))) (.b aj)).bind fun o=>(bt o af (aa (.b (cD i 2))) (.b aj)).bind fun p=>aa p)
theorem c41 (a b d e f g i j k l m) {r:AV} (h:X41 a b d e f g i j k l m (aq (C mx) Tryz.prog) (a7 (C mx) Tryz.prog 41 Tryz.f41)=aa r):aq (C mx) Tryz.prog 41 [.ag [.u8 a,.u8 b,.b d,.u8 e,.u8 f,.u8 g,.u8 i,.b j,.u8 k,.s l],.b m]=aa r :=
 bc (fun _ _=>by kernel_rfl) h
noncomputable def WU (a b:ai ae) (c:bj) (r:RunT):ak AV :=
 (c 57 [.s a,.s b]).bind fun d=>aa d
theorem c42 (a b) {r:AV} (h:WU a b (aq (C mx) Tryz.prog) (a7 (C mx) Tryz.prog 42 Tryz.f42)=aa r):aq (C mx) Tryz.prog 42 [.s a,.s b]=aa r :=
 bc (fun _ _=>by kernel_rfl) h
noncomputable def X43 (a:ae) (c:bj) (r:RunT):ak AV :=
 a8 (.b (cD a 1))
 (aa (.s [116,101,120,116,97,114,101,97]))
 (a8 (.b (cD a 2))
 (aa (.s [116,105,116,108,101]))
 (a8 (.b (cD a 3))
 (aa (.s [115,99,114,105,112,116]))
 (a8 (.b (cD a 4))
 (aa (.s [115,116,121,108,101]))
 (aa (.s [])))))
theorem c43 a {r:AV} (h:X43 a (aq (C mx) Tryz.prog) (a7 (C mx) Tryz.prog 43 Tryz.f43)=aa r):aq (C mx) Tryz.prog 43 [.u8 a]=aa r :=
 bc (fun _ _=>by kernel_rfl) h
noncomputable def X50 (a b:ae) (d:ay) (e f g i:ae) (j:ay) (k:ae) (l:ai ae) (c:bj) (r:RunT):ak AV :=
 a8 (.b (cD a 0))
 (aa (.u8 1))
 ((bt (.b (cD a 17)) aj ((bt (.b (cD b 1)) af (aa (.b (cD b 2))) (.b aj)).bind fun m=>aa m) (.b af)).bind fun n=>a8 n
 (aa (.u8 2))
 ((bt (.b (cD a 17)) aj (aa (.b (cD b 3))) (.b af)).bind fun o=>(bt o aj ((c 63 [.ag [.u8 a,.u8 b,.b d,.u8 e,.u8 f,.u8 g,.u8 i,.b j,.u8 k,.s l]]).bind fun p=>aa p) (.b af)).bind fun q=>a8 q
 (aa (.u8 7))
 ((bt (.b (cD a 17)) aj (aa (.b (cD b 4))) (.b af)).bind fun s=>(bt s aj ((c 63 [.ag [.u8 a,.u8 b,.b d,.u8 e,.u8 f,.u8 g,.u8 i,.b j,.u8 k,.s l]]).bind fun t=>aa t) (.b af)).bind fun u=>a8 u
 (aa (.u8 9))
 ((bt (.b (uf a 8)) af (aa (.b (cD f 0))) (.b aj)).bind fun w=>a8 w
 (aa (.u8 0))
 (a8 (.b (cD e 0))
 (aa (.u8 3))
 ((bt (.b (cD e 2)) aj ((c 63 [.ag [.u8 a,.u8 b,.b d,.u8 e,.u8 f,.u8 g,.u8 i,.b j,.u8 k,.s l]]).bind fun x=>aa x) (.b af)).bind fun y=>a8 y
 (aa (.u8 8))
 ((bt (.b (cD e 3)) aj ((c 63 [.ag [.u8 a,.u8 b,.b d,.u8 e,.u8 f,.u8 g,.u8 i,.b j,.u8 k,.s l]]).bind fun z=>aa z) (.b af)).bind fun A=>a8 A
 (aa (.u8 10))
 (a8 (.b (uf e 1))
 (aa (.u8 0))
 (a8 (.b (cD g 0))
 (aa (.u8 4))
 (a8 (.b (cD g 3))
 (aa (.u8 5))
 (a8 (.b (cD g 4))
 (aa (.u8 6))
 (aa (.u8 0)))))))))))))
theorem c50 (a b d e f g i j k l) {r:AV} (h:X50 a b d e f g i j k l (aq (C mx) Tryz.prog) (a7 (C mx) Tryz.prog 50 Tryz.f50)=aa r):aq (C mx) Tryz.prog 50 [.ag [.u8 a,.u8 b,.b d,.u8 e,.u8 f,.u8 g,.u8 i,.b j,.u8 k,.s l]]=aa r :=
 bc (fun _ _=>by kernel_rfl) h
noncomputable def Hk (run:RunT) (a b:ae) (d:ay) (e f g i:ae) (j:ay) (k:ae) (l:ai ae) (m n:ae) (o:ay) (p q s t:ae) (u:ay) (w:ae) (x:ai ae):ak AV :=
 run ((eV 6 ((iy.body).getD .skip) []).getD []) (St.fj [(1,.cell (.ptr 1 0)),(2,.cell (.ptr 2 0))] [(1,aa (cT a b d e f g i j k l)),(2,aa (cT m n o p q s t u w x))])
noncomputable def X51 (a b:ae) (d:ay) (e f g i:ae) (j:ay) (k:ae) (l:ai ae) (c:bj) (r:RunT):ak AV :=
 (c 50 [.ag [.u8 a,.u8 b,.b d,.u8 e,.u8 f,.u8 g,.u8 i,.b j,.u8 k,.s l]]).bind fun m=>(cf .eql m (.u8 0)).bind fun n=>a8 n
 (aa (.ag [.u8 20,.u8 0,.b af,.u8 0,.u8 0,.u8 0,.u8 0,.b af,.u8 0,.s []]))
 ((cf .eql m (.u8 4)).bind fun o=>a8 o
 (Hk r a b d e f 2 i j k l 0 0 af 0 0 0 0 af 0 [])
 (Hk r a b d e f g i j k l 0 0 af 0 0 0 0 af 0 []))
theorem c51 (a b d e f g i j k l) {r:AV} (h:X51 a b d e f g i j k l (aq (C mx) Tryz.prog) (a7 (C mx) Tryz.prog 51 iy)=aa r):aq (C mx) Tryz.prog 51 [.ag [.u8 a,.u8 b,.b d,.u8 e,.u8 f,.u8 g,.u8 i,.b j,.u8 k,.s l]]=aa r :=
 bc (fun _ _=>by kernel_rfl) h
noncomputable def WV (a b:ae) (d:ay) (e f g i:ae) (j:ay) (k:ae) (l:ai ae) (m n:ae) (o:ay) (p q s t:ae) (u:ay) (w:ae) (x:ai ae) (c:bj) (r:RunT):ak AV :=
 aa (.ag [.u8 a,.u8 b,.b d,.u8 e,.u8 f,.u8 g,.u8 i,.b j,.u8 k,.s l])
theorem WW (a b d e f g i j k l m n o p q s t u w x) {r:AV} (h:WV a b d e f g i j k l m n o p q s t u w x (aq (C mx) Tryz.prog) (a7 (C mx) Tryz.prog 51 iy)=aa r):Hk (a7 (C mx) Tryz.prog 51 iy) a b d e f g i j k l m n o p q s t u w x=aa r :=
 bh (fun _ _=>by kernel_rfl) h
noncomputable def qB (run:RunT)  : ak AV :=
 run ((eV 32 ((iw.body).getD .skip) []).getD []) (St.fj [] [])
noncomputable def X55 (a b:ae) (d:ay) (e f g i:ae) (j:ay) (k:ae) (l:ai ae) (c:bj) (r:RunT):ak AV :=
 (bt (.b (cD i 1)) af (aa (.b (cD i 2))) (.b aj)).bind fun m=>(bt m aj (aa (.b (!j))) (.b af)).bind fun n=>a8 (.b ((eE (a.toNat:aB)) == 0))
 (aa (.int 1))
 (a8 (.b ((eE (a.toNat:aB)) == 17))
 ((bt (.b (cD b 1)) af (aa (.b (cD b 2))) (.b aj)).bind fun o=>a8 o
 (aa (.int 2))
 ((bt n aj (aa (.b (cD b 3))) (.b af)).bind fun p=>a8 p
 (aa (.int 7))
 ((bt n aj (aa (.b (cD b 4))) (.b af)).bind fun q=>a8 q
 (aa (.int 9))
 (qB r))))
 (a8 (.b ((eE (a.toNat:aB)) == 8))
 (a8 (.b (cD f 0))
 (aa (.int 0))
 (a8 (.b (cD e 0))
 (aa (.int 3))
 (a8 (.b (cD e 1))
 (a8 (.b (cD g 0))
 (aa (.int 4))
 (a8 (.b (cD g 3))
 (aa (.int 5))
 (a8 (.b (cD g 4))
 (aa (.int 6))
 (qB r))))
 (a8 (.b (cD e 2))
 (a8 n
 (aa (.int 8))
 (qB r))
 (a8 (.b (cD e 3))
 (a8 n
 (aa (.int 10))
 (qB r))
 (qB r))))))
 (qB r)))
theorem c55 (a b d e f g i j k l) {r:AV} (h:X55 a b d e f g i j k l (aq (C mx) Tryz.prog) (a7 (C mx) Tryz.prog 55 iw)=aa r):aq (C mx) Tryz.prog 55 [.ag [.u8 a,.u8 b,.b d,.u8 e,.u8 f,.u8 g,.u8 i,.b j,.u8 k,.s l]]=aa r :=
 bc (fun _ _=>by kernel_rfl) h
noncomputable def TM  (c:bj) (r:RunT):ak AV :=
 aa (.int 0)
theorem TN {r:AV} (h:TM  (aq (C mx) Tryz.prog) (a7 (C mx) Tryz.prog 55 iw)=aa r):qB (a7 (C mx) Tryz.prog 55 iw)  = aa r :=
 bh (fun _ _=>by kernel_rfl) h
noncomputable def Hl (run:RunT) (a b:ae) (d:ay) (e f g i:ae) (j:ay) (k:ae) (l:ai ae) (m n:ae) (o:ay) (p q s t:ae) (u:ay) (w:ae) (x:ai ae):ak AV :=
 run ((eV 6 ((iq.body).getD .skip) []).getD []) (St.fj [(1,.cell (.ptr 1 0)),(2,.cell (.ptr 2 0))] [(1,aa (cT a b d e f g i j k l)),(2,aa (cT m n o p q s t u w x))])
noncomputable def X56 (a b:ae) (d:ay) (e f g i:ae) (j:ay) (k:ae) (l:ai ae) (c:bj) (r:RunT):ak AV :=
 (c 55 [.ag [.u8 a,.u8 b,.b d,.u8 e,.u8 f,.u8 g,.u8 i,.b j,.u8 k,.s l]]).bind fun m=>(cf .eql m (.int 0)).bind fun n=>a8 n
 (aa (.ag [.u8 20,.u8 0,.b af,.u8 0,.u8 0,.u8 0,.u8 0,.b af,.u8 0,.s []]))
 ((cf .eql m (.int 4)).bind fun o=>a8 o
 (Hl r a b d e f 2 i j k l 0 0 af 0 0 0 0 af 0 [])
 (Hl r a b d e f g i j k l 0 0 af 0 0 0 0 af 0 []))
theorem c56 (a b d e f g i j k l) {r:AV} (h:X56 a b d e f g i j k l (aq (C mx) Tryz.prog) (a7 (C mx) Tryz.prog 56 iq)=aa r):aq (C mx) Tryz.prog 56 [.ag [.u8 a,.u8 b,.b d,.u8 e,.u8 f,.u8 g,.u8 i,.b j,.u8 k,.s l]]=aa r :=
 bc (fun _ _=>by kernel_rfl) h
noncomputable def WX (a b:ae) (d:ay) (e f g i:ae) (j:ay) (k:ae) (l:ai ae) (m n:ae) (o:ay) (p q s t:ae) (u:ay) (w:ae) (x:ai ae) (c:bj) (r:RunT):ak AV :=
 aa (.ag [.u8 a,.u8 b,.b d,.u8 e,.u8 f,.u8 g,.u8 i,.b j,.u8 k,.s l])
theorem WY (a b d e f g i j k l m n o p q s t u w x) {r:AV} (h:WX a b d e f g i j k l m n o p q s t u w x (aq (C mx) Tryz.prog) (a7 (C mx) Tryz.prog 56 iq)=aa r):Hl (a7 (C mx) Tryz.prog 56 iq) a b d e f g i j k l m n o p q s t u w x=aa r :=
 bh (fun _ _=>by kernel_rfl) h
noncomputable def WZ (a b:ai ae) (c:bj) (r:RunT):ak AV :=
 (bt (.b (decide (((a.length:aB)) ≥ ((b.length:aB))))) aj ((nM (.s a) ah (aa (.int ((b.length:aB))))).bind fun d=>(gR .eql d (.s b)).bind fun e=>aa e) (.b af)).bind fun f=>aa f
theorem c57 (a b) {r:AV} (h:WZ a b (aq (C mx) Tryz.prog) (a7 (C mx) Tryz.prog 57 Tryz.f57)=aa r):aq (C mx) Tryz.prog 57 [.s a,.s b]=aa r :=
 bc (fun _ _=>by kernel_rfl) h
noncomputable def X63 (a b:ae) (d:ay) (e f g i:ae) (j:ay) (k:ae) (l:ai ae) (c:bj) (r:RunT):ak AV :=
 (bt (.b (cD i 1)) af (aa (.b (cD i 2))) (.b aj)).bind fun m=>(bt m aj (aa (.b (!j))) (.b af)).bind fun n=>aa n
theorem c63 (a b d e f g i j k l) {r:AV} (h:X63 a b d e f g i j k l (aq (C mx) Tryz.prog) (a7 (C mx) Tryz.prog 63 Tryz.f63)=aa r):aq (C mx) Tryz.prog 63 [.ag [.u8 a,.u8 b,.b d,.u8 e,.u8 f,.u8 g,.u8 i,.b j,.u8 k,.s l]]=aa r :=
 bc (fun _ _=>by kernel_rfl) h
noncomputable def s7 (run:RunT) (a:ai ae) (b:ai AV) (d:aB):ak AV :=
 run ((eV 3 ((iN.body).getD .skip) []).getD []) (St.fj [(0,.cell (.val (.s a))),(3,.cell (.own 5 9 1 b)),(4,.cell (.val (.int d)))] [])
noncomputable def W7 (a:ai ae) (c:bj) (r:RunT):ak AV :=
 s7 r a (([.s [],.s [116,101,120,116,97,114,101,97],.s [116,105,116,108,101],.s [115,99,114,105,112,116],.s [115,116,121,108,101]]:ai AV)) 1
theorem aar a {r:AV} (h:W7 a (aq (C mx) Tryz.prog) (a7 (C mx) Tryz.prog 102 iN)=aa r):aq (C mx) Tryz.prog 102 [.s a]=aa r :=
 bc (fun _ _=>by kernel_rfl) h
noncomputable def TP (a:ai ae) (b:ai AV) (d:aB) (c:bj) (r:RunT):ak AV :=
 a8 (.b (decide (d < 5)))
 ((pN b.length (.int d)).bind fun e=>(gR .eql (AV.cell (b.getD e .un) 0) (.s a)).bind fun f=>a8 f
 (aa (.int d))
 (s7 r a b (eE (d+1))))
 (aa (.int 0))
theorem yA (a b d) {r:AV} (h:TP a b d (aq (C mx) Tryz.prog) (a7 (C mx) Tryz.prog 102 iN)=aa r):s7 (a7 (C mx) Tryz.prog 102 iN) a b d=aa r :=
 bh (fun _ _=>by kernel_rfl) h
noncomputable def Xa (a:ai ae) (c:bj) (r:RunT):ak AV :=
 a8 (.b (a == [116,101,120,116,97,114,101,97]))
 (aa (.u8 1))
 (a8 (.b (a == [116,105,116,108,101]))
 (aa (.u8 2))
 (a8 (.b (a == [115,99,114,105,112,116]))
 (aa (.u8 3))
 (a8 (.b (a == [115,116,121,108,101]))
 (aa (.u8 4))
 (aa (.u8 0)))))
theorem aas a {r:AV} (h:Xa a (aq (C mx) Tryz.prog) (a7 (C mx) Tryz.prog 120 Tryz.f120)=aa r):aq (C mx) Tryz.prog 120 [.s a]=aa r :=
 bc (fun _ _=>by kernel_rfl) h
noncomputable def Hm:Code:=(fu.body).getD .skip
noncomputable def BS (run:RunT) (a:ai ae) (b:ai AV) (d:aB):ak AV :=
 run ((eV 3 Hm []).getD []) (St.fj [(0,.cell (.val (.s a))),(3,.cell (.own 7 9 1 b)),(4,.cell (.val (.int d)))] [])
noncomputable def BU (run:RunT) (a:ai ae) (b:ai AV) (d:aB):ak AV :=
 run ((eV 9 Hm []).getD []) (St.fj [(0,.cell (.val (.s a))),(5,.cell (.own 20 9 1 b)),(6,.cell (.val (.int d)))] [])
noncomputable def aat (a:ai ae) (c:bj) (r:RunT):ak AV :=
 BS r a (([.s [97,99,116,105,111,110],.s [98,97,99,107,103,114,111,117,110,100],.s [99,105,116,101],.s [100,97,116,97],.s [102,111,114,109,97,99,116,105,111,110],.s [104,114,101,102],.s [108,111,110,103,100,101,115,99],.s [109,97,110,105,102,101,115,116],.s [112,111,115,116,101,114],.s [115,114,99],.s [120,108,105,110,107,58,104,114,101,102]]:ai AV)) 0
theorem aau a {r:AV} (h:aat a (aq (C mx) Tryz.prog) (a7 (C mx) Tryz.prog 130 fu)=aa r):aq (C mx) Tryz.prog 130 [.s a]=aa r :=
 bc (fun _ _=>by kernel_rfl) h
noncomputable def Fq (a:ai ae) (b:ai AV) (d:aB) (c:bj) (r:RunT):ak AV :=
 a8 (.b (decide (d < ((b.length:aB)))))
 ((pN b.length (.int d)).bind fun e=>(gR .eql (AV.cell (b.getD e .un) 0) (.s a)).bind fun f=>a8 f
 (aa (.int 1))
 (BS r a b (eE (d+1))))
 (BU r a (([.s [115,114,99,100,111,99],.s [115,114,99,115,101,116],.s [105,109,97,103,101,115,114,99,115,101,116],.s [99,111,110,116,101,110,116],.s [104,116,116,112,45,101,113,117,105,118]]:ai AV)) 0)
noncomputable def Fu (a:ai ae) (b:ai AV) (d:aB) (c:bj) (r:RunT):ak AV :=
 a8 (.b (decide (d < ((b.length:aB)))))
 ((pN b.length (.int d)).bind fun e=>(gR .eql (AV.cell (b.getD e .un) 0) (.s a)).bind fun f=>a8 f
 (aa (.int 4))
 (BU r a b (eE (d+1))))
 (a8 (.b (a == [115,116,121,108,101]))
 (aa (.int 3))
 ((bt (.b (decide (((a.length:aB)) ≥ 3))) aj ((jU (.s a) (.int 0)).bind fun g=>(cf .eql g (.u8 111)).bind fun i=>aa i) (.b af)).bind fun j=>(bt j aj ((jU (.s a) (.int 1)).bind fun k=>(cf .eql k (.u8 110)).bind fun l=>aa l) (.b af)).bind fun m=>a8 m
 (aa (.int 2))
 (aa (.int 0))))
theorem LY (a b d) {r:AV} (h:Fq a b d (aq (C mx) Tryz.prog) (a7 (C mx) Tryz.prog 130 fu)=aa r):BS (a7 (C mx) Tryz.prog 130 fu) a b d=aa r :=
 bh (fun _ _=>by kernel_rfl) h
theorem LZ (a b d) {r:AV} (h:Fu a b d (aq (C mx) Tryz.prog) (a7 (C mx) Tryz.prog 130 fu)=aa r):BU (a7 (C mx) Tryz.prog 130 fu) a b d=aa r :=
 bh (fun _ _=>by kernel_rfl) h
noncomputable def xh:Code:=(di.body).getD .skip
noncomputable def kN (run:RunT)  : ak AV :=
 run ((eV 13 xh []).getD []) (St.fj [] [])
noncomputable def BV (run:RunT) (a b:ai ae):ak AV :=
 run ((eV 14 xh []).getD []) (St.fj [(0,.cell (.val (.s a))),(3,.cell (.val (.s b)))] [])
noncomputable def pd (run:RunT)  : ak AV :=
 run ((eV 21 xh []).getD []) (St.fj [] [])
noncomputable def BW (run:RunT) (a:ai ae):ak AV :=
 run ((eV 22 xh []).getD []) (St.fj [(0,.cell (.val (.s a)))] [])
noncomputable def Xb (a:ai ae) (c:bj) (r:RunT):ak AV :=
 a8 (.b (a == [97,99,116,105,111,110]))
 (kN r)
 (a8 (.b (a == [98,97,99,107,103,114,111,117,110,100]))
 (kN r)
 (a8 (.b (a == [99,105,116,101]))
 (kN r)
 (a8 (.b (a == [100,97,116,97]))
 (kN r)
 (a8 (.b (a == [102,111,114,109,97,99,116,105,111,110]))
 (kN r)
 (a8 (.b (a == [104,114,101,102]))
 (kN r)
 (a8 (.b (a == [108,111,110,103,100,101,115,99]))
 (kN r)
 (a8 (.b (a == [109,97,110,105,102,101,115,116]))
 (kN r)
 (a8 (.b (a == [112,111,115,116,101,114]))
 (kN r)
 (a8 (.b (a == [115,114,99]))
 (kN r)
 (a8 (.b (a == [120,108,105,110,107,58,104,114,101,102]))
 (kN r)
 (BV r a a)))))))))))
theorem aav a {r:AV} (h:Xb a (aq (C mx) Tryz.prog) (a7 (C mx) Tryz.prog 138 di)=aa r):aq (C mx) Tryz.prog 138 [.s a]=aa r :=
 bc (fun _ _=>by kernel_rfl) h
noncomputable def Pv  (c:bj) (r:RunT):ak AV :=
 aa (.u8 1)
noncomputable def Ho (a b:ai ae) (c:bj) (r:RunT):ak AV :=
 a8 (.b (b == [115,116,121,108,101]))
 (aa (.u8 3))
 (a8 (.b (b == [115,114,99,100,111,99]))
 (pd r)
 (a8 (.b (b == [115,114,99,115,101,116]))
 (pd r)
 (a8 (.b (b == [105,109,97,103,101,115,114,99,115,101,116]))
 (pd r)
 (a8 (.b (b == [99,111,110,116,101,110,116]))
 (pd r)
 (a8 (.b (b == [104,116,116,112,45,101,113,117,105,118]))
 (pd r)
 (BW r a))))))
noncomputable def Pw  (c:bj) (r:RunT):ak AV :=
 aa (.u8 4)
noncomputable def Hp (a:ai ae) (c:bj) (r:RunT):ak AV :=
 (bt (.b (decide (((a.length:aB)) > 2))) aj ((c 42 [.s a,.s [111,110]]).bind fun b=>aa b) (.b af)).bind fun d=>a8 d
 (aa (.u8 2))
 (aa (.u8 0))
theorem Px {r:AV} (h:Pv  (aq (C mx) Tryz.prog) (a7 (C mx) Tryz.prog 138 di)=aa r):kN (a7 (C mx) Tryz.prog 138 di)  = aa r :=
 bh (fun _ _=>by kernel_rfl) h
theorem Py (a b) {r:AV} (h:Ho a b (aq (C mx) Tryz.prog) (a7 (C mx) Tryz.prog 138 di)=aa r):BV (a7 (C mx) Tryz.prog 138 di) a b=aa r :=
 bh (fun _ _=>by kernel_rfl) h
theorem Pz {r:AV} (h:Pw  (aq (C mx) Tryz.prog) (a7 (C mx) Tryz.prog 138 di)=aa r):pd (a7 (C mx) Tryz.prog 138 di)  = aa r :=
 bh (fun _ _=>by kernel_rfl) h
theorem PA a {r:AV} (h:Hp a (aq (C mx) Tryz.prog) (a7 (C mx) Tryz.prog 138 di)=aa r):BW (a7 (C mx) Tryz.prog 138 di) a=aa r :=
 bh (fun _ _=>by kernel_rfl) h
noncomputable def Hq:Code:=(fo.body).getD .skip
noncomputable def yB (run:RunT) (a b:ae) (d:ay) (e f g i:ae) (j:ay) (k:ae) (l:ai ae):ak AV :=
 run ((eV 7 Hq []).getD []) (St.fj [(1,.cell (.ptr 1 0))] [(1,aa (cT a b d e f g i j k l))])
noncomputable def Fv (run:RunT)  : ak AV :=
 run ((eV 8 Hq []).getD []) (St.fj [] [])
noncomputable def Xc (a b:ae) (d:ay) (e f g i:ae) (j:ay) (k:ae) (l:ai ae) (c:bj) (r:RunT):ak AV :=
 a8 (.b (cD a 8))
 ((bt (.b (cD e 2)) af (aa (.b (cD e 3))) (.b aj)).bind fun m=>aa m)
 (a8 (.b (cD a 17))
 (yB r a b d e f g i j k l)
 (a8 (.b (cD a 18))
 (yB r a b d e f g i j k l)
 (a8 (.b (cD a 19))
 (yB r a b d e f g i j k l)
 (Fv r))))
theorem aaw (a b d e f g i j k l) {r:AV} (h:Xc a b d e f g i j k l (aq (C mx) Tryz.prog) (a7 (C mx) Tryz.prog 140 fo)=aa r):aq (C mx) Tryz.prog 140 [.ag [.u8 a,.u8 b,.b d,.u8 e,.u8 f,.u8 g,.u8 i,.b j,.u8 k,.s l]]=aa r :=
 bc (fun _ _=>by kernel_rfl) h
noncomputable def L0 (a b:ae) (d:ay) (e f g i:ae) (j:ay) (k:ae) (l:ai ae) (c:bj) (r:RunT):ak AV :=
 (bt (.b (cD b 3)) af (aa (.b (cD b 4))) (.b aj)).bind fun m=>aa m
noncomputable def TQ  (c:bj) (r:RunT):ak AV :=
 aa (.b af)
theorem TR (a b d e f g i j k l) {r:AV} (h:L0 a b d e f g i j k l (aq (C mx) Tryz.prog) (a7 (C mx) Tryz.prog 140 fo)=aa r):yB (a7 (C mx) Tryz.prog 140 fo) a b d e f g i j k l=aa r :=
 bh (fun _ _=>by kernel_rfl) h
theorem TS {r:AV} (h:TQ  (aq (C mx) Tryz.prog) (a7 (C mx) Tryz.prog 140 fo)=aa r):Fv (a7 (C mx) Tryz.prog 140 fo)  = aa r :=
 bh (fun _ _=>by kernel_rfl) h
section
variable (st el:ae) (en:ay) (at' qu pa su:ae) (es:ay) (da:ae) (nm:ai ae)
theorem s34:aq (C mx) Tryz.prog 34 [cx st el en at' qu pa su es da nm]=aa (.b (rU st el at')):=by
 apply c34
 simp only [X34,cC,iv,kC,j4,kV,jO,Option.bind_some,b9,cy,ba,ny,ge_iff_le,rU]
 simp only [fN _ _ (show 8 < 256 by decide),Ta _ _ (show 17 < 256 by decide),S' _ _ (show 19 < 256 by decide)]
theorem l35 (n:ax):∀ (r p:ai ae),(p ++ r).length < 9223372036854775808→low p=aj→Hj (a7 (C mx) Tryz.prog 35 iA) (p ++ r) (n:aB) (p.length:aB)=aa (.b (small (p ++ r) n))
 | [],p,h,hp=>by
  apply Rj
  simp only [LX,xd,ue,List.append_nil,Option.bind_some,ba,Bool.false_eq_true,aH,b9,small,hp,Bool.true_and,gt_iff_lt]
  congr 3
  rw [decide_eq_decide];omega
 | c :: r,p,h,hp=>by
  apply Rj
  simp only [LX,Bw,nX,rf p c r h,Bu,Bt,Option.bind_some,ba,aO,b9]
  cases hc:(decide (65≤c) && decide (c≤90)) with
  | true =>
   have:low (p ++ c :: r)=af:=by simp only [low,fZ,dW,hc,df,dn,gH]
   simp [small,this]
  | false =>
   simp only [Bool.false_eq_true,aH]
   rw [kh]
   exact l35 n r (p ++ [c]) (by rw [← kh];exact h) (by simp only [low,fZ,dW,List.all_nil,hc] at hp ⊢;simpa using hp)
theorem s35 (n:ax) (h:nm.length < 9223372036854775808):aq (C mx) Tryz.prog 35 [.s nm,.int (n:aB)]=aa (.b (small nm n)):=by
 apply c35
 exact l35 n nm [] h rfl
theorem Vv (n:ax):∀ (r p:ai ae),(p ++ r).length < 9223372036854775808→low p=aj→Hg (a7 (C mx) Tryz.prog 28 iB) (p ++ r) (n:aB) ((p ++ r).length:aB) (p.length:aB)=aa (.b (small (p ++ r) n))
 | [],p,h,hp=>by
  apply Rg
  simp only [LR,xd,ue,List.append_nil,Option.bind_some,ba,Bool.false_eq_true,aH,b9,small,hp,Bool.true_and,ge_iff_le]
  congr 3
  rw [decide_eq_decide];omega
 | c :: r,p,h,hp=>by
  apply Rg
  simp only [LR,Bw,nX,rf p c r h,Bu,Bt,Option.bind_some,ba,aO,b9]
  cases hc:(decide (65≤c) && decide (c≤90)) with
  | true =>
   have:low (p ++ c :: r)=af:=by simp only [low,fZ,dW,hc,df,dn,gH]
   simp [small,this]
  | false =>
   simp only [Bool.false_eq_true,aH]
   rw [kh]
   exact Vv n r (p ++ [c]) (by rw [← kh];exact h) (by simp only [low,fZ,dW,List.all_nil,hc] at hp ⊢;simpa using hp)
theorem s28 (n:ax) (h:nm.length < 9223372036854775808):aq (C mx) Tryz.prog 28 [.s nm,.int (n:aB)]=aa (.b (small nm n)):=by
 apply c28
 simp only [X28]
 exact Vv n nm [] h rfl
theorem s43:aq (C mx) Tryz.prog 43 [.u8 el]=aa (.s (nameOf el)):=by
 apply c43
 refine DD ?_
 revert el
 exact l8 (by kernel_rfl)
theorem s36:aq (C mx) Tryz.prog 36 [.int el.toNat]=aa (.s (nameOf el)):=by
 apply c36
 refine DD ?_
 revert el
 exact l8 (by kernel_rfl)
theorem Y8 (l p:ai ae):aq (C mx) Tryz.prog 57 [.s l,.s p]=aa (.b (pre p l)):=by
 apply c57
 simp only [WZ,Option.bind_some,ge_iff_le]
 by_cases h:p.length≤l.length
 ·rw [sS h]
  simp [pre,h]
 ·have:decide ((p.length:aB)≤(l.length:aB))=af:=by simp;omega
  rw [this,lL]
  simp [pre,h]
theorem Y9 (l p:ai ae):aq (C mx) Tryz.prog 42 [.s l,.s p]=aa (.b (pre p l)):=by
 apply c42
 simp only [WU,Y8,Option.bind_some]
theorem s41 (b:ay):aq (C mx) Tryz.prog 41 [cx st el en at' qu pa su es da nm,.b b]=aa (.b (gA su es b)):=by
 apply c41
 simp only [X41,cC,iv,kC,j4,kV,jO,Option.bind_some,b9,cy,ba,gA]
 cases b <;> by_cases h:su=4 <;> simp [h]
theorem s63:aq (C mx) Tryz.prog 63 [cx st el en at' qu pa su es da nm]=aa (.b ((su == 1 || su == 2) && !es)):=by
 apply c63
 simp [X63]
end
section
variable (st el:ae) (en:ay) (at' qu pa su:ae) (es:ay) (da:ae) (nm:ai ae)
theorem s20 (h:nm.length < 9223372036854775808):aq (C mx) Tryz.prog 20 [cx st el en at' qu pa su es da nm]=aa (.b (form ⟨st,el,en,at',qu,pa,su,es,da,nm⟩)):=by
 apply c20
 have e1:aq (C mx) Tryz.prog 35 [.s nm,.int 32]=aa (.b (small nm 32)):=s35 nm 32 h
 have e2:aq (C mx) Tryz.prog 35 [.s nm,.int 16]=aa (.b (small nm 16)):=s35 nm 16 h
 simp only [X20,fc,Bool.and_true,cC,iv,kC,j4,kV,jO,Option.bind_some,b9,cy,ba,s34,e1,e2,s36,K4,ud,ny,ge_iff_le,gt_iff_lt,et,ra]
 simp only [fN _ _ (show 3 < 256 by decide),fN _ _ (show 5 < 256 by decide),fN _ _ (show 6 < 256 by decide),fN _ _ (show 8 < 256 by decide),fN _ _ (show 19 < 256 by decide),G7 _ _ (show 3 < 256 by decide),G7 _ _ (show 7 < 256 by decide),G7 _ _ (show 8 < 256 by decide),G7 _ _ (show 15 < 256 by decide),
  Ta _ _ (show 17 < 256 by decide),S' _ _ (show 19 < 256 by decide),Ta _ _ (show 4 < 256 by decide),S' _ _ (show 10 < 256 by decide),aan _ _ (show 20 < 256 by decide)]
 have e3:(bt (.b (decide ((nm.length:aB)≤((nameOf el).length:aB)))) aj ((nM (.s (nameOf el)) ah (aa (.int (nm.length:aB)))).bind fun v90=>(gR .eql v90 (.s nm)).bind fun v91=>aa v91) (.b af))=aa (.b (pre nm (nameOf el))):=by
  by_cases hl:nm.length≤(nameOf el).length
  ·rw [sS hl];simp [pre,hl]
  ·have:decide ((nm.length:aB)≤((nameOf el).length:aB))=af:=by simp;omega
   rw [this,lL];simp [pre,hl]
 rw [e3]
 simp only [Option.bind_some,K8,form,G8,DO]
section two
variable (ea BA:ae) (BB:ay) (rT BC BD C1:ae) (C2:ay) (BF:ae) (BG:ai ae)
theorem TT:BQ (a7 (C mx) Tryz.prog 29 fK) st el en at' qu pa su es da nm ea BA BB rT BC BD C1 C2 BF BG =
  aa (.b (fc ⟨st,el,en,at',qu,pa,su,es,da,nm⟩ ⟨ea,BA,BB,rT,BC,BD,C1,C2,BF,BG⟩)):=by
 apply TK
 simp only [LU,fc,Bool.and_true,cC,iv,kC,j4,kV,jO,Option.bind_some,b9,cy,ba,Option.bind_some]
theorem TU:BR (a7 (C mx) Tryz.prog 29 fK) st el en at' qu pa su es da nm ea BA BB rT BC BD C1 C2 BF BG =
  aa (.b (fc ⟨st,el,en,at',qu,pa,su,es,da,nm⟩ ⟨ea,BA,BB,rT,BC,BD,su,es,BF,BG⟩ && gA su es (at' == 2))):=by
 apply TL
 simp only [LV,fc,Bool.and_true,cC,iv,kC,j4,kV,jO,Option.bind_some,b9,cy,ba,s41,b9]
theorem Xd:Hi (a7 (C mx) Tryz.prog 30 fJ) st el en at' qu pa su es da nm ea BA BB rT BC BD C1 C2 BF BG =
  aa (.b (fc ⟨st,el,en,at',qu,pa,su,es,da,nm⟩ ⟨ea,BA,BB,rT,BC,BD,C1,C2,BF,BG⟩ && (el != 0) && pre nm (nameOf el) && gA su es (el == 3))):=by
 apply WT
 simp only [Ri,fc,Bool.and_true,cC,iv,kC,j4,kV,jO,Option.bind_some,b9,cy,ba,s41,s43,Y9,b9]
theorem Xe:Hh (a7 (C mx) Tryz.prog 30 fJ) st el en at' qu pa su es da nm ea BA BB rT BC BD C1 C2 BF BG =
  aa (.b (fc ⟨st,el,en,at',qu,pa,su,es,da,nm⟩ ⟨ea,BA,BB,rT,BC,BD,if (el == 3 || el == 4)=aj then su else C1,if (el == 3 || el == 4)=aj then es else C2,BF,BG⟩ && (el != 0) && pre nm (nameOf el) && gA su es (el == 3))):=by
 apply WS
 simp only [Rh,fc,Bool.and_true,cC,iv,kC,j4,kV,jO,Option.bind_some,b9,cy,ba,Xd,ba]
 split <;> rfl
theorem s30:aq (C mx) Tryz.prog 30 [cx st el en at' qu pa su es da nm] =
  aa (.b (fc ⟨st,el,en,at',qu,pa,su,es,da,nm⟩ ⟨st,el,af,0,0,0,if (el == 3 || el == 4)=aj then su else 0,if (el == 3 || el == 4)=aj then es else af,0,if (st == 19)=aj then nm else []⟩ && (el != 0) && pre nm (nameOf el) && gA su es (el == 3))):=by
 apply c30
 simp only [X30,fc,Bool.and_true,cC,iv,kC,j4,kV,jO,Option.bind_some,b9,cy,ba,Xe,ba]
 split <;> rfl
theorem s29 (h:nm.length < 9223372036854775808):aq (C mx) Tryz.prog 29 [cx st el en at' qu pa su es da nm,cx ea BA BB rT BC BD C1 C2 BF BG] =
  aa (.b (ui ⟨st,el,en,at',qu,pa,su,es,da,nm⟩ ⟨ea,BA,BB,rT,BC,BD,C1,C2,BF,BG⟩)):=by
 apply c29
 have e2:aq (C mx) Tryz.prog 28 [.s nm,.int 16]=aa (.b (small nm 16)):=s28 nm 16 h
 simp only [X29,fc,Bool.and_true,cC,iv,kC,j4,kV,jO,Option.bind_some,b9,cy,ba,TU,TT,e2,ui,aO]
 cases h1:(qu != 0 && qu != 34 && qu != 39) <;> cases h2:(at' == 1) <;> cases h3:(pa == 1) <;> cases h4:(at' == 2) <;> cases h5:(at' == 3) <;> simp
end two
theorem TV:yy (a7 (C mx) Tryz.prog 17 bX) st el en at' qu pa su es da nm st el en 0 0 0 0 af 0 [] =
  aa (.b (fc ⟨st,el,en,at',qu,pa,su,es,da,nm⟩ ⟨st,el,en,0,0,0,0,af,0,[]⟩)):=by
 apply Tu
 simp only [LL,fc,Bool.and_true,cC,iv,kC,j4,kV,jO,Option.bind_some,b9,cy,ba,Option.bind_some]
theorem TW (h:nm.length < 9223372036854775808):BP (a7 (C mx) Tryz.prog 17 bX) st el en at' qu pa su es da nm st el en 0 0 0 0 af 0 [] =
  aa (.b (fc ⟨st,el,en,at',qu,pa,su,es,da,nm⟩ ⟨st,el,en,0,0,0,0,af,0,nm⟩ && small nm 32)):=by
 apply Tx
 have e2:aq (C mx) Tryz.prog 28 [.s nm,.int 32]=aa (.b (small nm 32)):=s28 nm 32 h
 simp only [LN,fc,Bool.and_true,cC,iv,kC,j4,kV,jO,Option.bind_some,b9,cy,ba,e2,b9]
theorem TX:yz (a7 (C mx) Tryz.prog 17 bX) st el en at' qu pa su es da nm =
  aa (.b (fc ⟨st,el,en,at',qu,pa,su,es,da,nm⟩ ⟨st,el,af,0,0,0,if (el == 3 || el == 4)=aj then su else 0,if (el == 3 || el == 4)=aj then es else af,0,if (st == 19)=aj then nm else []⟩ && (el != 0) && pre nm (nameOf el) && gA su es (el == 3))):=by
 apply TI
 simp only [LP,fc,Bool.and_true,cC,iv,kC,j4,kV,jO,Option.bind_some,b9,cy,ba,s30,Option.bind_some]
theorem TY:Fp (a7 (C mx) Tryz.prog 17 bX) st el en at' qu pa su es da nm st 0 af 0 0 0 0 af 0 [] =
  aa (.b (fc ⟨st,el,en,at',qu,pa,su,es,da,nm⟩ ⟨st,0,af,0,0,0,0,af,0,[]⟩)):=by
 apply TJ
 simp only [LQ,fc,Bool.and_true,cC,iv,kC,j4,kV,jO,Option.bind_some,b9,cy,ba,Option.bind_some]
theorem TZ (h:nm.length < 9223372036854775808):Fo (a7 (C mx) Tryz.prog 17 bX) st st el en at' qu pa su es da nm st 0 af 0 0 0 0 af 0 []
  st el en 0 0 0 0 af 0 [] =
  aa (.b (if (st == 7)=aj then fc ⟨st,el,en,at',qu,pa,su,es,da,nm⟩ ⟨st,el,en,at',0,0,0,af,0,[]⟩
   else if (st == 8)=aj then ui ⟨st,el,en,at',qu,pa,su,es,da,nm⟩ ⟨st,el,en,0,0,0,0,af,0,[]⟩
   else if (st == 15)=aj then fc ⟨st,el,en,at',qu,pa,su,es,da,nm⟩ ⟨st,0,af,0,0,0,0,af,da,[]⟩ && decide (da≤2)
   else if (st == 17 || st == 18 || st == 19)=aj then (fc ⟨st,el,en,at',qu,pa,su,es,da,nm⟩ ⟨st,el,af,0,0,0,if (el == 3 || el == 4)=aj then su else 0,if (el == 3 || el == 4)=aj then es else af,0,if (st == 19)=aj then nm else []⟩ && (el != 0) && pre nm (nameOf el) && gA su es (el == 3))
   else fc ⟨st,el,en,at',qu,pa,su,es,da,nm⟩ ⟨st,0,af,0,0,0,0,af,0,[]⟩)):=by
 apply Tz
 simp only [LO,fc,Bool.and_true,cC,iv,kC,j4,kV,jO,Option.bind_some,b9,cy,ba,s29 (h:=h),TX,TY,aO]
 cases h1:(st == 7) <;> cases h2:(st == 8) <;> cases h3:(st == 15) <;> cases h4:(st == 17) <;> cases h5:(st == 18) <;> cases h6:(st == 19) <;> rfl
theorem T1 (h:nm.length < 9223372036854775808):Fm (a7 (C mx) Tryz.prog 17 bX) st st el en at' qu pa su es da nm st 0 af 0 0 0 0 af 0 []
  st el en 0 0 0 0 af 0 [] =
  aa (.b (if (st == 5 || st == 6)=aj then fc ⟨st,el,en,at',qu,pa,su,es,da,nm⟩ ⟨st,el,en,0,0,0,0,af,0,nm⟩ && small nm 32
   else if (st == 7)=aj then fc ⟨st,el,en,at',qu,pa,su,es,da,nm⟩ ⟨st,el,en,at',0,0,0,af,0,[]⟩
   else if (st == 8)=aj then ui ⟨st,el,en,at',qu,pa,su,es,da,nm⟩ ⟨st,el,en,0,0,0,0,af,0,[]⟩
   else if (st == 15)=aj then fc ⟨st,el,en,at',qu,pa,su,es,da,nm⟩ ⟨st,0,af,0,0,0,0,af,da,[]⟩ && decide (da≤2)
   else if (st == 17 || st == 18 || st == 19)=aj then (fc ⟨st,el,en,at',qu,pa,su,es,da,nm⟩ ⟨st,el,af,0,0,0,if (el == 3 || el == 4)=aj then su else 0,if (el == 3 || el == 4)=aj then es else af,0,if (st == 19)=aj then nm else []⟩ && (el != 0) && pre nm (nameOf el) && gA su es (el == 3))
   else fc ⟨st,el,en,at',qu,pa,su,es,da,nm⟩ ⟨st,0,af,0,0,0,0,af,0,[]⟩)):=by
 apply Tv
 simp only [LM,fc,Bool.and_true,cC,iv,kC,j4,kV,jO,Option.bind_some,b9,cy,ba,TW (h:=h),TZ (h:=h),aO]
 cases h1:(st == 5) <;> cases h2:(st == 6) <;> rfl
theorem aax (h:nm.length < 9223372036854775808):aq (C mx) Tryz.prog 17 [cx st el en at' qu pa su es da nm]=aa (.b (DR ⟨st,el,en,at',qu,pa,su,es,da,nm⟩)):=by
 apply c17
 have e1:aq (C mx) Tryz.prog 28 [.s nm,.int 32]=aa (.b (small nm 32)):=s28 nm 32 h
 simp only [X17,Bool.and_true,cC,iv,kC,j4,kV,jO]
 simp only [Option.bind_some,b9,cy,ba,e1]
 rw [T1 (h:=h)]
 simp only [TV]
 unfold DR
 dsimp only
 cases h0:(decide (20 < st) || decide (4 < el) || decide (4 < at') || decide (5 < pa) || decide (6 < su) || en && el != 0) with
 | true=>rfl
 | false=>cases h2:(st == 3) <;> cases h3:(st == 4) <;> cases h4:(st == 9) <;> cases h5:(st == 10) <;> rfl
end
section
variable (st el:ae) (en:ay) (at' qu pa su:ae) (es:ay) (da:ae) (nm:ai ae)
theorem s17 (h:nm.length < 9223372036854775808):aq (C mx) Tryz.prog 17 [cx st el en at' qu pa su es da nm]=aa (.b (form ⟨st,el,en,at',qu,pa,su,es,da,nm⟩)):=by
 rw [aax (h:=h),G9]
theorem s50:aq (C mx) Tryz.prog 50 [cx st el en at' qu pa su es da nm]=aa (.u8 (hole ⟨st,el,en,at',qu,pa,su,es,da,nm⟩)):=by
 apply c50
 simp only [X50,cC,iv,Option.bind_some,b9,cy,ba,s63]
 unfold hole
 dsimp only
 generalize ((su == 1 || su == 2) && !es)=q
 cases h0:(st == 0) <;> cases Xf:(st == 17) <;> cases h8:(st == 8) <;> cases q <;> simp <;> grind
theorem f55:qB (a7 (C mx) Tryz.prog 55 iw)=aa (.int 0):=by
 apply TN
 rfl
theorem s55:aq (C mx) Tryz.prog 55 [cx st el en at' qu pa su es da nm]=aa (.int ((hole ⟨st,el,en,at',qu,pa,su,es,da,nm⟩).toNat:aB)):=by
 apply c55
 simp only [X55,cC,iv,Option.bind_some,b9,cy,ba,f55,ny]
 simp only [fN _ _ (show 0 < 256 by decide),fN _ _ (show 17 < 256 by decide),fN _ _ (show 8 < 256 by decide)]
 unfold hole
 dsimp only
 cases h0:(st == 0) <;> cases Xf:(st == 17) <;> cases h8:(st == 8) <;> cases hq:((su == 1 || su == 2) && !es) <;> simp <;> (try (repeat' split) <;> first | rfl | simp_all | grind)
section
variable (ea BA:ae) (BB:ay) (rT BC BD C1:ae) (C2:ay) (BF:ae) (BG:ai ae)
theorem f51:Hk (a7 (C mx) Tryz.prog 51 iy) st el en at' qu pa su es da nm ea BA BB rT BC BD C1 C2 BF BG=aa (cx st el en at' qu pa su es da nm):=by
 apply WW
 rfl
theorem f56:Hl (a7 (C mx) Tryz.prog 56 iq) st el en at' qu pa su es da nm ea BA BB rT BC BD C1 C2 BF BG=aa (cx st el en at' qu pa su es da nm):=by
 apply WY
 rfl
end
theorem s51:aq (C mx) Tryz.prog 51 [cx st el en at' qu pa su es da nm]=aa (after ⟨st,el,en,at',qu,pa,su,es,da,nm⟩).av:=by
 apply c51
 simp only [X51,s50,Option.bind_some,hZ,ba,f51,after]
 split
 ·rfl
 ·split <;> rfl
theorem s56:aq (C mx) Tryz.prog 56 [cx st el en at' qu pa su es da nm]=aa (after ⟨st,el,en,at',qu,pa,su,es,da,nm⟩).av:=by
 apply c56
 simp only [X56,s55,Option.bind_some,cX,ba,f56,after]
 simp only [fN _ _ (show 0 < 256 by decide),fN _ _ (show 4 < 256 by decide)]
 split
 ·rfl
 ·split <;> rfl
theorem aay:aq (C mx) Tryz.prog 140 [cx st el en at' qu pa su es da nm]=aa (.b (rU st el at')):=by
 apply aaw
 have e1:yB (a7 (C mx) Tryz.prog 140 fo) st el en at' qu pa su es da nm=aa (.b (el == 3 || el == 4)):=by
  apply TR
  simp only [L0,cC,cy,Option.bind_some]
 have e2:Fv (a7 (C mx) Tryz.prog 140 fo)=aa (.b af):=by
  apply TS
  rfl
 simp only [Xc,cC,Option.bind_some,cy,ba,e1,e2,rU]
 rcases uh st with h | h | h | h | h | h | h | h | h | h | h | h | h | h | h | h | h | h | h | h | h | h <;> first | (subst h;rfl) | (subst h;simp;done) | skip
 obtain ⟨-,-,-,-,-,-,-,-,h8,-,-,-,-,-,-,-,-,Xf,WG,NZ⟩:=nlt st h
 have h2:¬ st≤19:=by
  have:=UInt8.lt_iff_toNat_lt.1 h
  rw [bq];simp at this ⊢;omega
 simp [h8,Xf,WG,NZ,h2]
end
section
variable (st el:ae) (en:ay) (at' qu pa su:ae) (es:ay) (da:ae) (nm:ai ae)
end
theorem aaz (nm:ai ae):aq (C mx) Tryz.prog 120 [.s nm]=aa (.u8 (uY nm)):=by
 apply aas
 simp only [Xa,ba,uY]
 split
 ·rfl
 ·split
  ·rfl
  ·split
   ·rfl
   ·split <;> rfl
theorem aaA (nm:ai ae):aq (C mx) Tryz.prog 102 [.s nm]=aa (.int ((uY nm).toNat:aB)):=by
 apply aar
 simp only [W7]
 apply yA
 show a8 (.b ([116,101,120,116,97,114,101,97] == nm)) (aa (.int 1)) (s7 _ _ _ 2)=_
 rw [ba]
 cases h1:([116,101,120,116,97,114,101,97] == nm) with
 | true=>rw [← bD h1];rfl
 | false =>
 rw [aI (by simp)]
 apply yA
 show a8 (.b ([116,105,116,108,101] == nm)) (aa (.int 2)) (s7 _ _ _ 3)=_
 rw [ba]
 cases h2:([116,105,116,108,101] == nm) with
 | true=>rw [← bD h2];rfl
 | false =>
 rw [aI (by simp)]
 apply yA
 show a8 (.b ([115,99,114,105,112,116] == nm)) (aa (.int 3)) (s7 _ _ _ 4)=_
 rw [ba]
 cases h3:([115,99,114,105,112,116] == nm) with
 | true=>rw [← bD h3];rfl
 | false =>
 rw [aI (by simp)]
 apply yA
 show a8 (.b ([115,116,121,108,101] == nm)) (aa (.int 4)) (s7 _ _ _ 5)=_
 rw [ba]
 cases h4:([115,116,121,108,101] == nm) with
 | true=>rw [← bD h4];rfl
 | false =>
 rw [aI (by simp)]
 apply yA
 simp only [uY,Jj h1,Jj h2,Jj h3,Jj h4]
 rfl
theorem PB:kN (a7 (C mx) Tryz.prog 138 di)=aa (.u8 1):=by apply Px;rfl
theorem PC:pd (a7 (C mx) Tryz.prog 138 di)=aa (.u8 4):=by apply Pz;rfl
theorem PD (nm:ai ae):BW (a7 (C mx) Tryz.prog 138 di) nm=aa (.u8 (if decide (2 < nm.length) && pre [111,110] nm then 2 else 0)):=by
 apply PA
 simp only [Hp,Y9,Option.bind_some,b9,ba]
 have:decide ((nm.length:aB) > 2)=decide (2 < nm.length):=by rw [decide_eq_decide];omega
 rw [this]
 split <;> rfl
theorem PE (nm:ai ae):BV (a7 (C mx) Tryz.prog 138 di) nm nm=aa (.u8 (if nm == [115,116,121,108,101] then 3 else if E9.contains nm then 4 else if decide (2 < nm.length) && pre [111,110] nm then 2 else 0)):=by
 apply Py
 simp only [Ho,PC,PD,ba,E9,fw,fA,Bool.or_false]
 cases nm == [115,116,121,108,101] <;> cases nm == [115,114,99,100,111,99] <;> cases nm == [115,114,99,115,101,116] <;> cases nm == [105,109,97,103,101,115,114,99,115,101,116] <;> cases nm == [99,111,110,116,101,110,116] <;> cases nm == [104,116,116,112,45,101,113,117,105,118] <;> rfl
theorem aaB (nm:ai ae):aq (C mx) Tryz.prog 138 [.s nm]=aa (.u8 (nz nm)):=by
 apply aav
 simp only [Xb,PB,PE,ba,nz,urls,fw,fA,Bool.or_false]
 generalize (if (nm == [115,116,121,108,101])=aj then (3:ae) else if E9.contains nm=aj then 4 else if (decide (2 < nm.length) && pre [111,110] nm)=aj then 2 else 0)=z
 cases nm == [97,99,116,105,111,110] with
 | true=>rfl
 | false =>
 cases nm == [98,97,99,107,103,114,111,117,110,100] with
 | true=>rfl
 | false =>
 cases nm == [99,105,116,101] with
 | true=>rfl
 | false =>
 cases nm == [100,97,116,97] with
 | true=>rfl
 | false =>
 cases nm == [102,111,114,109,97,99,116,105,111,110] with
 | true=>rfl
 | false =>
 cases nm == [104,114,101,102] with
 | true=>rfl
 | false =>
 cases nm == [108,111,110,103,100,101,115,99] with
 | true=>rfl
 | false =>
 cases nm == [109,97,110,105,102,101,115,116] with
 | true=>rfl
 | false =>
 cases nm == [112,111,115,116,101,114] with
 | true=>rfl
 | false =>
 cases nm == [115,114,99] with
 | true=>rfl
 | false =>
 cases nm == [120,108,105,110,107,58,104,114,101,102] <;> rfl
theorem L1 (nm:ai ae):∀ (R P:ai (ai ae)),(P ++ R).length < 100→BU (a7 (C mx) Tryz.prog 130 fu) nm ((P ++ R).map .s) (P.length:aB)=aa (.int (if R.contains nm then 4 else if nm == [115,116,121,108,101] then 3 else if decide (2 < nm.length) && pre [111,110] nm then 2 else 0))
 | [],P,h=>by
  apply LZ
  have e1:decide ((P.length:aB) < (((P ++ []).map AV.s).length:aB))=af:=by simp
  simp only [Fu,e1,ba,Bool.false_eq_true,aH,fA]
  cases h3:(nm == [115,116,121,108,101]) with
  | true=>rfl
  | false =>
   rw [aI (by simp),aI (by simp)]
   match nm with
   | []=>rfl
   | [a]=>rfl
   | [a,b]=>rfl
   | a :: b :: c :: r =>
    have e2:decide (((a :: b :: c :: r).length:aB) ≥ 3)=aj:=by simp;omega
    have i0:jU (.s (a :: b :: c :: r)) (.int 0)=aa (.u8 a):=lM (i:=0) (l:=a :: b :: c :: r) (by simp)
    have i1:jU (.s (a :: b :: c :: r)) (.int 1)=aa (.u8 b):=lM (i:=1) (l:=a :: b :: c :: r) (by simp)
    have e3:decide (2 < (a :: b :: c :: r).length)=aj:=by simp
    have e4:pre [111,110] (a :: b :: c :: r)=(a == 111 && b == 110):=by simp [pre]
    simp only [e2,i0,i1,e3,e4,hZ,Option.bind_some,b9,Bool.true_and,ba]
    split <;> rfl
 | c :: R,P,h=>by
  apply LZ
  have e1:decide ((P.length:aB) < (((P ++ c :: R).map AV.s).length:aB))=aj:=by simp;omega
  simp only [Fu,e1,ba,aO,Rb,K9,K1,ud,Option.bind_some,fw]
  cases hc:(c == nm) with
  | true=>rw [aJ rfl,bD hc];simp
  | false =>
   rw [aI (by simp),Jj hc,eu]
   have h':P.length < 100:=by simp at h;omega
   rw [gh (by omega) (by omega),show ((P.length:aB)+1)=((P ++ [c]).length:aB) by simp,show P ++ c :: R=(P ++ [c]) ++ R by simp]
   exact L1 nm R (P ++ [c]) (by simpa using h)
theorem L3 (nm:ai ae):∀ (R P:ai (ai ae)),(P ++ R).length < 100→BS (a7 (C mx) Tryz.prog 130 fu) nm ((P ++ R).map .s) (P.length:aB)=aa (.int (if R.contains nm then 1 else if E9.contains nm then 4 else if nm == [115,116,121,108,101] then 3 else if decide (2 < nm.length) && pre [111,110] nm then 2 else 0))
 | [],P,h=>by
  apply LY
  have e1:decide ((P.length:aB) < (((P ++ []).map AV.s).length:aB))=af:=by simp
  simp only [Fq,e1,ba,Bool.false_eq_true,aH,fA]
  exact L1 nm E9 [] (by decide)
 | c :: R,P,h=>by
  apply LY
  have e1:decide ((P.length:aB) < (((P ++ c :: R).map AV.s).length:aB))=aj:=by simp;omega
  simp only [Fq,e1,ba,aO,Rb,K9,K1,ud,Option.bind_some,fw]
  cases hc:(c == nm) with
  | true=>rw [aJ rfl,bD hc];simp
  | false =>
   rw [aI (by simp),Jj hc,eu]
   have h':P.length < 100:=by simp at h;omega
   rw [gh (by omega) (by omega),show ((P.length:aB)+1)=((P ++ [c]).length:aB) by simp,show P ++ c :: R=(P ++ [c]) ++ R by simp]
   exact L3 nm R (P ++ [c]) (by simpa using h)
theorem aaC (nm:ai ae):aq (C mx) Tryz.prog 130 [.s nm]=aa (.int ((nz nm).toNat:aB)):=by
 apply aau
 have h:=L3 (mx:=mx) nm urls [] (by decide)
 refine Eq.trans h ?_
 unfold nz
 cases h1:urls.contains nm with
 | true=>rfl
 | false =>
  cases h3:(nm == [115,116,121,108,101]) with
  | true=>rw [bD h3];rfl
  | false=>cases E9.contains nm <;> cases (decide (2 < nm.length) && pre [111,110] nm) <;> rfl
noncomputable def vp:Code:=(Tryz.f75.body).getD .skip
noncomputable def D9 (run:RunT) (a:ae) (b:ay) (d e f g i j k l m n:AV) (o p:ae) (q:ay) (s t u w:ae) (x:ay) (y:ae) (z:ai ae):ak AV :=
 run ((eV 3 vp []).getD []) (St.fj [(1,.cell (.val (.u8 a))),(2,.cell (.val (.b b))),(3,.cell (.ptr 3 0)),(6,.cell (.ptr 6 0))] [(3,aa (cV d e f g i j k l m n)),(6,aa (cT o p q s t u w x y z))])
noncomputable def BX (run:RunT) (a b d e f g i j k l:AV) (m n:ae) (o:ay) (p q s t:ae) (u:ay) (w:ae) (x:ai ae):ak AV :=
 run ((eV 32 vp []).getD []) (St.fj [(3,.cell (.ptr 3 0)),(6,.cell (.ptr 6 0))] [(3,aa (cV a b d e f g i j k l)),(6,aa (cT m n o p q s t u w x))])
noncomputable def pg (run:RunT) (a:ae) (b:ay) (d e f g i j k l m n:AV) (o p:ae) (q:ay) (s t u w:ae) (x:ay) (y:ae) (z:ai ae):ak AV :=
 run ((eV 22 vp []).getD []) (St.fj [(1,.cell (.val (.u8 a))),(2,.cell (.val (.b b))),(3,.cell (.ptr 3 0)),(6,.cell (.ptr 6 0))] [(3,aa (cV d e f g i j k l m n)),(6,aa (cT o p q s t u w x y z))])
noncomputable def Fw (run:RunT) (a:ae) (b:ay) (d e f g i j k l m n o:AV) (p q:ae) (s:ay) (t u w x:ae) (y:ay) (z:ae) (A:ai ae):ak AV :=
 run ((eV 26 vp []).getD []) (St.fj [(1,.cell (.val (.u8 a))),(2,.cell (.val (.b b))),(3,.cell (.ptr 3 0)),(6,.cell (.ptr 6 0)),(16,.cell (.val d))] [(3,aa (cV e f g i j k l m n o)),(6,aa (cT p q s t u w x y z A))])
noncomputable def yC (run:RunT) (a:ae) (b:ay) (d e f g i j k l m n:AV) (o p:ae) (q:ay) (s t u w:ae) (x:ay) (y:ae) (z:ai ae):ak AV :=
 run ((eV 31 vp []).getD []) (St.fj [(1,.cell (.val (.u8 a))),(2,.cell (.val (.b b))),(3,.cell (.ptr 3 0)),(6,.cell (.ptr 6 0))] [(3,aa (cV d e f g i j k l m n)),(6,aa (cT o p q s t u w x y z))])
noncomputable def L4 (run:RunT) (a:ae) (b d e f g i j k l m:AV) (n o:ae) (p:ay) (q s t u:ae) (w:ay) (x:ae) (y:ai ae):ak AV :=
 run ((eV 4 vp []).getD []) (St.fj [(1,.cell (.val (.u8 a))),(3,.cell (.ptr 3 0)),(6,.cell (.ptr 6 0))] [(3,aa (cV b d e f g i j k l m)),(6,aa (cT n o p q s t u w x y))])
noncomputable def X75 (a b:ae) (d:ay) (e f g i:ae) (j:ay) (k:ae) (l:ai ae) (m:ae) (n:ay) (c:bj) (r:RunT):ak AV :=
 (c 17 [.ag [.u8 a,.u8 b,.b d,.u8 e,.u8 f,.u8 g,.u8 i,.b j,.u8 k,.s l]]).bind fun o=>(unop .not o).bind fun p=>a8 p
 (aa (.ag [.u8 20,.u8 0,.b af,.u8 0,.u8 0,.u8 0,.u8 0,.b af,.u8 0,.s []]))
 (D9 r m n (.u8 a) (.u8 b) (.b d) (.u8 e) (.u8 f) (.u8 g) (.u8 i) (.b j) (.u8 k) (.s l) 0 0 af 0 0 0 0 af 0 [])
theorem zN (a b d e f g i j k l m n) {r:AV} (h:X75 a b d e f g i j k l m n (aq (C mx) Tryz.prog) (a7 (C mx) Tryz.prog 75 Tryz.f75)=aa r):aq (C mx) Tryz.prog 75 [.ag [.u8 a,.u8 b,.b d,.u8 e,.u8 f,.u8 g,.u8 i,.b j,.u8 k,.s l],.u8 m,.b n]=aa r :=
 bc (fun _ _=>by kernel_rfl) h
noncomputable def Rk (a:ae) (b:ay) (d e f g i j k l m n:AV) (o p:ae) (q:ay) (s t u w:ae) (x:ay) (y:ae) (z:ai ae) (c:bj) (r:RunT):ak AV :=
 (cf .eql d (.u8 0)).bind fun A=>a8 A
 (a8 (.b (cD a 60))
 (BX r (.u8 1) e f g i j k l m n o p q s t u w x y z)
 (BX r d e f g i j k l m n o p q s t u w x y z))
 ((cf .eql d (.u8 1)).bind fun B=>a8 B
 ((c 92 [.u8 a]).bind fun D=>(cA D 0).bind fun E=>(cA D 1).bind fun G=>(AV.cm 10 E).bind fun H=>a8 G
 (aa (.ag [gt H 0,gt H 1,gt H 2,gt H 3,gt H 4,gt H 5,gt H 6,gt H 7,gt H 8,gt H 9]))
 (D9 r a b (.u8 0) e f g i j k l m n o p q s t u w x y z))
 ((cf .eql d (.u8 2)).bind fun I=>a8 I
 ((c 93 [.u8 a]).bind fun J=>(AV.cm 10 J).bind fun L=>aa (.ag [gt L 0,gt L 1,gt L 2,gt L 3,gt L 4,gt L 5,gt L 6,gt L 7,gt L 8,gt L 9]))
 ((cf .eql d (.u8 3)).bind fun M=>a8 M
 (pg r a b d e f g i j k l m n o p q s t u w x y z)
 ((cf .eql d (.u8 4)).bind fun N=>a8 N
 (pg r a b d e f g i j k l m n o p q s t u w x y z)
 ((cf .eql d (.u8 5)).bind fun O=>a8 O
 (pg r a b d e f g i j k l m n o p q s t u w x y z)
 ((cf .eql d (.u8 6)).bind fun P=>a8 P
 (pg r a b d e f g i j k l m n o p q s t u w x y z)
 ((cf .eql d (.u8 7)).bind fun Q=>a8 Q
 (pg r a b d e f g i j k l m n o p q s t u w x y z)
 ((cf .eql d (.u8 9)).bind fun R=>a8 R
 (pg r a b d e f g i j k l m n o p q s t u w x y z)
 ((cf .eql d (.u8 10)).bind fun T=>a8 T
 (pg r a b d e f g i j k l m n o p q s t u w x y z)
 (Fw r a b d d e f g i j k l m n o p q s t u w x y z))))))))))
noncomputable def T2 (a b d e f g i j k l:AV) (m n:ae) (o:ay) (p q s t:ae) (u:ay) (w:ae) (x:ai ae) (c:bj) (r:RunT):ak AV :=
 aa (.ag [a,b,d,e,f,g,i,j,k,l])
noncomputable def L5 (a:ae) (b:ay) (d e f g i j k l m n:AV) (o p:ae) (q:ay) (s t u w:ae) (x:ay) (y:ae) (z:ai ae) (c:bj) (r:RunT):ak AV :=
 (c 94 [.ag [d,e,f,g,i,j,k,l,m,n],.u8 a]).bind fun A=>(cA A 0).bind fun B=>(cA A 1).bind fun D=>(AV.cm 10 B).bind fun E=>a8 D
 (D9 r a b (gt E 0) (gt E 1) (gt E 2) (gt E 3) (gt E 4) (gt E 5) (gt E 6) (gt E 7) (gt E 8) (gt E 9) o p q s t u w x y z)
 (aa (.ag [gt E 0,gt E 1,gt E 2,gt E 3,gt E 4,gt E 5,gt E 6,gt E 7,gt E 8,gt E 9]))
noncomputable def L6 (a:ae) (b:ay) (d e f g i j k l m n o:AV) (p q:ae) (s:ay) (t u w x:ae) (y:ay) (z:ae) (A:ai ae) (c:bj) (r:RunT):ak AV :=
 (cf .eql d (.u8 8)).bind fun B=>a8 B
 ((c 95 [.ag [e,f,g,i,j,k,l,m,n,o],.u8 a]).bind fun D=>(AV.cm 10 D).bind fun E=>aa (.ag [gt E 0,gt E 1,gt E 2,gt E 3,gt E 4,gt E 5,gt E 6,gt E 7,gt E 8,gt E 9]))
 ((cf .eql d (.u8 17)).bind fun G=>a8 G
 (yC r a b e f g i j k l m n o p q s t u w x y z A)
 ((cf .eql d (.u8 18)).bind fun H=>a8 H
 (yC r a b e f g i j k l m n o p q s t u w x y z A)
 ((cf .eql d (.u8 19)).bind fun I=>a8 I
 (yC r a b e f g i j k l m n o p q s t u w x y z A)
 (L4 r a e f g i j k l m n o p q s t u w x y z A))))
noncomputable def L8 (a:ae) (b:ay) (d e f g i j k l m n:AV) (o p:ae) (q:ay) (s t u w:ae) (x:ay) (y:ae) (z:ai ae) (c:bj) (r:RunT):ak AV :=
 (c 96 [.ag [d,e,f,g,i,j,k,l,m,n],.u8 a,.b b]).bind fun A=>(AV.cm 10 A).bind fun B=>aa (.ag [gt B 0,gt B 1,gt B 2,gt B 3,gt B 4,gt B 5,gt B 6,gt B 7,gt B 8,gt B 9])
noncomputable def Rl (a:ae) (b d e f g i j k l m:AV) (n o:ae) (p:ay) (q s t u:ae) (w:ay) (x:ae) (y:ai ae) (c:bj) (r:RunT):ak AV :=
 (c 97 [.ag [b,d,e,f,g,i,j,k,l,m],.u8 a]).bind fun z=>(AV.cm 10 z).bind fun A=>aa (.ag [gt A 0,gt A 1,gt A 2,gt A 3,gt A 4,gt A 5,gt A 6,gt A 7,gt A 8,gt A 9])
theorem Xg (a b d e f g i j k l m n o p q s t u w x y z) {r:AV} (h:Rk a b d e f g i j k l m n o p q s t u w x y z (aq (C mx) Tryz.prog) (a7 (C mx) Tryz.prog 75 Tryz.f75)=aa r):D9 (a7 (C mx) Tryz.prog 75 Tryz.f75) a b d e f g i j k l m n o p q s t u w x y z=aa r :=
 bh (fun _ _=>by kernel_rfl) h
theorem T3 (a b d e f g i j k l m n o p q s t u w x) {r:AV} (h:T2 a b d e f g i j k l m n o p q s t u w x (aq (C mx) Tryz.prog) (a7 (C mx) Tryz.prog 75 Tryz.f75)=aa r):BX (a7 (C mx) Tryz.prog 75 Tryz.f75) a b d e f g i j k l m n o p q s t u w x=aa r :=
 bh (fun _ _=>by kernel_rfl) h
theorem T4 (a b d e f g i j k l m n o p q s t u w x y z) {r:AV} (h:L5 a b d e f g i j k l m n o p q s t u w x y z (aq (C mx) Tryz.prog) (a7 (C mx) Tryz.prog 75 Tryz.f75)=aa r):pg (a7 (C mx) Tryz.prog 75 Tryz.f75) a b d e f g i j k l m n o p q s t u w x y z=aa r :=
 bh (fun _ _=>by kernel_rfl) h
theorem T5 (a b d e f g i j k l m n o p q s t u w x y z A) {r:AV} (h:L6 a b d e f g i j k l m n o p q s t u w x y z A (aq (C mx) Tryz.prog) (a7 (C mx) Tryz.prog 75 Tryz.f75)=aa r):Fw (a7 (C mx) Tryz.prog 75 Tryz.f75) a b d e f g i j k l m n o p q s t u w x y z A=aa r :=
 bh (fun _ _=>by kernel_rfl) h
theorem T6 (a b d e f g i j k l m n o p q s t u w x y z) {r:AV} (h:L8 a b d e f g i j k l m n o p q s t u w x y z (aq (C mx) Tryz.prog) (a7 (C mx) Tryz.prog 75 Tryz.f75)=aa r):yC (a7 (C mx) Tryz.prog 75 Tryz.f75) a b d e f g i j k l m n o p q s t u w x y z=aa r :=
 bh (fun _ _=>by kernel_rfl) h
theorem Xh (a b d e f g i j k l m n o p q s t u w x y) {r:AV} (h:Rl a b d e f g i j k l m n o p q s t u w x y (aq (C mx) Tryz.prog) (a7 (C mx) Tryz.prog 75 Tryz.f75)=aa r):L4 (a7 (C mx) Tryz.prog 75 Tryz.f75) a b d e f g i j k l m n o p q s t u w x y=aa r :=
 bh (fun _ _=>by kernel_rfl) h
noncomputable def X78 (a:ai ae) (b:ae) (c:bj) (r:RunT):ak AV :=
 (c 109 [.s a,.u8 b]).bind fun d=>aa d
theorem c78 (a b) {r:AV} (h:X78 a b (aq (C mx) Tryz.prog) (a7 (C mx) Tryz.prog 78 Tryz.f78)=aa r):aq (C mx) Tryz.prog 78 [.s a,.u8 b]=aa r :=
 bc (fun _ _=>by kernel_rfl) h
noncomputable def X92 (a:ae) (c:bj) (r:RunT):ak AV :=
 (c 116 [.u8 a]).bind fun b=>a8 b
 ((c 117 [.u8 a]).bind fun d=>(AV.one d).bind fun e=>(GD (.ro 1 (([e]:ai AV)))).bind fun f=>(AV.one f).bind fun g=>aa (.tu [.ag [.u8 3,.u8 0,.b af,.u8 0,.u8 0,.u8 0,.u8 0,.b af,.u8 0,g],.b aj]))
 (a8 (.b (cD a 47))
 (aa (.tu [.ag [.u8 2,.u8 0,.b af,.u8 0,.u8 0,.u8 0,.u8 0,.b af,.u8 0,.s []],.b aj]))
 (a8 (.b (cD a 33))
 (aa (.tu [.ag [.u8 11,.u8 0,.b af,.u8 0,.u8 0,.u8 0,.u8 0,.b af,.u8 0,.s []],.b aj]))
 (a8 (.b (cD a 63))
 (aa (.tu [.ag [.u8 16,.u8 0,.b af,.u8 0,.u8 0,.u8 0,.u8 0,.b af,.u8 0,.s []],.b aj]))
 (aa (.tu [.ag [.u8 0,.u8 0,.b af,.u8 0,.u8 0,.u8 0,.u8 0,.b af,.u8 0,.s []],.b af])))))
theorem c92 a {r:AV} (h:X92 a (aq (C mx) Tryz.prog) (a7 (C mx) Tryz.prog 92 Tryz.f92)=aa r):aq (C mx) Tryz.prog 92 [.u8 a]=aa r :=
 bc (fun _ _=>by kernel_rfl) h
noncomputable def X93 (a:ae) (c:bj) (r:RunT):ak AV :=
 (c 116 [.u8 a]).bind fun b=>a8 b
 ((c 117 [.u8 a]).bind fun d=>(AV.one d).bind fun e=>(GD (.ro 1 (([e]:ai AV)))).bind fun f=>(AV.one f).bind fun g=>aa (.ag [.u8 3,.u8 0,.b aj,.u8 0,.u8 0,.u8 0,.u8 0,.b af,.u8 0,g]))
 (a8 (.b (cD a 62))
 (aa (.ag [.u8 0,.u8 0,.b af,.u8 0,.u8 0,.u8 0,.u8 0,.b af,.u8 0,.s []]))
 (aa (.ag [.u8 16,.u8 0,.b af,.u8 0,.u8 0,.u8 0,.u8 0,.b af,.u8 0,.s []])))
theorem c93 a {r:AV} (h:X93 a (aq (C mx) Tryz.prog) (a7 (C mx) Tryz.prog 93 Tryz.f93)=aa r):aq (C mx) Tryz.prog 93 [.u8 a]=aa r :=
 bc (fun _ _=>by kernel_rfl) h
noncomputable def Hr (run:RunT) (a:ae) (b:AV) (d:ay) (e f g i:ae) (j:ay) (k:ae) (l:ai ae) (m n:ae) (o:ay) (p q s t:ae) (u:ay) (w:ae) (x:ai ae):ak AV :=
 run ((eV 7 ((jk.body).getD .skip) []).getD []) (St.fj [(2,.cell (.ptr 2 0)),(4,.cell (.ptr 4 0))] [(2,aa [.val (.u8 a),.val b,.val (.b d),.val (.u8 e),.val (.u8 f),.val (.u8 g),.val (.u8 i),.val (.b j),.val (.u8 k),.val (.s l)]),(4,aa (cT m n o p q s t u w x))])
noncomputable def X94 (a b:ae) (d:ay) (e f g i:ae) (j:ay) (k:ae) (l:ai ae) (m:ae) (c:bj) (r:RunT):ak AV :=
 a8 (.b (cD a 3))
 ((c 118 [.u8 m]).bind fun n=>(unop .not n).bind fun o=>(bt o aj (aa (.b (uf m 47))) (.b af)).bind fun p=>(bt p aj (aa (.b (uf m 62))) (.b af)).bind fun q=>a8 q
 ((c 119 [.ag [.u8 a,.u8 b,.b d,.u8 e,.u8 f,.u8 g,.u8 i,.b j,.u8 k,.s l],.u8 m]).bind fun s=>(AV.cm 10 s).bind fun t=>aa (.tu [.ag [gt t 0,gt t 1,gt t 2,gt t 3,gt t 4,gt t 5,gt t 6,gt t 7,gt t 8,gt t 9],.b af]))
 (a8 (.b (!d))
 ((c 120 [.s l]).bind fun u=>(AV.one u).bind fun w=>Hr r a w d e f g i j k l 0 0 af 0 0 0 0 af 0 [])
 (Hr r a (.u8 b) d e f g i j k l 0 0 af 0 0 0 0 af 0 [])))
 (a8 (.b (cD a 9))
 ((c 118 [.u8 m]).bind fun x=>a8 x
 ((c 121 [.ag [.u8 a,.u8 b,.b d,.u8 e,.u8 f,.u8 g,.u8 i,.b j,.u8 k,.s l],.u8 4]).bind fun y=>(AV.cm 10 y).bind fun z=>aa (.tu [.ag [gt z 0,gt z 1,gt z 2,gt z 3,gt z 4,gt z 5,gt z 6,gt z 7,gt z 8,gt z 9],.b af]))
 (a8 (.b (cD m 47))
 ((c 121 [.ag [.u8 a,.u8 b,.b d,.u8 e,.u8 f,.u8 g,.u8 i,.b j,.u8 k,.s l],.u8 10]).bind fun A=>(AV.cm 10 A).bind fun B=>aa (.tu [.ag [gt B 0,gt B 1,gt B 2,gt B 3,gt B 4,gt B 5,gt B 6,gt B 7,gt B 8,gt B 9],.b af]))
 (a8 (.b (cD m 62))
 ((c 122 [.u8 b]).bind fun D=>(AV.cm 10 D).bind fun E=>aa (.tu [.ag [gt E 0,gt E 1,gt E 2,gt E 3,gt E 4,gt E 5,gt E 6,gt E 7,gt E 8,gt E 9],.b af]))
 (aa (.tu [.ag [.u8 20,.u8 0,.b af,.u8 0,.u8 0,.u8 0,.u8 0,.b af,.u8 0,.s []],.b af])))))
 (a8 (.b (cD a 10))
 (a8 (.b (cD m 62))
 ((c 122 [.u8 b]).bind fun G=>(AV.cm 10 G).bind fun H=>aa (.tu [.ag [gt H 0,gt H 1,gt H 2,gt H 3,gt H 4,gt H 5,gt H 6,gt H 7,gt H 8,gt H 9],.b af]))
 ((c 121 [.ag [.u8 a,.u8 b,.b d,.u8 e,.u8 f,.u8 g,.u8 i,.b j,.u8 k,.s l],.u8 4]).bind fun I=>(AV.cm 10 I).bind fun J=>aa (.tu [.ag [gt J 0,gt J 1,gt J 2,gt J 3,gt J 4,gt J 5,gt J 6,gt J 7,gt J 8,gt J 9],.b aj])))
 (a8 (.b (cD a 4))
 ((c 118 [.u8 m]).bind fun L=>a8 L
 (aa (.tu [.ag [.u8 a,.u8 b,.b d,.u8 e,.u8 f,.u8 g,.u8 i,.b j,.u8 k,.s l],.b af]))
 ((bt (.b (cD m 47)) af (aa (.b (cD m 62))) (.b aj)).bind fun M=>a8 M
 ((c 121 [.ag [.u8 a,.u8 b,.b d,.u8 e,.u8 f,.u8 g,.u8 i,.b j,.u8 k,.s l],.u8 9]).bind fun N=>(AV.cm 10 N).bind fun O=>aa (.tu [.ag [gt O 0,gt O 1,gt O 2,gt O 3,gt O 4,gt O 5,gt O 6,gt O 7,gt O 8,gt O 9],.b aj]))
 (a8 (.b (cD m 61))
 (aa (.tu [.ag [.u8 20,.u8 0,.b af,.u8 0,.u8 0,.u8 0,.u8 0,.b af,.u8 0,.s []],.b af]))
 (aa (.tu [.ag [.u8 5,.u8 b,.b d,.u8 e,.u8 f,.u8 g,.u8 i,.b j,.u8 k,.s l],.b aj])))))
 (a8 (.b (cD a 7))
 ((c 123 [.ag [.u8 a,.u8 b,.b d,.u8 e,.u8 f,.u8 g,.u8 i,.b j,.u8 k,.s l],.u8 m]).bind fun P=>(cA P 0).bind fun Q=>(cA P 1).bind fun R=>(AV.cm 10 Q).bind fun T=>aa (.tu [.ag [gt T 0,gt T 1,gt T 2,gt T 3,gt T 4,gt T 5,gt T 6,gt T 7,gt T 8,gt T 9],R]))
 ((c 124 [.ag [.u8 a,.u8 b,.b d,.u8 e,.u8 f,.u8 g,.u8 i,.b j,.u8 k,.s l],.u8 m]).bind fun U=>(cA U 0).bind fun V=>(cA U 1).bind fun W=>(AV.cm 10 V).bind fun Y=>aa (.tu [.ag [gt Y 0,gt Y 1,gt Y 2,gt Y 3,gt Y 4,gt Y 5,gt Y 6,gt Y 7,gt Y 8,gt Y 9],W]))))))
theorem c94 (a b d e f g i j k l m) {r:AV} (h:X94 a b d e f g i j k l m (aq (C mx) Tryz.prog) (a7 (C mx) Tryz.prog 94 jk)=aa r):aq (C mx) Tryz.prog 94 [.ag [.u8 a,.u8 b,.b d,.u8 e,.u8 f,.u8 g,.u8 i,.b j,.u8 k,.s l],.u8 m]=aa r :=
 bc (fun _ _=>by kernel_rfl) h
noncomputable def Rm (a:ae) (b:AV) (d:ay) (e f g i:ae) (j:ay) (k:ae) (l:ai ae) (m n:ae) (o:ay) (p q s t:ae) (u:ay) (w:ae) (x:ai ae) (c:bj) (r:RunT):ak AV :=
 (c 121 [.ag [.u8 a,b,.b d,.u8 e,.u8 f,.u8 g,.u8 i,.b j,.u8 k,.s l],.u8 9]).bind fun y=>(AV.cm 10 y).bind fun z=>aa (.tu [.ag [gt z 0,gt z 1,gt z 2,gt z 3,gt z 4,gt z 5,gt z 6,gt z 7,gt z 8,gt z 9],.b aj])
theorem Xi (a b d e f g i j k l m n o p q s t u w x) {r:AV} (h:Rm a b d e f g i j k l m n o p q s t u w x (aq (C mx) Tryz.prog) (a7 (C mx) Tryz.prog 94 jk)=aa r):Hr (a7 (C mx) Tryz.prog 94 jk) a b d e f g i j k l m n o p q s t u w x=aa r :=
 bh (fun _ _=>by kernel_rfl) h
noncomputable def X95 (a b:ae) (d:ay) (e f g i:ae) (j:ay) (k:ae) (l:ai ae) (m:ae) (c:bj) (r:RunT):ak AV :=
 (bt (.b (!(cD f 0))) aj (aa (.b (cD m f))) (.b af)).bind fun n=>(bt n af ((bt (.b (cD f 0)) aj ((c 118 [.u8 m]).bind fun o=>(bt o af (aa (.b (cD m 62))) (.b aj)).bind fun p=>aa p) (.b af)).bind fun q=>aa q) (.b aj)).bind fun s=>a8 s
 ((c 125 [.ag [.u8 a,.u8 b,.b d,.u8 e,.u8 f,.u8 g,.u8 i,.b j,.u8 k,.s l]]).bind fun t=>(unop .not t).bind fun u=>a8 u
 (aa (.ag [.u8 20,.u8 0,.b af,.u8 0,.u8 0,.u8 0,.u8 0,.b af,.u8 0,.s []]))
 (a8 (.b (!(cD f 0)))
 ((c 121 [.ag [.u8 a,.u8 b,.b d,.u8 e,.u8 f,.u8 g,.u8 i,.b j,.u8 k,.s l],.u8 9]).bind fun w=>(AV.cm 10 w).bind fun x=>aa (.ag [gt x 0,gt x 1,gt x 2,gt x 3,gt x 4,gt x 5,gt x 6,gt x 7,gt x 8,gt x 9]))
 (a8 (.b (cD m 62))
 ((c 122 [.u8 b]).bind fun y=>(AV.cm 10 y).bind fun z=>aa (.ag [gt z 0,gt z 1,gt z 2,gt z 3,gt z 4,gt z 5,gt z 6,gt z 7,gt z 8,gt z 9]))
 ((c 121 [.ag [.u8 a,.u8 b,.b d,.u8 e,.u8 f,.u8 g,.u8 i,.b j,.u8 k,.s l],.u8 4]).bind fun A=>(AV.cm 10 A).bind fun B=>aa (.ag [gt B 0,gt B 1,gt B 2,gt B 3,gt B 4,gt B 5,gt B 6,gt B 7,gt B 8,gt B 9])))))
 ((bt (.b (cD f 0)) aj ((c 126 [.s [34,39,60,61,96],.u8 m]).bind fun D=>(cf .geq D (.int 0)).bind fun E=>aa E) (.b af)).bind fun G=>a8 G
 (aa (.ag [.u8 20,.u8 0,.b af,.u8 0,.u8 0,.u8 0,.u8 0,.b af,.u8 0,.s []]))
 (a8 (.b (cD e 1))
 ((c 127 [.ag [.u8 a,.u8 b,.b d,.u8 e,.u8 f,.u8 g,.u8 i,.b j,.u8 k,.s l],.u8 m]).bind fun H=>(AV.cm 10 H).bind fun I=>aa (.ag [gt I 0,gt I 1,gt I 2,gt I 3,gt I 4,gt I 5,gt I 6,gt I 7,gt I 8,gt I 9]))
 ((bt (.b (cD e 2)) af (aa (.b (cD e 3))) (.b aj)).bind fun J=>a8 J
 (a8 (.b (cD m 38))
 (aa (.ag [.u8 20,.u8 0,.b af,.u8 0,.u8 0,.u8 0,.u8 0,.b af,.u8 0,.s []]))
 ((c 128 [.ag [.u8 a,.u8 b,.b d,.u8 e,.u8 f,.u8 g,.u8 i,.b j,.u8 k,.s l],.u8 m,.b (cD e 2)]).bind fun L=>(AV.cm 10 L).bind fun M=>aa (.ag [gt M 0,gt M 1,gt M 2,gt M 3,gt M 4,gt M 5,gt M 6,gt M 7,gt M 8,gt M 9])))
 (aa (.ag [.u8 a,.u8 b,.b d,.u8 e,.u8 f,.u8 g,.u8 i,.b j,.u8 k,.s l])))))
theorem c95 (a b d e f g i j k l m) {r:AV} (h:X95 a b d e f g i j k l m (aq (C mx) Tryz.prog) (a7 (C mx) Tryz.prog 95 Tryz.f95)=aa r):aq (C mx) Tryz.prog 95 [.ag [.u8 a,.u8 b,.b d,.u8 e,.u8 f,.u8 g,.u8 i,.b j,.u8 k,.s l],.u8 m]=aa r :=
 bc (fun _ _=>by kernel_rfl) h
noncomputable def L9:Code:=(gB.body).getD .skip
noncomputable def BZ (run:RunT) (a:ae) (b:ay) (d e f g i j k l m n:AV) (o p:ae) (q:ay) (s t u w:ae) (x:ay) (y:ae) (z:ai ae):ak AV :=
 run ((eV 17 L9 []).getD []) (St.fj [(1,.cell (.val (.u8 a))),(2,.cell (.val (.b b))),(3,.cell (.ptr 3 0)),(6,.cell (.ptr 6 0))] [(3,aa (cV d e f g i j k l m n)),(6,aa (cT o p q s t u w x y z))])
noncomputable def B0 (run:RunT) (a b d e f g i j k l:AV) (m n:ae) (o:ay) (p q s t:ae) (u:ay) (w:ae) (x:ai ae):ak AV :=
 run ((eV 22 L9 []).getD []) (St.fj [(3,.cell (.ptr 3 0)),(6,.cell (.ptr 6 0))] [(3,aa (cV a b d e f g i j k l)),(6,aa (cT m n o p q s t u w x))])
noncomputable def X96 (a b:ae) (d:ay) (e f g i:ae) (j:ay) (k:ae) (l:ai ae) (m:ae) (n:ay) (c:bj) (r:RunT):ak AV :=
 (c 43 [.u8 b]).bind fun o=>(bt (.b (cD a 18)) aj (aa (.b (cD m 47))) (.b af)).bind fun p=>a8 p
 (aa (.ag [.u8 19,.u8 b,.b d,.u8 e,.u8 f,.u8 g,.u8 i,.b j,.u8 k,.s l]))
 ((bt (.b (cD a 18)) aj (aa (.b (cD m 33))) (.b af)).bind fun q=>(bt q aj (aa (.b (cD b 3))) (.b af)).bind fun s=>a8 s
 (aa (.ag [.u8 20,.u8 0,.b af,.u8 0,.u8 0,.u8 0,.u8 0,.b af,.u8 0,.s []]))
 ((bt (.b (cD a 19)) aj ((gR .eql (.s l) o).bind fun t=>aa t) (.b af)).bind fun u=>(bt u aj ((c 118 [.u8 m]).bind fun w=>(bt w af (aa (.b (cD m 47))) (.b aj)).bind fun x=>(bt x af (aa (.b (cD m 62))) (.b aj)).bind fun y=>aa y) (.b af)).bind fun z=>a8 z
 ((c 125 [.ag [.u8 a,.u8 b,.b d,.u8 e,.u8 f,.u8 g,.u8 i,.b j,.u8 k,.s l]]).bind fun A=>(unop .not A).bind fun B=>a8 B
 (aa (.ag [.u8 20,.u8 0,.b af,.u8 0,.u8 0,.u8 0,.u8 0,.b af,.u8 0,.s []]))
 ((c 94 [.ag [.u8 9,.u8 0,.b aj,.u8 0,.u8 0,.u8 0,.u8 0,.b af,.u8 0,.s []],.u8 m]).bind fun D=>(cA D 0).bind fun E=>(cA D 1).bind fun G=>(AV.cm 10 E).bind fun H=>aa (.ag [gt H 0,gt H 1,gt H 2,gt H 3,gt H 4,gt H 5,gt H 6,gt H 7,gt H 8,gt H 9])))
 ((bt (.b (cD a 19)) aj ((c 117 [.u8 m]).bind fun I=>(AV.one I).bind fun J=>(GD (.ro 1 (([J]:ai AV)))).bind fun L=>(gR .add (.s l) L).bind fun M=>(c 42 [o,M]).bind fun N=>aa N) (.b af)).bind fun O=>a8 O
 ((c 117 [.u8 m]).bind fun P=>(AV.one P).bind fun Q=>(GD (.ro 1 (([Q]:ai AV)))).bind fun R=>(gR .add (.s l) R).bind fun T=>(AV.one T).bind fun U=>aa (.ag [.u8 a,.u8 b,.b d,.u8 e,.u8 f,.u8 g,.u8 i,.b j,.u8 k,U]))
 (a8 (.b (cD a 19))
 ((gR .add (.s [47]) (.s l)).bind fun V=>(c 129 [.ag [.u8 a,.u8 b,.b d,.u8 e,.u8 f,.u8 g,.u8 i,.b j,.u8 k,.s l],V,.b n]).bind fun W=>(AV.cm 10 W).bind fun Y=>BZ r m n (gt Y 0) (gt Y 1) (gt Y 2) (gt Y 3) (gt Y 4) (gt Y 5) (gt Y 6) (gt Y 7) (gt Y 8) (gt Y 9) 0 0 af 0 0 0 0 af 0 [])
 (BZ r m n (.u8 a) (.u8 b) (.b d) (.u8 e) (.u8 f) (.u8 g) (.u8 i) (.b j) (.u8 k) (.s l) 0 0 af 0 0 0 0 af 0 [])))))
theorem c96 (a b d e f g i j k l m n) {r:AV} (h:X96 a b d e f g i j k l m n (aq (C mx) Tryz.prog) (a7 (C mx) Tryz.prog 96 gB)=aa r):aq (C mx) Tryz.prog 96 [.ag [.u8 a,.u8 b,.b d,.u8 e,.u8 f,.u8 g,.u8 i,.b j,.u8 k,.s l],.u8 m,.b n]=aa r :=
 bc (fun _ _=>by kernel_rfl) h
noncomputable def Ma (a:ae) (b:ay) (d e f g i j k l m n:AV) (o p:ae) (q:ay) (s t u w:ae) (x:ay) (y:ae) (z:ai ae) (c:bj) (r:RunT):ak AV :=
 (cf .eql d (.u8 20)).bind fun A=>a8 A
 (aa (.ag [.u8 20,.u8 0,.b af,.u8 0,.u8 0,.u8 0,.u8 0,.b af,.u8 0,.s []]))
 ((GD (.ro 1 (([.u8 a]:ai AV)))).bind fun B=>(c 129 [.ag [d,e,f,g,i,j,k,l,m,n],B,.b b]).bind fun D=>(AV.cm 10 D).bind fun E=>(cf .eql (gt E 0) (.u8 17)).bind fun G=>(bt G aj (aa (.b (cD a 60))) (.b af)).bind fun H=>a8 H
 (B0 r (.u8 18) (gt E 1) (gt E 2) (gt E 3) (gt E 4) (gt E 5) (gt E 6) (gt E 7) (gt E 8) (gt E 9) o p q s t u w x y z)
 (B0 r (gt E 0) (gt E 1) (gt E 2) (gt E 3) (gt E 4) (gt E 5) (gt E 6) (gt E 7) (gt E 8) (gt E 9) o p q s t u w x y z))
noncomputable def T7 (a b d e f g i j k l:AV) (m n:ae) (o:ay) (p q s t:ae) (u:ay) (w:ae) (x:ai ae) (c:bj) (r:RunT):ak AV :=
 aa (.ag [a,b,d,e,f,g,i,j,k,l])
theorem T8 (a b d e f g i j k l m n o p q s t u w x y z) {r:AV} (h:Ma a b d e f g i j k l m n o p q s t u w x y z (aq (C mx) Tryz.prog) (a7 (C mx) Tryz.prog 96 gB)=aa r):BZ (a7 (C mx) Tryz.prog 96 gB) a b d e f g i j k l m n o p q s t u w x y z=aa r :=
 bh (fun _ _=>by kernel_rfl) h
theorem T9 (a b d e f g i j k l m n o p q s t u w x) {r:AV} (h:T7 a b d e f g i j k l m n o p q s t u w x (aq (C mx) Tryz.prog) (a7 (C mx) Tryz.prog 96 gB)=aa r):B0 (a7 (C mx) Tryz.prog 96 gB) a b d e f g i j k l m n o p q s t u w x=aa r :=
 bh (fun _ _=>by kernel_rfl) h
noncomputable def yD:Code:=(dz.body).getD .skip
noncomputable def Hs (run:RunT) (a b d:ae) (e:ay) (f g i j:ae) (k:ay) (l:ae) (m:ai ae) (n o:ae) (p:ay) (q s t u:ae) (w:ay) (x:ae) (y:ai ae):ak AV :=
 run ((eV 4 yD []).getD []) (St.fj [(1,.cell (.val (.u8 a))),(2,.cell (.ptr 2 0)),(4,.cell (.ptr 4 0))] [(2,aa (cT b d e f g i j k l m)),(4,aa (cT n o p q s t u w x y))])
noncomputable def Fx (run:RunT) (a b d e:ae) (f:ay) (g i j k:ae) (l:ay) (m:ae) (n:ai ae) (o p:ae) (q:ay) (s t u w:ae) (x:ay) (y:ae) (z:ai ae):ak AV :=
 run ((eV 11 yD []).getD []) (St.fj [(1,.cell (.val (.u8 a))),(2,.cell (.ptr 2 0)),(4,.cell (.ptr 4 0)),(6,.cell (.val (.u8 b)))] [(2,aa (cT d e f g i j k l m n)),(4,aa (cT o p q s t u w x y z))])
noncomputable def B3 (run:RunT) (a b d:ae) (e:ay) (f g i j:ae) (k:ay) (l:ae) (m:ai ae) (n o:ae) (p:ay) (q s t u:ae) (w:ay) (x:ae) (y:ai ae):ak AV :=
 run ((eV 13 yD []).getD []) (St.fj [(1,.cell (.val (.u8 a))),(2,.cell (.ptr 2 0)),(4,.cell (.ptr 4 0))] [(2,aa (cT b d e f g i j k l m)),(4,aa (cT n o p q s t u w x y))])
noncomputable def Fy (run:RunT) (a b d e:ae) (f:ay) (g i j k:ae) (l:ay) (m:ae) (n:ai ae) (o p:ae) (q:ay) (s t u w:ae) (x:ay) (y:ae) (z:ai ae):ak AV :=
 run ((eV 20 yD []).getD []) (St.fj [(1,.cell (.val (.u8 a))),(2,.cell (.ptr 2 0)),(4,.cell (.ptr 4 0)),(6,.cell (.val (.u8 b)))] [(2,aa (cT d e f g i j k l m n)),(4,aa (cT o p q s t u w x y z))])
noncomputable def B4 (run:RunT) (a b:ae) (d:ay) (e f g i:ae) (j:ay) (k:ae) (l:ai ae) (m n:ae) (o:ay) (p q s t:ae) (u:ay) (w:ae) (x:ai ae):ak AV :=
 run ((eV 31 yD []).getD []) (St.fj [(2,.cell (.ptr 2 0)),(4,.cell (.ptr 4 0))] [(2,aa (cT a b d e f g i j k l)),(4,aa (cT m n o p q s t u w x))])
noncomputable def X97 (a b:ae) (d:ay) (e f g i:ae) (j:ay) (k:ae) (l:ai ae) (m:ae) (c:bj) (r:RunT):ak AV :=
 a8 (.b (cD a 11))
 (Hs r m a b d e f g i j k l 0 0 af 0 0 0 0 af 0 [])
 (a8 (.b (cD a 12))
 (Hs r m a b d e f g i j k l 0 0 af 0 0 0 0 af 0 [])
 (Fx r m a a b d e f g i j k l 0 0 af 0 0 0 0 af 0 []))
theorem c97 (a b d e f g i j k l m) {r:AV} (h:X97 a b d e f g i j k l m (aq (C mx) Tryz.prog) (a7 (C mx) Tryz.prog 97 dz)=aa r):aq (C mx) Tryz.prog 97 [.ag [.u8 a,.u8 b,.b d,.u8 e,.u8 f,.u8 g,.u8 i,.b j,.u8 k,.s l],.u8 m]=aa r :=
 bc (fun _ _=>by kernel_rfl) h
noncomputable def Rn (a b d:ae) (e:ay) (f g i j:ae) (k:ay) (l:ae) (m:ai ae) (n o:ae) (p:ay) (q s t u:ae) (w:ay) (x:ae) (y:ai ae) (c:bj) (r:RunT):ak AV :=
 a8 (.b (cD a 62))
 (aa (.ag [.u8 0,.u8 0,.b af,.u8 0,.u8 0,.u8 0,.u8 0,.b af,.u8 0,.s []]))
 ((bt (.b (cD a 45)) aj (aa (.b (cD b 11))) (.b af)).bind fun z=>a8 z
 (aa (.ag [.u8 12,.u8 0,.b af,.u8 0,.u8 0,.u8 0,.u8 0,.b af,.u8 0,.s []]))
 (a8 (.b (cD a 45))
 (aa (.ag [.u8 13,.u8 0,.b af,.u8 0,.u8 0,.u8 0,.u8 0,.b af,.u8 0,.s []]))
 (aa (.ag [.u8 16,.u8 0,.b af,.u8 0,.u8 0,.u8 0,.u8 0,.b af,.u8 0,.s []]))))
noncomputable def Mb (a b d e:ae) (f:ay) (g i j k:ae) (l:ay) (m:ae) (n:ai ae) (o p:ae) (q:ay) (s t u w:ae) (x:ay) (y:ae) (z:ai ae) (c:bj) (r:RunT):ak AV :=
 a8 (.b (cD b 13))
 (B3 r a d e f g i j k l m n o p q s t u w x y z)
 (a8 (.b (cD b 14))
 (B3 r a d e f g i j k l m n o p q s t u w x y z)
 (Fy r a b d e f g i j k l m n o p q s t u w x y z))
noncomputable def Mc (a b d:ae) (e:ay) (f g i j:ae) (k:ay) (l:ae) (m:ai ae) (n o:ae) (p:ay) (q s t u:ae) (w:ay) (x:ae) (y:ai ae) (c:bj) (r:RunT):ak AV :=
 a8 (.b (cD a 62))
 (aa (.ag [.u8 20,.u8 0,.b af,.u8 0,.u8 0,.u8 0,.u8 0,.b af,.u8 0,.s []]))
 ((bt (.b (cD a 45)) aj (aa (.b (cD b 13))) (.b af)).bind fun z=>a8 z
 (aa (.ag [.u8 14,.u8 0,.b af,.u8 0,.u8 0,.u8 0,.u8 0,.b af,.u8 0,.s []]))
 (a8 (.b (cD a 45))
 (aa (.ag [.u8 15,.u8 0,.b af,.u8 0,.u8 0,.u8 0,.u8 0,.b af,.u8 2,.s []]))
 (aa (.ag [.u8 15,.u8 0,.b af,.u8 0,.u8 0,.u8 0,.u8 0,.b af,.u8 0,.s []]))))
noncomputable def Md (a b d e:ae) (f:ay) (g i j k:ae) (l:ay) (m:ae) (n:ai ae) (o p:ae) (q:ay) (s t u w:ae) (x:ay) (y:ae) (z:ai ae) (c:bj) (r:RunT):ak AV :=
 a8 (.b (cD b 15))
 ((bt (.b (cD a 62)) aj (aa (.b (cD m 2))) (.b af)).bind fun A=>a8 A
 (aa (.ag [.u8 0,.u8 0,.b af,.u8 0,.u8 0,.u8 0,.u8 0,.b af,.u8 0,.s []]))
 ((bt (.b (cD a 33)) aj (aa (.b (cD m 2))) (.b af)).bind fun B=>a8 B
 (aa (.ag [.u8 20,.u8 0,.b af,.u8 0,.u8 0,.u8 0,.u8 0,.b af,.u8 0,.s []]))
 (a8 (.b (cD a 45))
 ((cf .add (.u8 m) (.u8 1)).bind fun D=>(mm aj D (.u8 2)).bind fun E=>(AV.one E).bind fun G=>aa (.ag [.u8 15,.u8 0,.b af,.u8 0,.u8 0,.u8 0,.u8 0,.b af,G,.s []]))
 (aa (.ag [.u8 15,.u8 0,.b af,.u8 0,.u8 0,.u8 0,.u8 0,.b af,.u8 0,.s []])))))
 (a8 (.b (cD b 16))
 (a8 (.b (cD a 62))
 (aa (.ag [.u8 0,.u8 0,.b af,.u8 0,.u8 0,.u8 0,.u8 0,.b af,.u8 0,.s []]))
 (B4 r d e f g i j k l m n o p q s t u w x y z))
 (B4 r d e f g i j k l m n o p q s t u w x y z))
noncomputable def Ua (a b:ae) (d:ay) (e f g i:ae) (j:ay) (k:ae) (l:ai ae) (m n:ae) (o:ay) (p q s t:ae) (u:ay) (w:ae) (x:ai ae) (c:bj) (r:RunT):ak AV :=
 aa (.ag [.u8 a,.u8 b,.b d,.u8 e,.u8 f,.u8 g,.u8 i,.b j,.u8 k,.s l])
theorem Xj (a b d e f g i j k l m n o p q s t u w x y) {r:AV} (h:Rn a b d e f g i j k l m n o p q s t u w x y (aq (C mx) Tryz.prog) (a7 (C mx) Tryz.prog 97 dz)=aa r):Hs (a7 (C mx) Tryz.prog 97 dz) a b d e f g i j k l m n o p q s t u w x y=aa r :=
 bh (fun _ _=>by kernel_rfl) h
theorem Ub (a b d e f g i j k l m n o p q s t u w x y z) {r:AV} (h:Mb a b d e f g i j k l m n o p q s t u w x y z (aq (C mx) Tryz.prog) (a7 (C mx) Tryz.prog 97 dz)=aa r):Fx (a7 (C mx) Tryz.prog 97 dz) a b d e f g i j k l m n o p q s t u w x y z=aa r :=
 bh (fun _ _=>by kernel_rfl) h
theorem Uc (a b d e f g i j k l m n o p q s t u w x y) {r:AV} (h:Mc a b d e f g i j k l m n o p q s t u w x y (aq (C mx) Tryz.prog) (a7 (C mx) Tryz.prog 97 dz)=aa r):B3 (a7 (C mx) Tryz.prog 97 dz) a b d e f g i j k l m n o p q s t u w x y=aa r :=
 bh (fun _ _=>by kernel_rfl) h
theorem Ud (a b d e f g i j k l m n o p q s t u w x y z) {r:AV} (h:Md a b d e f g i j k l m n o p q s t u w x y z (aq (C mx) Tryz.prog) (a7 (C mx) Tryz.prog 97 dz)=aa r):Fy (a7 (C mx) Tryz.prog 97 dz) a b d e f g i j k l m n o p q s t u w x y z=aa r :=
 bh (fun _ _=>by kernel_rfl) h
theorem Ue (a b d e f g i j k l m n o p q s t u w x) {r:AV} (h:Ua a b d e f g i j k l m n o p q s t u w x (aq (C mx) Tryz.prog) (a7 (C mx) Tryz.prog 97 dz)=aa r):B4 (a7 (C mx) Tryz.prog 97 dz) a b d e f g i j k l m n o p q s t u w x=aa r :=
 bh (fun _ _=>by kernel_rfl) h
noncomputable def Xk (a:ae) (c:bj) (r:RunT):ak AV :=
 (bt (.b (O5 a 97)) aj (aa (.b (ule a 122))) (.b af)).bind fun b=>(bt b af ((bt (.b (O5 a 65)) aj (aa (.b (ule a 90))) (.b af)).bind fun d=>aa d) (.b aj)).bind fun e=>aa e
theorem aaD a {r:AV} (h:Xk a (aq (C mx) Tryz.prog) (a7 (C mx) Tryz.prog 116 Tryz.f116)=aa r):aq (C mx) Tryz.prog 116 [.u8 a]=aa r :=
 bc (fun _ _=>by kernel_rfl) h
noncomputable def aaE (a:ae) (c:bj) (r:RunT):ak AV :=
 (bt (.b (O5 a 65)) aj (aa (.b (ule a 90))) (.b af)).bind fun b=>a8 b
 ((cf .add (.u8 a) (.u8 97)).bind fun d=>(cf .sub d (.u8 65)).bind fun e=>aa e)
 (aa (.u8 a))
theorem aaF a {r:AV} (h:aaE a (aq (C mx) Tryz.prog) (a7 (C mx) Tryz.prog 117 Tryz.f117)=aa r):aq (C mx) Tryz.prog 117 [.u8 a]=aa r :=
 bc (fun _ _=>by kernel_rfl) h
noncomputable def Xl (a:ae) (c:bj) (r:RunT):ak AV :=
 (bt (.b (cD a 32)) af (aa (.b (cD a 9))) (.b aj)).bind fun b=>(bt b af (aa (.b (cD a 10))) (.b aj)).bind fun d=>(bt d af (aa (.b (cD a 12))) (.b aj)).bind fun e=>(bt e af (aa (.b (cD a 13))) (.b aj)).bind fun f=>aa f
theorem aaG a {r:AV} (h:Xl a (aq (C mx) Tryz.prog) (a7 (C mx) Tryz.prog 118 Tryz.f118)=aa r):aq (C mx) Tryz.prog 118 [.u8 a]=aa r :=
 bc (fun _ _=>by kernel_rfl) h
noncomputable def Xm (a b:ae) (d:ay) (e f g i:ae) (j:ay) (k:ae) (l:ai ae) (m:ae) (c:bj) (r:RunT):ak AV :=
 a8 (.b (decide (((l.length:aB)) ≥ 32)))
 (aa (.ag [.u8 20,.u8 0,.b af,.u8 0,.u8 0,.u8 0,.u8 0,.b af,.u8 0,.s []]))
 ((c 117 [.u8 m]).bind fun n=>(AV.one n).bind fun o=>(GD (.ro 1 (([o]:ai AV)))).bind fun p=>(gR .add (.s l) p).bind fun q=>(AV.one q).bind fun s=>aa (.ag [.u8 a,.u8 b,.b d,.u8 e,.u8 f,.u8 g,.u8 i,.b j,.u8 k,s]))
theorem aaH (a b d e f g i j k l m) {r:AV} (h:Xm a b d e f g i j k l m (aq (C mx) Tryz.prog) (a7 (C mx) Tryz.prog 119 Tryz.f119)=aa r):aq (C mx) Tryz.prog 119 [.ag [.u8 a,.u8 b,.b d,.u8 e,.u8 f,.u8 g,.u8 i,.b j,.u8 k,.s l],.u8 m]=aa r :=
 bc (fun _ _=>by kernel_rfl) h
noncomputable def aaI (a b:ae) (d:ay) (e f g i:ae) (j:ay) (k:ae) (l:ai ae) (m:ae) (c:bj) (r:RunT):ak AV :=
 aa (.ag [.u8 m,.u8 b,.b d,.u8 0,.u8 0,.u8 0,.u8 0,.b af,.u8 0,.s []])
theorem aaJ (a b d e f g i j k l m) {r:AV} (h:aaI a b d e f g i j k l m (aq (C mx) Tryz.prog) (a7 (C mx) Tryz.prog 121 Tryz.f121)=aa r):aq (C mx) Tryz.prog 121 [.ag [.u8 a,.u8 b,.b d,.u8 e,.u8 f,.u8 g,.u8 i,.b j,.u8 k,.s l],.u8 m]=aa r :=
 bc (fun _ _=>by kernel_rfl) h
noncomputable def Xn (a:ae) (c:bj) (r:RunT):ak AV :=
 a8 (.b (uf a 0))
 (aa (.ag [.u8 17,.u8 a,.b af,.u8 0,.u8 0,.u8 0,.u8 0,.b af,.u8 0,.s []]))
 (aa (.ag [.u8 0,.u8 0,.b af,.u8 0,.u8 0,.u8 0,.u8 0,.b af,.u8 0,.s []]))
theorem aaK a {r:AV} (h:Xn a (aq (C mx) Tryz.prog) (a7 (C mx) Tryz.prog 122 Tryz.f122)=aa r):aq (C mx) Tryz.prog 122 [.u8 a]=aa r :=
 bc (fun _ _=>by kernel_rfl) h
noncomputable def Xo (a b:ae) (d:ay) (e f g i:ae) (j:ay) (k:ae) (l:ai ae) (m:ae) (c:bj) (r:RunT):ak AV :=
 (c 118 [.u8 m]).bind fun n=>a8 n
 (aa (.tu [.ag [.u8 a,.u8 b,.b d,.u8 e,.u8 f,.u8 g,.u8 i,.b j,.u8 k,.s l],.b af]))
 (a8 (.b (cD m 62))
 (aa (.tu [.ag [.u8 20,.u8 0,.b af,.u8 0,.u8 0,.u8 0,.u8 0,.b af,.u8 0,.s []],.b af]))
 ((bt (.b (cD m 34)) af (aa (.b (cD m 39))) (.b aj)).bind fun o=>a8 o
 (aa (.tu [.ag [.u8 8,.u8 b,.b d,.u8 e,.u8 m,.u8 g,.u8 i,.b j,.u8 k,.s l],.b af]))
 (aa (.tu [.ag [.u8 8,.u8 b,.b d,.u8 e,.u8 f,.u8 g,.u8 i,.b j,.u8 k,.s l],.b aj]))))
theorem aaL (a b d e f g i j k l m) {r:AV} (h:Xo a b d e f g i j k l m (aq (C mx) Tryz.prog) (a7 (C mx) Tryz.prog 123 Tryz.f123)=aa r):aq (C mx) Tryz.prog 123 [.ag [.u8 a,.u8 b,.b d,.u8 e,.u8 f,.u8 g,.u8 i,.b j,.u8 k,.s l],.u8 m]=aa r :=
 bc (fun _ _=>by kernel_rfl) h
noncomputable def Xp (a b:ae) (d:ay) (e f g i:ae) (j:ay) (k:ae) (l:ai ae) (m:ae) (c:bj) (r:RunT):ak AV :=
 (bt (.b (cD m 61)) aj (aa (.b (l != []))) (.b af)).bind fun n=>a8 n
 ((c 121 [.ag [.u8 a,.u8 b,.b d,.u8 e,.u8 f,.u8 g,.u8 i,.b j,.u8 k,.s l],.u8 7]).bind fun o=>(AV.cm 10 o).bind fun p=>(c 138 [.s l]).bind fun q=>(AV.one q).bind fun s=>aa (.tu [.ag [gt p 0,gt p 1,gt p 2,s,gt p 4,gt p 5,gt p 6,gt p 7,gt p 8,gt p 9],.b af]))
 ((bt (.b (cD m 47)) af (aa (.b (cD m 62))) (.b aj)).bind fun t=>a8 t
 ((c 121 [.ag [.u8 a,.u8 b,.b d,.u8 e,.u8 f,.u8 g,.u8 i,.b j,.u8 k,.s l],.u8 9]).bind fun u=>(AV.cm 10 u).bind fun w=>aa (.tu [.ag [gt w 0,gt w 1,gt w 2,gt w 3,gt w 4,gt w 5,gt w 6,gt w 7,gt w 8,gt w 9],.b aj]))
 ((c 118 [.u8 m]).bind fun x=>a8 x
 (aa (.tu [.ag [.u8 6,.u8 b,.b d,.u8 e,.u8 f,.u8 g,.u8 i,.b j,.u8 k,.s l],.b af]))
 (a8 (.b (cD a 6))
 ((c 121 [.ag [.u8 a,.u8 b,.b d,.u8 e,.u8 f,.u8 g,.u8 i,.b j,.u8 k,.s l],.u8 4]).bind fun y=>(AV.cm 10 y).bind fun z=>aa (.tu [.ag [gt z 0,gt z 1,gt z 2,gt z 3,gt z 4,gt z 5,gt z 6,gt z 7,gt z 8,gt z 9],.b aj]))
 ((bt (.b (cD m 34)) af (aa (.b (cD m 39))) (.b aj)).bind fun A=>(bt A af (aa (.b (cD m 60))) (.b aj)).bind fun B=>a8 B
 (aa (.tu [.ag [.u8 20,.u8 0,.b af,.u8 0,.u8 0,.u8 0,.u8 0,.b af,.u8 0,.s []],.b af]))
 ((c 119 [.ag [.u8 a,.u8 b,.b d,.u8 e,.u8 f,.u8 g,.u8 i,.b j,.u8 k,.s l],.u8 m]).bind fun D=>(AV.cm 10 D).bind fun E=>aa (.tu [.ag [gt E 0,gt E 1,gt E 2,gt E 3,gt E 4,gt E 5,gt E 6,gt E 7,gt E 8,gt E 9],.b af]))))))
theorem aaM (a b d e f g i j k l m) {r:AV} (h:Xp a b d e f g i j k l m (aq (C mx) Tryz.prog) (a7 (C mx) Tryz.prog 124 Tryz.f124)=aa r):aq (C mx) Tryz.prog 124 [.ag [.u8 a,.u8 b,.b d,.u8 e,.u8 f,.u8 g,.u8 i,.b j,.u8 k,.s l],.u8 m]=aa r :=
 bc (fun _ _=>by kernel_rfl) h
noncomputable def Xq (a b:ae) (d:ay) (e f g i:ae) (j:ay) (k:ae) (l:ai ae) (c:bj) (r:RunT):ak AV :=
 (bt (.b (cD i 0)) af (aa (.b (cD i 4))) (.b aj)).bind fun m=>aa m
theorem aaN (a b d e f g i j k l) {r:AV} (h:Xq a b d e f g i j k l (aq (C mx) Tryz.prog) (a7 (C mx) Tryz.prog 125 Tryz.f125)=aa r):aq (C mx) Tryz.prog 125 [.ag [.u8 a,.u8 b,.b d,.u8 e,.u8 f,.u8 g,.u8 i,.b j,.u8 k,.s l]]=aa r :=
 bc (fun _ _=>by kernel_rfl) h
noncomputable def Xr (a:ai ae) (b:ae) (c:bj) (r:RunT):ak AV :=
 (c 78 [.s a,.u8 b]).bind fun d=>aa d
theorem aaO (a b) {r:AV} (h:Xr a b (aq (C mx) Tryz.prog) (a7 (C mx) Tryz.prog 126 Tryz.f126)=aa r):aq (C mx) Tryz.prog 126 [.s a,.u8 b]=aa r :=
 bc (fun _ _=>by kernel_rfl) h
noncomputable def n9 (run:RunT) (a b:ae) (d:ay) (e f g i:ae) (j:ay) (k:ae) (l:AV) (m n:ae) (o:ay) (p q s t:ae) (u:ay) (w:ae) (x:ai ae):ak AV :=
 run ((eV 24 ((iM.body).getD .skip) []).getD []) (St.fj [(2,.cell (.ptr 2 0)),(4,.cell (.ptr 4 0))] [(2,aa [.val (.u8 a),.val (.u8 b),.val (.b d),.val (.u8 e),.val (.u8 f),.val (.u8 g),.val (.u8 i),.val (.b j),.val (.u8 k),.val (l)]),(4,aa (cT m n o p q s t u w x))])
noncomputable def Xs (a b:ae) (d:ay) (e f g i:ae) (j:ay) (k:ae) (l:ai ae) (m:ae) (c:bj) (r:RunT):ak AV :=
 (bt (.b (cD g 4)) af (aa (.b (cD g 5))) (.b aj)).bind fun n=>a8 n
 (aa (.ag [.u8 a,.u8 b,.b d,.u8 e,.u8 f,.u8 g,.u8 i,.b j,.u8 k,.s []]))
 (a8 (.b (cD m 38))
 (aa (.ag [.u8 20,.u8 0,.b af,.u8 0,.u8 0,.u8 0,.u8 0,.b af,.u8 0,.s []]))
 ((bt (.b (cD m 63)) af (aa (.b (cD m 35))) (.b aj)).bind fun o=>a8 o
 (n9 r a b d e f 4 i j k (.s []) 0 0 af 0 0 0 0 af 0 [])
 (a8 (.b (cD g 3))
 (aa (.ag [.u8 a,.u8 b,.b d,.u8 e,.u8 f,.u8 g,.u8 i,.b j,.u8 k,.s []]))
 (a8 (.b (cD m 47))
 (n9 r a b d e f 3 i j k (.s []) 0 0 af 0 0 0 0 af 0 [])
 ((bt (.b (cD m 58)) aj (aa (.b (cD g 2))) (.b af)).bind fun p=>a8 p
 (aa (.ag [.u8 20,.u8 0,.b af,.u8 0,.u8 0,.u8 0,.u8 0,.b af,.u8 0,.s []]))
 (a8 (.b (cD m 58))
 ((bt (.b (l == [104,116,116,112])) af (aa (.b (l == [104,116,116,112,115]))) (.b aj)).bind fun q=>(bt q af (aa (.b (l == [109,97,105,108,116,111]))) (.b aj)).bind fun s=>a8 s
 (n9 r a b d e f 3 i j k (.s []) 0 0 af 0 0 0 0 af 0 [])
 (n9 r a b d e f 5 i j k (.s []) 0 0 af 0 0 0 0 af 0 []))
 (a8 (.b (cD g 2))
 (aa (.ag [.u8 a,.u8 b,.b d,.u8 e,.u8 f,.u8 g,.u8 i,.b j,.u8 k,.s []]))
 (a8 (.b (decide (((l.length:aB)) ≥ 16)))
 (n9 r a b d e f 1 i j k (.s l) 0 0 af 0 0 0 0 af 0 [])
 ((c 117 [.u8 m]).bind fun t=>same ((AV.one t).bind fun u=>(GD (.ro 1 (([u]:ai AV)))).bind fun w=>(gR .add (.s l) w).bind fun x=>(AV.one x).bind fun y=>n9 r a b d e f 1 i j k y 0 0 af 0 0 0 0 af 0 []))))))))))
theorem aaP (a b d e f g i j k l m) {r:AV} (h:Xs a b d e f g i j k l m (aq (C mx) Tryz.prog) (a7 (C mx) Tryz.prog 127 iM)=aa r):aq (C mx) Tryz.prog 127 [.ag [.u8 a,.u8 b,.b d,.u8 e,.u8 f,.u8 g,.u8 i,.b j,.u8 k,.s l],.u8 m]=aa r :=
 bc (fun _ _=>by kernel_rfl) h
noncomputable def PF (a b:ae) (d:ay) (e f g i:ae) (j:ay) (k:ae) (l:AV) (m n:ae) (o:ay) (p q s t:ae) (u:ay) (w:ae) (x:ai ae) (c:bj) (r:RunT):ak AV :=
 aa (.ag [.u8 a,.u8 b,.b d,.u8 e,.u8 f,.u8 g,.u8 i,.b j,.u8 k,l])
theorem PG (a b d e f g i j k l m n o p q s t u w x) {r:AV} (h:PF a b d e f g i j k l m n o p q s t u w x (aq (C mx) Tryz.prog) (a7 (C mx) Tryz.prog 127 iM)=aa r):n9 (a7 (C mx) Tryz.prog 127 iM) a b d e f g i j k l m n o p q s t u w x=aa r :=
 bh (fun _ _=>by kernel_rfl) h
noncomputable def xi:Code:=(cZ.body).getD .skip
noncomputable def jE (run:RunT) (a b:ae) (d:ay) (e f g i:ae) (j:ay) (k:ae) (l:ai ae) (m n:ae) (o:ay) (p q s t:ae) (u:ay) (w:ae) (x:ai ae):ak AV :=
 run ((eV 36 xi []).getD []) (St.fj [(3,.cell (.ptr 3 0)),(6,.cell (.ptr 6 0))] [(3,aa (cT a b d e f g i j k l)),(6,aa (cT m n o p q s t u w x))])
noncomputable def uo (run:RunT) (a b:ae) (d:ay) (e f g i:ae) (j:ay) (k:ae) (l:ai ae):ak AV :=
 run ((eV 11 xi []).getD []) (St.fj [(6,.cell (.ptr 6 0))] [(6,aa (cT a b d e f g i j k l))])
noncomputable def xj (run:RunT) (a b d:ae) (e:ay) (f g i j:ae) (k:ay) (l:ae) (m:ai ae) (n o:ae) (p:ay) (q s t u:ae) (w:ay) (x:ae) (y:ai ae):ak AV :=
 run ((eV 23 xi []).getD []) (St.fj [(1,.cell (.val (.u8 a))),(3,.cell (.ptr 3 0)),(6,.cell (.ptr 6 0))] [(3,aa (cT b d e f g i j k l m)),(6,aa (cT n o p q s t u w x y))])
noncomputable def B5 (run:RunT) (a b d e:ae) (f:ay) (g i j k:ae) (l:ay) (m:ae) (n:ai ae) (o p:ae) (q:ay) (s t u w:ae) (x:ay) (y:ae) (z:ai ae):ak AV :=
 run ((eV 24 xi []).getD []) (St.fj [(1,.cell (.val (.u8 a))),(3,.cell (.ptr 3 0)),(6,.cell (.ptr 6 0)),(8,.cell (.val (.u8 b)))] [(3,aa (cT d e f g i j k l m n)),(6,aa (cT o p q s t u w x y z))])
noncomputable def Uf (a b:ae) (d:ay) (e f g i:ae) (j:ay) (k:ae) (l:ai ae) (m:ae) (n:ay) (c:bj) (r:RunT):ak AV :=
 a8 (.b (cD i 0))
 (a8 (.b (cD m 34))
 (jE r a b d e f g 1 j k l 0 0 af 0 0 0 0 af 0 [])
 (a8 (.b (cD m 39))
 (jE r a b d e f g 2 j k l 0 0 af 0 0 0 0 af 0 [])
 (a8 (.b (cD m 47))
 (jE r a b d e f g 3 j k l 0 0 af 0 0 0 0 af 0 [])
 ((bt (.b n) aj (aa (.b (cD m 96))) (.b af)).bind fun o=>a8 o
 (uo r 0 0 af 0 0 0 0 af 0 [])
 ((bt (.b (!n)) aj ((bt (.b (cD m 40)) af (aa (.b (cD m 92))) (.b aj)).bind fun p=>aa p) (.b af)).bind fun q=>a8 q
 (uo r 0 0 af 0 0 0 0 af 0 [])
 (jE r a b d e f g i j k l 0 0 af 0 0 0 0 af 0 []))))))
 (a8 (.b (cD i 3))
 (a8 (.b (cD m 42))
 (jE r a b d e f g 5 j k l 0 0 af 0 0 0 0 af 0 [])
 ((bt (.b n) aj (aa (.b (cD m 47))) (.b af)).bind fun s=>a8 s
 (jE r a b d e f g 4 j k l 0 0 af 0 0 0 0 af 0 [])
 (a8 (.b n)
 (aa (.ag [.u8 20,.u8 0,.b af,.u8 0,.u8 0,.u8 0,.u8 0,.b af,.u8 0,.s []]))
 ((c 128 [.ag [.u8 a,.u8 b,.b d,.u8 e,.u8 f,.u8 g,.u8 0,.b j,.u8 k,.s l],.u8 m,.b n]).bind fun t=>(AV.cm 10 t).bind fun u=>aa (.ag [gt u 0,gt u 1,gt u 2,gt u 3,gt u 4,gt u 5,gt u 6,gt u 7,gt u 8,gt u 9])))))
 (a8 (.b (cD i 1))
 (xj r m a b d e f g i j k l 0 0 af 0 0 0 0 af 0 [])
 (a8 (.b (cD i 2))
 (xj r m a b d e f g i j k l 0 0 af 0 0 0 0 af 0 [])
 (B5 r m i a b d e f g i j k l 0 0 af 0 0 0 0 af 0 []))))
theorem Xt (a b d e f g i j k l m n) {r:AV} (h:Uf a b d e f g i j k l m n (aq (C mx) Tryz.prog) (a7 (C mx) Tryz.prog 128 cZ)=aa r):aq (C mx) Tryz.prog 128 [.ag [.u8 a,.u8 b,.b d,.u8 e,.u8 f,.u8 g,.u8 i,.b j,.u8 k,.s l],.u8 m,.b n]=aa r :=
 bc (fun _ _=>by kernel_rfl) h
noncomputable def PH (a b:ae) (d:ay) (e f g i:ae) (j:ay) (k:ae) (l:ai ae) (m n:ae) (o:ay) (p q s t:ae) (u:ay) (w:ae) (x:ai ae) (c:bj) (r:RunT):ak AV :=
 aa (.ag [.u8 a,.u8 b,.b d,.u8 e,.u8 f,.u8 g,.u8 i,.b j,.u8 k,.s l])
noncomputable def PI (a b:ae) (d:ay) (e f g i:ae) (j:ay) (k:ae) (l:ai ae) (c:bj) (r:RunT):ak AV :=
 aa (.ag [.u8 20,.u8 0,.b af,.u8 0,.u8 0,.u8 0,.u8 0,.b af,.u8 0,.s []])
noncomputable def Ht (a b d:ae) (e:ay) (f g i j:ae) (k:ay) (l:ae) (m:ai ae) (n o:ae) (p:ay) (q s t u:ae) (w:ay) (x:ae) (y:ai ae) (c:bj) (r:RunT):ak AV :=
 (c 139 [.ag [.u8 b,.u8 d,.b e,.u8 f,.u8 g,.u8 i,.u8 j,.b k,.u8 l,.s m],.u8 a]).bind fun z=>(AV.cm 10 z).bind fun A=>aa (.ag [gt A 0,gt A 1,gt A 2,gt A 3,gt A 4,gt A 5,gt A 6,gt A 7,gt A 8,gt A 9])
noncomputable def Hu (a b d e:ae) (f:ay) (g i j k:ae) (l:ay) (m:ae) (n:ai ae) (o p:ae) (q:ay) (s t u w:ae) (x:ay) (y:ae) (z:ai ae) (c:bj) (r:RunT):ak AV :=
 a8 (.b (cD b 4))
 ((bt (.b (cD a 10)) af (aa (.b (cD a 13))) (.b aj)).bind fun A=>a8 A
 (jE r d e f g i j 0 l m n o p q s t u w x y z)
 (jE r d e f g i j k l m n o p q s t u w x y z))
 (a8 (.b (cD b 5))
 (a8 (.b (cD a 42))
 (jE r d e f g i j 6 l m n o p q s t u w x y z)
 (jE r d e f g i j k l m n o p q s t u w x y z))
 (a8 (.b (cD b 6))
 (a8 (.b (cD a 47))
 (jE r d e f g i j 0 l m n o p q s t u w x y z)
 (a8 (.b (cD a 42))
 (jE r d e f g i j k l m n o p q s t u w x y z)
 (jE r d e f g i j 5 l m n o p q s t u w x y z)))
 (jE r d e f g i j k l m n o p q s t u w x y z)))
theorem Hv (a b d e f g i j k l m n o p q s t u w x) {r:AV} (h:PH a b d e f g i j k l m n o p q s t u w x (aq (C mx) Tryz.prog) (a7 (C mx) Tryz.prog 128 cZ)=aa r):jE (a7 (C mx) Tryz.prog 128 cZ) a b d e f g i j k l m n o p q s t u w x=aa r :=
 bh (fun _ _=>by kernel_rfl) h
theorem Hw (a b d e f g i j k l) {r:AV} (h:PI a b d e f g i j k l (aq (C mx) Tryz.prog) (a7 (C mx) Tryz.prog 128 cZ)=aa r):uo (a7 (C mx) Tryz.prog 128 cZ) a b d e f g i j k l=aa r :=
 bh (fun _ _=>by kernel_rfl) h
theorem PJ (a b d e f g i j k l m n o p q s t u w x y) {r:AV} (h:Ht a b d e f g i j k l m n o p q s t u w x y (aq (C mx) Tryz.prog) (a7 (C mx) Tryz.prog 128 cZ)=aa r):xj (a7 (C mx) Tryz.prog 128 cZ) a b d e f g i j k l m n o p q s t u w x y=aa r :=
 bh (fun _ _=>by kernel_rfl) h
theorem PK (a b d e f g i j k l m n o p q s t u w x y z) {r:AV} (h:Hu a b d e f g i j k l m n o p q s t u w x y z (aq (C mx) Tryz.prog) (a7 (C mx) Tryz.prog 128 cZ)=aa r):B5 (a7 (C mx) Tryz.prog 128 cZ) a b d e f g i j k l m n o p q s t u w x y z=aa r :=
 bh (fun _ _=>by kernel_rfl) h
noncomputable def B6 (run:RunT) (a:ai ae) (b d:aB) (e f g i j k l m n o:AV) (p q:ae) (s:ay) (t u w x:ae) (y:ay) (z:ae) (A:ai ae):ak AV :=
 run ((eV 5 ((iL.body).getD .skip) []).getD []) (St.fj [(1,.cell (.val (.s a))),(3,.cell (.ptr 3 0)),(6,.cell (.ptr 6 0)),(19,.cell (.val (.int b))),(20,.cell (.val (.int d)))] [(3,aa (cV e f g i j k l m n o)),(6,aa (cT p q s t u w x y z A))])
noncomputable def Xu (a b:ae) (d:ay) (e f g i:ae) (j:ay) (k:ae) (l m:ai ae) (n:ay) (c:bj) (r:RunT):ak AV :=
 (bt (.b (!n)) af ((c 140 [.ag [.u8 17,.u8 b,.b d,.u8 e,.u8 f,.u8 g,.u8 i,.b j,.u8 k,.s []]]).bind fun o=>(unop .not o).bind fun p=>aa p) (.b aj)).bind fun q=>a8 q
 (aa (.ag [.u8 17,.u8 b,.b d,.u8 e,.u8 f,.u8 g,.u8 i,.b j,.u8 k,.s []]))
 (B6 r m ((m.length:aB)) 0 (.u8 17) (.u8 b) (.b d) (.u8 e) (.u8 f) (.u8 g) (.u8 i) (.b j) (.u8 k) (.s []) 0 0 af 0 0 0 0 af 0 [])
theorem aaQ (a b d e f g i j k l m n) {r:AV} (h:Xu a b d e f g i j k l m n (aq (C mx) Tryz.prog) (a7 (C mx) Tryz.prog 129 iL)=aa r):aq (C mx) Tryz.prog 129 [.ag [.u8 a,.u8 b,.b d,.u8 e,.u8 f,.u8 g,.u8 i,.b j,.u8 k,.s l],.s m,.b n]=aa r :=
 bc (fun _ _=>by kernel_rfl) h
noncomputable def Fz (a:ai ae) (b d:aB) (e f g i j k l m n o:AV) (p q:ae) (s:ay) (t u w x:ae) (y:ay) (z:ae) (A:ai ae) (c:bj) (r:RunT):ak AV :=
 a8 (.b (decide (d < b)))
 ((jU (.s a) (.int d)).bind fun B=>(cf .eql f (.u8 3)).bind fun D=>(c 128 [.ag [e,f,g,i,j,k,l,m,n,o],B,D]).bind fun E=>(AV.cm 10 E).bind fun G=>(cf .eql (gt G 0) (.u8 20)).bind fun H=>a8 H
 (aa (.ag [.u8 20,.u8 0,.b af,.u8 0,.u8 0,.u8 0,.u8 0,.b af,.u8 0,.s []]))
 (B6 r a b (eE (d+1)) (gt G 0) (gt G 1) (gt G 2) (gt G 3) (gt G 4) (gt G 5) (gt G 6) (gt G 7) (gt G 8) (gt G 9) p q s t u w x y z A))
 (aa (.ag [e,f,g,i,j,k,l,m,n,o]))
theorem Me (a b d e f g i j k l m n o p q s t u w x y z A) {r:AV} (h:Fz a b d e f g i j k l m n o p q s t u w x y z A (aq (C mx) Tryz.prog) (a7 (C mx) Tryz.prog 129 iL)=aa r):B6 (a7 (C mx) Tryz.prog 129 iL) a b d e f g i j k l m n o p q s t u w x y z A=aa r :=
 bh (fun _ _=>by kernel_rfl) h
noncomputable def vq (run:RunT) (a b:ae) (d:ay) (e f g i:ae) (j:ay) (k:ae) (l:ai ae) (m n:ae) (o:ay) (p q s t:ae) (u:ay) (w:ae) (x:ai ae):ak AV :=
 run ((eV 9 ((iK.body).getD .skip) []).getD []) (St.fj [(2,.cell (.ptr 2 0)),(4,.cell (.ptr 4 0))] [(2,aa (cT a b d e f g i j k l)),(4,aa (cT m n o p q s t u w x))])
noncomputable def Xv (a b:ae) (d:ay) (e f g i:ae) (j:ay) (k:ae) (l:ai ae) (m:ae) (c:bj) (r:RunT):ak AV :=
 a8 (.b j)
 (vq r a b d e f g i af k l 0 0 af 0 0 0 0 af 0 [])
 (a8 (.b (cD m 92))
 (vq r a b d e f g i aj k l 0 0 af 0 0 0 0 af 0 [])
 ((bt (.b (cD m 10)) af (aa (.b (cD m 13))) (.b aj)).bind fun n=>a8 n
 (aa (.ag [.u8 20,.u8 0,.b af,.u8 0,.u8 0,.u8 0,.u8 0,.b af,.u8 0,.s []]))
 ((bt (.b (cD m 34)) aj (aa (.b (cD i 1))) (.b af)).bind fun o=>(bt o af ((bt (.b (cD m 39)) aj (aa (.b (cD i 2))) (.b af)).bind fun p=>aa p) (.b aj)).bind fun q=>a8 q
 (vq r a b d e f g 0 j k l 0 0 af 0 0 0 0 af 0 [])
 (vq r a b d e f g i j k l 0 0 af 0 0 0 0 af 0 []))))
theorem aaR (a b d e f g i j k l m) {r:AV} (h:Xv a b d e f g i j k l m (aq (C mx) Tryz.prog) (a7 (C mx) Tryz.prog 139 iK)=aa r):aq (C mx) Tryz.prog 139 [.ag [.u8 a,.u8 b,.b d,.u8 e,.u8 f,.u8 g,.u8 i,.b j,.u8 k,.s l],.u8 m]=aa r :=
 bc (fun _ _=>by kernel_rfl) h
noncomputable def Ug (a b:ae) (d:ay) (e f g i:ae) (j:ay) (k:ae) (l:ai ae) (m n:ae) (o:ay) (p q s t:ae) (u:ay) (w:ae) (x:ai ae) (c:bj) (r:RunT):ak AV :=
 aa (.ag [.u8 a,.u8 b,.b d,.u8 e,.u8 f,.u8 g,.u8 i,.b j,.u8 k,.s l])
theorem Uh (a b d e f g i j k l m n o p q s t u w x) {r:AV} (h:Ug a b d e f g i j k l m n o p q s t u w x (aq (C mx) Tryz.prog) (a7 (C mx) Tryz.prog 139 iK)=aa r):vq (a7 (C mx) Tryz.prog 139 iK) a b d e f g i j k l m n o p q s t u w x=aa r :=
 bh (fun _ _=>by kernel_rfl) h
end lp
