/-
  A part of InferFragments's proof.
-/
import Derived.Test.YtgjfbalafdifgaaGreatDoorTC
import Derived.RangeFuncNested
import Derived.RangeFuncBound
import Derived.RangeFuncCalls
import Derived.RangeFuncLeaves
import Derived.Shelf.Abstract
import Derived.Shelf.RegionOpen
import Derived.WalkKit
import Derived.OwnWalkIn
import Derived.TacticsInMore
import Derived.LoopNIn
import Derived.LoopIn
import Derived.Maps.AppendAt
import Derived.Test.YtgjfbalafdifgaaGreatDoorProg
import Derived.Shelf.Strings.Search3
import Derived.Shelf.Vars
set_option linter.unusedVariables false
set_option linter.unusedSimpArgs false
set_option linter.unusedSectionVars false
set_option linter.unnecessarySimpa false
noncomputable section
namespace eG
open Go Sx
def kJ:List (Nat×Ty):=[
 (3,{ size:=1,bytes:=8,kd:=.int .i64,elem:=0,zero:=[.int 0],fields:=[],eqk:=none }),
 (4,{ size:=1,bytes:=1,kd:=.bool,elem:=0,zero:=[.b false],fields:=[],eqk:=none }),
 (5,{ size:=1,bytes:=1,kd:=.int .u8,elem:=0,zero:=[.u8 0],fields:=[],eqk:=none }),
 (9,{ size:=1,bytes:=16,kd:=.str,elem:=0,zero:=[.s []],fields:=[],eqk:=none }),
 (23,{ size:=1,bytes:=24,kd:=.slice,elem:=58,zero:=[.aG],fields:=[],eqk:=none }),
 (24,{ size:=1,bytes:=24,kd:=.slice,elem:=3,zero:=[.aG],fields:=[],eqk:=none }),
 (26,{ size:=2,bytes:=48,kd:=.struct,elem:=0,zero:=[.aG,.aG],fields:=[(0,23),(1,24)],eqk:=none }),
 (27,{ size:=1,bytes:=8,kd:=.int .i64,elem:=0,zero:=[.int 0],fields:=[],eqk:=none }),
 (34,{ size:=1,bytes:=1,kd:=.int .u8,elem:=0,zero:=[.u8 0],fields:=[],eqk:=none }),
 (35,{ size:=1,bytes:=1,kd:=.int .u8,elem:=0,zero:=[.u8 0],fields:=[],eqk:=none }),
 (36,{ size:=1,bytes:=1,kd:=.int .u8,elem:=0,zero:=[.u8 0],fields:=[],eqk:=none }),
 (37,{ size:=1,bytes:=1,kd:=.int .u8,elem:=0,zero:=[.u8 0],fields:=[],eqk:=none }),
 (38,{ size:=1,bytes:=1,kd:=.int .u8,elem:=0,zero:=[.u8 0],fields:=[],eqk:=none }),
 (40,{ size:=10,bytes:=32,kd:=.struct,elem:=0,zero:=[.u8 0,.u8 0,.b false,.u8 0,.u8 0,.u8 0,.u8 0,.b false,.u8 0,.s []],fields:=[(0,34),(1,35),(2,4),(3,36),(4,5),(5,37),(6,38),(7,4),(8,5),(9,9)],eqk:=some [.i,.i,.b,.i,.i,.i,.i,.b,.i,.s] }),
 (52,{ size:=1,bytes:=1,kd:=.int .u8,elem:=0,zero:=[.u8 0],fields:=[],eqk:=none }),
 (53,{ size:=1,bytes:=24,kd:=.slice,elem:=9,zero:=[.aG],fields:=[],eqk:=none }),
 (55,{ size:=2,bytes:=32,kd:=.struct,elem:=0,zero:=[.b false,.aG],fields:=[(0,4),(1,53)],eqk:=none }),
 (56,{ size:=1,bytes:=1,kd:=.int .u8,elem:=0,zero:=[.u8 0],fields:=[],eqk:=none }),
 (58,{ size:=9,bytes:=120,kd:=.struct,elem:=0,zero:=[.u8 0,.int 0,.s [],.b false,.aG,.aG,.aG,.b false,.u8 0],fields:=[(0,52),(1,3),(2,9),(3,55),(5,24),(6,24),(7,4),(8,56)],eqk:=none }),
 (62,{ size:=4,bytes:=64,kd:=.struct,elem:=0,zero:=[.aG,.aG,.int 0,.int 0],fields:=[(0,26),(2,3),(3,27)],eqk:=none }),
 (66,{ size:=4,bytes:=64,kd:=.struct,elem:=0,zero:=[.aG,.aG,.int 0,.int 0],fields:=[(0,26),(2,3),(3,3)],eqk:=none }),
 (113,{ size:=1,bytes:=24,kd:=.slice,elem:=5,zero:=[.aG],fields:=[],eqk:=none })
]
def nR:List ((Nat×Nat)×(j5×List Nat)):=[((29,1),(.seq [(0,true),(1,true),(2,true),(3,true),(4,true),(5,false),(6,true),(7,false)] .done,[3])),
 ((29,12),(.seq [(0,true),(1,true),(2,true),(3,true),(4,true),(5,false),(6,true),(7,false)] .done,[3])),
 ((30,5),(.seq [(0,true),(1,true),(2,true),(3,true),(4,true),(5,false),(6,true),(7,false)] .done,[3])),
 ((30,6),(.seq [(0,true),(1,true),(2,true),(3,true),(4,true),(5,true),(6,true),(7,true),(8,true),(9,true),(10,true),(12,true),(13,true),(11,false),(14,false),(15,true),(16,true),(17,true),(18,true),(19,true),(20,true),(21,false),(22,true),(23,true)] .done,[])),
 ((96,12),(.seq [(0,true),(1,true),(2,true),(3,true),(4,true),(5,true),(6,true),(7,true),(8,false),(9,false),(10,true),(11,true),(12,false),(13,true),(14,true)] .done,[])),
 ((96,13),(.seq [(0,true),(1,true),(2,true),(3,false),(4,false),(5,true),(6,true),(7,true),(8,false)] .done,[1000008])),
 ((119,3),(.seq [(0,true),(1,true),(2,true),(3,false),(4,false),(5,true),(6,true),(7,true),(8,false)] .done,[1000008])),
 ((127,3),(.seq [(0,true),(1,true),(6,true),(2,false)] (.fork 3 (.seq [(4,true),(5,true),(7,false),(8,true),(9,false)] .done) 7 (.seq [(3,false),(4,true),(5,true),(8,true),(9,false)] .done)),[2])),
 ((129,7),(.seq [(0,true),(1,true),(2,true),(3,true),(4,true),(5,true),(6,true),(7,false),(8,false)] .done,[1000008])),
 ((20,29),(.seq [(0,true),(1,true),(2,true),(3,true),(4,true),(5,true),(6,true),(7,true),(8,true),(9,true),(10,true),(11,true),(12,true),(13,true),(14,true),(15,true),(16,true)] .done,[])),
 ((54,6),(.seq [(1,true),(2,true),(3,true),(4,true),(0,false),(5,false),(6,false)] .done,[2])),
 ((103,3),(.seq [(0,true),(1,true),(2,true),(3,false),(4,true),(5,true),(6,false)] .done,[1000006])),
 ((107,13),(.seq [(0,true),(1,true),(2,true),(3,false),(4,true),(5,true)] .done,[])),
 ((131,26),(.seq [(0,true),(1,true),(2,true),(3,false),(4,true),(5,true),(6,false)] .done,[1000006])),
 ((133,6),(.seq [(0,true),(1,true),(2,true),(3,true),(4,true),(5,true),(6,true),(7,false),(8,false)] .done,[1000008])),
 ((22,4),(.seq [(0,true),(1,true),(2,true),(3,true),(4,true),(5,false),(6,false),(7,false)] .done,[5,1000006]))]
def nS:List (Nat×List (Nat×List (Nat×Option (Nat×Nat))×List (Nat×List (Nat×Nat×Nat)))):=[(51,[(6,[(1,none),(2,none)],[(1,[]),(2,[])])]),
 (17,[(11,[(1,none),(4,none)],[(1,[]),(4,[])]),(12,[(1,none),(3,none),(4,none),(48,none)],[(1,[]),(3,[]),(4,[])]),(14,[(1,none),(4,none)],[(1,[]),(4,[])]),(16,[(1,none),(3,none),(4,none),(48,none)],[(1,[]),(3,[]),(4,[])]),(27,[(1,none)],[(1,[])]),(28,[(1,none),(3,none)],[(1,[]),(3,[])])]),
 (61,[(3,[(1,none),(2,none),(3,none),(6,none)],[(3,[]),(6,[])]),(4,[(2,none),(3,none),(6,none),(14,none),(15,none),(16,none)],[(3,[]),(6,[])])]),
 (28,[(2,[(0,none),(1,none),(7,none),(8,none)],[])]),
 (29,[(12,[(2,none),(3,none)],[(2,[]),(3,[])]),(14,[(2,none),(3,none)],[(2,[]),(3,[])])]),
 (30,[(4,[(1,none),(3,none)],[(1,[]),(3,[])]),(6,[(1,none),(3,none)],[(1,[]),(3,[])])]),
 (75,[(3,[(1,none),(2,none),(3,none),(6,none)],[(3,[]),(6,[])]),(4,[(1,none),(3,none),(6,none)],[(3,[]),(6,[])]),(22,[(1,none),(2,none),(3,none),(6,none)],[(3,[]),(6,[])]),(26,[(1,none),(2,none),(3,none),(6,none),(16,none)],[(3,[]),(6,[])]),(31,[(1,none),(2,none),(3,none),(6,none)],[(3,[]),(6,[])]),(32,[(3,none),(6,none)],[(3,[]),(6,[])])]),
 (94,[(7,[(2,none),(4,none)],[(2,[]),(4,[])])]),
 (96,[(17,[(1,none),(2,none),(3,none),(6,none)],[(3,[]),(6,[])]),(22,[(3,none),(6,none)],[(3,[]),(6,[])])]),
 (97,[(4,[(1,none),(2,none),(4,none)],[(2,[]),(4,[])]),(11,[(1,none),(2,none),(4,none),(6,none)],[(2,[]),(4,[])]),(13,[(1,none),(2,none),(4,none)],[(2,[]),(4,[])]),(20,[(1,none),(2,none),(4,none),(6,none)],[(2,[]),(4,[])]),(31,[(2,none),(4,none)],[(2,[]),(4,[])])]),
 (127,[(24,[(2,none),(4,none)],[(2,[]),(4,[])])]),
 (128,[(11,[(6,none)],[(6,[])]),(23,[(1,none),(3,none),(6,none)],[(3,[]),(6,[])]),(24,[(1,none),(3,none),(6,none),(8,none)],[(3,[]),(6,[])]),(36,[(3,none),(6,none)],[(3,[]),(6,[])])]),
 (129,[(5,[(1,none),(3,none),(6,none),(19,none),(20,none)],[(3,[]),(6,[])])]),
 (138,[(13,[],[]),(14,[(0,none),(3,none)],[]),(21,[],[]),(22,[(0,none)],[])]),
 (139,[(9,[(2,none),(4,none)],[(2,[]),(4,[])])]),
 (140,[(7,[(1,none)],[(1,[])]),(8,[],[])]),
 (19,[(2,[(0,none),(5,none),(6,none),(9,none),(10,none),(11,none)],[(5,[]),(6,[]),(26,[(0,58,9)])]),(7,[(5,none),(6,none)],[(5,[]),(6,[]),(26,[(0,58,9)])])]),
 (35,[(2,[(0,none),(1,none),(5,none)],[])]),
 (54,[(3,[(1,none),(2,none),(4,none)],[(2,[]),(4,[])]),(4,[(1,none),(2,none),(4,none),(6,none)],[(2,[]),(4,[])])]),
 (55,[(32,[],[])]),
 (56,[(6,[(1,none),(2,none)],[(1,[]),(2,[])])]),
 (77,[(27,[(1,none),(4,none),(5,none)],[(4,[]),(5,[])]),(57,[(1,none),(2,none),(4,none),(5,none)],[(2,[]),(4,[]),(5,[])]),(58,[(1,none),(2,none),(4,none),(5,none),(13,none)],[(2,[]),(4,[]),(5,[])]),(73,[(1,none),(2,none),(4,none)],[(2,[]),(4,[])]),(74,[(1,none),(2,none),(4,none)],[(2,[]),(4,[])])]),
 (100,[(3,[(0,none)],[])]),
 (102,[(3,[(0,none),(3,none),(4,none)],[])]),
 (106,[(17,[(2,none),(3,none),(6,none)],[(3,[]),(6,[])]),(22,[(2,none),(3,none),(6,none)],[(3,[]),(6,[])]),(25,[(3,none),(6,none)],[(3,[]),(6,[])])]),
 (107,[(8,[(1,none),(2,none),(4,none),(5,none)],[(2,[]),(4,[])]),(20,[(1,none),(2,none),(4,none)],[(2,[]),(4,[])]),(23,[(2,none),(4,none)],[(2,[]),(4,[])])]),
 (108,[(4,[(1,none),(2,none),(4,none)],[(2,[]),(4,[])]),(11,[(1,none),(2,none),(4,none),(7,none)],[(2,[]),(4,[])]),(13,[(1,none),(2,none),(4,none)],[(2,[]),(4,[])]),(20,[(1,none),(2,none),(4,none),(7,none)],[(2,[]),(4,[])]),(24,[(2,none),(4,none)],[(2,[]),(4,[])]),(33,[(2,none),(4,none)],[(2,[]),(4,[])])]),
 (130,[(3,[(0,none),(3,none),(4,none)],[]),(9,[(0,none),(5,none),(6,none)],[])]),
 (131,[(21,[(4,none),(5,none)],[(4,[]),(5,[])]),(27,[(2,none),(4,none)],[(2,[]),(4,[])])]),
 (132,[(8,[(1,none),(3,none),(6,none)],[(3,[]),(6,[])]),(10,[(1,none),(3,none),(6,none)],[(3,[]),(6,[])]),(14,[(1,none),(3,none),(6,none),(7,none)],[(3,[]),(6,[])]),(19,[(1,none),(3,none),(6,none),(7,none)],[(3,[]),(6,[])]),(23,[(1,none),(2,none),(3,none),(6,none),(11,none)],[(3,[]),(6,[])]),(45,[(3,none),(6,none)],[(3,[]),(6,[])])]),
 (133,[(4,[(1,none),(2,none),(4,none),(5,none)],[(2,[]),(4,[])])]),
 (22,[(2,[(0,none),(1,none),(5,none),(6,none),(7,none)],[(5,[]),(6,[]),(29,[(0,58,9)])])]),
 (39,[(8,[(6,none),(8,none)],[(6,[]),(8,[]),(113,[(0,58,9)])]),(19,[(0,none),(5,none),(6,none),(7,none)],[(5,[]),(6,[]),(7,[]),(113,[(0,58,9)])]),(23,[(0,none),(6,none),(7,none),(11,none),(12,none)],[(6,[]),(7,[]),(11,[]),(12,[]),(113,[(0,58,9)])]),(26,[(6,none),(11,none)],[(6,[]),(11,[]),(113,[(0,58,9)])]),(27,[(5,none),(6,none)],[(5,[]),(6,[]),(113,[(0,58,9)])])])]
def sF:List (Nat×List (Option (Nat×Nat))):=[]
def sG:List (Nat×vE):=[(19,{ ps:=[.obj 0,.v,.v],objs:=[((.arg 0),[.own 58 9,.v,.v,.v])],outs:=[((.arg 0),[.own 58 9,.v,.v,.v])] }),
 (22,{ ps:=[.obj 0,.v,.v],objs:=[((.arg 0),[.own 58 9,.v,.v,.v])],outs:=[((.arg 0),[.own 58 9,.v,.v,.v])] }),
 (33,{ ps:=[.obj 0,.v,.v],objs:=[((.arg 0),[.own 58 9,.v,.v,.v])],outs:=[((.arg 0),[.own 58 9,.v,.v,.v])] }),
 (39,{ ps:=[.obj 0,.v,.v],objs:=[((.arg 0),[.own 58 9,.v,.v,.v])],outs:=[((.arg 0),[.own 58 9,.v,.v,.v])] }),
 (49,{ ps:=[.obj 0,.v,.v],objs:=[((.arg 0),[.own 58 9,.v,.v,.v])],outs:=[((.arg 0),[.own 58 9,.v,.v,.v])] })]
def kK:List (Nat×List Nat):=[]
def C (mx:Int):cU:=Gg kJ nR nS sF kK (fun g=>bif Nat.beq g 0 then some (10,.ag [.u8 20,.u8 0,.b false,.u8 0,.u8 0,.u8 0,.u8 0,.b false,.u8 0,.s []]) else bif Nat.beq g 1 then some (1,.int mx) else none) sG
end eG
namespace R3
open Go Go.Proofs Go.RowKit Go.Shelf
def GQ (B:Nat) (W:World):Nat:=match W.cell? ⟨B,0,none⟩ with | some (.string s)=>s.size | _=>0
theorem zt {B:Nat} {W:World} {s:ByteArray} (h:W.cell? ⟨B,0,none⟩=some (.string s)):GQ B W=s.size:=by unfold GQ;rw [h]
set_option maxRecDepth 100000 in
set_option maxHeartbeats 2000000 in
theorem Eu (n:Nat) (hn:1≤n) (l B:Nat) (idx:ByteArray→Int) (iW:∀ s,idx s=-1∨(0≤idx s∧idx s+1≤s.size))
  (hI:∀ (s:ByteArray) (w:World),s.size≤9223372036854775807→Calls Tryz.prog 58 #[.string s,.string ⟨#[46]⟩] w fun e w'=>e=.returned (.int .i64 (idx s))∧w'=w)
  (J J':ByteArray→World→Prop) (Jx Je:World→Prop)
  (hJ:∀ s W,J s W→W.cell? ⟨B,0,none⟩=some (.string s)∧W.cell? ⟨B+1,0,none⟩=some (.string ⟨#[46]⟩)∧W.cell? ⟨B+2,0,none⟩=some (.int .i64 0)∧s.size≤9223372036854775807)
  (V5:∀ s W,J' s W→W.cell? ⟨B,0,none⟩=some (.string s)∧W.frozen? ⟨B,0,none⟩=false∧W.cell? ⟨B+1,0,none⟩=some (.string ⟨#[46]⟩))
  (hY:∀ s W,J s W→0≤idx s→YieldAt Fence.wide (n - 1) Tryz.prog l #[.string (s.extract 0 (idx s).toNat)] W fun e W'=>(e=.returned (.bool true)∧J' s W')∨(e=.returned (.bool false)∧Jx W'))
  (hS:∀ s W,J' s W→0≤idx s→J (s.extract (idx s+1).toNat s.size) (W.setCell ⟨B,0,none⟩ (.string (s.extract (idx s+1).toNat s.size))))
  (hE:∀ s W,J s W→idx s=-1→YieldAt Fence.wide (n - 1) Tryz.prog l #[.string s] W fun e W'=>(e=.returned (.bool true)∧Je W')∨(e=.returned (.bool false)∧Jx W'))
  (W:World) (s:ByteArray) (h0:J s W) :
  CallsIn Fence.wide n Tryz.prog 137 #[.func (.yield l) #[] #[],.pointer (some ⟨B+1,0,none⟩),.pointer (some ⟨B,0,none⟩),.pointer (some ⟨B+2,0,none⟩)] W fun e W'=>(∃ v,e=.returned v)∧(Je W'∨Jx W'):=by
 refine callsIn_of_wp Tryz.func137 rfl trivial ?_ rfl
 simp only [Tryz.ntmps137,Nat.reduceAdd,Nat.reduceSub,Sx.zC]
 obtain ⟨c1,c3,c4,c5⟩:=hJ s W h0
 gi_wp2
 gi_loopw [] (fun wr=>∃ s,J s wr) (fun wr=>GQ B wr)
 case atStart=>exact ⟨s,h0⟩
 case round =>
  obtain ⟨s,hs⟩:=hrel
  obtain ⟨c1,c3,c4,c5⟩:=hJ s wr hs
  have hi:=iW s
  rcases hi with hi | ⟨Mw,RX⟩
  ·obtain ⟨fn,tmps,assign,body,hy,hR⟩:=hE s wr hs hi
   gi_wp2_with (refine ⟨trivial,?_⟩;gi_at_call 58;refine (callsIn_wide.2 (hI _ _ c5)).mono ?_;rintro e w' ⟨rfl,hw⟩;rw [hw,hi])
   refine hR.mono ?_
   rintro e W3 (⟨rfl,hk⟩ | ⟨rfl,hk⟩)
   ·gi_wp2
    go_end0
    exact ⟨⟨_,rfl⟩,.inl hk⟩
   ·gi_wp2
    go_end0
    exact ⟨⟨_,rfl⟩,.inr hk⟩
  ·obtain ⟨fn,tmps,assign,body,hy,hR⟩:=hY s wr hs Mw
   gi_wp2_with (refine ⟨trivial,?_⟩;gi_at_call 58;refine (callsIn_wide.2 (hI _ _ c5)).mono ?_;rintro e w' ⟨rfl,hw⟩;rw [hw])
   refine hR.mono ?_
   rintro e W3 (⟨rfl,hk⟩ | ⟨rfl,hk⟩)
   ·obtain ⟨d1,d2,d3⟩:=V5 s W3 hk
    gi_wp2
    refine ⟨⟨_,hS s W3 hk Mw⟩,?_⟩
    have hc:(W3.setCell ⟨B,0,none⟩ (.string (s.extract (idx s+1).toNat s.size))).cell? ⟨B,0,none⟩=some (.string (s.extract (idx s+1).toNat s.size)):=World.cell?_setCell_same' _ _ _ (by rw [d1];rfl)
    rw [zt hc,zt c1]
    simp only [ByteArray.size_extract]
    omega
   ·gi_wp2
    refine bodyPost_ret (results_none rfl _ _ _) rfl ?_
    exact ⟨⟨_,rfl⟩,.inr hk⟩
set_option maxRecDepth 100000
set_option maxHeartbeats 2000000
theorem Ew (n:Nat) (s:ByteArray) (w:World) :
  CallsIn Fence.wide n Tryz.prog 115 #[.string s,.string ⟨#[46]⟩,.int .i64 0] w fun e w'=>e=.returned (.func (.func 137) #[] #[.pointer (some ⟨w.heap.size+1,0,none⟩),.pointer (some ⟨w.heap.size,0,none⟩),.pointer (some ⟨w.heap.size+2,0,none⟩)]) ∧
   w'=((w.alloc (.cells #[.string s] 9)).alloc (.cells #[.string ⟨#[46]⟩] 9)).alloc (.cells #[.int .i64 0] 3):=by
 refine callsIn_of_wp Tryz.func115 rfl trivial ?_ rfl
 simp only [Tryz.ntmps115,Nat.reduceAdd,Nat.reduceSub,Sx.zC]
 gi_wp2
 go_ret
 exact ⟨rfl,rfl⟩
theorem qa (n:Nat) (hn:1≤n) (s:ByteArray) (w:World) :
  CallsIn Fence.wide n Tryz.prog 90 #[.string s,.string ⟨#[46]⟩] w fun e w'=>e=.returned (.func (.func 137) #[] #[.pointer (some ⟨w.heap.size+1,0,none⟩),.pointer (some ⟨w.heap.size,0,none⟩),.pointer (some ⟨w.heap.size+2,0,none⟩)]) ∧
   w'=((w.alloc (.cells #[.string s] 9)).alloc (.cells #[.string ⟨#[46]⟩] 9)).alloc (.cells #[.int .i64 0] 3):=by
 refine callsIn_of_wp Tryz.func90 rfl trivial ?_ rfl
 simp only [Tryz.ntmps90,Nat.reduceAdd,Nat.reduceSub,Sx.zC]
 gi_wp2_with (refine ⟨trivial,?_⟩;gi_at_call 115;refine (Ew _ _ _).mono ?_;rintro e w' ⟨rfl,hw⟩;rw [hw])
 go_ret
 exact ⟨rfl,rfl⟩
def sH (I' Ix:World→Prop) (W:World):Exit→Act→World→Prop
 | .normal,_,W'=>KeepsOthers W W'∧I' W'
 | .ret,_,W'=>KeepsOthers W W'∧Ix W'
 | _,_,_=>False
theorem fR {g:Operand} {p:Tmp} {assign body:Code} {Q:Exit→Act→World→Prop} {a:Act} {w:World} {n:Nat} (h1:1≤n) (h2:1≤n - 1) {B:Nat} (hB:B+2 < w.heap.size)
  (hg:a.eval g=.func (.func 137) #[] #[.pointer (some ⟨B+1,0,none⟩),.pointer (some ⟨B,0,none⟩),.pointer (some ⟨B+2,0,none⟩)])
  (idx:ByteArray→Int) (iW:∀ s,idx s=-1∨(0≤idx s∧idx s+1≤s.size))
  (hI:∀ (s:ByteArray) (w:World),s.size≤9223372036854775807→Calls Tryz.prog 58 #[.string s,.string ⟨#[46]⟩] w fun e w'=>e=.returned (.int .i64 (idx s))∧w'=w)
  (I I':ByteArray→World→Prop) (Ix Ie:World→Prop)
  (hput:∀ (G:World→Prop),(G=Ix∨G=Ie∨∃ s,G=I s∨G=I' s)→∀ (W:World) (l:Nat) (o o':Obj),w.heap.size≤l→W.heap[l]?=some o→o.isCells=false→G W→G (W.putObj l o'))
  (GR:∀ (s:ByteArray) (W:World) (o:Obj),I s W→I s (W.alloc o))
  (hJ:∀ s W,I s W→W.cell? ⟨B,0,none⟩=some (.string s)∧W.cell? ⟨B+1,0,none⟩=some (.string ⟨#[46]⟩)∧W.cell? ⟨B+2,0,none⟩=some (.int .i64 0)∧s.size≤9223372036854775807)
  (V5:∀ s W,I' s W→W.cell? ⟨B,0,none⟩=some (.string s)∧W.frozen? ⟨B,0,none⟩=false∧W.cell? ⟨B+1,0,none⟩=some (.string ⟨#[46]⟩))
  (hS:∀ s W,I' s W→0≤idx s→I (s.extract (idx s+1).toNat s.size) (W.setCell ⟨B,0,none⟩ (.string (s.extract (idx s+1).toNat s.size))))
  (a₁:ByteArray→Act)
  (KD:∀ (l:Nat) (x:ByteArray) (W:World) (K:Act→World→Prop),K (a₁ x) W →
   assign.wpIn (Fence.wide.inRound l) (n - 1 - 1) Tryz.prog (Exit.then K (fun _ _ _=>False)) { tmps:=((#[p]:Array Tmp).zip #[.string x]).foldl (fun t (p,v)=>t.setIfInBounds p v) a.tmps,defers:=[] } W)
  (fO:∀ (l:Nat) (s:ByteArray) (W:World),I s W→0≤idx s→body.wpIn (Fence.wide.inRound l) (n - 1 - 1) Tryz.prog (sH (I' s) Ix W) (a₁ (s.extract 0 (idx s).toNat)) W)
  (RY:∀ (l:Nat) (s:ByteArray) (W:World),I s W→idx s=-1→body.wpIn (Fence.wide.inRound l) (n - 1 - 1) Tryz.prog (sH Ie Ix W) (a₁ s) W)
  (s0:ByteArray) (h0:I s0 w)
  (hdone:∀ (D:Nat) (W:World),w.heap.size≤D→Ie W→W.heap[D]?=some (.deferred (some []))→Q .normal { a with defers:={ target:=.collected D,args := #[] } :: a.defers } W)
  (RZ:∀ (D:Nat) (W:World),w.heap.size≤D→Ix W→W.heap[D]?=some (.deferred (some []))→Code.ret.wpIn Fence.wide n Tryz.prog Q { a with defers:={ target:=.collected D,args := #[] } :: a.defers } W) :
  (Code.rangeFunc g #[p] assign body).wpIn Fence.wide n Tryz.prog Q a w:=by
 refine wpIn_rangeFunc ?_
 intro fn hfn
 obtain ⟨rec,uq⟩:∃ rec:LoopState→Option Code→Loop,rec=fun st pe=>{ state:=st,pending:=pe,fn,tmps:=a.tmps,params := #[p],assign,body,defers:=w.heap.size }:=⟨_,rfl⟩
 obtain ⟨W1,hW1⟩:∃ W1,(w.alloc (.deferred (some []))).alloc (.loop (rec .ready none))=W1:=⟨_,rfl⟩
 have hL1:W1.heap[w.heap.size+1]?=some (.loop (rec .ready none)):=by
  rw [← hW1];have:=World.alloc_heap_new (w.alloc (.deferred (some []))) (.loop (rec .ready none));rwa [World.size_alloc] at this
 have hK1:W1.heap[w.heap.size]?=some (.deferred (some [])):=by
  rw [← hW1];exact (Below.heap_alloc _ _ _ (by simp)).trans (World.alloc_heap_new w _)
 have hI1:I s0 W1:=by rw [← hW1];exact GR _ _ _ (GR _ _ _ h0)
 refine ⟨w.heap.size+1,[{ target:=.collected w.heap.size,args := #[] }],W1,{ target:=.fn (.func 137) #[.pointer (some ⟨B+1,0,none⟩),.pointer (some ⟨B,0,none⟩),.pointer (some ⟨B+2,0,none⟩)],args := #[.func (.yield (w.heap.size+1)) #[] #[]] },W1,137,
  #[.func (.yield (w.heap.size+1)) #[] #[]] ++ #[.pointer (some ⟨B+1,0,none⟩),.pointer (some ⟨B,0,none⟩),.pointer (some ⟨B+2,0,none⟩)],W1,?_,?_,?_,?_,fun _=>h1,?_⟩
 ·rw [← hW1,uq];exact run_enterLoop_outer _ _ _ _ _
 ·simp only [resolve,hg]
  simp [go_sem]
 ·intro f' hf';trivial
 ·simp [invoke,go_sem,enters_of Tryz.func137 (by kernel_rfl) rfl]
 ·
  have round:∀ (x:ByteArray) (G G':World→Prop) (W:World),G W→(∀ (l:Nat) (o o':Obj),w.heap.size≤l→W.heap[l]?=some o→o.isCells=false→G (W.putObj l o')) →
    (∀ (W:World) (l:Nat) (o o':Obj),w.heap.size≤l→W.heap[l]?=some o→o.isCells=false→G' W→G' (W.putObj l o')) →
    (∀ W,G W→body.wpIn (Fence.wide.inRound (w.heap.size+1)) (n - 1 - 1) Tryz.prog (sH G' Ix W) (a₁ x) W) →
    W.heap[w.heap.size+1]?=some (.loop (rec .ready none))→W.heap[w.heap.size]?=some (.deferred (some [])) →
    YieldAt Fence.wide (n - 1 - 1) Tryz.prog (w.heap.size+1) #[.string x] W fun e W' =>
     (e=.returned (.bool true)∧G' W'∧W'.heap[w.heap.size+1]?=some (.loop (rec .ready none))∧W'.heap[w.heap.size]?=some (.deferred (some []))) ∨
     (e=.returned (.bool false)∧Ix W'∧W'.heap[w.heap.size+1]?=some (.loop (rec .done (some .ret)))∧W'.heap[w.heap.size]?=some (.deferred (some []))):=by
   intro x G G' W hi R1 OH hb hl hk
   have hlt:w.heap.size+1 < W.heap.size:=(Array.getElem?_eq_some_iff.1 hl).1
   have hy:=run_yield (P:=Tryz.prog) (args := #[.string x]) hl (by rw [uq];rfl)
   rw [uq] at hy
   refine ⟨fn,_,assign,body,hy,roundIn_of_wpIn hfn (KD _ x W _ ⟨_,run_beginRound hl (by rw [uq]),?_⟩)⟩
   have hl2:(W.putObj (w.heap.size+1) (.loop { rec .ready none with state:=.busy })).heap[w.heap.size+1]?=some (.loop { rec .ready none with state:=.busy }):=World.putObj_heap_same hlt
   have hk2:(W.putObj (w.heap.size+1) (.loop { rec .ready none with state:=.busy })).heap[w.heap.size]?=some (.deferred (some [])):=(World.putObj_heap_other (by omega)).trans hk
   refine wpIn_mono (hb _ (R1 _ _ _ (by omega) hl rfl)) ?_
   have fin:∀ (jump:Option Code) (W3:World),KeepsOthers (W.putObj (w.heap.size+1) (.loop { rec .ready none with state:=.busy })) W3 →
     (Instr.endRound (w.heap.size+1) jump).run Tryz.prog W3=.ok (.bool jump.isNone) (W3.putObj (w.heap.size+1) (.loop (rec (if jump.isNone then .ready else .done) jump))) ∧
     W3.heap[w.heap.size+1]?=some (.loop { rec .ready none with state:=.busy }) ∧
     (W3.putObj (w.heap.size+1) (.loop (rec (if jump.isNone then .ready else .done) jump))).heap[w.heap.size+1]?=some (.loop (rec (if jump.isNone then .ready else .done) jump)) ∧
     (W3.putObj (w.heap.size+1) (.loop (rec (if jump.isNone then .ready else .done) jump))).heap[w.heap.size]?=some (.deferred (some [])):=fun jump W3 hk3=>by
    have Fh:=hk3.same _ _ hl2 rfl
    have:=run_endRound (P:=Tryz.prog) jump Fh
    rw [uq] at this ⊢
    exact ⟨this,by rw [uq] at Fh;exact Fh,World.putObj_heap_same (Array.getElem?_eq_some_iff.1 Fh).1,(World.putObj_heap_other (by omega)).trans (hk3.same _ _ hk2 rfl)⟩
   rintro e a3 W3 hp
   cases e with
   | normal =>
    obtain ⟨hk3,OI⟩:=hp
    obtain ⟨hr,Fh,hl4,hk4⟩:=fin none W3 hk3
    exact ⟨_,_,hr,.inl ⟨rfl,OH _ _ _ _ (by omega) Fh rfl OI,hl4,hk4⟩⟩
   | ret =>
    obtain ⟨hk3,OI⟩:=hp
    obtain ⟨hr,Fh,hl4,hk4⟩:=fin (some .ret) W3 hk3
    exact ⟨_,_,hr,.inr ⟨rfl,hput Ix (.inl rfl) _ _ _ _ (by omega) Fh rfl OI,hl4,hk4⟩⟩
   | exit id=>exact hp.elim
   | goto t=>exact hp.elim
   | panic ch=>exact hp.elim
   | outgrown=>exact hp.elim
  refine (Eu (n - 1) h2 (w.heap.size+1) B idx iW hI
   (fun s W=>I s W∧W.heap[w.heap.size+1]?=some (.loop (rec .ready none))∧W.heap[w.heap.size]?=some (.deferred (some [])))
   (fun s W=>I' s W∧W.heap[w.heap.size+1]?=some (.loop (rec .ready none))∧W.heap[w.heap.size]?=some (.deferred (some [])))
   (fun W=>Ix W∧W.heap[w.heap.size+1]?=some (.loop (rec .done (some .ret)))∧W.heap[w.heap.size]?=some (.deferred (some [])))
   (fun W=>Ie W∧W.heap[w.heap.size+1]?=some (.loop (rec .ready none))∧W.heap[w.heap.size]?=some (.deferred (some [])))
   (fun s W h=>hJ s W h.1) (fun s W h=>V5 s W h.1) ?_ ?_ ?_ W1 s0 ⟨hI1,hL1,hK1⟩).mono ?_
  ·rintro s W ⟨hi,hl,hk⟩ hx
   exact round _ (I s) (I' s) W hi (fun l o o' q1 q2 q3=>hput _ (.inr (.inr ⟨s,.inl rfl⟩)) W l o o' q1 q2 q3 hi) (hput _ (.inr (.inr ⟨s,.inr rfl⟩))) (fun W hi=>fO _ s W hi hx) hl hk
  ·rintro s W ⟨hi,hl,hk⟩ hx
   refine ⟨hS s W hi hx,?_,?_⟩
   ·rw [Below.heap_setCell _ _ _ _ (by show w.heap.size+1≠B;omega)];exact hl
   ·rw [Below.heap_setCell _ _ _ _ (by show w.heap.size≠B;omega)];exact hk
  ·rintro s W ⟨hi,hl,hk⟩ hx
   exact round _ (I s) Ie W hi (fun l o o' q1 q2 q3=>hput _ (.inr (.inr ⟨s,.inl rfl⟩)) W l o o' q1 q2 q3 hi) (hput _ (.inr (.inl rfl))) (fun W hi=>RY _ s W hi hx) hl hk
  ·
   rintro e W2 ⟨⟨v,rfl⟩,(⟨hi,hl,hk⟩ | ⟨hi,hl,hk⟩)⟩
   ·exact ⟨none,_,by have:=run_endLoop (P:=Tryz.prog) hl (by rw [uq];simp);rw [uq] at this;exact this,hdone _ _ (Nat.le_refl _) (hput _ (.inr (.inl rfl)) _ _ _ _ (by omega) hl rfl hi) ((World.putObj_heap_other (by omega)).trans hk)⟩
   ·exact ⟨some .ret,_,by have:=run_endLoop (P:=Tryz.prog) hl (by rw [uq];simp);rw [uq] at this;exact this,RZ _ _ (Nat.le_refl _) (hput _ (.inl rfl) _ _ _ _ (by omega) hl rfl hi) ((World.putObj_heap_other (by omega)).trans hk)⟩
set_option maxRecDepth 100000
set_option maxHeartbeats 4000000
inductive Sp (idx:ByteArray→Int):ByteArray→List ByteArray→Prop
 | last (s:ByteArray) (h:idx s=-1):Sp idx s [s]
 | more (s:ByteArray) (h:0≤idx s) (R:List ByteArray) (hR:Sp idx (s.extract (idx s+1).toNat s.size) R):Sp idx s (s.extract 0 (idx s).toNat :: R)
theorem Sp.total (idx:ByteArray→Int) (iW:∀ s,idx s=-1∨(0≤idx s∧idx s+1≤s.size)) (s:ByteArray):∃ L,Sp idx s L:=by
 generalize hn:s.size=n
 induction n using Nat.strongRecOn generalizing s with
 | _ n ih =>
  rcases iW s with h | ⟨h1,h2⟩
  ·exact ⟨_,.last s h⟩
  ·obtain ⟨R,hR⟩:=ih (s.extract (idx s+1).toNat s.size).size (by simp only [ByteArray.size_extract];omega) _ rfl
   exact ⟨_,.more s h1 R hR⟩
theorem Sp.cons {idx:ByteArray→Int} {s:ByteArray} {L:List ByteArray} (h:Sp idx s L):∃ x L',L=x :: L':=by cases h <;> exact ⟨_,_,rfl⟩
theorem Sp.len {idx:ByteArray→Int} (iW:∀ s,idx s=-1∨(0≤idx s∧idx s+1≤s.size)) {s:ByteArray} {L:List ByteArray} (h:Sp idx s L):L.length≤s.size+1:=by
 induction h with
 | last s h=>simp
 | more s h R hR ih =>
  have:=iW s
  simp only [ByteArray.size_extract] at ih
  simp only [List.length_cons]
  omega
structure bC (N:Nat) (w:World) (root:Bool) (sv:Value) (pre:List ByteArray) (rest:ByteArray) (W:World):Prop where
 below:Below N w W
 size:N+6≤W.heap.size
 r0:W.heap[N]?=some (.cells #[.bool false,.slice none 0 0] 55)
 r1:W.heap[N+1]?=some (.cells #[.bool false] 4)
 wv:W.heap[N+1+1]?=some (.cells #[.bool root,sv] 55)
 bs:W.heap[N+1+1+1]?=some (.cells #[.string rest] 9)
 bp:W.heap[N+1+1+1+1]?=some (.cells #[.string ⟨#[46]⟩] 9)
 bk:W.heap[N+1+1+1+2]?=some (.cells #[.int .i64 0] 3)
 row:W.ownsRow (N+6) 9 1 sv pre.length (pre.map .string)
theorem cell1 {W:World} {b:Nat} {x:Value} {t:TypeId} (h:W.heap[b]?=some (.cells #[x] t)):W.cell? ⟨b,0,none⟩=some x∧W.frozen? ⟨b,0,none⟩=false:=by simp [World.cell?,World.frozen?,h]
theorem aP {W:World} {b:Nat} {x y:Value} {t:TypeId} (h:W.heap[b]?=some (.cells #[x,y] t)):W.cell? ⟨b,0,none⟩=some x∧W.cell? ⟨b,1,none⟩=some y∧W.frozen? ⟨b,0,none⟩=false∧W.frozen? ⟨b,1,none⟩=false:=by simp [World.cell?,World.frozen?,h]
theorem bu {w:World} {o:Obj} {i:Nat} (h:i=w.heap.size):(w.alloc o).heap[i]?=some o:=by subst h;exact World.alloc_heap_new w o
theorem aB {w:World} {o:Obj} {i:Nat} (h:i < w.heap.size):(w.alloc o).heap[i]?=w.heap[i]?:=Below.heap_alloc w o i h
theorem iX {W:World} {base:Nat} {e:TypeId} {size:Nat} {v:Value} {k:Nat} {xs:List Value} (h:W.ownsRow base e size v k xs) {j:Nat} (hj:v.ownBlock=some j):base≤j∧∃ o:Obj,W.heap[j]?=some o∧o.isCells=true:=by
 rcases h.2 with ⟨rfl,_⟩ | ⟨g,cap,cur,rfl,hb,hgb,_⟩
 ·simp [Value.ownBlock] at hj
 ·obtain rfl:g=j:=by simpa [Value.ownBlock] using hj
  exact ⟨hb,_,hgb,rfl⟩
theorem au {W:World} {b k:Nat} {i:Nat} {v:Value} (h:k≠b):(W.setCell ⟨b,i,none⟩ v).heap[k]?=W.heap[k]?:=Below.heap_setCell W _ v k h
theorem dQ (W:World) (b i:Nat) (v:Value):W.grownBy (W.setCell ⟨b,i,none⟩ v) (some b) :=
 ⟨rfl,rfl,rfl,(KeepsWalks.setCell W _ v).size,fun k _ hk=>au (fun e=>hk (by rw [e]))⟩
theorem mR {W:World} {b:Nat} {x y:Value} {t:TypeId} (v:Value) (h:W.heap[b]?=some (.cells #[x,y] t)):(W.setCell ⟨b,1,none⟩ v).heap[b]?=some (.cells #[x,v] t):=by
 obtain ⟨hlt,hk⟩:=Array.getElem?_eq_some_iff.1 h
 show (W.heap.modify b _)[b]?=_
 rw [Array.getElem?_eq_getElem (by rw [Array.size_modify];exact hlt),Array.getElem_modify_self,hk]
 rfl
theorem nT {W:World} {b:Nat} {x:Value} {t:TypeId} (v:Value) (h:W.heap[b]?=some (.cells #[x] t)):(W.setCell ⟨b,0,none⟩ v).heap[b]?=some (.cells #[v] t):=by
 obtain ⟨hlt,hk⟩:=Array.getElem?_eq_some_iff.1 h
 show (W.heap.modify b _)[b]?=_
 rw [Array.getElem?_eq_getElem (by rw [Array.size_modify];exact hlt),Array.getElem_modify_self,hk]
 rfl
theorem bD (W:World) (a:Addr) (v:Value):(W.setCell a v).heap.size=W.heap.size:=by show (W.heap.modify _ _).size=_;rw [Array.size_modify]
theorem bC.appended {N:Nat} {w:World} {root:Bool} {sv:Value} {pre:List ByteArray} {rest:ByteArray} {W w1:World} (hm:bC N w root sv pre rest W) {tmp:Obj} {v':Value} {x:ByteArray}
  (hown':w1.ownsRow (N+6) 9 1 v' (pre.length+1) (pre.map .string ++ [.string x])) (hgrow:(W.alloc tmp).grownBy w1 sv.ownBlock) :
  w1.heap[N+1+1]?=some (.cells #[.bool root,sv] 55)∧KeepsOthers W (w1.setCell ⟨N+1+1,1,none⟩ v')∧bC N w root v' (pre ++ [x]) rest (w1.setCell ⟨N+1+1,1,none⟩ v'):=by
 have old:∀ k,k < N+6→w1.heap[k]?=W.heap[k]?:=fun k hk=>by
  have hsz:=hm.size
  rw [hgrow.block k (by simp;omega) (fun e=>by have:=(iX hm.row e.symm).1;omega)]
  exact aB (by omega)
 have GS:∀ k,k < N+6→k≠N+1+1→(w1.setCell ⟨N+1+1,1,none⟩ v').heap[k]?=W.heap[k]?:=fun k hk hne=>(au hne).trans (old k hk)
 have YD:w1.heap[N+1+1]?=some (.cells #[.bool root,sv] 55):=(old _ (by omega)).trans hm.wv
 refine ⟨YD,?_,?_⟩
 ·refine ((KeepsOthers.alloc W tmp).trans (KeepsOthers.of_grownBy hgrow fun j o ej hj=>?_)).trans (KeepsOthers.setCell _ _ _)
  obtain ⟨_,o',h1,h2⟩:=iX (hm.row.alloc tmp) ej
  rw [h1] at hj;cases hj;exact h2
 ·have hb:Below N W (w1.setCell ⟨N+1+1,1,none⟩ v'):=by
   refine (((Below.refl N W).alloc (by have:=hm.size;omega) tmp).grown hgrow (by simp;have:=hm.size;omega) fun j ej=>?_).setCell (p:=⟨N+1+1,1,none⟩) (by show N≤N+1+1;omega) v'
   have:=(iX hm.row ej).1;omega
  exact {
   below:=hm.below.trans hb
   size:=by have:=hm.size;have:=hb.size;omega
   r0:=(GS _ (by omega) (by omega)).trans hm.r0
   r1:=(GS _ (by omega) (by omega)).trans hm.r1
   wv:=mR v' YD
   bs:=(GS _ (by omega) (by omega)).trans hm.bs
   bp:=(GS _ (by omega) (by omega)).trans hm.bp
   bk:=(GS _ (by omega) (by omega)).trans hm.bk
   row:=by
    have:=hown'.kept (dQ w1 (N+1+1) 1 v') (.inr fun e=>by have:=(iX hown' e).1;omega)
    simpa using this }
theorem bC.dX {N:Nat} {w W:World} (hb:Below N w W) {l:Nat} {o:Obj} (o':Obj) (hl:N≤l) (jA:W.heap[l]?=some o):Below N w (W.putObj l o') :=
 hb.trans ((Below.refl N W).grown (grownBy_putObj' W l o') (by have:=(Array.getElem?_eq_some_iff.1 jA).1;omega) fun j ej=>by cases ej;exact hl)
theorem bC.put {N:Nat} {w:World} {root:Bool} {sv:Value} {pre:List ByteArray} {rest:ByteArray} {W:World} (hm:bC N w root sv pre rest W) {l:Nat} {o:Obj} (o':Obj) (hl:N+6≤l) (jA:W.heap[l]?=some o) (KE:o.isCells=false):bC N w root sv pre rest (W.putObj l o') where
 below:=bC.dX hm.below o' (by omega) jA
 size:=by simpa using hm.size
 r0:=(World.putObj_heap_other (by omega)).trans hm.r0
 r1:=(World.putObj_heap_other (by omega)).trans hm.r1
 wv:=(World.putObj_heap_other (by omega)).trans hm.wv
 bs:=(World.putObj_heap_other (by omega)).trans hm.bs
 bp:=(World.putObj_heap_other (by omega)).trans hm.bp
 bk:=(World.putObj_heap_other (by omega)).trans hm.bk
 row:=ownsRow_putObj hm.row o' jA KE
theorem bC.alloc {N:Nat} {w:World} {root:Bool} {sv:Value} {pre:List ByteArray} {rest:ByteArray} {W:World} (hm:bC N w root sv pre rest W) (o:Obj):bC N w root sv pre rest (W.alloc o) where
 below:=hm.below.alloc (by have:=hm.size;omega) _
 size:=by have:=hm.size;simp;omega
 r0:=(aB (by have:=hm.size;omega)).trans hm.r0
 r1:=(aB (by have:=hm.size;omega)).trans hm.r1
 wv:=(aB (by have:=hm.size;omega)).trans hm.wv
 bs:=(aB (by have:=hm.size;omega)).trans hm.bs
 bp:=(aB (by have:=hm.size;omega)).trans hm.bp
 bk:=(aB (by have:=hm.size;omega)).trans hm.bk
 row:=hm.row.alloc o
theorem bC.set {N:Nat} {w:World} {root:Bool} {sv:Value} {pre:List ByteArray} {rest:ByteArray} {W:World} (hm:bC N w root sv pre rest W) (rest':ByteArray):bC N w root sv pre rest' (W.setCell ⟨N+1+1+1,0,none⟩ (.string rest')) where
 below:=hm.below.trans ((Below.refl N W).setCell (p:=⟨N+1+1+1,0,none⟩) (by show N≤N+1+1+1;omega) _)
 size:=by rw [bD];exact hm.size
 r0:=(au (by omega)).trans hm.r0
 r1:=(au (by omega)).trans hm.r1
 wv:=(au (by omega)).trans hm.wv
 bs:=nT _ hm.bs
 bp:=(au (by omega)).trans hm.bp
 bk:=(au (by omega)).trans hm.bk
 row:=hm.row.kept (dQ W (N+1+1+1) 0 _) (.inr fun e=>by have:=(iX hm.row e).1;omega)
theorem bE {W:World} {b:Nat} {x y:Value} {t:TypeId} (u v:Value) (h:W.heap[b]?=some (.cells #[x,y] t)):((W.setCell ⟨b,0,none⟩ u).setCell ⟨b,1,none⟩ v).heap[b]?=some (.cells #[u,v] t):=by
 refine mR v (x:=u) (y:=y) ?_
 obtain ⟨hlt,hk⟩:=Array.getElem?_eq_some_iff.1 h
 show (W.heap.modify b _)[b]?=_
 rw [Array.getElem?_eq_getElem (by rw [Array.size_modify];exact hlt),Array.getElem_modify_self,hk]
 rfl
theorem bC.failed {N:Nat} {w:World} {root:Bool} {sv:Value} {pre:List ByteArray} {rest:ByteArray} {W:World} (hm:bC N w root sv pre rest W) {A:Prop} (hA:A) :
  KeepsOthers W (((W.setCell ⟨N,0,none⟩ (.bool false)).setCell ⟨N,1,none⟩ (.slice none 0 0)).setCell ⟨N+1,0,none⟩ (.bool false))∧A∧Below N w (((W.setCell ⟨N,0,none⟩ (.bool false)).setCell ⟨N,1,none⟩ (.slice none 0 0)).setCell ⟨N+1,0,none⟩ (.bool false)) ∧
   (((W.setCell ⟨N,0,none⟩ (.bool false)).setCell ⟨N,1,none⟩ (.slice none 0 0)).setCell ⟨N+1,0,none⟩ (.bool false)).heap[N]?=some (.cells #[.bool false,.slice none 0 0] 55) ∧
   (((W.setCell ⟨N,0,none⟩ (.bool false)).setCell ⟨N,1,none⟩ (.slice none 0 0)).setCell ⟨N+1,0,none⟩ (.bool false)).heap[N+1]?=some (.cells #[.bool false] 4) :=
 ⟨((KeepsOthers.setCell _ _ _).trans (KeepsOthers.setCell _ _ _)).trans (KeepsOthers.setCell _ _ _),hA,
  hm.below.trans ((((Below.refl N W).setCell (p:=⟨N,0,none⟩) (Nat.le_refl _) _).setCell (p:=⟨N,1,none⟩) (Nat.le_refl _) _).setCell (p:=⟨N+1,0,none⟩) (by show N≤N+1;omega) _),
  (au (by omega)).trans (bE _ _ hm.r0),nT _ ((au (by omega)).trans ((au (by omega)).trans hm.r1))⟩
theorem bC.stored {N:Nat} {w:World} {root:Bool} {sv:Value} {pre:List ByteArray} {rest:ByteArray} {W:World} (hm:bC N w root sv pre rest W) (u v b:Value) :
  KeepsOthers W (((W.setCell ⟨N,0,none⟩ u).setCell ⟨N,1,none⟩ v).setCell ⟨N+1,0,none⟩ b)∧Below N w (((W.setCell ⟨N,0,none⟩ u).setCell ⟨N,1,none⟩ v).setCell ⟨N+1,0,none⟩ b) ∧
   (((W.setCell ⟨N,0,none⟩ u).setCell ⟨N,1,none⟩ v).setCell ⟨N+1,0,none⟩ b).heap[N]?=some (.cells #[u,v] 55) ∧
   (((W.setCell ⟨N,0,none⟩ u).setCell ⟨N,1,none⟩ v).setCell ⟨N+1,0,none⟩ b).heap[N+1]?=some (.cells #[b] 4) ∧
   (((W.setCell ⟨N,0,none⟩ u).setCell ⟨N,1,none⟩ v).setCell ⟨N+1,0,none⟩ b).ownsRow (N+6) 9 1 sv pre.length (pre.map .string):=by
 have hne:∀ k,k < N+6→some k≠sv.ownBlock:=fun k hk e=>by have:=(iX hm.row e.symm).1;omega
 exact ⟨((KeepsOthers.setCell _ _ _).trans (KeepsOthers.setCell _ _ _)).trans (KeepsOthers.setCell _ _ _),
  hm.below.trans ((((Below.refl N W).setCell (p:=⟨N,0,none⟩) (Nat.le_refl _) _).setCell (p:=⟨N,1,none⟩) (Nat.le_refl _) _).setCell (p:=⟨N+1,0,none⟩) (by show N≤N+1;omega) _),
  (au (by omega)).trans (bE _ _ hm.r0),nT _ ((au (by omega)).trans ((au (by omega)).trans hm.r1)),
  ((hm.row.kept (dQ W N 0 u) (.inr (hne N (by omega)).symm)).kept (dQ _ N 1 v) (.inr (hne N (by omega)).symm)).kept (dQ _ (N+1) 0 b) (.inr (hne (N+1) (by omega)).symm)⟩
theorem kL {W:World} {base base':Nat} {e:TypeId} {size:Nat} {v:Value} {k:Nat} {xs:List Value} (h:W.ownsRow base e size v k xs) (hb:base'≤base):W.ownsRow base' e size v k xs:=by
 refine ⟨h.1,?_⟩
 rcases h.2 with q | ⟨g,cap,cur,q1,q2,q3⟩
 ·exact .inl q
 ·exact .inr ⟨g,cap,cur,q1,Nat.le_trans hb q2,q3⟩
theorem results27 (T:Array Value) (W:World) (N:Nat) (x y b:Value) (t2:T[2]?.getD undef=.pointer (some ⟨N,0,none⟩)) (t3:T[3]?.getD undef=.pointer (some ⟨N+1,0,none⟩))
  (h0:W.heap[N]?=some (.cells #[x,y] 55)) (h1:W.heap[N+1]?=some (.cells #[b] 4)) :
  (results Tryz.f73 T).run Tryz.prog W=.ok (.tuple #[.agg #[x,y],b]) W:=by
 have hr:Tryz.f73.results = #[.cell 2 55,.cell 3 4]:=by kernel_rfl
 have l1:(loadVar 55 ⟨N,0,none⟩).run Tryz.prog W=.ok (.agg #[x,y]) W:=by
  simp [loadVar,go_sem,(aP h0).1,(aP h0).2.1,Result.andThen]
 have l2:(loadVar 4 ⟨N+1,0,none⟩).run Tryz.prog W=.ok b W:=by
  simp [loadVar,go_sem,(cell1 h1).1]
 unfold results
 rw [hr]
 simp [t2,t3,Sem.run_bind,asAddr,l1,l2,Result.andThen]
theorem zu:(Tryz.prog.info? 9).map (fun i=>(i.zero,i.size,i.bytes))=some (some (.string ⟨#[]⟩),1,16):=by kernel_rfl
def CD (idx:ByteArray→Int) (nm pfx:ByteArray→Bool) (N:Nat) (s:ByteArray) (v:Value) (W:World):Prop :=
 ((s.toList == [46])=true∧v=.tuple #[.agg #[.bool false,.slice none 0 0],.bool true]) ∨
 ((s.toList == [46])=false∧(s.toList == [36])=true∧v=.tuple #[.agg #[.bool true,.slice none 0 0],.bool true]) ∨
 ((s.toList == [46])=false∧(s.toList == [36])=false∧∃ L,Sp idx (if pfx s then s.extract 2 s.size else s) L ∧
  (((L.all nm=false∨8 < L.length)∧v=.tuple #[.agg #[.bool false,.slice none 0 0],.bool false]) ∨
   (L.all nm=true∧L.length≤8∧∃ sv,v=.tuple #[.agg #[.bool (pfx s),sv],.bool true]∧W.ownsRow N 9 1 sv L.length (L.map .string))))
theorem OJ (n:Nat) (hn:4≤n) (idx:ByteArray→Int) (nm pfx:ByteArray→Bool) (V6:∀ s,pfx s=true→2≤s.size) (iW:∀ s,idx s=-1∨(0≤idx s∧idx s+1≤s.size))
  (hP:∀ (s:ByteArray) (w:World),Calls Tryz.prog 42 #[.string s,.string ⟨#[36,46]⟩] w fun e w'=>e=.returned (.bool (pfx s))∧w'=w)
  (hI:∀ (s:ByteArray) (w:World),s.size≤9223372036854775807→Calls Tryz.prog 58 #[.string s,.string ⟨#[46]⟩] w fun e w'=>e=.returned (.int .i64 (idx s))∧w'=w)
  (hN:∀ (s:ByteArray) (w:World),s.size≤9223372036854775807→Calls Tryz.prog 91 #[.string s] w fun e w'=>e=.returned (.bool (nm s))∧w'=w)
  (s:ByteArray) (hs:s.size≤1000000000) (w:World) :
  CallsIn Fence.wide n Tryz.prog 73 #[.string s] w fun e w'=>∃ v,e=.returned v∧Below w.heap.size w w'∧CD idx nm pfx w.heap.size s v w':=by
 have h1:1≤n - 1:=by omega
 have h0:1≤n:=by omega
 have h2:1≤n - 1 - 1:=by omega
 refine callsIn_of_wp_marks Tryz.func73 rfl trivial ?_ rfl
 simp only [Tryz.ntmps73,Nat.reduceAdd,Nat.reduceSub,Sx.zC]
 cases hx:pfx s with
 | false =>
  gi_wp2_with (first | (refine ⟨trivial,?_⟩;gi_at_call 42;refine (callsIn_wide.2 (hP _ _)).mono ?_;rintro e w' ⟨rfl,hw⟩;rw [hw,hx]) | (refine ⟨trivial,?_⟩;gi_at_call 90;refine (qa _ h1 _ _).mono ?_;rintro e w' ⟨rfl,hw⟩;rw [hw]))
  ·refine ⟨_,results27 _ _ w.heap.size (.bool false) (.slice none 0 0) (.bool true) rfl rfl ?_ ?_,_,rfl,?_,.inl ⟨by assumption,rfl⟩⟩
   ·((try simp only [World.size_alloc]);repeat (first | exact bu (by first | (simp only [World.size_alloc];done) | (simp only [World.size_alloc];omega) | omega) | rw [aB (by simp only [World.size_alloc];omega)]))
   ·((try simp only [World.size_alloc]);repeat (first | exact bu (by first | (simp only [World.size_alloc];done) | (simp only [World.size_alloc];omega) | omega) | rw [aB (by simp only [World.size_alloc];omega)]))
   ·exact (((Below.refl _ w).alloc (Nat.le_refl _) _).alloc (by simp) _).alloc (by simp;omega) _
  ·refine ⟨_,results27 _ _ w.heap.size (.bool true) (.slice none 0 0) (.bool true) rfl rfl ?_ ?_,_,rfl,?_,.inr (.inl ⟨by assumption,by assumption,rfl⟩)⟩
   ·((try simp only [World.size_alloc]);repeat (first | exact bu (by first | (simp only [World.size_alloc];done) | (simp only [World.size_alloc];omega) | omega) | rw [aB (by simp only [World.size_alloc];omega)]))
   ·((try simp only [World.size_alloc]);repeat (first | exact bu (by first | (simp only [World.size_alloc];done) | (simp only [World.size_alloc];omega) | omega) | rw [aB (by simp only [World.size_alloc];omega)]))
   ·exact (((Below.refl _ w).alloc (Nat.le_refl _) _).alloc (by simp) _).alloc (by simp;omega) _
  ·obtain ⟨L,Ex⟩:=Sp.total idx iW s
   have QJ:=Ex.len iW
   refine fR h0 h1 (B:=w.heap.size+1+1+1) (by simp) rfl idx iW hI
    (fun s W=>∃ pre R sv,L=pre ++ R∧Sp idx s R∧pre.all nm=true∧s.size≤1000000000∧bC w.heap.size w false sv pre s W)
    (fun s W=>∃ pre R sv,L=pre ++ R∧(0≤idx s→Sp idx (s.extract (idx s+1).toNat s.size) R)∧pre.all nm=true∧s.size≤1000000000∧bC w.heap.size w false sv pre s W)
    (fun W=>L.all nm=false∧Below w.heap.size w W∧W.heap[w.heap.size]?=some (.cells #[.bool false,.slice none 0 0] 55)∧W.heap[w.heap.size+1]?=some (.cells #[.bool false] 4))
    (fun W=>L.all nm=true∧∃ sv rest,bC w.heap.size w false sv L rest W)
    ?put ?alloc ?J ?J' ?S
    (fun x=>{ tmps := #[.string s,undef,.pointer (some ⟨w.heap.size,0,none⟩),.pointer (some ⟨w.heap.size+1,0,none⟩),.pointer (some ⟨w.heap.size+1+1,0,none⟩),.string x,.bool false,.string s,.bool false,undef,.bool false,.string s,.bool false,undef,.bool false,
     .string s,.bool false,undef,undef,undef,.string s,.func (.func 137) #[] #[.pointer (some ⟨w.heap.size+1+1+1+1,0,none⟩),.pointer (some ⟨w.heap.size+1+1+1,0,none⟩),.pointer (some ⟨w.heap.size+1+1+1+2,0,none⟩)],.string x,
     undef,undef,undef,undef,undef,undef,undef,undef,undef,undef,undef,undef,undef,undef,undef,undef],defers:=[] })
    ?assign ?body ?lst s ?start ?done ?stop
   case assign =>
    intro l x W K hK
    have GU:=@Oper.semAt_some
    gi_wp2
    exact hK
   case body =>
    rintro l s W ⟨pre,R,sv,hL,OL,hall,hsz,hm⟩ hi
    have GU:=@Oper.semAt_some
    obtain ⟨v1,v2,v3,v4⟩:=aP hm.wv
    obtain ⟨r1,r2,r3,r4⟩:=aP hm.r0
    obtain ⟨q1,q2⟩:=cell1 hm.r1
    have hlen:pre.length≤1000000001:=by rw [hL,List.length_append] at QJ;omega
    have GV:(s.extract 0 (idx s).toNat).size≤9223372036854775807:=by simp only [ByteArray.size_extract];omega
    obtain ⟨R',rfl,V7⟩:∃ R',R=s.extract 0 (idx s).toNat :: R'∧Sp idx (s.extract (idx s+1).toNat s.size) R':=by
     cases OL with
     | last _ h=>omega
     | more _ h R hR=>exact ⟨R,rfl,hR⟩
    cases hx:nm (s.extract 0 (idx s).toNat) with
    | false =>
     gi_wp2_with (refine ⟨trivial,?_⟩;gi_at_call 91;refine (CallsIn.inRound l (callsIn_wide.2 (hN _ _ GV))).mono ?_;rintro e w' ⟨rfl,hw⟩;rw [hw,hx])
     exact hm.failed (by rw [hL];simp [hx])
    | true =>
     obtain ⟨i0,ni,hz0,hz1,hz2⟩:=info_parts zu
     have hrow:=hm.row
     gi_wp2_with (first
      | (refine ⟨trivial,?_⟩;gi_at_call 91;refine (CallsIn.inRound l (callsIn_wide.2 (hN _ _ GV))).mono ?_;rintro e w' ⟨rfl,hw⟩;rw [hw,hx])
      | (gi_at_builtin;refine wpListIn_append_own _ rfl _ _ 53 rfl (w.heap.size+6) 9 i0 (.string ⟨#[]⟩) 1 16 Tryz.underlying53 ni hz0 hz1 hz2 rfl (by decide) _ _ _ rfl (hrow.alloc _) ⟨W.heap.size,0,none⟩ 1 1 [.string (s.extract 0 (idx s).toNat)] rfl rfl (cell_one_new _ _ _) (by simp [Value.oneCell']) (by have:maxLen=9223372036854775807:=rfl;omega) (by omega) (by have:=hm.size;simp;omega) ?_;intro v' w1 hown' hgrow _;obtain ⟨g',cap',rfl⟩:=ownsRow_succ hown';obtain ⟨AY,uj,KF⟩:=hm.appended hown' hgrow;obtain ⟨y1,y2,y3,y4⟩:=aP AY))
     exact ⟨uj,pre ++ [s.extract 0 (idx s).toNat],R',_,by rw [hL];simp,fun _=>V7,by simp [hall,hx],hsz,KF⟩
   case lst =>
    rintro l s W ⟨pre,R,sv,hL,OL,hall,hsz,hm⟩ hi
    have GU:=@Oper.semAt_some
    obtain ⟨v1,v2,v3,v4⟩:=aP hm.wv
    obtain ⟨r1,r2,r3,r4⟩:=aP hm.r0
    obtain ⟨q1,q2⟩:=cell1 hm.r1
    have hlen:pre.length≤1000000001:=by rw [hL,List.length_append] at QJ;omega
    have GV:s.size≤9223372036854775807:=by omega
    obtain rfl:R=[s]:=by
     cases OL with
     | last _ h=>rfl
     | more _ h R hR=>omega
    cases hx:nm s with
    | false =>
     gi_wp2_with (refine ⟨trivial,?_⟩;gi_at_call 91;refine (CallsIn.inRound l (callsIn_wide.2 (hN _ _ GV))).mono ?_;rintro e w' ⟨rfl,hw⟩;rw [hw,hx])
     exact hm.failed (by rw [hL];simp [hx])
    | true =>
     obtain ⟨i0,ni,hz0,hz1,hz2⟩:=info_parts zu
     have hrow:=hm.row
     gi_wp2_with (first
      | (refine ⟨trivial,?_⟩;gi_at_call 91;refine (CallsIn.inRound l (callsIn_wide.2 (hN _ _ GV))).mono ?_;rintro e w' ⟨rfl,hw⟩;rw [hw,hx])
      | (gi_at_builtin;refine wpListIn_append_own _ rfl _ _ 53 rfl (w.heap.size+6) 9 i0 (.string ⟨#[]⟩) 1 16 Tryz.underlying53 ni hz0 hz1 hz2 rfl (by decide) _ _ _ rfl (hrow.alloc _) ⟨W.heap.size,0,none⟩ 1 1 [.string s] rfl rfl (cell_one_new _ _ _) (by simp [Value.oneCell']) (by have:maxLen=9223372036854775807:=rfl;omega) (by omega) (by have:=hm.size;simp;omega) ?_;intro v' w1 hown' hgrow _;obtain ⟨g',cap',rfl⟩:=ownsRow_succ hown';obtain ⟨AY,uj,KF⟩:=hm.appended hown' hgrow;obtain ⟨y1,y2,y3,y4⟩:=aP AY))
     exact ⟨uj,by rw [hL];simp [hall,hx],_,_,by rw [hL];exact KF⟩
   case put =>
    rintro G hG W l o o' hl jA KE hg
    rcases hG with rfl | rfl | ⟨s,rfl | rfl⟩
    ·obtain ⟨g1,g2,g3,g4⟩:=hg
     exact ⟨g1,bC.dX g2 o' (by simp at hl;omega) jA,(World.putObj_heap_other (by simp at hl;omega)).trans g3,(World.putObj_heap_other (by simp at hl;omega)).trans g4⟩
    ·obtain ⟨g1,sv,rest,hm⟩:=hg
     exact ⟨g1,sv,rest,hm.put o' (by simp at hl;omega) jA KE⟩
    ·obtain ⟨pre,R,sv,g1,g2,g3,g4,hm⟩:=hg
     exact ⟨pre,R,sv,g1,g2,g3,g4,hm.put o' (by simp at hl;omega) jA KE⟩
    ·obtain ⟨pre,R,sv,g1,g2,g3,g4,hm⟩:=hg
     exact ⟨pre,R,sv,g1,g2,g3,g4,hm.put o' (by simp at hl;omega) jA KE⟩
   case alloc =>
    rintro s W o ⟨pre,R,sv,g1,g2,g3,g4,hm⟩
    exact ⟨pre,R,sv,g1,g2,g3,g4,hm.alloc o⟩
   case J =>
    rintro s W ⟨pre,R,sv,g1,g2,g3,g4,hm⟩
    exact ⟨(cell1 hm.bs).1,(cell1 hm.bp).1,(cell1 hm.bk).1,by omega⟩
   case J' =>
    rintro s W ⟨pre,R,sv,g1,g2,g3,g4,hm⟩
    exact ⟨(cell1 hm.bs).1,(cell1 hm.bs).2,(cell1 hm.bp).1⟩
   case S =>
    rintro s W ⟨pre,R,sv,g1,g2,g3,g4,hm⟩ hi
    exact ⟨pre,R,sv,g1,g2 hi,g3,by simp only [ByteArray.size_extract];omega,hm.set _⟩
   case start =>
    refine ⟨[],L,.slice none 0 0,rfl,Ex,rfl,hs,?_⟩
    exact {
     below:=((((((Below.refl _ w).alloc (Nat.le_refl _) _).alloc (by simp) _).alloc (by simp;omega) _).alloc (by simp;omega) _).alloc (by simp;omega) _).alloc (by simp;omega) _
     size:=by simp
     r0:=by ((try simp only [World.size_alloc]);repeat (first | exact bu (by first | (simp only [World.size_alloc];done) | (simp only [World.size_alloc];omega) | omega) | rw [aB (by simp only [World.size_alloc];omega)]))
     r1:=by ((try simp only [World.size_alloc]);repeat (first | exact bu (by first | (simp only [World.size_alloc];done) | (simp only [World.size_alloc];omega) | omega) | rw [aB (by simp only [World.size_alloc];omega)]))
     wv:=by ((try simp only [World.size_alloc]);repeat (first | exact bu (by first | (simp only [World.size_alloc];done) | (simp only [World.size_alloc];omega) | omega) | rw [aB (by simp only [World.size_alloc];omega)]))
     bs:=by ((try simp only [World.size_alloc]);repeat (first | exact bu (by first | (simp only [World.size_alloc];done) | (simp only [World.size_alloc];omega) | omega) | rw [aB (by simp only [World.size_alloc];omega)]))
     bp:=by ((try simp only [World.size_alloc]);repeat (first | exact bu (by first | (simp only [World.size_alloc];done) | (simp only [World.size_alloc];omega) | omega) | rw [aB (by simp only [World.size_alloc];omega)]))
     bk:=by ((try simp only [World.size_alloc]);repeat (first | exact bu (by first | (simp only [World.size_alloc];done) | (simp only [World.size_alloc];omega) | omega) | rw [aB (by simp only [World.size_alloc];omega)]))
     row:=World.ownsRow_nil _ _ _ _ }
   case done =>
    rintro D W hD ⟨hall,sv,rest,hm⟩ hk
    obtain ⟨v1,v2,v3,v4⟩:=aP hm.wv
    obtain ⟨r1,r2,r3,r4⟩:=aP hm.r0
    obtain ⟨q1,q2⟩:=cell1 hm.r1
    have hrow:=hm.row
    obtain ⟨x0,L',rfl⟩:=Ex.cons
    simp only [List.length_cons] at hrow
    obtain ⟨g,cap,rfl⟩:=ownsRow_succ hrow
    gi_wp2
    ·obtain ⟨ko,kb,k0,k1,_⟩:=hm.stored (.bool false) (.slice none 0 0) (.bool false)
     refine ⟨by simp,.inl ⟨_,_,rfl,run_takeDeferred (ko.same D _ hk rfl),?_⟩⟩
     exact ⟨_,results27 _ _ w.heap.size (.bool false) (.slice none 0 0) (.bool false) rfl rfl ((World.putObj_heap_other (by simp at hD;omega)).trans k0) ((World.putObj_heap_other (by simp at hD;omega)).trans k1),_,rfl,bC.dX kb _ (by simp at hD;omega) (ko.same D _ hk rfl),.inr (.inr ⟨by assumption,by assumption,x0 :: L',by rw [hx];exact Ex,.inl ⟨.inr (by simp only [List.length_cons];omega),rfl⟩⟩)⟩
    ·obtain ⟨ko,kb,k0,k1,kr⟩:=hm.stored (.bool false) (.slice (some ⟨g,0,none⟩) (L'.length+1) cap) (.bool true)
     refine ⟨by simp,.inl ⟨_,_,rfl,run_takeDeferred (ko.same D _ hk rfl),?_⟩⟩
     exact ⟨_,results27 _ _ w.heap.size (.bool false) (.slice (some ⟨g,0,none⟩) (L'.length+1) cap) (.bool true) rfl rfl ((World.putObj_heap_other (by simp at hD;omega)).trans k0) ((World.putObj_heap_other (by simp at hD;omega)).trans k1),_,rfl,bC.dX kb _ (by simp at hD;omega) (ko.same D _ hk rfl),.inr (.inr ⟨by assumption,by assumption,x0 :: L',by rw [hx];exact Ex,.inr ⟨hall,by simp only [List.length_cons];omega,_,by rw [hx],kL (ownsRow_putObj kr _ (ko.same D _ hk rfl) rfl) (by omega)⟩⟩)⟩
   case stop =>
    rintro D W hD ⟨hall,hb,g1,g2⟩ hk
    gi_wp2
    refine ⟨by simp,.inl ⟨_,_,rfl,run_takeDeferred hk,?_⟩⟩
    refine ⟨_,results27 _ _ w.heap.size (.bool false) (.slice none 0 0) (.bool false) rfl rfl ((World.putObj_heap_other (by simp at hD;omega)).trans g1) ((World.putObj_heap_other (by simp at hD;omega)).trans g2),_,rfl,bC.dX hb _ (by simp at hD;omega) hk,.inr (.inr ⟨by assumption,by assumption,L,by rw [hx];exact Ex,.inl ⟨.inl hall,rfl⟩⟩)⟩
 | true =>
  have Vy:=V6 s hx
  gi_wp2_with (first | (refine ⟨trivial,?_⟩;gi_at_call 42;refine (callsIn_wide.2 (hP _ _)).mono ?_;rintro e w' ⟨rfl,hw⟩;rw [hw,hx]) | (refine ⟨trivial,?_⟩;gi_at_call 90;refine (qa _ h1 _ _).mono ?_;rintro e w' ⟨rfl,hw⟩;rw [hw]))
  ·refine ⟨_,results27 _ _ w.heap.size (.bool false) (.slice none 0 0) (.bool true) rfl rfl ?_ ?_,_,rfl,?_,.inl ⟨by assumption,rfl⟩⟩
   ·((try simp only [World.size_alloc]);repeat (first | exact bu (by first | (simp only [World.size_alloc];done) | (simp only [World.size_alloc];omega) | omega) | rw [aB (by simp only [World.size_alloc];omega)]))
   ·((try simp only [World.size_alloc]);repeat (first | exact bu (by first | (simp only [World.size_alloc];done) | (simp only [World.size_alloc];omega) | omega) | rw [aB (by simp only [World.size_alloc];omega)]))
   ·exact (((Below.refl _ w).alloc (Nat.le_refl _) _).alloc (by simp) _).alloc (by simp;omega) _
  ·refine ⟨_,results27 _ _ w.heap.size (.bool true) (.slice none 0 0) (.bool true) rfl rfl ?_ ?_,_,rfl,?_,.inr (.inl ⟨by assumption,by assumption,rfl⟩)⟩
   ·((try simp only [World.size_alloc]);repeat (first | exact bu (by first | (simp only [World.size_alloc];done) | (simp only [World.size_alloc];omega) | omega) | rw [aB (by simp only [World.size_alloc];omega)]))
   ·((try simp only [World.size_alloc]);repeat (first | exact bu (by first | (simp only [World.size_alloc];done) | (simp only [World.size_alloc];omega) | omega) | rw [aB (by simp only [World.size_alloc];omega)]))
   ·exact (((Below.refl _ w).alloc (Nat.le_refl _) _).alloc (by simp) _).alloc (by simp;omega) _
  ·obtain ⟨L,Ex⟩:=Sp.total idx iW (s.extract 2 s.size)
   have QJ:=Ex.len iW
   simp only [ByteArray.size_extract] at QJ
   refine fR h0 h1 (B:=w.heap.size+1+1+1) (by simp) rfl idx iW hI
    (fun s W=>∃ pre R sv,L=pre ++ R∧Sp idx s R∧pre.all nm=true∧s.size≤1000000000∧bC w.heap.size w true sv pre s W)
    (fun s W=>∃ pre R sv,L=pre ++ R∧(0≤idx s→Sp idx (s.extract (idx s+1).toNat s.size) R)∧pre.all nm=true∧s.size≤1000000000∧bC w.heap.size w true sv pre s W)
    (fun W=>L.all nm=false∧Below w.heap.size w W∧W.heap[w.heap.size]?=some (.cells #[.bool false,.slice none 0 0] 55)∧W.heap[w.heap.size+1]?=some (.cells #[.bool false] 4))
    (fun W=>L.all nm=true∧∃ sv rest,bC w.heap.size w true sv L rest W)
    ?put2 ?alloc2 ?J2 ?J'2 ?S2
    (fun x=>{ tmps := #[.string (s.extract 2 s.size),undef,.pointer (some ⟨w.heap.size,0,none⟩),.pointer (some ⟨w.heap.size+1,0,none⟩),.pointer (some ⟨w.heap.size+1+1,0,none⟩),.string x,.bool false,.string s,.bool false,undef,.bool false,.string s,.bool false,undef,.bool true,
     .string s,.bool true,.pointer (some ⟨w.heap.size+1+1,0,none⟩),.string s,.string (s.extract 2 s.size),.string (s.extract 2 s.size),.func (.func 137) #[] #[.pointer (some ⟨w.heap.size+1+1+1+1,0,none⟩),.pointer (some ⟨w.heap.size+1+1+1,0,none⟩),.pointer (some ⟨w.heap.size+1+1+1+2,0,none⟩)],.string x,
     undef,undef,undef,undef,undef,undef,undef,undef,undef,undef,undef,undef,undef,undef,undef,undef],defers:=[] })
    ?assign2 ?body2 ?lst2 (s.extract 2 s.size) ?start2 ?done2 ?stop2
   case assign2 =>
    intro l x W K hK
    have GU:=@Oper.semAt_some
    gi_wp2
    exact hK
   case body2 =>
    rintro l s W ⟨pre,R,sv,hL,OL,hall,hsz,hm⟩ hi
    have GU:=@Oper.semAt_some
    obtain ⟨v1,v2,v3,v4⟩:=aP hm.wv
    obtain ⟨r1,r2,r3,r4⟩:=aP hm.r0
    obtain ⟨q1,q2⟩:=cell1 hm.r1
    have hlen:pre.length≤1000000001:=by rw [hL,List.length_append] at QJ;omega
    have GV:(s.extract 0 (idx s).toNat).size≤9223372036854775807:=by simp only [ByteArray.size_extract];omega
    obtain ⟨R',rfl,V7⟩:∃ R',R=s.extract 0 (idx s).toNat :: R'∧Sp idx (s.extract (idx s+1).toNat s.size) R':=by
     cases OL with
     | last _ h=>omega
     | more _ h R hR=>exact ⟨R,rfl,hR⟩
    cases hx:nm (s.extract 0 (idx s).toNat) with
    | false =>
     gi_wp2_with (refine ⟨trivial,?_⟩;gi_at_call 91;refine (CallsIn.inRound l (callsIn_wide.2 (hN _ _ GV))).mono ?_;rintro e w' ⟨rfl,hw⟩;rw [hw,hx])
     exact hm.failed (by rw [hL];simp [hx])
    | true =>
     obtain ⟨i0,ni,hz0,hz1,hz2⟩:=info_parts zu
     have hrow:=hm.row
     gi_wp2_with (first
      | (refine ⟨trivial,?_⟩;gi_at_call 91;refine (CallsIn.inRound l (callsIn_wide.2 (hN _ _ GV))).mono ?_;rintro e w' ⟨rfl,hw⟩;rw [hw,hx])
      | (gi_at_builtin;refine wpListIn_append_own _ rfl _ _ 53 rfl (w.heap.size+6) 9 i0 (.string ⟨#[]⟩) 1 16 Tryz.underlying53 ni hz0 hz1 hz2 rfl (by decide) _ _ _ rfl (hrow.alloc _) ⟨W.heap.size,0,none⟩ 1 1 [.string (s.extract 0 (idx s).toNat)] rfl rfl (cell_one_new _ _ _) (by simp [Value.oneCell']) (by have:maxLen=9223372036854775807:=rfl;omega) (by omega) (by have:=hm.size;simp;omega) ?_;intro v' w1 hown' hgrow _;obtain ⟨g',cap',rfl⟩:=ownsRow_succ hown';obtain ⟨AY,uj,KF⟩:=hm.appended hown' hgrow;obtain ⟨y1,y2,y3,y4⟩:=aP AY))
     exact ⟨uj,pre ++ [s.extract 0 (idx s).toNat],R',_,by rw [hL];simp,fun _=>V7,by simp [hall,hx],hsz,KF⟩
   case lst2 =>
    rintro l s W ⟨pre,R,sv,hL,OL,hall,hsz,hm⟩ hi
    have GU:=@Oper.semAt_some
    obtain ⟨v1,v2,v3,v4⟩:=aP hm.wv
    obtain ⟨r1,r2,r3,r4⟩:=aP hm.r0
    obtain ⟨q1,q2⟩:=cell1 hm.r1
    have hlen:pre.length≤1000000001:=by rw [hL,List.length_append] at QJ;omega
    have GV:s.size≤9223372036854775807:=by omega
    obtain rfl:R=[s]:=by
     cases OL with
     | last _ h=>rfl
     | more _ h R hR=>omega
    cases hx:nm s with
    | false =>
     gi_wp2_with (refine ⟨trivial,?_⟩;gi_at_call 91;refine (CallsIn.inRound l (callsIn_wide.2 (hN _ _ GV))).mono ?_;rintro e w' ⟨rfl,hw⟩;rw [hw,hx])
     exact hm.failed (by rw [hL];simp [hx])
    | true =>
     obtain ⟨i0,ni,hz0,hz1,hz2⟩:=info_parts zu
     have hrow:=hm.row
     gi_wp2_with (first
      | (refine ⟨trivial,?_⟩;gi_at_call 91;refine (CallsIn.inRound l (callsIn_wide.2 (hN _ _ GV))).mono ?_;rintro e w' ⟨rfl,hw⟩;rw [hw,hx])
      | (gi_at_builtin;refine wpListIn_append_own _ rfl _ _ 53 rfl (w.heap.size+6) 9 i0 (.string ⟨#[]⟩) 1 16 Tryz.underlying53 ni hz0 hz1 hz2 rfl (by decide) _ _ _ rfl (hrow.alloc _) ⟨W.heap.size,0,none⟩ 1 1 [.string s] rfl rfl (cell_one_new _ _ _) (by simp [Value.oneCell']) (by have:maxLen=9223372036854775807:=rfl;omega) (by omega) (by have:=hm.size;simp;omega) ?_;intro v' w1 hown' hgrow _;obtain ⟨g',cap',rfl⟩:=ownsRow_succ hown';obtain ⟨AY,uj,KF⟩:=hm.appended hown' hgrow;obtain ⟨y1,y2,y3,y4⟩:=aP AY))
     exact ⟨uj,by rw [hL];simp [hall,hx],_,_,by rw [hL];exact KF⟩
   case put2 =>
    rintro G hG W l o o' hl jA KE hg
    rcases hG with rfl | rfl | ⟨s,rfl | rfl⟩
    ·obtain ⟨g1,g2,g3,g4⟩:=hg
     exact ⟨g1,bC.dX g2 o' (by simp at hl;omega) jA,(World.putObj_heap_other (by simp at hl;omega)).trans g3,(World.putObj_heap_other (by simp at hl;omega)).trans g4⟩
    ·obtain ⟨g1,sv,rest,hm⟩:=hg
     exact ⟨g1,sv,rest,hm.put o' (by simp at hl;omega) jA KE⟩
    ·obtain ⟨pre,R,sv,g1,g2,g3,g4,hm⟩:=hg
     exact ⟨pre,R,sv,g1,g2,g3,g4,hm.put o' (by simp at hl;omega) jA KE⟩
    ·obtain ⟨pre,R,sv,g1,g2,g3,g4,hm⟩:=hg
     exact ⟨pre,R,sv,g1,g2,g3,g4,hm.put o' (by simp at hl;omega) jA KE⟩
   case alloc2 =>
    rintro s W o ⟨pre,R,sv,g1,g2,g3,g4,hm⟩
    exact ⟨pre,R,sv,g1,g2,g3,g4,hm.alloc o⟩
   case J2 =>
    rintro s W ⟨pre,R,sv,g1,g2,g3,g4,hm⟩
    exact ⟨(cell1 hm.bs).1,(cell1 hm.bp).1,(cell1 hm.bk).1,by omega⟩
   case J'2 =>
    rintro s W ⟨pre,R,sv,g1,g2,g3,g4,hm⟩
    exact ⟨(cell1 hm.bs).1,(cell1 hm.bs).2,(cell1 hm.bp).1⟩
   case S2 =>
    rintro s W ⟨pre,R,sv,g1,g2,g3,g4,hm⟩ hi
    exact ⟨pre,R,sv,g1,g2 hi,g3,by simp only [ByteArray.size_extract];omega,hm.set _⟩
   case start2 =>
    refine ⟨[],L,.slice none 0 0,rfl,Ex,rfl,by simp only [ByteArray.size_extract];omega,?_⟩
    exact {
     below:=((((((Below.refl _ w).alloc (Nat.le_refl _) _).alloc (by simp) _).alloc (by simp;omega) _).alloc (by simp;omega) _).alloc (by simp;omega) _).alloc (by simp;omega) _
     size:=by simp
     r0:=by ((try simp only [World.size_alloc]);repeat (first | exact bu (by first | (simp only [World.size_alloc];done) | (simp only [World.size_alloc];omega) | omega) | rw [aB (by simp only [World.size_alloc];omega)]))
     r1:=by ((try simp only [World.size_alloc]);repeat (first | exact bu (by first | (simp only [World.size_alloc];done) | (simp only [World.size_alloc];omega) | omega) | rw [aB (by simp only [World.size_alloc];omega)]))
     wv:=by ((try simp only [World.size_alloc]);repeat (first | exact bu (by first | (simp only [World.size_alloc];done) | (simp only [World.size_alloc];omega) | omega) | rw [aB (by simp only [World.size_alloc];omega)]))
     bs:=by ((try simp only [World.size_alloc]);repeat (first | exact bu (by first | (simp only [World.size_alloc];done) | (simp only [World.size_alloc];omega) | omega) | rw [aB (by simp only [World.size_alloc];omega)]))
     bp:=by ((try simp only [World.size_alloc]);repeat (first | exact bu (by first | (simp only [World.size_alloc];done) | (simp only [World.size_alloc];omega) | omega) | rw [aB (by simp only [World.size_alloc];omega)]))
     bk:=by ((try simp only [World.size_alloc]);repeat (first | exact bu (by first | (simp only [World.size_alloc];done) | (simp only [World.size_alloc];omega) | omega) | rw [aB (by simp only [World.size_alloc];omega)]))
     row:=World.ownsRow_nil _ _ _ _ }
   case done2 =>
    rintro D W hD ⟨hall,sv,rest,hm⟩ hk
    obtain ⟨v1,v2,v3,v4⟩:=aP hm.wv
    obtain ⟨r1,r2,r3,r4⟩:=aP hm.r0
    obtain ⟨q1,q2⟩:=cell1 hm.r1
    have hrow:=hm.row
    obtain ⟨x0,L',rfl⟩:=Ex.cons
    simp only [List.length_cons] at hrow
    obtain ⟨g,cap,rfl⟩:=ownsRow_succ hrow
    gi_wp2
    ·obtain ⟨ko,kb,k0,k1,_⟩:=hm.stored (.bool false) (.slice none 0 0) (.bool false)
     refine ⟨by simp,.inl ⟨_,_,rfl,run_takeDeferred (ko.same D _ hk rfl),?_⟩⟩
     exact ⟨_,results27 _ _ w.heap.size (.bool false) (.slice none 0 0) (.bool false) rfl rfl ((World.putObj_heap_other (by simp at hD;omega)).trans k0) ((World.putObj_heap_other (by simp at hD;omega)).trans k1),_,rfl,bC.dX kb _ (by simp at hD;omega) (ko.same D _ hk rfl),.inr (.inr ⟨by assumption,by assumption,x0 :: L',by rw [hx];exact Ex,.inl ⟨.inr (by simp only [List.length_cons];omega),rfl⟩⟩)⟩
    ·obtain ⟨ko,kb,k0,k1,kr⟩:=hm.stored (.bool true) (.slice (some ⟨g,0,none⟩) (L'.length+1) cap) (.bool true)
     refine ⟨by simp,.inl ⟨_,_,rfl,run_takeDeferred (ko.same D _ hk rfl),?_⟩⟩
     exact ⟨_,results27 _ _ w.heap.size (.bool true) (.slice (some ⟨g,0,none⟩) (L'.length+1) cap) (.bool true) rfl rfl ((World.putObj_heap_other (by simp at hD;omega)).trans k0) ((World.putObj_heap_other (by simp at hD;omega)).trans k1),_,rfl,bC.dX kb _ (by simp at hD;omega) (ko.same D _ hk rfl),.inr (.inr ⟨by assumption,by assumption,x0 :: L',by rw [hx];exact Ex,.inr ⟨hall,by simp only [List.length_cons];omega,_,by rw [hx],kL (ownsRow_putObj kr _ (ko.same D _ hk rfl) rfl) (by omega)⟩⟩)⟩
   case stop2 =>
    rintro D W hD ⟨hall,hb,g1,g2⟩ hk
    gi_wp2
    refine ⟨by simp,.inl ⟨_,_,rfl,run_takeDeferred hk,?_⟩⟩
    refine ⟨_,results27 _ _ w.heap.size (.bool false) (.slice none 0 0) (.bool false) rfl rfl ((World.putObj_heap_other (by simp at hD;omega)).trans g1) ((World.putObj_heap_other (by simp at hD;omega)).trans g2),_,rfl,bC.dX hb _ (by simp at hD;omega) hk,.inr (.inr ⟨by assumption,by assumption,L,by rw [hx];exact Ex,.inl ⟨.inl hall,rfl⟩⟩)⟩
set_option maxRecDepth 100000
set_option maxHeartbeats 4000000
def wI (s:ByteArray):Bool:=decide (2≤s.size) && (s.extract 0 2).toList == [36,46]
theorem KG (n:Nat) (s:ByteArray) (w:World) :
  CallsIn Fence.wide n Tryz.prog 57 #[.string s,.string ⟨#[36,46]⟩] w fun e w'=>e=.returned (.bool (wI s))∧w'=w:=by
 refine callsIn_of_wp Tryz.func57 rfl trivial ?_ rfl
 simp only [Tryz.ntmps57,Nat.reduceAdd,Nat.reduceSub,Sx.zC]
 gi_wp2
 ·go_ret
  refine ⟨?_,rfl⟩
  have:decide (2≤s.size)=true:=by simp;omega
  simp [wI,this]
 ·go_ret
  refine ⟨?_,rfl⟩
  have:decide (2≤s.size)=false:=by simp;omega
  simp [wI,this]
theorem OM (n:Nat) (hn:1≤n) (s:ByteArray) (w:World) :
  CallsIn Fence.wide n Tryz.prog 42 #[.string s,.string ⟨#[36,46]⟩] w fun e w'=>e=.returned (.bool (wI s))∧w'=w:=by
 refine callsIn_of_wp Tryz.func42 rfl trivial ?_ rfl
 simp only [Tryz.ntmps42,Nat.reduceAdd,Nat.reduceSub,Sx.zC]
 gi_wp2_with (refine ⟨trivial,?_⟩;gi_at_call 57;refine (KG _ _ _).mono ?_;rintro e w' ⟨rfl,hw⟩;rw [hw])
 go_ret
 exact ⟨rfl,rfl⟩
def zZ (i:Nat) (b:UInt8):Bool:=(decide (97≤b) && decide (b≤122)) || (!(i == 0) && ((decide (48≤b) && decide (b≤57)) || b == 95))
def eO:Nat→List UInt8→Bool
 | _,[]=>true
 | i,b :: r=>zZ i b && eO (i+1) r
def eD (l:List UInt8):Bool:=eO 0 l && (decide (1≤l.length) && decide (l.length≤32))
theorem oW:∀ (l m:List UInt8) (i:Nat),eO i (l ++ m)=(eO i l && eO (i+l.length) m)
 | [],m,i=>by simp [eO]
 | b :: l,m,i=>by
  simp only [List.cons_append,eO,oW l m (i+1),List.length_cons,Bool.and_assoc]
  rw [show i+1+l.length=i+(l.length+1) by omega]
theorem GW (l:List UInt8) (k:Nat) (h:k < l.length):eO 0 l=(eO 0 (l.take k) && (zZ k l[k] && eO (k+1) (l.drop (k+1)))):=by
 have e:l=l.take k ++ (l[k] :: l.drop (k+1)):=by simp
 conv=>lhs;rw [e]
 rw [oW]
 have:(l.take k).length=k:=by simp;omega
 rw [this,Nat.zero_add]
 rfl
theorem AZ (l:List UInt8) (k:Nat) (h:k < l.length) (h1:eO 0 (l.take k)=true) (h2:zZ k l[k]=true):eO 0 (l.take (k+1))=true:=by
 rw [List.take_succ_eq_append_getElem h,oW,h1]
 have:(l.take k).length=k:=by simp;omega
 simp [eO,this,h2]
def OO (k:Nat) (x:Nat):Prop:=(97≤x∧x≤122)∨(k≠0∧((48≤x∧x≤57)∨x=95))
theorem CE (k:Nat) (b:UInt8):zZ k b=true↔OO k b.toNat:=by
 unfold zZ OO
 have e:(b == 95)=decide (b.toNat=95):=by
  rw [Bool.eq_iff_iff]
  simp only [beq_iff_eq,decide_eq_true_eq]
  exact ⟨fun h=>by rw [h];rfl,fun h=>UInt8.toNat_inj.1 h⟩
 rw [e]
 simp only [Bool.or_eq_true,Bool.and_eq_true,decide_eq_true_eq,Bool.not_eq_true',beq_eq_false_iff_ne,UInt8.le_iff_toNat_le]
 rfl
theorem GX (s:ByteArray) (k:Nat) (h:k < s.size) (hb:¬ OO k s[k].toNat):eD s.data.toList=false:=by
 unfold eD
 have hl:k < s.data.toList.length:=h
 rw [GW _ k hl]
 have:zZ k s.data.toList[k]=false:=by
  rw [Bool.eq_false_iff]
  exact fun e=>hb ((CE _ _).1 e)
 rw [this];simp
theorem Ey (s:ByteArray) (k:Nat) (h:k < s.size) (fp:eO 0 (s.data.toList.take k)=true) (hb:OO k s[k].toNat):eO 0 (s.data.toList.take (k+1))=true :=
 AZ _ k h fp ((CE _ _).2 hb)
theorem GY (s:ByteArray) (k:Nat) (hk:k≤s.size) (h:¬ k < s.size) (fp:eO 0 (s.data.toList.take k)=true):eD s.data.toList=(decide (1≤s.size) && decide (s.size≤32)):=by
 have:s.data.toList.take k=s.data.toList:=List.take_of_length_le (by show s.size≤k;omega)
 rw [this] at fp
 unfold eD
 rw [fp,Bool.true_and]
 rfl
theorem KH (n:Nat) (s:ByteArray) (hs:s.size≤9223372036854775807) (w:World) :
  CallsIn Fence.wide n Tryz.prog 91 #[.string s] w fun e w'=>e=.returned (.bool (eD s.data.toList))∧w'=w:=by
 refine callsIn_of_wp Tryz.func91 rfl trivial ?_ rfl
 simp only [Tryz.ntmps91,Nat.reduceAdd,Nat.reduceSub,Sx.zC]
 have hl:s.data.toList.length=s.size:=rfl
 gi_wp2
 gi_loop [7] (fun v=>∃ k:Nat,v=.int .i64 k∧k≤s.size∧eO 0 (s.data.toList.take k)=true) (fun v=>s.size - (intOf v).toNat)
 case atStart=>exact ⟨0,rfl,by omega,rfl⟩
 case round =>
  obtain ⟨k,rfl,hk,fp⟩:=hrel
  by_cases D6:k < s.size
  ·by_cases hP:OO k s[k].toNat
   ·have hstep:=Ey s k D6 fp hP
    unfold OO at hP
    by_cases pD:k=0
    ·subst pD
     gi_wp2 <;> first
      | exact ⟨⟨1,rfl,by omega,hstep⟩,by simp [intOf];omega⟩
      | (exfalso;clear hstep fp;simp only [Bool.not_eq_true',Bool.not_eq_false',decide_eq_true_eq,decide_eq_false_iff_not,bne_iff_ne,ne_eq,beq_iff_eq,bne_eq_false_iff_eq,beq_eq_false_iff_ne] at *;omega)
    ·gi_wp2 <;> first
      | exact ⟨⟨k+1,rfl,by omega,hstep⟩,by simp [intOf];omega⟩
      | (exfalso;clear hstep fp;simp only [Bool.not_eq_true',Bool.not_eq_false',decide_eq_true_eq,decide_eq_false_iff_not,bne_iff_ne,ne_eq,beq_iff_eq,bne_eq_false_iff_eq,beq_eq_false_iff_ne] at *;omega)
   ·have zv:=GX s k D6 hP
    unfold OO at hP
    by_cases pD:k=0
    ·subst pD
     gi_wp2 <;> first
      | (exfalso;clear zv fp;simp only [Bool.not_eq_true',Bool.not_eq_false',decide_eq_true_eq,decide_eq_false_iff_not,bne_iff_ne,ne_eq,beq_iff_eq,bne_eq_false_iff_eq,beq_eq_false_iff_ne] at *;omega)
      | (go_ret;exact ⟨rfl,rfl⟩)
    ·gi_wp2 <;> first
      | (exfalso;clear zv fp;simp only [Bool.not_eq_true',Bool.not_eq_false',decide_eq_true_eq,decide_eq_false_iff_not,bne_iff_ne,ne_eq,beq_iff_eq,bne_eq_false_iff_eq,beq_eq_false_iff_ne] at *;omega)
      | (go_ret;exact ⟨rfl,rfl⟩)
  ·have hend:=GY s k hk D6 fp
   gi_wp2
   ·go_ret
    refine ⟨?_,rfl⟩
    have h1:decide (1≤s.size)=true:=by rw [decide_eq_true_eq];omega
    have h2:decide ((s.size:Int)≤32)=decide (s.size≤32):=by rw [decide_eq_decide];omega
    rw [h1,← h2];rfl
   ·go_ret
    refine ⟨?_,rfl⟩
    have h1:decide (1≤s.size)=false:=by rw [decide_eq_false_iff_not];omega
    rw [h1];rfl
set_option maxRecDepth 100000
set_option maxHeartbeats 4000000
theorem wJ (s:ByteArray) (c:Int) (w:World):(callFunc 109 #[.string s,.int .u8 c]).run Tryz.prog w=.ok (.value (.int .i64 (Lib.indexByte s.data.toList c.toNat.toUInt8))) w :=
 Sx.Kk (fn:=Tryz.f109) (by kernel_rfl) (by kernel_rfl) (by kernel_rfl) (by kernel_rfl) (by kernel_rfl) s c w
theorem KI (n:Nat) (s:ByteArray) (w:World) :
  CallsIn Fence.wide n Tryz.prog 78 #[.string s,.int .u8 46] w fun e w'=>e=.returned (.int .i64 (Lib.indexByte s.data.toList 46))∧w'=w:=by
 refine callsIn_of_wp Tryz.func78 rfl trivial ?_ rfl
 simp only [Tryz.ntmps78,Nat.reduceAdd,Nat.reduceSub,Sx.zC]
 have e:=wJ s 46 w
 gi_wp2_with (refine ⟨trivial,?_⟩)
 go_ret
 exact ⟨rfl,rfl⟩
theorem KJ (n:Nat) (hn:1≤n) (s:ByteArray) (hs:s.size≤9223372036854775807) (w:World) :
  CallsIn Fence.wide n Tryz.prog 69 #[.string s,.string ⟨#[46]⟩] w fun e w'=>e=.returned (.int .i64 (Lib.indexByte s.data.toList 46))∧w'=w:=by
 refine callsIn_of_wp Tryz.func69 rfl trivial ?_ rfl
 simp only [Tryz.ntmps69,Nat.reduceAdd,Nat.reduceSub,Sx.zC]
 have e46:((⟨#[46]⟩:ByteArray)[0]'(by decide)).toNat=46:=rfl
 gi_wp2_with (refine ⟨trivial,?_⟩;gi_at_call 78;refine (KI _ _ _).mono ?_;rintro e w' ⟨rfl,hw⟩;rw [hw])
 ·go_ret
  refine ⟨?_,rfl⟩
  have h:([46] == s.toList)=true:=by assumption
  rw [Lib.toList_data] at h
  rw [← eq_of_beq h]
  rfl
 ·go_ret
  exact ⟨rfl,rfl⟩
theorem OP (n:Nat) (hn:2≤n) (s:ByteArray) (hs:s.size≤9223372036854775807) (w:World) :
  CallsIn Fence.wide n Tryz.prog 58 #[.string s,.string ⟨#[46]⟩] w fun e w'=>e=.returned (.int .i64 (Lib.indexByte s.data.toList 46))∧w'=w:=by
 refine callsIn_of_wp Tryz.func58 rfl trivial ?_ rfl
 simp only [Tryz.ntmps58,Nat.reduceAdd,Nat.reduceSub,Sx.zC]
 have h1:1≤n - 1:=by omega
 have h0:1≤n:=by omega
 gi_wp2_with (refine ⟨trivial,?_⟩;gi_at_call 69;refine (KJ _ h1 _ hs _).mono ?_;rintro e w' ⟨rfl,hw⟩;rw [hw])
 go_ret
 exact ⟨rfl,rfl⟩
theorem indexByte_ge (l:List UInt8) (c:UInt8):Lib.indexByte l c=-1∨(0≤Lib.indexByte l c∧Lib.indexByte l c+1≤l.length):=by
 induction l with
 | nil=>exact .inl rfl
 | cons x l ih =>
  unfold Lib.indexByte
  split
  ·right;simp;omega
  ·simp only [List.length_cons]
   rcases ih with h | ⟨h1,h2⟩
   ·rw [h];left;rfl
   ·right
    split
    ·rename_i e;simp only [beq_iff_eq] at e;omega
    ·omega
theorem Ez (s:ByteArray) (hs:s.size≤1000000000) (w:World) :
  Calls Tryz.prog 73 #[.string s] w fun e w'=>∃ v,e=.returned v∧Below w.heap.size w w'∧CD (fun s=>Lib.indexByte s.data.toList 46) (fun s=>eD s.data.toList) wI w.heap.size s v w' :=
 callsIn_wide.1 (OJ 6 (by decide) _ _ _ (fun s h=>by
   unfold wI at h
   rw [Bool.and_eq_true,decide_eq_true_eq] at h
   exact h.1) (fun s=>by have:=indexByte_ge s.data.toList 46;exact this)
  (fun s w=>callsIn_wide.1 (OM 3 (by decide) s w)) (fun s w h=>callsIn_wide.1 (OP 3 (by decide) s h w)) (fun s w h=>callsIn_wide.1 (KH 3 s h w)) s hs w)
end R3
namespace R3
open Go Go.Proofs Go.RowKit Sx
def cd:List UInt8→List (List UInt8)
 | []=>[[]]
 | b :: r=>if b == 46 then [] :: cd r else match cd r with
  | []=>[[b]]
  | h :: t=>(b :: h) :: t
theorem lA (b:UInt8) (r:List UInt8):cd (b :: r)=if b == 46 then [] :: cd r else match cd r with | []=>[[b]] | h :: t=>(b :: h) :: t:=rfl
theorem kM (l:List UInt8):∃ h t,cd l=h :: t:=by
 cases l with
 | nil=>exact ⟨_,_,rfl⟩
 | cons b r =>
  unfold cd
  split
  ·exact ⟨_,_,rfl⟩
  ·split <;> exact ⟨_,_,rfl⟩
theorem qb:∀ (l:List UInt8),Lib.indexByte l 46=-1→cd l=[l]
 | [],_=>rfl
 | b :: r,h=>by
  unfold Lib.indexByte at h
  split at h
  ·omega
  ·rename_i hb
   have hr:Lib.indexByte r 46=-1:=by
    split at h
    ·rename_i e;simpa using e
    ·have:=indexByte_ge r 46;omega
   rw [lA,if_neg hb,qb r hr]
theorem qc:∀ (l:List UInt8) (i:Nat),Lib.indexByte l 46=(i:Int)→cd l=l.take i :: cd (l.drop (i+1))
 | [],i,h=>by exfalso;have:Lib.indexByte [] 46=-1:=rfl;omega
 | b :: r,i,h=>by
  unfold Lib.indexByte at h
  split at h
  ·rename_i hb
   obtain rfl:i=0:=by omega
   rw [lA,if_pos hb]
   rfl
  ·rename_i hb
   split at h
   ·omega
   ·obtain ⟨j,rfl⟩:∃ j,i=j+1:=⟨i - 1,by have:=indexByte_ge r 46;rename_i e;simp only [beq_iff_eq] at e;omega⟩
    have hr:Lib.indexByte r 46=(j:Int):=by omega
    rw [lA,if_neg hb,qc r j hr]
    rfl
theorem iK (s:ByteArray) (a b:Nat):(s.extract a b).data.toList=(s.data.toList.drop a).take (b - a):=by
 simp [ByteArray.data_extract,Array.toList_extract,List.extract]
theorem GZ {s:ByteArray} {L:List ByteArray} (h:Sp (fun s=>Lib.indexByte s.data.toList 46) s L):L.map (·.data.toList)=cd s.data.toList:=by
 induction h with
 | last s h=>rw [qb _ h];rfl
 | more s h R hR ih =>
  obtain ⟨i,hi⟩:=Int.eq_ofNat_of_zero_le h
  rw [qc s.data.toList i hi,List.map_cons,ih,iK,iK,hi]
  have hsz:s.size=s.data.toList.length:=rfl
  congr 1
  rw [show ((i:Int)+1).toNat=i+1 by omega,List.take_of_length_le (by rw [List.length_drop];omega)]
def cE (l:List UInt8):Bool:=decide (2≤l.length) && l.take 2 == [36,46]
def ML:AV:=.tu [.ag [.b false,.aG],.b false]
def sI (l:List UInt8):AV :=
 if l == [46] then .tu [.ag [.b false,.aG],.b true]
 else if l == [36] then .tu [.ag [.b true,.aG],.b true]
 else if (cd (if cE l then l.drop 2 else l)).all eD && decide ((cd (if cE l then l.drop 2 else l)).length≤8) then .tu [.ag [.b (cE l),.ro 1 ((cd (if cE l then l.drop 2 else l)).map .s)],.b true]
 else ML
def R2 (args:List AV):Option AV :=
 match args with
 | [.s l]=>if l.length≤1000000000 then some (sI l) else none
 | _=>none
theorem qO {w:World} {F:Nat→Prop} {root ok:Bool} {x:AV} {v:Value} (h1:v.oneCell'=true) (h:Rel w F x v):Rel w F (.tu [.ag [.b root,x],.b ok]) (.tuple #[.agg #[.bool root,v],.bool ok]):=by
 refine .tu [.ag [.b root,x],.b ok] [.agg #[.bool root,v],.bool ok] rfl fun j u hu=>?_
 match j,hu with
 | 0,hu =>
  cases hu
  refine .ag [.b root,x] [.bool root,v] rfl (fun u hu=>?_) fun j u hu=>?_
  ·simp only [List.mem_cons,List.not_mem_nil,or_false] at hu
   rcases hu with rfl | rfl
   ·rfl
   ·exact h1
  ·match j,hu with
   | 0,hu=>cases hu;exact .b root
   | 1,hu=>cases hu;exact h
   | j+2,hu=>simp at hu
 | 1,hu=>cases hu;exact .b ok
 | j+2,hu=>simp at hu
theorem KL {w:World} {F:Nat→Prop} {N:Nat} {sv:Value} {L:List ByteArray} (hF:∀ b,N≤b→F b) (h:w.ownsRow N 9 1 sv L.length (L.map .string)):sv.oneCell'=true∧(Rel w F (.ro 1 ((L.map (·.data.toList)).map .s)) sv∨L=[]):=by
 rcases h.2 with ⟨rfl,h0⟩ | ⟨g,cap,cur,rfl,hb,hg,h4⟩
 ·exact ⟨rfl,.inr (List.eq_nil_of_length_eq_zero h0)⟩
 ·refine ⟨rfl,.inl ?_⟩
  obtain ⟨k1,k2,k3,k4⟩:=h4
  have hlen:((L.map (·.data.toList)).map AV.s).length=L.length:=by simp
  have key:=Rel.ro (w:=w) (F:=F) 1 ((L.map (·.data.toList)).map .s) g 0 cap (L.map .string) (by decide) (by rw [hlen];exact k1) (hF g hb) (by simp) (fun j v hv=>?_) (fun v hv=>?_) (fun i j v hi hj hv=>?_)
  ·rw [hlen] at key;exact key
  ·rw [← k4,Nat.mul_one] at hv
   have:cur[j]?=some v:=by
    rw [List.getElem?_take] at hv
    split at hv
    ·rw [Array.getElem?_toList] at hv;exact hv
    ·cases hv
   simp [World.cell?,hg,this]
  ·obtain ⟨x,_,rfl⟩:=List.mem_map.1 hv
   rfl
  ·obtain rfl:j=0:=by omega
   rw [Nat.mul_one,Nat.add_zero,List.getElem?_map,Option.map_eq_some_iff] at hv
   obtain ⟨x,hx,rfl⟩:=hv
   have:(((L.map (·.data.toList)).map AV.s).getD i .un)=.s x.data.toList:=by
    rw [List.getD_eq_getElem?_getD,List.getElem?_map,List.getElem?_map,hx];rfl
   rw [this]
   exact .s x
theorem uU (s:ByteArray):wI s=cE s.data.toList:=by
 unfold wI cE
 rw [Lib.toList_data,iK]
 rfl
theorem KM {C:cU} (ho:(C.own 73).all Option.isNone=true) (args:List AV) (r:AV) (h:R2 args=some r) (w:World) (F:Nat→Prop) (vs:Array Value) (hl:vs.size=args.length)
  (hv:∀ (j:Nat) (a:AV) (v:Value),args[j]?=some a→vs[j]?=some v→Rel w F a v):dN Tryz.prog 73 vs w (fX C 73 w F r):=by
 unfold R2 at h
 split at h
 ·rename_i l
  split at h
  ·rename_i hle
   cases h
   match vs,hl,hv with
   | ⟨[x]⟩,_,hv =>
    have hx:=hv 0 _ x rfl rfl
    cases hx with
    | s q =>
     refine .inl ⟨Tryz.f73,(Tryz.f73.body).getD .skip,Tryz.func73,by kernel_rfl,by kernel_rfl,Calls.mono (Ez q hle w) fun e w' he=>?_⟩
     obtain ⟨v,rfl,hb,hp⟩:=he
     refine ⟨v,rfl,⟨hb.os,hb.tape,hb.output,hb.size,hb.block⟩,?_⟩
     unfold eV
     rw [if_pos ho]
     have hF:∀ b,w.heap.size≤b→(fun b=>b < w.heap.size→F b) b:=fun b hb hlt=>by omega
     unfold sI
     rcases hp with ⟨c1,rfl⟩ | ⟨c1,c2,rfl⟩ | ⟨c1,c2,L,hL,hp⟩
     ·rw [Lib.toList_data] at c1
      rw [if_pos c1]
      exact qO rfl .aG
     ·rw [Lib.toList_data] at c1 c2
      rw [if_neg (by rw [c1];decide),if_pos c2]
      exact qO rfl .aG
     ·rw [Lib.toList_data] at c1 c2
      rw [if_neg (by rw [c1];decide),if_neg (by rw [c2];decide)]
      have hs:=GZ hL
      have hs':cd (if cE q.data.toList then q.data.toList.drop 2 else q.data.toList)=L.map (·.data.toList):=by
       rw [hs,← uU]
       cases wI q with
       | true =>
        simp only [if_true]
        rw [iK,List.take_of_length_le (by rw [List.length_drop];exact Nat.le_refl _)]
       | false=>rfl
      rw [hs']
      have hall:(L.map (·.data.toList)).all eD=L.all fun s=>eD s.data.toList:=by simp [List.all_map,Function.comp_def]
      rw [hall,List.length_map]
      rcases hp with ⟨zv,rfl⟩ | ⟨h1,h2,sv,rfl,hrow⟩
      ·rw [if_neg]
       ·exact qO rfl .aG
       ·rcases zv with e | e
        ·rw [e];simp
        ·simp only [Bool.and_eq_true,decide_eq_true_eq,not_and];intro _;omega
      ·rw [if_pos (by rw [h1];simpa using h2),← uU]
       obtain ⟨o1,o2⟩:=KL hF hrow
       rcases o2 with o2 | o2
       ·exact qO o1 o2
       ·exfalso
        obtain ⟨x0,L',e⟩:=hL.cons
        rw [e] at o2;cases o2
  ·cases h
 ·cases h
end R3
namespace R3
open Go Go.Proofs Go.RowKit Go.Shelf Sx
def OQ:Ren:=⟨fun | 143=>58 | 219=>69 | 217=>78 | 225=>79 | 224=>80 | 267=>81 | 266=>109 | 314=>110 | n=>n,fun | 46=>137 | 146=>158 | 51=>157 | n=>n,fun n=>n⟩
theorem OS:Lays.n143 Tryz.prog OQ:={
 mixed:=by kernel_rfl
 f143:=Tryz.func58.trans (congrArg some (by kernel_rfl))
 f217:=Tryz.func78.trans (congrArg some (by kernel_rfl))
 f219:=Tryz.func69.trans (congrArg some (by kernel_rfl))
 f224:=Tryz.func80.trans (congrArg some (by kernel_rfl))
 f225:=Tryz.func79.trans (congrArg some (by kernel_rfl))
 f266:=Tryz.func109.trans (congrArg some (by kernel_rfl))
 f267:=Tryz.func81.trans (congrArg some (by kernel_rfl))
 f314:=Tryz.func110.trans (congrArg some (by kernel_rfl))
 t3:=Tryz.underlying3
 a3:=Tryz.isAgg3
 z3:=Tryz.sizeOf3
 v3:=Tryz.zeroValue3
 t4:=Tryz.underlying4
 a4:=Tryz.isAgg4
 z4:=Tryz.sizeOf4
 v4:=Tryz.zeroValue4
 t5:=Tryz.underlying5
 a5:=Tryz.isAgg5
 z5:=Tryz.sizeOf5
 v5:=Tryz.zeroValue5
 t9:=Tryz.underlying9
 a9:=Tryz.isAgg9
 z9:=Tryz.sizeOf9
 v9:=Tryz.zeroValue9
 t46:=Tryz.underlying137
 a46:=Tryz.isAgg137
 z46:=Tryz.sizeOf137
 v46:=Tryz.zeroValue137
 t51:=Tryz.underlying157
 a51:=Tryz.isAgg157
 z51:=Tryz.sizeOf157
 v51:=Tryz.zeroValue157
 t146:=Tryz.underlying158
 a146:=Tryz.isAgg158
 z146:=Tryz.sizeOf158
 v146:=Tryz.zeroValue158
 g1:=by kernel_rfl }
def R4 (args:List AV):Option AV :=
 match args with
 | [.s l,.s sub]=>if l.length≤1000000000 then some (.int (Lib.index l sub)) else none
 | _=>none
theorem KN {C:cU} {mx:Int} (A0:C.glob 1=some (1,.int mx)) (ho:(C.own 58).all Option.isNone=true) (args:List AV) (r:AV) (h:R4 args=some r) (w:World) (F:Nat→Prop) (vs:Array Value) (hG:aQ C w F) (hl:vs.size=args.length)
  (hv:∀ (j:Nat) (a:AV) (v:Value),args[j]?=some a→vs[j]?=some v→Rel w F a v):dN Tryz.prog 58 vs w (fX C 58 w F r):=by
 have hm:w.cell? ⟨1,0,none⟩=some (.int .i64 mx):=by
  obtain ⟨r,o,h1,h2,h3,h4⟩:=hG 1 1 _ A0
  simp only [Value.pointer.injEq,Option.some.injEq,Addr.mk.injEq,Nat.add_zero] at h1
  obtain ⟨v,q1,q2,q3⟩:=h4 0 (by decide)
  obtain ⟨rfl,rfl,_⟩:=h1
  have q3:Rel w F (.int mx) v:=q3
  cases q3
  exact q1
 unfold R4 at h
 split at h
 ·rename_i l sub
  split at h
  ·rename_i hle
   cases h
   match vs,hl,hv with
   | ⟨[x,y]⟩,_,hv =>
    have hx:=hv 0 _ x rfl rfl
    have hy:=hv 1 _ y rfl rfl
    cases hx with
    | s p =>
     cases hy with
     | s q =>
      refine .inl ⟨Tryz.f58,(Tryz.f58.body).getD .skip,Tryz.func58,by kernel_rfl,by kernel_rfl,Calls.mono (Any.strings_Index OS p q mx w (by have:p.size=p.data.toList.length:=rfl;omega) hm) fun e w' he=>?_⟩
      obtain ⟨rfl,rfl⟩:=he
      refine ⟨_,rfl,Ext.refl _,?_⟩
      unfold eV
      rw [if_pos ho]
      exact .int _
  ·cases h
 ·cases h
end R3
namespace R3
open Go Sx
def kJ:List (Nat×Ty):=[
 (3,{ size:=1,bytes:=8,kd:=.int .i64,elem:=0,zero:=[.int 0],fields:=[],eqk:=none }),
 (4,{ size:=1,bytes:=1,kd:=.bool,elem:=0,zero:=[.b false],fields:=[],eqk:=none }),
 (5,{ size:=1,bytes:=1,kd:=.int .u8,elem:=0,zero:=[.u8 0],fields:=[],eqk:=none }),
 (9,{ size:=1,bytes:=16,kd:=.str,elem:=0,zero:=[.s []],fields:=[],eqk:=none }),
 (23,{ size:=1,bytes:=24,kd:=.slice,elem:=58,zero:=[.aG],fields:=[],eqk:=none }),
 (24,{ size:=1,bytes:=24,kd:=.slice,elem:=3,zero:=[.aG],fields:=[],eqk:=none }),
 (26,{ size:=2,bytes:=48,kd:=.struct,elem:=0,zero:=[.aG,.aG],fields:=[(0,23),(1,24)],eqk:=none }),
 (27,{ size:=1,bytes:=8,kd:=.int .i64,elem:=0,zero:=[.int 0],fields:=[],eqk:=none }),
 (52,{ size:=1,bytes:=1,kd:=.int .u8,elem:=0,zero:=[.u8 0],fields:=[],eqk:=none }),
 (53,{ size:=1,bytes:=24,kd:=.slice,elem:=9,zero:=[.aG],fields:=[],eqk:=none }),
 (55,{ size:=2,bytes:=32,kd:=.struct,elem:=0,zero:=[.b false,.aG],fields:=[(0,4),(1,53)],eqk:=none }),
 (56,{ size:=1,bytes:=1,kd:=.int .u8,elem:=0,zero:=[.u8 0],fields:=[],eqk:=none }),
 (58,{ size:=9,bytes:=120,kd:=.struct,elem:=0,zero:=[.u8 0,.int 0,.s [],.b false,.aG,.aG,.aG,.b false,.u8 0],fields:=[(0,52),(1,3),(2,9),(3,55),(5,24),(6,24),(7,4),(8,56)],eqk:=none }),
 (80,{ size:=1,bytes:=24,kd:=.slice,elem:=91,zero:=[.aG],fields:=[],eqk:=none }),
 (89,{ size:=1,bytes:=1,kd:=.int .u8,elem:=0,zero:=[.u8 0],fields:=[],eqk:=none }),
 (91,{ size:=5,bytes:=64,kd:=.struct,elem:=0,zero:=[.u8 0,.int 0,.s [],.b false,.aG],fields:=[(0,89),(1,3),(2,9),(3,55)],eqk:=none }),
 (104,{ size:=4,bytes:=80,kd:=.struct,elem:=0,zero:=[.aG,.int 0,.aG,.aG],fields:=[(0,80),(1,3),(2,26)],eqk:=none }),
 (105,{ size:=1,bytes:=8,kd:=.ptr,elem:=0,zero:=[.eB],fields:=[],eqk:=none }),
 (109,{ size:=2,bytes:=16,kd:=.struct,elem:=0,zero:=[.int 0,.int 0],fields:=[(0,3),(1,27)],eqk:=some [.i,.i] })
]
def nR:List ((Nat×Nat)×(j5×List Nat)):=[((66,16),(.seq [(0,true),(1,true),(2,true),(3,true),(4,true),(5,true),(6,false),(7,false),(8,true),(9,false)] .done,[1000009])),
 ((26,6),(.seq [(0,true),(1,true),(2,true),(3,true),(4,true),(5,true),(6,true),(7,true),(8,true),(9,true),(10,true)] .done,[])),
 ((27,6),(.seq [(0,true),(1,true),(2,true),(3,true),(4,true),(5,true),(6,true),(7,true),(8,true)] .done,[])),
 ((70,4),(.seq [(0,true),(1,true),(2,true),(4,true),(5,true),(3,false),(6,false),(7,true)] .done,[])),
 ((46,2),(.seq [(0,true),(1,true),(2,true),(3,true),(4,true),(5,true),(6,true),(7,true),(8,true),(9,true)] .done,[])),
 ((46,3),(.seq [(0,true),(1,true),(2,true),(3,true),(4,true),(5,true),(6,true),(7,true),(8,true),(9,true),(10,false),(11,false)] .done,[1000011])),
 ((60,2),(.seq [(0,true),(1,true),(2,true),(3,true),(4,true),(5,true),(6,true),(7,true),(8,true),(9,true),(10,true),(11,true),(12,true),(13,false),(14,false),(15,true),(16,true),(17,true),(18,false)] .done,[1000018])),
 ((60,15),(.seq [(0,true),(1,true),(2,true),(4,true),(3,false),(5,true)] .done,[])),
 ((74,5),(.seq [(0,true),(1,true),(2,true),(3,true),(4,true),(5,true),(6,true),(7,true),(8,true),(9,true),(10,true),(11,true),(12,true),(13,true),(14,true),(15,true),(16,true),(17,true),(18,true),(19,true),(20,true),(21,true),(22,true),(23,true)] .done,[])),
 ((74,7),(.seq [(0,true),(1,true),(2,true),(3,true),(4,true),(5,true),(6,true),(7,true),(8,true),(9,true),(10,true),(11,true),(12,false),(13,true)] .done,[])),
 ((74,12),(.seq [(0,true),(1,true),(2,true),(3,true),(4,true),(5,true),(6,true),(7,true),(8,true),(9,true),(10,true),(11,true),(12,true),(13,true),(14,true),(15,false),(16,true),(17,true),(18,false)] .done,[1000015,1000018])),
 ((74,13),(.seq [(0,true),(1,true),(2,true),(3,true),(4,true),(5,true),(6,true),(7,true),(8,true),(9,true),(10,true)] .done,[])),
 ((74,15),(.seq [(0,true),(1,true),(2,true),(3,true),(4,true),(5,true),(6,true),(7,true),(8,true),(9,true),(10,true),(11,true),(12,true)] .done,[])),
 ((74,16),(.seq [(0,true),(1,true),(2,true),(3,true),(4,true),(5,true),(6,true),(7,true),(8,true),(9,true),(10,true),(11,true),(12,false),(13,true)] .done,[]))]
def nS:List (Nat×List (Nat×List (Nat×Option (Nat×Nat))×List (Nat×List (Nat×Nat×Nat)))):=[(37,[(3,[(0,none),(4,some (91,5)),(5,none)],[]),(5,[(0,none),(4,some (91,5)),(5,none),(6,none)],[]),(11,[(0,none),(4,some (91,5)),(5,none),(6,none)],[])]),
 (66,[(9,[(0,none),(2,none),(4,none)],[(2,[]),(4,[(1,9,1)])]),(11,[(0,none),(2,none),(4,none),(5,none),(6,none)],[(2,[]),(4,[(1,9,1)])]),(12,[(0,none),(2,none),(4,none),(5,none),(6,none)],[(2,[]),(4,[(1,9,1)])])]),
 (91,[(2,[(0,none),(6,none),(7,none)],[])]),
 (76,[(4,[(0,none),(3,none)],[])]),
 (26,[(4,[(2,none),(3,none),(5,none)],[(2,[]),(3,[])])]),
 (44,[(2,[(0,none),(1,none),(5,none)],[(71,[(0,91,5)])]),(6,[(0,none),(1,none),(5,none),(6,none)],[(71,[(0,91,5)])])]),
 (53,[(11,[(2,none)],[(2,[])]),(12,[(0,none),(2,none)],[(2,[])]),(19,[(0,none),(2,none),(4,none)],[(2,[])])]),
 (27,[(4,[(0,none),(1,none),(5,none)],[])]),
 (59,[(18,[(0,none),(2,none),(4,none)],[(2,[])])]),
 (64,[(1,[(0,none)],[]),(3,[(0,none)],[])]),
 (82,[(1,[(0,none),(1,none)],[])]),
 (83,[(1,[(0,none),(1,none)],[])]),
 (46,[(2,[(0,none),(1,none),(6,some (3,1))],[(61,[(2,58,9)])])]),
 (60,[(11,[(0,none),(2,none),(4,none),(8,none)],[(4,[]),(71,[(2,58,9)])]),(14,[(0,none),(2,none),(4,none),(8,none),(9,none)],[(4,[]),(71,[(2,58,9)])]),(19,[(0,none),(8,none),(9,none)],[(71,[(2,58,9)])])]),
 (74,[(13,[(0,none),(6,none)],[(6,[]),(152,[(2,58,9)])])])]
def sF:List (Nat×List (Option (Nat×Nat))):=[]
def sG:List (Nat×vE):=[(44,{ ps:=[.v,.eI 45 [0]],objs:=[((.cap 1 0),[.own 91 5])],outs:=[((.cap 1 0),[.own 91 5])] }),
 (45,{ ps:=[.v,.obj 0],objs:=[((.arg 1),[.own 91 5])],outs:=[((.arg 1),[.own 91 5])] }),
 (46,{ ps:=[.obj 0,.v],objs:=[((.arg 0),[.v,.v,.own 58 9,.v])],outs:=[((.arg 0),[.v,.v,.own 58 9,.v])] }),
 (60,{ ps:=[.obj 0,.v,.v],objs:=[((.arg 0),[.v,.v,.own 58 9,.v])],outs:=[((.arg 0),[.v,.v,.own 58 9,.v])] }),
 (74,{ ps:=[.obj 0,.v,.v,.v],objs:=[((.arg 0),[.v,.v,.own 58 9,.v])],outs:=[((.arg 0),[.v,.v,.own 58 9,.v])] })]
def kK:List (Nat×List Nat):=[]
def C (mx:Int):cU:=Gg kJ nR nS sF kK (fun g=>bif Nat.beq g 1 then some (1,.int mx) else none) sG (fun g=>bif Nat.beq g 73 then some R2 else bif Nat.beq g 58 then some R4 else none) (fun t=>Nat.beq t 109)
end R3
open Go Go.Proofs Sx
namespace R3
theorem R5:kJ.all (fun p=>Ok Tryz.prog p.1 p.2)=true:=by kernel_rfl
theorem fns (mx:Int):Az (C mx) 0 Tryz.prog.funcs.toList=true:=by kernel_rfl
theorem mixed:Tryz.prog.follows .mixedOrders=true:=by kernel_rfl
theorem idxs:Gh 109 0 Tryz.prog.funcs.toList=true:=by kernel_rfl
theorem V8 (mx:Int):∀ (g:Nat) (G:List AV→Option AV),(C mx).gv g=some G→((C mx).own g).all Option.isNone=true→∀ (args:List AV) (r:AV),G args=some r→∀ (w:World) (F:Nat→Prop) (vs:Array Value),aQ (C mx) w F→vs.size=args.length →
   (∀ (j:Nat) (a:AV) (v:Value),args[j]?=some a→vs[j]?=some v→Rel w F a v)→dN Tryz.prog g vs w (fX (C mx) g w F r):=by
 intro g G h ho args r hr w F vs hG hl hv
 have h:(bif Nat.beq g 73 then some R2 else bif Nat.beq g 58 then some R4 else none)=some G:=h
 cases h1:Nat.beq g 73 with
 | true =>
  rw [h1] at h;cases h
  obtain rfl:=Nat.eq_of_beq_eq_true h1
  exact KM ho args r hr w F vs hl hv
 | false =>
  rw [h1] at h
  cases h2:Nat.beq g 58 with
  | true =>
   rw [h2] at h;cases h
   obtain rfl:=Nat.eq_of_beq_eq_true h2
   exact KN (mx:=mx) rfl ho args r hr w F vs hG hl hv
  | false =>
   rw [h2] at h;cases h
theorem fit (mx:Int):Fit (C mx) Tryz.prog:=Fit.of (tab:=kJ) rfl R5 (fns mx) mixed (AA idxs wJ) (V8 mx)
end R3
namespace R3
open Go Go.Proofs Sx
theorem maxLen {W:World} (h:W.ShapedOpen Tryz.prog):∃ m,W.cell? ⟨1,0,none⟩=some (.int .i64 m) :=
 cell_of_shapedOpen_int (zero := #[.int .i64 0]) (t:=3) h (of_decide_eq_true (by kernel_rfl)) (by kernel_rfl) rfl (by kernel_rfl) (by kernel_rfl) Tryz.underlying3
theorem G0 {W:World} {m:Int} (h:W.cell? ⟨1,0,none⟩=some (.int .i64 m)):aQ (C m) W (fun _=>True):=by
 intro g k e hg
 have hg:(bif Nat.beq g 1 then some (1,AV.int m) else none)=some (k,e):=hg
 cases h1:Nat.beq g 1 with
 | false=>rw [h1] at hg;cases hg
 | true =>
  rw [h1] at hg;cases hg
  obtain rfl:=Nat.eq_of_beq_eq_true h1
  refine ⟨1,0,rfl,trivial,aU h,fun j hj=>?_⟩
  obtain rfl:j=0:=by omega
  exact ⟨.int .i64 m,h,rfl,Rel.int m⟩
mutual
def uV:DataW Unit→List Value
 | .lit (.int k n)=>[.int k n]
 | .agg ps=>sJ ps
 | _=>[]
def sJ:List (DataW Unit)→List Value
 | []=>[]
 | d :: r=>uV d ++ sJ r
end
end R3
open Go Go.Proofs Sx
namespace eG
theorem R5:kJ.all (fun p=>Ok Tryz.prog p.1 p.2)=true:=by kernel_rfl
theorem fns (mx:Int):Az (C mx) 0 Tryz.prog.funcs.toList=true:=by kernel_rfl
theorem fit (mx:Int):Fit (C mx) Tryz.prog:=Fit.of (tab:=kJ) rfl R5 (fns mx) R3.mixed (AA R3.idxs R3.wJ) (fun g G h=>by cases h)
end eG
namespace eG
open Go Go.Proofs Sx
variable {mx:Int}
def oX:Code:=(Tryz.f17.body).getD .skip
def sK (run:RunT) (a b:UInt8) (d:Bool) (e f g i:UInt8) (j:Bool) (k:UInt8) (l:List UInt8) (m n:UInt8) (o:Bool) (p q s t:UInt8) (u:Bool) (w:UInt8) (x:List UInt8):Option AV :=
 run ((bP 11 oX []).getD []) (St.bX [(1,.cell (.ptr 1 0)),(4,.cell (.ptr 4 0))] [(1,some (cT a b d e f g i j k l)),(4,some (cT m n o p q s t u w x))])
def A1 (run:RunT) (a b d:UInt8) (e:Bool) (f g i j:UInt8) (k:Bool) (l:UInt8) (m:List UInt8) (n o:UInt8) (p:Bool) (q s t u:UInt8) (w:Bool) (x:UInt8) (y:List UInt8) (z A:UInt8) (B:Bool) (D E G H:UInt8) (I:Bool) (J:UInt8) (L:List UInt8):Option AV :=
 run ((bP 12 oX []).getD []) (St.bX [(1,.cell (.ptr 1 0)),(3,.cell (.ptr 3 0)),(4,.cell (.ptr 4 0)),(48,.cell (.val (.u8 a)))] [(1,some (cT b d e f g i j k l m)),(3,some (cT n o p q s t u w x y)),(4,some (cT z A B D E G H I J L))])
def wK (run:RunT) (a b:UInt8) (d:Bool) (e f g i:UInt8) (j:Bool) (k:UInt8) (l:List UInt8) (m n:UInt8) (o:Bool) (p q s t:UInt8) (u:Bool) (w:UInt8) (x:List UInt8):Option AV :=
 run ((bP 14 oX []).getD []) (St.bX [(1,.cell (.ptr 1 0)),(4,.cell (.ptr 4 0))] [(1,some (cT a b d e f g i j k l)),(4,some (cT m n o p q s t u w x))])
def A2 (run:RunT) (a b d:UInt8) (e:Bool) (f g i j:UInt8) (k:Bool) (l:UInt8) (m:List UInt8) (n o:UInt8) (p:Bool) (q s t u:UInt8) (w:Bool) (x:UInt8) (y:List UInt8) (z A:UInt8) (B:Bool) (D E G H:UInt8) (I:Bool) (J:UInt8) (L:List UInt8):Option AV :=
 run ((bP 16 oX []).getD []) (St.bX [(1,.cell (.ptr 1 0)),(3,.cell (.ptr 3 0)),(4,.cell (.ptr 4 0)),(48,.cell (.val (.u8 a)))] [(1,some (cT b d e f g i j k l m)),(3,some (cT n o p q s t u w x y)),(4,some (cT z A B D E G H I J L))])
def sM (run:RunT) (a b:UInt8) (d:Bool) (e f g i:UInt8) (j:Bool) (k:UInt8) (l:List UInt8):Option AV :=
 run ((bP 27 oX []).getD []) (St.bX [(1,.cell (.ptr 1 0))] [(1,some (cT a b d e f g i j k l))])
def A3 (run:RunT) (a b:UInt8) (d:Bool) (e f g i:UInt8) (j:Bool) (k:UInt8) (l:List UInt8) (m n:UInt8) (o:Bool) (p q s t:UInt8) (u:Bool) (w:UInt8) (x:List UInt8):Option AV :=
 run ((bP 28 oX []).getD []) (St.bX [(1,.cell (.ptr 1 0)),(3,.cell (.ptr 3 0))] [(1,some (cT a b d e f g i j k l)),(3,some (cT m n o p q s t u w x))])
def YE (a b:UInt8) (d:Bool) (e f g i:UInt8) (j:Bool) (k:UInt8) (l:List UInt8) (c:aq) (r:RunT):Option AV :=
 (az (.b (Fe a 20)) false (some (.b (Fe b 4))) (.b true)).bind fun m=>(az m false (some (.b (Fe e 4))) (.b true)).bind fun n=>(az n false (some (.b (Fe g 5))) (.b true)).bind fun o=>(az o false (some (.b (Fe i 6))) (.b true)).bind fun p=>(az p false ((az (.b d) true (some (.b (nN b 0))) (.b false)).bind fun q=>some q) (.b true)).bind fun s=>ah s
 (some (.b false))
 (ah (.b (aO a 3))
 ((az (.b ((a == a && (b == 0 && (d == d && (e == 0 && (f == 0 && (g == 0 && (i == 0 && (j == false && (k == 0 && (l == l && true)))))))))))) true ((c 28 [.s l,.int 32]).bind fun t=>some t) (.b false)).bind fun u=>some u)
 (ah (.b (aO a 4))
 (sK r a b d e f g i j k l a b d 0 0 0 0 false 0 [])
 (ah (.b (aO a 9))
 (sK r a b d e f g i j k l a b d 0 0 0 0 false 0 [])
 (ah (.b (aO a 10))
 (sK r a b d e f g i j k l a b d 0 0 0 0 false 0 [])
 (A1 r a a b d e f g i j k l a 0 false 0 0 0 0 false 0 [] a b d 0 0 0 0 false 0 [])))))
theorem c17 (a b d e f g i j k l) {r:AV} (h:YE a b d e f g i j k l (ae (C mx) Tryz.prog) (af (C mx) Tryz.prog 17 Tryz.f17)=some r):ae (C mx) Tryz.prog 17 [.ag [.u8 a,.u8 b,.b d,.u8 e,.u8 f,.u8 g,.u8 i,.b j,.u8 k,.s l]]=some r :=
 aj (fun _ _=>by kernel_rfl) h
def G1 (a b:UInt8) (d:Bool) (e f g i:UInt8) (j:Bool) (k:UInt8) (l:List UInt8) (m n:UInt8) (o:Bool) (p q s t:UInt8) (u:Bool) (w:UInt8) (x:List UInt8) (c:aq) (r:RunT):Option AV :=
 some (.b ((a == m && (b == n && (d == o && (e == p && (f == q && (g == s && (i == t && (j == u && (k == w && (l == x && true))))))))))))
def G2 (a b d:UInt8) (e:Bool) (f g i j:UInt8) (k:Bool) (l:UInt8) (m:List UInt8) (n o:UInt8) (p:Bool) (q s t u:UInt8) (w:Bool) (x:UInt8) (y:List UInt8) (z A:UInt8) (B:Bool) (D E G H:UInt8) (I:Bool) (J:UInt8) (L:List UInt8) (c:aq) (r:RunT):Option AV :=
 ah (.b (aO a 5))
 (wK r b d e f g i j k l m z A B D E G H I J L)
 (ah (.b (aO a 6))
 (wK r b d e f g i j k l m z A B D E G H I J L)
 (A2 r a b d e f g i j k l m n o p q s t u w x y z A B D E G H I J L))
def G3 (a b:UInt8) (d:Bool) (e f g i:UInt8) (j:Bool) (k:UInt8) (l:List UInt8) (m n:UInt8) (o:Bool) (p q s t:UInt8) (u:Bool) (w:UInt8) (x:List UInt8) (c:aq) (r:RunT):Option AV :=
 (az (.b ((a == m && (b == n && (d == o && (e == p && (f == q && (g == s && (i == t && (j == u && (k == w && (l == l && true)))))))))))) true ((c 28 [.s l,.int 32]).bind fun y=>some y) (.b false)).bind fun z=>some z
def G4 (a b d:UInt8) (e:Bool) (f g i j:UInt8) (k:Bool) (l:UInt8) (m:List UInt8) (n o:UInt8) (p:Bool) (q s t u:UInt8) (w:Bool) (x:UInt8) (y:List UInt8) (z A:UInt8) (B:Bool) (D E G H:UInt8) (I:Bool) (J:UInt8) (L:List UInt8) (c:aq) (r:RunT):Option AV :=
 ah (.b (aO a 7))
 (some (.b ((b == z && (d == A && (e == B && (f == f && (g == E && (i == G && (j == H && (k == I && (l == J && (m == L && true)))))))))))))
 (ah (.b (aO a 8))
 ((c 29 [.ag [.u8 b,.u8 d,.b e,.u8 f,.u8 g,.u8 i,.u8 j,.b k,.u8 l,.s m],.ag [.u8 z,.u8 A,.b B,.u8 D,.u8 E,.u8 G,.u8 H,.b I,.u8 J,.s L]]).bind fun M=>some M)
 (ah (.b (aO a 15))
 ((az (.b ((b == n && (d == o && (e == p && (f == q && (g == s && (i == t && (j == u && (k == w && (l == l && (m == y && true)))))))))))) true (some (.b (ule l 2))) (.b false)).bind fun N=>some N)
 (ah (.b (aO a 17))
 (sM r b d e f g i j k l m)
 (ah (.b (aO a 18))
 (sM r b d e f g i j k l m)
 (ah (.b (aO a 19))
 (sM r b d e f g i j k l m)
 (A3 r b d e f g i j k l m n o p q s t u w x y))))))
def G5 (a b:UInt8) (d:Bool) (e f g i:UInt8) (j:Bool) (k:UInt8) (l:List UInt8) (c:aq) (r:RunT):Option AV :=
 (c 30 [.ag [.u8 a,.u8 b,.b d,.u8 e,.u8 f,.u8 g,.u8 i,.b j,.u8 k,.s l]]).bind fun m=>some m
def G6 (a b:UInt8) (d:Bool) (e f g i:UInt8) (j:Bool) (k:UInt8) (l:List UInt8) (m n:UInt8) (o:Bool) (p q s t:UInt8) (u:Bool) (w:UInt8) (x:List UInt8) (c:aq) (r:RunT):Option AV :=
 some (.b ((a == m && (b == n && (d == o && (e == p && (f == q && (g == s && (i == t && (j == u && (k == w && (l == x && true))))))))))))
theorem OT (a b d e f g i j k l m n o p q s t u w x) {r:AV} (h:G1 a b d e f g i j k l m n o p q s t u w x (ae (C mx) Tryz.prog) (af (C mx) Tryz.prog 17 Tryz.f17)=some r):sK (af (C mx) Tryz.prog 17 Tryz.f17) a b d e f g i j k l m n o p q s t u w x=some r :=
 ak (fun _ _=>by kernel_rfl) h
theorem OU (a b d e f g i j k l m n o p q s t u w x y z A B D E G H I J L) {r:AV} (h:G2 a b d e f g i j k l m n o p q s t u w x y z A B D E G H I J L (ae (C mx) Tryz.prog) (af (C mx) Tryz.prog 17 Tryz.f17)=some r):A1 (af (C mx) Tryz.prog 17 Tryz.f17) a b d e f g i j k l m n o p q s t u w x y z A B D E G H I J L=some r :=
 ak (fun _ _=>by kernel_rfl) h
theorem OV (a b d e f g i j k l m n o p q s t u w x) {r:AV} (h:G3 a b d e f g i j k l m n o p q s t u w x (ae (C mx) Tryz.prog) (af (C mx) Tryz.prog 17 Tryz.f17)=some r):wK (af (C mx) Tryz.prog 17 Tryz.f17) a b d e f g i j k l m n o p q s t u w x=some r :=
 ak (fun _ _=>by kernel_rfl) h
theorem OW (a b d e f g i j k l m n o p q s t u w x y z A B D E G H I J L) {r:AV} (h:G4 a b d e f g i j k l m n o p q s t u w x y z A B D E G H I J L (ae (C mx) Tryz.prog) (af (C mx) Tryz.prog 17 Tryz.f17)=some r):A2 (af (C mx) Tryz.prog 17 Tryz.f17) a b d e f g i j k l m n o p q s t u w x y z A B D E G H I J L=some r :=
 ak (fun _ _=>by kernel_rfl) h
theorem OX (a b d e f g i j k l) {r:AV} (h:G5 a b d e f g i j k l (ae (C mx) Tryz.prog) (af (C mx) Tryz.prog 17 Tryz.f17)=some r):sM (af (C mx) Tryz.prog 17 Tryz.f17) a b d e f g i j k l=some r :=
 ak (fun _ _=>by kernel_rfl) h
theorem OY (a b d e f g i j k l m n o p q s t u w x) {r:AV} (h:G6 a b d e f g i j k l m n o p q s t u w x (ae (C mx) Tryz.prog) (af (C mx) Tryz.prog 17 Tryz.f17)=some r):A3 (af (C mx) Tryz.prog 17 Tryz.f17) a b d e f g i j k l m n o p q s t u w x=some r :=
 ak (fun _ _=>by kernel_rfl) h
def YF (a b:UInt8) (d:Bool) (e f g i:UInt8) (j:Bool) (k:UInt8) (l:List UInt8) (c:aq) (r:RunT):Option AV :=
 (az (.b (decide ((bN (a.toNat:Int)) > 20))) false (some (.b (Fe b 4))) (.b true)).bind fun m=>(az m false (some (.b (Fe e 4))) (.b true)).bind fun n=>(az n false (some (.b (Fe g 5))) (.b true)).bind fun o=>(az o false (some (.b (Fe i 6))) (.b true)).bind fun p=>(az p false (some (.b (Fe k 2))) (.b true)).bind fun q=>ah q
 (some (.b false))
 ((az (.b (decide ((bN (a.toNat:Int)) ≥ 4))) true (some (.b (decide ((bN (a.toNat:Int))≤10)))) (.b false)).bind fun s=>(az (.b (decide ((bN (a.toNat:Int)) ≥ 17))) true (some (.b (decide ((bN (a.toNat:Int))≤19)))) (.b false)).bind fun t=>(az (.b (nN b 0)) true ((unop .not s).bind fun u=>some u) (.b false)).bind fun w=>(az w true ((unop .not t).bind fun x=>some x) (.b false)).bind fun y=>(az y false ((az t true (some (.b (aO b 0))) (.b false)).bind fun z=>some z) (.b true)).bind fun A=>ah A
 (some (.b false))
 ((az (.b d) true ((az (.b ((bN (a.toNat:Int)) != 3)) true ((unop .not s).bind fun B=>some B) (.b false)).bind fun D=>(az D false (some (.b (nN b 0))) (.b true)).bind fun E=>some E) (.b false)).bind fun G=>ah G
 (some (.b false))
 ((az (.b (nN e 0)) true (some (.b ((bN (a.toNat:Int)) != 7))) (.b false)).bind fun H=>(az H true (some (.b ((bN (a.toNat:Int)) != 8))) (.b false)).bind fun I=>ah I
 (some (.b false))
 ((az (.b (nN f 0)) true ((az (.b ((bN (a.toNat:Int)) != 8)) false ((az (.b (nN f 34)) true (some (.b (nN f 39))) (.b false)).bind fun J=>some J) (.b true)).bind fun L=>some L) (.b false)).bind fun M=>ah M
 (some (.b false))
 ((az (.b (nN g 0)) true ((az (.b ((bN (a.toNat:Int)) != 8)) false (some (.b (nN e 1))) (.b true)).bind fun N=>some N) (.b false)).bind fun O=>ah O
 (some (.b false))
 ((az (.b (nN k 0)) true (some (.b ((bN (a.toNat:Int)) != 15))) (.b false)).bind fun P=>ah P
 (some (.b false))
 ((az (.b ((bN (a.toNat:Int)) == 8)) true (some (.b (aO e 3))) (.b false)).bind fun Q=>(az Q false ((az t true (some (.b (aO b 4))) (.b false)).bind fun R=>some R) (.b true)).bind fun T=>(az (.b (nN i 0)) true ((c 34 [.ag [.u8 a,.u8 b,.b d,.u8 e,.u8 f,.u8 g,.u8 i,.b j,.u8 k,.s l]]).bind fun U=>(unop .not U).bind fun V=>some V) (.b false)).bind fun W=>(az W false ((az T true (some (.b (aO i 4))) (.b false)).bind fun Y=>some Y) (.b true)).bind fun Z=>ah Z
 (some (.b false))
 ((az (.b j) true (some (.b (nN i 1))) (.b false)).bind fun v0=>(az v0 true (some (.b (nN i 2))) (.b false)).bind fun v1=>ah v1
 (some (.b false))
 ((az (.b ((bN (a.toNat:Int)) == 3)) false (some (.b ((bN (a.toNat:Int)) == 5))) (.b true)).bind fun v2=>(az v2 false (some (.b ((bN (a.toNat:Int)) == 6))) (.b true)).bind fun v3=>ah v3
 ((c 35 [.s l,.int 32]).bind fun v4=>some v4)
 ((az (.b ((bN (a.toNat:Int)) == 8)) true (some (.b (aO e 1))) (.b false)).bind fun v5=>(az v5 true (some (.b (aO g 1))) (.b false)).bind fun v6=>ah v6
 ((c 35 [.s l,.int 16]).bind fun v7=>some v7)
 (ah (.b ((bN (a.toNat:Int)) == 19))
 ((c 36 [.int (bN (b.toNat:Int))]).bind fun v8=>(iQ v8).bind fun v9=>(aH .leq (.int ((l.length:Int))) v9).bind fun w0=>(az (w0) true ((iv v8 none (some (.int ((l.length:Int))))).bind fun w1=>(cy .eql (w1) (.s l)).bind fun w2=>some (w2)) (.b false)).bind fun w3=>some (w3))
 (some (.b (l == []))))))))))))))
theorem c20 (a b d e f g i j k l) {r:AV} (h:YF a b d e f g i j k l (ae (C mx) Tryz.prog) (af (C mx) Tryz.prog 20 Tryz.f20)=some r):ae (C mx) Tryz.prog 20 [.ag [.u8 a,.u8 b,.b d,.u8 e,.u8 f,.u8 g,.u8 i,.b j,.u8 k,.s l]]=some r :=
 aj (fun _ _=>by kernel_rfl) h
def CG (run:RunT) (a:List UInt8) (b d e:Int):Option AV :=
 run ((bP 2 ((Tryz.f28.body).getD .skip) []).getD []) (St.bX [(0,.cell (.val (.s a))),(1,.cell (.val (.int b))),(7,.cell (.val (.int d))),(8,.cell (.val (.int e)))] [])
def YG (a:List UInt8) (b:Int) (c:aq) (r:RunT):Option AV :=
 CG r a b ((a.length:Int)) 0
theorem c28 (a b) {r:AV} (h:YG a b (ae (C mx) Tryz.prog) (af (C mx) Tryz.prog 28 Tryz.f28)=some r):ae (C mx) Tryz.prog 28 [.s a,.int b]=some r :=
 aj (fun _ _=>by kernel_rfl) h
def G7 (a:List UInt8) (b d e:Int) (c:aq) (r:RunT):Option AV :=
 ah (.b (decide (e < d)))
 ((dm (.s a) (.int e)).bind fun f=>(aH .geq f (.u8 65)).bind fun g=>(az g true ((dm (.s a) (.int e)).bind fun i=>(aH .leq i (.u8 90)).bind fun j=>some j) (.b false)).bind fun k=>ah k
 (some (.b false))
 (CG r a b d (bN (e+1))))
 ((az (.b (decide (((a.length:Int)) ≥ 1))) true (some (.b (decide (((a.length:Int))≤b)))) (.b false)).bind fun l=>some l)
theorem MM (a b d e) {r:AV} (h:G7 a b d e (ae (C mx) Tryz.prog) (af (C mx) Tryz.prog 28 Tryz.f28)=some r):CG (af (C mx) Tryz.prog 28 Tryz.f28) a b d e=some r :=
 ak (fun _ _=>by kernel_rfl) h
def G8:Code:=(Tryz.f29.body).getD .skip
def wL (run:RunT) (a b:UInt8) (d:Bool) (e f g i:UInt8) (j:Bool) (k:UInt8) (l:List UInt8) (m n:UInt8) (o:Bool) (p q s t:UInt8) (u:Bool) (w:UInt8) (x:List UInt8):Option AV :=
 run ((bP 14 G8 []).getD []) (St.bX [(2,.cell (.ptr 2 0)),(3,.cell (.ptr 3 0))] [(2,some (cT a b d e f g i j k l)),(3,some (cT m n o p q s t u w x))])
def wM (run:RunT) (a b:UInt8) (d:Bool) (e f g i:UInt8) (j:Bool) (k:UInt8) (l:List UInt8) (m n:UInt8) (o:Bool) (p q s t:UInt8) (u:Bool) (w:UInt8) (x:List UInt8):Option AV :=
 run ((bP 12 G8 []).getD []) (St.bX [(2,.cell (.ptr 2 0)),(3,.cell (.ptr 3 0))] [(2,some (cT a b d e f g i j k l)),(3,some (cT m n o p q s t u w x))])
def YH (a b:UInt8) (d:Bool) (e f g i:UInt8) (j:Bool) (k:UInt8) (l:List UInt8) (m n:UInt8) (o:Bool) (p q s t:UInt8) (u:Bool) (w:UInt8) (x:List UInt8) (c:aq) (r:RunT):Option AV :=
 (az (.b (nN f 0)) true (some (.b (nN f 34))) (.b false)).bind fun y=>(az y true (some (.b (nN f 39))) (.b false)).bind fun z=>ah z
 (some (.b false))
 (ah (.b (aO e 1))
 (ah (.b (aO g 1))
 ((az (.b ((a == m && (b == n && (d == o && (e == e && (f == f && (g == g && (i == t && (j == u && (k == w && (l == l && true)))))))))))) true ((c 28 [.s l,.int 16]).bind fun A=>some A) (.b false)).bind fun B=>some B)
 (wL r a b d e f g i j k l m n o e f g t u w x))
 (ah (.b (aO e 2))
 (wM r a b d e f g i j k l m n o e f s t u w x)
 (ah (.b (aO e 3))
 (wM r a b d e f g i j k l m n o e f s t u w x)
 (wL r a b d e f g i j k l m n o e f s t u w x))))
theorem c29 (a b d e f g i j k l m n o p q s t u w x) {r:AV} (h:YH a b d e f g i j k l m n o p q s t u w x (ae (C mx) Tryz.prog) (af (C mx) Tryz.prog 29 Tryz.f29)=some r):ae (C mx) Tryz.prog 29 [.ag [.u8 a,.u8 b,.b d,.u8 e,.u8 f,.u8 g,.u8 i,.b j,.u8 k,.s l],.ag [.u8 m,.u8 n,.b o,.u8 p,.u8 q,.u8 s,.u8 t,.b u,.u8 w,.s x]]=some r :=
 aj (fun _ _=>by kernel_rfl) h
def G9 (a b:UInt8) (d:Bool) (e f g i:UInt8) (j:Bool) (k:UInt8) (l:List UInt8) (m n:UInt8) (o:Bool) (p q s t:UInt8) (u:Bool) (w:UInt8) (x:List UInt8) (c:aq) (r:RunT):Option AV :=
 some (.b ((a == m && (b == n && (d == o && (e == p && (f == q && (g == s && (i == t && (j == u && (k == w && (l == x && true))))))))))))
def Ha (a b:UInt8) (d:Bool) (e f g i:UInt8) (j:Bool) (k:UInt8) (l:List UInt8) (m n:UInt8) (o:Bool) (p q s t:UInt8) (u:Bool) (w:UInt8) (x:List UInt8) (c:aq) (r:RunT):Option AV :=
 (az (.b ((a == m && (b == n && (d == o && (e == p && (f == q && (g == s && (i == i && (j == j && (k == w && (l == x && true)))))))))))) true ((c 41 [.ag [.u8 a,.u8 b,.b d,.u8 e,.u8 f,.u8 g,.u8 i,.b j,.u8 k,.s l],.b (aO e 2)]).bind fun y=>some y) (.b false)).bind fun z=>some z
theorem OZ (a b d e f g i j k l m n o p q s t u w x) {r:AV} (h:G9 a b d e f g i j k l m n o p q s t u w x (ae (C mx) Tryz.prog) (af (C mx) Tryz.prog 29 Tryz.f29)=some r):wL (af (C mx) Tryz.prog 29 Tryz.f29) a b d e f g i j k l m n o p q s t u w x=some r :=
 ak (fun _ _=>by kernel_rfl) h
theorem O0 (a b d e f g i j k l m n o p q s t u w x) {r:AV} (h:Ha a b d e f g i j k l m n o p q s t u w x (ae (C mx) Tryz.prog) (af (C mx) Tryz.prog 29 Tryz.f29)=some r):wM (af (C mx) Tryz.prog 29 Tryz.f29) a b d e f g i j k l m n o p q s t u w x=some r :=
 ak (fun _ _=>by kernel_rfl) h
def Hb:Code:=(Tryz.f30.body).getD .skip
def CH (run:RunT) (a b:UInt8) (d:Bool) (e f g i:UInt8) (j:Bool) (k:UInt8) (l:List UInt8) (m n:UInt8) (o:Bool) (p q s t:UInt8) (u:Bool) (w:UInt8) (x:List UInt8):Option AV :=
 run ((bP 4 Hb []).getD []) (St.bX [(1,.cell (.ptr 1 0)),(3,.cell (.ptr 3 0))] [(1,some (cT a b d e f g i j k l)),(3,some (cT m n o p q s t u w x))])
def CI (run:RunT) (a b:UInt8) (d:Bool) (e f g i:UInt8) (j:Bool) (k:UInt8) (l:List UInt8) (m n:UInt8) (o:Bool) (p q s t:UInt8) (u:Bool) (w:UInt8) (x:List UInt8):Option AV :=
 run ((bP 6 Hb []).getD []) (St.bX [(1,.cell (.ptr 1 0)),(3,.cell (.ptr 3 0))] [(1,some (cT a b d e f g i j k l)),(3,some (cT m n o p q s t u w x))])
def YI (a b:UInt8) (d:Bool) (e f g i:UInt8) (j:Bool) (k:UInt8) (l:List UInt8) (c:aq) (r:RunT):Option AV :=
 ah (.b (aO a 19))
 (CH r a b d e f g i j k l a b false 0 0 0 0 false 0 l)
 (CH r a b d e f g i j k l a b false 0 0 0 0 false 0 [])
theorem c30 (a b d e f g i j k l) {r:AV} (h:YI a b d e f g i j k l (ae (C mx) Tryz.prog) (af (C mx) Tryz.prog 30 Tryz.f30)=some r):ae (C mx) Tryz.prog 30 [.ag [.u8 a,.u8 b,.b d,.u8 e,.u8 f,.u8 g,.u8 i,.b j,.u8 k,.s l]]=some r :=
 aj (fun _ _=>by kernel_rfl) h
def MN (a b:UInt8) (d:Bool) (e f g i:UInt8) (j:Bool) (k:UInt8) (l:List UInt8) (m n:UInt8) (o:Bool) (p q s t:UInt8) (u:Bool) (w:UInt8) (x:List UInt8) (c:aq) (r:RunT):Option AV :=
 (az (.b (aO b 3)) false (some (.b (aO b 4))) (.b true)).bind fun y=>ah y
 (CI r a b d e f g i j k l m n o p q s i j w x)
 (CI r a b d e f g i j k l m n o p q s t u w x)
def MO (a b:UInt8) (d:Bool) (e f g i:UInt8) (j:Bool) (k:UInt8) (l:List UInt8) (m n:UInt8) (o:Bool) (p q s t:UInt8) (u:Bool) (w:UInt8) (x:List UInt8) (c:aq) (r:RunT):Option AV :=
 (az (.b ((a == m && (b == n && (d == o && (e == p && (f == q && (g == s && (i == t && (j == u && (k == w && (l == x && true)))))))))))) true (some (.b (nN b 0))) (.b false)).bind fun y=>(az y true ((c 43 [.u8 b]).bind fun z=>(c 42 [z,.s l]).bind fun A=>some A) (.b false)).bind fun B=>(az B true ((c 41 [.ag [.u8 a,.u8 b,.b d,.u8 e,.u8 f,.u8 g,.u8 i,.b j,.u8 k,.s l],.b (aO b 3)]).bind fun D=>some D) (.b false)).bind fun E=>some E
theorem R6 (a b d e f g i j k l m n o p q s t u w x) {r:AV} (h:MN a b d e f g i j k l m n o p q s t u w x (ae (C mx) Tryz.prog) (af (C mx) Tryz.prog 30 Tryz.f30)=some r):CH (af (C mx) Tryz.prog 30 Tryz.f30) a b d e f g i j k l m n o p q s t u w x=some r :=
 ak (fun _ _=>by kernel_rfl) h
theorem R7 (a b d e f g i j k l m n o p q s t u w x) {r:AV} (h:MO a b d e f g i j k l m n o p q s t u w x (ae (C mx) Tryz.prog) (af (C mx) Tryz.prog 30 Tryz.f30)=some r):CI (af (C mx) Tryz.prog 30 Tryz.f30) a b d e f g i j k l m n o p q s t u w x=some r :=
 ak (fun _ _=>by kernel_rfl) h
def YJ (a b:UInt8) (d:Bool) (e f g i:UInt8) (j:Bool) (k:UInt8) (l:List UInt8) (c:aq) (r:RunT):Option AV :=
 (az (.b ((bN (a.toNat:Int)) == 8)) true ((az (.b (aO e 2)) false (some (.b (aO e 3))) (.b true)).bind fun m=>some m) (.b false)).bind fun n=>(az n false ((az (.b (decide ((bN (a.toNat:Int)) ≥ 17))) true (some (.b (decide ((bN (a.toNat:Int))≤19)))) (.b false)).bind fun o=>(az o true ((az (.b (aO b 3)) false (some (.b (aO b 4))) (.b true)).bind fun p=>some p) (.b false)).bind fun q=>some q) (.b true)).bind fun s=>some s
theorem c34 (a b d e f g i j k l) {r:AV} (h:YJ a b d e f g i j k l (ae (C mx) Tryz.prog) (af (C mx) Tryz.prog 34 Tryz.f34)=some r):ae (C mx) Tryz.prog 34 [.ag [.u8 a,.u8 b,.b d,.u8 e,.u8 f,.u8 g,.u8 i,.b j,.u8 k,.s l]]=some r :=
 aj (fun _ _=>by kernel_rfl) h
def CJ (run:RunT) (a:List UInt8) (b d:Int):Option AV :=
 run ((bP 2 ((Tryz.f35.body).getD .skip) []).getD []) (St.bX [(0,.cell (.val (.s a))),(1,.cell (.val (.int b))),(5,.cell (.val (.int d)))] [])
def X35 (a:List UInt8) (b:Int) (c:aq) (r:RunT):Option AV :=
 CJ r a b 0
theorem c35 (a b) {r:AV} (h:X35 a b (ae (C mx) Tryz.prog) (af (C mx) Tryz.prog 35 Tryz.f35)=some r):ae (C mx) Tryz.prog 35 [.s a,.int b]=some r :=
 aj (fun _ _=>by kernel_rfl) h
def Hc (a:List UInt8) (b d:Int) (c:aq) (r:RunT):Option AV :=
 ah (.b (decide (d < ((a.length:Int)))))
 ((dm (.s a) (.int d)).bind fun e=>(aH .geq e (.u8 65)).bind fun f=>(az f true ((dm (.s a) (.int d)).bind fun g=>(aH .leq g (.u8 90)).bind fun i=>some i) (.b false)).bind fun j=>ah j
 (some (.b false))
 (CJ r a b (bN (d+1))))
 ((az (.b (decide (((a.length:Int)) > 0))) true (some (.b (decide (((a.length:Int))≤b)))) (.b false)).bind fun k=>some k)
theorem MP (a b d) {r:AV} (h:Hc a b d (ae (C mx) Tryz.prog) (af (C mx) Tryz.prog 35 Tryz.f35)=some r):CJ (af (C mx) Tryz.prog 35 Tryz.f35) a b d=some r :=
 ak (fun _ _=>by kernel_rfl) h
def X36 (a:Int) (c:aq) (r:RunT):Option AV :=
 (az (.b (decide (a < 0))) false (some (.b (decide (a > 4)))) (.b true)).bind fun b=>ah b
 (some (.s []))
 ((lS (([.s [],.s [116,101,120,116,97,114,101,97],.s [116,105,116,108,101],.s [115,99,114,105,112,116],.s [115,116,121,108,101]]:List AV)).length (.int a)).bind fun d=>some (AV.cell ((([.s [],.s [116,101,120,116,97,114,101,97],.s [116,105,116,108,101],.s [115,99,114,105,112,116],.s [115,116,121,108,101]]:List AV)).getD d .un) 0))
theorem c36 a {r:AV} (h:X36 a (ae (C mx) Tryz.prog) (af (C mx) Tryz.prog 36 Tryz.f36)=some r):ae (C mx) Tryz.prog 36 [.int a]=some r :=
 aj (fun _ _=>by kernel_rfl) h
def YK (a b:UInt8) (d:Bool) (e f g i:UInt8) (j:Bool) (k:UInt8) (l:List UInt8) (m:Bool) (c:aq) (r:RunT):Option AV :=
 (az (.b (!m)) true (some (.b (aO i 4))) (.b false)).bind fun n=>ah n
 (some (.b false))
 ((az (.b (!j)) false (some (.b (aO i 1))) (.b true)).bind fun o=>(az o false (some (.b (aO i 2))) (.b true)).bind fun p=>some p)
theorem c41 (a b d e f g i j k l m) {r:AV} (h:YK a b d e f g i j k l m (ae (C mx) Tryz.prog) (af (C mx) Tryz.prog 41 Tryz.f41)=some r):ae (C mx) Tryz.prog 41 [.ag [.u8 a,.u8 b,.b d,.u8 e,.u8 f,.u8 g,.u8 i,.b j,.u8 k,.s l],.b m]=some r :=
 aj (fun _ _=>by kernel_rfl) h
def R8 (a b:List UInt8) (c:aq) (r:RunT):Option AV :=
 (c 57 [.s a,.s b]).bind fun d=>some d
theorem V9 (a b) {r:AV} (h:R8 a b (ae (C mx) Tryz.prog) (af (C mx) Tryz.prog 42 Tryz.f42)=some r):ae (C mx) Tryz.prog 42 [.s a,.s b]=some r :=
 aj (fun _ _=>by kernel_rfl) h
def X43 (a:UInt8) (c:aq) (r:RunT):Option AV :=
 ah (.b (aO a 1))
 (some (.s [116,101,120,116,97,114,101,97]))
 (ah (.b (aO a 2))
 (some (.s [116,105,116,108,101]))
 (ah (.b (aO a 3))
 (some (.s [115,99,114,105,112,116]))
 (ah (.b (aO a 4))
 (some (.s [115,116,121,108,101]))
 (some (.s [])))))
theorem c43 a {r:AV} (h:X43 a (ae (C mx) Tryz.prog) (af (C mx) Tryz.prog 43 Tryz.f43)=some r):ae (C mx) Tryz.prog 43 [.u8 a]=some r :=
 aj (fun _ _=>by kernel_rfl) h
def YL (a b:UInt8) (d:Bool) (e f g i:UInt8) (j:Bool) (k:UInt8) (l:List UInt8) (c:aq) (r:RunT):Option AV :=
 ah (.b (aO a 0))
 (some (.u8 1))
 ((az (.b (aO a 17)) true ((az (.b (aO b 1)) false (some (.b (aO b 2))) (.b true)).bind fun m=>some m) (.b false)).bind fun n=>ah n
 (some (.u8 2))
 ((az (.b (aO a 17)) true (some (.b (aO b 3))) (.b false)).bind fun o=>(az o true ((c 63 [.ag [.u8 a,.u8 b,.b d,.u8 e,.u8 f,.u8 g,.u8 i,.b j,.u8 k,.s l]]).bind fun p=>some p) (.b false)).bind fun q=>ah q
 (some (.u8 7))
 ((az (.b (aO a 17)) true (some (.b (aO b 4))) (.b false)).bind fun s=>(az s true ((c 63 [.ag [.u8 a,.u8 b,.b d,.u8 e,.u8 f,.u8 g,.u8 i,.b j,.u8 k,.s l]]).bind fun t=>some t) (.b false)).bind fun u=>ah u
 (some (.u8 9))
 ((az (.b (nN a 8)) false (some (.b (aO f 0))) (.b true)).bind fun w=>ah w
 (some (.u8 0))
 (ah (.b (aO e 0))
 (some (.u8 3))
 ((az (.b (aO e 2)) true ((c 63 [.ag [.u8 a,.u8 b,.b d,.u8 e,.u8 f,.u8 g,.u8 i,.b j,.u8 k,.s l]]).bind fun x=>some x) (.b false)).bind fun y=>ah y
 (some (.u8 8))
 ((az (.b (aO e 3)) true ((c 63 [.ag [.u8 a,.u8 b,.b d,.u8 e,.u8 f,.u8 g,.u8 i,.b j,.u8 k,.s l]]).bind fun z=>some z) (.b false)).bind fun A=>ah A
 (some (.u8 10))
 (ah (.b (nN e 1))
 (some (.u8 0))
 (ah (.b (aO g 0))
 (some (.u8 4))
 (ah (.b (aO g 3))
 (some (.u8 5))
 (ah (.b (aO g 4))
 (some (.u8 6))
 (some (.u8 0)))))))))))))
theorem c50 (a b d e f g i j k l) {r:AV} (h:YL a b d e f g i j k l (ae (C mx) Tryz.prog) (af (C mx) Tryz.prog 50 Tryz.f50)=some r):ae (C mx) Tryz.prog 50 [.ag [.u8 a,.u8 b,.b d,.u8 e,.u8 f,.u8 g,.u8 i,.b j,.u8 k,.s l]]=some r :=
 aj (fun _ _=>by kernel_rfl) h
def CK (run:RunT) (a b:UInt8) (d:Bool) (e f g i:UInt8) (j:Bool) (k:UInt8) (l:List UInt8) (m n:UInt8) (o:Bool) (p q s t:UInt8) (u:Bool) (w:UInt8) (x:List UInt8):Option AV :=
 run ((bP 6 ((Tryz.f51.body).getD .skip) []).getD []) (St.bX [(1,.cell (.ptr 1 0)),(2,.cell (.ptr 2 0))] [(1,some (cT a b d e f g i j k l)),(2,some (cT m n o p q s t u w x))])
def YM (a b:UInt8) (d:Bool) (e f g i:UInt8) (j:Bool) (k:UInt8) (l:List UInt8) (c:aq) (r:RunT):Option AV :=
 (c 50 [.ag [.u8 a,.u8 b,.b d,.u8 e,.u8 f,.u8 g,.u8 i,.b j,.u8 k,.s l]]).bind fun m=>(aH .eql m (.u8 0)).bind fun n=>ah n
 (some (.ag [.u8 20,.u8 0,.b false,.u8 0,.u8 0,.u8 0,.u8 0,.b false,.u8 0,.s []]))
 ((aH .eql m (.u8 4)).bind fun o=>ah o
 (CK r a b d e f 2 i j k l 0 0 false 0 0 0 0 false 0 [])
 (CK r a b d e f g i j k l 0 0 false 0 0 0 0 false 0 []))
theorem c51 (a b d e f g i j k l) {r:AV} (h:YM a b d e f g i j k l (ae (C mx) Tryz.prog) (af (C mx) Tryz.prog 51 Tryz.f51)=some r):ae (C mx) Tryz.prog 51 [.ag [.u8 a,.u8 b,.b d,.u8 e,.u8 f,.u8 g,.u8 i,.b j,.u8 k,.s l]]=some r :=
 aj (fun _ _=>by kernel_rfl) h
def R9 (a b:UInt8) (d:Bool) (e f g i:UInt8) (j:Bool) (k:UInt8) (l:List UInt8) (m n:UInt8) (o:Bool) (p q s t:UInt8) (u:Bool) (w:UInt8) (x:List UInt8) (c:aq) (r:RunT):Option AV :=
 some (.ag [.u8 a,.u8 b,.b d,.u8 e,.u8 f,.u8 g,.u8 i,.b j,.u8 k,.s l])
theorem Sa (a b d e f g i j k l m n o p q s t u w x) {r:AV} (h:R9 a b d e f g i j k l m n o p q s t u w x (ae (C mx) Tryz.prog) (af (C mx) Tryz.prog 51 Tryz.f51)=some r):CK (af (C mx) Tryz.prog 51 Tryz.f51) a b d e f g i j k l m n o p q s t u w x=some r :=
 ak (fun _ _=>by kernel_rfl) h
def kN (run:RunT)  : Option AV :=
 run ((bP 32 ((Tryz.f55.body).getD .skip) []).getD []) (St.bX [] [])
def YN (a b:UInt8) (d:Bool) (e f g i:UInt8) (j:Bool) (k:UInt8) (l:List UInt8) (c:aq) (r:RunT):Option AV :=
 (az (.b (aO i 1)) false (some (.b (aO i 2))) (.b true)).bind fun m=>(az m true (some (.b (!j))) (.b false)).bind fun n=>ah (.b ((bN (a.toNat:Int)) == 0))
 (some (.int 1))
 (ah (.b ((bN (a.toNat:Int)) == 17))
 ((az (.b (aO b 1)) false (some (.b (aO b 2))) (.b true)).bind fun o=>ah o
 (some (.int 2))
 ((az n true (some (.b (aO b 3))) (.b false)).bind fun p=>ah p
 (some (.int 7))
 ((az n true (some (.b (aO b 4))) (.b false)).bind fun q=>ah q
 (some (.int 9))
 (kN r))))
 (ah (.b ((bN (a.toNat:Int)) == 8))
 (ah (.b (aO f 0))
 (some (.int 0))
 (ah (.b (aO e 0))
 (some (.int 3))
 (ah (.b (aO e 1))
 (ah (.b (aO g 0))
 (some (.int 4))
 (ah (.b (aO g 3))
 (some (.int 5))
 (ah (.b (aO g 4))
 (some (.int 6))
 (kN r))))
 (ah (.b (aO e 2))
 (ah n
 (some (.int 8))
 (kN r))
 (ah (.b (aO e 3))
 (ah n
 (some (.int 10))
 (kN r))
 (kN r))))))
 (kN r)))
theorem c55 (a b d e f g i j k l) {r:AV} (h:YN a b d e f g i j k l (ae (C mx) Tryz.prog) (af (C mx) Tryz.prog 55 Tryz.f55)=some r):ae (C mx) Tryz.prog 55 [.ag [.u8 a,.u8 b,.b d,.u8 e,.u8 f,.u8 g,.u8 i,.b j,.u8 k,.s l]]=some r :=
 aj (fun _ _=>by kernel_rfl) h
def O1  (c:aq) (r:RunT):Option AV :=
 some (.int 0)
theorem O2 {r:AV} (h:O1  (ae (C mx) Tryz.prog) (af (C mx) Tryz.prog 55 Tryz.f55)=some r):kN (af (C mx) Tryz.prog 55 Tryz.f55)  = some r :=
 ak (fun _ _=>by kernel_rfl) h
def CL (run:RunT) (a b:UInt8) (d:Bool) (e f g i:UInt8) (j:Bool) (k:UInt8) (l:List UInt8) (m n:UInt8) (o:Bool) (p q s t:UInt8) (u:Bool) (w:UInt8) (x:List UInt8):Option AV :=
 run ((bP 6 ((Tryz.f56.body).getD .skip) []).getD []) (St.bX [(1,.cell (.ptr 1 0)),(2,.cell (.ptr 2 0))] [(1,some (cT a b d e f g i j k l)),(2,some (cT m n o p q s t u w x))])
def YO (a b:UInt8) (d:Bool) (e f g i:UInt8) (j:Bool) (k:UInt8) (l:List UInt8) (c:aq) (r:RunT):Option AV :=
 (c 55 [.ag [.u8 a,.u8 b,.b d,.u8 e,.u8 f,.u8 g,.u8 i,.b j,.u8 k,.s l]]).bind fun m=>(aH .eql m (.int 0)).bind fun n=>ah n
 (some (.ag [.u8 20,.u8 0,.b false,.u8 0,.u8 0,.u8 0,.u8 0,.b false,.u8 0,.s []]))
 ((aH .eql m (.int 4)).bind fun o=>ah o
 (CL r a b d e f 2 i j k l 0 0 false 0 0 0 0 false 0 [])
 (CL r a b d e f g i j k l 0 0 false 0 0 0 0 false 0 []))
theorem c56 (a b d e f g i j k l) {r:AV} (h:YO a b d e f g i j k l (ae (C mx) Tryz.prog) (af (C mx) Tryz.prog 56 Tryz.f56)=some r):ae (C mx) Tryz.prog 56 [.ag [.u8 a,.u8 b,.b d,.u8 e,.u8 f,.u8 g,.u8 i,.b j,.u8 k,.s l]]=some r :=
 aj (fun _ _=>by kernel_rfl) h
def Sb (a b:UInt8) (d:Bool) (e f g i:UInt8) (j:Bool) (k:UInt8) (l:List UInt8) (m n:UInt8) (o:Bool) (p q s t:UInt8) (u:Bool) (w:UInt8) (x:List UInt8) (c:aq) (r:RunT):Option AV :=
 some (.ag [.u8 a,.u8 b,.b d,.u8 e,.u8 f,.u8 g,.u8 i,.b j,.u8 k,.s l])
theorem Sc (a b d e f g i j k l m n o p q s t u w x) {r:AV} (h:Sb a b d e f g i j k l m n o p q s t u w x (ae (C mx) Tryz.prog) (af (C mx) Tryz.prog 56 Tryz.f56)=some r):CL (af (C mx) Tryz.prog 56 Tryz.f56) a b d e f g i j k l m n o p q s t u w x=some r :=
 ak (fun _ _=>by kernel_rfl) h
def Sd (a b:List UInt8) (c:aq) (r:RunT):Option AV :=
 (az (.b (decide (((a.length:Int)) ≥ ((b.length:Int))))) true ((iv (.s a) none (some (.int ((b.length:Int))))).bind fun d=>(cy .eql d (.s b)).bind fun e=>some e) (.b false)).bind fun f=>some f
theorem V' (a b) {r:AV} (h:Sd a b (ae (C mx) Tryz.prog) (af (C mx) Tryz.prog 57 Tryz.f57)=some r):ae (C mx) Tryz.prog 57 [.s a,.s b]=some r :=
 aj (fun _ _=>by kernel_rfl) h
def YP (a b:UInt8) (d:Bool) (e f g i:UInt8) (j:Bool) (k:UInt8) (l:List UInt8) (c:aq) (r:RunT):Option AV :=
 (az (.b (aO i 1)) false (some (.b (aO i 2))) (.b true)).bind fun m=>(az m true (some (.b (!j))) (.b false)).bind fun n=>some n
theorem c63 (a b d e f g i j k l) {r:AV} (h:YP a b d e f g i j k l (ae (C mx) Tryz.prog) (af (C mx) Tryz.prog 63 Tryz.f63)=some r):ae (C mx) Tryz.prog 63 [.ag [.u8 a,.u8 b,.b d,.u8 e,.u8 f,.u8 g,.u8 i,.b j,.u8 k,.s l]]=some r :=
 aj (fun _ _=>by kernel_rfl) h
def mS (run:RunT) (a:List UInt8) (b:List AV) (d:Int):Option AV :=
 run ((bP 3 ((Tryz.f102.body).getD .skip) []).getD []) (St.bX [(0,.cell (.val (.s a))),(3,.cell (.own 5 9 1 b)),(4,.cell (.val (.int d)))] [])
def Sg (a:List UInt8) (c:aq) (r:RunT):Option AV :=
 mS r a (([.s [],.s [116,101,120,116,97,114,101,97],.s [116,105,116,108,101],.s [115,99,114,105,112,116],.s [115,116,121,108,101]]:List AV)) 1
theorem Wa a {r:AV} (h:Sg a (ae (C mx) Tryz.prog) (af (C mx) Tryz.prog 102 Tryz.f102)=some r):ae (C mx) Tryz.prog 102 [.s a]=some r :=
 aj (fun _ _=>by kernel_rfl) h
def O3 (a:List UInt8) (b:List AV) (d:Int) (c:aq) (r:RunT):Option AV :=
 ah (.b (decide (d < 5)))
 ((lS b.length (.int d)).bind fun e=>(cy .eql (AV.cell (b.getD e .un) 0) (.s a)).bind fun f=>ah f
 (some (.int d))
 (mS r a b (bN (d+1))))
 (some (.int 0))
theorem sO (a b d) {r:AV} (h:O3 a b d (ae (C mx) Tryz.prog) (af (C mx) Tryz.prog 102 Tryz.f102)=some r):mS (af (C mx) Tryz.prog 102 Tryz.f102) a b d=some r :=
 ak (fun _ _=>by kernel_rfl) h
def Sh (a:List UInt8) (c:aq) (r:RunT):Option AV :=
 ah (.b (a == [116,101,120,116,97,114,101,97]))
 (some (.u8 1))
 (ah (.b (a == [116,105,116,108,101]))
 (some (.u8 2))
 (ah (.b (a == [115,99,114,105,112,116]))
 (some (.u8 3))
 (ah (.b (a == [115,116,121,108,101]))
 (some (.u8 4))
 (some (.u8 0)))))
theorem Wb a {r:AV} (h:Sh a (ae (C mx) Tryz.prog) (af (C mx) Tryz.prog 120 Tryz.f120)=some r):ae (C mx) Tryz.prog 120 [.s a]=some r :=
 aj (fun _ _=>by kernel_rfl) h
def CM:Code:=(Tryz.f130.body).getD .skip
def wN (run:RunT) (a:List UInt8) (b:List AV) (d:Int):Option AV :=
 run ((bP 3 CM []).getD []) (St.bX [(0,.cell (.val (.s a))),(3,.cell (.own 7 9 1 b)),(4,.cell (.val (.int d)))] [])
def wO (run:RunT) (a:List UInt8) (b:List AV) (d:Int):Option AV :=
 run ((bP 9 CM []).getD []) (St.bX [(0,.cell (.val (.s a))),(5,.cell (.own 20 9 1 b)),(6,.cell (.val (.int d)))] [])
def Wc (a:List UInt8) (c:aq) (r:RunT):Option AV :=
 wN r a (([.s [97,99,116,105,111,110],.s [98,97,99,107,103,114,111,117,110,100],.s [99,105,116,101],.s [100,97,116,97],.s [102,111,114,109,97,99,116,105,111,110],.s [104,114,101,102],.s [108,111,110,103,100,101,115,99],.s [109,97,110,105,102,101,115,116],.s [112,111,115,116,101,114],.s [115,114,99],.s [120,108,105,110,107,58,104,114,101,102]]:List AV)) 0
theorem We a {r:AV} (h:Wc a (ae (C mx) Tryz.prog) (af (C mx) Tryz.prog 130 Tryz.f130)=some r):ae (C mx) Tryz.prog 130 [.s a]=some r :=
 aj (fun _ _=>by kernel_rfl) h
def A4 (a:List UInt8) (b:List AV) (d:Int) (c:aq) (r:RunT):Option AV :=
 ah (.b (decide (d < ((b.length:Int)))))
 ((lS b.length (.int d)).bind fun e=>(cy .eql (AV.cell (b.getD e .un) 0) (.s a)).bind fun f=>ah f
 (some (.int 1))
 (wN r a b (bN (d+1))))
 (wO r a (([.s [115,114,99,100,111,99],.s [115,114,99,115,101,116],.s [105,109,97,103,101,115,114,99,115,101,116],.s [99,111,110,116,101,110,116],.s [104,116,116,112,45,101,113,117,105,118]]:List AV)) 0)
def A5 (a:List UInt8) (b:List AV) (d:Int) (c:aq) (r:RunT):Option AV :=
 ah (.b (decide (d < ((b.length:Int)))))
 ((lS b.length (.int d)).bind fun e=>(cy .eql (AV.cell (b.getD e .un) 0) (.s a)).bind fun f=>ah f
 (some (.int 4))
 (wO r a b (bN (d+1))))
 (ah (.b (a == [115,116,121,108,101]))
 (some (.int 3))
 ((az (.b (decide (((a.length:Int)) ≥ 3))) true ((dm (.s a) (.int 0)).bind fun g=>(aH .eql g (.u8 111)).bind fun i=>some i) (.b false)).bind fun j=>(az j true ((dm (.s a) (.int 1)).bind fun k=>(aH .eql k (.u8 110)).bind fun l=>some l) (.b false)).bind fun m=>ah m
 (some (.int 2))
 (some (.int 0))))
theorem Hd (a b d) {r:AV} (h:A4 a b d (ae (C mx) Tryz.prog) (af (C mx) Tryz.prog 130 Tryz.f130)=some r):wN (af (C mx) Tryz.prog 130 Tryz.f130) a b d=some r :=
 ak (fun _ _=>by kernel_rfl) h
theorem He (a b d) {r:AV} (h:A5 a b d (ae (C mx) Tryz.prog) (af (C mx) Tryz.prog 130 Tryz.f130)=some r):wO (af (C mx) Tryz.prog 130 Tryz.f130) a b d=some r :=
 ak (fun _ _=>by kernel_rfl) h
def qP:Code:=(Tryz.f138.body).getD .skip
def dY (run:RunT)  : Option AV :=
 run ((bP 13 qP []).getD []) (St.bX [] [])
def wP (run:RunT) (a b:List UInt8):Option AV :=
 run ((bP 14 qP []).getD []) (St.bX [(0,.cell (.val (.s a))),(3,.cell (.val (.s b)))] [])
def jH (run:RunT)  : Option AV :=
 run ((bP 21 qP []).getD []) (St.bX [] [])
def wQ (run:RunT) (a:List UInt8):Option AV :=
 run ((bP 22 qP []).getD []) (St.bX [(0,.cell (.val (.s a)))] [])
def Si (a:List UInt8) (c:aq) (r:RunT):Option AV :=
 ah (.b (a == [97,99,116,105,111,110]))
 (dY r)
 (ah (.b (a == [98,97,99,107,103,114,111,117,110,100]))
 (dY r)
 (ah (.b (a == [99,105,116,101]))
 (dY r)
 (ah (.b (a == [100,97,116,97]))
 (dY r)
 (ah (.b (a == [102,111,114,109,97,99,116,105,111,110]))
 (dY r)
 (ah (.b (a == [104,114,101,102]))
 (dY r)
 (ah (.b (a == [108,111,110,103,100,101,115,99]))
 (dY r)
 (ah (.b (a == [109,97,110,105,102,101,115,116]))
 (dY r)
 (ah (.b (a == [112,111,115,116,101,114]))
 (dY r)
 (ah (.b (a == [115,114,99]))
 (dY r)
 (ah (.b (a == [120,108,105,110,107,58,104,114,101,102]))
 (dY r)
 (wP r a a)))))))))))
theorem Wh a {r:AV} (h:Si a (ae (C mx) Tryz.prog) (af (C mx) Tryz.prog 138 Tryz.f138)=some r):ae (C mx) Tryz.prog 138 [.s a]=some r :=
 aj (fun _ _=>by kernel_rfl) h
def KO  (c:aq) (r:RunT):Option AV :=
 some (.u8 1)
def CN (a b:List UInt8) (c:aq) (r:RunT):Option AV :=
 ah (.b (b == [115,116,121,108,101]))
 (some (.u8 3))
 (ah (.b (b == [115,114,99,100,111,99]))
 (jH r)
 (ah (.b (b == [115,114,99,115,101,116]))
 (jH r)
 (ah (.b (b == [105,109,97,103,101,115,114,99,115,101,116]))
 (jH r)
 (ah (.b (b == [99,111,110,116,101,110,116]))
 (jH r)
 (ah (.b (b == [104,116,116,112,45,101,113,117,105,118]))
 (jH r)
 (wQ r a))))))
def KP  (c:aq) (r:RunT):Option AV :=
 some (.u8 4)
def CO (a:List UInt8) (c:aq) (r:RunT):Option AV :=
 (az (.b (decide (((a.length:Int)) > 2))) true ((c 42 [.s a,.s [111,110]]).bind fun b=>some b) (.b false)).bind fun d=>ah d
 (some (.u8 2))
 (some (.u8 0))
theorem KQ {r:AV} (h:KO  (ae (C mx) Tryz.prog) (af (C mx) Tryz.prog 138 Tryz.f138)=some r):dY (af (C mx) Tryz.prog 138 Tryz.f138)  = some r :=
 ak (fun _ _=>by kernel_rfl) h
theorem KR (a b) {r:AV} (h:CN a b (ae (C mx) Tryz.prog) (af (C mx) Tryz.prog 138 Tryz.f138)=some r):wP (af (C mx) Tryz.prog 138 Tryz.f138) a b=some r :=
 ak (fun _ _=>by kernel_rfl) h
theorem KS {r:AV} (h:KP  (ae (C mx) Tryz.prog) (af (C mx) Tryz.prog 138 Tryz.f138)=some r):jH (af (C mx) Tryz.prog 138 Tryz.f138)  = some r :=
 ak (fun _ _=>by kernel_rfl) h
theorem KT a {r:AV} (h:CO a (ae (C mx) Tryz.prog) (af (C mx) Tryz.prog 138 Tryz.f138)=some r):wQ (af (C mx) Tryz.prog 138 Tryz.f138) a=some r :=
 ak (fun _ _=>by kernel_rfl) h
def CP:Code:=(Tryz.f140.body).getD .skip
def sP (run:RunT) (a b:UInt8) (d:Bool) (e f g i:UInt8) (j:Bool) (k:UInt8) (l:List UInt8):Option AV :=
 run ((bP 7 CP []).getD []) (St.bX [(1,.cell (.ptr 1 0))] [(1,some (cT a b d e f g i j k l))])
def A6 (run:RunT)  : Option AV :=
 run ((bP 8 CP []).getD []) (St.bX [] [])
def Sj (a b:UInt8) (d:Bool) (e f g i:UInt8) (j:Bool) (k:UInt8) (l:List UInt8) (c:aq) (r:RunT):Option AV :=
 ah (.b (aO a 8))
 ((az (.b (aO e 2)) false (some (.b (aO e 3))) (.b true)).bind fun m=>some m)
 (ah (.b (aO a 17))
 (sP r a b d e f g i j k l)
 (ah (.b (aO a 18))
 (sP r a b d e f g i j k l)
 (ah (.b (aO a 19))
 (sP r a b d e f g i j k l)
 (A6 r))))
theorem Wi (a b d e f g i j k l) {r:AV} (h:Sj a b d e f g i j k l (ae (C mx) Tryz.prog) (af (C mx) Tryz.prog 140 Tryz.f140)=some r):ae (C mx) Tryz.prog 140 [.ag [.u8 a,.u8 b,.b d,.u8 e,.u8 f,.u8 g,.u8 i,.b j,.u8 k,.s l]]=some r :=
 aj (fun _ _=>by kernel_rfl) h
def Hf (a b:UInt8) (d:Bool) (e f g i:UInt8) (j:Bool) (k:UInt8) (l:List UInt8) (c:aq) (r:RunT):Option AV :=
 (az (.b (aO b 3)) false (some (.b (aO b 4))) (.b true)).bind fun m=>some m
def O4  (c:aq) (r:RunT):Option AV :=
 some (.b false)
theorem O5 (a b d e f g i j k l) {r:AV} (h:Hf a b d e f g i j k l (ae (C mx) Tryz.prog) (af (C mx) Tryz.prog 140 Tryz.f140)=some r):sP (af (C mx) Tryz.prog 140 Tryz.f140) a b d e f g i j k l=some r :=
 ak (fun _ _=>by kernel_rfl) h
theorem O6 {r:AV} (h:O4  (ae (C mx) Tryz.prog) (af (C mx) Tryz.prog 140 Tryz.f140)=some r):A6 (af (C mx) Tryz.prog 140 Tryz.f140)  = some r :=
 ak (fun _ _=>by kernel_rfl) h
section
variable (st el:UInt8) (en:Bool) (at' qu pa su:UInt8) (es:Bool) (da:UInt8) (nm:List UInt8)
theorem s34:ae (C mx) Tryz.prog 34 [cx st el en at' qu pa su es da nm]=some (.b (l4 st el at')):=by
 apply c34
 simp only [YJ,aN,cA,dO,dt,et,cY,Option.bind_some,aA,aM,ai,gW,ge_iff_le,l4]
 simp only [bT _ _ (show 8 < 256 by decide),Oz _ _ (show 17 < 256 by decide),Oy _ _ (show 19 < 256 by decide)]
theorem YQ (n:Nat):∀ (r p:List UInt8),(p ++ r).length < 9223372036854775808→low p=true→CJ (af (C mx) Tryz.prog 35 Tryz.f35) (p ++ r) (n:Int) (p.length:Int)=some (.b (small (p ++ r) n))
 | [],p,h,hp=>by
  apply MP
  simp only [Hc,qJ,nM,List.append_nil,Option.bind_some,ai,Bool.false_eq_true,if_false,aA,small,hp,Bool.true_and,gt_iff_lt]
  congr 3
  rw [decide_eq_decide];omega
 | c :: r,p,h,hp=>by
  apply MP
  simp only [Hc,wk,iH,lu p c r h,wh,wb,Option.bind_some,ai,if_true,aA]
  cases hc:(decide (65≤c) && decide (c≤90)) with
  | true =>
   have:low (p ++ c :: r)=false:=by simp only [low,List.all_append,List.all_cons,hc,Bool.not_true,Bool.false_and,Bool.and_false]
   simp [small,this]
  | false =>
   simp only [Bool.false_eq_true,if_false]
   rw [dz]
   exact YQ n r (p ++ [c]) (by rw [← dz];exact h) (by simp only [low,List.all_append,List.all_cons,List.all_nil,hc] at hp ⊢;simpa using hp)
theorem YR (n:Nat) (h:nm.length < 9223372036854775808):ae (C mx) Tryz.prog 35 [.s nm,.int (n:Int)]=some (.b (small nm n)):=by
 apply c35
 exact YQ n nm [] h rfl
theorem QK (n:Nat):∀ (r p:List UInt8),(p ++ r).length < 9223372036854775808→low p=true→CG (af (C mx) Tryz.prog 28 Tryz.f28) (p ++ r) (n:Int) ((p ++ r).length:Int) (p.length:Int)=some (.b (small (p ++ r) n))
 | [],p,h,hp=>by
  apply MM
  simp only [G7,qJ,nM,List.append_nil,Option.bind_some,ai,Bool.false_eq_true,if_false,aA,small,hp,Bool.true_and,ge_iff_le]
  congr 3
  rw [decide_eq_decide];omega
 | c :: r,p,h,hp=>by
  apply MM
  simp only [G7,wk,iH,lu p c r h,wh,wb,Option.bind_some,ai,if_true,aA]
  cases hc:(decide (65≤c) && decide (c≤90)) with
  | true =>
   have:low (p ++ c :: r)=false:=by simp only [low,List.all_append,List.all_cons,hc,Bool.not_true,Bool.false_and,Bool.and_false]
   simp [small,this]
  | false =>
   simp only [Bool.false_eq_true,if_false]
   rw [dz]
   exact QK n r (p ++ [c]) (by rw [← dz];exact h) (by simp only [low,List.all_append,List.all_cons,List.all_nil,hc] at hp ⊢;simpa using hp)
theorem Wj (n:Nat) (h:nm.length < 9223372036854775808):ae (C mx) Tryz.prog 28 [.s nm,.int (n:Int)]=some (.b (small nm n)):=by
 apply c28
 simp only [YG]
 exact QK n nm [] h rfl
theorem YS:ae (C mx) Tryz.prog 43 [.u8 el]=some (.s (nameOf el)):=by
 apply c43
 refine yS ?_
 revert el
 exact fD (by kernel_rfl)
theorem YT:ae (C mx) Tryz.prog 36 [.int el.toNat]=some (.s (nameOf el)):=by
 apply c36
 refine yS ?_
 revert el
 exact fD (by kernel_rfl)
theorem Uz (l p:List UInt8):ae (C mx) Tryz.prog 57 [.s l,.s p]=some (.b (pre p l)):=by
 apply V'
 simp only [Sd,Option.bind_some,ge_iff_le]
 by_cases h:p.length≤l.length
 ·rw [mK h]
  simp [pre,h]
 ·have:decide ((p.length:Int)≤(l.length:Int))=false:=by simp;omega
  rw [this,gm]
  simp [pre,h]
theorem UA (l p:List UInt8):ae (C mx) Tryz.prog 42 [.s l,.s p]=some (.b (pre p l)):=by
 apply V9
 simp only [R8,Uz,Option.bind_some]
theorem YU (b:Bool):ae (C mx) Tryz.prog 41 [cx st el en at' qu pa su es da nm,.b b]=some (.b (cm su es b)):=by
 apply c41
 simp only [YK,aN,cA,dO,dt,et,cY,Option.bind_some,aA,aM,ai,cm]
 cases b <;> by_cases h:su=4 <;> simp [h]
theorem s63:ae (C mx) Tryz.prog 63 [cx st el en at' qu pa su es da nm]=some (.b ((su == 1 || su == 2) && !es)):=by
 apply c63
 simp [YP]
end
section
variable (st el:UInt8) (en:Bool) (at' qu pa su:UInt8) (es:Bool) (da:UInt8) (nm:List UInt8)
theorem s20 (h:nm.length < 9223372036854775808):ae (C mx) Tryz.prog 20 [cx st el en at' qu pa su es da nm]=some (.b (form ⟨st,el,en,at',qu,pa,su,es,da,nm⟩)):=by
 apply c20
 have e1:ae (C mx) Tryz.prog 35 [.s nm,.int 32]=some (.b (small nm 32)):=YR nm 32 h
 have e2:ae (C mx) Tryz.prog 35 [.s nm,.int 16]=some (.b (small nm 16)):=YR nm 16 h
 simp only [YF,bH,Bool.and_true,aN,cA,dO,dt,et,cY,Option.bind_some,aA,aM,ai,s34,e1,e2,YT,Gm,nL,gW,ge_iff_le,gt_iff_lt,bq,lr]
 simp only [bT _ _ (show 3 < 256 by decide),bT _ _ (show 5 < 256 by decide),bT _ _ (show 6 < 256 by decide),bT _ _ (show 8 < 256 by decide),bT _ _ (show 19 < 256 by decide),Cw _ _ (show 3 < 256 by decide),Cw _ _ (show 7 < 256 by decide),Cw _ _ (show 8 < 256 by decide),Cw _ _ (show 15 < 256 by decide),
  Oz _ _ (show 17 < 256 by decide),Oy _ _ (show 19 < 256 by decide),Oz _ _ (show 4 < 256 by decide),Oy _ _ (show 10 < 256 by decide),V1 _ _ (show 20 < 256 by decide)]
 have e3:(az (.b (decide ((nm.length:Int)≤((nameOf el).length:Int)))) true ((iv (.s (nameOf el)) none (some (.int (nm.length:Int)))).bind fun Wl=>(cy .eql Wl (.s nm)).bind fun v91=>some v91) (.b false))=some (.b (pre nm (nameOf el))):=by
  by_cases hl:nm.length≤(nameOf el).length
  ·rw [mK hl];simp [pre,hl]
  ·have:decide ((nm.length:Int)≤((nameOf el).length:Int))=false:=by simp;omega
   rw [this,gm];simp [pre,hl]
 rw [e3]
 simp only [Option.bind_some,Gs,form,Cx,zb]
section two
variable (bG wq:UInt8) (wu:Bool) (lZ wx wy ya:UInt8) (yc:Bool) (wz:UInt8) (wA:List UInt8)
theorem O7:wL (af (C mx) Tryz.prog 29 Tryz.f29) st el en at' qu pa su es da nm bG wq wu lZ wx wy ya yc wz wA =
  some (.b (bH ⟨st,el,en,at',qu,pa,su,es,da,nm⟩ ⟨bG,wq,wu,lZ,wx,wy,ya,yc,wz,wA⟩)):=by
 apply OZ
 simp only [G9,bH,Bool.and_true,aN,cA,dO,dt,et,cY,Option.bind_some,aA,aM,ai,Option.bind_some]
theorem O8:wM (af (C mx) Tryz.prog 29 Tryz.f29) st el en at' qu pa su es da nm bG wq wu lZ wx wy ya yc wz wA =
  some (.b (bH ⟨st,el,en,at',qu,pa,su,es,da,nm⟩ ⟨bG,wq,wu,lZ,wx,wy,su,es,wz,wA⟩ && cm su es (at' == 2))):=by
 apply O0
 simp only [Ha,bH,Bool.and_true,aN,cA,dO,dt,et,cY,Option.bind_some,aA,aM,ai,YU,aA]
theorem Sk:CI (af (C mx) Tryz.prog 30 Tryz.f30) st el en at' qu pa su es da nm bG wq wu lZ wx wy ya yc wz wA =
  some (.b (bH ⟨st,el,en,at',qu,pa,su,es,da,nm⟩ ⟨bG,wq,wu,lZ,wx,wy,ya,yc,wz,wA⟩ && (el != 0) && pre nm (nameOf el) && cm su es (el == 3))):=by
 apply R7
 simp only [MO,bH,Bool.and_true,aN,cA,dO,dt,et,cY,Option.bind_some,aA,aM,ai,YU,YS,UA,aA]
theorem Sl:CH (af (C mx) Tryz.prog 30 Tryz.f30) st el en at' qu pa su es da nm bG wq wu lZ wx wy ya yc wz wA =
  some (.b (bH ⟨st,el,en,at',qu,pa,su,es,da,nm⟩ ⟨bG,wq,wu,lZ,wx,wy,if (el == 3 || el == 4)=true then su else ya,if (el == 3 || el == 4)=true then es else yc,wz,wA⟩ && (el != 0) && pre nm (nameOf el) && cm su es (el == 3))):=by
 apply R6
 simp only [MN,bH,Bool.and_true,aN,cA,dO,dt,et,cY,Option.bind_some,aA,aM,ai,Sk,ai]
 split <;> rfl
theorem s30:ae (C mx) Tryz.prog 30 [cx st el en at' qu pa su es da nm] =
  some (.b (bH ⟨st,el,en,at',qu,pa,su,es,da,nm⟩ ⟨st,el,false,0,0,0,if (el == 3 || el == 4)=true then su else 0,if (el == 3 || el == 4)=true then es else false,0,if (st == 19)=true then nm else []⟩ && (el != 0) && pre nm (nameOf el) && cm su es (el == 3))):=by
 apply c30
 simp only [YI,bH,Bool.and_true,aN,cA,dO,dt,et,cY,Option.bind_some,aA,aM,ai,Sl,ai]
 split <;> rfl
theorem s29 (h:nm.length < 9223372036854775808):ae (C mx) Tryz.prog 29 [cx st el en at' qu pa su es da nm,cx bG wq wu lZ wx wy ya yc wz wA] =
  some (.b (nQ ⟨st,el,en,at',qu,pa,su,es,da,nm⟩ ⟨bG,wq,wu,lZ,wx,wy,ya,yc,wz,wA⟩)):=by
 apply c29
 have e2:ae (C mx) Tryz.prog 28 [.s nm,.int 16]=some (.b (small nm 16)):=Wj nm 16 h
 simp only [YH,bH,Bool.and_true,aN,cA,dO,dt,et,cY,Option.bind_some,aA,aM,ai,O8,O7,e2,nQ,if_true]
 cases h1:(qu != 0 && qu != 34 && qu != 39) <;> cases h2:(at' == 1) <;> cases h3:(pa == 1) <;> cases h4:(at' == 2) <;> cases h5:(at' == 3) <;> simp
end two
theorem O9:sK (af (C mx) Tryz.prog 17 Tryz.f17) st el en at' qu pa su es da nm st el en 0 0 0 0 false 0 [] =
  some (.b (bH ⟨st,el,en,at',qu,pa,su,es,da,nm⟩ ⟨st,el,en,0,0,0,0,false,0,[]⟩)):=by
 apply OT
 simp only [G1,bH,Bool.and_true,aN,cA,dO,dt,et,cY,Option.bind_some,aA,aM,ai,Option.bind_some]
theorem Pa (h:nm.length < 9223372036854775808):wK (af (C mx) Tryz.prog 17 Tryz.f17) st el en at' qu pa su es da nm st el en 0 0 0 0 false 0 [] =
  some (.b (bH ⟨st,el,en,at',qu,pa,su,es,da,nm⟩ ⟨st,el,en,0,0,0,0,false,0,nm⟩ && small nm 32)):=by
 apply OV
 have e2:ae (C mx) Tryz.prog 28 [.s nm,.int 32]=some (.b (small nm 32)):=Wj nm 32 h
 simp only [G3,bH,Bool.and_true,aN,cA,dO,dt,et,cY,Option.bind_some,aA,aM,ai,e2,aA]
theorem Pc:sM (af (C mx) Tryz.prog 17 Tryz.f17) st el en at' qu pa su es da nm =
  some (.b (bH ⟨st,el,en,at',qu,pa,su,es,da,nm⟩ ⟨st,el,false,0,0,0,if (el == 3 || el == 4)=true then su else 0,if (el == 3 || el == 4)=true then es else false,0,if (st == 19)=true then nm else []⟩ && (el != 0) && pre nm (nameOf el) && cm su es (el == 3))):=by
 apply OX
 simp only [G5,bH,Bool.and_true,aN,cA,dO,dt,et,cY,Option.bind_some,aA,aM,ai,s30,Option.bind_some]
theorem Pd:A3 (af (C mx) Tryz.prog 17 Tryz.f17) st el en at' qu pa su es da nm st 0 false 0 0 0 0 false 0 [] =
  some (.b (bH ⟨st,el,en,at',qu,pa,su,es,da,nm⟩ ⟨st,0,false,0,0,0,0,false,0,[]⟩)):=by
 apply OY
 simp only [G6,bH,Bool.and_true,aN,cA,dO,dt,et,cY,Option.bind_some,aA,aM,ai,Option.bind_some]
theorem Pe (h:nm.length < 9223372036854775808):A2 (af (C mx) Tryz.prog 17 Tryz.f17) st st el en at' qu pa su es da nm st 0 false 0 0 0 0 false 0 []
  st el en 0 0 0 0 false 0 [] =
  some (.b (if (st == 7)=true then bH ⟨st,el,en,at',qu,pa,su,es,da,nm⟩ ⟨st,el,en,at',0,0,0,false,0,[]⟩
   else if (st == 8)=true then nQ ⟨st,el,en,at',qu,pa,su,es,da,nm⟩ ⟨st,el,en,0,0,0,0,false,0,[]⟩
   else if (st == 15)=true then bH ⟨st,el,en,at',qu,pa,su,es,da,nm⟩ ⟨st,0,false,0,0,0,0,false,da,[]⟩ && decide (da≤2)
   else if (st == 17 || st == 18 || st == 19)=true then (bH ⟨st,el,en,at',qu,pa,su,es,da,nm⟩ ⟨st,el,false,0,0,0,if (el == 3 || el == 4)=true then su else 0,if (el == 3 || el == 4)=true then es else false,0,if (st == 19)=true then nm else []⟩ && (el != 0) && pre nm (nameOf el) && cm su es (el == 3))
   else bH ⟨st,el,en,at',qu,pa,su,es,da,nm⟩ ⟨st,0,false,0,0,0,0,false,0,[]⟩)):=by
 apply OW
 simp only [G4,bH,Bool.and_true,aN,cA,dO,dt,et,cY,Option.bind_some,aA,aM,ai,s29 (h:=h),Pc,Pd,if_true]
 cases h1:(st == 7) <;> cases h2:(st == 8) <;> cases h3:(st == 15) <;> cases h4:(st == 17) <;> cases h5:(st == 18) <;> cases h6:(st == 19) <;> rfl
theorem Pf (h:nm.length < 9223372036854775808):A1 (af (C mx) Tryz.prog 17 Tryz.f17) st st el en at' qu pa su es da nm st 0 false 0 0 0 0 false 0 []
  st el en 0 0 0 0 false 0 [] =
  some (.b (if (st == 5 || st == 6)=true then bH ⟨st,el,en,at',qu,pa,su,es,da,nm⟩ ⟨st,el,en,0,0,0,0,false,0,nm⟩ && small nm 32
   else if (st == 7)=true then bH ⟨st,el,en,at',qu,pa,su,es,da,nm⟩ ⟨st,el,en,at',0,0,0,false,0,[]⟩
   else if (st == 8)=true then nQ ⟨st,el,en,at',qu,pa,su,es,da,nm⟩ ⟨st,el,en,0,0,0,0,false,0,[]⟩
   else if (st == 15)=true then bH ⟨st,el,en,at',qu,pa,su,es,da,nm⟩ ⟨st,0,false,0,0,0,0,false,da,[]⟩ && decide (da≤2)
   else if (st == 17 || st == 18 || st == 19)=true then (bH ⟨st,el,en,at',qu,pa,su,es,da,nm⟩ ⟨st,el,false,0,0,0,if (el == 3 || el == 4)=true then su else 0,if (el == 3 || el == 4)=true then es else false,0,if (st == 19)=true then nm else []⟩ && (el != 0) && pre nm (nameOf el) && cm su es (el == 3))
   else bH ⟨st,el,en,at',qu,pa,su,es,da,nm⟩ ⟨st,0,false,0,0,0,0,false,0,[]⟩)):=by
 apply OU
 simp only [G2,bH,Bool.and_true,aN,cA,dO,dt,et,cY,Option.bind_some,aA,aM,ai,Pa (h:=h),Pe (h:=h),if_true]
 cases h1:(st == 5) <;> cases h2:(st == 6) <;> rfl
theorem Wm (h:nm.length < 9223372036854775808):ae (C mx) Tryz.prog 17 [cx st el en at' qu pa su es da nm]=some (.b (ze ⟨st,el,en,at',qu,pa,su,es,da,nm⟩)):=by
 apply c17
 have e1:ae (C mx) Tryz.prog 28 [.s nm,.int 32]=some (.b (small nm 32)):=Wj nm 32 h
 simp only [YE,Bool.and_true,aN,cA,dO,dt,et,cY]
 simp only [Option.bind_some,aA,aM,ai,e1]
 rw [Pf (h:=h)]
 simp only [O9]
 unfold ze
 dsimp only
 cases h0:(decide (20 < st) || decide (4 < el) || decide (4 < at') || decide (5 < pa) || decide (6 < su) || en && el != 0) with
 | true=>rfl
 | false=>cases h2:(st == 3) <;> cases h3:(st == 4) <;> cases h4:(st == 9) <;> cases h5:(st == 10) <;> rfl
end
section
variable (st el:UInt8) (en:Bool) (at' qu pa su:UInt8) (es:Bool) (da:UInt8) (nm:List UInt8)
theorem s17 (h:nm.length < 9223372036854775808):ae (C mx) Tryz.prog 17 [cx st el en at' qu pa su es da nm]=some (.b (form ⟨st,el,en,at',qu,pa,su,es,da,nm⟩)):=by
 rw [Wm (h:=h),Cy]
theorem YV:ae (C mx) Tryz.prog 50 [cx st el en at' qu pa su es da nm]=some (.u8 (hole ⟨st,el,en,at',qu,pa,su,es,da,nm⟩)):=by
 apply c50
 simp only [YL,aN,cA,Option.bind_some,aA,aM,ai,s63]
 unfold hole
 dsimp only
 generalize ((su == 1 || su == 2) && !es)=q
 cases h0:(st == 0) <;> cases Sm:(st == 17) <;> cases h8:(st == 8) <;> cases q <;> simp <;> grind
theorem f55:kN (af (C mx) Tryz.prog 55 Tryz.f55)=some (.int 0):=by
 apply O2
 rfl
theorem YW:ae (C mx) Tryz.prog 55 [cx st el en at' qu pa su es da nm]=some (.int ((hole ⟨st,el,en,at',qu,pa,su,es,da,nm⟩).toNat:Int)):=by
 apply c55
 simp only [YN,aN,cA,Option.bind_some,aA,aM,ai,f55,gW]
 simp only [bT _ _ (show 0 < 256 by decide),bT _ _ (show 17 < 256 by decide),bT _ _ (show 8 < 256 by decide)]
 unfold hole
 dsimp only
 cases h0:(st == 0) <;> cases Sm:(st == 17) <;> cases h8:(st == 8) <;> cases hq:((su == 1 || su == 2) && !es) <;> simp <;> (try (repeat' split) <;> first | rfl | simp_all | grind)
section
variable (bG wq:UInt8) (wu:Bool) (lZ wx wy ya:UInt8) (yc:Bool) (wz:UInt8) (wA:List UInt8)
theorem f51:CK (af (C mx) Tryz.prog 51 Tryz.f51) st el en at' qu pa su es da nm bG wq wu lZ wx wy ya yc wz wA=some (cx st el en at' qu pa su es da nm):=by
 apply Sa
 rfl
theorem f56:CL (af (C mx) Tryz.prog 56 Tryz.f56) st el en at' qu pa su es da nm bG wq wu lZ wx wy ya yc wz wA=some (cx st el en at' qu pa su es da nm):=by
 apply Sc
 rfl
end
theorem s51:ae (C mx) Tryz.prog 51 [cx st el en at' qu pa su es da nm]=some (after ⟨st,el,en,at',qu,pa,su,es,da,nm⟩).av:=by
 apply c51
 simp only [YM,YV,Option.bind_some,cI,ai,f51,after]
 split
 ·rfl
 ·split <;> rfl
theorem s56:ae (C mx) Tryz.prog 56 [cx st el en at' qu pa su es da nm]=some (after ⟨st,el,en,at',qu,pa,su,es,da,nm⟩).av:=by
 apply c56
 simp only [YO,YW,Option.bind_some,bA,ai,f56,after]
 simp only [bT _ _ (show 0 < 256 by decide),bT _ _ (show 4 < 256 by decide)]
 split
 ·rfl
 ·split <;> rfl
theorem Wn:ae (C mx) Tryz.prog 140 [cx st el en at' qu pa su es da nm]=some (.b (l4 st el at')):=by
 apply Wi
 have e1:sP (af (C mx) Tryz.prog 140 Tryz.f140) st el en at' qu pa su es da nm=some (.b (el == 3 || el == 4)):=by
  apply O5
  simp only [Hf,aN,aM,Option.bind_some]
 have e2:A6 (af (C mx) Tryz.prog 140 Tryz.f140)=some (.b false):=by
  apply O6
  rfl
 simp only [Sj,aN,Option.bind_some,aM,ai,e1,e2,l4]
 rcases nP st with h | h | h | h | h | h | h | h | h | h | h | h | h | h | h | h | h | h | h | h | h | h <;> first | (subst h;rfl) | (subst h;simp;done) | skip
 obtain ⟨-,-,-,-,-,-,-,-,h8,-,-,-,-,-,-,-,-,Sm,RT,Jj⟩:=nlt st h
 have h2:¬ st≤19:=by
  have:=UInt8.lt_iff_toNat_lt.1 h
  rw [UInt8.le_iff_toNat_le];simp at this ⊢;omega
 simp [h8,Sm,RT,Jj,h2]
end
section
variable (st el:UInt8) (en:Bool) (at' qu pa su:UInt8) (es:Bool) (da:UInt8) (nm:List UInt8)
end
theorem Wo (nm:List UInt8):ae (C mx) Tryz.prog 120 [.s nm]=some (.u8 (oO nm)):=by
 apply Wb
 simp only [Sh,ai,oO]
 split
 ·rfl
 ·split
  ·rfl
  ·split
   ·rfl
   ·split <;> rfl
theorem Wp (nm:List UInt8):ae (C mx) Tryz.prog 102 [.s nm]=some (.int ((oO nm).toNat:Int)):=by
 apply Wa
 simp only [Sg]
 apply sO
 show ah (.b ([116,101,120,116,97,114,101,97] == nm)) (some (.int 1)) (mS _ _ _ 2)=_
 rw [ai]
 cases h1:([116,101,120,116,97,114,101,97] == nm) with
 | true=>rw [← eq_of_beq h1];rfl
 | false =>
 rw [if_neg (by simp)]
 apply sO
 show ah (.b ([116,105,116,108,101] == nm)) (some (.int 2)) (mS _ _ _ 3)=_
 rw [ai]
 cases h2:([116,105,116,108,101] == nm) with
 | true=>rw [← eq_of_beq h2];rfl
 | false =>
 rw [if_neg (by simp)]
 apply sO
 show ah (.b ([115,99,114,105,112,116] == nm)) (some (.int 3)) (mS _ _ _ 4)=_
 rw [ai]
 cases h3:([115,99,114,105,112,116] == nm) with
 | true=>rw [← eq_of_beq h3];rfl
 | false =>
 rw [if_neg (by simp)]
 apply sO
 show ah (.b ([115,116,121,108,101] == nm)) (some (.int 4)) (mS _ _ _ 5)=_
 rw [ai]
 cases h4:([115,116,121,108,101] == nm) with
 | true=>rw [← eq_of_beq h4];rfl
 | false =>
 rw [if_neg (by simp)]
 apply sO
 simp only [oO,Em h1,Em h2,Em h3,Em h4]
 rfl
theorem KU:dY (af (C mx) Tryz.prog 138 Tryz.f138)=some (.u8 1):=by apply KQ;rfl
theorem KV:jH (af (C mx) Tryz.prog 138 Tryz.f138)=some (.u8 4):=by apply KS;rfl
theorem KW (nm:List UInt8):wQ (af (C mx) Tryz.prog 138 Tryz.f138) nm=some (.u8 (if decide (2 < nm.length) && pre [111,110] nm then 2 else 0)):=by
 apply KT
 simp only [CO,UA,Option.bind_some,aA,ai]
 have:decide ((nm.length:Int) > 2)=decide (2 < nm.length):=by rw [decide_eq_decide];omega
 rw [this]
 split <;> rfl
theorem KX (nm:List UInt8):wP (af (C mx) Tryz.prog 138 Tryz.f138) nm nm=some (.u8 (if nm == [115,116,121,108,101] then 3 else if AK.contains nm then 4 else if decide (2 < nm.length) && pre [111,110] nm then 2 else 0)):=by
 apply KR
 simp only [CN,KV,KW,ai,AK,List.contains_cons,List.contains_nil,Bool.or_false]
 cases nm == [115,116,121,108,101] <;> cases nm == [115,114,99,100,111,99] <;> cases nm == [115,114,99,115,101,116] <;> cases nm == [105,109,97,103,101,115,114,99,115,101,116] <;> cases nm == [99,111,110,116,101,110,116] <;> cases nm == [104,116,116,112,45,101,113,117,105,118] <;> rfl
theorem Wq (nm:List UInt8):ae (C mx) Tryz.prog 138 [.s nm]=some (.u8 (gX nm)):=by
 apply Wh
 simp only [Si,KU,KX,ai,gX,urls,List.contains_cons,List.contains_nil,Bool.or_false]
 generalize (if (nm == [115,116,121,108,101])=true then (3:UInt8) else if AK.contains nm=true then 4 else if (decide (2 < nm.length) && pre [111,110] nm)=true then 2 else 0)=z
 cases nm == [97,99,116,105,111,110] with
 | true=>rfl
 | false =>
 cases nm == [98,97,99,107,103,114,111,117,110,100] with
 | true=>rfl
 | false =>
 cases nm == [99,105,116,101] with
 | true=>rfl
 | false =>
 cases nm == [100,97,116,97] with
 | true=>rfl
 | false =>
 cases nm == [102,111,114,109,97,99,116,105,111,110] with
 | true=>rfl
 | false =>
 cases nm == [104,114,101,102] with
 | true=>rfl
 | false =>
 cases nm == [108,111,110,103,100,101,115,99] with
 | true=>rfl
 | false =>
 cases nm == [109,97,110,105,102,101,115,116] with
 | true=>rfl
 | false =>
 cases nm == [112,111,115,116,101,114] with
 | true=>rfl
 | false =>
 cases nm == [115,114,99] with
 | true=>rfl
 | false =>
 cases nm == [120,108,105,110,107,58,104,114,101,102] <;> rfl
theorem Hg (nm:List UInt8):∀ (R P:List (List UInt8)),(P ++ R).length < 100→wO (af (C mx) Tryz.prog 130 Tryz.f130) nm ((P ++ R).map .s) (P.length:Int)=some (.int (if R.contains nm then 4 else if nm == [115,116,121,108,101] then 3 else if decide (2 < nm.length) && pre [111,110] nm then 2 else 0))
 | [],P,h=>by
  apply He
  have e1:decide ((P.length:Int) < (((P ++ []).map AV.s).length:Int))=false:=by simp
  simp only [A5,e1,ai,Bool.false_eq_true,if_false,List.contains_nil]
  cases h3:(nm == [115,116,121,108,101]) with
  | true=>rfl
  | false =>
   rw [if_neg (by simp),if_neg (by simp)]
   match nm with
   | []=>rfl
   | [a]=>rfl
   | [a,b]=>rfl
   | a :: b :: c :: r =>
    have e2:decide (((a :: b :: c :: r).length:Int) ≥ 3)=true:=by simp;omega
    have i0:dm (.s (a :: b :: c :: r)) (.int 0)=some (.u8 a):=e9 (i:=0) (l:=a :: b :: c :: r) (by simp)
    have i1:dm (.s (a :: b :: c :: r)) (.int 1)=some (.u8 b):=e9 (i:=1) (l:=a :: b :: c :: r) (by simp)
    have e3:decide (2 < (a :: b :: c :: r).length)=true:=by simp
    have e4:pre [111,110] (a :: b :: c :: r)=(a == 111 && b == 110):=by simp [pre]
    simp only [e2,i0,i1,e3,e4,cI,Option.bind_some,aA,Bool.true_and,ai]
    split <;> rfl
 | c :: R,P,h=>by
  apply He
  have e1:decide ((P.length:Int) < (((P ++ c :: R).map AV.s).length:Int))=true:=by simp;omega
  simp only [A5,e1,ai,if_true,MI,Gt,Gj,nL,Option.bind_some,List.contains_cons]
  cases hc:(c == nm) with
  | true=>rw [if_pos rfl,eq_of_beq hc];simp
  | false =>
   rw [if_neg (by simp),Em hc,Bool.false_or]
   have h':P.length < 100:=by simp at h;omega
   rw [cJ (by omega) (by omega),show ((P.length:Int)+1)=((P ++ [c]).length:Int) by simp,show P ++ c :: R=(P ++ [c]) ++ R by simp]
   exact Hg nm R (P ++ [c]) (by simpa using h)
theorem Hh (nm:List UInt8):∀ (R P:List (List UInt8)),(P ++ R).length < 100→wN (af (C mx) Tryz.prog 130 Tryz.f130) nm ((P ++ R).map .s) (P.length:Int)=some (.int (if R.contains nm then 1 else if AK.contains nm then 4 else if nm == [115,116,121,108,101] then 3 else if decide (2 < nm.length) && pre [111,110] nm then 2 else 0))
 | [],P,h=>by
  apply Hd
  have e1:decide ((P.length:Int) < (((P ++ []).map AV.s).length:Int))=false:=by simp
  simp only [A4,e1,ai,Bool.false_eq_true,if_false,List.contains_nil]
  exact Hg nm AK [] (by decide)
 | c :: R,P,h=>by
  apply Hd
  have e1:decide ((P.length:Int) < (((P ++ c :: R).map AV.s).length:Int))=true:=by simp;omega
  simp only [A4,e1,ai,if_true,MI,Gt,Gj,nL,Option.bind_some,List.contains_cons]
  cases hc:(c == nm) with
  | true=>rw [if_pos rfl,eq_of_beq hc];simp
  | false =>
   rw [if_neg (by simp),Em hc,Bool.false_or]
   have h':P.length < 100:=by simp at h;omega
   rw [cJ (by omega) (by omega),show ((P.length:Int)+1)=((P ++ [c]).length:Int) by simp,show P ++ c :: R=(P ++ [c]) ++ R by simp]
   exact Hh nm R (P ++ [c]) (by simpa using h)
theorem Ws (nm:List UInt8):ae (C mx) Tryz.prog 130 [.s nm]=some (.int ((gX nm).toNat:Int)):=by
 apply We
 have h:=Hh (mx:=mx) nm urls [] (by decide)
 refine Eq.trans h ?_
 unfold gX
 cases h1:urls.contains nm with
 | true=>rfl
 | false =>
  cases h3:(nm == [115,116,121,108,101]) with
  | true=>rw [eq_of_beq h3];rfl
  | false=>cases AK.contains nm <;> cases (decide (2 < nm.length) && pre [111,110] nm) <;> rfl
def oY:Code:=(Tryz.f75.body).getD .skip
def zw (run:RunT) (a:UInt8) (b:Bool) (d e f g i j k l m n:AV) (o p:UInt8) (q:Bool) (s t u w:UInt8) (x:Bool) (y:UInt8) (z:List UInt8):Option AV :=
 run ((bP 3 oY []).getD []) (St.bX [(1,.cell (.val (.u8 a))),(2,.cell (.val (.b b))),(3,.cell (.ptr 3 0)),(6,.cell (.ptr 6 0))] [(3,some (cV d e f g i j k l m n)),(6,some (cT o p q s t u w x y z))])
def wR (run:RunT) (a b d e f g i j k l:AV) (m n:UInt8) (o:Bool) (p q s t:UInt8) (u:Bool) (w:UInt8) (x:List UInt8):Option AV :=
 run ((bP 32 oY []).getD []) (St.bX [(3,.cell (.ptr 3 0)),(6,.cell (.ptr 6 0))] [(3,some (cV a b d e f g i j k l)),(6,some (cT m n o p q s t u w x))])
def jI (run:RunT) (a:UInt8) (b:Bool) (d e f g i j k l m n:AV) (o p:UInt8) (q:Bool) (s t u w:UInt8) (x:Bool) (y:UInt8) (z:List UInt8):Option AV :=
 run ((bP 22 oY []).getD []) (St.bX [(1,.cell (.val (.u8 a))),(2,.cell (.val (.b b))),(3,.cell (.ptr 3 0)),(6,.cell (.ptr 6 0))] [(3,some (cV d e f g i j k l m n)),(6,some (cT o p q s t u w x y z))])
def A7 (run:RunT) (a:UInt8) (b:Bool) (d e f g i j k l m n o:AV) (p q:UInt8) (s:Bool) (t u w x:UInt8) (y:Bool) (z:UInt8) (A:List UInt8):Option AV :=
 run ((bP 26 oY []).getD []) (St.bX [(1,.cell (.val (.u8 a))),(2,.cell (.val (.b b))),(3,.cell (.ptr 3 0)),(6,.cell (.ptr 6 0)),(16,.cell (.val d))] [(3,some (cV e f g i j k l m n o)),(6,some (cT p q s t u w x y z A))])
def sQ (run:RunT) (a:UInt8) (b:Bool) (d e f g i j k l m n:AV) (o p:UInt8) (q:Bool) (s t u w:UInt8) (x:Bool) (y:UInt8) (z:List UInt8):Option AV :=
 run ((bP 31 oY []).getD []) (St.bX [(1,.cell (.val (.u8 a))),(2,.cell (.val (.b b))),(3,.cell (.ptr 3 0)),(6,.cell (.ptr 6 0))] [(3,some (cV d e f g i j k l m n)),(6,some (cT o p q s t u w x y z))])
def Hi (run:RunT) (a:UInt8) (b d e f g i j k l m:AV) (n o:UInt8) (p:Bool) (q s t u:UInt8) (w:Bool) (x:UInt8) (y:List UInt8):Option AV :=
 run ((bP 4 oY []).getD []) (St.bX [(1,.cell (.val (.u8 a))),(3,.cell (.ptr 3 0)),(6,.cell (.ptr 6 0))] [(3,some (cV b d e f g i j k l m)),(6,some (cT n o p q s t u w x y))])
def YX (a b:UInt8) (d:Bool) (e f g i:UInt8) (j:Bool) (k:UInt8) (l:List UInt8) (m:UInt8) (n:Bool) (c:aq) (r:RunT):Option AV :=
 (c 17 [.ag [.u8 a,.u8 b,.b d,.u8 e,.u8 f,.u8 g,.u8 i,.b j,.u8 k,.s l]]).bind fun o=>(unop .not o).bind fun p=>ah p
 (some (.ag [.u8 20,.u8 0,.b false,.u8 0,.u8 0,.u8 0,.u8 0,.b false,.u8 0,.s []]))
 (zw r m n (.u8 a) (.u8 b) (.b d) (.u8 e) (.u8 f) (.u8 g) (.u8 i) (.b j) (.u8 k) (.s l) 0 0 false 0 0 0 0 false 0 [])
theorem ur (a b d e f g i j k l m n) {r:AV} (h:YX a b d e f g i j k l m n (ae (C mx) Tryz.prog) (af (C mx) Tryz.prog 75 Tryz.f75)=some r):ae (C mx) Tryz.prog 75 [.ag [.u8 a,.u8 b,.b d,.u8 e,.u8 f,.u8 g,.u8 i,.b j,.u8 k,.s l],.u8 m,.b n]=some r :=
 aj (fun _ _=>by kernel_rfl) h
def MQ (a:UInt8) (b:Bool) (d e f g i j k l m n:AV) (o p:UInt8) (q:Bool) (s t u w:UInt8) (x:Bool) (y:UInt8) (z:List UInt8) (c:aq) (r:RunT):Option AV :=
 (aH .eql d (.u8 0)).bind fun A=>ah A
 (ah (.b (aO a 60))
 (wR r (.u8 1) e f g i j k l m n o p q s t u w x y z)
 (wR r d e f g i j k l m n o p q s t u w x y z))
 ((aH .eql d (.u8 1)).bind fun B=>ah B
 ((c 92 [.u8 a]).bind fun D=>(aV D 0).bind fun E=>(aV D 1).bind fun G=>(AV.aI 10 E).bind fun H=>ah G
 (some (.ag [gt H 0,gt H 1,gt H 2,gt H 3,gt H 4,gt H 5,gt H 6,gt H 7,gt H 8,gt H 9]))
 (zw r a b (.u8 0) e f g i j k l m n o p q s t u w x y z))
 ((aH .eql d (.u8 2)).bind fun I=>ah I
 ((c 93 [.u8 a]).bind fun J=>(AV.aI 10 J).bind fun L=>some (.ag [gt L 0,gt L 1,gt L 2,gt L 3,gt L 4,gt L 5,gt L 6,gt L 7,gt L 8,gt L 9]))
 ((aH .eql d (.u8 3)).bind fun M=>ah M
 (jI r a b d e f g i j k l m n o p q s t u w x y z)
 ((aH .eql d (.u8 4)).bind fun N=>ah N
 (jI r a b d e f g i j k l m n o p q s t u w x y z)
 ((aH .eql d (.u8 5)).bind fun O=>ah O
 (jI r a b d e f g i j k l m n o p q s t u w x y z)
 ((aH .eql d (.u8 6)).bind fun P=>ah P
 (jI r a b d e f g i j k l m n o p q s t u w x y z)
 ((aH .eql d (.u8 7)).bind fun Q=>ah Q
 (jI r a b d e f g i j k l m n o p q s t u w x y z)
 ((aH .eql d (.u8 9)).bind fun R=>ah R
 (jI r a b d e f g i j k l m n o p q s t u w x y z)
 ((aH .eql d (.u8 10)).bind fun T=>ah T
 (jI r a b d e f g i j k l m n o p q s t u w x y z)
 (A7 r a b d d e f g i j k l m n o p q s t u w x y z))))))))))
def Pg (a b d e f g i j k l:AV) (m n:UInt8) (o:Bool) (p q s t:UInt8) (u:Bool) (w:UInt8) (x:List UInt8) (c:aq) (r:RunT):Option AV :=
 some (.ag [a,b,d,e,f,g,i,j,k,l])
def Hj (a:UInt8) (b:Bool) (d e f g i j k l m n:AV) (o p:UInt8) (q:Bool) (s t u w:UInt8) (x:Bool) (y:UInt8) (z:List UInt8) (c:aq) (r:RunT):Option AV :=
 (c 94 [.ag [d,e,f,g,i,j,k,l,m,n],.u8 a]).bind fun A=>(aV A 0).bind fun B=>(aV A 1).bind fun D=>(AV.aI 10 B).bind fun E=>ah D
 (zw r a b (gt E 0) (gt E 1) (gt E 2) (gt E 3) (gt E 4) (gt E 5) (gt E 6) (gt E 7) (gt E 8) (gt E 9) o p q s t u w x y z)
 (some (.ag [gt E 0,gt E 1,gt E 2,gt E 3,gt E 4,gt E 5,gt E 6,gt E 7,gt E 8,gt E 9]))
def Hk (a:UInt8) (b:Bool) (d e f g i j k l m n o:AV) (p q:UInt8) (s:Bool) (t u w x:UInt8) (y:Bool) (z:UInt8) (A:List UInt8) (c:aq) (r:RunT):Option AV :=
 (aH .eql d (.u8 8)).bind fun B=>ah B
 ((c 95 [.ag [e,f,g,i,j,k,l,m,n,o],.u8 a]).bind fun D=>(AV.aI 10 D).bind fun E=>some (.ag [gt E 0,gt E 1,gt E 2,gt E 3,gt E 4,gt E 5,gt E 6,gt E 7,gt E 8,gt E 9]))
 ((aH .eql d (.u8 17)).bind fun G=>ah G
 (sQ r a b e f g i j k l m n o p q s t u w x y z A)
 ((aH .eql d (.u8 18)).bind fun H=>ah H
 (sQ r a b e f g i j k l m n o p q s t u w x y z A)
 ((aH .eql d (.u8 19)).bind fun I=>ah I
 (sQ r a b e f g i j k l m n o p q s t u w x y z A)
 (Hi r a e f g i j k l m n o p q s t u w x y z A))))
def Hl (a:UInt8) (b:Bool) (d e f g i j k l m n:AV) (o p:UInt8) (q:Bool) (s t u w:UInt8) (x:Bool) (y:UInt8) (z:List UInt8) (c:aq) (r:RunT):Option AV :=
 (c 96 [.ag [d,e,f,g,i,j,k,l,m,n],.u8 a,.b b]).bind fun A=>(AV.aI 10 A).bind fun B=>some (.ag [gt B 0,gt B 1,gt B 2,gt B 3,gt B 4,gt B 5,gt B 6,gt B 7,gt B 8,gt B 9])
def MR (a:UInt8) (b d e f g i j k l m:AV) (n o:UInt8) (p:Bool) (q s t u:UInt8) (w:Bool) (x:UInt8) (y:List UInt8) (c:aq) (r:RunT):Option AV :=
 (c 97 [.ag [b,d,e,f,g,i,j,k,l,m],.u8 a]).bind fun z=>(AV.aI 10 z).bind fun A=>some (.ag [gt A 0,gt A 1,gt A 2,gt A 3,gt A 4,gt A 5,gt A 6,gt A 7,gt A 8,gt A 9])
theorem Sn (a b d e f g i j k l m n o p q s t u w x y z) {r:AV} (h:MQ a b d e f g i j k l m n o p q s t u w x y z (ae (C mx) Tryz.prog) (af (C mx) Tryz.prog 75 Tryz.f75)=some r):zw (af (C mx) Tryz.prog 75 Tryz.f75) a b d e f g i j k l m n o p q s t u w x y z=some r :=
 ak (fun _ _=>by kernel_rfl) h
theorem Ph (a b d e f g i j k l m n o p q s t u w x) {r:AV} (h:Pg a b d e f g i j k l m n o p q s t u w x (ae (C mx) Tryz.prog) (af (C mx) Tryz.prog 75 Tryz.f75)=some r):wR (af (C mx) Tryz.prog 75 Tryz.f75) a b d e f g i j k l m n o p q s t u w x=some r :=
 ak (fun _ _=>by kernel_rfl) h
theorem Pj (a b d e f g i j k l m n o p q s t u w x y z) {r:AV} (h:Hj a b d e f g i j k l m n o p q s t u w x y z (ae (C mx) Tryz.prog) (af (C mx) Tryz.prog 75 Tryz.f75)=some r):jI (af (C mx) Tryz.prog 75 Tryz.f75) a b d e f g i j k l m n o p q s t u w x y z=some r :=
 ak (fun _ _=>by kernel_rfl) h
theorem Pk (a b d e f g i j k l m n o p q s t u w x y z A) {r:AV} (h:Hk a b d e f g i j k l m n o p q s t u w x y z A (ae (C mx) Tryz.prog) (af (C mx) Tryz.prog 75 Tryz.f75)=some r):A7 (af (C mx) Tryz.prog 75 Tryz.f75) a b d e f g i j k l m n o p q s t u w x y z A=some r :=
 ak (fun _ _=>by kernel_rfl) h
theorem Pm (a b d e f g i j k l m n o p q s t u w x y z) {r:AV} (h:Hl a b d e f g i j k l m n o p q s t u w x y z (ae (C mx) Tryz.prog) (af (C mx) Tryz.prog 75 Tryz.f75)=some r):sQ (af (C mx) Tryz.prog 75 Tryz.f75) a b d e f g i j k l m n o p q s t u w x y z=some r :=
 ak (fun _ _=>by kernel_rfl) h
theorem Sq (a b d e f g i j k l m n o p q s t u w x y) {r:AV} (h:MR a b d e f g i j k l m n o p q s t u w x y (ae (C mx) Tryz.prog) (af (C mx) Tryz.prog 75 Tryz.f75)=some r):Hi (af (C mx) Tryz.prog 75 Tryz.f75) a b d e f g i j k l m n o p q s t u w x y=some r :=
 ak (fun _ _=>by kernel_rfl) h
def YY (a:List UInt8) (b:UInt8) (c:aq) (r:RunT):Option AV :=
 (c 109 [.s a,.u8 b]).bind fun d=>some d
theorem c78 (a b) {r:AV} (h:YY a b (ae (C mx) Tryz.prog) (af (C mx) Tryz.prog 78 Tryz.f78)=some r):ae (C mx) Tryz.prog 78 [.s a,.u8 b]=some r :=
 aj (fun _ _=>by kernel_rfl) h
def YZ (a:UInt8) (c:aq) (r:RunT):Option AV :=
 (c 116 [.u8 a]).bind fun b=>ah b
 ((c 117 [.u8 a]).bind fun d=>(AV.one d).bind fun e=>(B2 (.ro 1 (([e]:List AV)))).bind fun f=>(AV.one f).bind fun g=>some (.tu [.ag [.u8 3,.u8 0,.b false,.u8 0,.u8 0,.u8 0,.u8 0,.b false,.u8 0,g],.b true]))
 (ah (.b (aO a 47))
 (some (.tu [.ag [.u8 2,.u8 0,.b false,.u8 0,.u8 0,.u8 0,.u8 0,.b false,.u8 0,.s []],.b true]))
 (ah (.b (aO a 33))
 (some (.tu [.ag [.u8 11,.u8 0,.b false,.u8 0,.u8 0,.u8 0,.u8 0,.b false,.u8 0,.s []],.b true]))
 (ah (.b (aO a 63))
 (some (.tu [.ag [.u8 16,.u8 0,.b false,.u8 0,.u8 0,.u8 0,.u8 0,.b false,.u8 0,.s []],.b true]))
 (some (.tu [.ag [.u8 0,.u8 0,.b false,.u8 0,.u8 0,.u8 0,.u8 0,.b false,.u8 0,.s []],.b false])))))
theorem c92 a {r:AV} (h:YZ a (ae (C mx) Tryz.prog) (af (C mx) Tryz.prog 92 Tryz.f92)=some r):ae (C mx) Tryz.prog 92 [.u8 a]=some r :=
 aj (fun _ _=>by kernel_rfl) h
def Y0 (a:UInt8) (c:aq) (r:RunT):Option AV :=
 (c 116 [.u8 a]).bind fun b=>ah b
 ((c 117 [.u8 a]).bind fun d=>(AV.one d).bind fun e=>(B2 (.ro 1 (([e]:List AV)))).bind fun f=>(AV.one f).bind fun g=>some (.ag [.u8 3,.u8 0,.b true,.u8 0,.u8 0,.u8 0,.u8 0,.b false,.u8 0,g]))
 (ah (.b (aO a 62))
 (some (.ag [.u8 0,.u8 0,.b false,.u8 0,.u8 0,.u8 0,.u8 0,.b false,.u8 0,.s []]))
 (some (.ag [.u8 16,.u8 0,.b false,.u8 0,.u8 0,.u8 0,.u8 0,.b false,.u8 0,.s []])))
theorem c93 a {r:AV} (h:Y0 a (ae (C mx) Tryz.prog) (af (C mx) Tryz.prog 93 Tryz.f93)=some r):ae (C mx) Tryz.prog 93 [.u8 a]=some r :=
 aj (fun _ _=>by kernel_rfl) h
def CQ (run:RunT) (a:UInt8) (b:AV) (d:Bool) (e f g i:UInt8) (j:Bool) (k:UInt8) (l:List UInt8) (m n:UInt8) (o:Bool) (p q s t:UInt8) (u:Bool) (w:UInt8) (x:List UInt8):Option AV :=
 run ((bP 7 ((Tryz.f94.body).getD .skip) []).getD []) (St.bX [(2,.cell (.ptr 2 0)),(4,.cell (.ptr 4 0))] [(2,some [.val (.u8 a),.val b,.val (.b d),.val (.u8 e),.val (.u8 f),.val (.u8 g),.val (.u8 i),.val (.b j),.val (.u8 k),.val (.s l)]),(4,some (cT m n o p q s t u w x))])
def Y1 (a b:UInt8) (d:Bool) (e f g i:UInt8) (j:Bool) (k:UInt8) (l:List UInt8) (m:UInt8) (c:aq) (r:RunT):Option AV :=
 ah (.b (aO a 3))
 ((c 118 [.u8 m]).bind fun n=>(unop .not n).bind fun o=>(az o true (some (.b (nN m 47))) (.b false)).bind fun p=>(az p true (some (.b (nN m 62))) (.b false)).bind fun q=>ah q
 ((c 119 [.ag [.u8 a,.u8 b,.b d,.u8 e,.u8 f,.u8 g,.u8 i,.b j,.u8 k,.s l],.u8 m]).bind fun s=>(AV.aI 10 s).bind fun t=>some (.tu [.ag [gt t 0,gt t 1,gt t 2,gt t 3,gt t 4,gt t 5,gt t 6,gt t 7,gt t 8,gt t 9],.b false]))
 (ah (.b (!d))
 ((c 120 [.s l]).bind fun u=>(AV.one u).bind fun w=>CQ r a w d e f g i j k l 0 0 false 0 0 0 0 false 0 [])
 (CQ r a (.u8 b) d e f g i j k l 0 0 false 0 0 0 0 false 0 [])))
 (ah (.b (aO a 9))
 ((c 118 [.u8 m]).bind fun x=>ah x
 ((c 121 [.ag [.u8 a,.u8 b,.b d,.u8 e,.u8 f,.u8 g,.u8 i,.b j,.u8 k,.s l],.u8 4]).bind fun y=>(AV.aI 10 y).bind fun z=>some (.tu [.ag [gt z 0,gt z 1,gt z 2,gt z 3,gt z 4,gt z 5,gt z 6,gt z 7,gt z 8,gt z 9],.b false]))
 (ah (.b (aO m 47))
 ((c 121 [.ag [.u8 a,.u8 b,.b d,.u8 e,.u8 f,.u8 g,.u8 i,.b j,.u8 k,.s l],.u8 10]).bind fun A=>(AV.aI 10 A).bind fun B=>some (.tu [.ag [gt B 0,gt B 1,gt B 2,gt B 3,gt B 4,gt B 5,gt B 6,gt B 7,gt B 8,gt B 9],.b false]))
 (ah (.b (aO m 62))
 ((c 122 [.u8 b]).bind fun D=>(AV.aI 10 D).bind fun E=>some (.tu [.ag [gt E 0,gt E 1,gt E 2,gt E 3,gt E 4,gt E 5,gt E 6,gt E 7,gt E 8,gt E 9],.b false]))
 (some (.tu [.ag [.u8 20,.u8 0,.b false,.u8 0,.u8 0,.u8 0,.u8 0,.b false,.u8 0,.s []],.b false])))))
 (ah (.b (aO a 10))
 (ah (.b (aO m 62))
 ((c 122 [.u8 b]).bind fun G=>(AV.aI 10 G).bind fun H=>some (.tu [.ag [gt H 0,gt H 1,gt H 2,gt H 3,gt H 4,gt H 5,gt H 6,gt H 7,gt H 8,gt H 9],.b false]))
 ((c 121 [.ag [.u8 a,.u8 b,.b d,.u8 e,.u8 f,.u8 g,.u8 i,.b j,.u8 k,.s l],.u8 4]).bind fun I=>(AV.aI 10 I).bind fun J=>some (.tu [.ag [gt J 0,gt J 1,gt J 2,gt J 3,gt J 4,gt J 5,gt J 6,gt J 7,gt J 8,gt J 9],.b true])))
 (ah (.b (aO a 4))
 ((c 118 [.u8 m]).bind fun L=>ah L
 (some (.tu [.ag [.u8 a,.u8 b,.b d,.u8 e,.u8 f,.u8 g,.u8 i,.b j,.u8 k,.s l],.b false]))
 ((az (.b (aO m 47)) false (some (.b (aO m 62))) (.b true)).bind fun M=>ah M
 ((c 121 [.ag [.u8 a,.u8 b,.b d,.u8 e,.u8 f,.u8 g,.u8 i,.b j,.u8 k,.s l],.u8 9]).bind fun N=>(AV.aI 10 N).bind fun O=>some (.tu [.ag [gt O 0,gt O 1,gt O 2,gt O 3,gt O 4,gt O 5,gt O 6,gt O 7,gt O 8,gt O 9],.b true]))
 (ah (.b (aO m 61))
 (some (.tu [.ag [.u8 20,.u8 0,.b false,.u8 0,.u8 0,.u8 0,.u8 0,.b false,.u8 0,.s []],.b false]))
 (some (.tu [.ag [.u8 5,.u8 b,.b d,.u8 e,.u8 f,.u8 g,.u8 i,.b j,.u8 k,.s l],.b true])))))
 (ah (.b (aO a 7))
 ((c 123 [.ag [.u8 a,.u8 b,.b d,.u8 e,.u8 f,.u8 g,.u8 i,.b j,.u8 k,.s l],.u8 m]).bind fun P=>(aV P 0).bind fun Q=>(aV P 1).bind fun R=>(AV.aI 10 Q).bind fun T=>some (.tu [.ag [gt T 0,gt T 1,gt T 2,gt T 3,gt T 4,gt T 5,gt T 6,gt T 7,gt T 8,gt T 9],R]))
 ((c 124 [.ag [.u8 a,.u8 b,.b d,.u8 e,.u8 f,.u8 g,.u8 i,.b j,.u8 k,.s l],.u8 m]).bind fun U=>(aV U 0).bind fun V=>(aV U 1).bind fun W=>(AV.aI 10 V).bind fun Y=>some (.tu [.ag [gt Y 0,gt Y 1,gt Y 2,gt Y 3,gt Y 4,gt Y 5,gt Y 6,gt Y 7,gt Y 8,gt Y 9],W]))))))
theorem c94 (a b d e f g i j k l m) {r:AV} (h:Y1 a b d e f g i j k l m (ae (C mx) Tryz.prog) (af (C mx) Tryz.prog 94 Tryz.f94)=some r):ae (C mx) Tryz.prog 94 [.ag [.u8 a,.u8 b,.b d,.u8 e,.u8 f,.u8 g,.u8 i,.b j,.u8 k,.s l],.u8 m]=some r :=
 aj (fun _ _=>by kernel_rfl) h
def MS (a:UInt8) (b:AV) (d:Bool) (e f g i:UInt8) (j:Bool) (k:UInt8) (l:List UInt8) (m n:UInt8) (o:Bool) (p q s t:UInt8) (u:Bool) (w:UInt8) (x:List UInt8) (c:aq) (r:RunT):Option AV :=
 (c 121 [.ag [.u8 a,b,.b d,.u8 e,.u8 f,.u8 g,.u8 i,.b j,.u8 k,.s l],.u8 9]).bind fun y=>(AV.aI 10 y).bind fun z=>some (.tu [.ag [gt z 0,gt z 1,gt z 2,gt z 3,gt z 4,gt z 5,gt z 6,gt z 7,gt z 8,gt z 9],.b true])
theorem Sr (a b d e f g i j k l m n o p q s t u w x) {r:AV} (h:MS a b d e f g i j k l m n o p q s t u w x (ae (C mx) Tryz.prog) (af (C mx) Tryz.prog 94 Tryz.f94)=some r):CQ (af (C mx) Tryz.prog 94 Tryz.f94) a b d e f g i j k l m n o p q s t u w x=some r :=
 ak (fun _ _=>by kernel_rfl) h
def Y2 (a b:UInt8) (d:Bool) (e f g i:UInt8) (j:Bool) (k:UInt8) (l:List UInt8) (m:UInt8) (c:aq) (r:RunT):Option AV :=
 (az (.b (!(aO f 0))) true (some (.b (aO m f))) (.b false)).bind fun n=>(az n false ((az (.b (aO f 0)) true ((c 118 [.u8 m]).bind fun o=>(az o false (some (.b (aO m 62))) (.b true)).bind fun p=>some p) (.b false)).bind fun q=>some q) (.b true)).bind fun s=>ah s
 ((c 125 [.ag [.u8 a,.u8 b,.b d,.u8 e,.u8 f,.u8 g,.u8 i,.b j,.u8 k,.s l]]).bind fun t=>(unop .not t).bind fun u=>ah u
 (some (.ag [.u8 20,.u8 0,.b false,.u8 0,.u8 0,.u8 0,.u8 0,.b false,.u8 0,.s []]))
 (ah (.b (!(aO f 0)))
 ((c 121 [.ag [.u8 a,.u8 b,.b d,.u8 e,.u8 f,.u8 g,.u8 i,.b j,.u8 k,.s l],.u8 9]).bind fun w=>(AV.aI 10 w).bind fun x=>some (.ag [gt x 0,gt x 1,gt x 2,gt x 3,gt x 4,gt x 5,gt x 6,gt x 7,gt x 8,gt x 9]))
 (ah (.b (aO m 62))
 ((c 122 [.u8 b]).bind fun y=>(AV.aI 10 y).bind fun z=>some (.ag [gt z 0,gt z 1,gt z 2,gt z 3,gt z 4,gt z 5,gt z 6,gt z 7,gt z 8,gt z 9]))
 ((c 121 [.ag [.u8 a,.u8 b,.b d,.u8 e,.u8 f,.u8 g,.u8 i,.b j,.u8 k,.s l],.u8 4]).bind fun A=>(AV.aI 10 A).bind fun B=>some (.ag [gt B 0,gt B 1,gt B 2,gt B 3,gt B 4,gt B 5,gt B 6,gt B 7,gt B 8,gt B 9])))))
 ((az (.b (aO f 0)) true ((c 126 [.s [34,39,60,61,96],.u8 m]).bind fun D=>(aH .geq D (.int 0)).bind fun E=>some E) (.b false)).bind fun G=>ah G
 (some (.ag [.u8 20,.u8 0,.b false,.u8 0,.u8 0,.u8 0,.u8 0,.b false,.u8 0,.s []]))
 (ah (.b (aO e 1))
 ((c 127 [.ag [.u8 a,.u8 b,.b d,.u8 e,.u8 f,.u8 g,.u8 i,.b j,.u8 k,.s l],.u8 m]).bind fun H=>(AV.aI 10 H).bind fun I=>some (.ag [gt I 0,gt I 1,gt I 2,gt I 3,gt I 4,gt I 5,gt I 6,gt I 7,gt I 8,gt I 9]))
 ((az (.b (aO e 2)) false (some (.b (aO e 3))) (.b true)).bind fun J=>ah J
 (ah (.b (aO m 38))
 (some (.ag [.u8 20,.u8 0,.b false,.u8 0,.u8 0,.u8 0,.u8 0,.b false,.u8 0,.s []]))
 ((c 128 [.ag [.u8 a,.u8 b,.b d,.u8 e,.u8 f,.u8 g,.u8 i,.b j,.u8 k,.s l],.u8 m,.b (aO e 2)]).bind fun L=>(AV.aI 10 L).bind fun M=>some (.ag [gt M 0,gt M 1,gt M 2,gt M 3,gt M 4,gt M 5,gt M 6,gt M 7,gt M 8,gt M 9])))
 (some (.ag [.u8 a,.u8 b,.b d,.u8 e,.u8 f,.u8 g,.u8 i,.b j,.u8 k,.s l])))))
theorem c95 (a b d e f g i j k l m) {r:AV} (h:Y2 a b d e f g i j k l m (ae (C mx) Tryz.prog) (af (C mx) Tryz.prog 95 Tryz.f95)=some r):ae (C mx) Tryz.prog 95 [.ag [.u8 a,.u8 b,.b d,.u8 e,.u8 f,.u8 g,.u8 i,.b j,.u8 k,.s l],.u8 m]=some r :=
 aj (fun _ _=>by kernel_rfl) h
def Hm:Code:=(Tryz.f96.body).getD .skip
def wS (run:RunT) (a:UInt8) (b:Bool) (d e f g i j k l m n:AV) (o p:UInt8) (q:Bool) (s t u w:UInt8) (x:Bool) (y:UInt8) (z:List UInt8):Option AV :=
 run ((bP 17 Hm []).getD []) (St.bX [(1,.cell (.val (.u8 a))),(2,.cell (.val (.b b))),(3,.cell (.ptr 3 0)),(6,.cell (.ptr 6 0))] [(3,some (cV d e f g i j k l m n)),(6,some (cT o p q s t u w x y z))])
def wT (run:RunT) (a b d e f g i j k l:AV) (m n:UInt8) (o:Bool) (p q s t:UInt8) (u:Bool) (w:UInt8) (x:List UInt8):Option AV :=
 run ((bP 22 Hm []).getD []) (St.bX [(3,.cell (.ptr 3 0)),(6,.cell (.ptr 6 0))] [(3,some (cV a b d e f g i j k l)),(6,some (cT m n o p q s t u w x))])
def Y3 (a b:UInt8) (d:Bool) (e f g i:UInt8) (j:Bool) (k:UInt8) (l:List UInt8) (m:UInt8) (n:Bool) (c:aq) (r:RunT):Option AV :=
 (c 43 [.u8 b]).bind fun o=>(az (.b (aO a 18)) true (some (.b (aO m 47))) (.b false)).bind fun p=>ah p
 (some (.ag [.u8 19,.u8 b,.b d,.u8 e,.u8 f,.u8 g,.u8 i,.b j,.u8 k,.s l]))
 ((az (.b (aO a 18)) true (some (.b (aO m 33))) (.b false)).bind fun q=>(az q true (some (.b (aO b 3))) (.b false)).bind fun s=>ah s
 (some (.ag [.u8 20,.u8 0,.b false,.u8 0,.u8 0,.u8 0,.u8 0,.b false,.u8 0,.s []]))
 ((az (.b (aO a 19)) true ((cy .eql (.s l) o).bind fun t=>some t) (.b false)).bind fun u=>(az u true ((c 118 [.u8 m]).bind fun w=>(az w false (some (.b (aO m 47))) (.b true)).bind fun x=>(az x false (some (.b (aO m 62))) (.b true)).bind fun y=>some y) (.b false)).bind fun z=>ah z
 ((c 125 [.ag [.u8 a,.u8 b,.b d,.u8 e,.u8 f,.u8 g,.u8 i,.b j,.u8 k,.s l]]).bind fun A=>(unop .not A).bind fun B=>ah B
 (some (.ag [.u8 20,.u8 0,.b false,.u8 0,.u8 0,.u8 0,.u8 0,.b false,.u8 0,.s []]))
 ((c 94 [.ag [.u8 9,.u8 0,.b true,.u8 0,.u8 0,.u8 0,.u8 0,.b false,.u8 0,.s []],.u8 m]).bind fun D=>(aV D 0).bind fun E=>(aV D 1).bind fun G=>(AV.aI 10 E).bind fun H=>some (.ag [gt H 0,gt H 1,gt H 2,gt H 3,gt H 4,gt H 5,gt H 6,gt H 7,gt H 8,gt H 9])))
 ((az (.b (aO a 19)) true ((c 117 [.u8 m]).bind fun I=>(AV.one I).bind fun J=>(B2 (.ro 1 (([J]:List AV)))).bind fun L=>(cy .add (.s l) L).bind fun M=>(c 42 [o,M]).bind fun N=>some N) (.b false)).bind fun O=>ah O
 ((c 117 [.u8 m]).bind fun P=>(AV.one P).bind fun Q=>(B2 (.ro 1 (([Q]:List AV)))).bind fun R=>(cy .add (.s l) R).bind fun T=>(AV.one T).bind fun U=>some (.ag [.u8 a,.u8 b,.b d,.u8 e,.u8 f,.u8 g,.u8 i,.b j,.u8 k,U]))
 (ah (.b (aO a 19))
 ((cy .add (.s [47]) (.s l)).bind fun V=>(c 129 [.ag [.u8 a,.u8 b,.b d,.u8 e,.u8 f,.u8 g,.u8 i,.b j,.u8 k,.s l],V,.b n]).bind fun W=>(AV.aI 10 W).bind fun Y=>wS r m n (gt Y 0) (gt Y 1) (gt Y 2) (gt Y 3) (gt Y 4) (gt Y 5) (gt Y 6) (gt Y 7) (gt Y 8) (gt Y 9) 0 0 false 0 0 0 0 false 0 [])
 (wS r m n (.u8 a) (.u8 b) (.b d) (.u8 e) (.u8 f) (.u8 g) (.u8 i) (.b j) (.u8 k) (.s l) 0 0 false 0 0 0 0 false 0 [])))))
theorem c96 (a b d e f g i j k l m n) {r:AV} (h:Y3 a b d e f g i j k l m n (ae (C mx) Tryz.prog) (af (C mx) Tryz.prog 96 Tryz.f96)=some r):ae (C mx) Tryz.prog 96 [.ag [.u8 a,.u8 b,.b d,.u8 e,.u8 f,.u8 g,.u8 i,.b j,.u8 k,.s l],.u8 m,.b n]=some r :=
 aj (fun _ _=>by kernel_rfl) h
def Ho (a:UInt8) (b:Bool) (d e f g i j k l m n:AV) (o p:UInt8) (q:Bool) (s t u w:UInt8) (x:Bool) (y:UInt8) (z:List UInt8) (c:aq) (r:RunT):Option AV :=
 (aH .eql d (.u8 20)).bind fun A=>ah A
 (some (.ag [.u8 20,.u8 0,.b false,.u8 0,.u8 0,.u8 0,.u8 0,.b false,.u8 0,.s []]))
 ((B2 (.ro 1 (([.u8 a]:List AV)))).bind fun B=>(c 129 [.ag [d,e,f,g,i,j,k,l,m,n],B,.b b]).bind fun D=>(AV.aI 10 D).bind fun E=>(aH .eql (gt E 0) (.u8 17)).bind fun G=>(az G true (some (.b (aO a 60))) (.b false)).bind fun H=>ah H
 (wT r (.u8 18) (gt E 1) (gt E 2) (gt E 3) (gt E 4) (gt E 5) (gt E 6) (gt E 7) (gt E 8) (gt E 9) o p q s t u w x y z)
 (wT r (gt E 0) (gt E 1) (gt E 2) (gt E 3) (gt E 4) (gt E 5) (gt E 6) (gt E 7) (gt E 8) (gt E 9) o p q s t u w x y z))
def Pn (a b d e f g i j k l:AV) (m n:UInt8) (o:Bool) (p q s t:UInt8) (u:Bool) (w:UInt8) (x:List UInt8) (c:aq) (r:RunT):Option AV :=
 some (.ag [a,b,d,e,f,g,i,j,k,l])
theorem Po (a b d e f g i j k l m n o p q s t u w x y z) {r:AV} (h:Ho a b d e f g i j k l m n o p q s t u w x y z (ae (C mx) Tryz.prog) (af (C mx) Tryz.prog 96 Tryz.f96)=some r):wS (af (C mx) Tryz.prog 96 Tryz.f96) a b d e f g i j k l m n o p q s t u w x y z=some r :=
 ak (fun _ _=>by kernel_rfl) h
theorem Pp (a b d e f g i j k l m n o p q s t u w x) {r:AV} (h:Pn a b d e f g i j k l m n o p q s t u w x (ae (C mx) Tryz.prog) (af (C mx) Tryz.prog 96 Tryz.f96)=some r):wT (af (C mx) Tryz.prog 96 Tryz.f96) a b d e f g i j k l m n o p q s t u w x=some r :=
 ak (fun _ _=>by kernel_rfl) h
def sR:Code:=(Tryz.f97.body).getD .skip
def CS (run:RunT) (a b d:UInt8) (e:Bool) (f g i j:UInt8) (k:Bool) (l:UInt8) (m:List UInt8) (n o:UInt8) (p:Bool) (q s t u:UInt8) (w:Bool) (x:UInt8) (y:List UInt8):Option AV :=
 run ((bP 4 sR []).getD []) (St.bX [(1,.cell (.val (.u8 a))),(2,.cell (.ptr 2 0)),(4,.cell (.ptr 4 0))] [(2,some (cT b d e f g i j k l m)),(4,some (cT n o p q s t u w x y))])
def A8 (run:RunT) (a b d e:UInt8) (f:Bool) (g i j k:UInt8) (l:Bool) (m:UInt8) (n:List UInt8) (o p:UInt8) (q:Bool) (s t u w:UInt8) (x:Bool) (y:UInt8) (z:List UInt8):Option AV :=
 run ((bP 11 sR []).getD []) (St.bX [(1,.cell (.val (.u8 a))),(2,.cell (.ptr 2 0)),(4,.cell (.ptr 4 0)),(6,.cell (.val (.u8 b)))] [(2,some (cT d e f g i j k l m n)),(4,some (cT o p q s t u w x y z))])
def wU (run:RunT) (a b d:UInt8) (e:Bool) (f g i j:UInt8) (k:Bool) (l:UInt8) (m:List UInt8) (n o:UInt8) (p:Bool) (q s t u:UInt8) (w:Bool) (x:UInt8) (y:List UInt8):Option AV :=
 run ((bP 13 sR []).getD []) (St.bX [(1,.cell (.val (.u8 a))),(2,.cell (.ptr 2 0)),(4,.cell (.ptr 4 0))] [(2,some (cT b d e f g i j k l m)),(4,some (cT n o p q s t u w x y))])
def A9 (run:RunT) (a b d e:UInt8) (f:Bool) (g i j k:UInt8) (l:Bool) (m:UInt8) (n:List UInt8) (o p:UInt8) (q:Bool) (s t u w:UInt8) (x:Bool) (y:UInt8) (z:List UInt8):Option AV :=
 run ((bP 20 sR []).getD []) (St.bX [(1,.cell (.val (.u8 a))),(2,.cell (.ptr 2 0)),(4,.cell (.ptr 4 0)),(6,.cell (.val (.u8 b)))] [(2,some (cT d e f g i j k l m n)),(4,some (cT o p q s t u w x y z))])
def wV (run:RunT) (a b:UInt8) (d:Bool) (e f g i:UInt8) (j:Bool) (k:UInt8) (l:List UInt8) (m n:UInt8) (o:Bool) (p q s t:UInt8) (u:Bool) (w:UInt8) (x:List UInt8):Option AV :=
 run ((bP 31 sR []).getD []) (St.bX [(2,.cell (.ptr 2 0)),(4,.cell (.ptr 4 0))] [(2,some (cT a b d e f g i j k l)),(4,some (cT m n o p q s t u w x))])
def Y4 (a b:UInt8) (d:Bool) (e f g i:UInt8) (j:Bool) (k:UInt8) (l:List UInt8) (m:UInt8) (c:aq) (r:RunT):Option AV :=
 ah (.b (aO a 11))
 (CS r m a b d e f g i j k l 0 0 false 0 0 0 0 false 0 [])
 (ah (.b (aO a 12))
 (CS r m a b d e f g i j k l 0 0 false 0 0 0 0 false 0 [])
 (A8 r m a a b d e f g i j k l 0 0 false 0 0 0 0 false 0 []))
theorem c97 (a b d e f g i j k l m) {r:AV} (h:Y4 a b d e f g i j k l m (ae (C mx) Tryz.prog) (af (C mx) Tryz.prog 97 Tryz.f97)=some r):ae (C mx) Tryz.prog 97 [.ag [.u8 a,.u8 b,.b d,.u8 e,.u8 f,.u8 g,.u8 i,.b j,.u8 k,.s l],.u8 m]=some r :=
 aj (fun _ _=>by kernel_rfl) h
def MT (a b d:UInt8) (e:Bool) (f g i j:UInt8) (k:Bool) (l:UInt8) (m:List UInt8) (n o:UInt8) (p:Bool) (q s t u:UInt8) (w:Bool) (x:UInt8) (y:List UInt8) (c:aq) (r:RunT):Option AV :=
 ah (.b (aO a 62))
 (some (.ag [.u8 0,.u8 0,.b false,.u8 0,.u8 0,.u8 0,.u8 0,.b false,.u8 0,.s []]))
 ((az (.b (aO a 45)) true (some (.b (aO b 11))) (.b false)).bind fun z=>ah z
 (some (.ag [.u8 12,.u8 0,.b false,.u8 0,.u8 0,.u8 0,.u8 0,.b false,.u8 0,.s []]))
 (ah (.b (aO a 45))
 (some (.ag [.u8 13,.u8 0,.b false,.u8 0,.u8 0,.u8 0,.u8 0,.b false,.u8 0,.s []]))
 (some (.ag [.u8 16,.u8 0,.b false,.u8 0,.u8 0,.u8 0,.u8 0,.b false,.u8 0,.s []]))))
def Hp (a b d e:UInt8) (f:Bool) (g i j k:UInt8) (l:Bool) (m:UInt8) (n:List UInt8) (o p:UInt8) (q:Bool) (s t u w:UInt8) (x:Bool) (y:UInt8) (z:List UInt8) (c:aq) (r:RunT):Option AV :=
 ah (.b (aO b 13))
 (wU r a d e f g i j k l m n o p q s t u w x y z)
 (ah (.b (aO b 14))
 (wU r a d e f g i j k l m n o p q s t u w x y z)
 (A9 r a b d e f g i j k l m n o p q s t u w x y z))
def Hq (a b d:UInt8) (e:Bool) (f g i j:UInt8) (k:Bool) (l:UInt8) (m:List UInt8) (n o:UInt8) (p:Bool) (q s t u:UInt8) (w:Bool) (x:UInt8) (y:List UInt8) (c:aq) (r:RunT):Option AV :=
 ah (.b (aO a 62))
 (some (.ag [.u8 20,.u8 0,.b false,.u8 0,.u8 0,.u8 0,.u8 0,.b false,.u8 0,.s []]))
 ((az (.b (aO a 45)) true (some (.b (aO b 13))) (.b false)).bind fun z=>ah z
 (some (.ag [.u8 14,.u8 0,.b false,.u8 0,.u8 0,.u8 0,.u8 0,.b false,.u8 0,.s []]))
 (ah (.b (aO a 45))
 (some (.ag [.u8 15,.u8 0,.b false,.u8 0,.u8 0,.u8 0,.u8 0,.b false,.u8 2,.s []]))
 (some (.ag [.u8 15,.u8 0,.b false,.u8 0,.u8 0,.u8 0,.u8 0,.b false,.u8 0,.s []]))))
def Hr (a b d e:UInt8) (f:Bool) (g i j k:UInt8) (l:Bool) (m:UInt8) (n:List UInt8) (o p:UInt8) (q:Bool) (s t u w:UInt8) (x:Bool) (y:UInt8) (z:List UInt8) (c:aq) (r:RunT):Option AV :=
 ah (.b (aO b 15))
 ((az (.b (aO a 62)) true (some (.b (aO m 2))) (.b false)).bind fun A=>ah A
 (some (.ag [.u8 0,.u8 0,.b false,.u8 0,.u8 0,.u8 0,.u8 0,.b false,.u8 0,.s []]))
 ((az (.b (aO a 33)) true (some (.b (aO m 2))) (.b false)).bind fun B=>ah B
 (some (.ag [.u8 20,.u8 0,.b false,.u8 0,.u8 0,.u8 0,.u8 0,.b false,.u8 0,.s []]))
 (ah (.b (aO a 45))
 ((aH .add (.u8 m) (.u8 1)).bind fun D=>(mm true D (.u8 2)).bind fun E=>(AV.one E).bind fun G=>some (.ag [.u8 15,.u8 0,.b false,.u8 0,.u8 0,.u8 0,.u8 0,.b false,G,.s []]))
 (some (.ag [.u8 15,.u8 0,.b false,.u8 0,.u8 0,.u8 0,.u8 0,.b false,.u8 0,.s []])))))
 (ah (.b (aO b 16))
 (ah (.b (aO a 62))
 (some (.ag [.u8 0,.u8 0,.b false,.u8 0,.u8 0,.u8 0,.u8 0,.b false,.u8 0,.s []]))
 (wV r d e f g i j k l m n o p q s t u w x y z))
 (wV r d e f g i j k l m n o p q s t u w x y z))
def Pq (a b:UInt8) (d:Bool) (e f g i:UInt8) (j:Bool) (k:UInt8) (l:List UInt8) (m n:UInt8) (o:Bool) (p q s t:UInt8) (u:Bool) (w:UInt8) (x:List UInt8) (c:aq) (r:RunT):Option AV :=
 some (.ag [.u8 a,.u8 b,.b d,.u8 e,.u8 f,.u8 g,.u8 i,.b j,.u8 k,.s l])
theorem Ss (a b d e f g i j k l m n o p q s t u w x y) {r:AV} (h:MT a b d e f g i j k l m n o p q s t u w x y (ae (C mx) Tryz.prog) (af (C mx) Tryz.prog 97 Tryz.f97)=some r):CS (af (C mx) Tryz.prog 97 Tryz.f97) a b d e f g i j k l m n o p q s t u w x y=some r :=
 ak (fun _ _=>by kernel_rfl) h
theorem Pt (a b d e f g i j k l m n o p q s t u w x y z) {r:AV} (h:Hp a b d e f g i j k l m n o p q s t u w x y z (ae (C mx) Tryz.prog) (af (C mx) Tryz.prog 97 Tryz.f97)=some r):A8 (af (C mx) Tryz.prog 97 Tryz.f97) a b d e f g i j k l m n o p q s t u w x y z=some r :=
 ak (fun _ _=>by kernel_rfl) h
theorem Pu (a b d e f g i j k l m n o p q s t u w x y) {r:AV} (h:Hq a b d e f g i j k l m n o p q s t u w x y (ae (C mx) Tryz.prog) (af (C mx) Tryz.prog 97 Tryz.f97)=some r):wU (af (C mx) Tryz.prog 97 Tryz.f97) a b d e f g i j k l m n o p q s t u w x y=some r :=
 ak (fun _ _=>by kernel_rfl) h
theorem Pv (a b d e f g i j k l m n o p q s t u w x y z) {r:AV} (h:Hr a b d e f g i j k l m n o p q s t u w x y z (ae (C mx) Tryz.prog) (af (C mx) Tryz.prog 97 Tryz.f97)=some r):A9 (af (C mx) Tryz.prog 97 Tryz.f97) a b d e f g i j k l m n o p q s t u w x y z=some r :=
 ak (fun _ _=>by kernel_rfl) h
theorem Pw (a b d e f g i j k l m n o p q s t u w x) {r:AV} (h:Pq a b d e f g i j k l m n o p q s t u w x (ae (C mx) Tryz.prog) (af (C mx) Tryz.prog 97 Tryz.f97)=some r):wV (af (C mx) Tryz.prog 97 Tryz.f97) a b d e f g i j k l m n o p q s t u w x=some r :=
 ak (fun _ _=>by kernel_rfl) h
def Su (a:UInt8) (c:aq) (r:RunT):Option AV :=
 (az (.b (Ko a 97)) true (some (.b (ule a 122))) (.b false)).bind fun b=>(az b false ((az (.b (Ko a 65)) true (some (.b (ule a 90))) (.b false)).bind fun d=>some d) (.b true)).bind fun e=>some e
theorem Wt a {r:AV} (h:Su a (ae (C mx) Tryz.prog) (af (C mx) Tryz.prog 116 Tryz.f116)=some r):ae (C mx) Tryz.prog 116 [.u8 a]=some r :=
 aj (fun _ _=>by kernel_rfl) h
def Wu (a:UInt8) (c:aq) (r:RunT):Option AV :=
 (az (.b (Ko a 65)) true (some (.b (ule a 90))) (.b false)).bind fun b=>ah b
 ((aH .add (.u8 a) (.u8 97)).bind fun d=>(aH .sub d (.u8 65)).bind fun e=>some e)
 (some (.u8 a))
theorem Wv a {r:AV} (h:Wu a (ae (C mx) Tryz.prog) (af (C mx) Tryz.prog 117 Tryz.f117)=some r):ae (C mx) Tryz.prog 117 [.u8 a]=some r :=
 aj (fun _ _=>by kernel_rfl) h
def Sv (a:UInt8) (c:aq) (r:RunT):Option AV :=
 (az (.b (aO a 32)) false (some (.b (aO a 9))) (.b true)).bind fun b=>(az b false (some (.b (aO a 10))) (.b true)).bind fun d=>(az d false (some (.b (aO a 12))) (.b true)).bind fun e=>(az e false (some (.b (aO a 13))) (.b true)).bind fun f=>some f
theorem Ww a {r:AV} (h:Sv a (ae (C mx) Tryz.prog) (af (C mx) Tryz.prog 118 Tryz.f118)=some r):ae (C mx) Tryz.prog 118 [.u8 a]=some r :=
 aj (fun _ _=>by kernel_rfl) h
def Sw (a b:UInt8) (d:Bool) (e f g i:UInt8) (j:Bool) (k:UInt8) (l:List UInt8) (m:UInt8) (c:aq) (r:RunT):Option AV :=
 ah (.b (decide (((l.length:Int)) ≥ 32)))
 (some (.ag [.u8 20,.u8 0,.b false,.u8 0,.u8 0,.u8 0,.u8 0,.b false,.u8 0,.s []]))
 ((c 117 [.u8 m]).bind fun n=>(AV.one n).bind fun o=>(B2 (.ro 1 (([o]:List AV)))).bind fun p=>(cy .add (.s l) p).bind fun q=>(AV.one q).bind fun s=>some (.ag [.u8 a,.u8 b,.b d,.u8 e,.u8 f,.u8 g,.u8 i,.b j,.u8 k,s]))
theorem Wx (a b d e f g i j k l m) {r:AV} (h:Sw a b d e f g i j k l m (ae (C mx) Tryz.prog) (af (C mx) Tryz.prog 119 Tryz.f119)=some r):ae (C mx) Tryz.prog 119 [.ag [.u8 a,.u8 b,.b d,.u8 e,.u8 f,.u8 g,.u8 i,.b j,.u8 k,.s l],.u8 m]=some r :=
 aj (fun _ _=>by kernel_rfl) h
def Wy (a b:UInt8) (d:Bool) (e f g i:UInt8) (j:Bool) (k:UInt8) (l:List UInt8) (m:UInt8) (c:aq) (r:RunT):Option AV :=
 some (.ag [.u8 m,.u8 b,.b d,.u8 0,.u8 0,.u8 0,.u8 0,.b false,.u8 0,.s []])
theorem Wz (a b d e f g i j k l m) {r:AV} (h:Wy a b d e f g i j k l m (ae (C mx) Tryz.prog) (af (C mx) Tryz.prog 121 Tryz.f121)=some r):ae (C mx) Tryz.prog 121 [.ag [.u8 a,.u8 b,.b d,.u8 e,.u8 f,.u8 g,.u8 i,.b j,.u8 k,.s l],.u8 m]=some r :=
 aj (fun _ _=>by kernel_rfl) h
def Sy (a:UInt8) (c:aq) (r:RunT):Option AV :=
 ah (.b (nN a 0))
 (some (.ag [.u8 17,.u8 a,.b false,.u8 0,.u8 0,.u8 0,.u8 0,.b false,.u8 0,.s []]))
 (some (.ag [.u8 0,.u8 0,.b false,.u8 0,.u8 0,.u8 0,.u8 0,.b false,.u8 0,.s []]))
theorem WA a {r:AV} (h:Sy a (ae (C mx) Tryz.prog) (af (C mx) Tryz.prog 122 Tryz.f122)=some r):ae (C mx) Tryz.prog 122 [.u8 a]=some r :=
 aj (fun _ _=>by kernel_rfl) h
def Sz (a b:UInt8) (d:Bool) (e f g i:UInt8) (j:Bool) (k:UInt8) (l:List UInt8) (m:UInt8) (c:aq) (r:RunT):Option AV :=
 (c 118 [.u8 m]).bind fun n=>ah n
 (some (.tu [.ag [.u8 a,.u8 b,.b d,.u8 e,.u8 f,.u8 g,.u8 i,.b j,.u8 k,.s l],.b false]))
 (ah (.b (aO m 62))
 (some (.tu [.ag [.u8 20,.u8 0,.b false,.u8 0,.u8 0,.u8 0,.u8 0,.b false,.u8 0,.s []],.b false]))
 ((az (.b (aO m 34)) false (some (.b (aO m 39))) (.b true)).bind fun o=>ah o
 (some (.tu [.ag [.u8 8,.u8 b,.b d,.u8 e,.u8 m,.u8 g,.u8 i,.b j,.u8 k,.s l],.b false]))
 (some (.tu [.ag [.u8 8,.u8 b,.b d,.u8 e,.u8 f,.u8 g,.u8 i,.b j,.u8 k,.s l],.b true]))))
theorem WB (a b d e f g i j k l m) {r:AV} (h:Sz a b d e f g i j k l m (ae (C mx) Tryz.prog) (af (C mx) Tryz.prog 123 Tryz.f123)=some r):ae (C mx) Tryz.prog 123 [.ag [.u8 a,.u8 b,.b d,.u8 e,.u8 f,.u8 g,.u8 i,.b j,.u8 k,.s l],.u8 m]=some r :=
 aj (fun _ _=>by kernel_rfl) h
def SA (a b:UInt8) (d:Bool) (e f g i:UInt8) (j:Bool) (k:UInt8) (l:List UInt8) (m:UInt8) (c:aq) (r:RunT):Option AV :=
 (az (.b (aO m 61)) true (some (.b (l != []))) (.b false)).bind fun n=>ah n
 ((c 121 [.ag [.u8 a,.u8 b,.b d,.u8 e,.u8 f,.u8 g,.u8 i,.b j,.u8 k,.s l],.u8 7]).bind fun o=>(AV.aI 10 o).bind fun p=>(c 138 [.s l]).bind fun q=>(AV.one q).bind fun s=>some (.tu [.ag [gt p 0,gt p 1,gt p 2,s,gt p 4,gt p 5,gt p 6,gt p 7,gt p 8,gt p 9],.b false]))
 ((az (.b (aO m 47)) false (some (.b (aO m 62))) (.b true)).bind fun t=>ah t
 ((c 121 [.ag [.u8 a,.u8 b,.b d,.u8 e,.u8 f,.u8 g,.u8 i,.b j,.u8 k,.s l],.u8 9]).bind fun u=>(AV.aI 10 u).bind fun w=>some (.tu [.ag [gt w 0,gt w 1,gt w 2,gt w 3,gt w 4,gt w 5,gt w 6,gt w 7,gt w 8,gt w 9],.b true]))
 ((c 118 [.u8 m]).bind fun x=>ah x
 (some (.tu [.ag [.u8 6,.u8 b,.b d,.u8 e,.u8 f,.u8 g,.u8 i,.b j,.u8 k,.s l],.b false]))
 (ah (.b (aO a 6))
 ((c 121 [.ag [.u8 a,.u8 b,.b d,.u8 e,.u8 f,.u8 g,.u8 i,.b j,.u8 k,.s l],.u8 4]).bind fun y=>(AV.aI 10 y).bind fun z=>some (.tu [.ag [gt z 0,gt z 1,gt z 2,gt z 3,gt z 4,gt z 5,gt z 6,gt z 7,gt z 8,gt z 9],.b true]))
 ((az (.b (aO m 34)) false (some (.b (aO m 39))) (.b true)).bind fun A=>(az A false (some (.b (aO m 60))) (.b true)).bind fun B=>ah B
 (some (.tu [.ag [.u8 20,.u8 0,.b false,.u8 0,.u8 0,.u8 0,.u8 0,.b false,.u8 0,.s []],.b false]))
 ((c 119 [.ag [.u8 a,.u8 b,.b d,.u8 e,.u8 f,.u8 g,.u8 i,.b j,.u8 k,.s l],.u8 m]).bind fun D=>(AV.aI 10 D).bind fun E=>some (.tu [.ag [gt E 0,gt E 1,gt E 2,gt E 3,gt E 4,gt E 5,gt E 6,gt E 7,gt E 8,gt E 9],.b false]))))))
theorem WC (a b d e f g i j k l m) {r:AV} (h:SA a b d e f g i j k l m (ae (C mx) Tryz.prog) (af (C mx) Tryz.prog 124 Tryz.f124)=some r):ae (C mx) Tryz.prog 124 [.ag [.u8 a,.u8 b,.b d,.u8 e,.u8 f,.u8 g,.u8 i,.b j,.u8 k,.s l],.u8 m]=some r :=
 aj (fun _ _=>by kernel_rfl) h
def SB (a b:UInt8) (d:Bool) (e f g i:UInt8) (j:Bool) (k:UInt8) (l:List UInt8) (c:aq) (r:RunT):Option AV :=
 (az (.b (aO i 0)) false (some (.b (aO i 4))) (.b true)).bind fun m=>some m
theorem WD (a b d e f g i j k l) {r:AV} (h:SB a b d e f g i j k l (ae (C mx) Tryz.prog) (af (C mx) Tryz.prog 125 Tryz.f125)=some r):ae (C mx) Tryz.prog 125 [.ag [.u8 a,.u8 b,.b d,.u8 e,.u8 f,.u8 g,.u8 i,.b j,.u8 k,.s l]]=some r :=
 aj (fun _ _=>by kernel_rfl) h
def SC (a:List UInt8) (b:UInt8) (c:aq) (r:RunT):Option AV :=
 (c 78 [.s a,.u8 b]).bind fun d=>some d
theorem WE (a b) {r:AV} (h:SC a b (ae (C mx) Tryz.prog) (af (C mx) Tryz.prog 126 Tryz.f126)=some r):ae (C mx) Tryz.prog 126 [.s a,.u8 b]=some r :=
 aj (fun _ _=>by kernel_rfl) h
def iL (run:RunT) (a b:UInt8) (d:Bool) (e f g i:UInt8) (j:Bool) (k:UInt8) (l:AV) (m n:UInt8) (o:Bool) (p q s t:UInt8) (u:Bool) (w:UInt8) (x:List UInt8):Option AV :=
 run ((bP 24 ((Tryz.f127.body).getD .skip) []).getD []) (St.bX [(2,.cell (.ptr 2 0)),(4,.cell (.ptr 4 0))] [(2,some [.val (.u8 a),.val (.u8 b),.val (.b d),.val (.u8 e),.val (.u8 f),.val (.u8 g),.val (.u8 i),.val (.b j),.val (.u8 k),.val (l)]),(4,some (cT m n o p q s t u w x))])
def SD (a b:UInt8) (d:Bool) (e f g i:UInt8) (j:Bool) (k:UInt8) (l:List UInt8) (m:UInt8) (c:aq) (r:RunT):Option AV :=
 (az (.b (aO g 4)) false (some (.b (aO g 5))) (.b true)).bind fun n=>ah n
 (some (.ag [.u8 a,.u8 b,.b d,.u8 e,.u8 f,.u8 g,.u8 i,.b j,.u8 k,.s []]))
 (ah (.b (aO m 38))
 (some (.ag [.u8 20,.u8 0,.b false,.u8 0,.u8 0,.u8 0,.u8 0,.b false,.u8 0,.s []]))
 ((az (.b (aO m 63)) false (some (.b (aO m 35))) (.b true)).bind fun o=>ah o
 (iL r a b d e f 4 i j k (.s []) 0 0 false 0 0 0 0 false 0 [])
 (ah (.b (aO g 3))
 (some (.ag [.u8 a,.u8 b,.b d,.u8 e,.u8 f,.u8 g,.u8 i,.b j,.u8 k,.s []]))
 (ah (.b (aO m 47))
 (iL r a b d e f 3 i j k (.s []) 0 0 false 0 0 0 0 false 0 [])
 ((az (.b (aO m 58)) true (some (.b (aO g 2))) (.b false)).bind fun p=>ah p
 (some (.ag [.u8 20,.u8 0,.b false,.u8 0,.u8 0,.u8 0,.u8 0,.b false,.u8 0,.s []]))
 (ah (.b (aO m 58))
 ((az (.b (l == [104,116,116,112])) false (some (.b (l == [104,116,116,112,115]))) (.b true)).bind fun q=>(az q false (some (.b (l == [109,97,105,108,116,111]))) (.b true)).bind fun s=>ah s
 (iL r a b d e f 3 i j k (.s []) 0 0 false 0 0 0 0 false 0 [])
 (iL r a b d e f 5 i j k (.s []) 0 0 false 0 0 0 0 false 0 []))
 (ah (.b (aO g 2))
 (some (.ag [.u8 a,.u8 b,.b d,.u8 e,.u8 f,.u8 g,.u8 i,.b j,.u8 k,.s []]))
 (ah (.b (decide (((l.length:Int)) ≥ 16)))
 (iL r a b d e f 1 i j k (.s l) 0 0 false 0 0 0 0 false 0 [])
 ((c 117 [.u8 m]).bind fun t=>same ((AV.one t).bind fun u=>(B2 (.ro 1 (([u]:List AV)))).bind fun w=>(cy .add (.s l) w).bind fun x=>(AV.one x).bind fun y=>iL r a b d e f 1 i j k y 0 0 false 0 0 0 0 false 0 []))))))))))
theorem WG (a b d e f g i j k l m) {r:AV} (h:SD a b d e f g i j k l m (ae (C mx) Tryz.prog) (af (C mx) Tryz.prog 127 Tryz.f127)=some r):ae (C mx) Tryz.prog 127 [.ag [.u8 a,.u8 b,.b d,.u8 e,.u8 f,.u8 g,.u8 i,.b j,.u8 k,.s l],.u8 m]=some r :=
 aj (fun _ _=>by kernel_rfl) h
def KY (a b:UInt8) (d:Bool) (e f g i:UInt8) (j:Bool) (k:UInt8) (l:AV) (m n:UInt8) (o:Bool) (p q s t:UInt8) (u:Bool) (w:UInt8) (x:List UInt8) (c:aq) (r:RunT):Option AV :=
 some (.ag [.u8 a,.u8 b,.b d,.u8 e,.u8 f,.u8 g,.u8 i,.b j,.u8 k,l])
theorem KZ (a b d e f g i j k l m n o p q s t u w x) {r:AV} (h:KY a b d e f g i j k l m n o p q s t u w x (ae (C mx) Tryz.prog) (af (C mx) Tryz.prog 127 Tryz.f127)=some r):iL (af (C mx) Tryz.prog 127 Tryz.f127) a b d e f g i j k l m n o p q s t u w x=some r :=
 ak (fun _ _=>by kernel_rfl) h
def qQ:Code:=(Tryz.f128.body).getD .skip
def cM (run:RunT) (a b:UInt8) (d:Bool) (e f g i:UInt8) (j:Bool) (k:UInt8) (l:List UInt8) (m n:UInt8) (o:Bool) (p q s t:UInt8) (u:Bool) (w:UInt8) (x:List UInt8):Option AV :=
 run ((bP 36 qQ []).getD []) (St.bX [(3,.cell (.ptr 3 0)),(6,.cell (.ptr 6 0))] [(3,some (cT a b d e f g i j k l)),(6,some (cT m n o p q s t u w x))])
def nU (run:RunT) (a b:UInt8) (d:Bool) (e f g i:UInt8) (j:Bool) (k:UInt8) (l:List UInt8):Option AV :=
 run ((bP 11 qQ []).getD []) (St.bX [(6,.cell (.ptr 6 0))] [(6,some (cT a b d e f g i j k l))])
def qR (run:RunT) (a b d:UInt8) (e:Bool) (f g i j:UInt8) (k:Bool) (l:UInt8) (m:List UInt8) (n o:UInt8) (p:Bool) (q s t u:UInt8) (w:Bool) (x:UInt8) (y:List UInt8):Option AV :=
 run ((bP 23 qQ []).getD []) (St.bX [(1,.cell (.val (.u8 a))),(3,.cell (.ptr 3 0)),(6,.cell (.ptr 6 0))] [(3,some (cT b d e f g i j k l m)),(6,some (cT n o p q s t u w x y))])
def wW (run:RunT) (a b d e:UInt8) (f:Bool) (g i j k:UInt8) (l:Bool) (m:UInt8) (n:List UInt8) (o p:UInt8) (q:Bool) (s t u w:UInt8) (x:Bool) (y:UInt8) (z:List UInt8):Option AV :=
 run ((bP 24 qQ []).getD []) (St.bX [(1,.cell (.val (.u8 a))),(3,.cell (.ptr 3 0)),(6,.cell (.ptr 6 0)),(8,.cell (.val (.u8 b)))] [(3,some (cT d e f g i j k l m n)),(6,some (cT o p q s t u w x y z))])
def Px (a b:UInt8) (d:Bool) (e f g i:UInt8) (j:Bool) (k:UInt8) (l:List UInt8) (m:UInt8) (n:Bool) (c:aq) (r:RunT):Option AV :=
 ah (.b (aO i 0))
 (ah (.b (aO m 34))
 (cM r a b d e f g 1 j k l 0 0 false 0 0 0 0 false 0 [])
 (ah (.b (aO m 39))
 (cM r a b d e f g 2 j k l 0 0 false 0 0 0 0 false 0 [])
 (ah (.b (aO m 47))
 (cM r a b d e f g 3 j k l 0 0 false 0 0 0 0 false 0 [])
 ((az (.b n) true (some (.b (aO m 96))) (.b false)).bind fun o=>ah o
 (nU r 0 0 false 0 0 0 0 false 0 [])
 ((az (.b (!n)) true ((az (.b (aO m 40)) false (some (.b (aO m 92))) (.b true)).bind fun p=>some p) (.b false)).bind fun q=>ah q
 (nU r 0 0 false 0 0 0 0 false 0 [])
 (cM r a b d e f g i j k l 0 0 false 0 0 0 0 false 0 []))))))
 (ah (.b (aO i 3))
 (ah (.b (aO m 42))
 (cM r a b d e f g 5 j k l 0 0 false 0 0 0 0 false 0 [])
 ((az (.b n) true (some (.b (aO m 47))) (.b false)).bind fun s=>ah s
 (cM r a b d e f g 4 j k l 0 0 false 0 0 0 0 false 0 [])
 (ah (.b n)
 (some (.ag [.u8 20,.u8 0,.b false,.u8 0,.u8 0,.u8 0,.u8 0,.b false,.u8 0,.s []]))
 ((c 128 [.ag [.u8 a,.u8 b,.b d,.u8 e,.u8 f,.u8 g,.u8 0,.b j,.u8 k,.s l],.u8 m,.b n]).bind fun t=>(AV.aI 10 t).bind fun u=>some (.ag [gt u 0,gt u 1,gt u 2,gt u 3,gt u 4,gt u 5,gt u 6,gt u 7,gt u 8,gt u 9])))))
 (ah (.b (aO i 1))
 (qR r m a b d e f g i j k l 0 0 false 0 0 0 0 false 0 [])
 (ah (.b (aO i 2))
 (qR r m a b d e f g i j k l 0 0 false 0 0 0 0 false 0 [])
 (wW r m i a b d e f g i j k l 0 0 false 0 0 0 0 false 0 []))))
theorem SE (a b d e f g i j k l m n) {r:AV} (h:Px a b d e f g i j k l m n (ae (C mx) Tryz.prog) (af (C mx) Tryz.prog 128 Tryz.f128)=some r):ae (C mx) Tryz.prog 128 [.ag [.u8 a,.u8 b,.b d,.u8 e,.u8 f,.u8 g,.u8 i,.b j,.u8 k,.s l],.u8 m,.b n]=some r :=
 aj (fun _ _=>by kernel_rfl) h
def K0 (a b:UInt8) (d:Bool) (e f g i:UInt8) (j:Bool) (k:UInt8) (l:List UInt8) (m n:UInt8) (o:Bool) (p q s t:UInt8) (u:Bool) (w:UInt8) (x:List UInt8) (c:aq) (r:RunT):Option AV :=
 some (.ag [.u8 a,.u8 b,.b d,.u8 e,.u8 f,.u8 g,.u8 i,.b j,.u8 k,.s l])
def K1 (a b:UInt8) (d:Bool) (e f g i:UInt8) (j:Bool) (k:UInt8) (l:List UInt8) (c:aq) (r:RunT):Option AV :=
 some (.ag [.u8 20,.u8 0,.b false,.u8 0,.u8 0,.u8 0,.u8 0,.b false,.u8 0,.s []])
def CT (a b d:UInt8) (e:Bool) (f g i j:UInt8) (k:Bool) (l:UInt8) (m:List UInt8) (n o:UInt8) (p:Bool) (q s t u:UInt8) (w:Bool) (x:UInt8) (y:List UInt8) (c:aq) (r:RunT):Option AV :=
 (c 139 [.ag [.u8 b,.u8 d,.b e,.u8 f,.u8 g,.u8 i,.u8 j,.b k,.u8 l,.s m],.u8 a]).bind fun z=>(AV.aI 10 z).bind fun A=>some (.ag [gt A 0,gt A 1,gt A 2,gt A 3,gt A 4,gt A 5,gt A 6,gt A 7,gt A 8,gt A 9])
def CU (a b d e:UInt8) (f:Bool) (g i j k:UInt8) (l:Bool) (m:UInt8) (n:List UInt8) (o p:UInt8) (q:Bool) (s t u w:UInt8) (x:Bool) (y:UInt8) (z:List UInt8) (c:aq) (r:RunT):Option AV :=
 ah (.b (aO b 4))
 ((az (.b (aO a 10)) false (some (.b (aO a 13))) (.b true)).bind fun A=>ah A
 (cM r d e f g i j 0 l m n o p q s t u w x y z)
 (cM r d e f g i j k l m n o p q s t u w x y z))
 (ah (.b (aO b 5))
 (ah (.b (aO a 42))
 (cM r d e f g i j 6 l m n o p q s t u w x y z)
 (cM r d e f g i j k l m n o p q s t u w x y z))
 (ah (.b (aO b 6))
 (ah (.b (aO a 47))
 (cM r d e f g i j 0 l m n o p q s t u w x y z)
 (ah (.b (aO a 42))
 (cM r d e f g i j k l m n o p q s t u w x y z)
 (cM r d e f g i j 5 l m n o p q s t u w x y z)))
 (cM r d e f g i j k l m n o p q s t u w x y z)))
theorem CV (a b d e f g i j k l m n o p q s t u w x) {r:AV} (h:K0 a b d e f g i j k l m n o p q s t u w x (ae (C mx) Tryz.prog) (af (C mx) Tryz.prog 128 Tryz.f128)=some r):cM (af (C mx) Tryz.prog 128 Tryz.f128) a b d e f g i j k l m n o p q s t u w x=some r :=
 ak (fun _ _=>by kernel_rfl) h
theorem CW (a b d e f g i j k l) {r:AV} (h:K1 a b d e f g i j k l (ae (C mx) Tryz.prog) (af (C mx) Tryz.prog 128 Tryz.f128)=some r):nU (af (C mx) Tryz.prog 128 Tryz.f128) a b d e f g i j k l=some r :=
 ak (fun _ _=>by kernel_rfl) h
theorem K2 (a b d e f g i j k l m n o p q s t u w x y) {r:AV} (h:CT a b d e f g i j k l m n o p q s t u w x y (ae (C mx) Tryz.prog) (af (C mx) Tryz.prog 128 Tryz.f128)=some r):qR (af (C mx) Tryz.prog 128 Tryz.f128) a b d e f g i j k l m n o p q s t u w x y=some r :=
 ak (fun _ _=>by kernel_rfl) h
theorem K3 (a b d e f g i j k l m n o p q s t u w x y z) {r:AV} (h:CU a b d e f g i j k l m n o p q s t u w x y z (ae (C mx) Tryz.prog) (af (C mx) Tryz.prog 128 Tryz.f128)=some r):wW (af (C mx) Tryz.prog 128 Tryz.f128) a b d e f g i j k l m n o p q s t u w x y z=some r :=
 ak (fun _ _=>by kernel_rfl) h
def wX (run:RunT) (a:List UInt8) (b d:Int) (e f g i j k l m n o:AV) (p q:UInt8) (s:Bool) (t u w x:UInt8) (y:Bool) (z:UInt8) (A:List UInt8):Option AV :=
 run ((bP 5 ((Tryz.f129.body).getD .skip) []).getD []) (St.bX [(1,.cell (.val (.s a))),(3,.cell (.ptr 3 0)),(6,.cell (.ptr 6 0)),(19,.cell (.val (.int b))),(20,.cell (.val (.int d)))] [(3,some (cV e f g i j k l m n o)),(6,some (cT p q s t u w x y z A))])
def SF (a b:UInt8) (d:Bool) (e f g i:UInt8) (j:Bool) (k:UInt8) (l m:List UInt8) (n:Bool) (c:aq) (r:RunT):Option AV :=
 (az (.b (!n)) false ((c 140 [.ag [.u8 17,.u8 b,.b d,.u8 e,.u8 f,.u8 g,.u8 i,.b j,.u8 k,.s []]]).bind fun o=>(unop .not o).bind fun p=>some p) (.b true)).bind fun q=>ah q
 (some (.ag [.u8 17,.u8 b,.b d,.u8 e,.u8 f,.u8 g,.u8 i,.b j,.u8 k,.s []]))
 (wX r m ((m.length:Int)) 0 (.u8 17) (.u8 b) (.b d) (.u8 e) (.u8 f) (.u8 g) (.u8 i) (.b j) (.u8 k) (.s []) 0 0 false 0 0 0 0 false 0 [])
theorem WH (a b d e f g i j k l m n) {r:AV} (h:SF a b d e f g i j k l m n (ae (C mx) Tryz.prog) (af (C mx) Tryz.prog 129 Tryz.f129)=some r):ae (C mx) Tryz.prog 129 [.ag [.u8 a,.u8 b,.b d,.u8 e,.u8 f,.u8 g,.u8 i,.b j,.u8 k,.s l],.s m,.b n]=some r :=
 aj (fun _ _=>by kernel_rfl) h
def Ba (a:List UInt8) (b d:Int) (e f g i j k l m n o:AV) (p q:UInt8) (s:Bool) (t u w x:UInt8) (y:Bool) (z:UInt8) (A:List UInt8) (c:aq) (r:RunT):Option AV :=
 ah (.b (decide (d < b)))
 ((dm (.s a) (.int d)).bind fun B=>(aH .eql f (.u8 3)).bind fun D=>(c 128 [.ag [e,f,g,i,j,k,l,m,n,o],B,D]).bind fun E=>(AV.aI 10 E).bind fun G=>(aH .eql (gt G 0) (.u8 20)).bind fun H=>ah H
 (some (.ag [.u8 20,.u8 0,.b false,.u8 0,.u8 0,.u8 0,.u8 0,.b false,.u8 0,.s []]))
 (wX r a b (bN (d+1)) (gt G 0) (gt G 1) (gt G 2) (gt G 3) (gt G 4) (gt G 5) (gt G 6) (gt G 7) (gt G 8) (gt G 9) p q s t u w x y z A))
 (some (.ag [e,f,g,i,j,k,l,m,n,o]))
theorem Hs (a b d e f g i j k l m n o p q s t u w x y z A) {r:AV} (h:Ba a b d e f g i j k l m n o p q s t u w x y z A (ae (C mx) Tryz.prog) (af (C mx) Tryz.prog 129 Tryz.f129)=some r):wX (af (C mx) Tryz.prog 129 Tryz.f129) a b d e f g i j k l m n o p q s t u w x y z A=some r :=
 ak (fun _ _=>by kernel_rfl) h
def oZ (run:RunT) (a b:UInt8) (d:Bool) (e f g i:UInt8) (j:Bool) (k:UInt8) (l:List UInt8) (m n:UInt8) (o:Bool) (p q s t:UInt8) (u:Bool) (w:UInt8) (x:List UInt8):Option AV :=
 run ((bP 9 ((Tryz.f139.body).getD .skip) []).getD []) (St.bX [(2,.cell (.ptr 2 0)),(4,.cell (.ptr 4 0))] [(2,some (cT a b d e f g i j k l)),(4,some (cT m n o p q s t u w x))])
def SG (a b:UInt8) (d:Bool) (e f g i:UInt8) (j:Bool) (k:UInt8) (l:List UInt8) (m:UInt8) (c:aq) (r:RunT):Option AV :=
 ah (.b j)
 (oZ r a b d e f g i false k l 0 0 false 0 0 0 0 false 0 [])
 (ah (.b (aO m 92))
 (oZ r a b d e f g i true k l 0 0 false 0 0 0 0 false 0 [])
 ((az (.b (aO m 10)) false (some (.b (aO m 13))) (.b true)).bind fun n=>ah n
 (some (.ag [.u8 20,.u8 0,.b false,.u8 0,.u8 0,.u8 0,.u8 0,.b false,.u8 0,.s []]))
 ((az (.b (aO m 34)) true (some (.b (aO i 1))) (.b false)).bind fun o=>(az o false ((az (.b (aO m 39)) true (some (.b (aO i 2))) (.b false)).bind fun p=>some p) (.b true)).bind fun q=>ah q
 (oZ r a b d e f g 0 j k l 0 0 false 0 0 0 0 false 0 [])
 (oZ r a b d e f g i j k l 0 0 false 0 0 0 0 false 0 []))))
theorem WI (a b d e f g i j k l m) {r:AV} (h:SG a b d e f g i j k l m (ae (C mx) Tryz.prog) (af (C mx) Tryz.prog 139 Tryz.f139)=some r):ae (C mx) Tryz.prog 139 [.ag [.u8 a,.u8 b,.b d,.u8 e,.u8 f,.u8 g,.u8 i,.b j,.u8 k,.s l],.u8 m]=some r :=
 aj (fun _ _=>by kernel_rfl) h
def Py (a b:UInt8) (d:Bool) (e f g i:UInt8) (j:Bool) (k:UInt8) (l:List UInt8) (m n:UInt8) (o:Bool) (p q s t:UInt8) (u:Bool) (w:UInt8) (x:List UInt8) (c:aq) (r:RunT):Option AV :=
 some (.ag [.u8 a,.u8 b,.b d,.u8 e,.u8 f,.u8 g,.u8 i,.b j,.u8 k,.s l])
theorem Pz (a b d e f g i j k l m n o p q s t u w x) {r:AV} (h:Py a b d e f g i j k l m n o p q s t u w x (ae (C mx) Tryz.prog) (af (C mx) Tryz.prog 139 Tryz.f139)=some r):oZ (af (C mx) Tryz.prog 139 Tryz.f139) a b d e f g i j k l m n o p q s t u w x=some r :=
 ak (fun _ _=>by kernel_rfl) h
end eG
end
