/-
  A part of InferTemplates's proof.
-/
import Derived.Test.YtgjfbalafdifgaaGreatDoorTB
import Derived.RangeFuncNested
import Derived.RangeFuncBound
import Derived.RangeFuncCalls
import Derived.RangeFuncLeaves
import Derived.Shelf.Abstract
import Derived.Shelf.RegionOpen
import Derived.WalkKit
import Derived.OwnWalkIn
import Derived.TacticsInMore
import Derived.LoopNIn
import Derived.LoopIn
import Derived.Maps.AppendAt
import Derived.Test.YtgjfbalafdifgaaGreatDoorProg
import Derived.Shelf.Strings.Search3
import Derived.Shelf.Vars
import Derived.Test.YtgjfbalafdifgaaGreatDoorTC
noncomputable section
namespace eA
open Go Sx
def kK:List (Nat×Ty):=[
 (3,{ size:=1,bytes:=8,kd:=.int .i64,elem:=0,zero:=[.int 0],fields:=[],eqk:=none }),
 (4,{ size:=1,bytes:=1,kd:=.bool,elem:=0,zero:=[.b false],fields:=[],eqk:=none }),
 (5,{ size:=1,bytes:=1,kd:=.int .u8,elem:=0,zero:=[.u8 0],fields:=[],eqk:=none }),
 (9,{ size:=1,bytes:=16,kd:=.str,elem:=0,zero:=[.s []],fields:=[],eqk:=none }),
 (23,{ size:=1,bytes:=24,kd:=.slice,elem:=58,zero:=[.aC],fields:=[],eqk:=none }),
 (24,{ size:=1,bytes:=24,kd:=.slice,elem:=3,zero:=[.aC],fields:=[],eqk:=none }),
 (26,{ size:=2,bytes:=48,kd:=.struct,elem:=0,zero:=[.aC, .aC],fields:=[(0,23),(1,24)],eqk:=none }),
 (27,{ size:=1,bytes:=8,kd:=.int .i64,elem:=0,zero:=[.int 0],fields:=[],eqk:=none }),
 (34,{ size:=1,bytes:=1,kd:=.int .u8,elem:=0,zero:=[.u8 0],fields:=[],eqk:=none }),
 (35,{ size:=1,bytes:=1,kd:=.int .u8,elem:=0,zero:=[.u8 0],fields:=[],eqk:=none }),
 (36,{ size:=1,bytes:=1,kd:=.int .u8,elem:=0,zero:=[.u8 0],fields:=[],eqk:=none }),
 (37,{ size:=1,bytes:=1,kd:=.int .u8,elem:=0,zero:=[.u8 0],fields:=[],eqk:=none }),
 (38,{ size:=1,bytes:=1,kd:=.int .u8,elem:=0,zero:=[.u8 0],fields:=[],eqk:=none }),
 (40,{ size:=10,bytes:=32,kd:=.struct,elem:=0,zero:=[.u8 0, .u8 0, .b false, .u8 0, .u8 0, .u8 0, .u8 0, .b false, .u8 0, .s []],fields:=[(0,34),(1,35),(2,4),(3,36),(4,5),(5,37),(6,38),(7,4),(8,5),(9,9)],eqk:=some [.i, .i, .b, .i, .i, .i, .i, .b, .i, .s] }),
 (52,{ size:=1,bytes:=1,kd:=.int .u8,elem:=0,zero:=[.u8 0],fields:=[],eqk:=none }),
 (53,{ size:=1,bytes:=24,kd:=.slice,elem:=9,zero:=[.aC],fields:=[],eqk:=none }),
 (55,{ size:=2,bytes:=32,kd:=.struct,elem:=0,zero:=[.b false, .aC],fields:=[(0,4),(1,53)],eqk:=none }),
 (56,{ size:=1,bytes:=1,kd:=.int .u8,elem:=0,zero:=[.u8 0],fields:=[],eqk:=none }),
 (58,{ size:=9,bytes:=120,kd:=.struct,elem:=0,zero:=[.u8 0, .int 0, .s [], .b false, .aC, .aC, .aC, .b false, .u8 0],fields:=[(0,52),(1,3),(2,9),(3,55),(5,24),(6,24),(7,4),(8,56)],eqk:=none }),
 (62,{ size:=4,bytes:=64,kd:=.struct,elem:=0,zero:=[.aC, .aC, .int 0, .int 0],fields:=[(0,26),(2,3),(3,27)],eqk:=none }),
 (66,{ size:=4,bytes:=64,kd:=.struct,elem:=0,zero:=[.aC, .aC, .int 0, .int 0],fields:=[(0,26),(2,3),(3,3)],eqk:=none }),
 (113,{ size:=1,bytes:=24,kd:=.slice,elem:=5,zero:=[.aC],fields:=[],eqk:=none })
]
def n7:List ((Nat×Nat)×(j7×List Nat)):=[((29,1),(.seq [(0,true),(1,true),(2,true),(3,true),(4,true),(5,false),(6,true),(7,false)] .done,[3])),
 ((29,12),(.seq [(0,true),(1,true),(2,true),(3,true),(4,true),(5,false),(6,true),(7,false)] .done,[3])),
 ((30,5),(.seq [(0,true),(1,true),(2,true),(3,true),(4,true),(5,false),(6,true),(7,false)] .done,[3])),
 ((30,6),(.seq [(0,true),(1,true),(2,true),(3,true),(4,true),(5,true),(6,true),(7,true),(8,true),(9,true),(10,true),(12,true),(13,true),(11,false),(14,false),(15,true),(16,true),(17,true),(18,true),(19,true),(20,true),(21,false),(22,true),(23,true)] .done,[])),
 ((96,12),(.seq [(0,true),(1,true),(2,true),(3,true),(4,true),(5,true),(6,true),(7,true),(8,false),(9,false),(10,true),(11,true),(12,false),(13,true),(14,true)] .done,[])),
 ((96,13),(.seq [(0,true),(1,true),(2,true),(3,false),(4,false),(5,true),(6,true),(7,true),(8,false)] .done,[1000008])),
 ((119,3),(.seq [(0,true),(1,true),(2,true),(3,false),(4,false),(5,true),(6,true),(7,true),(8,false)] .done,[1000008])),
 ((127,3),(.seq [(0,true),(1,true),(6,true),(2,false)] (.fork 3 (.seq [(4,true),(5,true),(7,false),(8,true),(9,false)] .done) 7 (.seq [(3,false),(4,true),(5,true),(8,true),(9,false)] .done)),[2])),
 ((129,7),(.seq [(0,true),(1,true),(2,true),(3,true),(4,true),(5,true),(6,true),(7,false),(8,false)] .done,[1000008])),
 ((20,29),(.seq [(0,true),(1,true),(2,true),(3,true),(4,true),(5,true),(6,true),(7,true),(8,true),(9,true),(10,true),(11,true),(12,true),(13,true),(14,true),(15,true),(16,true)] .done,[])),
 ((54,6),(.seq [(1,true),(2,true),(3,true),(4,true),(0,false),(5,false),(6,false)] .done,[2])),
 ((103,3),(.seq [(0,true),(1,true),(2,true),(3,false),(4,true),(5,true),(6,false)] .done,[1000006])),
 ((107,13),(.seq [(0,true),(1,true),(2,true),(3,false),(4,true),(5,true)] .done,[])),
 ((131,26),(.seq [(0,true),(1,true),(2,true),(3,false),(4,true),(5,true),(6,false)] .done,[1000006])),
 ((133,6),(.seq [(0,true),(1,true),(2,true),(3,true),(4,true),(5,true),(6,true),(7,false),(8,false)] .done,[1000008])),
 ((22,4),(.seq [(0,true),(1,true),(2,true),(3,true),(4,true),(5,false),(6,false),(7,false)] .done,[5,1000006]))]
def n8:List (Nat×List (Nat×List (Nat×Option (Nat×Nat))×List (Nat×List (Nat×Nat×Nat)))):=[(51,[(6,[(1,none),(2,none)],[(1,[]),(2,[])])]),
 (17,[(11,[(1,none),(4,none)],[(1,[]),(4,[])]),(12,[(1,none),(3,none),(4,none),(48,none)],[(1,[]),(3,[]),(4,[])]),(14,[(1,none),(4,none)],[(1,[]),(4,[])]),(16,[(1,none),(3,none),(4,none),(48,none)],[(1,[]),(3,[]),(4,[])]),(27,[(1,none)],[(1,[])]),(28,[(1,none),(3,none)],[(1,[]),(3,[])])]),
 (61,[(3,[(1,none),(2,none),(3,none),(6,none)],[(3,[]),(6,[])]),(4,[(2,none),(3,none),(6,none),(14,none),(15,none),(16,none)],[(3,[]),(6,[])])]),
 (28,[(2,[(0,none),(1,none),(7,none),(8,none)],[])]),
 (29,[(12,[(2,none),(3,none)],[(2,[]),(3,[])]),(14,[(2,none),(3,none)],[(2,[]),(3,[])])]),
 (30,[(4,[(1,none),(3,none)],[(1,[]),(3,[])]),(6,[(1,none),(3,none)],[(1,[]),(3,[])])]),
 (75,[(3,[(1,none),(2,none),(3,none),(6,none)],[(3,[]),(6,[])]),(4,[(1,none),(3,none),(6,none)],[(3,[]),(6,[])]),(22,[(1,none),(2,none),(3,none),(6,none)],[(3,[]),(6,[])]),(26,[(1,none),(2,none),(3,none),(6,none),(16,none)],[(3,[]),(6,[])]),(31,[(1,none),(2,none),(3,none),(6,none)],[(3,[]),(6,[])]),(32,[(3,none),(6,none)],[(3,[]),(6,[])])]),
 (94,[(7,[(2,none),(4,none)],[(2,[]),(4,[])])]),
 (96,[(17,[(1,none),(2,none),(3,none),(6,none)],[(3,[]),(6,[])]),(22,[(3,none),(6,none)],[(3,[]),(6,[])])]),
 (97,[(4,[(1,none),(2,none),(4,none)],[(2,[]),(4,[])]),(11,[(1,none),(2,none),(4,none),(6,none)],[(2,[]),(4,[])]),(13,[(1,none),(2,none),(4,none)],[(2,[]),(4,[])]),(20,[(1,none),(2,none),(4,none),(6,none)],[(2,[]),(4,[])]),(31,[(2,none),(4,none)],[(2,[]),(4,[])])]),
 (127,[(24,[(2,none),(4,none)],[(2,[]),(4,[])])]),
 (128,[(11,[(6,none)],[(6,[])]),(23,[(1,none),(3,none),(6,none)],[(3,[]),(6,[])]),(24,[(1,none),(3,none),(6,none),(8,none)],[(3,[]),(6,[])]),(36,[(3,none),(6,none)],[(3,[]),(6,[])])]),
 (129,[(5,[(1,none),(3,none),(6,none),(19,none),(20,none)],[(3,[]),(6,[])])]),
 (138,[(13,[],[]),(14,[(0,none),(3,none)],[]),(21,[],[]),(22,[(0,none)],[])]),
 (139,[(9,[(2,none),(4,none)],[(2,[]),(4,[])])]),
 (140,[(7,[(1,none)],[(1,[])]),(8,[],[])]),
 (19,[(2,[(0,none),(5,none),(6,none),(9,none),(10,none),(11,none)],[(5,[]),(6,[]),(26,[(0,58,9)])]),(7,[(5,none),(6,none)],[(5,[]),(6,[]),(26,[(0,58,9)])])]),
 (35,[(2,[(0,none),(1,none),(5,none)],[])]),
 (54,[(3,[(1,none),(2,none),(4,none)],[(2,[]),(4,[])]),(4,[(1,none),(2,none),(4,none),(6,none)],[(2,[]),(4,[])])]),
 (55,[(32,[],[])]),
 (56,[(6,[(1,none),(2,none)],[(1,[]),(2,[])])]),
 (77,[(27,[(1,none),(4,none),(5,none)],[(4,[]),(5,[])]),(57,[(1,none),(2,none),(4,none),(5,none)],[(2,[]),(4,[]),(5,[])]),(58,[(1,none),(2,none),(4,none),(5,none),(13,none)],[(2,[]),(4,[]),(5,[])]),(73,[(1,none),(2,none),(4,none)],[(2,[]),(4,[])]),(74,[(1,none),(2,none),(4,none)],[(2,[]),(4,[])])]),
 (100,[(3,[(0,none)],[])]),
 (102,[(3,[(0,none),(3,none),(4,none)],[])]),
 (106,[(17,[(2,none),(3,none),(6,none)],[(3,[]),(6,[])]),(22,[(2,none),(3,none),(6,none)],[(3,[]),(6,[])]),(25,[(3,none),(6,none)],[(3,[]),(6,[])])]),
 (107,[(8,[(1,none),(2,none),(4,none),(5,none)],[(2,[]),(4,[])]),(20,[(1,none),(2,none),(4,none)],[(2,[]),(4,[])]),(23,[(2,none),(4,none)],[(2,[]),(4,[])])]),
 (108,[(4,[(1,none),(2,none),(4,none)],[(2,[]),(4,[])]),(11,[(1,none),(2,none),(4,none),(7,none)],[(2,[]),(4,[])]),(13,[(1,none),(2,none),(4,none)],[(2,[]),(4,[])]),(20,[(1,none),(2,none),(4,none),(7,none)],[(2,[]),(4,[])]),(24,[(2,none),(4,none)],[(2,[]),(4,[])]),(33,[(2,none),(4,none)],[(2,[]),(4,[])])]),
 (130,[(3,[(0,none),(3,none),(4,none)],[]),(9,[(0,none),(5,none),(6,none)],[])]),
 (131,[(21,[(4,none),(5,none)],[(4,[]),(5,[])]),(27,[(2,none),(4,none)],[(2,[]),(4,[])])]),
 (132,[(8,[(1,none),(3,none),(6,none)],[(3,[]),(6,[])]),(10,[(1,none),(3,none),(6,none)],[(3,[]),(6,[])]),(14,[(1,none),(3,none),(6,none),(7,none)],[(3,[]),(6,[])]),(19,[(1,none),(3,none),(6,none),(7,none)],[(3,[]),(6,[])]),(23,[(1,none),(2,none),(3,none),(6,none),(11,none)],[(3,[]),(6,[])]),(45,[(3,none),(6,none)],[(3,[]),(6,[])])]),
 (133,[(4,[(1,none),(2,none),(4,none),(5,none)],[(2,[]),(4,[])])]),
 (22,[(2,[(0,none),(1,none),(5,none),(6,none),(7,none)],[(5,[]),(6,[]),(29,[(0,58,9)])])]),
 (39,[(8,[(6,none),(8,none)],[(6,[]),(8,[]),(113,[(0,58,9)])]),(19,[(0,none),(5,none),(6,none),(7,none)],[(5,[]),(6,[]),(7,[]),(113,[(0,58,9)])]),(23,[(0,none),(6,none),(7,none),(11,none),(12,none)],[(6,[]),(7,[]),(11,[]),(12,[]),(113,[(0,58,9)])]),(26,[(6,none),(11,none)],[(6,[]),(11,[]),(113,[(0,58,9)])]),(27,[(5,none),(6,none)],[(5,[]),(6,[]),(113,[(0,58,9)])])])]
def sx:List (Nat×List (Option (Nat×Nat))):=[]
def sy:List (Nat×vp):=[(19,{ ps:=[.obj 0, .v, .v],objs:=[((.arg 0),[.own 58 9, .v, .v, .v])],outs:=[((.arg 0),[.own 58 9, .v, .v, .v])] }),
 (22,{ ps:=[.obj 0, .v, .v],objs:=[((.arg 0),[.own 58 9, .v, .v, .v])],outs:=[((.arg 0),[.own 58 9, .v, .v, .v])] }),
 (33,{ ps:=[.obj 0, .v, .v],objs:=[((.arg 0),[.own 58 9, .v, .v, .v])],outs:=[((.arg 0),[.own 58 9, .v, .v, .v])] }),
 (39,{ ps:=[.obj 0, .v, .v],objs:=[((.arg 0),[.own 58 9, .v, .v, .v])],outs:=[((.arg 0),[.own 58 9, .v, .v, .v])] }),
 (49,{ ps:=[.obj 0, .v, .v],objs:=[((.arg 0),[.own 58 9, .v, .v, .v])],outs:=[((.arg 0),[.own 58 9, .v, .v, .v])] })]
def kL:List (Nat×List Nat):=[]
def C (mx:Int):cS:=FV kK n7 n8 sx kL (fun g=>bif Nat.beq g 0 then some (10, .ag [.u8 20, .u8 0, .b false, .u8 0, .u8 0, .u8 0, .u8 0, .b false, .u8 0, .s []]) else bif Nat.beq g 1 then some (1, .int mx) else none) sy
end eA
namespace R3
open Go Go.Proofs Go.RowKit Go.Shelf
def Gw (B:Nat) (W:World):Nat:=match W.cell? ⟨B,0,none⟩ with | some (.string s)=>s.size | _=>0
theorem zd {B:Nat} {W:World} {s:ByteArray} (h:W.cell? ⟨B,0,none⟩=some (.string s)):Gw B W=s.size:=by unfold Gw;rw [h]
set_option maxRecDepth 100000 in
set_option maxHeartbeats 2000000 in
theorem Ea (n:Nat) (hn:1≤n) (l B:Nat) (idx:ByteArray→Int) (iV:∀ s,idx s=-1∨(0≤idx s∧idx s+1≤s.size))
  (hI:∀ (s:ByteArray) (w:World),s.size≤9223372036854775807→Calls Tryz.prog 58 #[.string s, .string ⟨#[46]⟩] w fun e w'=>e=.returned (.int .i64 (idx s))∧w'=w)
  (J J':ByteArray→World→Prop) (Jx Je:World→Prop)
  (hJ:∀ s W,J s W→W.cell? ⟨B,0,none⟩=some (.string s)∧W.cell? ⟨B+1,0,none⟩=some (.string ⟨#[46]⟩)∧W.cell? ⟨B+2,0,none⟩=some (.int .i64 0)∧s.size≤9223372036854775807)
  (VP:∀ s W,J' s W→W.cell? ⟨B,0,none⟩=some (.string s)∧W.frozen? ⟨B,0,none⟩=false∧W.cell? ⟨B+1,0,none⟩=some (.string ⟨#[46]⟩))
  (hY:∀ s W,J s W→0≤idx s→YieldAt Fence.wide (n - 1) Tryz.prog l #[.string (s.extract 0 (idx s).toNat)] W fun e W'=>(e=.returned (.bool true)∧J' s W')∨(e=.returned (.bool false)∧Jx W'))
  (hS:∀ s W,J' s W→0≤idx s→J (s.extract (idx s+1).toNat s.size) (W.setCell ⟨B,0,none⟩ (.string (s.extract (idx s+1).toNat s.size))))
  (hE:∀ s W,J s W→idx s=-1→YieldAt Fence.wide (n - 1) Tryz.prog l #[.string s] W fun e W'=>(e=.returned (.bool true)∧Je W')∨(e=.returned (.bool false)∧Jx W'))
  (W:World) (s:ByteArray) (h0:J s W) :
  CallsIn Fence.wide n Tryz.prog 137 #[.func (.yield l) #[] #[], .pointer (some ⟨B+1,0,none⟩), .pointer (some ⟨B,0,none⟩), .pointer (some ⟨B+2,0,none⟩)] W fun e W'=>(∃ v,e=.returned v)∧(Je W'∨Jx W'):=by
 refine callsIn_of_wp Tryz.func137 rfl trivial ?_ rfl
 simp only [Tryz.ntmps137,Nat.reduceAdd,Nat.reduceSub,Sx.zC]
 obtain ⟨c1,c3,c4,c5⟩:=hJ s W h0
 gi_wp2
 sA [] (fun wr=>∃ s,J s wr) (fun wr=>Gw B wr)
 case atStart=>exact ⟨s,h0⟩
 case round =>
  obtain ⟨s,hs⟩:=iT
  obtain ⟨c1,c3,c4,c5⟩:=hJ s wr hs
  have hi:=iV s
  rcases hi with hi | ⟨L2,Ry⟩
  ·obtain ⟨fn,tmps,assign,body,hy,hR⟩:=hE s wr hs hi
   gi_wp2_with (refine ⟨trivial,?_⟩;gi_at_call 58;refine (callsIn_wide.2 (hI _ _ c5)).mono ?_;rintro e w' ⟨rfl,hw⟩;rw [hw,hi])
   refine hR.mono ?_
   rintro e W3 (⟨rfl,hk⟩ | ⟨rfl,hk⟩)
   ·gi_wp2
    go_end0
    exact ⟨⟨_,rfl⟩, .inl hk⟩
   ·gi_wp2
    go_end0
    exact ⟨⟨_,rfl⟩, .inr hk⟩
  ·obtain ⟨fn,tmps,assign,body,hy,hR⟩:=hY s wr hs L2
   gi_wp2_with (refine ⟨trivial,?_⟩;gi_at_call 58;refine (callsIn_wide.2 (hI _ _ c5)).mono ?_;rintro e w' ⟨rfl,hw⟩;rw [hw])
   refine hR.mono ?_
   rintro e W3 (⟨rfl,hk⟩ | ⟨rfl,hk⟩)
   ·obtain ⟨d1,d2,d3⟩:=VP s W3 hk
    gi_wp2
    refine ⟨⟨_,hS s W3 hk L2⟩,?_⟩
    have hc:(W3.setCell ⟨B,0,none⟩ (.string (s.extract (idx s+1).toNat s.size))).cell? ⟨B,0,none⟩=some (.string (s.extract (idx s+1).toNat s.size)):=World.cell?_setCell_same' _ _ _ (by rw [d1];rfl)
    rw [zd hc,zd c1]
    simp only [ByteArray.size_extract]
    omega
   ·gi_wp2
    refine bodyPost_ret (results_none rfl _ _ _) rfl ?_
    exact ⟨⟨_,rfl⟩, .inr hk⟩
set_option maxRecDepth 100000
set_option maxHeartbeats 2000000
theorem Eb (n:Nat) (s:ByteArray) (w:World) :
  CallsIn Fence.wide n Tryz.prog 115 #[.string s, .string ⟨#[46]⟩, .int .i64 0] w fun e w'=>e=.returned (.func (.func 137) #[] #[.pointer (some ⟨w.heap.size+1,0,none⟩), .pointer (some ⟨w.heap.size,0,none⟩), .pointer (some ⟨w.heap.size+2,0,none⟩)]) ∧
   w'=((w.alloc (.cells #[.string s] 9)).alloc (.cells #[.string ⟨#[46]⟩] 9)).alloc (.cells #[.int .i64 0] 3):=by
 refine callsIn_of_wp Tryz.func115 rfl trivial ?_ rfl
 simp only [Tryz.ntmps115,Nat.reduceAdd,Nat.reduceSub,Sx.zC]
 gi_wp2
 go_ret
 exact ⟨rfl,rfl⟩
theorem qd (n:Nat) (hn:1≤n) (s:ByteArray) (w:World) :
  CallsIn Fence.wide n Tryz.prog 90 #[.string s, .string ⟨#[46]⟩] w fun e w'=>e=.returned (.func (.func 137) #[] #[.pointer (some ⟨w.heap.size+1,0,none⟩), .pointer (some ⟨w.heap.size,0,none⟩), .pointer (some ⟨w.heap.size+2,0,none⟩)]) ∧
   w'=((w.alloc (.cells #[.string s] 9)).alloc (.cells #[.string ⟨#[46]⟩] 9)).alloc (.cells #[.int .i64 0] 3):=by
 refine callsIn_of_wp Tryz.func90 rfl trivial ?_ rfl
 simp only [Tryz.ntmps90,Nat.reduceAdd,Nat.reduceSub,Sx.zC]
 gi_wp2_with (refine ⟨trivial,?_⟩;gi_at_call 115;refine (Eb _ _ _).mono ?_;rintro e w' ⟨rfl,hw⟩;rw [hw])
 go_ret
 exact ⟨rfl,rfl⟩
def sC (I' Ix:World→Prop) (W:World):Exit→Act→World→Prop
 | .normal,_,W'=>KeepsOthers W W'∧I' W'
 | .ret,_,W'=>KeepsOthers W W'∧Ix W'
 | _,_,_=>False
theorem fO {g:Operand} {p:Tmp} {assign body:Code} {Q:Exit→Act→World→Prop} {a:Act} {w:World} {n:Nat} (h1:1≤n) (h2:1≤n - 1) {B:Nat} (hB:B+2 < w.heap.size)
  (hg:a.eval g=.func (.func 137) #[] #[.pointer (some ⟨B+1,0,none⟩), .pointer (some ⟨B,0,none⟩), .pointer (some ⟨B+2,0,none⟩)])
  (idx:ByteArray→Int) (iV:∀ s,idx s=-1∨(0≤idx s∧idx s+1≤s.size))
  (hI:∀ (s:ByteArray) (w:World),s.size≤9223372036854775807→Calls Tryz.prog 58 #[.string s, .string ⟨#[46]⟩] w fun e w'=>e=.returned (.int .i64 (idx s))∧w'=w)
  (I I':ByteArray→World→Prop) (Ix Ie:World→Prop)
  (AD:∀ (G:World→Prop),(G=Ix∨G=Ie∨∃ s,G=I s∨G=I' s)→∀ (W:World) (l:Nat) (o o':Obj),w.heap.size≤l→W.heap[l]?=some o→o.isCells=false→G W→G (W.putObj l o'))
  (Gx:∀ (s:ByteArray) (W:World) (o:Obj),I s W→I s (W.alloc o))
  (hJ:∀ s W,I s W→W.cell? ⟨B,0,none⟩=some (.string s)∧W.cell? ⟨B+1,0,none⟩=some (.string ⟨#[46]⟩)∧W.cell? ⟨B+2,0,none⟩=some (.int .i64 0)∧s.size≤9223372036854775807)
  (VP:∀ s W,I' s W→W.cell? ⟨B,0,none⟩=some (.string s)∧W.frozen? ⟨B,0,none⟩=false∧W.cell? ⟨B+1,0,none⟩=some (.string ⟨#[46]⟩))
  (hS:∀ s W,I' s W→0≤idx s→I (s.extract (idx s+1).toNat s.size) (W.setCell ⟨B,0,none⟩ (.string (s.extract (idx s+1).toNat s.size))))
  (a₁:ByteArray→Act)
  (Kg:∀ (l:Nat) (x:ByteArray) (W:World) (K:Act→World→Prop),K (a₁ x) W →
   assign.wpIn (Fence.wide.inRound l) (n - 1 - 1) Tryz.prog (Exit.then K (fun _ _ _=>False)) { tmps:=((#[p]:Array Tmp).zip #[.string x]).foldl (fun t (p,v)=>t.setIfInBounds p v) a.tmps,defers:=[] } W)
  (fL:∀ (l:Nat) (s:ByteArray) (W:World),I s W→0≤idx s→body.wpIn (Fence.wide.inRound l) (n - 1 - 1) Tryz.prog (sC (I' s) Ix W) (a₁ (s.extract 0 (idx s).toNat)) W)
  (Rz:∀ (l:Nat) (s:ByteArray) (W:World),I s W→idx s=-1→body.wpIn (Fence.wide.inRound l) (n - 1 - 1) Tryz.prog (sC Ie Ix W) (a₁ s) W)
  (s0:ByteArray) (h0:I s0 w)
  (RA:∀ (D:Nat) (W:World),w.heap.size≤D→Ie W→W.heap[D]?=some (.deferred (some []))→Q .normal { a with defers:={ target:=.collected D,args := #[] } :: a.defers } W)
  (RB:∀ (D:Nat) (W:World),w.heap.size≤D→Ix W→W.heap[D]?=some (.deferred (some []))→Code.ret.wpIn Fence.wide n Tryz.prog Q { a with defers:={ target:=.collected D,args := #[] } :: a.defers } W) :
  (Code.rangeFunc g #[p] assign body).wpIn Fence.wide n Tryz.prog Q a w:=by
 refine wpIn_rangeFunc ?_
 intro fn gC
 obtain ⟨rec,uh⟩:∃ rec:LoopState→Option Code→Loop,rec=fun st pe=>{ state:=st,pending:=pe,fn,tmps:=a.tmps,params := #[p],assign,body,defers:=w.heap.size }:=⟨_,rfl⟩
 obtain ⟨W1,Uc⟩:∃ W1,(w.alloc (.deferred (some []))).alloc (.loop (rec .ready none))=W1:=⟨_,rfl⟩
 have hL1:W1.heap[w.heap.size+1]?=some (.loop (rec .ready none)):=by
  rw [← Uc];have:=World.alloc_heap_new (w.alloc (.deferred (some []))) (.loop (rec .ready none));rwa [World.size_alloc] at this
 have hK1:W1.heap[w.heap.size]?=some (.deferred (some [])):=by
  rw [← Uc];exact (Below.heap_alloc _ _ _ (by simp)).trans (World.alloc_heap_new w _)
 have hI1:I s0 W1:=by rw [← Uc];exact Gx _ _ _ (Gx _ _ _ h0)
 refine ⟨w.heap.size+1,[{ target:=.collected w.heap.size,args := #[] }],W1,{ target:=.fn (.func 137) #[.pointer (some ⟨B+1,0,none⟩), .pointer (some ⟨B,0,none⟩), .pointer (some ⟨B+2,0,none⟩)],args := #[.func (.yield (w.heap.size+1)) #[] #[]] },W1,137,
  #[.func (.yield (w.heap.size+1)) #[] #[]] ++ #[.pointer (some ⟨B+1,0,none⟩), .pointer (some ⟨B,0,none⟩), .pointer (some ⟨B+2,0,none⟩)],W1,?_,?_,?_,?_,fun _=>h1,?_⟩
 ·rw [← Uc,uh];exact run_enterLoop_outer _ _ _ _ _
 ·simp only [resolve,hg]
  simp [go_sem]
 ·intro f' hf';trivial
 ·simp [invoke,go_sem,enters_of Tryz.func137 (by kernel_rfl) rfl]
 ·
  have round:∀ (x:ByteArray) (G G':World→Prop) (W:World),G W→(∀ (l:Nat) (o o':Obj),w.heap.size≤l→W.heap[l]?=some o→o.isCells=false→G (W.putObj l o')) →
    (∀ (W:World) (l:Nat) (o o':Obj),w.heap.size≤l→W.heap[l]?=some o→o.isCells=false→G' W→G' (W.putObj l o')) →
    (∀ W,G W→body.wpIn (Fence.wide.inRound (w.heap.size+1)) (n - 1 - 1) Tryz.prog (sC G' Ix W) (a₁ x) W) →
    W.heap[w.heap.size+1]?=some (.loop (rec .ready none))→W.heap[w.heap.size]?=some (.deferred (some [])) →
    YieldAt Fence.wide (n - 1 - 1) Tryz.prog (w.heap.size+1) #[.string x] W fun e W' =>
     (e=.returned (.bool true)∧G' W'∧W'.heap[w.heap.size+1]?=some (.loop (rec .ready none))∧W'.heap[w.heap.size]?=some (.deferred (some []))) ∨
     (e=.returned (.bool false)∧Ix W'∧W'.heap[w.heap.size+1]?=some (.loop (rec .done (some .ret)))∧W'.heap[w.heap.size]?=some (.deferred (some []))):=by
   intro x G G' W hi RC N9 hb hl hk
   have aM:w.heap.size+1 < W.heap.size:=(Array.getElem?_eq_some_iff.1 hl).1
   have hy:=run_yield (P:=Tryz.prog) (args := #[.string x]) hl (by rw [uh];rfl)
   rw [uh] at hy
   refine ⟨fn,_,assign,body,hy,roundIn_of_wpIn gC (Kg _ x W _ ⟨_,run_beginRound hl (by rw [uh]),?_⟩)⟩
   have Fv:(W.putObj (w.heap.size+1) (.loop { rec .ready none with state:=.busy })).heap[w.heap.size+1]?=some (.loop { rec .ready none with state:=.busy }):=World.putObj_heap_same aM
   have DK:(W.putObj (w.heap.size+1) (.loop { rec .ready none with state:=.busy })).heap[w.heap.size]?=some (.deferred (some [])):=(World.putObj_heap_other (by omega)).trans hk
   refine wpIn_mono (hb _ (RC _ _ _ (by omega) hl rfl)) ?_
   have fin:∀ (jump:Option Code) (W3:World),KeepsOthers (W.putObj (w.heap.size+1) (.loop { rec .ready none with state:=.busy })) W3 →
     (Instr.endRound (w.heap.size+1) jump).run Tryz.prog W3=.ok (.bool jump.isNone) (W3.putObj (w.heap.size+1) (.loop (rec (if jump.isNone then .ready else .done) jump))) ∧
     W3.heap[w.heap.size+1]?=some (.loop { rec .ready none with state:=.busy }) ∧
     (W3.putObj (w.heap.size+1) (.loop (rec (if jump.isNone then .ready else .done) jump))).heap[w.heap.size+1]?=some (.loop (rec (if jump.isNone then .ready else .done) jump)) ∧
     (W3.putObj (w.heap.size+1) (.loop (rec (if jump.isNone then .ready else .done) jump))).heap[w.heap.size]?=some (.deferred (some [])):=fun jump W3 qF=>by
    have EV:=qF.same _ _ Fv rfl
    have:=run_endRound (P:=Tryz.prog) jump EV
    rw [uh] at this ⊢
    exact ⟨this,by rw [uh] at EV;exact EV,World.putObj_heap_same (Array.getElem?_eq_some_iff.1 EV).1,(World.putObj_heap_other (by omega)).trans (qF.same _ _ DK rfl)⟩
   rintro e a3 W3 hp
   cases e with
   | normal =>
    obtain ⟨qF,Oa⟩:=hp
    obtain ⟨hr,EV,VQ,xQ⟩:=fin none W3 qF
    exact ⟨_,_,hr, .inl ⟨rfl,N9 _ _ _ _ (by omega) EV rfl Oa,VQ,xQ⟩⟩
   | ret =>
    obtain ⟨qF,Oa⟩:=hp
    obtain ⟨hr,EV,VQ,xQ⟩:=fin (some .ret) W3 qF
    exact ⟨_,_,hr, .inr ⟨rfl,AD Ix (.inl rfl) _ _ _ _ (by omega) EV rfl Oa,VQ,xQ⟩⟩
   | exit id=>exact hp.elim
   | goto t=>exact hp.elim
   | panic ch=>exact hp.elim
   | outgrown=>exact hp.elim
  refine (Ea (n - 1) h2 (w.heap.size+1) B idx iV hI
   (fun s W=>I s W∧W.heap[w.heap.size+1]?=some (.loop (rec .ready none))∧W.heap[w.heap.size]?=some (.deferred (some [])))
   (fun s W=>I' s W∧W.heap[w.heap.size+1]?=some (.loop (rec .ready none))∧W.heap[w.heap.size]?=some (.deferred (some [])))
   (fun W=>Ix W∧W.heap[w.heap.size+1]?=some (.loop (rec .done (some .ret)))∧W.heap[w.heap.size]?=some (.deferred (some [])))
   (fun W=>Ie W∧W.heap[w.heap.size+1]?=some (.loop (rec .ready none))∧W.heap[w.heap.size]?=some (.deferred (some [])))
   (fun s W h=>hJ s W h.1) (fun s W h=>VP s W h.1) ?_ ?_ ?_ W1 s0 ⟨hI1,hL1,hK1⟩).mono ?_
  ·rintro s W ⟨hi,hl,hk⟩ hx
   exact round _ (I s) (I' s) W hi (fun l o o' q1 q2 q3=>AD _ (.inr (.inr ⟨s, .inl rfl⟩)) W l o o' q1 q2 q3 hi) (AD _ (.inr (.inr ⟨s, .inr rfl⟩))) (fun W hi=>fL _ s W hi hx) hl hk
  ·rintro s W ⟨hi,hl,hk⟩ hx
   refine ⟨hS s W hi hx,?_,?_⟩
   ·rw [Below.heap_setCell _ _ _ _ (by show w.heap.size+1≠B;omega)];exact hl
   ·rw [Below.heap_setCell _ _ _ _ (by show w.heap.size≠B;omega)];exact hk
  ·rintro s W ⟨hi,hl,hk⟩ hx
   exact round _ (I s) Ie W hi (fun l o o' q1 q2 q3=>AD _ (.inr (.inr ⟨s, .inl rfl⟩)) W l o o' q1 q2 q3 hi) (AD _ (.inr (.inl rfl))) (fun W hi=>Rz _ s W hi hx) hl hk
  ·
   rintro e W2 ⟨⟨v,rfl⟩,(⟨hi,hl,hk⟩ | ⟨hi,hl,hk⟩)⟩
   ·exact ⟨none,_,by have:=run_endLoop (P:=Tryz.prog) hl (by rw [uh];simp);rw [uh] at this;exact this,RA _ _ (Nat.le_refl _) (AD _ (.inr (.inl rfl)) _ _ _ _ (by omega) hl rfl hi) ((World.putObj_heap_other (by omega)).trans hk)⟩
   ·exact ⟨some .ret,_,by have:=run_endLoop (P:=Tryz.prog) hl (by rw [uh];simp);rw [uh] at this;exact this,RB _ _ (Nat.le_refl _) (AD _ (.inl rfl) _ _ _ _ (by omega) hl rfl hi) ((World.putObj_heap_other (by omega)).trans hk)⟩
set_option maxRecDepth 100000
set_option maxHeartbeats 4000000
inductive Sp (idx:ByteArray→Int):ByteArray→List ByteArray→Prop
 | last (s:ByteArray) (h:idx s=-1):Sp idx s [s]
 | more (s:ByteArray) (h:0≤idx s) (R:List ByteArray) (hR:Sp idx (s.extract (idx s+1).toNat s.size) R):Sp idx s (s.extract 0 (idx s).toNat :: R)
theorem Sp.total (idx:ByteArray→Int) (iV:∀ s,idx s=-1∨(0≤idx s∧idx s+1≤s.size)) (s:ByteArray):∃ L,Sp idx s L:=by
 generalize hn:s.size=n
 induction n using Nat.strongRecOn generalizing s with
 | _ n ih =>
  rcases iV s with h | ⟨h1,h2⟩
  ·exact ⟨_, .last s h⟩
  ·obtain ⟨R,hR⟩:=ih (s.extract (idx s+1).toNat s.size).size (by simp only [ByteArray.size_extract];omega) _ rfl
   exact ⟨_, .more s h1 R hR⟩
theorem Sp.cons {idx:ByteArray→Int} {s:ByteArray} {L:List ByteArray} (h:Sp idx s L):∃ x L',L=x :: L':=by cases h <;> exact ⟨_,_,rfl⟩
theorem Sp.len {idx:ByteArray→Int} (iV:∀ s,idx s=-1∨(0≤idx s∧idx s+1≤s.size)) {s:ByteArray} {L:List ByteArray} (h:Sp idx s L):L.length≤s.size+1:=by
 induction h with
 | last s h=>simp
 | more s h R hR ih =>
  have:=iV s
  simp only [ByteArray.size_extract] at ih
  simp only [List.length_cons]
  omega
structure bx (N:Nat) (w:World) (root:Bool) (sv:Value) (pre:List ByteArray) (rest:ByteArray) (W:World):Prop where
 below:Below N w W
 size:N+6≤W.heap.size
 r0:W.heap[N]?=some (.cells #[.bool false, .slice none 0 0] 55)
 r1:W.heap[N+1]?=some (.cells #[.bool false] 4)
 wv:W.heap[N+1+1]?=some (.cells #[.bool root,sv] 55)
 bs:W.heap[N+1+1+1]?=some (.cells #[.string rest] 9)
 bp:W.heap[N+1+1+1+1]?=some (.cells #[.string ⟨#[46]⟩] 9)
 bk:W.heap[N+1+1+1+2]?=some (.cells #[.int .i64 0] 3)
 row:W.ownsRow (N+6) 9 1 sv pre.length (pre.map .string)
theorem fe {W:World} {b:Nat} {x:Value} {t:TypeId} (h:W.heap[b]?=some (.cells #[x] t)):W.cell? ⟨b,0,none⟩=some x∧W.frozen? ⟨b,0,none⟩=false:=by simp [World.cell?,World.frozen?,h]
theorem aL {W:World} {b:Nat} {x y:Value} {t:TypeId} (h:W.heap[b]?=some (.cells #[x,y] t)):W.cell? ⟨b,0,none⟩=some x∧W.cell? ⟨b,1,none⟩=some y∧W.frozen? ⟨b,0,none⟩=false∧W.frozen? ⟨b,1,none⟩=false:=by simp [World.cell?,World.frozen?,h]
theorem bq {w:World} {o:Obj} {i:Nat} (h:i=w.heap.size):(w.alloc o).heap[i]?=some o:=by subst h;exact World.alloc_heap_new w o
theorem ay {w:World} {o:Obj} {i:Nat} (h:i < w.heap.size):(w.alloc o).heap[i]?=w.heap[i]?:=Below.heap_alloc w o i h
theorem iW {W:World} {base:Nat} {e:TypeId} {size:Nat} {v:Value} {k:Nat} {xs:List Value} (h:W.ownsRow base e size v k xs) {j:Nat} (hj:v.ownBlock=some j):base≤j∧∃ o:Obj,W.heap[j]?=some o∧o.isCells=true:=by
 rcases h.2 with ⟨rfl,_⟩ | ⟨g,cap,cur,rfl,hb,hgb,_⟩
 ·simp [Value.ownBlock] at hj
 ·obtain rfl:g=j:=by simpa [Value.ownBlock] using hj
  exact ⟨hb,_,hgb,rfl⟩
theorem an {W:World} {b k:Nat} {i:Nat} {v:Value} (h:k≠b):(W.setCell ⟨b,i,none⟩ v).heap[k]?=W.heap[k]?:=Below.heap_setCell W _ v k h
theorem dM (W:World) (b i:Nat) (v:Value):W.grownBy (W.setCell ⟨b,i,none⟩ v) (some b) :=
 ⟨rfl,rfl,rfl,(KeepsWalks.setCell W _ v).size,fun k _ hk=>an (fun e=>hk (by rw [e]))⟩
theorem mZ {W:World} {b:Nat} {x y:Value} {t:TypeId} (v:Value) (h:W.heap[b]?=some (.cells #[x,y] t)):(W.setCell ⟨b,1,none⟩ v).heap[b]?=some (.cells #[x,v] t):=by
 obtain ⟨aM,hk⟩:=Array.getElem?_eq_some_iff.1 h
 show (W.heap.modify b _)[b]?=_
 rw [Array.getElem?_eq_getElem (by rw [Array.size_modify];exact aM),Array.getElem_modify_self,hk]
 rfl
theorem n9 {W:World} {b:Nat} {x:Value} {t:TypeId} (v:Value) (h:W.heap[b]?=some (.cells #[x] t)):(W.setCell ⟨b,0,none⟩ v).heap[b]?=some (.cells #[v] t):=by
 obtain ⟨aM,hk⟩:=Array.getElem?_eq_some_iff.1 h
 show (W.heap.modify b _)[b]?=_
 rw [Array.getElem?_eq_getElem (by rw [Array.size_modify];exact aM),Array.getElem_modify_self,hk]
 rfl
theorem bz (W:World) (a:Addr) (v:Value):(W.setCell a v).heap.size=W.heap.size:=by show (W.heap.modify _ _).size=_;rw [Array.size_modify]
theorem bx.appended {N:Nat} {w:World} {root:Bool} {sv:Value} {pre:List ByteArray} {rest:ByteArray} {W w1:World} (hm:bx N w root sv pre rest W) {tmp:Obj} {v':Value} {x:ByteArray}
  (et:w1.ownsRow (N+6) 9 1 v' (pre.length+1) (pre.map .string ++ [.string x])) (eN:(W.alloc tmp).grownBy w1 sv.ownBlock) :
  w1.heap[N+1+1]?=some (.cells #[.bool root,sv] 55)∧KeepsOthers W (w1.setCell ⟨N+1+1,1,none⟩ v')∧bx N w root v' (pre ++ [x]) rest (w1.setCell ⟨N+1+1,1,none⟩ v'):=by
 have old:∀ k,k < N+6→w1.heap[k]?=W.heap[k]?:=fun k hk=>by
  have cg:=hm.size
  rw [eN.block k (by simp;omega) (fun e=>by have:=(iW hm.row e.symm).1;omega)]
  exact ay (by omega)
 have Gy:∀ k,k < N+6→k≠N+1+1→(w1.setCell ⟨N+1+1,1,none⟩ v').heap[k]?=W.heap[k]?:=fun k hk aY=>(an aY).trans (old k hk)
 have YA:w1.heap[N+1+1]?=some (.cells #[.bool root,sv] 55):=(old _ (by omega)).trans hm.wv
 refine ⟨YA,?_,?_⟩
 ·refine ((KeepsOthers.alloc W tmp).trans (KeepsOthers.of_grownBy eN fun j o ej hj=>?_)).trans (KeepsOthers.setCell _ _ _)
  obtain ⟨_,o',h1,h2⟩:=iW (hm.row.alloc tmp) ej
  rw [h1] at hj;cases hj;exact h2
 ·have hb:Below N W (w1.setCell ⟨N+1+1,1,none⟩ v'):=by
   refine (((Below.refl N W).alloc (by have:=hm.size;omega) tmp).grown eN (by simp;have:=hm.size;omega) fun j ej=>?_).setCell (p:=⟨N+1+1,1,none⟩) (by show N≤N+1+1;omega) v'
   have:=(iW hm.row ej).1;omega
  exact {
   below:=hm.below.trans hb
   size:=by have:=hm.size;have:=hb.size;omega
   r0:=(Gy _ (by omega) (by omega)).trans hm.r0
   r1:=(Gy _ (by omega) (by omega)).trans hm.r1
   wv:=mZ v' YA
   bs:=(Gy _ (by omega) (by omega)).trans hm.bs
   bp:=(Gy _ (by omega) (by omega)).trans hm.bp
   bk:=(Gy _ (by omega) (by omega)).trans hm.bk
   row:=by
    have:=et.kept (dM w1 (N+1+1) 1 v') (.inr fun e=>by have:=(iW et e).1;omega)
    simpa using this }
theorem bx.dT {N:Nat} {w W:World} (hb:Below N w W) {l:Nat} {o:Obj} (o':Obj) (hl:N≤l) (jB:W.heap[l]?=some o):Below N w (W.putObj l o') :=
 hb.trans ((Below.refl N W).grown (grownBy_putObj' W l o') (by have:=(Array.getElem?_eq_some_iff.1 jB).1;omega) fun j ej=>by cases ej;exact hl)
theorem bx.put {N:Nat} {w:World} {root:Bool} {sv:Value} {pre:List ByteArray} {rest:ByteArray} {W:World} (hm:bx N w root sv pre rest W) {l:Nat} {o:Obj} (o':Obj) (hl:N+6≤l) (jB:W.heap[l]?=some o) (Kh:o.isCells=false):bx N w root sv pre rest (W.putObj l o') where
 below:=bx.dT hm.below o' (by omega) jB
 size:=by simpa using hm.size
 r0:=(World.putObj_heap_other (by omega)).trans hm.r0
 r1:=(World.putObj_heap_other (by omega)).trans hm.r1
 wv:=(World.putObj_heap_other (by omega)).trans hm.wv
 bs:=(World.putObj_heap_other (by omega)).trans hm.bs
 bp:=(World.putObj_heap_other (by omega)).trans hm.bp
 bk:=(World.putObj_heap_other (by omega)).trans hm.bk
 row:=ownsRow_putObj hm.row o' jB Kh
theorem bx.alloc {N:Nat} {w:World} {root:Bool} {sv:Value} {pre:List ByteArray} {rest:ByteArray} {W:World} (hm:bx N w root sv pre rest W) (o:Obj):bx N w root sv pre rest (W.alloc o) where
 below:=hm.below.alloc (by have:=hm.size;omega) _
 size:=by have:=hm.size;simp;omega
 r0:=(ay (by have:=hm.size;omega)).trans hm.r0
 r1:=(ay (by have:=hm.size;omega)).trans hm.r1
 wv:=(ay (by have:=hm.size;omega)).trans hm.wv
 bs:=(ay (by have:=hm.size;omega)).trans hm.bs
 bp:=(ay (by have:=hm.size;omega)).trans hm.bp
 bk:=(ay (by have:=hm.size;omega)).trans hm.bk
 row:=hm.row.alloc o
theorem bx.set {N:Nat} {w:World} {root:Bool} {sv:Value} {pre:List ByteArray} {rest:ByteArray} {W:World} (hm:bx N w root sv pre rest W) (FR:ByteArray):bx N w root sv pre FR (W.setCell ⟨N+1+1+1,0,none⟩ (.string FR)) where
 below:=hm.below.trans ((Below.refl N W).setCell (p:=⟨N+1+1+1,0,none⟩) (by show N≤N+1+1+1;omega) _)
 size:=by rw [bz];exact hm.size
 r0:=(an (by omega)).trans hm.r0
 r1:=(an (by omega)).trans hm.r1
 wv:=(an (by omega)).trans hm.wv
 bs:=n9 _ hm.bs
 bp:=(an (by omega)).trans hm.bp
 bk:=(an (by omega)).trans hm.bk
 row:=hm.row.kept (dM W (N+1+1+1) 0 _) (.inr fun e=>by have:=(iW hm.row e).1;omega)
theorem bA {W:World} {b:Nat} {x y:Value} {t:TypeId} (u v:Value) (h:W.heap[b]?=some (.cells #[x,y] t)):((W.setCell ⟨b,0,none⟩ u).setCell ⟨b,1,none⟩ v).heap[b]?=some (.cells #[u,v] t):=by
 refine mZ v (x:=u) (y:=y) ?_
 obtain ⟨aM,hk⟩:=Array.getElem?_eq_some_iff.1 h
 show (W.heap.modify b _)[b]?=_
 rw [Array.getElem?_eq_getElem (by rw [Array.size_modify];exact aM),Array.getElem_modify_self,hk]
 rfl
theorem bx.failed {N:Nat} {w:World} {root:Bool} {sv:Value} {pre:List ByteArray} {rest:ByteArray} {W:World} (hm:bx N w root sv pre rest W) {A:Prop} (hA:A) :
  KeepsOthers W (((W.setCell ⟨N,0,none⟩ (.bool false)).setCell ⟨N,1,none⟩ (.slice none 0 0)).setCell ⟨N+1,0,none⟩ (.bool false))∧A∧Below N w (((W.setCell ⟨N,0,none⟩ (.bool false)).setCell ⟨N,1,none⟩ (.slice none 0 0)).setCell ⟨N+1,0,none⟩ (.bool false)) ∧
   (((W.setCell ⟨N,0,none⟩ (.bool false)).setCell ⟨N,1,none⟩ (.slice none 0 0)).setCell ⟨N+1,0,none⟩ (.bool false)).heap[N]?=some (.cells #[.bool false, .slice none 0 0] 55) ∧
   (((W.setCell ⟨N,0,none⟩ (.bool false)).setCell ⟨N,1,none⟩ (.slice none 0 0)).setCell ⟨N+1,0,none⟩ (.bool false)).heap[N+1]?=some (.cells #[.bool false] 4) :=
 ⟨((KeepsOthers.setCell _ _ _).trans (KeepsOthers.setCell _ _ _)).trans (KeepsOthers.setCell _ _ _),hA,
  hm.below.trans ((((Below.refl N W).setCell (p:=⟨N,0,none⟩) (Nat.le_refl _) _).setCell (p:=⟨N,1,none⟩) (Nat.le_refl _) _).setCell (p:=⟨N+1,0,none⟩) (by show N≤N+1;omega) _),
  (an (by omega)).trans (bA _ _ hm.r0),n9 _ ((an (by omega)).trans ((an (by omega)).trans hm.r1))⟩
theorem bx.stored {N:Nat} {w:World} {root:Bool} {sv:Value} {pre:List ByteArray} {rest:ByteArray} {W:World} (hm:bx N w root sv pre rest W) (u v b:Value) :
  KeepsOthers W (((W.setCell ⟨N,0,none⟩ u).setCell ⟨N,1,none⟩ v).setCell ⟨N+1,0,none⟩ b)∧Below N w (((W.setCell ⟨N,0,none⟩ u).setCell ⟨N,1,none⟩ v).setCell ⟨N+1,0,none⟩ b) ∧
   (((W.setCell ⟨N,0,none⟩ u).setCell ⟨N,1,none⟩ v).setCell ⟨N+1,0,none⟩ b).heap[N]?=some (.cells #[u,v] 55) ∧
   (((W.setCell ⟨N,0,none⟩ u).setCell ⟨N,1,none⟩ v).setCell ⟨N+1,0,none⟩ b).heap[N+1]?=some (.cells #[b] 4) ∧
   (((W.setCell ⟨N,0,none⟩ u).setCell ⟨N,1,none⟩ v).setCell ⟨N+1,0,none⟩ b).ownsRow (N+6) 9 1 sv pre.length (pre.map .string):=by
 have aY:∀ k,k < N+6→some k≠sv.ownBlock:=fun k hk e=>by have:=(iW hm.row e.symm).1;omega
 exact ⟨((KeepsOthers.setCell _ _ _).trans (KeepsOthers.setCell _ _ _)).trans (KeepsOthers.setCell _ _ _),
  hm.below.trans ((((Below.refl N W).setCell (p:=⟨N,0,none⟩) (Nat.le_refl _) _).setCell (p:=⟨N,1,none⟩) (Nat.le_refl _) _).setCell (p:=⟨N+1,0,none⟩) (by show N≤N+1;omega) _),
  (an (by omega)).trans (bA _ _ hm.r0),n9 _ ((an (by omega)).trans ((an (by omega)).trans hm.r1)),
  ((hm.row.kept (dM W N 0 u) (.inr (aY N (by omega)).symm)).kept (dM _ N 1 v) (.inr (aY N (by omega)).symm)).kept (dM _ (N+1) 0 b) (.inr (aY (N+1) (by omega)).symm)⟩
theorem kM {W:World} {base Mh:Nat} {e:TypeId} {size:Nat} {v:Value} {k:Nat} {xs:List Value} (h:W.ownsRow base e size v k xs) (hb:Mh≤base):W.ownsRow Mh e size v k xs:=by
 refine ⟨h.1,?_⟩
 rcases h.2 with q | ⟨g,cap,cur,q1,q2,q3⟩
 ·exact .inl q
 ·exact .inr ⟨g,cap,cur,q1,Nat.le_trans hb q2,q3⟩
theorem results27 (T:Array Value) (W:World) (N:Nat) (x y b:Value) (t2:T[2]?.getD undef=.pointer (some ⟨N,0,none⟩)) (t3:T[3]?.getD undef=.pointer (some ⟨N+1,0,none⟩))
  (h0:W.heap[N]?=some (.cells #[x,y] 55)) (h1:W.heap[N+1]?=some (.cells #[b] 4)) :
  (results Tryz.f73 T).run Tryz.prog W=.ok (.tuple #[.agg #[x,y],b]) W:=by
 have hr:Tryz.f73.results = #[.cell 2 55, .cell 3 4]:=by kernel_rfl
 have l1:(loadVar 55 ⟨N,0,none⟩).run Tryz.prog W=.ok (.agg #[x,y]) W:=by
  simp [loadVar,go_sem,(aL h0).1,(aL h0).2.1,Result.andThen]
 have l2:(loadVar 4 ⟨N+1,0,none⟩).run Tryz.prog W=.ok b W:=by
  simp [loadVar,go_sem,(fe h1).1]
 unfold results
 rw [hr]
 simp [t2,t3,Sem.run_bind,asAddr,l1,l2,Result.andThen]
theorem ze:(Tryz.prog.info? 9).map (fun i=>(i.zero,i.size,i.bytes))=some (some (.string ⟨#[]⟩),1,16):=by kernel_rfl
def Cj (idx:ByteArray→Int) (nm Ob:ByteArray→Bool) (N:Nat) (s:ByteArray) (v:Value) (W:World):Prop :=
 ((s.toList == [46])=true∧v=.tuple #[.agg #[.bool false, .slice none 0 0], .bool true]) ∨
 ((s.toList == [46])=false∧(s.toList == [36])=true∧v=.tuple #[.agg #[.bool true, .slice none 0 0], .bool true]) ∨
 ((s.toList == [46])=false∧(s.toList == [36])=false∧∃ L,Sp idx (if Ob s then s.extract 2 s.size else s) L ∧
  (((L.all nm=false∨8 < L.length)∧v=.tuple #[.agg #[.bool false, .slice none 0 0], .bool false]) ∨
   (L.all nm=true∧L.length≤8∧∃ sv,v=.tuple #[.agg #[.bool (Ob s),sv], .bool true]∧W.ownsRow N 9 1 sv L.length (L.map .string))))
theorem Oc (n:Nat) (hn:4≤n) (idx:ByteArray→Int) (nm Ob:ByteArray→Bool) (VR:∀ s,Ob s=true→2≤s.size) (iV:∀ s,idx s=-1∨(0≤idx s∧idx s+1≤s.size))
  (hP:∀ (s:ByteArray) (w:World),Calls Tryz.prog 42 #[.string s, .string ⟨#[36,46]⟩] w fun e w'=>e=.returned (.bool (Ob s))∧w'=w)
  (hI:∀ (s:ByteArray) (w:World),s.size≤9223372036854775807→Calls Tryz.prog 58 #[.string s, .string ⟨#[46]⟩] w fun e w'=>e=.returned (.int .i64 (idx s))∧w'=w)
  (hN:∀ (s:ByteArray) (w:World),s.size≤9223372036854775807→Calls Tryz.prog 91 #[.string s] w fun e w'=>e=.returned (.bool (nm s))∧w'=w)
  (s:ByteArray) (hs:s.size≤1000000000) (w:World) :
  CallsIn Fence.wide n Tryz.prog 73 #[.string s] w fun e w'=>∃ v,e=.returned v∧Below w.heap.size w w'∧Cj idx nm Ob w.heap.size s v w':=by
 have h1:1≤n - 1:=by omega
 have h0:1≤n:=by omega
 have h2:1≤n - 1 - 1:=by omega
 refine callsIn_of_wp_marks Tryz.func73 rfl trivial ?_ rfl
 simp only [Tryz.ntmps73,Nat.reduceAdd,Nat.reduceSub,Sx.zC]
 cases hx:Ob s with
 | false =>
  gi_wp2_with (first | (refine ⟨trivial,?_⟩;gi_at_call 42;refine (callsIn_wide.2 (hP _ _)).mono ?_;rintro e w' ⟨rfl,hw⟩;rw [hw,hx]) | (refine ⟨trivial,?_⟩;gi_at_call 90;refine (qd _ h1 _ _).mono ?_;rintro e w' ⟨rfl,hw⟩;rw [hw]))
  ·refine ⟨_,results27 _ _ w.heap.size (.bool false) (.slice none 0 0) (.bool true) rfl rfl ?_ ?_,_,rfl,?_, .inl ⟨by assumption,rfl⟩⟩
   ·((try simp only [World.size_alloc]);repeat (first | exact bq (by first | (simp only [World.size_alloc];done) | (simp only [World.size_alloc];omega) | omega) | rw [ay (by simp only [World.size_alloc];omega)]))
   ·((try simp only [World.size_alloc]);repeat (first | exact bq (by first | (simp only [World.size_alloc];done) | (simp only [World.size_alloc];omega) | omega) | rw [ay (by simp only [World.size_alloc];omega)]))
   ·exact (((Below.refl _ w).alloc (Nat.le_refl _) _).alloc (by simp) _).alloc (by simp;omega) _
  ·refine ⟨_,results27 _ _ w.heap.size (.bool true) (.slice none 0 0) (.bool true) rfl rfl ?_ ?_,_,rfl,?_, .inr (.inl ⟨by assumption,by assumption,rfl⟩)⟩
   ·((try simp only [World.size_alloc]);repeat (first | exact bq (by first | (simp only [World.size_alloc];done) | (simp only [World.size_alloc];omega) | omega) | rw [ay (by simp only [World.size_alloc];omega)]))
   ·((try simp only [World.size_alloc]);repeat (first | exact bq (by first | (simp only [World.size_alloc];done) | (simp only [World.size_alloc];omega) | omega) | rw [ay (by simp only [World.size_alloc];omega)]))
   ·exact (((Below.refl _ w).alloc (Nat.le_refl _) _).alloc (by simp) _).alloc (by simp;omega) _
  ·obtain ⟨L,Ec⟩:=Sp.total idx iV s
   have Qj:=Ec.len iV
   refine fO h0 h1 (B:=w.heap.size+1+1+1) (by simp) rfl idx iV hI
    (fun s W=>∃ pre R sv,L=pre ++ R∧Sp idx s R∧pre.all nm=true∧s.size≤1000000000∧bx w.heap.size w false sv pre s W)
    (fun s W=>∃ pre R sv,L=pre ++ R∧(0≤idx s→Sp idx (s.extract (idx s+1).toNat s.size) R)∧pre.all nm=true∧s.size≤1000000000∧bx w.heap.size w false sv pre s W)
    (fun W=>L.all nm=false∧Below w.heap.size w W∧W.heap[w.heap.size]?=some (.cells #[.bool false, .slice none 0 0] 55)∧W.heap[w.heap.size+1]?=some (.cells #[.bool false] 4))
    (fun W=>L.all nm=true∧∃ sv rest,bx w.heap.size w false sv L rest W)
    ?put ?alloc ?J ?J' ?S
    (fun x=>{ tmps := #[.string s,undef, .pointer (some ⟨w.heap.size,0,none⟩), .pointer (some ⟨w.heap.size+1,0,none⟩), .pointer (some ⟨w.heap.size+1+1,0,none⟩), .string x, .bool false, .string s, .bool false,undef, .bool false, .string s, .bool false,undef, .bool false,
     .string s, .bool false,undef,undef,undef, .string s, .func (.func 137) #[] #[.pointer (some ⟨w.heap.size+1+1+1+1,0,none⟩), .pointer (some ⟨w.heap.size+1+1+1,0,none⟩), .pointer (some ⟨w.heap.size+1+1+1+2,0,none⟩)], .string x,
     undef,undef,undef,undef,undef,undef,undef,undef,undef,undef,undef,undef,undef,undef,undef,undef],defers:=[] })
    ?assign ?body ?lst s ?start ?done ?stop
   case assign =>
    intro l x W K hK
    have Gz:=@Oper.semAt_some
    gi_wp2
    exact hK
   case body =>
    rintro l s W ⟨pre,R,sv,hL,Od,bP,cg,hm⟩ hi
    have Gz:=@Oper.semAt_some
    obtain ⟨v1,v2,v3,v4⟩:=aL hm.wv
    obtain ⟨r1,r2,r3,r4⟩:=aL hm.r0
    obtain ⟨q1,q2⟩:=fe hm.r1
    have hlen:pre.length≤1000000001:=by rw [hL,List.length_append] at Qj;omega
    have GA:(s.extract 0 (idx s).toNat).size≤9223372036854775807:=by simp only [ByteArray.size_extract];omega
    obtain ⟨R',rfl,VS⟩:∃ R',R=s.extract 0 (idx s).toNat :: R'∧Sp idx (s.extract (idx s+1).toNat s.size) R':=by
     cases Od with
     | last _ h=>omega
     | more _ h R hR=>exact ⟨R,rfl,hR⟩
    cases hx:nm (s.extract 0 (idx s).toNat) with
    | false =>
     gi_wp2_with (refine ⟨trivial,?_⟩;gi_at_call 91;refine (CallsIn.inRound l (callsIn_wide.2 (hN _ _ GA))).mono ?_;rintro e w' ⟨rfl,hw⟩;rw [hw,hx])
     exact hm.failed (by rw [hL];simp [hx])
    | true =>
     obtain ⟨i0,nx,ny,jv,lU⟩:=info_parts ze
     have di:=hm.row
     gi_wp2_with (first
      | (refine ⟨trivial,?_⟩;gi_at_call 91;refine (CallsIn.inRound l (callsIn_wide.2 (hN _ _ GA))).mono ?_;rintro e w' ⟨rfl,hw⟩;rw [hw,hx])
      | (dz;refine wpListIn_append_own _ rfl _ _ 53 rfl (w.heap.size+6) 9 i0 (.string ⟨#[]⟩) 1 16 Tryz.underlying53 nx ny jv lU rfl (by decide) _ _ _ rfl (di.alloc _) ⟨W.heap.size,0,none⟩ 1 1 [.string (s.extract 0 (idx s).toNat)] rfl rfl (cell_one_new _ _ _) (by simp [Value.oneCell']) (by have:maxLen=9223372036854775807:=rfl;omega) (by omega) (by have:=hm.size;simp;omega) ?_;intro v' w1 et eN _;obtain ⟨g',qy,rfl⟩:=ownsRow_succ et;obtain ⟨AE,tZ,Ki⟩:=hm.appended et eN;obtain ⟨y1,y2,y3,y4⟩:=aL AE))
     exact ⟨tZ,pre ++ [s.extract 0 (idx s).toNat],R',_,by rw [hL];simp,fun _=>VS,by simp [bP,hx],cg,Ki⟩
   case lst =>
    rintro l s W ⟨pre,R,sv,hL,Od,bP,cg,hm⟩ hi
    have Gz:=@Oper.semAt_some
    obtain ⟨v1,v2,v3,v4⟩:=aL hm.wv
    obtain ⟨r1,r2,r3,r4⟩:=aL hm.r0
    obtain ⟨q1,q2⟩:=fe hm.r1
    have hlen:pre.length≤1000000001:=by rw [hL,List.length_append] at Qj;omega
    have GA:s.size≤9223372036854775807:=by omega
    obtain rfl:R=[s]:=by
     cases Od with
     | last _ h=>rfl
     | more _ h R hR=>omega
    cases hx:nm s with
    | false =>
     gi_wp2_with (refine ⟨trivial,?_⟩;gi_at_call 91;refine (CallsIn.inRound l (callsIn_wide.2 (hN _ _ GA))).mono ?_;rintro e w' ⟨rfl,hw⟩;rw [hw,hx])
     exact hm.failed (by rw [hL];simp [hx])
    | true =>
     obtain ⟨i0,nx,ny,jv,lU⟩:=info_parts ze
     have di:=hm.row
     gi_wp2_with (first
      | (refine ⟨trivial,?_⟩;gi_at_call 91;refine (CallsIn.inRound l (callsIn_wide.2 (hN _ _ GA))).mono ?_;rintro e w' ⟨rfl,hw⟩;rw [hw,hx])
      | (dz;refine wpListIn_append_own _ rfl _ _ 53 rfl (w.heap.size+6) 9 i0 (.string ⟨#[]⟩) 1 16 Tryz.underlying53 nx ny jv lU rfl (by decide) _ _ _ rfl (di.alloc _) ⟨W.heap.size,0,none⟩ 1 1 [.string s] rfl rfl (cell_one_new _ _ _) (by simp [Value.oneCell']) (by have:maxLen=9223372036854775807:=rfl;omega) (by omega) (by have:=hm.size;simp;omega) ?_;intro v' w1 et eN _;obtain ⟨g',qy,rfl⟩:=ownsRow_succ et;obtain ⟨AE,tZ,Ki⟩:=hm.appended et eN;obtain ⟨y1,y2,y3,y4⟩:=aL AE))
     exact ⟨tZ,by rw [hL];simp [bP,hx],_,_,by rw [hL];exact Ki⟩
   case put =>
    rintro G hG W l o o' hl jB Kh hg
    rcases hG with rfl | rfl | ⟨s,rfl | rfl⟩
    ·obtain ⟨g1,g2,g3,g4⟩:=hg
     exact ⟨g1,bx.dT g2 o' (by simp at hl;omega) jB,(World.putObj_heap_other (by simp at hl;omega)).trans g3,(World.putObj_heap_other (by simp at hl;omega)).trans g4⟩
    ·obtain ⟨g1,sv,rest,hm⟩:=hg
     exact ⟨g1,sv,rest,hm.put o' (by simp at hl;omega) jB Kh⟩
    ·obtain ⟨pre,R,sv,g1,g2,g3,g4,hm⟩:=hg
     exact ⟨pre,R,sv,g1,g2,g3,g4,hm.put o' (by simp at hl;omega) jB Kh⟩
    ·obtain ⟨pre,R,sv,g1,g2,g3,g4,hm⟩:=hg
     exact ⟨pre,R,sv,g1,g2,g3,g4,hm.put o' (by simp at hl;omega) jB Kh⟩
   case alloc =>
    rintro s W o ⟨pre,R,sv,g1,g2,g3,g4,hm⟩
    exact ⟨pre,R,sv,g1,g2,g3,g4,hm.alloc o⟩
   case J =>
    rintro s W ⟨pre,R,sv,g1,g2,g3,g4,hm⟩
    exact ⟨(fe hm.bs).1,(fe hm.bp).1,(fe hm.bk).1,by omega⟩
   case J' =>
    rintro s W ⟨pre,R,sv,g1,g2,g3,g4,hm⟩
    exact ⟨(fe hm.bs).1,(fe hm.bs).2,(fe hm.bp).1⟩
   case S =>
    rintro s W ⟨pre,R,sv,g1,g2,g3,g4,hm⟩ hi
    exact ⟨pre,R,sv,g1,g2 hi,g3,by simp only [ByteArray.size_extract];omega,hm.set _⟩
   case start =>
    refine ⟨[],L, .slice none 0 0,rfl,Ec,rfl,hs,?_⟩
    exact {
     below:=((((((Below.refl _ w).alloc (Nat.le_refl _) _).alloc (by simp) _).alloc (by simp;omega) _).alloc (by simp;omega) _).alloc (by simp;omega) _).alloc (by simp;omega) _
     size:=by simp
     r0:=by ((try simp only [World.size_alloc]);repeat (first | exact bq (by first | (simp only [World.size_alloc];done) | (simp only [World.size_alloc];omega) | omega) | rw [ay (by simp only [World.size_alloc];omega)]))
     r1:=by ((try simp only [World.size_alloc]);repeat (first | exact bq (by first | (simp only [World.size_alloc];done) | (simp only [World.size_alloc];omega) | omega) | rw [ay (by simp only [World.size_alloc];omega)]))
     wv:=by ((try simp only [World.size_alloc]);repeat (first | exact bq (by first | (simp only [World.size_alloc];done) | (simp only [World.size_alloc];omega) | omega) | rw [ay (by simp only [World.size_alloc];omega)]))
     bs:=by ((try simp only [World.size_alloc]);repeat (first | exact bq (by first | (simp only [World.size_alloc];done) | (simp only [World.size_alloc];omega) | omega) | rw [ay (by simp only [World.size_alloc];omega)]))
     bp:=by ((try simp only [World.size_alloc]);repeat (first | exact bq (by first | (simp only [World.size_alloc];done) | (simp only [World.size_alloc];omega) | omega) | rw [ay (by simp only [World.size_alloc];omega)]))
     bk:=by ((try simp only [World.size_alloc]);repeat (first | exact bq (by first | (simp only [World.size_alloc];done) | (simp only [World.size_alloc];omega) | omega) | rw [ay (by simp only [World.size_alloc];omega)]))
     row:=World.ownsRow_nil _ _ _ _ }
   case done =>
    rintro D W hD ⟨bP,sv,rest,hm⟩ hk
    obtain ⟨v1,v2,v3,v4⟩:=aL hm.wv
    obtain ⟨r1,r2,r3,r4⟩:=aL hm.r0
    obtain ⟨q1,q2⟩:=fe hm.r1
    have di:=hm.row
    obtain ⟨x0,L',rfl⟩:=Ec.cons
    simp only [List.length_cons] at di
    obtain ⟨g,cap,rfl⟩:=ownsRow_succ di
    gi_wp2
    ·obtain ⟨ko,kb,k0,k1,_⟩:=hm.stored (.bool false) (.slice none 0 0) (.bool false)
     refine ⟨by simp, .inl ⟨_,_,rfl,run_takeDeferred (ko.same D _ hk rfl),?_⟩⟩
     exact ⟨_,results27 _ _ w.heap.size (.bool false) (.slice none 0 0) (.bool false) rfl rfl ((World.putObj_heap_other (by simp at hD;omega)).trans k0) ((World.putObj_heap_other (by simp at hD;omega)).trans k1),_,rfl,bx.dT kb _ (by simp at hD;omega) (ko.same D _ hk rfl), .inr (.inr ⟨by assumption,by assumption,x0 :: L',by rw [hx];exact Ec, .inl ⟨.inr (by simp only [List.length_cons];omega),rfl⟩⟩)⟩
    ·obtain ⟨ko,kb,k0,k1,kr⟩:=hm.stored (.bool false) (.slice (some ⟨g,0,none⟩) (L'.length+1) cap) (.bool true)
     refine ⟨by simp, .inl ⟨_,_,rfl,run_takeDeferred (ko.same D _ hk rfl),?_⟩⟩
     exact ⟨_,results27 _ _ w.heap.size (.bool false) (.slice (some ⟨g,0,none⟩) (L'.length+1) cap) (.bool true) rfl rfl ((World.putObj_heap_other (by simp at hD;omega)).trans k0) ((World.putObj_heap_other (by simp at hD;omega)).trans k1),_,rfl,bx.dT kb _ (by simp at hD;omega) (ko.same D _ hk rfl), .inr (.inr ⟨by assumption,by assumption,x0 :: L',by rw [hx];exact Ec, .inr ⟨bP,by simp only [List.length_cons];omega,_,by rw [hx],kM (ownsRow_putObj kr _ (ko.same D _ hk rfl) rfl) (by omega)⟩⟩)⟩
   case stop =>
    rintro D W hD ⟨bP,hb,g1,g2⟩ hk
    gi_wp2
    refine ⟨by simp, .inl ⟨_,_,rfl,run_takeDeferred hk,?_⟩⟩
    refine ⟨_,results27 _ _ w.heap.size (.bool false) (.slice none 0 0) (.bool false) rfl rfl ((World.putObj_heap_other (by simp at hD;omega)).trans g1) ((World.putObj_heap_other (by simp at hD;omega)).trans g2),_,rfl,bx.dT hb _ (by simp at hD;omega) hk, .inr (.inr ⟨by assumption,by assumption,L,by rw [hx];exact Ec, .inl ⟨.inl bP,rfl⟩⟩)⟩
 | true =>
  have Vf:=VR s hx
  gi_wp2_with (first | (refine ⟨trivial,?_⟩;gi_at_call 42;refine (callsIn_wide.2 (hP _ _)).mono ?_;rintro e w' ⟨rfl,hw⟩;rw [hw,hx]) | (refine ⟨trivial,?_⟩;gi_at_call 90;refine (qd _ h1 _ _).mono ?_;rintro e w' ⟨rfl,hw⟩;rw [hw]))
  ·refine ⟨_,results27 _ _ w.heap.size (.bool false) (.slice none 0 0) (.bool true) rfl rfl ?_ ?_,_,rfl,?_, .inl ⟨by assumption,rfl⟩⟩
   ·((try simp only [World.size_alloc]);repeat (first | exact bq (by first | (simp only [World.size_alloc];done) | (simp only [World.size_alloc];omega) | omega) | rw [ay (by simp only [World.size_alloc];omega)]))
   ·((try simp only [World.size_alloc]);repeat (first | exact bq (by first | (simp only [World.size_alloc];done) | (simp only [World.size_alloc];omega) | omega) | rw [ay (by simp only [World.size_alloc];omega)]))
   ·exact (((Below.refl _ w).alloc (Nat.le_refl _) _).alloc (by simp) _).alloc (by simp;omega) _
  ·refine ⟨_,results27 _ _ w.heap.size (.bool true) (.slice none 0 0) (.bool true) rfl rfl ?_ ?_,_,rfl,?_, .inr (.inl ⟨by assumption,by assumption,rfl⟩)⟩
   ·((try simp only [World.size_alloc]);repeat (first | exact bq (by first | (simp only [World.size_alloc];done) | (simp only [World.size_alloc];omega) | omega) | rw [ay (by simp only [World.size_alloc];omega)]))
   ·((try simp only [World.size_alloc]);repeat (first | exact bq (by first | (simp only [World.size_alloc];done) | (simp only [World.size_alloc];omega) | omega) | rw [ay (by simp only [World.size_alloc];omega)]))
   ·exact (((Below.refl _ w).alloc (Nat.le_refl _) _).alloc (by simp) _).alloc (by simp;omega) _
  ·obtain ⟨L,Ec⟩:=Sp.total idx iV (s.extract 2 s.size)
   have Qj:=Ec.len iV
   simp only [ByteArray.size_extract] at Qj
   refine fO h0 h1 (B:=w.heap.size+1+1+1) (by simp) rfl idx iV hI
    (fun s W=>∃ pre R sv,L=pre ++ R∧Sp idx s R∧pre.all nm=true∧s.size≤1000000000∧bx w.heap.size w true sv pre s W)
    (fun s W=>∃ pre R sv,L=pre ++ R∧(0≤idx s→Sp idx (s.extract (idx s+1).toNat s.size) R)∧pre.all nm=true∧s.size≤1000000000∧bx w.heap.size w true sv pre s W)
    (fun W=>L.all nm=false∧Below w.heap.size w W∧W.heap[w.heap.size]?=some (.cells #[.bool false, .slice none 0 0] 55)∧W.heap[w.heap.size+1]?=some (.cells #[.bool false] 4))
    (fun W=>L.all nm=true∧∃ sv rest,bx w.heap.size w true sv L rest W)
    ?put2 ?alloc2 ?J2 ?J'2 ?S2
    (fun x=>{ tmps := #[.string (s.extract 2 s.size),undef, .pointer (some ⟨w.heap.size,0,none⟩), .pointer (some ⟨w.heap.size+1,0,none⟩), .pointer (some ⟨w.heap.size+1+1,0,none⟩), .string x, .bool false, .string s, .bool false,undef, .bool false, .string s, .bool false,undef, .bool true,
     .string s, .bool true, .pointer (some ⟨w.heap.size+1+1,0,none⟩), .string s, .string (s.extract 2 s.size), .string (s.extract 2 s.size), .func (.func 137) #[] #[.pointer (some ⟨w.heap.size+1+1+1+1,0,none⟩), .pointer (some ⟨w.heap.size+1+1+1,0,none⟩), .pointer (some ⟨w.heap.size+1+1+1+2,0,none⟩)], .string x,
     undef,undef,undef,undef,undef,undef,undef,undef,undef,undef,undef,undef,undef,undef,undef,undef],defers:=[] })
    ?assign2 ?body2 ?lst2 (s.extract 2 s.size) ?start2 ?done2 ?stop2
   case assign2 =>
    intro l x W K hK
    have Gz:=@Oper.semAt_some
    gi_wp2
    exact hK
   case body2 =>
    rintro l s W ⟨pre,R,sv,hL,Od,bP,cg,hm⟩ hi
    have Gz:=@Oper.semAt_some
    obtain ⟨v1,v2,v3,v4⟩:=aL hm.wv
    obtain ⟨r1,r2,r3,r4⟩:=aL hm.r0
    obtain ⟨q1,q2⟩:=fe hm.r1
    have hlen:pre.length≤1000000001:=by rw [hL,List.length_append] at Qj;omega
    have GA:(s.extract 0 (idx s).toNat).size≤9223372036854775807:=by simp only [ByteArray.size_extract];omega
    obtain ⟨R',rfl,VS⟩:∃ R',R=s.extract 0 (idx s).toNat :: R'∧Sp idx (s.extract (idx s+1).toNat s.size) R':=by
     cases Od with
     | last _ h=>omega
     | more _ h R hR=>exact ⟨R,rfl,hR⟩
    cases hx:nm (s.extract 0 (idx s).toNat) with
    | false =>
     gi_wp2_with (refine ⟨trivial,?_⟩;gi_at_call 91;refine (CallsIn.inRound l (callsIn_wide.2 (hN _ _ GA))).mono ?_;rintro e w' ⟨rfl,hw⟩;rw [hw,hx])
     exact hm.failed (by rw [hL];simp [hx])
    | true =>
     obtain ⟨i0,nx,ny,jv,lU⟩:=info_parts ze
     have di:=hm.row
     gi_wp2_with (first
      | (refine ⟨trivial,?_⟩;gi_at_call 91;refine (CallsIn.inRound l (callsIn_wide.2 (hN _ _ GA))).mono ?_;rintro e w' ⟨rfl,hw⟩;rw [hw,hx])
      | (dz;refine wpListIn_append_own _ rfl _ _ 53 rfl (w.heap.size+6) 9 i0 (.string ⟨#[]⟩) 1 16 Tryz.underlying53 nx ny jv lU rfl (by decide) _ _ _ rfl (di.alloc _) ⟨W.heap.size,0,none⟩ 1 1 [.string (s.extract 0 (idx s).toNat)] rfl rfl (cell_one_new _ _ _) (by simp [Value.oneCell']) (by have:maxLen=9223372036854775807:=rfl;omega) (by omega) (by have:=hm.size;simp;omega) ?_;intro v' w1 et eN _;obtain ⟨g',qy,rfl⟩:=ownsRow_succ et;obtain ⟨AE,tZ,Ki⟩:=hm.appended et eN;obtain ⟨y1,y2,y3,y4⟩:=aL AE))
     exact ⟨tZ,pre ++ [s.extract 0 (idx s).toNat],R',_,by rw [hL];simp,fun _=>VS,by simp [bP,hx],cg,Ki⟩
   case lst2 =>
    rintro l s W ⟨pre,R,sv,hL,Od,bP,cg,hm⟩ hi
    have Gz:=@Oper.semAt_some
    obtain ⟨v1,v2,v3,v4⟩:=aL hm.wv
    obtain ⟨r1,r2,r3,r4⟩:=aL hm.r0
    obtain ⟨q1,q2⟩:=fe hm.r1
    have hlen:pre.length≤1000000001:=by rw [hL,List.length_append] at Qj;omega
    have GA:s.size≤9223372036854775807:=by omega
    obtain rfl:R=[s]:=by
     cases Od with
     | last _ h=>rfl
     | more _ h R hR=>omega
    cases hx:nm s with
    | false =>
     gi_wp2_with (refine ⟨trivial,?_⟩;gi_at_call 91;refine (CallsIn.inRound l (callsIn_wide.2 (hN _ _ GA))).mono ?_;rintro e w' ⟨rfl,hw⟩;rw [hw,hx])
     exact hm.failed (by rw [hL];simp [hx])
    | true =>
     obtain ⟨i0,nx,ny,jv,lU⟩:=info_parts ze
     have di:=hm.row
     gi_wp2_with (first
      | (refine ⟨trivial,?_⟩;gi_at_call 91;refine (CallsIn.inRound l (callsIn_wide.2 (hN _ _ GA))).mono ?_;rintro e w' ⟨rfl,hw⟩;rw [hw,hx])
      | (dz;refine wpListIn_append_own _ rfl _ _ 53 rfl (w.heap.size+6) 9 i0 (.string ⟨#[]⟩) 1 16 Tryz.underlying53 nx ny jv lU rfl (by decide) _ _ _ rfl (di.alloc _) ⟨W.heap.size,0,none⟩ 1 1 [.string s] rfl rfl (cell_one_new _ _ _) (by simp [Value.oneCell']) (by have:maxLen=9223372036854775807:=rfl;omega) (by omega) (by have:=hm.size;simp;omega) ?_;intro v' w1 et eN _;obtain ⟨g',qy,rfl⟩:=ownsRow_succ et;obtain ⟨AE,tZ,Ki⟩:=hm.appended et eN;obtain ⟨y1,y2,y3,y4⟩:=aL AE))
     exact ⟨tZ,by rw [hL];simp [bP,hx],_,_,by rw [hL];exact Ki⟩
   case put2 =>
    rintro G hG W l o o' hl jB Kh hg
    rcases hG with rfl | rfl | ⟨s,rfl | rfl⟩
    ·obtain ⟨g1,g2,g3,g4⟩:=hg
     exact ⟨g1,bx.dT g2 o' (by simp at hl;omega) jB,(World.putObj_heap_other (by simp at hl;omega)).trans g3,(World.putObj_heap_other (by simp at hl;omega)).trans g4⟩
    ·obtain ⟨g1,sv,rest,hm⟩:=hg
     exact ⟨g1,sv,rest,hm.put o' (by simp at hl;omega) jB Kh⟩
    ·obtain ⟨pre,R,sv,g1,g2,g3,g4,hm⟩:=hg
     exact ⟨pre,R,sv,g1,g2,g3,g4,hm.put o' (by simp at hl;omega) jB Kh⟩
    ·obtain ⟨pre,R,sv,g1,g2,g3,g4,hm⟩:=hg
     exact ⟨pre,R,sv,g1,g2,g3,g4,hm.put o' (by simp at hl;omega) jB Kh⟩
   case alloc2 =>
    rintro s W o ⟨pre,R,sv,g1,g2,g3,g4,hm⟩
    exact ⟨pre,R,sv,g1,g2,g3,g4,hm.alloc o⟩
   case J2 =>
    rintro s W ⟨pre,R,sv,g1,g2,g3,g4,hm⟩
    exact ⟨(fe hm.bs).1,(fe hm.bp).1,(fe hm.bk).1,by omega⟩
   case J'2 =>
    rintro s W ⟨pre,R,sv,g1,g2,g3,g4,hm⟩
    exact ⟨(fe hm.bs).1,(fe hm.bs).2,(fe hm.bp).1⟩
   case S2 =>
    rintro s W ⟨pre,R,sv,g1,g2,g3,g4,hm⟩ hi
    exact ⟨pre,R,sv,g1,g2 hi,g3,by simp only [ByteArray.size_extract];omega,hm.set _⟩
   case start2 =>
    refine ⟨[],L, .slice none 0 0,rfl,Ec,rfl,by simp only [ByteArray.size_extract];omega,?_⟩
    exact {
     below:=((((((Below.refl _ w).alloc (Nat.le_refl _) _).alloc (by simp) _).alloc (by simp;omega) _).alloc (by simp;omega) _).alloc (by simp;omega) _).alloc (by simp;omega) _
     size:=by simp
     r0:=by ((try simp only [World.size_alloc]);repeat (first | exact bq (by first | (simp only [World.size_alloc];done) | (simp only [World.size_alloc];omega) | omega) | rw [ay (by simp only [World.size_alloc];omega)]))
     r1:=by ((try simp only [World.size_alloc]);repeat (first | exact bq (by first | (simp only [World.size_alloc];done) | (simp only [World.size_alloc];omega) | omega) | rw [ay (by simp only [World.size_alloc];omega)]))
     wv:=by ((try simp only [World.size_alloc]);repeat (first | exact bq (by first | (simp only [World.size_alloc];done) | (simp only [World.size_alloc];omega) | omega) | rw [ay (by simp only [World.size_alloc];omega)]))
     bs:=by ((try simp only [World.size_alloc]);repeat (first | exact bq (by first | (simp only [World.size_alloc];done) | (simp only [World.size_alloc];omega) | omega) | rw [ay (by simp only [World.size_alloc];omega)]))
     bp:=by ((try simp only [World.size_alloc]);repeat (first | exact bq (by first | (simp only [World.size_alloc];done) | (simp only [World.size_alloc];omega) | omega) | rw [ay (by simp only [World.size_alloc];omega)]))
     bk:=by ((try simp only [World.size_alloc]);repeat (first | exact bq (by first | (simp only [World.size_alloc];done) | (simp only [World.size_alloc];omega) | omega) | rw [ay (by simp only [World.size_alloc];omega)]))
     row:=World.ownsRow_nil _ _ _ _ }
   case done2 =>
    rintro D W hD ⟨bP,sv,rest,hm⟩ hk
    obtain ⟨v1,v2,v3,v4⟩:=aL hm.wv
    obtain ⟨r1,r2,r3,r4⟩:=aL hm.r0
    obtain ⟨q1,q2⟩:=fe hm.r1
    have di:=hm.row
    obtain ⟨x0,L',rfl⟩:=Ec.cons
    simp only [List.length_cons] at di
    obtain ⟨g,cap,rfl⟩:=ownsRow_succ di
    gi_wp2
    ·obtain ⟨ko,kb,k0,k1,_⟩:=hm.stored (.bool false) (.slice none 0 0) (.bool false)
     refine ⟨by simp, .inl ⟨_,_,rfl,run_takeDeferred (ko.same D _ hk rfl),?_⟩⟩
     exact ⟨_,results27 _ _ w.heap.size (.bool false) (.slice none 0 0) (.bool false) rfl rfl ((World.putObj_heap_other (by simp at hD;omega)).trans k0) ((World.putObj_heap_other (by simp at hD;omega)).trans k1),_,rfl,bx.dT kb _ (by simp at hD;omega) (ko.same D _ hk rfl), .inr (.inr ⟨by assumption,by assumption,x0 :: L',by rw [hx];exact Ec, .inl ⟨.inr (by simp only [List.length_cons];omega),rfl⟩⟩)⟩
    ·obtain ⟨ko,kb,k0,k1,kr⟩:=hm.stored (.bool true) (.slice (some ⟨g,0,none⟩) (L'.length+1) cap) (.bool true)
     refine ⟨by simp, .inl ⟨_,_,rfl,run_takeDeferred (ko.same D _ hk rfl),?_⟩⟩
     exact ⟨_,results27 _ _ w.heap.size (.bool true) (.slice (some ⟨g,0,none⟩) (L'.length+1) cap) (.bool true) rfl rfl ((World.putObj_heap_other (by simp at hD;omega)).trans k0) ((World.putObj_heap_other (by simp at hD;omega)).trans k1),_,rfl,bx.dT kb _ (by simp at hD;omega) (ko.same D _ hk rfl), .inr (.inr ⟨by assumption,by assumption,x0 :: L',by rw [hx];exact Ec, .inr ⟨bP,by simp only [List.length_cons];omega,_,by rw [hx],kM (ownsRow_putObj kr _ (ko.same D _ hk rfl) rfl) (by omega)⟩⟩)⟩
   case stop2 =>
    rintro D W hD ⟨bP,hb,g1,g2⟩ hk
    gi_wp2
    refine ⟨by simp, .inl ⟨_,_,rfl,run_takeDeferred hk,?_⟩⟩
    refine ⟨_,results27 _ _ w.heap.size (.bool false) (.slice none 0 0) (.bool false) rfl rfl ((World.putObj_heap_other (by simp at hD;omega)).trans g1) ((World.putObj_heap_other (by simp at hD;omega)).trans g2),_,rfl,bx.dT hb _ (by simp at hD;omega) hk, .inr (.inr ⟨by assumption,by assumption,L,by rw [hx];exact Ec, .inl ⟨.inl bP,rfl⟩⟩)⟩
set_option maxRecDepth 100000
set_option maxHeartbeats 4000000
def wm (s:ByteArray):Bool:=decide (2≤s.size) && (s.extract 0 2).toList == [36,46]
theorem Kj (n:Nat) (s:ByteArray) (w:World) :
  CallsIn Fence.wide n Tryz.prog 57 #[.string s, .string ⟨#[36,46]⟩] w fun e w'=>e=.returned (.bool (wm s))∧w'=w:=by
 refine callsIn_of_wp Tryz.func57 rfl trivial ?_ rfl
 simp only [Tryz.ntmps57,Nat.reduceAdd,Nat.reduceSub,Sx.zC]
 gi_wp2
 ·go_ret
  refine ⟨?_,rfl⟩
  have:decide (2≤s.size)=true:=by simp;omega
  simp [wm,this]
 ·go_ret
  refine ⟨?_,rfl⟩
  have:decide (2≤s.size)=false:=by simp;omega
  simp [wm,this]
theorem Oe (n:Nat) (hn:1≤n) (s:ByteArray) (w:World) :
  CallsIn Fence.wide n Tryz.prog 42 #[.string s, .string ⟨#[36,46]⟩] w fun e w'=>e=.returned (.bool (wm s))∧w'=w:=by
 refine callsIn_of_wp Tryz.func42 rfl trivial ?_ rfl
 simp only [Tryz.ntmps42,Nat.reduceAdd,Nat.reduceSub,Sx.zC]
 gi_wp2_with (refine ⟨trivial,?_⟩;gi_at_call 57;refine (Kj _ _ _).mono ?_;rintro e w' ⟨rfl,hw⟩;rw [hw])
 go_ret
 exact ⟨rfl,rfl⟩
def zJ (i:Nat) (b:UInt8):Bool:=(decide (97≤b) && decide (b≤122)) || (!(i == 0) && ((decide (48≤b) && decide (b≤57)) || b == 95))
def eO:Nat→List UInt8→Bool
 | _,[]=>true
 | i,b :: r=>zJ i b && eO (i+1) r
def eB (l:List UInt8):Bool:=eO 0 l && (decide (1≤l.length) && decide (l.length≤32))
theorem o7:∀ (l m:List UInt8) (i:Nat),eO i (l ++ m)=(eO i l && eO (i+l.length) m)
 | [],m,i=>by simp [eO]
 | b :: l,m,i=>by
  simp only [List.cons_append,eO,o7 l m (i+1),List.length_cons,Bool.and_assoc]
  rw [show i+1+l.length=i+(l.length+1) by omega]
theorem GB (l:List UInt8) (k:Nat) (h:k < l.length):eO 0 l=(eO 0 (l.take k) && (zJ k l[k] && eO (k+1) (l.drop (k+1)))):=by
 have e:l=l.take k ++ (l[k] :: l.drop (k+1)):=by simp
 conv=>lhs;rw [e]
 rw [o7]
 have:(l.take k).length=k:=by simp;omega
 rw [this,Nat.zero_add]
 rfl
theorem AF (l:List UInt8) (k:Nat) (h:k < l.length) (h1:eO 0 (l.take k)=true) (h2:zJ k l[k]=true):eO 0 (l.take (k+1))=true:=by
 rw [List.take_succ_eq_append_getElem h,o7,h1]
 have:(l.take k).length=k:=by simp;omega
 simp [eO,this,h2]
def Of (k:Nat) (x:Nat):Prop:=(97≤x∧x≤122)∨(k≠0∧((48≤x∧x≤57)∨x=95))
theorem Ck (k:Nat) (b:UInt8):zJ k b=true↔Of k b.toNat:=by
 unfold zJ Of
 have e:(b == 95)=decide (b.toNat=95):=by
  rw [Bool.eq_iff_iff]
  simp only [beq_iff_eq,decide_eq_true_eq]
  exact ⟨fun h=>by rw [h];rfl,fun h=>UInt8.toNat_inj.1 h⟩
 rw [e]
 simp only [Bool.or_eq_true,Bool.and_eq_true,decide_eq_true_eq,Bool.not_eq_true',beq_eq_false_iff_ne,UInt8.le_iff_toNat_le]
 rfl
theorem GC (s:ByteArray) (k:Nat) (h:k < s.size) (hb:¬ Of k s[k].toNat):eB s.data.toList=false:=by
 unfold eB
 have hl:k < s.data.toList.length:=h
 rw [GB _ k hl]
 have:zJ k s.data.toList[k]=false:=by
  rw [Bool.eq_false_iff]
  exact fun e=>hb ((Ck _ _).1 e)
 rw [this];simp
theorem Ed (s:ByteArray) (k:Nat) (h:k < s.size) (fm:eO 0 (s.data.toList.take k)=true) (hb:Of k s[k].toNat):eO 0 (s.data.toList.take (k+1))=true :=
 AF _ k h fm ((Ck _ _).2 hb)
theorem GD (s:ByteArray) (k:Nat) (hk:k≤s.size) (h:¬ k < s.size) (fm:eO 0 (s.data.toList.take k)=true):eB s.data.toList=(decide (1≤s.size) && decide (s.size≤32)):=by
 have:s.data.toList.take k=s.data.toList:=List.take_of_length_le (by show s.size≤k;omega)
 rw [this] at fm
 unfold eB
 rw [fm,Bool.true_and]
 rfl
theorem Kk (n:Nat) (s:ByteArray) (hs:s.size≤9223372036854775807) (w:World) :
  CallsIn Fence.wide n Tryz.prog 91 #[.string s] w fun e w'=>e=.returned (.bool (eB s.data.toList))∧w'=w:=by
 refine callsIn_of_wp Tryz.func91 rfl trivial ?_ rfl
 simp only [Tryz.ntmps91,Nat.reduceAdd,Nat.reduceSub,Sx.zC]
 have hl:s.data.toList.length=s.size:=rfl
 gi_wp2
 Ud [7] (fun v=>∃ k:Nat,v=.int .i64 k∧k≤s.size∧eO 0 (s.data.toList.take k)=true) (fun v=>s.size - (intOf v).toNat)
 case atStart=>exact ⟨0,rfl,by omega,rfl⟩
 case round =>
  obtain ⟨k,rfl,hk,fm⟩:=iT
  by_cases DI:k < s.size
  ·by_cases hP:Of k s[k].toNat
   ·have Cl:=Ed s k DI fm hP
    unfold Of at hP
    by_cases pG:k=0
    ·subst pG
     gi_wp2 <;> first
      | exact ⟨⟨1,rfl,by omega,Cl⟩,by simp [intOf];omega⟩
      | (exfalso;clear Cl fm;simp only [Bool.not_eq_true',Bool.not_eq_false',decide_eq_true_eq,decide_eq_false_iff_not,bne_iff_ne,ne_eq,beq_iff_eq,bne_eq_false_iff_eq,beq_eq_false_iff_ne] at *;omega)
    ·gi_wp2 <;> first
      | exact ⟨⟨k+1,rfl,by omega,Cl⟩,by simp [intOf];omega⟩
      | (exfalso;clear Cl fm;simp only [Bool.not_eq_true',Bool.not_eq_false',decide_eq_true_eq,decide_eq_false_iff_not,bne_iff_ne,ne_eq,beq_iff_eq,bne_eq_false_iff_eq,beq_eq_false_iff_ne] at *;omega)
   ·have zf:=GC s k DI hP
    unfold Of at hP
    by_cases pG:k=0
    ·subst pG
     gi_wp2 <;> first
      | (exfalso;clear zf fm;simp only [Bool.not_eq_true',Bool.not_eq_false',decide_eq_true_eq,decide_eq_false_iff_not,bne_iff_ne,ne_eq,beq_iff_eq,bne_eq_false_iff_eq,beq_eq_false_iff_ne] at *;omega)
      | (go_ret;exact ⟨rfl,rfl⟩)
    ·gi_wp2 <;> first
      | (exfalso;clear zf fm;simp only [Bool.not_eq_true',Bool.not_eq_false',decide_eq_true_eq,decide_eq_false_iff_not,bne_iff_ne,ne_eq,beq_iff_eq,bne_eq_false_iff_eq,beq_eq_false_iff_ne] at *;omega)
      | (go_ret;exact ⟨rfl,rfl⟩)
  ·have aan:=GD s k hk DI fm
   gi_wp2
   ·go_ret
    refine ⟨?_,rfl⟩
    have h1:decide (1≤s.size)=true:=by rw [decide_eq_true_eq];omega
    have h2:decide ((s.size:Int)≤32)=decide (s.size≤32):=by rw [decide_eq_decide];omega
    rw [h1,← h2];rfl
   ·go_ret
    refine ⟨?_,rfl⟩
    have h1:decide (1≤s.size)=false:=by rw [decide_eq_false_iff_not];omega
    rw [h1];rfl
set_option maxRecDepth 100000
set_option maxHeartbeats 4000000
theorem wo (s:ByteArray) (c:Int) (w:World):(callFunc 109 #[.string s, .int .u8 c]).run Tryz.prog w=.ok (.value (.int .i64 (Lib.indexByte s.data.toList c.toNat.toUInt8))) w :=
 Sx.JX (fn:=Tryz.f109) (by kernel_rfl) (by kernel_rfl) (by kernel_rfl) (by kernel_rfl) (by kernel_rfl) s c w
theorem Kl (n:Nat) (s:ByteArray) (w:World) :
  CallsIn Fence.wide n Tryz.prog 78 #[.string s, .int .u8 46] w fun e w'=>e=.returned (.int .i64 (Lib.indexByte s.data.toList 46))∧w'=w:=by
 refine callsIn_of_wp Tryz.func78 rfl trivial ?_ rfl
 simp only [Tryz.ntmps78,Nat.reduceAdd,Nat.reduceSub,Sx.zC]
 have e:=wo s 46 w
 gi_wp2_with (refine ⟨trivial,?_⟩)
 go_ret
 exact ⟨rfl,rfl⟩
theorem Km (n:Nat) (hn:1≤n) (s:ByteArray) (hs:s.size≤9223372036854775807) (w:World) :
  CallsIn Fence.wide n Tryz.prog 69 #[.string s, .string ⟨#[46]⟩] w fun e w'=>e=.returned (.int .i64 (Lib.indexByte s.data.toList 46))∧w'=w:=by
 refine callsIn_of_wp Tryz.func69 rfl trivial ?_ rfl
 simp only [Tryz.ntmps69,Nat.reduceAdd,Nat.reduceSub,Sx.zC]
 have e46:((⟨#[46]⟩:ByteArray)[0]'(by decide)).toNat=46:=rfl
 gi_wp2_with (refine ⟨trivial,?_⟩;gi_at_call 78;refine (Kl _ _ _).mono ?_;rintro e w' ⟨rfl,hw⟩;rw [hw])
 ·go_ret
  refine ⟨?_,rfl⟩
  have h:([46] == s.toList)=true:=by assumption
  rw [Lib.toList_data] at h
  rw [← eq_of_beq h]
  rfl
 ·go_ret
  exact ⟨rfl,rfl⟩
theorem Og (n:Nat) (hn:2≤n) (s:ByteArray) (hs:s.size≤9223372036854775807) (w:World) :
  CallsIn Fence.wide n Tryz.prog 58 #[.string s, .string ⟨#[46]⟩] w fun e w'=>e=.returned (.int .i64 (Lib.indexByte s.data.toList 46))∧w'=w:=by
 refine callsIn_of_wp Tryz.func58 rfl trivial ?_ rfl
 simp only [Tryz.ntmps58,Nat.reduceAdd,Nat.reduceSub,Sx.zC]
 have h1:1≤n - 1:=by omega
 have h0:1≤n:=by omega
 gi_wp2_with (refine ⟨trivial,?_⟩;gi_at_call 69;refine (Km _ h1 _ hs _).mono ?_;rintro e w' ⟨rfl,hw⟩;rw [hw])
 go_ret
 exact ⟨rfl,rfl⟩
theorem indexByte_ge (l:List UInt8) (c:UInt8):Lib.indexByte l c=-1∨(0≤Lib.indexByte l c∧Lib.indexByte l c+1≤l.length):=by
 induction l with
 | nil=>exact .inl rfl
 | cons x l ih =>
  unfold Lib.indexByte
  split
  ·right;simp;omega
  ·simp only [List.length_cons]
   rcases ih with h | ⟨h1,h2⟩
   ·rw [h];left;rfl
   ·right
    split
    ·rename_i e;simp only [beq_iff_eq] at e;omega
    ·omega
theorem Ee (s:ByteArray) (hs:s.size≤1000000000) (w:World) :
  Calls Tryz.prog 73 #[.string s] w fun e w'=>∃ v,e=.returned v∧Below w.heap.size w w'∧Cj (fun s=>Lib.indexByte s.data.toList 46) (fun s=>eB s.data.toList) wm w.heap.size s v w' :=
 callsIn_wide.1 (Oc 6 (by decide) _ _ _ (fun s h=>by
   unfold wm at h
   rw [Bool.and_eq_true,decide_eq_true_eq] at h
   exact h.1) (fun s=>by have:=indexByte_ge s.data.toList 46;exact this)
  (fun s w=>callsIn_wide.1 (Oe 3 (by decide) s w)) (fun s w h=>callsIn_wide.1 (Og 3 (by decide) s h w)) (fun s w h=>callsIn_wide.1 (Kk 3 s h w)) s hs w)
end R3
namespace R3
open Go Go.Proofs Go.RowKit Sx
def bY:List UInt8→List (List UInt8)
 | []=>[[]]
 | b :: r=>if b == 46 then [] :: bY r else match bY r with
  | []=>[[b]]
  | h :: t=>(b :: h) :: t
theorem lE (b:UInt8) (r:List UInt8):bY (b :: r)=if b == 46 then [] :: bY r else match bY r with | []=>[[b]] | h :: t=>(b :: h) :: t:=rfl
theorem kN (l:List UInt8):∃ h t,bY l=h :: t:=by
 cases l with
 | nil=>exact ⟨_,_,rfl⟩
 | cons b r =>
  unfold bY
  split
  ·exact ⟨_,_,rfl⟩
  ·split <;> exact ⟨_,_,rfl⟩
theorem qe:∀ (l:List UInt8),Lib.indexByte l 46=-1→bY l=[l]
 | [],_=>rfl
 | b :: r,h=>by
  unfold Lib.indexByte at h
  split at h
  ·omega
  ·rename_i hb
   have hr:Lib.indexByte r 46=-1:=by
    split at h
    ·rename_i e;simpa using e
    ·have:=indexByte_ge r 46;omega
   rw [lE,if_neg hb,qe r hr]
theorem qf:∀ (l:List UInt8) (i:Nat),Lib.indexByte l 46=(i:Int)→bY l=l.take i :: bY (l.drop (i+1))
 | [],i,h=>by exfalso;have:Lib.indexByte [] 46=-1:=rfl;omega
 | b :: r,i,h=>by
  unfold Lib.indexByte at h
  split at h
  ·rename_i hb
   obtain rfl:i=0:=by omega
   rw [lE,if_pos hb]
   rfl
  ·rename_i hb
   split at h
   ·omega
   ·obtain ⟨j,rfl⟩:∃ j,i=j+1:=⟨i - 1,by have:=indexByte_ge r 46;rename_i e;simp only [beq_iff_eq] at e;omega⟩
    have hr:Lib.indexByte r 46=(j:Int):=by omega
    rw [lE,if_neg hb,qf r j hr]
    rfl
theorem iI (s:ByteArray) (a b:Nat):(s.extract a b).data.toList=(s.data.toList.drop a).take (b - a):=by
 simp [ByteArray.data_extract,Array.toList_extract,List.extract]
theorem GF {s:ByteArray} {L:List ByteArray} (h:Sp (fun s=>Lib.indexByte s.data.toList 46) s L):L.map (·.data.toList)=bY s.data.toList:=by
 induction h with
 | last s h=>rw [qe _ h];rfl
 | more s h R hR ih =>
  obtain ⟨i,hi⟩:=Int.eq_ofNat_of_zero_le h
  rw [qf s.data.toList i hi,List.map_cons,ih,iI,iI,hi]
  have cg:s.size=s.data.toList.length:=rfl
  congr 1
  rw [show ((i:Int)+1).toNat=i+1 by omega,List.take_of_length_le (by rw [List.length_drop];omega)]
def cC (l:List UInt8):Bool:=decide (2≤l.length) && l.take 2 == [36,46]
def Mi:AV:=.tu [.ag [.b false, .aC], .b false]
def sD (l:List UInt8):AV :=
 if l == [46] then .tu [.ag [.b false, .aC], .b true]
 else if l == [36] then .tu [.ag [.b true, .aC], .b true]
 else if (bY (if cC l then l.drop 2 else l)).all eB && decide ((bY (if cC l then l.drop 2 else l)).length≤8) then .tu [.ag [.b (cC l), .ro 1 ((bY (if cC l then l.drop 2 else l)).map .s)], .b true]
 else Mi
def RD (args:List AV):Option AV :=
 match args with
 | [.s l]=>if l.length≤1000000000 then some (sD l) else none
 | _=>none
theorem qU {w:World} {F:Nat→Prop} {root ok:Bool} {x:AV} {v:Value} (h1:v.oneCell'=true) (h:Rel w F x v):Rel w F (.tu [.ag [.b root,x], .b ok]) (.tuple #[.agg #[.bool root,v], .bool ok]):=by
 refine .tu [.ag [.b root,x], .b ok] [.agg #[.bool root,v], .bool ok] rfl fun j u hu=>?_
 match j,hu with
 | 0,hu =>
  cases hu
  refine .ag [.b root,x] [.bool root,v] rfl (fun u hu=>?_) fun j u hu=>?_
  ·simp only [List.mem_cons,List.not_mem_nil,or_false] at hu
   rcases hu with rfl | rfl
   ·rfl
   ·exact h1
  ·match j,hu with
   | 0,hu=>cases hu;exact .b root
   | 1,hu=>cases hu;exact h
   | j+2,hu=>simp at hu
 | 1,hu=>cases hu;exact .b ok
 | j+2,hu=>simp at hu
theorem Kn {w:World} {F:Nat→Prop} {N:Nat} {sv:Value} {L:List ByteArray} (hF:∀ b,N≤b→F b) (h:w.ownsRow N 9 1 sv L.length (L.map .string)):sv.oneCell'=true∧(Rel w F (.ro 1 ((L.map (·.data.toList)).map .s)) sv∨L=[]):=by
 rcases h.2 with ⟨rfl,h0⟩ | ⟨g,cap,cur,rfl,hb,hg,h4⟩
 ·exact ⟨rfl, .inr (List.eq_nil_of_length_eq_zero h0)⟩
 ·refine ⟨rfl, .inl ?_⟩
  obtain ⟨k1,k2,k3,k4⟩:=h4
  have hlen:((L.map (·.data.toList)).map AV.s).length=L.length:=by simp
  have key:=Rel.ro (w:=w) (F:=F) 1 ((L.map (·.data.toList)).map .s) g 0 cap (L.map .string) (by decide) (by rw [hlen];exact k1) (hF g hb) (by simp) (fun j v hv=>?_) (fun v hv=>?_) (fun i j v hi hj hv=>?_)
  ·rw [hlen] at key;exact key
  ·rw [← k4,Nat.mul_one] at hv
   have:cur[j]?=some v:=by
    rw [List.getElem?_take] at hv
    split at hv
    ·rw [Array.getElem?_toList] at hv;exact hv
    ·cases hv
   simp [World.cell?,hg,this]
  ·obtain ⟨x,_,rfl⟩:=List.mem_map.1 hv
   rfl
  ·obtain rfl:j=0:=by omega
   rw [Nat.mul_one,Nat.add_zero,List.getElem?_map,Option.map_eq_some_iff] at hv
   obtain ⟨x,hx,rfl⟩:=hv
   have:(((L.map (·.data.toList)).map AV.s).getD i .un)=.s x.data.toList:=by
    rw [List.getD_eq_getElem?_getD,List.getElem?_map,List.getElem?_map,hx];rfl
   rw [this]
   exact .s x
theorem uP (s:ByteArray):wm s=cC s.data.toList:=by
 unfold wm cC
 rw [Lib.toList_data,iI]
 rfl
theorem Ko {C:cS} (ho:(C.own 73).all Option.isNone=true) (args:List AV) (r:AV) (h:RD args=some r) (w:World) (F:Nat→Prop) (vs:Array Value) (hl:vs.size=args.length)
  (hv:∀ (j:Nat) (a:AV) (v:Value),args[j]?=some a→vs[j]?=some v→Rel w F a v):dJ Tryz.prog 73 vs w (fU C 73 w F r):=by
 unfold RD at h
 split at h
 ·rename_i l
  split at h
  ·rename_i hle
   cases h
   match vs,hl,hv with
   | ⟨[x]⟩,_,hv =>
    have hx:=hv 0 _ x rfl rfl
    cases hx with
    | s q =>
     refine .inl ⟨Tryz.f73,(Tryz.f73.body).getD .skip,Tryz.func73,by kernel_rfl,by kernel_rfl,Calls.mono (Ee q hle w) fun e w' he=>?_⟩
     obtain ⟨v,rfl,hb,hp⟩:=he
     refine ⟨v,rfl,⟨hb.os,hb.tape,hb.output,hb.size,hb.block⟩,?_⟩
     unfold eV
     rw [if_pos ho]
     have hF:∀ b,w.heap.size≤b→(fun b=>b < w.heap.size→F b) b:=fun b hb aM=>by omega
     unfold sD
     rcases hp with ⟨c1,rfl⟩ | ⟨c1,c2,rfl⟩ | ⟨c1,c2,L,hL,hp⟩
     ·rw [Lib.toList_data] at c1
      rw [if_pos c1]
      exact qU rfl .aC
     ·rw [Lib.toList_data] at c1 c2
      rw [if_neg (by rw [c1];decide),if_pos c2]
      exact qU rfl .aC
     ·rw [Lib.toList_data] at c1 c2
      rw [if_neg (by rw [c1];decide),if_neg (by rw [c2];decide)]
      have hs:=GF hL
      have lj:bY (if cC q.data.toList then q.data.toList.drop 2 else q.data.toList)=L.map (·.data.toList):=by
       rw [hs,← uP]
       cases wm q with
       | true =>
        simp only [if_true]
        rw [iI,List.take_of_length_le (by rw [List.length_drop];exact Nat.le_refl _)]
       | false=>rfl
      rw [lj]
      have bP:(L.map (·.data.toList)).all eB=L.all fun s=>eB s.data.toList:=by simp [List.all_map,Function.comp_def]
      rw [bP,List.length_map]
      rcases hp with ⟨zf,rfl⟩ | ⟨h1,h2,sv,rfl,di⟩
      ·rw [if_neg]
       ·exact qU rfl .aC
       ·rcases zf with e | e
        ·rw [e];simp
        ·simp only [Bool.and_eq_true,decide_eq_true_eq,not_and];intro _;omega
      ·rw [if_pos (by rw [h1];simpa using h2),← uP]
       obtain ⟨o1,o2⟩:=Kn hF di
       rcases o2 with o2 | o2
       ·exact qU o1 o2
       ·exfalso
        obtain ⟨x0,L',e⟩:=hL.cons
        rw [e] at o2;cases o2
  ·cases h
 ·cases h
end R3
namespace R3
open Go Go.Proofs Go.RowKit Go.Shelf Sx
def Oh:Ren:=⟨fun | 143=>58 | 219=>69 | 217=>78 | 225=>79 | 224=>80 | 267=>81 | 266=>109 | 314=>110 | n=>n,fun | 46=>137 | 146=>158 | 51=>157 | n=>n,fun n=>n⟩
theorem Oi:Lays.n143 Tryz.prog Oh:={
 mixed:=by kernel_rfl
 f143:=Tryz.func58.trans (congrArg some (by kernel_rfl))
 f217:=Tryz.func78.trans (congrArg some (by kernel_rfl))
 f219:=Tryz.func69.trans (congrArg some (by kernel_rfl))
 f224:=Tryz.func80.trans (congrArg some (by kernel_rfl))
 f225:=Tryz.func79.trans (congrArg some (by kernel_rfl))
 f266:=Tryz.func109.trans (congrArg some (by kernel_rfl))
 f267:=Tryz.func81.trans (congrArg some (by kernel_rfl))
 f314:=Tryz.func110.trans (congrArg some (by kernel_rfl))
 t3:=Tryz.underlying3
 a3:=Tryz.isAgg3
 z3:=Tryz.sizeOf3
 v3:=Tryz.zeroValue3
 t4:=Tryz.underlying4
 a4:=Tryz.isAgg4
 z4:=Tryz.sizeOf4
 v4:=Tryz.zeroValue4
 t5:=Tryz.underlying5
 a5:=Tryz.isAgg5
 z5:=Tryz.sizeOf5
 v5:=Tryz.zeroValue5
 t9:=Tryz.underlying9
 a9:=Tryz.isAgg9
 z9:=Tryz.sizeOf9
 v9:=Tryz.zeroValue9
 t46:=Tryz.underlying137
 a46:=Tryz.isAgg137
 z46:=Tryz.sizeOf137
 v46:=Tryz.zeroValue137
 t51:=Tryz.underlying157
 a51:=Tryz.isAgg157
 z51:=Tryz.sizeOf157
 v51:=Tryz.zeroValue157
 t146:=Tryz.underlying158
 a146:=Tryz.isAgg158
 z146:=Tryz.sizeOf158
 v146:=Tryz.zeroValue158
 g1:=by kernel_rfl }
def RE (args:List AV):Option AV :=
 match args with
 | [.s l, .s sub]=>if l.length≤1000000000 then some (.int (Lib.index l sub)) else none
 | _=>none
theorem Kp {C:cS} {mx:Int} (AG:C.glob 1=some (1, .int mx)) (ho:(C.own 58).all Option.isNone=true) (args:List AV) (r:AV) (h:RE args=some r) (w:World) (F:Nat→Prop) (vs:Array Value) (hG:aN C w F) (hl:vs.size=args.length)
  (hv:∀ (j:Nat) (a:AV) (v:Value),args[j]?=some a→vs[j]?=some v→Rel w F a v):dJ Tryz.prog 58 vs w (fU C 58 w F r):=by
 have hm:w.cell? ⟨1,0,none⟩=some (.int .i64 mx):=by
  obtain ⟨r,o,h1,h2,h3,h4⟩:=hG 1 1 _ AG
  simp only [Value.pointer.injEq,Option.some.injEq,Addr.mk.injEq,Nat.add_zero] at h1
  obtain ⟨v,q1,q2,q3⟩:=h4 0 (by decide)
  obtain ⟨rfl,rfl,_⟩:=h1
  have q3:Rel w F (.int mx) v:=q3
  cases q3
  exact q1
 unfold RE at h
 split at h
 ·rename_i l sub
  split at h
  ·rename_i hle
   cases h
   match vs,hl,hv with
   | ⟨[x,y]⟩,_,hv =>
    have hx:=hv 0 _ x rfl rfl
    have hy:=hv 1 _ y rfl rfl
    cases hx with
    | s p =>
     cases hy with
     | s q =>
      refine .inl ⟨Tryz.f58,(Tryz.f58.body).getD .skip,Tryz.func58,by kernel_rfl,by kernel_rfl,Calls.mono (Any.strings_Index Oi p q mx w (by have:p.size=p.data.toList.length:=rfl;omega) hm) fun e w' he=>?_⟩
      obtain ⟨rfl,rfl⟩:=he
      refine ⟨_,rfl,Ext.refl _,?_⟩
      unfold eV
      rw [if_pos ho]
      exact .int _
  ·cases h
 ·cases h
end R3
namespace R3
open Go Sx
def kK:List (Nat×Ty):=[
 (3,{ size:=1,bytes:=8,kd:=.int .i64,elem:=0,zero:=[.int 0],fields:=[],eqk:=none }),
 (4,{ size:=1,bytes:=1,kd:=.bool,elem:=0,zero:=[.b false],fields:=[],eqk:=none }),
 (5,{ size:=1,bytes:=1,kd:=.int .u8,elem:=0,zero:=[.u8 0],fields:=[],eqk:=none }),
 (9,{ size:=1,bytes:=16,kd:=.str,elem:=0,zero:=[.s []],fields:=[],eqk:=none }),
 (23,{ size:=1,bytes:=24,kd:=.slice,elem:=58,zero:=[.aC],fields:=[],eqk:=none }),
 (24,{ size:=1,bytes:=24,kd:=.slice,elem:=3,zero:=[.aC],fields:=[],eqk:=none }),
 (26,{ size:=2,bytes:=48,kd:=.struct,elem:=0,zero:=[.aC, .aC],fields:=[(0,23),(1,24)],eqk:=none }),
 (27,{ size:=1,bytes:=8,kd:=.int .i64,elem:=0,zero:=[.int 0],fields:=[],eqk:=none }),
 (52,{ size:=1,bytes:=1,kd:=.int .u8,elem:=0,zero:=[.u8 0],fields:=[],eqk:=none }),
 (53,{ size:=1,bytes:=24,kd:=.slice,elem:=9,zero:=[.aC],fields:=[],eqk:=none }),
 (55,{ size:=2,bytes:=32,kd:=.struct,elem:=0,zero:=[.b false, .aC],fields:=[(0,4),(1,53)],eqk:=none }),
 (56,{ size:=1,bytes:=1,kd:=.int .u8,elem:=0,zero:=[.u8 0],fields:=[],eqk:=none }),
 (58,{ size:=9,bytes:=120,kd:=.struct,elem:=0,zero:=[.u8 0, .int 0, .s [], .b false, .aC, .aC, .aC, .b false, .u8 0],fields:=[(0,52),(1,3),(2,9),(3,55),(5,24),(6,24),(7,4),(8,56)],eqk:=none }),
 (80,{ size:=1,bytes:=24,kd:=.slice,elem:=91,zero:=[.aC],fields:=[],eqk:=none }),
 (89,{ size:=1,bytes:=1,kd:=.int .u8,elem:=0,zero:=[.u8 0],fields:=[],eqk:=none }),
 (91,{ size:=5,bytes:=64,kd:=.struct,elem:=0,zero:=[.u8 0, .int 0, .s [], .b false, .aC],fields:=[(0,89),(1,3),(2,9),(3,55)],eqk:=none }),
 (104,{ size:=4,bytes:=80,kd:=.struct,elem:=0,zero:=[.aC, .int 0, .aC, .aC],fields:=[(0,80),(1,3),(2,26)],eqk:=none }),
 (105,{ size:=1,bytes:=8,kd:=.ptr,elem:=0,zero:=[.ek],fields:=[],eqk:=none }),
 (109,{ size:=2,bytes:=16,kd:=.struct,elem:=0,zero:=[.int 0, .int 0],fields:=[(0,3),(1,27)],eqk:=some [.i, .i] })
]
def n7:List ((Nat×Nat)×(j7×List Nat)):=[((66,16),(.seq [(0,true),(1,true),(2,true),(3,true),(4,true),(5,true),(6,false),(7,false),(8,true),(9,false)] .done,[1000009])),
 ((26,6),(.seq [(0,true),(1,true),(2,true),(3,true),(4,true),(5,true),(6,true),(7,true),(8,true),(9,true),(10,true)] .done,[])),
 ((27,6),(.seq [(0,true),(1,true),(2,true),(3,true),(4,true),(5,true),(6,true),(7,true),(8,true)] .done,[])),
 ((70,4),(.seq [(0,true),(1,true),(2,true),(4,true),(5,true),(3,false),(6,false),(7,true)] .done,[])),
 ((46,2),(.seq [(0,true),(1,true),(2,true),(3,true),(4,true),(5,true),(6,true),(7,true),(8,true),(9,true)] .done,[])),
 ((46,3),(.seq [(0,true),(1,true),(2,true),(3,true),(4,true),(5,true),(6,true),(7,true),(8,true),(9,true),(10,false),(11,false)] .done,[1000011])),
 ((60,2),(.seq [(0,true),(1,true),(2,true),(3,true),(4,true),(5,true),(6,true),(7,true),(8,true),(9,true),(10,true),(11,true),(12,true),(13,false),(14,false),(15,true),(16,true),(17,true),(18,false)] .done,[1000018])),
 ((60,15),(.seq [(0,true),(1,true),(2,true),(4,true),(3,false),(5,true)] .done,[])),
 ((74,5),(.seq [(0,true),(1,true),(2,true),(3,true),(4,true),(5,true),(6,true),(7,true),(8,true),(9,true),(10,true),(11,true),(12,true),(13,true),(14,true),(15,true),(16,true),(17,true),(18,true),(19,true),(20,true),(21,true),(22,true),(23,true)] .done,[])),
 ((74,7),(.seq [(0,true),(1,true),(2,true),(3,true),(4,true),(5,true),(6,true),(7,true),(8,true),(9,true),(10,true),(11,true),(12,false),(13,true)] .done,[])),
 ((74,12),(.seq [(0,true),(1,true),(2,true),(3,true),(4,true),(5,true),(6,true),(7,true),(8,true),(9,true),(10,true),(11,true),(12,true),(13,true),(14,true),(15,false),(16,true),(17,true),(18,false)] .done,[1000015,1000018])),
 ((74,13),(.seq [(0,true),(1,true),(2,true),(3,true),(4,true),(5,true),(6,true),(7,true),(8,true),(9,true),(10,true)] .done,[])),
 ((74,15),(.seq [(0,true),(1,true),(2,true),(3,true),(4,true),(5,true),(6,true),(7,true),(8,true),(9,true),(10,true),(11,true),(12,true)] .done,[])),
 ((74,16),(.seq [(0,true),(1,true),(2,true),(3,true),(4,true),(5,true),(6,true),(7,true),(8,true),(9,true),(10,true),(11,true),(12,false),(13,true)] .done,[]))]
def n8:List (Nat×List (Nat×List (Nat×Option (Nat×Nat))×List (Nat×List (Nat×Nat×Nat)))):=[(37,[(3,[(0,none),(4,some (91,5)),(5,none)],[]),(5,[(0,none),(4,some (91,5)),(5,none),(6,none)],[]),(11,[(0,none),(4,some (91,5)),(5,none),(6,none)],[])]),
 (66,[(9,[(0,none),(2,none),(4,none)],[(2,[]),(4,[(1,9,1)])]),(11,[(0,none),(2,none),(4,none),(5,none),(6,none)],[(2,[]),(4,[(1,9,1)])]),(12,[(0,none),(2,none),(4,none),(5,none),(6,none)],[(2,[]),(4,[(1,9,1)])])]),
 (91,[(2,[(0,none),(6,none),(7,none)],[])]),
 (76,[(4,[(0,none),(3,none)],[])]),
 (26,[(4,[(2,none),(3,none),(5,none)],[(2,[]),(3,[])])]),
 (44,[(2,[(0,none),(1,none),(5,none)],[(71,[(0,91,5)])]),(6,[(0,none),(1,none),(5,none),(6,none)],[(71,[(0,91,5)])])]),
 (53,[(11,[(2,none)],[(2,[])]),(12,[(0,none),(2,none)],[(2,[])]),(19,[(0,none),(2,none),(4,none)],[(2,[])])]),
 (27,[(4,[(0,none),(1,none),(5,none)],[])]),
 (59,[(18,[(0,none),(2,none),(4,none)],[(2,[])])]),
 (64,[(1,[(0,none)],[]),(3,[(0,none)],[])]),
 (82,[(1,[(0,none),(1,none)],[])]),
 (83,[(1,[(0,none),(1,none)],[])]),
 (46,[(2,[(0,none),(1,none),(6,some (3,1))],[(61,[(2,58,9)])])]),
 (60,[(11,[(0,none),(2,none),(4,none),(8,none)],[(4,[]),(71,[(2,58,9)])]),(14,[(0,none),(2,none),(4,none),(8,none),(9,none)],[(4,[]),(71,[(2,58,9)])]),(19,[(0,none),(8,none),(9,none)],[(71,[(2,58,9)])])]),
 (74,[(13,[(0,none),(6,none)],[(6,[]),(152,[(2,58,9)])])])]
def sx:List (Nat×List (Option (Nat×Nat))):=[]
def sy:List (Nat×vp):=[(44,{ ps:=[.v, .eF 45 [0]],objs:=[((.cap 1 0),[.own 91 5])],outs:=[((.cap 1 0),[.own 91 5])] }),
 (45,{ ps:=[.v, .obj 0],objs:=[((.arg 1),[.own 91 5])],outs:=[((.arg 1),[.own 91 5])] }),
 (46,{ ps:=[.obj 0, .v],objs:=[((.arg 0),[.v, .v, .own 58 9, .v])],outs:=[((.arg 0),[.v, .v, .own 58 9, .v])] }),
 (60,{ ps:=[.obj 0, .v, .v],objs:=[((.arg 0),[.v, .v, .own 58 9, .v])],outs:=[((.arg 0),[.v, .v, .own 58 9, .v])] }),
 (74,{ ps:=[.obj 0, .v, .v, .v],objs:=[((.arg 0),[.v, .v, .own 58 9, .v])],outs:=[((.arg 0),[.v, .v, .own 58 9, .v])] })]
def kL:List (Nat×List Nat):=[]
def C (mx:Int):cS:=FV kK n7 n8 sx kL (fun g=>bif Nat.beq g 1 then some (1, .int mx) else none) sy (fun g=>bif Nat.beq g 73 then some RD else bif Nat.beq g 58 then some RE else none) (fun t=>Nat.beq t 109)
end R3
open Go Go.Proofs Sx
namespace R3
theorem RF:kK.all (fun p=>NQ Tryz.prog p.1 p.2)=true:=by kernel_rfl
theorem fns (mx:Int):Ak (C mx) 0 Tryz.prog.funcs.toList=true:=by kernel_rfl
theorem mixed:Tryz.prog.follows .mixedOrders=true:=by kernel_rfl
theorem idxs:FW 109 0 Tryz.prog.funcs.toList=true:=by kernel_rfl
theorem VT (mx:Int):∀ (g:Nat) (G:List AV→Option AV),(C mx).gv g=some G→((C mx).own g).all Option.isNone=true→∀ (args:List AV) (r:AV),G args=some r→∀ (w:World) (F:Nat→Prop) (vs:Array Value),aN (C mx) w F→vs.size=args.length →
   (∀ (j:Nat) (a:AV) (v:Value),args[j]?=some a→vs[j]?=some v→Rel w F a v)→dJ Tryz.prog g vs w (fU (C mx) g w F r):=by
 intro g G h ho args r hr w F vs hG hl hv
 have h:(bif Nat.beq g 73 then some RD else bif Nat.beq g 58 then some RE else none)=some G:=h
 cases h1:Nat.beq g 73 with
 | true =>
  rw [h1] at h;cases h
  obtain rfl:=Nat.eq_of_beq_eq_true h1
  exact Ko ho args r hr w F vs hl hv
 | false =>
  rw [h1] at h
  cases h2:Nat.beq g 58 with
  | true =>
   rw [h2] at h;cases h
   obtain rfl:=Nat.eq_of_beq_eq_true h2
   exact Kp (mx:=mx) rfl ho args r hr w F vs hG hl hv
  | false=>rw [h2] at h;cases h
theorem fit (mx:Int):Fit (C mx) Tryz.prog:=Fit.of (tab:=kK) rfl RF (fns mx) mixed (Al idxs wo) (VT mx)
end R3
namespace R3
open Go Go.Proofs Sx
theorem maxLen {W:World} (h:W.ShapedOpen Tryz.prog):∃ m,W.cell? ⟨1,0,none⟩=some (.int .i64 m) :=
 cell_of_shapedOpen_int (zero := #[.int .i64 0]) (t:=3) h (of_decide_eq_true (by kernel_rfl)) (by kernel_rfl) rfl (by kernel_rfl) (by kernel_rfl) Tryz.underlying3
theorem GG {W:World} {m:Int} (h:W.cell? ⟨1,0,none⟩=some (.int .i64 m)):aN (C m) W (fun _=>True):=by
 intro g k e hg
 have hg:(bif Nat.beq g 1 then some (1,AV.int m) else none)=some (k,e):=hg
 cases h1:Nat.beq g 1 with
 | false=>rw [h1] at hg;cases hg
 | true =>
  rw [h1] at hg;cases hg
  obtain rfl:=Nat.eq_of_beq_eq_true h1
  refine ⟨1,0,rfl,trivial,aS h,fun j hj=>?_⟩
  obtain rfl:j=0:=by omega
  exact ⟨.int .i64 m,h,rfl,Rel.int m⟩
mutual
def uQ:DataW Unit→List Value
 | .lit (.int k n)=>[.int k n]
 | .agg ps=>sE ps
 | _=>[]
def sE:List (DataW Unit)→List Value
 | []=>[]
 | d :: r=>uQ d ++ sE r
end
end R3
open Go Go.Proofs Sx
namespace eA
theorem RF:kK.all (fun p=>NQ Tryz.prog p.1 p.2)=true:=by kernel_rfl
theorem fns (mx:Int):Ak (C mx) 0 Tryz.prog.funcs.toList=true:=by kernel_rfl
theorem fit (mx:Int):Fit (C mx) Tryz.prog:=Fit.of (tab:=kK) rfl RF (fns mx) R3.mixed (Al R3.idxs R3.wo) (fun g G h=>by cases h)
end eA
namespace eA
open Go Go.Proofs Sx
variable {mx:Int}
def o8:Code:=(Tryz.f17.body).getD .skip
def sF (run:RunT) (a b:UInt8) (d:Bool) (e f g i:UInt8) (j:Bool) (k:UInt8) (l:List UInt8) (m n:UInt8) (o:Bool) (p q s t:UInt8) (u:Bool) (w:UInt8) (x:List UInt8):Option AV :=
 run ((bL 11 o8 []).getD []) (St.bU [(1, .cell (.ptr 1 0)),(4, .cell (.ptr 4 0))] [(1,some (cT a b d e f g i j k l)),(4,some (cT m n o p q s t u w x))])
def AH (run:RunT) (a b d:UInt8) (e:Bool) (f g i j:UInt8) (k:Bool) (l:UInt8) (m:List UInt8) (n o:UInt8) (p:Bool) (q s t u:UInt8) (w:Bool) (x:UInt8) (y:List UInt8) (z A:UInt8) (B:Bool) (D E G H:UInt8) (I:Bool) (J:UInt8) (L:List UInt8):Option AV :=
 run ((bL 12 o8 []).getD []) (St.bU [(1, .cell (.ptr 1 0)),(3, .cell (.ptr 3 0)),(4, .cell (.ptr 4 0)),(48, .cell (.val (.u8 a)))] [(1,some (cT b d e f g i j k l m)),(3,some (cT n o p q s t u w x y)),(4,some (cT z A B D E G H I J L))])
def wq (run:RunT) (a b:UInt8) (d:Bool) (e f g i:UInt8) (j:Bool) (k:UInt8) (l:List UInt8) (m n:UInt8) (o:Bool) (p q s t:UInt8) (u:Bool) (w:UInt8) (x:List UInt8):Option AV :=
 run ((bL 14 o8 []).getD []) (St.bU [(1, .cell (.ptr 1 0)),(4, .cell (.ptr 4 0))] [(1,some (cT a b d e f g i j k l)),(4,some (cT m n o p q s t u w x))])
def AJ (run:RunT) (a b d:UInt8) (e:Bool) (f g i j:UInt8) (k:Bool) (l:UInt8) (m:List UInt8) (n o:UInt8) (p:Bool) (q s t u:UInt8) (w:Bool) (x:UInt8) (y:List UInt8) (z A:UInt8) (B:Bool) (D E G H:UInt8) (I:Bool) (J:UInt8) (L:List UInt8):Option AV :=
 run ((bL 16 o8 []).getD []) (St.bU [(1, .cell (.ptr 1 0)),(3, .cell (.ptr 3 0)),(4, .cell (.ptr 4 0)),(48, .cell (.val (.u8 a)))] [(1,some (cT b d e f g i j k l m)),(3,some (cT n o p q s t u w x y)),(4,some (cT z A B D E G H I J L))])
def sG (run:RunT) (a b:UInt8) (d:Bool) (e f g i:UInt8) (j:Bool) (k:UInt8) (l:List UInt8):Option AV :=
 run ((bL 27 o8 []).getD []) (St.bU [(1, .cell (.ptr 1 0))] [(1,some (cT a b d e f g i j k l))])
def AK (run:RunT) (a b:UInt8) (d:Bool) (e f g i:UInt8) (j:Bool) (k:UInt8) (l:List UInt8) (m n:UInt8) (o:Bool) (p q s t:UInt8) (u:Bool) (w:UInt8) (x:List UInt8):Option AV :=
 run ((bL 28 o8 []).getD []) (St.bU [(1, .cell (.ptr 1 0)),(3, .cell (.ptr 3 0))] [(1,some (cT a b d e f g i j k l)),(3,some (cT m n o p q s t u w x))])
def YB (a b:UInt8) (d:Bool) (e f g i:UInt8) (j:Bool) (k:UInt8) (l:List UInt8) (c:al) (r:RunT):Option AV :=
 (aq (.b (ET a 20)) false (some (.b (ET b 4))) (.b true)).bind fun m=>(aq m false (some (.b (ET e 4))) (.b true)).bind fun n=>(aq n false (some (.b (ET g 5))) (.b true)).bind fun o=>(aq o false (some (.b (ET i 6))) (.b true)).bind fun p=>(aq p false ((aq (.b d) true (some (.b (nW b 0))) (.b false)).bind fun q=>some q) (.b true)).bind fun s=>ah s
 (some (.b false))
 (ah (.b (aK a 3))
 ((aq (.b ((a == a && (b == 0 && (d == d && (e == 0 && (f == 0 && (g == 0 && (i == 0 && (j == false && (k == 0 && (l == l && true)))))))))))) true ((c 28 [.s l, .int 32]).bind fun t=>some t) (.b false)).bind fun u=>some u)
 (ah (.b (aK a 4))
 (sF r a b d e f g i j k l a b d 0 0 0 0 false 0 [])
 (ah (.b (aK a 9))
 (sF r a b d e f g i j k l a b d 0 0 0 0 false 0 [])
 (ah (.b (aK a 10))
 (sF r a b d e f g i j k l a b d 0 0 0 0 false 0 [])
 (AH r a a b d e f g i j k l a 0 false 0 0 0 0 false 0 [] a b d 0 0 0 0 false 0 [])))))
theorem c17 (a b d e f g i j k l) {r:AV} (h:YB a b d e f g i j k l (ae (C mx) Tryz.prog) (af (C mx) Tryz.prog 17 Tryz.f17)=some r):ae (C mx) Tryz.prog 17 [.ag [.u8 a, .u8 b, .b d, .u8 e, .u8 f, .u8 g, .u8 i, .b j, .u8 k, .s l]]=some r :=
 aj (fun _ _=>by kernel_rfl) h
def GH (a b:UInt8) (d:Bool) (e f g i:UInt8) (j:Bool) (k:UInt8) (l:List UInt8) (m n:UInt8) (o:Bool) (p q s t:UInt8) (u:Bool) (w:UInt8) (x:List UInt8) (c:al) (r:RunT):Option AV :=
 some (.b ((a == m && (b == n && (d == o && (e == p && (f == q && (g == s && (i == t && (j == u && (k == w && (l == x && true))))))))))))
def GI (a b d:UInt8) (e:Bool) (f g i j:UInt8) (k:Bool) (l:UInt8) (m:List UInt8) (n o:UInt8) (p:Bool) (q s t u:UInt8) (w:Bool) (x:UInt8) (y:List UInt8) (z A:UInt8) (B:Bool) (D E G H:UInt8) (I:Bool) (J:UInt8) (L:List UInt8) (c:al) (r:RunT):Option AV :=
 ah (.b (aK a 5))
 (wq r b d e f g i j k l m z A B D E G H I J L)
 (ah (.b (aK a 6))
 (wq r b d e f g i j k l m z A B D E G H I J L)
 (AJ r a b d e f g i j k l m n o p q s t u w x y z A B D E G H I J L))
def GJ (a b:UInt8) (d:Bool) (e f g i:UInt8) (j:Bool) (k:UInt8) (l:List UInt8) (m n:UInt8) (o:Bool) (p q s t:UInt8) (u:Bool) (w:UInt8) (x:List UInt8) (c:al) (r:RunT):Option AV :=
 (aq (.b ((a == m && (b == n && (d == o && (e == p && (f == q && (g == s && (i == t && (j == u && (k == w && (l == l && true)))))))))))) true ((c 28 [.s l, .int 32]).bind fun y=>some y) (.b false)).bind fun z=>some z
def GK (a b d:UInt8) (e:Bool) (f g i j:UInt8) (k:Bool) (l:UInt8) (m:List UInt8) (n o:UInt8) (p:Bool) (q s t u:UInt8) (w:Bool) (x:UInt8) (y:List UInt8) (z A:UInt8) (B:Bool) (D E G H:UInt8) (I:Bool) (J:UInt8) (L:List UInt8) (c:al) (r:RunT):Option AV :=
 ah (.b (aK a 7))
 (some (.b ((b == z && (d == A && (e == B && (f == f && (g == E && (i == G && (j == H && (k == I && (l == J && (m == L && true)))))))))))))
 (ah (.b (aK a 8))
 ((c 29 [.ag [.u8 b, .u8 d, .b e, .u8 f, .u8 g, .u8 i, .u8 j, .b k, .u8 l, .s m], .ag [.u8 z, .u8 A, .b B, .u8 D, .u8 E, .u8 G, .u8 H, .b I, .u8 J, .s L]]).bind fun M=>some M)
 (ah (.b (aK a 15))
 ((aq (.b ((b == n && (d == o && (e == p && (f == q && (g == s && (i == t && (j == u && (k == w && (l == l && (m == y && true)))))))))))) true (some (.b (ule l 2))) (.b false)).bind fun N=>some N)
 (ah (.b (aK a 17))
 (sG r b d e f g i j k l m)
 (ah (.b (aK a 18))
 (sG r b d e f g i j k l m)
 (ah (.b (aK a 19))
 (sG r b d e f g i j k l m)
 (AK r b d e f g i j k l m n o p q s t u w x y))))))
def GL (a b:UInt8) (d:Bool) (e f g i:UInt8) (j:Bool) (k:UInt8) (l:List UInt8) (c:al) (r:RunT):Option AV :=
 (c 30 [.ag [.u8 a, .u8 b, .b d, .u8 e, .u8 f, .u8 g, .u8 i, .b j, .u8 k, .s l]]).bind fun m=>some m
def GM (a b:UInt8) (d:Bool) (e f g i:UInt8) (j:Bool) (k:UInt8) (l:List UInt8) (m n:UInt8) (o:Bool) (p q s t:UInt8) (u:Bool) (w:UInt8) (x:List UInt8) (c:al) (r:RunT):Option AV :=
 some (.b ((a == m && (b == n && (d == o && (e == p && (f == q && (g == s && (i == t && (j == u && (k == w && (l == x && true))))))))))))
theorem Oj (a b d e f g i j k l m n o p q s t u w x) {r:AV} (h:GH a b d e f g i j k l m n o p q s t u w x (ae (C mx) Tryz.prog) (af (C mx) Tryz.prog 17 Tryz.f17)=some r):sF (af (C mx) Tryz.prog 17 Tryz.f17) a b d e f g i j k l m n o p q s t u w x=some r :=
 ak (fun _ _=>by kernel_rfl) h
theorem Ok (a b d e f g i j k l m n o p q s t u w x y z A B D E G H I J L) {r:AV} (h:GI a b d e f g i j k l m n o p q s t u w x y z A B D E G H I J L (ae (C mx) Tryz.prog) (af (C mx) Tryz.prog 17 Tryz.f17)=some r):AH (af (C mx) Tryz.prog 17 Tryz.f17) a b d e f g i j k l m n o p q s t u w x y z A B D E G H I J L=some r :=
 ak (fun _ _=>by kernel_rfl) h
theorem Ol (a b d e f g i j k l m n o p q s t u w x) {r:AV} (h:GJ a b d e f g i j k l m n o p q s t u w x (ae (C mx) Tryz.prog) (af (C mx) Tryz.prog 17 Tryz.f17)=some r):wq (af (C mx) Tryz.prog 17 Tryz.f17) a b d e f g i j k l m n o p q s t u w x=some r :=
 ak (fun _ _=>by kernel_rfl) h
theorem Om (a b d e f g i j k l m n o p q s t u w x y z A B D E G H I J L) {r:AV} (h:GK a b d e f g i j k l m n o p q s t u w x y z A B D E G H I J L (ae (C mx) Tryz.prog) (af (C mx) Tryz.prog 17 Tryz.f17)=some r):AJ (af (C mx) Tryz.prog 17 Tryz.f17) a b d e f g i j k l m n o p q s t u w x y z A B D E G H I J L=some r :=
 ak (fun _ _=>by kernel_rfl) h
theorem On (a b d e f g i j k l) {r:AV} (h:GL a b d e f g i j k l (ae (C mx) Tryz.prog) (af (C mx) Tryz.prog 17 Tryz.f17)=some r):sG (af (C mx) Tryz.prog 17 Tryz.f17) a b d e f g i j k l=some r :=
 ak (fun _ _=>by kernel_rfl) h
theorem Oo (a b d e f g i j k l m n o p q s t u w x) {r:AV} (h:GM a b d e f g i j k l m n o p q s t u w x (ae (C mx) Tryz.prog) (af (C mx) Tryz.prog 17 Tryz.f17)=some r):AK (af (C mx) Tryz.prog 17 Tryz.f17) a b d e f g i j k l m n o p q s t u w x=some r :=
 ak (fun _ _=>by kernel_rfl) h
def YC (a b:UInt8) (d:Bool) (e f g i:UInt8) (j:Bool) (k:UInt8) (l:List UInt8) (c:al) (r:RunT):Option AV :=
 (aq (.b (decide ((bJ (a.toNat:Int)) > 20))) false (some (.b (ET b 4))) (.b true)).bind fun m=>(aq m false (some (.b (ET e 4))) (.b true)).bind fun n=>(aq n false (some (.b (ET g 5))) (.b true)).bind fun o=>(aq o false (some (.b (ET i 6))) (.b true)).bind fun p=>(aq p false (some (.b (ET k 2))) (.b true)).bind fun q=>ah q
 (some (.b false))
 ((aq (.b (decide ((bJ (a.toNat:Int)) ≥ 4))) true (some (.b (decide ((bJ (a.toNat:Int))≤10)))) (.b false)).bind fun s=>(aq (.b (decide ((bJ (a.toNat:Int)) ≥ 17))) true (some (.b (decide ((bJ (a.toNat:Int))≤19)))) (.b false)).bind fun t=>(aq (.b (nW b 0)) true ((unop .not s).bind fun u=>some u) (.b false)).bind fun w=>(aq w true ((unop .not t).bind fun x=>some x) (.b false)).bind fun y=>(aq y false ((aq t true (some (.b (aK b 0))) (.b false)).bind fun z=>some z) (.b true)).bind fun A=>ah A
 (some (.b false))
 ((aq (.b d) true ((aq (.b ((bJ (a.toNat:Int)) != 3)) true ((unop .not s).bind fun B=>some B) (.b false)).bind fun D=>(aq D false (some (.b (nW b 0))) (.b true)).bind fun E=>some E) (.b false)).bind fun G=>ah G
 (some (.b false))
 ((aq (.b (nW e 0)) true (some (.b ((bJ (a.toNat:Int)) != 7))) (.b false)).bind fun H=>(aq H true (some (.b ((bJ (a.toNat:Int)) != 8))) (.b false)).bind fun I=>ah I
 (some (.b false))
 ((aq (.b (nW f 0)) true ((aq (.b ((bJ (a.toNat:Int)) != 8)) false ((aq (.b (nW f 34)) true (some (.b (nW f 39))) (.b false)).bind fun J=>some J) (.b true)).bind fun L=>some L) (.b false)).bind fun M=>ah M
 (some (.b false))
 ((aq (.b (nW g 0)) true ((aq (.b ((bJ (a.toNat:Int)) != 8)) false (some (.b (nW e 1))) (.b true)).bind fun N=>some N) (.b false)).bind fun O=>ah O
 (some (.b false))
 ((aq (.b (nW k 0)) true (some (.b ((bJ (a.toNat:Int)) != 15))) (.b false)).bind fun P=>ah P
 (some (.b false))
 ((aq (.b ((bJ (a.toNat:Int)) == 8)) true (some (.b (aK e 3))) (.b false)).bind fun Q=>(aq Q false ((aq t true (some (.b (aK b 4))) (.b false)).bind fun R=>some R) (.b true)).bind fun T=>(aq (.b (nW i 0)) true ((c 34 [.ag [.u8 a, .u8 b, .b d, .u8 e, .u8 f, .u8 g, .u8 i, .b j, .u8 k, .s l]]).bind fun U=>(unop .not U).bind fun V=>some V) (.b false)).bind fun W=>(aq W false ((aq T true (some (.b (aK i 4))) (.b false)).bind fun Y=>some Y) (.b true)).bind fun Z=>ah Z
 (some (.b false))
 ((aq (.b j) true (some (.b (nW i 1))) (.b false)).bind fun v0=>(aq v0 true (some (.b (nW i 2))) (.b false)).bind fun v1=>ah v1
 (some (.b false))
 ((aq (.b ((bJ (a.toNat:Int)) == 3)) false (some (.b ((bJ (a.toNat:Int)) == 5))) (.b true)).bind fun v2=>(aq v2 false (some (.b ((bJ (a.toNat:Int)) == 6))) (.b true)).bind fun v3=>ah v3
 ((c 35 [.s l, .int 32]).bind fun v4=>some v4)
 ((aq (.b ((bJ (a.toNat:Int)) == 8)) true (some (.b (aK e 1))) (.b false)).bind fun v5=>(aq v5 true (some (.b (aK g 1))) (.b false)).bind fun v6=>ah v6
 ((c 35 [.s l, .int 16]).bind fun v7=>some v7)
 (ah (.b ((bJ (a.toNat:Int)) == 19))
 ((c 36 [.int (bJ (b.toNat:Int))]).bind fun v8=>(iO v8).bind fun v9=>(aD .leq (.int ((l.length:Int))) v9).bind fun w0=>(aq (w0) true ((ic v8 none (some (.int ((l.length:Int))))).bind fun w1=>(cr .eql (w1) (.s l)).bind fun w2=>some (w2)) (.b false)).bind fun w3=>some (w3))
 (some (.b (l == []))))))))))))))
theorem c20 (a b d e f g i j k l) {r:AV} (h:YC a b d e f g i j k l (ae (C mx) Tryz.prog) (af (C mx) Tryz.prog 20 Tryz.f20)=some r):ae (C mx) Tryz.prog 20 [.ag [.u8 a, .u8 b, .b d, .u8 e, .u8 f, .u8 g, .u8 i, .b j, .u8 k, .s l]]=some r :=
 aj (fun _ _=>by kernel_rfl) h
def Cm (run:RunT) (a:List UInt8) (b d e:Int):Option AV :=
 run ((bL 2 ((Tryz.f28.body).getD .skip) []).getD []) (St.bU [(0, .cell (.val (.s a))),(1, .cell (.val (.int b))),(7, .cell (.val (.int d))),(8, .cell (.val (.int e)))] [])
def YD (a:List UInt8) (b:Int) (c:al) (r:RunT):Option AV :=
 Cm r a b ((a.length:Int)) 0
theorem c28 (a b) {r:AV} (h:YD a b (ae (C mx) Tryz.prog) (af (C mx) Tryz.prog 28 Tryz.f28)=some r):ae (C mx) Tryz.prog 28 [.s a, .int b]=some r :=
 aj (fun _ _=>by kernel_rfl) h
def GN (a:List UInt8) (b d e:Int) (c:al) (r:RunT):Option AV :=
 ah (.b (decide (e < d)))
 ((df (.s a) (.int e)).bind fun f=>(aD .geq f (.u8 65)).bind fun g=>(aq g true ((df (.s a) (.int e)).bind fun i=>(aD .leq i (.u8 90)).bind fun j=>some j) (.b false)).bind fun k=>ah k
 (some (.b false))
 (Cm r a b d (bJ (e+1))))
 ((aq (.b (decide (((a.length:Int)) ≥ 1))) true (some (.b (decide (((a.length:Int))≤b)))) (.b false)).bind fun l=>some l)
theorem Mj (a b d e) {r:AV} (h:GN a b d e (ae (C mx) Tryz.prog) (af (C mx) Tryz.prog 28 Tryz.f28)=some r):Cm (af (C mx) Tryz.prog 28 Tryz.f28) a b d e=some r :=
 ak (fun _ _=>by kernel_rfl) h
def GO:Code:=(Tryz.f29.body).getD .skip
def wu (run:RunT) (a b:UInt8) (d:Bool) (e f g i:UInt8) (j:Bool) (k:UInt8) (l:List UInt8) (m n:UInt8) (o:Bool) (p q s t:UInt8) (u:Bool) (w:UInt8) (x:List UInt8):Option AV :=
 run ((bL 14 GO []).getD []) (St.bU [(2, .cell (.ptr 2 0)),(3, .cell (.ptr 3 0))] [(2,some (cT a b d e f g i j k l)),(3,some (cT m n o p q s t u w x))])
def wx (run:RunT) (a b:UInt8) (d:Bool) (e f g i:UInt8) (j:Bool) (k:UInt8) (l:List UInt8) (m n:UInt8) (o:Bool) (p q s t:UInt8) (u:Bool) (w:UInt8) (x:List UInt8):Option AV :=
 run ((bL 12 GO []).getD []) (St.bU [(2, .cell (.ptr 2 0)),(3, .cell (.ptr 3 0))] [(2,some (cT a b d e f g i j k l)),(3,some (cT m n o p q s t u w x))])
def YE (a b:UInt8) (d:Bool) (e f g i:UInt8) (j:Bool) (k:UInt8) (l:List UInt8) (m n:UInt8) (o:Bool) (p q s t:UInt8) (u:Bool) (w:UInt8) (x:List UInt8) (c:al) (r:RunT):Option AV :=
 (aq (.b (nW f 0)) true (some (.b (nW f 34))) (.b false)).bind fun y=>(aq y true (some (.b (nW f 39))) (.b false)).bind fun z=>ah z
 (some (.b false))
 (ah (.b (aK e 1))
 (ah (.b (aK g 1))
 ((aq (.b ((a == m && (b == n && (d == o && (e == e && (f == f && (g == g && (i == t && (j == u && (k == w && (l == l && true)))))))))))) true ((c 28 [.s l, .int 16]).bind fun A=>some A) (.b false)).bind fun B=>some B)
 (wu r a b d e f g i j k l m n o e f g t u w x))
 (ah (.b (aK e 2))
 (wx r a b d e f g i j k l m n o e f s t u w x)
 (ah (.b (aK e 3))
 (wx r a b d e f g i j k l m n o e f s t u w x)
 (wu r a b d e f g i j k l m n o e f s t u w x))))
theorem c29 (a b d e f g i j k l m n o p q s t u w x) {r:AV} (h:YE a b d e f g i j k l m n o p q s t u w x (ae (C mx) Tryz.prog) (af (C mx) Tryz.prog 29 Tryz.f29)=some r):ae (C mx) Tryz.prog 29 [.ag [.u8 a, .u8 b, .b d, .u8 e, .u8 f, .u8 g, .u8 i, .b j, .u8 k, .s l], .ag [.u8 m, .u8 n, .b o, .u8 p, .u8 q, .u8 s, .u8 t, .b u, .u8 w, .s x]]=some r :=
 aj (fun _ _=>by kernel_rfl) h
def GP (a b:UInt8) (d:Bool) (e f g i:UInt8) (j:Bool) (k:UInt8) (l:List UInt8) (m n:UInt8) (o:Bool) (p q s t:UInt8) (u:Bool) (w:UInt8) (x:List UInt8) (c:al) (r:RunT):Option AV :=
 some (.b ((a == m && (b == n && (d == o && (e == p && (f == q && (g == s && (i == t && (j == u && (k == w && (l == x && true))))))))))))
def GQ (a b:UInt8) (d:Bool) (e f g i:UInt8) (j:Bool) (k:UInt8) (l:List UInt8) (m n:UInt8) (o:Bool) (p q s t:UInt8) (u:Bool) (w:UInt8) (x:List UInt8) (c:al) (r:RunT):Option AV :=
 (aq (.b ((a == m && (b == n && (d == o && (e == p && (f == q && (g == s && (i == i && (j == j && (k == w && (l == x && true)))))))))))) true ((c 41 [.ag [.u8 a, .u8 b, .b d, .u8 e, .u8 f, .u8 g, .u8 i, .b j, .u8 k, .s l], .b (aK e 2)]).bind fun y=>some y) (.b false)).bind fun z=>some z
theorem Oq (a b d e f g i j k l m n o p q s t u w x) {r:AV} (h:GP a b d e f g i j k l m n o p q s t u w x (ae (C mx) Tryz.prog) (af (C mx) Tryz.prog 29 Tryz.f29)=some r):wu (af (C mx) Tryz.prog 29 Tryz.f29) a b d e f g i j k l m n o p q s t u w x=some r :=
 ak (fun _ _=>by kernel_rfl) h
theorem Ot (a b d e f g i j k l m n o p q s t u w x) {r:AV} (h:GQ a b d e f g i j k l m n o p q s t u w x (ae (C mx) Tryz.prog) (af (C mx) Tryz.prog 29 Tryz.f29)=some r):wx (af (C mx) Tryz.prog 29 Tryz.f29) a b d e f g i j k l m n o p q s t u w x=some r :=
 ak (fun _ _=>by kernel_rfl) h
def GR:Code:=(Tryz.f30.body).getD .skip
def Cn (run:RunT) (a b:UInt8) (d:Bool) (e f g i:UInt8) (j:Bool) (k:UInt8) (l:List UInt8) (m n:UInt8) (o:Bool) (p q s t:UInt8) (u:Bool) (w:UInt8) (x:List UInt8):Option AV :=
 run ((bL 4 GR []).getD []) (St.bU [(1, .cell (.ptr 1 0)),(3, .cell (.ptr 3 0))] [(1,some (cT a b d e f g i j k l)),(3,some (cT m n o p q s t u w x))])
def Co (run:RunT) (a b:UInt8) (d:Bool) (e f g i:UInt8) (j:Bool) (k:UInt8) (l:List UInt8) (m n:UInt8) (o:Bool) (p q s t:UInt8) (u:Bool) (w:UInt8) (x:List UInt8):Option AV :=
 run ((bL 6 GR []).getD []) (St.bU [(1, .cell (.ptr 1 0)),(3, .cell (.ptr 3 0))] [(1,some (cT a b d e f g i j k l)),(3,some (cT m n o p q s t u w x))])
def YF (a b:UInt8) (d:Bool) (e f g i:UInt8) (j:Bool) (k:UInt8) (l:List UInt8) (c:al) (r:RunT):Option AV :=
 ah (.b (aK a 19))
 (Cn r a b d e f g i j k l a b false 0 0 0 0 false 0 l)
 (Cn r a b d e f g i j k l a b false 0 0 0 0 false 0 [])
theorem c30 (a b d e f g i j k l) {r:AV} (h:YF a b d e f g i j k l (ae (C mx) Tryz.prog) (af (C mx) Tryz.prog 30 Tryz.f30)=some r):ae (C mx) Tryz.prog 30 [.ag [.u8 a, .u8 b, .b d, .u8 e, .u8 f, .u8 g, .u8 i, .b j, .u8 k, .s l]]=some r :=
 aj (fun _ _=>by kernel_rfl) h
def Mk (a b:UInt8) (d:Bool) (e f g i:UInt8) (j:Bool) (k:UInt8) (l:List UInt8) (m n:UInt8) (o:Bool) (p q s t:UInt8) (u:Bool) (w:UInt8) (x:List UInt8) (c:al) (r:RunT):Option AV :=
 (aq (.b (aK b 3)) false (some (.b (aK b 4))) (.b true)).bind fun y=>ah y
 (Co r a b d e f g i j k l m n o p q s i j w x)
 (Co r a b d e f g i j k l m n o p q s t u w x)
def Ml (a b:UInt8) (d:Bool) (e f g i:UInt8) (j:Bool) (k:UInt8) (l:List UInt8) (m n:UInt8) (o:Bool) (p q s t:UInt8) (u:Bool) (w:UInt8) (x:List UInt8) (c:al) (r:RunT):Option AV :=
 (aq (.b ((a == m && (b == n && (d == o && (e == p && (f == q && (g == s && (i == t && (j == u && (k == w && (l == x && true)))))))))))) true (some (.b (nW b 0))) (.b false)).bind fun y=>(aq y true ((c 43 [.u8 b]).bind fun z=>(c 42 [z, .s l]).bind fun A=>some A) (.b false)).bind fun B=>(aq B true ((c 41 [.ag [.u8 a, .u8 b, .b d, .u8 e, .u8 f, .u8 g, .u8 i, .b j, .u8 k, .s l], .b (aK b 3)]).bind fun D=>some D) (.b false)).bind fun E=>some E
theorem RG (a b d e f g i j k l m n o p q s t u w x) {r:AV} (h:Mk a b d e f g i j k l m n o p q s t u w x (ae (C mx) Tryz.prog) (af (C mx) Tryz.prog 30 Tryz.f30)=some r):Cn (af (C mx) Tryz.prog 30 Tryz.f30) a b d e f g i j k l m n o p q s t u w x=some r :=
 ak (fun _ _=>by kernel_rfl) h
theorem RH (a b d e f g i j k l m n o p q s t u w x) {r:AV} (h:Ml a b d e f g i j k l m n o p q s t u w x (ae (C mx) Tryz.prog) (af (C mx) Tryz.prog 30 Tryz.f30)=some r):Co (af (C mx) Tryz.prog 30 Tryz.f30) a b d e f g i j k l m n o p q s t u w x=some r :=
 ak (fun _ _=>by kernel_rfl) h
def YG (a b:UInt8) (d:Bool) (e f g i:UInt8) (j:Bool) (k:UInt8) (l:List UInt8) (c:al) (r:RunT):Option AV :=
 (aq (.b ((bJ (a.toNat:Int)) == 8)) true ((aq (.b (aK e 2)) false (some (.b (aK e 3))) (.b true)).bind fun m=>some m) (.b false)).bind fun n=>(aq n false ((aq (.b (decide ((bJ (a.toNat:Int)) ≥ 17))) true (some (.b (decide ((bJ (a.toNat:Int))≤19)))) (.b false)).bind fun o=>(aq o true ((aq (.b (aK b 3)) false (some (.b (aK b 4))) (.b true)).bind fun p=>some p) (.b false)).bind fun q=>some q) (.b true)).bind fun s=>some s
theorem c34 (a b d e f g i j k l) {r:AV} (h:YG a b d e f g i j k l (ae (C mx) Tryz.prog) (af (C mx) Tryz.prog 34 Tryz.f34)=some r):ae (C mx) Tryz.prog 34 [.ag [.u8 a, .u8 b, .b d, .u8 e, .u8 f, .u8 g, .u8 i, .b j, .u8 k, .s l]]=some r :=
 aj (fun _ _=>by kernel_rfl) h
def Cq (run:RunT) (a:List UInt8) (b d:Int):Option AV :=
 run ((bL 2 ((Tryz.f35.body).getD .skip) []).getD []) (St.bU [(0, .cell (.val (.s a))),(1, .cell (.val (.int b))),(5, .cell (.val (.int d)))] [])
def X35 (a:List UInt8) (b:Int) (c:al) (r:RunT):Option AV :=
 Cq r a b 0
theorem c35 (a b) {r:AV} (h:X35 a b (ae (C mx) Tryz.prog) (af (C mx) Tryz.prog 35 Tryz.f35)=some r):ae (C mx) Tryz.prog 35 [.s a, .int b]=some r :=
 aj (fun _ _=>by kernel_rfl) h
def GS (a:List UInt8) (b d:Int) (c:al) (r:RunT):Option AV :=
 ah (.b (decide (d < ((a.length:Int)))))
 ((df (.s a) (.int d)).bind fun e=>(aD .geq e (.u8 65)).bind fun f=>(aq f true ((df (.s a) (.int d)).bind fun g=>(aD .leq g (.u8 90)).bind fun i=>some i) (.b false)).bind fun j=>ah j
 (some (.b false))
 (Cq r a b (bJ (d+1))))
 ((aq (.b (decide (((a.length:Int)) > 0))) true (some (.b (decide (((a.length:Int))≤b)))) (.b false)).bind fun k=>some k)
theorem Mm (a b d) {r:AV} (h:GS a b d (ae (C mx) Tryz.prog) (af (C mx) Tryz.prog 35 Tryz.f35)=some r):Cq (af (C mx) Tryz.prog 35 Tryz.f35) a b d=some r :=
 ak (fun _ _=>by kernel_rfl) h
def X36 (a:Int) (c:al) (r:RunT):Option AV :=
 (aq (.b (decide (a < 0))) false (some (.b (decide (a > 4)))) (.b true)).bind fun b=>ah b
 (some (.s []))
 ((lZ (([.s [], .s [116,101,120,116,97,114,101,97], .s [116,105,116,108,101], .s [115,99,114,105,112,116], .s [115,116,121,108,101]]:List AV)).length (.int a)).bind fun d=>some (AV.cell ((([.s [], .s [116,101,120,116,97,114,101,97], .s [116,105,116,108,101], .s [115,99,114,105,112,116], .s [115,116,121,108,101]]:List AV)).getD d .un) 0))
theorem c36 a {r:AV} (h:X36 a (ae (C mx) Tryz.prog) (af (C mx) Tryz.prog 36 Tryz.f36)=some r):ae (C mx) Tryz.prog 36 [.int a]=some r :=
 aj (fun _ _=>by kernel_rfl) h
def YH (a b:UInt8) (d:Bool) (e f g i:UInt8) (j:Bool) (k:UInt8) (l:List UInt8) (m:Bool) (c:al) (r:RunT):Option AV :=
 (aq (.b (!m)) true (some (.b (aK i 4))) (.b false)).bind fun n=>ah n
 (some (.b false))
 ((aq (.b (!j)) false (some (.b (aK i 1))) (.b true)).bind fun o=>(aq o false (some (.b (aK i 2))) (.b true)).bind fun p=>some p)
theorem c41 (a b d e f g i j k l m) {r:AV} (h:YH a b d e f g i j k l m (ae (C mx) Tryz.prog) (af (C mx) Tryz.prog 41 Tryz.f41)=some r):ae (C mx) Tryz.prog 41 [.ag [.u8 a, .u8 b, .b d, .u8 e, .u8 f, .u8 g, .u8 i, .b j, .u8 k, .s l], .b m]=some r :=
 aj (fun _ _=>by kernel_rfl) h
def RI (a b:List UInt8) (c:al) (r:RunT):Option AV :=
 (c 57 [.s a, .s b]).bind fun d=>some d
theorem VU (a b) {r:AV} (h:RI a b (ae (C mx) Tryz.prog) (af (C mx) Tryz.prog 42 Tryz.f42)=some r):ae (C mx) Tryz.prog 42 [.s a, .s b]=some r :=
 aj (fun _ _=>by kernel_rfl) h
def X43 (a:UInt8) (c:al) (r:RunT):Option AV :=
 ah (.b (aK a 1))
 (some (.s [116,101,120,116,97,114,101,97]))
 (ah (.b (aK a 2))
 (some (.s [116,105,116,108,101]))
 (ah (.b (aK a 3))
 (some (.s [115,99,114,105,112,116]))
 (ah (.b (aK a 4))
 (some (.s [115,116,121,108,101]))
 (some (.s [])))))
theorem c43 a {r:AV} (h:X43 a (ae (C mx) Tryz.prog) (af (C mx) Tryz.prog 43 Tryz.f43)=some r):ae (C mx) Tryz.prog 43 [.u8 a]=some r :=
 aj (fun _ _=>by kernel_rfl) h
def YI (a b:UInt8) (d:Bool) (e f g i:UInt8) (j:Bool) (k:UInt8) (l:List UInt8) (c:al) (r:RunT):Option AV :=
 ah (.b (aK a 0))
 (some (.u8 1))
 ((aq (.b (aK a 17)) true ((aq (.b (aK b 1)) false (some (.b (aK b 2))) (.b true)).bind fun m=>some m) (.b false)).bind fun n=>ah n
 (some (.u8 2))
 ((aq (.b (aK a 17)) true (some (.b (aK b 3))) (.b false)).bind fun o=>(aq o true ((c 63 [.ag [.u8 a, .u8 b, .b d, .u8 e, .u8 f, .u8 g, .u8 i, .b j, .u8 k, .s l]]).bind fun p=>some p) (.b false)).bind fun q=>ah q
 (some (.u8 7))
 ((aq (.b (aK a 17)) true (some (.b (aK b 4))) (.b false)).bind fun s=>(aq s true ((c 63 [.ag [.u8 a, .u8 b, .b d, .u8 e, .u8 f, .u8 g, .u8 i, .b j, .u8 k, .s l]]).bind fun t=>some t) (.b false)).bind fun u=>ah u
 (some (.u8 9))
 ((aq (.b (nW a 8)) false (some (.b (aK f 0))) (.b true)).bind fun w=>ah w
 (some (.u8 0))
 (ah (.b (aK e 0))
 (some (.u8 3))
 ((aq (.b (aK e 2)) true ((c 63 [.ag [.u8 a, .u8 b, .b d, .u8 e, .u8 f, .u8 g, .u8 i, .b j, .u8 k, .s l]]).bind fun x=>some x) (.b false)).bind fun y=>ah y
 (some (.u8 8))
 ((aq (.b (aK e 3)) true ((c 63 [.ag [.u8 a, .u8 b, .b d, .u8 e, .u8 f, .u8 g, .u8 i, .b j, .u8 k, .s l]]).bind fun z=>some z) (.b false)).bind fun A=>ah A
 (some (.u8 10))
 (ah (.b (nW e 1))
 (some (.u8 0))
 (ah (.b (aK g 0))
 (some (.u8 4))
 (ah (.b (aK g 3))
 (some (.u8 5))
 (ah (.b (aK g 4))
 (some (.u8 6))
 (some (.u8 0)))))))))))))
theorem c50 (a b d e f g i j k l) {r:AV} (h:YI a b d e f g i j k l (ae (C mx) Tryz.prog) (af (C mx) Tryz.prog 50 Tryz.f50)=some r):ae (C mx) Tryz.prog 50 [.ag [.u8 a, .u8 b, .b d, .u8 e, .u8 f, .u8 g, .u8 i, .b j, .u8 k, .s l]]=some r :=
 aj (fun _ _=>by kernel_rfl) h
def Cr (run:RunT) (a b:UInt8) (d:Bool) (e f g i:UInt8) (j:Bool) (k:UInt8) (l:List UInt8) (m n:UInt8) (o:Bool) (p q s t:UInt8) (u:Bool) (w:UInt8) (x:List UInt8):Option AV :=
 run ((bL 6 ((Tryz.f51.body).getD .skip) []).getD []) (St.bU [(1, .cell (.ptr 1 0)),(2, .cell (.ptr 2 0))] [(1,some (cT a b d e f g i j k l)),(2,some (cT m n o p q s t u w x))])
def YJ (a b:UInt8) (d:Bool) (e f g i:UInt8) (j:Bool) (k:UInt8) (l:List UInt8) (c:al) (r:RunT):Option AV :=
 (c 50 [.ag [.u8 a, .u8 b, .b d, .u8 e, .u8 f, .u8 g, .u8 i, .b j, .u8 k, .s l]]).bind fun m=>(aD .eql m (.u8 0)).bind fun n=>ah n
 (some (.ag [.u8 20, .u8 0, .b false, .u8 0, .u8 0, .u8 0, .u8 0, .b false, .u8 0, .s []]))
 ((aD .eql m (.u8 4)).bind fun o=>ah o
 (Cr r a b d e f 2 i j k l 0 0 false 0 0 0 0 false 0 [])
 (Cr r a b d e f g i j k l 0 0 false 0 0 0 0 false 0 []))
theorem c51 (a b d e f g i j k l) {r:AV} (h:YJ a b d e f g i j k l (ae (C mx) Tryz.prog) (af (C mx) Tryz.prog 51 Tryz.f51)=some r):ae (C mx) Tryz.prog 51 [.ag [.u8 a, .u8 b, .b d, .u8 e, .u8 f, .u8 g, .u8 i, .b j, .u8 k, .s l]]=some r :=
 aj (fun _ _=>by kernel_rfl) h
def RJ (a b:UInt8) (d:Bool) (e f g i:UInt8) (j:Bool) (k:UInt8) (l:List UInt8) (m n:UInt8) (o:Bool) (p q s t:UInt8) (u:Bool) (w:UInt8) (x:List UInt8) (c:al) (r:RunT):Option AV :=
 some (.ag [.u8 a, .u8 b, .b d, .u8 e, .u8 f, .u8 g, .u8 i, .b j, .u8 k, .s l])
theorem RL (a b d e f g i j k l m n o p q s t u w x) {r:AV} (h:RJ a b d e f g i j k l m n o p q s t u w x (ae (C mx) Tryz.prog) (af (C mx) Tryz.prog 51 Tryz.f51)=some r):Cr (af (C mx) Tryz.prog 51 Tryz.f51) a b d e f g i j k l m n o p q s t u w x=some r :=
 ak (fun _ _=>by kernel_rfl) h
def kO (run:RunT)  : Option AV :=
 run ((bL 32 ((Tryz.f55.body).getD .skip) []).getD []) (St.bU [] [])
def YK (a b:UInt8) (d:Bool) (e f g i:UInt8) (j:Bool) (k:UInt8) (l:List UInt8) (c:al) (r:RunT):Option AV :=
 (aq (.b (aK i 1)) false (some (.b (aK i 2))) (.b true)).bind fun m=>(aq m true (some (.b (!j))) (.b false)).bind fun n=>ah (.b ((bJ (a.toNat:Int)) == 0))
 (some (.int 1))
 (ah (.b ((bJ (a.toNat:Int)) == 17))
 ((aq (.b (aK b 1)) false (some (.b (aK b 2))) (.b true)).bind fun o=>ah o
 (some (.int 2))
 ((aq n true (some (.b (aK b 3))) (.b false)).bind fun p=>ah p
 (some (.int 7))
 ((aq n true (some (.b (aK b 4))) (.b false)).bind fun q=>ah q
 (some (.int 9))
 (kO r))))
 (ah (.b ((bJ (a.toNat:Int)) == 8))
 (ah (.b (aK f 0))
 (some (.int 0))
 (ah (.b (aK e 0))
 (some (.int 3))
 (ah (.b (aK e 1))
 (ah (.b (aK g 0))
 (some (.int 4))
 (ah (.b (aK g 3))
 (some (.int 5))
 (ah (.b (aK g 4))
 (some (.int 6))
 (kO r))))
 (ah (.b (aK e 2))
 (ah n
 (some (.int 8))
 (kO r))
 (ah (.b (aK e 3))
 (ah n
 (some (.int 10))
 (kO r))
 (kO r))))))
 (kO r)))
theorem c55 (a b d e f g i j k l) {r:AV} (h:YK a b d e f g i j k l (ae (C mx) Tryz.prog) (af (C mx) Tryz.prog 55 Tryz.f55)=some r):ae (C mx) Tryz.prog 55 [.ag [.u8 a, .u8 b, .b d, .u8 e, .u8 f, .u8 g, .u8 i, .b j, .u8 k, .s l]]=some r :=
 aj (fun _ _=>by kernel_rfl) h
def Ou  (c:al) (r:RunT):Option AV :=
 some (.int 0)
theorem Ov {r:AV} (h:Ou  (ae (C mx) Tryz.prog) (af (C mx) Tryz.prog 55 Tryz.f55)=some r):kO (af (C mx) Tryz.prog 55 Tryz.f55)  = some r :=
 ak (fun _ _=>by kernel_rfl) h
def Cs (run:RunT) (a b:UInt8) (d:Bool) (e f g i:UInt8) (j:Bool) (k:UInt8) (l:List UInt8) (m n:UInt8) (o:Bool) (p q s t:UInt8) (u:Bool) (w:UInt8) (x:List UInt8):Option AV :=
 run ((bL 6 ((Tryz.f56.body).getD .skip) []).getD []) (St.bU [(1, .cell (.ptr 1 0)),(2, .cell (.ptr 2 0))] [(1,some (cT a b d e f g i j k l)),(2,some (cT m n o p q s t u w x))])
def YL (a b:UInt8) (d:Bool) (e f g i:UInt8) (j:Bool) (k:UInt8) (l:List UInt8) (c:al) (r:RunT):Option AV :=
 (c 55 [.ag [.u8 a, .u8 b, .b d, .u8 e, .u8 f, .u8 g, .u8 i, .b j, .u8 k, .s l]]).bind fun m=>(aD .eql m (.int 0)).bind fun n=>ah n
 (some (.ag [.u8 20, .u8 0, .b false, .u8 0, .u8 0, .u8 0, .u8 0, .b false, .u8 0, .s []]))
 ((aD .eql m (.int 4)).bind fun o=>ah o
 (Cs r a b d e f 2 i j k l 0 0 false 0 0 0 0 false 0 [])
 (Cs r a b d e f g i j k l 0 0 false 0 0 0 0 false 0 []))
theorem c56 (a b d e f g i j k l) {r:AV} (h:YL a b d e f g i j k l (ae (C mx) Tryz.prog) (af (C mx) Tryz.prog 56 Tryz.f56)=some r):ae (C mx) Tryz.prog 56 [.ag [.u8 a, .u8 b, .b d, .u8 e, .u8 f, .u8 g, .u8 i, .b j, .u8 k, .s l]]=some r :=
 aj (fun _ _=>by kernel_rfl) h
def RM (a b:UInt8) (d:Bool) (e f g i:UInt8) (j:Bool) (k:UInt8) (l:List UInt8) (m n:UInt8) (o:Bool) (p q s t:UInt8) (u:Bool) (w:UInt8) (x:List UInt8) (c:al) (r:RunT):Option AV :=
 some (.ag [.u8 a, .u8 b, .b d, .u8 e, .u8 f, .u8 g, .u8 i, .b j, .u8 k, .s l])
theorem RN (a b d e f g i j k l m n o p q s t u w x) {r:AV} (h:RM a b d e f g i j k l m n o p q s t u w x (ae (C mx) Tryz.prog) (af (C mx) Tryz.prog 56 Tryz.f56)=some r):Cs (af (C mx) Tryz.prog 56 Tryz.f56) a b d e f g i j k l m n o p q s t u w x=some r :=
 ak (fun _ _=>by kernel_rfl) h
def RO (a b:List UInt8) (c:al) (r:RunT):Option AV :=
 (aq (.b (decide (((a.length:Int)) ≥ ((b.length:Int))))) true ((ic (.s a) none (some (.int ((b.length:Int))))).bind fun d=>(cr .eql d (.s b)).bind fun e=>some e) (.b false)).bind fun f=>some f
theorem VV (a b) {r:AV} (h:RO a b (ae (C mx) Tryz.prog) (af (C mx) Tryz.prog 57 Tryz.f57)=some r):ae (C mx) Tryz.prog 57 [.s a, .s b]=some r :=
 aj (fun _ _=>by kernel_rfl) h
def YM (a b:UInt8) (d:Bool) (e f g i:UInt8) (j:Bool) (k:UInt8) (l:List UInt8) (c:al) (r:RunT):Option AV :=
 (aq (.b (aK i 1)) false (some (.b (aK i 2))) (.b true)).bind fun m=>(aq m true (some (.b (!j))) (.b false)).bind fun n=>some n
theorem c63 (a b d e f g i j k l) {r:AV} (h:YM a b d e f g i j k l (ae (C mx) Tryz.prog) (af (C mx) Tryz.prog 63 Tryz.f63)=some r):ae (C mx) Tryz.prog 63 [.ag [.u8 a, .u8 b, .b d, .u8 e, .u8 f, .u8 g, .u8 i, .b j, .u8 k, .s l]]=some r :=
 aj (fun _ _=>by kernel_rfl) h
def m8 (run:RunT) (a:List UInt8) (b:List AV) (d:Int):Option AV :=
 run ((bL 3 ((Tryz.f102.body).getD .skip) []).getD []) (St.bU [(0, .cell (.val (.s a))),(3, .cell (.own 5 9 1 b)),(4, .cell (.val (.int d)))] [])
def RP (a:List UInt8) (c:al) (r:RunT):Option AV :=
 m8 r a (([.s [], .s [116,101,120,116,97,114,101,97], .s [116,105,116,108,101], .s [115,99,114,105,112,116], .s [115,116,121,108,101]]:List AV)) 1
theorem VW a {r:AV} (h:RP a (ae (C mx) Tryz.prog) (af (C mx) Tryz.prog 102 Tryz.f102)=some r):ae (C mx) Tryz.prog 102 [.s a]=some r :=
 aj (fun _ _=>by kernel_rfl) h
def Ow (a:List UInt8) (b:List AV) (d:Int) (c:al) (r:RunT):Option AV :=
 ah (.b (decide (d < 5)))
 ((lZ b.length (.int d)).bind fun e=>(cr .eql (AV.cell (b.getD e .un) 0) (.s a)).bind fun f=>ah f
 (some (.int d))
 (m8 r a b (bJ (d+1))))
 (some (.int 0))
theorem sH (a b d) {r:AV} (h:Ow a b d (ae (C mx) Tryz.prog) (af (C mx) Tryz.prog 102 Tryz.f102)=some r):m8 (af (C mx) Tryz.prog 102 Tryz.f102) a b d=some r :=
 ak (fun _ _=>by kernel_rfl) h
def RQ (a:List UInt8) (c:al) (r:RunT):Option AV :=
 ah (.b (a == [116,101,120,116,97,114,101,97]))
 (some (.u8 1))
 (ah (.b (a == [116,105,116,108,101]))
 (some (.u8 2))
 (ah (.b (a == [115,99,114,105,112,116]))
 (some (.u8 3))
 (ah (.b (a == [115,116,121,108,101]))
 (some (.u8 4))
 (some (.u8 0)))))
theorem VX a {r:AV} (h:RQ a (ae (C mx) Tryz.prog) (af (C mx) Tryz.prog 120 Tryz.f120)=some r):ae (C mx) Tryz.prog 120 [.s a]=some r :=
 aj (fun _ _=>by kernel_rfl) h
def Ct:Code:=(Tryz.f130.body).getD .skip
def wy (run:RunT) (a:List UInt8) (b:List AV) (d:Int):Option AV :=
 run ((bL 3 Ct []).getD []) (St.bU [(0, .cell (.val (.s a))),(3, .cell (.own 7 9 1 b)),(4, .cell (.val (.int d)))] [])
def wz (run:RunT) (a:List UInt8) (b:List AV) (d:Int):Option AV :=
 run ((bL 9 Ct []).getD []) (St.bU [(0, .cell (.val (.s a))),(5, .cell (.own 20 9 1 b)),(6, .cell (.val (.int d)))] [])
def VY (a:List UInt8) (c:al) (r:RunT):Option AV :=
 wy r a (([.s [97,99,116,105,111,110], .s [98,97,99,107,103,114,111,117,110,100], .s [99,105,116,101], .s [100,97,116,97], .s [102,111,114,109,97,99,116,105,111,110], .s [104,114,101,102], .s [108,111,110,103,100,101,115,99], .s [109,97,110,105,102,101,115,116], .s [112,111,115,116,101,114], .s [115,114,99], .s [120,108,105,110,107,58,104,114,101,102]]:List AV)) 0
theorem VZ a {r:AV} (h:VY a (ae (C mx) Tryz.prog) (af (C mx) Tryz.prog 130 Tryz.f130)=some r):ae (C mx) Tryz.prog 130 [.s a]=some r :=
 aj (fun _ _=>by kernel_rfl) h
def AL (a:List UInt8) (b:List AV) (d:Int) (c:al) (r:RunT):Option AV :=
 ah (.b (decide (d < ((b.length:Int)))))
 ((lZ b.length (.int d)).bind fun e=>(cr .eql (AV.cell (b.getD e .un) 0) (.s a)).bind fun f=>ah f
 (some (.int 1))
 (wy r a b (bJ (d+1))))
 (wz r a (([.s [115,114,99,100,111,99], .s [115,114,99,115,101,116], .s [105,109,97,103,101,115,114,99,115,101,116], .s [99,111,110,116,101,110,116], .s [104,116,116,112,45,101,113,117,105,118]]:List AV)) 0)
def AM (a:List UInt8) (b:List AV) (d:Int) (c:al) (r:RunT):Option AV :=
 ah (.b (decide (d < ((b.length:Int)))))
 ((lZ b.length (.int d)).bind fun e=>(cr .eql (AV.cell (b.getD e .un) 0) (.s a)).bind fun f=>ah f
 (some (.int 4))
 (wz r a b (bJ (d+1))))
 (ah (.b (a == [115,116,121,108,101]))
 (some (.int 3))
 ((aq (.b (decide (((a.length:Int)) ≥ 3))) true ((df (.s a) (.int 0)).bind fun g=>(aD .eql g (.u8 111)).bind fun i=>some i) (.b false)).bind fun j=>(aq j true ((df (.s a) (.int 1)).bind fun k=>(aD .eql k (.u8 110)).bind fun l=>some l) (.b false)).bind fun m=>ah m
 (some (.int 2))
 (some (.int 0))))
theorem GU (a b d) {r:AV} (h:AL a b d (ae (C mx) Tryz.prog) (af (C mx) Tryz.prog 130 Tryz.f130)=some r):wy (af (C mx) Tryz.prog 130 Tryz.f130) a b d=some r :=
 ak (fun _ _=>by kernel_rfl) h
theorem GV (a b d) {r:AV} (h:AM a b d (ae (C mx) Tryz.prog) (af (C mx) Tryz.prog 130 Tryz.f130)=some r):wz (af (C mx) Tryz.prog 130 Tryz.f130) a b d=some r :=
 ak (fun _ _=>by kernel_rfl) h
def qV:Code:=(Tryz.f138.body).getD .skip
def dU (run:RunT)  : Option AV :=
 run ((bL 13 qV []).getD []) (St.bU [] [])
def wA (run:RunT) (a b:List UInt8):Option AV :=
 run ((bL 14 qV []).getD []) (St.bU [(0, .cell (.val (.s a))),(3, .cell (.val (.s b)))] [])
def jJ (run:RunT)  : Option AV :=
 run ((bL 21 qV []).getD []) (St.bU [] [])
def wC (run:RunT) (a:List UInt8):Option AV :=
 run ((bL 22 qV []).getD []) (St.bU [(0, .cell (.val (.s a)))] [])
def RS (a:List UInt8) (c:al) (r:RunT):Option AV :=
 ah (.b (a == [97,99,116,105,111,110]))
 (dU r)
 (ah (.b (a == [98,97,99,107,103,114,111,117,110,100]))
 (dU r)
 (ah (.b (a == [99,105,116,101]))
 (dU r)
 (ah (.b (a == [100,97,116,97]))
 (dU r)
 (ah (.b (a == [102,111,114,109,97,99,116,105,111,110]))
 (dU r)
 (ah (.b (a == [104,114,101,102]))
 (dU r)
 (ah (.b (a == [108,111,110,103,100,101,115,99]))
 (dU r)
 (ah (.b (a == [109,97,110,105,102,101,115,116]))
 (dU r)
 (ah (.b (a == [112,111,115,116,101,114]))
 (dU r)
 (ah (.b (a == [115,114,99]))
 (dU r)
 (ah (.b (a == [120,108,105,110,107,58,104,114,101,102]))
 (dU r)
 (wA r a a)))))))))))
theorem V0 a {r:AV} (h:RS a (ae (C mx) Tryz.prog) (af (C mx) Tryz.prog 138 Tryz.f138)=some r):ae (C mx) Tryz.prog 138 [.s a]=some r :=
 aj (fun _ _=>by kernel_rfl) h
def Kq  (c:al) (r:RunT):Option AV :=
 some (.u8 1)
def Cu (a b:List UInt8) (c:al) (r:RunT):Option AV :=
 ah (.b (b == [115,116,121,108,101]))
 (some (.u8 3))
 (ah (.b (b == [115,114,99,100,111,99]))
 (jJ r)
 (ah (.b (b == [115,114,99,115,101,116]))
 (jJ r)
 (ah (.b (b == [105,109,97,103,101,115,114,99,115,101,116]))
 (jJ r)
 (ah (.b (b == [99,111,110,116,101,110,116]))
 (jJ r)
 (ah (.b (b == [104,116,116,112,45,101,113,117,105,118]))
 (jJ r)
 (wC r a))))))
def Kr  (c:al) (r:RunT):Option AV :=
 some (.u8 4)
def Cv (a:List UInt8) (c:al) (r:RunT):Option AV :=
 (aq (.b (decide (((a.length:Int)) > 2))) true ((c 42 [.s a, .s [111,110]]).bind fun b=>some b) (.b false)).bind fun d=>ah d
 (some (.u8 2))
 (some (.u8 0))
theorem Kt {r:AV} (h:Kq  (ae (C mx) Tryz.prog) (af (C mx) Tryz.prog 138 Tryz.f138)=some r):dU (af (C mx) Tryz.prog 138 Tryz.f138)  = some r :=
 ak (fun _ _=>by kernel_rfl) h
theorem Ku (a b) {r:AV} (h:Cu a b (ae (C mx) Tryz.prog) (af (C mx) Tryz.prog 138 Tryz.f138)=some r):wA (af (C mx) Tryz.prog 138 Tryz.f138) a b=some r :=
 ak (fun _ _=>by kernel_rfl) h
theorem Kv {r:AV} (h:Kr  (ae (C mx) Tryz.prog) (af (C mx) Tryz.prog 138 Tryz.f138)=some r):jJ (af (C mx) Tryz.prog 138 Tryz.f138)  = some r :=
 ak (fun _ _=>by kernel_rfl) h
theorem Kw a {r:AV} (h:Cv a (ae (C mx) Tryz.prog) (af (C mx) Tryz.prog 138 Tryz.f138)=some r):wC (af (C mx) Tryz.prog 138 Tryz.f138) a=some r :=
 ak (fun _ _=>by kernel_rfl) h
def Cw:Code:=(Tryz.f140.body).getD .skip
def sI (run:RunT) (a b:UInt8) (d:Bool) (e f g i:UInt8) (j:Bool) (k:UInt8) (l:List UInt8):Option AV :=
 run ((bL 7 Cw []).getD []) (St.bU [(1, .cell (.ptr 1 0))] [(1,some (cT a b d e f g i j k l))])
def AN (run:RunT)  : Option AV :=
 run ((bL 8 Cw []).getD []) (St.bU [] [])
def RT (a b:UInt8) (d:Bool) (e f g i:UInt8) (j:Bool) (k:UInt8) (l:List UInt8) (c:al) (r:RunT):Option AV :=
 ah (.b (aK a 8))
 ((aq (.b (aK e 2)) false (some (.b (aK e 3))) (.b true)).bind fun m=>some m)
 (ah (.b (aK a 17))
 (sI r a b d e f g i j k l)
 (ah (.b (aK a 18))
 (sI r a b d e f g i j k l)
 (ah (.b (aK a 19))
 (sI r a b d e f g i j k l)
 (AN r))))
theorem V1 (a b d e f g i j k l) {r:AV} (h:RT a b d e f g i j k l (ae (C mx) Tryz.prog) (af (C mx) Tryz.prog 140 Tryz.f140)=some r):ae (C mx) Tryz.prog 140 [.ag [.u8 a, .u8 b, .b d, .u8 e, .u8 f, .u8 g, .u8 i, .b j, .u8 k, .s l]]=some r :=
 aj (fun _ _=>by kernel_rfl) h
def GW (a b:UInt8) (d:Bool) (e f g i:UInt8) (j:Bool) (k:UInt8) (l:List UInt8) (c:al) (r:RunT):Option AV :=
 (aq (.b (aK b 3)) false (some (.b (aK b 4))) (.b true)).bind fun m=>some m
def Ox  (c:al) (r:RunT):Option AV :=
 some (.b false)
theorem Oy (a b d e f g i j k l) {r:AV} (h:GW a b d e f g i j k l (ae (C mx) Tryz.prog) (af (C mx) Tryz.prog 140 Tryz.f140)=some r):sI (af (C mx) Tryz.prog 140 Tryz.f140) a b d e f g i j k l=some r :=
 ak (fun _ _=>by kernel_rfl) h
theorem Oz {r:AV} (h:Ox  (ae (C mx) Tryz.prog) (af (C mx) Tryz.prog 140 Tryz.f140)=some r):AN (af (C mx) Tryz.prog 140 Tryz.f140)  = some r :=
 ak (fun _ _=>by kernel_rfl) h
section
variable (st el:UInt8) (en:Bool) (at' qu pa su:UInt8) (es:Bool) (da:UInt8) (nm:List UInt8)
theorem s34:ae (C mx) Tryz.prog 34 [cx st el en at' qu pa su es da nm]=some (.b (mf st el at')):=by
 apply c34
 simp only [YG,aJ,cy,dK,dm,ec,cX,Option.bind_some,ax,aI,ai,gR,ge_iff_le,mf]
 simp only [bQ _ _ (show 8 < 256 by decide),N0 _ _ (show 17 < 256 by decide),NZ _ _ (show 19 < 256 by decide)]
theorem YN (n:Nat):∀ (r p:List UInt8),(p ++ r).length < 9223372036854775808→low p=true→Cq (af (C mx) Tryz.prog 35 Tryz.f35) (p ++ r) (n:Int) (p.length:Int)=some (.b (small (p ++ r) n))
 | [],p,h,hp=>by
  apply Mm
  simp only [GS,qQ,nV,List.append_nil,Option.bind_some,ai,Bool.false_eq_true,if_false,ax,small,hp,Bool.true_and,gt_iff_lt]
  congr 3
  rw [decide_eq_decide];omega
 | c :: r,p,h,hp=>by
  apply Mm
  simp only [GS,vU,iE,lz p c r h,vS,vR,Option.bind_some,ai,if_true,ax]
  cases hc:(decide (65≤c) && decide (c≤90)) with
  | true =>
   have:low (p ++ c :: r)=false:=by simp only [low,List.all_append,List.all_cons,hc,Bool.not_true,Bool.false_and,Bool.and_false]
   simp [small,this]
  | false =>
   simp only [Bool.false_eq_true,if_false]
   rw [dv]
   exact YN n r (p ++ [c]) (by rw [← dv];exact h) (by simp only [low,List.all_append,List.all_cons,List.all_nil,hc] at hp ⊢;simpa using hp)
theorem YO (n:Nat) (h:nm.length < 9223372036854775808):ae (C mx) Tryz.prog 35 [.s nm, .int (n:Int)]=some (.b (small nm n)):=by
 apply c35
 exact YN n nm [] h rfl
theorem Qk (n:Nat):∀ (r p:List UInt8),(p ++ r).length < 9223372036854775808→low p=true→Cm (af (C mx) Tryz.prog 28 Tryz.f28) (p ++ r) (n:Int) ((p ++ r).length:Int) (p.length:Int)=some (.b (small (p ++ r) n))
 | [],p,h,hp=>by
  apply Mj
  simp only [GN,qQ,nV,List.append_nil,Option.bind_some,ai,Bool.false_eq_true,if_false,ax,small,hp,Bool.true_and,ge_iff_le]
  congr 3
  rw [decide_eq_decide];omega
 | c :: r,p,h,hp=>by
  apply Mj
  simp only [GN,vU,iE,lz p c r h,vS,vR,Option.bind_some,ai,if_true,ax]
  cases hc:(decide (65≤c) && decide (c≤90)) with
  | true =>
   have:low (p ++ c :: r)=false:=by simp only [low,List.all_append,List.all_cons,hc,Bool.not_true,Bool.false_and,Bool.and_false]
   simp [small,this]
  | false =>
   simp only [Bool.false_eq_true,if_false]
   rw [dv]
   exact Qk n r (p ++ [c]) (by rw [← dv];exact h) (by simp only [low,List.all_append,List.all_cons,List.all_nil,hc] at hp ⊢;simpa using hp)
theorem V2 (n:Nat) (h:nm.length < 9223372036854775808):ae (C mx) Tryz.prog 28 [.s nm, .int (n:Int)]=some (.b (small nm n)):=by
 apply c28
 simp only [YD]
 exact Qk n nm [] h rfl
theorem YP:ae (C mx) Tryz.prog 43 [.u8 el]=some (.s (nameOf el)):=by
 apply c43
 refine yG ?_
 revert el
 exact fB (by kernel_rfl)
theorem YQ:ae (C mx) Tryz.prog 36 [.int el.toNat]=some (.s (nameOf el)):=by
 apply c36
 refine yG ?_
 revert el
 exact fB (by kernel_rfl)
theorem Ue (l p:List UInt8):ae (C mx) Tryz.prog 57 [.s l, .s p]=some (.b (pre p l)):=by
 apply VV
 simp only [RO,Option.bind_some,ge_iff_le]
 by_cases h:p.length≤l.length
 ·rw [mS h]
  simp [pre,h]
 ·have:decide ((p.length:Int)≤(l.length:Int))=false:=by simp;omega
  rw [this,eZ]
  simp [pre,h]
theorem Uf (l p:List UInt8):ae (C mx) Tryz.prog 42 [.s l, .s p]=some (.b (pre p l)):=by
 apply VU
 simp only [RI,Ue,Option.bind_some]
theorem YR (b:Bool):ae (C mx) Tryz.prog 41 [cx st el en at' qu pa su es da nm, .b b]=some (.b (cj su es b)):=by
 apply c41
 simp only [YH,aJ,cy,dK,dm,ec,cX,Option.bind_some,ax,aI,ai,cj]
 cases b <;> by_cases h:su=4 <;> simp [h]
theorem s63:ae (C mx) Tryz.prog 63 [cx st el en at' qu pa su es da nm]=some (.b ((su == 1 || su == 2) && !es)):=by
 apply c63
 simp [YM]
end
section
variable (st el:UInt8) (en:Bool) (at' qu pa su:UInt8) (es:Bool) (da:UInt8) (nm:List UInt8)
theorem s20 (h:nm.length < 9223372036854775808):ae (C mx) Tryz.prog 20 [cx st el en at' qu pa su es da nm]=some (.b (form ⟨st,el,en,at',qu,pa,su,es,da,nm⟩)):=by
 apply c20
 have e1:ae (C mx) Tryz.prog 35 [.s nm, .int 32]=some (.b (small nm 32)):=YO nm 32 h
 have e2:ae (C mx) Tryz.prog 35 [.s nm, .int 16]=some (.b (small nm 16)):=YO nm 16 h
 simp only [YC,bD,Bool.and_true,aJ,cy,dK,dm,ec,cX,Option.bind_some,ax,aI,ai,s34,e1,e2,YQ,F5,nU,gR,ge_iff_le,gt_iff_lt,bn,ly]
 simp only [bQ _ _ (show 3 < 256 by decide),bQ _ _ (show 5 < 256 by decide),bQ _ _ (show 6 < 256 by decide),bQ _ _ (show 8 < 256 by decide),bQ _ _ (show 19 < 256 by decide),Cb _ _ (show 3 < 256 by decide),Cb _ _ (show 7 < 256 by decide),Cb _ _ (show 8 < 256 by decide),Cb _ _ (show 15 < 256 by decide),
  N0 _ _ (show 17 < 256 by decide),NZ _ _ (show 19 < 256 by decide),N0 _ _ (show 4 < 256 by decide),NZ _ _ (show 10 < 256 by decide),VJ _ _ (show 20 < 256 by decide)]
 have e3:(aq (.b (decide ((nm.length:Int)≤((nameOf el).length:Int)))) true ((ic (.s (nameOf el)) none (some (.int (nm.length:Int)))).bind fun V3=>(cr .eql V3 (.s nm)).bind fun v91=>some v91) (.b false))=some (.b (pre nm (nameOf el))):=by
  by_cases hl:nm.length≤(nameOf el).length
  ·rw [mS hl];simp [pre,hl]
  ·have:decide ((nm.length:Int)≤((nameOf el).length:Int))=false:=by simp;omega
   rw [this,eZ];simp [pre,hl]
 rw [e3]
 simp only [Option.bind_some,Ga,form,Cd,yP]
section two
variable (bC vX:UInt8) (vY:Bool) (me vZ wa xN:UInt8) (xO:Bool) (wb:UInt8) (wc:List UInt8)
theorem OA:wu (af (C mx) Tryz.prog 29 Tryz.f29) st el en at' qu pa su es da nm bC vX vY me vZ wa xN xO wb wc =
  some (.b (bD ⟨st,el,en,at',qu,pa,su,es,da,nm⟩ ⟨bC,vX,vY,me,vZ,wa,xN,xO,wb,wc⟩)):=by
 apply Oq
 simp only [GP,bD,Bool.and_true,aJ,cy,dK,dm,ec,cX,Option.bind_some,ax,aI,ai,Option.bind_some]
theorem OB:wx (af (C mx) Tryz.prog 29 Tryz.f29) st el en at' qu pa su es da nm bC vX vY me vZ wa xN xO wb wc =
  some (.b (bD ⟨st,el,en,at',qu,pa,su,es,da,nm⟩ ⟨bC,vX,vY,me,vZ,wa,su,es,wb,wc⟩ && cj su es (at' == 2))):=by
 apply Ot
 simp only [GQ,bD,Bool.and_true,aJ,cy,dK,dm,ec,cX,Option.bind_some,ax,aI,ai,YR,ax]
theorem RU:Co (af (C mx) Tryz.prog 30 Tryz.f30) st el en at' qu pa su es da nm bC vX vY me vZ wa xN xO wb wc =
  some (.b (bD ⟨st,el,en,at',qu,pa,su,es,da,nm⟩ ⟨bC,vX,vY,me,vZ,wa,xN,xO,wb,wc⟩ && (el != 0) && pre nm (nameOf el) && cj su es (el == 3))):=by
 apply RH
 simp only [Ml,bD,Bool.and_true,aJ,cy,dK,dm,ec,cX,Option.bind_some,ax,aI,ai,YR,YP,Uf,ax]
theorem RV:Cn (af (C mx) Tryz.prog 30 Tryz.f30) st el en at' qu pa su es da nm bC vX vY me vZ wa xN xO wb wc =
  some (.b (bD ⟨st,el,en,at',qu,pa,su,es,da,nm⟩ ⟨bC,vX,vY,me,vZ,wa,if (el == 3 || el == 4)=true then su else xN,if (el == 3 || el == 4)=true then es else xO,wb,wc⟩ && (el != 0) && pre nm (nameOf el) && cj su es (el == 3))):=by
 apply RG
 simp only [Mk,bD,Bool.and_true,aJ,cy,dK,dm,ec,cX,Option.bind_some,ax,aI,ai,RU,ai]
 split <;> rfl
theorem s30:ae (C mx) Tryz.prog 30 [cx st el en at' qu pa su es da nm] =
  some (.b (bD ⟨st,el,en,at',qu,pa,su,es,da,nm⟩ ⟨st,el,false,0,0,0,if (el == 3 || el == 4)=true then su else 0,if (el == 3 || el == 4)=true then es else false,0,if (st == 19)=true then nm else []⟩ && (el != 0) && pre nm (nameOf el) && cj su es (el == 3))):=by
 apply c30
 simp only [YF,bD,Bool.and_true,aJ,cy,dK,dm,ec,cX,Option.bind_some,ax,aI,ai,RV,ai]
 split <;> rfl
theorem s29 (h:nm.length < 9223372036854775808):ae (C mx) Tryz.prog 29 [cx st el en at' qu pa su es da nm,cx bC vX vY me vZ wa xN xO wb wc] =
  some (.b (nZ ⟨st,el,en,at',qu,pa,su,es,da,nm⟩ ⟨bC,vX,vY,me,vZ,wa,xN,xO,wb,wc⟩)):=by
 apply c29
 have e2:ae (C mx) Tryz.prog 28 [.s nm, .int 16]=some (.b (small nm 16)):=V2 nm 16 h
 simp only [YE,bD,Bool.and_true,aJ,cy,dK,dm,ec,cX,Option.bind_some,ax,aI,ai,OB,OA,e2,nZ,if_true]
 cases h1:(qu != 0 && qu != 34 && qu != 39) <;> cases h2:(at' == 1) <;> cases h3:(pa == 1) <;> cases h4:(at' == 2) <;> cases h5:(at' == 3) <;> simp
end two
theorem OC:sF (af (C mx) Tryz.prog 17 Tryz.f17) st el en at' qu pa su es da nm st el en 0 0 0 0 false 0 [] =
  some (.b (bD ⟨st,el,en,at',qu,pa,su,es,da,nm⟩ ⟨st,el,en,0,0,0,0,false,0,[]⟩)):=by
 apply Oj
 simp only [GH,bD,Bool.and_true,aJ,cy,dK,dm,ec,cX,Option.bind_some,ax,aI,ai,Option.bind_some]
theorem OD (h:nm.length < 9223372036854775808):wq (af (C mx) Tryz.prog 17 Tryz.f17) st el en at' qu pa su es da nm st el en 0 0 0 0 false 0 [] =
  some (.b (bD ⟨st,el,en,at',qu,pa,su,es,da,nm⟩ ⟨st,el,en,0,0,0,0,false,0,nm⟩ && small nm 32)):=by
 apply Ol
 have e2:ae (C mx) Tryz.prog 28 [.s nm, .int 32]=some (.b (small nm 32)):=V2 nm 32 h
 simp only [GJ,bD,Bool.and_true,aJ,cy,dK,dm,ec,cX,Option.bind_some,ax,aI,ai,e2,ax]
theorem OE:sG (af (C mx) Tryz.prog 17 Tryz.f17) st el en at' qu pa su es da nm =
  some (.b (bD ⟨st,el,en,at',qu,pa,su,es,da,nm⟩ ⟨st,el,false,0,0,0,if (el == 3 || el == 4)=true then su else 0,if (el == 3 || el == 4)=true then es else false,0,if (st == 19)=true then nm else []⟩ && (el != 0) && pre nm (nameOf el) && cj su es (el == 3))):=by
 apply On
 simp only [GL,bD,Bool.and_true,aJ,cy,dK,dm,ec,cX,Option.bind_some,ax,aI,ai,s30,Option.bind_some]
theorem OG:AK (af (C mx) Tryz.prog 17 Tryz.f17) st el en at' qu pa su es da nm st 0 false 0 0 0 0 false 0 [] =
  some (.b (bD ⟨st,el,en,at',qu,pa,su,es,da,nm⟩ ⟨st,0,false,0,0,0,0,false,0,[]⟩)):=by
 apply Oo
 simp only [GM,bD,Bool.and_true,aJ,cy,dK,dm,ec,cX,Option.bind_some,ax,aI,ai,Option.bind_some]
theorem OH (h:nm.length < 9223372036854775808):AJ (af (C mx) Tryz.prog 17 Tryz.f17) st st el en at' qu pa su es da nm st 0 false 0 0 0 0 false 0 []
  st el en 0 0 0 0 false 0 [] =
  some (.b (if (st == 7)=true then bD ⟨st,el,en,at',qu,pa,su,es,da,nm⟩ ⟨st,el,en,at',0,0,0,false,0,[]⟩
   else if (st == 8)=true then nZ ⟨st,el,en,at',qu,pa,su,es,da,nm⟩ ⟨st,el,en,0,0,0,0,false,0,[]⟩
   else if (st == 15)=true then bD ⟨st,el,en,at',qu,pa,su,es,da,nm⟩ ⟨st,0,false,0,0,0,0,false,da,[]⟩ && decide (da≤2)
   else if (st == 17 || st == 18 || st == 19)=true then (bD ⟨st,el,en,at',qu,pa,su,es,da,nm⟩ ⟨st,el,false,0,0,0,if (el == 3 || el == 4)=true then su else 0,if (el == 3 || el == 4)=true then es else false,0,if (st == 19)=true then nm else []⟩ && (el != 0) && pre nm (nameOf el) && cj su es (el == 3))
   else bD ⟨st,el,en,at',qu,pa,su,es,da,nm⟩ ⟨st,0,false,0,0,0,0,false,0,[]⟩)):=by
 apply Om
 simp only [GK,bD,Bool.and_true,aJ,cy,dK,dm,ec,cX,Option.bind_some,ax,aI,ai,s29 (h:=h),OE,OG,if_true]
 cases h1:(st == 7) <;> cases h2:(st == 8) <;> cases h3:(st == 15) <;> cases h4:(st == 17) <;> cases h5:(st == 18) <;> cases h6:(st == 19) <;> rfl
theorem OI (h:nm.length < 9223372036854775808):AH (af (C mx) Tryz.prog 17 Tryz.f17) st st el en at' qu pa su es da nm st 0 false 0 0 0 0 false 0 []
  st el en 0 0 0 0 false 0 [] =
  some (.b (if (st == 5 || st == 6)=true then bD ⟨st,el,en,at',qu,pa,su,es,da,nm⟩ ⟨st,el,en,0,0,0,0,false,0,nm⟩ && small nm 32
   else if (st == 7)=true then bD ⟨st,el,en,at',qu,pa,su,es,da,nm⟩ ⟨st,el,en,at',0,0,0,false,0,[]⟩
   else if (st == 8)=true then nZ ⟨st,el,en,at',qu,pa,su,es,da,nm⟩ ⟨st,el,en,0,0,0,0,false,0,[]⟩
   else if (st == 15)=true then bD ⟨st,el,en,at',qu,pa,su,es,da,nm⟩ ⟨st,0,false,0,0,0,0,false,da,[]⟩ && decide (da≤2)
   else if (st == 17 || st == 18 || st == 19)=true then (bD ⟨st,el,en,at',qu,pa,su,es,da,nm⟩ ⟨st,el,false,0,0,0,if (el == 3 || el == 4)=true then su else 0,if (el == 3 || el == 4)=true then es else false,0,if (st == 19)=true then nm else []⟩ && (el != 0) && pre nm (nameOf el) && cj su es (el == 3))
   else bD ⟨st,el,en,at',qu,pa,su,es,da,nm⟩ ⟨st,0,false,0,0,0,0,false,0,[]⟩)):=by
 apply Ok
 simp only [GI,bD,Bool.and_true,aJ,cy,dK,dm,ec,cX,Option.bind_some,ax,aI,ai,OD (h:=h),OH (h:=h),if_true]
 cases h1:(st == 5) <;> cases h2:(st == 6) <;> rfl
theorem V4 (h:nm.length < 9223372036854775808):ae (C mx) Tryz.prog 17 [cx st el en at' qu pa su es da nm]=some (.b (yQ ⟨st,el,en,at',qu,pa,su,es,da,nm⟩)):=by
 apply c17
 have e1:ae (C mx) Tryz.prog 28 [.s nm, .int 32]=some (.b (small nm 32)):=V2 nm 32 h
 simp only [YB,Bool.and_true,aJ,cy,dK,dm,ec,cX]
 simp only [Option.bind_some,ax,aI,ai,e1]
 rw [OI (h:=h)]
 simp only [OC]
 unfold yQ
 dsimp only
 cases h0:(decide (20 < st) || decide (4 < el) || decide (4 < at') || decide (5 < pa) || decide (6 < su) || en && el != 0) with
 | true=>rfl
 | false=>cases h2:(st == 3) <;> cases h3:(st == 4) <;> cases h4:(st == 9) <;> cases h5:(st == 10) <;> rfl
end
section
variable (st el:UInt8) (en:Bool) (at' qu pa su:UInt8) (es:Bool) (da:UInt8) (nm:List UInt8)
theorem s17 (h:nm.length < 9223372036854775808):ae (C mx) Tryz.prog 17 [cx st el en at' qu pa su es da nm]=some (.b (form ⟨st,el,en,at',qu,pa,su,es,da,nm⟩)):=by
 rw [V4 (h:=h),Ce]
theorem YS:ae (C mx) Tryz.prog 50 [cx st el en at' qu pa su es da nm]=some (.u8 (hole ⟨st,el,en,at',qu,pa,su,es,da,nm⟩)):=by
 apply c50
 simp only [YI,aJ,cy,Option.bind_some,ax,aI,ai,s63]
 unfold hole
 dsimp only
 generalize ((su == 1 || su == 2) && !es)=q
 cases h0:(st == 0) <;> cases RX:(st == 17) <;> cases h8:(st == 8) <;> cases q <;> simp <;> grind
theorem f55:kO (af (C mx) Tryz.prog 55 Tryz.f55)=some (.int 0):=by
 apply Ov
 rfl
theorem YT:ae (C mx) Tryz.prog 55 [cx st el en at' qu pa su es da nm]=some (.int ((hole ⟨st,el,en,at',qu,pa,su,es,da,nm⟩).toNat:Int)):=by
 apply c55
 simp only [YK,aJ,cy,Option.bind_some,ax,aI,ai,f55,gR]
 simp only [bQ _ _ (show 0 < 256 by decide),bQ _ _ (show 17 < 256 by decide),bQ _ _ (show 8 < 256 by decide)]
 unfold hole
 dsimp only
 cases h0:(st == 0) <;> cases RX:(st == 17) <;> cases h8:(st == 8) <;> cases hq:((su == 1 || su == 2) && !es) <;> simp <;> (try (repeat' split) <;> first | rfl | simp_all | grind)
section
variable (bC vX:UInt8) (vY:Bool) (me vZ wa xN:UInt8) (xO:Bool) (wb:UInt8) (wc:List UInt8)
theorem f51:Cr (af (C mx) Tryz.prog 51 Tryz.f51) st el en at' qu pa su es da nm bC vX vY me vZ wa xN xO wb wc=some (cx st el en at' qu pa su es da nm):=by
 apply RL
 rfl
theorem f56:Cs (af (C mx) Tryz.prog 56 Tryz.f56) st el en at' qu pa su es da nm bC vX vY me vZ wa xN xO wb wc=some (cx st el en at' qu pa su es da nm):=by
 apply RN
 rfl
end
theorem s51:ae (C mx) Tryz.prog 51 [cx st el en at' qu pa su es da nm]=some (after ⟨st,el,en,at',qu,pa,su,es,da,nm⟩).av:=by
 apply c51
 simp only [YJ,YS,Option.bind_some,cG,ai,f51,after]
 split
 ·rfl
 ·split <;> rfl
theorem s56:ae (C mx) Tryz.prog 56 [cx st el en at' qu pa su es da nm]=some (after ⟨st,el,en,at',qu,pa,su,es,da,nm⟩).av:=by
 apply c56
 simp only [YL,YT,Option.bind_some,aZ,ai,f56,after]
 simp only [bQ _ _ (show 0 < 256 by decide),bQ _ _ (show 4 < 256 by decide)]
 split
 ·rfl
 ·split <;> rfl
theorem V5:ae (C mx) Tryz.prog 140 [cx st el en at' qu pa su es da nm]=some (.b (mf st el at')):=by
 apply V1
 have e1:sI (af (C mx) Tryz.prog 140 Tryz.f140) st el en at' qu pa su es da nm=some (.b (el == 3 || el == 4)):=by
  apply Oy
  simp only [GW,aJ,aI,Option.bind_some]
 have e2:AN (af (C mx) Tryz.prog 140 Tryz.f140)=some (.b false):=by
  apply Oz
  rfl
 simp only [RT,aJ,Option.bind_some,aI,ai,e1,e2,mf]
 rcases nY st with h | h | h | h | h | h | h | h | h | h | h | h | h | h | h | h | h | h | h | h | h | h <;> first | (subst h;rfl) | (subst h;simp;done) | skip
 obtain ⟨-,-,-,-,-,-,-,-,h8,-,-,-,-,-,-,-,-,RX,Rv,IU⟩:=nlt st h
 have h2:¬ st≤19:=by
  have:=UInt8.lt_iff_toNat_lt.1 h
  rw [UInt8.le_iff_toNat_le];simp at this ⊢;omega
 simp [h8,RX,Rv,IU,h2]
end
section
variable (st el:UInt8) (en:Bool) (at' qu pa su:UInt8) (es:Bool) (da:UInt8) (nm:List UInt8)
end
theorem V6 (nm:List UInt8):ae (C mx) Tryz.prog 120 [.s nm]=some (.u8 (oX nm)):=by
 apply VX
 simp only [RQ,ai,oX]
 split
 ·rfl
 ·split
  ·rfl
  ·split
   ·rfl
   ·split <;> rfl
theorem V7 (nm:List UInt8):ae (C mx) Tryz.prog 102 [.s nm]=some (.int ((oX nm).toNat:Int)):=by
 apply VW
 simp only [RP]
 apply sH
 show ah (.b ([116,101,120,116,97,114,101,97] == nm)) (some (.int 1)) (m8 _ _ _ 2)=_
 rw [ai]
 cases h1:([116,101,120,116,97,114,101,97] == nm) with
 | true=>rw [← eq_of_beq h1];rfl
 | false =>
 rw [if_neg (by simp)]
 apply sH
 show ah (.b ([116,105,116,108,101] == nm)) (some (.int 2)) (m8 _ _ _ 3)=_
 rw [ai]
 cases h2:([116,105,116,108,101] == nm) with
 | true=>rw [← eq_of_beq h2];rfl
 | false =>
 rw [if_neg (by simp)]
 apply sH
 show ah (.b ([115,99,114,105,112,116] == nm)) (some (.int 3)) (m8 _ _ _ 4)=_
 rw [ai]
 cases h3:([115,99,114,105,112,116] == nm) with
 | true=>rw [← eq_of_beq h3];rfl
 | false =>
 rw [if_neg (by simp)]
 apply sH
 show ah (.b ([115,116,121,108,101] == nm)) (some (.int 4)) (m8 _ _ _ 5)=_
 rw [ai]
 cases h4:([115,116,121,108,101] == nm) with
 | true=>rw [← eq_of_beq h4];rfl
 | false =>
 rw [if_neg (by simp)]
 apply sH
 simp only [oX,D4 h1,D4 h2,D4 h3,D4 h4]
 rfl
theorem Kx:dU (af (C mx) Tryz.prog 138 Tryz.f138)=some (.u8 1):=by apply Kt;rfl
theorem Ky:jJ (af (C mx) Tryz.prog 138 Tryz.f138)=some (.u8 4):=by apply Kv;rfl
theorem Kz (nm:List UInt8):wC (af (C mx) Tryz.prog 138 Tryz.f138) nm=some (.u8 (if decide (2 < nm.length) && pre [111,110] nm then 2 else 0)):=by
 apply Kw
 simp only [Cv,Uf,Option.bind_some,ax,ai]
 have:decide ((nm.length:Int) > 2)=decide (2 < nm.length):=by rw [decide_eq_decide];omega
 rw [this]
 split <;> rfl
theorem KA (nm:List UInt8):wA (af (C mx) Tryz.prog 138 Tryz.f138) nm nm=some (.u8 (if nm == [115,116,121,108,101] then 3 else if As.contains nm then 4 else if decide (2 < nm.length) && pre [111,110] nm then 2 else 0)):=by
 apply Ku
 simp only [Cu,Ky,Kz,ai,As,List.contains_cons,List.contains_nil,Bool.or_false]
 cases nm == [115,116,121,108,101] <;> cases nm == [115,114,99,100,111,99] <;> cases nm == [115,114,99,115,101,116] <;> cases nm == [105,109,97,103,101,115,114,99,115,101,116] <;> cases nm == [99,111,110,116,101,110,116] <;> cases nm == [104,116,116,112,45,101,113,117,105,118] <;> rfl
theorem V8 (nm:List UInt8):ae (C mx) Tryz.prog 138 [.s nm]=some (.u8 (gS nm)):=by
 apply V0
 simp only [RS,Kx,KA,ai,gS,urls,List.contains_cons,List.contains_nil,Bool.or_false]
 generalize (if (nm == [115,116,121,108,101])=true then (3:UInt8) else if As.contains nm=true then 4 else if (decide (2 < nm.length) && pre [111,110] nm)=true then 2 else 0)=z
 cases nm == [97,99,116,105,111,110] with
 | true=>rfl
 | false =>
 cases nm == [98,97,99,107,103,114,111,117,110,100] with
 | true=>rfl
 | false =>
 cases nm == [99,105,116,101] with
 | true=>rfl
 | false =>
 cases nm == [100,97,116,97] with
 | true=>rfl
 | false =>
 cases nm == [102,111,114,109,97,99,116,105,111,110] with
 | true=>rfl
 | false =>
 cases nm == [104,114,101,102] with
 | true=>rfl
 | false =>
 cases nm == [108,111,110,103,100,101,115,99] with
 | true=>rfl
 | false =>
 cases nm == [109,97,110,105,102,101,115,116] with
 | true=>rfl
 | false =>
 cases nm == [112,111,115,116,101,114] with
 | true=>rfl
 | false =>
 cases nm == [115,114,99] with
 | true=>rfl
 | false =>
 cases nm == [120,108,105,110,107,58,104,114,101,102] <;> rfl
theorem GX (nm:List UInt8):∀ (R P:List (List UInt8)),(P ++ R).length < 100→wz (af (C mx) Tryz.prog 130 Tryz.f130) nm ((P ++ R).map .s) (P.length:Int)=some (.int (if R.contains nm then 4 else if nm == [115,116,121,108,101] then 3 else if decide (2 < nm.length) && pre [111,110] nm then 2 else 0))
 | [],P,h=>by
  apply GV
  have e1:decide ((P.length:Int) < (((P ++ []).map AV.s).length:Int))=false:=by simp
  simp only [AM,e1,ai,Bool.false_eq_true,if_false,List.contains_nil]
  cases h3:(nm == [115,116,121,108,101]) with
  | true=>rfl
  | false =>
   rw [if_neg (by simp),if_neg (by simp)]
   match nm with
   | []=>rfl
   | [a]=>rfl
   | [a,b]=>rfl
   | a :: b :: c :: r =>
    have e2:decide (((a :: b :: c :: r).length:Int) ≥ 3)=true:=by simp;omega
    have i0:df (.s (a :: b :: c :: r)) (.int 0)=some (.u8 a):=fa (i:=0) (l:=a :: b :: c :: r) (by simp)
    have i1:df (.s (a :: b :: c :: r)) (.int 1)=some (.u8 b):=fa (i:=1) (l:=a :: b :: c :: r) (by simp)
    have e3:decide (2 < (a :: b :: c :: r).length)=true:=by simp
    have e4:pre [111,110] (a :: b :: c :: r)=(a == 111 && b == 110):=by simp [pre]
    simp only [e2,i0,i1,e3,e4,cG,Option.bind_some,ax,Bool.true_and,ai]
    split <;> rfl
 | c :: R,P,h=>by
  apply GV
  have e1:decide ((P.length:Int) < (((P ++ c :: R).map AV.s).length:Int))=true:=by simp;omega
  simp only [AM,e1,ai,if_true,Me,Gb,FY,nU,Option.bind_some,List.contains_cons]
  cases hc:(c == nm) with
  | true=>rw [if_pos rfl,eq_of_beq hc];simp
  | false =>
   rw [if_neg (by simp),D4 hc,Bool.false_or]
   have h':P.length < 100:=by simp at h;omega
   rw [cH (by omega) (by omega),show ((P.length:Int)+1)=((P ++ [c]).length:Int) by simp,show P ++ c :: R=(P ++ [c]) ++ R by simp]
   exact GX nm R (P ++ [c]) (by simpa using h)
theorem GY (nm:List UInt8):∀ (R P:List (List UInt8)),(P ++ R).length < 100→wy (af (C mx) Tryz.prog 130 Tryz.f130) nm ((P ++ R).map .s) (P.length:Int)=some (.int (if R.contains nm then 1 else if As.contains nm then 4 else if nm == [115,116,121,108,101] then 3 else if decide (2 < nm.length) && pre [111,110] nm then 2 else 0))
 | [],P,h=>by
  apply GU
  have e1:decide ((P.length:Int) < (((P ++ []).map AV.s).length:Int))=false:=by simp
  simp only [AL,e1,ai,Bool.false_eq_true,if_false,List.contains_nil]
  exact GX nm As [] (by decide)
 | c :: R,P,h=>by
  apply GU
  have e1:decide ((P.length:Int) < (((P ++ c :: R).map AV.s).length:Int))=true:=by simp;omega
  simp only [AL,e1,ai,if_true,Me,Gb,FY,nU,Option.bind_some,List.contains_cons]
  cases hc:(c == nm) with
  | true=>rw [if_pos rfl,eq_of_beq hc];simp
  | false =>
   rw [if_neg (by simp),D4 hc,Bool.false_or]
   have h':P.length < 100:=by simp at h;omega
   rw [cH (by omega) (by omega),show ((P.length:Int)+1)=((P ++ [c]).length:Int) by simp,show P ++ c :: R=(P ++ [c]) ++ R by simp]
   exact GY nm R (P ++ [c]) (by simpa using h)
theorem V9 (nm:List UInt8):ae (C mx) Tryz.prog 130 [.s nm]=some (.int ((gS nm).toNat:Int)):=by
 apply VZ
 have h:=GY (mx:=mx) nm urls [] (by decide)
 refine Eq.trans h ?_
 unfold gS
 cases h1:urls.contains nm with
 | true=>rfl
 | false =>
  cases h3:(nm == [115,116,121,108,101]) with
  | true=>rw [eq_of_beq h3];rfl
  | false=>cases As.contains nm <;> cases (decide (2 < nm.length) && pre [111,110] nm) <;> rfl
def o9:Code:=(Tryz.f75.body).getD .skip
def zg (run:RunT) (a:UInt8) (b:Bool) (d e f g i j k l m n:AV) (o p:UInt8) (q:Bool) (s t u w:UInt8) (x:Bool) (y:UInt8) (z:List UInt8):Option AV :=
 run ((bL 3 o9 []).getD []) (St.bU [(1, .cell (.val (.u8 a))),(2, .cell (.val (.b b))),(3, .cell (.ptr 3 0)),(6, .cell (.ptr 6 0))] [(3,some (cV d e f g i j k l m n)),(6,some (cT o p q s t u w x y z))])
def wD (run:RunT) (a b d e f g i j k l:AV) (m n:UInt8) (o:Bool) (p q s t:UInt8) (u:Bool) (w:UInt8) (x:List UInt8):Option AV :=
 run ((bL 32 o9 []).getD []) (St.bU [(3, .cell (.ptr 3 0)),(6, .cell (.ptr 6 0))] [(3,some (cV a b d e f g i j k l)),(6,some (cT m n o p q s t u w x))])
def jK (run:RunT) (a:UInt8) (b:Bool) (d e f g i j k l m n:AV) (o p:UInt8) (q:Bool) (s t u w:UInt8) (x:Bool) (y:UInt8) (z:List UInt8):Option AV :=
 run ((bL 22 o9 []).getD []) (St.bU [(1, .cell (.val (.u8 a))),(2, .cell (.val (.b b))),(3, .cell (.ptr 3 0)),(6, .cell (.ptr 6 0))] [(3,some (cV d e f g i j k l m n)),(6,some (cT o p q s t u w x y z))])
def AO (run:RunT) (a:UInt8) (b:Bool) (d e f g i j k l m n o:AV) (p q:UInt8) (s:Bool) (t u w x:UInt8) (y:Bool) (z:UInt8) (A:List UInt8):Option AV :=
 run ((bL 26 o9 []).getD []) (St.bU [(1, .cell (.val (.u8 a))),(2, .cell (.val (.b b))),(3, .cell (.ptr 3 0)),(6, .cell (.ptr 6 0)),(16, .cell (.val d))] [(3,some (cV e f g i j k l m n o)),(6,some (cT p q s t u w x y z A))])
def sJ (run:RunT) (a:UInt8) (b:Bool) (d e f g i j k l m n:AV) (o p:UInt8) (q:Bool) (s t u w:UInt8) (x:Bool) (y:UInt8) (z:List UInt8):Option AV :=
 run ((bL 31 o9 []).getD []) (St.bU [(1, .cell (.val (.u8 a))),(2, .cell (.val (.b b))),(3, .cell (.ptr 3 0)),(6, .cell (.ptr 6 0))] [(3,some (cV d e f g i j k l m n)),(6,some (cT o p q s t u w x y z))])
def GZ (run:RunT) (a:UInt8) (b d e f g i j k l m:AV) (n o:UInt8) (p:Bool) (q s t u:UInt8) (w:Bool) (x:UInt8) (y:List UInt8):Option AV :=
 run ((bL 4 o9 []).getD []) (St.bU [(1, .cell (.val (.u8 a))),(3, .cell (.ptr 3 0)),(6, .cell (.ptr 6 0))] [(3,some (cV b d e f g i j k l m)),(6,some (cT n o p q s t u w x y))])
def YU (a b:UInt8) (d:Bool) (e f g i:UInt8) (j:Bool) (k:UInt8) (l:List UInt8) (m:UInt8) (n:Bool) (c:al) (r:RunT):Option AV :=
 (c 17 [.ag [.u8 a, .u8 b, .b d, .u8 e, .u8 f, .u8 g, .u8 i, .b j, .u8 k, .s l]]).bind fun o=>(unop .not o).bind fun p=>ah p
 (some (.ag [.u8 20, .u8 0, .b false, .u8 0, .u8 0, .u8 0, .u8 0, .b false, .u8 0, .s []]))
 (zg r m n (.u8 a) (.u8 b) (.b d) (.u8 e) (.u8 f) (.u8 g) (.u8 i) (.b j) (.u8 k) (.s l) 0 0 false 0 0 0 0 false 0 [])
theorem ui (a b d e f g i j k l m n) {r:AV} (h:YU a b d e f g i j k l m n (ae (C mx) Tryz.prog) (af (C mx) Tryz.prog 75 Tryz.f75)=some r):ae (C mx) Tryz.prog 75 [.ag [.u8 a, .u8 b, .b d, .u8 e, .u8 f, .u8 g, .u8 i, .b j, .u8 k, .s l], .u8 m, .b n]=some r :=
 aj (fun _ _=>by kernel_rfl) h
def Mo (a:UInt8) (b:Bool) (d e f g i j k l m n:AV) (o p:UInt8) (q:Bool) (s t u w:UInt8) (x:Bool) (y:UInt8) (z:List UInt8) (c:al) (r:RunT):Option AV :=
 (aD .eql d (.u8 0)).bind fun A=>ah A
 (ah (.b (aK a 60))
 (wD r (.u8 1) e f g i j k l m n o p q s t u w x y z)
 (wD r d e f g i j k l m n o p q s t u w x y z))
 ((aD .eql d (.u8 1)).bind fun B=>ah B
 ((c 92 [.u8 a]).bind fun D=>(aP D 0).bind fun E=>(aP D 1).bind fun G=>(AV.aE 10 E).bind fun H=>ah G
 (some (.ag [gt H 0,gt H 1,gt H 2,gt H 3,gt H 4,gt H 5,gt H 6,gt H 7,gt H 8,gt H 9]))
 (zg r a b (.u8 0) e f g i j k l m n o p q s t u w x y z))
 ((aD .eql d (.u8 2)).bind fun I=>ah I
 ((c 93 [.u8 a]).bind fun J=>(AV.aE 10 J).bind fun L=>some (.ag [gt L 0,gt L 1,gt L 2,gt L 3,gt L 4,gt L 5,gt L 6,gt L 7,gt L 8,gt L 9]))
 ((aD .eql d (.u8 3)).bind fun M=>ah M
 (jK r a b d e f g i j k l m n o p q s t u w x y z)
 ((aD .eql d (.u8 4)).bind fun N=>ah N
 (jK r a b d e f g i j k l m n o p q s t u w x y z)
 ((aD .eql d (.u8 5)).bind fun O=>ah O
 (jK r a b d e f g i j k l m n o p q s t u w x y z)
 ((aD .eql d (.u8 6)).bind fun P=>ah P
 (jK r a b d e f g i j k l m n o p q s t u w x y z)
 ((aD .eql d (.u8 7)).bind fun Q=>ah Q
 (jK r a b d e f g i j k l m n o p q s t u w x y z)
 ((aD .eql d (.u8 9)).bind fun R=>ah R
 (jK r a b d e f g i j k l m n o p q s t u w x y z)
 ((aD .eql d (.u8 10)).bind fun T=>ah T
 (jK r a b d e f g i j k l m n o p q s t u w x y z)
 (AO r a b d d e f g i j k l m n o p q s t u w x y z))))))))))
def OJ (a b d e f g i j k l:AV) (m n:UInt8) (o:Bool) (p q s t:UInt8) (u:Bool) (w:UInt8) (x:List UInt8) (c:al) (r:RunT):Option AV :=
 some (.ag [a,b,d,e,f,g,i,j,k,l])
def G0 (a:UInt8) (b:Bool) (d e f g i j k l m n:AV) (o p:UInt8) (q:Bool) (s t u w:UInt8) (x:Bool) (y:UInt8) (z:List UInt8) (c:al) (r:RunT):Option AV :=
 (c 94 [.ag [d,e,f,g,i,j,k,l,m,n], .u8 a]).bind fun A=>(aP A 0).bind fun B=>(aP A 1).bind fun D=>(AV.aE 10 B).bind fun E=>ah D
 (zg r a b (gt E 0) (gt E 1) (gt E 2) (gt E 3) (gt E 4) (gt E 5) (gt E 6) (gt E 7) (gt E 8) (gt E 9) o p q s t u w x y z)
 (some (.ag [gt E 0,gt E 1,gt E 2,gt E 3,gt E 4,gt E 5,gt E 6,gt E 7,gt E 8,gt E 9]))
def G1 (a:UInt8) (b:Bool) (d e f g i j k l m n o:AV) (p q:UInt8) (s:Bool) (t u w x:UInt8) (y:Bool) (z:UInt8) (A:List UInt8) (c:al) (r:RunT):Option AV :=
 (aD .eql d (.u8 8)).bind fun B=>ah B
 ((c 95 [.ag [e,f,g,i,j,k,l,m,n,o], .u8 a]).bind fun D=>(AV.aE 10 D).bind fun E=>some (.ag [gt E 0,gt E 1,gt E 2,gt E 3,gt E 4,gt E 5,gt E 6,gt E 7,gt E 8,gt E 9]))
 ((aD .eql d (.u8 17)).bind fun G=>ah G
 (sJ r a b e f g i j k l m n o p q s t u w x y z A)
 ((aD .eql d (.u8 18)).bind fun H=>ah H
 (sJ r a b e f g i j k l m n o p q s t u w x y z A)
 ((aD .eql d (.u8 19)).bind fun I=>ah I
 (sJ r a b e f g i j k l m n o p q s t u w x y z A)
 (GZ r a e f g i j k l m n o p q s t u w x y z A))))
def G2 (a:UInt8) (b:Bool) (d e f g i j k l m n:AV) (o p:UInt8) (q:Bool) (s t u w:UInt8) (x:Bool) (y:UInt8) (z:List UInt8) (c:al) (r:RunT):Option AV :=
 (c 96 [.ag [d,e,f,g,i,j,k,l,m,n], .u8 a, .b b]).bind fun A=>(AV.aE 10 A).bind fun B=>some (.ag [gt B 0,gt B 1,gt B 2,gt B 3,gt B 4,gt B 5,gt B 6,gt B 7,gt B 8,gt B 9])
def Mp (a:UInt8) (b d e f g i j k l m:AV) (n o:UInt8) (p:Bool) (q s t u:UInt8) (w:Bool) (x:UInt8) (y:List UInt8) (c:al) (r:RunT):Option AV :=
 (c 97 [.ag [b,d,e,f,g,i,j,k,l,m], .u8 a]).bind fun z=>(AV.aE 10 z).bind fun A=>some (.ag [gt A 0,gt A 1,gt A 2,gt A 3,gt A 4,gt A 5,gt A 6,gt A 7,gt A 8,gt A 9])
theorem RY (a b d e f g i j k l m n o p q s t u w x y z) {r:AV} (h:Mo a b d e f g i j k l m n o p q s t u w x y z (ae (C mx) Tryz.prog) (af (C mx) Tryz.prog 75 Tryz.f75)=some r):zg (af (C mx) Tryz.prog 75 Tryz.f75) a b d e f g i j k l m n o p q s t u w x y z=some r :=
 ak (fun _ _=>by kernel_rfl) h
theorem OK (a b d e f g i j k l m n o p q s t u w x) {r:AV} (h:OJ a b d e f g i j k l m n o p q s t u w x (ae (C mx) Tryz.prog) (af (C mx) Tryz.prog 75 Tryz.f75)=some r):wD (af (C mx) Tryz.prog 75 Tryz.f75) a b d e f g i j k l m n o p q s t u w x=some r :=
 ak (fun _ _=>by kernel_rfl) h
theorem OL (a b d e f g i j k l m n o p q s t u w x y z) {r:AV} (h:G0 a b d e f g i j k l m n o p q s t u w x y z (ae (C mx) Tryz.prog) (af (C mx) Tryz.prog 75 Tryz.f75)=some r):jK (af (C mx) Tryz.prog 75 Tryz.f75) a b d e f g i j k l m n o p q s t u w x y z=some r :=
 ak (fun _ _=>by kernel_rfl) h
theorem OM (a b d e f g i j k l m n o p q s t u w x y z A) {r:AV} (h:G1 a b d e f g i j k l m n o p q s t u w x y z A (ae (C mx) Tryz.prog) (af (C mx) Tryz.prog 75 Tryz.f75)=some r):AO (af (C mx) Tryz.prog 75 Tryz.f75) a b d e f g i j k l m n o p q s t u w x y z A=some r :=
 ak (fun _ _=>by kernel_rfl) h
theorem ON (a b d e f g i j k l m n o p q s t u w x y z) {r:AV} (h:G2 a b d e f g i j k l m n o p q s t u w x y z (ae (C mx) Tryz.prog) (af (C mx) Tryz.prog 75 Tryz.f75)=some r):sJ (af (C mx) Tryz.prog 75 Tryz.f75) a b d e f g i j k l m n o p q s t u w x y z=some r :=
 ak (fun _ _=>by kernel_rfl) h
theorem RZ (a b d e f g i j k l m n o p q s t u w x y) {r:AV} (h:Mp a b d e f g i j k l m n o p q s t u w x y (ae (C mx) Tryz.prog) (af (C mx) Tryz.prog 75 Tryz.f75)=some r):GZ (af (C mx) Tryz.prog 75 Tryz.f75) a b d e f g i j k l m n o p q s t u w x y=some r :=
 ak (fun _ _=>by kernel_rfl) h
def YV (a:List UInt8) (b:UInt8) (c:al) (r:RunT):Option AV :=
 (c 109 [.s a, .u8 b]).bind fun d=>some d
theorem c78 (a b) {r:AV} (h:YV a b (ae (C mx) Tryz.prog) (af (C mx) Tryz.prog 78 Tryz.f78)=some r):ae (C mx) Tryz.prog 78 [.s a, .u8 b]=some r :=
 aj (fun _ _=>by kernel_rfl) h
def YW (a:UInt8) (c:al) (r:RunT):Option AV :=
 (c 116 [.u8 a]).bind fun b=>ah b
 ((c 117 [.u8 a]).bind fun d=>(AV.one d).bind fun e=>(BH (.ro 1 (([e]:List AV)))).bind fun f=>(AV.one f).bind fun g=>some (.tu [.ag [.u8 3, .u8 0, .b false, .u8 0, .u8 0, .u8 0, .u8 0, .b false, .u8 0,g], .b true]))
 (ah (.b (aK a 47))
 (some (.tu [.ag [.u8 2, .u8 0, .b false, .u8 0, .u8 0, .u8 0, .u8 0, .b false, .u8 0, .s []], .b true]))
 (ah (.b (aK a 33))
 (some (.tu [.ag [.u8 11, .u8 0, .b false, .u8 0, .u8 0, .u8 0, .u8 0, .b false, .u8 0, .s []], .b true]))
 (ah (.b (aK a 63))
 (some (.tu [.ag [.u8 16, .u8 0, .b false, .u8 0, .u8 0, .u8 0, .u8 0, .b false, .u8 0, .s []], .b true]))
 (some (.tu [.ag [.u8 0, .u8 0, .b false, .u8 0, .u8 0, .u8 0, .u8 0, .b false, .u8 0, .s []], .b false])))))
theorem c92 a {r:AV} (h:YW a (ae (C mx) Tryz.prog) (af (C mx) Tryz.prog 92 Tryz.f92)=some r):ae (C mx) Tryz.prog 92 [.u8 a]=some r :=
 aj (fun _ _=>by kernel_rfl) h
def YX (a:UInt8) (c:al) (r:RunT):Option AV :=
 (c 116 [.u8 a]).bind fun b=>ah b
 ((c 117 [.u8 a]).bind fun d=>(AV.one d).bind fun e=>(BH (.ro 1 (([e]:List AV)))).bind fun f=>(AV.one f).bind fun g=>some (.ag [.u8 3, .u8 0, .b true, .u8 0, .u8 0, .u8 0, .u8 0, .b false, .u8 0,g]))
 (ah (.b (aK a 62))
 (some (.ag [.u8 0, .u8 0, .b false, .u8 0, .u8 0, .u8 0, .u8 0, .b false, .u8 0, .s []]))
 (some (.ag [.u8 16, .u8 0, .b false, .u8 0, .u8 0, .u8 0, .u8 0, .b false, .u8 0, .s []])))
theorem c93 a {r:AV} (h:YX a (ae (C mx) Tryz.prog) (af (C mx) Tryz.prog 93 Tryz.f93)=some r):ae (C mx) Tryz.prog 93 [.u8 a]=some r :=
 aj (fun _ _=>by kernel_rfl) h
def Cx (run:RunT) (a:UInt8) (b:AV) (d:Bool) (e f g i:UInt8) (j:Bool) (k:UInt8) (l:List UInt8) (m n:UInt8) (o:Bool) (p q s t:UInt8) (u:Bool) (w:UInt8) (x:List UInt8):Option AV :=
 run ((bL 7 ((Tryz.f94.body).getD .skip) []).getD []) (St.bU [(2, .cell (.ptr 2 0)),(4, .cell (.ptr 4 0))] [(2,some [.val (.u8 a), .val b, .val (.b d), .val (.u8 e), .val (.u8 f), .val (.u8 g), .val (.u8 i), .val (.b j), .val (.u8 k), .val (.s l)]),(4,some (cT m n o p q s t u w x))])
def YY (a b:UInt8) (d:Bool) (e f g i:UInt8) (j:Bool) (k:UInt8) (l:List UInt8) (m:UInt8) (c:al) (r:RunT):Option AV :=
 ah (.b (aK a 3))
 ((c 118 [.u8 m]).bind fun n=>(unop .not n).bind fun o=>(aq o true (some (.b (nW m 47))) (.b false)).bind fun p=>(aq p true (some (.b (nW m 62))) (.b false)).bind fun q=>ah q
 ((c 119 [.ag [.u8 a, .u8 b, .b d, .u8 e, .u8 f, .u8 g, .u8 i, .b j, .u8 k, .s l], .u8 m]).bind fun s=>(AV.aE 10 s).bind fun t=>some (.tu [.ag [gt t 0,gt t 1,gt t 2,gt t 3,gt t 4,gt t 5,gt t 6,gt t 7,gt t 8,gt t 9], .b false]))
 (ah (.b (!d))
 ((c 120 [.s l]).bind fun u=>(AV.one u).bind fun w=>Cx r a w d e f g i j k l 0 0 false 0 0 0 0 false 0 [])
 (Cx r a (.u8 b) d e f g i j k l 0 0 false 0 0 0 0 false 0 [])))
 (ah (.b (aK a 9))
 ((c 118 [.u8 m]).bind fun x=>ah x
 ((c 121 [.ag [.u8 a, .u8 b, .b d, .u8 e, .u8 f, .u8 g, .u8 i, .b j, .u8 k, .s l], .u8 4]).bind fun y=>(AV.aE 10 y).bind fun z=>some (.tu [.ag [gt z 0,gt z 1,gt z 2,gt z 3,gt z 4,gt z 5,gt z 6,gt z 7,gt z 8,gt z 9], .b false]))
 (ah (.b (aK m 47))
 ((c 121 [.ag [.u8 a, .u8 b, .b d, .u8 e, .u8 f, .u8 g, .u8 i, .b j, .u8 k, .s l], .u8 10]).bind fun A=>(AV.aE 10 A).bind fun B=>some (.tu [.ag [gt B 0,gt B 1,gt B 2,gt B 3,gt B 4,gt B 5,gt B 6,gt B 7,gt B 8,gt B 9], .b false]))
 (ah (.b (aK m 62))
 ((c 122 [.u8 b]).bind fun D=>(AV.aE 10 D).bind fun E=>some (.tu [.ag [gt E 0,gt E 1,gt E 2,gt E 3,gt E 4,gt E 5,gt E 6,gt E 7,gt E 8,gt E 9], .b false]))
 (some (.tu [.ag [.u8 20, .u8 0, .b false, .u8 0, .u8 0, .u8 0, .u8 0, .b false, .u8 0, .s []], .b false])))))
 (ah (.b (aK a 10))
 (ah (.b (aK m 62))
 ((c 122 [.u8 b]).bind fun G=>(AV.aE 10 G).bind fun H=>some (.tu [.ag [gt H 0,gt H 1,gt H 2,gt H 3,gt H 4,gt H 5,gt H 6,gt H 7,gt H 8,gt H 9], .b false]))
 ((c 121 [.ag [.u8 a, .u8 b, .b d, .u8 e, .u8 f, .u8 g, .u8 i, .b j, .u8 k, .s l], .u8 4]).bind fun I=>(AV.aE 10 I).bind fun J=>some (.tu [.ag [gt J 0,gt J 1,gt J 2,gt J 3,gt J 4,gt J 5,gt J 6,gt J 7,gt J 8,gt J 9], .b true])))
 (ah (.b (aK a 4))
 ((c 118 [.u8 m]).bind fun L=>ah L
 (some (.tu [.ag [.u8 a, .u8 b, .b d, .u8 e, .u8 f, .u8 g, .u8 i, .b j, .u8 k, .s l], .b false]))
 ((aq (.b (aK m 47)) false (some (.b (aK m 62))) (.b true)).bind fun M=>ah M
 ((c 121 [.ag [.u8 a, .u8 b, .b d, .u8 e, .u8 f, .u8 g, .u8 i, .b j, .u8 k, .s l], .u8 9]).bind fun N=>(AV.aE 10 N).bind fun O=>some (.tu [.ag [gt O 0,gt O 1,gt O 2,gt O 3,gt O 4,gt O 5,gt O 6,gt O 7,gt O 8,gt O 9], .b true]))
 (ah (.b (aK m 61))
 (some (.tu [.ag [.u8 20, .u8 0, .b false, .u8 0, .u8 0, .u8 0, .u8 0, .b false, .u8 0, .s []], .b false]))
 (some (.tu [.ag [.u8 5, .u8 b, .b d, .u8 e, .u8 f, .u8 g, .u8 i, .b j, .u8 k, .s l], .b true])))))
 (ah (.b (aK a 7))
 ((c 123 [.ag [.u8 a, .u8 b, .b d, .u8 e, .u8 f, .u8 g, .u8 i, .b j, .u8 k, .s l], .u8 m]).bind fun P=>(aP P 0).bind fun Q=>(aP P 1).bind fun R=>(AV.aE 10 Q).bind fun T=>some (.tu [.ag [gt T 0,gt T 1,gt T 2,gt T 3,gt T 4,gt T 5,gt T 6,gt T 7,gt T 8,gt T 9],R]))
 ((c 124 [.ag [.u8 a, .u8 b, .b d, .u8 e, .u8 f, .u8 g, .u8 i, .b j, .u8 k, .s l], .u8 m]).bind fun U=>(aP U 0).bind fun V=>(aP U 1).bind fun W=>(AV.aE 10 V).bind fun Y=>some (.tu [.ag [gt Y 0,gt Y 1,gt Y 2,gt Y 3,gt Y 4,gt Y 5,gt Y 6,gt Y 7,gt Y 8,gt Y 9],W]))))))
theorem c94 (a b d e f g i j k l m) {r:AV} (h:YY a b d e f g i j k l m (ae (C mx) Tryz.prog) (af (C mx) Tryz.prog 94 Tryz.f94)=some r):ae (C mx) Tryz.prog 94 [.ag [.u8 a, .u8 b, .b d, .u8 e, .u8 f, .u8 g, .u8 i, .b j, .u8 k, .s l], .u8 m]=some r :=
 aj (fun _ _=>by kernel_rfl) h
def Mq (a:UInt8) (b:AV) (d:Bool) (e f g i:UInt8) (j:Bool) (k:UInt8) (l:List UInt8) (m n:UInt8) (o:Bool) (p q s t:UInt8) (u:Bool) (w:UInt8) (x:List UInt8) (c:al) (r:RunT):Option AV :=
 (c 121 [.ag [.u8 a,b, .b d, .u8 e, .u8 f, .u8 g, .u8 i, .b j, .u8 k, .s l], .u8 9]).bind fun y=>(AV.aE 10 y).bind fun z=>some (.tu [.ag [gt z 0,gt z 1,gt z 2,gt z 3,gt z 4,gt z 5,gt z 6,gt z 7,gt z 8,gt z 9], .b true])
theorem R0 (a b d e f g i j k l m n o p q s t u w x) {r:AV} (h:Mq a b d e f g i j k l m n o p q s t u w x (ae (C mx) Tryz.prog) (af (C mx) Tryz.prog 94 Tryz.f94)=some r):Cx (af (C mx) Tryz.prog 94 Tryz.f94) a b d e f g i j k l m n o p q s t u w x=some r :=
 ak (fun _ _=>by kernel_rfl) h
def YZ (a b:UInt8) (d:Bool) (e f g i:UInt8) (j:Bool) (k:UInt8) (l:List UInt8) (m:UInt8) (c:al) (r:RunT):Option AV :=
 (aq (.b (!(aK f 0))) true (some (.b (aK m f))) (.b false)).bind fun n=>(aq n false ((aq (.b (aK f 0)) true ((c 118 [.u8 m]).bind fun o=>(aq o false (some (.b (aK m 62))) (.b true)).bind fun p=>some p) (.b false)).bind fun q=>some q) (.b true)).bind fun s=>ah s
 ((c 125 [.ag [.u8 a, .u8 b, .b d, .u8 e, .u8 f, .u8 g, .u8 i, .b j, .u8 k, .s l]]).bind fun t=>(unop .not t).bind fun u=>ah u
 (some (.ag [.u8 20, .u8 0, .b false, .u8 0, .u8 0, .u8 0, .u8 0, .b false, .u8 0, .s []]))
 (ah (.b (!(aK f 0)))
 ((c 121 [.ag [.u8 a, .u8 b, .b d, .u8 e, .u8 f, .u8 g, .u8 i, .b j, .u8 k, .s l], .u8 9]).bind fun w=>(AV.aE 10 w).bind fun x=>some (.ag [gt x 0,gt x 1,gt x 2,gt x 3,gt x 4,gt x 5,gt x 6,gt x 7,gt x 8,gt x 9]))
 (ah (.b (aK m 62))
 ((c 122 [.u8 b]).bind fun y=>(AV.aE 10 y).bind fun z=>some (.ag [gt z 0,gt z 1,gt z 2,gt z 3,gt z 4,gt z 5,gt z 6,gt z 7,gt z 8,gt z 9]))
 ((c 121 [.ag [.u8 a, .u8 b, .b d, .u8 e, .u8 f, .u8 g, .u8 i, .b j, .u8 k, .s l], .u8 4]).bind fun A=>(AV.aE 10 A).bind fun B=>some (.ag [gt B 0,gt B 1,gt B 2,gt B 3,gt B 4,gt B 5,gt B 6,gt B 7,gt B 8,gt B 9])))))
 ((aq (.b (aK f 0)) true ((c 126 [.s [34,39,60,61,96], .u8 m]).bind fun D=>(aD .geq D (.int 0)).bind fun E=>some E) (.b false)).bind fun G=>ah G
 (some (.ag [.u8 20, .u8 0, .b false, .u8 0, .u8 0, .u8 0, .u8 0, .b false, .u8 0, .s []]))
 (ah (.b (aK e 1))
 ((c 127 [.ag [.u8 a, .u8 b, .b d, .u8 e, .u8 f, .u8 g, .u8 i, .b j, .u8 k, .s l], .u8 m]).bind fun H=>(AV.aE 10 H).bind fun I=>some (.ag [gt I 0,gt I 1,gt I 2,gt I 3,gt I 4,gt I 5,gt I 6,gt I 7,gt I 8,gt I 9]))
 ((aq (.b (aK e 2)) false (some (.b (aK e 3))) (.b true)).bind fun J=>ah J
 (ah (.b (aK m 38))
 (some (.ag [.u8 20, .u8 0, .b false, .u8 0, .u8 0, .u8 0, .u8 0, .b false, .u8 0, .s []]))
 ((c 128 [.ag [.u8 a, .u8 b, .b d, .u8 e, .u8 f, .u8 g, .u8 i, .b j, .u8 k, .s l], .u8 m, .b (aK e 2)]).bind fun L=>(AV.aE 10 L).bind fun M=>some (.ag [gt M 0,gt M 1,gt M 2,gt M 3,gt M 4,gt M 5,gt M 6,gt M 7,gt M 8,gt M 9])))
 (some (.ag [.u8 a, .u8 b, .b d, .u8 e, .u8 f, .u8 g, .u8 i, .b j, .u8 k, .s l])))))
theorem c95 (a b d e f g i j k l m) {r:AV} (h:YZ a b d e f g i j k l m (ae (C mx) Tryz.prog) (af (C mx) Tryz.prog 95 Tryz.f95)=some r):ae (C mx) Tryz.prog 95 [.ag [.u8 a, .u8 b, .b d, .u8 e, .u8 f, .u8 g, .u8 i, .b j, .u8 k, .s l], .u8 m]=some r :=
 aj (fun _ _=>by kernel_rfl) h
def G3:Code:=(Tryz.f96.body).getD .skip
def wE (run:RunT) (a:UInt8) (b:Bool) (d e f g i j k l m n:AV) (o p:UInt8) (q:Bool) (s t u w:UInt8) (x:Bool) (y:UInt8) (z:List UInt8):Option AV :=
 run ((bL 17 G3 []).getD []) (St.bU [(1, .cell (.val (.u8 a))),(2, .cell (.val (.b b))),(3, .cell (.ptr 3 0)),(6, .cell (.ptr 6 0))] [(3,some (cV d e f g i j k l m n)),(6,some (cT o p q s t u w x y z))])
def wF (run:RunT) (a b d e f g i j k l:AV) (m n:UInt8) (o:Bool) (p q s t:UInt8) (u:Bool) (w:UInt8) (x:List UInt8):Option AV :=
 run ((bL 22 G3 []).getD []) (St.bU [(3, .cell (.ptr 3 0)),(6, .cell (.ptr 6 0))] [(3,some (cV a b d e f g i j k l)),(6,some (cT m n o p q s t u w x))])
def Y0 (a b:UInt8) (d:Bool) (e f g i:UInt8) (j:Bool) (k:UInt8) (l:List UInt8) (m:UInt8) (n:Bool) (c:al) (r:RunT):Option AV :=
 (c 43 [.u8 b]).bind fun o=>(aq (.b (aK a 18)) true (some (.b (aK m 47))) (.b false)).bind fun p=>ah p
 (some (.ag [.u8 19, .u8 b, .b d, .u8 e, .u8 f, .u8 g, .u8 i, .b j, .u8 k, .s l]))
 ((aq (.b (aK a 18)) true (some (.b (aK m 33))) (.b false)).bind fun q=>(aq q true (some (.b (aK b 3))) (.b false)).bind fun s=>ah s
 (some (.ag [.u8 20, .u8 0, .b false, .u8 0, .u8 0, .u8 0, .u8 0, .b false, .u8 0, .s []]))
 ((aq (.b (aK a 19)) true ((cr .eql (.s l) o).bind fun t=>some t) (.b false)).bind fun u=>(aq u true ((c 118 [.u8 m]).bind fun w=>(aq w false (some (.b (aK m 47))) (.b true)).bind fun x=>(aq x false (some (.b (aK m 62))) (.b true)).bind fun y=>some y) (.b false)).bind fun z=>ah z
 ((c 125 [.ag [.u8 a, .u8 b, .b d, .u8 e, .u8 f, .u8 g, .u8 i, .b j, .u8 k, .s l]]).bind fun A=>(unop .not A).bind fun B=>ah B
 (some (.ag [.u8 20, .u8 0, .b false, .u8 0, .u8 0, .u8 0, .u8 0, .b false, .u8 0, .s []]))
 ((c 94 [.ag [.u8 9, .u8 0, .b true, .u8 0, .u8 0, .u8 0, .u8 0, .b false, .u8 0, .s []], .u8 m]).bind fun D=>(aP D 0).bind fun E=>(aP D 1).bind fun G=>(AV.aE 10 E).bind fun H=>some (.ag [gt H 0,gt H 1,gt H 2,gt H 3,gt H 4,gt H 5,gt H 6,gt H 7,gt H 8,gt H 9])))
 ((aq (.b (aK a 19)) true ((c 117 [.u8 m]).bind fun I=>(AV.one I).bind fun J=>(BH (.ro 1 (([J]:List AV)))).bind fun L=>(cr .add (.s l) L).bind fun M=>(c 42 [o,M]).bind fun N=>some N) (.b false)).bind fun O=>ah O
 ((c 117 [.u8 m]).bind fun P=>(AV.one P).bind fun Q=>(BH (.ro 1 (([Q]:List AV)))).bind fun R=>(cr .add (.s l) R).bind fun T=>(AV.one T).bind fun U=>some (.ag [.u8 a, .u8 b, .b d, .u8 e, .u8 f, .u8 g, .u8 i, .b j, .u8 k,U]))
 (ah (.b (aK a 19))
 ((cr .add (.s [47]) (.s l)).bind fun V=>(c 129 [.ag [.u8 a, .u8 b, .b d, .u8 e, .u8 f, .u8 g, .u8 i, .b j, .u8 k, .s l],V, .b n]).bind fun W=>(AV.aE 10 W).bind fun Y=>wE r m n (gt Y 0) (gt Y 1) (gt Y 2) (gt Y 3) (gt Y 4) (gt Y 5) (gt Y 6) (gt Y 7) (gt Y 8) (gt Y 9) 0 0 false 0 0 0 0 false 0 [])
 (wE r m n (.u8 a) (.u8 b) (.b d) (.u8 e) (.u8 f) (.u8 g) (.u8 i) (.b j) (.u8 k) (.s l) 0 0 false 0 0 0 0 false 0 [])))))
theorem c96 (a b d e f g i j k l m n) {r:AV} (h:Y0 a b d e f g i j k l m n (ae (C mx) Tryz.prog) (af (C mx) Tryz.prog 96 Tryz.f96)=some r):ae (C mx) Tryz.prog 96 [.ag [.u8 a, .u8 b, .b d, .u8 e, .u8 f, .u8 g, .u8 i, .b j, .u8 k, .s l], .u8 m, .b n]=some r :=
 aj (fun _ _=>by kernel_rfl) h
def G4 (a:UInt8) (b:Bool) (d e f g i j k l m n:AV) (o p:UInt8) (q:Bool) (s t u w:UInt8) (x:Bool) (y:UInt8) (z:List UInt8) (c:al) (r:RunT):Option AV :=
 (aD .eql d (.u8 20)).bind fun A=>ah A
 (some (.ag [.u8 20, .u8 0, .b false, .u8 0, .u8 0, .u8 0, .u8 0, .b false, .u8 0, .s []]))
 ((BH (.ro 1 (([.u8 a]:List AV)))).bind fun B=>(c 129 [.ag [d,e,f,g,i,j,k,l,m,n],B, .b b]).bind fun D=>(AV.aE 10 D).bind fun E=>(aD .eql (gt E 0) (.u8 17)).bind fun G=>(aq G true (some (.b (aK a 60))) (.b false)).bind fun H=>ah H
 (wF r (.u8 18) (gt E 1) (gt E 2) (gt E 3) (gt E 4) (gt E 5) (gt E 6) (gt E 7) (gt E 8) (gt E 9) o p q s t u w x y z)
 (wF r (gt E 0) (gt E 1) (gt E 2) (gt E 3) (gt E 4) (gt E 5) (gt E 6) (gt E 7) (gt E 8) (gt E 9) o p q s t u w x y z))
def OO (a b d e f g i j k l:AV) (m n:UInt8) (o:Bool) (p q s t:UInt8) (u:Bool) (w:UInt8) (x:List UInt8) (c:al) (r:RunT):Option AV :=
 some (.ag [a,b,d,e,f,g,i,j,k,l])
theorem OP (a b d e f g i j k l m n o p q s t u w x y z) {r:AV} (h:G4 a b d e f g i j k l m n o p q s t u w x y z (ae (C mx) Tryz.prog) (af (C mx) Tryz.prog 96 Tryz.f96)=some r):wE (af (C mx) Tryz.prog 96 Tryz.f96) a b d e f g i j k l m n o p q s t u w x y z=some r :=
 ak (fun _ _=>by kernel_rfl) h
theorem OQ (a b d e f g i j k l m n o p q s t u w x) {r:AV} (h:OO a b d e f g i j k l m n o p q s t u w x (ae (C mx) Tryz.prog) (af (C mx) Tryz.prog 96 Tryz.f96)=some r):wF (af (C mx) Tryz.prog 96 Tryz.f96) a b d e f g i j k l m n o p q s t u w x=some r :=
 ak (fun _ _=>by kernel_rfl) h
def sK:Code:=(Tryz.f97.body).getD .skip
def Cy (run:RunT) (a b d:UInt8) (e:Bool) (f g i j:UInt8) (k:Bool) (l:UInt8) (m:List UInt8) (n o:UInt8) (p:Bool) (q s t u:UInt8) (w:Bool) (x:UInt8) (y:List UInt8):Option AV :=
 run ((bL 4 sK []).getD []) (St.bU [(1, .cell (.val (.u8 a))),(2, .cell (.ptr 2 0)),(4, .cell (.ptr 4 0))] [(2,some (cT b d e f g i j k l m)),(4,some (cT n o p q s t u w x y))])
def AP (run:RunT) (a b d e:UInt8) (f:Bool) (g i j k:UInt8) (l:Bool) (m:UInt8) (n:List UInt8) (o p:UInt8) (q:Bool) (s t u w:UInt8) (x:Bool) (y:UInt8) (z:List UInt8):Option AV :=
 run ((bL 11 sK []).getD []) (St.bU [(1, .cell (.val (.u8 a))),(2, .cell (.ptr 2 0)),(4, .cell (.ptr 4 0)),(6, .cell (.val (.u8 b)))] [(2,some (cT d e f g i j k l m n)),(4,some (cT o p q s t u w x y z))])
def wG (run:RunT) (a b d:UInt8) (e:Bool) (f g i j:UInt8) (k:Bool) (l:UInt8) (m:List UInt8) (n o:UInt8) (p:Bool) (q s t u:UInt8) (w:Bool) (x:UInt8) (y:List UInt8):Option AV :=
 run ((bL 13 sK []).getD []) (St.bU [(1, .cell (.val (.u8 a))),(2, .cell (.ptr 2 0)),(4, .cell (.ptr 4 0))] [(2,some (cT b d e f g i j k l m)),(4,some (cT n o p q s t u w x y))])
def AQ (run:RunT) (a b d e:UInt8) (f:Bool) (g i j k:UInt8) (l:Bool) (m:UInt8) (n:List UInt8) (o p:UInt8) (q:Bool) (s t u w:UInt8) (x:Bool) (y:UInt8) (z:List UInt8):Option AV :=
 run ((bL 20 sK []).getD []) (St.bU [(1, .cell (.val (.u8 a))),(2, .cell (.ptr 2 0)),(4, .cell (.ptr 4 0)),(6, .cell (.val (.u8 b)))] [(2,some (cT d e f g i j k l m n)),(4,some (cT o p q s t u w x y z))])
def wH (run:RunT) (a b:UInt8) (d:Bool) (e f g i:UInt8) (j:Bool) (k:UInt8) (l:List UInt8) (m n:UInt8) (o:Bool) (p q s t:UInt8) (u:Bool) (w:UInt8) (x:List UInt8):Option AV :=
 run ((bL 31 sK []).getD []) (St.bU [(2, .cell (.ptr 2 0)),(4, .cell (.ptr 4 0))] [(2,some (cT a b d e f g i j k l)),(4,some (cT m n o p q s t u w x))])
def Y1 (a b:UInt8) (d:Bool) (e f g i:UInt8) (j:Bool) (k:UInt8) (l:List UInt8) (m:UInt8) (c:al) (r:RunT):Option AV :=
 ah (.b (aK a 11))
 (Cy r m a b d e f g i j k l 0 0 false 0 0 0 0 false 0 [])
 (ah (.b (aK a 12))
 (Cy r m a b d e f g i j k l 0 0 false 0 0 0 0 false 0 [])
 (AP r m a a b d e f g i j k l 0 0 false 0 0 0 0 false 0 []))
theorem c97 (a b d e f g i j k l m) {r:AV} (h:Y1 a b d e f g i j k l m (ae (C mx) Tryz.prog) (af (C mx) Tryz.prog 97 Tryz.f97)=some r):ae (C mx) Tryz.prog 97 [.ag [.u8 a, .u8 b, .b d, .u8 e, .u8 f, .u8 g, .u8 i, .b j, .u8 k, .s l], .u8 m]=some r :=
 aj (fun _ _=>by kernel_rfl) h
def Mt (a b d:UInt8) (e:Bool) (f g i j:UInt8) (k:Bool) (l:UInt8) (m:List UInt8) (n o:UInt8) (p:Bool) (q s t u:UInt8) (w:Bool) (x:UInt8) (y:List UInt8) (c:al) (r:RunT):Option AV :=
 ah (.b (aK a 62))
 (some (.ag [.u8 0, .u8 0, .b false, .u8 0, .u8 0, .u8 0, .u8 0, .b false, .u8 0, .s []]))
 ((aq (.b (aK a 45)) true (some (.b (aK b 11))) (.b false)).bind fun z=>ah z
 (some (.ag [.u8 12, .u8 0, .b false, .u8 0, .u8 0, .u8 0, .u8 0, .b false, .u8 0, .s []]))
 (ah (.b (aK a 45))
 (some (.ag [.u8 13, .u8 0, .b false, .u8 0, .u8 0, .u8 0, .u8 0, .b false, .u8 0, .s []]))
 (some (.ag [.u8 16, .u8 0, .b false, .u8 0, .u8 0, .u8 0, .u8 0, .b false, .u8 0, .s []]))))
def G5 (a b d e:UInt8) (f:Bool) (g i j k:UInt8) (l:Bool) (m:UInt8) (n:List UInt8) (o p:UInt8) (q:Bool) (s t u w:UInt8) (x:Bool) (y:UInt8) (z:List UInt8) (c:al) (r:RunT):Option AV :=
 ah (.b (aK b 13))
 (wG r a d e f g i j k l m n o p q s t u w x y z)
 (ah (.b (aK b 14))
 (wG r a d e f g i j k l m n o p q s t u w x y z)
 (AQ r a b d e f g i j k l m n o p q s t u w x y z))
def G6 (a b d:UInt8) (e:Bool) (f g i j:UInt8) (k:Bool) (l:UInt8) (m:List UInt8) (n o:UInt8) (p:Bool) (q s t u:UInt8) (w:Bool) (x:UInt8) (y:List UInt8) (c:al) (r:RunT):Option AV :=
 ah (.b (aK a 62))
 (some (.ag [.u8 20, .u8 0, .b false, .u8 0, .u8 0, .u8 0, .u8 0, .b false, .u8 0, .s []]))
 ((aq (.b (aK a 45)) true (some (.b (aK b 13))) (.b false)).bind fun z=>ah z
 (some (.ag [.u8 14, .u8 0, .b false, .u8 0, .u8 0, .u8 0, .u8 0, .b false, .u8 0, .s []]))
 (ah (.b (aK a 45))
 (some (.ag [.u8 15, .u8 0, .b false, .u8 0, .u8 0, .u8 0, .u8 0, .b false, .u8 2, .s []]))
 (some (.ag [.u8 15, .u8 0, .b false, .u8 0, .u8 0, .u8 0, .u8 0, .b false, .u8 0, .s []]))))
def G7 (a b d e:UInt8) (f:Bool) (g i j k:UInt8) (l:Bool) (m:UInt8) (n:List UInt8) (o p:UInt8) (q:Bool) (s t u w:UInt8) (x:Bool) (y:UInt8) (z:List UInt8) (c:al) (r:RunT):Option AV :=
 ah (.b (aK b 15))
 ((aq (.b (aK a 62)) true (some (.b (aK m 2))) (.b false)).bind fun A=>ah A
 (some (.ag [.u8 0, .u8 0, .b false, .u8 0, .u8 0, .u8 0, .u8 0, .b false, .u8 0, .s []]))
 ((aq (.b (aK a 33)) true (some (.b (aK m 2))) (.b false)).bind fun B=>ah B
 (some (.ag [.u8 20, .u8 0, .b false, .u8 0, .u8 0, .u8 0, .u8 0, .b false, .u8 0, .s []]))
 (ah (.b (aK a 45))
 ((aD .add (.u8 m) (.u8 1)).bind fun D=>(mm true D (.u8 2)).bind fun E=>(AV.one E).bind fun G=>some (.ag [.u8 15, .u8 0, .b false, .u8 0, .u8 0, .u8 0, .u8 0, .b false,G, .s []]))
 (some (.ag [.u8 15, .u8 0, .b false, .u8 0, .u8 0, .u8 0, .u8 0, .b false, .u8 0, .s []])))))
 (ah (.b (aK b 16))
 (ah (.b (aK a 62))
 (some (.ag [.u8 0, .u8 0, .b false, .u8 0, .u8 0, .u8 0, .u8 0, .b false, .u8 0, .s []]))
 (wH r d e f g i j k l m n o p q s t u w x y z))
 (wH r d e f g i j k l m n o p q s t u w x y z))
def OR (a b:UInt8) (d:Bool) (e f g i:UInt8) (j:Bool) (k:UInt8) (l:List UInt8) (m n:UInt8) (o:Bool) (p q s t:UInt8) (u:Bool) (w:UInt8) (x:List UInt8) (c:al) (r:RunT):Option AV :=
 some (.ag [.u8 a, .u8 b, .b d, .u8 e, .u8 f, .u8 g, .u8 i, .b j, .u8 k, .s l])
theorem R1 (a b d e f g i j k l m n o p q s t u w x y) {r:AV} (h:Mt a b d e f g i j k l m n o p q s t u w x y (ae (C mx) Tryz.prog) (af (C mx) Tryz.prog 97 Tryz.f97)=some r):Cy (af (C mx) Tryz.prog 97 Tryz.f97) a b d e f g i j k l m n o p q s t u w x y=some r :=
 ak (fun _ _=>by kernel_rfl) h
theorem OS (a b d e f g i j k l m n o p q s t u w x y z) {r:AV} (h:G5 a b d e f g i j k l m n o p q s t u w x y z (ae (C mx) Tryz.prog) (af (C mx) Tryz.prog 97 Tryz.f97)=some r):AP (af (C mx) Tryz.prog 97 Tryz.f97) a b d e f g i j k l m n o p q s t u w x y z=some r :=
 ak (fun _ _=>by kernel_rfl) h
theorem OT (a b d e f g i j k l m n o p q s t u w x y) {r:AV} (h:G6 a b d e f g i j k l m n o p q s t u w x y (ae (C mx) Tryz.prog) (af (C mx) Tryz.prog 97 Tryz.f97)=some r):wG (af (C mx) Tryz.prog 97 Tryz.f97) a b d e f g i j k l m n o p q s t u w x y=some r :=
 ak (fun _ _=>by kernel_rfl) h
theorem OU (a b d e f g i j k l m n o p q s t u w x y z) {r:AV} (h:G7 a b d e f g i j k l m n o p q s t u w x y z (ae (C mx) Tryz.prog) (af (C mx) Tryz.prog 97 Tryz.f97)=some r):AQ (af (C mx) Tryz.prog 97 Tryz.f97) a b d e f g i j k l m n o p q s t u w x y z=some r :=
 ak (fun _ _=>by kernel_rfl) h
theorem OV (a b d e f g i j k l m n o p q s t u w x) {r:AV} (h:OR a b d e f g i j k l m n o p q s t u w x (ae (C mx) Tryz.prog) (af (C mx) Tryz.prog 97 Tryz.f97)=some r):wH (af (C mx) Tryz.prog 97 Tryz.f97) a b d e f g i j k l m n o p q s t u w x=some r :=
 ak (fun _ _=>by kernel_rfl) h
def R2 (a:UInt8) (c:al) (r:RunT):Option AV :=
 (aq (.b (J1 a 97)) true (some (.b (ule a 122))) (.b false)).bind fun b=>(aq b false ((aq (.b (J1 a 65)) true (some (.b (ule a 90))) (.b false)).bind fun d=>some d) (.b true)).bind fun e=>some e
theorem V' a {r:AV} (h:R2 a (ae (C mx) Tryz.prog) (af (C mx) Tryz.prog 116 Tryz.f116)=some r):ae (C mx) Tryz.prog 116 [.u8 a]=some r :=
 aj (fun _ _=>by kernel_rfl) h
def Wa (a:UInt8) (c:al) (r:RunT):Option AV :=
 (aq (.b (J1 a 65)) true (some (.b (ule a 90))) (.b false)).bind fun b=>ah b
 ((aD .add (.u8 a) (.u8 97)).bind fun d=>(aD .sub d (.u8 65)).bind fun e=>some e)
 (some (.u8 a))
theorem Wb a {r:AV} (h:Wa a (ae (C mx) Tryz.prog) (af (C mx) Tryz.prog 117 Tryz.f117)=some r):ae (C mx) Tryz.prog 117 [.u8 a]=some r :=
 aj (fun _ _=>by kernel_rfl) h
def R4 (a:UInt8) (c:al) (r:RunT):Option AV :=
 (aq (.b (aK a 32)) false (some (.b (aK a 9))) (.b true)).bind fun b=>(aq b false (some (.b (aK a 10))) (.b true)).bind fun d=>(aq d false (some (.b (aK a 12))) (.b true)).bind fun e=>(aq e false (some (.b (aK a 13))) (.b true)).bind fun f=>some f
theorem Wc a {r:AV} (h:R4 a (ae (C mx) Tryz.prog) (af (C mx) Tryz.prog 118 Tryz.f118)=some r):ae (C mx) Tryz.prog 118 [.u8 a]=some r :=
 aj (fun _ _=>by kernel_rfl) h
def R5 (a b:UInt8) (d:Bool) (e f g i:UInt8) (j:Bool) (k:UInt8) (l:List UInt8) (m:UInt8) (c:al) (r:RunT):Option AV :=
 ah (.b (decide (((l.length:Int)) ≥ 32)))
 (some (.ag [.u8 20, .u8 0, .b false, .u8 0, .u8 0, .u8 0, .u8 0, .b false, .u8 0, .s []]))
 ((c 117 [.u8 m]).bind fun n=>(AV.one n).bind fun o=>(BH (.ro 1 (([o]:List AV)))).bind fun p=>(cr .add (.s l) p).bind fun q=>(AV.one q).bind fun s=>some (.ag [.u8 a, .u8 b, .b d, .u8 e, .u8 f, .u8 g, .u8 i, .b j, .u8 k,s]))
theorem We (a b d e f g i j k l m) {r:AV} (h:R5 a b d e f g i j k l m (ae (C mx) Tryz.prog) (af (C mx) Tryz.prog 119 Tryz.f119)=some r):ae (C mx) Tryz.prog 119 [.ag [.u8 a, .u8 b, .b d, .u8 e, .u8 f, .u8 g, .u8 i, .b j, .u8 k, .s l], .u8 m]=some r :=
 aj (fun _ _=>by kernel_rfl) h
def Wg (a b:UInt8) (d:Bool) (e f g i:UInt8) (j:Bool) (k:UInt8) (l:List UInt8) (m:UInt8) (c:al) (r:RunT):Option AV :=
 some (.ag [.u8 m, .u8 b, .b d, .u8 0, .u8 0, .u8 0, .u8 0, .b false, .u8 0, .s []])
theorem Wh (a b d e f g i j k l m) {r:AV} (h:Wg a b d e f g i j k l m (ae (C mx) Tryz.prog) (af (C mx) Tryz.prog 121 Tryz.f121)=some r):ae (C mx) Tryz.prog 121 [.ag [.u8 a, .u8 b, .b d, .u8 e, .u8 f, .u8 g, .u8 i, .b j, .u8 k, .s l], .u8 m]=some r :=
 aj (fun _ _=>by kernel_rfl) h
def R6 (a:UInt8) (c:al) (r:RunT):Option AV :=
 ah (.b (nW a 0))
 (some (.ag [.u8 17, .u8 a, .b false, .u8 0, .u8 0, .u8 0, .u8 0, .b false, .u8 0, .s []]))
 (some (.ag [.u8 0, .u8 0, .b false, .u8 0, .u8 0, .u8 0, .u8 0, .b false, .u8 0, .s []]))
theorem Wi a {r:AV} (h:R6 a (ae (C mx) Tryz.prog) (af (C mx) Tryz.prog 122 Tryz.f122)=some r):ae (C mx) Tryz.prog 122 [.u8 a]=some r :=
 aj (fun _ _=>by kernel_rfl) h
def R7 (a b:UInt8) (d:Bool) (e f g i:UInt8) (j:Bool) (k:UInt8) (l:List UInt8) (m:UInt8) (c:al) (r:RunT):Option AV :=
 (c 118 [.u8 m]).bind fun n=>ah n
 (some (.tu [.ag [.u8 a, .u8 b, .b d, .u8 e, .u8 f, .u8 g, .u8 i, .b j, .u8 k, .s l], .b false]))
 (ah (.b (aK m 62))
 (some (.tu [.ag [.u8 20, .u8 0, .b false, .u8 0, .u8 0, .u8 0, .u8 0, .b false, .u8 0, .s []], .b false]))
 ((aq (.b (aK m 34)) false (some (.b (aK m 39))) (.b true)).bind fun o=>ah o
 (some (.tu [.ag [.u8 8, .u8 b, .b d, .u8 e, .u8 m, .u8 g, .u8 i, .b j, .u8 k, .s l], .b false]))
 (some (.tu [.ag [.u8 8, .u8 b, .b d, .u8 e, .u8 f, .u8 g, .u8 i, .b j, .u8 k, .s l], .b true]))))
theorem Wj (a b d e f g i j k l m) {r:AV} (h:R7 a b d e f g i j k l m (ae (C mx) Tryz.prog) (af (C mx) Tryz.prog 123 Tryz.f123)=some r):ae (C mx) Tryz.prog 123 [.ag [.u8 a, .u8 b, .b d, .u8 e, .u8 f, .u8 g, .u8 i, .b j, .u8 k, .s l], .u8 m]=some r :=
 aj (fun _ _=>by kernel_rfl) h
def R8 (a b:UInt8) (d:Bool) (e f g i:UInt8) (j:Bool) (k:UInt8) (l:List UInt8) (m:UInt8) (c:al) (r:RunT):Option AV :=
 (aq (.b (aK m 61)) true (some (.b (l != []))) (.b false)).bind fun n=>ah n
 ((c 121 [.ag [.u8 a, .u8 b, .b d, .u8 e, .u8 f, .u8 g, .u8 i, .b j, .u8 k, .s l], .u8 7]).bind fun o=>(AV.aE 10 o).bind fun p=>(c 138 [.s l]).bind fun q=>(AV.one q).bind fun s=>some (.tu [.ag [gt p 0,gt p 1,gt p 2,s,gt p 4,gt p 5,gt p 6,gt p 7,gt p 8,gt p 9], .b false]))
 ((aq (.b (aK m 47)) false (some (.b (aK m 62))) (.b true)).bind fun t=>ah t
 ((c 121 [.ag [.u8 a, .u8 b, .b d, .u8 e, .u8 f, .u8 g, .u8 i, .b j, .u8 k, .s l], .u8 9]).bind fun u=>(AV.aE 10 u).bind fun w=>some (.tu [.ag [gt w 0,gt w 1,gt w 2,gt w 3,gt w 4,gt w 5,gt w 6,gt w 7,gt w 8,gt w 9], .b true]))
 ((c 118 [.u8 m]).bind fun x=>ah x
 (some (.tu [.ag [.u8 6, .u8 b, .b d, .u8 e, .u8 f, .u8 g, .u8 i, .b j, .u8 k, .s l], .b false]))
 (ah (.b (aK a 6))
 ((c 121 [.ag [.u8 a, .u8 b, .b d, .u8 e, .u8 f, .u8 g, .u8 i, .b j, .u8 k, .s l], .u8 4]).bind fun y=>(AV.aE 10 y).bind fun z=>some (.tu [.ag [gt z 0,gt z 1,gt z 2,gt z 3,gt z 4,gt z 5,gt z 6,gt z 7,gt z 8,gt z 9], .b true]))
 ((aq (.b (aK m 34)) false (some (.b (aK m 39))) (.b true)).bind fun A=>(aq A false (some (.b (aK m 60))) (.b true)).bind fun B=>ah B
 (some (.tu [.ag [.u8 20, .u8 0, .b false, .u8 0, .u8 0, .u8 0, .u8 0, .b false, .u8 0, .s []], .b false]))
 ((c 119 [.ag [.u8 a, .u8 b, .b d, .u8 e, .u8 f, .u8 g, .u8 i, .b j, .u8 k, .s l], .u8 m]).bind fun D=>(AV.aE 10 D).bind fun E=>some (.tu [.ag [gt E 0,gt E 1,gt E 2,gt E 3,gt E 4,gt E 5,gt E 6,gt E 7,gt E 8,gt E 9], .b false]))))))
theorem Wl (a b d e f g i j k l m) {r:AV} (h:R8 a b d e f g i j k l m (ae (C mx) Tryz.prog) (af (C mx) Tryz.prog 124 Tryz.f124)=some r):ae (C mx) Tryz.prog 124 [.ag [.u8 a, .u8 b, .b d, .u8 e, .u8 f, .u8 g, .u8 i, .b j, .u8 k, .s l], .u8 m]=some r :=
 aj (fun _ _=>by kernel_rfl) h
def R9 (a b:UInt8) (d:Bool) (e f g i:UInt8) (j:Bool) (k:UInt8) (l:List UInt8) (c:al) (r:RunT):Option AV :=
 (aq (.b (aK i 0)) false (some (.b (aK i 4))) (.b true)).bind fun m=>some m
theorem Wm (a b d e f g i j k l) {r:AV} (h:R9 a b d e f g i j k l (ae (C mx) Tryz.prog) (af (C mx) Tryz.prog 125 Tryz.f125)=some r):ae (C mx) Tryz.prog 125 [.ag [.u8 a, .u8 b, .b d, .u8 e, .u8 f, .u8 g, .u8 i, .b j, .u8 k, .s l]]=some r :=
 aj (fun _ _=>by kernel_rfl) h
def Sa (a:List UInt8) (b:UInt8) (c:al) (r:RunT):Option AV :=
 (c 78 [.s a, .u8 b]).bind fun d=>some d
theorem Wn (a b) {r:AV} (h:Sa a b (ae (C mx) Tryz.prog) (af (C mx) Tryz.prog 126 Tryz.f126)=some r):ae (C mx) Tryz.prog 126 [.s a, .u8 b]=some r :=
 aj (fun _ _=>by kernel_rfl) h
def iJ (run:RunT) (a b:UInt8) (d:Bool) (e f g i:UInt8) (j:Bool) (k:UInt8) (l:AV) (m n:UInt8) (o:Bool) (p q s t:UInt8) (u:Bool) (w:UInt8) (x:List UInt8):Option AV :=
 run ((bL 24 ((Tryz.f127.body).getD .skip) []).getD []) (St.bU [(2, .cell (.ptr 2 0)),(4, .cell (.ptr 4 0))] [(2,some [.val (.u8 a), .val (.u8 b), .val (.b d), .val (.u8 e), .val (.u8 f), .val (.u8 g), .val (.u8 i), .val (.b j), .val (.u8 k), .val (l)]),(4,some (cT m n o p q s t u w x))])
def Sb (a b:UInt8) (d:Bool) (e f g i:UInt8) (j:Bool) (k:UInt8) (l:List UInt8) (m:UInt8) (c:al) (r:RunT):Option AV :=
 (aq (.b (aK g 4)) false (some (.b (aK g 5))) (.b true)).bind fun n=>ah n
 (some (.ag [.u8 a, .u8 b, .b d, .u8 e, .u8 f, .u8 g, .u8 i, .b j, .u8 k, .s []]))
 (ah (.b (aK m 38))
 (some (.ag [.u8 20, .u8 0, .b false, .u8 0, .u8 0, .u8 0, .u8 0, .b false, .u8 0, .s []]))
 ((aq (.b (aK m 63)) false (some (.b (aK m 35))) (.b true)).bind fun o=>ah o
 (iJ r a b d e f 4 i j k (.s []) 0 0 false 0 0 0 0 false 0 [])
 (ah (.b (aK g 3))
 (some (.ag [.u8 a, .u8 b, .b d, .u8 e, .u8 f, .u8 g, .u8 i, .b j, .u8 k, .s []]))
 (ah (.b (aK m 47))
 (iJ r a b d e f 3 i j k (.s []) 0 0 false 0 0 0 0 false 0 [])
 ((aq (.b (aK m 58)) true (some (.b (aK g 2))) (.b false)).bind fun p=>ah p
 (some (.ag [.u8 20, .u8 0, .b false, .u8 0, .u8 0, .u8 0, .u8 0, .b false, .u8 0, .s []]))
 (ah (.b (aK m 58))
 ((aq (.b (l == [104,116,116,112])) false (some (.b (l == [104,116,116,112,115]))) (.b true)).bind fun q=>(aq q false (some (.b (l == [109,97,105,108,116,111]))) (.b true)).bind fun s=>ah s
 (iJ r a b d e f 3 i j k (.s []) 0 0 false 0 0 0 0 false 0 [])
 (iJ r a b d e f 5 i j k (.s []) 0 0 false 0 0 0 0 false 0 []))
 (ah (.b (aK g 2))
 (some (.ag [.u8 a, .u8 b, .b d, .u8 e, .u8 f, .u8 g, .u8 i, .b j, .u8 k, .s []]))
 (ah (.b (decide (((l.length:Int)) ≥ 16)))
 (iJ r a b d e f 1 i j k (.s l) 0 0 false 0 0 0 0 false 0 [])
 ((c 117 [.u8 m]).bind fun t=>same ((AV.one t).bind fun u=>(BH (.ro 1 (([u]:List AV)))).bind fun w=>(cr .add (.s l) w).bind fun x=>(AV.one x).bind fun y=>iJ r a b d e f 1 i j k y 0 0 false 0 0 0 0 false 0 []))))))))))
theorem Wo (a b d e f g i j k l m) {r:AV} (h:Sb a b d e f g i j k l m (ae (C mx) Tryz.prog) (af (C mx) Tryz.prog 127 Tryz.f127)=some r):ae (C mx) Tryz.prog 127 [.ag [.u8 a, .u8 b, .b d, .u8 e, .u8 f, .u8 g, .u8 i, .b j, .u8 k, .s l], .u8 m]=some r :=
 aj (fun _ _=>by kernel_rfl) h
def KB (a b:UInt8) (d:Bool) (e f g i:UInt8) (j:Bool) (k:UInt8) (l:AV) (m n:UInt8) (o:Bool) (p q s t:UInt8) (u:Bool) (w:UInt8) (x:List UInt8) (c:al) (r:RunT):Option AV :=
 some (.ag [.u8 a, .u8 b, .b d, .u8 e, .u8 f, .u8 g, .u8 i, .b j, .u8 k,l])
theorem KC (a b d e f g i j k l m n o p q s t u w x) {r:AV} (h:KB a b d e f g i j k l m n o p q s t u w x (ae (C mx) Tryz.prog) (af (C mx) Tryz.prog 127 Tryz.f127)=some r):iJ (af (C mx) Tryz.prog 127 Tryz.f127) a b d e f g i j k l m n o p q s t u w x=some r :=
 ak (fun _ _=>by kernel_rfl) h
def qW:Code:=(Tryz.f128.body).getD .skip
def cK (run:RunT) (a b:UInt8) (d:Bool) (e f g i:UInt8) (j:Bool) (k:UInt8) (l:List UInt8) (m n:UInt8) (o:Bool) (p q s t:UInt8) (u:Bool) (w:UInt8) (x:List UInt8):Option AV :=
 run ((bL 36 qW []).getD []) (St.bU [(3, .cell (.ptr 3 0)),(6, .cell (.ptr 6 0))] [(3,some (cT a b d e f g i j k l)),(6,some (cT m n o p q s t u w x))])
def oa (run:RunT) (a b:UInt8) (d:Bool) (e f g i:UInt8) (j:Bool) (k:UInt8) (l:List UInt8):Option AV :=
 run ((bL 11 qW []).getD []) (St.bU [(6, .cell (.ptr 6 0))] [(6,some (cT a b d e f g i j k l))])
def qX (run:RunT) (a b d:UInt8) (e:Bool) (f g i j:UInt8) (k:Bool) (l:UInt8) (m:List UInt8) (n o:UInt8) (p:Bool) (q s t u:UInt8) (w:Bool) (x:UInt8) (y:List UInt8):Option AV :=
 run ((bL 23 qW []).getD []) (St.bU [(1, .cell (.val (.u8 a))),(3, .cell (.ptr 3 0)),(6, .cell (.ptr 6 0))] [(3,some (cT b d e f g i j k l m)),(6,some (cT n o p q s t u w x y))])
def wI (run:RunT) (a b d e:UInt8) (f:Bool) (g i j k:UInt8) (l:Bool) (m:UInt8) (n:List UInt8) (o p:UInt8) (q:Bool) (s t u w:UInt8) (x:Bool) (y:UInt8) (z:List UInt8):Option AV :=
 run ((bL 24 qW []).getD []) (St.bU [(1, .cell (.val (.u8 a))),(3, .cell (.ptr 3 0)),(6, .cell (.ptr 6 0)),(8, .cell (.val (.u8 b)))] [(3,some (cT d e f g i j k l m n)),(6,some (cT o p q s t u w x y z))])
def OW (a b:UInt8) (d:Bool) (e f g i:UInt8) (j:Bool) (k:UInt8) (l:List UInt8) (m:UInt8) (n:Bool) (c:al) (r:RunT):Option AV :=
 ah (.b (aK i 0))
 (ah (.b (aK m 34))
 (cK r a b d e f g 1 j k l 0 0 false 0 0 0 0 false 0 [])
 (ah (.b (aK m 39))
 (cK r a b d e f g 2 j k l 0 0 false 0 0 0 0 false 0 [])
 (ah (.b (aK m 47))
 (cK r a b d e f g 3 j k l 0 0 false 0 0 0 0 false 0 [])
 ((aq (.b n) true (some (.b (aK m 96))) (.b false)).bind fun o=>ah o
 (oa r 0 0 false 0 0 0 0 false 0 [])
 ((aq (.b (!n)) true ((aq (.b (aK m 40)) false (some (.b (aK m 92))) (.b true)).bind fun p=>some p) (.b false)).bind fun q=>ah q
 (oa r 0 0 false 0 0 0 0 false 0 [])
 (cK r a b d e f g i j k l 0 0 false 0 0 0 0 false 0 []))))))
 (ah (.b (aK i 3))
 (ah (.b (aK m 42))
 (cK r a b d e f g 5 j k l 0 0 false 0 0 0 0 false 0 [])
 ((aq (.b n) true (some (.b (aK m 47))) (.b false)).bind fun s=>ah s
 (cK r a b d e f g 4 j k l 0 0 false 0 0 0 0 false 0 [])
 (ah (.b n)
 (some (.ag [.u8 20, .u8 0, .b false, .u8 0, .u8 0, .u8 0, .u8 0, .b false, .u8 0, .s []]))
 ((c 128 [.ag [.u8 a, .u8 b, .b d, .u8 e, .u8 f, .u8 g, .u8 0, .b j, .u8 k, .s l], .u8 m, .b n]).bind fun t=>(AV.aE 10 t).bind fun u=>some (.ag [gt u 0,gt u 1,gt u 2,gt u 3,gt u 4,gt u 5,gt u 6,gt u 7,gt u 8,gt u 9])))))
 (ah (.b (aK i 1))
 (qX r m a b d e f g i j k l 0 0 false 0 0 0 0 false 0 [])
 (ah (.b (aK i 2))
 (qX r m a b d e f g i j k l 0 0 false 0 0 0 0 false 0 [])
 (wI r m i a b d e f g i j k l 0 0 false 0 0 0 0 false 0 []))))
theorem Sc (a b d e f g i j k l m n) {r:AV} (h:OW a b d e f g i j k l m n (ae (C mx) Tryz.prog) (af (C mx) Tryz.prog 128 Tryz.f128)=some r):ae (C mx) Tryz.prog 128 [.ag [.u8 a, .u8 b, .b d, .u8 e, .u8 f, .u8 g, .u8 i, .b j, .u8 k, .s l], .u8 m, .b n]=some r :=
 aj (fun _ _=>by kernel_rfl) h
def KD (a b:UInt8) (d:Bool) (e f g i:UInt8) (j:Bool) (k:UInt8) (l:List UInt8) (m n:UInt8) (o:Bool) (p q s t:UInt8) (u:Bool) (w:UInt8) (x:List UInt8) (c:al) (r:RunT):Option AV :=
 some (.ag [.u8 a, .u8 b, .b d, .u8 e, .u8 f, .u8 g, .u8 i, .b j, .u8 k, .s l])
def KE (a b:UInt8) (d:Bool) (e f g i:UInt8) (j:Bool) (k:UInt8) (l:List UInt8) (c:al) (r:RunT):Option AV :=
 some (.ag [.u8 20, .u8 0, .b false, .u8 0, .u8 0, .u8 0, .u8 0, .b false, .u8 0, .s []])
def Cz (a b d:UInt8) (e:Bool) (f g i j:UInt8) (k:Bool) (l:UInt8) (m:List UInt8) (n o:UInt8) (p:Bool) (q s t u:UInt8) (w:Bool) (x:UInt8) (y:List UInt8) (c:al) (r:RunT):Option AV :=
 (c 139 [.ag [.u8 b, .u8 d, .b e, .u8 f, .u8 g, .u8 i, .u8 j, .b k, .u8 l, .s m], .u8 a]).bind fun z=>(AV.aE 10 z).bind fun A=>some (.ag [gt A 0,gt A 1,gt A 2,gt A 3,gt A 4,gt A 5,gt A 6,gt A 7,gt A 8,gt A 9])
def CA (a b d e:UInt8) (f:Bool) (g i j k:UInt8) (l:Bool) (m:UInt8) (n:List UInt8) (o p:UInt8) (q:Bool) (s t u w:UInt8) (x:Bool) (y:UInt8) (z:List UInt8) (c:al) (r:RunT):Option AV :=
 ah (.b (aK b 4))
 ((aq (.b (aK a 10)) false (some (.b (aK a 13))) (.b true)).bind fun A=>ah A
 (cK r d e f g i j 0 l m n o p q s t u w x y z)
 (cK r d e f g i j k l m n o p q s t u w x y z))
 (ah (.b (aK b 5))
 (ah (.b (aK a 42))
 (cK r d e f g i j 6 l m n o p q s t u w x y z)
 (cK r d e f g i j k l m n o p q s t u w x y z))
 (ah (.b (aK b 6))
 (ah (.b (aK a 47))
 (cK r d e f g i j 0 l m n o p q s t u w x y z)
 (ah (.b (aK a 42))
 (cK r d e f g i j k l m n o p q s t u w x y z)
 (cK r d e f g i j 5 l m n o p q s t u w x y z)))
 (cK r d e f g i j k l m n o p q s t u w x y z)))
theorem CB (a b d e f g i j k l m n o p q s t u w x) {r:AV} (h:KD a b d e f g i j k l m n o p q s t u w x (ae (C mx) Tryz.prog) (af (C mx) Tryz.prog 128 Tryz.f128)=some r):cK (af (C mx) Tryz.prog 128 Tryz.f128) a b d e f g i j k l m n o p q s t u w x=some r :=
 ak (fun _ _=>by kernel_rfl) h
theorem CC (a b d e f g i j k l) {r:AV} (h:KE a b d e f g i j k l (ae (C mx) Tryz.prog) (af (C mx) Tryz.prog 128 Tryz.f128)=some r):oa (af (C mx) Tryz.prog 128 Tryz.f128) a b d e f g i j k l=some r :=
 ak (fun _ _=>by kernel_rfl) h
theorem KF (a b d e f g i j k l m n o p q s t u w x y) {r:AV} (h:Cz a b d e f g i j k l m n o p q s t u w x y (ae (C mx) Tryz.prog) (af (C mx) Tryz.prog 128 Tryz.f128)=some r):qX (af (C mx) Tryz.prog 128 Tryz.f128) a b d e f g i j k l m n o p q s t u w x y=some r :=
 ak (fun _ _=>by kernel_rfl) h
theorem KG (a b d e f g i j k l m n o p q s t u w x y z) {r:AV} (h:CA a b d e f g i j k l m n o p q s t u w x y z (ae (C mx) Tryz.prog) (af (C mx) Tryz.prog 128 Tryz.f128)=some r):wI (af (C mx) Tryz.prog 128 Tryz.f128) a b d e f g i j k l m n o p q s t u w x y z=some r :=
 ak (fun _ _=>by kernel_rfl) h
def wJ (run:RunT) (a:List UInt8) (b d:Int) (e f g i j k l m n o:AV) (p q:UInt8) (s:Bool) (t u w x:UInt8) (y:Bool) (z:UInt8) (A:List UInt8):Option AV :=
 run ((bL 5 ((Tryz.f129.body).getD .skip) []).getD []) (St.bU [(1, .cell (.val (.s a))),(3, .cell (.ptr 3 0)),(6, .cell (.ptr 6 0)),(19, .cell (.val (.int b))),(20, .cell (.val (.int d)))] [(3,some (cV e f g i j k l m n o)),(6,some (cT p q s t u w x y z A))])
def Sd (a b:UInt8) (d:Bool) (e f g i:UInt8) (j:Bool) (k:UInt8) (l m:List UInt8) (n:Bool) (c:al) (r:RunT):Option AV :=
 (aq (.b (!n)) false ((c 140 [.ag [.u8 17, .u8 b, .b d, .u8 e, .u8 f, .u8 g, .u8 i, .b j, .u8 k, .s []]]).bind fun o=>(unop .not o).bind fun p=>some p) (.b true)).bind fun q=>ah q
 (some (.ag [.u8 17, .u8 b, .b d, .u8 e, .u8 f, .u8 g, .u8 i, .b j, .u8 k, .s []]))
 (wJ r m ((m.length:Int)) 0 (.u8 17) (.u8 b) (.b d) (.u8 e) (.u8 f) (.u8 g) (.u8 i) (.b j) (.u8 k) (.s []) 0 0 false 0 0 0 0 false 0 [])
theorem Wp (a b d e f g i j k l m n) {r:AV} (h:Sd a b d e f g i j k l m n (ae (C mx) Tryz.prog) (af (C mx) Tryz.prog 129 Tryz.f129)=some r):ae (C mx) Tryz.prog 129 [.ag [.u8 a, .u8 b, .b d, .u8 e, .u8 f, .u8 g, .u8 i, .b j, .u8 k, .s l], .s m, .b n]=some r :=
 aj (fun _ _=>by kernel_rfl) h
def AR (a:List UInt8) (b d:Int) (e f g i j k l m n o:AV) (p q:UInt8) (s:Bool) (t u w x:UInt8) (y:Bool) (z:UInt8) (A:List UInt8) (c:al) (r:RunT):Option AV :=
 ah (.b (decide (d < b)))
 ((df (.s a) (.int d)).bind fun B=>(aD .eql f (.u8 3)).bind fun D=>(c 128 [.ag [e,f,g,i,j,k,l,m,n,o],B,D]).bind fun E=>(AV.aE 10 E).bind fun G=>(aD .eql (gt G 0) (.u8 20)).bind fun H=>ah H
 (some (.ag [.u8 20, .u8 0, .b false, .u8 0, .u8 0, .u8 0, .u8 0, .b false, .u8 0, .s []]))
 (wJ r a b (bJ (d+1)) (gt G 0) (gt G 1) (gt G 2) (gt G 3) (gt G 4) (gt G 5) (gt G 6) (gt G 7) (gt G 8) (gt G 9) p q s t u w x y z A))
 (some (.ag [e,f,g,i,j,k,l,m,n,o]))
theorem G8 (a b d e f g i j k l m n o p q s t u w x y z A) {r:AV} (h:AR a b d e f g i j k l m n o p q s t u w x y z A (ae (C mx) Tryz.prog) (af (C mx) Tryz.prog 129 Tryz.f129)=some r):wJ (af (C mx) Tryz.prog 129 Tryz.f129) a b d e f g i j k l m n o p q s t u w x y z A=some r :=
 ak (fun _ _=>by kernel_rfl) h
def pb (run:RunT) (a b:UInt8) (d:Bool) (e f g i:UInt8) (j:Bool) (k:UInt8) (l:List UInt8) (m n:UInt8) (o:Bool) (p q s t:UInt8) (u:Bool) (w:UInt8) (x:List UInt8):Option AV :=
 run ((bL 9 ((Tryz.f139.body).getD .skip) []).getD []) (St.bU [(2, .cell (.ptr 2 0)),(4, .cell (.ptr 4 0))] [(2,some (cT a b d e f g i j k l)),(4,some (cT m n o p q s t u w x))])
def Se (a b:UInt8) (d:Bool) (e f g i:UInt8) (j:Bool) (k:UInt8) (l:List UInt8) (m:UInt8) (c:al) (r:RunT):Option AV :=
 ah (.b j)
 (pb r a b d e f g i false k l 0 0 false 0 0 0 0 false 0 [])
 (ah (.b (aK m 92))
 (pb r a b d e f g i true k l 0 0 false 0 0 0 0 false 0 [])
 ((aq (.b (aK m 10)) false (some (.b (aK m 13))) (.b true)).bind fun n=>ah n
 (some (.ag [.u8 20, .u8 0, .b false, .u8 0, .u8 0, .u8 0, .u8 0, .b false, .u8 0, .s []]))
 ((aq (.b (aK m 34)) true (some (.b (aK i 1))) (.b false)).bind fun o=>(aq o false ((aq (.b (aK m 39)) true (some (.b (aK i 2))) (.b false)).bind fun p=>some p) (.b true)).bind fun q=>ah q
 (pb r a b d e f g 0 j k l 0 0 false 0 0 0 0 false 0 [])
 (pb r a b d e f g i j k l 0 0 false 0 0 0 0 false 0 []))))
theorem Wq (a b d e f g i j k l m) {r:AV} (h:Se a b d e f g i j k l m (ae (C mx) Tryz.prog) (af (C mx) Tryz.prog 139 Tryz.f139)=some r):ae (C mx) Tryz.prog 139 [.ag [.u8 a, .u8 b, .b d, .u8 e, .u8 f, .u8 g, .u8 i, .b j, .u8 k, .s l], .u8 m]=some r :=
 aj (fun _ _=>by kernel_rfl) h
def OX (a b:UInt8) (d:Bool) (e f g i:UInt8) (j:Bool) (k:UInt8) (l:List UInt8) (m n:UInt8) (o:Bool) (p q s t:UInt8) (u:Bool) (w:UInt8) (x:List UInt8) (c:al) (r:RunT):Option AV :=
 some (.ag [.u8 a, .u8 b, .b d, .u8 e, .u8 f, .u8 g, .u8 i, .b j, .u8 k, .s l])
theorem OY (a b d e f g i j k l m n o p q s t u w x) {r:AV} (h:OX a b d e f g i j k l m n o p q s t u w x (ae (C mx) Tryz.prog) (af (C mx) Tryz.prog 139 Tryz.f139)=some r):pb (af (C mx) Tryz.prog 139 Tryz.f139) a b d e f g i j k l m n o p q s t u w x=some r :=
 ak (fun _ _=>by kernel_rfl) h
theorem Wr (l:List UInt8) (x:UInt8):ae (C mx) Tryz.prog 109 [.s l, .u8 x]=some (.int (iv l x)) :=
 yB (fn:=Tryz.f109) (by kernel_rfl) (by kernel_rfl) (by kernel_rfl) (by
  show (bif (Tryz.f109.name == "internal/bytealg.IndexByteString") then some (AV.int (iv l x)) else none)=_
  rw [show (Tryz.f109.name == "internal/bytealg.IndexByteString")=true by kernel_rfl]
  rfl)
theorem s78 (l:List UInt8) (x:UInt8):ae (C mx) Tryz.prog 78 [.s l, .u8 x]=some (.int (iv l x)):=by
 apply c78
 simp only [YV,Wr,Option.bind_some]
theorem Ws (l:List UInt8) (x:UInt8):ae (C mx) Tryz.prog 126 [.s l, .u8 x]=some (.int (iv l x)):=by
 apply Wn
 simp only [Sa,s78,Option.bind_some]
section
variable (c:Ctx) (b:UInt8)
theorem G9 (h:c.nm.length < 9223372036854775808):ae (C mx) Tryz.prog 17 [c.au]=some (.b (form c)):=s17 (h:=h) ..
theorem AU (h:c.nm.length < 9223372036854775808):ae (C mx) Tryz.prog 20 [c.au]=some (.b (form c)):=s20 (h:=h) ..
theorem OZ:ae (C mx) Tryz.prog 140 [c.au]=some (.b (mf c.st c.el c.at')):=V5 ..
theorem Sf:ae (C mx) Tryz.prog 116 [.u8 b]=some (.b (letter b)):=by
 apply V'
 simp only [R2,cX,dm,Option.bind_some,ax,aI,letter]
theorem Ha:ae (C mx) Tryz.prog 117 [.u8 b]=some (.u8 (eS b)):=by
 apply Wb
 refine J0 ?_
 revert b
 exact fB (by kernel_rfl)
theorem Hb:ae (C mx) Tryz.prog 118 [.u8 b]=some (.b (bj b)):=by
 apply Wc
 simp only [R4,aJ,Option.bind_some,ax,aI,bj]
theorem Sg:ae (C mx) Tryz.prog 125 [c.au]=some (.b (ends c)):=by
 apply Wm
 simp only [R9,aJ,Option.bind_some,ax,aI,ends]
theorem KH (s:UInt8):ae (C mx) Tryz.prog 121 [c.au, .u8 s]=some (within c s).au:=by
 apply Wh
 rfl
theorem Sh (el:UInt8):ae (C mx) Tryz.prog 122 [.u8 el]=some (iU el).au:=by
 apply Wi
 simp only [R6,cy,ai,iU,aR]
 rfl
theorem s92:ae (C mx) Tryz.prog 92 [.u8 b]=some (tv (opened b)):=by
 apply c92
 simp only [YW,Sf,Ha,aJ,Option.bind_some,eI,iG,jY,ai,opened,we]
 rfl
theorem s93:ae (C mx) Tryz.prog 93 [.u8 b]=some (closed b).au:=by
 apply c93
 simp only [YX,Sf,Ha,aJ,Option.bind_some,eI,iG,jY,ai,closed,aR]
 rfl
theorem Si:ae (C mx) Tryz.prog 119 [c.au, .u8 b]=some (grown c b).au:=by
 apply We
 simp only [R5,Ha,Option.bind_some,eI,iG,ai,grown,aR]
 have e:decide ((c.nm.length:Int) ≥ 32)=decide (32≤c.nm.length):=by rw [decide_eq_decide];omega
 rw [e]
 by_cases h:32≤c.nm.length
 ·rw [if_pos (by simpa using h),if_pos (by simpa using h)];rfl
 ·rw [if_neg (by simpa using h),if_neg (by simpa using h),kH (by simp;omega)];rfl
theorem Wt:ae (C mx) Tryz.prog 123 [c.au, .u8 b]=some (tv (dn c b)):=by
 apply Wj
 simp only [R7,Hb,aJ,Option.bind_some,aI,ai,dn,we]
 rfl
theorem Wu:ae (C mx) Tryz.prog 124 [c.au, .u8 b]=some (tv (named c b)):=by
 apply Wl
 simp only [R8,Hb,V8,az,aF,Si,KH,ao,zT,Gc,aJ,Option.bind_some,aI,ax,ai,named,we,eI]
 rfl
theorem Y2:ae (C mx) Tryz.prog 94 [c.au, .u8 b]=some (tv (tag c b)):=by
 have f (el:UInt8):Cx (af (C mx) Tryz.prog 94 Tryz.f94) c.st (.u8 el) c.en c.at' c.qu c.pa c.su c.es c.da c.nm 0 0 false 0 0 0 0 false 0 []=some (tv (within { c with el:=el } 9,true)):=by
  apply R0
  simp only [Mq,az,KH,ao,zT,aF,Gc,Option.bind_some]
 apply c94
 simp only [YY,f,Hb,V6,az,aF,Si,KH,Sh,Wt,Wu,ao,zT,Gc,J6,J7,aJ,cy,bn,Option.bind_some,aI,ax,ai,tag,we,eI]
 rfl
theorem Wv:ae (C mx) Tryz.prog 139 [c.au, .u8 b]=some (text c b).au:=by
 have f (d:Ctx):pb (af (C mx) Tryz.prog 139 Tryz.f139) d.st d.el d.en d.at' d.qu d.pa d.su d.es d.da d.nm 0 0 false 0 0 0 0 false 0 []=some d.au:=by
  apply OY
  rfl
 apply Wq
 simp only [Se,aJ,Option.bind_some,aI,ax,ai,text,aR]
 rw [f c,f { c with su:=0 },f { c with es:=true },f { c with es:=false }]
 rfl
theorem Sj (script:Bool) (h:(c.su == 0)=true):ae (C mx) Tryz.prog 128 [c.au, .u8 b, .b script]=some (gT c b script).au:=by
 have f (d:Ctx):cK (af (C mx) Tryz.prog 128 Tryz.f128) d.st d.el d.en d.at' d.qu d.pa d.su d.es d.da d.nm 0 0 false 0 0 0 0 false 0 []=some d.au:=by
  apply CB
  rfl
 have g:oa (af (C mx) Tryz.prog 128 Tryz.f128) 0 0 false 0 0 0 0 false 0 []=some bc.au:=by
  apply CC
  rfl
 apply Sc
 simp only [OW,aJ,Option.bind_some,aI,ax,ai,gT,aR,h,if_true]
 rw [f c,f { c with su:=1 },f { c with su:=2 },f { c with su:=3 },g]
theorem Sk (script:Bool):ae (C mx) Tryz.prog 128 [c.au, .u8 b, .b script]=some (code c b script).au:=by
 have f (d:Ctx):cK (af (C mx) Tryz.prog 128 Tryz.f128) d.st d.el d.en d.at' d.qu d.pa d.su d.es d.da d.nm 0 0 false 0 0 0 0 false 0 []=some d.au:=by
  apply CB
  rfl
 have g:oa (af (C mx) Tryz.prog 128 Tryz.f128) 0 0 false 0 0 0 0 false 0 []=some bc.au:=by
  apply CC
  rfl
 have t (d:Ctx):qX (af (C mx) Tryz.prog 128 Tryz.f128) b d.st d.el d.en d.at' d.qu d.pa d.su d.es d.da d.nm 0 0 false 0 0 0 0 false 0 []=some (text d b).au:=by
  apply KF
  simp only [Cz,az,aF,Wv,ao,zT,Option.bind_some]
 have u (d:Ctx):wI (af (C mx) Tryz.prog 128 Tryz.f128) b d.su d.st d.el d.en d.at' d.qu d.pa d.su d.es d.da d.nm 0 0 false 0 0 0 0 false 0 [] =
   some (if d.su == 4 then (if b == 10 || b == 13 then { d with su:=0 } else d) else if d.su == 5 then (if b == 42 then { d with su:=6 } else d) else if d.su == 6 then (if b == 47 then { d with su:=0 } else if b == 42 then d else { d with su:=5 }) else d:Ctx).au:=by
  apply KG
  simp only [CA,aJ,Option.bind_some,aI,ax,ai,aR]
  rw [f d,f { d with su:=0 },f { d with su:=6 },f { d with su:=5 }]
 apply Sc
 have z:ae (C mx) Tryz.prog 128 [Ctx.au { c with su:=0 }, .u8 b, .b script]=some (gT { c with su:=0 } b script).au:=Sj _ b script rfl
 simp only [OW,aJ,Option.bind_some,aI,ax,ai,code,aR,az,aF]
 rw [f c,f { c with su:=1 },f { c with su:=2 },f { c with su:=3 },f { c with su:=4 },f { c with su:=5 },g,t c,u c,z]
 simp only [ao,zT,Option.bind_some,az,aF]
 simp only [gT,aR]
 rfl
theorem Ww:ae (C mx) Tryz.prog 127 [c.au, .u8 b]=some (url c b).au:=by
 have f (d:Ctx):iJ (af (C mx) Tryz.prog 127 Tryz.f127) d.st d.el d.en d.at' d.qu d.pa d.su d.es d.da (.s d.nm) 0 0 false 0 0 0 0 false 0 []=some d.au:=by
  apply KC
  rfl
 apply Wo
 simp only [Sb,aJ,Option.bind_some,aI,ax,ai,Ha,eI,iG,JV,url,aR]
 rw [f { c with pa:=4,nm:=[] },f { c with pa:=3,nm:=[] },f { c with pa:=5,nm:=[] },f { c with pa:=1 }]
 have e:decide ((c.nm.length:Int) ≥ 16)=decide (16≤c.nm.length):=by rw [decide_eq_decide];omega
 rw [e,show (c.nm == [104,116,116,112] || c.nm == [104,116,116,112,115] || c.nm == [109,97,105,108,116,111])=yR c.nm from rfl]
 by_cases h:16≤c.nm.length
 ·simp only [decide_eq_true h,if_true];rfl
 ·rw [kH (by simp;omega)]
  simp only [Option.bind_some,jY]
  rw [f { c with pa:=1,nm:=c.nm ++ [eS b] }]
  rfl
theorem Hc:decide (iv [34,39,60,61,96] b ≥ 0)=so b:=by
 revert b
 exact D1 (by kernel_rfl)
theorem s95:ae (C mx) Tryz.prog 95 [c.au, .u8 b]=some (value c b).au:=by
 apply c95
 simp only [YZ,aJ,Option.bind_some,aI,ax,ai,Hb,Ws,az,aF,Sg,KH,Sh,Ww,Sk,ao,zT,bn,value,aR,gj,Hc]
 rfl
theorem Sl:∀ (r p:List UInt8) (c:Ctx),(p ++ r).length < 9223372036854775808→wJ (af (C mx) Tryz.prog 129 Tryz.f129) (p ++ r) ((p ++ r).length:Int) (p.length:Int) (.u8 c.st) (.u8 c.el) (.b c.en) (.u8 c.at') (.u8 c.qu) (.u8 c.pa) (.u8 c.su) (.b c.es) (.u8 c.da) (.s c.nm) 0 0 false 0 0 0 0 false 0 []=some (mg c r).au
 | [],p,c,h=>by
  apply G8
  simp only [AR,qQ,nV,List.append_nil,Option.bind_some,ai,Bool.false_eq_true,if_false,az,aF,mg]
 | b :: r,p,c,h=>by
  apply G8
  simp only [AR,vU,iE,lz p b r h,cG,Option.bind_some,ai,if_true,az,aF,Sk,ao,zT,mg,aR]
  rw [dv,Sl r (p ++ [b]) _ (by rw [← dv];exact h)]
  rfl
theorem Sm (s:List UInt8) (feed:Bool) (h:s.length < 9223372036854775808):ae (C mx) Tryz.prog 129 [c.au, .s s, .b feed]=some (mU c s feed).au:=by
 apply Wp
 have l:=Sl (mx:=mx) s [] { c with st:=17,nm:=[] } h
 simp only [Sd,aJ,Option.bind_some,az,aF,OZ,bn,aI,ai,mU,aR]
 split
 ·rfl
 ·exact l
theorem s96 (feed:Bool) (h:c.nm.length < 1000):ae (C mx) Tryz.prog 96 [c.au, .u8 b, .b feed]=some (raw c b feed).au:=by
 have f (d:Ctx):wF (af (C mx) Tryz.prog 96 Tryz.f96) (.u8 d.st) (.u8 d.el) (.b d.en) (.u8 d.at') (.u8 d.qu) (.u8 d.pa) (.u8 d.su) (.b d.es) (.u8 d.da) (.s d.nm) 0 0 false 0 0 0 0 false 0 []=some d.au:=by
  apply OQ
  rfl
 have g (d:Ctx):wE (af (C mx) Tryz.prog 96 Tryz.f96) b feed (.u8 d.st) (.u8 d.el) (.b d.en) (.u8 d.at') (.u8 d.qu) (.u8 d.pa) (.u8 d.su) (.b d.es) (.u8 d.da) (.s d.nm) 0 0 false 0 0 0 0 false 0 []=some (qE d b feed).au:=by
  apply OP
  simp only [G4,cG,Option.bind_some,ai,iG,az,aF]
  rw [Sm d [b] feed (by simp)]
  simp only [Option.bind_some,ao,zT,cG,aJ,ax,ai]
  rw [f (mU d [b] feed),f { mU d [b] feed with st:=18 }]
  simp only [qE,aR]
  rfl
 apply c96
 have a1:cr .add (.s c.nm) (.s [eS b])=some (.s (c.nm ++ [eS b])):=kH (by simp;omega)
 have a2:cr .add (.s [47]) (.s c.nm)=some (.s (47 :: c.nm)):=kH (by simp;omega)
 have a3:=Sm (mx:=mx) c (47 :: c.nm) feed (by simp;omega)
 simp only [Y0,YP,aJ,Option.bind_some,aI,ax,ai,Hb,Ha,eI,iG,jY,a1,a2,nU,Uf,az,aF,Sg,Y2,J6,J7,a3,ao,zT,bn,raw,aR]
 rw [g c,g (mU c (47 :: c.nm) feed)]
 rfl
theorem s97:ae (C mx) Tryz.prog 97 [c.au, .u8 b]=some (note c b).au:=by
 have f (d:Ctx):wH (af (C mx) Tryz.prog 97 Tryz.f97) d.st d.el d.en d.at' d.qu d.pa d.su d.es d.da d.nm 0 0 false 0 0 0 0 false 0 []=some d.au:=by
  apply OV
  rfl
 have f4:Cy (af (C mx) Tryz.prog 97 Tryz.f97) b c.st c.el c.en c.at' c.qu c.pa c.su c.es c.da c.nm 0 0 false 0 0 0 0 false 0 []=some (if b == 62 then bC 0 else if b == 45 && c.st == 11 then bC 12 else if b == 45 then bC 13 else bC 16:Ctx).au:=by
  apply R1
  simp only [Mt,aJ,Option.bind_some,ax,ai,aR]
  rfl
 have f13:wG (af (C mx) Tryz.prog 97 Tryz.f97) b c.st c.el c.en c.at' c.qu c.pa c.su c.es c.da c.nm 0 0 false 0 0 0 0 false 0 []=some (if b == 62 then bc else if b == 45 && c.st == 13 then bC 14 else if b == 45 then ⟨15,0,false,0,0,0,0,false,2,[]⟩ else bC 15:Ctx).au:=by
  apply OT
  simp only [G6,aJ,Option.bind_some,ax,ai,aR]
  rfl
 have hm:(aD .add (.u8 c.da) (.u8 1)).bind (fun v3=>(mm true v3 (.u8 2)).bind fun v4=>(AV.one v4).bind fun v5=>some (AV.ag [.u8 15, .u8 0, .b false, .u8 0, .u8 0, .u8 0, .u8 0, .b false,v5, .s []]))=some (Ctx.au ⟨15,0,false,0,0,0,0,false,(if decide (2 < c.da+1) then 2 else c.da+1),[]⟩):=by
  rw [Ao]
  simp only [Option.bind_some,Rj,eI,az,decide_eq_true_eq]
 have f20:AQ (af (C mx) Tryz.prog 97 Tryz.f97) b c.st c.st c.el c.en c.at' c.qu c.pa c.su c.es c.da c.nm 0 0 false 0 0 0 0 false 0 [] =
   some (if c.st == 15 then (if b == 62 && c.da == 2 then bC 0 else if b == 33 && c.da == 2 then bc else if b == 45 then ⟨15,0,false,0,0,0,0,false,(if decide (2 < c.da+1) then 2 else c.da+1),[]⟩ else bC 15)
 else if c.st == 16 then (if b == 62 then bC 0 else c) else c:Ctx).au:=by
  apply OU
  simp only [G7,aJ,Option.bind_some,ax,ai,aR]
  rw [hm,f c]
  rfl
 have f11:AP (af (C mx) Tryz.prog 97 Tryz.f97) b c.st c.st c.el c.en c.at' c.qu c.pa c.su c.es c.da c.nm 0 0 false 0 0 0 0 false 0 [] =
   some (if c.st == 13 || c.st == 14 then (if b == 62 then bc else if b == 45 && c.st == 13 then bC 14 else if b == 45 then ⟨15,0,false,0,0,0,0,false,2,[]⟩ else bC 15)
 else if c.st == 15 then (if b == 62 && c.da == 2 then bC 0 else if b == 33 && c.da == 2 then bc else if b == 45 then ⟨15,0,false,0,0,0,0,false,(if decide (2 < c.da+1) then 2 else c.da+1),[]⟩ else bC 15)
 else if c.st == 16 then (if b == 62 then bC 0 else c) else c:Ctx).au:=by
  apply OS
  simp only [G5,aJ,Option.bind_some,ax,ai,f13,f20]
  cases (c.st == 13) <;> cases (c.st == 14) <;> rfl
 apply c97
 simp only [Y1,aJ,Option.bind_some,ax,ai,f4,f11,note]
 cases (c.st == 11) <;> cases (c.st == 12) <;> rfl
theorem Wx (feed:Bool):∀ (n:Nat) (c d:Ctx),c.nm.length < 1000→again n c b feed=some d→zg (af (C mx) Tryz.prog 75 Tryz.f75) b feed (.u8 c.st) (.u8 c.el) (.b c.en) (.u8 c.at') (.u8 c.qu) (.u8 c.pa) (.u8 c.su) (.b c.es) (.u8 c.da) (.s c.nm) 0 0 false 0 0 0 0 false 0 []=some d.au
 | 0,c,d,hn,h=>by cases h
 | n+1,c,d,hn,h=>by
  have f32 (d:Ctx):wD (af (C mx) Tryz.prog 75 Tryz.f75) (.u8 d.st) (.u8 d.el) (.b d.en) (.u8 d.at') (.u8 d.qu) (.u8 d.pa) (.u8 d.su) (.b d.es) (.u8 d.da) (.s d.nm) 0 0 false 0 0 0 0 false 0 []=some d.au:=by
   apply OK
   rfl
  have f31:sJ (af (C mx) Tryz.prog 75 Tryz.f75) b feed (.u8 c.st) (.u8 c.el) (.b c.en) (.u8 c.at') (.u8 c.qu) (.u8 c.pa) (.u8 c.su) (.b c.es) (.u8 c.da) (.s c.nm) 0 0 false 0 0 0 0 false 0 []=some (raw c b feed).au:=by
   apply ON
   simp only [G2,az,aF,s96 (h:=hn),Option.bind_some,ao,zT]
  have f4:GZ (af (C mx) Tryz.prog 75 Tryz.f75) b (.u8 c.st) (.u8 c.el) (.b c.en) (.u8 c.at') (.u8 c.qu) (.u8 c.pa) (.u8 c.su) (.b c.es) (.u8 c.da) (.s c.nm) 0 0 false 0 0 0 0 false 0 []=some (note c b).au:=by
   apply RZ
   simp only [Mp,az,aF,s97,Option.bind_some,ao,zT]
  have f26:AO (af (C mx) Tryz.prog 75 Tryz.f75) b feed (.u8 c.st) (.u8 c.st) (.u8 c.el) (.b c.en) (.u8 c.at') (.u8 c.qu) (.u8 c.pa) (.u8 c.su) (.b c.es) (.u8 c.da) (.s c.nm) 0 0 false 0 0 0 0 false 0 []=some (if c.st == 8 then value c b else if c.st == 17 || c.st == 18 || c.st == 19 then raw c b feed else note c b:Ctx).au:=by
   apply OM
   simp only [G1,cG,az,aF,s95,f31,f4,Option.bind_some,ai,ao,zT]
   cases (c.st == 8) <;> cases (c.st == 17) <;> cases (c.st == 18) <;> cases (c.st == 19) <;> rfl
  have f22 (hh:(if (tag c b).2 then again n (tag c b).1 b feed else some (tag c b).1)=some d):jK (af (C mx) Tryz.prog 75 Tryz.f75) b feed (.u8 c.st) (.u8 c.el) (.b c.en) (.u8 c.at') (.u8 c.qu) (.u8 c.pa) (.u8 c.su) (.b c.es) (.u8 c.da) (.s c.nm) 0 0 false 0 0 0 0 false 0 []=some d.au:=by
   apply OL
   simp only [G0,az,aF,Y2,J6,J7,Option.bind_some,ai,ao,zT]
   cases ht:(tag c b).2 with
   | true =>
    rw [ht,if_pos rfl] at hh
    rw [if_pos rfl]
    exact Wx feed n _ d (Nat.lt_of_le_of_lt (N3 c b ht) hn) hh
   | false =>
    rw [ht,if_neg (by simp)] at hh
    rw [if_neg (by simp)]
    cases hh;rfl
  apply RY
  unfold again at h
  simp only [Mo,cG,aJ,az,aF,s92,s93,J6,J7,Option.bind_some,ai,ao,zT]
  cases h0:(c.st == 0) with
  | true =>
   rw [h0,if_pos rfl] at h
   rw [if_pos rfl,f32 c,f32 { c with st:=1 }]
   split <;> rename_i hb
   ·rw [if_pos hb] at h;cases h;rfl
   ·rw [if_neg hb] at h;cases h;rfl
  | false =>
  rw [h0,if_neg (by simp)] at h
  rw [if_neg (by simp)]
  cases h1:(c.st == 1) with
  | true =>
   rw [h1,if_pos rfl] at h
   rw [if_pos rfl]
   split <;> rename_i hb
   ·rw [if_pos hb] at h;cases h;rfl
   ·rw [if_neg hb] at h
    exact Wx feed n { c with st:=0 } d hn h
  | false =>
  rw [h1,if_neg (by simp)] at h
  rw [if_neg (by simp)]
  cases h2:(c.st == 2) with
  | true =>
   rw [h2,if_pos rfl] at h
   rw [if_pos rfl]
   cases h;rfl
  | false =>
  rw [h2,if_neg (by simp)] at h
  rw [if_neg (by simp)]
  cases hT:Qi c.st with
  | true =>
   rw [hT,if_pos rfl] at h
   rw [f22 h]
   unfold Qi at hT
   cases h3:(c.st == 3) <;> cases h4:(c.st == 4) <;> cases h5:(c.st == 5) <;> cases h6:(c.st == 6) <;> cases h7:(c.st == 7) <;> cases h9:(c.st == 9) <;> cases At:(c.st == 10) <;> first | rfl | (rw [h3,h4,h5,h6,h7,h9,At] at hT;cases hT)
  | false =>
   rw [hT,if_neg (by simp)] at h
   unfold Qi at hT
   simp only [Bool.or_eq_false_iff] at hT
   obtain ⟨⟨⟨⟨⟨⟨h3,h4⟩,h5⟩,h6⟩,h7⟩,h9⟩,At⟩:=hT
   rw [h3,h4,h5,h6,h7,h9,At,f26]
   simp only [Bool.false_eq_true,if_false]
   cases h8:(c.st == 8) <;> cases RX:(c.st == 17) <;> cases Rv:(c.st == 18) <;> cases IU:(c.st == 19) <;> (rw [h8,RX,Rv,IU] at h;cases h;rfl)
end
def Y3 (a b:UInt8) (d:Bool) (e f g i:UInt8) (j:Bool) (k:UInt8) (l:List UInt8) (m:UInt8) (c:al) (r:RunT):Option AV :=
 (c 75 [.ag [.u8 a, .u8 b, .b d, .u8 e, .u8 f, .u8 g, .u8 i, .b j, .u8 k, .s l], .u8 m, .b true]).bind fun n=>(AV.aE 10 n).bind fun o=>some (.ag [gt o 0,gt o 1,gt o 2,gt o 3,gt o 4,gt o 5,gt o 6,gt o 7,gt o 8,gt o 9])
theorem c62 (a b d e f g i j k l m) {r:AV} (h:Y3 a b d e f g i j k l m (ae (C mx) Tryz.prog) (af (C mx) Tryz.prog 62 Tryz.f62)=some r):ae (C mx) Tryz.prog 62 [.ag [.u8 a, .u8 b, .b d, .u8 e, .u8 f, .u8 g, .u8 i, .b j, .u8 k, .s l], .u8 m]=some r :=
 aj (fun _ _=>by kernel_rfl) h
def X67  (c:al) (r:RunT):Option AV :=
 some (.ag [.u8 20, .u8 0, .b false, .u8 0, .u8 0, .u8 0, .u8 0, .b false, .u8 0, .s []])
theorem c67 {r:AV} (h:X67  (ae (C mx) Tryz.prog) (af (C mx) Tryz.prog 67 Tryz.f67)=some r):ae (C mx) Tryz.prog 67 []=some r :=
 aj (fun _ _=>by kernel_rfl) h
def Y4 (a:Int) (c:al) (r:RunT):Option AV :=
 (conv .u8 (.int a)).bind fun b=>(AV.one b).bind fun d=>some (.ag [d, .u8 0, .b false, .u8 0, .u8 0, .u8 0, .u8 0, .b false, .u8 0, .s []])
theorem c98 a {r:AV} (h:Y4 a (ae (C mx) Tryz.prog) (af (C mx) Tryz.prog 98 Tryz.f98)=some r):ae (C mx) Tryz.prog 98 [.int a]=some r :=
 aj (fun _ _=>by kernel_rfl) h
def Y5 (a:UInt8) (c:al) (r:RunT):Option AV :=
 (aq (.b (J1 a 97)) true (some (.b (ule a 122))) (.b false)).bind fun b=>(aq b false ((aq (.b (J1 a 65)) true (some (.b (ule a 90))) (.b false)).bind fun d=>some d) (.b true)).bind fun e=>some e
theorem c99 a {r:AV} (h:Y5 a (ae (C mx) Tryz.prog) (af (C mx) Tryz.prog 99 Tryz.f99)=some r):ae (C mx) Tryz.prog 99 [.u8 a]=some r :=
 aj (fun _ _=>by kernel_rfl) h
def wK (run:RunT) (a:AV):Option AV :=
 run ((bL 3 ((Tryz.f100.body).getD .skip) []).getD []) (St.bU [(0, .cell (.val a))] [])
def Sn (a:UInt8) (c:al) (r:RunT):Option AV :=
 (aq (.b (J1 a 65)) true (some (.b (ule a 90))) (.b false)).bind fun b=>ah b
 ((aD .add (.u8 a) (.u8 32)).bind fun d=>wK r d)
 (wK r (.u8 a))
theorem Wy a {r:AV} (h:Sn a (ae (C mx) Tryz.prog) (af (C mx) Tryz.prog 100 Tryz.f100)=some r):ae (C mx) Tryz.prog 100 [.u8 a]=some r :=
 aj (fun _ _=>by kernel_rfl) h
def Hd (a:AV) (c:al) (r:RunT):Option AV :=
 (AV.one a).bind fun b=>(BH (.ro 1 (([b]:List AV)))).bind fun d=>some d
theorem O0 a {r:AV} (h:Hd a (ae (C mx) Tryz.prog) (af (C mx) Tryz.prog 100 Tryz.f100)=some r):wK (af (C mx) Tryz.prog 100 Tryz.f100) a=some r :=
 ak (fun _ _=>by kernel_rfl) h
def Wz (a:UInt8) (c:al) (r:RunT):Option AV :=
 (aq (.b (aK a 32)) false (some (.b (aK a 9))) (.b true)).bind fun b=>(aq b false (some (.b (aK a 10))) (.b true)).bind fun d=>(aq d false (some (.b (aK a 12))) (.b true)).bind fun e=>(aq e false (some (.b (aK a 13))) (.b true)).bind fun f=>some f
theorem WA a {r:AV} (h:Wz a (ae (C mx) Tryz.prog) (af (C mx) Tryz.prog 101 Tryz.f101)=some r):ae (C mx) Tryz.prog 101 [.u8 a]=some r :=
 aj (fun _ _=>by kernel_rfl) h
def So (a b:UInt8) (d:Bool) (e f g i:UInt8) (j:Bool) (k:UInt8) (l:List UInt8) (m:UInt8) (c:al) (r:RunT):Option AV :=
 ah (.b (decide (((l.length:Int)) ≥ 32)))
 ((c 67 []).bind fun n=>(AV.aE 10 n).bind fun o=>some (.ag [gt o 0,gt o 1,gt o 2,gt o 3,gt o 4,gt o 5,gt o 6,gt o 7,gt o 8,gt o 9]))
 ((c 100 [.u8 m]).bind fun p=>(cr .add (.s l) p).bind fun q=>(AV.one q).bind fun s=>some (.ag [.u8 a, .u8 b, .b d, .u8 e, .u8 f, .u8 g, .u8 i, .b j, .u8 k,s]))
theorem WB (a b d e f g i j k l m) {r:AV} (h:So a b d e f g i j k l m (ae (C mx) Tryz.prog) (af (C mx) Tryz.prog 103 Tryz.f103)=some r):ae (C mx) Tryz.prog 103 [.ag [.u8 a, .u8 b, .b d, .u8 e, .u8 f, .u8 g, .u8 i, .b j, .u8 k, .s l], .u8 m]=some r :=
 aj (fun _ _=>by kernel_rfl) h
def Sq (a b:UInt8) (d:Bool) (e f g i:UInt8) (j:Bool) (k:UInt8) (l:List UInt8) (c:al) (r:RunT):Option AV :=
 ah (.b (aK b 0))
 ((c 98 [.int 0]).bind fun m=>(AV.aE 10 m).bind fun n=>some (.ag [gt n 0,gt n 1,gt n 2,gt n 3,gt n 4,gt n 5,gt n 6,gt n 7,gt n 8,gt n 9]))
 (some (.ag [.u8 17, .u8 b, .b false, .u8 0, .u8 0, .u8 0, .u8 0, .b false, .u8 0, .s []]))
theorem WC (a b d e f g i j k l) {r:AV} (h:Sq a b d e f g i j k l (ae (C mx) Tryz.prog) (af (C mx) Tryz.prog 104 Tryz.f104)=some r):ae (C mx) Tryz.prog 104 [.ag [.u8 a, .u8 b, .b d, .u8 e, .u8 f, .u8 g, .u8 i, .b j, .u8 k, .s l]]=some r :=
 aj (fun _ _=>by kernel_rfl) h
def CD:Code:=(Tryz.f131.body).getD .skip
def qY (run:RunT) (a b:UInt8) (d:Bool) (e f g i:UInt8) (j:Bool) (k:UInt8) (l:List UInt8) (m n:UInt8) (o:Bool) (p q s t:UInt8) (u:Bool) (w:UInt8) (x:List UInt8):Option AV :=
 run ((bL 21 CD []).getD []) (St.bU [(4, .cell (.ptr 4 0)),(5, .cell (.ptr 5 0))] [(4,some (cT a b d e f g i j k l)),(5,some (cT m n o p q s t u w x))])
def qZ (run:RunT) (a b:UInt8) (d:Bool) (e f g i:UInt8) (j:Bool) (k:UInt8) (l:AV) (m n:UInt8) (o:Bool) (p q s t:UInt8) (u:Bool) (w:UInt8) (x:List UInt8):Option AV :=
 run ((bL 27 CD []).getD []) (St.bU [(2, .cell (.ptr 2 0)),(4, .cell (.ptr 4 0))] [(2,some [.val (.u8 a), .val (.u8 b), .val (.b d), .val (.u8 e), .val (.u8 f), .val (.u8 g), .val (.u8 i), .val (.b j), .val (.u8 k), .val (l)]),(4,some (cT m n o p q s t u w x))])
def Sr (a b:UInt8) (d:Bool) (e f g i:UInt8) (j:Bool) (k:UInt8) (l:List UInt8) (m:UInt8) (c:al) (r:RunT):Option AV :=
 ah (.b (J1 g 4))
 (some (.ag [.u8 a, .u8 b, .b d, .u8 e, .u8 f, .u8 g, .u8 i, .b j, .u8 k, .s l]))
 (ah (.b (aK m 38))
 ((c 67 []).bind fun n=>(AV.aE 10 n).bind fun o=>some (.ag [gt o 0,gt o 1,gt o 2,gt o 3,gt o 4,gt o 5,gt o 6,gt o 7,gt o 8,gt o 9]))
 ((aq (.b (aK m 63)) false (some (.b (aK m 35))) (.b true)).bind fun p=>ah p
 (some (.ag [.u8 a, .u8 b, .b d, .u8 e, .u8 f, .u8 4, .u8 i, .b j, .u8 k, .s []]))
 (ah (.b (aK g 3))
 (some (.ag [.u8 a, .u8 b, .b d, .u8 e, .u8 f, .u8 g, .u8 i, .b j, .u8 k, .s l]))
 (ah (.b (aK m 47))
 (some (.ag [.u8 a, .u8 b, .b d, .u8 e, .u8 f, .u8 3, .u8 i, .b j, .u8 k, .s []]))
 (ah (.b (aK m 58))
 (ah (.b (aK g 2))
 ((c 67 []).bind fun q=>(AV.aE 10 q).bind fun s=>some (.ag [gt s 0,gt s 1,gt s 2,gt s 3,gt s 4,gt s 5,gt s 6,gt s 7,gt s 8,gt s 9]))
 ((aq (.b (l == [104,116,116,112])) false (some (.b (l == [104,116,116,112,115]))) (.b true)).bind fun t=>(aq t false (some (.b (l == [109,97,105,108,116,111]))) (.b true)).bind fun u=>ah u
 (qY r 0 0 false 0 0 0 0 false 0 [] a b d e f 3 i j k [])
 (qY r 0 0 false 0 0 0 0 false 0 [] a b d e f 5 i j k [])))
 (ah (.b (aK g 2))
 (some (.ag [.u8 a, .u8 b, .b d, .u8 e, .u8 f, .u8 g, .u8 i, .b j, .u8 k, .s l]))
 (ah (.b (decide (((l.length:Int)) < 16)))
 ((c 100 [.u8 m]).bind fun w=>(cr .add (.s l) w).bind fun x=>(AV.one x).bind fun y=>qZ r a b d e f 1 i j k y 0 0 false 0 0 0 0 false 0 [])
 (qZ r a b d e f 1 i j k (.s l) 0 0 false 0 0 0 0 false 0 []))))))))
theorem WD (a b d e f g i j k l m) {r:AV} (h:Sr a b d e f g i j k l m (ae (C mx) Tryz.prog) (af (C mx) Tryz.prog 131 Tryz.f131)=some r):ae (C mx) Tryz.prog 131 [.ag [.u8 a, .u8 b, .b d, .u8 e, .u8 f, .u8 g, .u8 i, .b j, .u8 k, .s l], .u8 m]=some r :=
 aj (fun _ _=>by kernel_rfl) h
def KI (a b:UInt8) (d:Bool) (e f g i:UInt8) (j:Bool) (k:UInt8) (l:List UInt8) (m n:UInt8) (o:Bool) (p q s t:UInt8) (u:Bool) (w:UInt8) (x:List UInt8) (c:al) (r:RunT):Option AV :=
 some (.ag [.u8 m, .u8 n, .b o, .u8 p, .u8 q, .u8 s, .u8 t, .b u, .u8 w, .s x])
def KJ (a b:UInt8) (d:Bool) (e f g i:UInt8) (j:Bool) (k:UInt8) (l:AV) (m n:UInt8) (o:Bool) (p q s t:UInt8) (u:Bool) (w:UInt8) (x:List UInt8) (c:al) (r:RunT):Option AV :=
 some (.ag [.u8 a, .u8 b, .b d, .u8 e, .u8 f, .u8 g, .u8 i, .b j, .u8 k,l])
theorem KK (a b d e f g i j k l m n o p q s t u w x) {r:AV} (h:KI a b d e f g i j k l m n o p q s t u w x (ae (C mx) Tryz.prog) (af (C mx) Tryz.prog 131 Tryz.f131)=some r):qY (af (C mx) Tryz.prog 131 Tryz.f131) a b d e f g i j k l m n o p q s t u w x=some r :=
 ak (fun _ _=>by kernel_rfl) h
theorem KL (a b d e f g i j k l m n o p q s t u w x) {r:AV} (h:KJ a b d e f g i j k l m n o p q s t u w x (ae (C mx) Tryz.prog) (af (C mx) Tryz.prog 131 Tryz.f131)=some r):qZ (af (C mx) Tryz.prog 131 Tryz.f131) a b d e f g i j k l m n o p q s t u w x=some r :=
 ak (fun _ _=>by kernel_rfl) h
def lF:Code:=(Tryz.f132.body).getD .skip
def wL (run:RunT) (a b d:UInt8) (e:Bool) (f g i j:UInt8) (k:Bool) (l:UInt8) (m:List UInt8) (n o:UInt8) (p:Bool) (q s t u:UInt8) (w:Bool) (x:UInt8) (y:List UInt8):Option AV :=
 run ((bL 8 lF []).getD []) (St.bU [(1, .cell (.val (.u8 a))),(3, .cell (.ptr 3 0)),(6, .cell (.ptr 6 0))] [(3,some (cT b d e f g i j k l m)),(6,some (cT n o p q s t u w x y))])
def q9 (run:RunT) (a:UInt8) (b:Int) (d e:UInt8) (f:Bool) (g i j k:UInt8) (l:Bool) (m:UInt8) (n:List UInt8) (o p:UInt8) (q:Bool) (s t u w:UInt8) (x:Bool) (y:UInt8) (z:List UInt8):Option AV :=
 run ((bL 14 lF []).getD []) (St.bU [(1, .cell (.val (.u8 a))),(3, .cell (.ptr 3 0)),(6, .cell (.ptr 6 0)),(7, .cell (.val (.int b)))] [(3,some (cT d e f g i j k l m n)),(6,some (cT o p q s t u w x y z))])
def wM (run:RunT) (a:UInt8) (b:Bool) (d:Int) (e f:UInt8) (g:Bool) (i j k l:UInt8) (m:Bool) (n:UInt8) (o:List UInt8) (p q:UInt8) (s:Bool) (t u w x:UInt8) (y:Bool) (z:UInt8) (A:List UInt8):Option AV :=
 run ((bL 23 lF []).getD []) (St.bU [(1, .cell (.val (.u8 a))),(2, .cell (.val (.b b))),(3, .cell (.ptr 3 0)),(6, .cell (.ptr 6 0)),(11, .cell (.val (.int d)))] [(3,some (cT e f g i j k l m n o)),(6,some (cT p q s t u w x y z A))])
def rf (run:RunT) (a b d:UInt8) (e:Bool) (f g i j:UInt8) (k:Bool) (l:UInt8) (m:List UInt8) (n o:UInt8) (p:Bool) (q s t u:UInt8) (w:Bool) (x:UInt8) (y:List UInt8):Option AV :=
 run ((bL 10 lF []).getD []) (St.bU [(1, .cell (.val (.u8 a))),(3, .cell (.ptr 3 0)),(6, .cell (.ptr 6 0))] [(3,some (cT b d e f g i j k l m)),(6,some (cT n o p q s t u w x y))])
def rh (run:RunT) (a:UInt8) (b:Int) (d e:UInt8) (f:Bool) (g i j k:UInt8) (l:Bool) (m:UInt8) (n:List UInt8) (o p:UInt8) (q:Bool) (s t u w:UInt8) (x:Bool) (y:UInt8) (z:List UInt8):Option AV :=
 run ((bL 19 lF []).getD []) (St.bU [(1, .cell (.val (.u8 a))),(3, .cell (.ptr 3 0)),(6, .cell (.ptr 6 0)),(7, .cell (.val (.int b)))] [(3,some (cT d e f g i j k l m n)),(6,some (cT o p q s t u w x y z))])
def dF (run:RunT) (a b:UInt8) (d:Bool) (e f g i:UInt8) (j:Bool) (k:UInt8) (l:List UInt8) (m n:UInt8) (o:Bool) (p q s t:UInt8) (u:Bool) (w:UInt8) (x:List UInt8):Option AV :=
 run ((bL 45 lF []).getD []) (St.bU [(3, .cell (.ptr 3 0)),(6, .cell (.ptr 6 0))] [(3,some (cT a b d e f g i j k l)),(6,some (cT m n o p q s t u w x))])
def O1 (a b:UInt8) (d:Bool) (e f g i:UInt8) (j:Bool) (k:UInt8) (l:List UInt8) (m:UInt8) (n:Bool) (c:al) (r:RunT):Option AV :=
 ah (.b ((bJ (i.toNat:Int)) == 0))
 ((aq (.b n) true (some (.b (aK m 96))) (.b false)).bind fun o=>(aq o false ((aq (.b (!n)) true ((aq (.b (aK m 40)) false (some (.b (aK m 92))) (.b true)).bind fun p=>some p) (.b false)).bind fun q=>some q) (.b true)).bind fun s=>ah s
 ((c 67 []).bind fun t=>(AV.aE 10 t).bind fun u=>some (.ag [gt u 0,gt u 1,gt u 2,gt u 3,gt u 4,gt u 5,gt u 6,gt u 7,gt u 8,gt u 9]))
 (ah (.b (aK m 34))
 (wL r m a b d e f g 1 j k l 0 0 false 0 0 0 0 false 0 [])
 (wL r m a b d e f g i j k l 0 0 false 0 0 0 0 false 0 [])))
 (ah (.b ((bJ (i.toNat:Int)) == 1))
 (q9 r m (bJ (i.toNat:Int)) a b d e f g i j k l 0 0 false 0 0 0 0 false 0 [])
 (ah (.b ((bJ (i.toNat:Int)) == 2))
 (q9 r m (bJ (i.toNat:Int)) a b d e f g i j k l 0 0 false 0 0 0 0 false 0 [])
 (wM r m n (bJ (i.toNat:Int)) a b d e f g i j k l 0 0 false 0 0 0 0 false 0 [])))
theorem Ss (a b d e f g i j k l m n) {r:AV} (h:O1 a b d e f g i j k l m n (ae (C mx) Tryz.prog) (af (C mx) Tryz.prog 132 Tryz.f132)=some r):ae (C mx) Tryz.prog 132 [.ag [.u8 a, .u8 b, .b d, .u8 e, .u8 f, .u8 g, .u8 i, .b j, .u8 k, .s l], .u8 m, .b n]=some r :=
 aj (fun _ _=>by kernel_rfl) h
def He (a b d:UInt8) (e:Bool) (f g i j:UInt8) (k:Bool) (l:UInt8) (m:List UInt8) (n o:UInt8) (p:Bool) (q s t u:UInt8) (w:Bool) (x:UInt8) (y:List UInt8) (c:al) (r:RunT):Option AV :=
 ah (.b (aK a 39))
 (rf r a b d e f g i 2 k l m n o p q s t u w x y)
 (rf r a b d e f g i j k l m n o p q s t u w x y)
def CE (a:UInt8) (b:Int) (d e:UInt8) (f:Bool) (g i j k:UInt8) (l:Bool) (m:UInt8) (n:List UInt8) (o p:UInt8) (q:Bool) (s t u w:UInt8) (x:Bool) (y:UInt8) (z:List UInt8) (c:al) (r:RunT):Option AV :=
 ah (.b l)
 (some (.ag [.u8 d, .u8 e, .b f, .u8 g, .u8 i, .u8 j, .u8 k, .b false, .u8 m, .s n]))
 (ah (.b (aK a 92))
 (rh r a b d e f g i j k true m n o p q s t u w x y z)
 (rh r a b d e f g i j k l m n o p q s t u w x y z))
def CG (a:UInt8) (b:Bool) (d:Int) (e f:UInt8) (g:Bool) (i j k l:UInt8) (m:Bool) (n:UInt8) (o:List UInt8) (p q:UInt8) (s:Bool) (t u w x:UInt8) (y:Bool) (z:UInt8) (A:List UInt8) (c:al) (r:RunT):Option AV :=
 ah (.b (d == 3))
 (ah (.b (aK a 42))
 (some (.ag [.u8 e, .u8 f, .b g, .u8 i, .u8 j, .u8 k, .u8 5, .b m, .u8 n, .s o]))
 ((aq (.b b) true (some (.b (aK a 47))) (.b false)).bind fun B=>ah B
 (some (.ag [.u8 e, .u8 f, .b g, .u8 i, .u8 j, .u8 k, .u8 4, .b m, .u8 n, .s o]))
 (ah (.b b)
 ((c 67 []).bind fun D=>(AV.aE 10 D).bind fun E=>some (.ag [gt E 0,gt E 1,gt E 2,gt E 3,gt E 4,gt E 5,gt E 6,gt E 7,gt E 8,gt E 9]))
 ((c 132 [.ag [.u8 e, .u8 f, .b g, .u8 i, .u8 j, .u8 k, .u8 0, .b m, .u8 n, .s o], .u8 a, .b b]).bind fun G=>(AV.aE 10 G).bind fun H=>some (.ag [gt H 0,gt H 1,gt H 2,gt H 3,gt H 4,gt H 5,gt H 6,gt H 7,gt H 8,gt H 9])))))
 (ah (.b (d == 4))
 ((aq (.b (aK a 10)) false (some (.b (aK a 13))) (.b true)).bind fun I=>ah I
 (dF r e f g i j k 0 m n o p q s t u w x y z A)
 (dF r e f g i j k l m n o p q s t u w x y z A))
 (ah (.b (d == 5))
 (ah (.b (aK a 42))
 (dF r e f g i j k 6 m n o p q s t u w x y z A)
 (dF r e f g i j k l m n o p q s t u w x y z A))
 (ah (.b (d == 6))
 (ah (.b (aK a 47))
 (dF r e f g i j k 0 m n o p q s t u w x y z A)
 (ah (.b (nW a 42))
 (dF r e f g i j k 5 m n o p q s t u w x y z A)
 (dF r e f g i j k l m n o p q s t u w x y z A)))
 (dF r e f g i j k l m n o p q s t u w x y z A))))
def CH (a b d:UInt8) (e:Bool) (f g i j:UInt8) (k:Bool) (l:UInt8) (m:List UInt8) (n o:UInt8) (p:Bool) (q s t u:UInt8) (w:Bool) (x:UInt8) (y:List UInt8) (c:al) (r:RunT):Option AV :=
 ah (.b (aK a 47))
 (dF r b d e f g i 3 k l m n o p q s t u w x y)
 (dF r b d e f g i j k l m n o p q s t u w x y)
def CI (a:UInt8) (b:Int) (d e:UInt8) (f:Bool) (g i j k:UInt8) (l:Bool) (m:UInt8) (n:List UInt8) (o p:UInt8) (q:Bool) (s t u w:UInt8) (x:Bool) (y:UInt8) (z:List UInt8) (c:al) (r:RunT):Option AV :=
 (aq (.b (aK a 10)) false (some (.b (aK a 13))) (.b true)).bind fun A=>ah A
 ((c 67 []).bind fun B=>(AV.aE 10 B).bind fun D=>some (.ag [gt D 0,gt D 1,gt D 2,gt D 3,gt D 4,gt D 5,gt D 6,gt D 7,gt D 8,gt D 9]))
 ((aq (.b (b == 1)) true (some (.b (aK a 34))) (.b false)).bind fun E=>(aq E false ((aq (.b (b == 2)) true (some (.b (aK a 39))) (.b false)).bind fun G=>some G) (.b true)).bind fun H=>ah H
 (dF r d e f g i j 0 l m n o p q s t u w x y z)
 (dF r d e f g i j k l m n o p q s t u w x y z))
def KM (a b:UInt8) (d:Bool) (e f g i:UInt8) (j:Bool) (k:UInt8) (l:List UInt8) (m n:UInt8) (o:Bool) (p q s t:UInt8) (u:Bool) (w:UInt8) (x:List UInt8) (c:al) (r:RunT):Option AV :=
 some (.ag [.u8 a, .u8 b, .b d, .u8 e, .u8 f, .u8 g, .u8 i, .b j, .u8 k, .s l])
theorem O2 (a b d e f g i j k l m n o p q s t u w x y) {r:AV} (h:He a b d e f g i j k l m n o p q s t u w x y (ae (C mx) Tryz.prog) (af (C mx) Tryz.prog 132 Tryz.f132)=some r):wL (af (C mx) Tryz.prog 132 Tryz.f132) a b d e f g i j k l m n o p q s t u w x y=some r :=
 ak (fun _ _=>by kernel_rfl) h
theorem KN (a b d e f g i j k l m n o p q s t u w x y z) {r:AV} (h:CE a b d e f g i j k l m n o p q s t u w x y z (ae (C mx) Tryz.prog) (af (C mx) Tryz.prog 132 Tryz.f132)=some r):q9 (af (C mx) Tryz.prog 132 Tryz.f132) a b d e f g i j k l m n o p q s t u w x y z=some r :=
 ak (fun _ _=>by kernel_rfl) h
theorem KO (a b d e f g i j k l m n o p q s t u w x y z A) {r:AV} (h:CG a b d e f g i j k l m n o p q s t u w x y z A (ae (C mx) Tryz.prog) (af (C mx) Tryz.prog 132 Tryz.f132)=some r):wM (af (C mx) Tryz.prog 132 Tryz.f132) a b d e f g i j k l m n o p q s t u w x y z A=some r :=
 ak (fun _ _=>by kernel_rfl) h
theorem KP (a b d e f g i j k l m n o p q s t u w x y) {r:AV} (h:CH a b d e f g i j k l m n o p q s t u w x y (ae (C mx) Tryz.prog) (af (C mx) Tryz.prog 132 Tryz.f132)=some r):rf (af (C mx) Tryz.prog 132 Tryz.f132) a b d e f g i j k l m n o p q s t u w x y=some r :=
 ak (fun _ _=>by kernel_rfl) h
theorem KQ (a b d e f g i j k l m n o p q s t u w x y z) {r:AV} (h:CI a b d e f g i j k l m n o p q s t u w x y z (ae (C mx) Tryz.prog) (af (C mx) Tryz.prog 132 Tryz.f132)=some r):rh (af (C mx) Tryz.prog 132 Tryz.f132) a b d e f g i j k l m n o p q s t u w x y z=some r :=
 ak (fun _ _=>by kernel_rfl) h
theorem KR (a b d e f g i j k l m n o p q s t u w x) {r:AV} (h:KM a b d e f g i j k l m n o p q s t u w x (ae (C mx) Tryz.prog) (af (C mx) Tryz.prog 132 Tryz.f132)=some r):dF (af (C mx) Tryz.prog 132 Tryz.f132) a b d e f g i j k l m n o p q s t u w x=some r :=
 ak (fun _ _=>by kernel_rfl) h
theorem s75 (c:Ctx) (b:UInt8) (feed:Bool) (h:c.nm.length < 9223372036854775808):ae (C mx) Tryz.prog 75 [c.au, .u8 b, .b feed]=some (mv c b feed).au:=by
 apply ui
 simp only [YU,az,aF,G9 (h:=h),Option.bind_some,bn,ai]
 cases hf:form c with
 | true =>
  rw [if_neg (by simp)]
  exact Wx b feed 4 c _ (by have:=wh c hf;omega) (wg c b feed hf)
 | false =>
  rw [if_pos (by simp),Aw c b feed hf];rfl
theorem s62 (c:Ctx) (b:UInt8) (h:c.nm.length < 9223372036854775808):ae (C mx) Tryz.prog 62 [c.au, .u8 b]=some (jZ c b).au:=by
 apply c62
 simp only [Y3,az,aF,s75 (h:=h),Option.bind_some,ao,zT]
 rfl
section
variable (c:Ctx) (b:UInt8)
theorem wN:ae (C mx) Tryz.prog 67 []=some bc.au:=by
 apply c67
 rfl
theorem EW (x:UInt8):ae (C mx) Tryz.prog 98 [.int (x.toNat:Int)]=some (bC x).au:=by
 apply c98
 simp only [Y4,o4,Option.bind_some,eI]
 rfl
theorem Y6:ae (C mx) Tryz.prog 99 [.u8 b]=some (.b (letter b)):=by
 apply c99
 simp only [Y5,cX,dm,Option.bind_some,ax,aI,letter]
theorem AW:ae (C mx) Tryz.prog 101 [.u8 b]=some (.b (bj b)):=by
 apply WA
 refine NX ?_
 revert b
 exact fB (by kernel_rfl)
theorem Hf:ae (C mx) Tryz.prog 100 [.u8 b]=some (.s [eS b]):=by
 have f (x:UInt8):wK (af (C mx) Tryz.prog 100 Tryz.f100) (.u8 x)=some (.s [x]):=by
  apply O0
  simp only [Hd,eI,iG,Option.bind_some]
 apply Wy
 simp only [Sn,cX,dm,Option.bind_some,ax,ai,Ao,f,eS]
 split <;> rfl
theorem O3:ae (C mx) Tryz.prog 103 [c.au, .u8 b]=some (grown c b).au:=by
 apply WB
 simp only [So,Hf,wN,Option.bind_some,ai,grown,aR,ao,zT]
 have e:decide ((c.nm.length:Int) ≥ 32)=decide (32≤c.nm.length):=by rw [decide_eq_decide];omega
 rw [e]
 by_cases h:32≤c.nm.length
 ·rw [if_pos (by simpa using h),if_pos (by simpa using h)];rfl
 ·rw [if_neg (by simpa using h),if_neg (by simpa using h),kH (by simp;omega)];rfl
theorem O4:ae (C mx) Tryz.prog 104 [c.au]=some (iU c.el).au:=by
 apply WC
 have:=EW (mx:=mx) 0
 simp only [Sq,aJ,ai,show ((0:UInt8).toNat:Int)=0 from rfl] at this ⊢
 simp only [this,Option.bind_some,ao,zT,D8,aR]
 rfl
theorem WE (h:c.nm.length≤100):ae (C mx) Tryz.prog 131 [c.au, .u8 b]=some (wi c b).au:=by
 have f (d:Ctx):qZ (af (C mx) Tryz.prog 131 Tryz.f131) d.st d.el d.en d.at' d.qu d.pa d.su d.es d.da (.s d.nm) 0 0 false 0 0 0 0 false 0 []=some d.au:=by
  apply KL
  rfl
 have g (d:Ctx):qY (af (C mx) Tryz.prog 131 Tryz.f131) 0 0 false 0 0 0 0 false 0 [] d.st d.el d.en d.at' d.qu d.pa d.su d.es d.da d.nm=some d.au:=by
  apply KK
  rfl
 have e:decide ((c.nm.length:Int) < 16)=decide (c.nm.length < 16):=by rw [decide_eq_decide];omega
 have a1:cr .add (.s c.nm) (.s [eS b])=some (.s (c.nm ++ [eS b])):=kH (by simp;omega)
 apply WD
 simp only [Sr,aJ,cX,Option.bind_some,aI,ax,ai,Hf,wN,a1,e,jY,ao,zT,wi,aR]
 rw [g { c with pa:=3,nm:=[] },g { c with pa:=5,nm:=[] },f { c with pa:=1 },f { c with pa:=1,nm:=c.nm ++ [eS b] },show (c.nm == [104,116,116,112] || c.nm == [104,116,116,112,115] || c.nm == [109,97,105,108,116,111])=yR c.nm from rfl]
 rfl
theorem Su (script:Bool):ae (C mx) Tryz.prog 132 [c.au, .u8 b, .b script]=some (code c b script).au:=by
 have f (d:Ctx):dF (af (C mx) Tryz.prog 132 Tryz.f132) d.st d.el d.en d.at' d.qu d.pa d.su d.es d.da d.nm 0 0 false 0 0 0 0 false 0 []=some d.au:=by
  apply KR
  rfl
 have f10 (d:Ctx):rf (af (C mx) Tryz.prog 132 Tryz.f132) b d.st d.el d.en d.at' d.qu d.pa d.su d.es d.da d.nm 0 0 false 0 0 0 0 false 0 []=some (if b == 47 then { d with su:=3 } else d:Ctx).au:=by
  apply KP
  simp only [CH,aJ,ai,aR]
  rw [f d,f { d with su:=3 }]
 have f8 (d:Ctx):wL (af (C mx) Tryz.prog 132 Tryz.f132) b d.st d.el d.en d.at' d.qu d.pa d.su d.es d.da d.nm 0 0 false 0 0 0 0 false 0 []=some (if b == 39 then (if b == 47 then { d with su:=3 } else { d with su:=2 }) else (if b == 47 then { d with su:=3 } else d):Ctx).au:=by
  apply O2
  simp only [He,aJ,ai,aR]
  rw [f10 d,f10 { d with su:=2 }]
  simp only [aR]
 have z (d:Ctx) (hd:(d.su == 0)=true):ae (C mx) Tryz.prog 132 [d.au, .u8 b, .b script]=some (kI d b script).au:=by
  apply Ss
  simp only [O1,gR,bQ _ _ (show 0 < 256 by decide),aJ,Option.bind_some,aI,ax,ai,wN,ao,zT]
  rw [show (d.su == OfNat.ofNat 0)=true from hd,if_pos rfl,f8 d,f8 { d with su:=1 }]
  simp only [kI,aR]
  rfl
 have f19 (d:Ctx):rh (af (C mx) Tryz.prog 132 Tryz.f132) b (d.su.toNat:Int) d.st d.el d.en d.at' d.qu d.pa d.su d.es d.da d.nm 0 0 false 0 0 0 0 false 0 []=some (if b == 10 || b == 13 then bc else if d.su == 1 && b == 34 || d.su == 2 && b == 39 then { d with su:=0 } else d:Ctx).au:=by
  apply KQ
  simp only [CI,bQ _ _ (show 1 < 256 by decide),bQ _ _ (show 2 < 256 by decide),aJ,Option.bind_some,aI,ax,ai,wN,ao,zT,aR]
  rw [f d,f { d with su:=0 }]
  rfl
 have f14 (d:Ctx):q9 (af (C mx) Tryz.prog 132 Tryz.f132) b (d.su.toNat:Int) d.st d.el d.en d.at' d.qu d.pa d.su d.es d.da d.nm 0 0 false 0 0 0 0 false 0 []=some (uK d b).au:=by
  apply KN
  simp only [CE,aJ,Option.bind_some,ai]
  rw [f19 d,f19 { d with es:=true }]
  simp only [uK,aR]
  rfl
 have f23 (d:Ctx):wM (af (C mx) Tryz.prog 132 Tryz.f132) b script (d.su.toNat:Int) d.st d.el d.en d.at' d.qu d.pa d.su d.es d.da d.nm 0 0 false 0 0 0 0 false 0 [] =
   some (if d.su == 3 then (if b == 42 then { d with su:=5 } else if script && b == 47 then { d with su:=4 } else if script then bc else kI { d with su:=0 } b script)
 else if d.su == 4 then (if b == 10 || b == 13 then { d with su:=0 } else d)
 else if d.su == 5 then (if b == 42 then { d with su:=6 } else d)
 else if d.su == 6 then (if b == 47 then { d with su:=0 } else if b != 42 then { d with su:=5 } else d) else d:Ctx).au:=by
  apply KO
  have z':=z { d with su:=0 } rfl
  simp only [CG,bQ _ _ (show 3 < 256 by decide),bQ _ _ (show 4 < 256 by decide),bQ _ _ (show 5 < 256 by decide),bQ _ _ (show 6 < 256 by decide),aJ,cy,Option.bind_some,aI,ax,ai,wN,az,z',ao,zT,aR]
  rw [f d,f { d with su:=0 },f { d with su:=5 },f { d with su:=6 }]
  try rfl
 rw [← sq]
 apply Ss
 simp only [O1,gR,bQ _ _ (show 0 < 256 by decide),bQ _ _ (show 1 < 256 by decide),bQ _ _ (show 2 < 256 by decide),aJ,Option.bind_some,aI,ax,ai,wN,ao,zT]
 rw [f8 c,f8 { c with su:=1 },f14 c,f23 c]
 simp only [j3,kI,aR]
 rfl
end
def sM:Code:=(Tryz.f77.body).getD .skip
def wO (run:RunT) (a b d:UInt8) (e:Bool) (f g i j:UInt8) (k:Bool) (l:UInt8) (m:List UInt8) (n:UInt8) (o:AV) (p:Bool) (q s t u:UInt8) (w:Bool) (x:UInt8) (y:List UInt8):Option AV :=
 run ((bL 27 sM []).getD []) (St.bU [(1, .cell (.val (.u8 a))),(4, .cell (.ptr 4 0)),(5, .cell (.ptr 5 0))] [(4,some (cT b d e f g i j k l m)),(5,some [.val (.u8 n), .val o, .val (.b p), .val (.u8 q), .val (.u8 s), .val (.u8 t), .val (.u8 u), .val (.b w), .val (.u8 x), .val (.s y)])])
def wP (run:RunT) (a b d:UInt8) (e:Bool) (f g i j:UInt8) (k:Bool) (l:UInt8) (m:List UInt8) (n o:UInt8) (p:Bool) (q s t u:UInt8) (w:Bool) (x:UInt8) (y:List UInt8) (z A:UInt8) (B:Bool) (D E G H:UInt8) (I:Bool) (J:UInt8) (L:List UInt8):Option AV :=
 run ((bL 57 sM []).getD []) (St.bU [(1, .cell (.val (.u8 a))),(2, .cell (.ptr 2 0)),(4, .cell (.ptr 4 0)),(5, .cell (.ptr 5 0))] [(2,some (cT b d e f g i j k l m)),(4,some (cT n o p q s t u w x y)),(5,some (cT z A B D E G H I J L))])
def Hg (run:RunT) (a:UInt8) (b:Int) (d e:UInt8) (f:Bool) (g i j k:UInt8) (l:Bool) (m:UInt8) (n:List UInt8) (o p:UInt8) (q:Bool) (s t u w:UInt8) (x:Bool) (y:UInt8) (z:List UInt8) (A B:UInt8) (D:Bool) (E G H I:UInt8) (J:Bool) (L:UInt8) (M:List UInt8):Option AV :=
 run ((bL 58 sM []).getD []) (St.bU [(1, .cell (.val (.u8 a))),(2, .cell (.ptr 2 0)),(4, .cell (.ptr 4 0)),(5, .cell (.ptr 5 0)),(13, .cell (.val (.int b)))] [(2,some (cT d e f g i j k l m n)),(4,some (cT o p q s t u w x y z)),(5,some (cT A B D E G H I J L M))])
def sO (run:RunT) (a b d:UInt8) (e:Bool) (f g i j:UInt8) (k:Bool) (l:UInt8) (m:List UInt8) (n o:UInt8) (p:Bool) (q s t u:UInt8) (w:Bool) (x:UInt8) (y:List UInt8):Option AV :=
 run ((bL 73 sM []).getD []) (St.bU [(1, .cell (.val (.u8 a))),(2, .cell (.ptr 2 0)),(4, .cell (.ptr 4 0))] [(2,some (cT b d e f g i j k l m)),(4,some (cT n o p q s t u w x y))])
def AX (run:RunT) (a b d:UInt8) (e:Bool) (f g i j:UInt8) (k:Bool) (l:UInt8) (m:List UInt8) (n o:UInt8) (p:Bool) (q s t u:UInt8) (w:Bool) (x:UInt8) (y:List UInt8):Option AV :=
 run ((bL 74 sM []).getD []) (St.bU [(1, .cell (.val (.u8 a))),(2, .cell (.ptr 2 0)),(4, .cell (.ptr 4 0))] [(2,some (cT b d e f g i j k l m)),(4,some (cT n o p q s t u w x y))])
def uR (a b:UInt8) (d:Bool) (e f g i:UInt8) (j:Bool) (k:UInt8) (l:List UInt8) (m:UInt8) (c:al) (r:RunT):Option AV :=
 ah (.b ((bJ (a.toNat:Int)) == 0))
 (ah (.b (aK m 60))
 ((c 98 [.int 1]).bind fun n=>(AV.aE 10 n).bind fun o=>some (.ag [gt o 0,gt o 1,gt o 2,gt o 3,gt o 4,gt o 5,gt o 6,gt o 7,gt o 8,gt o 9]))
 (some (.ag [.u8 a, .u8 b, .b d, .u8 e, .u8 f, .u8 g, .u8 i, .b j, .u8 k, .s l])))
 (ah (.b ((bJ (a.toNat:Int)) == 1))
 ((c 99 [.u8 m]).bind fun p=>ah p
 ((c 100 [.u8 m]).bind fun q=>(AV.one q).bind fun s=>some (.ag [.u8 3, .u8 0, .b false, .u8 0, .u8 0, .u8 0, .u8 0, .b false, .u8 0,s]))
 (ah (.b (aK m 47))
 ((c 98 [.int 2]).bind fun t=>(AV.aE 10 t).bind fun u=>some (.ag [gt u 0,gt u 1,gt u 2,gt u 3,gt u 4,gt u 5,gt u 6,gt u 7,gt u 8,gt u 9]))
 (ah (.b (aK m 33))
 ((c 98 [.int 11]).bind fun w=>(AV.aE 10 w).bind fun x=>some (.ag [gt x 0,gt x 1,gt x 2,gt x 3,gt x 4,gt x 5,gt x 6,gt x 7,gt x 8,gt x 9]))
 (ah (.b (aK m 63))
 ((c 98 [.int 16]).bind fun y=>(AV.aE 10 y).bind fun z=>some (.ag [gt z 0,gt z 1,gt z 2,gt z 3,gt z 4,gt z 5,gt z 6,gt z 7,gt z 8,gt z 9]))
 ((c 98 [.int 0]).bind fun A=>(c 77 [A, .u8 m]).bind fun B=>(AV.aE 10 B).bind fun D=>some (.ag [gt D 0,gt D 1,gt D 2,gt D 3,gt D 4,gt D 5,gt D 6,gt D 7,gt D 8,gt D 9]))))))
 (ah (.b ((bJ (a.toNat:Int)) == 2))
 ((c 99 [.u8 m]).bind fun E=>ah E
 ((c 100 [.u8 m]).bind fun G=>(AV.one G).bind fun H=>some (.ag [.u8 3, .u8 0, .b true, .u8 0, .u8 0, .u8 0, .u8 0, .b false, .u8 0,H]))
 (ah (.b (aK m 62))
 ((c 98 [.int 0]).bind fun I=>(AV.aE 10 I).bind fun J=>some (.ag [gt J 0,gt J 1,gt J 2,gt J 3,gt J 4,gt J 5,gt J 6,gt J 7,gt J 8,gt J 9]))
 ((c 98 [.int 16]).bind fun L=>(AV.aE 10 L).bind fun M=>some (.ag [gt M 0,gt M 1,gt M 2,gt M 3,gt M 4,gt M 5,gt M 6,gt M 7,gt M 8,gt M 9]))))
 (ah (.b ((bJ (a.toNat:Int)) == 3))
 ((c 101 [.u8 m]).bind fun N=>(aq N false (some (.b (aK m 47))) (.b true)).bind fun O=>(aq O false (some (.b (aK m 62))) (.b true)).bind fun P=>ah P
 (ah (.b (!d))
 ((c 102 [.s l]).bind fun Q=>(conv .u8 Q).bind fun R=>(AV.one R).bind fun T=>wO r m 0 0 false 0 0 0 0 false 0 [] 0 T d 0 0 0 0 false 0 [])
 (wO r m 0 0 false 0 0 0 0 false 0 [] 0 (.u8 b) d 0 0 0 0 false 0 []))
 ((c 103 [.ag [.u8 a, .u8 b, .b d, .u8 e, .u8 f, .u8 g, .u8 i, .b j, .u8 k, .s l], .u8 m]).bind fun U=>(AV.aE 10 U).bind fun V=>some (.ag [gt V 0,gt V 1,gt V 2,gt V 3,gt V 4,gt V 5,gt V 6,gt V 7,gt V 8,gt V 9])))
 (ah (.b ((bJ (a.toNat:Int)) == 9))
 ((c 101 [.u8 m]).bind fun W=>ah W
 (some (.ag [.u8 4, .u8 b, .b d, .u8 0, .u8 0, .u8 0, .u8 0, .b false, .u8 0, .s []]))
 (ah (.b (aK m 47))
 (some (.ag [.u8 10, .u8 b, .b d, .u8 0, .u8 0, .u8 0, .u8 0, .b false, .u8 0, .s []]))
 (ah (.b (aK m 62))
 ((c 104 [.ag [.u8 a, .u8 b, .b d, .u8 e, .u8 f, .u8 g, .u8 i, .b j, .u8 k, .s l]]).bind fun Y=>(AV.aE 10 Y).bind fun Z=>some (.ag [gt Z 0,gt Z 1,gt Z 2,gt Z 3,gt Z 4,gt Z 5,gt Z 6,gt Z 7,gt Z 8,gt Z 9]))
 ((c 67 []).bind fun v0=>(AV.aE 10 v0).bind fun v1=>some (.ag [gt v1 0,gt v1 1,gt v1 2,gt v1 3,gt v1 4,gt v1 5,gt v1 6,gt v1 7,gt v1 8,gt v1 9])))))
 (ah (.b ((bJ (a.toNat:Int)) == 10))
 (ah (.b (aK m 62))
 ((c 104 [.ag [.u8 a, .u8 b, .b d, .u8 e, .u8 f, .u8 g, .u8 i, .b j, .u8 k, .s l]]).bind fun v2=>(AV.aE 10 v2).bind fun v3=>some (.ag [gt v3 0,gt v3 1,gt v3 2,gt v3 3,gt v3 4,gt v3 5,gt v3 6,gt v3 7,gt v3 8,gt v3 9]))
 ((c 77 [.ag [.u8 4, .u8 b, .b d, .u8 0, .u8 0, .u8 0, .u8 0, .b false, .u8 0, .s []], .u8 m]).bind fun v4=>(AV.aE 10 v4).bind fun v5=>some (.ag [gt v5 0,gt v5 1,gt v5 2,gt v5 3,gt v5 4,gt v5 5,gt v5 6,gt v5 7,gt v5 8,gt v5 9])))
 (ah (.b ((bJ (a.toNat:Int)) == 4))
 ((c 101 [.u8 m]).bind fun v6=>ah v6
 (some (.ag [.u8 a, .u8 b, .b d, .u8 e, .u8 f, .u8 g, .u8 i, .b j, .u8 k, .s l]))
 ((aq (.b (aK m 47)) false (some (.b (aK m 62))) (.b true)).bind fun v7=>ah v7
 ((c 77 [.ag [.u8 9, .u8 b, .b d, .u8 0, .u8 0, .u8 0, .u8 0, .b false, .u8 0, .s []], .u8 m]).bind fun v8=>(AV.aE 10 v8).bind fun v9=>some (.ag [gt v9 0,gt v9 1,gt v9 2,gt v9 3,gt v9 4,gt v9 5,gt v9 6,gt v9 7,gt v9 8,gt v9 9]))
 (ah (.b (aK m 61))
 ((c 67 []).bind fun w0=>(AV.aE 10 (w0)).bind fun w1=>some (.ag [gt w1 0,gt w1 1,gt w1 2,gt w1 3,gt w1 4,gt w1 5,gt w1 6,gt w1 7,gt w1 8,gt w1 9]))
 ((c 77 [.ag [.u8 5, .u8 b, .b d, .u8 0, .u8 0, .u8 0, .u8 0, .b false, .u8 0, .s []], .u8 m]).bind fun w2=>(AV.aE 10 (w2)).bind fun w3=>some (.ag [gt w3 0,gt w3 1,gt w3 2,gt w3 3,gt w3 4,gt w3 5,gt w3 6,gt w3 7,gt w3 8,gt w3 9])))))
 (ah (.b ((bJ (a.toNat:Int)) == 5))
 (wP r m a b d e f g i j k l 0 0 false 0 0 0 0 false 0 [] 0 b d 0 0 0 0 false 0 [])
 (ah (.b ((bJ (a.toNat:Int)) == 6))
 (wP r m a b d e f g i j k l 0 0 false 0 0 0 0 false 0 [] 0 b d 0 0 0 0 false 0 [])
 (Hg r m (bJ (a.toNat:Int)) a b d e f g i j k l 0 0 false 0 0 0 0 false 0 [] 0 b d 0 0 0 0 false 0 [])))))))))
theorem Y7 (a b d e f g i j k l m) {r:AV} (h:uR a b d e f g i j k l m (ae (C mx) Tryz.prog) (af (C mx) Tryz.prog 77 Tryz.f77)=some r):ae (C mx) Tryz.prog 77 [.ag [.u8 a, .u8 b, .b d, .u8 e, .u8 f, .u8 g, .u8 i, .b j, .u8 k, .s l], .u8 m]=some r :=
 aj (fun _ _=>by kernel_rfl) h
def Hh (a b d:UInt8) (e:Bool) (f g i j:UInt8) (k:Bool) (l:UInt8) (m:List UInt8) (n:UInt8) (o:AV) (p:Bool) (q s t u:UInt8) (w:Bool) (x:UInt8) (y:List UInt8) (c:al) (r:RunT):Option AV :=
 (c 77 [.ag [.u8 9,o, .b p, .u8 q, .u8 s, .u8 t, .u8 u, .b w, .u8 x, .s y], .u8 a]).bind fun z=>(AV.aE 10 z).bind fun A=>some (.ag [gt A 0,gt A 1,gt A 2,gt A 3,gt A 4,gt A 5,gt A 6,gt A 7,gt A 8,gt A 9])
def Hi (a b d:UInt8) (e:Bool) (f g i j:UInt8) (k:Bool) (l:UInt8) (m:List UInt8) (n o:UInt8) (p:Bool) (q s t u:UInt8) (w:Bool) (x:UInt8) (y:List UInt8) (z A:UInt8) (B:Bool) (D E G H:UInt8) (I:Bool) (J:UInt8) (L:List UInt8) (c:al) (r:RunT):Option AV :=
 (c 105 [.ag [.u8 b, .u8 d, .b e, .u8 f, .u8 g, .u8 i, .u8 j, .b k, .u8 l, .s m], .ag [.u8 z, .u8 A, .b B, .u8 D, .u8 E, .u8 G, .u8 H, .b I, .u8 J, .s L], .u8 a]).bind fun M=>(AV.aE 10 M).bind fun N=>some (.ag [gt N 0,gt N 1,gt N 2,gt N 3,gt N 4,gt N 5,gt N 6,gt N 7,gt N 8,gt N 9])
def fC (a:UInt8) (b:Int) (d e:UInt8) (f:Bool) (g i j k:UInt8) (l:Bool) (m:UInt8) (n:List UInt8) (o p:UInt8) (q:Bool) (s t u w:UInt8) (x:Bool) (y:UInt8) (z:List UInt8) (A B:UInt8) (D:Bool) (E G H I:UInt8) (J:Bool) (L:UInt8) (M:List UInt8) (c:al) (r:RunT):Option AV :=
 ah (.b (b == 7))
 ((c 101 [.u8 a]).bind fun N=>ah N
 (some (.ag [.u8 d, .u8 e, .b f, .u8 g, .u8 i, .u8 j, .u8 k, .b l, .u8 m, .s n]))
 (ah (.b (aK a 62))
 ((c 67 []).bind fun O=>(AV.aE 10 O).bind fun P=>some (.ag [gt P 0,gt P 1,gt P 2,gt P 3,gt P 4,gt P 5,gt P 6,gt P 7,gt P 8,gt P 9]))
 ((aq (.b (aK a 34)) false (some (.b (aK a 39))) (.b true)).bind fun Q=>ah Q
 (some (.ag [.u8 8, .u8 e, .b f, .u8 g, .u8 a, .u8 j, .u8 k, .b l, .u8 m, .s n]))
 ((c 77 [.ag [.u8 8, .u8 e, .b f, .u8 g, .u8 i, .u8 j, .u8 k, .b l, .u8 m, .s n], .u8 a]).bind fun R=>(AV.aE 10 R).bind fun T=>some (.ag [gt T 0,gt T 1,gt T 2,gt T 3,gt T 4,gt T 5,gt T 6,gt T 7,gt T 8,gt T 9])))))
 (ah (.b (b == 8))
 ((c 106 [.ag [.u8 d, .u8 e, .b f, .u8 g, .u8 i, .u8 j, .u8 k, .b l, .u8 m, .s n], .ag [.u8 A, .u8 B, .b D, .u8 E, .u8 G, .u8 H, .u8 I, .b J, .u8 L, .s M], .u8 a]).bind fun U=>(AV.aE 10 U).bind fun V=>some (.ag [gt V 0,gt V 1,gt V 2,gt V 3,gt V 4,gt V 5,gt V 6,gt V 7,gt V 8,gt V 9]))
 (ah (.b (b == 17))
 (sO r a d e f g i j k l m n o p q s t u w x y z)
 (ah (.b (b == 18))
 (sO r a d e f g i j k l m n o p q s t u w x y z)
 (ah (.b (b == 19))
 (sO r a d e f g i j k l m n o p q s t u w x y z)
 (AX r a d e f g i j k l m n o p q s t u w x y z)))))
def Hj (a b d:UInt8) (e:Bool) (f g i j:UInt8) (k:Bool) (l:UInt8) (m:List UInt8) (n o:UInt8) (p:Bool) (q s t u:UInt8) (w:Bool) (x:UInt8) (y:List UInt8) (c:al) (r:RunT):Option AV :=
 (c 107 [.ag [.u8 b, .u8 d, .b e, .u8 f, .u8 g, .u8 i, .u8 j, .b k, .u8 l, .s m], .u8 a]).bind fun z=>(AV.aE 10 z).bind fun A=>some (.ag [gt A 0,gt A 1,gt A 2,gt A 3,gt A 4,gt A 5,gt A 6,gt A 7,gt A 8,gt A 9])
def Hk (a b d:UInt8) (e:Bool) (f g i j:UInt8) (k:Bool) (l:UInt8) (m:List UInt8) (n o:UInt8) (p:Bool) (q s t u:UInt8) (w:Bool) (x:UInt8) (y:List UInt8) (c:al) (r:RunT):Option AV :=
 (c 108 [.ag [.u8 b, .u8 d, .b e, .u8 f, .u8 g, .u8 i, .u8 j, .b k, .u8 l, .s m], .u8 a]).bind fun z=>(AV.aE 10 z).bind fun A=>some (.ag [gt A 0,gt A 1,gt A 2,gt A 3,gt A 4,gt A 5,gt A 6,gt A 7,gt A 8,gt A 9])
theorem O5 (a b d e f g i j k l m n o p q s t u w x y) {r:AV} (h:Hh a b d e f g i j k l m n o p q s t u w x y (ae (C mx) Tryz.prog) (af (C mx) Tryz.prog 77 Tryz.f77)=some r):wO (af (C mx) Tryz.prog 77 Tryz.f77) a b d e f g i j k l m n o p q s t u w x y=some r :=
 ak (fun _ _=>by kernel_rfl) h
theorem O6 (a b d e f g i j k l m n o p q s t u w x y z A B D E G H I J L) {r:AV} (h:Hi a b d e f g i j k l m n o p q s t u w x y z A B D E G H I J L (ae (C mx) Tryz.prog) (af (C mx) Tryz.prog 77 Tryz.f77)=some r):wP (af (C mx) Tryz.prog 77 Tryz.f77) a b d e f g i j k l m n o p q s t u w x y z A B D E G H I J L=some r :=
 ak (fun _ _=>by kernel_rfl) h
theorem fV (a b d e f g i j k l m n o p q s t u w x y z A B D E G H I J L M) {r:AV} (h:fC a b d e f g i j k l m n o p q s t u w x y z A B D E G H I J L M (ae (C mx) Tryz.prog) (af (C mx) Tryz.prog 77 Tryz.f77)=some r):Hg (af (C mx) Tryz.prog 77 Tryz.f77) a b d e f g i j k l m n o p q s t u w x y z A B D E G H I J L M=some r :=
 ak (fun _ _=>by kernel_rfl) h
theorem O7 (a b d e f g i j k l m n o p q s t u w x y) {r:AV} (h:Hj a b d e f g i j k l m n o p q s t u w x y (ae (C mx) Tryz.prog) (af (C mx) Tryz.prog 77 Tryz.f77)=some r):sO (af (C mx) Tryz.prog 77 Tryz.f77) a b d e f g i j k l m n o p q s t u w x y=some r :=
 ak (fun _ _=>by kernel_rfl) h
theorem O8 (a b d e f g i j k l m n o p q s t u w x y) {r:AV} (h:Hk a b d e f g i j k l m n o p q s t u w x y (ae (C mx) Tryz.prog) (af (C mx) Tryz.prog 77 Tryz.f77)=some r):AX (af (C mx) Tryz.prog 77 Tryz.f77) a b d e f g i j k l m n o p q s t u w x y=some r :=
 ak (fun _ _=>by kernel_rfl) h
def wQ:Code:=(Tryz.f106.body).getD .skip
def ri (run:RunT) (a b d:UInt8) (e:Bool) (f g i j:UInt8) (k:Bool) (l:UInt8) (m:List UInt8) (n o:UInt8) (p:Bool) (q s t u:UInt8) (w:Bool) (x:UInt8) (y:List UInt8):Option AV :=
 run ((bL 17 wQ []).getD []) (St.bU [(2, .cell (.val (.u8 a))),(3, .cell (.ptr 3 0)),(6, .cell (.ptr 6 0))] [(3,some (cT b d e f g i j k l m)),(6,some (cT n o p q s t u w x y))])
def rj (run:RunT) (a b d:UInt8) (e:Bool) (f g i j:UInt8) (k:Bool) (l:UInt8) (m:List UInt8) (n o:UInt8) (p:Bool) (q s t u:UInt8) (w:Bool) (x:UInt8) (y:List UInt8):Option AV :=
 run ((bL 22 wQ []).getD []) (St.bU [(2, .cell (.val (.u8 a))),(3, .cell (.ptr 3 0)),(6, .cell (.ptr 6 0))] [(3,some (cT b d e f g i j k l m)),(6,some (cT n o p q s t u w x y))])
def wR (run:RunT) (a b:UInt8) (d:Bool) (e f g i:UInt8) (j:Bool) (k:UInt8) (l:List UInt8) (m n:UInt8) (o:Bool) (p q s t:UInt8) (u:Bool) (w:UInt8) (x:List UInt8):Option AV :=
 run ((bL 25 wQ []).getD []) (St.bU [(3, .cell (.ptr 3 0)),(6, .cell (.ptr 6 0))] [(3,some (cT a b d e f g i j k l)),(6,some (cT m n o p q s t u w x))])
def Sv (a b:UInt8) (d:Bool) (e f g i:UInt8) (j:Bool) (k:UInt8) (l:List UInt8) (m n:UInt8) (o:Bool) (p q s t:UInt8) (u:Bool) (w:UInt8) (x:List UInt8) (y:UInt8) (c:al) (r:RunT):Option AV :=
 (aq (.b (aK i 0)) false (some (.b (aK i 4))) (.b true)).bind fun z=>(aq (.b (nW f 0)) true (some (.b (aK y f))) (.b false)).bind fun A=>ah A
 ((unop .not z).bind fun B=>ah B
 ((c 67 []).bind fun D=>(AV.aE 10 D).bind fun E=>some (.ag [gt E 0,gt E 1,gt E 2,gt E 3,gt E 4,gt E 5,gt E 6,gt E 7,gt E 8,gt E 9]))
 (some (.ag [.u8 9, .u8 n, .b o, .u8 p, .u8 q, .u8 s, .u8 t, .b u, .u8 w, .s x])))
 (ah (.b (aK f 0))
 ((c 101 [.u8 y]).bind fun G=>(aq G false (some (.b (aK y 62))) (.b true)).bind fun H=>ah H
 ((unop .not z).bind fun I=>ah I
 ((c 67 []).bind fun J=>(AV.aE 10 J).bind fun L=>some (.ag [gt L 0,gt L 1,gt L 2,gt L 3,gt L 4,gt L 5,gt L 6,gt L 7,gt L 8,gt L 9]))
 (ah (.b (aK y 62))
 ((c 104 [.ag [.u8 a, .u8 b, .b d, .u8 e, .u8 f, .u8 g, .u8 i, .b j, .u8 k, .s l]]).bind fun M=>(AV.aE 10 M).bind fun N=>some (.ag [gt N 0,gt N 1,gt N 2,gt N 3,gt N 4,gt N 5,gt N 6,gt N 7,gt N 8,gt N 9]))
 (some (.ag [.u8 4, .u8 n, .b o, .u8 p, .u8 q, .u8 s, .u8 t, .b u, .u8 w, .s x]))))
 ((aq (.b (aK y 34)) false (some (.b (aK y 39))) (.b true)).bind fun O=>(aq O false (some (.b (aK y 60))) (.b true)).bind fun P=>(aq P false (some (.b (aK y 61))) (.b true)).bind fun Q=>(aq Q false (some (.b (aK y 96))) (.b true)).bind fun R=>ah R
 ((c 67 []).bind fun T=>(AV.aE 10 T).bind fun U=>some (.ag [gt U 0,gt U 1,gt U 2,gt U 3,gt U 4,gt U 5,gt U 6,gt U 7,gt U 8,gt U 9]))
 (ri r y a b d e f g i j k l 0 0 false 0 0 0 0 false 0 [])))
 (ri r y a b d e f g i j k l 0 0 false 0 0 0 0 false 0 []))
theorem WG (a b d e f g i j k l m n o p q s t u w x y) {r:AV} (h:Sv a b d e f g i j k l m n o p q s t u w x y (ae (C mx) Tryz.prog) (af (C mx) Tryz.prog 106 Tryz.f106)=some r):ae (C mx) Tryz.prog 106 [.ag [.u8 a, .u8 b, .b d, .u8 e, .u8 f, .u8 g, .u8 i, .b j, .u8 k, .s l], .ag [.u8 m, .u8 n, .b o, .u8 p, .u8 q, .u8 s, .u8 t, .b u, .u8 w, .s x], .u8 y]=some r :=
 aj (fun _ _=>by kernel_rfl) h
def CJ (a b d:UInt8) (e:Bool) (f g i j:UInt8) (k:Bool) (l:UInt8) (m:List UInt8) (n o:UInt8) (p:Bool) (q s t u:UInt8) (w:Bool) (x:UInt8) (y:List UInt8) (c:al) (r:RunT):Option AV :=
 ah (.b (aK f 1))
 ((c 131 [.ag [.u8 b, .u8 d, .b e, .u8 f, .u8 g, .u8 i, .u8 j, .b k, .u8 l, .s m], .u8 a]).bind fun z=>(AV.aE 10 z).bind fun A=>some (.ag [gt A 0,gt A 1,gt A 2,gt A 3,gt A 4,gt A 5,gt A 6,gt A 7,gt A 8,gt A 9]))
 (ah (.b (aK f 2))
 (rj r a b d e f g i j k l m n o p q s t u w x y)
 (ah (.b (aK f 3))
 (rj r a b d e f g i j k l m n o p q s t u w x y)
 (wR r b d e f g i j k l m n o p q s t u w x y)))
def CK (a b d:UInt8) (e:Bool) (f g i j:UInt8) (k:Bool) (l:UInt8) (m:List UInt8) (n o:UInt8) (p:Bool) (q s t u:UInt8) (w:Bool) (x:UInt8) (y:List UInt8) (c:al) (r:RunT):Option AV :=
 ah (.b (aK a 38))
 ((c 67 []).bind fun z=>(AV.aE 10 z).bind fun A=>some (.ag [gt A 0,gt A 1,gt A 2,gt A 3,gt A 4,gt A 5,gt A 6,gt A 7,gt A 8,gt A 9]))
 ((c 132 [.ag [.u8 b, .u8 d, .b e, .u8 f, .u8 g, .u8 i, .u8 j, .b k, .u8 l, .s m], .u8 a, .b (aK f 2)]).bind fun B=>(AV.aE 10 B).bind fun D=>some (.ag [gt D 0,gt D 1,gt D 2,gt D 3,gt D 4,gt D 5,gt D 6,gt D 7,gt D 8,gt D 9]))
def KS (a b:UInt8) (d:Bool) (e f g i:UInt8) (j:Bool) (k:UInt8) (l:List UInt8) (m n:UInt8) (o:Bool) (p q s t:UInt8) (u:Bool) (w:UInt8) (x:List UInt8) (c:al) (r:RunT):Option AV :=
 some (.ag [.u8 a, .u8 b, .b d, .u8 e, .u8 f, .u8 g, .u8 i, .b j, .u8 k, .s l])
theorem KT (a b d e f g i j k l m n o p q s t u w x y) {r:AV} (h:CJ a b d e f g i j k l m n o p q s t u w x y (ae (C mx) Tryz.prog) (af (C mx) Tryz.prog 106 Tryz.f106)=some r):ri (af (C mx) Tryz.prog 106 Tryz.f106) a b d e f g i j k l m n o p q s t u w x y=some r :=
 ak (fun _ _=>by kernel_rfl) h
theorem KU (a b d e f g i j k l m n o p q s t u w x y) {r:AV} (h:CK a b d e f g i j k l m n o p q s t u w x y (ae (C mx) Tryz.prog) (af (C mx) Tryz.prog 106 Tryz.f106)=some r):rj (af (C mx) Tryz.prog 106 Tryz.f106) a b d e f g i j k l m n o p q s t u w x y=some r :=
 ak (fun _ _=>by kernel_rfl) h
theorem KV (a b d e f g i j k l m n o p q s t u w x) {r:AV} (h:KS a b d e f g i j k l m n o p q s t u w x (ae (C mx) Tryz.prog) (af (C mx) Tryz.prog 106 Tryz.f106)=some r):wR (af (C mx) Tryz.prog 106 Tryz.f106) a b d e f g i j k l m n o p q s t u w x=some r :=
 ak (fun _ _=>by kernel_rfl) h
def lG:Code:=(Tryz.f108.body).getD .skip
def wS (run:RunT) (a b d:UInt8) (e:Bool) (f g i j:UInt8) (k:Bool) (l:UInt8) (m:List UInt8) (n o:UInt8) (p:Bool) (q s t u:UInt8) (w:Bool) (x:UInt8) (y:List UInt8):Option AV :=
 run ((bL 4 lG []).getD []) (St.bU [(1, .cell (.val (.u8 a))),(2, .cell (.ptr 2 0)),(4, .cell (.ptr 4 0))] [(2,some (cT b d e f g i j k l m)),(4,some (cT n o p q s t u w x y))])
def wT (run:RunT) (a:UInt8) (b:Int) (d e:UInt8) (f:Bool) (g i j k:UInt8) (l:Bool) (m:UInt8) (n:List UInt8) (o p:UInt8) (q:Bool) (s t u w:UInt8) (x:Bool) (y:UInt8) (z:List UInt8):Option AV :=
 run ((bL 11 lG []).getD []) (St.bU [(1, .cell (.val (.u8 a))),(2, .cell (.ptr 2 0)),(4, .cell (.ptr 4 0)),(7, .cell (.val (.int b)))] [(2,some (cT d e f g i j k l m n)),(4,some (cT o p q s t u w x y z))])
def rl (run:RunT) (a b d:UInt8) (e:Bool) (f g i j:UInt8) (k:Bool) (l:UInt8) (m:List UInt8) (n o:UInt8) (p:Bool) (q s t u:UInt8) (w:Bool) (x:UInt8) (y:List UInt8):Option AV :=
 run ((bL 13 lG []).getD []) (St.bU [(1, .cell (.val (.u8 a))),(2, .cell (.ptr 2 0)),(4, .cell (.ptr 4 0))] [(2,some (cT b d e f g i j k l m)),(4,some (cT n o p q s t u w x y))])
def wU (run:RunT) (a:UInt8) (b:Int) (d e:UInt8) (f:Bool) (g i j k:UInt8) (l:Bool) (m:UInt8) (n:List UInt8) (o p:UInt8) (q:Bool) (s t u w:UInt8) (x:Bool) (y:UInt8) (z:List UInt8):Option AV :=
 run ((bL 20 lG []).getD []) (St.bU [(1, .cell (.val (.u8 a))),(2, .cell (.ptr 2 0)),(4, .cell (.ptr 4 0)),(7, .cell (.val (.int b)))] [(2,some (cT d e f g i j k l m n)),(4,some (cT o p q s t u w x y z))])
def rm (run:RunT) (a b:UInt8) (d:Bool) (e f g i:UInt8) (j:Bool) (k:AV) (l:List UInt8) (m n:UInt8) (o:Bool) (p q s t:UInt8) (u:Bool) (w:UInt8) (x:List UInt8):Option AV :=
 run ((bL 24 lG []).getD []) (St.bU [(2, .cell (.ptr 2 0)),(4, .cell (.ptr 4 0))] [(2,some [.val (.u8 a), .val (.u8 b), .val (.b d), .val (.u8 e), .val (.u8 f), .val (.u8 g), .val (.u8 i), .val (.b j), .val k, .val (.s l)]),(4,some (cT m n o p q s t u w x))])
def rp (run:RunT) (a b:UInt8) (d:Bool) (e f g i:UInt8) (j:Bool) (k:UInt8) (l:List UInt8) (m n:UInt8) (o:Bool) (p q s t:UInt8) (u:Bool) (w:UInt8) (x:List UInt8):Option AV :=
 run ((bL 33 lG []).getD []) (St.bU [(2, .cell (.ptr 2 0)),(4, .cell (.ptr 4 0))] [(2,some (cT a b d e f g i j k l)),(4,some (cT m n o p q s t u w x))])
def Sw (a b:UInt8) (d:Bool) (e f g i:UInt8) (j:Bool) (k:UInt8) (l:List UInt8) (m:UInt8) (c:al) (r:RunT):Option AV :=
 ah (.b ((bJ (a.toNat:Int)) == 11))
 (wS r m a b d e f g i j k l 0 0 false 0 0 0 0 false 0 [])
 (ah (.b ((bJ (a.toNat:Int)) == 12))
 (wS r m a b d e f g i j k l 0 0 false 0 0 0 0 false 0 [])
 (wT r m (bJ (a.toNat:Int)) a b d e f g i j k l 0 0 false 0 0 0 0 false 0 []))
theorem WH (a b d e f g i j k l m) {r:AV} (h:Sw a b d e f g i j k l m (ae (C mx) Tryz.prog) (af (C mx) Tryz.prog 108 Tryz.f108)=some r):ae (C mx) Tryz.prog 108 [.ag [.u8 a, .u8 b, .b d, .u8 e, .u8 f, .u8 g, .u8 i, .b j, .u8 k, .s l], .u8 m]=some r :=
 aj (fun _ _=>by kernel_rfl) h
def Hl (a b d:UInt8) (e:Bool) (f g i j:UInt8) (k:Bool) (l:UInt8) (m:List UInt8) (n o:UInt8) (p:Bool) (q s t u:UInt8) (w:Bool) (x:UInt8) (y:List UInt8) (c:al) (r:RunT):Option AV :=
 ah (.b (aK a 62))
 ((c 98 [.int 0]).bind fun z=>(AV.aE 10 z).bind fun A=>some (.ag [gt A 0,gt A 1,gt A 2,gt A 3,gt A 4,gt A 5,gt A 6,gt A 7,gt A 8,gt A 9]))
 (ah (.b (aK a 45))
 (ah (.b ((bJ (b.toNat:Int)) == 11))
 ((c 98 [.int 12]).bind fun B=>(AV.aE 10 B).bind fun D=>some (.ag [gt D 0,gt D 1,gt D 2,gt D 3,gt D 4,gt D 5,gt D 6,gt D 7,gt D 8,gt D 9]))
 ((c 98 [.int 13]).bind fun E=>(AV.aE 10 E).bind fun G=>some (.ag [gt G 0,gt G 1,gt G 2,gt G 3,gt G 4,gt G 5,gt G 6,gt G 7,gt G 8,gt G 9])))
 ((c 98 [.int 16]).bind fun H=>(AV.aE 10 H).bind fun I=>some (.ag [gt I 0,gt I 1,gt I 2,gt I 3,gt I 4,gt I 5,gt I 6,gt I 7,gt I 8,gt I 9])))
def CL (a:UInt8) (b:Int) (d e:UInt8) (f:Bool) (g i j k:UInt8) (l:Bool) (m:UInt8) (n:List UInt8) (o p:UInt8) (q:Bool) (s t u w:UInt8) (x:Bool) (y:UInt8) (z:List UInt8) (c:al) (r:RunT):Option AV :=
 ah (.b (b == 13))
 (rl r a d e f g i j k l m n o p q s t u w x y z)
 (ah (.b (b == 14))
 (rl r a d e f g i j k l m n o p q s t u w x y z)
 (wU r a b d e f g i j k l m n o p q s t u w x y z))
def CM (a b d:UInt8) (e:Bool) (f g i j:UInt8) (k:Bool) (l:UInt8) (m:List UInt8) (n o:UInt8) (p:Bool) (q s t u:UInt8) (w:Bool) (x:UInt8) (y:List UInt8) (c:al) (r:RunT):Option AV :=
 ah (.b (aK a 62))
 ((c 67 []).bind fun z=>(AV.aE 10 z).bind fun A=>some (.ag [gt A 0,gt A 1,gt A 2,gt A 3,gt A 4,gt A 5,gt A 6,gt A 7,gt A 8,gt A 9]))
 (ah (.b (nW a 45))
 ((c 98 [.int 15]).bind fun B=>(AV.aE 10 B).bind fun D=>some (.ag [gt D 0,gt D 1,gt D 2,gt D 3,gt D 4,gt D 5,gt D 6,gt D 7,gt D 8,gt D 9]))
 (ah (.b ((bJ (b.toNat:Int)) == 13))
 ((c 98 [.int 14]).bind fun E=>(AV.aE 10 E).bind fun G=>some (.ag [gt G 0,gt G 1,gt G 2,gt G 3,gt G 4,gt G 5,gt G 6,gt G 7,gt G 8,gt G 9]))
 (some (.ag [.u8 15, .u8 0, .b false, .u8 0, .u8 0, .u8 0, .u8 0, .b false, .u8 2, .s []]))))
def CN (a:UInt8) (b:Int) (d e:UInt8) (f:Bool) (g i j k:UInt8) (l:Bool) (m:UInt8) (n:List UInt8) (o p:UInt8) (q:Bool) (s t u w:UInt8) (x:Bool) (y:UInt8) (z:List UInt8) (c:al) (r:RunT):Option AV :=
 ah (.b (b == 15))
 (ah (.b (aK a 45))
 (ah (.b (ult m 2))
 ((aD .add (.u8 m) (.u8 1)).bind fun A=>(AV.one A).bind fun B=>rm r d e f g i j k l B n o p q s t u w x y z)
 (rm r d e f g i j k l (.u8 m) n o p q s t u w x y z))
 ((aq (.b (aK m 2)) true (some (.b (aK a 62))) (.b false)).bind fun D=>ah D
 ((c 98 [.int 0]).bind fun E=>(AV.aE 10 E).bind fun G=>some (.ag [gt G 0,gt G 1,gt G 2,gt G 3,gt G 4,gt G 5,gt G 6,gt G 7,gt G 8,gt G 9]))
 ((aq (.b (aK m 2)) true (some (.b (aK a 33))) (.b false)).bind fun H=>ah H
 ((c 67 []).bind fun I=>(AV.aE 10 I).bind fun J=>some (.ag [gt J 0,gt J 1,gt J 2,gt J 3,gt J 4,gt J 5,gt J 6,gt J 7,gt J 8,gt J 9]))
 ((c 98 [.int 15]).bind fun L=>(AV.aE 10 L).bind fun M=>some (.ag [gt M 0,gt M 1,gt M 2,gt M 3,gt M 4,gt M 5,gt M 6,gt M 7,gt M 8,gt M 9])))))
 (ah (.b (b == 16))
 (ah (.b (aK a 62))
 ((c 98 [.int 0]).bind fun N=>(AV.aE 10 N).bind fun O=>some (.ag [gt O 0,gt O 1,gt O 2,gt O 3,gt O 4,gt O 5,gt O 6,gt O 7,gt O 8,gt O 9]))
 (rp r d e f g i j k l m n o p q s t u w x y z))
 (rp r d e f g i j k l m n o p q s t u w x y z))
def KW (a b:UInt8) (d:Bool) (e f g i:UInt8) (j:Bool) (k:AV) (l:List UInt8) (m n:UInt8) (o:Bool) (p q s t:UInt8) (u:Bool) (w:UInt8) (x:List UInt8) (c:al) (r:RunT):Option AV :=
 some (.ag [.u8 a, .u8 b, .b d, .u8 e, .u8 f, .u8 g, .u8 i, .b j,k, .s l])
def KX (a b:UInt8) (d:Bool) (e f g i:UInt8) (j:Bool) (k:UInt8) (l:List UInt8) (m n:UInt8) (o:Bool) (p q s t:UInt8) (u:Bool) (w:UInt8) (x:List UInt8) (c:al) (r:RunT):Option AV :=
 some (.ag [.u8 a, .u8 b, .b d, .u8 e, .u8 f, .u8 g, .u8 i, .b j, .u8 k, .s l])
theorem O9 (a b d e f g i j k l m n o p q s t u w x y) {r:AV} (h:Hl a b d e f g i j k l m n o p q s t u w x y (ae (C mx) Tryz.prog) (af (C mx) Tryz.prog 108 Tryz.f108)=some r):wS (af (C mx) Tryz.prog 108 Tryz.f108) a b d e f g i j k l m n o p q s t u w x y=some r :=
 ak (fun _ _=>by kernel_rfl) h
theorem KY (a b d e f g i j k l m n o p q s t u w x y z) {r:AV} (h:CL a b d e f g i j k l m n o p q s t u w x y z (ae (C mx) Tryz.prog) (af (C mx) Tryz.prog 108 Tryz.f108)=some r):wT (af (C mx) Tryz.prog 108 Tryz.f108) a b d e f g i j k l m n o p q s t u w x y z=some r :=
 ak (fun _ _=>by kernel_rfl) h
theorem KZ (a b d e f g i j k l m n o p q s t u w x y) {r:AV} (h:CM a b d e f g i j k l m n o p q s t u w x y (ae (C mx) Tryz.prog) (af (C mx) Tryz.prog 108 Tryz.f108)=some r):rl (af (C mx) Tryz.prog 108 Tryz.f108) a b d e f g i j k l m n o p q s t u w x y=some r :=
 ak (fun _ _=>by kernel_rfl) h
theorem K0 (a b d e f g i j k l m n o p q s t u w x y z) {r:AV} (h:CN a b d e f g i j k l m n o p q s t u w x y z (ae (C mx) Tryz.prog) (af (C mx) Tryz.prog 108 Tryz.f108)=some r):wU (af (C mx) Tryz.prog 108 Tryz.f108) a b d e f g i j k l m n o p q s t u w x y z=some r :=
 ak (fun _ _=>by kernel_rfl) h
theorem K1 (a b d e f g i j k l m n o p q s t u w x) {r:AV} (h:KW a b d e f g i j k l m n o p q s t u w x (ae (C mx) Tryz.prog) (af (C mx) Tryz.prog 108 Tryz.f108)=some r):rm (af (C mx) Tryz.prog 108 Tryz.f108) a b d e f g i j k l m n o p q s t u w x=some r :=
 ak (fun _ _=>by kernel_rfl) h
theorem K2 (a b d e f g i j k l m n o p q s t u w x) {r:AV} (h:KX a b d e f g i j k l m n o p q s t u w x (ae (C mx) Tryz.prog) (af (C mx) Tryz.prog 108 Tryz.f108)=some r):rp (af (C mx) Tryz.prog 108 Tryz.f108) a b d e f g i j k l m n o p q s t u w x=some r :=
 ak (fun _ _=>by kernel_rfl) h
def wV (run:RunT) (a:List UInt8) (b:Int) (d e f g i j k l m n:AV) (o p:UInt8) (q:Bool) (s t u w:UInt8) (x:Bool) (y:UInt8) (z:List UInt8):Option AV :=
 run ((bL 4 ((Tryz.f133.body).getD .skip) []).getD []) (St.bU [(1, .cell (.val (.s a))),(2, .cell (.ptr 2 0)),(4, .cell (.ptr 4 0)),(5, .cell (.val (.int b)))] [(2,some (cV d e f g i j k l m n)),(4,some (cT o p q s t u w x y z))])
def WI (a b:UInt8) (d:Bool) (e f g i:UInt8) (j:Bool) (k:UInt8) (l m:List UInt8) (c:al) (r:RunT):Option AV :=
 wV r m 0 (.u8 17) (.u8 b) (.b d) (.u8 e) (.u8 f) (.u8 g) (.u8 i) (.b j) (.u8 k) (.s []) 0 0 false 0 0 0 0 false 0 []
theorem WJ (a b d e f g i j k l m) {r:AV} (h:WI a b d e f g i j k l m (ae (C mx) Tryz.prog) (af (C mx) Tryz.prog 133 Tryz.f133)=some r):ae (C mx) Tryz.prog 133 [.ag [.u8 a, .u8 b, .b d, .u8 e, .u8 f, .u8 g, .u8 i, .b j, .u8 k, .s l], .s m]=some r :=
 aj (fun _ _=>by kernel_rfl) h
def AY (a:List UInt8) (b:Int) (d e f g i j k l m n:AV) (o p:UInt8) (q:Bool) (s t u w:UInt8) (x:Bool) (y:UInt8) (z:List UInt8) (c:al) (r:RunT):Option AV :=
 (aq (.b (decide (b < ((a.length:Int))))) true ((aD .eql e (.u8 3)).bind fun A=>(aq A false ((aD .eql e (.u8 4)).bind fun B=>some B) (.b true)).bind fun D=>some D) (.b false)).bind fun E=>(aq E true ((conv .i64 d).bind fun G=>(aD .eql G (.int 17)).bind fun H=>some H) (.b false)).bind fun I=>ah I
 ((df (.s a) (.int b)).bind fun J=>(aD .eql e (.u8 3)).bind fun L=>(c 132 [.ag [d,e,f,g,i,j,k,l,m,n],J,L]).bind fun M=>(AV.aE 10 M).bind fun N=>wV r a (bJ (b+1)) (gt N 0) (gt N 1) (gt N 2) (gt N 3) (gt N 4) (gt N 5) (gt N 6) (gt N 7) (gt N 8) (gt N 9) o p q s t u w x y z)
 (some (.ag [d,e,f,g,i,j,k,l,m,n]))
theorem Hm (a b d e f g i j k l m n o p q s t u w x y z) {r:AV} (h:AY a b d e f g i j k l m n o p q s t u w x y z (ae (C mx) Tryz.prog) (af (C mx) Tryz.prog 133 Tryz.f133)=some r):wV (af (C mx) Tryz.prog 133 Tryz.f133) a b d e f g i j k l m n o p q s t u w x y z=some r :=
 ak (fun _ _=>by kernel_rfl) h
section
variable (c:Ctx) (b:UInt8)
theorem WK (h:c.nm.length≤100):ae (C mx) Tryz.prog 106 [c.au,(within c 0).au, .u8 b]=some (rvalue c b).au:=by
 have f25:wR (af (C mx) Tryz.prog 106 Tryz.f106) c.st c.el c.en c.at' c.qu c.pa c.su c.es c.da c.nm 0 0 false 0 0 0 0 false 0 []=some c.au:=by
  apply KV
  rfl
 have f22:rj (af (C mx) Tryz.prog 106 Tryz.f106) b c.st c.el c.en c.at' c.qu c.pa c.su c.es c.da c.nm 0 0 false 0 0 0 0 false 0 []=some (if b == 38 then bc else j3 c b (c.at' == 2):Ctx).au:=by
  apply KU
  simp only [CK,aJ,Option.bind_some,ai,wN,az,aF,Su,sq,ao,zT,aR]
 have f17:ri (af (C mx) Tryz.prog 106 Tryz.f106) b c.st c.el c.en c.at' c.qu c.pa c.su c.es c.da c.nm 0 0 false 0 0 0 0 false 0 []=some (if c.at' == 1 then wi c b else if c.at' == 2 then (if b == 38 then bc else j3 c b (c.at' == 2)) else if c.at' == 3 then (if b == 38 then bc else j3 c b (c.at' == 2)) else c:Ctx).au:=by
  apply KT
  simp only [CJ,aJ,Option.bind_some,ai,az,aF,WE (h:=h),f22,f25,ao,zT,aR]
 apply WG
 simp only [Sv,aJ,cy,Option.bind_some,aI,ax,ai,bn,wN,AW,az,aF,O4,ao,zT,f17]
 rw [show (b == 34 || b == 39 || b == 60 || b == 61 || b == 96)=so b from rfl]
 simp only [rvalue,aR]
 rfl
theorem Sy:∀ (r p:List UInt8) (c:Ctx),(p ++ r).length < 9223372036854775808→wV (af (C mx) Tryz.prog 133 Tryz.f133) (p ++ r) (p.length:Int) (.u8 c.st) (.u8 c.el) (.b c.en) (.u8 c.at') (.u8 c.qu) (.u8 c.pa) (.u8 c.su) (.b c.es) (.u8 c.da) (.s c.nm) 0 0 false 0 0 0 0 false 0 []=some (jH c r).au
 | [],p,c,h=>by
  apply Hm
  simp only [AY,qQ,nV,List.append_nil,Option.bind_some,eZ,ai,Bool.false_eq_true,if_false,az,aF,jH]
 | b :: r,p,c,h=>by
  apply Hm
  simp only [AY,vU,iE,lz p b r h,cG,iD,aZ,bQ _ _ (show 17 < 256 by decide),Option.bind_some,aI,ax,Bool.true_and,ai,az,aF,Su,ao,zT,jH,aR]
  rw [dv,Sy r (p ++ [b]) _ (by rw [← dv];exact h)]
theorem Sz (s:List UInt8) (h:s.length < 9223372036854775808):ae (C mx) Tryz.prog 133 [c.au, .s s]=some (mU c s true).au:=by
 apply WJ
 rw [← Gj]
 exact Sy s [] { c with st:=17,nm:=[] } h
theorem WL:ae (C mx) Tryz.prog 108 [c.au, .u8 b]=some (yS c b).au:=by
 have t0:=EW (mx:=mx) 0
 have t12:=EW (mx:=mx) 12
 have t13:=EW (mx:=mx) 13
 have t14:=EW (mx:=mx) 14
 have t15:=EW (mx:=mx) 15
 have t16:=EW (mx:=mx) 16
 simp only [show ((0:UInt8).toNat:Int)=0 from rfl,show ((12:UInt8).toNat:Int)=12 from rfl,show ((13:UInt8).toNat:Int)=13 from rfl,show ((14:UInt8).toNat:Int)=14 from rfl,show ((15:UInt8).toNat:Int)=15 from rfl,show ((16:UInt8).toNat:Int)=16 from rfl] at t0 t12 t13 t14 t15 t16
 have f33:rp (af (C mx) Tryz.prog 108 Tryz.f108) c.st c.el c.en c.at' c.qu c.pa c.su c.es c.da c.nm 0 0 false 0 0 0 0 false 0 []=some c.au:=by
  apply K2
  rfl
 have f24 (d:Ctx):rm (af (C mx) Tryz.prog 108 Tryz.f108) d.st d.el d.en d.at' d.qu d.pa d.su d.es (.u8 d.da) d.nm 0 0 false 0 0 0 0 false 0 []=some d.au:=by
  apply K1
  rfl
 have f4:wS (af (C mx) Tryz.prog 108 Tryz.f108) b c.st c.el c.en c.at' c.qu c.pa c.su c.es c.da c.nm 0 0 false 0 0 0 0 false 0 []=some (if b == 62 then bC 0 else if b == 45 then (if c.st == 11 then bC 12 else bC 13) else bC 16:Ctx).au:=by
  apply O9
  simp only [Hl,aJ,gR,bQ _ _ (show 11 < 256 by decide),Option.bind_some,ai,t0,t12,t13,t16,ao,zT,aR]
  rfl
 have f13:rl (af (C mx) Tryz.prog 108 Tryz.f108) b c.st c.el c.en c.at' c.qu c.pa c.su c.es c.da c.nm 0 0 false 0 0 0 0 false 0 []=some (if b == 62 then bc else if b != 45 then bC 15 else if c.st == 13 then bC 14 else ⟨15,0,false,0,0,0,0,false,2,[]⟩:Ctx).au:=by
  apply KZ
  simp only [CM,aJ,cy,gR,bQ _ _ (show 13 < 256 by decide),Option.bind_some,ai,t15,t14,wN,ao,zT,aR]
  rfl
 have f20:wU (af (C mx) Tryz.prog 108 Tryz.f108) b (c.st.toNat:Int) c.st c.el c.en c.at' c.qu c.pa c.su c.es c.da c.nm 0 0 false 0 0 0 0 false 0 [] =
   some (if c.st == 15 then (if b == 45 then (if decide (c.da < 2) then { c with da:=c.da+1 } else c) else if c.da == 2 && b == 62 then bC 0 else if c.da == 2 && b == 33 then bc else bC 15)
 else if c.st == 16 then (if b == 62 then bC 0 else c) else c:Ctx).au:=by
  apply K0
  simp only [CN,aJ,dK,Ao,eI,bQ _ _ (show 15 < 256 by decide),bQ _ _ (show 16 < 256 by decide),Option.bind_some,ax,ai,t0,t15,wN,ao,zT,aR,f33]
  rw [f24 c,f24 { c with da:=c.da+1 }]
  rfl
 have f11:wT (af (C mx) Tryz.prog 108 Tryz.f108) b (c.st.toNat:Int) c.st c.el c.en c.at' c.qu c.pa c.su c.es c.da c.nm 0 0 false 0 0 0 0 false 0 [] =
   some (if c.st == 13 || c.st == 14 then (if b == 62 then bc else if b != 45 then bC 15 else if c.st == 13 then bC 14 else ⟨15,0,false,0,0,0,0,false,2,[]⟩)
 else if c.st == 15 then (if b == 45 then (if decide (c.da < 2) then { c with da:=c.da+1 } else c) else if c.da == 2 && b == 62 then bC 0 else if c.da == 2 && b == 33 then bc else bC 15)
 else if c.st == 16 then (if b == 62 then bC 0 else c) else c:Ctx).au:=by
  apply KY
  simp only [CL,bQ _ _ (show 13 < 256 by decide),bQ _ _ (show 14 < 256 by decide),ai,f13,f20]
  show (if (c.st == 13)=true then _ else if (c.st == 14)=true then _ else _)=_
  by_cases h1:(c.st == 13)=true
  ·rw [if_pos h1];exact congrArg (fun x=>some (Ctx.au x)) (if_pos (by rw [h1];rfl)).symm
  ·rw [if_neg h1]
   by_cases h2:(c.st == 14)=true
   ·rw [if_pos h2];exact congrArg (fun x=>some (Ctx.au x)) (if_pos (by rw [h2];simp)).symm
   ·rw [if_neg h2];exact congrArg (fun x=>some (Ctx.au x)) (if_neg (by simp only [Bool.or_eq_true];exact fun e=>e.elim h1 h2)).symm
 apply WH
 simp only [Sw,gR,bQ _ _ (show 11 < 256 by decide),bQ _ _ (show 12 < 256 by decide),ai,f4,f11]
 unfold yS
 show (if (c.st == 11)=true then _ else if (c.st == 12)=true then _ else _)=_
 by_cases h1:(c.st == 11)=true
 ·rw [if_pos h1];exact congrArg (fun x=>some (Ctx.au x)) (if_pos (by rw [h1];rfl)).symm
 ·rw [if_neg h1]
  by_cases h2:(c.st == 12)=true
  ·rw [if_pos h2];exact congrArg (fun x=>some (Ctx.au x)) (if_pos (by rw [h2];simp)).symm
  ·rw [if_neg h2];exact congrArg (fun x=>some (Ctx.au x)) (if_neg (by simp only [Bool.or_eq_true];exact fun e=>e.elim h1 h2)).symm
theorem Mu (h:c.st=9):uR c.st c.el c.en c.at' c.qu c.pa c.su c.es c.da c.nm b (ae (C mx) Tryz.prog) (af (C mx) Tryz.prog 77 Tryz.f77)=some (tag c b).1.au:=by
 obtain ⟨st,el,en,at',qu,pa,su,es,da,nm⟩:=c
 simp only at h
 subst h
 have w9:bJ ((9:UInt8).toNat:Int)=9:=rfl
 simp only [uR,w9,ai]
 simp only [show ((9:Int) == 0)=false from rfl,show ((9:Int) == 1)=false from rfl,show ((9:Int) == 2)=false from rfl,show ((9:Int) == 3)=false from rfl,show ((9:Int) == 9)=true from rfl,Bool.false_eq_true,if_false,if_true,AW,wN,az,aF,O4,aJ,Option.bind_some,ai,ao,zT]
 unfold tag
 simp only [show ((9:UInt8) == 3)=false from rfl,show ((9:UInt8) == 9)=true from rfl,Bool.false_eq_true,if_false,if_true]
 cases bj b <;> cases (b == 47) <;> cases (b == 62) <;> rfl
theorem SA (h:c.st=9):ae (C mx) Tryz.prog 77 [c.au, .u8 b]=some (tag c b).1.au:=by
 apply Y7
 exact Mu c b h
end
def wW:Code:=(Tryz.f107.body).getD .skip
def wX (run:RunT) (a:UInt8) (b:AV) (d e:UInt8) (f:Bool) (g i j k:UInt8) (l:Bool) (m:UInt8) (n:List UInt8) (o p:UInt8) (q:Bool) (s t u w:UInt8) (x:Bool) (y:UInt8) (z:List UInt8):Option AV :=
 run ((bL 8 wW []).getD []) (St.bU [(1, .cell (.val (.u8 a))),(2, .cell (.ptr 2 0)),(4, .cell (.ptr 4 0)),(5, .cell (.val b))] [(2,some (cT d e f g i j k l m n)),(4,some (cT o p q s t u w x y z))])
def ob (run:RunT) (a:UInt8) (b d e f g i j k l m:AV) (n o:UInt8) (p:Bool) (q s t u:UInt8) (w:Bool) (x:UInt8) (y:List UInt8):Option AV :=
 run ((bL 20 wW []).getD []) (St.bU [(1, .cell (.val (.u8 a))),(2, .cell (.ptr 2 0)),(4, .cell (.ptr 4 0))] [(2,some (cV b d e f g i j k l m)),(4,some (cT n o p q s t u w x y))])
def rq (run:RunT) (a b d e f g i j k l:AV) (m n:UInt8) (o:Bool) (p q s t:UInt8) (u:Bool) (w:UInt8) (x:List UInt8):Option AV :=
 run ((bL 23 wW []).getD []) (St.bU [(2, .cell (.ptr 2 0)),(4, .cell (.ptr 4 0))] [(2,some (cV a b d e f g i j k l)),(4,some (cT m n o p q s t u w x))])
def SB (a b:UInt8) (d:Bool) (e f g i:UInt8) (j:Bool) (k:UInt8) (l:List UInt8) (m:UInt8) (c:al) (r:RunT):Option AV :=
 (c 36 [.int (bJ (b.toNat:Int))]).bind fun n=>ah (.b ((bJ (a.toNat:Int)) == 18))
 (ah (.b (aK m 47))
 (some (.ag [.u8 19, .u8 b, .b d, .u8 e, .u8 f, .u8 g, .u8 i, .b j, .u8 k, .s l]))
 ((aq (.b (aK m 33)) true (some (.b (aK b 3))) (.b false)).bind fun o=>ah o
 ((c 67 []).bind fun p=>(AV.aE 10 p).bind fun q=>some (.ag [gt q 0,gt q 1,gt q 2,gt q 3,gt q 4,gt q 5,gt q 6,gt q 7,gt q 8,gt q 9]))
 (wX r m n a b d e f g i j k l 0 0 false 0 0 0 0 false 0 [])))
 (wX r m n a b d e f g i j k l 0 0 false 0 0 0 0 false 0 [])
theorem WM (a b d e f g i j k l m) {r:AV} (h:SB a b d e f g i j k l m (ae (C mx) Tryz.prog) (af (C mx) Tryz.prog 107 Tryz.f107)=some r):ae (C mx) Tryz.prog 107 [.ag [.u8 a, .u8 b, .b d, .u8 e, .u8 f, .u8 g, .u8 i, .b j, .u8 k, .s l], .u8 m]=some r :=
 aj (fun _ _=>by kernel_rfl) h
def Ho (a:UInt8) (b:AV) (d e:UInt8) (f:Bool) (g i j k:UInt8) (l:Bool) (m:UInt8) (n:List UInt8) (o p:UInt8) (q:Bool) (s t u w:UInt8) (x:Bool) (y:UInt8) (z:List UInt8) (c:al) (r:RunT):Option AV :=
 ah (.b ((bJ (d.toNat:Int)) == 19))
 ((cr .eql (.s n) b).bind fun A=>(aq A true ((c 101 [.u8 a]).bind fun B=>(aq B false (some (.b (aK a 47))) (.b true)).bind fun D=>(aq D false (some (.b (aK a 62))) (.b true)).bind fun E=>some E) (.b false)).bind fun G=>ah G
 ((aq (.b (nW k 0)) true (some (.b (nW k 4))) (.b false)).bind fun H=>ah H
 ((c 67 []).bind fun I=>(AV.aE 10 I).bind fun J=>some (.ag [gt J 0,gt J 1,gt J 2,gt J 3,gt J 4,gt J 5,gt J 6,gt J 7,gt J 8,gt J 9]))
 ((c 77 [.ag [.u8 9, .u8 0, .b true, .u8 0, .u8 0, .u8 0, .u8 0, .b false, .u8 0, .s []], .u8 a]).bind fun L=>(AV.aE 10 L).bind fun M=>some (.ag [gt M 0,gt M 1,gt M 2,gt M 3,gt M 4,gt M 5,gt M 6,gt M 7,gt M 8,gt M 9])))
 ((c 100 [.u8 a]).bind fun N=>(cr .add (.s n) N).bind fun O=>(iO O).bind fun P=>(iO b).bind fun Q=>(aD .leq P Q).bind fun R=>(aq R true ((iO O).bind fun T=>(ic b none (some T)).bind fun U=>(cr .eql U O).bind fun V=>some V) (.b false)).bind fun W=>ah W
 ((AV.one O).bind fun Y=>some (.ag [.u8 d, .u8 e, .b f, .u8 g, .u8 i, .u8 j, .u8 k, .b l, .u8 m,Y]))
 ((cr .add (.s [47]) (.s n)).bind fun Z=>(c 133 [.ag [.u8 d, .u8 e, .b f, .u8 g, .u8 i, .u8 j, .u8 k, .b l, .u8 m, .s n],Z]).bind fun v0=>(AV.aE 10 v0).bind fun v1=>(conv .i64 (gt v1 0)).bind fun v2=>(aD .eql v2 (.int 20)).bind fun v3=>ah v3
 ((c 67 []).bind fun v4=>(AV.aE 10 v4).bind fun v5=>some (.ag [gt v5 0,gt v5 1,gt v5 2,gt v5 3,gt v5 4,gt v5 5,gt v5 6,gt v5 7,gt v5 8,gt v5 9]))
 (ob r a (gt v1 0) (gt v1 1) (gt v1 2) (gt v1 3) (gt v1 4) (gt v1 5) (gt v1 6) (gt v1 7) (gt v1 8) (gt v1 9) o p q s t u w x y z))))
 (ob r a (.u8 d) (.u8 e) (.b f) (.u8 g) (.u8 i) (.u8 j) (.u8 k) (.b l) (.u8 m) (.s n) o p q s t u w x y z)
def CO (a:UInt8) (b d e f g i j k l m:AV) (n o:UInt8) (p:Bool) (q s t u:UInt8) (w:Bool) (x:UInt8) (y:List UInt8) (c:al) (r:RunT):Option AV :=
 (BH (.ro 1 (([.u8 a]:List AV)))).bind fun z=>(c 133 [.ag [b,d,e,f,g,i,j,k,l,m],z]).bind fun A=>(AV.aE 10 A).bind fun B=>(conv .i64 (gt B 0)).bind fun D=>(aD .eql D (.int 17)).bind fun E=>(aq E true (some (.b (aK a 60))) (.b false)).bind fun G=>ah G
 (rq r (.u8 18) (gt B 1) (gt B 2) (gt B 3) (gt B 4) (gt B 5) (gt B 6) (gt B 7) (gt B 8) (gt B 9) n o p q s t u w x y)
 (rq r (gt B 0) (gt B 1) (gt B 2) (gt B 3) (gt B 4) (gt B 5) (gt B 6) (gt B 7) (gt B 8) (gt B 9) n o p q s t u w x y)
def K3 (a b d e f g i j k l:AV) (m n:UInt8) (o:Bool) (p q s t:UInt8) (u:Bool) (w:UInt8) (x:List UInt8) (c:al) (r:RunT):Option AV :=
 some (.ag [a,b,d,e,f,g,i,j,k,l])
theorem O' (a b d e f g i j k l m n o p q s t u w x y z) {r:AV} (h:Ho a b d e f g i j k l m n o p q s t u w x y z (ae (C mx) Tryz.prog) (af (C mx) Tryz.prog 107 Tryz.f107)=some r):wX (af (C mx) Tryz.prog 107 Tryz.f107) a b d e f g i j k l m n o p q s t u w x y z=some r :=
 ak (fun _ _=>by kernel_rfl) h
theorem K4 (a b d e f g i j k l m n o p q s t u w x y) {r:AV} (h:CO a b d e f g i j k l m n o p q s t u w x y (ae (C mx) Tryz.prog) (af (C mx) Tryz.prog 107 Tryz.f107)=some r):ob (af (C mx) Tryz.prog 107 Tryz.f107) a b d e f g i j k l m n o p q s t u w x y=some r :=
 ak (fun _ _=>by kernel_rfl) h
theorem K5 (a b d e f g i j k l m n o p q s t u w x) {r:AV} (h:K3 a b d e f g i j k l m n o p q s t u w x (ae (C mx) Tryz.prog) (af (C mx) Tryz.prog 107 Tryz.f107)=some r):rq (af (C mx) Tryz.prog 107 Tryz.f107) a b d e f g i j k l m n o p q s t u w x=some r :=
 ak (fun _ _=>by kernel_rfl) h
end eA
end
