/-
  A part of InferHoles's proof: an evaluator of translated functions over plain data, what functions of this seat come to, and laws on plain data.
-/
import Derived.Test.YtgjfbalafdifgaaDoorTC
import Derived.RangeFuncNested
import Derived.RangeFuncBound
import Derived.RangeFuncCalls
import Derived.RangeFuncLeaves
import Derived.Shelf.Abstract
import Derived.Shelf.RegionOpen
import Derived.WalkKit
import Derived.OwnWalkIn
import Derived.TacticsInMore
import Derived.LoopNIn
import Derived.LoopIn
import Derived.Maps.AppendAt
import Derived.Test.YtgjfbalafdifgaaDoorProg
import Derived.Shelf.Strings.Search3
import Derived.Shelf.Vars
import Derived.Shelf.Strings.OnBuilder
import Derived.Lib.Join
set_option linter.unusedVariables false
set_option linter.unusedSimpArgs false
set_option linter.unusedSectionVars false
set_option linter.unnecessarySimpa false
namespace R3I
open Go Sx
def tyTab:List (Nat×Ty):=[
 (3,{ size:=1,bytes:=8,kd:=.int .i64,elem:=0,zero:=[.int 0],fields:=[],eqk:=none }),
 (4,{ size:=1,bytes:=1,kd:=.bool,elem:=0,zero:=[.b false],fields:=[],eqk:=none }),
 (5,{ size:=1,bytes:=1,kd:=.int .u8,elem:=0,zero:=[.u8 0],fields:=[],eqk:=none }),
 (9,{ size:=1,bytes:=16,kd:=.str,elem:=0,zero:=[.s []],fields:=[],eqk:=none }),
 (24,{ size:=1,bytes:=8,kd:=.int .i64,elem:=0,zero:=[.int 0],fields:=[],eqk:=none }),
 (32,{ size:=1,bytes:=24,kd:=.slice,elem:=9,zero:=[.nils],fields:=[],eqk:=none }),
 (34,{ size:=2,bytes:=32,kd:=.struct,elem:=0,zero:=[.b false, .nils],fields:=[(0,4),(1,32)],eqk:=none }),
 (38,{ size:=1,bytes:=24,kd:=.slice,elem:=5,zero:=[.nils],fields:=[],eqk:=none }),
 (47,{ size:=1,bytes:=24,kd:=.slice,elem:=61,zero:=[.nils],fields:=[],eqk:=none }),
 (48,{ size:=1,bytes:=24,kd:=.slice,elem:=3,zero:=[.nils],fields:=[],eqk:=none }),
 (50,{ size:=2,bytes:=48,kd:=.struct,elem:=0,zero:=[.nils, .nils],fields:=[(0,47),(1,48)],eqk:=none }),
 (58,{ size:=1,bytes:=1,kd:=.int .u8,elem:=0,zero:=[.u8 0],fields:=[],eqk:=none }),
 (59,{ size:=1,bytes:=1,kd:=.int .u8,elem:=0,zero:=[.u8 0],fields:=[],eqk:=none }),
 (61,{ size:=9,bytes:=120,kd:=.struct,elem:=0,zero:=[.u8 0, .int 0, .s [], .b false, .nils, .nils, .nils, .b false, .u8 0],fields:=[(0,58),(1,3),(2,9),(3,34),(5,48),(6,48),(7,4),(8,59)],eqk:=none }),
 (66,{ size:=1,bytes:=1,kd:=.int .u8,elem:=0,zero:=[.u8 0],fields:=[],eqk:=none }),
 (67,{ size:=1,bytes:=1,kd:=.int .u8,elem:=0,zero:=[.u8 0],fields:=[],eqk:=none }),
 (68,{ size:=1,bytes:=1,kd:=.int .u8,elem:=0,zero:=[.u8 0],fields:=[],eqk:=none }),
 (69,{ size:=1,bytes:=1,kd:=.int .u8,elem:=0,zero:=[.u8 0],fields:=[],eqk:=none }),
 (70,{ size:=1,bytes:=1,kd:=.int .u8,elem:=0,zero:=[.u8 0],fields:=[],eqk:=none }),
 (72,{ size:=10,bytes:=32,kd:=.struct,elem:=0,zero:=[.u8 0, .u8 0, .b false, .u8 0, .u8 0, .u8 0, .u8 0, .b false, .u8 0, .s []],fields:=[(0,66),(1,67),(2,4),(3,68),(4,5),(5,69),(6,70),(7,4),(8,5),(9,9)],eqk:=some [.i, .i, .b, .i, .i, .i, .i, .b, .i, .s] }),
 (79,{ size:=1,bytes:=24,kd:=.slice,elem:=59,zero:=[.nils],fields:=[],eqk:=none }),
 (81,{ size:=1,bytes:=24,kd:=.slice,elem:=86,zero:=[.nils],fields:=[],eqk:=none }),
 (84,{ size:=1,bytes:=1,kd:=.int .u8,elem:=0,zero:=[.u8 0],fields:=[],eqk:=none }),
 (86,{ size:=6,bytes:=72,kd:=.struct,elem:=0,zero:=[.u8 0, .s [], .b false, .nils, .u8 0, .int 0],fields:=[(0,84),(1,9),(2,34),(4,59),(5,3)],eqk:=none }),
 (120,{ size:=4,bytes:=64,kd:=.struct,elem:=0,zero:=[.nils, .nils, .int 0, .int 0],fields:=[(0,50),(2,3),(3,24)],eqk:=none })
]
def planTab:List ((Nat×Nat)×(Plan×List Nat)):=[((92,1),(.seq [(0,true),(1,true),(2,true),(3,true),(4,true),(5,false),(6,true),(7,false)] .done,[3])),
 ((92,12),(.seq [(0,true),(1,true),(2,true),(3,true),(4,true),(5,false),(6,true),(7,false)] .done,[3])),
 ((93,5),(.seq [(0,true),(1,true),(2,true),(3,true),(4,true),(5,false),(6,true),(7,false)] .done,[3])),
 ((93,6),(.seq [(0,true),(1,true),(2,true),(3,true),(4,true),(5,true),(6,true),(7,true),(8,true),(9,true),(10,true),(12,true),(13,true),(11,false),(14,false),(15,true),(16,true),(17,true),(18,true),(19,true),(20,true),(21,false),(22,true),(23,true)] .done,[])),
 ((113,12),(.seq [(0,true),(1,true),(2,true),(3,true),(4,true),(5,true),(6,true),(7,true),(8,false),(9,false),(10,true),(11,true),(12,false),(13,true),(14,true)] .done,[])),
 ((113,13),(.seq [(0,true),(1,true),(2,true),(3,false),(4,false),(5,true),(6,true),(7,true),(8,false)] .done,[1000008])),
 ((135,3),(.seq [(0,true),(1,true),(2,true),(3,false),(4,false),(5,true),(6,true),(7,true),(8,false)] .done,[1000008])),
 ((142,3),(.seq [(0,true),(1,true),(6,true),(2,false)] (.fork 3 (.seq [(4,true),(5,true),(7,false),(8,true),(9,false)] .done) 7 (.seq [(3,false),(4,true),(5,true),(8,true),(9,false)] .done)),[2])),
 ((144,7),(.seq [(0,true),(1,true),(2,true),(3,true),(4,true),(5,true),(6,true),(7,false),(8,false)] .done,[1000008])),
 ((47,6),(.seq [(0,true),(1,true),(2,true),(3,true),(4,true),(5,true),(6,true),(7,true),(8,true),(9,true),(10,true),(11,true),(12,true),(13,true),(14,true),(15,true),(16,true),(17,true),(18,true),(19,true),(20,true),(21,true),(22,true),(23,true),(24,true),(25,true),(26,true),(27,true),(28,true),(29,true),(30,true),(31,true),(32,true),(33,true),(34,true),(35,true),(36,true),(37,true),(38,true),(39,true),(40,true),(41,true),(42,true),(43,true),(44,true),(45,true),(46,true),(47,true),(48,true),(49,true),(50,true),(51,true),(52,true),(53,true),(54,true),(55,true),(56,true),(57,true),(58,true),(59,true),(60,true),(61,false),(62,true),(63,true)] .done,[])),
 ((52,33),(.seq [(0,true),(2,true),(5,true),(6,true),(1,false),(3,true),(4,true),(7,false),(8,true),(9,true),(10,true)] .done,[])),
 ((78,2),(.seq [(0,true),(2,true),(3,true),(1,false),(4,false),(5,true),(6,true)] .done,[])),
 ((78,4),(.seq [(0,true),(1,true),(3,true),(4,true),(2,false),(5,false),(6,true),(7,true)] .done,[])),
 ((78,7),(.seq [(0,true),(2,true),(3,true),(1,false),(4,false),(5,true),(6,true)] .done,[]))]
def stopTab:List (Nat×List (Nat×List (Nat×Option (Nat×Nat))×List (Nat×List (Nat×Nat×Nat)))):=[(51,[(6,[(1,none),(2,none)],[(1,[]),(2,[])])]),
 (68,[(11,[(1,none),(4,none)],[(1,[]),(4,[])]),(12,[(1,none),(3,none),(4,none),(48,none)],[(1,[]),(3,[]),(4,[])]),(14,[(1,none),(4,none)],[(1,[]),(4,[])]),(16,[(1,none),(3,none),(4,none),(48,none)],[(1,[]),(3,[]),(4,[])]),(27,[(1,none)],[(1,[])]),(28,[(1,none),(3,none)],[(1,[]),(3,[])])]),
 (70,[(3,[(1,none),(2,none),(3,none),(6,none)],[(3,[]),(6,[])]),(4,[(2,none),(3,none),(6,none),(14,none),(15,none),(16,none)],[(3,[]),(6,[])])]),
 (91,[(2,[(0,none),(1,none),(7,none),(8,none)],[])]),
 (92,[(12,[(2,none),(3,none)],[(2,[]),(3,[])]),(14,[(2,none),(3,none)],[(2,[]),(3,[])])]),
 (93,[(4,[(1,none),(3,none)],[(1,[]),(3,[])]),(6,[(1,none),(3,none)],[(1,[]),(3,[])])]),
 (95,[(3,[(1,none),(2,none),(3,none),(6,none)],[(3,[]),(6,[])]),(4,[(1,none),(3,none),(6,none)],[(3,[]),(6,[])]),(22,[(1,none),(2,none),(3,none),(6,none)],[(3,[]),(6,[])]),(26,[(1,none),(2,none),(3,none),(6,none),(16,none)],[(3,[]),(6,[])]),(31,[(1,none),(2,none),(3,none),(6,none)],[(3,[]),(6,[])]),(32,[(3,none),(6,none)],[(3,[]),(6,[])])]),
 (111,[(7,[(2,none),(4,none)],[(2,[]),(4,[])])]),
 (113,[(17,[(1,none),(2,none),(3,none),(6,none)],[(3,[]),(6,[])]),(22,[(3,none),(6,none)],[(3,[]),(6,[])])]),
 (114,[(4,[(1,none),(2,none),(4,none)],[(2,[]),(4,[])]),(11,[(1,none),(2,none),(4,none),(6,none)],[(2,[]),(4,[])]),(13,[(1,none),(2,none),(4,none)],[(2,[]),(4,[])]),(20,[(1,none),(2,none),(4,none),(6,none)],[(2,[]),(4,[])]),(31,[(2,none),(4,none)],[(2,[]),(4,[])])]),
 (142,[(24,[(2,none),(4,none)],[(2,[]),(4,[])])]),
 (143,[(11,[(6,none)],[(6,[])]),(23,[(1,none),(3,none),(6,none)],[(3,[]),(6,[])]),(24,[(1,none),(3,none),(6,none),(8,none)],[(3,[]),(6,[])]),(36,[(3,none),(6,none)],[(3,[]),(6,[])])]),
 (144,[(5,[(1,none),(3,none),(6,none),(19,none),(20,none)],[(3,[]),(6,[])])]),
 (150,[(13,[],[]),(14,[(0,none),(3,none)],[]),(21,[],[]),(22,[(0,none)],[])]),
 (151,[(9,[(2,none),(4,none)],[(2,[]),(4,[])])]),
 (152,[(7,[(1,none)],[(1,[])]),(8,[],[])]),
 (48,[(3,[(3,some (59,1)),(6,none),(7,none),(8,none)],[]),(7,[(3,some (59,1)),(6,none),(7,none),(8,none)],[])]),
 (49,[(3,[(3,none),(4,none),(7,none),(8,none),(9,none)],[]),(11,[(3,none),(4,none),(7,none),(8,none),(9,none)],[])]),
 (44,[(3,[(1,none),(3,some (59,1)),(4,none)],[(1,[])]),(4,[(1,none),(3,some (59,1)),(4,none)],[(1,[])])]),
 (47,[(4,[(0,none),(1,none),(5,none)],[])]),
 (69,[(2,[(0,none),(5,none),(6,none),(9,none),(10,none),(11,none)],[(5,[]),(6,[]),(26,[(0,61,9)])]),(7,[(5,none),(6,none)],[(5,[]),(6,[]),(26,[(0,61,9)])])]),
 (52,[(16,[],[]),(17,[(1,none),(9,none)],[(1,[])]),(20,[],[]),(21,[(1,none),(9,none)],[(1,[])]),(26,[(1,none)],[(1,[])]),(27,[(1,none),(9,none)],[(1,[])]),(33,[(1,none),(4,none)],[(1,[])]),(37,[(1,none)],[(1,[])]),(38,[],[])]),
 (77,[(4,[(1,none),(3,none)],[(1,[])]),(7,[(1,none),(3,none),(4,none)],[(1,[])])])]
def ownTab:List (Nat×List (Option (Nat×Nat))):=[]
def sigTab:List (Nat×Sig):=[(69,{ ps:=[.obj 0, .v, .v],objs:=[((.arg 0),[.own 61 9, .v, .v, .v])],outs:=[((.arg 0),[.own 61 9, .v, .v, .v])] }),
 (94,{ ps:=[.obj 0, .v, .v],objs:=[((.arg 0),[.own 61 9, .v, .v, .v])],outs:=[((.arg 0),[.own 61 9, .v, .v, .v])] }),
 (108,{ ps:=[.obj 0, .v, .v],objs:=[((.arg 0),[.own 61 9, .v, .v, .v])],outs:=[((.arg 0),[.own 61 9, .v, .v, .v])] })]
def truncTab:List (Nat×List Nat):=[]
def C (mx:Int):Cfg:=mkCfg tyTab planTab stopTab ownTab truncTab (fun g=>bif Nat.beq g 0 then some (10, .ag [.u8 20, .u8 0, .b false, .u8 0, .u8 0, .u8 0, .u8 0, .b false, .u8 0, .s []]) else bif Nat.beq g 1 then some (1, .int mx) else none) sigTab
end R3I

namespace R3
open Go Go.Proofs Go.RowKit Go.Shelf
def lenAt (B:Nat) (W:World):Nat:=match W.cell? ⟨B,0,none⟩ with | some (.string s)=>s.size | _=>0
theorem lenAt_eq {B:Nat} {W:World} {s:ByteArray} (h:W.cell? ⟨B,0,none⟩=some (.string s)):lenAt B W=s.size:=by unfold lenAt;rw [h]
set_option maxRecDepth 100000 in
set_option maxHeartbeats 2000000 in
theorem split1_in (n:Nat) (hn:1≤n) (l B:Nat) (idx:ByteArray→Int) (hidx:∀ s,idx s=-1∨(0≤idx s∧idx s+1≤s.size))
  (hI:∀ (s:ByteArray) (w:World),s.size≤9223372036854775807→Calls Tryd.prog 79 #[.string s, .string ⟨#[46]⟩] w fun e w'=>e=.returned (.int .i64 (idx s))∧w'=w)
  (J J':ByteArray→World→Prop) (Jx Je:World→Prop)
  (hJ:∀ s W,J s W→W.cell? ⟨B,0,none⟩=some (.string s)∧W.cell? ⟨B+1,0,none⟩=some (.string ⟨#[46]⟩)∧W.cell? ⟨B+2,0,none⟩=some (.int .i64 0)∧s.size≤9223372036854775807)
  (hJ':∀ s W,J' s W→W.cell? ⟨B,0,none⟩=some (.string s)∧W.frozen? ⟨B,0,none⟩=false∧W.cell? ⟨B+1,0,none⟩=some (.string ⟨#[46]⟩))
  (hY:∀ s W,J s W→0≤idx s→YieldAt Fence.wide (n - 1) Tryd.prog l #[.string (s.extract 0 (idx s).toNat)] W fun e W'=>(e=.returned (.bool true)∧J' s W')∨(e=.returned (.bool false)∧Jx W'))
  (hS:∀ s W,J' s W→0≤idx s→J (s.extract (idx s+1).toNat s.size) (W.setCell ⟨B,0,none⟩ (.string (s.extract (idx s+1).toNat s.size))))
  (hE:∀ s W,J s W→idx s=-1→YieldAt Fence.wide (n - 1) Tryd.prog l #[.string s] W fun e W'=>(e=.returned (.bool true)∧Je W')∨(e=.returned (.bool false)∧Jx W'))
  (W:World) (s:ByteArray) (h0:J s W) :
  CallsIn Fence.wide n Tryd.prog 102 #[.func (.yield l) #[] #[], .pointer (some ⟨B+1,0,none⟩), .pointer (some ⟨B,0,none⟩), .pointer (some ⟨B+2,0,none⟩)] W fun e W'=>(∃ v,e=.returned v)∧(Je W'∨Jx W'):=by
 refine callsIn_of_wp Tryd.func102 rfl trivial ?_ rfl
 simp only [Tryd.ntmps102,List.size_toArray,List.length_cons,List.length_nil,Nat.reduceAdd,Nat.reduceSub,Array.replicate_succ,Array.replicate_zero,List.push_toArray,List.append_toArray,List.nil_append,List.cons_append]
 obtain ⟨c1,c3,c4,c5⟩:=hJ s W h0
 gi_wp2
 gi_loopw [] (fun wr=>∃ s,J s wr) (fun wr=>lenAt B wr)
 case atStart=>exact ⟨s,h0⟩
 case round =>
  obtain ⟨s,hs⟩:=hrel
  obtain ⟨c1,c3,c4,c5⟩:=hJ s wr hs
  have hi:=hidx s
  rcases hi with hi | ⟨hi1,hi2⟩
  ·obtain ⟨fn,tmps,assign,body,hy,hR⟩:=hE s wr hs hi
   gi_wp2_with (refine ⟨trivial,?_⟩;gi_at_call 79;refine (callsIn_wide.2 (hI _ _ c5)).mono ?_;rintro e w' ⟨rfl,hw⟩;rw [hw,hi])
   refine hR.mono ?_
   rintro e W3 (⟨rfl,hk⟩ | ⟨rfl,hk⟩)
   ·gi_wp2
    go_end0
    exact ⟨⟨_,rfl⟩, .inl hk⟩
   ·gi_wp2
    go_end0
    exact ⟨⟨_,rfl⟩, .inr hk⟩
  ·obtain ⟨fn,tmps,assign,body,hy,hR⟩:=hY s wr hs hi1
   gi_wp2_with (refine ⟨trivial,?_⟩;gi_at_call 79;refine (callsIn_wide.2 (hI _ _ c5)).mono ?_;rintro e w' ⟨rfl,hw⟩;rw [hw])
   refine hR.mono ?_
   rintro e W3 (⟨rfl,hk⟩ | ⟨rfl,hk⟩)
   ·obtain ⟨d1,d2,d3⟩:=hJ' s W3 hk
    gi_wp2
    refine ⟨⟨_,hS s W3 hk hi1⟩,?_⟩
    have hc:(W3.setCell ⟨B,0,none⟩ (.string (s.extract (idx s+1).toNat s.size))).cell? ⟨B,0,none⟩=some (.string (s.extract (idx s+1).toNat s.size)):=World.cell?_setCell_same' _ _ _ (by rw [d1];rfl)
    rw [lenAt_eq hc,lenAt_eq c1]
    simp only [ByteArray.size_extract]
    omega
   ·gi_wp2
    refine bodyPost_ret (results_none rfl _ _ _) rfl ?_
    exact ⟨⟨_,rfl⟩, .inr hk⟩
end R3

namespace R3
open Go Go.Proofs Go.RowKit Go.Shelf
set_option maxRecDepth 100000
set_option maxHeartbeats 2000000
theorem split0_in (n:Nat) (s:ByteArray) (w:World) :
  CallsIn Fence.wide n Tryd.prog 84 #[.string s, .string ⟨#[46]⟩, .int .i64 0] w fun e w'=>e=.returned (.func (.func 102) #[] #[.pointer (some ⟨w.heap.size+1,0,none⟩), .pointer (some ⟨w.heap.size,0,none⟩), .pointer (some ⟨w.heap.size+2,0,none⟩)]) ∧
   w'=((w.alloc (.cells #[.string s] 9)).alloc (.cells #[.string ⟨#[46]⟩] 9)).alloc (.cells #[.int .i64 0] 3):=by
 refine callsIn_of_wp Tryd.func84 rfl trivial ?_ rfl
 simp only [Tryd.ntmps84,List.size_toArray,List.length_cons,List.length_nil,Nat.reduceAdd,Nat.reduceSub,Array.replicate_succ,Array.replicate_zero,List.push_toArray,List.append_toArray,List.nil_append,List.cons_append]
 gi_wp2
 go_ret
 exact ⟨rfl,rfl⟩
theorem splitSeq_in (n:Nat) (hn:1≤n) (s:ByteArray) (w:World) :
  CallsIn Fence.wide n Tryd.prog 60 #[.string s, .string ⟨#[46]⟩] w fun e w'=>e=.returned (.func (.func 102) #[] #[.pointer (some ⟨w.heap.size+1,0,none⟩), .pointer (some ⟨w.heap.size,0,none⟩), .pointer (some ⟨w.heap.size+2,0,none⟩)]) ∧
   w'=((w.alloc (.cells #[.string s] 9)).alloc (.cells #[.string ⟨#[46]⟩] 9)).alloc (.cells #[.int .i64 0] 3):=by
 refine callsIn_of_wp Tryd.func60 rfl trivial ?_ rfl
 simp only [Tryd.ntmps60,List.size_toArray,List.length_cons,List.length_nil,Nat.reduceAdd,Nat.reduceSub,Array.replicate_succ,Array.replicate_zero,List.push_toArray,List.append_toArray,List.nil_append,List.cons_append]
 gi_wp2_with (refine ⟨trivial,?_⟩;gi_at_call 84;refine (split0_in _ _ _).mono ?_;rintro e w' ⟨rfl,hw⟩;rw [hw])
 go_ret
 exact ⟨rfl,rfl⟩
end R3

namespace R3
open Go Go.Proofs Go.RowKit Go.Shelf
def ownPostS (I' Ix:World→Prop) (W:World):Exit→Act→World→Prop
 | .normal,_,W'=>KeepsOthers W W'∧I' W'
 | .ret,_,W'=>KeepsOthers W W'∧Ix W'
 | _,_,_=>False
theorem wpIn_rangeFunc_split {g:Operand} {p:Tmp} {assign body:Code} {Q:Exit→Act→World→Prop} {a:Act} {w:World} {n:Nat} (h1:1≤n) (h2:1≤n - 1) {B:Nat} (hB:B+2 < w.heap.size)
  (hg:a.eval g=.func (.func 102) #[] #[.pointer (some ⟨B+1,0,none⟩), .pointer (some ⟨B,0,none⟩), .pointer (some ⟨B+2,0,none⟩)])
  (idx:ByteArray→Int) (hidx:∀ s,idx s=-1∨(0≤idx s∧idx s+1≤s.size))
  (hI:∀ (s:ByteArray) (w:World),s.size≤9223372036854775807→Calls Tryd.prog 79 #[.string s, .string ⟨#[46]⟩] w fun e w'=>e=.returned (.int .i64 (idx s))∧w'=w)
  (I I':ByteArray→World→Prop) (Ix Ie:World→Prop)
  (hput:∀ (G:World→Prop),(G=Ix∨G=Ie∨∃ s,G=I s∨G=I' s)→∀ (W:World) (l:Nat) (o o':Obj),w.heap.size≤l→W.heap[l]?=some o→o.isCells=false→G W→G (W.putObj l o'))
  (halloc:∀ (s:ByteArray) (W:World) (o:Obj),I s W→I s (W.alloc o))
  (hJ:∀ s W,I s W→W.cell? ⟨B,0,none⟩=some (.string s)∧W.cell? ⟨B+1,0,none⟩=some (.string ⟨#[46]⟩)∧W.cell? ⟨B+2,0,none⟩=some (.int .i64 0)∧s.size≤9223372036854775807)
  (hJ':∀ s W,I' s W→W.cell? ⟨B,0,none⟩=some (.string s)∧W.frozen? ⟨B,0,none⟩=false∧W.cell? ⟨B+1,0,none⟩=some (.string ⟨#[46]⟩))
  (hS:∀ s W,I' s W→0≤idx s→I (s.extract (idx s+1).toNat s.size) (W.setCell ⟨B,0,none⟩ (.string (s.extract (idx s+1).toNat s.size))))
  (a₁:ByteArray→Act)
  (hassign:∀ (l:Nat) (x:ByteArray) (W:World) (K:Act→World→Prop),K (a₁ x) W →
   assign.wpIn (Fence.wide.inRound l) (n - 1 - 1) Tryd.prog (Exit.then K (fun _ _ _=>False)) { tmps:=((#[p]:Array Tmp).zip #[.string x]).foldl (fun t (p,v)=>t.setIfInBounds p v) a.tmps,defers:=[] } W)
  (hbody:∀ (l:Nat) (s:ByteArray) (W:World),I s W→0≤idx s→body.wpIn (Fence.wide.inRound l) (n - 1 - 1) Tryd.prog (ownPostS (I' s) Ix W) (a₁ (s.extract 0 (idx s).toNat)) W)
  (hlast:∀ (l:Nat) (s:ByteArray) (W:World),I s W→idx s=-1→body.wpIn (Fence.wide.inRound l) (n - 1 - 1) Tryd.prog (ownPostS Ie Ix W) (a₁ s) W)
  (s0:ByteArray) (h0:I s0 w)
  (hdone:∀ (D:Nat) (W:World),w.heap.size≤D→Ie W→W.heap[D]?=some (.deferred (some []))→Q .normal { a with defers:={ target:=.collected D,args := #[] } :: a.defers } W)
  (hstop:∀ (D:Nat) (W:World),w.heap.size≤D→Ix W→W.heap[D]?=some (.deferred (some []))→Code.ret.wpIn Fence.wide n Tryd.prog Q { a with defers:={ target:=.collected D,args := #[] } :: a.defers } W) :
  (Code.rangeFunc g #[p] assign body).wpIn Fence.wide n Tryd.prog Q a w:=by
 refine wpIn_rangeFunc ?_
 intro fn hfn
 obtain ⟨rec,hrec⟩:∃ rec:LoopState→Option Code→Loop,rec=fun st pe=>{ state:=st,pending:=pe,fn,tmps:=a.tmps,params := #[p],assign,body,defers:=w.heap.size }:=⟨_,rfl⟩
 obtain ⟨W1,hW1⟩:∃ W1,(w.alloc (.deferred (some []))).alloc (.loop (rec .ready none))=W1:=⟨_,rfl⟩
 have hL1:W1.heap[w.heap.size+1]?=some (.loop (rec .ready none)):=by
  rw [← hW1];have:=World.alloc_heap_new (w.alloc (.deferred (some []))) (.loop (rec .ready none));rwa [World.size_alloc] at this
 have hK1:W1.heap[w.heap.size]?=some (.deferred (some [])):=by
  rw [← hW1];exact (Below.heap_alloc _ _ _ (by simp)).trans (World.alloc_heap_new w _)
 have hI1:I s0 W1:=by rw [← hW1];exact halloc _ _ _ (halloc _ _ _ h0)
 refine ⟨w.heap.size+1,[{ target:=.collected w.heap.size,args := #[] }],W1,{ target:=.fn (.func 102) #[.pointer (some ⟨B+1,0,none⟩), .pointer (some ⟨B,0,none⟩), .pointer (some ⟨B+2,0,none⟩)],args := #[.func (.yield (w.heap.size+1)) #[] #[]] },W1,102,
  #[.func (.yield (w.heap.size+1)) #[] #[]] ++ #[.pointer (some ⟨B+1,0,none⟩), .pointer (some ⟨B,0,none⟩), .pointer (some ⟨B+2,0,none⟩)],W1,?_,?_,?_,?_,fun _=>h1,?_⟩
 ·rw [← hW1,hrec];exact run_enterLoop_outer _ _ _ _ _
 ·simp only [resolve,hg]
  simp [go_sem]
 ·intro f' hf';trivial
 ·simp [invoke,go_sem,enters_of Tryd.func102 (by kernel_rfl) rfl]
 ·
  have round:∀ (x:ByteArray) (G G':World→Prop) (W:World),G W→(∀ (l:Nat) (o o':Obj),w.heap.size≤l→W.heap[l]?=some o→o.isCells=false→G (W.putObj l o')) →
    (∀ (W:World) (l:Nat) (o o':Obj),w.heap.size≤l→W.heap[l]?=some o→o.isCells=false→G' W→G' (W.putObj l o')) →
    (∀ W,G W→body.wpIn (Fence.wide.inRound (w.heap.size+1)) (n - 1 - 1) Tryd.prog (ownPostS G' Ix W) (a₁ x) W) →
    W.heap[w.heap.size+1]?=some (.loop (rec .ready none))→W.heap[w.heap.size]?=some (.deferred (some [])) →
    YieldAt Fence.wide (n - 1 - 1) Tryd.prog (w.heap.size+1) #[.string x] W fun e W' =>
     (e=.returned (.bool true)∧G' W'∧W'.heap[w.heap.size+1]?=some (.loop (rec .ready none))∧W'.heap[w.heap.size]?=some (.deferred (some []))) ∨
     (e=.returned (.bool false)∧Ix W'∧W'.heap[w.heap.size+1]?=some (.loop (rec .done (some .ret)))∧W'.heap[w.heap.size]?=some (.deferred (some []))):=by
   intro x G G' W hi hputG hputG' hb hl hk
   have hlt:w.heap.size+1 < W.heap.size:=(Array.getElem?_eq_some_iff.1 hl).1
   have hy:=run_yield (P:=Tryd.prog) (args := #[.string x]) hl (by rw [hrec];rfl)
   rw [hrec] at hy
   refine ⟨fn,_,assign,body,hy,roundIn_of_wpIn hfn (hassign _ x W _ ⟨_,run_beginRound hl (by rw [hrec]),?_⟩)⟩
   have hl2:(W.putObj (w.heap.size+1) (.loop { rec .ready none with state:=.busy })).heap[w.heap.size+1]?=some (.loop { rec .ready none with state:=.busy }):=World.putObj_heap_same hlt
   have hk2:(W.putObj (w.heap.size+1) (.loop { rec .ready none with state:=.busy })).heap[w.heap.size]?=some (.deferred (some [])):=(World.putObj_heap_other (by omega)).trans hk
   refine wpIn_mono (hb _ (hputG _ _ _ (by omega) hl rfl)) ?_
   have fin:∀ (jump:Option Code) (W3:World),KeepsOthers (W.putObj (w.heap.size+1) (.loop { rec .ready none with state:=.busy })) W3 →
     (Instr.endRound (w.heap.size+1) jump).run Tryd.prog W3=.ok (.bool jump.isNone) (W3.putObj (w.heap.size+1) (.loop (rec (if jump.isNone then .ready else .done) jump))) ∧
     W3.heap[w.heap.size+1]?=some (.loop { rec .ready none with state:=.busy }) ∧
     (W3.putObj (w.heap.size+1) (.loop (rec (if jump.isNone then .ready else .done) jump))).heap[w.heap.size+1]?=some (.loop (rec (if jump.isNone then .ready else .done) jump)) ∧
     (W3.putObj (w.heap.size+1) (.loop (rec (if jump.isNone then .ready else .done) jump))).heap[w.heap.size]?=some (.deferred (some [])):=fun jump W3 hk3=>by
    have hl3:=hk3.same _ _ hl2 rfl
    have:=run_endRound (P:=Tryd.prog) jump hl3
    rw [hrec] at this ⊢
    exact ⟨this,by rw [hrec] at hl3;exact hl3,World.putObj_heap_same (Array.getElem?_eq_some_iff.1 hl3).1,(World.putObj_heap_other (by omega)).trans (hk3.same _ _ hk2 rfl)⟩
   rintro e a3 W3 hp
   cases e with
   | normal =>
    obtain ⟨hk3,hi3⟩:=hp
    obtain ⟨hr,hl3,hl4,hk4⟩:=fin none W3 hk3
    exact ⟨_,_,hr, .inl ⟨rfl,hputG' _ _ _ _ (by omega) hl3 rfl hi3,hl4,hk4⟩⟩
   | ret =>
    obtain ⟨hk3,hi3⟩:=hp
    obtain ⟨hr,hl3,hl4,hk4⟩:=fin (some .ret) W3 hk3
    exact ⟨_,_,hr, .inr ⟨rfl,hput Ix (.inl rfl) _ _ _ _ (by omega) hl3 rfl hi3,hl4,hk4⟩⟩
   | exit id=>exact hp.elim
   | goto t=>exact hp.elim
   | panic ch=>exact hp.elim
   | outgrown=>exact hp.elim
  refine (split1_in (n - 1) h2 (w.heap.size+1) B idx hidx hI
   (fun s W=>I s W∧W.heap[w.heap.size+1]?=some (.loop (rec .ready none))∧W.heap[w.heap.size]?=some (.deferred (some [])))
   (fun s W=>I' s W∧W.heap[w.heap.size+1]?=some (.loop (rec .ready none))∧W.heap[w.heap.size]?=some (.deferred (some [])))
   (fun W=>Ix W∧W.heap[w.heap.size+1]?=some (.loop (rec .done (some .ret)))∧W.heap[w.heap.size]?=some (.deferred (some [])))
   (fun W=>Ie W∧W.heap[w.heap.size+1]?=some (.loop (rec .ready none))∧W.heap[w.heap.size]?=some (.deferred (some [])))
   (fun s W h=>hJ s W h.1) (fun s W h=>hJ' s W h.1) ?_ ?_ ?_ W1 s0 ⟨hI1,hL1,hK1⟩).mono ?_
  ·rintro s W ⟨hi,hl,hk⟩ hx
   exact round _ (I s) (I' s) W hi (fun l o o' q1 q2 q3=>hput _ (.inr (.inr ⟨s, .inl rfl⟩)) W l o o' q1 q2 q3 hi) (hput _ (.inr (.inr ⟨s, .inr rfl⟩))) (fun W hi=>hbody _ s W hi hx) hl hk
  ·rintro s W ⟨hi,hl,hk⟩ hx
   refine ⟨hS s W hi hx,?_,?_⟩
   ·rw [Below.heap_setCell _ _ _ _ (by show w.heap.size+1≠B;omega)];exact hl
   ·rw [Below.heap_setCell _ _ _ _ (by show w.heap.size≠B;omega)];exact hk
  ·rintro s W ⟨hi,hl,hk⟩ hx
   exact round _ (I s) Ie W hi (fun l o o' q1 q2 q3=>hput _ (.inr (.inr ⟨s, .inl rfl⟩)) W l o o' q1 q2 q3 hi) (hput _ (.inr (.inl rfl))) (fun W hi=>hlast _ s W hi hx) hl hk
  ·
   rintro e W2 ⟨⟨v,rfl⟩,(⟨hi,hl,hk⟩ | ⟨hi,hl,hk⟩)⟩
   ·exact ⟨none,_,by have:=run_endLoop (P:=Tryd.prog) hl (by rw [hrec];simp);rw [hrec] at this;exact this,hdone _ _ (Nat.le_refl _) (hput _ (.inr (.inl rfl)) _ _ _ _ (by omega) hl rfl hi) ((World.putObj_heap_other (by omega)).trans hk)⟩
   ·exact ⟨some .ret,_,by have:=run_endLoop (P:=Tryd.prog) hl (by rw [hrec];simp);rw [hrec] at this;exact this,hstop _ _ (Nat.le_refl _) (hput _ (.inl rfl) _ _ _ _ (by omega) hl rfl hi) ((World.putObj_heap_other (by omega)).trans hk)⟩
end R3

namespace R3
open Go Go.Proofs Go.RowKit Go.Shelf
set_option maxRecDepth 100000
set_option maxHeartbeats 4000000
inductive Sp (idx:ByteArray→Int):ByteArray→List ByteArray→Prop
 | last (s:ByteArray) (h:idx s=-1):Sp idx s [s]
 | more (s:ByteArray) (h:0≤idx s) (R:List ByteArray) (hR:Sp idx (s.extract (idx s+1).toNat s.size) R):Sp idx s (s.extract 0 (idx s).toNat :: R)
theorem Sp.total (idx:ByteArray→Int) (hidx:∀ s,idx s=-1∨(0≤idx s∧idx s+1≤s.size)) (s:ByteArray):∃ L,Sp idx s L:=by
 generalize hn:s.size=n
 induction n using Nat.strongRecOn generalizing s with
 | _ n ih =>
  rcases hidx s with h | ⟨h1,h2⟩
  ·exact ⟨_, .last s h⟩
  ·obtain ⟨R,hR⟩:=ih (s.extract (idx s+1).toNat s.size).size (by simp only [ByteArray.size_extract];omega) _ rfl
   exact ⟨_, .more s h1 R hR⟩
theorem Sp.cons {idx:ByteArray→Int} {s:ByteArray} {L:List ByteArray} (h:Sp idx s L):∃ x L',L=x :: L':=by cases h <;> exact ⟨_,_,rfl⟩
theorem Sp.len {idx:ByteArray→Int} (hidx:∀ s,idx s=-1∨(0≤idx s∧idx s+1≤s.size)) {s:ByteArray} {L:List ByteArray} (h:Sp idx s L):L.length≤s.size+1:=by
 induction h with
 | last s h=>simp
 | more s h R hR ih =>
  have:=hidx s
  simp only [ByteArray.size_extract] at ih
  simp only [List.length_cons]
  omega
structure WayMem (N:Nat) (w:World) (root:Bool) (sv:Value) (pre:List ByteArray) (rest:ByteArray) (W:World):Prop where
 below:Below N w W
 size:N+6≤W.heap.size
 r0:W.heap[N]?=some (.cells #[.bool false, .slice none 0 0] 34)
 r1:W.heap[N+1]?=some (.cells #[.bool false] 4)
 wv:W.heap[N+1+1]?=some (.cells #[.bool root,sv] 34)
 bs:W.heap[N+1+1+1]?=some (.cells #[.string rest] 9)
 bp:W.heap[N+1+1+1+1]?=some (.cells #[.string ⟨#[46]⟩] 9)
 bk:W.heap[N+1+1+1+2]?=some (.cells #[.int .i64 0] 3)
 row:W.ownsRow (N+6) 9 1 sv pre.length (pre.map .string)
theorem cell1 {W:World} {b:Nat} {x:Value} {t:TypeId} (h:W.heap[b]?=some (.cells #[x] t)):W.cell? ⟨b,0,none⟩=some x∧W.frozen? ⟨b,0,none⟩=false:=by simp [World.cell?,World.frozen?,h]
theorem cell2 {W:World} {b:Nat} {x y:Value} {t:TypeId} (h:W.heap[b]?=some (.cells #[x,y] t)):W.cell? ⟨b,0,none⟩=some x∧W.cell? ⟨b,1,none⟩=some y∧W.frozen? ⟨b,0,none⟩=false∧W.frozen? ⟨b,1,none⟩=false:=by simp [World.cell?,World.frozen?,h]
theorem al_new' {w:World} {o:Obj} {i:Nat} (h:i=w.heap.size):(w.alloc o).heap[i]?=some o:=by subst h;exact World.alloc_heap_new w o
theorem al_old' {w:World} {o:Obj} {i:Nat} (h:i < w.heap.size):(w.alloc o).heap[i]?=w.heap[i]?:=Below.heap_alloc w o i h
theorem own_ge {W:World} {base:Nat} {e:TypeId} {size:Nat} {v:Value} {k:Nat} {xs:List Value} (h:W.ownsRow base e size v k xs) {j:Nat} (hj:v.ownBlock=some j):base≤j∧∃ o:Obj,W.heap[j]?=some o∧o.isCells=true:=by
 rcases h.2 with ⟨rfl,_⟩ | ⟨g,cap,cur,rfl,hb,hgb,_⟩
 ·simp [Value.ownBlock] at hj
 ·obtain rfl:g=j:=by simpa [Value.ownBlock] using hj
  exact ⟨hb,_,hgb,rfl⟩
theorem set_other {W:World} {b k:Nat} {i:Nat} {v:Value} (h:k≠b):(W.setCell ⟨b,i,none⟩ v).heap[k]?=W.heap[k]?:=Below.heap_setCell W _ v k h
theorem grownBy_set (W:World) (b i:Nat) (v:Value):W.grownBy (W.setCell ⟨b,i,none⟩ v) (some b) :=
 ⟨rfl,rfl,rfl,(KeepsWalks.setCell W _ v).size,fun k _ hk=>set_other (fun e=>hk (by rw [e]))⟩
theorem set_second {W:World} {b:Nat} {x y:Value} {t:TypeId} (v:Value) (h:W.heap[b]?=some (.cells #[x,y] t)):(W.setCell ⟨b,1,none⟩ v).heap[b]?=some (.cells #[x,v] t):=by
 obtain ⟨hlt,hk⟩:=Array.getElem?_eq_some_iff.1 h
 show (W.heap.modify b _)[b]?=_
 rw [Array.getElem?_eq_getElem (by rw [Array.size_modify];exact hlt),Array.getElem_modify_self,hk]
 rfl
theorem set_only {W:World} {b:Nat} {x:Value} {t:TypeId} (v:Value) (h:W.heap[b]?=some (.cells #[x] t)):(W.setCell ⟨b,0,none⟩ v).heap[b]?=some (.cells #[v] t):=by
 obtain ⟨hlt,hk⟩:=Array.getElem?_eq_some_iff.1 h
 show (W.heap.modify b _)[b]?=_
 rw [Array.getElem?_eq_getElem (by rw [Array.size_modify];exact hlt),Array.getElem_modify_self,hk]
 rfl
theorem set_size (W:World) (a:Addr) (v:Value):(W.setCell a v).heap.size=W.heap.size:=by show (W.heap.modify _ _).size=_;rw [Array.size_modify]
theorem WayMem.appended {N:Nat} {w:World} {root:Bool} {sv:Value} {pre:List ByteArray} {rest:ByteArray} {W w1:World} (hm:WayMem N w root sv pre rest W) {tmp:Obj} {v':Value} {x:ByteArray}
  (hown':w1.ownsRow (N+6) 9 1 v' (pre.length+1) (pre.map .string ++ [.string x])) (hgrow:(W.alloc tmp).grownBy w1 sv.ownBlock) :
  w1.heap[N+1+1]?=some (.cells #[.bool root,sv] 34)∧KeepsOthers W (w1.setCell ⟨N+1+1,1,none⟩ v')∧WayMem N w root v' (pre ++ [x]) rest (w1.setCell ⟨N+1+1,1,none⟩ v'):=by
 have old:∀ k,k < N+6→w1.heap[k]?=W.heap[k]?:=fun k hk=>by
  have hsz:=hm.size
  rw [hgrow.block k (by simp;omega) (fun e=>by have:=(own_ge hm.row e.symm).1;omega)]
  exact al_old' (by omega)
 have old2:∀ k,k < N+6→k≠N+1+1→(w1.setCell ⟨N+1+1,1,none⟩ v').heap[k]?=W.heap[k]?:=fun k hk hne=>(set_other hne).trans (old k hk)
 have hwv:w1.heap[N+1+1]?=some (.cells #[.bool root,sv] 34):=(old _ (by omega)).trans hm.wv
 refine ⟨hwv,?_,?_⟩
 ·refine ((KeepsOthers.alloc W tmp).trans (KeepsOthers.of_grownBy hgrow fun j o ej hj=>?_)).trans (KeepsOthers.setCell _ _ _)
  obtain ⟨_,o',h1,h2⟩:=own_ge (hm.row.alloc tmp) ej
  rw [h1] at hj;cases hj;exact h2
 ·have hb:Below N W (w1.setCell ⟨N+1+1,1,none⟩ v'):=by
   refine (((Below.refl N W).alloc (by have:=hm.size;omega) tmp).grown hgrow (by simp;have:=hm.size;omega) fun j ej=>?_).setCell (p:=⟨N+1+1,1,none⟩) (by show N≤N+1+1;omega) v'
   have:=(own_ge hm.row ej).1;omega
  exact {
   below:=hm.below.trans hb
   size:=by have:=hm.size;have:=hb.size;omega
   r0:=(old2 _ (by omega) (by omega)).trans hm.r0
   r1:=(old2 _ (by omega) (by omega)).trans hm.r1
   wv:=set_second v' hwv
   bs:=(old2 _ (by omega) (by omega)).trans hm.bs
   bp:=(old2 _ (by omega) (by omega)).trans hm.bp
   bk:=(old2 _ (by omega) (by omega)).trans hm.bk
   row:=by
    have:=hown'.kept (grownBy_set w1 (N+1+1) 1 v') (.inr fun e=>by have:=(own_ge hown' e).1;omega)
    simpa using this }
theorem WayMem.below_put {N:Nat} {w W:World} (hb:Below N w W) {l:Nat} {o:Obj} (o':Obj) (hl:N≤l) (hlo:W.heap[l]?=some o):Below N w (W.putObj l o') :=
 hb.trans ((Below.refl N W).grown (grownBy_putObj' W l o') (by have:=(Array.getElem?_eq_some_iff.1 hlo).1;omega) fun j ej=>by cases ej;exact hl)
theorem WayMem.put {N:Nat} {w:World} {root:Bool} {sv:Value} {pre:List ByteArray} {rest:ByteArray} {W:World} (hm:WayMem N w root sv pre rest W) {l:Nat} {o:Obj} (o':Obj) (hl:N+6≤l) (hlo:W.heap[l]?=some o) (hoc:o.isCells=false):WayMem N w root sv pre rest (W.putObj l o') where
 below:=WayMem.below_put hm.below o' (by omega) hlo
 size:=by simpa using hm.size
 r0:=(World.putObj_heap_other (by omega)).trans hm.r0
 r1:=(World.putObj_heap_other (by omega)).trans hm.r1
 wv:=(World.putObj_heap_other (by omega)).trans hm.wv
 bs:=(World.putObj_heap_other (by omega)).trans hm.bs
 bp:=(World.putObj_heap_other (by omega)).trans hm.bp
 bk:=(World.putObj_heap_other (by omega)).trans hm.bk
 row:=ownsRow_putObj hm.row o' hlo hoc
theorem WayMem.alloc {N:Nat} {w:World} {root:Bool} {sv:Value} {pre:List ByteArray} {rest:ByteArray} {W:World} (hm:WayMem N w root sv pre rest W) (o:Obj):WayMem N w root sv pre rest (W.alloc o) where
 below:=hm.below.alloc (by have:=hm.size;omega) _
 size:=by have:=hm.size;simp;omega
 r0:=(al_old' (by have:=hm.size;omega)).trans hm.r0
 r1:=(al_old' (by have:=hm.size;omega)).trans hm.r1
 wv:=(al_old' (by have:=hm.size;omega)).trans hm.wv
 bs:=(al_old' (by have:=hm.size;omega)).trans hm.bs
 bp:=(al_old' (by have:=hm.size;omega)).trans hm.bp
 bk:=(al_old' (by have:=hm.size;omega)).trans hm.bk
 row:=hm.row.alloc o
theorem WayMem.set {N:Nat} {w:World} {root:Bool} {sv:Value} {pre:List ByteArray} {rest:ByteArray} {W:World} (hm:WayMem N w root sv pre rest W) (rest':ByteArray):WayMem N w root sv pre rest' (W.setCell ⟨N+1+1+1,0,none⟩ (.string rest')) where
 below:=hm.below.trans ((Below.refl N W).setCell (p:=⟨N+1+1+1,0,none⟩) (by show N≤N+1+1+1;omega) _)
 size:=by rw [set_size];exact hm.size
 r0:=(set_other (by omega)).trans hm.r0
 r1:=(set_other (by omega)).trans hm.r1
 wv:=(set_other (by omega)).trans hm.wv
 bs:=set_only _ hm.bs
 bp:=(set_other (by omega)).trans hm.bp
 bk:=(set_other (by omega)).trans hm.bk
 row:=hm.row.kept (grownBy_set W (N+1+1+1) 0 _) (.inr fun e=>by have:=(own_ge hm.row e).1;omega)
theorem set_both {W:World} {b:Nat} {x y:Value} {t:TypeId} (u v:Value) (h:W.heap[b]?=some (.cells #[x,y] t)):((W.setCell ⟨b,0,none⟩ u).setCell ⟨b,1,none⟩ v).heap[b]?=some (.cells #[u,v] t):=by
 refine set_second v (x:=u) (y:=y) ?_
 obtain ⟨hlt,hk⟩:=Array.getElem?_eq_some_iff.1 h
 show (W.heap.modify b _)[b]?=_
 rw [Array.getElem?_eq_getElem (by rw [Array.size_modify];exact hlt),Array.getElem_modify_self,hk]
 rfl
theorem WayMem.failed {N:Nat} {w:World} {root:Bool} {sv:Value} {pre:List ByteArray} {rest:ByteArray} {W:World} (hm:WayMem N w root sv pre rest W) {A:Prop} (hA:A) :
  KeepsOthers W (((W.setCell ⟨N,0,none⟩ (.bool false)).setCell ⟨N,1,none⟩ (.slice none 0 0)).setCell ⟨N+1,0,none⟩ (.bool false))∧A∧Below N w (((W.setCell ⟨N,0,none⟩ (.bool false)).setCell ⟨N,1,none⟩ (.slice none 0 0)).setCell ⟨N+1,0,none⟩ (.bool false)) ∧
   (((W.setCell ⟨N,0,none⟩ (.bool false)).setCell ⟨N,1,none⟩ (.slice none 0 0)).setCell ⟨N+1,0,none⟩ (.bool false)).heap[N]?=some (.cells #[.bool false, .slice none 0 0] 34) ∧
   (((W.setCell ⟨N,0,none⟩ (.bool false)).setCell ⟨N,1,none⟩ (.slice none 0 0)).setCell ⟨N+1,0,none⟩ (.bool false)).heap[N+1]?=some (.cells #[.bool false] 4) :=
 ⟨((KeepsOthers.setCell _ _ _).trans (KeepsOthers.setCell _ _ _)).trans (KeepsOthers.setCell _ _ _),hA,
  hm.below.trans ((((Below.refl N W).setCell (p:=⟨N,0,none⟩) (Nat.le_refl _) _).setCell (p:=⟨N,1,none⟩) (Nat.le_refl _) _).setCell (p:=⟨N+1,0,none⟩) (by show N≤N+1;omega) _),
  (set_other (by omega)).trans (set_both _ _ hm.r0),set_only _ ((set_other (by omega)).trans ((set_other (by omega)).trans hm.r1))⟩
theorem WayMem.stored {N:Nat} {w:World} {root:Bool} {sv:Value} {pre:List ByteArray} {rest:ByteArray} {W:World} (hm:WayMem N w root sv pre rest W) (u v b:Value) :
  KeepsOthers W (((W.setCell ⟨N,0,none⟩ u).setCell ⟨N,1,none⟩ v).setCell ⟨N+1,0,none⟩ b)∧Below N w (((W.setCell ⟨N,0,none⟩ u).setCell ⟨N,1,none⟩ v).setCell ⟨N+1,0,none⟩ b) ∧
   (((W.setCell ⟨N,0,none⟩ u).setCell ⟨N,1,none⟩ v).setCell ⟨N+1,0,none⟩ b).heap[N]?=some (.cells #[u,v] 34) ∧
   (((W.setCell ⟨N,0,none⟩ u).setCell ⟨N,1,none⟩ v).setCell ⟨N+1,0,none⟩ b).heap[N+1]?=some (.cells #[b] 4) ∧
   (((W.setCell ⟨N,0,none⟩ u).setCell ⟨N,1,none⟩ v).setCell ⟨N+1,0,none⟩ b).ownsRow (N+6) 9 1 sv pre.length (pre.map .string):=by
 have hne:∀ k,k < N+6→some k≠sv.ownBlock:=fun k hk e=>by have:=(own_ge hm.row e.symm).1;omega
 exact ⟨((KeepsOthers.setCell _ _ _).trans (KeepsOthers.setCell _ _ _)).trans (KeepsOthers.setCell _ _ _),
  hm.below.trans ((((Below.refl N W).setCell (p:=⟨N,0,none⟩) (Nat.le_refl _) _).setCell (p:=⟨N,1,none⟩) (Nat.le_refl _) _).setCell (p:=⟨N+1,0,none⟩) (by show N≤N+1;omega) _),
  (set_other (by omega)).trans (set_both _ _ hm.r0),set_only _ ((set_other (by omega)).trans ((set_other (by omega)).trans hm.r1)),
  ((hm.row.kept (grownBy_set W N 0 u) (.inr (hne N (by omega)).symm)).kept (grownBy_set _ N 1 v) (.inr (hne N (by omega)).symm)).kept (grownBy_set _ (N+1) 0 b) (.inr (hne (N+1) (by omega)).symm)⟩
theorem row_base {W:World} {base base':Nat} {e:TypeId} {size:Nat} {v:Value} {k:Nat} {xs:List Value} (h:W.ownsRow base e size v k xs) (hb:base'≤base):W.ownsRow base' e size v k xs:=by
 refine ⟨h.1,?_⟩
 rcases h.2 with q | ⟨g,cap,cur,q1,q2,q3⟩
 ·exact .inl q
 ·exact .inr ⟨g,cap,cur,q1,Nat.le_trans hb q2,q3⟩
theorem results27 (T:Array Value) (W:World) (N:Nat) (x y b:Value) (t2:T[2]?.getD undef=.pointer (some ⟨N,0,none⟩)) (t3:T[3]?.getD undef=.pointer (some ⟨N+1,0,none⟩))
  (h0:W.heap[N]?=some (.cells #[x,y] 34)) (h1:W.heap[N+1]?=some (.cells #[b] 4)) :
  (results Tryd.f27 T).run Tryd.prog W=.ok (.tuple #[.agg #[x,y],b]) W:=by
 have hr:Tryd.f27.results = #[.cell 2 34, .cell 3 4]:=by kernel_rfl
 have l1:(loadVar 34 ⟨N,0,none⟩).run Tryd.prog W=.ok (.agg #[x,y]) W:=by
  simp [loadVar,go_sem,(cell2 h0).1,(cell2 h0).2.1,Result.andThen]
 have l2:(loadVar 4 ⟨N+1,0,none⟩).run Tryd.prog W=.ok b W:=by
  simp [loadVar,go_sem,(cell1 h1).1]
 unfold results
 rw [hr]
 simp [t2,t3,Sem.run_bind,asAddr,l1,l2,Result.andThen]
theorem info9:(Tryd.prog.info? 9).map (fun i=>(i.zero,i.size,i.bytes))=some (some (.string ⟨#[]⟩),1,16):=by kernel_rfl
def WayPost (idx:ByteArray→Int) (nm pfx:ByteArray→Bool) (N:Nat) (s:ByteArray) (v:Value) (W:World):Prop :=
 ((s.toList == [46])=true∧v=.tuple #[.agg #[.bool false, .slice none 0 0], .bool true]) ∨
 ((s.toList == [46])=false∧(s.toList == [36])=true∧v=.tuple #[.agg #[.bool true, .slice none 0 0], .bool true]) ∨
 ((s.toList == [46])=false∧(s.toList == [36])=false∧∃ L,Sp idx (if pfx s then s.extract 2 s.size else s) L ∧
  (((L.all nm=false∨8 < L.length)∧v=.tuple #[.agg #[.bool false, .slice none 0 0], .bool false]) ∨
   (L.all nm=true∧L.length≤8∧∃ sv,v=.tuple #[.agg #[.bool (pfx s),sv], .bool true]∧W.ownsRow N 9 1 sv L.length (L.map .string))))
theorem way_in (n:Nat) (hn:4≤n) (idx:ByteArray→Int) (nm pfx:ByteArray→Bool) (hpfx:∀ s,pfx s=true→2≤s.size) (hidx:∀ s,idx s=-1∨(0≤idx s∧idx s+1≤s.size))
  (hP:∀ (s:ByteArray) (w:World),Calls Tryd.prog 59 #[.string s, .string ⟨#[36,46]⟩] w fun e w'=>e=.returned (.bool (pfx s))∧w'=w)
  (hI:∀ (s:ByteArray) (w:World),s.size≤9223372036854775807→Calls Tryd.prog 79 #[.string s, .string ⟨#[46]⟩] w fun e w'=>e=.returned (.int .i64 (idx s))∧w'=w)
  (hN:∀ (s:ByteArray) (w:World),s.size≤9223372036854775807→Calls Tryd.prog 29 #[.string s] w fun e w'=>e=.returned (.bool (nm s))∧w'=w)
  (s:ByteArray) (hs:s.size≤1000000000) (w:World) :
  CallsIn Fence.wide n Tryd.prog 27 #[.string s] w fun e w'=>∃ v,e=.returned v∧Below w.heap.size w w'∧WayPost idx nm pfx w.heap.size s v w':=by
 have h1:1≤n - 1:=by omega
 have h0:1≤n:=by omega
 have h2:1≤n - 1 - 1:=by omega
 refine callsIn_of_wp_marks Tryd.func27 rfl trivial ?_ rfl
 simp only [Tryd.ntmps27,List.size_toArray,List.length_cons,List.length_nil,Nat.reduceAdd,Nat.reduceSub,Array.replicate_succ,Array.replicate_zero,List.push_toArray,List.append_toArray,List.nil_append,List.cons_append]
 cases hx:pfx s with
 | false =>
  gi_wp2_with (first | (refine ⟨trivial,?_⟩;gi_at_call 59;refine (callsIn_wide.2 (hP _ _)).mono ?_;rintro e w' ⟨rfl,hw⟩;rw [hw,hx]) | (refine ⟨trivial,?_⟩;gi_at_call 60;refine (splitSeq_in _ h1 _ _).mono ?_;rintro e w' ⟨rfl,hw⟩;rw [hw]))
  ·refine ⟨_,results27 _ _ w.heap.size (.bool false) (.slice none 0 0) (.bool true) rfl rfl ?_ ?_,_,rfl,?_, .inl ⟨by assumption,rfl⟩⟩
   ·((try simp only [World.size_alloc]);repeat (first | exact al_new' (by first | (simp only [World.size_alloc];done) | (simp only [World.size_alloc];omega) | omega) | rw [al_old' (by simp only [World.size_alloc];omega)]))
   ·((try simp only [World.size_alloc]);repeat (first | exact al_new' (by first | (simp only [World.size_alloc];done) | (simp only [World.size_alloc];omega) | omega) | rw [al_old' (by simp only [World.size_alloc];omega)]))
   ·exact (((Below.refl _ w).alloc (Nat.le_refl _) _).alloc (by simp) _).alloc (by simp;omega) _
  ·refine ⟨_,results27 _ _ w.heap.size (.bool true) (.slice none 0 0) (.bool true) rfl rfl ?_ ?_,_,rfl,?_, .inr (.inl ⟨by assumption,by assumption,rfl⟩)⟩
   ·((try simp only [World.size_alloc]);repeat (first | exact al_new' (by first | (simp only [World.size_alloc];done) | (simp only [World.size_alloc];omega) | omega) | rw [al_old' (by simp only [World.size_alloc];omega)]))
   ·((try simp only [World.size_alloc]);repeat (first | exact al_new' (by first | (simp only [World.size_alloc];done) | (simp only [World.size_alloc];omega) | omega) | rw [al_old' (by simp only [World.size_alloc];omega)]))
   ·exact (((Below.refl _ w).alloc (Nat.le_refl _) _).alloc (by simp) _).alloc (by simp;omega) _
  ·obtain ⟨L,hLt⟩:=Sp.total idx hidx s
   have hLl:=hLt.len hidx
   refine wpIn_rangeFunc_split h0 h1 (B:=w.heap.size+1+1+1) (by simp) rfl idx hidx hI
    (fun s W=>∃ pre R sv,L=pre ++ R∧Sp idx s R∧pre.all nm=true∧s.size≤1000000000∧WayMem w.heap.size w false sv pre s W)
    (fun s W=>∃ pre R sv,L=pre ++ R∧(0≤idx s→Sp idx (s.extract (idx s+1).toNat s.size) R)∧pre.all nm=true∧s.size≤1000000000∧WayMem w.heap.size w false sv pre s W)
    (fun W=>L.all nm=false∧Below w.heap.size w W∧W.heap[w.heap.size]?=some (.cells #[.bool false, .slice none 0 0] 34)∧W.heap[w.heap.size+1]?=some (.cells #[.bool false] 4))
    (fun W=>L.all nm=true∧∃ sv rest,WayMem w.heap.size w false sv L rest W)
    ?put ?alloc ?J ?J' ?S
    (fun x=>{ tmps := #[.string s,undef, .pointer (some ⟨w.heap.size,0,none⟩), .pointer (some ⟨w.heap.size+1,0,none⟩), .pointer (some ⟨w.heap.size+1+1,0,none⟩), .string x, .bool false, .string s, .bool false,undef, .bool false, .string s, .bool false,undef, .bool false,
     .string s, .bool false,undef,undef,undef, .string s, .func (.func 102) #[] #[.pointer (some ⟨w.heap.size+1+1+1+1,0,none⟩), .pointer (some ⟨w.heap.size+1+1+1,0,none⟩), .pointer (some ⟨w.heap.size+1+1+1+2,0,none⟩)], .string x,
     undef,undef,undef,undef,undef,undef,undef,undef,undef,undef,undef,undef,undef,undef,undef,undef],defers:=[] })
    ?assign ?body ?lst s ?start ?done ?stop
   case assign =>
    intro l x W K hK
    have hsem:=@Oper.semAt_some
    gi_wp2
    exact hK
   case body =>
    rintro l s W ⟨pre,R,sv,hL,hSp,hall,hsz,hm⟩ hi
    have hsem:=@Oper.semAt_some
    obtain ⟨v1,v2,v3,v4⟩:=cell2 hm.wv
    obtain ⟨r1,r2,r3,r4⟩:=cell2 hm.r0
    obtain ⟨q1,q2⟩:=cell1 hm.r1
    have hlen:pre.length≤1000000001:=by rw [hL,List.length_append] at hLl;omega
    have hsx:(s.extract 0 (idx s).toNat).size≤9223372036854775807:=by simp only [ByteArray.size_extract];omega
    obtain ⟨R',rfl,hR'⟩:∃ R',R=s.extract 0 (idx s).toNat :: R'∧Sp idx (s.extract (idx s+1).toNat s.size) R':=by
     cases hSp with
     | last _ h=>omega
     | more _ h R hR=>exact ⟨R,rfl,hR⟩
    cases hx:nm (s.extract 0 (idx s).toNat) with
    | false =>
     gi_wp2_with (refine ⟨trivial,?_⟩;gi_at_call 29;refine (CallsIn.inRound l (callsIn_wide.2 (hN _ _ hsx))).mono ?_;rintro e w' ⟨rfl,hw⟩;rw [hw,hx])
     exact hm.failed (by rw [hL];simp [hx])
    | true =>
     obtain ⟨i0,hi9,hz0,hz1,hz2⟩:=info_parts info9
     have hrow:=hm.row
     gi_wp2_with (first
      | (refine ⟨trivial,?_⟩;gi_at_call 29;refine (CallsIn.inRound l (callsIn_wide.2 (hN _ _ hsx))).mono ?_;rintro e w' ⟨rfl,hw⟩;rw [hw,hx])
      | (gi_at_builtin;refine wpListIn_append_own _ rfl _ _ 32 rfl (w.heap.size+6) 9 i0 (.string ⟨#[]⟩) 1 16 Tryd.underlying32 hi9 hz0 hz1 hz2 rfl (by decide) _ _ _ rfl (hrow.alloc _) ⟨W.heap.size,0,none⟩ 1 1 [.string (s.extract 0 (idx s).toNat)] rfl rfl (cell_one_new _ _ _) (by simp [Value.oneCell']) (by have:maxLen=9223372036854775807:=rfl;omega) (by omega) (by have:=hm.size;simp;omega) ?_;intro v' w1 hown' hgrow _;obtain ⟨g',cap',rfl⟩:=ownsRow_succ hown';obtain ⟨hwv1,hkk,hmm⟩:=hm.appended hown' hgrow;obtain ⟨y1,y2,y3,y4⟩:=cell2 hwv1))
     exact ⟨hkk,pre ++ [s.extract 0 (idx s).toNat],R',_,by rw [hL];simp,fun _=>hR',by simp [hall,hx],hsz,hmm⟩
   case lst =>
    rintro l s W ⟨pre,R,sv,hL,hSp,hall,hsz,hm⟩ hi
    have hsem:=@Oper.semAt_some
    obtain ⟨v1,v2,v3,v4⟩:=cell2 hm.wv
    obtain ⟨r1,r2,r3,r4⟩:=cell2 hm.r0
    obtain ⟨q1,q2⟩:=cell1 hm.r1
    have hlen:pre.length≤1000000001:=by rw [hL,List.length_append] at hLl;omega
    have hsx:s.size≤9223372036854775807:=by omega
    obtain rfl:R=[s]:=by
     cases hSp with
     | last _ h=>rfl
     | more _ h R hR=>omega
    cases hx:nm s with
    | false =>
     gi_wp2_with (refine ⟨trivial,?_⟩;gi_at_call 29;refine (CallsIn.inRound l (callsIn_wide.2 (hN _ _ hsx))).mono ?_;rintro e w' ⟨rfl,hw⟩;rw [hw,hx])
     exact hm.failed (by rw [hL];simp [hx])
    | true =>
     obtain ⟨i0,hi9,hz0,hz1,hz2⟩:=info_parts info9
     have hrow:=hm.row
     gi_wp2_with (first
      | (refine ⟨trivial,?_⟩;gi_at_call 29;refine (CallsIn.inRound l (callsIn_wide.2 (hN _ _ hsx))).mono ?_;rintro e w' ⟨rfl,hw⟩;rw [hw,hx])
      | (gi_at_builtin;refine wpListIn_append_own _ rfl _ _ 32 rfl (w.heap.size+6) 9 i0 (.string ⟨#[]⟩) 1 16 Tryd.underlying32 hi9 hz0 hz1 hz2 rfl (by decide) _ _ _ rfl (hrow.alloc _) ⟨W.heap.size,0,none⟩ 1 1 [.string s] rfl rfl (cell_one_new _ _ _) (by simp [Value.oneCell']) (by have:maxLen=9223372036854775807:=rfl;omega) (by omega) (by have:=hm.size;simp;omega) ?_;intro v' w1 hown' hgrow _;obtain ⟨g',cap',rfl⟩:=ownsRow_succ hown';obtain ⟨hwv1,hkk,hmm⟩:=hm.appended hown' hgrow;obtain ⟨y1,y2,y3,y4⟩:=cell2 hwv1))
     exact ⟨hkk,by rw [hL];simp [hall,hx],_,_,by rw [hL];exact hmm⟩
   case put =>
    rintro G hG W l o o' hl hlo hoc hg
    rcases hG with rfl | rfl | ⟨s,rfl | rfl⟩
    ·obtain ⟨g1,g2,g3,g4⟩:=hg
     exact ⟨g1,WayMem.below_put g2 o' (by simp at hl;omega) hlo,(World.putObj_heap_other (by simp at hl;omega)).trans g3,(World.putObj_heap_other (by simp at hl;omega)).trans g4⟩
    ·obtain ⟨g1,sv,rest,hm⟩:=hg
     exact ⟨g1,sv,rest,hm.put o' (by simp at hl;omega) hlo hoc⟩
    ·obtain ⟨pre,R,sv,g1,g2,g3,g4,hm⟩:=hg
     exact ⟨pre,R,sv,g1,g2,g3,g4,hm.put o' (by simp at hl;omega) hlo hoc⟩
    ·obtain ⟨pre,R,sv,g1,g2,g3,g4,hm⟩:=hg
     exact ⟨pre,R,sv,g1,g2,g3,g4,hm.put o' (by simp at hl;omega) hlo hoc⟩
   case alloc =>
    rintro s W o ⟨pre,R,sv,g1,g2,g3,g4,hm⟩
    exact ⟨pre,R,sv,g1,g2,g3,g4,hm.alloc o⟩
   case J =>
    rintro s W ⟨pre,R,sv,g1,g2,g3,g4,hm⟩
    exact ⟨(cell1 hm.bs).1,(cell1 hm.bp).1,(cell1 hm.bk).1,by omega⟩
   case J' =>
    rintro s W ⟨pre,R,sv,g1,g2,g3,g4,hm⟩
    exact ⟨(cell1 hm.bs).1,(cell1 hm.bs).2,(cell1 hm.bp).1⟩
   case S =>
    rintro s W ⟨pre,R,sv,g1,g2,g3,g4,hm⟩ hi
    exact ⟨pre,R,sv,g1,g2 hi,g3,by simp only [ByteArray.size_extract];omega,hm.set _⟩
   case start =>
    refine ⟨[],L, .slice none 0 0,rfl,hLt,rfl,hs,?_⟩
    exact {
     below:=((((((Below.refl _ w).alloc (Nat.le_refl _) _).alloc (by simp) _).alloc (by simp;omega) _).alloc (by simp;omega) _).alloc (by simp;omega) _).alloc (by simp;omega) _
     size:=by simp
     r0:=by ((try simp only [World.size_alloc]);repeat (first | exact al_new' (by first | (simp only [World.size_alloc];done) | (simp only [World.size_alloc];omega) | omega) | rw [al_old' (by simp only [World.size_alloc];omega)]))
     r1:=by ((try simp only [World.size_alloc]);repeat (first | exact al_new' (by first | (simp only [World.size_alloc];done) | (simp only [World.size_alloc];omega) | omega) | rw [al_old' (by simp only [World.size_alloc];omega)]))
     wv:=by ((try simp only [World.size_alloc]);repeat (first | exact al_new' (by first | (simp only [World.size_alloc];done) | (simp only [World.size_alloc];omega) | omega) | rw [al_old' (by simp only [World.size_alloc];omega)]))
     bs:=by ((try simp only [World.size_alloc]);repeat (first | exact al_new' (by first | (simp only [World.size_alloc];done) | (simp only [World.size_alloc];omega) | omega) | rw [al_old' (by simp only [World.size_alloc];omega)]))
     bp:=by ((try simp only [World.size_alloc]);repeat (first | exact al_new' (by first | (simp only [World.size_alloc];done) | (simp only [World.size_alloc];omega) | omega) | rw [al_old' (by simp only [World.size_alloc];omega)]))
     bk:=by ((try simp only [World.size_alloc]);repeat (first | exact al_new' (by first | (simp only [World.size_alloc];done) | (simp only [World.size_alloc];omega) | omega) | rw [al_old' (by simp only [World.size_alloc];omega)]))
     row:=World.ownsRow_nil _ _ _ _ }
   case done =>
    rintro D W hD ⟨hall,sv,rest,hm⟩ hk
    obtain ⟨v1,v2,v3,v4⟩:=cell2 hm.wv
    obtain ⟨r1,r2,r3,r4⟩:=cell2 hm.r0
    obtain ⟨q1,q2⟩:=cell1 hm.r1
    have hrow:=hm.row
    obtain ⟨x0,L',rfl⟩:=hLt.cons
    simp only [List.length_cons] at hrow
    obtain ⟨g,cap,rfl⟩:=ownsRow_succ hrow
    gi_wp2
    ·obtain ⟨ko,kb,k0,k1,_⟩:=hm.stored (.bool false) (.slice none 0 0) (.bool false)
     refine ⟨by simp, .inl ⟨_,_,rfl,run_takeDeferred (ko.same D _ hk rfl),?_⟩⟩
     exact ⟨_,results27 _ _ w.heap.size (.bool false) (.slice none 0 0) (.bool false) rfl rfl ((World.putObj_heap_other (by simp at hD;omega)).trans k0) ((World.putObj_heap_other (by simp at hD;omega)).trans k1),_,rfl,WayMem.below_put kb _ (by simp at hD;omega) (ko.same D _ hk rfl), .inr (.inr ⟨by assumption,by assumption,x0 :: L',by rw [hx];exact hLt, .inl ⟨.inr (by simp only [List.length_cons];omega),rfl⟩⟩)⟩
    ·obtain ⟨ko,kb,k0,k1,kr⟩:=hm.stored (.bool false) (.slice (some ⟨g,0,none⟩) (L'.length+1) cap) (.bool true)
     refine ⟨by simp, .inl ⟨_,_,rfl,run_takeDeferred (ko.same D _ hk rfl),?_⟩⟩
     exact ⟨_,results27 _ _ w.heap.size (.bool false) (.slice (some ⟨g,0,none⟩) (L'.length+1) cap) (.bool true) rfl rfl ((World.putObj_heap_other (by simp at hD;omega)).trans k0) ((World.putObj_heap_other (by simp at hD;omega)).trans k1),_,rfl,WayMem.below_put kb _ (by simp at hD;omega) (ko.same D _ hk rfl), .inr (.inr ⟨by assumption,by assumption,x0 :: L',by rw [hx];exact hLt, .inr ⟨hall,by simp only [List.length_cons];omega,_,by rw [hx],row_base (ownsRow_putObj kr _ (ko.same D _ hk rfl) rfl) (by omega)⟩⟩)⟩
   case stop =>
    rintro D W hD ⟨hall,hb,g1,g2⟩ hk
    gi_wp2
    refine ⟨by simp, .inl ⟨_,_,rfl,run_takeDeferred hk,?_⟩⟩
    refine ⟨_,results27 _ _ w.heap.size (.bool false) (.slice none 0 0) (.bool false) rfl rfl ((World.putObj_heap_other (by simp at hD;omega)).trans g1) ((World.putObj_heap_other (by simp at hD;omega)).trans g2),_,rfl,WayMem.below_put hb _ (by simp at hD;omega) hk, .inr (.inr ⟨by assumption,by assumption,L,by rw [hx];exact hLt, .inl ⟨.inl hall,rfl⟩⟩)⟩
 | true =>
  have hp2:=hpfx s hx
  gi_wp2_with (first | (refine ⟨trivial,?_⟩;gi_at_call 59;refine (callsIn_wide.2 (hP _ _)).mono ?_;rintro e w' ⟨rfl,hw⟩;rw [hw,hx]) | (refine ⟨trivial,?_⟩;gi_at_call 60;refine (splitSeq_in _ h1 _ _).mono ?_;rintro e w' ⟨rfl,hw⟩;rw [hw]))
  ·refine ⟨_,results27 _ _ w.heap.size (.bool false) (.slice none 0 0) (.bool true) rfl rfl ?_ ?_,_,rfl,?_, .inl ⟨by assumption,rfl⟩⟩
   ·((try simp only [World.size_alloc]);repeat (first | exact al_new' (by first | (simp only [World.size_alloc];done) | (simp only [World.size_alloc];omega) | omega) | rw [al_old' (by simp only [World.size_alloc];omega)]))
   ·((try simp only [World.size_alloc]);repeat (first | exact al_new' (by first | (simp only [World.size_alloc];done) | (simp only [World.size_alloc];omega) | omega) | rw [al_old' (by simp only [World.size_alloc];omega)]))
   ·exact (((Below.refl _ w).alloc (Nat.le_refl _) _).alloc (by simp) _).alloc (by simp;omega) _
  ·refine ⟨_,results27 _ _ w.heap.size (.bool true) (.slice none 0 0) (.bool true) rfl rfl ?_ ?_,_,rfl,?_, .inr (.inl ⟨by assumption,by assumption,rfl⟩)⟩
   ·((try simp only [World.size_alloc]);repeat (first | exact al_new' (by first | (simp only [World.size_alloc];done) | (simp only [World.size_alloc];omega) | omega) | rw [al_old' (by simp only [World.size_alloc];omega)]))
   ·((try simp only [World.size_alloc]);repeat (first | exact al_new' (by first | (simp only [World.size_alloc];done) | (simp only [World.size_alloc];omega) | omega) | rw [al_old' (by simp only [World.size_alloc];omega)]))
   ·exact (((Below.refl _ w).alloc (Nat.le_refl _) _).alloc (by simp) _).alloc (by simp;omega) _
  ·obtain ⟨L,hLt⟩:=Sp.total idx hidx (s.extract 2 s.size)
   have hLl:=hLt.len hidx
   simp only [ByteArray.size_extract] at hLl
   refine wpIn_rangeFunc_split h0 h1 (B:=w.heap.size+1+1+1) (by simp) rfl idx hidx hI
    (fun s W=>∃ pre R sv,L=pre ++ R∧Sp idx s R∧pre.all nm=true∧s.size≤1000000000∧WayMem w.heap.size w true sv pre s W)
    (fun s W=>∃ pre R sv,L=pre ++ R∧(0≤idx s→Sp idx (s.extract (idx s+1).toNat s.size) R)∧pre.all nm=true∧s.size≤1000000000∧WayMem w.heap.size w true sv pre s W)
    (fun W=>L.all nm=false∧Below w.heap.size w W∧W.heap[w.heap.size]?=some (.cells #[.bool false, .slice none 0 0] 34)∧W.heap[w.heap.size+1]?=some (.cells #[.bool false] 4))
    (fun W=>L.all nm=true∧∃ sv rest,WayMem w.heap.size w true sv L rest W)
    ?put2 ?alloc2 ?J2 ?J'2 ?S2
    (fun x=>{ tmps := #[.string (s.extract 2 s.size),undef, .pointer (some ⟨w.heap.size,0,none⟩), .pointer (some ⟨w.heap.size+1,0,none⟩), .pointer (some ⟨w.heap.size+1+1,0,none⟩), .string x, .bool false, .string s, .bool false,undef, .bool false, .string s, .bool false,undef, .bool true,
     .string s, .bool true, .pointer (some ⟨w.heap.size+1+1,0,none⟩), .string s, .string (s.extract 2 s.size), .string (s.extract 2 s.size), .func (.func 102) #[] #[.pointer (some ⟨w.heap.size+1+1+1+1,0,none⟩), .pointer (some ⟨w.heap.size+1+1+1,0,none⟩), .pointer (some ⟨w.heap.size+1+1+1+2,0,none⟩)], .string x,
     undef,undef,undef,undef,undef,undef,undef,undef,undef,undef,undef,undef,undef,undef,undef,undef],defers:=[] })
    ?assign2 ?body2 ?lst2 (s.extract 2 s.size) ?start2 ?done2 ?stop2
   case assign2 =>
    intro l x W K hK
    have hsem:=@Oper.semAt_some
    gi_wp2
    exact hK
   case body2 =>
    rintro l s W ⟨pre,R,sv,hL,hSp,hall,hsz,hm⟩ hi
    have hsem:=@Oper.semAt_some
    obtain ⟨v1,v2,v3,v4⟩:=cell2 hm.wv
    obtain ⟨r1,r2,r3,r4⟩:=cell2 hm.r0
    obtain ⟨q1,q2⟩:=cell1 hm.r1
    have hlen:pre.length≤1000000001:=by rw [hL,List.length_append] at hLl;omega
    have hsx:(s.extract 0 (idx s).toNat).size≤9223372036854775807:=by simp only [ByteArray.size_extract];omega
    obtain ⟨R',rfl,hR'⟩:∃ R',R=s.extract 0 (idx s).toNat :: R'∧Sp idx (s.extract (idx s+1).toNat s.size) R':=by
     cases hSp with
     | last _ h=>omega
     | more _ h R hR=>exact ⟨R,rfl,hR⟩
    cases hx:nm (s.extract 0 (idx s).toNat) with
    | false =>
     gi_wp2_with (refine ⟨trivial,?_⟩;gi_at_call 29;refine (CallsIn.inRound l (callsIn_wide.2 (hN _ _ hsx))).mono ?_;rintro e w' ⟨rfl,hw⟩;rw [hw,hx])
     exact hm.failed (by rw [hL];simp [hx])
    | true =>
     obtain ⟨i0,hi9,hz0,hz1,hz2⟩:=info_parts info9
     have hrow:=hm.row
     gi_wp2_with (first
      | (refine ⟨trivial,?_⟩;gi_at_call 29;refine (CallsIn.inRound l (callsIn_wide.2 (hN _ _ hsx))).mono ?_;rintro e w' ⟨rfl,hw⟩;rw [hw,hx])
      | (gi_at_builtin;refine wpListIn_append_own _ rfl _ _ 32 rfl (w.heap.size+6) 9 i0 (.string ⟨#[]⟩) 1 16 Tryd.underlying32 hi9 hz0 hz1 hz2 rfl (by decide) _ _ _ rfl (hrow.alloc _) ⟨W.heap.size,0,none⟩ 1 1 [.string (s.extract 0 (idx s).toNat)] rfl rfl (cell_one_new _ _ _) (by simp [Value.oneCell']) (by have:maxLen=9223372036854775807:=rfl;omega) (by omega) (by have:=hm.size;simp;omega) ?_;intro v' w1 hown' hgrow _;obtain ⟨g',cap',rfl⟩:=ownsRow_succ hown';obtain ⟨hwv1,hkk,hmm⟩:=hm.appended hown' hgrow;obtain ⟨y1,y2,y3,y4⟩:=cell2 hwv1))
     exact ⟨hkk,pre ++ [s.extract 0 (idx s).toNat],R',_,by rw [hL];simp,fun _=>hR',by simp [hall,hx],hsz,hmm⟩
   case lst2 =>
    rintro l s W ⟨pre,R,sv,hL,hSp,hall,hsz,hm⟩ hi
    have hsem:=@Oper.semAt_some
    obtain ⟨v1,v2,v3,v4⟩:=cell2 hm.wv
    obtain ⟨r1,r2,r3,r4⟩:=cell2 hm.r0
    obtain ⟨q1,q2⟩:=cell1 hm.r1
    have hlen:pre.length≤1000000001:=by rw [hL,List.length_append] at hLl;omega
    have hsx:s.size≤9223372036854775807:=by omega
    obtain rfl:R=[s]:=by
     cases hSp with
     | last _ h=>rfl
     | more _ h R hR=>omega
    cases hx:nm s with
    | false =>
     gi_wp2_with (refine ⟨trivial,?_⟩;gi_at_call 29;refine (CallsIn.inRound l (callsIn_wide.2 (hN _ _ hsx))).mono ?_;rintro e w' ⟨rfl,hw⟩;rw [hw,hx])
     exact hm.failed (by rw [hL];simp [hx])
    | true =>
     obtain ⟨i0,hi9,hz0,hz1,hz2⟩:=info_parts info9
     have hrow:=hm.row
     gi_wp2_with (first
      | (refine ⟨trivial,?_⟩;gi_at_call 29;refine (CallsIn.inRound l (callsIn_wide.2 (hN _ _ hsx))).mono ?_;rintro e w' ⟨rfl,hw⟩;rw [hw,hx])
      | (gi_at_builtin;refine wpListIn_append_own _ rfl _ _ 32 rfl (w.heap.size+6) 9 i0 (.string ⟨#[]⟩) 1 16 Tryd.underlying32 hi9 hz0 hz1 hz2 rfl (by decide) _ _ _ rfl (hrow.alloc _) ⟨W.heap.size,0,none⟩ 1 1 [.string s] rfl rfl (cell_one_new _ _ _) (by simp [Value.oneCell']) (by have:maxLen=9223372036854775807:=rfl;omega) (by omega) (by have:=hm.size;simp;omega) ?_;intro v' w1 hown' hgrow _;obtain ⟨g',cap',rfl⟩:=ownsRow_succ hown';obtain ⟨hwv1,hkk,hmm⟩:=hm.appended hown' hgrow;obtain ⟨y1,y2,y3,y4⟩:=cell2 hwv1))
     exact ⟨hkk,by rw [hL];simp [hall,hx],_,_,by rw [hL];exact hmm⟩
   case put2 =>
    rintro G hG W l o o' hl hlo hoc hg
    rcases hG with rfl | rfl | ⟨s,rfl | rfl⟩
    ·obtain ⟨g1,g2,g3,g4⟩:=hg
     exact ⟨g1,WayMem.below_put g2 o' (by simp at hl;omega) hlo,(World.putObj_heap_other (by simp at hl;omega)).trans g3,(World.putObj_heap_other (by simp at hl;omega)).trans g4⟩
    ·obtain ⟨g1,sv,rest,hm⟩:=hg
     exact ⟨g1,sv,rest,hm.put o' (by simp at hl;omega) hlo hoc⟩
    ·obtain ⟨pre,R,sv,g1,g2,g3,g4,hm⟩:=hg
     exact ⟨pre,R,sv,g1,g2,g3,g4,hm.put o' (by simp at hl;omega) hlo hoc⟩
    ·obtain ⟨pre,R,sv,g1,g2,g3,g4,hm⟩:=hg
     exact ⟨pre,R,sv,g1,g2,g3,g4,hm.put o' (by simp at hl;omega) hlo hoc⟩
   case alloc2 =>
    rintro s W o ⟨pre,R,sv,g1,g2,g3,g4,hm⟩
    exact ⟨pre,R,sv,g1,g2,g3,g4,hm.alloc o⟩
   case J2 =>
    rintro s W ⟨pre,R,sv,g1,g2,g3,g4,hm⟩
    exact ⟨(cell1 hm.bs).1,(cell1 hm.bp).1,(cell1 hm.bk).1,by omega⟩
   case J'2 =>
    rintro s W ⟨pre,R,sv,g1,g2,g3,g4,hm⟩
    exact ⟨(cell1 hm.bs).1,(cell1 hm.bs).2,(cell1 hm.bp).1⟩
   case S2 =>
    rintro s W ⟨pre,R,sv,g1,g2,g3,g4,hm⟩ hi
    exact ⟨pre,R,sv,g1,g2 hi,g3,by simp only [ByteArray.size_extract];omega,hm.set _⟩
   case start2 =>
    refine ⟨[],L, .slice none 0 0,rfl,hLt,rfl,by simp only [ByteArray.size_extract];omega,?_⟩
    exact {
     below:=((((((Below.refl _ w).alloc (Nat.le_refl _) _).alloc (by simp) _).alloc (by simp;omega) _).alloc (by simp;omega) _).alloc (by simp;omega) _).alloc (by simp;omega) _
     size:=by simp
     r0:=by ((try simp only [World.size_alloc]);repeat (first | exact al_new' (by first | (simp only [World.size_alloc];done) | (simp only [World.size_alloc];omega) | omega) | rw [al_old' (by simp only [World.size_alloc];omega)]))
     r1:=by ((try simp only [World.size_alloc]);repeat (first | exact al_new' (by first | (simp only [World.size_alloc];done) | (simp only [World.size_alloc];omega) | omega) | rw [al_old' (by simp only [World.size_alloc];omega)]))
     wv:=by ((try simp only [World.size_alloc]);repeat (first | exact al_new' (by first | (simp only [World.size_alloc];done) | (simp only [World.size_alloc];omega) | omega) | rw [al_old' (by simp only [World.size_alloc];omega)]))
     bs:=by ((try simp only [World.size_alloc]);repeat (first | exact al_new' (by first | (simp only [World.size_alloc];done) | (simp only [World.size_alloc];omega) | omega) | rw [al_old' (by simp only [World.size_alloc];omega)]))
     bp:=by ((try simp only [World.size_alloc]);repeat (first | exact al_new' (by first | (simp only [World.size_alloc];done) | (simp only [World.size_alloc];omega) | omega) | rw [al_old' (by simp only [World.size_alloc];omega)]))
     bk:=by ((try simp only [World.size_alloc]);repeat (first | exact al_new' (by first | (simp only [World.size_alloc];done) | (simp only [World.size_alloc];omega) | omega) | rw [al_old' (by simp only [World.size_alloc];omega)]))
     row:=World.ownsRow_nil _ _ _ _ }
   case done2 =>
    rintro D W hD ⟨hall,sv,rest,hm⟩ hk
    obtain ⟨v1,v2,v3,v4⟩:=cell2 hm.wv
    obtain ⟨r1,r2,r3,r4⟩:=cell2 hm.r0
    obtain ⟨q1,q2⟩:=cell1 hm.r1
    have hrow:=hm.row
    obtain ⟨x0,L',rfl⟩:=hLt.cons
    simp only [List.length_cons] at hrow
    obtain ⟨g,cap,rfl⟩:=ownsRow_succ hrow
    gi_wp2
    ·obtain ⟨ko,kb,k0,k1,_⟩:=hm.stored (.bool false) (.slice none 0 0) (.bool false)
     refine ⟨by simp, .inl ⟨_,_,rfl,run_takeDeferred (ko.same D _ hk rfl),?_⟩⟩
     exact ⟨_,results27 _ _ w.heap.size (.bool false) (.slice none 0 0) (.bool false) rfl rfl ((World.putObj_heap_other (by simp at hD;omega)).trans k0) ((World.putObj_heap_other (by simp at hD;omega)).trans k1),_,rfl,WayMem.below_put kb _ (by simp at hD;omega) (ko.same D _ hk rfl), .inr (.inr ⟨by assumption,by assumption,x0 :: L',by rw [hx];exact hLt, .inl ⟨.inr (by simp only [List.length_cons];omega),rfl⟩⟩)⟩
    ·obtain ⟨ko,kb,k0,k1,kr⟩:=hm.stored (.bool true) (.slice (some ⟨g,0,none⟩) (L'.length+1) cap) (.bool true)
     refine ⟨by simp, .inl ⟨_,_,rfl,run_takeDeferred (ko.same D _ hk rfl),?_⟩⟩
     exact ⟨_,results27 _ _ w.heap.size (.bool true) (.slice (some ⟨g,0,none⟩) (L'.length+1) cap) (.bool true) rfl rfl ((World.putObj_heap_other (by simp at hD;omega)).trans k0) ((World.putObj_heap_other (by simp at hD;omega)).trans k1),_,rfl,WayMem.below_put kb _ (by simp at hD;omega) (ko.same D _ hk rfl), .inr (.inr ⟨by assumption,by assumption,x0 :: L',by rw [hx];exact hLt, .inr ⟨hall,by simp only [List.length_cons];omega,_,by rw [hx],row_base (ownsRow_putObj kr _ (ko.same D _ hk rfl) rfl) (by omega)⟩⟩)⟩
   case stop2 =>
    rintro D W hD ⟨hall,hb,g1,g2⟩ hk
    gi_wp2
    refine ⟨by simp, .inl ⟨_,_,rfl,run_takeDeferred hk,?_⟩⟩
    refine ⟨_,results27 _ _ w.heap.size (.bool false) (.slice none 0 0) (.bool false) rfl rfl ((World.putObj_heap_other (by simp at hD;omega)).trans g1) ((World.putObj_heap_other (by simp at hD;omega)).trans g2),_,rfl,WayMem.below_put hb _ (by simp at hD;omega) hk, .inr (.inr ⟨by assumption,by assumption,L,by rw [hx];exact hLt, .inl ⟨.inl hall,rfl⟩⟩)⟩
end R3

namespace R3
open Go Go.Proofs Go.RowKit Go.Shelf
set_option maxRecDepth 100000
set_option maxHeartbeats 4000000
def pfxA (s:ByteArray):Bool:=decide (2≤s.size) && (s.extract 0 2).toList == [36,46]
theorem pfx0_in (n:Nat) (s:ByteArray) (w:World) :
  CallsIn Fence.wide n Tryd.prog 83 #[.string s, .string ⟨#[36,46]⟩] w fun e w'=>e=.returned (.bool (pfxA s))∧w'=w:=by
 refine callsIn_of_wp Tryd.func83 rfl trivial ?_ rfl
 simp only [Tryd.ntmps83,List.size_toArray,List.length_cons,List.length_nil,Nat.reduceAdd,Nat.reduceSub,Array.replicate_succ,Array.replicate_zero,List.push_toArray,List.append_toArray,List.nil_append,List.cons_append]
 gi_wp2
 ·go_ret
  refine ⟨?_,rfl⟩
  have:decide (2≤s.size)=true:=by simp;omega
  simp [pfxA,this]
 ·go_ret
  refine ⟨?_,rfl⟩
  have:decide (2≤s.size)=false:=by simp;omega
  simp [pfxA,this]
theorem pfx_in (n:Nat) (hn:1≤n) (s:ByteArray) (w:World) :
  CallsIn Fence.wide n Tryd.prog 59 #[.string s, .string ⟨#[36,46]⟩] w fun e w'=>e=.returned (.bool (pfxA s))∧w'=w:=by
 refine callsIn_of_wp Tryd.func59 rfl trivial ?_ rfl
 simp only [Tryd.ntmps59,List.size_toArray,List.length_cons,List.length_nil,Nat.reduceAdd,Nat.reduceSub,Array.replicate_succ,Array.replicate_zero,List.push_toArray,List.append_toArray,List.nil_append,List.cons_append]
 gi_wp2_with (refine ⟨trivial,?_⟩;gi_at_call 83;refine (pfx0_in _ _ _).mono ?_;rintro e w' ⟨rfl,hw⟩;rw [hw])
 go_ret
 exact ⟨rfl,rfl⟩
def okN (i:Nat) (b:UInt8):Bool:=(decide (97≤b) && decide (b≤122)) || (!(i == 0) && ((decide (48≤b) && decide (b≤57)) || b == 95))
def okAll:Nat→List UInt8→Bool
 | _,[]=>true
 | i,b :: r=>okN i b && okAll (i+1) r
def nameB (l:List UInt8):Bool:=okAll 0 l && (decide (1≤l.length) && decide (l.length≤32))
theorem okAll_app:∀ (l m:List UInt8) (i:Nat),okAll i (l ++ m)=(okAll i l && okAll (i+l.length) m)
 | [],m,i=>by simp [okAll]
 | b :: l,m,i=>by
  simp only [List.cons_append,okAll,okAll_app l m (i+1),List.length_cons,Bool.and_assoc]
  rw [show i+1+l.length=i+(l.length+1) by omega]
theorem okAll_at (l:List UInt8) (k:Nat) (h:k < l.length):okAll 0 l=(okAll 0 (l.take k) && (okN k l[k] && okAll (k+1) (l.drop (k+1)))):=by
 have e:l=l.take k ++ (l[k] :: l.drop (k+1)):=by simp
 conv=>lhs;rw [e]
 rw [okAll_app]
 have:(l.take k).length=k:=by simp;omega
 rw [this,Nat.zero_add]
 rfl
theorem okAll_next (l:List UInt8) (k:Nat) (h:k < l.length) (h1:okAll 0 (l.take k)=true) (h2:okN k l[k]=true):okAll 0 (l.take (k+1))=true:=by
 rw [List.take_succ_eq_append_getElem h,okAll_app,h1]
 have:(l.take k).length=k:=by simp;omega
 simp [okAll,this,h2]
def OkP (k:Nat) (x:Nat):Prop:=(97≤x∧x≤122)∨(k≠0∧((48≤x∧x≤57)∨x=95))
theorem okN_iff (k:Nat) (b:UInt8):okN k b=true↔OkP k b.toNat:=by
 unfold okN OkP
 have e:(b == 95)=decide (b.toNat=95):=by
  rw [Bool.eq_iff_iff]
  simp only [beq_iff_eq,decide_eq_true_eq]
  exact ⟨fun h=>by rw [h];rfl,fun h=>UInt8.toNat_inj.1 h⟩
 rw [e]
 simp only [Bool.or_eq_true,Bool.and_eq_true,decide_eq_true_eq,Bool.not_eq_true',beq_eq_false_iff_ne,UInt8.le_iff_toNat_le]
 rfl
theorem name_bad (s:ByteArray) (k:Nat) (h:k < s.size) (hb:¬ OkP k s[k].toNat):nameB s.data.toList=false:=by
 unfold nameB
 have hl:k < s.data.toList.length:=h
 rw [okAll_at _ k hl]
 have:okN k s.data.toList[k]=false:=by
  rw [Bool.eq_false_iff]
  exact fun e=>hb ((okN_iff _ _).1 e)
 rw [this];simp
theorem name_step (s:ByteArray) (k:Nat) (h:k < s.size) (hok:okAll 0 (s.data.toList.take k)=true) (hb:OkP k s[k].toNat):okAll 0 (s.data.toList.take (k+1))=true :=
 okAll_next _ k h hok ((okN_iff _ _).2 hb)
theorem name_end (s:ByteArray) (k:Nat) (hk:k≤s.size) (h:¬ k < s.size) (hok:okAll 0 (s.data.toList.take k)=true):nameB s.data.toList=(decide (1≤s.size) && decide (s.size≤32)):=by
 have:s.data.toList.take k=s.data.toList:=List.take_of_length_le (by show s.size≤k;omega)
 rw [this] at hok
 unfold nameB
 rw [hok,Bool.true_and]
 rfl
theorem name_in (n:Nat) (s:ByteArray) (hs:s.size≤9223372036854775807) (w:World) :
  CallsIn Fence.wide n Tryd.prog 29 #[.string s] w fun e w'=>e=.returned (.bool (nameB s.data.toList))∧w'=w:=by
 refine callsIn_of_wp Tryd.func29 rfl trivial ?_ rfl
 simp only [Tryd.ntmps29,List.size_toArray,List.length_cons,List.length_nil,Nat.reduceAdd,Nat.reduceSub,Array.replicate_succ,Array.replicate_zero,List.push_toArray,List.append_toArray,List.nil_append,List.cons_append]
 have hl:s.data.toList.length=s.size:=rfl
 gi_wp2
 gi_loop [7] (fun v=>∃ k:Nat,v=.int .i64 k∧k≤s.size∧okAll 0 (s.data.toList.take k)=true) (fun v=>s.size - (intOf v).toNat)
 case atStart=>exact ⟨0,rfl,by omega,rfl⟩
 case round =>
  obtain ⟨k,rfl,hk,hok⟩:=hrel
  by_cases hks:k < s.size
  ·by_cases hP:OkP k s[k].toNat
   ·have hstep:=name_step s k hks hok hP
    unfold OkP at hP
    by_cases hk0:k=0
    ·subst hk0
     gi_wp2 <;> first
      | exact ⟨⟨1,rfl,by omega,hstep⟩,by simp [intOf];omega⟩
      | (exfalso;clear hstep hok;simp only [Bool.not_eq_true',Bool.not_eq_false',decide_eq_true_eq,decide_eq_false_iff_not,bne_iff_ne,ne_eq,beq_iff_eq,bne_eq_false_iff_eq,beq_eq_false_iff_ne] at *;omega)
    ·gi_wp2 <;> first
      | exact ⟨⟨k+1,rfl,by omega,hstep⟩,by simp [intOf];omega⟩
      | (exfalso;clear hstep hok;simp only [Bool.not_eq_true',Bool.not_eq_false',decide_eq_true_eq,decide_eq_false_iff_not,bne_iff_ne,ne_eq,beq_iff_eq,bne_eq_false_iff_eq,beq_eq_false_iff_ne] at *;omega)
   ·have hbad:=name_bad s k hks hP
    unfold OkP at hP
    by_cases hk0:k=0
    ·subst hk0
     gi_wp2 <;> first
      | (exfalso;clear hbad hok;simp only [Bool.not_eq_true',Bool.not_eq_false',decide_eq_true_eq,decide_eq_false_iff_not,bne_iff_ne,ne_eq,beq_iff_eq,bne_eq_false_iff_eq,beq_eq_false_iff_ne] at *;omega)
      | (go_ret;exact ⟨rfl,rfl⟩)
    ·gi_wp2 <;> first
      | (exfalso;clear hbad hok;simp only [Bool.not_eq_true',Bool.not_eq_false',decide_eq_true_eq,decide_eq_false_iff_not,bne_iff_ne,ne_eq,beq_iff_eq,bne_eq_false_iff_eq,beq_eq_false_iff_ne] at *;omega)
      | (go_ret;exact ⟨rfl,rfl⟩)
  ·have hend:=name_end s k hk hks hok
   gi_wp2
   ·go_ret
    refine ⟨?_,rfl⟩
    have h1:decide (1≤s.size)=true:=by rw [decide_eq_true_eq];omega
    have h2:decide ((s.size:Int)≤32)=decide (s.size≤32):=by rw [decide_eq_decide];omega
    rw [h1,← h2];rfl
   ·go_ret
    refine ⟨?_,rfl⟩
    have h1:decide (1≤s.size)=false:=by rw [decide_eq_false_iff_not];omega
    rw [h1];rfl
end R3

namespace R3
open Go Go.Proofs Go.RowKit Go.Shelf
set_option maxRecDepth 100000
set_option maxHeartbeats 4000000
theorem run145 (s:ByteArray) (c:Int) (w:World):(callFunc 145 #[.string s, .int .u8 c]).run Tryd.prog w=.ok (.value (.int .i64 (Lib.indexByte s.data.toList c.toNat.toUInt8))) w :=
 Sx.run_idx (fn:=Tryd.f145) (by kernel_rfl) (by kernel_rfl) (by kernel_rfl) (by kernel_rfl) (by kernel_rfl) s c w
theorem idxB_in (n:Nat) (s:ByteArray) (w:World) :
  CallsIn Fence.wide n Tryd.prog 116 #[.string s, .int .u8 46] w fun e w'=>e=.returned (.int .i64 (Lib.indexByte s.data.toList 46))∧w'=w:=by
 refine callsIn_of_wp Tryd.func116 rfl trivial ?_ rfl
 simp only [Tryd.ntmps116,List.size_toArray,List.length_cons,List.length_nil,Nat.reduceAdd,Nat.reduceSub,Array.replicate_succ,Array.replicate_zero,List.push_toArray,List.append_toArray,List.nil_append,List.cons_append]
 have e:=run145 s 46 w
 gi_wp2_with (refine ⟨trivial,?_⟩)
 go_ret
 exact ⟨rfl,rfl⟩
theorem idx1_in (n:Nat) (hn:1≤n) (s:ByteArray) (hs:s.size≤9223372036854775807) (w:World) :
  CallsIn Fence.wide n Tryd.prog 98 #[.string s, .string ⟨#[46]⟩] w fun e w'=>e=.returned (.int .i64 (Lib.indexByte s.data.toList 46))∧w'=w:=by
 refine callsIn_of_wp Tryd.func98 rfl trivial ?_ rfl
 simp only [Tryd.ntmps98,List.size_toArray,List.length_cons,List.length_nil,Nat.reduceAdd,Nat.reduceSub,Array.replicate_succ,Array.replicate_zero,List.push_toArray,List.append_toArray,List.nil_append,List.cons_append]
 have e46:((⟨#[46]⟩:ByteArray)[0]'(by decide)).toNat=46:=rfl
 gi_wp2_with (refine ⟨trivial,?_⟩;gi_at_call 116;refine (idxB_in _ _ _).mono ?_;rintro e w' ⟨rfl,hw⟩;rw [hw])
 ·go_ret
  refine ⟨?_,rfl⟩
  have h:([46] == s.toList)=true:=by assumption
  rw [Lib.toList_data] at h
  rw [← eq_of_beq h]
  rfl
 ·go_ret
  exact ⟨rfl,rfl⟩
theorem idx_in (n:Nat) (hn:2≤n) (s:ByteArray) (hs:s.size≤9223372036854775807) (w:World) :
  CallsIn Fence.wide n Tryd.prog 79 #[.string s, .string ⟨#[46]⟩] w fun e w'=>e=.returned (.int .i64 (Lib.indexByte s.data.toList 46))∧w'=w:=by
 refine callsIn_of_wp Tryd.func79 rfl trivial ?_ rfl
 simp only [Tryd.ntmps79,List.size_toArray,List.length_cons,List.length_nil,Nat.reduceAdd,Nat.reduceSub,Array.replicate_succ,Array.replicate_zero,List.push_toArray,List.append_toArray,List.nil_append,List.cons_append]
 have h1:1≤n - 1:=by omega
 have h0:1≤n:=by omega
 gi_wp2_with (refine ⟨trivial,?_⟩;gi_at_call 98;refine (idx1_in _ h1 _ hs _).mono ?_;rintro e w' ⟨rfl,hw⟩;rw [hw])
 go_ret
 exact ⟨rfl,rfl⟩
theorem indexByte_ge (l:List UInt8) (c:UInt8):Lib.indexByte l c=-1∨(0≤Lib.indexByte l c∧Lib.indexByte l c+1≤l.length):=by
 induction l with
 | nil=>exact .inl rfl
 | cons x l ih =>
  unfold Lib.indexByte
  split
  ·right;simp;omega
  ·simp only [List.length_cons]
   rcases ih with h | ⟨h1,h2⟩
   ·rw [h];left;rfl
   ·right
    split
    ·rename_i e;simp only [beq_iff_eq] at e;omega
    ·omega
theorem way_calls (s:ByteArray) (hs:s.size≤1000000000) (w:World) :
  Calls Tryd.prog 27 #[.string s] w fun e w'=>∃ v,e=.returned v∧Below w.heap.size w w'∧WayPost (fun s=>Lib.indexByte s.data.toList 46) (fun s=>nameB s.data.toList) pfxA w.heap.size s v w' :=
 callsIn_wide.1 (way_in 6 (by decide) _ _ _ (fun s h=>by
   unfold pfxA at h
   rw [Bool.and_eq_true,decide_eq_true_eq] at h
   exact h.1) (fun s=>by have:=indexByte_ge s.data.toList 46;exact this)
  (fun s w=>callsIn_wide.1 (pfx_in 3 (by decide) s w)) (fun s w h=>callsIn_wide.1 (idx_in 3 (by decide) s h w)) (fun s w h=>callsIn_wide.1 (name_in 3 s h w)) s hs w)
end R3

namespace R3
open Go Go.Proofs Go.RowKit Sx
def splitL:List UInt8→List (List UInt8)
 | []=>[[]]
 | b :: r=>if b == 46 then [] :: splitL r else match splitL r with
  | []=>[[b]]
  | h :: t=>(b :: h) :: t
theorem splitL_eq (b:UInt8) (r:List UInt8):splitL (b :: r)=if b == 46 then [] :: splitL r else match splitL r with | []=>[[b]] | h :: t=>(b :: h) :: t:=rfl
theorem splitL_cons (l:List UInt8):∃ h t,splitL l=h :: t:=by
 cases l with
 | nil=>exact ⟨_,_,rfl⟩
 | cons b r =>
  unfold splitL
  split
  ·exact ⟨_,_,rfl⟩
  ·split <;> exact ⟨_,_,rfl⟩
theorem splitL_none:∀ (l:List UInt8),Lib.indexByte l 46=-1→splitL l=[l]
 | [],_=>rfl
 | b :: r,h=>by
  unfold Lib.indexByte at h
  split at h
  ·omega
  ·rename_i hb
   have hr:Lib.indexByte r 46=-1:=by
    split at h
    ·rename_i e;simpa using e
    ·have:=indexByte_ge r 46;omega
   rw [splitL_eq,if_neg hb,splitL_none r hr]
theorem splitL_some:∀ (l:List UInt8) (i:Nat),Lib.indexByte l 46=(i:Int)→splitL l=l.take i :: splitL (l.drop (i+1))
 | [],i,h=>by exfalso;have:Lib.indexByte [] 46=-1:=rfl;omega
 | b :: r,i,h=>by
  unfold Lib.indexByte at h
  split at h
  ·rename_i hb
   obtain rfl:i=0:=by omega
   rw [splitL_eq,if_pos hb]
   rfl
  ·rename_i hb
   split at h
   ·omega
   ·obtain ⟨j,rfl⟩:∃ j,i=j+1:=⟨i - 1,by have:=indexByte_ge r 46;rename_i e;simp only [beq_iff_eq] at e;omega⟩
    have hr:Lib.indexByte r 46=(j:Int):=by omega
    rw [splitL_eq,if_neg hb,splitL_some r j hr]
    rfl
theorem toL_extract (s:ByteArray) (a b:Nat):(s.extract a b).data.toList=(s.data.toList.drop a).take (b - a):=by
 simp [ByteArray.data_extract,Array.toList_extract,List.extract]
theorem Sp_split {s:ByteArray} {L:List ByteArray} (h:Sp (fun s=>Lib.indexByte s.data.toList 46) s L):L.map (·.data.toList)=splitL s.data.toList:=by
 induction h with
 | last s h=>rw [splitL_none _ h];rfl
 | more s h R hR ih =>
  obtain ⟨i,hi⟩:=Int.eq_ofNat_of_zero_le h
  rw [splitL_some s.data.toList i hi,List.map_cons,ih,toL_extract,toL_extract,hi]
  have hsz:s.size=s.data.toList.length:=rfl
  congr 1
  rw [show ((i:Int)+1).toNat=i+1 by omega,List.take_of_length_le (by rw [List.length_drop];omega)]
def dollar (l:List UInt8):Bool:=decide (2≤l.length) && l.take 2 == [36,46]
def failW:AV:=.tu [.ag [.b false, .nils], .b false]
def wayAV (l:List UInt8):AV :=
 if l == [46] then .tu [.ag [.b false, .nils], .b true]
 else if l == [36] then .tu [.ag [.b true, .nils], .b true]
 else if (splitL (if dollar l then l.drop 2 else l)).all nameB && decide ((splitL (if dollar l then l.drop 2 else l)).length≤8) then .tu [.ag [.b (dollar l), .ro 1 ((splitL (if dollar l then l.drop 2 else l)).map .s)], .b true]
 else failW
def G27 (args:List AV):Option AV :=
 match args with
 | [.s l]=>if l.length≤1000000000 then some (wayAV l) else none
 | _=>none
theorem rel_way {w:World} {F:Nat→Prop} {root ok:Bool} {x:AV} {v:Value} (h1:v.oneCell'=true) (h:Rel w F x v):Rel w F (.tu [.ag [.b root,x], .b ok]) (.tuple #[.agg #[.bool root,v], .bool ok]):=by
 refine .tu [.ag [.b root,x], .b ok] [.agg #[.bool root,v], .bool ok] rfl fun j u hu=>?_
 match j,hu with
 | 0,hu =>
  cases hu
  refine .ag [.b root,x] [.bool root,v] rfl (fun u hu=>?_) fun j u hu=>?_
  ·simp only [List.mem_cons,List.not_mem_nil,or_false] at hu
   rcases hu with rfl | rfl
   ·rfl
   ·exact h1
  ·match j,hu with
   | 0,hu=>cases hu;exact .b root
   | 1,hu=>cases hu;exact h
   | j+2,hu=>simp at hu
 | 1,hu=>cases hu;exact .b ok
 | j+2,hu=>simp at hu
theorem rel_row {w:World} {F:Nat→Prop} {N:Nat} {sv:Value} {L:List ByteArray} (hF:∀ b,N≤b→F b) (h:w.ownsRow N 9 1 sv L.length (L.map .string)):sv.oneCell'=true∧(Rel w F (.ro 1 ((L.map (·.data.toList)).map .s)) sv∨L=[]):=by
 rcases h.2 with ⟨rfl,h0⟩ | ⟨g,cap,cur,rfl,hb,hg,h4⟩
 ·exact ⟨rfl, .inr (List.eq_nil_of_length_eq_zero h0)⟩
 ·refine ⟨rfl, .inl ?_⟩
  obtain ⟨k1,k2,k3,k4⟩:=h4
  have hlen:((L.map (·.data.toList)).map AV.s).length=L.length:=by simp
  have key:=Rel.ro (w:=w) (F:=F) 1 ((L.map (·.data.toList)).map .s) g 0 cap (L.map .string) (by decide) (by rw [hlen];exact k1) (hF g hb) (by simp) (fun j v hv=>?_) (fun v hv=>?_) (fun i j v hi hj hv=>?_)
  ·rw [hlen] at key;exact key
  ·rw [← k4,Nat.mul_one] at hv
   have:cur[j]?=some v:=by
    rw [List.getElem?_take] at hv
    split at hv
    ·rw [Array.getElem?_toList] at hv;exact hv
    ·cases hv
   simp [World.cell?,hg,this]
  ·obtain ⟨x,_,rfl⟩:=List.mem_map.1 hv
   rfl
  ·obtain rfl:j=0:=by omega
   rw [Nat.mul_one,Nat.add_zero,List.getElem?_map,Option.map_eq_some_iff] at hv
   obtain ⟨x,hx,rfl⟩:=hv
   have:(((L.map (·.data.toList)).map AV.s).getD i .un)=.s x.data.toList:=by
    rw [List.getD_eq_getElem?_getD,List.getElem?_map,List.getElem?_map,hx];rfl
   rw [this]
   exact .s x
theorem dollar_eq (s:ByteArray):pfxA s=dollar s.data.toList:=by
 unfold pfxA dollar
 rw [Lib.toList_data,toL_extract]
 rfl
theorem gv27_ok {C:Cfg} (ho:(C.own 27).all Option.isNone=true) (args:List AV) (r:AV) (h:G27 args=some r) (w:World) (F:Nat→Prop) (vs:Array Value) (hl:vs.size=args.length)
  (hv:∀ (j:Nat) (a:AV) (v:Value),args[j]?=some a→vs[j]?=some v→Rel w F a v):CallRuns Tryd.prog 27 vs w (PostOk C 27 w F r):=by
 unfold G27 at h
 split at h
 ·rename_i l
  split at h
  ·rename_i hle
   cases h
   match vs,hl,hv with
   | ⟨[x]⟩,_,hv =>
    have hx:=hv 0 _ x rfl rfl
    cases hx with
    | s q =>
     refine .inl ⟨Tryd.f27,(Tryd.f27.body).getD .skip,Tryd.func27,by kernel_rfl,by kernel_rfl,Calls.mono (way_calls q hle w) fun e w' he=>?_⟩
     obtain ⟨v,rfl,hb,hp⟩:=he
     refine ⟨v,rfl,⟨hb.os,hb.tape,hb.output,hb.size,hb.block⟩,?_⟩
     unfold ResOk
     rw [if_pos ho]
     have hF:∀ b,w.heap.size≤b→(fun b=>b < w.heap.size→F b) b:=fun b hb hlt=>by omega
     unfold wayAV
     rcases hp with ⟨c1,rfl⟩ | ⟨c1,c2,rfl⟩ | ⟨c1,c2,L,hL,hp⟩
     ·rw [Lib.toList_data] at c1
      rw [if_pos c1]
      exact rel_way rfl .nils
     ·rw [Lib.toList_data] at c1 c2
      rw [if_neg (by rw [c1];decide),if_pos c2]
      exact rel_way rfl .nils
     ·rw [Lib.toList_data] at c1 c2
      rw [if_neg (by rw [c1];decide),if_neg (by rw [c2];decide)]
      have hs:=Sp_split hL
      have hs':splitL (if dollar q.data.toList then q.data.toList.drop 2 else q.data.toList)=L.map (·.data.toList):=by
       rw [hs,← dollar_eq]
       cases pfxA q with
       | true =>
        simp only [if_true]
        rw [toL_extract,List.take_of_length_le (by rw [List.length_drop];exact Nat.le_refl _)]
       | false=>rfl
      rw [hs']
      have hall:(L.map (·.data.toList)).all nameB=L.all fun s=>nameB s.data.toList:=by simp [List.all_map,Function.comp_def]
      rw [hall,List.length_map]
      rcases hp with ⟨hbad,rfl⟩ | ⟨h1,h2,sv,rfl,hrow⟩
      ·rw [if_neg]
       ·exact rel_way rfl .nils
       ·rcases hbad with e | e
        ·rw [e];simp
        ·simp only [Bool.and_eq_true,decide_eq_true_eq,not_and];intro _;omega
      ·rw [if_pos (by rw [h1];simpa using h2),← dollar_eq]
       obtain ⟨o1,o2⟩:=rel_row hF hrow
       rcases o2 with o2 | o2
       ·exact rel_way o1 o2
       ·exfalso
        obtain ⟨x0,L',e⟩:=hL.cons
        rw [e] at o2;cases o2
  ·cases h
 ·cases h
end R3

namespace R3
open Go Go.Proofs Go.RowKit Go.Shelf Sx
def ren143:Ren:=⟨fun | 143=>79 | 219=>98 | 217=>116 | 225=>117 | 224=>118 | 267=>119 | 266=>145 | 314=>146 | n=>n,fun | 46=>173 | 146=>190 | 51=>56 | n=>n,fun n=>n⟩
theorem lay143:Lays.n143 Tryd.prog ren143:={
 mixed:=by kernel_rfl
 f143:=Tryd.func79.trans (congrArg some (by kernel_rfl))
 f217:=Tryd.func116.trans (congrArg some (by kernel_rfl))
 f219:=Tryd.func98.trans (congrArg some (by kernel_rfl))
 f224:=Tryd.func118.trans (congrArg some (by kernel_rfl))
 f225:=Tryd.func117.trans (congrArg some (by kernel_rfl))
 f266:=Tryd.func145.trans (congrArg some (by kernel_rfl))
 f267:=Tryd.func119.trans (congrArg some (by kernel_rfl))
 f314:=Tryd.func146.trans (congrArg some (by kernel_rfl))
 t3:=Tryd.underlying3
 a3:=Tryd.isAgg3
 z3:=Tryd.sizeOf3
 v3:=Tryd.zeroValue3
 t4:=Tryd.underlying4
 a4:=Tryd.isAgg4
 z4:=Tryd.sizeOf4
 v4:=Tryd.zeroValue4
 t5:=Tryd.underlying5
 a5:=Tryd.isAgg5
 z5:=Tryd.sizeOf5
 v5:=Tryd.zeroValue5
 t9:=Tryd.underlying9
 a9:=Tryd.isAgg9
 z9:=Tryd.sizeOf9
 v9:=Tryd.zeroValue9
 t46:=Tryd.underlying173
 a46:=Tryd.isAgg173
 z46:=Tryd.sizeOf173
 v46:=Tryd.zeroValue173
 t51:=Tryd.underlying56
 a51:=Tryd.isAgg56
 z51:=Tryd.sizeOf56
 v51:=Tryd.zeroValue56
 t146:=Tryd.underlying190
 a146:=Tryd.isAgg190
 z146:=Tryd.sizeOf190
 v146:=Tryd.zeroValue190
 g1:=by kernel_rfl }
def G79 (args:List AV):Option AV :=
 match args with
 | [.s l, .s sub]=>if l.length≤1000000000 then some (.int (Lib.index l sub)) else none
 | _=>none
theorem gv79_ok {C:Cfg} {mx:Int} (hgl:C.glob 1=some (1, .int mx)) (ho:(C.own 79).all Option.isNone=true) (args:List AV) (r:AV) (h:G79 args=some r) (w:World) (F:Nat→Prop) (vs:Array Value) (hG:GlobOk C w F) (hl:vs.size=args.length)
  (hv:∀ (j:Nat) (a:AV) (v:Value),args[j]?=some a→vs[j]?=some v→Rel w F a v):CallRuns Tryd.prog 79 vs w (PostOk C 79 w F r):=by
 have hm:w.cell? ⟨1,0,none⟩=some (.int .i64 mx):=by
  obtain ⟨r,o,h1,h2,h3,h4⟩:=hG 1 1 _ hgl
  simp only [Value.pointer.injEq,Option.some.injEq,Addr.mk.injEq,Nat.add_zero] at h1
  obtain ⟨v,q1,q2,q3⟩:=h4 0 (by decide)
  obtain ⟨rfl,rfl,_⟩:=h1
  have q3:Rel w F (.int mx) v:=q3
  cases q3
  exact q1
 unfold G79 at h
 split at h
 ·rename_i l sub
  split at h
  ·rename_i hle
   cases h
   match vs,hl,hv with
   | ⟨[x,y]⟩,_,hv =>
    have hx:=hv 0 _ x rfl rfl
    have hy:=hv 1 _ y rfl rfl
    cases hx with
    | s p =>
     cases hy with
     | s q =>
      refine .inl ⟨Tryd.f79,(Tryd.f79.body).getD .skip,Tryd.func79,by kernel_rfl,by kernel_rfl,Calls.mono (Any.strings_Index lay143 p q mx w (by have:p.size=p.data.toList.length:=rfl;omega) hm) fun e w' he=>?_⟩
      obtain ⟨rfl,rfl⟩:=he
      refine ⟨_,rfl,Ext.refl _,?_⟩
      unfold ResOk
      rw [if_pos ho]
      exact .int _
  ·cases h
 ·cases h
end R3

namespace R3
open Go Go.Proofs Go.RowKit Go.Shelf Sx
def ren156:Ren:=⟨fun | 156=>61 | 165=>85 | 166=>86 | 169=>87 | 240=>104 | 241=>105 | 276=>129 | 277=>130 | n=>n,fun | 31=>32 | 72=>137 | 76=>141 | 70=>135 | 37=>38 | 75=>140 | 127=>162 | 164=>181 | 80=>143 | n=>n,fun n=>n⟩
theorem lay156:Lays.n156 Tryd.prog ren156:={
 mixed:=by kernel_rfl
 f156:=Tryd.func61.trans (congrArg some (by kernel_rfl))
 f165:=Tryd.func85.trans (congrArg some (by kernel_rfl))
 f166:=Tryd.func86.trans (congrArg some (by kernel_rfl))
 f169:=Tryd.func87.trans (congrArg some (by kernel_rfl))
 f240:=Tryd.func104.trans (congrArg some (by kernel_rfl))
 f241:=Tryd.func105.trans (congrArg some (by kernel_rfl))
 f276:=Tryd.func129.trans (congrArg some (by kernel_rfl))
 f277:=Tryd.func130.trans (congrArg some (by kernel_rfl))
 t0:=Tryd.underlying0
 a0:=Tryd.isAgg0
 z0:=Tryd.sizeOf0
 v0:=Tryd.zeroValue0
 t3:=Tryd.underlying3
 a3:=Tryd.isAgg3
 z3:=Tryd.sizeOf3
 v3:=Tryd.zeroValue3
 t4:=Tryd.underlying4
 a4:=Tryd.isAgg4
 z4:=Tryd.sizeOf4
 v4:=Tryd.zeroValue4
 t9:=Tryd.underlying9
 a9:=Tryd.isAgg9
 z9:=Tryd.sizeOf9
 v9:=Tryd.zeroValue9
 t20:=Tryd.underlying20
 a20:=Tryd.isAgg20
 z20:=Tryd.sizeOf20
 v20:=Tryd.zeroValue20
 t31:=Tryd.underlying32
 a31:=Tryd.isAgg32
 z31:=Tryd.sizeOf32
 v31:=Tryd.zeroValue32
 t37:=Tryd.underlying38
 a37:=Tryd.isAgg38
 z37:=Tryd.sizeOf38
 v37:=Tryd.zeroValue38
 t70:=Tryd.underlying135
 a70:=Tryd.isAgg135
 z70:=Tryd.sizeOf135
 v70:=Tryd.zeroValue135
 t72:=Tryd.underlying137
 a72:=Tryd.isAgg137
 z72:=Tryd.sizeOf137
 v72:=Tryd.zeroValue137
 t75:=Tryd.underlying140
 a75:=Tryd.isAgg140
 z75:=Tryd.sizeOf140
 v75:=Tryd.zeroValue140
 t76:=Tryd.underlying141
 a76:=Tryd.isAgg141
 z76:=Tryd.sizeOf141
 v76:=Tryd.zeroValue141
 t127:=Tryd.underlying162
 a127:=Tryd.isAgg162
 z127:=Tryd.sizeOf162
 v127:=Tryd.zeroValue162
 t164:=Tryd.underlying181
 a164:=Tryd.isAgg181
 z164:=Tryd.sizeOf181
 v164:=Tryd.zeroValue181 }
theorem extra156:Builder.Extra Tryd.prog ren156:={
 sizeBuilder:=by kernel_rfl
 liesBuilder:=by kernel_rfl
 t5:=Tryd.underlying5
 a5:=Tryd.isAgg5
 z5:=Tryd.sizeOf5
 v5:=Tryd.zeroValue5
 infoByte:=by kernel_rfl
 cellsByte:=by kernel_rfl
 sizeByte:=by kernel_rfl
 neB5:=by decide }
end R3

namespace R3
open Go Go.Proofs Go.RowKit Go.Shelf Sx
def strsA:List AV→Option (List (List UInt8))
 | []=>some []
 | .s x :: r=>(strsA r).map (x :: ·)
 | _ :: _=>none
def G61 (args:List AV):Option AV :=
 match args with
 | [.nils, .s _]=>some (.s [])
 | [.ro k l, .s sep]=>if k=1 then (strsA l).bind fun xs=>if xs.length≤1000000000∧(Lib.join xs sep).length≤1000000000 then some (.s (Lib.join xs sep)) else none else none
 | _=>none
theorem strsA_eq:∀ {l:List AV} {xs:List (List UInt8)},strsA l=some xs→l=xs.map .s
 | [],xs,h=>by cases h;rfl
 | a :: r,xs,h=>by
  cases a with
  | s x =>
   unfold strsA at h
   cases hr:strsA r with
   | none=>rw [hr] at h;cases h
   | some ys=>rw [hr] at h;cases h;rw [strsA_eq hr];rfl
  | _=>cases h
theorem vals_strs {w:World} {F:Nat→Prop}:∀ (xs:List (List UInt8)) (vs:List Value),vs.length=xs.length→(∀ (i:Nat) v x,xs[i]?=some x→vs[i]?=some v→Rel w F (.s x) v)→∃ bs:List ByteArray,vs=bs.map .string∧bs.map (·.data.toList)=xs
 | [],[],_,_=>⟨[],rfl,rfl⟩
 | x :: r,v :: vs,hl,h=>by
  obtain ⟨bs,e1,e2⟩:=vals_strs r vs (by simpa using hl) (fun i v x h1 h2=>h (i+1) v x h1 h2)
  have h0:=h 0 v x rfl rfl
  cases h0 with
  | s b=>exact ⟨b :: bs,by rw [e1];rfl,by rw [← e2];rfl⟩
theorem gv61_ok {C:Cfg} (ho:(C.own 61).all Option.isNone=true) (args:List AV) (r:AV) (h:G61 args=some r) (w:World) (F:Nat→Prop) (vs:Array Value) (hG:GlobOk C w F) (hl:vs.size=args.length)
  (hv:∀ (j:Nat) (a:AV) (v:Value),args[j]?=some a→vs[j]?=some v→Rel w F a v):CallRuns Tryd.prog 61 vs w (PostOk C 61 w F r):=by
 have none':∀ (a:Option Addr) (c:Nat) (q:ByteArray),CallRuns Tryd.prog 61 #[.slice a 0 c, .string q] w (PostOk C 61 w F (.s [])):=fun a c q =>
  .inl ⟨Tryd.f61,(Tryd.f61.body).getD .skip,Tryd.func61,by kernel_rfl,by kernel_rfl,Calls.mono (Any.strings_Join_none lay156 extra156 a c q w) fun e w' he=>by
   obtain ⟨rfl,rfl⟩:=he
   refine ⟨_,rfl,Ext.refl _,?_⟩
   unfold ResOk
   rw [if_pos ho]
   exact .s ⟨#[]⟩⟩
 unfold G61 at h
 split at h
 ·rename_i sep
  cases h
  match vs,hl,hv with
  | ⟨[x,y]⟩,_,hv =>
   have hx:=hv 0 _ x rfl rfl
   have hy:=hv 1 _ y rfl rfl
   cases hx
   cases hy with
   | s q=>exact none' none 0 q
 ·rename_i k l sep
  split at h
  ·rename_i hk
   subst hk
   cases hxs:strsA l with
   | none=>rw [hxs] at h;cases h
   | some xs =>
    rw [hxs,Option.bind_some] at h
    split at h
    ·rename_i hle
     cases h
     have hleq:=strsA_eq hxs
     match vs,hl,hv with
     | ⟨[x,y]⟩,_,hv =>
      have hx:=hv 0 _ x rfl rfl
      have hy:=hv 1 _ y rfl rfl
      cases hy with
      | s q =>
       cases hx with
       | ro0 _ a c =>
        have:xs=[]:=by cases xs with
         | nil=>rfl
         | cons _ _=>cases hleq
        subst this
        exact none' a c q
       | ro _ _ b off c ys hk hc hF hl' hx' h1 hr =>
        subst hleq
        obtain ⟨bs,e1,e2⟩:=vals_strs (w:=w) (F:=F) xs ys (by simpa using hl') (fun i v x g1 g2=>by
         have hi:i < xs.length:=by
          rw [List.getElem?_eq_some_iff] at g1
          exact g1.1
         have:=hr i 0 v (by simpa using hi) (by decide) (by simpa using g2)
         have e:((xs.map AV.s).getD i .un).cell 0=.s x:=by
          rw [List.getD_eq_getElem?_getD,List.getElem?_map,g1];rfl
         rw [e] at this
         exact this)
        subst e1
        subst e2
        have el:((bs.map (·.data.toList)).map AV.s).length=bs.length:=by simp
        rw [el]
        rw [el] at hc
        cases bs with
        | nil=>exact none' _ c q
        | cons b0 bs =>
         have hcells:∀ (j:Nat) x,(b0 :: bs)[j]?=some x→w.cell? ⟨b,off+j,none⟩=some (.string x):=fun j x hj=>hx' j (.string x) (by rw [List.getElem?_map,hj];rfl)
         have hbk:b < w.heap.size:=cell_lt (hcells 0 b0 rfl)
         have hle1:(b0 :: bs).length≤1000000000:=by simpa using hle.1
         refine .inl ⟨Tryd.f61,(Tryd.f61.body).getD .skip,Tryd.func61,by kernel_rfl,by kernel_rfl,Calls.mono (Any.strings_Join lay156 extra156 b off c (b0 :: bs) q w hcells hbk (by omega) hc (by have:=hle.2;omega)) fun e w' he=>?_⟩
         obtain ⟨rfl,hb⟩:=he
         refine ⟨_,rfl,⟨hb.os,hb.tape,hb.output,hb.size,hb.block⟩,?_⟩
         unfold ResOk
         rw [if_pos ho]
         exact Rel.s ⟨(Lib.join ((b0 :: bs).map (·.data.toList)) q.data.toList).toArray⟩
    ·cases h
  ·cases h
 ·cases h
end R3

namespace R3
open Go Sx
def tyTab:List (Nat×Ty):=[
 (3,{ size:=1,bytes:=8,kd:=.int .i64,elem:=0,zero:=[.int 0],fields:=[],eqk:=none }),
 (4,{ size:=1,bytes:=1,kd:=.bool,elem:=0,zero:=[.b false],fields:=[],eqk:=none }),
 (5,{ size:=1,bytes:=1,kd:=.int .u8,elem:=0,zero:=[.u8 0],fields:=[],eqk:=none }),
 (9,{ size:=1,bytes:=16,kd:=.str,elem:=0,zero:=[.s []],fields:=[],eqk:=none }),
 (23,{ size:=1,bytes:=24,kd:=.slice,elem:=36,zero:=[.nils],fields:=[],eqk:=none }),
 (24,{ size:=1,bytes:=8,kd:=.int .i64,elem:=0,zero:=[.int 0],fields:=[],eqk:=none }),
 (31,{ size:=1,bytes:=1,kd:=.int .u8,elem:=0,zero:=[.u8 0],fields:=[],eqk:=none }),
 (32,{ size:=1,bytes:=24,kd:=.slice,elem:=9,zero:=[.nils],fields:=[],eqk:=none }),
 (34,{ size:=2,bytes:=32,kd:=.struct,elem:=0,zero:=[.b false, .nils],fields:=[(0,4),(1,32)],eqk:=none }),
 (36,{ size:=5,bytes:=64,kd:=.struct,elem:=0,zero:=[.u8 0, .int 0, .s [], .b false, .nils],fields:=[(0,31),(1,3),(2,9),(3,34)],eqk:=none }),
 (47,{ size:=1,bytes:=24,kd:=.slice,elem:=61,zero:=[.nils],fields:=[],eqk:=none }),
 (48,{ size:=1,bytes:=24,kd:=.slice,elem:=3,zero:=[.nils],fields:=[],eqk:=none }),
 (50,{ size:=2,bytes:=48,kd:=.struct,elem:=0,zero:=[.nils, .nils],fields:=[(0,47),(1,48)],eqk:=none }),
 (58,{ size:=1,bytes:=1,kd:=.int .u8,elem:=0,zero:=[.u8 0],fields:=[],eqk:=none }),
 (59,{ size:=1,bytes:=1,kd:=.int .u8,elem:=0,zero:=[.u8 0],fields:=[],eqk:=none }),
 (61,{ size:=9,bytes:=120,kd:=.struct,elem:=0,zero:=[.u8 0, .int 0, .s [], .b false, .nils, .nils, .nils, .b false, .u8 0],fields:=[(0,58),(1,3),(2,9),(3,34),(5,48),(6,48),(7,4),(8,59)],eqk:=none }),
 (146,{ size:=4,bytes:=80,kd:=.struct,elem:=0,zero:=[.nils, .int 0, .nils, .nils],fields:=[(0,23),(1,3),(2,50)],eqk:=none }),
 (147,{ size:=1,bytes:=8,kd:=.ptr,elem:=0,zero:=[.nilp],fields:=[],eqk:=none }),
 (151,{ size:=2,bytes:=16,kd:=.struct,elem:=0,zero:=[.int 0, .int 0],fields:=[(0,3),(1,24)],eqk:=some [.i, .i] })
]
def planTab:List ((Nat×Nat)×(Plan×List Nat)):=[((8,5),(.seq [(0,true),(2,true),(1,false),(3,false),(4,true),(5,true),(6,true),(7,true),(8,true),(9,true),(10,true),(11,true),(12,true),(13,false),(14,true),(15,true),(16,true),(18,true),(17,false),(19,false),(20,true),(21,true),(22,true)] .done,[])),
 ((25,6),(.seq [(0,true),(1,true),(2,true),(3,true),(4,true),(5,true),(6,true),(7,true),(8,false),(9,true)] .done,[])),
 ((28,16),(.seq [(0,true),(1,true),(2,true),(3,true),(4,true),(5,true),(6,false),(7,false),(8,true),(9,false)] .done,[1000009])),
 ((31,6),(.seq [(0,true),(1,true),(2,true),(3,true),(4,true),(5,true),(6,true),(7,true),(8,true),(9,true),(10,true)] .done,[])),
 ((99,4),(.seq [(0,true),(1,true),(2,true),(4,true),(5,true),(3,false),(6,false),(7,true)] .done,[])),
 ((88,2),(.seq [(0,true),(1,true),(2,true),(3,true),(4,true),(5,true),(6,true),(7,true),(8,true),(9,true)] .done,[])),
 ((88,3),(.seq [(0,true),(1,true),(2,true),(3,true),(4,true),(5,true),(6,true),(7,true),(8,true),(9,true),(10,false),(11,false)] .done,[1000011])),
 ((106,2),(.seq [(0,true),(1,true),(2,true),(3,true),(4,true),(5,true),(6,true),(7,true),(8,true),(9,true),(10,true),(11,true),(12,true),(13,false),(14,false),(15,true),(16,true),(17,true),(18,false)] .done,[1000018])),
 ((106,15),(.seq [(0,true),(1,true),(2,true),(4,true),(3,false),(5,true)] .done,[])),
 ((131,5),(.seq [(0,true),(1,true),(2,true),(3,true),(4,true),(5,true),(6,true),(7,true),(8,true),(9,true),(10,true),(11,true),(12,true),(13,true),(14,true),(15,true),(16,true),(17,true),(18,true),(19,true),(20,true),(21,true),(22,true),(23,true)] .done,[])),
 ((131,7),(.seq [(0,true),(1,true),(2,true),(3,true),(4,true),(5,true),(6,true),(7,true),(8,true),(9,true),(10,true),(11,true),(12,false),(13,true)] .done,[])),
 ((131,12),(.seq [(0,true),(1,true),(2,true),(3,true),(4,true),(5,true),(6,true),(7,true),(8,true),(9,true),(10,true),(11,true),(12,true),(13,true),(14,true),(15,false),(16,true),(17,true),(18,false)] .done,[1000015,1000018])),
 ((131,13),(.seq [(0,true),(1,true),(2,true),(3,true),(4,true),(5,true),(6,true),(7,true),(8,true),(9,true),(10,true)] .done,[])),
 ((131,15),(.seq [(0,true),(1,true),(2,true),(3,true),(4,true),(5,true),(6,true),(7,true),(8,true),(9,true),(10,true),(11,true),(12,true)] .done,[])),
 ((131,16),(.seq [(0,true),(1,true),(2,true),(3,true),(4,true),(5,true),(6,true),(7,true),(8,true),(9,true),(10,true),(11,true),(12,false),(13,true)] .done,[]))]
def stopTab:List (Nat×List (Nat×List (Nat×Option (Nat×Nat))×List (Nat×List (Nat×Nat×Nat)))):=[(4,[(7,[(0,none),(3,none),(6,none)],[]),(8,[(0,none),(3,none),(6,none)],[]),(13,[(0,none),(3,none),(6,none),(7,none),(8,none)],[])]),
 (5,[(4,[(0,none),(1,none),(2,none),(7,none)],[]),(10,[(0,none),(1,none),(2,none),(8,none),(9,none)],[]),(15,[(0,none),(2,none),(8,none),(10,none)],[])]),
 (24,[(3,[(0,none),(4,some (36,5)),(5,none)],[]),(5,[(0,none),(4,some (36,5)),(5,none),(6,none)],[]),(11,[(0,none),(4,some (36,5)),(5,none),(6,none)],[])]),
 (25,[(4,[(0,none),(1,none),(5,none)],[])]),
 (28,[(9,[(0,none),(2,none),(4,none)],[(2,[]),(4,[(1,9,1)])]),(11,[(0,none),(2,none),(4,none),(5,none),(6,none)],[(2,[]),(4,[(1,9,1)])]),(12,[(0,none),(2,none),(4,none),(5,none),(6,none)],[(2,[]),(4,[(1,9,1)])])]),
 (29,[(2,[(0,none),(6,none),(7,none)],[])]),
 (30,[(4,[(0,none),(3,none)],[])]),
 (31,[(4,[(2,none),(3,none),(5,none)],[(2,[]),(3,[])])]),
 (33,[(3,[(1,none),(3,none),(4,none)],[(1,[])]),(7,[(1,none),(3,none),(4,none)],[(1,[])])]),
 (53,[(2,[(0,none),(1,none),(5,none)],[(71,[(0,36,5)])]),(6,[(0,none),(1,none),(5,none),(6,none)],[(71,[(0,36,5)])])]),
 (56,[(11,[(2,none)],[(2,[])]),(12,[(0,none),(2,none)],[(2,[])]),(19,[(0,none),(2,none),(4,none)],[(2,[])])]),
 (80,[(18,[(0,none),(2,none),(4,none)],[(2,[])])]),
 (81,[(1,[(0,none)],[]),(3,[(0,none)],[])]),
 (120,[(1,[(0,none),(1,none)],[])]),
 (121,[(1,[(0,none),(1,none)],[])]),
 (88,[(2,[(0,none),(1,none),(6,some (3,1))],[(61,[(2,61,9)])])]),
 (106,[(11,[(0,none),(2,none),(4,none),(8,none)],[(4,[]),(71,[(2,61,9)])]),(14,[(0,none),(2,none),(4,none),(8,none),(9,none)],[(4,[]),(71,[(2,61,9)])]),(19,[(0,none),(8,none),(9,none)],[(71,[(2,61,9)])])]),
 (131,[(13,[(0,none),(6,none)],[(6,[]),(152,[(2,61,9)])])])]
def ownTab:List (Nat×List (Option (Nat×Nat))):=[]
def sigTab:List (Nat×Sig):=[(53,{ ps:=[.v, .clo 54 [0]],objs:=[((.cap 1 0),[.own 36 5])],outs:=[((.cap 1 0),[.own 36 5])] }),
 (54,{ ps:=[.v, .obj 0],objs:=[((.arg 1),[.own 36 5])],outs:=[((.arg 1),[.own 36 5])] }),
 (88,{ ps:=[.obj 0, .v],objs:=[((.arg 0),[.v, .v, .own 61 9, .v])],outs:=[((.arg 0),[.v, .v, .own 61 9, .v])] }),
 (106,{ ps:=[.obj 0, .v, .v],objs:=[((.arg 0),[.v, .v, .own 61 9, .v])],outs:=[((.arg 0),[.v, .v, .own 61 9, .v])] }),
 (131,{ ps:=[.obj 0, .v, .v, .v],objs:=[((.arg 0),[.v, .v, .own 61 9, .v])],outs:=[((.arg 0),[.v, .v, .own 61 9, .v])] })]
def truncTab:List (Nat×List Nat):=[]
def C (mx:Int):Cfg:=mkCfg tyTab planTab stopTab ownTab truncTab (fun g=>bif Nat.beq g 1 then some (1, .int mx) else none) sigTab (fun g=>bif Nat.beq g 27 then some G27 else bif Nat.beq g 79 then some G79 else bif Nat.beq g 61 then some G61 else none) (fun t=>Nat.beq t 151)
end R3

open Go Go.Proofs Sx
namespace R3
theorem tys:tyTab.all (fun p=>tyB Tryd.prog p.1 p.2)=true:=by kernel_rfl
theorem fns (mx:Int):fnsB (C mx) 0 Tryd.prog.funcs.toList=true:=by kernel_rfl
theorem mixed:Tryd.prog.follows .mixedOrders=true:=by kernel_rfl
theorem idxs:idxB 145 0 Tryd.prog.funcs.toList=true:=by kernel_rfl
theorem gvs (mx:Int):∀ (g:Nat) (G:List AV→Option AV),(C mx).gv g=some G→((C mx).own g).all Option.isNone=true→∀ (args:List AV) (r:AV),G args=some r→∀ (w:World) (F:Nat→Prop) (vs:Array Value),GlobOk (C mx) w F→vs.size=args.length →
   (∀ (j:Nat) (a:AV) (v:Value),args[j]?=some a→vs[j]?=some v→Rel w F a v)→CallRuns Tryd.prog g vs w (PostOk (C mx) g w F r):=by
 intro g G h ho args r hr w F vs hG hl hv
 have h:(bif Nat.beq g 27 then some G27 else bif Nat.beq g 79 then some G79 else bif Nat.beq g 61 then some G61 else none)=some G:=h
 cases h1:Nat.beq g 27 with
 | true =>
  rw [h1] at h;cases h
  obtain rfl:=Nat.eq_of_beq_eq_true h1
  exact gv27_ok ho args r hr w F vs hl hv
 | false =>
  rw [h1] at h
  cases h2:Nat.beq g 79 with
  | true =>
   rw [h2] at h;cases h
   obtain rfl:=Nat.eq_of_beq_eq_true h2
   exact gv79_ok (mx:=mx) rfl ho args r hr w F vs hG hl hv
  | false =>
   rw [h2] at h
   cases h3:Nat.beq g 61 with
   | true =>
    rw [h3] at h;cases h
    obtain rfl:=Nat.eq_of_beq_eq_true h3
    exact gv61_ok ho args r hr w F vs hG hl hv
   | false=>rw [h3] at h;cases h
theorem fit (mx:Int):Fit (C mx) Tryd.prog:=Fit.of (tab:=tyTab) rfl tys (fns mx) mixed (ext_of idxs run145) (gvs mx)
end R3

namespace R3
open Go Go.Proofs Sx
theorem maxLen {W:World} (h:W.ShapedOpen Tryd.prog):∃ m,W.cell? ⟨1,0,none⟩=some (.int .i64 m) :=
 cell_of_shapedOpen_int (zero := #[.int .i64 0]) (t:=3) h (of_decide_eq_true (by kernel_rfl)) (by kernel_rfl) rfl (by kernel_rfl) (by kernel_rfl) Tryd.underlying3
theorem globOk {W:World} {m:Int} (h:W.cell? ⟨1,0,none⟩=some (.int .i64 m)):GlobOk (C m) W (fun _=>True):=by
 intro g k e hg
 have hg:(bif Nat.beq g 1 then some (1,AV.int m) else none)=some (k,e):=hg
 cases h1:Nat.beq g 1 with
 | false=>rw [h1] at hg;cases hg
 | true =>
  rw [h1] at hg;cases hg
  obtain rfl:=Nat.eq_of_beq_eq_true h1
  refine ⟨1,0,rfl,trivial,cell_lt h,fun j hj=>?_⟩
  obtain rfl:j=0:=by omega
  exact ⟨.int .i64 m,h,rfl,Rel.int m⟩
mutual
def flatV:DataW Unit→List Value
 | .lit (.int k n)=>[.int k n]
 | .agg ps=>flatVs ps
 | _=>[]
def flatVs:List (DataW Unit)→List Value
 | []=>[]
 | d :: r=>flatV d ++ flatVs r
end
end R3

open Go Go.Proofs Sx
namespace R3I
theorem tys:tyTab.all (fun p=>tyB Tryd.prog p.1 p.2)=true:=by kernel_rfl
theorem fns (mx:Int):fnsB (C mx) 0 Tryd.prog.funcs.toList=true:=by kernel_rfl
theorem fit (mx:Int):Fit (C mx) Tryd.prog:=Fit.of (tab:=tyTab) rfl tys (fns mx) R3.mixed (ext_of R3.idxs R3.run145) (fun g G h=>by cases h)
end R3I

namespace R3I
open Go Go.Proofs Sx
variable {mx:Int}
noncomputable def body50:Code:=(Tryd.f50.body).getD .skip
noncomputable def X50 (call:CallT) (run:RunT) (a0 a1:UInt8) (a2:Bool) (a3 a4 a5 a6:UInt8) (a7:Bool) (a8:UInt8) (a9:List UInt8):Option AV :=
 condM (.b (ueq a0 0))
 (some (.u8 1))
 ((selW (.b (ueq a0 17)) true ((selW (.b (ueq a1 1)) false (some (.b (ueq a1 2))) (.b true)).bind fun v1=>some v1) (.b false)).bind fun v2=>condM v2
 (some (.u8 2))
 ((selW (.b (ueq a0 17)) true (some (.b (ueq a1 3))) (.b false)).bind fun v3=>(selW v3 true ((call 74 [.ag [.u8 a0, .u8 a1, .b a2, .u8 a3, .u8 a4, .u8 a5, .u8 a6, .b a7, .u8 a8, .s a9]]).bind fun v4=>some v4) (.b false)).bind fun v5=>condM v5
 (some (.u8 7))
 ((selW (.b (ueq a0 17)) true (some (.b (ueq a1 4))) (.b false)).bind fun v6=>(selW v6 true ((call 74 [.ag [.u8 a0, .u8 a1, .b a2, .u8 a3, .u8 a4, .u8 a5, .u8 a6, .b a7, .u8 a8, .s a9]]).bind fun v7=>some v7) (.b false)).bind fun v8=>condM v8
 (some (.u8 9))
 ((selW (.b (une a0 8)) false (some (.b (ueq a4 0))) (.b true)).bind fun v9=>condM v9
 (some (.u8 0))
 (condM (.b (ueq a3 0))
 (some (.u8 3))
 ((selW (.b (ueq a3 2)) true ((call 74 [.ag [.u8 a0, .u8 a1, .b a2, .u8 a3, .u8 a4, .u8 a5, .u8 a6, .b a7, .u8 a8, .s a9]]).bind fun v10=>some v10) (.b false)).bind fun v11=>condM v11
 (some (.u8 8))
 ((selW (.b (ueq a3 3)) true ((call 74 [.ag [.u8 a0, .u8 a1, .b a2, .u8 a3, .u8 a4, .u8 a5, .u8 a6, .b a7, .u8 a8, .s a9]]).bind fun v12=>some v12) (.b false)).bind fun v13=>condM v13
 (some (.u8 10))
 (condM (.b (une a3 1))
 (some (.u8 0))
 (condM (.b (ueq a5 0))
 (some (.u8 4))
 (condM (.b (ueq a5 3))
 (some (.u8 5))
 (condM (.b (ueq a5 4))
 (some (.u8 6))
 (some (.u8 0)))))))))))))
section
variable (call:CallT) (run:RunT) (a0 a1:UInt8) (a2:Bool) (a3 a4 a5 a6:UInt8) (a7:Bool) (a8:UInt8) (a9:List UInt8)
theorem text50:unr (C mx) call run 50 Tryd.f50 400 [.code body50] (initF (C mx) 50 Tryd.f50.ntmps [.ag [.u8 a0, .u8 a1, .b a2, .u8 a3, .u8 a4, .u8 a5, .u8 a6, .b a7, .u8 a8, .s a9]])=X50 call run a0 a1 a2 a3 a4 a5 a6 a7 a8 a9:=by
 kernel_rfl
theorem c50 {r:AV} (h:X50 (semCall (C mx) Tryd.prog) (semRun (C mx) Tryd.prog 50 Tryd.f50) a0 a1 a2 a3 a4 a5 a6 a7 a8 a9=some r):semCall (C mx) Tryd.prog 50 [.ag [.u8 a0, .u8 a1, .b a2, .u8 a3, .u8 a4, .u8 a5, .u8 a6, .b a7, .u8 a8, .s a9]]=some r :=
 semCall_unr (fn:=Tryd.f50) (c:=body50) (by kernel_rfl) (by kernel_rfl) 400 (by kernel_rfl) ((text50 _ _ a0 a1 a2 a3 a4 a5 a6 a7 a8 a9).trans h)
end
end R3I

namespace R3I
open Go Go.Proofs Sx
variable {mx:Int}
noncomputable def body51:Code:=(Tryd.f51.body).getD .skip
section
variable (run:RunT) (a0 a1:UInt8) (a2:Bool) (a3 a4 a5 a6:UInt8) (a7:Bool) (a8:UInt8) (a9:List UInt8) (a10 a11:UInt8) (a12:Bool) (a13 a14 a15 a16:UInt8) (a17:Bool) (a18:UInt8) (a19:List UInt8)
noncomputable def K51_6:List Item:=(kAt 6 body51 []).getD []
def S51_6:St:=St.ofL [(1, .cell (.ptr 1 0)),(2, .cell (.ptr 2 0))] [(1,some [.val (.u8 a0), .val (.u8 a1), .val (.b a2), .val (.u8 a3), .val (.u8 a4), .val (.u8 a5), .val (.u8 a6), .val (.b a7), .val (.u8 a8), .val (.s a9)]),(2,some [.val (.u8 a10), .val (.u8 a11), .val (.b a12), .val (.u8 a13), .val (.u8 a14), .val (.u8 a15), .val (.u8 a16), .val (.b a17), .val (.u8 a18), .val (.s a19)])]
noncomputable def F51_6:Option AV:=run K51_6 (S51_6 a0 a1 a2 a3 a4 a5 a6 a7 a8 a9 a10 a11 a12 a13 a14 a15 a16 a17 a18 a19)
end
noncomputable def X51 (call:CallT) (run:RunT) (a0 a1:UInt8) (a2:Bool) (a3 a4 a5 a6:UInt8) (a7:Bool) (a8:UInt8) (a9:List UInt8):Option AV :=
 (call 50 [.ag [.u8 a0, .u8 a1, .b a2, .u8 a3, .u8 a4, .u8 a5, .u8 a6, .b a7, .u8 a8, .s a9]]).bind fun v1=>(binI .eql v1 (.u8 0)).bind fun v2=>condM v2
 (some (.ag [.u8 20, .u8 0, .b false, .u8 0, .u8 0, .u8 0, .u8 0, .b false, .u8 0, .s []]))
 ((binI .eql v1 (.u8 4)).bind fun v3=>condM v3
 (F51_6 run a0 a1 a2 a3 a4 2 a6 a7 a8 a9 0 0 false 0 0 0 0 false 0 [])
 (F51_6 run a0 a1 a2 a3 a4 a5 a6 a7 a8 a9 0 0 false 0 0 0 0 false 0 []))
section
variable (call:CallT) (run:RunT) (a0 a1:UInt8) (a2:Bool) (a3 a4 a5 a6:UInt8) (a7:Bool) (a8:UInt8) (a9:List UInt8)
theorem text51:unr (C mx) call run 51 Tryd.f51 400 [.code body51] (initF (C mx) 51 Tryd.f51.ntmps [.ag [.u8 a0, .u8 a1, .b a2, .u8 a3, .u8 a4, .u8 a5, .u8 a6, .b a7, .u8 a8, .s a9]])=X51 call run a0 a1 a2 a3 a4 a5 a6 a7 a8 a9:=by
 kernel_rfl
theorem c51 {r:AV} (h:X51 (semCall (C mx) Tryd.prog) (semRun (C mx) Tryd.prog 51 Tryd.f51) a0 a1 a2 a3 a4 a5 a6 a7 a8 a9=some r):semCall (C mx) Tryd.prog 51 [.ag [.u8 a0, .u8 a1, .b a2, .u8 a3, .u8 a4, .u8 a5, .u8 a6, .b a7, .u8 a8, .s a9]]=some r :=
 semCall_unr (fn:=Tryd.f51) (c:=body51) (by kernel_rfl) (by kernel_rfl) 400 (by kernel_rfl) ((text51 _ _ a0 a1 a2 a3 a4 a5 a6 a7 a8 a9).trans h)
end
noncomputable def X51_6 (call:CallT) (run:RunT) (a0 a1:UInt8) (a2:Bool) (a3 a4 a5 a6:UInt8) (a7:Bool) (a8:UInt8) (a9:List UInt8) (a10 a11:UInt8) (a12:Bool) (a13 a14 a15 a16:UInt8) (a17:Bool) (a18:UInt8) (a19:List UInt8):Option AV :=
 some (.ag [.u8 a0, .u8 a1, .b a2, .u8 a3, .u8 a4, .u8 a5, .u8 a6, .b a7, .u8 a8, .s a9])
section
variable (call:CallT) (run:RunT) (a0 a1:UInt8) (a2:Bool) (a3 a4 a5 a6:UInt8) (a7:Bool) (a8:UInt8) (a9:List UInt8) (a10 a11:UInt8) (a12:Bool) (a13 a14 a15 a16:UInt8) (a17:Bool) (a18:UInt8) (a19:List UInt8)
theorem text51_6:step (C mx) call 51 Tryd.f51 (unr (C mx) call run 51 Tryd.f51 400) K51_6 (S51_6 a0 a1 a2 a3 a4 a5 a6 a7 a8 a9 a10 a11 a12 a13 a14 a15 a16 a17 a18 a19)=X51_6 call run a0 a1 a2 a3 a4 a5 a6 a7 a8 a9 a10 a11 a12 a13 a14 a15 a16 a17 a18 a19:=by
 kernel_rfl
end
section
variable (a0 a1:UInt8) (a2:Bool) (a3 a4 a5 a6:UInt8) (a7:Bool) (a8:UInt8) (a9:List UInt8) (a10 a11:UInt8) (a12:Bool) (a13 a14 a15 a16:UInt8) (a17:Bool) (a18:UInt8) (a19:List UInt8)
theorem r51_6 {r:AV} (h:X51_6 (semCall (C mx) Tryd.prog) (semRun (C mx) Tryd.prog 51 Tryd.f51) a0 a1 a2 a3 a4 a5 a6 a7 a8 a9 a10 a11 a12 a13 a14 a15 a16 a17 a18 a19=some r):F51_6 (semRun (C mx) Tryd.prog 51 Tryd.f51) a0 a1 a2 a3 a4 a5 a6 a7 a8 a9 a10 a11 a12 a13 a14 a15 a16 a17 a18 a19=some r :=
 semRun_unr 400 ((text51_6 _ _ a0 a1 a2 a3 a4 a5 a6 a7 a8 a9 a10 a11 a12 a13 a14 a15 a16 a17 a18 a19).trans h)
end
end R3I

namespace R3I
open Go Go.Proofs Sx
variable {mx:Int}
noncomputable def body59:Code:=(Tryd.f59.body).getD .skip
noncomputable def X59 (call:CallT) (run:RunT) (a0 a1:List UInt8):Option AV :=
 (call 83 [.s a0, .s a1]).bind fun v1=>some v1
section
variable (call:CallT) (run:RunT) (a0 a1:List UInt8)
theorem text59:unr (C mx) call run 59 Tryd.f59 400 [.code body59] (initF (C mx) 59 Tryd.f59.ntmps [.s a0, .s a1])=X59 call run a0 a1:=by
 kernel_rfl
theorem c59 {r:AV} (h:X59 (semCall (C mx) Tryd.prog) (semRun (C mx) Tryd.prog 59 Tryd.f59) a0 a1=some r):semCall (C mx) Tryd.prog 59 [.s a0, .s a1]=some r :=
 semCall_unr (fn:=Tryd.f59) (c:=body59) (by kernel_rfl) (by kernel_rfl) 400 (by kernel_rfl) ((text59 _ _ a0 a1).trans h)
end
end R3I

namespace R3I
open Go Go.Proofs Sx
variable {mx:Int}
noncomputable def body68:Code:=(Tryd.f68.body).getD .skip
section
variable (run:RunT) (a0 a1:UInt8) (a2:Bool) (a3 a4 a5 a6:UInt8) (a7:Bool) (a8:UInt8) (a9:List UInt8) (a10 a11:UInt8) (a12:Bool) (a13 a14 a15 a16:UInt8) (a17:Bool) (a18:UInt8) (a19:List UInt8)
noncomputable def K68_11:List Item:=(kAt 11 body68 []).getD []
def S68_11:St:=St.ofL [(1, .cell (.ptr 1 0)),(4, .cell (.ptr 4 0))] [(1,some [.val (.u8 a0), .val (.u8 a1), .val (.b a2), .val (.u8 a3), .val (.u8 a4), .val (.u8 a5), .val (.u8 a6), .val (.b a7), .val (.u8 a8), .val (.s a9)]),(4,some [.val (.u8 a10), .val (.u8 a11), .val (.b a12), .val (.u8 a13), .val (.u8 a14), .val (.u8 a15), .val (.u8 a16), .val (.b a17), .val (.u8 a18), .val (.s a19)])]
noncomputable def F68_11:Option AV:=run K68_11 (S68_11 a0 a1 a2 a3 a4 a5 a6 a7 a8 a9 a10 a11 a12 a13 a14 a15 a16 a17 a18 a19)
end
section
variable (run:RunT) (a0 a1 a2:UInt8) (a3:Bool) (a4 a5 a6 a7:UInt8) (a8:Bool) (a9:UInt8) (a10:List UInt8) (a11 a12:UInt8) (a13:Bool) (a14 a15 a16 a17:UInt8) (a18:Bool) (a19:UInt8) (a20:List UInt8) (a21 a22:UInt8) (a23:Bool) (a24 a25 a26 a27:UInt8) (a28:Bool) (a29:UInt8) (a30:List UInt8)
noncomputable def K68_12:List Item:=(kAt 12 body68 []).getD []
def S68_12:St:=St.ofL [(1, .cell (.ptr 1 0)),(3, .cell (.ptr 3 0)),(4, .cell (.ptr 4 0)),(48, .cell (.val (.u8 a0)))] [(1,some [.val (.u8 a1), .val (.u8 a2), .val (.b a3), .val (.u8 a4), .val (.u8 a5), .val (.u8 a6), .val (.u8 a7), .val (.b a8), .val (.u8 a9), .val (.s a10)]),(3,some [.val (.u8 a11), .val (.u8 a12), .val (.b a13), .val (.u8 a14), .val (.u8 a15), .val (.u8 a16), .val (.u8 a17), .val (.b a18), .val (.u8 a19), .val (.s a20)]),(4,some [.val (.u8 a21), .val (.u8 a22), .val (.b a23), .val (.u8 a24), .val (.u8 a25), .val (.u8 a26), .val (.u8 a27), .val (.b a28), .val (.u8 a29), .val (.s a30)])]
noncomputable def F68_12:Option AV:=run K68_12 (S68_12 a0 a1 a2 a3 a4 a5 a6 a7 a8 a9 a10 a11 a12 a13 a14 a15 a16 a17 a18 a19 a20 a21 a22 a23 a24 a25 a26 a27 a28 a29 a30)
end
section
variable (run:RunT) (a0 a1:UInt8) (a2:Bool) (a3 a4 a5 a6:UInt8) (a7:Bool) (a8:UInt8) (a9:List UInt8) (a10 a11:UInt8) (a12:Bool) (a13 a14 a15 a16:UInt8) (a17:Bool) (a18:UInt8) (a19:List UInt8)
noncomputable def K68_14:List Item:=(kAt 14 body68 []).getD []
def S68_14:St:=St.ofL [(1, .cell (.ptr 1 0)),(4, .cell (.ptr 4 0))] [(1,some [.val (.u8 a0), .val (.u8 a1), .val (.b a2), .val (.u8 a3), .val (.u8 a4), .val (.u8 a5), .val (.u8 a6), .val (.b a7), .val (.u8 a8), .val (.s a9)]),(4,some [.val (.u8 a10), .val (.u8 a11), .val (.b a12), .val (.u8 a13), .val (.u8 a14), .val (.u8 a15), .val (.u8 a16), .val (.b a17), .val (.u8 a18), .val (.s a19)])]
noncomputable def F68_14:Option AV:=run K68_14 (S68_14 a0 a1 a2 a3 a4 a5 a6 a7 a8 a9 a10 a11 a12 a13 a14 a15 a16 a17 a18 a19)
end
section
variable (run:RunT) (a0 a1 a2:UInt8) (a3:Bool) (a4 a5 a6 a7:UInt8) (a8:Bool) (a9:UInt8) (a10:List UInt8) (a11 a12:UInt8) (a13:Bool) (a14 a15 a16 a17:UInt8) (a18:Bool) (a19:UInt8) (a20:List UInt8) (a21 a22:UInt8) (a23:Bool) (a24 a25 a26 a27:UInt8) (a28:Bool) (a29:UInt8) (a30:List UInt8)
noncomputable def K68_16:List Item:=(kAt 16 body68 []).getD []
def S68_16:St:=St.ofL [(1, .cell (.ptr 1 0)),(3, .cell (.ptr 3 0)),(4, .cell (.ptr 4 0)),(48, .cell (.val (.u8 a0)))] [(1,some [.val (.u8 a1), .val (.u8 a2), .val (.b a3), .val (.u8 a4), .val (.u8 a5), .val (.u8 a6), .val (.u8 a7), .val (.b a8), .val (.u8 a9), .val (.s a10)]),(3,some [.val (.u8 a11), .val (.u8 a12), .val (.b a13), .val (.u8 a14), .val (.u8 a15), .val (.u8 a16), .val (.u8 a17), .val (.b a18), .val (.u8 a19), .val (.s a20)]),(4,some [.val (.u8 a21), .val (.u8 a22), .val (.b a23), .val (.u8 a24), .val (.u8 a25), .val (.u8 a26), .val (.u8 a27), .val (.b a28), .val (.u8 a29), .val (.s a30)])]
noncomputable def F68_16:Option AV:=run K68_16 (S68_16 a0 a1 a2 a3 a4 a5 a6 a7 a8 a9 a10 a11 a12 a13 a14 a15 a16 a17 a18 a19 a20 a21 a22 a23 a24 a25 a26 a27 a28 a29 a30)
end
section
variable (run:RunT) (a0 a1:UInt8) (a2:Bool) (a3 a4 a5 a6:UInt8) (a7:Bool) (a8:UInt8) (a9:List UInt8)
noncomputable def K68_27:List Item:=(kAt 27 body68 []).getD []
def S68_27:St:=St.ofL [(1, .cell (.ptr 1 0))] [(1,some [.val (.u8 a0), .val (.u8 a1), .val (.b a2), .val (.u8 a3), .val (.u8 a4), .val (.u8 a5), .val (.u8 a6), .val (.b a7), .val (.u8 a8), .val (.s a9)])]
noncomputable def F68_27:Option AV:=run K68_27 (S68_27 a0 a1 a2 a3 a4 a5 a6 a7 a8 a9)
end
section
variable (run:RunT) (a0 a1:UInt8) (a2:Bool) (a3 a4 a5 a6:UInt8) (a7:Bool) (a8:UInt8) (a9:List UInt8) (a10 a11:UInt8) (a12:Bool) (a13 a14 a15 a16:UInt8) (a17:Bool) (a18:UInt8) (a19:List UInt8)
noncomputable def K68_28:List Item:=(kAt 28 body68 []).getD []
def S68_28:St:=St.ofL [(1, .cell (.ptr 1 0)),(3, .cell (.ptr 3 0))] [(1,some [.val (.u8 a0), .val (.u8 a1), .val (.b a2), .val (.u8 a3), .val (.u8 a4), .val (.u8 a5), .val (.u8 a6), .val (.b a7), .val (.u8 a8), .val (.s a9)]),(3,some [.val (.u8 a10), .val (.u8 a11), .val (.b a12), .val (.u8 a13), .val (.u8 a14), .val (.u8 a15), .val (.u8 a16), .val (.b a17), .val (.u8 a18), .val (.s a19)])]
noncomputable def F68_28:Option AV:=run K68_28 (S68_28 a0 a1 a2 a3 a4 a5 a6 a7 a8 a9 a10 a11 a12 a13 a14 a15 a16 a17 a18 a19)
end
noncomputable def X68 (call:CallT) (run:RunT) (a0 a1:UInt8) (a2:Bool) (a3 a4 a5 a6:UInt8) (a7:Bool) (a8:UInt8) (a9:List UInt8):Option AV :=
 (selW (.b (ugt a0 20)) false (some (.b (ugt a1 4))) (.b true)).bind fun v1=>(selW v1 false (some (.b (ugt a3 4))) (.b true)).bind fun v2=>(selW v2 false (some (.b (ugt a5 5))) (.b true)).bind fun v3=>(selW v3 false (some (.b (ugt a6 6))) (.b true)).bind fun v4=>(selW v4 false ((selW (.b a2) true (some (.b (une a1 0))) (.b false)).bind fun v5=>some v5) (.b true)).bind fun v6=>condM v6
 (some (.b false))
 (condM (.b (ueq a0 3))
 ((selW (.b ((a0 == a0 && (a1 == 0 && (a2 == a2 && (a3 == 0 && (a4 == 0 && (a5 == 0 && (a6 == 0 && (a7 == false && (a8 == 0 && (a9 == a9 && true)))))))))))) true ((call 91 [.s a9, .int 32]).bind fun v7=>some v7) (.b false)).bind fun v8=>some v8)
 (condM (.b (ueq a0 4))
 (F68_11 run a0 a1 a2 a3 a4 a5 a6 a7 a8 a9 a0 a1 a2 0 0 0 0 false 0 [])
 (condM (.b (ueq a0 9))
 (F68_11 run a0 a1 a2 a3 a4 a5 a6 a7 a8 a9 a0 a1 a2 0 0 0 0 false 0 [])
 (condM (.b (ueq a0 10))
 (F68_11 run a0 a1 a2 a3 a4 a5 a6 a7 a8 a9 a0 a1 a2 0 0 0 0 false 0 [])
 (F68_12 run a0 a0 a1 a2 a3 a4 a5 a6 a7 a8 a9 a0 0 false 0 0 0 0 false 0 [] a0 a1 a2 0 0 0 0 false 0 [])))))
section
variable (call:CallT) (run:RunT) (a0 a1:UInt8) (a2:Bool) (a3 a4 a5 a6:UInt8) (a7:Bool) (a8:UInt8) (a9:List UInt8)
theorem text68:unr (C mx) call run 68 Tryd.f68 400 [.code body68] (initF (C mx) 68 Tryd.f68.ntmps [.ag [.u8 a0, .u8 a1, .b a2, .u8 a3, .u8 a4, .u8 a5, .u8 a6, .b a7, .u8 a8, .s a9]])=X68 call run a0 a1 a2 a3 a4 a5 a6 a7 a8 a9:=by
 kernel_rfl
theorem c68 {r:AV} (h:X68 (semCall (C mx) Tryd.prog) (semRun (C mx) Tryd.prog 68 Tryd.f68) a0 a1 a2 a3 a4 a5 a6 a7 a8 a9=some r):semCall (C mx) Tryd.prog 68 [.ag [.u8 a0, .u8 a1, .b a2, .u8 a3, .u8 a4, .u8 a5, .u8 a6, .b a7, .u8 a8, .s a9]]=some r :=
 semCall_unr (fn:=Tryd.f68) (c:=body68) (by kernel_rfl) (by kernel_rfl) 400 (by kernel_rfl) ((text68 _ _ a0 a1 a2 a3 a4 a5 a6 a7 a8 a9).trans h)
end
noncomputable def X68_11 (call:CallT) (run:RunT) (a0 a1:UInt8) (a2:Bool) (a3 a4 a5 a6:UInt8) (a7:Bool) (a8:UInt8) (a9:List UInt8) (a10 a11:UInt8) (a12:Bool) (a13 a14 a15 a16:UInt8) (a17:Bool) (a18:UInt8) (a19:List UInt8):Option AV :=
 some (.b ((a0 == a10 && (a1 == a11 && (a2 == a12 && (a3 == a13 && (a4 == a14 && (a5 == a15 && (a6 == a16 && (a7 == a17 && (a8 == a18 && (a9 == a19 && true))))))))))))
section
variable (call:CallT) (run:RunT) (a0 a1:UInt8) (a2:Bool) (a3 a4 a5 a6:UInt8) (a7:Bool) (a8:UInt8) (a9:List UInt8) (a10 a11:UInt8) (a12:Bool) (a13 a14 a15 a16:UInt8) (a17:Bool) (a18:UInt8) (a19:List UInt8)
theorem text68_11:step (C mx) call 68 Tryd.f68 (unr (C mx) call run 68 Tryd.f68 400) K68_11 (S68_11 a0 a1 a2 a3 a4 a5 a6 a7 a8 a9 a10 a11 a12 a13 a14 a15 a16 a17 a18 a19)=X68_11 call run a0 a1 a2 a3 a4 a5 a6 a7 a8 a9 a10 a11 a12 a13 a14 a15 a16 a17 a18 a19:=by
 kernel_rfl
end
noncomputable def X68_12 (call:CallT) (run:RunT) (a0 a1 a2:UInt8) (a3:Bool) (a4 a5 a6 a7:UInt8) (a8:Bool) (a9:UInt8) (a10:List UInt8) (a11 a12:UInt8) (a13:Bool) (a14 a15 a16 a17:UInt8) (a18:Bool) (a19:UInt8) (a20:List UInt8) (a21 a22:UInt8) (a23:Bool) (a24 a25 a26 a27:UInt8) (a28:Bool) (a29:UInt8) (a30:List UInt8):Option AV :=
 condM (.b (ueq a0 5))
 (F68_14 run a1 a2 a3 a4 a5 a6 a7 a8 a9 a10 a21 a22 a23 a24 a25 a26 a27 a28 a29 a30)
 (condM (.b (ueq a0 6))
 (F68_14 run a1 a2 a3 a4 a5 a6 a7 a8 a9 a10 a21 a22 a23 a24 a25 a26 a27 a28 a29 a30)
 (F68_16 run a0 a1 a2 a3 a4 a5 a6 a7 a8 a9 a10 a11 a12 a13 a14 a15 a16 a17 a18 a19 a20 a21 a22 a23 a24 a25 a26 a27 a28 a29 a30))
section
variable (call:CallT) (run:RunT) (a0 a1 a2:UInt8) (a3:Bool) (a4 a5 a6 a7:UInt8) (a8:Bool) (a9:UInt8) (a10:List UInt8) (a11 a12:UInt8) (a13:Bool) (a14 a15 a16 a17:UInt8) (a18:Bool) (a19:UInt8) (a20:List UInt8) (a21 a22:UInt8) (a23:Bool) (a24 a25 a26 a27:UInt8) (a28:Bool) (a29:UInt8) (a30:List UInt8)
theorem text68_12:step (C mx) call 68 Tryd.f68 (unr (C mx) call run 68 Tryd.f68 400) K68_12 (S68_12 a0 a1 a2 a3 a4 a5 a6 a7 a8 a9 a10 a11 a12 a13 a14 a15 a16 a17 a18 a19 a20 a21 a22 a23 a24 a25 a26 a27 a28 a29 a30)=X68_12 call run a0 a1 a2 a3 a4 a5 a6 a7 a8 a9 a10 a11 a12 a13 a14 a15 a16 a17 a18 a19 a20 a21 a22 a23 a24 a25 a26 a27 a28 a29 a30:=by
 kernel_rfl
end
noncomputable def X68_14 (call:CallT) (run:RunT) (a0 a1:UInt8) (a2:Bool) (a3 a4 a5 a6:UInt8) (a7:Bool) (a8:UInt8) (a9:List UInt8) (a10 a11:UInt8) (a12:Bool) (a13 a14 a15 a16:UInt8) (a17:Bool) (a18:UInt8) (a19:List UInt8):Option AV :=
 (selW (.b ((a0 == a10 && (a1 == a11 && (a2 == a12 && (a3 == a13 && (a4 == a14 && (a5 == a15 && (a6 == a16 && (a7 == a17 && (a8 == a18 && (a9 == a9 && true)))))))))))) true ((call 91 [.s a9, .int 32]).bind fun v1=>some v1) (.b false)).bind fun v2=>some v2
section
variable (call:CallT) (run:RunT) (a0 a1:UInt8) (a2:Bool) (a3 a4 a5 a6:UInt8) (a7:Bool) (a8:UInt8) (a9:List UInt8) (a10 a11:UInt8) (a12:Bool) (a13 a14 a15 a16:UInt8) (a17:Bool) (a18:UInt8) (a19:List UInt8)
theorem text68_14:step (C mx) call 68 Tryd.f68 (unr (C mx) call run 68 Tryd.f68 400) K68_14 (S68_14 a0 a1 a2 a3 a4 a5 a6 a7 a8 a9 a10 a11 a12 a13 a14 a15 a16 a17 a18 a19)=X68_14 call run a0 a1 a2 a3 a4 a5 a6 a7 a8 a9 a10 a11 a12 a13 a14 a15 a16 a17 a18 a19:=by
 kernel_rfl
end
noncomputable def X68_16 (call:CallT) (run:RunT) (a0 a1 a2:UInt8) (a3:Bool) (a4 a5 a6 a7:UInt8) (a8:Bool) (a9:UInt8) (a10:List UInt8) (a11 a12:UInt8) (a13:Bool) (a14 a15 a16 a17:UInt8) (a18:Bool) (a19:UInt8) (a20:List UInt8) (a21 a22:UInt8) (a23:Bool) (a24 a25 a26 a27:UInt8) (a28:Bool) (a29:UInt8) (a30:List UInt8):Option AV :=
 condM (.b (ueq a0 7))
 (some (.b ((a1 == a21 && (a2 == a22 && (a3 == a23 && (a4 == a4 && (a5 == a25 && (a6 == a26 && (a7 == a27 && (a8 == a28 && (a9 == a29 && (a10 == a30 && true)))))))))))))
 (condM (.b (ueq a0 8))
 ((call 92 [.ag [.u8 a1, .u8 a2, .b a3, .u8 a4, .u8 a5, .u8 a6, .u8 a7, .b a8, .u8 a9, .s a10], .ag [.u8 a21, .u8 a22, .b a23, .u8 a24, .u8 a25, .u8 a26, .u8 a27, .b a28, .u8 a29, .s a30]]).bind fun v1=>some v1)
 (condM (.b (ueq a0 15))
 ((selW (.b ((a1 == a11 && (a2 == a12 && (a3 == a13 && (a4 == a14 && (a5 == a15 && (a6 == a16 && (a7 == a17 && (a8 == a18 && (a9 == a9 && (a10 == a20 && true)))))))))))) true (some (.b (ule a9 2))) (.b false)).bind fun v2=>some v2)
 (condM (.b (ueq a0 17))
 (F68_27 run a1 a2 a3 a4 a5 a6 a7 a8 a9 a10)
 (condM (.b (ueq a0 18))
 (F68_27 run a1 a2 a3 a4 a5 a6 a7 a8 a9 a10)
 (condM (.b (ueq a0 19))
 (F68_27 run a1 a2 a3 a4 a5 a6 a7 a8 a9 a10)
 (F68_28 run a1 a2 a3 a4 a5 a6 a7 a8 a9 a10 a11 a12 a13 a14 a15 a16 a17 a18 a19 a20))))))
section
variable (call:CallT) (run:RunT) (a0 a1 a2:UInt8) (a3:Bool) (a4 a5 a6 a7:UInt8) (a8:Bool) (a9:UInt8) (a10:List UInt8) (a11 a12:UInt8) (a13:Bool) (a14 a15 a16 a17:UInt8) (a18:Bool) (a19:UInt8) (a20:List UInt8) (a21 a22:UInt8) (a23:Bool) (a24 a25 a26 a27:UInt8) (a28:Bool) (a29:UInt8) (a30:List UInt8)
theorem text68_16:step (C mx) call 68 Tryd.f68 (unr (C mx) call run 68 Tryd.f68 400) K68_16 (S68_16 a0 a1 a2 a3 a4 a5 a6 a7 a8 a9 a10 a11 a12 a13 a14 a15 a16 a17 a18 a19 a20 a21 a22 a23 a24 a25 a26 a27 a28 a29 a30)=X68_16 call run a0 a1 a2 a3 a4 a5 a6 a7 a8 a9 a10 a11 a12 a13 a14 a15 a16 a17 a18 a19 a20 a21 a22 a23 a24 a25 a26 a27 a28 a29 a30:=by
 kernel_rfl
end
noncomputable def X68_27 (call:CallT) (run:RunT) (a0 a1:UInt8) (a2:Bool) (a3 a4 a5 a6:UInt8) (a7:Bool) (a8:UInt8) (a9:List UInt8):Option AV :=
 (call 93 [.ag [.u8 a0, .u8 a1, .b a2, .u8 a3, .u8 a4, .u8 a5, .u8 a6, .b a7, .u8 a8, .s a9]]).bind fun v1=>some v1
section
variable (call:CallT) (run:RunT) (a0 a1:UInt8) (a2:Bool) (a3 a4 a5 a6:UInt8) (a7:Bool) (a8:UInt8) (a9:List UInt8)
theorem text68_27:step (C mx) call 68 Tryd.f68 (unr (C mx) call run 68 Tryd.f68 400) K68_27 (S68_27 a0 a1 a2 a3 a4 a5 a6 a7 a8 a9)=X68_27 call run a0 a1 a2 a3 a4 a5 a6 a7 a8 a9:=by
 kernel_rfl
end
noncomputable def X68_28 (call:CallT) (run:RunT) (a0 a1:UInt8) (a2:Bool) (a3 a4 a5 a6:UInt8) (a7:Bool) (a8:UInt8) (a9:List UInt8) (a10 a11:UInt8) (a12:Bool) (a13 a14 a15 a16:UInt8) (a17:Bool) (a18:UInt8) (a19:List UInt8):Option AV :=
 some (.b ((a0 == a10 && (a1 == a11 && (a2 == a12 && (a3 == a13 && (a4 == a14 && (a5 == a15 && (a6 == a16 && (a7 == a17 && (a8 == a18 && (a9 == a19 && true))))))))))))
section
variable (call:CallT) (run:RunT) (a0 a1:UInt8) (a2:Bool) (a3 a4 a5 a6:UInt8) (a7:Bool) (a8:UInt8) (a9:List UInt8) (a10 a11:UInt8) (a12:Bool) (a13 a14 a15 a16:UInt8) (a17:Bool) (a18:UInt8) (a19:List UInt8)
theorem text68_28:step (C mx) call 68 Tryd.f68 (unr (C mx) call run 68 Tryd.f68 400) K68_28 (S68_28 a0 a1 a2 a3 a4 a5 a6 a7 a8 a9 a10 a11 a12 a13 a14 a15 a16 a17 a18 a19)=X68_28 call run a0 a1 a2 a3 a4 a5 a6 a7 a8 a9 a10 a11 a12 a13 a14 a15 a16 a17 a18 a19:=by
 kernel_rfl
end
section
variable (a0 a1:UInt8) (a2:Bool) (a3 a4 a5 a6:UInt8) (a7:Bool) (a8:UInt8) (a9:List UInt8) (a10 a11:UInt8) (a12:Bool) (a13 a14 a15 a16:UInt8) (a17:Bool) (a18:UInt8) (a19:List UInt8)
theorem r68_11 {r:AV} (h:X68_11 (semCall (C mx) Tryd.prog) (semRun (C mx) Tryd.prog 68 Tryd.f68) a0 a1 a2 a3 a4 a5 a6 a7 a8 a9 a10 a11 a12 a13 a14 a15 a16 a17 a18 a19=some r):F68_11 (semRun (C mx) Tryd.prog 68 Tryd.f68) a0 a1 a2 a3 a4 a5 a6 a7 a8 a9 a10 a11 a12 a13 a14 a15 a16 a17 a18 a19=some r :=
 semRun_unr 400 ((text68_11 _ _ a0 a1 a2 a3 a4 a5 a6 a7 a8 a9 a10 a11 a12 a13 a14 a15 a16 a17 a18 a19).trans h)
end
section
variable (a0 a1 a2:UInt8) (a3:Bool) (a4 a5 a6 a7:UInt8) (a8:Bool) (a9:UInt8) (a10:List UInt8) (a11 a12:UInt8) (a13:Bool) (a14 a15 a16 a17:UInt8) (a18:Bool) (a19:UInt8) (a20:List UInt8) (a21 a22:UInt8) (a23:Bool) (a24 a25 a26 a27:UInt8) (a28:Bool) (a29:UInt8) (a30:List UInt8)
theorem r68_12 {r:AV} (h:X68_12 (semCall (C mx) Tryd.prog) (semRun (C mx) Tryd.prog 68 Tryd.f68) a0 a1 a2 a3 a4 a5 a6 a7 a8 a9 a10 a11 a12 a13 a14 a15 a16 a17 a18 a19 a20 a21 a22 a23 a24 a25 a26 a27 a28 a29 a30=some r):F68_12 (semRun (C mx) Tryd.prog 68 Tryd.f68) a0 a1 a2 a3 a4 a5 a6 a7 a8 a9 a10 a11 a12 a13 a14 a15 a16 a17 a18 a19 a20 a21 a22 a23 a24 a25 a26 a27 a28 a29 a30=some r :=
 semRun_unr 400 ((text68_12 _ _ a0 a1 a2 a3 a4 a5 a6 a7 a8 a9 a10 a11 a12 a13 a14 a15 a16 a17 a18 a19 a20 a21 a22 a23 a24 a25 a26 a27 a28 a29 a30).trans h)
end
section
variable (a0 a1:UInt8) (a2:Bool) (a3 a4 a5 a6:UInt8) (a7:Bool) (a8:UInt8) (a9:List UInt8) (a10 a11:UInt8) (a12:Bool) (a13 a14 a15 a16:UInt8) (a17:Bool) (a18:UInt8) (a19:List UInt8)
theorem r68_14 {r:AV} (h:X68_14 (semCall (C mx) Tryd.prog) (semRun (C mx) Tryd.prog 68 Tryd.f68) a0 a1 a2 a3 a4 a5 a6 a7 a8 a9 a10 a11 a12 a13 a14 a15 a16 a17 a18 a19=some r):F68_14 (semRun (C mx) Tryd.prog 68 Tryd.f68) a0 a1 a2 a3 a4 a5 a6 a7 a8 a9 a10 a11 a12 a13 a14 a15 a16 a17 a18 a19=some r :=
 semRun_unr 400 ((text68_14 _ _ a0 a1 a2 a3 a4 a5 a6 a7 a8 a9 a10 a11 a12 a13 a14 a15 a16 a17 a18 a19).trans h)
end
section
variable (a0 a1 a2:UInt8) (a3:Bool) (a4 a5 a6 a7:UInt8) (a8:Bool) (a9:UInt8) (a10:List UInt8) (a11 a12:UInt8) (a13:Bool) (a14 a15 a16 a17:UInt8) (a18:Bool) (a19:UInt8) (a20:List UInt8) (a21 a22:UInt8) (a23:Bool) (a24 a25 a26 a27:UInt8) (a28:Bool) (a29:UInt8) (a30:List UInt8)
theorem r68_16 {r:AV} (h:X68_16 (semCall (C mx) Tryd.prog) (semRun (C mx) Tryd.prog 68 Tryd.f68) a0 a1 a2 a3 a4 a5 a6 a7 a8 a9 a10 a11 a12 a13 a14 a15 a16 a17 a18 a19 a20 a21 a22 a23 a24 a25 a26 a27 a28 a29 a30=some r):F68_16 (semRun (C mx) Tryd.prog 68 Tryd.f68) a0 a1 a2 a3 a4 a5 a6 a7 a8 a9 a10 a11 a12 a13 a14 a15 a16 a17 a18 a19 a20 a21 a22 a23 a24 a25 a26 a27 a28 a29 a30=some r :=
 semRun_unr 400 ((text68_16 _ _ a0 a1 a2 a3 a4 a5 a6 a7 a8 a9 a10 a11 a12 a13 a14 a15 a16 a17 a18 a19 a20 a21 a22 a23 a24 a25 a26 a27 a28 a29 a30).trans h)
end
section
variable (a0 a1:UInt8) (a2:Bool) (a3 a4 a5 a6:UInt8) (a7:Bool) (a8:UInt8) (a9:List UInt8)
theorem r68_27 {r:AV} (h:X68_27 (semCall (C mx) Tryd.prog) (semRun (C mx) Tryd.prog 68 Tryd.f68) a0 a1 a2 a3 a4 a5 a6 a7 a8 a9=some r):F68_27 (semRun (C mx) Tryd.prog 68 Tryd.f68) a0 a1 a2 a3 a4 a5 a6 a7 a8 a9=some r :=
 semRun_unr 400 ((text68_27 _ _ a0 a1 a2 a3 a4 a5 a6 a7 a8 a9).trans h)
end
section
variable (a0 a1:UInt8) (a2:Bool) (a3 a4 a5 a6:UInt8) (a7:Bool) (a8:UInt8) (a9:List UInt8) (a10 a11:UInt8) (a12:Bool) (a13 a14 a15 a16:UInt8) (a17:Bool) (a18:UInt8) (a19:List UInt8)
theorem r68_28 {r:AV} (h:X68_28 (semCall (C mx) Tryd.prog) (semRun (C mx) Tryd.prog 68 Tryd.f68) a0 a1 a2 a3 a4 a5 a6 a7 a8 a9 a10 a11 a12 a13 a14 a15 a16 a17 a18 a19=some r):F68_28 (semRun (C mx) Tryd.prog 68 Tryd.f68) a0 a1 a2 a3 a4 a5 a6 a7 a8 a9 a10 a11 a12 a13 a14 a15 a16 a17 a18 a19=some r :=
 semRun_unr 400 ((text68_28 _ _ a0 a1 a2 a3 a4 a5 a6 a7 a8 a9 a10 a11 a12 a13 a14 a15 a16 a17 a18 a19).trans h)
end
end R3I

namespace R3I
open Go Go.Proofs Sx
variable {mx:Int}
noncomputable def body74:Code:=(Tryd.f74.body).getD .skip
noncomputable def X74 (call:CallT) (run:RunT) (a0 a1:UInt8) (a2:Bool) (a3 a4 a5 a6:UInt8) (a7:Bool) (a8:UInt8) (a9:List UInt8):Option AV :=
 (selW (.b (ueq a6 1)) false (some (.b (ueq a6 2))) (.b true)).bind fun v1=>(selW v1 true (some (.b (!a7))) (.b false)).bind fun v2=>some v2
section
variable (call:CallT) (run:RunT) (a0 a1:UInt8) (a2:Bool) (a3 a4 a5 a6:UInt8) (a7:Bool) (a8:UInt8) (a9:List UInt8)
theorem text74:unr (C mx) call run 74 Tryd.f74 400 [.code body74] (initF (C mx) 74 Tryd.f74.ntmps [.ag [.u8 a0, .u8 a1, .b a2, .u8 a3, .u8 a4, .u8 a5, .u8 a6, .b a7, .u8 a8, .s a9]])=X74 call run a0 a1 a2 a3 a4 a5 a6 a7 a8 a9:=by
 kernel_rfl
theorem c74 {r:AV} (h:X74 (semCall (C mx) Tryd.prog) (semRun (C mx) Tryd.prog 74 Tryd.f74) a0 a1 a2 a3 a4 a5 a6 a7 a8 a9=some r):semCall (C mx) Tryd.prog 74 [.ag [.u8 a0, .u8 a1, .b a2, .u8 a3, .u8 a4, .u8 a5, .u8 a6, .b a7, .u8 a8, .s a9]]=some r :=
 semCall_unr (fn:=Tryd.f74) (c:=body74) (by kernel_rfl) (by kernel_rfl) 400 (by kernel_rfl) ((text74 _ _ a0 a1 a2 a3 a4 a5 a6 a7 a8 a9).trans h)
end
end R3I

namespace R3I
open Go Go.Proofs Sx
variable {mx:Int}
noncomputable def body76:Code:=(Tryd.f76.body).getD .skip
noncomputable def X76 (call:CallT) (run:RunT) (a0:List UInt8):Option AV :=
 condM (.b (a0 == [116,101,120,116,97,114,101,97]))
 (some (.u8 1))
 (condM (.b (a0 == [116,105,116,108,101]))
 (some (.u8 2))
 (condM (.b (a0 == [115,99,114,105,112,116]))
 (some (.u8 3))
 (condM (.b (a0 == [115,116,121,108,101]))
 (some (.u8 4))
 (some (.u8 0)))))
section
variable (call:CallT) (run:RunT) (a0:List UInt8)
theorem text76:unr (C mx) call run 76 Tryd.f76 400 [.code body76] (initF (C mx) 76 Tryd.f76.ntmps [.s a0])=X76 call run a0:=by
 kernel_rfl
theorem c76 {r:AV} (h:X76 (semCall (C mx) Tryd.prog) (semRun (C mx) Tryd.prog 76 Tryd.f76) a0=some r):semCall (C mx) Tryd.prog 76 [.s a0]=some r :=
 semCall_unr (fn:=Tryd.f76) (c:=body76) (by kernel_rfl) (by kernel_rfl) 400 (by kernel_rfl) ((text76 _ _ a0).trans h)
end
end R3I

namespace R3I
open Go Go.Proofs Sx
variable {mx:Int}
noncomputable def body83:Code:=(Tryd.f83.body).getD .skip
noncomputable def X83 (call:CallT) (run:RunT) (a0 a1:List UInt8):Option AV :=
 (selW (.b (decide ((a0.length:Int) ≥ (a1.length:Int)))) true ((slS (.s a0) none (some (.int (a1.length:Int)))).bind fun v1=>(binS .eql v1 (.s a1)).bind fun v2=>some v2) (.b false)).bind fun v3=>some v3
section
variable (call:CallT) (run:RunT) (a0 a1:List UInt8)
theorem text83:unr (C mx) call run 83 Tryd.f83 400 [.code body83] (initF (C mx) 83 Tryd.f83.ntmps [.s a0, .s a1])=X83 call run a0 a1:=by
 kernel_rfl
theorem c83 {r:AV} (h:X83 (semCall (C mx) Tryd.prog) (semRun (C mx) Tryd.prog 83 Tryd.f83) a0 a1=some r):semCall (C mx) Tryd.prog 83 [.s a0, .s a1]=some r :=
 semCall_unr (fn:=Tryd.f83) (c:=body83) (by kernel_rfl) (by kernel_rfl) 400 (by kernel_rfl) ((text83 _ _ a0 a1).trans h)
end
end R3I

namespace R3I
open Go Go.Proofs Sx
variable {mx:Int}
noncomputable def body91:Code:=(Tryd.f91.body).getD .skip
section
variable (run:RunT) (a0:List UInt8) (a1 a2 a3:Int)
noncomputable def K91_2:List Item:=(kAt 2 body91 []).getD []
def S91_2:St:=St.ofL [(0, .cell (.val (.s a0))),(1, .cell (.val (.int a1))),(7, .cell (.val (.int a2))),(8, .cell (.val (.int a3)))] []
noncomputable def F91_2:Option AV:=run K91_2 (S91_2 a0 a1 a2 a3)
end
noncomputable def X91 (call:CallT) (run:RunT) (a0:List UInt8) (a1:Int):Option AV :=
 F91_2 run a0 a1 (a0.length:Int) 0
section
variable (call:CallT) (run:RunT) (a0:List UInt8) (a1:Int)
theorem text91:unr (C mx) call run 91 Tryd.f91 400 [.code body91] (initF (C mx) 91 Tryd.f91.ntmps [.s a0, .int a1])=X91 call run a0 a1:=by
 kernel_rfl
theorem c91 {r:AV} (h:X91 (semCall (C mx) Tryd.prog) (semRun (C mx) Tryd.prog 91 Tryd.f91) a0 a1=some r):semCall (C mx) Tryd.prog 91 [.s a0, .int a1]=some r :=
 semCall_unr (fn:=Tryd.f91) (c:=body91) (by kernel_rfl) (by kernel_rfl) 400 (by kernel_rfl) ((text91 _ _ a0 a1).trans h)
end
noncomputable def X91_2 (call:CallT) (run:RunT) (a0:List UInt8) (a1 a2 a3:Int):Option AV :=
 condM (.b (decide (a3 < a2)))
 ((idxS (.s a0) (.int a3)).bind fun v1=>(binI .geq v1 (.u8 65)).bind fun v2=>(selW v2 true ((idxS (.s a0) (.int a3)).bind fun v3=>(binI .leq v3 (.u8 90)).bind fun v4=>some v4) (.b false)).bind fun v5=>condM v5
 (some (.b false))
 (F91_2 run a0 a1 a2 (w64 (a3+1))))
 ((selW (.b (decide ((a0.length:Int) ≥ 1))) true (some (.b (decide ((a0.length:Int)≤a1)))) (.b false)).bind fun v6=>some v6)
section
variable (call:CallT) (run:RunT) (a0:List UInt8) (a1 a2 a3:Int)
theorem text91_2:step (C mx) call 91 Tryd.f91 (unr (C mx) call run 91 Tryd.f91 400) K91_2 (S91_2 a0 a1 a2 a3)=X91_2 call run a0 a1 a2 a3:=by
 kernel_rfl
end
section
variable (a0:List UInt8) (a1 a2 a3:Int)
theorem r91_2 {r:AV} (h:X91_2 (semCall (C mx) Tryd.prog) (semRun (C mx) Tryd.prog 91 Tryd.f91) a0 a1 a2 a3=some r):F91_2 (semRun (C mx) Tryd.prog 91 Tryd.f91) a0 a1 a2 a3=some r :=
 semRun_unr 400 ((text91_2 _ _ a0 a1 a2 a3).trans h)
end
end R3I

namespace R3I
open Go Go.Proofs Sx
variable {mx:Int}
noncomputable def body92:Code:=(Tryd.f92.body).getD .skip
section
variable (run:RunT) (a0 a1:UInt8) (a2:Bool) (a3 a4 a5 a6:UInt8) (a7:Bool) (a8:UInt8) (a9:List UInt8) (a10 a11:UInt8) (a12:Bool) (a13 a14 a15 a16:UInt8) (a17:Bool) (a18:UInt8) (a19:List UInt8)
noncomputable def K92_14:List Item:=(kAt 14 body92 []).getD []
def S92_14:St:=St.ofL [(2, .cell (.ptr 2 0)),(3, .cell (.ptr 3 0))] [(2,some [.val (.u8 a0), .val (.u8 a1), .val (.b a2), .val (.u8 a3), .val (.u8 a4), .val (.u8 a5), .val (.u8 a6), .val (.b a7), .val (.u8 a8), .val (.s a9)]),(3,some [.val (.u8 a10), .val (.u8 a11), .val (.b a12), .val (.u8 a13), .val (.u8 a14), .val (.u8 a15), .val (.u8 a16), .val (.b a17), .val (.u8 a18), .val (.s a19)])]
noncomputable def F92_14:Option AV:=run K92_14 (S92_14 a0 a1 a2 a3 a4 a5 a6 a7 a8 a9 a10 a11 a12 a13 a14 a15 a16 a17 a18 a19)
end
section
variable (run:RunT) (a0 a1:UInt8) (a2:Bool) (a3 a4 a5 a6:UInt8) (a7:Bool) (a8:UInt8) (a9:List UInt8) (a10 a11:UInt8) (a12:Bool) (a13 a14 a15 a16:UInt8) (a17:Bool) (a18:UInt8) (a19:List UInt8)
noncomputable def K92_12:List Item:=(kAt 12 body92 []).getD []
def S92_12:St:=St.ofL [(2, .cell (.ptr 2 0)),(3, .cell (.ptr 3 0))] [(2,some [.val (.u8 a0), .val (.u8 a1), .val (.b a2), .val (.u8 a3), .val (.u8 a4), .val (.u8 a5), .val (.u8 a6), .val (.b a7), .val (.u8 a8), .val (.s a9)]),(3,some [.val (.u8 a10), .val (.u8 a11), .val (.b a12), .val (.u8 a13), .val (.u8 a14), .val (.u8 a15), .val (.u8 a16), .val (.b a17), .val (.u8 a18), .val (.s a19)])]
noncomputable def F92_12:Option AV:=run K92_12 (S92_12 a0 a1 a2 a3 a4 a5 a6 a7 a8 a9 a10 a11 a12 a13 a14 a15 a16 a17 a18 a19)
end
noncomputable def X92 (call:CallT) (run:RunT) (a0 a1:UInt8) (a2:Bool) (a3 a4 a5 a6:UInt8) (a7:Bool) (a8:UInt8) (a9:List UInt8) (a10 a11:UInt8) (a12:Bool) (a13 a14 a15 a16:UInt8) (a17:Bool) (a18:UInt8) (a19:List UInt8):Option AV :=
 (selW (.b (une a4 0)) true (some (.b (une a4 34))) (.b false)).bind fun v1=>(selW v1 true (some (.b (une a4 39))) (.b false)).bind fun v2=>condM v2
 (some (.b false))
 (condM (.b (ueq a3 1))
 (condM (.b (ueq a5 1))
 ((selW (.b ((a0 == a10 && (a1 == a11 && (a2 == a12 && (a3 == a3 && (a4 == a4 && (a5 == a5 && (a6 == a16 && (a7 == a17 && (a8 == a18 && (a9 == a9 && true)))))))))))) true ((call 91 [.s a9, .int 16]).bind fun v3=>some v3) (.b false)).bind fun v4=>some v4)
 (F92_14 run a0 a1 a2 a3 a4 a5 a6 a7 a8 a9 a10 a11 a12 a3 a4 a5 a16 a17 a18 a19))
 (condM (.b (ueq a3 2))
 (F92_12 run a0 a1 a2 a3 a4 a5 a6 a7 a8 a9 a10 a11 a12 a3 a4 a15 a16 a17 a18 a19)
 (condM (.b (ueq a3 3))
 (F92_12 run a0 a1 a2 a3 a4 a5 a6 a7 a8 a9 a10 a11 a12 a3 a4 a15 a16 a17 a18 a19)
 (F92_14 run a0 a1 a2 a3 a4 a5 a6 a7 a8 a9 a10 a11 a12 a3 a4 a15 a16 a17 a18 a19))))
section
variable (call:CallT) (run:RunT) (a0 a1:UInt8) (a2:Bool) (a3 a4 a5 a6:UInt8) (a7:Bool) (a8:UInt8) (a9:List UInt8) (a10 a11:UInt8) (a12:Bool) (a13 a14 a15 a16:UInt8) (a17:Bool) (a18:UInt8) (a19:List UInt8)
theorem text92:unr (C mx) call run 92 Tryd.f92 400 [.code body92] (initF (C mx) 92 Tryd.f92.ntmps [.ag [.u8 a0, .u8 a1, .b a2, .u8 a3, .u8 a4, .u8 a5, .u8 a6, .b a7, .u8 a8, .s a9], .ag [.u8 a10, .u8 a11, .b a12, .u8 a13, .u8 a14, .u8 a15, .u8 a16, .b a17, .u8 a18, .s a19]])=X92 call run a0 a1 a2 a3 a4 a5 a6 a7 a8 a9 a10 a11 a12 a13 a14 a15 a16 a17 a18 a19:=by
 kernel_rfl
theorem c92 {r:AV} (h:X92 (semCall (C mx) Tryd.prog) (semRun (C mx) Tryd.prog 92 Tryd.f92) a0 a1 a2 a3 a4 a5 a6 a7 a8 a9 a10 a11 a12 a13 a14 a15 a16 a17 a18 a19=some r):semCall (C mx) Tryd.prog 92 [.ag [.u8 a0, .u8 a1, .b a2, .u8 a3, .u8 a4, .u8 a5, .u8 a6, .b a7, .u8 a8, .s a9], .ag [.u8 a10, .u8 a11, .b a12, .u8 a13, .u8 a14, .u8 a15, .u8 a16, .b a17, .u8 a18, .s a19]]=some r :=
 semCall_unr (fn:=Tryd.f92) (c:=body92) (by kernel_rfl) (by kernel_rfl) 400 (by kernel_rfl) ((text92 _ _ a0 a1 a2 a3 a4 a5 a6 a7 a8 a9 a10 a11 a12 a13 a14 a15 a16 a17 a18 a19).trans h)
end
noncomputable def X92_14 (call:CallT) (run:RunT) (a0 a1:UInt8) (a2:Bool) (a3 a4 a5 a6:UInt8) (a7:Bool) (a8:UInt8) (a9:List UInt8) (a10 a11:UInt8) (a12:Bool) (a13 a14 a15 a16:UInt8) (a17:Bool) (a18:UInt8) (a19:List UInt8):Option AV :=
 some (.b ((a0 == a10 && (a1 == a11 && (a2 == a12 && (a3 == a13 && (a4 == a14 && (a5 == a15 && (a6 == a16 && (a7 == a17 && (a8 == a18 && (a9 == a19 && true))))))))))))
section
variable (call:CallT) (run:RunT) (a0 a1:UInt8) (a2:Bool) (a3 a4 a5 a6:UInt8) (a7:Bool) (a8:UInt8) (a9:List UInt8) (a10 a11:UInt8) (a12:Bool) (a13 a14 a15 a16:UInt8) (a17:Bool) (a18:UInt8) (a19:List UInt8)
theorem text92_14:step (C mx) call 92 Tryd.f92 (unr (C mx) call run 92 Tryd.f92 400) K92_14 (S92_14 a0 a1 a2 a3 a4 a5 a6 a7 a8 a9 a10 a11 a12 a13 a14 a15 a16 a17 a18 a19)=X92_14 call run a0 a1 a2 a3 a4 a5 a6 a7 a8 a9 a10 a11 a12 a13 a14 a15 a16 a17 a18 a19:=by
 kernel_rfl
end
noncomputable def X92_12 (call:CallT) (run:RunT) (a0 a1:UInt8) (a2:Bool) (a3 a4 a5 a6:UInt8) (a7:Bool) (a8:UInt8) (a9:List UInt8) (a10 a11:UInt8) (a12:Bool) (a13 a14 a15 a16:UInt8) (a17:Bool) (a18:UInt8) (a19:List UInt8):Option AV :=
 (selW (.b ((a0 == a10 && (a1 == a11 && (a2 == a12 && (a3 == a13 && (a4 == a14 && (a5 == a15 && (a6 == a6 && (a7 == a7 && (a8 == a18 && (a9 == a19 && true)))))))))))) true ((call 107 [.ag [.u8 a0, .u8 a1, .b a2, .u8 a3, .u8 a4, .u8 a5, .u8 a6, .b a7, .u8 a8, .s a9], .b (ueq a3 2)]).bind fun v1=>some v1) (.b false)).bind fun v2=>some v2
section
variable (call:CallT) (run:RunT) (a0 a1:UInt8) (a2:Bool) (a3 a4 a5 a6:UInt8) (a7:Bool) (a8:UInt8) (a9:List UInt8) (a10 a11:UInt8) (a12:Bool) (a13 a14 a15 a16:UInt8) (a17:Bool) (a18:UInt8) (a19:List UInt8)
theorem text92_12:step (C mx) call 92 Tryd.f92 (unr (C mx) call run 92 Tryd.f92 400) K92_12 (S92_12 a0 a1 a2 a3 a4 a5 a6 a7 a8 a9 a10 a11 a12 a13 a14 a15 a16 a17 a18 a19)=X92_12 call run a0 a1 a2 a3 a4 a5 a6 a7 a8 a9 a10 a11 a12 a13 a14 a15 a16 a17 a18 a19:=by
 kernel_rfl
end
section
variable (a0 a1:UInt8) (a2:Bool) (a3 a4 a5 a6:UInt8) (a7:Bool) (a8:UInt8) (a9:List UInt8) (a10 a11:UInt8) (a12:Bool) (a13 a14 a15 a16:UInt8) (a17:Bool) (a18:UInt8) (a19:List UInt8)
theorem r92_14 {r:AV} (h:X92_14 (semCall (C mx) Tryd.prog) (semRun (C mx) Tryd.prog 92 Tryd.f92) a0 a1 a2 a3 a4 a5 a6 a7 a8 a9 a10 a11 a12 a13 a14 a15 a16 a17 a18 a19=some r):F92_14 (semRun (C mx) Tryd.prog 92 Tryd.f92) a0 a1 a2 a3 a4 a5 a6 a7 a8 a9 a10 a11 a12 a13 a14 a15 a16 a17 a18 a19=some r :=
 semRun_unr 400 ((text92_14 _ _ a0 a1 a2 a3 a4 a5 a6 a7 a8 a9 a10 a11 a12 a13 a14 a15 a16 a17 a18 a19).trans h)
end
section
variable (a0 a1:UInt8) (a2:Bool) (a3 a4 a5 a6:UInt8) (a7:Bool) (a8:UInt8) (a9:List UInt8) (a10 a11:UInt8) (a12:Bool) (a13 a14 a15 a16:UInt8) (a17:Bool) (a18:UInt8) (a19:List UInt8)
theorem r92_12 {r:AV} (h:X92_12 (semCall (C mx) Tryd.prog) (semRun (C mx) Tryd.prog 92 Tryd.f92) a0 a1 a2 a3 a4 a5 a6 a7 a8 a9 a10 a11 a12 a13 a14 a15 a16 a17 a18 a19=some r):F92_12 (semRun (C mx) Tryd.prog 92 Tryd.f92) a0 a1 a2 a3 a4 a5 a6 a7 a8 a9 a10 a11 a12 a13 a14 a15 a16 a17 a18 a19=some r :=
 semRun_unr 400 ((text92_12 _ _ a0 a1 a2 a3 a4 a5 a6 a7 a8 a9 a10 a11 a12 a13 a14 a15 a16 a17 a18 a19).trans h)
end
end R3I

namespace R3I
open Go Go.Proofs Sx
variable {mx:Int}
noncomputable def body93:Code:=(Tryd.f93.body).getD .skip
section
variable (run:RunT) (a0 a1:UInt8) (a2:Bool) (a3 a4 a5 a6:UInt8) (a7:Bool) (a8:UInt8) (a9:List UInt8) (a10 a11:UInt8) (a12:Bool) (a13 a14 a15 a16:UInt8) (a17:Bool) (a18:UInt8) (a19:List UInt8)
noncomputable def K93_4:List Item:=(kAt 4 body93 []).getD []
def S93_4:St:=St.ofL [(1, .cell (.ptr 1 0)),(3, .cell (.ptr 3 0))] [(1,some [.val (.u8 a0), .val (.u8 a1), .val (.b a2), .val (.u8 a3), .val (.u8 a4), .val (.u8 a5), .val (.u8 a6), .val (.b a7), .val (.u8 a8), .val (.s a9)]),(3,some [.val (.u8 a10), .val (.u8 a11), .val (.b a12), .val (.u8 a13), .val (.u8 a14), .val (.u8 a15), .val (.u8 a16), .val (.b a17), .val (.u8 a18), .val (.s a19)])]
noncomputable def F93_4:Option AV:=run K93_4 (S93_4 a0 a1 a2 a3 a4 a5 a6 a7 a8 a9 a10 a11 a12 a13 a14 a15 a16 a17 a18 a19)
end
section
variable (run:RunT) (a0 a1:UInt8) (a2:Bool) (a3 a4 a5 a6:UInt8) (a7:Bool) (a8:UInt8) (a9:List UInt8) (a10 a11:UInt8) (a12:Bool) (a13 a14 a15 a16:UInt8) (a17:Bool) (a18:UInt8) (a19:List UInt8)
noncomputable def K93_6:List Item:=(kAt 6 body93 []).getD []
def S93_6:St:=St.ofL [(1, .cell (.ptr 1 0)),(3, .cell (.ptr 3 0))] [(1,some [.val (.u8 a0), .val (.u8 a1), .val (.b a2), .val (.u8 a3), .val (.u8 a4), .val (.u8 a5), .val (.u8 a6), .val (.b a7), .val (.u8 a8), .val (.s a9)]),(3,some [.val (.u8 a10), .val (.u8 a11), .val (.b a12), .val (.u8 a13), .val (.u8 a14), .val (.u8 a15), .val (.u8 a16), .val (.b a17), .val (.u8 a18), .val (.s a19)])]
noncomputable def F93_6:Option AV:=run K93_6 (S93_6 a0 a1 a2 a3 a4 a5 a6 a7 a8 a9 a10 a11 a12 a13 a14 a15 a16 a17 a18 a19)
end
noncomputable def X93 (call:CallT) (run:RunT) (a0 a1:UInt8) (a2:Bool) (a3 a4 a5 a6:UInt8) (a7:Bool) (a8:UInt8) (a9:List UInt8):Option AV :=
 condM (.b (ueq a0 19))
 (F93_4 run a0 a1 a2 a3 a4 a5 a6 a7 a8 a9 a0 a1 false 0 0 0 0 false 0 a9)
 (F93_4 run a0 a1 a2 a3 a4 a5 a6 a7 a8 a9 a0 a1 false 0 0 0 0 false 0 [])
section
variable (call:CallT) (run:RunT) (a0 a1:UInt8) (a2:Bool) (a3 a4 a5 a6:UInt8) (a7:Bool) (a8:UInt8) (a9:List UInt8)
theorem text93:unr (C mx) call run 93 Tryd.f93 400 [.code body93] (initF (C mx) 93 Tryd.f93.ntmps [.ag [.u8 a0, .u8 a1, .b a2, .u8 a3, .u8 a4, .u8 a5, .u8 a6, .b a7, .u8 a8, .s a9]])=X93 call run a0 a1 a2 a3 a4 a5 a6 a7 a8 a9:=by
 kernel_rfl
theorem c93 {r:AV} (h:X93 (semCall (C mx) Tryd.prog) (semRun (C mx) Tryd.prog 93 Tryd.f93) a0 a1 a2 a3 a4 a5 a6 a7 a8 a9=some r):semCall (C mx) Tryd.prog 93 [.ag [.u8 a0, .u8 a1, .b a2, .u8 a3, .u8 a4, .u8 a5, .u8 a6, .b a7, .u8 a8, .s a9]]=some r :=
 semCall_unr (fn:=Tryd.f93) (c:=body93) (by kernel_rfl) (by kernel_rfl) 400 (by kernel_rfl) ((text93 _ _ a0 a1 a2 a3 a4 a5 a6 a7 a8 a9).trans h)
end
noncomputable def X93_4 (call:CallT) (run:RunT) (a0 a1:UInt8) (a2:Bool) (a3 a4 a5 a6:UInt8) (a7:Bool) (a8:UInt8) (a9:List UInt8) (a10 a11:UInt8) (a12:Bool) (a13 a14 a15 a16:UInt8) (a17:Bool) (a18:UInt8) (a19:List UInt8):Option AV :=
 (selW (.b (ueq a1 3)) false (some (.b (ueq a1 4))) (.b true)).bind fun v1=>condM v1
 (F93_6 run a0 a1 a2 a3 a4 a5 a6 a7 a8 a9 a10 a11 a12 a13 a14 a15 a6 a7 a18 a19)
 (F93_6 run a0 a1 a2 a3 a4 a5 a6 a7 a8 a9 a10 a11 a12 a13 a14 a15 a16 a17 a18 a19)
section
variable (call:CallT) (run:RunT) (a0 a1:UInt8) (a2:Bool) (a3 a4 a5 a6:UInt8) (a7:Bool) (a8:UInt8) (a9:List UInt8) (a10 a11:UInt8) (a12:Bool) (a13 a14 a15 a16:UInt8) (a17:Bool) (a18:UInt8) (a19:List UInt8)
theorem text93_4:step (C mx) call 93 Tryd.f93 (unr (C mx) call run 93 Tryd.f93 400) K93_4 (S93_4 a0 a1 a2 a3 a4 a5 a6 a7 a8 a9 a10 a11 a12 a13 a14 a15 a16 a17 a18 a19)=X93_4 call run a0 a1 a2 a3 a4 a5 a6 a7 a8 a9 a10 a11 a12 a13 a14 a15 a16 a17 a18 a19:=by
 kernel_rfl
end
noncomputable def X93_6 (call:CallT) (run:RunT) (a0 a1:UInt8) (a2:Bool) (a3 a4 a5 a6:UInt8) (a7:Bool) (a8:UInt8) (a9:List UInt8) (a10 a11:UInt8) (a12:Bool) (a13 a14 a15 a16:UInt8) (a17:Bool) (a18:UInt8) (a19:List UInt8):Option AV :=
 (selW (.b ((a0 == a10 && (a1 == a11 && (a2 == a12 && (a3 == a13 && (a4 == a14 && (a5 == a15 && (a6 == a16 && (a7 == a17 && (a8 == a18 && (a9 == a19 && true)))))))))))) true (some (.b (une a1 0))) (.b false)).bind fun v1=>(selW v1 true ((call 96 [.u8 a1]).bind fun v2=>(call 59 [v2, .s a9]).bind fun v3=>some v3) (.b false)).bind fun v4=>(selW v4 true ((call 107 [.ag [.u8 a0, .u8 a1, .b a2, .u8 a3, .u8 a4, .u8 a5, .u8 a6, .b a7, .u8 a8, .s a9], .b (ueq a1 3)]).bind fun v5=>some v5) (.b false)).bind fun v6=>some v6
section
variable (call:CallT) (run:RunT) (a0 a1:UInt8) (a2:Bool) (a3 a4 a5 a6:UInt8) (a7:Bool) (a8:UInt8) (a9:List UInt8) (a10 a11:UInt8) (a12:Bool) (a13 a14 a15 a16:UInt8) (a17:Bool) (a18:UInt8) (a19:List UInt8)
theorem text93_6:step (C mx) call 93 Tryd.f93 (unr (C mx) call run 93 Tryd.f93 400) K93_6 (S93_6 a0 a1 a2 a3 a4 a5 a6 a7 a8 a9 a10 a11 a12 a13 a14 a15 a16 a17 a18 a19)=X93_6 call run a0 a1 a2 a3 a4 a5 a6 a7 a8 a9 a10 a11 a12 a13 a14 a15 a16 a17 a18 a19:=by
 kernel_rfl
end
section
variable (a0 a1:UInt8) (a2:Bool) (a3 a4 a5 a6:UInt8) (a7:Bool) (a8:UInt8) (a9:List UInt8) (a10 a11:UInt8) (a12:Bool) (a13 a14 a15 a16:UInt8) (a17:Bool) (a18:UInt8) (a19:List UInt8)
theorem r93_4 {r:AV} (h:X93_4 (semCall (C mx) Tryd.prog) (semRun (C mx) Tryd.prog 93 Tryd.f93) a0 a1 a2 a3 a4 a5 a6 a7 a8 a9 a10 a11 a12 a13 a14 a15 a16 a17 a18 a19=some r):F93_4 (semRun (C mx) Tryd.prog 93 Tryd.f93) a0 a1 a2 a3 a4 a5 a6 a7 a8 a9 a10 a11 a12 a13 a14 a15 a16 a17 a18 a19=some r :=
 semRun_unr 400 ((text93_4 _ _ a0 a1 a2 a3 a4 a5 a6 a7 a8 a9 a10 a11 a12 a13 a14 a15 a16 a17 a18 a19).trans h)
end
section
variable (a0 a1:UInt8) (a2:Bool) (a3 a4 a5 a6:UInt8) (a7:Bool) (a8:UInt8) (a9:List UInt8) (a10 a11:UInt8) (a12:Bool) (a13 a14 a15 a16:UInt8) (a17:Bool) (a18:UInt8) (a19:List UInt8)
theorem r93_6 {r:AV} (h:X93_6 (semCall (C mx) Tryd.prog) (semRun (C mx) Tryd.prog 93 Tryd.f93) a0 a1 a2 a3 a4 a5 a6 a7 a8 a9 a10 a11 a12 a13 a14 a15 a16 a17 a18 a19=some r):F93_6 (semRun (C mx) Tryd.prog 93 Tryd.f93) a0 a1 a2 a3 a4 a5 a6 a7 a8 a9 a10 a11 a12 a13 a14 a15 a16 a17 a18 a19=some r :=
 semRun_unr 400 ((text93_6 _ _ a0 a1 a2 a3 a4 a5 a6 a7 a8 a9 a10 a11 a12 a13 a14 a15 a16 a17 a18 a19).trans h)
end
end R3I

namespace R3I
open Go Go.Proofs Sx
variable {mx:Int}
noncomputable def body96:Code:=(Tryd.f96.body).getD .skip
noncomputable def X96 (call:CallT) (run:RunT) (a0:UInt8):Option AV :=
 condM (.b (ueq a0 1))
 (some (.s [116,101,120,116,97,114,101,97]))
 (condM (.b (ueq a0 2))
 (some (.s [116,105,116,108,101]))
 (condM (.b (ueq a0 3))
 (some (.s [115,99,114,105,112,116]))
 (condM (.b (ueq a0 4))
 (some (.s [115,116,121,108,101]))
 (some (.s [])))))
section
variable (call:CallT) (run:RunT) (a0:UInt8)
theorem text96:unr (C mx) call run 96 Tryd.f96 400 [.code body96] (initF (C mx) 96 Tryd.f96.ntmps [.u8 a0])=X96 call run a0:=by
 kernel_rfl
theorem c96 {r:AV} (h:X96 (semCall (C mx) Tryd.prog) (semRun (C mx) Tryd.prog 96 Tryd.f96) a0=some r):semCall (C mx) Tryd.prog 96 [.u8 a0]=some r :=
 semCall_unr (fn:=Tryd.f96) (c:=body96) (by kernel_rfl) (by kernel_rfl) 400 (by kernel_rfl) ((text96 _ _ a0).trans h)
end
end R3I

namespace R3I
open Go Go.Proofs Sx
variable {mx:Int}
noncomputable def body107:Code:=(Tryd.f107.body).getD .skip
noncomputable def X107 (call:CallT) (run:RunT) (a0 a1:UInt8) (a2:Bool) (a3 a4 a5 a6:UInt8) (a7:Bool) (a8:UInt8) (a9:List UInt8) (a10:Bool):Option AV :=
 (selW (.b (!a10)) true (some (.b (ueq a6 4))) (.b false)).bind fun v1=>condM v1
 (some (.b false))
 ((selW (.b (!a7)) false (some (.b (ueq a6 1))) (.b true)).bind fun v2=>(selW v2 false (some (.b (ueq a6 2))) (.b true)).bind fun v3=>some v3)
section
variable (call:CallT) (run:RunT) (a0 a1:UInt8) (a2:Bool) (a3 a4 a5 a6:UInt8) (a7:Bool) (a8:UInt8) (a9:List UInt8) (a10:Bool)
theorem text107:unr (C mx) call run 107 Tryd.f107 400 [.code body107] (initF (C mx) 107 Tryd.f107.ntmps [.ag [.u8 a0, .u8 a1, .b a2, .u8 a3, .u8 a4, .u8 a5, .u8 a6, .b a7, .u8 a8, .s a9], .b a10])=X107 call run a0 a1 a2 a3 a4 a5 a6 a7 a8 a9 a10:=by
 kernel_rfl
theorem c107 {r:AV} (h:X107 (semCall (C mx) Tryd.prog) (semRun (C mx) Tryd.prog 107 Tryd.f107) a0 a1 a2 a3 a4 a5 a6 a7 a8 a9 a10=some r):semCall (C mx) Tryd.prog 107 [.ag [.u8 a0, .u8 a1, .b a2, .u8 a3, .u8 a4, .u8 a5, .u8 a6, .b a7, .u8 a8, .s a9], .b a10]=some r :=
 semCall_unr (fn:=Tryd.f107) (c:=body107) (by kernel_rfl) (by kernel_rfl) 400 (by kernel_rfl) ((text107 _ _ a0 a1 a2 a3 a4 a5 a6 a7 a8 a9 a10).trans h)
end
end R3I

namespace R3I
open Go Go.Proofs Sx
variable {mx:Int}
noncomputable def body150:Code:=(Tryd.f150.body).getD .skip
section
variable (run:RunT)
noncomputable def K150_13:List Item:=(kAt 13 body150 []).getD []
def S150_13:St:=St.ofL [] []
noncomputable def F150_13:Option AV:=run K150_13 (S150_13 )
end
section
variable (run:RunT) (a0 a1:List UInt8)
noncomputable def K150_14:List Item:=(kAt 14 body150 []).getD []
def S150_14:St:=St.ofL [(0, .cell (.val (.s a0))),(3, .cell (.val (.s a1)))] []
noncomputable def F150_14:Option AV:=run K150_14 (S150_14 a0 a1)
end
section
variable (run:RunT)
noncomputable def K150_21:List Item:=(kAt 21 body150 []).getD []
def S150_21:St:=St.ofL [] []
noncomputable def F150_21:Option AV:=run K150_21 (S150_21 )
end
section
variable (run:RunT) (a0:List UInt8)
noncomputable def K150_22:List Item:=(kAt 22 body150 []).getD []
def S150_22:St:=St.ofL [(0, .cell (.val (.s a0)))] []
noncomputable def F150_22:Option AV:=run K150_22 (S150_22 a0)
end
noncomputable def X150 (call:CallT) (run:RunT) (a0:List UInt8):Option AV :=
 condM (.b (a0 == [97,99,116,105,111,110]))
 (F150_13 run)
 (condM (.b (a0 == [98,97,99,107,103,114,111,117,110,100]))
 (F150_13 run)
 (condM (.b (a0 == [99,105,116,101]))
 (F150_13 run)
 (condM (.b (a0 == [100,97,116,97]))
 (F150_13 run)
 (condM (.b (a0 == [102,111,114,109,97,99,116,105,111,110]))
 (F150_13 run)
 (condM (.b (a0 == [104,114,101,102]))
 (F150_13 run)
 (condM (.b (a0 == [108,111,110,103,100,101,115,99]))
 (F150_13 run)
 (condM (.b (a0 == [109,97,110,105,102,101,115,116]))
 (F150_13 run)
 (condM (.b (a0 == [112,111,115,116,101,114]))
 (F150_13 run)
 (condM (.b (a0 == [115,114,99]))
 (F150_13 run)
 (condM (.b (a0 == [120,108,105,110,107,58,104,114,101,102]))
 (F150_13 run)
 (F150_14 run a0 a0)))))))))))
section
variable (call:CallT) (run:RunT) (a0:List UInt8)
theorem text150:unr (C mx) call run 150 Tryd.f150 400 [.code body150] (initF (C mx) 150 Tryd.f150.ntmps [.s a0])=X150 call run a0:=by
 kernel_rfl
theorem c150 {r:AV} (h:X150 (semCall (C mx) Tryd.prog) (semRun (C mx) Tryd.prog 150 Tryd.f150) a0=some r):semCall (C mx) Tryd.prog 150 [.s a0]=some r :=
 semCall_unr (fn:=Tryd.f150) (c:=body150) (by kernel_rfl) (by kernel_rfl) 400 (by kernel_rfl) ((text150 _ _ a0).trans h)
end
noncomputable def X150_13 (call:CallT) (run:RunT)  : Option AV :=
 some (.u8 1)
section
variable (call:CallT) (run:RunT)
theorem text150_13:step (C mx) call 150 Tryd.f150 (unr (C mx) call run 150 Tryd.f150 400) K150_13 (S150_13 )=X150_13 call run  := by
 kernel_rfl
end
noncomputable def X150_14 (call:CallT) (run:RunT) (a0 a1:List UInt8):Option AV :=
 condM (.b (a1 == [115,116,121,108,101]))
 (some (.u8 3))
 (condM (.b (a1 == [115,114,99,100,111,99]))
 (F150_21 run)
 (condM (.b (a1 == [115,114,99,115,101,116]))
 (F150_21 run)
 (condM (.b (a1 == [105,109,97,103,101,115,114,99,115,101,116]))
 (F150_21 run)
 (condM (.b (a1 == [99,111,110,116,101,110,116]))
 (F150_21 run)
 (condM (.b (a1 == [104,116,116,112,45,101,113,117,105,118]))
 (F150_21 run)
 (F150_22 run a0))))))
section
variable (call:CallT) (run:RunT) (a0 a1:List UInt8)
theorem text150_14:step (C mx) call 150 Tryd.f150 (unr (C mx) call run 150 Tryd.f150 400) K150_14 (S150_14 a0 a1)=X150_14 call run a0 a1:=by
 kernel_rfl
end
noncomputable def X150_21 (call:CallT) (run:RunT)  : Option AV :=
 some (.u8 4)
section
variable (call:CallT) (run:RunT)
theorem text150_21:step (C mx) call 150 Tryd.f150 (unr (C mx) call run 150 Tryd.f150 400) K150_21 (S150_21 )=X150_21 call run  := by
 kernel_rfl
end
noncomputable def X150_22 (call:CallT) (run:RunT) (a0:List UInt8):Option AV :=
 (selW (.b (decide ((a0.length:Int) > 2))) true ((call 59 [.s a0, .s [111,110]]).bind fun v1=>some v1) (.b false)).bind fun v2=>condM v2
 (some (.u8 2))
 (some (.u8 0))
section
variable (call:CallT) (run:RunT) (a0:List UInt8)
theorem text150_22:step (C mx) call 150 Tryd.f150 (unr (C mx) call run 150 Tryd.f150 400) K150_22 (S150_22 a0)=X150_22 call run a0:=by
 kernel_rfl
end
section
theorem r150_13 {r:AV} (h:X150_13 (semCall (C mx) Tryd.prog) (semRun (C mx) Tryd.prog 150 Tryd.f150)  = some r):F150_13 (semRun (C mx) Tryd.prog 150 Tryd.f150)  = some r :=
 semRun_unr 400 ((text150_13 _ _ ).trans h)
end
section
variable (a0 a1:List UInt8)
theorem r150_14 {r:AV} (h:X150_14 (semCall (C mx) Tryd.prog) (semRun (C mx) Tryd.prog 150 Tryd.f150) a0 a1=some r):F150_14 (semRun (C mx) Tryd.prog 150 Tryd.f150) a0 a1=some r :=
 semRun_unr 400 ((text150_14 _ _ a0 a1).trans h)
end
section
theorem r150_21 {r:AV} (h:X150_21 (semCall (C mx) Tryd.prog) (semRun (C mx) Tryd.prog 150 Tryd.f150)  = some r):F150_21 (semRun (C mx) Tryd.prog 150 Tryd.f150)  = some r :=
 semRun_unr 400 ((text150_21 _ _ ).trans h)
end
section
variable (a0:List UInt8)
theorem r150_22 {r:AV} (h:X150_22 (semCall (C mx) Tryd.prog) (semRun (C mx) Tryd.prog 150 Tryd.f150) a0=some r):F150_22 (semRun (C mx) Tryd.prog 150 Tryd.f150) a0=some r :=
 semRun_unr 400 ((text150_22 _ _ a0).trans h)
end
end R3I

namespace R3I
open Go Go.Proofs Sx
variable {mx:Int}
noncomputable def body152:Code:=(Tryd.f152.body).getD .skip
section
variable (run:RunT) (a0 a1:UInt8) (a2:Bool) (a3 a4 a5 a6:UInt8) (a7:Bool) (a8:UInt8) (a9:List UInt8)
noncomputable def K152_7:List Item:=(kAt 7 body152 []).getD []
def S152_7:St:=St.ofL [(1, .cell (.ptr 1 0))] [(1,some [.val (.u8 a0), .val (.u8 a1), .val (.b a2), .val (.u8 a3), .val (.u8 a4), .val (.u8 a5), .val (.u8 a6), .val (.b a7), .val (.u8 a8), .val (.s a9)])]
noncomputable def F152_7:Option AV:=run K152_7 (S152_7 a0 a1 a2 a3 a4 a5 a6 a7 a8 a9)
end
section
variable (run:RunT)
noncomputable def K152_8:List Item:=(kAt 8 body152 []).getD []
def S152_8:St:=St.ofL [] []
noncomputable def F152_8:Option AV:=run K152_8 (S152_8 )
end
noncomputable def X152 (call:CallT) (run:RunT) (a0 a1:UInt8) (a2:Bool) (a3 a4 a5 a6:UInt8) (a7:Bool) (a8:UInt8) (a9:List UInt8):Option AV :=
 condM (.b (ueq a0 8))
 ((selW (.b (ueq a3 2)) false (some (.b (ueq a3 3))) (.b true)).bind fun v1=>some v1)
 (condM (.b (ueq a0 17))
 (F152_7 run a0 a1 a2 a3 a4 a5 a6 a7 a8 a9)
 (condM (.b (ueq a0 18))
 (F152_7 run a0 a1 a2 a3 a4 a5 a6 a7 a8 a9)
 (condM (.b (ueq a0 19))
 (F152_7 run a0 a1 a2 a3 a4 a5 a6 a7 a8 a9)
 (F152_8 run))))
section
variable (call:CallT) (run:RunT) (a0 a1:UInt8) (a2:Bool) (a3 a4 a5 a6:UInt8) (a7:Bool) (a8:UInt8) (a9:List UInt8)
theorem text152:unr (C mx) call run 152 Tryd.f152 400 [.code body152] (initF (C mx) 152 Tryd.f152.ntmps [.ag [.u8 a0, .u8 a1, .b a2, .u8 a3, .u8 a4, .u8 a5, .u8 a6, .b a7, .u8 a8, .s a9]])=X152 call run a0 a1 a2 a3 a4 a5 a6 a7 a8 a9:=by
 kernel_rfl
theorem c152 {r:AV} (h:X152 (semCall (C mx) Tryd.prog) (semRun (C mx) Tryd.prog 152 Tryd.f152) a0 a1 a2 a3 a4 a5 a6 a7 a8 a9=some r):semCall (C mx) Tryd.prog 152 [.ag [.u8 a0, .u8 a1, .b a2, .u8 a3, .u8 a4, .u8 a5, .u8 a6, .b a7, .u8 a8, .s a9]]=some r :=
 semCall_unr (fn:=Tryd.f152) (c:=body152) (by kernel_rfl) (by kernel_rfl) 400 (by kernel_rfl) ((text152 _ _ a0 a1 a2 a3 a4 a5 a6 a7 a8 a9).trans h)
end
noncomputable def X152_7 (call:CallT) (run:RunT) (a0 a1:UInt8) (a2:Bool) (a3 a4 a5 a6:UInt8) (a7:Bool) (a8:UInt8) (a9:List UInt8):Option AV :=
 (selW (.b (ueq a1 3)) false (some (.b (ueq a1 4))) (.b true)).bind fun v1=>some v1
section
variable (call:CallT) (run:RunT) (a0 a1:UInt8) (a2:Bool) (a3 a4 a5 a6:UInt8) (a7:Bool) (a8:UInt8) (a9:List UInt8)
theorem text152_7:step (C mx) call 152 Tryd.f152 (unr (C mx) call run 152 Tryd.f152 400) K152_7 (S152_7 a0 a1 a2 a3 a4 a5 a6 a7 a8 a9)=X152_7 call run a0 a1 a2 a3 a4 a5 a6 a7 a8 a9:=by
 kernel_rfl
end
noncomputable def X152_8 (call:CallT) (run:RunT)  : Option AV :=
 some (.b false)
section
variable (call:CallT) (run:RunT)
theorem text152_8:step (C mx) call 152 Tryd.f152 (unr (C mx) call run 152 Tryd.f152 400) K152_8 (S152_8 )=X152_8 call run  := by
 kernel_rfl
end
section
variable (a0 a1:UInt8) (a2:Bool) (a3 a4 a5 a6:UInt8) (a7:Bool) (a8:UInt8) (a9:List UInt8)
theorem r152_7 {r:AV} (h:X152_7 (semCall (C mx) Tryd.prog) (semRun (C mx) Tryd.prog 152 Tryd.f152) a0 a1 a2 a3 a4 a5 a6 a7 a8 a9=some r):F152_7 (semRun (C mx) Tryd.prog 152 Tryd.f152) a0 a1 a2 a3 a4 a5 a6 a7 a8 a9=some r :=
 semRun_unr 400 ((text152_7 _ _ a0 a1 a2 a3 a4 a5 a6 a7 a8 a9).trans h)
end
section
theorem r152_8 {r:AV} (h:X152_8 (semCall (C mx) Tryd.prog) (semRun (C mx) Tryd.prog 152 Tryd.f152)  = some r):F152_8 (semRun (C mx) Tryd.prog 152 Tryd.f152)  = some r :=
 semRun_unr 400 ((text152_8 _ _ ).trans h)
end
end R3I

namespace R3I
open Go Go.Proofs Sx
variable {mx:Int}
section
variable (st el:UInt8) (en:Bool) (at' qu pa su:UInt8) (es:Bool) (da:UInt8) (nm:List UInt8)
theorem l91 (n:Nat):∀ (r p:List UInt8),(p ++ r).length < 9223372036854775808→low p=true→F91_2 (semRun (C mx) Tryd.prog 91 Tryd.f91) (p ++ r) (n:Int) ((p ++ r).length:Int) (p.length:Int)=some (.b (small (p ++ r) n))
 | [],p,h,hp=>by
  apply r91_2
  simp only [X91_2,nlt_len,nlt_self,List.append_nil,Option.bind_some,condM_b,Bool.false_eq_true,if_false,selW_and,small,hp,Bool.true_and,ge_iff_le]
  congr 3
  rw [decide_eq_decide];omega
 | c :: r,p,h,hp=>by
  apply r91_2
  simp only [X91_2,lt_len,idxS_at,w64_inc p c r h,u8_geq,u8_leq,Option.bind_some,condM_b,if_true,selW_and]
  cases hc:(decide (65≤c) && decide (c≤90)) with
  | true =>
   have:low (p ++ c :: r)=false:=by simp only [low,List.all_append,List.all_cons,hc,Bool.not_true,Bool.false_and,Bool.and_false]
   simp [small,this]
  | false =>
   simp only [Bool.false_eq_true,if_false]
   rw [snoc_app]
   exact l91 n r (p ++ [c]) (by rw [← snoc_app];exact h) (by simp only [low,List.all_append,List.all_cons,List.all_nil,hc] at hp ⊢;simpa using hp)
theorem s91 (n:Nat) (h:nm.length < 9223372036854775808):semCall (C mx) Tryd.prog 91 [.s nm, .int (n:Int)]=some (.b (small nm n)):=by
 apply c91
 simp only [X91]
 exact l91 n nm [] h rfl
theorem s96:semCall (C mx) Tryd.prog 96 [.u8 el]=some (.s (nameOf el)):=by
 apply c96
 refine of_isStr ?_
 revert el
 exact all_u8 (by kernel_rfl)
theorem s83 (l p:List UInt8):semCall (C mx) Tryd.prog 83 [.s l, .s p]=some (.b (pre p l)):=by
 apply c83
 simp only [X83,Option.bind_some,ge_iff_le]
 by_cases h:p.length≤l.length
 ·rw [slS_hi h]
  simp [pre,h]
 ·have:decide ((p.length:Int)≤(l.length:Int))=false:=by simp;omega
  rw [this,selW_tf]
  simp [pre,h]
theorem s59 (l p:List UInt8):semCall (C mx) Tryd.prog 59 [.s l, .s p]=some (.b (pre p l)):=by
 apply c59
 simp only [X59,s83,Option.bind_some]
theorem s107 (b:Bool):semCall (C mx) Tryd.prog 107 [cx st el en at' qu pa su es da nm, .b b]=some (.b (subOk su es b)):=by
 apply c107
 simp only [X107,ueq_eq,une_eq,ult_eq,ule_eq,ugt_eq,uge_eq,Option.bind_some,selW_and,selW_or,condM_b,subOk]
 cases b <;> by_cases h:su=4 <;> simp [h]
theorem s74:semCall (C mx) Tryd.prog 74 [cx st el en at' qu pa su es da nm]=some (.b ((su == 1 || su == 2) && !es)):=by
 apply c74
 simp [X74]
end
section
variable (st el:UInt8) (en:Bool) (at' qu pa su:UInt8) (es:Bool) (da:UInt8) (nm:List UInt8)
section two
variable (st1 el1:UInt8) (en1:Bool) (at1 qu1 pa1 su1:UInt8) (es1:Bool) (da1:UInt8) (nm1:List UInt8)
theorem f92_14:F92_14 (semRun (C mx) Tryd.prog 92 Tryd.f92) st el en at' qu pa su es da nm st1 el1 en1 at1 qu1 pa1 su1 es1 da1 nm1 =
  some (.b (cxeq ⟨st,el,en,at',qu,pa,su,es,da,nm⟩ ⟨st1,el1,en1,at1,qu1,pa1,su1,es1,da1,nm1⟩)):=by
 apply r92_14
 simp only [X92_14,cxeq,Bool.and_true,ueq_eq,une_eq,ult_eq,ule_eq,ugt_eq,uge_eq,Option.bind_some,selW_and,selW_or,condM_b,Option.bind_some]
theorem f92_12:F92_12 (semRun (C mx) Tryd.prog 92 Tryd.f92) st el en at' qu pa su es da nm st1 el1 en1 at1 qu1 pa1 su1 es1 da1 nm1 =
  some (.b (cxeq ⟨st,el,en,at',qu,pa,su,es,da,nm⟩ ⟨st1,el1,en1,at1,qu1,pa1,su,es,da1,nm1⟩ && subOk su es (at' == 2))):=by
 apply r92_12
 simp only [X92_12,cxeq,Bool.and_true,ueq_eq,une_eq,ult_eq,ule_eq,ugt_eq,uge_eq,Option.bind_some,selW_and,selW_or,condM_b,s107,selW_and]
theorem f93_6:F93_6 (semRun (C mx) Tryd.prog 93 Tryd.f93) st el en at' qu pa su es da nm st1 el1 en1 at1 qu1 pa1 su1 es1 da1 nm1 =
  some (.b (cxeq ⟨st,el,en,at',qu,pa,su,es,da,nm⟩ ⟨st1,el1,en1,at1,qu1,pa1,su1,es1,da1,nm1⟩ && (el != 0) && pre nm (nameOf el) && subOk su es (el == 3))):=by
 apply r93_6
 simp only [X93_6,cxeq,Bool.and_true,ueq_eq,une_eq,ult_eq,ule_eq,ugt_eq,uge_eq,Option.bind_some,selW_and,selW_or,condM_b,s107,s96,s59,selW_and]
theorem f93_4:F93_4 (semRun (C mx) Tryd.prog 93 Tryd.f93) st el en at' qu pa su es da nm st1 el1 en1 at1 qu1 pa1 su1 es1 da1 nm1 =
  some (.b (cxeq ⟨st,el,en,at',qu,pa,su,es,da,nm⟩ ⟨st1,el1,en1,at1,qu1,pa1,if (el == 3 || el == 4)=true then su else su1,if (el == 3 || el == 4)=true then es else es1,da1,nm1⟩ && (el != 0) && pre nm (nameOf el) && subOk su es (el == 3))):=by
 apply r93_4
 simp only [X93_4,cxeq,Bool.and_true,ueq_eq,une_eq,ult_eq,ule_eq,ugt_eq,uge_eq,Option.bind_some,selW_and,selW_or,condM_b,f93_6,condM_b]
 split <;> rfl
theorem s93:semCall (C mx) Tryd.prog 93 [cx st el en at' qu pa su es da nm] =
  some (.b (cxeq ⟨st,el,en,at',qu,pa,su,es,da,nm⟩ ⟨st,el,false,0,0,0,if (el == 3 || el == 4)=true then su else 0,if (el == 3 || el == 4)=true then es else false,0,if (st == 19)=true then nm else []⟩ && (el != 0) && pre nm (nameOf el) && subOk su es (el == 3))):=by
 apply c93
 simp only [X93,cxeq,Bool.and_true,ueq_eq,une_eq,ult_eq,ule_eq,ugt_eq,uge_eq,Option.bind_some,selW_and,selW_or,condM_b,f93_4,condM_b]
 split <;> rfl
theorem s92 (h:nm.length < 9223372036854775808):semCall (C mx) Tryd.prog 92 [cx st el en at' qu pa su es da nm,cx st1 el1 en1 at1 qu1 pa1 su1 es1 da1 nm1] =
  some (.b (valOk ⟨st,el,en,at',qu,pa,su,es,da,nm⟩ ⟨st1,el1,en1,at1,qu1,pa1,su1,es1,da1,nm1⟩)):=by
 apply c92
 have e2:semCall (C mx) Tryd.prog 91 [.s nm, .int 16]=some (.b (small nm 16)):=s91 nm 16 h
 simp only [X92,cxeq,Bool.and_true,ueq_eq,une_eq,ult_eq,ule_eq,ugt_eq,uge_eq,Option.bind_some,selW_and,selW_or,condM_b,f92_12,f92_14,e2,valOk,if_true]
 cases h1:(qu != 0 && qu != 34 && qu != 39) <;> cases h2:(at' == 1) <;> cases h3:(pa == 1) <;> cases h4:(at' == 2) <;> cases h5:(at' == 3) <;> simp
end two
theorem f68_11:F68_11 (semRun (C mx) Tryd.prog 68 Tryd.f68) st el en at' qu pa su es da nm st el en 0 0 0 0 false 0 [] =
  some (.b (cxeq ⟨st,el,en,at',qu,pa,su,es,da,nm⟩ ⟨st,el,en,0,0,0,0,false,0,[]⟩)):=by
 apply r68_11
 simp only [X68_11,cxeq,Bool.and_true,ueq_eq,une_eq,ult_eq,ule_eq,ugt_eq,uge_eq,Option.bind_some,selW_and,selW_or,condM_b,Option.bind_some]
theorem f68_14 (h:nm.length < 9223372036854775808):F68_14 (semRun (C mx) Tryd.prog 68 Tryd.f68) st el en at' qu pa su es da nm st el en 0 0 0 0 false 0 [] =
  some (.b (cxeq ⟨st,el,en,at',qu,pa,su,es,da,nm⟩ ⟨st,el,en,0,0,0,0,false,0,nm⟩ && small nm 32)):=by
 apply r68_14
 have e2:semCall (C mx) Tryd.prog 91 [.s nm, .int 32]=some (.b (small nm 32)):=s91 nm 32 h
 simp only [X68_14,cxeq,Bool.and_true,ueq_eq,une_eq,ult_eq,ule_eq,ugt_eq,uge_eq,Option.bind_some,selW_and,selW_or,condM_b,e2,selW_and]
theorem f68_27:F68_27 (semRun (C mx) Tryd.prog 68 Tryd.f68) st el en at' qu pa su es da nm =
  some (.b (cxeq ⟨st,el,en,at',qu,pa,su,es,da,nm⟩ ⟨st,el,false,0,0,0,if (el == 3 || el == 4)=true then su else 0,if (el == 3 || el == 4)=true then es else false,0,if (st == 19)=true then nm else []⟩ && (el != 0) && pre nm (nameOf el) && subOk su es (el == 3))):=by
 apply r68_27
 simp only [X68_27,cxeq,Bool.and_true,ueq_eq,une_eq,ult_eq,ule_eq,ugt_eq,uge_eq,Option.bind_some,selW_and,selW_or,condM_b,s93,Option.bind_some]
theorem f68_28:F68_28 (semRun (C mx) Tryd.prog 68 Tryd.f68) st el en at' qu pa su es da nm st 0 false 0 0 0 0 false 0 [] =
  some (.b (cxeq ⟨st,el,en,at',qu,pa,su,es,da,nm⟩ ⟨st,0,false,0,0,0,0,false,0,[]⟩)):=by
 apply r68_28
 simp only [X68_28,cxeq,Bool.and_true,ueq_eq,une_eq,ult_eq,ule_eq,ugt_eq,uge_eq,Option.bind_some,selW_and,selW_or,condM_b,Option.bind_some]
theorem f68_16 (h:nm.length < 9223372036854775808):F68_16 (semRun (C mx) Tryd.prog 68 Tryd.f68) st st el en at' qu pa su es da nm st 0 false 0 0 0 0 false 0 []
  st el en 0 0 0 0 false 0 [] =
  some (.b (if (st == 7)=true then cxeq ⟨st,el,en,at',qu,pa,su,es,da,nm⟩ ⟨st,el,en,at',0,0,0,false,0,[]⟩
   else if (st == 8)=true then valOk ⟨st,el,en,at',qu,pa,su,es,da,nm⟩ ⟨st,el,en,0,0,0,0,false,0,[]⟩
   else if (st == 15)=true then cxeq ⟨st,el,en,at',qu,pa,su,es,da,nm⟩ ⟨st,0,false,0,0,0,0,false,da,[]⟩ && decide (da≤2)
   else if (st == 17 || st == 18 || st == 19)=true then (cxeq ⟨st,el,en,at',qu,pa,su,es,da,nm⟩ ⟨st,el,false,0,0,0,if (el == 3 || el == 4)=true then su else 0,if (el == 3 || el == 4)=true then es else false,0,if (st == 19)=true then nm else []⟩ && (el != 0) && pre nm (nameOf el) && subOk su es (el == 3))
   else cxeq ⟨st,el,en,at',qu,pa,su,es,da,nm⟩ ⟨st,0,false,0,0,0,0,false,0,[]⟩)):=by
 apply r68_16
 simp only [X68_16,cxeq,Bool.and_true,ueq_eq,une_eq,ult_eq,ule_eq,ugt_eq,uge_eq,Option.bind_some,selW_and,selW_or,condM_b,s92 (h:=h),f68_27,f68_28,if_true]
 cases h1:(st == 7) <;> cases h2:(st == 8) <;> cases h3:(st == 15) <;> cases h4:(st == 17) <;> cases h5:(st == 18) <;> cases h6:(st == 19) <;> rfl
theorem f68_12 (h:nm.length < 9223372036854775808):F68_12 (semRun (C mx) Tryd.prog 68 Tryd.f68) st st el en at' qu pa su es da nm st 0 false 0 0 0 0 false 0 []
  st el en 0 0 0 0 false 0 [] =
  some (.b (if (st == 5 || st == 6)=true then cxeq ⟨st,el,en,at',qu,pa,su,es,da,nm⟩ ⟨st,el,en,0,0,0,0,false,0,nm⟩ && small nm 32
   else if (st == 7)=true then cxeq ⟨st,el,en,at',qu,pa,su,es,da,nm⟩ ⟨st,el,en,at',0,0,0,false,0,[]⟩
   else if (st == 8)=true then valOk ⟨st,el,en,at',qu,pa,su,es,da,nm⟩ ⟨st,el,en,0,0,0,0,false,0,[]⟩
   else if (st == 15)=true then cxeq ⟨st,el,en,at',qu,pa,su,es,da,nm⟩ ⟨st,0,false,0,0,0,0,false,da,[]⟩ && decide (da≤2)
   else if (st == 17 || st == 18 || st == 19)=true then (cxeq ⟨st,el,en,at',qu,pa,su,es,da,nm⟩ ⟨st,el,false,0,0,0,if (el == 3 || el == 4)=true then su else 0,if (el == 3 || el == 4)=true then es else false,0,if (st == 19)=true then nm else []⟩ && (el != 0) && pre nm (nameOf el) && subOk su es (el == 3))
   else cxeq ⟨st,el,en,at',qu,pa,su,es,da,nm⟩ ⟨st,0,false,0,0,0,0,false,0,[]⟩)):=by
 apply r68_12
 simp only [X68_12,cxeq,Bool.and_true,ueq_eq,une_eq,ult_eq,ule_eq,ugt_eq,uge_eq,Option.bind_some,selW_and,selW_or,condM_b,f68_14 (h:=h),f68_16 (h:=h),if_true]
 cases h1:(st == 5) <;> cases h2:(st == 6) <;> rfl
theorem s68a (h:nm.length < 9223372036854775808):semCall (C mx) Tryd.prog 68 [cx st el en at' qu pa su es da nm]=some (.b (form1 ⟨st,el,en,at',qu,pa,su,es,da,nm⟩)):=by
 apply c68
 have e1:semCall (C mx) Tryd.prog 91 [.s nm, .int 32]=some (.b (small nm 32)):=s91 nm 32 h
 simp only [X68,Bool.and_true,ueq_eq,une_eq,ult_eq,ule_eq,ugt_eq,uge_eq]
 simp only [Option.bind_some,selW_and,selW_or,condM_b,e1]
 rw [f68_12 (h:=h)]
 simp only [f68_11]
 unfold form1
 dsimp only
 cases h0:(decide (20 < st) || decide (4 < el) || decide (4 < at') || decide (5 < pa) || decide (6 < su) || en && el != 0) with
 | true=>rfl
 | false=>cases h2:(st == 3) <;> cases h3:(st == 4) <;> cases h4:(st == 9) <;> cases h5:(st == 10) <;> rfl
end
section
variable (st el:UInt8) (en:Bool) (at' qu pa su:UInt8) (es:Bool) (da:UInt8) (nm:List UInt8)
theorem s68 (h:nm.length < 9223372036854775808):semCall (C mx) Tryd.prog 68 [cx st el en at' qu pa su es da nm]=some (.b (form ⟨st,el,en,at',qu,pa,su,es,da,nm⟩)):=by
 rw [s68a (h:=h),form_eq]
theorem s50:semCall (C mx) Tryd.prog 50 [cx st el en at' qu pa su es da nm]=some (.u8 (hole ⟨st,el,en,at',qu,pa,su,es,da,nm⟩)):=by
 apply c50
 simp only [X50,ueq_eq,une_eq,Option.bind_some,selW_and,selW_or,condM_b,s74]
 unfold hole
 dsimp only
 generalize ((su == 1 || su == 2) && !es)=q
 cases h0:(st == 0) <;> cases h17:(st == 17) <;> cases h8:(st == 8) <;> cases q <;> simp <;> grind
section
variable (st1 el1:UInt8) (en1:Bool) (at1 qu1 pa1 su1:UInt8) (es1:Bool) (da1:UInt8) (nm1:List UInt8)
theorem f51:F51_6 (semRun (C mx) Tryd.prog 51 Tryd.f51) st el en at' qu pa su es da nm st1 el1 en1 at1 qu1 pa1 su1 es1 da1 nm1=some (cx st el en at' qu pa su es da nm):=by
 apply r51_6
 rfl
end
theorem s51:semCall (C mx) Tryd.prog 51 [cx st el en at' qu pa su es da nm]=some (after ⟨st,el,en,at',qu,pa,su,es,da,nm⟩).av:=by
 apply c51
 simp only [X51,s50,Option.bind_some,u8_eql,condM_b,f51,after]
 split
 ·rfl
 ·split <;> rfl
theorem s152:semCall (C mx) Tryd.prog 152 [cx st el en at' qu pa su es da nm]=some (.b (coded st el at')):=by
 apply c152
 have e1:F152_7 (semRun (C mx) Tryd.prog 152 Tryd.f152) st el en at' qu pa su es da nm=some (.b (el == 3 || el == 4)):=by
  apply r152_7
  simp only [X152_7,ueq_eq,selW_or,Option.bind_some]
 have e2:F152_8 (semRun (C mx) Tryd.prog 152 Tryd.f152)=some (.b false):=by
  apply r152_8
  rfl
 simp only [X152,ueq_eq,Option.bind_some,selW_or,condM_b,e1,e2,coded]
 rcases st_cases st with h | h | h | h | h | h | h | h | h | h | h | h | h | h | h | h | h | h | h | h | h | h <;> first | (subst h;rfl) | (subst h;simp;done) | skip
 obtain ⟨-,-,-,-,-,-,-,-,h8,-,-,-,-,-,-,-,-,h17,h18,h19⟩:=nlt st h
 have h2:¬ st≤19:=by
  have:=UInt8.lt_iff_toNat_lt.1 h
  rw [UInt8.le_iff_toNat_le];simp at this ⊢;omega
 simp [h8,h17,h18,h19,h2]
end
section
variable (st el:UInt8) (en:Bool) (at' qu pa su:UInt8) (es:Bool) (da:UInt8) (nm:List UInt8)
end
theorem s76 (nm:List UInt8):semCall (C mx) Tryd.prog 76 [.s nm]=some (.u8 (elOf nm)):=by
 apply c76
 simp only [X76,condM_b,elOf]
 split
 ·rfl
 ·split
  ·rfl
  ·split
   ·rfl
   ·split <;> rfl
theorem f150_13:F150_13 (semRun (C mx) Tryd.prog 150 Tryd.f150)=some (.u8 1):=by apply r150_13;rfl
theorem f150_21:F150_21 (semRun (C mx) Tryd.prog 150 Tryd.f150)=some (.u8 4):=by apply r150_21;rfl
theorem f150_22 (nm:List UInt8):F150_22 (semRun (C mx) Tryd.prog 150 Tryd.f150) nm=some (.u8 (if decide (2 < nm.length) && pre [111,110] nm then 2 else 0)):=by
 apply r150_22
 simp only [X150_22,s59,Option.bind_some,selW_and,condM_b]
 have:decide ((nm.length:Int) > 2)=decide (2 < nm.length):=by rw [decide_eq_decide];omega
 rw [this]
 split <;> rfl
theorem f150_14 (nm:List UInt8):F150_14 (semRun (C mx) Tryd.prog 150 Tryd.f150) nm nm=some (.u8 (if nm == [115,116,121,108,101] then 3 else if odds.contains nm then 4 else if decide (2 < nm.length) && pre [111,110] nm then 2 else 0)):=by
 apply r150_14
 simp only [X150_14,f150_21,f150_22,condM_b,odds,List.contains_cons,List.contains_nil,Bool.or_false]
 cases nm == [115,116,121,108,101] <;> cases nm == [115,114,99,100,111,99] <;> cases nm == [115,114,99,115,101,116] <;> cases nm == [105,109,97,103,101,115,114,99,115,101,116] <;> cases nm == [99,111,110,116,101,110,116] <;> cases nm == [104,116,116,112,45,101,113,117,105,118] <;> rfl
theorem s150 (nm:List UInt8):semCall (C mx) Tryd.prog 150 [.s nm]=some (.u8 (attrOf nm)):=by
 apply c150
 simp only [X150,f150_13,f150_14,condM_b,attrOf,urls,List.contains_cons,List.contains_nil,Bool.or_false]
 generalize (if (nm == [115,116,121,108,101])=true then (3:UInt8) else if odds.contains nm=true then 4 else if (decide (2 < nm.length) && pre [111,110] nm)=true then 2 else 0)=z
 cases nm == [97,99,116,105,111,110] with
 | true=>rfl
 | false =>
 cases nm == [98,97,99,107,103,114,111,117,110,100] with
 | true=>rfl
 | false =>
 cases nm == [99,105,116,101] with
 | true=>rfl
 | false =>
 cases nm == [100,97,116,97] with
 | true=>rfl
 | false =>
 cases nm == [102,111,114,109,97,99,116,105,111,110] with
 | true=>rfl
 | false =>
 cases nm == [104,114,101,102] with
 | true=>rfl
 | false =>
 cases nm == [108,111,110,103,100,101,115,99] with
 | true=>rfl
 | false =>
 cases nm == [109,97,110,105,102,101,115,116] with
 | true=>rfl
 | false =>
 cases nm == [112,111,115,116,101,114] with
 | true=>rfl
 | false =>
 cases nm == [115,114,99] with
 | true=>rfl
 | false =>
 cases nm == [120,108,105,110,107,58,104,114,101,102] <;> rfl
end R3I

namespace R3I
open Go Go.Proofs Sx
variable {mx:Int}
noncomputable def body95:Code:=(Tryd.f95.body).getD .skip
section
variable (run:RunT) (a0:UInt8) (a1:Bool) (a2 a3 a4 a5 a6 a7 a8 a9 a10 a11:AV) (a12 a13:UInt8) (a14:Bool) (a15 a16 a17 a18:UInt8) (a19:Bool) (a20:UInt8) (a21:List UInt8)
noncomputable def K95_3:List Item:=(kAt 3 body95 []).getD []
def S95_3:St:=St.ofL [(1, .cell (.val (.u8 a0))),(2, .cell (.val (.b a1))),(3, .cell (.ptr 3 0)),(6, .cell (.ptr 6 0))] [(3,some [.val a2, .val a3, .val a4, .val a5, .val a6, .val a7, .val a8, .val a9, .val a10, .val (a11)]),(6,some [.val (.u8 a12), .val (.u8 a13), .val (.b a14), .val (.u8 a15), .val (.u8 a16), .val (.u8 a17), .val (.u8 a18), .val (.b a19), .val (.u8 a20), .val (.s a21)])]
noncomputable def F95_3:Option AV:=run K95_3 (S95_3 a0 a1 a2 a3 a4 a5 a6 a7 a8 a9 a10 a11 a12 a13 a14 a15 a16 a17 a18 a19 a20 a21)
end
section
variable (run:RunT) (a0 a1 a2 a3 a4 a5 a6 a7 a8 a9:AV) (a10 a11:UInt8) (a12:Bool) (a13 a14 a15 a16:UInt8) (a17:Bool) (a18:UInt8) (a19:List UInt8)
noncomputable def K95_32:List Item:=(kAt 32 body95 []).getD []
def S95_32:St:=St.ofL [(3, .cell (.ptr 3 0)),(6, .cell (.ptr 6 0))] [(3,some [.val a0, .val a1, .val a2, .val a3, .val a4, .val a5, .val a6, .val a7, .val a8, .val (a9)]),(6,some [.val (.u8 a10), .val (.u8 a11), .val (.b a12), .val (.u8 a13), .val (.u8 a14), .val (.u8 a15), .val (.u8 a16), .val (.b a17), .val (.u8 a18), .val (.s a19)])]
noncomputable def F95_32:Option AV:=run K95_32 (S95_32 a0 a1 a2 a3 a4 a5 a6 a7 a8 a9 a10 a11 a12 a13 a14 a15 a16 a17 a18 a19)
end
section
variable (run:RunT) (a0:UInt8) (a1:Bool) (a2 a3 a4 a5 a6 a7 a8 a9 a10 a11:AV) (a12 a13:UInt8) (a14:Bool) (a15 a16 a17 a18:UInt8) (a19:Bool) (a20:UInt8) (a21:List UInt8)
noncomputable def K95_22:List Item:=(kAt 22 body95 []).getD []
def S95_22:St:=St.ofL [(1, .cell (.val (.u8 a0))),(2, .cell (.val (.b a1))),(3, .cell (.ptr 3 0)),(6, .cell (.ptr 6 0))] [(3,some [.val a2, .val a3, .val a4, .val a5, .val a6, .val a7, .val a8, .val a9, .val a10, .val (a11)]),(6,some [.val (.u8 a12), .val (.u8 a13), .val (.b a14), .val (.u8 a15), .val (.u8 a16), .val (.u8 a17), .val (.u8 a18), .val (.b a19), .val (.u8 a20), .val (.s a21)])]
noncomputable def F95_22:Option AV:=run K95_22 (S95_22 a0 a1 a2 a3 a4 a5 a6 a7 a8 a9 a10 a11 a12 a13 a14 a15 a16 a17 a18 a19 a20 a21)
end
section
variable (run:RunT) (a0:UInt8) (a1:Bool) (a2 a3 a4 a5 a6 a7 a8 a9 a10 a11 a12:AV) (a13 a14:UInt8) (a15:Bool) (a16 a17 a18 a19:UInt8) (a20:Bool) (a21:UInt8) (a22:List UInt8)
noncomputable def K95_26:List Item:=(kAt 26 body95 []).getD []
def S95_26:St:=St.ofL [(1, .cell (.val (.u8 a0))),(2, .cell (.val (.b a1))),(3, .cell (.ptr 3 0)),(6, .cell (.ptr 6 0)),(16, .cell (.val a2))] [(3,some [.val a3, .val a4, .val a5, .val a6, .val a7, .val a8, .val a9, .val a10, .val a11, .val (a12)]),(6,some [.val (.u8 a13), .val (.u8 a14), .val (.b a15), .val (.u8 a16), .val (.u8 a17), .val (.u8 a18), .val (.u8 a19), .val (.b a20), .val (.u8 a21), .val (.s a22)])]
noncomputable def F95_26:Option AV:=run K95_26 (S95_26 a0 a1 a2 a3 a4 a5 a6 a7 a8 a9 a10 a11 a12 a13 a14 a15 a16 a17 a18 a19 a20 a21 a22)
end
section
variable (run:RunT) (a0:UInt8) (a1:Bool) (a2 a3 a4 a5 a6 a7 a8 a9 a10 a11:AV) (a12 a13:UInt8) (a14:Bool) (a15 a16 a17 a18:UInt8) (a19:Bool) (a20:UInt8) (a21:List UInt8)
noncomputable def K95_31:List Item:=(kAt 31 body95 []).getD []
def S95_31:St:=St.ofL [(1, .cell (.val (.u8 a0))),(2, .cell (.val (.b a1))),(3, .cell (.ptr 3 0)),(6, .cell (.ptr 6 0))] [(3,some [.val a2, .val a3, .val a4, .val a5, .val a6, .val a7, .val a8, .val a9, .val a10, .val (a11)]),(6,some [.val (.u8 a12), .val (.u8 a13), .val (.b a14), .val (.u8 a15), .val (.u8 a16), .val (.u8 a17), .val (.u8 a18), .val (.b a19), .val (.u8 a20), .val (.s a21)])]
noncomputable def F95_31:Option AV:=run K95_31 (S95_31 a0 a1 a2 a3 a4 a5 a6 a7 a8 a9 a10 a11 a12 a13 a14 a15 a16 a17 a18 a19 a20 a21)
end
section
variable (run:RunT) (a0:UInt8) (a1 a2 a3 a4 a5 a6 a7 a8 a9 a10:AV) (a11 a12:UInt8) (a13:Bool) (a14 a15 a16 a17:UInt8) (a18:Bool) (a19:UInt8) (a20:List UInt8)
noncomputable def K95_4:List Item:=(kAt 4 body95 []).getD []
def S95_4:St:=St.ofL [(1, .cell (.val (.u8 a0))),(3, .cell (.ptr 3 0)),(6, .cell (.ptr 6 0))] [(3,some [.val a1, .val a2, .val a3, .val a4, .val a5, .val a6, .val a7, .val a8, .val a9, .val (a10)]),(6,some [.val (.u8 a11), .val (.u8 a12), .val (.b a13), .val (.u8 a14), .val (.u8 a15), .val (.u8 a16), .val (.u8 a17), .val (.b a18), .val (.u8 a19), .val (.s a20)])]
noncomputable def F95_4:Option AV:=run K95_4 (S95_4 a0 a1 a2 a3 a4 a5 a6 a7 a8 a9 a10 a11 a12 a13 a14 a15 a16 a17 a18 a19 a20)
end
noncomputable def X95 (call:CallT) (run:RunT) (a0 a1:UInt8) (a2:Bool) (a3 a4 a5 a6:UInt8) (a7:Bool) (a8:UInt8) (a9:List UInt8) (a10:UInt8) (a11:Bool):Option AV :=
 (call 68 [.ag [.u8 a0, .u8 a1, .b a2, .u8 a3, .u8 a4, .u8 a5, .u8 a6, .b a7, .u8 a8, .s a9]]).bind fun v1=>(unop .not v1).bind fun v2=>condM v2
 (some (.ag [.u8 20, .u8 0, .b false, .u8 0, .u8 0, .u8 0, .u8 0, .b false, .u8 0, .s []]))
 (F95_3 run a10 a11 (.u8 a0) (.u8 a1) (.b a2) (.u8 a3) (.u8 a4) (.u8 a5) (.u8 a6) (.b a7) (.u8 a8) (.s a9) 0 0 false 0 0 0 0 false 0 [])
section
variable (call:CallT) (run:RunT) (a0 a1:UInt8) (a2:Bool) (a3 a4 a5 a6:UInt8) (a7:Bool) (a8:UInt8) (a9:List UInt8) (a10:UInt8) (a11:Bool)
theorem text95:unr (C mx) call run 95 Tryd.f95 400 [.code body95] (initF (C mx) 95 Tryd.f95.ntmps [.ag [.u8 a0, .u8 a1, .b a2, .u8 a3, .u8 a4, .u8 a5, .u8 a6, .b a7, .u8 a8, .s a9], .u8 a10, .b a11])=X95 call run a0 a1 a2 a3 a4 a5 a6 a7 a8 a9 a10 a11:=by
 kernel_rfl
theorem c95 {r:AV} (h:X95 (semCall (C mx) Tryd.prog) (semRun (C mx) Tryd.prog 95 Tryd.f95) a0 a1 a2 a3 a4 a5 a6 a7 a8 a9 a10 a11=some r):semCall (C mx) Tryd.prog 95 [.ag [.u8 a0, .u8 a1, .b a2, .u8 a3, .u8 a4, .u8 a5, .u8 a6, .b a7, .u8 a8, .s a9], .u8 a10, .b a11]=some r :=
 semCall_unr (fn:=Tryd.f95) (c:=body95) (by kernel_rfl) (by kernel_rfl) 400 (by kernel_rfl) ((text95 _ _ a0 a1 a2 a3 a4 a5 a6 a7 a8 a9 a10 a11).trans h)
end
noncomputable def X95_3 (call:CallT) (run:RunT) (a0:UInt8) (a1:Bool) (a2 a3 a4 a5 a6 a7 a8 a9 a10 a11:AV) (a12 a13:UInt8) (a14:Bool) (a15 a16 a17 a18:UInt8) (a19:Bool) (a20:UInt8) (a21:List UInt8):Option AV :=
 (binI .eql a2 (.u8 0)).bind fun v1=>condM v1
 (condM (.b (ueq a0 60))
 (F95_32 run (.u8 1) a3 a4 a5 a6 a7 a8 a9 a10 a11 a12 a13 a14 a15 a16 a17 a18 a19 a20 a21)
 (F95_32 run a2 a3 a4 a5 a6 a7 a8 a9 a10 a11 a12 a13 a14 a15 a16 a17 a18 a19 a20 a21))
 ((binI .eql a2 (.u8 1)).bind fun v2=>condM v2
 ((call 109 [.u8 a0]).bind fun v3=>(tupI v3 0).bind fun v4=>(tupI v3 1).bind fun v5=>(AV.asAg 10 v4).bind fun v6=>condM v5
 (some (.ag [v6.getD 0 .un,v6.getD 1 .un,v6.getD 2 .un,v6.getD 3 .un,v6.getD 4 .un,v6.getD 5 .un,v6.getD 6 .un,v6.getD 7 .un,v6.getD 8 .un,v6.getD 9 .un]))
 (F95_3 run a0 a1 (.u8 0) a3 a4 a5 a6 a7 a8 a9 a10 a11 a12 a13 a14 a15 a16 a17 a18 a19 a20 a21))
 ((binI .eql a2 (.u8 2)).bind fun v7=>condM v7
 ((call 110 [.u8 a0]).bind fun v8=>(AV.asAg 10 v8).bind fun v9=>some (.ag [v9.getD 0 .un,v9.getD 1 .un,v9.getD 2 .un,v9.getD 3 .un,v9.getD 4 .un,v9.getD 5 .un,v9.getD 6 .un,v9.getD 7 .un,v9.getD 8 .un,v9.getD 9 .un]))
 ((binI .eql a2 (.u8 3)).bind fun v10=>condM v10
 (F95_22 run a0 a1 a2 a3 a4 a5 a6 a7 a8 a9 a10 a11 a12 a13 a14 a15 a16 a17 a18 a19 a20 a21)
 ((binI .eql a2 (.u8 4)).bind fun v11=>condM v11
 (F95_22 run a0 a1 a2 a3 a4 a5 a6 a7 a8 a9 a10 a11 a12 a13 a14 a15 a16 a17 a18 a19 a20 a21)
 ((binI .eql a2 (.u8 5)).bind fun v12=>condM v12
 (F95_22 run a0 a1 a2 a3 a4 a5 a6 a7 a8 a9 a10 a11 a12 a13 a14 a15 a16 a17 a18 a19 a20 a21)
 ((binI .eql a2 (.u8 6)).bind fun v13=>condM v13
 (F95_22 run a0 a1 a2 a3 a4 a5 a6 a7 a8 a9 a10 a11 a12 a13 a14 a15 a16 a17 a18 a19 a20 a21)
 ((binI .eql a2 (.u8 7)).bind fun v14=>condM v14
 (F95_22 run a0 a1 a2 a3 a4 a5 a6 a7 a8 a9 a10 a11 a12 a13 a14 a15 a16 a17 a18 a19 a20 a21)
 ((binI .eql a2 (.u8 9)).bind fun v15=>condM v15
 (F95_22 run a0 a1 a2 a3 a4 a5 a6 a7 a8 a9 a10 a11 a12 a13 a14 a15 a16 a17 a18 a19 a20 a21)
 ((binI .eql a2 (.u8 10)).bind fun v16=>condM v16
 (F95_22 run a0 a1 a2 a3 a4 a5 a6 a7 a8 a9 a10 a11 a12 a13 a14 a15 a16 a17 a18 a19 a20 a21)
 (F95_26 run a0 a1 a2 a2 a3 a4 a5 a6 a7 a8 a9 a10 a11 a12 a13 a14 a15 a16 a17 a18 a19 a20 a21))))))))))
section
variable (call:CallT) (run:RunT) (a0:UInt8) (a1:Bool) (a2 a3 a4 a5 a6 a7 a8 a9 a10 a11:AV) (a12 a13:UInt8) (a14:Bool) (a15 a16 a17 a18:UInt8) (a19:Bool) (a20:UInt8) (a21:List UInt8)
theorem text95_3:step (C mx) call 95 Tryd.f95 (unr (C mx) call run 95 Tryd.f95 400) K95_3 (S95_3 a0 a1 a2 a3 a4 a5 a6 a7 a8 a9 a10 a11 a12 a13 a14 a15 a16 a17 a18 a19 a20 a21)=X95_3 call run a0 a1 a2 a3 a4 a5 a6 a7 a8 a9 a10 a11 a12 a13 a14 a15 a16 a17 a18 a19 a20 a21:=by
 kernel_rfl
end
noncomputable def X95_32 (call:CallT) (run:RunT) (a0 a1 a2 a3 a4 a5 a6 a7 a8 a9:AV) (a10 a11:UInt8) (a12:Bool) (a13 a14 a15 a16:UInt8) (a17:Bool) (a18:UInt8) (a19:List UInt8):Option AV :=
 some (.ag [a0,a1,a2,a3,a4,a5,a6,a7,a8,a9])
section
variable (call:CallT) (run:RunT) (a0 a1 a2 a3 a4 a5 a6 a7 a8 a9:AV) (a10 a11:UInt8) (a12:Bool) (a13 a14 a15 a16:UInt8) (a17:Bool) (a18:UInt8) (a19:List UInt8)
theorem text95_32:step (C mx) call 95 Tryd.f95 (unr (C mx) call run 95 Tryd.f95 400) K95_32 (S95_32 a0 a1 a2 a3 a4 a5 a6 a7 a8 a9 a10 a11 a12 a13 a14 a15 a16 a17 a18 a19)=X95_32 call run a0 a1 a2 a3 a4 a5 a6 a7 a8 a9 a10 a11 a12 a13 a14 a15 a16 a17 a18 a19:=by
 kernel_rfl
end
noncomputable def X95_22 (call:CallT) (run:RunT) (a0:UInt8) (a1:Bool) (a2 a3 a4 a5 a6 a7 a8 a9 a10 a11:AV) (a12 a13:UInt8) (a14:Bool) (a15 a16 a17 a18:UInt8) (a19:Bool) (a20:UInt8) (a21:List UInt8):Option AV :=
 (call 111 [.ag [a2,a3,a4,a5,a6,a7,a8,a9,a10,a11], .u8 a0]).bind fun v1=>(tupI v1 0).bind fun v2=>(tupI v1 1).bind fun v3=>(AV.asAg 10 v2).bind fun v4=>condM v3
 (F95_3 run a0 a1 (v4.getD 0 .un) (v4.getD 1 .un) (v4.getD 2 .un) (v4.getD 3 .un) (v4.getD 4 .un) (v4.getD 5 .un) (v4.getD 6 .un) (v4.getD 7 .un) (v4.getD 8 .un) (v4.getD 9 .un) a12 a13 a14 a15 a16 a17 a18 a19 a20 a21)
 (some (.ag [v4.getD 0 .un,v4.getD 1 .un,v4.getD 2 .un,v4.getD 3 .un,v4.getD 4 .un,v4.getD 5 .un,v4.getD 6 .un,v4.getD 7 .un,v4.getD 8 .un,v4.getD 9 .un]))
section
variable (call:CallT) (run:RunT) (a0:UInt8) (a1:Bool) (a2 a3 a4 a5 a6 a7 a8 a9 a10 a11:AV) (a12 a13:UInt8) (a14:Bool) (a15 a16 a17 a18:UInt8) (a19:Bool) (a20:UInt8) (a21:List UInt8)
theorem text95_22:step (C mx) call 95 Tryd.f95 (unr (C mx) call run 95 Tryd.f95 400) K95_22 (S95_22 a0 a1 a2 a3 a4 a5 a6 a7 a8 a9 a10 a11 a12 a13 a14 a15 a16 a17 a18 a19 a20 a21)=X95_22 call run a0 a1 a2 a3 a4 a5 a6 a7 a8 a9 a10 a11 a12 a13 a14 a15 a16 a17 a18 a19 a20 a21:=by
 kernel_rfl
end
noncomputable def X95_26 (call:CallT) (run:RunT) (a0:UInt8) (a1:Bool) (a2 a3 a4 a5 a6 a7 a8 a9 a10 a11 a12:AV) (a13 a14:UInt8) (a15:Bool) (a16 a17 a18 a19:UInt8) (a20:Bool) (a21:UInt8) (a22:List UInt8):Option AV :=
 (binI .eql a2 (.u8 8)).bind fun v1=>condM v1
 ((call 112 [.ag [a3,a4,a5,a6,a7,a8,a9,a10,a11,a12], .u8 a0]).bind fun v2=>(AV.asAg 10 v2).bind fun v3=>some (.ag [v3.getD 0 .un,v3.getD 1 .un,v3.getD 2 .un,v3.getD 3 .un,v3.getD 4 .un,v3.getD 5 .un,v3.getD 6 .un,v3.getD 7 .un,v3.getD 8 .un,v3.getD 9 .un]))
 ((binI .eql a2 (.u8 17)).bind fun v4=>condM v4
 (F95_31 run a0 a1 a3 a4 a5 a6 a7 a8 a9 a10 a11 a12 a13 a14 a15 a16 a17 a18 a19 a20 a21 a22)
 ((binI .eql a2 (.u8 18)).bind fun v5=>condM v5
 (F95_31 run a0 a1 a3 a4 a5 a6 a7 a8 a9 a10 a11 a12 a13 a14 a15 a16 a17 a18 a19 a20 a21 a22)
 ((binI .eql a2 (.u8 19)).bind fun v6=>condM v6
 (F95_31 run a0 a1 a3 a4 a5 a6 a7 a8 a9 a10 a11 a12 a13 a14 a15 a16 a17 a18 a19 a20 a21 a22)
 (F95_4 run a0 a3 a4 a5 a6 a7 a8 a9 a10 a11 a12 a13 a14 a15 a16 a17 a18 a19 a20 a21 a22))))
section
variable (call:CallT) (run:RunT) (a0:UInt8) (a1:Bool) (a2 a3 a4 a5 a6 a7 a8 a9 a10 a11 a12:AV) (a13 a14:UInt8) (a15:Bool) (a16 a17 a18 a19:UInt8) (a20:Bool) (a21:UInt8) (a22:List UInt8)
theorem text95_26:step (C mx) call 95 Tryd.f95 (unr (C mx) call run 95 Tryd.f95 400) K95_26 (S95_26 a0 a1 a2 a3 a4 a5 a6 a7 a8 a9 a10 a11 a12 a13 a14 a15 a16 a17 a18 a19 a20 a21 a22)=X95_26 call run a0 a1 a2 a3 a4 a5 a6 a7 a8 a9 a10 a11 a12 a13 a14 a15 a16 a17 a18 a19 a20 a21 a22:=by
 kernel_rfl
end
noncomputable def X95_31 (call:CallT) (run:RunT) (a0:UInt8) (a1:Bool) (a2 a3 a4 a5 a6 a7 a8 a9 a10 a11:AV) (a12 a13:UInt8) (a14:Bool) (a15 a16 a17 a18:UInt8) (a19:Bool) (a20:UInt8) (a21:List UInt8):Option AV :=
 (call 113 [.ag [a2,a3,a4,a5,a6,a7,a8,a9,a10,a11], .u8 a0, .b a1]).bind fun v1=>(AV.asAg 10 v1).bind fun v2=>some (.ag [v2.getD 0 .un,v2.getD 1 .un,v2.getD 2 .un,v2.getD 3 .un,v2.getD 4 .un,v2.getD 5 .un,v2.getD 6 .un,v2.getD 7 .un,v2.getD 8 .un,v2.getD 9 .un])
section
variable (call:CallT) (run:RunT) (a0:UInt8) (a1:Bool) (a2 a3 a4 a5 a6 a7 a8 a9 a10 a11:AV) (a12 a13:UInt8) (a14:Bool) (a15 a16 a17 a18:UInt8) (a19:Bool) (a20:UInt8) (a21:List UInt8)
theorem text95_31:step (C mx) call 95 Tryd.f95 (unr (C mx) call run 95 Tryd.f95 400) K95_31 (S95_31 a0 a1 a2 a3 a4 a5 a6 a7 a8 a9 a10 a11 a12 a13 a14 a15 a16 a17 a18 a19 a20 a21)=X95_31 call run a0 a1 a2 a3 a4 a5 a6 a7 a8 a9 a10 a11 a12 a13 a14 a15 a16 a17 a18 a19 a20 a21:=by
 kernel_rfl
end
noncomputable def X95_4 (call:CallT) (run:RunT) (a0:UInt8) (a1 a2 a3 a4 a5 a6 a7 a8 a9 a10:AV) (a11 a12:UInt8) (a13:Bool) (a14 a15 a16 a17:UInt8) (a18:Bool) (a19:UInt8) (a20:List UInt8):Option AV :=
 (call 114 [.ag [a1,a2,a3,a4,a5,a6,a7,a8,a9,a10], .u8 a0]).bind fun v1=>(AV.asAg 10 v1).bind fun v2=>some (.ag [v2.getD 0 .un,v2.getD 1 .un,v2.getD 2 .un,v2.getD 3 .un,v2.getD 4 .un,v2.getD 5 .un,v2.getD 6 .un,v2.getD 7 .un,v2.getD 8 .un,v2.getD 9 .un])
section
variable (call:CallT) (run:RunT) (a0:UInt8) (a1 a2 a3 a4 a5 a6 a7 a8 a9 a10:AV) (a11 a12:UInt8) (a13:Bool) (a14 a15 a16 a17:UInt8) (a18:Bool) (a19:UInt8) (a20:List UInt8)
theorem text95_4:step (C mx) call 95 Tryd.f95 (unr (C mx) call run 95 Tryd.f95 400) K95_4 (S95_4 a0 a1 a2 a3 a4 a5 a6 a7 a8 a9 a10 a11 a12 a13 a14 a15 a16 a17 a18 a19 a20)=X95_4 call run a0 a1 a2 a3 a4 a5 a6 a7 a8 a9 a10 a11 a12 a13 a14 a15 a16 a17 a18 a19 a20:=by
 kernel_rfl
end
section
variable (a0:UInt8) (a1:Bool) (a2 a3 a4 a5 a6 a7 a8 a9 a10 a11:AV) (a12 a13:UInt8) (a14:Bool) (a15 a16 a17 a18:UInt8) (a19:Bool) (a20:UInt8) (a21:List UInt8)
theorem r95_3 {r:AV} (h:X95_3 (semCall (C mx) Tryd.prog) (semRun (C mx) Tryd.prog 95 Tryd.f95) a0 a1 a2 a3 a4 a5 a6 a7 a8 a9 a10 a11 a12 a13 a14 a15 a16 a17 a18 a19 a20 a21=some r):F95_3 (semRun (C mx) Tryd.prog 95 Tryd.f95) a0 a1 a2 a3 a4 a5 a6 a7 a8 a9 a10 a11 a12 a13 a14 a15 a16 a17 a18 a19 a20 a21=some r :=
 semRun_unr 400 ((text95_3 _ _ a0 a1 a2 a3 a4 a5 a6 a7 a8 a9 a10 a11 a12 a13 a14 a15 a16 a17 a18 a19 a20 a21).trans h)
end
section
variable (a0 a1 a2 a3 a4 a5 a6 a7 a8 a9:AV) (a10 a11:UInt8) (a12:Bool) (a13 a14 a15 a16:UInt8) (a17:Bool) (a18:UInt8) (a19:List UInt8)
theorem r95_32 {r:AV} (h:X95_32 (semCall (C mx) Tryd.prog) (semRun (C mx) Tryd.prog 95 Tryd.f95) a0 a1 a2 a3 a4 a5 a6 a7 a8 a9 a10 a11 a12 a13 a14 a15 a16 a17 a18 a19=some r):F95_32 (semRun (C mx) Tryd.prog 95 Tryd.f95) a0 a1 a2 a3 a4 a5 a6 a7 a8 a9 a10 a11 a12 a13 a14 a15 a16 a17 a18 a19=some r :=
 semRun_unr 400 ((text95_32 _ _ a0 a1 a2 a3 a4 a5 a6 a7 a8 a9 a10 a11 a12 a13 a14 a15 a16 a17 a18 a19).trans h)
end
section
variable (a0:UInt8) (a1:Bool) (a2 a3 a4 a5 a6 a7 a8 a9 a10 a11:AV) (a12 a13:UInt8) (a14:Bool) (a15 a16 a17 a18:UInt8) (a19:Bool) (a20:UInt8) (a21:List UInt8)
theorem r95_22 {r:AV} (h:X95_22 (semCall (C mx) Tryd.prog) (semRun (C mx) Tryd.prog 95 Tryd.f95) a0 a1 a2 a3 a4 a5 a6 a7 a8 a9 a10 a11 a12 a13 a14 a15 a16 a17 a18 a19 a20 a21=some r):F95_22 (semRun (C mx) Tryd.prog 95 Tryd.f95) a0 a1 a2 a3 a4 a5 a6 a7 a8 a9 a10 a11 a12 a13 a14 a15 a16 a17 a18 a19 a20 a21=some r :=
 semRun_unr 400 ((text95_22 _ _ a0 a1 a2 a3 a4 a5 a6 a7 a8 a9 a10 a11 a12 a13 a14 a15 a16 a17 a18 a19 a20 a21).trans h)
end
section
variable (a0:UInt8) (a1:Bool) (a2 a3 a4 a5 a6 a7 a8 a9 a10 a11 a12:AV) (a13 a14:UInt8) (a15:Bool) (a16 a17 a18 a19:UInt8) (a20:Bool) (a21:UInt8) (a22:List UInt8)
theorem r95_26 {r:AV} (h:X95_26 (semCall (C mx) Tryd.prog) (semRun (C mx) Tryd.prog 95 Tryd.f95) a0 a1 a2 a3 a4 a5 a6 a7 a8 a9 a10 a11 a12 a13 a14 a15 a16 a17 a18 a19 a20 a21 a22=some r):F95_26 (semRun (C mx) Tryd.prog 95 Tryd.f95) a0 a1 a2 a3 a4 a5 a6 a7 a8 a9 a10 a11 a12 a13 a14 a15 a16 a17 a18 a19 a20 a21 a22=some r :=
 semRun_unr 400 ((text95_26 _ _ a0 a1 a2 a3 a4 a5 a6 a7 a8 a9 a10 a11 a12 a13 a14 a15 a16 a17 a18 a19 a20 a21 a22).trans h)
end
section
variable (a0:UInt8) (a1:Bool) (a2 a3 a4 a5 a6 a7 a8 a9 a10 a11:AV) (a12 a13:UInt8) (a14:Bool) (a15 a16 a17 a18:UInt8) (a19:Bool) (a20:UInt8) (a21:List UInt8)
theorem r95_31 {r:AV} (h:X95_31 (semCall (C mx) Tryd.prog) (semRun (C mx) Tryd.prog 95 Tryd.f95) a0 a1 a2 a3 a4 a5 a6 a7 a8 a9 a10 a11 a12 a13 a14 a15 a16 a17 a18 a19 a20 a21=some r):F95_31 (semRun (C mx) Tryd.prog 95 Tryd.f95) a0 a1 a2 a3 a4 a5 a6 a7 a8 a9 a10 a11 a12 a13 a14 a15 a16 a17 a18 a19 a20 a21=some r :=
 semRun_unr 400 ((text95_31 _ _ a0 a1 a2 a3 a4 a5 a6 a7 a8 a9 a10 a11 a12 a13 a14 a15 a16 a17 a18 a19 a20 a21).trans h)
end
section
variable (a0:UInt8) (a1 a2 a3 a4 a5 a6 a7 a8 a9 a10:AV) (a11 a12:UInt8) (a13:Bool) (a14 a15 a16 a17:UInt8) (a18:Bool) (a19:UInt8) (a20:List UInt8)
theorem r95_4 {r:AV} (h:X95_4 (semCall (C mx) Tryd.prog) (semRun (C mx) Tryd.prog 95 Tryd.f95) a0 a1 a2 a3 a4 a5 a6 a7 a8 a9 a10 a11 a12 a13 a14 a15 a16 a17 a18 a19 a20=some r):F95_4 (semRun (C mx) Tryd.prog 95 Tryd.f95) a0 a1 a2 a3 a4 a5 a6 a7 a8 a9 a10 a11 a12 a13 a14 a15 a16 a17 a18 a19 a20=some r :=
 semRun_unr 400 ((text95_4 _ _ a0 a1 a2 a3 a4 a5 a6 a7 a8 a9 a10 a11 a12 a13 a14 a15 a16 a17 a18 a19 a20).trans h)
end
end R3I

namespace R3I
open Go Go.Proofs Sx
variable {mx:Int}
noncomputable def body109:Code:=(Tryd.f109.body).getD .skip
noncomputable def X109 (call:CallT) (run:RunT) (a0:UInt8):Option AV :=
 (call 132 [.u8 a0]).bind fun v1=>condM v1
 ((call 133 [.u8 a0]).bind fun v2=>(AV.one v2).bind fun v3=>(b2s (.ro 1 (([v3]:List AV)))).bind fun v4=>(AV.one v4).bind fun v5=>some (.tu [.ag [.u8 3, .u8 0, .b false, .u8 0, .u8 0, .u8 0, .u8 0, .b false, .u8 0,v5], .b true]))
 (condM (.b (ueq a0 47))
 (some (.tu [.ag [.u8 2, .u8 0, .b false, .u8 0, .u8 0, .u8 0, .u8 0, .b false, .u8 0, .s []], .b true]))
 (condM (.b (ueq a0 33))
 (some (.tu [.ag [.u8 11, .u8 0, .b false, .u8 0, .u8 0, .u8 0, .u8 0, .b false, .u8 0, .s []], .b true]))
 (condM (.b (ueq a0 63))
 (some (.tu [.ag [.u8 16, .u8 0, .b false, .u8 0, .u8 0, .u8 0, .u8 0, .b false, .u8 0, .s []], .b true]))
 (some (.tu [.ag [.u8 0, .u8 0, .b false, .u8 0, .u8 0, .u8 0, .u8 0, .b false, .u8 0, .s []], .b false])))))
section
variable (call:CallT) (run:RunT) (a0:UInt8)
theorem text109:unr (C mx) call run 109 Tryd.f109 400 [.code body109] (initF (C mx) 109 Tryd.f109.ntmps [.u8 a0])=X109 call run a0:=by
 kernel_rfl
theorem c109 {r:AV} (h:X109 (semCall (C mx) Tryd.prog) (semRun (C mx) Tryd.prog 109 Tryd.f109) a0=some r):semCall (C mx) Tryd.prog 109 [.u8 a0]=some r :=
 semCall_unr (fn:=Tryd.f109) (c:=body109) (by kernel_rfl) (by kernel_rfl) 400 (by kernel_rfl) ((text109 _ _ a0).trans h)
end
end R3I

namespace R3I
open Go Go.Proofs Sx
variable {mx:Int}
noncomputable def body110:Code:=(Tryd.f110.body).getD .skip
noncomputable def X110 (call:CallT) (run:RunT) (a0:UInt8):Option AV :=
 (call 132 [.u8 a0]).bind fun v1=>condM v1
 ((call 133 [.u8 a0]).bind fun v2=>(AV.one v2).bind fun v3=>(b2s (.ro 1 (([v3]:List AV)))).bind fun v4=>(AV.one v4).bind fun v5=>some (.ag [.u8 3, .u8 0, .b true, .u8 0, .u8 0, .u8 0, .u8 0, .b false, .u8 0,v5]))
 (condM (.b (ueq a0 62))
 (some (.ag [.u8 0, .u8 0, .b false, .u8 0, .u8 0, .u8 0, .u8 0, .b false, .u8 0, .s []]))
 (some (.ag [.u8 16, .u8 0, .b false, .u8 0, .u8 0, .u8 0, .u8 0, .b false, .u8 0, .s []])))
section
variable (call:CallT) (run:RunT) (a0:UInt8)
theorem text110:unr (C mx) call run 110 Tryd.f110 400 [.code body110] (initF (C mx) 110 Tryd.f110.ntmps [.u8 a0])=X110 call run a0:=by
 kernel_rfl
theorem c110 {r:AV} (h:X110 (semCall (C mx) Tryd.prog) (semRun (C mx) Tryd.prog 110 Tryd.f110) a0=some r):semCall (C mx) Tryd.prog 110 [.u8 a0]=some r :=
 semCall_unr (fn:=Tryd.f110) (c:=body110) (by kernel_rfl) (by kernel_rfl) 400 (by kernel_rfl) ((text110 _ _ a0).trans h)
end
end R3I

namespace R3I
open Go Go.Proofs Sx
variable {mx:Int}
noncomputable def body111:Code:=(Tryd.f111.body).getD .skip
section
variable (run:RunT) (a0:UInt8) (a1:AV) (a2:Bool) (a3 a4 a5 a6:UInt8) (a7:Bool) (a8:UInt8) (a9:List UInt8) (a10 a11:UInt8) (a12:Bool) (a13 a14 a15 a16:UInt8) (a17:Bool) (a18:UInt8) (a19:List UInt8)
noncomputable def K111_7:List Item:=(kAt 7 body111 []).getD []
def S111_7:St:=St.ofL [(2, .cell (.ptr 2 0)),(4, .cell (.ptr 4 0))] [(2,some [.val (.u8 a0), .val a1, .val (.b a2), .val (.u8 a3), .val (.u8 a4), .val (.u8 a5), .val (.u8 a6), .val (.b a7), .val (.u8 a8), .val (.s a9)]),(4,some [.val (.u8 a10), .val (.u8 a11), .val (.b a12), .val (.u8 a13), .val (.u8 a14), .val (.u8 a15), .val (.u8 a16), .val (.b a17), .val (.u8 a18), .val (.s a19)])]
noncomputable def F111_7:Option AV:=run K111_7 (S111_7 a0 a1 a2 a3 a4 a5 a6 a7 a8 a9 a10 a11 a12 a13 a14 a15 a16 a17 a18 a19)
end
noncomputable def X111 (call:CallT) (run:RunT) (a0 a1:UInt8) (a2:Bool) (a3 a4 a5 a6:UInt8) (a7:Bool) (a8:UInt8) (a9:List UInt8) (a10:UInt8):Option AV :=
 condM (.b (ueq a0 3))
 ((call 134 [.u8 a10]).bind fun v1=>(unop .not v1).bind fun v2=>(selW v2 true (some (.b (une a10 47))) (.b false)).bind fun v3=>(selW v3 true (some (.b (une a10 62))) (.b false)).bind fun v4=>condM v4
 ((call 135 [.ag [.u8 a0, .u8 a1, .b a2, .u8 a3, .u8 a4, .u8 a5, .u8 a6, .b a7, .u8 a8, .s a9], .u8 a10]).bind fun v5=>(AV.asAg 10 v5).bind fun v6=>some (.tu [.ag [v6.getD 0 .un,v6.getD 1 .un,v6.getD 2 .un,v6.getD 3 .un,v6.getD 4 .un,v6.getD 5 .un,v6.getD 6 .un,v6.getD 7 .un,v6.getD 8 .un,v6.getD 9 .un], .b false]))
 (condM (.b (!a2))
 ((call 76 [.s a9]).bind fun v7=>(AV.one v7).bind fun v8=>F111_7 run a0 v8 a2 a3 a4 a5 a6 a7 a8 a9 0 0 false 0 0 0 0 false 0 [])
 (F111_7 run a0 (.u8 a1) a2 a3 a4 a5 a6 a7 a8 a9 0 0 false 0 0 0 0 false 0 [])))
 (condM (.b (ueq a0 9))
 ((call 134 [.u8 a10]).bind fun v9=>condM v9
 ((call 136 [.ag [.u8 a0, .u8 a1, .b a2, .u8 a3, .u8 a4, .u8 a5, .u8 a6, .b a7, .u8 a8, .s a9], .u8 4]).bind fun v10=>(AV.asAg 10 v10).bind fun v11=>some (.tu [.ag [v11.getD 0 .un,v11.getD 1 .un,v11.getD 2 .un,v11.getD 3 .un,v11.getD 4 .un,v11.getD 5 .un,v11.getD 6 .un,v11.getD 7 .un,v11.getD 8 .un,v11.getD 9 .un], .b false]))
 (condM (.b (ueq a10 47))
 ((call 136 [.ag [.u8 a0, .u8 a1, .b a2, .u8 a3, .u8 a4, .u8 a5, .u8 a6, .b a7, .u8 a8, .s a9], .u8 10]).bind fun v12=>(AV.asAg 10 v12).bind fun v13=>some (.tu [.ag [v13.getD 0 .un,v13.getD 1 .un,v13.getD 2 .un,v13.getD 3 .un,v13.getD 4 .un,v13.getD 5 .un,v13.getD 6 .un,v13.getD 7 .un,v13.getD 8 .un,v13.getD 9 .un], .b false]))
 (condM (.b (ueq a10 62))
 ((call 137 [.u8 a1]).bind fun v14=>(AV.asAg 10 v14).bind fun v15=>some (.tu [.ag [v15.getD 0 .un,v15.getD 1 .un,v15.getD 2 .un,v15.getD 3 .un,v15.getD 4 .un,v15.getD 5 .un,v15.getD 6 .un,v15.getD 7 .un,v15.getD 8 .un,v15.getD 9 .un], .b false]))
 (some (.tu [.ag [.u8 20, .u8 0, .b false, .u8 0, .u8 0, .u8 0, .u8 0, .b false, .u8 0, .s []], .b false])))))
 (condM (.b (ueq a0 10))
 (condM (.b (ueq a10 62))
 ((call 137 [.u8 a1]).bind fun v16=>(AV.asAg 10 v16).bind fun v17=>some (.tu [.ag [v17.getD 0 .un,v17.getD 1 .un,v17.getD 2 .un,v17.getD 3 .un,v17.getD 4 .un,v17.getD 5 .un,v17.getD 6 .un,v17.getD 7 .un,v17.getD 8 .un,v17.getD 9 .un], .b false]))
 ((call 136 [.ag [.u8 a0, .u8 a1, .b a2, .u8 a3, .u8 a4, .u8 a5, .u8 a6, .b a7, .u8 a8, .s a9], .u8 4]).bind fun v18=>(AV.asAg 10 v18).bind fun v19=>some (.tu [.ag [v19.getD 0 .un,v19.getD 1 .un,v19.getD 2 .un,v19.getD 3 .un,v19.getD 4 .un,v19.getD 5 .un,v19.getD 6 .un,v19.getD 7 .un,v19.getD 8 .un,v19.getD 9 .un], .b true])))
 (condM (.b (ueq a0 4))
 ((call 134 [.u8 a10]).bind fun v20=>condM v20
 (some (.tu [.ag [.u8 a0, .u8 a1, .b a2, .u8 a3, .u8 a4, .u8 a5, .u8 a6, .b a7, .u8 a8, .s a9], .b false]))
 ((selW (.b (ueq a10 47)) false (some (.b (ueq a10 62))) (.b true)).bind fun v21=>condM v21
 ((call 136 [.ag [.u8 a0, .u8 a1, .b a2, .u8 a3, .u8 a4, .u8 a5, .u8 a6, .b a7, .u8 a8, .s a9], .u8 9]).bind fun v22=>(AV.asAg 10 v22).bind fun v23=>some (.tu [.ag [v23.getD 0 .un,v23.getD 1 .un,v23.getD 2 .un,v23.getD 3 .un,v23.getD 4 .un,v23.getD 5 .un,v23.getD 6 .un,v23.getD 7 .un,v23.getD 8 .un,v23.getD 9 .un], .b true]))
 (condM (.b (ueq a10 61))
 (some (.tu [.ag [.u8 20, .u8 0, .b false, .u8 0, .u8 0, .u8 0, .u8 0, .b false, .u8 0, .s []], .b false]))
 (some (.tu [.ag [.u8 5, .u8 a1, .b a2, .u8 a3, .u8 a4, .u8 a5, .u8 a6, .b a7, .u8 a8, .s a9], .b true])))))
 (condM (.b (ueq a0 7))
 ((call 138 [.ag [.u8 a0, .u8 a1, .b a2, .u8 a3, .u8 a4, .u8 a5, .u8 a6, .b a7, .u8 a8, .s a9], .u8 a10]).bind fun v24=>(tupI v24 0).bind fun v25=>(tupI v24 1).bind fun v26=>(AV.asAg 10 v25).bind fun v27=>some (.tu [.ag [v27.getD 0 .un,v27.getD 1 .un,v27.getD 2 .un,v27.getD 3 .un,v27.getD 4 .un,v27.getD 5 .un,v27.getD 6 .un,v27.getD 7 .un,v27.getD 8 .un,v27.getD 9 .un],v26]))
 ((call 139 [.ag [.u8 a0, .u8 a1, .b a2, .u8 a3, .u8 a4, .u8 a5, .u8 a6, .b a7, .u8 a8, .s a9], .u8 a10]).bind fun v28=>(tupI v28 0).bind fun v29=>(tupI v28 1).bind fun v30=>(AV.asAg 10 v29).bind fun v31=>some (.tu [.ag [v31.getD 0 .un,v31.getD 1 .un,v31.getD 2 .un,v31.getD 3 .un,v31.getD 4 .un,v31.getD 5 .un,v31.getD 6 .un,v31.getD 7 .un,v31.getD 8 .un,v31.getD 9 .un],v30]))))))
section
variable (call:CallT) (run:RunT) (a0 a1:UInt8) (a2:Bool) (a3 a4 a5 a6:UInt8) (a7:Bool) (a8:UInt8) (a9:List UInt8) (a10:UInt8)
theorem text111:unr (C mx) call run 111 Tryd.f111 400 [.code body111] (initF (C mx) 111 Tryd.f111.ntmps [.ag [.u8 a0, .u8 a1, .b a2, .u8 a3, .u8 a4, .u8 a5, .u8 a6, .b a7, .u8 a8, .s a9], .u8 a10])=X111 call run a0 a1 a2 a3 a4 a5 a6 a7 a8 a9 a10:=by
 kernel_rfl
theorem c111 {r:AV} (h:X111 (semCall (C mx) Tryd.prog) (semRun (C mx) Tryd.prog 111 Tryd.f111) a0 a1 a2 a3 a4 a5 a6 a7 a8 a9 a10=some r):semCall (C mx) Tryd.prog 111 [.ag [.u8 a0, .u8 a1, .b a2, .u8 a3, .u8 a4, .u8 a5, .u8 a6, .b a7, .u8 a8, .s a9], .u8 a10]=some r :=
 semCall_unr (fn:=Tryd.f111) (c:=body111) (by kernel_rfl) (by kernel_rfl) 400 (by kernel_rfl) ((text111 _ _ a0 a1 a2 a3 a4 a5 a6 a7 a8 a9 a10).trans h)
end
noncomputable def X111_7 (call:CallT) (run:RunT) (a0:UInt8) (a1:AV) (a2:Bool) (a3 a4 a5 a6:UInt8) (a7:Bool) (a8:UInt8) (a9:List UInt8) (a10 a11:UInt8) (a12:Bool) (a13 a14 a15 a16:UInt8) (a17:Bool) (a18:UInt8) (a19:List UInt8):Option AV :=
 (call 136 [.ag [.u8 a0,a1, .b a2, .u8 a3, .u8 a4, .u8 a5, .u8 a6, .b a7, .u8 a8, .s a9], .u8 9]).bind fun v1=>(AV.asAg 10 v1).bind fun v2=>some (.tu [.ag [v2.getD 0 .un,v2.getD 1 .un,v2.getD 2 .un,v2.getD 3 .un,v2.getD 4 .un,v2.getD 5 .un,v2.getD 6 .un,v2.getD 7 .un,v2.getD 8 .un,v2.getD 9 .un], .b true])
section
variable (call:CallT) (run:RunT) (a0:UInt8) (a1:AV) (a2:Bool) (a3 a4 a5 a6:UInt8) (a7:Bool) (a8:UInt8) (a9:List UInt8) (a10 a11:UInt8) (a12:Bool) (a13 a14 a15 a16:UInt8) (a17:Bool) (a18:UInt8) (a19:List UInt8)
theorem text111_7:step (C mx) call 111 Tryd.f111 (unr (C mx) call run 111 Tryd.f111 400) K111_7 (S111_7 a0 a1 a2 a3 a4 a5 a6 a7 a8 a9 a10 a11 a12 a13 a14 a15 a16 a17 a18 a19)=X111_7 call run a0 a1 a2 a3 a4 a5 a6 a7 a8 a9 a10 a11 a12 a13 a14 a15 a16 a17 a18 a19:=by
 kernel_rfl
end
section
variable (a0:UInt8) (a1:AV) (a2:Bool) (a3 a4 a5 a6:UInt8) (a7:Bool) (a8:UInt8) (a9:List UInt8) (a10 a11:UInt8) (a12:Bool) (a13 a14 a15 a16:UInt8) (a17:Bool) (a18:UInt8) (a19:List UInt8)
theorem r111_7 {r:AV} (h:X111_7 (semCall (C mx) Tryd.prog) (semRun (C mx) Tryd.prog 111 Tryd.f111) a0 a1 a2 a3 a4 a5 a6 a7 a8 a9 a10 a11 a12 a13 a14 a15 a16 a17 a18 a19=some r):F111_7 (semRun (C mx) Tryd.prog 111 Tryd.f111) a0 a1 a2 a3 a4 a5 a6 a7 a8 a9 a10 a11 a12 a13 a14 a15 a16 a17 a18 a19=some r :=
 semRun_unr 400 ((text111_7 _ _ a0 a1 a2 a3 a4 a5 a6 a7 a8 a9 a10 a11 a12 a13 a14 a15 a16 a17 a18 a19).trans h)
end
end R3I

namespace R3I
open Go Go.Proofs Sx
variable {mx:Int}
noncomputable def body112:Code:=(Tryd.f112.body).getD .skip
noncomputable def X112 (call:CallT) (run:RunT) (a0 a1:UInt8) (a2:Bool) (a3 a4 a5 a6:UInt8) (a7:Bool) (a8:UInt8) (a9:List UInt8) (a10:UInt8):Option AV :=
 (selW (.b (!(ueq a4 0))) true (some (.b (ueq a10 a4))) (.b false)).bind fun v1=>(selW v1 false ((selW (.b (ueq a4 0)) true ((call 134 [.u8 a10]).bind fun v2=>(selW v2 false (some (.b (ueq a10 62))) (.b true)).bind fun v3=>some v3) (.b false)).bind fun v4=>some v4) (.b true)).bind fun v5=>condM v5
 ((call 140 [.ag [.u8 a0, .u8 a1, .b a2, .u8 a3, .u8 a4, .u8 a5, .u8 a6, .b a7, .u8 a8, .s a9]]).bind fun v6=>(unop .not v6).bind fun v7=>condM v7
 (some (.ag [.u8 20, .u8 0, .b false, .u8 0, .u8 0, .u8 0, .u8 0, .b false, .u8 0, .s []]))
 (condM (.b (!(ueq a4 0)))
 ((call 136 [.ag [.u8 a0, .u8 a1, .b a2, .u8 a3, .u8 a4, .u8 a5, .u8 a6, .b a7, .u8 a8, .s a9], .u8 9]).bind fun v8=>(AV.asAg 10 v8).bind fun v9=>some (.ag [v9.getD 0 .un,v9.getD 1 .un,v9.getD 2 .un,v9.getD 3 .un,v9.getD 4 .un,v9.getD 5 .un,v9.getD 6 .un,v9.getD 7 .un,v9.getD 8 .un,v9.getD 9 .un]))
 (condM (.b (ueq a10 62))
 ((call 137 [.u8 a1]).bind fun v10=>(AV.asAg 10 v10).bind fun v11=>some (.ag [v11.getD 0 .un,v11.getD 1 .un,v11.getD 2 .un,v11.getD 3 .un,v11.getD 4 .un,v11.getD 5 .un,v11.getD 6 .un,v11.getD 7 .un,v11.getD 8 .un,v11.getD 9 .un]))
 ((call 136 [.ag [.u8 a0, .u8 a1, .b a2, .u8 a3, .u8 a4, .u8 a5, .u8 a6, .b a7, .u8 a8, .s a9], .u8 4]).bind fun v12=>(AV.asAg 10 v12).bind fun v13=>some (.ag [v13.getD 0 .un,v13.getD 1 .un,v13.getD 2 .un,v13.getD 3 .un,v13.getD 4 .un,v13.getD 5 .un,v13.getD 6 .un,v13.getD 7 .un,v13.getD 8 .un,v13.getD 9 .un])))))
 ((selW (.b (ueq a4 0)) true ((call 141 [.s [34,39,60,61,96], .u8 a10]).bind fun v14=>(binI .geq v14 (.int 0)).bind fun v15=>some v15) (.b false)).bind fun v16=>condM v16
 (some (.ag [.u8 20, .u8 0, .b false, .u8 0, .u8 0, .u8 0, .u8 0, .b false, .u8 0, .s []]))
 (condM (.b (ueq a3 1))
 ((call 142 [.ag [.u8 a0, .u8 a1, .b a2, .u8 a3, .u8 a4, .u8 a5, .u8 a6, .b a7, .u8 a8, .s a9], .u8 a10]).bind fun v17=>(AV.asAg 10 v17).bind fun v18=>some (.ag [v18.getD 0 .un,v18.getD 1 .un,v18.getD 2 .un,v18.getD 3 .un,v18.getD 4 .un,v18.getD 5 .un,v18.getD 6 .un,v18.getD 7 .un,v18.getD 8 .un,v18.getD 9 .un]))
 ((selW (.b (ueq a3 2)) false (some (.b (ueq a3 3))) (.b true)).bind fun v19=>condM v19
 (condM (.b (ueq a10 38))
 (some (.ag [.u8 20, .u8 0, .b false, .u8 0, .u8 0, .u8 0, .u8 0, .b false, .u8 0, .s []]))
 ((call 143 [.ag [.u8 a0, .u8 a1, .b a2, .u8 a3, .u8 a4, .u8 a5, .u8 a6, .b a7, .u8 a8, .s a9], .u8 a10, .b (ueq a3 2)]).bind fun v20=>(AV.asAg 10 v20).bind fun v21=>some (.ag [v21.getD 0 .un,v21.getD 1 .un,v21.getD 2 .un,v21.getD 3 .un,v21.getD 4 .un,v21.getD 5 .un,v21.getD 6 .un,v21.getD 7 .un,v21.getD 8 .un,v21.getD 9 .un])))
 (some (.ag [.u8 a0, .u8 a1, .b a2, .u8 a3, .u8 a4, .u8 a5, .u8 a6, .b a7, .u8 a8, .s a9])))))
section
variable (call:CallT) (run:RunT) (a0 a1:UInt8) (a2:Bool) (a3 a4 a5 a6:UInt8) (a7:Bool) (a8:UInt8) (a9:List UInt8) (a10:UInt8)
theorem text112:unr (C mx) call run 112 Tryd.f112 400 [.code body112] (initF (C mx) 112 Tryd.f112.ntmps [.ag [.u8 a0, .u8 a1, .b a2, .u8 a3, .u8 a4, .u8 a5, .u8 a6, .b a7, .u8 a8, .s a9], .u8 a10])=X112 call run a0 a1 a2 a3 a4 a5 a6 a7 a8 a9 a10:=by
 kernel_rfl
theorem c112 {r:AV} (h:X112 (semCall (C mx) Tryd.prog) (semRun (C mx) Tryd.prog 112 Tryd.f112) a0 a1 a2 a3 a4 a5 a6 a7 a8 a9 a10=some r):semCall (C mx) Tryd.prog 112 [.ag [.u8 a0, .u8 a1, .b a2, .u8 a3, .u8 a4, .u8 a5, .u8 a6, .b a7, .u8 a8, .s a9], .u8 a10]=some r :=
 semCall_unr (fn:=Tryd.f112) (c:=body112) (by kernel_rfl) (by kernel_rfl) 400 (by kernel_rfl) ((text112 _ _ a0 a1 a2 a3 a4 a5 a6 a7 a8 a9 a10).trans h)
end
end R3I

namespace R3I
open Go Go.Proofs Sx
variable {mx:Int}
noncomputable def body113:Code:=(Tryd.f113.body).getD .skip
section
variable (run:RunT) (a0:UInt8) (a1:Bool) (a2 a3 a4 a5 a6 a7 a8 a9 a10 a11:AV) (a12 a13:UInt8) (a14:Bool) (a15 a16 a17 a18:UInt8) (a19:Bool) (a20:UInt8) (a21:List UInt8)
noncomputable def K113_17:List Item:=(kAt 17 body113 []).getD []
def S113_17:St:=St.ofL [(1, .cell (.val (.u8 a0))),(2, .cell (.val (.b a1))),(3, .cell (.ptr 3 0)),(6, .cell (.ptr 6 0))] [(3,some [.val a2, .val a3, .val a4, .val a5, .val a6, .val a7, .val a8, .val a9, .val a10, .val (a11)]),(6,some [.val (.u8 a12), .val (.u8 a13), .val (.b a14), .val (.u8 a15), .val (.u8 a16), .val (.u8 a17), .val (.u8 a18), .val (.b a19), .val (.u8 a20), .val (.s a21)])]
noncomputable def F113_17:Option AV:=run K113_17 (S113_17 a0 a1 a2 a3 a4 a5 a6 a7 a8 a9 a10 a11 a12 a13 a14 a15 a16 a17 a18 a19 a20 a21)
end
section
variable (run:RunT) (a0 a1 a2 a3 a4 a5 a6 a7 a8 a9:AV) (a10 a11:UInt8) (a12:Bool) (a13 a14 a15 a16:UInt8) (a17:Bool) (a18:UInt8) (a19:List UInt8)
noncomputable def K113_22:List Item:=(kAt 22 body113 []).getD []
def S113_22:St:=St.ofL [(3, .cell (.ptr 3 0)),(6, .cell (.ptr 6 0))] [(3,some [.val a0, .val a1, .val a2, .val a3, .val a4, .val a5, .val a6, .val a7, .val a8, .val (a9)]),(6,some [.val (.u8 a10), .val (.u8 a11), .val (.b a12), .val (.u8 a13), .val (.u8 a14), .val (.u8 a15), .val (.u8 a16), .val (.b a17), .val (.u8 a18), .val (.s a19)])]
noncomputable def F113_22:Option AV:=run K113_22 (S113_22 a0 a1 a2 a3 a4 a5 a6 a7 a8 a9 a10 a11 a12 a13 a14 a15 a16 a17 a18 a19)
end
noncomputable def X113 (call:CallT) (run:RunT) (a0 a1:UInt8) (a2:Bool) (a3 a4 a5 a6:UInt8) (a7:Bool) (a8:UInt8) (a9:List UInt8) (a10:UInt8) (a11:Bool):Option AV :=
 (call 96 [.u8 a1]).bind fun v1=>(selW (.b (ueq a0 18)) true (some (.b (ueq a10 47))) (.b false)).bind fun v2=>condM v2
 (some (.ag [.u8 19, .u8 a1, .b a2, .u8 a3, .u8 a4, .u8 a5, .u8 a6, .b a7, .u8 a8, .s a9]))
 ((selW (.b (ueq a0 18)) true (some (.b (ueq a10 33))) (.b false)).bind fun v3=>(selW v3 true (some (.b (ueq a1 3))) (.b false)).bind fun v4=>condM v4
 (some (.ag [.u8 20, .u8 0, .b false, .u8 0, .u8 0, .u8 0, .u8 0, .b false, .u8 0, .s []]))
 ((selW (.b (ueq a0 19)) true ((binS .eql (.s a9) v1).bind fun v5=>some v5) (.b false)).bind fun v6=>(selW v6 true ((call 134 [.u8 a10]).bind fun v7=>(selW v7 false (some (.b (ueq a10 47))) (.b true)).bind fun v8=>(selW v8 false (some (.b (ueq a10 62))) (.b true)).bind fun v9=>some v9) (.b false)).bind fun v10=>condM v10
 ((call 140 [.ag [.u8 a0, .u8 a1, .b a2, .u8 a3, .u8 a4, .u8 a5, .u8 a6, .b a7, .u8 a8, .s a9]]).bind fun v11=>(unop .not v11).bind fun v12=>condM v12
 (some (.ag [.u8 20, .u8 0, .b false, .u8 0, .u8 0, .u8 0, .u8 0, .b false, .u8 0, .s []]))
 ((call 111 [.ag [.u8 9, .u8 0, .b true, .u8 0, .u8 0, .u8 0, .u8 0, .b false, .u8 0, .s []], .u8 a10]).bind fun v13=>(tupI v13 0).bind fun v14=>(tupI v13 1).bind fun v15=>(AV.asAg 10 v14).bind fun v16=>some (.ag [v16.getD 0 .un,v16.getD 1 .un,v16.getD 2 .un,v16.getD 3 .un,v16.getD 4 .un,v16.getD 5 .un,v16.getD 6 .un,v16.getD 7 .un,v16.getD 8 .un,v16.getD 9 .un])))
 ((selW (.b (ueq a0 19)) true ((call 133 [.u8 a10]).bind fun v17=>(AV.one v17).bind fun v18=>(b2s (.ro 1 (([v18]:List AV)))).bind fun v19=>(binS .add (.s a9) v19).bind fun v20=>(call 59 [v1,v20]).bind fun v21=>some v21) (.b false)).bind fun v22=>condM v22
 ((call 133 [.u8 a10]).bind fun v23=>(AV.one v23).bind fun v24=>(b2s (.ro 1 (([v24]:List AV)))).bind fun v25=>(binS .add (.s a9) v25).bind fun v26=>(AV.one v26).bind fun v27=>some (.ag [.u8 a0, .u8 a1, .b a2, .u8 a3, .u8 a4, .u8 a5, .u8 a6, .b a7, .u8 a8,v27]))
 (condM (.b (ueq a0 19))
 ((binS .add (.s [47]) (.s a9)).bind fun v28=>(call 144 [.ag [.u8 a0, .u8 a1, .b a2, .u8 a3, .u8 a4, .u8 a5, .u8 a6, .b a7, .u8 a8, .s a9],v28, .b a11]).bind fun v29=>(AV.asAg 10 v29).bind fun v30=>F113_17 run a10 a11 (v30.getD 0 .un) (v30.getD 1 .un) (v30.getD 2 .un) (v30.getD 3 .un) (v30.getD 4 .un) (v30.getD 5 .un) (v30.getD 6 .un) (v30.getD 7 .un) (v30.getD 8 .un) (v30.getD 9 .un) 0 0 false 0 0 0 0 false 0 [])
 (F113_17 run a10 a11 (.u8 a0) (.u8 a1) (.b a2) (.u8 a3) (.u8 a4) (.u8 a5) (.u8 a6) (.b a7) (.u8 a8) (.s a9) 0 0 false 0 0 0 0 false 0 [])))))
section
variable (call:CallT) (run:RunT) (a0 a1:UInt8) (a2:Bool) (a3 a4 a5 a6:UInt8) (a7:Bool) (a8:UInt8) (a9:List UInt8) (a10:UInt8) (a11:Bool)
theorem text113:unr (C mx) call run 113 Tryd.f113 400 [.code body113] (initF (C mx) 113 Tryd.f113.ntmps [.ag [.u8 a0, .u8 a1, .b a2, .u8 a3, .u8 a4, .u8 a5, .u8 a6, .b a7, .u8 a8, .s a9], .u8 a10, .b a11])=X113 call run a0 a1 a2 a3 a4 a5 a6 a7 a8 a9 a10 a11:=by
 kernel_rfl
theorem c113 {r:AV} (h:X113 (semCall (C mx) Tryd.prog) (semRun (C mx) Tryd.prog 113 Tryd.f113) a0 a1 a2 a3 a4 a5 a6 a7 a8 a9 a10 a11=some r):semCall (C mx) Tryd.prog 113 [.ag [.u8 a0, .u8 a1, .b a2, .u8 a3, .u8 a4, .u8 a5, .u8 a6, .b a7, .u8 a8, .s a9], .u8 a10, .b a11]=some r :=
 semCall_unr (fn:=Tryd.f113) (c:=body113) (by kernel_rfl) (by kernel_rfl) 400 (by kernel_rfl) ((text113 _ _ a0 a1 a2 a3 a4 a5 a6 a7 a8 a9 a10 a11).trans h)
end
noncomputable def X113_17 (call:CallT) (run:RunT) (a0:UInt8) (a1:Bool) (a2 a3 a4 a5 a6 a7 a8 a9 a10 a11:AV) (a12 a13:UInt8) (a14:Bool) (a15 a16 a17 a18:UInt8) (a19:Bool) (a20:UInt8) (a21:List UInt8):Option AV :=
 (binI .eql a2 (.u8 20)).bind fun v1=>condM v1
 (some (.ag [.u8 20, .u8 0, .b false, .u8 0, .u8 0, .u8 0, .u8 0, .b false, .u8 0, .s []]))
 ((b2s (.ro 1 (([.u8 a0]:List AV)))).bind fun v2=>(call 144 [.ag [a2,a3,a4,a5,a6,a7,a8,a9,a10,a11],v2, .b a1]).bind fun v3=>(AV.asAg 10 v3).bind fun v4=>(binI .eql (v4.getD 0 .un) (.u8 17)).bind fun v5=>(selW v5 true (some (.b (ueq a0 60))) (.b false)).bind fun v6=>condM v6
 (F113_22 run (.u8 18) (v4.getD 1 .un) (v4.getD 2 .un) (v4.getD 3 .un) (v4.getD 4 .un) (v4.getD 5 .un) (v4.getD 6 .un) (v4.getD 7 .un) (v4.getD 8 .un) (v4.getD 9 .un) a12 a13 a14 a15 a16 a17 a18 a19 a20 a21)
 (F113_22 run (v4.getD 0 .un) (v4.getD 1 .un) (v4.getD 2 .un) (v4.getD 3 .un) (v4.getD 4 .un) (v4.getD 5 .un) (v4.getD 6 .un) (v4.getD 7 .un) (v4.getD 8 .un) (v4.getD 9 .un) a12 a13 a14 a15 a16 a17 a18 a19 a20 a21))
section
variable (call:CallT) (run:RunT) (a0:UInt8) (a1:Bool) (a2 a3 a4 a5 a6 a7 a8 a9 a10 a11:AV) (a12 a13:UInt8) (a14:Bool) (a15 a16 a17 a18:UInt8) (a19:Bool) (a20:UInt8) (a21:List UInt8)
theorem text113_17:step (C mx) call 113 Tryd.f113 (unr (C mx) call run 113 Tryd.f113 400) K113_17 (S113_17 a0 a1 a2 a3 a4 a5 a6 a7 a8 a9 a10 a11 a12 a13 a14 a15 a16 a17 a18 a19 a20 a21)=X113_17 call run a0 a1 a2 a3 a4 a5 a6 a7 a8 a9 a10 a11 a12 a13 a14 a15 a16 a17 a18 a19 a20 a21:=by
 kernel_rfl
end
noncomputable def X113_22 (call:CallT) (run:RunT) (a0 a1 a2 a3 a4 a5 a6 a7 a8 a9:AV) (a10 a11:UInt8) (a12:Bool) (a13 a14 a15 a16:UInt8) (a17:Bool) (a18:UInt8) (a19:List UInt8):Option AV :=
 some (.ag [a0,a1,a2,a3,a4,a5,a6,a7,a8,a9])
section
variable (call:CallT) (run:RunT) (a0 a1 a2 a3 a4 a5 a6 a7 a8 a9:AV) (a10 a11:UInt8) (a12:Bool) (a13 a14 a15 a16:UInt8) (a17:Bool) (a18:UInt8) (a19:List UInt8)
theorem text113_22:step (C mx) call 113 Tryd.f113 (unr (C mx) call run 113 Tryd.f113 400) K113_22 (S113_22 a0 a1 a2 a3 a4 a5 a6 a7 a8 a9 a10 a11 a12 a13 a14 a15 a16 a17 a18 a19)=X113_22 call run a0 a1 a2 a3 a4 a5 a6 a7 a8 a9 a10 a11 a12 a13 a14 a15 a16 a17 a18 a19:=by
 kernel_rfl
end
section
variable (a0:UInt8) (a1:Bool) (a2 a3 a4 a5 a6 a7 a8 a9 a10 a11:AV) (a12 a13:UInt8) (a14:Bool) (a15 a16 a17 a18:UInt8) (a19:Bool) (a20:UInt8) (a21:List UInt8)
theorem r113_17 {r:AV} (h:X113_17 (semCall (C mx) Tryd.prog) (semRun (C mx) Tryd.prog 113 Tryd.f113) a0 a1 a2 a3 a4 a5 a6 a7 a8 a9 a10 a11 a12 a13 a14 a15 a16 a17 a18 a19 a20 a21=some r):F113_17 (semRun (C mx) Tryd.prog 113 Tryd.f113) a0 a1 a2 a3 a4 a5 a6 a7 a8 a9 a10 a11 a12 a13 a14 a15 a16 a17 a18 a19 a20 a21=some r :=
 semRun_unr 400 ((text113_17 _ _ a0 a1 a2 a3 a4 a5 a6 a7 a8 a9 a10 a11 a12 a13 a14 a15 a16 a17 a18 a19 a20 a21).trans h)
end
section
variable (a0 a1 a2 a3 a4 a5 a6 a7 a8 a9:AV) (a10 a11:UInt8) (a12:Bool) (a13 a14 a15 a16:UInt8) (a17:Bool) (a18:UInt8) (a19:List UInt8)
theorem r113_22 {r:AV} (h:X113_22 (semCall (C mx) Tryd.prog) (semRun (C mx) Tryd.prog 113 Tryd.f113) a0 a1 a2 a3 a4 a5 a6 a7 a8 a9 a10 a11 a12 a13 a14 a15 a16 a17 a18 a19=some r):F113_22 (semRun (C mx) Tryd.prog 113 Tryd.f113) a0 a1 a2 a3 a4 a5 a6 a7 a8 a9 a10 a11 a12 a13 a14 a15 a16 a17 a18 a19=some r :=
 semRun_unr 400 ((text113_22 _ _ a0 a1 a2 a3 a4 a5 a6 a7 a8 a9 a10 a11 a12 a13 a14 a15 a16 a17 a18 a19).trans h)
end
end R3I
