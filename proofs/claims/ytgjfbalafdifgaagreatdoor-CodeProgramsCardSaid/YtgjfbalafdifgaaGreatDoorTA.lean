/-
  A part of CodePrograms's proof.
-/
import GoSem.Step
import Derived.KernelRfl
import Derived.Laws.Sem
import Derived.Below
import Derived.OrdersHeld
import Derived.Laws.StructEq
import Derived.Laws.BytesString
import Derived.Laws.AppendOwn
import Derived.Lib.AppendStr
import Derived.Laws.MakeOwn
set_option linter.unusedVariables false
set_option linter.unusedSimpArgs false
set_option linter.unusedSectionVars false
set_option linter.unnecessarySimpa false
open _root_ renaming Array→bF,Bool→ay,ByteArray→aL,Int→aB,List→ai,Nat→ax,Option→ak,UInt8→ae,cond_false→bB,cond_true→aN,if_false→aH,if_neg→aI,if_pos→aJ,if_true→aO
open Array renaming toArray_toList→bO
open BitVec renaming ofInt→iH
open Bool renaming false→af,true→aj
open Function renaming comp_def→iP
open Go.Builtin renaming firstCells→dQ,lenOf→eB,max2→gG,min2→gF,nextslicecap→iO
open Go.Conv renaming bytesToString→gI
open Go.Instr renaming fill→iF,indexAt→iE,sliceAt→dx,sliceBound→gP,sliceBounds→dH
open Go renaming IntKind→dP,Program→bn,Value→aC,World→az
open Go.Op renaming eqFields→jC,equalIn→dL,intCmp→gD,stringOp→jB
open Go.World renaming cell?_of_block→aD
open List renaming drop_eq_getElem_cons→dA,drop_of_length_le→iQ,foldl_cons→dX,getD_eq_getElem?_getD→aK,getElem?_append_left→aX,getElem?_append_right→aS,getElem?_map→aM,getElem?_of_mem→eX,getElem?_range→dU,getElem?_take→bJ,headD_cons→gX,length_append→au,length_cons→aA,length_drop→bQ,length_eq_one_iff→eD,length_map→aP,length_pos_iff→jv,length_take→dV,map→ib,map_congr_left→jr,map_map→fe,mem_flatMap→eP,mem_of_getElem?→aV,mem_of_mem_take→jd,replicate→dE
open Nat renaming add_mul→dC,ble→bL,blt→bI,eq_of_beq_eq_true→aF,le_of_ble_eq_true→aU,lt_of_lt_of_le→aZ,min_eq_left→gY,mul_le_mul_right→bE
open Option renaming bind_eq_some_iff→aR,map_some→aY,ne_none_iff_exists'→gW,none→ah,some→aa
open UInt8 renaming lt_iff_toNat_lt→bg,toNat_ofNat'→jo
namespace Sx
open Go
inductive AV where
 | un
 | b (x:ay)
 | u8 (x:ae)
 | int (n:aB)
 | ik (k:dP) (n:aB)
 | s (l:ai ae)
 | cd
 | ro (k:ax) (l:ai AV)
 | ag (l:ai AV)
 | tu (l:ai AV)
 | fn (f:ax)
 | xK
 | kY
 | pt (l:ai AV)
 deriving Inhabited
namespace AV
def cell:AV→ax→AV
 | .ag l,j=>l.getD j .un
 | v,0=>v
 | _,_+1=>.un
def comp:AV→ax→AV
 | .tu l,j=>l.getD j .un
 | _,_=>.un
def elems:AV→ai AV
 | .ro _ l=>l
 | _=>[]
def items (k:ax):AV→ak (ai AV)
 | .ro k' l=>if k'=k then aa l else ah
 | .cd=>aa []
 | .s l=>if k=1 then aa (l.map .u8) else ah
 | _=>ah
def R9:AV→ak ax
 | .fn f=>aa f
 | _=>ah
def rL:AV→ak (dP×aB)
 | .u8 x=>aa (.u8,x.toNat)
 | .int n=>aa (.i64,n)
 | .ik k n=>aa (k,n)
 | _=>ah
def CW (k:dP) (n:aB):ak AV :=
 match k with
 | .u8=>if 0≤n∧n < 256 then aa (.u8 (UInt8.ofNat n.toNat)) else ah
 | .i64=>aa (.int n)
 | k=>aa (.ik k n)
end AV
def JZ:aC→AV
 | .bool x=>.b x
 | .int .u8 n=>if 0≤n∧n < 256 then .u8 (UInt8.ofNat n.toNat) else .un
 | .int .i64 n=>.int n
 | .int k n=>.ik k n
 | .string x=>.s x.data.toList
 | .slice ah 0 0=>.cd
 | .pointer ah=>.kY
 | .func (.func f) a c=>bif a.isEmpty && c.isEmpty then .fn f else .un
 | .nilFunc=>.xK
 | _=>.un
def big:ax:=2 ^ 46
def zR (op:BinOp) (k:dP) (x y:aB):ak AV :=
 match op with
 | .add=>AV.CW k (k.wrap (x+y))
 | .sub=>AV.CW k (k.wrap (x - y))
 | .mul=>AV.CW k (k.wrap (x * y))
 | .quo=>if y=0 then ah else AV.CW k (k.wrap (x.tdiv y))
 | .rem=>if y=0 then ah else AV.CW k (x.tmod y)
 | .and=>AV.CW k (k.wrap ((iH k.bits x &&& iH k.bits y).toNat:aB))
 | .or=>AV.CW k (k.wrap ((iH k.bits x ||| BitVec.ofInt k.bits y).toNat:aB))
 | .eql=>aa (.b (x == y))
 | .neq=>aa (.b (x != y))
 | .lss=>aa (.b (decide (x < y)))
 | .leq=>aa (.b (decide (x≤y)))
 | .gtr=>aa (.b (decide (x > y)))
 | .geq=>aa (.b (decide (x ≥ y)))
 | _=>ah
def A0 (op:BinOp) (k:dP) (x y:aB):ak AV :=
 if y < 0 then ah else
 match op with
 | .shl=>AV.CW k (k.wrap (x * 2 ^ (min y.toNat k.bits)))
 | .shr=>AV.CW k (x.fdiv (2 ^ (min y.toNat k.bits)))
 | _=>ah
def Kb (op:BinOp) (x y:ai ae):ak AV :=
 match op with
 | .add=>if x.length+y.length≤big then aa (.s (x ++ y)) else ah
 | .eql=>aa (.b (x == y))
 | .neq=>aa (.b (x != y))
 | _=>ah
inductive EK where
 | b | i | s
def Oc (k:EK) (x y:AV):ak ay :=
 match k with
 | .b=>match x,y with
  | .b x,.b y=>aa (x == y)
  | _,_=>ah
 | .i=>match x,y with
  | .u8 x,.u8 y=>aa (x == y)
  | .int x,.int y=>aa (x == y)
  | .ik k x,.ik k' y=>if k=k' then aa (x == y) else ah
  | _,_=>ah
 | .s=>match x,y with
  | .s x,.s y=>aa (x == y)
  | _,_=>ah
def eqs:ai EK→ai AV→ai AV→ak ay
 | [],[],[]=>aa aj
 | k :: ks,x :: xs,y :: ys=>(Oc k x y).bind fun p=>(eqs ks xs ys).bind fun q=>aa (p && q)
 | _,_,_=>ah
def EF (op:BinOp) (x y:AV):ak AV :=
 match x,y with
 | .b p,.b q=>match op with
  | .eql=>aa (.b (p == q))
  | .neq=>aa (.b (p != q))
  | _=>ah
 | _,_=>ah
def gR (op:BinOp) (x y:AV):ak AV :=
 match x,y with
 | .s p,.s q=>Kb op p q
 | _,_=>ah
def IV (op:BinOp) (x y:AV):ak AV :=
 match x,y with
 | .ro _ (_ :: _),.cd | .cd,.ro _ (_ :: _)=>match op with
  | .eql=>aa (.b af)
  | .neq=>aa (.b aj)
  | _=>ah
 | .cd,.cd=>match op with
  | .eql=>aa (.b aj)
  | .neq=>aa (.b af)
  | _=>ah
 | _,_=>ah
def wP (op:BinOp) (x y:AV):ak AV :=
 match x,y with
 | .pt _,.kY | .kY,.pt _=>match op with
  | .eql=>aa (.b af)
  | .neq=>aa (.b aj)
  | _=>ah
 | .kY,.kY=>match op with
  | .eql=>aa (.b aj)
  | .neq=>aa (.b af)
  | _=>ah
 | _,_=>ah
def cf (op:BinOp) (x y:AV):ak AV :=
 match op with
 | .shl | .shr=>x.rL.bind fun a=>y.rL.bind fun c=>A0 op a.1 a.2 c.2
 | _=>x.rL.bind fun a=>y.rL.bind fun c=>if a.1=c.1 then zR op a.1 a.2 c.2 else ah
def nh (ks:ai EK) (op:BinOp) (x y:AV):ak AV :=
 match x,y with
 | .ag p,.ag q=>match op with
  | .eql=>(eqs ks p q).bind fun r=>aa (.b r)
  | .neq=>(eqs ks p q).bind fun r=>aa (.b (!r))
  | _=>ah
 | _,_=>ah
def unop (op:UnOp) (x:AV):ak AV :=
 match op,x with
 | .not,.b p=>aa (.b (!p))
 | .neg,.int n=>AV.CW .i64 (IntKind.i64.wrap (-n))
 | _,_=>ah
def conv (k:dP) (x:AV):ak AV:=x.rL.bind fun a=>AV.CW k (k.wrap a.2)
def GC:AV→ak AV
 | .s l=>aa (.s l)
 | _=>ah
def bytesOf:ai AV→ak (ai ae)
 | []=>aa []
 | .u8 x :: r=>(bytesOf r).bind fun l=>aa (x :: l)
 | _ :: _=>ah
def GD (x:AV):ak AV :=
 match x with
 | .ro 1 l=>(bytesOf l).bind fun p=>if p.length≤big then aa (.s p) else ah
 | .cd=>aa (.s [])
 | _=>ah
def Sa (x:AV):ak AV :=
 match x with
 | .s l=>aa (.ro 1 (l.map .u8))
 | _=>ah
def om (x:AV):ak AV :=
 match x with
 | .s l=>aa (.int l.length)
 | _=>ah
def kH (x:AV):ak AV :=
 match x with
 | .ro _ l=>aa (.int l.length)
 | .cd=>aa (.int 0)
 | _=>ah
def cA (x:AV) (i:ax):ak AV :=
 match x with
 | .tu l=>l[i]?
 | _=>ah
def pN (n:ax) (i:AV):ak ax:=i.rL.bind fun a=>if 0≤a.2∧a.2 < (n:aB) then aa a.2.toNat else ah
def CX (n:ax) (i:AV):ak ax:=i.rL.bind fun a=>if 0≤a.2∧a.2≤(n:aB) then aa a.2.toNat else ah
def jU (x i:AV):ak AV :=
 match x with
 | .s l=>(pN l.length i).bind fun n=>aa (.u8 (l.getD n 0))
 | _=>ah
def idx (k:ax) (x i:AV):ak AV :=
 match x with
 | .ro k' l=>if k'=k then (pN l.length i).bind fun n=>aa (l.getD n .un) else ah
 | _=>ah
def mJ (n:ax) (lo hi:ak AV):ak (ax×ax) :=
 (match hi with | some h=>CX n h | none=>aa n).bind fun h =>
 (match lo with | some l=>CX h l | none=>aa 0).bind fun l=>aa (l,h)
def nM (x:AV) (lo hi:ak AV):ak AV :=
 match x with
 | .s l=>(mJ l.length lo hi).bind fun p=>aa (.s ((l.take p.2).drop p.1))
 | _=>ah
def VK (k:ax) (x:AV) (lo hi:ak AV):ak AV :=
 match x with
 | .ro k' l=>if k'=k then (mJ l.length lo hi).bind fun p=>aa (.ro k ((l.take p.2).drop p.1)) else ah
 | .cd=>(mJ 0 lo hi).bind fun _=>aa .cd
 | _=>ah
def mm (mn:ay) (x y:AV):ak AV :=
 match x,y with
 | .int p,.int q=>aa (.int (if mn then (if q < p then q else p) else (if q > p then q else p)))
 | .u8 p,.u8 q=>aa (.u8 (if mn then (if q < p then q else p) else (if q > p then q else p)))
 | _,_=>ah
def app (bytes k:ax) (l:ai AV) (x:AV):ak (ai AV) :=
 (x.items k).bind fun m=>if (l.length+m.length) * bytes≤big then aa (l ++ m) else ah
def mk (bytes:ax) (z:AV) (n c:AV):ak (ai AV) :=
 match n,c with
 | .int n,.int c=>if n=c∧0≤n∧bytes * n≤big then aa (dE n.toNat z) else ah
 | _,_=>ah
def bt (c:AV) (want:ay) (A:ak AV) (o:AV):ak AV :=
 match c with
 | .b x=>bif x == want then (match A with | some (.b y)=>aa (.b y) | _=>ah) else (match o with | .b y=>aa (.b y) | _=>ah)
 | _=>ah
def a8 {R:Type} (c:AV) (A B:ak R):ak R :=
 match c with
 | .b x=>bif x then A else B
 | _=>ah
end Sx
namespace Sx
open Go
inductive Cell where
 | dead
 | val (v:AV)
 | own (id e k:ax) (l:ai AV)
 | ptr (s off:ax)
 | lr (g:ax) (ss:ai ax)
 deriving Inhabited
inductive cQ where
 | cell (c:Cell)
 | agg (cs:ai Cell)
 | pK (k:ax) (e:AV) (off:ax)
 | nN (id e k:ax) (l:ai AV) (i off:ax)
 | uJ (r:AV) (ks:ai (ak (ak (ax×ax×ax))))
 deriving Inhabited
abbrev cQ.val (v:AV):cQ:=.cell (.val v)
abbrev cQ.dead:cQ:=.cell .dead
def Cell.cP:Cell→AV
 | .val v=>v
 | .own _ _ k l=>.ro k l
 | _=>.un
def cQ.cP:cQ→AV
 | .cell c=>c.cP
 | .agg cs=>.ag (cs.map Cell.cP)
 | _=>.un
def Cell.ids:Cell→ai ax
 | .own i _ _ _=>[i]
 | _=>[]
def cQ.ids:cQ→ai ax
 | .cell c=>c.ids
 | .agg cs=>cs.flatMap Cell.ids
 | _=>[]
def Cell.told:Cell→ay
 | .val _ | .own .. => aj
 | _=>af
def Cell.isVal:Cell→ay
 | .val _=>aj
 | _=>af
def cQ.told:cQ→ay
 | .cell c=>c.told
 | .agg cs=>cs.all Cell.told
 | _=>af
def Cell.fz (id:ax):Cell→Cell
 | .own i e k l=>bif Nat.beq i id then .val (.ro k l) else .own i e k l
 | c=>c
def cQ.fz (id:ax):cQ→cQ
 | .cell c=>.cell (c.fz id)
 | .agg cs=>.agg (cs.map (Cell.fz id))
 | .nN i e k l n off=>bif Nat.beq i id then .dead else .nN i e k l n off
 | .uJ r ks=>.uJ r (ks.map fun o=>match o with | some (aa (i,e,k))=>bif Nat.beq i id then ah else aa (aa (i,e,k)) | o=>o)
 | e=>e
def Cell.kl (id:ax):Cell→Cell
 | .own i e k l=>bif Nat.beq i id then .dead else .own i e k l
 | c=>c
def cQ.kl (id:ax):cQ→cQ
 | .cell c=>.cell (c.kl id)
 | .agg cs=>.agg (cs.map (Cell.kl id))
 | .nN i e k l n off=>bif Nat.beq i id then .dead else .nN i e k l n off
 | .uJ r ks=>.uJ r (ks.map fun o=>match o with | some (aa (i,e,k))=>bif Nat.beq i id then ah else aa (aa (i,e,k)) | o=>o)
 | e=>e
def Cell.up (id:ax) (l':ai AV):Cell→Cell
 | .own i e k l=>bif Nat.beq i id then .own i e k l' else .own i e k l
 | c=>c
def cQ.up (id:ax) (l':ai AV):cQ→cQ
 | .cell c=>.cell (c.up id l')
 | .agg cs=>.agg (cs.map (Cell.up id l'))
 | .nN i e k l n off=>bif Nat.beq i id then .nN i e k l' n off else .nN i e k l n off
 | .uJ r ks=>.uJ r (ks.map fun o=>match o with | some (aa (i,e,k))=>bif Nat.beq i id then ah else aa (aa (i,e,k)) | o=>o)
 | e=>e
def Cell.ks (s:ax):Cell→Cell
 | .ptr t off=>bif Nat.beq t s then .dead else .ptr t off
 | .lr g ss=>bif ss.any (Nat.beq s) then .dead else .lr g ss
 | c=>c
def Cell.sites:Cell→ai ax
 | .ptr s _=>[s]
 | .lr _ ss=>ss
 | _=>[]
def cQ.ks (s:ax):cQ→cQ
 | .cell c=>.cell (c.ks s)
 | .agg cs=>.agg (cs.map (Cell.ks s))
 | e=>e
structure St where
 env:ax→cQ
 mem:ax→ak (ai Cell)
def St.map (f:cQ→cQ) (g:Cell→Cell) (st:St):St:={ env:=fun t=>f (st.env t),mem:=fun s=>(st.mem s).map (·.map g) }
def St.fz (st:St) (id:ax):St:=st.map (cQ.fz id) (Cell.fz id)
def St.oQ (st:St) (ids:ai ax):St:=ids.foldl St.fz st
def St.kl (st:St) (id:ax):St:=st.map (cQ.kl id) (Cell.kl id)
def St.up (st:St) (id:ax) (l:ai AV):St:=st.map (cQ.up id l) (Cell.up id l)
def St.ks (st:St) (s:ax):St:=st.map (cQ.ks s) (Cell.ks s)
def St.set (st:St) (t:ax) (e:cQ):St:={ st with env:=fun x=>bif Nat.beq x t then e else st.env x }
def St.put (st:St) (d:ak ax) (e:cQ):St:=match d with | some t=>st.set t e | none=>st
def St.kU (st:St) (s:ax) (cs:ai Cell):St:={ st with mem:=fun x=>bif Nat.beq x s then aa cs else st.mem x }
def St.lv (st:St) (ts:ai ax):St:=ts.foldl (fun st t=>st.set t .dead) st
def Sb:aC→cQ
 | .agg cs=>bif cs.toList.all Value.oneCell' then .agg (cs.toList.map fun v=>.val (JZ v)) else .dead
 | .tuple _=>.dead
 | v=>.val (JZ v)
inductive Kd where
 | bool | int (k:dP) | str | slice | struct | ptr | func | other
 deriving Inhabited
structure Ty where
 size:ax
 bytes:ax
 kd:Kd
 elem:ax:=0
 zero:ai AV:=[]
 fields:ai (ax×ax):=[]
 eqk:ak (ai EK):=ah
 deriving Inhabited
def Kd.agg:Kd→ay
 | .struct=>aj
 | _=>af
def Kd.wQ:Kd→ay
 | .slice=>aj
 | _=>af
inductive pO where
 | done
 | seq (l:ai (ax×ay)) (t:pO)
 | fork (i:ax) (x:pO) (j:ax) (y:pO)
inductive mK where
 | v
 | own (e k:ax)
 | lr (g:ax) (os:ai ax)
inductive Sc where
 | v
 | obj (i:ax)
 | lr (g:ax) (os:ai ax)
inductive Src where
 | arg (p:ax)
 | cap (p k:ax)
 | fld (i j k:ax)
structure A4 where
 ps:ai Sc
 objs:ai (Src×ai mK)
 outs:ai (Src×ai mK)
structure jT where
 ty:ax→ak Ty
 own:ax→ai (ak (ax×ax))
 stops:ax→ai (ax×ai (ax×ak (ax×ax))×ai (ax×ai (ax×ax×ax)))
 IW:ax→ax→ak (pO×ai ax)
 zS:ax→ax→ay
 glob:ax→ak (ax×AV)
 sig:ax→ak A4:=fun _=>ah
 gv:ax→ak (ai AV→ak AV):=fun _=>ah
 pt:ax→ay:=fun _=>af
def St.get (st:St) (C:jT):Operand→cQ
 | .tmp t=>st.env t
 | .const v=>Sb v
 | .func f=>.val (.fn f)
 | .global g=>match C.glob g with
  | some (k,e)=>.pK k e 0
  | none=>.dead
def jT.kd (C:jT) (t:ax):ak Kd:=(C.ty t).map Ty.kd
def AV.cm (n:ax):AV→ak (ai AV)
 | .ag l=>if l.length=n then aa l else ah
 | _=>ah
def AV.one:AV→ak AV
 | .ag _ | .tu _=>ah
 | v=>aa v
section ops
variable {R:Type} (C:jT) (call:ax→ai AV→ak AV) (f:ax)
def cellsOf (t:ax) (e:cQ) (K:ai Cell→ak R):ak R :=
 match C.ty t with
 | none=>ah
 | some i =>
  bif i.kd.agg then
   match e with
   | .agg cs=>bif Nat.beq cs.length i.size then K cs else ah
   | .cell (.val v)=>(AV.cm i.size v).bind fun l=>K ((List.range i.size).map fun j=>.val (l.getD j .un))
   | _=>ah
  else bif Nat.beq i.size 1 then
   match e with
   | .cell (.val v)=>(AV.one v).bind fun v=>K [.val v]
   | .cell .dead=>ah
   | .cell c=>K [c]
   | _=>ah
  else ah
def km (agg:ay) (cs:ai Cell):cQ:=bif agg then .agg cs else .cell (cs.headD .dead)
def oU (cs new:ai Cell) (off:ax):ai Cell:=cs.take off ++ new ++ cs.drop (off+new.length)
def uK (t:ax) (a:cQ) (dst:ak ax) (st:St) (K:St→ak R):ak R :=
 match C.ty t with
 | none=>ah
 | some i =>
  match a with
  | .cell (.ptr s off) =>
   match st.mem s with
   | some cs=>bif bL (off+i.size) cs.length then K (st.put dst (km i.kd.agg ((cs.drop off).take i.size))) else ah
   | none=>ah
  | .pK k e off=>bif bL (off+i.size) k then K (st.put dst (km i.kd.agg ((List.range i.size).map fun j=>.val (e.cell (off+j))))) else ah
  | .nN _ _ k l n off=>bif bL (off+i.size) k then K (st.put dst (km i.kd.agg ((List.range i.size).map fun j=>.val ((l.getD n .un).cell (off+j))))) else ah
  | _=>ah
def setCells (agg:ay) (k:ax) (e:AV) (off:ax) (new:ai AV):AV :=
 bif agg then .ag ((List.range k).map fun j=>bif bL off j && bI j (off+new.length) then new.getD (j - off) .un else e.cell j)
 else new.headD .un
def qU (t:ax) (a v:cQ) (st:St) (K:St→ak R):ak R :=
 match a with
 | .cell (.ptr s off)=>cellsOf C t v fun new =>
  match st.mem s with
  | some cs=>bif bL (off+new.length) cs.length then K (st.kU s (oU cs new off)) else ah
  | none=>ah
 | .nN id e k l n off=>cellsOf C t v fun new =>
  match C.ty e with
  | some i=>bif Nat.beq k i.size && (bL (off+new.length) k && v.told && !(v.ids.any (Nat.beq id))) then K ((st.oQ v.ids).up id (l.set n (setCells i.kd.agg k (l.getD n .un) off (new.map Cell.cP)))) else ah
  | none=>ah
 | _=>ah
def mg (t i:ax):ak (ax×ax):=(C.ty t).bind fun y=>y.fields[i]?
def tJ (fields:ai (ax×ax)) (st:St):ai (ax×Operand)→ai Cell→(ai Cell→ak R)→ak R
 | [],cs,K=>K cs
 | (i,x) :: r,cs,K =>
  match fields[i]? with
  | some (off,t)=>cellsOf C t (st.get C x) fun new=>bif bL (off+new.length) cs.length then tJ fields st r (oU cs new off) K else ah
  | none=>ah
def pP (t:ax) (agg:ay) (st:St):ai (ax×Operand)→ai AV→(ai AV→ak R)→ak R
 | [],l,K=>K l
 | (i,x) :: r,l,K=>bif bI i l.length && (st.get C x).told then
   cellsOf C t (st.get C x) fun new=>pP t agg st r (l.set i (bif agg then .ag (new.map Cell.cP) else (new.headD .dead).cP)) K
  else ah
def zeroE (i:Ty):AV:=bif i.kd.agg then .ag i.zero else i.zero.headD .un
def lift (st:St) (dst:ak ax) (K:St→ak R) (o:ak AV):ak R:=o.bind fun v=>K (st.put dst (.val v))
def jW (st:St) (d:ax) (e k:ax) (l:ai AV):St:=(st.kl d).set d (.cell (.own d e k l))
def newVar (st:St) (d:ax) (cs:ai Cell):St:=((st.ks d).kU d (cs.map (Cell.ks d))).set d (.cell (.ptr d 0))
def oV (t:ax) (x:cQ) (lo hi mx:ak Operand) (dst:ak ax) (st:St) (K:St→ak R):ak R :=
 match mx with
 | some _=>ah
 | none =>
  let l:=lo.map fun o=>(st.get C o).cP
  let h:=hi.map fun o=>(st.get C o).cP
  match C.kd t with
  | some .str=>lift st dst K (nM x.cP l h)
  | some .slice =>
   match (C.ty t).bind fun i=>C.ty i.elem with
   | none=>ah
   | some i =>
    bif (dst.map (C.zS f)).getD af then
     match x,lo,hi with
     | .cell (.own id e k c),ah,aa hh=>(CX c.length (st.get C hh).cP).bind fun n=>dst.bind fun d=>K (jW (st.kl id) d e k (c.take n))
     | _,_,_=>ah
    else lift (st.oQ x.ids) dst K (VK i.size x.cP l h)
  | _=>ah
def oo (src to:ax) (x:cQ) (dst:ak ax) (st:St) (K:St→ak R):ak R :=
 match C.kd src,C.kd to with
 | some (.int _),aa (.int k)=>lift st dst K (conv k x.cP)
 | some .str,aa .str=>lift st dst K (GC x.cP)
 | some .slice,aa .str=>match (C.ty src).bind fun i=>C.kd i.elem with
  | some (.int .u8)=>lift st dst K (GD x.cP)
  | _=>ah
 | some .str,aa .slice=>match (C.ty to).bind fun i=>C.kd i.elem with
  | some (.int .u8)=>lift st dst K (Sa x.cP)
  | _=>ah
 | some .slice,aa .slice=>match x with
  | .cell (.own id _ k (v :: l))=>bif Nat.beq src to && Nat.beq k 1 then (match (C.ty to).bind fun i=>C.kd i.elem with
   | some (.int .u8)=>K ((st.kl id).put dst (.val (.ro 1 (v :: l))))
   | _=>ah) else ah
  | _=>ah
 | _,_=>ah
def mX (b:Builtin) (args:ai Operand) (ts:ai ax) (dst:ak ax) (st:St) (K:St→ak R):ak R :=
 match b,args,ts with
 | .len,[x],t :: _=>match C.kd t with
  | some .str=>lift st dst K (om (st.get C x).cP)
  | some .slice=>lift st dst K (kH (st.get C x).cP)
  | _=>ah
 | .min,[x,y],_=>lift st dst K (mm aj (st.get C x).cP (st.get C y).cP)
 | .min,[x,y,z],_=>lift st dst K ((mm aj (st.get C x).cP (st.get C y).cP).bind fun v=>mm aj v (st.get C z).cP)
 | .max,[x,y],_=>lift st dst K (mm af (st.get C x).cP (st.get C y).cP)
 | .append,[x,y],t :: u :: _ =>
  match C.ty t,(C.ty t).bind fun i=>C.ty i.elem,C.kd u with
  | some s,aa i,aa kd =>
   match kd with
   | .slice | .str=>bif s.kd.wQ then
    match st.get C x with
    | .cell (.own id e k l)=>bif Nat.beq e s.elem && Nat.beq k i.size && !((st.get C y).ids.any (Nat.beq id)) then (app i.bytes i.size l (st.get C y).cP).bind fun m=>dst.bind fun d=>K (jW ((st.oQ (st.get C y).ids).kl id) d e k m) else ah
    | .cell (.val .cd)=>(app i.bytes i.size [] (st.get C y).cP).bind fun m=>dst.bind fun d=>K (jW (st.oQ (st.get C y).ids) d s.elem i.size m)
    | _=>ah
    else ah
   | _=>ah
  | _,_,_=>ah
 | _,_,_=>ah
def Od (d j:ax):ax:=d+100000 * (j+1)
def rY (st:St) (dst:ak ax) (ks:ai (ak (ax×ax))) (r:AV):ak St :=
 bif ks.all Option.isNone then aa (st.put dst (.val r))
 else match ks,dst with
 | [aa (e,k)],aa d=>aa (jW st d e k r.elems)
 | [aa _],ah=>ah
 | ks,aa d=>aa (((List.range ks.length).foldl (fun st j=>st.kl (Od d j)) st).set d (.uJ r (ks.zipIdx.map fun (o,j)=>aa (o.map fun (e,k)=>(Od d j,e,k)))))
 | _,ah=>ah
def nodup:ai ax→ay
 | []=>aj
 | x :: r=>!(r.any fun y=>Nat.beq x y) && nodup r
def Sd (st:St) (xs:ai cQ) (sites:ai ax):Src→ak ax
 | .arg p=>match xs[p]? with
  | some (.cell (.ptr s o))=>bif Nat.beq o 0 then aa s else ah
  | _=>ah
 | .cap p k=>match xs[p]? with
  | some (.cell (.lr _ ss))=>ss[k]?
  | _=>ah
 | .fld i j k=>match sites[i]? with
  | some s=>match st.mem s with
   | some cs=>match cs[j]? with
    | some (.lr _ ss)=>ss[k]?
    | _=>ah
   | none=>ah
  | none=>ah
def tK (st:St) (xs:ai cQ):ai ax→ai (Src×ai mK)→ak (ai ax)
 | acc,[]=>aa acc
 | acc,o :: r=>(Sd st xs acc o.1).bind fun s=>tK st xs (acc ++ [s]) r
def lF:ai ax→ai ax→ay
 | [],[]=>aj
 | x :: r,y :: t=>Nat.beq x y && lF r t
 | _,_=>af
def zU (sites:ai ax):Sc→cQ→ay
 | .v,e=>e.told
 | .obj i,.cell (.ptr s o)=>Nat.beq o 0 && (match sites[i]? with | some t=>Nat.beq s t | none=>af)
 | .lr g os,.cell (.lr h ss)=>Nat.beq g h && lF ss (os.map fun o=>sites.getD o 0) && os.all fun o=>bI o sites.length
 | _,_=>af
def rZ (sites:ai ax):ai Sc→ai cQ→ay
 | [],[]=>aj
 | p :: ps,x :: xs=>zU sites p x && rZ sites ps xs
 | _,_=>af
def se:ai Sc→ai cQ→ai ax
 | .v :: ps,x :: xs=>x.ids ++ se ps xs
 | _ :: ps,_ :: xs=>se ps xs
 | _,_=>[]
def jL:ai Sc→ai cQ→ai AV
 | .v :: ps,x :: xs=>x.cP :: jL ps xs
 | _ :: ps,_ :: xs=>.un :: jL ps xs
 | _,_=>[]
def Oe (site:ax→ax):mK→Cell→ak AV
 | .v,c=>bif c.told then aa c.cP else ah
 | .own e k,c=>match c with
  | .own _ e' k' l=>bif Nat.beq e e' && Nat.beq k k' then aa (.ro k l) else ah
  | .val .cd=>bif bI 0 k then aa (.ro k []) else ah
  | _=>ah
 | .lr g os,c=>match c with
  | .lr h ss=>bif Nat.beq g h && lF ss (os.map site) then aa .un else ah
  | _=>ah
def IX (site:ax→ax):ai mK→ai Cell→ak (ai AV)
 | [],[]=>aa []
 | k :: ks,c :: cs=>(Oe site k c).bind fun v=>(IX site ks cs).bind fun vs=>aa (v :: vs)
 | _,_=>ah
def tL (site:ax→ax) (mem:ax→ak (ai Cell)):ax→ai (Src×ai mK)→ak (ai AV)
 | _,[]=>aa []
 | i,o :: r=>match mem (site i) with
  | some cs=>(IX site o.2 cs).bind fun vs=>(tL site mem (i+1) r).bind fun t=>aa (.ag vs :: t)
  | none=>ah
def wR (own:ay):ai mK→ai Cell→ai ax
 | .own _ _ :: ks,c :: cs=>(bif own then c.ids else []) ++ wR own ks cs
 | _ :: ks,c :: cs=>(bif own then [] else c.ids) ++ wR own ks cs
 | _,_=>[]
def gw (own:ay) (site:ax→ax) (mem:ax→ak (ai Cell)):ax→ai (Src×ai mK)→ai ax
 | _,[]=>[]
 | i,o :: r=>(match mem (site i) with | some cs=>wR own o.2 cs | none=>[]) ++ gw own site mem (i+1) r
def ir (s j:ax):ax:=600000+1000 * s+j
def kI (site:ax→ax) (s:ax):ax→ai mK→ai AV→ai Cell
 | _,[],_=>[]
 | j,.v :: ks,l=>.val (l.getD j .un) :: kI site s (j+1) ks l
 | j,.own e k :: ks,l=>.own (ir s j) e k (l.getD j .un).elems :: kI site s (j+1) ks l
 | j,.lr g os :: ks,l=>.lr g (os.map site) :: kI site s (j+1) ks l
def wX (s:ax):ax→ai mK→ai ax
 | _,[]=>[]
 | j,.own _ _ :: ks=>ir s j :: wX s (j+1) ks
 | j,_ :: ks=>wX s (j+1) ks
def St.Ke (st:St) (ids:ai ax):St:=ids.foldl St.kl st
def iz (site:ax→ax):ax→ai (Src×ai mK)→ai ax
 | _,[]=>[]
 | i,o :: r=>wX (site i) 0 o.2 ++ iz site (i+1) r
def vJ {R:Type} (site:ax→ax) (res:AV):ax→ai (Src×ai mK)→St→(St→ak R)→ak R
 | _,[],st,K=>K st
 | i,o :: r,st,K=>(cA res (i+1)).bind fun v=>(AV.cm o.2.length v).bind fun l =>
   vJ site res (i+1) r (st.kU (site i) (kI site (site i) 0 o.2 l)) K
def si (n:ax) (objs:ai (Src×ai mK)):ay:=objs.all fun o=>bL o.2.length 1000 && o.2.all fun k=>match k with
 | .lr _ os=>os.all fun o=>bI o n
 | .own _ k=>bI 0 k
 | .v=>aj
def GF (sg:A4):ay:=si sg.objs.length sg.objs && (si sg.objs.length sg.outs && Nat.beq sg.outs.length sg.objs.length)
def jM (sg:A4) (g:ax) (xs:ai cQ) (dst:ak ax) (st:St) (K:St→ak R):ak R :=
 (tK st xs [] sg.objs).bind fun sites =>
  let site:=fun i=>sites.getD i 0
  let ea:=st.oQ (se sg.ps xs ++ gw af site st.mem 0 sg.objs)
  bif GF sg && (nodup sites && (rZ sites sg.ps xs && (nodup (gw aj site ea.mem 0 sg.objs) && (C.own g).isEmpty))) then
   (tL site ea.mem 0 sg.objs).bind fun ins =>
   (call g (jL sg.ps xs ++ ins)).bind fun res =>
   (cA res 0).bind fun v =>
   vJ site res 0 sg.outs (ea.Ke (gw aj site ea.mem 0 sg.objs ++ iz site 0 sg.outs)) fun st=>K (st.put dst (.val v))
  else ah
def Og (C:jT) (st:St):Operand→ay
 | .func g=>(C.sig g).isSome
 | .tmp t=>match st.env t with
  | .cell (.lr _ _)=>aj
  | _=>af
 | _=>af
def vK (C:jT) (call:ax→ai AV→ak AV) (g:ax) (xs:ai AV):ak AV:=bif (C.sig g).isNone && (C.own g).all Option.isNone then call g xs else ah
def pQ (c:Call) (dst:ak ax) (st:St) (K:St→ak R):ak R :=
 let xs:=c.args.toList.map (st.get C)
 let st':=st.oQ (xs.flatMap cQ.ids)
 match c.callee with
 | .value (.func g)=>match C.sig g with
  | some sg=>jM C call sg g xs dst st K
  | none=>bif xs.all cQ.told then (call g (xs.map cQ.cP)).bind fun r=>(rY st' dst (C.own g) r).bind K else ah
 | .value (.tmp t)=>match st.env t with
  | .cell (.lr g ss)=>match C.sig g with
   | some sg=>jM C call sg g (xs ++ ss.map fun s=>.cell (.ptr s 0)) dst st K
   | none=>ah
  | _=>bif xs.all cQ.told then (AV.R9 (st.env t).cP).bind fun g=>(vK C call g (xs.map cQ.cP)).bind fun r=>K (st'.put dst (.val r)) else ah
 | .builtin b=>mX C b c.args.toList c.argTypes.toList dst st K
 | _=>ah
def sj:ai cQ→ak (ai ax)
 | []=>aa []
 | .cell (.ptr s o) :: r=>bif Nat.beq o 0 then (sj r).map (s :: ·) else ah
 | _ :: _=>ah
def fk (o:Oper) (st:St) (K:St→ak R):ak R :=
 match o.op with
 | .move x | .assign x=>K (st.put o.dst (st.get C x))
 | .pick c a b=>lift st o.dst K (bt (st.get C c).cP aj (aa (st.get C a).cP) (st.get C b).cP)
 | .alloc t=>match C.ty t with
  | some i=>o.dst.bind fun d=>K (newVar st d (i.zero.map .val))
  | none=>ah
 | .box t x=>cellsOf C t (st.get C x) fun cs=>bif C.pt t then (bif cs.all Cell.isVal && !cs.isEmpty then K (st.put o.dst (.val (.pt (cs.map Cell.cP)))) else ah) else o.dst.bind fun d=>K (newVar st d cs)
 | .build t ps=>match C.ty t with
  | some i=>bif i.kd.agg then tJ C i.fields st ps.toList (i.zero.map .val) fun cs=>K (st.put o.dst (.agg cs)) else ah
  | none=>ah
 | .buildSlice t n ps=>match C.ty t,(C.ty t).bind fun i=>C.ty i.elem with
  | some s,aa i=>bif s.kd.wQ && bL (n * i.size) 16777216 then pP C s.elem i.kd.agg st ps.toList (dE n (zeroE i)) fun l =>
    o.dst.bind fun d=>K (jW (st.oQ (ps.toList.flatMap fun p=>(st.get C p.2).ids)) d s.elem i.size l) else ah
  | _,_=>ah
 | .load t a=>uK C t (st.get C a) o.dst st K
 | .store t a x=>match o.dst with | none=>qU C t (st.get C a) (st.get C x) st K | some _=>ah
 | .binOp op t x y _=>match C.ty t with
  | some i=>bif i.kd.agg then (match i.eqk with | some ks=>lift st o.dst K (nh ks op (st.get C x).cP (st.get C y).cP) | none=>ah)
        else match i.kd with
         | .bool=>lift st o.dst K (EF op (st.get C x).cP (st.get C y).cP)
         | .int _=>lift st o.dst K (cf op (st.get C x).cP (st.get C y).cP)
         | .str=>lift st o.dst K (gR op (st.get C x).cP (st.get C y).cP)
         | .slice=>lift st o.dst K (IV op (st.get C x).cP (st.get C y).cP)
         | .ptr=>lift st o.dst K (wP op (st.get C x).cP (st.get C y).cP)
         | _=>ah
  | none=>ah
 | .unOp op _ x=>lift st o.dst K (unop op (st.get C x).cP)
 | .convert s t x=>oo C s t (st.get C x) o.dst st K
 | .makeSlice t n c=>match C.ty t,(C.ty t).bind fun i=>C.ty i.elem with
  | some s,aa i=>(bif s.kd.wQ then mk i.bytes (zeroE i) (st.get C n).cP (st.get C c).cP else ah).bind fun l=>o.dst.bind fun d=>K (jW st d s.elem i.size l)
  | _,_=>ah
 | .slice t x lo hi mx=>oV C f t (st.get C x) lo hi mx o.dst st K
 | .fieldAddr t x i=>match mg C t i,st.get C x with
  | some (off,_),.cell (.ptr s o')=>K (st.put o.dst (.cell (.ptr s (o'+off))))
  | some (off,_),.pK k e o'=>K (st.put o.dst (.pK k e (o'+off)))
  | some (off,_),.nN id e k l n o'=>K (st.put o.dst (.nN id e k l n (o'+off)))
  | some (off,_),.cell (.val (.pt l))=>K (st.put o.dst (.pK l.length (.ag l) off))
  | _,_=>ah
 | .field t x i=>match mg C t i with
  | some (off,ft)=>cellsOf C t (st.get C x) fun cs=>match C.ty ft with
   | some i=>bif bL (off+i.size) cs.length then K (st.put o.dst (km i.kd.agg ((cs.drop off).take i.size))) else ah
   | none=>ah
  | none=>ah
 | .indexAddr t x i=>match C.ty t,(C.ty t).bind fun y=>C.ty y.elem with
  | some s,aa y =>
   match s.kd,st.get C x with
   | .slice,.cell (.own id e k l)=>bif Nat.beq k y.size then (pN l.length (st.get C i).cP).bind fun n=>K (st.put o.dst (.nN id e k l n 0)) else ah
   | .slice,x=>(idx y.size x.cP (st.get C i).cP).bind fun e=>K (st.put o.dst (.pK y.size e 0))
   | _,_=>ah
  | _,_=>ah
 | .index t x i=>match C.kd t with
  | some .str=>lift st o.dst K (jU (st.get C x).cP (st.get C i).cP)
  | _=>ah
 | .extract x i=>match x with
  | .tmp t=>match st.env t with
   | .uJ r ks=>match ks[i]? with
    | some (aa ah)=>K (st.put o.dst (.val (r.comp i)))
    | some (aa (aa (id,e,k)))=>K (st.put o.dst (.cell (.own id e k (r.comp i).elems)))
    | _=>ah
   | .cell (.val r)=>lift st o.dst K (cA r i)
   | _=>ah
  | _=>ah
 | .makeFunc fn fi ca=>match fn,fi.toList,ca.toList with
  | .func g,[],[]=>K (st.put o.dst (.val (.fn g)))
  | .func g,[],x :: r=>match sj ((x :: r).map (st.get C)) with
   | some ss=>K (st.put o.dst (.cell (.lr g ss)))
   | none=>ah
  | _,_,_=>ah
 | .nilCheck x=>match st.get C x with
  | .cell (.ptr s o')=>K (st.put o.dst (.cell (.ptr s o')))
  | .pK k e o'=>K (st.put o.dst (.pK k e o'))
  | .nN id e k l n o'=>K (st.put o.dst (.nN id e k l n o'))
  | .cell (.val (.pt l))=>K (st.put o.dst (.val (.pt l)))
  | _=>ah
 | .call c=>pQ C call c o.dst st K
 | _=>ah
def Op.zV (C:jT):Op→ay
 | .store .. => af
 | .call { callee:=.builtin .append,.. }=>af
 | .call { callee:=.value (.func g),.. }=>(C.sig g).isNone
 | .call { callee:=.value _,.. }=>af
 | .convert s t _=>!Nat.beq s t
 | _=>aj
def jT.pure (C:jT):Op→ay
 | .move _ | .assign _ | .pick .. | .binOp .. | .unOp .. | .load .. | .fieldAddr .. | .field .. | .indexAddr .. | .index .. | .extract .. | .makeFunc .. | .build .. | .nilCheck _=>aj
 | .slice t _ _ _ _=>match C.kd t with | some .str | some .slice=>aj | _=>af
 | .convert s t _=>match C.kd s,C.kd t with | some .str,aa .slice=>af | some .slice,aa .slice=>af | _,_=>aj
 | .call { callee:=.builtin b,.. }=>match b with | .len | .min | .max=>aj | _=>af
 | _=>af
def A5 (i:ax) (o:Oper) (tk:ay) (D:ak (ai ax)) (st:St):ay :=
 bif tk then match D with
  | none=>af
  | some ws=>C.pure o.op && (match o.op with | .load _ x=>(match st.get C x with | .cell (.ptr s _)=>!(ws.any (Nat.beq s)) | _=>aj) | _=>aj)
 else match D with
  | none=>aj
  | some ws=>match o.op with
   | .store _ x _=>ws.any (Nat.beq (1000000+i)) || (match st.get C x with | .cell (.ptr s _)=>ws.any (Nat.beq s) | _=>af)
   | .alloc _ | .box _ _=>(match o.dst with | some d=>!(ws.any (Nat.beq d)) | none=>aj)
   | .call c=>(match c.callee with | .value x=>!(Og C st x) || ws.any (Nat.beq (1000000+i)) | _=>aj)
   | _=>aj
def ni:ai Operand→ay
 | .const (.slice ah _ _) :: _=>aj
 | _=>af
def Op.calm:Op→ay
 | .call { callee:=.builtin .append,args:=as,.. }=>ni as.toList
 | .convert s t _=>!Nat.beq s t
 | _=>aj
def vL (g ctx:ak (ax×ay)):ay :=
 match g,ctx with
 | none,ah=>aj
 | some (i,x),aa (j,y)=>Nat.beq i j && (x == y)
 | _,_=>af
def opAt (ops:bF Oper) (i:ax):Oper:=ops.getD i default
def fy (ops:bF Oper) (j:ax):ak ax:=(ops[j]?).bind (·.dst)
def isConst:Operand→ay
 | .const _=>aj
 | _=>af
def closes (ctx:ak (ax×ay)) (d:ax) (want:ay) (o:Oper):ak (Operand×Operand) :=
 match o.op with
 | .pick (.tmp c) a b=>bif Nat.beq c d && vL o.guard ctx && isConst (bif want then b else a) then aa (a,b) else ah
 | _=>ah
def xL (ops:bF Oper) (ctx:ak (ax×ay)) (d:ax) (want:ay):ai (ax×ay)→ak (ai (ax×ay)×(ax×ay)×(Operand×Operand)×ai (ax×ay))
 | []=>ah
 | i :: r=>match closes ctx d want (opAt ops i.1) with
  | some ab=>aa ([],i,ab,r)
  | none=>(xL ops ctx d want r).map fun (s,p,ab,t)=>(i :: s,p,ab,t)
def hangs (ops:bF Oper) (li:ay) (j:ax) (want:ay) (d:ax):ai (ax×ay)→ai ax→ay
 | [],_=>aj
 | i :: r,seen=>bI i.1 ops.size && (match (opAt ops i.1).guard with | some (g,x)=>(Nat.beq g j && (x == want)) || seen.contains g | none=>af) && (!li || Op.zV C (opAt ops i.1).op) &&
   (match (opAt ops i.1).dst with | some e=>!Nat.beq e d | none=>aj) && hangs ops li j want d r (i.1 :: seen)
end ops
section code
variable (C:jT) (call:ax→ai AV→ak AV) (f:ax)
def EG {R:Type} (c:AV) (want:ay) (A B:ak R):ak R :=
 bif want then a8 c A B else a8 c B A
def jn {R:Type} (ops:bF Oper) (D:ak (ai ax)):ax→ak (ax×ay)→ai (ax×ay)→St→(St→ak R)→ak R
 | 0,_,_,_,_=>ah
 | _+1,_,[],st,K=>K st
 | n+1,ctx,i :: r,st,K =>
  bif !Nat.blt i.1 ops.size then ah
  else bif vL (opAt ops i.1).guard ctx then
   bif A5 C i.1 (opAt ops i.1) i.2 D st then fk C call f (opAt ops i.1) st fun st=>jn ops D n ctx r st K else ah
  else match (opAt ops i.1).guard with
   | none=>ah
   | some (j,want)=>match fy ops j with
    | none=>ah
    | some d=>match xL ops ctx d want (i :: r) with
     | some (pR,p,(a,b),rest) =>
      bif hangs C ops aj j want d pR [] && bI p.1 ops.size then
       (bt (st.env d).cP want
        (jn ops D n (aa (j,want)) pR st fun st=>aa (st.get C (bif want then a else b)).cP)
        (st.get C (bif want then b else a)).cP).bind fun v =>
        jn ops D n ctx rest ((st.lv (pR.filterMap fun i=>fy ops i.1)).put (opAt ops p.1).dst (.val v)) K
      else bif hangs C ops af j want d pR [] && bI p.1 ops.size then
       EG (st.env d).cP want
        (jn ops D n (aa (j,want)) pR st fun st=>jn ops D n ctx rest (st.put (opAt ops p.1).dst (st.get C (bif want then a else b))) K)
        (jn ops D n ctx rest ((st.lv (pR.filterMap fun i=>fy ops i.1)).put (opAt ops p.1).dst (st.get C (bif want then b else a))) K)
      else ah
     | none=>ah
open Classical in
noncomputable def agree {R:Type} (A B:ak R):ak R:=if A=B then A else ah
noncomputable def same {R:Type} (A:ak R):ak R:=agree A A
noncomputable def lG {R:Type} (ops:bF Oper) (D:ak (ai ax)) (n:ax):pO→St→(St→ak R)→ak R
 | .done,st,K=>K st
 | .seq l t,st,K=>jn C call f ops D n ah l st fun st=>lG ops D n t st K
 | .fork i x j y,st,K=>agree (jn C call f ops D n ah [(i,af)] st fun st=>lG ops D n x st K) (jn C call f ops D n ah [(j,af)] st fun st=>lG ops D n y st K)
noncomputable def nj {R:Type} (IY:ax) (ops:bF Oper) (draw:ay) (st:St) (K:St→ak R):ak R :=
 bif draw then (match C.IW f IY with
  | some p=>lG C call f ops (aa p.2) (ops.size+1) p.1 st K
  | none=>ah)
 else jn C call f ops ah (ops.size+1) ah ((List.range ops.size).map fun i=>(i,af)) st K
def Cell.rn (i j:ax):Cell→Cell
 | .own x e k l=>bif Nat.beq x i then .own j e k l else .own x e k l
 | c=>c
def cQ.rn (i j:ax):cQ→cQ
 | .cell c=>.cell (c.rn i j)
 | .agg cs=>.agg (cs.map (Cell.rn i j))
 | .nN x e k l n off=>bif Nat.beq x i then .nN j e k l n off else .nN x e k l n off
 | .uJ r ks=>.uJ r (ks.map fun o=>match o with | some (aa (x,e,k))=>bif Nat.beq x i then aa (aa (j,e,k)) else aa (aa (x,e,k)) | o=>o)
 | e=>e
def St.rn (st:St) (i j:ax):St:=st.map (cQ.rn i j) (Cell.rn i j)
def St.uL (st:St) (p:ax×ak (ax×ax)):St :=
 match p.2 with
 | some (e,k)=>match st.env p.1 with
  | .cell (.own id e' k' _)=>bif Nat.beq e e' && Nat.beq k k' then (bif Nat.beq id (300000+p.1) then st else (st.kl (300000+p.1)).rn id (300000+p.1)) else st.set p.1 .dead
  | .cell (.val .cd)=>bif bI 0 k then (st.kl (300000+p.1)).set p.1 (.cell (.own (300000+p.1) e k [])) else st.set p.1 .dead
  | _=>st.set p.1 .dead
 | none=>st
def St.fj (es:ai (ax×cQ)) (ms:ai (ax×ak (ai Cell))):St :=
 {env:=fun t=>match es.find? (fun p=>Nat.beq p.1 t) with | some p=>p.2 | none=>.dead,mem:=fun s=>match ms.find? (fun p=>Nat.beq p.1 s) with | some p=>p.2 | none=>ah }
def St.uM (s:ax) (st:St) (p:ax×ax×ax):St :=
 match st.mem s with
 | some cs=>bif Nat.beq p.2.2 0 then (match cs[p.1]? with
   | some (.own id _ _ _)=>st.fz id
   | _=>st)
  else match cs[p.1]? with
  | some (.own id e' k' _)=>bif Nat.beq p.2.1 e' && Nat.beq p.2.2 k' then (bif Nat.beq id (ir s p.1) then st else (st.kl (ir s p.1)).rn id (ir s p.1)) else st
  | some (.val .cd)=>bif bI 0 p.2.2 then (st.kl (ir s p.1)).kU s ((cs.map (Cell.kl (ir s p.1))).set p.1 (.own (ir s p.1) p.2.1 p.2.2 [])) else st
  | _=>st
 | none=>st
def St.Kf (st:St) (q:ax×ai (ax×ax×ax)):St:=q.2.foldl (St.uM q.1) st
def St.sq (st:St) (live:ai (ax×ak (ax×ax))) (sites:ai (ax×ai (ax×ax×ax))):St:=sites.foldl St.Kf (live.foldl St.uL st)
def St.canon (st:St) (live:ai (ax×ak (ax×ax))) (sites:ai (ax×ai (ax×ax×ax))):St :=
 St.fj (live.map fun p=>(p.1,(st.sq live sites).env p.1)) (sites.map fun s=>(s.1,(st.sq live sites).mem s.1))
def pS (o:ak (ax×ax)) (e:cQ):ak AV :=
 match o with
 | some (y,k)=>match e with
  | .cell (.own _ y' k' l)=>bif Nat.beq y y' && Nat.beq k k' then aa (.ro k l) else ah
  | .cell (.val .cd)=>bif bI 0 k then aa .cd else ah
  | _=>ah
 | none=>bif e.told then aa e.cP else ah
def jX (C:jT) (st:St):ResultVar→cQ
 | .tmp t=>st.env t
 | .cell a ty=>match st.env a,C.ty ty with
  | .cell (.ptr s off),aa i=>match st.mem s with
   | some cs=>bif bL (off+i.size) cs.length then km i.kd.agg ((cs.drop off).take i.size) else .dead
   | none=>.dead
  | _,_=>.dead
def pT:ai (ak (ax×ax))→ai cQ→ai ax
 | some _ :: ks,e :: es=>e.ids ++ pT ks es
 | none :: ks,_ :: es=>pT ks es
 | _,_=>[]
def pU:ai (ak (ax×ax))→ai cQ→ai ax
 | none :: ks,e :: es=>e.ids ++ pU ks es
 | some _ :: ks,_ :: es=>pU ks es
 | [],e :: es=>e.ids ++ pU [] es
 | _,[]=>[]
def IZ:ai (ak (ax×ax))→ai cQ→(ai AV→ak AV)→ak AV
 | _,[],K=>K []
 | [],e :: es,K=>(pS ah e).bind fun v=>IZ [] es fun vs=>K (v :: vs)
 | o :: ks,e :: es,K=>(pS o e).bind fun v=>IZ ks es fun vs=>K (v :: vs)
def one?:ai AV→AV
 | [v]=>v
 | vs=>.tu vs
def finish (fn:Func) (st:St):ak AV :=
 let es:=fn.results.toList.map (jX C st)
 let ks:=C.own f
 bif (ks.all Option.isNone || Nat.beq ks.length es.length) && nodup (pT ks es) && (pT ks es).all (fun i=>!((pU ks es).any fun j=>Nat.beq i j)) then IZ ks es fun vs=>aa (one? vs) else ah
def tM (nt:ax) (sg:A4) (fn:Func) (st:St):ak AV :=
 let es:=fn.results.toList.map (jX C st)
 let site:=fun i=>nt+i
 bif (C.own f).isEmpty && (es.all cQ.told && (nodup (gw aj site st.mem 0 sg.outs) && (gw aj site st.mem 0 sg.outs).all (fun i=>!((es.flatMap cQ.ids ++ gw af site st.mem 0 sg.outs).any fun j=>Nat.beq i j)))) then
  (tL site st.mem 0 sg.outs).bind fun outs=>aa (.tu (one? (es.map cQ.cP) :: outs))
 else ah
def fin (fn:Func) (st:St):ak AV :=
 match C.sig f with
 | none=>finish C f fn st
 | some sg=>tM C f fn.ntmps sg fn st
def Kg (k:ai Item):ak (ai (ax×ak (ax×ax))×ai (ax×ai (ax×ax×ax))) :=
 match k with
 | .code (.region id _ _) :: _=>((C.stops f).find? fun p=>Nat.beq p.1 id).map (·.2)
 | _=>ah
def arr (go:ai Item→St→ak AV) (k:ai Item) (st:St):ak AV :=
 match Kg C f k with
 | some (l,s)=>go k (st.canon l s)
 | none=>go k st
def St.assume (st:St) (c:Operand) (x:ay):St:=match c with | .tmp t=>st.set t (.val (.b x)) | _=>st
noncomputable def step (fn:Func) (go:ai Item→St→ak AV) (k:ai Item) (st:St):ak AV :=
 match k with
 | []=>fin C f fn st
 | .inBlock _ :: k | .inScope _ :: k | .code .skip :: k | .code (.label _) :: k=>go k st
 | .inLoop c :: k | .code (.loop c) :: k=>go (.code c :: .inLoop c :: k) st
 | .code (.seq a b) :: k=>go (.code a :: .code b :: k) st
 | .code (.cond c a b) :: k=>a8 (st.get C c).cP (go (.code a :: k) (st.assume c aj)) (go (.code b :: k) (st.assume c af))
 | .code (.block id c) :: k=>go (.code c :: .inBlock id :: k) st
 | .code (.scope c) :: k=>go (.code c :: .inScope c :: k) st
 | .code (.exit id) :: k=>match exitTo id k with | some k'=>go k' st | none=>ah
 | .code (.goto l) :: k=>match gotoIn l k with | some k'=>go k' st | none=>ah
 | .code .ret :: _=>fin C f fn st
 | .code (.region id ops draw) :: k =>
  nj C call f id ops draw st fun st=>go k st
 | _=>ah
end code
def EH (args:ai AV):St:={ env:=fun t=>match args[t]? with | some v=>.val v | none=>.dead,mem:=fun _=>ah }
def GG (nt:ax) (sg:A4) (args:ai AV):St :=
 {env:=fun t=>match sg.ps[t]? with
   | some .v=>.val (args.getD t .un)
   | some (.obj i)=>.cell (.ptr (nt+i) 0)
   | some (.lr g os)=>.cell (.lr g (os.map fun i=>nt+i))
   | none=>.dead,
  mem:=fun s=>bif bL nt s then (match sg.objs[s - nt]? with
   | some o=>(match args[sg.ps.length+(s - nt)]? with
    | some (.ag l)=>aa (kI (fun i=>nt+i) s 0 o.2 l)
    | _=>ah)
   | none=>ah) else ah }
def rM (C:jT) (f nt:ax) (args:ai AV):St :=
 match C.sig f with
 | none=>EH args
 | some sg=>GG nt sg args
def nQ (l:ai ae) (c:ae):aB:=match l.findIdx? (· == c) with | some i=>i | none=>-1
def ext (name:String) (args:ai AV):ak AV :=
 match args with
 | [.s l,.u8 c]=>bif name == "internal/bytealg.IndexByteString" then aa (.int (nQ l c)) else ah
 | _=>ah
def rN (C:jT) (f nt n:ax):ay :=
 match C.sig f with
 | none=>bL n nt
 | some sg=>bL sg.ps.length nt && Nat.beq n (sg.ps.length+sg.objs.length)
noncomputable def both (C:jT) (P:bn):ax→(ax→ai AV→ak AV)×(ax→Func→ai Item→St→ak AV)
 | 0=>(fun _ _=>ah,fun _ _ _ _=>ah)
 | n+1 =>
  (fun f args=>match C.gv f with
   | some G=>bif (C.own f).all Option.isNone && (C.sig f).isNone then G args else ah
   | none=>match P.funcs[f]? with
    | some fn=>match fn.body with
     | some c=>bif rN C f fn.ntmps args.length then arr C f ((both C P n).2 f fn) [.code c] (rM C f fn.ntmps args) else ah
     | none=>bif (C.own f).all Option.isNone && (C.sig f).isNone then ext fn.name args else ah
    | none=>ah,
   fun f fn k st=>step C (both C P n).1 f fn (arr C f ((both C P n).2 f fn)) k st)
inductive Rel (w:az) (F:ax→Prop):AV→aC→Prop
 | un {v:aC} (h:v.oneCell'=aj):Rel w F .un v
 | b (x:ay):Rel w F (.b x) (.bool x)
 | u8 (x:ae):Rel w F (.u8 x) (.int .u8 (x.toNat:aB))
 | int (n:aB):Rel w F (.int n) (.int .i64 n)
 | ik (k:dP) (n:aB):Rel w F (.ik k n) (.int k n)
 | s (x:aL):Rel w F (.s x.data.toList) (.string x)
 | cd:Rel w F .cd (.slice ah 0 0)
 | zG (k:ax) (a:ak Addr) (c:ax):Rel w F (.ro k []) (.slice a 0 c)
 | ro (k:ax) (l:ai AV) (r off c:ax) (xs:ai aC) (hk:0 < k) (hc:l.length≤c) (hF:F r) (hl:xs.length=l.length * k)
   (hx:∀ j v,xs[j]?=aa v→w.cell? ⟨r,off+j,ah⟩=aa v) (h1:∀ v ∈ xs,v.oneCell'=aj)
   (hr:∀ i j v,i < l.length→j < k→xs[i * k+j]?=aa v→Rel w F ((l.getD i .un).cell j) v):Rel w F (.ro k l) (.slice (aa ⟨r,off,ah⟩) l.length c)
 | ag (l:ai AV) (vs:ai aC) (hl:l.length=vs.length) (h1:∀ v ∈ vs,v.oneCell'=aj) (hr:∀ j v,vs[j]?=aa v→Rel w F (l.getD j .un) v):Rel w F (.ag l) (.agg vs.toArray)
 | tu (l:ai AV) (vs:ai aC) (hl:l.length=vs.length) (hr:∀ j v,vs[j]?=aa v→Rel w F (l.getD j .un) v):Rel w F (.tu l) (.tuple vs.toArray)
 | fn (f:ax):Rel w F (.fn f) (.func (.func f) #[] #[])
 | xK:Rel w F .xK .nilFunc
 | kY:Rel w F .kY (.pointer ah)
 | pt (l:ai AV) (r:ax) (xs:ai aC) (h0:0 < l.length) (hF:F r) (hl:xs.length=l.length) (hx:∀ j v,xs[j]?=aa v→w.cell? ⟨r,j,ah⟩=aa v) (h1:∀ v ∈ xs,v.oneCell'=aj)
   (hr:∀ j v,xs[j]?=aa v→Rel w F (l.getD j .un) v):Rel w F (.pt l) (.pointer (aa ⟨r,0,ah⟩))
theorem cM {w:az} {a:Addr} {v:aC} (h:w.cell? a=aa v):a.block < w.heap.size:=World.block_lt_of_cell? w a h
theorem Rel.mono {w w':az} {F F':ax→Prop} (hw:∀ b,b < w.heap.size→F b→F' b∧w'.heap[b]?=w.heap[b]?) {a:AV} {v:aC} (h:Rel w F a v):Rel w' F' a v:=by
 induction h with
 | un h=>exact .un h
 | b x=>exact .b x
 | u8 x=>exact .u8 x
 | int n=>exact .int n
 | ik k n=>exact .ik k n
 | s x=>exact .s x
 | cd=>exact .cd
 | zG k a c=>exact .zG k a c
 | ro k l r off c xs hk hc hF hl hx h1 hr ih =>
  by_cases zD:r < w.heap.size
  ·obtain ⟨hF',hb⟩:=hw r zD hF
   refine .ro k l r off c xs hk hc hF' hl (fun j v hv=>?_) h1 ih
   rw [← hx j v hv]
   exact aD (w:=w) (a:=⟨r,off+j,ah⟩) hb
  ·have hx0:xs=[]:=by
    cases xs with
    | nil=>rfl
    | cons v vs=>exact absurd (cM (hx 0 v rfl)) zD
   subst hx0
   have vM:l.length * k=0:=by simpa using hl.symm
   have hl0:l=[]:=by
    rcases Nat.mul_eq_zero.1 vM with h | h
    ·exact List.eq_nil_of_length_eq_zero h
    ·omega
   subst hl0
   exact .zG k _ c
 | ag l vs hl h1 hr ih=>exact .ag l vs hl h1 ih
 | tu l vs hl hr ih=>exact .tu l vs hl ih
 | fn f=>exact .fn f
 | xK=>exact .xK
 | kY=>exact .kY
 | pt l r xs h0 hF hl hx h1 hr ih =>
  have zD:r < w.heap.size:=by
   cases xs with
   | nil=>simp at hl;omega
   | cons v vs=>exact cM (hx 0 v rfl)
  obtain ⟨hF',hb⟩:=hw r zD hF
  refine .pt l r xs h0 hF' hl (fun j v hv=>?_) h1 ih
  rw [← hx j v hv]
  exact aD (w:=w) (a:=⟨r,j,ah⟩) hb
def cY (w:az) (F:ax→Prop) (e k:ax) (l:ai AV) (x:aC):Prop :=
 0 < k∧∃ xs:ai aC,w.ownsRow 0 e k x l.length xs∧(∀ v ∈ xs,v.oneCell'=aj) ∧
  ∀ i j v,i < l.length→j < k→xs[i * k+j]?=aa v→Rel w F ((l.getD i .un).cell j) v
theorem cY.mono {w w':az} {F F':ax→Prop} (hw:∀ b,b < w.heap.size→F b→F' b∧w'.heap[b]?=w.heap[b]?) {e k:ax} {l:ai AV} {x:aC}
  (hb:∀ b,x.ownBlock=aa b→w'.heap[b]?=w.heap[b]?) (h:cY w F e k l x):cY w' F' e k l x:=by
 obtain ⟨hk,xs,⟨hl,h2⟩,h1,hr⟩:=h
 refine ⟨hk,xs,⟨hl,?_⟩,h1,fun i j v hi hj hv=>(hr i j v hi hj hv).mono hw⟩
 rcases h2 with h | ⟨g,cap,cur,rfl,hg0,hg,rest⟩
 ·exact .inl h
 ·exact .inr ⟨g,cap,cur,rfl,hg0,by rw [hb g rfl];exact hg,rest⟩
section inv
variable (w:az) (F:ax→Prop) (H:ax→ak aC) (σ:ax→ak ax)
def dr (c:Cell) (x:aC):Prop :=
 match c with
 | .dead=>x.oneCell'=aj
 | .val v=>x.oneCell'=aj∧Rel w F v x
 | .own i e k l=>H i=aa x∧cY w F e k l x
 | .ptr s off=>∃ r,σ s=aa r∧x=.pointer (aa ⟨r,off,ah⟩)
 | .lr g ss=>∃ rs:ai ax,rs.length=ss.length∧x=.func (.func g) #[] (rs.map fun r=>.pointer (aa ⟨r,0,ah⟩)).toArray∧∀ (j s r:ax),ss[j]?=aa s→rs[j]?=aa r→σ s=aa r
def Sg (r:AV) (ks:ai (ak (ak (ax×ax×ax)))) (x:aC):Prop :=
 ∃ vs:ai aC,x=.tuple vs.toArray∧vs.length=ks.length∧∀ (j:ax) (o:ak (ak (ax×ax×ax))) (v:aC),ks[j]?=aa o→vs[j]?=aa v →
  match o with
  | none=>True
  | some ah=>Rel w F (r.comp j) v
  | some (aa (i,e,k))=>H i=aa v∧cY w F e k (r.comp j).elems v
def fL (e:cQ) (x:aC):Prop :=
 match e with
 | .cell .dead=>True
 | .cell (.val v)=>Rel w F v x
 | .cell (.own i e k l)=>dr w F H σ (.own i e k l) x
 | .cell (.ptr s off)=>dr w F H σ (.ptr s off) x
 | .cell (.lr g ss)=>dr w F H σ (.lr g ss) x
 | .agg cs=>∃ vs:ai aC,x=.agg vs.toArray∧vs.length=cs.length∧∀ (j:ax) (c:Cell) (v:aC),cs[j]?=aa c→vs[j]?=aa v→dr w F H σ c v
 | .pK k e off=>∃ r o,x=.pointer (aa ⟨r,o+off,ah⟩)∧F r∧r < w.heap.size∧∀ j,j < k→∃ v,w.cell? ⟨r,o+j,ah⟩=aa v∧v.oneCell'=aj∧Rel w F (e.cell j) v
 | .nN i e k l n off=>∃ g m cap,H i=aa (.slice (aa ⟨g,0,ah⟩) m cap)∧cY w F e k l (.slice (aa ⟨g,0,ah⟩) m cap)∧n < l.length∧x=.pointer (aa ⟨g,n * k+off,ah⟩)
 | .uJ r ks=>Sg w F H r ks x
end inv
structure Fs where
 rd:ax→Prop
 mL:ax→Prop
 obj:ax→ak ax
def Fs.of (F:ax→Prop):Fs:=⟨F,fun _=>False,fun _=>ah⟩
structure Kh (F0:Fs) (w w':az):Prop where
 os:w'.os=w.os
 tape:w'.tape=w.tape
 output:w'.output=w.output
 size:w.heap.size≤w'.heap.size
 block:∀ k,k < w.heap.size→¬ F0.mL k→w'.heap[k]?=w.heap[k]?
def Fr (base:ax) (F0:Fs) (H:ax→ak aC) (σ:ax→ak ax) (b:ax):Prop :=
 (b < base→F0.rd b∨F0.mL b)∧(∀ i v,H i=aa v→v.ownBlock≠aa b)∧∀ s,σ s≠aa b
structure Inv (C:jT) (w0:az) (F0:Fs) (nt:ax) (st:St) (a:Act) (w:az) (H:ax→ak aC) (σ:ax→ak ax):Prop where
 defers:a.defers=[]
 size:a.tmps.size=nt
 env:∀ t,fL w (Fr w0.heap.size F0 H σ) H σ (st.env t) (a.tmps.getD t undef)
 mem:∀ s cs,st.mem s=aa cs→∃ (r:ax) (vs:ai aC) (e:ax),σ s=aa r∧w.heap[r]?=aa (.cells vs.toArray e (0,0))∧vs.length=cs.length ∧
  ∀ (j:ax) (c:Cell) (v:aC),cs[j]?=aa c→vs[j]?=aa v→dr w (Fr w0.heap.size F0 H σ) H σ c v
 hown:∀ i x g,H i=aa x→x.ownBlock=aa g→(w0.heap.size≤g∨F0.mL g)∧g < w.heap.size
 sown:∀ s r,σ s=aa r→(w0.heap.size≤r∨F0.mL r)∧r < w.heap.size
 obj:∀ s b,F0.obj s=aa b→nt≤s∧σ s=aa b
 hh:∀ i j x y g,i≠j→H i=aa x→H j=aa y→x.ownBlock=aa g→y.ownBlock≠aa g
 hs:∀ i s x r,H i=aa x→σ s=aa r→x.ownBlock≠aa r
 ss:∀ s s' r,s≠s'→σ s=aa r→σ s'≠aa r
 glob:∀ g k e,C.glob g=aa (k,e)→fL w (Fr w0.heap.size F0 H σ) H σ (.pK k e 0) (.pointer (aa ⟨g,0,ah⟩))
 below:Kh F0 w0 w
end Sx
namespace Sx
open Go Go.RowKit
def erase (H:ax→ak aC) (id:ax):ax→ak aC:=fun i=>if i=id then ah else H i
def upd (H:ax→ak aC) (d:ax) (x:aC):ax→ak aC:=fun i=>if i=d then aa x else H i
def tN (σ:ax→ak ax) (s r:ax):ax→ak ax:=fun i=>if i=s then aa r else σ i
theorem cH {α:Type} (a b:ax) (x y:α):(bif Nat.beq a b then x else y)=if a=b then x else y:=by
 by_cases h:a=b
 ·subst h;simp
 ·rw [aI h,Bool.eq_false_iff.2 (fun e=>h (aF e))];rfl
theorem cY.lt {w:az} {F:ax→Prop} {e k:ax} {l:ai AV} {x:aC} (h:cY w F e k l x) {g:ax} (hg:x.ownBlock=aa g):g < w.heap.size:=by
 obtain ⟨_,xs,h2,_⟩:=h
 exact (h2.lt g hg).2
theorem cY.rel {w:az} {F F':ax→Prop} {e k:ax} {l:ai AV} {x:aC} (h:cY w F e k l x)
  (hF:∀ b,b < w.heap.size→F b→F' b) (hg:∀ g,x.ownBlock=aa g→F' g):Rel w F' (.ro k l) x:=by
 obtain ⟨hk,xs,⟨hl,h2⟩,h1,hr⟩:=h
 rcases h2 with ⟨rfl,hn⟩ | ⟨g,cap,cur,rfl,hg0,EI,hc,hm,hs,tO⟩
 ·have:l=[]:=List.eq_nil_of_length_eq_zero hn
  subst this
  exact .zG k ah 0
 ·refine .ro k l g 0 cap xs hk hc (hg g rfl) hl (fun j v hv=>?_) h1 (fun i j v hi hj hv=>(hr i j v hi hj hv).mono fun b hb zH=>⟨hF b hb zH,rfl⟩)
  rw [Nat.zero_add,cell_of_row w g j cur e (0,0) EI]
  rw [← tO,bJ] at hv
  split at hv
  ·simpa using hv
  ·cases hv
section cells
variable {w w':az} {F F':ax→Prop} {H H':ax→ak aC} {σ σ':ax→ak ax}
theorem dr.mono (hw:∀ b,b < w.heap.size→F b→F' b∧w'.heap[b]?=w.heap[b]?) {c:Cell} {x:aC}
  (hH:∀ i y,H i=aa y→i ∈ c.ids→H' i=aa y∧∀ b,y.ownBlock=aa b→w'.heap[b]?=w.heap[b]?)
  (hσ:∀ s r,σ s=aa r→s ∈ c.sites→σ' s=aa r) (h:dr w F H σ c x):dr w' F' H' σ' c x:=by
 cases c with
 | dead=>exact h
 | val v=>exact ⟨h.1,h.2.mono hw⟩
 | own i e k l =>
  obtain ⟨hi,ho⟩:=h
  obtain ⟨h1,h2⟩:=hH i x hi (by simp [Cell.ids])
  exact ⟨h1,ho.mono hw h2⟩
 | ptr s off =>
  obtain ⟨r,hr,rfl⟩:=h
  exact ⟨r,hσ s r hr (by simp [Cell.sites]),rfl⟩
 | lr g ss =>
  obtain ⟨rs,hl,rfl,hr⟩:=h
  exact ⟨rs,hl,rfl,fun j s r h1 h2=>hσ s r (hr j s r h1 h2) (aV h1)⟩
theorem fL.mono (hw:∀ b,b < w.heap.size→F b→F' b∧w'.heap[b]?=w.heap[b]?) {e:cQ} {x:aC}
  (hH:∀ i y,H i=aa y→H' i=aa y∧∀ b,y.ownBlock=aa b→w'.heap[b]?=w.heap[b]?)
  (hσ:∀ s r,σ s=aa r→σ' s=aa r) (h:fL w F H σ e x):fL w' F' H' σ' e x:=by
 have hc:∀ (c:Cell) (y:aC),dr w F H σ c y→dr w' F' H' σ' c y:=fun c y hy =>
  dr.mono hw (fun i z hi _=>hH i z hi) (fun s r hs _=>hσ s r hs) hy
 cases e with
 | cell c=>cases c with
  | dead=>trivial
  | val v=>exact Rel.mono hw h
  | own i e k l=>exact hc (.own i e k l) x h
  | ptr s off=>exact hc (.ptr s off) x h
  | lr g ss=>exact hc (.lr g ss) x h
 | agg cs =>
  obtain ⟨vs,rfl,hl,hv⟩:=h
  exact ⟨vs,rfl,hl,fun j c v h1 h2=>hc c v (hv j c v h1 h2)⟩
 | pK k e off =>
  obtain ⟨r,o,rfl,hr,hlt,hj⟩:=h
  obtain ⟨A6,hb⟩:=hw r hlt hr
  have EJ:r < w'.heap.size:=by
   rcases Nat.lt_or_ge r w'.heap.size with h | h
   ·exact h
   ·rw [Array.getElem?_eq_none h,Array.getElem?_eq_getElem hlt] at hb;cases hb
  refine ⟨r,o,rfl,A6,EJ,fun j hj'=>?_⟩
  obtain ⟨v,h1,h2,h3⟩:=hj j hj'
  exact ⟨v,by rw [← h1];exact aD (w:=w) hb,h2,h3.mono hw⟩
 | nN i e k l n off =>
  obtain ⟨g,m,cap,h1,h2,h3,rfl⟩:=h
  obtain ⟨h4,h5⟩:=hH i _ h1
  exact ⟨g,m,cap,h4,h2.mono hw h5,h3,rfl⟩
 | uJ r ks =>
  obtain ⟨vs,rfl,hl,hv⟩:=h
  refine ⟨vs,rfl,hl,fun j o v h1 h2=>?_⟩
  have h3:=hv j o v h1 h2
  match o,h3 with
  | none,_=>trivial
  | some ah,h3=>exact Rel.mono hw h3
  | some (aa (i,e,k)),h3 =>
   obtain ⟨h4,h5⟩:=hH i v h3.1
   exact ⟨h4,h3.2.mono hw h5⟩
end cells
section inv
variable {C:jT} {w0:az} {F0:Fs} {nt:ax} {st:St} {a:Act} {w:az} {H:ax→ak aC} {σ:ax→ak ax}
theorem Ki {a:Act} {d:ax} {v:aC} (h:d < a.tmps.size) (t:ax):(a.put (aa d) v).tmps.getD t undef=if t=d then v else a.tmps.getD t undef:=by
 simp only [Act.put,Array.getD_eq_getD_getElem?]
 by_cases e:t=d
 ·subst e;simp [h]
 ·rw [Array.getElem?_setIfInBounds_ne (Ne.symm e)];simp [e]
theorem size_put (a:Act) (d:ak ax) (v:aC):(a.put d v).tmps.size=a.tmps.size:=by cases d <;> simp [Act.put]
theorem EL (a:Act) (d:ak ax) (v:aC):(a.put d v).defers=a.defers:=by cases d <;> rfl
theorem Inv.put (h:Inv C w0 F0 nt st a w H σ) {d:ak ax} {e:cQ} {v:aC} (hd:∀ t,d=aa t→t < nt) (he:fL w (Fr w0.heap.size F0 H σ) H σ e v) :
  Inv C w0 F0 nt (st.put d e) (a.put d v) w H σ:=by
 cases d with
 | none=>exact h
 | some t =>
  have ht:t < a.tmps.size:=by rw [h.size];exact hd t rfl
  refine { h with defers:=h.defers,size:=by rw [size_put];exact h.size,env:=fun x=>?_ }
  rw [Ki ht]
  simp only [St.put,St.set,cH]
  by_cases e:x=t
  ·rw [aJ e,aJ e];exact he
  ·rw [aI e,aI e];exact h.env x
theorem Inv.dead (h:Inv C w0 F0 nt st a w H σ) (t:ax):Inv C w0 F0 nt (st.set t .dead) a w H σ:=by
 refine { h with env:=fun x=>?_ }
 simp only [St.set,cH]
 by_cases e:x=t
 ·rw [aJ e];trivial
 ·rw [aI e];exact h.env x
theorem Inv.Kj (h:Inv C w0 F0 nt st a w H σ) {t:ax} {e:cQ} (he:fL w (Fr w0.heap.size F0 H σ) H σ e (a.tmps.getD t undef)):Inv C w0 F0 nt (st.set t e) a w H σ:=by
 refine { h with env:=fun x=>?_ }
 simp only [St.set,cH]
 by_cases e:x=t
 ·subst e;rw [aJ rfl];exact he
 ·rw [aI e];exact h.env x
theorem Fr.erase {base:ax} {b:ax} {id:ax} (h:Fr base F0 H σ b):Fr base F0 (Sx.erase H id) σ b :=
 ⟨h.1,fun i v hv=>h.2.1 i v (by unfold Sx.erase at hv;split at hv <;> first | (cases hv;done) | exact hv),h.2.2⟩
theorem cr {id i:ax} {x:aC} (h:Sx.erase H id i=aa x):i≠id∧H i=aa x:=by
 unfold Sx.erase at h;split at h
 ·cases h
 ·exact ⟨‹_›,h⟩
theorem pV {id i:ax} {x:aC} (h:H i=aa x) (hi:i≠id):Sx.erase H id i=aa x:=by
 unfold Sx.erase;rw [aI hi];exact h
theorem dr.drop {F F':ax→Prop} {id:ax} (g:Cell→Cell) (hg:∀ c,id ∉ c.ids→g c=c)
  (hF:∀ b,b < w.heap.size→F b→F' b) (hid:∀ e k l x,dr w F H σ (.own id e k l) x→dr w F' (Sx.erase H id) σ (g (.own id e k l)) x)
  {c:Cell} {x:aC} (h:dr w F H σ c x):dr w F' (Sx.erase H id) σ (g c) x:=by
 by_cases hi:id ∈ c.ids
 ·cases c with
  | own i e k l =>
   have:i=id:=by simpa [Cell.ids,eq_comm] using hi
   subst this
   exact hid e k l x h
  | _=>simp [Cell.ids] at hi
 ·rw [hg c hi]
  exact dr.mono (fun b hb zH=>⟨hF b hb zH,rfl⟩) (fun i y hy hi'=>⟨pV hy (fun e=>hi (e ▸ hi')),fun _ _=>rfl⟩) (fun s r hs _=>hs) h
theorem Cell.pW {id:ax} (c:Cell) (h:id ∉ c.ids):c.kl id=c:=by
 cases c with
 | own i e k l=>simp only [Cell.kl,cH];rw [aI];intro hh;subst hh;exact h (by simp [Cell.ids])
 | _=>rfl
theorem Cell.C7 {id:ax} (c:Cell) (h:id ∉ c.ids):c.fz id=c:=by
 cases c with
 | own i e k l=>simp only [Cell.fz,cH];rw [aI];intro hh;subst hh;exact h (by simp [Cell.ids])
 | _=>rfl
theorem Value.fX {x:aC} {w:az} {F:ax→Prop} {e k:ax} {l:ai AV} (h:cY w F e k l x):x.oneCell'=aj:=by
 obtain ⟨_,xs,⟨_,h2⟩,_⟩:=h
 rcases h2 with ⟨rfl,_⟩ | ⟨g,cap,cur,rfl,_⟩ <;> rfl
theorem Oh {ks:ai (ak (ak (ax×ax×ax)))} {id:ax} {r:AV} {x:aC} {F F':ax→Prop} {H':ax→ak aC} (hF:∀ b,b < w.heap.size→F b→F' b)
  (hH:∀ i y,i≠id→H i=aa y→H' i=aa y) (h:Sg w F H r ks x) :
  Sg w F' H' r (ks.map fun o=>match o with | some (aa (i,e,k))=>bif Nat.beq i id then ah else aa (aa (i,e,k)) | o=>o) x:=by
 obtain ⟨vs,rfl,hl,hv⟩:=h
 refine ⟨vs,rfl,by simpa using hl,fun j o v h1 h2=>?_⟩
 rw [aM] at h1
 cases ho:ks[j]? with
 | none=>rw [ho] at h1;cases h1
 | some o' =>
  rw [ho] at h1
  have h3:=hv j o' v ho h2
  simp only [aY,Option.some.injEq] at h1
  subst h1
  match o',h3 with
  | none,_=>trivial
  | some ah,h3=>exact Rel.mono (fun b hb zH=>⟨hF b hb zH,rfl⟩) h3
  | some (aa (i,e,k)),h3 =>
   simp only [cH]
   by_cases hi:i=id
   ·rw [aJ hi];trivial
   ·rw [aI hi]
    exact ⟨hH i v hi h3.1,h3.2.mono (fun b hb zH=>⟨hF b hb zH,rfl⟩) fun _ _=>rfl⟩
theorem Inv.C8 (h:Inv C w0 F0 nt st a w H σ) (id:ax) (f:cQ→cQ) (g:Cell→Cell)
  (hg:∀ c x,dr w (Fr w0.heap.size F0 H σ) H σ c x→dr w (Fr w0.heap.size F0 (Sx.erase H id) σ) (Sx.erase H id) σ (g c) x)
  (hf:∀ e x,fL w (Fr w0.heap.size F0 H σ) H σ e x→fL w (Fr w0.heap.size F0 (Sx.erase H id) σ) (Sx.erase H id) σ (f e) x) :
  Inv C w0 F0 nt (st.map f g) a w (Sx.erase H id) σ where
 defers:=h.defers
 size:=h.size
 env:=fun t=>hf _ _ (h.env t)
 mem:=fun s cs hcs=>by
  simp only [St.map,Option.map_eq_some_iff] at hcs
  obtain ⟨cs0,h0,rfl⟩:=hcs
  obtain ⟨r,vs,e,h1,h2,h3,h4⟩:=h.mem s cs0 h0
  refine ⟨r,vs,e,h1,h2,by simpa using h3,fun j c v hc hv=>?_⟩
  rw [aM] at hc
  cases hc0:cs0[j]? with
  | none=>rw [hc0] at hc;cases hc
  | some c0 =>
   rw [hc0] at hc
   simp only [aY,Option.some.injEq] at hc
   subst hc
   exact hg c0 v (h4 j c0 v hc0 hv)
 hown:=fun i x g hi hx=>h.hown i x g (cr hi).2 hx
 sown:=h.sown
 obj:=h.obj
 hh:=fun i j x y g zI hi hj hx=>h.hh i j x y g zI (cr hi).2 (cr hj).2 hx
 hs:=fun i s x r hi hs=>h.hs i s x r (cr hi).2 hs
 ss:=h.ss
 glob:=fun g k e hg=>by
  obtain ⟨r,o,h1,h2,h3,h4⟩:=h.glob g k e hg
  exact ⟨r,o,h1,h2.erase,h3,fun j hj=>by
   obtain ⟨v,a1,a2,a3⟩:=h4 j hj
   exact ⟨v,a1,a2,a3.mono fun b _ hb=>⟨hb.erase,rfl⟩⟩⟩
 below:=h.below
theorem sr (id:ax) {F F':ax→Prop} (hF:∀ b,b < w.heap.size→F b→F' b) (e:cQ) (x:aC) (h:fL w F H σ e x):fL w F' (Sx.erase H id) σ (e.kl id) x:=by
 have hc:∀ c y,dr w F H σ c y→dr w F' (Sx.erase H id) σ (c.kl id) y:=fun c y hy =>
  dr.drop (Cell.kl id) (fun c hc=>Cell.pW c hc) hF (fun e k l x hx=>by simp only [Cell.kl,cH,aO];exact Value.fX hx.2) hy
 have hm:∀ {e:cQ},id ∉ (match e with | .nN i .. => [i] | _=>([]:ai ax))→fL w F H σ e x→(∀ c,e≠.cell c)→(∀ cs,e≠.agg cs)→(∀ r ks,e≠.uJ r ks)→fL w F' (Sx.erase H id) σ e x:=by
  intro e hi he h1 h2 h3
  cases e with
  | cell c=>exact absurd rfl (h1 c)
  | agg cs=>exact absurd rfl (h2 cs)
  | uJ r ks=>exact absurd rfl (h3 r ks)
  | pK k e off =>
   obtain ⟨r,o,a1,a2,a3,a4⟩:=he
   exact ⟨r,o,a1,hF r a3 a2,a3,fun j hj=>by
    obtain ⟨v,b1,b2,b3⟩:=a4 j hj
    exact ⟨v,b1,b2,b3.mono fun b hb zH=>⟨hF b hb zH,rfl⟩⟩⟩
  | nN i e k l n off =>
   obtain ⟨g,m,cap,a1,a2,a3,rfl⟩:=he
   exact ⟨g,m,cap,pV a1 (fun e=>hi (by simp [e])),a2.mono (fun b hb zH=>⟨hF b hb zH,rfl⟩) (fun _ _=>rfl),a3,rfl⟩
 cases e with
 | cell c=>cases c with
  | dead=>trivial
  | val v=>exact Rel.mono (fun b hb zH=>⟨hF b hb zH,rfl⟩) h
  | own i e k l =>
   have:=hc (.own i e k l) x h
   simp only [cQ.kl,Cell.kl,cH] at this ⊢
   split
   ·trivial
   ·rename_i hi;rw [aI hi] at this;exact this
  | ptr s off=>exact h
  | lr g ss=>exact h
 | agg cs =>
  obtain ⟨vs,rfl,hl,hv⟩:=h
  refine ⟨vs,rfl,by simpa using hl,fun j c v h1 h2=>?_⟩
  rw [aM] at h1
  cases hc0:cs[j]? with
  | none=>rw [hc0] at h1;cases h1
  | some c0 =>
   rw [hc0] at h1
   simp only [aY,Option.some.injEq] at h1
   subst h1
   exact hc c0 v (hv j c0 v hc0 h2)
 | pK k e off=>exact hm (e:=.pK k e off) (by simp) h (by simp) (by simp) (by simp)
 | nN i e k l n off =>
  simp only [cQ.kl,cH]
  split
  ·trivial
  ·rename_i hi;exact hm (e:=.nN i e k l n off) (by simpa [eq_comm] using hi) h (by simp) (by simp) (by simp)
 | uJ r ks=>exact Oh hF (fun i y hi hy=>pV hy hi) h
theorem Inv.kl (h:Inv C w0 F0 nt st a w H σ) (id:ax):Inv C w0 F0 nt (st.kl id) a w (Sx.erase H id) σ :=
 h.C8 id (cQ.kl id) (Cell.kl id)
  (fun _ _ hc=>dr.drop (Cell.kl id) (fun c hc=>Cell.pW c hc) (fun _ _ hb=>hb.erase) (fun e k l x hx=>by simp only [Cell.kl,cH,aO];exact Value.fX hx.2) hc)
  (fun e x he=>sr id (fun _ _ hb=>hb.erase) e x he)
theorem Kk (id:ax) {F F':ax→Prop} (hF:∀ b,b < w.heap.size→F b→F' b) (hid:∀ x g,H id=aa x→x.ownBlock=aa g→F' g) (e:cQ) (x:aC) (h:fL w F H σ e x) :
  fL w F' (Sx.erase H id) σ (e.fz id) x:=by
 have hc:∀ c y,dr w F H σ c y→dr w F' (Sx.erase H id) σ (c.fz id) y:=fun c y hy =>
  dr.drop (Cell.fz id) (fun c hc=>Cell.C7 c hc) hF (fun e k l x hx=>by
   simp only [Cell.fz,cH,aO]
   exact ⟨Value.fX hx.2,hx.2.rel hF fun g hg=>hid x g hx.1 hg⟩) hy
 cases e with
 | cell c=>cases c with
  | dead=>trivial
  | val v=>exact Rel.mono (fun b hb zH=>⟨hF b hb zH,rfl⟩) h
  | own i e k l =>
   have:=hc (.own i e k l) x h
   simp only [cQ.fz,Cell.fz,cH] at this ⊢
   split
   ·rename_i hi;rw [aJ hi] at this;exact this.2
   ·rename_i hi;rw [aI hi] at this;exact this
  | ptr s off=>exact h
  | lr g ss=>exact h
 | agg cs =>
  obtain ⟨vs,rfl,hl,hv⟩:=h
  refine ⟨vs,rfl,by simpa using hl,fun j c v h1 h2=>?_⟩
  rw [aM] at h1
  cases hc0:cs[j]? with
  | none=>rw [hc0] at h1;cases h1
  | some c0 =>
   rw [hc0] at h1
   simp only [aY,Option.some.injEq] at h1
   subst h1
   exact hc c0 v (hv j c0 v hc0 h2)
 | pK k e off=>exact sr id hF (.pK k e off) x h
 | nN i e k l n off=>exact sr id hF (.nN i e k l n off) x h
 | uJ r ks=>exact sr id hF (.uJ r ks) x h
theorem Fr.QU {base:ax} {id:ax} {g:ax} (hd:∀ i y,i≠id→H i=aa y→y.ownBlock≠aa g) (hs:∀ s,σ s≠aa g) (hb:base≤g∨F0.mL g):Fr base F0 (Sx.erase H id) σ g :=
 ⟨fun h=>.inr (hb.resolve_left (by omega)),fun i v hv=>by obtain ⟨h1,h2⟩:=cr hv;exact hd i v h1 h2,hs⟩
theorem Inv.fz (h:Inv C w0 F0 nt st a w H σ) (id:ax):Inv C w0 F0 nt (st.fz id) a w (Sx.erase H id) σ:=by
 have hid:∀ x g,H id=aa x→x.ownBlock=aa g→Fr w0.heap.size F0 (Sx.erase H id) σ g:=fun x g hx hg =>
  Fr.QU (fun i y hi hy Zy=>h.hh i id y x g hi hy hx Zy hg) (fun s hs=>h.hs id s x g hx hs hg) (h.hown id x g hx hg).1
 exact h.C8 id (cQ.fz id) (Cell.fz id)
  (fun _ _ hc=>dr.drop (Cell.fz id) (fun c hc=>Cell.C7 c hc) (fun _ _ hb=>hb.erase) (fun e k l x hx=>by
   simp only [Cell.fz,cH,aO]
   exact ⟨Value.fX hx.2,hx.2.rel (fun _ _ hb=>hb.erase) fun g hg=>hid x g hx.1 hg⟩) hc)
  (fun e x he=>Kk id (fun _ _ hb=>hb.erase) hid e x he)
theorem Inv.oQ (h:Inv C w0 F0 nt st a w H σ) (ids:ai ax):∃ H',Inv C w0 F0 nt (st.oQ ids) a w H' σ∧(∀ i x,H' i=aa x→H i=aa x)∧∀ i x,i ∉ ids→H i=aa x→H' i=aa x:=by
 induction ids generalizing st H with
 | nil=>exact ⟨H,h,fun _ _ hx=>hx,fun _ _ _ hx=>hx⟩
 | cons i r ih =>
  obtain ⟨H',h',h1,h2⟩:=ih (h.fz i)
  refine ⟨H',h',fun j x hj=>(cr (h1 j x hj)).2,fun j x hj hx=>?_⟩
  exact h2 j x (fun hm=>hj (List.mem_cons_of_mem _ hm)) (pV hx fun e=>hj (e ▸ List.mem_cons_self ..))
structure Ext (w w':az):Prop where
 os:w'.os=w.os
 tape:w'.tape=w.tape
 output:w'.output=w.output
 size:w.heap.size≤w'.heap.size
 block:∀ b,b < w.heap.size→w'.heap[b]?=w.heap[b]?
theorem Ext.refl (w:az):Ext w w:=⟨rfl,rfl,rfl,Nat.le_refl _,fun _ _=>rfl⟩
theorem Ext.trans {a b c:az} (h:Ext a b) (k:Ext b c):Ext a c :=
 ⟨k.os.trans h.os,k.tape.trans h.tape,k.output.trans h.output,Nat.le_trans h.size k.size,fun i hi=>(k.block i (aZ hi h.size)).trans (h.block i hi)⟩
theorem Ext.Sh {F0:Fs} {w w':az} (h:Kh F0 w w') (hl:∀ b,¬ F0.mL b):Ext w w':=⟨h.os,h.tape,h.output,h.size,fun b hb=>h.block b hb (hl b)⟩
theorem Kh.refl (F0:Fs) (w:az):Kh F0 w w:=⟨rfl,rfl,rfl,Nat.le_refl _,fun _ _ _=>rfl⟩
theorem Ext.Ve {F0:Fs} {w0 w w':az} (h:Ext w w') (hb:Kh F0 w0 w):Kh F0 w0 w' :=
 ⟨h.os.trans hb.os,h.tape.trans hb.tape,h.output.trans hb.output,Nat.le_trans hb.size h.size,fun i hi hn=>(h.block i (aZ hi hb.size)).trans (hb.block i hi hn)⟩
theorem Ext.push (w:az) (o:Obj):Ext w { w with heap:=w.heap.push o } :=
 ⟨rfl,rfl,rfl,by simp,fun b hb=>by rw [Array.getElem?_push,aI (by omega)]⟩
theorem Ext.drew (w:az) (n:ax):Ext w { w with drawn:=n }:=⟨rfl,rfl,rfl,Nat.le_refl _,fun _ _=>rfl⟩
theorem Inv.ext (h:Inv C w0 F0 nt st a w H σ) {w':az} (hw:Ext w w'):Inv C w0 F0 nt st a w' H σ:=by
 have hF:∀ b,b < w.heap.size→Fr w0.heap.size F0 H σ b→Fr w0.heap.size F0 H σ b∧w'.heap[b]?=w.heap[b]?:=fun b hb hf=>⟨hf,hw.block b hb⟩
 have hH:∀ i y,H i=aa y→H i=aa y∧∀ b,y.ownBlock=aa b→w'.heap[b]?=w.heap[b]?:=fun i y hi=>⟨hi,fun b hb=>hw.block b (h.hown i y b hi hb).2⟩
 refine { h with env:=fun t=>(h.env t).mono hF hH fun _ _ hs=>hs,mem:=fun s cs hcs=>?_,hown:=fun i x g hi hx=>?_,sown:=fun s r hs=>?_,glob:=fun g k e hg=>?_,below:=hw.Ve h.below }
 ·obtain ⟨r,vs,e,h1,h2,h3,h4⟩:=h.mem s cs hcs
  exact ⟨r,vs,e,h1,by rw [hw.block r (h.sown s r h1).2];exact h2,h3,fun j c v hc hv=>(h4 j c v hc hv).mono hF (fun i y hi _=>hH i y hi) fun _ _ hs _=>hs⟩
 ·obtain ⟨h1,h2⟩:=h.hown i x g hi hx;exact ⟨h1,aZ h2 hw.size⟩
 ·obtain ⟨h1,h2⟩:=h.sown s r hs;exact ⟨h1,aZ h2 hw.size⟩
 ·exact (h.glob g k e hg).mono hF hH fun _ _ hs=>hs
theorem kA {d i:ax} {x y:aC} (h:upd H d x i=aa y):(i=d∧y=x)∨(i≠d∧H i=aa y):=by
 unfold upd at h;split at h
 ·exact .inl ⟨‹_›,(Option.some.inj h).symm⟩
 ·exact .inr ⟨‹_›,h⟩
theorem Inv.uN (h:Inv C w0 F0 nt st a w H σ) (id0 d:ax) (row:ak ax) {w':az} {x:aC} (Si:w'.os=w.os) (C9:w'.tape=w.tape) (hout:w'.output=w.output) (hsz:w.heap.size≤w'.heap.size)
  (hblk:∀ b,b < w.heap.size→aa b≠row→w'.heap[b]?=w.heap[b]?) (hrow:∀ g,row=aa g→∃ y,H id0=aa y∧y.ownBlock=aa g)
  (hx:∀ g,x.ownBlock=aa g→(row=aa g∨w.heap.size≤g)∧g < w'.heap.size) :
  Inv C w0 F0 nt ((st.kl id0).kl d) a w' (upd (Sx.erase (Sx.erase H id0) d) d x) σ:=by
 have h2:=(h.kl id0).kl d
 have hF:∀ b,b < w.heap.size→Fr w0.heap.size F0 H σ b→Fr w0.heap.size F0 (upd (Sx.erase (Sx.erase H id0) d) d x) σ b∧w'.heap[b]?=w.heap[b]?:=by
  intro b hb hf
  have hbr:aa b≠row:=by
   intro e
   obtain ⟨y,hy,NS⟩:=hrow b e.symm
   exact hf.2.1 id0 y hy NS
  refine ⟨⟨hf.1,fun i v hv=>?_,hf.2.2⟩,hblk b hb hbr⟩
  rcases kA hv with ⟨_,rfl⟩ | ⟨_,hv⟩
  ·intro e
   rcases (hx b e).1 with h | h
   ·exact hbr h.symm
   ·omega
  ·exact hf.2.1 i v (cr (cr hv).2).2
 have hH:∀ i y,Sx.erase (Sx.erase H id0) d i=aa y→upd (Sx.erase (Sx.erase H id0) d) d x i=aa y∧∀ b,y.ownBlock=aa b→w'.heap[b]?=w.heap[b]?:=by
  intro i y hi
  obtain ⟨h3,h4⟩:=cr hi
  obtain ⟨h5,h6⟩:=cr h4
  refine ⟨by unfold upd;rw [aI h3];exact hi,fun b hb=>hblk b (h.hown i y b h6 hb).2 fun e=>?_⟩
  obtain ⟨z,hz,hzb⟩:=hrow b e.symm
  exact h.hh i id0 y z b h5 h6 hz hb hzb
 have hsb:∀ s r,σ s=aa r→w'.heap[r]?=w.heap[r]?:=fun s r hs=>hblk r (h.sown s r hs).2 fun e=>by
  obtain ⟨z,hz,hzb⟩:=hrow r e.symm
  exact h.hs id0 s z r hz hs hzb
 have h1F:∀ b,b < w.heap.size→Fr w0.heap.size F0 (Sx.erase (Sx.erase H id0) d) σ b→Fr w0.heap.size F0 (Sx.erase (Sx.erase H id0) d) σ b:=fun _ _ h=>h
 have base:=h.below
 have Sj:Kh F0 w0 w':=by
  refine ⟨Si.trans base.os,C9.trans base.tape,hout.trans base.output,Nat.le_trans base.size hsz,fun k hk vN=>?_⟩
  rw [hblk k (aZ hk base.size) (fun e=>?_)]
  ·exact base.block k hk vN
  ·obtain ⟨z,hz,hzb⟩:=hrow k e.symm
   rcases (h.hown id0 z k hz hzb).1 with h5 | h5
   ·omega
   ·exact vN h5
 have keep:∀ e y,fL w (Fr w0.heap.size F0 H σ) H σ e y→fL w' (Fr w0.heap.size F0 (upd (Sx.erase (Sx.erase H id0) d) d x) σ) (upd (Sx.erase (Sx.erase H id0) d) d x) σ ((e.kl id0).kl d) y:=by
  intro e y he
  have h3:=sr (w:=w) (σ:=σ) (F:=Fr w0.heap.size F0 H σ) (F':=Fr w0.heap.size F0 H σ) id0 (fun _ _ hb=>hb) e y he
  have h4:=sr (w:=w) (σ:=σ) (F:=Fr w0.heap.size F0 H σ) (F':=Fr w0.heap.size F0 H σ) d (fun _ _ hb=>hb) _ y h3
  exact h4.mono hF hH fun _ _ hs=>hs
 have rO:∀ c y,dr w (Fr w0.heap.size F0 H σ) H σ c y→dr w' (Fr w0.heap.size F0 (upd (Sx.erase (Sx.erase H id0) d) d x) σ) (upd (Sx.erase (Sx.erase H id0) d) d x) σ ((c.kl id0).kl d) y:=by
  intro c y hc
  have h3:=dr.drop (w:=w) (σ:=σ) (F:=Fr w0.heap.size F0 H σ) (F':=Fr w0.heap.size F0 H σ) (id:=id0) (Cell.kl id0) (fun c hc=>Cell.pW c hc) (fun _ _ hb=>hb) (fun e k l x hx=>by simp only [Cell.kl,cH,aO];exact Value.fX hx.2) hc
  have h4:=dr.drop (w:=w) (σ:=σ) (F:=Fr w0.heap.size F0 H σ) (F':=Fr w0.heap.size F0 H σ) (id:=d) (Cell.kl d) (fun c hc=>Cell.pW c hc) (fun _ _ hb=>hb) (fun e k l x hx=>by simp only [Cell.kl,cH,aO];exact Value.fX hx.2) h3
  exact h4.mono hF (fun i y hi _=>hH i y hi) fun _ _ hs _=>hs
 exact {
  defers:=h.defers
  size:=h.size
  env:=fun t=>keep _ _ (h.env t)
  mem:=fun s cs hcs=>by
   simp only [St.kl,St.map,Option.map_eq_some_iff] at hcs
   obtain ⟨cs1,⟨cs0,h0,rfl⟩,rfl⟩:=hcs
   obtain ⟨r,vs,e,a1,a2,a3,a4⟩:=h.mem s cs0 h0
   refine ⟨r,vs,e,a1,by rw [hsb s r a1];exact a2,by simpa using a3,fun j c v hc hv=>?_⟩
   rw [aM,aM] at hc
   cases hc0:cs0[j]? with
   | none=>rw [hc0] at hc;cases hc
   | some c0 =>
    rw [hc0] at hc
    simp only [aY,Option.some.injEq] at hc
    subst hc
    exact rO c0 v (a4 j c0 v hc0 hv)
  hown:=fun i y g hi hy=>by
   rcases kA hi with ⟨_,rfl⟩ | ⟨_,hi⟩
   ·obtain ⟨b1,b2⟩:=hx g hy
    refine ⟨?_,b2⟩
    rcases b1 with b1 | b1
    ·obtain ⟨z,hz,hzb⟩:=hrow g b1
     exact (h.hown id0 z g hz hzb).1
    ·exact .inl (Nat.le_trans base.size b1)
   ·obtain ⟨b1,b2⟩:=h.hown i y g (cr (cr hi).2).2 hy
    exact ⟨b1,aZ b2 hsz⟩
  sown:=fun s r hs=>by
   obtain ⟨b1,b2⟩:=h.sown s r hs
   exact ⟨b1,aZ b2 hsz⟩
  obj:=h.obj
  hh:=fun i j y z g zI hi hj hy hz=>by
   have other:∀ i y,Sx.erase (Sx.erase H id0) d i=aa y→y.ownBlock=aa g→x.ownBlock=aa g→False:=by
    intro i y hi hy hxg
    obtain ⟨b3,b4⟩:=cr (cr hi).2
    rcases (hx g hxg).1 with b1 | b1
    ·obtain ⟨u,hu,Zz⟩:=hrow g b1
     exact h.hh i id0 y u g b3 b4 hu hy Zz
    ·have:=(h.hown i y g b4 hy).2;omega
   rcases kA hi with ⟨ei,ey⟩ | ⟨_,hi'⟩
   ·rcases kA hj with ⟨ej,_⟩ | ⟨_,hj'⟩
    ·exact zI (ei.trans ej.symm)
    ·exact other j z hj' hz (ey ▸ hy)
   ·rcases kA hj with ⟨_,ez⟩ | ⟨_,hj'⟩
    ·exact other i y hi' hy (ez ▸ hz)
    ·exact h.hh i j y z g zI (cr (cr hi').2).2 (cr (cr hj').2).2 hy hz
  hs:=fun i s y r hi hs hy=>by
   rcases kA hi with ⟨_,rfl⟩ | ⟨_,hi⟩
   ·rcases (hx r hy).1 with b1 | b1
    ·obtain ⟨u,hu,Zz⟩:=hrow r b1
     exact h.hs id0 s u r hu hs Zz
    ·have:=(h.sown s r hs).2;omega
   ·exact h.hs i s y r (cr (cr hi).2).2 hs hy
  ss:=h.ss
  glob:=fun g k e hg=>by
   have:=keep _ _ (h.glob g k e hg)
   exact this
  below:=Sj }
theorem zW (st:St) (d:ax):(st.kl d).kl d=st.kl d:=by
 have hc:∀ c:Cell,(c.kl d).kl d=c.kl d:=fun c=>by
  cases c with
  | own i e k l=>by_cases hi:i=d <;> simp [Cell.kl,cH,hi]
  | _=>rfl
 have he:∀ e:cQ,(e.kl d).kl d=e.kl d:=fun e=>by
  cases e with
  | cell c=>simp [cQ.kl,hc]
  | agg cs=>simp [cQ.kl,hc]
  | pK k e off=>rfl
  | nN i e k l n off=>by_cases hi:i=d <;> simp [cQ.kl,cH,hi,Cell.kl]
  | uJ r ks =>
   simp only [cQ.kl,fe]
   congr 1
   apply jr
   intro o _
   simp only [Function.comp,cH]
   cases o with
   | none=>rfl
   | some o=>cases o with
    | none=>rfl
    | some p=>obtain ⟨i,e,k⟩:=p;by_cases hi:i=d <;> simp [hi]
 unfold St.kl St.map
 simp only [he,Option.map_map,iP,fe,hc]
theorem Inv.jW (h:Inv C w0 F0 nt st a w H σ) {w':az} (hw:Ext w w') (d:ax) (hd:d < nt) {e k:ax} {l:ai AV} {x:aC}
  (hx:∀ g,x.ownBlock=aa g→w.heap.size≤g∧g < w'.heap.size)
  (ho:∀ F:ax→Prop,(∀ b,b < w.heap.size→Fr w0.heap.size F0 H σ b→F b)→cY w' F e k l x) :
  ∃ H',Inv C w0 F0 nt (Sx.jW st d e k l) (a.put (aa d) x) w' H' σ:=by
 have h1:=(h.kl d).uN d d ah (x:=x) hw.os hw.tape hw.output hw.size (fun b hb _=>hw.block b hb) (fun _ h=>by cases h) (fun g hg=>⟨.inr (hx g hg).1,(hx g hg).2⟩)
 have tF:((st.kl d).kl d).kl d=st.kl d:=by rw [zW,zW]
 rw [tF] at h1
 refine ⟨_,h1.put (d:=aa d) (fun t ht=>by cases ht;exact hd) ⟨by unfold upd;simp,ho _ fun b hb hf=>?_⟩⟩
 refine ⟨hf.1,fun i v hv=>?_,hf.2.2⟩
 rcases kA hv with ⟨_,rfl⟩ | ⟨_,hv⟩
 ·intro e;have:=(hx b e).1;omega
 ·exact hf.2.1 i v (cr (cr (cr hv).2).2).2
theorem mY {s i r y:ax} (h:tN σ s r i=aa y):(i=s∧y=r)∨(i≠s∧σ i=aa y):=by
 unfold tN at h;split at h
 ·exact .inl ⟨‹_›,(Option.some.inj h).symm⟩
 ·exact .inr ⟨‹_›,h⟩
theorem Inv.newVar (h:Inv C w0 F0 nt st a w H σ) (d:ax) (hd:d < nt) {cs:ai Cell} {vs:ai aC} (e:ax) (hl:vs.length=cs.length)
  (hc:∀ (j:ax) (c:Cell) (v:aC),cs[j]?=aa c→vs[j]?=aa v→dr w (Fr w0.heap.size F0 H σ) H σ c v) :
  ∃ σ',Inv C w0 F0 nt (Sx.newVar st d cs) (a.put (aa d) (.pointer (aa ⟨w.heap.size,0,ah⟩))) { w with heap:=w.heap.push (.cells vs.toArray e) } H σ'∧∀ s,s≠d→σ' s=σ s:=by
 let w':az:={ w with heap:=w.heap.push (.cells vs.toArray e) }
 have hw:Ext w w':=Ext.push w _
 have hF:∀ b,b < w.heap.size→Fr w0.heap.size F0 H σ b→Fr w0.heap.size F0 H (tN σ d w.heap.size) b∧w'.heap[b]?=w.heap[b]?:=by
  intro b hb hf
  refine ⟨⟨hf.1,hf.2.1,fun s hs=>?_⟩,hw.block b hb⟩
  rcases mY hs with ⟨_,rfl⟩ | ⟨_,hs⟩
  ·omega
  ·exact hf.2.2 s hs
 have hH:∀ i y,H i=aa y→H i=aa y∧∀ b,y.ownBlock=aa b→w'.heap[b]?=w.heap[b]?:=fun i y hi=>⟨hi,fun b hb=>hw.block b (h.hown i y b hi hb).2⟩
 have hσ:∀ s r,s≠d→σ s=aa r→tN σ d w.heap.size s=aa r:=fun s r hs h=>by unfold tN;rw [aI hs];exact h
 have rO:∀ c y,dr w (Fr w0.heap.size F0 H σ) H σ c y→dr w' (Fr w0.heap.size F0 H (tN σ d w.heap.size)) H (tN σ d w.heap.size) (c.ks d) y:=by
  intro c y hy
  by_cases hp:d ∈ c.sites
  ·cases c with
   | ptr s o =>
    have:d=s:=by simpa [Cell.sites] using hp
    subst this
    obtain ⟨r,_,rfl⟩:=hy
    simp only [Cell.ks,cH,aO]
    rfl
   | lr g ss =>
    have hp:d ∈ ss:=hp
    obtain ⟨rs,_,rfl,_⟩:=hy
    have:ss.any (Nat.beq d)=aj:=List.any_eq_true.2 ⟨d,hp,Nat.beq_refl d⟩
    simp only [Cell.ks,this,aN]
    rfl
   | _=>simp [Cell.sites] at hp
  ·have:c.ks d=c:=by
    cases c with
    | ptr s o=>simp only [Cell.ks,cH];rw [aI];intro e;subst e;exact hp (by simp [Cell.sites])
    | lr g ss =>
     have:ss.any (Nat.beq d)=af:=by
      rw [List.any_eq_false]
      intro x hx e
      have:=aF e
      exact hp (by rw [this];exact hx)
     simp only [Cell.ks,this,bB]
    | _=>rfl
   rw [this]
   exact hy.mono hF (fun i y hi _=>hH i y hi) fun s r hs ho=>hσ s r (fun e=>hp (e ▸ ho)) hs
 have keep:∀ e y,fL w (Fr w0.heap.size F0 H σ) H σ e y→fL w' (Fr w0.heap.size F0 H (tN σ d w.heap.size)) H (tN σ d w.heap.size) (e.ks d) y:=by
  intro e y he
  cases e with
  | cell c=>cases c with
   | dead=>trivial
   | val v=>exact Rel.mono hF he
   | own i e k l=>exact rO (.own i e k l) y he
   | ptr s off =>
    have:=rO (.ptr s off) y he
    simp only [cQ.ks,Cell.ks,cH] at this ⊢
    split
    ·trivial
    ·rename_i hs;rw [aI hs] at this;exact this
   | lr g ss =>
    have:=rO (.lr g ss) y he
    simp only [cQ.ks,Cell.ks] at this ⊢
    cases hb:ss.any (Nat.beq d) with
    | true=>trivial
    | false=>rw [hb] at this;exact this
  | agg cs =>
   obtain ⟨vs,rfl,hl,hv⟩:=he
   refine ⟨vs,rfl,by simpa using hl,fun j c v h1 h2=>?_⟩
   rw [aM] at h1
   cases hc0:cs[j]? with
   | none=>rw [hc0] at h1;cases h1
   | some c0 =>
    rw [hc0] at h1
    simp only [aY,Option.some.injEq] at h1
    subst h1
    exact rO c0 v (hv j c0 v hc0 h2)
  | pK k e off =>
   obtain ⟨r,o,a1,a2,a3,a4⟩:=he
   obtain ⟨b1,b2⟩:=hF r a3 a2
   refine ⟨r,o,a1,b1,aZ a3 hw.size,fun j hj=>?_⟩
   obtain ⟨v,c1,c2,c3⟩:=a4 j hj
   exact ⟨v,by rw [← c1];exact aD (w:=w) b2,c2,c3.mono hF⟩
  | nN i e k l n off =>
   obtain ⟨g,m,cap,a1,a2,a3,rfl⟩:=he
   exact ⟨g,m,cap,a1,a2.mono hF (hH i _ a1).2,a3,rfl⟩
  | uJ r ks =>
   obtain ⟨vs,rfl,hl,hv⟩:=he
   refine ⟨vs,rfl,hl,fun j o v h1 h2=>?_⟩
   have h3:=hv j o v h1 h2
   match o,h3 with
   | none,_=>trivial
   | some ah,h3=>exact Rel.mono hF h3
   | some (aa (i,e,k)),h3=>exact ⟨h3.1,h3.2.mono hF (hH i v h3.1).2⟩
 refine ⟨tN σ d w.heap.size,?_⟩
 have base:Inv C w0 F0 nt ((st.ks d).kU d (cs.map (Cell.ks d))) a w' H (tN σ d w.heap.size):={
  defers:=h.defers
  size:=h.size
  env:=fun t=>keep _ _ (h.env t)
  mem:=fun s ks I0=>by
   simp only [St.kU,cH] at I0
   split at I0
   ·rename_i hs
    subst hs
    cases I0
    refine ⟨w.heap.size,vs,e,by unfold tN;simp,by simp [w'],by simpa using hl,fun j c v h1 h2=>?_⟩
    rw [aM] at h1
    cases hc0:cs[j]? with
    | none=>rw [hc0] at h1;cases h1
    | some c0 =>
     rw [hc0] at h1
     simp only [aY,Option.some.injEq] at h1
     subst h1
     exact rO c0 v (hc j c0 v hc0 h2)
   ·rename_i hs
    simp only [St.ks,St.map,Option.map_eq_some_iff] at I0
    obtain ⟨cs0,h0,rfl⟩:=I0
    obtain ⟨r,us,e,a1,a2,a3,a4⟩:=h.mem s cs0 h0
    refine ⟨r,us,e,hσ s r hs a1,by rw [hw.block r (h.sown s r a1).2];exact a2,by simpa using a3,fun j c v h1 h2=>?_⟩
    rw [aM] at h1
    cases hc0:cs0[j]? with
    | none=>rw [hc0] at h1;cases h1
    | some c0 =>
     rw [hc0] at h1
     simp only [aY,Option.some.injEq] at h1
     subst h1
     exact rO c0 v (a4 j c0 v hc0 h2)
  hown:=fun i x g hi hx=>by
   obtain ⟨b1,b2⟩:=h.hown i x g hi hx
   exact ⟨b1,aZ b2 hw.size⟩
  sown:=fun s r hs=>by
   rcases mY hs with ⟨_,rfl⟩ | ⟨_,hs⟩
   ·exact ⟨.inl h.below.size,by simp [w']⟩
   ·obtain ⟨b1,b2⟩:=h.sown s r hs
    exact ⟨b1,aZ b2 hw.size⟩
  obj:=fun s b hb=>by
   obtain ⟨b1,b2⟩:=h.obj s b hb
   exact ⟨b1,hσ s b (by omega) b2⟩
  hh:=h.hh
  hs:=fun i s x r hi hs hx=>by
   rcases mY hs with ⟨_,rfl⟩ | ⟨_,hs⟩
   ·have:=(h.hown i x _ hi hx).2;omega
   ·exact h.hs i s x r hi hs hx
  ss:=fun s s' r hne hs hs'=>by
   rcases mY hs with ⟨rfl,rfl⟩ | ⟨h1,hs⟩
   ·rcases mY hs' with ⟨rfl,_⟩ | ⟨_,hs'⟩
    ·exact hne rfl
    ·have:=(h.sown s' _ hs').2;omega
   ·rcases mY hs' with ⟨_,rfl⟩ | ⟨_,hs'⟩
    ·have:=(h.sown s _ hs).2;omega
    ·exact h.ss s s' r hne hs hs'
  glob:=fun g k e hg=>keep (.pK k e 0) _ (h.glob g k e hg)
  below:=hw.Ve h.below }
 refine ⟨base.put (d:=aa d) (fun t ht=>by cases ht;exact hd) ⟨w.heap.size,by unfold tN;simp,rfl⟩,fun s hs=>?_⟩
 unfold tN
 rw [aI hs]
end inv
def T (_:ax):Prop:=True
def Pl (a:AV) (v:aC):Prop:=∀ (w:az) (F:ax→Prop),Rel w F a v
theorem Rel.rL {w:az} {F:ax→Prop} {a:AV} {v:aC} {p:dP×aB} (h:Rel w F a v) (ha:a.rL=aa p):v=.int p.1 p.2:=by
 cases h <;> simp [AV.rL] at ha <;> subst ha <;> rfl
theorem nk {k:dP} {n:aB} {r:AV} (h:AV.CW k n=aa r):Pl r (.int k n):=by
 intro w F
 unfold AV.CW at h
 split at h
 ·split at h
  ·rename_i hn
   cases h
   have:((UInt8.ofNat n.toNat).toNat:aB)=n:=by
    rw [jo]
    omega
   have h2:=Rel.u8 (w:=w) (F:=F) (UInt8.ofNat n.toNat)
   rw [this] at h2
   exact h2
  ·cases h
 ·cases h;exact .int n
 ·cases h;exact .ik k n
theorem uO (v:aC) (h1:v.oneCell'=aj):Pl (JZ v) v:=by
 intro w F
 cases v with
 | bool x=>exact .b x
 | int k n =>
  cases k with
  | u8 =>
   simp only [JZ]
   split
   ·rename_i hn
    have:((UInt8.ofNat n.toNat).toNat:aB)=n:=by
     rw [jo]
     omega
    have h2:=Rel.u8 (w:=w) (F:=F) (UInt8.ofNat n.toNat)
    rw [this] at h2
    exact h2
   ·exact .un h1
  | i64=>exact .int n
  | _=>exact .ik _ n
 | string x=>exact .s x
 | slice a l c =>
  cases a with
  | some a=>exact .un h1
  | none=>cases l with
   | zero=>cases c with
    | zero=>exact .cd
    | succ c=>exact .un h1
   | succ l=>exact .un h1
 | pointer a=>cases a with
  | none=>exact .kY
  | some a=>exact .un h1
 | func fn a c =>
  cases fn with
  | func f =>
   simp only [JZ]
   cases hb:a.isEmpty && c.isEmpty with
   | false=>exact .un h1
   | true =>
    simp only [Bool.and_eq_true,Array.isEmpty_iff] at hb
    obtain ⟨rfl,rfl⟩:=hb
    exact .fn f
  | _=>exact .un h1
 | nilFunc=>exact .xK
 | _=>exact .un h1
theorem Kl {P:bn} {op:BinOp} {k:dP} {x y:aB} {r:AV} (h:zR op k x y=aa r) (t:TypeId) :
  ∃ v,(∀ w:az,(binOp op t (.int k x) (.int k y)).run P w=.ok v w)∧Pl r v:=by
 unfold zR at h
 split at h
 ·exact ⟨_,fun w=>by simp [binOp,Op.intArith],nk h⟩
 ·exact ⟨_,fun w=>by simp [binOp,Op.intArith],nk h⟩
 ·exact ⟨_,fun w=>by simp [binOp,Op.intArith],nk h⟩
 ·split at h
  ·cases h
  ·rename_i hy;exact ⟨_,fun w=>by simp [binOp,Op.intDiv,hy],nk h⟩
 ·split at h
  ·cases h
  ·rename_i hy;exact ⟨_,fun w=>by simp [binOp,Op.intDiv,hy],nk h⟩
 ·exact ⟨_,fun w=>by simp [binOp,Op.intBits],nk h⟩
 ·exact ⟨_,fun w=>by simp [binOp,Op.intBits],nk h⟩
 ·cases h;exact ⟨_,fun w=>by simp [binOp,gD],fun w F=>.b _⟩
 ·cases h;exact ⟨_,fun w=>by simp [binOp,gD],fun w F=>.b _⟩
 ·cases h;exact ⟨_,fun w=>by simp [binOp,gD],fun w F=>.b _⟩
 ·cases h;exact ⟨_,fun w=>by simp [binOp,gD],fun w F=>.b _⟩
 ·cases h;exact ⟨_,fun w=>by simp [binOp,gD],fun w F=>.b _⟩
 ·cases h;exact ⟨_,fun w=>by simp [binOp,gD],fun w F=>.b _⟩
 ·cases h
theorem xM {P:bn} {op:BinOp} (ho:op=.shl∨op=.shr) {k k':dP} {x y:aB} {r:AV} (h:A0 op k x y=aa r) (t:TypeId) :
  ∃ v,(∀ w:az,(binOp op t (.int k x) (.int k' y)).run P w=.ok v w)∧Pl r v:=by
 unfold A0 at h
 split at h
 ·cases h
 ·rename_i hy
  rcases ho with rfl | rfl
  ·exact ⟨_,fun w=>by simp [binOp,Op.shift,hy],nk h⟩
  ·exact ⟨_,fun w=>by simp [binOp,Op.shift,hy],nk h⟩
section
variable {P:bn} {w w1 w2:az} {F1 F2:ax→Prop} {x y:AV} {vx vy:aC}
theorem fY (op:BinOp) (t:TypeId) (ox oy:Operand) (a b:aC) (ha:a≠.nilIface) (hg:∀ cs,a≠.agg cs):(eqGuard op t ox oy a b).run P w=.ok () w:=by
 cases a <;> first | exact absurd rfl ha | exact absurd rfl (hg _) | (cases op <;> rfl)
theorem Oi {op:BinOp} {r:AV} (h:cf op x y=aa r) (hx:Rel w1 F1 x vx) (hy:Rel w2 F2 y vy) (t:TypeId) (ox oy:Operand) :
  ∃ v,(∀ w:az,(do eqGuard op t ox oy vx vy;binOp op t vx vy:Sem aC).run P w=.ok v w)∧Pl r v:=by
 have key:∃ p,x.rL=aa p:=by
  cases hp:x.rL with
  | none=>exfalso;cases op <;> simp [cf,hp] at h
  | some p=>exact ⟨p,rfl⟩
 have ZA:∃ p,y.rL=aa p:=by
  obtain ⟨p,hp⟩:=key
  cases hq:y.rL with
  | none=>exfalso;cases op <;> simp [cf,hp,hq] at h
  | some p=>exact ⟨p,rfl⟩
 obtain ⟨⟨k,a⟩,hp⟩:=key
 obtain ⟨⟨k',c⟩,hq⟩:=ZA
 have e1:=hx.rL hp
 have e2:=hy.rL hq
 subst e1 e2
 have hgd:∀ w:az,(eqGuard op t ox oy (.int k a) (.int k' c)).run P w=.ok () w:=fun w=>fY _ _ _ _ _ _ (by simp) (by simp)
 simp only [Sem.run_bind,hgd,Result.andThen]
 have ZB:(if k=k' then zR op k a c else ah)=aa r→∃ v,(∀ w:az,(binOp op t (.int k a) (.int k' c)).run P w=.ok v w)∧Pl r v:=by
  intro h
  split at h
  ·rename_i hk
   subst hk
   exact Kl h t
  ·cases h
 by_cases h1:op=.shl
 ·subst h1;exact xM (.inl rfl) (by simpa [cf,hp,hq] using h) t
 ·by_cases h2:op=.shr
  ·subst h2;exact xM (.inr rfl) (by simpa [cf,hp,hq] using h) t
  ·refine ZB ?_
   rw [← h]
   cases op <;> first | exact absurd rfl h1 | exact absurd rfl h2 | simp [cf,hp,hq]
theorem Oj {op:BinOp} {r:AV} (h:EF op x y=aa r) (hx:Rel w1 F1 x vx) (hy:Rel w2 F2 y vy) (t:TypeId) (ht:P.underlying t=aa .bool) (ox oy:Operand) :
  ∃ v,(∀ w:az,(do eqGuard op t ox oy vx vy;binOp op t vx vy:Sem aC).run P w=.ok v w)∧Pl r v:=by
 unfold EF at h
 split at h
 ·rename_i p q
  cases hx;cases hy
  have hgd:∀ w:az,(eqGuard op t ox oy (.bool p) (.bool q)).run P w=.ok () w:=fun w=>fY _ _ _ _ _ _ (by simp) (by simp)
  simp only [Sem.run_bind,hgd,Result.andThen]
  have he:∀ w:az,(Op.equal t (.bool p) (.bool q)).run P w=.ok (p == q) w:=fun w=>run_equalIn_bool' w 9999 t p q ht
  split at h
  ·cases h
   exact ⟨_,fun w=>by simp [binOp,he],fun w F=>.b _⟩
  ·cases h
   refine ⟨.bool (p != q),fun w=>by simp only [binOp,Sem.run_bind,he,Result.andThen,Sem.run_pure];cases p <;> cases q <;> rfl,fun w F=>.b _⟩
  ·cases h
 ·cases h
theorem toList_data (p:aL):p.toList=p.data.toList:=ByteArray.toList_eq ..
theorem Ok {op:BinOp} {r:AV} (h:gR op x y=aa r) (hx:Rel w1 F1 x vx) (hy:Rel w2 F2 y vy) (t:TypeId) (ox oy:Operand) :
  ∃ v,(∀ w:az,(do eqGuard op t ox oy vx vy;binOp op t vx vy:Sem aC).run P w=.ok v w)∧Pl r v:=by
 unfold gR at h
 split at h
 ·cases hx with
  | s p=>cases hy with
   | s q =>
    have hgd:∀ w:az,(eqGuard op t ox oy (.string p) (.string q)).run P w=.ok () w:=fun w=>fY _ _ _ _ _ _ (by simp) (by simp)
    simp only [Sem.run_bind,hgd,Result.andThen]
    unfold Kb at h
    split at h
    ·split at h
     ·rename_i hb
      cases h
      have hsz:(p.size:aB)+(q.size:aB)≤9223372036854775807:=by
       have h1:p.data.toList.length=p.size:=by simp
       have h2:q.data.toList.length=q.size:=by simp
       rw [h1,h2] at hb
       unfold big at hb
       omega
      refine ⟨.string (p ++ q),fun w=>by simp [binOp,jB];omega,fun w F=>?_⟩
      have:=Rel.s (w:=w) (F:=F) (p ++ q)
      simpa using this
     ·cases h
    ·cases h
     exact ⟨.bool (p.data.toList == q.data.toList),fun w=>by simp [binOp,jB,toList_data],fun w F=>.b _⟩
    ·cases h
     exact ⟨.bool (p.data.toList != q.data.toList),fun w=>by simp [binOp,jB,toList_data,bne],fun w F=>.b _⟩
    ·cases h
 ·cases h
theorem Da (d:ax) {t e:TypeId} (ht:P.underlying t=aa (.slice e)) (a:ak Addr) (l c:ax):(dL (d+1) t (.slice a l c) (.slice ah 0 0)).run P w=.ok a.isNone w:=by
 simp only [dL,Sem.run_bind,run_underlying ht,Result.andThen]
 cases a <;> simp
theorem A7 (d:ax) {t e:TypeId} (ht:P.underlying t=aa (.slice e)) (a:ak Addr) (l c:ax):(dL (d+1) t (.slice ah 0 0) (.slice a l c)).run P w=.ok a.isNone w:=by
 simp only [dL,Sem.run_bind,run_underlying ht,Result.andThen]
 cases a <;> simp
theorem Ol {op:BinOp} {r:AV} (h:IV op x y=aa r) (hx:Rel w1 F1 x vx) (hy:Rel w2 F2 y vy) (t:TypeId) {e:TypeId} (ht:P.underlying t=aa (.slice e)) (ox oy:Operand) :
  ∃ v,(∀ w:az,(do eqGuard op t ox oy vx vy;binOp op t vx vy:Sem aC).run P w=.ok v w)∧Pl r v:=by
 have hnil:∀ (w:az) (a:ak Addr) (l c:ax),(Op.equal t (.slice a l c) (.slice ah 0 0)).run P w=.ok a.isNone w:=fun w a l c=>Da 9999 ht a l c
 have QV:∀ (w:az) (a:ak Addr) (l c:ax),(Op.equal t (.slice ah 0 0) (.slice a l c)).run P w=.ok a.isNone w:=fun w a l c=>A7 9999 ht a l c
 unfold IV at h
 split at h
 ·cases hy
  cases hx with
  | ro k l r off c xs hk hc hF hl hx2 h1 hr =>
   have hgd:=fun w:az=>fY (P:=P) (w:=w) op t ox oy (.slice (aa ⟨r,off,ah⟩) (‹ai AV›.length+1) c) (.slice ah 0 0) (by simp) (by simp)
   simp only [aA,Sem.run_bind,hgd,Result.andThen]
   split at h <;> cases h
   ·exact ⟨_,fun w=>by simp [binOp,hnil],fun w F=>.b _⟩
   ·exact ⟨_,fun w=>by simp [binOp,hnil],fun w F=>.b _⟩
 ·cases hx
  cases hy with
  | ro k l r off c xs hk hc hF hl hx2 h1 hr =>
   have hgd:=fun w:az=>fY (P:=P) (w:=w) op t ox oy (.slice ah 0 0) (.slice (aa ⟨r,off,ah⟩) (‹ai AV›.length+1) c) (by simp) (by simp)
   simp only [aA,Sem.run_bind,hgd,Result.andThen]
   split at h <;> cases h
   ·exact ⟨_,fun w=>by simp [binOp,QV],fun w F=>.b _⟩
   ·exact ⟨_,fun w=>by simp [binOp,QV],fun w F=>.b _⟩
 ·cases hx;cases hy
  have hgd:=fun w:az=>fY (P:=P) (w:=w) op t ox oy (.slice ah 0 0) (.slice ah 0 0) (by simp) (by simp)
  simp only [Sem.run_bind,hgd,Result.andThen]
  split at h <;> cases h
  ·exact ⟨_,fun w=>by simp [binOp,hnil],fun w F=>.b _⟩
  ·exact ⟨_,fun w=>by simp [binOp,hnil],fun w F=>.b _⟩
 ·cases h
theorem Db (d:ax) {t e:TypeId} (ht:P.underlying t=aa (.pointer e)) (a:Addr):(dL (d+1) t (.pointer (aa a)) (.pointer ah)).run P w=.ok af w:=by
 simp only [dL,Sem.run_bind,run_underlying ht,Result.andThen]
 simp
theorem tP (d:ax) {t e:TypeId} (ht:P.underlying t=aa (.pointer e)) (a:ak Addr):(dL (d+1) t (.pointer ah) (.pointer a)).run P w=.ok a.isNone w:=by
 simp only [dL,Sem.run_bind,run_underlying ht,Result.andThen]
 simp
theorem Om {op:BinOp} {r:AV} (h:wP op x y=aa r) (hx:Rel w1 F1 x vx) (hy:Rel w2 F2 y vy) (t:TypeId) (ht:∃ e,P.underlying t=aa (.pointer e)) (ox oy:Operand) :
  ∃ v,(∀ w:az,(do eqGuard op t ox oy vx vy;binOp op t vx vy:Sem aC).run P w=.ok v w)∧Pl r v:=by
 obtain ⟨e,ht⟩:=ht
 have Oc:∀ (w:az) (a:Addr),(Op.equal t (.pointer (aa a)) (.pointer ah)).run P w=.ok af w:=fun w a=>Db 9999 ht a
 have eq2:∀ (w:az) (a:Addr),(Op.equal t (.pointer ah) (.pointer (aa a))).run P w=.ok af w:=fun w a=>tP 9999 ht (aa a)
 have eq3:∀ (w:az),(Op.equal t (.pointer ah) (.pointer ah)).run P w=.ok aj w:=fun w=>tP 9999 ht ah
 unfold wP at h
 split at h
 ·cases hy
  cases hx with
  | pt l r xs h0 hF hl hx2 h1 hr =>
   have hgd:=fun w:az=>fY (P:=P) (w:=w) op t ox oy (.pointer (aa ⟨r,0,ah⟩)) (.pointer ah) (by simp) (by simp)
   simp only [Sem.run_bind,hgd,Result.andThen]
   split at h <;> cases h
   ·exact ⟨_,fun w=>by simp [binOp,Oc],fun w F=>.b _⟩
   ·exact ⟨_,fun w=>by simp [binOp,Oc],fun w F=>.b _⟩
 ·cases hx
  cases hy with
  | pt l r xs h0 hF hl hx2 h1 hr =>
   have hgd:=fun w:az=>fY (P:=P) (w:=w) op t ox oy (.pointer ah) (.pointer (aa ⟨r,0,ah⟩)) (by simp) (by simp)
   simp only [Sem.run_bind,hgd,Result.andThen]
   split at h <;> cases h
   ·exact ⟨_,fun w=>by simp [binOp,eq2],fun w F=>.b _⟩
   ·exact ⟨_,fun w=>by simp [binOp,eq2],fun w F=>.b _⟩
 ·cases hx;cases hy
  have hgd:=fun w:az=>fY (P:=P) (w:=w) op t ox oy (.pointer ah) (.pointer ah) (by simp) (by simp)
  simp only [Sem.run_bind,hgd,Result.andThen]
  split at h <;> cases h
  ·exact ⟨_,fun w=>by simp [binOp,eq3],fun w F=>.b _⟩
  ·exact ⟨_,fun w=>by simp [binOp,eq3],fun w F=>.b _⟩
 ·cases h
theorem Oo {op:UnOp} {r:AV} (h:unop op x=aa r) (hx:Rel w1 F1 x vx):∃ v,(∀ w:az,(Op.unary op vx).run P w=.ok v w)∧Pl r v:=by
 unfold unop at h
 split at h
 ·cases h;cases hx
  exact ⟨_,fun w=>by simp [Op.unary],fun w F=>.b _⟩
 ·cases hx
  exact ⟨_,fun w=>by simp [Op.unary,Op.intArith],nk h⟩
 ·cases h
theorem Oq {k:dP} {r:AV} (h:conv k x=aa r) (hx:Rel w1 F1 x vx) (src dst:TypeId) (hs:(P.underlying src).isSome=aj) (hd:P.underlying dst=aa (.int k)) :
  ∃ v,(∀ w:az,(convert src dst vx).run P w=.ok v w)∧Pl r v:=by
 unfold conv at h
 cases hp:x.rL with
 | none=>rw [hp] at h;cases h
 | some p =>
  rw [hp] at h
  simp only [Option.bind_some] at h
  have:=hx.rL hp
  subst this
  obtain ⟨d,tG⟩:=Option.isSome_iff_exists.mp hs
  refine ⟨.int k (k.wrap p.2),fun w=>?_,nk h⟩
  simp [convert,run_underlying tG,run_underlying hd,Conv.intToInt]
theorem Km {r:AV} (h:GC x=aa r) (hx:Rel w1 F1 x vx) (src dst:TypeId) (hs:P.underlying src=aa .string) (hd:P.underlying dst=aa .string) :
  ∃ v,(∀ w:az,(convert src dst vx).run P w=.ok v w)∧Pl r v:=by
 unfold GC at h
 split at h
 ·cases h
  cases hx
  exact ⟨_,fun w=>by simp [convert,run_underlying hs,run_underlying hd],fun w F=>.s _⟩
 ·cases h
theorem Ot {r:AV} (h:om x=aa r) (hx:Rel w1 F1 x vx) (t ty:TypeId) (ht:P.underlying t=aa .string) (ts:bF TypeId) (h0:ts[0]?=aa t) :
  ∃ v,(∀ w:az,(Builtin.len_ ts ty #[vx]).run P w=.ok v w)∧Pl r v:=by
 unfold om at h
 split at h
 ·cases h;cases hx
  rename_i p
  refine ⟨.int .i64 p.size,fun w=>by simp [Builtin.len_,h0,run_underlying ht,goInt],fun w F=>?_⟩
  have:p.data.toList.length=p.size:=by simp
  rw [this];exact .int _
 ·cases h
theorem Ou {r:AV} (h:kH x=aa r) (hx:Rel w1 F1 x vx) (t ty e:TypeId) (ht:P.underlying t=aa (.slice e)) (ts:bF TypeId) (h0:ts[0]?=aa t) :
  ∃ v,(∀ w:az,(Builtin.len_ ts ty #[vx]).run P w=.ok v w)∧Pl r v:=by
 unfold kH at h
 split at h
 ·cases h
  cases hx with
  | zG k a c=>exact ⟨.int .i64 0,fun w=>by simp [Builtin.len_,h0,run_underlying ht,goInt],fun w F=>.int _⟩
  | ro k l r off c xs hk hc hF hl hx2 h1 hr=>exact ⟨.int .i64 _,fun w=>by simp [Builtin.len_,h0,run_underlying ht,goInt],fun w F=>.int _⟩
 ·cases h
  cases hx
  exact ⟨.int .i64 0,fun w=>by simp [Builtin.len_,h0,run_underlying ht,goInt],fun w F=>.int _⟩
 ·cases h
end
section
variable {P:bn} {w w1 w2:az} {F1 F2:ax→Prop} {x y:AV} {vx vy:aC}
theorem EM {n m:ax} {i:AV} {v:aC} (h:pN n i=aa m) (hi:Rel w1 F1 i v):∃ k z,v=.int k z∧0≤z∧z < (n:aB)∧z.toNat=m∧m < n:=by
 unfold pN at h
 cases hp:i.rL with
 | none=>rw [hp] at h;cases h
 | some p =>
  rw [hp] at h
  simp only [Option.bind_some] at h
  split at h
  ·rename_i hz
   cases h
   exact ⟨p.1,p.2,hi.rL hp,hz.1,hz.2,rfl,by omega⟩
  ·cases h
theorem xN {n m:ax} {i:AV} {v:aC} (h:CX n i=aa m) (hi:Rel w1 F1 i v):∃ k z,v=.int k z∧0≤z∧z≤(n:aB)∧z.toNat=m∧m≤n:=by
 unfold CX at h
 cases hp:i.rL with
 | none=>rw [hp] at h;cases h
 | some p =>
  rw [hp] at h
  simp only [Option.bind_some] at h
  split at h
  ·rename_i hz
   cases h
   exact ⟨p.1,p.2,hi.rL hp,hz.1,hz.2,rfl,by omega⟩
  ·cases h
theorem Ov {r:AV} (h:jU x y=aa r) (hx:Rel w1 F1 x vx) (hy:Rel w2 F2 y vy) (t:TypeId) (ht:P.underlying t=aa .string) :
  ∃ v,(∀ w:az,(Instr.index t vx vy).run P w=.ok v w)∧Pl r v:=by
 unfold jU at h
 split at h
 ·rename_i l
  cases hn:pN l.length y with
  | none=>rw [hn] at h;cases h
  | some n =>
   rw [hn] at h
   cases h
   obtain ⟨k,z,rfl,h0,h1,rfl,h2⟩:=EM hn hy
   cases hx with
   | s p =>
    have hlt:z.toNat < p.size:=by simpa using h2
    have hg:p[z.toNat]?=aa p[z.toNat]:=by simp [hlt]
    refine ⟨.int .u8 (p[z.toNat].toNat:aB),fun w=>?_,fun w F=>?_⟩
    ·simp [Instr.index,asIntOf,run_underlying ht,h0,hg]
    ·have:p.data.toList.getD z.toNat 0=p[z.toNat]:=by
      rw [aK,Array.getElem?_toList,Array.getElem?_eq_getElem hlt]
      rfl
     rw [this];exact .u8 _
 ·cases h
theorem Sk {k:ax} {r:AV} (h:idx k x y=aa r) (hx:Rel w F1 x vx) (hy:Rel w2 F2 y vy) (t e:TypeId) (ht:P.underlying t=aa (.slice e)) (hs:(P.info? e).map (·.size)=aa k) (hk:0 < k) :
  ∃ v,(∀ w',(iE t vx vy).run P w'=.ok v w')∧∃ b o,v=.pointer (aa ⟨b,o,ah⟩)∧F1 b∧b < w.heap.size ∧
   ∀ j,j < k→∃ u,w.cell? ⟨b,o+j,ah⟩=aa u∧u.oneCell'=aj∧Rel w F1 (r.cell j) u:=by
 unfold idx at h
 split at h
 ·rename_i k' l
  split at h
  ·rename_i tF
   subst tF
   cases hn:pN l.length y with
   | none=>rw [hn] at h;cases h
   | some n =>
    rw [hn] at h
    cases h
    obtain ⟨q,z,rfl,h0,h1,rfl,h2⟩:=EM hn hy
    cases hx with
    | zG=>simp at h2
    | ro _ _ b off c xs hk2 hcc hF hl hx2 h1c hr =>
     have sw:∀ j,j < k'→∃ u,w.cell? ⟨b,off+z.toNat * k'+j,ah⟩=aa u∧u.oneCell'=aj∧Rel w F1 ((l.getD z.toNat .un).cell j) u:=fun j hj=>by
      have hlt:z.toNat * k'+j < xs.length:=by
       rw [hl]
       calc z.toNat * k'+j < z.toNat * k'+k':=by omega
        _=(z.toNat+1) * k':=by rw [dC,Nat.one_mul]
        _≤l.length * k':=bE _ h2
      have hg:=List.getElem?_eq_getElem hlt
      refine ⟨xs[z.toNat * k'+j],?_,h1c _ (List.getElem_mem hlt),hr z.toNat j _ h2 hj hg⟩
      have:=hx2 _ _ hg
      rw [← Nat.add_assoc] at this
      exact this
     refine ⟨.pointer (aa ⟨b,off+z.toNat * k',ah⟩),fun w'=>?_,b,off+z.toNat * k',rfl,hF,?_,sw⟩
     ·cases hq:P.info? e with
      | none=>simp [hq] at hs
      | some i =>
       have hi:i.size=k':=by simpa [hq] using hs
       have lB:∀ n,(⟨b,off,ah⟩:Addr).add n=⟨b,off+n,ah⟩:=fun n=>by unfold Addr.add;split <;> simp_all
       simp [iE,asIntOf,run_underlying ht,h0,h1,Go.sizeOf,typeInfo,hq,hi,lB]
     ·obtain ⟨u,hu,_⟩:=sw 0 hk
      exact cM hu
  ·cases h
 ·cases h
theorem oW {n:ax} {lo hi:ak AV} {p:ax×ax} (h:mJ n lo hi=aa p) {vlo vhi:ak aC} (cap:ax) (Kn:n≤cap) (isS:ay)
  (oX:∀ a v,lo=aa a→vlo=aa v→Rel w1 F1 a v) (Ow:∀ a v,hi=aa a→vhi=aa v→Rel w2 F2 a v) (e1:lo.isSome=vlo.isSome) (e2:hi.isSome=vhi.isSome) :
  (dH isS n cap vlo vhi ah).run P w=.ok (p.1,p.2,cap) w∧p.1≤p.2∧p.2≤n:=by
 unfold mJ at h
 have hb:∀ (m:ax) (a:AV) (v:aC) (q:ax) (m':ax) (code:BoundsCode),CX m a=aa q→m≤m'→(∃ w F,Rel w F a v)→(gP v m' code).run P w=.ok q w:=by
  intro m a v q m' code hq hm ⟨w,F,hr⟩
  obtain ⟨k,z,rfl,h0,h1,rfl,h2⟩:=xN hq hr
  have:z≤(m':aB):=by omega
  simp [gP,asIntOf,h0,this]
 cases hi with
 | none =>
  cases vhi with
  | some v=>simp at e2
  | none =>
   simp only [Option.bind_some] at h
   cases lo with
   | none =>
    cases vlo with
    | some v=>simp at e1
    | none =>
     cases h
     simp [dH]
   | some a =>
    cases vlo with
    | none=>simp at e1
    | some v =>
     cases hq:CX n a with
     | none=>simp [hq] at h
     | some q =>
      simp [hq] at h
      subst h
      have:=hb n a v q n .sliceB hq (Nat.le_refl _) ⟨_,_,oX a v rfl rfl⟩
      obtain ⟨_,_,_,_,_,_,h2⟩:=xN hq (oX a v rfl rfl)
      simp [dH,this,h2]
 | some b =>
  cases vhi with
  | none=>simp at e2
  | some u =>
   cases Vf:CX n b with
   | none=>simp [Vf] at h
   | some q2 =>
    have t2:∀ code,(gP u cap code).run P w=.ok q2 w:=fun code=>hb n b u q2 cap code Vf Kn ⟨_,_,Ow b u rfl rfl⟩
    obtain ⟨_,_,_,_,_,_,h3⟩:=xN Vf (Ow b u rfl rfl)
    simp only [Vf,Option.bind_some] at h
    cases lo with
    | none =>
     cases vlo with
     | some v=>simp at e1
     | none =>
      cases h
      simp [dH,t2,h3]
    | some a =>
     cases vlo with
     | none=>simp at e1
     | some v =>
      cases hq:CX q2 a with
      | none=>simp [hq] at h
      | some q =>
       simp [hq] at h
       subst h
       have:=hb q2 a v q q2 .sliceB hq (Nat.le_refl _) ⟨_,_,oX a v rfl rfl⟩
       obtain ⟨_,_,_,_,_,_,h2⟩:=xN hq (oX a v rfl rfl)
       simp [dH,t2,this,h2,h3]
theorem Sl {lo hi:ak AV} {r:AV} (h:nM x lo hi=aa r) (hx:Rel w1 F1 x vx) {vlo vhi:ak aC}
  (oX:∀ a v,lo=aa a→vlo=aa v→Rel w1 F1 a v) (Ow:∀ a v,hi=aa a→vhi=aa v→Rel w2 F2 a v) (e1:lo.isSome=vlo.isSome) (e2:hi.isSome=vhi.isSome)
  (t:TypeId) (ht:P.underlying t=aa .string):∃ v,(∀ w:az,(dx t vx vlo vhi ah).run P w=.ok v w)∧Pl r v:=by
 unfold nM at h
 split at h
 ·rename_i l
  cases hp:mJ l.length lo hi with
  | none=>rw [hp] at h;cases h
  | some p =>
   rw [hp] at h
   cases h
   cases hx with
   | s q =>
    have hq:q.data.toList.length=q.size:=by simp
    rw [hq] at hp
    have hb:=fun w:az=>(oW (P:=P) (w:=w) hp q.size (Nat.le_refl _) af oX Ow e1 e2).1
    refine ⟨.string (q.extract p.1 p.2),fun w=>?_,fun w F=>?_⟩
    ·simp [dx,Instr.slice,run_underlying ht,hb]
    ·have:=Rel.s (w:=w) (F:=F) (q.extract p.1 p.2)
     have e:(q.extract p.1 p.2).data.toList=(q.data.toList.take p.2).drop p.1:=by
      simp [ByteArray.data_extract,List.drop_take]
     rw [e] at this
     exact this
 ·cases h
theorem Rel.drop_take {w:az} {F:ax→Prop} {k:ax} {l:ai AV} {a:ak Addr} {c:ax} (h:Rel w F (.ro k l) (.slice a l.length c)) (size lo hi:ax) (h1:lo≤hi) (h2:hi≤l.length) (hk:k=size∨l=[]) (c':ax) (hc':hi - lo≤c') :
  Rel w F (.ro k ((l.take hi).drop lo)) (.slice (if c=lo then a else a.map (·.add (lo * size))) (hi - lo) c'):=by
 have hlen:((l.take hi).drop lo).length=hi - lo:=by simp;omega
 by_cases he:hi=lo
 ·subst he
  have:(l.take hi).drop hi=[]:=List.eq_nil_of_length_eq_zero (by rw [hlen];omega)
  rw [this,Nat.sub_self]
  exact .zG _ _ _
 ·cases h with
  | zG=>simp at h2;omega
  | ro _ _ r off _ xs hk2 hcc hF hl hx h1c hr =>
   have I0:k=size:=hk.resolve_right (by intro e;subst e;simp at h2;omega)
   subst I0
   have hc:c≠lo∨c=lo:=by omega
   have hlx:∀ j v,((xs.take (hi * k)).drop (lo * k))[j]?=aa v→lo * k+j < hi * k∧xs[lo * k+j]?=aa v:=fun j v hv=>by
    rw [List.getElem?_drop,bJ] at hv
    split at hv
    ·exact ⟨‹_›,hv⟩
    ·cases hv
   have hmul:hi * k≤l.length * k:=bE _ h2
   have ZC:lo * k≤hi * k:=bE _ h1
   rcases hc with hc | hc
   ·rw [aI hc]
    have lB:(⟨r,off,ah⟩:Addr).add (lo * k)=⟨r,off+lo * k,ah⟩:=by unfold Addr.add;split <;> simp_all
    simp only [aY,lB]
    rw [← hlen]
    refine .ro k _ r (off+lo * k) c' ((xs.take (hi * k)).drop (lo * k)) hk2 (by rw [hlen];exact hc') hF ?_ (fun j v hv=>?_) (fun v hv=>h1c v (jd (List.mem_of_mem_drop hv))) (fun i j v hi' hj hv=>?_)
    ·rw [hlen,bQ,dV,hl,gY hmul,Nat.sub_mul]
    ·have:=hx _ v (hlx j v hv).2
     rw [← Nat.add_assoc] at this
     exact this
    ·rw [hlen] at hi'
     obtain ⟨_,hv2⟩:=hlx _ v hv
     have e:lo * k+(i * k+j)=(lo+i) * k+j:=by rw [dC];omega
     rw [e] at hv2
     have:=hr (lo+i) j v (by omega) hj hv2
     have e2:((l.take hi).drop lo).getD i .un=l.getD (lo+i) .un:=by
      simp only [aK,List.getElem?_drop,bJ]
      rw [aJ (by omega)]
     rw [e2]
     exact this
   ·omega
theorem Sm {F3:ax→Prop} {k:ax} {lo hi:ak AV} {r:AV} (h:VK k x lo hi=aa r) (hx:Rel w F1 x vx) {vlo vhi:ak aC}
  (oX:∀ a v,lo=aa a→vlo=aa v→Rel w1 F3 a v) (Ow:∀ a v,hi=aa a→vhi=aa v→Rel w2 F2 a v) (e1:lo.isSome=vlo.isSome) (e2:hi.isSome=vhi.isSome)
  (t e:TypeId) (ht:P.underlying t=aa (.slice e)) (hs:(P.info? e).map (·.size)=aa k):∃ v,(∀ w',(dx t vx vlo vhi ah).run P w'=.ok v w')∧Rel w F1 r v:=by
 have hrun:∀ (w':az) (a:ak Addr) (len cap:ax) (p:ax×ax),(dH aj len cap vlo vhi ah).run P w'=.ok (p.1,p.2,cap) w'→lo.isSome=lo.isSome →
   (dx t (.slice a len cap) vlo vhi ah).run P w'=.ok (.slice (if cap=p.1 then a else a.map (·.add (p.1 * k))) (p.2 - p.1) (cap - p.1)) w':=by
  intro w' a len cap p hb _
  cases hq:P.info? e with
  | none=>simp [hq] at hs
  | some i =>
   have hi:i.size=k:=by simpa [hq] using hs
   simp [dx,Instr.slice,run_underlying ht,hb,Go.sizeOf,typeInfo,hq,hi]
 unfold VK at h
 split at h
 ·rename_i k' l
  split at h
  ·rename_i tF
   subst tF
   cases hp:mJ l.length lo hi with
   | none=>rw [hp] at h;cases h
   | some p =>
    rw [hp] at h
    cases h
    have hh:∃ a c,vx=.slice a l.length c∧l.length≤c:=by
     cases hx with
     | zG k a c=>exact ⟨a,c,rfl,Nat.zero_le _⟩
     | ro _ _ r off c xs hk hc hF hl hx2 h1 hr=>exact ⟨_,c,rfl,hc⟩
    obtain ⟨a,c,rfl,hc⟩:=hh
    obtain ⟨_,h1,h2⟩:=oW (P:=P) (w:=w) hp c hc aj oX Ow e1 e2
    refine ⟨_,fun w'=>hrun w' a l.length c p (oW (P:=P) (w:=w') hp c hc aj oX Ow e1 e2).1 rfl,?_⟩
    exact hx.drop_take k' p.1 p.2 h1 h2 (.inl rfl) _ (by omega)
  ·cases h
 ·cases hp:mJ 0 lo hi with
  | none=>rw [hp] at h;cases h
  | some p =>
   rw [hp] at h
   cases h
   cases hx
   obtain ⟨_,h1,h2⟩:=oW (P:=P) (w:=w) hp 0 (Nat.le_refl _) aj oX Ow e1 e2
   have h3:p.2=0:=by omega
   have h4:p.1=0:=by omega
   refine ⟨_,fun w'=>hrun w' ah 0 0 p (oW (P:=P) (w:=w') hp 0 (Nat.le_refl _) aj oX Ow e1 e2).1 rfl,?_⟩
   simp only [h3,h4]
   exact .cd
 ·cases h
theorem Ko {mn:ay} {r:AV} (h:mm mn x y=aa r) (hx:Rel w1 F1 x vx) (hy:Rel w2 F2 y vy) :
  ∃ v,(∀ w:az,((if mn then gF else gG) vx vy).run P w=.ok v w)∧Pl r v:=by
 unfold mm at h
 split at h
 ·cases h
  cases hx;cases hy
  cases mn
  ·exact ⟨_,fun w=>by simp [gG],fun w F=>.int _⟩
  ·exact ⟨_,fun w=>by simp [gF],fun w F=>.int _⟩
 ·cases h
  cases hx;cases hy
  rename_i p q
  cases mn
  ·refine ⟨.int .u8 ((if q > p then q else p).toNat:aB),fun w=>?_,fun w F=>.u8 _⟩
   by_cases hh:q > p
   ·have:p.toNat < q.toNat:=bg.1 hh
    simp [gG,hh,this]
   ·have:¬ p.toNat < q.toNat:=fun e=>hh (bg.2 e)
    simp [gG,hh,this]
  ·refine ⟨.int .u8 ((if q < p then q else p).toNat:aB),fun w=>?_,fun w F=>.u8 _⟩
   by_cases hh:q < p
   ·have:q.toNat < p.toNat:=bg.1 hh
    simp [gF,hh,this]
   ·have:¬ q.toNat < p.toNat:=fun e=>hh (bg.2 e)
    simp [gF,hh,this]
 ·cases h
end
end Sx
namespace Sx
open Go Go.RowKit Go.Lib
section
variable {P:bn} {w w1 w2:az} {F1 F2:ax→Prop} {x y:AV} {vx vy:aC}
theorem tQ:∀ {l:ai AV} {p:ai ae},bytesOf l=aa p→l=p.map .u8
 | [],p,h=>by cases h;rfl
 | .u8 x :: r,p,h=>by
  unfold bytesOf at h
  cases hr:bytesOf r with
  | none=>rw [hr] at h;cases h
  | some q=>rw [hr] at h;cases h;rw [tQ hr];rfl
 | .un :: _,_,h | .b _ :: _,_,h | .int _ :: _,_,h | .ik _ _ :: _,_,h | .s _ :: _,_,h | .cd :: _,_,h | .ro _ _ :: _,_,h | .ag _ :: _,_,h | .tu _ :: _,_,h | .fn _ :: _,_,h
 | .xK :: _,_,h | .kY :: _,_,h=>by cases h
theorem foldl_push (l:ai ae) (s:aL):(l.map fun b=>(b.toNat:aB)).foldl (fun (r:aL) n=>r.push (UInt8.ofNat n.toNat)) s=⟨s.data ++ l.toArray⟩:=by
 induction l generalizing s with
 | nil=>simp
 | cons b r ih =>
  simp only [List.map_cons,dX]
  rw [ih]
  simp [ByteArray.push]
theorem Rel.Kp {w:az} {F:ax→Prop} {k:ax} {l:ai AV} {v:aC} (h:Rel w F (.ro k l) v) :
  (l=[]∧∃ a c,v=.slice a 0 c)∨∃ (r off c:ax) (xs:ai aC),v=.slice (aa ⟨r,off,ah⟩) l.length c∧0 < k∧l.length≤c∧F r∧xs.length=l.length * k ∧
   (∀ (j:ax) (v:aC),xs[j]?=aa v→w.cell? ⟨r,off+j,ah⟩=aa v)∧(∀ v ∈ xs,v.oneCell'=aj) ∧
   ∀ (i j:ax) (v:aC),i < l.length→j < k→xs[i * k+j]?=aa v→Rel w F ((l.getD i .un).cell j) v:=by
 cases h with
 | zG k a c=>exact .inl ⟨rfl,a,c,rfl⟩
 | ro _ _ r off c xs hk hc hF hl hx h1 hr=>exact .inr ⟨r,off,c,xs,rfl,hk,hc,hF,hl,hx,h1,hr⟩
theorem Sn {r:AV} (h:GD x=aa r) (hx:Rel w F1 x vx) (src dst e:TypeId) (hs:P.underlying src=aa (.slice e)) (he:P.underlying e=aa (.int .u8)) (hd:P.underlying dst=aa .string) :
  ∃ v,(∀ w',(∀ b,b < w.heap.size→F1 b→w'.heap[b]?=w.heap[b]?)→(convert src dst vx).run P w'=.ok v w')∧Pl r v:=by
 have conv:∀ (w':az) (a:ak Addr) (l c:ax),(convert src dst (.slice a l c)).run P w'=(gI (.slice a l c)).run P w':=fun w' a l c =>
  run_convert_bytes_string w' src dst e a l c hs he hd
 unfold GD at h
 split at h
 ·rename_i l
  cases hp:bytesOf l with
  | none=>rw [hp] at h;cases h
  | some p =>
   rw [hp] at h
   simp only [Option.bind_some] at h
   split at h
   ·cases h
    have hl:=tQ hp
    subst hl
    have hpl:Pl (.s p) (.string ⟨p.toArray⟩):=fun w F=>by
     have:=Rel.s (w:=w) (F:=F) ⟨p.toArray⟩
     simpa using this
    by_cases ZE:p=[]
    ·subst ZE
     cases hx with
     | zG k a c =>
      refine ⟨_,fun w' _=>?_,hpl⟩
      rw [conv]
      cases a with
      | none=>simp [gI];rfl
      | some a =>
       rw [run_bytesToString w' a 0 c [] (by simp [loadCells,loadCellsFrom])]
       rfl
     | ro k l r off c xs hk hc hF hl hx2 h1 hr =>
      refine ⟨_,fun w' _=>?_,hpl⟩
      rw [conv]
      rw [show (ib AV.u8 []).length=0 from rfl,run_bytesToString w' _ 0 c [] (by simp [loadCells,loadCellsFrom])]
      rfl
    ·rcases hx.Kp with ⟨h0,_⟩ | ⟨r,off,c,xs,rfl,hk,hc,hF,hl,hx2,h1,hr⟩
     ·exact absurd (List.map_eq_nil_iff.1 h0) ZE
     ·have YN:xs=(p.map fun b=>(b.toNat:aB)).map (Value.int .u8):=by
       apply List.ext_getElem?
       intro j
       by_cases hj:j < p.length
       ·have ZF:j < xs.length:=by rw [hl];simpa using hj
        have hg:=List.getElem?_eq_getElem ZF
        have:=hr j 0 xs[j] (by simpa using hj) (by omega) (by simpa using hg)
        have e2:(ib AV.u8 p).getD j .un=.u8 p[j]:=by simp [List.getD,hj]
        rw [e2] at this
        simp only [AV.cell] at this
        rw [hg]
        cases QW:xs[j] with
        | int k n =>
         rw [QW] at this
         cases this
         simp [hj]
        | _=>rw [QW] at this;cases this
       ·have ZF:xs.length≤j:=by rw [hl];simp;omega
        simp [List.getElem?_eq_none ZF,List.getElem?_eq_none (Nat.le_of_not_lt hj)]
      have hlt:r < w.heap.size:=by
       have:0 < xs.length:=by rw [hl];simp;exact jv.2 ZE
       exact cM (hx2 0 _ (List.getElem?_eq_getElem this))
      refine ⟨_,fun w' hw'=>?_,hpl⟩
      rw [conv]
      have hb:=hw' r hlt hF
      have VL:(loadCells ⟨r,off,ah⟩ (ib AV.u8 p).length).run P w'=.ok ((p.map fun b=>(b.toNat:aB)).map (Value.int .u8)).toArray w':=by
       have hlen:(ib AV.u8 p).length=xs.length:=by rw [hl];simp
       rw [hlen,← YN]
       refine run_loadCells_list w' ⟨r,off,ah⟩ xs fun j v hv=>?_
       have lB:(⟨r,off,ah⟩:Addr).add j=⟨r,off+j,ah⟩:=by unfold Addr.add;split <;> simp_all
       rw [lB,← hx2 j v hv]
       exact aD (w:=w) hb
      rw [run_bytesToString w' _ _ c _ VL,foldl_push]
      simp
   ·cases h
 ·cases h
  cases hx
  refine ⟨.string .empty,fun w' _=>?_,fun w F=>?_⟩
  ·rw [conv];simp [gI]
  ·exact Rel.s (w:=w) (F:=F) ByteArray.empty
 ·cases h
theorem xO (t u ty e:TypeId) (i:TypeInfo) (z:aC) (ht:P.underlying t=aa (.slice e)) (hi:P.info? e=aa i) (hz:i.zero=aa z) (hzs:z.cells.size=i.size) (abD:0 < i.size)
  (hu:P.underlying u=aa .string∨∃ e',P.underlying u=aa (.slice e')) (ts:bF TypeId) (h0:ts[0]?=aa t) (h1:ts[1]?=aa u)
  (v:aC) (n:ax) (xs:ai aC) (hown:w.ownsRow 0 e i.size v n xs) (m:ax) (news:ai aC) (hl:news.length=m * i.size) (h1c:∀ q ∈ news,q.oneCell'=aj)
  (hlen:∀ w',(eB vx).run P w'=.ok m w') (sw:∀ w',w'.heap=w.heap→(dQ i.size m vx).run P w'=.ok news.toArray w')
  (h63:n+m≤maxLen) (hbytes:(n+m) * i.bytes≤140737488355328) :
  ∃ v' w',(Builtin.append_ ts ty #[v,vx]).run P w=.ok v' w'∧w'.ownsRow 0 e i.size v' (n+m) (xs ++ news)∧w.grownBy w' v.ownBlock ∧
   (∀ g,v'.ownBlock=aa g→v.ownBlock=aa g∨w.heap.size≤g):=by
 have ZG:n+m≤9223372036854775807:=by simp only [maxLen] at h63;omega
 have GH:(xs ++ news).length=(n+m) * i.size:=by rw [au,hown.1,hl,dC]
 have hwd:=sw w.drew rfl
 have hw0:=sw w rfl
 have grown:∀ (old:ax),old < n+m→∀ (row:ak ax),
   (w.drew.alloc (.cells (xs.toArray ++ news.toArray ++ Builtin.zeroCells z.cells (grownCap w (n+m) old e - (n+m))) e)).ownsRow 0 e i.size
    (.slice (aa ⟨w.heap.size,0,ah⟩) (n+m) (grownCap w (n+m) old e)) (n+m) (xs ++ news) ∧
   w.grownBy (w.drew.alloc (.cells (xs.toArray ++ news.toArray ++ Builtin.zeroCells z.cells (grownCap w (n+m) old e - (n+m))) e)) row:=by
  intro old ho row
  have jz:=grownCap_ge w (n+m) old e
  have hcm:grownCap w (n+m) old e≤maxLen:=grownCap_le_maxLen w (n+m) old e h63
  refine ⟨⟨GH,.inr ⟨w.heap.size,_,_,rfl,Nat.zero_le _,heap_alloc_new w.drew _,jz,hcm,?_,?_⟩⟩,⟨rfl,rfl,rfl,by simp,fun k hk _=>heap_alloc_old w.drew _ k hk⟩⟩
  ·simp only [Array.size_append,List.size_toArray,size_zeroCells,hzs,hown.1,hl,← dC]
   congr 1
   omega
  ·simp only [Array.toList_append,List.append_assoc]
   rw [← List.append_assoc,← GH]
   exact List.take_left
 rcases hown.2 with ⟨rfl,rfl⟩ | ⟨g,cap,cur,rfl,hbg,hg,VM,hcm,hcs,tO⟩
 ·have hx:xs=[]:=List.eq_nil_of_length_eq_zero (by simpa using hown.1)
  subst hx
  by_cases hm:m=0
  ·subst hm
   have hn:news=[]:=List.eq_nil_of_length_eq_zero (by simpa using hl)
   subst hn
   refine ⟨.slice ah 0 0,w,?_,World.ownsRow_nil w 0 e i.size,⟨rfl,rfl,rfl,Nat.le_refl _,fun _ _ _=>rfl⟩,fun g hg=>by cases hg⟩
   rcases hu with hu | ⟨e',hu⟩ <;> simp [Builtin.append_,h0,h1,run_underlying ht,run_underlying hu,Go.sizeOf,typeInfo,hi,hlen,hw0]
  ·have hn:¬ (0+m≤0):=by omega
   have Sq:¬ (9223372036854775807 < ((0+m:ax):aB)):=by omega
   have Ox:¬ (281474976710656 < iO (0+m) 0 * i.bytes):=by
    have:=growslice_fits (need:=0+m) (old:=0) (by omega) hbytes;omega
   have hgr:=grown 0 (by omega) (Value.ownBlock (.slice ah 0 0))
   refine ⟨_,_,?_,hgr.1,hgr.2,fun g hg=>.inr ?_⟩
   ·simp only [Nat.zero_add] at Ox Sq ⊢
    rcases hu with hu | ⟨e',hu⟩ <;> simp [Builtin.append_,h0,h1,run_underlying ht,run_underlying hu,Go.sizeOf,typeInfo,zeroValue,hi,hz,hlen,hm,Sq,Ox,Question.forced,run_firstCells_none,hwd,newRow,grownCap]
   ·simp [Value.ownBlock] at hg;omega
 ·by_cases hroom:n+m≤cap
  ·have kp:n * i.size+news.length≤cur.size:=by rw [hl,hcs,← dC];exact bE _ hroom
   have hst:=run_storeCells_at P g (n * i.size) e news 0 cur w hg (by simpa using kp) h1c
   simp only [Nat.add_zero] at hst
   refine ⟨.slice (aa ⟨g,0,ah⟩) (n+m) cap,w.setRow g (cur.toList.take (n * i.size) ++ news ++ cur.toList.drop (n * i.size+news.length)).toArray,?_,⟨GH,.inr ⟨g,cap,_,rfl,Nat.zero_le _,setRow_heap w g cur _ e _ hg,hroom,hcm,?_,?_⟩⟩,⟨rfl,rfl,rfl,by simp,fun k _ hk=>setRow_other w g k _ (fun e=>hk (by simp [Value.ownBlock,e]))⟩,fun k hk=>.inl hk⟩
   ·rcases hu with hu | ⟨e',hu⟩ <;> simp [Builtin.append_,h0,h1,run_underlying ht,run_underlying hu,Go.sizeOf,typeInfo,hi,hlen,hroom,hw0,Addr.add_lit,hst]
   ·simp only [List.size_toArray,au,dV,bQ,Array.length_toList]
    omega
   ·rw [tO,← GH]
    exact List.take_left
  ·have holds:∀ j u,xs[j]?=aa u→w.cell? ((⟨g,0,ah⟩:Addr).add j)=aa u:=hown.cells (g:=g) rfl
   have sx:=run_firstCells_some (P:=P) w.drew i.size n ⟨g,0,ah⟩ n cap xs hown.1 (by simpa using holds)
   have Sq:¬ (9223372036854775807 < ((n+m:ax):aB)):=by omega
   have Ox:¬ (281474976710656 < iO (n+m) cap * i.bytes):=by
    have:=growslice_fits (need:=n+m) (old:=cap) (by omega) hbytes;omega
   have hgr:=grown cap (by omega) (Value.ownBlock (.slice (aa ⟨g,0,ah⟩) n cap))
   refine ⟨_,_,?_,hgr.1,hgr.2,fun k hk=>.inr ?_⟩
   ·have VN:¬ (9223372036854775807 < ((n:aB)+(m:aB))):=by omega
    rcases hu with hu | ⟨e',hu⟩ <;> simp [Builtin.append_,h0,h1,run_underlying ht,run_underlying hu,Go.sizeOf,typeInfo,zeroValue,hi,hz,hlen,hroom,VN,Ox,Question.forced,hwd,sx,newRow,grownCap] <;> (congr 2;apply Array.ext';simp [List.append_assoc])
   ·simp [Value.ownBlock] at hk;omega
theorem Kq {l:ai AV} {k:ax} (hk:0 < k) (h:x.items k=aa l) (hx:Rel w F1 x vx) :
  ∃ news:ai aC,news.length=l.length * k∧(∀ q ∈ news,q.oneCell'=aj)∧(∀ w':az,(eB vx).run P w'=.ok l.length w') ∧
   (∀ w':az,(∀ b,b < w.heap.size→F1 b→w'.heap[b]?=w.heap[b]?)→(dQ k l.length vx).run P w'=.ok news.toArray w') ∧
   ∀ i j v,i < l.length→j < k→news[i * k+j]?=aa v→Rel w F1 ((l.getD i .un).cell j) v:=by
 unfold AV.items at h
 split at h
 ·rename_i k' l'
  split at h
  case isFalse=>cases h
  rename_i ZH
  cases h
  subst ZH
  rcases hx.Kp with ⟨rfl,a,c,rfl⟩ | ⟨r,off,c,xs,rfl,_,hc,hF,hl,hx2,h1,hr⟩
  ·refine ⟨[],by simp,by simp,fun w'=>by simp [eB],fun w' _=>?_,fun i j v hi=>by simp at hi⟩
   cases a <;> simp [dQ,loadCells,loadCellsFrom]
  ·refine ⟨xs,hl,h1,fun w'=>by simp [eB],fun w' hw'=>?_,hr⟩
   by_cases h0:l=[]
   ·subst h0
    have:xs=[]:=List.eq_nil_of_length_eq_zero (by simpa using hl)
    subst this
    simp [dQ,loadCells,loadCellsFrom]
   ·have I1:0 < xs.length:=by rw [hl];exact Nat.mul_pos (jv.2 h0) hk
    have hlt:r < w.heap.size:=cM (hx2 0 _ (List.getElem?_eq_getElem I1))
    refine run_firstCells_some w' k' l.length ⟨r,off,ah⟩ l.length c xs hl fun j v hv=>?_
    have lB:(⟨r,off,ah⟩:Addr).add j=⟨r,off+j,ah⟩:=by unfold Addr.add;split <;> simp_all
    rw [lB,← hx2 j v hv]
    exact aD (w:=w) (hw' r hlt hF)
 ·cases h
  cases hx
  exact ⟨[],by simp,by simp,fun w'=>by simp [eB],fun w' _=>by simp [dQ],fun i j v hi=>by simp at hi⟩
 ·split at h
  case isFalse=>cases h
  rename_i zE
  cases h
  subst zE
  cases hx with
  | s p =>
   have hlen:(p.data.toList.map AV.u8).length=p.size:=by simp
   refine ⟨strCells p,by rw [strCells_length,hlen];omega,strCells_oneCell p,fun w'=>by simp [eB],fun w' _=>?_,fun i j v hi hj hv=>?_⟩
   ·rw [hlen];exact run_firstCells_string w' 1 p
   ·have Sr:j=0:=by omega
    subst Sr
    have hi':i < p.data.toList.length:=by simpa using hi
    simp only [strCells,Nat.mul_one,Nat.add_zero] at hv
    rw [aM,List.getElem?_eq_getElem hi'] at hv
    cases hv
    have:(ib AV.u8 p.data.toList).getD i .un=.u8 p.data.toList[i]:=by rw [aK,aM,List.getElem?_eq_getElem hi'];rfl
    rw [this]
    exact .u8 _
 ·cases h
theorem uP {α:Type} (l m:ai α) (i:ax) (d:α) (h:i < l.length):(l ++ m).getD i d=l.getD i d:=by simp [List.getD,aX h]
theorem tR {α:Type} (l m:ai α) (i:ax) (d:α) (h:l.length≤i):(l ++ m).getD i d=m.getD (i - l.length) d:=by simp [List.getD,aS h]
theorem Ss (t u ty e:TypeId) (i:TypeInfo) (z:aC) (ht:P.underlying t=aa (.slice e)) (hi:P.info? e=aa i) (hz:i.zero=aa z) (hzs:z.cells.size=i.size) (hsz:0 < i.size)
  (hu:P.underlying u=aa .string∨∃ e',P.underlying u=aa (.slice e')) (ts:bF TypeId) (h0:ts[0]?=aa t) (h1:ts[1]?=aa u) (hby:0 < i.bytes)
  {l l':ai AV} (h:app i.bytes i.size l x=aa l') {v:aC} (hown:cY w F2 e i.size l v) (hx:Rel w F1 x vx) :
  ∃ v' w',(Builtin.append_ ts ty #[v,vx]).run P w=.ok v' w'∧w.grownBy w' v.ownBlock∧(∀ g,v'.ownBlock=aa g→(v.ownBlock=aa g∨w.heap.size≤g)∧g < w'.heap.size) ∧
   ∀ F:ax→Prop,(∀ b,b < w.heap.size→F2 b→F b∧v.ownBlock≠aa b)→(∀ b,b < w.heap.size→F1 b→F b∧v.ownBlock≠aa b)→cY w' F e i.size l' v':=by
 unfold app at h
 cases hm:x.items i.size with
 | none=>rw [hm] at h;cases h
 | some m =>
  rw [hm] at h
  simp only [Option.bind_some] at h
  split at h
  ·rename_i hb
   cases h
   obtain ⟨news,n1,n2,n3,n4,n5⟩:=Kq (P:=P) hsz hm hx
   obtain ⟨hk,xs,hown1,hc1,hr1⟩:=hown
   have hle:l.length+m.length≤big:=by
    have:(l.length+m.length) * 1≤(l.length+m.length) * i.bytes:=Nat.mul_le_mul_left _ hby
    omega
   obtain ⟨v',w',r1,r2,r3,r4⟩:=xO t u ty e i z ht hi hz hzs hsz hu ts h0 h1 v l.length xs hown1 m.length news n1 n2 n3 (fun w' hw'=>n4 w' fun b _ _=>by rw [hw'])
    (by unfold big at hle;unfold maxLen;omega) (by unfold big at hb;omega)
   refine ⟨v',w',r1,r3,fun g hg=>⟨r4 g hg,(r2.lt g hg).2⟩,fun F hF2 Vg=>⟨hk,xs ++ news,by simpa using r2,fun q hq=>?_,fun a j u ha hj hv=>?_⟩⟩
   ·rcases List.mem_append.1 hq with h | h
    ·exact hc1 q h
    ·exact n2 q h
   ·have hblk:∀ b,b < w.heap.size→v.ownBlock≠aa b→w'.heap[b]?=w.heap[b]?:=fun b hb hne=>r3.block b hb (fun e=>hne e.symm)
    by_cases Kr:a < l.length
    ·rw [uP _ _ _ _ Kr]
     have hlt:a * i.size+j < xs.length:=by
      rw [hown1.1]
      calc a * i.size+j < a * i.size+i.size:=by omega
       _=(a+1) * i.size:=by rw [dC,Nat.one_mul]
       _≤l.length * i.size:=bE _ Kr
     rw [aX hlt] at hv
     exact (hr1 a j u Kr hj hv).mono fun b hb zH=>⟨(hF2 b hb zH).1,hblk b hb (hF2 b hb zH).2⟩
    ·have Su:l.length≤a:=Nat.le_of_not_lt Kr
     rw [tR _ _ _ _ Su]
     have jz:xs.length≤a * i.size+j:=by
      rw [hown1.1]
      exact Nat.le_trans (bE _ Su) (Nat.le_add_right _ _)
     rw [aS jz] at hv
     have e1:a * i.size+j - xs.length=(a - l.length) * i.size+j:=by
      have hmul:l.length * i.size≤a * i.size:=bE _ Su
      rw [hown1.1,Nat.sub_mul]
      omega
     rw [e1] at hv
     have ha2:a - l.length < m.length:=by
      have:(l ++ m).length=l.length+m.length:=au
      omega
     exact (n5 (a - l.length) j u ha2 hj hv).mono fun b hb zH=>⟨(Vg b hb zH).1,hblk b hb (Vg b hb zH).2⟩
  ·cases h
end
def Kt (P:bn) (t:TypeId):EK→Prop
 | .b=>P.underlying t=aa .bool
 | .i=>∃ k,P.underlying t=aa (.int k)
 | .s=>P.underlying t=aa .string
structure VO (P:bn) (t:TypeId) (ks:ai EK):Prop where
 stood:P.stoodInHeld t=af
 guard:P.eqGuardType P.depth t=af
 fields:∃ fs:bF Field,P.underlying t=aa (.struct fs)∧fs.size=ks.length∧∀ (j:ax) (f:Field) (k:EK),fs.toList[j]?=aa f→ks[j]?=aa k→f.offset=j∧f.name ≠ "_" ∧ Kt P f.type k
structure gS (P:bn) (t:TypeId) (i:Ty):Prop where
 info:∃ inf z,P.info? t=aa inf∧inf.size=i.size∧inf.bytes=i.bytes∧inf.zero=aa z∧z.cells.toList.map JZ=i.zero∧z.cells.size=i.size∧∀ v ∈ z.cells.toList,v.oneCell'=aj
 und:match i.kd with
  | .bool=>P.underlying t=aa .bool
  | .int k=>P.underlying t=aa (.int k)
  | .str=>P.underlying t=aa .string
  | .slice=>P.underlying t=aa (.slice i.elem)
  | .struct=>∃ fs:bF Field,P.underlying t=aa (.struct fs)∧fs.toList.map (fun f=>(f.offset,f.type))=i.fields∧∀ f ∈ fs.toList,∃ inf,P.info? f.type=aa inf∧inf.size≠0
  | .ptr=>∃ e,P.underlying t=aa (.pointer e)
  | _=>∃ d,P.underlying t=aa d∧(match d with | .struct _ | .array _ _=>af | _=>aj)=aj
 pos:0 < i.size∧0 < i.bytes
 one:i.kd.agg=af→i.size=1
 fieldsOnly:i.kd≠.struct→i.fields=[]
 eqOk:∀ ks,i.eqk=aa ks→VO P t ks
section
variable {P:bn} {t:TypeId} {i:Ty}
theorem gS.size (h:gS P t i):(P.info? t).map (·.size)=aa i.size:=by
 obtain ⟨inf,z,h1,h2,_⟩:=h.info
 rw [h1];simp [h2]
theorem gS.xP (h:gS P t i) (w:az):(Go.sizeOf t).run P w=.ok i.size w:=by
 obtain ⟨inf,z,h1,h2,_⟩:=h.info
 simp [Go.sizeOf,typeInfo,h1,h2]
theorem gS.GI (h:gS P t i) (w:az):(isAgg t).run P w=.ok i.kd.agg w:=by
 have hu:=h.und
 unfold isAgg
 cases hk:i.kd <;> rw [hk] at hu <;> simp only at hu
 case struct=>obtain ⟨fs,h1,_⟩:=hu;simp [run_underlying h1,Kd.agg]
 case bool=>simp [run_underlying hu,Kd.agg]
 case int=>simp [run_underlying hu,Kd.agg]
 case str=>simp [run_underlying hu,Kd.agg]
 case slice=>simp [run_underlying hu,Kd.agg]
 case ptr=>obtain ⟨e,h1⟩:=hu;simp [run_underlying h1,Kd.agg]
 all_goals
  obtain ⟨d,h1,h2⟩:=hu
  cases d <;> simp_all [run_underlying h1,Kd.agg]
theorem gS.run_load (h:gS P t i) (hk:i.kd.agg=aj∨i.size=1) (w:az) (r off:ax) (vs:ai aC) (hl:vs.length=i.size)
  (hc:∀ j v,vs[j]?=aa v→w.cell? ⟨r,off+j,ah⟩=aa v):(loadVar t ⟨r,off,ah⟩).run P w=.ok (if i.kd.agg then .agg vs.toArray else vs.headD undef) w:=by
 have lB:∀ n,(⟨r,off,ah⟩:Addr).add n=⟨r,off+n,ah⟩:=fun n=>by unfold Addr.add;split <;> simp_all
 unfold loadVar
 rw [Sem.run_bind,h.GI w]
 simp only [Result.andThen_ok]
 cases ha:i.kd.agg with
 | true =>
  simp only [aO]
  simp only [Sem.run_bind,h.xP w,Result.andThen_ok]
  rw [← hl,run_loadCells_list w ⟨r,off,ah⟩ vs (fun j v hv=>by rw [lB];exact hc j v hv)]
  rfl
 | false =>
  have h1:i.size=1:=by
   rcases hk with h | h
   ·rw [ha] at h;cases h
   ·exact h
  rw [h1] at hl
  obtain ⟨v,rfl⟩:=eD.1 hl
  have:=hc 0 v rfl
  simp only [Nat.add_zero] at this
  simp [this]
theorem gS.run_store (h:gS P t i) (w:az) (g off:ax) (e:TypeId) (cur:ai aC) (x:aC) (news:ai aC) (hg:w.heap[g]?=aa (.cells cur.toArray e (0,0)))
  (hx:x.cells.toList=news) (hl:news.length=i.size) (kp:off+news.length≤cur.length) (h1:∀ v ∈ news,v.oneCell'=aj) :
  (storeVar t ⟨g,off,ah⟩ x).run P w=.ok () (w.setRow g (cur.take off ++ news ++ cur.drop (off+news.length)).toArray):=by
 have hst:=run_storeCells_at P g off e news 0 cur.toArray w hg (by simpa using kp) h1
 simp only [Nat.add_zero] at hst
 have hs:x.cells.size=i.size:=by rw [← hl,← hx];simp
 unfold storeVar
 rw [Sem.run_bind,h.xP w]
 simp only [Result.andThen_ok,hs]
 simp only [ne_eq,not_true_eq_false,aH,hx]
 exact hst
theorem gS.Ku (h:gS P t i) (w:az):∃ z,(zeroValue t).run P w=.ok z w∧z.cells.toList.map JZ=i.zero∧z.cells.size=i.size∧∀ v ∈ z.cells.toList,v.oneCell'=aj:=by
 obtain ⟨inf,z,h1,h2,h3,h4,h5,h6,h7⟩:=h.info
 exact ⟨z,by simp [zeroValue,typeInfo,h1,h4],h5,h6,h7⟩
theorem Sv {w w1 w2:az} {F1 F2:ax→Prop} {k:EK} {x y:AV} {vx vy:aC} {r:ay} (h:Oc k x y=aa r) (hx:Rel w1 F1 x vx) (hy:Rel w2 F2 y vy) (hs:Kt P t k) (d:ax) :
  (dL (d+1) t vx vy).run P w=.ok r w:=by
 unfold Oc at h
 split at h
 ·split at h
  ·cases h;cases hx;cases hy
   exact run_equalIn_bool' w d t _ _ hs
  ·cases h
 ·obtain ⟨k',oY⟩:=hs
  split at h
  ·rename_i p q
   cases h;cases hx;cases hy
   rw [run_equalIn_int w d t .u8 k' _ _ oY]
   congr 1
   by_cases e:p=q
   ·subst e;simp
   ·have:¬ ((p.toNat:aB)=(q.toNat:aB)):=fun e2=>e (UInt8.toNat_inj.1 (by omega))
    rw [beq_eq_false_iff_ne.2 this,beq_eq_false_iff_ne.2 e]
  ·cases h;cases hx;cases hy
   exact run_equalIn_int w d t .i64 k' _ _ oY
  ·split at h
   ·rename_i e
    subst e
    cases h;cases hx;cases hy
    exact run_equalIn_int w d t _ k' _ _ oY
   ·cases h
  ·cases h
 ·split at h
  ·cases h
   cases hx with
   | s p=>cases hy with
    | s q =>
     rw [run_equalIn_string w d t p q hs,toList_data,toList_data]
  ·cases h
theorem vO {w w1 w2:az} {F1 F2:ax→Prop} (d:ax) (xs ys:bF aC) (p q:ai AV) (hx:∀ j v,xs[j]?=aa v→Rel w1 F1 (p.getD j .un) v) (hy:∀ j v,ys[j]?=aa v→Rel w2 F2 (q.getD j .un) v)
  (hp:p.length=xs.size) (hq:q.length=ys.size):∀ (fs:ai Field) (ks:ai EK) (n:ax) (r:ay),fs.length=ks.length →
   (∀ (j:ax) (f:Field) (k:EK),fs[j]?=aa f→ks[j]?=aa k→f.offset=n+j∧f.name ≠ "_" ∧ Kt P f.type k)→eqs ks (p.drop n) (q.drop n)=aa r →
   (jC (d+1) xs ys fs).run P w=.ok r w
 | [],ks,n,r,hl,hf,h=>by
  cases ks with
  | cons k ks=>simp at hl
  | nil =>
   unfold eqs at h
   split at h <;> simp_all [jC]
 | f :: fs,[],n,r,hl,hf,h=>by simp at hl
 | f :: fs,k :: ks,n,r,hl,hf,h=>by
  obtain ⟨h1,h2,h3⟩:=hf 0 f k rfl rfl
  cases J0:p.drop n with
  | nil=>rw [J0] at h;cases q.drop n <;> simp [eqs] at h
  | cons a pr =>
   cases Vh:q.drop n with
   | nil=>rw [J0,Vh] at h;simp [eqs] at h
   | cons b qr =>
    rw [J0,Vh] at h
    simp only [eqs] at h
    cases hr1:Oc k a b with
    | none=>rw [hr1] at h;cases h
    | some r1 =>
     rw [hr1] at h
     simp only [Option.bind_some] at h
     cases hr2:eqs ks pr qr with
     | none=>rw [hr2] at h;cases h
     | some r2 =>
      rw [hr2] at h
      cases h
      have ha:p.getD n .un=a:=by rw [aK,show p[n]?=(p.drop n)[0]? by simp,J0];rfl
      have hb:q.getD n .un=b:=by rw [aK,show q[n]?=(q.drop n)[0]? by simp,Vh];rfl
      have Vi:n < xs.size:=by
       rw [← hp]
       rcases Nat.lt_or_ge n p.length with h | h
       ·exact h
       ·rw [iQ h] at J0;cases J0
      have hnq:n < ys.size:=by
       rw [← hq]
       rcases Nat.lt_or_ge n q.length with h | h
       ·exact h
       ·rw [iQ h] at Vh;cases Vh
      have gx:xs[n]?=aa xs[n]:=by simp [Vi]
      have gy:ys[n]?=aa ys[n]:=by simp [hnq]
      have rx:=hx n _ gx
      have ry:=hy n _ gy
      rw [ha] at rx
      rw [hb] at ry
      have hagg:(isAgg f.type).run P w=.ok af w:=by
       unfold isAgg
       cases k with
       | b=>simp [run_underlying (show P.underlying f.type=aa .bool from h3)]
       | i=>obtain ⟨k',oY⟩:=h3;simp [run_underlying oY]
       | s=>simp [run_underlying (show P.underlying f.type=aa .string from h3)]
      have e0:f.offset=n:=by simpa using h1
      have px:(part f.type xs f.offset).run P w=.ok xs[n] w:=by simp [part,hagg,e0,gx]
      have py:(part f.type ys f.offset).run P w=.ok ys[n] w:=by simp [part,hagg,e0,gy]
      have he:=Sv (w:=w) hr1 rx ry h3 d
      have ih:=vO (w:=w) d xs ys p q hx hy hp hq fs ks (n+1) r2 (by simpa using hl) (fun j f' k' hj hk=>by
       have:=hf (j+1) f' k' (by simpa using hj) (by simpa using hk)
       exact ⟨by omega,this.2⟩) (by
        have ep:p.drop (n+1)=pr:=by rw [← List.drop_drop,J0];rfl
        have eq:q.drop (n+1)=qr:=by rw [← List.drop_drop,Vh];rfl
        rw [ep,eq];exact hr2)
      simp only [jC,ne_eq,h2,not_false_eq_true,aO,Sem.run_bind,px,py,he,Result.andThen_ok]
      cases r1 with
      | true=>simp [ih]
      | false=>simp
theorem Kv {w w1 w2:az} {F1 F2:ax→Prop} {ks:ai EK} {op:BinOp} {x y:AV} {vx vy:aC} {r:AV} (h:nh ks op x y=aa r) (hx:Rel w1 F1 x vx) (hy:Rel w2 F2 y vy) (hs:VO P t ks) (ox oy:Operand) :
  ∃ v,(∀ w:az,(do eqGuard op t ox oy vx vy;binOp op t vx vy:Sem aC).run P w=.ok v w)∧Pl r v:=by
 unfold nh at h
 split at h
 ·rename_i p q
  cases hx with
  | ag _ xs hlx h1x hrx=>cases hy with
   | ag _ ys ZI h1y hry =>
    obtain ⟨fs,hu,hn,hf⟩:=hs.fields
    have sx:P.fieldsOf t=fs:=by simp [Program.fieldsOf,hu]
    have run:∀ (w:az) r',eqs ks p q=aa r'→(Op.equal t (.agg xs.toArray) (.agg ys.toArray)).run P w=.ok r' w:=fun w r' A6=>by
     have:=run_equalIn_struct (P:=P) w 9999 t xs.toArray ys.toArray (by rw [sx];exact hu) hs.stood
     rw [show Op.equal t (.agg xs.toArray) (.agg ys.toArray)=dL (9999+1) t (.agg xs.toArray) (.agg ys.toArray) from rfl,this,sx]
     exact vO (w1:=w1) (w2:=w2) (F1:=F1) (F2:=F2) 9998 xs.toArray ys.toArray p q (fun j v hv=>hrx j v (by simpa using hv)) (fun j v hv=>hry j v (by simpa using hv)) (by simpa using hlx) (by simpa using ZI)
      fs.toList ks 0 r' (by simpa using hn) (fun j f k h1 h2=>by have:=hf j f k h1 h2;simpa using this) (by simpa using A6)
    have gd:∀ w:az,(eqGuard op t ox oy (.agg xs.toArray) (.agg ys.toArray)).run P w=.ok () w:=fun w=>by
     unfold eqGuard
     cases op <;> simp [hs.guard]
    simp only [Sem.run_bind,gd,Result.andThen_ok]
    split at h
    ·cases hr:eqs ks p q with
     | none=>rw [hr] at h;cases h
     | some r'=>rw [hr] at h;cases h;exact ⟨_,fun w=>by simp [binOp,run w _ hr],fun w F=>.b _⟩
    ·cases hr:eqs ks p q with
     | none=>rw [hr] at h;cases h
     | some r'=>rw [hr] at h;cases h;exact ⟨_,fun w=>by simp [binOp,run w _ hr],fun w F=>.b _⟩
    ·cases h
 ·cases h
end
def zJ:ai aC→aC
 | [x]=>x
 | vs=>.tuple vs.toArray
def sy (n:ax) (r:AV) (j:ax):AV:=if n=1 then r else r.comp j
def mG (ks:ai (ak (ax×ax))) (w w':az) (F:ax→Prop) (r:AV) (v:aC):Prop :=
 if ks.all Option.isNone=aj then Rel w' (fun b=>b < w.heap.size→F b) r v
 else ∃ vs:ai aC,vs.length=ks.length∧v=zJ vs ∧
  (∀ (j:ax) (x:aC) (o:ak (ax×ax)),vs[j]?=aa x→ks[j]?=aa o →
   match o with
   | some (e,k)=>cY w' (fun b=>(b < w.heap.size→F b)∧∀ (i:ax) (y:aC) (p:ax×ax),vs[i]?=aa y→ks[i]?=aa (aa p)→y.ownBlock≠aa b) e k (sy vs.length r j).elems x∧∀ g,x.ownBlock=aa g→w.heap.size≤g
   | none=>Rel w' (fun b=>(b < w.heap.size→F b)∧∀ (i:ax) (y:aC) (p:ax×ax),vs[i]?=aa y→ks[i]?=aa (aa p)→y.ownBlock≠aa b) (sy vs.length r j) x) ∧
  ∀ (i j:ax) (x y:aC) (p q:ax×ax) (g:ax),i≠j→vs[i]?=aa x→vs[j]?=aa y→ks[i]?=aa (aa p)→ks[j]?=aa (aa q)→x.ownBlock=aa g→y.ownBlock≠aa g
def np (C:jT) (g:ax) (w:az) (F:ax→Prop) (r:AV) (e:Ending) (w':az):Prop :=
 ∃ v,e=.returned v∧Ext w w'∧mG (C.own g) w w' F r v
def kZ (P:bn) (g:ax) (vs:bF aC) (w:az) (R:Ending→az→Prop):Prop :=
 (∃ fn c,P.funcs[g]?=aa fn∧fn.body=aa c∧(fn.name == "runtime.NumGoroutine")=af∧Calls P g vs w R)∨∃ v,(callFunc g vs).run P w=.ok (.value v) w∧R (.returned v) w
def cG (C:jT) (w:az) (F:ax→Prop):Prop:=∀ g k e,C.glob g=aa (k,e)→fL w F (fun _=>ah) (fun _=>ah) (.pK k e 0) (.pointer (aa ⟨g,0,ah⟩))
def Kw (C:jT) (P:bn) (g:ax) (fn:Func) (sg:A4) (w:az) (F0:Fs) (r:AV) (e:Ending) (w':az):Prop :=
 ∃ v,e=.returned v∧∃ (st:St) (a:Act) (H:ax→ak aC) (σ:ax→ak ax),Inv C w F0 fn.ntmps st a w' H σ∧tM C g fn.ntmps sg fn st=aa r∧(results fn a.tmps).run P w'=.ok v w'
def oq (C:jT) (P:bn) (call:ax→ai AV→ak AV):Prop :=
 (∀ (g:ax) (args:ai AV) (r:AV),call g args=aa r→C.sig g=ah→∀ (w:az) (F:ax→Prop) (vs:bF aC),cG C w F→vs.size=args.length →
  (∀ (j:ax) (a:AV) (v:aC),args[j]?=aa a→vs[j]?=aa v→Rel w F a v)→kZ P g vs w (np C g w F r)) ∧
 (∀ (g:ax) (sg:A4) (args:ai AV) (r:AV),call g args=aa r→C.sig g=aa sg→∃ fn,P.funcs[g]?=aa fn∧sg.ps.length≤fn.ntmps∧args.length=sg.ps.length+sg.objs.length ∧
  ∀ (w:az) (F0:Fs) (vs:bF aC) (H:ax→ak aC) (σ:ax→ak ax),vs.size=sg.ps.length →
   Inv C w F0 fn.ntmps (GG fn.ntmps sg args) ⟨vs ++ Array.replicate (fn.ntmps - vs.size) undef,[]⟩ w H σ→kZ P g vs w (Kw C P g fn sg w F0 r))
section
variable {C:jT} {P:bn} {w0:az} {F0:Fs} {nt:ax} {st:St} {a:Act} {w:az} {H:ax→ak aC} {σ:ax→ak ax} {R:Type} {K:St→ak R} {r:R}
def Only (d:ak ax) (a a':Act):Prop:=∀ t,d≠aa t→a'.tmps.getD t undef=a.tmps.getD t undef
theorem Only.put (a:Act) (d:ak ax) (v:aC):Only d a (a.put d v):=fun t ht=>by
 cases d with
 | none=>rfl
 | some d =>
  simp only [Act.put,Array.getD_eq_getD_getElem?]
  rw [Array.getElem?_setIfInBounds_ne (fun e=>ht (by rw [e]))]
def vP (P:bn) (o:Oper) (a:Act) (S:az→Prop) (v:aC):Prop:=∀ w',S w'→(execOp a.eval o).run P w'=.ok (.value v) w'
theorem Inv.get (h:Inv C w0 F0 nt st a w H σ) (x:Operand):fL w (Fr w0.heap.size F0 H σ) H σ (st.get C x) (a.eval x):=by
 cases x with
 | tmp t=>exact h.env t
 | const v =>
  show fL w _ H σ (Sb v) v
  unfold Sb
  split
  ·rename_i cs
   cases hb:cs.toList.all Value.oneCell' with
   | false=>trivial
   | true =>
    have hall:=List.all_eq_true.1 hb
    refine ⟨cs.toList,by simp,by simp,fun j c v h1 h2=>?_⟩
    rw [aM,h2] at h1
    cases h1
    have:=hall v (aV h2)
    exact ⟨this,uO v this _ _⟩
  ·trivial
  ·rename_i h1 h2
   exact uO v (by cases v <;> first | rfl | exact absurd rfl (h1 _) | exact absurd rfl (h2 _)) _ _
 | func f=>exact Rel.fn f
 | global g =>
  show fL w _ H σ (match C.glob g with | some (k,e)=>.pK k e 0 | none=>.dead) (.pointer (aa ⟨g,0,ah⟩))
  cases hg:C.glob g with
  | none=>trivial
  | some p=>exact h.glob g p.1 p.2 hg
theorem fL.cP {F:ax→Prop} {e:cQ} {x:aC} (h:fL w F H σ e x):e.cP=.un∨Rel w T e.cP x:=by
 have hT:∀ b,b < w.heap.size→F b→T b∧w.heap[b]?=w.heap[b]?:=fun _ _ _=>⟨trivial,rfl⟩
 cases e with
 | cell c=>cases c with
  | dead=>exact .inl rfl
  | val v=>exact .inr (Rel.mono hT h)
  | own i e k l=>exact .inr (h.2.rel (fun _ _ _=>trivial) fun _ _=>trivial)
  | ptr s off=>exact .inl rfl
  | lr g ss=>exact .inl rfl
 | agg cs =>
  obtain ⟨vs,rfl,hl,hv⟩:=h
  have hc:∀ (j:ax) (v:aC),vs[j]?=aa v→v.oneCell'=aj∧Rel w T ((cs.map Cell.cP).getD j .un) v:=fun j v hj=>by
   have hlt:j < cs.length:=by rw [← hl];exact (List.getElem?_eq_some_iff.1 hj).1
   have oT:=hv j cs[j] v (List.getElem?_eq_getElem hlt) hj
   have e:(cs.map Cell.cP).getD j .un=cs[j].cP:=by rw [aK,aM,List.getElem?_eq_getElem hlt];rfl
   rw [e]
   cases hcc:cs[j] with
   | dead=>rw [hcc] at oT;exact ⟨oT,.un oT⟩
   | val u=>rw [hcc] at oT;exact ⟨oT.1,Rel.mono hT oT.2⟩
   | own i e k l=>rw [hcc] at oT;exact ⟨Value.fX oT.2,oT.2.rel (fun _ _ _=>trivial) fun _ _=>trivial⟩
   | ptr s off=>rw [hcc] at oT;obtain ⟨r,_,rfl⟩:=oT;exact ⟨rfl,.un rfl⟩
   | lr g ss=>rw [hcc] at oT;obtain ⟨rs,_,rfl,_⟩:=oT;exact ⟨rfl,.un rfl⟩
  exact .inr (.ag _ vs (by simp [hl]) (fun v hm=>by obtain ⟨j,hj⟩:=eX hm;exact (hc j v hj).1) fun j v hj=>(hc j v hj).2)
 | pK k e off=>exact .inl rfl
 | nN i e k l n off=>exact .inl rfl
 | uJ r ks=>exact .inl rfl
theorem fW {dst:ak ax} {o:ak AV} (h:lift st dst K o=aa r):∃ v,o=aa v∧K (st.put dst (.val v))=aa r:=by
 unfold lift at h
 cases o with
 | none=>cases h
 | some v=>exact ⟨v,rfl,h⟩
def uQ (C:jT) (P:bn) (w0:az) (F0:Fs) (nt:ax) (a:Act) (w:az) (σ:ax→ak ax) (K:St→ak R) (r:R) (o:Oper) (S:az→Prop):Prop :=
 ∃ v,vP P o a S v∧∃ st' H',K st'=aa r∧Inv C w0 F0 nt st' (a.put o.dst v) w H' σ
theorem l6 (h:Inv C w0 F0 nt st a w H σ) {o:Oper} (hd:∀ t,o.dst=aa t→t < nt) {v:aC} {x:AV} {S:az→Prop} (hv:vP P o a S v) (hx:Pl x v) (hK:K (st.put o.dst (.val x))=aa r) :
  uQ C P w0 F0 nt a w σ K r o S:=⟨v,hv,_,H,hK,h.put hd (hx _ _)⟩
theorem GJ {o:Oper} {x:Operand} (ho:o.op=.move x∨o.op=.assign x) (h:Inv C w0 F0 nt st a w H σ) (hd:∀ t,o.dst=aa t→t < nt) (hK:K (st.put o.dst (st.get C x))=aa r) (S:az→Prop) :
  uQ C P w0 F0 nt a w σ K r o S :=
 ⟨a.eval x,fun w' _=>by rcases ho with ho | ho <;> simp [execOp,ho],_,H,hK,h.put hd (h.get x)⟩
theorem uR {o:Oper} {op:BinOp} {t u:TypeId} {x y:Operand} (ho:o.op=.binOp op t x y u) (h:Inv C w0 F0 nt st a w H σ) (hd:∀ t,o.dst=aa t→t < nt)
  {f:AV→AV→ak AV} (hf:∀ (vx vy:aC) (p q z:AV) , f p q=aa z→Rel w T p vx→Rel w T q vy→∃ v,(∀ w':az,(do eqGuard op t x y vx vy;binOp op t vx vy:Sem aC).run P w'=.ok v w')∧Pl z v)
  (ZJ:∀ q,f .un q=ah) (ZK:∀ p,f p .un=ah) (hK:lift st o.dst K (f (st.get C x).cP (st.get C y).cP)=aa r) (S:az→Prop):uQ C P w0 F0 nt a w σ K r o S:=by
 obtain ⟨z,hz,hK⟩:=fW hK
 have rx:=(h.get x).cP
 have ry:=(h.get y).cP
 rcases rx with e | rx
 ·rw [e,ZJ] at hz;cases hz
 ·rcases ry with e | ry
  ·rw [e,ZK] at hz;cases hz
  ·obtain ⟨v,hv,hp⟩:=hf _ _ _ _ _ hz rx ry
   exact l6 h hd (fun w' _=>by simp only [execOp,ho];rw [Sem.run_bind,hv w'];rfl) hp hK
def xQ (ws:ai ax) (σ:ax→ak ax) (w:az) (S:az→Prop):Prop:=∀ w',S w'→∀ b,b < w.heap.size→(∀ s ∈ ws,σ s≠aa b)→w'.heap[b]?=w.heap[b]?
theorem xQ.self (ws:ai ax) (σ:ax→ak ax) (w:az):xQ ws σ w (· = w):=fun w' h _ _ _=>by rw [h]
theorem VP {o:Oper} {op:UnOp} {t:TypeId} {x:Operand} (ho:o.op=.unOp op t x) (h:Inv C w0 F0 nt st a w H σ) (hd:∀ t,o.dst=aa t→t < nt)
  (hK:lift st o.dst K (unop op (st.get C x).cP)=aa r) (S:az→Prop):uQ C P w0 F0 nt a w σ K r o S:=by
 obtain ⟨z,hz,hK⟩:=fW hK
 rcases (h.get x).cP with e | rx
 ·rw [e] at hz;cases op <;> cases hz
 ·obtain ⟨v,hv,hp⟩:=Oo (P:=P) hz rx
  exact l6 h hd (fun w' _=>by simp only [execOp,ho];rw [Sem.run_bind,hv w'];rfl) hp hK
theorem A8 {o:Oper} {t:TypeId} {x:Operand} {n:ax} (ho:o.op=.fieldAddr t x n) (hT:∀ t i,C.ty t=aa i→gS P t i) (h:Inv C w0 F0 nt st a w H σ) (hd:∀ t,o.dst=aa t→t < nt)
  (hK:(match mg C t n,st.get C x with
   | some (off,_),.cell (.ptr s o')=>K (st.put o.dst (.cell (.ptr s (o'+off))))
   | some (off,_),.pK k e o'=>K (st.put o.dst (.pK k e (o'+off)))
   | some (off,_),.nN id e k l n o'=>K (st.put o.dst (.nN id e k l n (o'+off)))
   | some (off,_),.cell (.val (.pt l))=>K (st.put o.dst (.pK l.length (.ag l) off))
   | _,_=>ah)=aa r) (S:az→Prop):uQ C P w0 F0 nt a w σ K r o S:=by
 cases sx:mg C t n with
 | none=>rw [sx] at hK;cases hK
 | some p =>
  obtain ⟨off,ft⟩:=p
  rw [sx] at hK
  unfold mg at sx
  cases hi:C.ty t with
  | none=>rw [hi] at sx;cases sx
  | some i =>
   rw [hi] at sx
   simp only [Option.bind_some] at sx
   have hu:=(hT t i hi).und
   have hst:i.kd=.struct∨i.kd≠.struct:=by cases i.kd <;> simp
   have hr:=h.get x
   have main:∀ (b q:ax) (e:cQ),i.kd=.struct→a.eval x=.pointer (aa ⟨b,q,ah⟩)→fL w (Fr w0.heap.size F0 H σ) H σ e (.pointer (aa ⟨b,q+off,ah⟩))→K (st.put o.dst e)=aa r→uQ C P w0 F0 nt a w σ K r o S:=by
    intro b q e hk hq he hK
    rw [hk] at hu
    obtain ⟨fs,h1,h2,h3⟩:=hu
    have ZL:fs.toList[n]?≠ah:=fun e=>by
     rw [← h2,aM,e] at sx;cases sx
    obtain ⟨fl,Vj⟩:=gW.1 ZL
    have Oy:fl.offset=off:=by rw [← h2,aM,Vj] at sx;simp at sx;exact sx.1
    obtain ⟨inf,h4,h5⟩:=h3 fl (aV Vj)
    have Sw:fs[n]?=aa fl:=by rw [← Array.getElem?_toList];exact Vj
    refine ⟨.pointer (aa ⟨b,q+off,ah⟩),fun w' _=>?_,_,H,hK,h.put hd he⟩
    have lB:(⟨b,q,ah⟩:Addr).add off=⟨b,q+off,ah⟩:=by unfold Addr.add;split <;> simp_all
    have hsz:(Go.sizeOf fl.type).run P w'=.ok inf.size w':=by simp [Go.sizeOf,typeInfo,h4]
    simp only [execOp,ho,hq]
    simp [Instr.fieldAt,run_underlying h1,Sw,Instr.sureAddr,fieldPlace,hsz,h5,Oy,lB]
   have mA:i.kd=.struct:=by
    rcases hst with h | h
    ·exact h
    ·exfalso
     have:=(hT t i hi).fieldsOnly h
     rw [this] at sx
     cases sx
   cases jz:st.get C x with
   | cell c=>cases c with
    | ptr s o' =>
     rw [jz] at hr hK
     obtain ⟨b,hb,hx⟩:=hr
     exact main b o' (.cell (.ptr s (o'+off))) mA hx ⟨b,hb,rfl⟩ hK
    | val v=>cases v with
     | pt l =>
      rw [jz] at hr hK
      have hr:Rel w (Fr w0.heap.size F0 H σ) (.pt l) (a.eval x):=hr
      generalize vQ:a.eval x=X at hr
      cases hr with
      | pt _ r xs h0 hF hl hx h1 wY =>
       refine main r 0 (.pK l.length (.ag l) off) mA vQ ⟨r,0,rfl,hF,?_,fun j hj=>?_⟩ hK
       ·exact cM (hx 0 (xs[0]'(by omega)) (List.getElem?_eq_getElem (by omega)))
       ·have hj':j < xs.length:=by omega
        exact ⟨xs[j],by rw [Nat.zero_add];exact hx j _ (List.getElem?_eq_getElem hj'),h1 _ (List.getElem_mem hj'),wY j _ (List.getElem?_eq_getElem hj')⟩
     | _=>rw [jz] at hK;cases hK
    | _=>rw [jz] at hK;cases hK
   | pK k e o' =>
    rw [jz] at hr hK
    obtain ⟨b,q,hx,h1,h2,h3⟩:=hr
    exact main b (q+o') (.pK k e (o'+off)) mA hx ⟨b,q,by rw [Nat.add_assoc],h1,h2,h3⟩ hK
   | nN id e k l m o' =>
    rw [jz] at hr hK
    obtain ⟨g,m',cap,h1,h2,h3,hx⟩:=hr
    exact main g (m * k+o') (.nN id e k l m (o'+off)) mA hx ⟨g,m',cap,h1,h2,h3,by rw [Nat.add_assoc]⟩ hK
   | _=>rw [jz] at hK;cases hK
theorem Ky {o:Oper} {t:TypeId} {x y:Operand} (ho:o.op=.index t x y) (hT:∀ t i,C.ty t=aa i→gS P t i) (h:Inv C w0 F0 nt st a w H σ) (hd:∀ t,o.dst=aa t→t < nt) (hk:C.kd t=aa .str)
  (hK:lift st o.dst K (jU (st.get C x).cP (st.get C y).cP)=aa r) (S:az→Prop):uQ C P w0 F0 nt a w σ K r o S:=by
 obtain ⟨z,hz,hK⟩:=fW hK
 unfold jT.kd at hk
 cases hi:C.ty t with
 | none=>rw [hi] at hk;cases hk
 | some i =>
  rw [hi] at hk
  simp only [aY,Option.some.injEq] at hk
  have hu:=(hT t i hi).und
  rw [hk] at hu
  rcases (h.get x).cP with e | rx
  ·rw [e] at hz;cases hz
  ·rcases (h.get y).cP with e | ry
   ·rw [e] at hz
    unfold jU pN at hz
    split at hz <;> simp [AV.rL] at hz
   ·obtain ⟨v,hv,hp⟩:=Ov (P:=P) hz rx ry t hu
    exact l6 h hd (fun w' _=>by simp only [execOp,ho];rw [Sem.run_bind,hv w'];rfl) hp hK
theorem Oz {o:Oper} {t:TypeId} {x:Operand} (ho:o.op=.load t x) (hT:∀ t i,C.ty t=aa i→gS P t i) (h:Inv C w0 F0 nt st a w H σ) (hd:∀ t,o.dst=aa t→t < nt)
  (hK:uK C t (st.get C x) o.dst st K=aa r) {ws:ai ax} {S:az→Prop} (hS:xQ ws σ w S) (pX:∀ s off,st.get C x=.cell (.ptr s off)→s ∉ ws):uQ C P w0 F0 nt a w σ K r o S:=by
 have hr:=h.get x
 unfold uK at hK
 cases hi:C.ty t with
 | none=>rw [hi] at hK;cases hK
 | some i =>
  rw [hi] at hK
  simp only at hK
  have ht:=hT t i hi
  have key:∀ (b off:ax) (vs:ai aC) (e:cQ),a.eval x=.pointer (aa ⟨b,off,ah⟩)→vs.length=i.size→(∀ w',S w'→∀ (j:ax) (v:aC),vs[j]?=aa v→w'.cell? ⟨b,off+j,ah⟩=aa v)→(i.kd.agg=aj∨i.size=1) →
    fL w (Fr w0.heap.size F0 H σ) H σ e (if i.kd.agg then .agg vs.toArray else vs.headD undef)→K (st.put o.dst e)=aa r→uQ C P w0 F0 nt a w σ K r o S:=by
   intro b off vs e hx hl hc nR he hK
   refine ⟨_,fun w' hw'=>?_,_,H,hK,h.put hd he⟩
   have:=ht.run_load nR w' b off vs hl (hc w' hw')
   simp only [execOp,ho,hx]
   simp only [Instr.loadAt,Instr.sureAddr,Sem.run_bind,Sem.run_pure,Result.andThen_ok,this]
  have GK:∀ {b q off:ax} (e:AV),(∀ j,j < i.size→∃ v,w.cell? ⟨b,q+(off+j),ah⟩=aa v∧v.oneCell'=aj∧Rel w (Fr w0.heap.size F0 H σ) (e.cell (off+j)) v)→a.eval x=.pointer (aa ⟨b,q+off,ah⟩) →
    (∀ w',S w'→w'.heap[b]?=w.heap[b]?)→K (st.put o.dst (km i.kd.agg ((List.range i.size).map fun j=>.val (e.cell (off+j)))))=aa r→uQ C P w0 F0 nt a w σ K r o S:=by
   intro b q off e hc hx pY hK
   have QX:∀ j,j < i.size→∃ v,w.cell? ⟨b,q+off+j,ah⟩=aa v∧v.oneCell'=aj∧Rel w (Fr w0.heap.size F0 H σ) (e.cell (off+j)) v:=fun j hj=>by
    obtain ⟨v,h1,h2⟩:=hc j hj
    rw [← Nat.add_assoc] at h1
    exact ⟨v,h1,h2⟩
   have uS:∀ j v,((List.range i.size).map fun j=>(w.cell? ⟨b,q+off+j,ah⟩).getD undef)[j]?=aa v→j < i.size∧w.cell? ⟨b,q+off+j,ah⟩=aa v∧v.oneCell'=aj∧Rel w (Fr w0.heap.size F0 H σ) (e.cell (off+j)) v:=fun j v hv=>by
    rw [aM] at hv
    by_cases hj:j < i.size
    ·rw [dU hj] at hv
     obtain ⟨u,h1,h2,h3⟩:=QX j hj
     simp only [aY,h1,Option.getD_some,Option.some.injEq] at hv
     subst hv
     exact ⟨hj,h1,h2,h3⟩
    ·rw [List.getElem?_eq_none (by simp;omega)] at hv;cases hv
   have hl:((List.range i.size).map fun j=>(w.cell? ⟨b,q+off+j,ah⟩).getD undef).length=i.size:=by simp
   have hcw:∀ w',S w'→∀ (j:ax) (v:aC),((List.range i.size).map fun j=>(w.cell? ⟨b,q+off+j,ah⟩).getD undef)[j]?=aa v→w'.cell? ⟨b,q+off+j,ah⟩=aa v:=fun w' hw' j v hv=>by
    rw [← (uS j v hv).2.1]
    exact aD (w:=w) (a:=⟨b,q+off+j,ah⟩) (pY w' hw')
   cases nR:i.kd.agg with
   | true =>
    refine key b (q+off) _ _ hx hl hcw (.inl nR) ?_ hK
    rw [nR]
    refine ⟨_,rfl,by simp,fun j c v hc' hv=>?_⟩
    obtain ⟨hj,h1,h2,h3⟩:=uS j v hv
    rw [aM,dU hj] at hc'
    cases hc'
    exact ⟨h2,h3⟩
   | false =>
    have h1:=ht.one nR
    refine key b (q+off) _ _ hx hl hcw (.inr h1) ?_ hK
    rw [nR,h1]
    obtain ⟨v,g1,g2,g3⟩:=QX 0 (by omega)
    simp only [List.range_one,List.map_cons,List.map_nil,km,bB,gX,g1,Option.getD_some]
    exact g3
  split at hK
  ·rename_i s off jz
   rw [jz] at hr
   obtain ⟨b,hb,hx⟩:=hr
   split at hK
   ·rename_i cs hcs
    cases hle:bL (off+i.size) cs.length with
    | false=>rw [hle] at hK;cases hK
    | true =>
     rw [hle] at hK
     have A9:=aU hle
     obtain ⟨b',vs,e,h1,h2,h3,h4⟩:=h.mem s cs hcs
     have qV:b'=b:=by rw [hb] at h1;exact (Option.some.inj h1).symm
     subst qV
     have hlt:=(h.sown s b' hb).2
     have hl:((vs.drop off).take i.size).length=i.size:=by simp;omega
     have pY:∀ w',S w'→w'.heap[b']?=w.heap[b']?:=fun w' hw'=>hS w' hw' b' hlt fun s' hs' e'=>by
      by_cases YO:s'=s
      ·subst YO;exact pX _ _ jz hs'
      ·exact h.ss s' s b' YO e' hb
     have hcell:∀ j v,((vs.drop off).take i.size)[j]?=aa v→vs[off+j]?=aa v:=fun j v hv=>by
      rw [bJ,List.getElem?_drop] at hv
      split at hv
      ·exact hv
      ·cases hv
     have hvc:∀ w',S w'→∀ j v,((vs.drop off).take i.size)[j]?=aa v→w'.cell? ⟨b',off+j,ah⟩=aa v:=fun w' hw' j v hv=>by
      rw [cell_of_row w' b' (off+j) vs.toArray e (0,0) (by rw [pY w' hw'];exact h2)]
      simpa using hcell j v hv
     cases nR:i.kd.agg with
     | true =>
      refine key b' off _ (.agg ((cs.drop off).take i.size)) hx hl hvc (.inl nR) ?_ (by rw [nR] at hK;exact hK)
      rw [nR]
      refine ⟨_,rfl,by simp;omega,fun j c v hc hv=>?_⟩
      have hc':cs[off+j]?=aa c:=by
       rw [bJ,List.getElem?_drop] at hc
       split at hc
       ·exact hc
       ·cases hc
      exact h4 (off+j) c v hc' (hcell j v hv)
     | false =>
      have VQ:=ht.one nR
      have VR:off < cs.length:=by omega
      have VS:off < vs.length:=by omega
      have e1:(vs.drop off).take i.size=[vs[off]]:=by rw [VQ];rw [dA VS];rfl
      have e2:(cs.drop off).take i.size=[cs[off]]:=by rw [VQ];rw [dA VR];rfl
      refine key b' off _ (.cell cs[off]) hx hl hvc (.inr VQ) ?_ (by rw [nR,e2] at hK;exact hK)
      rw [nR,e1]
      simp only [gX]
      have:=h4 off cs[off] vs[off] (List.getElem?_eq_getElem VR) (List.getElem?_eq_getElem VS)
      cases hcc:cs[off] with
      | dead=>trivial
      | val u=>rw [hcc] at this;exact this.2
      | own i e k l=>rw [hcc] at this;exact this
      | ptr s o=>rw [hcc] at this;exact this
      | lr g ss=>rw [hcc] at this;exact this
   ·cases hK
  ·rename_i k e off jz
   rw [jz] at hr
   obtain ⟨b,q,hx,hF,hlt,hj⟩:=hr
   cases hle:bL (off+i.size) k with
   | false=>rw [hle] at hK;cases hK
   | true =>
    rw [hle] at hK
    exact GK e (fun j hj'=>hj (off+j) (by have:=aU hle;omega)) hx (fun w' hw'=>hS w' hw' b hlt fun s _ e=>hF.2.2 s e) hK
  ·rename_i id e k l n off jz
   rw [jz] at hr
   obtain ⟨g,m,cap,hH,hown,hn,hx⟩:=hr
   cases hle:bL (off+i.size) k with
   | false=>rw [hle] at hK;cases hK
   | true =>
    rw [hle] at hK
    have A9:=aU hle
    have hg:=h.hown id _ g hH rfl
    obtain ⟨vM,xs,⟨GL,h2⟩,hc1,wY⟩:=hown
    rcases h2 with ⟨h2,_⟩ | ⟨g',cap',cur,h2,_,EI,_,_,_,tO⟩
    ·cases h2
    ·cases h2
     have hcell:∀ j,j < i.size→∃ v,w.cell? ⟨g,n * k+(off+j),ah⟩=aa v∧v.oneCell'=aj∧Rel w (Fr w0.heap.size F0 H σ) ((l.getD n .un).cell (off+j)) v:=fun j hj=>by
      have hlt:n * k+(off+j) < xs.length:=by
       rw [GL]
       calc n * k+(off+j) < n * k+k:=by omega
        _=(n+1) * k:=by rw [dC,Nat.one_mul]
        _≤l.length * k:=bE _ hn
      obtain ⟨u,zX⟩:∃ u,xs[n * k+(off+j)]?=aa u:=⟨_,List.getElem?_eq_getElem hlt⟩
      refine ⟨u,?_,hc1 _ (aV zX),wY n (off+j) _ hn (by omega) zX⟩
      rw [cell_of_row w g _ cur e (0,0) EI]
      rw [← tO,bJ] at zX
      split at zX
      ·simpa using zX
      ·cases zX
     refine GK (q:=n * k) (l.getD n .un) (fun j hj'=>hcell j hj') hx (fun w' hw'=>hS w' hw' g hg.2 fun s _ e=>h.hs id s _ g hH e rfl) hK
  ·cases hK
theorem jD {t:ax} {k:Kd} (h:C.kd t=aa k):∃ i,C.ty t=aa i∧i.kd=k:=by
 unfold jT.kd at h
 cases hi:C.ty t with
 | none=>rw [hi] at h;cases h
 | some i=>rw [hi] at h;exact ⟨i,rfl,by simpa using h⟩
theorem Kz {t:TypeId} {i:Ty} (h:gS P t i):(P.underlying t).isSome=aj:=by
 have hu:=h.und
 cases hk:i.kd <;> rw [hk] at hu <;> simp only at hu
 case struct=>obtain ⟨fs,h1,_⟩:=hu;rw [h1];rfl
 case ptr=>obtain ⟨d,h1⟩:=hu;rw [h1];rfl
 case func=>obtain ⟨d,h1,_⟩:=hu;rw [h1];rfl
 case other=>obtain ⟨d,h1,_⟩:=hu;rw [h1];rfl
 all_goals rw [hu];rfl
theorem oF (h:Inv C w0 F0 nt st a w H σ) (x:Operand) {z:AV} (f:AV→ak AV) (hf:f .un=ah) (hz:f (st.get C x).cP=aa z):Rel w T (st.get C x).cP (a.eval x):=by
 rcases (h.get x).cP with e | rx
 ·rw [e,hf] at hz;cases hz
 ·exact rx
def cQ.oQ (e:cQ) (ids:ai ax):cQ:=ids.foldl (fun e i=>e.fz i) e
theorem Cell.Ba (i:ax) (c:Cell):(c.fz i).cP=c.cP:=by
 cases c with
 | own j e k l=>simp only [Cell.fz,cH];split <;> rfl
 | _=>rfl
theorem Cell.wZ (i:ax) (c:Cell):(c.fz i).told=c.told:=by
 cases c with
 | own j e k l=>simp only [Cell.fz,cH];split <;> rfl
 | _=>rfl
theorem cQ.Ba (i:ax) (e:cQ):(e.fz i).cP=e.cP:=by
 cases e with
 | cell c=>exact Cell.Ba i c
 | agg cs=>simp only [cQ.fz,cQ.cP,fe];congr 1;exact jr fun c _=>Cell.Ba i c
 | nN j e k l n off=>simp only [cQ.fz,cH];split <;> rfl
 | _=>rfl
theorem cQ.wZ (i:ax) (e:cQ):(e.fz i).told=e.told:=by
 cases e with
 | cell c=>exact Cell.wZ i c
 | agg cs =>
  simp only [cQ.fz,cQ.told,List.all_map]
  congr 1
  funext c
  exact Cell.wZ i c
 | nN j e k l n off=>simp only [cQ.fz,cH];split <;> rfl
 | _=>rfl
theorem Cell.Bb (i j:ax) (c:Cell) (h:j ∈ (c.fz i).ids):j ∈ c.ids∧j≠i:=by
 cases c with
 | own k e m l =>
  by_cases hk:k=i
  ·simp [Cell.fz,cH,hk,Cell.ids] at h
  ·simp [Cell.fz,cH,hk,Cell.ids] at h
   subst h
   exact ⟨by simp [Cell.ids],hk⟩
 | _=>simp [Cell.fz,Cell.ids] at h
theorem cQ.Bb (i j:ax) (e:cQ) (h:j ∈ (e.fz i).ids):j ∈ e.ids∧j≠i:=by
 cases e with
 | cell c=>exact Cell.Bb i j c h
 | agg cs =>
  simp only [cQ.fz,cQ.ids,eP,List.mem_map] at h
  obtain ⟨c',⟨c,hc,rfl⟩,hj⟩:=h
  obtain ⟨h1,h2⟩:=Cell.Bb i j c hj
  exact ⟨eP.2 ⟨c,hc,h1⟩,h2⟩
 | nN k e m l n off =>
  by_cases hk:k=i
  ·simp [cQ.fz,cH,hk,cQ.ids,Cell.ids] at h
  ·simp [cQ.fz,cH,hk,cQ.ids] at h
 | pK k e off=>simp [cQ.fz,cQ.ids] at h
 | uJ r ks=>simp [cQ.fz,cQ.ids] at h
theorem cQ.OA (ids:ai ax) (e:cQ):(e.oQ ids).cP=e.cP:=by
 induction ids generalizing e with
 | nil=>rfl
 | cons i r ih=>simp only [cQ.oQ,dX];rw [← cQ.Ba i e];exact ih (e.fz i)
theorem cQ.kg (ids:ai ax) (e:cQ):(e.oQ ids).told=e.told:=by
 induction ids generalizing e with
 | nil=>rfl
 | cons i r ih=>simp only [cQ.oQ,dX];rw [← cQ.wZ i e];exact ih (e.fz i)
theorem cQ.OB (ids:ai ax) (e:cQ) (j:ax) (h:j ∈ (e.oQ ids).ids):j ∈ e.ids∧j ∉ ids:=by
 induction ids generalizing e with
 | nil=>exact ⟨h,by simp⟩
 | cons i r ih =>
  simp only [cQ.oQ,dX] at h
  obtain ⟨h1,h2⟩:=ih (e.fz i) h
  obtain ⟨h3,h4⟩:=cQ.Bb i j e h1
  exact ⟨h3,by simp [h4,h2]⟩
theorem Inv.Bc (h:Inv C w0 F0 nt st a w H σ) (ids:ai ax):∃ H',Inv C w0 F0 nt (st.oQ ids) a w H' σ ∧
  (∀ e x,fL w (Fr w0.heap.size F0 H σ) H σ e x→fL w (Fr w0.heap.size F0 H' σ) H' σ (e.oQ ids) x)∧(∀ i x,H' i=aa x→H i=aa x)∧(∀ i x,i ∉ ids→H i=aa x→H' i=aa x):=by
 induction ids generalizing st H with
 | nil=>exact ⟨H,h,fun _ _ he=>he,fun _ _ hx=>hx,fun _ _ _ hx=>hx⟩
 | cons i r ih =>
  have hid:∀ x g,H i=aa x→x.ownBlock=aa g→Fr w0.heap.size F0 (Sx.erase H i) σ g:=fun x g hx hg =>
   Fr.QU (fun j y hj hy Zy=>h.hh j i y x g hj hy hx Zy hg) (fun s hs=>h.hs i s x g hx hs hg) (h.hown i x g hx hg).1
  obtain ⟨H',h',h1,h2,h3⟩:=ih (h.fz i)
  refine ⟨H',h',fun e x he=>?_,fun j x hj=>(cr (h2 j x hj)).2,fun j x hj hx=>?_⟩
  ·exact h1 (e.fz i) x (Kk i (fun _ _ hb=>hb.erase) hid e x he)
  ·exact h3 j x (fun hm=>hj (List.mem_cons_of_mem _ hm)) (pV hx fun e=>hj (e ▸ List.mem_cons_self ..))
theorem fL.told {F:ax→Prop} {e:cQ} {x:aC} (h:fL w F H σ e x) (ht:e.told=aj) (hi:e.ids=[]):Rel w F e.cP x:=by
 cases e with
 | cell c=>cases c with
  | dead=>cases ht
  | val v=>exact h
  | own i e k l=>simp [cQ.ids,Cell.ids] at hi
  | ptr s off=>cases ht
  | lr g ss=>cases ht
 | agg cs =>
  obtain ⟨vs,rfl,hl,hv⟩:=h
  simp only [cQ.told,List.all_eq_true] at ht
  simp only [cQ.ids,List.flatMap_eq_nil_iff] at hi
  have hc:∀ (j:ax) (v:aC),vs[j]?=aa v→v.oneCell'=aj∧Rel w F ((cs.map Cell.cP).getD j .un) v:=fun j v hj=>by
   have hlt:j < cs.length:=by rw [← hl];exact (List.getElem?_eq_some_iff.1 hj).1
   have oT:=hv j cs[j] v (List.getElem?_eq_getElem hlt) hj
   have e:(cs.map Cell.cP).getD j .un=cs[j].cP:=by rw [aK,aM,List.getElem?_eq_getElem hlt];rfl
   rw [e]
   have h1:=ht cs[j] (List.getElem_mem hlt)
   have h2:=hi cs[j] (List.getElem_mem hlt)
   cases hcc:cs[j] with
   | dead=>rw [hcc] at h1;cases h1
   | val u=>rw [hcc] at oT;exact oT
   | own i e k l=>rw [hcc] at h2;simp [Cell.ids] at h2
   | ptr s off=>rw [hcc] at h1;cases h1
   | lr g ss=>rw [hcc] at h1;cases h1
  exact .ag _ vs (by simp [hl]) (fun v hm=>by obtain ⟨j,hj⟩:=eX hm;exact (hc j v hj).1) fun j v hj=>(hc j v hj).2
 | pK k e off=>cases ht
 | nN i e k l n off=>cases ht
 | uJ r ks=>cases ht
theorem kg {F:ax→Prop} {e:cQ} {x:aC} {ids:ai ax} (h:fL w F H σ (e.oQ ids) x) (ht:e.told=aj) (hi:∀ i ∈ e.ids,i ∈ ids):Rel w F e.cP x:=by
 have:=fL.told (e:=e.oQ ids) h (by rw [cQ.kg];exact ht) (by
  apply List.eq_nil_iff_forall_not_mem.2
  intro j hj
  obtain ⟨h1,h2⟩:=cQ.OB ids e j hj
  exact h2 (hi j h1))
 rwa [cQ.OA] at this
theorem EN {o:Oper} {t u:TypeId} {x:Operand} (ho:o.op=.convert t u x) (hT:∀ t i,C.ty t=aa i→gS P t i) (h:Inv C w0 F0 nt st a w H σ) (hd:∀ t,o.dst=aa t→t < nt)
  (Sy:¬ (C.kd t=aa .str∧C.kd u=aa .slice)) (ZM:¬ (C.kd t=aa .slice∧C.kd u=aa .slice)) (hK:oo C t u (st.get C x) o.dst st K=aa r) {ws:ai ax} {S:az→Prop} (hS:xQ ws σ w S) :
  uQ C P w0 F0 nt a w σ K r o S:=by
 unfold oo at hK
 have Bd:∀ {v:aC},(∀ w':az,(convert t u (a.eval x)).run P w'=.ok v w')→vP P o a S v:=fun hv w' _=>by simp only [execOp,ho];rw [Sem.run_bind,hv w'];rfl
 split at hK
 ·rename_i k1 k2 h1 h2
  obtain ⟨i1,e1,f1⟩:=jD h1
  obtain ⟨i2,e2,f2⟩:=jD h2
  obtain ⟨z,hz,hK⟩:=fW hK
  have hu:=(hT u i2 e2).und
  rw [f2] at hu
  obtain ⟨v,hv,hp⟩:=Oq (P:=P) hz (oF h x (conv k2) rfl hz) t u (Kz (hT t i1 e1)) hu
  exact l6 h hd (Bd hv) hp hK
 ·rename_i h1 h2
  obtain ⟨i1,e1,f1⟩:=jD h1
  obtain ⟨i2,e2,f2⟩:=jD h2
  obtain ⟨z,hz,hK⟩:=fW hK
  have hu:=(hT u i2 e2).und
  rw [f2] at hu
  have GM:=(hT t i1 e1).und
  rw [f1] at GM
  obtain ⟨v,hv,hp⟩:=Km (P:=P) hz (oF h x GC rfl hz) t u GM hu
  exact l6 h hd (Bd hv) hp hK
 ·rename_i h1 h2
  obtain ⟨i1,e1,f1⟩:=jD h1
  obtain ⟨i2,e2,f2⟩:=jD h2
  rw [e1] at hK
  simp only [Option.bind_some] at hK
  split at hK
  ·rename_i h3
   obtain ⟨i3,e3,f3⟩:=jD h3
   obtain ⟨z,hz,hK⟩:=fW hK
   have hu:=(hT u i2 e2).und
   rw [f2] at hu
   have GM:=(hT t i1 e1).und
   rw [f1] at GM
   have J1:=(hT i1.elem i3 e3).und
   rw [f3] at J1
   have rx:Rel w (fun b=>Fr w0.heap.size F0 H σ b∨∃ i y,H i=aa y∧y.ownBlock=aa b) (st.get C x).cP (a.eval x):=by
    have hr:=h.get x
    cases jz:st.get C x with
    | cell c=>cases c with
     | val v=>rw [jz] at hr;exact Rel.mono (fun _ _ hf=>⟨.inl hf,rfl⟩) hr
     | own i e k l =>
      rw [jz] at hr
      exact hr.2.rel (fun _ _ hf=>.inl hf) fun g hg=>.inr ⟨i,_,hr.1,hg⟩
     | _=>rw [jz] at hz;cases hz
    | _=>rw [jz] at hz;cases hz
   obtain ⟨v,hv,hp⟩:=Sn (P:=P) hz rx t u i1.elem GM J1 hu
   refine l6 h hd (fun w' hw'=>?_) hp hK
   simp only [execOp,ho]
   rw [Sem.run_bind,hv w' (fun b hb hf=>hS w' hw' b hb ?_)]
   ·rfl
   ·intro s hs e
    rcases hf with hf | ⟨i,y,hi,hy⟩
    ·exact hf.2.2 s e
    ·exact h.hs i s y b hi e hy
  ·cases hK
 ·rename_i h1 h2
  exact absurd ⟨h1,h2⟩ Sy
 ·rename_i h1 h2
  exact absurd ⟨h1,h2⟩ ZM
 ·cases hK
end
def CR (w:az) (F:ax→Prop) (H:ax→ak aC) (σ:ax→ak ax) (cs:ai Cell) (vs:ai aC):Prop :=
 vs.length=cs.length∧∀ (j:ax) (c:Cell) (v:aC),cs[j]?=aa c→vs[j]?=aa v→dr w F H σ c v
section cells
variable {w:az} {F:ax→Prop} {H:ax→ak aC} {σ:ax→ak ax}
theorem dr.one {c:Cell} {x:aC} (h:dr w F H σ c x):x.oneCell'=aj:=by
 cases c with
 | dead=>exact h
 | val v=>exact h.1
 | own i e k l=>exact Value.fX h.2
 | ptr s off=>obtain ⟨r,_,rfl⟩:=h;rfl
 | lr g ss=>obtain ⟨rs,_,rfl,_⟩:=h;rfl
theorem ot {v:aC} (h:v.oneCell'=aj):v.cells = #[v]:=by
 cases v <;> first | rfl | simp [Value.oneCell'] at h
theorem CR.one {cs:ai Cell} {vs:ai aC} (h:CR w F H σ cs vs):∀ v ∈ vs,v.oneCell'=aj:=fun v hm=>by
 obtain ⟨j,hj⟩:=eX hm
 have hlt:j < cs.length:=by rw [← h.1];exact (List.getElem?_eq_some_iff.1 hj).1
 exact (h.2 j cs[j] v (List.getElem?_eq_getElem hlt) hj).one
theorem CR.take {cs:ai Cell} {vs:ai aC} (h:CR w F H σ cs vs) (n:ax):CR w F H σ (cs.take n) (vs.take n):=by
 refine ⟨by simp [h.1],fun j c v hc hv=>?_⟩
 rw [bJ] at hc hv
 split at hc
 ·rename_i hj;rw [aJ hj] at hv;exact h.2 j c v hc hv
 ·cases hc
theorem CR.drop {cs:ai Cell} {vs:ai aC} (h:CR w F H σ cs vs) (n:ax):CR w F H σ (cs.drop n) (vs.drop n):=by
 refine ⟨by simp [h.1],fun j c v hc hv=>?_⟩
 rw [List.getElem?_drop] at hc hv
 exact h.2 _ c v hc hv
theorem CR.append {cs ds:ai Cell} {vs us:ai aC} (h:CR w F H σ cs vs) (k:CR w F H σ ds us):CR w F H σ (cs ++ ds) (vs ++ us):=by
 refine ⟨by simp [h.1,k.1],fun j c v hc hv=>?_⟩
 by_cases hj:j < cs.length
 ·rw [aX hj] at hc
  rw [aX (by rw [h.1];exact hj)] at hv
  exact h.2 j c v hc hv
 ·rw [aS (by omega)] at hc
  rw [aS (by rw [h.1];omega),h.1] at hv
  exact k.2 _ c v hc hv
theorem CR.oU {cs new:ai Cell} {vs news:ai aC} (h:CR w F H σ cs vs) (k:CR w F H σ new news) (off:ax) :
  CR w F H σ (Sx.oU cs new off) (vs.take off ++ news ++ vs.drop (off+news.length)):=by
 rw [k.1]
 exact ((h.take off).append k).append (h.drop _)
theorem tS {cs:ai Cell} {vs:ai aC} (h:CR w F H σ cs vs) (agg:ay) (h1:agg=aj∨cs.length=1):fL w F H σ (km agg cs) (if agg then .agg vs.toArray else vs.headD undef):=by
 cases agg with
 | true=>exact ⟨vs,rfl,h.1,h.2⟩
 | false =>
  have VQ:cs.length=1:=by
   rcases h1 with h | h
   ·cases h
   ·exact h
  obtain ⟨c,rfl⟩:=eD.1 VQ
  have hv:vs.length=1:=by rw [h.1];rfl
  obtain ⟨v,rfl⟩:=eD.1 hv
  have:=h.2 0 c v rfl rfl
  simp only [km,bB,gX,Bool.false_eq_true,aH]
  cases c with
  | dead=>trivial
  | val u=>exact this.2
  | own i e k l=>exact this
  | ptr s o=>exact this
  | lr g ss=>exact this
theorem Rel.one {a:AV} {x:aC} (h:Rel w F a x) (h1:AV.one a=aa a):x.oneCell'=aj:=by
 cases h <;> first | rfl | assumption | cases h1
theorem AV.KA {a b:AV} (h:AV.one a=aa b):b=a:=by
 cases a <;> simp [AV.one] at h <;> exact h.symm
theorem lu {C:jT} {P:bn} {R:Type} {t:ax} {e:cQ} {x:aC} {K:ai Cell→ak R} {r:R} (hT:∀ t i,C.ty t=aa i→gS P t i) (hr:fL w F H σ e x) (h:cellsOf C t e K=aa r) :
  ∃ i cs,C.ty t=aa i∧K cs=aa r∧cs.length=i.size∧CR w F H σ cs x.cells.toList∧(i.kd.agg=aj∨i.size=1)∧((i.kd.agg=aj→x=.agg x.cells)∧(i.kd.agg=af→x.oneCell'=aj))∧(∀ c ∈ cs,∀ j ∈ c.ids,j ∈ e.ids) ∧
   (e.told=aj→(bif i.kd.agg then AV.ag (cs.map Cell.cP) else (cs.headD .dead).cP)=e.cP):=by
 unfold cellsOf at h
 cases hi:C.ty t with
 | none=>rw [hi] at h;cases h
 | some i =>
  rw [hi] at h
  simp only at h
  cases nR:i.kd.agg with
  | true =>
   rw [nR] at h
   simp only [aN] at h
   cases e with
   | agg cs =>
    simp only at h
    cases hb:Nat.beq cs.length i.size with
    | false=>rw [hb] at h;cases h
    | true =>
     rw [hb] at h
     obtain ⟨vs,rfl,hl,hv⟩:=hr
     exact ⟨i,cs,rfl,h,aF hb,⟨by simpa [Value.cells] using hl,by simpa [Value.cells] using hv⟩,.inl nR,⟨fun _=>rfl,fun hh=>(by rw [nR] at hh;cases hh)⟩,fun c hc j hj=>eP.2 ⟨c,hc,hj⟩,fun _=>by rw [nR];rfl⟩
   | cell c=>cases c with
    | val v =>
     simp only at h
     cases hv:AV.cm i.size v with
     | none=>rw [hv] at h;cases h
     | some l =>
      rw [hv] at h
      simp only [Option.bind_some] at h
      cases v with
      | ag l' =>
       simp only [AV.cm] at hv
       split at hv
       ·rename_i hl'
        simp only [Option.some.injEq] at hv
        subst hv
        cases hr with
        | ag _ vs hl h1 wY =>
         refine ⟨i,_,rfl,h,by simp,⟨by simp [Value.cells,← hl,hl'],fun j c v hc hv=>?_⟩,.inl nR,⟨fun _=>rfl,fun hh=>(by rw [nR] at hh;cases hh)⟩,fun c hc j hj=>?_,fun _=>?_⟩
         ·simp only [Value.cells] at hv
          rw [aM] at hc
          have hj:j < i.size:=by rw [← hl',hl];exact (List.getElem?_eq_some_iff.1 hv).1
          rw [dU hj] at hc
          cases hc
          exact ⟨h1 v (aV hv),wY j v hv⟩
         ·obtain ⟨a,_,rfl⟩:=List.mem_map.1 hc
          cases hj
         ·rw [nR]
          simp only [aN,cQ.cP,Cell.cP,fe]
          congr 1
          apply List.ext_getElem?
          intro j
          rw [aM]
          by_cases hj:j < l'.length
          ·rw [dU (by omega)]
           simp [Cell.cP,hj]
          ·rw [List.getElem?_eq_none (by simp;omega),List.getElem?_eq_none (by omega)];rfl
       ·cases hv
      | _=>simp [AV.cm] at hv
    | _=>cases h
   | _=>cases h
  | false =>
   rw [nR] at h
   simp only [bB] at h
   cases hb:Nat.beq i.size 1 with
   | false=>rw [hb] at h;cases h
   | true =>
    rw [hb] at h
    simp only [aN] at h
    have hs:=aF hb
    cases e with
    | cell c =>
     have fin:∀ c',dr w F H σ c' x→K [c']=aa r→(∀ j ∈ c'.ids,j ∈ (cQ.cell c).ids)→c'.cP=(cQ.cell c).cP→∃ j cs,aa i=aa j∧K cs=aa r∧cs.length=j.size∧CR w F H σ cs x.cells.toList∧(j.kd.agg=aj∨j.size=1)∧((j.kd.agg=aj→x=.agg x.cells)∧(j.kd.agg=af→x.oneCell'=aj))∧(∀ c'' ∈ cs,∀ j ∈ c''.ids,j ∈ (cQ.cell c).ids) ∧
       ((cQ.cell c).told=aj→(bif j.kd.agg then AV.ag (cs.map Cell.cP) else (cs.headD .dead).cP)=(cQ.cell c).cP):=by
      intro c' hc' hK Dc I2
      refine ⟨i,[c'],rfl,hK,by simp [hs],⟨by simp [ot hc'.one],fun j c v h1 h2=>?_⟩,.inr hs,⟨fun hh=>(by rw [nR] at hh;cases hh),fun _=>hc'.one⟩,fun c'' VT=>by simp at VT;subst VT;exact Dc,fun _=>by simp [nR,I2]⟩
      rw [ot hc'.one] at h2
      match j,h1,h2 with
      | 0,h1,h2=>cases h1;cases h2;exact hc'
      | j+1,h1,h2=>cases h1
     cases c with
     | dead=>cases h
     | val v =>
      simp only at h
      cases ho:AV.one v with
      | none=>rw [ho] at h;cases h
      | some u =>
       rw [ho] at h
       have:=AV.KA ho
       subst this
       exact fin (.val u) ⟨Rel.one hr ho,hr⟩ h (fun j hj=>hj) rfl
     | own id e k l=>exact fin (.own id e k l) hr h (fun j hj=>hj) rfl
     | ptr s o=>exact fin (.ptr s o) hr h (fun j hj=>hj) rfl
     | lr g ss=>exact fin (.lr g ss) hr h (fun j hj=>hj) rfl
    | _=>cases h
end cells
section
variable {C:jT} {P:bn} {w0:az} {F0:Fs} {nt:ax} {st:St} {a:Act} {w:az} {H:ax→ak aC} {σ:ax→ak ax} {R:Type} {K:St→ak R} {r:R}
theorem gS.KB {t:TypeId} {i:Ty} (h:gS P t i) (hk:i.kd.agg=aj∨i.size=1) (w:az) (vs:ai aC) (off:ax) (hl:off+i.size≤vs.length) :
  (part t vs.toArray off).run P w=.ok (if i.kd.agg then .agg ((vs.drop off).take i.size).toArray else ((vs.drop off).take i.size).headD undef) w:=by
 unfold part
 rw [Sem.run_bind,h.GI w]
 simp only [Result.andThen_ok]
 cases ha:i.kd.agg with
 | true =>
  simp only [aO,Sem.run_bind,h.xP w,Result.andThen_ok]
  simp
 | false =>
  have h1:i.size=1:=by
   rcases hk with h | h
   ·rw [ha] at h;cases h
   ·exact h
  have hlt:off < vs.length:=by omega
  simp only [Bool.false_eq_true,aH,h1,List.getElem?_toArray,List.getElem?_eq_getElem hlt]
  rw [dA hlt]
  rfl
theorem KC {o:Oper} {t:TypeId} {x:Operand} {n:ax} (ho:o.op=.field t x n) (hT:∀ t i,C.ty t=aa i→gS P t i) (h:Inv C w0 F0 nt st a w H σ) (hd:∀ t,o.dst=aa t→t < nt)
  (hK:(match mg C t n with
   | some (off,ft)=>cellsOf C t (st.get C x) fun cs=>match C.ty ft with
    | some i=>bif bL (off+i.size) cs.length then K (st.put o.dst (km i.kd.agg ((cs.drop off).take i.size))) else ah
    | none=>ah
   | none=>ah)=aa r) (S:az→Prop):uQ C P w0 F0 nt a w σ K r o S:=by
 cases sx:mg C t n with
 | none=>rw [sx] at hK;cases hK
 | some p =>
  obtain ⟨off,ft⟩:=p
  rw [sx] at hK
  obtain ⟨i,cs,hi,hK,hlen,zF,nR,hagg,_,_⟩:=lu hT (h.get x) hK
  unfold mg at sx
  rw [hi] at sx
  simp only [Option.bind_some] at sx
  have hu:=(hT t i hi).und
  by_cases hst:i.kd=.struct
  ·rw [hst] at hu
   obtain ⟨fs,h1,h2,h3⟩:=hu
   have ZL:fs.toList[n]?≠ah:=fun e=>by
    rw [← h2,aM,e] at sx;cases sx
   obtain ⟨fl,Vj⟩:=gW.1 ZL
   have Oy:fl.offset=off∧fl.type=ft:=by rw [← h2,aM,Vj] at sx;simpa using sx
   have Sw:fs[n]?=aa fl:=by rw [← Array.getElem?_toList];exact Vj
   cases hj:C.ty ft with
   | none=>rw [hj] at hK;cases hK
   | some j =>
    rw [hj] at hK
    simp only at hK
    cases hle:bL (off+j.size) cs.length with
    | false=>rw [hle] at hK;cases hK
    | true =>
     rw [hle] at hK
     have A9:=aU hle
     have hx:=hagg.1 (by rw [hst];rfl)
     have htj:=hT ft j hj
     have zY:j.kd.agg=aj∨j.size=1:=by
      cases hh:j.kd.agg with
      | true=>exact .inl rfl
      | false=>exact .inr (htj.one hh)
     have ZN:CR w (Fr w0.heap.size F0 H σ) H σ ((cs.drop off).take j.size) (((a.eval x).cells.toList.drop off).take j.size):=(zF.drop off).take j.size
     refine ⟨_,fun w' _=>?_,_,H,hK,h.put hd (tS ZN j.kd.agg (zY.imp id fun e=>by simp;omega))⟩
     have hp:=htj.KB zY w' (a.eval x).cells.toList off (by rw [zF.1];exact A9)
     simp only [execOp,ho]
     simp only [bO] at hp
     obtain ⟨X,hX⟩:∃ X,X=(a.eval x).cells:=⟨_,rfl⟩
     rw [← hX] at hp hx
     rw [hx]
     simp only [Instr.field,Sem.run_bind,run_underlying h1,Result.andThen_ok,Sw,asAgg,Sem.run_pure,Oy.1,Oy.2,hp]
     rfl
  ·exfalso
   have:=(hT t i hi).fieldsOnly hst
   rw [this] at sx
   cases sx
theorem EO {o:Oper} {x:Operand} {n:ax} (ho:o.op=.extract x n) (h:Inv C w0 F0 nt st a w H σ) (hd:∀ t,o.dst=aa t→t < nt)
  (hK:(match (generalizing:=false) x with
  | .tmp t=>match st.env t with
   | .uJ r ks=>match ks[n]? with
    | some (aa ah)=>K (st.put o.dst (.val (r.comp n)))
    | some (aa (aa (id,e,k)))=>K (st.put o.dst (.cell (.own id e k (r.comp n).elems)))
    | _=>ah
   | .cell (.val r)=>lift st o.dst K (cA r n)
   | _=>ah
  | _=>ah)=aa r) (S:az→Prop):uQ C P w0 F0 nt a w σ K r o S:=by
 have run:∀ (vs:ai aC) (v:aC),a.eval x=.tuple vs.toArray→vs[n]?=aa v→vP P o a S v:=fun vs v hx hv w' _=>by
  simp only [execOp,ho,hx]
  simp [Instr.extract,hv]
 cases x with
 | tmp t =>
  simp only at hK
  have ht:=h.env t
  split at hK
  ·rename_i r' ks jz
   rw [jz] at ht
   obtain ⟨vs,hx,hl,hv⟩:=ht
   split at hK
   ·rename_i hk
    have hlt:n < vs.length:=by rw [hl];exact (List.getElem?_eq_some_iff.1 hk).1
    have:=hv n _ vs[n] hk (List.getElem?_eq_getElem hlt)
    exact ⟨_,run vs _ hx (List.getElem?_eq_getElem hlt),_,H,hK,h.put hd this⟩
   ·rename_i id e k hk
    have hlt:n < vs.length:=by rw [hl];exact (List.getElem?_eq_some_iff.1 hk).1
    have:=hv n _ vs[n] hk (List.getElem?_eq_getElem hlt)
    exact ⟨_,run vs _ hx (List.getElem?_eq_getElem hlt),_,H,hK,h.put hd this⟩
   ·cases hK
  ·rename_i r' jz
   rw [jz] at ht
   obtain ⟨z,hz,hK2⟩:=fW hK
   clear hK
   unfold cA at hz
   split at hz
   ·rename_i l
    generalize VU:a.tmps.getD t undef=V at *
    cases ht with
    | tu _ vs hl hr =>
     have hlt:n < vs.length:=by rw [← hl];exact (List.getElem?_eq_some_iff.1 hz).1
     refine ⟨vs[n],run vs _ (by show a.tmps.getD t undef=_;exact VU) (List.getElem?_eq_getElem hlt),_,H,hK2,h.put hd ?_⟩
     have:=hr n vs[n] (List.getElem?_eq_getElem hlt)
     rw [aK,hz] at this
     exact this
   ·cases hz
  ·cases hK
 | _=>cases hK
theorem zZ (h:Inv C w0 F0 nt st a w H σ):∀ (xs:ai Operand) (ss:ai ax),sj (xs.map (st.get C))=aa ss→∃ rs:ai ax,rs.length=ss.length∧xs.map a.eval=rs.map (fun r=>.pointer (aa ⟨r,0,ah⟩))∧∀ (j s r:ax),ss[j]?=aa s→rs[j]?=aa r→σ s=aa r
 | [],ss,hs=>by
  cases hs
  exact ⟨[],rfl,rfl,fun j s r h1=>by simp at h1⟩
 | x :: xs,ss,hs=>by
  have hx:=h.get x
  simp only [List.map_cons] at hs
  generalize st.get C x=e at hs hx
  unfold sj at hs
  split at hs
  ·rename_i h1;cases h1
  ·rename_i s o r heq
   cases heq
   cases ho:Nat.beq o 0 with
   | false=>rw [ho] at hs;cases hs
   | true =>
    rw [ho] at hs
    have ho:=aF ho
    subst ho
    simp only [aN,Option.map_eq_some_iff] at hs
    obtain ⟨t,ht,rfl⟩:=hs
    obtain ⟨rs,h1,h2,h3⟩:=zZ h xs t ht
    obtain ⟨r,hr,hx⟩:=hx
    refine ⟨r :: rs,by simp [h1],by simp [hx,h2],fun j s' r' q1 q2=>?_⟩
    cases j with
    | zero=>simp at q1 q2;subst q1;subst q2;exact hr
    | succ j=>exact h3 j s' r' (by simpa using q1) (by simpa using q2)
  ·cases hs
theorem Dd {o:Oper} {fn:Fn} {fi ca:bF Operand} (ho:o.op=.makeFunc fn fi ca) (h:Inv C w0 F0 nt st a w H σ) (hd:∀ t,o.dst=aa t→t < nt)
  (hK:(match (generalizing:=false) fn,fi.toList,ca.toList with
  | .func g,[],[]=>K (st.put o.dst (.val (.fn g)))
  | .func g,[],x :: r=>match sj ((x :: r).map (st.get C)) with
   | some ss=>K (st.put o.dst (.cell (.lr g ss)))
   | none=>ah
  | _,_,_=>ah)=aa r) (S:az→Prop):uQ C P w0 F0 nt a w σ K r o S:=by
 generalize YP:fi.toList=l1 at hK
 generalize hl2:ca.toList=l2 at hK
 cases fn with
 | func g =>
  cases l1 with
  | cons _ _=>cases hK
  | nil=>cases l2 with
  | cons x l =>
   simp only at hK
   cases hc:sj ((x :: l).map (st.get C)) with
   | none=>rw [hc] at hK;cases hK
   | some ss =>
    rw [hc] at hK
    obtain ⟨rs,h1,h2,h3⟩:=zZ h _ ss hc
    have e1:fi = #[]:=by rw [← bO (xs:=fi),YP]
    have e2:ca.map a.eval=(rs.map fun r=>(.pointer (aa ⟨r,0,ah⟩):aC)).toArray:=by
     rw [← h2,← hl2,← Array.toList_map,bO]
    exact ⟨.func (.func g) #[] (rs.map fun r=>.pointer (aa ⟨r,0,ah⟩)).toArray,fun w' _=>by simp only [execOp,ho];simp [Instr.makeFunc,e1,e2],_,H,hK,h.put hd ⟨rs,h1,rfl,h3⟩⟩
  | nil =>
  have h1:=YP
  have h2:=hl2
  have e1:fi = #[]:=by rw [← bO (xs:=fi),h1]
  have e2:ca = #[]:=by rw [← bO (xs:=ca),h2]
  subst e1 e2
  exact ⟨_,fun w' _=>by simp only [execOp,ho];simp [Instr.makeFunc],_,H,hK,h.put hd (Rel.fn _)⟩
 | _=>cases hK
theorem De {o:Oper} {x:Operand} (ho:o.op=.nilCheck x) (h:Inv C w0 F0 nt st a w H σ) (hd:∀ t,o.dst=aa t→t < nt)
  (hK:(match st.get C x with
  | .cell (.ptr s o')=>K (st.put o.dst (.cell (.ptr s o')))
  | .pK k e o'=>K (st.put o.dst (.pK k e o'))
  | .nN id e k l n o'=>K (st.put o.dst (.nN id e k l n o'))
  | .cell (.val (.pt l))=>K (st.put o.dst (.val (.pt l)))
  | _=>ah)=aa r) (S:az→Prop):uQ C P w0 F0 nt a w σ K r o S:=by
 have hx:=h.get x
 have key:∀ (b:Addr),a.eval x=.pointer (aa b)→vP P o a S (a.eval x):=fun b hb w' _=>by
  simp only [execOp,ho,hb]
  simp
 split at hK
 ·rename_i s o' he
  rw [he] at hx
  have rJ:=hx
  obtain ⟨b,_,hx⟩:=hx
  exact ⟨_,key _ hx,_,H,hK,h.put hd rJ⟩
 ·rename_i k e o' he
  rw [he] at hx
  have rJ:=hx
  obtain ⟨b,q,hx,_⟩:=hx
  exact ⟨_,key _ hx,_,H,hK,h.put hd rJ⟩
 ·rename_i id e k l n o' he
  rw [he] at hx
  have rJ:=hx
  obtain ⟨g,m,cap,_,_,_,hx⟩:=hx
  exact ⟨_,key _ hx,_,H,hK,h.put hd rJ⟩
 ·rename_i l he
  rw [he] at hx
  have rJ:Rel w (Fr w0.heap.size F0 H σ) (.pt l) (a.eval x):=hx
  have hp:∃ b,a.eval x=.pointer (aa b):=by
   generalize a.eval x=X at rJ
   cases rJ
   exact ⟨_,rfl⟩
  obtain ⟨b,hb⟩:=hp
  exact ⟨_,key _ hb,_,H,hK,h.put hd rJ⟩
 ·cases hK
theorem OC {o:Oper} {c x y:Operand} (ho:o.op=.pick c x y) (h:Inv C w0 F0 nt st a w H σ) (hd:∀ t,o.dst=aa t→t < nt)
  (hK:lift st o.dst K (bt (st.get C c).cP aj (aa (st.get C x).cP) (st.get C y).cP)=aa r) (S:az→Prop):uQ C P w0 F0 nt a w σ K r o S:=by
 obtain ⟨z,hz,hK⟩:=fW hK
 unfold bt at hz
 split at hz
 ·rename_i b hb
  have rc:=(h.get c).cP
  rw [hb] at rc
  rcases rc with rc | rc
  ·cases rc
  ·generalize hcv:a.eval c=V at rc
   cases rc
   have run:∀ v,(if b=aj then a.eval x else a.eval y)=v→vP P o a S v:=fun v hv w' _=>by
    simp only [execOp,ho,hcv]
    simp [asBool,← hv]
   cases b with
   | true =>
    simp only [BEq.rfl,aN] at hz
    split at hz
    ·rename_i y' hy'
     cases hz
     rcases (h.get x).cP with e | rx
     ·rw [e] at hy';cases hy'
     ·rw [Option.some.inj hy'] at rx
      generalize vQ:a.eval x=X at rx run
      cases rx
      exact l6 h hd (run _ (by simp)) (fun _ _=>.b _) hK
    ·cases hz
   | false =>
    simp only [show (af == aj)=af from rfl,bB] at hz
    split at hz
    ·rename_i y' hy'
     cases hz
     rcases (h.get y).cP with e | rx
     ·rw [e] at hy';cases hy'
     ·rw [hy'] at rx
      generalize vQ:a.eval y=X at rx run
      cases rx
      exact l6 h hd (run _ (by simp)) (fun _ _=>.b _) hK
    ·cases hz
 ·cases hz
theorem Be {o:Oper} {t:TypeId} {x ix:Operand} (ho:o.op=.indexAddr t x ix) (hT:∀ t i,C.ty t=aa i→gS P t i) (h:Inv C w0 F0 nt st a w H σ) (hd:∀ t,o.dst=aa t→t < nt)
  (hK:(match C.ty t,(C.ty t).bind fun y=>C.ty y.elem with
  | some s,aa y =>
   match s.kd,st.get C x with
   | .slice,.cell (.own id e k l)=>bif Nat.beq k y.size then (pN l.length (st.get C ix).cP).bind fun n=>K (st.put o.dst (.nN id e k l n 0)) else ah
   | .slice,x=>(idx y.size x.cP (st.get C ix).cP).bind fun e=>K (st.put o.dst (.pK y.size e 0))
   | _,_=>ah
  | _,_=>ah)=aa r) (S:az→Prop):uQ C P w0 F0 nt a w σ K r o S:=by
 split at hK
 ·rename_i s y hs hy
  rw [hs] at hy
  simp only [Option.bind_some] at hy
  have ZO:=hT s.elem y hy
  have hsz:=ZO.size
  have hr:=h.get x
  split at hK
  ·rename_i id e k l hk jz
   rw [jz] at hr
   have hu:=(hT t s hs).und
   rw [hk] at hu
   cases hb:Nat.beq k y.size with
   | false=>rw [hb] at hK;cases hK
   | true =>
    rw [hb] at hK
    have hky:=aF hb
    simp only [aN] at hK
    cases hn:pN l.length (st.get C ix).cP with
    | none=>rw [hn] at hK;cases hK
    | some n =>
     rw [hn] at hK
     simp only [Option.bind_some] at hK
     have Sz:Rel w T (st.get C ix).cP (a.eval ix):=by
      rcases (h.get ix).cP with e' | r'
      ·rw [e'] at hn;cases hn
      ·exact r'
     obtain ⟨kk,z,hz,h0,h1,h2,h3⟩:=EM hn Sz
     obtain ⟨hH,hown⟩:=hr
     have hown':=hown
     obtain ⟨vM,xs,⟨GL,h4⟩,hc1,wY⟩:=hown'
     rcases h4 with ⟨_,h4⟩ | ⟨g,cap,cur,vQ,_⟩
     ·omega
     ·refine ⟨.pointer (aa ⟨g,n * k,ah⟩),fun w' _=>?_,_,H,hK,h.put hd ⟨g,l.length,cap,by rw [← vQ];exact hH,by rw [← vQ];exact hown,h3,rfl⟩⟩
      have hq:∃ i,P.info? s.elem=aa i∧i.size=k:=by
       obtain ⟨inf,z,q1,q2,_⟩:=ZO.info
       exact ⟨inf,q1,by rw [q2,hky]⟩
      obtain ⟨inf,q1,q2⟩:=hq
      simp only [execOp,ho,vQ,hz]
      simp [iE,asIntOf,run_underlying hu,h0,h1,Go.sizeOf,typeInfo,q1,q2,h2,Addr.add_lit]
  ·rename_i hk jz
   have hu:=(hT t s hs).und
   rw [hk] at hu
   cases hn:idx y.size (st.get C x).cP (st.get C ix).cP with
   | none=>rw [hn] at hK;cases hK
   | some e =>
    rw [hn] at hK
    simp only [Option.bind_some] at hK
    have Sz:Rel w T (st.get C ix).cP (a.eval ix):=by
     rcases (h.get ix).cP with e' | r'
     ·exfalso
      rw [e'] at hn
      unfold idx pN at hn
      split at hn
      ·split at hn <;> simp [AV.rL] at hn
      ·cases hn
     ·exact r'
    have hx:Rel w (Fr w0.heap.size F0 H σ) (st.get C x).cP (a.eval x):=by
     cases hgx:st.get C x with
     | cell c=>cases c with
      | val v=>rw [hgx] at hr;exact hr
      | own i e k l=>exact absurd hgx (jz i e k l)
      | _=>rw [hgx] at hn;cases hn
     | agg cs=>rw [hgx] at hn;cases hn
     | _=>rw [hgx] at hn;cases hn
    obtain ⟨v,hv,b,off,rfl,hF,hlt,hj⟩:=Sk (P:=P) hn hx Sz t s.elem hu hsz ZO.pos.1
    exact ⟨_,fun w' _=>by simp only [execOp,ho];rw [Sem.run_bind,hv w'];rfl,_,H,hK,h.put hd ⟨b,off,by simp,hF,hlt,hj⟩⟩
  ·cases hK
 ·cases hK
end
section
variable {C:jT} {P:bn} {w0:az} {F0:Fs} {nt:ax} {st:St} {a:Act} {w:az} {H:ax→ak aC} {σ:ax→ak ax} {R:Type} {K:St→ak R} {r:R}
theorem KD (n:ax):CX n .un=ah:=rfl
theorem vR (h:Inv C w0 F0 nt st a w H σ) {n:ax} {lo hi:ak Operand} {p:ax×ax} (hp:mJ n (lo.map fun o=>(st.get C o).cP) (hi.map fun o=>(st.get C o).cP)=aa p) :
  (∀ b v,(lo.map fun o=>(st.get C o).cP)=aa b→lo.map a.eval=aa v→Rel w T b v)∧(∀ b v,(hi.map fun o=>(st.get C o).cP)=aa b→hi.map a.eval=aa v→Rel w T b v):=by
 unfold mJ at hp
 constructor
 ·intro b v hb hv
  cases lo with
  | none=>cases hb
  | some o =>
   cases hb;cases hv
   rcases (h.get o).cP with e | e
   ·simp only [aY,e] at hp
    exfalso
    obtain ⟨_,_,h2⟩:=aR.1 hp
    simp [KD] at h2
   ·exact e
 ·intro b v hb hv
  cases hi with
  | none=>cases hb
  | some o =>
   cases hb;cases hv
   rcases (h.get o).cP with e | e
   ·simp only [aY,e] at hp
    exfalso
    simp [KD] at hp
   ·exact e
theorem Bf {x:AV} {lo hi:ak AV} {z:AV} (h:nM x lo hi=aa z):∃ n p,mJ n lo hi=aa p:=by
 unfold nM at h
 split at h
 ·rename_i l
  cases hp:mJ l.length lo hi with
  | none=>rw [hp] at h;cases h
  | some p=>exact ⟨_,p,hp⟩
 ·cases h
theorem Bg {k:ax} {x:AV} {lo hi:ak AV} {z:AV} (h:VK k x lo hi=aa z):∃ n p,mJ n lo hi=aa p:=by
 unfold VK at h
 split at h
 ·rename_i k' l
  split at h
  ·cases hp:mJ l.length lo hi with
   | none=>rw [hp] at h;cases h
   | some p=>exact ⟨_,p,hp⟩
  ·cases h
 ·cases hp:mJ 0 lo hi with
  | none=>rw [hp] at h;cases h
  | some p=>exact ⟨_,p,hp⟩
 ·cases h
theorem cY.take {F:ax→Prop} {e k:ax} {l:ai AV} {g n cap:ax} (h:cY w F e k l (.slice (aa ⟨g,0,ah⟩) n cap)) (m:ax) (hm:m≤l.length):cY w F e k (l.take m) (.slice (aa ⟨g,0,ah⟩) m cap):=by
 obtain ⟨hk,xs,⟨hl,h2⟩,h1,hr⟩:=h
 rcases h2 with ⟨h2,_⟩ | ⟨g',cap',cur,h2,hg0,EI,hc,hmx,hs,ht⟩
 ·cases h2
 ·cases h2
  have hlen:(l.take m).length=m:=by simp;omega
  have hmul:m * k≤l.length * k:=bE _ hm
  refine ⟨hk,xs.take (m * k),⟨by rw [hlen,dV,hl];exact gY hmul,.inr ⟨g,cap,cur,by rw [hlen],hg0,EI,by rw [hlen];omega,hmx,hs,by rw [hlen,← ht,List.take_take,gY hmul]⟩⟩,fun v hv=>h1 v (jd hv),fun i j v hi hj hv=>?_⟩
  rw [hlen] at hi
  rw [bJ] at hv
  split at hv
  ·have:=hr i j v (by omega) hj hv
   have e2:(l.take m).getD i .un=l.getD i .un:=by
    simp only [aK,bJ]
    rw [aJ hi]
   rw [e2];exact this
  ·cases hv
theorem KE {o:Oper} {f:ax} {t:TypeId} {x:Operand} {lo hi mx:ak Operand} (ho:o.op=.slice t x lo hi mx) (hT:∀ t i,C.ty t=aa i→gS P t i) (h:Inv C w0 F0 nt st a w H σ) (hd:∀ t,o.dst=aa t→t < nt)
  (hK:oV C f t (st.get C x) lo hi mx o.dst st K=aa r) (S:az→Prop):uQ C P w0 F0 nt a w σ K r o S:=by
 cases mx with
 | some m=>cases hK
 | none =>
  simp only [oV] at hK
  have Bd:∀ {v:aC},(∀ w':az,(dx t (a.eval x) (lo.map a.eval) (hi.map a.eval) ah).run P w'=.ok v w')→vP P o a S v:=fun hv w' _=>by
   simp only [execOp,ho,Option.map_none];rw [Sem.run_bind,hv w'];rfl
  split at hK
  ·rename_i hk
   obtain ⟨i,hi',hik⟩:=jD hk
   have hu:=(hT t i hi').und
   rw [hik] at hu
   obtain ⟨z,hz,hK⟩:=fW hK
   obtain ⟨n,p,hp⟩:=Bf hz
   obtain ⟨b1,b2⟩:=vR h hp
   have hx:=oF h x (fun y=>nM y (lo.map fun o=>(st.get C o).cP) (hi.map fun o=>(st.get C o).cP)) rfl hz
   obtain ⟨v,hv,hpl⟩:=Sl (P:=P) (w1:=w) (w2:=w) (F1:=T) (F2:=T) hz hx (vlo:=lo.map a.eval) (vhi:=hi.map a.eval) b1 b2 (by cases lo <;> rfl) (by cases hi <;> rfl) t hu
   exact l6 h hd (Bd hv) hpl hK
  ·rename_i hk
   obtain ⟨i,hi',hik⟩:=jD hk
   have hu:=(hT t i hi').und
   rw [hik] at hu
   rw [hi'] at hK
   simp only [Option.bind_some] at hK
   split at hK
   ·cases hK
   rename_i ij zI
   obtain ⟨j,_,hj,_⟩:=(hT i.elem ij zI).info
   cases YQ:(o.dst.map (C.zS f)).getD af with
   | true =>
    rw [YQ] at hK
    simp only [aN] at hK
    have hr:=h.get x
    split at hK
    ·rename_i id e k c hh jz
     rw [jz] at hr
     cases hn:CX c.length (st.get C hh).cP with
     | none=>rw [hn] at hK;cases hK
     | some n =>
      rw [hn] at hK
      simp only [Option.bind_some] at hK
      cases eC:o.dst with
      | none=>rw [eC] at hK;cases hK
      | some d =>
       rw [eC] at hK
       simp only [Option.bind_some] at hK
       obtain ⟨hH,hown⟩:=hr
       have hb:Rel w T (st.get C hh).cP (a.eval hh):=by
        rcases (h.get hh).cP with e' | r'
        ·rw [e'] at hn;cases hn
        ·exact r'
       obtain ⟨kk,z,hz,h0,h1,h2,h3⟩:=xN hn hb
       have VV:mJ c.length ah (aa (st.get C hh).cP)=aa (0,n):=by
        show (CX c.length _).bind _=_
        rw [hn];rfl
       have finish:∀ {y:aC},(∀ w':az,(dx t (a.eval x) ah (aa (a.eval hh)) ah).run P w'=.ok y w')→(∀ g,y.ownBlock=aa g→(a.eval x).ownBlock=aa g)→(∀ F:ax→Prop,cY w F e k c (a.eval x)→cY w F e k (c.take n) y) →
         uQ C P w0 F0 nt a w σ K r o S:=by
        intro y hy hblk kf
        have KF:=h.uN id d (a.eval x).ownBlock (w':=w) (x:=y) rfl rfl rfl (Nat.le_refl _) (fun _ _ _=>rfl) (fun g hg=>⟨_,hH,hg⟩) (fun g hg=>⟨.inl (hblk g hg),(h.hown id _ g hH (hblk g hg)).2⟩)
        refine ⟨y,Bd hy,_,upd (Sx.erase (Sx.erase H id) d) d y,hK,?_⟩
        rw [eC]
        refine KF.put (d:=aa d) (fun t ht=>by cases ht;exact hd _ eC) ⟨by unfold upd;simp,?_⟩
        refine (kf _ hown).mono (fun b hb hf=>⟨⟨hf.1,fun i v hv=>?_,hf.2.2⟩,rfl⟩) fun _ _=>rfl
        rcases kA hv with ⟨_,rfl⟩ | ⟨_,hv⟩
        ·intro e';exact hf.2.1 id _ hH (hblk _ e')
        ·exact hf.2.1 i v (cr (cr hv).2).2
       have hown':=hown
       obtain ⟨vM,xs,⟨GL,h4⟩,hc1,wY⟩:=hown'
       have hq:=VV
       rcases h4 with ⟨vQ,h4⟩ | ⟨g,cap,cur,vQ,hg0,EI,Kn,_⟩
       ·have hb2:=fun w'=>(oW (P:=P) (w:=w') (vlo:=ah) (vhi:=aa (a.eval hh)) hq 0 (by omega) aj (w1:=w) (w2:=w) (F1:=T) (F2:=T) (fun _ _ h1 _=>by cases h1) (fun b v h1 h2=>by cases h1;cases h2;exact hb) rfl rfl).1
        have ZP:n=0:=by omega
        subst ZP
        refine finish (y:=.slice ah 0 0) (fun w'=>?_) (fun g hg=>by cases hg) (fun F hF=>?_)
        ·have:=hb2 w'
         rw [h4] at this
         rw [vQ]
         simp [dx,Instr.slice,run_underlying hu,this,Go.sizeOf,typeInfo,hj]
        ·have:c=[]:=List.eq_nil_of_length_eq_zero h4
         subst this
         rw [vQ] at hF
         exact hF
       ·have hb2:=fun w'=>(oW (P:=P) (w:=w') (vlo:=ah) (vhi:=aa (a.eval hh)) hq cap Kn aj (w1:=w) (w2:=w) (F1:=T) (F2:=T) (fun _ _ h1 _=>by cases h1) (fun b v h1 h2=>by cases h1;cases h2;exact hb) rfl rfl).1
        refine finish (y:=.slice (aa ⟨g,0,ah⟩) n cap) (fun w'=>?_) (fun g' hg=>by rw [vQ];exact hg) (fun F hF=>?_)
        ·have:=hb2 w'
         rw [vQ]
         simp [dx,Instr.slice,run_underlying hu,this,Go.sizeOf,typeInfo,hj,Addr.add_lit]
        ·rw [vQ] at hF
         exact hF.take n (by omega)
    ·cases hK
   | false =>
    rw [YQ] at hK
    simp only [bB] at hK
    obtain ⟨z,hz,hK⟩:=fW hK
    obtain ⟨n,p,hp⟩:=Bg hz
    obtain ⟨b1,b2⟩:=vR h hp
    obtain ⟨H',h',he,_,_⟩:=h.Bc (st.get C x).ids
    have hx:Rel w (Fr w0.heap.size F0 H' σ) (st.get C x).cP (a.eval x):=by
     refine kg (he _ _ (h.get x)) ?_ (fun i hi=>hi)
     cases jz:st.get C x with
     | cell c=>cases c with
      | val v=>rfl
      | own i e k l=>rfl
      | _=>rw [jz] at hz;cases hz
     | agg cs=>rw [jz] at hz;cases hz
     | _=>rw [jz] at hz;cases hz
    obtain ⟨v,hv,hpl⟩:=Sm (P:=P) (w1:=w) (w2:=w) (F1:=Fr w0.heap.size F0 H' σ) (F2:=T) hz hx (vlo:=lo.map a.eval) (vhi:=hi.map a.eval) (fun b v h1 h2=>b1 b v h1 h2) b2 (by cases lo <;> rfl) (by cases hi <;> rfl) t i.elem hu (hT i.elem ij zI).size
    exact ⟨v,Bd hv,_,H',hK,h'.put hd hpl⟩
  ·cases hK
theorem SA {o:Oper} {c:Call} {x:Operand} {t:TypeId} {ts:ai TypeId} (ho:o.op=.call c) (hc:c.callee=.builtin .len) (ha:c.args.toList=[x]) (NT:c.argTypes.toList=t :: ts)
  (hT:∀ t i,C.ty t=aa i→gS P t i) (h:Inv C w0 F0 nt st a w H σ) (hd:∀ t,o.dst=aa t→t < nt)
  (hK:(match C.kd t with
  | some .str=>lift st o.dst K (om (st.get C x).cP)
  | some .slice=>lift st o.dst K (kH (st.get C x).cP)
  | _=>ah)=aa r) (S:az→Prop):uQ C P w0 F0 nt a w σ K r o S:=by
 have e1:c.args = #[x]:=by rw [← bO (xs:=c.args),ha]
 have e0:c.argTypes[0]?=aa t:=by rw [← Array.getElem?_toList,NT];rfl
 have Bd:∀ {v:aC},(∀ w':az,(Builtin.len_ c.argTypes o.type #[a.eval x]).run P w'=.ok v w')→vP P o a S v:=fun hv w' _=>by
  simp only [execOp,ho,resolve,hc,e1]
  simp [invoke,builtin,hv w']
 split at hK
 ·rename_i hk
  obtain ⟨i,hi,hik⟩:=jD hk
  have hu:=(hT t i hi).und
  rw [hik] at hu
  obtain ⟨z,hz,hK⟩:=fW hK
  obtain ⟨v,hv,hp⟩:=Ot (P:=P) hz (oF h x om rfl hz) t o.type hu c.argTypes e0
  exact l6 h hd (Bd hv) hp hK
 ·rename_i hk
  obtain ⟨i,hi,hik⟩:=jD hk
  have hu:=(hT t i hi).und
  rw [hik] at hu
  obtain ⟨z,hz,hK⟩:=fW hK
  obtain ⟨v,hv,hp⟩:=Ou (P:=P) hz (oF h x kH rfl hz) t o.type i.elem hu c.argTypes e0
  exact l6 h hd (Bd hv) hp hK
 ·cases hK
theorem QY {o:Oper} {c:Call} {x y:Operand} (mn:ay) (ho:o.op=.call c) (hc:c.callee=.builtin (if mn then .min else .max)) (ha:c.args.toList=[x,y])
  (h:Inv C w0 F0 nt st a w H σ) (hd:∀ t,o.dst=aa t→t < nt)
  (hK:lift st o.dst K (mm mn (st.get C x).cP (st.get C y).cP)=aa r) (S:az→Prop):uQ C P w0 F0 nt a w σ K r o S:=by
 have e1:c.args = #[x,y]:=by rw [← bO (xs:=c.args),ha]
 obtain ⟨z,hz,hK⟩:=fW hK
 have hx:Rel w T (st.get C x).cP (a.eval x):=by
  rcases (h.get x).cP with e | e
  ·rw [e] at hz;cases hz
  ·exact e
 have hy:Rel w T (st.get C y).cP (a.eval y):=by
  rcases (h.get y).cP with e | e
  ·rw [e] at hz
   cases hp:(st.get C x).cP <;> rw [hp] at hz <;> cases hz
  ·exact e
 obtain ⟨v,hv,hp⟩:=Ko (P:=P) hz hx hy
 refine l6 h hd (fun w' _=>?_) hp hK
 have:=hv w'
 cases mn with
 | true =>
  simp only [aO] at this hc
  simp only [execOp,ho,resolve,hc,e1]
  simp [invoke,builtin,Builtin.min_,this]
 | false =>
  simp only [Bool.false_eq_true,aH] at this hc
  simp only [execOp,ho,resolve,hc,e1]
  simp [invoke,builtin,Builtin.max_,this]
theorem OD {o:Oper} {c:Call} {x y q:Operand} (ho:o.op=.call c) (hc:c.callee=.builtin .min) (ha:c.args.toList=[x,y,q])
  (h:Inv C w0 F0 nt st a w H σ) (hd:∀ t,o.dst=aa t→t < nt)
  (hK:lift st o.dst K ((mm aj (st.get C x).cP (st.get C y).cP).bind fun v=>mm aj v (st.get C q).cP)=aa r) (S:az→Prop):uQ C P w0 F0 nt a w σ K r o S:=by
 have e1:c.args = #[x,y,q]:=by rw [← bO (xs:=c.args),ha]
 obtain ⟨z,hz,hK⟩:=fW hK
 obtain ⟨z1,hz1,hz⟩:=aR.1 hz
 have hx:Rel w T (st.get C x).cP (a.eval x):=by
  rcases (h.get x).cP with e | e
  ·rw [e] at hz1;cases hz1
  ·exact e
 have hy:Rel w T (st.get C y).cP (a.eval y):=by
  rcases (h.get y).cP with e | e
  ·rw [e] at hz1
   cases hp:(st.get C x).cP <;> rw [hp] at hz1 <;> cases hz1
  ·exact e
 have hq:Rel w T (st.get C q).cP (a.eval q):=by
  rcases (h.get q).cP with e | e
  ·rw [e] at hz
   cases z1 <;> cases hz
  ·exact e
 obtain ⟨v1,Aa,YR⟩:=Ko (P:=P) hz1 hx hy
 obtain ⟨v,hv,hp⟩:=Ko (P:=P) hz (YR w T) hq
 refine l6 h hd (fun w' _=>?_) hp hK
 have h1:=Aa w'
 have h2:=hv w'
 simp only [aO] at h1 h2
 simp only [execOp,ho,resolve,hc,e1]
 simp [invoke,builtin,Builtin.min_,h1,h2]
theorem foldl_set (off:ax):∀ (vs:ai aC) (k:ax) (cells:bF aC),off+k+vs.length≤cells.size →
  ((vs.zipIdx k).foldl (fun (cs:bF aC) p=>cs.setIfInBounds (off+p.2) p.1) cells).toList=cells.toList.take (off+k) ++ vs ++ cells.toList.drop (off+k+vs.length)
 | [],k,cells,_=>by simp
 | v :: vs,k,cells,hl=>by
  simp only [aA] at hl
  simp only [List.zipIdx_cons,dX]
  rw [foldl_set off vs (k+1) _ (by simp;omega)]
  apply List.ext_getElem?
  intro j
  simp only [Array.toList_setIfInBounds,List.getElem?_append,au,dV,List.length_set,Array.length_toList,bJ,List.getElem?_drop,List.getElem?_set,aA]
  have m1:min (off+(k+1)) cells.size=off+k+1:=by omega
  have m2:min (off+k) cells.size=off+k:=by omega
  rw [m1,m2]
  by_cases h1:j < off+k
  ·simp [h1,show j < off+k+1+vs.length by omega,show j < off+k+1 by omega,show j < off+(k+1) by omega,show ¬ off+k=j by omega,show j < off+k+(vs.length+1) by omega]
  ·by_cases h2:j=off+k
   ·subst h2
    have hlt:off+k < cells.size:=by omega
    simp [hlt,show off+k < off+(k+1) by omega,show ¬ off+k+1+vs.length≤off+k by omega]
   ·by_cases h3:j < off+k+1+vs.length
    ·have e:j - (off+k)=(j - (off+k+1))+1:=by omega
     simp [h3,h1,show ¬ j < off+k+1 by omega,show j < off+k+(vs.length+1) by omega,e]
    ·simp [h3,show ¬ j < off+k+(vs.length+1) by omega,show off+(k+1)+vs.length+(j - (off+k+1+vs.length))=j by omega,show off+k+(vs.length+1)+(j - (off+k+(vs.length+1)))=j by omega,show ¬ off+k=j by omega]
theorem Df (hT:∀ t i,C.ty t=aa i→gS P t i) (h:Inv C w0 F0 nt st a w H σ) {fields:ai (ax×ax)} {place:ax→ak (ax×ax)} {Kc:ai Cell→ak R}
  (KG:∀ (n off t:ax) (i:Ty),fields[n]?=aa (off,t)→C.ty t=aa i→place n=aa (off,i.size)):∀ (ps:ai (ax×Operand)) (cs:ai Cell) (cur:bF aC),
   CR w (Fr w0.heap.size F0 H σ) H σ cs cur.toList→tJ C fields st ps cs Kc=aa r →
   ∃ cs' cur',iF place cur (ps.map fun p=>(p.1,a.eval p.2))=aa cur'∧CR w (Fr w0.heap.size F0 H σ) H σ cs' cur'.toList∧cs'.length=cs.length∧Kc cs'=aa r
 | [],cs,cur,zF,hK=>⟨cs,cur,rfl,zF,rfl,hK⟩
 | (n,x) :: ps,cs,cur,zF,hK=>by
  simp only [tJ] at hK
  split at hK
  ·rename_i off t hf
   obtain ⟨i,new,hi,hK,hlen,sA,nR,hagg,_,_⟩:=lu hT (h.get x) hK
   cases hle:bL (off+new.length) cs.length with
   | false=>rw [hle] at hK;cases hK
   | true =>
    rw [hle] at hK
    have A9:=aU hle
    simp only [aN] at hK
    have hsz:(a.eval x).cells.toList.length=i.size:=by rw [sA.1,hlen]
    have EP:cur.toList.length=cs.length:=zF.1
    have xR:=foldl_set off (a.eval x).cells.toList 0 cur (by rw [hsz,Nat.add_zero,← Array.length_toList,EP];omega)
    have hs2:(a.eval x).cells.zipIdx.foldl (fun cs (c,j)=>cs.setIfInBounds (off+j) c) cur=((a.eval x).cells.toList.zipIdx 0).foldl (fun (cs:bF aC) p=>cs.setIfInBounds (off+p.2) p.1) cur:=by
     rw [← Array.foldl_toList,Array.toList_zipIdx]
    obtain ⟨cs',cur',h1,h2,h3,h4⟩:=Df hT h KG ps (oU cs new off) ((a.eval x).cells.zipIdx.foldl (fun cs (c,j)=>cs.setIfInBounds (off+j) c) cur) (by
     rw [hs2,xR]
     have:=zF.oU sA off
     simpa using this) hK
    refine ⟨cs',cur',?_,h2,?_,h4⟩
    ·simp only [List.map_cons,iF,KG n off t i hf hi]
     have n1:¬ ((a.eval x).cells.size≠i.size):=by rw [← Array.length_toList,hsz];simp
     have n2:¬ (off+(a.eval x).cells.size > cur.size):=by rw [← Array.length_toList,hsz,← Array.length_toList (xs:=cur),EP];omega
     simp only [ne_eq,n1,n2,or_self,aH,decide_false,Bool.or_self,Bool.false_eq_true]
     exact h1
    ·rw [h3]
     simp [oU]
     omega
  ·cases hK
theorem KH {o:Oper} {t:TypeId} {ps:bF (ax×Operand)} (ho:o.op=.build t ps) (hT:∀ t i,C.ty t=aa i→gS P t i) (h:Inv C w0 F0 nt st a w H σ) (hd:∀ t,o.dst=aa t→t < nt)
  (hK:(match C.ty t with
  | some i=>bif i.kd.agg then tJ C i.fields st ps.toList (i.zero.map .val) fun cs=>K (st.put o.dst (.agg cs)) else ah
  | none=>ah)=aa r) (S:az→Prop):uQ C P w0 F0 nt a w σ K r o S:=by
 split at hK
 ·rename_i i hi
  cases nR:i.kd.agg with
  | false=>rw [nR] at hK;cases hK
  | true =>
   rw [nR] at hK
   simp only [aN] at hK
   have hst:i.kd=.struct:=by cases hk:i.kd <;> rw [hk] at nR <;> first | rfl | cases nR
   have ht:=hT t i hi
   have hu:=ht.und
   rw [hst] at hu
   obtain ⟨fs,h1,h2,h3⟩:=hu
   obtain ⟨inf,z,q1,q2,q3,q4,q5,q6,q7⟩:=ht.info
   have places:∀ l:ai Field,(∀ f ∈ l,∃ inf,P.info? f.type=aa inf∧inf.size≠0)→∃ pl,l.mapM (fun f=>(P.info? f.type).map fun i=>(f.offset,i.size))=aa pl∧∀ n:ax,pl[n]?=(l[n]?).bind fun f=>(P.info? f.type).map fun i=>(f.offset,i.size):=by
    intro l
    induction l with
    | nil=>exact fun _=>⟨[],rfl,fun n=>rfl⟩
    | cons f l ih =>
     intro hl
     obtain ⟨inf,g1,_⟩:=hl f (List.mem_cons_self ..)
     obtain ⟨pl,g2,g3⟩:=ih fun f hf=>hl f (List.mem_cons_of_mem _ hf)
     refine ⟨(f.offset,inf.size) :: pl,by simp [List.mapM_cons,g1,g2],fun n=>?_⟩
     cases n with
     | zero=>simp [g1]
     | succ n=>simpa using g3 n
   obtain ⟨pl,p1,p2⟩:=places fs.toList h3
   have hz:CR w (Fr w0.heap.size F0 H σ) H σ (i.zero.map .val) z.cells.toList:=by
    rw [← q5]
    refine ⟨by simp,fun j c v hc hv=>?_⟩
    rw [fe,aM,hv] at hc
    cases hc
    have h1:=q7 v (aV hv)
    exact ⟨h1,uO v h1 _ _⟩
   obtain ⟨cs',cur',g1,g2,g3,g4⟩:=Df (a:=a) (place:=(pl.toArray[·]?)) hT h (fun n off ft j hf hj=>by
    rw [← h2,aM] at hf
    cases ZQ:fs.toList[n]? with
    | none=>rw [ZQ] at hf;cases hf
    | some fl =>
     rw [ZQ] at hf
     simp only [aY,Option.some.injEq,Prod.mk.injEq] at hf
     have:=(hT ft j hj).size
     simp only [List.getElem?_toArray,p2,ZQ,Option.bind_some]
     rw [hf.2]
     cases hh:P.info? ft with
     | none=>rw [hh] at this;cases this
     | some q=>rw [hh] at this;simp only [aY,Option.some.injEq] at this;simp [this,hf.1]) ps.toList _ _ hz hK
   have hb:P.built t (ps.map fun (i,x)=>(i,a.eval x)).toList=aa cur':=by
    unfold Program.built
    simp only [q1,h1,q4,p1,Array.toList_map]
    exact g1
   refine ⟨.agg cur',fun w' _=>?_,_,H,g4,h.put hd ⟨cur'.toList,by simp,g2.1,g2.2⟩⟩
   simp only [execOp,ho]
   rw [Sem.run_bind,run_build w' t _ cur' hb]
   rfl
 ·cases hK
end
section
variable {C:jT} {P:bn} {w0:az} {F0:Fs} {nt:ax} {st:St} {a:Act} {w:az} {H:ax→ak aC} {σ:ax→ak ax} {R:Type} {K:St→ak R} {r:R} {call:ax→ai AV→ak AV} {f:ax}
theorem uT {o:Oper} (hp:C.pure o.op=aj) (hT:∀ t i,C.ty t=aa i→gS P t i) (h:Inv C w0 F0 nt st a w H σ) (hd:∀ t,o.dst=aa t→t < nt) (hK:fk C call f o st K=aa r) {ws:ai ax} {S:az→Prop}
  (hS:xQ ws σ w S) (pX:∀ t x s off,o.op=.load t x→st.get C x=.cell (.ptr s off)→s ∉ ws):uQ C P w0 F0 nt a w σ K r o S:=by
 cases hop:o.op with
 | move x=>simp only [fk,hop] at hK;exact GJ (.inl hop) h hd hK S
 | assign x=>simp only [fk,hop] at hK;exact GJ (.inr hop) h hd hK S
 | pick c x y=>simp only [fk,hop] at hK;exact OC hop h hd hK S
 | unOp op t x=>simp only [fk,hop] at hK;exact VP hop h hd hK S
 | load t x =>
  simp only [fk,hop] at hK
  exact Oz hop hT h hd hK hS (fun s off e=>pX t x s off hop e)
 | fieldAddr t x n=>simp only [fk,hop] at hK;exact A8 hop hT h hd hK S
 | field t x n=>simp only [fk,hop] at hK;exact KC hop hT h hd hK S
 | indexAddr t x n=>simp only [fk,hop] at hK;exact Be hop hT h hd hK S
 | extract x n=>simp only [fk,hop] at hK;exact EO hop h hd hK S
 | makeFunc fn fi ca=>simp only [fk,hop] at hK;exact Dd hop h hd hK S
 | nilCheck x=>simp only [fk,hop] at hK;exact De hop h hd hK S
 | build t ps=>simp only [fk,hop] at hK;exact KH hop hT h hd hK S
 | slice t x lo hi mx=>simp only [fk,hop] at hK;exact KE hop hT h hd hK S
 | index t x y =>
  simp only [fk,hop] at hK
  split at hK
  ·rename_i hk;exact Ky hop hT h hd hk hK S
  ·cases hK
 | convert t u x =>
  simp only [fk,hop] at hK
  rw [hop] at hp
  refine EN hop hT h hd (fun hh=>?_) (fun hh=>?_) hK hS <;>
  ·simp only [jT.pure,hh.1,hh.2] at hp
   cases hp
 | binOp op t x y u =>
  simp only [fk,hop] at hK
  cases hi:C.ty t with
  | none=>rw [hi] at hK;cases hK
  | some i =>
   rw [hi] at hK
   simp only at hK
   have ht:=hT t i hi
   have hu:=ht.und
   cases nR:i.kd.agg with
   | true =>
    rw [nR] at hK
    simp only [aN] at hK
    cases hq:i.eqk with
    | none=>rw [hq] at hK;cases hK
    | some ks =>
     rw [hq] at hK
     exact uR hop h hd (f:=nh ks op) (fun vx vy p q z hz hx hy=>Kv (w:=w) hz hx hy (ht.eqOk ks hq) x y) (fun q=>rfl) (fun p=>by unfold nh;cases p <;> rfl) hK S
   | false =>
    rw [nR] at hK
    simp only [bB] at hK
    cases hk:i.kd <;> rw [hk] at hK hu <;> simp only at hK hu
    case bool=>exact uR hop h hd (f:=EF op) (fun vx vy p q z hz hx hy=>Oj hz hx hy t hu x y) (fun q=>rfl) (fun p=>by unfold EF;cases p <;> rfl) hK S
    case int k=>exact uR hop h hd (f:=cf op) (fun vx vy p q z hz hx hy=>Oi hz hx hy t x y) (fun q=>by cases op <;> rfl) (fun p=>by cases op <;> simp [cf,AV.rL]) hK S
    case str=>exact uR hop h hd (f:=gR op) (fun vx vy p q z hz hx hy=>Ok hz hx hy t x y) (fun q=>rfl) (fun p=>by unfold gR;cases p <;> rfl) hK S
    case slice=>exact uR hop h hd (f:=IV op) (fun vx vy p q z hz hx hy=>Ol hz hx hy t hu x y) (fun q=>by unfold IV;cases q <;> rfl) (fun p=>by unfold IV;cases p <;> first | rfl | (rename_i l;cases l <;> rfl)) hK S
    case ptr=>exact uR hop h hd (f:=wP op) (fun vx vy p q z hz hx hy=>Om hz hx hy t hu x y) (fun q=>by unfold wP;cases q <;> rfl) (fun p=>by unfold wP;cases p <;> rfl) hK S
    all_goals cases hK
 | call c =>
  simp only [fk,hop,pQ] at hK
  rw [hop] at hp
  obtain ⟨callee,args,argTypes⟩:=c
  cases callee with
  | builtin b =>
   simp only [mX] at hK
   cases b <;> first | (cases hp;done) | skip
   case len =>
    split at hK <;> first | (cases hK;done) | skip
    rename_i x t ts hb ha NT
    exact SA hop rfl ha NT hT h hd hK S
    all_goals contradiction
   case min =>
    split at hK <;> first | (cases hK;done) | skip
    all_goals first | contradiction | skip
    ·rename_i x y hb ha
     exact QY aj hop rfl ha h hd hK S
    ·rename_i x y q hb ha
     exact OD hop rfl ha h hd hK S
   case max =>
    split at hK <;> first | (cases hK;done) | skip
    all_goals first | contradiction | skip
    rename_i x y hb ha
    exact QY af hop rfl ha h hd hK S
  | value x=>cases hp
  | invoke x n=>cases hp
 | _=>rw [hop] at hp;cases hp
def kS (C:jT) (st:St) (o:Oper) (σ:ax→ak ax) (w w':az):Prop :=
 match o.op with
 | .store _ x _=>match st.get C x with
  | .cell (.ptr s _)=>w.heap.size≤w'.heap.size∧∀ b,b < w.heap.size→σ s≠aa b→w'.heap[b]?=w.heap[b]?
  | _=>True
 | .call { callee:=.builtin .append,args:=as,.. }=>if ni as.toList=aj then Ext w w' else True
 | .call c=>match c.callee with
  | .value x=>if Og C st x=aj then True else Ext w w'
  | _=>Ext w w'
 | .convert s t _=>if Nat.beq s t=aj∧C.pure o.op=af then True else Ext w w'
 | _=>Ext w w'
def Goes (C:jT) (P:bn) (w0:az) (F0:Fs) (nt:ax) (st:St) (a:Act) (w:az) (σ:ax→ak ax) (K:St→ak R) (r:R) (o:Oper):Prop :=
 ∀ (next:Act→az→Prop) (Q:Exit→Act→az→Prop),(∀ (a':Act) (w':az) (st':St) (H':ax→ak aC) (σ':ax→ak ax),K st'=aa r→Inv C w0 F0 nt st' a' w' H' σ'→kS C st o σ w w' →
  ((∀ s,o.dst≠aa s→σ' s=σ s)∧((∃ t,o.op=.alloc t)∨(∃ t x,o.op=.box t x)∨σ'=σ))→Only o.dst a a'→next a' w')→o.wp P a w next Q
theorem uQ.goes {o:Oper} (hp:C.pure o.op=aj) (h:uQ C P w0 F0 nt a w σ K r o (· = w)):Goes C P w0 F0 nt st a w σ K r o:=by
 obtain ⟨v,hv,st',H',hK,hI⟩:=h
 intro next Q hn
 unfold Oper.wp
 rw [hv w rfl]
 refine hn _ w st' H' σ hK hI ?_ ⟨fun s _=>rfl,.inr (.inr rfl)⟩ (Only.put a o.dst v)
 unfold kS
 cases hop:o.op with
 | store t x y=>rw [hop] at hp;cases hp
 | call c =>
  rw [hop] at hp
  obtain ⟨callee,args,argTypes⟩:=c
  cases callee with
  | builtin b=>cases b <;> first | exact Ext.refl w | cases hp
  | value x=>cases hp
  | invoke x n=>cases hp
 | convert s t x =>
  rw [hop] at hp
  simp only [hp]
  rw [aI (by simp)]
  exact Ext.refl w
 | _=>exact Ext.refl w
theorem mM {o:Oper} {v:aC} {w':az} (hrun:(execOp a.eval o).run P w=.ok (.value v) w') {st':St} {H':ax→ak aC} {σ':ax→ak ax} (hK:K st'=aa r) (hI:Inv C w0 F0 nt st' (a.put o.dst v) w' H' σ')
  (hk:kS C st o σ w w') (hσ:(∀ s,o.dst≠aa s→σ' s=σ s)∧((∃ t,o.op=.alloc t)∨(∃ t x,o.op=.box t x)∨σ'=σ)):Goes C P w0 F0 nt st a w σ K r o:=by
 intro next Q hn
 unfold Oper.wp
 rw [hrun]
 exact hn _ w' st' H' σ' hK hI hk hσ (Only.put a o.dst v)
theorem KI {o:Oper} {t:TypeId} (ho:o.op=.alloc t) (hT:∀ t i,C.ty t=aa i→gS P t i) (h:Inv C w0 F0 nt st a w H σ) (hd:∀ t,o.dst=aa t→t < nt)
  (hK:(match C.ty t with
  | some i=>o.dst.bind fun d=>K (newVar st d (i.zero.map .val))
  | none=>ah)=aa r):Goes C P w0 F0 nt st a w σ K r o:=by
 split at hK
 ·rename_i i hi
  cases eC:o.dst with
  | none=>rw [eC] at hK;cases hK
  | some d =>
   rw [eC] at hK
   simp only [Option.bind_some] at hK
   obtain ⟨z,hz,hz1,hz2,hz3⟩:=(hT t i hi).Ku w
   obtain ⟨σ',hI,hσ⟩:∃ σ',Inv C w0 F0 nt (newVar st d (i.zero.map .val)) (a.put (aa d) (.pointer (aa ⟨w.heap.size,0,ah⟩))) { w with heap:=w.heap.push (.cells z.cells.toList.toArray t) } H σ'∧∀ s,s≠d→σ' s=σ s:=by
    refine h.newVar d (hd d eC) t (by rw [← hz1];simp) fun j c v hc hv=>?_
    rw [← hz1,fe,aM,hv] at hc
    cases hc
    have h1:=hz3 v (aV hv)
    exact ⟨h1,uO v h1 _ _⟩
   refine mM (v:=.pointer (aa ⟨w.heap.size,0,ah⟩)) (w':={ w with heap:=w.heap.push (.cells z.cells.toList.toArray t) }) ?_ hK (by rw [eC];exact hI) (by unfold kS;rw [ho];exact Ext.push w _) ⟨fun s hs=>hσ s fun e=>hs (by rw [eC,e]),by rw [ho];simp⟩
   simp only [execOp,ho,Instr.alloc,Sem.run_bind,hz,Result.andThen_ok]
   simp [Go.newVar,newRow]
 ·cases hK
theorem SB {o:Oper} {t:TypeId} {x:Operand} (ho:o.op=.box t x) (hT:∀ t i,C.ty t=aa i→gS P t i) (h:Inv C w0 F0 nt st a w H σ) (hd:∀ t,o.dst=aa t→t < nt)
  (hK:cellsOf C t (st.get C x) (fun cs=>bif C.pt t then (bif cs.all Cell.isVal && !cs.isEmpty then K (st.put o.dst (.val (.pt (cs.map Cell.cP)))) else ah) else o.dst.bind fun d=>K (newVar st d cs))=aa r):Goes C P w0 F0 nt st a w σ K r o:=by
 cases Vk:C.pt t with
 | true =>
  rw [Vk] at hK
  obtain ⟨i,cs,hi,hK,hlen,zF,_,_,_,_⟩:=lu hT (h.get x) hK
  simp only [aN] at hK
  cases hall:(cs.all Cell.isVal && !cs.isEmpty) with
  | false=>rw [hall] at hK;cases hK
  | true =>
   rw [hall] at hK
   rw [Bool.and_eq_true] at hall
   simp only [aN] at hK
   have kJ:Ext w { w with heap:=w.heap.push (.cells (a.eval x).cells.toList.toArray t) }:=Ext.push w _
   have h0:0 < cs.length:=by
    cases cs with
    | nil=>simp at hall
    | cons c cs=>simp
   refine mM (v:=.pointer (aa ⟨w.heap.size,0,ah⟩)) (w':={ w with heap:=w.heap.push (.cells (a.eval x).cells.toList.toArray t) }) ?_ hK ((h.ext kJ).put hd (v:=.pointer (aa ⟨w.heap.size,0,ah⟩)) ?_) (by unfold kS;rw [ho];exact kJ) ⟨fun s hs=>rfl,.inr (.inr rfl)⟩
   ·simp [execOp,ho,Instr.box,Go.newVar,newRow]
   ·show Rel _ _ _ _
    refine .pt _ w.heap.size (a.eval x).cells.toList (by rw [aP];exact h0) ⟨fun hb=>?_,fun i v hi hb=>?_,fun s hs=>?_⟩ (by rw [aP];exact zF.1) (fun j v hv=>?_) zF.one (fun j v hv=>?_)
    ·have:=h.below.size;omega
    ·have:=(h.hown i v _ hi hb).2;omega
    ·have:=(h.sown s _ hs).2;omega
    ·rw [cell_of_row _ w.heap.size j (a.eval x).cells.toList.toArray t (0,0) (by simp)]
     simpa using hv
    ·have hj:j < cs.length:=by rw [← zF.1];exact (List.getElem?_eq_some_iff.1 hv).1
     have hc:=zF.2 j cs[j] v (List.getElem?_eq_getElem hj) hv
     have hv':=List.all_eq_true.1 hall.1 cs[j] (List.getElem_mem hj)
     rw [aK,aM,List.getElem?_eq_getElem hj]
     generalize cs[j]=c at hc hv'
     cases c with
     | val u=>exact hc.2.mono fun b hb hF=>⟨hF,kJ.block b hb⟩
     | _=>cases hv'
 | false =>
 rw [Vk] at hK
 simp only [bB] at hK
 obtain ⟨i,cs,hi,hK,hlen,zF,_,_,_,_⟩:=lu hT (h.get x) hK
 cases eC:o.dst with
 | none=>rw [eC] at hK;cases hK
 | some d =>
  rw [eC] at hK
  simp only [Option.bind_some] at hK
  obtain ⟨σ',hI,hσ⟩:=h.newVar d (hd d eC) t zF.1 zF.2
  refine mM (v:=.pointer (aa ⟨w.heap.size,0,ah⟩)) (w':={ w with heap:=w.heap.push (.cells (a.eval x).cells.toList.toArray t) }) ?_ hK (by rw [eC];exact hI) (by unfold kS;rw [ho];exact Ext.push w _) ⟨fun s hs=>hσ s fun e=>hs (by rw [eC,e]),by rw [ho];simp⟩
  simp [execOp,ho,Instr.box,Go.newVar,newRow]
end
end Sx
