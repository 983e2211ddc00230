/- The abstract machine: what it is, what its words mean, and that its operations are sound. -/
import Derived.WalkKit
import Derived.Handy
import Derived.Below
import Derived.Laws.Strings
import Derived.Laws.Small
import Derived.Laws.StructEq
import Derived.Laws.Rows
import Derived.Laws.CopyRow
import Derived.Laws.Append
/- The abstract machine: values, blocks, operations. -/
open List (filterMap_cons getD getElem?_drop getElem?_take length_take mem_cons range replicate)
open Nat (add_assoc add_mul beq ble blt)
namespace Go.Proofs.YthbecdipboideaaDoor.Den

def maxI:Nat:=9223372036854775807
inductive Cd where
 | int (k:IntKind) | bool | str | slice (c:Cd) | unit | pair (a b:Cd)
 /-- a struct whose last field is a slice of its own kind -/
 | rose (c:Cd)
 /-- a pointer to a struct whose last field is a slice of such pointers; never nil -/
 | tree (c:Cd)
 deriving DecidableEq,Inhabited
inductive Rose (α:Type) where
 | node (a:α) (ks:List (Rose α))
def Rose.lab {α:Type}:Rose α->α | .node a _=>a
def Rose.kids {α:Type}:Rose α->List (Rose α) | .node _ ks=>ks
@[reducible] def Cd.den:Cd->Type
 | .int _=>Int
 | .bool=>Bool
 | .str=>List UInt8
 | .slice c=>List c.den
 | .unit=>Unit
 | .pair a b=>a.den×b.den
 | .rose c=>Rose c.den
 | .tree c=>Rose c.den
def Cd.size:Cd->Nat
 | .unit=>0
 | .pair a b=>a.size+b.size
 | .rose c=>c.size+1
 | _=>1
def Cd.flat:Cd->Bool
 | .slice _=>false
 | .pair a b=>a.flat&&b.flat
 | .rose _=>false
 | .tree _=>false
 | _=>true

def Cd.deep:Cd->Bool
 | .slice c=>c.flat
 | .pair a b=>a.deep&&b.deep
 | .rose _=>false
 | .tree _=>false
 | _=>true
def Cd.own (c:Cd):Bool:=match c.flat with | true=>false | false=>c.deep
def Cd.dflt:(c:Cd)->c.den
 | .int _=>(0:Int)
 | .bool=>false
 | .str=>[]
 | .slice _=>[]
 | .unit=>()
 | .pair a b=>(a.dflt,b.dflt)
 | .rose c=>.node c.dflt []
 | .tree c=>.node c.dflt []

inductive V where
 | unk
 | b (c:Bool)
 | ub
 | i (k:IntKind) (n:Int)
 | s (l:List UInt8)
 | nl
 | sl (c:Cd) (l:List c.den)
 | ref (id lo n:Nat)
 | ptr (id o:Nat)
 | el (id i o:Nat)
 | rp (c:Cd) (l:List c.den) (i o:Nat)
 | bx (cs:List V) (o:Nat)
 | np
 | tp (c:Cd) (z:Rose c.den) (o:Nat)
 | mref (id:Nat)
 | fn (f:FuncId) (first cap:List V)
 | agg (cs:List V)
 | tup (vs:List V)
 deriving Inhabited

def V.plain:V->Bool
 | .b _=>true
 | .i _ _=>true
 | .s _=>true
 | .sl _ _=>true
 | .np=>true
 | .tp _ _ _=>true
 | _=>false
def enc:(c:Cd)->c.den->List V
 | .int k,n=>[.i k n]
 | .bool,c=>[.b c]
 | .str,l=>[.s l]
 | .slice c,l=>[.sl c l]
 | .unit,_=>[]
 | .pair a b,z=>enc a z.1++enc b z.2
 | .rose c,z=>enc c z.lab++[.sl (.rose c) z.kids]
 | .tree c,z=>[.tp c z 0]
def IK (c:Cd) (z:Rose c.den):List V:=enc c z.lab++[.sl (.tree c) z.kids]
def MV (c:Cd):List V->Option (List c.den×List V)
 | .nl::r=>some ([],r)
 | .sl c' l::r=>if h:c'=c then some (h ▸ l,r) else none
 | _=>none
def dec:(c:Cd)->List V->Option (c.den×List V)
 | .int k=>fun vs=>match vs with | .i k' n::r=>(if k'=k then some (n,r) else none) | _=>none
 | .bool=>fun vs=>match vs with | .b c::r=>some (c,r) | _=>none
 | .str=>fun vs=>match vs with | .s l::r=>some (l,r) | _=>none
 | .slice c=>fun vs=>match vs with
  | .nl::r=>some ([],r)
  | .sl c' l::r=>if h:c'=c then some (h ▸ l,r) else none
  | _=>none
 | .unit=>fun r=>some ((),r)
 | .pair a b=>fun r=>match dec a r with
  | some (u,r)=>(match dec b r with | some (v,r)=>some ((u,v),r) | none=>none)
  | none=>none
 | .rose c=>fun r=>match dec c r with
  | some (a,r)=>(match MV (.rose c) r with | some (l,r)=>some (.node a l,r) | none=>none)
  | none=>none
 | .tree c=>fun vs=>match vs with
  | .tp c' z 0::r=>if h:c'=c then some (h ▸ z,r) else none
  | _=>none
def Ec (c:Cd) (vs:List V):Option c.den:=match dec c vs with | some (z,[])=>some z | _=>none
def I0 (vs:List V):Option V:=match vs.getLast? with
 | some (.sl (.tree c) l)=>(match Ec c vs.dropLast with | some a=>some (.tp c (.node a l) 0) | none=>none)
 | _=>none

inductive Blk where
 | box (cs:List V)
 | row (ro:Bool) (nl:Option Bool) (c:Cd) (l:List c.den)
 | mp (kc vc:Cd) (l:List (kc.den×vc.den))
 | drow (c:Cd) (l:List c.den) (op:Option (Nat×List V))
 deriving Inhabited

structure St where
 sl:List V
 bl:Nat->Option Blk
 next:Nat

inductive Ex where | normal | ret | exit (id:Nat)

section
variable {α β:Type}
def Ap (o:Option α) (k:α->Option β):Option β:=match o with | some a=>k a | none=>none
def ifT (c:Bool) (k:Option β):Option β:=match c with | true=>k | false=>none
def ifB (c:Bool) (a b:Option β):Option β:=match c with | true=>a | false=>b
open Classical in
noncomputable def JW (a b:Option β):Option β:=if a=b then a else none
end

inductive Br (α:Type) where
 | no
 | leaf (a:α)
 | br (c:Bool) (x y:Br α)
 | need (c:Bool) (x:Br α)
 | opt (c:Cd) (o:Option c.den) (k:c.den->Br α)
 | optB (o:Option UInt8) (k:UInt8->Br α)
def Br.run {α:Type}:Br α->Option α
 | .no=>none
 | .leaf a=>some a
 | .br c x y=>match c with | true=>x.run | false=>y.run
 | .need c x=>match c with | true=>x.run | false=>none
 | .opt _ o k=>match o with | some z=>(k z).run | none=>none
 | .optB o k=>match o with | some z=>(k z).run | none=>none
def Br.k {α β:Type} (b:Br α) (f:α->Option β):Option β:=
 match b with
 | .no=>none
 | .leaf a=>f a
 | .br c x y=>ifB c (x.k f) (y.k f)
 | .need c x=>ifT c (x.k f)
 | .opt _ o g=>Ap o fun z=>(g z).k f
 | .optB o g=>Ap o fun z=>(g z).k f

def V.cells:V->List V | .agg cs=>cs | v=>[v]

def AO:Value->V
 | .bool c=>.b c
 | .int k n=>.i k n
 | .string s=>.s s.data.toList
 | .slice none 0 0=>.nl
 | .pointer none=>.np
 | .func (.func f) first cap=>match first.toList,cap.toList with | [],[]=>.fn f [] [] | _,_=>.unk
 | _=>.unk

def opd (σ:List V):Operand->V
 | .tmp t=>σ.getD t .unk
 | .const v=>AO v
 | .func f=>.fn f [] []
 | .global _=>.unk

abbrev Upd:=List (Nat×Option Blk)
def Au (bl:Nat->Option Blk) (id:Nat) (b:Option Blk):Nat->Option Blk:=fun j=>bif beq j id then b else bl j
def Av (bl:Nat->Option Blk):Upd->Nat->Option Blk
 | []=>bl
 | (id,b)::us=>Av (Au bl id b) us

section
variable (P:Program)

def Gx (t:TypeId):Option Bool:=match P.underlying t with | some (.struct _)=>some true | some (.array _ _)=>some true | some _=>some false | none=>none
def szT (t:TypeId):Nat:=P.cellsOf t
def Dd (t:TypeId) (n:Nat):Bool:=match P.info? t with | some i=>beq i.size n | none=>false
def IP:Nat->TypeId->List TypeId
 | 0,t=>[t]
 | d+1,t=>match P.underlying t with
  | some (.struct fs)=>fs.toList.flatMap fun f=>IP d f.type
  | some (.array n e)=>(replicate n ()).flatMap fun _=>IP d e
  | _=>[t]
def Ct (t:TypeId):Option TypeId:=match P.underlying t with | some (.slice e)=>some e | _=>none
def LB (t:TypeId) (fs:List Field):Option (List Field):=match fs.getLast? with
 | some f=>(match Ct P f.type with | some e=>(match beq e t with | true=>some fs.dropLast | false=>none) | none=>none)
 | none=>none
def cdT:Nat->TypeId->Option Cd
 | 0,_=>none
 | d+1,t=>match P.underlying t with
  | some .bool=>some .bool
  | some (.int k)=>some (.int k)
  | some .string=>some .str
  | some (.slice e)=>(cdT d e).map .slice
  | some (.struct fs)=>(match LB P t fs.toList with
   | some fs=>(fs.foldr (fun f r=>match cdT d f.type,r with | some c,some r=>some (.pair c r) | _,_=>none) (some .unit)).map .rose
   | none=>fs.toList.foldr (fun f r=>match cdT d f.type,r with | some c,some r=>some (.pair c r) | _,_=>none) (some .unit))
  | some (.pointer e)=>(match P.underlying e with
   | some (.struct fs)=>(match LB P t fs.toList with
    | some fs=>(fs.foldr (fun f r=>match cdT d f.type,r with | some c,some r=>some (.pair c r) | _,_=>none) (some .unit)).map .tree
    | none=>none)
   | _=>none)
  | some (.array n e)=>(replicate n ()).foldr (fun _ r=>match cdT d e,r with | some c,some r=>some (.pair c r) | _,_=>none) (some .unit)
  | _=>none

def BO (id:Nat):List (TypeId×V)->List V×Upd
 | []=>([],[])
 | (t,v)::l=>
  let r:=BO (id+1) l
  match v with
  | .nl=>match (Ct P t).bind (cdT P 6) with
   | some c=>(.ref id 0 0::r.1,(id,some (match c.own with | true=>.drow c [] none | false=>.row false (some true) c []))::r.2)
   | none=>(v::r.1,r.2)
  | _=>(v::r.1,r.2)
def Bm (id:Nat) (t:TypeId) (cs:List V):List V×Upd:=
 let ts:=IP P 6 t
 match beq ts.length cs.length&&ble cs.length 14 with
 | true=>BO P id (ts.zip cs)
 | false=>(cs,[])

def C7 (f:V->Option (V×List Nat)):List V->Option (List V×List Nat)
 | []=>some ([],[])
 | v::vs=>match f v with
  | some (v',a)=>(match C7 f vs with
   | some (vs',b)=>some (v'::vs',a++b)
   | none=>none)
  | none=>none
def Cx (bl:Nat->Option Blk):Nat->V->Option (V×List Nat)
 | 0,_=>none
 | d+1,v=>match v with
  | .ref id lo n=>match bl id with
   | some (.row _ _ c l)=>some (.sl c ((l.drop lo).take n),[id])
   | _=>none
  | .agg cs=>match C7 (Cx bl d) cs with | some (l,ids)=>some (.agg l,ids) | none=>none
  | .ptr id 0=>match bl id with
   | some (.box cs)=>match C7 (Cx bl d) cs with
    | some (l,ids)=>(match I0 l with | some v=>some (v,id::ids) | none=>some (.ptr id 0,[]))
    | none=>some (.ptr id 0,[])
   | _=>some (.ptr id 0,[])
  | v=>some (v,[])
def FY (bl:Nat->Option Blk) (cs:List V):Option (List V×List Nat):=
 C7 (Cx bl 3) cs
def AP (bl:Nat->Option Blk) (ids:List Nat):Upd:=ids.filterMap fun id=>match bl id with | some (.row _ nl c l)=>some (id,some (.row true nl c l)) | some (.box _)=>some (id,none) | some (.drow c l none)=>some (id,some (.row true none c l)) | _=>none

def Ai {α:Type} (row:List α) (o:Nat):List α->List α
 | []=>row
 | v::vs=>Ai (row.set o v) (o+1) vs
def V.known:V->Bool
 | .unk=>false
 | _=>true
def V.single:V->Bool
 | .unk=>false
 | .agg _=>false
 | .tup _=>false
 | _=>true

def V.stor:V->Bool
 | .sl _ _=>false
 | v=>v.single
def V.isSl:V->Bool
 | .sl _ _=>true
 | _=>false

variable {β:Type}
def Hh (c:Cd) (l:List c.den) (op:Option (Nat×List V)) (i:Nat) (k:List V->Option β):Option β:=match op with
 | none=>Ap l[i]? fun z=>k (enc c z)
 | some (j,row)=>ifT (beq j i) (k row)
def BT (t:TypeId) (row:List V) (o:Nat) (k:V->Option β):Option β:=
 match Gx P t with
 | some true=>(match P.info? t with
  | some i=>ifT (ble (o+i.size) row.length) (k (.agg ((row.drop o).take i.size)))
  | none=>none)
 | some false=>Ap row[o]? k
 | none=>none

def Dj (bl:Nat->Option Blk) (t:TypeId) (a:V) (k:V->Option β):Option β:=
 match a with
 | .ptr id o=>match bl id with | some (.box cs)=>BT P t cs o k | _=>none
 | .el id i o=>match bl id with | some (.row _ _ c l)=>Ap l[i]? fun z=>BT P t (enc c z) o k | _=>none
 | .rp c l i o=>Ap l[i]? fun z=>BT P t (enc c z) o k
 | .bx cs o=>BT P t cs o k
 | .tp c z o=>BT P t (IK c z) o k
 | _=>none

def HN (new:Nat) (t:TypeId) (id i o:Nat) (c:Cd) (l:List c.den) (cs:List V) (k:V->Upd->Option β):Option β:=
 match Gx P t with
 | some true=>(match P.info? t with
  | some n=>ifT (ble (o+n.size) cs.length&&((cs.drop o).take n.size).all fun v=>!v.isSl) (k (.agg ((cs.drop o).take n.size)) [])
  | none=>none)
 | some false=>(match cs[o]? with
  | some (.sl c' l')=>ifT c'.flat (k (.ref new 0 l'.length) [(id,some (.drow c l (some (i,cs.set o (.ref new 0 l'.length))))),(new,some (.row false none c' l'))])
  | some v=>k v []
  | none=>none)
 | none=>none
def JD (bl:Nat->Option Blk) (new:Nat) (t:TypeId) (a:V) (k:V->Upd->Option β):Option β:=
 match a with
 | .el id i o=>match bl id with
  | some (.drow c l op)=>Hh c l op i fun cs=>HN P new t id i o c l cs k
  | _=>Dj P bl t (.el id i o) fun v=>k v []
 | a=>Dj P bl t a fun v=>k v []

def Ed (bl:Nat->Option Blk) (new:Nat) (t:TypeId) (a v:V) (k:Upd->Option β):Option β:=
 match a with
 | .ptr id o=>match bl id with
  | some (.box row)=>
   let r:=Bm P new t v.cells
   ifT (Dd P t r.1.length&&ble (o+r.1.length) row.length&&v.cells.all V.single) (k (r.2++[(id,some (.box (Ai row o r.1)))]))
  | _=>none
 | .el id i o=>match bl id with
  | some (.row false nl c l)=>match FY bl v.cells with
   | some (cs,ids)=>match ids.contains id with
    | true=>none
    | false=>Ap l[i]? fun z=>ifT (Dd P t cs.length&&ble (o+cs.length) c.size&&cs.all V.single) (match Ec c (Ai (enc c z) o cs) with
     | some z'=>k (AP bl ids++[(id,some (.row false nl c (l.set i z')))])
     | none=>none)
   | none=>none
  | some (.drow c l op)=>Hh c l op i fun cs=>ifT (Dd P t v.cells.length&&ble (o+v.cells.length) cs.length&&v.cells.all V.stor) (k [(id,some (.drow c l (some (i,Ai cs o v.cells))))])
  | _=>none
 | _=>none

def G9 (k:IntKind) (n:Int):V:=.i k (k.wrap n)
def Mh (k:IntKind) (r:BitVec k.bits):V:=.i k (k.wrap r.toNat)

def I3 (op:BinOp) (big:Bool) (k:V->Option β):Option β:=match op with
 | .eql=>ifB big (k (.b false)) (k .ub)
 | .neq=>ifB big (k (.b true)) (k .ub)
 | _=>none
def OI:List Field->List V->List V->Option Bool
 | [],_,_=>some true
 | f::fs,as',bs=>match (f.name != "_"),Gx P f.type with
  | true,some false=>(match as'[f.offset]?,bs[f.offset]?,P.underlying f.type,OI fs as' bs with
   | some (.i k a),some (.i k' b),some (.int _),some r=>(match decide (k=k') with | true=>some ((a==b)&&r) | false=>none)
   | some (.s a),some (.s b),some .string,some r=>some ((a==b)&&r)
   | some (.b a),some (.b b),some .bool,some r=>some ((a==b)&&r)
   | _,_,_,_=>none)
  | _,_=>none
def Mc (op:BinOp) (t:TypeId) (as' bs:List V) (k:V->Option β):Option β:=
 match P.underlying t with
 | some (.struct fs)=>(match P.stoodInHeld t,P.eqGuardType P.depth t,OI P fs.toList as' bs with
  | false,false,some r=>(match op with
   | .eql=>k (.b r)
   | .neq=>k (.b (!r))
   | _=>none)
  | _,_,_=>none)
 | _=>none
def GK (op:BinOp) (t:TypeId) (k:V->Option β):Option β:=match P.underlying t with
 | some (.pointer _)=>(match op with
  | .eql=>k (.b false)
  | .neq=>k (.b true)
  | _=>none)
 | _=>none
def Kk (op:BinOp) (t:TypeId) (x y:V) (k:V->Option β):Option β:=
 match x,y with
 | .i xk a,.i yk b=>match op with
  | .shl=>ifT (decide (0<=b)) (k (G9 xk (a*2 ^ (min b.toNat xk.bits))))
  | .shr=>ifT (decide (0<=b)) (k (.i xk (a.fdiv (2 ^ (min b.toNat xk.bits)))))
  | op=>ifT (decide (xk=yk)) (match op with
   | .add=>k (G9 xk (a+b))
   | .sub=>k (G9 xk (a-b))
   | .mul=>k (G9 xk (a*b))
   | .quo=>ifT (!decide (b=0)) (k (G9 xk (a.tdiv b)))
   | .rem=>ifT (!decide (b=0)) (k (.i xk (a.tmod b)))
   | .and=>k (Mh xk (BitVec.ofInt xk.bits a &&& BitVec.ofInt xk.bits b))
   | .or=>k (Mh xk (BitVec.ofInt xk.bits a ||| BitVec.ofInt xk.bits b))
   | .xor=>k (Mh xk (BitVec.ofInt xk.bits a ^^^ BitVec.ofInt xk.bits b))
   | .andNot=>k (Mh xk (BitVec.ofInt xk.bits a &&& ~~~ BitVec.ofInt xk.bits b))
   | .eql=>k (.b (a==b))
   | .neq=>k (.b (a != b))
   | .lss=>k (.b (decide (a<b)))
   | .leq=>k (.b (decide (a<=b)))
   | .gtr=>k (.b (decide (a>b)))
   | .geq=>k (.b (decide (a>=b)))
   | _=>none)
 | .s a,.s b=>match op with
  | .add=>ifT (decide (a.length+b.length<=9223372036854775807)) (k (.s (a++b)))
  | .eql=>k (.b (a==b))
  | .neq=>k (.b (!(a==b)))
  | .lss=>k (.b (Op.bytesLess a b))
  | .leq=>k (.b (Op.bytesLess a b||a==b))
  | .gtr=>k (.b (!(Op.bytesLess a b||a==b)))
  | .geq=>k (.b (!Op.bytesLess a b))
  | _=>none
 | .b a,.b b=>match P.underlying t with
  | some .bool=>(match op with
   | .eql=>k (.b (a==b))
   | .neq=>k (.b (!(a==b)))
   | _=>none)
  | _=>none
 | .sl _ l,.nl=>match Ct P t with
  | some _=>I3 op (decide (0<l.length)) k
  | none=>none
 | .ref _ _ n,.nl=>match Ct P t with
  | some _=>I3 op (decide (0<n)) k
  | none=>none
 | .agg as',.agg bs=>Mc P op t as' bs k
 | .ptr _ _,.np=>GK P op t k
 | .tp _ _ _,.np=>GK P op t k
 | .bx _ _,.np=>GK P op t k
 | .np,.np=>(match P.underlying t with
  | some (.pointer _)=>(match op with
   | .eql=>k (.b true)
   | .neq=>k (.b false)
   | _=>none)
  | _=>none)
 | .nl,.nl=>match Ct P t with
  | some _=>(match op with
   | .eql=>k (.b true)
   | .neq=>k (.b false)
   | _=>none)
  | none=>none
 | _,_=>none

def unK (op:UnOp) (x:V) (k:V->Option β):Option β:=
 match op,x with
 | .not,.b c=>k (.b (!c))
 | .neg,.i kk n=>k (G9 kk (0-n))
 | _,_=>none

def Dl (bl:Nat->Option Blk) (e:TypeId) (v:V) (n:Int) (k:V->Option β):Option β:=
 match v with
 | .ref id lo m=>match bl id with
  | some (.row _ _ c _)=>ifT (Dd P e c.size) (ifT (decide (0<=n)&&decide (n<m)) (k (.el id (lo+n.toNat) 0)))
  | some (.drow c _ _)=>ifT (Dd P e c.size) (ifT (decide (0<=n)&&decide (n<m)) (k (.el id (lo+n.toNat) 0)))
  | _=>none
 | .sl c l=>ifT (Dd P e c.size) (ifT (decide (0<=n)&&decide (n<l.length)) (k (.rp c l n.toNat 0)))
 | _=>none

def JF (t:TypeId) (v:V) (k:Int->Option β):Option β:=
 match P.underlying t with
 | some .string=>(match v with
  | .s l=>k l.length
  | _=>none)
 | some (.slice _)=>(match v with
  | .ref _ _ n=>k n
  | .sl _ l=>k l.length
  | .nl=>k 0
  | _=>none)
 | some (.array n _)=>k n
 | _=>none

def Hu:Option V->Option (Option Int)
 | none=>some none
 | some (.i _ n)=>some (some n)
 | _=>none

def Er (m:Nat) (lo hi:Option Int) (k:Nat->Nat->Option β):Option β:=
 match lo,hi with
 | none,none=>k 0 m
 | some l,none=>ifT (decide (0<=l)&&decide (l<=m)) (k l.toNat m)
 | none,some h=>ifT (decide (0<=h)&&decide (h<=m)) (k 0 h.toNat)
 | some l,some h=>ifT (decide (0<=l)&&decide (l<=h)&&decide (h<=m)) (k l.toNat h.toNat)

def hiB (hi:Option Int) (n m:Nat):Nat:=match hi with | none=>n | some _=>m
def DA (bl:Nat->Option Blk) (t:TypeId) (v:V) (lo hi:Option Int) (k:V->Option β):Option β:=
 match P.underlying t with
 | some .string=>(match v with
  | .s l=>Er l.length lo hi fun a b=>k (.s ((l.drop a).take (b-a)))
  | _=>none)
 | some (.slice e)=>(match v with
  | .ref id p n=>(match bl id with
   | some (.row _ _ c ll)=>ifT (Dd P e c.size) (Er (hiB hi n (ll.length-p)) lo hi fun a b=>k (.ref id (p+a) (b-a)))
   | _=>none)
  | .sl c l=>ifT (Dd P e c.size) (Er l.length lo hi fun a b=>k (.sl c ((l.drop a).take (b-a))))
  | _=>none)
 | _=>none

def Dr (bl:Nat->Option Blk) (c:Cd) (v:V):Option (List c.den):=
 match v with
 | .s l=>if h:c = .int .u8 then some (l.map fun z=>(h ▸ ((z.toNat:Int):(Cd.int .u8).den):c.den)) else none
 | .nl=>some []
 | .sl c' l=>if h:c'=c then some (h ▸ l) else none
 | .ref id lo n=>match bl id with
  | some (.row _ _ c' l)=>if h:c'=c then some (h ▸ ((l.drop lo).take n)) else none
  | _=>none
 | _=>none
def Ll (e:TypeId) (n:Nat):Bool:=match P.info? e with
 | some i=>beq i.size n&&(match i.zero with | some z=>beq z.cells.size i.size | none=>false)
 | none=>false
def OC (t:TypeId):Bool:=match P.underlying t with | some (.slice _)=>true | some .string=>true | _=>false
def Im (id:Nat) (y:V):Option (Nat×Nat):=match y with
 | .ref id' lo n=>match beq id' id with | true=>some (lo,n) | false=>none
 | _=>none
def E4 (bl:Nat->Option Blk) (new:Nat) (t t2:TypeId) (v y:V) (k:V->Upd->Option β):Option β:=
 match Ct P t with
 | some e=>ifT (OC P t2) (match v with
  | .ref id lo n=>match bl id with
   | some (.row false nl c l)=>match Im id y with
    | some (lo2,n2)=>ifT (Ll P e c.size) (ifT (decide (lo+n+n2<=l.length/\lo2+n2<=l.length)) (k (.ref id lo (n+n2)) [(id,some (.row false nl c (l.take (lo+n)++(l.drop lo2).take n2++l.drop (lo+n+n2))))]))
    | none=>match Dr bl c y with
    | some news=>ifT (Ll P e c.size) (ifT (decide ((n+news.length)*P.bytesOf e<=140737488355328)&&decide (n+news.length<=maxI)) (k (.ref new 0 (n+news.length)) [(id,none),(new,some (.row false (some false) c ((l.drop lo).take n++news)))]))
    | none=>none
   | some (.drow c l none)=>match y with
    | .ref id2 lo2 n2=>match beq id2 id,bl id2 with
     | false,some (.drow c2 l2 (some (j,row)))=>ifT (Ll P e c.size) (ifT (decide (lo=0/\n=l.length/\lo2=0/\n2=1/\l2.length=1/\j=0)&&((beq c2.size c.size&&row.all V.single)&&(decide ((n+1)*P.bytesOf e<=140737488355328)&&decide (n+1<=maxI)))) (k (.ref new 0 (n+1)) [(id,none),(id2,none),(new,some (.drow c (l++[c.dflt]) (some (l.length,row))))]))
     | _,_=>none
    | _=>none
   | _=>none
  | .nl=>match cdT P 6 e with
   | some c=>match Dr bl c y with
    | some news=>ifT (Ll P e c.size) (ifT (decide (news.length*P.bytesOf e<=140737488355328)&&decide (news.length<=maxI)) (k (.ref new 0 news.length) [(new,some (.row false none c news))]))
    | none=>none
   | none=>none
  | _=>none)
 | none=>none

def Df (t:TypeId):Option (List V):=match (P.info? t).bind (·.zero) with
 | some z=>some (z.cells.toList.map AO)
 | none=>none

def He (t:TypeId) (f:Nat):Option (Nat×TypeId):=match P.underlying t with
 | some (.struct fs)=>match fs.toList[f]? with | some g=>some (g.offset,g.type) | none=>none
 | _=>none
def F3 (place:Nat->Option (Nat×Nat)) (cells:List V):List (Nat×V)->Option (List V)
 | []=>some cells
 | (j,v)::rest=>match place j with
  | none=>none
  | some (off,size)=>match v.known&&(beq v.cells.length size&&ble (off+v.cells.length) cells.length) with
   | true=>F3 place (Ai cells off v.cells) rest
   | false=>none

def Ls (t:TypeId) (parts:List (Nat×V)):Option (List V):=
 match P.info? t,P.underlying t with
 | some it,some (.array _ e)=>(match it.zero,P.info? e with
  | some z,some ie=>F3 (fun i=>some (i*ie.size,ie.size)) (z.cells.toList.map AO) parts
  | _,_=>none)
 | some it,some (.struct fs)=>(match it.zero,fs.toList.mapM (fun f=>(P.info? f.type).map fun i=>(f.offset,i.size)) with
  | some z,some places=>F3 (places.toArray[·]?) (z.cells.toList.map AO) parts
  | _,_=>none)
 | _,_=>none
def Hk (c:Cd):Nat->List V->Option (List c.den)
 | 0,[]=>some []
 | 0,_=>none
 | n+1,l=>match dec c l with
  | some (z,r)=>(match Hk c n r with | some zs=>some (z::zs) | none=>none)
  | none=>none

/-! A call: what its arguments Ba goes along, numbered anew. -/
structure Ent where
 rd:Bool
 pt:Bool
 G:List V->List Blk->Br (V×List (Option Blk))
def Ent.F (e:Ent) (vs:List V) (bs:List Blk):Option (V×List (Option Blk)):=(e.G vs bs).run

def Qh:Option Blk->Bool
 | some (.box _)=>true
 | _=>false
def DS (bl:Nat->Option Blk) (pt:Bool):Nat->V->Option (V×List Nat)
 | 0,_=>none
 | d+1,v=>match v with
  | .ref id lo n=>match bl id with
   | some (.row _ _ c l)=>some (.sl c ((l.drop lo).take n),[id])
   | some (.drow c l none)=>some (.sl c ((l.drop lo).take n),[id])
   | _=>none
  | .el id i o=>match pt with | false=>some (.el id i o,[]) | true=>match bl id with
   | some (.drow c l none)=>some (.rp c l i o,[id])
   | _=>some (.el id i o,[])
  | .agg cs=>match C7 (DS bl pt d) cs with | some (l,ids)=>some (.agg l,ids) | none=>none
  | .ptr id o=>match pt with | false=>some (.ptr id o,[]) | true=>match bl id with
   | some (.box cs)=>match C7 (DS bl pt d) cs with
    | some (l,ids)=>(match l.all V.plain with
     | true=>(match I0 l,o with
      | some v,0=>some (v,id::ids)
      | _,_=>some (.bx l o,id::ids))
     | false=>some (.ptr id o,[]))
    | none=>some (.ptr id o,[])
   | _=>some (.ptr id o,[])
  | v=>some (v,[])
def BW:Nat->V->List Nat
 | 0,_=>[]
 | d+1,v=>match v with
  | .ref id _ _=>[id]
  | .ptr id _=>[id]
  | .el id _ _=>[id]
  | .mref id=>[id]
  | .agg cs=>cs.flatMap (BW d)
  | .tup cs=>cs.flatMap (BW d)
  | .fn _ a c=>a.flatMap (BW d)++c.flatMap (BW d)
  | _=>[]
def A7 (l m:List Nat):List Nat:=m.foldl (fun l j=>match l.contains j with | true=>l | false=>l++[j]) l
def Ey:Option Blk->List Nat
 | some (.box cs)=>cs.flatMap (BW 4)
 | some (.drow _ _ (some p))=>p.2.flatMap (BW 4)
 | _=>[]
def Ba (bl:Nat->Option Blk):Nat->List Nat->List Nat->List Nat
 | 0,acc,_=>acc
 | _+1,acc,[]=>acc
 | d+1,acc,todo=>
  let more:=todo.flatMap fun id=>Ey (bl id)
  let acc':=A7 acc more
  Ba bl d acc' (acc'.drop acc.length)
def Bd (l:List Nat) (id:Nat):Option Nat:=l.findIdx? (beq id)
def BU (ρ:Nat->Option Nat):Nat->V->V
 | 0,_=>.unk
 | d+1,v=>match v with
  | .ref id lo n=>match ρ id with | some j=>.ref j lo n | none=>.unk
  | .ptr id o=>match ρ id with | some j=>.ptr j o | none=>.unk
  | .el id a o=>match ρ id with | some j=>.el j a o | none=>.unk
  | .mref id=>match ρ id with | some j=>.mref j | none=>.unk
  | .agg cs=>.agg (cs.map (BU ρ d))
  | .tup cs=>.tup (cs.map (BU ρ d))
  | .fn f a c=>.fn f (a.map (BU ρ d)) (c.map (BU ρ d))
  | v=>v
def BV (ρ:Nat->Option Nat) (b:Blk):Blk:=match b with
 | .box cs=>.box (cs.map (BU ρ 5))
 | .drow c l op=>.drow c l (op.map fun p=>(p.1,p.2.map (BU ρ 5)))
 | b=>b
def BF:Nat->V->Bool
 | 0,_=>false
 | d+1,v=>match v with
  | .sl ..=>false
  | .rp ..=>false
  | .bx ..=>false
  | .tp ..=>false
  | .agg cs=>cs.all (BF d)
  | .tup cs=>cs.all (BF d)
  | .fn _ a c=>a.all (BF d)&&c.all (BF d)
  | _=>true

def Hm (Γ:FuncId->Option Ent) (bl:Nat->Option Blk) (new:Nat) (f:FuncId) (args:List V) (k:V->Upd->Option β):Option β:=
 match Γ f with
 | none=>none
 | some ent=>
  match (match ent.rd with | true=>C7 (DS bl ent.pt 4) args | false=>some (args,[])) with
  | none=>none
  | some (vs,lent)=>
   let top:=A7 [] (vs.flatMap (BW 5))
   let ids:=Ba bl 4 top top
   match ids.mapM bl,lent.any ids.contains with
   | some bs,false=>
    Br.k (ent.G (vs.map (BU (Bd ids) 5)) (bs.map (BV (Bd ids)))) fun r=>
     let m:=ids.length
     let back:Nat->Option Nat:=fun j=>match blt j m with | true=>ids[j]? | false=>some (new+(j-m))
     let v:=BU back 6 r.1
     let upd:=r.2.zipIdx.map fun p=>((back p.2).getD 0,p.1.map (BV back))
     let clean:=BF 6 r.1&&r.2.all fun o=>match o with | some (.row _ _ c _)=>c.flat | some (.box cs)=>cs.all (BF 5) | some (.mp _ _ _)=>false | some (.drow c _ none)=>c.deep | some (.drow _ _ (some _))=>false | none=>true
     match blt (r.2.length) (m+15)&&ble m r.2.length with
     | true=>k v ((match clean with | true=>[] | false=>AP bl lent)++upd)
     | false=>none
   | _,_=>none
end
end Go.Proofs.YthbecdipboideaaDoor.Den
/- The abstract machine: one operation, a region, code. -/
namespace Go.Proofs.YthbecdipboideaaDoor.Den

noncomputable section
variable (P:Program) (Γ:FuncId->Option Ent) {β:Type}

def FN (op:Builtin) (vs:List V) (k:V->Option β):Option β:=
 match vs with
 | [.i xk a,.i _ b]=>match op with
  | .min=>k (.i xk (if b<a then b else a))
  | .max=>k (.i xk (if b>a then b else a))
  | _=>none
 | _=>none

def E3 (bl:Nat->Option Blk) (new:Nat) (t t2:TypeId) (v:V) (m:Int) (k:V->Upd->Option β):Option β:=
 match Ct P t with
 | some e=>match P.underlying t2 with
  | some (.int _)=>match v with
   | .ref id lo n=>match bl id with
    | some (.row false _ c l)=>match Df P e with
     | some zs=>match Ec c zs with
      | some z=>ifT (Ll P e c.size) (ifT (decide (0<=m/\m<=1000000)&&(decide ((n+m.toNat)*P.bytesOf e<=140737488355328)&&decide (n+m.toNat<=maxI))) (k (.ref new 0 (n+m.toNat)) [(id,none),(new,some (.row false (some false) c ((l.drop lo).take n++replicate m.toNat z)))]))
      | none=>none
     | none=>none
    | _=>none
   | _=>none
  | _=>none
 | none=>none

def Ew (bl:Nat->Option Blk) (new:Nat) (op:Builtin) (ts:Array TypeId) (vs:List V) (k:V->Upd->Option β):Option β:=
 match op with
 | .len=>match vs,ts.toList with
  | [v],t::_=>JF P t v fun n=>k (.i .i64 n) []
  | _,_=>none
 | .append=>match vs,ts.toList with
  | [v,.i _ m],[t,t2]=>E3 P bl new t t2 v m k
  | [v,y],[t,t2]=>E4 P bl new t t2 v y k
  | _,_=>none
 | .clear=>match vs,ts.toList with
  | [.ref id lo n],t::_=>match Ct P t,bl id with
   | some e,some (.row false nl c l)=>match Df P e with
    | some row=>match Ec c row with
     | some z=>ifT (Dd P e c.size) (k .unk [(id,some (.row false nl c (l.take lo++replicate n z++l.drop (lo+n))))])
     | none=>none
    | none=>none
   | _,_=>none
  | _,_=>none
 | .min=>FN .min vs fun v=>k v []
 | .max=>FN .max vs fun v=>k v []
 | _=>none

def Rx (kt:TypeId):Option Cd:=match P.underlying kt with
 | some (.int k)=>some (.int k)
 | some .string=>some .str
 | _=>none
def CC:(c:Cd)->c.den->c.den->Bool
 | .int _=>fun (a b:Int)=>a==b
 | .str=>fun (a b:List UInt8)=>a==b
 | _=>fun _ _=>false
def LU (kt:TypeId) (c:Cd) (v:V):Option c.den:=match P.underlying kt,c,v with
 | some (.int k),.int k',.i k2 n=>(match decide (k=k'),decide (k2=k') with | true,true=>some n | _,_=>none)
 | some .string,.str,.s l=>some l
 | _,_,_=>none
def Dy {α:Type} (c:Cd):List (c.den×α)->c.den->Option α
 | [],_=>none
 | e::l,x=>match CC c x e.1 with | true=>some e.2 | false=>Dy c l x
def Eb {α:Type} (c:Cd):List (c.den×α)->c.den->α->List (c.den×α)
 | [],x,v=>[(x,v)]
 | e::l,x,v=>match CC c x e.1 with | true=>(x,v)::l | false=>e::Eb c l x v
def JA (new:Nat) (t:TypeId):Option Upd:=match P.underlying t with
 | some (.map kt et)=>(match Rx P kt,cdT P 6 et with
  | some kc,some vc=>(match beq vc.size 1 with | true=>some [(new,some (.mp kc vc []))] | false=>none)
  | _,_=>none)
 | _=>none
def PZ (t:TypeId):Option V:=match (P.info? t).bind (·.zero) with
 | some z=>some (AO z)
 | none=>none
def Ol (vs:List V) (ok has:Bool):Option V:=match vs,ok with
 | [v],true=>some (.tup [v,.b has])
 | [v],false=>some v
 | _,_=>none
def LK (bl:Nat->Option Blk) (t:TypeId) (m x:V) (ok:Bool):Option V:=match P.underlying t,m with
 | some (.map kt et),.mref id=>(match bl id with
  | some (.mp kc vc l)=>(match LU P kt kc x,(PZ P et).bind fun v=>Ec vc [v] with
   | some key,some z=>Ol (enc vc ((Dy kc l key).getD z)) ok (Dy kc l key).isSome
   | _,_=>none)
  | _=>none)
 | _,_=>none
def LI (bl:Nat->Option Blk) (t:TypeId) (m x v:V):Option Upd:=match P.underlying t,m with
 | some (.map kt _),.mref id=>(match bl id with
  | some (.mp kc vc l)=>(match LU P kt kc x,FY bl [v] with
   | some key,some (cs,ids)=>(match ids.contains id,Ec vc cs with
    | false,some z=>some (AP bl ids++[(id,some (.mp kc vc (Eb kc l key z)))])
    | _,_=>none)
   | _,_=>none)
  | _=>none)
 | _,_=>none
def nlV (bl:Nat->Option Blk) (v:V):V:=match v with
 | .ref id _ _=>(match bl id with
  | some (.row _ (some true) _ _)=>.nl
  | _=>v)
 | v=>v
def opK (sl:List V) (bl:Nat->Option Blk) (new:Nat) (o:Oper) (k:V->Upd->Option β):Option β:=
 match o.op with
 | .move x=>k (opd sl x) []
 | .assign x=>match opd sl x with
  | .nl=>(match Bm P new o.type [.nl] with
   | ([v],us)=>k v us
   | _=>none)
  | .agg cs=>(match Bm P new o.type cs with
   | (cs',us)=>k (.agg cs') us)
  | v=>k v []
 | .pick c a b=>match opd sl c with
  | .b t=>ifB t (k (opd sl a) []) (k (opd sl b) [])
  | _=>none
 | .alloc t=>match Df P t with
  | some row=>
   let r:=Bm P (new+1) t row
   k (.ptr new 0) (r.2++[(new,some (.box r.1))])
  | none=>none
 | .box t v=>
  let r:=Bm P (new+1) t (opd sl v).cells
  match opd sl v with
  | .unk=>none
  | _=>k (.ptr new 0) (r.2++[(new,some (.box r.1))])
 | .build t parts=>match Ls P t (parts.toList.map fun p=>(p.1,opd sl p.2)) with
  | some cs=>k (.agg cs) []
  | none=>none
 | .buildSlice t n parts=>match Ct P t with
  | some e=>(match P.info? e,cdT P 6 e with
   | some ie,some c=>(match ie.zero with
    | some z=>(match F3 (fun j=>some (j*ie.size,ie.size)) ((replicate n ()).flatMap fun _=>z.cells.toList.map AO) (parts.toList.map fun p=>(p.1,opd sl p.2)) with
     | some cells=>match (match c.own,cells.all V.stor with | true,true=>beq n 1 | _,_=>false) with
      | true=>ifT (beq z.cells.size ie.size&&beq c.size ie.size&&ble ie.size 16777216&&blt 0 ie.size&&beq cells.length c.size) (k (.ref new 0 1) [(new,some (.drow c [c.dflt] (some (0,cells))))])
      | false=>(match FY bl cells with
      | some (cs,ids)=>(match Hk c n cs with
       | some l=>ifT (beq z.cells.size ie.size&&beq c.size ie.size&&ble (n*ie.size) 16777216&&blt 0 ie.size) (k (.ref new 0 n) (AP bl ids++[(new,some (.row false (some false) c l))]))
       | none=>none)
      | none=>none)
     | none=>none)
    | none=>none)
   | _,_=>none)
  | none=>none
 | .load t a=>JD P bl new t (opd sl a) k
 | .store t a x=>Ed P bl new t (opd sl a) (opd sl x) fun us=>k .unk us
 | .nilCheck x=>match opd sl x with
  | .ptr id o=>k (.ptr id o) []
  | .el id i o=>k (.el id i o) []
  | .rp kk rows i o=>k (.rp kk rows i o) []
  | .bx cs o=>k (.bx cs o) []
  | .tp c z o=>k (.tp c z o) []
  | .fn f a c=>k (.fn f a c) []
  | _=>none
 | .binOp op t x y _=>Kk P op t (nlV bl (opd sl x)) (opd sl y) fun v=>k v []
 | .unOp op _ x=>unK op (opd sl x) fun v=>k v []
 | .convert s d x=>match P.underlying s,P.underlying d,opd sl x with
  | some _,some (.int kd),.i _ n=>k (G9 kd n) []
  | some .string,some .string,.s l=>k (.s l) []
  | some (.slice e),some .string,v=>(match P.underlying e with
   | some (.int .u8)=>(match Dr bl (.int .u8) (match v with | .s _=>.unk | v=>v) with
    | some l=>k (.s (l.map fun (n:Int)=>UInt8.ofNat n.toNat)) []
    | none=>none)
   | _=>none)
  | _,_,_=>none
 | .makeFunc (.func f) first cap=>k (.fn f (first.toList.map (opd sl)) (cap.toList.map (opd sl))) []
 | .makeSlice t n c=>match Ct P t,opd sl n,opd sl c with
  | some e,.i _ l,.i _ m=>(match Df P e,cdT P 6 e with
   | some row,some c=>(match Ec c row with
    | some z=>ifT (Dd P e c.size) (ifT (decide (0<=l)&&decide (l<=m)&&decide (m*P.bytesOf e<=140737488355328)&&decide (m<=9223372036854775807)) (k (.ref new 0 l.toNat) [(new,some (match c.own with | true=>.drow c (replicate l.toNat z) none | false=>.row false (some false) c (replicate l.toNat z)))]))
    | none=>none)
   | _,_=>none)
  | _,_,_=>none
 | .slice t x lo hi none=>match Hu (lo.map (opd sl)),Hu (hi.map (opd sl)) with
  | some l,some h=>DA P bl t (opd sl x) l h fun v=>k v []
  | _,_=>none
 | .slice t x (some lo) (some hi) (some mx)=>match opd sl lo,opd sl hi,opd sl mx,Ct P t with
  | .i _ l,.i _ h,.i _ m,some e=>(match opd sl x with
   | .ref _ _ n=>ifT (Dd P e (szT P e)) (ifT (decide (0<=l/\l<=h/\h<=m/\m<=n)) (k .unk []))
   | .sl _ r=>ifT (Dd P e (szT P e)) (ifT (decide (0<=l/\l<=h/\h<=m/\m<=r.length)) (k .unk []))
   | _=>none)
  | _,_,_,_=>none
 | .fieldAddr s x f=>match He P s f with
  | some (off,ft)=>ifT (blt 0 (szT P ft)) (match opd sl x with
   | .ptr id o=>k (.ptr id (o+off)) []
   | .el id i o=>k (.el id i (o+off)) []
   | .rp kk rows i o=>k (.rp kk rows i (o+off)) []
   | .bx cs o=>k (.bx cs (o+off)) []
   | .tp c z o=>k (.tp c z (o+off)) []
   | _=>none)
  | none=>none
 | .field s x f=>match He P s f,opd sl x with
  | some (off,t),.agg cs=>BT P t cs off fun v=>k v []
  | _,_=>none
 | .indexAddr t x ix=>match P.underlying t,opd sl x,opd sl ix with
  | some (.slice e),v,.i _ n=>Dl P bl e v n fun p=>k p []
  | some (.array len e),.ptr id o,.i _ n=>ifT (Dd P e (szT P e)) (ifT (decide (0<=n)&&decide (n<len)) (k (.ptr id (o+n.toNat*szT P e)) []))
  | _,_,_=>none
 | .index t x ix=>match P.underlying t,opd sl x,opd sl ix with
  | some .string,.s l,.i _ n=>ifT (decide (0<=n)) (Ap l[n.toNat]? fun z=>k (.i .u8 z.toNat) [])
  | some (.array len e),.agg cs,.i _ n=>ifT (Dd P e (szT P e)) (ifT (decide (0<=n)&&decide (n<len)) (BT P e cs (n.toNat*szT P e) fun v=>k v []))
  | _,_,_=>none
 | .makeMap t none=>(match JA P new t with
  | some us=>k (.mref new) us
  | none=>none)
 | .lookup t m x ok=>(match LK P bl t (opd sl m) (opd sl x) ok with
  | some v=>k v []
  | none=>none)
 | .mapUpdate t m x v=>(match LI P bl t (opd sl m) (opd sl x) (opd sl v) with
  | some us=>k .unk us
  | none=>none)
 | .extract x j=>match opd sl x with
  | .tup vs=>Ap vs[j]? fun v=>k v []
  | _=>none
 | .call c=>(match c.callee with
  | .builtin b=>Ew P bl new b c.argTypes (c.args.toList.map (opd sl)) k
  | .value f=>(match opd sl f with
   | .fn g first cap=>Hm Γ bl new g (first++c.args.toList.map (opd sl)++cap) k
   | _=>none)
  | .invoke _ _=>none)
 | _=>none

def CT (sl:List V) (bl:Nat->Option Blk) (o:Oper):List Nat:=
 let top:=A7 [] ((o.op.operands.toList.map (opd sl)).flatMap (BW 5))
 match o.op with
 | .call { callee:=.value _,.. }=>Ba bl 4 top top
 | .store _ _ x=>let more:=A7 [] (BW 5 (opd sl x)); A7 top (Ba bl 3 more more)
 | .buildSlice .. | .mapUpdate ..=>Ba bl 3 top top
 | .lookup .. | .call _ | .binOp .. | .load .. | .convert .. | .slice .. | .indexAddr .. | .assign _=>top
 | _=>[]

def Nj (sl:List V) (done:List (Option Tmp)) (o:Oper) (y n:List V->Option β):Option β:=
 match o.guard with
 | none=>y sl
 | some (g,want)=>match (done[g]?).bind id with
  | some t=>(match sl.getD t .unk with
   | .b c=>(match want with
    | true=>ifB c (y (sl.set t (.b true))) (n (sl.set t (.b false)))
    | false=>ifB c (n (sl.set t (.b true))) (y (sl.set t (.b false))))
   | .tup _=>n sl
   | _=>none)
  | none=>none

def GJ (bl:Nat->Option Blk) (T:List Nat):Nat->Option Blk:=fun id=>match T.contains id with | true=>bl id | false=>none
def Do (sl:List V) (d:Option Tmp) (v:V):List V:=match d with | some t=>sl.set t v | none=>sl

def M1 (dsts:List (Option Tmp)) (base:Nat):Nat->List Oper->List V->(Nat->Option Blk)->List (List Nat×List Nat)->(List V->(Nat->Option Blk)->List (List Nat×List Nat)->Option β)->Option β
 | _,[],sl,bl,log,k=>k sl bl log
 | j,o::os,sl,bl,log,k=>
  Nj sl dsts o
   (fun sl=>opK P Γ sl (GJ bl (CT sl bl o)) (base+16*j) o fun v us=>M1 dsts base (j+1) os (Do sl o.dst v) (Av bl us) (log++[(CT sl bl o,us.map (·.1))]) k)
   (fun sl=>M1 dsts base (j+1) os (Do sl o.dst (.tup [])) bl (log++[([],[])]) k)

def J9 (a b:List Nat):Bool:=a.any b.contains
def Cz:List Oper->List Nat->List Nat
 | [],acc=>acc
 | o::os,acc=>Cz os (acc++[o.after.toList.foldl (fun s e=>match Region.binds .any e with | true=>s ||| (2 ^ e.on ||| acc.getD e.on 0) | false=>s) 0])
def Kl:Nat->List Oper->Bool
 | _,[]=>true
 | j,o::os=>(o.after.toList.all fun e=>match Region.binds .any e with | true=>blt e.on j | false=>true)&&Kl (j+1) os
def FP (ops:List Oper) (o:Oper):List Nat:=
 (o.op.operands.toList.filterMap fun | .tmp t=>some t | _=>none)++(match o.guard with | some (g,_)=>((ops[g]?).bind (·.dst)).toList | none=>[])
def Kc (d:Option Tmp) (l:List Nat):Bool:=match d with | some t=>l.contains t | none=>false
def Fi (ops:List Oper) (b:List Nat):Bool:=
 ops.zipIdx.all fun (x,i)=>ops.zipIdx.all fun (y,j)=>match blt i j with
  | false=>true
  | true=>match Nat.testBit (b.getD j 0) i with
   | true=>true
   | false=>!(Kc x.dst (FP ops y)||Kc y.dst (FP ops x)||Kc x.dst y.dst.toList)
def G8 (b:List Nat) (log:List (List Nat×List Nat)):Bool:=
 log.zipIdx.all fun (x,i)=>match x.1,x.2 with
  | [],[]=>true
  | _,_=>log.zipIdx.all fun (y,j)=>match blt i j with
   | false=>true
   | true=>match Nat.testBit (b.getD j 0) i with
    | true=>true
    | false=>!(J9 x.2 y.1||J9 x.2 y.2||J9 y.2 x.1)
def RG (ops:List Oper) (log:List (List Nat×List Nat)):Bool:=Kl 0 ops&&Fi ops (Cz ops [])&&G8 (Cz ops []) log

def Hs (bl:Nat->Option Blk):List V->Option (List V×List Nat)
 | []=>some ([],[])
 | v::vs=>match Hs bl vs with
  | none=>none
  | some (vs',ids)=>match v with
   | .ref id lo n=>(match bl id with
    | some (.row false _ c l)=>(match c.flat,ids.contains id with
     | true,false=>some (.sl c ((l.drop lo).take n)::vs',id::ids)
     | _,_=>none)
    | _=>none)
   | .sl c l=>some (.sl c l::vs',ids)
   | .nl=>some (.nl::vs',ids)
   | .i k n=>some (.i k n::vs',ids)
   | .b c=>some (.b c::vs',ids)
   | .s l=>some (.s l::vs',ids)
   | _=>none
def CB (bl:Nat->Option Blk) (ids:List Nat):Nat->Option Blk:=ids.foldl (fun b j=>Au b j none) bl
def Lp (bl:Nat->Option Blk) (id:Nat) (k:(Nat->Option Blk)->Option β):Option β:=match bl id with
 | some (.drow c l (some (i,row)))=>(match Hs bl row with
  | some (cs,ids)=>(match Ec c cs,ids.contains id with
   | some z,false=>k (Au (CB bl ids) id (some (.drow c (l.set i z) none)))
   | _,_=>k bl)
  | none=>k bl)
 | _=>k bl
def E1:List Nat->(Nat->Option Blk)->((Nat->Option Blk)->Option β)->Option β
 | [],bl,k=>k bl
 | id::ids,bl,k=>Lp bl id fun bl=>E1 ids bl k

def Io (ops:List Oper) (draw:Bool) (σ:St) (k:St->Option β):Option β:=
 M1 P Γ (ops.map (·.dst)) σ.next 0 ops σ.sl σ.bl [] fun sl bl log=>
  match (match draw with | true=>P.follows .mixedOrders&&RG ops log | false=>true) with
  | true=>E1 (log.flatMap (·.2)) bl fun bl=>k ⟨sl,bl,σ.next+16*ops.length⟩
  | false=>none

def Cc:Code->Nat
 | .region n _ _=>n
 | .seq a _=>Cc a
 | .block _ a=>Cc a
 | .loop a=>Cc a
 | .scope a=>Cc a
 | .cond _ a _=>Cc a
 | _=>0

abbrev Dt:=List V×List (Option Blk)
def noNl:Blk->Blk
 | .row ro _ c l=>.row ro none c l
 | .box cs=>.box cs
 | .mp kc vc l=>.mp kc vc l
 | .drow c l op=>.drow c l op
def Fc (m:Nat) (live:List Nat) (σ:St):Dt:=
 let vs:=live.map fun t=>σ.sl.getD t .unk
 let top:=A7 (range m) (vs.flatMap (BW 5))
 let ids:=Ba σ.bl 4 top top
 (vs.map (BU (Bd ids) 5),ids.map fun id=>(σ.bl id).map fun b=>noNl (BV (Bd ids) b))
def CU (ns:Nat) (live:List Nat) (d:Dt):St:=
 ⟨(range ns).map fun t=>match Bd live t with | some i=>d.1.getD i .unk | none=>.unk,fun j=>(d.2[j]?).join,d.2.length⟩

structure LoopEnt where
 ns:Nat
 live:List Nat
 out:List Nat
 rout:List Nat
 L:Dt->Br (Ex×Dt)
def LoopEnt.outs (ent:LoopEnt):Ex->List Nat
 | .normal=>ent.live
 | .ret=>ent.rout
 | .exit _=>ent.out

def QU:Nat:=1000000
def PT:Nat:=2000000
def PS:Nat:=3000000
def LoopEnt.outC (ent:LoopEnt):Ex->List Nat
 | .ret=>ent.rout
 | _=>ent.out
def Hf (Λ:Nat->Option LoopEnt) (m key:Nat) (σ:St) (k:Ex->St->Option β) (go:Option β):Option β:=match Λ key with
 | none=>go
 | some ent=>(match beq σ.sl.length ent.ns with
  | true=>Br.k (ent.L (Fc m ent.live σ)) fun r=>k r.1 (CU ent.ns (ent.outC r.1) r.2)
  | false=>none)
def Bc:Code->List (Code×Nat)
 | .seq a b=>Bc a++((b,Cc b+QU)::Bc b)
 | .cond _ a b=>(a,Cc a+PT)::(b,Cc b+PS)::(Bc a++Bc b)
 | .block _ a=>Bc a
 | .scope a=>Bc a
 | .loop a=>Bc a
 | _=>[]

def BY (Λ:Nat->Option LoopEnt) (m:Nat):Code->St->(Ex->St->Option β)->Option β
 | .skip,σ,k=>k .normal σ
 | .region _ ops draw,σ,k=>Io P Γ ops.toList draw σ (k .normal)
 | .seq a b,σ,k=>BY Λ m a σ fun e σ'=>match e with | .normal=>Hf Λ m (Cc b+QU) σ' k (BY Λ m b σ' k) | e=>k e σ'
 | .cond c a b,σ,k=>match opd σ.sl c with
  | .b t=>ifB t (Hf Λ m (Cc a+PT) σ k (BY Λ m a σ k)) (Hf Λ m (Cc b+PS) σ k (BY Λ m b σ k))
  | .ub=>JW (BY Λ m a σ k) (BY Λ m b σ k)
  | _=>none
 | .block n a,σ,k=>BY Λ m a σ fun e σ'=>match e with
  | .exit q=>(match beq q n with | true=>k .normal σ' | false=>k (.exit q) σ')
  | e=>k e σ'
 | .loop a,σ,k=>match Λ (Cc a) with
  | some ent=>(match beq σ.sl.length ent.ns with
   | true=>Br.k (ent.L (Fc m ent.live σ)) fun r=>k r.1 (CU ent.ns (ent.outs r.1) r.2)
   | false=>none)
  | none=>none
 | .scope a,σ,k=>BY Λ m a σ k
 | .ret,σ,k=>k .ret σ
 | .exit q,σ,k=>k (.exit q) σ
 | _,_,_=>none

def DZ (sl:List V) (bl:Nat->Option Blk):List ResultVar->(List V->Option β)->Option β
 | [],k=>k []
 | .tmp t::rs,k=>DZ sl bl rs fun vs=>k (sl.getD t .unk::vs)
 | .cell a t::rs,k=>Dj P bl t (sl.getD a .unk) fun v=>DZ sl bl rs fun vs=>k (v::vs)
def AR:Code->List Code
 | .seq a b=>AR a++AR b
 | .cond _ a b=>AR a++AR b
 | .block _ a=>AR a
 | .scope a=>AR a
 | .loop a=>a::AR a
 | _=>[]
def Eo (m:Nat) (bl:Nat->Option Blk) (v:V):V×List (Option Blk):=
 let top:=A7 (range m) (BW 6 v)
 let ids:=Ba bl 5 top top
 (BU (Bd ids) 6 v,ids.map fun id=>(bl id).map (BV (Bd ids)))
def one:List V->V
 | [v]=>v
 | rs=>.tup rs
def RE (r:V×List (Option Blk)):V×List (Option Blk):=(r.1,r.2.map fun o=>o.map noNl)
def Bv (Λ:Nat->Option LoopEnt) (fn:Func) (vs:List V) (bs:List Blk):Option (V×List (Option Blk)):=
 match fn.body with
 | none=>none
 | some c=>BY P Γ Λ bs.length c ⟨vs++replicate (fn.ntmps-vs.length) .unk,fun j=>bs[j]?,bs.length⟩ fun e σ=>
  match e with
  | .exit _=>none
  | _=>DZ P σ.sl σ.bl fn.results.toList fun rs=>some (Eo bs.length σ.bl (one rs))
def Hl (m:Nat) (r:V×List (Option Blk)):V×List (Option Blk):=
 let bl:Nat->Option Blk:=fun j=>(r.2[j]?).join
 let keep:=(range m).filter fun j=>Qh (bl j)
 let top:=A7 keep (BW 6 r.1)
 let rows:=(Ba bl 5 top top).filter fun id=>!(keep.contains id)
 let ρ:Nat->Option Nat:=fun id=>match keep.contains id with | true=>some id | false=>(Bd rows id).map (m + ·)
 (BU ρ 6 r.1,((range m).map fun j=>match keep.contains j with | true=>(bl j).map fun b=>noNl (BV ρ b) | false=>none)++rows.map fun id=>(bl id).map fun b=>noNl (BV ρ b))
def BA (Λ:Nat->Option LoopEnt) (fn:Func) (vs:List V) (bs:List Blk):Option (V×List (Option Blk)):=
 match fn.body with
 | none=>none
 | some c=>BY P Γ Λ bs.length c ⟨vs++replicate (fn.ntmps-vs.length) .unk,fun j=>bs[j]?,bs.length⟩ fun e σ=>
  match e with
  | .exit _=>none
  | _=>DZ P σ.sl σ.bl fn.results.toList fun rs=>some (Hl bs.length (Eo bs.length σ.bl (one rs)))
def Gu (Λ:Nat->Option LoopEnt) (fn:Func) (vs:List V) (bs:List Blk):Option (V×List (Option Blk)):=
 match fn.body with
 | none=>none
 | some c=>BY P Γ Λ bs.length c ⟨vs++replicate (fn.ntmps-vs.length) .unk,fun j=>bs[j]?,bs.length⟩ fun e σ=>
  match e with
  | .exit _=>none
  | _=>DZ P σ.sl σ.bl fn.results.toList fun rs=>some (RE (Eo bs.length σ.bl (one rs)))
end
end Go.Proofs.YthbecdipboideaaDoor.Den
/- What the abstract machine's words mean in the model's memory. -/
namespace Go.Proofs.YthbecdipboideaaDoor.Den

inductive RB where
 | vac (ao:Option Addr)
 | at (b off k cap len:Nat)
 | box (b:Nat)
def RB.real:RB->Option Nat
 | .vac _=>none
 | .at b _ _ _ _=>some b
 | .box b=>some b

inductive VRep (w:World) (R:Nat->Prop) (μ:Nat->Option RB):V->Value->Prop
 | unk (u:Value):VRep w R μ .unk u
 | b (c:Bool):VRep w R μ (.b c) (.bool c)
 | ub (c:Bool):VRep w R μ .ub (.bool c)
 | i (k:IntKind) (n:Int):VRep w R μ (.i k n) (.int k n)
 | s (l:List UInt8):VRep w R μ (.s l) (.string ⟨l.toArray⟩)
 | nl:VRep w R μ .nl (.slice none 0 0)
 | sl (c:Cd) (l:List c.den) (ao:Option Addr) (cap:Nat) (U:Nat->Nat->Value) (h1:l.length<=cap) (h2:cap<=maxI)
   (h3:l.length=0\/∃ b off,ao=some ⟨b,off,none⟩/\R b/\∀ i z j v,l[i]? = some z->(enc c z)[j]? = some v->w.cell? ⟨b,off+(i*c.size+j),none⟩=some (U i j))
   (h4 : ∀ i z j v,l[i]? = some z->(enc c z)[j]? = some v->VRep w R μ v (U i j)):VRep w R μ (.sl c l) (.slice ao l.length cap)
 | vac (id:Nat) (ao:Option Addr) (h:μ id=some (.vac ao)):VRep w R μ (.ref id 0 0) (.slice ao 0 0)
 | ref (id lo n b off k cap len:Nat) (a:Addr) (h:μ id=some (.at b off k cap len)) (h0:len<=cap) (h1:lo+n<=len) (h2:cap<=maxI) (h3:cap-lo=0\/a=⟨b,off+lo*k,none⟩):VRep w R μ (.ref id lo n) (.slice (some a) n (cap-lo))
 | ptr (id o b:Nat) (h:μ id=some (.box b)):VRep w R μ (.ptr id o) (.pointer (some ⟨b,o,none⟩))
 | el (id i o b off k cap len:Nat) (h:μ id=some (.at b off k cap len)):VRep w R μ (.el id i o) (.pointer (some ⟨b,off+(i*k+o),none⟩))
 | rp (c:Cd) (l:List c.den) (i o b off:Nat) (U:Nat->Nat->Value) (h1:R b)
   (h3 : ∀ i z j v,l[i]? = some z->(enc c z)[j]? = some v->w.cell? ⟨b,off+(i*c.size+j),none⟩=some (U i j))
   (h4 : ∀ i z j v,l[i]? = some z->(enc c z)[j]? = some v->VRep w R μ v (U i j)):VRep w R μ (.rp c l i o) (.pointer (some ⟨b,off+(i*c.size+o),none⟩))
 | bx (cs:List V) (o b:Nat) (U:Nat->Value) (h1:R b) (hp:cs.all V.plain=true)
   (h3 : ∀ j v,cs[j]? = some v->w.cell? ⟨b,j,none⟩=some (U j)) (h4 : ∀ j v,cs[j]? = some v->VRep w R μ v (U j)):VRep w R μ (.bx cs o) (.pointer (some ⟨b,o,none⟩))
 | np:VRep w R μ .np (.pointer none)
 | tp (c:Cd) (z:Rose c.den) (o b:Nat) (U:Nat->Value) (h1:R b)
   (h3 : ∀ j v,(IK c z)[j]? = some v->w.cell? ⟨b,j,none⟩=some (U j)) (h4 : ∀ j v,(IK c z)[j]? = some v->VRep w R μ v (U j)):VRep w R μ (.tp c z o) (.pointer (some ⟨b,o,none⟩))
 | mref (id b:Nat) (h:μ id=some (.box b)):VRep w R μ (.mref id) (.map (some b))
 | fn (f:FuncId) (a c:List V) (ua uc:Array Value) (h1:ua.size=a.length) (h2:uc.size=c.length)
   (h3 : ∀ (j:Nat) v u,a[j]? = some v->ua[j]? = some u->VRep w R μ v u) (h4 : ∀ (j:Nat) v u,c[j]? = some v->uc[j]? = some u->VRep w R μ v u):VRep w R μ (.fn f a c) (.func (.func f) ua uc)
 | agg (cs:List V) (us:Array Value) (h1:us.size=cs.length) (h2 : ∀ (j:Nat) v u,cs[j]? = some v->us[j]? = some u->VRep w R μ v u):VRep w R μ (.agg cs) (.agg us)
 | tup (cs:List V) (us:Array Value) (h1:us.size=cs.length) (h2 : ∀ (j:Nat) v u,cs[j]? = some v->us[j]? = some u->VRep w R μ v u):VRep w R μ (.tup cs) (.tuple us)

theorem VRep.mono {w w':World} {R R':Nat->Prop} {μ μ':Nat->Option RB} {v:V} {u:Value} (h:VRep w R μ v u) (hw : ∀ b,R b->w'.heap[b]? = w.heap[b]?) (hR : ∀ b,R b->R' b) (hm : ∀ id rb,μ id=some rb->μ' id=some rb):VRep w' R' μ' v u:=by
 induction h with
 | unk u=>exact .unk u
 | b c=>exact .b c
 | ub c=>exact .ub c
 | i k n=>exact .i k n
 | s l=>exact .s l
 | nl=>exact .nl
 | sl c l ao cap U h1 h2 h3 _ ih=>
  refine .sl c l ao cap U h1 h2 ?_ ih
  rcases h3 with h | ⟨b,off,h4,h5,h6⟩
  ·exact .inl h
  ·exact .inr ⟨b,off,h4,hR b h5,fun i z j v hz hv=>by rw [World.cell?_of_block (w:=w) (hw b h5)]; exact h6 i z j v hz hv⟩
 | vac id ao h=>exact .vac id ao (hm _ _ h)
 | ref id lo n b off k cap len a h h0 h1 h2 h3=>exact .ref id lo n b off k cap len a (hm _ _ h) h0 h1 h2 h3
 | ptr id o b h=>exact .ptr id o b (hm _ _ h)
 | el id i o b off k cap len h=>exact .el id i o b off k cap len (hm _ _ h)
 | rp c l i o b off U h1 h3 _ ih=>exact .rp c l i o b off U (hR b h1) (fun i z j v hz hv=>by rw [World.cell?_of_block (w:=w) (hw b h1)]; exact h3 i z j v hz hv) ih
 | bx cs o b U h1 hp h3 _ ih=>exact .bx cs o b U (hR b h1) hp (fun j v hv=>by rw [World.cell?_of_block (w:=w) (hw b h1)]; exact h3 j v hv) ih
 | np=>exact .np
 | tp c z o b U h1 h3 _ ih=>exact .tp c z o b U (hR b h1) (fun j v hv=>by rw [World.cell?_of_block (w:=w) (hw b h1)]; exact h3 j v hv) ih
 | mref id b h=>exact .mref id b (hm _ _ h)
 | fn f a c ua uc h1 h2 _ _ ih1 ih2=>exact .fn f a c ua uc h1 h2 ih1 ih2
 | agg cs us h1 _ ih=>exact .agg cs us h1 ih
 | tup cs us h1 _ ih=>exact .tup cs us h1 ih

inductive Nest (w:World):(c:Cd)->List c.den->Value->Prop
 | vac (c:Cd) (ao:Option Addr):Nest w c [] (.slice ao 0 0)
 | row (c:Cd) (l:List c.den) (b off cap:Nat) (us:Array Value) (e:TypeId) (hf:c.flat=true) (h:w.heap[b]? = some (.cells us e (0,0))) (h1:l.length<=cap+1) (h2:cap+1<=maxI) (h3:off+(cap+1)*c.size<=us.size)
   (h4 : ∀ i z j v,l[i]? = some z->(enc c z)[j]? = some v->∃ u,us[off+(i*c.size+j)]? = some u/\VRep w (fun _=>False) (fun _=>none) v u):Nest w c l (.slice (some ⟨b,off,none⟩) l.length (cap+1))
def CRep (w:World) (R:Nat->Prop) (μ:Nat->Option RB) (v:V) (u:Value):Prop:=match v with
 | .sl c l=>Nest w c l u
 | v=>VRep w R μ v u
def AW (c:Cd) (l:List c.den) (op:Option (Nat×List V)) (i:Nat):Option (List V):=match op with
 | some p=>if i=p.1 then some p.2 else (l[i]?).map (enc c)
 | none=>(l[i]?).map (enc c)
def AS (us:Array Value) (off k:Nat) (c:Cd) (l:List c.den) (op:Option (Nat×List V)) (i j x:Nat):Prop:=
 ∃ row c1 l1 a n q,AW c l op i=some row/\row[j]? = some (.sl c1 l1)/\us[off+(i*k+j)]? = some (.slice (some a) n (q+1))/\a.block=x
inductive BRep (w:World) (R:Nat->Prop) (μ:Nat->Option RB):RB->Blk->Prop
 | box (b:Nat) (cs:List V) (us:Array Value) (e:TypeId) (h:w.heap[b]? = some (.cells us e (0,0))) (h1:us.size=cs.length) (h2 : ∀ (j:Nat) v u,cs[j]? = some v->us[j]? = some u->VRep w R μ v u):BRep w R μ (.box b) (.box cs)
 | vac (ao:Option Addr) (ro:Bool) (nl:Option Bool) (c:Cd) (hn:nl=some true->ao=none:=by first | assumption | (simp; done)):BRep w R μ (.vac ao) (.row ro nl c [])
 | row (b off k cap len:Nat) (ro:Bool) (nl:Option Bool) (c:Cd) (l:List c.den) (us:Array Value) (e:TypeId) (hk:k=c.size) (h:w.heap[b]? = some (.cells us e (0,0))) (h1:l.length=len/\len<=cap) (h2:cap<=maxI) (h3:off+cap*k<=us.size)
   (h4 : ∀ i z j v,l[i]? = some z->(enc c z)[j]? = some v->∃ u,us[off+(i*k+j)]? = some u/\VRep w R μ v u) (h5:ro=true->R b) (h6:nl≠some true:=by first | assumption | (simp; done)):BRep w R μ (.at b off k cap len) (.row ro nl c l)
 | mp (b:Nat) (kc vc:Cd) (l:List (kc.den×vc.den)) (es:Array MapEntry) (clock:Nat) (h:w.heap[b]? = some (.map es clock)) (hk:vc.size=1) (h1:es.size=l.length)
   (h2 : ∀ (i:Nat) e z v,es[i]? = some e->l[i]? = some z->(enc kc z.1)[0]? = some v->VRep w R μ v e.key)
   (h3 : ∀ (i:Nat) e z v,es[i]? = some e->l[i]? = some z->(enc vc z.2)[0]? = some v->VRep w R μ v e.val):BRep w R μ (.box b) (.mp kc vc l)
 | dvac (ao:Option Addr) (c:Cd):BRep w R μ (.vac ao) (.drow c [] none)
 | drow (b off k cap len:Nat) (c:Cd) (l:List c.den) (op:Option (Nat×List V)) (us:Array Value) (e:TypeId) (hk:k=c.size) (h:w.heap[b]? = some (.cells us e (0,0))) (h1:l.length=len/\len<=cap) (h2:cap<=maxI) (h3:off+cap*k<=us.size)
   (h4 : ∀ i row j v,AW c l op i=some row->row[j]? = some v->∃ u,us[off+(i*k+j)]? = some u/\CRep w R μ v u)
   (h5 : ∀ p,op=some p->p.1<len/\p.2.length=k)
   (h6 : ∀ i i' j j' x,AS us off k c l op i j x->AS us off k c l op i' j' x->i=i'/\j=j')
   (h7 : ∀ i j x,AS us off k c l op i j x->x≠b):BRep w R μ (.at b off k cap len) (.drow c l op)

def Blk.own:Blk->Bool
 | .box _=>true
 | .row ro _ _ _=>!ro
 | .mp _ _ _=>true
 | .drow _ _ _=>true

def Kq (w:World) (rb:RB) (c:Cd) (l:List c.den) (op:Option (Nat×List V)) (x:Nat):Prop:=match rb with
 | .at b off k _ _=>∃ us e i j,w.heap[b]? = some (.cells us e (0,0))/\AS us off k c l op i j x
 | _=>False
def Foot (w:World) (rb:RB) (B:Blk) (x:Nat):Prop:=match B with
 | .drow c l op=>rb.real=some x\/Kq w rb c l op x
 | _=>rb.real=some x
theorem Foot.main {w:World} {rb:RB} {B:Blk} {x:Nat} (h:rb.real=some x):Foot w rb B x:=by
 cases B<;>first | exact h | exact .inl h

structure Mem (w:World) (R:Nat->Prop) (μ:Nat->Option RB) (bl:Nat->Option Blk):Prop where
 blk : ∀ id B,bl id=some B->∃ rb,μ id=some rb/\BRep w R μ rb B
 inj : ∀ id id' B B' rb rb' x,bl id=some B->bl id'=some B'->B.own=true->B'.own=true->μ id=some rb->μ id'=some rb'->Foot w rb B x->Foot w rb' B' x->id=id'
 sep : ∀ id B rb x,bl id=some B->B.own=true->μ id=some rb->Foot w rb B x->¬R x
 rlt : ∀ x,R x->x<w.heap.size

structure Env where
 w0:World
 T:Nat->Prop
 R0:Nat->Prop
 μ0:Nat->Option RB
 A:Nat->Prop

structure SimAt (E:Env) (R:Nat->Prop) (μ:Nat->Option RB) (sl:List V) (bl:Nat->Option Blk) (fr:Nat->Prop) (a:Act) (w:World):Prop where
 mem:Mem w R μ bl
 size:a.tmps.size=sl.length
 slot : ∀ (t:Nat) v u,sl[t]? = some v->a.tmps[t]? = some u->VRep w R μ v u
 dfr:a.defers=[]
 free : ∀ id,fr id->μ id=none
 os:w.os=E.w0.os
 tape:w.tape=E.w0.tape
 output:w.output=E.w0.output
 grow:E.w0.heap.size<=w.heap.size
 same : ∀ k,k<E.w0.heap.size->¬E.T k->w.heap[k]? = E.w0.heap[k]?
 ownT : ∀ id B rb x,bl id=some B->B.own=true->μ id=some rb->Foot w rb B x->E.T x\/E.w0.heap.size<=x
 allT : ∀ id B rb x,bl id=some B->μ id=some rb->Foot w rb B x->E.A x\/E.w0.heap.size<=x
 r0 : ∀ x,E.R0 x->R x
 rT : ∀ x,R x->E.R0 x\/E.T x\/E.w0.heap.size<=x
 ext : ∀ id rb,E.μ0 id=some rb->μ id=some rb
def Sim (E:Env) (sl:List V) (bl:Nat->Option Blk) (fr:Nat->Prop) (a:Act) (w:World):Prop:=∃ R μ,SimAt E R μ sl bl fr a w

theorem Ay {E:Env} {R:Nat->Prop} {μ:Nat->Option RB} {sl:List V} {bl:Nat->Option Blk} {fr:Nat->Prop} {a:Act} {w:World} (h:SimAt E R μ sl bl fr a w) (x:Operand):VRep w R μ (opd sl x) (a.eval x):=by
 cases x with
 | tmp t=>
  simp only [opd,Act.eval]
  by_cases ht:t<sl.length
  ·have ht':t<a.tmps.size:=by rw [h.size]; exact ht
   have:=h.slot t sl[t] a.tmps[t] (by simp [ht]) (by simp [ht'])
   simpa [getD,Array.getD,ht,ht'] using this
  ·rw [show sl.getD t .unk = .unk by simp [getD,List.getElem?_eq_none (Nat.le_of_not_lt ht)]]
   exact .unk _
 | const v=>
  simp only [opd,Act.eval]
  unfold AO
  split
  ·exact .b _
  ·exact .i _ _
  ·rename_i s; have:=VRep.s (w:=w) (R:=R) (μ:=μ) s.data.toList; simpa using this
  ·exact .nl
  ·exact .np
  ·rename_i f first cap
   split
   ·rename_i h1 h2
    have e1:first = #[]:=by apply Array.ext'; simpa using h1
    have e2:cap = #[]:=by apply Array.ext'; simpa using h2
    subst e1 e2
    exact .fn f [] [] #[] #[] rfl rfl (by simp) (by simp)
   ·exact .unk _
  ·exact .unk _
 | global g=>exact .unk _
 | func f=>exact .fn f [] [] #[] #[] rfl rfl (by simp) (by simp)

theorem SimAt.put {E:Env} {R:Nat->Prop} {μ:Nat->Option RB} {sl:List V} {bl:Nat->Option Blk} {fr:Nat->Prop} {a:Act} {w:World} (h:SimAt E R μ sl bl fr a w) (d:Option Tmp) {v:V} {u:Value} (hv:VRep w R μ v u):SimAt E R μ (Do sl d v) bl fr (a.put d u) w:=by
 cases d with
 | none=>exact h
 | some t=>
  refine { h with size:=?_,slot:=?_,dfr:=h.dfr }
  ·simp [Act.put,Do,h.size]
  ·intro t' v' u' h1 h2
   simp only [Do,Act.put] at h1 h2
   rw [List.getElem?_set] at h1
   rw [Array.getElem?_setIfInBounds] at h2
   by_cases e:t=t'
   ·subst e
    simp only [if_true] at h1 h2
    split at h1
    ·split at h2
     ·simp at h1 h2; subst h1 h2; exact hv
     ·simp at h2
    ·simp at h1
   ·simp only [e,if_false] at h1 h2
    exact h.slot t' v' u' h1 h2
end Go.Proofs.YthbecdipboideaaDoor.Den
/- How the memory that the machine knows goes from world to world. -/
namespace Go.Proofs.YthbecdipboideaaDoor.Den

theorem BL (w:World) (o:Obj) {k:Nat} (h:k<w.heap.size):(w.alloc o).heap[k]? = w.heap[k]?:=by
 simp only [World.alloc]; rw [Array.getElem?_push]; rw [if_neg (by omega)]
def Bg (μ:Nat->Option RB) (id:Nat) (rb:RB):Nat->Option RB:=fun j=>if j=id then some rb else μ j
theorem Am (μ:Nat->Option RB) (id:Nat) (rb:RB):Bg μ id rb id=some rb:=by simp [Bg]
theorem C0 {μ:Nat->Option RB} {id:Nat} (h:μ id=none) (rb:RB) : ∀ j r,μ j=some r->Bg μ id rb j=some r:=by
 intro j r hj
 unfold Bg
 split
 ·subst_vars; rw [h] at hj; cases hj
 ·exact hj
theorem Ah (bl:Nat->Option Blk) (id:Nat) (b:Option Blk):Au bl id b id=b:=by simp [Au]
theorem Aw (bl:Nat->Option Blk) {id j:Nat} (b:Option Blk) (h:j≠id):Au bl id b j=bl j:=by
 have:beq j id=false:=by
  cases e:beq j id with
  | false=>rfl
  | true=>exact absurd (Nat.eq_of_beq_eq_true e) h
 simp [Au,this]

theorem Nest.mono {w w':World} {c:Cd} {l:List c.den} {u:Value} (h:Nest w c l u) (hw : ∀ a n q,u = .slice (some a) n (q+1)->w'.heap[a.block]? = w.heap[a.block]?):Nest w' c l u:=by
 cases h with
 | vac ao=>exact .vac c ao
 | row l b off cap us e hf h h1 h2 h3 h4=>
  refine .row c l b off cap us e hf (by rw [<-hw _ _ _ rfl] at h; exact h) h1 h2 h3 (fun i z j v hz hv=>?_)
  obtain ⟨u,hu,hr⟩:=h4 i z j v hz hv
  exact ⟨u,hu,hr.mono (fun _ h=>h.elim) (fun _ h=>h) (fun _ _ h=>h)⟩
theorem CRep.mono {w w':World} {R R':Nat->Prop} {μ μ':Nat->Option RB} {v:V} {u:Value} (h:CRep w R μ v u) (hw : ∀ b,R b->w'.heap[b]? = w.heap[b]?) (hR : ∀ b,R b->R' b) (hm : ∀ id rb,μ id=some rb->μ' id=some rb)
  (hs : ∀ c l a n q,v = .sl c l->u = .slice (some a) n (q+1)->w'.heap[a.block]? = w.heap[a.block]?):CRep w' R' μ' v u:=by
 cases v with
 | sl c l=>exact Nest.mono h (fun a n q e=>hs c l a n q rfl e)
 | _=>exact VRep.mono h hw hR hm
theorem Cl {w w':World} {rb:RB} {B:Blk} {x:Nat} (h : ∀ y,rb.real=some y->w'.heap[y]? = w.heap[y]?):Foot w' rb B x↔Foot w rb B x:=by
 cases B with
 | drow c l op=>
  cases rb with
  | «at» b off k cap len=>
   simp only [Foot,Kq,h b rfl]
  | _=>exact Iff.rfl
 | _=>exact Iff.rfl
theorem BRep.mono {w w':World} {R R':Nat->Prop} {μ μ':Nat->Option RB} {rb:RB} {B:Blk} (h:BRep w R μ rb B) (hw : ∀ b,R b->w'.heap[b]? = w.heap[b]?) (hb : ∀ b,Foot w rb B b->w'.heap[b]? = w.heap[b]?) (hR : ∀ b,R b->R' b) (hm : ∀ id rb,μ id=some rb->μ' id=some rb):BRep w' R' μ' rb B:=by
 cases h with
 | box b cs us e h h1 h2=>exact .box b cs us e (by rw [hb b rfl]; exact h) h1 (fun j v u hv hu=>(h2 j v u hv hu).mono hw hR hm)
 | vac ao ro nl c=>exact .vac ao ro nl c
 | row b off k cap len ro nl c l us e hk h h1 h2 h3 h4 h5=>exact .row b off k cap len ro nl c l us e hk (by rw [hb b rfl]; exact h) h1 h2 h3 (fun i z j v hz hv=>by obtain ⟨u,hu,hr⟩:=h4 i z j v hz hv; exact ⟨u,hu,hr.mono hw hR hm⟩) (fun h=>hR _ (h5 h))
 | mp b kc vc l es clock h hk h1 h2 h3=>exact .mp b kc vc l es clock (by rw [hb b rfl]; exact h) hk h1 (fun i e z v he hz hv=>(h2 i e z v he hz hv).mono hw hR hm) (fun i e z v he hz hv=>(h3 i e z v he hz hv).mono hw hR hm)
 | dvac ao c=>exact .dvac ao c
 | drow b off k cap len c l op us e hk h h1 h2 h3 h4 h5 h6 h7=>
  refine .drow b off k cap len c l op us e hk (by rw [hb b (.inl rfl)]; exact h) h1 h2 h3 (fun i row j v hr hv=>?_) h5 h6 h7
  obtain ⟨u,hu,hc⟩:=h4 i row j v hr hv
  exact ⟨u,hu,hc.mono hw hR hm (fun c1 l1 a n q e1 e2=>hb _ (.inr ⟨us,e,i,j,h,row,c1,l1,a,n,q,hr,by rw [hv,e1],by rw [hu,e2],rfl⟩))⟩

section
variable {E:Env} {R:Nat->Prop} {μ:Nat->Option RB} {sl:List V} {bl:Nat->Option Blk} {fr:Nat->Prop} {a:Act} {w:World}

theorem Nest.lt {c:Cd} {l:List c.den} {u:Value} (h:Nest w c l u) {a:Addr} {n q:Nat} (hu:u = .slice (some a) n (q+1)):a.block<w.heap.size:=by
 cases h with
 | vac=>simp at hu
 | row l b off cap us e hf h=>
  simp at hu
  obtain ⟨rfl,_,_⟩:=hu
  exact lt_of_block h
theorem BRep.lt {rb:RB} {B:Blk} (h:BRep w R μ rb B) {b:Nat} (hb:Foot w rb B b):b<w.heap.size:=by
 cases h with
 | box b' cs us e h=>simp [Foot,RB.real] at hb; subst hb; exact lt_of_block h
 | vac=>simp [Foot,RB.real] at hb
 | row b' off k cap len ro nl c l us e hk h=>simp [Foot,RB.real] at hb; subst hb; exact lt_of_block h
 | mp b' kc vc l es clock h=>simp [Foot,RB.real] at hb; subst hb; exact lt_of_block h
 | dvac=>simp [Foot,RB.real,Kq] at hb
 | drow b' off k cap len c l op us e hk h h1 h2 h3 h4=>
  rcases hb with hb | ⟨us',e',i,j,g,row,c1,l1,a,n,q,g1,g2,g3,rfl⟩
  ·simp [RB.real] at hb; subst hb; exact lt_of_block h
  ·rw [h] at g; simp at g; obtain ⟨rfl,_⟩:=g
   obtain ⟨u,hu,hc⟩:=h4 i row j _ g1 g2
   rw [g3] at hu
   exact Nest.lt hc (Option.some.inj hu).symm

theorem SimAt.fr_mono {fr':Nat->Prop} (h:SimAt E R μ sl bl fr a w) (hf : ∀ id,fr' id->fr id):SimAt E R μ sl bl fr' a w:={ h with free:=fun id hi=>h.free id (hf id hi) }

theorem SimAt.sameHeap {w':World} (h:SimAt E R μ sl bl fr a w) (hh:w'.heap=w.heap) (ho:w'.os=w.os) (ht:w'.tape=w.tape) (hp:w'.output=w.output):SimAt E R μ sl bl fr a w':=by
 have hw : ∀ b,R b->w'.heap[b]? = w.heap[b]?:=fun b _=>by rw [hh]
 have hft : ∀ {rb B x},Foot w' rb B x->Foot w rb B x:=fun {rb B x}=>(Cl (fun y _=>by rw [hh])).1
 refine { mem:=⟨?_,fun j j' B B' rb rb' x h1 h2 o1 o2 m1 m2 e1 e2=>h.mem.inj j j' B B' rb rb' x h1 h2 o1 o2 m1 m2 (hft e1) (hft e2),fun j B rb x h1 o1 m1 e1=>h.mem.sep j B rb x h1 o1 m1 (hft e1),fun x hx=>by rw [hh]; exact h.mem.rlt x hx⟩,size:=h.size,slot:=fun t v u h1 h2=>(h.slot t v u h1 h2).mono hw (fun _ h=>h) (fun _ _ h=>h),dfr:=h.dfr,free:=h.free,os:=ho.trans h.os,tape:=ht.trans h.tape,output:=hp.trans h.output,grow:=by rw [hh]; exact h.grow,same:=fun k hk hn=>by rw [hh]; exact h.same k hk hn,ownT:=fun j B rb x h1 o1 m1 e1=>h.ownT j B rb x h1 o1 m1 (hft e1),allT:=fun j B rb x h1 m1 e1=>h.allT j B rb x h1 m1 (hft e1),r0:=h.r0,rT:=h.rT,ext:=h.ext }
 intro id B hB
 obtain ⟨rb,h1,h2⟩:=h.mem.blk id B hB
 exact ⟨rb,h1,h2.mono hw (fun b _=>by rw [hh]) (fun _ h=>h) (fun _ _ h=>h)⟩

theorem SimAt.newVacB (h:SimAt E R μ sl bl fr a w) {id:Nat} (hf:fr id) (ao:Option Addr) (B0:Blk) (hB0:BRep w R (Bg μ id (.vac ao)) (.vac ao) B0) :
  SimAt E R (Bg μ id (.vac ao)) sl (Au bl id (some B0)) (fun j=>fr j/\j≠id) a w:=by
 have hn:=h.free id hf
 have hx:=C0 hn (.vac ao)
 have key : ∀ j B rb x,Au bl id (some B0) j=some B->Bg μ id (.vac ao) j=some rb->Foot w rb B x->bl j=some B/\μ j=some rb/\j≠id:=by
  intro j B rb x h1 h2 h3
  by_cases e:j=id
  ·subst e; rw [Am] at h2; simp at h2; subst h2; cases B<;>simp [Foot,RB.real,Kq] at h3
  ·rw [Aw _ _ e] at h1; simp only [Bg,e,if_false] at h2; exact ⟨h1,h2,e⟩
 refine { mem:=⟨?_,?_,?_,h.mem.rlt⟩,size:=h.size,slot:=fun t v u h1 h2=>(h.slot t v u h1 h2).mono (fun _ _=>rfl) (fun _ h=>h) hx,dfr:=h.dfr,free:=?_,os:=h.os,tape:=h.tape,output:=h.output,grow:=h.grow,same:=h.same,ownT:=?_,allT:=?_,r0:=h.r0,rT:=h.rT,ext:=fun j rb hj=>hx j rb (h.ext j rb hj) }
 ·intro j B hB
  by_cases e:j=id
  ·subst e; rw [Ah] at hB; simp at hB; subst hB; exact ⟨.vac ao,Am _ _ _,hB0⟩
  ·rw [Aw _ _ e] at hB
   obtain ⟨rb,h1,h2⟩:=h.mem.blk j B hB
   exact ⟨rb,hx j rb h1,h2.mono (fun _ _=>rfl) (fun _ _=>rfl) (fun _ h=>h) hx⟩
 ·intro j j' B B' rb rb' x h1 h2 o1 o2 m1 m2 r1 r2
  obtain ⟨a1,a2,_⟩:=key j B rb x h1 m1 r1
  obtain ⟨b1,b2,_⟩:=key j' B' rb' x h2 m2 r2
  exact h.mem.inj j j' B B' rb rb' x a1 b1 o1 o2 a2 b2 r1 r2
 ·intro j B rb x h1 o1 m1 r1
  obtain ⟨a1,a2,_⟩:=key j B rb x h1 m1 r1
  exact h.mem.sep j B rb x a1 o1 a2 r1
 ·intro j ⟨hj,hne⟩
  simp only [Bg,hne,if_false]
  exact h.free j hj
 ·intro j B rb x h1 o1 m1 r1
  obtain ⟨a1,a2,_⟩:=key j B rb x h1 m1 r1
  exact h.ownT j B rb x a1 o1 a2 r1
 ·intro j B rb x h1 m1 r1
  obtain ⟨a1,a2,_⟩:=key j B rb x h1 m1 r1
  exact h.allT j B rb x a1 a2 r1

theorem SimAt.newVac (h:SimAt E R μ sl bl fr a w) {id:Nat} (hf:fr id) (ao:Option Addr) (ro:Bool) (nl:Option Bool) (c:Cd) (hnl:nl=some true->ao=none:=by first | assumption | (simp; done)) :
  SimAt E R (Bg μ id (.vac ao)) sl (Au bl id (some (.row ro nl c []))) (fun j=>fr j/\j≠id) a w:=h.newVacB hf ao _ (.vac ao ro nl c)
theorem SimAt.newBlk (h:SimAt E R μ sl bl fr a w) {id:Nat} (hf:fr id) (o:Obj) (B:Blk) (rb:RB) (hr:rb.real=some w.heap.size) (hB:BRep (w.alloc o) R μ rb B) (hft : ∀ x,Foot (w.alloc o) rb B x->rb.real=some x:=by exact fun _ h=>h) :
  SimAt E R (Bg μ id rb) sl (Au bl id (some B)) (fun j=>fr j/\j≠id) a (w.alloc o):=by
 have hn:=h.free id hf
 have hx:=C0 hn rb
 have hold : ∀ k,k<w.heap.size->(w.alloc o).heap[k]? = w.heap[k]?:=fun k hk=>BL _ _ hk
 have hw : ∀ b,R b->(w.alloc o).heap[b]? = w.heap[b]?:=fun b hb=>hold b (h.mem.rlt b hb)
 have hsz:(w.alloc o).heap.size=w.heap.size+1:=by simp
 have old : ∀ j B',j≠id->Au bl id (some B) j=some B'->bl j=some B':=fun j B' e h1=>by rwa [Aw _ _ e] at h1
 have oldm : ∀ j r,j≠id->Bg μ id rb j=some r->μ j=some r:=fun j r e h1=>by simpa only [Bg,e,if_false] using h1
 have oft : ∀ j B' r x,bl j=some B'->μ j=some r->Foot (w.alloc o) r B' x->Foot w r B' x:=fun j B' r x h1 h2 h3=>by
  obtain ⟨r',h4,h5⟩:=h.mem.blk j B' h1
  rw [h2] at h4; simp at h4; subst h4
  exact (Cl (fun y hy=>hold y (h5.lt (Foot.main hy)))).1 h3
 have olt : ∀ j B' r x,bl j=some B'->μ j=some r->Foot w r B' x->x<w.heap.size:=fun j B' r x h1 h2 h3=>by
  obtain ⟨r',h4,h5⟩:=h.mem.blk j B' h1
  rw [h2] at h4; simp at h4; subst h4
  exact h5.lt h3
 refine { mem:=⟨?_,?_,?_,fun x hx=>by rw [hsz]; have:=h.mem.rlt x hx; omega⟩,size:=h.size,slot:=fun t v u h1 h2=>(h.slot t v u h1 h2).mono hw (fun _ h=>h) hx,dfr:=h.dfr,free:=?_,os:=h.os,tape:=h.tape,output:=h.output,grow:=by rw [hsz]; have:=h.grow; omega,same:=fun k hk hn=>by rw [hold k (Nat.lt_of_lt_of_le hk h.grow)]; exact h.same k hk hn,ownT:=?_,allT:=?_,r0:=h.r0,rT:=h.rT,ext:=fun j rb hj=>hx j rb (h.ext j rb hj) }
 ·intro j B' hB'
  by_cases e:j=id
  ·subst e; rw [Ah] at hB'; simp at hB'; subst hB'; exact ⟨rb,Am _ _ _,hB.mono (fun _ _=>rfl) (fun _ _=>rfl) (fun _ h=>h) hx⟩
  ·have hb:=old j B' e hB'
   obtain ⟨r,h1,h2⟩:=h.mem.blk j B' hb
   exact ⟨r,hx j r h1,h2.mono hw (fun b hb'=>hold b (h2.lt hb')) (fun _ h=>h) hx⟩
 ·intro j j' B1 B2 r1 r2 x h1 h2 o1 o2 m1 m2 e1 e2
  by_cases e:j=id
  ·by_cases e':j'=id
   ·rw [e,e']
   ·subst e
    rw [Am] at m1; simp at m1; subst m1
    rw [Ah] at h1; simp at h1; subst h1
    have e1:=hft x e1
    rw [hr] at e1; simp at e1; subst e1
    have:=olt j' B2 r2 _ (old _ _ e' h2) (oldm _ _ e' m2) (oft j' B2 r2 _ (old _ _ e' h2) (oldm _ _ e' m2) e2)
    omega
  ·by_cases e':j'=id
   ·subst e'
    rw [Am] at m2; simp at m2; subst m2
    rw [Ah] at h2; simp at h2; subst h2
    have e2:=hft x e2
    rw [hr] at e2; simp at e2; subst e2
    have:=olt j B1 r1 _ (old _ _ e h1) (oldm _ _ e m1) (oft j B1 r1 _ (old _ _ e h1) (oldm _ _ e m1) e1)
    omega
   ·exact h.mem.inj j j' B1 B2 r1 r2 x (old _ _ e h1) (old _ _ e' h2) o1 o2 (oldm _ _ e m1) (oldm _ _ e' m2) (oft j B1 r1 _ (old _ _ e h1) (oldm _ _ e m1) e1) (oft j' B2 r2 _ (old _ _ e' h2) (oldm _ _ e' m2) e2)
 ·intro j B1 r1 x h1 o1 m1 e1 hRx
  by_cases e:j=id
  ·subst e
   rw [Am] at m1; simp at m1; subst m1
   rw [Ah] at h1; simp at h1; subst h1
   have e1:=hft x e1
   rw [hr] at e1; simp at e1; subst e1
   have:=h.mem.rlt _ hRx
   omega
  ·exact h.mem.sep j B1 r1 x (old _ _ e h1) o1 (oldm _ _ e m1) (oft j B1 r1 _ (old _ _ e h1) (oldm _ _ e m1) e1) hRx
 ·intro j ⟨hj,hne⟩
  simp only [Bg,hne,if_false]
  exact h.free j hj
 ·intro j B1 r1 x h1 o1 m1 e1
  by_cases e:j=id
  ·subst e
   rw [Am] at m1; simp at m1; subst m1
   rw [Ah] at h1; simp at h1; subst h1
   have e1:=hft x e1
   rw [hr] at e1; simp at e1; subst e1
   exact .inr h.grow
  ·exact h.ownT j B1 r1 x (old _ _ e h1) o1 (oldm _ _ e m1) (oft j B1 r1 _ (old _ _ e h1) (oldm _ _ e m1) e1)
 ·intro j B1 r1 x h1 m1 e1
  by_cases e:j=id
  ·subst e
   rw [Am] at m1; simp at m1; subst m1
   rw [Ah] at h1; simp at h1; subst h1
   have e1:=hft x e1
   rw [hr] at e1; simp at e1; subst e1
   exact .inr h.grow
  ·exact h.allT j B1 r1 x (old _ _ e h1) (oldm _ _ e m1) (oft j B1 r1 _ (old _ _ e h1) (oldm _ _ e m1) e1)

theorem SimAt.kill (h:SimAt E R μ sl bl fr a w) (id:Nat):SimAt E R μ sl (Au bl id none) fr a w:=by
 have old : ∀ j B',Au bl id none j=some B'->bl j=some B':=fun j B' h1=>by
  by_cases e:j=id
  ·subst e; rw [Ah] at h1; cases h1
  ·rwa [Aw _ _ e] at h1
 exact { h with mem:=⟨fun j B hB=>h.mem.blk j B (old j B hB),fun j j' B B' rb rb' x h1 h2=>h.mem.inj j j' B B' rb rb' x (old _ _ h1) (old _ _ h2),fun j B rb x h1=>h.mem.sep j B rb x (old _ _ h1),h.mem.rlt⟩,ownT:=fun j B rb x h1=>h.ownT j B rb x (old _ _ h1),allT:=fun j B rb x h1=>h.allT j B rb x (old _ _ h1) }

theorem SimAt.setBlk (h:SimAt E R μ sl bl fr a w) {id x:Nat} {B B':Blk} {rb:RB} {w':World} (hb:bl id=some B) (ho:B.own=true) (hm:μ id=some rb) (hx:rb.real=some x)
  (hs:w'.heap.size=w.heap.size) (hk : ∀ k,k≠x->w'.heap[k]? = w.heap[k]?) (hos:w'.os=w.os) (ht:w'.tape=w.tape) (hp:w'.output=w.output) (hB:BRep w' R μ rb B') (hft : ∀ y,Foot w' rb B' y->Foot w rb B y:=by exact fun _ h=>h):SimAt E R μ sl (Au bl id (some B')) fr a w':=by
 have hx:=Foot.main (w:=w) (B:=B) hx
 have hw : ∀ b,R b->w'.heap[b]? = w.heap[b]?:=fun b hR=>hk b (fun e=>by subst e; exact h.mem.sep id B rb b hb ho hm hx hR)
 have old : ∀ j B1,j≠id->Au bl id (some B') j=some B1->bl j=some B1:=fun j B1 e h1=>by rwa [Aw _ _ e] at h1
 -- no other block lies there
 have apart : ∀ j B1 r b,j≠id->bl j=some B1->μ j=some r->BRep w R μ r B1->Foot w r B1 b->b≠x:=fun j B1 r b e hb1 h1 h2 hb' ebx=>by
  subst ebx
  by_cases o1:B1.own=true
  ·exact e (h.mem.inj j id B1 B r rb b hb1 hb o1 ho h1 hm hb' hx)
  ·cases h2 with
   | box b' cs us e' h3=>simp [Blk.own] at o1
   | mp=>simp [Blk.own] at o1
   | dvac=>simp [Blk.own] at o1
   | drow=>simp [Blk.own] at o1
   | vac=>simp [Foot,RB.real] at hb'
   | row b' off k cap len ro nl c l us e' hk' h3 h4 h5 h6 h7 h8=>
    simp [Blk.own] at o1
    simp [Foot,RB.real] at hb'
    subst hb'
    exact h.mem.sep id B rb b' hb ho hm hx (h8 o1)
 -- whichever block bears a number now, it bore one ahead, as own as it is now or more
 have was : ∀ j B1 r y,Au bl id (some B') j=some B1->μ j=some r->Foot w' r B1 y->∃ B0,bl j=some B0/\(B1.own=true->B0.own=true)/\Foot w r B0 y:=fun j B1 r y h1 m1 f1=>by
  by_cases e:j=id
  ·subst e
   rw [Ah] at h1; simp at h1; subst h1
   rw [hm] at m1; simp at m1; subst m1
   exact ⟨B,hb,fun _=>ho,hft y f1⟩
  ·have hb1:=old j B1 e h1
   obtain ⟨r',g1,g2⟩:=h.mem.blk j B1 hb1
   rw [m1] at g1; simp at g1; subst g1
   exact ⟨B1,hb1,fun h=>h,(Cl (fun z hz=>hk z (apart j B1 r z e hb1 m1 g2 (Foot.main hz)))).1 f1⟩
 refine { mem:=⟨?_,?_,?_,fun y hy=>by rw [hs]; exact h.mem.rlt y hy⟩,size:=h.size,slot:=fun t v u h1 h2=>(h.slot t v u h1 h2).mono hw (fun _ h=>h) (fun _ _ h=>h),dfr:=h.dfr,free:=h.free,os:=hos.trans h.os,tape:=ht.trans h.tape,output:=hp.trans h.output,grow:=by rw [hs]; exact h.grow,same:=?_,ownT:=?_,allT:=?_,r0:=h.r0,rT:=h.rT,ext:=h.ext }
 ·intro j B1 hB1
  by_cases e:j=id
  ·subst e; rw [Ah] at hB1; simp at hB1; subst hB1; exact ⟨rb,hm,hB⟩
  ·have hb1:=old j B1 e hB1
   obtain ⟨r,h1,h2⟩:=h.mem.blk j B1 hb1
   exact ⟨r,h1,h2.mono hw (fun b hb'=>hk b (apart j B1 r b e hb1 h1 h2 hb')) (fun _ h=>h) (fun _ _ h=>h)⟩
 ·intro j j' B1 B2 r1 r2 y h1 h2 o1 o2 m1 m2 e1 e2
  obtain ⟨C1,c1,c1',f1⟩:=was j B1 r1 y h1 m1 e1
  obtain ⟨C2,c2,c2',f2⟩:=was j' B2 r2 y h2 m2 e2
  exact h.mem.inj j j' C1 C2 r1 r2 y c1 c2 (c1' o1) (c2' o2) m1 m2 f1 f2
 ·intro j B1 r1 y h1 o1 m1 e1
  obtain ⟨C1,c1,c1',f1⟩:=was j B1 r1 y h1 m1 e1
  exact h.mem.sep j C1 r1 y c1 (c1' o1) m1 f1
 ·intro k hk' hn
  have hlt:k≠x:=by
   intro e; subst e
   rcases h.ownT id B rb k hb ho hm hx with h1 | h1
   ·exact hn h1
   ·omega
  rw [hk k hlt]; exact h.same k hk' hn
 ·intro j B1 r1 y h1 o1 m1 e1
  obtain ⟨C1,c1,c1',f1⟩:=was j B1 r1 y h1 m1 e1
  exact h.ownT j C1 r1 y c1 (c1' o1) m1 f1
 ·intro j B1 r1 y h1 m1 e1
  obtain ⟨C1,c1,c1',f1⟩:=was j B1 r1 y h1 m1 e1
  exact h.allT j C1 r1 y c1 m1 f1

theorem SimAt.freezeBox (h:SimAt E R μ sl bl fr a w) {id b:Nat} {cs:List V} (hb:bl id=some (.box cs)) (hm:μ id=some (.box b)) :
  SimAt E (fun x=>R x\/x=b) μ sl (Au bl id none) fr a w:=by
 obtain ⟨rb',hm',hrep⟩:=h.mem.blk id _ hb
 rw [hm] at hm'; simp at hm'; subst hm'
 have hRR : ∀ x,R x->(R x\/x=b):=fun x hx=>.inl hx
 have old : ∀ j B1,Au bl id none j=some B1->bl j=some B1/\j≠id:=fun j B1 h1=>by
  by_cases e:j=id
  ·subst e; rw [Ah] at h1; cases h1
  ·exact ⟨by rwa [Aw _ _ e] at h1,e⟩
 refine { mem:=⟨?_,?_,?_,?_⟩,size:=h.size,slot:=fun t v u h1 h2=>(h.slot t v u h1 h2).mono (fun _ _=>rfl) hRR (fun _ _ h=>h),dfr:=h.dfr,free:=h.free,os:=h.os,tape:=h.tape,output:=h.output,grow:=h.grow,same:=h.same,ownT:=?_,allT:=?_,r0:=fun x hx=>.inl (h.r0 x hx),rT:=?_,ext:=h.ext }
 ·intro j B1 hB1
  obtain ⟨r,h1,h2⟩:=h.mem.blk j B1 (old j B1 hB1).1
  exact ⟨r,h1,h2.mono (fun _ _=>rfl) (fun _ _=>rfl) hRR (fun _ _ h=>h)⟩
 ·intro j j' B1 B2 r1 r2 y h1 h2 o1 o2 m1 m2 e1 e2
  exact h.mem.inj j j' B1 B2 r1 r2 y (old _ _ h1).1 (old _ _ h2).1 o1 o2 m1 m2 e1 e2
 ·intro j B1 r1 y h1 o1 m1 e1 hy
  obtain ⟨c1,c2⟩:=old j B1 h1
  rcases hy with hy | rfl
  ·exact h.mem.sep j B1 r1 y c1 o1 m1 e1 hy
  ·exact c2 (h.mem.inj j id B1 _ r1 (.box y) y c1 hb o1 rfl m1 hm e1 rfl)
 ·intro x hx
  rcases hx with hx | rfl
  ·exact h.mem.rlt x hx
  ·exact hrep.lt rfl
 ·intro j B1 r1 y h1 o1 m1 e1
  exact h.ownT j B1 r1 y (old j B1 h1).1 o1 m1 e1
 ·intro j B1 r1 y h1 m1 e1
  exact h.allT j B1 r1 y (old j B1 h1).1 m1 e1
 ·intro x hx
  rcases hx with hx | rfl
  ·exact h.rT x hx
  ·exact .inr (h.ownT id _ (.box x) x hb rfl hm rfl)

theorem SimAt.freeze (h:SimAt E R μ sl bl fr a w) {id:Nat} {ro:Bool} {nl:Option Bool} {c:Cd} {l:List c.den} {rb:RB} (hb:bl id=some (.row ro nl c l)) (hm:μ id=some rb) :
  SimAt E (fun x=>R x\/rb.real=some x) μ sl (Au bl id (some (.row true nl c l))) fr a w:=by
 obtain ⟨rb',hm',hrep⟩:=h.mem.blk id _ hb
 rw [hm] at hm'; simp at hm'; subst hm'
 have hRR : ∀ x,R x->(R x\/rb.real=some x):=fun x hx=>.inl hx
 have old : ∀ j B1,j≠id->Au bl id (some (.row true nl c l)) j=some B1->bl j=some B1:=fun j B1 e h1=>by rwa [Aw _ _ e] at h1
 have ownOld : ∀ j B1,Au bl id (some (.row true nl c l)) j=some B1->B1.own=true->bl j=some B1/\j≠id:=fun j B1 h1 o1=>by
  by_cases e:j=id
  ·subst e; rw [Ah] at h1; simp at h1; subst h1; simp [Blk.own] at o1
  ·exact ⟨old j B1 e h1,e⟩
 refine { mem:=⟨?_,?_,?_,?_⟩,size:=h.size,slot:=fun t v u h1 h2=>(h.slot t v u h1 h2).mono (fun _ _=>rfl) hRR (fun _ _ h=>h),dfr:=h.dfr,free:=h.free,os:=h.os,tape:=h.tape,output:=h.output,grow:=h.grow,same:=h.same,ownT:=?_,allT:=?_,r0:=fun x hx=>.inl (h.r0 x hx),rT:=?_,ext:=h.ext }
 ·intro j B1 hB1
  by_cases e:j=id
  ·subst e; rw [Ah] at hB1; simp at hB1; subst hB1
   refine ⟨rb,hm,?_⟩
   cases hrep with
   | vac ao=>exact .vac ao true nl c
   | row b off k cap len ro nl c l us e' hk h3 h4 h5 h6 h7 h8=>exact .row b off k cap len true nl c l us e' hk h3 h4 h5 h6 (fun i z j v hz hv=>by obtain ⟨u,hu,hr⟩:=h7 i z j v hz hv; exact ⟨u,hu,hr.mono (fun _ _=>rfl) hRR (fun _ _ h=>h)⟩) (fun _=>.inr rfl)
  ·obtain ⟨r,h1,h2⟩:=h.mem.blk j B1 (old j B1 e hB1)
   exact ⟨r,h1,h2.mono (fun _ _=>rfl) (fun _ _=>rfl) hRR (fun _ _ h=>h)⟩
 ·intro j j' B1 B2 r1 r2 y h1 h2 o1 o2 m1 m2 e1 e2
  exact h.mem.inj j j' B1 B2 r1 r2 y (ownOld _ _ h1 o1).1 (ownOld _ _ h2 o2).1 o1 o2 m1 m2 e1 e2
 ·intro j B1 r1 y h1 o1 m1 e1 hy
  obtain ⟨c1,c2⟩:=ownOld j B1 h1 o1
  rcases hy with hy | hy
  ·exact h.mem.sep j B1 r1 y c1 o1 m1 e1 hy
  ·-- the frozen block was own, or stayed already
   cases ro with
   | false=>exact c2 (h.mem.inj j id B1 _ r1 rb y c1 hb o1 rfl m1 hm e1 hy)
   | true=>
    cases hrep with
    | vac=>simp [RB.real] at hy
    | row b off k cap len ro nl c l us e' hk h3 h4 h5 h6 h7 h8=>
     simp [RB.real] at hy; subst hy
     exact h.mem.sep j B1 r1 b c1 o1 m1 e1 (h8 rfl)
 ·intro x hx
  rcases hx with hx | hx
  ·exact h.mem.rlt x hx
  ·exact hrep.lt hx
 ·intro j B1 r1 y h1 o1 m1 e1
  exact h.ownT j B1 r1 y (ownOld j B1 h1 o1).1 o1 m1 e1
 ·intro j B1 r1 y h1 m1 e1
  by_cases e:j=id
  ·subst e; rw [Ah] at h1; simp at h1; subst h1; exact h.allT j _ r1 y hb m1 e1
  ·exact h.allT j B1 r1 y (old j B1 e h1) m1 e1
 ·intro x hx
  rcases hx with hx | hx
  ·exact h.rT x hx
  ·cases ro with
   | false=>exact .inr (h.ownT id _ rb x hb rfl hm hx)
   | true=>
    cases hrep with
    | vac=>simp [RB.real] at hx
    | row b off k cap len ro nl c l us e' hk h3 h4 h5 h6 h7 h8=>
     simp [RB.real] at hx; subst hx
     exact h.rT b (h8 rfl)
theorem BM {c:Cd} {l:List c.den} {i:Nat} {z:c.den} (h:l[i]? = some z):AW c l none i=some (enc c z):=by simp [AW,h]
theorem Nest.held {R:Nat->Prop} {c:Cd} {l:List c.den} {u:Value} (h:Nest w c l u) (hR : ∀ a n q,u = .slice (some a) n (q+1)->R a.block):VRep w R μ (.sl c l) u:=by
 cases h with
 | vac ao=>
  have:=VRep.sl (w:=w) (R:=R) (μ:=μ) c ([]:List c.den) ao 0 (fun _ _=>undef) (by simp) (by decide) (.inl rfl) (by simp)
  simpa using this
 | row l b off cap us e hf h h1 h2 h3 h4=>
  refine .sl c l (some ⟨b,off,none⟩) (cap+1) (fun i j=>us[off+(i*c.size+j)]?.getD undef) h1 h2 (.inr ⟨b,off,rfl,hR _ _ _ rfl,fun i z j v hz hv=>?_⟩) (fun i z j v hz hv=>?_)
  ·obtain ⟨u,hu,_⟩:=h4 i z j v hz hv
   rw [World.cell?,h,hu]; simp [hu]
  ·obtain ⟨u,hu,hr⟩:=h4 i z j v hz hv
   rw [hu]; exact hr.mono (fun _ h=>h.elim) (fun _ h=>h.elim) (fun _ _ h=>by cases h)
theorem CRep.frozen {R':Nat->Prop} {v:V} {u:Value} (h:CRep w R μ v u) (hRR : ∀ b,R b->R' b) (hR : ∀ c l a n q,v = .sl c l->u = .slice (some a) n (q+1)->R' a.block):VRep w R' μ v u:=by
 cases v with
 | sl c l=>exact Nest.held h (fun a n q e=>hR c l a n q rfl e)
 | _=>exact VRep.mono h (fun _ _=>rfl) hRR (fun _ _ h=>h)
theorem SimAt.freezeD (h:SimAt E R μ sl bl fr a w) {id:Nat} {c:Cd} {l:List c.den} {rb:RB} (hb:bl id=some (.drow c l none)) (hm:μ id=some rb) :
  SimAt E (fun x=>R x\/Foot w rb (.drow c l none) x) μ sl (Au bl id (some (.row true none c l))) fr a w:=by
 obtain ⟨rb',hm',hrep⟩:=h.mem.blk id _ hb
 rw [hm] at hm'; simp at hm'; subst hm'
 have hRR : ∀ x,R x->(R x\/Foot w rb (.drow c l none) x):=fun x hx=>.inl hx
 have old : ∀ j B1,j≠id->Au bl id (some (.row true none c l)) j=some B1->bl j=some B1:=fun j B1 e h1=>by rwa [Aw _ _ e] at h1
 have ownOld : ∀ j B1,Au bl id (some (.row true none c l)) j=some B1->B1.own=true->bl j=some B1/\j≠id:=fun j B1 h1 o1=>by
  by_cases e:j=id
  ·subst e; rw [Ah] at h1; simp at h1; subst h1; simp [Blk.own] at o1
  ·exact ⟨old j B1 e h1,e⟩
 refine { mem:=⟨?_,?_,?_,?_⟩,size:=h.size,slot:=fun t v u h1 h2=>(h.slot t v u h1 h2).mono (fun _ _=>rfl) hRR (fun _ _ h=>h),dfr:=h.dfr,free:=h.free,os:=h.os,tape:=h.tape,output:=h.output,grow:=h.grow,same:=h.same,ownT:=?_,allT:=?_,r0:=fun x hx=>.inl (h.r0 x hx),rT:=?_,ext:=h.ext }
 ·intro j B1 hB1
  by_cases e:j=id
  ·subst e; rw [Ah] at hB1; simp at hB1; subst hB1
   refine ⟨rb,hm,?_⟩
   cases hrep with
   | dvac ao=>exact .vac ao true none c
   | drow b off k cap len _ _ _ us e' hk h3 h4 h5 h6 h7 h8 h9 h10=>
    refine .row b off k cap len true none c l us e' hk h3 h4 h5 h6 (fun i z j v hz hv=>?_) (fun _=>.inr (.inl rfl))
    obtain ⟨u,hu,hr⟩:=h7 i _ j v (BM hz) hv
    exact ⟨u,hu,hr.frozen hRR (fun c1 l1 a n q e1 e2=>.inr (.inr ⟨us,e',i,j,h3,_,c1,l1,a,n,q,BM hz,by rw [hv,e1],by rw [hu,e2],rfl⟩))⟩
  ·obtain ⟨r,h1,h2⟩:=h.mem.blk j B1 (old j B1 e hB1)
   exact ⟨r,h1,h2.mono (fun _ _=>rfl) (fun _ _=>rfl) hRR (fun _ _ h=>h)⟩
 ·intro j j' B1 B2 r1 r2 y h1 h2 o1 o2 m1 m2 e1 e2
  exact h.mem.inj j j' B1 B2 r1 r2 y (ownOld _ _ h1 o1).1 (ownOld _ _ h2 o2).1 o1 o2 m1 m2 e1 e2
 ·intro j B1 r1 y h1 o1 m1 e1 hy
  obtain ⟨c1,c2⟩:=ownOld j B1 h1 o1
  rcases hy with hy | hy
  ·exact h.mem.sep j B1 r1 y c1 o1 m1 e1 hy
  ·exact c2 (h.mem.inj j id B1 _ r1 rb y c1 hb o1 rfl m1 hm e1 hy)
 ·intro x hx
  rcases hx with hx | hx
  ·exact h.mem.rlt x hx
  ·exact hrep.lt hx
 ·intro j B1 r1 y h1 o1 m1 e1
  exact h.ownT j B1 r1 y (ownOld j B1 h1 o1).1 o1 m1 e1
 ·intro j B1 r1 y h1 m1 e1
  by_cases e:j=id
  ·subst e; rw [Ah] at h1; simp at h1; subst h1; exact h.allT j _ r1 y hb m1 (Foot.main e1)
  ·exact h.allT j B1 r1 y (old j B1 e h1) m1 e1
 ·intro x hx
  rcases hx with hx | hx
  ·exact h.rT x hx
  ·exact .inr (h.ownT id _ rb x hb rfl hm hx)
end
end Go.Proofs.YthbecdipboideaaDoor.Den
/- Operations that only reckon: the machine's value is the model's. -/
namespace Go.Proofs.YthbecdipboideaaDoor.Den
section
variable {P:Program} {R:Nat->Prop} {μ:Nat->Option RB} {w:World}

theorem Ac {β:Type} {c:Bool} {k:Option β} {r:β} (h:ifT c k=some r):c=true/\k=some r:=by cases c with | true=>exact ⟨rfl,h⟩ | false=>cases h
theorem A5 {α β:Type} {o:Option α} {k:α->Option β} {r:β} (h:Ap o k=some r) : ∃ a,o=some a/\k a=some r:=by cases o with | none=>cases h | some a=>exact ⟨a,rfl,h⟩

theorem Br.k_mk {α β:Type} : ∀ {b:Br α} {k:α->Option β} {a:α},b.run=some a->Br.k b k=k a
 | .no,k,a,h=>by cases h
 | .leaf x,k,a,h=>by cases h; rfl
 | .br c x y,k,a,h=>by
  cases c with
  | true=>exact Br.k_mk (b:=x) h
  | false=>exact Br.k_mk (b:=y) h
 | .need c x,k,a,h=>by
  cases c with
  | true=>exact Br.k_mk (b:=x) h
  | false=>cases h
 | .opt c o g,k,a,h=>by
  cases o with
  | none=>cases h
  | some z=>exact Br.k_mk (b:=g z) h
 | .optB o g,k,a,h=>by
  cases o with
  | none=>cases h
  | some z=>exact Br.k_mk (b:=g z) h
theorem Br.k_some {α β:Type} : ∀ {b:Br α} {k:α->Option β} {r:β},Br.k b k=some r->∃ a,b.run=some a/\k a=some r
 | .no,k,r,h=>by cases h
 | .leaf x,k,r,h=>⟨x,rfl,h⟩
 | .br c x y,k,r,h=>by
  cases c with
  | true=>exact Br.k_some (b:=x) h
  | false=>exact Br.k_some (b:=y) h
 | .need c x,k,r,h=>by
  cases c with
  | true=>exact Br.k_some (b:=x) h
  | false=>cases h
 | .opt c o g,k,r,h=>by
  cases o with
  | none=>cases h
  | some z=>exact Br.k_some (b:=g z) h
 | .optB o g,k,r,h=>by
  cases o with
  | none=>cases h
  | some z=>exact Br.k_some (b:=g z) h
theorem Dk {t e:TypeId} (h:Ct P t=some e):P.underlying t=some (.slice e):=by
 unfold Ct at h
 split at h
 ·simp at h; subst h; assumption
 ·cases h
theorem IJ (w:World) (d:Nat) (t e:TypeId) (a:Option Addr) (l c:Nat) (h:P.underlying t=some (.slice e)):(Op.equalIn (d+1) t (.slice a l c) (.slice none 0 0)).run P w = .ok a.isNone w:=by
 cases a<;>simp [Op.equalIn,run_underlying h]
theorem I2 {op:BinOp} {t e:TypeId} {ox oy:Operand} {v:V} (ht:P.underlying t=some (.slice e)) (h:(match op with | .eql=>some (V.b true) | .neq=>some (V.b false) | _=>none)=some v) :
  ∃ u,(do eqGuard op t ox oy (.slice none 0 0) (.slice none 0 0); binOp op t (.slice none 0 0) (.slice none 0 0):Sem Value).run P w = .ok u w/\VRep w R μ v u:=by
 have hg : ∀ op,(eqGuard op t ox oy (.slice none 0 0) (.slice none 0 0))=pure ():=by intro op; unfold eqGuard; cases op<;>rfl
 split at h
 ·cases h
  exact ⟨.bool true,by rw [hg]; simp only [Sem.run_bind,Sem.run_pure,Result.andThen_ok]; simp [binOp,Op.equal,Op.maxDepth,IJ w 9999 t e none 0 0 ht],.b _⟩
 ·cases h
  exact ⟨.bool false,by rw [hg]; simp only [Sem.run_bind,Sem.run_pure,Result.andThen_ok]; simp [binOp,Op.equal,Op.maxDepth,IJ w 9999 t e none 0 0 ht],.b _⟩
 ·cases h
theorem Mb (w:World) (d:Nat) (t e:TypeId) (a:Option Addr) (h:P.underlying t=some (.pointer e)):(Op.equalIn (d+1) t (.pointer a) (.pointer none)).run P w = .ok a.isNone w:=by
 cases a<;>simp [Op.equalIn,run_underlying h]
theorem GO {op:BinOp} {t e:TypeId} {ox oy:Operand} {v:V} {a:Option Addr} (ht:P.underlying t=some (.pointer e)) (h:(match op with | .eql=>some (V.b a.isNone) | .neq=>some (V.b !a.isNone) | _=>none)=some v) :
  ∃ u,(do eqGuard op t ox oy (.pointer a) (.pointer none); binOp op t (.pointer a) (.pointer none):Sem Value).run P w = .ok u w/\VRep w R μ v u:=by
 have hg : ∀ op,(eqGuard op t ox oy (.pointer a) (.pointer none))=pure ():=by intro op; unfold eqGuard; cases op<;>rfl
 split at h
 ·cases h
  exact ⟨.bool a.isNone,by rw [hg]; simp only [Sem.run_bind,Sem.run_pure,Result.andThen_ok]; simp [binOp,Op.equal,Op.maxDepth,Mb w 9999 t e a ht],.b _⟩
 ·cases h
  exact ⟨.bool (!a.isNone),by rw [hg]; simp only [Sem.run_bind,Sem.run_pure,Result.andThen_ok]; simp [binOp,Op.equal,Op.maxDepth,Mb w 9999 t e a ht],.b _⟩
 ·cases h
theorem EN {op:BinOp} {t:TypeId} {ox oy:Operand} {v:V} {A:Addr} (h:GK P op t some=some v) :
  ∃ u,(do eqGuard op t ox oy (.pointer (some A)) (.pointer none); binOp op t (.pointer (some A)) (.pointer none):Sem Value).run P w = .ok u w/\VRep w R μ v u:=by
 unfold GK at h
 split at h
 ·rename_i e ht
  exact GO ht h
 ·cases h
theorem FK {op:BinOp} {t e:TypeId} {ox oy:Operand} {ao:Option Addr} {n cap m:Nat} {v:V} (ht:P.underlying t=some (.slice e)) (hn:0<m->∃ A,ao=some A) (h:I3 op (decide (0<m)) some=some v) :
  ∃ u,(do eqGuard op t ox oy (.slice ao n cap) (.slice none 0 0); binOp op t (.slice ao n cap) (.slice none 0 0):Sem Value).run P w = .ok u w/\VRep w R μ v u:=by
 have hg : ∀ op,(eqGuard op t ox oy (.slice ao n cap) (.slice none 0 0))=pure ():=by intro op; unfold eqGuard; cases op<;>rfl
 unfold I3 at h
 split at h
 ·refine ⟨.bool ao.isNone,by rw [hg]; simp only [Sem.run_bind,Sem.run_pure,Result.andThen_ok]; simp [binOp,Op.equal,Op.maxDepth,IJ w 9999 t e ao n cap ht],?_⟩
  by_cases hm:0<m
  ·obtain ⟨A,rfl⟩:=hn hm
   rw [decide_eq_true hm] at h
   cases h; exact .b _
  ·rw [decide_eq_false hm] at h
   cases h; exact .ub _
 ·refine ⟨.bool (!ao.isNone),by rw [hg]; simp only [Sem.run_bind,Sem.run_pure,Result.andThen_ok]; simp [binOp,Op.equal,Op.maxDepth,IJ w 9999 t e ao n cap ht],?_⟩
  by_cases hm:0<m
  ·obtain ⟨A,rfl⟩:=hn hm
   rw [decide_eq_true hm] at h
   cases h; exact .b _
  ·rw [decide_eq_false hm] at h
   cases h; exact .ub _
 ·cases h
theorem K9 {t:TypeId} {us:Array Value} {o:Nat} {u:Value} (ha:Gx P t=some false) (hu:us[o]? = some u):(part t us o).run P w = .ok u w:=by
 have h1:(isAgg t).run P w = .ok false w:=by
  unfold Gx at ha
  cases hu:P.underlying t with
  | none=>rw [hu] at ha; cases ha
  | some d=>rw [hu] at ha; cases d<;>simp at ha<;>simp [isAgg,run_underlying hu]
 have hj:o<us.size:=(Array.getElem?_eq_some_iff.1 hu).1
 have he:us[o]=u:=(Array.getElem?_eq_some_iff.1 hu).2
 simp only [part,Sem.run_bind,h1,Result.andThen_ok,Bool.false_eq_true,if_false]
 simp [hu]
theorem DM {xs ys:Array Value} {as' bs:List V} (hx:xs.size=as'.length/\∀ (j:Nat) v u,as'[j]? = some v->xs[j]? = some u->VRep w R μ v u) (hy:ys.size=bs.length/\∀ (j:Nat) v u,bs[j]? = some v->ys[j]? = some u->VRep w R μ v u) (d:Nat) :
  ∀ (fs:List Field) (r:Bool),OI P fs as' bs=some r->(Op.eqFields (d+1) xs ys fs).run P w = .ok r w
 | [],r,h=>by simp [OI] at h; subst h; simp [Op.eqFields]
 | f::fs,r,h=>by
  unfold OI at h
  split at h
  ·rename_i hn ha
   have hn':f.name ≠ "_" := by simpa using hn
   have get : ∀ {us:Array Value} {cs:List V} {v:V},(us.size=cs.length/\∀ (j:Nat) v u,cs[j]? = some v->us[j]? = some u->VRep w R μ v u)->cs[f.offset]? = some v->∃ u,(part f.type us f.offset).run P w = .ok u w/\VRep w R μ v u:=fun {us cs v} hh hv=>by
    have hj:f.offset<us.size:=by rw [hh.1]; exact (List.getElem?_eq_some_iff.1 hv).1
    exact ⟨us[f.offset],K9 ha (by simp [hj]),hh.2 _ v _ hv (by simp [hj])⟩
   split at h
   ·rename_i k a k' b kk r' e1 e2 ht e4
    split at h
    ·rename_i hkk
     have hkk:=of_decide_eq_true hkk
     subst hkk
     simp at h; subst h
     have ih:=DM hx hy d fs r' e4
     obtain ⟨u1,p1,v1⟩:=get hx e1
     obtain ⟨u2,p2,v2⟩:=get hy e2
     cases v1; cases v2
     simp only [Op.eqFields,hn',ne_eq,not_false_eq_true,if_true,Sem.run_bind,p1,p2,Result.andThen_ok,run_equalIn_int w d f.type k kk a b ht]
     cases hab:(a==b) with
     | true=>simpa using ih
     | false=>simp
    ·cases h
   ·rename_i a b r' e1 e2 ht e4
    simp at h; subst h
    have ih:=DM hx hy d fs r' e4
    obtain ⟨u1,p1,v1⟩:=get hx e1
    obtain ⟨u2,p2,v2⟩:=get hy e2
    cases v1; cases v2
    simp only [Op.eqFields,hn',ne_eq,not_false_eq_true,if_true,Sem.run_bind,p1,p2,Result.andThen_ok,run_equalIn_string w d f.type _ _ ht,ByteArray.toList_mk]
    cases hab:(a==b) with
    | true=>simpa [hab] using ih
    | false=>simp
   ·rename_i a b r' e1 e2 ht e4
    simp at h; subst h
    have ih:=DM hx hy d fs r' e4
    obtain ⟨u1,p1,v1⟩:=get hx e1
    obtain ⟨u2,p2,v2⟩:=get hy e2
    cases v1; cases v2
    simp only [Op.eqFields,hn',ne_eq,not_false_eq_true,if_true,Sem.run_bind,p1,p2,Result.andThen_ok,run_equalIn_bool' w d f.type a b ht]
    cases hab:(a==b) with
    | true=>simpa using ih
    | false=>simp
   ·cases h
  ·cases h
theorem MZ {op:BinOp} {t:TypeId} {x y v:V} {ox oy:Operand} {ux uy:Value} (hx:VRep w R μ x ux) (hy:VRep w R μ y uy) (h:Kk P op t x y some=some v) :
  ∃ u,(do eqGuard op t ox oy ux uy; binOp op t ux uy:Sem Value).run P w = .ok u w/\VRep w R μ v u:=by
 unfold Kk at h
 split at h
 ·rename_i xk a yk b
  cases hx; cases hy
  have hg : ∀ op,(eqGuard op t ox oy (.int xk a) (.int yk b))=pure ():=by intro op; unfold eqGuard; cases op<;>rfl
  split at h
  ·obtain ⟨h1,h2⟩:=Ac h
   simp at h1 h2; subst h2
   refine ⟨_,?_,.i _ _⟩
   simp [hg,binOp,Op.shift,show ¬b<0 by omega]
  ·obtain ⟨h1,h2⟩:=Ac h
   simp at h1 h2; subst h2
   refine ⟨_,?_,.i _ _⟩
   simp [hg,binOp,Op.shift,show ¬b<0 by omega]
  ·rename_i n1 n2
   obtain ⟨h1,h2⟩:=Ac h
   simp at h1; subst h1
   cases op<;>simp at n1 n2 h2
   case quo=>
    obtain ⟨h3,h4⟩:=Ac h2
    simp at h3 h4; subst h4
    exact ⟨_,by simp [hg,binOp,Op.intDiv,h3],.i _ _⟩
   case rem=>
    obtain ⟨h3,h4⟩:=Ac h2
    simp at h3 h4; subst h4
    exact ⟨_,by simp [hg,binOp,Op.intDiv,h3],.i _ _⟩
   all_goals
    subst h2
    first
     | (refine ⟨_,?_,.i _ _⟩; simp [hg,binOp,Op.intArith]; done)
     | (refine ⟨_,?_,.b _⟩; simp [hg,binOp,Op.intCmp]; done)
     | (refine ⟨_,?_,.i _ _⟩; simp only [hg,binOp,ne_eq,not_true,if_false]; rfl)
 ·rename_i a b
  cases hx; cases hy
  have hg : ∀ op,(eqGuard op t ox oy (.string ⟨a.toArray⟩) (.string ⟨b.toArray⟩))=pure ():=by intro op; unfold eqGuard; cases op<;>rfl
  split at h
  ·obtain ⟨h1,h2⟩:=Ac h
   simp at h1 h2; subst h2
   refine ⟨.string ⟨(a++b).toArray⟩,?_,.s _⟩
   have e : ¬((a.length:Int)+b.length>IntKind.i64.max):=by simp [IntKind.max,IntKind.signed,IntKind.bits]; omega
   have e2:(⟨a.toArray⟩:ByteArray)++⟨b.toArray⟩=⟨(a++b).toArray⟩:=by apply ByteArray.ext; apply Array.toList_inj.1; simp
   have e3:(⟨a.toArray⟩:ByteArray).size=a.length:=by simp [ByteArray.size]
   have e4:(⟨b.toArray⟩:ByteArray).size=b.length:=by simp [ByteArray.size]
   simp only [hg,binOp,Op.stringOp,e2,e3,e4]
   simp
   omega
  all_goals first
   | (simp at h; subst h; exact ⟨_,by simp only [hg,binOp,Op.stringOp,ByteArray.toList_mk]; simp,.b _⟩)
   | simp at h
 ·rename_i a b
  cases hx; cases hy
  have hg : ∀ op,(eqGuard op t ox oy (.bool a) (.bool b))=pure ():=by intro op; unfold eqGuard; cases op<;>rfl
  split at h
  ·rename_i ht
   cases op<;>simp at h<;>subst h
   ·exact ⟨_,by simp [hg,binOp,run_equal_bool _ _ _ _ ht],.b _⟩
   ·exact ⟨_,by simp [hg,binOp,run_equal_bool _ _ _ _ ht],.b _⟩
  ·cases h
 ·rename_i c l
  split at h
  ·rename_i e he
   have ht:=Dk he
   cases hy
   cases hx with
   | sl _ _ ao cap U h1 h2 h3 h4=>
   refine FK ht (fun hp=>?_) h
   rcases h3 with h3 | ⟨b,off,rfl,_⟩
   ·omega
   ·exact ⟨_,rfl⟩
  ·cases h
 ·rename_i id lo n
  split at h
  ·rename_i e he
   have ht:=Dk he
   cases hy
   cases hx with
   | vac=>exact FK ht (fun hp=>absurd hp (by omega)) h
   | ref _ _ _ b off k cap len A hr h0 h3 h4 h5=>exact FK ht (fun hp=>⟨_,rfl⟩) h
  ·cases h
 ·rename_i as' bs
  cases hx with
  | agg _ us h1 h2=>
  cases hy with
  | agg _ us' h3 h4=>
  unfold Mc at h
  split at h
  ·rename_i fs ht
   split at h
   ·rename_i r hs hg he
    have hf:P.underlying t=some (.struct (P.fieldsOf t)):=by simp [Program.fieldsOf,ht]
    have hfs:P.fieldsOf t=fs:=by simp [Program.fieldsOf,ht]
    have h5:(Op.equalIn 10000 t (.agg us) (.agg us')).run P w = .ok r w:=by
     rw [show (10000:Nat)=9999+1 from rfl,run_equalIn_agg w 9999 t us us' hf hs,hfs]
     exact DM ⟨h1,h2⟩ ⟨h3,h4⟩ 9998 fs.toList r he
    split at h
    ·simp at h; subst h
     exact ⟨_,by simp only [Sem.run_bind,run_eqGuard_agg w _ t ox oy us us' hg,Result.andThen_ok,run_eql_struct,h5],.b _⟩
    ·simp at h; subst h
     exact ⟨_,by simp only [Sem.run_bind,run_eqGuard_agg w _ t ox oy us us' hg,Result.andThen_ok,run_neq_struct,h5],.b _⟩
    ·cases h
   ·cases h
  ·cases h
 ·cases hx; cases hy; exact EN h
 ·cases hx; cases hy; exact EN h
 ·cases hx; cases hy; exact EN h
 ·split at h
  ·rename_i e ht
   cases hx; cases hy
   exact GO ht h
  ·cases h
 ·split at h
  ·rename_i e he
   have ht:=Dk he
   cases hx
   cases hy
   exact I2 ht h
  ·cases h
 ·cases h

theorem Nl {op:UnOp} {x v:V} {ux:Value} (hx:VRep w R μ x ux) (h:unK op x some=some v) : ∃ u,(Op.unary op ux).run P w = .ok u w/\VRep w R μ v u:=by
 unfold unK at h
 split at h
 ·cases hx; injection h with h; subst h; exact ⟨_,rfl,.b _⟩
 ·cases hx; injection h with h; subst h; exact ⟨_,rfl,.i _ _⟩
 ·cases h

theorem MD {t ty:TypeId} {v:V} {u:Value} {n:Int} {ts:Array TypeId} (hv:VRep w R μ v u) (h:JF P t v some=some n) (ht:ts[0]? = some t):(Builtin.len_ ts ty #[u]).run P w = .ok (.int .i64 n) w:=by
 unfold JF at h
 split at h
 ·rename_i hu
  split at h
  ·rename_i l
   cases hv; simp at h; subst h
   have e3:(⟨l.toArray⟩:ByteArray).size=l.length:=by simp [ByteArray.size]
   simp [Builtin.len_,ht,run_underlying hu,goInt,e3]
  ·cases h
 ·rename_i e hu
  split at h
  ·simp at h; subst h
   cases hv<;>simp [Builtin.len_,ht,run_underlying hu,goInt]
  ·simp at h; subst h
   cases hv; simp [Builtin.len_,ht,run_underlying hu,goInt]
  ·simp at h; subst h
   cases hv; simp [Builtin.len_,ht,run_underlying hu,goInt]
  ·cases h
 ·rename_i m e hu
  simp at h; subst h
  simp [Builtin.len_,ht,run_underlying hu,goInt]
 ·cases h

theorem Ca {t:TypeId} {i:TypeInfo} (hi:P.info? t=some i) (w:World):(sizeOf t).run P w = .ok (szT P t) w:=by simp [sizeOf,typeInfo,hi,szT,Program.cellsOf]

theorem Bq {t:TypeId} {n:Nat} (h:Dd P t n=true) : ∃ i,P.info? t=some i/\n=szT P t:=by
 unfold Dd at h
 cases hi:P.info? t with
 | none=>rw [hi] at h; cases h
 | some i=>rw [hi] at h; exact ⟨i,rfl,by have:=Nat.eq_of_beq_eq_true h; simp [szT,Program.cellsOf,hi,this]⟩
theorem CO {m cap:Nat} {isS:Bool} {lo hi:Option V} {ulo uhi:Option Value} {l h:Option Int} {a b:Nat} (hl:Hu lo=some l) (hh:Hu hi=some h)
  (rl : ∀ v,lo=some v->∃ u,ulo=some u/\VRep w R μ v u) (rh : ∀ v,hi=some v->∃ u,uhi=some u/\VRep w R μ v u) (nl:lo=none->ulo=none) (nh:hi=none->uhi=none)
  (hc:Er m l h (fun a b=>some (a,b))=some (a,b)) (hcap:m<=cap):(Instr.sliceBounds isS m cap ulo uhi none).run P w = .ok (a,b,cap) w/\a<=b/\b<=m:=by
 have key : ∀ {o:Option V} {uo:Option Value} {q:Option Int},Hu o=some q->(∀ v,o=some v->∃ u,uo=some u/\VRep w R μ v u)->(o=none->uo=none)->(q=none/\uo=none)\/∃ k n,q=some n/\uo=some (.int k n):=by
  intro o uo q h1 h2 h3
  cases o with
  | none=>simp [Hu] at h1; subst h1; exact .inl ⟨rfl,h3 rfl⟩
  | some v=>
   obtain ⟨u,hu,hr⟩:=h2 v rfl
   cases v<;>simp [Hu] at h1
   subst h1; cases hr
   exact .inr ⟨_,_,rfl,hu⟩
 rcases key hl rl nl with ⟨rfl,rfl⟩ | ⟨k1,n1,rfl,rfl⟩<;>rcases key hh rh nh with ⟨rfl,rfl⟩ | ⟨k2,n2,rfl,rfl⟩
 ·simp [Er] at hc; obtain ⟨rfl,rfl⟩:=hc
  exact ⟨by simp [Instr.sliceBounds],by omega,by omega⟩
 ·obtain ⟨h1,h2⟩:=Ac hc
  simp at h1 h2; obtain ⟨rfl,rfl⟩:=h2
  refine ⟨?_,by omega,by omega⟩
  have:(0:Int)<=n2/\n2<=(cap:Int):=⟨h1.1,by omega⟩
  simp [Instr.sliceBounds,Instr.sliceBound,asIntOf,this]
 ·obtain ⟨h1,h2⟩:=Ac hc
  simp at h1 h2; obtain ⟨rfl,rfl⟩:=h2
  refine ⟨?_,by omega,by omega⟩
  simp [Instr.sliceBounds,Instr.sliceBound,asIntOf,h1]
 ·obtain ⟨h1,h2⟩:=Ac hc
  simp at h1 h2; obtain ⟨rfl,rfl⟩:=h2
  refine ⟨?_,by omega,by omega⟩
  have e1:(0:Int)<=n2/\n2<=(cap:Int):=⟨by omega,by omega⟩
  have e2:(0:Int)<=n1/\n1<=(n2.toNat:Int):=⟨h1.1.1,by omega⟩
  have e3:max n2 0=n2:=by omega
  simp [Instr.sliceBounds,Instr.sliceBound,asIntOf,e1,e3,h1]
theorem IN {β:Type} {m:Nat} {l h:Option Int} {k:Nat->Nat->Option β} {r:β} (hc:Er m l h k=some r) : ∃ a b,Er m l h (fun a b=>some (a,b))=some (a,b)/\k a b=some r:=by
 unfold Er at hc ⊢
 split at hc
 ·exact ⟨_,_,rfl,hc⟩
 all_goals
  obtain ⟨h1,h2⟩:=Ac hc
  exact ⟨_,_,by simp only [h1]; rfl,h2⟩

theorem Bk {α:Type} {l:List α} {a n i:Nat} {z:α} (h:((l.drop a).take n)[i]? = some z):l[a+i]? = some z/\i<n:=by
 rw [getElem?_take] at h
 split at h
 ·rw [getElem?_drop] at h; exact ⟨h,by assumption⟩
 ·cases h

theorem VRep.cut {c:Cd} {l:List c.den} {ao:Option Addr} {cap a b:Nat} (hv:VRep w R μ (.sl c l) (.slice ao l.length cap)) (hab:a<=b) (hb:b<=l.length) (e:TypeId) (he:c.size=szT P e) :
  VRep w R μ (.sl c ((l.drop a).take (b-a))) (.slice (if cap=a then ao else ao.map (·.add (a*szT P e))) (b-a) (cap-a)):=by
 generalize hu:Value.slice ao l.length cap=u at hv
 cases hv with
 | sl _ _ ao' cap' U h1 h2 h3 h4=>
  simp at hu; obtain ⟨rfl,rfl⟩:=hu
  have hlen:((l.drop a).take (b-a)).length=b-a:=by rw [length_take,List.length_drop]; omega
  have:=VRep.sl (w:=w) (R:=R) (μ:=μ) c ((l.drop a).take (b-a)) (if cap=a then ao else ao.map (·.add (a*szT P e))) (cap-a) (fun i j=>U (a+i) j) (by rw [hlen]; omega) (by omega) ?_ ?_
  ·rw [hlen] at this; exact this
  ·by_cases hz:b-a=0
   ·exact .inl (by rw [hlen]; exact hz)
   ·right
    rcases h3 with h3 | ⟨B,off,rfl,hR,hcell⟩
    ·omega
    ·refine ⟨B,off+a*c.size,?_,hR,?_⟩
     ·rw [if_neg (by omega),he]
      simp only [Option.map_some,Addr.add]
      split<;>simp_all
     ·intro i z j v hz' hv
      obtain ⟨hz2,_⟩:=Bk hz'
      rw [<-hcell (a+i) z j v hz2 hv,add_mul]
      congr 2; omega
  ·intro i z j v hz hv
   obtain ⟨hz2,_⟩:=Bk hz
   exact h4 (a+i) z j v hz2 hv

theorem Jh {bl:Nat->Option Blk} {t:TypeId} {x v:V} {ux:Value} {lo hi:Option V} {ulo uhi:Option Value} {l h:Option Int} (hm:Mem w R μ bl) (hx:VRep w R μ x ux) (hl:Hu lo=some l) (hh:Hu hi=some h)
  (rl : ∀ v,lo=some v->∃ u,ulo=some u/\VRep w R μ v u) (rh : ∀ v,hi=some v->∃ u,uhi=some u/\VRep w R μ v u) (nl:lo=none->ulo=none) (nh:hi=none->uhi=none)
  (hs:DA P bl t x l h some=some v) : ∃ u,(Instr.sliceAt t ux ulo uhi none).run P w = .ok u w/\VRep w R μ v u:=by
 unfold DA at hs
 split at hs
 ·rename_i hu
  split at hs
  ·rename_i s
   cases hx
   obtain ⟨a,b,hc,hv⟩:=IN hs
   simp at hv; subst hv
   have e3:(⟨s.toArray⟩:ByteArray).size=s.length:=by simp [ByteArray.size]
   obtain ⟨hb,h1,h2⟩:=CO (P:=P) (w:=w) (cap:=s.length) (isS:=false) hl hh rl rh nl nh hc (Nat.le_refl _)
   refine ⟨.string ((⟨s.toArray⟩:ByteArray).extract a b),?_,?_⟩
   ·simp [Instr.sliceAt,Instr.slice,run_underlying hu,e3,hb]
   ·have:(⟨s.toArray⟩:ByteArray).extract a b=⟨((s.drop a).take (b-a)).toArray⟩:=ByteArray.extract_mk s a b
    rw [this]; exact .s _
  ·cases hs
 ·rename_i e hu
  split at hs
  ·rename_i id p n
   split at hs
   ·rename_i ro nl' c ll hb
    obtain ⟨hsz,hs⟩:=Ac hs
    obtain ⟨i,hie,hsz⟩:=Bq hsz
    obtain ⟨a,b,hc,hv⟩:=IN hs
    have hc' : ∀ M N,(h=none->M=N)->M<=ll.length-p->N<=ll.length-p->Er (hiB h N (ll.length-p)) l h (fun a b=>some (a,b))=some (a,b)->∀ K,ll.length-p<=K->(Instr.sliceBounds true M K ulo uhi none).run P w = .ok (a,b,K) w/\a<=b/\b<=ll.length-p:=by
     intro M N hMN hM hN hcut K hK
     cases h with
     | none=>
      have:=hMN rfl
      subst this
      simp only [hiB] at hcut
      obtain ⟨g1,g2,g3⟩:=CO (P:=P) (w:=w) (cap:=K) (isS:=true) hl hh rl rh nl nh hcut (by omega)
      exact ⟨g1,g2,by omega⟩
     | some q=>
      obtain ⟨g1,g2,g3⟩:=CO (P:=P) (w:=w) (cap:=K) (isS:=true) hl hh rl rh nl nh hcut hK
      refine ⟨?_,g2,g3⟩
      have hu : ∃ z,uhi=some z:=by
       cases hi with
       | none=>simp [Hu] at hh
       | some vv=>obtain ⟨u,hu,_⟩:=rh vv rfl; exact ⟨u,hu⟩
      obtain ⟨z,rfl⟩:=hu
      exact g1
    simp at hv; subst hv
    obtain ⟨rb,hmu,hrep⟩:=hm.blk id _ hb
    cases hx with
    | vac _ ao hv=>
     have hl0:ll=[]:=by
      rw [hmu] at hv; simp at hv; subst hv
      cases hrep; rfl
     subst hl0
     obtain ⟨hb2,h1,h2⟩:=hc' 0 0 (fun _=>rfl) (by simp) (by simp) hc 0 (by simp)
     simp only [List.length_nil,Nat.zero_sub] at h2
     obtain rfl:b=0:=by omega
     obtain rfl:a=0:=by omega
     refine ⟨.slice ao 0 0,?_,.vac id ao hv⟩
     simp [Instr.sliceAt,Instr.slice,run_underlying hu,hb2,Ca hie]
    | ref _ _ _ B off k cap len A hr h0 h3 h4 h5=>
     rw [hmu] at hr; simp at hr; subst hr
     cases hrep with
     | row _ _ _ _ _ _ _ _ _ us e' hk hh' hlen=>
     subst hk
     obtain ⟨hb2,h1,h2⟩:=hc' n n (fun _=>rfl) (by omega) (by omega) hc (cap-p) (by omega)
     ·refine ⟨.slice (some (if cap-p=a then A else A.add (a*szT P e))) (b-a) (cap-p-a),?_,?_⟩
      ·simp only [Instr.sliceAt,Instr.slice,Sem.run_bind,run_underlying hu,Result.andThen_ok,hb2,Ca hie]
       split<;>rfl
      ·rw [show cap-p-a=cap-(p+a) by omega]
       refine .ref id (p+a) (b-a) B off c.size cap len _ hmu h0 (by omega) h4 ?_
       by_cases hz:cap-p=a
       ·left; omega
       ·right
        rw [if_neg hz]
        rcases h5 with h5 | rfl
        ·omega
        ·rw [<-hsz]
         simp only [Addr.add]
         split
         ·rename_i h6; simp [add_mul,h6]
         ·simp [add_mul,add_assoc]
   ·cases hs
  ·rename_i c ll
   obtain ⟨hsz,hs⟩:=Ac hs
   obtain ⟨i,hie,hsz⟩:=Bq hsz
   obtain ⟨a,b,hc,hv⟩:=IN hs
   simp at hv; subst hv
   have hx':=hx
   cases hx with
   | sl _ _ ao cap U h1 h2 h3 h4=>
   obtain ⟨hb2,h5,h6⟩:=CO (P:=P) (w:=w) (cap:=cap) (isS:=true) hl hh rl rh nl nh hc h1
   ·refine ⟨_,?_,VRep.cut hx' h5 h6 e hsz⟩
    simp only [Instr.sliceAt,Instr.slice,Sem.run_bind,run_underlying hu,Result.andThen_ok,hb2,Ca hie]
    rfl
  ·cases hs
 ·cases hs
end
end Go.Proofs.YthbecdipboideaaDoor.Den
/- Loads, parts, addresses. -/
namespace Go.Proofs.YthbecdipboideaaDoor.Den
section
variable {P:Program} {R:Nat->Prop} {μ:Nat->Option RB} {w:World}

theorem AL (b off n:Nat):(⟨b,off,none⟩:Addr).add n=⟨b,off+n,none⟩:=by
 unfold Addr.add; split
 ·simp
 ·rfl
theorem CQ {t:TypeId} {c:Bool} (h:Gx P t=some c) (w:World):(isAgg t).run P w = .ok c w:=by
 unfold Gx at h
 cases hu:P.underlying t with
 | none=>rw [hu] at h; cases h
 | some d=>rw [hu] at h; cases d<;>simp at h<;>subst h<;>simp [isAgg,run_underlying hu]

theorem Cu {t:TypeId} {row:List V} {o b base:Nat} {v:V} (hc : ∀ (j:Nat) v,row[j]? = some v->∃ u,w.cell? ⟨b,base+j,none⟩=some u/\VRep w R μ v u) (h:BT P t row o some=some v) :
  ∃ u,(Instr.loadAt t (.pointer (some ⟨b,base+o,none⟩))).run P w = .ok u w/\VRep w R μ v u:=by
 unfold BT at h
 split at h
 ·rename_i hagg
  split at h
  ·rename_i i hi
   obtain ⟨h1,h2⟩:=Ac h
   have h1:=Nat.le_of_ble_eq_true h1
   simp at h2; subst h2
   -- the cells, one by one
   have hex : ∀ j,j<i.size->∃ u,w.cell? ⟨b,base+(o+j),none⟩=some u/\VRep w R μ (row[o+j]?.getD .unk) u:=fun j hj=>by
    obtain ⟨u,h3,h4⟩:=hc (o+j) (row[o+j]'(by omega)) (by simp [show o+j<row.length by omega])
    exact ⟨u,h3,by simpa [show o+j<row.length by omega] using h4⟩
   refine ⟨.agg ((range i.size).map fun j=>(w.cell? ⟨b,base+(o+j),none⟩).getD undef).toArray,?_,?_⟩
   ·have:=run_loadCells (P:=P) w ⟨b,base+o,none⟩ i.size (fun j=>(w.cell? ⟨b,base+(o+j),none⟩).getD undef) (fun j hj=>by
     obtain ⟨u,h3,_⟩:=hex j hj
     rw [AL,add_assoc,h3]; rfl)
    simp only [Instr.loadAt,Instr.sureAddr,Sem.run_bind,Sem.run_pure,Result.andThen_ok,loadVar,CQ hagg,if_true,Ca hi]
    rw [show szT P t=i.size by simp [szT,Program.cellsOf,hi],this]
    rfl
   ·refine .agg _ _ (by simp; omega) fun j v u hv hu=>?_
    simp only [List.getElem?_toArray,List.getElem?_map] at hu
    have hj:j<i.size:=by
     rw [getElem?_take] at hv; split at hv
     ·assumption
     ·cases hv
    rw [List.getElem?_range hj] at hu
    simp at hu
    obtain ⟨u',h3,h4⟩:=hex j hj
    rw [h3] at hu; simp at hu; subst hu
    rw [getElem?_take,if_pos hj,getElem?_drop] at hv
    rw [hv] at h4; exact h4
  ·cases h
 ·rename_i hagg
  obtain ⟨v',h1,h2⟩:=A5 h
  simp at h2; subst h2
  obtain ⟨u,h3,h4⟩:=hc o v' h1
  exact ⟨u,by simp [Instr.loadAt,Instr.sureAddr,loadVar,CQ hagg,h3],h4⟩
 ·cases h

theorem GU {bl:Nat->Option Blk} {t:TypeId} {a v:V} {ua:Value} (hm:Mem w R μ bl) (ha:VRep w R μ a ua) (h:Dj P bl t a some=some v) :
  ∃ u,(Instr.loadAt t ua).run P w = .ok u w/\VRep w R μ v u:=by
 unfold Dj at h
 split at h
 ·rename_i id o
  split at h
  ·rename_i cs hb
   obtain ⟨rb,hmu,hrep⟩:=hm.blk id _ hb
   cases ha with
   | ptr _ _ b hr=>
   rw [hmu] at hr; simp at hr; subst hr
   cases hrep with
   | box _ _ us e hh h1 h2=>
   have:=Cu (P:=P) (w:=w) (R:=R) (μ:=μ) (b:=b) (base:=0) (row:=cs) (t:=t) (o:=o) (v:=v) (fun j v hv=>by
    have hj:j<cs.length:=(List.getElem?_eq_some_iff.1 hv).1
    refine ⟨us[j]'(by omega),?_,h2 j v _ hv (by simp [show j<us.size by omega])⟩
    rw [cell_of_row w b (0+j) us e (0,0) hh]; simp [show j<us.size by omega]) h
   simpa using this
  ·cases h
 ·rename_i id i o
  split at h
  ·rename_i ro nl c l hb
   obtain ⟨z,hz,h⟩:=A5 h
   obtain ⟨rb,hmu,hrep⟩:=hm.blk id _ hb
   cases ha with
   | el _ _ _ b off k cap len hr=>
   rw [hmu] at hr; simp at hr; subst hr
   cases hrep with
   | row _ _ _ _ _ _ _ _ _ us e hk hh h1 h2 h3 h4=>
   have:=Cu (P:=P) (w:=w) (R:=R) (μ:=μ) (b:=b) (base:=off+i*k) (t:=t) (o:=o) (v:=v) (fun j v hv=>by
    obtain ⟨u,hu,hr⟩:=h4 i z j v hz hv
    exact ⟨u,by rw [cell_of_row w b _ us e (0,0) hh,add_assoc]; exact hu,hr⟩) h
   rw [add_assoc] at this; exact this
  ·cases h
 ·rename_i c l i o
  obtain ⟨z,hz,h⟩:=A5 h
  cases ha with
  | rp _ _ _ _ b off U h1 h3 h4=>
  have:=Cu (P:=P) (w:=w) (R:=R) (μ:=μ) (b:=b) (base:=off+i*c.size) (t:=t) (o:=o) (v:=v) (fun j v hv=>⟨U i j,by rw [add_assoc]; exact h3 i z j v hz hv,h4 i z j v hz hv⟩) h
  rw [add_assoc] at this; exact this
 ·rename_i cs o
  cases ha with
  | bx _ _ b U h1 hp h3 h4=>
  have:=Cu (P:=P) (w:=w) (R:=R) (μ:=μ) (b:=b) (base:=0) (row:=cs) (t:=t) (o:=o) (v:=v) (fun j v hv=>⟨U j,by rw [Nat.zero_add]; exact h3 j v hv,h4 j v hv⟩) h
  simpa using this
 ·rename_i c z o
  cases ha with
  | tp _ _ _ b U h1 h3 h4=>
  have:=Cu (P:=P) (w:=w) (R:=R) (μ:=μ) (b:=b) (base:=0) (row:=IK c z) (t:=t) (o:=o) (v:=v) (fun j v hv=>⟨U j,by rw [Nat.zero_add]; exact h3 j v hv,h4 j v hv⟩) h
  simpa using this
 ·cases h

theorem GM {t:TypeId} {cs:List V} {us:Array Value} {o:Nat} {v:V} (hs:us.size=cs.length) (hc : ∀ (j:Nat) v u,cs[j]? = some v->us[j]? = some u->VRep w R μ v u) (h:BT P t cs o some=some v) :
  ∃ u,(part t us o).run P w = .ok u w/\VRep w R μ v u:=by
 unfold BT at h
 split at h
 ·rename_i hagg
  split at h
  ·rename_i i hi
   obtain ⟨h1,h2⟩:=Ac h
   have h1:=Nat.le_of_ble_eq_true h1
   simp at h2; subst h2
   refine ⟨.agg (us.extract o (o+i.size)),?_,?_⟩
   ·simp only [part,Sem.run_bind,CQ hagg,Result.andThen_ok,if_true,Ca hi]
    rw [show szT P t=i.size by simp [szT,Program.cellsOf,hi]]
    rfl
   ·refine .agg _ _ (by simp; omega) fun j v u hv hu=>?_
    have hj:j<i.size:=by
     rw [getElem?_take] at hv; split at hv
     ·assumption
     ·cases hv
    rw [getElem?_take,if_pos hj,getElem?_drop] at hv
    rw [Array.getElem?_extract] at hu
    split at hu
    ·exact hc (o+j) v u hv hu
    ·cases hu
  ·cases h
 ·rename_i hagg
  obtain ⟨v',h1,h2⟩:=A5 h
  simp at h2; subst h2
  have ho:o<us.size:=by rw [hs]; exact (List.getElem?_eq_some_iff.1 h1).1
  exact ⟨us[o],by simp [part,CQ hagg,ho],hc o v' _ h1 (by simp [ho])⟩
 ·cases h

theorem IL {bl:Nat->Option Blk} {t e:TypeId} {x v:V} {ux:Value} {k:IntKind} {n:Int} (hm:Mem w R μ bl) (hu:P.underlying t=some (.slice e)) (hx:VRep w R μ x ux) (h:Dl P bl e x n some=some v) :
  ∃ u,(Instr.indexAt t ux (.int k n)).run P w = .ok u w/\VRep w R μ v u:=by
 unfold Dl at h
 split at h
 ·rename_i id lo m
  split at h
  ·rename_i ro nl c l hb
   obtain ⟨h1,h⟩:=Ac h
   obtain ⟨h2,h⟩:=Ac h
   obtain ⟨i,hi,hsz⟩:=Bq h1
   simp at h h2; subst h
   obtain ⟨rb,hmu,hrep⟩:=hm.blk id _ hb
   cases hx with
   | vac _ ao hr=>omega
   | ref _ _ _ b off kk cap len A hr h0 h3 h4 h5=>
   rw [hmu] at hr; simp at hr; subst hr
   cases hrep with
   | row _ _ _ _ _ _ _ _ _ us e' hk=>
   subst hk
   refine ⟨.pointer (some ⟨b,off+((lo+n.toNat)*c.size+0),none⟩),?_,.el _ _ _ _ _ _ _ _ hmu⟩
   have h6:(0:Int)<=n/\n<(m:Int):=h2
   rcases h5 with h5 | rfl
   ·omega
   ·simp [Instr.indexAt,asIntOf,run_underlying hu,h6,Ca hi,AL,<-hsz,add_mul,add_assoc]
  ·rename_i c l op hb
   obtain ⟨h1,h⟩:=Ac h
   obtain ⟨h2,h⟩:=Ac h
   obtain ⟨i,hi,hsz⟩:=Bq h1
   simp at h h2; subst h
   obtain ⟨rb,hmu,hrep⟩:=hm.blk id _ hb
   cases hx with
   | vac _ ao hr=>omega
   | ref _ _ _ b off kk cap len A hr h0 h3 h4 h5=>
   rw [hmu] at hr; simp at hr; subst hr
   cases hrep with
   | drow _ _ _ _ _ _ _ _ us e' hk=>
   subst hk
   refine ⟨.pointer (some ⟨b,off+((lo+n.toNat)*c.size+0),none⟩),?_,.el _ _ _ _ _ _ _ _ hmu⟩
   have h6:(0:Int)<=n/\n<(m:Int):=h2
   rcases h5 with h5 | rfl
   ·omega
   ·simp [Instr.indexAt,asIntOf,run_underlying hu,h6,Ca hi,AL,<-hsz,add_mul,add_assoc]
  ·cases h
 ·rename_i c l
  obtain ⟨h1,h⟩:=Ac h
  obtain ⟨h2,h⟩:=Ac h
  obtain ⟨i,hi,hsz⟩:=Bq h1
  simp at h h2; subst h
  cases hx with
  | sl _ _ ao cap U g1 g2 g3 g4=>
  rcases g3 with g3 | ⟨b,off,rfl,hR,hcell⟩
  ·omega
  ·refine ⟨.pointer (some ⟨b,off+(n.toNat*c.size+0),none⟩),?_,.rp c l _ _ _ _ U hR hcell g4⟩
   have h6:(0:Int)<=n/\n<(l.length:Int):=h2
   simp [Instr.indexAt,asIntOf,run_underlying hu,h6,Ca hi,AL,<-hsz]
 ·cases h

theorem Gv {s:TypeId} {f off:Nat} {ft:TypeId} {x:V} {ux:Value} (hf:He P s f=some (off,ft)) (hsz:szT P ft≠0) (hx:VRep w R μ x ux) :
  (∀ id o,x = .ptr id o->∃ u,(Instr.fieldAt s ux f).run P w = .ok u w/\VRep w R μ (.ptr id (o+off)) u)/\
  (∀ id i o,x = .el id i o->∃ u,(Instr.fieldAt s ux f).run P w = .ok u w/\VRep w R μ (.el id i (o+off)) u)/\
  (∀ c l i o,x = .rp c l i o->∃ u,(Instr.fieldAt s ux f).run P w = .ok u w/\VRep w R μ (.rp c l i (o+off)) u)/\
  (∀ cs o,x = .bx cs o->∃ u,(Instr.fieldAt s ux f).run P w = .ok u w/\VRep w R μ (.bx cs (o+off)) u)/\
  (∀ c z o,x = .tp c z o->∃ u,(Instr.fieldAt s ux f).run P w = .ok u w/\VRep w R μ (.tp c z (o+off)) u):=by
 unfold He at hf
 split at hf
 ·rename_i fs hu
  split at hf
  ·rename_i g hg
   simp at hf; obtain ⟨rfl,rfl⟩:=hf
   obtain ⟨i,hi⟩ : ∃ i,P.info? g.type=some i:=by
    unfold szT Program.cellsOf at hsz
    cases hi:P.info? g.type with
    | none=>rw [hi] at hsz; simp at hsz
    | some i=>exact ⟨i,rfl⟩
   have run : ∀ a:Addr,(Instr.fieldAt s (.pointer (some a)) f).run P w = .ok (.pointer (some (a.add g.offset))) w:=fun a=>by
    have hg':fs[f]? = some g:=by simpa using hg
    simp [Instr.fieldAt,run_underlying hu,hg',Instr.sureAddr,fieldPlace,Ca hi,hsz]
   refine ⟨fun id o e=>?_,fun id i' o e=>?_,fun c l i' o e=>?_,fun cs o e=>?_,fun c z o e=>?_⟩
   ·subst e; cases hx with
    | ptr _ _ b h=>exact ⟨_,run _,by rw [AL]; exact .ptr _ _ _ h⟩
   ·subst e; cases hx with
    | el _ _ _ b off k cap len h=>exact ⟨_,run _,by rw [AL,add_assoc,add_assoc]; exact .el _ _ _ _ _ _ _ _ h⟩
   ·subst e; cases hx with
    | rp _ _ _ _ b off U h1 h3 h4=>exact ⟨_,run _,by rw [AL,add_assoc,add_assoc]; exact .rp _ _ _ _ _ _ U h1 h3 h4⟩
   ·subst e; cases hx with
    | bx _ _ b U h1 hp h3 h4=>exact ⟨_,run _,by rw [AL]; exact .bx _ _ _ U h1 hp h3 h4⟩
   ·subst e; cases hx with
    | tp _ _ _ b U h1 h3 h4=>exact ⟨_,run _,by rw [AL]; exact .tp _ _ _ _ U h1 h3 h4⟩
  ·cases hf
 ·cases hf
end
end Go.Proofs.YthbecdipboideaaDoor.Den
/- Values that are closed, cells that are opened, blocks that are frozen. -/
namespace Go.Proofs.YthbecdipboideaaDoor.Den

def Reps (w:World) (R:Nat->Prop) (μ:Nat->Option RB) (vs:List V) (us:List Value):Prop:=
 us.length=vs.length/\∀ (j:Nat) v u,vs[j]? = some v->us[j]? = some u->VRep w R μ v u

section
variable {P:Program} {E:Env} {R:Nat->Prop} {μ:Nat->Option RB} {sl:List V} {bl:Nat->Option Blk} {fr:Nat->Prop} {a:Act} {w:World}

theorem Reps.nil:Reps w R μ [] []:=⟨rfl,by simp⟩
theorem Reps.cons {v:V} {u:Value} {vs:List V} {us:List Value} (h:VRep w R μ v u) (hs:Reps w R μ vs us):Reps w R μ (v::vs) (u::us):=
 ⟨by simp [hs.1],fun j v' u' h1 h2=>by
  cases j with
  | zero=>simp at h1 h2; subst h1 h2; exact h
  | succ j=>simp at h1 h2; exact hs.2 j v' u' h1 h2⟩
theorem Reps.inv {v:V} {vs:List V} {us:List Value} (h:Reps w R μ (v::vs) us) : ∃ u us',us=u::us'/\VRep w R μ v u/\Reps w R μ vs us':=by
 cases us with
 | nil=>have:=h.1; simp at this
 | cons u us'=>exact ⟨u,us',rfl,h.2 0 v u (by simp) (by simp),by have:=h.1; simpa using this,fun j v' u' h1 h2=>h.2 (j+1) v' u' (by simpa using h1) (by simpa using h2)⟩
theorem Reps.nil_inv {us:List Value} (h:Reps w R μ [] us):us=[]:=by have:=h.1; simpa using this
theorem Reps.mono {w':World} {R':Nat->Prop} {μ':Nat->Option RB} {vs:List V} {us:List Value} (h:Reps w R μ vs us) (hw : ∀ b,R b->w'.heap[b]? = w.heap[b]?) (hR : ∀ b,R b->R' b) (hm : ∀ id rb,μ id=some rb->μ' id=some rb):Reps w' R' μ' vs us:=
 ⟨h.1,fun j v u h1 h2=>(h.2 j v u h1 h2).mono hw hR hm⟩
theorem Reps.append {vs vs':List V} {us us':List Value} (h:Reps w R μ vs us) (h':Reps w R μ vs' us'):Reps w R μ (vs++vs') (us++us'):=
 ⟨by simp [h.1,h'.1],fun j v u h1 h2=>by
  rw [List.getElem?_append] at h1 h2
  rw [h.1] at h2
  split at h1
  ·rename_i hj; rw [if_pos hj] at h2; exact h.2 j v u h1 h2
  ·rename_i hj; rw [if_neg hj] at h2; exact h'.2 _ v u h1 h2⟩

theorem VRep.slNil (c:Cd) (ao:Option Addr):VRep w R μ (.sl c ([]:List c.den)) (.slice ao 0 0):=by
 have:=VRep.sl (w:=w) (R:=R) (μ:=μ) c ([]:List c.den) ao 0 (fun _ _=>undef) (by simp) (by decide) (.inl rfl) (by simp)
 simpa using this
theorem Reps.split {vs vs':List V} {us:List Value} (h:Reps w R μ (vs++vs') us) : ∃ us1 us2,us=us1++us2/\Reps w R μ vs us1/\Reps w R μ vs' us2:=by
 refine ⟨us.take vs.length,us.drop vs.length,(List.take_append_drop _ _).symm,⟨?_,?_⟩,⟨?_,?_⟩⟩
 ·have:=h.1; simp at this ⊢; omega
 ·intro j v u h1 h2
  rw [getElem?_take] at h2
  split at h2
  ·exact h.2 j v u (by rw [List.getElem?_append_left (by assumption)]; exact h1) h2
  ·cases h2
 ·have:=h.1; simp at this ⊢; omega
 ·intro j v u h1 h2
  rw [getElem?_drop] at h2
  exact h.2 (vs.length+j) v u (by rw [List.getElem?_append_right (by omega)]; simpa using h1) h2

theorem Lm {c:Cd} {vs:List V} {l:List c.den} {r:List V} {us:List Value} (hr:Reps w R μ vs us) (h:MV c vs=some (l,r)) : ∃ u us2,us=u::us2/\VRep w R μ (.sl c l) u/\Reps w R μ r us2:=by
 unfold MV at h
 split at h
 ·simp at h; obtain ⟨rfl,rfl⟩:=h
  obtain ⟨u,us',rfl,h1,h2⟩:=hr.inv
  cases h1
  exact ⟨_,us',rfl,.slNil c none,h2⟩
 ·split at h
  ·rename_i hc
   subst hc
   simp at h; obtain ⟨rfl,rfl⟩:=h
   obtain ⟨u,us',rfl,h1,h2⟩:=hr.inv
   exact ⟨u,us',rfl,h1,h2⟩
  ·cases h
 ·cases h
theorem Ia : ∀ (c:Cd) (vs:List V) (z:c.den) (r:List V) (us:List Value),Reps w R μ vs us->dec c vs=some (z,r)->∃ us1 us2,us=us1++us2/\us1.length=c.size/\Reps w R μ (enc c z) us1/\Reps w R μ r us2:=by
 intro c
 induction c with
 | int k=>
  intro vs z r us hr h
  simp only [dec] at h
  split at h
  ·rename_i k' n rr
   split at h
   ·rename_i hk
    simp at h; obtain ⟨rfl,rfl⟩:=h
    obtain ⟨u,us',rfl,h1,h2⟩:=hr.inv
    subst hk
    exact ⟨[u],us',rfl,rfl,.cons h1 .nil,h2⟩
   ·cases h
  ·cases h
 | bool=>
  intro vs z r us hr h
  simp only [dec] at h
  split at h
  ·simp at h; obtain ⟨rfl,rfl⟩:=h
   obtain ⟨u,us',rfl,h1,h2⟩:=hr.inv
   exact ⟨[u],us',rfl,rfl,.cons h1 .nil,h2⟩
  ·cases h
 | str=>
  intro vs z r us hr h
  simp only [dec] at h
  split at h
  ·simp at h; obtain ⟨rfl,rfl⟩:=h
   obtain ⟨u,us',rfl,h1,h2⟩:=hr.inv
   exact ⟨[u],us',rfl,rfl,.cons h1 .nil,h2⟩
  ·cases h
 | slice c=>
  intro vs z r us hr h
  simp only [dec] at h
  split at h
  ·simp at h; obtain ⟨rfl,rfl⟩:=h
   obtain ⟨u,us',rfl,h1,h2⟩:=hr.inv
   cases h1
   exact ⟨[.slice none 0 0],us',rfl,rfl,.cons (.slNil c none) .nil,h2⟩
  ·split at h
   ·rename_i hc
    subst hc
    simp at h; obtain ⟨rfl,rfl⟩:=h
    obtain ⟨u,us',rfl,h1,h2⟩:=hr.inv
    exact ⟨[u],us',rfl,rfl,.cons h1 .nil,h2⟩
   ·cases h
  ·cases h
 | unit=>
  intro vs z r us hr h
  simp only [dec] at h
  simp at h; subst h
  exact ⟨[],us,rfl,rfl,.nil,hr⟩
 | pair a b iha ihb=>
  intro vs z r us hr h
  simp only [dec] at h
  split at h
  ·rename_i u r1 h1
   split at h
   ·rename_i v r2 h2
    simp at h; obtain ⟨rfl,rfl⟩:=h
    obtain ⟨us1,us2,rfl,g1,g2,g3⟩:=iha vs u r1 us hr h1
    obtain ⟨us3,us4,rfl,g4,g5,g6⟩:=ihb r1 v r2 us2 g3 h2
    exact ⟨us1++us3,us4,by simp,by simp [g1,g4,Cd.size],g2.append g5,g6⟩
   ·cases h
  ·cases h
 | rose c ih=>
  intro vs z r us hr h
  simp only [dec] at h
  split at h
  ·rename_i u r1 h1
   split at h
   ·rename_i v r2 h2
    simp at h; obtain ⟨rfl,rfl⟩:=h
    obtain ⟨us1,us2,rfl,g1,g2,g3⟩:=ih vs u r1 us hr h1
    obtain ⟨u3,us4,rfl,g5,g6⟩:=Lm g3 h2
    exact ⟨us1++[u3],us4,by simp,by simp [g1,Cd.size],g2.append (.cons g5 .nil),g6⟩
   ·cases h
  ·cases h
 | tree c ih=>
  intro vs z r us hr h
  simp only [dec] at h
  split at h
  ·split at h
   ·rename_i hc
    subst hc
    simp at h; obtain ⟨rfl,rfl⟩:=h
    obtain ⟨u,us',rfl,h1,h2⟩:=hr.inv
    exact ⟨[u],us',rfl,rfl,.cons h1 .nil,h2⟩
   ·cases h
  ·cases h
theorem Ce {c:Cd} {vs:List V} {z:c.den} {us:List Value} (hr:Reps w R μ vs us) (h:Ec c vs=some z):Reps w R μ (enc c z) us:=by
 unfold Ec at h
 split at h
 ·rename_i z' h1
  simp at h; subst h
  obtain ⟨us1,us2,rfl,g1,g2,g3⟩:=Ia c vs z' [] us hr h1
  have:=g3.nil_inv; subst this
  simpa using g2
 ·cases h
theorem Fn {vs:List V} {v:V} {us:List Value} (hr:Reps w R μ vs us) (h:I0 vs=some v) : ∃ (c:Cd) (z:Rose c.den),v = .tp c z 0/\Reps w R μ (IK c z) us:=by
 unfold I0 at h
 split at h
 ·rename_i c l hl
  split at h
  ·rename_i a ha
   simp at h; subst h
   have hne:vs≠[]:=by intro e; subst e; cases hl
   have e:vs=vs.dropLast++[.sl (.tree c) l]:=by
    rw [List.getLast?_eq_some_getLast hne] at hl
    have:=(List.dropLast_concat_getLast hne).symm
    rw [Option.some.inj hl] at this
    exact this
   rw [e] at hr
   obtain ⟨us1,us2,rfl,g1,g2⟩:=hr.split
   exact ⟨c,.node a l,rfl,(Ce g1 ha).append g2⟩
  ·cases h
 ·cases h

theorem VRep.cells {v:V} {u:Value} (h:VRep w R μ v u) (hx:v≠.unk):Reps w R μ v.cells u.cells.toList:=by
 cases h with
 | unk=>exact absurd rfl hx
 | agg cs us h1 h2=>exact ⟨by simp [V.cells,Value.cells,h1],fun j v u hv hu=>h2 j v u (by simpa [V.cells] using hv) (by simpa [Value.cells] using hu)⟩
 | b c=>exact .cons (.b c) .nil
 | ub c=>exact .cons (.ub c) .nil
 | i k n=>exact .cons (.i k n) .nil
 | s l=>exact .cons (.s l) .nil
 | nl=>exact .cons .nl .nil
 | sl c l ao cap U h1 h2 h3 h4=>exact .cons (.sl c l ao cap U h1 h2 h3 h4) .nil
 | vac id ao h=>exact .cons (.vac id ao h) .nil
 | ref id lo n b off k cap len a h h0 h1 h2 h3=>exact .cons (.ref id lo n b off k cap len a h h0 h1 h2 h3) .nil
 | ptr id o b h=>exact .cons (.ptr id o b h) .nil
 | el id i o b off k cap len h=>exact .cons (.el id i o b off k cap len h) .nil
 | rp c l i o b off U h1 h3 h4=>exact .cons (.rp c l i o b off U h1 h3 h4) .nil
 | bx cs o b U h1 hp h3 h4=>exact .cons (.bx cs o b U h1 hp h3 h4) .nil
 | np=>exact .cons .np .nil
 | tp c z o b U h1 h3 h4=>exact .cons (.tp c z o b U h1 h3 h4) .nil
 | mref id b h=>exact .cons (.mref id b h) .nil
 | fn f a c ua uc h1 h2 h3 h4=>exact .cons (.fn f a c ua uc h1 h2 h3 h4) .nil
 | tup cs us h1 h2=>exact .cons (.tup cs us h1 h2) .nil

theorem Bl (bl:Nat->Option Blk) : ∀ (us vs:Upd),Av bl (us++vs)=Av (Av bl us) vs
 | [],vs=>rfl
 | (id,b)::us,vs=>by simp only [List.cons_append,Av]; exact Bl _ us vs
theorem Bw : ∀ (us:Upd) (bl:Nat->Option Blk) (j:Nat),(∀ p∈us,p.1≠j)->Av bl us j=bl j
 | [],bl,j,_=>rfl
 | (id,b)::us,bl,j,h=>by
  simp only [Av]
  rw [Bw us _ j (fun p hp=>h p (by simp [hp])),Aw _ _ (fun e=>h (id,b) (by simp) e.symm)]
theorem Fl : ∀ (l:List (TypeId×V)) (id:Nat),∀ p∈(BO P id l).2,id<=p.1/\p.1<id+l.length
 | [],id=>by simp [BO]
 | (t,v)::l,id=>by
  have ih:=Fl l (id+1)
  have ih' : ∀ p∈(BO P (id+1) l).2,id<=p.1/\p.1<id+((t,v)::l).length:=fun p hp=>by have:=ih p hp; simp; omega
  unfold BO
  dsimp only
  split
  ·split
   ·intro p hp
    rcases mem_cons.1 hp with rfl | hp
    ·simp
    ·exact ih' p hp
   ·exact ih'
  ·exact ih'
theorem Hv {t:TypeId} {cs:List V} {id:Nat} : ∀ p∈(Bm P id t cs).2,id<=p.1/\p.1<id+14:=by
 unfold Bm
 dsimp only
 split
 ·rename_i hb
  simp only [Bool.and_eq_true] at hb
  have e2:=Nat.le_of_ble_eq_true hb.2
  intro p hp
  have:=Fl _ _ p hp
  simp at this
  omega
 ·simp

theorem CZ : ∀ (l:List (TypeId×V)) (us:List Value) (id:Nat) (bl:Nat->Option Blk) (μ:Nat->Option RB) (fr:Nat->Prop),SimAt E R μ sl bl fr a w->(∀ c,c<l.length->fr (id+c))->Reps w R μ (l.map (·.2)) us->
  ∃ μ',SimAt E R μ' sl (Av bl (BO P id l).2) (fun j=>fr j/\(j<id\/id+l.length<=j)) a w/\Reps w R μ' (BO P id l).1 us/\∀ j r,μ j=some r->μ' j=some r
 | [],us,id,bl,μ,fr,h,hf,hr=>⟨μ,h.fr_mono (fun _ h=>h.1),hr,fun _ _ h=>h⟩
 | (t,v)::l,us,id,bl,μ,fr,h,hf,hr=>by
  obtain ⟨u,us',rfl,hv,hr'⟩:=hr.inv
  have hlen : ∀ c,c<l.length->fr (id+1+c):=fun c hc=>by have:=hf (c+1) (by simp; omega); rwa [show id+1+c=id+(c+1) by omega]
  -- where the head stays as it is
  have stay : ∃ μ',SimAt E R μ' sl (Av bl (BO P (id+1) l).2) (fun j=>fr j/\(j<id\/id+((t,v)::l).length<=j)) a w/\Reps w R μ' (v::(BO P (id+1) l).1) (u::us')/\∀ j r,μ j=some r->μ' j=some r:=by
   obtain ⟨μ',h1,h2,h3⟩:=CZ l us' (id+1) bl μ fr h hlen hr'
   exact ⟨μ',h1.fr_mono (fun j hj=>⟨hj.1,by have:=hj.2; simp at this; omega⟩),.cons (hv.mono (fun _ _=>rfl) (fun _ h=>h) h3) h2,h3⟩
  unfold BO
  dsimp only
  split
  ·split
   ·rename_i c hc
    cases hv
    have g:=h.newVacB (id:=id) (hf 0 (by simp)) none (match c.own with | true=>.drow c [] none | false=>.row false (some true) c []) (by cases c.own with | true=>exact .dvac none c | false=>exact .vac none false (some true) c)
    obtain ⟨μ',h1,h2,h3⟩:=CZ l us' (id+1) _ _ _ g (fun c hc=>⟨hlen c hc,by omega⟩) (hr'.mono (fun _ _=>rfl) (fun _ h=>h) (C0 (h.free id (hf 0 (by simp))) _))
    refine ⟨μ',h1.fr_mono (fun j hj=>⟨⟨hj.1,by have:=hj.2; simp at this; omega⟩,by have:=hj.2; simp at this; omega⟩),.cons (.vac id none (h3 _ _ (Am _ _ _))) h2,fun j r hj=>h3 j r (C0 (h.free id (hf 0 (by simp))) _ j r hj)⟩
   ·exact stay
  ·exact stay

theorem BI {t:TypeId} {cs:List V} {us:List Value} {id:Nat} (h:SimAt E R μ sl bl fr a w) (hf : ∀ c,c<14->fr (id+c)) (hr:Reps w R μ cs us) :
  ∃ μ',SimAt E R μ' sl (Av bl (Bm P id t cs).2) (fun j=>fr j/\(j<id\/id+14<=j)) a w/\Reps w R μ' (Bm P id t cs).1 us/\∀ j r,μ j=some r->μ' j=some r:=by
 unfold Bm
 dsimp only
 split
 ·rename_i hb
  simp only [Bool.and_eq_true] at hb
  have e1:=Nat.eq_of_beq_eq_true hb.1
  have e2:=Nat.le_of_ble_eq_true hb.2
  obtain ⟨μ',h1,h2,h3⟩:=CZ (P:=P) ((IP P 6 t).zip cs) us id bl μ fr h (fun c hc=>hf c (by simp at hc; omega)) (by
   rw [List.map_snd_zip (by omega)]; exact hr)
  exact ⟨μ',h1.fr_mono (fun j hj=>⟨hj.1,by have:=hj.2; simp at this ⊢; omega⟩),h2,h3⟩
 ·exact ⟨μ,h.fr_mono (fun _ h=>h.1),hr,fun _ _ h=>h⟩

theorem Cb {R':Nat->Prop} {Q:Nat->Prop} {f:V->Option (V×List Nat)} (hf : ∀ v v' ids u,VRep w R μ v u->f v=some (v',ids)->(∀ id∈ids,Q id)->VRep w R' μ v' u) :
  ∀ (vs vs':List V) (ids:List Nat) (us:List Value),Reps w R μ vs us->C7 f vs=some (vs',ids)->(∀ id∈ids,Q id)->Reps w R' μ vs' us
 | [],vs',ids,us,hr,h,_=>by simp [C7] at h; obtain ⟨rfl,rfl⟩:=h; have:=hr.nil_inv; subst this; exact .nil
 | v::vs,vs',ids,us,hr,h,hR=>by
  obtain ⟨u,us',rfl,h1,h2⟩:=hr.inv
  unfold C7 at h
  split at h
  ·rename_i v1 a1 hv1
   split at h
   ·rename_i vs1 b1 hvs1
    simp at h; obtain ⟨rfl,rfl⟩:=h
    exact .cons (hf v v1 a1 u h1 hv1 (fun id hi=>hR id (by simp [hi]))) (Cb hf vs vs1 b1 us' h2 hvs1 (fun id hi=>hR id (by simp [hi])))
   ·cases h
  ·cases h
def Gr (w:World) (μ:Nat->Option RB) (bl:Nat->Option Blk) (R':Nat->Prop) (id:Nat):Prop:=∀ B rb x,bl id=some B->μ id=some rb->Foot w rb B x->R' x
theorem CN {R':Nat->Prop} (hm:Mem w R μ bl) (hRR : ∀ b,R b->R' b) : ∀ (d:Nat) (v v':V) (ids:List Nat) (u:Value),VRep w R μ v u->Cx bl d v=some (v',ids)->(∀ id∈ids,Gr w μ bl R' id)->VRep w R' μ v' u
 | 0,v,v',ids,u,_,h,_=>by simp [Cx] at h
 | d+1,v,v',ids,u,hv,h,hR=>by
  have same : ∀ v'',some (v'',([]:List Nat))=some (v',ids)->VRep w R μ v'' u->VRep w R' μ v' u:=fun v'' e hq=>by
   simp at e; obtain ⟨rfl,rfl⟩:=e; exact hq.mono (fun _ _=>rfl) hRR (fun _ _ h=>h)
  unfold Cx at h
  split at h
  ·rename_i id lo n
   split at h
   ·rename_i ro nl c l hb
    simp at h; obtain ⟨rfl,rfl⟩:=h
    obtain ⟨rb,hmu,hrep⟩:=hm.blk id _ hb
    cases hv with
    | vac _ ao hr=>
     have:=VRep.sl (w:=w) (R:=R') (μ:=μ) c ([]:List c.den) ao 0 (fun _ _=>undef) (by simp) (by decide) (.inl rfl) (by simp)
     simpa using this
    | ref _ _ _ b off k cap len A hr h0 h3 h4 h5=>
     rw [hmu] at hr; simp at hr; subst hr
     cases hrep with
     | row _ _ _ _ _ _ _ _ _ us e hk hh h1 h2 h6 h7=>
     subst hk
     have hlen:((l.drop lo).take n).length=n:=by rw [length_take,List.length_drop]; omega
     have:=VRep.sl (w:=w) (R:=R') (μ:=μ) c ((l.drop lo).take n) (some A) (cap-lo) (fun i j=>us[off+((lo+i)*c.size+j)]?.getD undef) (by rw [hlen]; omega) (by omega) ?_ ?_
     ·rw [hlen] at this; exact this
     ·by_cases hz:n=0
      ·left; rw [hlen]; exact hz
      ·right
       rcases h5 with h5 | rfl
       ·omega
       ·refine ⟨b,off+lo*c.size,rfl,hR id (by simp) _ _ b hb hmu rfl,fun i z j v hz' hv=>?_⟩
        obtain ⟨hz2,_⟩:=Bk hz'
        obtain ⟨u,hu,_⟩:=h7 (lo+i) z j v hz2 hv
        rw [cell_of_row w b _ us e (0,0) hh,show off+lo*c.size+(i*c.size+j)=off+((lo+i)*c.size+j) by rw [add_mul]; omega,hu]; rfl
     ·intro i z j v hz' hv
      obtain ⟨hz2,_⟩:=Bk hz'
      obtain ⟨u,hu,hr⟩:=h7 (lo+i) z j v hz2 hv
      rw [hu]; exact hr.mono (fun _ _=>rfl) hRR (fun _ _ h=>h)
   ·cases h
  ·rename_i cs
   split at h
   ·rename_i l ids hl
    simp at h; obtain ⟨rfl,rfl⟩:=h
    cases hv with
    | agg _ us h1 h2=>
    have:=Cb (w:=w) (R:=R) (R':=R') (μ:=μ) (fun v v' ids u hv hf hi=>CN hm hRR d v v' ids u hv hf hi) cs l ids us.toList ⟨by simp [h1],fun j v u hv hu=>h2 j v u hv (by simpa using hu)⟩ hl hR
    exact .agg l us (by have:=this.1; simpa using this) (fun j v u hv hu=>this.2 j v u hv (by simpa using hu))
   ·cases h
  ·rename_i id
   split at h
   ·rename_i cs hb
    split at h
    ·rename_i l ids' hl
     split at h
     ·rename_i v2 hn
      simp at h; obtain ⟨rfl,rfl⟩:=h
      obtain ⟨rb,hmu,hrep⟩:=hm.blk id _ hb
      cases hv with
      | ptr _ _ b hr=>
      rw [hmu] at hr; simp at hr; subst hr
      cases hrep with
      | box _ _ us e hh h1 h2=>
      have g:=Cb (w:=w) (R:=R) (R':=R') (μ:=μ) (fun v v' ids u hv hf hi=>CN hm hRR d v v' ids u hv hf hi) cs l ids' us.toList ⟨by simp [h1],fun j v u hv hu=>h2 j v u hv (by simpa using hu)⟩ hl (fun i hi=>hR i (by simp [hi]))
      obtain ⟨c,z,rfl,g2⟩:=Fn g hn
      refine .tp c z 0 b (fun j=>us[j]!) (hR id (by simp) _ _ b hb hmu rfl) (fun j v hv=>?_) (fun j v hv=>?_)
      ·have hj:j<us.size:=by have:=(List.getElem?_eq_some_iff.1 hv).1; rw [<-g2.1] at this; simpa using this
       rw [cell_of_row w b j us e (0,0) hh]; simp [hj]
      ·have hj:j<us.size:=by have:=(List.getElem?_eq_some_iff.1 hv).1; rw [<-g2.1] at this; simpa using this
       exact g2.2 j v _ hv (by simp [hj])
     ·exact same _ h hv
    ·exact same _ h hv
   ·exact same _ h hv
  ·exact same _ h hv

theorem CK (blr:Nat->Option Blk) : ∀ (ids:List Nat) (R:Nat->Prop) (bl:Nat->Option Blk),SimAt E R μ sl bl fr a w->(∀ id ro nl c l,id∈ids->blr id=some (.row ro nl c l)->∃ ro',bl id=some (.row ro' nl c l))->
  (∀ id cs,id∈ids->blr id=some (.box cs)->bl id=some (.box cs)\/∀ rb x,μ id=some rb->rb.real=some x->R x)->
  (∀ id c l op,id∈ids->blr id=some (.drow c l op)->op=none/\(bl id=some (.drow c l none)\/bl id=some (.row true none c l)/\∀ rb x,μ id=some rb->Foot w rb (.drow c l none) x->R x))->
  ∃ R',SimAt E R' μ sl (Av bl (AP blr ids)) fr a w/\(∀ x,R x->R' x)/\∀ id∈ids,(∀ kc vc l,blr id≠some (.mp kc vc l))->Gr w μ blr R' id
 | [],R,bl,h,_,_,_=>⟨R,h,fun _ h=>h,by simp⟩
 | id::ids,R,bl,h,hb,hbx,hbd=>by
  have skip:AP blr (id::ids)=AP blr ids->(∀ B,blr id=some B->∃ kc vc l,B = .mp kc vc l)->∃ R',SimAt E R' μ sl (Av bl (AP blr (id::ids))) fr a w/\(∀ x,R x->R' x)/\∀ id'∈id::ids,(∀ kc vc l,blr id'≠some (.mp kc vc l))->Gr w μ blr R' id':=fun e hno=>by
   rw [e]
   obtain ⟨R',h1,h2,h3⟩:=CK blr ids R bl h (fun j ro nl c l hj=>hb j ro nl c l (by simp [hj])) (fun j cs hj=>hbx j cs (by simp [hj])) (fun j c l op hj=>hbd j c l op (by simp [hj]))
   refine ⟨R',h1,h2,fun j hj he=>?_⟩
   rcases mem_cons.1 hj with rfl | hj
   ·intro B rb x e1
    obtain ⟨kc,vc,l,e2⟩:=hno B e1
    exact absurd (e1.trans (by rw [e2])) (he kc vc l)
   ·exact h3 j hj he
  -- the rest, once this one is done
  have rest : ∀ (R1:Nat->Prop) (B1:Option Blk),SimAt E R1 μ sl (Au bl id B1) fr a w->(∀ x,R x->R1 x)->Gr w μ blr R1 id->AP blr (id::ids)=(id,B1)::AP blr ids->
    (∀ ro nl c l,blr id=some (.row ro nl c l)->∃ ro',B1=some (.row ro' nl c l))->(∀ c l op,blr id=some (.drow c l op)->op=none/\B1=some (.row true none c l))->
    ∃ R',SimAt E R' μ sl (Av bl (AP blr (id::ids))) fr a w/\(∀ x,R x->R' x)/\∀ id'∈id::ids,(∀ kc vc l,blr id'≠some (.mp kc vc l))->Gr w μ blr R' id':=fun R1 B1 g hR1 hH e hr hd=>by
   rw [e]
   obtain ⟨R',h1,h2,h3⟩:=CK blr ids R1 (Au bl id B1) g (fun j ro nl c l hj hj2=>by
    by_cases ej:j=id
    ·subst ej; rw [Ah]; exact hr ro nl c l hj2
    ·rw [Aw _ _ ej]; exact hb j ro nl c l (by simp [hj]) hj2) (fun j cs hj hj2=>by
    by_cases ej:j=id
    ·subst ej
     right
     intro rb x m1 r1
     exact hH _ rb x hj2 m1 r1
    ·rcases hbx j cs (by simp [hj]) hj2 with k | k
     ·left; rw [Aw _ _ ej]; exact k
     ·right; exact fun rb x m1 r1=>hR1 x (k rb x m1 r1)) (fun j c l op hj hj2=>by
    by_cases ej:j=id
    ·subst ej
     obtain ⟨e1,e2⟩:=hd c l op hj2
     subst e1
     exact ⟨rfl,.inr ⟨by rw [Ah,e2],fun rb x m1 r1=>hH _ rb x hj2 m1 r1⟩⟩
    ·obtain ⟨e1,k⟩:=hbd j c l op (by simp [hj]) hj2
     refine ⟨e1,?_⟩
     rw [Aw _ _ ej]
     rcases k with k | ⟨k1,k2⟩
     ·exact .inl k
     ·exact .inr ⟨k1,fun rb x m1 r1=>hR1 x (k2 rb x m1 r1)⟩)
   refine ⟨R',h1,fun x hx=>h2 x (hR1 x hx),fun j hj he=>?_⟩
   by_cases ej:j=id
   ·subst ej; exact fun B rb x k1 k2 k3=>h2 x (hH B rb x k1 k2 k3)
   ·rcases mem_cons.1 hj with rfl | hj
    ·exact absurd rfl ej
    ·exact h3 j hj he
  cases hB:blr id with
  | none=>exact skip (by simp only [AP,filterMap_cons]; rw [hB]) (fun B e=>by rw [hB] at e; cases e)
  | some B=>
   cases B with
   | mp kc vc l=>exact skip (by simp only [AP,filterMap_cons]; rw [hB]) (fun B e=>by rw [hB] at e; cases e; exact ⟨kc,vc,l,rfl⟩)
   | box cs=>
    have e:AP blr (id::ids)=(id,none)::AP blr ids:=by simp only [AP,filterMap_cons]; rw [hB]
    rcases hbx id cs (by simp) hB with hb' | hr
    ·obtain ⟨rb,hmu,hrep⟩:=h.mem.blk id _ hb'
     cases hrep with
     | box b _ us e2 hh q1 q2=>
     exact rest _ none (h.freezeBox hb' hmu) (fun x hx=>.inl hx) (fun B rb x k1 k2 k3=>by
      rw [hB] at k1; cases k1
      rw [hmu] at k2; simp at k2; subst k2; simp [Foot,RB.real] at k3; exact .inr k3.symm) e (fun ro nl c l k=>by rw [hB] at k; cases k) (fun c l op k=>by rw [hB] at k; cases k)
    ·exact rest R none (h.kill id) (fun x hx=>hx) (fun B rb x k1 k2 k3=>by rw [hB] at k1; cases k1; exact hr rb x k2 k3) e (fun ro nl c l k=>by rw [hB] at k; cases k) (fun c l op k=>by rw [hB] at k; cases k)
   | row ro nl c l=>
    obtain ⟨ro',hb'⟩:=hb id ro nl c l (by simp) hB
    obtain ⟨rb,hmu,_⟩:=h.mem.blk id _ hb'
    have e:AP blr (id::ids)=(id,some (.row true nl c l))::AP blr ids:=by simp only [AP,filterMap_cons]; rw [hB]
    exact rest _ _ (h.freeze hb' hmu) (fun x hx=>.inl hx) (fun B rb x k1 k2 k3=>by
     rw [hB] at k1; cases k1
     rw [hmu] at k2; simp at k2; subst k2; exact .inr k3) e (fun ro2 nl2 c2 l2 k=>by rw [hB] at k; simp at k; obtain ⟨rfl,rfl,rfl,h⟩:=k; cases h; exact ⟨true,rfl⟩) (fun c l op k=>by rw [hB] at k; cases k)
   | drow c l op=>
    obtain ⟨rfl,hb'⟩:=hbd id c l op (by simp) hB
    have e:AP blr (id::ids)=(id,some (.row true none c l))::AP blr ids:=by simp only [AP,filterMap_cons]; rw [hB]
    rcases hb' with hb' | ⟨hb',hR2⟩
    ·obtain ⟨rb,hmu,_⟩:=h.mem.blk id _ hb'
     exact rest _ _ (h.freezeD hb' hmu) (fun x hx=>.inl hx) (fun B rb x k1 k2 k3=>by
      rw [hB] at k1; cases k1
      rw [hmu] at k2; simp at k2; subst k2; exact .inr k3) e (fun ro2 nl2 c2 l2 k=>by rw [hB] at k; cases k) (fun c2 l2 op2 k=>by rw [hB] at k; simp at k; obtain ⟨rfl,h,rfl⟩:=k; cases h; exact ⟨rfl,rfl⟩)
    ·have e2:Au bl id (some (.row true none c l))=bl:=by
      funext j
      by_cases ej:j=id
      ·subst ej; rw [Ah,hb']
      ·rw [Aw _ _ ej]
     exact rest R _ (by rw [e2]; exact h) (fun x hx=>hx) (fun B rb x k1 k2 k3=>by
      rw [hB] at k1; cases k1; exact hR2 rb x k2 k3) e (fun ro2 nl2 c2 l2 k=>by rw [hB] at k; cases k) (fun c2 l2 op2 k=>by rw [hB] at k; simp at k; obtain ⟨rfl,h,rfl⟩:=k; cases h; exact ⟨rfl,rfl⟩)

theorem Mem.sub {blr:Nat->Option Blk} (h:Mem w R μ bl) (hs : ∀ id B,blr id=some B->bl id=some B):Mem w R μ blr:=
 ⟨fun id B hB=>h.blk id B (hs id B hB),fun id id' B B' rb rb' x h1 h2=>h.inj id id' B B' rb rb' x (hs _ _ h1) (hs _ _ h2),fun id B rb x h1=>h.sep id B rb x (hs _ _ h1),h.rlt⟩
end
end Go.Proofs.YthbecdipboideaaDoor.Den
/- Elements in memory; stores; what is made. -/
namespace Go.Proofs.YthbecdipboideaaDoor.Den

theorem A8 : ∀ (c:Cd) (z:c.den),(enc c z).length=c.size
 | .int _,_=>rfl
 | .bool,_=>rfl
 | .str,_=>rfl
 | .slice _,_=>rfl
 | .unit,_=>rfl
 | .pair a b,z=>by simp [enc,Cd.size,A8 a z.1,A8 b z.2]
 | .rose c,z=>by simp [enc,Cd.size,A8 c z.lab]
 | .tree _,_=>rfl
theorem Dc : ∀ (c:Cd) (z:c.den) (v:V),v∈enc c z->v.single=true
 | .int _,_,v,h=>by simp [enc] at h; subst h; rfl
 | .bool,_,v,h=>by simp [enc] at h; subst h; rfl
 | .str,_,v,h=>by simp [enc] at h; subst h; rfl
 | .slice _,_,v,h=>by simp [enc] at h; subst h; rfl
 | .unit,_,v,h=>by simp [enc] at h
 | .pair a b,z,v,h=>by
  simp only [enc,List.mem_append] at h
  rcases h with h | h
  ·exact Dc a z.1 v h
  ·exact Dc b z.2 v h
 | .rose c,z,v,h=>by
  simp only [enc,List.mem_append,List.mem_singleton] at h
  rcases h with h | h
  ·exact Dc c z.lab v h
  ·subst h; rfl
 | .tree _,_,v,h=>by simp [enc] at h; subst h; rfl

section
variable {P:Program} {E:Env} {R:Nat->Prop} {μ:Nat->Option RB} {sl:List V} {bl:Nat->Option Blk} {fr:Nat->Prop} {a:Act} {w:World}

theorem VRep.one {v:V} {u:Value} (h:VRep w R μ v u) (hs:v.single=true):u.oneCell'=true:=by
 cases h<;>first | rfl | (simp [V.single] at hs)
theorem Reps.one {vs:List V} {us:List Value} (h:Reps w R μ vs us) (hs:vs.all V.single=true) : ∀ u∈us,u.oneCell'=true:=by
 intro u hu
 obtain ⟨j,hj,rfl⟩:=List.getElem_of_mem hu
 have hj':j<vs.length:=by rw [<-h.1]; exact hj
 exact (h.2 j vs[j] us[j] (by simp [hj']) (by simp [hj])).one (List.all_eq_true.1 hs _ (List.getElem_mem hj'))

def RAt (w:World) (R:Nat->Prop) (μ:Nat->Option RB) (f:Nat->Option Value) (c:Cd) (l:List c.den):Prop:=
 ∀ i z j v,l[i]? = some z->(enc c z)[j]? = some v->∃ u,f (i*c.size+j)=some u/\VRep w R μ v u
theorem RAt.all {f:Nat->Option Value} {c:Cd} {l:List c.den} (h:RAt w R μ f c l) {m:Nat} (hm:m<l.length*c.size) : ∃ u,f m=some u/\u.oneCell'=true:=by
 have hc:0<c.size:=by rcases Nat.eq_zero_or_pos c.size with e | e; simp [e] at hm; exact e
 have hi:m / c.size<l.length:=by rwa [Nat.div_lt_iff_lt_mul hc]
 have hj:m % c.size<(enc c l[m / c.size]).length:=by rw [A8]; exact Nat.mod_lt _ hc
 obtain ⟨u,h1,h2⟩:=h (m / c.size) l[m / c.size] (m % c.size) _ (by simp [hi]) (List.getElem?_eq_getElem hj)
 refine ⟨u,?_,h2.one (Dc _ _ _ (List.getElem_mem hj))⟩
 rwa [Nat.mul_comm,Nat.div_add_mod] at h1
theorem RAt.mono {w':World} {R':Nat->Prop} {μ':Nat->Option RB} {f g:Nat->Option Value} {c:Cd} {l:List c.den} (h:RAt w R μ f c l) (hf : ∀ m u,m<l.length*c.size->f m=some u->g m=some u) (hw : ∀ b,R b->w'.heap[b]? = w.heap[b]?) (hR : ∀ b,R b->R' b) (hm : ∀ id rb,μ id=some rb->μ' id=some rb):RAt w' R' μ' g c l:=by
 intro i z j v hz hv
 obtain ⟨u,h1,h2⟩:=h i z j v hz hv
 refine ⟨u,hf _ _ ?_ h1,h2.mono hw hR hm⟩
 have hi:i<l.length:=(List.getElem?_eq_some_iff.1 hz).1
 have hj:j<c.size:=by have:=(List.getElem?_eq_some_iff.1 hv).1; rwa [A8] at this
 have:(i+1)*c.size<=l.length*c.size:=Nat.mul_le_mul_right _ hi
 rw [add_mul] at this; omega
theorem RAt.sub {f:Nat->Option Value} {c:Cd} {l:List c.den} (h:RAt w R μ f c l) (lo n:Nat):RAt w R μ (fun m=>f (lo*c.size+m)) c ((l.drop lo).take n):=by
 intro i z j v hz hv
 obtain ⟨hz2,_⟩:=Bk hz
 obtain ⟨u,h1,h2⟩:=h (lo+i) z j v hz2 hv
 exact ⟨u,by dsimp only; rw [show lo*c.size+(i*c.size+j)=(lo+i)*c.size+j by rw [add_mul]; omega]; exact h1,h2⟩
theorem RAt.append {f g h:Nat->Option Value} {c:Cd} {l l':List c.den} (hf:RAt w R μ f c l) (hg:RAt w R μ g c l') (h1 : ∀ m u,m<l.length*c.size->f m=some u->h m=some u) (h2 : ∀ m u,m<l'.length*c.size->g m=some u->h (l.length*c.size+m)=some u):RAt w R μ h c (l++l'):=by
 intro i z j v hz hv
 have hj:j<c.size:=by have:=(List.getElem?_eq_some_iff.1 hv).1; rwa [A8] at this
 rw [List.getElem?_append] at hz
 split at hz
 ·rename_i hi
  obtain ⟨u,h3,h4⟩:=hf i z j v hz hv
  refine ⟨u,h1 _ _ ?_ h3,h4⟩
  have:(i+1)*c.size<=l.length*c.size:=Nat.mul_le_mul_right _ hi
  rw [add_mul] at this; omega
 ·rename_i hi
  obtain ⟨u,h3,h4⟩:=hg (i-l.length) z j v hz hv
  have hil:i-l.length<l'.length:=(List.getElem?_eq_some_iff.1 hz).1
  refine ⟨u,?_,h4⟩
  have:(i-l.length+1)*c.size<=l'.length*c.size:=Nat.mul_le_mul_right _ hil
  have e:i*c.size=l.length*c.size+(i-l.length)*c.size:=by rw [<-add_mul]; congr 1; omega
  rw [add_mul] at this
  have:=h2 ((i-l.length)*c.size+j) u (by omega) h3
  rwa [e,add_assoc]
theorem RAt.nil (f:Nat->Option Value) (c:Cd):RAt w R μ f c []:=by intro i z j v hz; simp at hz
theorem RAt.list {f:Nat->Option Value} {c:Cd} {l:List c.den} (h:RAt w R μ f c l) : ∃ nc:List Value,nc.length=l.length*c.size/\(∀ m,m<nc.length->f m=nc[m]?)/\RAt w R μ (fun m=>nc[m]?) c l/\∀ u∈nc,u.oneCell'=true:=by
 refine ⟨(range (l.length*c.size)).map fun m=>(f m).getD undef,by simp,?_,?_,?_⟩
 ·intro m hm
  simp at hm
  obtain ⟨u,hu,_⟩:=h.all hm
  simp [hm,hu]
 ·intro i z j v hz hv
  obtain ⟨u,h1,h2⟩:=h i z j v hz hv
  refine ⟨u,?_,h2⟩
  have hi:i<l.length:=(List.getElem?_eq_some_iff.1 hz).1
  have hj:j<c.size:=by have:=(List.getElem?_eq_some_iff.1 hv).1; rwa [A8] at this
  have:(i+1)*c.size<=l.length*c.size:=Nat.mul_le_mul_right _ hi
  rw [add_mul] at this
  have hlt:i*c.size+j<l.length*c.size:=by omega
  simp [hlt,h1]
 ·intro u hu
  simp only [List.mem_map,List.mem_range] at hu
  obtain ⟨m,hm,rfl⟩:=hu
  obtain ⟨u,h1,h2⟩:=h.all hm
  rw [h1]; exact h2

theorem SimAt.move2 (h:SimAt E R μ sl bl fr a w) {id id' id2 x:Nat} {B B' B2:Blk} {rb rb' rb2:RB} {w':World} (hb:bl id=some B) (ho:B.own=true) (hm:μ id=some rb) (hx:rb.real=some x) (hf:fr id') (hx':rb'.real=some x)
  (hb2:bl id2=some B2) (ho2:B2.own=true) (hm2:μ id2=some rb2)
  (hs:w'.heap.size=w.heap.size) (hk : ∀ k,k≠x->w'.heap[k]? = w.heap[k]?) (hos:w'.os=w.os) (ht:w'.tape=w.tape) (hp:w'.output=w.output) (hB:BRep w' R μ rb' B') (_ho:B'.own=true) (hft : ∀ y,Foot w' rb' B' y->Foot w rb B y\/Foot w rb2 B2 y) :
  SimAt E R (Bg μ id' rb') sl (Au (Au (Au bl id none) id2 none) id' (some B')) (fun j=>fr j/\j≠id') a w':=by
 have hx0:=hx
 have hx:=Foot.main (w:=w) (B:=B) hx
 have hn:=h.free id' hf
 have hx1:=C0 hn rb'
 have hne:id≠id':=fun e=>by subst e; rw [hn] at hm; cases hm
 have hw : ∀ b,R b->w'.heap[b]? = w.heap[b]?:=fun b hR=>hk b (fun e=>by subst e; exact h.mem.sep id B rb b hb ho hm hx hR)
 have old : ∀ j B1,j≠id'->Au (Au (Au bl id none) id2 none) id' (some B') j=some B1->bl j=some B1/\j≠id/\j≠id2:=fun j B1 e h1=>by
  rw [Aw _ _ e] at h1
  by_cases e3:j=id2
  ·subst e3; rw [Ah] at h1; cases h1
  ·rw [Aw _ _ e3] at h1
   by_cases e2:j=id
   ·subst e2; rw [Ah] at h1; cases h1
   ·rw [Aw _ _ e2] at h1; exact ⟨h1,e2,e3⟩
 have oldm : ∀ j r,j≠id'->Bg μ id' rb' j=some r->μ j=some r:=fun j r e h1=>by simpa only [Bg,e,if_false] using h1
 -- whoever owned a place, owned it as one of the two
 have two : ∀ y,(Foot w rb B y\/Foot w rb2 B2 y)->∃ i Bi ri,(i=id\/i=id2)/\bl i=some Bi/\Bi.own=true/\μ i=some ri/\Foot w ri Bi y:=fun y hy=>by
  rcases hy with hy | hy
  ·exact ⟨id,B,rb,.inl rfl,hb,ho,hm,hy⟩
  ·exact ⟨id2,B2,rb2,.inr rfl,hb2,ho2,hm2,hy⟩
 -- no other block lies there
 have apart : ∀ j B1 r y,j≠id'->Au (Au (Au bl id none) id2 none) id' (some B') j=some B1->μ j=some r->Foot w r B1 y->(Foot w rb B y\/Foot w rb2 B2 y)->B1.own=true->False:=fun j B1 r y e h1 m1 r1 e2 o1=>by
  obtain ⟨c1,c2,c3⟩:=old j B1 e h1
  obtain ⟨i,Bi,ri,q1,q2,q3,q4,q5⟩:=two y e2
  have:=h.mem.inj j i B1 Bi r ri y c1 q2 o1 q3 m1 q4 r1 q5
  rcases q1 with q1 | q1
  ·exact c2 (this.trans q1)
  ·exact c3 (this.trans q1)
 have apx : ∀ j B1 r b,j≠id'->Au (Au (Au bl id none) id2 none) id' (some B') j=some B1->μ j=some r->BRep w R μ r B1->Foot w r B1 b->b≠x:=fun j B1 r b e hB1 m1 h2 hb' ebx=>by
  by_cases o1:B1.own=true
  ·exact apart j B1 r b e hB1 m1 hb' (.inl (ebx ▸ hx)) o1
  ·subst ebx
   cases h2 with
   | box b' cs us e' h3=>simp [Blk.own] at o1
   | mp=>simp [Blk.own] at o1
   | dvac=>simp [Blk.own] at o1
   | drow=>simp [Blk.own] at o1
   | vac=>simp [Foot,RB.real] at hb'
   | row b' off k cap len ro nl c l us e' hk' h3 h4 h5 h6 h7 h8=>
    simp [Blk.own] at o1
    simp [Foot,RB.real] at hb'
    subst hb'
    exact h.mem.sep id B rb b' hb ho hm hx (h8 o1)
 have oft : ∀ j B1 r y,j≠id'->Au (Au (Au bl id none) id2 none) id' (some B') j=some B1->μ j=some r->Foot w' r B1 y->Foot w r B1 y:=fun j B1 r y e hB1 m1 f1=>by
  obtain ⟨r',g1,g2⟩:=h.mem.blk j B1 (old j B1 e hB1).1
  rw [m1] at g1; simp at g1; subst g1
  exact (Cl (fun z hz=>hk z (apx j B1 r z e hB1 m1 g2 (Foot.main hz)))).1 f1
 refine { mem:=⟨?_,?_,?_,fun y hy=>by rw [hs]; exact h.mem.rlt y hy⟩,size:=h.size,slot:=fun t v u h1 h2=>(h.slot t v u h1 h2).mono hw (fun _ h=>h) hx1,dfr:=h.dfr,free:=?_,os:=hos.trans h.os,tape:=ht.trans h.tape,output:=hp.trans h.output,grow:=by rw [hs]; exact h.grow,same:=?_,ownT:=?_,allT:=?_,r0:=h.r0,rT:=h.rT,ext:=fun j r hj=>hx1 j r (h.ext j r hj) }
 ·intro j B1 hB1
  by_cases e:j=id'
  ·subst e; rw [Ah] at hB1; simp at hB1; subst hB1; exact ⟨rb',Am _ _ _,hB.mono (fun _ _=>rfl) (fun _ _=>rfl) (fun _ h=>h) hx1⟩
  ·obtain ⟨c1,c2⟩:=old j B1 e hB1
   obtain ⟨r,h1,h2⟩:=h.mem.blk j B1 c1
   exact ⟨r,hx1 j r h1,h2.mono hw (fun b hb'=>hk b (apx j B1 r b e hB1 h1 h2 hb')) (fun _ h=>h) hx1⟩
 ·intro j j' B1 B2 r1 r2 y h1 h2 o1 o2 m1 m2 e1 e2
  by_cases e:j=id'
  ·by_cases e':j'=id'
   ·rw [e,e']
   ·subst e
    rw [Am] at m1; simp at m1; subst m1
    rw [Ah] at h1; simp at h1; subst h1
    exact (apart j' B2 r2 y e' h2 (oldm _ _ e' m2) (oft j' B2 r2 y e' h2 (oldm _ _ e' m2) e2) (hft y e1) o2).elim
  ·by_cases e':j'=id'
   ·subst e'
    rw [Am] at m2; simp at m2; subst m2
    rw [Ah] at h2; simp at h2; subst h2
    exact (apart j B1 r1 y e h1 (oldm _ _ e m1) (oft j B1 r1 y e h1 (oldm _ _ e m1) e1) (hft y e2) o1).elim
   ·exact h.mem.inj j j' B1 B2 r1 r2 y (old _ _ e h1).1 (old _ _ e' h2).1 o1 o2 (oldm _ _ e m1) (oldm _ _ e' m2) (oft j B1 r1 y e h1 (oldm _ _ e m1) e1) (oft j' B2 r2 y e' h2 (oldm _ _ e' m2) e2)
 ·intro j B1 r1 y h1 o1 m1 e1
  by_cases e:j=id'
  ·subst e
   rw [Am] at m1; simp at m1; subst m1
   rw [Ah] at h1; simp at h1; subst h1
   obtain ⟨i,Bi,ri,_,q2,q3,q4,q5⟩:=two y (hft y e1)
   exact h.mem.sep i Bi ri y q2 q3 q4 q5
  ·exact h.mem.sep j B1 r1 y (old _ _ e h1).1 o1 (oldm _ _ e m1) (oft j B1 r1 y e h1 (oldm _ _ e m1) e1)
 ·intro j ⟨hj,hne'⟩
  simp only [Bg,hne',if_false]
  exact h.free j hj
 ·intro k hk' hn'
  have hlt:k≠x:=by
   intro e; subst e
   rcases h.ownT id B rb k hb ho hm hx with h1 | h1
   ·exact hn' h1
   ·omega
  rw [hk k hlt]; exact h.same k hk' hn'
 ·intro j B1 r1 y h1 o1 m1 e1
  by_cases e:j=id'
  ·subst e
   rw [Am] at m1; simp at m1; subst m1
   rw [Ah] at h1; simp at h1; subst h1
   obtain ⟨i,Bi,ri,_,q2,q3,q4,q5⟩:=two y (hft y e1)
   exact h.ownT i Bi ri y q2 q3 q4 q5
  ·exact h.ownT j B1 r1 y (old _ _ e h1).1 o1 (oldm _ _ e m1) (oft j B1 r1 y e h1 (oldm _ _ e m1) e1)
 ·intro j B1 r1 y h1 m1 e1
  by_cases e:j=id'
  ·subst e
   rw [Am] at m1; simp at m1; subst m1
   rw [Ah] at h1; simp at h1; subst h1
   obtain ⟨i,Bi,ri,_,q2,q3,q4,q5⟩:=two y (hft y e1)
   exact h.allT i Bi ri y q2 q4 q5
  ·exact h.allT j B1 r1 y (old _ _ e h1).1 (oldm _ _ e m1) (oft j B1 r1 y e h1 (oldm _ _ e m1) e1)
theorem SimAt.move (h:SimAt E R μ sl bl fr a w) {id id' x:Nat} {B B':Blk} {rb rb':RB} {w':World} (hb:bl id=some B) (ho:B.own=true) (hm:μ id=some rb) (hx:rb.real=some x) (hf:fr id') (hx':rb'.real=some x)
  (hs:w'.heap.size=w.heap.size) (hk : ∀ k,k≠x->w'.heap[k]? = w.heap[k]?) (hos:w'.os=w.os) (ht:w'.tape=w.tape) (hp:w'.output=w.output) (hB:BRep w' R μ rb' B') (ho':B'.own=true) (hft : ∀ y,Foot w' rb' B' y->rb'.real=some y:=by exact fun _ h=>h) :
  SimAt E R (Bg μ id' rb') sl (Au (Au bl id none) id' (some B')) (fun j=>fr j/\j≠id') a w':=by
 have g:=h.move2 hb ho hm hx hf hx' hb ho hm hs hk hos ht hp hB ho' (fun y hy=>.inl (by
  have:=hft y hy
  rw [hx'] at this; simp at this; subst this
  exact Foot.main hx))
 have e:Au (Au bl id none) id none=Au bl id none:=by
  funext j
  by_cases ej:j=id
  ·subst ej; rw [Ah,Ah]
  ·rw [Aw _ _ ej]
 rw [e] at g
 exact g

theorem SimAt.ghost {bl':Nat->Option Blk} {μ':Nat->Option RB} {fr':Nat->Prop} (h:SimAt E R μ sl bl fr a w) (hx : ∀ id rb,μ id=some rb->μ' id=some rb) (hblk : ∀ id B,bl' id=some B->∃ rb,μ' id=some rb/\BRep w R μ' rb B) (hfr : ∀ id,fr' id->μ' id=none)
  (hall : ∀ id B rb x,bl' id=some B->μ' id=some rb->Foot w rb B x->∃ id0 B0 rb0,bl id0=some B0/\(B.own=true->B0.own=true)/\μ id0=some rb0/\Foot w rb0 B0 x)
  (hinj : ∀ id id' B B' rb rb' x,bl' id=some B->bl' id'=some B'->B.own=true->B'.own=true->μ' id=some rb->μ' id'=some rb'->Foot w rb B x->Foot w rb' B' x->id=id'):SimAt E R μ' sl bl' fr' a w:=by
 refine { mem:=⟨hblk,hinj,?_,h.mem.rlt⟩,size:=h.size,slot:=fun t v u h1 h2=>(h.slot t v u h1 h2).mono (fun _ _=>rfl) (fun _ h=>h) hx,dfr:=h.dfr,free:=hfr,os:=h.os,tape:=h.tape,output:=h.output,grow:=h.grow,same:=h.same,ownT:=?_,allT:=?_,r0:=h.r0,rT:=h.rT,ext:=fun j r hj=>hx j r (h.ext j r hj) }
 ·intro id B rb x h1 o1 m1 e1
  obtain ⟨i,Bi,ri,q1,q2,q3,q4⟩:=hall id B rb x h1 m1 e1
  exact h.mem.sep i Bi ri x q1 (q2 o1) q3 q4
 ·intro id B rb x h1 o1 m1 e1
  obtain ⟨i,Bi,ri,q1,q2,q3,q4⟩:=hall id B rb x h1 m1 e1
  exact h.ownT i Bi ri x q1 (q2 o1) q3 q4
 ·intro id B rb x h1 m1 e1
  obtain ⟨i,Bi,ri,q1,q2,q3,q4⟩:=hall id B rb x h1 m1 e1
  exact h.allT i Bi ri x q1 q3 q4
theorem SimAt.split (h:SimAt E R μ sl bl fr a w) {id new:Nat} {B B1 B2:Blk} {rb rb2:RB} (hb:bl id=some B) (ho:B.own=true) (hm:μ id=some rb) (hf:fr new) (hB1:BRep w R (Bg μ new rb2) rb B1) (hB2:BRep w R (Bg μ new rb2) rb2 B2)
  (hf1 : ∀ y,Foot w rb B1 y->Foot w rb B y) (hf2 : ∀ y,Foot w rb2 B2 y->Foot w rb B y) (hdis : ∀ y,Foot w rb B1 y->Foot w rb2 B2 y->False) :
  SimAt E R (Bg μ new rb2) sl (Au (Au bl id (some B1)) new (some B2)) (fun j=>fr j/\j≠new) a w:=by
 have hn:=h.free new hf
 have hx:=C0 hn rb2
 have hne:id≠new:=fun e=>by subst e; rw [hn] at hm; cases hm
 have cases3 : ∀ j Bj rj,Au (Au bl id (some B1)) new (some B2) j=some Bj->Bg μ new rb2 j=some rj->(j=new/\Bj=B2/\rj=rb2)\/(j=id/\Bj=B1/\rj=rb)\/(j≠new/\j≠id/\bl j=some Bj/\μ j=some rj):=fun j Bj rj h1 m1=>by
  by_cases e:j=new
  ·subst e; rw [Ah] at h1; rw [Am] at m1; simp at h1 m1; exact .inl ⟨rfl,h1.symm,m1.symm⟩
  ·rw [Aw _ _ e] at h1
   simp only [Bg,e,if_false] at m1
   by_cases e2:j=id
   ·subst e2; rw [Ah] at h1; rw [hm] at m1; simp at h1 m1; exact .inr (.inl ⟨rfl,h1.symm,m1.symm⟩)
   ·rw [Aw _ _ e2] at h1; exact .inr (.inr ⟨e,e2,h1,m1⟩)
 refine h.ghost hx ?_ ?_ ?_ ?_
 ·intro j Bj h1
  by_cases e:j=new
  ·subst e; rw [Ah] at h1; simp at h1; subst h1; exact ⟨rb2,Am _ _ _,hB2⟩
  ·rw [Aw _ _ e] at h1
   by_cases e2:j=id
   ·subst e2; rw [Ah] at h1; simp at h1; subst h1; exact ⟨rb,hx _ _ hm,hB1⟩
   ·rw [Aw _ _ e2] at h1
    obtain ⟨r,g1,g2⟩:=h.mem.blk j Bj h1
    exact ⟨r,hx _ _ g1,g2.mono (fun _ _=>rfl) (fun _ _=>rfl) (fun _ h=>h) hx⟩
 ·intro j ⟨hj,hne'⟩
  simp only [Bg,hne',if_false]
  exact h.free j hj
 ·intro j Bj rj x h1 m1 f1
  rcases cases3 j Bj rj h1 m1 with ⟨rfl,rfl,rfl⟩ | ⟨rfl,rfl,rfl⟩ | ⟨_,_,q1,q2⟩
  ·exact ⟨id,B,rb,hb,fun _=>ho,hm,hf2 x f1⟩
  ·exact ⟨_,B,_,hb,fun _=>ho,hm,hf1 x f1⟩
  ·exact ⟨j,Bj,rj,q1,fun h=>h,q2,f1⟩
 ·intro j j' Bj Bj' rj rj' x h1 h2 o1 o2 m1 m2 f1 f2
  rcases cases3 j Bj rj h1 m1 with ⟨rfl,rfl,rfl⟩ | ⟨rfl,rfl,rfl⟩ | ⟨n1,n2,q1,q2⟩
  ·rcases cases3 j' Bj' rj' h2 m2 with ⟨rfl,rfl,rfl⟩ | ⟨rfl,rfl,rfl⟩ | ⟨n1,n2,q1,q2⟩
   ·rfl
   ·exact (hdis x f2 f1).elim
   ·exact absurd (h.mem.inj j' id Bj' B rj' rb x q1 hb o2 ho q2 hm f2 (hf2 x f1)) n2
  ·rcases cases3 j' Bj' rj' h2 m2 with ⟨rfl,rfl,rfl⟩ | ⟨rfl,rfl,rfl⟩ | ⟨n1,n2,q1,q2⟩
   ·exact (hdis x f1 f2).elim
   ·rfl
   ·exact absurd (h.mem.inj j' _ Bj' B rj' _ x q1 hb o2 ho q2 hm f2 (hf1 x f1)) n2
  ·rcases cases3 j' Bj' rj' h2 m2 with ⟨rfl,rfl,rfl⟩ | ⟨rfl,rfl,rfl⟩ | ⟨n1',n2',q1',q2'⟩
   ·exact absurd (h.mem.inj j id Bj B rj rb x q1 hb o1 ho q2 hm f1 (hf2 x f2)) n2
   ·exact absurd (h.mem.inj j _ Bj B rj _ x q1 hb o1 ho q2 hm f1 (hf1 x f2)) n2
   ·exact h.mem.inj j j' Bj Bj' rj rj' x q1 q1' o1 o2 q2 q2' f1 f2
theorem SimAt.merge (h:SimAt E R μ sl bl fr a w) {id id2:Nat} {B B1 B2:Blk} {rb rb2:RB} (hb:bl id=some B) (ho:B.own=true) (hm:μ id=some rb) (hb2:bl id2=some B2) (ho2:B2.own=true) (hm2:μ id2=some rb2) (hne:id≠id2) (hB1:BRep w R μ rb B1)
  (hf1 : ∀ y,Foot w rb B1 y->Foot w rb B y\/Foot w rb2 B2 y):SimAt E R μ sl (Au (Au bl id2 none) id (some B1)) fr a w:=by
 have cases2 : ∀ j Bj rj,Au (Au bl id2 none) id (some B1) j=some Bj->μ j=some rj->(j=id/\Bj=B1/\rj=rb)\/(j≠id/\j≠id2/\bl j=some Bj/\μ j=some rj):=fun j Bj rj h1 m1=>by
  by_cases e2:j=id
  ·subst e2; rw [Ah] at h1; rw [hm] at m1; simp at h1 m1; exact .inl ⟨rfl,h1.symm,m1.symm⟩
  ·rw [Aw _ _ e2] at h1
   by_cases e:j=id2
   ·subst e; rw [Ah] at h1; cases h1
   ·rw [Aw _ _ e] at h1; exact .inr ⟨e2,e,h1,m1⟩
 refine h.ghost (fun _ _ h=>h) ?_ h.free ?_ ?_
 ·intro j Bj h1
  by_cases e2:j=id
  ·subst e2; rw [Ah] at h1; simp at h1; subst h1; exact ⟨rb,hm,hB1⟩
  ·rw [Aw _ _ e2] at h1
   by_cases e:j=id2
   ·subst e; rw [Ah] at h1; cases h1
   ·rw [Aw _ _ e] at h1; exact h.mem.blk j Bj h1
 ·intro j Bj rj x h1 m1 f1
  rcases cases2 j Bj rj h1 m1 with ⟨rfl,rfl,rfl⟩ | ⟨_,_,q1,q2⟩
  ·rcases hf1 x f1 with g | g
   ·exact ⟨_,B,_,hb,fun _=>ho,hm,g⟩
   ·exact ⟨_,B2,_,hb2,fun _=>ho2,hm2,g⟩
  ·exact ⟨j,Bj,rj,q1,fun h=>h,q2,f1⟩
 ·intro j j' Bj Bj' rj rj' x h1 h2 o1 o2 m1 m2 f1 f2
  rcases cases2 j Bj rj h1 m1 with ⟨rfl,rfl,rfl⟩ | ⟨n1,n2,q1,q2⟩
  ·rcases cases2 j' Bj' rj' h2 m2 with ⟨rfl,rfl,rfl⟩ | ⟨n1,n2,q1,q2⟩
   ·rfl
   ·rcases hf1 x f1 with g | g
    ·exact absurd (h.mem.inj j' _ Bj' B rj' _ x q1 hb o2 ho q2 hm f2 g) n1
    ·exact absurd (h.mem.inj j' _ Bj' B2 rj' _ x q1 hb2 o2 ho2 q2 hm2 f2 g) n2
  ·rcases cases2 j' Bj' rj' h2 m2 with ⟨rfl,rfl,rfl⟩ | ⟨n1',n2',q1',q2'⟩
   ·rcases hf1 x f2 with g | g
    ·exact absurd (h.mem.inj j _ Bj B rj _ x q1 hb o1 ho q2 hm f1 g) n1
    ·exact absurd (h.mem.inj j _ Bj B2 rj _ x q1 hb2 o1 ho2 q2 hm2 f1 g) n2
   ·exact h.mem.inj j j' Bj Bj' rj rj' x q1 q1' o1 o2 q2 q2' f1 f2
theorem SimAt.say (h:SimAt E R μ sl bl fr a w) {id:Nat} {B B1:Blk} {rb:RB} (hb:bl id=some B) (ho:B.own=true) (hm:μ id=some rb) (hB1:BRep w R μ rb B1) (hf1 : ∀ y,Foot w rb B1 y->Foot w rb B y):SimAt E R μ sl (Au bl id (some B1)) fr a w:=by
 have cases2 : ∀ j Bj rj,Au bl id (some B1) j=some Bj->μ j=some rj->(j=id/\Bj=B1/\rj=rb)\/(j≠id/\bl j=some Bj/\μ j=some rj):=fun j Bj rj h1 m1=>by
  by_cases e2:j=id
  ·subst e2; rw [Ah] at h1; rw [hm] at m1; simp at h1 m1; exact .inl ⟨rfl,h1.symm,m1.symm⟩
  ·rw [Aw _ _ e2] at h1; exact .inr ⟨e2,h1,m1⟩
 refine h.ghost (fun _ _ h=>h) ?_ h.free ?_ ?_
 ·intro j Bj h1
  by_cases e2:j=id
  ·subst e2; rw [Ah] at h1; simp at h1; subst h1; exact ⟨rb,hm,hB1⟩
  ·rw [Aw _ _ e2] at h1; exact h.mem.blk j Bj h1
 ·intro j Bj rj x h1 m1 f1
  rcases cases2 j Bj rj h1 m1 with ⟨rfl,rfl,rfl⟩ | ⟨_,q1,q2⟩
  ·exact ⟨_,B,_,hb,fun _=>ho,hm,hf1 x f1⟩
  ·exact ⟨j,Bj,rj,q1,fun h=>h,q2,f1⟩
 ·intro j j' Bj Bj' rj rj' x h1 h2 o1 o2 m1 m2 f1 f2
  rcases cases2 j Bj rj h1 m1 with ⟨rfl,rfl,rfl⟩ | ⟨n1,q1,q2⟩
  ·rcases cases2 j' Bj' rj' h2 m2 with ⟨rfl,rfl,rfl⟩ | ⟨n1,q1,q2⟩
   ·rfl
   ·exact absurd (h.mem.inj j' _ Bj' B rj' _ x q1 hb o2 ho q2 hm f2 (hf1 x f1)) n1
  ·rcases cases2 j' Bj' rj' h2 m2 with ⟨rfl,rfl,rfl⟩ | ⟨n1',q1',q2'⟩
   ·exact absurd (h.mem.inj j _ Bj B rj _ x q1 hb o1 ho q2 hm f1 (hf1 x f2)) n1
   ·exact h.mem.inj j j' Bj Bj' rj rj' x q1 q1' o1 o2 q2 q2' f1 f2

theorem SimAt.rehome (h:SimAt E R μ sl bl fr a w) {id id' id2:Nat} {B B' B2:Blk} {rb rb' rb2:RB} (o:Obj) (hb:bl id=some B) (ho:B.own=true) (hm:μ id=some rb) (hb2:bl id2=some B2) (ho2:B2.own=true) (hm2:μ id2=some rb2) (hf:fr id')
  (hB:BRep (w.alloc o) R μ rb' B') (hft : ∀ y,Foot (w.alloc o) rb' B' y->y=w.heap.size\/Foot w rb B y\/Foot w rb2 B2 y) :
  SimAt E R (Bg μ id' rb') sl (Au (Au (Au bl id none) id2 none) id' (some B')) (fun j=>fr j/\j≠id') a (w.alloc o):=by
 have hn:=h.free id' hf
 have hx1:=C0 hn rb'
 have hold : ∀ k,k<w.heap.size->(w.alloc o).heap[k]? = w.heap[k]?:=fun k hk=>BL _ _ hk
 have hw : ∀ b,R b->(w.alloc o).heap[b]? = w.heap[b]?:=fun b hb=>hold b (h.mem.rlt b hb)
 have hsz:(w.alloc o).heap.size=w.heap.size+1:=by simp
 have old : ∀ j B1,j≠id'->Au (Au (Au bl id none) id2 none) id' (some B') j=some B1->bl j=some B1/\j≠id/\j≠id2:=fun j B1 e h1=>by
  rw [Aw _ _ e] at h1
  by_cases e3:j=id2
  ·subst e3; rw [Ah] at h1; cases h1
  ·rw [Aw _ _ e3] at h1
   by_cases e2:j=id
   ·subst e2; rw [Ah] at h1; cases h1
   ·rw [Aw _ _ e2] at h1; exact ⟨h1,e2,e3⟩
 have oldm : ∀ j r,j≠id'->Bg μ id' rb' j=some r->μ j=some r:=fun j r e h1=>by simpa only [Bg,e,if_false] using h1
 have two : ∀ y,(Foot w rb B y\/Foot w rb2 B2 y)->∃ i Bi ri,(i=id\/i=id2)/\bl i=some Bi/\Bi.own=true/\μ i=some ri/\Foot w ri Bi y:=fun y hy=>by
  rcases hy with hy | hy
  ·exact ⟨id,B,rb,.inl rfl,hb,ho,hm,hy⟩
  ·exact ⟨id2,B2,rb2,.inr rfl,hb2,ho2,hm2,hy⟩
 have oft : ∀ j B1 r y,j≠id'->Au (Au (Au bl id none) id2 none) id' (some B') j=some B1->μ j=some r->Foot (w.alloc o) r B1 y->Foot w r B1 y/\y<w.heap.size:=fun j B1 r y e hB1 m1 f1=>by
  obtain ⟨r',g1,g2⟩:=h.mem.blk j B1 (old j B1 e hB1).1
  rw [m1] at g1; simp at g1; subst g1
  have:=(Cl (fun z hz=>hold z (g2.lt (Foot.main hz)))).1 f1
  exact ⟨this,g2.lt this⟩
 have apart : ∀ j B1 r y,j≠id'->Au (Au (Au bl id none) id2 none) id' (some B') j=some B1->μ j=some r->Foot (w.alloc o) r B1 y->Foot (w.alloc o) rb' B' y->B1.own=true->False:=fun j B1 r y e h1 m1 r1 e2 o1=>by
  obtain ⟨c1,c2,c3⟩:=old j B1 e h1
  obtain ⟨f1,f2⟩:=oft j B1 r y e h1 m1 r1
  rcases hft y e2 with e2 | e2
  ·omega
  ·obtain ⟨i,Bi,ri,q1,q2,q3,q4,q5⟩:=two y e2
   have:=h.mem.inj j i B1 Bi r ri y c1 q2 o1 q3 m1 q4 f1 q5
   rcases q1 with q1 | q1
   ·exact c2 (this.trans q1)
   ·exact c3 (this.trans q1)
 refine { mem:=⟨?_,?_,?_,fun x hx=>by rw [hsz]; have:=h.mem.rlt x hx; omega⟩,size:=h.size,slot:=fun t v u h1 h2=>(h.slot t v u h1 h2).mono hw (fun _ h=>h) hx1,dfr:=h.dfr,free:=?_,os:=h.os,tape:=h.tape,output:=h.output,grow:=by rw [hsz]; have:=h.grow; omega,same:=fun k hk hn=>by rw [hold k (Nat.lt_of_lt_of_le hk h.grow)]; exact h.same k hk hn,ownT:=?_,allT:=?_,r0:=h.r0,rT:=h.rT,ext:=fun j r hj=>hx1 j r (h.ext j r hj) }
 ·intro j B1 hB1
  by_cases e:j=id'
  ·subst e; rw [Ah] at hB1; simp at hB1; subst hB1; exact ⟨rb',Am _ _ _,hB.mono (fun _ _=>rfl) (fun _ _=>rfl) (fun _ h=>h) hx1⟩
  ·obtain ⟨c1,c2⟩:=old j B1 e hB1
   obtain ⟨r,h1,h2⟩:=h.mem.blk j B1 c1
   exact ⟨r,hx1 j r h1,h2.mono hw (fun b hb'=>hold b (h2.lt hb')) (fun _ h=>h) hx1⟩
 ·intro j j' B1 B2 r1 r2 y h1 h2 o1 o2 m1 m2 e1 e2
  by_cases e:j=id'
  ·by_cases e':j'=id'
   ·rw [e,e']
   ·subst e
    rw [Am] at m1; simp at m1; subst m1
    rw [Ah] at h1; simp at h1; subst h1
    exact (apart j' B2 r2 y e' h2 (oldm _ _ e' m2) e2 e1 o2).elim
  ·by_cases e':j'=id'
   ·subst e'
    rw [Am] at m2; simp at m2; subst m2
    rw [Ah] at h2; simp at h2; subst h2
    exact (apart j B1 r1 y e h1 (oldm _ _ e m1) e1 e2 o1).elim
   ·exact h.mem.inj j j' B1 B2 r1 r2 y (old _ _ e h1).1 (old _ _ e' h2).1 o1 o2 (oldm _ _ e m1) (oldm _ _ e' m2) (oft j B1 r1 y e h1 (oldm _ _ e m1) e1).1 (oft j' B2 r2 y e' h2 (oldm _ _ e' m2) e2).1
 ·intro j B1 r1 y h1 o1 m1 e1 hRy
  by_cases e:j=id'
  ·subst e
   rw [Am] at m1; simp at m1; subst m1
   rw [Ah] at h1; simp at h1; subst h1
   rcases hft y e1 with e2 | e2
   ·have:=h.mem.rlt y hRy; omega
   ·obtain ⟨i,Bi,ri,_,q2,q3,q4,q5⟩:=two y e2
    exact h.mem.sep i Bi ri y q2 q3 q4 q5 hRy
  ·exact h.mem.sep j B1 r1 y (old _ _ e h1).1 o1 (oldm _ _ e m1) (oft j B1 r1 y e h1 (oldm _ _ e m1) e1).1 hRy
 ·intro j ⟨hj,hne'⟩
  simp only [Bg,hne',if_false]
  exact h.free j hj
 ·intro j B1 r1 y h1 o1 m1 e1
  by_cases e:j=id'
  ·subst e
   rw [Am] at m1; simp at m1; subst m1
   rw [Ah] at h1; simp at h1; subst h1
   rcases hft y e1 with e2 | e2
   ·subst e2; exact .inr h.grow
   ·obtain ⟨i,Bi,ri,_,q2,q3,q4,q5⟩:=two y e2
    exact h.ownT i Bi ri y q2 q3 q4 q5
  ·exact h.ownT j B1 r1 y (old _ _ e h1).1 o1 (oldm _ _ e m1) (oft j B1 r1 y e h1 (oldm _ _ e m1) e1).1
 ·intro j B1 r1 y h1 m1 e1
  by_cases e:j=id'
  ·subst e
   rw [Am] at m1; simp at m1; subst m1
   rw [Ah] at h1; simp at h1; subst h1
   rcases hft y e1 with e2 | e2
   ·subst e2; exact .inr h.grow
   ·obtain ⟨i,Bi,ri,_,q2,q3,q4,q5⟩:=two y e2
    exact h.allT i Bi ri y q2 q4 q5
  ·exact h.allT j B1 r1 y (old _ _ e h1).1 (oldm _ _ e m1) (oft j B1 r1 y e h1 (oldm _ _ e m1) e1).1

theorem AI {α:Type} : ∀ (vs row:List α) (o:Nat),(Ai row o vs).length=row.length
 | [],row,o=>rfl
 | v::vs,row,o=>by simp only [Ai]; rw [AI vs]; simp
theorem A3 {α:Type} : ∀ (vs row:List α) (o j:Nat),o+vs.length<=row.length->(Ai row o vs)[j]? = if o<=j/\j<o+vs.length then vs[j-o]? else row[j]?
 | [],row,o,j,h=>by simp [Ai]; omega
 | v::vs,row,o,j,h=>by
  simp only [Ai]
  simp only [List.length_cons] at h
  rw [A3 vs (row.set o v) (o+1) j (by simp; omega)]
  by_cases h1:o+1<=j/\j<o+1+vs.length
  ·rw [if_pos h1,if_pos (by simp; omega),show j-o=(j-(o+1))+1 by omega,List.getElem?_cons_succ]
  ·rw [if_neg h1]
   by_cases h2:j=o
   ·subst h2; rw [if_pos (by simp),List.getElem?_set_self (by omega)]; simp
   ·rw [if_neg (by simp; omega),List.getElem?_set_ne (Ne.symm h2)]
theorem BB {α:Type} (vs row:List α) (o:Nat) (h:o+vs.length<=row.length):Ai row o vs=row.take o++vs++row.drop (o+vs.length):=by
 apply List.ext_getElem?
 intro j
 rw [A3 vs row o j h]
 simp only [List.getElem?_append,List.length_append,length_take,getElem?_take,getElem?_drop]
 have e:min o row.length=o:=by omega
 simp only [e]
 by_cases h1:j<o
 ·rw [if_neg (by omega),if_pos (by omega),if_pos h1,if_pos h1]
 ·by_cases h2:j<o+vs.length
  ·rw [if_pos (by omega),if_pos h2,if_neg h1]
  ·rw [if_neg (by omega),if_neg h2]; congr 1; omega
theorem Reps.set {vs vs':List V} {us us':List Value} (h:Reps w R μ vs us) (h':Reps w R μ vs' us') {o:Nat} (ho:o+vs'.length<=vs.length):Reps w R μ (Ai vs o vs') (Ai us o us'):=by
 refine ⟨by rw [AI,AI]; exact h.1,fun j v u h1 h2=>?_⟩
 rw [A3 _ _ _ _ ho] at h1
 rw [A3 _ _ _ _ (by rw [h'.1,h.1]; exact ho),h'.1] at h2
 split at h1
 ·rename_i hj; rw [if_pos hj] at h2; exact h'.2 _ v u h1 h2
 ·rename_i hj; rw [if_neg hj] at h2; exact h.2 j v u h1 h2

theorem GC {t:TypeId} {id o b:Nat} {row cs:List V} {u:Value} (h:SimAt E R μ sl bl fr a w) (hb:bl id=some (.box row)) (hm:μ id=some (.box b)) (hr:Reps w R μ cs u.cells.toList) (hz:Dd P t cs.length=true) (ho:o+cs.length<=row.length) (h1 : ∀ u'∈u.cells.toList,u'.oneCell'=true) :
  ∃ w',(Instr.storeAt t (.pointer (some ⟨b,o,none⟩)) u).run P w = .ok () w'/\SimAt E R μ sl (Au bl id (some (.box (Ai row o cs)))) fr a w':=by
 obtain ⟨rb,hmu,hrep⟩:=h.mem.blk id _ hb
 rw [hm] at hmu; simp at hmu; subst hmu
 cases hrep with
 | box _ _ us e hh g1 g2=>
 obtain ⟨i,hi,hsz⟩:=Bq hz
 have hlen:u.cells.toList.length=cs.length:=hr.1
 have hfit:o+0+u.cells.toList.length<=us.size:=by omega
 have hst:=run_storeCells_at P b o e u.cells.toList 0 us w hh hfit h1
 simp only [Nat.add_zero] at hst
 have hrow:Reps w R μ row us.toList:=⟨by simp [g1],fun j v u hv hu=>g2 j v u hv (by simpa using hu)⟩
 refine ⟨w.setRow b (us.toList.take o++u.cells.toList++us.toList.drop (o+u.cells.toList.length)).toArray,?_,h.setBlk hb rfl hm rfl (setRow_size _ _ _) (fun k hk=>setRow_other _ _ _ _ hk) rfl rfl rfl (B':=.box (Ai row o cs)) ?_⟩
 ·have e1 : ¬(u.cells.size≠szT P t):=by rw [<-hsz]; simpa using hlen
  simp only [Instr.storeAt,Instr.sureAddr,Sem.run_bind,Sem.run_pure,Result.andThen_ok,storeVar,Ca hi,e1,if_false,hst]
 ·have e2:us.toList.take o++u.cells.toList++us.toList.drop (o+u.cells.toList.length)=Ai us.toList o u.cells.toList:=(BB _ _ _ (by rw [hlen,hrow.1]; exact ho)).symm
  rw [e2]
  have hset:=hrow.set hr ho
  have hw : ∀ k,R k->(w.setRow b (Ai us.toList o u.cells.toList).toArray).heap[k]? = w.heap[k]?:=fun k hR=>setRow_other _ _ _ _ (fun e=>by subst e; exact h.mem.sep id _ _ k hb rfl hm rfl hR)
  exact .box b _ _ e (setRow_heap w b us _ e _ hh) (by simpa using hset.1) (fun j v u hv hu=>(hset.2 j v u hv (by simpa using hu)).mono hw (fun _ h=>h) (fun _ _ h=>h))

theorem Fo {id:Nat} {cs:List V} {us:Array Value} (t:TypeId) (h:SimAt E R μ sl bl fr a w) (hf:fr id) (hr:Reps w R μ cs us.toList) :
  SimAt E R (Bg μ id (.box w.heap.size)) sl (Au bl id (some (.box cs))) (fun j=>fr j/\j≠id) a (w.alloc (.cells us t)):=by
 have hw : ∀ k,R k->(w.alloc (.cells us t)).heap[k]? = w.heap[k]?:=fun k hR=>BL _ _ (h.mem.rlt k hR)
 exact h.newBlk hf _ (.box cs) (.box w.heap.size) rfl (.box _ cs us t (heap_alloc_new w _) (by simpa using hr.1) (fun j v u hv hu=>(hr.2 j v u hv (by simpa using hu)).mono hw (fun _ h=>h) (fun _ _ h=>h)))
theorem SimAt.newRow_sound' {id len:Nat} {nl:Option Bool} {c:Cd} {l:List c.den} {us:Array Value} (cap:Nat) (t:TypeId) (h:SimAt E R μ sl bl fr a w) (hf:fr id) (hr:RAt w R μ (fun m=>us[m]?) c l) (hl:l.length=len) (hc:len<=cap) (hm:cap<=maxI) (hs:cap*c.size<=us.size) (hnl:nl≠some true:=by first | assumption | (simp; done)) :
  SimAt E R (Bg μ id (.at w.heap.size 0 c.size cap len)) sl (Au bl id (some (.row false nl c l))) (fun j=>fr j/\j≠id) a (w.alloc (.cells us t)):=by
 have hw : ∀ k,R k->(w.alloc (.cells us t)).heap[k]? = w.heap[k]?:=fun k hR=>BL _ _ (h.mem.rlt k hR)
 refine h.newBlk hf _ (.row false nl c l) (.at w.heap.size 0 c.size cap len) rfl (.row _ _ _ _ _ _ _ c l us t rfl (heap_alloc_new w _) ⟨hl,hc⟩ hm (by omega) (fun i z j v hz hv=>?_) (by simp))
 obtain ⟨u,h1,h2⟩:=hr i z j v hz hv
 exact ⟨u,by simpa using h1,h2.mono hw (fun _ h=>h) (fun _ _ h=>h)⟩
end
end Go.Proofs.YthbecdipboideaaDoor.Den
