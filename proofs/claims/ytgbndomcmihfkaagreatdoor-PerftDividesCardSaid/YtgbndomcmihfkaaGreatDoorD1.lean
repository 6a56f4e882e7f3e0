/- Part 1 of the texts under the proof: an abstract interpreter,the summaries of functions,plain laws. -/
import GoSem.Step
import Derived.Orders
import Derived.WalkKit
import Derived.RangeFuncLeaves
import Derived.ChangeKeysEq
import Derived.Laws.BytesArg
import Derived.Lib.AppendStr
set_option linter.unusedSectionVars false
set_option linter.unusedVariables false
set_option linter.unusedSimpArgs false
set_option linter.unnecessarySimpa false
set_option maxRecDepth 100000
set_option maxHeartbeats 4000000
theorem A'.{u} {α:Type u} (a b:α):(some a=some b)=(a=b):=Option.some.injEq a b
theorem B'.{u,v} {α:Type u} {β:Type v} {b:β} {x:Option α} {f:α→Option β}:x.bind f=some b↔∃ a,x=some a∧f a=some b:=Option.bind_eq_some_iff
theorem C'.{u} {α:Type u} {l:List α} {i:Nat} {a:α}:l[i]?=some a↔∃ h:i<l.length,l[i]=a:=List.getElem?_eq_some_iff
theorem E' (a b:Bool):((a&&b)=true)=(a=true∧b=true):=Bool.and_eq_true a b
theorem H'.{u,v} {α:Type u} {β:Type v} {x:Option α} {f:α→β} {b:β}:x.map f=some b↔∃ a,x=some a∧f a=b:=Option.map_eq_some_iff
theorem I'.{u} {α:Type u} {l:List α} {i:Nat} (h:i<l.length):l[i]?=some l[i]:=List.getElem?_eq_getElem h
noncomputable section
namespace Kz
open Go
def t8:Nat:=5
def WU:Nat:=100000
def v7:List (Nat×IntKind×List Int):=[(0,.u8,[0,1,56,2,57,49,28,3,61,58,42,50,38,29,17,4,62,47,59,36,45,43,51,22,53,39,33,30,24,18,12,5,63,55,48,27,60,41,37,16,46,35,44,21,52,32,23,11,54,26,40,15,34,20,31,10,25,14,19,9,13,8,7,6])]
def QK:List (Nat×IntKind):=[]
def Xg:List Nat:=[]
def yP:List (Nat×IntKind×Option (List Int)):=(v7.map (fun p=>(p.1,p.2.1,some p.2.2))++QK.map fun p=>(p.1,p.2,none))++Xg.map fun i=>(i,.i8,none)
structure Mv where
 az:Int
 to:Int
 bQ:Int
 aX:Int
 bP:Bool
 deriving DecidableEq,Inhabited
structure Pos where
 variant:Int
 ae:List Int
 ab:BitVec 64
 af:List Int
 aa:Int
 ai:List Int
 ah:Int
 ag:List Int
 half:Int
 full:Int
 deriving DecidableEq,Inhabited
inductive ET where
 | i (k:IntKind) | u64 | str | mv | pos
 deriving DecidableEq
@[reducible] def ET.T:ET→Type
 | .i _=>Int
 | .u64=>BitVec 64
 | .str=>List UInt8
 | .mv=>Mv
 | .pos=>Pos
inductive Tk where
 | arg | fresh | own (k:Nat)
 deriving DecidableEq
def Ng:ET→Nat
 | .i .u8=>0
 | .mv=>5
 | .pos=>88
 | _=>1
def CZ:Nat→Nat
 | 0=>1
 | n+1=>n+1
def lr:ET→Nat
 | .mv=>5
 | .pos=>88
 | _=>1
inductive AV where
 | any
 | undef
 | bool (b:Bool)
 | aL (b:Bool)
 | int (k:IntKind) (n:Int)
 | aE (k:IntKind) (n:Int)
 | u64 (x:BitVec 64)
 | str (s:List UInt8)
 | agg (l:List AV)
 | ints (k:IntKind) (n:Nat) (l:List Int)
 | ptr (b off:Nat)
 | ptri (b off n:Nat) (i:Int) (m:Nat)
 | ptrf (v:AV)
 | nilptr
 | slf (b:Nat)
 | itr (s:List UInt8) (n:Int)
 | list (e:ET) (l:List e.T) (tok:Tk)
 | vlist (fr:Bool) (l:List AV)
 | vany (t:Tk) (l:List AV)
 | vsl (b off n:Nat)
 | nilsl
 | func (f:Nat) (first cap:List AV)
 | yield (l:Nat)
 | nilfunc
 | iface (t:Nat) (v:AV)
 | niliface
 | tuple (l:List AV)
 deriving Inhabited
structure dT where
 state:Nat
 eu:Option Code
 fn:Nat
 tmps:List AV
 params:List Nat
 assign:Code
 body:Code
structure Hp where
 heap:List (List AV)
 al:List Nat
 loops:List dT
 lo:Nat
 rE:Nat
 pt:Nat
structure St where
 tmps:List AV
 hp:Hp
inductive Tr (α:Type) where
 | ret (a:α)
 | fail
 | br (b:Bool) (t e:Tr α)
 | ck (c:Bool) (b b':Code) (s s':St) (t:Tr α)
namespace Tr
def bind {α β:Type}:Tr α→(α→Tr β)→Tr β
 | .ret a,f=>f a
 | .fail,_=>.fail
 | .br b t e,f=>.br b (t.bind f) (e.bind f)
 | .ck c b b' s s' t,f=>.ck c b b' s s' (t.bind f)
def get {α:Type}:Tr α→Option α
 | .ret a=>some a
 | .fail=>none
 | .br b t e=>bif b then t.get else e.get
 | .ck c _ _ _ _ t=>bif c then t.get else none
def opt {α:Type}:Option α→Tr α
 | some a=>.ret a
 | none=>.fail
def guard {α:Type} (b:Bool) (t:Tr α):Tr α := .br b t .fail
end Tr
inductive Out where
 | norm (s:St)
 | ret (s:St)
 | exit (id:Nat) (s:St)
 | panic (v:AV) (h:Hp)
inductive cW where
 | val (v:AV) (h:Hp)
 | pan (v:AV) (h:Hp)
def ssize:AV→Nat
 | .ints _ n _=>n
 | _=>1
def qE:List AV→Nat→Option (AV×Nat)
 | [],_=>none
 | s::rest,o=>if o<ssize s then some (s,o) else qE rest (o-ssize s)
def cellOf:AV→Nat→Option AV
 | .ints k n l,j=>if j<n then some (.int k (l.getD j 0)) else none
 | v,0=>some v
 | _,_=>none
def fL (l:List AV) (o:Nat):Option AV:=(qE l o).bind fun (s,j)=>cellOf s j
def gv:List AV→Nat→Option (List AV)
 | _,0=>some []
 | [],_+1=>none
 | .ints k n l::rest,m+1 =>
  if n≤m+1 then (gv rest (m+1-n)).map (.ints k n l::·) else some [.ints k (m+1) (l.take (m+1))]
 | s::rest,m+1=>(gv rest m).map (s::·)
def gy:List AV→Nat→Option (List AV)
 | l,0=>some l
 | [],_+1=>none
 | .ints k n l::rest,m+1 =>
  if n≤m+1 then gy rest (m+1-n) else some (.ints k (n-(m+1)) (l.drop (m+1))::rest)
 | _::rest,m+1=>gy rest m
def CH (l:List AV) (o m:Nat):Option (List AV):=(gy l o).bind (gv · m)
def aD:AV→Bool
 | .any | .undef | .agg _ | .ints .. | .tuple _ | .itr .. => false
 | _=>true
def kT:List AV→Option (List AV)
 | [.itr ..]=>none
 | l=>some l
def oE (k:IntKind) (n:Nat) (l:List Int) (j:Nat):AV→Option AV
 | .int k' x=>if k=k'∧j<n then some (.ints k n (l.set j x)) else none
 | .aE k' x=>if k=k'∧j<n then some (.ints k n (l.set j x)) else none
 | .ints k' m l'=>if k=k'∧j+m≤n then some (.ints k n (if m=n then l' else l.take j++l'++l.drop (j+m))) else none
 | _=>none
def xn:AV→Nat→AV→Option AV
 | .ints k n l,j,v=>oE k n l j v
 | _,0,v=>if aD v then some v else none
 | _,_+1,_=>none
def oZ:List AV→Nat→AV→Option (List AV)
 | [],_,_=>none
 | s::rest,o,v=>if o<ssize s then (xn s o v).map (·::rest) else (oZ rest (o-ssize s) v).map (s::·)
def mq:List AV→Nat→List AV→Option (List AV)
 | l,_,[]=>some l
 | l,o,v::vs=>(oZ l o v).bind fun l'=>mq l' (o+ssize v) vs
def bx:AV→List AV
 | .agg l=>l
 | v=>[v]
def storable:AV→Bool
 | .agg _=>true
 | v=>aD v
def Wx:Value→AV
 | .bool b=>.aL b
 | .int .u64 n=>if 0≤n∧n<18446744073709551616 then .u64 (BitVec.ofNat 64 n.toNat) else .any
 | .int k n=>.aE k n
 | .string s=>.str s.data.toList
 | .pointer none=>.nilptr
 | .slice none 0 0=>.nilsl
 | .nilFunc=>.nilfunc
 | .nilIface=>.niliface
 | _=>.any
def mh (P:Program):Nat→TypeId→Option (List AV)
 | 0,_=>none
 | d+1,t =>
  match P.underlying t with
  | some .bool=>some [.aL false]
  | some (.int .u64)=>some [.u64 0]
  | some (.int k)=>some [.aE k 0]
  | some .string=>some [.str []]
  | some (.pointer _)=>some [.nilptr]
  | some (.slice _)=>some [.nilsl]
  | some (.func ..)=>some [.nilfunc]
  | some (.interface _)=>some [.niliface]
  | some (.struct fs)=>fs.toList.foldr (fun f acc=>(mh P d f.type).bind fun a=>acc.map (a++·)) (some [])
  | some (.array n e) =>
   match mh P d e with
   | some [.aE k _]=>some [.ints k n (List.replicate n 0)]
   | some [.ints k m _]=>some [.ints k (n * m) (List.replicate (n * m) 0)]
   | some l=>some (List.replicate n l).flatten
   | none=>none
  | _=>none
def rz:AV→Value→Bool
 | .aL b,.bool c=>b==c
 | .u64 x,.int .u64 n=>(x.toNat:Int)==n
 | .aE k n,.int k' m=>k==k'&&n==m
 | .str [],.string s=>s.data.toList.isEmpty
 | .nilptr,.pointer none=>true
 | .nilsl,.slice none 0 0=>true
 | .nilfunc,.nilFunc=>true
 | .niliface,.nilIface=>true
 | _,_=>false
def kE (k:IntKind):List Int→List Value→Option (List Value)
 | [],cs=>some cs
 | n::l,.int k' m::cs=>if k==k'&&n==m then kE k l cs else none
 | _::_,_=>none
def hJ:List AV→List Value→Bool
 | [],[]=>true
 | .ints k n l::rest,cs=>n==l.length&&(match kE k l cs with | some cs'=>hJ rest cs' | none=>false)
 | s::rest,c::cs=>rz s c&&hJ rest cs
 | _,_=>false
def mY (P:Program) (t:TypeId):Option (List AV) :=
 match mh P 12 t,(P.info? t).bind (·.zero) with
 | some l,some z=>if hJ l z.cells.toList then some l else none
 | _,_=>none
def b7 (P:Program) (t:TypeId):Bool :=
 match P.underlying t with
 | some (.struct _) | some (.array _ _)=>true
 | _=>false
def bN (P:Program) (t:TypeId):Option Nat:=(P.info? t).map (·.size)
def Mv.av (m:Mv):AV := .agg [.int .i8 m.az,.int .i8 m.to,.int .u8 m.bQ,.int .u8 m.aX,.bool m.bP]
def Pos.av (p:Pos):AV :=
 .agg [.int .u8 p.variant,.ints .u8 64 p.ae,.u64 p.ab,.ints .u8 12 p.af,.int .u8 p.aa,.ints .i8 4 p.ai,.int .i8 p.ah,.ints .u8 2 p.ag,.int .i64 p.half,.int .i64 p.full]
def enc:(e:ET)→e.T→AV
 | .i k,n=>.int k n
 | .u64,x=>.u64 x
 | .str,s=>.str s
 | .mv,m=>Mv.av m
 | .pos,p=>Pos.av p
def pw:AV→Option Int
 | .int _ n | .aE _ n=>some n
 | _=>none
def yE:AV→Option Bool
 | .bool b | .aL b=>some b
 | _=>none
def Y4:AV→Option (BitVec 64)
 | .u64 x=>some x
 | _=>none
def toS:AV→Option (List UInt8)
 | .str s=>some s
 | _=>none
def kindOk (k:IntKind):AV→Bool
 | .int k' _ | .aE k' _=>k==k'
 | _=>false
def FQ:AV→Option Mv
 | .agg [a,b,c,d,e] =>
  if kindOk .i8 a&&kindOk .i8 b&&kindOk .u8 c&&kindOk .u8 d then
   (pw a).bind fun a=>(pw b).bind fun b=>(pw c).bind fun c=>(pw d).bind fun d=>(yE e).map fun e=>⟨a,b,c,d,e⟩
  else none
 | _=>none
def toPos:AV→Option Pos
 | .agg [v,.ints .u8 64 bd,.u64 pr,.ints .u8 12 pk,tn,.ints .i8 4 rk,ps,.ints .u8 2 ck,hf,fl] =>
  if kindOk .u8 v&&kindOk .u8 tn&&kindOk .i8 ps&&kindOk .i64 hf&&kindOk .i64 fl then
   (pw v).bind fun v=>(pw tn).bind fun tn=>(pw ps).bind fun ps=>(pw hf).bind fun hf=>(pw fl).map fun fl=>⟨v,bd,pr,pk,tn,rk,ps,ck,hf,fl⟩
  else none
 | _=>none
def dec:(e:ET)→AV→Option e.T
 | .i k,v=>if kindOk k v then pw v else none
 | .u64,v=>Y4 v
 | .str,v=>toS v
 | .mv,v=>FQ v
 | .pos,v=>toPos v
def kH (e:ET):List AV→Option (List e.T)
 | []=>some []
 | v::vs=>(dec e v).bind fun x=>(kH e vs).map (x::·)
def ahH (P:Program) (t:TypeId):Option ET :=
 match P.underlying t with
 | some (.int .u64)=>some .u64
 | some (.int k)=>some (.i k)
 | some .string=>some .str
 | some (.struct _) =>
  match mh P 12 t with
  | some [.aE .i8 _,.aE .i8 _,.aE .u8 _,.aE .u8 _,.aL _]=>some .mv
  | some [.aE .u8 _,.ints .u8 64 _,.u64 _,.ints .u8 12 _,.aE .u8 _,.ints .i8 4 _,.aE .i8 _,.ints .u8 2 _,.aE .i64 _,.aE .i64 _]=>some .pos
  | _=>none
 | _=>none
def cM (l:List AV):Nat:=l.foldr (fun s n=>ssize s+n) 0
def cQ (P:Program) (t:TypeId):Option ET :=
 match P.underlying t with
 | some (.slice el) =>
  match ahH P el,mY P el,P.info? el with
  | some e,some z,some i=>if cM z=lr e∧i.size=lr e∧i.bytes≤131072∧0<i.bytes∧(e=.i .u8→el=t8) then some e else none
  | _,_,_=>none
 | _=>none
mutual
def fh:AV→Bool
 | .bool _ | .aL _ | .int .. | .aE .. | .u64 _ | .str _ | .ints .. | .nilptr | .list .. | .nilsl | .nilfunc | .niliface=>true
 | .func _ a b=>a.isEmpty&&b.isEmpty
 | .agg l=>lG l
 | .vlist _ l=>lG l
 | .vany _ l=>lG l
 | .tuple l=>lG l
 | .ptrf v=>fh v
 | _=>false
def lG:List AV→Bool
 | []=>true
 | v::vs=>fh v&&lG vs
end
def Tk.made:Tk→Bool
 | .arg=>false
 | _=>true
mutual
def bz:AV→Bool
 | .list _ _ .arg=>false
 | .agg l=>cN l
 | .vlist fr l=>fr&&cN l
 | .vany t l=>t.made&&cN l
 | .tuple l=>cN l
 | .ptrf _=>false
 | .iface _ v=>bz v
 | .func _ a b=>cN a&&cN b
 | _=>true
def cN:List AV→Bool
 | []=>true
 | v::vs=>bz v&&cN vs
end
def Tk.res:Tk→Tk
 | .own _=>.fresh
 | t=>t
mutual
def strip (arg:Bool):AV→AV
 | .list e l t=>.list e l (if arg then .arg else t.res)
 | .ptrf v=>.ptrf (strip arg v)
 | .iface t v=>.iface t (strip arg v)
 | .func f a b=>.func f (cz arg a) (cz arg b)
 | .agg l=>.agg (cz arg l)
 | .vlist fr l=>.vlist (!arg&&fr) (cz arg l)
 | .vany t l=>.vany (if arg then .arg else t.res) (cz arg l)
 | .tuple l=>.tuple (cz arg l)
 | v=>v
def cz (arg:Bool):List AV→List AV
 | []=>[]
 | v::vs=>strip arg v::cz arg vs
end
mutual
def aQ (n:Nat):AV→Bool
 | .ptr b _ | .ptri b .. | .vsl b .. | .slf b=>b<n
 | .ptrf v | .iface _ v=>aQ n v
 | .func _ a b=>bM n a&&bM n b
 | .agg l | .tuple l=>bM n l
 | .vlist _ l=>bM n l
 | .vany _ l=>bM n l
 | .yield _=>false
 | _=>true
def bM (n:Nat):List AV→Bool
 | []=>true
 | v::vs=>aQ n v&&bM n vs
end
def iH (v:AV):Nat:=match v with
 | .agg l=>l.foldl (fun n s=>n+ssize s) 0
 | _=>1
def wr (k:IntKind) (n:Int):Int:=k.wrap n
def iY (op:BinOp) (k:IntKind) (x y:Int):Int :=
 match op with
 | .and=>k.wrap (BitVec.ofInt k.bits x&&&BitVec.ofInt k.bits y).toNat
 | .or=>k.wrap (BitVec.ofInt k.bits x|||BitVec.ofInt k.bits y).toNat
 | .xor=>k.wrap (BitVec.ofInt k.bits x ^^^ BitVec.ofInt k.bits y).toNat
 | _=>k.wrap (BitVec.ofInt k.bits x &&& ~~~ BitVec.ofInt k.bits y).toNat
def UP (op:BinOp) (x y:Int):Option Bool :=
 match op with
 | .eql=>some (x==y)
 | .neq=>some (x != y)
 | .lss=>some (decide (x<y))
 | .leq=>some (decide (x≤y))
 | .gtr=>some (decide (x>y))
 | .geq=>some (decide (x≥y))
 | _=>none
def BR (op:BinOp) (k:IntKind) (x y:Int):Option Int :=
 match op with
 | .add=>some (wr k (x+y))
 | .sub=>some (wr k (x-y))
 | .mul=>some (wr k (x * y))
 | .and | .or | .xor | .andNot=>some (iY op k x y)
 | _=>none
def Tx (op:BinOp) (k:IntKind) (x y:Int):Option Int :=
 match op with
 | .quo=>some (wr k (x.tdiv y))
 | .rem=>some (x.tmod y)
 | _=>none
def BD (op:BinOp) (k:IntKind) (x:Int) (n:Nat):Option Int :=
 match op with
 | .shl=>some (wr k (x * 2 ^ (min n k.bits)))
 | .shr=>some (x.fdiv (2 ^ (min n k.bits)))
 | _=>none
def CF (op:BinOp) (x y:BitVec 64):Option (BitVec 64) :=
 match op with
 | .add=>some (x+y)
 | .sub=>some (x-y)
 | .mul=>some (x * y)
 | .and=>some (x&&&y)
 | .or=>some (x|||y)
 | .xor=>some (x ^^^ y)
 | .andNot=>some (x &&& ~~~y)
 | _=>none
def TJ (op:BinOp) (x y:BitVec 64):Option Bool :=
 match op with
 | .eql=>some (x==y)
 | .neq=>some (x != y)
 | .lss=>some (decide (x.toNat<y.toNat))
 | .leq=>some (decide (x.toNat≤y.toNat))
 | .gtr=>some (decide (x.toNat>y.toNat))
 | .geq=>some (decide (x.toNat≥y.toNat))
 | _=>none
def C0 (op:BinOp) (x:BitVec 64) (n:Nat):Option (BitVec 64) :=
 match op with
 | .shl=>some (x <<< n)
 | .shr=>some (x >>> n)
 | _=>none
def DF:BinOp→Bool
 | .shl | .shr=>true
 | _=>false
def Qr:BinOp→Bool
 | .eql | .neq | .lss | .leq | .gtr | .geq=>true
 | _=>false
def DG:BinOp→Bool
 | .quo | .rem=>true
 | _=>false
def isEq:BinOp→Bool
 | .eql | .neq=>true
 | _=>false
def bR (op:BinOp) (b:Bool):Bool :=
 match op with
 | .eql=>b
 | _ => !b
def eL:List AV→List AV→Option Bool
 | [],[]=>some true
 | .ints k n l::xs,.ints k' n' l'::ys=>if k=k'∧n=n' then (eL xs ys).map ((l==l')&&·) else none
 | x::xs,y::ys =>
  match x,y with
  | .u64 a,.u64 b=>(eL xs ys).map ((a==b)&&·)
  | .str a,.str b=>(eL xs ys).map ((a==b)&&·)
  | .int k a,.int k' b=>if k=k' then (eL xs ys).map ((a==b)&&·) else none
  | .aE k a,.int k' b=>if k=k' then (eL xs ys).map ((a==b)&&·) else none
  | .int k a,.aE k' b=>if k=k' then (eL xs ys).map ((a==b)&&·) else none
  | .aE k a,.aE k' b=>if k=k' then (eL xs ys).map ((a==b)&&·) else none
  | x,y =>
   match yE x,yE y with
   | some a,some b=>(eL xs ys).map ((a==b)&&·)
   | _,_=>none
 | _,_=>none
inductive CK where
 | b | s | i (k:IntKind)
 deriving DecidableEq
def Ko:List AV→Option (List CK)
 | []=>some []
 | .ints k n _::l=>(Ko l).map (List.replicate n (.i k)++·)
 | .bool _::l | .aL _::l=>(Ko l).map (.b::·)
 | .int k _::l | .aE k _::l=>(Ko l).map (.i k::·)
 | .u64 _::l=>(Ko l).map (.i .u64::·)
 | .str _::l=>(Ko l).map (.s::·)
 | _::_=>none
def GG (P:Program):Nat→TypeId→Option (List CK)
 | 0,_=>none
 | d+1,t =>
  match P.underlying t with
  | some .bool=>if bN P t=some 1 then some [.b] else none
  | some (.int k)=>if bN P t=some 1 then some [.i k] else none
  | some .string=>if bN P t=some 1 then some [.s] else none
  | some (.struct fs) =>
   if P.stoodInHeld t then none
   else fs.toList.foldl (fun acc f => acc.bind fun ks => if f.name != "_" && f.offset == ks.length then (GG P d f.type).bind fun k => if bN P f.type = some k.length then some (ks ++ k) else none else none) (some [])
  | some (.array n e)=>(GG P d e).bind fun k=>if bN P e=some k.length then some (List.replicate n k).flatten else none
  | _=>none
def mL:AV→Option (Bool×Nat)
 | .u64 y=>some (true,y.toNat)
 | .aE _ n=>some (decide (0≤n),n.toNat)
 | .int _ n=>some (decide (0≤n),n.toNat)
 | _=>none
def isC:AV→Bool
 | .aE .. => true
 | _=>false
def kL:List UInt8→List UInt8→Bool
 | _,[]=>false
 | [],_::_=>true
 | a::x,b::y=>decide (a<b) || (a==b&&kL x y)
def US (op:BinOp) (x y:List UInt8):Option Bool :=
 match op with
 | .eql=>some (x==y)
 | .neq=>some (!(x==y))
 | .lss=>some (kL x y)
 | .leq=>some (kL x y || x==y)
 | .gtr=>some (!(kL x y || x==y))
 | .geq=>some (!kL x y)
 | _=>none
def wU:Nat:=1073741824
def HE:AV→Option (Bool×IntKind×Int)
 | .aE k n=>some (true,k,n)
 | .int k n=>some (false,k,n)
 | _=>none
def Qi (c:Bool) (k:IntKind) (n:Int):AV:=match c with
 | true=>.aE k n
 | false=>.int k n
def mkB (c:Bool) (b:Bool):AV:=match c with
 | true=>.aL b
 | false=>.bool b
def mO:AV→Bool
 | .u64 _=>true
 | .aE _ n=>decide (0≤n)
 | _=>false
def S4 (op:BinOp) (a:BitVec 64) (y:AV):Tr AV :=
 match DF op with
 | true =>
  match mL y with
  | some (ok,n)=>match C0 op a n with
   | some r=>if mO y then .ret (.u64 r) else .guard ok (.ret (.u64 r))
   | none=>.fail
  | none=>.fail
 | false =>
  match y with
  | .u64 b =>
   if Qr op then Tr.opt ((TJ op a b).map .bool)
   else if DG op then .guard (!(b==0#64)) (.ret (.u64 (if op=.rem then a % b else a / b)))
   else Tr.opt ((CF op a b).map .u64)
  | _=>.fail
def Nd (op:BinOp) (c:Bool) (k:IntKind) (a:Int) (y:AV):Tr AV :=
 match DF op with
 | true =>
  match mL y with
  | some (ok,n)=>match BD op k a n with
   | some r=>if mO y then .ret (Qi (c&&isC y) k r) else .guard ok (.ret (Qi (c&&isC y) k r))
   | none=>.fail
  | none=>.fail
 | false =>
  match HE y with
  | some (c',k',b) =>
   if k=k' then
    if DG op then
     match Tx op k a b with
     | some r=>if c' then (if b=0 then .fail else .ret (Qi (c&&c') k r)) else .guard (!(b==0)) (.ret (Qi (c&&c') k r))
     | none=>.fail
    else if Qr op then Tr.opt ((UP op a b).map (mkB (c&&c')))
    else Tr.opt ((BR op k a b).map (Qi (c&&c') k))
   else .fail
  | none=>.fail
def nQ (P:Program) (t:TypeId):Bool:=match P.underlying t with
 | some .bool=>true
 | _=>false
def rB (P:Program) (t:TypeId):Bool:=match P.underlying t with
 | some (.func ..)=>true
 | _=>false
def qA (P:Program) (t:TypeId):Bool:=match P.underlying t with
 | some (.interface ms)=>ms.isEmpty
 | _=>false
def sL (P:Program) (t:TypeId):Bool:=match P.underlying t with
 | some (.interface _)=>true
 | _=>false
def GH:Operand→Bool
 | .const _=>true
 | _=>false
def De (P:Program) (t:TypeId):Bool:=match P.underlying t with
 | some (.pointer _)=>true
 | _=>false
def LH:AV→Option Bool
 | .nilptr=>some true
 | .ptr .. | .ptri .. | .ptrf _=>some false
 | _=>none
def binop (P:Program) (lit:Bool) (op:BinOp) (t:TypeId) (x y:AV):Tr AV :=
 match x with
 | .u64 a=>S4 op a y
 | .aE k a=>Nd op true k a y
 | .int k a=>Nd op false k a y
 | .str a=>match y with
  | .str b =>
   if op=.add then .guard (decide (a.length+b.length≤wU)) (.ret (.str (a++b)))
   else Tr.opt ((US op a b).map .bool)
  | _=>.fail
 | .agg a=>match y with
  | .agg b =>
   if isEq op&&!P.eqGuardType P.depth t&&b7 P t&&(GG P 8 t).isSome&&Ko a==GG P 8 t&&Ko b==GG P 8 t&&bN P t==(GG P 8 t).map (·.length) then
    Tr.opt ((eL a b).map fun e=>.bool (bR op e)) else .fail
  | _=>.fail
 | .func .. => match y with
  | .nilfunc=>if isEq op&&rB P t then .ret (.aL (bR op false)) else .fail
  | _=>.fail
 | .nilfunc=>match y with
  | .nilfunc=>if isEq op&&rB P t then .ret (.aL (bR op true)) else .fail
  | _=>.fail
 | .aL a=>match y with
  | .aL b=>if isEq op&&nQ P t then .ret (.aL (bR op (a==b))) else .fail
  | .bool b=>if isEq op&&nQ P t then .ret (.bool (bR op (a==b))) else .fail
  | _=>.fail
 | .bool a=>match yE y with
  | some b=>if isEq op&&nQ P t then .ret (.bool (bR op (a==b))) else .fail
  | none=>.fail
 | .niliface=>match y with
  | .niliface=>if isEq op&&(qA P t || lit&&sL P t) then .ret (.aL (bR op true)) else .fail
  | _=>.fail
 | .iface .. => match y with
  | .niliface=>if isEq op&&sL P t then .ret (.aL (bR op false)) else .fail
  | _=>.fail
 | x=>match LH x,y with
  | some b,.nilptr=>if isEq op&&De P t then .ret (.aL (bR op b)) else .fail
  | _,_=>.fail
def unop (op:UnOp) (x:AV):Tr AV :=
 match op,x with
 | .not,.aL b=>.ret (.aL (!b))
 | .not,.bool b=>.ret (.bool (!b))
 | .neg,.aE k n=>.ret (.aE k (wr k (0-n)))
 | .neg,.int k n=>.ret (.int k (wr k (0-n)))
 | .neg,.u64 n=>.ret (.u64 (0#64-n))
 | .xor,.u64 n=>.ret (.u64 (~~~n))
 | _,_=>.fail
def I1 (P:Program) (s d:TypeId) (x:AV):Tr AV :=
 match P.underlying s,P.underlying d,x with
 | some (.int _),some (.int .u64),.aE _ n=>.ret (.u64 (BitVec.ofInt 64 n))
 | some (.int _),some (.int .u64),.int _ n=>.ret (.u64 (BitVec.ofInt 64 n))
 | some (.int _),some (.int .u64),.u64 n=>.ret (.u64 n)
 | some (.int _),some (.int k),.aE _ n=>.ret (.aE k (wr k n))
 | some (.int _),some (.int k),.int _ n=>.ret (.int k (wr k n))
 | some (.int _),some (.int k),.u64 n=>.ret (.int k (wr k n.toNat))
 | some .string,some .string,.str l=>.ret (.str l)
 | some (.int _),some .string,.aE _ n=>.ret (.str (Utf8.encode n).data.toList)
 | some (.int _),some .string,.int _ n=>.ret (.str (Utf8.encode n).data.toList)
 | _,_,_=>.fail
def qG (P:Program) (s:TypeId) (f:Nat):Option (Nat×TypeId) :=
 match P.underlying s with
 | some (.struct fs)=>(fs[f]?).bind fun x=>if (bN P x.type).getD 0=0 then none else some (x.offset,x.type)
 | _=>none
def gL (P:Program) (t:TypeId) (l:List AV) (o:Nat):Option AV :=
 if (P.underlying t).isSome then
  if b7 P t then (bN P t).bind fun m=>(CH l o m).map .agg
  else fL l o
 else none
def dj (h:Hp) (b:Nat):Option (List AV):=(h.heap[b]?).bind kT
def fT:List AV→Nat→Nat→Option (IntKind×List Int)
 | .ints k n l::rest,o,m=>if o=0∧n=m then some (k,l) else if o+m≤n∧0<m then some (k,(l.drop o).take m) else if o<n∨o=0 then none else fT rest (o-n) m
 | s::rest,o,m=>if o<ssize s then none else fT rest (o-ssize s) m
 | [],_,_=>none
def gi:List AV→Nat→Nat→List Int→Option (List AV)
 | .ints k n l::rest,o,m,l'=>if o=0∧n=m then some (.ints k n l'::rest) else if o+m≤n∧0<m then some (.ints k n (l.take o++l'++l.drop (o+m))::rest) else if o<n∨o=0 then none else (gi rest (o-n) m l').map (.ints k n l::·)
 | s::rest,o,m,l'=>if o<ssize s then none else (gi rest (o-ssize s) m l').map (s::·)
 | [],_,_,_=>none
def dS (P:Program) (h:Hp) (t:TypeId) (a:AV):Option AV :=
 match a with
 | .ptr b o=>(dj h b).bind fun l=>gL P t l o
 | .ptri b o n i m =>
  (dj h b).bind fun l=>(fT l o n).bind fun (k,xs) =>
   if b7 P t then (if bN P t=some m then some (.agg [.ints k m ((xs.drop i.toNat).take m)]) else none)
   else if m=0∨(P.underlying t).isNone then none else some (.int k (xs.getD i.toNat 0))
 | .ptrf v=>gL P t (bx v) 0
 | _=>none
def fi (h:Hp) (b:Nat) (l:List AV):Hp:={ h with heap:=h.heap.set b l }
def IX (P:Program) (t:TypeId) (v:AV):Bool:=match v with
 | .agg []=>bN P t==some 0
 | _=>false
def kK (P:Program) (h:Hp) (t:TypeId) (a v:AV):Option Hp :=
 match a with
 | .ptr b o =>
  if IX P t v then some h else
  (if h.lo≤b then dj h b else none).bind fun l =>
   if storable v&&0<iH v&&some (iH v)==bN P t then (mq l o (bx v)).map (fi h b) else none
 | .ptri b o n i m =>
  (if h.lo≤b then dj h b else none).bind fun l=>(fT l o n).bind fun (k,xs) =>
   match v with
   | .int k' x=>if k=k'∧bN P t=some 1∧0<m then (gi l o n (xs.set i.toNat x)).map (fi h b) else none
   | .aE k' x=>if k=k'∧bN P t=some 1∧0<m then (gi l o n (xs.set i.toNat x)).map (fi h b) else none
   | .agg [.ints k' m' ys]=>if k=k'∧m'=m∧bN P t=some m then (gi l o n (xs.take i.toNat++ys++xs.drop (i.toNat+m))).map (fi h b) else none
   | _=>none
 | _=>none
def jw {α:Type} (i:Int) (f:Nat→Tr α):Nat→Nat→Tr α
 | 0,_=>.fail
 | n+1,j=>.br (i==(j:Int)) (f j) (jw i f n (j+1))
def idxOf:AV→Option (Bool×Int)
 | .aE _ n=>some (true,n)
 | .int _ n=>some (false,n)
 | .u64 n=>some (false,(n.toNat:Int))
 | _=>none
def Yq (P:Program) (e:TypeId):Bool :=
 match mh P 12 e with
 | some [.aE ..] | some [.ints ..]=>true
 | _=>false
def scale (m:Nat) (i:Int):Int:=if m=1 then i else i * m
def ic (P:Program) (n:Nat) (e:TypeId) (m:Nat) (x:AV) (i:Nat):Option AV :=
 match x with
 | .ptr b o=>some (.ptr b (o+i * m))
 | .ptri b o n' i' m'=>if m'=n * m then some (.ptri b o n' (i'+scale m i) m) else none
 | .ptrf v=>(gL P e (bx v) (i * m)).map .ptrf
 | _=>none
def sX (P:Program) (n:Nat) (e:TypeId) (x ix:AV):Tr AV :=
 match bN P e,idxOf ix with
 | some m,some (true,i)=>if 0≤i∧i<n then Tr.opt (ic P n e m x i.toNat) else .fail
 | some m,some (false,i) =>
  .guard (decide (0≤i)&&decide (i<n)) <|
   match x with
   | .ptr b o=>if Yq P e then .ret (.ptri b o (n * m) (scale m i) m) else jw i (fun j=>Tr.opt (ic P n e m x j)) n 0
   | .ptri b o n' i' m'=>if m'=n * m then .ret (.ptri b o n' (i'+scale m i) m) else .fail
   | .ptrf v =>
    match b7 P e,(P.underlying e).isSome,bx v with
    | false,true,[.ints k n' l]=>if m=1∧n'=n then .ret (.ptrf (.int k (l.getD i.toNat 0))) else .fail
    | _,_,_=>jw i (fun j=>Tr.opt (ic P n e m x j)) n 0
   | _=>.fail
 | _,_=>.fail
instance (e:ET):Inhabited e.T:=match e with
 | .i _=>⟨(0:Int)⟩ | .u64=>⟨(0:BitVec 64)⟩ | .str=>⟨([]:List UInt8)⟩ | .mv=>⟨(default:Mv)⟩ | .pos=>⟨(default:Pos)⟩
def B6 (P:Program) (t:TypeId) (x ix:AV):Tr AV :=
 match P.underlying t,x with
 | some (.array n e),x=>sX P n e x ix
 | some (.slice t'),.list e l _ =>
  match idxOf ix with
  | some (_,i)=>if bN P t'=some (lr e) then .guard (decide (0≤i)&&decide (i<l.length)) (.ret (.ptrf (enc _ (l.getD i.toNat default)))) else .fail
  | none=>.fail
 | some (.slice t'),.vlist _ l =>
  match bN P t' with
  | some m =>
   if 0<m∧l.all (fun v=>storable v&&iH v==m)=true then
    match idxOf ix with
    | some (true,i)=>if 0≤i then Tr.opt ((l[i.toNat]?).map .ptrf) else .fail
    | some (false,i)=>.guard (decide (0≤i)&&decide (i<l.length)) (jw i (fun j=>Tr.opt ((l[j]?).map .ptrf)) l.length 0)
    | none=>.fail
   else .fail
  | none=>.fail
 | some (.slice t'),.vany _ l =>
  match bN P t' with
  | some m =>
   if 0<m∧l.all (fun v=>storable v&&iH v==m)=true then
    match idxOf ix with
    | some (true,i)=>if 0≤i then Tr.opt ((l[i.toNat]?).map .ptrf) else .fail
    | some (false,i)=>.guard (decide (0≤i)&&decide (i<l.length)) (jw i (fun j=>Tr.opt ((l[j]?).map .ptrf)) l.length 0)
    | none=>.fail
   else .fail
  | none=>.fail
 | some (.slice e),.vsl b o n =>
  match bN P e,idxOf ix with
  | some 1,some (_,i)=>.guard (decide (0≤i)&&decide (i<n)) (.ret (.ptri b o n i 1))
  | _,_=>.fail
 | _,_=>.fail
def C4 (P:Program) (t:TypeId) (x ix:AV):Tr AV :=
 match P.underlying t,x,idxOf ix with
 | some (.array n e),.agg l,some (true,i) =>
  match bN P e with
  | some m=>if 0≤i∧i<n then Tr.opt (gL P e l (i.toNat * m)) else .fail
  | none=>.fail
 | some (.array n e),.agg l,some (false,i) =>
  match bN P e with
  | some m =>
   .guard (decide (0≤i)&&decide (i<n)) <|
    match b7 P e,(P.underlying e).isSome,l with
    | false,true,[.ints k n' l]=>if m=1∧n'=n then .ret (.int k (l.getD i.toNat 0)) else .fail
    | true,true,[.ints k n' l]=>if n'=n * m then .ret (.agg [.ints k m ((l.drop (i.toNat * m)).take m)]) else .fail
    | _,_,_=>jw i (fun j=>Tr.opt (gL P e l (j * m))) n 0
  | none=>.fail
 | some .string,.str s,some (_,i) =>
  .guard (decide (0≤i)&&decide (i<s.length)) (.ret (.int .u8 (((s[i.toNat]?).getD 0).toNat:Int)))
 | _,_,_=>.fail
def oK (n:Nat) (lo hi:Option AV):Option (Bool×Nat×Nat) :=
 match lo.map idxOf,hi.map idxOf with
 | none,none=>some (true,0,n)
 | some (some (_,l)),none=>some (decide (0≤l)&&decide (l≤n),l.toNat,n)
 | none,some (some (_,h))=>some (decide (0≤h)&&decide (h≤n),0,h.toNat)
 | some (some (_,l)),some (some (_,h))=>some (decide (0≤l)&&decide (l≤h)&&decide (h≤n),l.toNat,h.toNat)
 | _,_=>none
def Cv (P:Program) (t:TypeId) (x:AV) (lo hi:Option AV):Tr AV :=
 match P.underlying t,x with
 | some .string,.str s =>
  match oK s.length lo hi with
  | some (ok,l,h)=>.guard ok (.ret (.str ((s.take h).drop l)))
  | none=>.fail
 | some (.slice _),.list e s k =>
  match oK s.length lo hi,cQ P t with
  | some (ok,l,h),some e'=>if e'=e then .guard ok (.ret (.list e ((s.take h).drop l) k.res)) else .fail
  | _,_=>.fail
 | some (.array n e),.ptr b o=>if lo.isNone&&hi.isNone&&bN P e=some 1 then .ret (.vsl b o n) else .fail
 | _,_=>.fail
def jP (place:Nat→Option (Nat×Nat)):List AV→List (Nat×AV)→Option (List AV)
 | l,[]=>some l
 | l,(i,v)::rest =>
  (place i).bind fun (o,m) =>
   if storable v&&0<iH v&&iH v==m then (mq l o (bx v)).bind fun l'=>jP place l' rest else none
def CW (P:Program) (t:TypeId) (parts:List (Nat×AV)):Option AV :=
 (mY P t).bind fun z =>
  match P.underlying t with
  | some (.struct fs)=>if fs.toList.all (fun f=>(bN P f.type).isSome) then (jP (fun i=>(fs[i]?).bind fun f=>(bN P f.type).map fun m=>(f.offset,m)) z parts).map .agg else none
  | some (.array _ e)=>(bN P e).bind fun m=>(jP (fun i=>some (i * m,m)) z parts).map .agg
  | _=>none
def mz:List AV→List (Nat×AV)→Option (List AV)
 | l,[]=>some l
 | l,(i,v)::rest=>if i<l.length&&storable v then mz (l.set i v) rest else none
def valOf (P:Program) (t:TypeId) (l:List AV):Option AV :=
 if b7 P t then some (.agg l) else match l with | [v]=>some v | _=>none
def mi (P:Program) (t:TypeId) (n:Nat) (parts:List (Nat×AV)):Option AV :=
 match P.underlying t with
 | some (.slice e) =>
  (mY P e).bind fun z=>(valOf P e z).bind fun v=>(bN P e).bind fun m =>
   if n * m≤4096&&0<m&&storable v&&iH v==m&&parts.all (fun p=>iH p.2==m) then (mz (List.replicate n v) parts).map (.vlist true) else none
 | _=>none
def GI (P:Program) (t:TypeId):Option ET:=if t=WU then match P.underlying t with
 | some (.struct fs)=>match fs.toList with
  | [a,b]=>match P.underlying a.type with
   | some (.pointer u)=>if u=t then cQ P b.type else none
   | _=>none
  | _=>none
 | _=>none else none
def cJ (P:Program) (h:Hp) (t:TypeId) (l:List AV):Hp×AV :=
 match l,cQ P t,GI P t with
 | [.nilsl],some e,_=>({ h with heap:=h.heap++[[.list e [] (.own h.al.length)]],al:=h.al++[0] },.ptr h.heap.length 0)
 | [.nilptr,.nilsl],_,some e=>({ h with heap:=h.heap++[[.slf h.heap.length,.list e [] (.own h.al.length)]],al:=h.al++[0] },.ptr h.heap.length 0)
 | _,_,_=>({ h with heap:=h.heap++[l] },.ptr h.heap.length 0)
def hM (P:Program) (h:Hp) (t:TypeId) (isNil:Bool) (v:AV):Hp×AV :=
 match isNil,cQ P t with
 | true,some e=>({ h with al:=h.al++[0] },.list e [] (.own h.al.length))
 | _,_=>(h,v)
def e8 (e:ET):AV→Option (List e.T)
 | .list e' l _=>if h:e'=e then some (h ▸ l) else none
 | .vlist _ l=>kH e l
 | .nilsl=>some []
 | _=>none
def ub (n:Int):UInt8:=UInt8.ofNat n.toNat
def uz (x:UInt8):Int:=(x.toNat:Int)
def oX (P:Program) (s d:TypeId):Bool:=match P.underlying s,P.underlying d with
 | some (.slice e),some .string=>match P.underlying e with
  | some (.int .u8)=>true
  | _=>false
 | _,_=>false
def conv (P:Program) (s d:TypeId) (x:AV):Tr AV:=match oX P s d with
 | true=>match e8 (.i .u8) x with
  | some l=>.ret (.str (List.map ub l))
  | none=>.fail
 | false=>I1 P s d x
def iV (h:Hp) (e:ET) (s x:AV):Tr cW :=
 match s,e8 e x with
 | .list e' l (.own k),some xs =>
  if he:e'=e then
   (if h.rE≤k∧k<h.al.length then
    .guard (h.al.getD k 0==l.length&&decide (l.length+xs.length≤wU))
     (.ret (.val (.list e ((he ▸ l)++xs) (.own k)) { h with al:=h.al.set k ((he ▸ l)++xs).length }))
   else .fail)
  else .fail
 | .nilsl,some xs=>.guard (decide (xs.length≤wU)) (.ret (.val (.list e xs (.own h.al.length)) { h with al:=h.al++[xs.length] }))
 | .vlist _ l,some (x::xs) =>
  match kH e l with
  | some ys=>.guard (decide (ys.length+(x::xs).length≤wU)) (.ret (.val (.list e (ys++x::xs) (.own h.al.length)) { h with al:=h.al++[ys.length+(x::xs).length] }))
  | none=>.fail
 | _,_=>.fail
def y7 (P:Program) (h:Hp) (t:TypeId) (s x:AV):Tr cW :=
 match s,x,P.underlying t with
 | .vlist _ l,.vlist _ xs,some (.slice el) =>
  match P.info? el with
  | some i =>
   if i.zero.map (·.cells.size)=some 1∧i.size=1∧0<i.bytes∧i.bytes≤131072∧(l.all fun a=>cM (bx a)==1)=true∧(xs.all fun a=>cM (bx a)==1)=true∧0<l.length∧0<xs.length∧l.length+xs.length≤4000 then
    (if xs.length=1 then .ret (.val (.vany (.own h.al.length) (l++xs)) { h with al:=(h.al++[0]).set h.al.length (l.length+xs.length) })
    else .ret (.val (.vany .fresh (l++xs)) { h with al:=(h.al++[0]).set h.al.length 4096 })) else .fail
  | none=>.fail
 | .vany (.own k) l,.vlist _ xs,some (.slice el) =>
  match P.info? el with
  | some i =>
   if i.zero.map (·.cells.size)=some 1∧i.size=1∧0<i.bytes∧i.bytes≤131072∧(l.all fun a=>cM (bx a)==1)=true∧(xs.all fun a=>cM (bx a)==1)=true∧0<l.length∧0<xs.length∧l.length+xs.length≤4000 then
    (if h.rE≤k∧h.al[k]?=some l.length then .ret (.val (.vany .fresh (l++xs)) { h with al:=h.al.set k 4096 }) else .fail) else .fail
  | none=>.fail
 | _,_,_=>.fail
def yL (b:List UInt8):AV := .list (.i .u8) (b.map uz) .arg
def CL (P:Program) (t:TypeId):Bool:=match P.underlying t with
 | some .string=>true
 | _=>false
def F6 (d:TypeDesc) (x:AV):Option AV :=
 match d,x with
 | .slice _,.list _ l _=>some (.int .i64 l.length)
 | .slice _,.vlist _ l=>some (.aE .i64 l.length)
 | .slice _,.vany _ l=>some (.aE .i64 l.length)
 | .slice _,.vsl _ _ n=>some (.aE .i64 n)
 | .slice _,.nilsl=>some (.aE .i64 0)
 | .string,.str s=>some (.int .i64 s.length)
 | .array n _,_=>some (.aE .i64 n)
 | _,_=>none
def uC (isMax:Bool) (x y:AV):Option AV :=
 match HE x,HE y with
 | some (c,k,a),some (c',k',b)=>if k=k' then some (Qi (c&&c') k (if isMax then (if b>a then b else a) else (if b<a then b else a))) else none
 | _,_=>none
def mM (isMax:Bool):AV→List AV→Option AV
 | x,[]=>some x
 | x,y::rest=>(uC isMax x y).bind fun z=>mM isMax z rest
def zJ (P:Program) (t:TypeId):Bool:=match P.underlying t with
 | some (.interface _)=>false
 | some _=>true
 | none=>false
def xf (P:Program) (u:TypeId) (v:AV) (t:TypeId):Option AV :=
 if zJ P t&&u==t then some (.tuple [v,.aL true]) else none
inductive bY where
 | ret (v:AV) (h:Hp)
 | panic (v:AV) (h:Hp)
structure Env where
 P:Program
 pf:Nat→Bool
 G:Nat→List AV→Tr AV
 kill:Nat→Nat→List Nat
 pj:Nat→Code→Option (St→Tr Out)
 call:Nat→List AV→Hp→Tr bY
 loop:Nat→Code→St→Tr Out
def snap (h:Hp):AV→AV
 | .vsl b o n=>match (dj h b).bind fun l=>fT l o n with
  | some (k,l)=>.list (.i k) l .arg
  | none=>.any
 | .ptr b 0=>match dj h b with
  | some l=>.ptrf (.agg l)
  | none=>.any
 | v=>v
def iv (n:Nat):List dT→Bool
 | []=>true
 | r::rs=>bM n r.tmps&&iv n rs
def gH (n:Nat):Nat→List (List AV)→Bool
 | 0,_=>true
 | _,[]=>true
 | m+1,b::bs=>bM n b&&gH n m bs
def fW (n:Nat) (v:AV) (h:Hp):Hp :=
 if aQ n v&&gH n n h.heap&&iv n h.loops then { h with heap:=h.heap.take n } else h
def EI (h:Hp):Hp:={ h with lo:=h.heap.length,rE:=h.al.length,pt:=h.loops.length }
def sG (E:Env) (quiet:Bool) (h:Hp) (f:Nat) (args:List AV):Tr cW :=
 if E.pf f then
  let as1:=cz true (args.map (snap h))
  if lG as1 then (E.G f as1).bind fun v=>.ret (.val v h) else .fail
 else if quiet then (E.call f args (EI h)).bind fun
  | .ret v _=>if aQ h.heap.length v then .ret (.val (strip false v) h) else .fail
  | .panic _ _=>.fail
 else (E.call f args h).bind fun
  | .ret v h'=>.ret (.val v (fW h.heap.length v h'))
  | .panic v h'=>.ret (.pan v h')
def aJ (tmps:List AV):Operand→AV
 | .tmp t=>tmps.getD t .any
 | .const v=>Wx v
 | .func f=>.func f [] []
 | .global _=>.any
def GP (tmps:List AV):Operand→AV
 | .global g=>match v7.lookup g with
  | some (k,l)=>.ptrf (.agg [.ints k l.length l])
  | none=>.any
 | x=>aJ tmps x
def xU (s:List UInt8) (n:Int):Int:=((Utf8.decode ⟨s.toArray⟩ n.toNat).1:Int)
def mC (s:List UInt8) (n:Int):Int:=((Utf8.decode ⟨s.toArray⟩ n.toNat).2:Int)
def eD (h:Hp) (l:Nat) (r:dT):Hp:={ h with loops:=h.loops.set l r }
def mK:List AV→List Nat→List AV→List AV
 | t,p::ps,v::vs=>mK (t.set p v) ps vs
 | t,_,_=>t
def gq:Operand→Bool
 | .const (.slice none 0 0)=>true
 | _=>false
def wI (l st:Nat) (eu:Option Code) (v:Bool) (s:St):Tr cW :=
 match s.hp.loops[l]? with
 | some r=>.ret (.val (.aL v) (eD s.hp l { r with state:=st,eu:=eu }))
 | none=>.fail
def round (code:Nat→Code→St→Tr Out) (h:Hp) (l:Nat) (args:List AV):Tr cW :=
 match h.loops[l]? with
 | none=>.fail
 | some r =>
  if h.pt≤l∧args.length=r.params.length then
   (code r.fn r.assign ⟨mK r.tmps r.params args,h⟩).bind fun
    | .norm s =>
     match s.hp.loops[l]? with
     | none=>.fail
     | some r1 =>
      if r1.state=0 then
       (code r.fn r.body ⟨s.tmps,eD s.hp l { r1 with state:=1 }⟩).bind fun
        | .norm s'=>wI l 0 none true s'
        | .ret s'=>wI l 2 (some .ret) false s'
        | .exit id s'=>wI l 2 (some (.exit id)) false s'
        | .panic _ _=>.fail
      else .fail
    | _=>.fail
  else .fail
def cd (h:Hp) (v:Tr AV):Tr cW:=v.bind fun v=>.ret (.val v h)
def known (kn:List (Nat×Bool)):Operand→Option Bool
 | .tmp t=>kn.lookup t
 | _=>none
def aI (E:Env) (code:Nat→Code→St→Tr Out) (d:Bool) (kn:List (Nat×Bool)) (tmps:List AV) (h:Hp) (o:Oper):Tr cW :=
 match o.op with
 | .move x=>.ret (.val (aJ tmps x) h)
 | .assign x=>let (h',v):=hM E.P h o.type (gq x) (aJ tmps x); .ret (.val v h')
 | .pick c a b =>
  match known kn c with
  | some true=>.ret (.val (aJ tmps a) h)
  | some false=>.ret (.val (aJ tmps b) h)
  | none =>
   match aJ tmps c with
   | .aL true=>.ret (.val (aJ tmps a) h)
   | .aL false=>.ret (.val (aJ tmps b) h)
   | .bool t=>.br t (.ret (.val (aJ tmps a) h)) (.ret (.val (aJ tmps b) h))
   | _=>.fail
 | .alloc t=>match mY E.P t with
  | some l=>let (h',v):=cJ E.P h t l; .ret (.val v h')
  | none=>.fail
 | .box t x=>if storable (aJ tmps x) then (let (h',v):=cJ E.P h t (bx (aJ tmps x)); .ret (.val v h')) else .fail
 | .build t ps=>cd h (Tr.opt (CW E.P t (ps.toList.map fun p=>(p.1,aJ tmps p.2))))
 | .buildSlice t n ps=>cd h (Tr.opt (mi E.P t n (ps.toList.map fun p=>(p.1,aJ tmps p.2))))
 | .load t a=>cd h (Tr.opt (dS E.P h t (aJ tmps a)))
 | .store t a x=>match kK E.P h t (aJ tmps a) (aJ tmps x) with
  | some h'=>.ret (.val .undef h')
  | none=>.fail
 | .nilCheck x=>match aJ tmps x with
  | .ptr b f=>.ret (.val (.ptr b f) h)
  | .ptri b f n i m=>.ret (.val (.ptri b f n i m) h)
  | .ptrf v=>.ret (.val (.ptrf v) h)
  | .func f a b=>.ret (.val (.func f a b) h)
  | _=>.fail
 | .binOp op t x y _=>cd h (binop E.P (GH x || GH y) op t (aJ tmps x) (aJ tmps y))
 | .unOp op _ x=>cd h (unop op (aJ tmps x))
 | .convert s d x=>cd h (conv E.P s d (aJ tmps x))
 | .makeFunc (.func f) a b=>.ret (.val (.func f (a.toList.map (aJ tmps)) (b.toList.map (aJ tmps))) h)
 | .makeInterface t x=>if zJ E.P t then .ret (.val (.iface t (aJ tmps x)) h) else .fail
 | .slice t x lo hi none=>cd h (Cv E.P t (aJ tmps x) (lo.map (aJ tmps)) (hi.map (aJ tmps)))
 | .fieldAddr s x f=>match qG E.P s f,aJ tmps x with
  | some (d,_),.ptr b o=>.ret (.val (.ptr b (o+d)) h)
  | some (d,t),.ptrf v=>cd h (Tr.opt ((gL E.P t (bx v) d).map .ptrf))
  | _,_=>.fail
 | .field s x f=>match qG E.P s f,aJ tmps x with
  | some (d,t),.agg l=>cd h (Tr.opt (gL E.P t l d))
  | _,_=>.fail
 | .indexAddr t x i=>cd h (B6 E.P t (GP tmps x) (aJ tmps i))
 | .index t x i=>cd h (C4 E.P t (aJ tmps x) (aJ tmps i))
 | .extract x i=>match aJ tmps x with
  | .tuple l=>cd h (Tr.opt l[i]?)
  | _=>.fail
 | .typeAssert x _ t true=>match aJ tmps x with
  | .iface u v=>cd h (Tr.opt (xf E.P u v t))
  | _=>.fail
 | .range t x=>match E.P.underlying t,aJ tmps x with
  | some .string,.str s=>.ret (.val (.ptr h.heap.length 0) { h with heap:=h.heap++[[.itr s 0]] })
  | _,_=>.fail
 | .next x true=>match aJ tmps x with
  | .ptr b 0=>match h.heap[b]? with
   | some [.itr s n]=>if h.lo≤b then .br (decide (n<s.length)) (.ret (.val (.tuple [.aL true,.int .i64 n,.int .i32 (xU s n)]) (fi h b [.itr s (n+mC s n)]))) (.ret (.val (.tuple [.aL false]) h)) else .fail
   | _=>.fail
  | _=>.fail
 | .panic x=>match d,aJ tmps x with
  | false,.iface t v=>.ret (.pan (.iface t v) h)
  | _,_=>.fail
 | .call c =>
  match c.callee with
  | .builtin .len=>match c.args.toList.map (aJ tmps),c.argTypes.toList with
   | [x],[t]=>cd h (Tr.opt ((E.P.underlying t).bind fun d=>F6 d x))
   | _,_=>.fail
  | .builtin .append=>match c.args.toList.map (aJ tmps),c.argTypes.toList with
   | [s,x],[t,t']=>match cQ E.P t with
    | some e=>if t=t' then iV h e s (snap h x) else match x,CL E.P t' with
     | .str b,true=>iV h e s (yL b)
     | _,_=>.fail
    | none=>if t=t' then y7 E.P h t s x else .fail
   | _,_=>.fail
  | .builtin .max=>match c.args.toList.map (aJ tmps) with
   | x::rest=>cd h (Tr.opt (mM true x rest))
   | _=>.fail
  | .builtin .min=>match c.args.toList.map (aJ tmps) with
   | x::rest=>cd h (Tr.opt (mM false x rest))
   | _=>.fail
  | .value f =>
   match aJ tmps f with
   | .func g a b=>sG E d h g (a++c.args.toList.map (aJ tmps)++b)
   | .yield l=>if d then .fail else round code h l (c.args.toList.map (aJ tmps))
   | _=>.fail
  | _=>.fail
 | _=>.fail
def bE (tmps:List AV) (d:Option Nat) (v:AV):List AV :=
 match d with
 | some d=>tmps.set d v
 | none=>tmps
def Az (kn:List (Nat×Bool)) (d:Option Nat):List (Nat×Bool) :=
 match d with
 | some d=>kn.filter (fun p=>p.1 != d)
 | none=>kn
def kQ (E:Env) (code:Nat→Code→St→Tr Out) (d:Bool) (ops:Array Oper):List Oper→List (Nat×Bool)→St→Tr Out
 | [],_,s=>.ret (.norm s)
 | o::rest,kn,s =>
  let go (kn:List (Nat×Bool)):Tr Out:=(aI E code d kn s.tmps s.hp o).bind fun
   | .val v h=>kQ E code d ops rest (Az kn o.dst) ⟨bE s.tmps o.dst v,h⟩
   | .pan v h=>if d then .fail else .ret (.panic v h)
  let no (kn:List (Nat×Bool)):Tr Out:=kQ E code d ops rest (Az kn o.dst) ⟨bE s.tmps o.dst .undef,s.hp⟩
  match o.guard with
  | none=>go kn
  | some (j,want) =>
   match (ops[j]?).bind (·.dst) with
   | none=>.fail
   | some t =>
    match kn.lookup t with
    | some b=>if b==want then go kn else no kn
    | none =>
     match s.tmps.getD t .any with
     | .aL b=>if b==want then go kn else no kn
     | .undef=>no kn
     | .bool b=>if want then .br b (go ((t,true)::kn)) (no ((t,false)::kn)) else .br b (no ((t,true)::kn)) (go ((t,false)::kn))
     | _=>.fail
def cls (o:Oper):Nat :=
 match o.op with
 | .assign x=>if gq x then 2 else 0
 | .alloc _ | .box .. | .store .. | .range .. | .next .. => 2
 | .load .. => 1
 | .panic _=>3
 | .call c=>match c.callee with
  | .builtin .append=>2
  | .builtin _=>0
  | _=>1
 | _=>0
def ES (a b:Nat):Bool:=(a==2&&b != 0) || (b==2&&a != 0) || a==3 || b==3
def xr (o:Oper):Bool:=match o.op with
 | .load .. => true
 | _=>false
def yN (o:Oper):Bool:=match o.op with
 | .alloc _=>true
 | _=>false
def rI (pf:Nat→Bool) (o:Oper):Bool:=match o.op with
 | .call c=>match c.callee with
  | .value (.func f)=>pf f
  | _=>false
 | _=>false
def eH (pf:Nat→Bool) (p o:Oper):Bool:=ES (cls p) (cls o)&&!((xr p || rI pf p)&&yN o)
def aS (ops:Array Oper):Nat→Nat→Nat→Bool
 | 0,_,_=>false
 | n+1,j,i=>match ops[j]? with
  | some o=>(o.after.any fun e=>e.on==i&&Region.binds .any e) || o.after.any fun e=>Region.binds .any e&&aS ops n e.on i
  | none=>false
def ng:AV→Option Nat
 | .ptr b _ | .ptri b .. => some b
 | _=>none
def addrOf (o:Oper):Option (Bool×Nat):=match o.op with
 | .load _ (.tmp t)=>some (true,t)
 | .store _ (.tmp t) _=>some (false,t)
 | _=>none
def alias (ops:Array Oper) (fin:List AV) (i j:Nat) (p o:Oper):Bool :=
 match addrOf p,addrOf o with
 | some (x,t),some (y,u) =>
  x != y&&(match ng (fin.getD t .any),ng (fin.getD u .any) with
   | some b,some c=>b != c
   | _,_=>false)&&ops.toList.zipIdx.all fun (q,k)=>(q.dst != some t || decide (k<i))&&(q.dst != some u || (decide (k<j)&&aS ops 6 j k))
 | _,_=>false
def gS (pf:Nat→Bool) (ops:Array Oper) (fin:Option (List AV)):Bool :=
 let l:=ops.toList.zipIdx
 l.all fun (o,j)=>(!(o.op matches .select ..))&&(o.after.all fun e => !Region.binds .any e || decide (e.on<j))&&l.all fun (p,i) => !(i<j) || aS ops 1 j i || (p.apart ops o&&!eH pf p o) || aS ops 6 j i || (match fin with
  | some f=>p.apart ops o&&alias ops f i j p o
  | none=>false)
mutual
def free (N:Nat):AV→Bool
 | .ptr b _ | .ptri b .. | .vsl b .. | .slf b => !(Nat.beq b N || Nat.beq b (N+1))
 | .agg l | .vlist _ l | .vany _ l | .tuple l=>fS N l
 | .ptrf v | .iface _ v=>free N v
 | .func _ a b=>fS N a&&fS N b
 | _=>true
def fS (N:Nat):List AV→Bool
 | []=>true
 | v::l=>free N v&&fS N l
end
def Be (N:Nat) (h:Hp):Bool:=h.heap.all (fS N)&&h.loops.isEmpty
def DD (ops:Array Oper) (i:Nat):Option (TypeId×Nat×Nat) :=
 match ops[i]?,ops[i+1]? with
 | some o,some p=>match o.op,p.op,o.guard,p.guard,o.dst,p.dst with
  | .alloc t,.alloc u,none,none,some a,some b=>if t=u∧a≠b then some (t,a,b) else none
  | _,_,_,_,_,_=>none
 | _,_=>none
def yq (pf:Nat→Bool) (ops:Array Oper) (i0:Nat):Bool :=
 let l:=ops.toList.zipIdx
 l.all fun (o,j)=>(o.after.all fun e => !Region.binds .any e || decide (e.on<j))&&l.all fun (p,i) => !(i<j) || (Nat.beq i i0&&Nat.beq j (i0+1)) || aS ops 6 j i || (p.apart ops o&&!eH pf p o)
def Fe (E:Env) (ops:Array Oper) (i0:Nat) (s s':St):Bool :=
 match DD ops i0,ops[i0+1]? with
 | some (t,a,b),some p=>((cQ E.P t).isNone&&(GI E.P t).isNone)&&yq E.pf ops i0&&(p.after.all fun e => !Region.binds .any e || !Nat.beq e.on i0) &&
  ((ops.toList.take i0).all fun q=>decide (cls q≤1))&&((ops.toList.drop (i0+2)).all fun q=>q.dst.isNone) &&
  ((List.range ops.size).all fun j=>decide (j<i0+2) || (List.range (i0+2)).all fun i=>aS ops 6 j i) &&
  Be s.hp.heap.length s.hp&&((mY E.P t).all fun l=>fS s.hp.heap.length l)&&(s'.tmps.zipIdx.all fun (v,i)=>Nat.beq i a || Nat.beq i b || free s.hp.heap.length v)
 | _,_=>false
def my (E:Env) (ops:Array Oper) (s s':St):Bool :=
 match (List.range ops.size).find? fun i=>(DD ops i).isSome with
 | some i=>Fe E ops i s s'
 | none=>false
def me:Nat→List AV→List Nat→List AV
 | _,[],_=>[]
 | _,a::l,[]=>a::l
 | i,a::l,t::ts=>bif Nat.beq i t then .any::me (i+1) l ts else a::me (i+1) l (t::ts)
def vO (tmps:List AV) (ts:List Nat):List AV:=me 0 tmps ts
def dq (pf:Nat→Bool) (o:Oper):Bool:=match o.op with
 | .call c=>match c.callee with
  | .builtin _=>false
  | .value (.func f) => !pf f
  | _=>true
 | _=>false
def Ex (ops:Array Oper) (i:Nat) (p:Oper):Bool:=p.guard.isNone&&(cls p==0 || match p.op with
 | .load _ (.tmp u)=>ops.toList.zipIdx.all fun (q,k)=>q.dst != some u || decide (k<i)
 | _=>false)
def yH (pf:Nat→Bool) (ops:Array Oper):Bool :=
 let l:=ops.toList.zipIdx
 l.all fun (o,j)=>(o.after.all fun e => !Region.binds .any e || decide (e.on<j))&&l.all fun (p,i) => !(i<j) || aS ops 1 j i || aS ops 5 j i ||
  (!dq pf p&&p.apart ops o&&bif dq pf o then Ex ops i p else !eH pf p o)
def eqA:AV→AV→Bool
 | .bool a,.bool b=>a==b
 | .aL a,.aL b=>a==b
 | .int k a,.int k' b=>k==k'&&a==b
 | .aE k a,.aE k' b=>k==k'&&a==b
 | .u64 a,.u64 b=>a==b
 | .str a,.str b=>a==b
 | .ints k n a,.ints k' n' b=>k==k'&&(n==n'&&a==b)
 | .ptr a n,.ptr b m=>a==b&&n==m
 | .nilptr,.nilptr=>true
 | .nilsl,.nilsl=>true
 | _,_=>false
def MY:List AV→List AV→Bool
 | [],[]=>true
 | a::l,b::m=>eqA a b&&MY l m
 | _,_=>false
def ym (h h':Hp):AV→Bool
 | .ptr b _ | .ptri b .. => match dj h b,dj h' b with
  | some l,some l'=>MY l l'
  | _,_=>false
 | .ptrf _=>true
 | _=>false
def sW (pf:Nat→Bool) (ops:Array Oper) (j:Nat) (s:St) (h:Hp):Bool :=
 (ops.toList.take j).zipIdx.all fun (p,i)=>dq pf p || aS ops 1 j i || aS ops 5 j i || match p.op with
  | .load _ (.tmp u)=>ym s.hp h (s.tmps.getD u .any)
  | _=>true
def opsOf (ops:Array Oper) (l:List Nat):List Oper:=l.filterMap fun i=>ops[i]?
def ss (E:Env) (code:Nat→Code→St→Tr Out) (ops:Array Oper):List Nat→List Nat→St→Tr Out
 | [],acc,s=>kQ E code true ops (opsOf ops acc.reverse) [] s
 | j::rest,acc,s =>
  match ops[j]? with
  | none=>.fail
  | some o =>
   match dq E.pf o with
   | false=>ss E code ops rest (j::acc) s
   | true=>(kQ E code true ops (opsOf ops acc.reverse) [] s).bind fun
    | .norm s1=>match o.guard with
     | some _=>.fail
     | none=>(aI E code false [] s1.tmps s1.hp o).bind fun
      | .val v h=>.br (sW E.pf ops j s1 h) (ss E code ops rest [] ⟨bE s1.tmps o.dst v,h⟩) .fail
      | .pan v h=>.ret (.panic v h)
    | _=>.fail
def mF (E:Env) (code:Nat→Code→St→Tr Out) (fn id:Nat) (ops:Array Oper) (draw:Bool) (s:St):Tr Out :=
 if draw&&!E.P.follows .mixedOrders then .fail else
 (kQ E code draw ops ops.toList [] s).bind fun
  | .norm s'=>if draw&&!(gS E.pf ops none || gS E.pf ops (some s'.tmps) || my E ops s s') then .fail else .ret (.norm ⟨vO s'.tmps (E.kill fn id),s'.hp⟩)
  | o=>.ret o
def yk (E:Env) (code:Nat→Code→St→Tr Out) (fn id:Nat) (ops:Array Oper) (s:St):Tr Out :=
 if !E.P.follows .mixedOrders || !yH E.pf ops then .fail else
 (ss E code ops (List.range ops.size) [] s).bind fun
  | .norm s'=>.ret (.norm ⟨vO s'.tmps (E.kill fn id),s'.hp⟩)
  | o=>.ret o
def lU (E:Env) (code:Nat→Code→St→Tr Out) (fn id:Nat) (ops:Array Oper) (draw:Bool) (s:St):Tr Out :=
 match draw with
 | false=>mF E code fn id ops false s
 | true=>match mF E code fn id ops true s with
  | .fail=>yk E code fn id ops s
  | t=>t
def toCode:Option Code→St→Tr Out
 | none,s=>.ret (.norm s)
 | some .ret,s=>.ret (.ret s)
 | some (.exit id),s=>.ret (.exit id s)
 | _,_=>.fail
def na (E:Env) (code:Nat→Code→St→Tr Out) (fn:Nat):Code→St→Tr Out
 | .skip,s=>.ret (.norm s)
 | .region id ops draw,s=>lU E code fn id ops draw s
 | .seq a b,s=>(na E code fn a s).bind fun
  | .norm s'=>na E code fn b s'
  | o=>.ret o
 | .cond c a b,s =>
  match aJ s.tmps c with
  | .aL true=>na E code fn a s
  | .aL false=>na E code fn b s
  | .bool t=>.br t (na E code fn a s) (na E code fn b s)
  | _=>.fail
 | .block id b,s=>(na E code fn b s).bind fun
  | .exit j s'=>if j==id then .ret (.norm s') else .ret (.exit j s')
  | o=>.ret o
 | .loop b,s =>
  match E.pj fn b with
  | some F=>F s
  | none=>(na E code fn b s).bind fun
   | .norm s'=>E.loop fn (.loop b) s'
   | o=>.ret o
 | .rangeFunc f ps as1 b,s =>
  match aJ s.tmps f with
  | .func g x y =>
   let l:=s.hp.loops.length
   let h:={ s.hp with loops:=s.hp.loops++[{ state:=0,eu:=none,fn:=fn,tmps:=s.tmps,params:=ps.toList,assign:=as1,body:=b }] }
   if E.pf g then .fail else
   (E.call g (x++[.yield l]++y) h).bind fun
    | .ret _ h'=>match h'.loops[l]? with
     | some r=>if r.state≠1 then toCode r.eu ⟨s.tmps,eD h' l { r with state:=3 }⟩ else .fail
     | none=>.fail
    | .panic v h'=>.ret (.panic v h')
  | _=>.fail
 | .exit id,s=>.ret (.exit id s)
 | .label _,s=>.ret (.norm s)
 | .scope b,s=>na E code fn b s
 | .ret,s=>.ret (.ret s)
 | _,_=>.fail
def gO (P:Program) (h:Hp) (tmps:List AV):List ResultVar→Option (List AV)
 | []=>some []
 | .tmp t::rest=>(gO P h tmps rest).map (tmps.getD t .any::·)
 | .cell a t::rest=>(dS P h t (tmps.getD a .any)).bind fun v=>(gO P h tmps rest).map (v::·)
def oneOf:List AV→AV
 | [v]=>v
 | l=>.tuple l
def finish (P:Program) (fn:Func) (s:St):Tr bY :=
 match gO P s.hp s.tmps fn.results.toList with
 | some l=>.ret (.ret (oneOf l) s.hp)
 | none=>.fail
def tS (E:Env) (code:Nat→Code→St→Tr Out):Code→St→Tr Out
 | .skip,s=>.ret (.norm s)
 | .region id ops draw,s=>lU { E with kill:=fun _ _=>[] } code 0 id ops draw s
 | .seq a b,s=>(tS E code a s).bind fun
  | .norm s'=>tS E code b s'
  | o=>.ret o
 | .cond c a b,s =>
  match aJ s.tmps c with
  | .aL true=>tS E code a s
  | .aL false=>tS E code b s
  | .bool t=>.br t (tS E code a s) (tS E code b s)
  | _=>.fail
 | .block id b,s=>(tS E code b s).bind fun
  | .exit j s'=>if j==id then .ret (.norm s') else .ret (.exit j s')
  | o=>.ret o
 | .exit id,s=>.ret (.exit id s)
 | .ret,s=>.ret (.ret s)
 | _,_=>.fail
def G0:Nat:=1000000007
def uY (E:Env) (code:Nat→Code→St→Tr Out) (ops:Array Oper):List Oper→St→Tr Out
 | [],s=>.ret (.norm s)
 | o::os,s=>(kQ E code false ops [o] [] s).bind fun
  | .norm s'=>uY E code ops os s'
  | .panic v h=>.ret (.exit G0 ⟨v::s.tmps,h⟩)
  | _=>.fail
def yn (E:Env) (code:Nat→Code→St→Tr Out):Code→St→Tr Out
 | .skip,s=>.ret (.norm s)
 | .region _ ops false,s=>uY E code ops ops.toList s
 | .seq a b,s=>(yn E code a s).bind fun
  | .norm s'=>yn E code b s'
  | o=>.ret o
 | .cond c a b,s =>
  match aJ s.tmps c with
  | .aL true=>yn E code a s
  | .aL false=>yn E code b s
  | .bool t=>.br t (yn E code a s) (yn E code b s)
  | _=>.fail
 | .block id b,s=>(yn E code b s).bind fun
  | .exit j s'=>if j==G0 then .ret (.exit j s') else if j==id then .ret (.norm s') else .ret (.exit j s')
  | o=>.ret o
 | .exit id,s=>if id==G0 then .fail else .ret (.exit id s)
 | .ret,s=>.ret (.ret s)
 | _,_=>.fail
def oo (ops:Array Oper):Option Nat :=
 match ops.toList.getLast? with
 | some o=>match o.op,o.guard,o.dst with
  | .defer c,none,none=>match c.callee with
   | .value (.tmp u)=>if c.args.size=0 then some u else none
   | _=>none
  | _,_,_=>none
 | none=>none
def defers:Code→Bool
 | .seq (.region _ ops false) b=>(oo ops).isSome || defers b
 | .seq _ b=>defers b
 | _=>false
def DX (l:List AV):List Oper→Option (List AV)
 | []=>some l
 | [p]=>match p.op,p.guard with
  | .assign x,none=>some (bE l p.dst (aJ l x))
  | _,_=>none
 | _=>none
def mg (E:Env) (code:Nat→Code→St→Tr Out) (fd:Nat) (cv:List AV) (r:AV) (h:Hp):Tr Hp :=
 match E.P.funcs[fd]? with
 | some fn=>match fn.body with
  | some (.seq (.region _ ops false) rest)=>match ops.toList with
   | o::os=>match o.op,o.guard,o.dst with
    | .call c,none,some t=>match c.callee with
     | .builtin .recover=>if c.args.size=0∧fn.results.size=0 then
       match DX ((cv++List.replicate (fn.ntmps-cv.length) AV.undef).set t r) os with
       | some l=>(tS E code rest ⟨l,h⟩).bind fun
        | .norm s=>.ret s.hp
        | .ret s=>.ret s.hp
        | _=>.fail
       | none=>.fail
      else .fail
     | _=>.fail
    | _,_,_=>.fail
   | _=>.fail
  | _=>.fail
 | none=>.fail
def Cq (E:Env) (code:Nat→Code→St→Tr Out) (f:Nat) (fn:Func) (ops:Array Oper) (u:Nat) (rest:Code) (s:St):Tr bY :=
 (kQ E code false ops ops.toList.dropLast [] s).bind fun
 | .norm s2=>match s2.tmps.getD u .any with
  | .func fd [] cv=>(na E code f rest s2).bind fun
   | .norm s3=>(mg E code fd cv .niliface s3.hp).bind fun h4=>finish E.P fn ⟨s3.tmps,h4⟩
   | .ret s3=>(mg E code fd cv .niliface s3.hp).bind fun h4=>finish E.P fn ⟨s3.tmps,h4⟩
   | .panic _ _=>(yn E code rest s2).bind fun
    | .exit j ⟨.iface t v::tmps,h3⟩=>if j==G0 then (mg E code fd cv (.iface t v) h3).bind fun h4=>finish E.P fn ⟨tmps,h4⟩ else .fail
    | _=>.fail
   | _=>.fail
  | _=>.fail
 | _=>.fail
def kx (E:Env) (code:Nat→Code→St→Tr Out) (f:Nat) (fn:Func):Code→St→Tr bY
 | .seq (.region id ops false) b,s=>match oo ops with
  | some u=>Cq E code f fn ops u b s
  | none=>(tS E code (.region id ops false) s).bind fun
   | .norm s1=>kx E code f fn b s1
   | _=>.fail
 | .seq a b,s=>(tS E code a s).bind fun
  | .norm s1=>kx E code f fn b s1
  | _=>.fail
 | _,_=>.fail
def Co (E:Env) (code:Nat→Code→St→Tr Out) (f:Nat) (args:List AV) (h:Hp):Tr bY :=
 match E.P.funcs[f]? with
 | none=>.fail
 | some fn=>match fn.body with
  | none=>.fail
  | some c=>match defers c with
   | true=>kx E code f fn c ⟨args++List.replicate (fn.ntmps-args.length) .undef,h⟩
   | false =>
    (na E code f c ⟨args++List.replicate (fn.ntmps-args.length) .undef,h⟩).bind fun
     | .norm s=>finish E.P fn s
     | .ret s=>finish E.P fn s
     | .panic v h'=>.ret (.panic v h')
     | .exit .. => .fail
structure aw where
 P:Program
 pf:Nat→Bool
 G:Nat→List AV→Tr AV
 kill:Nat→Nat→List Nat
 pj:Nat→Code→Option (St→Tr Out)
 FY:Nat→Option (List AV→Hp→Tr bY)
mutual
def O2 (B:aw):Nat→Nat→List AV→Hp→Tr bY
 | 0,_,_,_=>.fail
 | n+1,f,args,h =>
  match B.FY f with
  | some F=>F args h
  | none=>Co { B with call:=O2 B n,loop:=Bz B n } (Bz B n) f args h
def Bz (B:aw):Nat→Nat→Code→St→Tr Out
 | 0,_,_,_=>.fail
 | n+1,fn,c,s=>na { B with call:=O2 B n,loop:=Bz B n } (Bz B n) fn c s
end
def u7:Hp:=⟨[],[],[],0,0,0⟩
def db (B:aw) (n:Nat) (f:Nat) (args:List AV):Tr AV :=
 (O2 B n f args u7).bind fun
  | .ret v _=>if fh v&&bz v then .ret (strip false v) else .fail
  | .panic _ _=>.fail
end Kz
end
noncomputable section
namespace Kz
open Go Go.RowKit
structure Gh where
 base:Nat
 fz:Nat→Nat→Prop
 vars:List Nat
 own:List (Option (Nat×Nat×Nat))
 loops:List Nat
 defs:List Nat
def At (g:Gh) (w:World) (c o:Nat) (cs:List Value):Prop :=
 ∀ j x,cs[j]?=some x→w.cell? ⟨c,o+j,none⟩=some x∧g.fz c (o+j)
def jU (g:Gh) (w:World) (fresh:Prop) (a:Option Addr) (cs:List Value):Prop :=
 cs=[]∨∃ c o,a=some ⟨c,o,none⟩∧At g w c o cs∧(fresh→g.base≤c)
def aa2 (z:Nat) (len cap:Nat) (a:Option Addr):Option (Nat×Nat×Nat)→Prop
 | none=>a=none∧len=0∧cap=0
 | some (b,cap',z')=>z'=z∧a=some ⟨b,0,none⟩∧cap=cap'
def jc (g:Gh) (tk:List Nat) (z:Nat) (t:Tk) (len cap:Nat) (a:Option Addr):Prop :=
 ∀ k,t=.own k→∃ n,tk[k]?=some n∧len≤n∧(len=n→∃ ow,g.own[k]?=some ow∧aa2 z len cap a ow)
mutual
inductive aP (g:Gh) (tk:List Nat) (w:World):AV→Value→Prop
 | any (v:Value):aP g tk w .any v
 | undef:aP g tk w .undef Go.undef
 | bool (b:Bool):aP g tk w (.bool b) (.bool b)
 | aL (b:Bool):aP g tk w (.aL b) (.bool b)
 | int (k:IntKind) (n:Int):aP g tk w (.int k n) (.int k n)
 | aE (k:IntKind) (n:Int):aP g tk w (.aE k n) (.int k n)
 | u64 (x:BitVec 64):aP g tk w (.u64 x) (.int .u64 (x.toNat:Int))
 | str {l:List UInt8} {s:ByteArray} (h:s.data.toList=l):aP g tk w (.str l) (.string s)
 | agg {l:List AV} {cs:Array Value} (h:ax g tk w l cs.toList):aP g tk w (.agg l) (.agg cs)
 | ptr {b o c:Nat} (h:g.vars[b]?=some c):aP g tk w (.ptr b o) (.pointer (some ⟨c,o,none⟩))
 | ptri {b o n:Nat} {i:Int} {m c o':Nat} (h:g.vars[b]?=some c) (h0:0≤i) (h1:i.toNat+m≤n) (h2:o'=o+i.toNat):aP g tk w (.ptri b o n i m) (.pointer (some ⟨c,o',none⟩))
 | ptrf {v:AV} {c o:Nat} {cs:List Value} (h:ax g tk w (bx v) cs) (ha:At g w c o cs):aP g tk w (.ptrf v) (.pointer (some ⟨c,o,none⟩))
 | nilptr:aP g tk w .nilptr (.pointer none)
 | slf {b c:Nat} {a:Option Addr} (h:g.vars[b]?=some c) (ha:a=none∨a=some ⟨c,0,none⟩) (hs:w.shape? c=some (WU,2)):aP g tk w (.slf b) (.pointer a)
 | list {e:ET} {l:List e.T} {t:Tk} {a:Option Addr} {n cap:Nat} {cs:List Value} (hn:n=l.length) (h:bp g tk w (l.map (enc e)) cs) (ha:jU g w (t≠.arg) a cs)
   (ht:jc g tk (Ng e) t n cap a) (hc:l.length≤cap):aP g tk w (.list e l t) (.slice a n cap)
 | vlist {fr:Bool} {l:List AV} {a:Option Addr} {n cap:Nat} {cs:List Value} (hn:n=l.length) (h:bp g tk w l cs) (ha:jU g w (fr=true) a cs) (hc:cap=l.length):aP g tk w (.vlist fr l) (.slice a n cap)
 | vany {t:Tk} {l:List AV} {a:Option Addr} {n cap:Nat} {cs:List Value} (hn:n=l.length) (h:bp g tk w l cs) (ha:jU g w (t≠.arg) a cs) (ht:jc g tk 1 t n cap a) (hc:l.length≤cap):aP g tk w (.vany t l) (.slice a n cap)
 | vsl {b o n c:Nat} (h:g.vars[b]?=some c):aP g tk w (.vsl b o n) (.slice (some ⟨c,o,none⟩) n n)
 | nilsl:aP g tk w .nilsl (.slice none 0 0)
 | func {f:Nat} {a b:List AV} {x y:Array Value} (ha:aB g tk w a x.toList) (hb:aB g tk w b y.toList):aP g tk w (.func f a b) (.func (.func f) x y)
 | yield {l c:Nat} (h:g.loops[l]?=some c):aP g tk w (.yield l) (.func (.yield c) #[] #[])
 | nilfunc:aP g tk w .nilfunc .nilFunc
 | iface {t:Nat} {v:AV} {x:Value} (h:aP g tk w v x):aP g tk w (.iface t v) (.iface t x)
 | niliface:aP g tk w .niliface .nilIface
 | tuple {l:List AV} {vs:Array Value} (h:aB g tk w l vs.toList):aP g tk w (.tuple l) (.tuple vs)
inductive ax (g:Gh) (tk:List Nat) (w:World):List AV→List Value→Prop
 | nil:ax g tk w [] []
 | ints {k:IntKind} {n:Nat} {l:List Int} {rest:List AV} {cs xs:List Value} (hl:l.length=n) (hx:xs=l.map (Value.int k)++cs) (h:ax g tk w rest cs):ax g tk w (.ints k n l::rest) xs
 | one {s:AV} {c:Value} {rest:List AV} {cs:List Value} (hs:aD s=true) (h:aP g tk w s c) (hr:ax g tk w rest cs):ax g tk w (s::rest) (c::cs)
inductive aB (g:Gh) (tk:List Nat) (w:World):List AV→List Value→Prop
 | nil:aB g tk w [] []
 | cons {s:AV} {c:Value} {rest:List AV} {cs:List Value} (h:aP g tk w s c) (hr:aB g tk w rest cs):aB g tk w (s::rest) (c::cs)
inductive bp (g:Gh) (tk:List Nat) (w:World):List AV→List Value→Prop
 | nil:bp g tk w [] []
 | cons {s:AV} {c:List Value} {rest:List AV} {cs xs:List Value} (hs:storable s=true) (hx:xs=c++cs) (h:ax g tk w (bx s) c) (hr:bp g tk w rest cs):bp g tk w (s::rest) xs
end
structure Le (g:Gh) (tk:List Nat) (w:World) (g':Gh) (tk':List Nat) (w':World):Prop where
 base:g'.base=g.base
 below:Below g.base w w'
 fz:∀ c o,g.fz c o→g'.fz c o
 cell:∀ c o x,g.fz c o→w.cell? ⟨c,o,none⟩=some x→w'.cell? ⟨c,o,none⟩=some x
 vars:∀ (i c:Nat),g.vars[i]?=some c→g'.vars[i]?=some c
 loops:∀ (i c:Nat),g.loops[i]?=some c→g'.loops[i]?=some c
 defs:∀ D,D∈g.defs→D∈g'.defs
 tok:∀ (k n:Nat),tk[k]?=some n→∃ n',tk'[k]?=some n'∧n≤n'∧(n'=n→g'.own[k]?=g.own[k]?)
 shape:∀ (i c:Nat),g.vars[i]?=some c→w'.shape? c=w.shape? c
theorem Le.refl (g:Gh) (tk:List Nat) (w:World):Le g tk w g tk w :=
 ⟨rfl,Below.refl _ _,fun _ _ h=>h,fun _ _ _ _ h=>h,fun _ _ h=>h,fun _ _ h=>h,fun _ h=>h,fun _ n h=>⟨n,h,Nat.le_refl _,fun _=>rfl⟩,fun _ _ _=>rfl⟩
theorem Le.trans {g1 g2 g3:Gh} {t1 t2 t3:List Nat} {w1 w2 w3:World} (h:Le g1 t1 w1 g2 t2 w2) (k:Le g2 t2 w2 g3 t3 w3):Le g1 t1 w1 g3 t3 w3 where
 base:=k.base.trans h.base
 below:=h.below.trans (h.base ▸ k.below)
 fz c o x:=k.fz c o (h.fz c o x)
 cell c o x hf hc:=k.cell c o x (h.fz c o hf) (h.cell c o x hf hc)
 vars i c x:=k.vars i c (h.vars i c x)
 loops i c x:=k.loops i c (h.loops i c x)
 defs D x:=k.defs D (h.defs D x)
 shape i c x:=(k.shape i c (h.vars i c x)).trans (h.shape i c x)
 tok j n x:=by
  obtain ⟨n',a,b,c⟩:=h.tok j n x
  obtain ⟨n'',a',b',c'⟩:=k.tok j n' a
  refine ⟨n'',a',Nat.le_trans b b',fun e=>?_⟩
  have e1:n'=n:=by omega
  subst e1
  rw [c' e,c rfl]
structure Lw (g:Gh) (tk:List Nat) (w:World) (g':Gh) (tk':List Nat) (w':World):Prop where
 base:g'.base≤g.base
 fz:∀ c o,g.fz c o→g'.fz c o
 cell:∀ c o x,g.fz c o→w.cell? ⟨c,o,none⟩=some x→w'.cell? ⟨c,o,none⟩=some x
 vars:∀ (i c:Nat),g.vars[i]?=some c→g'.vars[i]?=some c
 loops:∀ (i c:Nat),g.loops[i]?=some c→g'.loops[i]?=some c
 tok:∀ (k n:Nat),tk[k]?=some n→∃ n',tk'[k]?=some n'∧n≤n'∧(n'=n→g'.own[k]?=g.own[k]?)
 shape:∀ (i c:Nat),g.vars[i]?=some c→w'.shape? c=w.shape? c
theorem Le.lw {g g':Gh} {tk tk':List Nat} {w w':World} (h:Le g tk w g' tk' w'):Lw g tk w g' tk' w' :=
 ⟨Nat.le_of_eq h.base,h.fz,h.cell,h.vars,h.loops,h.tok,h.shape⟩
section mono
variable {g g':Gh} {tk tk':List Nat} {w w':World}
theorem At.bG (hle:Lw g tk w g' tk' w') {c o:Nat} {cs:List Value} (h:At g w c o cs):At g' w' c o cs :=
 fun j x hx=>⟨hle.cell _ _ _ (h j x hx).2 (h j x hx).1,hle.fz _ _ (h j x hx).2⟩
theorem jU.bG (hle:Lw g tk w g' tk' w') {p:Prop} {a:Option Addr} {cs:List Value} (h:jU g w p a cs):jU g' w' p a cs:=by
 rcases h with h | ⟨c,o,e,h1,h2⟩
 ·exact .inl h
 ·exact .inr ⟨c,o,e,h1.bG hle,fun hp=>Nat.le_trans hle.base (h2 hp)⟩
theorem jc.bG (hle:Lw g tk w g' tk' w') {z:Nat} {t:Tk} {len cap:Nat} {a:Option Addr} (h:jc g tk z t len cap a):jc g' tk' z t len cap a:=by
 intro k e
 obtain ⟨n,h1,h2,h3⟩:=h k e
 obtain ⟨n',k1,k2,k3⟩:=hle.tok k n h1
 refine ⟨n',k1,Nat.le_trans h2 k2,fun e=>?_⟩
 have e1:n'=n:=by omega
 obtain ⟨ow,h4,h5⟩:=h3 (by omega)
 exact ⟨ow,by rw [k3 e1];exact h4,h5⟩
mutual
theorem aP.bG (hle:Lw g tk w g' tk' w') {a:AV} {v:Value}:aP g tk w a v→aP g' tk' w' a v
 | .any v=>.any v
 | .undef=>.undef
 | .bool b=>.bool b
 | .aL b=>.aL b
 | .int k n=>.int k n
 | .aE k n=>.aE k n
 | .u64 x=>.u64 x
 | .str h=>.str h
 | .agg h=>.agg (ax.bG hle h)
 | .ptr h=>.ptr (hle.vars _ _ h)
 | .ptri h h0 h1 h2=>.ptri (hle.vars _ _ h) h0 h1 h2
 | .slf h ha hs=>.slf (hle.vars _ _ h) ha ((hle.shape _ _ h).trans hs)
 | .ptrf h ha=>.ptrf (ax.bG hle h) (ha.bG hle)
 | .nilptr=>.nilptr
 | .list hn h ha ht hc=>.list hn (bp.bG hle h) (ha.bG hle) (ht.bG hle) hc
 | .vlist hn h ha hc=>.vlist hn (bp.bG hle h) (ha.bG hle) hc
 | .vany hn h ha ht hc=>.vany hn (bp.bG hle h) (ha.bG hle) (ht.bG hle) hc
 | .vsl h=>.vsl (hle.vars _ _ h)
 | .nilsl=>.nilsl
 | .func ha hb=>.func (aB.bG hle ha) (aB.bG hle hb)
 | .yield h=>.yield (hle.loops _ _ h)
 | .nilfunc=>.nilfunc
 | .iface h=>.iface (aP.bG hle h)
 | .niliface=>.niliface
 | .tuple h=>.tuple (aB.bG hle h)
theorem ax.bG (hle:Lw g tk w g' tk' w') {a:List AV} {v:List Value}:ax g tk w a v→ax g' tk' w' a v
 | .nil=>.nil
 | .ints hl hx h=>.ints hl hx (ax.bG hle h)
 | .one hs h hr=>.one hs (aP.bG hle h) (ax.bG hle hr)
theorem aB.bG (hle:Lw g tk w g' tk' w') {a:List AV} {v:List Value}:aB g tk w a v→aB g' tk' w' a v
 | .nil=>.nil
 | .cons h hr=>.cons (aP.bG hle h) (aB.bG hle hr)
theorem bp.bG (hle:Lw g tk w g' tk' w') {a:List AV} {v:List Value}:bp g tk w a v→bp g' tk' w' a v
 | .nil=>.nil
 | .cons hs hx h hr=>.cons hs hx (ax.bG hle h) (bp.bG hle hr)
end
def BO (g:Gh) (tk:List Nat) (w:World) (l:List AV) (o:Obj):Prop :=
 (∃ cells ty,o=.cells cells ty (0,0)∧ax g tk w l cells.toList)∨(∃ s n bs,l=[.itr s n]∧o=.stringIter bs n.toNat∧bs.data.toList=s∧0≤n)
theorem BO.of {l:List AV} {cells:Array Value} {ty:TypeId} (h:ax g tk w l cells.toList):BO g tk w l (.cells cells ty (0,0)) := .inl ⟨cells,ty,rfl,h⟩
theorem BO.bG (hle:Lw g tk w g' tk' w') {l:List AV} {o:Obj} (h:BO g tk w l o):BO g' tk' w' l o:=h.imp (fun ⟨cs,ty,e,r⟩=>⟨cs,ty,e,r.bG hle⟩) id
theorem BO.mono (hle:Le g tk w g' tk' w') {l:List AV} {o:Obj} (h:BO g tk w l o):BO g' tk' w' l o:=h.bG hle.lw
theorem BO.EO {l:List AV} {R:Loop} (h:BO g tk w l (.loop R)):False:=by
 rcases h with ⟨_,_,e,_⟩ | ⟨_,_,_,_,e,_⟩<;>cases e
theorem BO.LP {l:List AV} {d:Option (List Deferred)} (h:BO g tk w l (.deferred d)):False:=by
 rcases h with ⟨_,_,e,_⟩ | ⟨_,_,_,_,e,_⟩<;>cases e
theorem BO.rep {l:List AV} {o:Obj} (h:BO g tk w l o) (hn:kT l=some l):∃ cells ty,o=.cells cells ty (0,0)∧ax g tk w l cells.toList:=by
 rcases h with h | ⟨s,n,bs,rfl,_⟩
 ·exact h
 ·cases hn
theorem At.mono (hle:Le g tk w g' tk' w') {c o:Nat} {cs:List Value} (h:At g w c o cs):At g' w' c o cs:=h.bG hle.lw
theorem jU.mono (hle:Le g tk w g' tk' w') {p:Prop} {a:Option Addr} {cs:List Value} (h:jU g w p a cs):jU g' w' p a cs:=h.bG hle.lw
theorem jc.mono (hle:Le g tk w g' tk' w') {z:Nat} {t:Tk} {len cap:Nat} {a:Option Addr} (h:jc g tk z t len cap a):jc g' tk' z t len cap a:=h.bG hle.lw
theorem aP.mono (hle:Le g tk w g' tk' w') {a:AV} {v:Value} (h:aP g tk w a v):aP g' tk' w' a v:=h.bG hle.lw
theorem ax.mono (hle:Le g tk w g' tk' w') {a:List AV} {v:List Value} (h:ax g tk w a v):ax g' tk' w' a v:=h.bG hle.lw
theorem aB.mono (hle:Le g tk w g' tk' w') {a:List AV} {v:List Value} (h:aB g tk w a v):aB g' tk' w' a v:=h.bG hle.lw
theorem bp.mono (hle:Le g tk w g' tk' w') {a:List AV} {v:List Value} (h:bp g tk w a v):bp g' tk' w' a v:=h.bG hle.lw
end mono
section rows
variable {g:Gh} {tk:List Nat} {w:World}
theorem aB.length {l:List AV} {vs:List Value} (h:aB g tk w l vs):l.length=vs.length:=by
 induction l generalizing vs with
 | nil=>cases h;rfl
 | cons a l ih=>cases h with | cons h hr=>simp [ih hr]
theorem aB.get {l:List AV} {vs:List Value} (h:aB g tk w l vs) (i:Nat) (a:AV) (ha:l[i]?=some a):∃ v,vs[i]?=some v∧aP g tk w a v:=by
 induction l generalizing vs i with
 | nil=>simp at ha
 | cons b l ih =>
  cases h with
  | cons h hr =>
   cases i with
   | zero=>simp at ha;subst ha;exact ⟨_,rfl,h⟩
   | succ i=>simp at ha;simpa using ih hr i ha
theorem aB.set {l:List AV} {vs:List Value} (h:aB g tk w l vs) {a:AV} {v:Value} (ha:aP g tk w a v) (i:Nat):aB g tk w (l.set i a) (vs.set i v):=by
 induction l generalizing vs i with
 | nil=>cases h;exact .nil
 | cons b l ih =>
  cases h with
  | cons h hr =>
   cases i with
   | zero=>exact .cons ha hr
   | succ i=>exact .cons h (ih hr i)
theorem aB.append {l m:List AV} {vs us:List Value} (h:aB g tk w l vs) (k:aB g tk w m us):aB g tk w (l++m) (vs++us):=by
 induction l generalizing vs with
 | nil=>cases h;exact k
 | cons b l ih=>cases h with | cons h hr=>exact .cons h (ih hr)
theorem aB.kW (n:Nat):aB g tk w (List.replicate n .undef) (List.replicate n Go.undef):=by
 induction n with
 | zero=>exact .nil
 | succ n ih=>exact .cons .undef ih
theorem aB.map {α:Type} (l:List α) (f:α→AV) (k:α→Value) (h:∀ x∈l,aP g tk w (f x) (k x)):aB g tk w (l.map f) (l.map k):=by
 induction l with
 | nil=>exact .nil
 | cons a l ih=>exact .cons (h a (by simp)) (ih fun x hx=>h x (by simp [hx]))
theorem ax.append {l m:List AV} {vs us:List Value} (h:ax g tk w l vs) (k:ax g tk w m us):ax g tk w (l++m) (vs++us):=by
 induction l generalizing vs with
 | nil=>cases h;exact k
 | cons b l ih =>
  cases h with
  | ints hl hx h=>exact .ints hl (by rw [hx,List.append_assoc]) (ih h)
  | one hs h hr=>exact .one hs h (ih hr)
theorem ax.df {cs:List Value} (h:ax g tk w [] cs):cs=[]:=by cases h;rfl
theorem ax.cE {k:IntKind} {n:Nat} {l:List Int} {rest:List AV} {cs:List Value} (h:ax g tk w (.ints k n l::rest) cs):l.length=n∧∃ r,cs=l.map (Value.int k)++r∧ax g tk w rest r:=by
 cases h with
 | ints hl hx h=>exact ⟨hl,_,hx,h⟩
 | one hs=>simp [aD] at hs
theorem ax.inv_one {s:AV} {rest:List AV} {cs:List Value} (hs:aD s=true) (h:ax g tk w (s::rest) cs):∃ c r,cs=c::r∧aP g tk w s c∧ax g tk w rest r:=by
 cases h with
 | ints=>simp [aD] at hs
 | one _ h hr=>exact ⟨_,_,rfl,h,hr⟩
theorem aP.e7 {l:List AV} {v:Value} (h:aP g tk w (.agg l) v):∃ cs,v=.agg cs∧ax g tk w l cs.toList:=by
 cases h with | agg h=>exact ⟨_,rfl,h⟩
theorem ax.length {l:List AV} {vs:List Value} (h:ax g tk w l vs):vs.length=cM l:=by
 induction l generalizing vs with
 | nil=>cases h;rfl
 | cons b l ih =>
  cases h with
  | ints hl hx h=>subst hx;simp [cM,ssize,ih h,hl]
  | one hs h hr =>
   have e:ssize b=1:=by cases b<;>first | rfl | simp [aD] at hs
   simp [cM,e]
   have:=ih hr
   simp [cM] at this
   omega
theorem ft {s:AV} (h:aD s=true):ssize s=1:=by cases s<;>first | rfl | simp [aD] at h
theorem ax.cell {l:List AV} {vs:List Value} (h:ax g tk w l vs) (o:Nat) (a:AV) (ha:fL l o=some a):∃ v,vs[o]?=some v∧aP g tk w a v:=by
 induction l generalizing vs o with
 | nil=>simp [fL,qE] at ha
 | cons b l ih =>
  cases h with
  | ints hl hx h =>
   rename_i k n xs cs
   subst hx
   simp only [fL,qE,ssize] at ha
   by_cases ho:o<n
   ·simp only [ho,if_true,Option.bind_some,cellOf] at ha
    obtain rfl:=Option.some.inj ha
    refine ⟨.int k (xs.getD o 0),?_,.int _ _⟩
    rw [List.getElem?_append_left (by simp;omega)]
    simp [I' (show o<xs.length by omega)]
   ·simp only [ho,if_false] at ha
    obtain ⟨v,h1,h2⟩:=ih h (o-n) ha
    refine ⟨v,?_,h2⟩
    rw [List.getElem?_append_right (by simp;omega)]
    simpa [hl] using h1
  | one hs h hr =>
   have e:=ft hs
   simp only [fL,qE,e] at ha
   cases o with
   | zero =>
    simp only [Nat.lt_one_iff,if_true,Option.bind_some] at ha
    have:cellOf b 0=some b:=by cases b<;>first | rfl | simp [aD] at hs
    rw [this] at ha
    obtain rfl:=Option.some.inj ha
    exact ⟨_,rfl,h⟩
   | succ o =>
    simp only [show ¬ (o+1<1) by omega,if_false,Nat.add_sub_cancel] at ha
    simpa using ih hr o ha
theorem ax.take {l:List AV} {vs:List Value} (h:ax g tk w l vs) (m:Nat) (l':List AV) (hl:gv l m=some l'):m≤vs.length∧ax g tk w l' (vs.take m):=by
 induction l generalizing vs m l' with
 | nil =>
  cases m with
  | zero=>simp [gv] at hl;subst hl;exact ⟨Nat.zero_le _,by simpa using ax.nil⟩
  | succ m=>simp [gv] at hl
 | cons b l ih =>
  cases m with
  | zero=>simp [gv] at hl;subst hl;exact ⟨Nat.zero_le _,by simpa using ax.nil⟩
  | succ m =>
   cases h with
   | ints hln hx h =>
    rename_i k n xs cs
    subst hx
    simp only [gv] at hl
    by_cases hnm:n≤m+1
    ·simp only [hnm,if_true,H'] at hl
     obtain ⟨r,hr,rfl⟩:=hl
     obtain ⟨h1,h2⟩:=ih h _ _ hr
     refine ⟨by simp;omega,.ints hln ?_ h2⟩
     rw [List.take_append,List.take_of_length_le (by simp;omega)]
     simp [hln]
    ·simp only [hnm,if_false,A'] at hl
     subst hl
     refine ⟨by simp;omega,.ints (by simp;omega) (cs:=[]) ?_ .nil⟩
     rw [List.take_append,List.append_nil,List.map_take,Nat.sub_eq_zero_of_le (by simp;omega)]
     simp
   | one hs h hr =>
    have:gv (b::l) (m+1)=(gv l m).map (b::·):=by cases b<;>first | rfl | simp [aD] at hs
    rw [this,H'] at hl
    obtain ⟨r,hr',rfl⟩:=hl
    obtain ⟨h1,h2⟩:=ih hr _ _ hr'
    exact ⟨by simp;omega,.one hs h h2⟩
theorem ax.drop {l:List AV} {vs:List Value} (h:ax g tk w l vs) (m:Nat) (l':List AV) (hl:gy l m=some l'):m≤vs.length∧ax g tk w l' (vs.drop m):=by
 induction l generalizing vs m l' with
 | nil =>
  cases m with
  | zero=>simp [gy] at hl;subst hl;exact ⟨Nat.zero_le _,by simpa using h⟩
  | succ m=>simp [gy] at hl
 | cons b l ih =>
  cases m with
  | zero=>simp [gy] at hl;subst hl;exact ⟨Nat.zero_le _,by simpa using h⟩
  | succ m =>
   cases h with
   | ints hln hx h =>
    rename_i k n xs cs
    subst hx
    simp only [gy] at hl
    by_cases hnm:n≤m+1
    ·simp only [hnm,if_true] at hl
     obtain ⟨h1,h2⟩:=ih h _ _ hl
     refine ⟨by simp;omega,?_⟩
     rw [List.drop_append,List.drop_of_length_le (by simp;omega)]
     simpa [hln] using h2
    ·simp only [hnm,if_false,A'] at hl
     subst hl
     refine ⟨by simp;omega,.ints (by simp;omega) ?_ h⟩
     rw [List.drop_append,List.map_drop,Nat.sub_eq_zero_of_le (by simp;omega)]
     simp
   | one hs h hr =>
    have:gy (b::l) (m+1)=gy l m:=by cases b<;>first | rfl | simp [aD] at hs
    rw [this] at hl
    obtain ⟨h1,h2⟩:=ih hr _ _ hl
    exact ⟨by simp;omega,by simpa using h2⟩
theorem ax.sub {l:List AV} {vs:List Value} (h:ax g tk w l vs) (o m:Nat) (l':List AV) (hl:CH l o m=some l'):o+m≤vs.length∧ax g tk w l' ((vs.drop o).take m):=by
 unfold CH at hl
 obtain ⟨r,h1,h2⟩:=B'.1 hl
 obtain ⟨a1,a2⟩:=h.drop _ _ h1
 obtain ⟨b1,b2⟩:=a2.take _ _ h2
 exact ⟨by simp at b1;omega,b2⟩
end rows
noncomputable section
variable {g:Gh} {tk:List Nat} {w:World}
def bA (vs:List Value) (o:Nat) (us:List Value):List Value:=vs.take o++us++vs.drop (o+us.length)
theorem eh (vs:List Value) (o:Nat) (us:List Value) (h:o+us.length≤vs.length):(bA vs o us).length=vs.length:=by
 simp [bA];omega
theorem jT (v:Value) (vs:List Value) (o:Nat) (us:List Value):bA (v::vs) (o+1) us=v::bA vs o us:=by
 simp [bA,Nat.add_right_comm]
theorem gW (xs vs:List Value) (o:Nat) (us:List Value) (h:xs.length≤o):bA (xs++vs) o us=xs++bA vs (o-xs.length) us:=by
 simp only [bA,List.take_append,List.drop_append]
 rw [List.take_of_length_le h,List.drop_of_length_le (by omega)]
 simp [show o+us.length-xs.length=o-xs.length+us.length by omega]
theorem dA (xs vs:List Value) (o:Nat) (us:List Value) (h:o+us.length≤xs.length):bA (xs++vs) o us=bA xs o us++vs:=by
 simp only [bA,List.take_append,List.drop_append]
 rw [Nat.sub_eq_zero_of_le (by omega),Nat.sub_eq_zero_of_le h]
 simp
theorem jj (vs:List Value) (o:Nat) (us xs:List Value) (h:o+us.length+xs.length≤vs.length):bA (bA vs o us) (o+us.length) xs=bA vs o (us++xs):=by
 have e1:(vs.take o++us++vs.drop (o+us.length)).take (o+us.length)=vs.take o++us:=by
  rw [List.take_append_of_le_length (by simp;omega),List.take_of_length_le (by simp;omega)]
 have e2:(vs.take o++us++vs.drop (o+us.length)).drop (o+us.length+xs.length)=vs.drop (o+(us.length+xs.length)):=by
  rw [List.drop_append,List.drop_of_length_le (by simp;omega)]
  simp only [List.length_append,List.length_take,List.nil_append,List.drop_drop]
  congr 1
  omega
 show (vs.take o++us++vs.drop (o+us.length)).take (o+us.length)++xs++(vs.take o++us++vs.drop (o+us.length)).drop (o+us.length+xs.length)=_
 rw [e1,e2]
 simp [bA]
theorem nC (vs:List Value) (o:Nat):bA vs o []=vs:=by simp [bA]
theorem jr (vs:List Value) (o:Nat) (v:Value) (h:o<vs.length):vs.set o v=bA vs o [v]:=by
 rw [List.set_eq_take_append_cons_drop,if_pos h];simp [bA]
theorem AR (k:IntKind) (n j:Nat) (l:List Int) (x:Int) (hl:l.length=n) (hj:j<n) {cs:List Value} :
  bA (l.map (Value.int k)++cs) j [.int k x]=(l.set j x).map (Value.int k)++cs:=by
 rw [dA _ _ _ _ (by simp;omega),← jr _ _ _ (by simp;omega),List.map_set]
theorem ax.xn {l:List AV} {vs:List Value} (h:ax g tk w l vs) (o:Nat) (v:AV) (l':List AV) (hl:oZ l o v=some l') {us:List Value} (hv:ax g tk w [v] us) :
  o+us.length≤vs.length∧ax g tk w l' (bA vs o us):=by
 induction l generalizing vs o l' with
 | nil=>simp [oZ] at hl
 | cons b l ih =>
  simp only [oZ] at hl
  have hvlen:=hv.length
  by_cases ho:o<ssize b
  ·simp only [ho,if_true,H'] at hl
   obtain ⟨b',hb,rfl⟩:=hl
   cases h with
   | ints hln hx h =>
    rename_i k n xs cs
    subst hx
    simp only [ssize] at ho
    cases v with
    | int k' x =>
     simp only [Kz.xn,oE,Option.ite_none_right_eq_some,A'] at hb
     obtain ⟨⟨rfl,hj⟩,rfl⟩:=hb
     cases hv with
     | one hs hr hn=>cases hn;cases hr;exact ⟨by simp;omega,.ints (by simp [hln]) (AR _ _ _ _ _ hln hj) h⟩
    | aE k' x =>
     simp only [Kz.xn,oE,Option.ite_none_right_eq_some,A'] at hb
     obtain ⟨⟨rfl,hj⟩,rfl⟩:=hb
     cases hv with
     | one hs hr hn=>cases hn;cases hr;exact ⟨by simp;omega,.ints (by simp [hln]) (AR _ _ _ _ _ hln hj) h⟩
    | ints k' m ys =>
     simp only [Kz.xn,oE,Option.ite_none_right_eq_some,A'] at hb
     obtain ⟨⟨rfl,hj⟩,rfl⟩:=hb
     cases hv with
     | one hs=>simp [aD] at hs
     | ints hly hx hn =>
      cases hn
      subst hx
      have hsame:(if m=n then ys else xs.take o++ys++xs.drop (o+m))=xs.take o++ys++xs.drop (o+m):=by
       split
       ·rename_i hkn
        obtain rfl:o=0:=by omega
        simp [List.drop_eq_nil_of_le (show xs.length≤m by omega)]
       ·rfl
      rw [hsame]
      refine ⟨by simp;omega,.ints (by simp;omega) ?_ h⟩
      rw [List.append_nil,dA _ _ _ _ (by simp;omega)]
      simp [bA,hly]
    | _=>simp [Kz.xn,oE] at hb
   | one hs h hr =>
    have e:=ft hs
    obtain rfl:o=0:=by omega
    have hb':Kz.xn b 0 v=if aD v then some v else none:=by cases b<;>first | rfl | simp [aD] at hs
    rw [hb',Option.ite_none_right_eq_some,A'] at hb
    obtain ⟨hc,rfl⟩:=hb
    cases hv with
    | ints=>simp [aD] at hc
    | one hs' hr' hn=>cases hn;exact ⟨by simp,.one hs' hr' (by simpa [bA] using hr)⟩
  ·simp only [ho,if_false,H'] at hl
   obtain ⟨r,hr',rfl⟩:=hl
   cases h with
   | ints hln hx h =>
    rename_i k n xs cs
    subst hx
    simp only [ssize] at ho hr'
    obtain ⟨h1,h2⟩:=ih h _ _ hr'
    refine ⟨by simp;omega,.ints hln ?_ h2⟩
    rw [gW _ _ _ _ (by simp;omega)]
    simp [hln]
   | one hs h hr =>
    have e:=ft hs
    rw [e] at hr' ho
    obtain ⟨h1,h2⟩:=ih hr _ _ hr'
    obtain ⟨o',rfl⟩:∃ o',o=o'+1:=⟨o-1,by omega⟩
    exact ⟨by simp at h1 ⊢;omega,by rw [jT];exact .one hs h (by simpa using h2)⟩
theorem ax.put {l:List AV} {vs:List Value} (h:ax g tk w l vs) (o:Nat) (v:List AV) (l':List AV) (hl:mq l o v=some l') {us:List Value} (hv:ax g tk w v us) (ho:o+us.length≤vs.length) :
  ax g tk w l' (bA vs o us):=by
 induction v generalizing l vs o us with
 | nil=>cases hv;simp [mq] at hl;subst hl;rw [nC];exact h
 | cons a v ih =>
  simp only [mq,B'] at hl
  obtain ⟨l1,h1,h2⟩:=hl
  have key:∃ u1 u2,us=u1++u2∧ax g tk w [a] u1∧ax g tk w v u2∧u1.length=ssize a:=by
   cases hv with
   | ints hln hx hr=>exact ⟨_,_,hx,.ints hln (by simp) .nil,hr,by simp [ssize,hln]⟩
   | one hs hh hr=>exact ⟨_,_,(List.singleton_append).symm,.one hs hh .nil,hr,(ft hs).symm⟩
  obtain ⟨u1,u2,rfl,k1,k2,k3⟩:=key
  obtain ⟨b1,b2⟩:=h.xn _ _ _ h1 k1
  rw [List.length_append] at ho
  have:=ih b2 (o+ssize a) h2 k2 (by rw [eh _ _ _ b1];omega)
  rw [← k3,jj _ _ _ _ (by omega)] at this
  exact this
theorem ax.fT {l:List AV} {vs:List Value} (h:ax g tk w l vs) (o n:Nat) (k:IntKind) (xs:List Int) (hl:fT l o n=some (k,xs)) :
  xs.length=n∧o+n≤vs.length∧(vs.drop o).take n=xs.map (Value.int k):=by
 induction l generalizing vs o with
 | nil=>simp [Kz.fT] at hl
 | cons b l ih =>
  cases h with
  | ints hln hx h =>
   rename_i k' n' ys cs
   subst hx
   simp only [Kz.fT] at hl
   split at hl
   ·rename_i hc
    obtain ⟨rfl,rfl⟩:=hc
    simp only [A',Prod.mk.injEq] at hl
    obtain ⟨rfl,rfl⟩:=hl
    refine ⟨hln,by simp;omega,?_⟩
    rw [List.drop_zero,List.take_append_of_le_length (by simp;omega),List.take_of_length_le (by simp;omega)]
   ·split at hl
    ·rename_i hc
     simp only [A',Prod.mk.injEq] at hl
     obtain ⟨rfl,rfl⟩:=hl
     refine ⟨by rw [List.length_take,List.length_drop];omega,by simp;omega,?_⟩
     rw [List.drop_append_of_le_length (by simp;omega),List.take_append_of_le_length (by simp;omega),List.map_take,List.map_drop]
    ·split at hl
     ·cases hl
     ·rename_i ho
      obtain ⟨h1,h2,h3⟩:=ih h _ hl
      refine ⟨h1,by simp;omega,?_⟩
      rw [List.drop_append,List.drop_of_length_le (by simp;omega)]
      simpa [hln] using h3
  | one hs h hr =>
   have e:=ft hs
   have e2:Kz.fT (b::l) o n=if o<ssize b then none else Kz.fT l (o-ssize b) n:=by cases b<;>first | rfl | simp [aD] at hs
   rw [e2,e] at hl
   cases o with
   | zero=>simp at hl
   | succ o =>
    simp only [show ¬ (o+1<1) by omega,if_false,Nat.add_sub_cancel] at hl
    obtain ⟨h1,h2,h3⟩:=ih hr _ hl
    exact ⟨h1,by simp;omega,by simpa using h3⟩
theorem ax.gi {l:List AV} {vs:List Value} (h:ax g tk w l vs) (o n:Nat) (ys:List Int) (hy:ys.length=n) (k:IntKind) (xs:List Int) (hr:Kz.fT l o n=some (k,xs)) (l':List AV) (hl:gi l o n ys=some l') :
  ax g tk w l' (bA vs o (ys.map (Value.int k))):=by
 induction l generalizing vs o l' with
 | nil=>simp [Kz.gi] at hl
 | cons b l ih =>
  cases h with
  | ints hln hx h =>
   rename_i k' n' zs cs
   subst hx
   simp only [Kz.gi] at hl
   simp only [Kz.fT] at hr
   split at hl
   ·rename_i hc
    rw [if_pos hc] at hr
    obtain ⟨rfl,rfl⟩:=hc
    simp only [A'] at hl
    subst hl
    simp only [A',Prod.mk.injEq] at hr
    obtain ⟨rfl,rfl⟩:=hr
    refine .ints hy ?_ h
    rw [dA _ _ _ _ (by simp;omega)]
    simp [bA,hln,hy]
   ·rename_i hc0
    rw [if_neg hc0] at hr
    split at hl
    ·rename_i hc
     rw [if_pos hc] at hr
     simp only [A'] at hl
     subst hl
     simp only [A',Prod.mk.injEq] at hr
     obtain ⟨rfl,rfl⟩:=hr
     refine .ints (by simp only [List.length_append,List.length_take,List.length_drop];omega) ?_ h
     rw [dA _ _ _ _ (by simp;omega)]
     simp [bA,hy]
    ·rename_i hc1
     rw [if_neg hc1] at hr
     split at hl
     ·cases hl
     ·rename_i ho
      rw [if_neg ho] at hr
      simp only [H'] at hl
      obtain ⟨r,hr',rfl⟩:=hl
      refine .ints hln ?_ (ih h _ hr _ hr')
      rw [gW _ _ _ _ (by simp;omega)]
      simp [hln]
  | one hs h hrest =>
   have e:=ft hs
   have e2:Kz.fT (b::l) o n=if o<ssize b then none else Kz.fT l (o-ssize b) n:=by cases b<;>first | rfl | simp [aD] at hs
   have e3:Kz.gi (b::l) o n ys=if o<ssize b then none else (Kz.gi l (o-ssize b) n ys).map (b::·):=by cases b<;>first | rfl | simp [aD] at hs
   rw [e2,e] at hr
   rw [e3,e] at hl
   cases o with
   | zero=>simp at hl
   | succ o =>
    simp only [show ¬ (o+1<1) by omega,if_false,Nat.add_sub_cancel,H'] at hl hr
    obtain ⟨r,hr',rfl⟩:=hl
    rw [jT]
    exact .one hs h (ih hrest _ hr _ hr')
theorem Ip (v:Value):aP g tk w (Wx v) v:=by
 unfold Wx
 split
 ·exact .aL _
 ·split
  ·rename_i n h
   have:(Value.int .u64 n)=.int .u64 ((BitVec.ofNat 64 n.toNat).toNat:Int):=by
    congr 1
    rw [BitVec.toNat_ofNat,Nat.mod_eq_of_lt (by omega)]
    omega
   rw [this]
   exact .u64 _
  ·exact .any _
 ·exact .aE _ _
 ·exact .str rfl
 ·exact .nilptr
 ·exact .nilsl
 ·exact .nilfunc
 ·exact .niliface
 ·exact .any _
theorem zO (a:AV) (v:Value) (h:rz a v=true):aD a=true∧aP g tk w a v:=by
 unfold rz at h
 split at h
 ·simp at h;subst h;exact ⟨rfl,.aL _⟩
 ·simp at h;subst h;exact ⟨rfl,.u64 _⟩
 ·simp at h;obtain ⟨rfl,rfl⟩:=h;exact ⟨rfl,.aE _ _⟩
 ·simp at h;exact ⟨rfl,.str (by simp [h])⟩
 ·exact ⟨rfl,.nilptr⟩
 ·exact ⟨rfl,.nilsl⟩
 ·exact ⟨rfl,.nilfunc⟩
 ·exact ⟨rfl,.niliface⟩
 ·simp at h
theorem Bu (k:IntKind) (l:List Int) (cs r:List Value) (h:kE k l cs=some r):cs=l.map (Value.int k)++r:=by
 induction l generalizing cs with
 | nil=>simp [kE] at h;simp [h]
 | cons n l ih =>
  cases cs with
  | nil=>simp [kE] at h
  | cons c cs =>
   cases c with
   | int k' m =>
    simp only [kE,Option.ite_none_right_eq_some,E',beq_iff_eq] at h
    obtain ⟨⟨rfl,rfl⟩,h⟩:=h
    simp [ih cs h]
   | _=>simp [kE] at h
theorem Bs (l:List AV) (cs:List Value) (h:hJ l cs=true):ax g tk w l cs:=by
 induction l generalizing cs with
 | nil=>cases cs with | nil=>exact .nil | cons=>simp [hJ] at h
 | cons a l ih =>
  by_cases hi:∃ k n xs,a=.ints k n xs
  ·obtain ⟨k,n,xs,rfl⟩:=hi
   simp only [hJ,E',beq_iff_eq] at h
   obtain ⟨rfl,h⟩:=h
   split at h
   ·rename_i r hr
    exact .ints rfl (Bu _ _ _ _ hr) (ih _ h)
   ·simp at h
  ·cases cs with
   | nil=>cases a<;>simp [hJ] at h;exact absurd ⟨_,_,_,rfl⟩ hi
   | cons c cs =>
    have e:hJ (a::l) (c::cs)=(rz a c&&hJ l cs):=by cases a<;>first | rfl | exact absurd ⟨_,_,_,rfl⟩ hi
    rw [e,E'] at h
    obtain ⟨h1,h2⟩:=zO (g:=g) (tk:=tk) (w:=w) _ _ h.1
    exact .one h1 h2 (ih _ h.2)
theorem mD {P:Program} {t:TypeId} {l:List AV} (h:mY P t=some l):∃ i z,P.info? t=some i∧i.zero=some z∧ax g tk w l z.cells.toList:=by
 unfold mY at h
 split at h
 ·rename_i l' z h1 h2
  simp only [Option.ite_none_right_eq_some,A'] at h
  obtain ⟨h3,rfl⟩:=h
  obtain ⟨i,hi,hz⟩:=B'.1 h2
  exact ⟨i,z,hi,hz,Bs _ _ h3⟩
 ·simp at h
theorem aP.bx {a:AV} {v:Value} (h:aP g tk w a v) (hs:storable a=true):ax g tk w (bx a) v.cells.toList:=by
 cases h<;>first
  | (rename_i h;exact h)
  | (simp [storable,aD] at hs;done)
  | skip
 all_goals (refine .one rfl ?_ .nil;first | constructor<;>assumption | constructor)
end
def xJ:LoopState→Nat
 | .ready=>0
 | .busy=>1
 | .done=>2
 | .exhausted=>3
structure LR (g:Gh) (tk:List Nat) (w:World) (r:dT) (R:Loop):Prop where
 state:xJ R.state=r.state
 eu:R.pending=r.eu
 tmps:aB g tk w r.tmps R.tmps.toList
 params:R.params.toList=r.params
 assign:R.assign=r.assign
 body:R.body=r.body
theorem LR.mono {g g':Gh} {tk tk':List Nat} {w w':World} (hle:Le g tk w g' tk' w') {r:dT} {R:Loop} (h:LR g tk w r R):LR g' tk' w' r R :=
 ⟨h.state,h.eu,h.tmps.mono hle,h.params,h.assign,h.body⟩
def aeX (g:Gh) (w:World) (i:Nat):Prop:=i<g.base∧∃ x t fr,w.heap[i]?=some (.cells #[x] t fr)∧(x=.nilIface∨∃ te pe,x=.iface te pe)
def isIf (p:Nat×IntKind×Option (List Int)):Prop:=p.2.1=.i8∧p.2.2=none
def mZ (g:Gh) (w:World) (p:Nat×IntKind×Option (List Int)):Prop :=
 (isIf p→aeX g w p.1)∧(¬ isIf p→∃ zs:List Int,(∀ l,p.2.2=some l→zs=l)∧(p.2.2=none→zs.length=1)∧At g w p.1 0 (zs.map (Value.int p.2.1))∧p.1<g.base∧∃ t fr,w.heap[p.1]?=some (.cells (zs.map (Value.int p.2.1)).toArray t fr))
theorem mZ.mono {g g':Gh} {tk tk':List Nat} {w w':World} (hle:Le g tk w g' tk' w') {p:Nat×IntKind×Option (List Int)} (h:mZ g w p):mZ g' w' p :=
 ⟨fun hi=>let ⟨d,x,t,fr,e,f⟩:=h.1 hi
  ⟨by rw [hle.base];exact d,x,t,fr,by rw [hle.below.block _ d];exact e,f⟩,
 fun hi=>let ⟨zs,a,b,c,d,t,fr,e⟩:=h.2 hi
  ⟨zs,a,b,c.mono hle,by rw [hle.base];exact d,t,fr,by rw [hle.below.block _ d];exact e⟩⟩
theorem mZ.known {g:Gh} {w:World} {i:Nat} {k:IntKind} {l:List Int} (h:mZ g w (i,k,some l)):At g w i 0 (l.map (Value.int k))∧i<g.base∧∃ t fr,w.heap[i]?=some (.cells (l.map (Value.int k)).toArray t fr):=by
 obtain ⟨zs,a,_,h⟩:=h.2 fun hi=>by cases hi.2
 obtain rfl:=a l rfl
 exact h
theorem FF {i:Nat} {k:IntKind} {l:List Int} (h:(i,k,l)∈v7):(i,k,some l)∈yP :=
 List.mem_append_left _ (List.mem_append_left _ (List.mem_map.2 ⟨_,h,rfl⟩))
def CS (z cap n:Nat) (ty:TypeId):Prop:=n=cap * CZ z∧(z=0→ty=t8)
structure MR (g:Gh) (h:Hp) (w:World):Prop where
 base:g.base≤w.heap.size
 fJ:∀ c o,g.fz c o→c<w.heap.size
 dC:g.vars.length=h.heap.length
 var:∀ (i c:Nat) (l:List AV),g.vars[i]?=some c→h.heap[i]?=some l→g.base≤c∧(∀ o,¬ g.fz c o)∧∃ o,w.heap[c]?=some o∧BO g h.al w l o
 vb:∀ (i j c:Nat),g.vars[i]?=some c→g.vars[j]?=some c→i=j
 eI:g.own.length=h.al.length
 jJ:∀ (k:Nat),g.own[k]?=some none→∃ n,h.al[k]?=some n
 tok:∀ (k b cap z:Nat),g.own[k]?=some (some (b,cap,z))→∃ n cells ty,h.al[k]?=some n∧n≤cap∧cap≤maxLen∧g.base≤b∧w.heap[b]?=some (.cells cells ty (0,0))∧CS z cap cells.size ty∧(∀ o,g.fz b o→o<n * CZ z)∧b∉g.vars
 vg:∀ (k k' b cap z cap' z':Nat),g.own[k]?=some (some (b,cap,z))→g.own[k']?=some (some (b,cap',z'))→k=k'
 gI:g.loops.length=h.loops.length
 loop:∀ (l c:Nat) (r:dT),g.loops[l]?=some c→h.loops[l]?=some r→g.base≤c∧∃ R,w.heap[c]?=some (.loop R)∧LR g h.al w r R
 vi:∀ (i j c:Nat),g.loops[i]?=some c→g.loops[j]?=some c→i=j
 defs:∀ D,D∈g.defs→g.base≤D∧w.heap[D]?=some (.deferred (some []))
 iN:∀ p∈yP,mZ g w p
noncomputable section
variable {g:Gh} {h:Hp} {w:World}
theorem aV {α:Type} {a:Array α} {i:Nat} {x:α} (h:a[i]?=some x):i<a.size:=by
 rcases Nat.lt_or_ge i a.size with h' | h'
 ·exact h'
 ·simp [Array.getElem?_eq_none h'] at h
theorem bu {c o:Nat} {cells:Array Value} {ty:TypeId} {fr:Nat×Nat} (h:w.heap[c]?=some (.cells cells ty fr)):w.cell? ⟨c,o,none⟩=cells[o]? := by
 simp [World.cell?,h]
theorem jt {c o:Nat} {cells:Array Value} {ty:TypeId} (h:w.heap[c]?=some (.cells cells ty (0,0))):w.frozen? ⟨c,o,none⟩=false:=by
 simp [World.frozen?,h]
theorem fm {w':World} {c o:Nat} (h:w'.heap[c]?=w.heap[c]?):w'.cell? ⟨c,o,none⟩=w.cell? ⟨c,o,none⟩:=by
 simp [World.cell?,h]
theorem ir {w':World} {c:Nat} (h:w'.heap[c]?=w.heap[c]?):w'.shape? c=w.shape? c:=by
 simp [World.shape?,h]
theorem MR.OS (m:MR g h w) {i c:Nat} (x:g.vars[i]?=some c):∃ o,w.heap[c]?=some o∧(∀ R,o≠.loop R)∧∀ d,o≠.deferred d:=by
 have hi:=(C'.1 x).1
 rw [m.dC] at hi
 obtain ⟨_,_,o,d,e⟩:=m.var i c _ x (I' hi)
 exact ⟨o,d,fun R q=>(q ▸ e).EO,fun _ q=>(q ▸ e).LP⟩
theorem MR.VB (m:MR g h w) {i c:Nat} {l:List AV} (x:g.vars[i]?=some c) (y:h.heap[i]?=some l) (hn:kT l=some l):g.base≤c∧(∀ o,¬ g.fz c o)∧∃ cells ty,w.heap[c]?=some (.cells cells ty (0,0))∧ax g h.al w l cells.toList:=by
 obtain ⟨a,b,o,d,e⟩:=m.var i c l x y
 obtain ⟨cells,ty,rfl,r⟩:=e.rep hn
 exact ⟨a,b,cells,ty,d,r⟩
theorem MR.grow {w':World} (m:MR g h w) (hb:Below w.heap.size w w'):MR g h w'∧Le g h.al w g h.al w':=by
 have hle:Le g h.al w g h.al w' :=
  ⟨rfl,hb.mono m.base,fun _ _ x=>x,fun c o x hf hc=>by rw [fm (hb.block c (m.fJ c o hf))];exact hc,fun _ _ x=>x,fun _ _ x=>x,fun _ x=>x,fun _ n x=>⟨n,x,Nat.le_refl _,fun _=>rfl⟩,fun i c x=>by
   obtain ⟨_,d,_⟩:=m.OS x
   exact ir (hb.block c (aV d))⟩
 have old:∀ {c:Nat} {o:Obj},w.heap[c]?=some o→w'.heap[c]?=some o:=fun {c o} x=>by rw [hb.block c (aV x)];exact x
 refine ⟨⟨Nat.le_trans m.base hb.size,fun c o x=>Nat.lt_of_lt_of_le (m.fJ c o x) hb.size,m.dC,fun i c l h1 h2=>?_,m.vb,m.eI,m.jJ,fun k b cap z h1=>?_,m.vg,m.gI,fun l c r h1 h2=>?_,m.vi,fun D hD=>?_,fun p hp=>(m.iN p hp).mono hle⟩,hle⟩
 ·obtain ⟨a,b,o,d,e⟩:=m.var i c l h1 h2
  exact ⟨a,b,o,old d,e.mono hle⟩
 ·obtain ⟨n,cells,ty,h2,h3,hm,h4,h5,h6⟩:=m.tok k b cap z h1
  exact ⟨n,cells,ty,h2,h3,hm,h4,old h5,h6⟩
 ·obtain ⟨a,R,b,d⟩:=m.loop l c r h1 h2
  exact ⟨a,R,old b,d.mono hle⟩
 ·exact ⟨(m.defs D hD).1,old (m.defs D hD).2⟩
theorem MR.alloc (m:MR g h w) (o:Obj):MR g h (w.alloc o)∧Le g h.al w g h.al (w.alloc o) :=
 m.grow ((Below.refl _ _).alloc (Nat.le_refl _) o)
theorem MR.drew (m:MR g h w):MR g h w.drew∧Le g h.al w g h.al w.drew:=m.grow (Below.refl _ _).drew
theorem MR.addVar (m:MR g h w) {c:Nat} {o:Obj} (hc:w.heap[c]?=some o) (hb:g.base≤c) (hf:∀ o,¬ g.fz c o) (hv:c∉g.vars)
  (ho:∀ (k cap z:Nat),g.own[k]?≠some (some (c,cap,z))) {l:List AV} (hr:BO g h.al w l o) :
  MR { g with vars:=g.vars++[c] } { h with heap:=h.heap++[l] } w∧Le g h.al w { g with vars:=g.vars++[c] } h.al w:=by
 have hle:Le g h.al w { g with vars:=g.vars++[c] } h.al w :=
  ⟨rfl,Below.refl _ _,fun _ _ x=>x,fun _ _ _ _ x=>x,fun i c' x=>by rw [List.getElem?_append_left (C'.1 x).1];exact x,fun _ _ x=>x,fun _ x=>x,fun _ n x=>⟨n,x,Nat.le_refl _,fun _=>rfl⟩,fun _ _ _=>rfl⟩
 have new:∀ (i c':Nat),(g.vars++[c])[i]?=some c'→g.vars[i]?=some c'∨(i=g.vars.length∧c'=c):=by
  intro i c' x
  rcases Nat.lt_or_ge i g.vars.length with h' | h'
  ·rw [List.getElem?_append_left h'] at x;exact .inl x
  ·rw [List.getElem?_append_right h'] at x
   have:=C'.1 x
   obtain ⟨a,b⟩:=this
   simp at a b
   exact .inr ⟨by omega,b.symm⟩
 refine ⟨⟨m.base,m.fJ,by simp [m.dC],fun i c' l' h1 h2=>?_,fun i j c' h1 h2=>?_,m.eI,m.jJ,fun k b cap z h1=>?_,m.vg,m.gI,fun l c r h1 h2=>?_,m.vi,m.defs,fun p hp=>(m.iN p hp).mono (hle)⟩,hle⟩
 ·rcases new i c' h1 with h' | ⟨rfl,rfl⟩
  ·have hi:=(C'.1 h').1
   simp only at h2
   rw [List.getElem?_append_left (by rw [← m.dC];exact hi)] at h2
   obtain ⟨a,b,o,d,e⟩:=m.var i c' l' h' h2
   exact ⟨a,b,o,d,e.mono hle⟩
  ·simp only at h2
   rw [m.dC,List.getElem?_append_right (Nat.le_refl _)] at h2
   simp at h2
   subst h2
   exact ⟨hb,hf,_,hc,hr.mono hle⟩
 ·rcases new i c' h1 with a | ⟨rfl,rfl⟩<;>rcases new j c' h2 with b | ⟨rfl,e⟩
  ·exact m.vb i j c' a b
  ·subst e;exact absurd (List.mem_of_getElem? a) hv
  ·exact absurd (List.mem_of_getElem? b) hv
  ·rfl
 ·obtain ⟨n,cells,ty,h2,h3,hm,h4,h5,h6,h7,h8⟩:=m.tok k b cap z h1
  refine ⟨n,cells,ty,h2,h3,hm,h4,h5,h6,h7,?_⟩
  simp only [List.mem_append,List.mem_singleton,not_or]
  exact ⟨h8,fun e=>ho k cap z (e ▸ h1)⟩
 ·obtain ⟨a,R,b,d⟩:=m.loop l c r h1 h2
  exact ⟨a,R,b,d.mono hle⟩
theorem MR.newVar (m:MR g h w) {l:List AV} {cells:Array Value} (ty:TypeId) (hr:ax g h.al w l cells.toList) :
  MR { g with vars:=g.vars++[w.heap.size] } { h with heap:=h.heap++[l] } (w.alloc (.cells cells ty)) ∧
   Le g h.al w { g with vars:=g.vars++[w.heap.size] } h.al (w.alloc (.cells cells ty)):=by
 obtain ⟨m1,l1⟩:=m.alloc (.cells cells ty)
 obtain ⟨m2,l2⟩:=m1.addVar (c:=w.heap.size) (heap_alloc_new w _) m.base (fun o x=>absurd (m.fJ _ _ x) (Nat.lt_irrefl _))
  (fun hv=>by
   obtain ⟨i,hi⟩:=List.getElem?_of_mem hv
   have hi':=(C'.1 hi).1
   obtain ⟨_,_,_,d,_⟩:=m.var i _ _ hi (I' (by rw [← m.dC];exact hi'))
   exact absurd (aV d) (Nat.lt_irrefl _))
  (fun k cap z x=>by obtain ⟨_,_,_,_,_,_,_,d,_⟩:=m.tok k _ cap z x;exact absurd (aV d) (Nat.lt_irrefl _)) (.of (hr.mono l1))
 exact ⟨m2,l1.trans l2⟩
theorem MR.lI (m:MR g h w):MR { g with own:=g.own++[none] } { h with al:=h.al++[0] } w∧Le g h.al w { g with own:=g.own++[none] } (h.al++[0]) w:=by
 have hle:Le g h.al w { g with own:=g.own++[none] } (h.al++[0]) w :=
  ⟨rfl,Below.refl _ _,fun _ _ x=>x,fun _ _ _ _ x=>x,fun _ _ x=>x,fun _ _ x=>x,fun _ x=>x,fun k n x=>⟨n,by
   rw [List.getElem?_append_left (C'.1 x).1];exact x,Nat.le_refl _,fun _=>by
   have:=(C'.1 x).1
   simp only
   rw [List.getElem?_append_left (by rw [m.eI];exact this)]⟩,fun _ _ _=>rfl⟩
 have new:∀ (k:Nat) x,(g.own++[none])[k]?=some x→g.own[k]?=some x∨(k=g.own.length∧x=none):=by
  intro i c' x
  rcases Nat.lt_or_ge i g.own.length with h' | h'
  ·rw [List.getElem?_append_left h'] at x;exact .inl x
  ·rw [List.getElem?_append_right h'] at x
   obtain ⟨a,b⟩:=C'.1 x
   simp at a b
   exact .inr ⟨by omega,b.symm⟩
 refine ⟨⟨m.base,m.fJ,m.dC,fun i c l h1 h2=>?_,m.vb,by simp [m.eI],fun k h1=>?_,fun k b cap z h1=>?_,fun k k' b cap z cap' z' h1 h2=>?_,m.gI,fun l c r h1 h2=>?_,m.vi,m.defs,fun p hp=>(m.iN p hp).mono (hle)⟩,hle⟩
 ·obtain ⟨a,b,o,d,e⟩:=m.var i c l h1 h2
  exact ⟨a,b,o,d,e.mono hle⟩
 ·rcases new k _ h1 with a | ⟨rfl,_⟩
  ·obtain ⟨n,this⟩:=m.jJ k a
   refine ⟨n,?_⟩
   show (h.al++[0])[k]?=_
   rw [List.getElem?_append_left (C'.1 this).1]
   exact this
  ·exact ⟨0,by simp [m.eI]⟩
 ·rcases new k _ h1 with a | ⟨_,e⟩
  ·obtain ⟨n,cells,ty,h2,h3⟩:=m.tok k b cap z a
   refine ⟨n,cells,ty,?_,h3⟩
   show (h.al++[0])[k]?=_
   rw [List.getElem?_append_left (C'.1 h2).1]
   exact h2
  ·cases e
 ·rcases new k _ h1 with a | ⟨_,e⟩<;>rcases new k' _ h2 with b' | ⟨_,e'⟩
  ·exact m.vg k k' b cap z cap' z' a b'
  ·cases e'
  ·cases e
  ·cases e
 ·obtain ⟨a,R,b,d⟩:=m.loop l c r h1 h2
  exact ⟨a,R,b,d.mono hle⟩
theorem MR.Vx (m:MR g h w):MR { g with defs:=w.heap.size::g.defs } h (w.alloc (.deferred (some [])))∧Le g h.al w { g with defs:=w.heap.size::g.defs } h.al (w.alloc (.deferred (some []))):=by
 obtain ⟨m1,l1⟩:=m.alloc (.deferred (some []))
 have l2:Le g h.al (w.alloc (.deferred (some []))) { g with defs:=w.heap.size::g.defs } h.al (w.alloc (.deferred (some []))) :=
  ⟨rfl,Below.refl _ _,fun _ _ x=>x,fun _ _ _ _ x=>x,fun _ _ x=>x,fun _ _ x=>x,fun _ x=>List.mem_cons_of_mem _ x,fun _ n x=>⟨n,x,Nat.le_refl _,fun _=>rfl⟩,fun _ _ _=>rfl⟩
 refine ⟨⟨m1.base,m1.fJ,m1.dC,fun i c l h1 h2=>?_,m1.vb,m1.eI,m1.jJ,m1.tok,m1.vg,m1.gI,fun l c r h1 h2=>?_,m1.vi,fun D hD=>?_,fun p hp=>(m.iN p hp).mono (l1.trans l2)⟩,l1.trans l2⟩
 ·obtain ⟨a,b,o,d,e⟩:=m1.var i c l h1 h2
  exact ⟨a,b,o,d,e.mono l2⟩
 ·obtain ⟨a,R,b,d⟩:=m1.loop l c r h1 h2
  exact ⟨a,R,b,d.mono l2⟩
 ·rcases List.mem_cons.1 hD with rfl | hD
  ·exact ⟨m.base,heap_alloc_new w _⟩
  ·exact m1.defs D hD
theorem MR.DZ (m:MR g h w) {r:dT} {R:Loop} (hr:LR g h.al w r R):MR { g with loops:=g.loops++[w.heap.size] } { h with loops:=h.loops++[r] } (w.alloc (.loop R))∧Le g h.al w { g with loops:=g.loops++[w.heap.size] } h.al (w.alloc (.loop R)):=by
 obtain ⟨m1,l1⟩:=m.alloc (.loop R)
 have l2:Le g h.al (w.alloc (.loop R)) { g with loops:=g.loops++[w.heap.size] } h.al (w.alloc (.loop R)) :=
  ⟨rfl,Below.refl _ _,fun _ _ x=>x,fun _ _ _ _ x=>x,fun _ _ x=>x,fun i c' x=>by rw [List.getElem?_append_left (C'.1 x).1];exact x,fun _ x=>x,fun _ n x=>⟨n,x,Nat.le_refl _,fun _=>rfl⟩,fun _ _ _=>rfl⟩
 have new:∀ (i c':Nat),(g.loops++[w.heap.size])[i]?=some c'→g.loops[i]?=some c'∨(i=g.loops.length∧c'=w.heap.size):=by
  intro i c' x
  rcases Nat.lt_or_ge i g.loops.length with h' | h'
  ·rw [List.getElem?_append_left h'] at x;exact .inl x
  ·rw [List.getElem?_append_right h'] at x
   obtain ⟨a,b⟩:=C'.1 x
   simp at a b
   exact .inr ⟨by omega,b.symm⟩
 have old:∀ (i:Nat),g.loops[i]?≠some w.heap.size:=fun i x=>by
  have hi:=(C'.1 x).1
  obtain ⟨_,R',d,_⟩:=m.loop i _ _ x (I' (by rw [← m.gI];exact hi))
  exact absurd (aV d) (Nat.lt_irrefl _)
 refine ⟨⟨m1.base,m1.fJ,m1.dC,fun i c l h1 h2=>?_,m1.vb,m1.eI,m1.jJ,m1.tok,m1.vg,by simp [m.gI],fun l c q h1 h2=>?_,fun i j c h1 h2=>?_,m1.defs,fun p hp=>(m.iN p hp).mono (l1.trans l2)⟩,l1.trans l2⟩
 ·obtain ⟨a,b,o,d,e⟩:=m1.var i c l h1 h2
  exact ⟨a,b,o,d,e.mono l2⟩
 ·rcases new l c h1 with h1' | ⟨rfl,rfl⟩
  ·have hi:=(C'.1 h1').1
   simp only at h2
   rw [List.getElem?_append_left (by rw [← m.gI];exact hi)] at h2
   obtain ⟨a,R,b,d⟩:=m1.loop l c q h1' h2
   exact ⟨a,R,b,d.mono l2⟩
  ·simp only at h2
   rw [m.gI,List.getElem?_append_right (Nat.le_refl _)] at h2
   simp at h2
   subst h2
   exact ⟨m.base,R,heap_alloc_new w _,hr.mono (l1.trans l2)⟩
 ·rcases new i c h1 with a | ⟨rfl,e0⟩<;>rcases new j c h2 with b | ⟨rfl,e⟩
  ·exact m.vi i j c a b
  ·subst e;exact absurd a (old i)
  ·subst e0;exact absurd b (old j)
  ·rfl
def bk (w:World) (c:Nat) (o:Obj):World:={ w with heap:=w.heap.setIfInBounds c o }
theorem cG {c:Nat} {o o':Obj} (h:w.heap[c]?=some o):(bk w c o').heap[c]?=some o':=by
 simp [bk,aV h]
theorem aN {c c':Nat} {o:Obj} (h:c'≠c):(bk w c o).heap[c']?=w.heap[c']? := by
 simp only [bk]
 rw [Array.getElem?_setIfInBounds]
 simp [Ne.symm h]
theorem dg (c:Nat) (o:Obj):(bk w c o).heap.size=w.heap.size:=by simp [bk]
theorem Below.put {B c:Nat} (o:Obj) (hc:B≤c):Below B w (bk w c o) :=
 ⟨rfl,rfl,rfl,by simp [bk],fun k hk=>aN (by omega)⟩
theorem Le.put (tk:List Nat) {c:Nat} (o:Obj) (hb:g.base≤c) (hf:∀ o',¬ g.fz c o') (hs:∀ (i c':Nat),g.vars[i]?=some c'→(bk w c o).shape? c'=w.shape? c'):Le g tk w g tk (bk w c o) :=
 ⟨rfl,Below.put o hb,fun _ _ x=>x,fun c' o' x h1 h2=>by rw [fm (aN (fun e=>by subst e;exact hf o' h1))];exact h2,fun _ _ x=>x,fun _ _ x=>x,fun _ x=>x,fun _ n x=>⟨n,x,Nat.le_refl _,fun _=>rfl⟩,hs⟩
theorem lv {c o:Nat} {cells:Array Value} {ty:TypeId} {fr:Nat×Nat} (h:w.heap[c]?=some (.cells cells ty fr)) (v:Value) :
  w.setCell ⟨c,o,none⟩ v=bk w c (.cells (cells.setIfInBounds o v) ty fr):=by
 have hc:=aV h
 have e:w.heap[c]=.cells cells ty fr:=by simpa [Array.getElem?_eq_getElem hc] using h
 simp only [World.setCell,bk]
 congr 1
 apply Array.ext_getElem?
 intro i
 rw [Array.getElem?_modify,Array.getElem?_setIfInBounds]
 by_cases hi:c=i
 ·subst hi;simp [hc,e]
 ·simp [hi]
theorem MR.putObj (m:MR g h w) {i c:Nat} {l l':List AV} (hc:g.vars[i]?=some c) (hl:h.heap[i]?=some l) {o0 o:Obj} (ho:w.heap[c]?=some o0) (hr:BO g h.al w l' o) (hsh:(bk w c o).shape? c=w.shape? c) :
  MR g { h with heap:=h.heap.set i l' } (bk w c o)∧Le g h.al w g h.al (bk w c o):=by
 obtain ⟨hb,hf,_,_,_⟩:=m.var i c l hc hl
 obtain ⟨o1,ho1,n1,n2⟩:=m.OS hc
 obtain rfl:o1=o0:=Option.some.inj (ho1.symm.trans ho)
 have hle:Le g h.al w g h.al (bk w c o):=Le.put _ _ hb hf fun j d x=>by
  by_cases e:d=c
  ·subst e
   exact hsh
  ·exact ir (aN e)
 refine ⟨⟨by rw [dg];exact m.base,fun c o x=>by rw [dg];exact m.fJ c o x,by simp [m.dC],fun j d k h1 h2=>?_,m.vb,m.eI,m.jJ,fun k b cap z h1=>?_,m.vg,m.gI,fun j d r h1 h2=>?_,m.vi,fun D hD=>?_,fun p hp=>(m.iN p hp).mono hle⟩,hle⟩
 ·by_cases hij:i=j
  ·subst hij
   have:d=c:=Option.some.inj (h1.symm.trans hc)
   subst this
   have hk:k=l':=by
    have:=(C'.1 hl).1
    simp [this] at h2
    exact h2.symm
   subst hk
   exact ⟨hb,hf,_,cG ho,hr.mono hle⟩
  ·rw [List.getElem?_set_ne hij] at h2
   obtain ⟨a,b,o',d',e⟩:=m.var j d k h1 h2
   refine ⟨a,b,o',?_,e.mono hle⟩
   rw [aN (fun e=>by subst e;exact hij (m.vb i j _ hc h1))]
   exact d'
 ·obtain ⟨n,cells',ty',h2,h3,hm,h4,h5,h6,h7,h8⟩:=m.tok k b cap z h1
  refine ⟨n,cells',ty',h2,h3,hm,h4,?_,h6,h7,h8⟩
  rw [aN (fun e=>by subst e;exact h8 (List.mem_of_getElem? hc))]
  exact h5
 ·obtain ⟨a,R,b,d'⟩:=m.loop j d r h1 h2
  refine ⟨a,R,?_,d'.mono hle⟩
  rw [aN (fun e=>by subst e;rw [ho] at b;exact n1 _ (Option.some.inj b))]
  exact b
 ·obtain ⟨a,b⟩:=m.defs D hD
  refine ⟨a,?_⟩
  rw [aN (fun e=>by subst e;rw [ho] at b;exact n2 _ (Option.some.inj b))]
  exact b
theorem MR.ID (m:MR g h w) {i c:Nat} {l l':List AV} (hc:g.vars[i]?=some c) (hl:h.heap[i]?=some l) {old cells:Array Value} {ty:TypeId} (ho:w.heap[c]?=some (.cells old ty (0,0))) (hr:ax g h.al w l' cells.toList) (hz:old.size=cells.size) :
  MR g { h with heap:=h.heap.set i l' } (bk w c (.cells cells ty))∧Le g h.al w g h.al (bk w c (.cells cells ty)) :=
 m.putObj hc hl ho (.of hr) (by simp [World.shape?,cG ho,ho,hz])
theorem MR.Vz (m:MR g h w) {i c:Nat} {s:List UInt8} {n n':Int} (hc:g.vars[i]?=some c) (hl:h.heap[i]?=some [.itr s n]) {bs:ByteArray} {p:Nat} (ho:w.heap[c]?=some (.stringIter bs p)) (hs:bs.data.toList=s) (h0:0≤n') :
  MR g { h with heap:=h.heap.set i [.itr s n'] } (bk w c (.stringIter bs n'.toNat))∧Le g h.al w g h.al (bk w c (.stringIter bs n'.toNat)) :=
 m.putObj hc hl ho (.inr ⟨s,n',bs,rfl,rfl,hs,h0⟩) (by simp [World.shape?,cG ho,ho])
theorem MR.Uf (m:MR g h w) (bs:ByteArray) {s:List UInt8} (hs:bs.data.toList=s) :
  MR { g with vars:=g.vars++[w.heap.size] } { h with heap:=h.heap++[[.itr s 0]] } (w.alloc (.stringIter bs 0))∧Le g h.al w { g with vars:=g.vars++[w.heap.size] } h.al (w.alloc (.stringIter bs 0)):=by
 obtain ⟨m1,l1⟩:=m.alloc (.stringIter bs 0)
 obtain ⟨m2,l2⟩:=m1.addVar (c:=w.heap.size) (heap_alloc_new w _) m.base (fun o x=>absurd (m.fJ _ _ x) (Nat.lt_irrefl _))
  (fun hv=>by
   obtain ⟨i,hi⟩:=List.getElem?_of_mem hv
   have hi':=(C'.1 hi).1
   obtain ⟨_,_,_,d,_⟩:=m.var i _ _ hi (I' (by rw [← m.dC];exact hi'))
   exact absurd (aV d) (Nat.lt_irrefl _))
  (fun k cap z x=>by obtain ⟨_,_,_,_,_,_,_,d,_⟩:=m.tok k _ cap z x;exact absurd (aV d) (Nat.lt_irrefl _)) (.inr ⟨s,0,bs,rfl,rfl,hs,Int.le_refl 0⟩)
 exact ⟨m2,l1.trans l2⟩
theorem MR.yj (m:MR g h w) {i c:Nat} {r r':dT} {R R':Loop} (hc:g.loops[i]?=some c) (hl:h.loops[i]?=some r) (hR:w.heap[c]?=some (.loop R)) (hr:LR g h.al w r' R') :
  MR g (eD h i r') (bk w c (.loop R'))∧Le g h.al w g h.al (bk w c (.loop R')):=by
 obtain ⟨hb,R0,hR0,_⟩:=m.loop i c r hc hl
 obtain rfl:R0=R:=by have:=hR0.symm.trans hR;simpa using this
 have hle:Le g h.al w g h.al (bk w c (.loop R')) :=
  ⟨rfl,Below.put _ hb,fun _ _ x=>x,fun c' o' x h1 h2=>by
   rw [fm (aN (fun e=>by subst e;simp [World.cell?,hR] at h2))];exact h2,fun _ _ x=>x,fun _ _ x=>x,fun _ x=>x,fun _ n x=>⟨n,x,Nat.le_refl _,fun _=>rfl⟩,fun i d x=>by
   obtain ⟨_,f,n1,_⟩:=m.OS x
   exact ir (aN (fun e=>by subst e;rw [hR] at f;exact n1 _ (Option.some.inj f).symm))⟩
 refine ⟨⟨by rw [dg];exact m.base,fun c o x=>by rw [dg];exact m.fJ c o x,m.dC,fun j d k h1 h2=>?_,m.vb,m.eI,m.jJ,fun k b cap z h1=>?_,m.vg,by simp [eD,m.gI],fun j d q h1 h2=>?_,m.vi,fun D hD=>?_,fun p hp=>(m.iN p hp).mono hle⟩,hle⟩
 ·obtain ⟨a,b,o',d',bo⟩:=m.var j d k h1 h2
  refine ⟨a,b,o',?_,bo.mono hle⟩
  rw [aN (fun e=>by subst e;rw [hR] at d';cases d';exact bo.EO)]
  exact d'
 ·obtain ⟨n,cells',ty',h2,h3,hm,h4,h5,h6⟩:=m.tok k b cap z h1
  refine ⟨n,cells',ty',h2,h3,hm,h4,?_,h6⟩
  rw [aN (fun e=>by subst e;rw [hR] at h5;cases h5)]
  exact h5
 ·by_cases hij:i=j
  ·subst hij
   have:d=c:=Option.some.inj (h1.symm.trans hc)
   subst this
   have hk:q=r':=by
    have:=(C'.1 hl).1
    simp [eD,this] at h2
    exact h2.symm
   subst hk
   exact ⟨hb,R',cG hR,hr.mono hle⟩
  ·simp only [eD] at h2
   rw [List.getElem?_set_ne hij] at h2
   obtain ⟨a,Q,b,d'⟩:=m.loop j d q h1 h2
   refine ⟨a,Q,?_,d'.mono hle⟩
   rw [aN (fun e=>by subst e;exact hij (m.vi i j _ hc h1))]
   exact b
 ·obtain ⟨a,b⟩:=m.defs D hD
  refine ⟨a,?_⟩
  rw [aN (fun e=>by subst e;rw [hR] at b;cases b)]
  exact b
theorem MR.NG (m:MR g h w) {D:Nat} (hD:D∈g.defs):MR { g with defs:=g.defs.filter (· != D) } h (bk w D (.deferred none))∧g.base≤D ∧
  Le { g with defs:=g.defs.filter (· != D) } h.al w { g with defs:=g.defs.filter (· != D) } h.al (bk w D (.deferred none))∧w.heap[D]?=some (.deferred (some [])):=by
 obtain ⟨hb,hh⟩:=m.defs D hD
 have l1:Le { g with defs:=g.defs.filter (· != D) } h.al w { g with defs:=g.defs.filter (· != D) } h.al (bk w D (.deferred none)) :=
  ⟨rfl,Below.put _ hb,fun _ _ x=>x,fun c' o' x h1 h2=>by
   rw [fm (aN (fun e=>by subst e;simp [World.cell?,hh] at h2))];exact h2,fun _ _ x=>x,fun _ _ x=>x,fun _ x=>x,fun _ n x=>⟨n,x,Nat.le_refl _,fun _=>rfl⟩,fun i d x=>by
   obtain ⟨_,f,_,n2⟩:=m.OS x
   exact ir (aN (fun e=>by subst e;rw [hh] at f;exact n2 _ (Option.some.inj f).symm))⟩
 have lw:Lw g h.al w { g with defs:=g.defs.filter (· != D) } h.al (bk w D (.deferred none)):=⟨Nat.le_refl _,l1.fz,l1.cell,l1.vars,l1.loops,l1.tok,l1.shape⟩
 refine ⟨⟨by rw [dg];exact m.base,fun c o x=>by rw [dg];exact m.fJ c o x,m.dC,fun j d k h1 h2=>?_,m.vb,m.eI,m.jJ,fun k b cap z h1=>?_,m.vg,m.gI,fun j d q h1 h2=>?_,m.vi,fun D' hD'=>?_,fun p hp=>(m.iN p hp).mono l1⟩,hb,l1,hh⟩
 ·obtain ⟨a,b,o',d',bo⟩:=m.var j d k h1 h2
  refine ⟨a,b,o',?_,bo.bG lw⟩
  rw [aN (fun e=>by subst e;rw [hh] at d';cases d';exact bo.LP)]
  exact d'
 ·obtain ⟨n,cells',ty',h2,h3,hm,h4,h5,h6⟩:=m.tok k b cap z h1
  refine ⟨n,cells',ty',h2,h3,hm,h4,?_,h6⟩
  rw [aN (fun e=>by subst e;rw [hh] at h5;cases h5)]
  exact h5
 ·obtain ⟨a,R,b,d'⟩:=m.loop j d q h1 h2
  refine ⟨a,R,?_,⟨d'.state,d'.eu,d'.tmps.bG lw,d'.params,d'.assign,d'.body⟩⟩
  rw [aN (fun e=>by subst e;rw [hh] at b;cases b)]
  exact b
 ·obtain ⟨h1,h2⟩:=List.mem_filter.1 hD'
  obtain ⟨a,b⟩:=m.defs D' h1
  refine ⟨a,?_⟩
  rw [aN (by simpa using h2)]
  exact b
end
noncomputable section
variable {P:Program} {g:Gh} {h:Hp} {tk:List Nat} {w:World}
theorem run_underlying (t:TypeId) (d:TypeDesc) (hd:P.underlying t=some d):(underlying t).run P w=.ok d w:=by
 simp [underlying,program,Sem.run_bind,Sem.run,hd,pure]
theorem run_typeInfo (t:TypeId) (i:TypeInfo) (hd:P.info? t=some i):(typeInfo t).run P w=.ok i w:=by
 simp [typeInfo,program,Sem.run_bind,Sem.run,hd,pure]
theorem oS {t:TypeId} {m:Nat} (hs:bN P t=some m):∃ i,P.info? t=some i∧i.size=m:=by
 simp only [bN,H'] at hs;exact hs
theorem run_sizeOf (t:TypeId) (m:Nat) (hs:bN P t=some m):(Go.sizeOf t).run P w=.ok m w:=by
 obtain ⟨i,hi,rfl⟩:=oS hs
 simp [Go.sizeOf,Sem.run_bind,run_typeInfo t i hi,pure,Sem.run]
theorem jL (t:TypeId) (d:TypeDesc) (hd:P.underlying t=some d):(isAgg t).run P w=.ok (b7 P t) w:=by
 unfold isAgg b7
 rw [Sem.run_bind,run_underlying t d hd,hd]
 cases d<;>rfl
theorem eV (c o n:Nat):(⟨c,o,none⟩:Addr).add n=⟨c,o+n,none⟩:=by
 unfold Addr.add;split<;>simp_all
theorem kP (t:TypeId) (d:TypeDesc) (hd:P.underlying t=some d) (ha:b7 P t=true) (m:Nat) (hs:bN P t=some m) (c o:Nat) (cs:List Value) (hl:cs.length=m) (hc:∀ j x,cs[j]?=some x→w.cell? ⟨c,o+j,none⟩=some x) :
  (loadVar t ⟨c,o,none⟩).run P w=.ok (.agg cs.toArray) w:=by
 unfold loadVar
 rw [Sem.run_bind,jL t d hd,Result.andThen_ok,ha]
 simp only [if_true,Sem.run_bind,run_sizeOf t m hs,Result.andThen_ok]
 rw [← hl,run_loadCells_list w ⟨c,o,none⟩ cs (fun j v hv=>by rw [eV];exact hc j v hv)]
 rfl
theorem kV (t:TypeId) (d:TypeDesc) (hd:P.underlying t=some d) (ha:b7 P t=false) (c o:Nat) (x:Value) (hc:w.cell? ⟨c,o,none⟩=some x) :
  (loadVar t ⟨c,o,none⟩).run P w=.ok x w:=by
 unfold loadVar
 rw [Sem.run_bind,jL t d hd,Result.andThen_ok,ha]
 simp [load,Sem.run,hc]
theorem pn {t:TypeId} {l:List AV} {o:Nat} {v:AV} (hp:gL P t l o=some v) {c o':Nat} {cs:List Value} (hr:ax g tk w l cs) (hc:∀ j x,cs[j]?=some x→w.cell? ⟨c,o'+j,none⟩=some x) :
  ∃ x,(loadVar t ⟨c,o'+o,none⟩).run P w=.ok x w∧aP g tk w v x:=by
 unfold gL at hp
 simp only [Option.ite_none_right_eq_some] at hp
 obtain ⟨hu,hp⟩:=hp
 obtain ⟨d,hd⟩:=Option.isSome_iff_exists.1 hu
 by_cases ha:b7 P t=true
 ·simp only [ha,if_true,B',H'] at hp
  obtain ⟨m,hm,l',hl',rfl⟩:=hp
  obtain ⟨h1,h2⟩:=hr.sub _ _ _ hl'
  refine ⟨_,kP t d hd ha m hm c (o'+o) ((cs.drop o).take m) (by simp;omega) (fun j x hx=>?_),.agg (by simpa using h2)⟩
  have hj:j<m:=by
   have:=(C'.1 hx).1
   simp at this;omega
  rw [List.getElem?_take_of_lt hj,List.getElem?_drop] at hx
  rw [Nat.add_assoc]
  exact hc _ _ hx
 ·have ha':b7 P t=false:=by simpa using ha
  simp only [ha',Bool.false_eq_true,if_false] at hp
  obtain ⟨x,h1,h2⟩:=hr.cell _ _ hp
  exact ⟨x,kV t d hd ha' _ _ x (hc _ _ h1),h2⟩
theorem lM {h:Hp} {b:Nat} {l:List AV} (hl:dj h b=some l):h.heap[b]?=some l∧kT l=some l:=by
 unfold dj at hl
 cases hh:h.heap[b]? with
 | none=>rw [hh] at hl;cases hl
 | some x =>
  rw [hh] at hl
  simp only [Option.bind_some] at hl
  have:x=l:=by
   unfold kT at hl
   split at hl
   ·cases hl
   ·exact Option.some.inj hl
  subst this
  exact ⟨rfl,hl⟩
theorem Ld {h:Hp} {b:Nat} {l:List AV} (h1:h.heap[b]?=some l) (h2:kT l=some l):dj h b=some l:=by
 unfold dj
 rw [h1]
 exact h2
theorem ig (m:MR g h w) {b c:Nat} (hb:g.vars[b]?=some c) {l:List AV} (hl:dj h b=some l):∃ cells ty,w.heap[c]?=some (.cells cells ty (0,0))∧ax g h.al w l cells.toList∧∀ j x,cells.toList[j]?=some x→w.cell? ⟨c,j,none⟩=some x:=by
 obtain ⟨hl0,hn⟩:=lM hl
 obtain ⟨_,_,cells,ty,h1,h2⟩:=m.VB hb hl0 hn
 exact ⟨cells,ty,h1,h2,fun j x hx=>by rw [bu h1];simpa using hx⟩
theorem getD_getElem? (l:List Int) (i:Nat) (hi:i<l.length):l[i]?=some (l.getD i 0):=by
 simp [I' hi]
theorem EK (m:MR g h w) {t:TypeId} {a v:AV} {x:Value} (hl:dS P h t a=some v) (ha:aP g h.al w a x):∃ y,(Instr.loadAt t x).run P w=.ok y w∧aP g h.al w v y:=by
 have step:∀ ad,x=.pointer (some ad)→(Instr.loadAt t x).run P w=(loadVar t ad).run P w:=by
  intro ad e;subst e;simp [Instr.loadAt,Instr.sureAddr,Sem.run_bind,pure,Sem.run]
 cases ha with
 | ptr hb =>
  simp only [dS,B'] at hl
  obtain ⟨l,h1,h2⟩:=hl
  obtain ⟨cells,ty,k1,k2,k3⟩:=ig m hb h1
  rw [step _ rfl]
  obtain ⟨y,e1,e2⟩:=pn (c:=_) (o':=0) h2 k2 (fun j x hx=>by rw [Nat.zero_add];exact k3 j x hx)
  rw [Nat.zero_add] at e1
  exact ⟨y,e1,e2⟩
 | ptri hb h0 h1 ho =>
  rename_i b o n i mm c o'
  simp only [dS,B'] at hl
  obtain ⟨l,hl1,⟨k,xs⟩,hl2,hl3⟩:=hl
  obtain ⟨cells,ty,k1,k2,k3⟩:=ig m hb hl1
  obtain ⟨r1,r2,r3⟩:=k2.fT _ _ _ _ hl2
  rw [step _ rfl]
  subst ho
  have cellAt:∀ j,j<n→w.cell? ⟨c,o+j,none⟩=some (.int k (xs.getD j 0)):=fun j hj=>by
   apply k3
   have:((cells.toList.drop o).take n)[j]?=some (.int k (xs.getD j 0)):=by
    rw [r3,List.getElem?_map,getD_getElem? xs j (by omega)];rfl
   rwa [List.getElem?_take_of_lt hj,List.getElem?_drop] at this
  by_cases hag:b7 P t=true
  ·simp only [hag,if_true,Option.ite_none_right_eq_some,A'] at hl3
   obtain ⟨hs,rfl⟩:=hl3
   have hd:∃ d,P.underlying t=some d:=by
    unfold b7 at hag;split at hag<;>first | exact ⟨_,by assumption⟩ | simp at hag
   obtain ⟨d,hd⟩:=hd
   have hlen:((xs.drop i.toNat).take mm).length=mm:=by simp;omega
   refine ⟨_,kP t d hd hag mm hs c (o+i.toNat) (((xs.drop i.toNat).take mm).map (Value.int k)) (by simp;omega) (fun j x hx=>?_),.agg (.ints hlen (cs:=[]) (by simp) .nil)⟩
   have hj:j<mm:=by have:=(C'.1 hx).1;simp at this;omega
   rw [List.getElem?_map,List.getElem?_take_of_lt hj,List.getElem?_drop,getD_getElem? xs _ (by omega)] at hx
   obtain rfl:=Option.some.inj hx
   rw [Nat.add_assoc]
   exact cellAt _ (by omega)
  ·have ha':b7 P t=false:=by simpa using hag
   simp only [ha',Bool.false_eq_true,if_false,Option.ite_none_left_eq_some,not_or,A'] at hl3
   obtain ⟨⟨hm,hu⟩,rfl⟩:=hl3
   obtain ⟨d,hd⟩:∃ d,P.underlying t=some d:=by cases hx:P.underlying t<;>simp_all
   exact ⟨_,kV t d hd ha' _ _ _ (cellAt _ (by omega)),.int _ _⟩
 | ptrf hr hat =>
  simp only [dS] at hl
  rw [step _ rfl]
  obtain ⟨y,e1,e2⟩:=pn hl hr (fun j x hx=>(hat j x hx).1)
  exact ⟨y,e1,e2⟩
 | _=>simp [dS] at hl
theorem sU {a:AV} {v:Value} (hr:aP g tk w a v) (hc:aD a=true):(∀ cs,v≠.agg cs)∧(∀ cs,v≠.tuple cs):=by
 cases hr<;>first | (simp [aD] at hc;done) | exact ⟨fun _=>by simp,fun _=>by simp⟩
theorem kS {l:List AV} {cs:List Value} (hr:ax g tk w l cs):∀ v∈cs,(∀ x,v≠.agg x)∧(∀ x,v≠.tuple x):=by
 induction l generalizing cs with
 | nil=>cases hr;simp
 | cons a l ih =>
  cases hr with
  | ints hl hx hr =>
   subst hx
   intro v hv
   rcases List.mem_append.1 hv with hv | hv
   ·obtain ⟨n,_,rfl⟩:=List.mem_map.1 hv;exact ⟨fun _=>by simp,fun _=>by simp⟩
   ·exact ih hr v hv
  | one hs h1 h2 =>
   intro v hv
   rcases List.mem_cons.1 hv with rfl | hv
   ·exact sU h1 hs
   ·exact ih h2 v hv
theorem run_store {a:Addr} {v x:Value} (h1:(∀ cs,v≠.agg cs)∧(∀ cs,v≠.tuple cs)) (hc:w.cell? a=some x) (hf:w.frozen? a=false):(store a v).run P w=.ok () (w.setCell a v):=by
 unfold store
 cases v<;>first | exact absurd rfl (h1.1 _) | exact absurd rfl (h1.2 _) | simp [Sem.run,hc,hf]
theorem eG (ty:TypeId) (c:Nat):∀ (us:List Value) (w:World) (cells:Array Value) (o i:Nat),(∀ v∈us,(∀ x,v≠.agg x)∧(∀ x,v≠.tuple x))→w.heap[c]?=some (.cells cells ty (0,0))→o+i+us.length≤cells.size →
  ∃ cells',cells'.toList=bA cells.toList (o+i) us∧(storeCells ⟨c,o,none⟩ us i).run P w=.ok () (bk w c (.cells cells' ty))
 | [],w,cells,o,i,_,hb,_=>⟨cells,by rw [nC],by
   have e:bk w c (.cells cells ty)=w:=by
    have hc:=aV hb
    have e1:w.heap[c]=.cells cells ty (0,0):=by simpa [Array.getElem?_eq_getElem hc] using hb
    unfold bk
    have:w.heap.setIfInBounds c (.cells cells ty)=w.heap:=by
     apply Array.ext_getElem?
     intro i
     rw [Array.getElem?_setIfInBounds]
     by_cases hi:c=i
     ·subst hi;simp [hc,e1]
     ·simp [hi]
    rw [this]
   rw [e];rfl⟩
 | u::us,w,cells,o,i,hu,hb,hl=>by
  simp only [List.length_cons] at hl
  have hlt:o+i<cells.size:=by omega
  have hcell:w.cell? ⟨c,o+i,none⟩=some cells[o+i]:=by rw [bu hb];simp [hlt]
  have hw:=lv (o:=o+i) hb u
  obtain ⟨cells',e1,e2⟩:=eG ty c us (w.setCell ⟨c,o+i,none⟩ u) (cells.setIfInBounds (o+i) u) o (i+1) (fun v hv=>hu v (by simp [hv])) (by rw [hw];exact cG hb) (by simp;omega)
  refine ⟨cells',?_,?_⟩
  ·rw [e1,Array.toList_setIfInBounds,jr _ _ _ (by simpa using hlt)]
   have:=jj cells.toList (o+i) [u] us (by simp;omega)
   simpa [Nat.add_assoc] using this
  ·unfold storeCells
   rw [Sem.run_bind,eV,run_store (hu u (by simp)) hcell (jt hb),Result.andThen_ok,e2,hw]
   congr 1
   simp [bk]
theorem oh {a:AV} {v:Value} (hr:aP g tk w a v) (hs:storable a=true):v.cells.size=cM (bx a):=by
 have:=(hr.bx hs).length
 simpa using this
theorem Ad (l:List AV) (n:Nat):l.foldl (fun n s=>n+ssize s) n=n+cM l:=by
 induction l generalizing n with
 | nil=>simp [cM]
 | cons a l ih=>simp [cM,ih] at *;omega
theorem gF {a:AV} (hs:storable a=true):iH a=cM (bx a):=by
 cases a<;>simp [storable,aD] at hs
 case agg l=>simp only [iH,bx,Ad,Nat.zero_add]
 all_goals rfl
theorem xR {t:TypeId} {v:AV} {x:Value} (hr:aP g tk w v x) (hs:storable v=true) (hz:bN P t=some (iH v)) {c o:Nat} {cells:Array Value} {ty:TypeId} (hb:w.heap[c]?=some (.cells cells ty (0,0))) (ho:o+iH v≤cells.size) :
  ∃ cells',cells'.toList=bA cells.toList o x.cells.toList∧(storeVar t ⟨c,o,none⟩ x).run P w=.ok () (bk w c (.cells cells' ty)):=by
 have e:=oh hr hs
 rw [← gF hs] at e
 obtain ⟨cells',e1,e2⟩:=eG (P:=P) ty c x.cells.toList w cells o 0 (kS (hr.bx hs)) hb (by simp [e];omega)
 refine ⟨cells',by simpa using e1,?_⟩
 unfold storeVar
 rw [Sem.run_bind,run_sizeOf t _ hz,Result.andThen_ok,if_neg (by simp [e])]
 exact e2
theorem DU {l l':List AV} {o:Nat} {vs:List AV} (hp:mq l o vs=some l') {cs:List Value} (hr:ax g tk w l cs) {us:List Value} (hv:ax g tk w vs us) (h0:0<us.length):o+us.length≤cs.length:=by
 induction vs generalizing l o us cs with
 | nil=>cases hv;simp at h0
 | cons a vs ih =>
  simp only [mq,B'] at hp
  obtain ⟨l1,h1,h2⟩:=hp
  have key:∃ u1 u2,us=u1++u2∧ax g tk w [a] u1∧ax g tk w vs u2∧u1.length=ssize a:=by
   cases hv with
   | ints hln hx hr=>exact ⟨_,_,hx,.ints hln (by simp) .nil,hr,by simp [ssize,hln]⟩
   | one hs hh hr=>exact ⟨_,_,(List.singleton_append).symm,.one hs hh .nil,hr,(ft hs).symm⟩
  obtain ⟨u1,u2,rfl,k1,k2,k3⟩:=key
  obtain ⟨b1,b2⟩:=hr.xn _ _ _ h1 k1
  by_cases hu:0<u2.length
  ·have:=ih h2 b2 k2 hu
   rw [eh _ _ _ b1] at this
   simp;omega
  ·simp at hu ⊢;subst hu;simpa using b1
theorem JJ (m:MR g h w) {t:TypeId} {a v:AV} {x y:Value} {h':Hp} (hl:kK P h t a v=some h') (ha:aP g h.al w a x) (hv:aP g h.al w v y) :
  ∃ w',(Instr.storeAt t x y).run P w=.ok () w'∧MR g h' w'∧Le g h.al w g h'.al w':=by
 have step:∀ ad,x=.pointer (some ad)→(Instr.storeAt t x y).run P w=(storeVar t ad y).run P w:=by
  intro ad e;subst e;simp [Instr.storeAt,Instr.sureAddr,Sem.run_bind,pure,Sem.run]
 cases ha with
 | ptr hb =>
  rename_i b o c
  simp only [kK] at hl
  split at hl
  ·rename_i hn
   simp only [A'] at hl
   subst hl
   unfold IX at hn
   split at hn
   ·simp only [beq_iff_eq] at hn
    obtain ⟨cs,rfl,hh⟩:=hv.e7
    have h0:=hh.df
    have hcs:cs=#[]:=Array.toList_inj.1 h0
    subst hcs
    refine ⟨w,?_,m,Le.refl _ _ _⟩
    rw [step _ rfl]
    unfold storeVar
    rw [Sem.run_bind,run_sizeOf t _ hn,Result.andThen_ok,if_neg (by simp [Value.cells])]
    rfl
   ·cases hn
  simp only [B',Option.ite_none_right_eq_some] at hl
  obtain ⟨l,⟨_,h1⟩,⟨hc,h2⟩⟩:=hl
  simp only [E',beq_iff_eq,decide_eq_true_eq] at hc
  obtain ⟨⟨hs,hpos⟩,hz⟩:=hc
  obtain ⟨l',h3,rfl⟩:=H'.1 h2
  obtain ⟨cells,ty,k1,k2,k3⟩:=ig m hb h1
  have hvs:=hv.bx hs
  have hsz:=oh hv hs
  rw [← gF hs] at hsz
  have hlen:o+iH v≤cells.size:=by
   have:=DU h3 k2 hvs (by simp [hsz];omega)
   simpa [hsz] using this
  obtain ⟨cells',e1,e2⟩:=xR (P:=P) (t:=t) hv hs hz.symm k1 hlen
  obtain ⟨m',l'⟩:=m.ID (cells:=cells') (ty:=ty) hb (lM h1).1 (l':=l') k1 (by rw [e1];exact k2.put _ _ _ h3 hvs (by simp [hsz];omega)) (by rw [← Array.length_toList,← Array.length_toList,e1,eh _ _ _ (by simp [hsz];omega)])
  exact ⟨_,by rw [step _ rfl];exact e2,m',l'⟩
 | ptri hb h0 h1 ho =>
  rename_i b o n i mm c o'
  subst ho
  simp only [kK,B',Option.ite_none_right_eq_some] at hl
  obtain ⟨l,⟨_,hl1⟩,⟨k,xs⟩,hl2,hl3⟩:=hl
  obtain ⟨cells,ty,k1,k2,k3⟩:=ig m hb hl1
  obtain ⟨r1,r2,r3⟩:=k2.fT _ _ _ _ hl2
  simp only [Array.length_toList] at r2
  have fin:∀ (us:List Int),bN P t=some us.length→us.length≤mm→(∀ u∈y.cells.toList,(∀ x,u≠.agg x)∧(∀ x,u≠.tuple x))→y.cells.toList=us.map (Value.int k)→∀ l',gi l o n (xs.take i.toNat++us++xs.drop (i.toNat+us.length))=some l' →
    ∃ w',(Instr.storeAt t (.pointer (some ⟨c,o+i.toNat,none⟩)) y).run P w=.ok () w'∧MR g (fi h b l') w'∧Le g h.al w g (fi h b l').al w':=by
   intro us hs hmm h1c hus l' hset
   have hysz:y.cells.size=us.length:=by rw [← Array.length_toList,hus];simp
   obtain ⟨cells',e1,e2⟩:=eG (P:=P) ty c y.cells.toList w cells (o+i.toNat) 0 h1c k1 (by simp [hysz];omega)
   have hrun:(storeVar t ⟨c,o+i.toNat,none⟩ y).run P w=.ok () (bk w c (.cells cells' ty)):=by
    unfold storeVar
    rw [Sem.run_bind,run_sizeOf t _ hs,Result.andThen_ok,if_neg (by simp [hysz])]
    exact e2
   have hsp:bA cells.toList o ((xs.take i.toNat++us++xs.drop (i.toNat+us.length)).map (Value.int k))=bA cells.toList (o+i.toNat) (us.map (Value.int k)):=by
    have hx:xs.map (Value.int k)=(cells.toList.drop o).take n:=r3.symm
    simp only [List.map_append,List.map_take,List.map_drop,hx,bA,List.length_append,List.length_take,List.length_drop,List.length_map,Array.length_toList]
    rw [List.take_take,List.drop_take,List.drop_drop]
    have t1:cells.toList.take (o+i.toNat)=cells.toList.take o++(cells.toList.drop o).take i.toNat:=by rw [List.take_add]
    rw [t1,show min i.toNat n=i.toNat by omega]
    have t2:cells.toList.drop (o+i.toNat+us.length)=(cells.toList.drop (o+(i.toNat+us.length))).take (n-(i.toNat+us.length))++cells.toList.drop (o+n):=by
     rw [show cells.toList.drop (o+n)=(cells.toList.drop (o+(i.toNat+us.length))).drop (n-(i.toNat+us.length)) by rw [List.drop_drop];congr 1;omega,List.take_append_drop,Nat.add_assoc]
    rw [t2]
    have t3:o+(min i.toNat (min n (cells.size-o))+us.length+min (n-(i.toNat+us.length)) (cells.size-(o+(i.toNat+us.length))))=o+n:=by omega
    simp only [List.append_assoc]
    congr 5
    all_goals omega
   obtain ⟨m',l''⟩:=m.ID (cells:=cells') (ty:=ty) hb (lM hl1).1 (l':=l') k1 (by
    rw [e1,hus,Nat.add_zero,← hsp]
    exact k2.gi _ _ _ (by simp;omega) _ _ hl2 _ hset) (by rw [← Array.length_toList,← Array.length_toList,e1,eh _ _ _ (by simp [hysz];omega)])
   exact ⟨_,by rw [step _ rfl];exact hrun,m',l''⟩
  have set1:∀ z:Int,xs.set i.toNat z=xs.take i.toNat++[z]++xs.drop (i.toNat+[z].length)∨mm=0:=by
   intro z
   by_cases h0:mm=0
   ·exact .inr h0
   ·left
    rw [List.set_eq_take_append_cons_drop,if_pos (by omega)]
    simp
  split at hl3
  ·simp only [Option.ite_none_right_eq_some,H'] at hl3
   obtain ⟨⟨rfl,hs,hm⟩,l',hset,rfl⟩:=hl3
   cases hv
   rename_i z
   rcases set1 z with e | e
   ·rw [e] at hset
    exact fin [z] hs hm (by simp [Value.cells]) rfl l' hset
   ·omega
  ·simp only [Option.ite_none_right_eq_some,H'] at hl3
   obtain ⟨⟨rfl,hs,hm⟩,l',hset,rfl⟩:=hl3
   cases hv
   rename_i z
   rcases set1 z with e | e
   ·rw [e] at hset
    exact fin [z] hs hm (by simp [Value.cells]) rfl l' hset
   ·omega
  ·simp only [Option.ite_none_right_eq_some,H'] at hl3
   obtain ⟨⟨rfl,rfl,hs⟩,l',hset,rfl⟩:=hl3
   rename_i ys
   obtain ⟨cs,rfl,hh⟩:=hv.e7
   obtain ⟨hln,r,hx,hn⟩:=hh.cE
   obtain rfl:=hn.df
   rw [List.append_nil] at hx
   subst hln
   refine fin ys hs (Nat.le_refl _) (fun u hu=>?_) (by simpa [Value.cells] using hx) l' hset
   simp only [Value.cells,hx] at hu
   obtain ⟨z,_,rfl⟩:=List.mem_map.1 hu
   exact ⟨fun _=>by simp,fun _=>by simp⟩
  ·simp at hl3
 | _=>simp [kK] at hl
end
noncomputable section
variable {P:Program} {g:Gh} {tk:List Nat} {w:World}
@[simp] theorem get_guard {α:Type} (b:Bool) (t:Tr α) (x:α):(Tr.guard b t).get=some x ↔ b=true∧t.get=some x:=by
 cases b<;>simp [Tr.guard,Tr.get]
@[simp] theorem bF {α:Type} (o:Option α):(Tr.opt o).get=o:=by cases o<;>rfl
@[simp] theorem au {α:Type} (a:α):(Tr.ret a).get=some a:=rfl
@[simp] theorem W6 {α:Type}:(Tr.fail:Tr α).get=none:=rfl
theorem get_bind {α β:Type} (t:Tr α) (f:α→Tr β):(t.bind f).get=t.get.bind fun a=>(f a).get:=by
 induction t with
 | ret a=>rfl
 | fail=>rfl
 | br b t e iht ihe=>cases b<;>simp [Tr.bind,Tr.get,iht,ihe]
 | ck c b b' s s' t ih=>cases c<;>simp [Tr.bind,Tr.get,ih]
theorem fc {α:Type} (b:Bool) (t e:Tr α):(Tr.br b t e).get=bif b then t.get else e.get:=rfl
theorem wrap_u64 (n:Int):IntKind.wrap .u64 n=n % 18446744073709551616:=by
 simp [IntKind.wrap,IntKind.bits,IntKind.signed]
theorem lE (n:Nat) (h:n<18446744073709551616):IntKind.wrap .u64 (n:Int)=n:=by
 rw [wrap_u64];omega
theorem Db {op:BinOp} {k:IntKind} {x y r:Int} (t:TypeId) (h:BR op k x y=some r):(binOp op t (.int k x) (.int k y)).run P w=.ok (.int k r) w:=by
 cases op<;>simp [BR] at h<;>subst h<;>simp [binOp,Op.intArith,Op.intBits,wr,iY,pure,Sem.run]
theorem K0 {op:BinOp} {k:IntKind} {x y:Int} {r:Bool} (t:TypeId) (h:UP op x y=some r):(binOp op t (.int k x) (.int k y)).run P w=.ok (.bool r) w:=by
 cases op<;>simp [UP] at h<;>subst h<;>simp [binOp,Op.intCmp,pure,Sem.run]
theorem A4 {op:BinOp} {k:IntKind} {x y r:Int} (t:TypeId) (hy:y≠0) (h:Tx op k x y=some r):(binOp op t (.int k x) (.int k y)).run P w=.ok (.int k r) w:=by
 cases op<;>simp [Tx] at h<;>subst h<;>simp [binOp,Op.intDiv,wr,pure,Sem.run,hy]
theorem Dd {op:BinOp} {k k':IntKind} {x y r:Int} (t:TypeId) (hy:0≤y) (h:BD op k x y.toNat=some r):(binOp op t (.int k x) (.int k' y)).run P w=.ok (.int k r) w:=by
 have hy':¬ y<0:=by omega
 cases op<;>simp [BD] at h<;>subst h<;>simp [binOp,Op.shift,wr,pure,Sem.run,hy']
theorem fq (x:BitVec 64):BitVec.ofInt 64 (x.toNat:Int)=x:=by
 apply BitVec.eq_of_toNat_eq
 rw [BitVec.toNat_ofInt]
 have:=x.isLt
 omega
theorem Da {op:BinOp} {x y r:BitVec 64} (t:TypeId) (h:CF op x y=some r):(binOp op t (.int .u64 (x.toNat:Int)) (.int .u64 (y.toNat:Int))).run P w=.ok (.int .u64 (r.toNat:Int)) w:=by
 have hx:=x.isLt
 have hy:=y.isLt
 cases op<;>simp only [CF,A',reduceCtorEq] at h<;>subst h<;>simp only [binOp,Op.intArith,Op.intBits,ne_eq,not_true_eq_false,if_false,pure,Sem.run]
 ·simp only [wrap_u64,BitVec.toNat_add];congr 2
 ·simp only [wrap_u64,BitVec.toNat_sub];congr 2;omega
 ·simp only [wrap_u64,BitVec.toNat_mul];congr 2
 ·show Result.ok (Value.int .u64 (IntKind.wrap .u64 _)) w=_
  simp only [IntKind.bits,fq];rw [lE _ (BitVec.isLt _)];rfl
 ·show Result.ok (Value.int .u64 (IntKind.wrap .u64 _)) w=_
  simp only [IntKind.bits,fq];rw [lE _ (BitVec.isLt _)];rfl
 ·show Result.ok (Value.int .u64 (IntKind.wrap .u64 _)) w=_
  simp only [IntKind.bits,fq];rw [lE _ (BitVec.isLt _)];rfl
 ·show Result.ok (Value.int .u64 (IntKind.wrap .u64 _)) w=_
  simp only [IntKind.bits,fq];rw [lE _ (BitVec.isLt _)];rfl
theorem F1 (x y:BitVec 64):((x.toNat:Int)==(y.toNat:Int))=(x==y):=by
 rw [Bool.eq_iff_iff];simp only [beq_iff_eq];exact ⟨fun h=>BitVec.eq_of_toNat_eq (by omega),fun h=>by rw [h]⟩
theorem HQ {op:BinOp} {x y:BitVec 64} {r:Bool} (t:TypeId) (h:TJ op x y=some r):(binOp op t (.int .u64 (x.toNat:Int)) (.int .u64 (y.toNat:Int))).run P w=.ok (.bool r) w:=by
 have e:((x.toNat:Int)==(y.toNat:Int))=(x==y):=by
  rw [Bool.eq_iff_iff];simp only [beq_iff_eq];exact ⟨fun h=>BitVec.eq_of_toNat_eq (by omega),fun h=>by rw [h]⟩
 cases op<;>simp only [TJ,A',reduceCtorEq] at h<;>subst h<;>simp only [binOp,Op.intCmp,ne_eq,not_true_eq_false,if_false,pure,Sem.run,e,bne]
 all_goals simp
theorem IA {op:BinOp} {x y:BitVec 64} (t:TypeId) (hy:y≠0#64) (hop:op=.quo∨op=.rem):(binOp op t (.int .u64 (x.toNat:Int)) (.int .u64 (y.toNat:Int))).run P w=.ok (.int .u64 (((if op=.rem then x % y else x / y).toNat:Nat):Int)) w:=by
 have h0:(y.toNat:Int)≠0:=by
  intro e
  apply hy
  apply BitVec.eq_of_toNat_eq
  simpa using e
 have hx:=x.isLt
 rcases hop with rfl | rfl
 ·simp only [binOp,ne_eq,not_true_eq_false,if_false,Op.intDiv,h0,pure,Sem.run,reduceCtorEq,BitVec.toNat_udiv,wrap_u64]
  congr 2
  rw [Int.tdiv_eq_ediv_of_nonneg (by omega)]
  have h1:x.toNat / y.toNat≤x.toNat:=Nat.div_le_self _ _
  have e:((x.toNat:Int) / (y.toNat:Int))=((x.toNat / y.toNat:Nat):Int):=(Int.natCast_ediv _ _).symm
  rw [e]
  generalize x.toNat / y.toNat=q at *
  omega
 ·simp only [binOp,ne_eq,not_true_eq_false,if_false,Op.intDiv,h0,pure,Sem.run,if_true,BitVec.toNat_umod]
  congr 2
theorem Cb {op:BinOp} {k':IntKind} {x r:BitVec 64} {y:Int} (t:TypeId) (hy:0≤y) (h:C0 op x y.toNat=some r):(binOp op t (.int .u64 (x.toNat:Int)) (.int k' y)).run P w=.ok (.int .u64 (r.toNat:Int)) w:=by
 have hy':¬ y<0:=by omega
 have hx:=x.isLt
 cases op<;>simp only [C0,A',reduceCtorEq] at h<;>subst h<;>simp only [binOp,Op.shift,hy',if_false,pure,Sem.run,IntKind.bits]
 ·congr 2
  rw [wrap_u64,BitVec.toNat_shiftLeft,Nat.shiftLeft_eq]
  by_cases h64:y.toNat≤64
  ·rw [Nat.min_eq_left h64,Int.natCast_emod,Int.natCast_mul,Int.natCast_pow];rfl
  ·rw [Nat.min_eq_right (by omega)]
   have e:x.toNat * 2 ^ y.toNat % 2 ^ 64=0:=by
    rw [show y.toNat=(y.toNat-64)+64 by omega,Nat.pow_add,← Nat.mul_assoc]
    exact Nat.mul_mod_left _ _
   rw [e]
   omega
 ·congr 2
  rw [BitVec.toNat_ushiftRight,Nat.shiftRight_eq_div_pow,Int.fdiv_eq_ediv_of_nonneg _ (by exact Int.le_of_lt (Int.pow_pos (by decide)))]
  by_cases h64:y.toNat≤64
  ·rw [Nat.min_eq_left h64,Int.natCast_ediv,Int.natCast_pow];rfl
  ·rw [Nat.min_eq_right (by omega),Nat.div_eq_of_lt]
   ·omega
   ·exact Nat.lt_of_lt_of_le hx (Nat.pow_le_pow_right (by decide) (by omega))
theorem AM {op:BinOp} {t:TypeId} {x y:Operand} {a b:Value} (h1:a≠.nilIface∨b≠.nilIface) (h2:(∀ c,a≠.agg c)∨P.eqGuardType P.depth t=false∨¬ (op=.eql∨op=.neq)):(eqGuard op t x y a b).run P w=.ok () w:=by
 by_cases hop:op=.eql∨op=.neq
 ·have h2':(∀ c,a≠.agg c)∨P.eqGuardType P.depth t=false:=by
   rcases h2 with h | h | h
   ·exact .inl h
   ·exact .inr h
   ·exact absurd hop h
  have fin:∀ op:BinOp,(op=.eql∨op=.neq)→(eqGuard op t x y a b).run P w=.ok () w:=by
   intro op ho
   rcases ho with rfl | rfl
   all_goals
    unfold eqGuard
    simp only [Bool.not_true,Bool.false_eq_true,if_false]
    split
    ·rcases h1 with h | h<;>exact absurd rfl h
    ·rename_i ca cb
     rcases h2' with h | h
     ·exact absurd rfl (h ca)
     ·simp [Sem.run_bind,program,Sem.run,h,pure]
    ·rfl
  exact fin op hop
 ·cases op<;>first | exact absurd (.inl rfl) hop | exact absurd (.inr rfl) hop | rfl
theorem vW {op:BinOp} {t:TypeId} {x y:Operand} {a b v:Value} (h1:a≠.nilIface∨b≠.nilIface) (h2:(∀ c,a≠.agg c)∨P.eqGuardType P.depth t=false∨¬ (op=.eql∨op=.neq)) (h:(binOp op t a b).run P w=.ok v w) :
  (do eqGuard op t x y a b;binOp op t a b:Sem Value).run P w=.ok v w:=by
 rw [Sem.run_bind,AM h1 h2,Result.andThen_ok,h]
theorem Cx (x y:List UInt8):kL x y=Op.bytesLess x y:=by
 induction x generalizing y with
 | nil=>cases y<;>rfl
 | cons a x ih=>cases y with
  | nil=>rfl
  | cons b y=>rw [kL,Op.bytesLess,ih]
theorem toList_data (s:ByteArray):s.toList=s.data.toList:=ByteArray.toList_eq s
theorem Ia {op:BinOp} {x y:ByteArray} {r:Bool} (t:TypeId) (h:US op x.data.toList y.data.toList=some r) (hop:op≠.add):(binOp op t (.string x) (.string y)).run P w=.ok (.bool r) w:=by
 cases op<;>simp only [US,A',reduceCtorEq] at h<;>subst h<;>simp [binOp,Op.stringOp,Cx,toList_data,pure,Sem.run]
theorem Ky {x y:ByteArray} (t:TypeId) (h:x.size+y.size≤wU):∃ z:ByteArray,z.data.toList=x.data.toList++y.data.toList∧(binOp .add t (.string x) (.string y)).run P w=.ok (.string z) w:=by
 refine ⟨x++y,by simp,?_⟩
 have:¬ (((x.size+y.size:Nat):Int)>IntKind.i64.max):=by
  simp only [IntKind.max,IntKind.signed,IntKind.bits,if_true]
  simp only [wU] at h
  omega
 simp only [binOp,Op.stringOp,this,if_false,pure,Sem.run]
end
noncomputable section
variable {P:Program} {g:Gh} {tk:List Nat} {w:World}
def bB:List Value→List Value→Option Bool
 | [],[]=>some true
 | .int k a::xs,.int k' b::ys=>if k=k' then (bB xs ys).map ((a==b)&&·) else none
 | .bool a::xs,.bool b::ys=>(bB xs ys).map ((a==b)&&·)
 | .string a::xs,.string b::ys=>(bB xs ys).map ((a.toList==b.toList)&&·)
 | _,_=>none
theorem Il (k:IntKind) (l l':List Int) (h:l.length=l'.length) (xs ys:List Value) (e:Bool) (hc:bB xs ys=some e) :
  bB (l.map (Value.int k)++xs) (l'.map (Value.int k)++ys)=some ((l==l')&&e):=by
 induction l generalizing l' with
 | nil=>cases l' with | nil=>simpa using hc | cons=>simp at h
 | cons a l ih=>cases l' with
  | nil=>simp at h
  | cons b l' =>
   simp only [List.map_cons,List.cons_append,bB,if_true,ih l' (by simpa using h),Option.map_some]
   simp [List.cons_beq_cons,Bool.and_assoc]
theorem BG {xs ys:List AV} {cs ds:List Value} {e:Bool} (h:eL xs ys=some e) (hx:ax g tk w xs cs) (hy:ax g tk w ys ds):bB cs ds=some e:=by
 induction xs generalizing ys cs ds e with
 | nil=>cases ys with
  | nil=>cases hx;cases hy;simpa [eL,bB] using h
  | cons=>simp [eL] at h
 | cons x xs ih =>
  cases ys with
  | nil=>cases x<;>simp [eL] at h
  | cons y ys =>
   by_cases hi:∃ k n l,x=.ints k n l
   ·obtain ⟨k,n,l,rfl⟩:=hi
    obtain ⟨hl,r,rfl,hr⟩:=hx.cE
    by_cases hj:∃ k n l,y=.ints k n l
    ·obtain ⟨k',n',l',rfl⟩:=hj
     obtain ⟨hl',r',rfl,hr'⟩:=hy.cE
     simp only [eL,Option.ite_none_right_eq_some,H'] at h
     obtain ⟨⟨rfl,rfl⟩,e',h1,rfl⟩:=h
     exact Il _ _ _ (by omega) _ _ _ (ih h1 hr hr')
    ·exfalso
     cases y<;>first | exact hj ⟨_,_,_,rfl⟩ | simp [eL,yE] at h
   ·have hcx:aD x=true:=by
     cases hx with
     | ints=>exact absurd ⟨_,_,_,rfl⟩ hi
     | one hs=>exact hs
    obtain ⟨c,r,rfl,h1,hr⟩:=hx.inv_one hcx
    by_cases hj:∃ k n l,y=.ints k n l
    ·exfalso
     obtain ⟨k',n',l',rfl⟩:=hj
     cases x<;>first | exact hi ⟨_,_,_,rfl⟩ | simp [eL,yE] at h
    have hcy:aD y=true:=by
     cases hy with
     | ints=>exact absurd ⟨_,_,_,rfl⟩ hj
     | one hs=>exact hs
    obtain ⟨d,r',rfl,h2,hr'⟩:=hy.inv_one hcy
    cases h1<;>simp [aD] at hcx<;>cases h2<;>simp [aD] at hcy<;>simp only [eL,yE,H',Option.ite_none_right_eq_some,reduceCtorEq] at h
    all_goals first
     | (obtain ⟨rfl,e',h1,rfl⟩:=h;simp [bB,ih h1 hr hr'])
     | (obtain ⟨e',h1,rfl⟩:=h;simp [bB,ih h1 hr hr'])
     | skip
    ·rw [F1]
    ·rename_i ha _ _ hb _ _
     subst ha;subst hb
     rw [toList_data,toList_data]
theorem vT {m:Nat}:∀ {cs ds:List Value} {e:Bool},bB cs ds=some e→m≤cs.length→∃ e1 e2,bB (cs.take m) (ds.take m)=some e1∧bB (cs.drop m) (ds.drop m)=some e2∧e=(e1&&e2):=by
 induction m with
 | zero =>
  intro cs ds e h _
  exact ⟨true,e,by simp [bB],by simpa using h,by simp⟩
 | succ m ih =>
  intro cs ds e h hm
  cases cs with
  | nil=>simp at hm
  | cons c cs=>cases ds with
   | nil=>cases c<;>simp [bB] at h
   | cons d ds =>
    simp only [List.length_cons] at hm
    cases c<;>cases d<;>simp only [bB,H',Option.ite_none_right_eq_some,reduceCtorEq] at h
    ·rename_i a b
     obtain ⟨e',h1,rfl⟩:=h
     obtain ⟨e1,e2,k1,k2,k3⟩:=ih h1 (by omega)
     exact ⟨a==b&&e1,e2,by simp only [List.take_succ_cons,bB,k1,Option.map_some],by simpa using k2,by rw [k3,Bool.and_assoc]⟩
    ·rename_i _ a _ b
     obtain ⟨hk,e',h1,rfl⟩:=h
     obtain ⟨e1,e2,k1,k2,k3⟩:=ih h1 (by omega)
     exact ⟨a==b&&e1,e2,by simp only [List.take_succ_cons,bB,k1,Option.map_some,if_pos hk],by simpa using k2,by rw [k3,Bool.and_assoc]⟩
    ·rename_i a b
     obtain ⟨e',h1,rfl⟩:=h
     obtain ⟨e1,e2,k1,k2,k3⟩:=ih h1 (by omega)
     exact ⟨a.toList==b.toList&&e1,e2,by simp only [List.take_succ_cons,bB,k1,Option.map_some],by simpa using k2,by rw [k3,Bool.and_assoc]⟩
def wV:Value→Option CK
 | .bool _=>some .b
 | .int k _=>some (.i k)
 | .string _=>some .s
 | _=>none
theorem Ec {l:List AV} {cs:List Value} {ks:List CK} (h:ax g tk w l cs) (hk:Ko l=some ks):cs.map wV=ks.map some:=by
 induction l generalizing cs ks with
 | nil=>cases h;simp [Ko] at hk;subst hk;rfl
 | cons a l ih =>
  by_cases hi:∃ k n l,a=.ints k n l
  ·obtain ⟨k,n,xs,rfl⟩:=hi
   obtain ⟨hl,r,rfl,hr⟩:=h.cE
   simp only [Ko,H'] at hk
   obtain ⟨ks',hk',rfl⟩:=hk
   rw [List.map_append,ih hr hk',List.map_append]
   congr 1
   subst hl
   clear h ih hr hk'
   induction xs with
   | nil=>rfl
   | cons x xs ihx=>simp [wV,List.replicate_succ,ihx]
  ·have hc:aD a=true:=by
    cases h with
    | ints=>exact absurd ⟨_,_,_,rfl⟩ hi
    | one hs=>exact hs
   obtain ⟨c,r,rfl,h1,hr⟩:=h.inv_one hc
   cases h1<;>simp [aD] at hc<;>simp only [Ko,H',reduceCtorEq] at hk
   all_goals (obtain ⟨ks',hk',rfl⟩:=hk;simp [wV,ih hr hk'])
def qQ (P:Program) (t:TypeId) (cs:List Value):Value:=if b7 P t then .agg cs.toArray else cs.headD Go.undef
theorem run_part {t:TypeId} {d:TypeDesc} (hd:P.underlying t=some d) {m:Nat} (hs:bN P t=some m) {cs:Array Value} {o:Nat} (ho:o+m≤cs.size) (h1:b7 P t=false→m=1) :
  (part t cs o).run P w=.ok (qQ P t ((cs.toList.drop o).take m)) w:=by
 unfold part qQ
 rw [Sem.run_bind,jL t d hd,Result.andThen_ok]
 cases ha:b7 P t with
 | true =>
  simp only [if_true,Sem.run_bind,run_sizeOf t m hs,Result.andThen_ok]
  simp only [pure,Sem.run]
  congr 2
  apply Array.ext'
  simp [Array.toList_extract]
 | false =>
  have hm:=h1 ha
  subst hm
  simp only [Bool.false_eq_true,if_false]
  have hlt:o<cs.size:=by omega
  rw [Array.getElem?_eq_getElem hlt]
  simp only [pure,Sem.run]
  have e:(cs.toList.drop o).take 1=[cs[o]]:=by
   rw [List.drop_eq_getElem_cons (by simpa using hlt)];simp
  rw [e];rfl
def WE (P:Program) (d:Nat) (t:TypeId) (ks:List CK):Prop :=
 ((b7 P t=false→ks.length=1)∧∃ k,P.underlying t=some k) ∧
 ∀ (n:Nat),d≤n→∀ (cs ds:List Value) (e:Bool) (w:World),cs.map wV=ks.map some→ds.map wV=ks.map some→bB cs ds=some e→(Op.equalIn n t (qQ P t cs) (qQ P t ds)).run P w=.ok e w
theorem ei {cs:List Value} {ks:List CK} (h:cs.map wV=ks.map some):cs.length=ks.length:=by
 have:=congrArg List.length h;simpa using this
theorem nB {d:Nat} {t:TypeId} {k:CK} {kd:TypeDesc} (hu:P.underlying t=some kd) (ha:b7 P t=false)
  (hh:∀ (n:Nat) (c d:Value) (e:Bool) (w:World),wV c=some k→wV d=some k→bB [c] [d]=some e→(Op.equalIn (n+1) t c d).run P w=.ok e w):WE P (d+1) t [k]:=by
 refine ⟨⟨fun _=>rfl,_,hu⟩,fun n hn cs ds e w h1 h2 hc=>?_⟩
 obtain ⟨n,rfl⟩:∃ n',n=n'+1:=⟨n-1,by omega⟩
 have l1:=ei h1
 have l2:=ei h2
 match cs,ds,l1,l2 with
 | [c],[dd],_,_ =>
  simp only [List.map_cons,List.map_nil,List.cons.injEq,and_true] at h1 h2
  simpa [qQ,ha] using hh n c dd e w h1 h2 hc
theorem Gs {d:Nat} {t el:TypeId} {k:Nat} {ks:List CK} (hu:P.underlying t=some (.array k el)) (hs:bN P el=some ks.length) (ih:WE P d el ks):WE P (d+1) t (List.replicate k ks).flatten:=by
 have ha:b7 P t=true:=by simp [b7,hu]
 refine ⟨⟨by simp [ha],_,hu⟩,fun n hn cs ds e w h1 h2 hc=>?_⟩
 obtain ⟨n,rfl⟩:∃ n',n=n'+1:=⟨n-1,by omega⟩
 obtain ⟨⟨q2,kd,q4⟩,ih⟩:=ih
 obtain ⟨i,hi,hiz⟩:=oS hs
 simp only [qQ,ha,if_true]
 rw [run_equalIn_array w n _ _ hu hi]
 have hcell:P.cellsOf el=ks.length:=by simp [Program.cellsOf,hi,hiz]
 rw [hcell,List.range_eq_range']
 have l1:=ei h1
 have l2:=ei h2
 have items:∀ (j i:Nat) (e:Bool),i * ks.length≤cs.length→i * ks.length≤ds.length→(cs.drop (i * ks.length)).map wV=((List.replicate j ks).flatten).map some→(ds.drop (i * ks.length)).map wV=((List.replicate j ks).flatten).map some →
   bB (cs.drop (i * ks.length)) (ds.drop (i * ks.length))=some e→(Op.eqItems n el ks.length cs.toArray ds.toArray (List.range' i j)).run P w=.ok e w:=by
  intro j
  induction j with
  | zero =>
   intro i e p1 p2 a1 a2 hce
   have b1:=ei a1
   have b2:=ei a2
   simp only [List.replicate_zero,List.flatten_nil,List.length_nil] at b1 b2
   rw [List.eq_nil_of_length_eq_zero b1,List.eq_nil_of_length_eq_zero b2] at hce
   simp [bB] at hce
   subst hce
   rfl
  | succ j ihj =>
   intro i e p1 p2 a1 a2 hce
   have b1:=ei a1
   have b2:=ei a2
   simp only [List.replicate_succ,List.flatten_cons,List.length_append,List.length_drop] at b1 b2
   simp only [List.replicate_succ,List.flatten_cons] at a1 a2
   obtain ⟨e1,e2,k1,k2,k3⟩:=vT (m:=ks.length) hce (by simp;omega)
   have t1:((cs.drop (i * ks.length)).take ks.length).map wV=ks.map some:=by rw [List.map_take,a1,List.map_append,List.take_append_of_le_length (by simp),List.take_of_length_le (by simp)]
   have t2:((ds.drop (i * ks.length)).take ks.length).map wV=ks.map some:=by rw [List.map_take,a2,List.map_append,List.take_append_of_le_length (by simp),List.take_of_length_le (by simp)]
   have q1:=ih n (by omega) _ _ e1 w t1 t2 k1
   simp only [List.range'_succ,Op.eqItems,Sem.run_bind]
   rw [run_part q4 hs (by simp;omega) q2,Result.andThen_ok,run_part q4 hs (by simp;omega) q2,Result.andThen_ok]
   rw [q1,Result.andThen_ok,k3]
   cases e1 with
   | false=>simp [pure,Sem.run]
   | true =>
    simp only [Bool.not_true,Bool.false_eq_true,if_false,Bool.true_and]
    have en:(i+1) * ks.length=i * ks.length+ks.length:=by rw [Nat.add_mul,Nat.one_mul]
    refine ihj (i+1) e2 (by rw [en];omega) (by rw [en];omega) ?_ ?_ ?_
    ·rw [en,← List.drop_drop,List.map_drop,a1,List.map_append,List.drop_append_of_le_length (by simp),List.drop_of_length_le (by simp),List.nil_append]
    ·rw [en,← List.drop_drop,List.map_drop,a2,List.map_append,List.drop_append_of_le_length (by simp),List.drop_of_length_le (by simp),List.nil_append]
    ·rw [en,← List.drop_drop,← List.drop_drop];exact k2
 simpa using items k 0 e (by simp) (by simp) (by simpa using h1) (by simpa using h2) (by simpa using hc)
def kC (P:Program) (d:Nat) (acc:Option (List CK)) (f:Field):Option (List CK) :=
 acc.bind fun ks => if f.name != "_" && f.offset == ks.length then (GG P d f.type).bind fun k => if bN P f.type = some k.length then some (ks ++ k) else none else none
theorem lx (d:Nat) (l:List Field):l.foldl (kC P d) none=none:=by
 induction l with
 | nil=>rfl
 | cons f l ih=>simpa [kC] using ih
theorem BA {d:Nat} {t:TypeId} {fs:Array Field} {ks:List CK} (hu:P.underlying t=some (.struct fs)) (hst:P.stoodInHeld t=false) (hk:fs.toList.foldl (kC P d) (some [])=some ks)
  (ih:∀ (t:TypeId) (k:List CK),GG P d t=some k→WE P d t k):WE P (d+1) t ks:=by
 have ha:b7 P t=true:=by simp [b7,hu]
 refine ⟨⟨by simp [ha],_,hu⟩,fun n hn cs ds e w h1 h2 hc=>?_⟩
 obtain ⟨n,rfl⟩:∃ n',n=n'+1:=⟨n-1,by omega⟩
 have hfs:P.fieldsOf t=fs:=by simp [Program.fieldsOf,hu]
 have l1:=ei h1
 have l2:=ei h2
 simp only [qQ,ha,if_true]
 rw [run_equalIn_struct w n t _ _ (by rw [hfs];exact hu) hst,hfs]
 have fields:∀ (l:List Field) (k0:List CK) (e:Bool),l.foldl (kC P d) (some k0)=some ks→∃ k1,ks=k0++k1∧(bB (cs.drop k0.length) (ds.drop k0.length)=some e→(Op.eqFields n cs.toArray ds.toArray l).run P w=.ok e w):=by
  intro l
  induction l with
  | nil =>
   intro k0 e hf
   simp at hf
   subst hf
   refine ⟨[],by simp,fun hce=>?_⟩
   rw [List.drop_of_length_le (by omega),List.drop_of_length_le (by omega)] at hce
   simp [bB] at hce
   subst hce
   rfl
  | cons f l ihl =>
   intro k0 e hf
   simp only [List.foldl_cons] at hf
   by_cases hcond : (f.name != "_" && f.offset == k0.length) = true
   ·cases hk':GG P d f.type with
    | none=>simp only [kC,Option.bind_some,if_pos hcond,hk',Option.bind_none] at hf;rw [lx] at hf;cases hf
    | some k =>
     by_cases hsk:bN P f.type=some k.length
     ·have e0:kC P d (some k0) f=some (k0++k):=by simp only [kC,Option.bind_some,if_pos hcond,hk',if_pos hsk]
      rw [e0] at hf
      simp only [E',bne_iff_ne,ne_eq,beq_iff_eq] at hcond
      obtain ⟨hname,hoff⟩:=hcond
      obtain ⟨k2,hk2,_⟩:=ihl (k0++k) true hf
      refine ⟨k++k2,by rw [hk2,List.append_assoc],fun hce=>?_⟩
      have hlen:ks.length=k0.length+k.length+k2.length:=by rw [hk2];simp;omega
      obtain ⟨e1,e2,c1,c2,c3⟩:=vT (m:=k.length) hce (by simp;omega)
      have t1:((cs.drop k0.length).take k.length).map wV=k.map some:=by
       rw [List.map_take,List.map_drop,h1,hk2,List.append_assoc,List.map_append,List.drop_append_of_le_length (by simp),List.drop_of_length_le (by simp),List.nil_append,List.map_append,List.take_append_of_le_length (by simp),List.take_of_length_le (by simp)]
      have t2:((ds.drop k0.length).take k.length).map wV=k.map some:=by
       rw [List.map_take,List.map_drop,h2,hk2,List.append_assoc,List.map_append,List.drop_append_of_le_length (by simp),List.drop_of_length_le (by simp),List.nil_append,List.map_append,List.take_append_of_le_length (by simp),List.take_of_length_le (by simp)]
      obtain ⟨⟨q2,kd,q4⟩,q⟩:=ih f.type k hk'
      have q1:=q n (by omega) _ _ e1 w t1 t2 c1
      simp only [Op.eqFields,hname,ne_eq,not_false_eq_true,if_true,Sem.run_bind]
      rw [hoff,run_part q4 hsk (by simp;omega) q2,Result.andThen_ok,run_part q4 hsk (by simp;omega) q2,Result.andThen_ok]
      rw [q1,Result.andThen_ok,c3]
      cases e1 with
      | false=>simp [pure,Sem.run]
      | true =>
       simp only [Bool.not_true,Bool.false_eq_true,if_false,Bool.true_and]
       rw [List.drop_drop,List.drop_drop] at c2
       obtain ⟨_,_,h3⟩:=ihl (k0++k) e2 hf
       exact h3 (by rw [List.length_append];exact c2)
     ·simp only [kC,Option.bind_some,if_pos hcond,hk',if_neg hsk] at hf;rw [lx] at hf;cases hf
   ·simp only [kC,Option.bind_some,if_neg hcond] at hf;rw [lx] at hf;cases hf
 obtain ⟨_,_,h3⟩:=fields fs.toList [] e hk
 exact h3 (by simpa using hc)
theorem Oz:∀ (d:Nat) (t:TypeId) (ks:List CK),GG P d t=some ks→WE P d t ks:=by
 intro d
 induction d with
 | zero=>intro t ks h;simp [GG] at h
 | succ d ih =>
  intro t ks h
  obtain ⟨kd,hu⟩:∃ kd,P.underlying t=some kd:=by
   match hx:P.underlying t with
   | some kd=>exact ⟨kd,rfl⟩
   | none=>simp only [GG,hx] at h;cases h
  simp only [GG,hu] at h
  cases kd
  case bool =>
   simp only [Option.ite_none_right_eq_some,A'] at h
   obtain ⟨_,rfl⟩:=h
   refine nB hu (by simp [b7,hu]) fun n c d' e w h1 h2 he=>?_
   cases c<;>simp [wV] at h1
   cases d'<;>simp [wV] at h2
   simp [bB] at he
   subst he
   exact run_equalIn_bool' w n t _ _ hu
  case int k =>
   simp only [Option.ite_none_right_eq_some,A'] at h
   obtain ⟨_,rfl⟩:=h
   refine nB hu (by simp [b7,hu]) fun n c d' e w h1 h2 he=>?_
   cases c<;>simp [wV] at h1
   cases d'<;>simp [wV] at h2
   subst h1;subst h2
   simp [bB] at he
   subst he
   exact run_equalIn_int w n t _ _ _ _ hu
  case string =>
   simp only [Option.ite_none_right_eq_some,A'] at h
   obtain ⟨_,rfl⟩:=h
   refine nB hu (by simp [b7,hu]) fun n c d' e w h1 h2 he=>?_
   cases c<;>simp [wV] at h1
   cases d'<;>simp [wV] at h2
   simp [bB] at he
   subst he
   exact run_equalIn_string w n t _ _ hu
  case array k el =>
   simp only [B',Option.ite_none_right_eq_some,A'] at h
   obtain ⟨z,hz,hsz,rfl⟩:=h
   exact Gs hu hsz (ih el z hz)
  case struct fs =>
   simp only [Option.ite_none_left_eq_some] at h
   exact BA hu (by simpa using h.1) h.2 ih
  all_goals (simp at h)
end
noncomputable section
variable {P:Program} {g:Gh} {tk:List Nat} {w:World}
theorem xa {y:AV} {b:Value} {ok:Bool} {n:Nat} (hc:mL y=some (ok,n)) (hy:aP g tk w y b) (hok:ok=true):∃ k m,b=.int k m∧0≤m∧m.toNat=n:=by
 cases y<;>simp [mL] at hc
 case u64 x=>cases hy;exact ⟨_,_,rfl,by omega,by simp [← hc.2]⟩
 all_goals
  cases hy
  obtain ⟨rfl,rfl⟩:=hc
  exact ⟨_,_,rfl,by simpa using hok,rfl⟩
theorem Fp (op:BinOp):DG op=true ↔ op=.quo∨op=.rem:=by cases op<;>simp [DG]
theorem iE (op:BinOp):isEq op=true ↔ op=.eql∨op=.neq:=by cases op<;>simp [isEq]
def AG (P:Program) (g:Gh) (tk:List Nat) (w:World) (op:BinOp) (t:TypeId) (a b:Value) (v:AV):Prop :=
 ∃ v',(binOp op t a b).run P w=.ok v' w∧aP g tk w v v'
theorem mT (c:Bool) (k:IntKind) (n:Int):aP g tk w (Qi c k n) (.int k n):=by cases c<;>constructor
theorem OB (c:Bool) (b:Bool):aP g tk w (mkB c b) (.bool b):=by cases c<;>constructor
theorem uq {y:AV} {b:Value} {c:Bool} {k:IntKind} {n:Int} (h:HE y=some (c,k,n)) (hy:aP g tk w y b):b=.int k n:=by
 cases y<;>simp [HE] at h<;>cases hy
 all_goals (obtain ⟨rfl,rfl,rfl⟩:=h;rfl)
theorem tG {y:AV} {ok:Bool} {n:Nat} (hs:mO y=true) (hc:mL y=some (ok,n)):ok=true:=by
 cases y<;>simp [mO,mL] at hs hc
 ·exact hc.1 ▸ (by simpa using hs)
 ·exact hc.1.symm ▸ rfl
theorem En {op:BinOp} {t:TypeId} {c:Bool} {k:IntKind} {a:Int} {y v:AV} {b:Value} (h:(Nd op c k a y).get=some v) (hy:aP g tk w y b):AG P g tk w op t (.int k a) b v:=by
 unfold Nd at h
 split at h
 ·split at h
  ·rename_i ok n hc
   split at h
   ·rename_i r hr
    have key:ok=true→AG P g tk w op t (.int k a) b (Qi (c&&isC y) k r):=fun hok=>by
     obtain ⟨k',m,rfl,hm,hn⟩:=xa hc hy hok
     exact ⟨_,Dd t hm (by rw [hn];exact hr),mT _ _ _⟩
    split at h
    ·rename_i hs
     simp only [au,A'] at h
     subst h
     exact key (tG hs hc)
    ·simp only [get_guard,au,A'] at h
     obtain ⟨hok,rfl⟩:=h
     exact key hok
   ·simp at h
  ·simp at h
 ·split at h
  ·rename_i c' k' b' hi
   obtain rfl:=uq hi hy
   split at h
   ·rename_i hk
    subst hk
    split at h
    ·split at h
     ·rename_i r hr
      split at h
      ·split at h
       ·simp at h
       ·rename_i hb
        simp only [au,A'] at h
        subst h
        exact ⟨_,A4 t hb hr,mT _ _ _⟩
      ·simp only [get_guard,au,A',Bool.not_eq_true',beq_eq_false_iff_ne,ne_eq] at h
       obtain ⟨hb,rfl⟩:=h
       exact ⟨_,A4 t hb hr,mT _ _ _⟩
     ·simp at h
    ·split at h
     ·simp only [bF,H'] at h
      obtain ⟨r,hr,rfl⟩:=h
      exact ⟨_,K0 t hr,OB _ _⟩
     ·simp only [bF,H'] at h
      obtain ⟨r,hr,rfl⟩:=h
      exact ⟨_,Db t hr,mT _ _ _⟩
   ·simp at h
  ·simp at h
theorem OL {op:BinOp} {t:TypeId} {a:BitVec 64} {y v:AV} {b:Value} (h:(S4 op a y).get=some v) (hy:aP g tk w y b):AG P g tk w op t (.int .u64 (a.toNat:Int)) b v:=by
 unfold S4 at h
 split at h
 ·split at h
  ·rename_i ok n hc
   split at h
   ·rename_i r hr
    have key:ok=true→AG P g tk w op t (.int .u64 (a.toNat:Int)) b (.u64 r):=fun hok=>by
     obtain ⟨k',m,rfl,hm,hn⟩:=xa hc hy hok
     exact ⟨_,Cb t hm (by rw [hn];exact hr),.u64 _⟩
    split at h
    ·rename_i hs
     simp only [au,A'] at h
     subst h
     exact key (tG hs hc)
    ·simp only [get_guard,au,A'] at h
     obtain ⟨hok,rfl⟩:=h
     exact key hok
   ·simp at h
  ·simp at h
 ·split at h
  ·rename_i b'
   cases hy
   split at h
   ·simp only [bF,H'] at h
    obtain ⟨r,hr,rfl⟩:=h
    exact ⟨_,HQ t hr,.bool _⟩
   ·split at h
    ·rename_i hd
     simp only [get_guard,au,A',Bool.not_eq_true',beq_eq_false_iff_ne,ne_eq] at h
     obtain ⟨hb,rfl⟩:=h
     exact ⟨_,IA t hb ((Fp op).1 hd),.u64 _⟩
    ·simp only [bF,H'] at h
     obtain ⟨r,hr,rfl⟩:=h
     exact ⟨_,Da t hr,.u64 _⟩
  ·simp at h
theorem sK {op:BinOp} {t:TypeId} {a b:Bool} (h:isEq op=true) (ht:nQ P t=true):(binOp op t (.bool a) (.bool b)).run P w=.ok (.bool (bR op (a==b))) w:=by
 have hd:P.underlying t=some .bool:=by unfold nQ at ht;split at ht<;>simp_all
 rcases (iE op).1 h with rfl | rfl
 ·simp only [binOp,Op.equal,Op.maxDepth,Sem.run_bind,bR]
  rw [run_equalIn_bool' w 9999 t a b hd]
  rfl
 ·simp only [binOp,Op.equal,Op.maxDepth,Sem.run_bind,bR]
  rw [run_equalIn_bool' w 9999 t a b hd]
  rfl
theorem qy (n:Nat) {t:TypeId} {a:Value} {e:Bool} {p1 p2:Array TypeId} {p3:Bool} (hd:P.underlying t=some (.func p1 p2 p3)) (ha:(∃ f x y,a=.func f x y∧e=false)∨(a=.nilFunc∧e=true)):(Op.equalIn (n+1) t a .nilFunc).run P w=.ok e w:=by
 rcases ha with ⟨f,x,y,rfl,rfl⟩ | ⟨rfl,rfl⟩
 ·unfold Op.equalIn
  rw [Sem.run_bind,run_underlying t _ hd,Result.andThen_ok];rfl
 ·unfold Op.equalIn
  rw [Sem.run_bind,run_underlying t _ hd,Result.andThen_ok];rfl
theorem Ao {op:BinOp} {t:TypeId} {a:Value} {e:Bool} (h:isEq op=true) (ht:rB P t=true) (ha:(∃ f x y,a=.func f x y∧e=false)∨(a=.nilFunc∧e=true)):(binOp op t a .nilFunc).run P w=.ok (.bool (bR op e)) w:=by
 obtain ⟨p1,p2,p3,hd⟩:∃ a b c,P.underlying t=some (.func a b c):=by
  unfold rB at ht;split at ht
  ·exact ⟨_,_,_,by assumption⟩
  ·simp at ht
 have e1:(Op.equalIn 10000 t a .nilFunc).run P w=.ok e w:=qy 9999 hd ha
 rcases (iE op).1 h with rfl | rfl
 ·rcases ha with ⟨f,x,y,rfl,rfl⟩ | ⟨rfl,rfl⟩
  all_goals
   simp only [binOp,Op.equal,Op.maxDepth,Sem.run_bind,bR]
   rw [e1]
   rfl
 ·rcases ha with ⟨f,x,y,rfl,rfl⟩ | ⟨rfl,rfl⟩
  all_goals
   simp only [binOp,Op.equal,Op.maxDepth,Sem.run_bind,bR]
   rw [e1]
   rfl
theorem qS {t:TypeId} (ht:qA P t=true):∃ ms,P.underlying t=some (.interface ms)∧ms.isEmpty=true:=by
 unfold qA at ht
 split at ht
 ·exact ⟨_,by assumption,ht⟩
 ·cases ht
theorem Dc {t:TypeId} (ht:sL P t=true):∃ ms,P.underlying t=some (.interface ms):=by
 unfold sL at ht
 split at ht
 ·exact ⟨_,by assumption⟩
 ·cases ht
theorem FJ {t:TypeId} (ht:qA P t=true):sL P t=true:=by
 obtain ⟨ms,hd,_⟩:=qS ht
 unfold sL;rw [hd]
theorem pX {op:BinOp} {t:TypeId} {a:Value} {e:Bool} (h:isEq op=true) (ht:sL P t=true) (ha:(∃ i x,a=.iface i x∧e=false)∨(a=.nilIface∧e=true)):(binOp op t a .nilIface).run P w=.ok (.bool (bR op e)) w:=by
 obtain ⟨ms,hd⟩:=Dc ht
 have e1:(Op.equalIn 10000 t a .nilIface).run P w=.ok e w:=by
  rcases ha with ⟨i,x,rfl,rfl⟩ | ⟨rfl,rfl⟩
  ·unfold Op.equalIn
   rw [Sem.run_bind,run_underlying t _ hd,Result.andThen_ok];rfl
  ·unfold Op.equalIn
   rw [Sem.run_bind,run_underlying t _ hd,Result.andThen_ok];rfl
 rcases (iE op).1 h with rfl | rfl
 ·rcases ha with ⟨i,x,rfl,rfl⟩ | ⟨rfl,rfl⟩
  all_goals
   simp only [binOp,Op.equal,Op.maxDepth,Sem.run_bind,bR]
   rw [e1]
   rfl
 ·rcases ha with ⟨i,x,rfl,rfl⟩ | ⟨rfl,rfl⟩
  all_goals
   simp only [binOp,Op.equal,Op.maxDepth,Sem.run_bind,bR]
   rw [e1]
   rfl
theorem Oo {op:BinOp} {t:TypeId} {a:Option Addr} (h:isEq op=true) (ht:De P t=true):(binOp op t (.pointer a) (.pointer none)).run P w=.ok (.bool (bR op a.isNone)) w:=by
 obtain ⟨e,hd⟩:∃ e,P.underlying t=some (.pointer e):=by
  unfold De at ht;split at ht
  ·exact ⟨_,by assumption⟩
  ·cases ht
 have e1:(Op.equalIn 10000 t (.pointer a) (.pointer none)).run P w=.ok a.isNone w:=by
  unfold Op.equalIn
  rw [Sem.run_bind,run_underlying t _ hd,Result.andThen_ok]
  cases a<;>rfl
 rcases (iE op).1 h with rfl | rfl
 ·simp only [binOp,Op.equal,Op.maxDepth,Sem.run_bind,bR]
  rw [e1]
  rfl
 ·simp only [binOp,Op.equal,Op.maxDepth,Sem.run_bind,bR]
  rw [e1]
  rfl
theorem ri {op:BinOp} {t:TypeId} {x y:Operand} (h:isEq op=true) (ht:qA P t=true):(eqGuard op t x y .nilIface .nilIface).run P w=.ok () w:=by
 obtain ⟨ms,hd,hm⟩:=qS ht
 have e1:(Op.eqGuardIn 10000 t .nilIface .nilIface).run P w=.ok false w:=by
  unfold Op.eqGuardIn
  rw [Sem.run_bind,run_underlying t _ hd,Result.andThen_ok]
  simp only [hm,Bool.not_true]
  rfl
 rcases (iE op).1 h with rfl | rfl
 all_goals
  unfold eqGuard
  simp only [Bool.not_true,Bool.false_eq_true,if_false]
  split<;>(first | rfl | skip)
  split<;>(first | rfl | skip)
  rw [if_neg (by simp)]
  simp only [Op.maxDepth,Sem.run_bind]
  rw [e1]
  rfl
theorem rj {op:BinOp} {t:TypeId} {x y:Operand} (h:isEq op=true) (hl:(GH x || GH y)=true):(eqGuard op t x y .nilIface .nilIface).run P w=.ok () w:=by
 rcases (iE op).1 h with rfl | rfl
 all_goals
  unfold eqGuard
  cases x<;>cases y<;>first | rfl | (exact absurd (show false=true from hl) (by decide))
theorem SY {op:BinOp} {t:TypeId} {x y v:AV} {a b:Value} (ox oy:Operand) (h:(binop P (GH ox || GH oy) op t x y).get=some v) (hx:aP g tk w x a) (hy:aP g tk w y b) :
  ∃ v',(do eqGuard op t ox oy a b;binOp op t a b:Sem Value).run P w=.ok v' w∧aP g tk w v v':=by
 have lift:a≠.nilIface→(∀ c,a≠.agg c)→AG P g tk w op t a b v→∃ v',(do eqGuard op t ox oy a b;binOp op t a b:Sem Value).run P w=.ok v' w∧aP g tk w v v' :=
  fun h1 h2 ⟨v',h3,h4⟩=>⟨v',vW (.inl h1) (.inl h2) h3,h4⟩
 unfold binop at h
 split at h
 ·cases hx;exact lift (by simp) (by simp) (OL h hy)
 ·cases hx;exact lift (by simp) (by simp) (En h hy)
 ·cases hx;exact lift (by simp) (by simp) (En h hy)
 ·split at h
  ·cases hx with
   | str hx =>
   cases hy with
   | str hy =>
   subst hx;subst hy
   refine lift (by simp) (by simp) ?_
   split at h
   ·rename_i hop
    subst hop
    simp only [get_guard,au,A',decide_eq_true_eq] at h
    obtain ⟨hl,rfl⟩:=h
    obtain ⟨z,hz,hr⟩:=Ky (P:=P) (w:=w) t (by simp only [Array.length_toList] at hl;exact hl)
    exact ⟨_,hr,.str hz⟩
   ·rename_i hop
    simp only [bF,H'] at h
    obtain ⟨r,hr,rfl⟩:=h
    exact ⟨_,Ia t hr hop,.bool _⟩
  ·simp at h
 ·split at h
  ·split at h
   ·rename_i l1 l2 hc
    simp only [bF,H'] at h
    obtain ⟨e,he,rfl⟩:=h
    simp only [E',Bool.not_eq_true',beq_iff_eq] at hc
    obtain ⟨⟨⟨⟨⟨⟨hop,hg⟩,ha⟩,hs⟩,h1⟩,h2⟩,hz⟩:=hc
    obtain ⟨ks,hks⟩:=Option.isSome_iff_exists.1 hs
    obtain ⟨cs,rfl,hx'⟩:=hx.e7
    obtain ⟨ds,rfl,hy'⟩:=hy.e7
    have hq:=(Oz 8 t ks hks).2 10000 (by decide) cs.toList ds.toList e w (Ec hx' (h1.trans hks)) (Ec hy' (h2.trans hks)) (BG he hx' hy')
    simp only [qQ,ha,if_true,Array.toArray_toList] at hq
    refine ⟨.bool (bR op e),vW (.inl (by simp)) (.inr (.inl hg)) ?_,.bool _⟩
    rcases (iE op).1 hop with rfl | rfl
    ·rw [run_eql_struct,hq];rfl
    ·rw [run_neq_struct,hq];rfl
   ·simp at h
  ·simp at h
 ·split at h
  ·split at h
   ·rename_i hc
    simp only [E'] at hc
    simp only [au,A'] at h
    subst h
    cases hx with
    | func ha hb =>
    cases hy
    exact lift (by simp) (by simp) ⟨_,Ao hc.1 hc.2 (.inl ⟨_,_,_,rfl,rfl⟩),.aL _⟩
   ·simp at h
  ·simp at h
 ·split at h
  ·split at h
   ·rename_i hc
    simp only [E'] at hc
    simp only [au,A'] at h
    subst h
    cases hx
    cases hy
    exact lift (by simp) (by simp) ⟨_,Ao hc.1 hc.2 (.inr ⟨rfl,rfl⟩),.aL _⟩
   ·simp at h
  ·simp at h
 ·split at h
  ·split at h
   ·rename_i hc
    simp only [E'] at hc
    simp only [au,A'] at h
    subst h
    cases hx
    cases hy
    exact lift (by simp) (by simp) ⟨_,sK hc.1 hc.2,.aL _⟩
   ·simp at h
  ·split at h
   ·rename_i hc
    simp only [E'] at hc
    simp only [au,A'] at h
    subst h
    cases hx
    cases hy
    exact lift (by simp) (by simp) ⟨_,sK hc.1 hc.2,.bool _⟩
   ·simp at h
  ·simp at h
 ·split at h
  ·rename_i b' hb
   split at h
   ·rename_i hc
    simp only [E'] at hc
    simp only [au,A'] at h
    subst h
    cases hx
    have e:b=.bool b':=by
     cases y<;>simp [yE] at hb<;>cases hy<;>simp [hb]
    subst e
    exact lift (by simp) (by simp) ⟨_,sK hc.1 hc.2,.bool _⟩
   ·simp at h
  ·simp at h
 ·split at h
  ·split at h
   ·rename_i hc
    simp only [E'] at hc
    simp only [au,A'] at h
    subst h
    cases hx
    cases hy
    refine ⟨_,?_,.aL _⟩
    simp only [Bool.or_eq_true (qA P t),E'] at hc
    rcases hc with ⟨h1,h2 | ⟨h2,h3⟩⟩
    ·rw [Sem.run_bind,ri h1 h2,Result.andThen_ok,pX h1 (FJ h2) (.inr ⟨rfl,rfl⟩)]
    ·rw [Sem.run_bind,rj h1 h2,Result.andThen_ok,pX h1 h3 (.inr ⟨rfl,rfl⟩)]
   ·simp at h
  ·simp at h
 ·split at h
  ·split at h
   ·rename_i hc
    simp only [E'] at hc
    simp only [au,A'] at h
    subst h
    cases hx
    cases hy
    exact lift (by simp) (by simp) ⟨_,pX hc.1 hc.2 (.inl ⟨_,_,rfl,rfl⟩),.aL _⟩
   ·simp at h
  ·simp at h
 ·split at h
  ·rename_i b' hn
   split at h
   ·rename_i hc
    simp only [E'] at hc
    simp only [au,A'] at h
    subst h
    cases hy
    have ha:∃ q,a=.pointer q∧q.isNone=b':=by
     unfold LH at hn
     split at hn<;>simp only [A',reduceCtorEq] at hn<;>subst hn<;>cases hx<;>exact ⟨_,rfl,rfl⟩
    obtain ⟨q,rfl,rfl⟩:=ha
    exact lift (by simp) (by simp) ⟨_,Oo hc.1 hc.2,.aL _⟩
   ·simp at h
  ·simp at h
theorem XB {op:UnOp} {x v:AV} {a:Value} (h:(unop op x).get=some v) (hx:aP g tk w x a):∃ v',(Op.unary op a).run P w=.ok v' w∧aP g tk w v v':=by
 unfold unop at h
 split at h
 ·simp only [au,A'] at h;subst h;cases hx;exact ⟨_,rfl,.aL _⟩
 ·simp only [au,A'] at h;subst h;cases hx;exact ⟨_,rfl,.bool _⟩
 ·simp only [au,A'] at h;subst h;cases hx;exact ⟨_,rfl,.aE _ _⟩
 ·simp only [au,A'] at h;subst h;cases hx;exact ⟨_,rfl,.int _ _⟩
 ·simp only [au,A'] at h;subst h;cases hx
  refine ⟨_,rfl,?_⟩
  rename_i n
  have:IntKind.wrap .u64 (0-(n.toNat:Int))=((0#64-n).toNat:Int):=by
   have:=n.isLt
   rw [wrap_u64,BitVec.toNat_sub];simp;omega
  rw [this];exact .u64 _
 ·simp only [au,A'] at h;subst h;cases hx
  rename_i n
  refine ⟨.int .u64 (((~~~n).toNat:Nat):Int),?_,.u64 _⟩
  have e:(BitVec.ofInt 64 (IntKind.max .u64)) ^^^ (BitVec.ofInt 64 (n.toNat:Int)) = ~~~n:=by
   rw [fq]
   have:BitVec.ofInt 64 (IntKind.max .u64)=BitVec.allOnes 64:=by decide
   rw [this,BitVec.allOnes_xor]
  simp only [Op.unary,Op.intBits,IntKind.signed,Bool.false_eq_true,if_false]
  show Result.ok (Value.int .u64 (IntKind.wrap .u64 _)) w=_
  have e2:IntKind.wrap .u64 (((BitVec.ofInt 64 (IntKind.max .u64)) ^^^ (BitVec.ofInt 64 (n.toNat:Int))).toNat:Int)=((~~~n).toNat:Int):=by rw [e,lE _ (BitVec.isLt _)]
  exact congrArg (fun z=>Result.ok (Value.int .u64 z) w) e2
 ·simp at h
theorem Mt {s d:TypeId} {x v:AV} {a:Value} (h:(I1 P s d x).get=some v) (hx:aP g tk w x a):∃ v',(convert s d a).run P w=.ok v' w∧aP g tk w v v':=by
 have u64:∀ n:Int,(IntKind.wrap .u64 n:Int)=((BitVec.ofInt 64 n).toNat:Int):=fun n=>by
  rw [wrap_u64,BitVec.toNat_ofInt];omega
 unfold I1 at h
 split at h
 all_goals first | (simp at h;done) | skip
 all_goals
  rename_i hs hd
  simp only [au,A'] at h
  subst h
  cases hx
  unfold convert
  simp only [Sem.run_bind,run_underlying _ _ hs,run_underlying _ _ hd,Result.andThen_ok]
 ·exact ⟨_,rfl,by rw [u64];exact .u64 _⟩
 ·exact ⟨_,rfl,by rw [u64];exact .u64 _⟩
 ·rename_i n
  exact ⟨_,rfl,by rw [u64,fq];exact .u64 _⟩
 ·exact ⟨_,rfl,.aE _ _⟩
 ·exact ⟨_,rfl,.int _ _⟩
 ·exact ⟨_,rfl,.int _ _⟩
 ·rename_i hh
  exact ⟨_,rfl,.str hh⟩
 ·exact ⟨_,rfl,.str rfl⟩
 ·exact ⟨_,rfl,.str rfl⟩
end
noncomputable section
variable {P:Program} {g:Gh} {h:Hp} {tk:List Nat} {w:World}
theorem pD {l:List AV} {cs:List Value} (hr:ax g tk w l cs) {o:Nat} {a:AV} (ha:fL l o=some a):aD a=true:=by
 induction l generalizing cs o with
 | nil=>simp [fL,qE] at ha
 | cons b l ih =>
  simp only [fL,qE] at ha
  by_cases hi:∃ k n xs,b=.ints k n xs
  ·obtain ⟨k,n,xs,rfl⟩:=hi
   obtain ⟨_,r,_,hr'⟩:=hr.cE
   simp only [ssize] at ha
   by_cases ho:o<n
   ·simp only [ho,if_true,Option.bind_some,cellOf] at ha
    obtain rfl:=Option.some.inj ha
    rfl
   ·simp only [ho,if_false] at ha
    exact ih hr' (o:=o-n) (by simpa [fL] using ha)
  ·have hc:aD b=true:=by
    cases hr with
    | ints=>exact absurd ⟨_,_,_,rfl⟩ hi
    | one hs=>exact hs
   obtain ⟨c,r,_,_,hr'⟩:=hr.inv_one hc
   rw [ft hc] at ha
   by_cases ho:o<1
   ·simp only [ho,if_true,Option.bind_some] at ha
    have e:cellOf b o=some b:=by
     obtain rfl:o=0:=by omega
     cases b<;>first | rfl | simp [aD] at hc
    rw [e] at ha
    obtain rfl:=Option.some.inj ha
    exact hc
   ·simp only [ho,if_false] at ha
    exact ih hr' (o:=o-1) (by simpa [fL] using ha)
theorem nj {a:AV} (h:aD a=true):bx a=[a]:=by cases a<;>first | rfl | simp [aD] at h
theorem iw {t:TypeId} (hu:(P.underlying t).isSome=true):∃ d,P.underlying t=some d:=Option.isSome_iff_exists.1 hu
theorem wL {t:TypeId} {l:List AV} {o:Nat} {v:AV} (hp:gL P t l o=some v) {cs:Array Value} (hr:ax g tk w l cs.toList):∃ x,(part t cs o).run P w=.ok x w∧aP g tk w v x:=by
 unfold gL at hp
 simp only [Option.ite_none_right_eq_some] at hp
 obtain ⟨hu,hp⟩:=hp
 obtain ⟨d,hd⟩:=iw hu
 unfold part
 rw [Sem.run_bind,jL t d hd,Result.andThen_ok]
 by_cases ha:b7 P t=true
 ·simp only [ha,if_true,B',H'] at hp ⊢
  obtain ⟨m,hm,l',hl',rfl⟩:=hp
  obtain ⟨h1,h2⟩:=hr.sub _ _ _ hl'
  rw [Sem.run_bind,run_sizeOf t m hm,Result.andThen_ok]
  refine ⟨_,rfl,.agg ?_⟩
  simpa [Array.toList_extract] using h2
 ·have ha':b7 P t=false:=by simpa using ha
  simp only [ha',Bool.false_eq_true,if_false] at hp ⊢
  obtain ⟨x,h1,h2⟩:=hr.cell _ _ hp
  have:cs[o]?=some x:=by simpa using h1
  rw [this]
  exact ⟨x,rfl,h2⟩
theorem At.sub {c o:Nat} {cs:List Value} (h:At g w c o cs) (d m:Nat):At g w c (o+d) ((cs.drop d).take m):=by
 intro j x hx
 have hj:j<m:=by
  have:=(C'.1 hx).1
  simp at this;omega
 rw [List.getElem?_take_of_lt hj,List.getElem?_drop] at hx
 rw [Nat.add_assoc]
 exact h _ _ hx
theorem Em {t:TypeId} {l:List AV} {d:Nat} {v:AV} (hp:gL P t l d=some v) {cs:List Value} (hr:ax g tk w l cs) {c o:Nat} (ha:At g w c o cs):∃ cs',ax g tk w (bx v) cs'∧At g w c (o+d) cs':=by
 unfold gL at hp
 simp only [Option.ite_none_right_eq_some] at hp
 obtain ⟨hu,hp⟩:=hp
 by_cases hag:b7 P t=true
 ·simp only [hag,if_true,B',H'] at hp
  obtain ⟨m,hm,l',hl',rfl⟩:=hp
  obtain ⟨h1,h2⟩:=hr.sub _ _ _ hl'
  exact ⟨_,h2,ha.sub d m⟩
 ·have ha':b7 P t=false:=by simpa using hag
  simp only [ha',Bool.false_eq_true,if_false] at hp
  obtain ⟨x,h1,h2⟩:=hr.cell _ _ hp
  have hc:=pD hr hp
  refine ⟨[x],by rw [nj hc];exact .one hc h2 .nil,fun j y hy=>?_⟩
  cases j with
  | zero=>simp at hy;subst hy;exact ha d _ h1
  | succ j=>simp at hy
theorem Ar {s:TypeId} {f d:Nat} {t:TypeId} (ho:qG P s f=some (d,t)):∃ fs fl,P.underlying s=some (.struct fs)∧fs[f]?=some fl∧fl.offset=d∧fl.type=t∧∃ m,bN P t=some m∧m≠0:=by
 unfold qG at ho
 split at ho
 ·rename_i fs hu
  simp only [B',Option.ite_none_left_eq_some,A',Prod.mk.injEq] at ho
  obtain ⟨fl,hf,hz,rfl,rfl⟩:=ho
  refine ⟨fs,fl,hu,hf,rfl,rfl,?_⟩
  cases hs:bN P fl.type with
  | none=>rw [hs] at hz;simp at hz
  | some m=>rw [hs] at hz;exact ⟨m,rfl,by simpa using hz⟩
 ·cases ho
theorem Mb {s:TypeId} {f d:Nat} {t:TypeId} {l:List AV} {v:AV} {x:Value} (ho:qG P s f=some (d,t)) (hp:gL P t l d=some v) (hx:aP g tk w (.agg l) x):∃ y,(Instr.field s x f).run P w=.ok y w∧aP g tk w v y:=by
 obtain ⟨fs,fl,hu,hf,rfl,rfl,_⟩:=Ar ho
 obtain ⟨cs,rfl,hr⟩:=hx.e7
 obtain ⟨y,h1,h2⟩:=wL hp hr
 refine ⟨y,?_,h2⟩
 unfold Instr.field
 rw [Sem.run_bind,run_underlying s _ hu,Result.andThen_ok]
 simp only [hf,asAgg]
 rw [Sem.run_bind]
 exact h1
theorem qW {s:TypeId} {f d:Nat} {t:TypeId} (ho:qG P s f=some (d,t)) (c o:Nat):(Instr.fieldAt s (.pointer (some ⟨c,o,none⟩)) f).run P w=.ok (.pointer (some ⟨c,o+d,none⟩)) w:=by
 obtain ⟨fs,fl,hu,hf,rfl,rfl,m,hm,hm0⟩:=Ar ho
 unfold Instr.fieldAt
 rw [Sem.run_bind,run_underlying s _ hu,Result.andThen_ok]
 simp only [hf,Instr.sureAddr]
 simp only [Sem.run_bind,pure,Sem.run,Result.andThen_ok,fieldPlace,run_sizeOf _ _ hm,hm0,if_false,eV]
theorem zI {s:TypeId} {f d:Nat} {t:TypeId} {b o:Nat} {x:Value} (ho:qG P s f=some (d,t)) (hx:aP g tk w (.ptr b o) x):∃ y,(Instr.fieldAt s x f).run P w=.ok y w∧aP g tk w (.ptr b (o+d)) y:=by
 cases hx with
 | ptr hb=>exact ⟨_,qW ho _ _,.ptr hb⟩
theorem yf {s:TypeId} {f d:Nat} {t:TypeId} {a v:AV} {x:Value} (ho:qG P s f=some (d,t)) (hp:gL P t (bx a) d=some v) (hx:aP g tk w (.ptrf a) x):∃ y,(Instr.fieldAt s x f).run P w=.ok y w∧aP g tk w (.ptrf v) y:=by
 cases hx with
 | ptrf hr ha =>
  obtain ⟨cs',h1,h2⟩:=Em hp hr ha
  exact ⟨_,qW ho _ _,.ptrf h1 h2⟩
theorem eE {ix:AV} {b:Value} {c:Bool} {i:Int} (hi:idxOf ix=some (c,i)) (hx:aP g tk w ix b):∃ k,b=.int k i:=by
 cases ix<;>simp [idxOf] at hi<;>cases hx
 all_goals (obtain ⟨_,rfl⟩:=hi;exact ⟨_,rfl⟩)
theorem lB {α:Type} {i:Int} {f:Nat→Tr α} {v:α}:∀ {n j:Nat},(jw i f n j).get=some v→∃ j',j≤j'∧j'<j+n∧i=(j':Int)∧(f j').get=some v
 | 0,j,h=>by simp [jw] at h
 | n+1,j,h=>by
  simp only [jw,fc] at h
  by_cases hi:i=(j:Int)
  ·simp only [hi,beq_self_eq_true,cond_true] at h
   exact ⟨j,Nat.le_refl _,by omega,hi,h⟩
  ·simp only [show (i==(j:Int))=false by simpa using hi,cond_false] at h
   obtain ⟨j',h1,h2,h3,h4⟩:=lB h
   exact ⟨j',by omega,by omega,h3,h4⟩
theorem si (m:Nat) (i:Nat):scale m (i:Int)=((i * m:Nat):Int):=by
 unfold scale
 split
 ·rename_i h;subst h;simp
 ·simp
theorem od {i n m:Nat} (h:i<n):i * m+m≤n * m:=by
 rw [← Nat.succ_mul];exact Nat.mul_le_mul_right m h
theorem fw {t e:TypeId} {n m:Nat} (hu:P.underlying t=some (.array n e)) (hs:bN P e=some m) (k:IntKind) (i:Nat) (hi:i<n) (c o:Nat) :
  (Instr.indexAt t (.pointer (some ⟨c,o,none⟩)) (.int k (i:Int))).run P w=.ok (.pointer (some ⟨c,o+i * m,none⟩)) w:=by
 unfold Instr.indexAt
 simp only [asIntOf,Sem.run_bind,pure,Sem.run,Result.andThen_ok,run_underlying t _ hu,Instr.sureAddr]
 rw [if_pos (by omega)]
 simp only [Sem.run_bind,run_sizeOf e m hs,Result.andThen_ok,Int.toNat_natCast,eV,Sem.run]
theorem we {t e:TypeId} {n m:Nat} (hu:P.underlying t=some (.array n e)) (hs:bN P e=some m) {x v:AV} {i:Nat} (hi:i<n) (h:ic P n e m x i=some v) {a:Value} (hx:aP g tk w x a) (k:IntKind) :
  ∃ y,(Instr.indexAt t a (.int k (i:Int))).run P w=.ok y w∧aP g tk w v y:=by
 have hroom:i * m+m≤n * m:=od hi
 unfold ic at h
 split at h
 ·obtain rfl:=Option.some.inj h
  cases hx with
  | ptr hb=>exact ⟨_,fw hu hs k i hi _ _,.ptr hb⟩
 ·simp only [Option.ite_none_right_eq_some,A'] at h
  obtain ⟨rfl,rfl⟩:=h
  cases hx with
  | ptri hb h0 h1 h2 =>
   subst h2
   rw [si]
   exact ⟨_,fw hu hs k i hi _ _,.ptri hb (by omega) (by omega) (by omega)⟩
 ·obtain ⟨u,hu',rfl⟩:=H'.1 h
  cases hx with
  | ptrf hr ha =>
   obtain ⟨cs',h1,h2⟩:=Em hu' hr ha
   exact ⟨_,fw hu hs k i hi _ _,.ptrf h1 h2⟩
 ·cases h
theorem Aw {t e:TypeId} {n:Nat} (hu:P.underlying t=some (.array n e)) {x ix v:AV} (h:(sX P n e x ix).get=some v) {a b:Value} (hx:aP g tk w x a) (hi:aP g tk w ix b) :
  ∃ y,(Instr.indexAt t a b).run P w=.ok y w∧aP g tk w v y:=by
 unfold sX at h
 split at h
 ·rename_i m i hs hix
  obtain ⟨k,rfl⟩:=eE hix hi
  split at h
  ·rename_i hb
   obtain ⟨j,rfl⟩:∃ j:Nat,i=(j:Int):=⟨i.toNat,by omega⟩
   simp only [bF,Int.toNat_natCast] at h
   exact we hu hs (by omega) h hx k
  ·simp at h
 ·rename_i m i hs hix
  obtain ⟨k,rfl⟩:=eE hix hi
  simp only [get_guard,E',decide_eq_true_eq] at h
  obtain ⟨hb,h⟩:=h
  obtain ⟨j,rfl⟩:∃ j:Nat,i=(j:Int):=⟨i.toNat,by omega⟩
  have hj:j<n:=by omega
  have hroom:j * m+m≤n * m:=od hj
  have pick:∀ x,aP g tk w x a→(jw (j:Int) (fun j=>Tr.opt (ic P n e m x j)) n 0).get=some v→∃ y,(Instr.indexAt t a (.int k (j:Int))).run P w=.ok y w∧aP g tk w v y:=by
   intro x hx hp
   obtain ⟨j',_,_,hjj,hp⟩:=lB hp
   obtain rfl:j=j':=by omega
   simp only [bF] at hp
   exact we hu hs hj hp hx k
  split at h
  ·split at h
   ·simp only [au,A'] at h
    subst h
    cases hx with
    | ptr hb' =>
     rw [si]
     exact ⟨_,fw hu hs k j hj _ _,.ptri hb' (by omega) (by omega) (by omega)⟩
   ·exact pick _ hx h
  ·split at h
   ·rename_i hm
    subst hm
    simp only [au,A'] at h
    subst h
    cases hx with
    | ptri hb' h0 h1 h2 =>
     subst h2
     rw [si]
     exact ⟨_,fw hu hs k j hj _ _,.ptri hb' (by omega) (by omega) (by omega)⟩
   ·simp at h
  ·split at h
   ·rename_i k' n' l hag hun hsg
    split at h
    ·rename_i hm
     obtain ⟨rfl,rfl⟩:=hm
     simp only [au,A',Int.toNat_natCast] at h
     subst h
     cases hx with
     | ptrf hr ha =>
      rw [hsg] at hr
      obtain ⟨hl,r,rfl,hr'⟩:=hr.cE
      refine ⟨_,fw hu hs k j hj _ _,.ptrf (.one rfl (.int _ _) .nil) (fun q y hy=>?_)⟩
      cases q with
      | zero =>
       simp at hy
       subst hy
       have:=ha (j * 1) (.int k' (l.getD j 0)) (by
        rw [List.getElem?_append_left (by simp;omega),List.getElem?_map,Nat.mul_one,getD_getElem? l j (by omega)];rfl)
       simpa using this
      | succ q=>simp at hy
    ·simp at h
   ·exact pick _ hx h
  ·simp at h
 ·simp at h
theorem eS (e:ET) (x:e.T):storable (enc e x)=true∧cM (bx (enc e x))=lr e:=by
 cases e<;>exact ⟨rfl,rfl⟩
theorem rT (e:ET):0<lr e:=by cases e<;>simp [lr]
theorem bp.length {l:List AV} {cs:List Value} (h:bp g tk w l cs) {m:Nat} (hm:∀ a∈l,cM (bx a)=m):cs.length=l.length * m:=by
 induction l generalizing cs with
 | nil=>cases h;simp
 | cons a l ih =>
  cases h with
  | cons hs hx h hr =>
   subst hx
   rw [List.length_append,h.length,hm a (by simp),ih hr (fun b hb=>hm b (by simp [hb])),List.length_cons,Nat.succ_mul,Nat.add_comm]
theorem bp.get {l:List AV} {cs:List Value} (h:bp g tk w l cs) {m:Nat} (hm:∀ a∈l,cM (bx a)=m) {i:Nat} {a:AV} (ha:l[i]?=some a):ax g tk w (bx a) ((cs.drop (i * m)).take m)∧storable a=true∧i * m+m≤cs.length:=by
 induction l generalizing cs i with
 | nil=>simp at ha
 | cons b l ih =>
  cases h with
  | cons hs hx h hr =>
   subst hx
   have hb:=hm b (by simp)
   cases i with
   | zero =>
    simp at ha
    subst ha
    have hl:=h.length
    rw [hb] at hl
    refine ⟨?_,hs,by simp;omega⟩
    rw [Nat.zero_mul,List.drop_zero,List.take_append_of_le_length (by omega),List.take_of_length_le (by omega)]
    exact h
   | succ i =>
    simp at ha
    obtain ⟨h1,h2,h3⟩:=ih hr (fun c hc=>hm c (by simp [hc])) ha
    have hl:=h.length
    rw [hb] at hl
    refine ⟨?_,h2,by rw [List.length_append,Nat.succ_mul];omega⟩
    rw [Nat.succ_mul,Nat.add_comm (i * m),← hl,← List.drop_drop,List.drop_append_of_le_length (Nat.le_refl _),List.drop_of_length_le (Nat.le_refl _),List.nil_append]
    rw [hl]
    exact h1
theorem jh {t e:TypeId} {m:Nat} (hu:P.underlying t=some (.slice e)) (hs:bN P e=some m) (k:IntKind) (i:Nat) (len cap c o:Nat) (hi:i<len) :
  (Instr.indexAt t (.slice (some ⟨c,o,none⟩) len cap) (.int k (i:Int))).run P w=.ok (.pointer (some ⟨c,o+i * m,none⟩)) w:=by
 unfold Instr.indexAt
 simp only [asIntOf,Sem.run_bind,pure,Sem.run,Result.andThen_ok,run_underlying t _ hu]
 rw [if_pos (by omega)]
 simp only [Sem.run_bind,run_sizeOf e m hs,Result.andThen_ok,Int.toNat_natCast,eV,Sem.run]
theorem xW {l:List AV} {cs:List Value} (h:bp g tk w l cs) {m:Nat} (hm:∀ a∈l,cM (bx a)=m) (hm0:0<m) {p:Prop} {ad:Option Addr} (ha:jU g w p ad cs) {i:Nat} {a:AV} (hi:l[i]?=some a) :
  ∃ c o,ad=some ⟨c,o,none⟩∧∃ cs',ax g tk w (bx a) cs'∧At g w c (o+i * m) cs':=by
 obtain ⟨h1,_,h3⟩:=h.get hm hi
 rcases ha with rfl | ⟨c,o,rfl,hat,_⟩
 ·simp at h3;omega
 ·exact ⟨c,o,rfl,_,h1,hat.sub _ _⟩
theorem yZ {t:TypeId} {x ix v:AV} (h:(B6 P t x ix).get=some v) {a b:Value} (hx:aP g tk w x a) (hi:aP g tk w ix b) :
  ∃ y,(Instr.indexAt t a b).run P w=.ok y w∧aP g tk w v y:=by
 unfold B6 at h
 split at h
 ·rename_i n e hu
  exact Aw hu h hx hi
 ·rename_i t' e l tok hu
  split at h
  ·rename_i c i hix
   obtain ⟨k,rfl⟩:=eE hix hi
   split at h
   ·rename_i hs
    simp only [get_guard,au,A',E',decide_eq_true_eq] at h
    obtain ⟨hb,rfl⟩:=h
    obtain ⟨j,rfl⟩:∃ j:Nat,i=(j:Int):=⟨i.toNat,by omega⟩
    cases hx with
    | list hn hr ha ht hc =>
     subst hn
     have hj:j<l.length:=by omega
     obtain ⟨c',o,rfl,cs',h1,h2⟩:=xW hr (m:=lr e) (fun q hq=>by obtain ⟨z,_,rfl⟩:=List.mem_map.1 hq;exact (eS e z).2) (rT e) ha (i:=j) (a:=enc e (l.getD j default)) (by
      rw [List.getElem?_map,I' hj];simp [I' hj])
     exact ⟨_,jh hu hs k j _ _ _ _ hj,by simpa using aP.ptrf h1 h2⟩
   ·simp at h
  ·simp at h
 ·rename_i t' fr l hu
  split at h
  ·rename_i m hs
   split at h
   ·rename_i hall
    obtain ⟨hm0,hall⟩:=hall
    simp only [List.all_eq_true,E',beq_iff_eq] at hall
    cases hx with
    | vlist hn hr ha hc =>
    rename_i ad len cap cs
    subst hn
    have get:∀ (j:Nat) (u:AV) (k:IntKind),l[j]?=some u→∃ y,(Instr.indexAt t (.slice ad l.length cap) (.int k (j:Int))).run P w=.ok y w∧aP g tk w (.ptrf u) y:=by
     intro j u k hu'
     have hj:=(C'.1 hu').1
     obtain ⟨c',o,rfl,cs',h1,h2⟩:=xW hr (m:=m) (fun q hq=>by rw [← gF (hall q hq).1];exact (hall q hq).2) hm0 ha hu'
     exact ⟨_,jh hu hs k j _ _ _ _ hj,.ptrf h1 h2⟩
    split at h
    ·rename_i i hix
     obtain ⟨k,rfl⟩:=eE hix hi
     split at h
     ·obtain ⟨j,rfl⟩:∃ j:Nat,i=(j:Int):=⟨i.toNat,by omega⟩
      simp only [bF,Int.toNat_natCast,H'] at h
      obtain ⟨u,hu',rfl⟩:=h
      exact get j u k hu'
     ·simp at h
    ·rename_i i hix
     obtain ⟨k,rfl⟩:=eE hix hi
     simp only [get_guard] at h
     obtain ⟨j,_,_,rfl,h'⟩:=lB h.2
     rw [bF,H'] at h'
     obtain ⟨u,hu',rfl⟩:=h'
     exact get j u k hu'
    ·simp at h
   ·simp at h
  ·simp at h
 ·rename_i t' fr l hu
  split at h
  ·rename_i m hs
   split at h
   ·rename_i hall
    obtain ⟨hm0,hall⟩:=hall
    simp only [List.all_eq_true,E',beq_iff_eq] at hall
    cases hx with
    | vany hn hr ha ht hc =>
    rename_i ad len cap cs
    subst hn
    have get:∀ (j:Nat) (u:AV) (k:IntKind),l[j]?=some u→∃ y,(Instr.indexAt t (.slice ad l.length cap) (.int k (j:Int))).run P w=.ok y w∧aP g tk w (.ptrf u) y:=by
     intro j u k hu'
     have hj:=(C'.1 hu').1
     obtain ⟨c',o,rfl,cs',h1,h2⟩:=xW hr (m:=m) (fun q hq=>by rw [← gF (hall q hq).1];exact (hall q hq).2) hm0 ha hu'
     exact ⟨_,jh hu hs k j _ _ _ _ hj,.ptrf h1 h2⟩
    split at h
    ·rename_i i hix
     obtain ⟨k,rfl⟩:=eE hix hi
     split at h
     ·obtain ⟨j,rfl⟩:∃ j:Nat,i=(j:Int):=⟨i.toNat,by omega⟩
      simp only [bF,Int.toNat_natCast,H'] at h
      obtain ⟨u,hu',rfl⟩:=h
      exact get j u k hu'
     ·simp at h
    ·rename_i i hix
     obtain ⟨k,rfl⟩:=eE hix hi
     simp only [get_guard] at h
     obtain ⟨j,_,_,rfl,h'⟩:=lB h.2
     rw [bF,H'] at h'
     obtain ⟨u,hu',rfl⟩:=h'
     exact get j u k hu'
    ·simp at h
   ·simp at h
  ·simp at h
 ·rename_i e b' o n hu
  split at h
  ·rename_i c i hs hix
   obtain ⟨k,rfl⟩:=eE hix hi
   simp only [get_guard,au,A',E',decide_eq_true_eq] at h
   obtain ⟨hb,rfl⟩:=h
   obtain ⟨j,rfl⟩:∃ j:Nat,i=(j:Int):=⟨i.toNat,by omega⟩
   cases hx with
   | vsl hv=>exact ⟨_,jh hu hs k j _ _ _ _ (by omega),.ptri hv (by omega) (by omega) (by simp)⟩
  ·simp at h
 ·simp at h
theorem JA {t:TypeId} {x ix v:AV} (h:(C4 P t x ix).get=some v) {a b:Value} (hx:aP g tk w x a) (hi:aP g tk w ix b) :
  ∃ y,(Instr.index t a b).run P w=.ok y w∧aP g tk w v y:=by
 have arr:∀ (n e:Nat) (m:Nat) (l:List AV) (j:Nat) (k:IntKind) (cs:Array Value),P.underlying t=some (.array n e)→bN P e=some m→j<n→ax g tk w l cs.toList→gL P e l (j * m)=some v →
   ∃ y,(Instr.index t (.agg cs) (.int k (j:Int))).run P w=.ok y w∧aP g tk w v y:=by
  intro n e m l j k cs hu hs hj hr hp
  obtain ⟨y,h1,h2⟩:=wL hp hr
  refine ⟨y,?_,h2⟩
  unfold Instr.index
  simp only [asIntOf,Sem.run_bind,pure,Sem.run,Result.andThen_ok,run_underlying t _ hu]
  rw [if_pos (by omega)]
  simp only [Sem.run_bind,run_sizeOf e m hs,Result.andThen_ok,Int.toNat_natCast]
  exact h1
 unfold C4 at h
 split at h
 ·rename_i n e l i hu hix
  obtain ⟨k,rfl⟩:=eE hix hi
  obtain ⟨cs,rfl,hr⟩:=hx.e7
  split at h
  ·rename_i m hs
   split at h
   ·rename_i hb
    obtain ⟨j,rfl⟩:∃ j:Nat,i=(j:Int):=⟨i.toNat,by omega⟩
    simp only [bF,Int.toNat_natCast] at h
    exact arr n e m l j k cs hu hs (by omega) hr h
   ·simp at h
  ·simp at h
 ·rename_i n e l i hu hix
  obtain ⟨k,rfl⟩:=eE hix hi
  obtain ⟨cs,rfl,hr⟩:=hx.e7
  split at h
  ·rename_i m hs
   simp only [get_guard,E',decide_eq_true_eq] at h
   obtain ⟨hb,h⟩:=h
   obtain ⟨j,rfl⟩:∃ j:Nat,i=(j:Int):=⟨i.toNat,by omega⟩
   have hj:j<n:=by omega
   split at h
   ·rename_i k' n' xs hag hun
    split at h
    ·rename_i hm
     obtain ⟨rfl,rfl⟩:=hm
     simp only [au,A',Int.toNat_natCast] at h
     subst h
     refine arr n' e 1 _ j k cs hu hs hj hr ?_
     simp only [gL,hun,if_true,hag,Bool.false_eq_true,if_false,fL,qE,ssize,Nat.mul_one,hj,Option.bind_some,cellOf]
    ·simp at h
   ·rename_i k' n' xs hag hun
    split at h
    ·rename_i hm
     subst hm
     simp only [au,A',Int.toNat_natCast] at h
     subst h
     have hroom:j * m+m≤n * m:=od hj
     obtain ⟨hl,r,he,hr'⟩:=hr.cE
     obtain rfl:=hr'.df
     rw [List.append_nil] at he
     obtain ⟨d,hd⟩:=iw hun
     refine ⟨.agg (cs.extract (j * m) (j * m+m)),?_,.agg (.ints (by simp;omega) (cs:=[]) ?_ .nil)⟩
     ·unfold Instr.index
      simp only [asIntOf,Sem.run_bind,pure,Sem.run,Result.andThen_ok,run_underlying t _ hu]
      rw [if_pos (by omega)]
      simp only [Sem.run_bind,run_sizeOf e m hs,Result.andThen_ok,Int.toNat_natCast,part,jL e d hd,hag,if_true]
      rfl
     ·rw [Array.toList_extract,he]
      simp [List.map_take,List.map_drop]
    ·simp at h
   ·obtain ⟨j',_,_,hjj,hp⟩:=lB h
    obtain rfl:j=j':=by omega
    simp only [bF] at hp
    exact arr n e m _ j k cs hu hs hj hr hp
  ·simp at h
 ·rename_i s c i hu hix
  obtain ⟨k,rfl⟩:=eE hix hi
  simp only [get_guard,au,A',E',decide_eq_true_eq] at h
  obtain ⟨hb,rfl⟩:=h
  obtain ⟨j,rfl⟩:∃ j:Nat,i=(j:Int):=⟨i.toNat,by omega⟩
  cases hx with
  | str hs =>
   rename_i bs
   subst hs
   have hj:j<bs.data.toList.length:=by omega
   have hj':j<bs.size:=by rw [Array.length_toList] at hj;exact hj
   refine ⟨.int .u8 ((bs[j]).toNat:Int),?_,?_⟩
   ·unfold Instr.index
    simp only [asIntOf,Sem.run_bind,pure,Sem.run,Result.andThen_ok,run_underlying t _ hu]
    rw [if_pos (by omega)]
    simp only [Int.toNat_natCast]
    rw [getElem?_pos bs j hj']
    rfl
   ·have:((bs.data.toList[(j:Int).toNat]?).getD 0)=bs[j]:=by
     simp only [Int.toNat_natCast,I' hj,Option.getD_some];rfl
    rw [this]
    exact .int _ _
 ·simp at h
end
theorem NS {g g':Gh} {tk tk':List Nat} {w:World} (e:ET) (x:e.T) {cs:List Value} (h:ax g tk w (bx (enc e x)) cs) {w':World}:ax g' tk' w' (bx (enc e x)) cs:=by
 cases e with
 | i k =>
  simp only [enc,bx] at h ⊢
  obtain ⟨c,r,rfl,q,hr⟩:=h.inv_one rfl
  obtain rfl:=hr.df
  cases q
  exact .one rfl (.int _ _) .nil
 | u64 =>
  simp only [enc,bx] at h ⊢
  obtain ⟨c,r,rfl,q,hr⟩:=h.inv_one rfl
  obtain rfl:=hr.df
  cases q
  exact .one rfl (.u64 _) .nil
 | str =>
  simp only [enc,bx] at h ⊢
  obtain ⟨c,r,rfl,q,hr⟩:=h.inv_one rfl
  obtain rfl:=hr.df
  cases q with
  | str hs=>exact .one rfl (.str hs) .nil
 | mv =>
  simp only [enc,Mv.av,bx] at h ⊢
  obtain ⟨x1,r1,rfl,q1,hr⟩:=h.inv_one rfl
  obtain ⟨x2,r2,rfl,q2,hr⟩:=hr.inv_one rfl
  obtain ⟨x3,r3,rfl,q3,hr⟩:=hr.inv_one rfl
  obtain ⟨x4,r4,rfl,q4,hr⟩:=hr.inv_one rfl
  obtain ⟨x5,r5,rfl,q5,hr⟩:=hr.inv_one rfl
  obtain rfl:=hr.df
  cases q1;cases q2;cases q3;cases q4;cases q5
  exact .one rfl (.int _ _) (.one rfl (.int _ _) (.one rfl (.int _ _) (.one rfl (.int _ _) (.one rfl (.bool _) .nil))))
 | pos =>
  simp only [enc,Pos.av,bx] at h ⊢
  obtain ⟨x1,r1,rfl,q1,h1⟩:=h.inv_one rfl
  obtain ⟨l1,s1,rfl,h2⟩:=h1.cE
  obtain ⟨x2,r2,rfl,q2,h3⟩:=h2.inv_one rfl
  obtain ⟨l2,s2,rfl,h4⟩:=h3.cE
  obtain ⟨x3,r3,rfl,q3,h5⟩:=h4.inv_one rfl
  obtain ⟨l3,s3,rfl,h6⟩:=h5.cE
  obtain ⟨x4,r4,rfl,q4,h7⟩:=h6.inv_one rfl
  obtain ⟨l4,s4,rfl,h8⟩:=h7.cE
  obtain ⟨x5,r5,rfl,q5,h9⟩:=h8.inv_one rfl
  obtain ⟨x6,r6,rfl,q6,h10⟩:=h9.inv_one rfl
  obtain rfl:=h10.df
  cases q1;cases q2;cases q3;cases q4;cases q5;cases q6
  exact .one rfl (.int _ _) (.ints l1 rfl (.one rfl (.u64 _) (.ints l2 rfl (.one rfl (.int _ _) (.ints l3 rfl (.one rfl (.int _ _) (.ints l4 rfl (.one rfl (.int _ _) (.one rfl (.int _ _) .nil)))))))))
theorem bp.Uw {g g':Gh} {tk tk':List Nat} {w:World} {e:ET} {l:List e.T} {cs:List Value} (h:bp g tk w (l.map (enc e)) cs) {w':World}:bp g' tk' w' (l.map (enc e)) cs:=by
 induction l generalizing cs with
 | nil=>cases h;exact .nil
 | cons x l ih =>
  cases h with
  | cons hs hx h1 h2=>exact .cons hs hx (NS e x h1) (ih h2)
noncomputable section
variable {P:Program} {g:Gh} {h:Hp} {tk:List Nat} {w:World}
theorem bp.append {l m:List AV} {vs us:List Value} (h:bp g tk w l vs) (k:bp g tk w m us):bp g tk w (l++m) (vs++us):=by
 induction l generalizing vs with
 | nil=>cases h;exact k
 | cons b l ih=>cases h with | cons hs hx h hr=>subst hx;exact .cons hs (List.append_assoc _ _ _) h (ih hr)
theorem fG {a:AV} {c:Value} {n:Int} {k:IntKind} (hk:kindOk k a=true) (ha:pw a=some n) (hr:aP g tk w a c):c=.int k n:=by
 cases a<;>simp [pw] at ha<;>simp [kindOk] at hk<;>cases hr<;>simp_all
theorem rS {a:AV} {c:Value} {b:Bool} (ha:yE a=some b) (hr:aP g tk w a c):c=.bool b:=by
 cases a<;>simp [yE] at ha<;>cases hr<;>simp_all
theorem bm {a:AV} {n:Int} (ha:pw a=some n):aD a=true:=by cases a<;>simp [pw] at ha<;>rfl
theorem eQ {a:AV} {n:Bool} (ha:yE a=some n):aD a=true:=by cases a<;>simp [yE] at ha<;>rfl
theorem uk {v:AV} {m:Mv} (h:FQ v=some m) {cs:List Value} (hr:ax g tk w (bx v) cs):ax g tk w (bx (Mv.av m)) cs∧storable v=true:=by
 unfold FQ at h
 split at h
 ·rename_i a b c d e
  simp only [Option.ite_none_right_eq_some,E',B',H'] at h
  obtain ⟨⟨⟨⟨k1,k2⟩,k3⟩,k4⟩,a',ha,b',hb,c',hc,d',hd,e',he,rfl⟩:=h
  obtain ⟨x1,r1,rfl,q1,hr⟩:=hr.inv_one (bm ha)
  obtain ⟨x2,r2,rfl,q2,hr⟩:=hr.inv_one (bm hb)
  obtain ⟨x3,r3,rfl,q3,hr⟩:=hr.inv_one (bm hc)
  obtain ⟨x4,r4,rfl,q4,hr⟩:=hr.inv_one (bm hd)
  obtain ⟨x5,r5,rfl,q5,hr⟩:=hr.inv_one (eQ he)
  obtain rfl:=hr.df
  obtain rfl:=fG k1 ha q1
  obtain rfl:=fG k2 hb q2
  obtain rfl:=fG k3 hc q3
  obtain rfl:=fG k4 hd q4
  obtain rfl:=rS he q5
  exact ⟨.one rfl (.int _ _) (.one rfl (.int _ _) (.one rfl (.int _ _) (.one rfl (.int _ _) (.one rfl (.bool _) .nil)))),rfl⟩
 ·cases h
theorem ax.swap {s s':AV} {l l':List AV} {cs:List Value} (hs:aD s=true) (hs':aD s'=true) (h1:∀ c,aP g tk w s c→aP g tk w s' c) (h2:∀ r,ax g tk w l r→ax g tk w l' r) (h:ax g tk w (s::l) cs):ax g tk w (s'::l') cs:=by
 obtain ⟨c,r,rfl,q,hr⟩:=h.inv_one hs
 exact .one hs' (h1 c q) (h2 r hr)
theorem ax.keep {k:IntKind} {n:Nat} {xs:List Int} {l l':List AV} {cs:List Value} (h2:∀ r,ax g tk w l r→ax g tk w l' r) (h:ax g tk w (.ints k n xs::l) cs):ax g tk w (.ints k n xs::l') cs:=by
 obtain ⟨hl,r,rfl,hr⟩:=h.cE
 exact .ints hl rfl (h2 r hr)
theorem pM {v:AV} {m:Pos} (h:toPos v=some m) {cs:List Value} (hr:ax g tk w (bx v) cs):ax g tk w (bx (Pos.av m)) cs∧storable v=true:=by
 unfold toPos at h
 split at h
 ·rename_i v bd pr pk tn rk ps ck hf fl
  simp only [Option.ite_none_right_eq_some,E',B',H'] at h
  obtain ⟨⟨⟨⟨⟨k1,k2⟩,k3⟩,k4⟩,k5⟩,v',hv,tn',htn,ps',hps,hf',hhf,fl',hfl,rfl⟩:=h
  refine ⟨?_,rfl⟩
  have i:=fun (a:AV) (n:Int) (k:IntKind) (hk:kindOk k a=true) (ha:pw a=some n) (c:Value) (hc:aP g tk w a c)=>(fG hk ha hc) ▸ (aP.int (g:=g) (tk:=tk) (w:=w) k n)
  revert hr
  exact ax.swap (bm hv) rfl (i _ _ _ k1 hv) fun _=>ax.keep fun _=>ax.swap rfl rfl (fun _ h=>h) fun _=>ax.keep fun _=>ax.swap (bm htn) rfl (i _ _ _ k2 htn) fun _=>ax.keep fun _ =>
   ax.swap (bm hps) rfl (i _ _ _ k3 hps) fun _=>ax.keep fun _=>ax.swap (bm hhf) rfl (i _ _ _ k4 hhf) fun _=>ax.swap (bm hfl) rfl (i _ _ _ k5 hfl) fun _ h=>h
 ·cases h
theorem O8 {e:ET} {v:AV} {x:e.T} (h:dec e v=some x) {cs:List Value} (hr:ax g tk w (bx v) cs):ax g tk w (bx (enc e x)) cs∧storable v=true:=by
 cases e with
 | i k =>
  simp only [dec,Option.ite_none_right_eq_some] at h
  obtain ⟨hk,hx⟩:=h
  have hc:=bm hx
  rw [nj hc] at hr
  obtain ⟨c,r,rfl,q,hr'⟩:=hr.inv_one hc
  obtain rfl:=hr'.df
  obtain rfl:=fG hk hx q
  exact ⟨.one rfl (.int _ _) .nil,by cases v<;>simp [pw] at hx<;>rfl⟩
 | u64 =>
  simp only [dec] at h
  cases v<;>simp [Y4] at h
  subst h
  exact ⟨hr,rfl⟩
 | str =>
  simp only [dec] at h
  cases v<;>simp [toS] at h
  subst h
  exact ⟨hr,rfl⟩
 | mv=>exact uk h hr
 | pos=>exact pM h hr
theorem kI {e:ET} {l:List AV} {xs:List e.T} (h:kH e l=some xs) {cs:List Value} (hr:bp g tk w l cs):bp g tk w (xs.map (enc e)) cs:=by
 induction l generalizing xs cs with
 | nil=>simp [kH] at h;subst h;exact hr
 | cons v l ih =>
  simp only [kH,B',H'] at h
  obtain ⟨x,hx,ys,hys,rfl⟩:=h
  cases hr with
  | cons hs he h1 h2=>exact .cons (eS e x).1 he (O8 hx h1).1 (ih hys h2)
theorem kq {e:ET} {l:List AV} {xs:List e.T} (h:kH e l=some xs):xs.length=l.length:=by
 induction l generalizing xs with
 | nil=>simp [kH] at h;subst h;rfl
 | cons v l ih =>
  simp only [kH,B',H'] at h
  obtain ⟨x,hx,ys,hys,rfl⟩:=h
  simp [ih hys]
theorem wm {e:ET} {x:AV} {xs:List e.T} (h:e8 e x=some xs) {v:Value} (hr:aP g tk w x v):∃ a c cs,v=.slice a xs.length c∧bp g tk w (xs.map (enc e)) cs∧jU g w False a cs:=by
 unfold e8 at h
 split at h
 ·rename_i e' l t
  split at h
  ·rename_i he
   subst he
   simp only [A'] at h
   subst h
   cases hr with
   | list hn h1 h2 h3 h4 =>
    subst hn
    exact ⟨_,_,_,rfl,h1,h2.imp id fun ⟨c,o,e1,e2,_⟩=>⟨c,o,e1,e2,fun f=>f.elim⟩⟩
  ·cases h
 ·rename_i fr l
  cases hr with
  | vlist hn h1 h2 h4 =>
   subst hn
   exact ⟨_,_,_,by rw [kq h],kI h h1,h2.imp id fun ⟨c,o,e1,e2,_⟩=>⟨c,o,e1,e2,fun f=>f.elim⟩⟩
 ·simp only [A'] at h
  subst h
  cases hr
  exact ⟨_,_,[],rfl,.nil,.inl rfl⟩
 ·cases h
theorem Ax:∀ (l:List Int) {cs:List Value},bp g tk w (l.map (enc (.i .u8))) cs→cs=l.map (Value.int .u8)
 | [],_,h=>by cases h;rfl
 | n::l,_,h=>by
  cases h with
  | cons hs hx hc hr =>
   subst hx
   rw [Ax l hr]
   change ax g tk w [.int .u8 n] _ at hc
   obtain ⟨x,r,rfl,q,hn⟩:=hc.inv_one rfl
   obtain rfl:=hn.df
   cases q
   rfl
theorem Ag:∀ (l:List Int) (s:ByteArray),(l.foldl (fun r n=>r.push (UInt8.ofNat n.toNat)) s).data.toList=s.data.toList++l.map fun (n:Int)=>UInt8.ofNat n.toNat
 | [],s=>by simp
 | n::l,s=>by
  rw [List.foldl_cons,Ag l]
  simp [ByteArray.push]
theorem vo {s d:TypeId} (h:oX P s d=true):∃ e,P.underlying s=some (.slice e)∧P.underlying e=some (.int .u8)∧P.underlying d=some .string:=by
 unfold oX at h
 split at h
 ·split at h
  ·exact ⟨_,by assumption,by assumption,by assumption⟩
  ·cases h
 ·cases h
theorem Pv {s d:TypeId} {x v:AV} {a:Value} (h:(conv P s d x).get=some v) (hx:aP g tk w x a):∃ v',(convert s d a).run P w=.ok v' w∧aP g tk w v v':=by
 unfold conv at h
 cases hb:oX P s d with
 | false=>rw [hb] at h;exact Mt h hx
 | true =>
  rw [hb] at h
  simp only at h
  split at h
  ·rename_i l hl
   simp only [au,A'] at h
   subst h
   obtain ⟨ad,c,cs,rfl,hr,hs⟩:=wm hl hx
   obtain rfl:=Ax l hr
   obtain ⟨e,hse,hee,hde⟩:=vo hb
   rw [run_convert_bytes_string w s d e ad l.length c hse hee hde]
   cases ad with
   | none =>
    have h0:l=[]:=by
     rcases hs with h0 | ⟨_,_,e1,_⟩
     ·simpa using h0
     ·cases e1
    subst h0
    exact ⟨.string .empty,by simp [Conv.bytesToString,Sem.run_pure],.str rfl⟩
   | some ad =>
    have hld:(loadCells ad l.length).run P w=.ok (l.map (Value.int .u8)).toArray w:=by
     rcases hs with h0 | ⟨c',o,e1,hat,_⟩
     ·have h0:l=[]:=by simpa using h0
      subst h0
      rfl
     ·cases e1
      have:=run_loadCells_list (P:=P) w ⟨c',o,none⟩ (l.map (Value.int .u8)) (fun j v hj=>by
       have hp:(⟨c',o,none⟩:Addr).add j=⟨c',o+j,none⟩:=by unfold Addr.add;split<;>simp_all
       rw [hp]
       exact (hat j v hj).1)
      simpa using this
    exact ⟨_,run_bytesToString w ad _ _ l hld,.str (by rw [Ag];simp [ub])⟩
  ·simp at h
theorem xj {e:ET} (xs:List e.T) {cs:List Value} (hr:bp g tk w (xs.map (enc e)) cs):∀ v∈cs,(∀ x,v≠.agg x)∧(∀ x,v≠.tuple x):=by
 induction xs generalizing cs with
 | nil=>cases hr;simp
 | cons x xs ih =>
  cases hr with
  | cons hs hx h1 h2 =>
   subst hx
   intro v hv
   rcases List.mem_append.1 hv with hv | hv
   ·exact kS h1 v hv
   ·exact ih h2 v hv
theorem jv {vs us:List Value} {o j:Nat} (hj:j<o) (ho:o≤vs.length):(bA vs o us)[j]?=vs[j]? := by
 rw [bA,List.append_assoc,List.getElem?_append_left (by simp;omega),List.getElem?_take_of_lt hj]
theorem MR.tW (m:MR g h w) {k b cap z n d:Nat} (ho:g.own[k]?=some (some (b,cap,z))) (hn:h.al[k]?=some n) {cells cells':Array Value} {ty:TypeId} (hb:w.heap[b]?=some (.cells cells ty (0,0))) {news:List Value} (hl:news.length=d * CZ z) (hroom:n+d≤cap)
  (hc:cells'.toList=bA cells.toList (n * CZ z) news) :
  MR { g with fz:=fun c o=>g.fz c o∨(c=b∧o<(n+d) * CZ z) } { h with al:=h.al.set k (n+d) } (bk w b (.cells cells' ty)) ∧
   Le g h.al w { g with fz:=fun c o=>g.fz c o∨(c=b∧o<(n+d) * CZ z) } (h.al.set k (n+d)) (bk w b (.cells cells' ty)):=by
 obtain ⟨n',cells0,ty0,h2,h3,hm,h4,h5,h6,h7,h8⟩:=m.tok k b cap z ho
 obtain rfl:n'=n:=Option.some.inj (h2.symm.trans hn)
 have e0:=h5.symm.trans hb
 simp only [A',Obj.cells.injEq] at e0
 obtain ⟨rfl,rfl,_⟩:=e0
 have hk:=(C'.1 hn).1
 have hnz:n' * CZ z+d * CZ z≤cells0.size:=by rw [h6.1,← Nat.add_mul];exact Nat.mul_le_mul_right _ hroom
 have hsz:cells'.size=cap * CZ z:=by
  rw [← Array.length_toList,hc,eh _ _ _ (by simp [hl];omega)];simpa using h6.1
 have hle:Le g h.al w { g with fz:=fun c o=>g.fz c o∨(c=b∧o<(n'+d) * CZ z) } (h.al.set k (n'+d)) (bk w b (.cells cells' ty0)):=by
  refine ⟨rfl,Below.put _ h4,fun _ _ x=>.inl x,fun c o x h1 h2'=>?_,fun _ _ x=>x,fun _ _ x=>x,fun _ x=>x,fun j q x=>?_,fun i c x=>ir (aN (fun e=>h8 (e ▸ List.mem_of_getElem? x)))⟩
  ·by_cases hcb:c=b
   ·subst hcb
    have ho':=h7 o h1
    rw [bu hb] at h2'
    rw [bu (cG hb)]
    have:=jv (vs:=cells0.toList) (us:=news) ho' (by simp;omega)
    rw [← hc] at this
    simpa using this.trans (by simpa using h2')
   ·rw [fm (aN hcb)];exact h2'
  ·by_cases hjk:k=j
   ·subst hjk
    obtain rfl:n'=q:=Option.some.inj (h2.symm.trans x)
    exact ⟨n'+d,by simp [hk],by omega,fun _=>rfl⟩
   ·exact ⟨q,by rw [List.getElem?_set_ne hjk];exact x,Nat.le_refl _,fun _=>rfl⟩
 refine ⟨⟨by rw [dg];exact m.base,fun c o x=>by
   rw [dg]
   rcases x with x | ⟨rfl,_⟩
   ·exact m.fJ c o x
   ·exact aV hb,m.dC,fun i c l h1 h2=>?_,m.vb,by simp [m.eI],fun j h1=>?_,fun j b' cap' z' h1=>?_,m.vg,m.gI,fun l c r h1 h2=>?_,m.vi,fun D hD=>?_,fun p hp=>(m.iN p hp).mono hle⟩,hle⟩
 ·obtain ⟨a,f,o,d',e⟩:=m.var i c l h1 h2
  have hcb:c≠b:=fun e=>h8 (e ▸ List.mem_of_getElem? h1)
  refine ⟨a,fun o x=>?_,o,by rw [aN hcb];exact d',e.mono hle⟩
  rcases x with x | ⟨rfl,_⟩
  ·exact f o x
  ·exact hcb rfl
 ·have hjk:k≠j:=fun e=>by subst e;rw [ho] at h1;cases h1
  obtain ⟨q,hq⟩:=m.jJ j h1
  refine ⟨q,?_⟩
  show (h.al.set k (n'+d))[j]?=_
  rw [List.getElem?_set_ne hjk]
  exact hq
 ·by_cases hjk:k=j
  ·subst hjk
   have:=ho.symm.trans h1
   simp only [A',Prod.mk.injEq] at this
   obtain ⟨rfl,rfl,rfl⟩:=this
   refine ⟨n'+d,cells',ty0,by simp [hk],hroom,hm,h4,cG hb,⟨hsz,h6.2⟩,fun o x=>?_,h8⟩
   rcases x with x | ⟨_,x⟩
   ·have:=h7 o x;rw [Nat.add_mul];omega
   ·exact x
  ·obtain ⟨q,cs,t,a1,a2,a3,a4,a5,a6,a7,a8⟩:=m.tok j b' cap' z' h1
   have hbb:b'≠b:=fun e=>hjk (m.vg k j b cap z cap' z' ho (e ▸ h1))
   refine ⟨q,cs,t,by show (h.al.set k (n'+d))[j]?=_;rw [List.getElem?_set_ne hjk];exact a1,a2,a3,a4,by rw [aN hbb];exact a5,a6,fun o x=>?_,a8⟩
   rcases x with x | ⟨e,_⟩
   ·exact a7 o x
   ·exact absurd e hbb
 ·obtain ⟨a,R,f,d'⟩:=m.loop l c r h1 h2
  exact ⟨a,R,by rw [aN (fun e=>by subst e;rw [hb] at f;cases f)];exact f,d'.mono hle⟩
 ·obtain ⟨a,f⟩:=m.defs D hD
  exact ⟨a,by rw [aN (fun e=>by subst e;rw [hb] at f;cases f)];exact f⟩
theorem MR.qu (m:MR g h w) {k n n' cap z:Nat} (hn:h.al[k]?=some n) (hlt:n<n') (hcap:n'≤cap) (hmax:cap≤maxLen) {cells:Array Value} {ty:TypeId} (hs:CS z cap cells.size ty) (w1:World) (hw:w1=w∨w1=w.drew) :
  MR { g with fz:=fun c o=>g.fz c o∨(c=w.heap.size∧o<n' * CZ z),own:=g.own.set k (some (w.heap.size,cap,z)) } { h with al:=h.al.set k n' } (w1.alloc (.cells cells ty)) ∧
   Le g h.al w { g with fz:=fun c o=>g.fz c o∨(c=w.heap.size∧o<n' * CZ z),own:=g.own.set k (some (w.heap.size,cap,z)) } (h.al.set k n') (w1.alloc (.cells cells ty)):=by
 have hk:=(C'.1 hn).1
 have hk':k<g.own.length:=by rw [m.eI];exact hk
 have hsize:w1.heap.size=w.heap.size:=by rcases hw with rfl | rfl<;>rfl
 have m1:MR g h (w1.alloc (.cells cells ty))∧Le g h.al w g h.al (w1.alloc (.cells cells ty)):=by
  rcases hw with rfl | rfl
  ·exact m.alloc _
  ·obtain ⟨a,b⟩:=m.drew
   obtain ⟨c,d⟩:=a.alloc (.cells cells ty)
   exact ⟨c,b.trans d⟩
 obtain ⟨m1,l1⟩:=m1
 have hnew:(w1.alloc (.cells cells ty)).heap[w.heap.size]?=some (.cells cells ty (0,0)):=by
  rw [← hsize];exact heap_alloc_new w1 _
 have l2:Le g h.al (w1.alloc (.cells cells ty)) { g with fz:=fun c o=>g.fz c o∨(c=w.heap.size∧o<n' * CZ z),own:=g.own.set k (some (w.heap.size,cap,z)) } (h.al.set k n') (w1.alloc (.cells cells ty)):=by
  refine ⟨rfl,Below.refl _ _,fun _ _ x=>.inl x,fun _ _ _ _ x=>x,fun _ _ x=>x,fun _ _ x=>x,fun _ x=>x,fun j q x=>?_,fun _ _ _=>rfl⟩
  by_cases hjk:k=j
  ·subst hjk
   obtain rfl:n=q:=Option.some.inj (hn.symm.trans x)
   exact ⟨n',by simp [hk],by omega,fun e=>by omega⟩
  ·exact ⟨q,by rw [List.getElem?_set_ne hjk];exact x,Nat.le_refl _,fun _=>by simp only;rw [List.getElem?_set_ne hjk]⟩
 have notvar:w.heap.size∉g.vars:=fun hv=>by
  obtain ⟨i,hi⟩:=List.getElem?_of_mem hv
  have hi':=(C'.1 hi).1
  obtain ⟨_,_,_,d,_⟩:=m.var i _ _ hi (I' (by rw [← m.dC];exact hi'))
  exact absurd (aV d) (Nat.lt_irrefl _)
 have notown:∀ (j c z':Nat),g.own[j]?≠some (some (w.heap.size,c,z')):=fun j c z' x=>by
  obtain ⟨_,_,_,_,_,_,_,d,_⟩:=m.tok j _ c z' x
  exact absurd (aV d) (Nat.lt_irrefl _)
 have hle:=l1.trans l2
 refine ⟨⟨m1.base,fun c o x=>?_,m1.dC,fun i c l h1 h2=>?_,m1.vb,by simp [m.eI],fun j h1=>?_,fun j b' cap' z' h1=>?_,fun j j' b c1 z1 c2 z2 h1 h2=>?_,m1.gI,fun l c r h1 h2=>?_,m1.vi,m1.defs,fun p hp=>(m.iN p hp).mono (hle)⟩,hle⟩
 ·rcases x with x | ⟨rfl,_⟩
  ·exact m1.fJ c o x
  ·exact aV hnew
 ·obtain ⟨a,f,o,d',e⟩:=m1.var i c l h1 h2
  refine ⟨a,fun o x=>?_,o,d',e.mono l2⟩
  rcases x with x | ⟨rfl,_⟩
  ·exact f o x
  ·exact notvar (List.mem_of_getElem? h1)
 ·have hjk:k≠j:=fun e=>by subst e;simp [hk'] at h1
  simp only at h1
  rw [List.getElem?_set_ne hjk] at h1
  obtain ⟨q,hq⟩:=m.jJ j h1
  refine ⟨q,?_⟩
  show (h.al.set k n')[j]?=_
  rw [List.getElem?_set_ne hjk]
  exact hq
 ·simp only at h1
  by_cases hjk:k=j
  ·subst hjk
   simp [hk'] at h1
   obtain ⟨rfl,rfl,rfl⟩:=h1
   refine ⟨n',cells,ty,by simp [hk],hcap,hmax,m.base,hnew,hs,fun o x=>?_,notvar⟩
   rcases x with x | ⟨_,x⟩
   ·exact absurd (m.fJ _ _ x) (Nat.lt_irrefl _)
   ·exact x
  ·rw [List.getElem?_set_ne hjk] at h1
   obtain ⟨q,cs,t,a1,a2,a3,a4,a5,a6,a7,a8⟩:=m1.tok j b' cap' z' h1
   refine ⟨q,cs,t,by show (h.al.set k n')[j]?=_;rw [List.getElem?_set_ne hjk];exact a1,a2,a3,a4,a5,a6,fun o x=>?_,a8⟩
   rcases x with x | ⟨e,_⟩
   ·exact a7 o x
   ·exact absurd (e ▸ h1) (notown j cap' z')
 ·simp only at h1 h2
  by_cases hjk:k=j<;>by_cases hjk':k=j'
  ·omega
  ·subst hjk
   rw [List.getElem?_set_ne hjk'] at h2
   simp [hk'] at h1
   obtain ⟨rfl,_⟩:=h1
   exact absurd h2 (notown j' c2 z2)
  ·subst hjk'
   rw [List.getElem?_set_ne hjk] at h1
   simp [hk'] at h2
   obtain ⟨rfl,_⟩:=h2
   exact absurd h1 (notown j c1 z1)
  ·rw [List.getElem?_set_ne hjk] at h1
   rw [List.getElem?_set_ne hjk'] at h2
   exact m.vg j j' b c1 z1 c2 z2 h1 h2
 ·obtain ⟨a,R,f,d'⟩:=m1.loop l c r h1 h2
  exact ⟨a,R,f,d'.mono l2⟩
end
noncomputable section
variable {P:Program} {g:Gh} {h:Hp} {tk:List Nat} {w:World}
theorem iU (e:ET):CZ (Ng e)=lr e:=by
 cases e with
 | i k=>cases k<;>rfl
 | _=>rfl
theorem zg {e:ET} (h:Ng e=0):e=.i .u8:=by
 cases e with
 | i k=>cases k<;>first | rfl | cases h
 | _=>cases h
structure Re (P:Program) (t:TypeId) (e:ET) (el:TypeId) (i:TypeInfo) (z:Value):Prop where
 Lm:P.underlying t=some (.slice el)
 info:P.info? el=some i
 size:i.size=lr e
 bytes:i.bytes≤131072
 adp:0<i.bytes
 zero:i.zero=some z
 DN:z.cells.size=lr e
 byte:e=.i .u8→el=t8
theorem lT {t:TypeId} {e:ET} (h:cQ P t=some e):∃ el i z,Re P t e el i z:=by
 unfold cQ at h
 split at h
 ·rename_i el hu
  split at h
  ·rename_i e' zs i h1 h2 h3
   simp only [Option.ite_none_right_eq_some,A'] at h
   obtain ⟨⟨hz,hs,hb,hb0,h8⟩,rfl⟩:=h
   obtain ⟨i',z,hi',hzz,hr⟩:=mD (g:=⟨0,fun _ _=>False,[],[],[],[]⟩) (tk:=[]) (w:=default) h2
   obtain rfl:i'=i:=Option.some.inj (hi'.symm.trans h3)
   exact ⟨el,i',z,hu,h3,hs,hb,hb0,hzz,by have:=hr.length;rw [hz] at this;simpa using this,h8⟩
  ·cases h
 ·cases h
theorem rm {t ty:TypeId} {e:ET} {el:TypeId} {i:TypeInfo} {z:Value} (H:Re P t e el i z) (a a':Option Addr) (n cap c:Nat) (hc:n≤cap) :
  (Builtin.append_ #[t,t] ty #[.slice a n cap,.slice a' 0 c]).run P w=.ok (.slice a n cap) w:=by
 have hf:∀ s w,(Builtin.firstCells s 0 (.slice a' 0 c)).run P w=.ok #[] w:=by
  intro s w
  cases a' with
  | none=>rfl
  | some b=>simp [Builtin.firstCells,loadCells,loadCellsFrom,pure,Sem.run]
 cases a with
 | none=>simp [Builtin.append_,Go.run_underlying H.Lm,Go.sizeOf,typeInfo,H.info,Builtin.lenOf,hc,hf]
 | some b=>simp [Builtin.append_,Go.run_underlying H.Lm,Go.sizeOf,typeInfo,H.info,Builtin.lenOf,hc,hf,storeCells]
theorem vc {t ty:TypeId} {e:ET} {el:TypeId} {i:TypeInfo} {z:Value} (H:Re P t e el i z) (b n cap:Nat) {cells:Array Value} {bt:TypeId} (hb:w.heap[b]?=some (.cells cells bt (0,0)))
  (a:Addr) (m c:Nat) (news:List Value) (hl:news.length=m * lr e) (hnews:∀ j u,news[j]?=some u→w.cell? (a.add j)=some u) (h1:∀ v∈news,(∀ x,v≠.agg x)∧(∀ x,v≠.tuple x)) (hroom:n+m≤cap) (hfit:n * lr e+news.length≤cells.size) :
  ∃ cells',cells'.toList=bA cells.toList (n * lr e) news∧(Builtin.append_ #[t,t] ty #[.slice (some ⟨b,0,none⟩) n cap,.slice (some a) m c]).run P w=.ok (.slice (some ⟨b,0,none⟩) (n+m) cap) (bk w b (.cells cells' bt)):=by
 obtain ⟨cells',e1,e2⟩:=eG (P:=P) bt b news w cells (n * lr e) 0 h1 hb (by simpa using hfit)
 refine ⟨cells',by simpa using e1,?_⟩
 have hf:=run_firstCells_some (P:=P) w (lr e) m a m c news hl hnews
 simp [Builtin.append_,Go.run_underlying H.Lm,Go.sizeOf,typeInfo,H.info,H.size,Builtin.lenOf,hroom,hf,eV,e2]
theorem At.news {c o:Nat} {cs:List Value} (h:At g w c o cs):∀ j u,cs[j]?=some u→w.cell? ((⟨c,o,none⟩:Addr).add j)=some u:=fun j u hj=>by
 rw [eV];exact (h j u hj).1
theorem tg {n:Nat} (h:n≤wU):n≤1073741824:=h
structure App (P:Program) (w:World) (t t2 ty:TypeId) (e:ET) (el:TypeId) (i:TypeInfo) (z:Value) (n:Nat) (news:List Value) (vx:Value):Prop where
 zero:n=0→∀ (a:Option Addr) (m cap:Nat),m≤cap→(Builtin.append_ #[t,t2] ty #[.slice a m cap,vx]).run P w=.ok (.slice a m cap) w
 nil:0<n→(n:Int)≤9223372036854775807→n * i.bytes≤281474976710656→(Builtin.append_ #[t,t2] ty #[.slice none 0 0,vx]).run P w=.ok (.slice (some ⟨w.heap.size,0,none⟩) n (grownCap w n 0 el)) (w.drew.alloc (.cells (news.toArray++Builtin.zeroCells z.cells (grownCap w n 0 el-n)) el))
 at_:0<n→∀ (b m cap:Nat) {cells:Array Value} {bt:TypeId},w.heap[b]?=some (.cells cells bt (0,0))→(∀ v∈news,(∀ x,v≠.agg x)∧(∀ x,v≠.tuple x))→m+n≤cap→m * lr e+news.length≤cells.size →
  ∃ cells',cells'.toList=bA cells.toList (m * lr e) news∧(Builtin.append_ #[t,t2] ty #[.slice (some ⟨b,0,none⟩) m cap,vx]).run P w=.ok (.slice (some ⟨b,0,none⟩) (m+n) cap) (bk w b (.cells cells' bt))
 grow:0<n→∀ (b:Addr) (m cap:Nat) (olds:List Value),olds.length=m * i.size→(∀ j v,olds[j]?=some v→w.cell? (b.add j)=some v)→cap<m+n→((m+n:Nat):Int)≤9223372036854775807→Builtin.nextslicecap (m+n) cap * i.bytes≤281474976710656 →
  (Builtin.append_ #[t,t2] ty #[.slice (some b) m cap,vx]).run P w=.ok (.slice (some ⟨w.heap.size,0,none⟩) (m+n) (grownCap w (m+n) cap el)) (w.drew.alloc (.cells (olds.toArray++news.toArray++Builtin.zeroCells z.cells (grownCap w (m+n) cap el-(m+n))) el))
theorem qh {t ty:TypeId} {e:ET} {el:TypeId} {i:TypeInfo} {z:Value} (H:Re P t e el i z) {g2:Gh} {a':Option Addr} {n c:Nat} {news:List Value} (hl:news.length=n * lr e) (hs:jU g2 w False a' news):App P w t t ty e el i z n news (.slice a' n c):=by
 have hz:=rT e
 have some_of:0<n→∃ c' o',a'=some ⟨c',o',none⟩∧At g2 w c' o' news:=fun hpos=>by
  obtain ⟨c',o',h1,h2,_⟩:=hs.resolve_left (fun e0=>by
   rw [e0] at hl
   have:0<n * lr e:=Nat.mul_pos hpos hz
   simp at hl
   omega)
  exact ⟨c',o',h1,h2⟩
 refine ⟨fun h0 a m cap hm=>by subst h0;exact rm H a a' _ _ _ hm,fun h0 h1 h2=>?_,fun h0 b m cap cells bt hb h1 h2 h3=>?_,fun h0 b m cap olds h1 h2 h3 h4 h5=>?_⟩
 ·obtain ⟨c',o',rfl,hat⟩:=some_of h0
  exact run_append_nil (P:=P) w t ty el i z H.Lm H.info H.zero ⟨c',o',none⟩ n c news (by rw [hl,H.size]) hat.news h0 h1 h2
 ·obtain ⟨c',o',rfl,hat⟩:=some_of h0
  exact vc (ty:=ty) H b m cap hb ⟨c',o',none⟩ n c news hl hat.news h1 h2 h3
 ·obtain ⟨c',o',rfl,hat⟩:=some_of h0
  exact run_append_grow (P:=P) w t ty el i z H.Lm H.info H.zero b m cap olds h1 h2 ⟨c',o',none⟩ n c news (by rw [hl,H.size]) hat.news h3 h4 h5
theorem H2 (m:MR g h w) {t t2 ty:TypeId} {e:ET} {el:TypeId} {i:TypeInfo} {z:Value} (H:Re P t e el i z) {ys xs:List e.T} {cs news:List Value} {p:Prop} {a:Option Addr} {n cap:Nat} {vx:Value} (hr:bp g h.al w (ys.map (enc e)) cs) (hsl:jU g w p a cs)
  (hn1:bp g h.al w (xs.map (enc e)) news) (hA:App P w t t2 ty e el i z xs.length news vx) (hpos:0<xs.length) (hlim:ys.length+xs.length≤wU) (hn:n=ys.length) (hcap:cap=ys.length) :
  ∃ v h' y g' w',(cW.val (.list e (ys++xs) (.own h.al.length)) { h with al:=h.al++[ys.length+xs.length] })=.val v h'∧(Builtin.append_ #[t,t2] ty #[.slice a n cap,vx]).run P w=.ok y w'∧MR g' h' w'∧Le g h.al w g' h'.al w'∧aP g' h'.al w' v y:=by
 subst hn hcap
 have hz:=rT e
 have hmem:∀ (ys:List e.T) q,q∈ys.map (enc e)→cM (bx q)=lr e:=fun ys q hq=>by
  obtain ⟨u,_,rfl⟩:=List.mem_map.1 hq;exact (eS e u).2
 have hlen:=hr.length (hmem ys)
 have hnlen:=hn1.length (hmem xs)
 rw [List.length_map] at hlen hnlen
 have h63:((ys.length+xs.length:Nat):Int)≤9223372036854775807:=by have:=tg hlim;omega
 have hbytes:(ys.length+xs.length) * i.bytes≤140737488355328:=by
  have h1:=tg hlim
  calc (ys.length+xs.length) * i.bytes≤1073741824 * 131072:=Nat.mul_le_mul h1 H.bytes
   _=140737488355328:=by decide
 obtain ⟨m1,l1⟩:=m.lI
 have hset:(h.al++[0]).set h.al.length (ys.length+xs.length)=h.al++[ys.length+xs.length]:=by
  rw [List.set_append_right _ _ (Nat.le_refl _)];simp
 have fresh:∀ (old:Nat) (cells:Array Value),cells.size=grownCap w (ys.length+xs.length) old el * lr e→cells.toList.take ((ys.length+xs.length) * lr e)=cs++news →
   (Builtin.append_ #[t,t2] ty #[.slice a ys.length ys.length,vx]).run P w=.ok (.slice (some ⟨w.heap.size,0,none⟩) (ys.length+xs.length) (grownCap w (ys.length+xs.length) old el)) (w.drew.alloc (.cells cells el)) →
   ∃ v h' y g' w',(cW.val (.list e (ys++xs) (.own h.al.length)) { h with al:=h.al++[ys.length+xs.length] })=.val v h'∧(Builtin.append_ #[t,t2] ty #[.slice a ys.length ys.length,vx]).run P w=.ok y w'∧MR g' h' w'∧Le g h.al w g' h'.al w'∧aP g' h'.al w' v y:=by
  intro old cells hsz htake hrun
  have hge:=grownCap_ge w (ys.length+xs.length) old el
  have hmx:=grownCap_le_maxLen w (ys.length+xs.length) old el (by have:=tg hlim;simp only [maxLen];omega)
  obtain ⟨m',l'⟩:=m1.qu (k:=h.al.length) (n:=0) (z:=Ng e) (cells:=cells) (ty:=el) (by simp) (n':=ys.length+xs.length) (by omega) hge hmx ⟨by rw [iU];exact hsz,fun e0=>H.byte (zg e0)⟩ w.drew (.inr rfl)
  simp only [hset] at m' l'
  have le:=l1.trans l'
  refine ⟨_,_,_,_,_,rfl,hrun,m',le,?_⟩
  have hblk:(w.drew.alloc (.cells cells el)).heap[w.heap.size]?=some (.cells cells el (0,0)):=heap_alloc_new w.drew _
  refine .list (cs:=cs++news) (by simp) (by rw [List.map_append];exact (hr.mono le).append (hn1.mono le)) (.inr ⟨w.heap.size,0,rfl,fun j u hj=>?_,fun _=>m.base⟩) (fun k' e'=>?_) (by simpa using hge)
  ·have hj':=(C'.1 hj).1
   rw [List.length_append,hlen,hnlen,← Nat.add_mul] at hj'
   refine ⟨?_,.inr ⟨rfl,by rw [iU];simpa using hj'⟩⟩
   rw [bu hblk,Nat.zero_add]
   rw [← htake,List.getElem?_take_of_lt hj'] at hj
   simpa using hj
  ·cases e'
   exact ⟨ys.length+xs.length,by simp,by simp,fun _=>⟨some (w.heap.size,_,Ng e),by simp [m.eI],rfl,rfl,rfl⟩⟩
 have take_ok:∀ (G:Nat),(cs.toArray++news.toArray++Builtin.zeroCells z.cells G).toList.take ((ys.length+xs.length) * lr e)=cs++news:=fun G=>by
  simp only [Array.toList_append]
  rw [List.take_append_of_le_length (by simp [hlen,hnlen,Nat.add_mul]),List.take_of_length_le (by simp [hlen,hnlen,Nat.add_mul])]
 cases a with
 | none =>
  have hcs:cs=[]:=by
   rcases hsl with h | ⟨_,_,e0,_⟩
   ·exact h
   ·cases e0
  have hy0:ys.length=0:=by
   rw [hcs] at hlen
   rcases Nat.eq_zero_or_pos ys.length with h | h
   ·exact h
   ·have:=Nat.mul_pos h hz;simp at hlen;omega
  have hr':=hA.nil hpos (by omega) (by rw [hy0,Nat.zero_add] at hbytes;omega)
  rw [hy0] at fresh take_ok ⊢
  simp only [Nat.zero_add] at fresh take_ok ⊢
  refine fresh 0 _ ?_ ?_ hr'
  ·have hge:=grownCap_ge w xs.length 0 el
   simp only [Array.size_append,List.size_toArray,size_zeroCells,H.DN,hnlen,← Nat.add_mul]
   congr 1
   omega
  ·have:=take_ok (grownCap w xs.length 0 el-xs.length)
   rw [hcs] at this ⊢
   simpa using this
 | some b =>
  have holds:∀ j u,cs[j]?=some u→w.cell? (b.add j)=some u:=by
   rcases hsl with e0 | ⟨c1,o1,ea,hat1,_⟩
   ·intro j u hj;rw [e0] at hj;simp at hj
   ·simp only [A'] at ea
    subst ea
    exact hat1.news
  have hr':=hA.grow hpos b ys.length ys.length cs (by rw [hlen,H.size]) holds (by omega) h63 (growslice_fits (by omega) hbytes)
  have hge:=grownCap_ge w (ys.length+xs.length) ys.length el
  refine fresh ys.length _ ?_ (take_ok _) hr'
  simp only [Array.size_append,List.size_toArray,size_zeroCells,H.DN,hlen,hnlen,← Nat.add_mul]
  congr 1
  omega
theorem mX (m:MR g h w) {t t2 ty:TypeId} {e:ET} {s x:AV} {r:cW} {vs vx:Value} (he:cQ P t=some e) (ha:(iV h e s x).get=some r) (hs:aP g h.al w s vs) {g2:Gh} {tk2:List Nat}
  (hX:∀ el i z,Re P t e el i z→∀ xs,e8 e x=some xs→∃ news,bp g2 tk2 w (xs.map (enc e)) news∧App P w t t2 ty e el i z xs.length news vx) :
  ∃ v h' y g' w',r=.val v h'∧(Builtin.append_ #[t,t2] ty #[vs,vx]).run P w=.ok y w'∧MR g' h' w'∧Le g h.al w g' h'.al w'∧aP g' h'.al w' v y:=by
 obtain ⟨el,i,z,H⟩:=lT he
 have hz:=rT e
 have main:∀ (g:Gh) (h:Hp) (m:MR g h w) (l:List e.T) (k cap:Nat) (a:Option Addr) (cs:List Value) (xs:List e.T),bp g h.al w (l.map (enc e)) cs→jU g w True a cs→jc g h.al (Ng e) (.own k) l.length cap a→l.length≤cap→h.al[k]?=some l.length →
   l.length+xs.length≤wU→e8 e x=some xs →
   ∃ y g' w',(Builtin.append_ #[t,t2] ty #[.slice a l.length cap,vx]).run P w=.ok y w'∧MR g' { h with al:=h.al.set k (l.length+xs.length) } w'∧Le g h.al w g' (h.al.set k (l.length+xs.length)) w'∧aP g' (h.al.set k (l.length+xs.length)) w' (.list e (l++xs) (.own k)) y:=by
  intro g h m l k cap a cs xs hr hsl htk hcap htok hlim hel
  obtain ⟨news,hn0,hA⟩:=hX el i z H xs hel
  have hn1:bp g h.al w (xs.map (enc e)) news:=hn0.Uw
  obtain ⟨n,t1,_,t3⟩:=htk k rfl
  obtain rfl:l.length=n:=Option.some.inj (htok.symm.trans t1)
  obtain ⟨ow,how,hown⟩:=t3 rfl
  have hmem:∀ (ys:List e.T) q,q∈ys.map (enc e)→cM (bx q)=lr e:=fun ys q hq=>by
   obtain ⟨u,_,rfl⟩:=List.mem_map.1 hq;exact (eS e u).2
  have hlen:=hr.length (hmem l)
  have hnlen:=hn1.length (hmem xs)
  rw [List.length_map] at hlen hnlen
  have hkk:=(C'.1 htok).1
  by_cases h0:xs.length=0
  ·have:xs=[]:=List.eq_nil_of_length_eq_zero h0
   subst this
   refine ⟨.slice a l.length cap,g,w,hA.zero rfl a _ _ hcap,?_,?_,?_⟩
   ·rw [List.length_nil,Nat.add_zero]
    have:h.al.set k l.length=h.al:=by
     apply List.ext_getElem?
     intro j
     by_cases hj:k=j
     ·subst hj;rw [htok];simp [hkk]
     ·rw [List.getElem?_set_ne hj]
    rw [this];exact m
   ·have:h.al.set k (l.length+([]:List e.T).length)=h.al:=by
     apply List.ext_getElem?
     intro j
     by_cases hj:k=j
     ·subst hj;rw [htok];simp [hkk]
     ·rw [List.getElem?_set_ne hj]
    rw [this];exact Le.refl _ _ _
   ·have:h.al.set k (l.length+([]:List e.T).length)=h.al:=by
     apply List.ext_getElem?
     intro j
     by_cases hj:k=j
     ·subst hj;rw [htok];simp [hkk]
     ·rw [List.getElem?_set_ne hj]
    rw [this,List.append_nil]
    exact .list rfl hr (hsl.imp id fun ⟨c,o,e1,e2,e3⟩=>⟨c,o,e1,e2,fun _=>e3 trivial⟩) (fun k' e'=>by cases e';exact ⟨_,htok,Nat.le_refl _,fun _=>⟨ow,how,hown⟩⟩) hcap
  ·
   have hpos:0<xs.length:=by omega
   have h63:((l.length+xs.length:Nat):Int)≤9223372036854775807:=by have:=tg hlim;omega
   have hbytes:(l.length+xs.length) * i.bytes≤140737488355328:=by
    have h1:=tg hlim
    calc (l.length+xs.length) * i.bytes≤1073741824 * 131072:=Nat.mul_le_mul h1 H.bytes
     _=140737488355328:=by decide
   have fresh:∀ (old:Nat) (cells:Array Value),old<l.length+xs.length→cells.size=grownCap w (l.length+xs.length) old el * lr e→cells.toList.take ((l.length+xs.length) * lr e)=cs++news →
     (Builtin.append_ #[t,t2] ty #[.slice a l.length cap,vx]).run P w=.ok (.slice (some ⟨w.heap.size,0,none⟩) (l.length+xs.length) (grownCap w (l.length+xs.length) old el)) (w.drew.alloc (.cells cells el)) →
     ∃ y g' w',(Builtin.append_ #[t,t2] ty #[.slice a l.length cap,vx]).run P w=.ok y w'∧MR g' { h with al:=h.al.set k (l.length+xs.length) } w'∧Le g h.al w g' (h.al.set k (l.length+xs.length)) w'∧aP g' (h.al.set k (l.length+xs.length)) w' (.list e (l++xs) (.own k)) y:=by
    intro old cells hold hsz htake hrun
    have hge:=grownCap_ge w (l.length+xs.length) old el
    have hmx:=grownCap_le_maxLen w (l.length+xs.length) old el (by simp only [maxLen];omega)
    obtain ⟨m',l'⟩:=m.qu (z:=Ng e) (cells:=cells) (ty:=el) htok (n':=l.length+xs.length) (by omega) hge hmx ⟨by rw [iU];exact hsz,fun e0=>H.byte (zg e0)⟩ w.drew (.inr rfl)
    refine ⟨_,_,_,hrun,m',l',?_⟩
    have hblk:(w.drew.alloc (.cells cells el)).heap[w.heap.size]?=some (.cells cells el (0,0)):=heap_alloc_new w.drew _
    refine .list (cs:=cs++news) (by simp) (by rw [List.map_append];exact (hr.mono l').append (hn1.mono l')) (.inr ⟨w.heap.size,0,rfl,fun j u hj=>?_,fun _=>m.base⟩) (fun k' e'=>?_) (by simpa using hge)
    ·have hj':=(C'.1 hj).1
     rw [List.length_append,hlen,hnlen,← Nat.add_mul] at hj'
     refine ⟨?_,.inr ⟨rfl,by rw [iU];simpa using hj'⟩⟩
     rw [bu hblk,Nat.zero_add]
     rw [← htake,List.getElem?_take_of_lt hj'] at hj
     simpa using hj
    ·cases e'
     exact ⟨l.length+xs.length,by simp [hkk],by simp,fun _=>⟨some (w.heap.size,_,Ng e),by simp [m.eI,hkk],rfl,rfl,rfl⟩⟩
   cases ow with
   | none =>
    obtain ⟨rfl,hl0,rfl⟩:=hown
    have:l=[]:=List.eq_nil_of_length_eq_zero hl0
    subst this
    have hcs:cs=[]:=by apply List.eq_nil_of_length_eq_zero;rw [hlen];simp
    subst hcs
    have hr':=hA.nil hpos (by simpa using h63) (by have:=hbytes;simp only [List.length_nil,Nat.zero_add] at this;omega)
    refine fresh 0 _ (by simpa using hpos) ?_ ?_ (by simpa using hr')
    ·have hge:=grownCap_ge w xs.length 0 el
     simp only [Array.size_append,List.size_toArray,size_zeroCells,H.DN,hnlen,← Nat.add_mul,List.length_nil,Nat.zero_add]
     congr 1
     omega
    ·simp only [Array.toList_append,List.length_nil,Nat.zero_add,List.nil_append]
     rw [List.take_append_of_le_length (by simp [hnlen]),List.take_of_length_le (by simp [hnlen])]
   | some q =>
    obtain ⟨b,cap',z'⟩:=q
    obtain ⟨rfl,rfl,rfl⟩:=hown
    obtain ⟨n',cells,bt,q2,q3,qm,q4,q5,q6,q7,q8⟩:=m.tok k b cap (Ng e) how
    obtain rfl:n'=l.length:=Option.some.inj (q2.symm.trans htok)
    by_cases hroom:l.length+xs.length≤cap
    ·have hfit:l.length * lr e+news.length≤cells.size:=by rw [hnlen,q6.1,iU,← Nat.add_mul];exact Nat.mul_le_mul_right _ hroom
     obtain ⟨cells',e1,e2⟩:=hA.at_ hpos b l.length cap q5 (xj xs hn1) hroom hfit
     obtain ⟨m',l'⟩:=m.tW (cells':=cells') how htok q5 (by rw [iU];exact hnlen) hroom (by rw [iU];exact e1)
     refine ⟨_,_,_,e2,m',l',?_⟩
     refine .list (cs:=cs++news) (by simp) (by rw [List.map_append];exact (hr.mono l').append (hn1.mono l')) (.inr ⟨b,0,rfl,fun j u hj=>?_,fun _=>q4⟩) (fun k' e'=>?_) (by simpa using hroom)
     ·have hj':=(C'.1 hj).1
      rw [List.length_append,hlen,hnlen,← Nat.add_mul] at hj'
      refine ⟨?_,.inr ⟨rfl,by rw [iU];simpa using hj'⟩⟩
      rw [bu (cG q5),Nat.zero_add,← Array.getElem?_toList,e1]
      by_cases hjl:j<l.length * lr e
      ·rw [jv hjl (by simp;omega)]
       rw [List.getElem?_append_left (by rw [hlen];exact hjl)] at hj
       rcases hsl with e0 | ⟨c1,o1,ea,hat1,_⟩
       ·rw [e0] at hlen;simp at hlen;omega
       ·simp only [A',Addr.mk.injEq,and_true] at ea
        obtain ⟨rfl,rfl⟩:=ea
        have:=(hat1 j u hj).1
        rw [bu q5,Nat.zero_add] at this
        simpa using this
      ·rw [List.getElem?_append_right (by omega),hlen] at hj
       rw [bA,List.append_assoc,List.getElem?_append_right (by simp;omega),List.length_take,Nat.min_eq_left (by simp;omega),List.getElem?_append_left (by rw [hnlen];rw [Nat.add_mul] at hj';omega)]
       exact hj
     ·cases e'
      exact ⟨l.length+xs.length,by simp [hkk],by simp,fun _=>⟨_,how,rfl,rfl,rfl⟩⟩
    ·have holds:∀ j u,cs[j]?=some u→w.cell? ((⟨b,0,none⟩:Addr).add j)=some u:=by
      rcases hsl with e0 | ⟨c1,o1,ea,hat1,_⟩
      ·intro j u hj;rw [e0] at hj;simp at hj
      ·simp only [A',Addr.mk.injEq,and_true] at ea
       obtain ⟨rfl,rfl⟩:=ea
       exact hat1.news
     have hr':=hA.grow hpos ⟨b,0,none⟩ l.length cap cs (by rw [hlen,H.size]) holds (by omega) h63 (growslice_fits (by omega) hbytes)
     have hge:=grownCap_ge w (l.length+xs.length) cap el
     refine fresh cap _ (by omega) ?_ ?_ hr'
     ·simp only [Array.size_append,List.size_toArray,size_zeroCells,H.DN,hlen,hnlen,← Nat.add_mul]
      congr 1
      omega
     ·simp only [Array.toList_append,List.append_assoc]
      rw [← List.append_assoc,List.take_append_of_le_length (by simp [hlen,hnlen,Nat.add_mul]),List.take_of_length_le (by simp [hlen,hnlen,Nat.add_mul])]
 unfold iV at ha
 split at ha
 ·rename_i e' l k xs hel
  split at ha
  ·rename_i hee
   subst hee
   split at ha
   ·simp only [get_guard,au,A',E',beq_iff_eq,decide_eq_true_eq] at ha
    rename_i hk
    obtain ⟨⟨h1,h2⟩,rfl⟩:=ha
    cases hs with
    | list hn hr hsl htk hc =>
     subst hn
     have htok:h.al[k]?=some l.length:=by
      rw [I' hk.2]
      rw [List.getD_eq_getElem?_getD,I' hk.2] at h1
      simpa using h1
     obtain ⟨y,g',w',a1,a2,a3,a4⟩:=main g h m l k _ _ _ xs hr (hsl.imp id fun ⟨c,o,e1,e2,e3⟩=>⟨c,o,e1,e2,fun _=>e3 (by simp)⟩) htk hc htok h2 hel
     refine ⟨_,_,y,g',w',rfl,a1,?_,?_,?_⟩<;>simp only [List.length_append]<;>assumption
   ·simp at ha
  ·simp at ha
 ·rename_i xs hel
  simp only [get_guard,au,A',decide_eq_true_eq] at ha
  obtain ⟨h1,rfl⟩:=ha
  cases hs
  obtain ⟨m1,l1⟩:=m.lI
  have hk:(h.al++[0])[h.al.length]?=some 0:=by simp
  obtain ⟨y,g',w',a1,a2,a3,a4⟩:=main _ _ m1 [] h.al.length 0 none [] xs .nil (.inl rfl) (fun k' e'=>by cases e';exact ⟨0,hk,Nat.le_refl _,fun _=>⟨none,by simp [m.eI],rfl,rfl,rfl⟩⟩) (Nat.le_refl _) hk (by simpa using h1) hel
  have hset:(h.al++[0]).set h.al.length ((0:Nat)+xs.length)=h.al++[xs.length]:=by
   rw [List.set_append_right _ _ (Nat.le_refl _)];simp
  simp only [List.length_nil,hset,List.nil_append] at a1 a2 a3 a4
  exact ⟨_,_,y,g',w',rfl,a1,a2,l1.trans a3,a4⟩
 ·rename_i fr l x1 xs1 hel
  split at ha
  ·rename_i ys hys
   simp only [get_guard,au,A',decide_eq_true_eq] at ha
   obtain ⟨hlim,rfl⟩:=ha
   have hpos:0<(x1::xs1).length:=Nat.succ_pos _
   generalize x1::xs1=xs at hel hlim hpos
   cases hs with
   | vlist hn h1 h2 h4 =>
    subst hn
    have hr:=kI hys h1
    have hyl:=kq hys
    obtain ⟨news,hn0,hA⟩:=hX el i z H xs hel
    have hn1:bp g h.al w (xs.map (enc e)) news:=hn0.Uw
    exact H2 m H hr h2 hn1 hA hpos hlim hyl.symm (h4.trans hyl.symm)
  ·simp at ha
 ·simp at ha
theorem Fv (m:MR g h w) {t ty:TypeId} {e:ET} {s x:AV} {r:cW} {vs vx:Value} (he:cQ P t=some e) (ha:(iV h e s x).get=some r) (hs:aP g h.al w s vs) {g2:Gh} {tk2:List Nat} (hx:aP g2 tk2 w x vx) :
  ∃ v h' y g' w',r=.val v h'∧(Builtin.append_ #[t,t] ty #[vs,vx]).run P w=.ok y w'∧MR g' h' w'∧Le g h.al w g' h'.al w'∧aP g' h'.al w' v y :=
 mX m he ha hs (g2:=g2) (tk2:=tk2) fun el i z H xs hel=>by
  obtain ⟨a',c,news,rfl,hn0,hn2⟩:=wm hel hx
  have hnlen:=hn0.length (fun q hq=>by obtain ⟨u,_,rfl⟩:=List.mem_map.1 hq;exact (eS e u).2)
  rw [List.length_map] at hnlen
  exact ⟨news,hn0,qh H hnlen hn2⟩
theorem O1 {t t2 ty:TypeId} {el:TypeId} {i:TypeInfo} {z:Value} (H:Re P t (.i .u8) el i z) (hu:P.underlying t2=some .string) (s:ByteArray):App P w t t2 ty (.i .u8) el i z s.size (Lib.strCells s) (.string s):=by
 have hlen:(Lib.strCells s).length=s.size:=Lib.strCells_length s
 have hsz:i.size=1:=H.size
 refine ⟨fun h0 a m cap hm=>?_,fun h0 h1 h2=>?_,fun h0 b m cap cells bt hb h1 h2 h3=>?_,fun h0 b m cap olds h1 h2 h3 h4 h5=>?_⟩
 ·have hf:=Lib.run_firstCells_string (P:=P) (w:=w) i.size s
  have hnil:Lib.strCells s=[]:=List.eq_nil_of_length_eq_zero (by rw [hlen];exact h0)
  rw [hnil,h0] at hf
  cases a with
  | none=>simp [Builtin.append_,Go.run_underlying H.Lm,Go.run_underlying hu,Go.sizeOf,typeInfo,H.info,Builtin.lenOf,h0,hm,hf]
  | some b=>simp [Builtin.append_,Go.run_underlying H.Lm,Go.run_underlying hu,Go.sizeOf,typeInfo,H.info,Builtin.lenOf,h0,hm,hf,storeCells]
 ·have:=run_append_nil_string (P:=P) w t t2 ty el i z H.Lm hu H.info H.zero s h0 h1 h2
  rw [this]
  have e:(s.data.map fun b=>Value.int .u8 (b.toNat:Int))=(Lib.strCells s).toArray:=by
   apply Array.ext'
   simp [Lib.strCells]
  rw [e]
 ·have h1e:m * lr (ET.i IntKind.u8)=m:=Nat.mul_one m
  rw [h1e] at h3 ⊢
  obtain ⟨cells',e1,e2⟩:=eG (P:=P) bt b (Lib.strCells s) w cells m 0 h1 hb (by simpa using h3)
  refine ⟨cells',by simpa using e1,?_⟩
  have hf:=Lib.run_firstCells_string (P:=P) (w:=w) 1 s
  simp [Builtin.append_,Go.run_underlying H.Lm,Go.run_underlying hu,Go.sizeOf,typeInfo,H.info,hsz,Builtin.lenOf,h2,hf,eV,e2]
 ·exact Lib.run_append_grow_string (P:=P) w t t2 ty el i z H.Lm hu H.info H.zero b m cap olds h1 h2 s h3 h4 h5
theorem vp (m:MR g h w) {t t2 ty:TypeId} {e:ET} {s:AV} {b:List UInt8} {r:cW} {vs vx:Value} (he:cQ P t=some e) (hu:CL P t2=true) (ha:(iV h e s (yL b)).get=some r) (hs:aP g h.al w s vs) (hx:aP g h.al w (.str b) vx) :
  ∃ v h' y g' w',r=.val v h'∧(Builtin.append_ #[t,t2] ty #[vs,vx]).run P w=.ok y w'∧MR g' h' w'∧Le g h.al w g' h'.al w'∧aP g' h'.al w' v y :=
 mX m he ha hs (g2:=g) (tk2:=h.al) fun el i z H xs hel=>by
  have hu':P.underlying t2=some .string:=by
   unfold CL at hu
   split at hu
   ·assumption
   ·cases hu
  cases hx with
  | str hb =>
   rename_i bs
   subst hb
   unfold yL e8 at hel
   simp only at hel
   split at hel
   ·rename_i hee
    subst hee
    simp only [A'] at hel
    subst hel
    refine ⟨Lib.strCells bs,?_,?_⟩
    ·have:∀ l:List UInt8,bp g h.al w ((l.map fun b=>(b.toNat:Int)).map (enc (.i .u8))) (l.map fun b=>Value.int .u8 (b.toNat:Int)):=by
      intro l
      induction l with
      | nil=>exact .nil
      | cons x l ih=>exact .cons (c:=[.int .u8 (x.toNat:Int)]) rfl rfl (.one rfl (.int _ _) .nil) ih
     exact this bs.data.toList
    ·have:=O1 (w:=w) (ty:=ty) H hu' bs
     simpa using this
   ·cases hel
end
noncomputable section
variable {P:Program} {g:Gh} {h:Hp} {tk:List Nat} {w:World}
theorem qo (off:Nat):∀ (vs:List Value) (j:Nat) (cells:Array Value),off+j+vs.length≤cells.size →
  ((vs.zipIdx j).foldl (fun cs (p:Value×Nat)=>cs.setIfInBounds (off+p.2) p.1) cells).toList=bA cells.toList (off+j) vs
 | [],j,cells,_=>by simp [nC]
 | v::vs,j,cells,hl=>by
  simp only [List.length_cons] at hl
  simp only [List.zipIdx_cons,List.foldl_cons]
  rw [qo off vs (j+1) _ (by simp;omega),Array.toList_setIfInBounds,jr _ _ _ (by simp;omega)]
  have:=jj cells.toList (off+j) [v] vs (by simp;omega)
  simpa [Nat.add_assoc] using this
theorem xE (place:Nat→Option (Nat×Nat)):∀ (ps:List (Nat×AV)) (vs:List (Nat×Value)) (l l':List AV) (cells:Array Value),jP place l ps=some l'→ax g tk w l cells.toList →
  ps.map (·.1)=vs.map (·.1)→aB g tk w (ps.map (·.2)) (vs.map (·.2))→∃ cells',Instr.fill place cells vs=some cells'∧ax g tk w l' cells'.toList
 | [],vs,l,l',cells,hp,hr,hn,_=>by
  simp [jP] at hp
  subst hp
  cases vs with
  | nil=>exact ⟨cells,rfl,hr⟩
  | cons=>simp at hn
 | (i,v)::ps,vs,l,l',cells,hp,hr,hn,hv=>by
  cases vs with
  | nil=>simp at hn
  | cons q vs =>
   obtain ⟨i',x⟩:=q
   simp only [List.map_cons,List.cons.injEq] at hn
   obtain ⟨rfl,hn⟩:=hn
   simp only [jP,B',Option.ite_none_right_eq_some,E',beq_iff_eq,decide_eq_true_eq] at hp
   obtain ⟨⟨o,m⟩,hpl,⟨⟨hs,hpos⟩,hm⟩,l1,h1,h2⟩:=hp
   cases hv with
   | cons hv hrest =>
    have hvs:=aP.bx (v:=x) hv hs
    have hsz:=oh (v:=x) hv hs
    rw [← gF hs] at hsz
    have hlen:=DU h1 hr hvs (by simp [hsz];omega)
    simp only [Array.length_toList] at hlen
    have e:=qo o x.cells.toList 0 cells (by simpa using hlen)
    have hnew:ax g tk w l1 ((x.cells.zipIdx.foldl (fun cs (p:Value×Nat)=>cs.setIfInBounds (o+p.2) p.1) cells).toList):=by
     rw [← Array.foldl_toList,Array.toList_zipIdx,e,Nat.add_zero]
     exact hr.put _ _ _ h1 hvs (by simpa using hlen)
    obtain ⟨cells',f1,f2⟩:=xE place ps vs l1 l' _ h2 hnew hn hrest
    refine ⟨cells',?_,f2⟩
    simp only [Instr.fill,hpl]
    have hno:¬ ((decide (x.cells.size≠m) || decide (o+x.cells.size>cells.size))=true):=by
     have h1:x.cells.size=m:=hsz.trans hm
     simp only [h1,ne_eq,not_true_eq_false,decide_false,Bool.false_or,decide_eq_true_eq]
     simp only [h1] at hlen
     omega
    rw [if_neg hno]
    exact f1
theorem lZ:∀ (fs:List Field),(fs.all fun f=>(bN P f.type).isSome)=true→(fs.mapM (fun f=>do pure (f.offset,← Go.sizeOf f.type):Field→Sem (Nat×Nat))).run P w=.ok (fs.map fun f=>(f.offset,(bN P f.type).getD 0)) w
 | [],_=>rfl
 | f::fs,ha=>by
  simp only [List.all_cons,E'] at ha
  obtain ⟨m,hm⟩:=Option.isSome_iff_exists.1 ha.1
  rw [List.mapM_cons]
  simp only [Sem.run_bind,run_sizeOf _ _ hm,Result.andThen_ok,Sem.run_pure]
  have:=lZ fs ha.2
  rw [this]
  simp [hm]
theorem Kh {t:TypeId} {ps:List (Nat×AV)} {v:AV} {vs:Array (Nat×Value)} (hb:CW P t ps=some v) (hn:ps.map (·.1)=vs.toList.map (·.1)) (hv:aB g tk w (ps.map (·.2)) (vs.toList.map (·.2))) :
  ∃ y,(Instr.build t vs).run P w=.ok y w∧aP g tk w v y:=by
 unfold CW at hb
 simp only [B'] at hb
 obtain ⟨z,hz,hb⟩:=hb
 obtain ⟨i,zv,hi,hzz,hr⟩:=mD (g:=g) (tk:=tk) (w:=w) hz
 have hzero:(zeroValue t).run P w=.ok zv w:=by
  simp [zeroValue,Sem.run_bind,run_typeInfo t i hi,hzz,pure,Sem.run]
 split at hb
 ·rename_i fs hu
  simp only [Option.ite_none_right_eq_some,H'] at hb
  obtain ⟨hall,l',hp,rfl⟩:=hb
  obtain ⟨cells',f1,f2⟩:=xE _ _ _ _ _ zv.cells hp hr hn hv
  refine ⟨.agg cells',?_,.agg f2⟩
  unfold Instr.build
  rw [Sem.run_bind,hzero,Result.andThen_ok,Sem.run_bind,run_underlying t _ hu,Result.andThen_ok]
  simp only
  rw [Array.mapM_eq_mapM_toList,Sem.run_bind]
  have hmm:=lZ (P:=P) (w:=w) fs.toList hall
  rw [Sem.run_map,hmm]
  simp only [Result.andThen_ok]
  have hplace:(fun i=>(List.toArray (fs.toList.map fun (f:Field)=>(f.offset,(bN P f.type).getD 0)))[i]?)=(fun (i:Nat)=>(fs[i]?).bind fun (f:Field)=>(bN P f.type).map fun m=>(f.offset,m)):=by
   funext i
   simp only [List.getElem?_toArray,List.getElem?_map,Array.getElem?_toList]
   cases hf:fs[i]? with
   | none=>rfl
   | some f =>
    have:f∈fs.toList:=by rw [Array.mem_toList_iff];exact Array.mem_of_getElem? hf
    rw [List.all_eq_true] at hall
    obtain ⟨m,hm⟩:=Option.isSome_iff_exists.1 (hall f this)
    simp [hm]
  rw [hplace,f1]
  rfl
 ·rename_i n e hu
  simp only [B',H'] at hb
  obtain ⟨m,hm,l',hp,rfl⟩:=hb
  obtain ⟨cells',f1,f2⟩:=xE _ _ _ _ _ zv.cells hp hr hn hv
  refine ⟨.agg cells',?_,.agg f2⟩
  unfold Instr.build
  rw [Sem.run_bind,hzero,Result.andThen_ok,Sem.run_bind,run_underlying t _ hu,Result.andThen_ok]
  simp only [Sem.run_bind,run_sizeOf e m hm,Result.andThen_ok]
  rw [f1]
  rfl
 ·cases hb
end
end Kz
end
