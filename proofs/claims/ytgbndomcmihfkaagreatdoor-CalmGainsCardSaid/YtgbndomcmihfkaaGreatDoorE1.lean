/- Part 1 of the proof. -/
import GoSem.Step
import Derived.Orders
import Derived.WalkKit
import Derived.RangeFuncLeaves
import Derived.ChangeKeysEq
import Derived.Laws.BytesArg
import Derived.Lib.AppendStr
set_option linter.unusedSectionVars false
set_option linter.unusedVariables false
set_option linter.unusedSimpArgs false
set_option linter.unnecessarySimpa false
set_option maxRecDepth 100000
set_option maxHeartbeats 4000000
theorem A'.{u}{α:Type u}(a b:α):(some a=some b)=(a=b):=Option.some.injEq a b
theorem B'.{u,v}{α:Type u}{β:Type v}{b:β}{x:Option α}{f:α→Option β}:x.bind f=some b↔∃a,x=some a∧f a=some b:=Option.bind_eq_some_iff
theorem C'.{u}{α:Type u}{l:List α}{i:Nat}{a:α}:l[i]?=some a↔∃h:i<l.length,l[i]=a:=List.getElem?_eq_some_iff
theorem E' (a b:Bool):((a&&b)=true)=(a=true∧b=true):=Bool.and_eq_true a b
theorem H'.{u,v}{α:Type u}{β:Type v}{x:Option α}{f:α→β}{b:β}:x.map f=some b↔∃a,x=some a∧f a=b:=Option.map_eq_some_iff
theorem I'.{u}{α:Type u}{l:List α}{i:Nat}(h:i<l.length):l[i]?=some l[i]:=List.getElem?_eq_getElem h
noncomputable section
namespace Kz
open Go
def t8:Nat:=5
def tyB:Nat:=100000
def vm:List (Nat×IntKind×List Int):=[(0,.u8,[0,1,56,2,57,49,28,3,61,58,42,50,38,29,17,4,62,47,59,36,45,43,51,22,53,39,33,30,24,18,12,5,63,55,48,27,60,41,37,16,46,35,44,21,52,32,23,11,54,26,40,15,34,20,31,10,25,14,19,9,13,8,7,6])]
def NB:List (Nat×IntKind):=[]
def Y6:List Nat:=[]
def um:List (Nat×IntKind×Option (List Int)):=(vm.map (fun p=>(p.1,p.2.1,some p.2.2))++NB.map fun p=>(p.1,p.2,none))++Y6.map fun i=>(i,.i8,none)
structure Mv where
 aD:Int
 to:Int
 bU:Int
 bh:Int
 bZ:Bool
 deriving DecidableEq,Inhabited
structure Pos where
 variant:Int
 ab:List Int
 ai:BitVec 64
 ah:List Int
 aa:Int
 ao:List Int
 az:Int
 au:List Int
 half:Int
 full:Int
 deriving DecidableEq,Inhabited
inductive ET where
 |i (k:IntKind)|u64|str|mv|pos
 deriving DecidableEq
@[reducible] def ET.T:ET→Type
 | .i _=>Int
 | .u64=>BitVec 64
 | .str=>List UInt8
 | .mv=>Mv
 | .pos=>Pos
inductive Tk where
 |arg|fresh|own (k:Nat)
 deriving DecidableEq
def Uk:ET→Nat
 | .i .u8=>0
 | .mv=>5
 | .pos=>88
 |_=>1
def Bh:Nat→Nat
 | 0=>1
 |n+1=>n+1
def lF:ET→Nat
 | .mv=>5
 | .pos=>88
 |_=>1
inductive AV where
 |any
 |undef
 |bool (b:Bool)
 |aU (b:Bool)
 |int (k:IntKind) (n:Int)
 |bj (k:IntKind) (n:Int)
 |u64 (x:BitVec 64)
 |str (s:List UInt8)
 |agg (l:List AV)
 |ints (k:IntKind) (n:Nat) (l:List Int)
 |ptr (b off:Nat)
 |ptri (b off n:Nat) (i:Int) (m:Nat)
 |ptrf (v:AV)
 |nilptr
 |slf (b:Nat)
 |itr (s:List UInt8) (n:Int)
 |list (e:ET) (l:List e.T) (tok:Tk)
 |vlist (fr:Bool) (l:List AV)
 |vany (t:Tk) (l:List AV)
 |vsl (b off n:Nat)
 |nilsl
 |func (f:Nat) (first cap:List AV)
 |yield (l:Nat)
 |nilfunc
 |iface (t:Nat) (v:AV)
 |niliface
 |tuple (l:List AV)
 deriving Inhabited
structure eF where
 state:Nat
 eN:Option Code
 fn:Nat
 tmps:List AV
 params:List Nat
 assign:Code
 body:Code
structure Hp where
 heap:List (List AV)
 ag:List Nat
 loops:List eF
 lo:Nat
 tO:Nat
 qJ:Nat
structure St where
 tmps:List AV
 hp:Hp
inductive Tr (α:Type) where
 |ret (a:α)
 |fail
 |br (b:Bool) (t e:Tr α)
 |ck (c:Bool) (b b':Code) (s s':St) (t:Tr α)
namespace Tr
def bind {α β:Type}:Tr α→(α→Tr β)→Tr β
 | .ret a,f=>f a
 | .fail,_=>.fail
 | .br b t e,f=>.br b (t.bind f) (e.bind f)
 | .ck c b b' s s' t,f=>.ck c b b' s s' (t.bind f)
def get {α:Type}:Tr α→Option α
 | .ret a=>some a
 | .fail=>none
 | .br b t e=>bif b then t.get else e.get
 | .ck c _ _ _ _ t=>bif c then t.get else none
def opt {α:Type}:Option α→Tr α
 |some a=>.ret a
 |none=>.fail
def guard {α:Type}(b:Bool)(t:Tr α):Tr α := .br b t .fail
end Tr
inductive Out where
 |norm (s:St)
 |ret (s:St)
 |exit (id:Nat) (s:St)
 |panic (v:AV) (h:Hp)
inductive eG where
 |val (v:AV) (h:Hp)
 |pan (v:AV) (h:Hp)
def ssize:AV→Nat
 | .ints _ n _=>n
 |_=>1
def sf:List AV→Nat→Option (AV×Nat)
 | [],_=>none
 |s::rest,o=>if o<ssize s then some (s,o)else sf rest (o-ssize s)
def cellOf:AV→Nat→Option AV
 | .ints k n l,j=>if j<n then some (.int k (l.getD j 0))else none
 |v,0=>some v
 |_,_=>none
def gz (l:List AV)(o:Nat):Option AV:=(sf l o).bind fun (s,j)=>cellOf s j
def gW:List AV→Nat→Option (List AV)
 |_,0=>some []
 | [],_+1=>none
 | .ints k n l::rest,m+1 =>
  if n≤m+1 then(gW rest (m+1-n)).map (.ints k n l::·)else some [.ints k (m+1) (l.take (m+1))]
 |s::rest,m+1=>(gW rest m).map (s::·)
def gV:List AV→Nat→Option (List AV)
 |l,0=>some l
 | [],_+1=>none
 | .ints k n l::rest,m+1 =>
  if n≤m+1 then gV rest (m+1-n)else some (.ints k (n-(m+1)) (l.drop (m+1))::rest)
 |_::rest,m+1=>gV rest m
def EM (l:List AV)(o m:Nat):Option (List AV):=(gV l o).bind (gW · m)
def aK:AV→Bool
 | .any | .undef | .agg _ | .ints .. | .tuple _ | .itr .. => false
 |_=>true
def nY:List AV→Option (List AV)
 | [.itr ..]=>none
 |l=>some l
def qh (k:IntKind)(n:Nat)(l:List Int)(j:Nat):AV→Option AV
 | .int k' x=>if k=k'∧j<n then some (.ints k n (l.set j x))else none
 | .bj k' x=>if k=k'∧j<n then some (.ints k n (l.set j x))else none
 | .ints k' m l'=>if k=k'∧j+m≤n then some (.ints k n (if m=n then l' else l.take j++l'++l.drop (j+m)))else none
 |_=>none
def zw:AV→Nat→AV→Option AV
 | .ints k n l,j,v=>qh k n l j v
 |_,0,v=>if aK v then some v else none
 |_,_+1,_=>none
def qp:List AV→Nat→AV→Option (List AV)
 | [],_,_=>none
 |s::rest,o,v=>if o<ssize s then(zw s o v).map (·::rest)else(qp rest (o-ssize s) v).map (s::·)
def mP:List AV→Nat→List AV→Option (List AV)
 |l,_,[]=>some l
 |l,o,v::vs=>(qp l o v).bind fun l'=>mP l' (o+ssize v) vs
def bf:AV→List AV
 | .agg l=>l
 |v=>[v]
def storable:AV→Bool
 | .agg _=>true
 |v=>aK v
def YU:Value→AV
 | .bool b=>.aU b
 | .int .u64 n=>if 0≤n∧n<18446744073709551616 then .u64 (BitVec.ofNat 64 n.toNat)else .any
 | .int k n=>.bj k n
 | .string s=>.str s.data.toList
 | .pointer none=>.nilptr
 | .slice none 0 0=>.nilsl
 | .nilFunc=>.nilfunc
 | .nilIface=>.niliface
 |_=>.any
def lJ (P:Program):Nat→TypeId→Option (List AV)
 | 0,_=>none
 |d+1,t =>
  match P.underlying t with
  |some .bool=>some [.aU false]
  |some (.int .u64)=>some [.u64 0]
  |some (.int k)=>some [.bj k 0]
  |some .string=>some [.str []]
  |some (.pointer _)=>some [.nilptr]
  |some (.slice _)=>some [.nilsl]
  |some (.func ..)=>some [.nilfunc]
  |some (.interface _)=>some [.niliface]
  |some (.struct fs)=>fs.toList.foldr (fun f acc=>(lJ P d f.type).bind fun a=>acc.map (a++·)) (some [])
  |some (.array n e) =>
   match lJ P d e with
   |some [.bj k _]=>some [.ints k n (List.replicate n 0)]
   |some [.ints k m _]=>some [.ints k (n*m) (List.replicate (n*m) 0)]
   |some l=>some (List.replicate n l).flatten
   |none=>none
  |_=>none
def tj:AV→Value→Bool
 | .aU b,.bool c=>b==c
 | .u64 x,.int .u64 n=>(x.toNat:Int)==n
 | .bj k n,.int k' m=>k==k'&&n==m
 | .str [],.string s=>s.data.toList.isEmpty
 | .nilptr,.pointer none=>true
 | .nilsl,.slice none 0 0=>true
 | .nilfunc,.nilFunc=>true
 | .niliface,.nilIface=>true
 |_,_=>false
def kV (k:IntKind):List Int→List Value→Option (List Value)
 | [],cs=>some cs
 |n::l,.int k' m::cs=>if k==k'&&n==m then kV k l cs else none
 |_::_,_=>none
def iI:List AV→List Value→Bool
 | [],[]=>true
 | .ints k n l::rest,cs=>n==l.length&&(match kV k l cs with|some cs'=>iI rest cs' |none=>false)
 |s::rest,c::cs=>tj s c&&iI rest cs
 |_,_=>false
def oa (P:Program)(t:TypeId):Option (List AV) :=
 match lJ P 12 t,(P.info? t).bind (·.zero)with
 |some l,some z=>if iI l z.cells.toList then some l else none
 |_,_=>none
def ct (P:Program)(t:TypeId):Bool :=
 match P.underlying t with
 |some (.struct _)|some (.array _ _)=>true
 |_=>false
def bW (P:Program)(t:TypeId):Option Nat:=(P.info? t).map (·.size)
def Mv.av (m:Mv):AV := .agg [.int .i8 m.aD,.int .i8 m.to,.int .u8 m.bU,.int .u8 m.bh,.bool m.bZ]
def Pos.av (p:Pos):AV :=
 .agg [.int .u8 p.variant,.ints .u8 64 p.ab,.u64 p.ai,.ints .u8 12 p.ah,.int .u8 p.aa,.ints .i8 4 p.ao,.int .i8 p.az,.ints .u8 2 p.au,.int .i64 p.half,.int .i64 p.full]
def enc:(e:ET)→e.T→AV
 | .i k,n=>.int k n
 | .u64,x=>.u64 x
 | .str,s=>.str s
 | .mv,m=>Mv.av m
 | .pos,p=>Pos.av p
def pV:AV→Option Int
 | .int _ n | .bj _ n=>some n
 |_=>none
def Av:AV→Option Bool
 | .bool b | .aU b=>some b
 |_=>none
def toU:AV→Option (BitVec 64)
 | .u64 x=>some x
 |_=>none
def toS:AV→Option (List UInt8)
 | .str s=>some s
 |_=>none
def kindOk (k:IntKind):AV→Bool
 | .int k' _ | .bj k' _=>k==k'
 |_=>false
def Jp:AV→Option Mv
 | .agg [a,b,c,d,e] =>
  if kindOk .i8 a&&kindOk .i8 b&&kindOk .u8 c&&kindOk .u8 d then
   (pV a).bind fun a=>(pV b).bind fun b=>(pV c).bind fun c=>(pV d).bind fun d=>(Av e).map fun e=>⟨a,b,c,d,e⟩
  else none
 |_=>none
def toPos:AV→Option Pos
 | .agg [v,.ints .u8 64 bd,.u64 pr,.ints .u8 12 pk,tn,.ints .i8 4 rk,ps,.ints .u8 2 ck,hf,fl] =>
  if kindOk .u8 v&&kindOk .u8 tn&&kindOk .i8 ps&&kindOk .i64 hf&&kindOk .i64 fl then
   (pV v).bind fun v=>(pV tn).bind fun tn=>(pV ps).bind fun ps=>(pV hf).bind fun hf=>(pV fl).map fun fl=>⟨v,bd,pr,pk,tn,rk,ps,ck,hf,fl⟩
  else none
 |_=>none
def dec:(e:ET)→AV→Option e.T
 | .i k,v=>if kindOk k v then pV v else none
 | .u64,v=>toU v
 | .str,v=>toS v
 | .mv,v=>Jp v
 | .pos,v=>toPos v
def kZ (e:ET):List AV→Option (List e.T)
 | []=>some []
 |v::vs=>(dec e v).bind fun x=>(kZ e vs).map (x::·)
def alG (P:Program)(t:TypeId):Option ET :=
 match P.underlying t with
 |some (.int .u64)=>some .u64
 |some (.int k)=>some (.i k)
 |some .string=>some .str
 |some (.struct _) =>
  match lJ P 12 t with
  |some [.bj .i8 _,.bj .i8 _,.bj .u8 _,.bj .u8 _,.aU _]=>some .mv
  |some [.bj .u8 _,.ints .u8 64 _,.u64 _,.ints .u8 12 _,.bj .u8 _,.ints .i8 4 _,.bj .i8 _,.ints .u8 2 _,.bj .i64 _,.bj .i64 _]=>some .pos
  |_=>none
 |_=>none
def cX (l:List AV):Nat:=l.foldr (fun s n=>ssize s+n) 0
def dg (P:Program)(t:TypeId):Option ET :=
 match P.underlying t with
 |some (.slice el) =>
  match alG P el,oa P el,P.info? el with
  |some e,some z,some i=>if cX z=lF e∧i.size=lF e∧i.bytes≤131072∧0<i.bytes∧(e=.i .u8→el=t8)then some e else none
  |_,_,_=>none
 |_=>none
mutual
def fO:AV→Bool
 | .bool _ | .aU _ | .int .. | .bj .. | .u64 _ | .str _ | .ints .. | .nilptr | .list .. | .nilsl | .nilfunc | .niliface=>true
 | .func _ a b=>a.isEmpty&&b.isEmpty
 | .agg l=>me l
 | .vlist _ l=>me l
 | .vany _ l=>me l
 | .tuple l=>me l
 | .ptrf v=>fO v
 |_=>false
def me:List AV→Bool
 | []=>true
 |v::vs=>fO v&&me vs
end
def Tk.made:Tk→Bool
 | .arg=>false
 |_=>true
mutual
def bz:AV→Bool
 | .list _ _ .arg=>false
 | .agg l=>da l
 | .vlist fr l=>fr&&da l
 | .vany t l=>t.made&&da l
 | .tuple l=>da l
 | .ptrf _=>false
 | .iface _ v=>bz v
 | .func _ a b=>da a&&da b
 |_=>true
def da:List AV→Bool
 | []=>true
 |v::vs=>bz v&&da vs
end
def Tk.res:Tk→Tk
 | .own _=>.fresh
 |t=>t
mutual
def strip (arg:Bool):AV→AV
 | .list e l t=>.list e l (if arg then .arg else t.res)
 | .ptrf v=>.ptrf (strip arg v)
 | .iface t v=>.iface t (strip arg v)
 | .func f a b=>.func f (cO arg a) (cO arg b)
 | .agg l=>.agg (cO arg l)
 | .vlist fr l=>.vlist (!arg&&fr) (cO arg l)
 | .vany t l=>.vany (if arg then .arg else t.res) (cO arg l)
 | .tuple l=>.tuple (cO arg l)
 |v=>v
def cO (arg:Bool):List AV→List AV
 | []=>[]
 |v::vs=>strip arg v::cO arg vs
end
mutual
def aV (n:Nat):AV→Bool
 | .ptr b _ | .ptri b .. | .vsl b .. | .slf b=>b<n
 | .ptrf v | .iface _ v=>aV n v
 | .func _ a b=>bV n a&&bV n b
 | .agg l | .tuple l=>bV n l
 | .vlist _ l=>bV n l
 | .vany _ l=>bV n l
 | .yield _=>false
 |_=>true
def bV (n:Nat):List AV→Bool
 | []=>true
 |v::vs=>aV n v&&bV n vs
end
def jg (v:AV):Nat:=match v with
 | .agg l=>l.foldl (fun n s=>n+ssize s) 0
 |_=>1
def wr (k:IntKind)(n:Int):Int:=k.wrap n
def lz (op:BinOp)(k:IntKind)(x y:Int):Int :=
 match op with
 | .and=>k.wrap (BitVec.ofInt k.bits x&&&BitVec.ofInt k.bits y).toNat
 | .or=>k.wrap (BitVec.ofInt k.bits x|||BitVec.ofInt k.bits y).toNat
 | .xor=>k.wrap (BitVec.ofInt k.bits x ^^^ BitVec.ofInt k.bits y).toNat
 |_=>k.wrap (BitVec.ofInt k.bits x &&& ~~~ BitVec.ofInt k.bits y).toNat
def aa9 (op:BinOp)(x y:Int):Option Bool :=
 match op with
 | .eql=>some (x==y)
 | .neq=>some (x != y)
 | .lss=>some (decide (x<y))
 | .leq=>some (decide (x≤y))
 | .gtr=>some (decide (x>y))
 | .geq=>some (decide (x≥y))
 |_=>none
def EZ (op:BinOp)(k:IntKind)(x y:Int):Option Int :=
 match op with
 | .add=>some (wr k (x+y))
 | .sub=>some (wr k (x-y))
 | .mul=>some (wr k (x*y))
 | .and | .or | .xor | .andNot=>some (lz op k x y)
 |_=>none
def aan (op:BinOp)(k:IntKind)(x y:Int):Option Int :=
 match op with
 | .quo=>some (wr k (x.tdiv y))
 | .rem=>some (x.tmod y)
 |_=>none
def Eg (op:BinOp)(k:IntKind)(x:Int)(n:Nat):Option Int :=
 match op with
 | .shl=>some (wr k (x*2^(min n k.bits)))
 | .shr=>some (x.fdiv (2^(min n k.bits)))
 |_=>none
def Eh (op:BinOp)(x y:BitVec 64):Option (BitVec 64) :=
 match op with
 | .add=>some (x+y)
 | .sub=>some (x-y)
 | .mul=>some (x*y)
 | .and=>some (x&&&y)
 | .or=>some (x|||y)
 | .xor=>some (x ^^^ y)
 | .andNot=>some (x &&& ~~~y)
 |_=>none
def Ys (op:BinOp)(x y:BitVec 64):Option Bool :=
 match op with
 | .eql=>some (x==y)
 | .neq=>some (x != y)
 | .lss=>some (decide (x.toNat<y.toNat))
 | .leq=>some (decide (x.toNat≤y.toNat))
 | .gtr=>some (decide (x.toNat>y.toNat))
 | .geq=>some (decide (x.toNat≥y.toNat))
 |_=>none
def Ff (op:BinOp)(x:BitVec 64)(n:Nat):Option (BitVec 64) :=
 match op with
 | .shl=>some (x <<< n)
 | .shr=>some (x >>> n)
 |_=>none
def Ga:BinOp→Bool
 | .shl | .shr=>true
 |_=>false
def V9:BinOp→Bool
 | .eql | .neq | .lss | .leq | .gtr | .geq=>true
 |_=>false
def Gn:BinOp→Bool
 | .quo | .rem=>true
 |_=>false
def isEq:BinOp→Bool
 | .eql | .neq=>true
 |_=>false
def cg (op:BinOp)(b:Bool):Bool :=
 match op with
 | .eql=>b
 |_ => !b
def eY:List AV→List AV→Option Bool
 | [],[]=>some true
 | .ints k n l::xs,.ints k' n' l'::ys=>if k=k'∧n=n' then(eY xs ys).map ((l==l')&&·)else none
 |x::xs,y::ys =>
  match x,y with
  | .u64 a,.u64 b=>(eY xs ys).map ((a==b)&&·)
  | .str a,.str b=>(eY xs ys).map ((a==b)&&·)
  | .int k a,.int k' b=>if k=k' then(eY xs ys).map ((a==b)&&·)else none
  | .bj k a,.int k' b=>if k=k' then(eY xs ys).map ((a==b)&&·)else none
  | .int k a,.bj k' b=>if k=k' then(eY xs ys).map ((a==b)&&·)else none
  | .bj k a,.bj k' b=>if k=k' then(eY xs ys).map ((a==b)&&·)else none
  |x,y =>
   match Av x,Av y with
   |some a,some b=>(eY xs ys).map ((a==b)&&·)
   |_,_=>none
 |_,_=>none
inductive CK where
 |b|s|i (k:IntKind)
 deriving DecidableEq
def Nb:List AV→Option (List CK)
 | []=>some []
 | .ints k n _::l=>(Nb l).map (List.replicate n (.i k)++·)
 | .bool _::l | .aU _::l=>(Nb l).map (.b::·)
 | .int k _::l | .bj k _::l=>(Nb l).map (.i k::·)
 | .u64 _::l=>(Nb l).map (.i .u64::·)
 | .str _::l=>(Nb l).map (.s::·)
 |_::_=>none
def JL (P:Program):Nat→TypeId→Option (List CK)
 | 0,_=>none
 |d+1,t =>
  match P.underlying t with
  |some .bool=>if bW P t=some 1 then some [.b]else none
  |some (.int k)=>if bW P t=some 1 then some [.i k]else none
  |some .string=>if bW P t=some 1 then some [.s]else none
  |some (.struct fs) =>
   if P.stoodInHeld t then none
   else fs.toList.foldl (fun acc f => acc.bind fun ks => if f.name != "_" && f.offset == ks.length then (JL P d f.type).bind fun k => if bW P f.type = some k.length then some (ks ++ k) else none else none) (some [])
  |some (.array n e)=>(JL P d e).bind fun k=>if bW P e=some k.length then some (List.replicate n k).flatten else none
  |_=>none
def nE:AV→Option (Bool×Nat)
 | .u64 y=>some (true,y.toNat)
 | .bj _ n=>some (decide (0≤n),n.toNat)
 | .int _ n=>some (decide (0≤n),n.toNat)
 |_=>none
def isC:AV→Bool
 | .bj .. => true
 |_=>false
def kN:List UInt8→List UInt8→Bool
 |_,[]=>false
 | [],_::_=>true
 |a::x,b::y=>decide (a<b) ||(a==b&&kN x y)
def Ze (op:BinOp)(x y:List UInt8):Option Bool :=
 match op with
 | .eql=>some (x==y)
 | .neq=>some (!(x==y))
 | .lss=>some (kN x y)
 | .leq=>some (kN x y ||x==y)
 | .gtr=>some (!(kN x y ||x==y))
 | .geq=>some (!kN x y)
 |_=>none
def qI:Nat:=1073741824
def Ov:AV→Option (Bool×IntKind×Int)
 | .bj k n=>some (true,k,n)
 | .int k n=>some (false,k,n)
 |_=>none
def Xs (c:Bool)(k:IntKind)(n:Int):AV:=match c with
 |true=>.bj k n
 |false=>.int k n
def mkB (c:Bool)(b:Bool):AV:=match c with
 |true=>.aU b
 |false=>.bool b
def ni:AV→Bool
 | .u64 _=>true
 | .bj _ n=>decide (0≤n)
 |_=>false
def aaq (op:BinOp)(a:BitVec 64)(y:AV):Tr AV :=
 match Ga op with
 |true =>
  match nE y with
  |some (ok,n)=>match Ff op a n with
   |some r=>if ni y then .ret (.u64 r)else .guard ok (.ret (.u64 r))
   |none=>.fail
  |none=>.fail
 |false =>
  match y with
  | .u64 b =>
   if V9 op then Tr.opt ((Ys op a b).map .bool)
   else if Gn op then .guard (!(b==0#64)) (.ret (.u64 (if op=.rem then a%b else a / b)))
   else Tr.opt ((Eh op a b).map .u64)
  |_=>.fail
def Tc (op:BinOp)(c:Bool)(k:IntKind)(a:Int)(y:AV):Tr AV :=
 match Ga op with
 |true =>
  match nE y with
  |some (ok,n)=>match Eg op k a n with
   |some r=>if ni y then .ret (Xs (c&&isC y) k r)else .guard ok (.ret (Xs (c&&isC y) k r))
   |none=>.fail
  |none=>.fail
 |false =>
  match Ov y with
  |some (c',k',b) =>
   if k=k' then
    if Gn op then
     match aan op k a b with
     |some r=>if c' then(if b=0 then .fail else .ret (Xs (c&&c') k r))else .guard (!(b==0)) (.ret (Xs (c&&c') k r))
     |none=>.fail
    else if V9 op then Tr.opt ((aa9 op a b).map (mkB (c&&c')))
    else Tr.opt ((EZ op k a b).map (Xs (c&&c') k))
   else .fail
  |none=>.fail
def pj (P:Program)(t:TypeId):Bool:=match P.underlying t with
 |some .bool=>true
 |_=>false
def tJ (P:Program)(t:TypeId):Bool:=match P.underlying t with
 |some (.func ..)=>true
 |_=>false
def qM (P:Program)(t:TypeId):Bool:=match P.underlying t with
 |some (.interface ms)=>ms.isEmpty
 |_=>false
def wm (P:Program)(t:TypeId):Bool:=match P.underlying t with
 |some (.interface _)=>true
 |_=>false
def Jd:Operand→Bool
 | .const _=>true
 |_=>false
def EG (P:Program)(t:TypeId):Bool:=match P.underlying t with
 |some (.pointer _)=>true
 |_=>false
def Oi:AV→Option Bool
 | .nilptr=>some true
 | .ptr .. | .ptri .. | .ptrf _=>some false
 |_=>none
def binop (P:Program)(lit:Bool)(op:BinOp)(t:TypeId)(x y:AV):Tr AV :=
 match x with
 | .u64 a=>aaq op a y
 | .bj k a=>Tc op true k a y
 | .int k a=>Tc op false k a y
 | .str a=>match y with
  | .str b =>
   if op=.add then .guard (decide (a.length+b.length≤qI)) (.ret (.str (a++b)))
   else Tr.opt ((Ze op a b).map .bool)
  |_=>.fail
 | .agg a=>match y with
  | .agg b =>
   if isEq op&&!P.eqGuardType P.depth t&&ct P t&&(JL P 8 t).isSome&&Nb a==JL P 8 t&&Nb b==JL P 8 t&&bW P t==(JL P 8 t).map (·.length)then
    Tr.opt ((eY a b).map fun e=>.bool (cg op e))else .fail
  |_=>.fail
 | .func .. => match y with
  | .nilfunc=>if isEq op&&tJ P t then .ret (.aU (cg op false))else .fail
  |_=>.fail
 | .nilfunc=>match y with
  | .nilfunc=>if isEq op&&tJ P t then .ret (.aU (cg op true))else .fail
  |_=>.fail
 | .aU a=>match y with
  | .aU b=>if isEq op&&pj P t then .ret (.aU (cg op (a==b)))else .fail
  | .bool b=>if isEq op&&pj P t then .ret (.bool (cg op (a==b)))else .fail
  |_=>.fail
 | .bool a=>match Av y with
  |some b=>if isEq op&&pj P t then .ret (.bool (cg op (a==b)))else .fail
  |none=>.fail
 | .niliface=>match y with
  | .niliface=>if isEq op&&(qM P t ||lit&&wm P t)then .ret (.aU (cg op true))else .fail
  |_=>.fail
 | .iface .. => match y with
  | .niliface=>if isEq op&&wm P t then .ret (.aU (cg op false))else .fail
  |_=>.fail
 |x=>match Oi x,y with
  |some b,.nilptr=>if isEq op&&EG P t then .ret (.aU (cg op b))else .fail
  |_,_=>.fail
def unop (op:UnOp)(x:AV):Tr AV :=
 match op,x with
 | .not,.aU b=>.ret (.aU (!b))
 | .not,.bool b=>.ret (.bool (!b))
 | .neg,.bj k n=>.ret (.bj k (wr k (0-n)))
 | .neg,.int k n=>.ret (.int k (wr k (0-n)))
 | .neg,.u64 n=>.ret (.u64 (0#64-n))
 | .xor,.u64 n=>.ret (.u64 (~~~n))
 |_,_=>.fail
def Mf (P:Program)(s d:TypeId)(x:AV):Tr AV :=
 match P.underlying s,P.underlying d,x with
 |some (.int _),some (.int .u64),.bj _ n=>.ret (.u64 (BitVec.ofInt 64 n))
 |some (.int _),some (.int .u64),.int _ n=>.ret (.u64 (BitVec.ofInt 64 n))
 |some (.int _),some (.int .u64),.u64 n=>.ret (.u64 n)
 |some (.int _),some (.int k),.bj _ n=>.ret (.bj k (wr k n))
 |some (.int _),some (.int k),.int _ n=>.ret (.int k (wr k n))
 |some (.int _),some (.int k),.u64 n=>.ret (.int k (wr k n.toNat))
 |some .string,some .string,.str l=>.ret (.str l)
 |some (.int _),some .string,.bj _ n=>.ret (.str (Utf8.encode n).data.toList)
 |some (.int _),some .string,.int _ n=>.ret (.str (Utf8.encode n).data.toList)
 |_,_,_=>.fail
def sH (P:Program)(s:TypeId)(f:Nat):Option (Nat×TypeId) :=
 match P.underlying s with
 |some (.struct fs)=>(fs[f]?).bind fun x=>if (bW P x.type).getD 0=0 then none else some (x.offset,x.type)
 |_=>none
def il (P:Program)(t:TypeId)(l:List AV)(o:Nat):Option AV :=
 if (P.underlying t).isSome then
  if ct P t then(bW P t).bind fun m=>(EM l o m).map .agg
  else gz l o
 else none
def bx (h:Hp)(b:Nat):Option (List AV):=(h.heap[b]?).bind nY
def gG:List AV→Nat→Nat→Option (IntKind×List Int)
 | .ints k n l::rest,o,m=>if o=0∧n=m then some (k,l)else if o+m≤n∧0<m then some (k,(l.drop o).take m)else if o<n∨o=0 then none else gG rest (o-n) m
 |s::rest,o,m=>if o<ssize s then none else gG rest (o-ssize s) m
 | [],_,_=>none
def gM:List AV→Nat→Nat→List Int→Option (List AV)
 | .ints k n l::rest,o,m,l'=>if o=0∧n=m then some (.ints k n l'::rest)else if o+m≤n∧0<m then some (.ints k n (l.take o++l'++l.drop (o+m))::rest)else if o<n∨o=0 then none else(gM rest (o-n) m l').map (.ints k n l::·)
 |s::rest,o,m,l'=>if o<ssize s then none else(gM rest (o-ssize s) m l').map (s::·)
 | [],_,_,_=>none
def eC (P:Program)(h:Hp)(t:TypeId)(a:AV):Option AV :=
 match a with
 | .ptr b o=>(bx h b).bind fun l=>il P t l o
 | .ptri b o n i m =>
  (bx h b).bind fun l=>(gG l o n).bind fun (k,xs) =>
   if ct P t then(if bW P t=some m then some (.agg [.ints k m ((xs.drop i.toNat).take m)])else none)
   else if m=0∨(P.underlying t).isNone then none else some (.int k (xs.getD i.toNat 0))
 | .ptrf v=>il P t (bf v) 0
 |_=>none
def fM (h:Hp)(b:Nat)(l:List AV):Hp:={ h with heap:=h.heap.set b l }
def MC (P:Program)(t:TypeId)(v:AV):Bool:=match v with
 | .agg []=>bW P t==some 0
 |_=>false
def kT (P:Program)(h:Hp)(t:TypeId)(a v:AV):Option Hp :=
 match a with
 | .ptr b o =>
  if MC P t v then some h else
  (if h.lo≤b then bx h b else none).bind fun l =>
   if storable v&&0<jg v&&some (jg v)==bW P t then(mP l o (bf v)).map (fM h b)else none
 | .ptri b o n i m =>
  (if h.lo≤b then bx h b else none).bind fun l=>(gG l o n).bind fun (k,xs) =>
   match v with
   | .int k' x=>if k=k'∧bW P t=some 1∧0<m then(gM l o n (xs.set i.toNat x)).map (fM h b)else none
   | .bj k' x=>if k=k'∧bW P t=some 1∧0<m then(gM l o n (xs.set i.toNat x)).map (fM h b)else none
   | .agg [.ints k' m' ys]=>if k=k'∧m'=m∧bW P t=some m then(gM l o n (xs.take i.toNat++ys++xs.drop (i.toNat+m))).map (fM h b)else none
   |_=>none
 |_=>none
def jL {α:Type}(i:Int)(f:Nat→Tr α):Nat→Nat→Tr α
 | 0,_=>.fail
 |n+1,j=>.br (i==(j:Int)) (f j) (jL i f n (j+1))
def idxOf:AV→Option (Bool×Int)
 | .bj _ n=>some (true,n)
 | .int _ n=>some (false,n)
 | .u64 n=>some (false,(n.toNat:Int))
 |_=>none
def acL (P:Program)(e:TypeId):Bool :=
 match lJ P 12 e with
 |some [.bj ..] |some [.ints ..]=>true
 |_=>false
def scale (m:Nat)(i:Int):Int:=if m=1 then i else i*m
def iO (P:Program)(n:Nat)(e:TypeId)(m:Nat)(x:AV)(i:Nat):Option AV :=
 match x with
 | .ptr b o=>some (.ptr b (o+i*m))
 | .ptri b o n' i' m'=>if m'=n*m then some (.ptri b o n' (i'+scale m i) m)else none
 | .ptrf v=>(il P e (bf v) (i*m)).map .ptrf
 |_=>none
def uH (P:Program)(n:Nat)(e:TypeId)(x ix:AV):Tr AV :=
 match bW P e,idxOf ix with
 |some m,some (true,i)=>if 0≤i∧i<n then Tr.opt (iO P n e m x i.toNat)else .fail
 |some m,some (false,i) =>
  .guard (decide (0≤i)&&decide (i<n)) <|
   match x with
   | .ptr b o=>if acL P e then .ret (.ptri b o (n*m) (scale m i) m)else jL i (fun j=>Tr.opt (iO P n e m x j)) n 0
   | .ptri b o n' i' m'=>if m'=n*m then .ret (.ptri b o n' (i'+scale m i) m)else .fail
   | .ptrf v =>
    match ct P e,(P.underlying e).isSome,bf v with
    |false,true,[.ints k n' l]=>if m=1∧n'=n then .ret (.ptrf (.int k (l.getD i.toNat 0)))else .fail
    |_,_,_=>jL i (fun j=>Tr.opt (iO P n e m x j)) n 0
   |_=>.fail
 |_,_=>.fail
instance (e:ET):Inhabited e.T:=match e with
 | .i _=>⟨(0:Int)⟩ | .u64=>⟨(0:BitVec 64)⟩ | .str=>⟨([]:List UInt8)⟩ | .mv=>⟨(default:Mv)⟩ | .pos=>⟨(default:Pos)⟩
def EA (P:Program)(t:TypeId)(x ix:AV):Tr AV :=
 match P.underlying t,x with
 |some (.array n e),x=>uH P n e x ix
 |some (.slice t'),.list e l _ =>
  match idxOf ix with
  |some (_,i)=>if bW P t'=some (lF e)then .guard (decide (0≤i)&&decide (i<l.length)) (.ret (.ptrf (enc _ (l.getD i.toNat default))))else .fail
  |none=>.fail
 |some (.slice t'),.vlist _ l =>
  match bW P t' with
  |some m =>
   if 0<m∧l.all (fun v=>storable v&&jg v==m)=true then
    match idxOf ix with
    |some (true,i)=>if 0≤i then Tr.opt ((l[i.toNat]?).map .ptrf)else .fail
    |some (false,i)=>.guard (decide (0≤i)&&decide (i<l.length)) (jL i (fun j=>Tr.opt ((l[j]?).map .ptrf)) l.length 0)
    |none=>.fail
   else .fail
  |none=>.fail
 |some (.slice t'),.vany _ l =>
  match bW P t' with
  |some m =>
   if 0<m∧l.all (fun v=>storable v&&jg v==m)=true then
    match idxOf ix with
    |some (true,i)=>if 0≤i then Tr.opt ((l[i.toNat]?).map .ptrf)else .fail
    |some (false,i)=>.guard (decide (0≤i)&&decide (i<l.length)) (jL i (fun j=>Tr.opt ((l[j]?).map .ptrf)) l.length 0)
    |none=>.fail
   else .fail
  |none=>.fail
 |some (.slice e),.vsl b o n =>
  match bW P e,idxOf ix with
  |some 1,some (_,i)=>.guard (decide (0≤i)&&decide (i<n)) (.ret (.ptri b o n i 1))
  |_,_=>.fail
 |_,_=>.fail
def El (P:Program)(t:TypeId)(x ix:AV):Tr AV :=
 match P.underlying t,x,idxOf ix with
 |some (.array n e),.agg l,some (true,i) =>
  match bW P e with
  |some m=>if 0≤i∧i<n then Tr.opt (il P e l (i.toNat*m))else .fail
  |none=>.fail
 |some (.array n e),.agg l,some (false,i) =>
  match bW P e with
  |some m =>
   .guard (decide (0≤i)&&decide (i<n)) <|
    match ct P e,(P.underlying e).isSome,l with
    |false,true,[.ints k n' l]=>if m=1∧n'=n then .ret (.int k (l.getD i.toNat 0))else .fail
    |true,true,[.ints k n' l]=>if n'=n*m then .ret (.agg [.ints k m ((l.drop (i.toNat*m)).take m)])else .fail
    |_,_,_=>jL i (fun j=>Tr.opt (il P e l (j*m))) n 0
  |none=>.fail
 |some .string,.str s,some (_,i) =>
  .guard (decide (0≤i)&&decide (i<s.length)) (.ret (.int .u8 (((s[i.toNat]?).getD 0).toNat:Int)))
 |_,_,_=>.fail
def qH (n:Nat)(lo hi:Option AV):Option (Bool×Nat×Nat) :=
 match lo.map idxOf,hi.map idxOf with
 |none,none=>some (true,0,n)
 |some (some (_,l)),none=>some (decide (0≤l)&&decide (l≤n),l.toNat,n)
 |none,some (some (_,h))=>some (decide (0≤h)&&decide (h≤n),0,h.toNat)
 |some (some (_,l)),some (some (_,h))=>some (decide (0≤l)&&decide (l≤h)&&decide (h≤n),l.toNat,h.toNat)
 |_,_=>none
def ES (P:Program)(t:TypeId)(x:AV)(lo hi:Option AV):Tr AV :=
 match P.underlying t,x with
 |some .string,.str s =>
  match qH s.length lo hi with
  |some (ok,l,h)=>.guard ok (.ret (.str ((s.take h).drop l)))
  |none=>.fail
 |some (.slice _),.list e s k =>
  match qH s.length lo hi,dg P t with
  |some (ok,l,h),some e'=>if e'=e then .guard ok (.ret (.list e ((s.take h).drop l) k.res))else .fail
  |_,_=>.fail
 |some (.array n e),.ptr b o=>if lo.isNone&&hi.isNone&&bW P e=some 1 then .ret (.vsl b o n)else .fail
 |_,_=>.fail
def j4 (place:Nat→Option (Nat×Nat)):List AV→List (Nat×AV)→Option (List AV)
 |l,[]=>some l
 |l,(i,v)::rest =>
  (place i).bind fun (o,m) =>
   if storable v&&0<jg v&&jg v==m then(mP l o (bf v)).bind fun l'=>j4 place l' rest else none
def Fu (P:Program)(t:TypeId)(parts:List (Nat×AV)):Option AV :=
 (oa P t).bind fun z =>
  match P.underlying t with
  |some (.struct fs)=>if fs.toList.all (fun f=>(bW P f.type).isSome)then(j4 (fun i=>(fs[i]?).bind fun f=>(bW P f.type).map fun m=>(f.offset,m)) z parts).map .agg else none
  |some (.array _ e)=>(bW P e).bind fun m=>(j4 (fun i=>some (i*m,m)) z parts).map .agg
  |_=>none
def mz:List AV→List (Nat×AV)→Option (List AV)
 |l,[]=>some l
 |l,(i,v)::rest=>if i<l.length&&storable v then mz (l.set i v) rest else none
def valOf (P:Program)(t:TypeId)(l:List AV):Option AV :=
 if ct P t then some (.agg l)else match l with | [v]=>some v|_=>none
def mq (P:Program)(t:TypeId)(n:Nat)(parts:List (Nat×AV)):Option AV :=
 match P.underlying t with
 |some (.slice e) =>
  (oa P e).bind fun z=>(valOf P e z).bind fun v=>(bW P e).bind fun m =>
   if n*m≤4096&&0<m&&storable v&&jg v==m&&parts.all (fun p=>jg p.2==m)then(mz (List.replicate n v) parts).map (.vlist true)else none
 |_=>none
def IT (P:Program)(t:TypeId):Option ET:=if t=tyB then match P.underlying t with
 |some (.struct fs)=>match fs.toList with
  | [a,b]=>match P.underlying a.type with
   |some (.pointer u)=>if u=t then dg P b.type else none
   |_=>none
  |_=>none
 |_=>none else none
def cT (P:Program)(h:Hp)(t:TypeId)(l:List AV):Hp×AV :=
 match l,dg P t,IT P t with
 | [.nilsl],some e,_=>({ h with heap:=h.heap++[[.list e [] (.own h.ag.length)]],ag:=h.ag++[0] },.ptr h.heap.length 0)
 | [.nilptr,.nilsl],_,some e=>({ h with heap:=h.heap++[[.slf h.heap.length,.list e [] (.own h.ag.length)]],ag:=h.ag++[0] },.ptr h.heap.length 0)
 |_,_,_=>({ h with heap:=h.heap++[l] },.ptr h.heap.length 0)
def iK (P:Program)(h:Hp)(t:TypeId)(isNil:Bool)(v:AV):Hp×AV :=
 match isNil,dg P t with
 |true,some e=>({ h with ag:=h.ag++[0] },.list e [] (.own h.ag.length))
 |_,_=>(h,v)
def fJ (e:ET):AV→Option (List e.T)
 | .list e' l _=>if h:e'=e then some (h ▸ l)else none
 | .vlist _ l=>kZ e l
 | .nilsl=>some []
 |_=>none
def ub (n:Int):UInt8:=UInt8.ofNat n.toNat
def uz (x:UInt8):Int:=(x.toNat:Int)
def qD (P:Program)(s d:TypeId):Bool:=match P.underlying s,P.underlying d with
 |some (.slice e),some .string=>match P.underlying e with
  |some (.int .u8)=>true
  |_=>false
 |_,_=>false
def conv (P:Program)(s d:TypeId)(x:AV):Tr AV:=match qD P s d with
 |true=>match fJ (.i .u8) x with
  |some l=>.ret (.str (List.map ub l))
  |none=>.fail
 |false=>Mf P s d x
def jx (h:Hp)(e:ET)(s x:AV):Tr eG :=
 match s,fJ e x with
 | .list e' l (.own k),some xs =>
  if he:e'=e then
   (if h.tO≤k∧k<h.ag.length then
    .guard (h.ag.getD k 0==l.length&&decide (l.length+xs.length≤qI))
     (.ret (.val (.list e ((he ▸ l)++xs) (.own k)) { h with ag:=h.ag.set k ((he ▸ l)++xs).length }))
   else .fail)
  else .fail
 | .nilsl,some xs=>.guard (decide (xs.length≤qI)) (.ret (.val (.list e xs (.own h.ag.length)) { h with ag:=h.ag++[xs.length] }))
 | .vlist _ l,some (x::xs) =>
  match kZ e l with
  |some ys=>.guard (decide (ys.length+(x::xs).length≤qI)) (.ret (.val (.list e (ys++x::xs) (.own h.ag.length)) { h with ag:=h.ag++[ys.length+(x::xs).length] }))
  |none=>.fail
 |_,_=>.fail
def zT (P:Program)(h:Hp)(t:TypeId)(s x:AV):Tr eG :=
 match s,x,P.underlying t with
 | .vlist _ l,.vlist _ xs,some (.slice el) =>
  match P.info? el with
  |some i =>
   if i.zero.map (·.cells.size)=some 1∧i.size=1∧0<i.bytes∧i.bytes≤131072∧(l.all fun a=>cX (bf a)==1)=true∧(xs.all fun a=>cX (bf a)==1)=true∧0<l.length∧0<xs.length∧l.length+xs.length≤4000 then
    (if xs.length=1 then .ret (.val (.vany (.own h.ag.length) (l++xs)) { h with ag:=(h.ag++[0]).set h.ag.length (l.length+xs.length) })
    else .ret (.val (.vany .fresh (l++xs)) { h with ag:=(h.ag++[0]).set h.ag.length 4096 }))else .fail
  |none=>.fail
 | .vany (.own k) l,.vlist _ xs,some (.slice el) =>
  match P.info? el with
  |some i =>
   if i.zero.map (·.cells.size)=some 1∧i.size=1∧0<i.bytes∧i.bytes≤131072∧(l.all fun a=>cX (bf a)==1)=true∧(xs.all fun a=>cX (bf a)==1)=true∧0<l.length∧0<xs.length∧l.length+xs.length≤4000 then
    (if h.tO≤k∧h.ag[k]?=some l.length then .ret (.val (.vany .fresh (l++xs)) { h with ag:=h.ag.set k 4096 })else .fail)else .fail
  |none=>.fail
 |_,_,_=>.fail
def y5 (b:List UInt8):AV := .list (.i .u8) (b.map uz) .arg
def D3 (P:Program)(t:TypeId):Bool:=match P.underlying t with
 |some .string=>true
 |_=>false
def IF (d:TypeDesc)(x:AV):Option AV :=
 match d,x with
 | .slice _,.list _ l _=>some (.int .i64 l.length)
 | .slice _,.vlist _ l=>some (.bj .i64 l.length)
 | .slice _,.vany _ l=>some (.bj .i64 l.length)
 | .slice _,.vsl _ _ n=>some (.bj .i64 n)
 | .slice _,.nilsl=>some (.bj .i64 0)
 | .string,.str s=>some (.int .i64 s.length)
 | .array n _,_=>some (.bj .i64 n)
 |_,_=>none
def vp (isMax:Bool)(x y:AV):Option AV :=
 match Ov x,Ov y with
 |some (c,k,a),some (c',k',b)=>if k=k' then some (Xs (c&&c') k (if isMax then(if b>a then b else a)else(if b<a then b else a)))else none
 |_,_=>none
def nD (isMax:Bool):AV→List AV→Option AV
 |x,[]=>some x
 |x,y::rest=>(vp isMax x y).bind fun z=>nD isMax z rest
def Dw (P:Program)(t:TypeId):Bool:=match P.underlying t with
 |some (.interface _)=>false
 |some _=>true
 |none=>false
def Ag (P:Program)(u:TypeId)(v:AV)(t:TypeId):Option AV :=
 if Dw P t&&u==t then some (.tuple [v,.aU true])else none
inductive bL where
 |ret (v:AV) (h:Hp)
 |panic (v:AV) (h:Hp)
structure Env where
 P:Program
 pf:Nat→Bool
 G:Nat→List AV→Tr AV
 kill:Nat→Nat→List Nat
 qi:Nat→Code→Option (St→Tr Out)
 call:Nat→List AV→Hp→Tr bL
 loop:Nat→Code→St→Tr Out
def snap (h:Hp):AV→AV
 | .vsl b o n=>match (bx h b).bind fun l=>gG l o n with
  |some (k,l)=>.list (.i k) l .arg
  |none=>.any
 | .ptr b 0=>match bx h b with
  |some l=>.ptrf (.agg l)
  |none=>.any
 |v=>v
def ji (n:Nat):List eF→Bool
 | []=>true
 |r::rs=>bV n r.tmps&&ji n rs
def hQ (n:Nat):Nat→List (List AV)→Bool
 | 0,_=>true
 |_,[]=>true
 |m+1,b::bs=>bV n b&&hQ n m bs
def gI (n:Nat)(v:AV)(h:Hp):Hp :=
 if aV n v&&hQ n n h.heap&&ji n h.loops then { h with heap:=h.heap.take n }else h
def Io (h:Hp):Hp:={ h with lo:=h.heap.length,tO:=h.ag.length,qJ:=h.loops.length }
def va (E:Env)(quiet:Bool)(h:Hp)(f:Nat)(args:List AV):Tr eG :=
 if E.pf f then
  let as1:=cO true (args.map (snap h))
  if me as1 then(E.G f as1).bind fun v=>.ret (.val v h)else .fail
 else if quiet then(E.call f args (Io h)).bind fun
  | .ret v _=>if aV h.heap.length v then .ret (.val (strip false v) h)else .fail
  | .panic _ _=>.fail
 else(E.call f args h).bind fun
  | .ret v h'=>.ret (.val v (gI h.heap.length v h'))
  | .panic v h'=>.ret (.pan v h')
def aR (tmps:List AV):Operand→AV
 | .tmp t=>tmps.getD t .any
 | .const v=>YU v
 | .func f=>.func f [] []
 | .global _=>.any
def JY (tmps:List AV):Operand→AV
 | .global g=>match vm.lookup g with
  |some (k,l)=>.ptrf (.agg [.ints k l.length l])
  |none=>.any
 |x=>aR tmps x
def AY (s:List UInt8)(n:Int):Int:=((Utf8.decode ⟨s.toArray⟩ n.toNat).1:Int)
def nG (s:List UInt8)(n:Int):Int:=((Utf8.decode ⟨s.toArray⟩ n.toNat).2:Int)
def eV (h:Hp)(l:Nat)(r:eF):Hp:={ h with loops:=h.loops.set l r }
def nJ:List AV→List Nat→List AV→List AV
 |t,p::ps,v::vs=>nJ (t.set p v) ps vs
 |t,_,_=>t
def gL:Operand→Bool
 | .const (.slice none 0 0)=>true
 |_=>false
def yG (l st:Nat)(eN:Option Code)(v:Bool)(s:St):Tr eG :=
 match s.hp.loops[l]? with
 |some r=>.ret (.val (.aU v) (eV s.hp l { r with state:=st,eN:=eN }))
 |none=>.fail
def round (code:Nat→Code→St→Tr Out)(h:Hp)(l:Nat)(args:List AV):Tr eG :=
 match h.loops[l]? with
 |none=>.fail
 |some r =>
  if h.qJ≤l∧args.length=r.params.length then
   (code r.fn r.assign ⟨nJ r.tmps r.params args,h⟩).bind fun
    | .norm s =>
     match s.hp.loops[l]? with
     |none=>.fail
     |some r1 =>
      if r1.state=0 then
       (code r.fn r.body ⟨s.tmps,eV s.hp l { r1 with state:=1 }⟩).bind fun
        | .norm s'=>yG l 0 none true s'
        | .ret s'=>yG l 2 (some .ret) false s'
        | .exit id s'=>yG l 2 (some (.exit id)) false s'
        | .panic _ _=>.fail
      else .fail
    |_=>.fail
  else .fail
def bw (h:Hp)(v:Tr AV):Tr eG:=v.bind fun v=>.ret (.val v h)
def known (kn:List (Nat×Bool)):Operand→Option Bool
 | .tmp t=>kn.lookup t
 |_=>none
def aL (E:Env)(code:Nat→Code→St→Tr Out)(d:Bool)(kn:List (Nat×Bool))(tmps:List AV)(h:Hp)(o:Oper):Tr eG :=
 match o.op with
 | .move x=>.ret (.val (aR tmps x) h)
 | .assign x=>let (h',v):=iK E.P h o.type (gL x) (aR tmps x); .ret (.val v h')
 | .pick c a b =>
  match known kn c with
  |some true=>.ret (.val (aR tmps a) h)
  |some false=>.ret (.val (aR tmps b) h)
  |none =>
   match aR tmps c with
   | .aU true=>.ret (.val (aR tmps a) h)
   | .aU false=>.ret (.val (aR tmps b) h)
   | .bool t=>.br t (.ret (.val (aR tmps a) h)) (.ret (.val (aR tmps b) h))
   |_=>.fail
 | .alloc t=>match oa E.P t with
  |some l=>let (h',v):=cT E.P h t l; .ret (.val v h')
  |none=>.fail
 | .box t x=>if storable (aR tmps x)then(let (h',v):=cT E.P h t (bf (aR tmps x)); .ret (.val v h'))else .fail
 | .build t ps=>bw h (Tr.opt (Fu E.P t (ps.toList.map fun p=>(p.1,aR tmps p.2))))
 | .buildSlice t n ps=>bw h (Tr.opt (mq E.P t n (ps.toList.map fun p=>(p.1,aR tmps p.2))))
 | .load t a=>bw h (Tr.opt (eC E.P h t (aR tmps a)))
 | .store t a x=>match kT E.P h t (aR tmps a) (aR tmps x)with
  |some h'=>.ret (.val .undef h')
  |none=>.fail
 | .nilCheck x=>match aR tmps x with
  | .ptr b f=>.ret (.val (.ptr b f) h)
  | .ptri b f n i m=>.ret (.val (.ptri b f n i m) h)
  | .ptrf v=>.ret (.val (.ptrf v) h)
  | .func f a b=>.ret (.val (.func f a b) h)
  |_=>.fail
 | .binOp op t x y _=>bw h (binop E.P (Jd x ||Jd y) op t (aR tmps x) (aR tmps y))
 | .unOp op _ x=>bw h (unop op (aR tmps x))
 | .convert s d x=>bw h (conv E.P s d (aR tmps x))
 | .makeFunc (.func f) a b=>.ret (.val (.func f (a.toList.map (aR tmps)) (b.toList.map (aR tmps))) h)
 | .makeInterface t x=>if Dw E.P t then .ret (.val (.iface t (aR tmps x)) h)else .fail
 | .slice t x lo hi none=>bw h (ES E.P t (aR tmps x) (lo.map (aR tmps)) (hi.map (aR tmps)))
 | .fieldAddr s x f=>match sH E.P s f,aR tmps x with
  |some (d,_),.ptr b o=>.ret (.val (.ptr b (o+d)) h)
  |some (d,t),.ptrf v=>bw h (Tr.opt ((il E.P t (bf v) d).map .ptrf))
  |_,_=>.fail
 | .field s x f=>match sH E.P s f,aR tmps x with
  |some (d,t),.agg l=>bw h (Tr.opt (il E.P t l d))
  |_,_=>.fail
 | .indexAddr t x i=>bw h (EA E.P t (JY tmps x) (aR tmps i))
 | .index t x i=>bw h (El E.P t (aR tmps x) (aR tmps i))
 | .extract x i=>match aR tmps x with
  | .tuple l=>bw h (Tr.opt l[i]?)
  |_=>.fail
 | .typeAssert x _ t true=>match aR tmps x with
  | .iface u v=>bw h (Tr.opt (Ag E.P u v t))
  |_=>.fail
 | .range t x=>match E.P.underlying t,aR tmps x with
  |some .string,.str s=>.ret (.val (.ptr h.heap.length 0) { h with heap:=h.heap++[[.itr s 0]] })
  |_,_=>.fail
 | .next x true=>match aR tmps x with
  | .ptr b 0=>match h.heap[b]? with
   |some [.itr s n]=>if h.lo≤b then .br (decide (n<s.length)) (.ret (.val (.tuple [.aU true,.int .i64 n,.int .i32 (AY s n)]) (fM h b [.itr s (n+nG s n)]))) (.ret (.val (.tuple [.aU false]) h))else .fail
   |_=>.fail
  |_=>.fail
 | .panic x=>match d,aR tmps x with
  |false,.iface t v=>.ret (.pan (.iface t v) h)
  |_,_=>.fail
 | .call c =>
  match c.callee with
  | .builtin .len=>match c.args.toList.map (aR tmps),c.argTypes.toList with
   | [x],[t]=>bw h (Tr.opt ((E.P.underlying t).bind fun d=>IF d x))
   |_,_=>.fail
  | .builtin .append=>match c.args.toList.map (aR tmps),c.argTypes.toList with
   | [s,x],[t,t']=>match dg E.P t with
    |some e=>if t=t' then jx h e s (snap h x)else match x,D3 E.P t' with
     | .str b,true=>jx h e s (y5 b)
     |_,_=>.fail
    |none=>if t=t' then zT E.P h t s x else .fail
   |_,_=>.fail
  | .builtin .max=>match c.args.toList.map (aR tmps)with
   |x::rest=>bw h (Tr.opt (nD true x rest))
   |_=>.fail
  | .builtin .min=>match c.args.toList.map (aR tmps)with
   |x::rest=>bw h (Tr.opt (nD false x rest))
   |_=>.fail
  | .value f =>
   match aR tmps f with
   | .func g a b=>va E d h g (a++c.args.toList.map (aR tmps)++b)
   | .yield l=>if d then .fail else round code h l (c.args.toList.map (aR tmps))
   |_=>.fail
  |_=>.fail
 |_=>.fail
def bN (tmps:List AV)(d:Option Nat)(v:AV):List AV :=
 match d with
 |some d=>tmps.set d v
 |none=>tmps
def Cu (kn:List (Nat×Bool))(d:Option Nat):List (Nat×Bool) :=
 match d with
 |some d=>kn.filter (fun p=>p.1 != d)
 |none=>kn
def lD (E:Env)(code:Nat→Code→St→Tr Out)(d:Bool)(ops:Array Oper):List Oper→List (Nat×Bool)→St→Tr Out
 | [],_,s=>.ret (.norm s)
 |o::rest,kn,s =>
  let go (kn:List (Nat×Bool)):Tr Out:=(aL E code d kn s.tmps s.hp o).bind fun
   | .val v h=>lD E code d ops rest (Cu kn o.dst) ⟨bN s.tmps o.dst v,h⟩
   | .pan v h=>if d then .fail else .ret (.panic v h)
  let no (kn:List (Nat×Bool)):Tr Out:=lD E code d ops rest (Cu kn o.dst) ⟨bN s.tmps o.dst .undef,s.hp⟩
  match o.guard with
  |none=>go kn
  |some (j,want) =>
   match (ops[j]?).bind (·.dst)with
   |none=>.fail
   |some t =>
    match kn.lookup t with
    |some b=>if b==want then go kn else no kn
    |none =>
     match s.tmps.getD t .any with
     | .aU b=>if b==want then go kn else no kn
     | .undef=>no kn
     | .bool b=>if want then .br b (go ((t,true)::kn)) (no ((t,false)::kn))else .br b (no ((t,true)::kn)) (go ((t,false)::kn))
     |_=>.fail
def cls (o:Oper):Nat :=
 match o.op with
 | .assign x=>if gL x then 2 else 0
 | .alloc _ | .box .. | .store .. | .range .. | .next .. => 2
 | .load .. => 1
 | .panic _=>3
 | .call c=>match c.callee with
  | .builtin .append=>2
  | .builtin _=>0
  |_=>1
 |_=>0
def FU (a b:Nat):Bool:=(a==2&&b != 0) ||(b==2&&a != 0) ||a==3 ||b==3
def zP (o:Oper):Bool:=match o.op with
 | .load .. => true
 |_=>false
def AU (o:Oper):Bool:=match o.op with
 | .alloc _=>true
 |_=>false
def tC (pf:Nat→Bool)(o:Oper):Bool:=match o.op with
 | .call c=>match c.callee with
  | .value (.func f)=>pf f
  |_=>false
 |_=>false
def eZ (pf:Nat→Bool)(p o:Oper):Bool:=FU (cls p) (cls o)&&!((zP p ||tC pf p)&&AU o)
def aY (ops:Array Oper):Nat→Nat→Nat→Bool
 | 0,_,_=>false
 |n+1,j,i=>match ops[j]? with
  |some o=>(o.after.any fun e=>e.on==i&&Region.binds .any e) ||o.after.any fun e=>Region.binds .any e&&aY ops n e.on i
  |none=>false
def nU:AV→Option Nat
 | .ptr b _ | .ptri b .. => some b
 |_=>none
def addrOf (o:Oper):Option (Bool×Nat):=match o.op with
 | .load _ (.tmp t)=>some (true,t)
 | .store _ (.tmp t) _=>some (false,t)
 |_=>none
def alias (ops:Array Oper)(fin:List AV)(i j:Nat)(p o:Oper):Bool :=
 match addrOf p,addrOf o with
 |some (x,t),some (y,u) =>
  x != y&&(match nU (fin.getD t .any),nU (fin.getD u .any)with
   |some b,some c=>b != c
   |_,_=>false)&&ops.toList.zipIdx.all fun (q,k)=>(q.dst != some t ||decide (k<i))&&(q.dst != some u ||(decide (k<j)&&aY ops 6 j k))
 |_,_=>false
def jP (pf:Nat→Bool)(ops:Array Oper)(fin:Option (List AV)):Bool :=
 let l:=ops.toList.zipIdx
 l.all fun (o,j)=>(!(o.op matches .select ..))&&(o.after.all fun e => !Region.binds .any e ||decide (e.on<j))&&l.all fun (p,i) => !(i<j) ||aY ops 1 j i ||(p.apart ops o&&!eZ pf p o) ||aY ops 6 j i ||(match fin with
  |some f=>p.apart ops o&&alias ops f i j p o
  |none=>false)
mutual
def free (N:Nat):AV→Bool
 | .ptr b _ | .ptri b .. | .vsl b .. | .slf b => !(Nat.beq b N ||Nat.beq b (N+1))
 | .agg l | .vlist _ l | .vany _ l | .tuple l=>gH N l
 | .ptrf v | .iface _ v=>free N v
 | .func _ a b=>gH N a&&gH N b
 |_=>true
def gH (N:Nat):List AV→Bool
 | []=>true
 |v::l=>free N v&&gH N l
end
def Cg (N:Nat)(h:Hp):Bool:=h.heap.all (gH N)&&h.loops.isEmpty
def F0 (ops:Array Oper)(i:Nat):Option (TypeId×Nat×Nat) :=
 match ops[i]?,ops[i+1]? with
 |some o,some p=>match o.op,p.op,o.guard,p.guard,o.dst,p.dst with
  | .alloc t,.alloc u,none,none,some a,some b=>if t=u∧a≠b then some (t,a,b)else none
  |_,_,_,_,_,_=>none
 |_,_=>none
def y4 (pf:Nat→Bool)(ops:Array Oper)(i0:Nat):Bool :=
 let l:=ops.toList.zipIdx
 l.all fun (o,j)=>(o.after.all fun e => !Region.binds .any e ||decide (e.on<j))&&l.all fun (p,i) => !(i<j) ||(Nat.beq i i0&&Nat.beq j (i0+1)) ||aY ops 6 j i ||(p.apart ops o&&!eZ pf p o)
def G6 (E:Env)(ops:Array Oper)(i0:Nat)(s s':St):Bool :=
 match F0 ops i0,ops[i0+1]? with
 |some (t,a,b),some p=>((dg E.P t).isNone&&(IT E.P t).isNone)&&y4 E.pf ops i0&&(p.after.all fun e => !Region.binds .any e || !Nat.beq e.on i0) &&
  ((ops.toList.take i0).all fun q=>decide (cls q≤1))&&((ops.toList.drop (i0+2)).all fun q=>q.dst.isNone) &&
  ((List.range ops.size).all fun j=>decide (j<i0+2) ||(List.range (i0+2)).all fun i=>aY ops 6 j i) &&
  Cg s.hp.heap.length s.hp&&((oa E.P t).all fun l=>gH s.hp.heap.length l)&&(s'.tmps.zipIdx.all fun (v,i)=>Nat.beq i a ||Nat.beq i b ||free s.hp.heap.length v)
 |_,_=>false
def pK (E:Env)(ops:Array Oper)(s s':St):Bool :=
 match (List.range ops.size).find? fun i=>(F0 ops i).isSome with
 |some i=>G6 E ops i s s'
 |none=>false
def ml:Nat→List AV→List Nat→List AV
 |_,[],_=>[]
 |_,a::l,[]=>a::l
 |i,a::l,t::ts=>bif Nat.beq i t then .any::ml (i+1) l ts else a::ml (i+1) l (t::ts)
def Bj (tmps:List AV)(ts:List Nat):List AV:=ml 0 tmps ts
def dK (pf:Nat→Bool)(o:Oper):Bool:=match o.op with
 | .call c=>match c.callee with
  | .builtin _=>false
  | .value (.func f) => !pf f
  |_=>true
 |_=>false
def H9 (ops:Array Oper)(i:Nat)(p:Oper):Bool:=p.guard.isNone&&(cls p==0 ||match p.op with
 | .load _ (.tmp u)=>ops.toList.zipIdx.all fun (q,k)=>q.dst != some u ||decide (k<i)
 |_=>false)
def A5 (pf:Nat→Bool)(ops:Array Oper):Bool :=
 let l:=ops.toList.zipIdx
 l.all fun (o,j)=>(o.after.all fun e => !Region.binds .any e ||decide (e.on<j))&&l.all fun (p,i) => !(i<j) ||aY ops 1 j i ||aY ops 5 j i ||
  (!dK pf p&&p.apart ops o&&bif dK pf o then H9 ops i p else !eZ pf p o)
def eqA:AV→AV→Bool
 | .bool a,.bool b=>a==b
 | .aU a,.aU b=>a==b
 | .int k a,.int k' b=>k==k'&&a==b
 | .bj k a,.bj k' b=>k==k'&&a==b
 | .u64 a,.u64 b=>a==b
 | .str a,.str b=>a==b
 | .ints k n a,.ints k' n' b=>k==k'&&(n==n'&&a==b)
 | .ptr a n,.ptr b m=>a==b&&n==m
 | .nilptr,.nilptr=>true
 | .nilsl,.nilsl=>true
 |_,_=>false
def U4:List AV→List AV→Bool
 | [],[]=>true
 |a::l,b::m=>eqA a b&&U4 l m
 |_,_=>false
def A4 (h h':Hp):AV→Bool
 | .ptr b _ | .ptri b .. => match bx h b,bx h' b with
  |some l,some l'=>U4 l l'
  |_,_=>false
 | .ptrf _=>true
 |_=>false
def vY (pf:Nat→Bool)(ops:Array Oper)(j:Nat)(s:St)(h:Hp):Bool :=
 (ops.toList.take j).zipIdx.all fun (p,i)=>dK pf p ||aY ops 1 j i ||aY ops 5 j i ||match p.op with
  | .load _ (.tmp u)=>A4 s.hp h (s.tmps.getD u .any)
  |_=>true
def opsOf (ops:Array Oper)(l:List Nat):List Oper:=l.filterMap fun i=>ops[i]?
def uY (E:Env)(code:Nat→Code→St→Tr Out)(ops:Array Oper):List Nat→List Nat→St→Tr Out
 | [],acc,s=>lD E code true ops (opsOf ops acc.reverse) [] s
 |j::rest,acc,s =>
  match ops[j]? with
  |none=>.fail
  |some o =>
   match dK E.pf o with
   |false=>uY E code ops rest (j::acc) s
   |true=>(lD E code true ops (opsOf ops acc.reverse) [] s).bind fun
    | .norm s1=>match o.guard with
     |some _=>.fail
     |none=>(aL E code false [] s1.tmps s1.hp o).bind fun
      | .val v h=>.br (vY E.pf ops j s1 h) (uY E code ops rest [] ⟨bN s1.tmps o.dst v,h⟩) .fail
      | .pan v h=>.ret (.panic v h)
    |_=>.fail
def nH (E:Env)(code:Nat→Code→St→Tr Out)(fn id:Nat)(ops:Array Oper)(draw:Bool)(s:St):Tr Out :=
 if draw&&!E.P.follows .mixedOrders then .fail else
 (lD E code draw ops ops.toList [] s).bind fun
  | .norm s'=>if draw&&!(jP E.pf ops none ||jP E.pf ops (some s'.tmps) ||pK E ops s s')then .fail else .ret (.norm ⟨Bj s'.tmps (E.kill fn id),s'.hp⟩)
  |o=>.ret o
def zp (E:Env)(code:Nat→Code→St→Tr Out)(fn id:Nat)(ops:Array Oper)(s:St):Tr Out :=
 if !E.P.follows .mixedOrders || !A5 E.pf ops then .fail else
 (uY E code ops (List.range ops.size) [] s).bind fun
  | .norm s'=>.ret (.norm ⟨Bj s'.tmps (E.kill fn id),s'.hp⟩)
  |o=>.ret o
def mS (E:Env)(code:Nat→Code→St→Tr Out)(fn id:Nat)(ops:Array Oper)(draw:Bool)(s:St):Tr Out :=
 match draw with
 |false=>nH E code fn id ops false s
 |true=>match nH E code fn id ops true s with
  | .fail=>zp E code fn id ops s
  |t=>t
def toCode:Option Code→St→Tr Out
 |none,s=>.ret (.norm s)
 |some .ret,s=>.ret (.ret s)
 |some (.exit id),s=>.ret (.exit id s)
 |_,_=>.fail
def n9 (E:Env)(code:Nat→Code→St→Tr Out)(fn:Nat):Code→St→Tr Out
 | .skip,s=>.ret (.norm s)
 | .region id ops draw,s=>mS E code fn id ops draw s
 | .seq a b,s=>(n9 E code fn a s).bind fun
  | .norm s'=>n9 E code fn b s'
  |o=>.ret o
 | .cond c a b,s =>
  match aR s.tmps c with
  | .aU true=>n9 E code fn a s
  | .aU false=>n9 E code fn b s
  | .bool t=>.br t (n9 E code fn a s) (n9 E code fn b s)
  |_=>.fail
 | .block id b,s=>(n9 E code fn b s).bind fun
  | .exit j s'=>if j==id then .ret (.norm s')else .ret (.exit j s')
  |o=>.ret o
 | .loop b,s =>
  match E.qi fn b with
  |some F=>F s
  |none=>(n9 E code fn b s).bind fun
   | .norm s'=>E.loop fn (.loop b) s'
   |o=>.ret o
 | .rangeFunc f ps as1 b,s =>
  match aR s.tmps f with
  | .func g x y =>
   let l:=s.hp.loops.length
   let h:={ s.hp with loops:=s.hp.loops++[{ state:=0,eN:=none,fn:=fn,tmps:=s.tmps,params:=ps.toList,assign:=as1,body:=b }] }
   if E.pf g then .fail else
   (E.call g (x++[.yield l]++y) h).bind fun
    | .ret _ h'=>match h'.loops[l]? with
     |some r=>if r.state≠1 then toCode r.eN ⟨s.tmps,eV h' l { r with state:=3 }⟩else .fail
     |none=>.fail
    | .panic v h'=>.ret (.panic v h')
  |_=>.fail
 | .exit id,s=>.ret (.exit id s)
 | .label _,s=>.ret (.norm s)
 | .scope b,s=>n9 E code fn b s
 | .ret,s=>.ret (.ret s)
 |_,_=>.fail
def hU (P:Program)(h:Hp)(tmps:List AV):List ResultVar→Option (List AV)
 | []=>some []
 | .tmp t::rest=>(hU P h tmps rest).map (tmps.getD t .any::·)
 | .cell a t::rest=>(eC P h t (tmps.getD a .any)).bind fun v=>(hU P h tmps rest).map (v::·)
def oneOf:List AV→AV
 | [v]=>v
 |l=>.tuple l
def finish (P:Program)(fn:Func)(s:St):Tr bL :=
 match hU P s.hp s.tmps fn.results.toList with
 |some l=>.ret (.ret (oneOf l) s.hp)
 |none=>.fail
def vQ (E:Env)(code:Nat→Code→St→Tr Out):Code→St→Tr Out
 | .skip,s=>.ret (.norm s)
 | .region id ops draw,s=>mS { E with kill:=fun _ _=>[] } code 0 id ops draw s
 | .seq a b,s=>(vQ E code a s).bind fun
  | .norm s'=>vQ E code b s'
  |o=>.ret o
 | .cond c a b,s =>
  match aR s.tmps c with
  | .aU true=>vQ E code a s
  | .aU false=>vQ E code b s
  | .bool t=>.br t (vQ E code a s) (vQ E code b s)
  |_=>.fail
 | .block id b,s=>(vQ E code b s).bind fun
  | .exit j s'=>if j==id then .ret (.norm s')else .ret (.exit j s')
  |o=>.ret o
 | .exit id,s=>.ret (.exit id s)
 | .ret,s=>.ret (.ret s)
 |_,_=>.fail
def Mj:Nat:=1000000007
def wF (E:Env)(code:Nat→Code→St→Tr Out)(ops:Array Oper):List Oper→St→Tr Out
 | [],s=>.ret (.norm s)
 |o::os,s=>(lD E code false ops [o] [] s).bind fun
  | .norm s'=>wF E code ops os s'
  | .panic v h=>.ret (.exit Mj ⟨v::s.tmps,h⟩)
  |_=>.fail
def zA (E:Env)(code:Nat→Code→St→Tr Out):Code→St→Tr Out
 | .skip,s=>.ret (.norm s)
 | .region _ ops false,s=>wF E code ops ops.toList s
 | .seq a b,s=>(zA E code a s).bind fun
  | .norm s'=>zA E code b s'
  |o=>.ret o
 | .cond c a b,s =>
  match aR s.tmps c with
  | .aU true=>zA E code a s
  | .aU false=>zA E code b s
  | .bool t=>.br t (zA E code a s) (zA E code b s)
  |_=>.fail
 | .block id b,s=>(zA E code b s).bind fun
  | .exit j s'=>if j==Mj then .ret (.exit j s')else if j==id then .ret (.norm s')else .ret (.exit j s')
  |o=>.ret o
 | .exit id,s=>if id==Mj then .fail else .ret (.exit id s)
 | .ret,s=>.ret (.ret s)
 |_,_=>.fail
def pN (ops:Array Oper):Option Nat :=
 match ops.toList.getLast? with
 |some o=>match o.op,o.guard,o.dst with
  | .defer c,none,none=>match c.callee with
   | .value (.tmp u)=>if c.args.size=0 then some u else none
   |_=>none
  |_,_,_=>none
 |none=>none
def defers:Code→Bool
 | .seq (.region _ ops false) b=>(pN ops).isSome ||defers b
 | .seq _ b=>defers b
 |_=>false
def FY (l:List AV):List Oper→Option (List AV)
 | []=>some l
 | [p]=>match p.op,p.guard with
  | .assign x,none=>some (bN l p.dst (aR l x))
  |_,_=>none
 |_=>none
def mH (E:Env)(code:Nat→Code→St→Tr Out)(fd:Nat)(cv:List AV)(r:AV)(h:Hp):Tr Hp :=
 match E.P.funcs[fd]? with
 |some fn=>match fn.body with
  |some (.seq (.region _ ops false) rest)=>match ops.toList with
   |o::os=>match o.op,o.guard,o.dst with
    | .call c,none,some t=>match c.callee with
     | .builtin .recover=>if c.args.size=0∧fn.results.size=0 then
       match FY ((cv++List.replicate (fn.ntmps-cv.length) AV.undef).set t r) os with
       |some l=>(vQ E code rest ⟨l,h⟩).bind fun
        | .norm s=>.ret s.hp
        | .ret s=>.ret s.hp
        |_=>.fail
       |none=>.fail
      else .fail
     |_=>.fail
    |_,_,_=>.fail
   |_=>.fail
  |_=>.fail
 |none=>.fail
def Ee (E:Env)(code:Nat→Code→St→Tr Out)(f:Nat)(fn:Func)(ops:Array Oper)(u:Nat)(rest:Code)(s:St):Tr bL :=
 (lD E code false ops ops.toList.dropLast [] s).bind fun
 | .norm s2=>match s2.tmps.getD u .any with
  | .func fd [] cv=>(n9 E code f rest s2).bind fun
   | .norm s3=>(mH E code fd cv .niliface s3.hp).bind fun h4=>finish E.P fn ⟨s3.tmps,h4⟩
   | .ret s3=>(mH E code fd cv .niliface s3.hp).bind fun h4=>finish E.P fn ⟨s3.tmps,h4⟩
   | .panic _ _=>(zA E code rest s2).bind fun
    | .exit j ⟨.iface t v::tmps,h3⟩=>if j==Mj then(mH E code fd cv (.iface t v) h3).bind fun h4=>finish E.P fn ⟨tmps,h4⟩else .fail
    |_=>.fail
   |_=>.fail
  |_=>.fail
 |_=>.fail
def kK (E:Env)(code:Nat→Code→St→Tr Out)(f:Nat)(fn:Func):Code→St→Tr bL
 | .seq (.region id ops false) b,s=>match pN ops with
  |some u=>Ee E code f fn ops u b s
  |none=>(vQ E code (.region id ops false) s).bind fun
   | .norm s1=>kK E code f fn b s1
   |_=>.fail
 | .seq a b,s=>(vQ E code a s).bind fun
  | .norm s1=>kK E code f fn b s1
  |_=>.fail
 |_,_=>.fail
def Fg (E:Env)(code:Nat→Code→St→Tr Out)(f:Nat)(args:List AV)(h:Hp):Tr bL :=
 match E.P.funcs[f]? with
 |none=>.fail
 |some fn=>match fn.body with
  |none=>.fail
  |some c=>match defers c with
   |true=>kK E code f fn c ⟨args++List.replicate (fn.ntmps-args.length) .undef,h⟩
   |false =>
    (n9 E code f c ⟨args++List.replicate (fn.ntmps-args.length) .undef,h⟩).bind fun
     | .norm s=>finish E.P fn s
     | .ret s=>finish E.P fn s
     | .panic v h'=>.ret (.panic v h')
     | .exit .. => .fail
structure ar where
 P:Program
 pf:Nat→Bool
 G:Nat→List AV→Tr AV
 kill:Nat→Nat→List Nat
 qi:Nat→Code→Option (St→Tr Out)
 J6:Nat→Option (List AV→Hp→Tr bL)
mutual
def Gs (B:ar):Nat→Nat→List AV→Hp→Tr bL
 | 0,_,_,_=>.fail
 |n+1,f,args,h =>
  match B.J6 f with
  |some F=>F args h
  |none=>Fg { B with call:=Gs B n,loop:=DL B n } (DL B n) f args h
def DL (B:ar):Nat→Nat→Code→St→Tr Out
 | 0,_,_,_=>.fail
 |n+1,fn,c,s=>n9 { B with call:=Gs B n,loop:=DL B n } (DL B n) fn c s
end
def sn:Hp:=⟨[],[],[],0,0,0⟩
def cP (B:ar)(n:Nat)(f:Nat)(args:List AV):Tr AV :=
 (Gs B n f args sn).bind fun
  | .ret v _=>if fO v&&bz v then .ret (strip false v)else .fail
  | .panic _ _=>.fail
end Kz
namespace Kz
open Go Go.RowKit
structure Gh where
 base:Nat
 fz:Nat→Nat→Prop
 vars:List Nat
 own:List (Option (Nat×Nat×Nat))
 loops:List Nat
 defs:List Nat
def At (g:Gh)(w:World)(c o:Nat)(cs:List Value):Prop :=
 ∀j x,cs[j]?=some x→w.cell? ⟨c,o+j,none⟩=some x∧g.fz c (o+j)
def j8 (g:Gh)(w:World)(fresh:Prop)(a:Option Addr)(cs:List Value):Prop :=
 cs=[]∨∃c o,a=some ⟨c,o,none⟩∧At g w c o cs∧(fresh→g.base≤c)
def agL (z:Nat)(len cap:Nat)(a:Option Addr):Option (Nat×Nat×Nat)→Prop
 |none=>a=none∧len=0∧cap=0
 |some (b,cap',z')=>z'=z∧a=some ⟨b,0,none⟩∧cap=cap'
def jI (g:Gh)(tk:List Nat)(z:Nat)(t:Tk)(len cap:Nat)(a:Option Addr):Prop :=
 ∀k,t=.own k→∃n,tk[k]?=some n∧len≤n∧(len=n→∃ow,g.own[k]?=some ow∧agL z len cap a ow)
mutual
inductive aM (g:Gh) (tk:List Nat) (w:World):AV→Value→Prop
 |any (v:Value):aM g tk w .any v
 |undef:aM g tk w .undef Go.undef
 |bool (b:Bool):aM g tk w (.bool b) (.bool b)
 |aU (b:Bool):aM g tk w (.aU b) (.bool b)
 |int (k:IntKind) (n:Int):aM g tk w (.int k n) (.int k n)
 |bj (k:IntKind) (n:Int):aM g tk w (.bj k n) (.int k n)
 |u64 (x:BitVec 64):aM g tk w (.u64 x) (.int .u64 (x.toNat:Int))
 |str {l:List UInt8} {s:ByteArray} (h:s.data.toList=l):aM g tk w (.str l) (.string s)
 |agg {l:List AV} {cs:Array Value} (h:ay g tk w l cs.toList):aM g tk w (.agg l) (.agg cs)
 |ptr {b o c:Nat} (h:g.vars[b]?=some c):aM g tk w (.ptr b o) (.pointer (some ⟨c,o,none⟩))
 |ptri {b o n:Nat} {i:Int} {m c o':Nat} (h:g.vars[b]?=some c) (h0:0≤i) (h1:i.toNat+m≤n) (h2:o'=o+i.toNat):aM g tk w (.ptri b o n i m) (.pointer (some ⟨c,o',none⟩))
 |ptrf {v:AV} {c o:Nat} {cs:List Value} (h:ay g tk w (bf v) cs) (ha:At g w c o cs):aM g tk w (.ptrf v) (.pointer (some ⟨c,o,none⟩))
 |nilptr:aM g tk w .nilptr (.pointer none)
 |slf {b c:Nat} {a:Option Addr} (h:g.vars[b]?=some c) (ha:a=none∨a=some ⟨c,0,none⟩) (hs:w.shape? c=some (tyB,2)):aM g tk w (.slf b) (.pointer a)
 |list {e:ET} {l:List e.T} {t:Tk} {a:Option Addr} {n cap:Nat} {cs:List Value} (hn:n=l.length) (h:bu g tk w (l.map (enc e)) cs) (ha:j8 g w (t≠.arg) a cs)
   (ht:jI g tk (Uk e) t n cap a) (hc:l.length≤cap):aM g tk w (.list e l t) (.slice a n cap)
 |vlist {fr:Bool} {l:List AV} {a:Option Addr} {n cap:Nat} {cs:List Value} (hn:n=l.length) (h:bu g tk w l cs) (ha:j8 g w (fr=true) a cs) (hc:cap=l.length):aM g tk w (.vlist fr l) (.slice a n cap)
 |vany {t:Tk} {l:List AV} {a:Option Addr} {n cap:Nat} {cs:List Value} (hn:n=l.length) (h:bu g tk w l cs) (ha:j8 g w (t≠.arg) a cs) (ht:jI g tk 1 t n cap a) (hc:l.length≤cap):aM g tk w (.vany t l) (.slice a n cap)
 |vsl {b o n c:Nat} (h:g.vars[b]?=some c):aM g tk w (.vsl b o n) (.slice (some ⟨c,o,none⟩) n n)
 |nilsl:aM g tk w .nilsl (.slice none 0 0)
 |func {f:Nat} {a b:List AV} {x y:Array Value} (ha:aI g tk w a x.toList) (hb:aI g tk w b y.toList):aM g tk w (.func f a b) (.func (.func f) x y)
 |yield {l c:Nat} (h:g.loops[l]?=some c):aM g tk w (.yield l) (.func (.yield c) #[] #[])
 |nilfunc:aM g tk w .nilfunc .nilFunc
 |iface {t:Nat} {v:AV} {x:Value} (h:aM g tk w v x):aM g tk w (.iface t v) (.iface t x)
 |niliface:aM g tk w .niliface .nilIface
 |tuple {l:List AV} {vs:Array Value} (h:aI g tk w l vs.toList):aM g tk w (.tuple l) (.tuple vs)
inductive ay (g:Gh) (tk:List Nat) (w:World):List AV→List Value→Prop
 |nil:ay g tk w [] []
 |ints {k:IntKind} {n:Nat} {l:List Int} {rest:List AV} {cs xs:List Value} (hl:l.length=n) (hx:xs=l.map (Value.int k)++cs) (h:ay g tk w rest cs):ay g tk w (.ints k n l::rest) xs
 |one {s:AV} {c:Value} {rest:List AV} {cs:List Value} (hs:aK s=true) (h:aM g tk w s c) (hr:ay g tk w rest cs):ay g tk w (s::rest) (c::cs)
inductive aI (g:Gh) (tk:List Nat) (w:World):List AV→List Value→Prop
 |nil:aI g tk w [] []
 |cons {s:AV} {c:Value} {rest:List AV} {cs:List Value} (h:aM g tk w s c) (hr:aI g tk w rest cs):aI g tk w (s::rest) (c::cs)
inductive bu (g:Gh) (tk:List Nat) (w:World):List AV→List Value→Prop
 |nil:bu g tk w [] []
 |cons {s:AV} {c:List Value} {rest:List AV} {cs xs:List Value} (hs:storable s=true) (hx:xs=c++cs) (h:ay g tk w (bf s) c) (hr:bu g tk w rest cs):bu g tk w (s::rest) xs
end
structure Le (g:Gh)(tk:List Nat)(w:World)(g':Gh)(tk':List Nat)(w':World):Prop where
 base:g'.base=g.base
 below:Below g.base w w'
 fz:∀c o,g.fz c o→g'.fz c o
 cell:∀c o x,g.fz c o→w.cell? ⟨c,o,none⟩=some x→w'.cell? ⟨c,o,none⟩=some x
 vars:∀(i c:Nat),g.vars[i]?=some c→g'.vars[i]?=some c
 loops:∀(i c:Nat),g.loops[i]?=some c→g'.loops[i]?=some c
 defs:∀D,D∈g.defs→D∈g'.defs
 tok:∀(k n:Nat),tk[k]?=some n→∃n',tk'[k]?=some n'∧n≤n'∧(n'=n→g'.own[k]?=g.own[k]?)
 shape:∀(i c:Nat),g.vars[i]?=some c→w'.shape? c=w.shape? c
theorem Le.refl (g:Gh)(tk:List Nat)(w:World):Le g tk w g tk w :=
 ⟨rfl,Below.refl _ _,fun _ _ h=>h,fun _ _ _ _ h=>h,fun _ _ h=>h,fun _ _ h=>h,fun _ h=>h,by simp_all,fun _ _ _=>rfl⟩
theorem Le.trans {g1 g2 g3:Gh}{t1 t2 t3:List Nat}{w1 w2 w3:World}(h:Le g1 t1 w1 g2 t2 w2)(k:Le g2 t2 w2 g3 t3 w3):Le g1 t1 w1 g3 t3 w3 where
 base:=k.base.trans h.base
 below:=h.below.trans (h.base ▸ k.below)
 fz c o x:=k.fz c o (h.fz c o x)
 cell c o x hf hc:=k.cell c o x (h.fz c o hf) (h.cell c o x hf hc)
 vars i c x:=k.vars i c (h.vars i c x)
 loops i c x:=k.loops i c (h.loops i c x)
 defs D x:=k.defs D (h.defs D x)
 shape i c x:=(k.shape i c (h.vars i c x)).trans (h.shape i c x)
 tok j n x:=by
  obtain⟨n',a,b,c⟩:=h.tok j n x
  obtain⟨n'',a',b',c'⟩:=k.tok j n' a
  grind
structure Lw (g:Gh)(tk:List Nat)(w:World)(g':Gh)(tk':List Nat)(w':World):Prop where
 base:g'.base≤g.base
 fz:∀c o,g.fz c o→g'.fz c o
 cell:∀c o x,g.fz c o→w.cell? ⟨c,o,none⟩=some x→w'.cell? ⟨c,o,none⟩=some x
 vars:∀(i c:Nat),g.vars[i]?=some c→g'.vars[i]?=some c
 loops:∀(i c:Nat),g.loops[i]?=some c→g'.loops[i]?=some c
 tok:∀(k n:Nat),tk[k]?=some n→∃n',tk'[k]?=some n'∧n≤n'∧(n'=n→g'.own[k]?=g.own[k]?)
 shape:∀(i c:Nat),g.vars[i]?=some c→w'.shape? c=w.shape? c
theorem Le.lw {g g':Gh}{tk tk':List Nat}{w w':World}(h:Le g tk w g' tk' w'):Lw g tk w g' tk' w' :=
 ⟨Nat.le_of_eq h.base,h.fz,h.cell,h.vars,h.loops,h.tok,h.shape⟩
section mono
variable {g g':Gh}{tk tk':List Nat}{w w':World}
theorem At.bS (hle:Lw g tk w g' tk' w'){c o:Nat}{cs:List Value}(h:At g w c o cs):At g' w' c o cs :=
 fun j x hx=>⟨hle.cell _ _ _ (h j x hx).2 (h j x hx).1,hle.fz _ _ (h j x hx).2⟩
theorem j8.bS (hle:Lw g tk w g' tk' w'){p:Prop}{a:Option Addr}{cs:List Value}(h:j8 g w p a cs):j8 g' w' p a cs:=by
 rcases h with h|⟨c,o,e,h1,h2⟩
 ·exact .inl h
 ·exact .inr ⟨c,o,e,h1.bS hle,fun hp=>Nat.le_trans hle.base (h2 hp)⟩
theorem jI.bS (hle:Lw g tk w g' tk' w'){z:Nat}{t:Tk}{len cap:Nat}{a:Option Addr}(h:jI g tk z t len cap a):jI g' tk' z t len cap a:=by intro k e;obtain⟨n,h1,h2,h3⟩:=h k e;obtain⟨n',k1,k2,k3⟩:=hle.tok k n h1;grind
mutual
theorem aM.bS (hle:Lw g tk w g' tk' w'){a:AV}{v:Value}:aM g tk w a v→aM g' tk' w' a v
 | .any v=>.any v
 | .undef=>.undef
 | .bool b=>.bool b
 | .aU b=>.aU b
 | .int k n=>.int k n
 | .bj k n=>.bj k n
 | .u64 x=>.u64 x
 | .str h=>.str h
 | .agg h=>.agg (ay.bS hle h)
 | .ptr h=>.ptr (hle.vars _ _ h)
 | .ptri h h0 h1 h2=>.ptri (hle.vars _ _ h) h0 h1 h2
 | .slf h ha hs=>.slf (hle.vars _ _ h) ha ((hle.shape _ _ h).trans hs)
 | .ptrf h ha=>.ptrf (ay.bS hle h) (ha.bS hle)
 | .nilptr=>.nilptr
 | .list hn h ha ht hc=>.list hn (bu.bS hle h) (ha.bS hle) (ht.bS hle) hc
 | .vlist hn h ha hc=>.vlist hn (bu.bS hle h) (ha.bS hle) hc
 | .vany hn h ha ht hc=>.vany hn (bu.bS hle h) (ha.bS hle) (ht.bS hle) hc
 | .vsl h=>.vsl (hle.vars _ _ h)
 | .nilsl=>.nilsl
 | .func ha hb=>.func (aI.bS hle ha) (aI.bS hle hb)
 | .yield h=>.yield (hle.loops _ _ h)
 | .nilfunc=>.nilfunc
 | .iface h=>.iface (aM.bS hle h)
 | .niliface=>.niliface
 | .tuple h=>.tuple (aI.bS hle h)
theorem ay.bS (hle:Lw g tk w g' tk' w'){a:List AV}{v:List Value}:ay g tk w a v→ay g' tk' w' a v
 | .nil=>.nil
 | .ints hl hx h=>.ints hl hx (ay.bS hle h)
 | .one hs h hr=>.one hs (aM.bS hle h) (ay.bS hle hr)
theorem aI.bS (hle:Lw g tk w g' tk' w'){a:List AV}{v:List Value}:aI g tk w a v→aI g' tk' w' a v
 | .nil=>.nil
 | .cons h hr=>.cons (aM.bS hle h) (aI.bS hle hr)
theorem bu.bS (hle:Lw g tk w g' tk' w'){a:List AV}{v:List Value}:bu g tk w a v→bu g' tk' w' a v
 | .nil=>.nil
 | .cons hs hx h hr=>.cons hs hx (ay.bS hle h) (bu.bS hle hr)
end
def BO (g:Gh)(tk:List Nat)(w:World)(l:List AV)(o:Obj):Prop :=
 (∃cells ty,o=.cells cells ty (0,0)∧ay g tk w l cells.toList)∨(∃s n bs,l=[.itr s n]∧o=.stringIter bs n.toNat∧bs.data.toList=s∧0≤n)
theorem BO.of {l:List AV}{cells:Array Value}{ty:TypeId}(h:ay g tk w l cells.toList):BO g tk w l (.cells cells ty (0,0)) := .inl ⟨cells,ty,rfl,h⟩
theorem BO.bS (hle:Lw g tk w g' tk' w'){l:List AV}{o:Obj}(h:BO g tk w l o):BO g' tk' w' l o:=h.imp (fun ⟨cs,ty,e,r⟩=>⟨cs,ty,e,r.bS hle⟩) id
theorem BO.mono (hle:Le g tk w g' tk' w'){l:List AV}{o:Obj}(h:BO g tk w l o):BO g' tk' w' l o:=h.bS hle.lw
theorem BO.Hn {l:List AV}{R:Loop}(h:BO g tk w l (.loop R)):False:=by rcases h with⟨_,_,e,_⟩|⟨_,_,_,_,e,_⟩<;>cases e
theorem BO.P3 {l:List AV}{d:Option (List Deferred)}(h:BO g tk w l (.deferred d)):False:=by rcases h with⟨_,_,e,_⟩|⟨_,_,_,_,e,_⟩<;>cases e
theorem BO.rep {l:List AV}{o:Obj}(h:BO g tk w l o)(hn:nY l=some l):∃cells ty,o=.cells cells ty (0,0)∧ay g tk w l cells.toList:=by
 rcases h with h|⟨s,n,bs,rfl,_⟩
 ·exact h
 ·cases hn
theorem At.mono (hle:Le g tk w g' tk' w'){c o:Nat}{cs:List Value}(h:At g w c o cs):At g' w' c o cs:=h.bS hle.lw
theorem j8.mono (hle:Le g tk w g' tk' w'){p:Prop}{a:Option Addr}{cs:List Value}(h:j8 g w p a cs):j8 g' w' p a cs:=h.bS hle.lw
theorem jI.mono (hle:Le g tk w g' tk' w'){z:Nat}{t:Tk}{len cap:Nat}{a:Option Addr}(h:jI g tk z t len cap a):jI g' tk' z t len cap a:=h.bS hle.lw
theorem aM.mono (hle:Le g tk w g' tk' w'){a:AV}{v:Value}(h:aM g tk w a v):aM g' tk' w' a v:=h.bS hle.lw
theorem ay.mono (hle:Le g tk w g' tk' w'){a:List AV}{v:List Value}(h:ay g tk w a v):ay g' tk' w' a v:=h.bS hle.lw
theorem aI.mono (hle:Le g tk w g' tk' w'){a:List AV}{v:List Value}(h:aI g tk w a v):aI g' tk' w' a v:=h.bS hle.lw
theorem bu.mono (hle:Le g tk w g' tk' w'){a:List AV}{v:List Value}(h:bu g tk w a v):bu g' tk' w' a v:=h.bS hle.lw
end mono
section rows
variable {g:Gh}{tk:List Nat}{w:World}
theorem aI.length {l:List AV}{vs:List Value}(h:aI g tk w l vs):l.length=vs.length:=by
 induction l generalizing vs with
 |nil=>cases h;rfl
 |cons a l ih=>cases h with|cons h hr=>simp[ih hr]
theorem aI.get {l:List AV}{vs:List Value}(h:aI g tk w l vs)(i:Nat)(a:AV)(ha:l[i]?=some a):∃v,vs[i]?=some v∧aM g tk w a v:=by
 induction l generalizing vs i with
 |nil=>simp at ha
 |cons b l ih =>
  cases h with
  |cons h hr =>grind
theorem aI.set {l:List AV}{vs:List Value}(h:aI g tk w l vs){a:AV}{v:Value}(ha:aM g tk w a v)(i:Nat):aI g tk w (l.set i a) (vs.set i v):=by
 induction l generalizing vs i with
 |nil=>cases h;exact .nil
 |cons b l ih =>
  cases h with
  |cons h hr =>
   cases i with
   |zero=>exact .cons ha hr
   |succ i=>exact .cons h (ih hr i)
theorem aI.append {l m:List AV}{vs us:List Value}(h:aI g tk w l vs)(k:aI g tk w m us):aI g tk w (l++m) (vs++us):=by
 induction l generalizing vs with
 |nil=>cases h;exact k
 |cons b l ih=>cases h with|cons h hr=>exact .cons h (ih hr)
theorem aI.lq (n:Nat):aI g tk w (List.replicate n .undef) (List.replicate n Go.undef):=by
 induction n with
 |zero=>exact .nil
 |succ n ih=>exact .cons .undef ih
theorem aI.map {α:Type}(l:List α)(f:α→AV)(k:α→Value)(h:∀x∈l,aM g tk w (f x) (k x)):aI g tk w (l.map f) (l.map k):=by
 induction l with
 |nil=>exact .nil
 |cons a l ih=>exact .cons (h a (by simp)) (by simp_all)
theorem ay.append {l m:List AV}{vs us:List Value}(h:ay g tk w l vs)(k:ay g tk w m us):ay g tk w (l++m) (vs++us):=by
 induction l generalizing vs with
 |nil=>cases h;exact k
 |cons b l ih =>
  cases h with
  |ints hl hx h=>exact .ints hl (by simp_all) (ih h)
  |one hs h hr=>exact .one hs h (ih hr)
theorem ay.cL {cs:List Value}(h:ay g tk w [] cs):cs=[]:=by cases h;rfl
theorem ay.bJ {k:IntKind}{n:Nat}{l:List Int}{rest:List AV}{cs:List Value}(h:ay g tk w (.ints k n l::rest) cs):l.length=n∧∃r,cs=l.map (Value.int k)++r∧ay g tk w rest r:=by
 cases h with
 |ints hl hx h=>simp_all
 |one hs=>simp[aK]at hs
theorem ay.inv_one {s:AV}{rest:List AV}{cs:List Value}(hs:aK s=true)(h:ay g tk w (s::rest) cs):∃c r,cs=c::r∧aM g tk w s c∧ay g tk w rest r:=by
 cases h with
 |ints=>simp[aK]at hs
 |one _ h hr=>grind
theorem aM.cM {l:List AV}{v:Value}(h:aM g tk w (.agg l) v):∃cs,v=.agg cs∧ay g tk w l cs.toList:=by cases h with|agg h=>exact⟨_,rfl,h⟩
theorem ay.length {l:List AV}{vs:List Value}(h:ay g tk w l vs):vs.length=cX l:=by
 induction l generalizing vs with
 |nil=>cases h;rfl
 |cons b l ih =>
  cases h with
  |ints hl hx h=>subst hx;simp[cX,ssize,ih h,hl]
  |one hs h hr =>
   have e:ssize b=1:=by cases b<;>first|rfl|simp[aK]at hs
   simp[cX,e];have:=ih hr;simp[cX]at this;omega
theorem fT {s:AV}(h:aK s=true):ssize s=1:=by cases s<;>first|rfl|simp[aK]at h
theorem ay.cell {l:List AV}{vs:List Value}(h:ay g tk w l vs)(o:Nat)(a:AV)(ha:gz l o=some a):∃v,vs[o]?=some v∧aM g tk w a v:=by
 induction l generalizing vs o with
 |nil=>simp[gz,sf]at ha
 |cons b l ih =>
  cases h with
  |ints hl hx h =>
   rename_i k n xs cs;subst hx;simp only[gz,sf,ssize]at ha;by_cases ho:o<n
   ·simp only[ho,if_true,Option.bind_some,cellOf]at ha;obtain rfl:=Option.some.inj ha;refine⟨.int k (xs.getD o 0),?_,.int _ _⟩;grind
   ·simp only[ho,if_false]at ha;obtain⟨v,h1,h2⟩:=ih h (o-n) ha;grind
  |one hs h hr =>
   have e:=fT hs;simp only[gz,sf,e]at ha;cases o with
   |zero =>
    simp only[Nat.lt_one_iff,if_true,Option.bind_some]at ha;have:cellOf b 0=some b:=by cases b<;>first|rfl|simp[aK]at hs
    simp_all
   |succ o =>simp only[show ¬(o+1<1)by omega,if_false,Nat.add_sub_cancel]at ha;simpa using ih hr o ha
theorem ay.take {l:List AV}{vs:List Value}(h:ay g tk w l vs)(m:Nat)(l':List AV)(hl:gW l m=some l'):m≤vs.length∧ay g tk w l' (vs.take m):=by
 induction l generalizing vs m l' with
 |nil =>
  cases m with
  |zero=>simp[gW]at hl;subst hl;exact⟨Nat.zero_le _,by simpa using ay.nil⟩
  |succ m=>simp[gW]at hl
 |cons b l ih =>
  cases m with
  |zero=>simp[gW]at hl;subst hl;exact⟨Nat.zero_le _,by simpa using ay.nil⟩
  |succ m =>
   cases h with
   |ints hln hx h =>
    rename_i k n xs cs;subst hx;simp only[gW]at hl;by_cases hnm:n≤m+1
    ·simp only[hnm,if_true,H']at hl;obtain⟨r,hr,rfl⟩:=hl;obtain⟨h1,h2⟩:=ih h _ _ hr;refine⟨by simp;omega,.ints hln ?_ h2⟩;rw[List.take_append,List.take_of_length_le (by simp;omega)];simp[hln]
    ·simp only[hnm,if_false,A']at hl;subst hl;refine⟨by simp;omega,.ints (by simp;omega) (cs:=[]) ?_ .nil⟩;rw[List.take_append,List.append_nil,List.map_take,Nat.sub_eq_zero_of_le (by simp;omega)];simp
   |one hs h hr =>
    have:gW (b::l) (m+1)=(gW l m).map (b::·):=by cases b<;>first|rfl|simp[aK]at hs
    rw[this,H']at hl;obtain⟨r,hr',rfl⟩:=hl;obtain⟨h1,h2⟩:=ih hr _ _ hr';exact⟨by simp;omega,.one hs h h2⟩
theorem ay.drop {l:List AV}{vs:List Value}(h:ay g tk w l vs)(m:Nat)(l':List AV)(hl:gV l m=some l'):m≤vs.length∧ay g tk w l' (vs.drop m):=by
 induction l generalizing vs m l' with
 |nil =>
  cases m with
  |zero=>simp[gV]at hl;simp_all
  |succ m=>simp[gV]at hl
 |cons b l ih =>
  cases m with
  |zero=>simp[gV]at hl;simp_all
  |succ m =>
   cases h with
   |ints hln hx h =>
    rename_i k n xs cs;subst hx;simp only[gV]at hl;by_cases hnm:n≤m+1
    ·simp only[hnm,if_true]at hl;obtain⟨h1,h2⟩:=ih h _ _ hl;refine⟨by simp;omega,?_⟩;rw[List.drop_append,List.drop_of_length_le (by simp;omega)];simpa[hln]using h2
    ·simp only[hnm,if_false,A']at hl;subst hl;refine⟨by simp;omega,.ints (by simp;omega) ?_ h⟩;rw[List.drop_append,List.map_drop,Nat.sub_eq_zero_of_le (by simp;omega)];simp
   |one hs h hr =>
    have:gV (b::l) (m+1)=gV l m:=by cases b<;>first|rfl|simp[aK]at hs
    simp_all
theorem ay.sub {l:List AV}{vs:List Value}(h:ay g tk w l vs)(o m:Nat)(l':List AV)(hl:EM l o m=some l'):o+m≤vs.length∧ay g tk w l' ((vs.drop o).take m):=by unfold EM at hl;obtain⟨r,h1,h2⟩:=B'.1 hl;obtain⟨a1,a2⟩:=h.drop _ _ h1;obtain⟨b1,b2⟩:=a2.take _ _ h2;grind
end rows
noncomputable section
variable {g:Gh}{tk:List Nat}{w:World}
def bA (vs:List Value)(o:Nat)(us:List Value):List Value:=vs.take o++us++vs.drop (o+us.length)
theorem eL (vs:List Value)(o:Nat)(us:List Value)(h:o+us.length≤vs.length):(bA vs o us).length=vs.length:=by simp[bA];omega
theorem kb (v:Value)(vs:List Value)(o:Nat)(us:List Value):bA (v::vs) (o+1) us=v::bA vs o us:=by simp[bA,Nat.add_right_comm]
theorem iy (xs vs:List Value)(o:Nat)(us:List Value)(h:xs.length≤o):bA (xs++vs) o us=xs++bA vs (o-xs.length) us:=by simp only[bA,List.take_append,List.drop_append];rw[List.take_of_length_le h,List.drop_of_length_le (by omega)];grind
theorem eu (xs vs:List Value)(o:Nat)(us:List Value)(h:o+us.length≤xs.length):bA (xs++vs) o us=bA xs o us++vs:=by simp only[bA,List.take_append,List.drop_append];rw[Nat.sub_eq_zero_of_le (by omega),Nat.sub_eq_zero_of_le h];simp
theorem jT (vs:List Value)(o:Nat)(us xs:List Value)(h:o+us.length+xs.length≤vs.length):bA (bA vs o us) (o+us.length) xs=bA vs o (us++xs):=by
 have e1:(vs.take o++us++vs.drop (o+us.length)).take (o+us.length)=vs.take o++us:=by rw[List.take_append_of_le_length (by simp;omega),List.take_of_length_le (by simp;omega)]
 have e2:(vs.take o++us++vs.drop (o+us.length)).drop (o+us.length+xs.length)=vs.drop (o+(us.length+xs.length)):=by rw[List.drop_append,List.drop_of_length_le (by simp;omega)];simp only[List.length_append,List.length_take,List.nil_append,List.drop_drop];congr 1;omega
 show(vs.take o++us++vs.drop (o+us.length)).take (o+us.length)++xs++(vs.take o++us++vs.drop (o+us.length)).drop (o+us.length+xs.length)=_;rw[e1,e2];simp[bA]
theorem oL (vs:List Value)(o:Nat):bA vs o []=vs:=by simp[bA]
theorem jK (vs:List Value)(o:Nat)(v:Value)(h:o<vs.length):vs.set o v=bA vs o [v]:=by rw[List.set_eq_take_append_cons_drop,if_pos h];simp[bA]
theorem Bw (k:IntKind)(n j:Nat)(l:List Int)(x:Int)(hl:l.length=n)(hj:j<n){cs:List Value} :
  bA (l.map (Value.int k)++cs) j [.int k x]=(l.set j x).map (Value.int k)++cs:=by rw[eu _ _ _ _ (by simp;omega),←jK _ _ _ (by simp;omega),List.map_set]
theorem ay.zw {l:List AV}{vs:List Value}(h:ay g tk w l vs)(o:Nat)(v:AV)(l':List AV)(hl:qp l o v=some l'){us:List Value}(hv:ay g tk w [v] us) :
  o+us.length≤vs.length∧ay g tk w l' (bA vs o us):=by
 induction l generalizing vs o l' with
 |nil=>simp[qp]at hl
 |cons b l ih =>
  simp only[qp]at hl;have hvlen:=hv.length;by_cases ho:o<ssize b
  ·simp only[ho,if_true,H']at hl;obtain⟨b',hb,rfl⟩:=hl;cases h with
   |ints hln hx h =>
    rename_i k n xs cs;subst hx;simp only[ssize]at ho;cases v with
    |int k' x =>
     simp only[Kz.zw,qh,Option.ite_none_right_eq_some,A']at hb;obtain⟨⟨rfl,hj⟩,rfl⟩:=hb;cases hv with
     |one hs hr hn=>cases hn;cases hr;exact⟨by simp;omega,.ints (by simp[hln]) (Bw _ _ _ _ _ hln hj) h⟩
    |bj k' x =>
     simp only[Kz.zw,qh,Option.ite_none_right_eq_some,A']at hb;obtain⟨⟨rfl,hj⟩,rfl⟩:=hb;cases hv with
     |one hs hr hn=>cases hn;cases hr;exact⟨by simp;omega,.ints (by simp[hln]) (Bw _ _ _ _ _ hln hj) h⟩
    |ints k' m ys =>
     simp only[Kz.zw,qh,Option.ite_none_right_eq_some,A']at hb;obtain⟨⟨rfl,hj⟩,rfl⟩:=hb;cases hv with
     |one hs=>simp[aK]at hs
     |ints hly hx hn =>
      cases hn;subst hx;have hsame:(if m=n then ys else xs.take o++ys++xs.drop (o+m))=xs.take o++ys++xs.drop (o+m):=by
       split
       ·rename_i hkn;obtain rfl:o=0:=by omega
        grind
       ·rfl
      rw[hsame];refine⟨by simp;omega,.ints (by simp;omega) ?_ h⟩;rw[List.append_nil,eu _ _ _ _ (by simp;omega)];simp[bA,hly]
    |_=>simp[Kz.zw,qh]at hb
   |one hs h hr =>
    have e:=fT hs;obtain rfl:o=0:=by omega
    have hb':Kz.zw b 0 v=if aK v then some v else none:=by cases b<;>first|rfl|simp[aK]at hs
    rw[hb',Option.ite_none_right_eq_some,A']at hb;obtain⟨hc,rfl⟩:=hb;cases hv with
    |ints=>simp[aK]at hc
    |one hs' hr' hn=>cases hn;exact⟨by simp,.one hs' hr' (by simpa[bA]using hr)⟩
  ·simp only[ho,if_false,H']at hl;obtain⟨r,hr',rfl⟩:=hl;cases h with
   |ints hln hx h =>rename_i k n xs cs;subst hx;simp only[ssize]at ho hr';obtain⟨h1,h2⟩:=ih h _ _ hr';refine⟨by simp;omega,.ints hln ?_ h2⟩;rw[iy _ _ _ _ (by simp;omega)];simp[hln]
   |one hs h hr =>have e:=fT hs;rw[e]at hr' ho;obtain⟨h1,h2⟩:=ih hr _ _ hr';obtain⟨o',rfl⟩:∃o',o=o'+1:=⟨o-1,by omega⟩;exact⟨by simp at h1⊢;omega,by rw[kb];exact .one hs h (by simpa using h2)⟩
theorem ay.put {l:List AV}{vs:List Value}(h:ay g tk w l vs)(o:Nat)(v:List AV)(l':List AV)(hl:mP l o v=some l'){us:List Value}(hv:ay g tk w v us)(ho:o+us.length≤vs.length) :
  ay g tk w l' (bA vs o us):=by
 induction v generalizing l vs o us with
 |nil=>cases hv;simp[mP]at hl;subst hl;rw[oL];exact h
 |cons a v ih =>
  simp only[mP,B']at hl;obtain⟨l1,h1,h2⟩:=hl;have key:∃u1 u2,us=u1++u2∧ay g tk w [a] u1∧ay g tk w v u2∧u1.length=ssize a:=by
   cases hv with
   |ints hln hx hr=>exact⟨_,_,hx,.ints hln (by simp) .nil,hr,by simp[ssize,hln]⟩
   |one hs hh hr=>exact⟨_,_,by simp_all,.one hs hh .nil,hr,(fT hs).symm⟩
  obtain⟨u1,u2,rfl,k1,k2,k3⟩:=key;obtain⟨b1,b2⟩:=h.zw _ _ _ h1 k1;rw[List.length_append]at ho;have:=ih b2 (o+ssize a) h2 k2 (by rw[eL _ _ _ b1];omega);rw[←k3,jT _ _ _ _ (by omega)]at this;exact this
theorem ay.gG {l:List AV}{vs:List Value}(h:ay g tk w l vs)(o n:Nat)(k:IntKind)(xs:List Int)(hl:gG l o n=some (k,xs)) :
  xs.length=n∧o+n≤vs.length∧(vs.drop o).take n=xs.map (Value.int k):=by
 induction l generalizing vs o with
 |nil=>simp[Kz.gG]at hl
 |cons b l ih =>
  cases h with
  |ints hln hx h =>
   rename_i k' n' ys cs;subst hx;simp only[Kz.gG]at hl;split at hl
   ·simp_all
   ·split at hl
    ·rename_i hc;simp only[A',Prod.mk.injEq]at hl;obtain⟨rfl,rfl⟩:=hl;refine⟨by grind,by simp;omega,?_⟩;rw[List.drop_append_of_le_length (by simp;omega),List.take_append_of_le_length (by simp;omega),List.map_take,List.map_drop]
    ·split at hl
     ·cases hl
     ·rename_i ho;obtain⟨h1,h2,h3⟩:=ih h _ hl;refine⟨h1,by simp;omega,?_⟩;rw[List.drop_append,List.drop_of_length_le (by simp;omega)];simpa[hln]using h3
  |one hs h hr =>
   have e:=fT hs;have e2:Kz.gG (b::l) o n=if o<ssize b then none else Kz.gG l (o-ssize b) n:=by cases b<;>first|rfl|simp[aK]at hs
   rw[e2,e]at hl;cases o with
   |zero=>simp at hl
   |succ o =>grind
theorem ay.gM {l:List AV}{vs:List Value}(h:ay g tk w l vs)(o n:Nat)(ys:List Int)(hy:ys.length=n)(k:IntKind)(xs:List Int)(hr:Kz.gG l o n=some (k,xs))(l':List AV)(hl:gM l o n ys=some l') :
  ay g tk w l' (bA vs o (ys.map (Value.int k))):=by
 induction l generalizing vs o l' with
 |nil=>simp[Kz.gM]at hl
 |cons b l ih =>
  cases h with
  |ints hln hx h =>
   rename_i k' n' zs cs;subst hx;simp only[Kz.gM]at hl;simp only[Kz.gG]at hr;split at hl
   ·rename_i hc;rw[if_pos hc]at hr;obtain⟨rfl,rfl⟩:=hc;simp only[A']at hl;subst hl;simp only[A',Prod.mk.injEq]at hr;obtain⟨rfl,rfl⟩:=hr;refine .ints hy ?_ h;rw[eu _ _ _ _ (by simp;omega)];simp[bA,hln,hy]
   ·rename_i hc0;rw[if_neg hc0]at hr;split at hl
    ·rename_i hc;rw[if_pos hc]at hr;simp only[A']at hl;subst hl;simp only[A',Prod.mk.injEq]at hr;obtain⟨rfl,rfl⟩:=hr;refine .ints (by grind) ?_ h;rw[eu _ _ _ _ (by simp;omega)];simp[bA,hy]
    ·rename_i hc1;rw[if_neg hc1]at hr;split at hl
     ·cases hl
     ·rename_i ho;rw[if_neg ho]at hr;simp only[H']at hl;obtain⟨r,hr',rfl⟩:=hl;refine .ints hln ?_ (ih h _ hr _ hr');rw[iy _ _ _ _ (by simp;omega)];simp[hln]
  |one hs h hrest =>
   have e:=fT hs;have e2:Kz.gG (b::l) o n=if o<ssize b then none else Kz.gG l (o-ssize b) n:=by cases b<;>first|rfl|simp[aK]at hs
   have e3:Kz.gM (b::l) o n ys=if o<ssize b then none else(Kz.gM l (o-ssize b) n ys).map (b::·):=by cases b<;>first|rfl|simp[aK]at hs
   rw[e2,e]at hr;rw[e3,e]at hl;cases o with
   |zero=>simp at hl
   |succ o =>simp only[show ¬(o+1<1)by omega,if_false,Nat.add_sub_cancel,H']at hl hr;obtain⟨r,hr',rfl⟩:=hl;rw[kb];exact .one hs h (ih hrest _ hr _ hr')
theorem NY (v:Value):aM g tk w (YU v) v:=by
 unfold YU;split
 ·exact .aU _
 ·split
  ·rename_i n h;have:(Value.int .u64 n)=.int .u64 ((BitVec.ofNat 64 n.toNat).toNat:Int):=by congr 1;rw[BitVec.toNat_ofNat,Nat.mod_eq_of_lt (by omega)];omega
   rw[this];exact .u64 _
  ·exact .any _
 ·exact .bj _ _
 ·exact .str rfl
 ·exact .nilptr
 ·exact .nilsl
 ·exact .nilfunc
 ·exact .niliface
 ·exact .any _
theorem CV (a:AV)(v:Value)(h:tj a v=true):aK a=true∧aM g tk w a v:=by
 unfold tj at h;split at h
 ·simp at h;subst h;exact⟨rfl,.aU _⟩
 ·simp at h;subst h;exact⟨rfl,.u64 _⟩
 ·simp at h;obtain⟨rfl,rfl⟩:=h;exact⟨rfl,.bj _ _⟩
 ·simp at h;exact⟨rfl,.str (by simp[h])⟩
 ·exact⟨rfl,.nilptr⟩
 ·exact⟨rfl,.nilsl⟩
 ·exact⟨rfl,.nilfunc⟩
 ·exact⟨rfl,.niliface⟩
 ·simp at h
theorem BF (k:IntKind)(l:List Int)(cs r:List Value)(h:kV k l cs=some r):cs=l.map (Value.int k)++r:=by
 induction l generalizing cs with
 |nil=>simp[kV]at h;simp[h]
 |cons n l ih =>
  cases cs with
  |nil=>simp[kV]at h
  |cons c cs =>
   cases c with
   |int k' m =>simp only[kV,Option.ite_none_right_eq_some,E',beq_iff_eq]at h;grind
   |_=>simp[kV]at h
theorem Dp (l:List AV)(cs:List Value)(h:iI l cs=true):ay g tk w l cs:=by
 induction l generalizing cs with
 |nil=>cases cs with|nil=>exact .nil|cons=>simp[iI]at h
 |cons a l ih =>
  by_cases hi:∃k n xs,a=.ints k n xs
  ·obtain⟨k,n,xs,rfl⟩:=hi;simp only[iI,E',beq_iff_eq]at h;obtain⟨rfl,h⟩:=h;split at h
   ·rename_i r hr;exact .ints rfl (BF _ _ _ _ hr) (ih _ h)
   ·simp at h
  ·cases cs with
   |nil=>cases a<;>simp[iI]at h;simp_all
   |cons c cs =>
    have e:iI (a::l) (c::cs)=(tj a c&&iI l cs):=by cases a<;>first|rfl|simp_all
    rw[e,E']at h;obtain⟨h1,h2⟩:=CV (g:=g) (tk:=tk) (w:=w) _ _ h.1;exact .one h1 h2 (ih _ h.2)
theorem nC {P:Program}{t:TypeId}{l:List AV}(h:oa P t=some l):∃i z,P.info? t=some i∧i.zero=some z∧ay g tk w l z.cells.toList:=by
 unfold oa at h;split at h
 ·rename_i l' z h1 h2;simp only[Option.ite_none_right_eq_some,A']at h;obtain⟨h3,rfl⟩:=h;obtain⟨i,hi,hz⟩:=B'.1 h2;exact⟨i,z,hi,hz,Dp _ _ h3⟩
 ·simp at h
theorem aM.bf {a:AV}{v:Value}(h:aM g tk w a v)(hs:storable a=true):ay g tk w (bf a) v.cells.toList:=by
 cases h<;>first
  |(rename_i h;exact h)
  |(simp[storable,aK]at hs;done)
  |skip
 all_goals (refine .one rfl ?_ .nil;first|constructor<;>assumption|constructor)
end
def AT:LoopState→Nat
 | .ready=>0
 | .busy=>1
 | .done=>2
 | .exhausted=>3
structure LR (g:Gh)(tk:List Nat)(w:World)(r:eF)(R:Loop):Prop where
 state:AT R.state=r.state
 eN:R.pending=r.eN
 tmps:aI g tk w r.tmps R.tmps.toList
 params:R.params.toList=r.params
 assign:R.assign=r.assign
 body:R.body=r.body
theorem LR.mono {g g':Gh}{tk tk':List Nat}{w w':World}(hle:Le g tk w g' tk' w'){r:eF}{R:Loop}(h:LR g tk w r R):LR g' tk' w' r R :=
 ⟨h.state,h.eN,h.tmps.mono hle,h.params,h.assign,h.body⟩
def amf (g:Gh)(w:World)(i:Nat):Prop:=i<g.base∧∃x t fr,w.heap[i]?=some (.cells #[x] t fr)∧(x=.nilIface∨∃te pe,x=.iface te pe)
def isIf (p:Nat×IntKind×Option (List Int)):Prop:=p.2.1=.i8∧p.2.2=none
def oe (g:Gh)(w:World)(p:Nat×IntKind×Option (List Int)):Prop :=
 (isIf p→amf g w p.1)∧(¬isIf p→∃zs:List Int,(∀l,p.2.2=some l→zs=l)∧(p.2.2=none→zs.length=1)∧At g w p.1 0 (zs.map (Value.int p.2.1))∧p.1<g.base∧∃t fr,w.heap[p.1]?=some (.cells (zs.map (Value.int p.2.1)).toArray t fr))
theorem oe.mono {g g':Gh}{tk tk':List Nat}{w w':World}(hle:Le g tk w g' tk' w'){p:Nat×IntKind×Option (List Int)}(h:oe g w p):oe g' w' p :=
 ⟨fun hi=>let ⟨d,x,t,fr,e,f⟩:=h.1 hi
  ⟨by rw[hle.base];exact d,x,t,fr,by rw[hle.below.block _ d];exact e,f⟩,
 fun hi=>let ⟨zs,a,b,c,d,t,fr,e⟩:=h.2 hi
  ⟨zs,a,b,c.mono hle,by rw[hle.base];exact d,t,fr,by rw[hle.below.block _ d];exact e⟩⟩
theorem oe.known {g:Gh}{w:World}{i:Nat}{k:IntKind}{l:List Int}(h:oe g w (i,k,some l)):At g w i 0 (l.map (Value.int k))∧i<g.base∧∃t fr,w.heap[i]?=some (.cells (l.map (Value.int k)).toArray t fr):=by
 obtain⟨zs,a,_,h⟩:=h.2 fun hi=>by cases hi.2
 simp_all
theorem Is {i:Nat}{k:IntKind}{l:List Int}(h:(i,k,l)∈vm):(i,k,some l)∈um :=
 List.mem_append_left _ (List.mem_append_left _ (List.mem_map.2 ⟨_,h,rfl⟩))
def zK (z cap n:Nat)(ty:TypeId):Prop:=n=cap*Bh z∧(z=0→ty=t8)
structure MR (g:Gh)(h:Hp)(w:World):Prop where
 base:g.base≤w.heap.size
 fC:∀c o,g.fz c o→c<w.heap.size
 dN:g.vars.length=h.heap.length
 var:∀(i c:Nat) (l:List AV),g.vars[i]?=some c→h.heap[i]?=some l→g.base≤c∧(∀o,¬g.fz c o)∧∃o,w.heap[c]?=some o∧BO g h.ag w l o
 xc:∀(i j c:Nat),g.vars[i]?=some c→g.vars[j]?=some c→i=j
 dW:g.own.length=h.ag.length
 jU:∀(k:Nat),g.own[k]?=some none→∃n,h.ag[k]?=some n
 tok:∀(k b cap z:Nat),g.own[k]?=some (some (b,cap,z))→∃n cells ty,h.ag[k]?=some n∧n≤cap∧cap≤maxLen∧g.base≤b∧w.heap[b]?=some (.cells cells ty (0,0))∧zK z cap cells.size ty∧(∀o,g.fz b o→o<n*Bh z)∧b∉g.vars
 xd:∀(k k' b cap z cap' z':Nat),g.own[k]?=some (some (b,cap,z))→g.own[k']?=some (some (b,cap',z'))→k=k'
 gT:g.loops.length=h.loops.length
 loop:∀(l c:Nat) (r:eF),g.loops[l]?=some c→h.loops[l]?=some r→g.base≤c∧∃R,w.heap[c]?=some (.loop R)∧LR g h.ag w r R
 xe:∀(i j c:Nat),g.loops[i]?=some c→g.loops[j]?=some c→i=j
 defs:∀D,D∈g.defs→g.base≤D∧w.heap[D]?=some (.deferred (some []))
 iH:∀p∈um,oe g w p
noncomputable section
variable {g:Gh}{h:Hp}{w:World}
theorem aB {α:Type}{a:Array α}{i:Nat}{x:α}(h:a[i]?=some x):i<a.size:=by grind
theorem aw {c o:Nat}{cells:Array Value}{ty:TypeId}{fr:Nat×Nat}(h:w.heap[c]?=some (.cells cells ty fr)):w.cell? ⟨c,o,none⟩=cells[o]? := by simp[World.cell?,h]
theorem bQ {c o:Nat}{cells:Array Value}{ty:TypeId}(h:w.heap[c]?=some (.cells cells ty (0,0))):w.frozen? ⟨c,o,none⟩=false:=by simp[World.frozen?,h]
theorem b9 {w':World}{c o:Nat}(h:w'.heap[c]?=w.heap[c]?):w'.cell? ⟨c,o,none⟩=w.cell? ⟨c,o,none⟩:=by simp[World.cell?,h]
theorem ja {w':World}{c:Nat}(h:w'.heap[c]?=w.heap[c]?):w'.shape? c=w.shape? c:=by simp[World.shape?,h]
theorem MR.TD (m:MR g h w){i c:Nat}(x:g.vars[i]?=some c):∃o,w.heap[c]?=some o∧(∀R,o≠.loop R)∧∀d,o≠.deferred d:=by have hi:=(C'.1 x).1;rw[m.dN]at hi;obtain⟨_,_,o,d,e⟩:=m.var i c _ x (I' hi);exact⟨o,d,fun R q=>(q ▸ e).Hn,fun _ q=>(q ▸ e).P3⟩
theorem MR.Te (m:MR g h w){i c:Nat}{l:List AV}(x:g.vars[i]?=some c)(y:h.heap[i]?=some l)(hn:nY l=some l):g.base≤c∧(∀o,¬g.fz c o)∧∃cells ty,w.heap[c]?=some (.cells cells ty (0,0))∧ay g h.ag w l cells.toList:=by obtain⟨a,b,o,d,e⟩:=m.var i c l x y;obtain⟨cells,ty,rfl,r⟩:=e.rep hn;simp_all
theorem MR.grow {w':World}(m:MR g h w)(hb:Below w.heap.size w w'):MR g h w'∧Le g h.ag w g h.ag w':=by
 have hle:Le g h.ag w g h.ag w' :=
  ⟨rfl,hb.mono m.base,fun _ _ x=>x,fun c o x hf hc=>by rw[b9 (hb.block c (m.fC c o hf))];exact hc,fun _ _ x=>x,fun _ _ x=>x,fun _ x=>x,by simp_all,fun i c x=>by
   obtain⟨_,d,_⟩:=m.TD x
   exact ja (hb.block c (aB d))⟩
 have old:∀{c:Nat} {o:Obj},w.heap[c]?=some o→w'.heap[c]?=some o:=fun {c o} x=>by rw[hb.block c (aB x)];exact x
 refine⟨⟨Nat.le_trans m.base hb.size,fun c o x=>Nat.lt_of_lt_of_le (m.fC c o x) hb.size,m.dN,fun i c l h1 h2=>?_,m.xc,m.dW,m.jU,fun k b cap z h1=>?_,m.xd,m.gT,fun l c r h1 h2=>?_,m.xe,fun D hD=>?_,fun p hp=>(m.iH p hp).mono hle⟩,hle⟩
 ·obtain⟨a,b,o,d,e⟩:=m.var i c l h1 h2;exact⟨a,b,o,old d,e.mono hle⟩
 ·obtain⟨n,cells,ty,h2,h3,hm,h4,h5,h6⟩:=m.tok k b cap z h1;grind
 ·obtain⟨a,R,b,d⟩:=m.loop l c r h1 h2;exact⟨a,R,old b,d.mono hle⟩
 ·exact⟨(m.defs D hD).1,old (m.defs D hD).2⟩
theorem MR.alloc (m:MR g h w)(o:Obj):MR g h (w.alloc o)∧Le g h.ag w g h.ag (w.alloc o) :=
 m.grow ((Below.refl _ _).alloc (Nat.le_refl _) o)
theorem MR.drew (m:MR g h w):MR g h w.drew∧Le g h.ag w g h.ag w.drew:=m.grow (Below.refl _ _).drew
theorem MR.addVar (m:MR g h w){c:Nat}{o:Obj}(hc:w.heap[c]?=some o)(hb:g.base≤c)(hf:∀o,¬g.fz c o)(hv:c∉g.vars)
  (ho:∀(k cap z:Nat),g.own[k]?≠some (some (c,cap,z))) {l:List AV} (hr:BO g h.ag w l o) :
  MR { g with vars:=g.vars++[c] } { h with heap:=h.heap++[l] } w∧Le g h.ag w { g with vars:=g.vars++[c] } h.ag w:=by
 have hle:Le g h.ag w { g with vars:=g.vars++[c] } h.ag w :=
  ⟨rfl,Below.refl _ _,fun _ _ x=>x,fun _ _ _ _ x=>x,by grind,fun _ _ x=>x,fun _ x=>x,by simp_all,fun _ _ _=>rfl⟩
 have new:∀(i c':Nat),(g.vars++[c])[i]?=some c'→g.vars[i]?=some c'∨(i=g.vars.length∧c'=c):=by
  intro i c' x;rcases Nat.lt_or_ge i g.vars.length with h' |h'
  ·grind
  ·grind
 refine⟨⟨m.base,m.fC,by simp[m.dN],fun i c' l' h1 h2=>?_,fun i j c' h1 h2=>?_,m.dW,m.jU,fun k b cap z h1=>?_,m.xd,m.gT,fun l c r h1 h2=>?_,m.xe,m.defs,fun p hp=>(m.iH p hp).mono (hle)⟩,hle⟩
 ·rcases new i c' h1 with h' |⟨rfl,rfl⟩
  ·have hi:=(C'.1 h').1;simp only at h2;rw[List.getElem?_append_left (by rw[←m.dN];exact hi)]at h2;obtain⟨a,b,o,d,e⟩:=m.var i c' l' h' h2;exact⟨a,b,o,d,e.mono hle⟩
  ·simp only at h2;rw[m.dN,List.getElem?_append_right (Nat.le_refl _)]at h2;simp at h2;subst h2;exact⟨hb,hf,_,hc,hr.mono hle⟩
 ·rcases new i c' h1 with a|⟨rfl,rfl⟩<;>rcases new j c' h2 with b|⟨rfl,e⟩
  ·exact m.xc i j c' a b
  ·grind
  ·grind
  ·rfl
 ·obtain⟨n,cells,ty,h2,h3,hm,h4,h5,h6,h7,h8⟩:=m.tok k b cap z h1;grind
 ·obtain⟨a,R,b,d⟩:=m.loop l c r h1 h2;exact⟨a,R,b,d.mono hle⟩
theorem MR.newVar (m:MR g h w){l:List AV}{cells:Array Value}(ty:TypeId)(hr:ay g h.ag w l cells.toList) :
  MR { g with vars:=g.vars++[w.heap.size] } { h with heap:=h.heap++[l] } (w.alloc (.cells cells ty)) ∧
   Le g h.ag w { g with vars:=g.vars++[w.heap.size] } h.ag (w.alloc (.cells cells ty)):=by
 obtain⟨m1,l1⟩:=m.alloc (.cells cells ty)
 obtain⟨m2,l2⟩:=m1.addVar (c:=w.heap.size) (heap_alloc_new w _) m.base (fun o x=>absurd (m.fC _ _ x) (Nat.lt_irrefl _))
  (fun hv=>by
   obtain⟨i,hi⟩:=List.getElem?_of_mem hv
   have hi':=(C'.1 hi).1
   obtain⟨_,_,_,d,_⟩:=m.var i _ _ hi (I' (by rw[←m.dN];exact hi'))
   simp_all)
  (fun k cap z x=>by obtain⟨_,_,_,_,_,_,_,d,_⟩:=m.tok k _ cap z x;simp_all) (.of (hr.mono l1))
 exact⟨m2,l1.trans l2⟩
theorem MR.kO (m:MR g h w):MR { g with own:=g.own++[none] } { h with ag:=h.ag++[0] } w∧Le g h.ag w { g with own:=g.own++[none] } (h.ag++[0]) w:=by
 have hle:Le g h.ag w { g with own:=g.own++[none] } (h.ag++[0]) w :=
  ⟨rfl,Below.refl _ _,fun _ _ x=>x,fun _ _ _ _ x=>x,fun _ _ x=>x,fun _ _ x=>x,fun _ x=>x,fun k n x=>⟨n,by
   grind,Nat.le_refl _,fun _=>by
   have:=(C'.1 x).1
   simp only
   rw[List.getElem?_append_left (by rw[m.dW];exact this)]⟩,fun _ _ _=>rfl⟩
 have new:∀(k:Nat) x,(g.own++[none])[k]?=some x→g.own[k]?=some x∨(k=g.own.length∧x=none):=by
  intro i c' x;rcases Nat.lt_or_ge i g.own.length with h' |h'
  ·grind
  ·grind
 refine⟨⟨m.base,m.fC,m.dN,fun i c l h1 h2=>?_,m.xc,by simp[m.dW],fun k h1=>?_,fun k b cap z h1=>?_,fun k k' b cap z cap' z' h1 h2=>?_,m.gT,fun l c r h1 h2=>?_,m.xe,m.defs,fun p hp=>(m.iH p hp).mono (hle)⟩,hle⟩
 ·obtain⟨a,b,o,d,e⟩:=m.var i c l h1 h2;exact⟨a,b,o,d,e.mono hle⟩
 ·rcases new k _ h1 with a|⟨rfl,_⟩
  ·obtain⟨n,this⟩:=m.jU k a;grind
  ·exact⟨0,by simp[m.dW]⟩
 ·rcases new k _ h1 with a|⟨_,e⟩
  ·obtain⟨n,cells,ty,h2,h3⟩:=m.tok k b cap z a;grind
  ·cases e
 ·rcases new k _ h1 with a|⟨_,e⟩<;>rcases new k' _ h2 with b' |⟨_,e'⟩
  ·exact m.xd k k' b cap z cap' z' a b'
  ·cases e'
  ·cases e
  ·cases e
 ·obtain⟨a,R,b,d⟩:=m.loop l c r h1 h2;exact⟨a,R,b,d.mono hle⟩
theorem MR.Za (m:MR g h w):MR { g with defs:=w.heap.size::g.defs } h (w.alloc (.deferred (some [])))∧Le g h.ag w { g with defs:=w.heap.size::g.defs } h.ag (w.alloc (.deferred (some []))):=by
 obtain⟨m1,l1⟩:=m.alloc (.deferred (some []))
 have l2:Le g h.ag (w.alloc (.deferred (some []))) { g with defs:=w.heap.size::g.defs } h.ag (w.alloc (.deferred (some []))) :=
  ⟨rfl,Below.refl _ _,fun _ _ x=>x,fun _ _ _ _ x=>x,fun _ _ x=>x,fun _ _ x=>x,by simp_all,by simp_all,fun _ _ _=>rfl⟩
 refine⟨⟨m1.base,m1.fC,m1.dN,fun i c l h1 h2=>?_,m1.xc,m1.dW,m1.jU,m1.tok,m1.xd,m1.gT,fun l c r h1 h2=>?_,m1.xe,fun D hD=>?_,fun p hp=>(m.iH p hp).mono (l1.trans l2)⟩,l1.trans l2⟩
 ·obtain⟨a,b,o,d,e⟩:=m1.var i c l h1 h2;exact⟨a,b,o,d,e.mono l2⟩
 ·obtain⟨a,R,b,d⟩:=m1.loop l c r h1 h2;exact⟨a,R,b,d.mono l2⟩
 ·rcases List.mem_cons.1 hD with rfl|hD
  ·exact⟨m.base,heap_alloc_new w _⟩
  ·exact m1.defs D hD
theorem MR.Iq (m:MR g h w){r:eF}{R:Loop}(hr:LR g h.ag w r R):MR { g with loops:=g.loops++[w.heap.size] } { h with loops:=h.loops++[r] } (w.alloc (.loop R))∧Le g h.ag w { g with loops:=g.loops++[w.heap.size] } h.ag (w.alloc (.loop R)):=by
 obtain⟨m1,l1⟩:=m.alloc (.loop R)
 have l2:Le g h.ag (w.alloc (.loop R)) { g with loops:=g.loops++[w.heap.size] } h.ag (w.alloc (.loop R)) :=
  ⟨rfl,Below.refl _ _,fun _ _ x=>x,fun _ _ _ _ x=>x,fun _ _ x=>x,fun i c' x=>by rw[List.getElem?_append_left (C'.1 x).1];exact x,fun _ x=>x,by simp_all,fun _ _ _=>rfl⟩
 have new:∀(i c':Nat),(g.loops++[w.heap.size])[i]?=some c'→g.loops[i]?=some c'∨(i=g.loops.length∧c'=w.heap.size):=by
  intro i c' x;rcases Nat.lt_or_ge i g.loops.length with h' |h'
  ·grind
  ·grind
 have old:∀(i:Nat),g.loops[i]?≠some w.heap.size:=fun i x=>by have hi:=(C'.1 x).1;obtain⟨_,R',d,_⟩:=m.loop i _ _ x (I' (by rw[←m.gT];exact hi));simp_all
 refine⟨⟨m1.base,m1.fC,m1.dN,fun i c l h1 h2=>?_,m1.xc,m1.dW,m1.jU,m1.tok,m1.xd,by simp[m.gT],fun l c q h1 h2=>?_,fun i j c h1 h2=>?_,m1.defs,fun p hp=>(m.iH p hp).mono (l1.trans l2)⟩,l1.trans l2⟩
 ·obtain⟨a,b,o,d,e⟩:=m1.var i c l h1 h2;exact⟨a,b,o,d,e.mono l2⟩
 ·rcases new l c h1 with h1' |⟨rfl,rfl⟩
  ·have hi:=(C'.1 h1').1;simp only at h2;rw[List.getElem?_append_left (by rw[←m.gT];exact hi)]at h2;obtain⟨a,R,b,d⟩:=m1.loop l c q h1' h2;exact⟨a,R,b,d.mono l2⟩
  ·simp only at h2;rw[m.gT,List.getElem?_append_right (Nat.le_refl _)]at h2;simp at h2;subst h2;exact⟨m.base,R,heap_alloc_new w _,hr.mono (l1.trans l2)⟩
 ·rcases new i c h1 with a|⟨rfl,e0⟩<;>rcases new j c h2 with b|⟨rfl,e⟩
  ·exact m.xe i j c a b
  ·simp_all
  ·simp_all
  ·rfl
def bk (w:World)(c:Nat)(o:Obj):World:={ w with heap:=w.heap.setIfInBounds c o }
theorem cx {c:Nat}{o o':Obj}(h:w.heap[c]?=some o):(bk w c o').heap[c]?=some o':=by simp[bk,aB h]
theorem aN {c c':Nat}{o:Obj}(h:c'≠c):(bk w c o).heap[c']?=w.heap[c']? := by simp only[bk];grind
theorem cG (c:Nat)(o:Obj):(bk w c o).heap.size=w.heap.size:=by simp[bk]
theorem Below.put {B c:Nat}(o:Obj)(hc:B≤c):Below B w (bk w c o) :=
 ⟨rfl,rfl,rfl,by simp[bk],fun k hk=>aN (by omega)⟩
theorem Le.put (tk:List Nat){c:Nat}(o:Obj)(hb:g.base≤c)(hf:∀o',¬g.fz c o')(hs:∀(i c':Nat),g.vars[i]?=some c'→(bk w c o).shape? c'=w.shape? c'):Le g tk w g tk (bk w c o) :=
 ⟨rfl,Below.put o hb,fun _ _ x=>x,fun c' o' x h1 h2=>by rw[b9 (aN (fun e=>by subst e;exact hf o' h1))];exact h2,fun _ _ x=>x,fun _ _ x=>x,fun _ x=>x,by simp_all,hs⟩
theorem iV {c o:Nat}{cells:Array Value}{ty:TypeId}{fr:Nat×Nat}(h:w.heap[c]?=some (.cells cells ty fr))(v:Value) :
  w.setCell ⟨c,o,none⟩ v=bk w c (.cells (cells.setIfInBounds o v) ty fr):=by
 have hc:=aB h;have e:w.heap[c]=.cells cells ty fr:=by simpa[Array.getElem?_eq_getElem hc]using h
 simp only[World.setCell,bk];congr 1;grind
theorem MR.putObj (m:MR g h w){i c:Nat}{l l':List AV}(hc:g.vars[i]?=some c)(hl:h.heap[i]?=some l){o0 o:Obj}(ho:w.heap[c]?=some o0)(hr:BO g h.ag w l' o)(hsh:(bk w c o).shape? c=w.shape? c) :
  MR g { h with heap:=h.heap.set i l' } (bk w c o)∧Le g h.ag w g h.ag (bk w c o):=by
 obtain⟨hb,hf,_,_,_⟩:=m.var i c l hc hl;obtain⟨o1,ho1,n1,n2⟩:=m.TD hc;obtain rfl:o1=o0:=by simp_all
 have hle:Le g h.ag w g h.ag (bk w c o):=Le.put _ _ hb hf fun j d x=>by
  by_cases e:d=c
  ·subst e;exact hsh
  ·exact ja (aN e)
 refine⟨⟨by rw[cG];exact m.base,fun c o x=>by rw[cG];exact m.fC c o x,by simp[m.dN],fun j d k h1 h2=>?_,m.xc,m.dW,m.jU,fun k b cap z h1=>?_,m.xd,m.gT,fun j d r h1 h2=>?_,m.xe,fun D hD=>?_,fun p hp=>(m.iH p hp).mono hle⟩,hle⟩
 ·by_cases hij:i=j
  ·subst hij;have:d=c:=by simp_all
   subst this;have hk:k=l':=by have:=(C'.1 hl).1;simp[this]at h2;exact h2.symm
   subst hk;exact⟨hb,hf,_,cx ho,hr.mono hle⟩
  ·rw[List.getElem?_set_ne hij]at h2;obtain⟨a,b,o',d',e⟩:=m.var j d k h1 h2;refine⟨a,b,o',?_,e.mono hle⟩;rw[aN (fun e=>by subst e;exact hij (m.xc i j _ hc h1))];exact d'
 ·obtain⟨n,cells',ty',h2,h3,hm,h4,h5,h6,h7,h8⟩:=m.tok k b cap z h1;refine⟨n,cells',ty',h2,h3,hm,h4,?_,h6,h7,h8⟩;rw[aN (fun e=>by subst e;exact h8 (List.mem_of_getElem? hc))];exact h5
 ·obtain⟨a,R,b,d'⟩:=m.loop j d r h1 h2;refine⟨a,R,?_,d'.mono hle⟩;rw[aN (fun e=>by subst e;rw[ho]at b;exact n1 _ (Option.some.inj b))];exact b
 ·obtain⟨a,b⟩:=m.defs D hD;refine⟨a,?_⟩;rw[aN (fun e=>by subst e;rw[ho]at b;exact n2 _ (Option.some.inj b))];exact b
theorem MR.EY (m:MR g h w){i c:Nat}{l l':List AV}(hc:g.vars[i]?=some c)(hl:h.heap[i]?=some l){old cells:Array Value}{ty:TypeId}(ho:w.heap[c]?=some (.cells old ty (0,0)))(hr:ay g h.ag w l' cells.toList)(hz:old.size=cells.size) :
  MR g { h with heap:=h.heap.set i l' } (bk w c (.cells cells ty))∧Le g h.ag w g h.ag (bk w c (.cells cells ty)) :=
 m.putObj hc hl ho (.of hr) (by simp[World.shape?,cx ho,ho,hz])
theorem MR.ZS (m:MR g h w){i c:Nat}{s:List UInt8}{n n':Int}(hc:g.vars[i]?=some c)(hl:h.heap[i]?=some [.itr s n]){bs:ByteArray}{p:Nat}(ho:w.heap[c]?=some (.stringIter bs p))(hs:bs.data.toList=s)(h0:0≤n') :
  MR g { h with heap:=h.heap.set i [.itr s n'] } (bk w c (.stringIter bs n'.toNat))∧Le g h.ag w g h.ag (bk w c (.stringIter bs n'.toNat)) :=
 m.putObj hc hl ho (.inr ⟨s,n',bs,rfl,rfl,hs,h0⟩) (by simp[World.shape?,cx ho,ho])
theorem MR.XX (m:MR g h w)(bs:ByteArray){s:List UInt8}(hs:bs.data.toList=s) :
  MR { g with vars:=g.vars++[w.heap.size] } { h with heap:=h.heap++[[.itr s 0]] } (w.alloc (.stringIter bs 0))∧Le g h.ag w { g with vars:=g.vars++[w.heap.size] } h.ag (w.alloc (.stringIter bs 0)):=by
 obtain⟨m1,l1⟩:=m.alloc (.stringIter bs 0)
 obtain⟨m2,l2⟩:=m1.addVar (c:=w.heap.size) (heap_alloc_new w _) m.base (fun o x=>absurd (m.fC _ _ x) (Nat.lt_irrefl _))
  (fun hv=>by
   obtain⟨i,hi⟩:=List.getElem?_of_mem hv
   have hi':=(C'.1 hi).1
   obtain⟨_,_,_,d,_⟩:=m.var i _ _ hi (I' (by rw[←m.dN];exact hi'))
   simp_all)
  (fun k cap z x=>by obtain⟨_,_,_,_,_,_,_,d,_⟩:=m.tok k _ cap z x;simp_all) (.inr ⟨s,0,bs,rfl,rfl,hs,Int.le_refl 0⟩)
 exact⟨m2,l1.trans l2⟩
theorem MR.zJ (m:MR g h w){i c:Nat}{r r':eF}{R R':Loop}(hc:g.loops[i]?=some c)(hl:h.loops[i]?=some r)(hR:w.heap[c]?=some (.loop R))(hr:LR g h.ag w r' R') :
  MR g (eV h i r') (bk w c (.loop R'))∧Le g h.ag w g h.ag (bk w c (.loop R')):=by
 obtain⟨hb,R0,hR0,_⟩:=m.loop i c r hc hl;obtain rfl:R0=R:=by simp_all
 have hle:Le g h.ag w g h.ag (bk w c (.loop R')) :=
  ⟨rfl,Below.put _ hb,fun _ _ x=>x,fun c' o' x h1 h2=>by
   rw[b9 (aN (fun e=>by subst e;simp[World.cell?,hR]at h2))];exact h2,fun _ _ x=>x,fun _ _ x=>x,fun _ x=>x,by simp_all,fun i d x=>by
   obtain⟨_,f,n1,_⟩:=m.TD x
   exact ja (aN (by grind))⟩
 refine⟨⟨by rw[cG];exact m.base,fun c o x=>by rw[cG];exact m.fC c o x,m.dN,fun j d k h1 h2=>?_,m.xc,m.dW,m.jU,fun k b cap z h1=>?_,m.xd,by simp[eV,m.gT],fun j d q h1 h2=>?_,m.xe,fun D hD=>?_,fun p hp=>(m.iH p hp).mono hle⟩,hle⟩
 ·obtain⟨a,b,o',d',bo⟩:=m.var j d k h1 h2;refine⟨a,b,o',?_,bo.mono hle⟩;rw[aN (fun e=>by subst e;rw[hR]at d';cases d';exact bo.Hn)];exact d'
 ·obtain⟨n,cells',ty',h2,h3,hm,h4,h5,h6⟩:=m.tok k b cap z h1;refine⟨n,cells',ty',h2,h3,hm,h4,?_,h6⟩;rw[aN (fun e=>by subst e;rw[hR]at h5;cases h5)];exact h5
 ·by_cases hij:i=j
  ·subst hij;have:d=c:=by simp_all
   subst this;have hk:q=r':=by have:=(C'.1 hl).1;simp[eV,this]at h2;exact h2.symm
   subst hk;exact⟨hb,R',cx hR,hr.mono hle⟩
  ·simp only[eV]at h2;rw[List.getElem?_set_ne hij]at h2;obtain⟨a,Q,b,d'⟩:=m.loop j d q h1 h2;refine⟨a,Q,?_,d'.mono hle⟩;rw[aN (fun e=>by subst e;exact hij (m.xe i j _ hc h1))];exact b
 ·obtain⟨a,b⟩:=m.defs D hD;refine⟨a,?_⟩;rw[aN (fun e=>by subst e;rw[hR]at b;cases b)];exact b
theorem MR.TE (m:MR g h w){D:Nat}(hD:D∈g.defs):MR { g with defs:=g.defs.filter (· != D) } h (bk w D (.deferred none))∧g.base≤D ∧
  Le { g with defs:=g.defs.filter (· != D) } h.ag w { g with defs:=g.defs.filter (· != D) } h.ag (bk w D (.deferred none))∧w.heap[D]?=some (.deferred (some [])):=by
 obtain⟨hb,hh⟩:=m.defs D hD
 have l1:Le { g with defs:=g.defs.filter (· != D) } h.ag w { g with defs:=g.defs.filter (· != D) } h.ag (bk w D (.deferred none)) :=
  ⟨rfl,Below.put _ hb,fun _ _ x=>x,fun c' o' x h1 h2=>by
   rw[b9 (aN (fun e=>by subst e;simp[World.cell?,hh]at h2))];exact h2,fun _ _ x=>x,fun _ _ x=>x,fun _ x=>x,by simp_all,fun i d x=>by
   obtain⟨_,f,_,n2⟩:=m.TD x
   exact ja (aN (by grind))⟩
 have lw:Lw g h.ag w { g with defs:=g.defs.filter (· != D) } h.ag (bk w D (.deferred none)):=⟨Nat.le_refl _,l1.fz,l1.cell,l1.vars,l1.loops,l1.tok,l1.shape⟩;refine⟨⟨by rw[cG];exact m.base,fun c o x=>by rw[cG];exact m.fC c o x,m.dN,fun j d k h1 h2=>?_,m.xc,m.dW,m.jU,fun k b cap z h1=>?_,m.xd,m.gT,fun j d q h1 h2=>?_,m.xe,fun D' hD'=>?_,fun p hp=>(m.iH p hp).mono l1⟩,hb,l1,hh⟩
 ·obtain⟨a,b,o',d',bo⟩:=m.var j d k h1 h2;refine⟨a,b,o',?_,bo.bS lw⟩;rw[aN (fun e=>by subst e;rw[hh]at d';cases d';exact bo.P3)];exact d'
 ·obtain⟨n,cells',ty',h2,h3,hm,h4,h5,h6⟩:=m.tok k b cap z h1;refine⟨n,cells',ty',h2,h3,hm,h4,?_,h6⟩;rw[aN (fun e=>by subst e;rw[hh]at h5;cases h5)];exact h5
 ·obtain⟨a,R,b,d'⟩:=m.loop j d q h1 h2;refine⟨a,R,?_,⟨d'.state,d'.eN,d'.tmps.bS lw,d'.params,d'.assign,d'.body⟩⟩;rw[aN (fun e=>by subst e;rw[hh]at b;cases b)];exact b
 ·obtain⟨h1,h2⟩:=List.mem_filter.1 hD';obtain⟨a,b⟩:=m.defs D' h1;refine⟨a,?_⟩;rw[aN (by simpa using h2)];exact b
end
noncomputable section
variable {P:Program}{g:Gh}{h:Hp}{tk:List Nat}{w:World}
theorem run_underlying (t:TypeId)(d:TypeDesc)(hd:P.underlying t=some d):(underlying t).run P w=.ok d w:=by simp[underlying,program,Sem.run_bind,Sem.run,hd,pure]
theorem run_typeInfo (t:TypeId)(i:TypeInfo)(hd:P.info? t=some i):(typeInfo t).run P w=.ok i w:=by simp[typeInfo,program,Sem.run_bind,Sem.run,hd,pure]
theorem qw {t:TypeId}{m:Nat}(hs:bW P t=some m):∃i,P.info? t=some i∧i.size=m:=by simp only[bW,H']at hs;exact hs
theorem run_sizeOf (t:TypeId)(m:Nat)(hs:bW P t=some m):(Go.sizeOf t).run P w=.ok m w:=by obtain⟨i,hi,rfl⟩:=qw hs;simp[Go.sizeOf,Sem.run_bind,run_typeInfo t i hi,pure,Sem.run]
theorem kv (t:TypeId)(d:TypeDesc)(hd:P.underlying t=some d):(isAgg t).run P w=.ok (ct P t) w:=by unfold isAgg ct;rw[Sem.run_bind,run_underlying t d hd,hd];cases d<;>rfl
theorem fF (c o n:Nat):(⟨c,o,none⟩:Addr).add n=⟨c,o+n,none⟩:=by unfold Addr.add;split<;>simp_all
theorem ly (t:TypeId)(d:TypeDesc)(hd:P.underlying t=some d)(ha:ct P t=true)(m:Nat)(hs:bW P t=some m)(c o:Nat)(cs:List Value)(hl:cs.length=m)(hc:∀j x,cs[j]?=some x→w.cell? ⟨c,o+j,none⟩=some x) :
  (loadVar t ⟨c,o,none⟩).run P w=.ok (.agg cs.toArray) w:=by unfold loadVar;rw[Sem.run_bind,kv t d hd,Result.andThen_ok,ha];simp only[if_true,Sem.run_bind,run_sizeOf t m hs,Result.andThen_ok];rw[←hl,run_loadCells_list w ⟨c,o,none⟩ cs (fun j v hv=>by rw[fF];exact hc j v hv)];rfl
theorem lv (t:TypeId)(d:TypeDesc)(hd:P.underlying t=some d)(ha:ct P t=false)(c o:Nat)(x:Value)(hc:w.cell? ⟨c,o,none⟩=some x) :
  (loadVar t ⟨c,o,none⟩).run P w=.ok x w:=by unfold loadVar;rw[Sem.run_bind,kv t d hd,Result.andThen_ok,ha];simp_all
theorem qB {t:TypeId}{l:List AV}{o:Nat}{v:AV}(hp:il P t l o=some v){c o':Nat}{cs:List Value}(hr:ay g tk w l cs)(hc:∀j x,cs[j]?=some x→w.cell? ⟨c,o'+j,none⟩=some x) :
  ∃x,(loadVar t ⟨c,o'+o,none⟩).run P w=.ok x w∧aM g tk w v x:=by
 unfold il at hp;simp only[Option.ite_none_right_eq_some]at hp;obtain⟨hu,hp⟩:=hp;obtain⟨d,hd⟩:=Option.isSome_iff_exists.1 hu;by_cases ha:ct P t=true
 ·simp only[ha,if_true,B',H']at hp;obtain⟨m,hm,l',hl',rfl⟩:=hp;obtain⟨h1,h2⟩:=hr.sub _ _ _ hl';refine⟨_,ly t d hd ha m hm c (o'+o) ((cs.drop o).take m) (by simp;omega) (fun j x hx=>?_),.agg (by simpa using h2)⟩;grind
 ·have ha':ct P t=false:=by simpa using ha
  simp only[ha',Bool.false_eq_true,if_false]at hp;obtain⟨x,h1,h2⟩:=hr.cell _ _ hp;exact⟨x,lv t d hd ha' _ _ x (hc _ _ h1),h2⟩
theorem lP {h:Hp}{b:Nat}{l:List AV}(hl:bx h b=some l):h.heap[b]?=some l∧nY l=some l:=by
 unfold bx at hl;cases hh:h.heap[b]? with
 |none=>rw[hh]at hl;cases hl
 |some x =>
  rw[hh]at hl;simp only[Option.bind_some]at hl;have:x=l:=by
   unfold nY at hl;split at hl
   ·cases hl
   ·simp_all
  simp_all
theorem NO {h:Hp}{b:Nat}{l:List AV}(h1:h.heap[b]?=some l)(h2:nY l=some l):bx h b=some l:=by unfold bx;rw[h1];exact h2
theorem iQ (m:MR g h w){b c:Nat}(hb:g.vars[b]?=some c){l:List AV}(hl:bx h b=some l):∃cells ty,w.heap[c]?=some (.cells cells ty (0,0))∧ay g h.ag w l cells.toList∧∀j x,cells.toList[j]?=some x→w.cell? ⟨c,j,none⟩=some x:=by obtain⟨hl0,hn⟩:=lP hl;obtain⟨_,_,cells,ty,h1,h2⟩:=m.Te hb hl0 hn;exact⟨cells,ty,h1,h2,fun j x hx=>by rw[aw h1];simpa using hx⟩
theorem getD_getElem? (l:List Int)(i:Nat)(hi:i<l.length):l[i]?=some (l.getD i 0):=by simp_all
theorem GM (m:MR g h w){t:TypeId}{a v:AV}{x:Value}(hl:eC P h t a=some v)(ha:aM g h.ag w a x):∃y,(Instr.loadAt t x).run P w=.ok y w∧aM g h.ag w v y:=by
 have step:∀ad,x=.pointer (some ad)→(Instr.loadAt t x).run P w=(loadVar t ad).run P w:=by intro ad e;subst e;simp[Instr.loadAt,Instr.sureAddr,Sem.run_bind,pure,Sem.run]
 cases ha with
 |ptr hb =>simp only[eC,B']at hl;obtain⟨l,h1,h2⟩:=hl;obtain⟨cells,ty,k1,k2,k3⟩:=iQ m hb h1;rw[step _ rfl];obtain⟨y,e1,e2⟩:=qB (c:=_) (o':=0) h2 k2 (fun j x hx=>by rw[Nat.zero_add];exact k3 j x hx);simp_all
 |ptri hb h0 h1 ho =>
  rename_i b o n i mm c o';simp only[eC,B']at hl;obtain⟨l,hl1,⟨k,xs⟩,hl2,hl3⟩:=hl;obtain⟨cells,ty,k1,k2,k3⟩:=iQ m hb hl1;obtain⟨r1,r2,r3⟩:=k2.gG _ _ _ _ hl2;rw[step _ rfl];subst ho;have cellAt:∀j,j<n→w.cell? ⟨c,o+j,none⟩=some (.int k (xs.getD j 0)):=fun j hj=>by
   apply k3;have:((cells.toList.drop o).take n)[j]?=some (.int k (xs.getD j 0)):=by rw[r3,List.getElem?_map,getD_getElem? xs j (by omega)];rfl
   grind
  by_cases hag:ct P t=true
  ·simp only[hag,if_true,Option.ite_none_right_eq_some,A']at hl3;obtain⟨hs,rfl⟩:=hl3;have hd:∃d,P.underlying t=some d:=by unfold ct at hag;split at hag<;>first|exact⟨_,by assumption⟩|simp at hag
   obtain⟨d,hd⟩:=hd;have hlen:((xs.drop i.toNat).take mm).length=mm:=by simp;omega
   refine⟨_,ly t d hd hag mm hs c (o+i.toNat) (((xs.drop i.toNat).take mm).map (Value.int k)) (by simp;omega) (fun j x hx=>?_),.agg (.ints hlen (cs:=[]) (by simp) .nil)⟩;grind
  ·have ha':ct P t=false:=by simpa using hag
   simp only[ha',Bool.false_eq_true,if_false,Option.ite_none_left_eq_some,not_or,A']at hl3;obtain⟨⟨hm,hu⟩,rfl⟩:=hl3;obtain⟨d,hd⟩:∃d,P.underlying t=some d:=by cases hx:P.underlying t<;>simp_all
   exact⟨_,lv t d hd ha' _ _ _ (cellAt _ (by omega)),.int _ _⟩
 |ptrf hr hat =>simp only[eC]at hl;rw[step _ rfl];obtain⟨y,e1,e2⟩:=qB hl hr (fun j x hx=>(hat j x hx).1);exact⟨y,e1,e2⟩
 |_=>simp[eC]at hl
theorem w9 {a:AV}{v:Value}(hr:aM g tk w a v)(hc:aK a=true):(∀cs,v≠.agg cs)∧(∀cs,v≠.tuple cs):=by cases hr<;>first|(simp[aK]at hc;done)|exact(by simp_all)
theorem lC {l:List AV}{cs:List Value}(hr:ay g tk w l cs):∀v∈cs,(∀x,v≠.agg x)∧(∀x,v≠.tuple x):=by
 induction l generalizing cs with
 |nil=>cases hr;simp
 |cons a l ih =>
  cases hr with
  |ints hl hx hr =>grind
  |one hs h1 h2 =>
   intro v hv;rcases List.mem_cons.1 hv with rfl|hv
   ·exact w9 h1 hs
   ·exact ih h2 v hv
theorem run_store {a:Addr}{v x:Value}(h1:(∀cs,v≠.agg cs)∧(∀cs,v≠.tuple cs))(hc:w.cell? a=some x)(hf:w.frozen? a=false):(store a v).run P w=.ok () (w.setCell a v):=by unfold store;cases v<;>first|exact absurd rfl (h1.1 _)|exact absurd rfl (h1.2 _)|simp[Sem.run,hc,hf]
theorem fb (ty:TypeId)(c:Nat):∀(us:List Value) (w:World) (cells:Array Value) (o i:Nat),(∀v∈us,(∀x,v≠.agg x)∧(∀x,v≠.tuple x))→w.heap[c]?=some (.cells cells ty (0,0))→o+i+us.length≤cells.size →
  ∃cells',cells'.toList=bA cells.toList (o+i) us∧(storeCells ⟨c,o,none⟩ us i).run P w=.ok () (bk w c (.cells cells' ty))
 | [],w,cells,o,i,_,hb,_=>⟨cells,by rw[oL],by
   have e:bk w c (.cells cells ty)=w:=by
    have hc:=aB hb
    have e1:w.heap[c]=.cells cells ty (0,0):=by simpa[Array.getElem?_eq_getElem hc]using hb
    unfold bk
    have:w.heap.setIfInBounds c (.cells cells ty)=w.heap:=by
     apply Array.ext_getElem?
     intro i
     rw[Array.getElem?_setIfInBounds]
     by_cases hi:c=i
     ·subst hi;simp[hc,e1]
     ·simp[hi]
    rw[this]
   rw[e];rfl⟩
 |u::us,w,cells,o,i,hu,hb,hl=>by
  simp only[List.length_cons]at hl
  have hlt:o+i<cells.size:=by omega
  have hcell:w.cell? ⟨c,o+i,none⟩=some cells[o+i]:=by rw[aw hb];simp[hlt]
  have hw:=iV (o:=o+i) hb u
  obtain⟨cells',e1,e2⟩:=fb ty c us (w.setCell ⟨c,o+i,none⟩ u) (cells.setIfInBounds (o+i) u) o (i+1) (by simp_all) (by rw[hw];exact cx hb) (by simp;omega)
  refine⟨cells',?_,?_⟩
  ·rw[e1,Array.toList_setIfInBounds,jK _ _ _ (by simpa using hlt)]
   have:=jT cells.toList (o+i) [u] us (by simp;omega)
   grind
  ·unfold storeCells
   rw[Sem.run_bind,fF,run_store (hu u (by simp)) hcell (bQ hb),Result.andThen_ok,e2,hw]
   congr 1
   simp[bk]
theorem qz {a:AV}{v:Value}(hr:aM g tk w a v)(hs:storable a=true):v.cells.size=cX (bf a):=by have:=(hr.bf hs).length;simpa using this
theorem CC (l:List AV)(n:Nat):l.foldl (fun n s=>n+ssize s) n=n+cX l:=by
 induction l generalizing n with
 |nil=>simp[cX]
 |cons a l ih=>simp[cX,ih]at *;omega
theorem ij {a:AV}(hs:storable a=true):jg a=cX (bf a):=by
 cases a<;>simp[storable,aK]at hs;case agg l=>simp only[jg,bf,CC,Nat.zero_add]
 all_goals rfl
theorem Aa {t:TypeId}{v:AV}{x:Value}(hr:aM g tk w v x)(hs:storable v=true)(hz:bW P t=some (jg v)){c o:Nat}{cells:Array Value}{ty:TypeId}(hb:w.heap[c]?=some (.cells cells ty (0,0)))(ho:o+jg v≤cells.size) :
  ∃cells',cells'.toList=bA cells.toList o x.cells.toList∧(storeVar t ⟨c,o,none⟩ x).run P w=.ok () (bk w c (.cells cells' ty)):=by have e:=qz hr hs;rw[←ij hs]at e;obtain⟨cells',e1,e2⟩:=fb (P:=P) ty c x.cells.toList w cells o 0 (lC (hr.bf hs)) hb (by simp[e];omega);refine⟨cells',by simpa using e1,?_⟩;unfold storeVar;rw[Sem.run_bind,run_sizeOf t _ hz,Result.andThen_ok,if_neg (by simp[e])];exact e2
theorem Ho {l l':List AV}{o:Nat}{vs:List AV}(hp:mP l o vs=some l'){cs:List Value}(hr:ay g tk w l cs){us:List Value}(hv:ay g tk w vs us)(h0:0<us.length):o+us.length≤cs.length:=by
 induction vs generalizing l o us cs with
 |nil=>cases hv;simp at h0
 |cons a vs ih =>
  simp only[mP,B']at hp;obtain⟨l1,h1,h2⟩:=hp;have key:∃u1 u2,us=u1++u2∧ay g tk w [a] u1∧ay g tk w vs u2∧u1.length=ssize a:=by
   cases hv with
   |ints hln hx hr=>exact⟨_,_,hx,.ints hln (by simp) .nil,hr,by simp[ssize,hln]⟩
   |one hs hh hr=>exact⟨_,_,by simp_all,.one hs hh .nil,hr,(fT hs).symm⟩
  obtain⟨u1,u2,rfl,k1,k2,k3⟩:=key;obtain⟨b1,b2⟩:=hr.zw _ _ _ h1 k1;by_cases hu:0<u2.length
  ·have:=ih h2 b2 k2 hu;rw[eL _ _ _ b1]at this;simp;omega
  simp_all
theorem ML (m:MR g h w){t:TypeId}{a v:AV}{x y:Value}{h':Hp}(hl:kT P h t a v=some h')(ha:aM g h.ag w a x)(hv:aM g h.ag w v y) :
  ∃w',(Instr.storeAt t x y).run P w=.ok () w'∧MR g h' w'∧Le g h.ag w g h'.ag w':=by
 have step:∀ad,x=.pointer (some ad)→(Instr.storeAt t x y).run P w=(storeVar t ad y).run P w:=by intro ad e;subst e;simp[Instr.storeAt,Instr.sureAddr,Sem.run_bind,pure,Sem.run]
 cases ha with
 |ptr hb =>
  rename_i b o c;simp only[kT]at hl;split at hl
  ·rename_i hn;simp only[A']at hl;subst hl;unfold MC at hn;split at hn
   ·simp only[beq_iff_eq]at hn;obtain⟨cs,rfl,hh⟩:=hv.cM;have h0:=hh.cL;have hcs:cs=#[]:=Array.toList_inj.1 h0;subst hcs;refine⟨w,?_,m,Le.refl _ _ _⟩;rw[step _ rfl];unfold storeVar;rw[Sem.run_bind,run_sizeOf t _ hn,Result.andThen_ok,if_neg (by simp[Value.cells])];rfl
   ·cases hn
  simp only[B',Option.ite_none_right_eq_some]at hl;obtain⟨l,⟨_,h1⟩,⟨hc,h2⟩⟩:=hl;simp only[E',beq_iff_eq,decide_eq_true_eq]at hc;obtain⟨⟨hs,hpos⟩,hz⟩:=hc;obtain⟨l',h3,rfl⟩:=H'.1 h2;obtain⟨cells,ty,k1,k2,k3⟩:=iQ m hb h1;have hvs:=hv.bf hs;have hsz:=qz hv hs;rw[←ij hs]at hsz;have hlen:o+jg v≤cells.size:=by have:=Ho h3 k2 hvs (by simp[hsz];omega);simpa[hsz]using this
  obtain⟨cells',e1,e2⟩:=Aa (P:=P) (t:=t) hv hs hz.symm k1 hlen;obtain⟨m',l'⟩:=m.EY (cells:=cells') (ty:=ty) hb (lP h1).1 (l':=l') k1 (by rw[e1];exact k2.put _ _ _ h3 hvs (by simp[hsz];omega)) (by rw[←Array.length_toList,←Array.length_toList,e1,eL _ _ _ (by simp[hsz];omega)]);exact⟨_,by simp_all,m',l'⟩
 |ptri hb h0 h1 ho =>
  rename_i b o n i mm c o';subst ho;simp only[kT,B',Option.ite_none_right_eq_some]at hl;obtain⟨l,⟨_,hl1⟩,⟨k,xs⟩,hl2,hl3⟩:=hl;obtain⟨cells,ty,k1,k2,k3⟩:=iQ m hb hl1;obtain⟨r1,r2,r3⟩:=k2.gG _ _ _ _ hl2;simp only[Array.length_toList]at r2
  have fin:∀(us:List Int),bW P t=some us.length→us.length≤mm→(∀u∈y.cells.toList,(∀x,u≠.agg x)∧(∀x,u≠.tuple x))→y.cells.toList=us.map (Value.int k)→∀l',gM l o n (xs.take i.toNat++us++xs.drop (i.toNat+us.length))=some l' →
    ∃w',(Instr.storeAt t (.pointer (some ⟨c,o+i.toNat,none⟩)) y).run P w=.ok () w'∧MR g (fM h b l') w'∧Le g h.ag w g (fM h b l').ag w':=by
   intro us hs hmm h1c hus l' hset
   have hysz:y.cells.size=us.length:=by rw[←Array.length_toList,hus];simp
   obtain⟨cells',e1,e2⟩:=fb (P:=P) ty c y.cells.toList w cells (o+i.toNat) 0 h1c k1 (by simp[hysz];omega)
   have hrun:(storeVar t ⟨c,o+i.toNat,none⟩ y).run P w=.ok () (bk w c (.cells cells' ty)):=by
    unfold storeVar
    rw[Sem.run_bind,run_sizeOf t _ hs,Result.andThen_ok,if_neg (by simp[hysz])]
    exact e2
   have hsp:bA cells.toList o ((xs.take i.toNat++us++xs.drop (i.toNat+us.length)).map (Value.int k))=bA cells.toList (o+i.toNat) (us.map (Value.int k)):=by
    have hx:xs.map (Value.int k)=(cells.toList.drop o).take n:=r3.symm
    simp only[List.map_append,List.map_take,List.map_drop,hx,bA,List.length_append,List.length_take,List.length_drop,List.length_map,Array.length_toList]
    rw[List.take_take,List.drop_take,List.drop_drop]
    have t1:cells.toList.take (o+i.toNat)=cells.toList.take o++(cells.toList.drop o).take i.toNat:=by rw[List.take_add]
    rw[t1,show min i.toNat n=i.toNat by omega]
    have t2:cells.toList.drop (o+i.toNat+us.length)=(cells.toList.drop (o+(i.toNat+us.length))).take (n-(i.toNat+us.length))++cells.toList.drop (o+n):=by
     rw[show cells.toList.drop (o+n)=(cells.toList.drop (o+(i.toNat+us.length))).drop (n-(i.toNat+us.length))by rw[List.drop_drop];congr 1;omega,List.take_append_drop,Nat.add_assoc]
    rw[t2]
    have t3:o+(min i.toNat (min n (cells.size-o))+us.length+min (n-(i.toNat+us.length)) (cells.size-(o+(i.toNat+us.length))))=o+n:=by omega
    simp only[List.append_assoc]
    congr 5
    all_goals omega
   obtain⟨m',l''⟩:=m.EY (cells:=cells') (ty:=ty) hb (lP hl1).1 (l':=l') k1 (by
    rw[e1,hus,Nat.add_zero,←hsp]
    exact k2.gM _ _ _ (by simp;omega) _ _ hl2 _ hset) (by rw[←Array.length_toList,←Array.length_toList,e1,eL _ _ _ (by simp[hysz];omega)])
   exact⟨_,by simp_all,m',l''⟩
  have set1:∀z:Int,xs.set i.toNat z=xs.take i.toNat++[z]++xs.drop (i.toNat+[z].length)∨mm=0:=by
   intro z;by_cases h0:mm=0
   ·exact .inr h0
   ·left;rw[List.set_eq_take_append_cons_drop,if_pos (by omega)];simp
  split at hl3
  ·simp only[Option.ite_none_right_eq_some,H']at hl3;obtain⟨⟨rfl,hs,hm⟩,l',hset,rfl⟩:=hl3;cases hv;rename_i z;rcases set1 z with e|e
   ·rw[e]at hset;exact fin [z] hs hm (by simp[Value.cells]) rfl l' hset
   ·omega
  ·simp only[Option.ite_none_right_eq_some,H']at hl3;obtain⟨⟨rfl,hs,hm⟩,l',hset,rfl⟩:=hl3;cases hv;rename_i z;rcases set1 z with e|e
   ·rw[e]at hset;exact fin [z] hs hm (by simp[Value.cells]) rfl l' hset
   ·omega
  ·simp only[Option.ite_none_right_eq_some,H']at hl3;obtain⟨⟨rfl,rfl,hs⟩,l',hset,rfl⟩:=hl3;rename_i ys;obtain⟨cs,rfl,hh⟩:=hv.cM;obtain⟨hln,r,hx,hn⟩:=hh.bJ;obtain rfl:=hn.cL;rw[List.append_nil]at hx;subst hln;refine fin ys hs (Nat.le_refl _) (fun u hu=>?_) (by simpa[Value.cells]using hx) l' hset;simp only[Value.cells,hx]at hu;grind
  ·simp at hl3
 |_=>simp[kT]at hl
end
noncomputable section
variable {P:Program}{g:Gh}{tk:List Nat}{w:World}
@[simp] theorem get_guard {α:Type} (b:Bool) (t:Tr α) (x:α):(Tr.guard b t).get=some x ↔ b=true∧t.get=some x:=by cases b<;>simp[Tr.guard,Tr.get]
@[simp] theorem bB {α:Type} (o:Option α):(Tr.opt o).get=o:=by cases o<;>rfl
@[simp] theorem aj {α:Type} (a:α):(Tr.ret a).get=some a:=rfl
@[simp] theorem ae1 {α:Type}:(Tr.fail:Tr α).get=none:=rfl
theorem get_bind {α β:Type}(t:Tr α)(f:α→Tr β):(t.bind f).get=t.get.bind fun a=>(f a).get:=by
 induction t with
 |ret a=>rfl
 |fail=>rfl
 |br b t e iht ihe=>cases b<;>simp[Tr.bind,Tr.get,iht,ihe]
 |ck c b b' s s' t ih=>cases c<;>simp[Tr.bind,Tr.get,ih]
theorem fP {α:Type}(b:Bool)(t e:Tr α):(Tr.br b t e).get=bif b then t.get else e.get:=rfl
theorem wrap_u64 (n:Int):IntKind.wrap .u64 n=n%18446744073709551616:=by simp[IntKind.wrap,IntKind.bits,IntKind.signed]
theorem mb (n:Nat)(h:n<18446744073709551616):IntKind.wrap .u64 (n:Int)=n:=by rw[wrap_u64];omega
theorem FI {op:BinOp}{k:IntKind}{x y r:Int}(t:TypeId)(h:EZ op k x y=some r):(binOp op t (.int k x) (.int k y)).run P w=.ok (.int k r) w:=by cases op<;>simp[EZ]at h<;>subst h<;>simp[binOp,Op.intArith,Op.intBits,wr,lz,pure,Sem.run]
theorem QS {op:BinOp}{k:IntKind}{x y:Int}{r:Bool}(t:TypeId)(h:aa9 op x y=some r):(binOp op t (.int k x) (.int k y)).run P w=.ok (.bool r) w:=by cases op<;>simp[aa9]at h<;>subst h<;>simp[binOp,Op.intCmp,pure,Sem.run]
theorem CI {op:BinOp}{k:IntKind}{x y r:Int}(t:TypeId)(hy:y≠0)(h:aan op k x y=some r):(binOp op t (.int k x) (.int k y)).run P w=.ok (.int k r) w:=by cases op<;>simp[aan]at h<;>subst h<;>simp[binOp,Op.intDiv,wr,pure,Sem.run,hy]
theorem Fe {op:BinOp}{k k':IntKind}{x y r:Int}(t:TypeId)(hy:0≤y)(h:Eg op k x y.toNat=some r):(binOp op t (.int k x) (.int k' y)).run P w=.ok (.int k r) w:=by
 have hy':¬y<0:=by omega
 cases op<;>simp[Eg]at h<;>subst h<;>simp[binOp,Op.shift,wr,pure,Sem.run,hy']
theorem fS (x:BitVec 64):BitVec.ofInt 64 (x.toNat:Int)=x:=by simp_all
theorem Fk {op:BinOp}{x y r:BitVec 64}(t:TypeId)(h:Eh op x y=some r):(binOp op t (.int .u64 (x.toNat:Int)) (.int .u64 (y.toNat:Int))).run P w=.ok (.int .u64 (r.toNat:Int)) w:=by
 have hx:=x.isLt;have hy:=y.isLt;cases op<;>simp only[Eh,A',reduceCtorEq]at h<;>subst h<;>simp only[binOp,Op.intArith,Op.intBits,ne_eq,not_true_eq_false,if_false,pure,Sem.run]
 ·simp only[wrap_u64,BitVec.toNat_add];congr 2
 ·simp only[wrap_u64,BitVec.toNat_sub];congr 2;omega
 ·simp only[wrap_u64,BitVec.toNat_mul];congr 2
 ·show Result.ok (Value.int .u64 (IntKind.wrap .u64 _)) w=_;simp only[IntKind.bits,fS];rw[mb _ (BitVec.isLt _)];rfl
 ·show Result.ok (Value.int .u64 (IntKind.wrap .u64 _)) w=_;simp only[IntKind.bits,fS];rw[mb _ (BitVec.isLt _)];rfl
 ·show Result.ok (Value.int .u64 (IntKind.wrap .u64 _)) w=_;simp only[IntKind.bits,fS];rw[mb _ (BitVec.isLt _)];rfl
 ·show Result.ok (Value.int .u64 (IntKind.wrap .u64 _)) w=_;simp only[IntKind.bits,fS];rw[mb _ (BitVec.isLt _)];rfl
theorem J5 (x y:BitVec 64):((x.toNat:Int)==(y.toNat:Int))=(x==y):=by rw[Bool.eq_iff_iff];simp only[beq_iff_eq];exact⟨fun h=>BitVec.eq_of_toNat_eq (by omega),fun h=>by rw[h]⟩
theorem Pr {op:BinOp}{x y:BitVec 64}{r:Bool}(t:TypeId)(h:Ys op x y=some r):(binOp op t (.int .u64 (x.toNat:Int)) (.int .u64 (y.toNat:Int))).run P w=.ok (.bool r) w:=by
 have e:((x.toNat:Int)==(y.toNat:Int))=(x==y):=by rw[Bool.eq_iff_iff];simp only[beq_iff_eq];exact⟨fun h=>BitVec.eq_of_toNat_eq (by omega),fun h=>by rw[h]⟩
 cases op<;>simp only[Ys,A',reduceCtorEq]at h<;>subst h<;>simp only[binOp,Op.intCmp,ne_eq,not_true_eq_false,if_false,pure,Sem.run,e,bne];all_goals simp
theorem O3 {op:BinOp}{x y:BitVec 64}(t:TypeId)(hy:y≠0#64)(hop:op=.quo∨op=.rem):(binOp op t (.int .u64 (x.toNat:Int)) (.int .u64 (y.toNat:Int))).run P w=.ok (.int .u64 (((if op=.rem then x%y else x / y).toNat:Nat):Int)) w:=by
 have h0:(y.toNat:Int)≠0:=by intro e;apply hy;apply BitVec.eq_of_toNat_eq;simpa using e
 have hx:=x.isLt;rcases hop with rfl|rfl
 ·simp only[binOp,ne_eq,not_true_eq_false,if_false,Op.intDiv,h0,pure,Sem.run,reduceCtorEq,BitVec.toNat_udiv,wrap_u64];congr 2;rw[Int.tdiv_eq_ediv_of_nonneg (by omega)];have h1:x.toNat / y.toNat≤x.toNat:=Nat.div_le_self _ _;grind
 ·simp only[binOp,ne_eq,not_true_eq_false,if_false,Op.intDiv,h0,pure,Sem.run,if_true,BitVec.toNat_umod];congr 2
theorem EX {op:BinOp}{k':IntKind}{x r:BitVec 64}{y:Int}(t:TypeId)(hy:0≤y)(h:Ff op x y.toNat=some r):(binOp op t (.int .u64 (x.toNat:Int)) (.int k' y)).run P w=.ok (.int .u64 (r.toNat:Int)) w:=by
 have hy':¬y<0:=by omega
 have hx:=x.isLt;cases op<;>simp only[Ff,A',reduceCtorEq]at h<;>subst h<;>simp only[binOp,Op.shift,hy',if_false,pure,Sem.run,IntKind.bits]
 ·congr 2;rw[wrap_u64,BitVec.toNat_shiftLeft,Nat.shiftLeft_eq];by_cases h64:y.toNat≤64
  ·simp_all
  ·rw[Nat.min_eq_right (by omega)];have e:x.toNat*2^y.toNat%2^64=0:=by rw[show y.toNat=(y.toNat-64)+64 by omega,Nat.pow_add,←Nat.mul_assoc];exact Nat.mul_mod_left _ _
   rw[e];omega
 ·congr 2;rw[BitVec.toNat_ushiftRight,Nat.shiftRight_eq_div_pow,Int.fdiv_eq_ediv_of_nonneg _ (by exact Int.le_of_lt (Int.pow_pos (by decide)))];by_cases h64:y.toNat≤64
  ·simp_all
  ·rw[Nat.min_eq_right (by omega),Nat.div_eq_of_lt]
   ·omega
   ·exact Nat.lt_of_lt_of_le hx (Nat.pow_le_pow_right (by decide) (by omega))
theorem Bp {op:BinOp}{t:TypeId}{x y:Operand}{a b:Value}(h1:a≠.nilIface∨b≠.nilIface)(h2:(∀c,a≠.agg c)∨P.eqGuardType P.depth t=false∨¬(op=.eql∨op=.neq)):(eqGuard op t x y a b).run P w=.ok () w:=by
 by_cases hop:op=.eql∨op=.neq
 ·have h2':(∀c,a≠.agg c)∨P.eqGuardType P.depth t=false:=by
   rcases h2 with h|h|h
   ·exact .inl h
   ·exact .inr h
   ·exact absurd hop h
  have fin:∀op:BinOp,(op=.eql∨op=.neq)→(eqGuard op t x y a b).run P w=.ok () w:=by
   intro op ho;rcases ho with rfl|rfl
   all_goals
    unfold eqGuard
    simp only[Bool.not_true,Bool.false_eq_true,if_false]
    split
    ·rcases h1 with h|h<;>exact absurd rfl h
    ·rename_i ca cb
     rcases h2' with h|h
     ·exact absurd rfl (h ca)
     ·simp[Sem.run_bind,program,Sem.run,h,pure]
    ·rfl
  exact fin op hop
 ·cases op<;>first|exact absurd (.inl rfl) hop|exact absurd (.inr rfl) hop|rfl
theorem yM {op:BinOp}{t:TypeId}{x y:Operand}{a b v:Value}(h1:a≠.nilIface∨b≠.nilIface)(h2:(∀c,a≠.agg c)∨P.eqGuardType P.depth t=false∨¬(op=.eql∨op=.neq))(h:(binOp op t a b).run P w=.ok v w) :
  (do eqGuard op t x y a b;binOp op t a b:Sem Value).run P w=.ok v w:=by rw[Sem.run_bind,Bp h1 h2,Result.andThen_ok,h]
theorem Ea (x y:List UInt8):kN x y=Op.bytesLess x y:=by
 induction x generalizing y with
 |nil=>cases y<;>rfl
 |cons a x ih=>cases y with
  |nil=>rfl
  |cons b y=>rw[kN,Op.bytesLess,ih]
theorem toList_data (s:ByteArray):s.toList=s.data.toList:=ByteArray.toList_eq s
theorem MF {op:BinOp}{x y:ByteArray}{r:Bool}(t:TypeId)(h:Ze op x.data.toList y.data.toList=some r)(hop:op≠.add):(binOp op t (.string x) (.string y)).run P w=.ok (.bool r) w:=by cases op<;>simp only[Ze,A',reduceCtorEq]at h<;>subst h<;>simp[binOp,Op.stringOp,Ea,toList_data,pure,Sem.run]
theorem Qa {x y:ByteArray}(t:TypeId)(h:x.size+y.size≤qI):∃z:ByteArray,z.data.toList=x.data.toList++y.data.toList∧(binOp .add t (.string x) (.string y)).run P w=.ok (.string z) w:=by
 refine⟨x++y,by simp,?_⟩;have:¬(((x.size+y.size:Nat):Int)>IntKind.i64.max):=by simp only[IntKind.max,IntKind.signed,IntKind.bits,if_true];simp only[qI]at h;omega
 simp only[binOp,Op.stringOp,this,if_false,pure,Sem.run]
end
noncomputable section
variable {P:Program}{g:Gh}{tk:List Nat}{w:World}
def bD:List Value→List Value→Option Bool
 | [],[]=>some true
 | .int k a::xs,.int k' b::ys=>if k=k' then(bD xs ys).map ((a==b)&&·)else none
 | .bool a::xs,.bool b::ys=>(bD xs ys).map ((a==b)&&·)
 | .string a::xs,.string b::ys=>(bD xs ys).map ((a.toList==b.toList)&&·)
 |_,_=>none
theorem Ot (k:IntKind)(l l':List Int)(h:l.length=l'.length)(xs ys:List Value)(e:Bool)(hc:bD xs ys=some e) :
  bD (l.map (Value.int k)++xs) (l'.map (Value.int k)++ys)=some ((l==l')&&e):=by
 induction l generalizing l' with
 |nil=>grind
 |cons a l ih=>cases l' with
  |nil=>simp at h
  |cons b l' =>
   simp only[List.map_cons,List.cons_append,bD,if_true,ih l' (by simpa using h),Option.map_some]
   simp[List.cons_beq_cons,Bool.and_assoc]
theorem EJ {xs ys:List AV}{cs ds:List Value}{e:Bool}(h:eY xs ys=some e)(hx:ay g tk w xs cs)(hy:ay g tk w ys ds):bD cs ds=some e:=by
 induction xs generalizing ys cs ds e with
 |nil=>cases ys with
  |nil=>cases hx;cases hy;simpa[eY,bD]using h
  |cons=>simp[eY]at h
 |cons x xs ih =>
  cases ys with
  |nil=>cases x<;>simp[eY]at h
  |cons y ys =>
   by_cases hi:∃k n l,x=.ints k n l
   ·obtain⟨k,n,l,rfl⟩:=hi;obtain⟨hl,r,rfl,hr⟩:=hx.bJ;by_cases hj:∃k n l,y=.ints k n l
    ·obtain⟨k',n',l',rfl⟩:=hj;obtain⟨hl',r',rfl,hr'⟩:=hy.bJ;simp only[eY,Option.ite_none_right_eq_some,H']at h;obtain⟨⟨rfl,rfl⟩,e',h1,rfl⟩:=h;exact Ot _ _ _ (by omega) _ _ _ (ih h1 hr hr')
    ·exfalso;cases y<;>first|exact hj ⟨_,_,_,rfl⟩|simp[eY,Av]at h
   ·have hcx:aK x=true:=by
     cases hx with
     |ints=>simp_all
     |one hs=>exact hs
    obtain⟨c,r,rfl,h1,hr⟩:=hx.inv_one hcx;by_cases hj:∃k n l,y=.ints k n l
    ·exfalso;obtain⟨k',n',l',rfl⟩:=hj;cases x<;>first|exact hi ⟨_,_,_,rfl⟩|simp[eY,Av]at h
    have hcy:aK y=true:=by
     cases hy with
     |ints=>simp_all
     |one hs=>exact hs
    obtain⟨d,r',rfl,h2,hr'⟩:=hy.inv_one hcy;cases h1<;>simp[aK]at hcx<;>cases h2<;>simp[aK]at hcy<;>simp only[eY,Av,H',Option.ite_none_right_eq_some,reduceCtorEq]at h
    all_goals first
     |(obtain⟨rfl,e',h1,rfl⟩:=h;simp[bD,ih h1 hr hr'])
     |(obtain⟨e',h1,rfl⟩:=h;simp[bD,ih h1 hr hr'])
     |skip
    ·rw[J5]
    ·rename_i ha _ _ hb _ _;subst ha;subst hb;rw[toList_data,toList_data]
theorem yf {m:Nat}:∀{cs ds:List Value} {e:Bool},bD cs ds=some e→m≤cs.length→∃e1 e2,bD (cs.take m) (ds.take m)=some e1∧bD (cs.drop m) (ds.drop m)=some e2∧e=(e1&&e2):=by
 induction m with
 |zero =>intro cs ds e h _;exact⟨true,e,by simp[bD],by simpa using h,by simp⟩
 |succ m ih =>
  intro cs ds e h hm;cases cs with
  |nil=>simp at hm
  |cons c cs=>cases ds with
   |nil=>cases c<;>simp[bD]at h
   |cons d ds =>
    simp only[List.length_cons]at hm
    cases c<;>cases d<;>simp only[bD,H',Option.ite_none_right_eq_some,reduceCtorEq]at h
    ·rename_i a b
     obtain⟨e',h1,rfl⟩:=h
     obtain⟨e1,e2,k1,k2,k3⟩:=ih h1 (by omega)
     exact⟨a==b&&e1,e2,by simp only[List.take_succ_cons,bD,k1,Option.map_some],by simpa using k2,by rw[k3,Bool.and_assoc]⟩
    ·rename_i _ a _ b
     obtain⟨hk,e',h1,rfl⟩:=h
     obtain⟨e1,e2,k1,k2,k3⟩:=ih h1 (by omega)
     exact⟨a==b&&e1,e2,by simp only[List.take_succ_cons,bD,k1,Option.map_some,if_pos hk],by simpa using k2,by rw[k3,Bool.and_assoc]⟩
    ·rename_i a b
     obtain⟨e',h1,rfl⟩:=h
     obtain⟨e1,e2,k1,k2,k3⟩:=ih h1 (by omega)
     exact⟨a.toList==b.toList&&e1,e2,by simp only[List.take_succ_cons,bD,k1,Option.map_some],by simpa using k2,by rw[k3,Bool.and_assoc]⟩
def yT:Value→Option CK
 | .bool _=>some .b
 | .int k _=>some (.i k)
 | .string _=>some .s
 |_=>none
theorem GK {l:List AV}{cs:List Value}{ks:List CK}(h:ay g tk w l cs)(hk:Nb l=some ks):cs.map yT=ks.map some:=by
 induction l generalizing cs ks with
 |nil=>cases h;simp[Nb]at hk;subst hk;rfl
 |cons a l ih =>
  by_cases hi:∃k n l,a=.ints k n l
  ·obtain⟨k,n,xs,rfl⟩:=hi;obtain⟨hl,r,rfl,hr⟩:=h.bJ;simp only[Nb,H']at hk;obtain⟨ks',hk',rfl⟩:=hk;rw[List.map_append,ih hr hk',List.map_append];congr 1;subst hl;clear h ih hr hk';induction xs with
   |nil=>rfl
   |cons x xs ihx=>simp[yT,List.replicate_succ,ihx]
  ·have hc:aK a=true:=by
    cases h with
    |ints=>simp_all
    |one hs=>exact hs
   obtain⟨c,r,rfl,h1,hr⟩:=h.inv_one hc;cases h1<;>simp[aK]at hc<;>simp only[Nb,H',reduceCtorEq]at hk;all_goals (obtain⟨ks',hk',rfl⟩:=hk;simp[yT,ih hr hk'])
def sl (P:Program)(t:TypeId)(cs:List Value):Value:=if ct P t then .agg cs.toArray else cs.headD Go.undef
theorem run_part {t:TypeId}{d:TypeDesc}(hd:P.underlying t=some d){m:Nat}(hs:bW P t=some m){cs:Array Value}{o:Nat}(ho:o+m≤cs.size)(h1:ct P t=false→m=1) :
  (part t cs o).run P w=.ok (sl P t ((cs.toList.drop o).take m)) w:=by
 unfold part sl;rw[Sem.run_bind,kv t d hd,Result.andThen_ok];cases ha:ct P t with
 |true =>simp only[if_true,Sem.run_bind,run_sizeOf t m hs,Result.andThen_ok];simp only[pure,Sem.run];congr 2;grind
 |false =>
  have hm:=h1 ha;subst hm;simp only[Bool.false_eq_true,if_false];have hlt:o<cs.size:=by omega
  rw[Array.getElem?_eq_getElem hlt];simp only[pure,Sem.run];have e:(cs.toList.drop o).take 1=[cs[o]]:=by rw[List.drop_eq_getElem_cons (by simpa using hlt)];simp
  rw[e];rfl
def EqT (P:Program)(d:Nat)(t:TypeId)(ks:List CK):Prop :=
 ((ct P t=false→ks.length=1)∧∃k,P.underlying t=some k) ∧
 ∀(n:Nat),d≤n→∀(cs ds:List Value) (e:Bool) (w:World),cs.map yT=ks.map some→ds.map yT=ks.map some→bD cs ds=some e→(Op.equalIn n t (sl P t cs) (sl P t ds)).run P w=.ok e w
theorem eM {cs:List Value}{ks:List CK}(h:cs.map yT=ks.map some):cs.length=ks.length:=by have:=congrArg List.length h;simpa using this
theorem ot {d:Nat}{t:TypeId}{k:CK}{kd:TypeDesc}(hu:P.underlying t=some kd)(ha:ct P t=false)
  (hh:∀(n:Nat) (c d:Value) (e:Bool) (w:World),yT c=some k→yT d=some k→bD [c] [d]=some e→(Op.equalIn (n+1) t c d).run P w=.ok e w):EqT P (d+1) t [k]:=by
 refine⟨by simp_all,fun n hn cs ds e w h1 h2 hc=>?_⟩;obtain⟨n,rfl⟩:∃n',n=n'+1:=⟨n-1,by omega⟩;have l1:=eM h1;have l2:=eM h2;match cs,ds,l1,l2 with
 | [c],[dd],_,_ =>simp only[List.map_cons,List.map_nil,List.cons.injEq,and_true]at h1 h2;simpa[sl,ha]using hh n c dd e w h1 h2 hc
theorem JX {d:Nat}{t el:TypeId}{k:Nat}{ks:List CK}(hu:P.underlying t=some (.array k el))(hs:bW P el=some ks.length)(ih:EqT P d el ks):EqT P (d+1) t (List.replicate k ks).flatten:=by
 have ha:ct P t=true:=by simp[ct,hu]
 refine⟨by simp_all,fun n hn cs ds e w h1 h2 hc=>?_⟩;obtain⟨n,rfl⟩:∃n',n=n'+1:=⟨n-1,by omega⟩;obtain⟨⟨q2,kd,q4⟩,ih⟩:=ih;obtain⟨i,hi,hiz⟩:=qw hs;simp only[sl,ha,if_true];rw[run_equalIn_array w n _ _ hu hi];have hcell:P.cellsOf el=ks.length:=by simp[Program.cellsOf,hi,hiz]
 rw[hcell,List.range_eq_range'];have l1:=eM h1;have l2:=eM h2
 have items:∀(j i:Nat) (e:Bool),i*ks.length≤cs.length→i*ks.length≤ds.length→(cs.drop (i*ks.length)).map yT=((List.replicate j ks).flatten).map some→(ds.drop (i*ks.length)).map yT=((List.replicate j ks).flatten).map some →
   bD (cs.drop (i*ks.length)) (ds.drop (i*ks.length))=some e→(Op.eqItems n el ks.length cs.toArray ds.toArray (List.range' i j)).run P w=.ok e w:=by
  intro j
  induction j with
  |zero =>
   intro i e p1 p2 a1 a2 hce
   have b1:=eM a1
   have b2:=eM a2
   simp only[List.replicate_zero,List.flatten_nil,List.length_nil]at b1 b2
   rw[List.eq_nil_of_length_eq_zero b1,List.eq_nil_of_length_eq_zero b2]at hce
   simp[bD]at hce
   subst hce
   rfl
  |succ j ihj =>
   intro i e p1 p2 a1 a2 hce
   have b1:=eM a1
   have b2:=eM a2
   simp only[List.replicate_succ,List.flatten_cons,List.length_append,List.length_drop]at b1 b2
   simp only[List.replicate_succ,List.flatten_cons]at a1 a2
   obtain⟨e1,e2,k1,k2,k3⟩:=yf (m:=ks.length) hce (by simp;omega)
   have t1:((cs.drop (i*ks.length)).take ks.length).map yT=ks.map some:=by rw[List.map_take,a1,List.map_append,List.take_append_of_le_length (by simp),List.take_of_length_le (by simp)]
   have t2:((ds.drop (i*ks.length)).take ks.length).map yT=ks.map some:=by rw[List.map_take,a2,List.map_append,List.take_append_of_le_length (by simp),List.take_of_length_le (by simp)]
   have q1:=ih n (by omega) _ _ e1 w t1 t2 k1
   simp only[List.range'_succ,Op.eqItems,Sem.run_bind]
   rw[run_part q4 hs (by simp;omega) q2,Result.andThen_ok,run_part q4 hs (by simp;omega) q2,Result.andThen_ok]
   rw[q1,Result.andThen_ok,k3]
   cases e1 with
   |false=>simp[pure,Sem.run]
   |true =>
    simp only[Bool.not_true,Bool.false_eq_true,if_false,Bool.true_and]
    have en:(i+1)*ks.length=i*ks.length+ks.length:=by rw[Nat.add_mul,Nat.one_mul]
    refine ihj (i+1) e2 (by rw[en];omega) (by rw[en];omega) ?_ ?_ ?_
    ·rw[en,←List.drop_drop,List.map_drop,a1,List.map_append,List.drop_append_of_le_length (by simp),List.drop_of_length_le (by simp),List.nil_append]
    ·rw[en,←List.drop_drop,List.map_drop,a2,List.map_append,List.drop_append_of_le_length (by simp),List.drop_of_length_le (by simp),List.nil_append]
    simp_all
 grind
def kY (P:Program)(d:Nat)(acc:Option (List CK))(f:Field):Option (List CK) :=
 acc.bind fun ks => if f.name != "_" && f.offset == ks.length then (JL P d f.type).bind fun k => if bW P f.type = some k.length then some (ks ++ k) else none else none
theorem mo (d:Nat)(l:List Field):l.foldl (kY P d) none=none:=by
 induction l with
 |nil=>rfl
 |cons f l ih=>simpa[kY]using ih
theorem Fq {d:Nat}{t:TypeId}{fs:Array Field}{ks:List CK}(hu:P.underlying t=some (.struct fs))(hst:P.stoodInHeld t=false)(hk:fs.toList.foldl (kY P d) (some [])=some ks)
  (ih:∀(t:TypeId) (k:List CK),JL P d t=some k→EqT P d t k):EqT P (d+1) t ks:=by
 have ha:ct P t=true:=by simp[ct,hu]
 refine⟨by simp_all,fun n hn cs ds e w h1 h2 hc=>?_⟩
 obtain⟨n,rfl⟩:∃n',n=n'+1:=⟨n-1,by omega⟩
 have hfs:P.fieldsOf t=fs:=by simp[Program.fieldsOf,hu]
 have l1:=eM h1
 have l2:=eM h2
 simp only[sl,ha,if_true]
 rw[run_equalIn_struct w n t _ _ (by rw[hfs];exact hu) hst,hfs]
 have fields:∀(l:List Field) (k0:List CK) (e:Bool),l.foldl (kY P d) (some k0)=some ks→∃k1,ks=k0++k1∧(bD (cs.drop k0.length) (ds.drop k0.length)=some e→(Op.eqFields n cs.toArray ds.toArray l).run P w=.ok e w):=by
  intro l
  induction l with
  |nil =>
   intro k0 e hf
   simp at hf
   subst hf
   refine⟨[],by simp,fun hce=>?_⟩
   rw[List.drop_of_length_le (by omega),List.drop_of_length_le (by omega)]at hce
   simp[bD]at hce
   subst hce
   rfl
  |cons f l ihl =>
   intro k0 e hf
   simp only[List.foldl_cons]at hf
   by_cases hcond : (f.name != "_" && f.offset == k0.length) = true
   ·cases hk':JL P d f.type with
    |none=>simp only[kY,Option.bind_some,if_pos hcond,hk',Option.bind_none]at hf;rw[mo]at hf;cases hf
    |some k =>
     by_cases hsk:bW P f.type=some k.length
     ·have e0:kY P d (some k0) f=some (k0++k):=by simp only[kY,Option.bind_some,if_pos hcond,hk',if_pos hsk]
      rw[e0]at hf
      simp only[E',bne_iff_ne,ne_eq,beq_iff_eq]at hcond
      obtain⟨hname,hoff⟩:=hcond
      obtain⟨k2,hk2,_⟩:=ihl (k0++k) true hf
      refine⟨k++k2,by simp_all,fun hce=>?_⟩
      have hlen:ks.length=k0.length+k.length+k2.length:=by rw[hk2];simp;omega
      obtain⟨e1,e2,c1,c2,c3⟩:=yf (m:=k.length) hce (by simp;omega)
      have t1:((cs.drop k0.length).take k.length).map yT=k.map some:=by
       rw[List.map_take,List.map_drop,h1,hk2,List.append_assoc,List.map_append,List.drop_append_of_le_length (by simp),List.drop_of_length_le (by simp),List.nil_append,List.map_append,List.take_append_of_le_length (by simp),List.take_of_length_le (by simp)]
      have t2:((ds.drop k0.length).take k.length).map yT=k.map some:=by
       rw[List.map_take,List.map_drop,h2,hk2,List.append_assoc,List.map_append,List.drop_append_of_le_length (by simp),List.drop_of_length_le (by simp),List.nil_append,List.map_append,List.take_append_of_le_length (by simp),List.take_of_length_le (by simp)]
      obtain⟨⟨q2,kd,q4⟩,q⟩:=ih f.type k hk'
      have q1:=q n (by omega) _ _ e1 w t1 t2 c1
      simp only[Op.eqFields,hname,ne_eq,not_false_eq_true,if_true,Sem.run_bind]
      rw[hoff,run_part q4 hsk (by simp;omega) q2,Result.andThen_ok,run_part q4 hsk (by simp;omega) q2,Result.andThen_ok]
      rw[q1,Result.andThen_ok,c3]
      cases e1 with
      |false=>simp[pure,Sem.run]
      |true =>
       simp only[Bool.not_true,Bool.false_eq_true,if_false,Bool.true_and]
       rw[List.drop_drop,List.drop_drop]at c2
       grind
     ·simp only[kY,Option.bind_some,if_pos hcond,hk',if_neg hsk]at hf;rw[mo]at hf;cases hf
   ·simp only[kY,Option.bind_some,if_neg hcond]at hf;rw[mo]at hf;cases hf
 grind
theorem TB:∀(d:Nat) (t:TypeId) (ks:List CK),JL P d t=some ks→EqT P d t ks:=by
 intro d;induction d with
 |zero=>intro t ks h;simp[JL]at h
 |succ d ih =>
  intro t ks h;obtain⟨kd,hu⟩:∃kd,P.underlying t=some kd:=by
   match hx:P.underlying t with
   |some kd=>exact⟨kd,rfl⟩
   |none=>simp only[JL,hx]at h;cases h
  simp only[JL,hu]at h;cases kd;case bool =>simp only[Option.ite_none_right_eq_some,A']at h;obtain⟨_,rfl⟩:=h;refine ot hu (by simp[ct,hu]) fun n c d' e w h1 h2 he=>?_;cases c<;>simp[yT]at h1;cases d'<;>simp[yT]at h2;simp[bD]at he;subst he;exact run_equalIn_bool' w n t _ _ hu
  case int k =>simp only[Option.ite_none_right_eq_some,A']at h;obtain⟨_,rfl⟩:=h;refine ot hu (by simp[ct,hu]) fun n c d' e w h1 h2 he=>?_;cases c<;>simp[yT]at h1;cases d'<;>simp[yT]at h2;subst h1;subst h2;simp[bD]at he;subst he;exact run_equalIn_int w n t _ _ _ _ hu
  case string =>simp only[Option.ite_none_right_eq_some,A']at h;obtain⟨_,rfl⟩:=h;refine ot hu (by simp[ct,hu]) fun n c d' e w h1 h2 he=>?_;cases c<;>simp[yT]at h1;cases d'<;>simp[yT]at h2;simp[bD]at he;subst he;exact run_equalIn_string w n t _ _ hu
  case array k el =>simp only[B',Option.ite_none_right_eq_some,A']at h;obtain⟨z,hz,hsz,rfl⟩:=h;exact JX hu hsz (ih el z hz)
  case struct fs =>simp only[Option.ite_none_left_eq_some]at h;exact Fq hu (by simpa using h.1) h.2 ih
  all_goals (simp at h)
end
noncomputable section
variable {P:Program}{g:Gh}{tk:List Nat}{w:World}
theorem yx {y:AV}{b:Value}{ok:Bool}{n:Nat}(hc:nE y=some (ok,n))(hy:aM g tk w y b)(hok:ok=true):∃k m,b=.int k m∧0≤m∧m.toNat=n:=by
 cases y<;>simp[nE]at hc;case u64 x=>cases hy;grind
 all_goals
  cases hy
  obtain⟨rfl,rfl⟩:=hc
  exact(by grind)
theorem JF (op:BinOp):Gn op=true ↔ op=.quo∨op=.rem:=by cases op<;>simp[Gn]
theorem iT (op:BinOp):isEq op=true ↔ op=.eql∨op=.neq:=by cases op<;>simp[isEq]
def Dq (P:Program)(g:Gh)(tk:List Nat)(w:World)(op:BinOp)(t:TypeId)(a b:Value)(v:AV):Prop :=
 ∃v',(binOp op t a b).run P w=.ok v' w∧aM g tk w v v'
theorem mY (c:Bool)(k:IntKind)(n:Int):aM g tk w (Xs c k n) (.int k n):=by cases c<;>constructor
theorem S5 (c:Bool)(b:Bool):aM g tk w (mkB c b) (.bool b):=by cases c<;>constructor
theorem ux {y:AV}{b:Value}{c:Bool}{k:IntKind}{n:Int}(h:Ov y=some (c,k,n))(hy:aM g tk w y b):b=.int k n:=by cases y<;>simp[Ov]at h<;>cases hy;all_goals (obtain⟨rfl,rfl,rfl⟩:=h;rfl)
theorem wZ {y:AV}{ok:Bool}{n:Nat}(hs:ni y=true)(hc:nE y=some (ok,n)):ok=true:=by
 cases y<;>simp[ni,nE]at hs hc
 ·simp_all
 simp_all
theorem Ir {op:BinOp}{t:TypeId}{c:Bool}{k:IntKind}{a:Int}{y v:AV}{b:Value}(h:(Tc op c k a y).get=some v)(hy:aM g tk w y b):Dq P g tk w op t (.int k a) b v:=by
 unfold Tc at h;split at h
 ·split at h
  ·rename_i ok n hc;split at h
   ·rename_i r hr;have key:ok=true→Dq P g tk w op t (.int k a) b (Xs (c&&isC y) k r):=fun hok=>by obtain⟨k',m,rfl,hm,hn⟩:=yx hc hy hok;exact⟨_,Fe t hm (by rw[hn];exact hr),mY _ _ _⟩
    split at h
    ·rename_i hs;simp only[aj,A']at h;subst h;exact key (wZ hs hc)
    simp_all
   ·simp at h
  ·simp at h
 ·split at h
  ·rename_i c' k' b' hi;obtain rfl:=ux hi hy;split at h
   ·rename_i hk;subst hk;split at h
    ·split at h
     ·rename_i r hr;split at h
      ·split at h
       ·simp at h
       ·rename_i hb;simp only[aj,A']at h;subst h;exact⟨_,CI t hb hr,mY _ _ _⟩
      ·simp only[get_guard,aj,A',Bool.not_eq_true',beq_eq_false_iff_ne,ne_eq]at h;obtain⟨hb,rfl⟩:=h;exact⟨_,CI t hb hr,mY _ _ _⟩
     ·simp at h
    ·split at h
     ·simp only[bB,H']at h;obtain⟨r,hr,rfl⟩:=h;exact⟨_,QS t hr,S5 _ _⟩
     ·simp only[bB,H']at h;obtain⟨r,hr,rfl⟩:=h;exact⟨_,FI t hr,mY _ _ _⟩
   ·simp at h
  ·simp at h
theorem RV {op:BinOp}{t:TypeId}{a:BitVec 64}{y v:AV}{b:Value}(h:(aaq op a y).get=some v)(hy:aM g tk w y b):Dq P g tk w op t (.int .u64 (a.toNat:Int)) b v:=by
 unfold aaq at h;split at h
 ·split at h
  ·rename_i ok n hc;split at h
   ·rename_i r hr;have key:ok=true→Dq P g tk w op t (.int .u64 (a.toNat:Int)) b (.u64 r):=fun hok=>by obtain⟨k',m,rfl,hm,hn⟩:=yx hc hy hok;exact⟨_,EX t hm (by rw[hn];exact hr),.u64 _⟩
    split at h
    ·rename_i hs;simp only[aj,A']at h;subst h;exact key (wZ hs hc)
    simp_all
   ·simp at h
  ·simp at h
 ·split at h
  ·rename_i b';cases hy;split at h
   ·simp only[bB,H']at h;obtain⟨r,hr,rfl⟩:=h;exact⟨_,Pr t hr,.bool _⟩
   ·split at h
    ·rename_i hd;simp only[get_guard,aj,A',Bool.not_eq_true',beq_eq_false_iff_ne,ne_eq]at h;obtain⟨hb,rfl⟩:=h;exact⟨_,O3 t hb ((JF op).1 hd),.u64 _⟩
    ·simp only[bB,H']at h;obtain⟨r,hr,rfl⟩:=h;exact⟨_,Fk t hr,.u64 _⟩
  ·simp at h
theorem uu {op:BinOp}{t:TypeId}{a b:Bool}(h:isEq op=true)(ht:pj P t=true):(binOp op t (.bool a) (.bool b)).run P w=.ok (.bool (cg op (a==b))) w:=by
 have hd:P.underlying t=some .bool:=by unfold pj at ht;split at ht<;>simp_all
 rcases(iT op).1 h with rfl|rfl
 ·simp only[binOp,Op.equal,Op.maxDepth,Sem.run_bind,cg];rw[run_equalIn_bool' w 9999 t a b hd];rfl
 ·simp only[binOp,Op.equal,Op.maxDepth,Sem.run_bind,cg];rw[run_equalIn_bool' w 9999 t a b hd];rfl
theorem rX (n:Nat){t:TypeId}{a:Value}{e:Bool}{p1 p2:Array TypeId}{p3:Bool}(hd:P.underlying t=some (.func p1 p2 p3))(ha:(∃f x y,a=.func f x y∧e=false)∨(a=.nilFunc∧e=true)):(Op.equalIn (n+1) t a .nilFunc).run P w=.ok e w:=by
 rcases ha with⟨f,x,y,rfl,rfl⟩|⟨rfl,rfl⟩
 ·unfold Op.equalIn;rw[Sem.run_bind,run_underlying t _ hd,Result.andThen_ok];rfl
 ·unfold Op.equalIn;rw[Sem.run_bind,run_underlying t _ hd,Result.andThen_ok];rfl
theorem Ci {op:BinOp}{t:TypeId}{a:Value}{e:Bool}(h:isEq op=true)(ht:tJ P t=true)(ha:(∃f x y,a=.func f x y∧e=false)∨(a=.nilFunc∧e=true)):(binOp op t a .nilFunc).run P w=.ok (.bool (cg op e)) w:=by
 obtain⟨p1,p2,p3,hd⟩:∃a b c,P.underlying t=some (.func a b c):=by unfold tJ at ht;grind
 have e1:(Op.equalIn 10000 t a .nilFunc).run P w=.ok e w:=rX 9999 hd ha;rcases(iT op).1 h with rfl|rfl
 ·rcases ha with⟨f,x,y,rfl,rfl⟩|⟨rfl,rfl⟩
  all_goals
   simp only[binOp,Op.equal,Op.maxDepth,Sem.run_bind,cg]
   rw[e1]
   rfl
 ·rcases ha with⟨f,x,y,rfl,rfl⟩|⟨rfl,rfl⟩
  all_goals
   simp only[binOp,Op.equal,Op.maxDepth,Sem.run_bind,cg]
   rw[e1]
   rfl
theorem sq {t:TypeId}(ht:qM P t=true):∃ms,P.underlying t=some (.interface ms)∧ms.isEmpty=true:=by unfold qM at ht;grind
theorem D6 {t:TypeId}(ht:wm P t=true):∃ms,P.underlying t=some (.interface ms):=by unfold wm at ht;grind
theorem IB {t:TypeId}(ht:qM P t=true):wm P t=true:=by obtain⟨ms,hd,_⟩:=sq ht;unfold wm;rw[hd]
theorem rG {op:BinOp}{t:TypeId}{a:Value}{e:Bool}(h:isEq op=true)(ht:wm P t=true)(ha:(∃i x,a=.iface i x∧e=false)∨(a=.nilIface∧e=true)):(binOp op t a .nilIface).run P w=.ok (.bool (cg op e)) w:=by
 obtain⟨ms,hd⟩:=D6 ht;have e1:(Op.equalIn 10000 t a .nilIface).run P w=.ok e w:=by
  rcases ha with⟨i,x,rfl,rfl⟩|⟨rfl,rfl⟩
  ·unfold Op.equalIn;rw[Sem.run_bind,run_underlying t _ hd,Result.andThen_ok];rfl
  ·unfold Op.equalIn;rw[Sem.run_bind,run_underlying t _ hd,Result.andThen_ok];rfl
 rcases(iT op).1 h with rfl|rfl
 ·rcases ha with⟨i,x,rfl,rfl⟩|⟨rfl,rfl⟩
  all_goals
   simp only[binOp,Op.equal,Op.maxDepth,Sem.run_bind,cg]
   rw[e1]
   rfl
 ·rcases ha with⟨i,x,rfl,rfl⟩|⟨rfl,rfl⟩
  all_goals
   simp only[binOp,Op.equal,Op.maxDepth,Sem.run_bind,cg]
   rw[e1]
   rfl
theorem Ry {op:BinOp}{t:TypeId}{a:Option Addr}(h:isEq op=true)(ht:EG P t=true):(binOp op t (.pointer a) (.pointer none)).run P w=.ok (.bool (cg op a.isNone)) w:=by
 obtain⟨e,hd⟩:∃e,P.underlying t=some (.pointer e):=by unfold EG at ht;grind
 have e1:(Op.equalIn 10000 t (.pointer a) (.pointer none)).run P w=.ok a.isNone w:=by unfold Op.equalIn;rw[Sem.run_bind,run_underlying t _ hd,Result.andThen_ok];cases a<;>rfl
 rcases(iT op).1 h with rfl|rfl
 ·simp only[binOp,Op.equal,Op.maxDepth,Sem.run_bind,cg];rw[e1];rfl
 ·simp only[binOp,Op.equal,Op.maxDepth,Sem.run_bind,cg];rw[e1];rfl
theorem sL {op:BinOp}{t:TypeId}{x y:Operand}(h:isEq op=true)(ht:qM P t=true):(eqGuard op t x y .nilIface .nilIface).run P w=.ok () w:=by
 obtain⟨ms,hd,hm⟩:=sq ht;have e1:(Op.eqGuardIn 10000 t .nilIface .nilIface).run P w=.ok false w:=by unfold Op.eqGuardIn;rw[Sem.run_bind,run_underlying t _ hd,Result.andThen_ok];simp only[hm,Bool.not_true];rfl
 rcases(iT op).1 h with rfl|rfl
 all_goals
  unfold eqGuard
  simp only[Bool.not_true,Bool.false_eq_true,if_false]
  split<;>(first|rfl|skip)
  split<;>(first|rfl|skip)
  rw[if_neg (by simp)]
  simp only[Op.maxDepth,Sem.run_bind]
  rw[e1]
  rfl
theorem sY {op:BinOp}{t:TypeId}{x y:Operand}(h:isEq op=true)(hl:(Jd x ||Jd y)=true):(eqGuard op t x y .nilIface .nilIface).run P w=.ok () w:=by
 rcases(iT op).1 h with rfl|rfl
 all_goals
  unfold eqGuard
  cases x<;>cases y<;>first|rfl|(exact absurd (show false=true from hl) (by decide))
theorem abk {op:BinOp}{t:TypeId}{x y v:AV}{a b:Value}(ox oy:Operand)(h:(binop P (Jd ox ||Jd oy) op t x y).get=some v)(hx:aM g tk w x a)(hy:aM g tk w y b) :
  ∃v',(do eqGuard op t ox oy a b;binOp op t a b:Sem Value).run P w=.ok v' w∧aM g tk w v v':=by
 have lift:a≠.nilIface→(∀c,a≠.agg c)→Dq P g tk w op t a b v→∃v',(do eqGuard op t ox oy a b;binOp op t a b:Sem Value).run P w=.ok v' w∧aM g tk w v v' :=
  fun h1 h2 ⟨v',h3,h4⟩=>⟨v',yM (.inl h1) (.inl h2) h3,h4⟩
 unfold binop at h;split at h
 ·cases hx;exact lift (by simp) (by simp) (RV h hy)
 ·cases hx;exact lift (by simp) (by simp) (Ir h hy)
 ·cases hx;exact lift (by simp) (by simp) (Ir h hy)
 ·split at h
  ·cases hx with
   |str hx =>
   cases hy with
   |str hy =>
   subst hx;subst hy;refine lift (by simp) (by simp) ?_;split at h
   ·rename_i hop;subst hop;simp only[get_guard,aj,A',decide_eq_true_eq]at h;obtain⟨hl,rfl⟩:=h;obtain⟨z,hz,hr⟩:=Qa (P:=P) (w:=w) t (by simp only[Array.length_toList]at hl;exact hl);exact⟨_,hr,.str hz⟩
   ·rename_i hop;simp only[bB,H']at h;obtain⟨r,hr,rfl⟩:=h;exact⟨_,MF t hr hop,.bool _⟩
  ·simp at h
 ·split at h
  ·split at h
   ·rename_i l1 l2 hc;simp only[bB,H']at h;obtain⟨e,he,rfl⟩:=h;simp only[E',Bool.not_eq_true',beq_iff_eq]at hc;obtain⟨⟨⟨⟨⟨⟨hop,hg⟩,ha⟩,hs⟩,h1⟩,h2⟩,hz⟩:=hc;obtain⟨ks,hks⟩:=Option.isSome_iff_exists.1 hs;obtain⟨cs,rfl,hx'⟩:=hx.cM;obtain⟨ds,rfl,hy'⟩:=hy.cM;have hq:=(TB 8 t ks hks).2 10000 (by decide) cs.toList ds.toList e w (GK hx' (h1.trans hks)) (GK hy' (h2.trans hks)) (EJ he hx' hy');simp only[sl,ha,if_true,Array.toArray_toList]at hq;refine⟨.bool (cg op e),yM (.inl (by simp)) (.inr (.inl hg)) ?_,.bool _⟩;rcases(iT op).1 hop with rfl|rfl
    ·rw[run_eql_struct,hq];rfl
    ·rw[run_neq_struct,hq];rfl
   ·simp at h
  ·simp at h
 ·split at h
  ·split at h
   ·rename_i hc;simp only[E']at hc;simp only[aj,A']at h;subst h;cases hx with
    |func ha hb =>
    cases hy;exact lift (by simp) (by simp) ⟨_,Ci hc.1 hc.2 (by simp_all),.aU _⟩
   ·simp at h
  ·simp at h
 ·split at h
  ·split at h
   ·rename_i hc;simp only[E']at hc;simp only[aj,A']at h;subst h;cases hx;cases hy;exact lift (by simp) (by simp) ⟨_,Ci hc.1 hc.2 (.inr ⟨rfl,rfl⟩),.aU _⟩
   ·simp at h
  ·simp at h
 ·split at h
  ·split at h
   ·rename_i hc;simp only[E']at hc;simp only[aj,A']at h;subst h;cases hx;cases hy;exact lift (by simp) (by simp) ⟨_,uu hc.1 hc.2,.aU _⟩
   ·simp at h
  ·split at h
   ·rename_i hc;simp only[E']at hc;simp only[aj,A']at h;subst h;cases hx;cases hy;exact lift (by simp) (by simp) ⟨_,uu hc.1 hc.2,.bool _⟩
   ·simp at h
  ·simp at h
 ·split at h
  ·rename_i b' hb;split at h
   ·rename_i hc;simp only[E']at hc;simp only[aj,A']at h;subst h;cases hx;have e:b=.bool b':=by cases y<;>simp[Av]at hb<;>cases hy<;>simp[hb]
    subst e;exact lift (by simp) (by simp) ⟨_,uu hc.1 hc.2,.bool _⟩
   ·simp at h
  ·simp at h
 ·split at h
  ·split at h
   ·rename_i hc;simp only[E']at hc;simp only[aj,A']at h;subst h;cases hx;cases hy;refine⟨_,?_,.aU _⟩;simp only[Bool.or_eq_true (qM P t),E']at hc;rcases hc with⟨h1,h2|⟨h2,h3⟩⟩
    ·rw[Sem.run_bind,sL h1 h2,Result.andThen_ok,rG h1 (IB h2) (.inr ⟨rfl,rfl⟩)]
    ·rw[Sem.run_bind,sY h1 h2,Result.andThen_ok,rG h1 h3 (.inr ⟨rfl,rfl⟩)]
   ·simp at h
  ·simp at h
 ·split at h
  ·split at h
   ·rename_i hc;simp only[E']at hc;simp only[aj,A']at h;subst h;cases hx;cases hy;exact lift (by simp) (by simp) ⟨_,rG hc.1 hc.2 (by simp_all),.aU _⟩
   ·simp at h
  ·simp at h
 ·split at h
  ·rename_i b' hn;split at h
   ·rename_i hc;simp only[E']at hc;simp only[aj,A']at h;subst h;cases hy;have ha:∃q,a=.pointer q∧q.isNone=b':=by unfold Oi at hn;split at hn<;>simp only[A',reduceCtorEq]at hn<;>subst hn<;>cases hx<;>exact⟨_,rfl,rfl⟩
    obtain⟨q,rfl,rfl⟩:=ha;exact lift (by simp) (by simp) ⟨_,Ry hc.1 hc.2,.aU _⟩
   ·simp at h
  ·simp at h
theorem agS {op:UnOp}{x v:AV}{a:Value}(h:(unop op x).get=some v)(hx:aM g tk w x a):∃v',(Op.unary op a).run P w=.ok v' w∧aM g tk w v v':=by
 unfold unop at h;split at h
 ·simp only[aj,A']at h;subst h;cases hx;exact⟨_,rfl,.aU _⟩
 ·simp only[aj,A']at h;subst h;cases hx;exact⟨_,rfl,.bool _⟩
 ·simp only[aj,A']at h;subst h;cases hx;exact⟨_,rfl,.bj _ _⟩
 ·simp only[aj,A']at h;subst h;cases hx;exact⟨_,rfl,.int _ _⟩
 ·simp only[aj,A']at h;subst h;cases hx;refine⟨_,rfl,?_⟩;rename_i n;have:IntKind.wrap .u64 (0-(n.toNat:Int))=((0#64-n).toNat:Int):=by have:=n.isLt;rw[wrap_u64,BitVec.toNat_sub];simp;omega
  rw[this];exact .u64 _
 ·simp only[aj,A']at h;subst h;cases hx;rename_i n;refine⟨.int .u64 (((~~~n).toNat:Nat):Int),?_,.u64 _⟩;have e:(BitVec.ofInt 64 (IntKind.max .u64)) ^^^ (BitVec.ofInt 64 (n.toNat:Int)) = ~~~n:=by
   rw[fS];have:BitVec.ofInt 64 (IntKind.max .u64)=BitVec.allOnes 64:=by decide
   rw[this,BitVec.allOnes_xor]
  simp only[Op.unary,Op.intBits,IntKind.signed,Bool.false_eq_true,if_false];show Result.ok (Value.int .u64 (IntKind.wrap .u64 _)) w=_;have e2:IntKind.wrap .u64 (((BitVec.ofInt 64 (IntKind.max .u64)) ^^^ (BitVec.ofInt 64 (n.toNat:Int))).toNat:Int)=((~~~n).toNat:Int):=by rw[e,mb _ (BitVec.isLt _)]
  exact congrArg (fun z=>Result.ok (Value.int .u64 z) w) e2
 ·simp at h
theorem LF {s d:TypeId}{x v:AV}{a:Value}(h:(Mf P s d x).get=some v)(hx:aM g tk w x a):∃v',(convert s d a).run P w=.ok v' w∧aM g tk w v v':=by
 have u64:∀n:Int,(IntKind.wrap .u64 n:Int)=((BitVec.ofInt 64 n).toNat:Int):=fun n=>by rw[wrap_u64,BitVec.toNat_ofInt];omega
 unfold Mf at h;split at h;all_goals first|(simp at h;done)|skip
 all_goals
  rename_i hs hd
  simp only[aj,A']at h
  subst h
  cases hx
  unfold convert
  simp only[Sem.run_bind,run_underlying _ _ hs,run_underlying _ _ hd,Result.andThen_ok]
 ·exact⟨_,rfl,by rw[u64];exact .u64 _⟩
 ·exact⟨_,rfl,by rw[u64];exact .u64 _⟩
 ·rename_i n;exact⟨_,rfl,by rw[u64,fS];exact .u64 _⟩
 ·exact⟨_,rfl,.bj _ _⟩
 ·exact⟨_,rfl,.int _ _⟩
 ·exact⟨_,rfl,.int _ _⟩
 ·rename_i hh;exact⟨_,rfl,.str hh⟩
 ·exact⟨_,rfl,.str rfl⟩
 ·exact⟨_,rfl,.str rfl⟩
end
noncomputable section
variable {P:Program}{g:Gh}{h:Hp}{tk:List Nat}{w:World}
theorem qN {l:List AV}{cs:List Value}(hr:ay g tk w l cs){o:Nat}{a:AV}(ha:gz l o=some a):aK a=true:=by
 induction l generalizing cs o with
 |nil=>simp[gz,sf]at ha
 |cons b l ih =>
  simp only[gz,sf]at ha;by_cases hi:∃k n xs,b=.ints k n xs
  ·obtain⟨k,n,xs,rfl⟩:=hi;obtain⟨_,r,_,hr'⟩:=hr.bJ;simp only[ssize]at ha;by_cases ho:o<n
   ·simp only[ho,if_true,Option.bind_some,cellOf]at ha;obtain rfl:=Option.some.inj ha;rfl
   ·simp only[ho,if_false]at ha;exact ih hr' (o:=o-n) (by simpa[gz]using ha)
  ·have hc:aK b=true:=by
    cases hr with
    |ints=>simp_all
    |one hs=>exact hs
   obtain⟨c,r,_,_,hr'⟩:=hr.inv_one hc;rw[fT hc]at ha;by_cases ho:o<1
   ·simp only[ho,if_true,Option.bind_some]at ha;have e:cellOf b o=some b:=by
     obtain rfl:o=0:=by omega
     cases b<;>first|rfl|simp[aK]at hc
    simp_all
   ·simp only[ho,if_false]at ha;exact ih hr' (o:=o-1) (by simpa[gz]using ha)
theorem nW {a:AV}(h:aK a=true):bf a=[a]:=by cases a<;>first|rfl|simp[aK]at h
theorem iU {t:TypeId}(hu:(P.underlying t).isSome=true):∃d,P.underlying t=some d:=Option.isSome_iff_exists.1 hu
theorem xG {t:TypeId}{l:List AV}{o:Nat}{v:AV}(hp:il P t l o=some v){cs:Array Value}(hr:ay g tk w l cs.toList):∃x,(part t cs o).run P w=.ok x w∧aM g tk w v x:=by
 unfold il at hp;simp only[Option.ite_none_right_eq_some]at hp;obtain⟨hu,hp⟩:=hp;obtain⟨d,hd⟩:=iU hu;unfold part;rw[Sem.run_bind,kv t d hd,Result.andThen_ok];by_cases ha:ct P t=true
 ·simp only[ha,if_true,B',H']at hp⊢;obtain⟨m,hm,l',hl',rfl⟩:=hp;obtain⟨h1,h2⟩:=hr.sub _ _ _ hl';rw[Sem.run_bind,run_sizeOf t m hm,Result.andThen_ok];refine⟨_,rfl,.agg ?_⟩;simp_all
 ·have ha':ct P t=false:=by simpa using ha
  simp only[ha',Bool.false_eq_true,if_false]at hp⊢;obtain⟨x,h1,h2⟩:=hr.cell _ _ hp;simp_all
theorem At.sub {c o:Nat}{cs:List Value}(h:At g w c o cs)(d m:Nat):At g w c (o+d) ((cs.drop d).take m):=by
 intro j x hx;have hj:j<m:=by have:=(C'.1 hx).1;simp at this;omega
 rw[List.getElem?_take_of_lt hj,List.getElem?_drop]at hx;rw[Nat.add_assoc];exact h _ _ hx
theorem GF {t:TypeId}{l:List AV}{d:Nat}{v:AV}(hp:il P t l d=some v){cs:List Value}(hr:ay g tk w l cs){c o:Nat}(ha:At g w c o cs):∃cs',ay g tk w (bf v) cs'∧At g w c (o+d) cs':=by
 unfold il at hp;simp only[Option.ite_none_right_eq_some]at hp;obtain⟨hu,hp⟩:=hp;by_cases hag:ct P t=true
 ·simp only[hag,if_true,B',H']at hp;obtain⟨m,hm,l',hl',rfl⟩:=hp;obtain⟨h1,h2⟩:=hr.sub _ _ _ hl';exact⟨_,h2,ha.sub d m⟩
 ·have ha':ct P t=false:=by simpa using hag
  simp only[ha',Bool.false_eq_true,if_false]at hp;obtain⟨x,h1,h2⟩:=hr.cell _ _ hp;have hc:=qN hr hp;refine⟨[x],by rw[nW hc];exact .one hc h2 .nil,fun j y hy=>?_⟩;cases j with
  |zero=>simp at hy;subst hy;exact ha d _ h1
  |succ j=>simp at hy
theorem BH {s:TypeId}{f d:Nat}{t:TypeId}(ho:sH P s f=some (d,t)):∃fs fl,P.underlying s=some (.struct fs)∧fs[f]?=some fl∧fl.offset=d∧fl.type=t∧∃m,bW P t=some m∧m≠0:=by
 unfold sH at ho;split at ho
 ·rename_i fs hu;simp only[B',Option.ite_none_left_eq_some,A',Prod.mk.injEq]at ho;obtain⟨fl,hf,hz,rfl,rfl⟩:=ho;refine⟨fs,fl,hu,hf,rfl,rfl,?_⟩;cases hs:bW P fl.type with
  |none=>simp_all
  |some m=>simp_all
 ·cases ho
theorem QC {s:TypeId}{f d:Nat}{t:TypeId}{l:List AV}{v:AV}{x:Value}(ho:sH P s f=some (d,t))(hp:il P t l d=some v)(hx:aM g tk w (.agg l) x):∃y,(Instr.field s x f).run P w=.ok y w∧aM g tk w v y:=by obtain⟨fs,fl,hu,hf,rfl,rfl,_⟩:=BH ho;obtain⟨cs,rfl,hr⟩:=hx.cM;obtain⟨y,h1,h2⟩:=xG hp hr;refine⟨y,?_,h2⟩;unfold Instr.field;rw[Sem.run_bind,run_underlying s _ hu,Result.andThen_ok];simp only[hf,asAgg];simp_all
theorem sD {s:TypeId}{f d:Nat}{t:TypeId}(ho:sH P s f=some (d,t))(c o:Nat):(Instr.fieldAt s (.pointer (some ⟨c,o,none⟩)) f).run P w=.ok (.pointer (some ⟨c,o+d,none⟩)) w:=by obtain⟨fs,fl,hu,hf,rfl,rfl,m,hm,hm0⟩:=BH ho;unfold Instr.fieldAt;rw[Sem.run_bind,run_underlying s _ hu,Result.andThen_ok];simp only[hf,Instr.sureAddr];simp only[Sem.run_bind,pure,Sem.run,Result.andThen_ok,fieldPlace,run_sizeOf _ _ hm,hm0,if_false,fF]
theorem Di {s:TypeId}{f d:Nat}{t:TypeId}{b o:Nat}{x:Value}(ho:sH P s f=some (d,t))(hx:aM g tk w (.ptr b o) x):∃y,(Instr.fieldAt s x f).run P w=.ok y w∧aM g tk w (.ptr b (o+d)) y:=by
 cases hx with
 |ptr hb=>exact⟨_,sD ho _ _,.ptr hb⟩
theorem Ax {s:TypeId}{f d:Nat}{t:TypeId}{a v:AV}{x:Value}(ho:sH P s f=some (d,t))(hp:il P t (bf a) d=some v)(hx:aM g tk w (.ptrf a) x):∃y,(Instr.fieldAt s x f).run P w=.ok y w∧aM g tk w (.ptrf v) y:=by
 cases hx with
 |ptrf hr ha =>obtain⟨cs',h1,h2⟩:=GF hp hr ha;exact⟨_,sD ho _ _,.ptrf h1 h2⟩
theorem eS {ix:AV}{b:Value}{c:Bool}{i:Int}(hi:idxOf ix=some (c,i))(hx:aM g tk w ix b):∃k,b=.int k i:=by cases ix<;>simp[idxOf]at hi<;>cases hx;all_goals (obtain⟨_,rfl⟩:=hi;exact⟨_,rfl⟩)
theorem mg {α:Type}{i:Int}{f:Nat→Tr α}{v:α}:∀{n j:Nat},(jL i f n j).get=some v→∃j',j≤j'∧j'<j+n∧i=(j':Int)∧(f j').get=some v
 | 0,j,h=>by simp[jL]at h
 |n+1,j,h=>by
  simp only[jL,fP]at h
  by_cases hi:i=(j:Int)
  ·grind
  ·simp only[show(i==(j:Int))=false by simpa using hi,cond_false]at h
   obtain⟨j',h1,h2,h3,h4⟩:=mg h
   grind
theorem ur (m:Nat)(i:Nat):scale m (i:Int)=((i*m:Nat):Int):=by unfold scale;simp_all
theorem o6 {i n m:Nat}(h:i<n):i*m+m≤n*m:=by rw[←Nat.succ_mul];exact Nat.mul_le_mul_right m h
theorem fU {t e:TypeId}{n m:Nat}(hu:P.underlying t=some (.array n e))(hs:bW P e=some m)(k:IntKind)(i:Nat)(hi:i<n)(c o:Nat) :
  (Instr.indexAt t (.pointer (some ⟨c,o,none⟩)) (.int k (i:Int))).run P w=.ok (.pointer (some ⟨c,o+i*m,none⟩)) w:=by unfold Instr.indexAt;simp only[asIntOf,Sem.run_bind,pure,Sem.run,Result.andThen_ok,run_underlying t _ hu,Instr.sureAddr];rw[if_pos (by omega)];simp only[Sem.run_bind,run_sizeOf e m hs,Result.andThen_ok,Int.toNat_natCast,fF,Sem.run]
theorem yd {t e:TypeId}{n m:Nat}(hu:P.underlying t=some (.array n e))(hs:bW P e=some m){x v:AV}{i:Nat}(hi:i<n)(h:iO P n e m x i=some v){a:Value}(hx:aM g tk w x a)(k:IntKind) :
  ∃y,(Instr.indexAt t a (.int k (i:Int))).run P w=.ok y w∧aM g tk w v y:=by
 have hroom:i*m+m≤n*m:=o6 hi;unfold iO at h;split at h
 ·obtain rfl:=Option.some.inj h;cases hx with
  |ptr hb=>exact⟨_,fU hu hs k i hi _ _,.ptr hb⟩
 ·simp only[Option.ite_none_right_eq_some,A']at h;obtain⟨rfl,rfl⟩:=h;cases hx with
  |ptri hb h0 h1 h2 =>subst h2;rw[ur];exact⟨_,fU hu hs k i hi _ _,.ptri hb (by omega) (by omega) (by omega)⟩
 ·obtain⟨u,hu',rfl⟩:=H'.1 h;cases hx with
  |ptrf hr ha =>obtain⟨cs',h1,h2⟩:=GF hu' hr ha;exact⟨_,fU hu hs k i hi _ _,.ptrf h1 h2⟩
 ·cases h
theorem Dg {t e:TypeId}{n:Nat}(hu:P.underlying t=some (.array n e)){x ix v:AV}(h:(uH P n e x ix).get=some v){a b:Value}(hx:aM g tk w x a)(hi:aM g tk w ix b) :
  ∃y,(Instr.indexAt t a b).run P w=.ok y w∧aM g tk w v y:=by
 unfold uH at h;split at h
 ·rename_i m i hs hix;obtain⟨k,rfl⟩:=eS hix hi;split at h
  ·rename_i hb;obtain⟨j,rfl⟩:∃j:Nat,i=(j:Int):=⟨i.toNat,by omega⟩;simp only[bB,Int.toNat_natCast]at h;exact yd hu hs (by omega) h hx k
  ·simp at h
 ·rename_i m i hs hix;obtain⟨k,rfl⟩:=eS hix hi;simp only[get_guard,E',decide_eq_true_eq]at h;obtain⟨hb,h⟩:=h;obtain⟨j,rfl⟩:∃j:Nat,i=(j:Int):=⟨i.toNat,by omega⟩;have hj:j<n:=by omega
  have hroom:j*m+m≤n*m:=o6 hj;have pick:∀x,aM g tk w x a→(jL (j:Int) (fun j=>Tr.opt (iO P n e m x j)) n 0).get=some v→∃y,(Instr.indexAt t a (.int k (j:Int))).run P w=.ok y w∧aM g tk w v y:=by
   intro x hx hp;obtain⟨j',_,_,hjj,hp⟩:=mg hp;obtain rfl:j=j':=by omega
   simp only[bB]at hp;exact yd hu hs hj hp hx k
  split at h
  ·split at h
   ·simp only[aj,A']at h;subst h;cases hx with
    |ptr hb' =>rw[ur];exact⟨_,fU hu hs k j hj _ _,.ptri hb' (by omega) (by omega) (by omega)⟩
   ·exact pick _ hx h
  ·split at h
   ·rename_i hm;subst hm;simp only[aj,A']at h;subst h;cases hx with
    |ptri hb' h0 h1 h2 =>subst h2;rw[ur];exact⟨_,fU hu hs k j hj _ _,.ptri hb' (by omega) (by omega) (by omega)⟩
   ·simp at h
  ·split at h
   ·rename_i k' n' l hag hun hsg;split at h
    ·rename_i hm;obtain⟨rfl,rfl⟩:=hm;simp only[aj,A',Int.toNat_natCast]at h;subst h;cases hx with
     |ptrf hr ha =>
      rw[hsg]at hr;obtain⟨hl,r,rfl,hr'⟩:=hr.bJ;refine⟨_,fU hu hs k j hj _ _,.ptrf (.one rfl (.int _ _) .nil) (fun q y hy=>?_)⟩;cases q with
      |zero =>
       simp at hy;subst hy
       have:=ha (j*1) (.int k' (l.getD j 0)) (by
        grind)
       simpa using this
      |succ q=>simp at hy
    ·simp at h
   ·exact pick _ hx h
  ·simp at h
 ·simp at h
theorem ft (e:ET)(x:e.T):storable (enc e x)=true∧cX (bf (enc e x))=lF e:=by cases e<;>exact⟨rfl,rfl⟩
theorem td (e:ET):0<lF e:=by cases e<;>simp[lF]
theorem bu.length {l:List AV}{cs:List Value}(h:bu g tk w l cs){m:Nat}(hm:∀a∈l,cX (bf a)=m):cs.length=l.length*m:=by
 induction l generalizing cs with
 |nil=>cases h;simp
 |cons a l ih =>
  cases h with
  |cons hs hx h hr =>subst hx;rw[List.length_append,h.length,hm a (by simp),ih hr (fun b hb=>hm b (by simp[hb])),List.length_cons,Nat.succ_mul,Nat.add_comm]
theorem bu.get {l:List AV}{cs:List Value}(h:bu g tk w l cs){m:Nat}(hm:∀a∈l,cX (bf a)=m){i:Nat}{a:AV}(ha:l[i]?=some a):ay g tk w (bf a) ((cs.drop (i*m)).take m)∧storable a=true∧i*m+m≤cs.length:=by
 induction l generalizing cs i with
 |nil=>simp at ha
 |cons b l ih =>
  cases h with
  |cons hs hx h hr =>
   subst hx;have hb:=hm b (by simp);cases i with
   |zero =>simp at ha;subst ha;have hl:=h.length;simp_all
   |succ i =>simp at ha;obtain⟨h1,h2,h3⟩:=ih hr (fun c hc=>hm c (by simp[hc])) ha;have hl:=h.length;rw[hb]at hl;refine⟨?_,h2,by grind⟩;rw[Nat.succ_mul,Nat.add_comm (i*m),←hl,←List.drop_drop,List.drop_append_of_le_length (Nat.le_refl _),List.drop_of_length_le (Nat.le_refl _),List.nil_append];simp_all
theorem jA {t e:TypeId}{m:Nat}(hu:P.underlying t=some (.slice e))(hs:bW P e=some m)(k:IntKind)(i:Nat)(len cap c o:Nat)(hi:i<len) :
  (Instr.indexAt t (.slice (some ⟨c,o,none⟩) len cap) (.int k (i:Int))).run P w=.ok (.pointer (some ⟨c,o+i*m,none⟩)) w:=by unfold Instr.indexAt;simp only[asIntOf,Sem.run_bind,pure,Sem.run,Result.andThen_ok,run_underlying t _ hu];rw[if_pos (by omega)];simp only[Sem.run_bind,run_sizeOf e m hs,Result.andThen_ok,Int.toNat_natCast,fF,Sem.run]
theorem A0 {l:List AV}{cs:List Value}(h:bu g tk w l cs){m:Nat}(hm:∀a∈l,cX (bf a)=m)(hm0:0<m){p:Prop}{ad:Option Addr}(ha:j8 g w p ad cs){i:Nat}{a:AV}(hi:l[i]?=some a) :
  ∃c o,ad=some ⟨c,o,none⟩∧∃cs',ay g tk w (bf a) cs'∧At g w c (o+i*m) cs':=by
 obtain⟨h1,_,h3⟩:=h.get hm hi;rcases ha with rfl|⟨c,o,rfl,hat,_⟩
 ·simp at h3;omega
 ·exact⟨c,o,rfl,_,h1,hat.sub _ _⟩
theorem An {t:TypeId}{x ix v:AV}(h:(EA P t x ix).get=some v){a b:Value}(hx:aM g tk w x a)(hi:aM g tk w ix b) :
  ∃y,(Instr.indexAt t a b).run P w=.ok y w∧aM g tk w v y:=by
 unfold EA at h;split at h
 ·rename_i n e hu;exact Dg hu h hx hi
 ·rename_i t' e l tok hu;split at h
  ·rename_i c i hix;obtain⟨k,rfl⟩:=eS hix hi;split at h
   ·rename_i hs;simp only[get_guard,aj,A',E',decide_eq_true_eq]at h;obtain⟨hb,rfl⟩:=h;obtain⟨j,rfl⟩:∃j:Nat,i=(j:Int):=⟨i.toNat,by omega⟩;cases hx with
    |list hn hr ha ht hc =>
     subst hn;have hj:j<l.length:=by omega
     obtain⟨c',o,rfl,cs',h1,h2⟩:=A0 hr (m:=lF e) (fun q hq=>by obtain⟨z,_,rfl⟩:=List.mem_map.1 hq;exact(ft e z).2) (td e) ha (i:=j) (a:=enc e (l.getD j default)) (by
      simp_all)
     exact⟨_,jA hu hs k j _ _ _ _ hj,by simpa using aM.ptrf h1 h2⟩
   ·simp at h
  ·simp at h
 ·rename_i t' fr l hu;split at h
  ·rename_i m hs;split at h
   ·rename_i hall;obtain⟨hm0,hall⟩:=hall;simp only[List.all_eq_true,E',beq_iff_eq]at hall;cases hx with
    |vlist hn hr ha hc =>
    rename_i ad len cap cs;subst hn;have get:∀(j:Nat) (u:AV) (k:IntKind),l[j]?=some u→∃y,(Instr.indexAt t (.slice ad l.length cap) (.int k (j:Int))).run P w=.ok y w∧aM g tk w (.ptrf u) y:=by intro j u k hu';have hj:=(C'.1 hu').1;obtain⟨c',o,rfl,cs',h1,h2⟩:=A0 hr (m:=m) (fun q hq=>by rw[←ij (hall q hq).1];exact(hall q hq).2) hm0 ha hu';exact⟨_,jA hu hs k j _ _ _ _ hj,.ptrf h1 h2⟩
    split at h
    ·rename_i i hix;obtain⟨k,rfl⟩:=eS hix hi;split at h
     ·obtain⟨j,rfl⟩:∃j:Nat,i=(j:Int):=⟨i.toNat,by omega⟩;simp only[bB,Int.toNat_natCast,H']at h;obtain⟨u,hu',rfl⟩:=h;exact get j u k hu'
     ·simp at h
    ·rename_i i hix;obtain⟨k,rfl⟩:=eS hix hi;simp only[get_guard]at h;obtain⟨j,_,_,rfl,h'⟩:=mg h.2;rw[bB,H']at h';obtain⟨u,hu',rfl⟩:=h';exact get j u k hu'
    ·simp at h
   ·simp at h
  ·simp at h
 ·rename_i t' fr l hu;split at h
  ·rename_i m hs;split at h
   ·rename_i hall;obtain⟨hm0,hall⟩:=hall;simp only[List.all_eq_true,E',beq_iff_eq]at hall;cases hx with
    |vany hn hr ha ht hc =>
    rename_i ad len cap cs;subst hn;have get:∀(j:Nat) (u:AV) (k:IntKind),l[j]?=some u→∃y,(Instr.indexAt t (.slice ad l.length cap) (.int k (j:Int))).run P w=.ok y w∧aM g tk w (.ptrf u) y:=by intro j u k hu';have hj:=(C'.1 hu').1;obtain⟨c',o,rfl,cs',h1,h2⟩:=A0 hr (m:=m) (fun q hq=>by rw[←ij (hall q hq).1];exact(hall q hq).2) hm0 ha hu';exact⟨_,jA hu hs k j _ _ _ _ hj,.ptrf h1 h2⟩
    split at h
    ·rename_i i hix;obtain⟨k,rfl⟩:=eS hix hi;split at h
     ·obtain⟨j,rfl⟩:∃j:Nat,i=(j:Int):=⟨i.toNat,by omega⟩;simp only[bB,Int.toNat_natCast,H']at h;obtain⟨u,hu',rfl⟩:=h;exact get j u k hu'
     ·simp at h
    ·rename_i i hix;obtain⟨k,rfl⟩:=eS hix hi;simp only[get_guard]at h;obtain⟨j,_,_,rfl,h'⟩:=mg h.2;rw[bB,H']at h';obtain⟨u,hu',rfl⟩:=h';exact get j u k hu'
    ·simp at h
   ·simp at h
  ·simp at h
 ·rename_i e b' o n hu;split at h
  ·rename_i c i hs hix;obtain⟨k,rfl⟩:=eS hix hi;simp only[get_guard,aj,A',E',decide_eq_true_eq]at h;obtain⟨hb,rfl⟩:=h;obtain⟨j,rfl⟩:∃j:Nat,i=(j:Int):=⟨i.toNat,by omega⟩;cases hx with
   |vsl hv=>exact⟨_,jA hu hs k j _ _ _ _ (by omega),.ptri hv (by omega) (by omega) (by simp)⟩
  ·simp at h
 ·simp at h
theorem Mo {t:TypeId}{x ix v:AV}(h:(El P t x ix).get=some v){a b:Value}(hx:aM g tk w x a)(hi:aM g tk w ix b) :
  ∃y,(Instr.index t a b).run P w=.ok y w∧aM g tk w v y:=by
 have arr:∀(n e:Nat) (m:Nat) (l:List AV) (j:Nat) (k:IntKind) (cs:Array Value),P.underlying t=some (.array n e)→bW P e=some m→j<n→ay g tk w l cs.toList→il P e l (j*m)=some v →
   ∃y,(Instr.index t (.agg cs) (.int k (j:Int))).run P w=.ok y w∧aM g tk w v y:=by
  intro n e m l j k cs hu hs hj hr hp
  obtain⟨y,h1,h2⟩:=xG hp hr
  refine⟨y,?_,h2⟩
  unfold Instr.index
  simp only[asIntOf,Sem.run_bind,pure,Sem.run,Result.andThen_ok,run_underlying t _ hu]
  rw[if_pos (by omega)]
  simp only[Sem.run_bind,run_sizeOf e m hs,Result.andThen_ok,Int.toNat_natCast]
  exact h1
 unfold El at h;split at h
 ·rename_i n e l i hu hix;obtain⟨k,rfl⟩:=eS hix hi;obtain⟨cs,rfl,hr⟩:=hx.cM;split at h
  ·rename_i m hs;split at h
   ·rename_i hb;obtain⟨j,rfl⟩:∃j:Nat,i=(j:Int):=⟨i.toNat,by omega⟩;simp only[bB,Int.toNat_natCast]at h;exact arr n e m l j k cs hu hs (by omega) hr h
   ·simp at h
  ·simp at h
 ·rename_i n e l i hu hix;obtain⟨k,rfl⟩:=eS hix hi;obtain⟨cs,rfl,hr⟩:=hx.cM;split at h
  ·rename_i m hs;simp only[get_guard,E',decide_eq_true_eq]at h;obtain⟨hb,h⟩:=h;obtain⟨j,rfl⟩:∃j:Nat,i=(j:Int):=⟨i.toNat,by omega⟩;have hj:j<n:=by omega
   split at h
   ·rename_i k' n' xs hag hun;split at h
    ·rename_i hm;obtain⟨rfl,rfl⟩:=hm;simp only[aj,A',Int.toNat_natCast]at h;subst h;refine arr n' e 1 _ j k cs hu hs hj hr ?_;simp only[il,hun,if_true,hag,Bool.false_eq_true,if_false,gz,sf,ssize,Nat.mul_one,hj,Option.bind_some,cellOf]
    ·simp at h
   ·rename_i k' n' xs hag hun;split at h
    ·rename_i hm;subst hm;simp only[aj,A',Int.toNat_natCast]at h;subst h;have hroom:j*m+m≤n*m:=o6 hj;obtain⟨hl,r,he,hr'⟩:=hr.bJ;obtain rfl:=hr'.cL;rw[List.append_nil]at he;obtain⟨d,hd⟩:=iU hun;refine⟨.agg (cs.extract (j*m) (j*m+m)),?_,.agg (.ints (by simp;omega) (cs:=[]) ?_ .nil)⟩
     ·unfold Instr.index;simp only[asIntOf,Sem.run_bind,pure,Sem.run,Result.andThen_ok,run_underlying t _ hu];rw[if_pos (by omega)];simp only[Sem.run_bind,run_sizeOf e m hs,Result.andThen_ok,Int.toNat_natCast,part,kv e d hd,hag,if_true];rfl
     simp_all
    ·simp at h
   ·obtain⟨j',_,_,hjj,hp⟩:=mg h;obtain rfl:j=j':=by omega
    simp only[bB]at hp;exact arr n e m _ j k cs hu hs hj hr hp
  ·simp at h
 ·rename_i s c i hu hix;obtain⟨k,rfl⟩:=eS hix hi;simp only[get_guard,aj,A',E',decide_eq_true_eq]at h;obtain⟨hb,rfl⟩:=h;obtain⟨j,rfl⟩:∃j:Nat,i=(j:Int):=⟨i.toNat,by omega⟩;cases hx with
  |str hs =>
   rename_i bs;subst hs;have hj:j<bs.data.toList.length:=by omega
   have hj':j<bs.size:=by rw[Array.length_toList]at hj;exact hj
   refine⟨.int .u8 ((bs[j]).toNat:Int),?_,?_⟩
   ·unfold Instr.index;simp only[asIntOf,Sem.run_bind,pure,Sem.run,Result.andThen_ok,run_underlying t _ hu];simp_all
   ·have:((bs.data.toList[(j:Int).toNat]?).getD 0)=bs[j]:=by simp only[Int.toNat_natCast,I' hj,Option.getD_some];rfl
    rw[this];exact .int _ _
 ·simp at h
end
theorem Uu {g g':Gh}{tk tk':List Nat}{w:World}(e:ET)(x:e.T){cs:List Value}(h:ay g tk w (bf (enc e x)) cs){w':World}:ay g' tk' w' (bf (enc e x)) cs:=by
 cases e with
 |i k =>simp only[enc,bf]at h⊢;obtain⟨c,r,rfl,q,hr⟩:=h.inv_one rfl;obtain rfl:=hr.cL;cases q;exact .one rfl (.int _ _) .nil
 |u64 =>simp only[enc,bf]at h⊢;obtain⟨c,r,rfl,q,hr⟩:=h.inv_one rfl;obtain rfl:=hr.cL;cases q;exact .one rfl (.u64 _) .nil
 |str =>
  simp only[enc,bf]at h⊢;obtain⟨c,r,rfl,q,hr⟩:=h.inv_one rfl;obtain rfl:=hr.cL;cases q with
  |str hs=>exact .one rfl (.str hs) .nil
 |mv =>simp only[enc,Mv.av,bf]at h⊢;obtain⟨x1,r1,rfl,q1,hr⟩:=h.inv_one rfl;obtain⟨x2,r2,rfl,q2,hr⟩:=hr.inv_one rfl;obtain⟨x3,r3,rfl,q3,hr⟩:=hr.inv_one rfl;obtain⟨x4,r4,rfl,q4,hr⟩:=hr.inv_one rfl;obtain⟨x5,r5,rfl,q5,hr⟩:=hr.inv_one rfl;obtain rfl:=hr.cL;cases q1;cases q2;cases q3;cases q4;cases q5;exact .one rfl (.int _ _) (.one rfl (.int _ _) (.one rfl (.int _ _) (.one rfl (.int _ _) (.one rfl (.bool _) .nil))))
 |pos =>simp only[enc,Pos.av,bf]at h⊢;obtain⟨x1,r1,rfl,q1,h1⟩:=h.inv_one rfl;obtain⟨l1,s1,rfl,h2⟩:=h1.bJ;obtain⟨x2,r2,rfl,q2,h3⟩:=h2.inv_one rfl;obtain⟨l2,s2,rfl,h4⟩:=h3.bJ;obtain⟨x3,r3,rfl,q3,h5⟩:=h4.inv_one rfl;obtain⟨l3,s3,rfl,h6⟩:=h5.bJ;obtain⟨x4,r4,rfl,q4,h7⟩:=h6.inv_one rfl;obtain⟨l4,s4,rfl,h8⟩:=h7.bJ;obtain⟨x5,r5,rfl,q5,h9⟩:=h8.inv_one rfl;obtain⟨x6,r6,rfl,q6,h10⟩:=h9.inv_one rfl;obtain rfl:=h10.cL;cases q1;cases q2;cases q3;cases q4;cases q5;cases q6;exact .one rfl (.int _ _) (.ints l1 rfl (.one rfl (.u64 _) (.ints l2 rfl (.one rfl (.int _ _) (.ints l3 rfl (.one rfl (.int _ _) (.ints l4 rfl (.one rfl (.int _ _) (.one rfl (.int _ _) .nil)))))))))
theorem bu.X6 {g g':Gh}{tk tk':List Nat}{w:World}{e:ET}{l:List e.T}{cs:List Value}(h:bu g tk w (l.map (enc e)) cs){w':World}:bu g' tk' w' (l.map (enc e)) cs:=by
 induction l generalizing cs with
 |nil=>cases h;exact .nil
 |cons x l ih =>
  cases h with
  |cons hs hx h1 h2=>exact .cons hs hx (Uu e x h1) (ih h2)
noncomputable section
variable {P:Program}{g:Gh}{h:Hp}{tk:List Nat}{w:World}
theorem bu.append {l m:List AV}{vs us:List Value}(h:bu g tk w l vs)(k:bu g tk w m us):bu g tk w (l++m) (vs++us):=by
 induction l generalizing vs with
 |nil=>cases h;exact k
 |cons b l ih=>cases h with|cons hs hx h hr=>subst hx;exact .cons hs (by simp_all) h (ih hr)
theorem gq {a:AV}{c:Value}{n:Int}{k:IntKind}(hk:kindOk k a=true)(ha:pV a=some n)(hr:aM g tk w a c):c=.int k n:=by cases a<;>simp[pV]at ha<;>simp[kindOk]at hk<;>cases hr<;>simp_all
theorem tf {a:AV}{c:Value}{b:Bool}(ha:Av a=some b)(hr:aM g tk w a c):c=.bool b:=by cases a<;>simp[Av]at ha<;>cases hr<;>simp_all
theorem bp {a:AV}{n:Int}(ha:pV a=some n):aK a=true:=by cases a<;>simp[pV]at ha<;>rfl
theorem fu {a:AV}{n:Bool}(ha:Av a=some n):aK a=true:=by cases a<;>simp[Av]at ha<;>rfl
theorem wA {v:AV}{m:Mv}(h:Jp v=some m){cs:List Value}(hr:ay g tk w (bf v) cs):ay g tk w (bf (Mv.av m)) cs∧storable v=true:=by
 unfold Jp at h;split at h
 ·rename_i a b c d e;simp only[Option.ite_none_right_eq_some,E',B',H']at h;obtain⟨⟨⟨⟨k1,k2⟩,k3⟩,k4⟩,a',ha,b',hb,c',hc,d',hd,e',he,rfl⟩:=h;obtain⟨x1,r1,rfl,q1,hr⟩:=hr.inv_one (bp ha);obtain⟨x2,r2,rfl,q2,hr⟩:=hr.inv_one (bp hb);obtain⟨x3,r3,rfl,q3,hr⟩:=hr.inv_one (bp hc);obtain⟨x4,r4,rfl,q4,hr⟩:=hr.inv_one (bp hd);obtain⟨x5,r5,rfl,q5,hr⟩:=hr.inv_one (fu he);obtain rfl:=hr.cL;obtain rfl:=gq k1 ha q1;obtain rfl:=gq k2 hb q2;obtain rfl:=gq k3 hc q3;obtain rfl:=gq k4 hd q4;obtain rfl:=tf he q5;exact⟨.one rfl (.int _ _) (.one rfl (.int _ _) (.one rfl (.int _ _) (.one rfl (.int _ _) (.one rfl (.bool _) .nil)))),rfl⟩
 ·cases h
theorem ay.swap {s s':AV}{l l':List AV}{cs:List Value}(hs:aK s=true)(hs':aK s'=true)(h1:∀c,aM g tk w s c→aM g tk w s' c)(h2:∀r,ay g tk w l r→ay g tk w l' r)(h:ay g tk w (s::l) cs):ay g tk w (s'::l') cs:=by obtain⟨c,r,rfl,q,hr⟩:=h.inv_one hs;exact .one hs' (h1 c q) (h2 r hr)
theorem ay.keep {k:IntKind}{n:Nat}{xs:List Int}{l l':List AV}{cs:List Value}(h2:∀r,ay g tk w l r→ay g tk w l' r)(h:ay g tk w (.ints k n xs::l) cs):ay g tk w (.ints k n xs::l') cs:=by obtain⟨hl,r,rfl,hr⟩:=h.bJ;exact .ints hl rfl (h2 r hr)
theorem rD {v:AV}{m:Pos}(h:toPos v=some m){cs:List Value}(hr:ay g tk w (bf v) cs):ay g tk w (bf (Pos.av m)) cs∧storable v=true:=by
 unfold toPos at h;split at h
 ·rename_i v bd pr pk tn rk ps ck hf fl;simp only[Option.ite_none_right_eq_some,E',B',H']at h;obtain⟨⟨⟨⟨⟨k1,k2⟩,k3⟩,k4⟩,k5⟩,v',hv,tn',htn,ps',hps,hf',hhf,fl',hfl,rfl⟩:=h;refine⟨?_,rfl⟩;have i:=fun (a:AV) (n:Int) (k:IntKind) (hk:kindOk k a=true) (ha:pV a=some n) (c:Value) (hc:aM g tk w a c)=>(gq hk ha hc) ▸ (aM.int (g:=g) (tk:=tk) (w:=w) k n);revert hr
  exact ay.swap (bp hv) rfl (i _ _ _ k1 hv) fun _=>ay.keep fun _=>ay.swap rfl rfl (fun _ h=>h) fun _=>ay.keep fun _=>ay.swap (bp htn) rfl (i _ _ _ k2 htn) fun _=>ay.keep fun _ =>
   ay.swap (bp hps) rfl (i _ _ _ k3 hps) fun _=>ay.keep fun _=>ay.swap (bp hhf) rfl (i _ _ _ k4 hhf) fun _=>ay.swap (bp hfl) rfl (i _ _ _ k5 hfl) fun _ h=>h
 ·cases h
theorem Rr {e:ET}{v:AV}{x:e.T}(h:dec e v=some x){cs:List Value}(hr:ay g tk w (bf v) cs):ay g tk w (bf (enc e x)) cs∧storable v=true:=by
 cases e with
 |i k =>simp only[dec,Option.ite_none_right_eq_some]at h;obtain⟨hk,hx⟩:=h;have hc:=bp hx;rw[nW hc]at hr;obtain⟨c,r,rfl,q,hr'⟩:=hr.inv_one hc;obtain rfl:=hr'.cL;obtain rfl:=gq hk hx q;exact⟨.one rfl (.int _ _) .nil,by cases v<;>simp[pV]at hx<;>rfl⟩
 |u64 =>simp only[dec]at h;cases v<;>simp[toU]at h;subst h;exact⟨hr,rfl⟩
 |str =>simp only[dec]at h;cases v<;>simp[toS]at h;subst h;exact⟨hr,rfl⟩
 |mv=>exact wA h hr
 |pos=>exact rD h hr
theorem kW {e:ET}{l:List AV}{xs:List e.T}(h:kZ e l=some xs){cs:List Value}(hr:bu g tk w l cs):bu g tk w (xs.map (enc e)) cs:=by
 induction l generalizing xs cs with
 |nil=>simp[kZ]at h;subst h;exact hr
 |cons v l ih =>
  simp only[kZ,B',H']at h;obtain⟨x,hx,ys,hys,rfl⟩:=h;cases hr with
  |cons hs he h1 h2=>exact .cons (ft e x).1 he (Rr hx h1).1 (ih hys h2)
theorem kS {e:ET}{l:List AV}{xs:List e.T}(h:kZ e l=some xs):xs.length=l.length:=by
 induction l generalizing xs with
 |nil=>simp[kZ]at h;subst h;rfl
 |cons v l ih =>simp only[kZ,B',H']at h;grind
theorem yD {e:ET}{x:AV}{xs:List e.T}(h:fJ e x=some xs){v:Value}(hr:aM g tk w x v):∃a c cs,v=.slice a xs.length c∧bu g tk w (xs.map (enc e)) cs∧j8 g w False a cs:=by
 unfold fJ at h;split at h
 ·rename_i e' l t;split at h
  ·rename_i he;subst he;simp only[A']at h;subst h;cases hr with
   |list hn h1 h2 h3 h4 =>subst hn;exact⟨_,_,_,rfl,h1,h2.imp id (by grind)⟩
  ·cases h
 ·rename_i fr l;cases hr with
  |vlist hn h1 h2 h4 =>subst hn;exact⟨_,_,_,by rw[kS h],kW h h1,h2.imp id (by grind)⟩
 ·simp only[A']at h;subst h;cases hr;exact⟨_,_,[],rfl,.nil,.inl rfl⟩
 ·cases h
theorem BA:∀(l:List Int) {cs:List Value},bu g tk w (l.map (enc (.i .u8))) cs→cs=l.map (Value.int .u8)
 | [],_,h=>by cases h;rfl
 |n::l,_,h=>by
  cases h with
  |cons hs hx hc hr =>
   subst hx
   rw[BA l hr]
   change ay g tk w [.int .u8 n] _ at hc
   obtain⟨x,r,rfl,q,hn⟩:=hc.inv_one rfl
   obtain rfl:=hn.cL
   cases q
   rfl
theorem DC:∀(l:List Int) (s:ByteArray),(l.foldl (fun r n=>r.push (UInt8.ofNat n.toNat)) s).data.toList=s.data.toList++l.map fun (n:Int)=>UInt8.ofNat n.toNat
 | [],s=>by simp
 |n::l,s=>by
  rw[List.foldl_cons,DC l]
  simp[ByteArray.push]
theorem xC {s d:TypeId}(h:qD P s d=true):∃e,P.underlying s=some (.slice e)∧P.underlying e=some (.int .u8)∧P.underlying d=some .string:=by unfold qD at h;grind
theorem Rx {s d:TypeId}{x v:AV}{a:Value}(h:(conv P s d x).get=some v)(hx:aM g tk w x a):∃v',(convert s d a).run P w=.ok v' w∧aM g tk w v v':=by
 unfold conv at h
 cases hb:qD P s d with
 |false=>rw[hb]at h;exact LF h hx
 |true =>
  rw[hb]at h;simp only at h;split at h
  ·rename_i l hl;simp only[aj,A']at h;subst h;obtain⟨ad,c,cs,rfl,hr,hs⟩:=yD hl hx;obtain rfl:=BA l hr;obtain⟨e,hse,hee,hde⟩:=xC hb;rw[run_convert_bytes_string w s d e ad l.length c hse hee hde];cases ad with
   |none =>
    have h0:l=[]:=by
     rcases hs with h0|⟨_,_,e1,_⟩
     ·simpa using h0
     ·cases e1
    subst h0;exact⟨.string .empty,by simp[Conv.bytesToString,Sem.run_pure],.str rfl⟩
   |some ad =>
    have hld:(loadCells ad l.length).run P w=.ok (l.map (Value.int .u8)).toArray w:=by
     rcases hs with h0|⟨c',o,e1,hat,_⟩
     ·have h0:l=[]:=by simpa using h0
      subst h0;rfl
     ·cases e1
      have:=run_loadCells_list (P:=P) w ⟨c',o,none⟩ (l.map (Value.int .u8)) (fun j v hj=>by
       have hp:(⟨c',o,none⟩:Addr).add j=⟨c',o+j,none⟩:=by unfold Addr.add;split<;>simp_all
       rw[hp]
       exact(hat j v hj).1)
      simpa using this
    exact⟨_,run_bytesToString w ad _ _ l hld,.str (by rw[DC];simp[ub])⟩
  ·simp at h
theorem zi {e:ET}(xs:List e.T){cs:List Value}(hr:bu g tk w (xs.map (enc e)) cs):∀v∈cs,(∀x,v≠.agg x)∧(∀x,v≠.tuple x):=by
 induction xs generalizing cs with
 |nil=>cases hr;simp
 |cons x xs ih =>
  cases hr with
  |cons hs hx h1 h2 =>
   subst hx;intro v hv;rcases List.mem_append.1 hv with hv|hv
   ·exact lC h1 v hv
   ·exact ih h2 v hv
theorem jV {vs us:List Value}{o j:Nat}(hj:j<o)(ho:o≤vs.length):(bA vs o us)[j]?=vs[j]? := by rw[bA,List.append_assoc,List.getElem?_append_left (by simp;omega),List.getElem?_take_of_lt hj]
theorem MR.vB (m:MR g h w){k b cap z n d:Nat}(ho:g.own[k]?=some (some (b,cap,z)))(hn:h.ag[k]?=some n){cells cells':Array Value}{ty:TypeId}(hb:w.heap[b]?=some (.cells cells ty (0,0))){news:List Value}(hl:news.length=d*Bh z)(hroom:n+d≤cap)
  (hc:cells'.toList=bA cells.toList (n*Bh z) news) :
  MR { g with fz:=fun c o=>g.fz c o∨(c=b∧o<(n+d)*Bh z) } { h with ag:=h.ag.set k (n+d) } (bk w b (.cells cells' ty)) ∧
   Le g h.ag w { g with fz:=fun c o=>g.fz c o∨(c=b∧o<(n+d)*Bh z) } (h.ag.set k (n+d)) (bk w b (.cells cells' ty)):=by
 obtain⟨n',cells0,ty0,h2,h3,hm,h4,h5,h6,h7,h8⟩:=m.tok k b cap z ho;obtain rfl:n'=n:=by simp_all
 have e0:=h5.symm.trans hb;simp only[A',Obj.cells.injEq]at e0;obtain⟨rfl,rfl,_⟩:=e0;have hk:=(C'.1 hn).1;have hnz:n' * Bh z+d*Bh z≤cells0.size:=by rw[h6.1,←Nat.add_mul];exact Nat.mul_le_mul_right _ hroom
 have hsz:cells'.size=cap*Bh z:=by rw[←Array.length_toList,hc,eL _ _ _ (by simp[hl];omega)];simpa using h6.1
 have hle:Le g h.ag w { g with fz:=fun c o=>g.fz c o∨(c=b∧o<(n'+d)*Bh z) } (h.ag.set k (n'+d)) (bk w b (.cells cells' ty0)):=by
  refine⟨rfl,Below.put _ h4,fun _ _ x=>.inl x,fun c o x h1 h2'=>?_,fun _ _ x=>x,fun _ _ x=>x,fun _ x=>x,fun j q x=>?_,fun i c x=>ja (aN (by grind))⟩
  ·by_cases hcb:c=b
   ·subst hcb;have ho':=h7 o h1;rw[aw hb]at h2';rw[aw (cx hb)];have:=jV (vs:=cells0.toList) (us:=news) ho' (by simp;omega);grind
   ·rw[b9 (aN hcb)];exact h2'
  ·grind
 refine⟨⟨by rw[cG];exact m.base,fun c o x=>by
   rw[cG]
   rcases x with x|⟨rfl,_⟩
   ·exact m.fC c o x
   ·exact aB hb,m.dN,fun i c l h1 h2=>?_,m.xc,by simp[m.dW],fun j h1=>?_,fun j b' cap' z' h1=>?_,m.xd,m.gT,fun l c r h1 h2=>?_,m.xe,fun D hD=>?_,fun p hp=>(m.iH p hp).mono hle⟩,hle⟩
 ·obtain⟨a,f,o,d',e⟩:=m.var i c l h1 h2;have hcb:c≠b:=by grind
  refine⟨a,fun o x=>?_,o,by rw[aN hcb];exact d',e.mono hle⟩;simp_all
 ·have hjk:k≠j:=by grind
  obtain⟨q,hq⟩:=m.jU j h1;refine⟨q,?_⟩;show(h.ag.set k (n'+d))[j]?=_;rw[List.getElem?_set_ne hjk];exact hq
 ·by_cases hjk:k=j
  ·subst hjk;have:=ho.symm.trans h1;simp only[A',Prod.mk.injEq]at this;obtain⟨rfl,rfl,rfl⟩:=this;refine⟨n'+d,cells',ty0,by simp[hk],hroom,hm,h4,cx hb,⟨hsz,h6.2⟩,fun o x=>?_,h8⟩;grind
  ·obtain⟨q,cs,t,a1,a2,a3,a4,a5,a6,a7,a8⟩:=m.tok j b' cap' z' h1;have hbb:b'≠b:=fun e=>hjk (m.xd k j b cap z cap' z' ho (e ▸ h1));refine⟨q,cs,t,by simp_all,a2,a3,a4,by rw[aN hbb];exact a5,a6,fun o x=>?_,a8⟩;simp_all
 ·obtain⟨a,R,f,d'⟩:=m.loop l c r h1 h2;exact⟨a,R,by rw[aN (fun e=>by subst e;rw[hb]at f;cases f)];exact f,d'.mono hle⟩
 ·obtain⟨a,f⟩:=m.defs D hD;exact⟨a,by rw[aN (fun e=>by subst e;rw[hb]at f;cases f)];exact f⟩
theorem MR.rW (m:MR g h w){k n n' cap z:Nat}(hn:h.ag[k]?=some n)(hlt:n<n')(hcap:n'≤cap)(hmax:cap≤maxLen){cells:Array Value}{ty:TypeId}(hs:zK z cap cells.size ty)(w1:World)(hw:w1=w∨w1=w.drew) :
  MR { g with fz:=fun c o=>g.fz c o∨(c=w.heap.size∧o<n' * Bh z),own:=g.own.set k (some (w.heap.size,cap,z)) } { h with ag:=h.ag.set k n' } (w1.alloc (.cells cells ty)) ∧
   Le g h.ag w { g with fz:=fun c o=>g.fz c o∨(c=w.heap.size∧o<n' * Bh z),own:=g.own.set k (some (w.heap.size,cap,z)) } (h.ag.set k n') (w1.alloc (.cells cells ty)):=by
 have hk:=(C'.1 hn).1;have hk':k<g.own.length:=by rw[m.dW];exact hk
 have hsize:w1.heap.size=w.heap.size:=by rcases hw with rfl|rfl<;>rfl
 have m1:MR g h (w1.alloc (.cells cells ty))∧Le g h.ag w g h.ag (w1.alloc (.cells cells ty)):=by
  rcases hw with rfl|rfl
  ·exact m.alloc _
  ·obtain⟨a,b⟩:=m.drew;obtain⟨c,d⟩:=a.alloc (.cells cells ty);exact⟨c,b.trans d⟩
 obtain⟨m1,l1⟩:=m1;have hnew:(w1.alloc (.cells cells ty)).heap[w.heap.size]?=some (.cells cells ty (0,0)):=by rw[←hsize];exact heap_alloc_new w1 _
 have l2:Le g h.ag (w1.alloc (.cells cells ty)) { g with fz:=fun c o=>g.fz c o∨(c=w.heap.size∧o<n' * Bh z),own:=g.own.set k (some (w.heap.size,cap,z)) } (h.ag.set k n') (w1.alloc (.cells cells ty)):=by
  refine⟨rfl,Below.refl _ _,fun _ _ x=>.inl x,fun _ _ _ _ x=>x,fun _ _ x=>x,fun _ _ x=>x,fun _ x=>x,fun j q x=>?_,fun _ _ _=>rfl⟩;by_cases hjk:k=j
  ·grind
  ·simp_all
 have notvar:w.heap.size∉g.vars:=fun hv=>by obtain⟨i,hi⟩:=List.getElem?_of_mem hv;have hi':=(C'.1 hi).1;obtain⟨_,_,_,d,_⟩:=m.var i _ _ hi (I' (by rw[←m.dN];exact hi'));simp_all
 have notown:∀(j c z':Nat),g.own[j]?≠some (some (w.heap.size,c,z')):=fun j c z' x=>by obtain⟨_,_,_,_,_,_,_,d,_⟩:=m.tok j _ c z' x;simp_all
 have hle:=l1.trans l2;refine⟨⟨m1.base,fun c o x=>?_,m1.dN,fun i c l h1 h2=>?_,m1.xc,by simp[m.dW],fun j h1=>?_,fun j b' cap' z' h1=>?_,fun j j' b c1 z1 c2 z2 h1 h2=>?_,m1.gT,fun l c r h1 h2=>?_,m1.xe,m1.defs,fun p hp=>(m.iH p hp).mono (hle)⟩,hle⟩
 ·rcases x with x|⟨rfl,_⟩
  ·exact m1.fC c o x
  simp_all
 ·obtain⟨a,f,o,d',e⟩:=m1.var i c l h1 h2;refine⟨a,fun o x=>?_,o,d',e.mono l2⟩;grind
 ·have hjk:k≠j:=by grind
  simp only at h1;rw[List.getElem?_set_ne hjk]at h1;obtain⟨q,hq⟩:=m.jU j h1;simp_all
 ·simp only at h1;by_cases hjk:k=j
  ·subst hjk;simp[hk']at h1;obtain⟨rfl,rfl,rfl⟩:=h1;refine⟨n',cells,ty,by simp[hk],hcap,hmax,m.base,hnew,hs,fun o x=>?_,notvar⟩;rcases x with x|⟨_,x⟩
   ·exact absurd (m.fC _ _ x) (Nat.lt_irrefl _)
   ·exact x
  ·rw[List.getElem?_set_ne hjk]at h1;obtain⟨q,cs,t,a1,a2,a3,a4,a5,a6,a7,a8⟩:=m1.tok j b' cap' z' h1;grind
 ·simp only at h1 h2;by_cases hjk:k=j<;>by_cases hjk':k=j'
  ·omega
  ·simp_all
  ·simp_all
  ·rw[List.getElem?_set_ne hjk]at h1;rw[List.getElem?_set_ne hjk']at h2;exact m.xd j j' b c1 z1 c2 z2 h1 h2
 ·obtain⟨a,R,f,d'⟩:=m1.loop l c r h1 h2;exact⟨a,R,f,d'.mono l2⟩
end
noncomputable section
variable {P:Program}{g:Gh}{h:Hp}{tk:List Nat}{w:World}
theorem jE (e:ET):Bh (Uk e)=lF e:=by
 cases e with
 |i k=>cases k<;>rfl
 |_=>rfl
theorem BZ {e:ET}(h:Uk e=0):e=.i .u8:=by
 cases e with
 |i k=>cases k<;>first|rfl|cases h
 |_=>cases h
structure V3 (P:Program)(t:TypeId)(e:ET)(el:TypeId)(i:TypeInfo)(z:Value):Prop where
 Ml:P.underlying t=some (.slice el)
 info:P.info? el=some i
 size:i.size=lF e
 bytes:i.bytes≤131072
 asI:0<i.bytes
 zero:i.zero=some z
 FR:z.cells.size=lF e
 byte:e=.i .u8→el=t8
theorem my {t:TypeId}{e:ET}(h:dg P t=some e):∃el i z,V3 P t e el i z:=by
 unfold dg at h;split at h
 ·rename_i el hu;split at h
  ·rename_i e' zs i h1 h2 h3;simp only[Option.ite_none_right_eq_some,A']at h;obtain⟨⟨hz,hs,hb,hb0,h8⟩,rfl⟩:=h;obtain⟨i',z,hi',hzz,hr⟩:=nC (g:=⟨0,fun _ _=>False,[],[],[],[]⟩) (tk:=[]) (w:=default) h2;obtain rfl:i'=i:=by simp_all
   exact⟨el,i',z,hu,h3,hs,hb,hb0,hzz,by have:=hr.length;simp_all,h8⟩
  ·cases h
 ·cases h
theorem sN {t ty:TypeId}{e:ET}{el:TypeId}{i:TypeInfo}{z:Value}(H:V3 P t e el i z)(a a':Option Addr)(n cap c:Nat)(hc:n≤cap) :
  (Builtin.append_ #[t,t] ty #[.slice a n cap,.slice a' 0 c]).run P w=.ok (.slice a n cap) w:=by
 have hf:∀s w,(Builtin.firstCells s 0 (.slice a' 0 c)).run P w=.ok #[] w:=by
  intro s w;cases a' with
  |none=>rfl
  |some b=>simp[Builtin.firstCells,loadCells,loadCellsFrom,pure,Sem.run]
 cases a with
 |none=>simp[Builtin.append_,Go.run_underlying H.Ml,Go.sizeOf,typeInfo,H.info,Builtin.lenOf,hc,hf]
 |some b=>simp[Builtin.append_,Go.run_underlying H.Ml,Go.sizeOf,typeInfo,H.info,Builtin.lenOf,hc,hf,storeCells]
theorem xu {t ty:TypeId}{e:ET}{el:TypeId}{i:TypeInfo}{z:Value}(H:V3 P t e el i z)(b n cap:Nat){cells:Array Value}{bt:TypeId}(hb:w.heap[b]?=some (.cells cells bt (0,0)))
  (a:Addr) (m c:Nat) (news:List Value) (hl:news.length=m*lF e) (hnews:∀j u,news[j]?=some u→w.cell? (a.add j)=some u) (h1:∀v∈news,(∀x,v≠.agg x)∧(∀x,v≠.tuple x)) (hroom:n+m≤cap) (hfit:n*lF e+news.length≤cells.size) :
  ∃cells',cells'.toList=bA cells.toList (n*lF e) news∧(Builtin.append_ #[t,t] ty #[.slice (some ⟨b,0,none⟩) n cap,.slice (some a) m c]).run P w=.ok (.slice (some ⟨b,0,none⟩) (n+m) cap) (bk w b (.cells cells' bt)):=by obtain⟨cells',e1,e2⟩:=fb (P:=P) bt b news w cells (n*lF e) 0 h1 hb (by simpa using hfit);refine⟨cells',by simpa using e1,?_⟩;have hf:=run_firstCells_some (P:=P) w (lF e) m a m c news hl hnews;simp[Builtin.append_,Go.run_underlying H.Ml,Go.sizeOf,typeInfo,H.info,H.size,Builtin.lenOf,hroom,hf,fF,e2]
theorem At.news {c o:Nat}{cs:List Value}(h:At g w c o cs):∀j u,cs[j]?=some u→w.cell? ((⟨c,o,none⟩:Addr).add j)=some u:=fun j u hj=>by
 rw[fF];exact(h j u hj).1
theorem uT {n:Nat}(h:n≤qI):n≤1073741824:=h
structure App (P:Program)(w:World)(t t2 ty:TypeId)(e:ET)(el:TypeId)(i:TypeInfo)(z:Value)(n:Nat)(news:List Value)(vx:Value):Prop where
 zero:n=0→∀(a:Option Addr) (m cap:Nat),m≤cap→(Builtin.append_ #[t,t2] ty #[.slice a m cap,vx]).run P w=.ok (.slice a m cap) w
 nil:0<n→(n:Int)≤9223372036854775807→n*i.bytes≤281474976710656→(Builtin.append_ #[t,t2] ty #[.slice none 0 0,vx]).run P w=.ok (.slice (some ⟨w.heap.size,0,none⟩) n (grownCap w n 0 el)) (w.drew.alloc (.cells (news.toArray++Builtin.zeroCells z.cells (grownCap w n 0 el-n)) el))
 at_:0<n→∀(b m cap:Nat) {cells:Array Value} {bt:TypeId},w.heap[b]?=some (.cells cells bt (0,0))→(∀v∈news,(∀x,v≠.agg x)∧(∀x,v≠.tuple x))→m+n≤cap→m*lF e+news.length≤cells.size →
  ∃cells',cells'.toList=bA cells.toList (m*lF e) news∧(Builtin.append_ #[t,t2] ty #[.slice (some ⟨b,0,none⟩) m cap,vx]).run P w=.ok (.slice (some ⟨b,0,none⟩) (m+n) cap) (bk w b (.cells cells' bt))
 grow:0<n→∀(b:Addr) (m cap:Nat) (olds:List Value),olds.length=m*i.size→(∀j v,olds[j]?=some v→w.cell? (b.add j)=some v)→cap<m+n→((m+n:Nat):Int)≤9223372036854775807→Builtin.nextslicecap (m+n) cap*i.bytes≤281474976710656 →
  (Builtin.append_ #[t,t2] ty #[.slice (some b) m cap,vx]).run P w=.ok (.slice (some ⟨w.heap.size,0,none⟩) (m+n) (grownCap w (m+n) cap el)) (w.drew.alloc (.cells (olds.toArray++news.toArray++Builtin.zeroCells z.cells (grownCap w (m+n) cap el-(m+n))) el))
theorem ru {t ty:TypeId}{e:ET}{el:TypeId}{i:TypeInfo}{z:Value}(H:V3 P t e el i z){g2:Gh}{a':Option Addr}{n c:Nat}{news:List Value}(hl:news.length=n*lF e)(hs:j8 g2 w False a' news):App P w t t ty e el i z n news (.slice a' n c):=by
 have hz:=td e;have some_of:0<n→∃c' o',a'=some ⟨c',o',none⟩∧At g2 w c' o' news:=fun hpos=>by
  obtain⟨c',o',h1,h2,_⟩:=hs.resolve_left (fun e0=>by
   rw[e0]at hl
   have:0<n*lF e:=Nat.mul_pos hpos hz
   simp at hl
   omega)
  grind
 refine⟨fun h0 a m cap hm=>by subst h0;exact sN H a a' _ _ _ hm,fun h0 h1 h2=>?_,fun h0 b m cap cells bt hb h1 h2 h3=>?_,fun h0 b m cap olds h1 h2 h3 h4 h5=>?_⟩
 ·obtain⟨c',o',rfl,hat⟩:=some_of h0;exact run_append_nil (P:=P) w t ty el i z H.Ml H.info H.zero ⟨c',o',none⟩ n c news (by rw[hl,H.size]) hat.news h0 h1 h2
 ·obtain⟨c',o',rfl,hat⟩:=some_of h0;exact xu (ty:=ty) H b m cap hb ⟨c',o',none⟩ n c news hl hat.news h1 h2 h3
 ·obtain⟨c',o',rfl,hat⟩:=some_of h0;exact run_append_grow (P:=P) w t ty el i z H.Ml H.info H.zero b m cap olds h1 h2 ⟨c',o',none⟩ n c news (by rw[hl,H.size]) hat.news h3 h4 h5
theorem PQ (m:MR g h w){t t2 ty:TypeId}{e:ET}{el:TypeId}{i:TypeInfo}{z:Value}(H:V3 P t e el i z){ys xs:List e.T}{cs news:List Value}{p:Prop}{a:Option Addr}{n cap:Nat}{vx:Value}(hr:bu g h.ag w (ys.map (enc e)) cs)(hsl:j8 g w p a cs)
  (hn1:bu g h.ag w (xs.map (enc e)) news) (hA:App P w t t2 ty e el i z xs.length news vx) (hpos:0<xs.length) (hlim:ys.length+xs.length≤qI) (hn:n=ys.length) (hcap:cap=ys.length) :
  ∃v h' y g' w',(eG.val (.list e (ys++xs) (.own h.ag.length)) { h with ag:=h.ag++[ys.length+xs.length] })=.val v h'∧(Builtin.append_ #[t,t2] ty #[.slice a n cap,vx]).run P w=.ok y w'∧MR g' h' w'∧Le g h.ag w g' h'.ag w'∧aM g' h'.ag w' v y:=by
 subst hn hcap;have hz:=td e;have hmem:∀(ys:List e.T) q,q∈ys.map (enc e)→cX (bf q)=lF e:=fun ys q hq=>by obtain⟨u,_,rfl⟩:=List.mem_map.1 hq;exact(ft e u).2
 have hlen:=hr.length (hmem ys);have hnlen:=hn1.length (hmem xs);rw[List.length_map]at hlen hnlen;have h63:((ys.length+xs.length:Nat):Int)≤9223372036854775807:=by have:=uT hlim;omega
 have hbytes:(ys.length+xs.length)*i.bytes≤140737488355328:=by
  have h1:=uT hlim
  calc (ys.length+xs.length)*i.bytes≤1073741824*131072:=Nat.mul_le_mul h1 H.bytes
   _=140737488355328:=by decide
 obtain⟨m1,l1⟩:=m.kO;have hset:(h.ag++[0]).set h.ag.length (ys.length+xs.length)=h.ag++[ys.length+xs.length]:=by rw[List.set_append_right _ _ (Nat.le_refl _)];simp
 have fresh:∀(old:Nat) (cells:Array Value),cells.size=grownCap w (ys.length+xs.length) old el*lF e→cells.toList.take ((ys.length+xs.length)*lF e)=cs++news →
   (Builtin.append_ #[t,t2] ty #[.slice a ys.length ys.length,vx]).run P w=.ok (.slice (some ⟨w.heap.size,0,none⟩) (ys.length+xs.length) (grownCap w (ys.length+xs.length) old el)) (w.drew.alloc (.cells cells el)) →
   ∃v h' y g' w',(eG.val (.list e (ys++xs) (.own h.ag.length)) { h with ag:=h.ag++[ys.length+xs.length] })=.val v h'∧(Builtin.append_ #[t,t2] ty #[.slice a ys.length ys.length,vx]).run P w=.ok y w'∧MR g' h' w'∧Le g h.ag w g' h'.ag w'∧aM g' h'.ag w' v y:=by
  intro old cells hsz htake hrun
  have hge:=grownCap_ge w (ys.length+xs.length) old el
  have hmx:=grownCap_le_maxLen w (ys.length+xs.length) old el (by have:=uT hlim;simp only[maxLen];omega)
  obtain⟨m',l'⟩:=m1.rW (k:=h.ag.length) (n:=0) (z:=Uk e) (cells:=cells) (ty:=el) (by simp) (n':=ys.length+xs.length) (by omega) hge hmx ⟨by rw[jE];exact hsz,fun e0=>H.byte (BZ e0)⟩ w.drew (.inr rfl)
  simp only[hset]at m' l'
  have le:=l1.trans l'
  refine⟨_,_,_,_,_,rfl,hrun,m',le,?_⟩
  have hblk:(w.drew.alloc (.cells cells el)).heap[w.heap.size]?=some (.cells cells el (0,0)):=heap_alloc_new w.drew _
  refine .list (cs:=cs++news) (by simp) (by rw[List.map_append];exact(hr.mono le).append (hn1.mono le)) (.inr ⟨w.heap.size,0,rfl,fun j u hj=>?_,fun _=>m.base⟩) (fun k' e'=>?_) (by simpa using hge)
  ·have hj':=(C'.1 hj).1
   rw[List.length_append,hlen,hnlen,←Nat.add_mul]at hj'
   refine⟨?_,.inr ⟨rfl,by rw[jE];simpa using hj'⟩⟩
   rw[aw hblk,Nat.zero_add]
   grind
  ·cases e'
   exact⟨ys.length+xs.length,by simp,by simp,fun _=>⟨some (w.heap.size,_,Uk e),by simp[m.dW],rfl,rfl,rfl⟩⟩
 have take_ok:∀(G:Nat),(cs.toArray++news.toArray++Builtin.zeroCells z.cells G).toList.take ((ys.length+xs.length)*lF e)=cs++news:=fun G=>by simp only[Array.toList_append];rw[List.take_append_of_le_length (by simp[hlen,hnlen,Nat.add_mul]),List.take_of_length_le (by grind)]
 cases a with
 |none =>
  have hcs:cs=[]:=by
   rcases hsl with h|⟨_,_,e0,_⟩
   ·exact h
   ·cases e0
  have hy0:ys.length=0:=by
   rw[hcs]at hlen;rcases Nat.eq_zero_or_pos ys.length with h|h
   ·exact h
   ·have:=Nat.mul_pos h hz;simp at hlen;omega
  have hr':=hA.nil hpos (by omega) (by grind);rw[hy0]at fresh take_ok⊢;simp only[Nat.zero_add]at fresh take_ok⊢;refine fresh 0 _ ?_ ?_ hr'
  ·have hge:=grownCap_ge w xs.length 0 el;simp only[Array.size_append,List.size_toArray,size_zeroCells,H.FR,hnlen,←Nat.add_mul];congr 1;omega
  simp_all
 |some b =>
  have holds:∀j u,cs[j]?=some u→w.cell? (b.add j)=some u:=by
   rcases hsl with e0|⟨c1,o1,ea,hat1,_⟩
   ·simp_all
   ·simp only[A']at ea;subst ea;exact hat1.news
  have hr':=hA.grow hpos b ys.length ys.length cs (by rw[hlen,H.size]) holds (by omega) h63 (growslice_fits (by omega) hbytes);have hge:=grownCap_ge w (ys.length+xs.length) ys.length el;refine fresh ys.length _ ?_ (take_ok _) hr';simp only[Array.size_append,List.size_toArray,size_zeroCells,H.FR,hlen,hnlen,←Nat.add_mul];congr 1;omega
theorem nV (m:MR g h w){t t2 ty:TypeId}{e:ET}{s x:AV}{r:eG}{vs vx:Value}(he:dg P t=some e)(ha:(jx h e s x).get=some r)(hs:aM g h.ag w s vs){g2:Gh}{tk2:List Nat}
  (hX:∀el i z,V3 P t e el i z→∀xs,fJ e x=some xs→∃news,bu g2 tk2 w (xs.map (enc e)) news∧App P w t t2 ty e el i z xs.length news vx) :
  ∃v h' y g' w',r=.val v h'∧(Builtin.append_ #[t,t2] ty #[vs,vx]).run P w=.ok y w'∧MR g' h' w'∧Le g h.ag w g' h'.ag w'∧aM g' h'.ag w' v y:=by
 obtain⟨el,i,z,H⟩:=my he;have hz:=td e
 have main:∀(g:Gh) (h:Hp) (m:MR g h w) (l:List e.T) (k cap:Nat) (a:Option Addr) (cs:List Value) (xs:List e.T),bu g h.ag w (l.map (enc e)) cs→j8 g w True a cs→jI g h.ag (Uk e) (.own k) l.length cap a→l.length≤cap→h.ag[k]?=some l.length →
   l.length+xs.length≤qI→fJ e x=some xs →
   ∃y g' w',(Builtin.append_ #[t,t2] ty #[.slice a l.length cap,vx]).run P w=.ok y w'∧MR g' { h with ag:=h.ag.set k (l.length+xs.length) } w'∧Le g h.ag w g' (h.ag.set k (l.length+xs.length)) w'∧aM g' (h.ag.set k (l.length+xs.length)) w' (.list e (l++xs) (.own k)) y:=by
  intro g h m l k cap a cs xs hr hsl htk hcap htok hlim hel
  obtain⟨news,hn0,hA⟩:=hX el i z H xs hel
  have hn1:bu g h.ag w (xs.map (enc e)) news:=hn0.X6
  obtain⟨n,t1,_,t3⟩:=htk k rfl
  obtain rfl:l.length=n:=by simp_all
  obtain⟨ow,how,hown⟩:=t3 rfl
  have hmem:∀(ys:List e.T) q,q∈ys.map (enc e)→cX (bf q)=lF e:=fun ys q hq=>by
   obtain⟨u,_,rfl⟩:=List.mem_map.1 hq;exact(ft e u).2
  have hlen:=hr.length (hmem l)
  have hnlen:=hn1.length (hmem xs)
  rw[List.length_map]at hlen hnlen
  have hkk:=(C'.1 htok).1
  by_cases h0:xs.length=0
  ·have:xs=[]:=by simp_all
   subst this
   refine⟨.slice a l.length cap,g,w,hA.zero rfl a _ _ hcap,?_,?_,?_⟩
   ·rw[List.length_nil,Nat.add_zero]
    have:h.ag.set k l.length=h.ag:=by
     apply List.ext_getElem?
     intro j
     by_cases hj:k=j
     ·subst hj;rw[htok];simp[hkk]
     ·simp_all
    rw[this];exact m
   ·have:h.ag.set k (l.length+([]:List e.T).length)=h.ag:=by
     apply List.ext_getElem?
     intro j
     by_cases hj:k=j
     ·subst hj;rw[htok];simp[hkk]
     ·simp_all
    rw[this];exact Le.refl _ _ _
   ·have:h.ag.set k (l.length+([]:List e.T).length)=h.ag:=by
     apply List.ext_getElem?
     intro j
     by_cases hj:k=j
     ·subst hj;rw[htok];simp[hkk]
     ·simp_all
    rw[this,List.append_nil]
    exact .list rfl hr (hsl.imp id (by simp_all)) (by simp_all) hcap
  ·
   have hpos:0<xs.length:=by omega
   have h63:((l.length+xs.length:Nat):Int)≤9223372036854775807:=by have:=uT hlim;omega
   have hbytes:(l.length+xs.length)*i.bytes≤140737488355328:=by
    have h1:=uT hlim
    calc (l.length+xs.length)*i.bytes≤1073741824*131072:=Nat.mul_le_mul h1 H.bytes
     _=140737488355328:=by decide
   have fresh:∀(old:Nat) (cells:Array Value),old<l.length+xs.length→cells.size=grownCap w (l.length+xs.length) old el*lF e→cells.toList.take ((l.length+xs.length)*lF e)=cs++news →
     (Builtin.append_ #[t,t2] ty #[.slice a l.length cap,vx]).run P w=.ok (.slice (some ⟨w.heap.size,0,none⟩) (l.length+xs.length) (grownCap w (l.length+xs.length) old el)) (w.drew.alloc (.cells cells el)) →
     ∃y g' w',(Builtin.append_ #[t,t2] ty #[.slice a l.length cap,vx]).run P w=.ok y w'∧MR g' { h with ag:=h.ag.set k (l.length+xs.length) } w'∧Le g h.ag w g' (h.ag.set k (l.length+xs.length)) w'∧aM g' (h.ag.set k (l.length+xs.length)) w' (.list e (l++xs) (.own k)) y:=by
    intro old cells hold hsz htake hrun
    have hge:=grownCap_ge w (l.length+xs.length) old el
    have hmx:=grownCap_le_maxLen w (l.length+xs.length) old el (by simp only[maxLen];omega)
    obtain⟨m',l'⟩:=m.rW (z:=Uk e) (cells:=cells) (ty:=el) htok (n':=l.length+xs.length) (by omega) hge hmx ⟨by rw[jE];exact hsz,fun e0=>H.byte (BZ e0)⟩ w.drew (.inr rfl)
    refine⟨_,_,_,hrun,m',l',?_⟩
    have hblk:(w.drew.alloc (.cells cells el)).heap[w.heap.size]?=some (.cells cells el (0,0)):=heap_alloc_new w.drew _
    refine .list (cs:=cs++news) (by simp) (by rw[List.map_append];exact(hr.mono l').append (hn1.mono l')) (.inr ⟨w.heap.size,0,rfl,fun j u hj=>?_,fun _=>m.base⟩) (fun k' e'=>?_) (by simpa using hge)
    ·have hj':=(C'.1 hj).1
     rw[List.length_append,hlen,hnlen,←Nat.add_mul]at hj'
     refine⟨?_,.inr ⟨rfl,by rw[jE];simpa using hj'⟩⟩
     rw[aw hblk,Nat.zero_add]
     rw[←htake,List.getElem?_take_of_lt hj']at hj
     simpa using hj
    ·cases e'
     exact⟨l.length+xs.length,by simp[hkk],by simp,fun _=>⟨some (w.heap.size,_,Uk e),by simp[m.dW,hkk],rfl,rfl,rfl⟩⟩
   cases ow with
   |none =>
    obtain⟨rfl,hl0,rfl⟩:=hown
    have:l=[]:=by simp_all
    subst this
    have hcs:cs=[]:=by apply List.eq_nil_of_length_eq_zero;rw[hlen];simp
    subst hcs
    have hr':=hA.nil hpos (by simpa using h63) (by grind)
    refine fresh 0 _ (by simpa using hpos) ?_ ?_ (by simpa using hr')
    ·have hge:=grownCap_ge w xs.length 0 el
     simp only[Array.size_append,List.size_toArray,size_zeroCells,H.FR,hnlen,←Nat.add_mul,List.length_nil,Nat.zero_add]
     congr 1
     omega
    simp_all
   |some q =>
    obtain⟨b,cap',z'⟩:=q
    obtain⟨rfl,rfl,rfl⟩:=hown
    obtain⟨n',cells,bt,q2,q3,qm,q4,q5,q6,q7,q8⟩:=m.tok k b cap (Uk e) how
    obtain rfl:n'=l.length:=by simp_all
    by_cases hroom:l.length+xs.length≤cap
    ·have hfit:l.length*lF e+news.length≤cells.size:=by rw[hnlen,q6.1,jE,←Nat.add_mul];exact Nat.mul_le_mul_right _ hroom
     obtain⟨cells',e1,e2⟩:=hA.at_ hpos b l.length cap q5 (zi xs hn1) hroom hfit
     obtain⟨m',l'⟩:=m.vB (cells':=cells') how htok q5 (by rw[jE];exact hnlen) hroom (by rw[jE];exact e1)
     refine⟨_,_,_,e2,m',l',?_⟩
     refine .list (cs:=cs++news) (by simp) (by rw[List.map_append];exact(hr.mono l').append (hn1.mono l')) (.inr ⟨b,0,rfl,fun j u hj=>?_,fun _=>q4⟩) (fun k' e'=>?_) (by simpa using hroom)
     ·have hj':=(C'.1 hj).1
      rw[List.length_append,hlen,hnlen,←Nat.add_mul]at hj'
      refine⟨?_,.inr ⟨rfl,by rw[jE];simpa using hj'⟩⟩
      rw[aw (cx q5),Nat.zero_add,←Array.getElem?_toList,e1]
      by_cases hjl:j<l.length*lF e
      ·rw[jV hjl (by simp;omega)]
       rw[List.getElem?_append_left (by rw[hlen];exact hjl)]at hj
       rcases hsl with e0|⟨c1,o1,ea,hat1,_⟩
       ·rw[e0]at hlen;simp at hlen;omega
       ·simp only[A',Addr.mk.injEq,and_true]at ea
        obtain⟨rfl,rfl⟩:=ea
        have:=(hat1 j u hj).1
        rw[aw q5,Nat.zero_add]at this
        simpa using this
      ·rw[List.getElem?_append_right (by omega),hlen]at hj
       rw[bA,List.append_assoc,List.getElem?_append_right (by simp;omega),List.length_take,Nat.min_eq_left (by simp;omega),List.getElem?_append_left (by rw[hnlen];rw[Nat.add_mul]at hj';omega)]
       exact hj
     ·cases e'
      exact⟨l.length+xs.length,by simp[hkk],by simp,fun _=>⟨_,how,rfl,rfl,rfl⟩⟩
    ·have holds:∀j u,cs[j]?=some u→w.cell? ((⟨b,0,none⟩:Addr).add j)=some u:=by
      rcases hsl with e0|⟨c1,o1,ea,hat1,_⟩
      ·simp_all
      ·simp only[A',Addr.mk.injEq,and_true]at ea
       obtain⟨rfl,rfl⟩:=ea
       exact hat1.news
     have hr':=hA.grow hpos ⟨b,0,none⟩ l.length cap cs (by rw[hlen,H.size]) holds (by omega) h63 (growslice_fits (by omega) hbytes)
     have hge:=grownCap_ge w (l.length+xs.length) cap el
     refine fresh cap _ (by omega) ?_ ?_ hr'
     ·simp only[Array.size_append,List.size_toArray,size_zeroCells,H.FR,hlen,hnlen,←Nat.add_mul]
      simp_all
     ·simp only[Array.toList_append,List.append_assoc]
      rw[←List.append_assoc,List.take_append_of_le_length (by simp[hlen,hnlen,Nat.add_mul]),List.take_of_length_le (by grind)]
 unfold jx at ha;split at ha
 ·rename_i e' l k xs hel;split at ha
  ·rename_i hee;subst hee;split at ha
   ·simp only[get_guard,aj,A',E',beq_iff_eq,decide_eq_true_eq]at ha;rename_i hk;obtain⟨⟨h1,h2⟩,rfl⟩:=ha;cases hs with
    |list hn hr hsl htk hc =>grind
   ·simp at ha
  ·simp at ha
 ·rename_i xs hel;simp only[get_guard,aj,A',decide_eq_true_eq]at ha;obtain⟨h1,rfl⟩:=ha;cases hs;obtain⟨m1,l1⟩:=m.kO;have hk:(h.ag++[0])[h.ag.length]?=some 0:=by simp
  obtain⟨y,g',w',a1,a2,a3,a4⟩:=main _ _ m1 [] h.ag.length 0 none [] xs .nil (.inl rfl) (fun k' e'=>by cases e';exact⟨0,hk,Nat.le_refl _,fun _=>⟨none,by simp[m.dW],rfl,rfl,rfl⟩⟩) (Nat.le_refl _) hk (by simpa using h1) hel;have hset:(h.ag++[0]).set h.ag.length ((0:Nat)+xs.length)=h.ag++[xs.length]:=by rw[List.set_append_right _ _ (Nat.le_refl _)];simp
  simp only[List.length_nil,hset,List.nil_append]at a1 a2 a3 a4;exact⟨_,_,y,g',w',rfl,a1,a2,l1.trans a3,a4⟩
 ·rename_i fr l x1 xs1 hel;split at ha
  ·rename_i ys hys;simp only[get_guard,aj,A',decide_eq_true_eq]at ha;obtain⟨hlim,rfl⟩:=ha;have hpos:0<(x1::xs1).length:=Nat.succ_pos _;generalize x1::xs1=xs at hel hlim hpos;cases hs with
   |vlist hn h1 h2 h4 =>subst hn;have hr:=kW hys h1;have hyl:=kS hys;obtain⟨news,hn0,hA⟩:=hX el i z H xs hel;have hn1:bu g h.ag w (xs.map (enc e)) news:=hn0.X6;exact PQ m H hr h2 hn1 hA hpos hlim hyl.symm (h4.trans hyl.symm)
  ·simp at ha
 ·simp at ha
theorem IW (m:MR g h w){t ty:TypeId}{e:ET}{s x:AV}{r:eG}{vs vx:Value}(he:dg P t=some e)(ha:(jx h e s x).get=some r)(hs:aM g h.ag w s vs){g2:Gh}{tk2:List Nat}(hx:aM g2 tk2 w x vx) :
  ∃v h' y g' w',r=.val v h'∧(Builtin.append_ #[t,t] ty #[vs,vx]).run P w=.ok y w'∧MR g' h' w'∧Le g h.ag w g' h'.ag w'∧aM g' h'.ag w' v y :=
 nV m he ha hs (g2:=g2) (tk2:=tk2) fun el i z H xs hel=>by
  obtain⟨a',c,news,rfl,hn0,hn2⟩:=yD hel hx
  have hnlen:=hn0.length (fun q hq=>by obtain⟨u,_,rfl⟩:=List.mem_map.1 hq;exact(ft e u).2)
  rw[List.length_map]at hnlen
  exact⟨news,hn0,ru H hnlen hn2⟩
theorem Sr {t t2 ty:TypeId}{el:TypeId}{i:TypeInfo}{z:Value}(H:V3 P t (.i .u8) el i z)(hu:P.underlying t2=some .string)(s:ByteArray):App P w t t2 ty (.i .u8) el i z s.size (Lib.strCells s) (.string s):=by
 have hlen:(Lib.strCells s).length=s.size:=Lib.strCells_length s;have hsz:i.size=1:=H.size;refine⟨fun h0 a m cap hm=>?_,fun h0 h1 h2=>?_,fun h0 b m cap cells bt hb h1 h2 h3=>?_,fun h0 b m cap olds h1 h2 h3 h4 h5=>?_⟩
 ·have hf:=Lib.run_firstCells_string (P:=P) (w:=w) i.size s;have hnil:Lib.strCells s=[]:=by simp_all
  rw[hnil,h0]at hf;cases a with
  |none=>simp[Builtin.append_,Go.run_underlying H.Ml,Go.run_underlying hu,Go.sizeOf,typeInfo,H.info,Builtin.lenOf,h0,hm,hf]
  |some b=>simp[Builtin.append_,Go.run_underlying H.Ml,Go.run_underlying hu,Go.sizeOf,typeInfo,H.info,Builtin.lenOf,h0,hm,hf,storeCells]
 ·have:=run_append_nil_string (P:=P) w t t2 ty el i z H.Ml hu H.info H.zero s h0 h1 h2;rw[this];have e:(s.data.map fun b=>Value.int .u8 (b.toNat:Int))=(Lib.strCells s).toArray:=by apply Array.ext';simp[Lib.strCells]
  rw[e]
 ·have h1e:m*lF (ET.i IntKind.u8)=m:=Nat.mul_one m;rw[h1e]at h3⊢;obtain⟨cells',e1,e2⟩:=fb (P:=P) bt b (Lib.strCells s) w cells m 0 h1 hb (by simpa using h3);refine⟨cells',by simpa using e1,?_⟩;have hf:=Lib.run_firstCells_string (P:=P) (w:=w) 1 s;simp[Builtin.append_,Go.run_underlying H.Ml,Go.run_underlying hu,Go.sizeOf,typeInfo,H.info,hsz,Builtin.lenOf,h2,hf,fF,e2]
 ·exact Lib.run_append_grow_string (P:=P) w t t2 ty el i z H.Ml hu H.info H.zero b m cap olds h1 h2 s h3 h4 h5
theorem xx (m:MR g h w){t t2 ty:TypeId}{e:ET}{s:AV}{b:List UInt8}{r:eG}{vs vx:Value}(he:dg P t=some e)(hu:D3 P t2=true)(ha:(jx h e s (y5 b)).get=some r)(hs:aM g h.ag w s vs)(hx:aM g h.ag w (.str b) vx) :
  ∃v h' y g' w',r=.val v h'∧(Builtin.append_ #[t,t2] ty #[vs,vx]).run P w=.ok y w'∧MR g' h' w'∧Le g h.ag w g' h'.ag w'∧aM g' h'.ag w' v y :=
 nV m he ha hs (g2:=g) (tk2:=h.ag) fun el i z H xs hel=>by
  have hu':P.underlying t2=some .string:=by
   unfold D3 at hu
   split at hu
   ·assumption
   ·cases hu
  cases hx with
  |str hb =>
   rename_i bs
   subst hb
   unfold y5 fJ at hel
   simp only at hel
   split at hel
   ·rename_i hee
    subst hee
    simp only[A']at hel
    subst hel
    refine⟨Lib.strCells bs,?_,?_⟩
    ·have:∀l:List UInt8,bu g h.ag w ((l.map fun b=>(b.toNat:Int)).map (enc (.i .u8))) (l.map fun b=>Value.int .u8 (b.toNat:Int)):=by
      intro l
      induction l with
      |nil=>exact .nil
      |cons x l ih=>exact .cons (c:=[.int .u8 (x.toNat:Int)]) rfl rfl (.one rfl (.int _ _) .nil) ih
     exact this bs.data.toList
    ·have:=Sr (w:=w) (ty:=ty) H hu' bs
     simpa using this
   ·cases hel
end
noncomputable section
variable {P:Program}{g:Gh}{h:Hp}{tk:List Nat}{w:World}
theorem rZ (off:Nat):∀(vs:List Value) (j:Nat) (cells:Array Value),off+j+vs.length≤cells.size →
  ((vs.zipIdx j).foldl (fun cs (p:Value×Nat)=>cs.setIfInBounds (off+p.2) p.1) cells).toList=bA cells.toList (off+j) vs
 | [],j,cells,_=>by simp[oL]
 |v::vs,j,cells,hl=>by
  simp only[List.length_cons]at hl
  simp only[List.zipIdx_cons,List.foldl_cons]
  rw[rZ off vs (j+1) _ (by simp;omega),Array.toList_setIfInBounds,jK _ _ _ (by simp;omega)]
  have:=jT cells.toList (off+j) [v] vs (by simp;omega)
  grind
theorem zm (place:Nat→Option (Nat×Nat)):∀(ps:List (Nat×AV)) (vs:List (Nat×Value)) (l l':List AV) (cells:Array Value),j4 place l ps=some l'→ay g tk w l cells.toList →
  ps.map (·.1)=vs.map (·.1)→aI g tk w (ps.map (·.2)) (vs.map (·.2))→∃cells',Instr.fill place cells vs=some cells'∧ay g tk w l' cells'.toList
 | [],vs,l,l',cells,hp,hr,hn,_=>by
  simp[j4]at hp
  subst hp
  cases vs with
  |nil=>exact⟨cells,rfl,hr⟩
  |cons=>simp at hn
 |(i,v)::ps,vs,l,l',cells,hp,hr,hn,hv=>by
  cases vs with
  |nil=>simp at hn
  |cons q vs =>
   obtain⟨i',x⟩:=q
   simp only[List.map_cons,List.cons.injEq]at hn
   obtain⟨rfl,hn⟩:=hn
   simp only[j4,B',Option.ite_none_right_eq_some,E',beq_iff_eq,decide_eq_true_eq]at hp
   obtain⟨⟨o,m⟩,hpl,⟨⟨hs,hpos⟩,hm⟩,l1,h1,h2⟩:=hp
   cases hv with
   |cons hv hrest =>
    have hvs:=aM.bf (v:=x) hv hs
    have hsz:=qz (v:=x) hv hs
    rw[←ij hs]at hsz
    have hlen:=Ho h1 hr hvs (by simp[hsz];omega)
    simp only[Array.length_toList]at hlen
    have e:=rZ o x.cells.toList 0 cells (by simpa using hlen)
    have hnew:ay g tk w l1 ((x.cells.zipIdx.foldl (fun cs (p:Value×Nat)=>cs.setIfInBounds (o+p.2) p.1) cells).toList):=by
     rw[←Array.foldl_toList,Array.toList_zipIdx,e,Nat.add_zero]
     exact hr.put _ _ _ h1 hvs (by simpa using hlen)
    obtain⟨cells',f1,f2⟩:=zm place ps vs l1 l' _ h2 hnew hn hrest
    refine⟨cells',?_,f2⟩
    simp only[Instr.fill,hpl]
    simp_all
theorem lM:∀(fs:List Field),(fs.all fun f=>(bW P f.type).isSome)=true→(fs.mapM (fun f=>do pure (f.offset,←Go.sizeOf f.type):Field→Sem (Nat×Nat))).run P w=.ok (fs.map fun f=>(f.offset,(bW P f.type).getD 0)) w
 | [],_=>rfl
 |f::fs,ha=>by
  simp only[List.all_cons,E']at ha
  obtain⟨m,hm⟩:=Option.isSome_iff_exists.1 ha.1
  rw[List.mapM_cons]
  simp only[Sem.run_bind,run_sizeOf _ _ hm,Result.andThen_ok,Sem.run_pure]
  have:=lM fs ha.2
  rw[this]
  simp[hm]
theorem LZ {t:TypeId}{ps:List (Nat×AV)}{v:AV}{vs:Array (Nat×Value)}(hb:Fu P t ps=some v)(hn:ps.map (·.1)=vs.toList.map (·.1))(hv:aI g tk w (ps.map (·.2)) (vs.toList.map (·.2))) :
  ∃y,(Instr.build t vs).run P w=.ok y w∧aM g tk w v y:=by
 unfold Fu at hb;simp only[B']at hb;obtain⟨z,hz,hb⟩:=hb;obtain⟨i,zv,hi,hzz,hr⟩:=nC (g:=g) (tk:=tk) (w:=w) hz;have hzero:(zeroValue t).run P w=.ok zv w:=by simp[zeroValue,Sem.run_bind,run_typeInfo t i hi,hzz,pure,Sem.run]
 split at hb
 ·rename_i fs hu;simp only[Option.ite_none_right_eq_some,H']at hb;obtain⟨hall,l',hp,rfl⟩:=hb;obtain⟨cells',f1,f2⟩:=zm _ _ _ _ _ zv.cells hp hr hn hv;refine⟨.agg cells',?_,.agg f2⟩;unfold Instr.build;rw[Sem.run_bind,hzero,Result.andThen_ok,Sem.run_bind,run_underlying t _ hu,Result.andThen_ok];simp only;rw[Array.mapM_eq_mapM_toList,Sem.run_bind];have hmm:=lM (P:=P) (w:=w) fs.toList hall;rw[Sem.run_map,hmm];simp only[Result.andThen_ok];have hplace:(fun i=>(List.toArray (fs.toList.map fun (f:Field)=>(f.offset,(bW P f.type).getD 0)))[i]?)=(fun (i:Nat)=>(fs[i]?).bind fun (f:Field)=>(bW P f.type).map fun m=>(f.offset,m)):=by
   funext i;simp only[List.getElem?_toArray,List.getElem?_map,Array.getElem?_toList];cases hf:fs[i]? with
   |none=>rfl
   |some f =>
    have:f∈fs.toList:=by rw[Array.mem_toList_iff];exact(by grind)
    rw[List.all_eq_true]at hall;obtain⟨m,hm⟩:=Option.isSome_iff_exists.1 (hall f this);simp[hm]
  rw[hplace,f1];rfl
 ·rename_i n e hu;simp only[B',H']at hb;obtain⟨m,hm,l',hp,rfl⟩:=hb;obtain⟨cells',f1,f2⟩:=zm _ _ _ _ _ zv.cells hp hr hn hv;refine⟨.agg cells',?_,.agg f2⟩;unfold Instr.build;rw[Sem.run_bind,hzero,Result.andThen_ok,Sem.run_bind,run_underlying t _ hu,Result.andThen_ok];simp only[Sem.run_bind,run_sizeOf e m hm,Result.andThen_ok];rw[f1];rfl
 ·cases hb
end
end Kz
