/- Part 4 of the proof. -/
import Derived.Test.YtgbndomcmihfkaaGreatDoorE3
import Derived.IntWalk
import Derived.Test.YtgbndomcmihfkaaGreatDoorProg
import Derived.Lib.Builder
import Derived.Below
import Derived.ChangeSame
import Derived.Carry
import Derived.OpenShut
import Derived.Deep.DeepHandedRow
import Derived.Lib.LaidTab
import Derived.Shelf.Vars
import Derived.Test.YtgbndomcmihfkaaGreatDoorCards
import Derived.Test.YtgbndomcmihfkaaGreatDoorTie
import Derived.WalkKit
import Derived.ProofKit
import Derived.Sort.Lot0
import Derived.Sort.Grow
import Derived.Sort.WalkB2
import Derived.Sort.WalkB12
import Derived.Deep.LoopGhost
import Derived.Deep.QuietTactic
import Derived.Shelf.RegionOpenPlain
import Derived.Shelf.SlicesQ.Load
import Derived.Lib.Hide
import Derived.Lib.SliceRun
import Derived.Lib.SlicesMore
import Derived.Deep.Cut
import Derived.Shelf.Spec.SlicesGrow
import Derived.Shelf.SlicesE.Clone
import Derived.Shelf.SlicesQ.IndexFunc
import Derived.Lib.SlKept
import Derived.Shelf.SlicesE.DeleteFunc
set_option linter.unusedSectionVars false
set_option linter.unusedVariables false
set_option linter.unusedSimpArgs false
set_option linter.unnecessarySimpa false
set_option maxRecDepth 100000
set_option maxHeartbeats 4000000
noncomputable section
namespace Kz
open Go
theorem aq {c a b:Bool}(h1:c=true→a=true)(h2:c=false→b=true):(bif c then a else b)=true:=by simp_all
theorem ak {a b:Bool}(h1:a=true)(h2:a=true→b=true):(a&&b)=true:=by rw[h1,h2 h1];rfl
theorem al {α:Type}{P:α→Prop}{c:Bool}{a b:α}(h1:c=true→P a)(h2:c=false→P b):P (bif c then a else b):=by grind
theorem aF {n:Int}(h1 : -9223372036854775808≤n)(h2:n≤9223372036854775807):wr .i64 n=n:=IntWalk.i64_in _ ⟨h1,h2⟩
theorem Kk {n:Int}(h1 : -128≤n)(h2:n≤127):wr .i8 n=n:=IntWalk.i8_in _ ⟨h1,h2⟩
theorem kD {n:Int}(h1:0≤n)(h2:n≤255):wr .u8 n=n:=IntWalk.u8_in _ ⟨h1,h2⟩
theorem W9 (n:Int):wr .u8 n=n%256:=IntKind.wrap_u8 n
theorem j5 (n:Int):0≤wr .u8 n:=by rw[W9];omega
theorem mM (n:Int):wr .u8 n≤255:=by rw[W9];omega
theorem Oc (n:Int) : -9223372036854775808≤wr .i64 n∧wr .i64 n≤9223372036854775807:=by unfold wr;rw[IntKind.wrap_i64];omega
theorem Sb (n:Int) : -128≤wr .i8 n∧wr .i8 n≤127:=by unfold wr;simp only[IntKind.wrap,IntKind.bits,IntKind.signed];simp;split<;>omega
noncomputable section
variable {X R:Type}{I:X→Prop}{Q:R→Prop}{μ:X→Nat}{ok:X→Bool}{st:X→aG X R}
def xf (I:X→Prop)(Q:R→Prop)(μ:X→Nat)(n:Nat):aG X R→Prop
 | .go y=>I y∧μ y<n
 | .out r=>Q r
 | .bad=>False
theorem QJ (h:∀x,I x→ok x=true∧xf I Q μ (μ x) (st x)):∀(n:Nat) (x:X),I x→μ x<n→∃r,cW (fun x=>bif ok x then st x else .bad) n x=some r∧Q r
 | 0,_,_,hn=>by simp_all
 |n+1,x,hx,hn=>by
  obtain⟨h1,h2⟩:=h x hx
  rw[cW]
  simp only[h1,cond_true]
  cases hs:st x with
  |go y =>
   rw[hs]at h2
   obtain⟨r,h3,h4⟩:=QJ h n y h2.1 (by have:=h2.2;omega)
   exact⟨r,h3,h4⟩
  |out r=>rw[hs]at h2;exact⟨r,rfl,h2⟩
  |bad=>rw[hs]at h2;exact h2.elim
theorem aQ (h:∀x,I x→ok x=true∧xf I Q μ (μ x) (st x))(x:X)(hx:I x)(hn:μ x<4294967296):∃r,cW (fun x=>bif ok x then st x else .bad) many x=some r∧Q r :=
 QJ h many x hx hn
end
theorem aJ {α:Type}[Inhabited α]{o:Option α}{Q:α→Prop}(h:∃r,o=some r∧Q r):o.isSome=true∧Q (o.getD default):=by grind
theorem eD {α:Type}{l:List α}{i:Nat}{d:α}(h:i<l.length):l.getD i d∈l:=by simp_all
end Kz
namespace Kz
open Go Go.RowKit
@[reducible] noncomputable def Pz:Program:=Go.Proofs.Tryz.prog
theorem ae:V5 Pz:=by
 have h : (Pz.funcs.toList.all fun fn => fn.body.isNone || !(fn.name == "runtime.NumGoroutine")) = true := by kernel_rfl
 refine⟨fun f fn hf hb=>?_⟩
 rw[List.all_eq_true]at h
 have:=h fn (by rw[Array.mem_toList_iff];exact Array.mem_of_getElem? hf)
 cases hx:fn.body<;>simp_all
end Kz
namespace Kz
open Go Go.RowKit Go.Proofs
def amF:KT:=[(246,14,[(0,[0]),(1,[0,4]),(2,[2]),(3,[2])])]
def ase:ar:=bO Pz amF [] [] []
theorem agy:aO ase:=af ae trivial trivial trivial
def IY (a:BitVec 64):Int:=(bif a==0#64 then(64)else(wr .i64
 ((have y :=
    have y :=
     have y :=
      have y:=[13,8,7,6];
      25::14::19::9::y;
     have y:=34::20::31::10::y;
     54::26::40::15::y;
    have y :=
     have y:=52::32::23::11::y;
     46::35::44::21::y;
    have y:=60::41::37::16::y;
    63::55::48::27::y;
   have y :=
    have y :=
     have y:=24::18::12::5::y;
     53::39::33::30::y;
    have y:=45::43::51::22::y;
    62::47::59::36::y;
   have y :=
    have y:=38::29::17::4::y;
    61::58::42::50::y;
   have y:=57::49::28::3::y;
   0::1::56::2::y).getD
  (Int.ofNat (((a&&&0#64-a)*285870213051353865#64) >>> 58).toNat).toNat 0)))
def Bl (a:BitVec 64):Bool:=(bif a==0#64 then true else(decide (0≤Int.ofNat (((a&&&0#64-a)*285870213051353865#64) >>> 58).toNat)&&decide (Int.ofNat (((a&&&0#64-a)*285870213051353865#64) >>> 58).toNat<Int.ofNat 64)&&true))
theorem asV (a:BitVec 64)(h:Bl a=true):PS Pz 246 [.u64 a] ((dI .i64).res (IY a)):=pq14 agy h
def ah9:GT:=g1 dU (fun a=>b7 (Bl a) ((dI .i64).res (IY a)))
theorem ark:Sound Pz 246 ah9:=aH fun a=>aA (asV a)
def ap5:KT:=[(200,7,[(0,[0]),(1,[0,4]),(2,[2]),(3,[2])])]
def amL:ar:=bO Pz ap5 [(246,ah9)] [] []
theorem ac6:aO amL:=af ae ⟨ark,trivial⟩ trivial trivial
def sR (a:BitVec 64):Int:=(bif a==0#64 then(-1)else(IY a))
def vy (a:BitVec 64):Bool:=(bif a==0#64 then true else(Bl a&&true))
theorem ama (a:BitVec 64)(h:vy a=true):PS Pz 200 [.u64 a] ((dI .i64).res (sR a)):=pq14 ac6 h
def Kw:GT:=g1 dU (fun a=>b7 (vy a) ((dI .i64).res (sR a)))
theorem Sa:Sound Pz 200 Kw:=aH fun a=>aA (ama a)
def ahR:KT:=[(142,13,[(0,[0]),(1,[0,3]),(2,[3,6]),(3,[3,4]),(4,[]),(5,[2])]),(198,4,[(0,[1]),(1,[2])]),(243,14,[(0,[0,1,4]),(1,[0,1]),(2,[0,1,13])])]
def aac:ar:=bO Pz ahR [(200,Kw)] [] []
theorem SS:aO aac:=af ae ⟨Sa,trivial⟩ trivial trivial
def Lg  (x:(Z'×(BitVec 64))):St:=St.mk (.yield 0::.ptr 1 0::(an 12 [])) (Hp.mk [[.list (ET.i .i64) x.1 (.own 1)],[.u64 x.2]] [0,x.1.length] [eF.mk 0 none 142 (an 3 (.ptr 0 0::.any::.any::.func 243 [] [.ptr 1 0]::(an 6 []))) [7] (sr Pz 142 4) (sF Pz 142 4)] 0 0 0)
def QG  : (Bool×Z'×(BitVec 64))→Out:=fun y=>.exit 0 (St.mk (.yield 0::.ptr 1 0::.any::.any::.bool y.1::(an 9 [])) (Hp.mk [[.list (ET.i .i64) y.2.1 (.own 1)],[.u64 y.2.2]] [0,y.2.1.length] [eF.mk 0 none 142 (an 3 (.ptr 0 0::.any::.any::.func 243 [] [.ptr 1 0]::(an 6 []))) [7] (sr Pz 142 4) (sF Pz 142 4)] 0 0 0))
def UJ  (x:(Z'×(BitVec 64))):aG (Z'×(BitVec 64)) ((Bool×Z'×(BitVec 64))):=(bif x.2 != 0#64 then(aG.go (x.1++[sR x.2],x.2&&&x.2-1#64))else(aG.out ((x.2 != 0#64,x.1,x.2))))
def Om  (x:(Z'×(BitVec 64))):Bool:=(bif x.2 != 0#64 then(vy (x.2)&&(x.1.length==x.1.length&&decide (x.1.length+1≤1073741824)&&true))else true)
def pJ  (x:(Z'×(BitVec 64))):Option ((Bool×Z'×(BitVec 64))):=cW (fun x=>bif Om  x then UJ  x else .bad) many x
abbrev N5 {α:Type}(k:(Z'×(BitVec 64))→α)(s:St):α:=k ((tL (ET.i .i64) (tH s 0 0)),(tU (tH s 1 0)))
theorem Yc  (x:(Z'×(BitVec 64)))(r:(Bool×Z'×(BitVec 64)))(h:pJ  x=some r):aC Pz (bc Pz 243 0) (Lg  x) (QG  r):=smq (m:=12) (fn:=243) SS (N5 fun x=>some x) (fun o=>match o with | .exit 0 s=>some ((tB (tT s 4)),(tL (ET.i .i64) (tH s 0 0)),(tU (tH s 1 0)))|_=>none) many x r h
def K9 (b:Code)(s:St):Tr Out:=N5 (fun x=>jS b (bc Pz 243 0) s (Lg x) (pJ x) (QG )) s
theorem U7:∀b,aT Pz b (K9 b):=fun _ _ _ h=>bF (Yc _) h
def apn:ar:=bO Pz ahR [(200,Kw)] [(243,0,K9)] []
theorem aeU:aO apn:=af ae ⟨Sa,trivial⟩ ⟨U7,trivial⟩ trivial
def gw (a:BitVec 64):List Int:=(((pJ ([],a)).getD default).2.1)
def oZ (a:BitVec 64):Bool:=((pJ ([],a)).isSome&&true)
theorem arp (a:BitVec 64)(h:oZ a=true):PS Pz 142 [.u64 a] ((dL (.i .i64)).res (gw a)):=pq14 aeU h
def jm:GT:=g1 dU (fun a=>b7 (oZ a) ((dL (.i .i64)).res (gw a)))
theorem jv:Sound Pz 142 jm:=aH fun a=>aA (arp a)
def akw:KT:=[(268,11,[(0,[0,6,7]),(1,[0,8]),(2,[2]),(3,[2])])]
def asH:ar:=bO Pz akw [] [] []
theorem ad0:aO asH:=af ae trivial trivial trivial
def Em (a:Int):BitVec 64:=(bif decide (a<0)then(0#64)else(bif decide (a≥64)then(0#64)else(1#64 <<< a.toNat)))
def CL (a:Int):Bool:=(bif decide (a<0)then true else(bif decide (a≥64)then true else(decide (0≤a)&&true)))
theorem amE (a:Int)(h:CL a=true):PS Pz 268 [.int .i64 a] (dU.res (Em a)):=pq14 ad0 h
def adA:GT:=g1 (dI .i64) (fun a=>b7 (CL a) (dU.res (Em a)))
theorem asU:Sound Pz 268 adA:=aH fun a=>aA (amE a)
def aqb:KT:=[(247,9,[(0,[0,1]),(1,[4])])]
def asS:ar:=bO Pz aqb [(268,adA)] [] []
theorem acX:aO asS:=af ae ⟨asU,trivial⟩ trivial trivial
def cq (a:BitVec 64)(b:Int):BitVec 64:=(a|||Em b)
def dG (a:BitVec 64)(b:Int):Bool:=(CL b&&true)
theorem akO (a:BitVec 64)(b:Int)(h:dG a b=true):PS Pz 247 [.u64 a,.int .i64 b] (dU.res (cq a b)):=pq14 acX h
def xE:GT:=g2 dU (dI .i64) (fun a b=>b7 (dG a b) (dU.res (cq a b)))
theorem AK:Sound Pz 247 xE:=aP fun a b=>aA (akO a b)
def arO:KT:=[(248,33,[(0,[0,1,9,10]),(1,[0,1,11]),(2,[4]),(3,[0,5]),(4,[0,5,17]),(5,[4]),(6,[4])]),(269,10,[(0,[0]),(1,[0])])]
def apR:ar:=bO Pz arO [] [] []
theorem aeO:aO apR:=af ae trivial trivial trivial
def dp (a:BitVec 64)(b:Int):BitVec 64:=(bif decide (b<0)then(0#64)else(bif decide (b≥8)then(0#64)else(bif b==↑0 then(a <<< 8 &&& ~~~0)else(bif b==↑1 then(a <<< 9 &&& ~~~72340172838076673#64)else(bif b==↑2 then(a <<< 1 &&& ~~~72340172838076673#64)else(bif b==↑3 then(a >>> 7 &&& ~~~72340172838076673#64)else(bif b==↑4 then(a >>> 8 &&& ~~~0)else(bif b==↑5 then(a >>> 9 &&& ~~~9259542123273814144#64)else(bif b==↑6 then(a >>> 1 &&& ~~~9259542123273814144#64)else(a <<< 7 &&& ~~~9259542123273814144#64))))))))))
def cR (a:BitVec 64)(b:Int):Bool:=(bif decide (b<0)then true else(bif decide (b≥8)then true else(decide (0≤b)&&decide (b < ↑8)&&(bif b==↑0 then true else(bif b==↑1 then true else(bif b==↑2 then true else(bif b==↑3 then true else(bif b==↑4 then true else(bif b==↑5 then true else(bif b==↑6 then true else(b==↑7&&true)))))))))))
theorem akJ (a:BitVec 64)(b:Int)(h:cR a b=true):PS Pz 248 [.u64 a,.int .i64 b] (dU.res (dp a b)):=pq14 aeO h
def JN:GT:=g2 dU (dI .i64) (fun a b=>b7 (cR a b) (dU.res (dp a b)))
theorem QH:Sound Pz 248 JN:=aP fun a b=>aA (akJ a b)
def agv:KT:=[(201,21,[(0,[0,1]),(1,[1,5]),(2,[5,10,11,12]),(3,[5,10,11,12,13]),(4,[5,7,10,11,12]),(5,[5,10,11,12]),(6,[5,10,11,12]),(7,[4])]),(284,20,[(0,[0,1]),(1,[0,1,5]),(2,[1,5,6]),(3,[1,5,6,12]),(4,[1,5,6]),(5,[1,5,6]),(6,[4])])]
def ZN:ar:=bO Pz agv [(247,xE),(248,JN)] [] []
theorem S8:aO ZN:=af ae ⟨AK,QH,trivial⟩ trivial trivial
def Ls (p1:Int)(x:((BitVec 64)×(BitVec 64))):St:=St.mk (.any::.int .i64 p1::(an 3 (.u64 x.1::.u64 x.2::(an 13 [])))) (Hp.mk [] [] [] 0 0 0)
def Me (p1:Int):((BitVec 64)×(BitVec 64)×Bool)→Out:=fun y=>.exit 0 (St.mk (.any::.int .i64 p1::(an 3 (.u64 y.1::.u64 y.2.1::(an 5 (.bool y.2.2::(an 7 [])))))) (Hp.mk [] [] [] 0 0 0))
def S6 (p1:Int)(x:((BitVec 64)×(BitVec 64))):aG ((BitVec 64)×(BitVec 64)) (((BitVec 64)×(BitVec 64)×Bool)):=(bif x.2 != 0#64 then(aG.go (x.1|||x.2,dp x.2 p1))else(aG.out ((x.1,x.2,x.2 != 0#64))))
def M7 (p1:Int)(x:((BitVec 64)×(BitVec 64))):Bool:=(bif x.2 != 0#64 then(cR (x.2) p1&&true)else true)
def nu (p1:Int)(x:((BitVec 64)×(BitVec 64))):Option (((BitVec 64)×(BitVec 64)×Bool)):=cW (fun x=>bif M7 p1 x then S6 p1 x else .bad) many x
abbrev Mt {α:Type}(k:Int→((BitVec 64)×(BitVec 64))→α)(s:St):α:=k (tI (tT s 1)) ((tU (tT s 5)),(tU (tT s 6)))
theorem Yn (p1:Int)(x:((BitVec 64)×(BitVec 64)))(r:((BitVec 64)×(BitVec 64)×Bool))(h:nu p1 x=some r):aC Pz (bc Pz 284 3) (Ls p1 x) (Me p1 r):=smq (m:=12) (fn:=284) S8 (Mt fun _ x=>some x) (fun o=>match o with | .exit 0 s=>some ((tU (tT s 5)),(tU (tT s 6)),(tB (tT s 12)))|_=>none) many x r h
def MD (b:Code)(s:St):Tr Out:=Mt (fun p1 x=>jS b (bc Pz 284 3) s (Ls p1 x) (nu p1 x) (Me p1)) s
theorem UQ:∀b,aT Pz b (MD b):=fun _ _ _ h=>bF (Yn _ _) h
def am1:ar:=bO Pz agv [(247,xE),(248,JN)] [(284,3,MD)] []
theorem aiF:aO am1:=af ae ⟨AK,QH,trivial⟩ ⟨UQ,trivial⟩ trivial
def jq (a:Int)(b:Int):BitVec 64:=(((nu b (0#64,dp (cq (0#64) a) b)).getD default).1)
def uk (a:Int)(b:Int):Bool:=(dG (0#64) a&&(cR (cq (0#64) a) b&&((nu b (0#64,dp (cq (0#64) a) b)).isSome&&true)))
theorem auo (a:Int)(b:Int)(h:uk a b=true):PS Pz 284 [.int .i64 a,.int .i64 b] (dU.res (jq a b)):=pq14 aiF h
def agZ:GT:=g2 (dI .i64) (dI .i64) (fun a b=>b7 (uk a b) (dU.res (jq a b)))
theorem atT:Sound Pz 284 agZ:=aP fun a b=>aA (auo a b)
end Kz
namespace Kz
open Go
theorem aoa (a:Int):CL a=true:=by unfold CL;grind
theorem t247 (x:BitVec 64)(a:Int):dG x a=true:=ak (aoa a) fun _=>rfl
theorem t248 (a:BitVec 64)(b:Int):cR a b=true:=by unfold cR;grind
theorem t246 (a:BitVec 64):Bl a=true:=by
 unfold Bl;refine aq (fun _=>rfl) fun _=>ak ?_ fun _=>rfl;have h:(((a&&&0#64-a)*285870213051353865#64) >>> 58).toNat<64:=by
  rw[BitVec.toNat_ushiftRight,Nat.shiftRight_eq_div_pow];have:=by omega
  omega
 simp only[E',decide_eq_true_eq];grind
theorem t200 (a:BitVec 64):vy a=true:=aq (fun _=>rfl) fun _=>ak (t246 a) fun _=>rfl
theorem least (p:Nat→Bool):∀n,p n=true→∃j,j≤n∧p j=true∧∀i,i<j→p i=false:=by
 intro n;induction n using Nat.strongRecOn with
 |ind n ih =>grind
theorem D5 {x:BitVec 64}(h:x≠0#64):∃i,i<64∧x.getLsbD i=true:=by refine Classical.byContradiction fun hn=>h (BitVec.eq_of_getLsbD_eq fun i hi=>?_);simp_all
theorem FW {x:BitVec 64}(h:x≠0#64):∃j,j<64∧x.getLsbD j=true∧∀i,i<j→x.getLsbD i=false:=by obtain⟨i,hi,hb⟩:=D5 h;obtain⟨j,h1,h2⟩:=least x.getLsbD i hb;grind
theorem GD {x:BitVec 64}{j:Nat}(hj:j<64)(h1:x.getLsbD j=true)(h2:∀i,i<j→x.getLsbD i=false):x&&&0#64-x=1#64 <<< j:=by refine BitVec.eq_of_getLsbD_eq fun i hi=>?_;rw[BitVec.zero_sub,BitVec.getLsbD_and,BitVec.getLsbD_neg,BitVec.getLsbD_shiftLeft,BitVec.getLsbD_one];grind
theorem IK {x:BitVec 64}{j:Nat}(h1:x.getLsbD j=true)(h2:∀i,i<j→x.getLsbD i=false)(i:Nat)(hi:i<64):(x&&&x-1#64).getLsbD i=(x.getLsbD i&&decide (j<i)):=by rw[←BitVec.not_neg,BitVec.getLsbD_and,BitVec.getLsbD_not,BitVec.getLsbD_neg];grind
theorem Py:∀j:Fin 64,IY (1#64 <<< j.val)=j.val:=by decide +kernel
theorem OH {x:BitVec 64}{j:Nat}(hj:j<64)(h1:x.getLsbD j=true)(h2:∀i,i<j→x.getLsbD i=false):IY x=j:=by
 have hx:x≠0#64:=by rintro rfl;simp at h1
 have h3:=Py ⟨j,hj⟩;have h4:(1#64 <<< j)&&&0#64-(1#64 <<< j)=1#64 <<< j:=GD hj (by simp[hj]) (by simp_all);have hz:(1#64 <<< j)≠0#64:=fun e=>by
  have:(1#64 <<< j).getLsbD j=true:=by simp[hj]
  simp_all
 simp only at h3;unfold IY at h3⊢;rw[GD hj h1 h2];grind
theorem wK {x:BitVec 64}{j:Nat}(hj:j<64)(h1:x.getLsbD j=true)(h2:∀i,i<j→x.getLsbD i=false):sR x=j:=by
 have hx:x≠0#64:=by rintro rfl;simp at h1
 unfold sR;rw[show(x==0#64)=false by simpa using hx,OH hj h1 h2];rfl
def gF (b:BitVec 64)(k:Nat):List Int:=((List.range k).filter b.getLsbD).map Int.ofNat
theorem dC (b:BitVec 64)(k:Nat):(gF b k).length≤k:=by unfold gF;grind
theorem ud {b:BitVec 64}{k j:Nat}(h:k≤j)(hb:∀i,k≤i→i<j→b.getLsbD i=false):gF b j=gF b k:=by
 induction j with
 |zero=>rw[Nat.le_zero.1 h]
 |succ j ih =>
  by_cases e:k=j+1
  ·rw[e]
  ·rw[←ih (by omega) fun i h1 h2=>hb i h1 (by omega)];unfold gF;rw[List.range_succ,List.filter_append];grind
theorem C3 {b:BitVec 64}{k j:Nat}(h:k≤j)(hb:∀i,k≤i→i<j→b.getLsbD i=false)(hj:b.getLsbD j=true):gF b (j+1)=gF b k++[Int.ofNat j]:=by rw[←ud h hb];unfold gF;rw[List.range_succ,List.filter_append];simp[hj]
theorem qd {b:BitVec 64}{k:Nat}{s:Int}:s∈gF b k ↔ ∃i,i<k∧b.getLsbD i=true∧s=i:=by unfold gF;grind
theorem Xe (b:BitVec 64):∃r,pJ ([],b)=some r∧r.2.1=gF b 64:=by
 refine aQ (I:=fun x=>∃k,k≤64∧x.1=gF b k∧∀i,i<64→x.2.getLsbD i=(b.getLsbD i&&decide (k≤i))) (μ:=fun x=>64-x.1.length) ?_ _ ⟨0,by omega,rfl,fun i hi=>by simp⟩ (by show 64-0<_;omega);rintro⟨l,x⟩ ⟨k,hk,rfl,hx⟩;simp only at hx;have hl:=dC b k;refine⟨aq (fun _=>ak (t200 _) (by grind)) fun _=>rfl,al (fun hc=>?_) fun hc=>?_⟩
 ·simp only at hc;have hz:x≠0#64:=by simpa using hc
  obtain⟨j,hj,h1,h2⟩:=FW hz;have hb:=hx j hj;rw[h1]at hb;have hb':=hb.symm;simp only[E',decide_eq_true_eq]at hb';have hgap:∀i,k≤i→i<j→b.getLsbD i=false:=by grind
  refine⟨⟨j+1,hj,?_,fun i hi=>?_⟩,?_⟩
  ·show gF b k++[sR x]=_;rw[C3 hb'.2 hgap hb'.1,wK hj h1 h2];rfl
  ·show(x&&&x-1#64).getLsbD i=_;rw[IK h1 h2 i hi,hx i hi];grind
  grind
 ·simp only at hc;have hz:x=0#64:=by simpa using hc
  show gF b k=gF b 64;rw[ud hk fun i h1 h2=>?_];grind
theorem t142 (b:BitVec 64):oZ b=true:=ak (aJ (Xe b)).1 fun _=>rfl
theorem dy (b:BitVec 64):gw b=gF b 64:=(aJ (Xe b)).2
theorem JP:∀(a:Fin 64) (b:Fin 8),(nu b.val (0#64,dp (cq 0#64 a.val) b.val)).isSome=true:=by decide +kernel
theorem UE {a:Int}(h:a<0∨64≤a):cq 0#64 a=0#64:=by
 have:Em a=0#64:=by
  unfold Em;rcases h with h|h
  ·simp_all
  ·simp_all
 unfold cq;rw[this];rfl
theorem IS (b:Int):dp 0#64 b=0#64:=by unfold dp;simp_all
theorem U0 {x:BitVec 64}{b:Int}(h:b<0∨8≤b):dp x b=0#64:=by unfold dp;grind
theorem aq2 (a b:Int):uk a b=true:=by
 refine ak (t247 _ _) fun _=>ak (t248 _ _) fun _=>ak ?_ fun _=>rfl;have hz:(nu b (0#64,0#64)).isSome=true:=rfl;by_cases ha:a<0∨64≤a
 ·rw[UE ha,IS];exact hz
 by_cases hb:b<0∨8≤b
 ·rw[U0 hb];exact hz
 have:=JP ⟨a.toNat,by omega⟩ ⟨b.toNat,by omega⟩;grind
end Kz
namespace Kz
open Go Go.RowKit Go.Proofs
def as4:KT:=[(120,14,[(0,(0::1::(rn 8 5 []))),(1,[4])]),(178,9,[(0,[0,2]),(1,[0,2,4]),(2,[2]),(3,[2])]),(226,22,[(0,[0]),(1,[0,1]),(2,[0])])]
def at4:ar:=bO Pz as4 [] [] []
theorem ad8:aO at4:=af ae trivial trivial trivial
def pd (a:Int)(b:Int):Bool:=(bif decide (b≤1)then(bif decide (a≥9)then(bif b==↑0 then(false)else(false))else(bif a==↑0 then(bif b==↑0 then(true)else(true))else(bif a==↑1 then(bif b==↑0 then(true)else(true))else(bif a==↑2 then(bif b==↑0 then(true)else(true))else(bif a==↑3 then(bif b==↑0 then(true)else(true))else(bif a==↑4 then(bif b==↑0 then(false)else(false))else(bif a==↑5 then(bif b==↑0 then(true)else(true))else(bif a==↑6 then(bif b==↑0 then(true)else(true))else(bif a==↑7 then(bif b==↑0 then(false)else(true))else(bif b==↑0 then(true)else(true)))))))))))else(false))
def lV (a:Int)(b:Int):Bool:=(bif decide (b≤1)then(bif decide (a≥9)then(decide (0≤b)&&decide (b < ↑2)&&(bif b==↑0 then true else(b==↑1&&true)))else(decide (0≤a)&&decide (a < ↑9)&&(bif a==↑0 then(decide (0≤b)&&decide (b < ↑2)&&(bif b==↑0 then true else(b==↑1&&true)))else(bif a==↑1 then(decide (0≤b)&&decide (b < ↑2)&&(bif b==↑0 then true else(b==↑1&&true)))else(bif a==↑2 then(decide (0≤b)&&decide (b < ↑2)&&(bif b==↑0 then true else(b==↑1&&true)))else(bif a==↑3 then(decide (0≤b)&&decide (b < ↑2)&&(bif b==↑0 then true else(b==↑1&&true)))else(bif a==↑4 then(decide (0≤b)&&decide (b < ↑2)&&(bif b==↑0 then true else(b==↑1&&true)))else(bif a==↑5 then(decide (0≤b)&&decide (b < ↑2)&&(bif b==↑0 then true else(b==↑1&&true)))else(bif a==↑6 then(decide (0≤b)&&decide (b < ↑2)&&(bif b==↑0 then true else(b==↑1&&true)))else(bif a==↑7 then(decide (0≤b)&&decide (b < ↑2)&&(bif b==↑0 then true else(b==↑1&&true)))else(a==↑8&&(decide (0≤b)&&decide (b < ↑2)&&(bif b==↑0 then true else(b==↑1&&true))))))))))))))else true)
theorem amD (a:Int)(b:Int)(h:lV a b=true):PS Pz 120 [.int .u8 a,.int .u8 b] (dB.res (pd a b)):=pq14 ad8 h
def Fp:GT:=g2 (dI .u8) (dI .u8) (fun a b=>b7 (lV a b) (dB.res (pd a b)))
theorem Jz:Sound Pz 120 Fp:=aP fun a b=>aA (amD a b)
def apw:KT:=[(139,19,[(0,[0,1,8,9,12,13]),(1,[0,1,14]),(2,[4]),(3,[4])])]
def asn:ar:=bO Pz apw [] [] []
theorem adN:aO asn:=af ae trivial trivial trivial
def lI (a:Int)(b:Int):Int:=(bif decide (a>1)then(0)else(bif decide (b<1)then(0)else(bif decide (b>6)then(0)else(wr .u8 (wr .u8 (8*a)+b)))))
def acY (a:Int)(b:Int):Bool:=true
theorem alQ (a:Int)(b:Int)(h:acY a b=true):PS Pz 139 [.int .u8 a,.int .u8 b] ((dI .u8).res (lI a b)):=pq14 adN h
def qo:GT:=g2 (dI .u8) (dI .u8) (fun a b=>.ret ((dI .u8).res (lI a b)))
theorem rU:Sound Pz 139 qo:=aP fun a b=>bH (alQ a b rfl)
def alV:KT:=[(194,14,[(0,(0::(rn 6 7 []))),(1,[2])])]
def anq:ar:=bO Pz alV [(139,qo)] [] []
theorem ad3:aO anq:=af ae ⟨rU,trivial⟩ trivial trivial
def im (a:Int):Bool:=(bif a != 0 then(lI (wr .u8 (a.tdiv 8)) (a.tmod 8)==a)else(false))
def ac5 (a:Int):Bool:=true
theorem aov (a:Int)(h:ac5 a=true):PS Pz 194 [.int .u8 a] (dB.res (im a)):=pq14 ad3 h
def DI:GT:=g1 (dI .u8) (fun a=>.ret (dB.res (im a)))
theorem Fw:Sound Pz 194 DI:=aH fun a=>bH (aov a rfl)
def aqt:KT:=[(135,8,[(0,[0]),(1,[0,5]),(2,[2]),(3,[2])])]
def ap0:ar:=bO Pz aqt [(194,DI)] [] []
theorem acK:aO ap0:=af ae ⟨Fw,trivial⟩ trivial trivial
def di (a:Int):Int:=(bif !im a then(0)else(a.tmod 8))
def ah2 (a:Int):Bool:=true
theorem anY (a:Int)(h:ah2 a=true):PS Pz 135 [.int .u8 a] ((dI .u8).res (di a)):=pq14 acK h
def jt:GT:=g1 (dI .u8) (fun a=>.ret ((dI .u8).res (di a)))
theorem jQ:Sound Pz 135 jt:=aH fun a=>bH (anY a rfl)
def at7:KT:=[(173,8,[(0,[0]),(1,[0,5]),(2,[2]),(3,[2])])]
def apG:ar:=bO Pz at7 [(194,DI)] [] []
theorem af8:aO apG:=af ae ⟨Fw,trivial⟩ trivial trivial
def D0 (a:Int):Int:=(bif !im a then(2)else(wr .u8 (a.tdiv 8)))
def ac4 (a:Int):Bool:=true
theorem alo (a:Int)(h:ac4 a=true):PS Pz 173 [.int .u8 a] ((dI .u8).res (D0 a)):=pq14 af8 h
def RP:GT:=g1 (dI .u8) (fun a=>.ret ((dI .u8).res (D0 a)))
theorem YB:Sound Pz 173 RP:=aH fun a=>bH (alo a rfl)
def agX:KT:=[(147,10,[(0,[3,4,5]),(1,[6])]),(202,26,[(0,[1,2,17,18,19]),(1,[1,2,5,17,18,19]),(2,[1,5,9,10,17,18,19]),(3,[1,5,9,10,11,17,18,19]),(4,[1,5,6,7,9,10,17,18,19]),(5,(1::5::6::9::10::(rn 17 4 []))),(6,[1,5,9,10,17,18,19]),(7,[1,5,9,10,17,18,19]),(8,[4])]),(203,19,[(0,(0::1::2::(rn 10 8 []))),(1,[4])])]
def Ye:ar:=bO Pz agX [(135,jt),(173,RP),(194,DI),(247,xE)] [] []
theorem U9:aO Ye:=af ae ⟨jQ,YB,Fw,AK,trivial⟩ trivial trivial
def N1 (p1:Z')(p2:Pos)(p3:Int)(p4:Int)(x:((BitVec 64)×Int)):St:=St.mk (.any::.func 203 [] [.ptr 1 0,.ptr 2 0]::(an 3 (.u64 x.1::(an 3 (.agg [.ints .u8 64 p1]::.int .i64 x.2::(an 15 [])))))) (Hp.mk [(pc p2 []),[.int .u8 p3],[.int .u8 p4],(pc p2 [])] [] [] 0 0 0)
def QK (p1:Z')(p2:Pos)(p3:Int)(p4:Int):((BitVec 64)×Int×Bool)→Out:=fun y=>.exit 0 (St.mk (.any::.func 203 [] [.ptr 1 0,.ptr 2 0]::(an 3 (.u64 y.1::(an 3 (.agg [.ints .u8 64 p1]::.int .i64 y.2.1::.bool y.2.2::(an 14 [])))))) (Hp.mk [(pc p2 []),[.int .u8 p3],[.int .u8 p4],(pc p2 [])] [] [] 0 0 0))
def Rh (p1:Z')(p2:Pos)(p3:Int)(p4:Int)(x:((BitVec 64)×Int)):aG ((BitVec 64)×Int) (((BitVec 64)×Int×Bool)):=(bif decide (x.2<64)then(bif im (p1.getD x.2.toNat 0)then(bif D0 (p1.getD x.2.toNat 0)==p3 then(bif p4==0 then(aG.go (cq x.1 x.2,wr .i64 (x.2+1)))else(bif di (p1.getD x.2.toNat 0)==p4 then(aG.go (cq x.1 x.2,wr .i64 (x.2+1)))else(aG.go (x.1,wr .i64 (x.2+1)))))else(aG.go (x.1,wr .i64 (x.2+1))))else(aG.go (x.1,wr .i64 (x.2+1))))else(aG.out ((x.1,x.2,decide (x.2<64)))))
def MT (p1:Z')(p2:Pos)(p3:Int)(p4:Int)(x:((BitVec 64)×Int)):Bool:=(bif decide (x.2<64)then(decide (0≤x.2)&&decide (x.2 < ↑64)&&(bif im (p1.getD x.2.toNat 0)then(bif D0 (p1.getD x.2.toNat 0)==p3 then(bif p4==0 then(dG (x.1) (x.2)&&true)else(bif di (p1.getD x.2.toNat 0)==p4 then(dG (x.1) (x.2)&&true)else true))else true)else true))else true)
def qf (p1:Z')(p2:Pos)(p3:Int)(p4:Int)(x:((BitVec 64)×Int)):Option (((BitVec 64)×Int×Bool)):=cW (fun x=>bif MT p1 p2 p3 p4 x then Rh p1 p2 p3 p4 x else .bad) many x
abbrev Qu {α:Type}(k:Z'→Pos→Int→Int→((BitVec 64)×Int)→α)(s:St):α:=wP s 0 fun q0=>k (tN (tX (tA (tT s 9)) 0)) q0 (tI (tH s 1 0)) (tI (tH s 2 0)) ((tU (tT s 5)),(tI (tT s 10)))
theorem Yv (p1:Z')(p2:Pos)(p3:Int)(p4:Int)(x:((BitVec 64)×Int))(r:((BitVec 64)×Int×Bool))(h:qf p1 p2 p3 p4 x=some r):aC Pz (bc Pz 202 3) (N1 p1 p2 p3 p4 x) (QK p1 p2 p3 p4 r):=smq (m:=12) (fn:=202) U9 (Qu fun _ _ _ _ x=>some x) (fun o=>match o with | .exit 0 s=>some ((tU (tT s 5)),(tI (tT s 10)),(tB (tT s 11)))|_=>none) many x r h
def Qz (b:Code)(s:St):Tr Out:=Qu (fun p1 p2 p3 p4 x=>jS b (bc Pz 202 3) s (N1 p1 p2 p3 p4 x) (qf p1 p2 p3 p4 x) (QK p1 p2 p3 p4)) s
theorem SA:∀b,aT Pz b (Qz b):=fun _ _ _ h=>bF (Yv _ _ _ _ _) h
def anD:ar:=bO Pz agX [(135,jt),(173,RP),(194,DI),(247,xE)] [(202,3,Qz)] []
theorem aim:aO anD:=af ae ⟨jQ,YB,Fw,AK,trivial⟩ ⟨SA,trivial⟩ trivial
def aS (a:Pos)(b:Int)(c:Int):BitVec 64:=(((qf a.ab a b c (0#64,0)).getD default).1)
def cF (a:Pos)(b:Int)(c:Int):Bool:=((qf a.ab a b c (0#64,0)).isSome&&true)
theorem apm (a:Pos)(b:Int)(c:Int)(h:cF a b c=true):PS Pz 147 [Pos.av a,.int .u8 b,.int .u8 c] (dU.res (aS a b c)):=pq14 aim h
def gi:GT:=g3 aZ (dI .u8) (dI .u8) (fun a b c=>b7 (cF a b c) (dU.res (aS a b c)))
theorem gy:Sound Pz 147 gi:=dc fun a b c=>aA (apm a b c)
def atd:KT:=[(145,12,[(0,[1,2,3]),(1,[6])])]
def alK:ar:=bO Pz atd [(147,gi),(200,Kw)] [] []
theorem aix:aO alK:=af ae ⟨gy,Sa,trivial⟩ trivial trivial
def bg (a:Pos)(b:Int)(c:Int):Int:=(sR (aS a b c))
def iz (a:Pos)(b:Int)(c:Int):Bool:=(cF a b c&&(vy (aS a b c)&&true))
theorem amn (a:Pos)(b:Int)(c:Int)(h:iz a b c=true):PS Pz 145 [Pos.av a,.int .u8 b,.int .u8 c] ((dI .i64).res (bg a b c)):=pq14 aix h
def j7:GT:=g3 aZ (dI .u8) (dI .u8) (fun a b c=>b7 (iz a b c) ((dI .i64).res (bg a b c)))
theorem lg:Sound Pz 145 j7:=dc fun a b c=>aA (amn a b c)
def aqp:KT:=[(199,5,[(0,[1]),(1,[2])]),(201,21,[(0,[0,1]),(1,[1,5]),(2,[5,10,11,12]),(3,[5,10,11,12,13]),(4,[5,7,10,11,12]),(5,[5,10,11,12]),(6,[5,10,11,12]),(7,[4])]),(244,15,[(0,[0]),(1,[0,3]),(2,[0,3,5]),(3,[0,3,5,6]),(4,[0,3,4,5]),(5,[0,3,5]),(6,[0,3,5]),(7,[2])]),(245,8,[(0,[0,1]),(1,[3])])]
def anB:ar:=bO Pz aqp [(247,xE),(248,JN)] [] []
theorem aj1:aO anB:=af ae ⟨AK,QH,trivial⟩ trivial trivial
def fB (a:Int):BitVec 64:=(0#64|||dp (cq (0#64) a) 0|||dp (cq (0#64) a) (wr .i64 (0+1))|||dp (cq (0#64) a) (wr .i64 (wr .i64 (0+1)+1))|||dp (cq (0#64) a) (wr .i64 (wr .i64 (wr .i64 (0+1)+1)+1))|||dp (cq (0#64) a) (wr .i64 (wr .i64 (wr .i64 (wr .i64 (0+1)+1)+1)+1))|||dp (cq (0#64) a) (wr .i64 (wr .i64 (wr .i64 (wr .i64 (wr .i64 (0+1)+1)+1)+1)+1))|||dp (cq (0#64) a) (wr .i64 (wr .i64 (wr .i64 (wr .i64 (wr .i64 (wr .i64 (0+1)+1)+1)+1)+1)+1))|||dp (cq (0#64) a) (wr .i64 (wr .i64 (wr .i64 (wr .i64 (wr .i64 (wr .i64 (wr .i64 (0+1)+1)+1)+1)+1)+1)+1)))
def qv (a:Int):Bool:=(dG (0#64) a&&(cR (cq (0#64) a) 0&&(dG (0#64) a&&(cR (cq (0#64) a) (wr .i64 (0+1))&&(dG (0#64) a&&(cR (cq (0#64) a) (wr .i64 (wr .i64 (0+1)+1))&&(dG (0#64) a&&(cR (cq (0#64) a) (wr .i64 (wr .i64 (wr .i64 (0+1)+1)+1))&&(dG (0#64) a&&(cR (cq (0#64) a) (wr .i64 (wr .i64 (wr .i64 (wr .i64 (0+1)+1)+1)+1))&&(dG (0#64) a&&(cR (cq (0#64) a) (wr .i64 (wr .i64 (wr .i64 (wr .i64 (wr .i64 (0+1)+1)+1)+1)+1))&&(dG (0#64) a&&(cR (cq (0#64) a) (wr .i64 (wr .i64 (wr .i64 (wr .i64 (wr .i64 (wr .i64 (0+1)+1)+1)+1)+1)+1))&&(dG (0#64) a&&(cR (cq (0#64) a) (wr .i64 (wr .i64 (wr .i64 (wr .i64 (wr .i64 (wr .i64 (wr .i64 (0+1)+1)+1)+1)+1)+1)+1))&&true))))))))))))))))
theorem aql (a:Int)(h:qv a=true):PS Pz 199 [.int .i64 a] (dU.res (fB a)):=pq14 aj1 h
def Az:GT:=g1 (dI .i64) (fun a=>b7 (qv a) (dU.res (fB a)))
theorem By:Sound Pz 199 Az:=aH fun a=>aA (aql a)
def apu:KT:=[(204,33,[(0,(1::2::(rn 18 13 []))),(1,(1::2::11::(rn 18 13 []))),(2,[4,5]),(3,(1::2::6::(rn 18 13 []))),(4,[6,31]),(5,[4,5]),(6,[4,5])])]
def amo:ar:=bO Pz apu [(120,Fp),(147,gi),(145,j7),(199,Az)] [] []
theorem adE:aO amo:=af ae ⟨Jz,gy,lg,By,trivial⟩ trivial trivial
def DX (a:Pos)(b:Int):(Int×Bool):=(bif !pd a.variant b then(0,false)else(bif decide (bg a b 6<0)then(0,false)else(bif a.variant==3 then(bif fB (bg a b 6)&&&aS a (wr .u8 (1-b)) 6 != 0#64 then(0,false)else((bg a b 6),true))else((bg a b 6),true))))
def Bu (a:Pos)(b:Int):Bool:=(lV (a.variant) b&&(bif !pd a.variant b then true else(iz a b 6&&(bif decide (bg a b 6<0)then true else(bif a.variant==3 then(qv (bg a b 6)&&(cF a (wr .u8 (1-b)) 6&&true))else true)))))
theorem aqj (a:Pos)(b:Int)(h:Bu a b=true):PS Pz 204 [Pos.av a,.int .u8 b] ((d2 (dI .i64) dB).res (DX a b)):=pq14 adE h
def ae9:GT:=g2 aZ (dI .u8) (fun a b=>b7 (Bu a b) ((d2 (dI .i64) dB).res (DX a b)))
theorem alc:Sound Pz 204 ae9:=aP fun a b=>aA (aqj a b)
def aom:KT:=[(242,3,[(0,[]),(1,[2])])]
def anl:ar:=bO Pz aom [] [] []
theorem ajN:aO anl:=af ae trivial trivial trivial
def Tq (a:Int):Bool:=(true)
def aee (a:Int):Bool:=true
theorem alN (a:Int)(h:aee a=true):PS Pz 242 [.int .u8 a] (dB.res (Tq a)):=pq14 ajN h
def abm:GT:=g1 (dI .u8) (fun a=>.ret (dB.res (Tq a)))
theorem aeG:Sound Pz 242 abm:=aH fun a=>bH (alN a rfl)
def agm:KT:=[(193,5,[(0,[1]),(1,[2])]),(202,26,[(0,[1,2,17,18,19]),(1,[1,2,5,17,18,19]),(2,[1,5,9,10,17,18,19]),(3,[1,5,9,10,11,17,18,19]),(4,[1,5,6,7,9,10,17,18,19]),(5,(1::5::6::9::10::(rn 17 4 []))),(6,[1,5,9,10,17,18,19]),(7,[1,5,9,10,17,18,19]),(8,[4])])]
def abu:ar:=bO Pz agm [(242,abm),(194,DI),(247,xE)] [] []
theorem Rw:aO abu:=af ae ⟨aeG,Fw,AK,trivial⟩ trivial trivial
def QA (p1:Z')(p2:Pos)(x:((BitVec 64)×Int)):St:=St.mk (.any::.func 242 [] []::(an 3 (.u64 x.1::(an 3 (.agg [.ints .u8 64 p1]::.int .i64 x.2::(an 15 [])))))) (Hp.mk [(pc p2 []),(pc p2 [])] [] [] 0 0 0)
def NK (p1:Z')(p2:Pos):((BitVec 64)×Int×Bool)→Out:=fun y=>.exit 0 (St.mk (.any::.func 242 [] []::(an 3 (.u64 y.1::(an 3 (.agg [.ints .u8 64 p1]::.int .i64 y.2.1::.bool y.2.2::(an 14 [])))))) (Hp.mk [(pc p2 []),(pc p2 [])] [] [] 0 0 0))
def Rs (p1:Z')(p2:Pos)(x:((BitVec 64)×Int)):aG ((BitVec 64)×Int) (((BitVec 64)×Int×Bool)):=(bif decide (x.2<64)then(bif im (p1.getD x.2.toNat 0)then(bif Tq (p1.getD x.2.toNat 0)then(aG.go (cq x.1 x.2,wr .i64 (x.2+1)))else(aG.go (x.1,wr .i64 (x.2+1))))else(aG.go (x.1,wr .i64 (x.2+1))))else(aG.out ((x.1,x.2,decide (x.2<64)))))
def Oy (p1:Z')(p2:Pos)(x:((BitVec 64)×Int)):Bool:=(bif decide (x.2<64)then(decide (0≤x.2)&&decide (x.2 < ↑64)&&(bif im (p1.getD x.2.toNat 0)then(bif Tq (p1.getD x.2.toNat 0)then(dG (x.1) (x.2)&&true)else true)else true))else true)
def o9 (p1:Z')(p2:Pos)(x:((BitVec 64)×Int)):Option (((BitVec 64)×Int×Bool)):=cW (fun x=>bif Oy p1 p2 x then Rs p1 p2 x else .bad) many x
abbrev Nz {α:Type}(k:Z'→Pos→((BitVec 64)×Int)→α)(s:St):α:=wP s 0 fun q0=>k (tN (tX (tA (tT s 9)) 0)) q0 ((tU (tT s 5)),(tI (tT s 10)))
theorem Zs (p1:Z')(p2:Pos)(x:((BitVec 64)×Int))(r:((BitVec 64)×Int×Bool))(h:o9 p1 p2 x=some r):aC Pz (bc Pz 202 3) (QA p1 p2 x) (NK p1 p2 r):=smq (m:=12) (fn:=202) Rw (Nz fun _ _ x=>some x) (fun o=>match o with | .exit 0 s=>some ((tU (tT s 5)),(tI (tT s 10)),(tB (tT s 11)))|_=>none) many x r h
def K7 (b:Code)(s:St):Tr Out:=Nz (fun p1 p2 x=>jS b (bc Pz 202 3) s (QA p1 p2 x) (o9 p1 p2 x) (NK p1 p2)) s
theorem RC:∀b,aT Pz b (K7 b):=fun _ _ _ h=>bF (Zs _ _ _) h
def aso:ar:=bO Pz agm [(242,abm),(194,DI),(247,xE)] [(202,3,K7)] []
theorem aiy:aO aso:=af ae ⟨aeG,Fw,AK,trivial⟩ ⟨RC,trivial⟩ trivial
def bm (a:Pos):BitVec 64:=(((o9 a.ab a (0#64,0)).getD default).1)
def sj (a:Pos):Bool:=((o9 a.ab a (0#64,0)).isSome&&true)
theorem at3 (a:Pos)(h:sj a=true):PS Pz 193 [Pos.av a] (dU.res (bm a)):=pq14 aiy h
def uO:GT:=g1 aZ (fun a=>b7 (sj a) (dU.res (bm a)))
theorem xr:Sound Pz 193 uO:=aH fun a=>aA (at3 a)
def als:KT:=[(201,21,[(0,[0,1]),(1,[1,5]),(2,[5,10,11,12]),(3,[5,10,11,12,13]),(4,[5,7,10,11,12]),(5,[5,10,11,12]),(6,[5,10,11,12]),(7,[4])]),(244,15,[(0,[0]),(1,[0,3]),(2,[0,3,5]),(3,[0,3,5,6]),(4,[0,3,4,5]),(5,[0,3,5]),(6,[0,3,5]),(7,[2])]),(261,5,[(0,[1]),(1,[2])]),(275,23,[(0,[0,1]),(1,[0,1,6]),(2,[3]),(3,[3])])]
def am7:ar:=bO Pz als [(247,xE),(248,JN)] [] []
theorem afq:aO am7:=af ae ⟨AK,QH,trivial⟩ trivial trivial
def vw (a:Int):BitVec 64:=(0#64|||(dp (dp (cq (0#64) a) 0) ((wr .i64 (0+1)).tmod 8)|||dp (dp (cq (0#64) a) 0) ((wr .i64 (wr .i64 (0+8)-1)).tmod 8))|||0#64|||(dp (dp (cq (0#64) a) (wr .i64 (wr .i64 (0+1)+1))) ((wr .i64 (wr .i64 (wr .i64 (0+1)+1)+1)).tmod 8)|||dp (dp (cq (0#64) a) (wr .i64 (wr .i64 (0+1)+1))) ((wr .i64 (wr .i64 (wr .i64 (wr .i64 (0+1)+1)+8)-1)).tmod 8))|||0#64|||(dp (dp (cq (0#64) a) (wr .i64 (wr .i64 (wr .i64 (wr .i64 (0+1)+1)+1)+1))) ((wr .i64 (wr .i64 (wr .i64 (wr .i64 (wr .i64 (0+1)+1)+1)+1)+1)).tmod 8)|||dp (dp (cq (0#64) a) (wr .i64 (wr .i64 (wr .i64 (wr .i64 (0+1)+1)+1)+1))) ((wr .i64 (wr .i64 (wr .i64 (wr .i64 (wr .i64 (wr .i64 (0+1)+1)+1)+1)+8)-1)).tmod 8))|||0#64|||(dp (dp (cq (0#64) a) (wr .i64 (wr .i64 (wr .i64 (wr .i64 (wr .i64 (wr .i64 (0+1)+1)+1)+1)+1)+1))) ((wr .i64 (wr .i64 (wr .i64 (wr .i64 (wr .i64 (wr .i64 (wr .i64 (0+1)+1)+1)+1)+1)+1)+1)).tmod 8)|||dp (dp (cq (0#64) a) (wr .i64 (wr .i64 (wr .i64 (wr .i64 (wr .i64 (wr .i64 (0+1)+1)+1)+1)+1)+1))) ((wr .i64 (wr .i64 (wr .i64 (wr .i64 (wr .i64 (wr .i64 (wr .i64 (wr .i64 (0+1)+1)+1)+1)+1)+1)+8)-1)).tmod 8))|||0#64)
def yI (a:Int):Bool:=(dG (0#64) a&&(cR (cq (0#64) a) 0&&(cR (dp (cq (0#64) a) 0) ((wr .i64 (0+1)).tmod 8)&&(dG (0#64) a&&(cR (cq (0#64) a) 0&&(cR (dp (cq (0#64) a) 0) ((wr .i64 (wr .i64 (0+8)-1)).tmod 8)&&(dG (0#64) a&&(cR (cq (0#64) a) (wr .i64 (wr .i64 (0+1)+1))&&(cR (dp (cq (0#64) a) (wr .i64 (wr .i64 (0+1)+1))) ((wr .i64 (wr .i64 (wr .i64 (0+1)+1)+1)).tmod 8)&&(dG (0#64) a&&(cR (cq (0#64) a) (wr .i64 (wr .i64 (0+1)+1))&&(cR (dp (cq (0#64) a) (wr .i64 (wr .i64 (0+1)+1))) ((wr .i64 (wr .i64 (wr .i64 (wr .i64 (0+1)+1)+8)-1)).tmod 8)&&(dG (0#64) a&&(cR (cq (0#64) a) (wr .i64 (wr .i64 (wr .i64 (wr .i64 (0+1)+1)+1)+1))&&(cR (dp (cq (0#64) a) (wr .i64 (wr .i64 (wr .i64 (wr .i64 (0+1)+1)+1)+1))) ((wr .i64 (wr .i64 (wr .i64 (wr .i64 (wr .i64 (0+1)+1)+1)+1)+1)).tmod 8)&&(dG (0#64) a&&(cR (cq (0#64) a) (wr .i64 (wr .i64 (wr .i64 (wr .i64 (0+1)+1)+1)+1))&&(cR (dp (cq (0#64) a) (wr .i64 (wr .i64 (wr .i64 (wr .i64 (0+1)+1)+1)+1))) ((wr .i64 (wr .i64 (wr .i64 (wr .i64 (wr .i64 (wr .i64 (0+1)+1)+1)+1)+8)-1)).tmod 8)&&(dG (0#64) a&&(cR (cq (0#64) a) (wr .i64 (wr .i64 (wr .i64 (wr .i64 (wr .i64 (wr .i64 (0+1)+1)+1)+1)+1)+1))&&(cR (dp (cq (0#64) a) (wr .i64 (wr .i64 (wr .i64 (wr .i64 (wr .i64 (wr .i64 (0+1)+1)+1)+1)+1)+1))) ((wr .i64 (wr .i64 (wr .i64 (wr .i64 (wr .i64 (wr .i64 (wr .i64 (0+1)+1)+1)+1)+1)+1)+1)).tmod 8)&&(dG (0#64) a&&(cR (cq (0#64) a) (wr .i64 (wr .i64 (wr .i64 (wr .i64 (wr .i64 (wr .i64 (0+1)+1)+1)+1)+1)+1))&&(cR (dp (cq (0#64) a) (wr .i64 (wr .i64 (wr .i64 (wr .i64 (wr .i64 (wr .i64 (0+1)+1)+1)+1)+1)+1))) ((wr .i64 (wr .i64 (wr .i64 (wr .i64 (wr .i64 (wr .i64 (wr .i64 (wr .i64 (0+1)+1)+1)+1)+1)+1)+8)-1)).tmod 8)&&true))))))))))))))))))))))))
theorem arN (a:Int)(h:yI a=true):PS Pz 261 [.int .i64 a] (dU.res (vw a)):=pq14 afq h
def aaJ:GT:=g1 (dI .i64) (fun a=>b7 (yI a) (dU.res (vw a)))
theorem afU:Sound Pz 261 aaJ:=aH fun a=>aA (arN a)
def amz:KT:=[(290,25,[(0,[0,2]),(1,[0,2,4]),(2,[0]),(3,[0,2]),(4,[0,2,8]),(5,[0,2]),(6,[0,2]),(7,[0,2,14]),(8,[0,2]),(9,[0,2]),(10,[2])])]
def apN:ar:=bO Pz amz [] [] []
theorem aek:aO apN:=af ae trivial trivial trivial
def P9 (a:BitVec 64):Int:=(bif decide (a.toNat≥4294967296)then(bif decide ((a >>> 32).toNat≥65536)then(bif decide ((a >>> 32 >>> 16).toNat≥256)then(wr .i64 (wr .i64 (wr .i64 (32+16)+8)+wr .i64 (Int.ofNat ((ByteArray.mk (([0,1,2,2,3,3,3,3,4,4,4,4,4,4,4,4,5,5,5,5,5,5,5,5,5,5,5,5,5,5,5,5,6,6,6,6,6,6,6,6,6,6,6,6,6,6,6,6,6,6,6,6,6,6,6,6,6,6,6,6,6,6,6,6].append zU7).append (zU8.append zU8)).toArray).data.toList[(wr .u8 (Int.ofNat (a >>> 32 >>> 16 >>> 8).toNat)).toNat]?.getD 0).toNat)))else(wr .i64 (wr .i64 (32+16)+wr .i64 (Int.ofNat ((ByteArray.mk (([0,1,2,2,3,3,3,3,4,4,4,4,4,4,4,4,5,5,5,5,5,5,5,5,5,5,5,5,5,5,5,5,6,6,6,6,6,6,6,6,6,6,6,6,6,6,6,6,6,6,6,6,6,6,6,6,6,6,6,6,6,6,6,6].append zU7).append (zU8.append zU8)).toArray).data.toList[(wr .u8 (Int.ofNat (a >>> 32 >>> 16).toNat)).toNat]?.getD 0).toNat))))else(bif decide ((a >>> 32).toNat≥256)then(wr .i64 (wr .i64 (32+8)+wr .i64 (Int.ofNat ((ByteArray.mk (([0,1,2,2,3,3,3,3,4,4,4,4,4,4,4,4,5,5,5,5,5,5,5,5,5,5,5,5,5,5,5,5,6,6,6,6,6,6,6,6,6,6,6,6,6,6,6,6,6,6,6,6,6,6,6,6,6,6,6,6,6,6,6,6].append zU7).append (zU8.append zU8)).toArray).data.toList[(wr .u8 (Int.ofNat (a >>> 32 >>> 8).toNat)).toNat]?.getD 0).toNat)))else(wr .i64 (32+wr .i64 (Int.ofNat ((ByteArray.mk (([0,1,2,2,3,3,3,3,4,4,4,4,4,4,4,4,5,5,5,5,5,5,5,5,5,5,5,5,5,5,5,5,6,6,6,6,6,6,6,6,6,6,6,6,6,6,6,6,6,6,6,6,6,6,6,6,6,6,6,6,6,6,6,6].append zU7).append (zU8.append zU8)).toArray).data.toList[(wr .u8 (Int.ofNat (a >>> 32).toNat)).toNat]?.getD 0).toNat)))))else(bif decide (a.toNat≥65536)then(bif decide ((a >>> 16).toNat≥256)then(wr .i64 (wr .i64 (wr .i64 (0+16)+8)+wr .i64 (Int.ofNat ((ByteArray.mk (([0,1,2,2,3,3,3,3,4,4,4,4,4,4,4,4,5,5,5,5,5,5,5,5,5,5,5,5,5,5,5,5,6,6,6,6,6,6,6,6,6,6,6,6,6,6,6,6,6,6,6,6,6,6,6,6,6,6,6,6,6,6,6,6].append zU7).append (zU8.append zU8)).toArray).data.toList[(wr .u8 (Int.ofNat (a >>> 16 >>> 8).toNat)).toNat]?.getD 0).toNat)))else(wr .i64 (wr .i64 (0+16)+wr .i64 (Int.ofNat ((ByteArray.mk (([0,1,2,2,3,3,3,3,4,4,4,4,4,4,4,4,5,5,5,5,5,5,5,5,5,5,5,5,5,5,5,5,6,6,6,6,6,6,6,6,6,6,6,6,6,6,6,6,6,6,6,6,6,6,6,6,6,6,6,6,6,6,6,6].append zU7).append (zU8.append zU8)).toArray).data.toList[(wr .u8 (Int.ofNat (a >>> 16).toNat)).toNat]?.getD 0).toNat))))else(bif decide (a.toNat≥256)then(wr .i64 (wr .i64 (0+8)+wr .i64 (Int.ofNat ((ByteArray.mk (([0,1,2,2,3,3,3,3,4,4,4,4,4,4,4,4,5,5,5,5,5,5,5,5,5,5,5,5,5,5,5,5,6,6,6,6,6,6,6,6,6,6,6,6,6,6,6,6,6,6,6,6,6,6,6,6,6,6,6,6,6,6,6,6].append zU7).append (zU8.append zU8)).toArray).data.toList[(wr .u8 (Int.ofNat (a >>> 8).toNat)).toNat]?.getD 0).toNat)))else(wr .i64 (0+wr .i64 (Int.ofNat ((ByteArray.mk (([0,1,2,2,3,3,3,3,4,4,4,4,4,4,4,4,5,5,5,5,5,5,5,5,5,5,5,5,5,5,5,5,6,6,6,6,6,6,6,6,6,6,6,6,6,6,6,6,6,6,6,6,6,6,6,6,6,6,6,6,6,6,6,6].append zU7).append (zU8.append zU8)).toArray).data.toList[(wr .u8 (Int.ofNat a.toNat)).toNat]?.getD 0).toNat))))))
def Bn (a:BitVec 64):Bool:=(bif decide (a.toNat≥4294967296)then(bif decide ((a >>> 32).toNat≥65536)then(bif decide ((a >>> 32 >>> 16).toNat≥256)then(decide (0≤wr .u8 (Int.ofNat (a >>> 32 >>> 16 >>> 8).toNat))&&decide (wr .u8 (Int.ofNat (a >>> 32 >>> 16 >>> 8).toNat)<Int.ofNat 256)&&true)else(decide (0≤wr .u8 (Int.ofNat (a >>> 32 >>> 16).toNat))&&decide (wr .u8 (Int.ofNat (a >>> 32 >>> 16).toNat)<Int.ofNat 256)&&true))else(bif decide ((a >>> 32).toNat≥256)then(decide (0≤wr .u8 (Int.ofNat (a >>> 32 >>> 8).toNat))&&decide (wr .u8 (Int.ofNat (a >>> 32 >>> 8).toNat)<Int.ofNat 256)&&true)else(decide (0≤wr .u8 (Int.ofNat (a >>> 32).toNat))&&decide (wr .u8 (Int.ofNat (a >>> 32).toNat)<Int.ofNat 256)&&true)))else(bif decide (a.toNat≥65536)then(bif decide ((a >>> 16).toNat≥256)then(decide (0≤wr .u8 (Int.ofNat (a >>> 16 >>> 8).toNat))&&decide (wr .u8 (Int.ofNat (a >>> 16 >>> 8).toNat)<Int.ofNat 256)&&true)else(decide (0≤wr .u8 (Int.ofNat (a >>> 16).toNat))&&decide (wr .u8 (Int.ofNat (a >>> 16).toNat)<Int.ofNat 256)&&true))else(bif decide (a.toNat≥256)then(decide (0≤wr .u8 (Int.ofNat (a >>> 8).toNat))&&decide (wr .u8 (Int.ofNat (a >>> 8).toNat)<Int.ofNat 256)&&true)else(decide (0≤wr .u8 (Int.ofNat a.toNat))&&decide (wr .u8 (Int.ofNat a.toNat)<Int.ofNat 256)&&true))))
theorem ak5 (a:BitVec 64)(h:Bn a=true):PS Pz 290 [.u64 a] ((dI .i64).res (P9 a)):=pq14 aek h
def adj:GT:=g1 dU (fun a=>b7 (Bn a) ((dI .i64).res (P9 a)))
theorem anC:Sound Pz 290 adj:=aH fun a=>aA (ak5 a)
def aoV:KT:=[(289,6,[(0,[0]),(1,[2])])]
def arG:ar:=bO Pz aoV [(290,adj)] [] []
theorem adJ:aO arG:=af ae ⟨anC,trivial⟩ trivial trivial
def Vd (a:BitVec 64):Int:=(wr .i64 (64-P9 a))
def G5 (a:BitVec 64):Bool:=(Bn a&&true)
theorem as9 (a:BitVec 64)(h:G5 a=true):PS Pz 289 [.u64 a] ((dI .i64).res (Vd a)):=pq14 adJ h
def aeg:GT:=g1 dU (fun a=>b7 (G5 a) ((dI .i64).res (Vd a)))
theorem aqJ:Sound Pz 289 aeg:=aH fun a=>aA (as9 a)
def apr:KT:=[(288,6,[(0,[0]),(1,[2])])]
def aue:ar:=bO Pz apr [(289,aeg)] [] []
theorem ajz:aO aue:=af ae ⟨aqJ,trivial⟩ trivial trivial
def FO (a:BitVec 64):Int:=(wr .i64 (63-Vd a))
def Hy (a:BitVec 64):Bool:=(G5 a&&true)
theorem aoB (a:BitVec 64)(h:Hy a=true):PS Pz 288 [.u64 a] ((dI .i64).res (FO a)):=pq14 ajz h
def aga:GT:=g1 dU (fun a=>b7 (Hy a) ((dI .i64).res (FO a)))
theorem ape:Sound Pz 288 aga:=aH fun a=>aA (aoB a)
def apf:KT:=[(280,27,[(0,[0,1,2]),(1,[1,2,7]),(2,[1,7,8]),(3,[1,7,8,16]),(4,[6]),(5,[6])]),(285,11,[(0,[0,2,6,7]),(1,[2,8]),(2,[2]),(3,[2])])]
def anM:ar:=bO Pz apf [(200,Kw),(284,agZ),(288,aga)] [] []
theorem aeq:aO anM:=af ae ⟨Sa,atT,ape,trivial⟩ trivial trivial
def rL (a:Int)(b:Int)(c:BitVec 64):BitVec 64:=(bif jq a b&&&c==0#64 then(jq a b)else(bif decide (b≥3)then(bif decide (b≤6)then(jq a b &&& ~~~jq (FO (jq a b&&&c)) b)else(jq a b &&& ~~~jq (sR (jq a b&&&c)) b))else(jq a b &&& ~~~jq (sR (jq a b&&&c)) b)))
def lE (a:Int)(b:Int)(c:BitVec 64):Bool:=(uk a b&&(bif jq a b&&&c==0#64 then true else(bif decide (b≥3)then(bif decide (b≤6)then(Hy (jq a b&&&c)&&(uk (FO (jq a b&&&c)) b&&true))else(vy (jq a b&&&c)&&(uk (sR (jq a b&&&c)) b&&true)))else(vy (jq a b&&&c)&&(uk (sR (jq a b&&&c)) b&&true)))))
theorem ar1 (a:Int)(b:Int)(c:BitVec 64)(h:lE a b c=true):PS Pz 280 [.int .i64 a,.int .i64 b,.u64 c] (dU.res (rL a b c)):=pq14 aeq h
def Zj:GT:=g3 (dI .i64) (dI .i64) dU (fun a b c=>b7 (lE a b c) (dU.res (rL a b c)))
theorem aj3:Sound Pz 280 Zj:=dc fun a b c=>aA (ar1 a b c)
def alb:KT:=[(262,9,[(0,[0,1]),(1,[4])]),(276,24,[(0,[0,1,2]),(1,[0,1,2,7]),(2,[0,1,7,10,11,12]),(3,(0::1::7::(rn 10 4 []))),(4,(0::1::7::(rn 9 4 []))),(5,[0,1,7,10,11,12]),(6,[0,1,7,10,11,12]),(7,[6])])]
def amc:ar:=bO Pz alb [(280,Zj)] [] []
theorem afg:aO amc:=af ae ⟨aj3,trivial⟩ trivial trivial
def xy (a:Int)(b:BitVec 64):BitVec 64:=(0#64|||rL a 1 b|||rL a 3 b|||rL a 5 b|||rL a 7 b)
def wL (a:Int)(b:BitVec 64):Bool:=(lE a 1 b&&(lE a 3 b&&(lE a 5 b&&(lE a 7 b&&true))))
theorem arJ (a:Int)(b:BitVec 64)(h:wL a b=true):PS Pz 262 [.int .i64 a,.u64 b] (dU.res (xy a b)):=pq14 afg h
def Ve:GT:=g2 (dI .i64) dU (fun a b=>b7 (wL a b) (dU.res (xy a b)))
theorem ZJ:Sound Pz 262 Ve:=aP fun a b=>aA (arJ a b)
def atx:KT:=[(263,9,[(0,[0,1]),(1,[4])]),(276,24,[(0,[0,1,2]),(1,[0,1,2,7]),(2,[0,1,7,10,11,12]),(3,(0::1::7::(rn 10 4 []))),(4,(0::1::7::(rn 9 4 []))),(5,[0,1,7,10,11,12]),(6,[0,1,7,10,11,12]),(7,[6])])]
def atH:ar:=bO Pz atx [(280,Zj)] [] []
theorem afd:aO atH:=af ae ⟨aj3,trivial⟩ trivial trivial
def xD (a:Int)(b:BitVec 64):BitVec 64:=(0#64|||rL a 0 b|||rL a 2 b|||rL a 4 b|||rL a 6 b)
def tQ (a:Int)(b:BitVec 64):Bool:=(lE a 0 b&&(lE a 2 b&&(lE a 4 b&&(lE a 6 b&&true))))
theorem ao6 (a:Int)(b:BitVec 64)(h:tQ a b=true):PS Pz 263 [.int .i64 a,.u64 b] (dU.res (xD a b)):=pq14 afd h
def Vg:GT:=g2 (dI .i64) dU (fun a b=>b7 (tQ a b) (dU.res (xD a b)))
theorem Zr:Sound Pz 263 Vg:=aP fun a b=>aA (ao6 a b)
def auh:KT:=[(264,12,[(0,[0,1]),(1,[4])])]
def akC:ar:=bO Pz auh [(262,Ve),(263,Vg)] [] []
theorem af7:aO akC:=af ae ⟨ZJ,Zr,trivial⟩ trivial trivial
def Al (a:Int)(b:BitVec 64):BitVec 64:=(xD a b|||xy a b)
def B9 (a:Int)(b:BitVec 64):Bool:=(tQ a b&&(wL a b&&true))
theorem aqX (a:Int)(b:BitVec 64)(h:B9 a b=true):PS Pz 264 [.int .i64 a,.u64 b] (dU.res (Al a b)):=pq14 af7 h
def Yu:GT:=g2 (dI .i64) dU (fun a b=>b7 (B9 a b) (dU.res (Al a b)))
theorem ah0:Sound Pz 264 Yu:=aP fun a b=>aA (aqX a b)
def akT:KT:=[(270,9,[(0,[0,6,7]),(1,[2])])]
def aqA:ar:=bO Pz akT [] [] []
theorem aiO:aO aqA:=af ae trivial trivial trivial
def Oz (a:Int):Bool:=(bif decide (a≥0)then(decide (a<64))else(false))
def afY (a:Int):Bool:=true
theorem aqI (a:Int)(h:afY a=true):PS Pz 270 [.int .i64 a] (dB.res (Oz a)):=pq14 aiO h
def ad9:GT:=g1 (dI .i64) (fun a=>.ret (dB.res (Oz a)))
theorem anQ:Sound Pz 270 ad9:=aH fun a=>bH (aqI a rfl)
def aoh:KT:=[(146,24,[(0,[0,1]),(1,[1,5]),(2,[1,5,6]),(3,[4]),(4,[1,15]),(5,[4]),(6,[4])]),(201,21,[(0,[0,1]),(1,[1,5]),(2,[5,10,11,12]),(3,[5,10,11,12,13]),(4,[5,7,10,11,12]),(5,[5,10,11,12]),(6,[5,10,11,12]),(7,[4])])]
def am5:ar:=bO Pz aoh [(247,xE),(248,JN)] [] []
theorem aeI:aO am5:=af ae ⟨AK,QH,trivial⟩ trivial trivial
def eW (a:Int)(b:Int):BitVec 64:=(bif a==0 then(dp (cq (0#64) b) 1|||dp (cq (0#64) b) 7)else(bif a==1 then(dp (cq (0#64) b) 3|||dp (cq (0#64) b) 5)else(0#64)))
def jJ (a:Int)(b:Int):Bool:=(bif a==0 then(dG (0#64) b&&(cR (cq (0#64) b) 1&&(dG (0#64) b&&(cR (cq (0#64) b) 7&&true))))else(bif a==1 then(dG (0#64) b&&(cR (cq (0#64) b) 3&&(dG (0#64) b&&(cR (cq (0#64) b) 5&&true))))else true))
theorem ap1 (a:Int)(b:Int)(h:jJ a b=true):PS Pz 146 [.int .u8 a,.int .i64 b] (dU.res (eW a b)):=pq14 aeI h
def qc:GT:=g2 (dI .u8) (dI .i64) (fun a b=>b7 (jJ a b) (dU.res (eW a b)))
theorem ry:Sound Pz 146 qc:=aP fun a b=>aA (ap1 a b)
def asO:KT:=[(281,10,[(0,[0,1]),(1,[6])])]
def aqH:ar:=bO Pz asO [(146,qc)] [] []
theorem acJ:aO aqH:=af ae ⟨ry,trivial⟩ trivial trivial
def Kc (a:Int)(b:Int)(c:BitVec 64):BitVec 64:=(eW a b)
def GL (a:Int)(b:Int)(c:BitVec 64):Bool:=(jJ a b&&true)
theorem am8 (a:Int)(b:Int)(c:BitVec 64)(h:GL a b c=true):PS Pz 281 [.int .u8 a,.int .i64 b,.u64 c] (dU.res (Kc a b c)):=pq14 acJ h
def agJ:GT:=g3 (dI .u8) (dI .i64) dU (fun a b c=>b7 (GL a b c) (dU.res (Kc a b c)))
theorem aq6:Sound Pz 281 agJ:=dc fun a b c=>aA (am8 a b c)
def amq:KT:=[(249,38,[(0,[3,4,5,15,16]),(1,[3,4,5,17]),(2,[6]),(3,[3,4,5,7]),(4,[3,4,5,7,8]),(5,[3,4,5,7,8,20]),(6,[3,4,5,7,8,9,22]),(7,(3::4::5::(rn 7 4 []))),(8,[]),(9,[6])]),(271,1,[(0,[]),(1,[0])]),(278,16,[(0,[0,2]),(1,[0,2,3]),(2,[0,2,3,6]),(3,[0,2,3]),(4,[0,2,3,15])]),(279,8,[(0,[0]),(1,[0])]),(282,5,[(0,[1,2]),(1,[2])]),(283,5,[(0,[1,2]),(1,[2])]),(286,11,[(0,[1,3]),(1,[7])]),(287,12,[(0,[1,2,3]),(1,[7])])]
def asj:ar:=bO Pz amq [(193,uO),(147,gi),(199,Az),(270,ad9),(261,aaJ),(262,Ve),(263,Vg),(264,Yu),(281,agJ)] [] []
theorem ait:aO asj:=af ae ⟨xr,gy,By,anQ,afU,ZJ,Zr,ah0,aq6,trivial⟩ trivial trivial
def pX (a:Pos)(b:Int)(c:Int):BitVec 64:=(bif !Oz b then(0#64)else(bif decide (c>1)then(0#64)else(0|||Kc (wr .u8 (1-c)) b (bm a)&&&aS a c 1|||vw b&&&aS a c (wr .u8 (1+1))|||xy b (bm a)&&&aS a c (wr .u8 (wr .u8 (1+1)+1))|||xD b (bm a)&&&aS a c (wr .u8 (wr .u8 (wr .u8 (1+1)+1)+1))|||Al b (bm a)&&&aS a c (wr .u8 (wr .u8 (wr .u8 (wr .u8 (1+1)+1)+1)+1))|||fB b&&&aS a c (wr .u8 (wr .u8 (wr .u8 (wr .u8 (wr .u8 (1+1)+1)+1)+1)+1)))))
def Dd (a:Pos)(b:Int)(c:Int):Bool:=(bif !Oz b then true else(bif decide (c>1)then true else(sj a&&(GL (wr .u8 (1-c)) b (bm a)&&(cF a c 1&&(yI b&&(cF a c (wr .u8 (1+1))&&(wL b (bm a)&&(cF a c (wr .u8 (wr .u8 (1+1)+1))&&(tQ b (bm a)&&(cF a c (wr .u8 (wr .u8 (wr .u8 (1+1)+1)+1))&&(B9 b (bm a)&&(cF a c (wr .u8 (wr .u8 (wr .u8 (wr .u8 (1+1)+1)+1)+1))&&(qv b&&(cF a c (wr .u8 (wr .u8 (wr .u8 (wr .u8 (wr .u8 (1+1)+1)+1)+1)+1))&&true)))))))))))))))
theorem atQ (a:Pos)(b:Int)(c:Int)(h:Dd a b c=true):PS Pz 249 [Pos.av a,.int .i64 b,.int .u8 c] (dU.res (pX a b c)):=pq14 ait h
def aiR:GT:=g3 aZ (dI .i64) (dI .u8) (fun a b c=>b7 (Dd a b c) (dU.res (pX a b c)))
theorem arx:Sound Pz 249 aiR:=dc fun a b c=>aA (atQ a b c)
def auk:KT:=[(205,12,[(0,[1,2,3]),(1,[6])])]
def asf:ar:=bO Pz auk [(249,aiR)] [] []
theorem adr:aO asf:=af ae ⟨arx,trivial⟩ trivial trivial
def Fs (a:Pos)(b:Int)(c:Int):Bool:=(pX a b c != 0#64)
def yp (a:Pos)(b:Int)(c:Int):Bool:=(Dd a b c&&true)
theorem ary (a:Pos)(b:Int)(c:Int)(h:yp a b c=true):PS Pz 205 [Pos.av a,.int .i64 b,.int .u8 c] (dB.res (Fs a b c)):=pq14 adr h
def Jo:GT:=g3 aZ (dI .i64) (dI .u8) (fun a b c=>b7 (yp a b c) (dB.res (Fs a b c)))
theorem KO:Sound Pz 205 Jo:=dc fun a b c=>aA (ary a b c)
def amy:KT:=[(149,21,[(0,(1::2::(rn 15 5 []))),(1,(1::2::5::6::(rn 15 5 []))),(2,[4])])]
def apQ:ar:=bO Pz amy [(204,ae9),(205,Jo)] [] []
theorem aeo:aO apQ:=af ae ⟨alc,KO,trivial⟩ trivial trivial
def ju (a:Pos)(b:Int):Bool:=(bif(DX a b).2 then(Fs a (DX a b).1 (wr .u8 (1-b)))else(false))
def lZ (a:Pos)(b:Int):Bool:=(Bu a b&&(bif(DX a b).2 then(yp a ((DX a b).1) (wr .u8 (1-b))&&true)else true))
theorem amI (a:Pos)(b:Int)(h:lZ a b=true):PS Pz 149 [Pos.av a,.int .u8 b] (dB.res (ju a b)):=pq14 aeo h
def qF:GT:=g2 aZ (dI .u8) (fun a b=>b7 (lZ a b) (dB.res (ju a b)))
theorem qS:Sound Pz 149 qF:=aP fun a b=>aA (amI a b)
end Kz
namespace Kz
open Go
theorem apB (n:Int):(decide (0≤wr .u8 n)&&decide (wr .u8 n<Int.ofNat 256)&&true)=true:=by have h1:=j5 n;have h2:=mM n;grind
theorem asa (a:BitVec 64):Bn a=true:=by unfold Bn;repeat' (first|exact apB _|refine aq (fun _=>?_) (fun _=>?_))
theorem alI (a:BitVec 64):G5 a=true:=ak (asa a) fun _=>rfl
theorem asN (a:BitVec 64):Hy a=true:=ak (alI a) fun _=>rfl
theorem aef (a b:Int)(c:BitVec 64):lE a b c=true:=by unfold lE;repeat' (first|with_reducible rfl|with_reducible exact aq2 _ _|with_reducible exact asN _|with_reducible exact t200 _|refine ak ?_ (fun _=>?_)|refine aq (fun _=>?_) (fun _=>?_))
theorem ab0 (a:Int)(b:BitVec 64):wL a b=true:=by unfold wL;repeat' (first|with_reducible rfl|with_reducible exact aef _ _ _|refine ak ?_ (fun _=>?_))
theorem Z7 (a:Int)(b:BitVec 64):tQ a b=true:=by unfold tQ;repeat' (first|with_reducible rfl|with_reducible exact aef _ _ _|refine ak ?_ (fun _=>?_))
theorem afD (a:Int)(b:BitVec 64):B9 a b=true:=ak (Z7 a b) fun _=>ak (ab0 a b) fun _=>rfl
theorem t146 (a b:Int):jJ a b=true:=by unfold jJ;repeat' (first|with_reducible rfl|with_reducible exact t247 _ _|with_reducible exact t248 _ _|refine ak ?_ (fun _=>?_)|refine aq (fun _=>?_) (fun _=>?_))
theorem t199 (a:Int):qv a=true:=by unfold qv;repeat' (first|with_reducible rfl|with_reducible exact t247 _ _|with_reducible exact t248 _ _|refine ak ?_ (fun _=>?_)|refine aq (fun _=>?_) (fun _=>?_))
theorem ad4 (a:Int):yI a=true:=by unfold yI;repeat' (first|with_reducible rfl|with_reducible exact t247 _ _|with_reducible exact t248 _ _|refine ak ?_ (fun _=>?_)|refine aq (fun _=>?_) (fun _=>?_))
theorem aqO (a b:Int)(c:BitVec 64):GL a b c=true:=ak (t146 a b) fun _=>rfl
theorem UA {a:Int}(h0:0≤a)(h1:a<64):Em a=1#64 <<< a.toNat:=by unfold Em;grind
theorem BS {x:BitVec 64}{a:Int}(h0:0≤a)(h1:a<64){i:Nat}(hi:i<64):(cq x a).getLsbD i=(x.getLsbD i ||decide (a=i)):=by unfold cq;rw[UA h0 h1,BitVec.getLsbD_or,BitVec.getLsbD_shiftLeft,BitVec.getLsbD_one];grind
def dv (c k v:Int):Bool:=im v&&(D0 v==c)&&(k==0 ||di v==k)
theorem Wg (bd:List Int)(p:Pos)(c k:Int):∃r,qf bd p c k (0#64,0)=some r∧∀i:Nat,i<64→r.1.getLsbD i=dv c k (bd.getD i 0):=by
 refine aQ (I:=fun x=>0≤x.2∧x.2≤64∧∀i:Nat,i<64→x.1.getLsbD i=(decide ((i:Int)<x.2)&&dv c k (bd.getD i 0))) (μ:=fun x=>(64-x.2).toNat) ?_ _ (by grind) (by simp);rintro⟨x,n⟩ ⟨h0,h1,hx⟩;simp only at h0 h1 hx;refine⟨aq (fun hc=>ak ?_ fun _=>?_) fun _=>rfl,al (fun hc=>?_) fun hc=>?_⟩
 ·simp_all
 ·repeat' (first|with_reducible rfl|with_reducible exact t247 _ _|refine ak ?_ (fun _=>?_)|refine aq (fun _=>?_) (fun _=>?_))
 ·simp only[decide_eq_true_eq]at hc;have hw:wr .i64 (n+1)=n+1:=aF (by omega) (by omega)
  have put:∀(b:Bool) (y:BitVec 64),dv c k (bd.getD n.toNat 0)=b→(y=bif b then cq x n else x) →
    xf (fun x:BitVec 64×Int=>0≤x.2∧x.2≤64∧∀i:Nat,i<64→x.1.getLsbD i=(decide ((i:Int)<x.2)&&dv c k (bd.getD i 0))) (fun r:BitVec 64×Int×Bool=>∀i:Nat,i<64→r.1.getLsbD i=dv c k (bd.getD i 0)) (fun x=>(64-x.2).toNat) (64-n).toNat (.go (y,wr .i64 (n+1))):=by
   intro b y hb hy
   rw[hw]
   refine⟨⟨by simp;omega,by simp;omega,fun i hi=>?_⟩,by simp;omega⟩
   simp only
   have key:(decide ((i:Int)<n+1)&&dv c k (bd.getD i 0))=((decide ((i:Int)<n)&&dv c k (bd.getD i 0)) ||(decide (n=i)&&b)):=by
    by_cases e:n=i
    ·grind
    ·grind
   rw[key,←hx i hi,hy]
   cases b with
   |true=>rw[cond_true,BS h0 hc hi];simp
   |false=>simp
  refine al (fun h2=>al (fun h3=>al (fun h4=>put true _ ?_ rfl) fun h4=>al (fun h5=>put true _ ?_ rfl) fun h5=>put false _ ?_ rfl) fun h3=>put false _ ?_ rfl) fun h2=>put false _ ?_ rfl;all_goals unfold dv
  all_goals simp_all
 ·simp only[decide_eq_false_iff_not]at hc;intro i hi;grind
theorem t147 (a:Pos)(b c:Int):cF a b c=true:=ak (aJ (Wg _ _ _ _)).1 fun _=>rfl
theorem bK (a:Pos)(b c:Int){i:Nat}(hi:i<64):(aS a b c).getLsbD i=dv b c (a.ab.getD i 0):=(aJ (Wg _ _ _ _)).2 i hi
theorem XH (bd:List Int)(p:Pos):∃r,o9 bd p (0#64,0)=some r∧∀i:Nat,i<64→r.1.getLsbD i=im (bd.getD i 0):=by
 refine aQ (I:=fun x=>0≤x.2∧x.2≤64∧∀i:Nat,i<64→x.1.getLsbD i=(decide ((i:Int)<x.2)&&im (bd.getD i 0))) (μ:=fun x=>(64-x.2).toNat) ?_ _ (by grind) (by simp);rintro⟨x,n⟩ ⟨h0,h1,hx⟩;simp only at h0 h1 hx;refine⟨aq (fun hc=>ak ?_ fun _=>?_) fun _=>rfl,al (fun hc=>?_) fun hc=>?_⟩
 ·simp_all
 ·repeat' (first|with_reducible rfl|with_reducible exact t247 _ _|refine ak ?_ (fun _=>?_)|refine aq (fun _=>?_) (fun _=>?_))
 ·simp only[decide_eq_true_eq]at hc;have hw:wr .i64 (n+1)=n+1:=aF (by omega) (by omega)
  have put:∀(b:Bool) (y:BitVec 64),im (bd.getD n.toNat 0)=b→(y=bif b then cq x n else x) →
    xf (fun x:BitVec 64×Int=>0≤x.2∧x.2≤64∧∀i:Nat,i<64→x.1.getLsbD i=(decide ((i:Int)<x.2)&&im (bd.getD i 0))) (fun r:BitVec 64×Int×Bool=>∀i:Nat,i<64→r.1.getLsbD i=im (bd.getD i 0)) (fun x=>(64-x.2).toNat) (64-n).toNat (.go (y,wr .i64 (n+1))):=by
   intro b y hb hy
   rw[hw]
   refine⟨⟨by simp;omega,by simp;omega,fun i hi=>?_⟩,by simp;omega⟩
   simp only
   have key:(decide ((i:Int)<n+1)&&im (bd.getD i 0))=((decide ((i:Int)<n)&&im (bd.getD i 0)) ||(decide (n=i)&&b)):=by
    by_cases e:n=i
    ·grind
    ·grind
   rw[key,←hx i hi,hy]
   cases b with
   |true=>rw[cond_true,BS h0 hc hi];simp
   |false=>simp
  refine al (fun h2=>al (by simp_all) fun h3=>by cases h3) (by grind)
 ·simp only[decide_eq_false_iff_not]at hc;intro i hi;grind
theorem t193 (a:Pos):sj a=true:=ak (aJ (XH _ _)).1 fun _=>rfl
theorem mK (a:Pos){i:Nat}(hi:i<64):(bm a).getLsbD i=im (a.ab.getD i 0):=(aJ (XH _ _)).2 i hi
theorem t145 (a:Pos)(b c:Int):iz a b c=true:=ak (t147 _ _ _) fun _=>ak (t200 _) fun _=>rfl
theorem gR (a:Pos)(b c:Int):(bg a b c = -1∧∀i:Nat,i<64→dv b c (a.ab.getD i 0)=false)∨∃j,j<64∧bg a b c=(j:Nat)∧dv b c (a.ab.getD j 0)=true∧∀i,i<j→dv b c (a.ab.getD i 0)=false:=by
 unfold bg;by_cases h:aS a b c=0#64
 ·left;refine⟨by rw[h];rfl,fun i hi=>?_⟩;rw[←bK a b c hi,h];simp
 ·right;obtain⟨j,hj,h1,h2⟩:=FW h;exact⟨j,hj,wK hj h1 h2,by rw[←bK a b c hj];exact h1,fun i hi=>by rw[←bK a b c (by omega)];exact h2 i hi⟩
theorem fH (a:Pos)(b c:Int) : -1≤bg a b c∧bg a b c<64:=by rcases gR a b c with⟨h,_⟩|⟨j,h1,h2,_⟩<;>omega
theorem t249 (a:Pos)(b c:Int):Dd a b c=true:=by unfold Dd;repeat' (first|with_reducible rfl|with_reducible exact t193 _|with_reducible exact t147 _ _ _|with_reducible exact aqO _ _ _|with_reducible exact ad4 _|with_reducible exact t199 _|with_reducible exact ab0 _ _|with_reducible exact Z7 _ _|with_reducible exact afD _ _|refine ak ?_ (fun _=>?_)|refine aq (fun _=>?_) (fun _=>?_))
theorem t205 (a:Pos)(b c:Int):yp a b c=true:=ak (t249 _ _ _) fun _=>rfl
theorem t120 {a b:Int}(ha:0≤a)(hb:0≤b):lV a b=true:=by
 unfold lV;refine aq (fun h=>?_) fun _=>rfl;have h1:b≤1:=by simpa using h
 have hb2:(decide (0≤b)&&decide (b<((2:Nat):Int))&&(bif b==((0:Nat):Int)then true else(b==((1:Nat):Int)&&true)))=true:=by
  have:b=0∨b=1:=by omega
  rcases this with rfl|rfl<;>rfl
 grind
theorem t204 {a:Pos}{b:Int}(ha:0≤a.variant)(hb:0≤b):Bu a b=true:=by unfold Bu;refine ak (t120 ha hb) fun _=>?_;repeat' (first|with_reducible rfl|with_reducible exact t145 _ _ _|with_reducible exact t199 _|with_reducible exact t147 _ _ _|refine ak ?_ (fun _=>?_)|refine aq (fun _=>?_) (fun _=>?_))
theorem t149 {a:Pos}{b:Int}(ha:0≤a.variant)(hb:0≤b):lZ a b=true:=ak (t204 ha hb) fun _=>aq (fun _=>ak (t205 _ _ _) fun _=>rfl) fun _=>rfl
end Kz
namespace Kz
open Go Go.RowKit Go.Proofs
def ao5:KT:=[(134,24,[(0,[1,2,8,9,10]),(1,[1,2,11]),(2,[2,3]),(3,[2,3])])]
def ar7:ar:=bO Pz ao5 [(147,gi)] [] []
theorem aft:aO ar7:=af ae ⟨gy,trivial⟩ trivial trivial
def jl (a:Pos):((Pos×BitVec 64×BitVec 64)×Bool):=(bif decide (a.aa>1)then(((⟨(0),(List.replicate 64 0),0,(List.replicate 12 0),0,(List.replicate 4 0),0,(List.replicate 2 0),0,(0)⟩:Pos),0,0),false)else(bif decide (a.variant≥9)then(((⟨(0),(List.replicate 64 0),0,(List.replicate 12 0),0,(List.replicate 4 0),0,(List.replicate 2 0),0,(0)⟩:Pos),0,0),false)else(((⟨(a.variant),(a.ab),(a.ai),(a.ah),(a.aa),(a.ao),(a.az),(a.au),(a.half),(a.full)⟩:Pos),(aS a a.aa 0),(aS a (wr .u8 (1-a.aa)) 0)),true)))
def Cd (a:Pos):Bool:=(bif decide (a.aa>1)then true else(bif decide (a.variant≥9)then true else(cF a (a.aa) 0&&(cF a (wr .u8 (1-a.aa)) 0&&true))))
theorem aoi (a:Pos)(h:Cd a=true):PS Pz 134 [Pos.av a] ((d2 CP dB).res (jl a)):=pq14 aft h
def IM:GT:=g1 aZ (fun a=>b7 (Cd a) ((d2 CP dB).res (jl a)))
theorem LA:Sound Pz 134 IM:=aH fun a=>aA (aoi a)
def amj:KT:=[(136,11,[(0,[0,1]),(1,[1,6]),(2,[4]),(3,[4])])]
def asq:ar:=bO Pz amj [] [] []
theorem ahY:aO asq:=af ae trivial trivial trivial
def dA (a:Int)(b:Int):Int:=(bif a==1 then(wr .i64 (b-8))else(wr .i64 (b+8)))
def aj0 (a:Int)(b:Int):Bool:=true
theorem asY (a:Int)(b:Int)(h:aj0 a b=true):PS Pz 136 [.int .u8 a,.int .i64 b] ((dI .i64).res (dA a b)):=pq14 ahY h
def ab9:GT:=g2 (dI .u8) (dI .i64) (fun a b=>.ret ((dI .i64).res (dA a b)))
theorem afj:Sound Pz 136 ab9:=aP fun a b=>bH (asY a b rfl)
def aos:KT:=[(265,11,[(0,[0,1]),(1,[1,6]),(2,[1]),(3,[4])])]
def asb:ar:=bO Pz aos [] [] []
theorem ahm:aO asb:=af ae trivial trivial trivial
def lG (a:Int)(b:Int):Int:=(bif a==1 then(wr .i64 ((lz BinOp.xor .i64 b 56).tdiv 8))else(wr .i64 (b.tdiv 8)))
def ahy (a:Int)(b:Int):Bool:=true
theorem ar9 (a:Int)(b:Int)(h:ahy a b=true):PS Pz 265 [.int .u8 a,.int .i64 b] ((dI .i64).res (lG a b)):=pq14 ahm h
def JT:GT:=g2 (dI .u8) (dI .i64) (fun a b=>.ret ((dI .i64).res (lG a b)))
theorem Mk:Sound Pz 265 JT:=aP fun a b=>bH (ar9 a b rfl)
def amQ:KT:=[(274,18,[(0,[1,8,9,10,11]),(1,[1,12]),(2,[2]),(3,[2])])]
def aqe:ar:=bO Pz amQ [] [] []
theorem ajr:aO aqe:=af ae trivial trivial trivial
def rV (a:(Pos×BitVec 64×BitVec 64)):BitVec 64:=(bif decide (a.1.az<0)then(0#64)else(bif decide (a.1.az≥64)then(0#64)else(1#64 <<< (BitVec.ofInt 64 a.1.az).toNat)))
def ac8 (a:(Pos×BitVec 64×BitVec 64)):Bool:=true
theorem aoK (a:(Pos×BitVec 64×BitVec 64))(h:ac8 a=true):PS Pz 274 [rM a] (dU.res (rV a)):=pq14 ajr h
def aeK:GT:=g1 CP (fun a=>.ret (dU.res (rV a)))
theorem aqd:Sound Pz 274 aeK:=aH fun a=>bH (aoK a rfl)
def aly:KT:=[(260,76,[(0,(1::2::(rn 53 12 []))),(1,(1::2::5::(rn 53 12 []))),(2,(1::2::5::6::(rn 53 12 []))),(3,(1::2::5::6::25::(rn 53 12 []))),(4,[4]),(5,(1::2::5::6::7::(rn 53 12 []))),(6,(1::2::(rn 5 4 (rn 53 12 [])))),(7,(1::2::(rn 5 4 (40::(rn 53 12 []))))),(8,[4]),(9,(1::2::(rn 5 4 (rn 53 12 [])))),(10,(2::(rn 5 5 (rn 53 12 [])))),(11,[5,6,7,8,65]),(12,[6]),(13,[4])])]
def aml:ar:=bO Pz aly [(136,ab9),(146,qc),(265,JT),(274,aeK)] [] []
theorem ahb:aO aml:=af ae ⟨afj,ry,Mk,aqd,trivial⟩ trivial trivial
def CE (a:(Pos×BitVec 64×BitVec 64))(b:Int):BitVec 64:=(bif lG a.1.aa b==7 then(eW a.1.aa b&&&(a.2.2|||rV (a.1,a.2.1,a.2.2)))else(bif(a.2.1|||a.2.2) >>> (BitVec.ofInt 64 (dA a.1.aa b)).toNat&&&1#64==1#64 then(eW a.1.aa b&&&(a.2.2|||rV (a.1,a.2.1,a.2.2)))else(bif lG a.1.aa b==1 then(eW a.1.aa b&&&(a.2.2|||rV (a.1,a.2.1,a.2.2))|||1#64 <<< (BitVec.ofInt 64 (dA a.1.aa b)).toNat|||1#64 <<< (BitVec.ofInt 64 (dA a.1.aa (dA a.1.aa b))).toNat &&& ~~~(a.2.1|||a.2.2))else(bif lG a.1.aa b==0 then(bif a.1.variant==7 then(bif a.1.aa==0 then(eW a.1.aa b&&&(a.2.2|||rV (a.1,a.2.1,a.2.2))|||1#64 <<< (BitVec.ofInt 64 (dA a.1.aa b)).toNat|||1#64 <<< (BitVec.ofInt 64 (dA a.1.aa (dA a.1.aa b))).toNat &&& ~~~(a.2.1|||a.2.2))else(eW a.1.aa b&&&(a.2.2|||rV (a.1,a.2.1,a.2.2))|||1#64 <<< (BitVec.ofInt 64 (dA a.1.aa b)).toNat))else(eW a.1.aa b&&&(a.2.2|||rV (a.1,a.2.1,a.2.2))|||1#64 <<< (BitVec.ofInt 64 (dA a.1.aa b)).toNat))else(eW a.1.aa b&&&(a.2.2|||rV (a.1,a.2.1,a.2.2))|||1#64 <<< (BitVec.ofInt 64 (dA a.1.aa b)).toNat)))))
def Hc (a:(Pos×BitVec 64×BitVec 64))(b:Int):Bool:=(jJ (a.1.aa) b&&true)
theorem ast (a:(Pos×BitVec 64×BitVec 64))(b:Int)(h:Hc a b=true):PS Pz 260 [rM a,.int .i64 b] (dU.res (CE a b)):=pq14 ahb h
def adb:GT:=g2 CP (dI .i64) (fun a b=>b7 (Hc a b) (dU.res (CE a b)))
theorem anI:Sound Pz 260 adb:=aP fun a b=>aA (ast a b)
def aqU:KT:=[(236,58,[(0,[1,2]),(1,[1,2,5]),(2,[1,2,5,6]),(3,[1,2,5,6,17]),(4,[1,2,5,6,17,18]),(5,[2,6]),(6,[1,2,5,6,17,23]),(7,[2,6]),(8,[1,2,5,6,17,27]),(9,[2,6]),(10,[1,2,5,6,17,32]),(11,[2,6]),(12,[1,2,5,6,17,37]),(13,[2,6]),(14,[1,2,6,42]),(15,[2,6]),(16,[2,6,49]),(17,[2,6]),(18,[4])])]
def aqV:ar:=bO Pz aqU [(135,jt),(199,Az),(260,adb),(261,aaJ),(262,Ve),(263,Vg),(264,Yu)] [] []
theorem aeh:aO aqV:=af ae ⟨jQ,By,anI,afU,ZJ,Zr,ah0,trivial⟩ trivial trivial
def iC (a:(Pos×BitVec 64×BitVec 64))(b:Int):BitVec 64:=(bif di (a.1.ab.getD (scale 1 b).toNat 0)==1 then(CE a b &&& ~~~a.2.1)else(bif di (a.1.ab.getD (scale 1 b).toNat 0)==2 then(vw b &&& ~~~a.2.1)else(bif di (a.1.ab.getD (scale 1 b).toNat 0)==3 then(xy b (a.2.1|||a.2.2) &&& ~~~a.2.1)else(bif di (a.1.ab.getD (scale 1 b).toNat 0)==4 then(xD b (a.2.1|||a.2.2) &&& ~~~a.2.1)else(bif di (a.1.ab.getD (scale 1 b).toNat 0)==5 then(Al b (a.2.1|||a.2.2) &&& ~~~a.2.1)else(bif di (a.1.ab.getD (scale 1 b).toNat 0)==6 then(bif a.1.variant==3 then(fB b &&& ~~~a.2.2 &&& ~~~a.2.1)else(fB b &&& ~~~a.2.1))else(0#64 &&& ~~~a.2.1)))))))
def CJ (a:(Pos×BitVec 64×BitVec 64))(b:Int):Bool:=(decide (0≤b)&&decide (b<Int.ofNat 64)&&(bif di (a.1.ab.getD (scale 1 b).toNat 0)==1 then(Hc a b&&true)else(bif di (a.1.ab.getD (scale 1 b).toNat 0)==2 then(yI b&&true)else(bif di (a.1.ab.getD (scale 1 b).toNat 0)==3 then(wL b (a.2.1|||a.2.2)&&true)else(bif di (a.1.ab.getD (scale 1 b).toNat 0)==4 then(tQ b (a.2.1|||a.2.2)&&true)else(bif di (a.1.ab.getD (scale 1 b).toNat 0)==5 then(B9 b (a.2.1|||a.2.2)&&true)else(bif di (a.1.ab.getD (scale 1 b).toNat 0)==6 then(qv b&&true)else true)))))))
theorem akK (a:(Pos×BitVec 64×BitVec 64))(b:Int)(h:CJ a b=true):PS Pz 236 [rM a,.int .i64 b] (dU.res (iC a b)):=pq14 aeh h
def Oj:GT:=g2 CP (dI .i64) (fun a b=>b7 (CJ a b) (dU.res (iC a b)))
theorem Rl:Sound Pz 236 Oj:=aP fun a b=>aA (akK a b)
def ali:KT:=[(178,9,[(0,[0,2]),(1,[0,2,4]),(2,[2]),(3,[2])]),(226,22,[(0,[0]),(1,[0,1]),(2,[0])])]
def alE:ar:=bO Pz ali [] [] []
theorem ahB:aO alE:=af ae trivial trivial trivial
def xn (a:Int):(Y'×Bool×Bool×Bool×Bool×Bool×Int):=(bif decide (a≥9)then⟨([]),false,false,false,false,false,(0)⟩else(bif a==Int.ofNat 0 then⟨((ByteArray.mk #[115,116,97,110,100,97,114,100]).data.toList),true,true,true,false,true,(5)⟩else(bif a==Int.ofNat 1 then⟨((ByteArray.mk #[99,104,101,115,115,57,54,48]).data.toList),true,true,true,false,true,(5)⟩else(bif a==Int.ofNat 2 then⟨((ByteArray.mk #[99,114,97,122,121,104,111,117,115,101]).data.toList),true,true,true,true,true,(5)⟩else(bif a==Int.ofNat 3 then⟨((ByteArray.mk #[97,116,111,109,105,99]).data.toList),true,true,true,false,true,(5)⟩else(bif a==Int.ofNat 4 then⟨((ByteArray.mk #[97,110,116,105,99,104,101,115,115]).data.toList),false,false,false,false,true,(6)⟩else(bif a==Int.ofNat 5 then⟨((ByteArray.mk #[116,104,114,101,101,99,104,101,99,107]).data.toList),true,true,true,false,true,(5)⟩else(bif a==Int.ofNat 6 then⟨((ByteArray.mk #[107,105,110,103,104,105,108,108]).data.toList),true,true,true,false,true,(5)⟩else(bif a==Int.ofNat 7 then⟨((ByteArray.mk #[104,111,114,100,101]).data.toList),false,true,true,false,true,(5)⟩else⟨((ByteArray.mk #[114,97,99,105,110,103]).data.toList),true,true,false,false,false,(0)⟩)))))))))
def xH (a:Int):Bool:=(bif decide (a≥9)then true else(decide (0≤a)&&decide (a<Int.ofNat 9)&&(bif a==Int.ofNat 0 then true else(bif a==Int.ofNat 1 then true else(bif a==Int.ofNat 2 then true else(bif a==Int.ofNat 3 then true else(bif a==Int.ofNat 4 then true else(bif a==Int.ofNat 5 then true else(bif a==Int.ofNat 6 then true else(bif a==Int.ofNat 7 then true else(a==Int.ofNat 8&&true)))))))))))
theorem atB (a:Int)(h:xH a=true):PS Pz 178 [.int .u8 a] (af2.res (xn a)):=pq14 ahB h
def Tf:GT:=g1 (dI .u8) (fun a=>b7 (xH a) (af2.res (xn a)))
theorem abb:Sound Pz 178 Tf:=aH fun a=>aA (atB a)
def aej:KT:=[(266,17,[(0,[0]),(1,[0,3]),(2,[0,3,4]),(3,[0,3,4,9]),(4,[0,3,4]),(5,[0,3,4]),(6,[2])])]
def aax:ar:=bO Pz aej [(178,Tf)] [] []
theorem SV:aO aax:=af ae ⟨abb,trivial⟩ trivial trivial
def MO (p1:Int)(p2:Nat)(x:(Z'×Int)):St:=St.mk (.int .u8 p1::.any::.any::.list (ET.i .u8) x.1 (.own 1)::.int .u8 x.2::(an 12 [])) (Hp.mk [] [p2,x.1.length] [] 0 0 0)
def MI (p1:Int)(p2:Nat):(Z'×Int×Bool)→Out:=fun y=>.exit 0 (St.mk (.int .u8 p1::.any::.any::.list (ET.i .u8) y.1 (.own 1)::.int .u8 y.2.1::(an 4 (.bool y.2.2::(an 7 [])))) (Hp.mk [] [p2,y.1.length] [] 0 0 0))
def zy (p1:Int)(p2:Nat)(x:(Z'×Int)):aG (Z'×Int) ((Z'×Int×Bool)):=(bif decide (x.2≤(xn p1).2.2.2.2.2.2)then(aG.go (x.1++[x.2],wr .u8 (x.2+1)))else(aG.out ((x.1,x.2,decide (x.2≤(xn p1).2.2.2.2.2.2)))))
def vR (p1:Int)(p2:Nat)(x:(Z'×Int)):Bool:=(xH p1&&(bif decide (x.2≤(xn p1).2.2.2.2.2.2)then(x.1.length==x.1.length&&decide (x.1.length+1≤1073741824)&&true)else true))
def qq (p1:Int)(p2:Nat)(x:(Z'×Int)):Option ((Z'×Int×Bool)):=cW (fun x=>bif vR p1 p2 x then zy p1 p2 x else .bad) many x
abbrev OW {α:Type}(k:Int→Nat→(Z'×Int)→α)(s:St):α:=k (tI (tT s 0)) (tK s 0) ((tL (ET.i .u8) (tT s 3)),(tI (tT s 4)))
theorem YY (p1:Int)(p2:Nat)(x:(Z'×Int))(r:(Z'×Int×Bool))(h:qq p1 p2 x=some r):aC Pz (bc Pz 266 3) (MO p1 p2 x) (MI p1 p2 r):=smq (m:=12) (fn:=266) SV (OW fun _ _ x=>some x) (fun o=>match o with | .exit 0 s=>some ((tL (ET.i .u8) (tT s 3)),(tI (tT s 4)),(tB (tT s 9)))|_=>none) many x r h
def KG (b:Code)(s:St):Tr Out:=OW (fun p1 p2 x=>jS b (bc Pz 266 3) s (MO p1 p2 x) (qq p1 p2 x) (MI p1 p2)) s
theorem Sm:∀b,aT Pz b (KG b):=fun _ _ _ h=>bF (YY _ _ _) h
def aub:ar:=bO Pz aej [(178,Tf)] [(266,3,KG)] []
theorem ahZ:aO aub:=af ae ⟨abb,trivial⟩ ⟨Sm,trivial⟩ trivial
def Cs (a:Int):List Int:=(((qq a 0 ([],2)).getD default).1)
def Cl (a:Int):Bool:=((qq a 0 ([],2)).isSome&&true)
theorem atK (a:Int)(h:Cl a=true):PS Pz 266 [.int .u8 a] ((dL (.i .u8)).res (Cs a)):=pq14 ahZ h
def PY:GT:=g1 (dI .u8) (fun a=>b7 (Cl a) ((dL (.i .u8)).res (Cs a)))
theorem TX:Sound Pz 266 PY:=aH fun a=>aA (atK a)
def TT:KT:=[(131,22,[(0,[1]),(1,[3,4]),(2,[3,13]),(3,[2]),(4,[3,5]),(5,[5,15]),(6,[5,6]),(7,[]),(8,[2])]),(189,4,[(0,[1]),(1,[2])]),(235,37,[(0,[0,1,10,11,12]),(1,(0::1::(rn 10 4 []))),(2,[0,1,4,10,11,12]),(3,[0,1,4,10,11,12,19,20,21]),(4,(0::1::4::10::11::12::(rn 19 4 []))),(5,[0,1,4,6,10,11,12,19,20,21]),(6,[0,1,4,7,10,11,12,19,20,21]),(7,[0,1,4,10,11,12,19,20,21,34]),(8,[0,1,4,10,11,12,19,20,21]),(9,[0,1,10,11,12])]),(237,46,[(0,(2::3::4::(rn 18 8 []))),(1,[2,3,4,26]),(2,[6]),(3,[2,4,33,34,35]),(4,(2::4::(rn 33 4 []))),(5,[2,4,8,33,34,35]),(6,[2,4,33,34,35]),(7,[2,4,33,34,35,44]),(8,[6]),(9,[2,4,33,34,35]),(10,[6])])]
def aai:ar:=bO Pz TT [(134,IM),(135,jt),(142,jm),(236,Oj),(265,JT),(266,PY)] [] []
theorem R8:aO aai:=af ae ⟨LA,jQ,jv,Rl,Mk,TX,trivial⟩ trivial trivial
def OL (p1:Z')(p2:Int)(p3:Pos)(p4:Pos)(p5:(BitVec 64))(p6:(BitVec 64))(p7:Mv)(x:(Int×M'×Mv)):St:=St.mk (.any::.any::.yield 0::.any::.ptr 6 0::(an 28 (.list (ET.i .u8) p1 .fresh::.int .i64 p2::.int .i64 x.1::(an 10 [])))) (Hp.mk [(pc p3 []),(pc p4 [.u64 p5,.u64 p6]),[.list .mv x.2.1 (.own 1)],(pc p4 [.u64 p5,.u64 p6]),[.int .i8 p7.aD,.int .i8 p7.to,.int .u8 p7.bU,.int .u8 p7.bh,.bool p7.bZ],(pc p4 [.u64 p5,.u64 p6]),[.int .i8 x.2.2.aD,.int .i8 x.2.2.to,.int .u8 x.2.2.bU,.int .u8 x.2.2.bh,.bool x.2.2.bZ]] [0,x.2.1.length] [eF.mk 0 none 131 (an 5 (.ptr 2 0::(an 9 (.func 235 [] [.ptr 3 0]::(an 6 []))))) [16] (sr Pz 131 7) (sF Pz 131 7)] 0 0 0)
def OD (p1:Z')(p2:Int)(p3:Pos)(p4:Pos)(p5:(BitVec 64))(p6:(BitVec 64))(p7:Mv):(Int×Bool×M'×Mv)→Out:=fun y=>.exit 0 (St.mk (.any::.any::.yield 0::.any::.ptr 6 0::(an 28 (.list (ET.i .u8) p1 .fresh::.int .i64 p2::.int .i64 y.1::.bool y.2.1::(an 9 [])))) (Hp.mk [(pc p3 []),(pc p4 [.u64 p5,.u64 p6]),[.list .mv y.2.2.1 (.own 1)],(pc p4 [.u64 p5,.u64 p6]),[.int .i8 p7.aD,.int .i8 p7.to,.int .u8 p7.bU,.int .u8 p7.bh,.bool p7.bZ],(pc p4 [.u64 p5,.u64 p6]),[.int .i8 y.2.2.2.aD,.int .i8 y.2.2.2.to,.int .u8 y.2.2.2.bU,.int .u8 y.2.2.2.bh,.bool y.2.2.2.bZ]] [0,y.2.2.1.length] [eF.mk 0 none 131 (an 5 (.ptr 2 0::(an 9 (.func 235 [] [.ptr 3 0]::(an 6 []))))) [16] (sr Pz 131 7) (sF Pz 131 7)] 0 0 0))
def T9 (p1:Z')(p2:Int)(p3:Pos)(p4:Pos)(p5:(BitVec 64))(p6:(BitVec 64))(p7:Mv)(x:(Int×M'×Mv)):aG (Int×M'×Mv) ((Int×Bool×M'×Mv)):=(bif decide (x.1<p2)then(aG.go (wr .i64 (x.1+1),x.2.1++[Mv.mk x.2.2.aD x.2.2.to (p1.getD x.1.toNat default) x.2.2.bh x.2.2.bZ],Mv.mk x.2.2.aD x.2.2.to (p1.getD x.1.toNat default) x.2.2.bh x.2.2.bZ))else(aG.out ((x.1,decide (x.1<p2),x.2.1,x.2.2))))
def Lh (p1:Z')(p2:Int)(p3:Pos)(p4:Pos)(p5:(BitVec 64))(p6:(BitVec 64))(p7:Mv)(x:(Int×M'×Mv)):Bool:=(bif decide (x.1<p2)then(decide (0≤x.1)&&decide (x.1<Int.ofNat p1.length)&&(x.2.1.length==x.2.1.length&&decide (x.2.1.length+1≤1073741824)&&true))else true)
def oY (p1:Z')(p2:Int)(p3:Pos)(p4:Pos)(p5:(BitVec 64))(p6:(BitVec 64))(p7:Mv)(x:(Int×M'×Mv)):Option ((Int×Bool×M'×Mv)):=cW (fun x=>bif Lh p1 p2 p3 p4 p5 p6 p7 x then T9 p1 p2 p3 p4 p5 p6 p7 x else .bad) many x
abbrev L7 {α:Type}(k:Z'→Int→Pos→Pos→(BitVec 64)→(BitVec 64)→Mv→(Int×M'×Mv)→α)(s:St):α:=wP s 0 fun q0=>wP s 1 fun q1=>wM s 4 fun q4=>wM s 6 fun q6=>k (tL (ET.i .u8) (tT s 33)) (tI (tT s 34)) q0 q1 (tU (tH s 1 10)) (tU (tH s 1 11)) q4 ((tI (tT s 35)),(tL (ET.mv) (tH s 2 0)),q6)
theorem X8 (p1:Z')(p2:Int)(p3:Pos)(p4:Pos)(p5:(BitVec 64))(p6:(BitVec 64))(p7:Mv)(x:(Int×M'×Mv))(r:(Int×Bool×M'×Mv))(h:oY p1 p2 p3 p4 p5 p6 p7 x=some r):aC Pz (bc Pz 237 4) (OL p1 p2 p3 p4 p5 p6 p7 x) (OD p1 p2 p3 p4 p5 p6 p7 r):=smq (m:=12) (fn:=237) R8 (L7 fun _ _ _ _ _ _ _ x=>some x) (fun o=>match o with | .exit 0 s=>wM s 6 fun q6=>some ((tI (tT s 35)),(tB (tT s 36)),(tL ET.mv (tH s 2 0)),q6)|_=>none) many x r h
def A6 (b:Code)(s:St):Tr Out:=L7 (fun p1 p2 p3 p4 p5 p6 p7 x=>jS b (bc Pz 237 4) s (OL p1 p2 p3 p4 p5 p6 p7 x) (oY p1 p2 p3 p4 p5 p6 p7 x) (OD p1 p2 p3 p4 p5 p6 p7)) s
theorem Am:∀b,aT Pz b (A6 b):=fun _ _ _ h=>bF (X8 _ _ _ _ _ _ _ _) h
def abU:ar:=bO Pz TT [(134,IM),(135,jt),(142,jm),(236,Oj),(265,JT),(266,PY)] [(237,4,A6)] []
theorem Sl:aO abU:=af ae ⟨LA,jQ,jv,Rl,Mk,TX,trivial⟩ ⟨Am,trivial⟩ trivial
def Q9 (p1:Int)(p2:Z')(p3:Int)(p4:Int)(p5:Z')(p6:Int)(p7:Pos)(p8:Pos)(p9:(BitVec 64))(p10:(BitVec 64))(x:(Int×M')):St:=St.mk (.yield 0::.ptr 3 0::.any::.any::.int .i64 p1::(an 5 (.list (ET.i .i64) p2 .fresh::.int .i64 p3::.int .i64 p4::(an 6 (.list (ET.i .i64) p5 .fresh::.int .i64 p6::.int .i64 x.1::(an 15 [])))))) (Hp.mk [(pc p7 []),(pc p8 [.u64 p9,.u64 p10]),[.list .mv x.2 (.own 1)],(pc p8 [.u64 p9,.u64 p10])] [0,x.2.length] [eF.mk 0 none 131 (an 5 (.ptr 2 0::(an 9 (.func 235 [] [.ptr 3 0]::(an 6 []))))) [16] (sr Pz 131 7) (sF Pz 131 7)] 0 0 0)
def PF (p1:Int)(p2:Z')(p3:Int)(p4:Int)(p5:Z')(p6:Int)(p7:Pos)(p8:Pos)(p9:(BitVec 64))(p10:(BitVec 64)):(Int×Bool×M')→Out:=fun y=>.exit 2 (St.mk (.yield 0::.ptr 3 0::.any::.any::.int .i64 p1::(an 5 (.list (ET.i .i64) p2 .fresh::.int .i64 p3::.int .i64 p4::(an 6 (.list (ET.i .i64) p5 .fresh::.int .i64 p6::.int .i64 y.1::.bool y.2.1::(an 14 [])))))) (Hp.mk [(pc p7 []),(pc p8 [.u64 p9,.u64 p10]),[.list .mv y.2.2 (.own 1)],(pc p8 [.u64 p9,.u64 p10])] [0,y.2.2.length] [eF.mk 0 none 131 (an 5 (.ptr 2 0::(an 9 (.func 235 [] [.ptr 3 0]::(an 6 []))))) [16] (sr Pz 131 7) (sF Pz 131 7)] 0 0 0))
def RZ (p1:Int)(p2:Z')(p3:Int)(p4:Int)(p5:Z')(p6:Int)(p7:Pos)(p8:Pos)(p9:(BitVec 64))(p10:(BitVec 64))(x:(Int×M')):aG (Int×M') ((Int×Bool×M')):=(bif decide (x.1<p6)then(bif di (p8.ab.getD (scale 1 (wr .i8 p1)).toNat 0) != 1 then(aG.go (wr .i64 (x.1+1),x.2++[Mv.mk (wr .i8 p1) (wr .i8 (p5.getD x.1.toNat default)) 0 0 false]))else(bif lG p8.aa (wr .i64 (wr .i8 (p5.getD x.1.toNat default))) != 7 then(aG.go (wr .i64 (x.1+1),x.2++[Mv.mk (wr .i8 p1) (wr .i8 (p5.getD x.1.toNat default)) 0 0 false]))else(aG.go (wr .i64 (x.1+1),((oY (Cs p8.variant) (Int.ofNat (Cs p8.variant).length) p7 p8 p9 p10 (Mv.mk (wr .i8 p1) (wr .i8 (p5.getD x.1.toNat default)) 0 0 false) (0,x.2,Mv.mk (wr .i8 p1) (wr .i8 (p5.getD x.1.toNat default)) 0 0 false)).getD default).2.2.1))))else(aG.out ((x.1,decide (x.1<p6),x.2))))
def Od (p1:Int)(p2:Z')(p3:Int)(p4:Int)(p5:Z')(p6:Int)(p7:Pos)(p8:Pos)(p9:(BitVec 64))(p10:(BitVec 64))(x:(Int×M')):Bool:=(bif decide (x.1<p6)then(decide (0≤x.1)&&decide (x.1<Int.ofNat p5.length)&&(decide (0≤wr .i8 p1)&&decide (wr .i8 p1<Int.ofNat 64)&&(bif di (p8.ab.getD (scale 1 (wr .i8 p1)).toNat 0) != 1 then(x.2.length==x.2.length&&decide (x.2.length+1≤1073741824)&&true)else(bif lG p8.aa (wr .i64 (wr .i8 (p5.getD x.1.toNat default))) != 7 then(x.2.length==x.2.length&&decide (x.2.length+1≤1073741824)&&true)else(Cl (p8.variant)&&((oY (Cs p8.variant) (Int.ofNat (Cs p8.variant).length) p7 p8 p9 p10 (Mv.mk (wr .i8 p1) (wr .i8 (p5.getD x.1.toNat default)) 0 0 false) (0,x.2,Mv.mk (wr .i8 p1) (wr .i8 (p5.getD x.1.toNat default)) 0 0 false)).isSome&&true))))))else true)
def pD (p1:Int)(p2:Z')(p3:Int)(p4:Int)(p5:Z')(p6:Int)(p7:Pos)(p8:Pos)(p9:(BitVec 64))(p10:(BitVec 64))(x:(Int×M')):Option ((Int×Bool×M')):=cW (fun x=>bif Od p1 p2 p3 p4 p5 p6 p7 p8 p9 p10 x then RZ p1 p2 p3 p4 p5 p6 p7 p8 p9 p10 x else .bad) many x
abbrev Kv {α:Type}(k:Int→Z'→Int→Int→Z'→Int→Pos→Pos→(BitVec 64)→(BitVec 64)→(Int×M')→α)(s:St):α:=wP s 0 fun q0=>wP s 1 fun q1=>k (tI (tT s 4)) (tL (ET.i .i64) (tT s 10)) (tI (tT s 11)) (tI (tT s 12)) (tL (ET.i .i64) (tT s 19)) (tI (tT s 20)) q0 q1 (tU (tH s 1 10)) (tU (tH s 1 11)) ((tI (tT s 21)),(tL (ET.mv) (tH s 2 0)))
theorem X5 (p1:Int)(p2:Z')(p3:Int)(p4:Int)(p5:Z')(p6:Int)(p7:Pos)(p8:Pos)(p9:(BitVec 64))(p10:(BitVec 64))(x:(Int×M'))(r:(Int×Bool×M'))(h:pD p1 p2 p3 p4 p5 p6 p7 p8 p9 p10 x=some r):aC Pz (bc Pz 235 4) (Q9 p1 p2 p3 p4 p5 p6 p7 p8 p9 p10 x) (PF p1 p2 p3 p4 p5 p6 p7 p8 p9 p10 r):=smq (m:=12) (fn:=235) Sl (Kv fun _ _ _ _ _ _ _ _ _ _ x=>some x) (fun o=>match o with | .exit 2 s=>some ((tI (tT s 21)),(tB (tT s 22)),(tL ET.mv (tH s 2 0)))|_=>none) many x r h
def Ey (b:Code)(s:St):Tr Out:=Kv (fun p1 p2 p3 p4 p5 p6 p7 p8 p9 p10 x=>jS b (bc Pz 235 4) s (Q9 p1 p2 p3 p4 p5 p6 p7 p8 p9 p10 x) (pD p1 p2 p3 p4 p5 p6 p7 p8 p9 p10 x) (PF p1 p2 p3 p4 p5 p6 p7 p8 p9 p10)) s
theorem Gi:∀b,aT Pz b (Ey b):=fun _ _ _ h=>bF (X5 _ _ _ _ _ _ _ _ _ _ _) h
def Zk:ar:=bO Pz TT [(134,IM),(135,jt),(142,jm),(236,Oj),(265,JT),(266,PY)] [(237,4,A6),(235,4,Ey)] []
theorem Sf:aO Zk:=af ae ⟨LA,jQ,jv,Rl,Mk,TX,trivial⟩ ⟨Am,Gi,trivial⟩ trivial
def O8 (p1:Z')(p2:Int)(p3:Pos)(p4:Pos)(p5:(BitVec 64))(p6:(BitVec 64))(x:(Int×M')):St:=St.mk (.yield 0::.ptr 3 0::(an 8 (.list (ET.i .i64) p1 .fresh::.int .i64 p2::.int .i64 x.1::(an 24 [])))) (Hp.mk [(pc p3 []),(pc p4 [.u64 p5,.u64 p6]),[.list .mv x.2 (.own 1)],(pc p4 [.u64 p5,.u64 p6])] [0,x.2.length] [eF.mk 0 none 131 (an 5 (.ptr 2 0::(an 9 (.func 235 [] [.ptr 3 0]::(an 6 []))))) [16] (sr Pz 131 7) (sF Pz 131 7)] 0 0 0)
def Q8 (p1:Z')(p2:Int)(p3:Pos)(p4:Pos)(p5:(BitVec 64))(p6:(BitVec 64)):(Int×Bool×M')→Out:=fun y=>.exit 0 (St.mk (.yield 0::.ptr 3 0::(an 8 (.list (ET.i .i64) p1 .fresh::.int .i64 p2::.int .i64 y.1::.bool y.2.1::(an 23 [])))) (Hp.mk [(pc p3 []),(pc p4 [.u64 p5,.u64 p6]),[.list .mv y.2.2 (.own 1)],(pc p4 [.u64 p5,.u64 p6])] [0,y.2.2.length] [eF.mk 0 none 131 (an 5 (.ptr 2 0::(an 9 (.func 235 [] [.ptr 3 0]::(an 6 []))))) [16] (sr Pz 131 7) (sF Pz 131 7)] 0 0 0))
def Vj (p1:Z')(p2:Int)(p3:Pos)(p4:Pos)(p5:(BitVec 64))(p6:(BitVec 64))(x:(Int×M')):aG (Int×M') ((Int×Bool×M')):=(bif decide (x.1<p2)then(aG.go (wr .i64 (x.1+1),((pD (p1.getD x.1.toNat default) p1 p2 x.1 (gw (iC (p4,p5,p6) (p1.getD x.1.toNat default))) (Int.ofNat (gw (iC (p4,p5,p6) (p1.getD x.1.toNat default))).length) p3 p4 p5 p6 (0,x.2)).getD default).2.2))else(aG.out ((x.1,decide (x.1<p2),x.2))))
def Pj (p1:Z')(p2:Int)(p3:Pos)(p4:Pos)(p5:(BitVec 64))(p6:(BitVec 64))(x:(Int×M')):Bool:=(bif decide (x.1<p2)then(decide (0≤x.1)&&decide (x.1<Int.ofNat p1.length)&&(CJ ((p4,p5,p6)) (p1.getD x.1.toNat default)&&(oZ (iC (p4,p5,p6) (p1.getD x.1.toNat default))&&((pD (p1.getD x.1.toNat default) p1 p2 x.1 (gw (iC (p4,p5,p6) (p1.getD x.1.toNat default))) (Int.ofNat (gw (iC (p4,p5,p6) (p1.getD x.1.toNat default))).length) p3 p4 p5 p6 (0,x.2)).isSome&&true))))else true)
def o7 (p1:Z')(p2:Int)(p3:Pos)(p4:Pos)(p5:(BitVec 64))(p6:(BitVec 64))(x:(Int×M')):Option ((Int×Bool×M')):=cW (fun x=>bif Pj p1 p2 p3 p4 p5 p6 x then Vj p1 p2 p3 p4 p5 p6 x else .bad) many x
abbrev Ku {α:Type}(k:Z'→Int→Pos→Pos→(BitVec 64)→(BitVec 64)→(Int×M')→α)(s:St):α:=wP s 0 fun q0=>wP s 1 fun q1=>k (tL (ET.i .i64) (tT s 10)) (tI (tT s 11)) q0 q1 (tU (tH s 1 10)) (tU (tH s 1 11)) ((tI (tT s 12)),(tL (ET.mv) (tH s 2 0)))
theorem abW (p1:Z')(p2:Int)(p3:Pos)(p4:Pos)(p5:(BitVec 64))(p6:(BitVec 64))(x:(Int×M'))(r:(Int×Bool×M'))(h:o7 p1 p2 p3 p4 p5 p6 x=some r):aC Pz (bc Pz 235 1) (O8 p1 p2 p3 p4 p5 p6 x) (Q8 p1 p2 p3 p4 p5 p6 r):=smq (m:=12) (fn:=235) Sf (Ku fun _ _ _ _ _ _ x=>some x) (fun o=>match o with | .exit 0 s=>some ((tI (tT s 12)),(tB (tT s 13)),(tL ET.mv (tH s 2 0)))|_=>none) many x r h
def Np (b:Code)(s:St):Tr Out:=Ku (fun p1 p2 p3 p4 p5 p6 x=>jS b (bc Pz 235 1) s (O8 p1 p2 p3 p4 p5 p6 x) (o7 p1 p2 p3 p4 p5 p6 x) (Q8 p1 p2 p3 p4 p5 p6)) s
theorem RN:∀b,aT Pz b (Np b):=fun _ _ _ h=>bF (abW _ _ _ _ _ _ _) h
def aoY:ar:=bO Pz TT [(134,IM),(135,jt),(142,jm),(236,Oj),(265,JT),(266,PY)] [(237,4,A6),(235,4,Ey),(235,1,Np)] []
theorem ago:aO aoY:=af ae ⟨LA,jQ,jv,Rl,Mk,TX,trivial⟩ ⟨Am,Gi,RN,trivial⟩ trivial
def ep (a:Pos):M':=(bif !(jl a).2 then([])else(((o7 (gw (jl a).1.2.1) (Int.ofNat (gw (jl a).1.2.1).length) a (jl a).1.1 (jl a).1.2.1 (jl a).1.2.2 (0,[])).getD default).2.2))
def yv (a:Pos):Bool:=(Cd a&&(bif !(jl a).2 then true else(oZ ((jl a).1.2.1)&&((o7 (gw (jl a).1.2.1) (Int.ofNat (gw (jl a).1.2.1).length) a (jl a).1.1 (jl a).1.2.1 (jl a).1.2.2 (0,[])).isSome&&true))))
theorem arw (a:Pos)(h:yv a=true):PS Pz 131 [Pos.av a] ((dL .mv).res (ep a)):=pq14 ago h
def Zv:GT:=g1 aZ (fun a=>b7 (yv a) ((dL .mv).res (ep a)))
theorem afK:Sound Pz 131 Zv:=aH fun a=>aA (arw a)
end Kz
namespace Kz
open Go
theorem iu (i:Int):scale 1 i=i:=rfl
theorem j6 {α β:Type}{l:List α}{i:Nat}(d:α)(g:α→List β)(h:i<l.length):(l.take (i+1)).flatMap g=(l.take i).flatMap g++g (l.getD i d):=by rw[List.take_succ_eq_append_getElem h,List.flatMap_append,List.getD_eq_getElem?_getD,I' h];simp
theorem iD {α β:Type}(l:List α)(g:α→List β)(c:Nat)(h:∀a∈l,(g a).length≤c):(l.flatMap g).length≤c*l.length:=by
 induction l with
 |nil=>simp
 |cons a l ih =>rw[List.flatMap_cons,List.length_append,List.length_cons];grind
structure ax (p:Pos):Prop where
 v0:0≤p.variant
 v1:p.variant≤255
 bl:p.ab.length=64
 b0:∀x∈p.ab,0≤x∧x≤255
 kl:p.ah.length=12
 k0:∀x∈p.ah,0≤x∧x≤255
 t0:0≤p.aa
 t1:p.aa≤255
 rl:p.ao.length=4
 r0:∀x∈p.ao,-128≤x∧x≤127
 p0 : -128≤p.az
 p1:p.az≤127
 cl:p.au.length=2
 c0:∀x∈p.au,0≤x∧x≤255
 h0 : -9223372036854775808≤p.half∧p.half≤9223372036854775807
 f0 : -9223372036854775808≤p.full∧p.full≤9223372036854775807
theorem t178 {a:Int}(ha:0≤a):xH a=true:=by unfold xH;grind
def jy (v:Int):List Int:=if 0≤v∧v≤7 then(if v=4 then[2,3,4,5,6]else[2,3,4,5])else[]
theorem zz {v:Int}(hv:0≤v):Cl v=true∧Cs v=jy v:=by
 by_cases h:v<9
 ·have:v=0∨v=1∨v=2∨v=3∨v=4∨v=5∨v=6∨v=7∨v=8:=by omega
  rcases this with rfl|rfl|rfl|rfl|rfl|rfl|rfl|rfl|rfl<;>exact⟨by decide +kernel,by decide +kernel⟩
 ·have h9:(xn v).2.2.2.2.2.2=0:=by unfold xn;rw[show decide (v≥9)=true by simp;omega];rfl
  have hl:qq v 0 ([],2)=some ([],2,false):=by
   show cW _ 4294967296 _=_;rw[cW];have hok:vR v 0 ([],2)=true:=by unfold vR;refine ak (t178 hv) fun _=>?_;rw[h9];rfl
   have hst:zy v 0 ([],2)=.out ([],2,false):=by unfold zy;rw[h9];rfl
   rw[hok,cond_true,hst]
  constructor
  ·unfold Cl;rw[hl];rfl
  ·unfold Cs jy;grind
theorem KI {v k:Int}(h:k∈jy v):2≤k∧k≤6:=by unfold jy at h;grind
theorem yO (v:Int):(jy v).length≤5:=by
 unfold jy;split
 ·split<;>simp
 ·simp
theorem Zq (l:List Int)(p3 p4:Pos)(p5 p6:BitVec 64)(p7 m0:Mv)(out:M')(hl:l.length≤5)(ho:out.length≤1000000) :
  ∃r,oY l (Int.ofNat l.length) p3 p4 p5 p6 p7 (0,out,m0)=some r∧r.2.2.1=out++l.flatMap fun k=>[⟨m0.aD,m0.to,k,m0.bh,m0.bZ⟩]:=by
 refine aQ (I:=fun x=>0≤x.1∧x.1≤(l.length:Int)∧x.2.1=out++(l.take x.1.toNat).flatMap (fun k=>[⟨m0.aD,m0.to,k,m0.bh,m0.bZ⟩])∧x.2.2.aD=m0.aD∧x.2.2.to=m0.to∧x.2.2.bh=m0.bh∧x.2.2.bZ=m0.bZ) (μ:=fun x=>((l.length:Int)-x.1).toNat) ?_ _ (by simp_all) (by simp;omega);rintro⟨n,o,m⟩ ⟨h0,h1,h2,e1,e2,e3,e4⟩;simp only at h0 h1 h2 e1 e2 e3 e4;have hlen:o.length≤out.length+5:=by
  have:=iD (l.take n.toNat) (fun k=>[(⟨m0.aD,m0.to,k,m0.bh,m0.bZ⟩:Mv)]) 1 fun _ _=>by simp
  have h5:(l.take n.toNat).length≤5:=by rw[List.length_take];omega
  rw[h2,List.length_append];omega
 refine⟨aq (fun hc=>ak ?_ (by grind)) fun _=>rfl,al (fun hc=>?_) fun hc=>?_⟩
 ·simpa[h0]using hc
 ·have hc:n<l.length:=by simpa using hc
  have hw:wr .i64 (n+1)=n+1:=aF (by omega) (by omega);refine⟨⟨?_,?_,?_,e1,e2,e3,e4⟩,?_⟩
  ·grind
  ·grind
  ·show o++_=out++(l.take (wr .i64 (n+1)).toNat).flatMap _;rw[hw,show(n+1).toNat=n.toNat+1 by omega,j6 default _ (by omega),h2,List.append_assoc,e1,e2,e3,e4]
  grind
 ·have hc:¬n<l.length:=by simpa using hc
  show o=_;rw[h2,List.take_of_length_le (by omega)]
def xz (p:Pos)(f t:Int):M' :=
 bif di (p.ab.getD f.toNat 0) != 1 then[⟨f,t,0,0,false⟩]else bif lG p.aa t != 7 then[⟨f,t,0,0,false⟩]else(jy p.variant).flatMap fun k=>[⟨f,t,k,0,false⟩]
theorem FZ (p:Pos)(f t:Int):(xz p f t).length≤5:=by
 unfold xz;refine al (P:=fun l:M'=>l.length≤5) (fun _=>by simp) fun _=>al (P:=fun l:M'=>l.length≤5) (fun _=>by simp) fun _=>?_;have:=yO p.variant;have h2:=iD (jy p.variant) (fun k=>[(⟨f,t,k,0,false⟩:Mv)]) 1 fun _ _=>by simp
 omega
theorem aas (f:Int)(p2:List Int)(p3 p4:Int)(l:List Int)(p7 p:Pos)(p9 p10:BitVec 64)(out:M')(hf0:0≤f)(hf1:f<64)(hv:0≤p.variant)(hl:l.length≤64)(hm:∀t∈l,0≤t∧t<64)(ho:out.length≤100000) :
  ∃r,pD f p2 p3 p4 l (Int.ofNat l.length) p7 p p9 p10 (0,out)=some r∧r.2.2=out++l.flatMap (xz p f):=by
 refine aQ (I:=fun x=>0≤x.1∧x.1≤(l.length:Int)∧x.2=out++(l.take x.1.toNat).flatMap (xz p f)∧(x.2.length:Int)≤out.length+5*x.1) (μ:=fun x=>((l.length:Int)-x.1).toNat) ?_ _ (by simp_all) (by simp;omega);rintro⟨n,o⟩ ⟨h0,h1,h2,h3⟩;simp only at h0 h1 h2 h3;have hwf:wr .i8 f=f:=Kk (by omega) (by omega);have hfl:=fun (b:M') (hb:b.length≤100320) (m:Mv)=>Zq (jy p.variant) p7 p p9 p10 m m b (yO _) (by omega);have hlen:o.length≤100320:=by omega
 have hstep:n<l.length→xf (fun x:Int×M'=>0≤x.1∧x.1≤l.length∧x.2=out++(l.take x.1.toNat).flatMap (xz p f)∧x.2.length≤out.length+5*x.1) (fun r:Int×Bool×M'=>r.2.2=out++l.flatMap (xz p f)) (fun x=>(l.length-x.1).toNat) (l.length-n).toNat (.go (wr .i64 (n+1),o++xz p f (l.getD n.toNat default))):=by
  intro hc;have hw:wr .i64 (n+1)=n+1:=aF (by omega) (by omega);have hq:=FZ p f (l.getD n.toNat default);rw[hw];refine⟨⟨by simp;omega,by simp;omega,?_,?_⟩,by simp;omega⟩
  ·simp only;rw[show(n+1).toNat=n.toNat+1 by omega,j6 default _ (by omega),h2,List.append_assoc]
  ·grind
 refine⟨aq (fun hc=>ak ?_ fun _=>ak ?_ fun _=>?_) fun _=>rfl,al (fun hc=>?_) fun hc=>?_⟩
 ·simpa[h0]using hc
 ·simp[hwf];omega
 ·refine aq (by grind) fun _=>aq (by grind) fun _=>ak (zz hv).1 fun _=>ak ?_ fun _=>rfl;rw[(zz hv).2];exact(aJ (hfl o hlen _)).1
 ·have hc:n<l.length:=by simpa using hc
  have ht:=hm _ (eD (d:=default) (show n.toNat<l.length by omega));have hwt:wr .i8 (l.getD n.toNat default)=l.getD n.toNat default:=Kk (by omega) (by omega);have hs:=hstep hc;rw[hwf,hwt,aF (n:=l.getD n.toNat default) (by omega) (by omega)];refine al (fun h4=>?_) fun h4=>al (fun h5=>?_) fun h5=>?_
  ·simp only[iu]at h4;have e:xz p f (l.getD n.toNat default)=[⟨f,l.getD n.toNat default,0,0,false⟩]:=by unfold xz;rw[h4];rfl
   simp_all
  ·simp only[iu]at h4;have e:xz p f (l.getD n.toNat default)=[⟨f,l.getD n.toNat default,0,0,false⟩]:=by unfold xz;rw[h4,h5];rfl
   simp_all
  ·simp only[iu]at h4;have e:xz p f (l.getD n.toNat default)=(jy p.variant).flatMap fun k=>[⟨f,l.getD n.toNat default,k,0,false⟩]:=by unfold xz;rw[h4,h5];rfl
   rw[e]at hs;rw[(zz hv).2,(aJ (hfl o hlen _)).2];exact hs
 ·have hc:¬n<l.length:=by simpa using hc
  show o=_;rw[h2,List.take_of_length_le (by omega)]
theorem aum (a:Pos×BitVec 64×BitVec 64)(b:Int):Hc a b=true:=ak (t146 _ _) fun _=>rfl
theorem t236 (a:Pos×BitVec 64×BitVec 64){b:Int}(h0:0≤b)(h1:b<64):CJ a b=true:=by unfold CJ;refine ak (by simp;omega) fun _=>?_;repeat' (first|with_reducible rfl|with_reducible exact aum _ _|with_reducible exact ad4 _|with_reducible exact ab0 _ _|with_reducible exact Z7 _ _|with_reducible exact afD _ _|with_reducible exact t199 _|refine ak ?_ (fun _=>?_)|refine aq (fun _=>?_) (fun _=>?_))
theorem jO {b:BitVec 64}{s:Int}(h:s∈gF b 64):0≤s∧s<64:=by obtain⟨i,h1,_,rfl⟩:=qd.1 h;omega
def pz (p:Pos)(x:Pos×BitVec 64×BitVec 64)(f:Int):M':=(gF (iC x f) 64).flatMap (xz p f)
theorem xJ (p:Pos)(x:Pos×BitVec 64×BitVec 64)(f:Int):(pz p x f).length≤320:=by have h1:=iD (gF (iC x f) 64) (xz p f) 5 fun t _=>FZ p f t;have h2:=dC (iC x f) 64;unfold pz;omega
theorem O7 (b:BitVec 64)(p3 p:Pos)(p5 p6:BitVec 64)(hv:0≤p.variant) :
  ∃r,o7 (gF b 64) (Int.ofNat (gF b 64).length) p3 p p5 p6 (0,[])=some r∧r.2.2=(gF b 64).flatMap (pz p (p,p5,p6)):=by
 have hl:=dC b 64;have hin:∀s∈gF b 64,0≤s∧s<64:=fun s hs=>jO hs;generalize gF b 64=l at hl hin;refine aQ (I:=fun x=>0≤x.1∧x.1≤(l.length:Int)∧x.2=(l.take x.1.toNat).flatMap (pz p (p,p5,p6))∧(x.2.length:Int)≤320*x.1) (μ:=fun x=>((l.length:Int)-x.1).toNat) ?_ _ (by simp_all) (by simp;omega);rintro⟨n,o⟩ ⟨h0,h1,h2,h3⟩;simp only at h0 h1 h2 h3;by_cases hc:n<l.length
 ·have hf:=hin _ (eD (d:=default) (show n.toNat<l.length by omega));have hs:=dC (iC (p,p5,p6) (l.getD n.toNat default)) 64;have hb:=aJ (aas (l.getD n.toNat default) l (Int.ofNat l.length) n (gF (iC (p,p5,p6) (l.getD n.toNat default)) 64) p3 p p5 p6 o hf.1 hf.2 hv (by omega) (fun t ht=>jO ht) (by omega));refine⟨aq (fun _=>ak (by simp[h0];omega) fun _=>ak (t236 _ hf.1 hf.2) fun _=>ak (t142 _) fun _=>ak ?_ fun _=>rfl) fun _=>rfl,al (fun _=>?_) fun h=>?_⟩
  ·rw[dy];exact hb.1
  ·have hw:wr .i64 (n+1)=n+1:=aF (by omega) (by omega);have hq:=xJ p (p,p5,p6) (l.getD n.toNat default);rw[dy,hb.2,hw];refine⟨⟨by simp;omega,by simp;omega,?_,?_⟩,by simp;omega⟩
   ·simp only;rw[show(n+1).toNat=n.toNat+1 by omega,j6 default _ (by omega),h2];rfl
   ·simp only[List.length_append];show((o.length+(pz p (p,p5,p6) (l.getD n.toNat default)).length:Nat):Int)≤_;omega
  simp_all
 ·refine⟨aq (fun h=>absurd h (by simpa using hc)) fun _=>rfl,al (fun h=>absurd h (by simpa using hc)) fun _=>?_⟩;show o=_;rw[h2,List.take_of_length_le (by omega)]
theorem t134 (p:Pos):Cd p=true:=aq (fun _=>rfl) fun _=>aq (fun _=>rfl) fun _=>ak (t147 _ _ _) fun _=>ak (t147 _ _ _) fun _=>rfl
def own (p:Pos):BitVec 64:=aS p p.aa 0
def ov (p:Pos):BitVec 64:=aS p (wr .u8 (1-p.aa)) 0
def there (p:Pos):Prop:=p.aa≤1∧p.variant<9
theorem lf {p:Pos}(h:there p):jl p=((p,own p,ov p),true):=by unfold jl;rw[show decide (p.aa>1)=false by have:=h.1;simp;omega,show decide (p.variant≥9)=false by have:=h.2;simp;omega];rfl
theorem Cy {p:Pos}(h:¬there p):(jl p).2=false:=by unfold jl;unfold there at h;grind
theorem t131 {p:Pos}(hv:0≤p.variant):yv p=true:=by
 unfold yv;refine ak (t134 p) fun _=>aq (fun _=>rfl) fun h=>ak (t142 _) fun _=>ak ?_ fun _=>rfl;by_cases ht:there p
 ·rw[lf ht,dy];exact(aJ (O7 _ _ _ _ _ hv)).1
 ·rw[Cy ht]at h;cases h
theorem ll {p:Pos}(hv:0≤p.variant)(h:there p):ep p=(gF (own p) 64).flatMap (pz p (p,own p,ov p)):=by unfold ep;rw[lf h,dy];exact(aJ (O7 _ _ _ _ _ hv)).2
theorem Ds {p:Pos}(h:¬there p):ep p=[]:=by unfold ep;rw[Cy h];rfl
theorem hY {p:Pos}(hv:0≤p.variant):(ep p).length≤20480:=by
 by_cases h:there p
 ·rw[ll hv h];have h1:=iD (gF (own p) 64) (pz p (p,own p,ov p)) 320 fun f _=>xJ _ _ _;have h2:=dC (own p) 64;omega
 ·rw[Ds h];simp
theorem gC {p:Pos}(hv:0≤p.variant){m:Mv}(h:m∈ep p):there p∧∃f t:Nat,f<64∧t<64∧m.aD=f∧m.to=t∧m.bh=0∧m.bZ=false∧0≤m.bU∧m.bU≤6∧(own p).getLsbD f=true∧(iC (p,own p,ov p) f).getLsbD t=true:=by
 by_cases ht:there p
 ·rw[ll hv ht]at h;refine⟨ht,?_⟩;simp only[List.mem_flatMap,pz]at h;obtain⟨f,hf,t,htt,hm⟩:=h;obtain⟨f,hf1,hf2,rfl⟩:=qd.1 hf;obtain⟨t,ht1,ht2,rfl⟩:=qd.1 htt;refine⟨f,t,hf1,ht1,?_⟩;have key:m.aD=f∧m.to=t∧m.bh=0∧m.bZ=false∧0≤m.bU∧m.bU≤6:=by
   unfold xz at hm;revert hm;refine al (P:=fun l:M'=>m∈l→_) (fun _ hm=>?_) fun _=>al (P:=fun l:M'=>m∈l→_) (fun _ hm=>?_) fun _ hm=>?_
   ·simp_all
   ·simp_all
   ·obtain⟨k,hk,hm⟩:=List.mem_flatMap.1 hm;have:=KI hk;grind
  simp_all
 ·rw[Ds ht]at h;cases h
end Kz
namespace Kz
open Go Go.RowKit Go.WideShapes Go.ChangeShapes Go.Proofs
def Fits:List IntKind→List Value→Prop
 | [],[]=>True
 |k::ks,v::vs=>(∃z,v=.int k z∧k.has z)∧Fits ks vs
 |_,_=>False
theorem F4:∀(kl:List IntKind) (l:List Value),l.length=kl.length→(∀(i:Nat) (k:IntKind) (v:Value),kl[i]?=some k→l[i]?=some v→∃z,v=.int k z∧k.has z)→Fits kl l
 | [],[],_,_=>trivial
 | [],_::_,h,_=>by simp at h
 |_::_,[],h,_=>by simp at h
 |k::ks,v::vs,h,hs=>⟨hs 0 k v rfl rfl,F4 ks vs (by simpa using h) fun i k' v' h1 h2=>hs (i+1) k' v' (by simpa using h1) (by simpa using h2)⟩
theorem mE {k:IntKind}{ks:List IntKind}:∀(n:Nat) (l:List Value),Fits (List.replicate n k++ks) l→∃(zs:List Int) (l':List Value),zs.length=n∧(∀z∈zs,k.has z)∧l=zs.map (Value.int k)++l'∧Fits ks l'
 | 0,l,h=>by simp_all
 |n+1,[],h=>by simp[List.replicate_succ,Fits]at h
 |n+1,v::l,h=>by
  rw[List.replicate_succ,List.cons_append]at h
  obtain⟨⟨z,rfl,hz⟩,h⟩:=h
  obtain⟨zs,l',h1,h2,rfl,h4⟩:=mE n l h
  exact⟨z::zs,l',by simp[h1],by simp_all,rfl,h4⟩
theorem kq {k:IntKind}{ks:List IntKind}{l:List Value}(h:Fits (k::ks) l):∃z l',k.has z∧l=Value.int k z::l'∧Fits ks l':=by
 cases l with
 |nil=>exact h.elim
 |cons v l=>obtain⟨⟨z,rfl,hz⟩,h⟩:=h;grind
theorem Nh {l:List Value}(h:Fits [] l):l=[]:=by
 cases l with
 |nil=>rfl
 |cons v l=>exact h.elim
def pG:List IntKind := .u8::(List.replicate 64 .u8++.u64::(List.replicate 12 .u8++.u8::(List.replicate 4 .i8++.i8::(List.replicate 2 .u8++[.i64,.i64]))))
theorem oz {n:Int}(h:IntKind.has .u8 n):0≤n∧n≤255:=by simpa[IntKind.has,IntKind.min,IntKind.max,IntKind.signed,IntKind.bits]using h
theorem FE {n:Int}(h:IntKind.has .i8 n) : -128≤n∧n≤127:=by simpa[IntKind.has,IntKind.min,IntKind.max,IntKind.signed,IntKind.bits]using h
theorem G7 {n:Int}(h:IntKind.has .i64 n) : -9223372036854775808≤n∧n≤9223372036854775807:=by simpa[IntKind.has,IntKind.min,IntKind.max,IntKind.signed,IntKind.bits]using h
theorem RS {n:Int}(h:IntKind.has .u64 n):0≤n∧n≤18446744073709551615:=by simpa[IntKind.has,IntKind.min,IntKind.max,IntKind.signed,IntKind.bits]using h
theorem JB {l:List Value}(h:Fits pG l):∃p,ax p∧∀(g:Gh) (tk:List Nat) (w:World),ay g tk w (bf (Pos.av p)) l:=by
 obtain⟨v,l1,hv,rfl,h1⟩:=kq h;obtain⟨bd,l2,bl,hb,rfl,h2⟩:=mE 64 _ h1;obtain⟨pr,l3,hpr,rfl,h3⟩:=kq h2;obtain⟨pk,l4,kl,hk,rfl,h4⟩:=mE 12 _ h3;obtain⟨tn,l5,htn,rfl,h5⟩:=kq h4;obtain⟨rk,l6,rl,hr,rfl,h6⟩:=mE 4 _ h5;obtain⟨ps,l7,hps,rfl,h7⟩:=kq h6;obtain⟨ck,l8,cl,hc,rfl,h8⟩:=mE 2 _ h7;obtain⟨hf,l9,hhf,rfl,h9⟩:=kq h8;obtain⟨fl,l0,hfl,rfl,h0⟩:=kq h9;obtain rfl:=Nh h0;have hpr:=RS hpr;have e:((BitVec.ofInt 64 pr).toNat:Int)=pr:=by rw[BitVec.toNat_ofInt];omega
 refine⟨⟨v,bd,BitVec.ofInt 64 pr,pk,tn,rk,ps,ck,hf,fl⟩,⟨(oz hv).1,(oz hv).2,bl,fun x hx=>oz (hb x hx),kl,fun x hx=>oz (hk x hx),(oz htn).1,(oz htn).2,rl,fun x hx=>FE (hr x hx),(FE hps).1,(FE hps).2,cl,fun x hx=>oz (hc x hx),G7 hhf,G7 hfl⟩,fun g tk w=>?_⟩;refine .one rfl (.int _ _) (.ints bl rfl (.one rfl ?_ (.ints kl rfl (.one rfl (.int _ _) (.ints rl rfl (.one rfl (.int _ _) (.ints cl rfl (.one rfl (.int _ _) (.one rfl (.int _ _) .nil)))))))));have:=aM.u64 (g:=g) (tk:=tk) (w:=w) (BitVec.ofInt 64 pr);rwa[e]at this
def AR (P:Program)(t:TypeId):Option (List (Option IntKind)):=(P.cellTypes P.depth t).map fun ts=>ts.map fun u=>match P.underlying u with
 |some (.int k)=>some k
 |_=>none
theorem ke {P:Program}{W:World}{r:Reach}{base:Nat}{u:TypeId}{k:IntKind}{v:Value}(hu:P.underlying u=some (.int k))(h:Cell.okWide P W r base u v):∃z,v=.int k z∧k.has z:=by unfold Cell.okWide at h;rw[hu]at h;simp only at h;unfold Cell.ok at h;grind
theorem OG {P:Program}{W:World}{r:Reach}{base:Nat}{t:TypeId}{cs:Array Value}{kl:List IntKind}(hk:AR P t=some (kl.map some))(hs:cs.size=kl.length)(h:Row.okWide P W r base t cs):Fits kl cs.toList:=by
 obtain⟨ts,h1,_,h3⟩:=h;unfold AR at hk;rw[h1]at hk;simp only[Option.map_some,A']at hk;have hl:ts.length=kl.length:=by simpa using congrArg List.length hk
 refine F4 _ _ (by simpa using hs) fun i k v hi hv=>?_;obtain⟨u,hu,hc⟩:=h3 i v (by simpa using hv);have hlt:i<kl.length:=(C'.1 hi).1;rw[Nat.mod_eq_of_lt (by omega)]at hu;have hx:=congrArg (fun l=>l[i]?) hk;simp only[List.getElem?_map,hu,hi,Option.map_some,A']at hx;cases hun:P.underlying u with
 |none=>simp_all
 |some d =>rw[hun]at hx;cases d<;>simp at hx;subst hx;exact ke hun hc
theorem TV:AR Pz 31=some (pG.map some):=by kernel_rfl
theorem Fi:(match Pz.underlying 31 with
 |some (.struct _)=>true
 |_=>false)=true:=by kernel_rfl
theorem I5:Pz.cellsOf 31=pG.length:=by kernel_rfl
theorem I7:laidOutB Pz=true:=by kernel_rfl
theorem acj:Pz.readableRec 31=true:=by kernel_rfl
theorem akb:31<Pz.types.size:=by simp_all
theorem CN {W:World}{r:Reach}{base:Nat}{v:Value}(h:Value.okWide Pz W r base 31 v):∃p,ax p∧∀(g:Gh) (tk:List Nat) (w:World),aM g tk w (Pos.av p) v:=by
 unfold Value.okWide at h;have hs:=Fi;cases hu:Pz.underlying 31 with
 |none=>rw[hu]at hs;cases hs
 |some d =>rw[hu]at hs h;cases d<;>simp at hs;obtain⟨cs,rfl,h2,h3⟩:=h;obtain⟨p,h4,h5⟩:=JB (OG TV (h2.trans I5) h3);exact⟨p,h4,fun g tk w=>.agg (h5 g tk w)⟩
theorem Ec {W:World}{g:Nat}{k:IntKind}{name:String}{zs:List Int}(hk:k≠.i8)(hg:Pz.globalNamed name=some g)(h:Lib.TabIs Pz W name k zs):oe (cH W) W (g,k,some zs):=by
 refine⟨fun hi=>(by cases hi.2),fun _=>?_⟩;have hc:∀j:Nat,j<zs.length→W.cell? ⟨g,j,none⟩=some (.int k (zs.getD j 0)):=fun j hj=>h.cell hg j hj;unfold Lib.TabIs World.var? at h;rw[hg]at h;simp only[Option.bind_some]at h;cases hb:W.heap[g]? with
 |none=>rw[hb]at h;cases h
 |some o =>
  rw[hb]at h;cases o with
  |cells cs t fr =>
   have e:cs=(zs.map (Value.int k)).toArray:=Option.some.inj h;subst e;have hlt:g<W.heap.size:=by grind
   refine⟨zs,by simp_all,fun e=>(by cases e),fun j x hj=>⟨?_,hlt⟩,hlt,t,fr,(by first|exact hb|rfl)⟩;grind
  |_=>cases h
theorem I9 {W:World}{g:Nat}{k:IntKind}{name:String}{zs:List Int}(hz:vm=[(g,k,zs)])(hz2:NB=[])(hz3:Y6=[])(hk:k≠.i8)(hg:Pz.globalNamed name=some g)(h:Lib.TabIs Pz W name k zs):cN W:=by intro pr hpr;unfold um at hpr;rw[hz,hz2,hz3]at hpr;obtain rfl:=List.mem_singleton.1 hpr;exact Ec hk hg h
noncomputable section
variable {H:Type}{enc:TypeId×Value→H}{P:Program}
theorem xg {f:Func}{s:ChangeSpec}{apart fresh handsOn again:Bool}{W W':World}{args:Array Value}{v:Value}{ds gs:List (DataW H)}{before pa pv:List MemPlace}
  (hW:DataW.Whole enc P f.params.toList s.vars apart W args.toList ds gs before)
  (hres:∀(b:Nat) (sp:Nat→Bool) (hd:Bool),DataW.TrodAll enc P W' b sp hd f.resultTypes.toList (v.resultList f.resultTypes.size) (s.fn H (ds++gs)).results [])
  (hargs:∀sp:Nat→Bool,(∀p∈before,sp p.block=true)→DataW.TrodAll enc P W' 0 sp true f.params.toList args.toList (s.fn H (ds++gs)).args pa)
  (hvars:∀sp:Nat→Bool,(∀p∈before,sp p.block=true)→DataW.TrodVars enc P W' sp s.vars (s.fn H (ds++gs)).vars pv)
  (hps:before=pa++pv) (hb:RowKit.Below W.heap.size W W')
  (hok:∀(j:Nat) (t:TypeId) (r:Value),f.resultTypes[j]?=some t→(v.resultList f.resultTypes.size)[j]?=some r→Value.okWide P W' .any 0 t r) :
  s.post enc P f apart fresh handsOn again W args v W':=by
 have hlt:∀p∈before,p.block<W.heap.size:=fun p hp=>hW.lt p hp;have hold:∀p∈before,(fun b=>decide (b<W.heap.size)) p.block=true:=by simp_all
 refine⟨ds,gs,before,[],pa,pv,hW,hres _ _ _,hargs _ hold,hvars _ hold,World.keptBut_mono (fun p hp=>⟨hp,?_⟩) (hb.frame (· ∈ before)),fun _=>?_⟩
 ·simp_all
 ·obtain⟨_,_,_,_,_,hz,hn⟩:=hW;refine⟨hok,_,_,([]++pa)++pv,⟨[]++pa,pv,trodAll_append (hargs _ (fun _ _=>rfl)) (hres _ _ _),hvars _ (fun _ _=>rfl),rfl,?_,?_⟩,?_⟩
  ·intro b off hp;have hin:MemPlace.cell b off∈before:=by rw[hps];simpa using hp
   rw[hb.frozen (hlt _ hin)];exact hz b off hin
  ·simp_all
  simp_all
end
end Kz
namespace Kz
open Go Go.RowKit Go.WideShapes Go.ChangeShapes Go.ChangeAt Go.Proofs Go.Proofs.YtgbndomcmihfkaaGreatDoor
theorem Xv:ownKnob Tryz.prog.godebug=none:=by kernel_rfl
theorem gBr : Tryz.prog.globalNamed "math/bits.deBruijn64tab" = some 0 := by kernel_rfl
theorem Vf:(Tryz.prog.globals[0]?).map (·.type)=some 22:=by kernel_rfl
theorem Rg:Tryz.prog.cellsOf 22=64:=by kernel_rfl
theorem Yd:Tryz.prog.cellsOf 5=1:=by kernel_rfl
theorem SU:Tryz.prog.underlying 22=some (.array 64 5):=by kernel_rfl
theorem DU:Tryz.prog.underlying 5=some (.int .u8):=by kernel_rfl
theorem E8:Tryz.prog.underlying 4=some .bool:=by kernel_rfl
abbrev GB : List (String × DataW Unit) := [("math/bits.deBruijn64tab", Rows.laid_math_bits_deBruijn64tab)]
def A7:List Int:=(vm.headD (0,.u8,[])).2.2
theorem table {W : World} (h : laidMetH Tryz.prog GB W) : Lib.TabIs Tryz.prog W "math/bits.deBruijn64tab" .u8 A7 :=
 Lib.tabIs_of_head (rest:=[]) gBr Vf SU DU Yd Rg h
theorem sE {W:World}(h:laidMetH Tryz.prog GB W):cN W:=I9 (zs:=A7) (by kernel_rfl) rfl rfl (by decide) gBr (table h)
theorem yR {H:Type}{enc:TypeId×Value→H}{W W':World}(hb:RowKit.Below W.heap.size W W')(sp:Nat→Bool):∀(ts:List TypeId) (vs:List Value) (ds:List (DataW H)) (ps:List MemPlace),
  (∀t∈ts,Tryz.prog.readableRec t=true∧t<Tryz.prog.types.size)→(∀x∈ps,x.block<W.heap.size)→(∀x∈ps,sp x.block=true) →
  DataW.TrodAll enc Tryz.prog W 0 (fun _=>true) true ts vs ds ps→DataW.TrodAll enc Tryz.prog W' 0 sp true ts vs ds ps
 | [],vs,ds,ps,_,_,_,h=>by
  obtain⟨rfl,rfl,rfl⟩:=trodAll_nil h
  exact trodAll_mk0
 |t::ts,vs,ds,ps,hr,hl,hs,h=>by
  obtain⟨v,vs',d,ds',p,q,rfl,rfl,rfl,h1,h2⟩:=trodAll_cons h
  refine trodAll_cons_mk (WideElems.Trod_stays I7 (hr t (by simp)).1 (hr t (by simp)).2 h1 (fun x hx=>hb.same (hl x (by simp[hx]))) (by simp_all)) ?_
  exact yR hb sp ts vs' ds' q (by simp_all) (by simp_all) (by simp_all) h2
theorem sC {f:Nat}{fn:Func}{s:ChangeSpec}(hrt:fn.resultTypes=#[4])(hv:s.vars=[])
  (hr:∀t∈fn.params.toList,Tryz.prog.readableRec t=true∧t<Tryz.prog.types.size)
  (hs:∀(H:Type) (ds:List (DataW H)),ds.length=fn.params.size→s.fn H ds={ results:=[.lit (.bool true)],args:=ds })
  (law:∀(W:World) (base:Nat) (args:Array Value),args.size=fn.params.size→(∀(j:Nat) t v,fn.params[j]?=some t→args[j]?=some v→Value.okWide Tryz.prog W .any base t v) →
   ∃xs,(∀(g:Gh) (tk:List Nat) (w:World),aI g tk w xs args.toList)∧aX Pz f xs (.bool true))
  (H:Type) (enc:TypeId×Value→H) (W:World) (base:Nat) (args:Array Value) (ds gs:List (DataW H)) (before:List MemPlace)
  (hval:∀(j:Nat) t v,fn.params[j]?=some t→args[j]?=some v→Value.okWide Tryz.prog W .any base t v)
  (hW:DataW.Whole enc Tryz.prog fn.params.toList s.vars false W args.toList ds gs before) (hg:cN W) :
  Calls Tryz.prog f args W fun e W'=>∃v,e=.returned v∧s.post enc Tryz.prog fn false true false false W args v W':=by
 have hW':=hW;obtain⟨p,q,hA0,hV,rfl,hfz,hnd⟩:=hW;have hA:DataW.TrodAll enc Tryz.prog W 0 (fun _=>true) true fn.params.toList args.toList ds p:=hA0;rw[hv]at hV;obtain⟨rfl,rfl⟩:=trodVars_none hV;have hlen:∀(ts:List TypeId) (vs:List Value) (ds:List (DataW H)) (ps:List MemPlace),DataW.TrodAll enc Tryz.prog W 0 (fun _=>true) true ts vs ds ps→vs.length=ts.length∧ds.length=ts.length:=by
  intro ts;induction ts with
  |nil=>intro vs ds ps h;obtain⟨rfl,rfl,_⟩:=trodAll_nil h;exact⟨rfl,rfl⟩
  |cons t ts ih =>intro vs ds ps h;obtain⟨v,vs',d,ds',p,q,rfl,rfl,rfl,_,h2⟩:=trodAll_cons h;have:=ih _ _ _ h2;simp[this.1,this.2]
 have hl:=hlen _ _ _ _ hA;obtain⟨xs,hrep,hps⟩:=law W base args (by simpa using hl.1) hval;refine(callsIn_wide.1 (hps W args hg (hrep _ _ _))).mono ?_;rintro e W' ⟨x,rfl,hb,hx⟩;cases hx;have hlt:∀x∈p,x.block<W.heap.size:=fun x hx=>hW'.lt x (by simpa using hx);have hfn:=hs H ds (by simpa using hl.2);refine⟨_,rfl,xg (pa:=p) (pv:=[]) hW' ?_ ?_ ?_ rfl hb ?_⟩
 ·intro b sp hd;rw[hrt,List.append_nil,hfn];exact trodAll_mk1 (shut_bool E8 true)
 ·intro sp hsp;rw[List.append_nil,hfn];exact yR hb sp _ _ _ _ hr hlt (by simp_all) hA
 ·intro sp hsp;rw[hv,List.append_nil,hfn];rfl
 ·rw[hrt];intro j t r h1 h2;cases j with
  |zero =>
   simp only[List.getElem?_toArray,List.getElem?_cons_zero,A']at h1;subst h1;have:r=.bool true:=by have:(Value.resultList 1 (Value.bool true))=[.bool true]:=rfl;simpa[Value.resultList]using h2.symm
   subst this;exact okWide_bool_mk E8 _
  |succ j=>simp at h1
noncomputable def iP (os:Os):World :=
 { World.holding Tryz.prog os ⟨#[],#[],[]⟩with heap:=(World.holding Tryz.prog os ⟨#[],#[],[]⟩).heap.modify 0 fun
   | .cells _ t frozen=>.cells (A7.map (Value.int .u8)).toArray t frozen
   |o=>o }
def BD {H:Type}:DataW H := .agg [.lit (.int .u8 0),.agg (List.replicate 64 (.lit (.int .u8 0))),.lit (.int .u64 0),.agg (List.replicate 2 (.agg (List.replicate 6 (.lit (.int .u8 0))))),.lit (.int .u8 0),.agg (List.replicate 2 (.agg (List.replicate 2 (.lit (.int .i8 0))))),.lit (.int .i8 0),.agg (List.replicate 2 (.lit (.int .u8 0))),.lit (.int .i64 0),.lit (.int .i64 0)]
theorem DQ:Tryz.prog.underlying 3=some (.int .i64):=by kernel_rfl
theorem wT {W:World}{r:Reach}{base:Nat}{t:TypeId}{k:IntKind}{v:Value}(hu:Tryz.prog.underlying t=some (.int k))(h:Value.okWide Tryz.prog W r base t v):∃n:Int,k.has n∧∀(g:Gh) (tk:List Nat) (w:World),aM g tk w (.int k n) v:=by unfold Value.okWide at h;rw[hu]at h;obtain⟨n,rfl,hn⟩:=ke hu h;exact⟨n,hn,fun _ _ _=>.int _ _⟩
def jw:Value := .agg (pG.map fun k=>Value.int k 0).toArray
theorem EP:(match Pz.underlying 47 with
 |some (.struct _)=>true
 |_=>false)=true:=by kernel_rfl
theorem Jt:Pz.cellsOf 47=5:=by kernel_rfl
theorem Sq:Pz.cellTypes Pz.depth 47=some [26,26,5,5,4]:=by kernel_rfl
theorem H4:Pz.underlying 26=some (.int .i8):=by kernel_rfl
theorem IX {P:Program}{W:World}{r:Reach}{base:Nat}{u:TypeId}{v:Value}(hu:P.underlying u=some .bool)(h:Cell.okWide P W r base u v):∃b,v=.bool b:=by unfold Cell.okWide at h;rw[hu]at h;simp only at h;unfold Cell.ok at h;grind
theorem Ud {W:World}{r:Reach}{base:Nat}{v:Value}(h:Value.okWide Tryz.prog W r base 47 v):∃m:Mv,True∧∀(g:Gh) (tk:List Nat) (w:World),aM g tk w (Mv.av m) v:=by
 unfold Value.okWide at h;have hs:=EP;cases hu:Pz.underlying 47 with
 |none=>rw[hu]at hs;cases hs
 |some d =>
  rw[hu]at hs;rw[show Tryz.prog.underlying 47=some d from hu]at h;cases d<;>simp at hs;obtain⟨cs,rfl,h2,ts,h3,_,h4⟩:=h;obtain rfl:[26,26,5,5,4]=ts:=Option.some.inj (Sq.symm.trans h3);obtain⟨l⟩:=cs;obtain⟨a,b,c,d,e,rfl⟩:∃a b c d e,l=[a,b,c,d,e]:=by
   have:l.length=5:=h2.trans Jt;match l,this with
   | [a,b,c,d,e],_=>simp_all
  obtain⟨_,h5,ha⟩:=h4 0 a rfl;obtain rfl:=Option.some.inj h5;obtain⟨_,h5,hb⟩:=h4 1 b rfl;obtain rfl:=Option.some.inj h5;obtain⟨_,h5,hc⟩:=h4 2 c rfl;obtain rfl:=Option.some.inj h5;obtain⟨_,h5,hd⟩:=h4 3 d rfl;obtain rfl:=Option.some.inj h5;obtain⟨_,h5,he⟩:=h4 4 e rfl;obtain rfl:=Option.some.inj h5;obtain⟨za,rfl,_⟩:=ke H4 ha;obtain⟨zb,rfl,_⟩:=ke H4 hb;obtain⟨zc,rfl,_⟩:=ke DU hc;obtain⟨zd,rfl,_⟩:=ke DU hd;obtain⟨ze,rfl⟩:=IX E8 he;exact⟨⟨za,zb,zc,zd,ze⟩,trivial,fun g tk w=>.agg (.one rfl (.int _ _) (.one rfl (.int _ _) (.one rfl (.int _ _) (.one rfl (.int _ _) (.one rfl (.bool _) .nil)))))⟩
def AD:Value := .agg #[.int .i8 0,.int .i8 0,.int .u8 0,.int .u8 0,.bool false]
def EV {H:Type}:DataW H := .agg [.lit (.int .i8 0),.lit (.int .i8 0),.lit (.int .u8 0),.lit (.int .u8 0),.lit (.bool false)]
end Kz
namespace Kz
open Go
def dO (cf:Mv→Mv→Int)(x y:Mv):Bool:=decide (cf x y<0)
noncomputable section
variable (lt:Mv→Mv→Bool)
def sw (d:Array Mv)(i j:Nat):Array Mv:=if i<d.size∧j<d.size then Sort.swp d i j else d
theorem Dy {d:Array Mv}{i j:Nat}(hi:i<d.size)(hj:j<d.size):sw d i j=Sort.swp d i j:=if_pos ⟨hi,hj⟩
def M5 (a:Nat):Nat→Array Mv→Array Mv
 | 0,d=>d
 |j+1,d=>bif decide (a<j+1)&&lt d[j+1]! d[j]! then M5 a j (sw d (j+1) j)else d
def PX (a:Nat):Nat→Nat→Array Mv→Array Mv
 | 0,_,d=>d
 |r+1,i,d=>PX a r (i+1) (M5 lt a i d)
def ins (a b:Nat)(d:Array Mv):Array Mv:=PX lt a (b-(a+1)) (a+1) d
def Dh:Nat→Nat→Nat→Array Mv→Array Mv
 | 0,_,_,d=>d
 |r+1,a,b,d=>Dh r (a+1) (b+1) (sw d a b)
def nR (m:Nat):Nat→Nat→Nat→Array Mv→Array Mv
 | 0,_,_,d=>d
 |f+1,i,j,d=>if i=j then Dh i (m-i) m d else if j<i then nR m f (i-j) j (Dh j (m-i) m d)else nR m f i (j-i) (Dh i (m-i) (m+j-i) d)
def oS (c:Nat→Bool):Nat→Nat→Nat→Nat
 | 0,i,_=>i
 |f+1,i,j=>if i<j then(bif c ((i+j) / 2)then oS c f ((i+j) / 2+1) j else oS c f i ((i+j) / 2))else i
def Pt:Nat→Nat→Array Mv→Array Mv
 | 0,_,d=>d
 |r+1,k,d=>Pt r (k+1) (sw d k (k+1))
def PL:Nat→Nat→Array Mv→Array Mv
 | 0,_,d=>d
 |r+1,k,d=>PL r (k-1) (sw d k (k-1))
def mstart (a m b:Nat)(d:Array Mv):Nat :=
 let mid:=(a+b) / 2
 let p:=mid+m-1
 if mid<m then oS (fun c => !lt d[p-c]! d[c]!) (mid-(mid+m-b)) (mid+m-b) mid
 else oS (fun c => !lt d[p-c]! d[c]!) (m-a) a m
def sym:Nat→Nat→Nat→Nat→Array Mv→Array Mv
 | 0,_,_,_,d=>d
 |f+1,a,m,b,d =>
  if m-a=1 then Pt (oS (fun h=>lt d[h]! d[a]!) (b-m) m b-1-a) a d
  else if b-m=1 then PL (m-oS (fun h => !lt d[m]! d[h]!) (m-a) a m) m d
  else
   let mid:=(a+b) / 2
   let s:=mstart lt a m b d
   let e:=mid+m-s
   let d1:=if s<m∧m<e then nR m (e-s) (m-s) (e-m) d else d
   let d2:=if a<s∧s<mid then sym f a s mid d1 else d1
   if mid<e∧e<b then sym f mid e b d2 else d2
def qu (n:Nat):Nat→Nat→Array Mv→Array Mv
 | 0,_,d=>d
 |f+1,a,d=>if a+20≤n then qu n f (a+20) (ins lt a (a+20) d)else ins lt a n d
def pass (n s:Nat):Nat→Nat→Array Mv→Array Mv
 | 0,_,d=>d
 |f+1,a,d=>if a+2*s≤n then pass n s f (a+2*s) (sym lt (n+1) a (a+s) (a+2*s) d)else if a+s<n then sym lt (n+1) a (a+s) n d else d
def ir (n:Nat):Nat→Nat→Array Mv→Array Mv
 | 0,_,d=>d
 |f+1,s,d=>if s<n then ir n f (2*s) (pass lt n s (n+1) 0 d)else d
def sU (d:Array Mv):Array Mv:=ir lt d.size (d.size+1) 20 (qu lt d.size (d.size+1) 0 d)
def Pm (d d':Array Mv):Prop:=d'.toList.Perm d.toList
theorem Pm.mJ (d:Array Mv):Pm d d:=List.Perm.refl _
theorem Pm.trans {a b c:Array Mv}(h:Pm a b)(k:Pm b c):Pm a c:=List.Perm.trans k h
theorem Pm.size {a b:Array Mv}(h:Pm a b):b.size=a.size:=by have:=List.Perm.length_eq h;simpa using this
theorem Im (d:Array Mv)(i j:Nat):Pm d (sw d i j):=by
 unfold sw;split
 ·rename_i h;have e:Sort.swp d i j=d.swap i j h.1 h.2:=by
   unfold Sort.swp;rw[getElem!_pos d j h.2,getElem!_pos d i h.1];apply Array.ext
   ·simp
   ·grind
  rw[e];exact(Array.swap_perm h.1 h.2).toList
 ·exact Pm.mJ d
theorem Kt (a:Nat):∀(j:Nat) (d:Array Mv),Pm d (M5 lt a j d)
 | 0,d=>Pm.mJ d
 |j+1,d=>by
  unfold M5
  cases decide (a<j+1)&&lt d[j+1]! d[j]!
  ·exact Pm.mJ d
  ·exact(Im d _ _).trans (Kt a j _)
theorem Pl (a:Nat):∀(r i:Nat) (d:Array Mv),Pm d (PX lt a r i d)
 | 0,_,d=>Pm.mJ d
 |r+1,i,d=>(Kt lt a i d).trans (Pl a r _ _)
theorem Aw (a b:Nat)(d:Array Mv):Pm d (ins lt a b d):=Pl lt a _ _ d
theorem rR:∀(r a b:Nat) (d:Array Mv),Pm d (Dh r a b d)
 | 0,_,_,d=>Pm.mJ d
 |r+1,a,b,d=>(Im d a b).trans (rR r _ _ _)
theorem qX (m:Nat):∀(f i j:Nat) (d:Array Mv),Pm d (nR m f i j d)
 | 0,_,_,d=>Pm.mJ d
 |f+1,i,j,d=>by
  unfold nR
  split
  ·exact rR _ _ _ _
  ·split
   ·exact(rR _ _ _ d).trans (qX m f _ _ _)
   ·exact(rR _ _ _ d).trans (qX m f _ _ _)
theorem Q5:∀(r k:Nat) (d:Array Mv),Pm d (Pt r k d)
 | 0,_,d=>Pm.mJ d
 |r+1,k,d=>(Im d _ _).trans (Q5 r _ _)
theorem OJ:∀(r k:Nat) (d:Array Mv),Pm d (PL r k d)
 | 0,_,d=>Pm.mJ d
 |r+1,k,d=>(Im d _ _).trans (OJ r _ _)
theorem kX {c:Prop}[Decidable c]{d x y:Array Mv}(h1:Pm d x)(h2:Pm d y):Pm d (if c then x else y):=by split<;>assumption
theorem rQ:∀(f a m b:Nat) (d:Array Mv),Pm d (sym lt f a m b d)
 | 0,_,_,_,d=>Pm.mJ d
 |f+1,a,m,b,d=>by
  unfold sym
  refine kX (Q5 _ _ _) (kX (OJ _ _ _) ?_)
  have h1:Pm d (if mstart lt a m b d<m∧m<(a+b) / 2+m-mstart lt a m b d then nR m ((a+b) / 2+m-mstart lt a m b d-mstart lt a m b d) (m-mstart lt a m b d) ((a+b) / 2+m-mstart lt a m b d-m) d else d):=kX (qX _ _ _ _ _) (Pm.mJ d)
  have h2:=h1.trans (kX (c:=a<mstart lt a m b d∧mstart lt a m b d<(a+b) / 2) (rQ f a (mstart lt a m b d) ((a+b) / 2) _) (Pm.mJ _))
  exact h2.trans (kX (rQ f _ _ b _) (Pm.mJ _))
theorem GW (n:Nat):∀(f a:Nat) (d:Array Mv),Pm d (qu lt n f a d)
 | 0,_,d=>Pm.mJ d
 |f+1,a,d=>by
  unfold qu
  exact kX ((Aw lt _ _ d).trans (GW n f _ _)) (Aw lt _ _ d)
theorem zI (n s:Nat):∀(f a:Nat) (d:Array Mv),Pm d (pass lt n s f a d)
 | 0,_,d=>Pm.mJ d
 |f+1,a,d=>by
  unfold pass
  exact kX ((rQ lt _ _ _ _ d).trans (zI n s f _ _)) (kX (rQ lt _ _ _ _ d) (Pm.mJ d))
theorem xY (n:Nat):∀(f s:Nat) (d:Array Mv),Pm d (ir lt n f s d)
 | 0,_,d=>Pm.mJ d
 |f+1,s,d=>by
  unfold ir
  exact kX ((zI lt _ _ _ _ d).trans (xY n f _ _)) (Pm.mJ d)
theorem T7 (d:Array Mv):Pm d (sU lt d):=(GW lt _ _ _ d).trans (xY lt _ _ _ _)
end
end Kz
namespace Go.Proofs
open Go.Shelf Go.RowKit Go.Lib Go.Sort
open Kz (Mv dO Dh sw Dy nR oS Pt PL mstart sym M5 PX ins qu pass ir sU)
variable {α:Type}[Inhabited α]
structure lT (g:Nat)(cb:Array Value)(cf:α→α→Int)(bx off k:Nat)(enc:α→List Value)(RW:Array α→World→Prop):Prop where
 hk:∀x,(enc x).length=k
 load:∀{d W},RW d W→∀i,i<d.size→Sem.run Tryz.prog (loadCellsFrom ⟨bx,off+i*k,none⟩ 0 k #[]) W=.ok (enc d[i]!).toArray W
 drew:∀{d W},RW d W→RW d W.drew
 fG:∀{d W},RW d W→∀i,i<d.size→∀y,Sem.run Tryz.prog (storeCells ⟨bx,off+i*k,none⟩ (enc y) 0) W=.ok () (W.setCells bx (off+i*k) (enc y))
 st2:∀{d W},RW d W→∀i j,i<d.size→j<d.size→∀y x,Sem.run Tryz.prog (storeCells ⟨bx,off+j*k,none⟩ (enc x) 0) (W.setCells bx (off+i*k) (enc y))=.ok () ((W.setCells bx (off+i*k) (enc y)).setCells bx (off+j*k) (enc x))
 swap:∀{d W},RW d W→∀i j,i<d.size→j<d.size→RW (swp d i j) ((W.setCells bx (off+i*k) (enc d[j]!)).setCells bx (off+j*k) (enc d[i]!))
 cmp:∀{d W},RW d W→∀x y,Calls Tryz.prog g (#[.agg (enc x).toArray,.agg (enc y).toArray]++cb) W fun e w'=>e=.returned (.int .i64 (cf x y))∧RW d w'
 eg:∀args w,(callFunc g args).run Tryz.prog w=.ok (.enter g args) w
structure sW (RW:Array α→World→Prop)(d:Array α) where
 W:World
 h:RW d W
set_option maxHeartbeats 4000000 in
set_option maxRecDepth 1000000 in
theorem Pv {g:Nat}{cb:Array Value}{cf:Mv→Mv→Int}{bx off k:Nat}{enc:Mv→List Value}{RW:Array Mv→World→Prop}(L:lT g cb cf bx off k enc RW)(aE:∀w,(isAgg 47).run Tryz.prog w=.ok true w)(zE:∀w,(Go.sizeOf 47).run Tryz.prog w=.ok k w)
  (cap a b n:Nat) (d:Array Mv) (w:World) (S:RW d w) (ha:a+n≤d.size) (hb:b+n≤d.size) (hsz:d.size<4611686018427387904) :
  Calls Tryz.prog 273 #[.slice (some ⟨bx,off,none⟩) d.size cap,.int .i64 a,.int .i64 b,.int .i64 n,.func (.func g) #[] cb] w fun e w'=>e=.returned (.tuple #[])∧RW (Dh n a b d) w':=by
 have mixed:Tryz.prog.follows .mixedOrders=true:=by kernel_rfl
 have S0:Aside (RW d w):=S;have LL:Aside (lT g cb cf bx off k enc RW):=L;clear S L;go_enter Tryz.func273,Tryz.ntmps273;go_wp2;go_loopg [10] n (fun kx s910 wr=>∃(i:Nat) (dk:Array Mv),s910=.int .i64 i∧kx+i=n∧dk.size=d.size∧Aside (RW dk wr)∧Hid (Dh kx (a+i) (b+i) dk=Dh n a b d));case atStart=>exact⟨0,d,rfl,rfl,rfl,S0,rfl⟩
 case round =>
  clear S0;obtain⟨i,dk,rfl,hi,hds,S1,HE⟩:=hrel;cases gk with
  |zero =>
   have hlt:¬(i:Int)<(n:Int):=by omega
   go_wp2;go_end0;refine⟨rfl,?_⟩;have:=HE.out;rw[Dh]at this;rw[←this];exact S1.out
  |succ kx =>
   have hlt:(i:Int)<(n:Int):=by omega
   go_wp2_with fail;have ea:((a:Int)+(i:Int)).toNat=a+i:=by omega
   have pa:(0:Int)≤(a:Int)+(i:Int):=by omega
   have ba:(a:Int)+(i:Int)<(d.size:Int):=by omega
   have ra:IntKind.i64.wrap ((a:Int)+(i:Int))=(a:Int)+(i:Int):=by rw[IntKind.wrap_i64];omega
   have eb:((b:Int)+(i:Int)).toNat=b+i:=by omega
   have pb:(0:Int)≤(b:Int)+(i:Int):=by omega
   have bb:(b:Int)+(i:Int)<(d.size:Int):=by omega
   have rb:IntKind.i64.wrap ((b:Int)+(i:Int))=(b:Int)+(i:Int):=by rw[IntKind.wrap_i64];omega
   have hA:a+i<dk.size:=by omega
   have hB:b+i<dk.size:=by omega
   have S2:Aside (RW (swp dk (a+i) (b+i)) ((wr.drew.setCells bx (off+(a+i)*k) (enc dk[b+i]!)).setCells bx (off+(b+i)*k) (enc dk[a+i]!))):=LL.out.swap (LL.out.drew S1.out) (a+i) (b+i) hA hB;have la:=LL.out.load (LL.out.drew S1.out) (a+i) hA;have lb:=LL.out.load (LL.out.drew S1.out) (b+i) hB;have sa:=LL.out.fG (LL.out.drew S1.out) (a+i) hA dk[b+i]!;have sb:=LL.out.st2 (LL.out.drew S1.out) (a+i) (b+i) hA hB dk[b+i]! dk[a+i]!;have na:(enc dk[a+i]!).length=k:=LL.out.hk _;have nb:(enc dk[b+i]!).length=k:=LL.out.hk _;generalize enc dk[a+i]! = cI at S2 la sb na;generalize enc dk[b+i]! = cJ at S2 lb sa sb nb;clear S1;go_wp2_with fail;go_big_region_o;clear la lb sa sb;generalize (wr.drew.setCells bx (off+(a+i)*k) cJ).setCells bx (off+(b+i)*k) cI=w2 at S2⊢;go_wp2;go_roundg kx;case measure=>omega
   case rel =>refine⟨i+1,swp dk (a+i) (b+i),by go_num,by omega,by rw[size_swp];exact hds,S2,?_⟩;show _=_;rw[←HE.out,Dh,Dy hA hB];rfl
theorem db {β:Type}{RW:Array β→World→Prop}{d:Array β}{id:Nat}{Q:Exit→Act→World→Prop}{a:Act}{w:World}{l:List Oper}(hm:Tryz.prog.follows .mixedOrders=true)(hB:Region.lexB .any l.toArray=true)(hR:RW d w.drew)
  (h:wpQuiet Tryz.prog l.toArray (fun w'=>∃p:sW RW d,w'=p.W) (fun a'=>∀w',(∃p:sW RW d,w'=p.W)→Q .normal a' w') l a):(Code.region id l.toArray true).wp Tryz.prog Q a w :=
 wp_region_quiet (C:=fun w'=>∃p:sW RW d,w'=p.W) hm hB ⟨⟨w.drew,hR⟩,rfl⟩ (by simpa using h)
set_option maxHeartbeats 4000000 in
set_option maxRecDepth 1000000 in
theorem Wk {g:Nat}{cb:Array Value}{cf:Mv→Mv→Int}{bx off k:Nat}{enc:Mv→List Value}{RW:Array Mv→World→Prop}(L:lT g cb cf bx off k enc RW)(aE:∀w,(isAgg 47).run Tryz.prog w=.ok true w)(zE:∀w,(Go.sizeOf 47).run Tryz.prog w=.ok k w)
  (cap a b:Nat) (d:Array Mv) (w:World) (S:RW d w) (hab:a≤b) (hb:b≤d.size) (hsz:d.size<4611686018427387904) :
  Calls Tryz.prog 224 #[.slice (some ⟨bx,off,none⟩) d.size cap,.int .i64 a,.int .i64 b,.func (.func g) #[] cb] w fun e w'=>e=.returned (.tuple #[])∧RW (ins (dO cf) a b d) w':=by
 have mixed:Tryz.prog.follows .mixedOrders=true:=by kernel_rfl
 have eg:=L.eg;have S0:Aside (RW d w):=S;have LL:Aside (lT g cb cf bx off k enc RW):=L;clear S L;go_enter Tryz.func224,Tryz.ntmps224;go_wp2;go_loopg [8] (b-(a+1)+1) (fun g1 vi wr=>∃(i r:Nat) (dk:Array Mv),vi=.int .i64 i∧a<i∧r=b-i∧g1=r+1∧dk.size=d.size∧Aside (RW dk wr)∧Hid (PX (dO cf) a r i dk=ins (dO cf) a b d));case atStart=>exact⟨a+1,b-(a+1),d,by go_num,by omega,rfl,rfl,rfl,S0,rfl⟩
 case round =>
  clear S0;obtain⟨i,r,dk,rfl,hai,hr,rfl,hsk,S1,HO⟩:=hrel;cases r with
  |zero =>
   have hltz:¬(i:Int)<(b:Int):=by omega
   go_wp2;go_end0;refine⟨rfl,?_⟩;have:=HO.out;rw[PX]at this;rw[←this];exact S1.out
  |succ r =>
   have hltz:(i:Int)<(b:Int):=by omega
   have HO2:Hid (PX (dO cf) a r (i+1) (M5 (dO cf) a i dk)=ins (dO cf) a b d):=HO.out;clear HO;go_wp2;go_loopg [9] (i+1) (fun g2 vj wr2=>∃(j:Nat) (dj:Array Mv),vj=.int .i64 j∧a≤j∧j≤i∧g2=j+1∧dj.size=d.size∧Aside (RW dj wr2)∧Hid (PX (dO cf) a r (i+1) (M5 (dO cf) a j dj)=ins (dO cf) a b d));case atStart=>grind
   case round =>
    clear S1 HO2;obtain⟨j,dj,rfl,haj,hji,rfl,hsj,S2,HI⟩:=hrel;by_cases hja:a<j
    ·obtain⟨jp,rfl⟩:∃jp,j=jp+1:=⟨j-1,by omega⟩;obtain⟨xj,hxj⟩:∃x,dj[jp+1]! = x:=⟨_,rfl⟩;obtain⟨xp,hxp⟩:∃x,dj[jp]! = x:=⟨_,rfl⟩;have hwp:IntKind.i64.wrap (jp:Int)=(jp:Int):=by rw[IntKind.wrap_i64];omega
     have jz:(jp:Int)+1<(d.size:Int):=by omega
     have jz1:(jp:Int)<(d.size:Int):=by omega
     have hjaz':(a:Int)<(jp:Int)+1:=by omega
     have p0:(0:Int)≤(jp:Int)+1:=by omega
     have e0:((jp:Int)+1).toNat=jp+1:=by omega
     have hA:jp+1<dj.size:=by omega
     have hB:jp<dj.size:=by omega
     have lj:∀p:sW RW dj,Sem.run Tryz.prog (loadCellsFrom ⟨bx,off+(jp+1)*k,none⟩ 0 k #[]) p.W=.ok (enc xj).toArray p.W:=fun p=>by rw[←hxj];exact LL.out.load p.h _ hA
     have lp:∀p:sW RW dj,Sem.run Tryz.prog (loadCellsFrom ⟨bx,off+jp*k,none⟩ 0 k #[]) p.W=.ok (enc xp).toArray p.W:=fun p=>by rw[←hxp];exact LL.out.load p.h _ hB
     have hcg:∀p:sW RW dj,Calls Tryz.prog g (#[.agg (enc xj).toArray,.agg (enc xp).toArray]++cb) p.W fun e w'=>e=.returned (.int .i64 (cf xj xp))∧∃p':sW RW dj,w'=p'.W:=fun p=>(LL.out.cmp p.h xj xp).mono fun e w' ⟨h1,h2⟩=>⟨h1,⟨w',h2⟩,rfl⟩;have hdr:RW dj wr.drew:=LL.out.drew S2.out;clear S2;by_cases hlv:cf xj xp<0
     ·have HI2:Hid (PX (dO cf) a r (i+1) (M5 (dO cf) a jp (swp dj (jp+1) jp))=ins (dO cf) a b d):=by have:=HI.out;rw[M5,Dy hA hB,hxj,hxp]at this;simp only[hja,decide_true,dO,hlv,Bool.and_self,cond_true]at this;exact this
      go_wp2_with fail;refine db mixed (by kernel_rfl) hdr ?_;repeat (quiet_step (first|with_reducible rfl|(go_at_fn g;exact hcg _)))
      refine wpQuiet_nil ?_;intro wq hw';obtain⟨⟨wx,hq⟩,hw''⟩:=hw';subst hw'';clear lj lp hcg hdr;go_wp2_with fail;have S3:Aside (RW (swp dj (jp+1) jp) ((wq.drew.setCells bx (off+(jp+1)*k) (enc dj[jp]!)).setCells bx (off+jp*k) (enc dj[jp+1]!))):=LL.out.swap (LL.out.drew hq) (jp+1) jp hA hB;have la:=LL.out.load (LL.out.drew hq) (jp+1) hA;have lb:=LL.out.load (LL.out.drew hq) jp hB;have sa:=LL.out.fG (LL.out.drew hq) (jp+1) hA dj[jp]!;have sb:=LL.out.st2 (LL.out.drew hq) (jp+1) jp hA hB dj[jp]! dj[jp+1]!;have na:(enc dj[jp+1]!).length=k:=LL.out.hk _;have nb:(enc dj[jp]!).length=k:=LL.out.hk _;clear hxj hxp;generalize enc dj[jp+1]! = cI at S3 la sb na;generalize enc dj[jp]! = cJ at S3 lb sa sb nb;clear hq;go_big_region_o;clear la lb sa sb;generalize (wq.drew.setCells bx (off+(jp+1)*k) cJ).setCells bx (off+jp*k) cI=w2 at S3⊢;go_wp2;go_roundg (jp+1);case measure=>omega
      case rel=>exact⟨jp,swp dj (jp+1) jp,by grind,by omega,by omega,rfl,by rw[size_swp];exact hsj,S3,HI2⟩
     ·have HI2:Hid (PX (dO cf) a r (i+1) dj=ins (dO cf) a b d):=by have:=HI.out;rw[M5,hxj,hxp]at this;simp only[hja,decide_true,dO,hlv,decide_false,Bool.and_false,cond_false]at this;exact this
      go_wp2_with fail;refine db mixed (by kernel_rfl) hdr ?_;repeat (quiet_step (first|with_reducible rfl|(go_at_fn g;exact hcg _)))
      refine wpQuiet_nil ?_;intro wq hw';obtain⟨⟨wx,hq⟩,hw''⟩:=hw';subst hw'';have S3:Aside (RW dj wq):=hq;clear lj lp hcg hdr hq;go_wp2;go_roundg (r+1);case measure=>omega
      grind
    ·have hjaz:decide ((j:Int)>(a:Int))=false:=by grind
     have hjaz':¬(a:Int)<(j:Int):=by omega
     have S3:Aside (RW dj wr.drew):=LL.out.drew S2.out;have HI2:Hid (PX (dO cf) a r (i+1) dj=ins (dO cf) a b d):=by
      have:=HI.out;cases j with
      |zero=>exact this
      |succ jp=>rw[M5]at this;simp only[hja,decide_false,Bool.false_and,cond_false]at this;exact this
     clear S2;go_wp2_with fail;go_big_region_o;all_goals go_wp2
     go_roundg (r+1);case measure=>omega
     grind
set_option maxHeartbeats 4000000 in
set_option maxRecDepth 1000000 in
theorem Hs {g:Nat}{cb:Array Value}{cf:Mv→Mv→Int}{bx off k:Nat}{enc:Mv→List Value}{RW:Array Mv→World→Prop}(L:lT g cb cf bx off k enc RW)(aE:∀w,(isAgg 47).run Tryz.prog w=.ok true w)(zE:∀w,(Go.sizeOf 47).run Tryz.prog w=.ok k w)
  (cap a m b:Nat) (d:Array Mv) (w:World) (S:RW d w) (ham:a<m) (hmb:m<b) (hb:b≤d.size) (hsz:d.size<4611686018427387904) :
  Calls Tryz.prog 257 #[.slice (some ⟨bx,off,none⟩) d.size cap,.int .i64 a,.int .i64 m,.int .i64 b,.func (.func g) #[] cb] w fun e w'=>e=.returned (.tuple #[])∧RW (nR m (b-a) (m-a) (b-m) d) w':=by
 have S0:Aside (RW d w):=S;have LL:Aside (lT g cb cf bx off k enc RW):=L;clear S L;have e1:(m:Int)-(a:Int)=((m-a:Nat):Int):=by omega
 have e2:(b:Int)-(m:Int)=((b-m:Nat):Int):=by omega
 have E1:=Lib.hid e1;have E2:=Lib.hid e2;clear e1 e2;go_enter Tryz.func257,Tryz.ntmps257;go_wp2;go_loopg [10,11] (b-a) (fun kx s910 s29 wr=>∃(i j:Nat) (dk:Array Mv),s910=.int .i64 i∧s29=.int .i64 j∧0<i∧0<j∧i≤m∧m+j≤d.size∧i+j≤kx∧dk.size=d.size∧Aside (RW dk wr)∧Hid (nR m kx i j dk=nR m (b-a) (m-a) (b-m) d));case atStart=>exact⟨m-a,b-m,d,by rw[E1.out],by rw[E2.out],by omega,by omega,by omega,by omega,by omega,rfl,S0,rfl⟩
 case round =>
  clear S0;obtain⟨i,j,dk,rfl,rfl,hi,hj,him,hmj,hf,hds,S1,HE⟩:=hrel;cases gk with
  |zero=>exfalso;omega
  |succ f =>
   by_cases hij:i=j
   ·subst hij;have hc:=Pv LL.out aE zE cap (m-i) m i dk wr S1.out (by omega) (by omega) (by omega);rw[hds,show((m-i:Nat):Int)=(m:Int)-(i:Int)by omega]at hc;have HE2:=HE.out;rw[nR,if_pos rfl]at HE2;rw[HE2]at hc;clear S1 HE2;go_wp2_with fail;refine hc.mono ?_;rintro e w1 ⟨rfl,S3⟩;go_wp2;go_end0;exact⟨rfl,S3⟩
   ·have hne:((i:Int)==(j:Int))=false:=by grind
    have hne':¬(i:Int)=(j:Int):=by omega
    by_cases hji:j<i
    ·have hjz:(j:Int)<(i:Int):=by omega
     have hc:=Pv LL.out aE zE cap (m-i) m j dk wr S1.out (by omega) (by omega) (by omega);rw[hds,show((m-i:Nat):Int)=(m:Int)-(i:Int)by omega]at hc;have HE2:Hid (nR m f (i-j) j (Dh j (m-i) m dk)=nR m (b-a) (m-a) (b-m) d):=by have:=HE.out;rw[nR,if_neg hij,if_pos hji]at this;exact this
     have hsz2:(Dh j (m-i) m dk).size=d.size:=(Kz.rR _ _ _ dk).size.trans hds;clear S1 HE;go_wp2_with fail;refine hc.mono ?_;rintro e w1 ⟨rfl,S3⟩;go_wp2;go_roundg f;case measure=>omega
     case rel=>exact⟨i-j,j,Dh j (m-i) m dk,by congr 1;omega,rfl,by omega,hj,by omega,hmj,by omega,hsz2,S3,HE2⟩
    ·have hjz:¬(j:Int)<(i:Int):=by omega
     have hc:=Pv LL.out aE zE cap (m-i) (m+j-i) i dk wr S1.out (by omega) (by omega) (by omega);rw[hds,show((m-i:Nat):Int)=(m:Int)-(i:Int)by omega,show((m+j-i:Nat):Int)=(m:Int)+(j:Int)-(i:Int)by omega]at hc;have HE2:Hid (nR m f i (j-i) (Dh i (m-i) (m+j-i) dk)=nR m (b-a) (m-a) (b-m) d):=by have:=HE.out;rw[nR,if_neg hij,if_neg hji]at this;exact this
     have hsz2:(Dh i (m-i) (m+j-i) dk).size=d.size:=(Kz.rR _ _ _ dk).size.trans hds;clear S1 HE;go_wp2_with fail;refine hc.mono ?_;rintro e w1 ⟨rfl,S3⟩;go_wp2;go_roundg f;case measure=>omega
     case rel=>exact⟨i,j-i,Dh i (m-i) (m+j-i) dk,rfl,by congr 1;omega,hi,by omega,him,by omega,by omega,hsz2,S3,HE2⟩
theorem uP (c:Nat→Bool):∀(f i j:Nat),i≤j→i≤oS c f i j∧oS c f i j≤j
 | 0,i,j,h=>⟨Nat.le_refl _,h⟩
 |f+1,i,j,h=>by
  rw[oS]
  split
  ·cases c ((i+j) / 2)
   ·have:=uP c f i ((i+j) / 2) (by omega)
    grind
   ·have:=uP c f ((i+j) / 2+1) j (by omega)
    grind
  ·omega
set_option maxHeartbeats 4000000 in
set_option maxRecDepth 1000000 in
theorem aa4 {g:Nat}{cb:Array Value}{cf:Mv→Mv→Int}{bx off k:Nat}{enc:Mv→List Value}{RW:Array Mv→World→Prop}(L:lT g cb cf bx off k enc RW)(aE:∀w,(isAgg 47).run Tryz.prog w=.ok true w)(zE:∀w,(Go.sizeOf 47).run Tryz.prog w=.ok k w)
  (cap a m b:Nat) (d:Array Mv) (w:World) (S:RW d w) (hma:m-a=1) (hmb:m<b) (hb:b≤d.size) (hsz:d.size<4611686018427387904) :
  Calls Tryz.prog 225 #[.slice (some ⟨bx,off,none⟩) d.size cap,.int .i64 a,.int .i64 m,.int .i64 b,.func (.func g) #[] cb] w fun e w'=>e=.returned (.tuple #[])∧RW (Pt (oS (fun h=>dO cf d[h]! d[a]!) (b-m) m b-1-a) a d) w':=by
 have mixed:Tryz.prog.follows .mixedOrders=true:=by kernel_rfl
 have eg:=L.eg;have S0:Aside (RW d w):=S;have LL:Aside (lT g cb cf bx off k enc RW):=L;clear S L;have HM:Hid (m=a+1):=by show _=_;omega
 have eone:(m:Int)-(a:Int)=1:=by omega
 clear hma;obtain⟨r0,hr0⟩:∃r0,r0=oS (fun h=>dO cf d[h]! d[a]!) (b-m) m b:=⟨_,rfl⟩;have hr1:m≤r0∧r0≤b:=by rw[hr0];exact uP _ _ _ _ (by omega)
 rw[←hr0];have HR:=Lib.hid hr0;clear hr0;go_enter Tryz.func225,Tryz.ntmps225;go_wp2;go_loopg [10,11] (b-m+1) (fun kx s910 s29 wr=>∃(i j f:Nat),s910=.int .i64 i∧s29=.int .i64 j∧i≤j∧m≤i∧j≤b∧j-i≤f∧kx=f+1∧Aside (RW d wr)∧Hid (oS (fun h=>dO cf d[h]! d[a]!) f i j=r0));case atStart=>grind
 case round =>
  clear S0;obtain⟨i,j,f,rfl,rfl,hij,hi,hj,hf,rfl,S1,HE⟩:=hrel;by_cases hlt:i<j
  ·have hltz:(i:Int)<(j:Int):=by omega
   obtain⟨f,rfl⟩:∃f',f=f'+1:=⟨f-1,by omega⟩;obtain⟨h,hh⟩:∃h,h=(i+j) / 2:=⟨_,rfl⟩;have hhz:((i:Int)+(j:Int)) / 2=(h:Int):=by omega
   have HE2:=HE.out;rw[oS,if_pos hlt,←hh]at HE2;have hA:h<d.size:=by omega
   have hB:a<d.size:=by have:=HM.out;omega
   have hAz:(h:Int)<(d.size:Int):=by omega
   have hBz:(a:Int)<(d.size:Int):=by omega
   obtain⟨xj,hxj⟩:∃x,d[h]! = x:=⟨_,rfl⟩;obtain⟨xp,hxp⟩:∃x,d[a]! = x:=⟨_,rfl⟩;have lj:∀p:sW RW d,Sem.run Tryz.prog (loadCellsFrom ⟨bx,off+h*k,none⟩ 0 k #[]) p.W=.ok (enc xj).toArray p.W:=fun p=>by rw[←hxj];exact LL.out.load p.h _ hA
   have lp:∀p:sW RW d,Sem.run Tryz.prog (loadCellsFrom ⟨bx,off+a*k,none⟩ 0 k #[]) p.W=.ok (enc xp).toArray p.W:=fun p=>by rw[←hxp];exact LL.out.load p.h _ hB
   have hcg:∀p:sW RW d,Calls Tryz.prog g (#[.agg (enc xj).toArray,.agg (enc xp).toArray]++cb) p.W fun e w'=>e=.returned (.int .i64 (cf xj xp))∧∃p':sW RW d,w'=p'.W:=fun p=>(LL.out.cmp p.h xj xp).mono fun e w' ⟨h1,h2⟩=>⟨h1,⟨w',h2⟩,rfl⟩;have hdr:RW d wr.drew:=LL.out.drew S1.out;have HH:Hid (h=(i+j) / 2):=hh;have hc0:dO cf d[h]! d[a]! = decide (cf xj xp<0):=by rw[hxj,hxp];rfl
   rw[hc0]at HE2;clear S1 hh HE hxj hxp hc0;by_cases hlv:cf xj xp<0
   ·simp only[hlv,decide_true,cond_true]at HE2;have HE3:Hid (oS (fun h=>dO cf d[h]! d[a]!) f (h+1) j=r0):=HE2;clear HE2;go_wp2_with fail;refine db mixed (by kernel_rfl) hdr ?_;repeat (quiet_step (first|with_reducible rfl|(go_at_fn g;exact hcg _)))
    refine wpQuiet_nil ?_;intro wq hw';obtain⟨⟨wx,hq⟩,hw''⟩:=hw';subst hw'';have S3:Aside (RW d wq):=hq;clear lj lp hcg hdr hq;go_wp2;go_roundg (f+1);case measure=>omega
    case rel =>have:=HH.out;exact⟨h+1,j,f,by go_num,rfl,by omega,by omega,hj,by omega,rfl,S3,HE3.out⟩
   ·simp only[hlv,decide_false,cond_false]at HE2;have HE3:Hid (oS (fun h=>dO cf d[h]! d[a]!) f i h=r0):=HE2;clear HE2;go_wp2_with fail;refine db mixed (by kernel_rfl) hdr ?_;repeat (quiet_step (first|with_reducible rfl|(go_at_fn g;exact hcg _)))
    refine wpQuiet_nil ?_;intro wq hw';obtain⟨⟨wx,hq⟩,hw''⟩:=hw';subst hw'';have S3:Aside (RW d wq):=hq;clear lj lp hcg hdr hq;go_wp2;go_roundg (f+1);case measure=>omega
    case rel =>have:=HH.out;exact⟨i,h,f,rfl,rfl,by omega,by omega,by omega,by omega,rfl,S3,HE3.out⟩
  ·have hltz:¬(i:Int)<(j:Int):=by omega
   have hir:i=r0:=by
    have:=HE.out;cases f with
    |zero=>exact this
    |succ f=>rw[oS,if_neg hlt]at this;exact this
   subst hir;clear HE;go_wp2;go_loopg [13] (i-1-a+1) (fun kx s16 wr2=>∃(q r:Nat) (dk:Array Mv),s16=.int .i64 q∧kx=r+1∧q+r=i-1∧dk.size=d.size∧Aside (RW dk wr2)∧Hid (Pt r q dk=Pt (i-1-a) a d));case atStart=>exact⟨a,i-1-a,d,rfl,rfl,by have:=HM.out;omega,rfl,S1,rfl⟩
   case round =>
    clear S1;obtain⟨q,r,dk,rfl,rfl,hqr,hds,S1,HE⟩:=hrel;cases r with
    |zero =>
     have hz:¬(q:Int)<(i:Int)-1:=by omega
     go_wp2;(try simp only[Exit.inBlock,Exit.then]);refine bodyPost_ret (results_none rfl _ _ _) rfl ?_;refine⟨rfl,?_⟩;have:=HE.out;rw[Pt]at this;rw[←this];exact S1.out
    |succ r =>
     have hz:(q:Int)<(i:Int)-1:=by omega
     have hA:q<dk.size:=by omega
     have hB:q+1<dk.size:=by omega
     have HE2:Hid (Pt r (q+1) (swp dk q (q+1))=Pt (i-1-a) a d):=by have:=HE.out;rw[Pt,Dy hA hB]at this;exact this
     have pb:(0:Int)≤(q:Int)+1:=by omega
     have bb:(q:Int)+1<(d.size:Int):=by omega
     have ba:(q:Int)<(d.size:Int):=by omega
     have eb:((q:Int)+1).toNat=q+1:=by omega
     have rb:IntKind.i64.wrap ((q:Int)+1)=(q:Int)+1:=by rw[IntKind.wrap_i64];omega
     have S3:Aside (RW (swp dk q (q+1)) ((wr.drew.setCells bx (off+q*k) (enc dk[q+1]!)).setCells bx (off+(q+1)*k) (enc dk[q]!))):=LL.out.swap (LL.out.drew S1.out) q (q+1) hA hB;have la:=LL.out.load (LL.out.drew S1.out) q hA;have lb:=LL.out.load (LL.out.drew S1.out) (q+1) hB;have sa:=LL.out.fG (LL.out.drew S1.out) q hA dk[q+1]!;have sb:=LL.out.st2 (LL.out.drew S1.out) q (q+1) hA hB dk[q+1]! dk[q]!;have na:(enc dk[q]!).length=k:=LL.out.hk _;have nb:(enc dk[q+1]!).length=k:=LL.out.hk _;generalize enc dk[q]! = cI at S3 la sb na;generalize enc dk[q+1]! = cJ at S3 lb sa sb nb;clear S1 HE;go_wp2_with fail;go_big_region_o;clear la lb sa sb;generalize (wr.drew.setCells bx (off+q*k) cJ).setCells bx (off+(q+1)*k) cI=w2 at S3⊢;go_wp2;go_roundg (r+1);case measure=>omega
     case rel=>exact⟨q+1,r,swp dk q (q+1),by go_num,rfl,by omega,by rw[size_swp];exact hds,S3,HE2⟩
set_option maxHeartbeats 4000000 in
set_option maxRecDepth 1000000 in
theorem abv {g:Nat}{cb:Array Value}{cf:Mv→Mv→Int}{bx off k:Nat}{enc:Mv→List Value}{RW:Array Mv→World→Prop}(L:lT g cb cf bx off k enc RW)(aE:∀w,(isAgg 47).run Tryz.prog w=.ok true w)(zE:∀w,(Go.sizeOf 47).run Tryz.prog w=.ok k w)
  (cap a m b:Nat) (d:Array Mv) (w:World) (S:RW d w) (ham:a<m) (hma:¬m-a=1) (hbm:b-m=1) (hb:b≤d.size) (hsz:d.size<4611686018427387904) :
  Calls Tryz.prog 225 #[.slice (some ⟨bx,off,none⟩) d.size cap,.int .i64 a,.int .i64 m,.int .i64 b,.func (.func g) #[] cb] w fun e w'=>e=.returned (.tuple #[])∧RW (PL (m-oS (fun h => !dO cf d[m]! d[h]!) (m-a) a m) m d) w':=by
 have mixed:Tryz.prog.follows .mixedOrders=true:=by kernel_rfl
 have eg:=L.eg;have S0:Aside (RW d w):=S;have LL:Aside (lT g cb cf bx off k enc RW):=L;clear S L;have HM:Hid (b=m+1):=by show _=_;omega
 have eone:((m:Int)-(a:Int)==1)=false:=by grind
 have eone':(b:Int)-(m:Int)=1:=by omega
 have hmd:m<d.size:=by omega
 clear hma hbm;obtain⟨r0,hr0⟩:∃r0,r0=oS (fun h => !dO cf d[m]! d[h]!) (m-a) a m:=⟨_,rfl⟩;have hr1:a≤r0∧r0≤m:=by rw[hr0];exact uP _ _ _ _ (by omega)
 rw[←hr0];have HR:=Lib.hid hr0;clear hr0;go_enter Tryz.func225,Tryz.ntmps225;go_wp2;go_loopg [14,15] (m-a+1) (fun kx s910 s29 wr=>∃(i j f:Nat),s910=.int .i64 i∧s29=.int .i64 j∧i≤j∧a≤i∧j≤m∧j-i≤f∧kx=f+1∧Aside (RW d wr)∧Hid (oS (fun h => !dO cf d[m]! d[h]!) f i j=r0));case atStart=>grind
 case round =>
  clear S0;obtain⟨i,j,f,rfl,rfl,hij,hi,hj,hf,rfl,S1,HE⟩:=hrel;by_cases hlt:i<j
  ·have hltz:(i:Int)<(j:Int):=by omega
   obtain⟨f,rfl⟩:∃f',f=f'+1:=⟨f-1,by omega⟩;obtain⟨h,hh⟩:∃h,h=(i+j) / 2:=⟨_,rfl⟩;have hhz:((i:Int)+(j:Int)) / 2=(h:Int):=by omega
   have HE2:=HE.out;rw[oS,if_pos hlt,←hh]at HE2;have hA:h<d.size:=by omega
   have hB:m<d.size:=hmd;have hAz:(h:Int)<(d.size:Int):=by omega
   have hBz:(m:Int)<(d.size:Int):=by omega
   obtain⟨xj,hxj⟩:∃x,d[h]! = x:=⟨_,rfl⟩;obtain⟨xp,hxp⟩:∃x,d[m]! = x:=⟨_,rfl⟩;have lj:∀p:sW RW d,Sem.run Tryz.prog (loadCellsFrom ⟨bx,off+h*k,none⟩ 0 k #[]) p.W=.ok (enc xj).toArray p.W:=fun p=>by rw[←hxj];exact LL.out.load p.h _ hA
   have lp:∀p:sW RW d,Sem.run Tryz.prog (loadCellsFrom ⟨bx,off+m*k,none⟩ 0 k #[]) p.W=.ok (enc xp).toArray p.W:=fun p=>by rw[←hxp];exact LL.out.load p.h _ hB
   have hcg:∀p:sW RW d,Calls Tryz.prog g (#[.agg (enc xp).toArray,.agg (enc xj).toArray]++cb) p.W fun e w'=>e=.returned (.int .i64 (cf xp xj))∧∃p':sW RW d,w'=p'.W:=fun p=>(LL.out.cmp p.h xp xj).mono fun e w' ⟨h1,h2⟩=>⟨h1,⟨w',h2⟩,rfl⟩;have hdr:RW d wr.drew:=LL.out.drew S1.out;have HH:Hid (h=(i+j) / 2):=hh;have hc0:dO cf d[m]! d[h]! = decide (cf xp xj<0):=by rw[hxj,hxp];rfl
   rw[hc0]at HE2;clear S1 hh HE hxj hxp hc0;by_cases hlv:cf xp xj<0
   ·simp only[hlv,decide_true,Bool.not_true,cond_false]at HE2;have HE3:Hid (oS (fun h => !dO cf d[m]! d[h]!) f i h=r0):=HE2;clear HE2;go_wp2_with fail;refine db mixed (by kernel_rfl) hdr ?_;repeat (quiet_step (first|with_reducible rfl|(go_at_fn g;exact hcg _)))
    refine wpQuiet_nil ?_;intro wq hw';obtain⟨⟨wx,hq⟩,hw''⟩:=hw';subst hw'';have S3:Aside (RW d wq):=hq;clear lj lp hcg hdr hq;go_wp2;go_roundg (f+1);case measure=>omega
    grind
   ·simp only[hlv,decide_false,Bool.not_false,cond_true]at HE2;have hlw:decide (cf xp xj<0)=false:=decide_eq_false hlv;have HE3:Hid (oS (fun h => !dO cf d[m]! d[h]!) f (h+1) j=r0):=HE2;clear HE2;go_wp2_with fail;refine db mixed (by kernel_rfl) hdr ?_;repeat (quiet_step (first|with_reducible rfl|(go_at_fn g;exact hcg _)))
    refine wpQuiet_nil ?_;intro wq hw';obtain⟨⟨wx,hq⟩,hw''⟩:=hw';subst hw'';have S3:Aside (RW d wq):=hq;clear lj lp hcg hdr hq;go_wp2;go_roundg (f+1);case measure=>omega
    grind
  ·have hltz:¬(i:Int)<(j:Int):=by omega
   have hir:i=r0:=by
    have:=HE.out;cases f with
    |zero=>exact this
    |succ f=>rw[oS,if_neg hlt]at this;exact this
   subst hir;clear HE;go_wp2;go_loopg [17] (m-i+1) (fun kx s24 wr2=>∃(q r:Nat) (dk:Array Mv),s24=.int .i64 q∧kx=r+1∧q=i+r∧q≤m∧dk.size=d.size∧Aside (RW dk wr2)∧Hid (PL r q dk=PL (m-i) m d));case atStart=>exact⟨m,m-i,d,rfl,rfl,by omega,Nat.le_refl _,rfl,S1,rfl⟩
   case round =>
    clear S1;obtain⟨q,r,dk,rfl,rfl,hqr,hqm,hds,S1,HE⟩:=hrel;cases r with
    |zero =>
     have hz:¬(i:Int)<(q:Int):=by omega
     have HQ:=Lib.hid hqr;clear hqr;go_wp2;(try simp only[Exit.inBlock,Exit.then]);refine bodyPost_ret (results_none rfl _ _ _) rfl ?_;refine⟨rfl,?_⟩;have:=HE.out;rw[PL]at this;rw[←this];exact S1.out
    |succ r =>
     obtain⟨jp,rfl⟩:∃jp,q=jp+1:=⟨q-1,by omega⟩;have HQ:Hid (jp=i+r):=by show _=_;omega
     have hz:(i:Int)<(jp:Int)+1:=by omega
     have hA:jp+1<dk.size:=by omega
     have hB:jp<dk.size:=by omega
     have HE2:Hid (PL r jp (swp dk (jp+1) jp)=PL (m-i) m d):=by have:=HE.out;rw[PL,Nat.add_sub_cancel,Dy hA hB]at this;exact this
     have hwp:IntKind.i64.wrap (jp:Int)=(jp:Int):=by rw[IntKind.wrap_i64];omega
     have jz:(jp:Int)+1<(d.size:Int):=by omega
     have jz1:(jp:Int)<(d.size:Int):=by omega
     have p0:(0:Int)≤(jp:Int)+1:=by omega
     have e0:((jp:Int)+1).toNat=jp+1:=by omega
     have S3:Aside (RW (swp dk (jp+1) jp) ((wr.drew.setCells bx (off+(jp+1)*k) (enc dk[jp]!)).setCells bx (off+jp*k) (enc dk[jp+1]!))):=LL.out.swap (LL.out.drew S1.out) (jp+1) jp hA hB;have la:=LL.out.load (LL.out.drew S1.out) (jp+1) hA;have lb:=LL.out.load (LL.out.drew S1.out) jp hB;have sa:=LL.out.fG (LL.out.drew S1.out) (jp+1) hA dk[jp]!;have sb:=LL.out.st2 (LL.out.drew S1.out) (jp+1) jp hA hB dk[jp]! dk[jp+1]!;have na:(enc dk[jp+1]!).length=k:=LL.out.hk _;have nb:(enc dk[jp]!).length=k:=LL.out.hk _;generalize enc dk[jp+1]! = cI at S3 la sb na;generalize enc dk[jp]! = cJ at S3 lb sa sb nb;clear S1 HE hqr;go_wp2_with fail;go_big_region_o;clear la lb sa sb;generalize (wr.drew.setCells bx (off+(jp+1)*k) cJ).setCells bx (off+jp*k) cI=w2 at S3⊢;go_wp2;go_roundg (r+1);case measure=>omega
     case rel =>have:=HQ.out;exact⟨jp,r,swp dk (jp+1) jp,by grind,rfl,this,by omega,by rw[size_swp];exact hds,S3,HE2⟩
theorem DY (lt:Mv→Mv→Bool)(a m b:Nat)(d:Array Mv)(mid lo hi:Nat)(hm:mid=(a+b) / 2)(h:(mid<m∧lo=mid+m-b∧hi=mid)∨(¬mid<m∧lo=a∧hi=m)) :
  mstart lt a m b d=oS (fun c => !lt d[mid+m-1-c]! d[c]!) (hi-lo) lo hi:=by subst hm;unfold mstart;grind
set_option maxHeartbeats 40000000 in
set_option maxRecDepth 1000000 in
theorem aaf {g:Nat}{cb:Array Value}{cf:Mv→Mv→Int}{bx off k:Nat}{enc:Mv→List Value}{RW:Array Mv→World→Prop}(L:lT g cb cf bx off k enc RW)(aE:∀w,(isAgg 47).run Tryz.prog w=.ok true w)(zE:∀w,(Go.sizeOf 47).run Tryz.prog w=.ok k w)
  (cap a m b f:Nat) (d:Array Mv) (w:World) (S:RW d w) (ham:a<m) (hmb:m<b) (hma:¬m-a=1) (hbm:¬b-m=1) (hb:b≤d.size) (hsz:d.size<4611686018427387904)
  (ih:∀(a' m' b':Nat) (d':Array Mv) (w':World),b' - a'<b-a→d'.size=d.size→RW d' w'→a'<m'→m'<b'→b'≤d.size →
   Calls Tryz.prog 225 #[.slice (some ⟨bx,off,none⟩) d.size cap,.int .i64 a',.int .i64 m',.int .i64 b',.func (.func g) #[] cb] w' fun e w''=>e=.returned (.tuple #[])∧RW (sym (dO cf) f a' m' b' d') w'') :
  Calls Tryz.prog 225 #[.slice (some ⟨bx,off,none⟩) d.size cap,.int .i64 a,.int .i64 m,.int .i64 b,.func (.func g) #[] cb] w fun e w'=>e=.returned (.tuple #[])∧RW (sym (dO cf) (f+1) a m b d) w':=by
 have mixed:Tryz.prog.follows .mixedOrders=true:=by kernel_rfl
 have eg:=L.eg;have S0:Aside (RW d w):=S;have LL:Aside (lT g cb cf bx off k enc RW):=L;have IH:Aside _:=ih;obtain⟨mid,hmid⟩:∃mid,mid=(a+b) / 2:=⟨_,rfl⟩;obtain⟨lo,hi,hlh⟩:∃lo hi,(mid<m∧lo=mid+m-b∧hi=mid)∨(¬mid<m∧lo=a∧hi=m):=by grind
 have hms:=DY (dO cf) a m b d mid lo hi hmid hlh;obtain⟨s,hs⟩:∃s,s=mstart (dO cf) a m b d:=⟨_,rfl⟩;have hle:lo≤hi:=by omega
 have hsr:lo≤s∧s≤hi:=by rw[hs,hms];exact uP _ _ _ _ hle
 obtain⟨e,he⟩:∃e,e=mid+m-s:=⟨_,rfl⟩;have HSY:Hid (sym (dO cf) (f+1) a m b d=if mid<e∧e<b then sym (dO cf) f mid e b (if a<s∧s<mid then sym (dO cf) f a s mid (if s<m∧m<e then nR m (e-s) (m-s) (e-m) d else d)else(if s<m∧m<e then nR m (e-s) (m-s) (e-m) d else d))else(if a<s∧s<mid then sym (dO cf) f a s mid (if s<m∧m<e then nR m (e-s) (m-s) (e-m) d else d)else(if s<m∧m<e then nR m (e-s) (m-s) (e-m) d else d))):=by show _=_;rw[sym,if_neg hma,if_neg hbm];simp only[←hmid,←hs,←he]
 rw[hms]at hs;have HS:=Lib.hid hs;have HE:=Lib.hid he;have HM:=Lib.hid hmid;have HL:=Lib.hid hlh;have eone:((m:Int)-(a:Int)==1)=false:=by grind
 have eone':((b:Int)-(m:Int)==1)=false:=by grind
 have hmidz:((a:Int)+(b:Int)) / 2=(mid:Int):=by omega
 have hez:(mid:Int)+(m:Int)-(s:Int)=(e:Int):=by omega
 have HSR:=Lib.hid hsr;clear S L ih hmid hms hs he hma hbm hlh hsr;go_enter Tryz.func225,Tryz.ntmps225;go_upto_if 140 with fail
 go_cut [20,21]from 22 (fun s50 s921 wc=>s50=.int .i64 lo∧s921=.int .i64 hi∧Aside (RW d wc));case first =>
  by_cases hgt:mid<m
  ·have hgz:(mid:Int)<(m:Int):=by omega
   have e1:lo=mid+m-b∧hi=mid:=by have:=HL.out;omega
   have e2:(mid:Int)+(m:Int)-(b:Int)=(lo:Int):=by have:=HM.out;omega
   have e3:mid=hi:=e1.2.symm;have E2:=Lib.hid e2;have E3:=Lib.hid e3;clear e1 e2 e3;go_wp2_with fail;go_meet;case rel=>exact⟨by rw[E2.out],by rw[←E3.out],S0⟩
  ·have hgz:¬(mid:Int)<(m:Int):=by omega
   have e1:lo=a∧hi=m:=by have:=HL.out;omega
   have E1:=Lib.hid e1;clear e1;go_wp2_with fail;go_meet;case rel=>exact⟨by rw[E1.out.1],by rw[E1.out.2],S0⟩
 case rest =>
  clear S0;obtain⟨rfl,rfl,S0⟩:=hcut;go_wp2;go_loopg [20,21] (hi-lo+1) (fun kx s50 s921 wr=>∃(i j f':Nat),s50=.int .i64 i∧s921=.int .i64 j∧i≤j∧lo≤i∧j≤hi∧j-i≤f'∧kx=f'+1∧Aside (RW d wr)∧Hid (oS (fun c => !dO cf d[mid+m-1-c]! d[c]!) f' i j=s));case atStart=>grind
  case round =>
   clear S0;obtain⟨i,j,f',rfl,rfl,hij,hi1,hj,hf,rfl,S1,HB⟩:=hrel;by_cases hlt:i<j
   ·have hltz:(i:Int)<(j:Int):=by omega
    obtain⟨f',rfl⟩:∃f2,f'=f2+1:=⟨f' - 1,by omega⟩;obtain⟨h,hh⟩:∃h,h=(i+j) / 2:=⟨_,rfl⟩;have hhz:((i:Int)+(j:Int)) / 2=(h:Int):=by omega
    obtain⟨q,hq⟩:∃q,q=mid+m-1-h:=⟨_,rfl⟩;have hqr:(mid:Int)+(m:Int)-1-(h:Int)=(q:Int)∧q<b:=by have:=HL.out;have:=HM.out;omega
    have hqz:=hqr.1;have HB2:=HB.out;rw[oS,if_pos hlt,←hh,←hq]at HB2;have hA:h<d.size:=by have:=HL.out;have:=HM.out;omega
    have hB:q<d.size:=by omega
    have hAz:(h:Int)<(d.size:Int):=by omega
    have hBz:(q:Int)<(d.size:Int):=by omega
    have hwq:IntKind.i64.wrap (q:Int)=(q:Int):=by rw[IntKind.wrap_i64];omega
    obtain⟨xj,hxj⟩:∃x,d[h]! = x:=⟨_,rfl⟩;obtain⟨xp,hxp⟩:∃x,d[q]! = x:=⟨_,rfl⟩;have lj:∀p:sW RW d,Sem.run Tryz.prog (loadCellsFrom ⟨bx,off+h*k,none⟩ 0 k #[]) p.W=.ok (enc xj).toArray p.W:=fun p=>by rw[←hxj];exact LL.out.load p.h _ hA
    have lp:∀p:sW RW d,Sem.run Tryz.prog (loadCellsFrom ⟨bx,off+q*k,none⟩ 0 k #[]) p.W=.ok (enc xp).toArray p.W:=fun p=>by rw[←hxp];exact LL.out.load p.h _ hB
    have hcg:∀p:sW RW d,Calls Tryz.prog g (#[.agg (enc xp).toArray,.agg (enc xj).toArray]++cb) p.W fun e w'=>e=.returned (.int .i64 (cf xp xj))∧∃p':sW RW d,w'=p'.W:=fun p=>(LL.out.cmp p.h xp xj).mono fun e w' ⟨h1,h2⟩=>⟨h1,⟨w',h2⟩,rfl⟩;have hdr:RW d wr.drew:=LL.out.drew S1.out;have HH:Hid (h=(i+j) / 2):=hh;have HQ:Hid (q=mid+m-1-h):=hq;have hc0:dO cf d[q]! d[h]! = decide (cf xp xj<0):=by rw[hxj,hxp];rfl
    rw[hc0]at HB2;clear S1 hh hq hqr HB hxj hxp hc0;by_cases hlv:cf xp xj<0
    ·simp only[hlv,decide_true,Bool.not_true,cond_false]at HB2;have HB3:Hid (oS (fun c => !dO cf d[mid+m-1-c]! d[c]!) f' i h=s):=HB2;clear HB2;go_wp2_with fail;refine db mixed (by kernel_rfl) hdr ?_;repeat (quiet_step (first|with_reducible rfl|(go_at_fn g;exact hcg _)))
     refine wpQuiet_nil ?_;intro wq hw';obtain⟨⟨wx,hq⟩,hw''⟩:=hw';subst hw'';have S3:Aside (RW d wq):=hq;clear lj lp hcg hdr hq;go_wp2;go_roundg (f'+1);case measure=>omega
     grind
    ·simp only[hlv,decide_false,Bool.not_false,cond_true]at HB2;have hlw:decide (cf xp xj<0)=false:=decide_eq_false hlv;have HB3:Hid (oS (fun c => !dO cf d[mid+m-1-c]! d[c]!) f' (h+1) j=s):=HB2;clear HB2;go_wp2_with fail;refine db mixed (by kernel_rfl) hdr ?_;repeat (quiet_step (first|with_reducible rfl|(go_at_fn g;exact hcg _)))
     refine wpQuiet_nil ?_;intro wq hw';obtain⟨⟨wx,hq⟩,hw''⟩:=hw';subst hw'';have S3:Aside (RW d wq):=hq;clear lj lp hcg hdr hq;go_wp2;go_roundg (f'+1);case measure=>omega
     grind
   ·have hltz:¬(i:Int)<(j:Int):=by omega
    have hir:i=s:=by
     have:=HB.out;cases f' with
     |zero=>exact this
     |succ f'=>rw[oS,if_neg hlt]at this;exact this
    subst hir;clear HB;have LLL:Hid (a≤i∧i≤m∧i≤mid∧mid+m≤b+i∧a<mid∧mid<b):=by have:=HL.out;have:=HM.out;have:=HSR.out;show _∧_;omega
    by_cases h1:i<m
    ·by_cases h2:i<mid
     ·by_cases h3:a<i
      ·by_cases h4:e<b
       ·have Z:=LLL.out;have ZE:=HE.out;have z1:(i:Int)<(m:Int):=by have:=HE.out;have:=LLL.out;omega
        have z2:(m:Int)<(e:Int):=by have:=HE.out;have:=LLL.out;omega
        have z3:(a:Int)<(i:Int):=by have:=HE.out;have:=LLL.out;omega
        have z4:(i:Int)<(mid:Int):=by have:=HE.out;have:=LLL.out;omega
        have z5:(mid:Int)<(e:Int):=by have:=HE.out;have:=LLL.out;omega
        have z6:(e:Int)<(b:Int):=by have:=HE.out;have:=LLL.out;omega
        have y1:(i<m∧m<e):=by omega
        have y2:(a<i∧i<mid):=by omega
        have y3:(mid<e∧e<b):=by omega
        have HSY2:=HSY.out;rw[if_pos y3,if_pos y2,if_pos y1]at HSY2;have HSY3:=Lib.hid HSY2;clear HSY2;have hc1:=Hs LL.out aE zE cap i m e d wr S1.out (by omega) (by omega) (by omega) hsz;have hz1:(nR m (e-i) (m-i) (e-m) d).size=d.size:=(Kz.qX _ _ _ _ _).size.trans rfl;have hc2:∀W,Aside (RW (nR m (e-i) (m-i) (e-m) d) W)→_:=fun W HW=>IH.out a i mid (nR m (e-i) (m-i) (e-m) d) W (by omega) hz1 HW.out (by omega) (by omega) (by omega);have hz2:(sym (dO cf) f a i mid (nR m (e-i) (m-i) (e-m) d)).size=d.size:=(Kz.rQ _ _ _ _ _ _).size.trans hz1;have hc3:∀W,Aside (RW (sym (dO cf) f a i mid (nR m (e-i) (m-i) (e-m) d)) W)→_:=fun W HW=>IH.out mid e b (sym (dO cf) f a i mid (nR m (e-i) (m-i) (e-m) d)) W (by omega) hz2 HW.out (by omega) (by omega) (by omega);have HC2:=Lib.hid hc2;have HC3:=Lib.hid hc3;clear Z ZE y1 y2 y3 S1 hc2 hc3 hz1 hz2;go_wp2_with fail;refine hc1.mono ?_;rintro e1 w1 ⟨rfl,T1⟩;have U1:Aside _:=T1;clear T1 hc1;go_wp2_with fail;refine(HC2.out _ U1).mono ?_;rintro e2 w2 ⟨rfl,T2⟩;have U2:Aside _:=T2;clear T2 U1;go_wp2_with fail;refine(HC3.out _ U2).mono ?_;rintro e3 w3 ⟨rfl,T3⟩;have U3:Aside _:=T3;clear T3 U2;go_wp2;go_end0;exact⟨rfl,by rw[HSY3.out];exact U3.out⟩
       ·have Z:=LLL.out;have ZE:=HE.out;have z1:(i:Int)<(m:Int):=by have:=HE.out;have:=LLL.out;omega
        have z2:(m:Int)<(e:Int):=by have:=HE.out;have:=LLL.out;omega
        have z3:(a:Int)<(i:Int):=by have:=HE.out;have:=LLL.out;omega
        have z4:(i:Int)<(mid:Int):=by have:=HE.out;have:=LLL.out;omega
        have z5:(mid:Int)<(e:Int):=by have:=HE.out;have:=LLL.out;omega
        have z6:¬(e:Int)<(b:Int):=by have:=HE.out;have:=LLL.out;omega
        have y1:(i<m∧m<e):=by omega
        have y2:(a<i∧i<mid):=by omega
        have y3:¬(mid<e∧e<b):=by omega
        have HSY2:=HSY.out;rw[if_neg y3,if_pos y2,if_pos y1]at HSY2;have HSY3:=Lib.hid HSY2;clear HSY2;have hc1:=Hs LL.out aE zE cap i m e d wr S1.out (by omega) (by omega) (by omega) hsz;have hz1:(nR m (e-i) (m-i) (e-m) d).size=d.size:=(Kz.qX _ _ _ _ _).size.trans rfl;have hc2:∀W,Aside (RW (nR m (e-i) (m-i) (e-m) d) W)→_:=fun W HW=>IH.out a i mid (nR m (e-i) (m-i) (e-m) d) W (by omega) hz1 HW.out (by omega) (by omega) (by omega);have HC2:=Lib.hid hc2;clear Z ZE y1 y2 y3 S1 hc2 hz1;go_wp2_with fail;refine hc1.mono ?_;rintro e1 w1 ⟨rfl,T1⟩;have U1:Aside _:=T1;clear T1 hc1;go_wp2_with fail;refine(HC2.out _ U1).mono ?_;rintro e2 w2 ⟨rfl,T2⟩;have U2:Aside _:=T2;clear T2 U1;go_wp2;go_end0;exact⟨rfl,by rw[HSY3.out];exact U2.out⟩
      ·by_cases h4:e<b
       ·have Z:=LLL.out;have ZE:=HE.out;have z1:(i:Int)<(m:Int):=by have:=HE.out;have:=LLL.out;omega
        have z2:(m:Int)<(e:Int):=by have:=HE.out;have:=LLL.out;omega
        have z3:¬(a:Int)<(i:Int):=by have:=HE.out;have:=LLL.out;omega
        have z4:(i:Int)<(mid:Int):=by have:=HE.out;have:=LLL.out;omega
        have z5:(mid:Int)<(e:Int):=by have:=HE.out;have:=LLL.out;omega
        have z6:(e:Int)<(b:Int):=by have:=HE.out;have:=LLL.out;omega
        have y1:(i<m∧m<e):=by omega
        have y2:¬(a<i∧i<mid):=by omega
        have y3:(mid<e∧e<b):=by omega
        have HSY2:=HSY.out;rw[if_pos y3,if_neg y2,if_pos y1]at HSY2;have HSY3:=Lib.hid HSY2;clear HSY2;have hc1:=Hs LL.out aE zE cap i m e d wr S1.out (by omega) (by omega) (by omega) hsz;have hz1:(nR m (e-i) (m-i) (e-m) d).size=d.size:=(Kz.qX _ _ _ _ _).size.trans rfl;have hc2:∀W,Aside (RW (nR m (e-i) (m-i) (e-m) d) W)→_:=fun W HW=>IH.out mid e b (nR m (e-i) (m-i) (e-m) d) W (by omega) hz1 HW.out (by omega) (by omega) (by omega);have HC2:=Lib.hid hc2;clear Z ZE y1 y2 y3 S1 hc2 hz1;go_wp2_with fail;refine hc1.mono ?_;rintro e1 w1 ⟨rfl,T1⟩;have U1:Aside _:=T1;clear T1 hc1;go_wp2_with fail;refine(HC2.out _ U1).mono ?_;rintro e2 w2 ⟨rfl,T2⟩;have U2:Aside _:=T2;clear T2 U1;go_wp2;go_end0;exact⟨rfl,by rw[HSY3.out];exact U2.out⟩
       ·have Z:=LLL.out;have ZE:=HE.out;have z1:(i:Int)<(m:Int):=by have:=HE.out;have:=LLL.out;omega
        have z2:(m:Int)<(e:Int):=by have:=HE.out;have:=LLL.out;omega
        have z3:¬(a:Int)<(i:Int):=by have:=HE.out;have:=LLL.out;omega
        have z4:(i:Int)<(mid:Int):=by have:=HE.out;have:=LLL.out;omega
        have z5:(mid:Int)<(e:Int):=by have:=HE.out;have:=LLL.out;omega
        have z6:¬(e:Int)<(b:Int):=by have:=HE.out;have:=LLL.out;omega
        have y1:(i<m∧m<e):=by omega
        have y2:¬(a<i∧i<mid):=by omega
        have y3:¬(mid<e∧e<b):=by omega
        have HSY2:=HSY.out;rw[if_neg y3,if_neg y2,if_pos y1]at HSY2;have HSY3:=Lib.hid HSY2;clear HSY2;have hc1:=Hs LL.out aE zE cap i m e d wr S1.out (by omega) (by omega) (by omega) hsz;clear Z ZE y1 y2 y3 S1;go_wp2_with fail;refine hc1.mono ?_;rintro e1 w1 ⟨rfl,T1⟩;have U1:Aside _:=T1;clear T1 hc1;go_wp2;go_end0;exact⟨rfl,by rw[HSY3.out];exact U1.out⟩
     ·by_cases h3:a<i
      ·by_cases h4:e<b
       ·have Z:=LLL.out;have ZE:=HE.out;have z1:(i:Int)<(m:Int):=by have:=HE.out;have:=LLL.out;omega
        have z2:¬(m:Int)<(e:Int):=by have:=HE.out;have:=LLL.out;omega
        have z3:(a:Int)<(i:Int):=by have:=HE.out;have:=LLL.out;omega
        have z4:¬(i:Int)<(mid:Int):=by have:=HE.out;have:=LLL.out;omega
        have z5:(mid:Int)<(e:Int):=by have:=HE.out;have:=LLL.out;omega
        have z6:(e:Int)<(b:Int):=by have:=HE.out;have:=LLL.out;omega
        have y1:¬(i<m∧m<e):=by omega
        have y2:¬(a<i∧i<mid):=by omega
        have y3:(mid<e∧e<b):=by omega
        have HSY2:=HSY.out;rw[if_pos y3,if_neg y2,if_neg y1]at HSY2;have HSY3:=Lib.hid HSY2;clear HSY2;have hc1:=IH.out mid e b d wr (by omega) rfl S1.out (by omega) (by omega) (by omega);clear Z ZE y1 y2 y3 S1;go_wp2_with fail;refine hc1.mono ?_;rintro e1 w1 ⟨rfl,T1⟩;have U1:Aside _:=T1;clear T1 hc1;go_wp2;go_end0;exact⟨rfl,by rw[HSY3.out];exact U1.out⟩
       omega
      omega
    ·by_cases h2:i<mid
     ·by_cases h3:a<i
      ·by_cases h4:e<b
       ·have Z:=LLL.out;have ZE:=HE.out;have z1:¬(i:Int)<(m:Int):=by have:=HE.out;have:=LLL.out;omega
        have z2:(m:Int)<(e:Int):=by have:=HE.out;have:=LLL.out;omega
        have z3:(a:Int)<(i:Int):=by have:=HE.out;have:=LLL.out;omega
        have z4:(i:Int)<(mid:Int):=by have:=HE.out;have:=LLL.out;omega
        have z5:¬(mid:Int)<(e:Int):=by have:=HE.out;have:=LLL.out;omega
        have z6:(e:Int)<(b:Int):=by have:=HE.out;have:=LLL.out;omega
        have y1:¬(i<m∧m<e):=by omega
        have y2:(a<i∧i<mid):=by omega
        have y3:¬(mid<e∧e<b):=by omega
        have HSY2:=HSY.out;rw[if_neg y3,if_pos y2,if_neg y1]at HSY2;have HSY3:=Lib.hid HSY2;clear HSY2;have hc1:=IH.out a i mid d wr (by omega) rfl S1.out (by omega) (by omega) (by omega);clear Z ZE y1 y2 y3 S1;go_wp2_with fail;refine hc1.mono ?_;rintro e1 w1 ⟨rfl,T1⟩;have U1:Aside _:=T1;clear T1 hc1;go_wp2;go_end0;exact⟨rfl,by rw[HSY3.out];exact U1.out⟩
       omega
      omega
     ·by_cases h3:a<i
      ·by_cases h4:e<b
       ·have Z:=LLL.out;have ZE:=HE.out;have z1:¬(i:Int)<(m:Int):=by have:=HE.out;have:=LLL.out;omega
        have z2:¬(m:Int)<(e:Int):=by have:=HE.out;have:=LLL.out;omega
        have z3:(a:Int)<(i:Int):=by have:=HE.out;have:=LLL.out;omega
        have z4:¬(i:Int)<(mid:Int):=by have:=HE.out;have:=LLL.out;omega
        have z5:¬(mid:Int)<(e:Int):=by have:=HE.out;have:=LLL.out;omega
        have z6:(e:Int)<(b:Int):=by have:=HE.out;have:=LLL.out;omega
        have y1:¬(i<m∧m<e):=by omega
        have y2:¬(a<i∧i<mid):=by omega
        have y3:¬(mid<e∧e<b):=by omega
        have HSY2:=HSY.out;rw[if_neg y3,if_neg y2,if_neg y1]at HSY2;have HSY3:=Lib.hid HSY2;clear HSY2;clear Z ZE y1 y2 y3;go_wp2;go_end0;exact⟨rfl,by rw[HSY3.out];exact S1.out⟩
       omega
      omega
theorem NN {g:Nat}{cb:Array Value}{cf:Mv→Mv→Int}{bx off k:Nat}{enc:Mv→List Value}{RW:Array Mv→World→Prop}(L:lT g cb cf bx off k enc RW)(aE:∀w,(isAgg 47).run Tryz.prog w=.ok true w)(zE:∀w,(Go.sizeOf 47).run Tryz.prog w=.ok k w)
  (cap N:Nat) (hsz:N<4611686018427387904):∀(f a m b:Nat) (d:Array Mv) (w:World),b-a≤f→d.size=N→RW d w→a<m→m<b→b≤N →
  Calls Tryz.prog 225 #[.slice (some ⟨bx,off,none⟩) N cap,.int .i64 a,.int .i64 m,.int .i64 b,.func (.func g) #[] cb] w fun e w'=>e=.returned (.tuple #[])∧RW (sym (dO cf) f a m b d) w'
 | 0,a,m,b,d,w,h,_,_,h1,h2,_=>by omega
 |f+1,a,m,b,d,w,h,hd,S,h1,h2,h3=>by
  subst hd
  by_cases c1:m-a=1
  ·rw[sym,if_pos c1]
   exact aa4 L aE zE cap a m b d w S c1 h2 h3 hsz
  ·by_cases c2:b-m=1
   ·rw[sym,if_neg c1,if_pos c2]
    exact abv L aE zE cap a m b d w S h1 c1 c2 h3 hsz
   ·exact aaf L aE zE cap a m b f d w S h1 h2 c1 c2 h3 hsz (fun a' m' b' d' w' k1 k2 k3 k4 k5 k6=>NN L aE zE cap d.size hsz f a' m' b' d' w' (by omega) k2 k3 k4 k5 k6)
set_option maxHeartbeats 8000000 in
set_option maxRecDepth 1000000 in
theorem abD {g:Nat}{cb:Array Value}{cf:Mv→Mv→Int}{bx off k:Nat}{enc:Mv→List Value}{RW:Array Mv→World→Prop}(L:lT g cb cf bx off k enc RW)(aE:∀w,(isAgg 47).run Tryz.prog w=.ok true w)(zE:∀w,(Go.sizeOf 47).run Tryz.prog w=.ok k w)
  (cap n:Nat) (d:Array Mv) (w:World) (hn:d.size=n) (S:RW d w) (hsz:n<1152921504606846976) :
  Calls Tryz.prog 170 #[.slice (some ⟨bx,off,none⟩) n cap,.int .i64 n,.func (.func g) #[] cb] w fun e w'=>e=.returned (.tuple #[])∧RW (sU (dO cf) d) w':=by
 have S0:Aside (RW d w):=S;have LL:Aside (lT g cb cf bx off k enc RW):=L;have HST:Hid (sU (dO cf) d=ir (dO cf) n (n+1) 20 (qu (dO cf) n (n+1) 0 d)):=by subst hn;rfl
 have HN:=Lib.hid hn;clear S L hn;go_enter Tryz.func170,Tryz.ntmps170;go_wp2;go_loopg [7,8] (n+1) (fun kx s7 s8 wr=>∃(q:Nat) (dk:Array Mv),s7=.int .i64 q∧s8=.int .i64 ((q:Int)+20)∧q≤n∧n-q<kx∧Aside (dk.size=n)∧Aside (RW dk wr)∧Hid (qu (dO cf) n kx q dk=qu (dO cf) n (n+1) 0 d));case atStart=>exact⟨0,d,rfl,rfl,by omega,by omega,HN.out,S0,rfl⟩
 case round =>
  clear S0;obtain⟨q,dk,rfl,rfl,hq,hk,hds,S1,HE⟩:=hrel;obtain⟨f,rfl⟩:∃f,gk=f+1:=⟨gk-1,by omega⟩;by_cases c:q+20≤n
  ·have cz:(q:Int)+20≤(n:Int):=by omega
   have hc:=Wk LL.out aE zE cap q (q+20) dk wr S1.out (by omega) (by rw[hds.out];exact c) (by rw[hds.out];omega);rw[hds.out,show((q+20:Nat):Int)=(q:Int)+20 by omega]at hc;have HE2:Hid (qu (dO cf) n f (q+20) (ins (dO cf) q (q+20) dk)=qu (dO cf) n (n+1) 0 d):=by have:=HE.out;rw[qu,if_pos c]at this;exact this
   have hds2:Aside ((ins (dO cf) q (q+20) dk).size=n):=(Kz.Aw _ _ _ dk).size.trans hds.out;clear S1 HE;go_wp2_with fail;refine hc.mono ?_;rintro e w1 ⟨rfl,S3⟩;have S4:Aside _:=S3;clear S3;go_wp2;go_roundg f;case measure=>omega
   grind
  ·have cz:¬(q:Int)+20≤(n:Int):=by omega
   have hc:=Wk LL.out aE zE cap q n dk wr S1.out hq (by rw[hds.out];exact Nat.le_refl _) (by rw[hds.out];omega);rw[hds.out]at hc;have hds2:Aside ((ins (dO cf) q n dk).size=n):=(Kz.Aw _ _ _ dk).size.trans hds.out;have HE2:ins (dO cf) q n dk=qu (dO cf) n (n+1) 0 d:=by have:=HE.out;rw[qu,if_neg c]at this;exact this
   rw[HE2]at hc hds2;clear S1 HE HE2;go_wp2_with fail;refine hc.mono ?_;rintro e w1 ⟨rfl,S3⟩;have S4:Aside _:=S3;clear S3 hc hds;generalize hD1:qu (dO cf) n (n+1) 0 d=D1 at S4 hds2;have HST2:Hid (sU (dO cf) d=ir (dO cf) n (n+1) 20 D1):=by have:=HST.out;rw[hD1]at this;exact this
   clear HST hD1;go_wp2;go_loopg [6] (n+1) (fun kx s6 wr=>∃(s:Nat) (dk:Array Mv),s6=.int .i64 s∧1≤s∧n<s+kx∧s≤2*n+20∧Aside (dk.size=n)∧Aside (RW dk wr)∧Hid (sU (dO cf) d=ir (dO cf) n kx s dk));case atStart=>grind
   case round =>
    clear S4 hds2 HST2;obtain⟨s,dk,rfl,hs1,hk2,hs2,hds,S1,HE⟩:=hrel;by_cases c2:s<n
    ·have cz2:(s:Int)<(n:Int):=by omega
     obtain⟨f2,rfl⟩:∃f,gk=f+1:=⟨gk-1,by omega⟩;have HE2:Hid (sU (dO cf) d=ir (dO cf) n f2 (2*s) (pass (dO cf) n s (n+1) 0 dk)):=by have:=HE.out;rw[ir,if_pos c2]at this;exact this
     have hds3:Aside ((pass (dO cf) n s (n+1) 0 dk).size=n):=(Kz.zI _ _ _ _ _ dk).size.trans hds.out;clear HE;generalize hD2:pass (dO cf) n s (n+1) 0 dk=D2 at HE2 hds3;have HD2:Hid (pass (dO cf) n s (n+1) 0 dk=D2):=hD2;clear hD2;go_wp2;go_loopg [7,8] (n+1) (fun kx s7 s8 wr=>∃(q:Nat) (dj:Array Mv),s7=.int .i64 q∧s8=.int .i64 ((q:Int)+2*(s:Int))∧q≤n∧n-q<kx∧Aside (dj.size=n)∧Aside (RW dj wr)∧Hid (pass (dO cf) n s kx q dj=D2));case atStart=>grind
     case round =>
      clear S1 HD2 hds;obtain⟨q,dj,rfl,rfl,hq,hk3,hds,S1,HE⟩:=hrel;obtain⟨f3,rfl⟩:∃f,gk=f+1:=⟨gk-1,by omega⟩;by_cases c3:q+2*s≤n
      ·have cz3:(q:Int)+2*(s:Int)≤(n:Int):=by omega
       have hc:=NN LL.out aE zE cap n (by omega) (n+1) q (q+s) (q+2*s) dj wr (by omega) hds.out S1.out (by omega) (by omega) c3;rw[show((q+s:Nat):Int)=(q:Int)+(s:Int)by omega,show((q+2*s:Nat):Int)=(q:Int)+2*(s:Int)by omega]at hc;have HE3:Hid (pass (dO cf) n s f3 (q+2*s) (sym (dO cf) (n+1) q (q+s) (q+2*s) dj)=D2):=by have:=HE.out;rw[pass,if_pos c3]at this;exact this
       have hds4:Aside ((sym (dO cf) (n+1) q (q+s) (q+2*s) dj).size=n):=(Kz.rQ _ _ _ _ _ dj).size.trans hds.out;clear S1 HE;go_wp2_with fail;refine hc.mono ?_;rintro e w1 ⟨rfl,S3⟩;have S4:Aside _:=S3;clear S3;go_wp2;go_roundg f3;case measure=>omega
       grind
      ·have cz3:¬(q:Int)+2*(s:Int)≤(n:Int):=by omega
       by_cases c4:q+s<n
       ·have cz4:(q:Int)+(s:Int)<(n:Int):=by omega
        have hc:=NN LL.out aE zE cap n (by omega) (n+1) q (q+s) n dj wr (by omega) hds.out S1.out (by omega) (by omega) (by omega);rw[show((q+s:Nat):Int)=(q:Int)+(s:Int)by omega]at hc;have HE3:sym (dO cf) (n+1) q (q+s) n dj=D2:=by have:=HE.out;rw[pass,if_neg c3,if_pos c4]at this;exact this
        rw[HE3]at hc;clear S1 HE HE3;go_wp2_with fail;refine hc.mono ?_;rintro e w1 ⟨rfl,S3⟩;have S4:Aside _:=S3;clear S3;go_wp2;go_roundg f2;case measure=>omega
        grind
       ·have cz4:¬(q:Int)+(s:Int)<(n:Int):=by omega
        have HE3:dj=D2:=by have:=HE.out;rw[pass,if_neg c3,if_neg c4]at this;exact this
        rw[HE3]at S1;clear HE HE3;go_wp2;go_roundg f2;case measure=>omega
        grind
    ·have cz2:¬(s:Int)<(n:Int):=by omega
     go_wp2;go_end0;refine⟨rfl,?_⟩;rw[HE.out];cases gk with
     |zero=>rw[ir];exact S1.out
     |succ f=>rw[ir,if_neg c2];exact S1.out
set_option maxHeartbeats 4000000 in
set_option maxRecDepth 1000000 in
theorem Ap {g:Nat}{cb:Array Value}{cf:Mv→Mv→Int}{bx off k:Nat}{enc:Mv→List Value}{RW:Array Mv→World→Prop}(L:lT g cb cf bx off k enc RW)(aE:∀w,(isAgg 47).run Tryz.prog w=.ok true w)(zE:∀w,(Go.sizeOf 47).run Tryz.prog w=.ok k w)
  (cap n:Nat) (d:Array Mv) (w:World) (hn:d.size=n) (S:RW d w) (hsz:n<1152921504606846976) :
  Calls Tryz.prog 104 #[.slice (some ⟨bx,off,none⟩) n cap,.func (.func g) #[] cb] w fun e w'=>e=.returned (.tuple #[])∧RW (sU (dO cf) d) w':=by have hc:=abD L aE zE cap n d w hn S hsz;have HC:=Lib.hid hc;clear hc L S hn;go_enter Tryz.func104,Tryz.ntmps104;go_wp2_with fail;refine HC.out.mono ?_;rintro e w1 ⟨rfl,S3⟩;go_wp2;go_end0;exact⟨rfl,S3⟩
end Go.Proofs
namespace Go.Proofs
open Go.Shelf
def Tryz.lL:Go.Shelf.Ren:=⟨fun | 4=>188|n=>n,fun | 22=>34 | 25=>47 | 3=>3 | 4=>4 | 9=>9 | 20=>20 | 0=>0|n=>n,fun|n=>n⟩
theorem Tryz.grow:Go.Proofs.Lays8.n4 Tryz.prog Tryz.lL:={
 mixed:=by kernel_rfl
 f4:=⟨Tryz.f188.name,by decide,Tryz.func188.trans (congrArg some (by kernel_rfl))⟩
 t0:=Tryz.underlying0
 a0:=Tryz.isAgg0
 z0:=Tryz.sizeOf0
 v0:=Tryz.zeroValue0
 t3:=Tryz.underlying3
 a3:=Tryz.isAgg3
 z3:=Tryz.sizeOf3
 v3:=Tryz.zeroValue3
 t4:=Tryz.underlying4
 a4:=Tryz.isAgg4
 z4:=Tryz.sizeOf4
 v4:=Tryz.zeroValue4
 t9:=Tryz.underlying9
 a9:=Tryz.isAgg9
 z9:=Tryz.sizeOf9
 v9:=Tryz.zeroValue9
 t20:=Tryz.underlying20
 a20:=Tryz.isAgg20
 z20:=Tryz.sizeOf20
 v20:=Tryz.zeroValue20
 t22:=Tryz.underlying34
 a22:=Tryz.isAgg34
 z22:=Tryz.sizeOf34
 v22:=Tryz.zeroValue34 }
def Tryz.EN:Go.Shelf.Ren:=⟨fun | 41=>123|n=>n,fun | 22=>34 | 23=>47 | 4=>4|n=>n,fun|n=>n⟩
theorem Tryz.Ak:Go.Proofs.SlLaysE0.n41 Tryz.prog Tryz.EN:={
 mixed:=by kernel_rfl
 f41:=⟨Tryz.f123.name,by decide,Tryz.func123.trans (congrArg some (by kernel_rfl))⟩
 t4:=Tryz.underlying4
 a4:=Tryz.isAgg4
 z4:=Tryz.sizeOf4
 v4:=Tryz.zeroValue4
 t22:=Tryz.underlying34
 a22:=Tryz.isAgg34
 z22:=Tryz.sizeOf34
 v22:=Tryz.zeroValue34 }
def Tryz.Qw:Go.Shelf.Ren:=⟨fun | 6=>110|n=>n,fun | 22=>34 | 23=>47 | 25=>74 | 3=>3 | 0=>0 | 4=>4|n=>n,fun|n=>n⟩
theorem Tryz.ajo:Go.Proofs.SlLaysH0.n6 Tryz.prog Tryz.Qw:={
 mixed:=by kernel_rfl
 f6:=⟨Tryz.f110.name,by decide,Tryz.func110.trans (congrArg some (by kernel_rfl))⟩
 t0:=Tryz.underlying0
 a0:=Tryz.isAgg0
 z0:=Tryz.sizeOf0
 v0:=Tryz.zeroValue0
 t3:=Tryz.underlying3
 a3:=Tryz.isAgg3
 z3:=Tryz.sizeOf3
 v3:=Tryz.zeroValue3
 t4:=Tryz.underlying4
 a4:=Tryz.isAgg4
 z4:=Tryz.sizeOf4
 v4:=Tryz.zeroValue4
 t22:=Tryz.underlying34
 a22:=Tryz.isAgg34
 z22:=Tryz.sizeOf34
 v22:=Tryz.zeroValue34
 t25:=Tryz.underlying74
 a25:=Tryz.isAgg74
 z25:=Tryz.sizeOf74
 v25:=Tryz.zeroValue74 }
end Go.Proofs
namespace Go.Proofs
open Go.Shelf Go.RowKit Go.Lib Go.Sort
def bP (m:Kz.Mv):List Value:=[.int .i8 m.aD,.int .i8 m.to,.int .u8 m.bU,.int .u8 m.bh,.bool m.bZ]
theorem fD (m:Kz.Mv):(bP m).length=5:=rfl
structure dq (w:World)(bx cap:Nat)(ty:TypeId)(dk:Array Kz.Mv)(W:World):Prop where
 os:W.os=w.os
 tape:W.tape=w.tape
 output:W.output=w.output
 size:w.heap.size≤W.heap.size
 other:∀k,k<w.heap.size→k≠bx→W.heap[k]?=w.heap[k]?
 row:∃cur,W.heap[bx]?=some (.cells cur ty (0,0))∧cur.size=cap*5∧∀j c,j<dk.size→c<5→cur[j*5+c]?=(bP dk[j]!)[c]?
theorem dq.below {w W W':World}{bx cap:Nat}{ty:TypeId}{dk:Array Kz.Mv}(h:dq w bx cap ty dk W)(hb:bx<w.heap.size)(b:Below W.heap.size W W'):dq w bx cap ty dk W' :=
 ⟨b.os.trans h.os,b.tape.trans h.tape,b.output.trans h.output,Nat.le_trans h.size b.size,fun k hk hn=>by rw[b.block k (Nat.lt_of_lt_of_le hk h.size)];exact h.other k hk hn,by
  obtain⟨cur,h1,h2⟩:=h.row
  exact⟨cur,by rw[b.block bx (Nat.lt_of_lt_of_le hb h.size)];exact h1,h2⟩⟩
theorem dq.setCells {w W:World}{bx cap:Nat}{ty:TypeId}{dk dk':Array Kz.Mv}(h:dq w bx cap ty dk W)(vs:List Value)(o:Nat)
  (hd:∀j c,j<dk'.size→c<5→j<dk.size∧(if o≤j*5+c∧j*5+c<o+vs.length then vs[j*5+c-o]? else(bP dk[j]!)[c]?)=(bP dk'[j]!)[c]?) (hlen:o+vs.length≤cap*5):dq w bx cap ty dk' (W.setCells bx o vs):=by
 obtain⟨cur,h1,h2,h3⟩:=h.row;have hb:=Kz.aB h1
 have key:∀(vs:List Value) (o:Nat) (W:World) (cur:Array Value),W.heap[bx]?=some (.cells cur ty (0,0))→o+vs.length≤cur.size →
   ∃cur',W.setCells bx o vs=Kz.bk W bx (.cells cur' ty (0,0))∧cur'.size=cur.size∧∀t,t<cur.size→cur'[t]?=if o≤t∧t<o+vs.length then vs[t-o]? else cur[t]? := by
  intro vs
  induction vs with
  |nil =>
   intro o W cur hW _
   refine⟨cur,?_,rfl,by simp_all⟩
   rw[World.setCells]
   simp only[Kz.bk]
   have:W.heap.setIfInBounds bx (.cells cur ty (0,0))=W.heap:=by
    apply Array.ext_getElem?
    intro i
    rw[Array.getElem?_setIfInBounds]
    split
    ·grind
    ·rfl
   rw[this]
  |cons v vs ih =>
   intro o W cur hW hl
   simp only[List.length_cons]at hl
   have e1:W.setCell ⟨bx,o,none⟩ v=Kz.bk W bx (.cells (cur.setIfInBounds o v) ty (0,0)):=Kz.iV hW v
   obtain⟨cur',a1,a2,a3⟩:=ih (o+1) (Kz.bk W bx (.cells (cur.setIfInBounds o v) ty (0,0))) (cur.setIfInBounds o v) (Kz.cx hW) (by simp;omega)
   refine⟨cur',?_,by rw[a2];simp,fun t ht=>?_⟩
   ·rw[World.setCells,e1,a1]
    simp[Kz.bk]
   grind
 obtain⟨cur',a1,a2,a3⟩:=key vs o W cur h1 (by omega);rw[a1];refine⟨h.os,h.tape,h.output,by rw[Kz.cG];exact h.size,fun k hk hn=>by rw[Kz.aN hn];exact h.other k hk hn,cur',Kz.cx h1,by rw[a2,h2],fun j c hj hc=>?_⟩;grind
theorem dq.put {w W:World}{bx cap:Nat}{ty:TypeId}{dk:Array Kz.Mv}(h:dq w bx cap ty dk W){i:Nat}(hi:i<dk.size)(hc:dk.size≤cap)(u:Kz.Mv):dq w bx cap ty (dk.setIfInBounds i u) (W.setCells bx (i*5) (bP u)):=by
 refine h.setCells (bP u) (i*5) (fun j c hj hc=>?_) (by rw[fD];omega);have hj':j<dk.size:=by simpa using hj
 refine⟨hj',?_⟩;rw[fD];grind
theorem dq.tail {w W:World}{bx cap:Nat}{ty:TypeId}{dk:Array Kz.Mv}(h:dq w bx cap ty dk W){i n:Nat}(hn:i+n≤cap)(hi:i≤dk.size)(vs:List Value)(hl:vs.length=n*5):dq w bx cap ty (dk.toList.take i).toArray (W.setCells bx (i*5) vs):=by refine h.setCells vs (i*5) (fun j c hj hc=>?_) (by omega);grind
theorem dq.same {w W:World}{bx cap:Nat}{ty:TypeId}{dk:Array Kz.Mv}(h:dq w bx cap ty dk W){i:Nat}(hi:i≤dk.size):dq w bx cap ty (dk.toList.take i).toArray W:=by obtain⟨cur,h1,h2,h3⟩:=h.row;refine⟨h.os,h.tape,h.output,h.size,h.other,cur,h1,h2,fun j c hj hc=>?_⟩;grind
def jW:Array Value := #[Value.int IntKind.i8 0,Value.int IntKind.i8 0,Value.int IntKind.u8 0,Value.int IntKind.u8 0,Value.bool false]
theorem I4 (n:Nat):∀v∈(Builtin.zeroCells jW n).toList,v.oneCell'=true:=by
 intro v hv;simp only[Builtin.zeroCells,Array.toList_map,List.mem_map]at hv;obtain⟨i,_,rfl⟩:=hv;have:i%jW.size<5:=Nat.mod_lt _ (by decide);generalize i%jW.size=t at this;match t,this with
 | 0,_ | 1,_ | 2,_ | 3,_ | 4,_=>rfl
 |t+5,h=>omega
theorem nh (n:Nat):(Builtin.zeroCells jW n).toList.length=n*5:=by simp[Builtin.zeroCells,jW]
theorem we (W:World)(b o n c:Nat)(hn:0<n)(hc:∀t,t<n*5→(W.cell? ⟨b,o+t,none⟩).isSome=true)(hf:∀t,t<n*5→W.frozen? ⟨b,o+t,none⟩=false)(ty:TypeId) :
  (Builtin.clear_ #[34] ty #[.slice (some ⟨b,o,none⟩) n c]).run Tryz.prog W=.ok (.tuple #[]) (W.setCells b o (Builtin.zeroCells jW n).toList):=by have hst:=run_storeCells_cells (P:=Tryz.prog) b o (Builtin.zeroCells jW n).toList 0 W (by rw[nh];simpa using hc) (by rw[nh];simpa using hf) (I4 n);simp only[Nat.add_zero]at hst;obtain⟨m,rfl⟩:∃m,n=m+1:=⟨n-1,by omega⟩;have hz:(Value.agg jW).cells=jW:=rfl;have hv:∀w,(zeroValue 47).run Tryz.prog w=.ok (.agg jW) w:=Tryz.zeroValue47;simp only[jW]at hst hz hv;simp[Builtin.clear_,run_underlying Tryz.underlying34,hv,hz,hst];rfl
theorem dq.cell {w W:World}{bx cap:Nat}{ty:TypeId}{dk:Array Kz.Mv}(h:dq w bx cap ty dk W){j:Nat}(hj:j<dk.size)(c:Nat)(hc:c<5):W.cell? ⟨bx,j*5+c,none⟩=some ((bP dk[j]!)[c]'hc)∧W.frozen? ⟨bx,j*5+c,none⟩=false:=by obtain⟨cur,h1,h2,h3⟩:=h.row;refine⟨?_,Kz.bQ h1⟩;rw[Kz.aw h1,h3 j c hj hc];simp_all
theorem dq.load {w W:World}{bx cap:Nat}{ty:TypeId}{dk:Array Kz.Mv}(h:dq w bx cap ty dk W){j:Nat}(hj:j<dk.size):Sem.run Tryz.prog (loadCellsFrom ⟨bx,0+j*5,none⟩ 0 5 #[]) W=.ok (bP dk[j]!).toArray W :=
 run_loadCellsFrom_list Tryz.prog _ _ (bP dk[j]!) 5 rfl (fun c v hc=>by
  have hc5:c<5:=(C'.1 hc).1
  obtain⟨cur,h1,h2,h3⟩:=h.row
  rw[Addr.add_lit]
  rw[Kz.aw h1,Nat.zero_add,h3 j c hj hc5]
  exact hc)
set_option maxHeartbeats 1000000 in
set_option maxRecDepth 100000 in
theorem adH (p:Kz.Mv→Bool)(g:Nat)(lb:Array Value)(eg:∀args w,(callFunc g args).run Tryz.prog w=.ok (.enter g args) w)(bx cap:Nat)(d:Array Kz.Mv)(w:World)(hb:bx<w.heap.size)(hH:dq w bx cap 47 d w)(hcap:d.size≤cap)(hmax:cap≤maxLen)
  (hpo:∀W dk x,dq w bx cap 47 dk W→Calls Tryz.prog g (#[.agg (bP x).toArray]++lb) W fun e w'=>e=.returned (.bool (p x))∧RowKit.Below W.heap.size W w') :
  Calls Tryz.prog 49 #[.slice (some ⟨bx,0,none⟩) d.size cap,.func (.func g) #[] lb] w fun e w'=>e=.returned (.slice (some ⟨bx,0,none⟩) (d.toList.filter fun x => !p x).length cap)∧dq w bx cap 47 (d.toList.filter fun x => !p x).toArray w':=by
 have hsz:d.size≤9223372036854775807:=by unfold maxLen at hmax;omega
 have e6:∀args w,(callFunc 110 args).run Tryz.prog w=.ok (.enter 110 args) w:=fun args w=>by rfl
 have hp:PredBelow Tryz.prog g lb (fun x=>.agg (bP x).toArray) p w:=fun W x hB=>(hpo W d x (hH.below hb hB)).mono fun e w' ⟨h1,h2⟩=>⟨h1,hB.trans (h2.mono hB.size)⟩
 have hIF:=AnyQ.slices_IndexFunc Tryz.ajo 5 Tryz.isAgg47 Tryz.sizeOf47 bP fD p g lb eg bx 0 d.size cap d.toList w hp (by simp) hsz hb (fun j hj i v hi=>by
  have hi5:i<5:=(C'.1 hi).1
  have hj':j<d.size:=by simpa using hj
  obtain⟨cur,h1,h2,h3⟩:=hH.row
  rw[Kz.aw h1,Nat.zero_add,h3 j i hj' hi5]
  simp_all)
 rw[show d.toList.take d.size=d.toList from List.take_of_length_le (by simp)]at hIF;have tl:∀j,j<d.size→d.toList[j]! = d[j]! := by simp_all
 obtain⟨kp,HK⟩:∃kp:Nat→Bool,Hid (kp=fun j => !p d[j]!):=⟨_,rfl⟩;have hfil:(d.toList.filter fun x => !p x)=keptUpTo kp d d.size:=by rw[HK.out];exact(keptUpTo_filter (fun x => !p x) d).symm
 rw[hfil];rcases idxByFrom_spec (fun _ y=>p y) default d.toList 0 with⟨e1,hall⟩|⟨k0,hk0,e1,ht,hall⟩
 ·have e2:Lib.idxBy (fun _ y=>p y) d.toList default = -1:=e1;rw[e2]at hIF;have hkeep:∀j,j<d.size→kp j=true:=fun j hj=>by rw[HK.out];simp_all
  have e3:keptUpTo kp d d.size=d.toList:=by rw[keptUpTo_all kp d _ hkeep,range_map_get]
  have HH:Aside (dq w bx cap 47 d w):=hH;have HB:Hid (bx<w.heap.size):=hb;clear hH hpo hp hb;go_enter Tryz.func49,Tryz.ntmps49;go_wp2_with (go_at_fn 110;refine hIF.mono ?_;rintro e w' ⟨rfl,hbl⟩);go_ret;rw[e3];exact⟨by simp,by simpa using HH.out.below HB.out hbl⟩
 ·have hk0':k0<d.size:=by simpa using hk0
  have e2:Lib.idxBy (fun _ y=>p y) d.toList default=(k0:Int):=by unfold Lib.idxBy;rw[e1];simp
  rw[e2]at hIF;have hkeep:∀j,j<k0→kp j=true:=fun j hj=>by rw[HK.out];grind
  have hdrop:kp k0=false:=by rw[HK.out];show(!p d[k0]!)=false;rw[←tl k0 hk0'];rw[show p d.toList[k0]! = true from ht];rfl
  have hne1:((k0:Int) == -1)=false:=by simp_all
  have HC:Aside _:=hpo;have HH:Aside (dq w bx cap 47 d w):=hH;have HB:Hid (bx<w.heap.size):=hb;clear hpo hp hH hb hall ht e1 e2 tl;go_enter Tryz.func49,Tryz.ntmps49;go_wp2_with (go_at_fn 110;refine hIF.mono ?_;rintro e w' ⟨rfl,hbl⟩);have HBL:=Lib.hid hbl;clear hbl;go_loopg [5,6,7] d.size (fun gg s5 s6 _ wr=>∃(i j:Nat) (dk:Array Kz.Mv),s5=.int .i64 i∧s6=.int .i64 j∧j≤d.size∧d.size-j≤gg∧Aside (dq w bx cap 47 dk wr)∧Aside (KeptInv kp d j i dk));case atStart=>exact⟨k0,k0+1,d,rfl,by go_num,by omega,by omega,HH.out.below HB.out HBL.out,KeptInv.start hkeep hdrop⟩
  case round =>
   obtain⟨i,j,dk,rfl,rfl,hjd,hgg,W2,I2⟩:=hrel;have hI:=I2.out;have hij:=hI.lt;have hds:=hI.size;by_cases hlt:j<d.size
   ·have hltz:(j:Int)<(d.size:Int):=by omega
    have c0:=(W2.out.cell (j:=j) (by omega) 0 (by omega)).1;have c1:=(W2.out.cell (j:=j) (by omega) 1 (by omega)).1;have c2:=(W2.out.cell (j:=j) (by omega) 2 (by omega)).1;have c3:=(W2.out.cell (j:=j) (by omega) 3 (by omega)).1;have c4:=(W2.out.cell (j:=j) (by omega) 4 (by omega)).1;simp only[hI.high j (by omega),bP,List.getElem_cons_succ,List.getElem_cons_zero,Nat.add_zero]at c0 c1 c2 c3 c4;clear hI;generalize hu:d[j]! = u at c0 c1 c2 c3 c4;have C:Aside (d[j]! = u):=hu;clear hu
    have hW1:dq w bx cap 47 dk (wr.alloc (Obj.cells #[Value.int IntKind.i8 u.aD,Value.int IntKind.i8 u.to,Value.int IntKind.u8 u.bU,Value.int IntKind.u8 u.bh,Value.bool u.bZ] 47)) :=
     W2.out.below HB.out ((Below.refl _ _).alloc (Nat.le_refl _) _)
    have hcall:Calls Tryz.prog g (#[Value.agg #[Value.int IntKind.i8 u.aD,Value.int IntKind.i8 u.to,Value.int IntKind.u8 u.bU,Value.int IntKind.u8 u.bh,Value.bool u.bZ]]++lb) _ _:=HC.out _ dk u hW1;have HW1:=Lib.hid hW1;clear hW1;cases hq:p u with
    |false =>
     rw[hq]at hcall;have HCALL:=Lib.hid hcall;clear hcall;go_wp2_with fail;refine HCALL.out.mono ?_;rintro e w2 ⟨rfl,hb2⟩;have hW2:=HW1.out.below HB.out hb2;have r0:=hW2.cell (j:=i) (by omega) 0 (by omega);have r1:=hW2.cell (j:=i) (by omega) 1 (by omega);have r2:=hW2.cell (j:=i) (by omega) 2 (by omega);have r3:=hW2.cell (j:=i) (by omega) 3 (by omega);have r4:=hW2.cell (j:=i) (by omega) 4 (by omega);simp only[Nat.add_zero]at r0;obtain⟨r0,f0⟩:=r0;obtain⟨r1,f1⟩:=r1;obtain⟨r2,f2⟩:=r2;obtain⟨r3,f3⟩:=r3;obtain⟨r4,f4⟩:=r4;have hcs:∀c,w2.cell? ⟨wr.heap.size,c,none⟩=(#[Value.int IntKind.i8 u.aD,Value.int IntKind.i8 u.to,Value.int IntKind.u8 u.bU,Value.int IntKind.u8 u.bh,Value.bool u.bZ]:Array Value)[c]? := fun c=>by rw[hb2.cell (p:=⟨wr.heap.size,c,none⟩) (by simp),Kz.aw (heap_alloc_new wr _)]
     have b0:=hcs 0;have b1:=hcs 1;have b2:=hcs 2;have b3:=hcs 3;have b4:=hcs 4;simp at b0 b1 b2 b3 b4;have HW2:=Lib.hid hW2;clear hcs hb2 hW2;go_wp2_with fail;go_roundg (d.size-(j+1));case measure=>omega
     case rel =>refine⟨i+1,j+1,dk.setIfInBounds i u,by go_num,by go_num,by omega,Nat.le_refl _,HW2.out.put (i:=i) (by omega) (by omega) u,(show Aside _ from ?_)⟩;have:=I2.out.keep hlt (by rw[HK.out];show(!p d[j]!)=true;rw[C.out,hq];rfl);rwa[C.out]at this
    |true =>
     rw[hq]at hcall;have HCALL:=Lib.hid hcall;clear hcall;go_wp2_with fail;refine HCALL.out.mono ?_;rintro e w2 ⟨rfl,hb2⟩;have HW2:=Lib.hid (HW1.out.below HB.out hb2);clear hb2;go_wp2_with fail;go_roundg (d.size-(j+1));case measure=>omega
     case rel=>exact⟨i,j+1,dk,rfl,by go_num,by omega,Nat.le_refl _,HW2.out,I2.out.skip (by rw[HK.out];show(!p d[j]!)=false;rw[C.out,hq];rfl)⟩
   ·obtain rfl:j=d.size:=by omega
    have hltz:¬(d.size:Int)<(d.size:Int):=by omega
    have hcl:∀ty,(Builtin.clear_ #[34] ty #[.slice (some ⟨bx,i*5,none⟩) (d.size-i) (cap-i)]).run Tryz.prog wr=.ok (.tuple #[]) (wr.setCells bx (i*5) (Builtin.zeroCells jW (d.size-i)).toList):=by
     obtain⟨cur,h1,h2,h3⟩:=W2.out.row;refine we wr bx (i*5) (d.size-i) (cap-i) (by omega) (fun t ht=>?_) (fun t ht=>Kz.bQ h1);rw[Kz.aw h1];have:d.size*5≤cap*5:=by omega
     have h5:(d.size-i)*5=d.size*5-i*5:=Nat.sub_mul _ _ _;rw[Array.getElem?_eq_getElem (by omega)];rfl
    have hid:i≤d.size:=by omega
    clear hI;go_wp2;go_ret;have hI:=I2.out;refine⟨by rw[hI.len];rfl,?_⟩;have:=W2.out.tail (i:=i) (n:=d.size-i) (by omega) (by omega) _ (nh (d.size-i));have e:keptUpTo kp d d.size=dk.toList.take i:=by
     have hsz':=hI.size;apply List.ext_getElem?;intro j;by_cases hj:j<i
     ·rw[hI.low j hj,List.getElem?_take_of_lt hj,getElem!_pos dk j (by omega),I' (by simp;omega)];simp
     ·rw[List.getElem?_eq_none (by rw[hI.len];omega),List.getElem?_eq_none (by simp;omega)]
    grind
end Go.Proofs
namespace Kz
open Go Go.RowKit Go.Proofs
theorem uZ:∃i0 z,Pz.info? 47=some i0∧i0.zero=some z∧i0.size=5∧z.cells.size=5∧i0.bytes≤131072:=by
 have h:(match Pz.info? 47 with
  |some i=>(match i.zero with
   |some z=>i.size==5&&z.cells.size==5&&decide (i.bytes≤131072)
   |none=>false)
  |none=>false)=true:=by kernel_rfl
 grind
theorem Si (z:Array Value)(n:Nat):(Builtin.zeroCells z n).size=n*z.size:=by simp[Builtin.zeroCells]
theorem Tz (n:Int)(h0:0≤n)(hn:n≤qI)(h:Hp):dz Pz 188 [.nilsl,.int .i64 n] h (.ret (.list .mv [] (.own h.ag.length)) { h with ag:=h.ag++[0] })∧∃fn,Pz.funcs[188]?=some fn∧fn.body.isSome=true:=by
 refine⟨?_,?_⟩
 ·intro g w bw m hr;obtain⟨bw⟩:=bw;cases hr with
  |cons q1 r1 =>
   cases r1 with
   |cons q2 r2 =>
    cases r2;cases q1;cases q2;obtain⟨k,rfl⟩:=Int.eq_ofNat_of_zero_le h0;refine callsIn_wide.2 ?_;have hk:k≤1073741824:=by unfold qI at hn;omega
    by_cases hk0:k=0
    ·subst hk0;refine(Any8.slices_Grow_room Tryz.grow none 0 0 0 w (Nat.le_refl _) (by omega) (by omega) (by omega)).mono ?_;rintro e w' ⟨rfl,rfl⟩;obtain⟨m1,l1⟩:=m.kO
     exact⟨_,_,rfl,⟨m1,l1,⟨rfl,rfl,rfl,fun _ _ _ x=>x,by grind,fun _ _ _ x=>x⟩⟩,
      .list (cs:=[]) rfl .nil (.inl rfl) (fun k ek=>by cases ek;exact⟨0,by simp,Nat.le_refl _,fun _=>⟨none,by simp[m.dW],rfl,rfl,rfl⟩⟩) (Nat.le_refl _)⟩
    ·obtain⟨i0,z,a1,a2,a3,a4,a5⟩:=uZ;refine(Any8.slices_Grow_grow Tryz.grow i0 z a1 a2 (by omega) none 0 0 k [] w (Nat.le_refl _) (by omega) ?_ (by omega) (by simp) (fun _=>rfl) (fun a e=>by cases e)).mono ?_
     ·have:(0+k)*i0.bytes≤(0+k)*131072:=Nat.mul_le_mul_left _ a5;omega
     rintro e w' ⟨rfl,rfl⟩;have hG:=grownCap_le_maxLen w (0+k) 0 (Tryz.lL.t 25) (by unfold maxLen;omega);have hge:0+k≤grownCap w (0+k) 0 (Tryz.lL.t 25):=grownCap_ge w _ _ _;generalize grownCap w (0+k) 0 (Tryz.lL.t 25)=G at hG hge⊢
     obtain⟨m1,l1⟩:=m.Tp (cap:=G) (z:=5) hG (cells:=(([]:List Value).toArray++Builtin.zeroCells z.cells (0+k-0)++Builtin.zeroCells z.cells (G-(0+k)))) (ty:=Tryz.lL.t 25) (by
      refine⟨?_,?_⟩
      ·rw[show Bh 5=5 from rfl]
       simp only[Array.size_append,Si,a4,List.size_toArray,List.length_nil];omega
      ·decide) w.drew (.inr rfl)
     exact⟨_,_,rfl,⟨m1,l1,⟨rfl,rfl,rfl,fun _ _ _ x=>x,by grind,fun _ _ _ x=>x⟩⟩,
      .list (cs:=[]) rfl .nil (.inl rfl) (fun k ek=>by cases ek;exact⟨0,by simp,Nat.le_refl _,fun _=>⟨some (w.heap.size,G,5),by simp[m.dW],rfl,rfl,rfl⟩⟩) (Nat.zero_le _)⟩
 ·have h:(match Pz.funcs[188]? with
   |some fn=>fn.body.isSome
   |none=>false)=true:=by kernel_rfl
  simp_all
def TC:List AV→Hp→Tr bL:=fun l h=>match l with
 | [.nilsl,.int .i64 n]=>.guard (decide (0≤n)&&decide (n≤qI)) (.ret (.ret (.list .mv [] (.own h.ag.length)) { h with ag:=h.ag++[0] }))
 |_=>.fail
theorem XI:dF Pz 188 TC:=by
 intro l h res he;unfold TC at he;split at he
 ·rename_i n;simp only[get_guard,aj,A',E',decide_eq_true_eq]at he;obtain⟨⟨h1,h2⟩,rfl⟩:=he;exact Tz n h1 h2 h
 ·simp at he
end Kz
namespace Go.Proofs
open Go.Shelf Go.RowKit Go.Lib Go.Sort Kz
theorem RY {w W:World}(hsz:w.heap.size≤W.heap.size)(old:∀k,k<w.heap.size→W.heap[k]?=w.heap[k]?){p:Nat×IntKind×Option Z'}(h:oe (cH w) w p):oe (cH W) W p :=
 ⟨fun hi=>let ⟨d,x,t,fr,e,f⟩:=h.1 hi
  ⟨Nat.lt_of_lt_of_le d hsz,x,t,fr,by rw[old _ d];exact e,f⟩,
 fun hi=>let ⟨zs,a,b,c,d,t,fr,e⟩:=h.2 hi
  ⟨zs,a,b,fun j x hj=>⟨by rw[b9 (old _ d)];exact(c j x hj).1,Nat.lt_of_lt_of_le d hsz⟩,Nat.lt_of_lt_of_le d hsz,t,fr,by rw[old _ d];exact e⟩⟩
theorem BG {g:Gh}{tk:List Nat}{w:World}{m:Mv}{cs:List Value}(h:ay g tk w (bf (Mv.av m)) cs):cs=bP m:=by change ay g tk w [.int .i8 m.aD,.int .i8 m.to,.int .u8 m.bU,.int .u8 m.bh,.bool m.bZ] cs at h;obtain⟨x1,r1,rfl,q1,h⟩:=h.inv_one rfl;obtain⟨x2,r2,rfl,q2,h⟩:=h.inv_one rfl;obtain⟨x3,r3,rfl,q3,h⟩:=h.inv_one rfl;obtain⟨x4,r4,rfl,q4,h⟩:=h.inv_one rfl;obtain⟨x5,r5,rfl,q5,h⟩:=h.inv_one rfl;obtain rfl:=h.cL;cases q1;cases q2;cases q3;cases q4;cases q5;rfl
theorem mf (g:Gh)(tk:List Nat)(w:World)(m:Mv):ay g tk w (bf (Mv.av m)) (bP m) :=
 .one rfl (.int _ _) (.one rfl (.int _ _) (.one rfl (.int _ _) (.one rfl (.int _ _) (.one rfl (.bool _) .nil))))
theorem dH {g:Gh}{tk:List Nat}{w:World}:∀{l:M'} {cs:List Value},bu g tk w (l.map (enc .mv)) cs→cs=l.flatMap bP
 | [],_,h=>by cases h;rfl
 |m::l,_,h=>by
  cases h with
  |cons hs hx h hr=>rw[hx,BG h,dH hr];rfl
theorem iN (g:Gh)(tk:List Nat)(w:World):∀l:M',bu g tk w (l.map (enc .mv)) (l.flatMap bP)
 | []=>.nil
 |m::l=>.cons rfl rfl (mf g tk w m) (iN g tk w l)
theorem cZ (l:M'):(l.flatMap bP).length=l.length*5:=by
 induction l with
 |nil=>rfl
 |cons m l ih=>simp only[List.flatMap_cons,List.length_append,fD,ih,List.length_cons];omega
theorem eE:∀(l:M') (j c:Nat),j<l.length→c<5→(l.flatMap bP)[j*5+c]?=(bP l[j]!)[c]?
 | [],_,_,h,_=>by simp_all
 |m::l,0,c,_,hc=>by
  simp only[List.flatMap_cons]
  rw[List.getElem?_append_left (by rw[fD];omega)]
  simp
 |m::l,j+1,c,h,hc=>by
  simp only[List.flatMap_cons]
  rw[List.getElem?_append_right (by rw[fD];omega),fD,show(j+1)*5+c-5=j*5+c by omega,eE l j c (by simpa using h) hc]
  simp
theorem qk (m:Mv):∀u∈bP m,u.oneCell'=true:=by intro u hu;simp only[bP,List.mem_cons,List.not_mem_nil,or_false]at hu;rcases hu with rfl|rfl|rfl|rfl|rfl<;>rfl
theorem Dj (l:M'):∀u∈l.flatMap bP,u.oneCell'=true:=by intro u hu;obtain⟨m,_,h⟩:=List.mem_flatMap.1 hu;exact qk m u h
theorem cd {g g':Gh}{tk tk':List Nat}{w w':World}{p:Pos}{cs:List Value}(h:ay g tk w (bf (Pos.av p)) cs):ay g' tk' w' (bf (Pos.av p)) cs:=by change ay g tk w [.int .u8 p.variant,.ints .u8 64 p.ab,.u64 p.ai,.ints .u8 12 p.ah,.int .u8 p.aa,.ints .i8 4 p.ao,.int .i8 p.az,.ints .u8 2 p.au,.int .i64 p.half,.int .i64 p.full] cs at h;obtain⟨x1,r1,rfl,q1,h1⟩:=h.inv_one rfl;obtain⟨l2,r2,rfl,h2⟩:=h1.bJ;obtain⟨x3,r3,rfl,q3,h3⟩:=h2.inv_one rfl;obtain⟨l4,r4,rfl,h4⟩:=h3.bJ;obtain⟨x5,r5,rfl,q5,h5⟩:=h4.inv_one rfl;obtain⟨l6,r6,rfl,h6⟩:=h5.bJ;obtain⟨x7,r7,rfl,q7,h7⟩:=h6.inv_one rfl;obtain⟨l8,r8,rfl,h8⟩:=h7.bJ;obtain⟨x9,r9,rfl,q9,h9⟩:=h8.inv_one rfl;obtain⟨x10,r10,rfl,q10,h10⟩:=h9.inv_one rfl;obtain rfl:=h10.cL;cases q1;cases q3;cases q5;cases q7;cases q9;cases q10;exact .one rfl (.int _ _) (.ints l2 rfl (.one rfl (.u64 _) (.ints l4 rfl (.one rfl (.int _ _) (.ints l6 rfl (.one rfl (.int _ _) (.ints l8 rfl (.one rfl (.int _ _) (.one rfl (.int _ _) .nil)))))))))
set_option maxHeartbeats 1000000 in
set_option maxRecDepth 100000 in
theorem aqn (a:Option Addr)(c:Nat)(fv:Value)(w:World):Calls Tryz.prog 110 #[.slice a 0 c,fv] w fun e w'=>e=.returned (.int .i64 (-1))∧w'=w:=by
 go_enter Tryz.func110,Tryz.ntmps110;go_wp2;go_loopg [5,8] 0 (fun _ _ s8 wr=>s8=.int .i64 0∧wr=w);case atStart=>exact⟨rfl,rfl⟩
 case round =>obtain⟨rfl,rfl⟩:=hrel;go_wp2;go_ret;exact⟨rfl,rfl⟩
set_option maxHeartbeats 1000000 in
set_option maxRecDepth 100000 in
theorem Z0 (a:Option Addr)(c:Nat)(fv:Value)(w:World):Calls Tryz.prog 49 #[.slice a 0 c,fv] w fun e w'=>e=.returned (.slice a 0 c)∧w'=w:=by have h:=aqn a c fv w;go_enter Tryz.func49,Tryz.ntmps49;go_wp2_with fail;refine h.mono ?_;rintro e w' ⟨rfl,rfl⟩;go_wp2_with fail;go_ret;exact⟨rfl,rfl⟩
set_option maxHeartbeats 2000000 in
set_option maxRecDepth 100000 in
theorem MN (ad:Addr)(c:Nat)(w:World):Calls Tryz.prog 123 #[.slice (some ad) 0 c] w fun e w'=>∃v',e=.returned v'∧w'.ownsRow w.heap.size 47 5 v' 0 []∧v'≠.slice none 0 0∧RowKit.Below w.heap.size w w':=by
 obtain⟨i0,z,a1,a2,a3,a4,a5⟩:=uZ;have q22:∀(w:World) (a:Option Addr) (n c n' c':Nat),(binOp .eql 34 (.slice a n c) (.slice none n' c')).run Tryz.prog w=.ok (.bool a.isNone) w:=fun w a n c n' c'=>Lib.run_eql_slice_nil w _ _ a n c n' c' Tryz.underlying34;have u22:∀w,Sem.run Tryz.prog (underlying 34) w=.ok (TypeDesc.slice 47) w:=by simp_all
 go_enter Tryz.func123,Tryz.ntmps123;go_wp2_with (at_builtin;refine wpList_append_own _ rfl _ _ 34 rfl w.heap.size 47 i0 z 5 i0.bytes Tryz.underlying34 a1 a2 a3 rfl a4 (by omega) _ _ _ rfl (World.ownsRow_made w #[] 0 (Nat.le_refl _) (Nat.zero_le _) (by simp)) ad 0 c [] rfl ?qc1 ?qc2 ?qc3 ?qc4 ?qc5 ?qc6 ?_);case qc1=>rfl
 case qc2=>simp_all
 case qc3=>intro u hu;simp at hu
 case qc4=>simp
 case qc5=>simp
 case qc6=>simp
 intro v' w1 hown hgrow hnil;go_wp2;go_ret;refine⟨v',rfl,by simpa using hown,?_,?_⟩
 ·exact hnil
 ·exact((Below.refl _ w).alloc (Nat.le_refl _) _).grown hgrow (by simp) (by intro k hk;simp[Value.ownBlock]at hk;omega)
set_option maxHeartbeats 2000000 in
set_option maxRecDepth 100000 in
theorem V8 (p:Pos)(f2:Nat)(q:Mv→Bool)(l:M')(hll:l.length≤qI)(hq:∀m,aX Tryz.prog 124 [Mv.av m,.ptrf (.func f2 [] [.ptrf (Pos.av p)])] (.bool (!q m))):aX Tryz.prog 122 [.list .mv l .arg,.func f2 [] [.ptrf (Pos.av p)]] (.list .mv (l.filter q) .fresh):=by
 intro w bw hg hr;obtain⟨bw⟩:=bw;cases hr with
 |cons q1 r1 =>
 cases r1 with
 |cons q2 r2 =>
 cases r2;cases q2 with
 |func ha hb =>
 rename_i x y;obtain⟨x⟩:=x;obtain⟨y⟩:=y;cases ha;cases hb with
 |cons q3 r3 =>
 cases r3;cases q3 with
 |ptrf hpc hpa =>
 rename_i pc po pcs;cases q1 with
 |list hn hE hS hT hC =>
 rename_i a n cap cs;subst hn;have hcs:=dH hE;obtain⟨fv,hfv⟩:∃fv:Value,fv=.func (.func f2) (Array.mk []) (Array.mk [.pointer (some ⟨pc,po,none⟩)]):=⟨_,rfl⟩;rw[←hfv]
 have hpred:∀(W:World) (u:Mv),w.heap.size+1≤W.heap.size→(∀k,k<w.heap.size+1→W.heap[k]?=(w.alloc (.cells #[fv] 74)).heap[k]?) →
   Calls Tryz.prog 124 (#[.agg (bP u).toArray]++#[.pointer (some ⟨w.heap.size,0,none⟩)]) W fun e w'=>e=.returned (.bool (!q u))∧RowKit.Below W.heap.size W w':=by
  intro W u hsz hsame
  have old:∀k,k<w.heap.size→W.heap[k]?=w.heap[k]? := fun k hk=>by
   rw[hsame k (by omega)]
   exact((Below.refl _ w).alloc (Nat.le_refl _) _).block k hk
  refine(callsIn_wide.1 (hq u W (#[.agg (bP u).toArray]++#[.pointer (some ⟨w.heap.size,0,none⟩)]) ?_ ?_)).mono ?_
  ·exact fun pr hpr=>RY (by omega) old (hg pr hpr)
  ·refine .cons (.agg (mf _ _ _ u)) (.cons (.ptrf (cs:=[fv]) (.one rfl ?_ .nil) ?_) .nil)
   ·rw[hfv]
    refine .func .nil (.cons (.ptrf (cd hpc) ?_) .nil)
    intro j x hj
    obtain⟨h1,h2⟩:=hpa j x hj
    have hlt:pc<w.heap.size:=h2
    exact⟨by rw[b9 (old _ hlt)];exact h1,Nat.lt_of_lt_of_le hlt (by omega)⟩
   ·intro j x hj
    have hc:W.heap[w.heap.size]?=some (.cells #[fv] 74 (0,0)):=by
     rw[hsame _ (Nat.lt_succ_self _)];exact heap_alloc_new w _
    refine⟨?_,show w.heap.size<W.heap.size by omega⟩
    rw[aw hc,Nat.zero_add]
    simpa using hj
  ·rintro e w' ⟨v,rfl,hb,hv⟩
   cases hv
   exact⟨rfl,hb⟩
 subst hfv;clear hpc hpa;refine callsIn_wide.2 ?_;cases a with
 |none =>
  obtain rfl:l=[]:=by
   rcases hS with h|⟨_,_,h,_⟩
   ·have:=cZ l;rw[←hcs,h]at this;exact List.eq_nil_of_length_eq_zero (by simp at this;omega)
   ·cases h
  have hc:=fun w=>AnyE.slices_Clone_nil Tryz.Ak 0 cap w;have hd:=Z0 none 0 (.func (.func 124) #[] #[.pointer (some ⟨w.heap.size,0,none⟩)]);clear hpred hS hcs hE hT;go_enter Tryz.func122,Tryz.ntmps122;go_wp2_with fail;refine(hc _).mono ?_;rintro e w' ⟨rfl,rfl⟩;go_wp2_with fail;refine(hd _).mono ?_;rintro e w' ⟨rfl,rfl⟩;go_wp2_with fail;go_ret;exact⟨_,rfl,(Below.refl _ w).alloc (Nat.le_refl _) _,.list (cs:=[]) rfl .nil (.inl rfl) (fun k e=>by cases e) (Nat.le_refl _)⟩
 |some ad =>
  have hclone:Calls Tryz.prog 123 #[.slice (some ad) l.length cap] (w.alloc (.cells #[(.func (.func f2) (Array.mk []) (Array.mk [.pointer (some ⟨pc,po,none⟩)]))] 74)) fun e w'=>∃v',e=.returned v'∧w'.ownsRow (w.alloc (.cells #[(.func (.func f2) (Array.mk []) (Array.mk [.pointer (some ⟨pc,po,none⟩)]))] 74)).heap.size 47 5 v' l.length (l.flatMap bP)∧v'≠.slice none 0 0∧RowKit.Below (w.alloc (.cells #[(.func (.func f2) (Array.mk []) (Array.mk [.pointer (some ⟨pc,po,none⟩)]))] 74)).heap.size (w.alloc (.cells #[(.func (.func f2) (Array.mk []) (Array.mk [.pointer (some ⟨pc,po,none⟩)]))] 74)) w':=by
   by_cases hl:l=[]
   ·subst hl;exact MN ad cap _
   ·obtain⟨c,o,hadr,hat,_⟩:=hS.resolve_left (fun e0=>hl (by
     have:=cZ l
     rw[←hcs,e0]at this
     exact List.eq_nil_of_length_eq_zero (by simp at this;omega)))
    simp only[A']at hadr;subst hadr;obtain⟨i0,z,a1,a2,a3,a4,a5⟩:=uZ;refine AnyE.slices_Clone Tryz.Ak i0 z 5 i0.bytes a1 a2 a3 rfl a4 (by omega) Tryz.sizeOf47 c o l.length cap (l.flatMap bP) _ (cZ l) ?_ ?_ ?_ (Dj l)
    ·unfold qI at hll;unfold maxLen;omega
    ·have:l.length*i0.bytes≤l.length*131072:=Nat.mul_le_mul_left _ a5;unfold qI at hll;omega
    ·intro j u hj;rw[←hcs]at hj;obtain⟨h1,h2⟩:=hat j u hj;have hlt:c<w.heap.size:=h2;rw[b9 (((Below.refl _ w).alloc (Nat.le_refl _) _).block c hlt)];exact h1
  clear hS hcs hE hT;have HP:=Lib.hid hpred;clear hpred;go_enter Tryz.func122,Tryz.ntmps122;go_wp2_with fail;refine hclone.mono ?_;rintro e w2 ⟨v',rfl,hown,hne,hb⟩;obtain⟨hlen,⟨rfl,_⟩|⟨gb,cap',cur,rfl,hgb,hcur,hn',hmax,hsz,htake⟩⟩:=hown
  ·exact absurd rfl hne
  have hrow:dq w2 gb cap' 47 l.toArray w2:=⟨rfl,rfl,rfl,Nat.le_refl _,fun _ _ _=>rfl,cur,hcur,hsz,fun j c hj hc=>by
   have hj':j<l.length:=by simpa using hj
   have h1:j*5+c<l.length*5:=by have:=(by omega);omega
   rw[←Array.getElem?_toList,←List.getElem?_take_of_lt h1,htake,eE l j c hj' hc]
   simp_all⟩
  have hdel:=adH (fun u => !q u) 124 #[.pointer (some ⟨w.heap.size,0,none⟩)] (fun _ _=>rfl) gb cap' l.toArray w2 (aB hcur) hrow (by simpa using hn') hmax (fun W dk u hW=>by
   have hs1:(w.alloc (.cells #[(.func (.func f2) (Array.mk []) (Array.mk [.pointer (some ⟨pc,po,none⟩)]))] 74)).heap.size=w.heap.size+1:=by simp
   refine HP.out W u (by have:=hb.size;have:=hW.size;omega) (fun k hk=>?_)
   rw[hW.other k (by have:=hb.size;omega) (by omega),hb.block k (by omega)])
  simp only[List.size_toArray,Bool.not_not]at hdel;have HD:=Lib.hid hdel;have HBW:=Lib.hid hb;have HG:=Lib.hid hgb;have HN:=Lib.hid hn';clear hdel HP hrow hb hgb hn' hcur hsz htake hlen hne hmax hclone;go_wp2_with fail;refine HD.out.mono ?_;rintro e w3 ⟨rfl,hR⟩;have HR:=Lib.hid hR;clear hR;go_wp2_with fail;go_ret;have hR:=HR.out;have hb:=HBW.out;have hgb:=HG.out;have hs1:(w.alloc (.cells #[(.func (.func f2) (Array.mk []) (Array.mk [.pointer (some ⟨pc,po,none⟩)]))] 74)).heap.size=w.heap.size+1:=by simp
  have hw1:RowKit.Below w.heap.size w (w.alloc (.cells #[(.func (.func f2) (Array.mk []) (Array.mk [.pointer (some ⟨pc,po,none⟩)]))] 74)):=(Below.refl _ w).alloc (Nat.le_refl _) _
  have hbw:RowKit.Below w.heap.size w w3:=⟨hR.os.trans (hb.os.trans hw1.os),hR.tape.trans (hb.tape.trans hw1.tape),hR.output.trans (hb.output.trans hw1.output),by have:=hR.size;have:=hb.size;omega,fun k hk=>by
   rw[hR.other k (by have:=hb.size;omega) (by omega),hb.block k (by omega)]
   exact hw1.block k hk⟩
  refine⟨_,rfl,hbw,?_⟩;obtain⟨cur,k1,k2,k3⟩:=hR.row;have hfl:(l.filter q).length≤l.length:=by grind
  refine .list (cs:=(l.filter q).flatMap bP) (by simp) (iN _ _ _ _) (.inr ⟨gb,0,rfl,fun j x hj=>?_,fun _=>by show w.heap.size≤gb;omega⟩) (fun k e=>by cases e) (Nat.le_trans hfl HN.out);have hjl:j<(l.filter q).length*5:=by rw[←cZ];exact(by grind)
  have hdm:j=j / 5*5+j%5:=by omega
  have hq5:j / 5<(l.filter q).length:=by omega
  refine⟨?_,show w.heap.size≤gb∧gb<w3.heap.size from⟨by omega,aB k1⟩⟩;rw[aw k1,Nat.zero_add,hdm,k3 (j / 5) (j%5) (by simpa using hq5) (Nat.mod_lt _ (by omega)),←hj];conv=>rhs;rw[hdm]
  rw[eE (l.filter q) (j / 5) (j%5) hq5 (Nat.mod_lt _ (by omega))];grind
end Go.Proofs
namespace Kz
open Go Go.RowKit Go.Proofs
theorem GN {P:Program}{f:Nat}{l l':M'}{tk:Tk}{f2 b:Nat}{p:Pos}{h:Hp}(hb:h.heap[b]?=some (bf (Pos.av p)))(hs:aX P f [.list .mv l .arg,.func f2 [] [.ptrf (Pos.av p)]] (.list .mv l' .fresh)) :
  dz P f [.list .mv l tk,.func f2 [] [.ptr b 0]] h (.ret (.list .mv l' .fresh) h):=by
 intro g w bw m hr;have hr':aI (cH w) [] w [.list .mv l .arg,.func f2 [] [.ptrf (Pos.av p)]] bw.toList:=by
  obtain⟨bw⟩:=bw;cases hr with
  |cons q1 r1 =>
  cases r1 with
  |cons q2 r2 =>
  cases r2;cases q1 with
  |list hn hE hS hT hC =>
  rename_i a n cap cs;cases q2 with
  |func ha hb2 =>
  rename_i x y;obtain⟨x⟩:=x;obtain⟨y⟩:=y;cases ha;cases hb2 with
  |cons q3 r3 =>
  cases r3;cases q3 with
  |ptr hv =>
  rename_i c;obtain⟨_,_,cells,ty,hc,hcells⟩:=m.Te hv hb rfl
  refine .cons (.list (cs:=cs) hn (by rw[dH hE];exact iN _ _ _ _) (hS.imp id fun ⟨c',o',e1,e2,_⟩=>⟨c',o',e1,fun j x hj=>⟨(e2 j x hj).1,m.fC _ _ (e2 j x hj).2⟩,fun f=>absurd rfl f⟩) (fun k e=>by cases e) hC)
   (.cons (.func .nil (.cons (.ptrf (cs:=cells.toList) (cd hcells) fun j x hj=>⟨by rw[aw hc,Nat.zero_add];simpa using hj,aB hc⟩) .nil)) .nil)
 refine(hs w bw m.u5 hr').mono ?_;rintro e w' ⟨x,rfl,hbl,hx⟩;obtain⟨m1,l1⟩:=m.Md hbl;exact⟨_,x,rfl,⟨m1,l1,Fl.refl _⟩,N2 m hx⟩
def aqQ:KT:=[(171,9,[(0,[0]),(1,[2])])]
def aug:ar:=bO Pz aqQ [] [] []
theorem adh:aO aug:=af ae trivial trivial trivial
def IA (a:Int):Bool:=(bif decide (a≥0)then(decide (a<64))else(false))
def ahv (a:Int):Bool:=true
theorem atV (a:Int)(h:ahv a=true):PS Pz 171 [.int .i8 a] (dB.res (IA a)):=pq14 adh h
def ajD:GT:=g1 (dI .i8) (fun a=>.ret (dB.res (IA a)))
theorem aqN:Sound Pz 171 ajD:=aH fun a=>bH (atV a rfl)
def apY:KT:=[(172,23,[(0,[1,2]),(1,[1,2,18]),(2,[4]),(3,[4])])]
def asv:ar:=bO Pz apY [(194,DI)] [] []
theorem aei:aO asv:=af ae ⟨Fw,trivial⟩ trivial trivial
def EF (a:Pos)(b:Int):Int:=(bif decide (b<0)then(0)else(bif decide (b≥64)then(0)else(bif !im (a.ab.getD (scale 1 b).toNat 0)then(0)else(a.ab.getD (scale 1 b).toNat 0))))
def uo (a:Pos)(b:Int):Bool:=(bif decide (b<0)then true else(bif decide (b≥64)then true else(decide (0≤b)&&decide (b<Int.ofNat 64)&&(bif !im (a.ab.getD (scale 1 b).toNat 0)then true else(decide (0≤b)&&decide (b<Int.ofNat 64)&&true)))))
theorem ame (a:Pos)(b:Int)(h:uo a b=true):PS Pz 172 [Pos.av a,.int .i8 b] ((dI .u8).res (EF a b)):=pq14 aei h
def Ya:GT:=g2 aZ (dI .i8) (fun a b=>b7 (uo a b) ((dI .u8).res (EF a b)))
theorem ajq:Sound Pz 172 Ya:=aP fun a b=>aA (ame a b)
def asD:KT:=[(106,66,[(0,[2,3]),(1,[2,3,29]),(2,[4]),(3,[2,3,5]),(4,[2,3,5,39]),(5,[4]),(6,[65]),(7,[4]),(8,[4])])]
def amN:ar:=bO Pz asD [(135,jt),(139,qo),(173,RP),(171,ajD),(172,Ya)] [] []
theorem afy:aO amN:=af ae ⟨jQ,rU,YB,aqN,ajq,trivial⟩ trivial trivial
def kC (a:Pos)(b:Mv):Int:=(bif b.bh != 0 then(0)else(bif b.bZ then(0)else(bif !IA b.aD then(0)else(bif !IA b.to then(0)else(bif decide (a.aa>1)then(0)else(bif D0 (EF a b.to)==wr .u8 (1-a.aa)then(di (EF a b.to))else(bif b.to==a.az then(bif EF a b.aD==lI a.aa 1 then(bif b.aD.tmod 8 != b.to.tmod 8 then(1)else(0))else(0))else(0))))))))
def yn (a:Pos)(b:Mv):Bool:=(bif b.bh != 0 then true else(bif b.bZ then true else(bif !IA b.aD then true else(bif !IA b.to then true else(bif decide (a.aa>1)then true else(uo a (b.to)&&(bif D0 (EF a b.to)==wr .u8 (1-a.aa)then true else(bif b.to==a.az then(uo a (b.aD)&&true)else true))))))))
theorem aud (a:Pos)(b:Mv)(h:yn a b=true):PS Pz 106 [Pos.av a,Mv.av b] ((dI .u8).res (kC a b)):=pq14 afy h
def adY:GT:=g2 aZ rJ (fun a b=>b7 (yn a b) ((dI .u8).res (kC a b)))
theorem amt:Sound Pz 106 adY:=aP fun a b=>aA (aud a b)
def arM:KT:=[(174,6,[(0,[0]),(1,[2])])]
def arY:ar:=bO Pz arM [] [] []
theorem acS:aO arY:=af ae trivial trivial trivial
def KQ (a:Int):Bool:=(a != a)
def aib (a:Int):Bool:=true
theorem ak2 (a:Int)(h:aib a=true):PS Pz 174 [.int .u8 a] (dB.res (KQ a)):=pq14 acS h
def ai4:GT:=g1 (dI .u8) (fun a=>.ret (dB.res (KQ a)))
theorem asM:Sound Pz 174 ai4:=aH fun a=>bH (ak2 a rfl)
def asd:KT:=[(108,20,[(0,[0,1]),(1,[0,1,5]),(2,[0,1,5,6]),(3,[0,1,6,11]),(4,[12]),(5,[4]),(6,[4]),(7,[0,1,13]),(8,[4]),(9,[0,1,16]),(10,[4]),(11,[19]),(12,[4]),(13,[4])])]
def anJ:ar:=bO Pz asd [(174,ai4)] [] []
theorem aeR:aO anJ:=af ae ⟨asM,trivial⟩ trivial trivial
def lK (a:Int)(b:Int):Int:=(bif KQ a then(bif KQ b then(0)else(-1))else(bif KQ b then(1)else(bif decide (a<b)then(-1)else(bif decide (a>b)then(1)else(0)))))
def af3 (a:Int)(b:Int):Bool:=true
theorem amd (a:Int)(b:Int)(h:af3 a b=true):PS Pz 108 [.int .u8 a,.int .u8 b] ((dI .i64).res (lK a b)):=pq14 aeR h
def ail:GT:=g2 (dI .u8) (dI .u8) (fun a b=>.ret ((dI .i64).res (lK a b)))
theorem anP:Sound Pz 108 ail:=aP fun a b=>bH (amd a b rfl)
def aoD:KT:=[(109,15,[(0,[2,3]),(1,[2,3,7]),(2,[4]),(3,[4])])]
def am6:ar:=bO Pz aoD [(135,jt),(172,Ya)] [] []
theorem agI:aO am6:=af ae ⟨jQ,ajq,trivial⟩ trivial trivial
def Dl (a:Pos)(b:Mv):Int:=(bif b.bh != 0 then(b.bh)else(di (EF a b.aD)))
def om (a:Pos)(b:Mv):Bool:=(bif b.bh != 0 then true else(uo a (b.aD)&&true))
theorem aoE (a:Pos)(b:Mv)(h:om a b=true):PS Pz 109 [Pos.av a,Mv.av b] ((dI .u8).res (Dl a b)):=pq14 agI h
def adD:GT:=g2 aZ rJ (fun a b=>b7 (om a b) ((dI .u8).res (Dl a b)))
theorem ar8:Sound Pz 109 adD:=aP fun a b=>aA (aoE a b)

def adm:KT:=[(129,19,[(0,[0,3]),(1,[0,3,7,8]),(2,[0,3,7,8,9]),(3,[0,3,5,7,8]),(4,[0,3,5,7,8,16]),(5,[4]),(6,[0,3,7,8]),(7,[4])])]
def aak:ar:=bO Pz adm [] [] []
theorem Tl:aO aak:=af ae trivial trivial trivial
def Ma (p1:M')(p2:Int)(p3:Mv)(x:(Int)):St:=St.mk (.list .mv p1 .arg::.any::.any::.ptr 0 0::(an 3 (.int .i64 p2::.int .i64 x::(an 10 [])))) (Hp.mk [[.int .i8 p3.aD,.int .i8 p3.to,.int .u8 p3.bU,.int .u8 p3.bh,.bool p3.bZ]] [] [] 0 0 0)
def PZ (p1:M')(p2:Int)(p3:Mv):(Int) ⊕ (Int×Bool)→Out
 |(.inl (y))=>.ret (St.mk (an 4 (AV.int .i64 y::(an 14 []))) (Hp.mk [[AV.int .i8 p3.aD,AV.int .i8 p3.to,AV.int .u8 p3.bU,AV.int .u8 p3.bh,AV.bool p3.bZ]] [] [] 0 0 0))
 |(.inr (y))=>.exit 0 (St.mk (AV.list ET.mv p1 Tk.arg::AV.any::AV.any::AV.ptr 0 0::(an 3 (AV.int .i64 p2::AV.int .i64 y.1::AV.bool y.2::(an 9 [])))) (Hp.mk [[AV.int .i8 p3.aD,AV.int .i8 p3.to,AV.int .u8 p3.bU,AV.int .u8 p3.bh,AV.bool p3.bZ]] [] [] 0 0 0))
def Rj (p1:M')(p2:Int)(p3:Mv)(x:(Int)):aG (Int) ((Int) ⊕ (Int×Bool)):=(bif decide (x<p2)then(bif cg BinOp.eql (p3.aD==(p1.getD x.toNat default).aD&&(p3.to==(p1.getD x.toNat default).to&&(p3.bU==(p1.getD x.toNat default).bU&&(p3.bh==(p1.getD x.toNat default).bh&&(p3.bZ==(p1.getD x.toNat default).bZ&&true)))))then(aG.out (.inl x))else(aG.go (wr .i64 (x+1))))else(aG.out (.inr ((x,decide (x<p2))))))
def O6 (p1:M')(p2:Int)(p3:Mv)(x:(Int)):Bool:=(bif decide (x<p2)then(decide (0≤x)&&decide (x < ↑p1.length)&&true)else true)
def gp (p1:M')(p2:Int)(p3:Mv)(x:(Int)):Option ((Int) ⊕ (Int×Bool)):=cW (fun x=>bif O6 p1 p2 p3 x then Rj p1 p2 p3 x else .bad) many x
abbrev Nt {α:Type}(k:M'→Int→Mv→(Int)→α)(s:St):α:=wM s 0 fun q0=>k (tL (ET.mv) (tT s 0)) (tI (tT s 7)) q0 ((tI (tT s 8)))
theorem abK (p1:M')(p2:Int)(p3:Mv)(x:(Int))(r:(Int) ⊕ (Int×Bool))(h:gp p1 p2 p3 x=some r):aC Pz (bc Pz 129 2) (Ma p1 p2 p3 x) (PZ p1 p2 p3 r):=aC.Be (m:=12) (fn:=129) Tl (Nt fun _ _ _ x=>some x) (fun o=>match o with | .ret s=>some (.inl (tI (tT s 4))) | .exit 0 s=>some (.inr ((tI (tT s 8)),(tB (tT s 9))))|_=>none) (fun r=>by cases r<;>rfl) (fun _=>by kernel_rfl) (fun _=>by kernel_rfl) (fun _=>by kernel_rfl) (fun _=>by kernel_rfl) many x r h
def NZ (b:Code)(s:St):Tr Out:=Nt (fun p1 p2 p3 x=>Bg b (bc Pz 129 2) s (Ma p1 p2 p3 x) (gp p1 p2 p3 x) (PZ p1 p2 p3)) s
theorem TO:∀b,aT Pz b (NZ b):=fun _ _ _ h=>fj (abK _ _ _ _) h
def atO:ar:=bO Pz adm [] [(129,2,NZ)] []
theorem adR:aO atO:=af ae trivial ⟨TO,trivial⟩ trivial
def Vh (a:M')(b:Mv):Int:=(bif cQ ((gp a (↑a.length) (Mv.mk b.aD b.to b.bU b.bh b.bZ) 0).getD default)then(gl ((gp a (↑a.length) (Mv.mk b.aD b.to b.bU b.bh b.bZ) 0).getD default))else(-1))
def Hd (a:M')(b:Mv):Bool:=((gp a (↑a.length) (Mv.mk b.aD b.to b.bU b.bh b.bZ) 0).isSome&&bif cQ ((gp a (↑a.length) (Mv.mk b.aD b.to b.bU b.bh b.bZ) 0).getD default)then true else true)
theorem amr (a:M')(b:Mv)(h:Hd a b=true):PS Pz 129 [.list .mv a .arg,Mv.av b] ((dI .i64).res (Vh a b)):=pq14 adR h
def ajO:GT:=g2 (dL .mv) rJ (fun a b=>b7 (Hd a b) ((dI .i64).res (Vh a b)))
theorem aqc:Sound Pz 129 ajO:=aP fun a b=>aA (amr a b)
def K65:KT:=[(65,9,[(0,[0,3]),(1,[4])])]
def B65:ar:=bO Pz K65 [(129,ajO)] [] []
theorem apx:aO B65:=af ae ⟨aqc,trivial⟩ trivial trivial
def Kf (a:M')(b:Mv):Bool:=(decide (Vh a b≥0))
def CM (a:M')(b:Mv):Bool:=(Hd a b&&true)
theorem P65 (a:M')(b:Mv)(h:CM a b=true):PS Pz 65 [.list .mv a .arg,Mv.av b] (dB.res (Kf a b)):=pq14 apx h
def Gq:GT:=g2 (dL .mv) rJ (fun a b=>b7 (CM a b) (dB.res (Kf a b)))
theorem IC:Sound Pz 65 Gq:=aP fun a b=>aA (P65 a b)
def K67:KT:=[(67,59,[(0,(2::3::(rn 16 5 (rn 44 7 [])))),(1,(2::3::5::6::(rn 16 5 (rn 44 7 [])))),(2,(2::3::5::21::(rn 44 7 []))),(3,[4]),(4,(2::3::5::7::(rn 44 7 []))),(5,(2::3::26::(rn 44 7 []))),(6,[4]),(7,[2,3,35]),(8,[4]),(9,[4])])]
def B67:ar:=bO Pz K67 [(65,Gq),(131,Zv),(134,IM),(135,jt),(136,ab9)] [] []
theorem ak9:aO B67:=af ae ⟨IC,afK,LA,jQ,afj,trivial⟩ trivial trivial
def bC (a:Pos)(b:Mv):Int:=(bif !(jl a).2 then(-1)else(bif !Kf (ep a) b then(-1)else(bif(jl a).1.2.2&&&1#64 <<< (BitVec.ofInt 64 b.to).toNat != 0#64 then(wr .i64 b.to)else(bif di (a.ab.getD (scale 1 b.aD).toNat 0)==1 then(bif b.aD.tmod 8 != b.to.tmod 8 then(dA (wr .u8 (1-a.aa)) (wr .i64 b.to))else(-1))else(-1)))))
def J2 (a:Pos)(b:Mv):Bool:=(Cd a&&(bif !(jl a).2 then true else(yv a&&(CM (ep a) b&&(bif !Kf (ep a) b then true else(bif(jl a).1.2.2&&&1#64 <<< (BitVec.ofInt 64 b.to).toNat != 0#64 then true else(decide (0≤b.aD)&&decide (b.aD<Int.ofNat 64)&&true)))))))
theorem P67 (a:Pos)(b:Mv)(h:J2 a b=true):PS Pz 67 [Pos.av a,Mv.av b] ((dI .i64).res (bC a b)):=pq14 ak9 h
def J0:GT:=g2 aZ rJ (fun a b=>b7 (J2 a b) ((dI .i64).res (bC a b)))
theorem Kh:Sound Pz 67 J0:=aP fun a b=>aA (P67 a b)
def K47:KT:=[(47,9,[(0,[2,3]),(1,[4])])]
def B47:ar:=bO Pz K47 [(67,J0)] [] []
theorem alO:aO B47:=af ae ⟨Kh,trivial⟩ trivial trivial
def ig (a:Pos)(b:Mv):Bool:=(decide (bC a b≥0))
def xi (a:Pos)(b:Mv):Bool:=(J2 a b&&true)
theorem P47 (a:Pos)(b:Mv)(h:xi a b=true):PS Pz 47 [Pos.av a,Mv.av b] (dB.res (ig a b)):=pq14 alO h
def Zu:GT:=g2 aZ rJ (fun a b=>b7 (xi a b) (dB.res (ig a b)))
theorem s47:Sound Pz 47 Zu:=aP fun a b=>aA (P47 a b)
def akP:ar:=gm Pz (fun _ _=>[]) [(106,adY),(108,ail),(109,adD)] [] []
theorem aeW:aO akP:=af ae ⟨amt,anP,ar8,trivial⟩ trivial trivial
def C9 (a:Mv)(b:Mv)(p:Pos):Int:=(bif lK (kC p b) (kC p a) != 0 then(bif lK (kC p b) (kC p a)==0 then(bif decide (kC p a>0)then(lK (Dl p a) (Dl p b))else(lK (kC p b) (kC p a)))else(lK (kC p b) (kC p a)))else(bif lK b.bU a.bU != 0 then(bif lK b.bU a.bU==0 then(bif decide (kC p a>0)then(lK (Dl p a) (Dl p b))else(lK b.bU a.bU))else(lK b.bU a.bU))else(bif decide (kC p a>0)then(lK (Dl p a) (Dl p b))else(0))))
def Nc (a:Mv)(b:Mv)(p:Pos):Bool:=(yn p a&&(yn p b&&(bif lK (kC p b) (kC p a) != 0 then(bif lK (kC p b) (kC p a)==0 then(bif decide (kC p a>0)then(om p a&&(om p b&&true))else true)else true)else(bif lK b.bU a.bU != 0 then(bif lK b.bU a.bU==0 then(bif decide (kC p a>0)then(om p a&&(om p b&&true))else true)else true)else(bif decide (kC p a>0)then(om p a&&(om p b&&true))else true)))))
theorem akR (a:Mv)(b:Mv)(p:Pos)(h:Nc a b p=true):PS Pz 105 [Mv.av a,Mv.av b,.ptrf (Pos.av p)] ((dI .i64).res (C9 a b p)):=sc (n:=14) aeW (by kernel_rfl) (by kernel_rfl) (by kernel_rfl) h
theorem y8 (p:Pos)(b:Int):uo p b=true:=by unfold uo;grind
theorem Ip (p:Pos)(m:Mv):yn p m=true:=by unfold yn;rw[y8,y8];simp
theorem F2 (p:Pos)(m:Mv):om p m=true:=by unfold om;rw[y8];simp
theorem Uy (a b:Mv)(p:Pos):Nc a b p=true:=by unfold Nc;rw[Ip,Ip,F2,F2];simp
theorem amK (a b:Mv)(p:Pos):aX Pz 105 [Mv.av a,Mv.av b,.ptrf (Pos.av p)] (.int .i64 (C9 a b p)):=(akR a b p (Uy a b p)).1
def KM:bL→Option (M'×Option Nat)
 | .ret (.list .mv m (.own k)) h=>some (m,h.ag[k]?)
 |_=>none
def XT:ar:=gm Pz (fun _ _=>[]) [] [] [(188,TC)]
theorem aia:aO XT:=af ae trivial trivial ⟨XI,trivial⟩
theorem amA (l:M'):(Gs XT 14 103 [.vlist false [.list .mv l .arg]] sn).bind (fun r=>Tr.opt (KM r))=Tr.br (decide (wr IntKind.i64 (0+Int.ofNat l.length)<0)) Tr.fail (Tr.br (decide (0≤wr IntKind.i64 (0+Int.ofNat l.length))&&decide (wr IntKind.i64 (0+Int.ofNat l.length)≤Int.ofNat 1073741824)) (Tr.br (0==0&&decide (0+l.length≤1073741824)) (Tr.ret ([]++l,some l.length)) Tr.fail) Tr.fail):=by kernel_rfl
theorem Qe {w:World}(hglob:cN w):MR (cH w) sn w :=
 ⟨Nat.le_refl _,fun _ _ x=>x,rfl,fun _ _ _ x _=>by simp[cH]at x,fun _ _ _ x=>by simp[cH]at x,rfl,fun _ x=>by simp[cH]at x,fun _ _ _ _ x=>by simp[cH]at x,fun _ _ _ _ _ _ _ x=>by simp[cH]at x,rfl,fun _ _ _ x=>by simp[cH]at x,fun _ _ _ x=>by simp[cH]at x,fun _ x=>by simp[cH]at x,hglob⟩
theorem abE {n:Nat}(h:n≤qI):decide (wr IntKind.i64 (0+Int.ofNat n)<0)=false∧(decide (0≤wr IntKind.i64 (0+Int.ofNat n))&&decide (wr IntKind.i64 (0+Int.ofNat n)≤Int.ofNat 1073741824))=true∧(0==0&&decide (0+n≤1073741824))=true:=by
 have hn:n≤1073741824:=h;have e:wr IntKind.i64 (0+Int.ofNat n)=(n:Int):=by show wr IntKind.i64 (0+(n:Int))=_;rw[Int.zero_add];exact IntKind.wrap_i64 _ |>.trans (by omega)
 grind
theorem aev (l:M')(hl:l.length≤qI)(w:World)(hg:cN w)(v:Value)(hv:aM (cH w) [] w (.vlist false [.list .mv l .arg]) v) :
  Calls Tryz.prog 103 #[v] w fun e w'=>∃a cap,e=.returned (.slice a l.length cap)∧RowKit.Below w.heap.size w w' ∧
   ((a=none∧l=[])∨∃b ty,a=some ⟨b,0,none⟩∧w.heap.size≤b∧b<w'.heap.size∧l.length≤cap∧dq w' b cap ty l.toArray w'):=by
 obtain⟨c1,c2,c3⟩:=abE hl;have hget:((Gs XT 14 103 [.vlist false [.list .mv l .arg]] sn).bind (fun r=>Tr.opt (KM r))).get=some (l,some l.length):=by rw[amA];simp only[fP,c1,c2,c3,cond_true,cond_false,aj,List.nil_append]
 simp only[get_bind,B',bB]at hget;obtain⟨r,h1,h2⟩:=hget;obtain⟨hspec,_⟩:=(ss aia 14).1 _ _ _ _ h1;unfold KM at h2;split at h2
 ·rename_i m k h;simp only[A',Prod.mk.injEq]at h2;obtain⟨hml,hk⟩:=h2;have hml':l=m:=hml.symm;clear hml;subst m;refine(callsIn_wide.1 (hspec (cH w) w #[v] (Qe hg) (.cons hv .nil))).mono ?_;rintro e w' ⟨g',x,rfl,nx,hx⟩;have hbase:g'.base=w.heap.size:=nx.le.base;cases hx with
  |list hn hE hS hT hC =>
  rename_i a n cap cs;subst hn;have hcs:=dH hE;obtain⟨n',hn1,hn2,hown⟩:=hT k rfl;rw[hk]at hn1;simp only[A']at hn1;obtain⟨ow,how,hOI⟩:=hown hn1;refine⟨a,cap,rfl,nx.le.below,?_⟩;cases ow with
  |none =>obtain⟨ha,hlen,hcap⟩:=hOI;simp_all
  |some t =>
   obtain⟨b,cap',z'⟩:=t;obtain⟨rfl,rfl,rfl⟩:=hOI;obtain⟨_,cells,ty,_,_,_,hb,hblk,hsz,_,_⟩:=nx.mr.tok k b cap (lF .mv) how;refine .inr ⟨b,ty,rfl,by omega,aB hblk,hC,rfl,rfl,rfl,Nat.le_refl _,fun _ _ _=>rfl,cells,hblk,hsz.1,fun j c hj hc=>?_⟩;have hj':j<l.length:=by simpa using hj
   have h1:j*5+c<l.length*5:=by have:=(by omega);omega
   have hfl:=eE l j c hj' hc;have ea:l.toArray[j]! = l[j]:=by simp[hj']
   have eb:l[j]! = l[j]:=by simp[hj']
   rw[ea];rw[eb]at hfl;rcases hS with h0|⟨c',o',ha,hat,_⟩
   ·exfalso;have:=cZ l;simp_all
   ·simp only[A',Addr.mk.injEq,and_true]at ha;obtain⟨rfl,rfl⟩:=ha;have hx:cs[j*5+c]?=(bP l[j])[c]? := by rw[hcs];exact hfl
    obtain⟨u,hu⟩:∃u,(bP l[j])[c]?=some u:=⟨_,I' (show c<(bP l[j]).length from hc)⟩;obtain⟨k1,_⟩:=hat (j*5+c) u (by rw[hx,hu]);rw[aw hblk,Nat.zero_add]at k1;simp_all
 ·cases h2
theorem gO {w W:World}(hg:cN w)(hs:w.heap.size≤W.heap.size)(h:∀k,k<w.heap.size→W.heap[k]?=w.heap[k]?):cN W:=by
 intro pr hpr;obtain⟨h1,h2⟩:=hg pr hpr;refine⟨fun hi=>?_,fun hi=>?_⟩
 ·obtain⟨d,x,t,fr,e,f⟩:=h1 hi;exact⟨Nat.lt_of_lt_of_le d hs,x,t,fr,by rw[h _ d];exact e,f⟩
 ·obtain⟨zs,a,b,c,d,t,fr,e⟩:=h2 hi;have hlt:pr.1<w.heap.size:=d;exact⟨zs,a,b,fun j x hj=>⟨by rw[b9 (h _ hlt)];exact(c j x hj).1,Nat.lt_of_lt_of_le hlt hs⟩,Nat.lt_of_lt_of_le d hs,t,fr,by rw[h _ hlt];exact e⟩
def aqP:KT:=[(178,9,[(0,[0,2]),(1,[0,2,4]),(2,[2]),(3,[2])]),(226,22,[(0,[0]),(1,[0,1]),(2,[0])]),(115,6,[(0,[0]),(1,[2])])]
def aoH:ar:=bO Pz aqP [] [] []
theorem ae0:aO aoH:=af ae trivial trivial trivial
def xF (a:Int):Bool:=(bif decide (a≥9)then(false)else(bif a==↑0 then(true)else(bif a==↑1 then(true)else(bif a==↑2 then(true)else(bif a==↑3 then(true)else(bif a==↑4 then(false)else(bif a==↑5 then(true)else(bif a==↑6 then(true)else(bif a==↑7 then(true)else(false))))))))))
def Cj (a:Int):Bool:=(bif decide (a≥9)then true else(decide (0≤a)&&decide (a < ↑9)&&(bif a==↑0 then true else(bif a==↑1 then true else(bif a==↑2 then true else(bif a==↑3 then true else(bif a==↑4 then true else(bif a==↑5 then true else(bif a==↑6 then true else(bif a==↑7 then true else(a==↑8&&true)))))))))))
theorem ar5 (a:Int)(h:Cj a=true):PS Pz 115 [.int .u8 a] (dB.res (xF a)):=pq14 ae0 h
def ahw:GT:=g1 (dI .u8) (fun a=>b7 (Cj a) (dB.res (xF a)))
theorem atf:Sound Pz 115 ahw:=aH fun a=>aA (ar5 a)
def at1:KT:=[(190,6,[(0,[0]),(1,[2])])]
def asB:ar:=bO Pz at1 [] [] []
theorem adO:aO asB:=af ae trivial trivial trivial
def cC (a:Int):Int:=(wr .i64 (56*wr .i64 a))
def adQ (a:Int):Bool:=true
theorem apF (a:Int)(h:adQ a=true):PS Pz 190 [.int .u8 a] ((dI .i64).res (cC a)):=pq14 adO h
def A9:GT:=g1 (dI .u8) (fun a=>.ret ((dI .i64).res (cC a)))
theorem Dx:Sound Pz 190 A9:=aH fun a=>bH (apF a rfl)
def alH:KT:=[(238,52,[(0,(1::2::3::21::22::(rn 40 6 [48,49,50]))),(1,(1::2::3::8::21::22::(rn 40 6 [48,49,50]))),(2,(1::2::3::8::23::(rn 40 6 [48,49,50]))),(3,[6,7]),(4,(1::2::3::9::(rn 40 6 [48,49,50]))),(5,[6,7])])]
def anv:ar:=bO Pz alH [(190,A9)] [] []
theorem acP:aO anv:=af ae ⟨Dx,trivial⟩ trivial trivial
def cD (a:Pos)(b:Int)(c:Int):(Int×Bool):=(bif decide (wr .i64 (a.ao.getD (scale 2 a.aa+scale 1 c).toNat 0)<0)then(0,false)else(bif decide (wr .i64 (a.ao.getD (scale 2 a.aa+scale 1 c).toNat 0)>7)then(0,false)else(bif a.ab.getD (scale 1 (wr .i64 (cC a.aa+wr .i64 (a.ao.getD (scale 2 a.aa+scale 1 c).toNat 0)))).toNat 0==wr .u8 (wr .u8 (8*a.aa)+4)then(bif cg BinOp.eql (decide (wr .i64 (cC a.aa+wr .i64 (a.ao.getD (scale 2 a.aa+scale 1 c).toNat 0))>b)==(c==0))then((wr .i64 (cC a.aa+wr .i64 (a.ao.getD (scale 2 a.aa+scale 1 c).toNat 0))),(wr .i64 (cC a.aa+wr .i64 (a.ao.getD (scale 2 a.aa+scale 1 c).toNat 0)) != b))else((wr .i64 (cC a.aa+wr .i64 (a.ao.getD (scale 2 a.aa+scale 1 c).toNat 0))),false))else((wr .i64 (cC a.aa+wr .i64 (a.ao.getD (scale 2 a.aa+scale 1 c).toNat 0))),false))))
def BX (a:Pos)(b:Int)(c:Int):Bool:=(decide (0≤a.aa)&&decide (a.aa < ↑2)&&(decide (0≤c)&&decide (c < ↑2)&&(bif decide (wr .i64 (a.ao.getD (scale 2 a.aa+scale 1 c).toNat 0)<0)then true else(bif decide (wr .i64 (a.ao.getD (scale 2 a.aa+scale 1 c).toNat 0)>7)then true else(decide (0≤wr .i64 (cC a.aa+wr .i64 (a.ao.getD (scale 2 a.aa+scale 1 c).toNat 0)))&&decide (wr .i64 (cC a.aa+wr .i64 (a.ao.getD (scale 2 a.aa+scale 1 c).toNat 0)) < ↑64)&&true)))))
theorem amM (a:Pos)(b:Int)(c:Int)(h:BX a b c=true):PS Pz 238 [Pos.av a,.int .i64 b,.int .i64 c] ((d2 (dI .i64) dB).res (cD a b c)):=pq14 acP h
def Ks:GT:=g3 aZ (dI .i64) (dI .i64) (fun a b c=>b7 (BX a b c) ((d2 (dI .i64) dB).res (cD a b c)))
theorem RQ:Sound Pz 238 Ks:=dc fun a b c=>aA (amM a b c)
end Kz
