/- Part 8 of the proof. -/
import Derived.Test.YtgbndomcmihfkaaGreatDoorE7
set_option linter.unusedSectionVars false
set_option linter.unusedVariables false
set_option linter.unusedSimpArgs false
set_option linter.unnecessarySimpa false
set_option maxRecDepth 100000
set_option maxHeartbeats 4000000
noncomputable section
namespace Kz
open Go Go.RowKit
def cm (P:Nat→Bool):Nat→Nat
 | 0=>0
 |n+1=>cm P n+(P n).toNat
theorem tG {P Q R:Nat→Bool}:∀{n:Nat},(∀i,i<n→(P i).toNat=(Q i).toNat+(R i).toNat)→cm P n=cm Q n+cm R n
 | 0,_=>rfl
 |n+1,h=>by
  have h1:=tG (n:=n) fun i hi=>h i (by omega)
  have h2:=h n (by omega)
  unfold cm
  omega
theorem nj {P Q:Nat→Bool}:∀{n:Nat},(∀i,i<n→P i=Q i)→cm P n=cm Q n
 | 0,_=>rfl
 |n+1,h=>by
  unfold cm
  rw[nj (n:=n) fun i hi=>h i (by omega),h n (by omega)]
theorem iX (P:Nat→Bool):∀n,cm P n≤n
 | 0=>Nat.le_refl _
 |n+1=>by
  have:=iX P n
  have:(P n).toNat≤1:=by cases P n<;>simp
  unfold cm
  omega
theorem jn {P:Nat→Bool}:∀{n:Nat},cm P n=0 ↔ ∀i,i<n→P i=false
 | 0=>⟨fun _ i h=>by omega,fun _=>rfl⟩
 |n+1=>by
  have ih:=jn (P:=P) (n:=n)
  unfold cm
  grind
theorem BE (x:BitVec 64):∀(n i:Nat),(kj x i n).sum+cm x.getLsbD i=cm x.getLsbD (i+n)
 | 0,i=>by simp[kj]
 |n+1,i=>by
  have:=BE x n (i+1)
  simp only[kj,List.sum_cons]
  rw[show i+(n+1)=i+1+n by omega,←this]
  simp only[cm]
  omega
theorem uS (x:BitVec 64):Fc x=cm x.getLsbD 64:=by have:=BE x 64 0;unfold Fc;simpa[cm]using this
theorem wJ {x:BitVec 64}{P:Nat→Bool}(h:∀i,i<64→x.getLsbD i=P i):(x==0#64)=decide (cm P 64=0):=by rw[Bool.eq_iff_iff,beq_iff_eq,decide_eq_true_eq,jn];grind
noncomputable section
variable (p:Pos)
def kd (i:Nat):Int:=bE (p.ab.getD i 0)
def cl1 (i:Nat):Int:=oD (p.ab.getD i 0)
def A3 (i:Nat):Bool:=(wr .i64 (wr .i64 ((i:Int).tdiv 8)+(i:Int).tmod 8)).tmod 2==0
def Pn (i:Nat):Bool:=kd p i==2
def Pe (i:Nat):Bool:=kd p i==3&&A3 i
def Pd (i:Nat):Bool:=kd p i==3&&!A3 i
def Po (i:Nat):Bool := !(kd p i==0)&&(!(kd p i==6)&&(!(kd p i==2)&&!(kd p i==3)))
def Pk (c:Int)(i:Nat):Bool:=kd p i==6&&cl1 p i==c
end
theorem GP:∀i:Fin 64,(6172840429334713770#64).getLsbD i.val=!A3 i.val:=by decide +kernel
theorem Nf:∀v:Fin 256,(bE v.val==6)=true→oD v.val=0∨oD v.val=1:=by decide +kernel
noncomputable section
variable {p:Pos}(hp:ax p)
include hp
theorem anc:∃r,bG p (0,0,0,0,0,List.replicate 2 0)=some r∧r.1=cm (Pn p) 64∧r.2.1=cm (Pe p) 64∧r.2.2.1=cm (Pd p) 64∧r.2.2.2.1=cm (Po p) 64∧r.2.2.2.2.2.2=[((cm (Pk p 0) 64:Nat):Int),((cm (Pk p 1) 64:Nat):Int)]:=by
 refine aQ (Q:=fun r:Int×Int×Int×Int×Int×Bool×List Int=>r.1=cm (Pn p) 64∧r.2.1=cm (Pe p) 64∧r.2.2.1=cm (Pd p) 64∧r.2.2.2.1=cm (Po p) 64∧r.2.2.2.2.2.2=[((cm (Pk p 0) 64:Nat):Int),((cm (Pk p 1) 64:Nat):Int)])
  (I:=fun x:Int×Int×Int×Int×Int×List Int=>∃n:Nat,n≤64∧x.2.2.2.2.1=n∧x.1=cm (Pn p) n∧x.2.1=cm (Pe p) n∧x.2.2.1=cm (Pd p) n∧x.2.2.2.1=cm (Po p) n∧x.2.2.2.2.2=[((cm (Pk p 0) n:Nat):Int),((cm (Pk p 1) n:Nat):Int)]) (μ:=fun x=>(64-x.2.2.2.2.1).toNat) ?_ _ ⟨0,by omega,rfl,rfl,rfl,rfl,rfl,rfl⟩ (by simp)
 rintro⟨a,b,c,d,x,L⟩ ⟨n,hn,hx,ha,hb,hc,hd,hL⟩;simp only at hx ha hb hc hd hL;subst hx ha hb hc hd hL;unfold GY Nq;dsimp only;by_cases h64:n<64
 ·have hbd:=fa hp n;obtain⟨v,hv⟩:=Int.eq_ofNat_of_zero_le hbd.1;have hk6:=Nf ⟨v,by omega⟩;simp only at hk6;rw[←hv]at hk6;have b1:=iX (Pn p) n;have b2:=iX (Pe p) n;have b3:=iX (Pd p) n;have b4:=iX (Po p) n;have b5:=iX (Pk p 0) n;have b6:=iX (Pk p 1) n;rw[decide_eq_true (show(n:Int)<64 by omega),decide_eq_true (show(0:Int)≤n by omega),decide_eq_true (show(n:Int)<Int.ofNat 64 by show(n:Int)<64;omega),iu,Int.toNat_natCast,aF (n:=(n:Int)+1) (by omega) (by omega),aF (n:=((cm (Pn p) n:Nat):Int)+1) (by omega) (by omega),aF (n:=((cm (Pe p) n:Nat):Int)+1) (by omega) (by omega),aF (n:=((cm (Pd p) n:Nat):Int)+1) (by omega) (by omega),aF (n:=((cm (Po p) n:Nat):Int)+1) (by omega) (by omega)]
  have go:∀(a' b' c' d':Int) (L':List Int),a'=cm (Pn p) (n+1)→b'=cm (Pe p) (n+1)→c'=cm (Pd p) (n+1)→d'=cm (Po p) (n+1)→L'=[((cm (Pk p 0) (n+1):Nat):Int),((cm (Pk p 1) (n+1):Nat):Int)] →
    xf (fun x:Int×Int×Int×Int×Int×List Int=>∃n:Nat,n≤64∧x.2.2.2.2.1=n∧x.1=cm (Pn p) n∧x.2.1=cm (Pe p) n∧x.2.2.1=cm (Pd p) n∧x.2.2.2.1=cm (Po p) n∧x.2.2.2.2.2=[((cm (Pk p 0) n:Nat):Int),((cm (Pk p 1) n:Nat):Int)])
     (fun r:Int×Int×Int×Int×Int×Bool×List Int=>r.1=cm (Pn p) 64∧r.2.1=cm (Pe p) 64∧r.2.2.1=cm (Pd p) 64∧r.2.2.2.1=cm (Po p) 64∧r.2.2.2.2.2.2=[((cm (Pk p 0) 64:Nat):Int),((cm (Pk p 1) 64:Nat):Int)]) (fun x:Int×Int×Int×Int×Int×List Int=>(64-x.2.2.2.2.1).toNat) ((64-(n:Int)).toNat) (.go (a',b',c',d',(n:Int)+1,L')) :=
   fun a' b' c' d' L' h1 h2 h3 h4 h5=>⟨⟨n+1,by omega,by simp,h1,h2,h3,h4,h5⟩,by dsimp only;omega⟩
  have en:cm (Pn p) (n+1)=cm (Pn p) n+(kd p n==2).toNat:=rfl;have ee:cm (Pe p) (n+1)=cm (Pe p) n+(kd p n==3&&A3 n).toNat:=rfl;have ed:cm (Pd p) (n+1)=cm (Pd p) n+(kd p n==3&&!A3 n).toNat:=rfl;have eo:cm (Po p) (n+1)=cm (Po p) n+(!(kd p n==0)&&(!(kd p n==6)&&(!(kd p n==2)&&!(kd p n==3)))).toNat:=rfl;have e0:cm (Pk p 0) (n+1)=cm (Pk p 0) n+(kd p n==6&&cl1 p n==0).toNat:=rfl;have e1:cm (Pk p 1) (n+1)=cm (Pk p 1) n+(kd p n==6&&cl1 p n==1).toNat:=rfl;have hkd:bE (p.ab.getD n 0)=kd p n:=rfl;have hcl:oD (p.ab.getD n 0)=cl1 p n:=rfl;have hpar:((wr .i64 (wr .i64 ((n:Int).tdiv 8)+(n:Int).tmod 8)).tmod 2==0)=A3 n:=rfl;rw[hkd,hcl]at hk6;rw[hkd,hcl,hpar];rw[en,ee,ed,eo,e0,e1]at go;generalize kd p n=k at *;by_cases k0:k=0
  ·simp_all
  ·by_cases k6:k=6
   ·subst k6;have hc01:=hk6 rfl;generalize cl1 p n=w at *;rcases hc01 with rfl|rfl
    ·rw[show wr .i64 (([((cm (Pk p 0) n:Nat):Int),((cm (Pk p 1) n:Nat):Int)]:List Int).getD (scale 1 (0:Int)).toNat 0+1)=((cm (Pk p 0) n:Nat):Int)+1 from aF (n:=((cm (Pk p 0) n:Nat):Int)+1) (by omega) (by omega)];exact⟨rfl,go _ _ _ _ _ (by simp) (by simp) (by simp) (by simp) (by simp[scale])⟩
    ·rw[show wr .i64 (([((cm (Pk p 0) n:Nat):Int),((cm (Pk p 1) n:Nat):Int)]:List Int).getD (scale 1 (1:Int)).toNat 0+1)=((cm (Pk p 1) n:Nat):Int)+1 from aF (n:=((cm (Pk p 1) n:Nat):Int)+1) (by omega) (by omega)];exact⟨rfl,go _ _ _ _ _ (by simp) (by simp) (by simp) (by simp) (by simp[scale])⟩
   ·rw[beq_eq_false_iff_ne.2 k0,beq_eq_false_iff_ne.2 k6];rw[beq_eq_false_iff_ne.2 k0,beq_eq_false_iff_ne.2 k6]at go;refine⟨rfl,?_⟩;by_cases k2:k=2
    ·simp_all
    grind
 ·have:n=64:=by omega
  subst this;exact⟨rfl,rfl,rfl,rfl,rfl,rfl⟩
end
def Ig (r:Int×Int×Int×Int×Int×Bool×List Int):Bool:=bif r.2.2.2.1==0 then(bif decide (wr .i64 (wr .i64 (r.1+r.2.1)+r.2.2.1)≤1)then true else bif r.1==0 then(bif r.2.1==0 then true else r.2.2.1==0)else false)else false
def G2 (r:Int×Int×Int×Int×Int×Bool×List Int):Bool:=bif wr .i64 (wr .i64 (wr .i64 (r.2.2.2.1+r.1)+r.2.1)+r.2.2.1)==0 then cg BinOp.eql (r.2.2.2.2.2.2==((List.replicate 2 0).set 0 1).set 1 1&&true)else false
theorem KD (p:Pos):N34 p=bif(p.variant==0 ||p.variant==1)then Ig ((bG p (0,0,0,0,0,List.replicate 2 0)).getD default)else bif(p.variant==3 ||p.variant==5)then G2 ((bG p (0,0,0,0,0,List.replicate 2 0)).getD default)else false:=by unfold N34 Ig G2;grind
def oq:BitVec 64:=6172840429334713770#64
def Gd (A K B N:BitVec 64):Bool:=bif A &&& ~~~K &&& ~~~B &&& ~~~N != 0#64 then false else bif decide (kh (A &&& ~~~K)≤1)then true else bif A &&& ~~~K==B then(bif A &&& ~~~K&&&oq==0#64 then true else A &&& ~~~K &&& ~~~oq==0#64)else false
def Ie (A W X:BitVec 64):Bool:=bif A==W|||X then(bif kh W==1 then kh X==1 else false)else false
theorem I1 (p:Pos):E0 p=bif(p.variant==0 ||p.variant==1)then Gd (bm p) (eO p 6) (eO p 3) (eO p 2)else bif(p.variant==3 ||p.variant==5)then Ie (bm p) (aS p 0 6) (aS p 1 6)else false:=by unfold E0 Gd Ie oq;grind
theorem J3:∀v:Fin 256,im v.val=!(bE v.val==0)∧(dv 0 6 v.val ||dv 1 6 v.val)=(bE v.val==6)∧(dv 0 3 v.val ||dv 1 3 v.val)=(bE v.val==3)∧(dv 0 2 v.val ||dv 1 2 v.val)=(bE v.val==2)∧dv 0 6 v.val=(bE v.val==6&&oD v.val==0)∧dv 1 6 v.val=(bE v.val==6&&oD v.val==1):=by decide +kernel
noncomputable section
variable {p:Pos}(hp:ax p)
include hp
theorem QX (i:Nat):im (p.ab.getD i 0)=!(kd p i==0)∧(dv 0 6 (p.ab.getD i 0) ||dv 1 6 (p.ab.getD i 0))=(kd p i==6)∧(dv 0 3 (p.ab.getD i 0) ||dv 1 3 (p.ab.getD i 0))=(kd p i==3)∧(dv 0 2 (p.ab.getD i 0) ||dv 1 2 (p.ab.getD i 0))=(kd p i==2)∧dv 0 6 (p.ab.getD i 0)=Pk p 0 i∧dv 1 6 (p.ab.getD i 0)=Pk p 1 i:=by have hb:=fa hp i;obtain⟨v,hv⟩:=Int.eq_ofNat_of_zero_le hb.1;have:=J3 ⟨v,by omega⟩;simp only at this;rw[←hv]at this;exact this
theorem tY (k:Int){i:Nat}(hi:i<64):(eO p k).getLsbD i=(dv 0 k (p.ab.getD i 0) ||dv 1 k (p.ab.getD i 0)):=by unfold eO;rw[BitVec.getLsbD_or,bK _ _ _ hi,bK _ _ _ hi]
theorem Y7:SO p=true∧N34 p=E0 p:=by
 obtain⟨o,h1,h2,h3,h4,h5⟩:=aJ (anc hp);refine⟨ak o fun _=>rfl,?_⟩;rw[KD,I1];have ka:=QX hp;have b1:=iX (Pn p) 64;have b2:=iX (Pe p) 64;have b3:=iX (Pd p) 64;have b4:=iX (Po p) 64;have men:∀i,i<64→(bm p &&& ~~~eO p 6).getLsbD i=(!(kd p i==0)&&!(kd p i==6)):=fun i hi=>by rw[BitVec.getLsbD_and,BitVec.getLsbD_not,mK _ hi,tY hp _ hi,(ka i).1,(ka i).2.1];simp[hi]
 have ov:∀i,i<64→(bm p &&& ~~~eO p 6 &&& ~~~eO p 3 &&& ~~~eO p 2).getLsbD i=Po p i:=fun i hi=>by rw[BitVec.getLsbD_and,BitVec.getLsbD_and,BitVec.getLsbD_not,BitVec.getLsbD_not,men i hi,tY hp _ hi,tY hp _ hi,(ka i).2.2.1,(ka i).2.2.2.1];unfold Po;cases kd p i==0<;>cases kd p i==6<;>cases kd p i==3<;>cases kd p i==2<;>simp[hi]
 have sum:cm (fun i => !(kd p i==0)&&!(kd p i==6)) 64=cm (Pn p) 64+(cm (Pe p) 64+(cm (Pd p) 64+cm (Po p) 64)):=by
  have s1:cm (fun i=>Pd p i ||Po p i) 64=cm (Pd p) 64+cm (Po p) 64:=tG fun i hi=>by
   unfold Pd Po;by_cases k3:kd p i=3
   ·rw[k3];cases A3 i<;>rfl
   ·rw[beq_eq_false_iff_ne.2 k3];cases kd p i==0<;>cases kd p i==6<;>cases kd p i==2<;>rfl
  have s2:cm (fun i=>Pe p i ||(Pd p i ||Po p i)) 64=cm (Pe p) 64+cm (fun i=>Pd p i ||Po p i) 64:=tG fun i hi=>by
   unfold Pe Pd Po;by_cases k3:kd p i=3
   ·rw[k3];cases A3 i<;>rfl
   ·rw[beq_eq_false_iff_ne.2 k3];cases kd p i==0<;>cases kd p i==6<;>cases kd p i==2<;>rfl
  have s3:cm (fun i => !(kd p i==0)&&!(kd p i==6)) 64=cm (Pn p) 64+cm (fun i=>Pe p i ||(Pd p i ||Po p i)) 64:=tG fun i hi=>by
   unfold Pn Pe Pd Po;by_cases k3:kd p i=3
   ·rw[k3];cases A3 i<;>rfl
   ·rw[beq_eq_false_iff_ne.2 k3];by_cases k2:kd p i=2
    ·rw[k2];rfl
    ·rw[beq_eq_false_iff_ne.2 k2];cases kd p i==0<;>cases kd p i==6<;>rfl
  rw[s3,s2,s1]
 have pc:kh (bm p &&& ~~~eO p 6)=((cm (Pn p) 64+(cm (Pe p) 64+(cm (Pd p) 64+cm (Po p) 64)):Nat):Int):=by rw[tz,uS,nj men,sum]
 have pk:∀c,c=0∨c=1→kh (aS p c 6)=((cm (Pk p c) 64:Nat):Int):=fun c hc=>by
  rw[tz,uS,nj (Q:=Pk p c) fun i hi=>by
   rw[bK _ _ _ hi]
   rcases hc with rfl|rfl
   ·exact(ka i).2.2.2.2.1
   ·exact(ka i).2.2.2.2.2]
 have eA:Ig ((bG p (0,0,0,0,0,List.replicate 2 0)).getD default)=Gd (bm p) (eO p 6) (eO p 3) (eO p 2):=by
  unfold Ig Gd;rw[h1,h2,h3,h4,bne,wJ ov,pc,aF (n:=((cm (Pn p) 64:Nat):Int)+((cm (Pe p) 64:Nat):Int)) (by omega) (by omega),aF (by omega) (by omega)];by_cases hO:cm (Po p) 64=0
  ·rw[hO];simp only[decide_true,Bool.not_true,cond_false];rw[show(((0:Nat):Int)==0)=true from rfl,cond_true];by_cases hle:cm (Pn p) 64+cm (Pe p) 64+cm (Pd p) 64≤1
   ·rw[decide_eq_true (by omega),decide_eq_true (by omega)];rfl
   ·rw[decide_eq_false (by omega),decide_eq_false (by omega),cond_false,cond_false];have hOz:=jn.1 hO;by_cases hN:cm (Pn p) 64=0
    ·have hNz:=jn.1 hN;have all3:∀i,i<64→(!(kd p i==0)&&!(kd p i==6))=(kd p i==3):=fun i hi=>by
      have a:=hOz i hi;have b:=hNz i hi;unfold Po at a;unfold Pn at b;by_cases k3:kd p i=3
      ·rw[k3];rfl
      ·rw[b,beq_eq_false_iff_ne.2 k3]at a;rw[beq_eq_false_iff_ne.2 k3];revert a;cases kd p i==0<;>cases kd p i==6<;>simp
     have e1:(bm p &&& ~~~eO p 6==eO p 3)=true:=by rw[beq_iff_eq];exact BitVec.eq_of_getLsbD_eq fun i hi=>by rw[men i hi,tY hp _ hi,(ka i).2.2.1];exact all3 i hi
     have z1:(bm p &&& ~~~eO p 6&&&oq==0#64)=decide (cm (Pd p) 64=0):=wJ fun i hi=>by rw[BitVec.getLsbD_and,men i hi,all3 i hi];unfold oq;rw[GP ⟨i,hi⟩];rfl
     have z2:(bm p &&& ~~~eO p 6 &&& ~~~oq==0#64)=decide (cm (Pe p) 64=0):=wJ fun i hi=>by rw[BitVec.getLsbD_and,BitVec.getLsbD_not,men i hi,all3 i hi];unfold oq;rw[GP ⟨i,hi⟩];simp[hi,Pe]
     rw[hN,e1,z1,z2,show(((0:Nat):Int)==0)=true from rfl,cond_true,cond_true];by_cases x1:cm (Pe p) 64=0<;>by_cases x2:cm (Pd p) 64=0
     ·rw[x1,x2];rfl
     ·rw[x1,decide_eq_false x2];rfl
     ·rw[x2,decide_eq_false x1,beq_eq_false_iff_ne.2 (show((cm (Pe p) 64:Nat):Int)≠0 by omega)];rfl
     ·rw[decide_eq_false x1,decide_eq_false x2,beq_eq_false_iff_ne.2 (show((cm (Pe p) 64:Nat):Int)≠0 by omega),beq_eq_false_iff_ne.2 (show((cm (Pd p) 64:Nat):Int)≠0 by omega)]
    ·have e1:(bm p &&& ~~~eO p 6==eO p 3)=false:=by
      rw[beq_eq_false_iff_ne];intro e;refine hN (jn.2 fun i hi=>?_);have:=congrArg (fun x=>x.getLsbD i) e;rw[men i hi,tY hp _ hi,(ka i).2.2.1]at this;unfold Pn;cases h2:kd p i==2 with
      |false=>rfl
      |true =>rw[beq_iff_eq.1 h2]at this;cases this
     rw[e1,beq_eq_false_iff_ne.2 (show((cm (Pn p) 64:Nat):Int)≠0 by omega)];rfl
  ·rw[decide_eq_false hO,beq_eq_false_iff_ne.2 (show((cm (Po p) 64:Nat):Int)≠0 by omega)];rfl
 have eB:G2 ((bG p (0,0,0,0,0,List.replicate 2 0)).getD default)=Ie (bm p) (aS p 0 6) (aS p 1 6):=by
  unfold G2 Ie;rw[h1,h2,h3,h4,h5,pk 0 (.inl rfl),pk 1 (.inr rfl),aF (n:=((cm (Po p) 64:Nat):Int)+((cm (Pn p) 64:Nat):Int)) (by omega) (by omega),aF (n:=((cm (Po p) 64:Nat):Int)+((cm (Pn p) 64:Nat):Int)+((cm (Pe p) 64:Nat):Int)) (by omega) (by omega),aF (by omega) (by omega)];have e:(bm p==aS p 0 6|||aS p 1 6)=decide (cm (fun i => !(kd p i==0)&&!(kd p i==6)) 64=0):=by
   rw[Bool.eq_iff_iff,beq_iff_eq,decide_eq_true_eq,jn];have bits:∀i,i<64→(bm p).getLsbD i=!(kd p i==0)∧(aS p 0 6|||aS p 1 6).getLsbD i=(kd p i==6):=fun i hi=>by rw[mK _ hi,BitVec.getLsbD_or,bK _ _ _ hi,bK _ _ _ hi];exact⟨(ka i).1,(ka i).2.1⟩
   constructor
   ·intro e i hi;obtain⟨x1,x2⟩:=bits i hi;rw[e,x2]at x1;rw[←x1];cases kd p i==6<;>rfl
   ·intro h;refine BitVec.eq_of_getLsbD_eq fun i hi=>?_;obtain⟨x1,x2⟩:=bits i hi;rw[x1,x2];have:=h i hi;by_cases k6:kd p i=6
    ·rw[k6];rfl
    ·rw[beq_eq_false_iff_ne.2 k6]at this⊢;simpa using this
  rw[e,sum];by_cases hz:cm (Pn p) 64+(cm (Pe p) 64+(cm (Pd p) 64+cm (Po p) 64))=0
  ·rw[decide_eq_true hz,beq_iff_eq.2 (show((cm (Po p) 64:Nat):Int)+((cm (Pn p) 64:Nat):Int)+((cm (Pe p) 64:Nat):Int)+((cm (Pd p) 64:Nat):Int)=0 by omega)];show([((cm (Pk p 0) 64:Nat):Int),((cm (Pk p 1) 64:Nat):Int)]==[(1:Int),1]&&true)=_;simp_all
  ·grind
 rw[eA,eB]
end
end Kz
namespace Kz
open Go Go.RowKit Go.Proofs
variable {p:Pos}
def sm (f:Nat→Int):Nat→Int
 | 0=>0
 |n+1=>sm f n+f n
theorem vE {f g:Nat→Int}:∀{n:Nat},(∀i,i<n→f i=g i)→sm f n=sm g n
 | 0,_=>rfl
 |n+1,h=>by unfold sm;rw[vE fun i hi=>h i (by omega),h n (by omega)]
theorem ou (f g:Nat→Int):∀n,sm (fun i=>f i+g i) n=sm f n+sm g n
 | 0=>rfl
 |n+1=>by unfold sm;rw[ou f g n];omega
theorem Vn {f:Nat→Int}:∀{n:Nat},(∀i,i<n → -1000≤f i∧f i≤2000) → -1000*n≤sm f n∧sm f n≤2000*n
 | 0,_=>by simp[sm]
 |n+1,h=>by
  have h1:=Vn (n:=n) fun i hi=>h i (by omega)
  have h2:=h n (by omega)
  unfold sm
  omega
theorem KS (P:Nat→Bool)(v:Int):∀n,sm (fun s=>bif P s then v else 0) n=v*cm P n
 | 0=>by simp[sm,cm]
 |n+1=>by
  unfold sm cm
  rw[KS P v n]
  grind
def ls (f:Int→Int):List Int→Int
 | []=>0
 |a::l=>f a+ls f l
theorem Fv (f:Int→Int):∀(l k:List Int),ls f (l++k)=ls f l+ls f k
 | [],k=>by simp[ls]
 |a::l,k=>by simp only[List.cons_append,ls,Fv f l k];omega
theorem OF (f:Int→Int)(x:BitVec 64):∀n,ls f (gF x n)=sm (fun s=>bif x.getLsbD s then f s else 0) n
 | 0=>rfl
 |n+1=>by
  have h:=OF f x n
  unfold gF at h⊢
  rw[List.range_succ,List.filter_append,List.map_append,Fv,h]
  have e:ls f (List.map Int.ofNat (List.filter x.getLsbD [n]))=bif x.getLsbD n then f n else 0:=by cases hb:x.getLsbD n<;>simp[hb,ls]
  rw[e]
  rfl
theorem LN {f:Int→Int}:∀{l:List Int},(∀s∈l,-1000≤f s∧f s≤2000) → -1000*l.length≤ls f l∧ls f l≤2000*l.length
 | [],_=>by simp[ls]
 |a::l,h=>by
  have h1:=LN (l:=l) fun s hs=>h s (.tail _ hs)
  have h2:=h a (.head _)
  simp only[ls,List.length_cons]
  omega
def Ki (k s:Int):Int:=wr .i64 (qG k-wr .i64 (4*Ai s))
def Tm (b s:Int):Int:=wr .i64 (6*if wr .i64 (wr .i64 (7*wr .i64 b)-wr .i64 (Int.tdiv s 8))>wr .i64 (wr .i64 (Int.tdiv s 8)-wr .i64 (7*wr .i64 b))then wr .i64 (wr .i64 (7*wr .i64 b)-wr .i64 (Int.tdiv s 8))else wr .i64 (wr .i64 (Int.tdiv s 8)-wr .i64 (7*wr .i64 b)))
def wt (b k s:Int):Int:=Ki k s+bif k==1 then Tm b s else 0
theorem abf:∀(b:Fin 2) (k:Fin 7) (s:Fin 64),-100≤Ki k.val s.val∧Ki k.val s.val≤1000 ∧ -100≤Tm b.val s.val∧Tm b.val s.val≤100∧Ki k.val s.val=dX k.val-4*dQ s.val∧Tm b.val s.val=6*(bif(b.val:Int)==0 then eP s.val else 7-eP s.val)∧0≤dX k.val∧dX k.val≤900∧0≤dQ s.val∧dQ s.val≤3∧0≤eP s.val∧eP s.val≤7∧tR s.val=true∧fV s.val=true∧Ai s.val=dQ s.val∧Int.tdiv s.val 8=eP s.val:=by decide +kernel
theorem AX {b k:Int}(hb:b=0∨b=1)(k0:0≤k)(k6:k≤6){s:Int}(s0:0≤s)(s1:s<64) : -100≤Ki k s∧Ki k s≤1000 ∧ -100≤Tm b s∧Tm b s≤100∧Ki k s=dX k-4*dQ s∧Tm b s=6*(bif b==0 then eP s else 7-eP s)∧0≤dX k∧dX k≤900∧0≤dQ s∧dQ s≤3∧0≤eP s∧eP s≤7∧tR s=true∧fV s=true∧Ai s=dQ s∧Int.tdiv s 8=eP s:=by have:=abf ⟨b.toNat,by omega⟩ ⟨k.toNat,by omega⟩ ⟨s.toNat,by omega⟩;simp only at this;rwa[show((b.toNat:Nat):Int)=b by omega,show((k.toNat:Nat):Int)=k by omega,show((s.toNat:Nat):Int)=s by omega]at this
theorem W1 {b k:Int}(hb:b=0∨b=1)(k0:0≤k)(k6:k≤6){s:Int}(s0:0≤s)(s1:s<64) : -1000≤wt b k s∧wt b k s≤2000:=by have h:=AX hb k0 k6 s0 s1;unfold wt;grind
theorem acm {b k:Int}(hb:b=0∨b=1)(k0:0≤k)(k6:k≤6){l:List Int}(hl:l.length≤64)(hm:∀s∈l,0≤s∧s<64){c:Int}(c0 : -1000000≤c)(c1:c≤1000000) :
  ∃r,nc b k l (Int.ofNat l.length) p (c,0)=some r∧r.1=c+ls (wt b k) l:=by
 refine aQ (I:=fun x=>0≤x.2∧x.2≤(l.length:Int)∧x.1=c+ls (wt b k) (l.take x.2.toNat)) (Q:=fun r:Int×Int×Bool=>r.1=c+ls (wt b k) l) (μ:=fun x=>((l.length:Int)-x.2).toNat) ?_ _ ⟨by simp,by simp,by simp[ls]⟩ (by simp;omega);rintro⟨y,n⟩ ⟨h0,h1,hy⟩;simp only at h0 h1 hy;by_cases h:n<(l.length:Int)
 ·have hlt:n.toNat<l.length:=by omega
  have hs:=hm _ (eD (d:=default) hlt);have hw:=AX hb k0 k6 hs.1 hs.2;have hin:=LN (f:=wt b k) (l:=l.take n.toNat) fun s h2=>by have:=hm s (List.mem_of_mem_take h2);exact W1 hb k0 k6 this.1 this.2
  have hlen:(l.take n.toNat).length≤64:=by rw[List.length_take];omega
  have e:ls (wt b k) (l.take (n+1).toNat)=ls (wt b k) (l.take n.toNat)+wt b k (l.getD n.toNat default):=by rw[show(n+1).toNat=n.toNat+1 by omega,List.take_add_one,Fv,List.getD_eq_getElem?_getD,I' hlt];simp[ls]
  unfold uQ zG;dsimp only;rw[decide_eq_true (show n<Int.ofNat l.length from h),decide_eq_true h0,t160 k0,aF (n:=n+1) (by omega) (by omega)];refine⟨rfl,?_⟩;have e1:wr .i64 (y+wr .i64 (qG k-wr .i64 (4*Ai (l.getD n.toNat default))))=y+Ki k (l.getD n.toNat default):=by unfold Ki at hw⊢;exact aF (by omega) (by omega)
  rw[e1];simp only[cond_true];cases hk:(k==1)with
  |true =>
   rw[cond_true];have e2:wt b k (l.getD n.toNat default)=Ki k (l.getD n.toNat default)+Tm b (l.getD n.toNat default):=by unfold wt;rw[hk];rfl
   refine⟨⟨by dsimp only;omega,by dsimp only;omega,?_⟩,by dsimp only;omega⟩;dsimp only;rw[e,e2];show wr .i64 (y+Ki k (l.getD n.toNat default)+Tm b (l.getD n.toNat default))=_;rw[aF (by omega) (by omega)];omega
  |false =>
   rw[cond_false];have e2:wt b k (l.getD n.toNat default)=Ki k (l.getD n.toNat default):=by unfold wt;rw[hk];simp
   refine⟨⟨by dsimp only;omega,by dsimp only;omega,?_⟩,by dsimp only;omega⟩;grind
 ·unfold uQ zG;dsimp only;rw[decide_eq_false (show ¬n<Int.ofNat l.length from h)];refine⟨rfl,?_⟩;show y=_;rw[hy,List.take_of_length_le (by omega)]
def tk (p:Pos)(b:Int)(j:Nat):Int:=ls (wt b (j+1:Nat)) (gF (aS p b (j+1:Nat)) 64)
theorem agf {b:Int}(hb:b=0∨b=1){j:Nat}(hj:j<6) : -64000≤tk p b j∧tk p b j≤128000:=by
 have hl:=dC (aS p b (j+1:Nat)) 64;have h:=LN (f:=wt b (j+1:Nat)) (l:=gF (aS p b (j+1:Nat)) 64) fun s h2=>by have:=jO h2;exact W1 hb (by omega) (by omega) this.1 this.2
 unfold tk;omega
theorem Ei {b:Int}(hb:b=0∨b=1):∀{n:Nat},n≤6 → -64000*n≤sm (tk p b) n∧sm (tk p b) n≤128000*n
 | 0,_=>by simp[sm]
 |n+1,h=>by
  have h1:=Ei hb (n:=n) (by omega)
  have h2:=agf (p:=p) hb (j:=n) (by omega)
  unfold sm
  omega
theorem abg {b:Int}(hb:b=0∨b=1):∃r,kI b p (0,1)=some r∧r.1=sm (tk p b) 6:=by
 refine aQ (I:=fun x=>1≤x.2∧x.2≤7∧x.1=sm (tk p b) (x.2-1).toNat) (Q:=fun r:Int×Int×Bool=>r.1=sm (tk p b) 6) (μ:=fun x=>(7-x.2).toNat) ?_ _ ⟨by simp,by simp,by simp[sm]⟩ (by simp);rintro⟨c,n⟩ ⟨h0,h1,hc⟩;simp only at h0 h1 hc;by_cases h:n≤6
 ·obtain⟨j,hj,rfl⟩:∃j:Nat,j<6∧n=(j+1:Nat):=by grind
  have hs:=Ei (p:=p) hb (n:=j) (by omega);rw[show(((j+1:Nat):Int)-1).toNat=j by omega]at hc;obtain⟨r,e,hr⟩:=acm (p:=p) hb (k:=(j+1:Nat)) (by omega) (by omega) (dC (aS p b (j+1:Nat)) 64) (fun s hs=>jO hs) (c:=c) (by omega) (by omega);unfold vH Ab;dsimp only;rw[decide_eq_true h,t147,t142,dy,e,kD (n:=((j+1:Nat):Int)+1) (by omega) (by omega)];refine⟨rfl,⟨by dsimp only;omega,by dsimp only;omega,?_⟩,by dsimp only;omega⟩;dsimp only;rw[Option.getD_some,hr,show(((j+1:Nat):Int)+1-1).toNat=j+1 by omega,hc];rfl
 ·unfold vH Ab;dsimp only;rw[decide_eq_false h];refine⟨rfl,?_⟩;show c=_;grind
def Bv (p:Pos)(b:Int)(s:Nat):Bool:=qT (p.ab.getD s 0)&&vk (p.ab.getD s 0)==b
def tot (p:Pos)(b:Int)(s:Nat):Int:=bif Bv p b s then wt b (bY (p.ab.getD s 0)) s else 0
theorem Kl:∀v:Fin 256,0≤bY v.val∧bY v.val≤6∧(qT v.val=true→1≤bY v.val):=by decide +kernel
theorem Au {v:Int}(h0:0≤v)(h1:v≤255):0≤bY v∧bY v≤6∧(qT v=true→1≤bY v):=by have:=Kl ⟨v.toNat,by omega⟩;grind
theorem yC {b:Int}{j:Nat}:tk p b j=sm (fun s=>bif dv b (j+1:Nat) (p.ab.getD s 0)then wt b (j+1:Nat) s else 0) 64:=by unfold tk;rw[OF];exact vE fun i hi=>by rw[bK p b _ hi]
theorem six {b:Int}(hp:ax p)(hb:b=0∨b=1):sm (tk p b) 6=sm (tot p b) 64:=by
 show 0+tk p b 0+tk p b 1+tk p b 2+tk p b 3+tk p b 4+tk p b 5=_;rw[yC,yC,yC,yC,yC,yC,Int.zero_add,←ou,←ou,←ou,←ou,←ou];refine vE fun s hs=>?_;have hv:0≤p.ab.getD s 0∧p.ab.getD s 0≤255:=dm hp.b0 (by omega) s;obtain⟨k0,k6,k1⟩:=Au hv.1 hv.2;have r:∀j:Nat,j<6→dv b (j+1:Nat) (p.ab.getD s 0)=(Bv p b s&&bY (p.ab.getD s 0)==(j+1:Nat)):=fun j hj=>by rw[←Ew hv.1 hv.2 hb (by omega) (by omega)];unfold rOf Bv;rw[Bool.and_assoc]
 rw[r 0 (by omega),r 1 (by omega),r 2 (by omega),r 3 (by omega),r 4 (by omega),r 5 (by omega)];unfold tot;cases hm:Bv p b s with
 |false=>rfl
 |true =>have h1:1≤bY (p.ab.getD s 0):=k1 (by unfold Bv at hm;simp_all);grind
variable {p:Pos}
def crn (p:Pos)(b:Int)(s:Nat):Bool:=Bv p b s&&(bY (p.ab.getD s 0)==6&&p.variant==4)
def rt (p:Pos)(b:Int)(s:Nat):Int:=tot p b s+bif crn p b s then 200 else 0
theorem aem (hp:ax p){b:Int}(hb:b=0∨b=1){s:Nat}(hs:s<64){c:Int}(c0 : -1000000≤c)(c1:c≤1000000):pH b p (c,s)=true∧tF b p (c,s)=.go (c+rt p b s,(s:Int)+1):=by
 have hv:0≤p.ab.getD s 0∧p.ab.getD s 0≤255:=dm hp.b0 (by omega) s;obtain⟨k0,k6,k1⟩:=Au hv.1 hv.2;obtain⟨a1,a2⟩:=VF (p:=p) hs;obtain⟨h1,h2,h3,h4,h5,h6,h7,h8,h9,h10,h11,h12,h13,h14,h15,h16⟩:=AX hb k0 k6 (s:=s) (by omega) (by omega);unfold pH tF rt tot crn Bv;dsimp only;rw[a1,a2,decide_eq_true (show(s:Int)<64 by omega),aF (n:=(s:Int)+1) (by omega) (by omega)];unfold wt;cases hz:qT (p.ab.getD s 0)with
 |false=>simp_all
 |true =>
  have nz:(p.ab.getD s 0==0)=false:=beq_eq_false_iff_ne.2 fun e=>by rw[e]at hz;revert hz;decide +kernel
  simp only[cond_true,nz,cond_false,h13,h14,Bool.true_and,Bool.and_true];cases hc:vk (p.ab.getD s 0)==b with
  |false =>grind
  |true =>
   have hc':(vk (p.ab.getD s 0) != b)=false:=by unfold bne;rw[hc];rfl
   rw[hc'];generalize bY (p.ab.getD s 0)=K at *;generalize dX K=P at *;generalize dQ (s:Int)=D at *;generalize eP (s:Int)=R at *;have e1:wr .i64 (4*D)=4*D:=aF (by omega) (by omega);have e2:wr .i64 (6*R)=6*R:=aF (by omega) (by omega);have e3:wr .i64 (7-R)=7-R:=aF (by omega) (by omega);have e4:wr .i64 (6*(7-R))=6*(7-R):=aF (by omega) (by omega);have e5:wr .i64 (c+P)=c+P:=aF (by omega) (by omega);have e6:wr .i64 (c+P-4*D)=c+P-4*D:=aF (by omega) (by omega);have e7:wr .i64 (c+P-4*D+200)=c+P-4*D+200:=aF (by omega) (by omega);have e8:wr .i64 (c+P-4*D+6*R)=c+P-4*D+6*R:=aF (by omega) (by omega);have e9:wr .i64 (c+P-4*D+200+6*R)=c+P-4*D+200+6*R:=aF (by omega) (by omega);have e10:wr .i64 (c+P-4*D+6*(7-R))=c+P-4*D+6*(7-R):=aF (by omega) (by omega);grind
theorem aen (hp:ax p){b:Int}(hb:b=0∨b=1){s:Nat}(hs:s<64) : -1000≤rt p b s∧rt p b s≤2000:=by have hv:0≤p.ab.getD s 0∧p.ab.getD s 0≤255:=dm hp.b0 (by omega) s;obtain⟨k0,k6,k1⟩:=Au hv.1 hv.2;have h:=AX hb k0 k6 (s:=s) (by omega) (by omega);unfold rt tot wt;grind
theorem ZX (hp:ax p){b:Int}(hb:b=0∨b=1):∃r,fK b p (0,0)=some r∧r.1=sm (rt p b) 64:=by
 refine aQ (I:=fun x=>0≤x.2∧x.2≤64∧x.1=sm (rt p b) x.2.toNat) (Q:=fun r:Int×Int×Bool=>r.1=sm (rt p b) 64) (μ:=fun x=>(64-x.2).toNat) ?_ _ ⟨by simp,by simp,by simp[sm]⟩ (by simp);rintro⟨c,n⟩ ⟨h0,h1,hc⟩;simp only at h0 h1 hc;by_cases h:n<64
 ·obtain⟨s,hs,rfl⟩:∃s:Nat,s<64∧n=s:=by grind
  rw[Int.toNat_natCast]at hc;have hi:=Vn (f:=rt p b) (n:=s) fun i hi=>aen hp hb (by omega);obtain⟨k1,k2⟩:=aem hp hb hs (c:=c) (by omega) (by omega);rw[k1,k2];refine⟨rfl,⟨by dsimp only;omega,by dsimp only;omega,?_⟩,by dsimp only;omega⟩;dsimp only;rw[show((s:Int)+1).toNat=s+1 by omega,hc];rfl
 ·unfold pH tF;dsimp only;rw[decide_eq_false h];refine⟨rfl,?_⟩;show c=_;grind
theorem aaR (hp:ax p){b:Int}(hb:b=0∨b=1):sm (rt p b) 64=sm (tk p b) 6+200*cm (crn p b) 64:=by rw[six hp hb,←KS,←ou];rfl
theorem aaS (hp:ax p){b:Int}(hb:b=0∨b=1):(cm (crn p b) 64:Int)=bif p.variant==4 then Fj p b 6 else 0:=by
 cases h:p.variant==4 with
 |false =>rw[jn.2 fun i _=>by unfold crn;rw[h];simp];rfl
 |true =>rw[cond_true];unfold Fj SH;rw[tz,uS];congr 1;refine nj fun i hi=>?_;have hv:0≤p.ab.getD i 0∧p.ab.getD i 0≤255:=dm hp.b0 (by omega) i;rw[bK p b 6 hi,←Ew hv.1 hv.2 hb (by omega) (by omega)];unfold crn Bv rOf;grind
def pk (p:Pos)(b:Nat)(k:Nat):Int:=p.ah.getD (6*b+k) 0*qG k
theorem EI:∀k:Fin 6,qG k.val=dX k.val∧0≤qG k.val∧qG k.val≤900∧uV k.val=true:=by decide +kernel
theorem Qk (hp:ax p)(b:Nat){k:Nat}(hk:k<6):0≤pk p b k∧pk p b k≤229500:=by
 have hv:0≤p.ah.getD (6*b+k) 0∧p.ah.getD (6*b+k) 0≤255:=dm hp.k0 (by omega) _;have h:=EI ⟨k,hk⟩;simp only at h;unfold pk;refine⟨Int.mul_nonneg hv.1 h.2.1,?_⟩
 calc p.ah.getD (6*b+k) 0*qG k≤255*qG k:=Int.mul_le_mul_of_nonneg_right hv.2 h.2.1
  _≤229500:=by omega
theorem zC (hp:ax p)(b:Nat):∀{n:Nat},n≤6→0≤sm (pk p b) n∧sm (pk p b) n≤229500*n
 | 0,_=>by simp[sm]
 |n+1,h=>by
  have h1:=zC hp b (n:=n) (by omega)
  have h2:=Qk hp b (k:=n) (by omega)
  unfold sm
  omega
theorem aag (hp:ax p){b:Nat}(hb:b<2){c:Int}(c0 : -1000000≤c)(c1:c≤1000000):∃r,qb b p (c,0)=some r∧r.1=c+sm (pk p b) 6:=by
 refine aQ (I:=fun x=>0≤x.2∧x.2≤6∧x.1=c+sm (pk p b) x.2.toNat) (Q:=fun r:Int×Int×Bool=>r.1=c+sm (pk p b) 6) (μ:=fun x=>(6-x.2).toNat) ?_ _ ⟨by simp,by simp,by simp[sm]⟩ (by simp);rintro⟨y,n⟩ ⟨h0,h1,hy⟩;simp only at h0 h1 hy;by_cases h:n<6
 ·obtain⟨k,hk,rfl⟩:∃k:Nat,k<6∧n=k:=by grind
  rw[Int.toNat_natCast]at hy;have hs:=zC hp b (n:=k) (by omega);have hi:=Qk hp b hk;have hf:=EI ⟨k,hk⟩;simp only at hf;have hv:0≤p.ah.getD (6*b+k) 0∧p.ah.getD (6*b+k) 0≤255:=dm hp.k0 (by omega) _;have e:wr .i64 (p.ah.getD (scale 6 (b:Int)+scale 1 (k:Int)).toNat 0)*dX (wr .u8 (k:Int))=pk p b k:=by unfold pk;rw[kD (by omega) (by omega),hf.1,show(scale 6 (b:Int)+scale 1 (k:Int)).toNat=6*b+k by unfold scale;omega,aF (by omega) (by omega)]
  unfold uw Af;dsimp only;rw[decide_eq_true h,decide_eq_true (show(0:Int)≤b by omega),decide_eq_true (show(b:Int)<Int.ofNat 2 by show(b:Int)<2;omega),decide_eq_true (show(0:Int)≤k by omega),decide_eq_true (show(k:Int)<Int.ofNat 6 by show(k:Int)<6;omega),e,aF (n:=pk p b k) (by omega) (by omega),aF (n:=y+pk p b k) (by omega) (by omega),aF (n:=(k:Int)+1) (by omega) (by omega)];refine⟨rfl,⟨by dsimp only;omega,by dsimp only;omega,?_⟩,by dsimp only;omega⟩;dsimp only;rw[show((k:Int)+1).toNat=k+1 by omega,hy,show sm (pk p b) (k+1)=sm (pk p b) k+pk p b k from rfl];omega
 ·unfold uw Af;dsimp only;rw[decide_eq_false h];refine⟨rfl,?_⟩;show y=_;grind
theorem ano (hp:ax p){b:Nat}(hb:b<2){k:Nat}(hk:k<6):(List.take 6 (List.drop (scale 6 (b:Int)).toNat p.ah)).getD k 0=p.ah.getD (6*b+k) 0:=by rw[List.getD_eq_getElem?_getD,List.getElem?_take_of_lt hk,List.getElem?_drop,←List.getD_eq_getElem?_getD];congr 1;unfold scale;omega
theorem Ii (hp:ax p){b:Nat}(hb:b<2):CW p b=sm (pk p b) 6:=by
 have h:∃r,nI (List.take 6 (List.drop (scale 6 (b:Int)).toNat p.ah)) p (0,0)=some r∧r.1=sm (pk p b) 6:=by
  refine aQ (I:=fun x=>0≤x.2∧x.2≤6∧x.1=sm (pk p b) x.2.toNat) (Q:=fun r:Int×Int×Bool=>r.1=sm (pk p b) 6) (μ:=fun x=>(6-x.2).toNat) ?_ _ ⟨by simp,by simp,by simp[sm]⟩ (by simp);rintro⟨y,n⟩ ⟨h0,h1,hy⟩;simp only at h0 h1 hy;by_cases h:n<6
  ·obtain⟨k,hk,rfl⟩:∃k:Nat,k<6∧n=k:=by grind
   rw[Int.toNat_natCast]at hy;have hs:=zC hp b (n:=k) (by omega);have hi:=Qk hp b hk;have hf:=EI ⟨k,hk⟩;simp only at hf;have hv:0≤p.ah.getD (6*b+k) 0∧p.ah.getD (6*b+k) 0≤255:=dm hp.k0 (by omega) _;have e:qG (wr .u8 (k:Int))*wr .i64 ((List.take 6 (List.drop (scale 6 (b:Int)).toNat p.ah)).getD ((k:Int)).toNat 0)=pk p b k:=by unfold pk;rw[kD (by omega) (by omega),Int.toNat_natCast,ano hp hb hk,aF (by omega) (by omega),Int.mul_comm]
   unfold wN AB;dsimp only;rw[decide_eq_true h,e,aF (n:=pk p b k) (by omega) (by omega),aF (n:=y+pk p b k) (by omega) (by omega),aF (n:=(k:Int)+1) (by omega) (by omega)];refine⟨?_,⟨by dsimp only;omega,by dsimp only;omega,?_⟩,by dsimp only;omega⟩
   ·rw[decide_eq_true (show(0:Int)≤k by omega),decide_eq_true (show(k:Int)<Int.ofNat 6 by show(k:Int)<6;omega),kD (n:=(k:Int)) (by omega) (by omega),hf.2.2.2];rfl
   ·dsimp only;rw[show((k:Int)+1).toNat=k+1 by omega,hy];rfl
  ·unfold wN AB;dsimp only;rw[decide_eq_false h];refine⟨rfl,?_⟩;show y=_;grind
 exact(aJ h).2
theorem Mq {X R:Type}{I:X→Prop}{Q:R→Prop}{ok:X→Bool}{st:X→aG X R}(h:∀x,I x→xf I Q (fun _=>0) 1 (st x)):∀(n:Nat) (x:X) (r:R),I x→cW (fun x=>bif ok x then st x else .bad) n x=some r→Q r
 | 0,x,r,_,e=>by simp[cW]at e
 |n+1,x,r,hx,e=>by
  have h1:=h x hx
  rw[cW]at e
  cases ho:ok x with
  |false=>rw[ho]at e;cases e
  |true =>
   rw[ho,cond_true]at e
   cases hs:st x with
   |go y=>rw[hs]at h1 e;exact Mq h n y r h1.1 e
   |out z=>rw[hs]at h1 e;cases e;exact h1
   |bad=>simp_all
def ex (p:Pos)(b:Int):Nat→Int
 | 0=>bif 2==p.variant then CW p b else 0
 | 1=>bif 8==p.variant then xo p b else 0
 | 2=>bif 6==p.variant then xA p b else 0
 | 3=>bif 5==p.variant then zu p b else 0
 |_=>bif 4==p.variant then zq p b else 0
theorem s60:∀s:Fin 64,0≤I8 s.val∧I8 s.val≤1000 ∧ -1000≤II s.val∧II s.val≤0∧I8 s.val=wr .i64 (60*eP s.val)∧II s.val = - wr .i64 (30*dQ s.val)∧tR s.val=true∧fV s.val=true:=by decide +kernel
theorem acd (hp:ax p){b:Nat}(hb:b<2):0≤CW p b∧CW p b≤2000000:=by have:=zC hp b (n:=6) (by omega);rw[Ii hp hb];omega
theorem YH (p:Pos)(b:Int):0≤xo p b∧xo p b≤2000000:=by
 have h:=fH p b 6;unfold xo;refine al (P:=fun x:Int=>0≤x∧x≤2000000) (fun _=>by omega) fun h2=>?_;have h2:¬bg p b 6<0:=by simpa using h2
 have:=s60 ⟨(bg p b 6).toNat,by omega⟩;grind
theorem YS (p:Pos)(b:Int) : -2000000≤xA p b∧xA p b≤0:=by
 have h:=fH p b 6;unfold xA;refine al (P:=fun x:Int => -2000000≤x∧x≤0) (fun _=>by omega) fun h2=>?_;have h2:¬bg p b 6<0:=by simpa using h2
 have:=s60 ⟨(bg p b 6).toNat,by omega⟩;grind
theorem KR (hp:ax p)(b:Int):0≤zu p b∧zu p b≤2000000:=by have hv:0≤p.au.getD (scale 1 b).toNat 0∧p.au.getD (scale 1 b).toNat 0≤255:=dm hp.c0 (by omega) _;unfold zu;rw[aF (n:=p.au.getD (scale 1 b).toNat 0) (by omega) (by omega),aF (by omega) (by omega)];omega
theorem QF (p:Pos)(b:Int):0≤zq p b∧zq p b≤2000000∧zq p b=200*Fj p b 6:=by have h:Fj p b 6=(Fc (aS p b 6):Nat):=tz _;have:=aip (aS p b 6);unfold zq;rw[h,aF (by omega) (by omega)];omega
theorem Xd (hp:ax p){b:Nat}(hb:b<2)(j:Nat) : -2000000≤ex p b j∧ex p b j≤2000000:=by have:=acd hp hb;have:=YH p b;have:=YS p b;have:=KR hp b;have:=QF p b;unfold ex;grind
theorem Ed (hp:ax p){b:Nat}(hb:b<2):∀n:Nat,-2000000*n≤sm (ex p b) n∧sm (ex p b) n≤2000000*n
 | 0=>by simp[sm]
 |n+1=>by
  have h1:=Ed hp hb n
  have h2:=Xd hp hb n
  unfold sm
  omega
theorem aaQ (hp:ax p){b:Nat}(hb:b<2){c:Int}(c0 : -100000000≤c)(c1:c≤100000000){r:Int×Int×Bool}(e:ng b p (c,0)=some r):r.1=c+sm (ex p b) 5:=by
 refine Mq (I:=fun x:Int×Int=>0≤x.2∧x.2≤5∧x.1=c+sm (ex p b) x.2.toNat) (Q:=fun r=>r.1=c+sm (ex p b) 5) ?_ many _ r ⟨by simp,by simp,by simp[sm]⟩ e;rintro⟨y,n⟩ ⟨h0,h1,hy⟩;simp only at h0 h1 hy;obtain⟨k,rfl⟩:∃k:Nat,n=k:=⟨n.toNat,by omega⟩;rw[Int.toNat_natCast]at hy;have hs:=Ed hp hb k;have hi:=Xd hp hb k;have key:∀(cnd:Bool) (X:Int) (m:Int),m=(k:Int)+1→k<5→ex p b k=(bif cnd then X else 0)→xf (fun x:Int×Int=>0≤x.2∧x.2≤5∧x.1=c+sm (ex p b) x.2.toNat) (fun r:Int×Int×Bool=>r.1=c+sm (ex p b) 5) (fun _=>0) 1 (bif cnd then .go (wr .i64 (y+X),m)else .go (y,m)):=by
  intro cnd X m hm hk hx;subst hm;rw[hx]at hi;have e2:sm (ex p b) (k+1)=sm (ex p b) k+bif cnd then X else 0:=by rw[←hx];rfl
  cases cnd with
  |true =>rw[cond_true]at hi e2;rw[cond_true,aF (n:=y+X) (by omega) (by omega)];exact⟨⟨by dsimp only;omega,by dsimp only;omega,by dsimp only;rw[show((k:Int)+1).toNat=k+1 by omega,e2,hy];omega⟩,Nat.zero_lt_one⟩
  |false =>rw[cond_false]at e2;exact⟨⟨by dsimp only;omega,by dsimp only;omega,by dsimp only;rw[show((k:Int)+1).toNat=k+1 by omega,e2,hy];omega⟩,Nat.zero_lt_one⟩
 have hk:k=0∨k=1∨k=2∨k=3∨k=4∨k=5:=by omega
 rcases hk with rfl|rfl|rfl|rfl|rfl|rfl
 ·exact key (2==p.variant) (CW p b) 1 rfl (by omega) rfl
 ·exact key (8==p.variant) (xo p b) 2 rfl (by omega) rfl
 ·exact key (6==p.variant) (xA p b) 3 rfl (by omega) rfl
 ·exact key (5==p.variant) (zu p b) 4 rfl (by omega) rfl
 ·exact key (4==p.variant) (zq p b) 5 rfl (by omega) rfl
 ·exact hy
theorem H2 {v b:Int}(v0:0≤v):PO v b=(decide (v≤8)&&decide (b≤1)):=by
 have h:(!I3 v==(ByteArray.mk #[]).data.toList)=decide (v≤8):=by
  by_cases h:v≤8
  ·have key:∀u:Fin 9,(!I3 u.val==(ByteArray.mk #[]).data.toList)=true:=by decide +kernel
   have:=key ⟨v.toNat,by omega⟩;grind
  ·rw[decide_eq_false h];have e:xn v=⟨[],false,false,false,false,false,0⟩:=by unfold xn;rw[decide_eq_true (show v≥9 by omega)];rfl
   unfold I3;rw[e];rfl
 unfold PO;simp_all
theorem Hh (hp:ax p){b:Nat}(hb:b<2):yQ p b=true∧nS p b=iv p b ∧ -100000000≤iv p b∧iv p b≤100000000:=by
 have hb2:(b:Int)=0∨(b:Int)=1:=by omega
 have b1:decide ((b:Int)>1)=false:=by grind
 unfold yQ nS iv;rw[H2 hp.v0,b1,decide_eq_true (show(b:Int)≤1 by omega),Bool.and_true];by_cases hv:p.variant≤8
 ·rw[decide_eq_true hv,decide_eq_false (show ¬p.variant>8 by omega)];obtain⟨r1,e1,h1⟩:=abg (p:=p) hb2;have hs6:=Ei (p:=p) hb2 (n:=6) (by omega);rw[e1];simp only[Option.getD_some,Bool.not_true,cond_false];rw[h1];have hsm:=Mu (a:=(b:Int)) (by omega) (by omega) p (sm (tk p b) 6);obtain⟨r3,e3⟩:=Option.isSome_iff_exists.1 hsm;have h3:=aaQ hp hb (by omega) (by omega) e3;rw[e3];simp only[Option.getD_some];rw[h3];have hx:=Ed hp hb 5;obtain⟨ra,ea,ha⟩:=ZX hp hb2;rw[ea];simp only[Option.getD_some,Option.isSome_some,Bool.true_and];rw[ha,aaR hp hb2,aaS hp hb2];obtain⟨f1,f2⟩:=Tb hp hb2 (k:=6) (by omega) (by omega);rw[f1,f2];have hlo:=fH p b 6;have e5:sm (ex p b) 5=0+ex p b 0+ex p b 1+ex p b 2+ex p b 3+ex p b 4:=rfl;have lo : -100000000≤sm (tk p b) 6+sm (ex p b) 5∧sm (tk p b) 6+sm (ex p b) 5≤100000000:=by omega
  obtain⟨rb,eb,hb'⟩:=aag hp hb (c:=sm (tk p b) 6+200*0) (by omega) (by omega);have b210:=Ii hp hb;have b216:=KR hp b;have b217:=(QF p b).2.2;have k0:decide ((0:Int)≤b)=true:=by simp_all
  have k2:decide ((b:Int)<Int.ofNat 2)=true:=by grind
  have hN:bg p b 6<0∨∃s:Fin 64,bg p b 6=s.val:=by
   rcases Int.lt_or_le (bg p b 6) 0 with h|h
   ·exact .inl h
   ·exact .inr ⟨⟨(bg p b 6).toNat,by omega⟩,by grind⟩
  have hvs:p.variant=0∨p.variant=1∨p.variant=2∨p.variant=3∨p.variant=4∨p.variant=5∨p.variant=6∨p.variant=7∨p.variant=8:=by have:=hp.v0;omega
  have both:∀{A B:Prop},A∧B→A∧B ∧ -100000000≤(bif !true then 0 else sm (tk p b) 6+sm (ex p b) 5)∧(bif !true then 0 else sm (tk p b) 6+sm (ex p b) 5)≤100000000:=by simp_all
  refine both ?_;clear both e1 e3 ea h1 h3 ha hsm f1 f2;rw[e5]at lo⊢;unfold ex at lo⊢;rcases hvs with h|h|h|h|h|h|h|h|h<;>simp only[h,Int.reduceBEq,cond_true,cond_false,Bool.not_true]at lo⊢
  ·simp_all
  ·simp_all
  ·simp_all
  ·simp_all
  ·simp_all
  ·rw[k0,k2];refine⟨rfl,?_⟩;show wr .i64 (sm (tk p b) 6+200*0+zu p b)=_;rw[aF (by omega) (by omega)];omega
  ·rcases hN with h0|⟨s,hs⟩
   ·rw[decide_eq_false (show ¬bg p b 6≥0 by omega)];unfold xA;simp_all
   ·have h6:=s60 s;unfold xA at lo⊢;rw[hs,decide_eq_false (show ¬(s.val:Int)<0 by omega)]at lo⊢;rw[decide_eq_true (show(s.val:Int)≥0 by omega),h6.2.2.2.2.2.2.1];simp only[cond_true,cond_false]at lo⊢;refine⟨rfl,?_⟩;rw[aF (n:=sm (tk p b) 6+200*0-_) (by omega) (by omega)];omega
  ·simp_all
  ·rcases hN with h0|⟨s,hs⟩
   ·rw[decide_eq_false (show ¬bg p b 6≥0 by omega)];unfold xo;simp_all
   ·have h6:=s60 s;unfold xo at lo⊢;rw[hs,decide_eq_false (show ¬(s.val:Int)<0 by omega)]at lo⊢;rw[decide_eq_true (show(s.val:Int)≥0 by omega),h6.2.2.2.2.2.2.2];simp only[cond_true,cond_false]at lo⊢;refine⟨rfl,?_⟩;rw[aF (n:=sm (tk p b) 6+200*0+_) (by omega) (by omega)];omega
 grind
theorem LU (hp:ax p):Y0 p=true∧N45 p=sQ p:=by
 unfold Y0 N45 sQ;rw[H2 hp.v0];by_cases hv:p.variant≤8
 ·rw[decide_eq_true hv,decide_eq_false (show ¬p.variant>8 by omega)];by_cases ht:p.aa≤1
  ·rw[decide_eq_true ht,decide_eq_false (show ¬p.aa>1 by omega)];have t0:=hp.t0;obtain⟨t,ht2,e⟩:∃t:Nat,t<2∧p.aa=t:=⟨p.aa.toNat,by omega,by omega⟩;have e1:wr .u8 (1-p.aa)=((1-t:Nat):Int):=by rw[kD (by omega) (by omega)];omega
   obtain⟨a1,a2,a3,a4⟩:=Hh hp ht2;obtain⟨b1,b2,b3,b4⟩:=Hh hp (b:=1-t) (by omega);unfold yu;rw[e1,e,a1,a2,b1,b2];have w:wr .i64 (iv p t-iv p ((1-t:Nat):Int))=iv p t-iv p ((1-t:Nat):Int):=aF (by omega) (by omega);have w2:wrap64 (iv p t-iv p ((1-t:Nat):Int))=iv p t-iv p ((1-t:Nat):Int):=by unfold wrap64;omega
   rw[w,w2];have dd : -200000000≤iv p t-iv p ((1-t:Nat):Int)∧iv p t-iv p ((1-t:Nat):Int)≤200000000:=by omega
   clear w w2;generalize iv p t-iv p ((1-t:Nat):Int)=d at dd⊢;refine⟨rfl,?_⟩;simp only[cond_true,cond_false,Bool.and_true];have z1:wr .i64 (0-d)=0-d:=aF (by omega) (by omega);have z2:wrap64 (-d) = -d:=by unfold wrap64;omega
   grind
  grind
 grind
def K10:KT:=[(10,43,[(0,[1,2]),(1,[1,2,8]),(2,[2]),(3,[1,2,3]),(4,[1,2,3,14]),(5,[2]),(6,[1,2,19]),(7,[1,2,4,5]),(8,[1,2,4,5,22]),(9,[1,2,4]),(10,[1,2,4,5]),(11,[1,2,4,5,25]),(12,[2]),(13,[2,5,31]),(14,[2]),(15,[2]),(16,[1,2,36]),(17,[2]),(18,[2,40]),(19,[2]),(20,[2])])]
def B10:ar:=bO Pz K10 [(11,G11),(19,JZ),(32,G32),(33,G33),(34,G34)] [] []
theorem atp:aO B10:=af ae ⟨s11,Kg,s32,s33,s34,trivial⟩ trivial trivial
def Kx (a:Pos):(Int×Int):=(bif !qK a then⟨(0),(0)⟩else(bif(Q4 a).1 != 0 then⟨((Q4 a).1),((Q4 a).2)⟩else(bif Int.ofNat (sK a).length==0 then(bif a.aa==1 then(bif a.variant==4 then⟨(2),(8)⟩else(bif oH a a.aa then⟨(1),(1)⟩else⟨(3),(2)⟩))else(bif a.variant==4 then⟨(1),(8)⟩else(bif oH a a.aa then⟨(2),(1)⟩else⟨(3),(2)⟩)))else(bif N34 a then⟨(3),(3)⟩else(bif decide (a.half≥150)then⟨(3),(4)⟩else⟨(0),(0)⟩)))))
def Jc (a:Pos):Bool:=(bif !qK a then true else(EE a&&(bif(Q4 a).1 != 0 then true else(D7 a&&(bif Int.ofNat (sK a).length==0 then(bif a.aa==1 then(bif a.variant==4 then true else(jN a (a.aa)&&true))else(bif a.variant==4 then true else(jN a (a.aa)&&true)))else(SO a&&true))))))
theorem P10 (a:Pos)(h:Jc a=true):PS Pz 10 [Pos.av a] ((dR .u8 .u8).res (Kx a)):=pq14 atp h
def G10:GT:=g1 aZ (fun a=>b7 (Jc a) ((dR .u8 .u8).res (Kx a)))
theorem s10:Sound Pz 10 G10:=aH fun a=>aA (P10 a)
end Kz
namespace Kz
open Go Go.RowKit
noncomputable section
variable {p:Pos}(hp:ax p)
include hp
theorem FD:Jc p=true∧Kx p=jo p:=by
 by_cases hth:there p
 ·obtain⟨a1,a2⟩:=LG hp;obtain⟨b1,b2⟩:=AI hp;have t0:=hp.t0;have t1:=hth.1;have ht:p.aa=0∨p.aa=1:=by omega
  obtain⟨c1,c2⟩:=ug hp ht ht;obtain⟨d1,d2⟩:=Y7 hp;refine⟨?_,?_⟩
  ·unfold Jc;simp_all
  ·unfold Kx;rw[qU hth,ky hth,a2,b2,c2,d2,Bool.not_true,cond_false];cases (uC p).1 != 0
   ·rw[cond_false,cond_false];unfold nT vf wO;by_cases hl:(dh p).length=0
    ·rw[hl];rcases ht with h|h<;>rw[h]
     ·cases p.variant==4
      ·cases ju p 0<;>rfl
      ·rfl
     ·cases p.variant==4
      ·cases ju p 1<;>rfl
      ·rfl
    ·rw[show decide (Int.ofNat (dh p).length>0)=true by simp;omega,show(Int.ofNat (dh p).length==0)=false by simp;exact fun e=>hl (by rw[e];rfl)];cases E0 p
     ·cases decide (p.half≥150)<;>rfl
     ·rfl
   ·rfl
 ·refine⟨?_,?_⟩
  ·unfold Jc;rw[tc hth];rfl
  ·unfold Kx;rw[tc hth,zR hth];rfl
end
end Kz
namespace Kz
open Go Go.RowKit Go.Proofs
def K22:KT:=[(22,36,[(0,[1]),(1,[1,3]),(2,[1,3,4]),(3,[1,3,11]),(4,[2]),(5,[1,3,5]),(6,[1,3,5,6]),(7,[1,3,5,6,18]),(8,[1,3,5,6]),(9,[1,3,5,6,27]),(10,[1,3,5,6]),(11,[2])])]
def adp:ar:=bO Pz K22 [(10,G10),(11,G11),(39,Se)] [] []
theorem abc:aO adp:=af ae ⟨s10,s11,VT,trivial⟩ trivial trivial
def Wx (p1:M')(p2:Pos)(p3:Int)(p4:Int)(p5:Nat)(x:(M'×Int)):St:=St.mk (.any::.ptr 0 0::.any::.list .mv x.1 (.own 1)::.any::.list .mv p1 .fresh::.int .i64 x.2::(an 29 [])) (Hp.mk [(pc p2 []),[.int .u8 p3,.int .u8 p4]] [p5,x.1.length] [] 0 0 0)
def VO (p1:M')(p2:Pos)(p3:Int)(p4:Int)(p5:Nat):(M'×Int×Bool)→Out:=fun y=>.exit 0 (St.mk (.any::.ptr 0 0::.any::.list .mv y.1 (.own 1)::.any::.list .mv p1 .fresh::.int .i64 y.2.1::(an 11 (.bool y.2.2::(an 17 [])))) (Hp.mk [(pc p2 []),[.int .u8 p3,.int .u8 p4]] [p5,y.1.length] [] 0 0 0))
def N9 (p1:M')(p2:Pos)(p3:Int)(p4:Int)(p5:Nat)(x:(M'×Int)):aG (M'×Int) ((M'×Int×Bool)):=(bif decide (x.2<Int.ofNat p1.length)then(bif decide (iq p2 (p1.getD x.2.toNat default)≥0)then(aG.go (x.1++[p1.getD x.2.toNat default],wr .i64 (x.2+1)))else(aG.go (x.1,wr .i64 (x.2+1))))else(aG.out ((x.1,x.2,decide (x.2<Int.ofNat p1.length)))))
def Hq (p1:M')(p2:Pos)(p3:Int)(p4:Int)(p5:Nat)(x:(M'×Int)):Bool:=(bif decide (x.2<Int.ofNat p1.length)then(decide (0≤x.2)&&decide (x.2<Int.ofNat p1.length)&&(nN p2 (p1.getD x.2.toNat default)&&(bif decide (iq p2 (p1.getD x.2.toNat default)≥0)then(decide (0≤x.2)&&decide (x.2<Int.ofNat p1.length)&&(x.1.length==x.1.length&&decide (x.1.length+1≤1073741824)&&true))else true)))else true)
def wW (p1:M')(p2:Pos)(p3:Int)(p4:Int)(p5:Nat)(x:(M'×Int)):Option ((M'×Int×Bool)):=cW (fun x=>bif Hq p1 p2 p3 p4 p5 x then N9 p1 p2 p3 p4 p5 x else .bad) many x
abbrev Wy {α:Type}(k:M'→Pos→Int→Int→Nat→(M'×Int)→α)(s:St):α:=wP s 0 fun q0=>k (tL (ET.mv) (tT s 5)) q0 (tI (tH s 1 0)) (tI (tH s 1 1)) (tK s 0) ((tL (ET.mv) (tT s 3)),(tI (tT s 6)))
theorem ah1 (p1:M')(p2:Pos)(p3:Int)(p4:Int)(p5:Nat)(x:(M'×Int))(r:(M'×Int×Bool))(h:wW p1 p2 p3 p4 p5 x=some r):aC Pz (bc Pz 22 7) (Wx p1 p2 p3 p4 p5 x) (VO p1 p2 p3 p4 p5 r):=smq (m:=12) (fn:=22) abc (Wy fun _ _ _ _ _ x=>some x) (fun o=>match o with | .exit 0 s=>some ((tL ET.mv (tT s 3)),(tI (tT s 6)),(tB (tT s 18)))|_=>none) many x r h
def VM (b:Code)(s:St):Tr Out:=Wy (fun p1 p2 p3 p4 p5 x=>jS b (bc Pz 22 7) s (Wx p1 p2 p3 p4 p5 x) (wW p1 p2 p3 p4 p5 x) (VO p1 p2 p3 p4 p5)) s
theorem X4:∀b,aT Pz b (VM b):=fun _ _ _ h=>bF (ah1 _ _ _ _ _ _) h
def B22:ar:=bO Pz K22 [(10,G10),(11,G11),(39,Se)] [(22,7,VM)] []
theorem an2:aO B22:=af ae ⟨s10,s11,VT,trivial⟩ ⟨X4,trivial⟩ trivial
def zO (a:Pos):M':=(bif(Kx a).1 != 0 then([])else(((wW (sK a) a (Kx a).1 (Kx a).2 0 ([],0)).getD default).1))
def aa8 (a:Pos):Bool:=(Jc a&&(bif(Kx a).1 != 0 then true else(D7 a&&((wW (sK a) a (Kx a).1 (Kx a).2 0 ([],0)).isSome&&true))))
theorem P22 (a:Pos)(h:aa8 a=true):PS Pz 22 [Pos.av a] ((dL .mv).res (zO a)):=pq14 an2 h
def K23:KT:=[(23,18,[(0,[0,3]),(1,[0,3,5]),(2,[0,3,5,9]),(3,[0,3,5]),(4,[0,3,5,17]),(5,[4]),(6,[4])])]
def afT:ar:=bO Pz K23 [] [] []
theorem Zi:aO afT:=af ae trivial trivial trivial
def Xp (p1:M')(p2:Mv)(x:(Int)):St:=St.mk (.list .mv p1 .arg::.any::.any::.ptr 0 0::.any::.int .i64 x::(an 12 [])) (Hp.mk [[.int .i8 p2.aD,.int .i8 p2.to,.int .u8 p2.bU,.int .u8 p2.bh,.bool p2.bZ]] [] [] 0 0 0)
def XG (p1:M')(p2:Mv):Unit ⊕ (Int×Bool)→Out
 |(.inl (y))=>.ret (St.mk (an 4 (AV.aU true::(an 13 []))) (Hp.mk [[AV.int .i8 p2.aD,AV.int .i8 p2.to,AV.int .u8 p2.bU,AV.int .u8 p2.bh,AV.bool p2.bZ]] [] [] 0 0 0))
 |(.inr (y))=>.exit 0 (St.mk (AV.list ET.mv p1 Tk.arg::AV.any::AV.any::AV.ptr 0 0::AV.any::AV.int .i64 y.1::(an 3 (AV.bool y.2::(an 8 [])))) (Hp.mk [[AV.int .i8 p2.aD,AV.int .i8 p2.to,AV.int .u8 p2.bU,AV.int .u8 p2.bh,AV.bool p2.bZ]] [] [] 0 0 0))
def KU (p1:M')(p2:Mv)(x:(Int)):aG (Int) (Unit ⊕ (Int×Bool)):=(bif decide (x<Int.ofNat p1.length)then(bif cg BinOp.eql ((p1.getD x.toNat default).aD==p2.aD&&((p1.getD x.toNat default).to==p2.to&&((p1.getD x.toNat default).bU==p2.bU&&((p1.getD x.toNat default).bh==p2.bh&&((p1.getD x.toNat default).bZ==p2.bZ&&true)))))then(aG.out (.inl (())))else(aG.go (wr .i64 (x+1))))else(aG.out (.inr ((x,decide (x<Int.ofNat p1.length))))))
def Hz (p1:M')(p2:Mv)(x:(Int)):Bool:=(bif decide (x<Int.ofNat p1.length)then(decide (0≤x)&&decide (x<Int.ofNat p1.length)&&true)else true)
def rN (p1:M')(p2:Mv)(x:(Int)):Option (Unit ⊕ (Int×Bool)):=cW (fun x=>bif Hz p1 p2 x then KU p1 p2 x else .bad) many x
abbrev Vs {α:Type}(k:M'→Mv→(Int)→α)(s:St):α:=wM s 0 fun q0=>k (tL (ET.mv) (tT s 0)) q0 ((tI (tT s 5)))
theorem ajB (p1:M')(p2:Mv)(x:(Int))(r:Unit ⊕ (Int×Bool))(h:rN p1 p2 x=some r):aC Pz (bc Pz 23 2) (Xp p1 p2 x) (XG p1 p2 r):=aC.Be (m:=12) (fn:=23) Zi (Vs fun _ _ x=>some x) (fun o=>match o with | .ret s=>some (.inl ()) | .exit 0 s=>some (.inr ((tI (tT s 5)),(tB (tT s 9))))|_=>none) (fun r=>by cases r<;>rfl) (fun _=>by kernel_rfl) (fun _=>by kernel_rfl) (fun _=>by kernel_rfl) (fun _=>by kernel_rfl) many x r h
def WA (b:Code)(s:St):Tr Out:=Vs (fun p1 p2 x=>Bg b (bc Pz 23 2) s (Xp p1 p2 x) (rN p1 p2 x) (XG p1 p2)) s
theorem YC:∀b,aT Pz b (WA b):=fun _ _ _ h=>fj (ajB _ _ _) h
def B23:ar:=bO Pz K23 [] [(23,2,WA)] []
theorem alq:aO B23:=af ae trivial ⟨YC,trivial⟩ trivial
def Vx (a:M')(b:Mv):Bool:=(bif cQ ((rN a b 0).getD default)then(true)else(false))
def J1 (a:M')(b:Mv):Bool:=((rN a b 0).isSome&&bif cQ ((rN a b 0).getD default)then true else true)
theorem P23 (a:M')(b:Mv)(h:J1 a b=true):PS Pz 23 [.list .mv a .arg,Mv.av b] (dB.res (Vx a b)):=pq14 alq h
def G23:GT:=g2 (dL .mv) rJ (fun a b=>b7 (J1 a b) (dB.res (Vx a b)))
theorem s23:Sound Pz 23 G23:=aP fun a b=>aA (P23 a b)
variable {p:Pos}{m:Mv}{l:M'}
theorem KZ (hp:ax p)(h:m∈dh p):m∈bR p:=by
 rw[Qi hp]at h;revert h;cases ((uC p).1 != 0)with
 |true=>intro h;cases h
 |false=>exact fun h=>(HA hp h).1
theorem J4 (hp:ax p)(a b:Int):∃r,wW (dh p) p a b 0 ([],0)=some r∧r.1=(dh p).filter (ig p):=by
 have hl:=nn hp;refine aQ (I:=fun x:M'×Int=>0≤x.2∧x.2≤((dh p).length:Int)∧x.1=((dh p).take x.2.toNat).filter (ig p)) (Q:=fun r:M'×Int×Bool=>r.1=(dh p).filter (ig p)) (μ:=fun x=>(((dh p).length:Int)-x.2).toNat) ?_ _ (by simp_all) (by dsimp only;omega);rintro⟨o,i⟩ ⟨i0,i1,ho⟩;dsimp only at i0 i1 ho;unfold Hq N9;dsimp only;by_cases hi:i<Int.ofNat (dh p).length
 ·have hi':i<((dh p).length:Int):=hi;have hmem:=eD (l:=dh p) (i:=i.toNat) (d:=default) (by omega);have h66:=KZ hp hmem;obtain⟨hth,_⟩:=iL hp h66;obtain⟨k1,k2⟩:=vW hp hth h66;have e47:decide (bC p ((dh p).getD i.toNat default)≥0)=ig p ((dh p).getD i.toNat default):=rfl;have ol:o.length≤20802:=by
   rw[ho];have:=List.length_filter_le (ig p) ((dh p).take i.toNat);have h3:((dh p).take i.toNat).length≤(dh p).length:=by rw[List.length_take];omega
   omega
  have step:((dh p).take (i+1).toNat).filter (ig p)=o++(bif ig p ((dh p).getD i.toNat default)then[(dh p).getD i.toNat default]else[]):=by rw[show(i+1).toNat=i.toNat+1 by omega,List.take_add_one,List.filter_append,←ho];congr 1;rw[List.getD_eq_getElem?_getD];rw[I' (show i.toNat<(dh p).length by omega)];show List.filter (ig p) [(dh p)[i.toNat]]=_;rw[List.filter_cons];show(if ig p (dh p)[i.toNat]=true then _ else _)=(bif ig p (dh p)[i.toNat]then _ else _);cases ig p (dh p)[i.toNat]<;>rfl
  rw[decide_eq_true hi,decide_eq_true i0,k1,k2,e47,aF (by omega) (by omega),decide_eq_true (show o.length+1≤1073741824 by omega),beq_self_eq_true];refine⟨by simp_all,?_⟩;rw[cond_true];cases hf:ig p ((dh p).getD i.toNat default)with
  |true =>rw[hf]at step;exact⟨⟨by dsimp only;omega,by dsimp only;omega,step.symm⟩,by dsimp only;omega⟩
  |false =>rw[hf]at step;exact⟨⟨by dsimp only;omega,by dsimp only;omega,by dsimp only;rw[step];simp⟩,by dsimp only;omega⟩
 ·have hi':¬i<((dh p).length:Int):=hi;rw[decide_eq_false hi];refine⟨rfl,?_⟩;show o=_;rw[ho,List.take_of_length_le (by omega)]
theorem Ah (hp:ax p):aa8 p=true∧zO p=bif(jo p).1 != 0 then[]else(dh p).filter (ig p):=by obtain⟨a1,a2⟩:=FD hp;obtain⟨b1,b2⟩:=AI hp;obtain⟨r,e,h⟩:=J4 hp (jo p).1 (jo p).2;unfold aa8 zO;simp_all
theorem adg (hl:l.length≤1000000)(m:Mv):J1 l m=true∧Vx l m=decide (m∈l):=by
 obtain⟨r,e,h⟩:∃r,rN l m 0=some r∧cQ r=decide (m∈l):=by
  refine aQ (I:=fun x:Int=>0≤x∧x≤(l.length:Int)∧∀j:Nat,(j:Int)<x→l.getD j default≠m) (Q:=fun r:Unit ⊕ (Int×Bool)=>cQ r=decide (m∈l)) (μ:=fun x=>((l.length:Int)-x).toNat) ?_ _ (by grind) (by omega);rintro x ⟨x0,x1,hx⟩;unfold Hz KU;by_cases hi:x<Int.ofNat l.length
  ·have hi':x<(l.length:Int):=hi;have hin:=eD (l:=l) (i:=x.toNat) (d:=default) (by omega);rw[decide_eq_true hi,decide_eq_true x0,aF (n:=x+1) (by omega) (by omega),xP];refine⟨rfl,?_⟩;rw[cond_true];by_cases h:l.getD x.toNat default=m
   ·rw[decide_eq_true h];rw[h]at hin;exact(decide_eq_true hin).symm
   ·rw[decide_eq_false h];refine⟨⟨by omega,by omega,fun j hj=>?_⟩,show((l.length:Int)-(x+1)).toNat<((l.length:Int)-x).toNat by omega⟩;grind
  ·rw[decide_eq_false hi];refine⟨rfl,?_⟩;refine(decide_eq_false fun hm=>?_).symm;obtain⟨j,hj,e⟩:=List.getElem_of_mem hm;grind
 unfold J1 Vx;simp_all
def K13:KT:=[(13,15,[(0,[2,3,4]),(1,[2,3,4,10]),(2,[4,5]),(3,[4,5])])]
def B13:ar:=bO Pz K13 [(26,G26),(23,G23),(36,G36)] [] []
theorem an1:aO B13:=af ae ⟨s26,s23,s36,trivial⟩ trivial trivial
def yb (a:Pos)(b:Mv):(Pos×Bool):=(bif !Vx (BW a) b then(⟨(a.variant),(a.ab),(a.ai),(a.ah),(a.aa),(a.ao),(a.az),(a.au),(a.half),(a.full)⟩,false)else(⟨((yB a b).variant),((yB a b).ab),((yB a b).ai),((yB a b).ah),((yB a b).aa),((yB a b).ao),((yB a b).az),((yB a b).au),((yB a b).half),((yB a b).full)⟩,true))
def Uc (a:Pos)(b:Mv):Bool:=(Et a&&(J1 (BW a) b&&(bif !Vx (BW a) b then true else(Jq a b&&true))))
theorem P13 (a:Pos)(b:Mv)(h:Uc a b=true):PS Pz 13 [Pos.av a,Mv.av b] ((d2 aZ dB).res (yb a b)):=pq14 an1 h
variable {p:Pos}{m:Mv}
theorem JM (hp:ax p)(h:m∈bR p):Uc p m=true∧(yb p m).1=(du p m).1:=by
 obtain⟨hth,_⟩:=iL hp h;obtain⟨a1,a2⟩:=Qm hp hth;have hl:=kJ hp;obtain⟨h1,h2⟩:=adg (l:=bR p) (by omega) m;obtain⟨m1,m2⟩:=zf hp hth h;have e65:Kf (bR p) m=true:=by rw[mF (by omega)];exact decide_eq_true h
 unfold Uc yb;rw[GU,e65,a1,a2,h1,h2,decide_eq_true h,m1,m2];exact⟨rfl,rfl⟩
def K44:KT:=[(44,15,[(0,[2,3]),(1,[2,3,7]),(2,[4]),(3,[14]),(4,[4]),(5,[4])])]
def B44:ar:=bO Pz K44 [] [] []
theorem akx:aO B44:=af ae trivial trivial trivial
def N44 (a:Pos)(b:(Int×Int)):Int:=(bif b.1==3 then(0)else(bif cg BinOp.eql ((b.1==1)==(a.aa==0))then(30000)else(-30000)))
def alR (a:Pos)(b:(Int×Int)):Bool:=true
theorem P44 (a:Pos)(b:(Int×Int))(h:alR a b=true):PS Pz 44 [Pos.av a,(dR .u8 .u8).arg b] ((dI .i64).res (N44 a b)):=pq14 akx h
def K53:KT:=[(53,12,[(0,[0]),(1,[0,4]),(2,[2]),(3,[0,8]),(4,[2]),(5,[2])])]
def B53:ar:=bO Pz K53 [] [] []
theorem alY:aO B53:=af ae trivial trivial trivial
def Wl (a:Int):Int:=(bif decide (a>20000)then(wr .i64 (a-1))else(bif decide (a < -20000)then(wr .i64 (a+1))else(a)))
def alC (a:Int):Bool:=true
theorem P53 (a:Int)(h:alC a=true):PS Pz 53 [.int .i64 a] ((dI .i64).res (Wl a)):=pq14 alY h
def jf (f:Pos→Int→Int×Int)(p:Pos)(s:Int×Int×Bool)(m:Mv):Int×Int×Bool :=
 ((bif decide (Wl (wrap64 (-(f (yb p m).1 s.2.1).1))>s.1) ||(s.2.2&&p.variant==4)then Wl (wrap64 (-(f (yb p m).1 s.2.1).1))else s.1),(f (yb p m).1 s.2.1).2,false)
def bX:Nat→Pos→Int→Int×Int
 | 0,p,k=>if 200000<k+1 then(0,k+1)else bif(jo p).1 != 0 then(N44 p (jo p),k+1)else(sQ p,k+1)
 |n+1,p,k=>if 200000<k+1 then(0,k+1)else bif(jo p).1 != 0 then(N44 p (jo p),k+1)else(((zO p).foldl (jf (bX n) p) (sQ p,k+1,true)).1,((zO p).foldl (jf (bX n) p) (sQ p,k+1,true)).2.1)
def C2 (n:Nat)(p:Pos)(m:Mv)(k:Int):Int×Int:=(Wl (wrap64 (-(bX n (yb p m).1 k).1)),(bX n (yb p m).1 k).2)
def Bd:Nat→Int
 | 0=>1
 |n+1=>1+20802*Bd n
theorem vG:∀n,1≤Bd n
 | 0=>Int.le_refl _
 |n+1=>by have:=vG n;unfold Bd;omega
variable {p:Pos}
theorem nF (hp:ax p):∀m∈zO p,m∈dh p:=by rw[(Ah hp).2];grind
theorem xT (hp:ax p):(zO p).length≤20802:=by
 have hl:=nn hp;have hf:((dh p).filter (ig p)).length≤(dh p).length:=by grind
 rw[(Ah hp).2];grind
theorem lY (hp:ax p){m:Mv}(h:m∈dh p):Uc p m=true∧ax (yb p m).1∧(yb p m).1=(du p m).1:=by obtain⟨a,b⟩:=JM hp (KZ hp h);exact⟨a,by rw[b];exact jY hp m,b⟩
theorem Fx {f:Pos→Int→Int×Int}{b:Int}(hb:1≤b)(hf:∀m∈dh p,∀k,0≤k→k≤(f (yb p m).1 k).2∧(f (yb p m).1 k).2≤k+b):∀(l:M'),(∀m∈l,m∈dh p)→∀s:Int×Int×Bool,0≤s.2.1→s.2.1≤(l.foldl (jf f p) s).2.1∧(l.foldl (jf f p) s).2.1≤s.2.1+l.length*b
 | [],_,s,_=>by simp
 |m::l,hl,s,h0=>by
  have h1:=hf m (hl m (.head _)) s.2.1 h0
  have h2:=Fx hb hf l (by simp_all) (jf f p s m) (by show 0≤(f (yb p m).1 s.2.1).2;omega)
  have e:(jf f p s m).2.1=(f (yb p m).1 s.2.1).2:=rfl
  rw[e]at h2
  have e2:((l.length+1:Nat):Int)*b=l.length*b+b:=by rw[Int.natCast_add,Int.add_mul];simp
  grind
theorem Ac:∀(n:Nat) {p:Pos},ax p→∀k:Int,0≤k→k<(bX n p k).2∧(bX n p k).2≤k+Bd n
 | 0,q,_,k,_=>by
  unfold bX Bd
  grind
 |n+1,q,hp,k,h0=>by
  have hB:=vG n
  unfold bX Bd
  split
  ·omega
  ·cases ((jo q).1 != 0)<;>simp only[cond_true,cond_false]
   ·have h:=Fx (f:=bX n) hB (fun m hm k hk=>by have:=Ac n (lY hp hm).2.1 k hk;omega) (zO q) (nF hp) (sQ q,k+1,true) (by dsimp only;omega)
    have hl:=xT hp
    have:((zO q).length:Int)*Bd n≤20802*Bd n:=Int.mul_le_mul_of_nonneg_right (by omega) (by omega)
    grind
   ·omega
def ym (w:World)(c:Nat)(ty:TypeId)(x:Int×Int)(e:Ending)(w':World):Prop:=e=.returned (.int .i64 x.1)∧fx w c ty x.2 w'
def VR (n:Nat):Prop := ∀(p:Pos),ax p→∀(k:Int),0≤k→k+Bd n≤4000000000000000000→∀(c:Nat) (ty:TypeId) (w:World),cN w→w.heap[c]?=some (.cells #[.int .i64 k] ty (0,0)) →
 ∀(pcs:Array Value),ay (cH w) [] w (bf (Pos.av p)) pcs.toList→Calls Tryz.prog 20 #[.pointer (some ⟨c,0,none⟩),.agg pcs,.int .i64 (n:Int)] w (ym w c ty (bX n p k))
def GR (n:Nat):Prop := ∀(p:Pos),ax p→∀(m:Mv),m∈dh p→∀(k:Int),0≤k→k+Bd n≤4000000000000000000→∀(c:Nat) (ty:TypeId) (w:World),cN w→w.heap[c]?=some (.cells #[.int .i64 k] ty (0,0)) →
 ∀(pcs:Array Value),ay (cH w) [] w (bf (Pos.av p)) pcs.toList→Calls Tryz.prog 25 #[.pointer (some ⟨c,0,none⟩),.agg pcs,.agg (bP m).toArray,.int .i64 ((n:Int)+1)] w (ym w c ty (C2 n p m k))
variable {p:Pos}{m:Mv}
theorem PU (hp:ax p)(ht:there p):(jo p).1≤3:=by
 have hw:=(Gj hp).1;have t0:=hp.t0;have t1:=ht.1;rw[qU ht];refine al (P:=fun r:Int×Int=>r.1≤3) (fun _=>?_) fun _=>al (P:=fun r:Int×Int=>r.1≤3) (fun h=>?_) fun _=>al (P:=fun r:Int×Int=>r.1≤3) (fun _=>?_) fun _=>al (P:=fun r:Int×Int=>r.1≤3) (fun _=>?_) fun _=>?_
 ·unfold mW at hw;grind
 ·have h:(nT p).1≠0:=by simpa using h
  rcases(F5 ht hp h).2 with e|⟨e,_⟩|⟨e,_⟩<;>rw[e]<;>dsimp only<;>omega
 ·rcases Gc p with e|e<;>rw[e]<;>decide
 ·rcases H8 p with⟨e,_⟩|⟨e,_⟩<;>rw[e]<;>decide
 ·decide
theorem PM (hp:ax p)(h:((jo p).1 != 0)=true):N44 p (jo p)=nO p:=by
 have ht:there p:=Classical.byContradiction fun hn=>by rw[zR hn]at h;cases h
 have h0:=(aau hp).1.1;have h3:=PU hp ht;have hne:(jo p).1≠0:=by simpa using h
 have t0:=hp.t0;have t1:=ht.1;unfold N44 nO;generalize (jo p).1=st at *;have hs:st=1∨st=2∨st=3:=by omega
 have hu:p.aa=0∨p.aa=1:=by omega
 rcases hs with rfl|rfl|rfl<;>rcases hu with e|e<;>rw[e]<;>rfl
theorem Mh (p:Pos) : -30000≤nO p∧nO p≤30000:=by unfold nO;grind
theorem back_eq {v:Int}(h0 : -30000≤v)(h1:v≤30000):Wl (wrap64 (-v))=iw v ∧ -30000≤iw v∧iw v≤30000:=by
 have e0:wrap64 (-v) = -v:=by unfold wrap64;omega
 have e:wr .i64 (0-v) = -v:=by rw[aF (by omega) (by omega)];omega
 have e1:wr .i64 (-v-1) = -v-1:=aF (by omega) (by omega);have e2:wr .i64 (-v+1) = -v+1:=aF (by omega) (by omega);unfold Wl iw;grind
def og:Nat→Pos→Int
 | 0,_=>1
 |n+1,p=>bif(jo p).1 != 0 then 1 else 1+((zO p).map fun m=>og n (du p m).1).sum
def val:Nat→Pos→Int
 | 0,p=>bif(jo p).1 != 0 then nO p else sQ p
 |n+1,p=>bif(jo p).1 != 0 then nO p else((zO p).map fun m=>iw (val n (du p m).1)).foldl max (bif p.variant==4&&decide (0<(zO p).length)then -30001 else sQ p)
theorem oV {f:Mv→Int}(h:∀m,1≤f m):∀l:M',0≤(l.map f).sum
 | []=>by simp
 |m::l=>by
  have h1:=h m
  have h2:=oV h l
  grind
theorem jB:∀(n:Nat) (p:Pos),1≤og n p
 | 0,_=>Int.le_refl _
 |n+1,p=>by
  unfold og
  have:=oV (f:=fun m=>og n (du p m).1) (fun m=>jB n _) (zO p)
  grind
theorem KC {a b:Int}:∀(l:List Int) (x:Int),(∀y∈l,a≤y∧y≤b)→x≤b→x≤l.foldl max x∧l.foldl max x≤b∧(l≠[]→a≤l.foldl max x)
 | [],x,_,hx=>by simp_all
 |y::l,x,h,hx=>by
  have hy:=h y (.head _)
  have ih:=KC (a:=a) (b:=b) l (max x y) (by simp_all) (by omega)
  grind
theorem yY:∀(n:Nat) (p:Pos),-30000≤val n p∧val n p≤30000
 | 0,p=>by
  have h1:=Mh p
  have h2:=Ln p
  unfold val
  grind
 |n+1,p=>by
  have h1:=Mh p
  have h2:=Ln p
  unfold val
  cases ((jo p).1 != 0)with
  |true=>exact h1
  |false =>
   rw[cond_false]
   have hm:=KC (a := -30000) (b:=30000) ((zO p).map fun m=>iw (val n (du p m).1)) (bif p.variant==4&&decide (0<(zO p).length)then -30001 else sQ p) (fun y hy=>by
    obtain⟨m,_,rfl⟩:=List.mem_map.1 hy
    have:=yY n (du p m).1
    exact(back_eq this.1 this.2).2) (by grind)
   refine⟨?_,hm.2.1⟩
   by_cases he:zO p=[]
   ·grind
   simp_all
theorem Ps {l k:List Int}(h:l.Perm k):∀x:Int,l.foldl max x=k.foldl max x:=by
 induction h with
 |nil=>intro x;rfl
 |cons a _ ih=>intro x;exact ih _
 |swap a b l=>grind
 |trans _ _ h1 h2=>intro x;rw[h1,h2]
theorem KX {l k:List Int}(h:l.Perm k):l.sum=k.sum:=by
 induction h with
 |nil=>rfl
 |cons a _ ih=>simp[ih]
 |swap a b l=>simp;omega
 |trans _ _ h1 h2=>rw[h1,h2]
theorem DW (hp:ax p)(h:((jo p).1 != 0)=false):(gJ p).Perm (zO p):=by rw[(Ah hp).2,h];unfold gJ;rw[show N29 p=((jo p).1 != 0)from rfl,h];exact C4 p _
theorem foldM {n:Nat}(ih:∀m∈dh p,∀k:Int,bM n (du p m).1 k=if k+og n (du p m).1≤200000 then some (val n (du p m).1,k+og n (du p m).1)else none):∀(l:M'),(∀m∈l,m∈dh p)→∀b k:Int,k≤200000→l.foldl (fX (bM n) p) (some (b,k))=if k+(l.map fun m=>og n (du p m).1).sum≤200000 then some ((l.map fun m=>iw (val n (du p m).1)).foldl max b,k+(l.map fun m=>og n (du p m).1).sum)else none
 | [],_,b,k,hk=>by simp[hk]
 |m::l,hl,b,k,hk=>by
  have hs:=oV (f:=fun m=>og n (du p m).1) (fun m=>jB n _) l
  simp only[List.foldl_cons,List.map_cons,List.sum_cons,fX,ih m (hl m (.head _))]
  by_cases h:k+og n (du p m).1≤200000
  ·rw[if_pos h]
   simp only
   rw[foldM ih l (fun x hx=>hl x (.tail _ hx)) _ _ h]
   grind
  ·rw[if_neg h]
   simp only
   rw[j9,if_neg (by omega)]
theorem xa:∀(n:Nat) {p:Pos},ax p→∀k:Int,bM n p k=if k+og n p≤200000 then some (val n p,k+og n p)else none
 | 0,p,_,k=>by
  unfold bM og val
  grind
 |n+1,p,hp,k=>by
  have hc:=jB (n+1) p
  by_cases h:200000<k+1
  ·rw[if_neg (by omega)]
   unfold bM
   rw[if_pos h]
  ·unfold bM og val
   rw[if_neg h]
   cases hb:((jo p).1 != 0)with
   |true=>simp_all
   |false =>
    have hpm:=DW hp hb
    rw[cond_false,cond_false,cond_false,foldM (fun m hm k=>xa n (jY hp m) k) _ (fun m hm=>nF hp m (hpm.mem_iff.1 hm)) _ _ (by omega),KX (hpm.map _),Ps (hpm.map _),Int.add_assoc]
    unfold px
    rw[hpm.length_eq]
variable {p:Pos}{m:Mv}
def RE (n:Nat)(p:Pos):Prop := ∀k:Int,0≤k→(k+og n p≤200000→bX n p k=(val n p,k+og n p))∧(200000<k+og n p→200000<(bX n p k).2)
theorem LC (hp:ax p){n:Nat}(hm:m∈dh p)(h:RE n (du p m).1){b k:Int}(k0:0≤k)(f:Bool)(hc:k+og n (du p m).1≤200000) :
  jf (bX n) p (b,k,f) m=((bif f&&p.variant==4 then iw (val n (du p m).1)else max b (iw (val n (du p m).1))),k+og n (du p m).1,false):=by obtain⟨_,_,e⟩:=lY hp hm;have hv:=yY n (du p m).1;unfold jf;dsimp only;rw[e,(h k k0).1 hc];dsimp only;rw[(back_eq hv.1 hv.2).1];grind
theorem Dv (hp:ax p){n:Nat}(hm:m∈dh p)(h:RE n (du p m).1){b k:Int}(k0:0≤k)(f:Bool)(hc:200000<k+og n (du p m).1):200000<(jf (bX n) p (b,k,f) m).2.1:=by obtain⟨_,_,e⟩:=lY hp hm;have:=(h k k0).2 hc;unfold jf;simp_all
theorem Ib (hp:ax p)(n:Nat)(l:M')(hl:∀m∈l,m∈dh p)(s:Int×Int×Bool)(h0:0≤s.2.1):s.2.1≤(l.foldl (jf (bX n) p) s).2.1 :=
 (Fx (f:=bX n) (vG n) (fun m hm k hk=>by have:=Ac n (lY hp hm).2.1 k hk;omega) l hl s h0).1
theorem Vk (hp:ax p){n:Nat}(h:∀m∈dh p,RE n (du p m).1):∀(l:M'),(∀m∈l,m∈dh p)→∀b k:Int,0≤k →
  (k+(l.map fun m=>og n (du p m).1).sum≤200000→l.foldl (jf (bX n) p) (b,k,false)=((l.map fun m=>iw (val n (du p m).1)).foldl max b,k+(l.map fun m=>og n (du p m).1).sum,false)) ∧
  (200000<k+(l.map fun m=>og n (du p m).1).sum→200000<k∨200000<(l.foldl (jf (bX n) p) (b,k,false)).2.1)
 | [],_,b,k,_=>by simp
 |m::l,hl,b,k,k0=>by
  have hm:=hl m (.head _)
  have hl':∀x∈l,x∈dh p:=by simp_all
  have hs:=oV (f:=fun m=>og n (du p m).1) (fun m=>jB n _) l
  have hc:=jB n (du p m).1
  simp only[List.foldl_cons,List.map_cons,List.sum_cons]
  by_cases e:k+og n (du p m).1≤200000
  ·rw[LC hp hm (h m hm) k0 false e,Bool.false_and,cond_false]
   have ih:=Vk hp h l hl' (max b (iw (val n (du p m).1))) (k+og n (du p m).1) (by omega)
   grind
  ·have ho:=Dv hp hm (h m hm) (b:=b) k0 false (by omega)
   have:=Ib hp n l hl' (jf (bX n) p (b,k,false) m) (by omega)
   omega
theorem Bo:∀(n:Nat) {p:Pos},ax p→RE n p
 | 0,p,hp=>fun k k0=>by
  unfold bX og val
  refine⟨fun h=>?_,fun h=>?_⟩
  ·rw[if_neg (by omega)]
   cases hb:((jo p).1 != 0)with
   |true=>rw[cond_true,cond_true,PM hp hb]
   |false=>rfl
  simp_all
 |n+1,p,hp=>fun k k0=>by
  have hc:=jB (n+1) p
  by_cases hk:200000<k+1
  ·unfold bX
   grind
  ·unfold bX
   rw[if_neg hk]
   cases hb:((jo p).1 != 0)with
   |true =>
    unfold og val
    rw[hb,cond_true,cond_true,cond_true,PM hp hb]
    simp_all
   |false =>
    unfold og val
    rw[hb,cond_false,cond_false,cond_false]
    have ih:∀m∈dh p,RE n (du p m).1:=fun m _=>Bo n (jY hp m)
    have hl:=nF hp
    revert hl
    generalize zO p=l
    intro hl
    cases l with
    |nil =>
     simp_all
    |cons m l =>
     have hm:=hl m (.head _)
     have hl':∀x∈l,x∈dh p:=by simp_all
     have hs:=oV (f:=fun m=>og n (du p m).1) (fun m=>jB n _) l
     have hc1:=jB n (du p m).1
     have hv:=yY n (du p m).1
     have hg:=(back_eq hv.1 hv.2).2
     simp only[List.foldl_cons,List.map_cons,List.sum_cons,List.length_cons,Nat.zero_lt_succ,decide_true,Bool.and_true]
     by_cases e:k+1+og n (du p m).1≤200000
     ·rw[LC hp hm (ih m hm) (by omega) true e,Bool.true_and]
      have eb:(bif p.variant==4 then iw (val n (du p m).1)else max (sQ p) (iw (val n (du p m).1)))=max (bif p.variant==4 then -30001 else sQ p) (iw (val n (du p m).1)):=by
       cases (p.variant==4)with
       |true=>grind
       |false=>rfl
      rw[eb]
      have hf:=Vk hp ih l hl' (max (bif p.variant==4 then -30001 else sQ p) (iw (val n (du p m).1))) (k+1+og n (du p m).1) (by omega)
      grind
     ·have ho:=Dv hp hm (ih m hm) (b:=sQ p) (k:=k+1) (by omega) true (by omega)
      have:=Ib hp n l hl' (jf (bX n) p (sQ p,k+1,true) m) (by omega)
      omega
theorem looks (hp:ax p)(n:Nat):(∃v k,bM n p 0=some (v,k)∧bX n p 0=(v,k)∧k≤200000)∨(bM n p 0=none∧200000<(bX n p 0).2):=by have h:=Bo n hp 0 (Int.le_refl _);rw[xa n hp];grind
def K16:KT:=[(16,64,[(0,[1]),(1,[1,10]),(2,[2]),(3,[1,3]),(4,[1,3,4]),(5,[1,3,4,5]),(6,[1,3,4,5]),(7,[1,3,4,5,6]),(8,(1::(rn 3 5 []))),(9,(1::(rn 3 5 [26]))),(10,(1::(rn 3 5 []))),(11,(1::(rn 3 5 [59]))),(12,(1::(rn 3 5 []))),(13,[2])])]
def aiv:ar:=bO Pz K16 [(19,JZ),(38,G38),(39,Se)] [] []
theorem YI:aO aiv:=af ae ⟨Kg,s38,VT,trivial⟩ trivial trivial
def W7 (p1:M')(p2:M')(p3:Pos)(p4:Pos)(x:(Int×Int)):St:=St.mk (.any::.ptr 0 0::.any::.int .i64 x.1::.list .mv p1 .fresh::.ptr 1 0::.list .mv p2 .fresh::.int .i64 x.2::(an 56 [])) (Hp.mk [(pc p3 []),(pc p4 [])] [] [] 0 0 0)
def WJ (p1:M')(p2:M')(p3:Pos)(p4:Pos):(Int×Int×Bool)→Out:=fun y=>.exit 0 (St.mk (.any::.ptr 0 0::.any::.int .i64 y.1::.list .mv p1 .fresh::.ptr 1 0::.list .mv p2 .fresh::.int .i64 y.2.1::(an 18 (.bool y.2.2::(an 37 [])))) (Hp.mk [(pc p3 []),(pc p4 [])] [] [] 0 0 0))
def Mi (p1:M')(p2:M')(p3:Pos)(p4:Pos)(x:(Int×Int)):aG (Int×Int) ((Int×Int×Bool)):=(bif decide (x.2<wr .i64 (Int.ofNat p1.length+Int.ofNat p2.length))then(bif decide (x.2<Int.ofNat p1.length)then(bif decide (iq p3 (p1.getD x.2.toNat default)≥0)then(aG.go (wr .i64 (x.1+1),wr .i64 (x.2+1)))else(bif decide (x.2≥Int.ofNat p1.length)then(bif decide (iq p4 (p2.getD (wr .i64 (x.2-Int.ofNat p1.length)).toNat default)≥0)then(aG.go (wr .i64 (x.1+1),wr .i64 (x.2+1)))else(aG.go (x.1,wr .i64 (x.2+1))))else(aG.go (x.1,wr .i64 (x.2+1)))))else(bif decide (x.2≥Int.ofNat p1.length)then(bif decide (iq p4 (p2.getD (wr .i64 (x.2-Int.ofNat p1.length)).toNat default)≥0)then(aG.go (wr .i64 (x.1+1),wr .i64 (x.2+1)))else(aG.go (x.1,wr .i64 (x.2+1))))else(aG.go (x.1,wr .i64 (x.2+1)))))else(aG.out ((x.1,x.2,decide (x.2<wr .i64 (Int.ofNat p1.length+Int.ofNat p2.length))))))
def Ic (p1:M')(p2:M')(p3:Pos)(p4:Pos)(x:(Int×Int)):Bool:=(bif decide (x.2<wr .i64 (Int.ofNat p1.length+Int.ofNat p2.length))then(bif decide (x.2<Int.ofNat p1.length)then(decide (0≤x.2)&&decide (x.2<Int.ofNat p1.length)&&(nN p3 (p1.getD x.2.toNat default)&&(bif decide (iq p3 (p1.getD x.2.toNat default)≥0)then true else(bif decide (x.2≥Int.ofNat p1.length)then(decide (0≤wr .i64 (x.2-Int.ofNat p1.length))&&decide (wr .i64 (x.2-Int.ofNat p1.length)<Int.ofNat p2.length)&&(nN p4 (p2.getD (wr .i64 (x.2-Int.ofNat p1.length)).toNat default)&&true))else true))))else(bif decide (x.2≥Int.ofNat p1.length)then(decide (0≤wr .i64 (x.2-Int.ofNat p1.length))&&decide (wr .i64 (x.2-Int.ofNat p1.length)<Int.ofNat p2.length)&&(nN p4 (p2.getD (wr .i64 (x.2-Int.ofNat p1.length)).toNat default)&&true))else true))else true)
def uG (p1:M')(p2:M')(p3:Pos)(p4:Pos)(x:(Int×Int)):Option ((Int×Int×Bool)):=cW (fun x=>bif Ic p1 p2 p3 p4 x then Mi p1 p2 p3 p4 x else .bad) many x
abbrev Vm {α:Type}(k:M'→M'→Pos→Pos→(Int×Int)→α)(s:St):α:=wP s 0 fun q0=>wP s 1 fun q1=>k (tL (ET.mv) (tT s 4)) (tL (ET.mv) (tT s 6)) q0 q1 ((tI (tT s 3)),(tI (tT s 7)))
theorem ajI (p1:M')(p2:M')(p3:Pos)(p4:Pos)(x:(Int×Int))(r:(Int×Int×Bool))(h:uG p1 p2 p3 p4 x=some r):aC Pz (bc Pz 16 9) (W7 p1 p2 p3 p4 x) (WJ p1 p2 p3 p4 r):=smq (m:=12) (fn:=16) YI (Vm fun _ _ _ _ x=>some x) (fun o=>match o with | .exit 0 s=>some ((tI (tT s 3)),(tI (tT s 7)),(tB (tT s 26)))|_=>none) many x r h
def XM (b:Code)(s:St):Tr Out:=Vm (fun p1 p2 p3 p4 x=>jS b (bc Pz 16 9) s (W7 p1 p2 p3 p4 x) (uG p1 p2 p3 p4 x) (WJ p1 p2 p3 p4)) s
theorem YO:∀b,aT Pz b (XM b):=fun _ _ _ h=>bF (ajI _ _ _ _ _) h
def B16:ar:=bO Pz K16 [(19,JZ),(38,G38),(39,Se)] [(16,9,XM)] []
theorem ak7:aO B16:=af ae ⟨Kg,s38,VT,trivial⟩ ⟨YO,trivial⟩ trivial
def Wo (a:Pos):Bool:=(bif !qK a then(false)else(decide (((uG (DJ a) (DJ (u16 a (wr .u8 (1-a.aa)))) a (u16 a (wr .u8 (1-a.aa))) (0,0)).getD default).1>16)))
def IE (a:Pos):Bool:=(bif !qK a then true else(DV a&&(DV (u16 a (wr .u8 (1-a.aa)))&&((uG (DJ a) (DJ (u16 a (wr .u8 (1-a.aa)))) a (u16 a (wr .u8 (1-a.aa))) (0,0)).isSome&&true))))
theorem P16 (a:Pos)(h:IE a=true):PS Pz 16 [Pos.av a] (dB.res (Wo a)):=pq14 ak7 h
def G16:GT:=g1 aZ (fun a=>b7 (IE a) (dB.res (Wo a)))
theorem s16:Sound Pz 16 G16:=aH fun a=>aA (P16 a)
open Classical in
def UG (a:Pos):Bool:=shut (decide (ax a))
theorem kg {p:Pos}:UG p=true ↔ ax p:=by unfold UG;rw[fL];simp
theorem DZ:∀n:Nat,n<1000000→VS n
 | 0,_=>F7 0 (by omega) (fun _ h=>by omega) 5 Tryz.sizeOf47 rfl _ Tryz.zeroValue47 rfl 88 Tryz.sizeOf31 rfl
 |n+1,h=>F7 (n+1) (by omega) (fun n' hn'=>by
   obtain rfl:n=n':=by omega
   exact QE n (by omega) (DZ n (by omega)) 88 Tryz.sizeOf31 rfl _ Tryz.zeroValue31 rfl 5 Tryz.sizeOf47 rfl) 5 Tryz.sizeOf47 rfl _ Tryz.zeroValue47 rfl 88 Tryz.sizeOf31 rfl
theorem Zd (n:Nat)(h:n<1000000):GS n :=
 QE n (by omega) (DZ n h) 88 Tryz.sizeOf31 rfl _ Tryz.zeroValue31 rfl 5 Tryz.sizeOf47 rfl
def uR (n:Int)(p:Pos)(k:Int):Option (Int×Int):=shut (bM n.toNat p k)
def sy (n:Int)(p:Pos)(m:Mv)(k:Int):Option (Int×Int):=shut (uF (n-1).toNat p m k)
def BP (r:Option (Int×Int))(b:Nat)(h:Hp):Tr bL :=
 .br r.isSome (.ret (.ret (.int .i64 (r.getD (0,0)).1) { h with heap:=h.heap.set b [.int .i64 (r.getD (0,0)).2] })) (.ret (.panic (.iface 107 (.agg [])) { h with heap:=h.heap.set b [.int .i64 200001] }))
def FVg (ok:Pos→Int→Int→Bool)(out:Int→Pos→Int→Nat→Hp→Tr bL):List AV→Hp→Tr bL:=fun xs h=>match xs with
 | [.ptr b 0,pa,na]=>(Tr.opt (aZ.dec pa)).bind fun p=>(Tr.opt ((dI .i64).dec na)).bind fun n=>match h.heap[b]? with
  |some [ka]=>(Tr.opt ((dI .i64).dec ka)).bind fun k=>.guard (ok p n k) (.guard (Nat.ble h.lo b) (out n p k b h))
  |_=>.fail
 |_=>.fail
def FGg (ok:Pos→Mv→Int→Int→Bool)(out:Int→Pos→Mv→Int→Nat→Hp→Tr bL):List AV→Hp→Tr bL:=fun xs h=>match xs with
 | [.ptr b 0,pa,ma,na]=>(Tr.opt (aZ.dec pa)).bind fun p=>(Tr.opt (rJ.dec ma)).bind fun m=>(Tr.opt ((dI .i64).dec na)).bind fun n=>match h.heap[b]? with
  |some [ka]=>(Tr.opt ((dI .i64).dec ka)).bind fun k=>.guard (ok p m n k) (.guard (Nat.ble h.lo b) (out n p m k b h))
  |_=>.fail
 |_=>.fail
theorem uL {g:Gh}{h:Hp}{w w':World}{b c:Nat}{ka:AV}{ty:TypeId}{cells:Array Value}(m:MR g h w)(hv:g.vars[b]?=some c)(hb:h.heap[b]?=some [ka])(hcell:w.heap[c]?=some (.cells cells ty (0,0)))(hsz:cells.size=1){r:Option (Int×Int)}{res:bL}{e:Ending}(hlo:h.lo≤b)(hres:(BP r b h).get=some res)(hp:gv w c ty r e w'):qs g h w res e w':=by
 have key:∀k':Int,fx w c ty k' w'→Nx g h w g { h with heap:=h.heap.set b [.int .i64 k'] } w':=by
  intro k' hL;obtain⟨m1,l1⟩:=m.EY hv hb (l':=[.int .i64 k']) (cells := #[.int .i64 k']) (ty:=ty) hcell (.one rfl (.int _ _) .nil) hsz;have hbl:RowKit.Below (bk w c (.cells #[.int .i64 k'] ty)).heap.size (bk w c (.cells #[.int .i64 k'] ty)) w':=by
   refine⟨hL.os,hL.tape,hL.output,by rw[cG];exact hL.size,fun j hj=>?_⟩;rw[cG]at hj;by_cases ej:j=c
   ·subst ej;rw[hL.cell,cx hcell]
   ·rw[aN ej];exact hL.other j hj ej
  obtain⟨m2,l2⟩:=m1.grow hbl;refine⟨m2,l1.trans l2,⟨rfl,rfl,rfl,fun i x hi hx=>?_,fun _ _ _ x=>x,fun _ _ _ x=>x⟩⟩;show(h.heap.set b _)[i]?=some x;rw[List.getElem?_set_ne (by omega)];exact hx
 cases r with
 |none =>obtain⟨rfl,hL⟩:=hp;simp only[BP,fP,aj,Option.isSome_none,cond_false,A']at hres;subst hres;exact⟨g,_,rfl,key _ hL,.iface (.agg .nil)⟩
 |some x =>obtain⟨rfl,hL⟩:=hp;simp only[BP,fP,aj,Option.isSome_some,cond_true,A',Option.getD_some]at hres;subst hres;exact⟨g,_,rfl,key _ hL,.int _ _⟩
theorem zZ (f:Nat)(h:(match Pz.funcs[f]? with|some fn=>fn.body.isSome|none=>false)=true):∃fn,Pz.funcs[f]?=some fn∧fn.body.isSome=true:=by grind
theorem Pp {g:Gh}{h:Hp}{w:World}{b c:Nat}{ka:AV}{k:Int}(m:MR g h w)(hv:g.vars[b]?=some c)(hb:h.heap[b]?=some [ka])(hk1:(dI .i64).dec ka=some k):∃ty,w.heap[c]?=some (.cells #[.int .i64 k] ty (0,0)):=by
 obtain⟨_,_,o,hcell,hbo⟩:=m.var b c _ hv hb;obtain⟨cells,ty,rfl,hcs⟩:∃cells ty,o=.cells cells ty (0,0)∧ay g h.ag w [ka] cells.toList:=by
  rcases hbo with h|⟨s,n',bs,e,_⟩
  ·exact h
  ·cases e;simp[dI,pV]at hk1
 have hck:aK ka=true:=by cases ka<;>first|rfl|(simp[dI,pV,kindOk]at hk1)
 obtain⟨x,r,ex,q,hr0⟩:=hcs.inv_one hck;have er:=hr0.cL;have q:=(dI .i64).ok _ _ hk1 _ _ _ _ q;cases q;obtain⟨cells⟩:=cells;simp_all
theorem adW {f:Nat}{ok:Pos→Int→Int→Bool}{out:Int→Pos→Int→Nat→Hp→Tr bL}(hbd:∃fn,Pz.funcs[f]?=some fn∧fn.body.isSome=true)
  (H:∀p n k,ok p n k=true→∃r,(∀b h res,(out n p k b h).get=some res→(BP r b h).get=some res)∧∀(c:Nat) (ty:TypeId) (w:World),cN w→w.heap[c]?=some (.cells #[.int .i64 k] ty (0,0))→∀(pcs:Array Value),ay (cH w) [] w (bf (Pos.av p)) pcs.toList→Calls Tryz.prog f #[.pointer (some ⟨c,0,none⟩),.agg pcs,.int .i64 n] w (gv w c ty r)):dF Pz f (FVg ok out):=by
 intro xs h res he;unfold FVg at he;split at he
 ·rename_i b pa na;simp only[get_bind,bB,B']at he;obtain⟨p,hp1,n,hn1,he⟩:=he;split at he
  ·rename_i ka hb;simp only[get_bind,bB,B',get_guard]at he;obtain⟨k,hk1,hok,hlo,hres⟩:=he;refine⟨?_,hbd⟩;obtain⟨r,hr1,hr2⟩:=H p n k hok;intro g w bw m hr;obtain⟨bw⟩:=bw;cases hr with
   |cons q1 r1 =>
   cases r1 with
   |cons q2 r2 =>
   cases r2 with
   |cons q3 r3 =>
   cases r3;cases q1 with
   |ptr hv =>
   rename_i c;have q2:=aZ.ok _ _ hp1 _ _ _ _ q2;have q3:=(dI .i64).ok _ _ hn1 _ _ _ _ q3;obtain⟨pcs,rfl,hpc⟩:=aM.cM (l:=bf (Pos.av p)) q2;obtain⟨ty,hcell2⟩:=Pp m hv hb hk1;cases q3;exact callsIn_wide.2 (Calls.mono (hr2 c ty w m.u5 hcell2 pcs (cd hpc)) fun e w' hp=>uL m hv hb hcell2 rfl (by simp_all) (hr1 _ _ _ hres) hp)
  ·simp at he
 ·simp at he
theorem adf {f:Nat}{ok:Pos→Mv→Int→Int→Bool}{out:Int→Pos→Mv→Int→Nat→Hp→Tr bL}(hbd:∃fn,Pz.funcs[f]?=some fn∧fn.body.isSome=true)
  (H:∀p m n k,ok p m n k=true→∃r,(∀b h res,(out n p m k b h).get=some res→(BP r b h).get=some res)∧∀(c:Nat) (ty:TypeId) (w:World),cN w→w.heap[c]?=some (.cells #[.int .i64 k] ty (0,0))→∀(pcs:Array Value),ay (cH w) [] w (bf (Pos.av p)) pcs.toList→Calls Tryz.prog f #[.pointer (some ⟨c,0,none⟩),.agg pcs,.agg (bP m).toArray,.int .i64 n] w (gv w c ty r)):dF Pz f (FGg ok out):=by
 intro xs h res he;unfold FGg at he;split at he
 ·rename_i b pa ma na;simp only[get_bind,bB,B']at he;obtain⟨p,hp1,mv,hm1,n,hn1,he⟩:=he;split at he
  ·rename_i ka hb;simp only[get_bind,bB,B',get_guard]at he;obtain⟨k,hk1,hok,hlo,hres⟩:=he;refine⟨?_,hbd⟩;obtain⟨r,hr1,hr2⟩:=H p mv n k hok;intro g w bw m hr;obtain⟨bw⟩:=bw;cases hr with
   |cons q1 r1 =>
   cases r1 with
   |cons q2 r2 =>
   cases r2 with
   |cons qm r3 =>
   cases r3 with
   |cons q3 r3 =>
   cases r3;cases q1 with
   |ptr hv =>
   rename_i c;have qm:=rJ.ok _ _ hm1 _ _ _ _ qm;obtain⟨mcs,rfl,hmc⟩:=aM.cM (l:=bf (Mv.av mv)) qm;have hmcs:=BG hmc;have q2:=aZ.ok _ _ hp1 _ _ _ _ q2;have q3:=(dI .i64).ok _ _ hn1 _ _ _ _ q3;obtain⟨pcs,rfl,hpc⟩:=aM.cM (l:=bf (Pos.av p)) q2;obtain⟨ty,hcell2⟩:=Pp m hv hb hk1;cases q3;have em:mcs=(bP mv).toArray:=by obtain⟨mcs⟩:=mcs;simp only at hmcs;rw[hmcs]
   rw[em];exact callsIn_wide.2 (Calls.mono (hr2 c ty w m.u5 hcell2 pcs (cd hpc)) fun e w' hp=>uL m hv hb hcell2 rfl (by simp_all) (hr1 _ _ _ hres) hp)
  ·simp at he
 ·simp at he
def Kj (p:Pos)(n k:Int):Bool:=UG p&&(decide (0≤n)&&(decide (n<1000)&&(decide (0≤k)&&decide (k≤200000))))
theorem QU {p:Pos}{n k:Int}(h:Kj p n k=true):ax p∧0≤n∧n<1000∧0≤k∧k≤200000:=by unfold Kj at h;simp only[E',decide_eq_true_eq]at h;exact⟨kg.1 h.1,h.2⟩
def FV:List AV→Hp→Tr bL:=FVg Kj fun n p k=>BP (uR n p k)
def FG:List AV→Hp→Tr bL:=FGg (fun p _ n k=>Kj p (n-1) k) fun n p m k=>BP (sy n p m k)
theorem sFV:dF Pz 43 FV:=adW (zZ 43 (by kernel_rfl)) fun p n k hok=>⟨_,fun _ _ _ h=>h,fun c ty w hg hc pcs hpc=>by
 obtain⟨k1,k2,k3,k4,k5⟩:=QU hok
 have h:=DZ n.toNat (by omega) p k1 k k4 k5 c ty w hg hc pcs hpc
 rw[show((n.toNat:Nat):Int)=n by omega]at h
 unfold uR
 rw[fL]
 exact h⟩
theorem sFG:dF Pz 52 FG:=adf (zZ 52 (by kernel_rfl)) fun p m n k hok=>⟨_,fun _ _ _ h=>h,fun c ty w hg hc pcs hpc=>by
 obtain⟨k1,k2,k3,k4,k5⟩:=QU hok
 have h:=Zd (n-1).toNat (by omega) p k1 m k k4 k5 c ty w hg hc pcs hpc
 rw[show(((n-1).toNat:Nat):Int)+1=n by omega]at h
 unfold sy
 rw[fL]
 exact h⟩
theorem aot:dF Pz 43 FV:=sFV
theorem ap2:dF Pz 52 FG:=sFG
def B18:ar:=gm Pz (fun _ _=>[]) [] [] [(43,FV)]
theorem aox:aO B18:=af ae trivial trivial ⟨aot,trivial⟩
def yr (p:Pos)(n:Int):Int×Int:=bif decide (n<0)then(0,2)else bif decide (n>32)then(0,2)else bif decide (p.variant≥9)then(0,2)else bif decide (p.aa>1)then(0,2)else bif(uR n p 0).isSome then(((uR n p 0).getD (0,0)).1,0)else(0,4)
def Ar (p:Pos)(n:Int):Bool:=bif decide (n<0)then true else bif decide (n>32)then true else bif decide (p.variant≥9)then true else bif decide (p.aa>1)then true else(Kj p n 0&&bif(uR n p 0).isSome then true else(Kj p n 0&&(!(uR n p 0).isSome&&true)))
theorem P18 (p:Pos)(n:Int)(h:Ar p n=true):PS Pz 18 [Pos.av p,.int .i64 n] ((d2 (dI .i64) (dI .i64)).res (yr p n)):=sc (n:=30) aox (by kernel_rfl) (by kernel_rfl) (by kernel_rfl) h
def G18:GT:=g2 aZ (dI .i64) (fun p n=>b7 (Ar p n) ((d2 (dI .i64) (dI .i64)).res (yr p n)))
theorem s18:Sound Pz 18 G18:=aP fun p n=>aA (P18 p n)
theorem t158 (v k:Int):xX v k=true:=by
 have hl:(s9 v).length≤5:=by unfold s9;exact al (P:=fun l:List Int=>l.length≤5) (fun _=>by simp) (by grind)
 have h:(kQ k (s9 v) 0).isSome=true:=by
  refine(aJ (Q:=fun _=>True) (aQ (I:=fun x=>0≤x∧x≤((s9 v).length:Int)) (μ:=fun x=>(((s9 v).length:Int)-x).toNat) ?_ _ ⟨by simp,by simp⟩ (by simp;omega))).1;rintro n ⟨h0,h1⟩;by_cases hc:n<(s9 v).length
  ·have hw:wr .i64 (n+1)=n+1:=aF (by omega) (by omega);refine⟨aq (fun _=>ak (by simp[h0];exact hc) fun _=>rfl) fun _=>rfl,al (fun _=>al (fun _=>trivial) fun _=>?_) fun h=>absurd h (by simpa using hc)⟩;rw[hw];exact⟨⟨by omega,by omega⟩,by dsimp only;omega⟩
  ·exact⟨aq (fun h=>absurd h (by simpa using hc)) fun _=>rfl,al (fun h=>absurd h (by simpa using hc)) fun _=>trivial⟩
 exact ak h fun _=>aq (fun _=>rfl) fun _=>rfl
theorem t39 {p:Pos}(hp:ax p)(ht:there p){m:Mv}(hm:m∈ep p):nN p m=true:=by
 obtain⟨_,f,t,hf,htt,e1,e2,_⟩:=gC hp.v0 hm;have h01:p.aa=0∨p.aa=1:=by have:=ht.1;have:=hp.t0;omega
 have w1:wr .i64 m.aD=(f:Int):=by rw[e1];exact aF (by omega) (by omega)
 have w2:wr .i64 m.to=(t:Int):=by rw[e2];exact aF (by omega) (by omega)
 have kf:(decide (0≤(f:Int))&&decide ((f:Int)<Int.ofNat 64))=true:=by simp;omega
 have kf2:(decide (0≤m.aD)&&decide (m.aD<Int.ofNat 64))=true:=by rw[e1];exact kf
 unfold nN Cp;rw[w1,w2];have h56:=t93 hp h01 hf htt;have h61:=t97 hp h01 htt;refine ak (aq (fun _=>rfl) fun _=>aq (fun _=>rfl) fun _=>aq (fun _=>rfl) fun _=>aq (fun _=>rfl) fun _=>aq (fun _=>rfl) fun _=>aq (fun _=>rfl) fun _=>aq (fun _=>rfl) fun _=>ak h56 fun _=>aq (fun _=>rfl) fun _=>ak kf fun _=>aq (fun _=>rfl) fun _=>aq (fun _=>rfl) fun _=>ak (t158 _ _) fun _=>rfl) (by simp_all)
theorem aon (l k:M')(p q:Pos)(hl:l.length≤100000)(hk:k.length≤100000)(h1:∀m∈l,nN p m=true)(h2:∀m∈k,nN q m=true):(uG l k p q (0,0)).isSome=true:=by
 have hw0:wr .i64 (Int.ofNat l.length+Int.ofNat k.length)=(l.length:Int)+k.length:=aF (by simp;omega) (by simp;omega);refine(aJ (Q:=fun _=>True) (aQ (I:=fun x=>0≤x.2∧x.2≤(l.length:Int)+k.length) (μ:=fun x=>((l.length:Int)+k.length-x.2).toNat) ?_ _ (by omega) (by simp;omega))).1;rintro⟨c,n⟩ ⟨g0,g1⟩;simp only at g0 g1;unfold Ic Mi;rw[hw0];dsimp only;by_cases hc:n<(l.length:Int)+k.length
 ·have hw:wr .i64 (n+1)=n+1:=aF (by omega) (by omega);have hd:wr .i64 (n-Int.ofNat l.length)=n-(l.length:Int):=aF (by simp;omega) (by simp;omega);have key:∀v:Int,xf (fun x:Int×Int=>0≤x.2∧x.2≤(l.length:Int)+k.length) (fun _:Int×Int×Bool=>True) (fun x:Int×Int=>((l.length:Int)+k.length-x.2).toNat) (((l.length:Int)+k.length-n).toNat) (aG.go (v,wr .i64 (n+1))):=fun v=>by rw[hw];exact⟨⟨by dsimp only;omega,by dsimp only;omega⟩,by dsimp only;omega⟩
  grind
 ·have hcb:decide (n<(l.length:Int)+k.length)=false:=decide_eq_false hc;rw[hcb,cond_false,cond_false];exact⟨rfl,trivial⟩
theorem PR {p:Pos}(hp:ax p):IE p=true:=by
 unfold IE;refine aq (fun _=>rfl) fun h=>?_;have h25:qK p=true:=by simpa using h
 have hth:p.variant<9∧p.aa<2:=by revert h25;unfold qK;exact(by simp_all)
 have t0:=hp.t0;have v0:=hp.v0;have hw:wr .u8 (1-p.aa)=1-p.aa:=kD (by omega) (by omega);rw[hw];have ht:there p:=⟨by omega,by omega⟩;have hq:ax (Pos.mk p.variant p.ab p.ai p.ah (1-p.aa) p.ao p.az p.au p.half p.full):={ hp with t0:=by grind,t1:=by grind };have hqt:there (Pos.mk p.variant p.ab p.ai p.ah (1-p.aa) p.ao p.az p.au p.half p.full):=⟨by show 1-p.aa≤1;omega,by show p.variant<9;omega⟩;have a:=D4 hp ht;have b:=D4 hq hqt;have la:=hY hp.v0;have lb:=hY hq.v0;refine ak a.1 fun _=>ak b.1 fun _=>ak ?_ fun _=>rfl;rw[a.2,b.2];exact aon _ _ _ _ (by omega) (by omega) (fun m hm=>t39 hp ht hm) (fun m hm=>t39 hq hqt hm)
theorem aaO {p:Pos}(hp:ax p){n:Int}(h0:0≤n)(h1:n≤32):Ar p n=true:=by
 have hv:Kj p n 0=true:=by unfold Kj;rw[kg.2 hp,decide_eq_true h0,decide_eq_true (show n<1000 by omega)];rfl
 unfold Ar;grind
theorem IV {p:Pos}(hv:p.variant<9)(ht:p.aa<2){n:Int}(h0:0≤n)(h1:n≤32):yr p n=match bM n.toNat p 0 with
  |some x=>(x.1,0)
  |none=>(0,4):=by unfold yr uR;rw[fL,decide_eq_false (show ¬n<0 by omega),decide_eq_false (show ¬n>32 by omega),decide_eq_false (show ¬p.variant≥9 by omega),decide_eq_false (show ¬p.aa>1 by omega)];grind
theorem Hu {p:Pos}:qK p=true ↔ p.variant<9∧p.aa<2:=by unfold qK;simp_all
theorem Ts {p:Pos}(h:qK p=false){n:Int}(h0:0≤n)(h1:n≤32):yr p n=(0,2):=by
 have hn:¬(p.variant<9∧p.aa<2):=fun e=>by rw[Hu.2 e]at h;cases h
 unfold yr;grind
end Kz
namespace Kz
open Go Go.RowKit
def QO (a b x:Int):Bool:=decide (a≤x)&&decide (x≤b)
theorem T4 {a b x:Int}:QO a b x=true ↔ a≤x∧x≤b:=by unfold QO;simp
def o8 (p:Pos):Bool :=
 QO 0 255 p.variant&&(p.ab.length==64&&p.ab.all (QO 0 255))&&(p.ah.length==12&&p.ah.all (QO 0 255))&&QO 0 255 p.aa&&(p.ao.length==4&&p.ao.all (QO (-128) 127))&&QO (-128) 127 p.az&&(p.au.length==2&&p.au.all (QO 0 255))&&QO (-9223372036854775808) 9223372036854775807 p.half&&QO (-9223372036854775808) 9223372036854775807 p.full
theorem nk {p:Pos}(h:o8 p=true):ax p:=by unfold o8 at h;simp only[E',beq_iff_eq,List.all_eq_true,T4]at h;obtain⟨⟨⟨⟨⟨⟨⟨⟨a,b⟩,c⟩,d⟩,e⟩,f⟩,g⟩,i⟩,j⟩:=h;exact⟨a.1,a.2,b.1,b.2,c.1,c.2,d.1,d.2,e.1,e.2,f.1,f.2,g.1,g.2,i,j⟩
end Kz
namespace Kz
open Go Go.RowKit Go.Proofs
def K50:KT:=[(50,9,[(0,[2,3]),(1,[4])])]
def B50:ar:=bO Pz K50 [(30,G30),(65,Gq)] [] []
theorem anO:aO B50:=af ae ⟨s30,IC,trivial⟩ trivial trivial
def XD (a:Pos)(b:Mv):Bool:=(Kf (dh a) b)
def KJ (a:Pos)(b:Mv):Bool:=(Pf a&&(CM (dh a) b&&true))
theorem P50 (a:Pos)(b:Mv)(h:KJ a b=true):PS Pz 50 [Pos.av a,Mv.av b] (dB.res (XD a b)):=pq14 anO h
def G50:GT:=g2 aZ rJ (fun a b=>b7 (KJ a b) (dB.res (XD a b)))
theorem s50:Sound Pz 50 G50:=aP fun a b=>aA (P50 a b)
def pC:Pos:=⟨0,((((List.replicate 64 (0:Int)).set 0 6).set 3 4).set 63 14).set 59 13,0,List.replicate 12 0,0,List.replicate 4 0,-1,[0,0],0,1⟩
def mC:Mv:=⟨3,59,0,0,false⟩
def qC:Pos:=(du pC mC).1
theorem p0C:jo pC=(0,0):=by kernel_rfl
theorem p1C:jo qC=(0,0):=by kernel_rfl
theorem T0C:gJ pC=[mC]:=by kernel_rfl
theorem T1C:gJ qC=[]:=by kernel_rfl
theorem e0C:(Ft pC,X7 pC)=(true,-400):=by kernel_rfl
theorem e1C:(Ft qC,X7 qC)=(true,-488):=by kernel_rfl
def WV (p q:Pos):Bool:=p.ab==q.ab&&(p.aa==q.aa&&(p.az==q.az&&(p.half==q.half&&(p.full==q.full&&(p.variant==q.variant&&(p.ai==q.ai&&(p.ah==q.ah&&(p.ao==q.ao&&p.au==q.au))))))))
theorem rF {p q:Pos}(h:WV p q=true):p=q:=by unfold WV at h;simp only[E',beq_iff_eq]at h;obtain⟨h1,h2,h3,h4,h5,h6,h7,h8,h9,h0⟩:=h;cases p;simp_all
def Zm (a:Pos):Tr AV:=match WV pC a with
 |true=>b7 (o8 a) ((dR .u8 .u8).res (0,0))
 |false=>match WV qC a with
  |true=>b7 (o8 a) ((dR .u8 .u8).res (0,0))
  |false=>.fail
def aaj (a:Pos):Tr AV:=match WV pC a with
 |true=>b7 (o8 a) ((dL .mv).res [mC])
 |false=>match WV qC a with
  |true=>b7 (o8 a) ((dL .mv).res [])
  |false=>.fail
def aba (a:Pos):Tr AV:=match WV pC a with
 |true=>.ret ((dI .i64).res (-400))
 |false=>match WV qC a with
  |true=>.ret ((dI .i64).res (-488))
  |false=>.fail
theorem aiV (a:Pos):KW Pz 62 [Pos.av a] (Zm a):=by
 unfold Zm;split
 ·rename_i e;rw[←rF e];exact aA fun h=>by rw[←p0C];exact P62 pC (t62 (nk h))
 ·split
  ·rename_i e;rw[←rF e];exact aA fun h=>by rw[←p1C];exact P62 qC (t62 (nk h))
  ·intro u hu;cases hu
theorem air (a:Pos):KW Pz 21 [Pos.av a] (aaj a):=by
 unfold aaj;split
 ·rename_i e;rw[←rF e];exact aA fun h=>by rw[←T0C];exact ZP pC (nk h)
 ·split
  ·rename_i e;rw[←rF e];exact aA fun h=>by rw[←T1C];exact ZP qC (nk h)
  ·intro u hu;cases hu
theorem afi (a:Pos):KW Pz 40 [Pos.av a] (aba a):=by
 unfold aba;split
 ·rename_i e;rw[←rF e];have h:Ft pC=true∧X7 pC = -400:=by simpa using e0C
  rw[←h.2];exact bH (P40 pC h.1)
 ·split
  ·rename_i e;rw[←rF e];have h:Ft qC=true∧X7 qC = -488:=by simpa using e1C
   rw[←h.2];exact bH (P40 qC h.1)
  ·intro u hu;cases hu
theorem ajy (a:Pos)(m:Mv):KW Pz 50 [Pos.av a,Mv.av m] (b7 (o8 a&&CM (dh a) m) (dB.res (XD a m))) :=
 aA fun h=>by
  simp only[E']at h
  exact P50 a m (ak (t30 (nk h.1)) (by simp_all))
def B17:ar:=gm Pz (fun _ _=>[]) [(31,g2 aZ rJ fun a b=>b7 (o8 a) ((d2 aZ dB).res (du a b))),(62,g1 aZ Zm),(21,g1 aZ aaj),(40,g1 aZ aba),(50,g2 aZ rJ fun a b=>b7 (o8 a&&CM (dh a) b) (dB.res (XD a b))),(111,aih)] [] []
theorem apa:aO B17:=af ae ⟨aP fun a b=>aA fun h=>P31 a b (kc (nk h) b).1,aH aiV,aH air,aH afi,aP ajy,arU,trivial⟩ trivial trivial
def Yk:Option AV→Bool
 |some (.bool b)|some (.aU b)=>b
 |_=>false
theorem LK {o:Option AV}(h:Yk o=true):∃v,o=some v∧dB.dec v=some true:=by
 unfold Yk at h;split at h
 ·subst h;exact⟨_,rfl,rfl⟩
 ·subst h;exact⟨_,rfl,rfl⟩
 ·cases h
theorem Q12:Yk (cP B17 80 17 []).get=true:=by kernel_rfl
theorem aoW:PS Pz 17 [] (dB.res true):=by obtain⟨v,h1,h2⟩:=LK Q12;exact MP apa h1 dB h2
def DN:Bool:=true
def amJ:Bool:=true
theorem P17 (_:amJ=true):PS Pz 17 [] (dB.res DN):=aoW
def G17:GT:=g0 (.ret (dB.res DN))
theorem s17:Sound Pz 17 G17:=vN (bH (P17 rfl))
end Kz
namespace Go.Proofs
open Go.Shelf Go.RowKit Go.Lib Go.Sort Kz
set_option maxHeartbeats 4000000 in
set_option maxRecDepth 100000 in
theorem Ht (n:Nat)(hn:n<4611686018427387904)(hv:VR n)(sz:Nat)(zE:∀w,(Go.sizeOf 31).run Tryz.prog w=.ok sz w)(hsz:sz=88)(zs:Array Value)(zV:∀w,(zeroValue 31).run Tryz.prog w=.ok (.agg zs) w)(hzs:zs.size=sz)(s944:Nat)(zE44:∀w,(Go.sizeOf 47).run Tryz.prog w=.ok s944 w)(h44:s944=5):GR n:=by
 intro p hp m hmem k h0 h1 c ty w hg hc pcs hpc;have aE:∀w,(isAgg 31).run Tryz.prog w=.ok true w:=Tryz.isAgg31;have aE44:∀w,(isAgg 47).run Tryz.prog w=.ok true w:=Tryz.isAgg47;have hlen:pcs.toList.length=sz:=(jF hpc).trans hsz.symm;obtain⟨mc,hmc⟩:∃mc,mc=(bP m).toArray:=⟨_,rfl⟩;have hml:mc.toList.length=s944:=by rw[hmc,h44];rfl
 rw[←hmc];have hcw:c<w.heap.size:=aB hc;have hb1:RowKit.Below w.heap.size w ((w.alloc (Obj.cells pcs 31)).alloc (Obj.cells mc 47)):=((Below.refl _ w).alloc (Nat.le_refl _) _).alloc (by simp) _;have hs1:((w.alloc (Obj.cells pcs 31)).alloc (Obj.cells mc 47)).heap.size=w.heap.size+2:=by simp
 have hbp:((w.alloc (Obj.cells pcs 31)).alloc (Obj.cells mc 47)).heap[w.heap.size]?=some (.cells pcs 31 (0,0)):=by rw[Below.heap_alloc _ _ _ (by simp)];exact heap_alloc_new w _
 have hbm:((w.alloc (Obj.cells pcs 31)).alloc (Obj.cells mc 47)).heap[w.heap.size+1]?=some (.cells mc 47 (0,0)):=by
  have h:=heap_alloc_new (w.alloc (Obj.cells pcs 31)) (Obj.cells mc 47);have h1:(w.alloc (Obj.cells pcs 31)).heap.size=w.heap.size+1:=by simp
  rw[h1]at h;exact h
 have l1:=ez hbp hlen;have l2:=ez hbm hml;have hL1:fx w c ty k ((w.alloc (Obj.cells pcs 31)).alloc (Obj.cells mc 47)):=(fx.refl hc).below hb1;have c22:Calls Tryz.prog 13 #[.agg pcs,.agg mc] ((w.alloc (Obj.cells pcs 31)).alloc (Obj.cells mc 47)) fun e w'=>∃qcs b,e=.returned (.tuple #[.agg qcs,b])∧Hid (RowKit.Below ((w.alloc (Obj.cells pcs 31)).alloc (Obj.cells mc 47)).heap.size ((w.alloc (Obj.cells pcs 31)).alloc (Obj.cells mc 47)) w')∧Hid (ay (cH w') [] w' (bf (Pos.av (yb p m).1)) qcs.toList):=by
  have h:=(P13 p m (lY hp hmem).1).1;unfold aX at h;have r1:aM (cH ((w.alloc (Obj.cells pcs 31)).alloc (Obj.cells mc 47))) [] ((w.alloc (Obj.cells pcs 31)).alloc (Obj.cells mc 47)) (Pos.av p) (.agg pcs) := .agg (cd hpc);have r2:aM (cH ((w.alloc (Obj.cells pcs 31)).alloc (Obj.cells mc 47))) [] ((w.alloc (Obj.cells pcs 31)).alloc (Obj.cells mc 47)) (Mv.av m) (.agg mc):=by rw[hmc];exact .agg (mf _ _ _ m)
  refine Calls.mono (callsIn_wide.1 (h _ #[.agg pcs,.agg mc] (gO hg hb1.size hb1.block) (.cons r1 (.cons r2 .nil)))) ?_;rintro e w' ⟨x,rfl,hb,hx⟩;cases hx with
  |tuple hx =>
  rename_i vs;obtain⟨vs⟩:=vs;cases hx with
  |cons q1 r =>
  cases r with
  |cons q2 r =>
  cases r;obtain⟨qcs,rfl,hq⟩:=aM.cM (l:=bf (Pos.av (yb p m).1)) q1;exact⟨qcs,_,rfl,hb,cd hq⟩
 have C22:=Lib.hid c22;have HL1:=Lib.hid hL1;have HG:=Lib.hid hg;have HC:=Lib.hid hc;have HV:Aside _:=hv;have HS:=Lib.hid hs1;have HZ:=Lib.hid hsz;have HZS:=Lib.hid hzs;have HM:Aside _:=(lY hp hmem).2.1;clear c22 hL1 hb1 hbp hbm hg hc hv hs1 hsz h44 hlen hml hmc hzs hmem;go_enter Tryz.func25,Tryz.ntmps25;go_wp2_with fail;refine C22.out.mono ?_;rintro e w2 ⟨qcs,bq,rfl,hb2,hq⟩;clear l1 l2;have hL2:fx w c ty k w2:=HL1.out.below hb2.out;have hqs:qcs.size=sz:=by have:=jF hq.out;rw[HZ.out];simpa using this
 have st:=run_storeCells_cells (P:=Tryz.prog) w2.heap.size 0 qcs.toList 0 (w2.alloc (Obj.cells zs 31)) (fun j hj=>by
  rw[aw (heap_alloc_new w2 _)]
  have hj2:j<qcs.size:=by simpa using hj
  rw[Array.getElem?_eq_getElem (by rw[HZS.out,←hqs];omega)]
  rfl) (fun j hj=>bQ (heap_alloc_new w2 _)) (Gv hq.out)
 have hin:=World.cell?_setCells_in w2.heap.size qcs.toList 0 (w2.alloc (Obj.cells zs 31)) (fun j hj=>by
  rw[aw (heap_alloc_new w2 _)]
  have hj2:j<qcs.size:=by simpa using hj
  rw[Array.getElem?_eq_getElem (by rw[HZS.out,←hqs];omega)]
  rfl)
 have l3:Sem.run Tryz.prog (loadCellsFrom { block:=w2.heap.size,off:=0,spot:=none } 0 sz #[]) ((w2.alloc (Obj.cells zs 31)).setCells w2.heap.size 0 qcs.toList)=.ok qcs ((w2.alloc (Obj.cells zs 31)).setCells w2.heap.size 0 qcs.toList):=by
  have h:=run_loadCellsFrom_list Tryz.prog ((w2.alloc (Obj.cells zs 31)).setCells w2.heap.size 0 qcs.toList) ⟨w2.heap.size,0,none⟩ qcs.toList sz (by simpa using hqs) (fun j v hj=>by
   have hlt:=(C'.1 hj).1
   have h2:=hin j hlt
   rw[Addr.add_lit,h2]
   rw[I' hlt]at hj
   exact hj)
  simpa using h
 have hb3:RowKit.Below w2.heap.size w2 ((w2.alloc (Obj.cells zs 31)).setCells w2.heap.size 0 qcs.toList):=by
  have e:∀(vs:List Value) (o:Nat) (W:World),RowKit.Below w2.heap.size w2 W→RowKit.Below w2.heap.size w2 (W.setCells w2.heap.size o vs):=by
   intro vs;induction vs with
   |nil=>intro o W h;exact h
   |cons v vs ih=>intro o W h;exact ih _ _ (h.setCell (Nat.le_refl _) v)
  exact e _ _ _ ((Below.refl _ w2).alloc (Nat.le_refl _) _)
 have hL3:fx w c ty k ((w2.alloc (Obj.cells zs 31)).setCells w2.heap.size 0 qcs.toList):=hL2.below hb3;have hg3:=iR HG.out HC.out hL3;have hcall:=HV.out (yb p m).1 HM.out k h0 h1 c ty _ hg3 hL3.cell qcs (cd hq.out);have hw64:wrap64 (n:Int)=(n:Int):=by unfold wrap64;omega
 have HCALL:=Lib.hid hcall;have HL3:=Lib.hid hL3;clear hcall hL3 hg3 hb3 hin hL2;go_wp2_with fail;refine HCALL.out.mono ?_;rintro e w4 ⟨rfl,hL4⟩;have hL5:=HL3.out.trans hL4;have hg4:=iR HG.out HC.out hL5;obtain⟨v,hv⟩:∃v,v=bX n (yb p m).1 k:=⟨_,rfl⟩;rw[←hv]at hL4 hL5⊢;have c78:Calls Tryz.prog 53 #[.int .i64 (wrap64 (-v.1))] w4 fun e w'=>e=.returned (.int .i64 (Wl (wrap64 (-v.1))))∧fx w c ty v.2 w':=by have h:=(P53 (wrap64 (-v.1)) rfl).1;unfold aX at h;refine Calls.mono (callsIn_wide.1 (h w4 #[.int .i64 (wrap64 (-v.1))] hg4 (.cons (.int _ _) .nil))) ?_;rintro e w' ⟨x,rfl,hb,hx⟩;cases hx;exact⟨rfl,hL5.below hb⟩
 have C78:=Lib.hid c78;have HVV:=Lib.hid hv;clear c78 hg4 hL5 hL4 st l3 hv;go_wp2_with fail;refine C78.out.mono ?_;rintro e w5 ⟨rfl,hL6⟩;have HL6:=Lib.hid hL6;clear hL6;go_wp2_with fail;go_ret;unfold C2;rw[←HVV.out];exact⟨rfl,HL6.out⟩
theorem Ly {i l:Nat}{B:Int}(h:i<l)(hl:l≤20802)(hB:1≤B):((i+1:Nat):Int)*B=i*B+B∧((i+1:Nat):Int)*B≤20802*B:=by refine⟨by rw[Int.natCast_add,Int.add_mul];simp,Int.mul_le_mul_of_nonneg_right (by omega) (by omega)⟩
theorem abd {i:Nat}(h:¬i=0):((i:Int)==0)=false:=beq_eq_false_iff_ne.2 (by omega)
set_option maxHeartbeats 8000000 in
set_option maxRecDepth 100000 in
theorem CY (n:Nat)(hn:n<4611686018427387904)(hG:∀n',n=n'+1→GR n')(s944:Nat)(zE44:∀w,(Go.sizeOf 47).run Tryz.prog w=.ok s944 w)(h44:s944=5)(sz:Nat)(zE:∀w,(Go.sizeOf 31).run Tryz.prog w=.ok sz w)(hsz:sz=88):VR n:=by
 intro p hp k h0 h1 c ty w hg hc pcs hpc;have aE44:∀w,(isAgg 47).run Tryz.prog w=.ok true w:=Tryz.isAgg47;have aE:∀w,(isAgg 31).run Tryz.prog w=.ok true w:=Tryz.isAgg31;have hlen:pcs.toList.length=sz:=(jF hpc).trans hsz.symm;have hcw:c<w.heap.size:=aB hc;have hBp:=vG n;obtain⟨N,hN⟩:∃N:Int,N=(n:Int):=⟨_,rfl⟩;rw[←hN];have HN:=Lib.hid hN;clear hN;obtain⟨ev,hev⟩:∃ev,ev=sQ p:=⟨_,rfl⟩;have HEV:=Lib.hid hev;clear hev;obtain⟨L,hL0⟩:∃L,L=zO p:=⟨_,rfl⟩;have HLL:=Lib.hid hL0;have hLB:L.length≤20802:=by rw[hL0];exact xT hp
 have HLB:=Lib.hid hLB;have HLM:Aside (∀m∈L,m∈dh p):=by rw[hL0];exact nF hp
 clear hL0 hLB;obtain⟨st,why,hst⟩:∃st why,jo p=(st,why):=⟨_,_,rfl⟩;obtain⟨en,hen⟩:∃en,en=N44 p (jo p):=⟨_,rfl⟩;have HEN:=Lib.hid hen;clear hen;have hcell0:w.cell? ⟨c,0,none⟩=some (.int .i64 k):=by rw[aw hc];rfl
 have hfr0:w.frozen? ⟨c,0,none⟩=false:=bQ hc;have hcell:(w.alloc (Obj.cells pcs 31)).cell? ⟨c,0,none⟩=some (.int .i64 k):=by rw[b9 (Below.heap_alloc w _ c hcw)];exact hcell0
 have hfr:(w.alloc (Obj.cells pcs 31)).frozen? ⟨c,0,none⟩=false:=bQ (by rw[Below.heap_alloc w _ c hcw];exact hc);have hk1:wrap64 (k+1)=k+1:=by unfold wrap64;omega
 have hL1:fx w c ty (k+1) (w.setCell ⟨c,0,none⟩ (.int .i64 (k+1))):=(fx.refl hc).put;have hL2:fx w c ty (k+1) ((w.setCell ⟨c,0,none⟩ (.int .i64 (k+1))).alloc (Obj.cells pcs 31)):=hL1.alloc _;have hss:(w.setCell ⟨c,0,none⟩ (.int .i64 (k+1))).heap.size=w.heap.size:=by simp
 have hb2:((w.setCell ⟨c,0,none⟩ (.int .i64 (k+1))).alloc (Obj.cells pcs 31)).heap[w.heap.size]?=some (.cells pcs 31 (0,0)):=by have h:=heap_alloc_new (w.setCell ⟨c,0,none⟩ (.int .i64 (k+1))) (Obj.cells pcs 31);rw[hss]at h;exact h
 have hcell2:((w.setCell ⟨c,0,none⟩ (.int .i64 (k+1))).alloc (Obj.cells pcs 31)).cell? ⟨c,0,none⟩=some (.int .i64 (k+1)):=by rw[aw hL2.cell];rfl
 have hcell3:(w.setCell ⟨c,0,none⟩ (.int .i64 (k+1))).cell? ⟨c,0,none⟩=some (.int .i64 (k+1)):=by rw[aw hL1.cell];rfl
 have l2:=ez hb2 hlen;have HL2:=Lib.hid hL2;have HB2:=Lib.hid hb2;have HG:=Lib.hid hg;have HC:=Lib.hid hc;have HLEN:=Lib.hid hlen;have hgl:∀{W:World} {k':Int},fx w c ty k' W→cN W:=fun h=>iR hg hc h;have HGL:Aside _ := @hgl;have H944:=Lib.hid h44;have HCW:=Lib.hid hcw;clear hL1 hL2 hb2 hg hc hlen hgl hsz hss h44;by_cases hgt:200000<k+1
 ·have hlook:bX n p k=(0,k+1):=by cases n<;>(unfold bX;rw[if_pos hgt])
  have HLK:=Lib.hid hlook;clear hlook;go_enter Tryz.func20,Tryz.ntmps20;go_wp2_with fail;go_ret;unfold ym;rw[HLK.out];exact⟨rfl,HL2.out⟩
 ·have c24:∀W,Hid (fx w c ty (k+1) W)→Hid (W.heap[w.heap.size]?=some (.cells pcs 31 (0,0)))→Calls Tryz.prog 10 #[.agg pcs] W fun e w'=>e=.returned (.agg #[.int .u8 st,.int .u8 why])∧Hid (fx w c ty (k+1) w')∧Hid (w'.heap[w.heap.size]?=some (.cells pcs 31 (0,0))):=fun W hL hB=>by have h:=(P10 p (FD hp).1).1;unfold aX at h;refine Calls.mono (callsIn_wide.1 (h W #[.agg pcs] (HGL.out hL.out) (.cons (.agg (cd hpc)) .nil))) ?_;rintro e w' ⟨x,rfl,hb,hx⟩;rw[(FD hp).2,hst]at hx;have hx:aM (rK W w') [] w' (.agg [.int .u8 st,.int .u8 why]) x:=hx;obtain⟨cs,rfl,hy⟩:=aM.cM (l:=[.int .u8 st,.int .u8 why]) hx;obtain⟨x1,r1,e1,q1,h1⟩:=hy.inv_one rfl;obtain⟨x2,r2,e2,q2,h2⟩:=h1.inv_one rfl;have e3:=h2.cL;cases q1;cases q2;obtain⟨cs⟩:=cs;simp only at e1;rw[e1,e2,e3];exact⟨rfl,hL.out.below hb,(hb.block _ (aB hB.out)).trans hB.out⟩
  have c44:∀W,Hid (fx w c ty (k+1) W)→Calls Tryz.prog 44 #[.agg pcs,.agg #[.int .u8 st,.int .u8 why]] W fun e w'=>e=.returned (.int .i64 en)∧Hid (fx w c ty (k+1) w'):=fun W hL=>by have h:=(P44 p (st,why) rfl).1;unfold aX at h;refine Calls.mono (callsIn_wide.1 (h W #[.agg pcs,.agg #[.int .u8 st,.int .u8 why]] (HGL.out hL.out) (.cons (.agg (cd hpc)) (.cons (.agg (.one rfl (.int _ _) (.one rfl (.int _ _) .nil))) .nil)))) ?_;rintro e w' ⟨x,rfl,hb,hx⟩;rw[←hst,←HEN.out]at hx;cases hx;exact⟨rfl,hL.out.below hb⟩
  have c15:∀W,Hid (fx w c ty (k+1) W)→Hid (W.heap[w.heap.size]?=some (.cells pcs 31 (0,0)))→Calls Tryz.prog 45 #[.agg pcs] W fun e w'=>e=.returned (.int .i64 ev)∧Hid (fx w c ty (k+1) w')∧Hid (w'.heap[w.heap.size]?=some (.cells pcs 31 (0,0))):=fun W hL hB=>by have h:=(P45 p (LU hp).1).1;unfold aX at h;refine Calls.mono (callsIn_wide.1 (h W #[.agg pcs] (HGL.out hL.out) (.cons (.agg (cd hpc)) .nil))) ?_;rintro e w' ⟨x,rfl,hb,hx⟩;rw[(LU hp).2,←HEV.out]at hx;cases hx;exact⟨rfl,hL.out.below hb,(hb.block _ (aB hB.out)).trans hB.out⟩
  have c16:∀W,Hid (fx w c ty (k+1) W)→Hid (W.heap[w.heap.size]?=some (.cells pcs 31 (0,0)))→Calls Tryz.prog 22 #[.agg pcs] W fun e w'=>∃a cap,e=.returned (.slice a (L).length cap)∧Hid (fx w c ty (k+1) w')∧Hid (w'.heap[w.heap.size]?=some (.cells pcs 31 (0,0))) ∧
    Hid (L=[]∨∃c' o',a=some ⟨c',o',none⟩∧c'≠c∧c'<w'.heap.size∧∀j v,((L).flatMap bP)[j]?=some v→w'.cell? ⟨c',o'+j,none⟩=some v):=fun W hL hB=>by
   have h:=(P22 p (Ah hp).1).1
   rw[←HLL.out]at h
   unfold aX at h
   refine Calls.mono (callsIn_wide.1 (h W #[.agg pcs] (HGL.out hL.out) (.cons (.agg (cd hpc)) .nil))) ?_
   rintro e w' ⟨x,rfl,hb,hx⟩
   cases hx with
   |list hn hE hS hT hC =>
   rename_i a n' cap cs
   subst hn
   have hcs:=dH hE
   refine⟨a,cap,rfl,hL.out.below hb,(hb.block _ (aB hB.out)).trans hB.out,?_⟩
   by_cases hl:L=[]
   ·exact .inl hl
   rcases hS with h0|⟨c',o',ha,hat,_⟩
   ·refine .inl ?_
    have:=cZ (L)
    rw[←hcs,h0]at this
    exact List.eq_nil_of_length_eq_zero (by simp at this;omega)
   ·have hpos:0<((L).flatMap bP).length:=by
     rw[cZ]
     have:(L).length≠0:=fun e=>hl (List.eq_nil_of_length_eq_zero e)
     omega
    have h00:=hat 0 _ (by rw[hcs];exact I' hpos)
    have hge:W.heap.size≤c'∧c'<w'.heap.size:=h00.2
    have hcW:c<W.heap.size:=aB hL.out.cell
    exact .inr ⟨c',o',ha,by omega,hge.2,fun j v hj=>(hat j v (by rw[hcs];exact hj)).1⟩
  have K44:Aside _:=c44;have K45:Aside _:=c15;have K22:Aside _:=c16;clear c15 c16 c44;have C24:=Lib.hid (c24 _ HL2 HB2);have LD:Aside (∀W:World,Hid (W.heap[w.heap.size]?=some (.cells pcs 31 (0,0)))→Sem.run Tryz.prog (loadCellsFrom { block:=w.heap.size,off:=0,spot:=none } 0 sz #[]) W=.ok pcs W):=fun W hB=>ez hB.out HLEN.out;have TU:Aside (∀W:World,Hid (W.heap[w.heap.size]?=some (.cells pcs 31 (0,0)))→W.cell? ⟨w.heap.size,0,none⟩=some (.int .u8 p.variant)):=fun W hB=>by have h:=wz hpc;rw[aw hB.out];simpa using h.1
  clear c24;go_enter Tryz.func20,Tryz.ntmps20;go_wp2_with fail;refine C24.out.mono ?_;rintro e w3 ⟨rfl,hL3,hB3⟩;have hL3a:Hid (fx w c ty (k+1) (w3.alloc (Obj.cells #[Value.int .u8 st,Value.int .u8 why] 40))):=hL3.out.alloc _;have hB3a:Hid ((w3.alloc (Obj.cells #[Value.int .u8 st,Value.int .u8 why] 40)).heap[w.heap.size]?=some (.cells pcs 31 (0,0))):=(Below.heap_alloc _ _ _ (aB hB3.out)).trans hB3.out;have l3:=LD.out _ hB3a;clear l2 hcell0 hfr0 hcell hfr hcell2 hcell3;by_cases s0:st=0
  ·subst s0;have hb0:((jo p).1 != 0)=false:=by rw[hst];rfl
   have HB0:=Lib.hid hb0;clear hb0;go_wp2_with fail;refine(K45.out _ hL3a hB3a).mono ?_;rintro e w4 ⟨rfl,hL4,WY⟩;clear l3;have l4:=LD.out _ WY;by_cases hz:n=0
   ·have hN0:N≤0:=by have:=HN.out;omega
    have hlook:bX n p k=(ev,k+1):=by rw[HEV.out];subst hz;unfold bX;rw[if_neg (by omega),HB0.out];rfl
    have HLK:=Lib.hid hlook;clear hlook hz;go_wp2_with fail;go_ret;unfold ym;rw[HLK.out];exact⟨rfl,hL4.out⟩
   ·obtain⟨n',hn'⟩:∃n',n=n'+1:=⟨n-1,by omega⟩;have hN0:¬N≤0:=by have:=HN.out;omega
    have hlook:bX n p k=((L.foldl (jf (bX n') p) (ev,k+1,true)).1,(L.foldl (jf (bX n') p) (ev,k+1,true)).2.1):=by
     rw[HLL.out,HEV.out];subst hn';conv=>lhs;unfold bX
     rw[if_neg (by omega),HB0.out];rfl
    have HLK:=Lib.hid hlook;have HGS:Aside (GR n'):=hG n' hn';have HN1:Hid (N=(n':Int)+1):=by show _=_;have:=HN.out;omega
    have hbn:Bd n=1+20802*Bd n':=by rw[hn'];rfl
    have HBN:Hid (k+1+20802*Bd n'≤4000000000000000000):=by show _≤_;omega
    have HB1:=Lib.hid (vG n');obtain⟨F,hF⟩:∃F,F=L.foldl (jf (bX n') p) (ev,k+1,true):=⟨_,rfl⟩;have HF:=Lib.hid hF;rw[←hF]at HLK;clear hlook hz hn' hbn hF h1 hBp;go_wp2_with fail;refine(K22.out _ hL4 WY).mono ?_;rintro e w5 ⟨a5,cap5,rfl,hL5,hB5,hR5⟩;clear l4;go_wp2_with fail;go_loopg [8,10] (L.length) (fun kx s8 s10 wr=>∃(i:Nat) (best k2:Int),s8=.int .i64 best∧s10=.int .i64 i∧kx+i=L.length∧0≤k2∧k2≤k+1+i*Bd n'∧Hid (fx w5 c ty k2 wr)∧Hid ((L.drop i).foldl (jf (bX n') p) (best,k2,i==0)=F));case atStart=>exact⟨0,_,k+1,rfl,rfl,by omega,by omega,by omega,fx.refl hL5.out.cell,HF.out.symm⟩
    case round =>
     obtain⟨i,best,k2,rfl,rfl,hi,hk20,hk21,hLr,HE⟩:=hrel;have HI:=Lib.hid hi;cases gk with
     |zero =>
      have hlt:¬(i:Int)<(L.length:Int):=by omega
      have hres:F.1=best∧F.2.1=k2:=by have:=HE.out;rw[List.drop_of_length_le (by omega)]at this;rw[←this];exact⟨rfl,rfl⟩
      have HRES:=Lib.hid hres;clear hres;go_wp2_with fail;go_ret;unfold ym;rw[HLK.out];dsimp only;rw[HRES.out.1,HRES.out.2];exact⟨rfl,hL5.out.trans hLr.out⟩
     |succ kx =>
      have hlt:(i:Int)<(L.length:Int):=by omega
      have hil:i<L.length:=by omega
      have hiw:wrap64 ((i:Int)+1)=(i:Int)+1:=by have:=HLB.out;unfold wrap64;omega
      have hLd:Hid (fx w5 c ty k2 wr.drew):=hLr.out.drew;obtain⟨m,hm⟩:∃m,m=L[i]:=⟨_,rfl⟩;have hmem:m∈dh p:=HLM.out m (by rw[hm];exact List.getElem_mem hil);have hdrop:L.drop i=m::L.drop (i+1):=by rw[hm];exact List.drop_eq_getElem_cons hil
      have hE2:(L.drop (i+1)).foldl (jf (bX n') p) (jf (bX n') p (best,k2,i==0) m)=F:=by have:=HE.out;rw[hdrop,List.foldl_cons]at this;exact this
      have HE2:=Lib.hid hE2;obtain⟨mc,hmc⟩:∃mc,mc=(bP m).toArray:=⟨_,rfl⟩;have hml:mc.toList.length=s944:=by rw[hmc];exact H944.out.symm
      have hne2:L≠[]:=fun e=>by rw[e]at hil;simp at hil
      obtain⟨c',o',ha5,hcc,hcs5,hat⟩:=hR5.out.resolve_left hne2;have he:Sem.run Tryz.prog (loadCellsFrom ⟨c',o'+i*s944,none⟩ 0 s944 #[]) wr.drew=.ok mc wr.drew:=by
       have h:=run_loadCellsFrom_list Tryz.prog wr.drew ⟨c',o'+i*s944,none⟩ mc.toList s944 hml (fun j v hj=>by
        have hj5:j<5:=by have:=(C'.1 hj).1;rw[hml,H944.out]at this;exact this
        have h2:=hat (i*5+j) v (by
         rw[eE L i j hil hj5]
         have eb:L[i]! = L[i]:=by simp[hil]
         rw[eb,←hm]
         rw[hmc]at hj
         exact hj)
        rw[Addr.add_lit,b9 (hLd.out.other c' hcs5 hcc),H944.out,Nat.add_assoc]
        exact h2)
       simpa using h
      subst ha5;have hBr:Hid (wr.drew.heap[w.heap.size]?=some (.cells pcs 31 (0,0))):=(hLd.out.other _ (aB hB5.out) (by have:=HCW.out;omega)).trans hB5.out;have lr:=LD.out _ hBr;obtain⟨hmul,hle⟩:=Ly hil HLB.out HB1.out;have hbnd:k2+Bd n'≤4000000000000000000:=by have:=HBN.out;omega
      have hcall:=HGS.out p hp m hmem k2 hk20 hbnd c ty _ (HGL.out (hL5.out.trans hLd.out)) hLd.out.cell pcs (cd hpc);have hkk:=Ac n' (lY hp hmem).2.1 k2 hk20;rw[←hmc,←HN1.out]at hcall;have HCALL:=Lib.hid hcall;have HAT:=Lib.hid hat;obtain⟨g1,hg1⟩:∃g1,g1=Wl (wrap64 (-(bX n' (yb p m).1 k2).1)):=⟨_,rfl⟩;obtain⟨x2,hx2⟩:∃x2,x2=(bX n' (yb p m).1 k2).2:=⟨_,rfl⟩;have hstp:jf (bX n') p (best,k2,i==0) m=((bif decide (g1>best) ||((i==0)&&p.variant==4)then g1 else best),x2,false):=by rw[hg1,hx2];rfl
      have HST:=Lib.hid hstp;have hgain:C2 n' p m k2=(g1,x2):=by rw[hg1,hx2];rfl
      have HGA:=Lib.hid hgain;have HKK:Hid (k2<x2∧x2≤k+1+((i+1:Nat):Int)*Bd n'):=by show _∧_;omega
      clear hcall hE2 hdrop hm hmc hml hat hcs5 HE hmul hle hbnd hkk hg1 hx2 hstp hgain hmem hk21;have K25:Aside (Calls Tryz.prog 25 #[.pointer (some ⟨c,0,none⟩),.agg pcs,.agg mc,.int .i64 N] wr.drew fun e w'=>e=.returned (.int .i64 g1)∧Hid (fx wr.drew c ty x2 w')):=HCALL.out.mono fun e w' hP=>by rw[HGA.out]at hP;exact hP
      have fin:∀best':Int,(bif decide (g1>best) ||((i==0)&&p.variant==4)then g1 else best)=best'→Hid ((L.drop (i+1)).foldl (jf (bX n') p) (best',x2,(i+1)==0)=F):=fun b' e'=>by show _=_;rw[←HE2.out,HST.out,e'];rfl
      have FIN:Aside _:=fin;clear fin;go_wp2_with fail
      go_region_with (first
       |(go_at_call_of 25 (Value.agg mc);refine K25.out.mono ?_;rintro e w7 ⟨rfl,HL7⟩))
      all_goals
       have hB7:Hid (w7.heap[w.heap.size]?=some (.cells pcs 31 (0,0))):=(HL7.out.other _ (aB hBr.out) (by have:=HCW.out;omega)).trans hBr.out
       have t7:=TU.out _ hB7
       clear he lr
       by_cases hv:best<g1
       ·go_wp2_with fail
        go_roundg kx
        case measure=>omega
        case rel=>exact⟨i+1,g1,x2,rfl,by go_num,by have:=HI.out;omega,by have:=HKK.out;omega,HKK.out.2,hLd.out.trans HL7.out,FIN.out _ (by rw[decide_eq_true (show g1>best by omega)];rfl)⟩
       ·by_cases hi0:i=0
        ·subst hi0
         cases hv4:(p.variant==4)with
         |true =>
          go_wp2_with fail
          go_roundg kx
          case measure=>omega
          case rel=>exact⟨1,g1,x2,rfl,by go_num,by have:=HI.out;omega,by have:=HKK.out;omega,HKK.out.2,hLd.out.trans HL7.out,FIN.out _ (by rw[hv4];simp)⟩
         |false =>
          go_wp2_with fail
          go_roundg kx
          case measure=>omega
          case rel=>exact⟨1,best,x2,rfl,by go_num,by have:=HI.out;omega,by have:=HKK.out;omega,HKK.out.2,hLd.out.trans HL7.out,FIN.out _ (by rw[hv4,decide_eq_false (show ¬g1>best by omega)];rfl)⟩
        ·have hi1:=abd hi0
         go_wp2_with fail
         go_roundg kx
         case measure=>omega
         case rel=>exact⟨i+1,best,x2,rfl,by go_num,by have:=HI.out;omega,by have:=HKK.out;omega,HKK.out.2,hLd.out.trans HL7.out,FIN.out _ (by rw[decide_eq_false (show ¬g1>best by omega),beq_eq_false_iff_ne.2 hi0];rfl)⟩
  ·have hs0:(st==0)=false:=beq_eq_false_iff_ne.2 s0;have hlook:bX n p k=(en,k+1):=by
    have hb:((jo p).1 != 0)=true:=by rw[hst];show(!(st==0))=true;rw[hs0];rfl
    rw[HEN.out];cases n<;>(unfold bX;rw[if_neg (by omega),hb];rfl)
   have HLK:=Lib.hid hlook;clear hlook;go_wp2_with fail;refine(K44.out _ hL3a).mono ?_;rintro e w4 ⟨rfl,hL4⟩;go_wp2_with fail;go_ret;unfold ym;rw[HLK.out];exact⟨rfl,hL4.out⟩
end Go.Proofs
namespace Kz
open Go Go.RowKit Go.Proofs
theorem FA:∀n:Nat,n<1000000→VR n
 | 0,_=>CY 0 (by omega) (fun _ h=>by omega) 5 Tryz.sizeOf47 rfl 88 Tryz.sizeOf31 rfl
 |n+1,h=>CY (n+1) (by omega) (fun n' hn'=>by
   obtain rfl:n=n':=by omega
   exact Ht n (by omega) (FA n (by omega)) 88 Tryz.sizeOf31 rfl _ Tryz.zeroValue31 rfl 5 Tryz.sizeOf47 rfl) 5 Tryz.sizeOf47 rfl 88 Tryz.sizeOf31 rfl
theorem aao (n:Nat)(h:n<1000000):GR n :=
 Ht n (by omega) (FA n h) 88 Tryz.sizeOf31 rfl _ Tryz.zeroValue31 rfl 5 Tryz.sizeOf47 rfl
def B8 (n:Int)(p:Pos)(k:Int):Int×Int:=shut (bX n.toNat p k)
def DD (n:Int)(p:Pos)(m:Mv)(k:Int):Int×Int:=shut (C2 (n-1).toNat p m k)
def abe (r:Int×Int)(b:Nat)(h:Hp):Tr bL := .ret (.ret (.int .i64 r.1) { h with heap:=h.heap.set b [.int .i64 r.2] })
def Vl (p:Pos)(n k:Int):Bool:=UG p&&(decide (0≤n)&&(decide (n≤3)&&(decide (0≤k)&&decide (k≤1000))))
def okS (p:Pos)(m:Mv)(n k:Int):Bool:=Vl p n k&&decide (m∈dh p)
theorem bd3 {n:Nat}(h:n≤3):Bd n≤1000000000000000000:=by
 have:n=0∨n=1∨n=2∨n=3:=by omega
 rcases this with rfl|rfl|rfl|rfl<;>decide
theorem Nk {p:Pos}{n k:Int}(h:Vl p n k=true):ax p∧0≤n∧n≤3∧0≤k∧k≤1000:=by unfold Vl at h;simp only[E',decide_eq_true_eq]at h;exact⟨kg.1 h.1,h.2⟩
theorem Dn {r:Int×Int}(b:Nat)(h:Hp)(res:bL)(e:(abe r b h).get=some res):(BP (some r) b h).get=some res:=e
def FVR:List AV→Hp→Tr bL:=FVg Vl fun n p k=>abe (B8 n p k)
def FGR:List AV→Hp→Tr bL:=FGg (fun p m n k=>okS p m (n-1) k) fun n p m k=>abe (DD n p m k)
theorem apV:dF Pz 20 FVR:=adW (zZ 20 (by kernel_rfl)) fun p n k hok=>⟨_,Dn,fun c ty w hg hc pcs hpc=>by
 obtain⟨k1,k2,k3,k4,k5⟩:=Nk hok
 have hB:=bd3 (n:=n.toNat) (by omega)
 have h:=FA n.toNat (by omega) p k1 k k4 (by omega) c ty w hg hc pcs hpc
 rw[show((n.toNat:Nat):Int)=n by omega]at h
 unfold B8
 rw[fL]
 exact h⟩
theorem ap6:dF Pz 25 FGR:=adf (zZ 25 (by kernel_rfl)) fun p m n k hok=>⟨_,Dn,fun c ty w hg hc pcs hpc=>by
 unfold okS at hok
 simp only[E',decide_eq_true_eq]at hok
 obtain⟨k1,k2,k3,k4,k5⟩:=Nk hok.1
 have hB:=bd3 (n:=(n-1).toNat) (by omega)
 have h:=aao (n-1).toNat (by omega) p k1 m hok.2 k k4 (by omega) c ty w hg hc pcs hpc
 rw[show(((n-1).toNat:Nat):Int)+1=n by omega]at h
 unfold DD
 rw[fL]
 exact h⟩
end Kz
