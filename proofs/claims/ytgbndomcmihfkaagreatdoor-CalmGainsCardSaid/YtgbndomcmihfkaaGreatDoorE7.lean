/- Part 7 of the proof. -/
import Derived.Test.YtgbndomcmihfkaaGreatDoorE6
set_option linter.unusedSectionVars false
set_option linter.unusedVariables false
set_option linter.unusedSimpArgs false
set_option linter.unnecessarySimpa false
set_option maxRecDepth 100000
set_option maxHeartbeats 4000000
noncomputable section
namespace Kz
open Go Go.RowKit
def mj (s:Nat):Bool:=decide (s<8) ||decide (s>55)
def fh (p:Pos)(k:Int)(s:Nat):M':=bif bE (p.ab.getD s 0) != 0 then[]else bif k==1 then(bif mj s then[]else[⟨s,s,0,k,false⟩])else[⟨s,s,0,k,false⟩]
def gu (p:Pos)(k:Int):M':=bif decide (p.ah.getD (scale 6 p.aa+scale 1 k).toNat 0>0)then(List.range 64).flatMap (fh p k)else[]
theorem xL (p:Pos)(k:Int)(s:Nat):(fh p k s).length≤1:=by unfold fh;grind
noncomputable section
variable {p:Pos}(hp:ax p)(ht:p.aa≤1)
include hp ht
theorem ad6 {k:Int}(k0:0≤k)(k1:k≤5)(p3:Nat)(out:M')(ho:out.length≤100000):∃r,tS k p p3 (out,0)=some r∧r.1=out++gu p k:=by
 have t0:=hp.t0;unfold gu;cases hpk:decide (p.ah.getD (scale 6 p.aa+scale 1 k).toNat 0>0)with
 |false =>
  have e:cW (fun x=>bif oT k p p3 x then uj k p p3 x else .bad) 1 (out,0)=some (out,0,false):=by
   rw[cW];have:(bif oT k p p3 (out,0)then uj k p p3 (out,0)else .bad)=.out (out,0,false):=by unfold oT uj;dsimp only;rw[hpk,show(decide (0≤p.aa)&&decide (p.aa<Int.ofNat 2))=true by simp;omega,show(decide (0≤k)&&decide (k<Int.ofNat 6))=true by simp;omega];rfl
   rw[this]
  exact⟨_,jX _ many _ _ (by unfold many;omega) e,by simp⟩
 |true =>
  rw[cond_true];refine aQ (I:=fun x=>∃n:Nat,n≤64∧x=(out++(List.range n).flatMap (fh p k),(n:Int))) (μ:=fun x=>(64-x.2).toNat) ?_ _ (by grind) (by simp);rintro _ ⟨n,hn,rfl⟩;have hsc:(scale 1 (n:Int)).toNat=n:=by unfold scale;simp
  have hlen:=eI (fh p k) 1 (xL p k) n;unfold oT uj;dsimp only;rw[hsc,hpk];by_cases hc:n<64
  ·have wn:wr IntKind.i8 (n:Int)=n:=Kk (by omega) (by omega);have kt:(decide (0≤p.aa)&&decide (p.aa<Int.ofNat 2))=true:=by simp;omega
   have kk:(decide (0≤k)&&decide (k<Int.ofNat 6))=true:=by simp;omega
   have kn:(decide (0≤(n:Int))&&decide ((n:Int)<Int.ofNat 64))=true:=by simp;omega
   have kap:((out++(List.range n).flatMap (fh p k)).length==(out++(List.range n).flatMap (fh p k)).length&&decide ((out++(List.range n).flatMap (fh p k)).length+1≤1073741824)&&true)=true:=by
    have:(out++(List.range n).flatMap (fh p k)).length≤1000000:=by rw[List.length_append];omega
    generalize (out++(List.range n).flatMap (fh p k)).length=q at this;simp;omega
   rw[wn,aF (n:=(n:Int)+1) (by omega) (by omega),show decide ((n:Int)<8)=decide (n<8)by rw[decide_eq_decide];omega,show decide ((n:Int)>55)=decide (n>55)by rw[decide_eq_decide];omega];constructor
   ·simp_all
   ·have go:∀l:M',l=out++(List.range n).flatMap (fh p k)++fh p k n→xf (fun x:M'×Int=>∃n:Nat,n≤64∧x=(out++(List.range n).flatMap (fh p k),(n:Int))) (fun r:M'×Int×Bool=>r.1=out++(List.range 64).flatMap (fh p k)) (fun x=>(64-x.2).toNat) (64-(n:Int)).toNat (.go (l,(n:Int)+1)):=by rintro _ rfl;exact⟨⟨n+1,by omega,by rw[kU (fh p k) n,List.append_assoc];rfl⟩,by grind⟩
    refine al (fun _=>?_) (by simp_all);rw[cond_true];refine al (fun h1=>?_) fun h1=>al (fun h2=>al (fun h3=>?_) fun h3=>al (fun h4=>?_) fun h4=>?_) fun h2=>?_
    ·exact go _ (by unfold fh;rw[h1];simp)
    ·exact go _ (by unfold fh mj;rw[h1,h2,h3];simp)
    ·exact go _ (by unfold fh mj;simp_all)
    ·exact go _ (by unfold fh mj;grind)
    ·exact go _ (by unfold fh;rw[h1,h2];rfl)
  ·have e:n=64:=by omega
   subst e;exact⟨rfl,rfl⟩
theorem Fz (k:Int):(gu p k).length≤64:=by
 unfold gu;refine al (P:=fun l:M'=>l.length≤64) (fun _=>?_) fun _=>by simp
 have:=eI (fh p k) 1 (xL p k) 64;omega
theorem acV:∃r,re p 0 ([],1)=some r∧r.1=[1,2,3,4,5].flatMap (gu p):=by
 refine aQ (I:=fun x=>∃n:Nat,n≤5∧x=(([1,2,3,4,5].take n).flatMap (gu p),(n:Int)+1)) (μ:=fun x=>(6-x.2).toNat) ?_ _ ⟨0,by omega,rfl⟩ (by simp);rintro _ ⟨n,hn,rfl⟩;have hlen:=iD (([1,2,3,4,5]:List Int).take n) (gu p) 64 fun k _=>Fz hp ht k;have htl:(([1,2,3,4,5]:List Int).take n).length≤5:=by rw[List.length_take];simp;omega
 unfold Hx K3;dsimp only;by_cases hc:n<5
 ·have hl:=aJ (ad6 hp ht (k:=(n:Int)+1) (by omega) (by omega) 0 ((([1,2,3,4,5]:List Int).take n).flatMap (gu p)) (by omega));rw[kD (n:=(n:Int)+1+1) (by omega) (by omega)];constructor
  ·simp_all
  ·refine al (fun _=>?_) (by grind);rw[hl.2];refine⟨⟨n+1,by omega,?_⟩,by grind⟩;have:(([1,2,3,4,5]:List Int).take (n+1)).flatMap (gu p)=(([1,2,3,4,5]:List Int).take n).flatMap (gu p)++gu p ((n:Int)+1):=by
    have h5:n=0∨n=1∨n=2∨n=3∨n=4:=by omega
    rcases h5 with rfl|rfl|rfl|rfl|rfl<;>simp
   rw[this];rfl
 ·have e:n=5:=by omega
  subst e;exact⟨rfl,rfl⟩
end
theorem abJ:∀v:Fin 256,im v.val=!(bE v.val==0):=by decide +kernel
theorem Na {v:Int}(h0:0≤v)(h1:v≤255):im v=!(bE v==0):=by obtain⟨n,rfl⟩:=Int.eq_ofNat_of_zero_le h0;exact abJ ⟨n,by omega⟩
theorem Q2:∀s:Fin 64,(72057594037927680#64).getLsbD s.val=!mj s.val:=by decide +kernel
theorem Ex {p:Pos}(hp:ax p)(k:Int):gu p k=fy p k:=by
 have hk:0≤p.ah.getD (scale 6 p.aa+scale 1 k).toNat 0:=(dm hp.k0 (by omega) _).1;have bit:∀s,s<64→(~~~bm p).getLsbD s=(bE (p.ab.getD s 0)==0):=fun s hs=>by obtain⟨b0,b1⟩:=fa hp s;rw[BitVec.getLsbD_not,mK _ hs,(Na b0 b1)];simp[hs]
 unfold gu fy;generalize p.ah.getD (scale 6 p.aa+scale 1 k).toNat 0=v at hk;by_cases h0:v=0
 ·rw[h0];rfl
 ·rw[show decide (v>0)=true by simp;omega,show(v==0)=false by simpa using h0,cond_true,cond_false];unfold gF;rw[mL,gY,mL,gY];by_cases h1:(k==1)=true
  ·rw[h1,cond_true];refine iY fun s hs=>?_;have hs:s<64:=List.mem_range.1 hs;rw[BitVec.getLsbD_and,bit s hs,Q2 ⟨s,hs⟩];unfold fh;grind
  ·rw[show(k==1)=false by simpa using h1,cond_false];refine iY fun s hs=>?_;have hs:s<64:=List.mem_range.1 hs;rw[bit s hs];unfold fh;grind
theorem aaZ {p:Pos}(hp:ax p):NV p=true∧N55 p=nQ p:=by
 rw[tv hp.t0];unfold NV N55;by_cases ht:p.aa≤1
 ·rw[show decide (p.aa>1)=false by simp;omega];have hl:=aJ (acV hp ht);have h112:sV p.variant=(p.variant==2):=by
   have v0:=hp.v0;unfold sV;by_cases h2:p.variant=2
   ·rw[h2];rfl
   ·grind
  rw[h112];by_cases h2:p.variant=2
  ·rw[show(p.variant != 2)=false by simp[h2],show(p.variant==2)=true by simp[h2]];refine⟨by simp_all,?_⟩;show((re p 0 ([],1)).getD default).1=[1,2,3,4,5].flatMap (fy p);rw[hl.2,show gu p=fy p from funext fun k=>Ex hp k]
  grind
 simp_all
end Kz
namespace Kz
open Go Go.RowKit Go.Proofs
def aqG:KT:=[(156,6,[(0,[0]),(1,[5]),(2,[2,3]),(3,[2,3])])]
def amH:ar:=bO Pz aqG [] [] []
theorem ajv:aO amH:=af ae trivial trivial trivial
def ei (a:Int):(Int×Int):=(bif a==0 then(6,5)else(2,3))
def afW (a:Int):Bool:=true
theorem ao8 (a:Int)(h:afW a=true):PS Pz 156 [.int .i64 a] ((d2 (dI .i64) (dI .i64)).res (ei a)):=pq14 ajv h
def J8:GT:=g1 (dI .i64) (fun a=>.ret ((d2 (dI .i64) (dI .i64)).res (ei a)))
theorem Mz:Sound Pz 156 J8:=aH fun a=>bH (ao8 a rfl)
def aqM:KT:=[(175,13,[(0,[0,6,7,10,11]),(1,[2])])]
def al3:ar:=bO Pz aqM [] [] []
theorem adT:aO al3:=af ae trivial trivial trivial
def FF (a:Int):Bool:=(bif decide (a<9)then(bif a != 4 then(a != 8)else(false))else(false))
def agU (a:Int):Bool:=true
theorem apy (a:Int)(h:agU a=true):PS Pz 175 [.int .u8 a] (dB.res (FF a)):=pq14 adT h
def XW:GT:=g1 (dI .u8) (fun a=>.ret (dB.res (FF a)))
theorem afZ:Sound Pz 175 XW:=aH fun a=>bH (apy a rfl)
def asx:KT:=[(176,25,[(0,(0::1::2::11::12::13::(rn 16 8 []))),(1,[6])])]
def amg:ar:=bO Pz asx [] [] []
theorem aiI:aO amg:=af ae trivial trivial trivial
def gE (a:Int)(b:Int)(c:Int):Bool:=(bif decide (a≥b)then(bif decide (a≤c)then(true)else(bif decide (a≥c)then(decide (a≤b))else(false)))else(bif decide (a≥c)then(decide (a≤b))else(false)))
def afF (a:Int)(b:Int)(c:Int):Bool:=true
theorem aoj (a:Int)(b:Int)(c:Int)(h:afF a b c=true):PS Pz 176 [.int .i64 a,.int .i64 b,.int .i64 c] (dB.res (gE a b c)):=pq14 aiI h
def Zo:GT:=g3 (dI .i64) (dI .i64) (dI .i64) (fun a b c=>.ret (dB.res (gE a b c)))
theorem ae4:Sound Pz 176 Zo:=dc fun a b c=>bH (aoj a b c rfl)
def afG:KT:=[(177,33,[(0,[1,2,9,10,11,22,23,24]),(1,[1,2,5,9,10,11,22,23,24]),(2,(1::2::5::(rn 9 4 [22,23,24]))),(3,[1,2,5,9,10,11,22,23,24]),(4,(1::2::5::9::10::11::(rn 22 4 []))),(5,[4]),(6,[4])])]
def abY:ar:=bO Pz afG [(81,G81),(152,pZ),(153,BL)] [] []
theorem SL:aO abY:=af ae ⟨s81,rj,DS,trivial⟩ trivial trivial
def Ld (p1:Int)(p2:Pos)(x:(Int)):St:=St.mk (.any::.int .i64 p1::.ptr 0 0::.any::.any::.int .i64 x::(an 27 [])) (Hp.mk [(pc p2 [])] [] [] 0 0 0)
def QD (p1:Int)(p2:Pos):Unit ⊕ (Int×Bool)→Out
 |(.inl (y))=>.ret (St.mk (an 4 (AV.aU true::(an 28 []))) (Hp.mk [(pc p2 [])] [] [] 0 0 0))
 |(.inr (y))=>.exit 0 (St.mk (AV.any::AV.int .i64 p1::AV.ptr 0 0::AV.any::AV.any::AV.int .i64 y.1::(an 6 (AV.bool y.2::(an 20 [])))) (Hp.mk [(pc p2 [])] [] [] 0 0 0))
def kM (p1:Int)(p2:Pos)(x:(Int)):aG (Int) (Unit ⊕ (Int×Bool)):=(bif decide (x<64)then(bif p2.variant==3 then(bif rY p2 x (wr .u8 (1-p2.aa)) 6 then(bif je x p1 then(aG.out (.inl (())))else(aG.go (wr .i64 (x+1))))else(aG.go (wr .i64 (x+1))))else(aG.out (.inr ((x,p2.variant==3)))))else(aG.out (.inr ((x,false)))))
def ku (p1:Int)(p2:Pos)(x:(Int)):Bool:=(bif decide (x<64)then(bif p2.variant==3 then(od p2 x (wr .u8 (1-p2.aa)) 6&&true)else true)else true)
def nm (p1:Int)(p2:Pos)(x:(Int)):Option (Unit ⊕ (Int×Bool)):=cW (fun x=>bif ku p1 p2 x then kM p1 p2 x else .bad) many x
abbrev OT {α:Type}(k:Int→Pos→(Int)→α)(s:St):α:=wP s 0 fun q0=>k (tI (tT s 1)) q0 ((tI (tT s 5)))
theorem YQ (p1:Int)(p2:Pos)(x:(Int))(r:Unit ⊕ (Int×Bool))(h:nm p1 p2 x=some r):aC Pz (bc Pz 177 2) (Ld p1 p2 x) (QD p1 p2 r):=aC.Be (m:=12) (fn:=177) SL (OT fun _ _ x=>some x) (fun o=>match o with | .ret s=>some (.inl ()) | .exit 0 s=>some (.inr ((tI (tT s 5)),(tB (tT s 12))))|_=>none) (fun r=>by cases r<;>rfl) (fun _=>by kernel_rfl) (fun _=>by kernel_rfl) (fun _=>by kernel_rfl) (fun _=>by kernel_rfl) many x r h
def QI (b:Code)(s:St):Tr Out:=OT (fun p1 p2 x=>Bg b (bc Pz 177 2) s (Ld p1 p2 x) (nm p1 p2 x) (QD p1 p2)) s
theorem TG:∀b,aT Pz b (QI b):=fun _ _ _ h=>fj (YQ _ _ _) h
def asl:ar:=bO Pz afG [(81,G81),(152,pZ),(153,BL)] [(177,2,QI)] []
theorem ai6:aO asl:=af ae ⟨s81,rj,DS,trivial⟩ ⟨TG,trivial⟩ trivial
def uW (a:Pos)(b:Int):Bool:=(bif cQ ((nm b a 0).getD default)then(true)else(N81 a b (wr .u8 (1-a.aa))==0#64))
def wj (a:Pos)(b:Int):Bool:=((nm b a 0).isSome&&bif cQ ((nm b a 0).getD default)then true else(JS a b (wr .u8 (1-a.aa))&&true))
theorem alA (a:Pos)(b:Int)(h:wj a b=true):PS Pz 177 [Pos.av a,.int .i64 b] (dB.res (uW a b)):=pq14 ai6 h
def aah:GT:=g2 aZ (dI .i64) (fun a b=>b7 (wj a b) (dB.res (uW a b)))
theorem ae5:Sound Pz 177 aah:=aP fun a b=>aA (alA a b)
def aiS:KT:=[(112,138,[(0,(1::2::(rn 20 4 (rn 45 4 (51::52::55::56::(rn 68 7 (rn 77 7 (rn 112 6 (rn 120 6 (rn 128 7 [])))))))))),(1,(1::2::24::(rn 45 4 (51::52::55::56::(rn 68 7 (rn 77 7 (rn 112 6 (rn 120 6 (rn 128 7 []))))))))),(2,[4,5,6]),(3,(1::2::7::(rn 45 4 (51::52::55::56::(rn 68 7 (rn 77 7 (rn 112 6 (rn 120 6 (rn 128 7 []))))))))),(4,(1::2::7::8::(rn 45 4 (51::52::55::56::(rn 68 7 (rn 77 7 (rn 112 6 (rn 120 6 (rn 128 7 []))))))))),(5,(1::2::7::8::9::(rn 45 4 (51::52::55::56::(rn 68 7 (rn 77 7 (rn 112 6 (rn 120 6 (rn 128 7 []))))))))),(6,(1::2::7::8::9::57::(rn 68 7 (rn 77 7 (rn 112 6 (rn 120 6 (rn 128 7 []))))))),(7,[4,5,6]),(8,(1::2::7::8::10::(rn 68 7 (rn 77 7 (rn 112 6 (rn 120 6 (rn 128 7 []))))))),(9,(1::2::7::8::10::84::(rn 112 6 (rn 120 6 (rn 128 7 []))))),(10,[4,5,6]),(11,(2::7::8::10::11::12::(rn 112 6 (rn 120 6 (rn 128 7 []))))),(12,(7::8::(rn 10 4 (rn 112 6 (rn 120 6 (rn 128 7 [])))))),(13,(7::8::(rn 10 4 (rn 112 6 (rn 120 6 (rn 128 7 [])))))),(14,(7::8::(rn 10 4 (rn 112 6 (rn 120 6 (rn 128 7 [])))))),(15,(7::8::(rn 10 5 (rn 112 6 (rn 120 6 (rn 128 7 [])))))),(16,(7::8::(rn 10 5 (101::(rn 112 6 (rn 120 6 (rn 128 7 []))))))),(17,(7::8::(rn 10 5 (rn 112 6 (rn 120 6 (rn 128 7 [])))))),(18,(7::8::(rn 10 6 (rn 112 6 (rn 120 6 (rn 128 7 [])))))),(19,(7::8::(rn 10 5 (rn 112 6 (rn 120 6 (rn 128 8 [])))))),(20,[4,5,6]),(21,[4,5,6])])]
def Z8:ar:=bO Pz aiS [(82,nP),(150,As),(152,pZ),(156,J8),(175,XW),(176,Zo),(177,aah)] [] []
theorem Sv:aO Z8:=af ae ⟨nZ,C5,rj,Mz,afZ,ae4,ae5,trivial⟩ trivial trivial
def LI (p1:Int)(p2:Int)(p3:Int)(p4:Int)(p5:Int)(p6:Pos)(p7:Pos)(x:(Int)):St:=St.mk (an 7 (.int .i64 p1::.int .i64 p2::.any::.int .i64 p3::.int .i64 p4::.int .i64 p5::.ptr 1 0::.int .i64 x::(an 123 []))) (Hp.mk [(pc p6 []),(pc p7 [])] [] [] 0 0 0)
def Li (p1:Int)(p2:Int)(p3:Int)(p4:Int)(p5:Int)(p6:Pos)(p7:Pos):Unit ⊕ (Int×Bool)→Out
 |(.inl (y))=>.ret (St.mk (an 4 (AV.bj .i64 0::AV.bj .i64 0::AV.aU false::(an 131 []))) (Hp.mk [(pc p6 []),(pc p7 [])] [] [] 0 0 0))
 |(.inr (y))=>.exit 0 (St.mk (an 7 (AV.int .i64 p1::AV.int .i64 p2::AV.any::AV.int .i64 p3::AV.int .i64 p4::AV.int .i64 p5::AV.ptr 1 0::AV.int .i64 y.1::(an 86 (AV.bool y.2::(an 36 []))))) (Hp.mk [(pc p6 []),(pc p7 [])] [] [] 0 0 0))
def zo (p1:Int)(p2:Int)(p3:Int)(p4:Int)(p5:Int)(p6:Pos)(p7:Pos)(x:(Int)):aG (Int) (Unit ⊕ (Int×Bool)):=(bif decide (x<wr .i64 (p1+8))then(bif gE x p2 (wr .i64 (p1+p4))then(bif bE (p7.ab.getD (scale 1 x).toNat 0) != 0 then(aG.out (.inl (())))else(bif gE x p2 (wr .i64 (p1+p4))then(bif !uW p7 x then(aG.out (.inl (())))else(aG.go (wr .i64 (x+1))))else(aG.go (wr .i64 (x+1)))))else(bif gE x p3 (wr .i64 (p1+p5))then(bif bE (p7.ab.getD (scale 1 x).toNat 0) != 0 then(aG.out (.inl (())))else(bif gE x p2 (wr .i64 (p1+p4))then(bif !uW p7 x then(aG.out (.inl (())))else(aG.go (wr .i64 (x+1))))else(aG.go (wr .i64 (x+1)))))else(bif gE x p2 (wr .i64 (p1+p4))then(bif !uW p7 x then(aG.out (.inl (())))else(aG.go (wr .i64 (x+1))))else(aG.go (wr .i64 (x+1))))))else(aG.out (.inr ((x,decide (x<wr .i64 (p1+8)))))))
def Dk (p1:Int)(p2:Int)(p3:Int)(p4:Int)(p5:Int)(p6:Pos)(p7:Pos)(x:(Int)):Bool:=(bif decide (x<wr .i64 (p1+8))then(bif gE x p2 (wr .i64 (p1+p4))then(decide (0≤x)&&decide (x<Int.ofNat 64)&&(bif bE (p7.ab.getD (scale 1 x).toNat 0) != 0 then true else(bif gE x p2 (wr .i64 (p1+p4))then(wj p7 x&&true)else true)))else(bif gE x p3 (wr .i64 (p1+p5))then(decide (0≤x)&&decide (x<Int.ofNat 64)&&(bif bE (p7.ab.getD (scale 1 x).toNat 0) != 0 then true else(bif gE x p2 (wr .i64 (p1+p4))then(wj p7 x&&true)else true)))else(bif gE x p2 (wr .i64 (p1+p4))then(wj p7 x&&true)else true)))else true)
def cS (p1:Int)(p2:Int)(p3:Int)(p4:Int)(p5:Int)(p6:Pos)(p7:Pos)(x:(Int)):Option (Unit ⊕ (Int×Bool)):=cW (fun x=>bif Dk p1 p2 p3 p4 p5 p6 p7 x then zo p1 p2 p3 p4 p5 p6 p7 x else .bad) many x
abbrev Q3 {α:Type}(k:Int→Int→Int→Int→Int→Pos→Pos→(Int)→α)(s:St):α:=wP s 0 fun q0=>wP s 1 fun q1=>k (tI (tT s 7)) (tI (tT s 8)) (tI (tT s 10)) (tI (tT s 11)) (tI (tT s 12)) q0 q1 ((tI (tT s 14)))
theorem YK (p1:Int)(p2:Int)(p3:Int)(p4:Int)(p5:Int)(p6:Pos)(p7:Pos)(x:(Int))(r:Unit ⊕ (Int×Bool))(h:cS p1 p2 p3 p4 p5 p6 p7 x=some r):aC Pz (bc Pz 112 16) (LI p1 p2 p3 p4 p5 p6 p7 x) (Li p1 p2 p3 p4 p5 p6 p7 r):=aC.Be (m:=12) (fn:=112) Sv (Q3 fun _ _ _ _ _ _ _ x=>some x) (fun o=>match o with | .ret s=>some (.inl ()) | .exit 0 s=>some (.inr ((tI (tT s 14)),(tB (tT s 101))))|_=>none) (fun r=>by cases r<;>rfl) (fun _=>by kernel_rfl) (fun _=>by kernel_rfl) (fun _=>by kernel_rfl) (fun _=>by kernel_rfl) many x r h
def La (b:Code)(s:St):Tr Out:=Q3 (fun p1 p2 p3 p4 p5 p6 p7 x=>Bg b (bc Pz 112 16) s (LI p1 p2 p3 p4 p5 p6 p7 x) (cS p1 p2 p3 p4 p5 p6 p7 x) (Li p1 p2 p3 p4 p5 p6 p7)) s
theorem Va:∀b,aT Pz b (La b):=fun _ _ _ h=>fj (YK _ _ _ _ _ _ _ _) h
def ats:ar:=bO Pz aiS [(82,nP),(150,As),(152,pZ),(156,J8),(175,XW),(176,Zo),(177,aah)] [(112,16,La)] []
theorem af0:aO ats:=af ae ⟨nZ,C5,rj,Mz,afZ,ae4,ae5,trivial⟩ ⟨Va,trivial⟩ trivial
def ga (a:Pos)(b:Int):(Int×Int×Bool):=(bif decide (a.aa>1)then(0,0,false)else(bif !FF a.variant then(0,0,false)else(bif decide (cE a a.aa 6<wr .i64 (56*wr .i64 a.aa))then(0,0,false)else(bif decide (cE a a.aa 6>wr .i64 (wr .i64 (56*wr .i64 a.aa)+7))then(0,0,false)else(bif decide (wr .i64 (a.ao.getD (scale 2 a.aa+scale 1 b).toNat 0)<0)then(0,0,false)else(bif decide (wr .i64 (a.ao.getD (scale 2 a.aa+scale 1 b).toNat 0)>7)then(0,0,false)else(bif !rY a (wr .i64 (wr .i64 (56*wr .i64 a.aa)+wr .i64 (a.ao.getD (scale 2 a.aa+scale 1 b).toNat 0))) a.aa 4 then(0,0,false)else(bif b==0 then(bif decide (wr .i64 (wr .i64 (56*wr .i64 a.aa)+wr .i64 (a.ao.getD (scale 2 a.aa+scale 1 b).toNat 0))<cE a a.aa 6)then(0,0,false)else(bif b==1 then(bif decide (wr .i64 (wr .i64 (56*wr .i64 a.aa)+wr .i64 (a.ao.getD (scale 2 a.aa+scale 1 b).toNat 0))>cE a a.aa 6)then(0,0,false)else(bif cQ ((cS (wr .i64 (56*wr .i64 a.aa)) (cE a a.aa 6) (wr .i64 (wr .i64 (56*wr .i64 a.aa)+wr .i64 (a.ao.getD (scale 2 a.aa+scale 1 b).toNat 0))) (ei b).1 (ei b).2 a (u2 a ((a.ab.set (scale 1 (cE a a.aa 6)).toNat 0).set (scale 1 (wr .i64 (wr .i64 (56*wr .i64 a.aa)+wr .i64 (a.ao.getD (scale 2 a.aa+scale 1 b).toNat 0)))).toNat 0)) (wr .i64 (56*wr .i64 a.aa))).getD default)then(0,0,false)else((cE a a.aa 6),(wr .i64 (wr .i64 (56*wr .i64 a.aa)+wr .i64 (a.ao.getD (scale 2 a.aa+scale 1 b).toNat 0))),true)))else(bif cQ ((cS (wr .i64 (56*wr .i64 a.aa)) (cE a a.aa 6) (wr .i64 (wr .i64 (56*wr .i64 a.aa)+wr .i64 (a.ao.getD (scale 2 a.aa+scale 1 b).toNat 0))) (ei b).1 (ei b).2 a (u2 a ((a.ab.set (scale 1 (cE a a.aa 6)).toNat 0).set (scale 1 (wr .i64 (wr .i64 (56*wr .i64 a.aa)+wr .i64 (a.ao.getD (scale 2 a.aa+scale 1 b).toNat 0)))).toNat 0)) (wr .i64 (56*wr .i64 a.aa))).getD default)then(0,0,false)else((cE a a.aa 6),(wr .i64 (wr .i64 (56*wr .i64 a.aa)+wr .i64 (a.ao.getD (scale 2 a.aa+scale 1 b).toNat 0))),true))))else(bif b==1 then(bif decide (wr .i64 (wr .i64 (56*wr .i64 a.aa)+wr .i64 (a.ao.getD (scale 2 a.aa+scale 1 b).toNat 0))>cE a a.aa 6)then(0,0,false)else(bif cQ ((cS (wr .i64 (56*wr .i64 a.aa)) (cE a a.aa 6) (wr .i64 (wr .i64 (56*wr .i64 a.aa)+wr .i64 (a.ao.getD (scale 2 a.aa+scale 1 b).toNat 0))) (ei b).1 (ei b).2 a (u2 a ((a.ab.set (scale 1 (cE a a.aa 6)).toNat 0).set (scale 1 (wr .i64 (wr .i64 (56*wr .i64 a.aa)+wr .i64 (a.ao.getD (scale 2 a.aa+scale 1 b).toNat 0)))).toNat 0)) (wr .i64 (56*wr .i64 a.aa))).getD default)then(0,0,false)else((cE a a.aa 6),(wr .i64 (wr .i64 (56*wr .i64 a.aa)+wr .i64 (a.ao.getD (scale 2 a.aa+scale 1 b).toNat 0))),true)))else(bif cQ ((cS (wr .i64 (56*wr .i64 a.aa)) (cE a a.aa 6) (wr .i64 (wr .i64 (56*wr .i64 a.aa)+wr .i64 (a.ao.getD (scale 2 a.aa+scale 1 b).toNat 0))) (ei b).1 (ei b).2 a (u2 a ((a.ab.set (scale 1 (cE a a.aa 6)).toNat 0).set (scale 1 (wr .i64 (wr .i64 (56*wr .i64 a.aa)+wr .i64 (a.ao.getD (scale 2 a.aa+scale 1 b).toNat 0)))).toNat 0)) (wr .i64 (56*wr .i64 a.aa))).getD default)then(0,0,false)else((cE a a.aa 6),(wr .i64 (wr .i64 (56*wr .i64 a.aa)+wr .i64 (a.ao.getD (scale 2 a.aa+scale 1 b).toNat 0))),true)))))))))))
def mh (a:Pos)(b:Int):Bool:=(bif decide (a.aa>1)then true else(bif !FF a.variant then true else(vr a (a.aa) 6&&(decide (0≤a.aa)&&decide (a.aa<Int.ofNat 2)&&(decide (0≤b)&&decide (b<Int.ofNat 2)&&(bif decide (cE a a.aa 6<wr .i64 (56*wr .i64 a.aa))then true else(bif decide (cE a a.aa 6>wr .i64 (wr .i64 (56*wr .i64 a.aa)+7))then true else(bif decide (wr .i64 (a.ao.getD (scale 2 a.aa+scale 1 b).toNat 0)<0)then true else(bif decide (wr .i64 (a.ao.getD (scale 2 a.aa+scale 1 b).toNat 0)>7)then true else(od a (wr .i64 (wr .i64 (56*wr .i64 a.aa)+wr .i64 (a.ao.getD (scale 2 a.aa+scale 1 b).toNat 0))) (a.aa) 4&&(bif !rY a (wr .i64 (wr .i64 (56*wr .i64 a.aa)+wr .i64 (a.ao.getD (scale 2 a.aa+scale 1 b).toNat 0))) a.aa 4 then true else(bif b==0 then(bif decide (wr .i64 (wr .i64 (56*wr .i64 a.aa)+wr .i64 (a.ao.getD (scale 2 a.aa+scale 1 b).toNat 0))<cE a a.aa 6)then true else(bif b==1 then(bif decide (wr .i64 (wr .i64 (56*wr .i64 a.aa)+wr .i64 (a.ao.getD (scale 2 a.aa+scale 1 b).toNat 0))>cE a a.aa 6)then true else(decide (0≤cE a a.aa 6)&&decide (cE a a.aa 6<Int.ofNat 64)&&(decide (0≤wr .i64 (wr .i64 (56*wr .i64 a.aa)+wr .i64 (a.ao.getD (scale 2 a.aa+scale 1 b).toNat 0)))&&decide (wr .i64 (wr .i64 (56*wr .i64 a.aa)+wr .i64 (a.ao.getD (scale 2 a.aa+scale 1 b).toNat 0))<Int.ofNat 64)&&((cS (wr .i64 (56*wr .i64 a.aa)) (cE a a.aa 6) (wr .i64 (wr .i64 (56*wr .i64 a.aa)+wr .i64 (a.ao.getD (scale 2 a.aa+scale 1 b).toNat 0))) (ei b).1 (ei b).2 a (u2 a ((a.ab.set (scale 1 (cE a a.aa 6)).toNat 0).set (scale 1 (wr .i64 (wr .i64 (56*wr .i64 a.aa)+wr .i64 (a.ao.getD (scale 2 a.aa+scale 1 b).toNat 0)))).toNat 0)) (wr .i64 (56*wr .i64 a.aa))).isSome&&bif cQ ((cS (wr .i64 (56*wr .i64 a.aa)) (cE a a.aa 6) (wr .i64 (wr .i64 (56*wr .i64 a.aa)+wr .i64 (a.ao.getD (scale 2 a.aa+scale 1 b).toNat 0))) (ei b).1 (ei b).2 a (u2 a ((a.ab.set (scale 1 (cE a a.aa 6)).toNat 0).set (scale 1 (wr .i64 (wr .i64 (56*wr .i64 a.aa)+wr .i64 (a.ao.getD (scale 2 a.aa+scale 1 b).toNat 0)))).toNat 0)) (wr .i64 (56*wr .i64 a.aa))).getD default)then true else true))))else(decide (0≤cE a a.aa 6)&&decide (cE a a.aa 6<Int.ofNat 64)&&(decide (0≤wr .i64 (wr .i64 (56*wr .i64 a.aa)+wr .i64 (a.ao.getD (scale 2 a.aa+scale 1 b).toNat 0)))&&decide (wr .i64 (wr .i64 (56*wr .i64 a.aa)+wr .i64 (a.ao.getD (scale 2 a.aa+scale 1 b).toNat 0))<Int.ofNat 64)&&((cS (wr .i64 (56*wr .i64 a.aa)) (cE a a.aa 6) (wr .i64 (wr .i64 (56*wr .i64 a.aa)+wr .i64 (a.ao.getD (scale 2 a.aa+scale 1 b).toNat 0))) (ei b).1 (ei b).2 a (u2 a ((a.ab.set (scale 1 (cE a a.aa 6)).toNat 0).set (scale 1 (wr .i64 (wr .i64 (56*wr .i64 a.aa)+wr .i64 (a.ao.getD (scale 2 a.aa+scale 1 b).toNat 0)))).toNat 0)) (wr .i64 (56*wr .i64 a.aa))).isSome&&bif cQ ((cS (wr .i64 (56*wr .i64 a.aa)) (cE a a.aa 6) (wr .i64 (wr .i64 (56*wr .i64 a.aa)+wr .i64 (a.ao.getD (scale 2 a.aa+scale 1 b).toNat 0))) (ei b).1 (ei b).2 a (u2 a ((a.ab.set (scale 1 (cE a a.aa 6)).toNat 0).set (scale 1 (wr .i64 (wr .i64 (56*wr .i64 a.aa)+wr .i64 (a.ao.getD (scale 2 a.aa+scale 1 b).toNat 0)))).toNat 0)) (wr .i64 (56*wr .i64 a.aa))).getD default)then true else true)))))else(bif b==1 then(bif decide (wr .i64 (wr .i64 (56*wr .i64 a.aa)+wr .i64 (a.ao.getD (scale 2 a.aa+scale 1 b).toNat 0))>cE a a.aa 6)then true else(decide (0≤cE a a.aa 6)&&decide (cE a a.aa 6<Int.ofNat 64)&&(decide (0≤wr .i64 (wr .i64 (56*wr .i64 a.aa)+wr .i64 (a.ao.getD (scale 2 a.aa+scale 1 b).toNat 0)))&&decide (wr .i64 (wr .i64 (56*wr .i64 a.aa)+wr .i64 (a.ao.getD (scale 2 a.aa+scale 1 b).toNat 0))<Int.ofNat 64)&&((cS (wr .i64 (56*wr .i64 a.aa)) (cE a a.aa 6) (wr .i64 (wr .i64 (56*wr .i64 a.aa)+wr .i64 (a.ao.getD (scale 2 a.aa+scale 1 b).toNat 0))) (ei b).1 (ei b).2 a (u2 a ((a.ab.set (scale 1 (cE a a.aa 6)).toNat 0).set (scale 1 (wr .i64 (wr .i64 (56*wr .i64 a.aa)+wr .i64 (a.ao.getD (scale 2 a.aa+scale 1 b).toNat 0)))).toNat 0)) (wr .i64 (56*wr .i64 a.aa))).isSome&&bif cQ ((cS (wr .i64 (56*wr .i64 a.aa)) (cE a a.aa 6) (wr .i64 (wr .i64 (56*wr .i64 a.aa)+wr .i64 (a.ao.getD (scale 2 a.aa+scale 1 b).toNat 0))) (ei b).1 (ei b).2 a (u2 a ((a.ab.set (scale 1 (cE a a.aa 6)).toNat 0).set (scale 1 (wr .i64 (wr .i64 (56*wr .i64 a.aa)+wr .i64 (a.ao.getD (scale 2 a.aa+scale 1 b).toNat 0)))).toNat 0)) (wr .i64 (56*wr .i64 a.aa))).getD default)then true else true))))else(decide (0≤cE a a.aa 6)&&decide (cE a a.aa 6<Int.ofNat 64)&&(decide (0≤wr .i64 (wr .i64 (56*wr .i64 a.aa)+wr .i64 (a.ao.getD (scale 2 a.aa+scale 1 b).toNat 0)))&&decide (wr .i64 (wr .i64 (56*wr .i64 a.aa)+wr .i64 (a.ao.getD (scale 2 a.aa+scale 1 b).toNat 0))<Int.ofNat 64)&&((cS (wr .i64 (56*wr .i64 a.aa)) (cE a a.aa 6) (wr .i64 (wr .i64 (56*wr .i64 a.aa)+wr .i64 (a.ao.getD (scale 2 a.aa+scale 1 b).toNat 0))) (ei b).1 (ei b).2 a (u2 a ((a.ab.set (scale 1 (cE a a.aa 6)).toNat 0).set (scale 1 (wr .i64 (wr .i64 (56*wr .i64 a.aa)+wr .i64 (a.ao.getD (scale 2 a.aa+scale 1 b).toNat 0)))).toNat 0)) (wr .i64 (56*wr .i64 a.aa))).isSome&&bif cQ ((cS (wr .i64 (56*wr .i64 a.aa)) (cE a a.aa 6) (wr .i64 (wr .i64 (56*wr .i64 a.aa)+wr .i64 (a.ao.getD (scale 2 a.aa+scale 1 b).toNat 0))) (ei b).1 (ei b).2 a (u2 a ((a.ab.set (scale 1 (cE a a.aa 6)).toNat 0).set (scale 1 (wr .i64 (wr .i64 (56*wr .i64 a.aa)+wr .i64 (a.ao.getD (scale 2 a.aa+scale 1 b).toNat 0)))).toNat 0)) (wr .i64 (56*wr .i64 a.aa))).getD default)then true else true))))))))))))))))
theorem aoL (a:Pos)(b:Int)(h:mh a b=true):PS Pz 112 [Pos.av a,.int .i64 b] ((d3 (dI .i64) (dI .i64) dB).res (ga a b)):=pq14 af0 h
def abS:GT:=g2 aZ (dI .i64) (fun a b=>b7 (mh a b) ((d3 (dI .i64) (dI .i64) dB).res (ga a b)))
theorem ai8:Sound Pz 112 abS:=aP fun a b=>aA (aoL a b)
def K54:KT:=[(54,29,[(0,[1]),(1,[1,3]),(2,[1,3,4]),(3,[1,3,4,9]),(4,[1,3,4]),(5,(1::(rn 3 5 []))),(6,(1::(rn 3 4 [19]))),(7,[1,3,4]),(8,[2])])]
def adq:ar:=bO Pz K54 [(112,abS)] [] []
theorem Yi:aO adq:=af ae ⟨ai8,trivial⟩ trivial trivial
def VC (p1:Pos)(p2:Nat)(x:(M'×Int)):St:=St.mk (.any::.ptr 0 0::.any::.list .mv x.1 (.own 1)::.int .i64 x.2::(an 24 [])) (Hp.mk [(pc p1 [])] [p2,x.1.length] [] 0 0 0)
def Xf (p1:Pos)(p2:Nat):(M'×Int×Bool)→Out:=fun y=>.exit 0 (St.mk (.any::.ptr 0 0::.any::.list .mv y.1 (.own 1)::.int .i64 y.2.1::(an 4 (.bool y.2.2::(an 19 [])))) (Hp.mk [(pc p1 [])] [p2,y.1.length] [] 0 0 0))
def Aj (p1:Pos)(p2:Nat)(x:(M'×Int)):aG (M'×Int) ((M'×Int×Bool)):=(bif decide (x.2≥0)then(bif(ga p1 x.2).2.2 then(aG.go (x.1++[Mv.mk (wr .i8 (ga p1 x.2).1) (wr .i8 (ga p1 x.2).2.1) 0 0 true],wr .i64 (x.2-1)))else(aG.go (x.1,wr .i64 (x.2-1))))else(aG.out ((x.1,x.2,decide (x.2≥0)))))
def ti (p1:Pos)(p2:Nat)(x:(M'×Int)):Bool:=(bif decide (x.2≥0)then(mh p1 (x.2)&&(bif(ga p1 x.2).2.2 then(x.1.length==x.1.length&&decide (x.1.length+1≤1073741824)&&true)else true))else true)
def vJ (p1:Pos)(p2:Nat)(x:(M'×Int)):Option ((M'×Int×Bool)):=cW (fun x=>bif ti p1 p2 x then Aj p1 p2 x else .bad) many x
abbrev WZ {α:Type}(k:Pos→Nat→(M'×Int)→α)(s:St):α:=wP s 0 fun q0=>k q0 (tK s 0) ((tL (ET.mv) (tT s 3)),(tI (tT s 4)))
theorem ai7 (p1:Pos)(p2:Nat)(x:(M'×Int))(r:(M'×Int×Bool))(h:vJ p1 p2 x=some r):aC Pz (bc Pz 54 3) (VC p1 p2 x) (Xf p1 p2 r):=smq (m:=12) (fn:=54) Yi (WZ fun _ _ x=>some x) (fun o=>match o with | .exit 0 s=>some ((tL ET.mv (tT s 3)),(tI (tT s 4)),(tB (tT s 9)))|_=>none) many x r h
def WS (b:Code)(s:St):Tr Out:=WZ (fun p1 p2 x=>jS b (bc Pz 54 3) s (VC p1 p2 x) (vJ p1 p2 x) (Xf p1 p2)) s
theorem Ym:∀b,aT Pz b (WS b):=fun _ _ _ h=>bF (ai7 _ _ _) h
def B54:ar:=bO Pz K54 [(112,abS)] [(54,3,WS)] []
theorem arC:aO B54:=af ae ⟨ai8,trivial⟩ ⟨Ym,trivial⟩ trivial
def PH (a:Pos):M':=(((vJ a 0 ([],1)).getD default).1)
def E5 (a:Pos):Bool:=((vJ a 0 ([],1)).isSome&&true)
theorem P54 (a:Pos)(h:E5 a=true):PS Pz 54 [Pos.av a] ((dL .mv).res (PH a)):=pq14 arC h
def G54:GT:=g1 aZ (fun a=>b7 (E5 a) ((dL .mv).res (PH a)))
theorem s54:Sound Pz 54 G54:=aH fun a=>aA (P54 a)
end Kz
namespace Kz
open Go Go.RowKit
theorem scan {R:Type}{bad:Nat→Bool}{lo hi:Nat}{x:Int}{ok:Int→Bool}{st:Int→aG Int R}{isl:R→Bool}(hx:x=(lo:Int))(hl:lo≤hi+1)(hh:hi<1000)
  (hok:∀n:Nat,lo≤n→n≤hi+1→ok (n:Int)=true)
  (h1:∀n:Nat,lo≤n→n≤hi→(bad n=true→∃r,st (n:Int)=.out r∧isl r=true)∧(bad n=false→st (n:Int)=.go ((n:Int)+1)))
  (h2:∃r,st ((hi:Int)+1)=.out r∧isl r=false) :
  ∃r,cW (fun x=>bif ok x then st x else .bad) many x=some r∧(isl r=false ↔ ∀s:Nat,lo≤s→s≤hi→bad s=false):=by
 refine aQ (I:=fun x=>∃n:Nat,x=(n:Int)∧lo≤n∧n≤hi+1∧∀s,lo≤s→s<n→bad s=false) (μ:=fun x=>((hi:Int)+1-x).toNat) ?_ _ (by grind) (by omega);rintro _ ⟨n,rfl,a1,a2,a3⟩;refine⟨hok n a1 a2,?_⟩;by_cases hn:n≤hi
 ·obtain⟨b1,b2⟩:=h1 n a1 hn;cases hb:bad n with
  |true =>obtain⟨r,e,hr⟩:=b1 hb;rw[e];show(isl r=false ↔ ∀s:Nat,lo≤s→s≤hi→bad s=false);grind
  |false =>rw[b2 hb];refine⟨⟨n+1,by omega,by omega,by omega,fun s c1 c2=>?_⟩,by dsimp only;omega⟩;grind
 ·have e:n=hi+1:=by omega
  subst e;obtain⟨r,e,hr⟩:=h2;rw[show((hi+1:Nat):Int)=(hi:Int)+1 by omega,e];show(isl r=false ↔ ∀s:Nat,lo≤s→s≤hi→bad s=false);grind
theorem nf {b:Bool}:(!b)=false ↔ b=true:=by cases b<;>simp
theorem xN (x:BitVec 64){k:Nat}(hk:k<64):(x >>> k&&&1#64==0#64)=!x.getLsbD k:=by
 have h:(x >>> k&&&1#64).toNat=(x.getLsbD k).toNat:=by
  rw[BitVec.toNat_and,BitVec.toNat_ushiftRight,Nat.shiftRight_eq_div_pow,show(1#64).toNat=2^1-1 from rfl,Nat.and_two_pow_sub_one_eq_mod,BitVec.getLsbD,Nat.testBit_eq_decide_div_mod_eq];have:=Nat.mod_two_eq_zero_or_one (x.toNat / 2^k);rcases this with h|h
  ·rw[show(2:Nat)^1=2 from rfl,h];rfl
  ·rw[show(2:Nat)^1=2 from rfl,h];rfl
 grind
theorem pI (s a b:Int):gE s a b=true ↔ (a≤s∧s≤b)∨(b≤s∧s≤a):=by
 have e:gE s a b=(decide (s≥a)&&decide (s≤b) ||decide (s≥b)&&decide (s≤a)):=by unfold gE;cases decide (s≥a)<;>cases decide (s≤b)<;>cases decide (s≥b)<;>cases decide (s≤a)<;>rfl
 simp_all
def off (p:Pos)(k r:Int):Pos:=Pos.mk p.variant ((p.ab.set (scale 1 k).toNat 0).set (scale 1 r).toNat 0) p.ai p.ah p.aa p.ao p.az p.au p.half p.full
theorem abj {p:Pos}(hp:ax p)(k r:Int):ax (off p k r):=by
 refine⟨hp.v0,hp.v1,by simp[off,hp.bl],fun x hx=>?_,hp.kl,hp.k0,hp.t0,hp.t1,hp.rl,hp.r0,hp.p0,hp.p1,hp.cl,hp.c0,hp.h0,hp.f0⟩;rcases List.mem_or_eq_of_mem_set hx with hx|rfl
 ·rcases List.mem_or_eq_of_mem_set hx with hx|rfl
  ·exact hp.b0 _ hx
  ·omega
 ·omega
theorem aaa {p:Pos}(hp:ax p){k r:Nat}(hk:k<64)(hr:r<64)(s:Nat):(off p k r).ab.getD s 0=if r=s then 0 else if k=s then 0 else p.ab.getD s 0:=by
 have e1:(scale 1 (k:Int)).toNat=k:=by unfold scale;simp
 have e2:(scale 1 (r:Int)).toNat=r:=by unfold scale;simp
 show((p.ab.set (scale 1 (k:Int)).toNat 0).set (scale 1 (r:Int)).toNat 0).getD s 0=_;grind
theorem ZC {p:Pos}(hp:ax p){k r:Nat}(hk:k<64)(hr:r<64){o:Int}(h1:dv o 6 (p.ab.getD k 0)=false)(h2:dv o 6 (p.ab.getD r 0)=false)(hz:dv o 6 0=false):aS (off p k r) o 6=aS p o 6:=by refine BitVec.eq_of_getLsbD_eq fun s hs=>?_;rw[bK _ _ _ hs,bK _ _ _ hs,aaa hp hk hr];grind
theorem yq {q:Pos}{o:Int}{k:Nat}(hk:k<64){n:Nat}(hn:n<64):(fB k&&&aS q o 6).getLsbD n=(je n k&&dv o 6 (q.ab.getD n 0)):=by
 obtain⟨_,f6,_⟩:=qy ⟨n,hn⟩ ⟨k,hk⟩;obtain⟨_,y6,_⟩:=zW ⟨n,hn⟩ ⟨k,hk⟩;simp only at f6 y6;rw[BitVec.getLsbD_and,bK _ _ _ hn,←y6,←f6];have:cY 6 0 n k false=je n k:=by
  have h:∀a b:Fin 64,cY 6 0 a.val b.val false=je a.val b.val:=by decide +kernel
  exact h ⟨n,hn⟩ ⟨k,hk⟩
 rw[this]
noncomputable section
variable {q:Pos}(hq:ax q)(ht:q.aa=0∨q.aa=1)
include hq ht
theorem acI {s:Nat}(hs:s<64):∃r,nm s q 0=some r∧cQ r=(q.variant==3&&(fB s&&&aS q (1-q.aa) 6 != 0#64)):=by
 have w1:wr .u8 (1-q.aa)=1-q.aa:=kD (by omega) (by omega);cases hv:q.variant==3 with
 |false =>
  have e:cW (fun x=>bif ku s q x then kM s q x else .bad) 1 0=some (.inr (0,false)):=by
   rw[cW];have:(bif ku s q 0 then kM s q 0 else .bad)=.out (.inr (0,false)):=by unfold ku kM;rw[hv];rfl
   rw[this]
  exact⟨_,jX _ many _ _ (by unfold many;omega) e,rfl⟩
 |true =>
  obtain⟨r,e,hr⟩:=scan (bad:=fun n=>je n s&&dv (1-q.aa) 6 (q.ab.getD n 0)) (lo:=0) (hi:=63) (x:=0) (ok:=ku s q) (st:=kM s q) (isl:=cQ) rfl (by omega) (by omega) (fun n _ a2=>by
    unfold ku
    rw[hv,w1]
    refine aq (fun hc=>?_) fun _=>rfl
    have hc:(n:Int)<64:=by simpa using hc
    rw[(kE hq (c:=1-q.aa) (k:=6) (by omega) (by omega) (by omega) (show n<64 by omega)).1]
    rfl) (fun n _ a2=>by
    obtain⟨e1,e2⟩:=kE hq (c:=1-q.aa) (k:=6) (by omega) (by omega) (by omega) (show n<64 by omega)
    unfold kM
    rw[hv,w1,e2,aF (n:=(n:Int)+1) (by omega) (by omega),decide_eq_true (show(n:Int)<64 by omega)]
    cases je n s<;>cases dv (1-q.aa) 6 (q.ab.getD n 0)<;>exact⟨fun h=>by first|(cases h;done)|exact⟨_,rfl,rfl⟩,fun h=>by first|(cases h;done)|rfl⟩)
    ⟨_,by unfold kM;rw[decide_eq_false (show ¬(((63:Nat):Int)+1<64)by omega)];rfl,rfl⟩
  refine⟨r,e,?_⟩;rw[Bool.true_and];cases hz:(fB s&&&aS q (1-q.aa) 6 != 0#64)with
  |false =>
   refine hr.2 fun n _ a2=>?_;have hz:fB s&&&aS q (1-q.aa) 6=0#64:=by simpa using hz
   rw[←yq hs (show n<64 by omega),hz];simp
  |true =>
   cases hl:cQ r with
   |true=>rfl
   |false =>
    have hr:=hr.1 hl;have:fB s&&&aS q (1-q.aa) 6=0#64:=BitVec.eq_of_getLsbD_eq fun j hj=>by rw[yq hs hj];grind
    simp_all
theorem G8 {s:Nat}(hs:s<64):wj q s=true∧uW q s=((q.variant==3&&(fB s&&&aS q (1-q.aa) 6 != 0#64)) ||(pX q s (1-q.aa)==0#64)):=by have w1:wr .u8 (1-q.aa)=1-q.aa:=kD (by omega) (by omega);obtain⟨o1,o2⟩:=Oh hq ht hs (c:=1-q.aa) (by omega);obtain⟨l1,l2⟩:=aJ (acI hq ht hs);unfold wj uW;simp_all
end
theorem IU (p1:Pos)(p2:List Int)(p3:Pos)(p4 p5:BitVec 64){p6 p7 x:Int}{lo hi:Nat}(hx:x=lo)(hm:(if p7>p6 then p7 else p6)=(hi:Int))(hl:lo≤hi+1)(hh:hi<64):∃r,eQ p1 p2 p3 p4 p5 p6 p7 x=some r∧(cQ r=false ↔ ∀s:Nat,lo≤s→s≤hi→p4.getLsbD s=false):=by
 refine scan (bad:=fun s=>p4.getLsbD s) hx hl (by omega) (fun _ _ _=>rfl) (fun n a1 a2=>?_) ?_
 ·unfold Bc;rw[hm,decide_eq_true (show(n:Int)≤hi by omega),fw (by omega) (by omega),show((n:Int)).toNat=n by omega,xN _ (by omega),Bool.not_not,aF (by omega) (by omega)];exact⟨fun h=>by rw[h];exact⟨_,rfl,rfl⟩,fun h=>by rw[h];rfl⟩
 ·unfold Bc;rw[hm,decide_eq_false (by omega)];exact⟨_,rfl,rfl⟩
theorem Jw (p1:Pos)(p2:List Int)(p3:Pos)(p4 p5:BitVec 64)(p6 p7:Int){p8 p9 x:Int}{lo hi:Nat}(hx:x=lo)(hm:(if p9>p8 then p9 else p8)=(hi:Int))(hl:lo≤hi+1)(hh:hi<64):∃r,eR p1 p2 p3 p4 p5 p6 p7 p8 p9 x=some r∧(cQ r=false ↔ ∀s:Nat,lo≤s→s≤hi→p4.getLsbD s=false):=by
 refine scan (bad:=fun s=>p4.getLsbD s) hx hl (by omega) (fun _ _ _=>rfl) (fun n a1 a2=>?_) ?_
 ·unfold y7;rw[hm,decide_eq_true (show(n:Int)≤hi by omega),fw (by omega) (by omega),show((n:Int)).toNat=n by omega,xN _ (by omega),Bool.not_not,aF (by omega) (by omega)];exact⟨fun h=>by rw[h];exact⟨_,rfl,rfl⟩,fun h=>by rw[h];rfl⟩
 ·unfold y7;rw[hm,decide_eq_false (by omega)];exact⟨_,rfl,rfl⟩
theorem Jn (p1:Pos)(p2:List Int)(p3:Pos)(p4 p5:BitVec 64)(p6 p7 p8 p9:Int){p10 p11 x:Int}{lo hi:Nat}(hx:x=lo)(hm:(if p11>p10 then p11 else p10)=(hi:Int))(hl:lo≤hi+1)(hh:hi<64):∃r,eU p1 p2 p3 p4 p5 p6 p7 p8 p9 p10 p11 x=some r∧(cQ r=false ↔ ∀s:Nat,lo≤s→s≤hi→((p1.variant==3&&(fB s&&&p5 != 0#64)) ||(pX p3 s (wr .u8 (1-p1.aa))==0#64))=true):=by
 have h:=scan (R:=Int ⊕ (Int×Bool)) (isl:=cQ) (ok:=pR p1 p2 p3 p4 p5 p6 p7 p8 p9 p10 p11) (st:=tE p1 p2 p3 p4 p5 p6 p7 p8 p9 p10 p11) (bad:=fun s => !((p1.variant==3&&(fB s&&&p5 != 0#64)) ||(pX p3 s (wr .u8 (1-p1.aa))==0#64))) hx hl (by omega) (fun n _ _=>by
   unfold pR
   repeat' (first|with_reducible rfl|with_reducible exact t199 _|with_reducible exact t205 _ _ _|refine ak ?_ (fun _=>?_)|refine aq (fun _=>?_) (fun _=>?_))) (fun n a1 a2=>by
   unfold tE Fs
   rw[hm,decide_eq_true (show(n:Int)≤hi by omega),aF (by omega) (by omega),show(pX p3 n (wr .u8 (1-p1.aa)) != 0#64)=!(pX p3 n (wr .u8 (1-p1.aa))==0#64)from rfl]
   cases p1.variant==3<;>cases (fB n&&&p5 != 0#64)<;>cases (pX p3 n (wr .u8 (1-p1.aa))==0#64)<;>exact⟨fun h=>by first|(cases h;done)|exact⟨_,rfl,rfl⟩,fun h=>by first|(cases h;done)|rfl⟩)
   (by
    unfold tE
    rw[hm,decide_eq_false (by omega)]
    exact⟨_,rfl,rfl⟩)
 obtain⟨r,e,hr⟩:=h;refine⟨r,e,hr.trans ⟨fun h s a b=>?_,fun h s a b=>?_⟩⟩
 ·exact nf.1 (h s a b)
 ·exact nf.2 (h s a b)
theorem OZ {q:Pos}(hq:ax q)(ht:q.aa=0∨q.aa=1)(p6:Pos){h:Nat}(hh:h≤56){k r x y:Int}(hk:0≤x∧x≤7)(hy:0≤y∧y≤7) :
  ∃o,cS h k r x y p6 q h=some o∧(cQ o=false ↔ ∀s:Nat,h≤s→s≤h+7→((gE s k (h+x) ||gE s r (h+y))&&bE (q.ab.getD s 0) != 0 ||gE s k (h+x)&&!uW q s)=false):=by
 refine scan (bad:=fun s=>((gE s k (h+x) ||gE s r (h+y))&&bE (q.ab.getD s 0) != 0 ||gE s k (h+x)&&!uW q s)) rfl (by omega) (by omega) (fun n a1 a2=>?_) (fun n a1 a2=>?_) ?_
 ·unfold Dk;refine aq (fun hc=>?_) fun _=>rfl;have hc:(n:Int)<h+8:=by rw[aF (by omega) (by omega)]at hc;simpa using hc
  have k1:(decide (0≤(n:Int))&&decide ((n:Int)<Int.ofNat 64))=true:=by simp;omega
  rw[(G8 hq ht (show n<64 by omega)).1,k1];simp_all
 ·have hsc:(scale 1 (n:Int)).toNat=n:=by unfold scale;simp
  unfold zo;rw[aF (n:=(h:Int)+8) (by omega) (by omega),aF (n:=(h:Int)+x) (by omega) (by omega),aF (n:=(h:Int)+y) (by omega) (by omega),aF (n:=(n:Int)+1) (by omega) (by omega),hsc,decide_eq_true (show(n:Int)<h+8 by omega)];cases gE n k (h+x)<;>cases gE n r (h+y)<;>cases (bE (q.ab.getD n 0) != 0)<;>cases uW q n<;>exact⟨fun h=>by first|(cases h;done)|exact⟨_,rfl,rfl⟩,fun h=>by first|(cases h;done)|rfl⟩
 ·unfold zo;rw[aF (n:=(h:Int)+8) (by omega) (by omega),decide_eq_false (show ¬(((h+7:Nat):Int)+1<h+8)by omega)];exact⟨_,rfl,rfl⟩
theorem uB:∀(c:Fin 2) (v:Fin 256),dv c.val 4 v.val=((v.val:Int)==8*(c.val:Int)+4)∧(dv c.val 4 v.val=true→dv c.val 6 v.val=false∧dv (1-c.val) 6 v.val=false)∧(dv c.val 6 v.val=true→dv (1-c.val) 6 v.val=false):=by decide +kernel
theorem Db:∀v:Fin 256,FF v.val=xF v.val:=by decide +kernel
noncomputable section
variable {p:Pos}(hp:ax p)
include hp
theorem ways {t k r x y:Nat}(ht:t≤1)(hpt:p.aa=t)(k0:56*t≤k)(k7:k≤56*t+7)(r0:56*t≤r)(r7:r≤56*t+7)(hx:x≤7)(hy:y≤7)(l:List Int)
  (h1:dv (1-p.aa) 6 (p.ab.getD k 0)=false) (h2:dv (1-p.aa) 6 (p.ab.getD r 0)=false) {gk gr m1 m2:Int} (hgk:gk=((56*t+x:Nat):Int)) (hgr:gr=((56*t+y:Nat):Int)) (hm1:m1=if gk<k then gk else k) (hm2:m2=if gr<r then gr else r) :
  (cS ((56*t:Nat):Int) k r x y p (off p k r) ((56*t:Nat):Int)).isSome=true ∧
  cQ ((cS ((56*t:Nat):Int) k r x y p (off p k r) ((56*t:Nat):Int)).getD default) =
   (cQ ((eQ p l (off p k r) (bm (off p k r)) (aS p (wr .u8 (1-p.aa)) 6) k gk m1).getD default) ||(cQ ((eR p l (off p k r) (bm (off p k r)) (aS p (wr .u8 (1-p.aa)) 6) k gk r gr m2).getD default) ||cQ ((eU p l (off p k r) (bm (off p k r)) (aS p (wr .u8 (1-p.aa)) 6) k gk r gr k gk m1).getD default))):=by
 have w1:wr .u8 (1-p.aa)=1-p.aa:=kD (by omega) (by omega);have hq:=abj hp (k:Int) (r:Int);have hqt:(off p k r).aa=0∨(off p k r).aa=1:=by show p.aa=0∨p.aa=1;omega
 have hz:dv (1-p.aa) 6 0=false:=by
  have:p.aa=0∨p.aa=1:=by omega
  rcases this with h|h<;>rw[h]<;>decide +kernel
 have hof:=ZC hp (k:=k) (r:=r) (by omega) (by omega) h1 h2 hz;obtain⟨s0,a0⟩:=aJ (OZ hq hqt p (h:=56*t) (by omega) (k:=k) (r:=r) (x:=x) (y:=y) (by omega) (by omega));obtain⟨_,a1⟩:=aJ (IU p l (off p k r) (bm (off p k r)) (aS p (wr .u8 (1-p.aa)) 6) (p6:=k) (p7:=gk) (x:=m1) (lo:=min (56*t+x) k) (hi:=max (56*t+x) k) (by omega) (by split<;>omega) (by omega) (by omega));obtain⟨_,a2⟩:=aJ (Jw p l (off p k r) (bm (off p k r)) (aS p (wr .u8 (1-p.aa)) 6) k gk (p8:=r) (p9:=gr) (x:=m2) (lo:=min (56*t+y) r) (hi:=max (56*t+y) r) (by omega) (by split<;>omega) (by omega) (by omega));obtain⟨_,a3⟩:=aJ (Jn p l (off p k r) (bm (off p k r)) (aS p (wr .u8 (1-p.aa)) 6) k gk r gr (p10:=k) (p11:=gk) (x:=m1) (lo:=min (56*t+x) k) (hi:=max (56*t+x) k) (by omega) (by split<;>omega) (by omega) (by omega));refine⟨s0,?_⟩
 have key:(cQ ((cS ((56*t:Nat):Int) k r x y p (off p k r) ((56*t:Nat):Int)).getD default)=false) ↔
   ((cQ ((eQ p l (off p k r) (bm (off p k r)) (aS p (wr .u8 (1-p.aa)) 6) k gk m1).getD default)=false)∧(cQ ((eR p l (off p k r) (bm (off p k r)) (aS p (wr .u8 (1-p.aa)) 6) k gk r gr m2).getD default)=false)∧(cQ ((eU p l (off p k r) (bm (off p k r)) (aS p (wr .u8 (1-p.aa)) 6) k gk r gr k gk m1).getD default)=false)):=by
  rw[a0,a1,a2,a3]
  have safe:∀s:Nat,s<64→((p.variant==3&&(fB s&&&aS p (wr .u8 (1-p.aa)) 6 != 0#64)) ||(pX (off p k r) s (wr .u8 (1-p.aa))==0#64))=uW (off p k r) s:=fun s hs=>by
   rw[(G8 hq hqt hs).2,w1,show(off p k r).aa=p.aa from rfl,hof]
   rfl
  constructor
  ·intro h
   refine⟨fun s b1 b2=>?_,fun s b1 b2=>?_,fun s b1 b2=>?_⟩
   ·have hs:=h s (by omega) (by omega)
    have w:gE s k (((56*t:Nat):Int)+x)=true:=(pI _ _ _).2 (by omega)
    rw[w]at hs
    simp only[Bool.true_or,Bool.true_and,Bool.or_eq_false_iff,bne_eq_false_iff_eq]at hs
    exact(Br hq (by omega)).2 hs.1
   ·have hs:=h s (by omega) (by omega)
    have w:gE s r (((56*t:Nat):Int)+y)=true:=(pI _ _ _).2 (by omega)
    rw[w]at hs
    simp only[Bool.or_true,Bool.true_and,Bool.or_eq_false_iff,bne_eq_false_iff_eq]at hs
    exact(Br hq (by omega)).2 hs.1
   ·have hs:=h s (by omega) (by omega)
    have w:gE s k (((56*t:Nat):Int)+x)=true:=(pI _ _ _).2 (by omega)
    rw[w]at hs
    simp only[Bool.true_or,Bool.true_and,Bool.or_eq_false_iff,Bool.not_eq_false']at hs
    rw[safe s (by omega)]
    exact hs.2
  ·rintro⟨c1,c2,c3⟩ s b1 b2
   cases w:gE s k (((56*t:Nat):Int)+x)with
   |true =>
    have hw:=(pI _ _ _).1 w
    have d1:=c1 s (by omega) (by omega)
    have d3:=c3 s (by omega) (by omega)
    rw[safe s (by omega)]at d3
    rw[(Br hq (by omega)).1 d1,d3]
    simp
   |false =>
    cases w':gE s r (((56*t:Nat):Int)+y)with
    |true =>
     have hw:=(pI _ _ _).1 w'
     have d2:=c2 s (by omega) (by omega)
     rw[(Br hq (by omega)).1 d2]
     simp
    |false=>simp
 grind
theorem Ol {c:Int}(hc:c=0∨c=1){t k:Nat}(ht:t≤1)(hpt:p.aa=t)(hv:xF p.variant=true)(hk:bg p p.aa 6=k)(hkt:dv p.aa 6 (p.ab.getD k 0)=true)(k0:56*t≤k)(k7:k≤56*t+7) :
  mh p c=true∧∃r:Int,ga p c=(bif(dJ p k c).2 then((k:Int),r,true)else(0,0,false))∧((dJ p k c).2=true→(dJ p k c).1=⟨wr .i8 k,wr .i8 r,0,0,true⟩):=by
 have htt:p.aa=0∨p.aa=1:=by omega
 obtain⟨o129,e129⟩:=pg hp (c:=p.aa) (k:=6) htt (by omega) (by omega);rw[hk]at e129;have hvar:FF p.variant=true:=by have v0:=hp.v0;have v1:=hp.v1;obtain⟨n,hn⟩:=Int.eq_ofNat_of_zero_le v0;have:=Db ⟨n,by omega⟩;rw[hn]at hv⊢;exact this.trans hv
 have hf:=dm hp.r0 (d:=0) (by omega) (scale 2 p.aa+scale 1 c).toNat;obtain⟨x,y,hx,hy,n1,n2,g1,g2⟩:∃x y:Nat,x≤7∧y≤7∧(ei c).1=x∧(ei c).2=y∧(List.take 2 (List.drop (c.toNat*2) (li [6,5,2,3]))).getD 0 0=x∧(List.take 2 (List.drop (c.toNat*2) (li [6,5,2,3]))).getD 1 0=y:=by
  rcases hc with rfl|rfl
  ·exact⟨6,5,by omega,by omega,rfl,rfl,rfl,rfl⟩
  ·exact⟨2,3,by omega,by omega,rfl,rfl,rfl,rfl⟩
 have d1:decide (p.aa>1)=false:=by simp;omega
 have wt:wr .i64 p.aa=t:=by rw[aF (by omega) (by omega)];exact hpt
 have w56:wr .i64 (56*(t:Int))=((56*t:Nat):Int):=by rw[aF (by omega) (by omega)];omega
 have w63:wr .i64 (((56*t:Nat):Int)+7)=((56*t+7:Nat):Int):=by rw[aF (by omega) (by omega)];omega
 have n110:cC p.aa=((56*t:Nat):Int):=by unfold cC;rw[wt,w56]
 have b1:(decide (0≤p.aa)&&decide (p.aa<Int.ofNat 2))=true:=by simp;omega
 have b2:(decide (0≤c)&&decide (c<Int.ofNat 2))=true:=by simp;omega
 have c1:decide ((k:Int)<((56*t:Nat):Int))=false:=by simp;omega
 have c2:decide ((k:Int)>((56*t+7:Nat):Int))=false:=by simp;omega
 unfold mh ga;rw[d1,hvar,o129,e129,wt,w56,w63,b1,b2,c1,c2];generalize hF:p.ao.getD (scale 2 p.aa+scale 1 c).toNat 0=f at hf;rw[aF (n:=f) (by omega) (by omega)];simp only[cond_false,Bool.not_true,Bool.true_and];have no:(cD p k c).2=false→dJ p k c=(⟨0,0,0,0,false⟩,false):=fun h=>by unfold dJ;rw[h];rfl
 have none:dJ p k c=(⟨0,0,0,0,false⟩,false)→∃r:Int,((0:Int),(0:Int),false)=(bif(dJ p k c).2 then((k:Int),r,true)else(0,0,false))∧((dJ p k c).2=true→(dJ p k c).1=⟨wr .i8 k,wr .i8 r,0,0,true⟩):=by simp_all
 by_cases f0:f<0
 ·rw[decide_eq_true f0];refine⟨rfl,none (no ?_)⟩;unfold cD;rw[hF,aF (n:=f) (by omega) (by omega),decide_eq_true f0];rfl
 by_cases f7:f>7
 ·rw[decide_eq_false f0,decide_eq_true f7];refine⟨rfl,none (no ?_)⟩;unfold cD;rw[hF,aF (n:=f) (by omega) (by omega),decide_eq_false f0,decide_eq_true f7];rfl
 obtain⟨n,rfl⟩:=Int.eq_ofNat_of_zero_le (show 0≤f by omega);have wr_:wr .i64 (((56*t:Nat):Int)+(n:Int))=((56*t+n:Nat):Int):=by rw[aF (by omega) (by omega)];omega
 rw[decide_eq_false f0,decide_eq_false f7,wr_];simp only[cond_false];obtain⟨r,hr⟩:∃r,r=56*t+n:=⟨_,rfl⟩;rw[←hr]at wr_⊢;obtain⟨o172,e172⟩:=kE hp (c:=p.aa) (k:=4) htt (by omega) (by omega) (show r<64 by omega);obtain⟨v0,v1⟩:=fa hp r;have hv4:dv p.aa 4 (p.ab.getD r 0)=(p.ab.getD r 0==wr .u8 (wr .u8 (8*p.aa)+4))∧(dv p.aa 4 (p.ab.getD r 0)=true→dv p.aa 6 (p.ab.getD r 0)=false∧dv (1-p.aa) 6 (p.ab.getD r 0)=false):=by obtain⟨m,hm⟩:=Int.eq_ofNat_of_zero_le v0;have h:=uB ⟨t,by omega⟩ ⟨m,by omega⟩;simp only at h;rw[hm,hpt,kD (n:=8*(t:Int)) (by omega) (by omega),kD (n:=8*(t:Int)+4) (by omega) (by omega)];exact⟨h.1,h.2.1⟩
 have hk6:dv (1-p.aa) 6 (p.ab.getD k 0)=false:=by obtain⟨u0,u1⟩:=fa hp k;obtain⟨m,hm⟩:=Int.eq_ofNat_of_zero_le u0;have h:=uB ⟨t,by omega⟩ ⟨m,by omega⟩;simp only at h;rw[hm,hpt]at hkt⊢;exact h.2.2 hkt
 have e160:cD p k c=(bif dv p.aa 4 (p.ab.getD r 0)then(bif(decide ((r:Int)>k)==(c==0))then((r:Int),(r:Int) != k)else((r:Int),false))else((r:Int),false)):=by
  have hsc:(scale 1 (r:Int)).toNat=r:=by unfold scale;simp
  unfold cD;rw[hF,aF (n:=(n:Int)) (by omega) (by omega),decide_eq_false f0,decide_eq_false f7,n110,wr_,hsc,hv4.1];rfl
 rw[o172,e172];cases h4:dv p.aa 4 (p.ab.getD r 0)with
 |false =>grind
 |true =>
  rw[h4]at e160;obtain⟨h46,h46'⟩:=hv4.2 h4;have hne:r≠k:=by grind
  simp only[cond_true,Bool.not_true,cond_false,Bool.true_and]at e160⊢;have hL:=ways hp ht hpt k0 k7 (r:=r) (x:=x) (y:=y) (by omega) (by omega) hx hy (List.take 2 (List.drop (c.toNat*2) (li [6,5,2,3]))) hk6 h46' (gk:=((56*t+x:Nat):Int)) (gr:=((56*t+y:Nat):Int)) rfl rfl rfl rfl;have fin:cD p k c=((r:Int),true)→∀(A:Bool),A=cQ ((cS ((56*t:Nat):Int) k r x y p (off p k r) ((56*t:Nat):Int)).getD default)→∃r':Int,(bif A then((0:Int),(0:Int),false)else((k:Int),(r:Int),true))=(bif(dJ p k c).2 then((k:Int),r',true)else(0,0,false))∧((dJ p k c).2=true→(dJ p k c).1=⟨wr .i8 k,wr .i8 r',0,0,true⟩):=by
   intro e A hA;refine⟨r,?_⟩;rw[hL.2]at hA;have wg:∀z:Nat,z≤7→wr .i64 (((56*t:Nat):Int)+(z:Int))=((56*t+z:Nat):Int):=fun z hz=>by rw[aF (by omega) (by omega)];omega
   unfold dJ;rw[e,n110,g1,g2,wg x hx,wg y hy];rw[hA];show(bif _ ||(_ ||_)then _ else _)=_∧_;simp only[Bool.not_true,cond_false];change (bif(cQ ((eQ p _ (off p k r) (bm (off p k r)) _ k _ _).getD default) ||(cQ ((eR p _ (off p k r) (bm (off p k r)) _ k _ r _ _).getD default) ||cQ ((eU p _ (off p k r) (bm (off p k r)) _ k _ r _ k _ _).getD default)))then _ else _)=(bif(bif cQ ((eQ p _ (off p k r) (bm (off p k r)) _ k _ _).getD default)then _ else bif cQ ((eR p _ (off p k r) (bm (off p k r)) _ k _ r _ _).getD default)then _ else bif cQ ((eU p _ (off p k r) (bm (off p k r)) _ k _ r _ k _ _).getD default)then _ else _:Mv×Bool).2 then _ else _)∧((bif cQ ((eQ p _ (off p k r) (bm (off p k r)) _ k _ _).getD default)then _ else bif cQ ((eR p _ (off p k r) (bm (off p k r)) _ k _ r _ _).getD default)then _ else bif cQ ((eU p _ (off p k r) (bm (off p k r)) _ k _ r _ k _ _).getD default)then _ else _:Mv×Bool).2=true→(bif cQ ((eQ p _ (off p k r) (bm (off p k r)) _ k _ _).getD default)then _ else bif cQ ((eR p _ (off p k r) (bm (off p k r)) _ k _ r _ _).getD default)then _ else bif cQ ((eU p _ (off p k r) (bm (off p k r)) _ k _ r _ k _ _).getD default)then _ else _:Mv×Bool).1=_);generalize cQ ((eQ p _ (off p k r) (bm (off p k r)) _ k _ _).getD default)=B;generalize cQ ((eR p _ (off p k r) (bm (off p k r)) _ k _ r _ _).getD default)=C;generalize cQ ((eU p _ (off p k r) (bm (off p k r)) _ k _ r _ k _ _).getD default)=D;cases B<;>cases C<;>cases D<;>exact(by simp_all)
  have kl:(decide (0≤(k:Int))&&decide ((k:Int)<Int.ofNat 64))=true:=by simp;omega
  have rl:(decide (0≤(r:Int))&&decide ((r:Int)<Int.ofNat 64))=true:=by simp;omega
  have hS:=hL.1;rw[n1,n2];have hPS:(cS ((56*t:Nat):Int) k r x y p (Pos.mk p.variant ((p.ab.set (scale 1 (k:Int)).toNat 0).set (scale 1 (r:Int)).toNat 0) p.ai p.ah p.aa p.ao p.az p.au p.half p.full) ((56*t:Nat):Int)).isSome=true:=hS;rcases hc with rfl|rfl
  ·by_cases hlt:(r:Int)<k
   ·grind
   ·rw[decide_eq_false hlt,kl,rl,hPS];simp only[show((0:Int)==0)=true from rfl,show((0:Int)==1)=false from rfl,cond_true,cond_false,Bool.true_and];refine⟨?_,fin ?_ _ rfl⟩
    ·simp_all
    ·rw[e160,decide_eq_true (by omega),show((r:Int) != k)=true by simp;omega];rfl
  ·by_cases hgt:(r:Int)>k
   ·simp_all
   ·rw[decide_eq_false hgt,kl,rl,hPS];simp only[show((1:Int)==0)=false from rfl,show((1:Int)==1)=true from rfl,cond_true,cond_false,Bool.true_and];refine⟨?_,fin ?_ _ rfl⟩
    ·simp_all
    ·rw[e160,decide_eq_false hgt,show((r:Int) != k)=true by simp;omega];rfl
omit hp in
theorem PV (h:∀c:Int,c=0∨c=1→mh p c=true):E5 p=true∧PH p=(bif(ga p 1).2.2 then[⟨wr .i8 (ga p 1).1,wr .i8 (ga p 1).2.1,0,0,true⟩]else[])++(bif(ga p 0).2.2 then[⟨wr .i8 (ga p 0).1,wr .i8 (ga p 0).2.1,0,0,true⟩]else[]):=by
 have h1:=h 1 (.inr rfl);have h0:=h 0 (.inl rfl);have e:∀l:M',l.length≤5→∀c:Int,c=0∨c=1→(bif ti p 0 (l,c)then Aj p 0 (l,c)else .bad)=.go (l++(bif(ga p c).2.2 then[⟨wr .i8 (ga p c).1,wr .i8 (ga p c).2.1,0,0,true⟩]else[]),c-1):=by
  intro l hl c hc;unfold ti Aj;dsimp only;rw[h c hc,decide_eq_true (show c≥0 by omega),aF (n:=c-1) (by omega) (by omega)];have:decide (l.length+1≤1073741824)=true:=by grind
  rw[this];cases (ga p c).2.2<;>simp
 have hlp:cW (fun x=>bif ti p 0 x then Aj p 0 x else .bad) 3 ([],1)=some (([]++(bif(ga p 1).2.2 then[⟨wr .i8 (ga p 1).1,wr .i8 (ga p 1).2.1,0,0,true⟩]else[]))++(bif(ga p 0).2.2 then[⟨wr .i8 (ga p 0).1,wr .i8 (ga p 0).2.1,0,0,true⟩]else[]),-1,false):=by
  rw[cW];try dsimp only
  rw[e [] (by simp) 1 (.inr rfl)];try dsimp only
  rw[cW];try dsimp only
  rw[show(1:Int)-1=0 from rfl,e _ (by cases (ga p 1).2.2<;>simp) 0 (.inl rfl)];rfl
 have hm:=jX 3 many _ _ (by unfold many;omega) hlp;unfold E5 PH vJ;simp_all
theorem Zx:E5 p=true∧PH p=fc p:=by
 have none:(∀c:Int,c=0∨c=1→mh p c=true∧ga p c=(0,0,false))→fc p=[]→E5 p=true∧PH p=fc p:=fun h h5=>by obtain⟨h1,h2⟩:=PV (p:=p) fun c hc=>(h c hc).1;simp_all
 have t0:=hp.t0;by_cases ht:1<p.aa
 ·have d1:decide (p.aa>1)=true:=by simp;omega
  refine none (fun c hc=>?_) ?_
  ·unfold mh ga;simp_all
  ·unfold fc;rw[d1];rfl
 have d1:decide (p.aa>1)=false:=by simp;omega
 have hvar:FF p.variant=xF p.variant:=by have v0:=hp.v0;have v1:=hp.v1;obtain⟨n,hn⟩:=Int.eq_ofNat_of_zero_le v0;rw[hn];exact Db ⟨n,by omega⟩
 cases hv:xF p.variant with
 |false =>
  refine none (fun c hc=>?_) ?_
  ·unfold mh ga;simp_all
  ·unfold fc;rw[d1,hv];rfl
 |true =>
  have htt:p.aa=0∨p.aa=1:=by omega
  obtain⟨t,hpt⟩:=Int.eq_ofNat_of_zero_le t0;have ht1:t≤1:=by omega
  obtain⟨o129,e129⟩:=pg hp (c:=p.aa) (k:=6) htt (by omega) (by omega);have wt:wr .i64 p.aa=t:=by rw[aF (by omega) (by omega)];exact hpt
  have w56:wr .i64 (56*(t:Int))=((56*t:Nat):Int):=by rw[aF (by omega) (by omega)];omega
  have w63:wr .i64 (((56*t:Nat):Int)+7)=((56*t+7:Nat):Int):=by rw[aF (by omega) (by omega)];omega
  have b1:(decide (0≤p.aa)&&decide (p.aa<Int.ofNat 2))=true:=by simp;omega
  have away:bg p p.aa 6<56*t∨bg p p.aa 6>56*t+7→∀c:Int,c=0∨c=1→mh p c=true∧ga p c=(0,0,false):=fun h c hc=>by
   have b2:(decide (0≤c)&&decide (c<Int.ofNat 2))=true:=by simp;omega
   unfold mh ga;grind
  have n110:cC p.aa=((56*t:Nat):Int):=by unfold cC;rw[wt,w56]
  rcases gR p p.aa 6 with⟨a1,_⟩|⟨k,hk,a1,a2,_⟩
  ·refine none (away (by omega)) ?_;unfold fc;simp_all
  ·have n55:∀b:Bool,(wr .i64 ((k:Int).tdiv 8) != wr .i64 ((((56*t:Nat)):Int).tdiv 8))=b→b=!(decide (56*t≤k)&&decide (k≤56*t+7)):=fun b hb=>by rw[←hb,Int.tdiv_eq_ediv_of_nonneg (by omega),Int.tdiv_eq_ediv_of_nonneg (by omega),aF (by omega) (by omega),aF (by omega) (by omega),Bool.eq_iff_iff];simp;omega
   have d0:decide ((k:Int)<0)=false:=by simp
   by_cases hin:56*t≤k∧k≤56*t+7
   ·have hb:=n55 _ rfl;rw[decide_eq_true hin.1,decide_eq_true hin.2]at hb;have one:∀{c:Int},c=0∨c=1→_:=fun {c} (hc:c=0∨c=1)=>Ol hp hc ht1 hpt hv a1 a2 hin.1 hin.2;obtain⟨h1,h2⟩:=PV (p:=p) fun c hc=>(one hc).1;refine⟨h1,?_⟩;obtain⟨_,r0,q0,m0⟩:=one (c:=0) (.inl rfl);obtain⟨_,r1,q1,m1⟩:=one (c:=1) (.inr rfl);rw[h2,q0,q1];unfold fc;grind
   ·refine none (away (by omega)) ?_;have hb:=n55 _ rfl;have:(decide (56*t≤k)&&decide (k≤56*t+7))=false:=by rw[Bool.and_eq_false_iff,decide_eq_false_iff_not,decide_eq_false_iff_not];omega
    rw[this]at hb;unfold fc;grind
end
end Kz
namespace Kz
open Go Go.RowKit Go.Proofs
def ahh:KT:=[(158,21,[(0,[0,1]),(1,[1,5]),(2,[1,5,6]),(3,[1,5,6,12]),(4,[1,5,6]),(5,[1,5,6,20]),(6,[4]),(7,[4])])]
def aaF:ar:=bO Pz ahh [(95,XV)] [] []
theorem TH:aO aaF:=af ae ⟨s95,trivial⟩ trivial trivial
def OR (p1:Int)(p2:Z')(x:(Int)):St:=St.mk (.any::.int .u8 p1::(an 3 (.list (ET.i .u8) p2 .fresh::.int .i64 x::(an 14 [])))) (Hp.mk [] [] [] 0 0 0)
def Lj (p1:Int)(p2:Z'):Unit ⊕ (Int×Bool)→Out
 |(.inl (y))=>.ret (St.mk (an 4 (AV.aU true::(an 16 []))) (Hp.mk [] [] [] 0 0 0))
 |(.inr (y))=>.exit 0 (St.mk (AV.any::AV.int .u8 p1::(an 3 (AV.list (ET.i .u8) p2 Tk.fresh::AV.int .i64 y.1::(an 5 (AV.bool y.2::(an 8 [])))))) (Hp.mk [] [] [] 0 0 0))
def F9 (p1:Int)(p2:Z')(x:(Int)):aG (Int) (Unit ⊕ (Int×Bool)):=(bif decide (x<Int.ofNat p2.length)then(bif p2.getD x.toNat default==p1 then(aG.out (.inl (())))else(aG.go (wr .i64 (x+1))))else(aG.out (.inr ((x,decide (x<Int.ofNat p2.length))))))
def Ce (p1:Int)(p2:Z')(x:(Int)):Bool:=(bif decide (x<Int.ofNat p2.length)then(decide (0≤x)&&decide (x<Int.ofNat p2.length)&&true)else true)
def kQ (p1:Int)(p2:Z')(x:(Int)):Option (Unit ⊕ (Int×Bool)):=cW (fun x=>bif Ce p1 p2 x then F9 p1 p2 x else .bad) many x
abbrev NF {α:Type}(k:Int→Z'→(Int)→α)(s:St):α:=k (tI (tT s 1)) (tL (ET.i .u8) (tT s 5)) ((tI (tT s 6)))
theorem Yt (p1:Int)(p2:Z')(x:(Int))(r:Unit ⊕ (Int×Bool))(h:kQ p1 p2 x=some r):aC Pz (bc Pz 158 3) (OR p1 p2 x) (Lj p1 p2 r):=aC.Be (m:=12) (fn:=158) TH (NF fun _ _ x=>some x) (fun o=>match o with | .ret s=>some (.inl ()) | .exit 0 s=>some (.inr ((tI (tT s 6)),(tB (tT s 12))))|_=>none) (fun r=>by cases r<;>rfl) (fun _=>by kernel_rfl) (fun _=>by kernel_rfl) (fun _=>by kernel_rfl) (fun _=>by kernel_rfl) many x r h
def Nn (b:Code)(s:St):Tr Out:=NF (fun p1 p2 x=>Bg b (bc Pz 158 3) s (OR p1 p2 x) (kQ p1 p2 x) (Lj p1 p2)) s
theorem Ul:∀b,aT Pz b (Nn b):=fun _ _ _ h=>fj (Yt _ _ _) h
def apX:ar:=bO Pz ahh [(95,XV)] [(158,3,Nn)] []
theorem aiW:aO apX:=af ae ⟨s95,trivial⟩ ⟨Ul,trivial⟩ trivial
def OS (a:Int)(b:Int):Bool:=(bif cQ ((kQ b (s9 a) 0).getD default)then(true)else(false))
def xX (a:Int)(b:Int):Bool:=((kQ b (s9 a) 0).isSome&&bif cQ ((kQ b (s9 a) 0).getD default)then true else true)
theorem atg (a:Int)(b:Int)(h:xX a b=true):PS Pz 158 [.int .u8 a,.int .u8 b] (dB.res (OS a b)):=pq14 aiW h
def ahG:GT:=g2 (dI .u8) (dI .u8) (fun a b=>b7 (xX a b) (dB.res (OS a b)))
theorem apj:Sound Pz 158 ahG:=aP fun a b=>aA (atg a b)
def K96:KT:=[(96,69,[(0,(2::3::17::18::21::22::23::26::27::30::31::34::35::38::39::(rn 42 5 (rn 55 5 [])))),(1,(2::3::5::6::17::18::21::22::23::26::27::30::31::34::35::38::39::(rn 42 5 (rn 55 5 [])))),(2,(2::3::5::6::47::(rn 55 5 []))),(3,[4]),(4,[2,3,60]),(5,[4]),(6,[4])])]
def B96:ar:=bO Pz K96 [(19,JZ),(82,nP),(93,G93),(94,Th),(158,ahG)] [] []
theorem aqT:aO B96:=af ae ⟨Kg,nZ,MA,VE,apj,trivial⟩ trivial trivial
def Xy (a:Pos)(b:Mv):Bool:=(bif !qK a then(false)else(bif b.bZ then(false)else(bif b.bh != 0 then(false)else(bif decide (wr .i64 b.aD<0)then(false)else(bif decide (wr .i64 b.aD>63)then(false)else(bif decide (wr .i64 b.to<0)then(false)else(bif decide (wr .i64 b.to>63)then(false)else(bif !DM a (wr .i64 b.aD) (wr .i64 b.to)then(false)else(bif bE (a.ab.getD (scale 1 (wr .i64 b.aD)).toNat 0) != 1 then(b.bU==0)else(bif xb a.aa (wr .i64 b.to) != 7 then(b.bU==0)else(OS a.variant b.bU)))))))))))
def Cp (a:Pos)(b:Mv):Bool:=(bif !qK a then true else(bif b.bZ then true else(bif b.bh != 0 then true else(bif decide (wr .i64 b.aD<0)then true else(bif decide (wr .i64 b.aD>63)then true else(bif decide (wr .i64 b.to<0)then true else(bif decide (wr .i64 b.to>63)then true else(IG a (wr .i64 b.aD) (wr .i64 b.to)&&(bif !DM a (wr .i64 b.aD) (wr .i64 b.to)then true else(decide (0≤wr .i64 b.aD)&&decide (wr .i64 b.aD<Int.ofNat 64)&&(bif bE (a.ab.getD (scale 1 (wr .i64 b.aD)).toNat 0) != 1 then true else(bif xb a.aa (wr .i64 b.to) != 7 then true else(xX (a.variant) (b.bU)&&true)))))))))))))
theorem P96 (a:Pos)(b:Mv)(h:Cp a b=true):PS Pz 96 [Pos.av a,Mv.av b] (dB.res (Xy a b)):=pq14 aqT h
def G96:GT:=g2 aZ rJ (fun a b=>b7 (Cp a b) (dB.res (Xy a b)))
theorem s96:Sound Pz 96 G96:=aP fun a b=>aA (P96 a b)
def K39:KT:=[(39,39,[(0,(2::3::(rn 26 7 []))),(1,(2::3::9::(rn 26 7 []))),(2,[4]),(3,(2::3::5::(rn 26 7 []))),(4,(2::3::5::16::(rn 26 7 []))),(5,[4]),(6,[2,5,33]),(7,[4]),(8,[4])])]
def B39:ar:=bO Pz K39 [(82,nP),(96,G96),(97,G97),(98,G98)] [] []
theorem amb:aO B39:=af ae ⟨nZ,s96,s97,s98,trivial⟩ trivial trivial
def iq (a:Pos)(b:Mv):Int:=(bif !Xy a b then(-1)else(bif !Cc a (wr .i64 b.to)then(wr .i64 b.to)else(bif bE (a.ab.getD (scale 1 b.aD).toNat 0)==1 then(bif b.aD.tmod 8 != b.to.tmod 8 then(wr .i64 (wr .i64 b.to-iG a.aa))else(-1))else(-1))))
def nN (a:Pos)(b:Mv):Bool:=(Cp a b&&(bif !Xy a b then true else(ri a (wr .i64 b.to)&&(bif !Cc a (wr .i64 b.to)then true else(decide (0≤b.aD)&&decide (b.aD<Int.ofNat 64)&&true)))))
theorem P39 (a:Pos)(b:Mv)(h:nN a b=true):PS Pz 39 [Pos.av a,Mv.av b] ((dI .i64).res (iq a b)):=pq14 amb h
def Se:GT:=g2 aZ rJ (fun a b=>b7 (nN a b) ((dI .i64).res (iq a b)))
theorem VT:Sound Pz 39 Se:=aP fun a b=>aA (P39 a b)
def aqL:KT:=[(155,65,[(0,(2::3::9::10::11::(rn 14 5 (21::22::23::26::27::28::31::32::33::36::37::38::(rn 41 8 (rn 51 8 [])))))),(1,[3,59]),(2,[4]),(3,[64]),(4,[4]),(5,[4])])]
def alJ:ar:=bO Pz aqL [] [] []
theorem afI:aO alJ:=af ae trivial trivial trivial
def qV (a:Pos)(b:Mv):Int:=(bif decide (a.aa>1)then(-1)else(bif !b.bZ then(-1)else(bif b.aD==b.to then(-1)else(bif decide (b.aD<0)then(-1)else(bif decide (b.aD>63)then(-1)else(bif decide (b.to<0)then(-1)else(bif decide (b.to>63)then(-1)else(bif wr .i8 (b.aD.tdiv 8) != wr .i8 (wr .u8 (7*a.aa))then(-1)else(bif wr .i8 (b.to.tdiv 8) != wr .i8 (wr .u8 (7*a.aa))then(-1)else(bif decide (b.to>b.aD)then(0)else(1)))))))))))
def ajV (a:Pos)(b:Mv):Bool:=true
theorem arv (a:Pos)(b:Mv)(h:ajV a b=true):PS Pz 155 [Pos.av a,Mv.av b] ((dI .i64).res (qV a b)):=pq14 afI h
def Uz:GT:=g2 aZ rJ (fun a b=>.ret ((dI .i64).res (qV a b)))
theorem X1:Sound Pz 155 Uz:=aP fun a b=>bH (arv a b rfl)
def K86:KT:=[(86,116,[(0,[2,3,4,6]),(1,[2,3,4,6,7]),(2,[2,3,4,6,7,8]),(3,[2,3,4,6,7,8,20]),(4,(3::4::(rn 6 4 []))),(5,[3,4,6,7,8,10,11]),(6,[3,4,6,7,8,10,11,12]),(7,(4::6::7::8::(rn 10 4 []))),(8,(4::6::7::8::(rn 10 4 []))),(9,(6::7::8::(rn 10 4 []))),(10,[6,7,11,12,13]),(11,[6,7]),(12,[6]),(13,[2,3,4,6,7,8,61]),(14,[3,4,6,7]),(15,[6,7]),(16,[6]),(17,[2,3,4,6,7,8,89]),(18,[3,4,6,7,8]),(19,[3,4,6,7,8]),(20,[3,4,6,7]),(21,[3,4,6,7,104]),(22,[6,7]),(23,[6])])]
def B86:ar:=bO Pz K86 [(155,Uz),(156,J8)] [] []
theorem alB:aO B86:=af ae ⟨X1,Mz,trivial⟩ trivial trivial
def Bq (a:Pos)(b:Mv)(c:Int):Pos:=(bif b.bZ then⟨(a.variant),((((a.ab.set (scale 1 b.aD).toNat 0).set (scale 1 b.to).toNat 0).set (scale 1 (wr .i64 (wr .i64 (56*wr .i64 a.aa)+(ei (qV a b)).1))).toNat (a.ab.getD (scale 1 b.aD).toNat 0)).set (scale 1 (wr .i64 (wr .i64 (56*wr .i64 a.aa)+(ei (qV a b)).2))).toNat (a.ab.getD (scale 1 b.to).toNat 0)),(a.ai),(a.ah),(a.aa),(a.ao),(a.az),(a.au),(a.half),(a.full)⟩else(bif b.bh != 0 then⟨(a.variant),(a.ab.set (scale 1 b.to).toNat (wr .u8 (wr .u8 (8*a.aa)+b.bh))),(a.ai),(a.ah.set (scale 6 a.aa+scale 1 b.bh).toNat (wr .u8 (a.ah.getD (scale 6 a.aa+scale 1 b.bh).toNat 0-1))),(a.aa),(a.ao),(a.az),(a.au),(a.half),(a.full)⟩else(bif decide (c≥0)then(bif b.bU != 0 then⟨(a.variant),((((a.ab.set (scale 1 c).toNat 0).set (scale 1 b.aD).toNat 0).set (scale 1 b.to).toNat (a.ab.getD (scale 1 b.aD).toNat 0)).set (scale 1 b.to).toNat (wr .u8 (wr .u8 (8*a.aa)+b.bU))),(a.ai),(a.ah),(a.aa),(a.ao),(a.az),(a.au),(a.half),(a.full)⟩else⟨(a.variant),(((a.ab.set (scale 1 c).toNat 0).set (scale 1 b.aD).toNat 0).set (scale 1 b.to).toNat (a.ab.getD (scale 1 b.aD).toNat 0)),(a.ai),(a.ah),(a.aa),(a.ao),(a.az),(a.au),(a.half),(a.full)⟩)else(bif b.bU != 0 then⟨(a.variant),(((a.ab.set (scale 1 b.aD).toNat 0).set (scale 1 b.to).toNat (a.ab.getD (scale 1 b.aD).toNat 0)).set (scale 1 b.to).toNat (wr .u8 (wr .u8 (8*a.aa)+b.bU))),(a.ai),(a.ah),(a.aa),(a.ao),(a.az),(a.au),(a.half),(a.full)⟩else⟨(a.variant),((a.ab.set (scale 1 b.aD).toNat 0).set (scale 1 b.to).toNat (a.ab.getD (scale 1 b.aD).toNat 0)),(a.ai),(a.ah),(a.aa),(a.ao),(a.az),(a.au),(a.half),(a.full)⟩))))
def Cr (a:Pos)(b:Mv)(c:Int):Bool:=(decide (0≤b.aD)&&decide (b.aD<Int.ofNat 64)&&(bif b.bZ then(decide (0≤b.to)&&decide (b.to<Int.ofNat 64)&&(decide (0≤b.aD)&&decide (b.aD<Int.ofNat 64)&&(decide (0≤b.to)&&decide (b.to<Int.ofNat 64)&&(decide (0≤wr .i64 (wr .i64 (56*wr .i64 a.aa)+(ei (qV a b)).1))&&decide (wr .i64 (wr .i64 (56*wr .i64 a.aa)+(ei (qV a b)).1)<Int.ofNat 64)&&(decide (0≤wr .i64 (wr .i64 (56*wr .i64 a.aa)+(ei (qV a b)).2))&&decide (wr .i64 (wr .i64 (56*wr .i64 a.aa)+(ei (qV a b)).2)<Int.ofNat 64)&&true)))))else(bif b.bh != 0 then(decide (0≤a.aa)&&decide (a.aa<Int.ofNat 2)&&(decide (0≤b.bh)&&decide (b.bh<Int.ofNat 6)&&(decide (0≤a.aa)&&decide (a.aa<Int.ofNat 2)&&(decide (0≤b.bh)&&decide (b.bh<Int.ofNat 6)&&(decide (0≤b.to)&&decide (b.to<Int.ofNat 64)&&true)))))else(bif decide (c≥0)then(decide (0≤c)&&decide (c<Int.ofNat 64)&&(decide (0≤b.aD)&&decide (b.aD<Int.ofNat 64)&&(decide (0≤b.to)&&decide (b.to<Int.ofNat 64)&&(bif b.bU != 0 then(decide (0≤b.to)&&decide (b.to<Int.ofNat 64)&&true)else true))))else(decide (0≤b.aD)&&decide (b.aD<Int.ofNat 64)&&(decide (0≤b.to)&&decide (b.to<Int.ofNat 64)&&(bif b.bU != 0 then(decide (0≤b.to)&&decide (b.to<Int.ofNat 64)&&true)else true)))))))
theorem P86 (a:Pos)(b:Mv)(c:Int)(h:Cr a b c=true):PS Pz 86 [Pos.av a,Mv.av b,.int .i64 c] (aZ.res (Bq a b c)):=pq14 alB h
def G86:GT:=g3 aZ rJ (dI .i64) (fun a b c=>b7 (Cr a b c) (aZ.res (Bq a b c)))
theorem s86:Sound Pz 86 G86:=dc fun a b c=>aA (P86 a b c)
def K89:KT:=[(89,11,[(0,[0,1]),(1,[4])])]
def B89:ar:=bO Pz K89 [] [] []
theorem aop:aO B89:=af ae trivial trivial trivial
def Ep (a:BitVec 64)(b:Int):Bool:=(a >>> (BitVec.ofInt 64 b).toNat&&&1#64==1#64)
def arP (a:BitVec 64)(b:Int):Bool:=true
theorem P89 (a:BitVec 64)(b:Int)(h:arP a b=true):PS Pz 89 [.u64 a,.int .i64 b] (dB.res (Ep a b)):=pq14 aop h
def G89:GT:=g2 dU (dI .i64) (fun a b=>.ret (dB.res (Ep a b)))
theorem s89:Sound Pz 89 G89:=aP fun a b=>bH (P89 a b rfl)
def K87:KT:=[(87,151,[(0,(rn 3 4 (8::19::20::21::(rn 73 5 (82::83::(rn 86 8 (115::116::117::(rn 120 5 (rn 135 6 []))))))))),(1,(rn 3 4 (8::22::(rn 73 5 (82::83::(rn 86 8 (115::116::117::(rn 120 5 (rn 135 6 []))))))))),(2,[8]),(3,(rn 3 4 (8::25::(rn 73 5 (82::83::(rn 86 8 (115::116::117::(rn 120 5 (rn 135 6 []))))))))),(4,[4,5,6,8,9]),(5,[4,5,6,8,11]),(6,[4,5,6,8,11,39]),(7,[4,5,8,11]),(8,[5,8]),(9,[8]),(10,(rn 3 4 (8::62::(rn 73 5 (82::83::(rn 86 8 (115::116::117::(rn 120 5 (rn 135 6 []))))))))),(11,(rn 3 4 (8::12::(rn 73 5 (82::83::(rn 86 8 (115::116::117::(rn 120 5 (rn 135 6 []))))))))),(12,(rn 3 4 (8::12::78::82::83::(rn 86 8 (115::116::117::(rn 120 5 (rn 135 6 []))))))),(13,(rn 3 4 (8::12::82::83::(rn 86 8 (115::116::117::(rn 120 5 (rn 135 6 []))))))),(14,(rn 3 4 (8::12::94::115::116::117::(rn 120 5 (rn 135 6 []))))),(15,(rn 3 4 (8::115::116::117::(rn 120 5 (rn 135 6 []))))),(16,(rn 3 4 (8::13::115::116::117::(rn 120 5 (rn 135 6 []))))),(17,(rn 3 4 (8::13::14::115::116::117::(rn 120 5 (rn 135 6 []))))),(18,(rn 3 4 (8::13::14::107::115::116::117::(rn 120 5 (rn 135 6 []))))),(19,(rn 3 4 (8::13::14::115::116::117::(rn 120 5 (rn 135 6 []))))),(20,(rn 3 4 (8::13::14::115::116::117::(rn 120 6 (rn 135 6 []))))),(21,(rn 3 4 (8::13::14::115::116::117::(rn 120 5 (rn 135 6 []))))),(22,[5,6,8,13,141]),(23,[5,8,13]),(24,[5,8]),(25,[8])])]
def ajm:ar:=bO Pz K87 [(82,nP),(89,G89),(155,Uz),(156,J8)] [] []
theorem aa2:aO ajm:=af ae ⟨nZ,s89,X1,Mz,trivial⟩ trivial trivial
def WH (p1:Int)(p2:Pos)(p3:Pos)(p4:Mv)(x:((BitVec 64)×Int)):St:=St.mk (an 3 (.int .i64 p1::.ptr 0 0::.ptr 1 0::.ptr 2 0::.any::.ptr 3 0::(an 4 (.u64 x.1::.int .i64 x.2::(an 120 (.undef::.undef::.undef::.undef::.undef::.undef::(an 10 []))))))) (Hp.mk [(pc p2 []),(pc p3 []),[.int .i8 p4.aD,.int .i8 p4.to,.int .u8 p4.bU,.int .u8 p4.bh,.bool p4.bZ],zpB] [] [] 0 0 0)
def VK (p1:Int)(p2:Pos)(p3:Pos)(p4:Mv):((BitVec 64)×Int×Bool)→Out:=fun y=>.exit 0 (St.mk (an 3 (.int .i64 p1::.ptr 0 0::.ptr 1 0::.ptr 2 0::.any::.ptr 3 0::(an 4 (.u64 y.1::.int .i64 y.2.1::(an 92 (.bool y.2.2::(an 27 (.undef::.undef::.undef::.undef::.undef::.undef::(an 10 []))))))))) (Hp.mk [(pc p2 []),(pc p3 []),[.int .i8 p4.aD,.int .i8 p4.to,.int .u8 p4.bU,.int .u8 p4.bh,.bool p4.bZ],zpB] [] [] 0 0 0))
def ON (p1:Int)(p2:Pos)(p3:Pos)(p4:Mv)(x:((BitVec 64)×Int)):aG ((BitVec 64)×Int) (((BitVec 64)×Int×Bool)):=(bif decide (x.2<64)then(bif Ep p2.ai x.2 then(bif x.2 != p1 then(bif x.2 != wr .i64 p4.aD then(aG.go (x.1|||1#64 <<< (BitVec.ofInt 64 x.2).toNat,wr .i64 (x.2+1)))else(aG.go (x.1,wr .i64 (x.2+1))))else(aG.go (x.1,wr .i64 (x.2+1))))else(aG.go (x.1,wr .i64 (x.2+1))))else(aG.out ((x.1,x.2,decide (x.2<64)))))
def R4 (p1:Int)(p2:Pos)(p3:Pos)(p4:Mv)(x:((BitVec 64)×Int)):Bool:=true
def fA (p1:Int)(p2:Pos)(p3:Pos)(p4:Mv)(x:((BitVec 64)×Int)):Option (((BitVec 64)×Int×Bool)):=cW (fun x=>bif R4 p1 p2 p3 p4 x then ON p1 p2 p3 p4 x else .bad) many x
abbrev W5 {α:Type}(k:Int→Pos→Pos→Mv→((BitVec 64)×Int)→α)(s:St):α:=wP s 0 fun q0=>wP s 1 fun q1=>wM s 2 fun q2=>k (tI (tT s 3)) q0 q1 q2 ((tU (tT s 13)),(tI (tT s 14)))
theorem acT (p1:Int)(p2:Pos)(p3:Pos)(p4:Mv)(x:((BitVec 64)×Int))(r:((BitVec 64)×Int×Bool))(h:fA p1 p2 p3 p4 x=some r):aC Pz (bc Pz 87 18) (WH p1 p2 p3 p4 x) (VK p1 p2 p3 p4 r):=smq (m:=12) (fn:=87) aa2 (W5 fun _ _ _ _ x=>some x) (fun o=>match o with | .exit 0 s=>some ((tU (tT s 13)),(tI (tT s 14)),(tB (tT s 107)))|_=>none) many x r h
def Xl (b:Code)(s:St):Tr Out:=W5 (fun p1 p2 p3 p4 x=>jS b (bc Pz 87 18) s (WH p1 p2 p3 p4 x) (fA p1 p2 p3 p4 x) (VK p1 p2 p3 p4)) s
theorem Zt:∀b,aT Pz b (Xl b):=fun _ _ _ h=>bF (acT _ _ _ _ _) h
def B87:ar:=bO Pz K87 [(82,nP),(89,G89),(155,Uz),(156,J8)] [(87,18,Xl)] []
theorem arH:aO B87:=af ae ⟨nZ,s89,X1,Mz,trivial⟩ ⟨Zt,trivial⟩ trivial
def BN (a:Pos)(b:Pos)(c:Mv)(d:Int):Pos:=let z1:=(bif c.bU != 0 then(u4 b (((fA d a b c (0#64,0)).getD default).1|||1#64 <<< (BitVec.ofInt 64 c.to).toNat))else(bif Ep a.ai (wr .i64 c.aD)then(u4 b (((fA d a b c (0#64,0)).getD default).1|||1#64 <<< (BitVec.ofInt 64 c.to).toNat))else(u4 b (((fA d a b c (0#64,0)).getD default).1))));let z2:=(bif decide (bE (a.ab.getD (scale 1 d).toNat 0)≥1)then(bif decide (bE (a.ab.getD (scale 1 d).toNat 0)≤5)then(bif decide (b.ah.getD (scale 6 a.aa+scale 1 (bE (a.ab.getD (scale 1 d).toNat 0))).toNat 0<255)then(bif c.bU != 0 then(u12 b (((fA d a (u8 b (b.ah.set (scale 6 a.aa+scale 1 (bE (a.ab.getD (scale 1 d).toNat 0))).toNat (wr .u8 (b.ah.getD (scale 6 a.aa+scale 1 (bE (a.ab.getD (scale 1 d).toNat 0))).toNat 0+1)))) c (0#64,0)).getD default).1|||1#64 <<< (BitVec.ofInt 64 c.to).toNat) (b.ah.set (scale 6 a.aa+scale 1 (bE (a.ab.getD (scale 1 d).toNat 0))).toNat (wr .u8 (b.ah.getD (scale 6 a.aa+scale 1 (bE (a.ab.getD (scale 1 d).toNat 0))).toNat 0+1))))else(bif Ep a.ai (wr .i64 c.aD)then(u12 b (((fA d a (u8 b (b.ah.set (scale 6 a.aa+scale 1 (bE (a.ab.getD (scale 1 d).toNat 0))).toNat (wr .u8 (b.ah.getD (scale 6 a.aa+scale 1 (bE (a.ab.getD (scale 1 d).toNat 0))).toNat 0+1)))) c (0#64,0)).getD default).1|||1#64 <<< (BitVec.ofInt 64 c.to).toNat) (b.ah.set (scale 6 a.aa+scale 1 (bE (a.ab.getD (scale 1 d).toNat 0))).toNat (wr .u8 (b.ah.getD (scale 6 a.aa+scale 1 (bE (a.ab.getD (scale 1 d).toNat 0))).toNat 0+1))))else(u12 b (((fA d a (u8 b (b.ah.set (scale 6 a.aa+scale 1 (bE (a.ab.getD (scale 1 d).toNat 0))).toNat (wr .u8 (b.ah.getD (scale 6 a.aa+scale 1 (bE (a.ab.getD (scale 1 d).toNat 0))).toNat 0+1)))) c (0#64,0)).getD default).1) (b.ah.set (scale 6 a.aa+scale 1 (bE (a.ab.getD (scale 1 d).toNat 0))).toNat (wr .u8 (b.ah.getD (scale 6 a.aa+scale 1 (bE (a.ab.getD (scale 1 d).toNat 0))).toNat 0+1))))))else z1)else z1)else z1);let z3:=(b.ah.set (scale 6 a.aa+scale 1 (Int.ofNat 1)).toNat (wr .u8 (b.ah.getD (scale 6 a.aa+scale 1 (Int.ofNat 1)).toNat 0+1)));let z4:=(u12 b (((fA d a (u8 b z3) c (0#64,0)).getD default).1|||1#64 <<< (BitVec.ofInt 64 c.to).toNat) z3);let z5:=b; (bif a.variant != 2 then z5 else(bif c.bh != 0 then z5 else(bif c.bZ then(bif Ep a.ai (wr .i64 c.to)then(u4 b (a.ai &&& ~~~(1#64 <<< (BitVec.ofInt 64 c.to).toNat)|||1#64 <<< (BitVec.ofInt 64 (wr .i64 (wr .i64 (56*wr .i64 a.aa)+(ei (qV a c)).2))).toNat))else z5)else(bif decide (d≥0)then(bif Ep a.ai d then(bif a.ab.getD (scale 1 d).toNat 0 != 0 then(bif decide (b.ah.getD (scale 6 a.aa+scale 1 (Int.ofNat 1)).toNat 0<255)then(bif c.bU != 0 then z4 else(bif Ep a.ai (wr .i64 c.aD)then z4 else(u12 b (((fA d a (u8 b z3) c (0#64,0)).getD default).1) z3)))else z1)else z2)else z2)else z1))))
def zN (a:Pos)(b:Pos)(c:Mv)(d:Int):Bool:=let z2:=(scale 6 a.aa+scale 1 (Int.ofNat 1));let z3:=((fA d a b c (0#64,0)).isSome&&true);let z4:=(a.aa<Int.ofNat 2);let z1:=(bif decide (bE (a.ab.getD (scale 1 d).toNat 0)≥1)then(bif decide (bE (a.ab.getD (scale 1 d).toNat 0)≤5)then(decide (0≤a.aa)&&decide z4&&(decide (0≤bE (a.ab.getD (scale 1 d).toNat 0))&&decide (bE (a.ab.getD (scale 1 d).toNat 0)<Int.ofNat 6)&&(bif decide (b.ah.getD (scale 6 a.aa+scale 1 (bE (a.ab.getD (scale 1 d).toNat 0))).toNat 0<255)then(decide (0≤a.aa)&&decide z4&&(decide (0≤bE (a.ab.getD (scale 1 d).toNat 0))&&decide (bE (a.ab.getD (scale 1 d).toNat 0)<Int.ofNat 6)&&(decide (0≤a.aa)&&decide z4&&(decide (0≤bE (a.ab.getD (scale 1 d).toNat 0))&&decide (bE (a.ab.getD (scale 1 d).toNat 0)<Int.ofNat 6)&&((fA d a (u8 b (b.ah.set (scale 6 a.aa+scale 1 (bE (a.ab.getD (scale 1 d).toNat 0))).toNat (wr .u8 (b.ah.getD (scale 6 a.aa+scale 1 (bE (a.ab.getD (scale 1 d).toNat 0))).toNat 0+1)))) c (0#64,0)).isSome&&true)))))else z3)))else z3)else z3); (bif a.variant != 2 then true else(bif c.bh != 0 then true else(bif c.bZ then true else(bif decide (d≥0)then(decide (0≤d)&&decide (d<Int.ofNat 64)&&(bif Ep a.ai d then(decide (0≤d)&&decide (d<Int.ofNat 64)&&(bif a.ab.getD (scale 1 d).toNat 0 != 0 then(decide (0≤a.aa)&&decide z4&&(bif decide (b.ah.getD z2.toNat 0<255)then(decide (0≤a.aa)&&decide z4&&(decide (0≤a.aa)&&decide z4&&((fA d a (u8 b (b.ah.set z2.toNat (wr .u8 (b.ah.getD z2.toNat 0+1)))) c (0#64,0)).isSome&&true)))else z3))else z1))else z1))else z3))))
theorem P87 (a:Pos)(b:Pos)(c:Mv)(d:Int)(h:zN a b c d=true):PS Pz 87 [Pos.av a,Pos.av b,Mv.av c,.int .i64 d] (aZ.res (BN a b c d)):=pq14 arH h
def G87:GT:=g4 aZ aZ rJ (dI .i64) (fun a b c d=>b7 (zN a b c d) (aZ.res (BN a b c d)))
theorem s87:Sound Pz 87 G87:=EC fun a b c d=>aA (P87 a b c d)
def K88:KT:=[(88,47,[(0,(1::2::11::12::15::16::(rn 29 11 []))),(1,(1::2::5::11::12::15::16::(rn 29 11 []))),(2,(1::2::5::6::11::12::15::16::(rn 29 11 []))),(3,(1::2::5::6::11::12::15::16::17::(rn 29 11 []))),(4,(1::2::5::6::11::12::15::16::(rn 29 11 []))),(5,(1::2::5::6::7::11::12::15::16::(rn 29 11 []))),(6,(1::2::5::6::11::12::15::16::(rn 29 12 []))),(7,(1::2::5::6::11::12::15::16::(rn 29 11 []))),(8,[4])])]
def agC:ar:=bO Pz K88 [(82,nP),(153,BL)] [] []
theorem abh:aO agC:=af ae ⟨nZ,DS,trivial⟩ trivial trivial
def XN (p1:Int)(p2:Pos)(x:((BitVec 64)×Int)):St:=St.mk (.any::.int .i64 p1::.ptr 0 0::.any::.any::.u64 x.1::.int .i64 x.2::(an 40 [])) (Hp.mk [(pc p2 [])] [] [] 0 0 0)
def Vo (p1:Int)(p2:Pos):((BitVec 64)×Int×Bool)→Out:=fun y=>.exit 0 (St.mk (.any::.int .i64 p1::.ptr 0 0::.any::.any::.u64 y.1::.int .i64 y.2.1::(an 10 (.bool y.2.2::(an 29 [])))) (Hp.mk [(pc p2 [])] [] [] 0 0 0))
def Mc (p1:Int)(p2:Pos)(x:((BitVec 64)×Int)):aG ((BitVec 64)×Int) (((BitVec 64)×Int×Bool)):=(bif decide (x.2<64)then(bif decide (p1≥0)then(bif decide (p1<64)then(bif x.2==p1 then(aG.go (x.1|||1#64 <<< (BitVec.ofInt 64 x.2).toNat,wr .i64 (x.2+1)))else(bif je x.2 p1 then(bif bE (p2.ab.getD (scale 1 x.2).toNat 0) != 0 then(bif bE (p2.ab.getD (scale 1 x.2).toNat 0) != 1 then(aG.go (x.1|||1#64 <<< (BitVec.ofInt 64 x.2).toNat,wr .i64 (x.2+1)))else(aG.go (x.1,wr .i64 (x.2+1))))else(aG.go (x.1,wr .i64 (x.2+1))))else(aG.go (x.1,wr .i64 (x.2+1)))))else(aG.out ((x.1,x.2,decide (p1<64)))))else(aG.out ((x.1,x.2,false))))else(aG.out ((x.1,x.2,false))))
def Gt (p1:Int)(p2:Pos)(x:((BitVec 64)×Int)):Bool:=(bif decide (x.2<64)then(bif decide (p1≥0)then(bif decide (p1<64)then(decide (0≤x.2)&&decide (x.2 < ↑64)&&true)else true)else true)else true)
def wX (p1:Int)(p2:Pos)(x:((BitVec 64)×Int)):Option (((BitVec 64)×Int×Bool)):=cW (fun x=>bif Gt p1 p2 x then Mc p1 p2 x else .bad) many x
abbrev WQ {α:Type}(k:Int→Pos→((BitVec 64)×Int)→α)(s:St):α:=wP s 0 fun q0=>k (tI (tT s 1)) q0 ((tU (tT s 5)),(tI (tT s 6)))
theorem ael (p1:Int)(p2:Pos)(x:((BitVec 64)×Int))(r:((BitVec 64)×Int×Bool))(h:wX p1 p2 x=some r):aC Pz (bc Pz 88 3) (XN p1 p2 x) (Vo p1 p2 r):=smq (m:=12) (fn:=88) abh (WQ fun _ _ x=>some x) (fun o=>match o with | .exit 0 s=>some ((tU (tT s 5)),(tI (tT s 6)),(tB (tT s 17)))|_=>none) many x r h
def Xx (b:Code)(s:St):Tr Out:=WQ (fun p1 p2 x=>jS b (bc Pz 88 3) s (XN p1 p2 x) (wX p1 p2 x) (Vo p1 p2)) s
theorem abF:∀b,aT Pz b (Xx b):=fun _ _ _ h=>bF (ael _ _ _) h
def B88:ar:=bO Pz K88 [(82,nP),(153,BL)] [(88,3,Xx)] []
theorem ar2:aO B88:=af ae ⟨nZ,DS,trivial⟩ ⟨abF,trivial⟩ trivial
def Rc (a:Pos)(b:Int):BitVec 64:=(((wX b a (0#64,0)).getD default).1)
def Ow (a:Pos)(b:Int):Bool:=((wX b a (0#64,0)).isSome&&true)
theorem P88 (a:Pos)(b:Int)(h:Ow a b=true):PS Pz 88 [Pos.av a,.int .i64 b] (dU.res (Rc a b)):=pq14 ar2 h
def G88:GT:=g2 aZ (dI .i64) (fun a b=>b7 (Ow a b) (dU.res (Rc a b)))
theorem s88:Sound Pz 88 G88:=aP fun a b=>aA (P88 a b)
def K90:KT:=[(90,103,[(0,(rn 3 4 (8::(rn 20 7 (57::58::(rn 67 4 (rn 73 5 (80::81::82::(rn 85 10 []))))))))),(1,(rn 3 4 (8::27::57::58::(rn 67 4 (rn 73 5 (80::81::82::(rn 85 10 []))))))),(2,(3::5::6::8::57::58::(rn 67 4 (rn 73 5 (80::81::82::(rn 85 10 [])))))),(3,(3::5::6::8::9::57::58::(rn 67 4 (rn 73 5 (80::81::82::(rn 85 10 [])))))),(4,(3::5::6::8::9::34::57::58::(rn 67 4 (rn 73 5 (80::81::82::(rn 85 10 [])))))),(5,(3::5::6::8::9::57::58::(rn 67 4 (rn 73 5 (80::81::82::(rn 85 10 [])))))),(6,(3::5::6::8::9::10::57::58::(rn 67 4 (rn 73 5 (80::81::82::(rn 85 10 [])))))),(7,(3::5::6::(rn 8 4 (57::58::(rn 67 4 (rn 73 5 (80::81::82::(rn 85 10 [])))))))),(8,(3::5::6::(rn 8 5 (57::58::(rn 67 4 (rn 73 5 (80::81::82::(rn 85 10 [])))))))),(9,(3::5::6::(rn 8 5 (44::57::58::(rn 67 4 (rn 73 5 (80::81::82::(rn 85 10 [])))))))),(10,(3::5::6::(rn 8 5 (57::58::(rn 67 4 (rn 73 5 (80::81::82::(rn 85 10 [])))))))),(11,(3::5::6::(rn 8 6 (57::58::(rn 67 4 (rn 73 5 (80::81::82::(rn 85 10 [])))))))),(12,(3::5::6::(rn 8 6 (57::58::59::(rn 67 4 (rn 73 5 (80::81::82::(rn 85 10 [])))))))),(13,(3::5::6::(rn 8 5 (14::57::58::(rn 67 4 (rn 73 5 (80::81::82::(rn 85 10 [])))))))),(14,(3::5::6::(rn 8 5 (15::57::58::(rn 67 4 (rn 73 5 (80::81::82::(rn 85 10 [])))))))),(15,(3::5::6::(rn 8 5 (57::58::(rn 67 4 (rn 73 5 (80::81::82::(rn 85 10 [96])))))))),(16,(3::5::6::(rn 8 5 (57::58::(rn 67 4 (rn 73 5 (80::81::82::(rn 85 10 [])))))))),(17,[8])])]
def agw:ar:=bO Pz K90 [(82,nP),(150,As),(152,pZ)] [] []
theorem YG:aO agw:=af ae ⟨nZ,C5,rj,trivial⟩ trivial trivial
def Xz (p1:Int)(p2:Int)(p3:Int)(p4:Int)(p5:Pos)(p6:Mv)(x:(Int×Pos)):St:=St.mk (an 3 (.int .i64 p1::.any::.ptr 1 0::.ptr 2 0::.any::.ptr 3 0::.int .u8 p2::.int .i64 p3::.int .i64 p4::.int .i64 x.1::(an 90 []))) (Hp.mk [(pc p5 []),(pc x.2 []),[.int .i8 p6.aD,.int .i8 p6.to,.int .u8 p6.bU,.int .u8 p6.bh,.bool p6.bZ],[.int .u8 0,.ints .u8 64 (List.replicate 64 0),.u64 0,.ints .u8 12 (List.replicate 12 0),.int .u8 0,.ints .i8 4 (List.replicate 4 0),.int .i8 0,.ints .u8 2 (List.replicate 2 0),.int .i64 0,.int .i64 0]] [] [] 0 0 0)
def Wi (p1:Int)(p2:Int)(p3:Int)(p4:Int)(p5:Pos)(p6:Mv):(Int×Bool×Pos)→Out:=fun y=>.exit 2 (St.mk (an 3 (.int .i64 p1::.any::.ptr 1 0::.ptr 2 0::.any::.ptr 3 0::.int .u8 p2::.int .i64 p3::.int .i64 p4::.int .i64 y.1::(an 31 (.bool y.2.1::(an 58 []))))) (Hp.mk [(pc p5 []),(pc y.2.2 []),[.int .i8 p6.aD,.int .i8 p6.to,.int .u8 p6.bU,.int .u8 p6.bh,.bool p6.bZ],[.int .u8 0,.ints .u8 64 (List.replicate 64 0),.u64 0,.ints .u8 12 (List.replicate 12 0),.int .u8 0,.ints .i8 4 (List.replicate 4 0),.int .i8 0,.ints .u8 2 (List.replicate 2 0),.int .i64 0,.int .i64 0]] [] [] 0 0 0))
def E4 (p1:Int)(p2:Int)(p3:Int)(p4:Int)(p5:Pos)(p6:Mv)(x:(Int×Pos)):aG (Int×Pos) ((Int×Bool×Pos)):=(bif decide (x.1<2)then(bif decide (wr .i64 (x.2.ao.getD (scale 2 p2+scale 1 x.1).toNat 0)<0)then(aG.go (wr .i64 (x.1+1),x.2))else(bif decide (wr .i64 (x.2.ao.getD (scale 2 p2+scale 1 x.1).toNat 0)>7)then(aG.go (wr .i64 (x.1+1),x.2))else(bif decide (p4<p3)then(aG.go (wr .i64 (x.1+1),u32 x.2 (x.2.ao.set (scale 2 p2+scale 1 x.1).toNat (-1))))else(bif decide (p4>wr .i64 (p3+7))then(aG.go (wr .i64 (x.1+1),u32 x.2 (x.2.ao.set (scale 2 p2+scale 1 x.1).toNat (-1))))else(bif !rY x.2 (wr .i64 (p3+wr .i64 (x.2.ao.getD (scale 2 p2+scale 1 x.1).toNat 0))) p2 4 then(aG.go (wr .i64 (x.1+1),u32 x.2 (x.2.ao.set (scale 2 p2+scale 1 x.1).toNat (-1))))else(bif p1==wr .i64 (p3+wr .i64 (x.2.ao.getD (scale 2 p2+scale 1 x.1).toNat 0))then(aG.go (wr .i64 (x.1+1),u32 x.2 (x.2.ao.set (scale 2 p2+scale 1 x.1).toNat (-1))))else(bif p6.bh==0 then(bif wr .i64 p6.aD==wr .i64 (p3+wr .i64 (x.2.ao.getD (scale 2 p2+scale 1 x.1).toNat 0))then(aG.go (wr .i64 (x.1+1),u32 x.2 (x.2.ao.set (scale 2 p2+scale 1 x.1).toNat (-1))))else(aG.go (wr .i64 (x.1+1),x.2)))else(aG.go (wr .i64 (x.1+1),x.2)))))))))else(aG.out ((x.1,decide (x.1<2),x.2))))
def AF (p1:Int)(p2:Int)(p3:Int)(p4:Int)(p5:Pos)(p6:Mv)(x:(Int×Pos)):Bool:=(bif decide (x.1<2)then(decide (0≤p2)&&decide (p2<Int.ofNat 2)&&(decide (0≤x.1)&&decide (x.1<Int.ofNat 2)&&(bif decide (wr .i64 (x.2.ao.getD (scale 2 p2+scale 1 x.1).toNat 0)<0)then true else(bif decide (wr .i64 (x.2.ao.getD (scale 2 p2+scale 1 x.1).toNat 0)>7)then true else(bif decide (p4<p3)then(decide (0≤p2)&&decide (p2<Int.ofNat 2)&&(decide (0≤x.1)&&decide (x.1<Int.ofNat 2)&&true))else(bif decide (p4>wr .i64 (p3+7))then(decide (0≤p2)&&decide (p2<Int.ofNat 2)&&(decide (0≤x.1)&&decide (x.1<Int.ofNat 2)&&true))else(od (x.2) (wr .i64 (p3+wr .i64 (x.2.ao.getD (scale 2 p2+scale 1 x.1).toNat 0))) p2 4&&(bif !rY x.2 (wr .i64 (p3+wr .i64 (x.2.ao.getD (scale 2 p2+scale 1 x.1).toNat 0))) p2 4 then(decide (0≤p2)&&decide (p2<Int.ofNat 2)&&(decide (0≤x.1)&&decide (x.1<Int.ofNat 2)&&true))else(bif p1==wr .i64 (p3+wr .i64 (x.2.ao.getD (scale 2 p2+scale 1 x.1).toNat 0))then(decide (0≤p2)&&decide (p2<Int.ofNat 2)&&(decide (0≤x.1)&&decide (x.1<Int.ofNat 2)&&true))else(bif p6.bh==0 then(bif wr .i64 p6.aD==wr .i64 (p3+wr .i64 (x.2.ao.getD (scale 2 p2+scale 1 x.1).toNat 0))then(decide (0≤p2)&&decide (p2<Int.ofNat 2)&&(decide (0≤x.1)&&decide (x.1<Int.ofNat 2)&&true))else true)else true))))))))))else true)
def uh (p1:Int)(p2:Int)(p3:Int)(p4:Int)(p5:Pos)(p6:Mv)(x:(Int×Pos)):Option ((Int×Bool×Pos)):=cW (fun x=>bif AF p1 p2 p3 p4 p5 p6 x then E4 p1 p2 p3 p4 p5 p6 x else .bad) many x
abbrev Xr {α:Type}(k:Int→Int→Int→Int→Pos→Mv→(Int×Pos)→α)(s:St):α:=wP s 0 fun q0=>wP s 1 fun q1=>wM s 2 fun q2=>k (tI (tT s 3)) (tI (tT s 9)) (tI (tT s 10)) (tI (tT s 11)) q0 q2 ((tI (tT s 12)),q1)
theorem ag2 (p1:Int)(p2:Int)(p3:Int)(p4:Int)(p5:Pos)(p6:Mv)(x:(Int×Pos))(r:(Int×Bool×Pos))(h:uh p1 p2 p3 p4 p5 p6 x=some r):aC Pz (bc Pz 90 9) (Xz p1 p2 p3 p4 p5 p6 x) (Wi p1 p2 p3 p4 p5 p6 r):=smq (m:=12) (fn:=90) YG (Xr fun _ _ _ _ _ _ x=>some x) (fun o=>match o with | .exit 2 s=>wP s 1 fun q1=>some ((tI (tT s 12)),(tB (tT s 44)),q1)|_=>none) many x r h
def Q7 (b:Code)(s:St):Tr Out:=Xr (fun p1 p2 p3 p4 p5 p6 x=>jS b (bc Pz 90 9) s (Xz p1 p2 p3 p4 p5 p6 x) (uh p1 p2 p3 p4 p5 p6 x) (Wi p1 p2 p3 p4 p5 p6)) s
theorem M6:∀b,aT Pz b (Q7 b):=fun _ _ _ h=>bF (ag2 _ _ _ _ _ _ _) h
def adz:ar:=bO Pz K90 [(82,nP),(150,As),(152,pZ)] [(90,9,Q7)] []
theorem Y3:aO adz:=af ae ⟨nZ,C5,rj,trivial⟩ ⟨M6,trivial⟩ trivial
def Ww (p1:Int)(p2:Pos)(p3:Mv)(x:(Int×Pos)):St:=St.mk (an 3 (.int .i64 p1::.any::.ptr 1 0::.ptr 2 0::.any::.ptr 3 0::.int .u8 x.1::(an 93 []))) (Hp.mk [(pc p2 []),(pc x.2 []),[.int .i8 p3.aD,.int .i8 p3.to,.int .u8 p3.bU,.int .u8 p3.bh,.bool p3.bZ],[.int .u8 0,.ints .u8 64 (List.replicate 64 0),.u64 0,.ints .u8 12 (List.replicate 12 0),.int .u8 0,.ints .i8 4 (List.replicate 4 0),.int .i8 0,.ints .u8 2 (List.replicate 2 0),.int .i64 0,.int .i64 0]] [] [] 0 0 0)
def XL (p1:Int)(p2:Pos)(p3:Mv):(Int×Bool×Pos)→Out:=fun y=>.exit 0 (St.mk (an 3 (.int .i64 p1::.any::.ptr 1 0::.ptr 2 0::.any::.ptr 3 0::.int .u8 y.1::(an 24 (.bool y.2.1::(an 68 []))))) (Hp.mk [(pc p2 []),(pc y.2.2 []),[.int .i8 p3.aD,.int .i8 p3.to,.int .u8 p3.bU,.int .u8 p3.bh,.bool p3.bZ],[.int .u8 0,.ints .u8 64 (List.replicate 64 0),.u64 0,.ints .u8 12 (List.replicate 12 0),.int .u8 0,.ints .i8 4 (List.replicate 4 0),.int .i8 0,.ints .u8 2 (List.replicate 2 0),.int .i64 0,.int .i64 0]] [] [] 0 0 0))
def Of (p1:Int)(p2:Pos)(p3:Mv)(x:(Int×Pos)):aG (Int×Pos) ((Int×Bool×Pos)):=(bif decide (x.1<2)then(aG.go (wr .u8 (x.1+1),((uh p1 x.1 (wr .i64 (56*wr .i64 x.1)) (cE x.2 x.1 6) p2 p3 (0,x.2)).getD default).2.2))else(aG.out ((x.1,decide (x.1<2),x.2))))
def GZ (p1:Int)(p2:Pos)(p3:Mv)(x:(Int×Pos)):Bool:=(bif decide (x.1<2)then(vr (x.2) (x.1) 6&&((uh p1 x.1 (wr .i64 (56*wr .i64 x.1)) (cE x.2 x.1 6) p2 p3 (0,x.2)).isSome&&true))else true)
def mT (p1:Int)(p2:Pos)(p3:Mv)(x:(Int×Pos)):Option ((Int×Bool×Pos)):=cW (fun x=>bif GZ p1 p2 p3 x then Of p1 p2 p3 x else .bad) many x
abbrev XJ {α:Type}(k:Int→Pos→Mv→(Int×Pos)→α)(s:St):α:=wP s 0 fun q0=>wP s 1 fun q1=>wM s 2 fun q2=>k (tI (tT s 3)) q0 q2 ((tI (tT s 9)),q1)
theorem aeZ (p1:Int)(p2:Pos)(p3:Mv)(x:(Int×Pos))(r:(Int×Bool×Pos))(h:mT p1 p2 p3 x=some r):aC Pz (bc Pz 90 4) (Ww p1 p2 p3 x) (XL p1 p2 p3 r):=smq (m:=12) (fn:=90) Y3 (XJ fun _ _ _ x=>some x) (fun o=>match o with | .exit 0 s=>wP s 1 fun q1=>some ((tI (tT s 9)),(tB (tT s 34)),q1)|_=>none) many x r h
def XK (b:Code)(s:St):Tr Out:=XJ (fun p1 p2 p3 x=>jS b (bc Pz 90 4) s (Ww p1 p2 p3 x) (mT p1 p2 p3 x) (XL p1 p2 p3)) s
theorem aaz:∀b,aT Pz b (XK b):=fun _ _ _ h=>bF (aeZ _ _ _ _) h
def B90:ar:=bO Pz K90 [(82,nP),(150,As),(152,pZ)] [(90,9,Q7),(90,4,XK)] []
theorem asE:aO B90:=af ae ⟨nZ,C5,rj,trivial⟩ ⟨M6,aaz,trivial⟩ trivial
def Ro (a:Pos)(b:Pos)(c:Mv)(d:Int):Pos:=let z1:=((mT d a c (0,u32 b (List.take (scale 2 a.aa).toNat b.ao++((List.replicate 2 0).set 0 (-1)).set 1 (-1)++List.drop ((scale 2 a.aa).toNat+2) b.ao))).getD default);let z2:=((mT d a c (0,b)).getD default);let z3:=z2.2.2; (bif c.bh==0 then(bif bE (a.ab.getD (scale 1 c.aD).toNat 0)==6 then z1.2.2 else z3)else z3)
def I6 (a:Pos)(b:Pos)(c:Mv)(d:Int):Bool:=let z1:=((mT d a c (0,b)).isSome&&true); (bif c.bh==0 then(decide (0≤c.aD)&&decide (c.aD<Int.ofNat 64)&&(bif bE (a.ab.getD (scale 1 c.aD).toNat 0)==6 then(decide (0≤a.aa)&&decide (a.aa<Int.ofNat 2)&&((mT d a c (0,u32 b (List.take (scale 2 a.aa).toNat b.ao++((List.replicate 2 0).set 0 (-1)).set 1 (-1)++List.drop ((scale 2 a.aa).toNat+2) b.ao))).isSome&&true))else z1))else z1)
theorem P90 (a:Pos)(b:Pos)(c:Mv)(d:Int)(h:I6 a b c d=true):PS Pz 90 [Pos.av a,Pos.av b,Mv.av c,.int .i64 d] (aZ.res (Ro a b c d)):=pq14 asE h
def G90:GT:=g4 aZ aZ rJ (dI .i64) (fun a b c d=>b7 (I6 a b c d) (aZ.res (Ro a b c d)))
theorem s90:Sound Pz 90 G90:=EC fun a b c d=>aA (P90 a b c d)
def K91:KT:=[(91,69,[(0,(3::4::5::14::15::(rn 18 7 (rn 41 5 (rn 58 6 []))))),(1,(3::4::5::25::(rn 41 5 (rn 58 6 [])))),(2,[6]),(3,(3::4::5::7::(rn 41 5 (rn 58 6 [])))),(4,(3::4::5::7::8::(rn 41 5 (rn 58 6 [])))),(5,(3::4::7::8::46::(rn 58 6 []))),(6,[6]),(7,(3::4::7::8::9::(rn 58 6 []))),(8,(3::4::7::8::9::48::(rn 58 6 []))),(9,(3::4::7::8::9::(rn 58 6 []))),(10,(3::4::7::8::9::(rn 58 7 []))),(11,[6]),(12,[6])])]
def aeJ:ar:=bO Pz K91 [(82,nP),(98,G98),(152,pZ),(154,FB),(94,Th)] [] []
theorem aal:aO aeJ:=af ae ⟨nZ,s98,rj,Ix,VE,trivial⟩ trivial trivial
def Wm (p1:Int)(p2:Int)(p3:Pos)(p4:Pos)(p5:Mv)(x:(Int)):St:=St.mk (an 3 (.ptr 0 0::.ptr 1 0::.any::.any::.int .i64 p1::.int .i64 p2::.int .i64 x::(an 59 []))) (Hp.mk [(pc p3 []),(pc p4 []),[.int .i8 p5.aD,.int .i8 p5.to,.int .u8 p5.bU,.int .u8 p5.bh,.bool p5.bZ]] [] [] 0 0 0)
def Wn (p1:Int)(p2:Int)(p3:Pos)(p4:Pos)(p5:Mv):Unit ⊕ (Int×Bool)→Out
 |(.inl (y))=>.ret (St.mk (an 6 (AV.int .i8 (wr .i8 (wr .i64 (p2+p1)))::(an 62 []))) (Hp.mk [(pc p3 []),(pc p4 []),[AV.int .i8 p5.aD,AV.int .i8 p5.to,AV.int .u8 p5.bU,AV.int .u8 p5.bh,AV.bool p5.bZ]] [] [] 0 0 0))
 |(.inr (y))=>.exit 0 (St.mk (an 3 (AV.ptr 0 0::AV.ptr 1 0::AV.any::AV.any::AV.int .i64 p1::AV.int .i64 p2::AV.int .i64 y.1::(an 38 (AV.bool y.2::(an 20 []))))) (Hp.mk [(pc p3 []),(pc p4 []),[AV.int .i8 p5.aD,AV.int .i8 p5.to,AV.int .u8 p5.bU,AV.int .u8 p5.bh,AV.bool p5.bZ]] [] [] 0 0 0))
def L6 (p1:Int)(p2:Int)(p3:Pos)(p4:Pos)(p5:Mv)(x:(Int)):aG (Int) (Unit ⊕ (Int×Bool)):=(bif decide (x<64)then(bif rY p4 x (wr .u8 (1-p3.aa)) 1 then(bif oI p4 x (wr .i64 (p2+p1))then(aG.out (.inl (())))else(aG.go (wr .i64 (x+1))))else(aG.go (wr .i64 (x+1))))else(aG.out (.inr ((x,decide (x<64))))))
def Gb (p1:Int)(p2:Int)(p3:Pos)(p4:Pos)(p5:Mv)(x:(Int)):Bool:=(bif decide (x<64)then(od p4 x (wr .u8 (1-p3.aa)) 1&&(bif rY p4 x (wr .u8 (1-p3.aa)) 1 then(pO p4 x (wr .i64 (p2+p1))&&true)else true))else true)
def rA (p1:Int)(p2:Int)(p3:Pos)(p4:Pos)(p5:Mv)(x:(Int)):Option (Unit ⊕ (Int×Bool)):=cW (fun x=>bif Gb p1 p2 p3 p4 p5 x then L6 p1 p2 p3 p4 p5 x else .bad) many x
abbrev VP {α:Type}(k:Int→Int→Pos→Pos→Mv→(Int)→α)(s:St):α:=wP s 0 fun q0=>wP s 1 fun q1=>wM s 2 fun q2=>k (tI (tT s 7)) (tI (tT s 8)) q0 q1 q2 ((tI (tT s 9)))
theorem aeS (p1:Int)(p2:Int)(p3:Pos)(p4:Pos)(p5:Mv)(x:(Int))(r:Unit ⊕ (Int×Bool))(h:rA p1 p2 p3 p4 p5 x=some r):aC Pz (bc Pz 91 8) (Wm p1 p2 p3 p4 p5 x) (Wn p1 p2 p3 p4 p5 r):=aC.Be (m:=12) (fn:=91) aal (VP fun _ _ _ _ _ x=>some x) (fun o=>match o with | .ret s=>some (.inl ()) | .exit 0 s=>some (.inr ((tI (tT s 9)),(tB (tT s 48))))|_=>none) (fun r=>by cases r<;>rfl) (fun _=>by kernel_rfl) (fun _=>by kernel_rfl) (fun _=>by kernel_rfl) (fun _=>by kernel_rfl) many x r h
def WX (b:Code)(s:St):Tr Out:=VP (fun p1 p2 p3 p4 p5 x=>Bg b (bc Pz 91 8) s (Wm p1 p2 p3 p4 p5 x) (rA p1 p2 p3 p4 p5 x) (Wn p1 p2 p3 p4 p5)) s
theorem Yl:∀b,aT Pz b (WX b):=fun _ _ _ h=>fj (aeS _ _ _ _ _ _) h
def B91:ar:=bO Pz K91 [(82,nP),(98,G98),(152,pZ),(154,FB),(94,Th)] [(91,8,WX)] []
theorem ang:aO B91:=af ae ⟨nZ,s98,rj,Ix,VE,trivial⟩ ⟨Yl,trivial⟩ trivial
def fo (a:Pos)(b:Pos)(c:Mv):Int:=(bif c.bh != 0 then(-1)else(bif c.bZ then(-1)else(bif bE (a.ab.getD (scale 1 c.aD).toNat 0) != 1 then(-1)else(bif wr .i64 c.to != wr .i64 (wr .i64 c.aD+wr .i64 (2*iG a.aa))then(-1)else(bif xb a.aa (wr .i64 c.aD) != 1 then(-1)else(bif cQ ((rA (iG a.aa) (wr .i64 c.aD) a b c 0).getD default)then(wr .i8 (wr .i64 (wr .i64 c.aD+iG a.aa)))else(-1)))))))
def Js (a:Pos)(b:Pos)(c:Mv):Bool:=(bif c.bh != 0 then true else(bif c.bZ then true else(decide (0≤c.aD)&&decide (c.aD<Int.ofNat 64)&&(bif bE (a.ab.getD (scale 1 c.aD).toNat 0) != 1 then true else(bif wr .i64 c.to != wr .i64 (wr .i64 c.aD+wr .i64 (2*iG a.aa))then true else(bif xb a.aa (wr .i64 c.aD) != 1 then true else((rA (iG a.aa) (wr .i64 c.aD) a b c 0).isSome&&bif cQ ((rA (iG a.aa) (wr .i64 c.aD) a b c 0).getD default)then true else true)))))))
theorem P91 (a:Pos)(b:Pos)(c:Mv)(h:Js a b c=true):PS Pz 91 [Pos.av a,Pos.av b,Mv.av c] ((dI .i8).res (fo a b c)):=pq14 ang h
def G91:GT:=g3 aZ aZ rJ (fun a b c=>b7 (Js a b c) ((dI .i8).res (fo a b c)))
theorem s91:Sound Pz 91 G91:=dc fun a b c=>aA (P91 a b c)
def K92:KT:=[(92,8,[(0,[0]),(1,[0,4]),(2,[2]),(3,[2])])]
def B92:ar:=bO Pz K92 [] [] []
theorem apS:aO B92:=af ae trivial trivial trivial
def fi (a:Int):Int:=(bif decide (a≥10000)then(a)else(wr .i64 (a+1)))
def aqi (a:Int):Bool:=true
theorem P92 (a:Int)(h:aqi a=true):PS Pz 92 [.int .i64 a] ((dI .i64).res (fi a)):=pq14 apS h
def G92:GT:=g1 (dI .i64) (fun a=>.ret ((dI .i64).res (fi a)))
theorem s92:Sound Pz 92 G92:=aH fun a=>bH (P92 a rfl)
def K36:KT:=[(36,118,[(0,(2::3::4::26::27::(rn 58 12 (77::78::(rn 96 6 (rn 104 4 [])))))),(1,(rn 2 4 (26::27::(rn 58 12 (77::78::(rn 96 6 (rn 104 4 []))))))),(2,(rn 2 5 (26::27::(rn 58 12 (77::78::(rn 96 6 (rn 104 4 []))))))),(3,(rn 2 5 (26::27::(rn 58 12 (77::78::(rn 96 6 (rn 104 4 []))))))),(4,(rn 2 5 (28::(rn 58 12 (77::78::(rn 96 6 (rn 104 4 []))))))),(5,(rn 2 6 (rn 58 12 (77::78::(rn 96 6 (rn 104 4 [])))))),(6,(rn 2 7 (rn 58 12 (77::78::(rn 96 6 (rn 104 4 [])))))),(7,(rn 2 7 (35::(rn 58 12 (77::78::(rn 96 6 (rn 104 4 []))))))),(8,(rn 2 7 (rn 58 12 (77::78::(rn 96 6 (rn 104 4 [])))))),(9,(rn 2 7 (40::(rn 58 12 (77::78::(rn 96 6 (rn 104 4 []))))))),(10,(rn 2 7 (rn 58 12 (77::78::(rn 96 6 (rn 104 4 [])))))),(11,(rn 2 5 (rn 58 12 (77::78::(rn 96 6 (rn 104 4 [])))))),(12,(rn 2 5 (rn 58 12 (77::78::(rn 96 6 (rn 104 4 [])))))),(13,(2::4::5::6::9::77::78::(rn 96 6 (rn 104 4 [])))),(14,(2::4::5::6::9::77::78::(rn 96 6 (rn 104 4 [])))),(15,(2::4::6::79::(rn 96 6 (rn 104 4 [])))),(16,(2::4::6::(rn 96 6 (rn 104 4 [])))),(17,(2::4::6::83::(rn 96 6 (rn 104 4 [])))),(18,(2::4::6::(rn 96 6 (rn 104 4 [])))),(19,(2::4::6::(rn 96 6 (rn 104 4 [])))),(20,[2,4,6,108]),(21,[4,6]),(22,[4])])]
def ag9:ar:=bO Pz K36 [(33,G33),(39,Se),(82,nP),(86,G86),(87,G87),(88,G88),(89,G89),(90,G90),(91,G91),(92,G92)] [] []
theorem abI:aO ag9:=af ae ⟨s33,VT,nZ,s86,s87,s88,s89,s90,s91,s92,trivial⟩ trivial trivial
def VQ (p1:Int)(p2:(BitVec 64))(p3:Pos)(p4:Mv)(x:(Int×Pos)):St:=St.mk (.any::.any::.ptr 0 0::.ptr 1 0::.ptr 2 0::.int .i64 p1::.ptr 3 0::.u64 p2::.int .i64 x.1::(an 49 (.undef::.undef::.undef::.undef::.undef::.undef::.undef::.undef::.undef::.undef::.undef::.undef::(an 7 (.undef::.undef::(an 17 (.undef::.undef::.undef::.undef::.undef::.undef::.any::.any::.undef::.undef::.undef::.undef::(an 10 [])))))))) (Hp.mk [(pc p3 []),[.int .i8 p4.aD,.int .i8 p4.to,.int .u8 p4.bU,.int .u8 p4.bh,.bool p4.bZ],zpB,(pc x.2 [])] [] [] 0 0 0)
def VJ (p1:Int)(p2:(BitVec 64))(p3:Pos)(p4:Mv):(Int×Bool×Pos)→Out:=fun y=>.exit 0 (St.mk (.any::.any::.ptr 0 0::.ptr 1 0::.ptr 2 0::.int .i64 p1::.ptr 3 0::.u64 p2::.int .i64 y.1::(an 26 (.bool y.2.1::(an 22 (.undef::.undef::.undef::.undef::.undef::.undef::.undef::.undef::.undef::.undef::.undef::.undef::(an 7 (.undef::.undef::(an 17 (.undef::.undef::.undef::.undef::.undef::.undef::.any::.any::.undef::.undef::.undef::.undef::(an 10 [])))))))))) (Hp.mk [(pc p3 []),[.int .i8 p4.aD,.int .i8 p4.to,.int .u8 p4.bU,.int .u8 p4.bh,.bool p4.bZ],zpB,(pc y.2.2 [])] [] [] 0 0 0))
def LY (p1:Int)(p2:(BitVec 64))(p3:Pos)(p4:Mv)(x:(Int×Pos)):aG (Int×Pos) ((Int×Bool×Pos)):=(bif decide (x.1<64)then(bif Ep p2 x.1 then(aG.go (wr .i64 (x.1+1),u2 x.2 (x.2.ab.set (scale 1 x.1).toNat 0)))else(aG.go (wr .i64 (x.1+1),x.2)))else(aG.out ((x.1,decide (x.1<64),x.2))))
def Hg (p1:Int)(p2:(BitVec 64))(p3:Pos)(p4:Mv)(x:(Int×Pos)):Bool:=(bif decide (x.1<64)then(bif Ep p2 x.1 then(decide (0≤x.1)&&decide (x.1<Int.ofNat 64)&&true)else true)else true)
def mU (p1:Int)(p2:(BitVec 64))(p3:Pos)(p4:Mv)(x:(Int×Pos)):Option ((Int×Bool×Pos)):=cW (fun x=>bif Hg p1 p2 p3 p4 x then LY p1 p2 p3 p4 x else .bad) many x
abbrev Vv {α:Type}(k:Int→(BitVec 64)→Pos→Mv→(Int×Pos)→α)(s:St):α:=wP s 0 fun q0=>wP s 3 fun q3=>wM s 1 fun q1=>k (tI (tT s 5)) (tU (tT s 7)) q0 q1 ((tI (tT s 8)),q3)
theorem agF (p1:Int)(p2:(BitVec 64))(p3:Pos)(p4:Mv)(x:(Int×Pos))(r:(Int×Bool×Pos))(h:mU p1 p2 p3 p4 x=some r):aC Pz (bc Pz 36 7) (VQ p1 p2 p3 p4 x) (VJ p1 p2 p3 p4 r):=smq (m:=12) (fn:=36) abI (Vv fun _ _ _ _ x=>some x) (fun o=>match o with | .exit 0 s=>wP s 3 fun q3=>some ((tI (tT s 8)),(tB (tT s 35)),q3)|_=>none) many x r h
def Vq (b:Code)(s:St):Tr Out:=Vv (fun p1 p2 p3 p4 x=>jS b (bc Pz 36 7) s (VQ p1 p2 p3 p4 x) (mU p1 p2 p3 p4 x) (VJ p1 p2 p3 p4)) s
theorem abi:∀b,aT Pz b (Vq b):=fun _ _ _ h=>bF (agF _ _ _ _ _) h
def B36:ar:=bO Pz K36 [(33,G33),(39,Se),(82,nP),(86,G86),(87,G87),(88,G88),(89,G89),(90,G90),(91,G91),(92,G92)] [(36,7,Vq)] []
theorem amT:aO B36:=af ae ⟨s33,VT,nZ,s86,s87,s88,s89,s90,s91,s92,trivial⟩ ⟨abi,trivial⟩ trivial
def yB (a:Pos)(b:Mv):Pos:=let z1:=(Ro a ((mU (iq a b) (Rc (BN a (Bq a b (iq a b)) b (iq a b)) (wr .i64 b.to)) a b (0,BN a (Bq a b (iq a b)) b (iq a b))).getD default).2.2 b (iq a b));let z2:=(Ro a (BN a (Bq a b (iq a b)) b (iq a b)) b (iq a b));let z3:=(bif a.aa==1 then(bif z2.variant==5 then(bif decide (z2.au.getD (scale 1 a.aa).toNat 0<3)then(bif oH (iJ z2 (wr .u8 (1-a.aa)) (fo a z2 b) 0 (fi a.full)) (wr .u8 (1-a.aa))then(UR z2 (wr .u8 (1-a.aa)) (fo a z2 b) (z2.au.set (scale 1 a.aa).toNat (wr .u8 (z2.au.getD (scale 1 a.aa).toNat 0+1))) 0 (fi a.full))else(iJ z2 (wr .u8 (1-a.aa)) (fo a z2 b) 0 (fi a.full)))else(iJ z2 (wr .u8 (1-a.aa)) (fo a z2 b) 0 (fi a.full)))else(iJ z2 (wr .u8 (1-a.aa)) (fo a z2 b) 0 (fi a.full)))else(bif z2.variant==5 then(bif decide (z2.au.getD (scale 1 a.aa).toNat 0<3)then(bif oH (iF z2 (wr .u8 (1-a.aa)) (fo a z2 b) 0) (wr .u8 (1-a.aa))then(SY z2 (wr .u8 (1-a.aa)) (fo a z2 b) (z2.au.set (scale 1 a.aa).toNat (wr .u8 (z2.au.getD (scale 1 a.aa).toNat 0+1))) 0)else(iF z2 (wr .u8 (1-a.aa)) (fo a z2 b) 0))else(iF z2 (wr .u8 (1-a.aa)) (fo a z2 b) 0))else(iF z2 (wr .u8 (1-a.aa)) (fo a z2 b) 0)));let z4:=(bif decide (iq a b≥0)then z3 else(bif a.aa==1 then(bif z2.variant==5 then(bif decide (z2.au.getD (scale 1 a.aa).toNat 0<3)then(bif oH (iJ z2 (wr .u8 (1-a.aa)) (fo a z2 b) (fi a.half) (fi a.full)) (wr .u8 (1-a.aa))then(UR z2 (wr .u8 (1-a.aa)) (fo a z2 b) (z2.au.set (scale 1 a.aa).toNat (wr .u8 (z2.au.getD (scale 1 a.aa).toNat 0+1))) (fi a.half) (fi a.full))else(iJ z2 (wr .u8 (1-a.aa)) (fo a z2 b) (fi a.half) (fi a.full)))else(iJ z2 (wr .u8 (1-a.aa)) (fo a z2 b) (fi a.half) (fi a.full)))else(iJ z2 (wr .u8 (1-a.aa)) (fo a z2 b) (fi a.half) (fi a.full)))else(bif z2.variant==5 then(bif decide (z2.au.getD (scale 1 a.aa).toNat 0<3)then(bif oH (iF z2 (wr .u8 (1-a.aa)) (fo a z2 b) (fi a.half)) (wr .u8 (1-a.aa))then(SY z2 (wr .u8 (1-a.aa)) (fo a z2 b) (z2.au.set (scale 1 a.aa).toNat (wr .u8 (z2.au.getD (scale 1 a.aa).toNat 0+1))) (fi a.half))else(iF z2 (wr .u8 (1-a.aa)) (fo a z2 b) (fi a.half)))else(iF z2 (wr .u8 (1-a.aa)) (fo a z2 b) (fi a.half)))else(iF z2 (wr .u8 (1-a.aa)) (fo a z2 b) (fi a.half)))));let z5:=(bif a.aa==1 then(bif z1.variant==5 then(bif decide (z1.au.getD (scale 1 a.aa).toNat 0<3)then(bif oH (iJ z1 (wr .u8 (1-a.aa)) (fo a z1 b) 0 (fi a.full)) (wr .u8 (1-a.aa))then(UR z1 (wr .u8 (1-a.aa)) (fo a z1 b) (z1.au.set (scale 1 a.aa).toNat (wr .u8 (z1.au.getD (scale 1 a.aa).toNat 0+1))) 0 (fi a.full))else(iJ z1 (wr .u8 (1-a.aa)) (fo a z1 b) 0 (fi a.full)))else(iJ z1 (wr .u8 (1-a.aa)) (fo a z1 b) 0 (fi a.full)))else(iJ z1 (wr .u8 (1-a.aa)) (fo a z1 b) 0 (fi a.full)))else(bif z1.variant==5 then(bif decide (z1.au.getD (scale 1 a.aa).toNat 0<3)then(bif oH (iF z1 (wr .u8 (1-a.aa)) (fo a z1 b) 0) (wr .u8 (1-a.aa))then(SY z1 (wr .u8 (1-a.aa)) (fo a z1 b) (z1.au.set (scale 1 a.aa).toNat (wr .u8 (z1.au.getD (scale 1 a.aa).toNat 0+1))) 0)else(iF z1 (wr .u8 (1-a.aa)) (fo a z1 b) 0))else(iF z1 (wr .u8 (1-a.aa)) (fo a z1 b) 0))else(iF z1 (wr .u8 (1-a.aa)) (fo a z1 b) 0)));let z6:=(bif decide (iq a b≥0)then z5 else(bif a.aa==1 then(bif z1.variant==5 then(bif decide (z1.au.getD (scale 1 a.aa).toNat 0<3)then(bif oH (iJ z1 (wr .u8 (1-a.aa)) (fo a z1 b) (fi a.half) (fi a.full)) (wr .u8 (1-a.aa))then(UR z1 (wr .u8 (1-a.aa)) (fo a z1 b) (z1.au.set (scale 1 a.aa).toNat (wr .u8 (z1.au.getD (scale 1 a.aa).toNat 0+1))) (fi a.half) (fi a.full))else(iJ z1 (wr .u8 (1-a.aa)) (fo a z1 b) (fi a.half) (fi a.full)))else(iJ z1 (wr .u8 (1-a.aa)) (fo a z1 b) (fi a.half) (fi a.full)))else(iJ z1 (wr .u8 (1-a.aa)) (fo a z1 b) (fi a.half) (fi a.full)))else(bif z1.variant==5 then(bif decide (z1.au.getD (scale 1 a.aa).toNat 0<3)then(bif oH (iF z1 (wr .u8 (1-a.aa)) (fo a z1 b) (fi a.half)) (wr .u8 (1-a.aa))then(SY z1 (wr .u8 (1-a.aa)) (fo a z1 b) (z1.au.set (scale 1 a.aa).toNat (wr .u8 (z1.au.getD (scale 1 a.aa).toNat 0+1))) (fi a.half))else(iF z1 (wr .u8 (1-a.aa)) (fo a z1 b) (fi a.half)))else(iF z1 (wr .u8 (1-a.aa)) (fo a z1 b) (fi a.half)))else(iF z1 (wr .u8 (1-a.aa)) (fo a z1 b) (fi a.half)))));let z7:=(bif b.bh==1 then z3 else(bif b.bh==0 then(bif bE (a.ab.getD (scale 1 b.aD).toNat 0)==1 then z3 else z4)else z4)); (bif a.variant==3 then(bif decide (iq a b≥0)then(bif b.bh==1 then z5 else(bif b.bh==0 then(bif bE (a.ab.getD (scale 1 b.aD).toNat 0)==1 then z5 else z6)else z6))else z7)else z7)
def Jq (a:Pos)(b:Mv):Bool:=let z2:=(Ro a (BN a (Bq a b (iq a b)) b (iq a b)) b (iq a b));let z3:=(bif a.aa==1 then(bif z2.variant==5 then(decide (0≤a.aa)&&decide (a.aa<Int.ofNat 2)&&(bif decide (z2.au.getD (scale 1 a.aa).toNat 0<3)then(jN (iJ z2 (wr .u8 (1-a.aa)) (fo a z2 b) 0 (fi a.full)) (wr .u8 (1-a.aa))&&(bif oH (iJ z2 (wr .u8 (1-a.aa)) (fo a z2 b) 0 (fi a.full)) (wr .u8 (1-a.aa))then(decide (0≤a.aa)&&decide (a.aa<Int.ofNat 2)&&(decide (0≤a.aa)&&decide (a.aa<Int.ofNat 2)&&true))else true))else true))else true)else(bif z2.variant==5 then(decide (0≤a.aa)&&decide (a.aa<Int.ofNat 2)&&(bif decide (z2.au.getD (scale 1 a.aa).toNat 0<3)then(jN (iF z2 (wr .u8 (1-a.aa)) (fo a z2 b) 0) (wr .u8 (1-a.aa))&&(bif oH (iF z2 (wr .u8 (1-a.aa)) (fo a z2 b) 0) (wr .u8 (1-a.aa))then(decide (0≤a.aa)&&decide (a.aa<Int.ofNat 2)&&(decide (0≤a.aa)&&decide (a.aa<Int.ofNat 2)&&true))else true))else true))else true));let z4:=(bif decide (iq a b≥0)then z3 else(bif a.aa==1 then(bif z2.variant==5 then(decide (0≤a.aa)&&decide (a.aa<Int.ofNat 2)&&(bif decide (z2.au.getD (scale 1 a.aa).toNat 0<3)then(jN (iJ z2 (wr .u8 (1-a.aa)) (fo a z2 b) (fi a.half) (fi a.full)) (wr .u8 (1-a.aa))&&(bif oH (iJ z2 (wr .u8 (1-a.aa)) (fo a z2 b) (fi a.half) (fi a.full)) (wr .u8 (1-a.aa))then(decide (0≤a.aa)&&decide (a.aa<Int.ofNat 2)&&(decide (0≤a.aa)&&decide (a.aa<Int.ofNat 2)&&true))else true))else true))else true)else(bif z2.variant==5 then(decide (0≤a.aa)&&decide (a.aa<Int.ofNat 2)&&(bif decide (z2.au.getD (scale 1 a.aa).toNat 0<3)then(jN (iF z2 (wr .u8 (1-a.aa)) (fo a z2 b) (fi a.half)) (wr .u8 (1-a.aa))&&(bif oH (iF z2 (wr .u8 (1-a.aa)) (fo a z2 b) (fi a.half)) (wr .u8 (1-a.aa))then(decide (0≤a.aa)&&decide (a.aa<Int.ofNat 2)&&(decide (0≤a.aa)&&decide (a.aa<Int.ofNat 2)&&true))else true))else true))else true)));let z7:=(I6 a (BN a (Bq a b (iq a b)) b (iq a b)) b (iq a b)&&(Js a z2 b&&(bif b.bh==1 then z3 else(bif b.bh==0 then(decide (0≤b.aD)&&decide (b.aD<Int.ofNat 64)&&(bif bE (a.ab.getD (scale 1 b.aD).toNat 0)==1 then z3 else z4))else z4))));let z8:=(mU (iq a b) (Rc (BN a (Bq a b (iq a b)) b (iq a b)) (wr .i64 b.to)) a b (0,BN a (Bq a b (iq a b)) b (iq a b)));let z1:=(Ro a (z8.getD default).2.2 b (iq a b));let z5:=(bif a.aa==1 then(bif z1.variant==5 then(decide (0≤a.aa)&&decide (a.aa<Int.ofNat 2)&&(bif decide (z1.au.getD (scale 1 a.aa).toNat 0<3)then(jN (iJ z1 (wr .u8 (1-a.aa)) (fo a z1 b) 0 (fi a.full)) (wr .u8 (1-a.aa))&&(bif oH (iJ z1 (wr .u8 (1-a.aa)) (fo a z1 b) 0 (fi a.full)) (wr .u8 (1-a.aa))then(decide (0≤a.aa)&&decide (a.aa<Int.ofNat 2)&&(decide (0≤a.aa)&&decide (a.aa<Int.ofNat 2)&&true))else true))else true))else true)else(bif z1.variant==5 then(decide (0≤a.aa)&&decide (a.aa<Int.ofNat 2)&&(bif decide (z1.au.getD (scale 1 a.aa).toNat 0<3)then(jN (iF z1 (wr .u8 (1-a.aa)) (fo a z1 b) 0) (wr .u8 (1-a.aa))&&(bif oH (iF z1 (wr .u8 (1-a.aa)) (fo a z1 b) 0) (wr .u8 (1-a.aa))then(decide (0≤a.aa)&&decide (a.aa<Int.ofNat 2)&&(decide (0≤a.aa)&&decide (a.aa<Int.ofNat 2)&&true))else true))else true))else true));let z6:=(bif decide (iq a b≥0)then z5 else(bif a.aa==1 then(bif z1.variant==5 then(decide (0≤a.aa)&&decide (a.aa<Int.ofNat 2)&&(bif decide (z1.au.getD (scale 1 a.aa).toNat 0<3)then(jN (iJ z1 (wr .u8 (1-a.aa)) (fo a z1 b) (fi a.half) (fi a.full)) (wr .u8 (1-a.aa))&&(bif oH (iJ z1 (wr .u8 (1-a.aa)) (fo a z1 b) (fi a.half) (fi a.full)) (wr .u8 (1-a.aa))then(decide (0≤a.aa)&&decide (a.aa<Int.ofNat 2)&&(decide (0≤a.aa)&&decide (a.aa<Int.ofNat 2)&&true))else true))else true))else true)else(bif z1.variant==5 then(decide (0≤a.aa)&&decide (a.aa<Int.ofNat 2)&&(bif decide (z1.au.getD (scale 1 a.aa).toNat 0<3)then(jN (iF z1 (wr .u8 (1-a.aa)) (fo a z1 b) (fi a.half)) (wr .u8 (1-a.aa))&&(bif oH (iF z1 (wr .u8 (1-a.aa)) (fo a z1 b) (fi a.half)) (wr .u8 (1-a.aa))then(decide (0≤a.aa)&&decide (a.aa<Int.ofNat 2)&&(decide (0≤a.aa)&&decide (a.aa<Int.ofNat 2)&&true))else true))else true))else true))); (nN a b&&(Cr a b (iq a b)&&(zN a (Bq a b (iq a b)) b (iq a b)&&(bif a.variant==3 then(bif decide (iq a b≥0)then(Ow (BN a (Bq a b (iq a b)) b (iq a b)) (wr .i64 b.to)&&(z8.isSome&&(I6 a ((z8.getD default).2.2) b (iq a b)&&(Js a z1 b&&(bif b.bh==1 then z5 else(bif b.bh==0 then(decide (0≤b.aD)&&decide (b.aD<Int.ofNat 64)&&(bif bE (a.ab.getD (scale 1 b.aD).toNat 0)==1 then z5 else z6))else z6))))))else z7)else z7))))
theorem P36 (a:Pos)(b:Mv)(h:Jq a b=true):PS Pz 36 [Pos.av a,Mv.av b] (aZ.res (yB a b)):=pq14 amT h
def G36:GT:=g2 aZ rJ (fun a b=>b7 (Jq a b) (aZ.res (yB a b)))
theorem s36:Sound Pz 36 G36:=aP fun a b=>aA (P36 a b)
end Kz
namespace Kz
open Go Go.RowKit
theorem hM {p:Pos}(hp:ax p)(ht:p.aa≤1):∃t:Nat,p.aa=t∧t≤1:=by have t0:=hp.t0;obtain⟨t,h⟩:=Int.eq_ofNat_of_zero_le t0;grind
theorem n140 {t:Nat}(ht:t≤1):cC (t:Int)=((56*t:Nat):Int):=by rw[pB (by omega) (by omega)];omega
theorem Ji {p:Pos}(hp:ax p){t:Nat}(hpt:p.aa=t)(ht:t≤1){b c:Int}:(cD p b c).2=true→∃f:Nat,f≤7∧(cD p b c).1=((56*t+f:Nat):Int)∧((56*t+f:Nat):Int)≠b:=by
 have hr:=dm (d:=0) hp.r0 (by omega) (scale 2 p.aa+scale 1 c).toNat;unfold cD;rw[hpt]at hr⊢;rw[n140 ht];generalize p.ao.getD (scale 2 (t:Int)+scale 1 c).toNat 0=f at hr⊢;rw[aF (n:=f) (by omega) (by omega),aF (n:=((56*t:Nat):Int)+f) (by omega) (by omega)];refine al (P:=fun x:Int×Bool=>x.2=true→∃f:Nat,f≤7∧x.1=((56*t+f:Nat):Int)∧((56*t+f:Nat):Int)≠b) (fun _ h=>by cases h) fun h1=>al (P:=fun x:Int×Bool=>x.2=true→∃f:Nat,f≤7∧x.1=((56*t+f:Nat):Int)∧((56*t+f:Nat):Int)≠b) (fun _ h=>by cases h) fun h2=>al (P:=fun x:Int×Bool=>x.2=true→∃f:Nat,f≤7∧x.1=((56*t+f:Nat):Int)∧((56*t+f:Nat):Int)≠b) (fun _=>?_) fun _ h=>by cases h
 have h1:¬f<0:=by simpa using h1
 have h2:¬f>7:=by simpa using h2
 refine al (P:=fun x:Int×Bool=>x.2=true→∃f:Nat,f≤7∧x.1=((56*t+f:Nat):Int)∧((56*t+f:Nat):Int)≠b) (fun _ h=>?_) fun _ h=>by cases h
 have h:(((56*t:Nat):Int)+f != b)=true:=h;rw[bne_iff_ne]at h;exact⟨f.toNat,by omega,by omega,by omega⟩
theorem sv {p:Pos}(hp:ax p){t:Nat}(hpt:p.aa=t)(ht:t≤1){m:Mv}(h:m∈fc p):∃k r:Nat,m.aD=k∧m.to=r∧56*t≤k∧k≤56*t+7∧56*t≤r∧r≤56*t+7∧k≠r:=by
 revert h;unfold fc;have hk:=fH p p.aa 6;have ht1:p.aa≤1:=by omega
 refine al (P:=fun l:M'=>m∈l→_) (fun _ h=>by cases h) fun _=>?_;refine al (P:=fun l:M'=>m∈l→_) (fun _ h=>by cases h) fun _=>al (P:=fun l:M'=>m∈l→_) (fun _ h=>by cases h) fun hk0=>al (P:=fun l:M'=>m∈l→_) (fun _ h=>by cases h) fun hh=>?_;have hk0:0≤bg p p.aa 6:=by simpa using hk0
 rw[hpt,n140 ht]at hh;rw[←hpt]at hh;obtain⟨k,hk'⟩:=Int.eq_ofNat_of_zero_le hk0;rw[hk',Int.tdiv_eq_ediv_of_nonneg (by omega),Int.tdiv_eq_ediv_of_nonneg (by omega),aF (by omega) (by omega),aF (by omega) (by omega),bne_eq_false_iff_eq]at hh;have key:∀c,(dJ p (bg p p.aa 6) c).2=true→m=(dJ p (bg p p.aa 6) c).1→∃k r:Nat,m.aD=k∧m.to=r∧56*t≤k∧k≤56*t+7∧56*t≤r∧r≤56*t+7∧k≠r:=by intro c h1 h2;obtain⟨a1,_,_,_,_,_,a7,a8⟩:=vX hp ht1 hk0 hk.2 h1;obtain⟨f,f7,e1,e2⟩:=Ji hp hpt ht a8;rw[←h2]at a1 a7;rw[a7,e1];exact⟨k,56*t+f,by rw[a1,hk'],rfl,by omega,by omega,by omega,by omega,by omega⟩
 refine al (P:=fun l:M'=>m∈l→_) (fun h1=>al (P:=fun l:M'=>m∈l→_) (fun h2 h=>?_) fun _ h=>?_) fun _=>al (P:=fun l:M'=>m∈l→_) (fun h2 h=>?_) fun _ h=>by cases h
 ·simp only[List.nil_append,List.mem_append,List.mem_singleton]at h;rcases h with h|h
  ·exact key _ h1 h
  ·exact key _ h2 h
 ·simp_all
 simp_all
theorem BK {p:Pos}{t:Nat}(hpt:p.aa=t)(ht:t≤1){m:Mv}(hc:m.bZ=true){k r:Nat}(hk:m.aD=k)(hr:m.to=r)(k0:56*t≤k)(k7:k≤56*t+7)(r0:56*t≤r)(r7:r≤56*t+7)(hkr:k≠r) :
  (gS p m).1=wr .i64 (wr .i64 (56*wr .i64 p.aa)+(ei (qV p m)).1)∧(gS p m).2.1=wr .i64 (wr .i64 (56*wr .i64 p.aa)+(ei (qV p m)).2)∧0≤(gS p m).1∧(gS p m).1<64∧0≤(gS p m).2.1∧(gS p m).2.1<64:=by
 have tw:wr .i64 (t:Int)=t:=aF (by omega) (by omega);have hb:=Il (p:=p) (by omega) (by omega) m;have e145:ie p m=if r>k then 0 else 1:=by
  unfold ie
  rw[hpt,hc,hk,hr,n140 ht,aF (n:=(k:Int)) (by omega) (by omega),aF (n:=(r:Int)) (by omega) (by omega),aF (n:=(k:Int)-((56*t:Nat):Int)) (by omega) (by omega),aF (n:=(r:Int)-((56*t:Nat):Int)) (by omega) (by omega),
   decide_eq_false (show ¬((t:Int)>1)by omega),beq_eq_false_iff_ne.2 (show(k:Int)≠r by omega),decide_eq_false (show ¬((k:Int)-((56*t:Nat):Int)<0)by omega),decide_eq_false (show ¬((k:Int)-((56*t:Nat):Int)>7)by omega),decide_eq_false (show ¬((r:Int)-((56*t:Nat):Int)<0)by omega),decide_eq_false (show ¬((r:Int)-((56*t:Nat):Int)>7)by omega)]
  by_cases h:r>k
  ·simp_all
  ·simp_all
 have e164:qV p m=if r>k then 0 else 1:=by
  have d1:(wr .i8 ((k:Int).tdiv 8) != wr .i8 (wr .u8 (7*(t:Int))))=false:=by rw[Int.tdiv_eq_ediv_of_nonneg (by omega),Kk (by omega) (by omega),kD (by omega) (by omega),Kk (by omega) (by omega),bne_eq_false_iff_eq];omega
  have d2:(wr .i8 ((r:Int).tdiv 8) != wr .i8 (wr .u8 (7*(t:Int))))=false:=by rw[Int.tdiv_eq_ediv_of_nonneg (by omega),Kk (by omega) (by omega),kD (by omega) (by omega),Kk (by omega) (by omega),bne_eq_false_iff_eq];omega
  unfold qV;rw[hpt,hc,hk,hr,d1,d2,decide_eq_false (show ¬((t:Int)>1)by omega),beq_eq_false_iff_ne.2 (show(k:Int)≠r by omega),decide_eq_false (show ¬((k:Int)<0)by omega),decide_eq_false (show ¬((k:Int)>63)by omega),decide_eq_false (show ¬((r:Int)<0)by omega),decide_eq_false (show ¬((r:Int)>63)by omega)];by_cases h:r>k
  ·simp_all
  ·simp_all
 have e':ie ⟨p.variant,p.ab,p.ai,p.ah,p.aa,p.ao,p.az,p.au,p.half,p.full⟩ ⟨m.aD,m.to,m.bU,m.bh,m.bZ⟩=ie p m:=rfl;have two:∀s:Int,s=0∨s=1→ie p m=s→(gS p m).1=wr .i64 (wr .i64 (56*wr .i64 p.aa)+(ei s).1)∧(gS p m).2.1=wr .i64 (wr .i64 (56*wr .i64 p.aa)+(ei s).2):=by intro s hs e;unfold gS;rw[e',e,hpt,n140 ht];rcases hs with rfl|rfl<;>rcases(show t=0∨t=1 by omega)with rfl|rfl<;>exact⟨by decide,by decide⟩
 grind
theorem AJ {t:Nat}(ht:t≤1){k:Int}(k1:1≤k)(k6:k≤6):lI (t:Int) k=wr .u8 (wr .u8 (8*(t:Int))+k):=by unfold lI;grind
theorem BQ {p:Pos}(hp:ax p){m:Mv}(h:m∈nQ p):(p.ah.getD (scale 6 p.aa+scale 1 m.bh).toNat 0==0)=false∧p.variant=2:=by
 rw[tv hp.t0]at h;revert h;refine al (P:=fun l:M'=>m∈l→_) (fun _ h=>by cases h) fun _=>al (P:=fun l:M'=>m∈l→_) (fun _ h=>by cases h) fun hv h=>?_;obtain⟨k,_,h⟩:=List.mem_flatMap.1 h;have v2:p.variant=2:=by
  have v0:=hp.v0;have v1:=hp.v1;obtain⟨n,hn⟩:=Int.eq_ofNat_of_zero_le v0;have:∀v:Fin 256,sV v.val=true→v.val=2:=by decide +kernel
  have hv:sV p.variant=true:=by simpa using hv
  rw[hn]at hv;have:=this ⟨n,by omega⟩ hv;simp only at this;omega
 refine⟨?_,v2⟩;have hd:m.bh=k:=by
  revert h;unfold fy;refine al (P:=fun l:M'=>m∈l→_) (fun _ h=>by cases h) fun _=>al (P:=fun l:M'=>m∈l→_) (fun _ h=>?_) fun _ h=>?_
  ·grind
  ·grind
 rw[hd];unfold fy at h;grind
theorem ach {p:Pos}(hp:ax p){m:Mv}(hm:m∈bR p):Cr p m (bC p m)=true∧Bq p m (bC p m)=bT p m p p m (bC p m):=by
 obtain⟨hth,f0,f1,o0,o1,_,_,pr0,pr6⟩:=iL hp hm;obtain⟨t,hpt,ht⟩:=hM hp hth.1;have ht39:=EB hp m;have if1:=RT f0 f1;have it1:=RT o0 o1;rw[oJ]at hm;have body:m.bh=0→m.bZ=false→Cr p m (bC p m)=true∧Bq p m (bC p m)=bT p m p p m (bC p m):=by
  intro hd hc;have e93:(m.bU != 0)=true→wr .u8 (wr .u8 (8*p.aa)+m.bU)=lI p.aa m.bU:=fun h=>by rw[bne_iff_ne]at h;rw[hpt,AJ ht (by omega) pr6]
  unfold Cr Bq bT;rw[hc,hd,if1,it1];simp only[cond_false,Bool.true_and,show((0:Int) != 0)=false from rfl];constructor
  ·simp_all
  ·grind
 rcases List.mem_append.1 hm with hm|hm
 ·rcases List.mem_append.1 hm with hm|hm
  ·obtain⟨_,f,g,_,_,_,_,hd,hc,_⟩:=gC hp.v0 hm;exact body hd hc
  ·obtain⟨_,_,_,_,_,hc,hd,_⟩:=uN hp hm;obtain⟨k,r,hk,hr,k0,k7,r0,r7,hkr⟩:=sv hp hpt ht hm;obtain⟨g1,g2,g3,g4,g5,g6⟩:=BK hpt ht hc hk hr k0 k7 r0 r7 hkr;unfold Cr Bq bT;simp_all
 ·obtain⟨_,_,_,_,_,hc,d1,d5,_⟩:=mG hp.t0 hm;obtain⟨pk,_⟩:=BQ hp hm;have e147:sX p.aa m.bh=true:=by unfold sX;rw[decide_eq_true (show p.aa≤1 by omega),decide_eq_true (show m.bh≥1 by omega),decide_eq_true (show m.bh≤5 by omega)];rfl
  have e92:rq p p.aa m.bh=(⟨p.variant,p.ab,p.ai,p.ah.set (scale 6 p.aa+scale 1 m.bh).toNat (wr .u8 (p.ah.getD (scale 6 p.aa+scale 1 m.bh).toNat 0-1)),p.aa,p.ao,p.az,p.au,p.half,p.full⟩,true):=by unfold rq;rw[e147,pk];rfl
  have hd:(m.bh != 0)=true:=by rw[bne_iff_ne];omega
  have i2:(decide (0≤p.aa)&&decide (p.aa<Int.ofNat 2))=true:=by simp;omega
  have i6:(decide (0≤m.bh)&&decide (m.bh<Int.ofNat 6))=true:=by simp;omega
  unfold Cr Bq bT;rw[hc,if1,it1,hd,e92,i2,i6];refine⟨rfl,?_⟩;simp only[cond_false,cond_true];rw[hpt,AJ ht (by omega) (by omega)]
theorem xZ {R:Type}{ok:BitVec 64×Int→Bool}{st:BitVec 64×Int→aG (BitVec 64×Int) R}(P:Nat→Bool)(fin:R→BitVec 64)
  (h1:∀(o:BitVec 64) (n:Nat),n<64→ok (o,n)=true∧st (o,n)=.go ((bif P n then o|||1#64 <<< n else o),(n:Int)+1)) (h2:∀o,ok (o,64)=true∧∃r,st (o,64)=.out r∧fin r=o) :
  ∃r,cW (fun x=>bif ok x then st x else .bad) many (0#64,0)=some r∧∀i,i<64→(fin r).getLsbD i=P i:=by
 refine aQ (Q:=fun r=>∀i,i<64→(fin r).getLsbD i=P i) (I:=fun x=>∃n:Nat,n≤64∧x.2=(n:Int)∧∀i,i<64→x.1.getLsbD i=(decide (i<n)&&P i)) (μ:=fun x=>(64-x.2).toNat) ?_ _ ⟨0,by omega,rfl,fun i hi=>by simp⟩ (by simp);rintro⟨o,m⟩ ⟨n,hn,hm,h⟩;simp only at hm h;subst hm;by_cases hc:n<64
 ·obtain⟨k1,k2⟩:=h1 o n hc;refine⟨k1,?_⟩;rw[k2];refine⟨⟨n+1,by omega,by simp,fun i hi=>?_⟩,by dsimp only;omega⟩;grind
 ·have:n=64:=by omega
  subst this;obtain⟨k1,r,k2,k3⟩:=h2 o;refine⟨k1,?_⟩;rw[show((o,((64:Nat):Int)):BitVec 64×Int)=(o,64)from rfl,k2];intro i hi;simp_all
theorem TR (a b:Int):(a==b)=decide (a=b):=rfl
theorem FX (x:BitVec 64){n:Int}(h0:0≤n)(h1:n<64):Ep x n=x.getLsbD n.toNat:=by unfold Ep;rw[fw h0 (by omega),CO _ (by omega)]
noncomputable section
variable {p q:Pos}(hp:ax p){m:Mv}
include hp
theorem anm (q':Pos){d:Int}(f0:0≤m.aD)(f1:m.aD<64):∃r,fA d p q' m (0#64,0)=some r∧∀i:Nat,i<64→r.1.getLsbD i=(p.ai.getLsbD i&&((i:Int) != d&&(i:Int) != m.aD)):=by refine xZ (fin:=fun r:BitVec 64×Int×Bool=>r.1) (fun i=>p.ai.getLsbD i&&((i:Int) != d&&(i:Int) != m.aD)) (fun o n hn=>⟨rfl,?_⟩) fun o=>⟨rfl,_,rfl,rfl⟩;unfold ON;dsimp only;rw[decide_eq_true (show(n:Int)<64 by omega),FX _ (by omega) (by omega),Int.toNat_natCast,aF (n:=(n:Int)+1) (by omega) (by omega),aF (n:=m.aD) (by omega) (by omega),fw (by omega) (by omega),Int.toNat_natCast];grind
theorem No (q':Pos){d:Int}(d0 : -1≤d)(d1:d<64)(f0:0≤m.aD)(f1:m.aD<64):(fA d p q' m (0#64,0)).isSome=true∧((fA d p q' m (0#64,0)).getD default).1=bif decide (d≥0)then p.ai &&& ~~~(1#64 <<< (BitVec.ofInt 64 d).toNat) &&& ~~~(1#64 <<< (BitVec.ofInt 64 m.aD).toNat)else p.ai &&& ~~~(1#64 <<< (BitVec.ofInt 64 m.aD).toNat):=by
 obtain⟨h1,h2⟩:=aJ (anm hp q' (d:=d) f0 f1);refine⟨h1,BitVec.eq_of_getLsbD_eq fun i hi=>?_⟩;rw[h2 i hi];have ef:(i:Int)=m.aD ↔ i=m.aD.toNat:=by omega
 by_cases hd:d≥0
 ·have ed:(i:Int)=d ↔ i=d.toNat:=by omega
  grind
 grind
theorem Jh (hk:dT p q)(hpr:q.ai=p.ai)(hm:m∈bR p):zN p q m (bC p m)=true∧BN p q m (bC p m)=cy p m q p m (bC p m):=by
 obtain⟨hth,f0,f1,o0,o1,_,_,pr0,pr6⟩:=iL hp hm;obtain⟨t,hpt,ht⟩:=hM hp hth.1;have ht39:=EB hp m;have hqt:q.aa=p.aa:=hk.t;have hmk:=fun q':Pos=>No (m:=m) hp q' ht39.1 ht39.2 f0 f1;by_cases hv:p.variant=2
 ·have hv2:(q.variant != 2)=false:=by rw[hk.v,hv];rfl
  have hv1:(p.variant != 2)=false:=by rw[hv];rfl
  cases hd:m.bh != 0 with
  |true=>unfold zN BN cy;rw[hv2,hv1,hd];exact⟨rfl,rfl⟩
  |false =>
   cases hc:m.bZ with
   |true =>
    have hm':m∈fc p:=by
     rw[oJ]at hm;rcases List.mem_append.1 hm with hm|hm
     ·rcases List.mem_append.1 hm with hm|hm
      ·obtain⟨_,_,_,_,_,_,_,_,h,_⟩:=gC hp.v0 hm;rw[h]at hc;cases hc
      ·exact hm
     ·obtain⟨_,_,_,_,_,h,_⟩:=mG hp.t0 hm;rw[h]at hc;cases hc
    obtain⟨k,r,hk',hr,k0,k7,r0,r7,hkr⟩:=sv hp hpt ht hm';obtain⟨g1,g2,g3,g4,g5,g6⟩:=BK hpt ht hc hk' hr k0 k7 r0 r7 hkr;unfold zN BN cy;rw[hv2,hv1,hd,hc,←g2,←hpr];refine⟨rfl,?_⟩;simp only[cond_false,cond_true];unfold Ep;grind
   |false =>
    have i2:decide (0≤p.aa)=true:=decide_eq_true hp.t0;have i3:decide (p.aa<Int.ofNat 2)=true:=by grind
    have n119:∀x:Int,Ep p.ai x=(p.ai >>> (BitVec.ofInt 64 x).toNat&&&1#64==1#64):=fun x=>rfl;by_cases hd0:bC p m≥0
    ·have dt:decide (bC p m≥0)=true:=decide_eq_true hd0;have hbi:=fa hp (scale 1 (bC p m)).toNat;obtain⟨e89,_,_,_,_⟩:=sI hbi.1 hbi.2;have i64:decide (0≤bC p m)=true:=decide_eq_true hd0;have i65:decide (bC p m<Int.ofNat 64)=true:=decide_eq_true ht39.2;have hadd:∀k:Int,ic q q.aa k=bif decide (k≥1)then(bif decide (k≤5)then(bif decide (q.ah.getD (scale 6 q.aa+scale 1 k).toNat 0<255)then⟨q.variant,q.ab,q.ai,q.ah.set (scale 6 q.aa+scale 1 k).toNat (wr .u8 (q.ah.getD (scale 6 q.aa+scale 1 k).toNat 0+1)),q.aa,q.ao,q.az,q.au,q.half,q.full⟩else q)else q)else q:=fun k=>by unfold ic sX;rw[decide_eq_true (show q.aa≤1 by rw[hqt];omega)];cases decide (k≥1)<;>cases decide (k≤5)<;>cases decide (q.ah.getD (scale 6 q.aa+scale 1 k).toNat 0<255)<;>rfl
     have ik:∀k:Int,decide (k≥1)=true→decide (k≤5)=true→decide (0≤k)=true∧decide (k<Int.ofNat 6)=true:=by grind
     have mk:=fun q':Pos=>(hmk q').2;simp only[dt,cond_true]at mk;have m1:=fun q':Pos=>(hmk q').1;have key:∀(k:Int) (c1 c2:Bool),True:=fun _ _ _=>trivial;rw[←hqt]at i2 i3;unfold zN BN cy;rw[hv2,hv1,hd,hc,dt];simp only[←hqt,e89,cond_false,cond_true,mk,m1,hadd,n119,i2,i3,i64,i65,aF (n:=m.aD) (by omega) (by omega),Bool.true_and,Bool.and_true,show decide ((1:Int)≥1)=true from rfl,show decide ((1:Int)≤5)=true from rfl,show Int.ofNat 1=(1:Int)from rfl];constructor
     ·generalize bE (p.ab.getD (scale 1 (bC p m)).toNat 0)=k;have go:decide (k≥1)=true→decide (k≤5)=true→(decide (0≤k)&&decide (k<Int.ofNat 6))=true:=by simp_all
      have fin:decide (k≥1)=true→decide (k≤5)=true→∀c:Bool,(decide (0≤k)&&decide (k<Int.ofNat 6)&&bif c then decide (0≤k)&&decide (k<Int.ofNat 6)&&(decide (0≤k)&&decide (k<Int.ofNat 6))else true)=true:=by simp_all
      refine aq (fun _=>aq (by simp_all) fun _=>?_) fun _=>?_
      ·exact aq (fun a1=>aq (fun a2=>fin a1 a2 _) fun _=>rfl) fun _=>rfl
      ·exact aq (fun a1=>aq (fun a2=>fin a1 a2 _) fun _=>rfl) fun _=>rfl
     ·generalize (p.ai >>> (BitVec.ofInt 64 (bC p m)).toNat&&&1#64==1#64)=c1;generalize (p.ab.getD (scale 1 (bC p m)).toNat 0 != 0)=c2;generalize (m.bU != 0)=c3;generalize (p.ai >>> (BitVec.ofInt 64 m.aD).toNat&&&1#64==1#64)=c4;generalize bE (p.ab.getD (scale 1 (bC p m)).toNat 0)=k;rw[←hpr];cases c1<;>cases c2<;>cases c3<;>cases c4<;>cases decide (k≥1)<;>cases decide (k≤5)<;>cases decide (q.ah.getD (scale 6 q.aa+scale 1 k).toNat 0<255)<;>cases decide (q.ah.getD (scale 6 q.aa+scale 1 1).toNat 0<255)<;>rfl
    ·have dt:decide (bC p m≥0)=false:=decide_eq_false hd0;have mk:=fun q':Pos=>(hmk q').2;simp only[dt,cond_false]at mk;have m1:=fun q':Pos=>(hmk q').1;unfold zN BN cy;rw[hv2,hv1,hd,hc,dt];simp_all
 ·have hv2:(q.variant != 2)=true:=by rw[bne_iff_ne,hk.v];exact hv
  have hv1:(p.variant != 2)=true:=by rw[bne_iff_ne];exact hv
  unfold zN BN cy;rw[hv2,hv1];exact⟨rfl,rfl⟩
end
theorem Er:∀a b:Fin 64,je a.val b.val=(fB b.val).getLsbD a.val∧je a.val a.val=false:=by decide +kernel
theorem Jj:∀v:Fin 256,(im v.val&&!dv 0 1 v.val&&!dv 1 1 v.val)=(bE v.val != 0&&bE v.val != 1):=by decide +kernel
theorem ZY {q:Pos}(hq:ax q){b:Int}(b0:0≤b)(b1:b<64):Ow q b=true∧Rc q b=qL q b:=by
 obtain⟨n,rfl⟩:=Int.eq_ofNat_of_zero_le b0;have hn:n<64:=by omega
 have hl:∃r,wX (n:Int) q (0#64,0)=some r∧∀i:Nat,i<64→r.1.getLsbD i=(decide (i=n) ||(je i n&&(bE (q.ab.getD i 0) != 0&&bE (q.ab.getD i 0) != 1))):=by refine xZ (fin:=fun r:BitVec 64×Int×Bool=>r.1) (fun i=>decide (i=n) ||(je i n&&(bE (q.ab.getD i 0) != 0&&bE (q.ab.getD i 0) != 1))) (fun o i hi=>?_) fun o=>⟨rfl,_,rfl,rfl⟩;unfold Gt Mc;dsimp only;rw[decide_eq_true (show(i:Int)<64 by omega),decide_eq_true (show(n:Int)≥0 by omega),decide_eq_true (show(n:Int)<64 by omega),decide_eq_true (show(0:Int)≤i by omega),show((i:Int)==n)=decide (i=n)by rw[TR,decide_eq_decide];omega,iu,Int.toNat_natCast,aF (n:=(i:Int)+1) (by omega) (by omega),fw (by omega) (by omega),Int.toNat_natCast];refine⟨rfl,?_⟩;cases decide (i=n)<;>cases je i n<;>cases (bE (q.ab.getD i 0) != 0)<;>cases (bE (q.ab.getD i 0) != 1)<;>rfl
 obtain⟨h1,h2⟩:=aJ hl;refine⟨ak h1 fun _=>rfl,BitVec.eq_of_getLsbD_eq fun i hi=>?_⟩;have e1:(Rc q n).getLsbD i=(decide (i=n) ||(je i n&&(bE (q.ab.getD i 0) != 0&&bE (q.ab.getD i 0) != 1))):=h2 i hi;rw[e1];unfold qL;rw[decide_eq_false (show ¬((n:Int)<0)by omega),decide_eq_false (show ¬((n:Int)≥64)by omega)];simp only[cond_false,BitVec.getLsbD_or,BitVec.getLsbD_and,BitVec.getLsbD_not,hi,decide_true,Bool.true_and];rw[mK _ hi,bK _ _ _ hi,bK _ _ _ hi,fw (by omega) (by omega),Int.toNat_natCast,nL hi,show wr .u8 (0+1)=1 from rfl];have hb:=dm (d:=0) hq.b0 (by omega) i;obtain⟨v,hv⟩:=Int.eq_ofNat_of_zero_le hb.1;have k1:=Jj ⟨v,by omega⟩;have k2:=(Er ⟨i,hi⟩ ⟨n,hn⟩).1;grind
def wb (q:Pos)(B:List Int):Pos:=⟨q.variant,B,q.ai,q.ah,q.aa,q.ao,q.az,q.au,q.half,q.full⟩
theorem Pu {A B:List Int}{n:Nat}(ha:A.length=n)(hb:B.length=n)(h:∀i,i<n→A.getD i 0=B.getD i 0):A=B:=by refine List.ext_getElem (by omega) fun i h1 h2=>?_;grind
theorem arR {q:Pos}(hq:ax q)(d:Int)(bits:BitVec 64)(p:Pos)(m:Mv):∃r,mU d bits p m (0,q)=some r∧∃B,r.2.2=wb q B∧B.length=64∧∀i,i<64→B.getD i 0=bif bits.getLsbD i then 0 else q.ab.getD i 0:=by
 refine aQ (Q:=fun r:Int×Bool×Pos=>∃B,r.2.2=wb q B∧B.length=64∧∀i,i<64→B.getD i 0=bif bits.getLsbD i then 0 else q.ab.getD i 0) (I:=fun x:Int×Pos=>∃n:Nat,n≤64∧x.1=n∧∃B,x.2=wb q B∧B.length=64∧∀i,i<64→B.getD i 0=bif decide (i<n)&&bits.getLsbD i then 0 else q.ab.getD i 0) (μ:=fun x=>(64-x.1).toNat) ?_ _ ⟨0,by omega,rfl,q.ab,rfl,hq.bl,fun i hi=>by simp⟩ (by simp);rintro⟨x,q'⟩ ⟨n,hn,hx,B,hB,hl,h⟩;simp only at hx hB;subst hx hB;unfold Hg LY;dsimp only;by_cases hc:n<64
 ·rw[decide_eq_true (show(n:Int)<64 by omega),FX _ (by omega) (by omega),Int.toNat_natCast,aF (n:=(n:Int)+1) (by omega) (by omega),iu,Int.toNat_natCast,decide_eq_true (show(0:Int)≤n by omega)];have e64:decide ((n:Int)<Int.ofNat 64)=true:=by grind
  rw[e64];cases hb:bits.getLsbD n with
  |true =>refine⟨rfl,⟨n+1,by omega,by simp,B.set n 0,rfl,by simp[hl],fun i hi=>?_⟩,by dsimp only;omega⟩;grind
  |false =>refine⟨rfl,⟨n+1,by omega,by simp,B,rfl,hl,fun i hi=>?_⟩,by dsimp only;omega⟩;grind
 ·have:n=64:=by omega
  subst this;refine⟨rfl,B,rfl,hl,fun i hi=>?_⟩;rw[h i hi,decide_eq_true hi,Bool.true_and]
theorem VX {q:Pos}(hq:ax q){l:List Int}(hl0:l.length≤64)(hin:∀s∈l,0≤s∧s<64)(a b:Pos)(c d:Mv)(e:Int):∃r,rS l (Int.ofNat l.length) a c b d e (0,q)=some r∧∃B,r.2.2=wb q B∧B.length=64∧∀i:Nat,i<64→B.getD i 0=bif decide ((i:Int)∈l)then 0 else q.ab.getD i 0:=by
 refine aQ (Q:=fun r:Int×Bool×Pos=>∃B,r.2.2=wb q B∧B.length=64∧∀i:Nat,i<64→B.getD i 0=bif decide ((i:Int)∈l)then 0 else q.ab.getD i 0) (I:=fun x:Int×Pos=>∃n:Nat,n≤l.length∧x.1=n∧∃B,x.2=wb q B∧B.length=64∧∀i:Nat,i<64→B.getD i 0=bif decide ((i:Int)∈l.take n)then 0 else q.ab.getD i 0) (μ:=fun x=>(l.length-x.1).toNat) ?_ _ ⟨0,by omega,rfl,q.ab,rfl,hq.bl,fun i hi=>by simp⟩ (by simp;omega);rintro⟨x,q'⟩ ⟨n,hn,hx,B,hB,hl,h⟩;simp only at hx hB;subst hx hB;unfold G3 Ob;dsimp only;by_cases hc:n<l.length
 ·have hs:=hin _ (eD (d:=default) hc);have ht:l.take (n+1)=l.take n++[l.getD n default]:=by rw[List.take_add_one,List.getD_eq_getElem?_getD,I' hc];rfl
  rw[decide_eq_true (show(n:Int)<Int.ofNat l.length from Int.ofNat_lt.2 hc),decide_eq_true (show(0:Int)≤n by omega),Int.toNat_natCast,aF (n:=(n:Int)+1) (by omega) (by omega),iu,decide_eq_true hs.1,decide_eq_true (show l.getD n default<Int.ofNat 64 from hs.2)];refine⟨rfl,⟨n+1,by omega,by simp,B.set (l.getD n default).toNat 0,rfl,by simp[hl],fun i hi=>?_⟩,by dsimp only;omega⟩;grind
 ·rw[decide_eq_false (show ¬((n:Int)<Int.ofNat l.length)from fun h=>hc (Int.ofNat_lt.1 h))];have:n=l.length:=by omega
  subst this;refine⟨rfl,B,rfl,hl,fun i hi=>?_⟩;simp_all
theorem SF {p q:Pos}(hk:dT p q){m:Mv}(o0:0≤m.to)(o1:m.to<64)(d:Int):Ow q (wr .i64 m.to)=true∧(mU d (Rc q (wr .i64 m.to)) p m (0,q)).isSome=true ∧
  (bif p.variant==3 then(bif decide (d≥0)then((mU d (Rc q (wr .i64 m.to)) p m (0,q)).getD default).2.2 else q)else q)=cV p m q p m d:=by
 have hq:=hk.cn;have wt:wr .i64 m.to=m.to:=aF (by omega) (by omega);obtain⟨k1,k2⟩:=ZY hq o0 o1;obtain⟨a1,B,a2,a3,a4⟩:=aJ (arR hq d (Rc q m.to) p m);obtain⟨b1,C,b2,b3,b4⟩:=aJ (VX hq (l:=gw (qL q m.to)) (by rw[dy];exact dC _ _) (fun s hs=>by rw[dy]at hs;exact jO hs) p p m m d);rw[wt];refine⟨k1,a1,?_⟩;unfold cV;rw[wt,a2,b2,hk.v];have e:B=C:=Pu a3 b3 fun i hi=>by
  rw[a4 i hi,b4 i hi,k2];congr 1;rw[dy];cases hb:(qL q m.to).getLsbD i with
  |true=>exact(decide_eq_true (qd.2 ⟨i,hi,hb,rfl⟩)).symm
  |false =>refine(decide_eq_false fun h=>?_).symm;obtain⟨j,_,hj,he⟩:=qd.1 h;grind
 grind
theorem wY {X R:Type}{f g:X→aG X R}(I:X→Prop)(h:∀x,I x→f x=g x∧∀y,f x=.go y→I y):∀(n:Nat) (x:X),I x→cW f n x=cW g n x
 | 0,_,_=>rfl
 |n+1,x,hx=>by
  obtain⟨h1,h2⟩:=h x hx
  rw[cW,cW,←h1]
  cases hf:f x with
  |go y=>exact wY I h n y (h2 y hf)
  |out r=>rfl
  |bad=>rfl
def wk (q:Pos)(R:List Int):Pos:=⟨q.variant,q.ab,q.ai,q.ah,q.aa,R,q.az,q.au,q.half,q.full⟩
theorem ajL {q:Pos}(hq:ax q){R:List Int}(hl:R.length=4)(hr:∀x∈R,-128≤x∧x≤127):ax (wk q R) :=
 ⟨hq.v0,hq.v1,hq.bl,hq.b0,hq.kl,hq.k0,hq.t0,hq.t1,hl,hr,hq.p0,hq.p1,hq.cl,hq.c0,hq.h0,hq.f0⟩
def P8 (q:Pos)(c:Nat)(k s t:Int)(m:Mv):Bool :=
 decide (k<((56*c:Nat):Int)) ||(decide (k>((56*c+7:Nat):Int)) ||(!dv c 4 (q.ab.getD s.toNat 0) ||(t==s ||(m.bh==0&&m.aD==s))))
noncomputable section
variable {q:Pos}(hq:ax q){c:Nat}(hc:c≤1){k:Int}(k0 : -1≤k)(k1:k<64){m:Mv}(f0 : -128≤m.aD∧m.aD≤127)(t:Int)(p:Pos)
include hq hc k0 k1 f0
theorem EW (R:List Int)(hl:R.length=4)(hr:∀x∈R,-128≤x∧x≤127){n:Nat}(hn:n<2)(l:List Int)(hll:l.getD n 0=R.getD (2*c+n) 0)(a b:Pos)(m1:Mv) :
  (bif Aq (c:Int) k l a m1 b m t (n,wk q R)then A8 (c:Int) k l a m1 b m t (n,wk q R)else .bad)=.go ((n:Int)+1,bif(decide (0≤R.getD (2*c+n) 0)&&decide (R.getD (2*c+n) 0≤7))&&P8 q c k (((56*c:Nat):Int)+R.getD (2*c+n) 0) t m then wk q (R.set (2*c+n) (-1))else wk q R) ∧
  (bif AF t (c:Int) ((56*c:Nat):Int) k p m (n,wk q R)then E4 t (c:Int) ((56*c:Nat):Int) k p m (n,wk q R)else .bad)=.go ((n:Int)+1,bif(decide (0≤R.getD (2*c+n) 0)&&decide (R.getD (2*c+n) 0≤7))&&P8 q c k (((56*c:Nat):Int)+R.getD (2*c+n) 0) t m then wk q (R.set (2*c+n) (-1))else wk q R):=by
 have hf:=dm (d:=0) hr (by omega) (2*c+n);have hsc:(scale 2 (c:Int)+scale 1 (n:Int)).toNat=2*c+n:=by unfold scale;simp;omega
 have i1:decide ((0:Int)≤c)=true:=by simp_all
 have i2:decide ((c:Int)<Int.ofNat 2)=true:=by grind
 have i3:decide ((0:Int)≤n)=true:=by simp_all
 have i4:decide ((n:Int)<Int.ofNat 2)=true:=by grind
 have i5:decide ((n:Int)<2)=true:=by simp_all
 have w1:wr .i64 ((n:Int)+1)=n+1:=aF (by omega) (by omega);have wc:wr .i64 (c:Int)=c:=aF (by omega) (by omega);have w56:wr .i64 (56*(c:Int))=((56*c:Nat):Int):=by rw[aF (by omega) (by omega)];omega
 have w7:wr .i64 (((56*c:Nat):Int)+7)=((56*c+7:Nat):Int):=by rw[aF (by omega) (by omega)];omega
 have hrk:(wk q R).ao.getD (2*c+n) 0=R.getD (2*c+n) 0:=rfl;unfold Aq A8 AF E4;dsimp only;rw[hsc,Int.toNat_natCast,hll,hrk,i1,i2,i3,i4,i5,w1,wc,w56,w7];generalize hfe:R.getD (2*c+n) 0=f at hf⊢;rw[aF (n:=f) (by omega) (by omega),aF (n:=m.aD) (by omega) (by omega)];by_cases h0:f<0
 ·grind
 ·by_cases h7:f>7
  ·grind
  ·rw[decide_eq_false h0,decide_eq_false h7,decide_eq_true (show 0≤f by omega),decide_eq_true (show f≤7 by omega),aF (n:=((56*c:Nat):Int)+f) (by omega) (by omega)];obtain⟨s,hs⟩:=Int.eq_ofNat_of_zero_le (show 0≤((56*c:Nat):Int)+f by omega);have s49:s<64:=by omega
   rw[hs,iu,Int.toNat_natCast,decide_eq_true (show(0:Int)≤s by omega),decide_eq_true (show(s:Int)<Int.ofNat 64 by show(s:Int)<64;omega)];obtain⟨o157,e157⟩:=kE (ajL hq hl hr) (c:=(c:Int)) (k:=4) (by omega) (by omega) (by omega) s49;have hb:=fa hq s;have hrook:((wk q R).ab.getD s 0 != lI (c:Int) 4)=!dv c 4 (q.ab.getD s 0):=by obtain⟨v,hv⟩:=Int.eq_ofNat_of_zero_le hb.1;have:=(uB ⟨c,by omega⟩ ⟨v,by omega⟩).1;simp only at this;rw[hv,this,AJ hc (by omega) (by omega),show(wk q R).ab=q.ab from rfl,hv,kD (n:=8*(c:Int)) (by omega) (by omega),kD (by omega) (by omega)];rfl
   have hking:(bif decide (k<0)then true else(wr .i64 (k.tdiv 8) != wr .i64 (7*(c:Int))))=(decide (k<((56*c:Nat):Int)) ||decide (k>((56*c+7:Nat):Int))):=by
    by_cases hk:k<0
    ·grind
    ·rw[decide_eq_false hk,Int.tdiv_eq_ediv_of_nonneg (by omega),aF (by omega) (by omega),aF (by omega) (by omega),cond_false,Bool.eq_iff_iff];grind
   rw[o157,e157,hrook,show(wk q R).ab.getD s 0=q.ab.getD s 0 from rfl];unfold P8;rw[Int.toNat_natCast];revert hking
   cases decide (k<0)<;>cases (wr .i64 (k.tdiv 8) != wr .i64 (7*(c:Int)))<;>cases decide (k<((56*c:Nat):Int))<;>cases decide (k>((56*c+7:Nat):Int))<;>intro hking <;>
    first
    |(exfalso;revert hking;decide)
    |(cases dv (c:Int) 4 (q.ab.getD s 0)<;>cases (t==(s:Int))<;>cases (m.bh==0)<;>cases (m.aD==(s:Int))<;>exact⟨rfl,rfl⟩)
theorem Pb (a b:Pos)(m1:Mv):lW (c:Int) k (List.take 2 (List.drop (scale 2 (c:Int)).toNat q.ao)) a m1 b m t (0,q)=uh t (c:Int) ((56*c:Nat):Int) k p m (0,q):=by
 have hsl:∀d,d<2→(List.take 2 (List.drop (scale 2 (c:Int)).toNat q.ao)).getD d 0=q.ao.getD (2*c+d) 0:=fun d hd=>by rw[List.getD_eq_getElem?_getD,List.getD_eq_getElem?_getD,List.getElem?_take_of_lt hd,List.getElem?_drop,show(scale 2 (c:Int)).toNat=2*c by unfold scale;simp;omega]
 refine wY (fun x:Int×Pos=>∃n:Nat,n≤2∧x.1=(n:Int)∧∃R,x.2=wk q R∧R.length=4∧(∀x∈R,-128≤x∧x≤127)∧∀d,n≤d→d<2→R.getD (2*c+d) 0=q.ao.getD (2*c+d) 0) (fun x hx=>?_) many (0,q) ⟨0,by omega,rfl,q.ao,rfl,hq.rl,hq.r0,fun _ _ _=>rfl⟩;obtain⟨x1,x2⟩:=x;obtain⟨n,hn,h1,R,h2,hl,hr,hR⟩:=hx;simp only at h1 h2;subst h1 h2;by_cases h2:n<2
 ·obtain⟨e1,e2⟩:=EW hq hc k0 k1 f0 t p R hl hr h2 (List.take 2 (List.drop (scale 2 (c:Int)).toNat q.ao)) (by simp_all) a b m1;refine⟨e1.trans e2.symm,fun y hy=>?_⟩;rw[e1]at hy;simp only[aG.go.injEq]at hy;subst hy;refine⟨n+1,by omega,by simp,?_⟩;grind
 ·have:n=2:=by omega
  subst this;exact⟨rfl,fun y hy=>by cases hy⟩
end
noncomputable section
variable {p q:Pos}(hp:ax p)(hk:dT p q){m:Mv}(f0 : -128≤m.aD∧m.aD≤127)(t:Int)
include hp hk f0
theorem BV (a b:Pos)(m1:Mv){q':Pos}(hq':dT p q'):(ew a m1 b m t (0,q'))=mT t p m (0,q'):=by
 refine wY (fun x:Int×Pos=>∃n:Nat,n≤2∧x.1=(n:Int)∧dT p x.2) (fun x hx=>?_) many (0,q') ⟨0,by omega,rfl,hq'⟩;obtain⟨x1,x2⟩:=x;obtain⟨n,hn,h1,h2⟩:=hx;simp only at h1 h2;subst h1;unfold y0 Es GZ Of;dsimp only;by_cases hc:n<2
 ·have hn1:n≤1:=by omega
  have lo:=fH x2 (n:Int) 6;obtain⟨o131,e131⟩:=pg h2.cn (c:=(n:Int)) (k:=6) (by omega) (by omega) (by omega);have e:=Pb h2.cn hn1 (by omega) lo.2 f0 t p a b m1 (k:=bg x2 n 6);obtain⟨r,hr,hkin⟩:=vL (p:=p) (q:=x2) (c:=(n:Int)) (k:=bg x2 n 6) (by omega) (by omega) (List.take 2 (List.drop (scale 2 (n:Int)).toNat x2.ao)) (fun s hs=>h2.cn.r0 s (by grind)) h2 a b m1 m t;have w56:wr .i64 (56*wr .i64 (n:Int))=((56*n:Nat):Int):=by rw[aF (n:=(n:Int)) (by omega) (by omega),aF (by omega) (by omega)];omega
  rw[e131,o131,t145,w56,←e,hr,decide_eq_true (show(n:Int)≤1 by omega),decide_eq_true (show(n:Int)<2 by omega),decide_eq_true (show(0:Int)≤n by omega),kD (n:=(n:Int)+1) (by omega) (by omega)];have i2:decide ((n:Int)<Int.ofNat 2)=true:=by grind
  rw[i2];refine⟨rfl,fun y hy=>?_⟩;have hy:aG.go ((n:Int)+1,r.2.2)=.go y:=hy;simp only[aG.go.injEq]at hy;subst hy;exact⟨n+1,by omega,by simp,hkin⟩
 grind
theorem JV (ht:p.aa≤1)(hm:m.bh=0→0≤m.aD∧m.aD<64)(d5:m.bh≤5):I6 p q m t=true∧Ro p q m t=de p m q p m t:=by
 have t0:=hp.t0;have hqt:q.aa=p.aa:=hk.t;have h2:dT p (wk q (List.take (scale 2 q.aa).toNat q.ao++li [-1,-1]++List.drop ((scale 2 q.aa).toNat+2) q.ao)):=by
  refine hk.ao ?_ ?_
  ·have hr:=hk.cn.rl;have:(scale 2 q.aa).toNat≤2:=by rw[hqt];unfold scale;simp;omega
   grind
  ·intro x hx;simp only[List.mem_append,li]at hx;rcases hx with(hx|hx)|hx
   ·exact hk.cn.r0 x (by grind)
   ·simp at hx;omega
   ·exact hk.cn.r0 x (by grind)
 have e1:=BV hp hk f0 t p p m hk;have e2:=BV hp hk f0 t p p m h2;obtain⟨r1,k1,_⟩:=gQ hk p p m m t;obtain⟨r2,k2,_⟩:=gQ h2 p p m m t;have k3:=e1.symm.trans k1;have k4:mT t p m (0,Pos.mk q.variant q.ab q.ai q.ah q.aa (List.take (scale 2 q.aa).toNat q.ao++((List.replicate 2 0).set 0 (-1)).set 1 (-1)++List.drop ((scale 2 q.aa).toNat+2) q.ao) q.az q.au q.half q.full)=some r2:=e2.symm.trans k2;have k2:ew p m p m t (0,Pos.mk q.variant q.ab q.ai q.ah q.aa (List.take (scale 2 q.aa).toNat q.ao++li [-1,-1]++List.drop ((scale 2 q.aa).toNat+2) q.ao) q.az q.au q.half q.full)=some r2:=k2;have hb:=fa hp (scale 1 m.aD).toNat;obtain⟨e89,_⟩:=sI hb.1 hb.2;have i1:decide (0≤p.aa)=true:=decide_eq_true t0;have i2:decide (p.aa<Int.ofNat 2)=true:=by grind
 unfold I6 Ro de;rw[←hqt]at i1 i2⊢;rw[e89,k1,k2,k3,k4,i1,i2];by_cases hd:m.bh=0
 ·simp_all
 ·rw[beq_eq_false_iff_ne.2 hd,bne_iff_ne.2 hd];simp_all
end
theorem ae8 (col b c:Int)(cl:Bool):cY 1 col b c cl=cY 1 col b c false:=rfl
def NQ (q:Pos)(s:Int):Pos:=⟨q.variant,q.ab,q.ai,q.ah,q.aa,q.ao,s,q.au,q.half,q.full⟩
theorem Qn (q:Pos)(s a b:Int):aS (NQ q s) a b=aS q a b:=by kernel_rfl
def Xu (t a b:Int):Bool:=(!(wr .i8 (b-a) != 16) || !(wr .i8 (a-b) != 16))&&(!(wr .i8 (a.tdiv 8) != wr .i8 (wr .i8 (7*wr .i8 t)+1)) || !(wr .i8 (a.tdiv 8) != wr .i8 (wr .i8 (7*wr .i8 t)-1)))
def Rq (t a b:Int):Bool := !(wr .i64 b != wr .i64 (wr .i64 a+wr .i64 (2*iG t)))&&!(xb t (wr .i64 a) != 1)
theorem Sd:∀(t:Fin 2) (a b:Fin 64),(Xu t.val a.val b.val==Rq t.val a.val b.val&&(!Rq t.val a.val b.val ||(wr .i8 ((wr .i8 ((a.val:Int)+b.val)).tdiv 2)==wr .i8 (wr .i64 (wr .i64 a.val+iG t.val))&&(wr .i64 (wr .i8 ((wr .i8 ((a.val:Int)+b.val)).tdiv 2))==wr .i64 (wr .i64 a.val+iG t.val)&&(decide (0≤wr .i64 (wr .i64 a.val+iG t.val))&&decide (wr .i64 (wr .i64 a.val+iG t.val)<64))))))=true:=by decide +kernel
theorem Dr {p:Pos}{m:Mv}(h:m∈fc p)(hp:ax p):bE (p.ab.getD m.aD.toNat 0)=6:=by
 have key:m.aD=bg p p.aa 6∧0≤bg p p.aa 6:=by
  revert h;unfold fc;have hk:=fH p p.aa 6;refine al (P:=fun l:M'=>m∈l→_) (fun _ h=>by cases h) fun h=>?_;have ht:p.aa≤1:=by simpa using h
  refine al (P:=fun l:M'=>m∈l→_) (fun _ h=>by cases h) fun _=>al (P:=fun l:M'=>m∈l→_) (fun _ h=>by cases h) fun hk0=>al (P:=fun l:M'=>m∈l→_) (fun _ h=>by cases h) fun _=>?_;have hk0:0≤bg p p.aa 6:=by simpa using hk0
  have key:∀c,(dJ p (bg p p.aa 6) c).2=true→m=(dJ p (bg p p.aa 6) c).1→m.aD=bg p p.aa 6∧0≤bg p p.aa 6:=by intro c h1 h2;rw[h2];exact⟨(vX hp ht hk0 hk.2 h1).1,hk0⟩
  refine al (P:=fun l:M'=>m∈l→_) (fun h1=>al (P:=fun l:M'=>m∈l→_) (fun h2 h=>?_) fun _ h=>?_) fun _=>al (P:=fun l:M'=>m∈l→_) (fun h2 h=>?_) fun _ h=>by cases h
  ·grind
  ·simp_all
  ·simp_all
 rcases gR p p.aa 6 with⟨h,_⟩|⟨k,_,h,h2,_⟩
 ·omega
 ·have hb:=fa hp k;have:=Qv h2;rw[key.1,h,Int.toNat_natCast,←(sI hb.1 hb.2).1];omega
noncomputable section
variable {p q:Pos}(hp:ax p)(hk:dT p q)(hth:there p)
include hp hk hth
theorem auq {t:Nat}(hpt:p.aa=t)(ht:t≤1)(p1 p2:Int){d:Nat}(hd:d<64)(he:wr .i64 (p2+p1)=d)(m:Mv):∃r,rA p1 p2 p q m 0=some r∧cQ r=(eW (t:Int) d&&&aS q (1-(t:Int)) 1 != 0#64):=by
 have hqt:q.aa=0∨q.aa=1:=by rw[hk.t,hpt];omega
 have bit:∀s:Nat,s<64→(eW (t:Int) d&&&aS q (1-(t:Int)) 1).getLsbD s=(dv (1-(t:Int)) 1 (q.ab.getD s 0)&&oI q s d):=fun s hs=>by
  rw[BitVec.getLsbD_and,bK _ _ _ hs,Bool.and_comm];cases h:dv (1-(t:Int)) 1 (q.ab.getD s 0)with
  |false=>rfl
  |true =>have hb:=fa hk.cn s;rw[is' (by omega) (by omega) (by omega) hb.1 hb.2,E',beq_iff_eq,beq_iff_eq]at h;rw[Bool.true_and,Bool.true_and,tP,iu,Int.toNat_natCast,h.1,h.2,ae8];have:=uq ⟨1-t,by omega⟩ ⟨s,hs⟩ ⟨d,hd⟩;grind
 refine aQ (Q:=fun r:Unit ⊕ (Int×Bool)=>cQ r=(eW (t:Int) d&&&aS q (1-(t:Int)) 1 != 0#64)) (I:=fun x:Int=>∃n:Nat,n≤64∧x=(n:Int)∧∀s,s<n→(eW (t:Int) d&&&aS q (1-(t:Int)) 1).getLsbD s=false) (μ:=fun x=>(64-x).toNat) ?_ _ (by grind) (by simp);rintro x ⟨n,hn,hx,h⟩;subst hx;unfold Gb L6;by_cases hc:n<64
 ·obtain⟨o157,e157⟩:=kE hk.cn (c:=1-(t:Int)) (k:=1) (by omega) (by omega) (by omega) hc;have o159:=t154 hk.cn hqt hc hd;have hb:=bit n hc;rw[he,hpt,kD (n:=1-(t:Int)) (by omega) (by omega),o157,e157,o159,decide_eq_true (show(n:Int)<64 by omega),aF (n:=(n:Int)+1) (by omega) (by omega)];have keep:(eW (t:Int) d&&&aS q (1-(t:Int)) 1).getLsbD n=false→∃k:Nat,k≤64∧(n:Int)+1=(k:Int)∧∀s,s<k→(eW (t:Int) d&&&aS q (1-(t:Int)) 1).getLsbD s=false:=fun hf=>⟨n+1,by omega,by simp,by grind⟩;revert hb;cases dv (1-(t:Int)) 1 (q.ab.getD n 0)with
  |false=>intro hb;exact⟨rfl,keep hb,by dsimp only;omega⟩
  |true =>
   cases oI q n d with
   |false=>intro hb;exact⟨rfl,keep hb,by dsimp only;omega⟩
   |true =>intro hb;refine⟨rfl,?_⟩;show true=_;grind
 ·have:n=64:=by omega
  subst this;refine⟨rfl,?_⟩;show false=_;grind
theorem wH {m:Mv}(hm:m∈bR p)(d:Int):Js p q m=true∧dE p m q p m d=NQ q (fo p q m):=by
 obtain⟨_,f0,f1,o0,o1,_,_,_,_⟩:=iL hp hm;obtain⟨t,hpt,ht⟩:=hM hp hth.1;obtain⟨a,ha⟩:=Int.eq_ofNat_of_zero_le f0;obtain⟨b,hb⟩:=Int.eq_ofNat_of_zero_le o0;have hqt:q.aa=(t:Int):=by rw[hk.t,hpt]
 have hbd:=fa hp (scale 1 m.aD).toNat;obtain⟨e89,_⟩:=sI hbd.1 hbd.2;have i1:decide (0≤m.aD)=true:=decide_eq_true f0;have i2:decide (m.aD<Int.ofNat 64)=true:=decide_eq_true f1;have fin:=Sd ⟨t,by omega⟩ ⟨a,by omega⟩ ⟨b,by omega⟩;simp only[E',beq_iff_eq,Bool.or_eq_true,Bool.not_eq_true']at fin;obtain⟨fin1,fin2⟩:=fin;have hcas:m.bZ=true→(bE (p.ab.getD (scale 1 m.aD).toNat 0) != 1)=true:=fun hc=>by
  have hm':m∈fc p:=by
   rw[oJ]at hm;rcases List.mem_append.1 hm with hm|hm
   ·rcases List.mem_append.1 hm with hm|hm
    ·obtain⟨_,_,_,_,_,_,_,_,h,_⟩:=gC hp.v0 hm;rw[h]at hc;cases hc
    ·exact hm
   ·obtain⟨_,_,_,_,_,h,_⟩:=mG hp.t0 hm;rw[h]at hc;cases hc
  rw[iu,Dr hm' hp];rfl
 have n101:∀s c k:Int,aS (Pos.mk q.variant q.ab q.ai q.ah q.aa q.ao s q.au q.half q.full) c k=aS q c k:=fun s c k=>Qn q s c k;unfold Js fo dE NQ;simp only[u64,n101];rw[e89,i1,i2,hqt,hpt,ha,hb,kD (n:=1-(t:Int)) (by omega) (by omega)];cases hd:m.bh != 0 with
 |true =>simp_all
 |false =>
  cases hc:m.bZ with
  |true =>grind
  |false =>
   cases hpn:(bE (p.ab.getD (scale 1 (a:Int)).toNat 0) != 1)with
   |true=>exact⟨rfl,rfl⟩
   |false =>
    simp only[cond_false,Bool.true_and];unfold Xu Rq at fin1;unfold Rq at fin2;revert fin1 fin2;cases hx1:(wr .i64 (b:Int) != wr .i64 (wr .i64 (a:Int)+wr .i64 (2*iG (t:Int))))with
    |true =>grind
    |false =>
     cases hx2:(xb (t:Int) (wr .i64 (a:Int)) != 1)with
     |true =>grind
     |false =>intro fin1 fin2;obtain⟨g1,g2,g3,g4⟩:=fin2.resolve_left (by decide);simp only[decide_eq_true_eq]at g3 g4;obtain⟨e,he⟩:=Int.eq_ofNat_of_zero_le g3;obtain⟨r1,r2⟩:=aJ (auq hp hk hth hpt ht (iG (t:Int)) (wr .i64 (a:Int)) (d:=e) (by omega) he m);grind
end
theorem OK (x:BitVec 64){k:Nat}(hk:k<64):(x&&&1#64 <<< k != 0#64)=x.getLsbD k:=by
 have e:∀i,i<64→(x&&&1#64 <<< k).getLsbD i=(x.getLsbD k&&decide (i=k)):=by grind
 grind
theorem TM {a:Pos×BitVec 64×BitVec 64}{b:Int}{g:Nat}(h:(iC a b).getLsbD g=true):a.2.1.getLsbD g=false:=by
 have key:∃X,iC a b=X &&& ~~~a.2.1:=by unfold iC;repeat' (first|exact⟨_,rfl⟩|refine al (P:=fun x:BitVec 64=>∃X,x=X &&& ~~~a.2.1) (fun _=>?_) (fun _=>?_))
 grind
theorem ahO (k:Int)(l:List Int)(hl:l.length≤5):∃r,kQ k l 0=some r∧cQ r=decide (k∈l):=by
 refine aQ (Q:=fun r:Unit ⊕ (Int×Bool)=>cQ r=decide (k∈l)) (I:=fun x:Int=>∃n:Nat,n≤l.length∧x=(n:Int)∧k∉l.take n) (μ:=fun x=>(l.length-x).toNat) ?_ _ (by grind) (by simp;omega);rintro x ⟨n,hn,rfl,h⟩;unfold Ce F9;by_cases hc:n<l.length
 ·have ht:l.take (n+1)=l.take n++[l.getD n default]:=by rw[List.take_add_one,List.getD_eq_getElem?_getD,I' hc];rfl
  rw[decide_eq_true (show(n:Int)<Int.ofNat l.length from Int.ofNat_lt.2 hc),decide_eq_true (show(0:Int)≤n by omega),Int.toNat_natCast,aF (n:=(n:Int)+1) (by omega) (by omega)];refine⟨rfl,?_⟩;cases he:l.getD n default==k with
  |true =>show true=_;grind
  |false =>refine⟨⟨n+1,by omega,by simp,?_⟩,by dsimp only;omega⟩;grind
 ·rw[decide_eq_false (show ¬((n:Int)<Int.ofNat l.length)from fun h=>hc (Int.ofNat_lt.1 h))];refine⟨rfl,?_⟩;show false=_;grind
theorem RJ (v:Int):(s9 v).length≤5:=by unfold s9;exact al (P:=fun l:List Int=>l.length≤5) (fun _=>by simp) (by grind)
theorem RK (v k:Int):xX v k=true∧OS v k=decide (k∈s9 v):=by obtain⟨h1,h2⟩:=aJ (ahO k (s9 v) (RJ v));unfold xX OS;simp_all
theorem ky {p:Pos}(h:there p):qK p=true:=by unfold qK;rw[decide_eq_true h.2,decide_eq_true (show p.aa<2 by have:=h.1;omega)];rfl
noncomputable section
variable {p:Pos}(hp:ax p)(hth:there p)
include hp hth
theorem T8 {m:Mv}(hm:m∈ep p):∃f g:Nat,f<64∧g<64∧m.aD=f∧m.to=g∧m.bZ=false∧m.bh=0∧(own p).getLsbD f=true∧(own p).getLsbD g=false∧Cp p m=true∧Xy p m=true:=by
 have t0:=hp.t0;have htt:p.aa=0∨p.aa=1:=by have:=hth.1;omega
 obtain⟨_,f,g,hf,hg,ef,eg,hd,hc,_,_,h1,h2⟩:=gC hp.v0 hm;have h3:m∈xz p f g:=by
  rw[ll hp.v0 hth]at hm;obtain⟨a,_,hm⟩:=List.mem_flatMap.1 hm;obtain⟨b,_,hm⟩:=List.mem_flatMap.1 hm;have:m.aD=a∧m.to=b:=by revert hm;unfold xz;refine al (P:=fun l:M'=>m∈l→_) (by simp_all) fun _=>al (P:=fun l:M'=>m∈l→_) (by simp_all) fun _ h=>?_;obtain⟨k,_,h⟩:=List.mem_flatMap.1 h;simp at h;rw[h];exact⟨rfl,rfl⟩
  rw[←this.1,←this.2,ef,eg]at hm;exact hm
 have hR:=Hb hp hth hf hg;rw[h1,h2]at hR;simp only[cond_true]at hR;rw[←hR]at h3;have e160:DM p f g=true:=by
  cases h:DM p f g with
  |true=>rfl
  |false=>unfold fN at h3;rw[h]at h3;cases h3
 have o160:=t93 hp htt hf hg;have wf:wr .i64 (f:Int)=f:=aF (by omega) (by omega);have wg:wr .i64 (g:Int)=g:=aF (by omega) (by omega);refine⟨f,g,hf,hg,ef,eg,hc,hd,h1,TM h2,?_⟩;unfold Cp Xy;unfold fN at h3;rw[e160]at h3;obtain⟨o173,e173⟩:=RK p.variant m.bU;rw[ky hth,hc,hd,ef,eg,wf,wg,e160,o160,iu,Int.toNat_natCast,decide_eq_false (show ¬((f:Int)<0)by omega),decide_eq_false (show ¬((f:Int)>63)by omega),decide_eq_false (show ¬((g:Int)<0)by omega),decide_eq_false (show ¬((g:Int)>63)by omega),decide_eq_true (show(0:Int)≤f by omega),decide_eq_true (show(f:Int)<Int.ofNat 64 by show(f:Int)<64;omega),o173,e173];grind
theorem vW {m:Mv}(hm:m∈bR p):nN p m=true∧iq p m=bC p m:=by
 have hth1:=hth.1;have htt:p.aa=0∨p.aa=1:=by have:=hp.t0;omega
 have hl:(ep p).length≤1000000:=Nat.le_trans (hY hp.v0) (by omega);have no:(m.bZ=true∨(m.bZ=false∧m.bh≠0))→nN p m=true∧iq p m=bC p m:=fun h=>by
  have e133:Xy p m=false∧Cp p m=true:=by
   unfold Cp Xy;rw[ky hth];rcases h with h|⟨h,h'⟩
   ·simp_all
   ·simp_all
  have hnm:m∉ep p:=fun hm=>by obtain⟨_,_,_,_,_,_,_,hd,hc,_⟩:=gC hp.v0 hm;simp_all
  unfold nN iq bC;rw[e133.1,e133.2,lf hth,mF hl,decide_eq_false hnm];exact⟨rfl,rfl⟩
 rw[oJ]at hm;rcases List.mem_append.1 hm with hm|hm
 ·rcases List.mem_append.1 hm with hm|hm
  ·obtain⟨f,g,hf,hg,ef,eg,hc,hd,h1,h2,h3,h4⟩:=T8 hp hth hm;have wg:wr .i64 (g:Int)=g:=aF (by omega) (by omega);have e134:=zF hp htt hg;have o134:=t97 (p:=p) hp htt hg;have hb:=fa hp (scale 1 (f:Int)).toNat;obtain⟨e89,_⟩:=sI hb.1 hb.2;unfold nN iq bC;rw[h3,h4,lf hth,mF hl,decide_eq_true hm,ef,eg,wg,e134,o134,fw (by omega) (by omega),Int.toNat_natCast,e89,BitVec.getLsbD_or,h2];simp only[Bool.false_or,Bool.not_not];rw[OK _ hg,decide_eq_true (show(0:Int)≤f by omega),decide_eq_true (show(f:Int)<Int.ofNat 64 by show(f:Int)<64;omega)];refine⟨by simp_all,?_⟩;have e90:wr .i64 ((g:Int)-iG p.aa)=dA (wr .u8 (1-p.aa)) g:=by
    rcases htt with h|h<;>rw[h]<;>unfold dA iG
    ·show wr .i64 ((g:Int)-8)=wr .i64 ((g:Int)-8);rfl
    ·show wr .i64 ((g:Int) - -8)=wr .i64 ((g:Int)+8);congr 1
   rw[e90];rfl
  ·obtain⟨_,_,_,_,_,hc,_⟩:=uN hp hm;exact no (.inl hc)
 ·obtain⟨_,_,_,_,_,hc,d1,_⟩:=mG hp.t0 hm;grind
end
def StI {X R:Type}(I:X→Prop)(Q:R→Prop):aG X R→Prop
 | .go y=>I y
 | .out r=>Q r
 | .bad=>True
theorem vM {X R:Type}{f:X→aG X R}(I:X→Prop)(Q:R→Prop)(h:∀x,I x→StI I Q (f x)):∀(n:Nat) (x:X) (r:R),I x→cW f n x=some r→Q r
 | 0,_,_,_,e=>by cases e
 |n+1,x,r,hx,e=>by
  have:=h x hx
  unfold cW at e
  cases hf:f x with
  |go y=>rw[hf]at this e;exact vM I Q h n y r this e
  |out r'=>rw[hf]at this e;cases e;exact this
  |bad=>rw[hf]at e;cases e
def SC (q r:Pos):Prop:=r.half=q.half∧r.full=q.full
theorem SC.rfl {q:Pos}:SC q q:=⟨Eq.refl _,Eq.refl _⟩
abbrev SCs (q:Pos):aG (Int×Pos) (Int×Bool×Pos)→Prop:=StI (fun x=>SC q x.2) (fun r=>SC q r.2.2)
theorem sc6 {q:Pos}(c k:Int)(l:List Int)(a:Pos)(m1:Mv)(b:Pos)(m2:Mv)(e:Int){x:Int×Pos}{r:Int×Bool×Pos}(hx:SC q x.2)(h:lW c k l a m1 b m2 e x=some r):SC q r.2.2:=by unfold lW at h;refine vM (fun x=>SC q x.2) (fun r=>SC q r.2.2) (fun x hx=>?_) many x r hx h;show SCs q _;refine al (P:=fun s=>SCs q s) (fun _=>?_) fun _=>trivial;unfold A8;repeat' (first|exact(show SC q _ from hx)|refine al (P:=fun s=>SCs q s) (fun _=>?_) (fun _=>?_))
theorem sc7 {q:Pos}(a:Pos)(m1:Mv)(b:Pos)(m2:Mv)(e:Int){x:Int×Pos}{r:Int×Bool×Pos}(hx:SC q x.2)(h:ew a m1 b m2 e x=some r):SC q r.2.2:=by unfold ew at h;refine vM (fun x=>SC q x.2) (fun r=>SC q r.2.2) (fun x hx=>?_) many x r hx h;show SCs q _;refine al (P:=fun s=>SCs q s) (fun hok=>?_) fun _=>trivial;unfold Es;unfold y0 at hok;refine al (P:=fun s=>SCs q s) (fun hc=>?_) (fun _=>hx);rw[hc]at hok;simp only[cond_true,E']at hok;obtain⟨_,_,h6,_⟩:=hok;exact sc6 _ _ _ _ _ _ _ _ (x:=(0,x.2)) hx (rT h6)
theorem agz (q:Pos)(b c:Int):SC q (rq q b c).1:=by unfold rq;exact al (P:=fun x:Pos×Bool=>SC q x.1) (fun _=>⟨rfl,rfl⟩) fun _=>al (P:=fun x:Pos×Bool=>SC q x.1) (fun _=>⟨rfl,rfl⟩) fun _=>⟨rfl,rfl⟩
theorem aii (q:Pos)(b c:Int):SC q (ic q b c):=by unfold ic;exact al (P:=fun x:Pos=>SC q x) (fun _=>al (P:=fun x:Pos=>SC q x) (fun _=>⟨rfl,rfl⟩) fun _=>⟨rfl,rfl⟩) fun _=>⟨rfl,rfl⟩
noncomputable section
variable {p:Pos}(hp:ax p){m:Mv}
include hp
theorem sc1 (q:Pos)(c:Int):SC q (bT p m q p m c):=by have h:=agz q q.aa m.bh;unfold bT;repeat' (first|exact⟨rfl,rfl⟩|exact h|refine al (P:=fun x:Pos=>SC q x) (fun _=>?_) (fun _=>?_))
theorem sc2 (q:Pos)(c:Int):SC q (cy p m q p m c):=by have h:=aii q q.aa;unfold cy;repeat' (first|exact⟨rfl,rfl⟩|exact h _|refine al (P:=fun x:Pos=>SC q x) (fun _=>?_) (fun _=>?_))
theorem sc4 {q:Pos}(hk:dT p q)(c:Int):SC q (cV p m q p m c):=by obtain⟨b1,C,b2,b3,b4⟩:=aJ (VX hk.cn (l:=gw (qL q (wr .i64 m.to))) (by rw[dy];exact dC _ _) (fun s hs=>by rw[dy]at hs;exact jO hs) p p m m c);unfold cV;rw[b2];repeat' (first|exact⟨rfl,rfl⟩|refine al (P:=fun x:Pos=>SC q x) (fun _=>?_) (fun _=>?_))
theorem sc8 (ht:p.aa≤1){q:Pos}(h:dT p q)(c:Int):SC q (de p m q p m c):=by
 have t0:=hp.t0;have h2:dT p ⟨q.variant,q.ab,q.ai,q.ah,q.aa,List.take (scale 2 q.aa).toNat q.ao++li [-1,-1]++List.drop ((scale 2 q.aa).toNat+2) q.ao,q.az,q.au,q.half,q.full⟩:=by
  refine h.ao ?_ ?_
  ·have hr:=h.cn.rl;have:(scale 2 q.aa).toNat≤2:=by rw[h.t];unfold scale;simp;omega
   grind
  ·intro x hx;simp only[List.mem_append,li]at hx;rcases hx with(hx|hx)|hx
   ·exact h.cn.r0 x (by grind)
   ·simp at hx;omega
   ·exact h.cn.r0 x (by grind)
 obtain⟨r1,k1,_⟩:=gQ h p p m m c;obtain⟨r2,k2,_⟩:=gQ h2 p p m m c;have b1:SC q r1.2.2:=sc7 p m p m c (x:=(0,q)) SC.rfl k1;have b2:SC q r2.2.2:=sc7 p m p m c (x:=(0,⟨q.variant,q.ab,q.ai,q.ah,q.aa,List.take (scale 2 q.aa).toNat q.ao++li [-1,-1]++List.drop ((scale 2 q.aa).toNat+2) q.ao,q.az,q.au,q.half,q.full⟩)) ⟨rfl,rfl⟩ k2;unfold de;grind
end
def sh (p:Pos)(m:Mv)(d:Int):Int:=bif m.bh==1 then 0 else bif m.bh==0 then(bif bE (p.ab.getD (scale 1 m.aD).toNat 0)==1 then 0 else bif decide (d≥0)then 0 else fi p.half)else bif decide (d≥0)then 0 else fi p.half
def aa3 (p z:Pos)(s h f:Int):Pos :=
 bif z.variant==5 then(bif decide (z.au.getD (scale 1 p.aa).toNat 0<3)then(bif oH (Pos.mk z.variant z.ab z.ai z.ah (wr .u8 (1-p.aa)) z.ao s z.au h f) (wr .u8 (1-p.aa))then Pos.mk z.variant z.ab z.ai z.ah (wr .u8 (1-p.aa)) z.ao s (z.au.set (scale 1 p.aa).toNat (wr .u8 (z.au.getD (scale 1 p.aa).toNat 0+1))) h f else Pos.mk z.variant z.ab z.ai z.ah (wr .u8 (1-p.aa)) z.ao s z.au h f)else Pos.mk z.variant z.ab z.ai z.ah (wr .u8 (1-p.aa)) z.ao s z.au h f)else Pos.mk z.variant z.ab z.ai z.ah (wr .u8 (1-p.aa)) z.ao s z.au h f
def IL (p:Pos)(m:Mv)(d:Int):Pos:=BN p (Bq p m d) m d
def Kd (p:Pos)(m:Mv)(d:Int):Pos:=Ro p (bif p.variant==3 then(bif decide (d≥0)then((mU d (Rc (IL p m d) (wr .i64 m.to)) p m (0,IL p m d)).getD default).2.2 else IL p m d)else IL p m d) m d
theorem Uv (p:Pos)(m:Mv):yB p m=aa3 p (Kd p m (iq p m)) (fo p (Kd p m (iq p m)) m) (sh p m (iq p m)) (bif p.aa==1 then fi p.full else(Kd p m (iq p m)).full):=by unfold yB Kd IL sh;dsimp only;cases p.variant==3<;>cases decide (iq p m≥0)<;>cases m.bh==1<;>cases m.bh==0<;>cases bE (p.ab.getD (scale 1 m.aD).toNat 0)==1<;>cases p.aa==1<;>rfl
noncomputable section
variable {p:Pos}(hp:ax p)(hth:there p){m:Mv}
include hp
theorem pr1 (q:Pos)(c:Int):(bT p m q p m c).ai=q.ai:=by
 have h:(rq q q.aa m.bh).1.ai=q.ai:=by unfold rq;exact(by grind)
 unfold bT;grind
include hth
theorem abR {z:Pos}(hz:dT p z)(hsc:SC p z)(hm:m∈bR p)(d:Int):aa3 p z (fo p z m) (sh p m d) (bif p.aa==1 then fi p.full else z.full)=df p m (c9 p m (dE p m z p m d) p m d) p m d ∧
  ∀h f:Int,(h=0∨h=fi p.half)→(f=fi p.full∨f=z.full)→jN (Pos.mk z.variant z.ab z.ai z.ah (wr .u8 (1-p.aa)) z.ao (fo p z m) z.au h f) (wr .u8 (1-p.aa))=true:=by
 obtain⟨_,f0,f1,_⟩:=iL hp hm;obtain⟨t,hpt,ht⟩:=hM hp hth.1;obtain⟨_,e9⟩:=wH hp hz hth hm d;have k9:=(GQ m hz (fun _=>⟨f0,f1⟩) p m d).2;rw[e9]at k9;have sp0 : -128≤fo p z m:=k9.cn.p0;have sp1:fo p z m≤127:=k9.cn.p1;have wt:wr .u8 (1-p.aa)=((1-t:Nat):Int):=by rw[hpt,kD (by omega) (by omega)];omega
 have n102:∀n:Int,-9223372036854775808≤n∧n≤9223372036854775807 → -9223372036854775808≤fi n∧fi n≤9223372036854775807:=fun n hn=>Ao hn
 have cn:∀h f:Int,(-9223372036854775808≤h∧h≤9223372036854775807)→(-9223372036854775808≤f∧f≤9223372036854775807)→ax (Pos.mk z.variant z.ab z.ai z.ah (wr .u8 (1-p.aa)) z.ao (fo p z m) z.au h f):=fun h f hh hf =>
  ⟨hz.cn.v0,hz.cn.v1,hz.cn.bl,hz.cn.b0,hz.cn.kl,hz.cn.k0,by simp_all,by grind,hz.cn.rl,hz.cn.r0,sp0,sp1,hz.cn.cl,hz.cn.c0,hh,hf⟩
 have tt:∀h f:Int,(Pos.mk z.variant z.ab z.ai z.ah (wr .u8 (1-p.aa)) z.ao (fo p z m) z.au h f).aa=0∨(Pos.mk z.variant z.ab z.ai z.ah (wr .u8 (1-p.aa)) z.ao (fo p z m) z.au h f).aa=1:=by grind
 have ttw:wr .u8 (1-p.aa)=0∨wr .u8 (1-p.aa)=1:=by rw[wt];omega
 refine⟨?_,fun h f hh hf=>?_⟩
 ·have hb:=fa hp (scale 1 m.aD).toNat;obtain⟨e89,_⟩:=sI hb.1 hb.2;have e10:c9 p m (NQ z (fo p z m)) p m d=⟨z.variant,z.ab,z.ai,z.ah,z.aa,z.ao,fo p z m,z.au,sh p m d,bif p.aa==1 then fi p.full else z.full⟩:=by
   unfold c9 sh NQ;dsimp only;rw[e89,hz.t,hsc.1,hsc.2,show lU p.half=fi p.half from rfl,show lU p.full=fi p.full from rfl];by_cases h0:m.bh=0
   ·grind
   ·grind
  rw[e9,e10];have hH : -9223372036854775808≤sh p m d∧sh p m d≤9223372036854775807:=by unfold sh;repeat' (first|exact⟨by omega,by omega⟩|exact n102 _ hp.h0|refine al (P:=fun x:Int => -9223372036854775808≤x∧x≤9223372036854775807) (fun _=>?_) (fun _=>?_))
  have hF : -9223372036854775808≤(bif p.aa==1 then fi p.full else z.full)∧(bif p.aa==1 then fi p.full else z.full)≤9223372036854775807 :=
   al (P:=fun x:Int => -9223372036854775808≤x∧x≤9223372036854775807) (fun _=>n102 _ hp.f0) (fun _=>hz.cn.f0)
  unfold aa3 df;dsimp only;rw[hz.t,(ug (cn _ _ hH hF) (tt _ _) ttw).2];have back:wr .u8 (1-wr .u8 (1-p.aa))=p.aa:=by rw[wt,hpt,kD (by omega) (by omega)];omega
  rw[back]
 ·refine(ug (cn h f ?_ ?_) (tt h f) ttw).1
  ·rcases hh with rfl|rfl
   ·omega
   ·exact n102 _ hp.h0
  ·rcases hf with rfl|rfl
   ·exact n102 _ hp.f0
   ·exact hz.cn.f0
theorem zf (hm:m∈bR p):Jq p m=true∧yB p m=mvd p m:=by
 obtain⟨_,f0,f1,o0,o1,_,d5,_⟩:=iL hp hm;have hb8 : -128≤m.aD∧m.aD≤127:=by omega
 obtain⟨o79,e79⟩:=vW hp hth hm;obtain⟨o116,e116⟩:=ach hp hm;have k1:dT p (bT p m p p m (bC p m)):=Gf hp m p m (bC p m);obtain⟨o117,e117⟩:=Jh hp k1 (pr1 hp p _) hm;have k2:=G4 m k1 p m (bC p m);obtain⟨o118,l58,e4⟩:=SF (p:=p) k2 o0 o1 (bC p m);have k4:=(GX m k2 p m (bC p m)).2;obtain⟨o120,e120⟩:=JV hp k4 hb8 (bC p m) hth.1 (fun _=>⟨f0,f1⟩) d5;have k8:=(Gl hp m hth.1 k4 (fun _=>⟨f0,f1⟩) p m (bC p m)).2;obtain⟨o121,_⟩:=wH hp k8 hth hm (bC p m);have s1:=sc1 hp (m:=m) p (bC p m);have s2:=sc2 hp (m:=m) (bT p m p p m (bC p m)) (bC p m);have s4:=sc4 hp (m:=m) k2 (bC p m);have s8:=sc8 hp (m:=m) hth.1 k4 (bC p m)
 have hsc:SC p (de p m (cV p m (cy p m (bT p m p p m (bC p m)) p m (bC p m)) p m (bC p m)) p m (bC p m)) :=
  ⟨s8.1.trans (s4.1.trans (s2.1.trans s1.1)),s8.2.trans (s4.2.trans (s2.2.trans s1.2))⟩
 obtain⟨eEnd,o47⟩:=abR hp hth k8 hsc hm (bC p m);have e3:Kd p m (bC p m)=de p m (cV p m (cy p m (bT p m p p m (bC p m)) p m (bC p m)) p m (bC p m)) p m (bC p m):=by unfold Kd IL;rw[e116,e117,e4,e120]
 constructor
 ·have i1:decide (0≤p.aa)=true:=decide_eq_true hp.t0;have i2:decide (p.aa<Int.ofNat 2)=true:=decide_eq_true (by show p.aa<2;have:=hth.1;omega);have i3:decide (0≤m.aD)=true:=decide_eq_true f0;have i4:decide (m.aD<Int.ofNat 64)=true:=decide_eq_true f1;unfold Jq;grind
 ·rw[Uv,e79,e3,eEnd];rfl
end
end Kz
namespace Kz
open Go Go.RowKit Go.Proofs
def K26:KT:=[(26,16,[(0,[1]),(1,[1,3]),(2,[1,3]),(3,[1,3]),(4,[2])])]
def B26:ar:=bO Pz K26 [(38,G38),(54,G54),(55,G55)] [] []
theorem aui:aO B26:=af ae ⟨s38,s54,s55,trivial⟩ trivial trivial
def BW (a:Pos):M':=([]++DJ a++PH a++N55 a)
def Et (a:Pos):Bool:=(DV a&&(0==0&&decide (0+(DJ a).length≤1073741824)&&(E5 a&&(([]++DJ a).length==([]++DJ a).length&&decide (([]++DJ a).length+(PH a).length≤1073741824)&&(NV a&&(([]++DJ a++PH a).length==([]++DJ a++PH a).length&&decide (([]++DJ a++PH a).length+(N55 a).length≤1073741824)&&true))))))
theorem P26 (a:Pos)(h:Et a=true):PS Pz 26 [Pos.av a] ((dL .mv).res (BW a)):=pq14 aui h
def G26:GT:=g1 aZ (fun a=>b7 (Et a) ((dL .mv).res (BW a)))
theorem s26:Sound Pz 26 G26:=aH fun a=>aA (P26 a)
def K75:KT:=[(75,8,[(0,[1,2]),(1,[4])])]
def B75:ar:=bO Pz K75 [(150,As)] [] []
theorem atS:aO B75:=af ae ⟨C5,trivial⟩ trivial trivial
def pS (a:Pos)(b:Int):Int:=(cE a b 6)
def rH (a:Pos)(b:Int):Bool:=(vr a b 6&&true)
theorem P75 (a:Pos)(b:Int)(h:rH a b=true):PS Pz 75 [Pos.av a,.int .u8 b] ((dI .i64).res (pS a b)):=pq14 atS h
def Yy:GT:=g2 aZ (dI .u8) (fun a b=>b7 (rH a b) ((dI .i64).res (pS a b)))
theorem s75:Sound Pz 75 Yy:=aP fun a b=>aA (P75 a b)
def K85:KT:=[(85,48,[(0,(2::3::(rn 21 4 (rn 31 7 (rn 43 4 []))))),(1,(2::3::5::6::(rn 21 4 (rn 31 7 (rn 43 4 []))))),(2,(2::3::5::6::16::(rn 21 4 (rn 31 7 (rn 43 4 []))))),(3,(2::3::5::6::7::(rn 31 7 (rn 43 4 [])))),(4,(2::3::6::38::(rn 43 4 []))),(5,[4]),(6,[4])])]
def B85:ar:=bO Pz K85 [(33,G33),(75,Yy),(84,G84)] [] []
theorem aoq:aO B85:=af ae ⟨s33,s75,s84,trivial⟩ trivial trivial
def N85 (a:Pos)(b:Pos):Bool:=(bif Qc a.variant a.aa then(bif a.variant==3 then(bif decide (pS b a.aa<0)then(false)else(bif !decide (pS b (wr .u8 (1-a.aa))<0)then(bif oH b a.aa then(false)else(bif a.variant != 8 then(true)else(!oH b (wr .u8 (1-a.aa)))))else(bif a.variant != 8 then(true)else(!oH b (wr .u8 (1-a.aa))))))else(bif decide (pS b a.aa<0)then(false)else(bif oH b a.aa then(false)else(bif a.variant != 8 then(true)else(!oH b (wr .u8 (1-a.aa)))))))else(bif a.variant != 8 then(true)else(!oH b (wr .u8 (1-a.aa)))))
def N0 (a:Pos)(b:Pos):Bool:=(bif Qc a.variant a.aa then(bif a.variant==3 then(rH b (wr .u8 (1-a.aa))&&(rH b (a.aa)&&(bif decide (pS b a.aa<0)then true else(bif !decide (pS b (wr .u8 (1-a.aa))<0)then(jN b (a.aa)&&(bif oH b a.aa then true else(bif a.variant != 8 then true else(jN b (wr .u8 (1-a.aa))&&true))))else(bif a.variant != 8 then true else(jN b (wr .u8 (1-a.aa))&&true))))))else(rH b (a.aa)&&(bif decide (pS b a.aa<0)then true else(jN b (a.aa)&&(bif oH b a.aa then true else(bif a.variant != 8 then true else(jN b (wr .u8 (1-a.aa))&&true)))))))else(bif a.variant != 8 then true else(jN b (wr .u8 (1-a.aa))&&true)))
theorem P85 (a:Pos)(b:Pos)(h:N0 a b=true):PS Pz 85 [Pos.av a,Pos.av b] (dB.res (N85 a b)):=pq14 aoq h
def G85:GT:=g2 aZ aZ (fun a b=>b7 (N0 a b) (dB.res (N85 a b)))
theorem s85:Sound Pz 85 G85:=aP fun a b=>aA (P85 a b)
def K35:KT:=[(35,77,[(0,(1::(rn 11 12 (rn 52 7 [71,72,73])))),(1,(1::3::4::(rn 11 12 (rn 52 7 [71,72,73])))),(2,(1::3::4::23::(rn 52 7 [71,72,73]))),(3,[2]),(4,(1::3::4::5::(rn 52 7 [71,72,73]))),(5,(1::(rn 3 4 (rn 52 7 [71,72,73])))),(6,(1::(rn 3 4 (29::(rn 52 7 [71,72,73]))))),(7,(1::(rn 3 4 (rn 52 7 [71,72,73])))),(8,(1::(rn 3 4 (40::(rn 52 7 [71,72,73]))))),(9,(1::(rn 3 4 (rn 52 7 [71,72,73])))),(10,(1::(rn 3 4 (rn 52 8 [71,72,73])))),(11,(1::(rn 3 4 (rn 52 7 [71,72,73])))),(12,[3,4,74]),(13,[2]),(14,[2])])]
def afx:ar:=bO Pz K35 [(19,JZ),(26,G26),(36,G36),(75,Yy),(84,G84),(85,G85),(39,Se)] [] []
theorem ZA:aO afx:=af ae ⟨Kg,s26,s36,s75,s84,s85,VT,trivial⟩ trivial trivial
def VB (p1:M')(p2:Pos)(p3:Nat)(x:(M'×M'×Int×Nat)):St:=St.mk (.any::.ptr 0 0::.any::.list .mv x.1 (.own 1)::.list .mv x.2.1 (.own 2)::.list .mv p1 .fresh::.int .i64 x.2.2.1::(an 64 (.undef::.undef::.undef::(an 3 [])))) (Hp.mk [(pc p2 [])] [p3,x.1.length,x.2.2.2] [] 0 0 0)
def VN (p1:M')(p2:Pos)(p3:Nat):(M'×M'×Int×Bool×Nat)→Out:=fun y=>.exit 0 (St.mk (.any::.ptr 0 0::.any::.list .mv y.1 (.own 1)::.list .mv y.2.1 (.own 2)::.list .mv p1 .fresh::.int .i64 y.2.2.1::(an 22 (.bool y.2.2.2.1::(an 41 (.undef::.undef::.undef::(an 3 [])))))) (Hp.mk [(pc p2 [])] [p3,y.1.length,y.2.2.2.2] [] 0 0 0))
def Qq (p1:M')(p2:Pos)(p3:Nat)(x:(M'×M'×Int×Nat)):aG (M'×M'×Int×Nat) ((M'×M'×Int×Bool×Nat)):=(bif decide (x.2.2.1<Int.ofNat p1.length)then(bif !N85 p2 (yB p2 (p1.getD x.2.2.1.toNat default))then(aG.go (x.1,x.2.1,wr .i64 (x.2.2.1+1),x.2.2.2))else(bif p2.variant==4 then(bif decide (iq p2 (p1.getD x.2.2.1.toNat default)≥0)then(aG.go (x.1++[p1.getD x.2.2.1.toNat default],x.2.1++[p1.getD x.2.2.1.toNat default],wr .i64 (x.2.2.1+1),(x.2.1++[p1.getD x.2.2.1.toNat default]).length))else(aG.go (x.1++[p1.getD x.2.2.1.toNat default],x.2.1,wr .i64 (x.2.2.1+1),x.2.2.2)))else(aG.go (x.1++[p1.getD x.2.2.1.toNat default],x.2.1,wr .i64 (x.2.2.1+1),x.2.2.2))))else(aG.out ((x.1,x.2.1,x.2.2.1,decide (x.2.2.1<Int.ofNat p1.length),x.2.2.2))))
def Hj (p1:M')(p2:Pos)(p3:Nat)(x:(M'×M'×Int×Nat)):Bool:=(bif decide (x.2.2.1<Int.ofNat p1.length)then(decide (0≤x.2.2.1)&&decide (x.2.2.1<Int.ofNat p1.length)&&(Jq p2 (p1.getD x.2.2.1.toNat default)&&(N0 p2 (yB p2 (p1.getD x.2.2.1.toNat default))&&(bif !N85 p2 (yB p2 (p1.getD x.2.2.1.toNat default))then true else(decide (0≤x.2.2.1)&&decide (x.2.2.1<Int.ofNat p1.length)&&(x.1.length==x.1.length&&decide (x.1.length+1≤1073741824)&&(bif p2.variant==4 then(decide (0≤x.2.2.1)&&decide (x.2.2.1<Int.ofNat p1.length)&&(nN p2 (p1.getD x.2.2.1.toNat default)&&(bif decide (iq p2 (p1.getD x.2.2.1.toNat default)≥0)then(decide (0≤x.2.2.1)&&decide (x.2.2.1<Int.ofNat p1.length)&&(x.2.2.2==x.2.1.length&&decide (x.2.1.length+1≤1073741824)&&true))else true)))else true)))))))else true)
def gK (p1:M')(p2:Pos)(p3:Nat)(x:(M'×M'×Int×Nat)):Option ((M'×M'×Int×Bool×Nat)):=cW (fun x=>bif Hj p1 p2 p3 x then Qq p1 p2 p3 x else .bad) many x
abbrev VD {α:Type}(k:M'→Pos→Nat→(M'×M'×Int×Nat)→α)(s:St):α:=wP s 0 fun q0=>k (tL (ET.mv) (tT s 5)) q0 (tK s 0) ((tL (ET.mv) (tT s 3)),(tL (ET.mv) (tT s 4)),(tI (tT s 6)),(tK s 2))
theorem aeY (p1:M')(p2:Pos)(p3:Nat)(x:(M'×M'×Int×Nat))(r:(M'×M'×Int×Bool×Nat))(h:gK p1 p2 p3 x=some r):aC Pz (bc Pz 35 6) (VB p1 p2 p3 x) (VN p1 p2 p3 r):=smq (m:=12) (fn:=35) ZA (VD fun _ _ _ x=>some x) (fun o=>match o with | .exit 0 s=>some ((tL ET.mv (tT s 3)),(tL ET.mv (tT s 4)),(tI (tT s 6)),(tB (tT s 29)),(tK s 2))|_=>none) many x r h
def V0 (b:Code)(s:St):Tr Out:=VD (fun p1 p2 p3 x=>jS b (bc Pz 35 6) s (VB p1 p2 p3 x) (gK p1 p2 p3 x) (VN p1 p2 p3)) s
theorem aaW:∀b,aT Pz b (V0 b):=fun _ _ _ h=>bF (aeY _ _ _ _) h
def B35:ar:=bO Pz K35 [(19,JZ),(26,G26),(36,G36),(75,Yy),(84,G84),(85,G85),(39,Se)] [(35,6,V0)] []
theorem atI:aO B35:=af ae ⟨Kg,s26,s36,s75,s84,s85,VT,trivial⟩ ⟨aaW,trivial⟩ trivial
def IJ (a:Pos):M':=(bif !qK a then([])else(bif Qc a.variant a.aa then(bif decide (pS a a.aa<0)then([])else(bif a.variant==4 then(bif decide (Int.ofNat ((gK (BW a) a 0 ([],[],0,0)).getD default).2.1.length>0)then(((gK (BW a) a 0 ([],[],0,0)).getD default).2.1)else(((gK (BW a) a 0 ([],[],0,0)).getD default).1))else(((gK (BW a) a 0 ([],[],0,0)).getD default).1)))else(bif a.variant==4 then(bif decide (Int.ofNat ((gK (BW a) a 0 ([],[],0,0)).getD default).2.1.length>0)then(((gK (BW a) a 0 ([],[],0,0)).getD default).2.1)else(((gK (BW a) a 0 ([],[],0,0)).getD default).1))else(((gK (BW a) a 0 ([],[],0,0)).getD default).1))))
def zk (a:Pos):Bool:=(bif !qK a then true else(bif Qc a.variant a.aa then(rH a (a.aa)&&(bif decide (pS a a.aa<0)then true else(Et a&&((gK (BW a) a 0 ([],[],0,0)).isSome&&true))))else(Et a&&((gK (BW a) a 0 ([],[],0,0)).isSome&&true))))
theorem P35 (a:Pos)(h:zk a=true):PS Pz 35 [Pos.av a] ((dL .mv).res (IJ a)):=pq14 atI h
def G35:GT:=g1 aZ (fun a=>b7 (zk a) ((dL .mv).res (IJ a)))
theorem s35:Sound Pz 35 G35:=aH fun a=>aA (P35 a)
end Kz
namespace Kz
open Go Go.RowKit
theorem lS {q:Pos}(hq:ax q){c:Int}(hc:c=0∨c=1):rH q c=true∧pS q c=bg q c 6:=by obtain⟨h1,h2⟩:=pg hq hc (k:=6) (by omega) (by omega);exact⟨ak h1 fun _=>rfl,h2⟩
theorem Ws (x:Int):decide (x<0)=!decide (x≥0):=by grind
noncomputable section
variable {p:Pos}(hp:ax p)(hth:there p)
include hp hth
theorem Qm:Et p=true∧BW p=bR p:=by obtain⟨a1,a2⟩:=D4 hp hth;obtain⟨b1,b2⟩:=Zx hp;obtain⟨c1,c2⟩:=aaZ hp;have l1:(ep p).length≤20480:=hY hp.v0;have l2:=uD (p:=p) hp;have l3:=wh (p:=p) hp.t0;unfold Et BW;rw[a1,a2,b1,b2,c1,c2,oJ,List.nil_append];refine⟨?_,rfl⟩;rw[decide_eq_true (show 0+(ep p).length≤1073741824 by omega),decide_eq_true (show(ep p).length+(fc p).length≤1073741824 by omega),decide_eq_true (show(ep p++fc p).length+(nQ p).length≤1073741824 by rw[List.length_append];omega),beq_self_eq_true,beq_self_eq_true,beq_self_eq_true];rfl
theorem Sh {m:Mv}(hm:m∈bR p):N0 p (yB p m)=true∧N85 p (yB p m)=gh p m:=by
 obtain⟨t,hpt,ht⟩:=hM hp hth.1;obtain⟨_,e58⟩:=zf hp hth hm;have hmv:=(kc hp m).2.1 hm;have e17:du p m=(mvd p m,true):=by rw[GU,mF (by have:=kJ hp;omega),decide_eq_true hm];rfl
 rw[e17]at hmv;obtain⟨_,hq,_,htq⟩:=hmv;have hqt:(mvd p m).aa=0∨(mvd p m).aa=1:=by have:(mvd p m).aa=1-p.aa:=htq;omega
 have hc:p.aa=0∨p.aa=1:=by omega
 have hc':wr .u8 (1-p.aa)=0∨wr .u8 (1-p.aa)=1:=by rw[hpt,kD (by omega) (by omega)];omega
 obtain⟨o1,e1⟩:=lS hq hc;obtain⟨o2,e2⟩:=lS hq hc';obtain⟨o3,e3⟩:=ug hq hqt hc;obtain⟨o4,e4⟩:=ug hq hqt hc';have er:=wS (v:=p.variant) hp.v0 hc;rw[e58];unfold N0 N85 gh oC;grind
theorem an8:∃r,gK (bR p) p 0 ([],[],0,0)=some r∧r.1=(bR p).filter (gh p)∧r.2.1=(bif p.variant==4 then((bR p).filter (gh p)).filter (ig p)else[]):=by
 have hlen:=kJ hp;refine aQ (Q:=fun r:M'×M'×Int×Bool×Nat=>r.1=(bR p).filter (gh p)∧r.2.1=(bif p.variant==4 then((bR p).filter (gh p)).filter (ig p)else[])) (I:=fun x:M'×M'×Int×Nat=>∃n:Nat,n≤(bR p).length∧x.2.2.1=n∧x.1=((bR p).take n).filter (gh p)∧x.2.1=(bif p.variant==4 then(((bR p).take n).filter (gh p)).filter (ig p)else[])∧x.2.2.2=x.2.1.length) (μ:=fun x=>((bR p).length-x.2.2.1).toNat) ?_ _ (by grind) (by simp;omega);rintro⟨a,b,x,k⟩ ⟨n,hn,hx,ha,hb,hk⟩;simp only at hx ha hb hk;subst hx ha hk;unfold Hj Qq;dsimp only;by_cases hc:n<(bR p).length
 ·have hm:(bR p).getD n default∈bR p:=eD hc;have ht:(bR p).take (n+1)=(bR p).take n++[(bR p).getD n default]:=by rw[List.take_add_one,List.getD_eq_getElem?_getD,I' hc];rfl
  have la:(((bR p).take n).filter (gh p)).length≤n:=by grind
  have lb:b.length≤n:=by rw[hb];refine(by grind)
  rw[decide_eq_true (show(n:Int)<Int.ofNat (bR p).length from Int.ofNat_lt.2 hc),decide_eq_true (show(0:Int)≤n by omega),Int.toNat_natCast,aF (n:=(n:Int)+1) (by omega) (by omega)];generalize (bR p).getD n default=m at *;obtain⟨o58,_⟩:=zf hp hth hm;obtain⟨o78,e78⟩:=Sh hp hth hm;obtain⟨o79,e79⟩:=vW hp hth hm;have eT:ig p m=decide (bC p m≥0):=rfl;rw[o58,o78,e78,o79,e79,decide_eq_true (show(((bR p).take n).filter (gh p)).length+1≤1073741824 by omega),decide_eq_true (show b.length+1≤1073741824 by omega),beq_self_eq_true,beq_self_eq_true];constructor
  ·simp_all
  ·have go:∀(a' b':M') (k':Nat),a'=((bR p).take (n+1)).filter (gh p)→b'=(bif p.variant==4 then(((bR p).take (n+1)).filter (gh p)).filter (ig p)else[])→k'=b'.length →
     xf (fun x:M'×M'×Int×Nat=>∃n:Nat,n≤(bR p).length∧x.2.2.1=n∧x.1=((bR p).take n).filter (gh p)∧x.2.1=(bif p.variant==4 then(((bR p).take n).filter (gh p)).filter (ig p)else[])∧x.2.2.2=x.2.1.length) (fun r:M'×M'×Int×Bool×Nat=>r.1=(bR p).filter (gh p)∧r.2.1=(bif p.variant==4 then((bR p).filter (gh p)).filter (ig p)else[])) (fun x:M'×M'×Int×Nat=>((bR p).length-x.2.2.1).toNat) ((((bR p).length:Int)-(n:Int)).toNat) (.go (a',b',(n:Int)+1,k')) :=
    fun a' b' k' h1 h2 h3=>⟨⟨n+1,by omega,by simp,h1,h2,h3⟩,by dsimp only;omega⟩
   grind
 ·rw[decide_eq_false (show ¬((n:Int)<Int.ofNat (bR p).length)from fun h=>hc (Int.ofNat_lt.1 h))];have:n=(bR p).length:=by omega
  subst this;rw[List.take_length]at hb⊢;exact⟨rfl,rfl,hb⟩
theorem Lv:zk p=true∧IJ p=lH p:=by
 obtain⟨t,hpt,ht⟩:=hM hp hth.1;have hc:p.aa=0∨p.aa=1:=by omega
 obtain⟨a1,a2⟩:=Qm hp hth;obtain⟨b1,b2,b3⟩:=aJ (an8 hp hth);obtain⟨o1,e1⟩:=lS hp hc;have er:=wS (v:=p.variant) hp.v0 hc;rw[FP hp];unfold zk IJ oC lR;rw[ky hth,er,a1,a2,e1,o1,b1,b2,b3,Ws];refine⟨by simp_all,?_⟩;have any:∀l:M',decide (Int.ofNat (l.filter (ig p)).length>0)=l.any (ig p):=fun l=>by rw[Bool.eq_iff_iff,decide_eq_true_eq,List.any_eq_true];simp_all
 grind
end
end Kz
namespace Kz
open Go Go.RowKit Go.Proofs
def K76:KT:=[(76,11,[(0,[0,1,4]),(1,[1,4,6]),(2,[4]),(3,[4])])]
def B76:ar:=bO Pz K76 [] [] []
theorem asi:aO B76:=af ae trivial trivial trivial
def ob (a:Int)(b:Int):(Int×Int):=(bif a==0 then⟨(1),(b)⟩else⟨(2),(b)⟩)
def arB (a:Int)(b:Int):Bool:=true
theorem P76 (a:Int)(b:Int)(h:arB a b=true):PS Pz 76 [.int .u8 a,.int .u8 b] ((dR .u8 .u8).res (ob a b)):=pq14 asi h
def G76:GT:=g2 (dI .u8) (dI .u8) (fun a b=>.ret ((dR .u8 .u8).res (ob a b)))
theorem s76:Sound Pz 76 G76:=aP fun a b=>bH (P76 a b rfl)
def K77:KT:=[(77,17,[(0,[0,6,7,10,11,14,15]),(1,[2])])]
def B77:ar:=bO Pz K77 [] [] []
theorem aqo:aO B77:=af ae trivial trivial trivial
def Y8 (a:Int):Bool:=(bif a==27 then(true)else(bif a==28 then(true)else(bif a==35 then(true)else(a==36))))
def at0 (a:Int):Bool:=true
theorem P77 (a:Int)(h:at0 a=true):PS Pz 77 [.int .i64 a] (dB.res (Y8 a)):=pq14 aqo h
def G77:GT:=g1 (dI .i64) (fun a=>.ret (dB.res (Y8 a)))
theorem s77:Sound Pz 77 G77:=aH fun a=>bH (P77 a rfl)
def K78:KT:=[(78,14,[(0,[1,2]),(1,[1,2,5]),(2,[1,2,5,7]),(3,[1,2,5]),(4,[1,2,5,13]),(5,[4]),(6,[4])])]
def afN:ar:=bO Pz K78 [(151,Lk)] [] []
theorem Z9:aO afN:=af ae ⟨Tj,trivial⟩ trivial trivial
def Vw (p1:Int)(p2:Pos)(x:(Int)):St:=St.mk (.any::.int .u8 p1::.ptr 0 0::.any::.any::.int .i64 x::(an 8 [])) (Hp.mk [(pc p2 [])] [] [] 0 0 0)
def Vp (p1:Int)(p2:Pos):Unit ⊕ (Int×Bool)→Out
 |(.inl (y))=>.ret (St.mk (an 4 (AV.aU true::(an 9 []))) (Hp.mk [(pc p2 [])] [] [] 0 0 0))
 |(.inr (y))=>.exit 0 (St.mk (AV.any::AV.int .u8 p1::AV.ptr 0 0::AV.any::AV.any::AV.int .i64 y.1::AV.any::AV.bool y.2::(an 6 [])) (Hp.mk [(pc p2 [])] [] [] 0 0 0))
def Qy (p1:Int)(p2:Pos)(x:(Int)):aG (Int) (Unit ⊕ (Int×Bool)):=(bif decide (x<64)then(bif wR p2 x p1 then(aG.out (.inl (())))else(aG.go (wr .i64 (x+1))))else(aG.out (.inr ((x,decide (x<64))))))
def F1 (p1:Int)(p2:Pos)(x:(Int)):Bool:=(bif decide (x<64)then(si p2 x p1&&true)else true)
def rm (p1:Int)(p2:Pos)(x:(Int)):Option (Unit ⊕ (Int×Bool)):=cW (fun x=>bif F1 p1 p2 x then Qy p1 p2 x else .bad) many x
abbrev Xj {α:Type}(k:Int→Pos→(Int)→α)(s:St):α:=wP s 0 fun q0=>k (tI (tT s 1)) q0 ((tI (tT s 5)))
theorem agR (p1:Int)(p2:Pos)(x:(Int))(r:Unit ⊕ (Int×Bool))(h:rm p1 p2 x=some r):aC Pz (bc Pz 78 2) (Vw p1 p2 x) (Vp p1 p2 r):=aC.Be (m:=12) (fn:=78) Z9 (Xj fun _ _ x=>some x) (fun o=>match o with | .ret s=>some (.inl ()) | .exit 0 s=>some (.inr ((tI (tT s 5)),(tB (tT s 7))))|_=>none) (fun r=>by cases r<;>rfl) (fun _=>by kernel_rfl) (fun _=>by kernel_rfl) (fun _=>by kernel_rfl) (fun _=>by kernel_rfl) many x r h
def Xt (b:Code)(s:St):Tr Out:=Xj (fun p1 p2 x=>Bg b (bc Pz 78 2) s (Vw p1 p2 x) (rm p1 p2 x) (Vp p1 p2)) s
theorem ab3:∀b,aT Pz b (Xt b):=fun _ _ _ h=>fj (agR _ _ _) h
def B78:ar:=bO Pz K78 [(151,Lk)] [(78,2,Xt)] []
theorem arc:aO B78:=af ae ⟨Tj,trivial⟩ ⟨ab3,trivial⟩ trivial
def Wp (a:Pos)(b:Int):Bool:=(bif cQ ((rm b a 0).getD default)then(true)else(false))
def ER (a:Pos)(b:Int):Bool:=((rm b a 0).isSome&&bif cQ ((rm b a 0).getD default)then true else true)
theorem P78 (a:Pos)(b:Int)(h:ER a b=true):PS Pz 78 [Pos.av a,.int .u8 b] (dB.res (Wp a b)):=pq14 arc h
def G78:GT:=g2 aZ (dI .u8) (fun a b=>b7 (ER a b) (dB.res (Wp a b)))
theorem s78:Sound Pz 78 G78:=aP fun a b=>aA (P78 a b)
def K79:KT:=[(79,55,[(0,(1::2::15::30::31::32::(rn 46 6 []))),(1,(rn 1 4 (15::30::31::32::(rn 46 6 [])))),(2,(rn 1 4 (16::30::31::32::(rn 46 6 [])))),(3,[2]),(4,(1::2::3::18::30::31::32::(rn 46 6 []))),(5,[2]),(6,(1::2::21::30::31::32::(rn 46 6 []))),(7,[2]),(8,(1::2::5::30::31::32::(rn 46 6 []))),(9,(1::2::5::6::30::31::32::(rn 46 6 []))),(10,(1::2::5::6::(rn 30 4 (rn 46 6 [])))),(11,(1::2::5::6::30::31::32::(rn 46 6 []))),(12,(1::2::5::6::30::31::32::(rn 46 7 []))),(13,[2]),(14,[2])])]
def ad7:ar:=bO Pz K79 [(35,G35),(75,Yy),(76,G76)] [] []
theorem ab6:aO ad7:=af ae ⟨s35,s75,s76,trivial⟩ trivial trivial
def Wc (p1:M')(p2:Pos)(x:(Int)):St:=St.mk (.any::.ptr 0 0::.ptr 1 0::.any::.any::.list .mv p1 .fresh::.int .i64 x::(an 48 [])) (Hp.mk [(pc p2 []),[.int .u8 0,.int .u8 0]] [] [] 0 0 0)
def Xn (p1:M')(p2:Pos):Unit ⊕ (Int×Bool)→Out
 |(.inl (y))=>.ret (St.mk (AV.any::AV.any::AV.ptr 1 0::(an 52 [])) (Hp.mk [(pc p2 []),[AV.bj .u8 0,AV.bj .u8 0]] [] [] 0 0 0))
 |(.inr (y))=>.exit 0 (St.mk (AV.any::AV.ptr 0 0::AV.ptr 1 0::AV.any::AV.any::AV.list ET.mv p1 Tk.fresh::AV.int .i64 y.1::(an 26 (AV.bool y.2::(an 21 [])))) (Hp.mk [(pc p2 []),[AV.int .u8 0,AV.int .u8 0]] [] [] 0 0 0))
def FN (p1:M')(p2:Pos)(x:(Int)):aG (Int) (Unit ⊕ (Int×Bool)):=(bif decide (x<Int.ofNat p1.length)then(bif p2.aa==1 then(bif wr .i64 (p1.getD x.toNat default).aD==pS p2 1 then(bif decide ((p1.getD x.toNat default).to>55)then(aG.out (.inl (())))else(aG.go (wr .i64 (x+1))))else(aG.go (wr .i64 (x+1))))else(aG.out (.inr ((x,p2.aa==1)))))else(aG.out (.inr ((x,false)))))
def zB (p1:M')(p2:Pos)(x:(Int)):Bool:=(bif decide (x<Int.ofNat p1.length)then(bif p2.aa==1 then(decide (0≤x)&&decide (x<Int.ofNat p1.length)&&(rH p2 1&&(bif wr .i64 (p1.getD x.toNat default).aD==pS p2 1 then(decide (0≤x)&&decide (x<Int.ofNat p1.length)&&true)else true)))else true)else true)
def jM (p1:M')(p2:Pos)(x:(Int)):Option (Unit ⊕ (Int×Bool)):=cW (fun x=>bif zB p1 p2 x then FN p1 p2 x else .bad) many x
abbrev Xw {α:Type}(k:M'→Pos→(Int)→α)(s:St):α:=wP s 0 fun q0=>k (tL (ET.mv) (tT s 5)) q0 ((tI (tT s 6)))
theorem ahe (p1:M')(p2:Pos)(x:(Int))(r:Unit ⊕ (Int×Bool))(h:jM p1 p2 x=some r):aC Pz (bc Pz 79 10) (Wc p1 p2 x) (Xn p1 p2 r):=aC.Be (m:=12) (fn:=79) ab6 (Xw fun _ _ x=>some x) (fun o=>match o with | .ret s=>some (.inl ()) | .exit 0 s=>some (.inr ((tI (tT s 6)),(tB (tT s 33))))|_=>none) (fun r=>by cases r<;>rfl) (fun _=>by kernel_rfl) (fun _=>by kernel_rfl) (fun _=>by kernel_rfl) (fun _=>by kernel_rfl) many x r h
def Wj (b:Code)(s:St):Tr Out:=Xw (fun p1 p2 x=>Bg b (bc Pz 79 10) s (Wc p1 p2 x) (jM p1 p2 x) (Xn p1 p2)) s
theorem ab1:∀b,aT Pz b (Wj b):=fun _ _ _ h=>fj (ahe _ _ _) h
def B79:ar:=bO Pz K79 [(35,G35),(75,Yy),(76,G76)] [(79,10,Wj)] []
theorem akV:aO B79:=af ae ⟨s35,s75,s76,trivial⟩ ⟨ab1,trivial⟩ trivial
def N79 (a:Pos):(Int×Int):=(bif decide (pS a 0>55)then(bif decide (pS a 1>55)then⟨(3),(6)⟩else(bif decide (pS a 1>55)then⟨((ob 1 6).1),((ob 1 6).2)⟩else(bif !decide (pS a 0>55)then⟨(0),(0)⟩else(bif cQ ((jM (IJ a) a 0).getD default)then⟨(0),(0)⟩else⟨((ob 0 6).1),((ob 0 6).2)⟩))))else(bif decide (pS a 1>55)then⟨((ob 1 6).1),((ob 1 6).2)⟩else(bif !decide (pS a 0>55)then⟨(0),(0)⟩else(bif cQ ((jM (IJ a) a 0).getD default)then⟨(0),(0)⟩else⟨((ob 0 6).1),((ob 0 6).2)⟩))))
def OO (a:Pos):Bool:=(rH a 0&&(rH a 1&&(bif decide (pS a 0>55)then(bif decide (pS a 1>55)then true else(bif decide (pS a 1>55)then true else(bif !decide (pS a 0>55)then true else(zk a&&((jM (IJ a) a 0).isSome&&bif cQ ((jM (IJ a) a 0).getD default)then true else true)))))else(bif decide (pS a 1>55)then true else(bif !decide (pS a 0>55)then true else(zk a&&((jM (IJ a) a 0).isSome&&bif cQ ((jM (IJ a) a 0).getD default)then true else true)))))))
theorem P79 (a:Pos)(h:OO a=true):PS Pz 79 [Pos.av a] ((dR .u8 .u8).res (N79 a)):=pq14 akV h
def G79:GT:=g1 aZ (fun a=>b7 (OO a) ((dR .u8 .u8).res (N79 a)))
theorem s79:Sound Pz 79 G79:=aH fun a=>aA (P79 a)
def K32:KT:=[(32,79,[(0,[1,2]),(1,[1,2,7]),(2,[2]),(3,[1,2,3,4]),(4,[1,2,3,4,15]),(5,(rn 1 4 [15,16])),(6,[2,4,21]),(7,[2]),(8,(rn 1 4 [15,24])),(9,[1,2,3,4,30]),(10,[2]),(11,[2,3,37]),(12,[2]),(13,(rn 1 4 [15,40])),(14,[1,2,3,4,45]),(15,[2]),(16,[2,3,51]),(17,[2]),(18,(rn 1 4 [15,54])),(19,[2,58]),(20,[2]),(21,(rn 1 4 [15,60])),(22,[1,2,3,4,65]),(23,[2]),(24,[2,4,71]),(25,[2]),(26,[1,2,74]),(27,[2]),(28,[2])])]
def B32:ar:=bO Pz K32 [(19,JZ),(75,Yy),(76,G76),(77,G77),(78,G78),(79,G79)] [] []
theorem arq:aO B32:=af ae ⟨Kg,s75,s76,s77,s78,s79,trivial⟩ trivial trivial
def Q4 (a:Pos):(Int×Int):=(bif !qK a then⟨(0),(0)⟩else(bif a.variant==3 then(bif decide (pS a a.aa<0)then⟨((ob (wr .u8 (1-a.aa)) 6).1),((ob (wr .u8 (1-a.aa)) 6).2)⟩else⟨(0),(0)⟩)else(bif a.variant==5 then(bif decide (a.au.getD (scale 1 (wr .u8 (1-a.aa))).toNat 0≥3)then⟨((ob (wr .u8 (1-a.aa)) 7).1),((ob (wr .u8 (1-a.aa)) 7).2)⟩else(bif decide (a.au.getD (scale 1 a.aa).toNat 0≥3)then⟨((ob a.aa 7).1),((ob a.aa 7).2)⟩else⟨(0),(0)⟩))else(bif a.variant==6 then(bif Y8 (pS a (wr .u8 (1-a.aa)))then⟨((ob (wr .u8 (1-a.aa)) 6).1),((ob (wr .u8 (1-a.aa)) 6).2)⟩else(bif Y8 (pS a a.aa)then⟨((ob a.aa 6).1),((ob a.aa 6).2)⟩else⟨(0),(0)⟩))else(bif a.variant==7 then(bif !Wp a 0 then⟨((ob 1 8).1),((ob 1 8).2)⟩else⟨(0),(0)⟩)else(bif a.variant==4 then(bif !Wp a a.aa then⟨((ob a.aa 8).1),((ob a.aa 8).2)⟩else(bif !Wp a (wr .u8 (1-a.aa))then⟨((ob (wr .u8 (1-a.aa)) 8).1),((ob (wr .u8 (1-a.aa)) 8).2)⟩else⟨(0),(0)⟩))else(bif a.variant==8 then⟨((N79 a).1),((N79 a).2)⟩else⟨(0),(0)⟩)))))))
def EE (a:Pos):Bool:=(bif !qK a then true else(bif a.variant==3 then(rH a (a.aa)&&true)else(bif a.variant==5 then(decide (0≤wr .u8 (1-a.aa))&&decide (wr .u8 (1-a.aa)<Int.ofNat 2)&&(bif decide (a.au.getD (scale 1 (wr .u8 (1-a.aa))).toNat 0≥3)then true else(decide (0≤a.aa)&&decide (a.aa<Int.ofNat 2)&&true)))else(bif a.variant==6 then(rH a (wr .u8 (1-a.aa))&&(bif Y8 (pS a (wr .u8 (1-a.aa)))then true else(rH a (a.aa)&&true)))else(bif a.variant==7 then(ER a 0&&true)else(bif a.variant==4 then(ER a (a.aa)&&(bif !Wp a a.aa then true else(ER a (wr .u8 (1-a.aa))&&true)))else(bif a.variant==8 then(OO a&&true)else true)))))))
theorem P32 (a:Pos)(h:EE a=true):PS Pz 32 [Pos.av a] ((dR .u8 .u8).res (Q4 a)):=pq14 arq h
def G32:GT:=g1 aZ (fun a=>b7 (EE a) ((dR .u8 .u8).res (Q4 a)))
theorem s32:Sound Pz 32 G32:=aH fun a=>aA (P32 a)
def K11:KT:=[(11,11,[(0,[1]),(1,[1,3]),(2,[1,8]),(3,[2]),(4,[2])])]
def B11:ar:=bO Pz K11 [(32,G32),(35,G35)] [] []
theorem ass:aO B11:=af ae ⟨s32,s35,trivial⟩ trivial trivial
def sK (a:Pos):M':=(bif(Q4 a).1 != 0 then([])else(IJ a))
def D7 (a:Pos):Bool:=(EE a&&(bif(Q4 a).1 != 0 then true else(zk a&&true)))
theorem P11 (a:Pos)(h:D7 a=true):PS Pz 11 [Pos.av a] ((dL .mv).res (sK a)):=pq14 ass h
def G11:GT:=g1 aZ (fun a=>b7 (D7 a) ((dL .mv).res (sK a)))
theorem s11:Sound Pz 11 G11:=aH fun a=>aA (P11 a)
end Kz
namespace Kz
open Go Go.RowKit
theorem PE {c w:Int}(hc:c=0∨c=1):ob c w=dn c w:=by rcases hc with rfl|rfl<;>rfl
theorem Qg:∀s:Fin 64,(lz BinOp.and .i64 (Int.fdiv 103481868288 (2^min (BitVec.ofInt 64 (s.val:Int)).toNat 64)) 1==1)=Y8 s.val:=by decide +kernel
theorem Gy {s:Int}(h0 : -1≤s)(h1:s<64):(bif decide (s≥0)then(lz BinOp.and .i64 (Int.fdiv 103481868288 (2^min (BitVec.ofInt 64 s).toNat 64)) 1==1)else false)=Y8 s:=by
 by_cases h:s≥0
 ·obtain⟨n,rfl⟩:=Int.eq_ofNat_of_zero_le h;rw[decide_eq_true h];exact Qg ⟨n,by omega⟩
 ·have:s = -1:=by omega
  subst this;rfl
noncomputable section
variable {p:Pos}(hp:ax p)
include hp
theorem ak4 {c:Int}(hc:c=0∨c=1)(ht:p.aa=0∨p.aa=1):∃r,rm c p 0=some r∧cQ r=(aS p c 0 != 0#64):=by
 refine aQ (Q:=fun r:Unit ⊕ (Int×Bool)=>cQ r=(aS p c 0 != 0#64)) (I:=fun x:Int=>∃n:Nat,n≤64∧x=(n:Int)∧∀s,s<n→(aS p c 0).getLsbD s=false) (μ:=fun x=>(64-x).toNat) ?_ _ ⟨0,by omega,rfl,fun s hs=>by omega⟩ (by simp);rintro x ⟨n,hn,rfl,h⟩;unfold F1 Qy;by_cases h64:n<64
 ·have hb:=jb hp ht hc h64;have ho:=t151 hp ht h64 c;rw[hb,ho,decide_eq_true (show(n:Int)<64 by omega),aF (n:=(n:Int)+1) (by omega) (by omega)];cases hx:(aS p c 0).getLsbD n with
  |true =>refine⟨rfl,?_⟩;show true=_;grind
  |false =>exact⟨rfl,⟨n+1,by omega,by simp,by grind⟩,by dsimp only;omega⟩
 ·have:n=64:=by omega
  subst this;refine⟨rfl,?_⟩;show false=_;grind
theorem Fa {c:Int}(hc:c=0∨c=1)(ht:p.aa=0∨p.aa=1):ER p c=true∧Wp p c=(aS p c 0 != 0#64):=by obtain⟨h1,h2⟩:=aJ (ak4 hp hc ht);unfold ER Wp;simp_all
def su (k:Int)(l:M'):Bool:=l.any fun m=>wr .i64 m.aD==k&&decide (m.to≥56)
omit hp in
theorem BJ {α:Type}(f:α→Bool)(d:α):∀(l:List α) (n:Nat),n<l.length→(l.take (n+1)).any f=((l.take n).any f ||f (l.getD n d)):=fun l n h=>by
 rw[List.take_add_one,List.getD_eq_getElem?_getD,I' h,List.any_append]
 simp
theorem apU (ht:p.aa=1)(l:M')(hl:l.length≤1000000):∃r,jM l p 0=some r∧cQ r=su (bg p 1 6) l:=by
 obtain⟨o1,e1⟩:=lS hp (c:=1) (by omega);refine aQ (Q:=fun r:Unit ⊕ (Int×Bool)=>cQ r=su (bg p 1 6) l) (I:=fun x:Int=>∃n:Nat,n≤l.length∧x=(n:Int)∧su (bg p 1 6) (l.take n)=false) (μ:=fun x=>(l.length-x).toNat) ?_ _ ⟨0,by omega,rfl,rfl⟩ (by simp;omega);rintro x ⟨n,hn,rfl,h⟩;unfold zB FN;by_cases hc:n<l.length
 ·have ha:=BJ (fun m:Mv=>wr .i64 m.aD==bg p 1 6&&decide (m.to≥56)) default l n hc;rw[decide_eq_true (show(n:Int)<Int.ofNat l.length from Int.ofNat_lt.2 hc),decide_eq_true (show(0:Int)≤n by omega),Int.toNat_natCast,aF (n:=(n:Int)+1) (by omega) (by omega),o1,e1,ht];have h55:decide ((l.getD n default).to>55)=decide ((l.getD n default).to≥56):=by rw[decide_eq_decide];omega
  rw[h55];unfold su at h⊢;rw[h,Bool.false_or]at ha;cases hx:wr .i64 (l.getD n default).aD==bg p 1 6 with
  |false=>rw[hx]at ha;exact⟨rfl,by grind,by dsimp only;omega⟩
  |true =>
   rw[hx]at ha;cases hy:decide ((l.getD n default).to≥56)with
   |false=>rw[hy]at ha;exact⟨rfl,by grind,by dsimp only;omega⟩
   |true =>refine⟨rfl,?_⟩;show true=_;grind
 ·rw[decide_eq_false (show ¬((n:Int)<Int.ofNat l.length)from fun h=>hc (Int.ofNat_lt.1 h))];refine⟨rfl,?_⟩;rw[List.take_of_length_le (by omega)]at h;exact h.symm
omit hp in
theorem YT (l:M')(hl:l.length≤1000000)(q:Pos)(k:Int):∃r,fp l (Int.ofNat l.length) q k 0=some r∧cQ r=su k l∧0≤gl r:=by
 refine aQ (Q:=fun r:Int ⊕ (Int×Bool)=>cQ r=su k l∧0≤gl r) (I:=fun x:Int=>∃n:Nat,n≤l.length∧x=(n:Int)∧su k (l.take n)=false) (μ:=fun x=>(l.length-x).toNat) ?_ _ ⟨0,by omega,rfl,rfl⟩ (by simp;omega);rintro x ⟨n,hn,rfl,h⟩;unfold B0 G9;by_cases hc:n<l.length
 ·have ha:=BJ (fun m:Mv=>wr .i64 m.aD==k&&decide (m.to≥56)) default l n hc;rw[decide_eq_true (show(n:Int)<Int.ofNat l.length from Int.ofNat_lt.2 hc),decide_eq_true (show(0:Int)≤n by omega),Int.toNat_natCast,aF (n:=(n:Int)+1) (by omega) (by omega)];unfold su at h⊢;rw[h,Bool.false_or]at ha;cases hx:wr .i64 (l.getD n default).aD==k with
  |false=>rw[hx]at ha;exact⟨rfl,by grind,by dsimp only;omega⟩
  |true =>
   rw[hx]at ha;cases hy:decide ((l.getD n default).to≥56)with
   |false=>rw[hy]at ha;exact⟨rfl,by grind,by dsimp only;omega⟩
   |true =>refine⟨rfl,?_,by show(0:Int)≤n;omega⟩;show true=_;grind
 ·rw[decide_eq_false (show ¬((n:Int)<Int.ofNat l.length)from fun h=>hc (Int.ofNat_lt.1 h))];rw[List.take_of_length_le (by omega)]at h;exact⟨rfl,h.symm,by show(0:Int)≤default;decide⟩
theorem ZW (hth:there p):OO p=true∧N79 p=AE p:=by
 obtain⟨t,hpt,ht⟩:=hM hp hth.1;obtain⟨o0,e0⟩:=lS hp (c:=0) (by omega);obtain⟨o1,e1⟩:=lS hp (c:=1) (by omega);obtain⟨o33,e33⟩:=Lv hp hth;have hl:(lH p).length≤1000000:=Nat.le_trans (Ad hp) (by omega);obtain⟨c1,c2,c3⟩:=aJ (YT (lH p) hl p (bg p 1 6));have g55:∀x:Int,decide (x>55)=decide (x≥56):=by grind
 have w0:ob 0 6=dn 0 6:=rfl;have w1:ob 1 6=dn 1 6:=rfl;unfold OO N79 AE;rw[o0,o1,e0,e1,o33,e33,w0,w1,c2,g55,g55,decide_eq_true c3];rcases(show p.aa=0∨p.aa=1 by omega)with h|h
 ·have hs:∃r,jM (lH p) p 0=some r∧cQ r=false:=by refine aQ (Q:=fun r:Unit ⊕ (Int×Bool)=>cQ r=false) (I:=fun x:Int=>x=0) (μ:=fun x=>(lH p).length) ?_ _ rfl (by omega);rintro x rfl;unfold zB FN;rw[h];cases decide ((0:Int)<Int.ofNat (lH p).length)<;>exact⟨rfl,rfl⟩
  grind
 ·obtain⟨d1,d2⟩:=aJ (apU hp h (lH p) hl);grind
end
theorem tc {p:Pos}(h:¬there p):qK p=false:=by
 unfold qK;by_cases h1:p.variant<9
 ·rw[decide_eq_true h1,decide_eq_false (show ¬p.aa<2 from fun h2=>h ⟨by omega,h1⟩)];rfl
 grind
theorem bn {x:BitVec 64}:(!(x != 0#64))=(x==0#64):=by grind
noncomputable section
variable {p:Pos}(hp:ax p)
include hp
theorem LG:EE p=true∧Q4 p=uC p:=by
 by_cases hth:there p
 ·obtain⟨t,hpt,ht⟩:=hM hp hth.1;have v0:=hp.v0;have v9:=hth.2;have hc:p.aa=0∨p.aa=1:=by omega
  have hc':wr .u8 (1-p.aa)=0∨wr .u8 (1-p.aa)=1:=by rw[hpt,kD (by omega) (by omega)];omega
  obtain⟨o1,e1⟩:=lS hp hc;obtain⟨o2,e2⟩:=lS hp hc';obtain⟨a0,b0⟩:=Fa hp (c:=0) (by omega) hc;obtain⟨a1,b1⟩:=Fa hp hc hc;obtain⟨a2,b2⟩:=Fa hp hc' hc;obtain⟨a3,b3⟩:=ZW hp hth;have k1:=Gy (fH p p.aa 6).1 (fH p p.aa 6).2;have k2:=Gy (fH p (wr .u8 (1-p.aa)) 6).1 (fH p (wr .u8 (1-p.aa)) 6).2;have i1:(decide (0≤p.aa)&&decide (p.aa<Int.ofNat 2))=true:=by simp;omega
  have i2:(decide (0≤wr .u8 (1-p.aa))&&decide (wr .u8 (1-p.aa)<Int.ofNat 2))=true:=by simp;omega
  have d9:decide (p.variant≥9)=false:=by simp_all
  have d1:decide (p.aa>1)=false:=by grind
  have f1:∀w,ob p.aa w=dn p.aa w:=fun w=>PE hc;have f2:∀w,ob (wr .u8 (1-p.aa)) w=dn (wr .u8 (1-p.aa)) w:=fun w=>PE hc';have f3:ob 1 8=dn 1 8:=rfl;unfold EE Q4 uC;rw[ky hth,o1,o2,a0,a1,a2,a3,b0,b1,b2,b3,d9,d1,i1,i2,e1,e2];simp only[f1,f2,f3,←k1,←k2,bn,Ws];rcases(show p.variant=0∨p.variant=1∨p.variant=2∨p.variant=3∨p.variant=4∨p.variant=5∨p.variant=6∨p.variant=7∨p.variant=8 by omega)with h|h|h|h|h|h|h|h|h<;>rw[h]
  ·exact⟨rfl,rfl⟩
  ·exact⟨rfl,rfl⟩
  ·exact⟨rfl,rfl⟩
  ·refine⟨rfl,?_⟩;unfold AP oC;simp_all
  ·refine⟨by simp_all,?_⟩;unfold AQ;simp_all
  ·refine⟨by simp_all,?_⟩;unfold zt;simp_all
  ·unfold Ay;grind
  ·refine⟨rfl,?_⟩;unfold AW;simp_all
  ·exact⟨rfl,rfl⟩
 ·have h19:=tc hth;unfold EE Q4 uC;rw[h19];refine⟨rfl,?_⟩;by_cases h9:p.variant≥9
  ·simp_all
  ·rw[decide_eq_false h9,decide_eq_true (show p.aa>1 by unfold there at hth;omega)];rfl
theorem AI:D7 p=true∧sK p=dh p:=by
 obtain⟨a1,a2⟩:=LG hp;unfold D7 sK;rw[a1,a2,Qi hp];by_cases hth:there p
 ·obtain⟨b1,b2⟩:=Lv hp hth;simp_all
 ·have h33:zk p=true∧IJ p=[]:=by unfold zk IJ;rw[tc hth];exact⟨rfl,rfl⟩
  have h38:bR p=[]:=by
   have h0:∀m,m∉bR p:=fun m hm=>hth (iL hp hm).1;cases h:bR p with
   |nil=>rfl
   |cons a l=>exact absurd (by rw[h];simp) (h0 a)
  have h31:lH p=[]:=by
   have h0:∀m,m∉lH p:=fun m hm=>by have:=(HA hp hm).1;simp_all
   cases h:lH p with
   |nil=>rfl
   |cons a l=>exact absurd (by rw[h];simp) (h0 a)
  simp_all
end
def dV (B:Nat):List Nat→Nat
 | []=>0
 |a::l=>a+B*dV B l
def dM (B:Nat)(n:Nat):Nat:=dV (B*B) (List.replicate n (B-1))
theorem Eo {w a x:Nat}(ha:a<2^w)(j:Nat):(a+2^w*x).testBit j=if j<w then a.testBit j else x.testBit (j-w):=by rw[Nat.add_comm];exact Nat.testBit_two_pow_mul_add x ha j
theorem FH {w a m x y:Nat}(ha:a<2^w)(hm:m<2^w):(a+2^w*x)&&&(m+2^w*y)=(a&&&m)+2^w*(x&&&y):=by apply Nat.eq_of_testBit_eq;intro j;have h:a&&&m<2^w:=Nat.lt_of_le_of_lt Nat.and_le_left ha;rw[Nat.testBit_and,Eo ha,Eo hm,Eo h];grind
theorem and_ones {w a:Nat}(ha:a<2^w)(x:Nat):(a+2^w*x)&&&(2^w-1)=a:=by rw[Nat.and_two_pow_sub_one_eq_mod,Nat.add_mul_mod_self_left,Nat.mod_eq_of_lt ha]
theorem Gr {w:Nat}:∀(n:Nat) (ps:List (Nat×Nat)),ps.length=n→(∀q∈ps,q.1<2^w∧q.2<2^w) →
  (dV (2^w*2^w) (ps.map fun q=>q.1+2^w*q.2)&&&dM (2^w) n)=dV (2^w*2^w) (ps.map (·.1))
 | 0,ps,h,_=>by
  obtain rfl:=List.length_eq_zero_iff.1 h
  simp[dV]
 |n+1,[],h,_=>by cases h
 |n+1,q::ps,h,hq=>by
  obtain⟨h1,h2⟩:=hq q (by simp)
  have ih:=Gr n ps (by simpa using h) fun q hm=>hq q (by simp[hm])
  have hb:q.1+2^w*q.2<2^(w+w):=by
   rw[Nat.pow_add]
   have:2^w*q.2≤2^w*(2^w-1):=Nat.mul_le_mul_left _ (by omega)
   rw[Nat.mul_sub_one]at this
   have:=Nat.le_mul_self (2^w)
   omega
  have hm:2^w-1<2^(w+w):=by
   have:=Nat.pow_le_pow_right (n:=2) (by omega) (show w≤w+w by omega)
   have:=Nat.two_pow_pos w
   omega
  simp only[List.map_cons,dM,List.replicate_succ,dV]at ih⊢
  rw[←Nat.pow_add]at ih⊢
  rw[FH hb hm,ih,and_ones h1]
theorem Gk {w:Nat}:∀(n:Nat) (ps:List (Nat×Nat)),ps.length=n→(∀q∈ps,q.1<2^w∧q.2<2^w) →
  (dV (2^w*2^w) (ps.map fun q=>q.1+2^w*q.2) / 2^w&&&dM (2^w) n)=dV (2^w*2^w) (ps.map (·.2))
 | 0,ps,h,_=>by
  obtain rfl:=List.length_eq_zero_iff.1 h
  simp[dV]
 |n+1,[],h,_=>by cases h
 |n+1,q::ps,h,hq=>by
  obtain⟨h1,h2⟩:=hq q (by simp)
  have ih:=Gk n ps (by simpa using h) fun q hm=>hq q (by simp[hm])
  have hpos:=Nat.two_pow_pos w
  have hm:2^w-1<2^(w+w):=by
   have:=Nat.pow_le_pow_right (n:=2) (by omega) (show w≤w+w by omega)
   omega
  simp only[List.map_cons,dM,List.replicate_succ,dV]at ih⊢
  generalize dV (2^w*2^w) (ps.map fun q=>q.1+2^w*q.2)=R at ih⊢
  have e:(q.1+2^w*q.2+2^w*2^w*R) / 2^w=(q.2+2^w*(R%2^w))+2^(w+w)*(R / 2^w):=by
   rw[show q.1+2^w*q.2+2^w*2^w*R=q.1+2^w*(q.2+2^w*R)by rw[Nat.mul_add,Nat.mul_assoc,Nat.add_assoc],Nat.add_mul_div_left _ _ hpos,Nat.div_eq_of_lt h1,Nat.zero_add,Nat.pow_add,Nat.mul_assoc,Nat.add_assoc,←Nat.mul_add,Nat.mod_add_div]
  have hb:q.2+2^w*(R%2^w)<2^(w+w):=by
   rw[Nat.pow_add]
   have hr:=Nat.mod_lt R hpos
   have:2^w*(R%2^w)≤2^w*(2^w-1):=Nat.mul_le_mul_left _ (by omega)
   rw[Nat.mul_sub_one]at this
   have:=Nat.le_mul_self (2^w)
   omega
  rw[e]
  rw[←Nat.pow_add]at ih⊢
  rw[FH hb hm,ih,and_ones h2]
theorem Qr {K:Nat}{α:Type}(f g:α→Nat):∀l:List α,dV K (l.map f)+dV K (l.map g)=dV K (l.map fun a=>f a+g a)
 | []=>rfl
 |a::l=>by
  simp only[List.map_cons,dV]
  rw[←Qr f g l,Nat.mul_add]
  omega
def XR (B n D x t:Nat):Prop := ∃l:List Nat,l.length=n∧(∀d∈l,d≤D)∧dV B l=x∧l.sum=t
theorem vP:∀(n:Nat) (l:List Nat),l.length=2*n→∃ps:List (Nat×Nat),ps.length=n∧l=ps.flatMap fun q=>[q.1,q.2]
 | 0,l,h=>by simp_all
 |n+1,[],h=>by simp at h
 |n+1,[a],h=>by simp at h;omega
 |n+1,a::c::l,h=>by
  obtain⟨ps,h1,rfl⟩:=vP n l (by simp at h;omega)
  exact⟨(a,c)::ps,by simp[h1],rfl⟩
theorem vh {B:Nat}:∀ps:List (Nat×Nat),dV B (ps.flatMap fun q=>[q.1,q.2])=dV (B*B) (ps.map fun q=>q.1+B*q.2)
 | []=>rfl
 |q::ps=>by
  simp only[List.flatMap_cons,List.cons_append,List.nil_append,List.map_cons,dV]
  rw[vh ps,Nat.mul_add,Nat.mul_assoc,Nat.add_assoc]
theorem rC:∀ps:List (Nat×Nat),(ps.flatMap fun q=>[q.1,q.2]).sum=(ps.map fun q=>q.1+q.2).sum
 | []=>rfl
 |q::ps=>by
  simp only[List.flatMap_cons,List.cons_append,List.nil_append,List.map_cons,List.sum_cons]
  rw[rC ps];omega
theorem CX {w n D x t:Nat}(hD:D<2^w)(h:XR (2^w) (2*n) D x t):XR (2^w*2^w) n (2*D) ((x / 2^w&&&dM (2^w) n)+(x&&&dM (2^w) n)) t:=by
 obtain⟨l,h1,h2,rfl,rfl⟩:=h;obtain⟨ps,h3,rfl⟩:=vP n l h1;have hb:∀q∈ps,q.1≤D∧q.2≤D:=fun q hq=>⟨h2 _ (by grind),h2 _ (by grind)⟩;have hq:∀q∈ps,q.1<2^w∧q.2<2^w:=by grind
 refine⟨ps.map fun q=>q.1+q.2,by simp[h3],?_,?_,(rC ps).symm⟩
 ·grind
 ·rw[vh,Gr n ps h3 hq,Gk n ps h3 hq,Nat.add_comm,Qr]
theorem C8 {w D:Nat}(hD:2*D<2^w):∀(n:Nat) (ps:List (Nat×Nat)),ps.length=n→(∀q∈ps,q.1≤D∧q.2≤D) →
  (dV (2^w*2^w) (ps.map fun q=>q.1+2^w*q.2) / 2^w+dV (2^w*2^w) (ps.map fun q=>q.1+2^w*q.2)&&&dM (2^w) n)=dV (2^w*2^w) (ps.map fun q=>q.1+q.2)
 | 0,ps,h,_=>by
  obtain rfl:=List.length_eq_zero_iff.1 h
  simp[dV]
 |n+1,[],h,_=>by cases h
 |n+1,q::ps,h,hq=>by
  obtain⟨h1,h2⟩:=hq q (by simp)
  have ih:=C8 hD n ps (by simpa using h) (by grind)
  have hpos:=Nat.two_pow_pos w
  have hlow:dV (2^w*2^w) (ps.map fun q=>q.1+2^w*q.2)%2^w≤D:=by
   cases ps with
   |nil=>simp[dV]
   |cons r rs =>
    have hr:=hq r (by simp)
    simp only[List.map_cons,dV]
    rw[Nat.mul_assoc,Nat.add_assoc,←Nat.mul_add,Nat.add_mul_mod_self_left,Nat.mod_eq_of_lt (by omega)]
    exact hr.1
  have hm:2^w-1<2^(w+w):=by
   have:=Nat.pow_le_pow_right (n:=2) (by omega) (show w≤w+w by omega)
   omega
  simp only[List.map_cons,dM,List.replicate_succ,dV]at ih⊢
  generalize dV (2^w*2^w) (ps.map fun q=>q.1+2^w*q.2)=R at ih hlow⊢
  have e1:(q.1+2^w*q.2+2^w*2^w*R) / 2^w=q.2+2^w*R:=by
   rw[show q.1+2^w*q.2+2^w*2^w*R=q.1+2^w*(q.2+2^w*R)by rw[Nat.mul_add,Nat.mul_assoc,Nat.add_assoc],Nat.add_mul_div_left _ _ hpos,Nat.div_eq_of_lt (by omega),Nat.zero_add]
  have e2:q.2+2^w*R+(q.1+2^w*q.2+2^w*2^w*R)=(q.1+q.2+2^w*(q.2+R%2^w))+2^(w+w)*(R / 2^w+R):=by
   have hR:=Nat.mod_add_div R (2^w)
   rw[Nat.pow_add]
   have:2^w*R=2^w*(R%2^w)+2^w*2^w*(R / 2^w):=by
    rw[Nat.mul_assoc,←Nat.mul_add,hR]
   rw[Nat.mul_add,Nat.mul_add]
   omega
  have hb:q.1+q.2+2^w*(q.2+R%2^w)<2^(w+w):=by
   rw[Nat.pow_add]
   have:2^w*(q.2+R%2^w)≤2^w*(2^w-1):=Nat.mul_le_mul_left _ (by omega)
   rw[Nat.mul_sub_one]at this
   have:=Nat.le_mul_self (2^w)
   omega
  rw[e1,e2]
  rw[←Nat.pow_add]at ih⊢
  rw[FH hb hm,ih,and_ones (by omega)]
theorem Ur {w n D x t:Nat}(hD:2*D<2^w)(h:XR (2^w) (2*n) D x t):XR (2^w*2^w) n (2*D) (x / 2^w+x&&&dM (2^w) n) t:=by
 obtain⟨l,h1,h2,rfl,rfl⟩:=h;obtain⟨ps,h3,rfl⟩:=vP n l h1;have hb:∀q∈ps,q.1≤D∧q.2≤D:=fun q hq=>⟨h2 _ (by grind),h2 _ (by grind)⟩;refine⟨ps.map fun q=>q.1+q.2,by simp[h3],?_,?_,(rC ps).symm⟩
 ·grind
 ·rw[vh,C8 hD n ps h3 hb]
theorem WU {K:Nat}:∀l:List Nat,(∀d∈l,d<K)→dV K l<K^l.length
 | [],_=>by simp[dV]
 |a::l,h=>by
  have ih:=WU l fun d hd=>h d (by simp[hd])
  have ha:=h a (by simp)
  simp only[dV,List.length_cons,Nat.pow_succ]
  have:K*dV K l≤K*(K^l.length-1):=Nat.mul_le_mul_left _ (by omega)
  rw[Nat.mul_sub_one]at this
  rw[Nat.mul_comm (K^l.length)]
  have hk:K≤K*K^l.length:=Nat.le_mul_of_pos_right _ (by omega)
  omega
theorem XR.lt {B n D x t:Nat}(h:XR B n D x t)(hD:D<B):x<B^n:=by obtain⟨l,rfl,h2,rfl,_⟩:=h;exact WU l (by grind)
def kj (x:BitVec 64):Nat→Nat→List Nat
 |_,0=>[]
 |i,n+1=>(x.getLsbD i).toNat::kj x (i+1) n
def Fc (x:BitVec 64):Nat:=(kj x 0 64).sum
theorem qQ (x:BitVec 64):∀n i,(kj x i n).length=n
 | 0,_=>rfl
 |n+1,i=>by simp[kj,qQ x n]
theorem vb (x:BitVec 64):∀n i,∀d∈kj x i n,d≤1
 | 0,_,_,h=>by cases h
 |n+1,i,d,h=>by
  simp only[kj,List.mem_cons]at h
  rcases h with rfl|h
  ·cases x.getLsbD i<;>simp
  ·exact vb x n _ d h
theorem ya (x:BitVec 64):∀n i,dV 2 (kj x i n)=x.toNat / 2^i%2^n
 | 0,_=>by simp[kj,dV,Nat.mod_one]
 |n+1,i=>by
  simp only[kj,dV]
  rw[ya x n (i+1),show(2:Nat)^(n+1)=2*2^n from Nat.pow_succ',Nat.mod_mul,Nat.div_div_eq_div_mul,←Nat.pow_succ]
  congr 1
  rw[BitVec.getLsbD,Nat.testBit_eq_decide_div_mod_eq]
  have:=Nat.mod_two_eq_zero_or_one (x.toNat / 2^i)
  rcases this with h|h<;>rw[h]<;>rfl
theorem YL (x:BitVec 64):XR (2^1) (2*32) 1 x.toNat (Fc x):=by refine⟨kj x 0 64,qQ x 64 0,vb x 64 0,?_,rfl⟩;have:=ya x 64 0;rw[show(2:Nat)^1=2 from rfl,this,Nat.pow_zero,Nat.div_one,Nat.mod_eq_of_lt x.isLt]
theorem aip (x:BitVec 64):Fc x≤64:=by
 have:∀l:List Nat,(∀d∈l,d≤1)→l.sum≤l.length:=by
  intro l;induction l with
  |nil=>intro _;simp
  |cons a l ih =>intro h;have:=ih fun d hd=>h d (by simp[hd]);have:=h a (by simp);grind
 have h:=this _ (vb x 64 0);rw[qQ]at h;exact h
theorem Mn (a:BitVec 64):kh a =
  let s1:=(a >>> 1&&&6148914691236517205#64)+(a&&&6148914691236517205#64)
  let s2:=(s1 >>> 2&&&3689348814741910323#64)+(s1&&&3689348814741910323#64)
  let s3:=s2 >>> 4+s2&&&1085102592571150095#64
  let s4:=s3+s3 >>> 8
  let s5:=s4+s4 >>> 16
  let s6:=s5+s5 >>> 32
  lz BinOp.and IntKind.i64 (wr IntKind.i64 ↑s6.toNat) 127:=by kernel_rfl
theorem aa0 {r q K:Nat}(h:r<K):(r+K*q) / K=q:=by rw[Nat.add_mul_div_left _ _ (by omega),Nat.div_eq_of_lt h,Nat.zero_add]
theorem e8a (a b c d e f g i:Nat):a+256*b+65536*c+16777216*d+4294967296*e+1099511627776*f+281474976710656*g+72057594037927936*i=a+256*(b+256*c+65536*d+16777216*e+4294967296*f+1099511627776*g+281474976710656*i):=by omega
theorem e8b (a b c d e f g i:Nat):a+256*b+65536*c+16777216*d+4294967296*e+1099511627776*f+281474976710656*g+72057594037927936*i+(b+256*c+65536*d+16777216*e+4294967296*f+1099511627776*g+281474976710656*i)=((a+b)+256*(b+c))+65536*((c+d)+256*(d+e)+65536*(e+f)+16777216*(f+g)+4294967296*(g+i)+1099511627776*i):=by omega
theorem e8c (a b c d e f g i:Nat):((a+b)+256*(b+c))+65536*((c+d)+256*(d+e)+65536*(e+f)+16777216*(f+g)+4294967296*(g+i)+1099511627776*i)+((c+d)+256*(d+e)+65536*(e+f)+16777216*(f+g)+4294967296*(g+i)+1099511627776*i)=((a+b+c+d)+256*(b+c+d+e)+65536*(c+d+e+f)+16777216*(d+e+f+g))+4294967296*((e+f+g+i)+256*(f+g+i)+65536*(g+i)+16777216*i):=by omega
theorem e8d (a b c d e f g i:Nat):((a+b+c+d)+256*(b+c+d+e)+65536*(c+d+e+f)+16777216*(d+e+f+g))+4294967296*((e+f+g+i)+256*(f+g+i)+65536*(g+i)+16777216*i)+((e+f+g+i)+256*(f+g+i)+65536*(g+i)+16777216*i)=(a+b+c+d+e+f+g+i)+128*(2*(b+c+d+e)+512*(c+d+e+f)+131072*(d+e+f+g)+33554432*((e+f+g+i)+256*(f+g+i)+65536*(g+i)+16777216*i)+2*(f+g+i)+512*(g+i)+131072*i):=by omega
theorem b8a {a b c d e f g i:Nat}(k1:a≤8)(k2:b≤8)(k3:c≤8)(k4:d≤8)(k5:e≤8)(k6:f≤8)(k7:g≤8)(k8:i≤8):a+b+c+d+e+f+g+i<128:=by omega
theorem b8b {a b c d e f g i:Nat}(k1:a≤8)(k2:b≤8)(k3:c≤8)(k4:d≤8)(k5:e≤8)(k6:f≤8)(k7:g≤8)(k8:i≤8):(a+b+c+d)+256*(b+c+d+e)+65536*(c+d+e+f)+16777216*(d+e+f+g)<4294967296:=by omega
theorem b8c {a b c:Nat}(k1:a≤8)(k2:b≤8)(k3:c≤8):(a+b)+256*(b+c)<65536:=by omega
theorem att {a b c d e f g i x:Nat}(k1:a≤8)(k2:b≤8)(k3:c≤8)(k4:d≤8)(k5:e≤8)(k6:f≤8)(k7:g≤8)(k8:i≤8)
  (hx:x=a+256*b+65536*c+16777216*d+4294967296*e+1099511627776*f+281474976710656*g+72057594037927936*i) :
  ((x+x / 256)+(x+x / 256) / 65536+((x+x / 256)+(x+x / 256) / 65536) / 4294967296)%128=a+b+c+d+e+f+g+i∧x<1152921504606846976:=by
 have hb:x<1152921504606846976:=by omega
 have l1:a<256:=by omega
 have l2:=b8c k1 k2 k3;have l3:=b8b k1 k2 k3 k4 k5 k6 k7 k8;have l4:=b8a k1 k2 k3 k4 k5 k6 k7 k8;have h1:x / 256=b+256*c+65536*d+16777216*e+4294967296*f+1099511627776*g+281474976710656*i:=by rw[hx,e8a a b c d e f g i];exact aa0 l1
 refine⟨?_,hb⟩;have y:x+x / 256=((a+b)+256*(b+c))+65536*((c+d)+256*(d+e)+65536*(e+f)+16777216*(f+g)+4294967296*(g+i)+1099511627776*i):=by rw[h1,hx];exact e8b a b c d e f g i
 have y2:(x+x / 256) / 65536=(c+d)+256*(d+e)+65536*(e+f)+16777216*(f+g)+4294967296*(g+i)+1099511627776*i:=by rw[y];exact aa0 l2
 generalize x+x / 256=Y at y y2⊢;have z:Y+Y / 65536=((a+b+c+d)+256*(b+c+d+e)+65536*(c+d+e+f)+16777216*(d+e+f+g))+4294967296*((e+f+g+i)+256*(f+g+i)+65536*(g+i)+16777216*i):=by rw[y2,y];exact e8c a b c d e f g i
 have z2:(Y+Y / 65536) / 4294967296=(e+f+g+i)+256*(f+g+i)+65536*(g+i)+16777216*i:=by rw[z];exact aa0 l3
 generalize Y+Y / 65536=Z at z z2⊢;rw[z2,z];refine(congrArg (· % 128) (e8d a b c d e f g i)).trans ?_;show(_+128*_)%128=_;rw[Nat.add_mul_mod_self_left];exact Nat.mod_eq_of_lt l4
theorem len8 {l:List Nat}(h:l.length=8):∃a b c d e f g i,l=[a,b,c,d,e,f,g,i]:=by
 rcases l with _|⟨a,_|⟨b,_|⟨c,_|⟨d,_|⟨e,_|⟨f,_|⟨g,_|⟨i,_|⟨j,l⟩⟩⟩⟩⟩⟩⟩⟩⟩
 all_goals first|exact⟨_,_,_,_,_,_,_,_,rfl⟩|(simp only[List.length_cons,List.length_nil]at h;omega)
theorem aet {x t:Nat}(h:XR 256 8 8 x t):((x+x / 256)+(x+x / 256) / 65536+((x+x / 256)+(x+x / 256) / 65536) / 4294967296)%128=t∧x<1152921504606846976:=by
 obtain⟨l,h1,h2,h3,h4⟩:=h;obtain⟨a,b,c,d,e,f,g,i,rfl⟩:=len8 h1;have h5:a+b+c+d+e+f+g+i=t:=by rw[←h4];simp only[List.sum_cons,List.sum_nil,Nat.add_zero,Nat.add_assoc]
 rw[←h5];refine att (h2 a (by simp)) (h2 b (by simp)) (h2 c (by simp)) (h2 d (by simp)) (h2 e (by simp)) (h2 f (by simp)) (h2 g (by simp)) (h2 i (by simp)) ?_;rw[←h3];simp only[dV,Nat.mul_add,←Nat.mul_assoc,Nat.reduceMul,Nat.mul_zero,Nat.add_zero,Nat.add_assoc]
theorem Wd {K D:Nat}(hK:0<K):∀l:List Nat,(∀d∈l,d≤D)→dV K l*(K-1)≤D*(K^l.length-1)
 | [],_=>by simp[dV]
 |a::l,h=>by
  have ih:=Wd hK l fun d hd=>h d (by simp[hd])
  have ha:=h a (by simp)
  simp only[dV,List.length_cons]
  have e:K^(l.length+1)-1=(K-1)+K*(K^l.length-1):=by
   rw[Nat.pow_succ',Nat.mul_sub_one]
   have:K*1≤K*K^l.length:=Nat.mul_le_mul_left _ (Nat.pow_pos hK)
   omega
  rw[e,Nat.add_mul,Nat.mul_add,Nat.mul_assoc]
  have h1:a*(K-1)≤D*(K-1):=Nat.mul_le_mul_right _ ha
  have h2:K*(dV K l*(K-1))≤K*(D*(K^l.length-1)):=Nat.mul_le_mul_left _ ih
  have h3:K*(D*(K^l.length-1))=D*(K*(K^l.length-1)):=Nat.mul_left_comm _ _ _
  omega
theorem aaH {n:Nat}(h:n<9223372036854775808):lz BinOp.and IntKind.i64 (wr IntKind.i64 ↑n) 127=((n%128:Nat):Int):=by
 rw[aF (by omega) (by omega)];have e:(BitVec.ofInt 64 (n:Int)&&&BitVec.ofInt 64 127).toNat=n%128:=by rw[BitVec.toNat_and,BitVec.ofInt_natCast,BitVec.toNat_ofNat,show(BitVec.ofInt 64 127).toNat=2^7-1 from rfl,Nat.and_two_pow_sub_one_eq_mod];omega
 show IntKind.i64.wrap _=_;rw[show(BitVec.ofInt IntKind.i64.bits (n:Int)&&&BitVec.ofInt IntKind.i64.bits 127).toNat=n%128 from e];exact aF (by omega) (by omega)
theorem tz (a:BitVec 64):kh a=Fc a:=by
 rw[Mn];have d1:=CX (w:=1) (n:=32) (D:=1) (by decide) (YL a);have d2:=CX (w:=2) (n:=16) (D:=2) (by decide) (x:=(a.toNat / 2^1&&&dM (2^1) 32)+(a.toNat&&&dM (2^1) 32)) (t:=Fc a) d1;have l1:=d1.lt (by decide);have l2:=d2.lt (by decide);have d3:=Ur (w:=4) (n:=8) (D:=4) (by decide) d2;have l3:=d3.lt (by decide);have m1:dM (2^1) 32=6148914691236517205:=by decide
 have m2:dM (2^2) 16=3689348814741910323:=by decide
 have m3:dM (2^4) 8=1085102592571150095:=by decide
 rw[m1]at d1 d2 l1 l2 d3 l3;rw[m2]at d2 l2 d3 l3;rw[m3]at d3 l3;dsimp only;have e1:((a >>> 1&&&6148914691236517205#64)+(a&&&6148914691236517205#64)).toNat=(a.toNat / 2^1&&&6148914691236517205)+(a.toNat&&&6148914691236517205):=by rw[BitVec.toNat_add,BitVec.toNat_and,BitVec.toNat_and,BitVec.toNat_ushiftRight,Nat.shiftRight_eq_div_pow];exact Nat.mod_eq_of_lt l1
 generalize (a >>> 1&&&6148914691236517205#64)+(a&&&6148914691236517205#64)=s1 at e1⊢;rw[←e1]at d2 l2 d3 l3;have e2:((s1 >>> 2&&&3689348814741910323#64)+(s1&&&3689348814741910323#64)).toNat=(s1.toNat / 2^2&&&3689348814741910323)+(s1.toNat&&&3689348814741910323):=by rw[BitVec.toNat_add,BitVec.toNat_and,BitVec.toNat_and,BitVec.toNat_ushiftRight,Nat.shiftRight_eq_div_pow];exact Nat.mod_eq_of_lt l2
 generalize (s1 >>> 2&&&3689348814741910323#64)+(s1&&&3689348814741910323#64)=s2 at e2⊢;rw[←e2]at d3 l3 l2 d2;have k2:s2.toNat / 2^4+s2.toNat<2^64:=by obtain⟨l,h1,h2,h3,_⟩:=d2;have h5:=Wd (K:=2^2*2^2) (D:=2*2) (by decide) l h2;rw[h3,h1]at h5;omega
 have e3:(s2 >>> 4+s2&&&1085102592571150095#64).toNat=(s2.toNat / 2^4+s2.toNat&&&1085102592571150095):=by rw[BitVec.toNat_and,BitVec.toNat_add,BitVec.toNat_ushiftRight,Nat.shiftRight_eq_div_pow,Nat.mod_eq_of_lt k2];rfl
 generalize (s2 >>> 4+s2&&&1085102592571150095#64)=s3 at e3⊢;rw[←e3]at d3 l3;obtain⟨f1,f2⟩:=aet d3;have e4:(s3+s3 >>> 8).toNat=s3.toNat+s3.toNat / 256:=by rw[BitVec.toNat_add,BitVec.toNat_ushiftRight,Nat.shiftRight_eq_div_pow];omega
 generalize s3+s3 >>> 8=s4 at e4⊢;have e5:(s4+s4 >>> 16).toNat=s4.toNat+s4.toNat / 65536:=by rw[BitVec.toNat_add,BitVec.toNat_ushiftRight,Nat.shiftRight_eq_div_pow];omega
 generalize s4+s4 >>> 16=s5 at e5⊢;have e6:(s5+s5 >>> 32).toNat=s5.toNat+s5.toNat / 4294967296:=by rw[BitVec.toNat_add,BitVec.toNat_ushiftRight,Nat.shiftRight_eq_div_pow];omega
 rw[aaH (by rw[e6];omega),e6,e5,e4,f1]
end Kz
namespace Kz
open Go Go.RowKit Go.Proofs
def K34:KT:=[(34,96,[(0,(1::(rn 66 13 [92,93,94]))),(1,(1::3::(rn 66 13 [92,93,94]))),(2,(1::(rn 3 5 (rn 66 13 [92,93,94])))),(3,(1::(rn 3 6 (rn 66 13 [92,93,94])))),(4,(1::(rn 3 6 (12::(rn 66 13 [92,93,94]))))),(5,(1::(rn 3 6 (rn 66 13 [92,93,94])))),(6,(1::(rn 3 6 (19::(rn 66 13 [92,93,94]))))),(7,(1::(rn 3 6 (rn 66 13 [92,93,94])))),(8,(1::(rn 3 6 (19::22::(rn 66 13 [92,93,94]))))),(9,(1::(rn 3 6 (19::24::(rn 66 13 [92,93,94]))))),(10,(1::(rn 3 6 (rn 66 13 [92,93,94])))),(11,(1::(rn 3 6 (19::35::(rn 66 13 [92,93,94]))))),(12,(1::(rn 3 6 (rn 66 13 [92,93,94])))),(13,(1::(rn 3 6 (39::(rn 66 13 [92,93,94]))))),(14,(1::(rn 3 6 (47::(rn 66 13 [92,93,94]))))),(15,(1::(rn 3 6 (rn 66 13 [92,93,94])))),(16,(1::(rn 3 6 (rn 66 13 [92,93,94])))),(17,(rn 3 5 (53::(rn 66 13 [92,93,94])))),(18,(rn 3 5 (53::54::(rn 66 13 [92,93,94])))),(19,(rn 3 5 (53::54::(rn 66 13 [92,93,94])))),(20,(rn 4 4 (9::(rn 66 13 [])))),(21,[2]),(22,(rn 3 5 [53,80,92,93,94])),(23,(rn 3 5 [80,92,93,94])),(24,[2]),(25,[2])])]
def ahD:ar:=bO Pz K34 [(82,nP),(83,VW)] [] []
theorem XU:aO ahD:=af ae ⟨nZ,X3,trivial⟩ trivial trivial
def Xg (p1:Pos)(x:(Int×Int×Int×Int×Int×Z')):St:=St.mk (.any::.ptr 0 0::.any::.ptr 1 0::.int .i64 x.1::.int .i64 x.2.1::.int .i64 x.2.2.1::.int .i64 x.2.2.2.1::.int .i64 x.2.2.2.2.1::(an 57 (.undef::.undef::.undef::.undef::.undef::.undef::.undef::.undef::.undef::.undef::.undef::.undef::.undef::(an 13 [.undef,.undef,.undef,.any])))) (Hp.mk [(pc p1 []),[.ints .i64 2 x.2.2.2.2.2]] [] [] 0 0 0)
def WE (p1:Pos):(Int×Int×Int×Int×Int×Bool×Z')→Out:=fun y=>.exit 0 (St.mk (.any::.ptr 0 0::.any::.ptr 1 0::.int .i64 y.1::.int .i64 y.2.1::.int .i64 y.2.2.1::.int .i64 y.2.2.2.1::.int .i64 y.2.2.2.2.1::(an 3 (.bool y.2.2.2.2.2.1::(an 53 (.undef::.undef::.undef::.undef::.undef::.undef::.undef::.undef::.undef::.undef::.undef::.undef::.undef::(an 13 [.undef,.undef,.undef,.any])))))) (Hp.mk [(pc p1 []),[.ints .i64 2 y.2.2.2.2.2.2]] [] [] 0 0 0))
def Nq (p1:Pos)(x:(Int×Int×Int×Int×Int×Z')):aG (Int×Int×Int×Int×Int×Z') ((Int×Int×Int×Int×Int×Bool×Z')):=(bif decide (x.2.2.2.2.1<64)then(bif bE (p1.ab.getD (scale 1 x.2.2.2.2.1).toNat 0)==0 then(aG.go (x.1,x.2.1,x.2.2.1,x.2.2.2.1,wr .i64 (x.2.2.2.2.1+1),x.2.2.2.2.2))else(bif bE (p1.ab.getD (scale 1 x.2.2.2.2.1).toNat 0)==6 then(aG.go (x.1,x.2.1,x.2.2.1,x.2.2.2.1,wr .i64 (x.2.2.2.2.1+1),x.2.2.2.2.2.set (scale 1 (oD (p1.ab.getD (scale 1 x.2.2.2.2.1).toNat 0))).toNat (wr .i64 (x.2.2.2.2.2.getD (scale 1 (oD (p1.ab.getD (scale 1 x.2.2.2.2.1).toNat 0))).toNat 0+1))))else(bif bE (p1.ab.getD (scale 1 x.2.2.2.2.1).toNat 0)==2 then(aG.go (wr .i64 (x.1+1),x.2.1,x.2.2.1,x.2.2.2.1,wr .i64 (x.2.2.2.2.1+1),x.2.2.2.2.2))else(bif bE (p1.ab.getD (scale 1 x.2.2.2.2.1).toNat 0)==3 then(bif(wr .i64 (wr .i64 (x.2.2.2.2.1.tdiv 8)+x.2.2.2.2.1.tmod 8)).tmod 2==0 then(aG.go (x.1,wr .i64 (x.2.1+1),x.2.2.1,x.2.2.2.1,wr .i64 (x.2.2.2.2.1+1),x.2.2.2.2.2))else(aG.go (x.1,x.2.1,wr .i64 (x.2.2.1+1),x.2.2.2.1,wr .i64 (x.2.2.2.2.1+1),x.2.2.2.2.2)))else(aG.go (x.1,x.2.1,x.2.2.1,wr .i64 (x.2.2.2.1+1),wr .i64 (x.2.2.2.2.1+1),x.2.2.2.2.2))))))else(aG.out ((x.1,x.2.1,x.2.2.1,x.2.2.2.1,x.2.2.2.2.1,decide (x.2.2.2.2.1<64),x.2.2.2.2.2))))
def GY (p1:Pos)(x:(Int×Int×Int×Int×Int×Z')):Bool:=(bif decide (x.2.2.2.2.1<64)then(decide (0≤x.2.2.2.2.1)&&decide (x.2.2.2.2.1<Int.ofNat 64)&&(bif bE (p1.ab.getD (scale 1 x.2.2.2.2.1).toNat 0)==0 then true else(bif bE (p1.ab.getD (scale 1 x.2.2.2.2.1).toNat 0)==6 then(decide (0≤x.2.2.2.2.1)&&decide (x.2.2.2.2.1<Int.ofNat 64)&&(decide (0≤oD (p1.ab.getD (scale 1 x.2.2.2.2.1).toNat 0))&&decide (oD (p1.ab.getD (scale 1 x.2.2.2.2.1).toNat 0)<Int.ofNat 2)&&(decide (0≤oD (p1.ab.getD (scale 1 x.2.2.2.2.1).toNat 0))&&decide (oD (p1.ab.getD (scale 1 x.2.2.2.2.1).toNat 0)<Int.ofNat 2)&&true)))else true)))else true)
def bG (p1:Pos)(x:(Int×Int×Int×Int×Int×Z')):Option ((Int×Int×Int×Int×Int×Bool×Z')):=cW (fun x=>bif GY p1 x then Nq p1 x else .bad) many x
abbrev WL {α:Type}(k:Pos→(Int×Int×Int×Int×Int×Z')→α)(s:St):α:=wP s 0 fun q0=>k q0 ((tI (tT s 4)),(tI (tT s 5)),(tI (tT s 6)),(tI (tT s 7)),(tI (tT s 8)),(tN (tH s 1 0)))
theorem ag3 (p1:Pos)(x:(Int×Int×Int×Int×Int×Z'))(r:(Int×Int×Int×Int×Int×Bool×Z'))(h:bG p1 x=some r):aC Pz (bc Pz 34 4) (Xg p1 x) (WE p1 r):=smq (m:=12) (fn:=34) XU (WL fun _ x=>some x) (fun o=>match o with | .exit 0 s=>some ((tI (tT s 4)),(tI (tT s 5)),(tI (tT s 6)),(tI (tT s 7)),(tI (tT s 8)),(tB (tT s 12)),(tN (tH s 1 0)))|_=>none) many x r h
def V1 (b:Code)(s:St):Tr Out:=WL (fun p1 x=>jS b (bc Pz 34 4) s (Xg p1 x) (bG p1 x) (WE p1)) s
theorem aaB:∀b,aT Pz b (V1 b):=fun _ _ _ h=>bF (ag3 _ _) h
def B34:ar:=bO Pz K34 [(82,nP),(83,VW)] [(34,4,V1)] []
theorem anb:aO B34:=af ae ⟨nZ,X3,trivial⟩ ⟨aaB,trivial⟩ trivial
def N34 (a:Pos):Bool:=(bif a.variant==0 then(bif a.variant==0 then(bif((bG a (0,0,0,0,0,List.replicate 2 0)).getD default).2.2.2.1==0 then(bif decide (wr .i64 (wr .i64 (((bG a (0,0,0,0,0,List.replicate 2 0)).getD default).1+((bG a (0,0,0,0,0,List.replicate 2 0)).getD default).2.1)+((bG a (0,0,0,0,0,List.replicate 2 0)).getD default).2.2.1)≤1)then(true)else(bif((bG a (0,0,0,0,0,List.replicate 2 0)).getD default).1==0 then(bif((bG a (0,0,0,0,0,List.replicate 2 0)).getD default).2.1==0 then(true)else(((bG a (0,0,0,0,0,List.replicate 2 0)).getD default).2.2.1==0))else(false)))else(false))else(bif a.variant==3 then(bif a.variant==3 then(bif wr .i64 (wr .i64 (wr .i64 (((bG a (0,0,0,0,0,List.replicate 2 0)).getD default).2.2.2.1+((bG a (0,0,0,0,0,List.replicate 2 0)).getD default).1)+((bG a (0,0,0,0,0,List.replicate 2 0)).getD default).2.1)+((bG a (0,0,0,0,0,List.replicate 2 0)).getD default).2.2.1)==0 then(cg BinOp.eql (((bG a (0,0,0,0,0,List.replicate 2 0)).getD default).2.2.2.2.2.2==((List.replicate 2 0).set 0 1).set 1 1&&true))else(false))else(false))else(bif a.variant==5 then(bif wr .i64 (wr .i64 (wr .i64 (((bG a (0,0,0,0,0,List.replicate 2 0)).getD default).2.2.2.1+((bG a (0,0,0,0,0,List.replicate 2 0)).getD default).1)+((bG a (0,0,0,0,0,List.replicate 2 0)).getD default).2.1)+((bG a (0,0,0,0,0,List.replicate 2 0)).getD default).2.2.1)==0 then(cg BinOp.eql (((bG a (0,0,0,0,0,List.replicate 2 0)).getD default).2.2.2.2.2.2==((List.replicate 2 0).set 0 1).set 1 1&&true))else(false))else(false))))else(bif a.variant==1 then(bif((bG a (0,0,0,0,0,List.replicate 2 0)).getD default).2.2.2.1==0 then(bif decide (wr .i64 (wr .i64 (((bG a (0,0,0,0,0,List.replicate 2 0)).getD default).1+((bG a (0,0,0,0,0,List.replicate 2 0)).getD default).2.1)+((bG a (0,0,0,0,0,List.replicate 2 0)).getD default).2.2.1)≤1)then(true)else(bif((bG a (0,0,0,0,0,List.replicate 2 0)).getD default).1==0 then(bif((bG a (0,0,0,0,0,List.replicate 2 0)).getD default).2.1==0 then(true)else(((bG a (0,0,0,0,0,List.replicate 2 0)).getD default).2.2.1==0))else(false)))else(false))else(bif a.variant==3 then(bif a.variant==3 then(bif wr .i64 (wr .i64 (wr .i64 (((bG a (0,0,0,0,0,List.replicate 2 0)).getD default).2.2.2.1+((bG a (0,0,0,0,0,List.replicate 2 0)).getD default).1)+((bG a (0,0,0,0,0,List.replicate 2 0)).getD default).2.1)+((bG a (0,0,0,0,0,List.replicate 2 0)).getD default).2.2.1)==0 then(cg BinOp.eql (((bG a (0,0,0,0,0,List.replicate 2 0)).getD default).2.2.2.2.2.2==((List.replicate 2 0).set 0 1).set 1 1&&true))else(false))else(false))else(bif a.variant==5 then(bif wr .i64 (wr .i64 (wr .i64 (((bG a (0,0,0,0,0,List.replicate 2 0)).getD default).2.2.2.1+((bG a (0,0,0,0,0,List.replicate 2 0)).getD default).1)+((bG a (0,0,0,0,0,List.replicate 2 0)).getD default).2.1)+((bG a (0,0,0,0,0,List.replicate 2 0)).getD default).2.2.1)==0 then(cg BinOp.eql (((bG a (0,0,0,0,0,List.replicate 2 0)).getD default).2.2.2.2.2.2==((List.replicate 2 0).set 0 1).set 1 1&&true))else(false))else(false)))))
def SO (a:Pos):Bool:=((bG a (0,0,0,0,0,List.replicate 2 0)).isSome&&true)
theorem P34 (a:Pos)(h:SO a=true):PS Pz 34 [Pos.av a] (dB.res (N34 a)):=pq14 anb h
def G34:GT:=g1 aZ (fun a=>b7 (SO a) (dB.res (N34 a)))
theorem s34:Sound Pz 34 G34:=aH fun a=>aA (P34 a)
end Kz
