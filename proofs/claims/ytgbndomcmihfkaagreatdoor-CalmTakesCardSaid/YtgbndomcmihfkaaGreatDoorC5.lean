/- Part 5 of the texts under the proof: an abstract interpreter,the summaries of functions,plain laws. -/
import Derived.Test.YtgbndomcmihfkaaGreatDoorC4
set_option linter.unusedSectionVars false
set_option linter.unusedVariables false
set_option linter.unusedSimpArgs false
set_option linter.unnecessarySimpa false
set_option maxRecDepth 100000
set_option maxHeartbeats 4000000
noncomputable section
namespace Kz
open Go Go.RowKit Go.Proofs
def agd:KT:=[(137,29,[(0,[2,3]),(1,[2,7]),(2,[2,7,13]),(3,[4,5,6]),(4,[2,8]),(5,[4,5,6])]),(196,4,[(0,[0]),(1,[0])])]
def ab3:aw:=bO Pz agd [(190,xZ),(195,aaZ)] [] []
theorem XV:aV ab3:=ak aj ⟨zL,aek,trivial⟩ trivial trivial
def gq (a:Pos) (b:Mv):(Int×Int×Bool):=(bif decide (gK (Pos.mk a.variant a.ae a.ab a.af a.aa a.ai a.ah a.ag a.half a.full) (Mv.mk b.az b.to b.bP b.aW b.bS)<0) then ((0),(0),(false)) else ((wr .i64 (cq a.aa+(if 2=2 then List.take 2 (List.drop ((gK (Pos.mk a.variant a.ae a.ab a.af a.aa a.ai a.ah a.ag a.half a.full) (Mv.mk b.az b.to b.bP b.aW b.bS)).toNat * 2) (if 4=4 then if 2=4 then ((List.replicate 2 0).set 0 2).set 1 3 else List.take 2 (if 2=4 then ((List.replicate 2 0).set 0 6).set 1 5 else List.take 0 (List.replicate 4 0)++((List.replicate 2 0).set 0 6).set 1 5++List.drop 2 (List.replicate 4 0))++((List.replicate 2 0).set 0 2).set 1 3++List.drop 4 (if 2=4 then ((List.replicate 2 0).set 0 6).set 1 5 else List.take 0 (List.replicate 4 0)++((List.replicate 2 0).set 0 6).set 1 5++List.drop 2 (List.replicate 4 0)) else (List.take 0 (List.replicate 4 0)++if 2=4 then ((List.replicate 2 0).set 0 2).set 1 3 else List.take 2 (if 2=4 then ((List.replicate 2 0).set 0 6).set 1 5 else List.take 0 (List.replicate 4 0)++((List.replicate 2 0).set 0 6).set 1 5++List.drop 2 (List.replicate 4 0))++((List.replicate 2 0).set 0 2).set 1 3++List.drop 4 (if 2=4 then ((List.replicate 2 0).set 0 6).set 1 5 else List.take 0 (List.replicate 4 0)++((List.replicate 2 0).set 0 6).set 1 5++List.drop 2 (List.replicate 4 0)))++List.drop 4 (List.replicate 4 0))) else List.take 0 (List.replicate 2 0)++List.take 2 (List.drop ((gK (Pos.mk a.variant a.ae a.ab a.af a.aa a.ai a.ah a.ag a.half a.full) (Mv.mk b.az b.to b.bP b.aW b.bS)).toNat * 2) (if 4=4 then if 2=4 then ((List.replicate 2 0).set 0 2).set 1 3 else List.take 2 (if 2=4 then ((List.replicate 2 0).set 0 6).set 1 5 else List.take 0 (List.replicate 4 0)++((List.replicate 2 0).set 0 6).set 1 5++List.drop 2 (List.replicate 4 0))++((List.replicate 2 0).set 0 2).set 1 3++List.drop 4 (if 2=4 then ((List.replicate 2 0).set 0 6).set 1 5 else List.take 0 (List.replicate 4 0)++((List.replicate 2 0).set 0 6).set 1 5++List.drop 2 (List.replicate 4 0)) else (List.take 0 (List.replicate 4 0)++if 2=4 then ((List.replicate 2 0).set 0 2).set 1 3 else List.take 2 (if 2=4 then ((List.replicate 2 0).set 0 6).set 1 5 else List.take 0 (List.replicate 4 0)++((List.replicate 2 0).set 0 6).set 1 5++List.drop 2 (List.replicate 4 0))++((List.replicate 2 0).set 0 2).set 1 3++List.drop 4 (if 2=4 then ((List.replicate 2 0).set 0 6).set 1 5 else List.take 0 (List.replicate 4 0)++((List.replicate 2 0).set 0 6).set 1 5++List.drop 2 (List.replicate 4 0)))++List.drop 4 (List.replicate 4 0)))++List.drop 2 (List.replicate 2 0)).getD 0 0)),(wr .i64 (cq a.aa+(if 2=2 then List.take 2 (List.drop ((gK (Pos.mk a.variant a.ae a.ab a.af a.aa a.ai a.ah a.ag a.half a.full) (Mv.mk b.az b.to b.bP b.aW b.bS)).toNat * 2) (if 4=4 then if 2=4 then ((List.replicate 2 0).set 0 2).set 1 3 else List.take 2 (if 2=4 then ((List.replicate 2 0).set 0 6).set 1 5 else List.take 0 (List.replicate 4 0)++((List.replicate 2 0).set 0 6).set 1 5++List.drop 2 (List.replicate 4 0))++((List.replicate 2 0).set 0 2).set 1 3++List.drop 4 (if 2=4 then ((List.replicate 2 0).set 0 6).set 1 5 else List.take 0 (List.replicate 4 0)++((List.replicate 2 0).set 0 6).set 1 5++List.drop 2 (List.replicate 4 0)) else (List.take 0 (List.replicate 4 0)++if 2=4 then ((List.replicate 2 0).set 0 2).set 1 3 else List.take 2 (if 2=4 then ((List.replicate 2 0).set 0 6).set 1 5 else List.take 0 (List.replicate 4 0)++((List.replicate 2 0).set 0 6).set 1 5++List.drop 2 (List.replicate 4 0))++((List.replicate 2 0).set 0 2).set 1 3++List.drop 4 (if 2=4 then ((List.replicate 2 0).set 0 6).set 1 5 else List.take 0 (List.replicate 4 0)++((List.replicate 2 0).set 0 6).set 1 5++List.drop 2 (List.replicate 4 0)))++List.drop 4 (List.replicate 4 0))) else List.take 0 (List.replicate 2 0)++List.take 2 (List.drop ((gK (Pos.mk a.variant a.ae a.ab a.af a.aa a.ai a.ah a.ag a.half a.full) (Mv.mk b.az b.to b.bP b.aW b.bS)).toNat * 2) (if 4=4 then if 2=4 then ((List.replicate 2 0).set 0 2).set 1 3 else List.take 2 (if 2=4 then ((List.replicate 2 0).set 0 6).set 1 5 else List.take 0 (List.replicate 4 0)++((List.replicate 2 0).set 0 6).set 1 5++List.drop 2 (List.replicate 4 0))++((List.replicate 2 0).set 0 2).set 1 3++List.drop 4 (if 2=4 then ((List.replicate 2 0).set 0 6).set 1 5 else List.take 0 (List.replicate 4 0)++((List.replicate 2 0).set 0 6).set 1 5++List.drop 2 (List.replicate 4 0)) else (List.take 0 (List.replicate 4 0)++if 2=4 then ((List.replicate 2 0).set 0 2).set 1 3 else List.take 2 (if 2=4 then ((List.replicate 2 0).set 0 6).set 1 5 else List.take 0 (List.replicate 4 0)++((List.replicate 2 0).set 0 6).set 1 5++List.drop 2 (List.replicate 4 0))++((List.replicate 2 0).set 0 2).set 1 3++List.drop 4 (if 2=4 then ((List.replicate 2 0).set 0 6).set 1 5 else List.take 0 (List.replicate 4 0)++((List.replicate 2 0).set 0 6).set 1 5++List.drop 2 (List.replicate 4 0)))++List.drop 4 (List.replicate 4 0)))++List.drop 2 (List.replicate 2 0)).getD 1 0)),(true)))
def v8 (a:Pos) (b:Mv):Bool:=(bif decide (gK (Pos.mk a.variant a.ae a.ab a.af a.aa a.ai a.ah a.ag a.half a.full) (Mv.mk b.az b.to b.bP b.aW b.bS)<0) then true else (decide (0≤gK (Pos.mk a.variant a.ae a.ab a.af a.aa a.ai a.ah a.ag a.half a.full) (Mv.mk b.az b.to b.bP b.aW b.bS))&&decide (gK (Pos.mk a.variant a.ae a.ab a.af a.aa a.ai a.ah a.ag a.half a.full) (Mv.mk b.az b.to b.bP b.aW b.bS) < ↑2)&&true))
theorem agb (a:Pos) (b:Mv) (h:v8 a b=true):PS Pz 137 [Pos.av a,Mv.av b] ((d3 (dI .i64) (dI .i64) dB).res (gq a b)):=pq14 XV h
def qP:GT:=g2 aY qZ (fun a b=>cg (v8 a b) ((d3 (dI .i64) (dI .i64) dB).res (gq a b)))
theorem rU:Sound Pz 137 qP:=aT fun a b=>ay (agb a b)
def agC:KT:=[(197,15,[(0,[0,1,8,9,12,13]),(1,[4])])]
def ahG:aw:=bO Pz agC [] [] []
theorem aaj:aV ahG:=ak aj trivial trivial trivial
def qV (a:Int) (b:Int):Bool:=(bif decide (a≤1) then (bif decide (b≥1) then (decide (b≤5)) else (false)) else (false))
def YX (a:Int) (b:Int):Bool:=true
theorem agf (a:Int) (b:Int) (h:YX a b=true):PS Pz 197 [.int .u8 a,.int .u8 b] (dB.res (qV a b)):=pq14 aaj h
def Tv:GT:=g2 (dI .u8) (dI .u8) (fun a b=>.ret (dB.res (qV a b)))
theorem aaI:Sound Pz 197 Tv:=aT fun a b=>bK (agf a b rfl)
def aju:KT:=[(138,33,[(0,(1::2::3::6::(rn 13 7 []))),(1,[1,2,3,6,20]),(2,[6,7]),(3,[3,6]),(4,[6,7])])]
def ajY:aw:=bO Pz aju [(197,Tv)] [] []
theorem VM:aV ajY:=ak aj ⟨aaI,trivial⟩ trivial trivial
def jh (a:Pos) (b:Int) (c:Int):(Pos×Bool):=(bif !qV b c then (⟨(a.variant),(if 64=64 then a.ae else List.take 0 (List.replicate 64 0)++a.ae++List.drop 64 (List.replicate 64 0)),(a.ab),(if 12=12 then a.af else List.take 0 (List.replicate 12 0)++a.af++List.drop 12 (List.replicate 12 0)),(a.aa),(if 4=4 then a.ai else List.take 0 (List.replicate 4 0)++a.ai++List.drop 4 (List.replicate 4 0)),(a.ah),(if 2=2 then a.ag else List.take 0 (List.replicate 2 0)++a.ag++List.drop 2 (List.replicate 2 0)),(a.half),(a.full)⟩,(false)) else (bif a.af.getD (scale 6 b+scale 1 c).toNat 0==0 then (⟨(a.variant),(if 64=64 then a.ae else List.take 0 (List.replicate 64 0)++a.ae++List.drop 64 (List.replicate 64 0)),(a.ab),(if 12=12 then a.af else List.take 0 (List.replicate 12 0)++a.af++List.drop 12 (List.replicate 12 0)),(a.aa),(if 4=4 then a.ai else List.take 0 (List.replicate 4 0)++a.ai++List.drop 4 (List.replicate 4 0)),(a.ah),(if 2=2 then a.ag else List.take 0 (List.replicate 2 0)++a.ag++List.drop 2 (List.replicate 2 0)),(a.half),(a.full)⟩,(false)) else (⟨(a.variant),(if 64=64 then a.ae else List.take 0 (List.replicate 64 0)++a.ae++List.drop 64 (List.replicate 64 0)),(a.ab),(if 12=12 then a.af.set (scale 6 b+scale 1 c).toNat (wr .u8 (a.af.getD (scale 6 b+scale 1 c).toNat 0-1)) else List.take 0 (List.replicate 12 0)++a.af.set (scale 6 b+scale 1 c).toNat (wr .u8 (a.af.getD (scale 6 b+scale 1 c).toNat 0-1))++List.drop 12 (List.replicate 12 0)),(a.aa),(if 4=4 then a.ai else List.take 0 (List.replicate 4 0)++a.ai++List.drop 4 (List.replicate 4 0)),(a.ah),(if 2=2 then a.ag else List.take 0 (List.replicate 2 0)++a.ag++List.drop 2 (List.replicate 2 0)),(a.half),(a.full)⟩,(true))))
def yN (a:Pos) (b:Int) (c:Int):Bool:=(bif !qV b c then true else (decide (0≤b)&&decide (b < ↑2)&&(decide (0≤c)&&decide (c < ↑6)&&(bif a.af.getD (scale 6 b+scale 1 c).toNat 0==0 then true else (decide (0≤b)&&decide (b < ↑2)&&(decide (0≤c)&&decide (c < ↑6)&&(decide (0≤b)&&decide (b < ↑2)&&(decide (0≤c)&&decide (c < ↑6)&&true))))))))
theorem adL (a:Pos) (b:Int) (c:Int) (h:yN a b c=true):PS Pz 138 [Pos.av a,.int .u8 b,.int .u8 c] ((d2 aY dB).res (jh a b c)):=pq14 VM h
def qM:GT:=g3 aY (dI .u8) (dI .u8) (fun a b c=>cg (yN a b c) ((d2 aY dB).res (jh a b c)))
theorem rR:Sound Pz 138 qM:=dg fun a b c=>ay (adL a b c)
def ah7:KT:=[(141,30,[(0,(1::2::3::6::(rn 11 7 []))),(1,[1,2,3,6,18]),(2,[3,6]),(3,[6])])]
def abW:aw:=bO Pz ah7 [(197,Tv)] [] []
theorem WW:aV abW:=ak aj ⟨aaI,trivial⟩ trivial trivial
def bk (a:Pos) (b:Int) (c:Int):Pos:=(bif qV b c then (bif decide (a.af.getD (scale 6 b+scale 1 c).toNat 0<255) then ⟨(a.variant),(if 64=64 then a.ae else List.take 0 (List.replicate 64 0)++a.ae++List.drop 64 (List.replicate 64 0)),(a.ab),(if 12=12 then a.af.set (scale 6 b+scale 1 c).toNat (wr .u8 (a.af.getD (scale 6 b+scale 1 c).toNat 0+1)) else List.take 0 (List.replicate 12 0)++a.af.set (scale 6 b+scale 1 c).toNat (wr .u8 (a.af.getD (scale 6 b+scale 1 c).toNat 0+1))++List.drop 12 (List.replicate 12 0)),(a.aa),(if 4=4 then a.ai else List.take 0 (List.replicate 4 0)++a.ai++List.drop 4 (List.replicate 4 0)),(a.ah),(if 2=2 then a.ag else List.take 0 (List.replicate 2 0)++a.ag++List.drop 2 (List.replicate 2 0)),(a.half),(a.full)⟩ else ⟨(a.variant),(if 64=64 then a.ae else List.take 0 (List.replicate 64 0)++a.ae++List.drop 64 (List.replicate 64 0)),(a.ab),(if 12=12 then a.af else List.take 0 (List.replicate 12 0)++a.af++List.drop 12 (List.replicate 12 0)),(a.aa),(if 4=4 then a.ai else List.take 0 (List.replicate 4 0)++a.ai++List.drop 4 (List.replicate 4 0)),(a.ah),(if 2=2 then a.ag else List.take 0 (List.replicate 2 0)++a.ag++List.drop 2 (List.replicate 2 0)),(a.half),(a.full)⟩) else ⟨(a.variant),(if 64=64 then a.ae else List.take 0 (List.replicate 64 0)++a.ae++List.drop 64 (List.replicate 64 0)),(a.ab),(if 12=12 then a.af else List.take 0 (List.replicate 12 0)++a.af++List.drop 12 (List.replicate 12 0)),(a.aa),(if 4=4 then a.ai else List.take 0 (List.replicate 4 0)++a.ai++List.drop 4 (List.replicate 4 0)),(a.ah),(if 2=2 then a.ag else List.take 0 (List.replicate 2 0)++a.ag++List.drop 2 (List.replicate 2 0)),(a.half),(a.full)⟩)
def tz (a:Pos) (b:Int) (c:Int):Bool:=(bif qV b c then (decide (0≤b)&&decide (b < ↑2)&&(decide (0≤c)&&decide (c < ↑6)&&(bif decide (a.af.getD (scale 6 b+scale 1 c).toNat 0<255) then (decide (0≤b)&&decide (b < ↑2)&&(decide (0≤c)&&decide (c < ↑6)&&(decide (0≤b)&&decide (b < ↑2)&&(decide (0≤c)&&decide (c < ↑6)&&true)))) else true))) else true)
theorem adK (a:Pos) (b:Int) (c:Int) (h:tz a b c=true):PS Pz 141 [Pos.av a,.int .u8 b,.int .u8 c] (aY.res (bk a b c)):=pq14 WW h
def qT:GT:=g3 aY (dI .u8) (dI .u8) (fun a b c=>cg (tz a b c) (aY.res (bk a b c)))
theorem sz:Sound Pz 141 qT:=dg fun a b c=>ay (adK a b c)
def ai4:KT:=[(143,32,[(0,[1,2,10,11]),(1,[1,2,12]),(2,[4]),(3,[1,2,5]),(4,[1,2,5,6]),(5,[1,2,5,6,19]),(6,[1,2,5,6]),(7,[1,2,5,6]),(8,[4])])]
def aid:aw:=bO Pz ai4 [(193,tG),(147,fD),(199,wN)] [] []
theorem WY:aV aid:=ak aj ⟨uJ,fG,Aj,trivial⟩ trivial trivial
def qd (a:Pos) (b:Int):BitVec 64:=(bif decide (b<0) then (0#64) else (bif decide (b≥64) then (0#64) else (cX b&&&bg (Pos.mk a.variant a.ae a.ab a.af a.aa a.ai a.ah a.ag a.half a.full) &&& ~~~aK (Pos.mk a.variant a.ae a.ab a.af a.aa a.ai a.ah a.ag a.half a.full) 0 1 &&& ~~~aK (Pos.mk a.variant a.ae a.ab a.af a.aa a.ai a.ah a.ag a.half a.full) (wr .u8 (0+1)) 1|||1#64 <<< (BitVec.ofInt 64 b).toNat)))
def Aq (a:Pos) (b:Int):Bool:=(bif decide (b<0) then true else (bif decide (b≥64) then true else (oK (b)&&(qz (Pos.mk a.variant a.ae a.ab a.af a.aa a.ai a.ah a.ag a.half a.full)&&(ct (Pos.mk a.variant a.ae a.ab a.af a.aa a.ai a.ah a.ag a.half a.full) (0) (1)&&(ct (Pos.mk a.variant a.ae a.ab a.af a.aa a.ai a.ah a.ag a.half a.full) (wr .u8 (0+1)) (1)&&true))))))
theorem aez (a:Pos) (b:Int) (h:Aq a b=true):PS Pz 143 [Pos.av a,.int .i64 b] (dU.res (qd a b)):=pq14 WY h
def qW:GT:=g2 aY (dI .i64) (fun a b=>cg (Aq a b) (dU.res (qd a b)))
theorem uk:Sound Pz 143 qW:=aT fun a b=>ay (aez a b)
end Kz
end
noncomputable section
namespace Kz
open Go
theorem MS:∀ f t:Fin 64,(df 0 f.val).getLsbD t.val=true→8≤t.val:=by decide +kernel
theorem L8:∀ f t:Fin 64,(df 1 f.val).getLsbD t.val=true→t.val<56:=by decide +kernel
theorem fP {x:Nat} {i:Nat} (hi:i<64):(1#64 <<< x).getLsbD i=decide (i=x):=by
 rw [BitVec.getLsbD_shiftLeft,BitVec.getLsbD_one]
 rcases Nat.lt_trichotomy i x with h | rfl | h
 ·have:¬ i=x:=by omega
  simp [h,this]
 ·simp [hi]
 ·have h1:¬ i=x:=by omega
  have h2:¬ i-x=0:=by omega
  simp [h1,h2]
theorem cP {n:Int} (h0:0≤n) (h1:n<18446744073709551616):(BitVec.ofInt 64 n).toNat=n.toNat:=by
 rw [BitVec.toNat_ofInt]
 omega
theorem JF {c k v:Int} (h:dn c k v=true):k=0∨bu v=k:=by
 unfold dn at h
 simp only [E',Bool.or_eq_true,beq_iff_eq] at h
 exact h.2
theorem ER {p:Pos} (hp:aO p) (ht:p.aa≤1) {x:Pos×BitVec 64×BitVec 64} (hx:x.1=p) {f t:Nat} (hf:f<64) (h1:t<64) (hm:(f:Int).tmod 8≠(t:Int).tmod 8) (hb:(AA x f).getLsbD t=true):(df p.aa f).getLsbD t=true:=by
 have h0:=hp.t0
 have hne:f % 8≠t % 8:=by
  intro e
  apply hm
  rw [Int.tmod_eq_emod_of_nonneg (by omega),Int.tmod_eq_emod_of_nonneg (by omega)]
  omega
 have a1:∀ n:Int,(n=f+8∨n=f-8∨n=f+16∨n=f-16)→(1#64 <<< (BitVec.ofInt 64 n).toNat).getLsbD t=false:=by
  intro n hn
  rw [fP h1]
  simp only [decide_eq_false_iff_not]
  rw [BitVec.toNat_ofInt]
  omega
 have w:∀ s:Int,-100≤s→s≤100→(cV p.aa s=s+8∨cV p.aa s=s-8):=by
  intro s g0 g1
  unfold cV
  rw [aN (n:=s-8) (by omega) (by omega),aN (n:=s+8) (by omega) (by omega)]
  exact au (P:=fun x:Int=>x=s+8∨x=s-8) (fun _=>.inr rfl) fun _=>.inl rfl
 have b1:=w f (by omega) (by omega)
 have b2:=w (cV p.aa f) (by omega) (by omega)
 have c1:=a1 (cV p.aa f) (by omega)
 have c2:(1#64 <<< (BitVec.ofInt 64 (cV p.aa (cV p.aa f))).toNat).getLsbD t=false:=by
  by_cases e:cV p.aa (cV p.aa f)=f
  ·rw [e,fP h1]
   simp only [decide_eq_false_iff_not]
   rw [BitVec.toNat_ofInt]
   omega
  ·exact a1 _ (by omega)
 revert hb
 unfold AA
 rw [hx]
 have k1:∀ y:BitVec 64,(df p.aa f&&&y).getLsbD t=true→(df p.aa f).getLsbD t=true:=fun y h=>by
  rw [BitVec.getLsbD_and] at h
  exact (E' _ _ ▸ h).1
 have k2:∀ y:BitVec 64,(df p.aa f&&&y|||1#64 <<< (BitVec.ofInt 64 (cV p.aa f)).toNat).getLsbD t=true→(df p.aa f).getLsbD t=true:=fun y h=>by
  rw [BitVec.getLsbD_or,c1,Bool.or_false] at h
  exact k1 y h
 have k3:∀ y z:BitVec 64,(df p.aa f&&&y|||1#64 <<< (BitVec.ofInt 64 (cV p.aa f)).toNat|||1#64 <<< (BitVec.ofInt 64 (cV p.aa (cV p.aa f))).toNat&&&z).getLsbD t=true→(df p.aa f).getLsbD t=true:=fun y z h=>by
  rw [BitVec.getLsbD_or,BitVec.getLsbD_and,c2,Bool.false_and,Bool.or_false] at h
  exact k2 y h
 repeat' (first | with_reducible exact k1 _ | with_reducible exact k2 _ | with_reducible exact k3 _ _ | refine au (P:=fun y:BitVec 64=>y.getLsbD t=true→(df p.aa f).getLsbD t=true) (fun _=>?_) (fun _=>?_))
theorem BB {p:Pos} (hp:aO p) (m:Mv) : -1≤bC p m∧bC p m<64:=by
 have hl:=jL hp.v0
 unfold bC
 refine au (P:=fun x:Int => -1≤x∧x<64) (fun _=>by simp) fun hthere=>au (P:=fun x:Int => -1≤x∧x<64) (fun _=>by simp) fun h=>?_
 rw [pw (by omega)] at h
 have hm:m∈dX p:=by simpa using h
 obtain ⟨th,f,t,h1,h2,h3,h4,h5,h6,h7,h8,h9,h10⟩:=gD hp.v0 hm
 rw [h3,h4]
 rw [aN (n:=(t:Int)) (by omega) (by omega)]
 refine au (P:=fun x:Int => -1≤x∧x<64) (fun _=>by omega) fun _=>au (P:=fun x:Int => -1≤x∧x<64) (fun hk=>au (P:=fun x:Int => -1≤x∧x<64) (fun hd=>?_) fun _=>by simp) fun _=>by simp
 have hd:(f:Int).tmod 8≠(t:Int).tmod 8:=by simpa using hd
 have hto:(AA (p,own p,gV p) f).getLsbD t=true:=by
  unfold gP at h10
  rw [hk,cond_true,BitVec.getLsbD_and] at h10
  exact (E' _ _ ▸ h10).1
 have hat:=ER hp th.1 rfl h1 h2 hd hto
 have h0:=hp.t0
 have ht:=th.1
 have:p.aa=0∨p.aa=1:=by omega
 rcases this with e | e
 ·rw [e] at hat
  have:=MS ⟨f,h1⟩ ⟨t,h2⟩ hat
  simp only at this
  rw [e]
  unfold cV
  rw [show wr .u8 (1-0)=1 from by decide,aN (n:=(t:Int)-8) (by omega) (by omega)]
  show -1≤(t:Int)-8∧(t:Int)-8<64
  omega
 ·rw [e] at hat
  have:=L8 ⟨f,h1⟩ ⟨t,h2⟩ hat
  simp only at this
  rw [e]
  unfold cV
  rw [show wr .u8 (1-1)=0 from by decide,aN (n:=(t:Int)+8) (by omega) (by omega)]
  show -1≤(t:Int)+8∧(t:Int)+8<64
  omega
theorem Ct (p:Pos) (m:Mv) : -1≤gK p m∧gK p m≤1:=by
 unfold gK
 repeat' (first | (constructor<;>decide) | refine au (P:=fun x:Int => -1≤x∧x≤1) (fun _=>?_) (fun _=>?_))
theorem t137 (p:Pos) (m:Mv):v8 p m=true:=by
 unfold v8
 refine aq (fun _=>rfl) fun h=>ao ?_ fun _=>rfl
 have h1:=Ct p m
 have h:¬ gK p m<0:=by simpa using h
 show (decide (0≤gK p m)&&decide (gK p m<2))=true
 simp
 omega
theorem DX {p:Pos} (h0:0≤p.aa) (ht:p.aa≤1) (m:Mv):0≤(gq p m).1∧(gq p m).1<64∧0≤(gq p m).2.1∧(gq p m).2.1<64:=by
 have h1:=Ct p m
 unfold gq
 refine au (P:=fun x:Int×Int×Bool=>0≤x.1∧x.1<64∧0≤x.2.1∧x.2.1<64) (fun _=>by simp) fun h=>?_
 have h:¬ gK p m<0:=by simpa using h
 rw [nZ h0 ht]
 show 0≤wr .i64 (56 * p.aa+_)∧_
 have e:gK p m=0∨gK p m=1:=by omega
 have e':gK ⟨p.variant,p.ae,p.ab,p.af,p.aa,p.ai,p.ah,p.ag,p.half,p.full⟩ ⟨m.az,m.to,m.bP,m.aW,m.bS⟩=gK p m:=rfl
 rw [e']
 have e2:p.aa=0∨p.aa=1:=by omega
 rcases e with e | e<;>rcases e2 with e2 | e2<;>rw [e,e2]<;>decide
theorem t138 {p:Pos} {b c:Int} (hb:0≤b) (hc:0≤c):yN p b c=true:=by
 unfold yN
 refine aq (fun _=>rfl) fun h=>?_
 have h:qV b c=true:=by simpa using h
 have hin:b≤1∧1≤c∧c≤5:=by
  revert h
  unfold qV
  refine au (P:=fun x:Bool=>x=true→_) (fun h1=>au (P:=fun x:Bool=>x=true→_) (fun h2 h3=>?_) fun _ h=>by cases h) fun _ h=>by cases h
  simp only [decide_eq_true_eq] at h1 h2 h3
  omega
 have a1:(decide (0≤b)&&decide (b<2))=true:=by simp;omega
 have a2:(decide (0≤c)&&decide (c<6))=true:=by simp;omega
 repeat' (first | with_reducible rfl | with_reducible exact a1 | with_reducible exact a2 | refine ao ?_ (fun _=>?_) | refine aq (fun _=>?_) (fun _=>?_))
theorem t141 {p:Pos} {b c:Int} (hb:0≤b) (hc:0≤c):tz p b c=true:=by
 unfold tz
 refine aq (fun h=>?_) fun _=>rfl
 have hin:b≤1∧1≤c∧c≤5:=by
  revert h
  unfold qV
  refine au (P:=fun x:Bool=>x=true→_) (fun h1=>au (P:=fun x:Bool=>x=true→_) (fun h2 h3=>?_) fun _ h=>by cases h) fun _ h=>by cases h
  simp only [decide_eq_true_eq] at h1 h2 h3
  omega
 have a1:(decide (0≤b)&&decide (b<2))=true:=by simp;omega
 have a2:(decide (0≤c)&&decide (c<6))=true:=by simp;omega
 repeat' (first | with_reducible rfl | with_reducible exact a1 | with_reducible exact a2 | refine ao ?_ (fun _=>?_) | refine aq (fun _=>?_) (fun _=>?_))
theorem t143 (p:Pos) (s:Int):Aq p s=true:=by
 unfold Aq
 repeat' (first | with_reducible rfl | with_reducible exact t199 _ | with_reducible exact t193 _ | with_reducible exact t147 _ _ _ | refine ao ?_ (fun _=>?_) | refine aq (fun _=>?_) (fun _=>?_))
theorem N1 {v:Int} (h:0≤v):0≤bu v:=by
 unfold bu
 exact au (P:=fun x:Int=>0≤x) (fun _=>by simp) fun _=>Int.tmod_nonneg _ h
end Kz
end
noncomputable section
namespace Kz
open Go Go.RowKit Go.Proofs
def ady:KT:=[(148,8,[(0,[0]),(1,[0,4]),(2,[2]),(3,[2])])]
def agq:aw:=bO Pz ady [] [] []
theorem XB:aV agq:=ak aj trivial trivial trivial
def lS (a:Int):Int:=(bif decide (a≥10000) then (a) else (wr .i64 (a+1)))
def aa6 (a:Int):Bool:=true
theorem aeO (a:Int) (h:aa6 a=true):PS Pz 148 [.int .i64 a] ((dI .i64).res (lS a)):=pq14 XB h
def qU:GT:=g1 (dI .i64) (fun a=>.ret ((dI .i64).res (lS a)))
theorem uB:Sound Pz 148 qU:=aF fun a=>bK (aeO a rfl)
def Gi:KT:=[(31,48,[(0,[2,3,4]),(1,[2,3,4,13]),(2,[4,5]),(3,[4,6]),(4,[4,6,37,38]),(5,[4,6,37,38,39]),(6,[4,6,8,37,38]),(7,[4,6,37,38]),(8,[4,6,37,38]),(9,[4,5])]),(68,156,[(0,[0,2]),(1,[0,2,14]),(2,[0,2]),(3,[0,2]),(4,[0,2,48]),(5,[]),(6,[0,2,64]),(7,[0,2,3,4]),(8,[0,2,3,4]),(9,[]),(10,[0,2,119]),(11,[0,2]),(12,[])]),(69,188,[(0,(1::(rn 14 6 (rn 99 11 (rn 163 8 []))))),(1,(1::20::(rn 99 11 (rn 163 8 [])))),(2,(1::2::(rn 99 11 (rn 163 8 [])))),(3,(1::2::26::(rn 99 11 (rn 163 8 [])))),(4,[1,2,4]),(5,[1,4,47]),(6,[1,4]),(7,[]),(8,(1::2::80::(rn 99 11 (rn 163 8 [])))),(9,(1::2::6::(rn 99 11 (rn 163 8 [])))),(10,(1::2::6::110::(rn 163 8 []))),(11,(1::2::6::(rn 163 8 []))),(12,(1::2::(rn 163 8 []))),(13,(1::2::(rn 163 8 []))),(14,(1::2::(rn 163 8 []))),(15,[1,171]),(16,[])]),(70,41,[(0,[0,16]),(1,[0,28,29,30]),(2,[0,28,29,30,31]),(3,[0,3,28,29,30]),(4,[0,28,29,30]),(5,[0,28,29,30])]),(71,121,[(0,(0::18::54::55::(rn 70 16 (89::90::(rn 93 6 (rn 101 10 [])))))),(1,(0::54::55::(rn 70 16 (89::90::(rn 93 6 (rn 101 10 [])))))),(2,(0::2::54::55::(rn 70 16 (89::90::(rn 93 6 (rn 101 10 [])))))),(3,(0::2::31::54::55::(rn 70 16 (89::90::(rn 93 6 (rn 101 10 [])))))),(4,(0::2::54::55::(rn 70 16 (89::90::(rn 93 6 (rn 101 10 [])))))),(5,(0::2::3::54::55::(rn 70 16 (89::90::(rn 93 6 (rn 101 10 [])))))),(6,(0::2::3::46::47::54::55::(rn 70 16 (89::90::(rn 93 6 (rn 101 10 [])))))),(7,(0::2::3::46::47::48::54::55::(rn 70 16 (89::90::(rn 93 6 (rn 101 10 [])))))),(8,(0::(rn 2 4 (46::47::54::55::(rn 70 16 (89::90::(rn 93 6 (rn 101 10 [])))))))),(9,(0::(rn 2 4 (46::47::54::55::56::(rn 70 16 (89::90::(rn 93 6 (rn 101 10 [])))))))),(10,(0::2::3::4::6::46::47::54::55::(rn 70 16 (89::90::(rn 93 6 (rn 101 10 [])))))),(11,(0::2::3::4::6::7::46::47::54::55::(rn 70 16 (89::90::(rn 93 6 (rn 101 10 [])))))),(12,(0::2::3::4::46::47::54::55::(rn 70 16 (89::90::(rn 93 6 (rn 101 11 [])))))),(13,(0::2::3::46::47::54::55::(rn 70 16 (89::90::(rn 93 6 (rn 101 10 [])))))),(14,(0::2::3::46::47::54::55::(rn 70 16 (89::90::(rn 93 6 (rn 101 10 []))))))]),(72,112,[(0,(0::(rn 12 6 (rn 20 26 (rn 64 9 []))))),(1,(0::46::(rn 64 9 []))),(2,(0::2::(rn 64 9 []))),(3,[0,73]),(4,[0,3]),(5,[0,3,106]),(6,[])]),(73,42,[(0,(0::(rn 16 5 []))),(1,[0,21]),(2,[0]),(3,[0,31]),(4,[])]),(74,59,[(0,(0::(rn 26 8 (rn 36 10 [])))),(1,(0::2::(rn 26 8 (rn 36 10 [])))),(2,[0,2,46]),(3,[])]),(140,14,[(0,[0,1]),(1,[3])]),(144,26,[(0,[0]),(1,[0,8]),(2,[2]),(3,[2])])]
def XP:aw:=bO Pz Gi [(149,oU),(66,AK),(65,Dk),(67,Ei),(147,fD),(135,iO),(137,qP),(138,qM),(139,ov),(141,qT),(142,iw),(143,qW),(145,jM),(146,nW),(148,qU)] [] []
theorem Uv:aV XP:=ak aj ⟨ph,Bb,Ey,FJ,fG,jo,rU,rR,pz,sz,iP,uk,ke,ql,uB,trivial⟩ trivial trivial
def Ra (p1:Pos) (p2:Mv) (p3:Pos) (p4:Pos) (p5:Mv) (p6:Int):List AV:=[AV.ptr 3 0]
def PL (p1:Pos) (p2:Mv) (p3:Pos) (p4:Pos) (p5:Mv) (p6:Int):Hp:=Hp.mk [(pc p1 []),[AV.int .i8 p2.az,AV.int .i8 p2.to,AV.int .u8 p2.bP,AV.int .u8 p2.aW,AV.bool p2.bS],zpB,(pc p3 (pc p4 [AV.int .i8 p5.az,AV.int .i8 p5.to,AV.int .u8 p5.bP,AV.int .u8 p5.aW,AV.bool p5.bS,AV.int .i64 p6]))] [] [] 0 0 0
def Ll (p1:Pos) (p2:Mv) (p3:Pos) (p4:Pos) (p5:Mv) (p6:Int) (y:(Pos)):bT := .ret (.tuple []) (Hp.mk [(pc p1 []),[.int .i8 p2.az,.int .i8 p2.to,.int .u8 p2.bP,.int .u8 p2.aW,.bool p2.bS],zpB,(pc y (pc p4 [.int .i8 p5.az,.int .i8 p5.to,.int .u8 p5.bP,.int .u8 p5.aW,.bool p5.bS,.int .i64 p6]))] [] [] 0 0 0)
def bM (p1:Pos) (p2:Mv) (p3:Pos) (p4:Pos) (p5:Mv) (p6:Int):(Pos):=(bif p5.bS then (Pos.mk p3.variant ((((p3.ae.set (scale 1 p5.az).toNat 0).set (scale 1 p5.to).toNat 0).set (scale 1 (gq p4 p5).1).toNat (p4.ae.getD (scale 1 p5.az).toNat 0)).set (scale 1 (gq p4 p5).2.1).toNat (p4.ae.getD (scale 1 p5.to).toNat 0)) p3.ab p3.af p3.aa p3.ai p3.ah p3.ag p3.half p3.full) else (bif p5.aW != 0 then (Pos.mk (jh p3 p3.aa p5.aW).1.variant ((jh p3 p3.aa p5.aW).1.ae.set (scale 1 p5.to).toNat (kI (jh p3 p3.aa p5.aW).1.aa p5.aW)) (jh p3 p3.aa p5.aW).1.ab (jh p3 p3.aa p5.aW).1.af (jh p3 p3.aa p5.aW).1.aa (jh p3 p3.aa p5.aW).1.ai (jh p3 p3.aa p5.aW).1.ah (jh p3 p3.aa p5.aW).1.ag (jh p3 p3.aa p5.aW).1.half (jh p3 p3.aa p5.aW).1.full) else (bif decide (p6≥0) then (bif p5.bP != 0 then (Pos.mk p3.variant ((((p3.ae.set (scale 1 p6).toNat 0).set (scale 1 p5.az).toNat 0).set (scale 1 p5.to).toNat (p4.ae.getD (scale 1 p5.az).toNat 0)).set (scale 1 p5.to).toNat (kI p3.aa p5.bP)) p3.ab p3.af p3.aa p3.ai p3.ah p3.ag p3.half p3.full) else (Pos.mk p3.variant (((p3.ae.set (scale 1 p6).toNat 0).set (scale 1 p5.az).toNat 0).set (scale 1 p5.to).toNat (p4.ae.getD (scale 1 p5.az).toNat 0)) p3.ab p3.af p3.aa p3.ai p3.ah p3.ag p3.half p3.full)) else (bif p5.bP != 0 then (Pos.mk p3.variant (((p3.ae.set (scale 1 p5.az).toNat 0).set (scale 1 p5.to).toNat (p4.ae.getD (scale 1 p5.az).toNat 0)).set (scale 1 p5.to).toNat (kI p3.aa p5.bP)) p3.ab p3.af p3.aa p3.ai p3.ah p3.ag p3.half p3.full) else (Pos.mk p3.variant ((p3.ae.set (scale 1 p5.az).toNat 0).set (scale 1 p5.to).toNat (p4.ae.getD (scale 1 p5.az).toNat 0)) p3.ab p3.af p3.aa p3.ai p3.ah p3.ag p3.half p3.full)))))
def nY (p1:Pos) (p2:Mv) (p3:Pos) (p4:Pos) (p5:Mv) (p6:Int):Bool:=(bif p5.bS then (v8 (p4) (p5)&&(decide (0≤p5.az)&&decide (p5.az<Int.ofNat 64)&&(decide (0≤p5.to)&&decide (p5.to<Int.ofNat 64)&&(decide (0≤p5.az)&&decide (p5.az<Int.ofNat 64)&&(decide (0≤p5.to)&&decide (p5.to<Int.ofNat 64)&&(decide (0≤(gq p4 p5).1)&&decide ((gq p4 p5).1<Int.ofNat 64)&&(decide (0≤(gq p4 p5).2.1)&&decide ((gq p4 p5).2.1<Int.ofNat 64)&&true))))))) else (bif p5.aW != 0 then (yN (p3) (p3.aa) (p5.aW)&&(decide (0≤p5.to)&&decide (p5.to<Int.ofNat 64)&&true)) else (bif decide (p6≥0) then (decide (0≤p6)&&decide (p6<Int.ofNat 64)&&(decide (0≤p5.az)&&decide (p5.az<Int.ofNat 64)&&(decide (0≤p5.az)&&decide (p5.az<Int.ofNat 64)&&(decide (0≤p5.to)&&decide (p5.to<Int.ofNat 64)&&(bif p5.bP != 0 then (decide (0≤p5.to)&&decide (p5.to<Int.ofNat 64)&&true) else true))))) else (decide (0≤p5.az)&&decide (p5.az<Int.ofNat 64)&&(decide (0≤p5.az)&&decide (p5.az<Int.ofNat 64)&&(decide (0≤p5.to)&&decide (p5.to<Int.ofNat 64)&&(bif p5.bP != 0 then (decide (0≤p5.to)&&decide (p5.to<Int.ofNat 64)&&true) else true)))))))
abbrev Tg {α:Type} (k:Pos→Mv→Pos→Pos→Mv→Int→α) (s:St):α:=wP s 0 fun q0=>wP s 3 fun q3=>wM s 1 fun q1=>k q0 q1 q3 (Kz.Pos.mk (tI (tH s 3 10)) (tN (tH s 3 11)) (tU (tH s 3 12)) (tN (tH s 3 13)) (tI (tH s 3 14)) (tN (tH s 3 15)) (tI (tH s 3 16)) (tN (tH s 3 17)) (tI (tH s 3 18)) (tI (tH s 3 19))) (Kz.Mv.mk (tI (tH s 3 20)) (tI (tH s 3 21)) (tI (tH s 3 22)) (tI (tH s 3 23)) (tB (tH s 3 24))) (tI (tH s 3 25))
theorem Rd (p1:Pos) (p2:Mv) (p3:Pos) (p4:Pos) (p5:Mv) (p6:Int) (h:nY p1 p2 p3 p4 p5 p6=true):di Pz 68 (Ra p1 p2 p3 p4 p5 p6) (PL p1 p2 p3 p4 p5 p6) (Ll p1 p2 p3 p4 p5 p6 (bM p1 p2 p3 p4 p5 p6))∧∃ fn,Pz.funcs[68]?=some fn∧fn.body.isSome=true:=kc (n:=14) (O:=Ll p1 p2 p3 p4 p5 p6) Uv (fun o=>match o with | .ret v h=>(let s:St:=⟨[v],h⟩;wP s 3 fun q3=>some q3) | _=>none) (fun _=>rfl) (by kernel_rfl) (by kernel_rfl) (by kernel_rfl) (by kernel_rfl) h
def iI (xs:List AV) (h:Hp):Tr bT:=Tg (fun p1 p2 p3 p4 p5 p6=>fk xs h (Ra p1 p2 p3 p4 p5 p6) (PL p1 p2 p3 p4 p5 p6) (nY p1 p2 p3 p4 p5 p6) (Ll p1 p2 p3 p4 p5 p6) (bM p1 p2 p3 p4 p5 p6)) ⟨xs,h⟩
theorem gu:gO Pz 68 iI:=fun _ _ _ h=>uc (Rd _ _ _ _ _ _) h
def X1:aw:=bO Pz Gi [(149,oU),(66,AK),(65,Dk),(67,Ei),(147,fD),(135,iO),(137,qP),(138,qM),(139,ov),(141,qT),(142,iw),(143,qW),(145,jM),(146,nW),(148,qU)] [] [(68,iI)]
theorem RV:aV X1:=ak aj ⟨ph,Bb,Ey,FJ,fG,jo,rU,rR,pz,sz,iP,uk,ke,ql,uB,trivial⟩ trivial ⟨gu,trivial⟩
def PJ (p1:Pos) (p2:Mv) (p3:Pos) (p4:Pos) (p5:Mv) (p6:Int):List AV:=[AV.ptr 3 0]
def Py (p1:Pos) (p2:Mv) (p3:Pos) (p4:Pos) (p5:Mv) (p6:Int):Hp:=Hp.mk [(pc p1 []),[AV.int .i8 p2.az,AV.int .i8 p2.to,AV.int .u8 p2.bP,AV.int .u8 p2.aW,AV.bool p2.bS],zpB,(pc p3 (pc p4 [AV.int .i8 p5.az,AV.int .i8 p5.to,AV.int .u8 p5.bP,AV.int .u8 p5.aW,AV.bool p5.bS,AV.int .i64 p6]))] [] [] 0 0 0
def Hy (p1:Pos) (p2:Mv) (p3:Pos) (p4:Pos) (p5:Mv) (p6:Int) (y:(Pos)):bT := .ret (.tuple []) (Hp.mk [(pc p1 []),[.int .i8 p2.az,.int .i8 p2.to,.int .u8 p2.bP,.int .u8 p2.aW,.bool p2.bS],zpB,(pc y (pc p4 [.int .i8 p5.az,.int .i8 p5.to,.int .u8 p5.bP,.int .u8 p5.aW,.bool p5.bS,.int .i64 p6]))] [] [] 0 0 0)
def b7 (p1:Pos) (p2:Mv) (p3:Pos) (p4:Pos) (p5:Mv) (p6:Int):(Pos):=(bif p3.variant != 2 then (p3) else (bif p5.aW != 0 then (p3) else (bif p5.bS then (bif p4.ab >>> (BitVec.ofInt 64 (wr .i64 p5.to)).toNat&&&1#64==1#64 then (Pos.mk p3.variant p3.ae (p3.ab &&& ~~~(1#64 <<< (BitVec.ofInt 64 p5.to).toNat)|||1#64 <<< (BitVec.ofInt 64 (gq p4 p5).2.1).toNat) p3.af p3.aa p3.ai p3.ah p3.ag p3.half p3.full) else (p3)) else (bif decide (p6≥0) then (bif p4.ab >>> (BitVec.ofInt 64 p6).toNat&&&1#64==1#64 then (bif p4.ae.getD (scale 1 p6).toNat 0 != 0 then (bif p5.bP != 0 then (Pos.mk (bk p3 p3.aa 1).variant (bk p3 p3.aa 1).ae ((bk p3 p3.aa 1).ab &&& ~~~(1#64 <<< (BitVec.ofInt 64 p6).toNat) &&& ~~~(1#64 <<< (BitVec.ofInt 64 p5.az).toNat)|||1#64 <<< (BitVec.ofInt 64 p5.to).toNat) (bk p3 p3.aa 1).af (bk p3 p3.aa 1).aa (bk p3 p3.aa 1).ai (bk p3 p3.aa 1).ah (bk p3 p3.aa 1).ag (bk p3 p3.aa 1).half (bk p3 p3.aa 1).full) else (bif p4.ab >>> (BitVec.ofInt 64 (wr .i64 p5.az)).toNat&&&1#64==1#64 then (Pos.mk (bk p3 p3.aa 1).variant (bk p3 p3.aa 1).ae ((bk p3 p3.aa 1).ab &&& ~~~(1#64 <<< (BitVec.ofInt 64 p6).toNat) &&& ~~~(1#64 <<< (BitVec.ofInt 64 p5.az).toNat)|||1#64 <<< (BitVec.ofInt 64 p5.to).toNat) (bk p3 p3.aa 1).af (bk p3 p3.aa 1).aa (bk p3 p3.aa 1).ai (bk p3 p3.aa 1).ah (bk p3 p3.aa 1).ag (bk p3 p3.aa 1).half (bk p3 p3.aa 1).full) else (Pos.mk (bk p3 p3.aa 1).variant (bk p3 p3.aa 1).ae ((bk p3 p3.aa 1).ab &&& ~~~(1#64 <<< (BitVec.ofInt 64 p6).toNat) &&& ~~~(1#64 <<< (BitVec.ofInt 64 p5.az).toNat)) (bk p3 p3.aa 1).af (bk p3 p3.aa 1).aa (bk p3 p3.aa 1).ai (bk p3 p3.aa 1).ah (bk p3 p3.aa 1).ag (bk p3 p3.aa 1).half (bk p3 p3.aa 1).full))) else (bif p5.bP != 0 then (Pos.mk (bk p3 p3.aa (bu (p4.ae.getD (scale 1 p6).toNat 0))).variant (bk p3 p3.aa (bu (p4.ae.getD (scale 1 p6).toNat 0))).ae ((bk p3 p3.aa (bu (p4.ae.getD (scale 1 p6).toNat 0))).ab &&& ~~~(1#64 <<< (BitVec.ofInt 64 p6).toNat) &&& ~~~(1#64 <<< (BitVec.ofInt 64 p5.az).toNat)|||1#64 <<< (BitVec.ofInt 64 p5.to).toNat) (bk p3 p3.aa (bu (p4.ae.getD (scale 1 p6).toNat 0))).af (bk p3 p3.aa (bu (p4.ae.getD (scale 1 p6).toNat 0))).aa (bk p3 p3.aa (bu (p4.ae.getD (scale 1 p6).toNat 0))).ai (bk p3 p3.aa (bu (p4.ae.getD (scale 1 p6).toNat 0))).ah (bk p3 p3.aa (bu (p4.ae.getD (scale 1 p6).toNat 0))).ag (bk p3 p3.aa (bu (p4.ae.getD (scale 1 p6).toNat 0))).half (bk p3 p3.aa (bu (p4.ae.getD (scale 1 p6).toNat 0))).full) else (bif p4.ab >>> (BitVec.ofInt 64 (wr .i64 p5.az)).toNat&&&1#64==1#64 then (Pos.mk (bk p3 p3.aa (bu (p4.ae.getD (scale 1 p6).toNat 0))).variant (bk p3 p3.aa (bu (p4.ae.getD (scale 1 p6).toNat 0))).ae ((bk p3 p3.aa (bu (p4.ae.getD (scale 1 p6).toNat 0))).ab &&& ~~~(1#64 <<< (BitVec.ofInt 64 p6).toNat) &&& ~~~(1#64 <<< (BitVec.ofInt 64 p5.az).toNat)|||1#64 <<< (BitVec.ofInt 64 p5.to).toNat) (bk p3 p3.aa (bu (p4.ae.getD (scale 1 p6).toNat 0))).af (bk p3 p3.aa (bu (p4.ae.getD (scale 1 p6).toNat 0))).aa (bk p3 p3.aa (bu (p4.ae.getD (scale 1 p6).toNat 0))).ai (bk p3 p3.aa (bu (p4.ae.getD (scale 1 p6).toNat 0))).ah (bk p3 p3.aa (bu (p4.ae.getD (scale 1 p6).toNat 0))).ag (bk p3 p3.aa (bu (p4.ae.getD (scale 1 p6).toNat 0))).half (bk p3 p3.aa (bu (p4.ae.getD (scale 1 p6).toNat 0))).full) else (Pos.mk (bk p3 p3.aa (bu (p4.ae.getD (scale 1 p6).toNat 0))).variant (bk p3 p3.aa (bu (p4.ae.getD (scale 1 p6).toNat 0))).ae ((bk p3 p3.aa (bu (p4.ae.getD (scale 1 p6).toNat 0))).ab &&& ~~~(1#64 <<< (BitVec.ofInt 64 p6).toNat) &&& ~~~(1#64 <<< (BitVec.ofInt 64 p5.az).toNat)) (bk p3 p3.aa (bu (p4.ae.getD (scale 1 p6).toNat 0))).af (bk p3 p3.aa (bu (p4.ae.getD (scale 1 p6).toNat 0))).aa (bk p3 p3.aa (bu (p4.ae.getD (scale 1 p6).toNat 0))).ai (bk p3 p3.aa (bu (p4.ae.getD (scale 1 p6).toNat 0))).ah (bk p3 p3.aa (bu (p4.ae.getD (scale 1 p6).toNat 0))).ag (bk p3 p3.aa (bu (p4.ae.getD (scale 1 p6).toNat 0))).half (bk p3 p3.aa (bu (p4.ae.getD (scale 1 p6).toNat 0))).full)))) else (bif p5.bP != 0 then (Pos.mk (bk p3 p3.aa (bu (p4.ae.getD (scale 1 p6).toNat 0))).variant (bk p3 p3.aa (bu (p4.ae.getD (scale 1 p6).toNat 0))).ae ((bk p3 p3.aa (bu (p4.ae.getD (scale 1 p6).toNat 0))).ab &&& ~~~(1#64 <<< (BitVec.ofInt 64 p6).toNat) &&& ~~~(1#64 <<< (BitVec.ofInt 64 p5.az).toNat)|||1#64 <<< (BitVec.ofInt 64 p5.to).toNat) (bk p3 p3.aa (bu (p4.ae.getD (scale 1 p6).toNat 0))).af (bk p3 p3.aa (bu (p4.ae.getD (scale 1 p6).toNat 0))).aa (bk p3 p3.aa (bu (p4.ae.getD (scale 1 p6).toNat 0))).ai (bk p3 p3.aa (bu (p4.ae.getD (scale 1 p6).toNat 0))).ah (bk p3 p3.aa (bu (p4.ae.getD (scale 1 p6).toNat 0))).ag (bk p3 p3.aa (bu (p4.ae.getD (scale 1 p6).toNat 0))).half (bk p3 p3.aa (bu (p4.ae.getD (scale 1 p6).toNat 0))).full) else (bif p4.ab >>> (BitVec.ofInt 64 (wr .i64 p5.az)).toNat&&&1#64==1#64 then (Pos.mk (bk p3 p3.aa (bu (p4.ae.getD (scale 1 p6).toNat 0))).variant (bk p3 p3.aa (bu (p4.ae.getD (scale 1 p6).toNat 0))).ae ((bk p3 p3.aa (bu (p4.ae.getD (scale 1 p6).toNat 0))).ab &&& ~~~(1#64 <<< (BitVec.ofInt 64 p6).toNat) &&& ~~~(1#64 <<< (BitVec.ofInt 64 p5.az).toNat)|||1#64 <<< (BitVec.ofInt 64 p5.to).toNat) (bk p3 p3.aa (bu (p4.ae.getD (scale 1 p6).toNat 0))).af (bk p3 p3.aa (bu (p4.ae.getD (scale 1 p6).toNat 0))).aa (bk p3 p3.aa (bu (p4.ae.getD (scale 1 p6).toNat 0))).ai (bk p3 p3.aa (bu (p4.ae.getD (scale 1 p6).toNat 0))).ah (bk p3 p3.aa (bu (p4.ae.getD (scale 1 p6).toNat 0))).ag (bk p3 p3.aa (bu (p4.ae.getD (scale 1 p6).toNat 0))).half (bk p3 p3.aa (bu (p4.ae.getD (scale 1 p6).toNat 0))).full) else (Pos.mk (bk p3 p3.aa (bu (p4.ae.getD (scale 1 p6).toNat 0))).variant (bk p3 p3.aa (bu (p4.ae.getD (scale 1 p6).toNat 0))).ae ((bk p3 p3.aa (bu (p4.ae.getD (scale 1 p6).toNat 0))).ab &&& ~~~(1#64 <<< (BitVec.ofInt 64 p6).toNat) &&& ~~~(1#64 <<< (BitVec.ofInt 64 p5.az).toNat)) (bk p3 p3.aa (bu (p4.ae.getD (scale 1 p6).toNat 0))).af (bk p3 p3.aa (bu (p4.ae.getD (scale 1 p6).toNat 0))).aa (bk p3 p3.aa (bu (p4.ae.getD (scale 1 p6).toNat 0))).ai (bk p3 p3.aa (bu (p4.ae.getD (scale 1 p6).toNat 0))).ah (bk p3 p3.aa (bu (p4.ae.getD (scale 1 p6).toNat 0))).ag (bk p3 p3.aa (bu (p4.ae.getD (scale 1 p6).toNat 0))).half (bk p3 p3.aa (bu (p4.ae.getD (scale 1 p6).toNat 0))).full)))) else (bif p5.bP != 0 then (Pos.mk p3.variant p3.ae (p3.ab &&& ~~~(1#64 <<< (BitVec.ofInt 64 p5.az).toNat)|||1#64 <<< (BitVec.ofInt 64 p5.to).toNat) p3.af p3.aa p3.ai p3.ah p3.ag p3.half p3.full) else (bif p4.ab >>> (BitVec.ofInt 64 (wr .i64 p5.az)).toNat&&&1#64==1#64 then (Pos.mk p3.variant p3.ae (p3.ab &&& ~~~(1#64 <<< (BitVec.ofInt 64 p5.az).toNat)|||1#64 <<< (BitVec.ofInt 64 p5.to).toNat) p3.af p3.aa p3.ai p3.ah p3.ag p3.half p3.full) else (Pos.mk p3.variant p3.ae (p3.ab &&& ~~~(1#64 <<< (BitVec.ofInt 64 p5.az).toNat)) p3.af p3.aa p3.ai p3.ah p3.ag p3.half p3.full)))))))
def oI (p1:Pos) (p2:Mv) (p3:Pos) (p4:Pos) (p5:Mv) (p6:Int):Bool:=(bif p3.variant != 2 then true else (bif p5.aW != 0 then true else (bif p5.bS then (v8 (p4) (p5)&&true) else (bif decide (p6≥0) then (decide (0≤p6)&&decide (p6<Int.ofNat 64)&&(bif p4.ab >>> (BitVec.ofInt 64 p6).toNat&&&1#64==1#64 then (decide (0≤p6)&&decide (p6<Int.ofNat 64)&&(bif p4.ae.getD (scale 1 p6).toNat 0 != 0 then (tz (p3) (p3.aa) (1)&&true) else (tz (p3) (p3.aa) (bu (p4.ae.getD (scale 1 p6).toNat 0))&&true))) else (tz (p3) (p3.aa) (bu (p4.ae.getD (scale 1 p6).toNat 0))&&true))) else true))))
abbrev Su {α:Type} (k:Pos→Mv→Pos→Pos→Mv→Int→α) (s:St):α:=wP s 0 fun q0=>wP s 3 fun q3=>wM s 1 fun q1=>k q0 q1 q3 (Kz.Pos.mk (tI (tH s 3 10)) (tN (tH s 3 11)) (tU (tH s 3 12)) (tN (tH s 3 13)) (tI (tH s 3 14)) (tN (tH s 3 15)) (tI (tH s 3 16)) (tN (tH s 3 17)) (tI (tH s 3 18)) (tI (tH s 3 19))) (Kz.Mv.mk (tI (tH s 3 20)) (tI (tH s 3 21)) (tI (tH s 3 22)) (tI (tH s 3 23)) (tB (tH s 3 24))) (tI (tH s 3 25))
theorem Rp (p1:Pos) (p2:Mv) (p3:Pos) (p4:Pos) (p5:Mv) (p6:Int) (h:oI p1 p2 p3 p4 p5 p6=true):di Pz 69 (PJ p1 p2 p3 p4 p5 p6) (Py p1 p2 p3 p4 p5 p6) (Hy p1 p2 p3 p4 p5 p6 (b7 p1 p2 p3 p4 p5 p6))∧∃ fn,Pz.funcs[69]?=some fn∧fn.body.isSome=true:=kc (n:=14) (O:=Hy p1 p2 p3 p4 p5 p6) RV (fun o=>match o with | .ret v h=>(let s:St:=⟨[v],h⟩;wP s 3 fun q3=>some q3) | _=>none) (fun _=>rfl) (by kernel_rfl) (by kernel_rfl) (by kernel_rfl) (by kernel_rfl) h
def jd (xs:List AV) (h:Hp):Tr bT:=Su (fun p1 p2 p3 p4 p5 p6=>fk xs h (PJ p1 p2 p3 p4 p5 p6) (Py p1 p2 p3 p4 p5 p6) (oI p1 p2 p3 p4 p5 p6) (Hy p1 p2 p3 p4 p5 p6) (b7 p1 p2 p3 p4 p5 p6)) ⟨xs,h⟩
theorem gY:gO Pz 69 jd:=fun _ _ _ h=>uc (Rp _ _ _ _ _ _) h
def Xe:aw:=bO Pz Gi [(149,oU),(66,AK),(65,Dk),(67,Ei),(147,fD),(135,iO),(137,qP),(138,qM),(139,ov),(141,qT),(142,iw),(143,qW),(145,jM),(146,nW),(148,qU)] [] [(68,iI),(69,jd)]
theorem TY:aV Xe:=ak aj ⟨ph,Bb,Ey,FJ,fG,jo,rU,rR,pz,sz,iP,uk,ke,ql,uB,trivial⟩ trivial ⟨gu,gY,trivial⟩
def P1 (p1:Z') (p2:Int) (p3:Pos) (p4:Mv) (p5:Pos) (p6:Mv) (p7:Int) (x:(Int×Pos)):St:=St.mk (.ptr 3 0::(an 27 (.list (ET.i .i64) p1 .fresh::.int .i64 p2::.int .i64 x.1::(an 10 [])))) (Hp.mk [(pc p3 []),[.int .i8 p4.az,.int .i8 p4.to,.int .u8 p4.bP,.int .u8 p4.aW,.bool p4.bS],zpB,(pc x.2 (pc p5 [.int .i8 p6.az,.int .i8 p6.to,.int .u8 p6.bP,.int .u8 p6.aW,.bool p6.bS,.int .i64 p7]))] [] [] 0 0 0)
def PD (p1:Z') (p2:Int) (p3:Pos) (p4:Mv) (p5:Pos) (p6:Mv) (p7:Int):(Int×Bool×Pos)→Out:=fun y=>.exit 0 (St.mk (.ptr 3 0::(an 27 (.list (ET.i .i64) p1 .fresh::.int .i64 p2::.int .i64 y.1::.bool y.2.1::(an 9 [])))) (Hp.mk [(pc p3 []),[.int .i8 p4.az,.int .i8 p4.to,.int .u8 p4.bP,.int .u8 p4.aW,.bool p4.bS],zpB,(pc y.2.2 (pc p5 [.int .i8 p6.az,.int .i8 p6.to,.int .u8 p6.bP,.int .u8 p6.aW,.bool p6.bS,.int .i64 p7]))] [] [] 0 0 0))
def Hi (p1:Z') (p2:Int) (p3:Pos) (p4:Mv) (p5:Pos) (p6:Mv) (p7:Int) (x:(Int×Pos)):aI (Int×Pos) ((Int×Bool×Pos)):=(bif decide (x.1<p2) then (aI.go (wr .i64 (x.1+1),Pos.mk x.2.variant (x.2.ae.set (scale 1 (p1.getD x.1.toNat default)).toNat 0) x.2.ab x.2.af x.2.aa x.2.ai x.2.ah x.2.ag x.2.half x.2.full)) else (aI.out ((x.1,decide (x.1<p2),x.2))))
def CB (p1:Z') (p2:Int) (p3:Pos) (p4:Mv) (p5:Pos) (p6:Mv) (p7:Int) (x:(Int×Pos)):Bool:=(bif decide (x.1<p2) then (decide (0≤x.1)&&decide (x.1<Int.ofNat p1.length)&&(decide (0≤p1.getD x.1.toNat default)&&decide (p1.getD x.1.toNat default<Int.ofNat 64)&&true)) else true)
def qi (p1:Z') (p2:Int) (p3:Pos) (p4:Mv) (p5:Pos) (p6:Mv) (p7:Int) (x:(Int×Pos)):Option ((Int×Bool×Pos)):=da (fun x=>bif CB p1 p2 p3 p4 p5 p6 p7 x then Hi p1 p2 p3 p4 p5 p6 p7 x else .bad) many x
abbrev Qz {α:Type} (k:Z'→Int→Pos→Mv→Pos→Mv→Int→(Int×Pos)→α) (s:St):α:=wP s 0 fun q0=>wP s 3 fun q3=>wM s 1 fun q1=>k (tL (ET.i .i64) (tT s 28)) (tI (tT s 29)) q0 q1 (Kz.Pos.mk (tI (tH s 3 10)) (tN (tH s 3 11)) (tU (tH s 3 12)) (tN (tH s 3 13)) (tI (tH s 3 14)) (tN (tH s 3 15)) (tI (tH s 3 16)) (tN (tH s 3 17)) (tI (tH s 3 18)) (tI (tH s 3 19))) (Kz.Mv.mk (tI (tH s 3 20)) (tI (tH s 3 21)) (tI (tH s 3 22)) (tI (tH s 3 23)) (tB (tH s 3 24))) (tI (tH s 3 25)) ((tI (tT s 30)),q3)
theorem XI (p1:Z') (p2:Int) (p3:Pos) (p4:Mv) (p5:Pos) (p6:Mv) (p7:Int) (x:(Int×Pos)) (r:(Int×Bool×Pos)) (h:qi p1 p2 p3 p4 p5 p6 p7 x=some r):aB Pz (bj Pz 70 2) (P1 p1 p2 p3 p4 p5 p6 p7 x) (PD p1 p2 p3 p4 p5 p6 p7 r):=smq (m:=12) (fn:=70) TY (Qz fun _ _ _ _ _ _ _ x=>some x) (fun o=>match o with | .exit 0 s=>wP s 3 fun q3=>some ((tI (tT s 30)),(tB (tT s 31)),q3) | _=>none) many x r h
def nX (b:Code) (s:St):Tr Out:=Qz (fun p1 p2 p3 p4 p5 p6 p7 x=>mH b (bj Pz 70 2) s (P1 p1 p2 p3 p4 p5 p6 p7 x) (qi p1 p2 p3 p4 p5 p6 p7 x) (PD p1 p2 p3 p4 p5 p6 p7)) s
theorem kY:∀ b,aZ Pz b (nX b):=fun _ _ _ h=>bX (XI _ _ _ _ _ _ _ _) h
def aaT:aw:=bO Pz Gi [(149,oU),(66,AK),(65,Dk),(67,Ei),(147,fD),(135,iO),(137,qP),(138,qM),(139,ov),(141,qT),(142,iw),(143,qW),(145,jM),(146,nW),(148,qU)] [(70,2,nX)] [(68,iI),(69,jd)]
theorem Vb:aV aaT:=ak aj ⟨ph,Bb,Ey,FJ,fG,jo,rU,rR,pz,sz,iP,uk,ke,ql,uB,trivial⟩ ⟨kY,trivial⟩ ⟨gu,gY,trivial⟩
def PG (p1:Pos) (p2:Mv) (p3:Pos) (p4:Pos) (p5:Mv) (p6:Int):List AV:=[AV.ptr 3 0]
def Pt (p1:Pos) (p2:Mv) (p3:Pos) (p4:Pos) (p5:Mv) (p6:Int):Hp:=Hp.mk [(pc p1 []),[AV.int .i8 p2.az,AV.int .i8 p2.to,AV.int .u8 p2.bP,AV.int .u8 p2.aW,AV.bool p2.bS],zpB,(pc p3 (pc p4 [AV.int .i8 p5.az,AV.int .i8 p5.to,AV.int .u8 p5.bP,AV.int .u8 p5.aW,AV.bool p5.bS,AV.int .i64 p6]))] [] [] 0 0 0
def H8 (p1:Pos) (p2:Mv) (p3:Pos) (p4:Pos) (p5:Mv) (p6:Int) (y:(Pos)):bT := .ret (.tuple []) (Hp.mk [(pc p1 []),[.int .i8 p2.az,.int .i8 p2.to,.int .u8 p2.bP,.int .u8 p2.aW,.bool p2.bS],zpB,(pc y (pc p4 [.int .i8 p5.az,.int .i8 p5.to,.int .u8 p5.bP,.int .u8 p5.aW,.bool p5.bS,.int .i64 p6]))] [] [] 0 0 0)
def cB (p1:Pos) (p2:Mv) (p3:Pos) (p4:Pos) (p5:Mv) (p6:Int):(Pos):=(bif p3.variant != 3 then (p3) else (bif decide (p6<0) then (p3) else (((qi (fQ (qd p3 (wr .i64 p5.to))) (Int.ofNat (fQ (qd p3 (wr .i64 p5.to))).length) p1 p2 p4 p5 p6 (0,p3)).getD default).2.2)))
def nJ (p1:Pos) (p2:Mv) (p3:Pos) (p4:Pos) (p5:Mv) (p6:Int):Bool:=(bif p3.variant != 3 then true else (bif decide (p6<0) then true else (Aq (p3) (wr .i64 p5.to)&&(oN (qd p3 (wr .i64 p5.to))&&((qi (fQ (qd p3 (wr .i64 p5.to))) (Int.ofNat (fQ (qd p3 (wr .i64 p5.to))).length) p1 p2 p4 p5 p6 (0,p3)).isSome&&true)))))
abbrev Se {α:Type} (k:Pos→Mv→Pos→Pos→Mv→Int→α) (s:St):α:=wP s 0 fun q0=>wP s 3 fun q3=>wM s 1 fun q1=>k q0 q1 q3 (Kz.Pos.mk (tI (tH s 3 10)) (tN (tH s 3 11)) (tU (tH s 3 12)) (tN (tH s 3 13)) (tI (tH s 3 14)) (tN (tH s 3 15)) (tI (tH s 3 16)) (tN (tH s 3 17)) (tI (tH s 3 18)) (tI (tH s 3 19))) (Kz.Mv.mk (tI (tH s 3 20)) (tI (tH s 3 21)) (tI (tH s 3 22)) (tI (tH s 3 23)) (tB (tH s 3 24))) (tI (tH s 3 25))
theorem Vd (p1:Pos) (p2:Mv) (p3:Pos) (p4:Pos) (p5:Mv) (p6:Int) (h:nJ p1 p2 p3 p4 p5 p6=true):di Pz 70 (PG p1 p2 p3 p4 p5 p6) (Pt p1 p2 p3 p4 p5 p6) (H8 p1 p2 p3 p4 p5 p6 (cB p1 p2 p3 p4 p5 p6))∧∃ fn,Pz.funcs[70]?=some fn∧fn.body.isSome=true:=kc (n:=14) (O:=H8 p1 p2 p3 p4 p5 p6) Vb (fun o=>match o with | .ret v h=>(let s:St:=⟨[v],h⟩;wP s 3 fun q3=>some q3) | _=>none) (fun _=>rfl) (by kernel_rfl) (by kernel_rfl) (by kernel_rfl) (by kernel_rfl) h
def kN (xs:List AV) (h:Hp):Tr bT:=Se (fun p1 p2 p3 p4 p5 p6=>fk xs h (PG p1 p2 p3 p4 p5 p6) (Pt p1 p2 p3 p4 p5 p6) (nJ p1 p2 p3 p4 p5 p6) (H8 p1 p2 p3 p4 p5 p6) (cB p1 p2 p3 p4 p5 p6)) ⟨xs,h⟩
theorem j4:gO Pz 70 kN:=fun _ _ _ h=>uc (Vd _ _ _ _ _ _) h
def YM:aw:=bO Pz Gi [(149,oU),(66,AK),(65,Dk),(67,Ei),(147,fD),(135,iO),(137,qP),(138,qM),(139,ov),(141,qT),(142,iw),(143,qW),(145,jM),(146,nW),(148,qU)] [(70,2,nX)] [(68,iI),(69,jd),(70,kN)]
theorem UO:aV YM:=ak aj ⟨ph,Bb,Ey,FJ,fG,jo,rU,rR,pz,sz,iP,uk,ke,ql,uB,trivial⟩ ⟨kY,trivial⟩ ⟨gu,gY,j4,trivial⟩
def PO (p1:Int) (p2:Int) (p3:Z') (p4:Pos) (p5:Mv) (p6:Pos) (p7:Mv) (p8:Int) (x:(Int×Pos)):St:=St.mk (.ptr 3 0::.any::.int .u8 p1::.int .i64 p2::(an 42 (.agg [.ints .i8 2 p3]::.int .i64 x.1::(an 73 [])))) (Hp.mk [(pc p4 []),[.int .i8 p5.az,.int .i8 p5.to,.int .u8 p5.bP,.int .u8 p5.aW,.bool p5.bS],zpB,(pc x.2 (pc p6 [.int .i8 p7.az,.int .i8 p7.to,.int .u8 p7.bP,.int .u8 p7.aW,.bool p7.bS,.int .i64 p8]))] [] [] 0 0 0)
def QK (p1:Int) (p2:Int) (p3:Z') (p4:Pos) (p5:Mv) (p6:Pos) (p7:Mv) (p8:Int):(Int×Bool×Pos)→Out:=fun y=>.exit 2 (St.mk (.ptr 3 0::.any::.int .u8 p1::.int .i64 p2::(an 42 (.agg [.ints .i8 2 p3]::.int .i64 y.1::.bool y.2.1::(an 72 [])))) (Hp.mk [(pc p4 []),[.int .i8 p5.az,.int .i8 p5.to,.int .u8 p5.bP,.int .u8 p5.aW,.bool p5.bS],zpB,(pc y.2.2 (pc p6 [.int .i8 p7.az,.int .i8 p7.to,.int .u8 p7.bP,.int .u8 p7.aW,.bool p7.bS,.int .i64 p8]))] [] [] 0 0 0))
def xS (p1:Int) (p2:Int) (p3:Z') (p4:Pos) (p5:Mv) (p6:Pos) (p7:Mv) (p8:Int) (x:(Int×Pos)):aI (Int×Pos) ((Int×Bool×Pos)):=(bif decide (x.1<2) then (bif decide (p3.getD x.1.toNat 0<0) then (aI.go (wr .i64 (x.1+1),x.2)) else (bif decide (p3.getD x.1.toNat 0>7) then (aI.go (wr .i64 (x.1+1),x.2)) else (bif p8==wr .i64 (wr .i64 (56 * wr .i64 p1)+wr .i64 (p3.getD x.1.toNat 0)) then (aI.go (wr .i64 (x.1+1),Pos.mk x.2.variant x.2.ae x.2.ab x.2.af x.2.aa (x.2.ai.set (scale 2 p1+scale 1 x.1).toNat (-1)) x.2.ah x.2.ag x.2.half x.2.full)) else (bif p7.aW==0 then (bif wr .i64 p7.az==wr .i64 (wr .i64 (56 * wr .i64 p1)+wr .i64 (p3.getD x.1.toNat 0)) then (aI.go (wr .i64 (x.1+1),Pos.mk x.2.variant x.2.ae x.2.ab x.2.af x.2.aa (x.2.ai.set (scale 2 p1+scale 1 x.1).toNat (-1)) x.2.ah x.2.ag x.2.half x.2.full)) else (bif decide (p2<0) then (aI.go (wr .i64 (x.1+1),Pos.mk x.2.variant x.2.ae x.2.ab x.2.af x.2.aa (x.2.ai.set (scale 2 p1+scale 1 x.1).toNat (-1)) x.2.ah x.2.ag x.2.half x.2.full)) else (bif wr .i64 (p2.tdiv 8) != wr .i64 (7 * wr .i64 p1) then (aI.go (wr .i64 (x.1+1),Pos.mk x.2.variant x.2.ae x.2.ab x.2.af x.2.aa (x.2.ai.set (scale 2 p1+scale 1 x.1).toNat (-1)) x.2.ah x.2.ag x.2.half x.2.full)) else (bif x.2.ae.getD (scale 1 (wr .i64 (wr .i64 (56 * wr .i64 p1)+wr .i64 (p3.getD x.1.toNat 0)))).toNat 0 != kI p1 4 then (aI.go (wr .i64 (x.1+1),Pos.mk x.2.variant x.2.ae x.2.ab x.2.af x.2.aa (x.2.ai.set (scale 2 p1+scale 1 x.1).toNat (-1)) x.2.ah x.2.ag x.2.half x.2.full)) else (aI.go (wr .i64 (x.1+1),x.2)))))) else (bif decide (p2<0) then (aI.go (wr .i64 (x.1+1),Pos.mk x.2.variant x.2.ae x.2.ab x.2.af x.2.aa (x.2.ai.set (scale 2 p1+scale 1 x.1).toNat (-1)) x.2.ah x.2.ag x.2.half x.2.full)) else (bif wr .i64 (p2.tdiv 8) != wr .i64 (7 * wr .i64 p1) then (aI.go (wr .i64 (x.1+1),Pos.mk x.2.variant x.2.ae x.2.ab x.2.af x.2.aa (x.2.ai.set (scale 2 p1+scale 1 x.1).toNat (-1)) x.2.ah x.2.ag x.2.half x.2.full)) else (bif x.2.ae.getD (scale 1 (wr .i64 (wr .i64 (56 * wr .i64 p1)+wr .i64 (p3.getD x.1.toNat 0)))).toNat 0 != kI p1 4 then (aI.go (wr .i64 (x.1+1),Pos.mk x.2.variant x.2.ae x.2.ab x.2.af x.2.aa (x.2.ai.set (scale 2 p1+scale 1 x.1).toNat (-1)) x.2.ah x.2.ag x.2.half x.2.full)) else (aI.go (wr .i64 (x.1+1),x.2))))))))) else (aI.out ((x.1,decide (x.1<2),x.2))))
def w6 (p1:Int) (p2:Int) (p3:Z') (p4:Pos) (p5:Mv) (p6:Pos) (p7:Mv) (p8:Int) (x:(Int×Pos)):Bool:=(bif decide (x.1<2) then (decide (0≤x.1)&&decide (x.1<Int.ofNat 2)&&(bif decide (p3.getD x.1.toNat 0<0) then true else (bif decide (p3.getD x.1.toNat 0>7) then true else (bif p8==wr .i64 (wr .i64 (56 * wr .i64 p1)+wr .i64 (p3.getD x.1.toNat 0)) then (decide (0≤p1)&&decide (p1<Int.ofNat 2)&&(decide (0≤x.1)&&decide (x.1<Int.ofNat 2)&&true)) else (bif p7.aW==0 then (bif wr .i64 p7.az==wr .i64 (wr .i64 (56 * wr .i64 p1)+wr .i64 (p3.getD x.1.toNat 0)) then (decide (0≤p1)&&decide (p1<Int.ofNat 2)&&(decide (0≤x.1)&&decide (x.1<Int.ofNat 2)&&true)) else (bif decide (p2<0) then (decide (0≤p1)&&decide (p1<Int.ofNat 2)&&(decide (0≤x.1)&&decide (x.1<Int.ofNat 2)&&true)) else (bif wr .i64 (p2.tdiv 8) != wr .i64 (7 * wr .i64 p1) then (decide (0≤p1)&&decide (p1<Int.ofNat 2)&&(decide (0≤x.1)&&decide (x.1<Int.ofNat 2)&&true)) else (decide (0≤wr .i64 (wr .i64 (56 * wr .i64 p1)+wr .i64 (p3.getD x.1.toNat 0)))&&decide (wr .i64 (wr .i64 (56 * wr .i64 p1)+wr .i64 (p3.getD x.1.toNat 0))<Int.ofNat 64)&&(bif x.2.ae.getD (scale 1 (wr .i64 (wr .i64 (56 * wr .i64 p1)+wr .i64 (p3.getD x.1.toNat 0)))).toNat 0 != kI p1 4 then (decide (0≤p1)&&decide (p1<Int.ofNat 2)&&(decide (0≤x.1)&&decide (x.1<Int.ofNat 2)&&true)) else true))))) else (bif decide (p2<0) then (decide (0≤p1)&&decide (p1<Int.ofNat 2)&&(decide (0≤x.1)&&decide (x.1<Int.ofNat 2)&&true)) else (bif wr .i64 (p2.tdiv 8) != wr .i64 (7 * wr .i64 p1) then (decide (0≤p1)&&decide (p1<Int.ofNat 2)&&(decide (0≤x.1)&&decide (x.1<Int.ofNat 2)&&true)) else (decide (0≤wr .i64 (wr .i64 (56 * wr .i64 p1)+wr .i64 (p3.getD x.1.toNat 0)))&&decide (wr .i64 (wr .i64 (56 * wr .i64 p1)+wr .i64 (p3.getD x.1.toNat 0))<Int.ofNat 64)&&(bif x.2.ae.getD (scale 1 (wr .i64 (wr .i64 (56 * wr .i64 p1)+wr .i64 (p3.getD x.1.toNat 0)))).toNat 0 != kI p1 4 then (decide (0≤p1)&&decide (p1<Int.ofNat 2)&&(decide (0≤x.1)&&decide (x.1<Int.ofNat 2)&&true)) else true))))))))) else true)
def lQ (p1:Int) (p2:Int) (p3:Z') (p4:Pos) (p5:Mv) (p6:Pos) (p7:Mv) (p8:Int) (x:(Int×Pos)):Option ((Int×Bool×Pos)):=da (fun x=>bif w6 p1 p2 p3 p4 p5 p6 p7 p8 x then xS p1 p2 p3 p4 p5 p6 p7 p8 x else .bad) many x
abbrev OT {α:Type} (k:Int→Int→Z'→Pos→Mv→Pos→Mv→Int→(Int×Pos)→α) (s:St):α:=wP s 0 fun q0=>wP s 3 fun q3=>wM s 1 fun q1=>k (tI (tT s 2)) (tI (tT s 3)) (tN (tX (tA (tT s 46)) 0)) q0 q1 (Kz.Pos.mk (tI (tH s 3 10)) (tN (tH s 3 11)) (tU (tH s 3 12)) (tN (tH s 3 13)) (tI (tH s 3 14)) (tN (tH s 3 15)) (tI (tH s 3 16)) (tN (tH s 3 17)) (tI (tH s 3 18)) (tI (tH s 3 19))) (Kz.Mv.mk (tI (tH s 3 20)) (tI (tH s 3 21)) (tI (tH s 3 22)) (tI (tH s 3 23)) (tB (tH s 3 24))) (tI (tH s 3 25)) ((tI (tT s 47)),q3)
theorem VI (p1:Int) (p2:Int) (p3:Z') (p4:Pos) (p5:Mv) (p6:Pos) (p7:Mv) (p8:Int) (x:(Int×Pos)) (r:(Int×Bool×Pos)) (h:lQ p1 p2 p3 p4 p5 p6 p7 p8 x=some r):aB Pz (bj Pz 71 7) (PO p1 p2 p3 p4 p5 p6 p7 p8 x) (QK p1 p2 p3 p4 p5 p6 p7 p8 r):=smq (m:=12) (fn:=71) UO (OT fun _ _ _ _ _ _ _ _ x=>some x) (fun o=>match o with | .exit 2 s=>wP s 3 fun q3=>some ((tI (tT s 47)),(tB (tT s 48)),q3) | _=>none) many x r h
def sk (b:Code) (s:St):Tr Out:=OT (fun p1 p2 p3 p4 p5 p6 p7 p8 x=>mH b (bj Pz 71 7) s (PO p1 p2 p3 p4 p5 p6 p7 p8 x) (lQ p1 p2 p3 p4 p5 p6 p7 p8 x) (QK p1 p2 p3 p4 p5 p6 p7 p8)) s
theorem qa:∀ b,aZ Pz b (sk b):=fun _ _ _ h=>bX (VI _ _ _ _ _ _ _ _ _) h
def W8:aw:=bO Pz Gi [(149,oU),(66,AK),(65,Dk),(67,Ei),(147,fD),(135,iO),(137,qP),(138,qM),(139,ov),(141,qT),(142,iw),(143,qW),(145,jM),(146,nW),(148,qU)] [(70,2,nX),(71,7,sk)] [(68,iI),(69,jd),(70,kN)]
theorem Us:aV W8:=ak aj ⟨ph,Bb,Ey,FJ,fG,jo,rU,rR,pz,sz,iP,uk,ke,ql,uB,trivial⟩ ⟨kY,qa,trivial⟩ ⟨gu,gY,j4,trivial⟩
def Qj (p1:Pos) (p2:Mv) (p3:Pos) (p4:Mv) (p5:Int) (x:(Int×Pos)):St:=St.mk (.ptr 3 0::.any::.int .u8 x.1::(an 118 [])) (Hp.mk [(pc p1 []),[.int .i8 p2.az,.int .i8 p2.to,.int .u8 p2.bP,.int .u8 p2.aW,.bool p2.bS],zpB,(pc x.2 (pc p3 [.int .i8 p4.az,.int .i8 p4.to,.int .u8 p4.bP,.int .u8 p4.aW,.bool p4.bS,.int .i64 p5]))] [] [] 0 0 0)
def QR (p1:Pos) (p2:Mv) (p3:Pos) (p4:Mv) (p5:Int):(Int×Bool×Pos)→Out:=fun y=>.exit 0 (St.mk (.ptr 3 0::.any::.int .u8 y.1::(an 28 (.bool y.2.1::(an 89 [])))) (Hp.mk [(pc p1 []),[.int .i8 p2.az,.int .i8 p2.to,.int .u8 p2.bP,.int .u8 p2.aW,.bool p2.bS],zpB,(pc y.2.2 (pc p3 [.int .i8 p4.az,.int .i8 p4.to,.int .u8 p4.bP,.int .u8 p4.aW,.bool p4.bS,.int .i64 p5]))] [] [] 0 0 0))
def Bp (p1:Pos) (p2:Mv) (p3:Pos) (p4:Mv) (p5:Int) (x:(Int×Pos)):aI (Int×Pos) ((Int×Bool×Pos)):=(bif decide (x.1≤1) then (aI.go (wr .u8 (x.1+1),((lQ x.1 (aX x.2 x.1 6) (List.take 2 (List.drop (scale 2 x.1).toNat x.2.ai)) p1 p2 p3 p4 p5 (0,x.2)).getD default).2.2)) else (aI.out ((x.1,decide (x.1≤1),x.2))))
def wF (p1:Pos) (p2:Mv) (p3:Pos) (p4:Mv) (p5:Int) (x:(Int×Pos)):Bool:=(bif decide (x.1≤1) then (gT (x.2) (x.1) (6)&&(decide (0≤x.1)&&decide (x.1<Int.ofNat 2)&&((lQ x.1 (aX x.2 x.1 6) (List.take 2 (List.drop (scale 2 x.1).toNat x.2.ai)) p1 p2 p3 p4 p5 (0,x.2)).isSome&&true))) else true)
def dE (p1:Pos) (p2:Mv) (p3:Pos) (p4:Mv) (p5:Int) (x:(Int×Pos)):Option ((Int×Bool×Pos)):=da (fun x=>bif wF p1 p2 p3 p4 p5 x then Bp p1 p2 p3 p4 p5 x else .bad) many x
abbrev P7 {α:Type} (k:Pos→Mv→Pos→Mv→Int→(Int×Pos)→α) (s:St):α:=wP s 0 fun q0=>wP s 3 fun q3=>wM s 1 fun q1=>k q0 q1 (Kz.Pos.mk (tI (tH s 3 10)) (tN (tH s 3 11)) (tU (tH s 3 12)) (tN (tH s 3 13)) (tI (tH s 3 14)) (tN (tH s 3 15)) (tI (tH s 3 16)) (tN (tH s 3 17)) (tI (tH s 3 18)) (tI (tH s 3 19))) (Kz.Mv.mk (tI (tH s 3 20)) (tI (tH s 3 21)) (tI (tH s 3 22)) (tI (tH s 3 23)) (tB (tH s 3 24))) (tI (tH s 3 25)) ((tI (tT s 2)),q3)
theorem Z6 (p1:Pos) (p2:Mv) (p3:Pos) (p4:Mv) (p5:Int) (x:(Int×Pos)) (r:(Int×Bool×Pos)) (h:dE p1 p2 p3 p4 p5 x=some r):aB Pz (bj Pz 71 3) (Qj p1 p2 p3 p4 p5 x) (QR p1 p2 p3 p4 p5 r):=smq (m:=12) (fn:=71) Us (P7 fun _ _ _ _ _ x=>some x) (fun o=>match o with | .exit 0 s=>wP s 3 fun q3=>some ((tI (tT s 2)),(tB (tT s 31)),q3) | _=>none) many x r h
def vY (b:Code) (s:St):Tr Out:=P7 (fun p1 p2 p3 p4 p5 x=>mH b (bj Pz 71 3) s (Qj p1 p2 p3 p4 p5 x) (dE p1 p2 p3 p4 p5 x) (QR p1 p2 p3 p4 p5)) s
theorem tg:∀ b,aZ Pz b (vY b):=fun _ _ _ h=>bX (Z6 _ _ _ _ _ _) h
def Wt:aw:=bO Pz Gi [(149,oU),(66,AK),(65,Dk),(67,Ei),(147,fD),(135,iO),(137,qP),(138,qM),(139,ov),(141,qT),(142,iw),(143,qW),(145,jM),(146,nW),(148,qU)] [(70,2,nX),(71,7,sk),(71,3,vY)] [(68,iI),(69,jd),(70,kN)]
theorem R6:aV Wt:=ak aj ⟨ph,Bb,Ey,FJ,fG,jo,rU,rR,pz,sz,iP,uk,ke,ql,uB,trivial⟩ ⟨kY,qa,tg,trivial⟩ ⟨gu,gY,j4,trivial⟩
def QZ (p1:Pos) (p2:Mv) (p3:Pos) (p4:Pos) (p5:Mv) (p6:Int):List AV:=[AV.ptr 3 0]
def P2 (p1:Pos) (p2:Mv) (p3:Pos) (p4:Pos) (p5:Mv) (p6:Int):Hp:=Hp.mk [(pc p1 []),[AV.int .i8 p2.az,AV.int .i8 p2.to,AV.int .u8 p2.bP,AV.int .u8 p2.aW,AV.bool p2.bS],zpB,(pc p3 (pc p4 [AV.int .i8 p5.az,AV.int .i8 p5.to,AV.int .u8 p5.bP,AV.int .u8 p5.aW,AV.bool p5.bS,AV.int .i64 p6]))] [] [] 0 0 0
def J3 (p1:Pos) (p2:Mv) (p3:Pos) (p4:Pos) (p5:Mv) (p6:Int) (y:(Pos)):bT := .ret (.tuple []) (Hp.mk [(pc p1 []),[.int .i8 p2.az,.int .i8 p2.to,.int .u8 p2.bP,.int .u8 p2.aW,.bool p2.bS],zpB,(pc y (pc p4 [.int .i8 p5.az,.int .i8 p5.to,.int .u8 p5.bP,.int .u8 p5.aW,.bool p5.bS,.int .i64 p6]))] [] [] 0 0 0)
def cE (p1:Pos) (p2:Mv) (p3:Pos) (p4:Pos) (p5:Mv) (p6:Int):(Pos):=(bif p5.aW != 0 then (bif p5.aW==6 then (bif p5.aW==0 then (((dE p1 p2 p4 p5 p6 (0,Pos.mk p3.variant p3.ae p3.ab p3.af p3.aa (List.take (scale 2 p3.aa).toNat p3.ai++li [-1,-1]++List.drop ((scale 2 p3.aa).toNat+2) p3.ai) p3.ah p3.ag p3.half p3.full)).getD default).2.2) else (((dE p1 p2 p4 p5 p6 (0,p3)).getD default).2.2)) else (((dE p1 p2 p4 p5 p6 (0,p3)).getD default).2.2)) else (bif bu (p4.ae.getD (scale 1 p5.az).toNat 0)==6 then (bif p5.aW==0 then (((dE p1 p2 p4 p5 p6 (0,Pos.mk p3.variant p3.ae p3.ab p3.af p3.aa (List.take (scale 2 p3.aa).toNat p3.ai++li [-1,-1]++List.drop ((scale 2 p3.aa).toNat+2) p3.ai) p3.ah p3.ag p3.half p3.full)).getD default).2.2) else (((dE p1 p2 p4 p5 p6 (0,p3)).getD default).2.2)) else (((dE p1 p2 p4 p5 p6 (0,p3)).getD default).2.2)))
def oF (p1:Pos) (p2:Mv) (p3:Pos) (p4:Pos) (p5:Mv) (p6:Int):Bool:=(bif p5.aW != 0 then (bif p5.aW==6 then (bif p5.aW==0 then (decide (0≤p3.aa)&&decide (p3.aa<Int.ofNat 2)&&((dE p1 p2 p4 p5 p6 (0,Pos.mk p3.variant p3.ae p3.ab p3.af p3.aa (List.take (scale 2 p3.aa).toNat p3.ai++li [-1,-1]++List.drop ((scale 2 p3.aa).toNat+2) p3.ai) p3.ah p3.ag p3.half p3.full)).isSome&&true)) else ((dE p1 p2 p4 p5 p6 (0,p3)).isSome&&true)) else ((dE p1 p2 p4 p5 p6 (0,p3)).isSome&&true)) else (decide (0≤p5.az)&&decide (p5.az<Int.ofNat 64)&&(bif bu (p4.ae.getD (scale 1 p5.az).toNat 0)==6 then (bif p5.aW==0 then (decide (0≤p3.aa)&&decide (p3.aa<Int.ofNat 2)&&((dE p1 p2 p4 p5 p6 (0,Pos.mk p3.variant p3.ae p3.ab p3.af p3.aa (List.take (scale 2 p3.aa).toNat p3.ai++li [-1,-1]++List.drop ((scale 2 p3.aa).toNat+2) p3.ai) p3.ah p3.ag p3.half p3.full)).isSome&&true)) else ((dE p1 p2 p4 p5 p6 (0,p3)).isSome&&true)) else ((dE p1 p2 p4 p5 p6 (0,p3)).isSome&&true))))
abbrev T6 {α:Type} (k:Pos→Mv→Pos→Pos→Mv→Int→α) (s:St):α:=wP s 0 fun q0=>wP s 3 fun q3=>wM s 1 fun q1=>k q0 q1 q3 (Kz.Pos.mk (tI (tH s 3 10)) (tN (tH s 3 11)) (tU (tH s 3 12)) (tN (tH s 3 13)) (tI (tH s 3 14)) (tN (tH s 3 15)) (tI (tH s 3 16)) (tN (tH s 3 17)) (tI (tH s 3 18)) (tI (tH s 3 19))) (Kz.Mv.mk (tI (tH s 3 20)) (tI (tH s 3 21)) (tI (tH s 3 22)) (tI (tH s 3 23)) (tB (tH s 3 24))) (tI (tH s 3 25))
theorem UG (p1:Pos) (p2:Mv) (p3:Pos) (p4:Pos) (p5:Mv) (p6:Int) (h:oF p1 p2 p3 p4 p5 p6=true):di Pz 71 (QZ p1 p2 p3 p4 p5 p6) (P2 p1 p2 p3 p4 p5 p6) (J3 p1 p2 p3 p4 p5 p6 (cE p1 p2 p3 p4 p5 p6))∧∃ fn,Pz.funcs[71]?=some fn∧fn.body.isSome=true:=kc (n:=14) (O:=J3 p1 p2 p3 p4 p5 p6) R6 (fun o=>match o with | .ret v h=>(let s:St:=⟨[v],h⟩;wP s 3 fun q3=>some q3) | _=>none) (fun _=>rfl) (by kernel_rfl) (by kernel_rfl) (by kernel_rfl) (by kernel_rfl) h
def sK (xs:List AV) (h:Hp):Tr bT:=T6 (fun p1 p2 p3 p4 p5 p6=>fk xs h (QZ p1 p2 p3 p4 p5 p6) (P2 p1 p2 p3 p4 p5 p6) (oF p1 p2 p3 p4 p5 p6) (J3 p1 p2 p3 p4 p5 p6) (cE p1 p2 p3 p4 p5 p6)) ⟨xs,h⟩
theorem re:gO Pz 71 sK:=fun _ _ _ h=>uc (UG _ _ _ _ _ _) h
def Yg:aw:=bO Pz Gi [(149,oU),(66,AK),(65,Dk),(67,Ei),(147,fD),(135,iO),(137,qP),(138,qM),(139,ov),(141,qT),(142,iw),(143,qW),(145,jM),(146,nW),(148,qU)] [(70,2,nX),(71,7,sk),(71,3,vY)] [(68,iI),(69,jd),(70,kN),(71,sK)]
theorem TR:aV Yg:=ak aj ⟨ph,Bb,Ey,FJ,fG,jo,rU,rR,pz,sz,iP,uk,ke,ql,uB,trivial⟩ ⟨kY,qa,tg,trivial⟩ ⟨gu,gY,j4,re,trivial⟩
def Qc (p1:Pos) (p2:Mv) (p3:Pos) (p4:Pos) (p5:Mv) (p6:Int):List AV:=[AV.ptr 3 0]
def PK (p1:Pos) (p2:Mv) (p3:Pos) (p4:Pos) (p5:Mv) (p6:Int):Hp:=Hp.mk [(pc p1 []),[AV.int .i8 p2.az,AV.int .i8 p2.to,AV.int .u8 p2.bP,AV.int .u8 p2.aW,AV.bool p2.bS],zpB,(pc p3 (pc p4 [AV.int .i8 p5.az,AV.int .i8 p5.to,AV.int .u8 p5.bP,AV.int .u8 p5.aW,AV.bool p5.bS,AV.int .i64 p6]))] [] [] 0 0 0
def LC (p1:Pos) (p2:Mv) (p3:Pos) (p4:Pos) (p5:Mv) (p6:Int) (y:(Pos)):bT := .ret (.tuple []) (Hp.mk [(pc p1 []),[.int .i8 p2.az,.int .i8 p2.to,.int .u8 p2.bP,.int .u8 p2.aW,.bool p2.bS],zpB,(pc y (pc p4 [.int .i8 p5.az,.int .i8 p5.to,.int .u8 p5.bP,.int .u8 p5.aW,.bool p5.bS,.int .i64 p6]))] [] [] 0 0 0)
def dw (p1:Pos) (p2:Mv) (p3:Pos) (p4:Pos) (p5:Mv) (p6:Int):(Pos):=(bif p5.aW != 0 then (bif p5.aW != 1 then (Pos.mk p3.variant p3.ae p3.ab p3.af p3.aa p3.ai (-1) p3.ag p3.half p3.full) else (bif p5.aW != 0 then (Pos.mk p3.variant p3.ae p3.ab p3.af p3.aa p3.ai (-1) p3.ag p3.half p3.full) else (bif wr .i8 (p5.to-p5.az) != 16 then (bif wr .i8 (p5.az-p5.to) != 16 then (Pos.mk p3.variant p3.ae p3.ab p3.af p3.aa p3.ai (-1) p3.ag p3.half p3.full) else (bif wr .i8 (p5.az.tdiv 8) != wr .i8 (wr .i8 (7 * wr .i8 p3.aa)+1) then (bif wr .i8 (p5.az.tdiv 8) != wr .i8 (wr .i8 (7 * wr .i8 p3.aa)-1) then (Pos.mk p3.variant p3.ae p3.ab p3.af p3.aa p3.ai (-1) p3.ag p3.half p3.full) else (bif df p3.aa (wr .i64 (wr .i8 ((wr .i8 (p5.az+p5.to)).tdiv 2)))&&&aK (Pos.mk p3.variant p3.ae p3.ab p3.af p3.aa p3.ai (-1) p3.ag p3.half p3.full) (wr .u8 (1-p3.aa)) 1 != 0#64 then (Pos.mk p3.variant p3.ae p3.ab p3.af p3.aa p3.ai (wr .i8 ((wr .i8 (p5.az+p5.to)).tdiv 2)) p3.ag p3.half p3.full) else (Pos.mk p3.variant p3.ae p3.ab p3.af p3.aa p3.ai (-1) p3.ag p3.half p3.full))) else (bif df p3.aa (wr .i64 (wr .i8 ((wr .i8 (p5.az+p5.to)).tdiv 2)))&&&aK (Pos.mk p3.variant p3.ae p3.ab p3.af p3.aa p3.ai (-1) p3.ag p3.half p3.full) (wr .u8 (1-p3.aa)) 1 != 0#64 then (Pos.mk p3.variant p3.ae p3.ab p3.af p3.aa p3.ai (wr .i8 ((wr .i8 (p5.az+p5.to)).tdiv 2)) p3.ag p3.half p3.full) else (Pos.mk p3.variant p3.ae p3.ab p3.af p3.aa p3.ai (-1) p3.ag p3.half p3.full)))) else (bif wr .i8 (p5.az.tdiv 8) != wr .i8 (wr .i8 (7 * wr .i8 p3.aa)+1) then (bif wr .i8 (p5.az.tdiv 8) != wr .i8 (wr .i8 (7 * wr .i8 p3.aa)-1) then (Pos.mk p3.variant p3.ae p3.ab p3.af p3.aa p3.ai (-1) p3.ag p3.half p3.full) else (bif df p3.aa (wr .i64 (wr .i8 ((wr .i8 (p5.az+p5.to)).tdiv 2)))&&&aK (Pos.mk p3.variant p3.ae p3.ab p3.af p3.aa p3.ai (-1) p3.ag p3.half p3.full) (wr .u8 (1-p3.aa)) 1 != 0#64 then (Pos.mk p3.variant p3.ae p3.ab p3.af p3.aa p3.ai (wr .i8 ((wr .i8 (p5.az+p5.to)).tdiv 2)) p3.ag p3.half p3.full) else (Pos.mk p3.variant p3.ae p3.ab p3.af p3.aa p3.ai (-1) p3.ag p3.half p3.full))) else (bif df p3.aa (wr .i64 (wr .i8 ((wr .i8 (p5.az+p5.to)).tdiv 2)))&&&aK (Pos.mk p3.variant p3.ae p3.ab p3.af p3.aa p3.ai (-1) p3.ag p3.half p3.full) (wr .u8 (1-p3.aa)) 1 != 0#64 then (Pos.mk p3.variant p3.ae p3.ab p3.af p3.aa p3.ai (wr .i8 ((wr .i8 (p5.az+p5.to)).tdiv 2)) p3.ag p3.half p3.full) else (Pos.mk p3.variant p3.ae p3.ab p3.af p3.aa p3.ai (-1) p3.ag p3.half p3.full)))))) else (bif bu (p4.ae.getD (scale 1 p5.az).toNat 0) != 1 then (Pos.mk p3.variant p3.ae p3.ab p3.af p3.aa p3.ai (-1) p3.ag p3.half p3.full) else (bif p5.aW != 0 then (Pos.mk p3.variant p3.ae p3.ab p3.af p3.aa p3.ai (-1) p3.ag p3.half p3.full) else (bif wr .i8 (p5.to-p5.az) != 16 then (bif wr .i8 (p5.az-p5.to) != 16 then (Pos.mk p3.variant p3.ae p3.ab p3.af p3.aa p3.ai (-1) p3.ag p3.half p3.full) else (bif wr .i8 (p5.az.tdiv 8) != wr .i8 (wr .i8 (7 * wr .i8 p3.aa)+1) then (bif wr .i8 (p5.az.tdiv 8) != wr .i8 (wr .i8 (7 * wr .i8 p3.aa)-1) then (Pos.mk p3.variant p3.ae p3.ab p3.af p3.aa p3.ai (-1) p3.ag p3.half p3.full) else (bif df p3.aa (wr .i64 (wr .i8 ((wr .i8 (p5.az+p5.to)).tdiv 2)))&&&aK (Pos.mk p3.variant p3.ae p3.ab p3.af p3.aa p3.ai (-1) p3.ag p3.half p3.full) (wr .u8 (1-p3.aa)) 1 != 0#64 then (Pos.mk p3.variant p3.ae p3.ab p3.af p3.aa p3.ai (wr .i8 ((wr .i8 (p5.az+p5.to)).tdiv 2)) p3.ag p3.half p3.full) else (Pos.mk p3.variant p3.ae p3.ab p3.af p3.aa p3.ai (-1) p3.ag p3.half p3.full))) else (bif df p3.aa (wr .i64 (wr .i8 ((wr .i8 (p5.az+p5.to)).tdiv 2)))&&&aK (Pos.mk p3.variant p3.ae p3.ab p3.af p3.aa p3.ai (-1) p3.ag p3.half p3.full) (wr .u8 (1-p3.aa)) 1 != 0#64 then (Pos.mk p3.variant p3.ae p3.ab p3.af p3.aa p3.ai (wr .i8 ((wr .i8 (p5.az+p5.to)).tdiv 2)) p3.ag p3.half p3.full) else (Pos.mk p3.variant p3.ae p3.ab p3.af p3.aa p3.ai (-1) p3.ag p3.half p3.full)))) else (bif wr .i8 (p5.az.tdiv 8) != wr .i8 (wr .i8 (7 * wr .i8 p3.aa)+1) then (bif wr .i8 (p5.az.tdiv 8) != wr .i8 (wr .i8 (7 * wr .i8 p3.aa)-1) then (Pos.mk p3.variant p3.ae p3.ab p3.af p3.aa p3.ai (-1) p3.ag p3.half p3.full) else (bif df p3.aa (wr .i64 (wr .i8 ((wr .i8 (p5.az+p5.to)).tdiv 2)))&&&aK (Pos.mk p3.variant p3.ae p3.ab p3.af p3.aa p3.ai (-1) p3.ag p3.half p3.full) (wr .u8 (1-p3.aa)) 1 != 0#64 then (Pos.mk p3.variant p3.ae p3.ab p3.af p3.aa p3.ai (wr .i8 ((wr .i8 (p5.az+p5.to)).tdiv 2)) p3.ag p3.half p3.full) else (Pos.mk p3.variant p3.ae p3.ab p3.af p3.aa p3.ai (-1) p3.ag p3.half p3.full))) else (bif df p3.aa (wr .i64 (wr .i8 ((wr .i8 (p5.az+p5.to)).tdiv 2)))&&&aK (Pos.mk p3.variant p3.ae p3.ab p3.af p3.aa p3.ai (-1) p3.ag p3.half p3.full) (wr .u8 (1-p3.aa)) 1 != 0#64 then (Pos.mk p3.variant p3.ae p3.ab p3.af p3.aa p3.ai (wr .i8 ((wr .i8 (p5.az+p5.to)).tdiv 2)) p3.ag p3.half p3.full) else (Pos.mk p3.variant p3.ae p3.ab p3.af p3.aa p3.ai (-1) p3.ag p3.half p3.full)))))))
def ou (p1:Pos) (p2:Mv) (p3:Pos) (p4:Pos) (p5:Mv) (p6:Int):Bool:=(bif p5.aW != 0 then (bif p5.aW != 1 then true else (bif p5.aW != 0 then true else (bif wr .i8 (p5.to-p5.az) != 16 then (bif wr .i8 (p5.az-p5.to) != 16 then true else (bif wr .i8 (p5.az.tdiv 8) != wr .i8 (wr .i8 (7 * wr .i8 p3.aa)+1) then (bif wr .i8 (p5.az.tdiv 8) != wr .i8 (wr .i8 (7 * wr .i8 p3.aa)-1) then true else (iT (p3.aa) (wr .i64 (wr .i8 ((wr .i8 (p5.az+p5.to)).tdiv 2)))&&(ct (Pos.mk p3.variant p3.ae p3.ab p3.af p3.aa p3.ai (-1) p3.ag p3.half p3.full) (wr .u8 (1-p3.aa)) (1)&&true))) else (iT (p3.aa) (wr .i64 (wr .i8 ((wr .i8 (p5.az+p5.to)).tdiv 2)))&&(ct (Pos.mk p3.variant p3.ae p3.ab p3.af p3.aa p3.ai (-1) p3.ag p3.half p3.full) (wr .u8 (1-p3.aa)) (1)&&true)))) else (bif wr .i8 (p5.az.tdiv 8) != wr .i8 (wr .i8 (7 * wr .i8 p3.aa)+1) then (bif wr .i8 (p5.az.tdiv 8) != wr .i8 (wr .i8 (7 * wr .i8 p3.aa)-1) then true else (iT (p3.aa) (wr .i64 (wr .i8 ((wr .i8 (p5.az+p5.to)).tdiv 2)))&&(ct (Pos.mk p3.variant p3.ae p3.ab p3.af p3.aa p3.ai (-1) p3.ag p3.half p3.full) (wr .u8 (1-p3.aa)) (1)&&true))) else (iT (p3.aa) (wr .i64 (wr .i8 ((wr .i8 (p5.az+p5.to)).tdiv 2)))&&(ct (Pos.mk p3.variant p3.ae p3.ab p3.af p3.aa p3.ai (-1) p3.ag p3.half p3.full) (wr .u8 (1-p3.aa)) (1)&&true)))))) else (decide (0≤p5.az)&&decide (p5.az<Int.ofNat 64)&&(bif bu (p4.ae.getD (scale 1 p5.az).toNat 0) != 1 then true else (bif p5.aW != 0 then true else (bif wr .i8 (p5.to-p5.az) != 16 then (bif wr .i8 (p5.az-p5.to) != 16 then true else (bif wr .i8 (p5.az.tdiv 8) != wr .i8 (wr .i8 (7 * wr .i8 p3.aa)+1) then (bif wr .i8 (p5.az.tdiv 8) != wr .i8 (wr .i8 (7 * wr .i8 p3.aa)-1) then true else (iT (p3.aa) (wr .i64 (wr .i8 ((wr .i8 (p5.az+p5.to)).tdiv 2)))&&(ct (Pos.mk p3.variant p3.ae p3.ab p3.af p3.aa p3.ai (-1) p3.ag p3.half p3.full) (wr .u8 (1-p3.aa)) (1)&&true))) else (iT (p3.aa) (wr .i64 (wr .i8 ((wr .i8 (p5.az+p5.to)).tdiv 2)))&&(ct (Pos.mk p3.variant p3.ae p3.ab p3.af p3.aa p3.ai (-1) p3.ag p3.half p3.full) (wr .u8 (1-p3.aa)) (1)&&true)))) else (bif wr .i8 (p5.az.tdiv 8) != wr .i8 (wr .i8 (7 * wr .i8 p3.aa)+1) then (bif wr .i8 (p5.az.tdiv 8) != wr .i8 (wr .i8 (7 * wr .i8 p3.aa)-1) then true else (iT (p3.aa) (wr .i64 (wr .i8 ((wr .i8 (p5.az+p5.to)).tdiv 2)))&&(ct (Pos.mk p3.variant p3.ae p3.ab p3.af p3.aa p3.ai (-1) p3.ag p3.half p3.full) (wr .u8 (1-p3.aa)) (1)&&true))) else (iT (p3.aa) (wr .i64 (wr .i8 ((wr .i8 (p5.az+p5.to)).tdiv 2)))&&(ct (Pos.mk p3.variant p3.ae p3.ab p3.af p3.aa p3.ai (-1) p3.ag p3.half p3.full) (wr .u8 (1-p3.aa)) (1)&&true))))))))
abbrev UA {α:Type} (k:Pos→Mv→Pos→Pos→Mv→Int→α) (s:St):α:=wP s 0 fun q0=>wP s 3 fun q3=>wM s 1 fun q1=>k q0 q1 q3 (Kz.Pos.mk (tI (tH s 3 10)) (tN (tH s 3 11)) (tU (tH s 3 12)) (tN (tH s 3 13)) (tI (tH s 3 14)) (tN (tH s 3 15)) (tI (tH s 3 16)) (tN (tH s 3 17)) (tI (tH s 3 18)) (tI (tH s 3 19))) (Kz.Mv.mk (tI (tH s 3 20)) (tI (tH s 3 21)) (tI (tH s 3 22)) (tI (tH s 3 23)) (tB (tH s 3 24))) (tI (tH s 3 25))
theorem Rr (p1:Pos) (p2:Mv) (p3:Pos) (p4:Pos) (p5:Mv) (p6:Int) (h:ou p1 p2 p3 p4 p5 p6=true):di Pz 72 (Qc p1 p2 p3 p4 p5 p6) (PK p1 p2 p3 p4 p5 p6) (LC p1 p2 p3 p4 p5 p6 (dw p1 p2 p3 p4 p5 p6))∧∃ fn,Pz.funcs[72]?=some fn∧fn.body.isSome=true:=kc (n:=14) (O:=LC p1 p2 p3 p4 p5 p6) TR (fun o=>match o with | .ret v h=>(let s:St:=⟨[v],h⟩;wP s 3 fun q3=>some q3) | _=>none) (fun _=>rfl) (by kernel_rfl) (by kernel_rfl) (by kernel_rfl) (by kernel_rfl) h
def wV (xs:List AV) (h:Hp):Tr bT:=UA (fun p1 p2 p3 p4 p5 p6=>fk xs h (Qc p1 p2 p3 p4 p5 p6) (PK p1 p2 p3 p4 p5 p6) (ou p1 p2 p3 p4 p5 p6) (LC p1 p2 p3 p4 p5 p6) (dw p1 p2 p3 p4 p5 p6)) ⟨xs,h⟩
theorem xy:gO Pz 72 wV:=fun _ _ _ h=>uc (Rr _ _ _ _ _ _) h
def Sw:aw:=bO Pz Gi [(149,oU),(66,AK),(65,Dk),(67,Ei),(147,fD),(135,iO),(137,qP),(138,qM),(139,ov),(141,qT),(142,iw),(143,qW),(145,jM),(146,nW),(148,qU)] [(70,2,nX),(71,7,sk),(71,3,vY)] [(68,iI),(69,jd),(70,kN),(71,sK),(72,wV)]
theorem Of:aV Sw:=ak aj ⟨ph,Bb,Ey,FJ,fG,jo,rU,rR,pz,sz,iP,uk,ke,ql,uB,trivial⟩ ⟨kY,qa,tg,trivial⟩ ⟨gu,gY,j4,re,xy,trivial⟩
def HY (p1:Pos) (p2:Mv) (p3:Pos) (p4:Pos) (p5:Mv) (p6:Int):List AV:=[AV.ptr 3 0]
def KS (p1:Pos) (p2:Mv) (p3:Pos) (p4:Pos) (p5:Mv) (p6:Int):Hp:=Hp.mk [(pc p1 []),[AV.int .i8 p2.az,AV.int .i8 p2.to,AV.int .u8 p2.bP,AV.int .u8 p2.aW,AV.bool p2.bS],zpB,(pc p3 (pc p4 [AV.int .i8 p5.az,AV.int .i8 p5.to,AV.int .u8 p5.bP,AV.int .u8 p5.aW,AV.bool p5.bS,AV.int .i64 p6]))] [] [] 0 0 0
def AS (p1:Pos) (p2:Mv) (p3:Pos) (p4:Pos) (p5:Mv) (p6:Int) (y:(Pos)):bT := .ret (.tuple []) (Hp.mk [(pc p1 []),[.int .i8 p2.az,.int .i8 p2.to,.int .u8 p2.bP,.int .u8 p2.aW,.bool p2.bS],zpB,(pc y (pc p4 [.int .i8 p5.az,.int .i8 p5.to,.int .u8 p5.bP,.int .u8 p5.aW,.bool p5.bS,.int .i64 p6]))] [] [] 0 0 0)
def cM (p1:Pos) (p2:Mv) (p3:Pos) (p4:Pos) (p5:Mv) (p6:Int):(Pos):=(bif p5.aW != 0 then (bif p5.aW==1 then (bif p3.aa==1 then (Pos.mk p3.variant p3.ae p3.ab p3.af p3.aa p3.ai p3.ah p3.ag 0 (lS p3.full)) else (Pos.mk p3.variant p3.ae p3.ab p3.af p3.aa p3.ai p3.ah p3.ag 0 p3.full)) else (bif decide (p6≥0) then (bif p3.aa==1 then (Pos.mk p3.variant p3.ae p3.ab p3.af p3.aa p3.ai p3.ah p3.ag 0 (lS p3.full)) else (Pos.mk p3.variant p3.ae p3.ab p3.af p3.aa p3.ai p3.ah p3.ag 0 p3.full)) else (bif p3.aa==1 then (Pos.mk p3.variant p3.ae p3.ab p3.af p3.aa p3.ai p3.ah p3.ag (lS p3.half) (lS p3.full)) else (Pos.mk p3.variant p3.ae p3.ab p3.af p3.aa p3.ai p3.ah p3.ag (lS p3.half) p3.full)))) else (bif bu (p4.ae.getD (scale 1 p5.az).toNat 0)==1 then (bif p3.aa==1 then (Pos.mk p3.variant p3.ae p3.ab p3.af p3.aa p3.ai p3.ah p3.ag 0 (lS p3.full)) else (Pos.mk p3.variant p3.ae p3.ab p3.af p3.aa p3.ai p3.ah p3.ag 0 p3.full)) else (bif decide (p6≥0) then (bif p3.aa==1 then (Pos.mk p3.variant p3.ae p3.ab p3.af p3.aa p3.ai p3.ah p3.ag 0 (lS p3.full)) else (Pos.mk p3.variant p3.ae p3.ab p3.af p3.aa p3.ai p3.ah p3.ag 0 p3.full)) else (bif p3.aa==1 then (Pos.mk p3.variant p3.ae p3.ab p3.af p3.aa p3.ai p3.ah p3.ag (lS p3.half) (lS p3.full)) else (Pos.mk p3.variant p3.ae p3.ab p3.af p3.aa p3.ai p3.ah p3.ag (lS p3.half) p3.full)))))
def kJ (p1:Pos) (p2:Mv) (p3:Pos) (p4:Pos) (p5:Mv) (p6:Int):Bool:=(bif p5.aW != 0 then true else (decide (0≤p5.az)&&decide (p5.az<Int.ofNat 64)&&true))
abbrev Od {α:Type} (k:Pos→Mv→Pos→Pos→Mv→Int→α) (s:St):α:=wP s 0 fun q0=>wP s 3 fun q3=>wM s 1 fun q1=>k q0 q1 q3 (Kz.Pos.mk (tI (tH s 3 10)) (tN (tH s 3 11)) (tU (tH s 3 12)) (tN (tH s 3 13)) (tI (tH s 3 14)) (tN (tH s 3 15)) (tI (tH s 3 16)) (tN (tH s 3 17)) (tI (tH s 3 18)) (tI (tH s 3 19))) (Kz.Mv.mk (tI (tH s 3 20)) (tI (tH s 3 21)) (tI (tH s 3 22)) (tI (tH s 3 23)) (tB (tH s 3 24))) (tI (tH s 3 25))
theorem M1 (p1:Pos) (p2:Mv) (p3:Pos) (p4:Pos) (p5:Mv) (p6:Int) (h:kJ p1 p2 p3 p4 p5 p6=true):di Pz 73 (HY p1 p2 p3 p4 p5 p6) (KS p1 p2 p3 p4 p5 p6) (AS p1 p2 p3 p4 p5 p6 (cM p1 p2 p3 p4 p5 p6))∧∃ fn,Pz.funcs[73]?=some fn∧fn.body.isSome=true:=kc (n:=14) (O:=AS p1 p2 p3 p4 p5 p6) Of (fun o=>match o with | .ret v h=>(let s:St:=⟨[v],h⟩;wP s 3 fun q3=>some q3) | _=>none) (fun _=>rfl) (by kernel_rfl) (by kernel_rfl) (by kernel_rfl) (by kernel_rfl) h
def wB (xs:List AV) (h:Hp):Tr bT:=Od (fun p1 p2 p3 p4 p5 p6=>fk xs h (HY p1 p2 p3 p4 p5 p6) (KS p1 p2 p3 p4 p5 p6) (kJ p1 p2 p3 p4 p5 p6) (AS p1 p2 p3 p4 p5 p6) (cM p1 p2 p3 p4 p5 p6)) ⟨xs,h⟩
theorem zH:gO Pz 73 wB:=fun _ _ _ h=>uc (M1 _ _ _ _ _ _) h
def TC:aw:=bO Pz Gi [(149,oU),(66,AK),(65,Dk),(67,Ei),(147,fD),(135,iO),(137,qP),(138,qM),(139,ov),(141,qT),(142,iw),(143,qW),(145,jM),(146,nW),(148,qU)] [(70,2,nX),(71,7,sk),(71,3,vY)] [(68,iI),(69,jd),(70,kN),(71,sK),(72,wV),(73,wB)]
theorem NS:aV TC:=ak aj ⟨ph,Bb,Ey,FJ,fG,jo,rU,rR,pz,sz,iP,uk,ke,ql,uB,trivial⟩ ⟨kY,qa,tg,trivial⟩ ⟨gu,gY,j4,re,xy,zH,trivial⟩
def Iw (p1:Pos) (p2:Mv) (p3:Pos) (p4:Pos) (p5:Mv) (p6:Int):List AV:=[AV.ptr 3 0]
def Gp (p1:Pos) (p2:Mv) (p3:Pos) (p4:Pos) (p5:Mv) (p6:Int):Hp:=Hp.mk [(pc p1 []),[AV.int .i8 p2.az,AV.int .i8 p2.to,AV.int .u8 p2.bP,AV.int .u8 p2.aW,AV.bool p2.bS],zpB,(pc p3 (pc p4 [AV.int .i8 p5.az,AV.int .i8 p5.to,AV.int .u8 p5.bP,AV.int .u8 p5.aW,AV.bool p5.bS,AV.int .i64 p6]))] [] [] 0 0 0
def BV (p1:Pos) (p2:Mv) (p3:Pos) (p4:Pos) (p5:Mv) (p6:Int) (y:(Pos)):bT := .ret (.tuple []) (Hp.mk [(pc p1 []),[.int .i8 p2.az,.int .i8 p2.to,.int .u8 p2.bP,.int .u8 p2.aW,.bool p2.bS],zpB,(pc y (pc p4 [.int .i8 p5.az,.int .i8 p5.to,.int .u8 p5.bP,.int .u8 p5.aW,.bool p5.bS,.int .i64 p6]))] [] [] 0 0 0)
def cO (p1:Pos) (p2:Mv) (p3:Pos) (p4:Pos) (p5:Mv) (p6:Int):(Pos):=(bif p3.variant==5 then (bif decide (p3.ag.getD (scale 1 (wr .u8 (1-wr .u8 (1-p3.aa)))).toNat 0<3) then (bif mD (Pos.mk p3.variant p3.ae p3.ab p3.af (wr .u8 (1-p3.aa)) p3.ai p3.ah p3.ag p3.half p3.full) (wr .u8 (1-p3.aa)) then (Pos.mk p3.variant p3.ae p3.ab p3.af (wr .u8 (1-p3.aa)) p3.ai p3.ah (p3.ag.set (scale 1 (wr .u8 (1-wr .u8 (1-p3.aa)))).toNat (wr .u8 (p3.ag.getD (scale 1 (wr .u8 (1-wr .u8 (1-p3.aa)))).toNat 0+1))) p3.half p3.full) else (Pos.mk p3.variant p3.ae p3.ab p3.af (wr .u8 (1-p3.aa)) p3.ai p3.ah p3.ag p3.half p3.full)) else (Pos.mk p3.variant p3.ae p3.ab p3.af (wr .u8 (1-p3.aa)) p3.ai p3.ah p3.ag p3.half p3.full)) else (Pos.mk p3.variant p3.ae p3.ab p3.af (wr .u8 (1-p3.aa)) p3.ai p3.ah p3.ag p3.half p3.full))
def lH (p1:Pos) (p2:Mv) (p3:Pos) (p4:Pos) (p5:Mv) (p6:Int):Bool:=(bif p3.variant==5 then (decide (0≤wr .u8 (1-wr .u8 (1-p3.aa)))&&decide (wr .u8 (1-wr .u8 (1-p3.aa))<Int.ofNat 2)&&(bif decide (p3.ag.getD (scale 1 (wr .u8 (1-wr .u8 (1-p3.aa)))).toNat 0<3) then (lO (Pos.mk p3.variant p3.ae p3.ab p3.af (wr .u8 (1-p3.aa)) p3.ai p3.ah p3.ag p3.half p3.full) (wr .u8 (1-p3.aa))&&(bif mD (Pos.mk p3.variant p3.ae p3.ab p3.af (wr .u8 (1-p3.aa)) p3.ai p3.ah p3.ag p3.half p3.full) (wr .u8 (1-p3.aa)) then (decide (0≤wr .u8 (1-wr .u8 (1-p3.aa)))&&decide (wr .u8 (1-wr .u8 (1-p3.aa))<Int.ofNat 2)&&(decide (0≤wr .u8 (1-wr .u8 (1-p3.aa)))&&decide (wr .u8 (1-wr .u8 (1-p3.aa))<Int.ofNat 2)&&true)) else true)) else true)) else true)
abbrev Oh {α:Type} (k:Pos→Mv→Pos→Pos→Mv→Int→α) (s:St):α:=wP s 0 fun q0=>wP s 3 fun q3=>wM s 1 fun q1=>k q0 q1 q3 (Kz.Pos.mk (tI (tH s 3 10)) (tN (tH s 3 11)) (tU (tH s 3 12)) (tN (tH s 3 13)) (tI (tH s 3 14)) (tN (tH s 3 15)) (tI (tH s 3 16)) (tN (tH s 3 17)) (tI (tH s 3 18)) (tI (tH s 3 19))) (Kz.Mv.mk (tI (tH s 3 20)) (tI (tH s 3 21)) (tI (tH s 3 22)) (tI (tH s 3 23)) (tB (tH s 3 24))) (tI (tH s 3 25))
theorem NB (p1:Pos) (p2:Mv) (p3:Pos) (p4:Pos) (p5:Mv) (p6:Int) (h:lH p1 p2 p3 p4 p5 p6=true):di Pz 74 (Iw p1 p2 p3 p4 p5 p6) (Gp p1 p2 p3 p4 p5 p6) (BV p1 p2 p3 p4 p5 p6 (cO p1 p2 p3 p4 p5 p6))∧∃ fn,Pz.funcs[74]?=some fn∧fn.body.isSome=true:=kc (n:=14) (O:=BV p1 p2 p3 p4 p5 p6) NS (fun o=>match o with | .ret v h=>(let s:St:=⟨[v],h⟩;wP s 3 fun q3=>some q3) | _=>none) (fun _=>rfl) (by kernel_rfl) (by kernel_rfl) (by kernel_rfl) (by kernel_rfl) h
def C0 (xs:List AV) (h:Hp):Tr bT:=Oh (fun p1 p2 p3 p4 p5 p6=>fk xs h (Iw p1 p2 p3 p4 p5 p6) (Gp p1 p2 p3 p4 p5 p6) (lH p1 p2 p3 p4 p5 p6) (BV p1 p2 p3 p4 p5 p6) (cO p1 p2 p3 p4 p5 p6)) ⟨xs,h⟩
theorem IE:gO Pz 74 C0:=fun _ _ _ h=>uc (NB _ _ _ _ _ _) h
def B31:aw:=bO Pz Gi [(149,oU),(66,AK),(65,Dk),(67,Ei),(147,fD),(135,iO),(137,qP),(138,qM),(139,ov),(141,qT),(142,iw),(143,qW),(145,jM),(146,nW),(148,qU)] [(70,2,nX),(71,7,sk),(71,3,vY)] [(68,iI),(69,jd),(70,kN),(71,sK),(72,wV),(73,wB),(74,C0)]
theorem afx:aV B31:=ak aj ⟨ph,Bb,Ey,FJ,fG,jo,rU,rR,pz,sz,iP,uk,ke,ql,uB,trivial⟩ ⟨kY,qa,tg,trivial⟩ ⟨gu,gY,j4,re,xy,zH,IE,trivial⟩
def mI (a:Pos) (b:Mv):(Pos×Bool):=(bif !GD (bL a) b then (⟨(a.variant),(a.ae),(a.ab),(a.af),(a.aa),(a.ai),(a.ah),(a.ag),(a.half),(a.full)⟩,(false)) else (⟨((cO a b (cM a b (dw a b (cE a b (cB a b (b7 a b (bM a b a a b (bC a b)) a b (bC a b)) a b (bC a b)) a b (bC a b)) a b (bC a b)) a b (bC a b)) a b (bC a b)).variant),((cO a b (cM a b (dw a b (cE a b (cB a b (b7 a b (bM a b a a b (bC a b)) a b (bC a b)) a b (bC a b)) a b (bC a b)) a b (bC a b)) a b (bC a b)) a b (bC a b)).ae),((cO a b (cM a b (dw a b (cE a b (cB a b (b7 a b (bM a b a a b (bC a b)) a b (bC a b)) a b (bC a b)) a b (bC a b)) a b (bC a b)) a b (bC a b)) a b (bC a b)).ab),((cO a b (cM a b (dw a b (cE a b (cB a b (b7 a b (bM a b a a b (bC a b)) a b (bC a b)) a b (bC a b)) a b (bC a b)) a b (bC a b)) a b (bC a b)) a b (bC a b)).af),((cO a b (cM a b (dw a b (cE a b (cB a b (b7 a b (bM a b a a b (bC a b)) a b (bC a b)) a b (bC a b)) a b (bC a b)) a b (bC a b)) a b (bC a b)) a b (bC a b)).aa),((cO a b (cM a b (dw a b (cE a b (cB a b (b7 a b (bM a b a a b (bC a b)) a b (bC a b)) a b (bC a b)) a b (bC a b)) a b (bC a b)) a b (bC a b)) a b (bC a b)).ai),((cO a b (cM a b (dw a b (cE a b (cB a b (b7 a b (bM a b a a b (bC a b)) a b (bC a b)) a b (bC a b)) a b (bC a b)) a b (bC a b)) a b (bC a b)) a b (bC a b)).ah),((cO a b (cM a b (dw a b (cE a b (cB a b (b7 a b (bM a b a a b (bC a b)) a b (bC a b)) a b (bC a b)) a b (bC a b)) a b (bC a b)) a b (bC a b)) a b (bC a b)).ag),((cO a b (cM a b (dw a b (cE a b (cB a b (b7 a b (bM a b a a b (bC a b)) a b (bC a b)) a b (bC a b)) a b (bC a b)) a b (bC a b)) a b (bC a b)) a b (bC a b)).half),((cO a b (cM a b (dw a b (cE a b (cB a b (b7 a b (bM a b a a b (bC a b)) a b (bC a b)) a b (bC a b)) a b (bC a b)) a b (bC a b)) a b (bC a b)) a b (bC a b)).full)⟩,(true)))
def Fv (a:Pos) (b:Mv):Bool:=(sc (a)&&(y9 (bL a) (b)&&(bif !GD (bL a) b then true else (EG (a) (b)&&(nY (a) (b) (a) (a) (b) (bC a b)&&(oI (a) (b) (bM a b a a b (bC a b)) (a) (b) (bC a b)&&(nJ (a) (b) (b7 a b (bM a b a a b (bC a b)) a b (bC a b)) (a) (b) (bC a b)&&(oF (a) (b) (cB a b (b7 a b (bM a b a a b (bC a b)) a b (bC a b)) a b (bC a b)) (a) (b) (bC a b)&&(ou (a) (b) (cE a b (cB a b (b7 a b (bM a b a a b (bC a b)) a b (bC a b)) a b (bC a b)) a b (bC a b)) (a) (b) (bC a b)&&(kJ (a) (b) (dw a b (cE a b (cB a b (b7 a b (bM a b a a b (bC a b)) a b (bC a b)) a b (bC a b)) a b (bC a b)) a b (bC a b)) (a) (b) (bC a b)&&(lH (a) (b) (cM a b (dw a b (cE a b (cB a b (b7 a b (bM a b a a b (bC a b)) a b (bC a b)) a b (bC a b)) a b (bC a b)) a b (bC a b)) a b (bC a b)) (a) (b) (bC a b)&&true)))))))))))
theorem P31 (a:Pos) (b:Mv) (h:Fv a b=true):PS Pz 31 [Pos.av a,Mv.av b] ((d2 aY dB).res (mI a b)):=pq14 afx h
def G31:GT:=g2 aY qZ (fun a b=>cg (Fv a b) ((d2 aY dB).res (mI a b)))
theorem s31:Sound Pz 31 G31:=aT fun a b=>ay (P31 a b)
end Kz
end
noncomputable section
namespace Kz
open Go
theorem Br {i:Int} (h0:0≤i) (h1:i<64):(decide (0≤i)&&decide (i<Int.ofNat 64))=true:=by
 rw [E',decide_eq_true_eq,decide_eq_true_eq]
 exact ⟨h0,h1⟩
theorem ui {l:List Int} {a b v:Int} (h:∀ x∈l,a≤x∧x≤b) (hv:a≤v∧v≤b) (i:Nat):∀ x∈l.set i v,a≤x∧x≤b:=by
 intro x hx
 rcases List.mem_or_eq_of_mem_set hx with h1 | rfl
 ·exact h x h1
 ·exact hv
theorem yc (a b:Int):0≤kI a b∧kI a b≤255:=by
 unfold kI
 exact au (P:=fun x:Int=>0≤x∧x≤255) (fun _=>by decide) fun _=>au (P:=fun x:Int=>0≤x∧x≤255) (fun _=>by decide) fun _=>au (P:=fun x:Int=>0≤x∧x≤255) (fun _=>by decide) fun _=>⟨jv _,lv _⟩
theorem xo {n:Int} (h : -9223372036854775808≤n∧n≤9223372036854775807) : -9223372036854775808≤lS n∧lS n≤9223372036854775807:=by
 unfold lS
 exact au (P:=fun x:Int => -9223372036854775808≤x∧x≤9223372036854775807) (fun _=>h) fun _=>F7 _
structure dz (p q:Pos):Prop where
 bW:aO q
 v:q.variant=p.variant
 t:q.aa=p.aa
noncomputable section
variable {p q:Pos}
theorem dz.ae (h:dz p q) {bd:List Int} (hl:bd.length=64) (hb:∀ x∈bd,0≤x∧x≤255) (pr:BitVec 64):dz p ⟨q.variant,bd,pr,q.af,q.aa,q.ai,q.ah,q.ag,q.half,q.full⟩ :=
 ⟨⟨h.bW.v0,h.bW.v1,hl,hb,h.bW.kl,h.bW.k0,h.bW.t0,h.bW.t1,h.bW.rl,h.bW.r0,h.bW.p0,h.bW.p1,h.bW.cl,h.bW.c0,h.bW.h0,h.bW.f0⟩,h.v,h.t⟩
theorem dz.set (h:dz p q) (i:Nat) {v:Int} (hv:0≤v∧v≤255):dz p ⟨q.variant,q.ae.set i v,q.ab,q.af,q.aa,q.ai,q.ah,q.ag,q.half,q.full⟩ :=
 h.ae (by rw [List.length_set];exact h.bW.bl) (ui h.bW.b0 hv i) _
theorem dz.ab (h:dz p q) (pr:BitVec 64):dz p ⟨q.variant,q.ae,pr,q.af,q.aa,q.ai,q.ah,q.ag,q.half,q.full⟩:=h.ae h.bW.bl h.bW.b0 pr
theorem dz.af (h:dz p q) (i:Nat) {v:Int} (hv:0≤v∧v≤255):dz p ⟨q.variant,q.ae,q.ab,q.af.set i v,q.aa,q.ai,q.ah,q.ag,q.half,q.full⟩ :=
 ⟨⟨h.bW.v0,h.bW.v1,h.bW.bl,h.bW.b0,by rw [List.length_set];exact h.bW.kl,ui h.bW.k0 hv i,h.bW.t0,h.bW.t1,h.bW.rl,h.bW.r0,h.bW.p0,h.bW.p1,h.bW.cl,h.bW.c0,h.bW.h0,h.bW.f0⟩,h.v,h.t⟩
theorem dz.ai (h:dz p q) {rk:List Int} (hl:rk.length=4) (hr:∀ x∈rk,-128≤x∧x≤127):dz p ⟨q.variant,q.ae,q.ab,q.af,q.aa,rk,q.ah,q.ag,q.half,q.full⟩ :=
 ⟨⟨h.bW.v0,h.bW.v1,h.bW.bl,h.bW.b0,h.bW.kl,h.bW.k0,h.bW.t0,h.bW.t1,hl,hr,h.bW.p0,h.bW.p1,h.bW.cl,h.bW.c0,h.bW.h0,h.bW.f0⟩,h.v,h.t⟩
theorem dz.aeb (h:dz p q) (i:Nat):dz p ⟨q.variant,q.ae,q.ab,q.af,q.aa,q.ai.set i (-1),q.ah,q.ag,q.half,q.full⟩ :=
 h.ai (by rw [List.length_set];exact h.bW.rl) (ui h.bW.r0 (by omega) i)
theorem dz.ah (h:dz p q) {s:Int} (hs : -128≤s∧s≤127):dz p ⟨q.variant,q.ae,q.ab,q.af,q.aa,q.ai,s,q.ag,q.half,q.full⟩ :=
 ⟨⟨h.bW.v0,h.bW.v1,h.bW.bl,h.bW.b0,h.bW.kl,h.bW.k0,h.bW.t0,h.bW.t1,h.bW.rl,h.bW.r0,hs.1,hs.2,h.bW.cl,h.bW.c0,h.bW.h0,h.bW.f0⟩,h.v,h.t⟩
theorem dz.xf (h:dz p q) {a b:Int} (ha : -9223372036854775808≤a∧a≤9223372036854775807) (hb : -9223372036854775808≤b∧b≤9223372036854775807):dz p ⟨q.variant,q.ae,q.ab,q.af,q.aa,q.ai,q.ah,q.ag,a,b⟩ :=
 ⟨⟨h.bW.v0,h.bW.v1,h.bW.bl,h.bW.b0,h.bW.kl,h.bW.k0,h.bW.t0,h.bW.t1,h.bW.rl,h.bW.r0,h.bW.p0,h.bW.p1,h.bW.cl,h.bW.c0,ha,hb⟩,h.v,h.t⟩
theorem LI (h:dz p q) (b c:Int):dz p (jh q b c).1:=by
 unfold jh
 refine au (P:=fun x:Pos×Bool=>dz p x.1) (fun _=>h) fun _=>au (P:=fun x:Pos×Bool=>dz p x.1) (fun _=>h) fun _=>?_
 exact h.af _ ⟨jv _,lv _⟩
theorem Am (h:dz p q) (b c:Int):dz p (bk q b c):=by
 unfold bk
 refine au (P:=fun x:Pos=>dz p x) (fun _=>au (P:=fun x:Pos=>dz p x) (fun _=>?_) fun _=>h) fun _=>h
 exact h.af _ ⟨jv _,lv _⟩
end
noncomputable section
variable {p:Pos} (hp:aO p) (m:Mv)
include hp
theorem eH (i:Nat):0≤p.ae.getD i 0∧p.ae.getD i 0≤255:=hQ hp.b0 (by omega) i
theorem C9 (a:Pos) (b:Mv) (c:Int):dz p (bM a b p p m c):=by
 have h:dz p p:=⟨hp,rfl,rfl⟩
 have z:(0:Int)≤0∧(0:Int)≤255:=by omega
 have bi:=eH hp
 unfold bM
 refine au (P:=fun x:Pos=>dz p x) (fun _=>((((h.set _ z).set _ z).set _ (bi _)).set _ (bi _))) fun _=>au (P:=fun x:Pos=>dz p x) (fun _=>(LI h _ _).set _ (yc _ _)) fun _=>au (P:=fun x:Pos=>dz p x) (fun _=>au (P:=fun x:Pos=>dz p x) (fun _=>(((h.set _ z).set _ z).set _ (bi _)).set _ (yc _ _)) fun _=>((h.set _ z).set _ z).set _ (bi _)) fun _=>au (P:=fun x:Pos=>dz p x) (fun _=>((h.set _ z).set _ (bi _)).set _ (yc _ _)) fun _=>(h.set _ z).set _ (bi _)
omit hp in
theorem Dm {q:Pos} (h:dz p q) (a:Pos) (b:Mv) (c:Int):dz p (b7 a b q p m c):=by
 unfold b7
 repeat' (first | exact h | exact h.ab _ | exact Am h _ _ | exact (Am h _ _).ab _ | refine au (P:=fun x:Pos=>dz p x) (fun _=>?_) (fun _=>?_))
omit hp in
theorem BN (l:List Int) (hl:l.length≤64) (hin:∀ s∈l,0≤s∧s<64) {q:Pos} (h:dz p q) (a b:Pos) (c d:Mv) (e:Int):∃ r,qi l (Int.ofNat l.length) a c b d e (0,q)=some r∧dz p r.2.2:=by
 refine bh (I:=fun x=>0≤x.1∧x.1≤(l.length:Int)∧dz p x.2) (μ:=fun x=>((l.length:Int)-x.1).toNat) ?_ _ ⟨by simp,by simp,h⟩ (by simp;omega)
 rintro ⟨n,o⟩ ⟨h0,h1,h2⟩
 simp only at h0 h1 h2
 by_cases hc:n<l.length
 ·have hf:=hin _ (cS (d:=default) (show n.toNat<l.length by omega))
  refine ⟨aq (fun _=>ao (by simp [h0];omega) fun _=>ao (Br hf.1 hf.2) fun _=>rfl) fun _=>rfl,au (fun _=>?_) fun h=>absurd h (by simpa using hc)⟩
  rw [aN (n:=n+1) (by omega) (by omega)]
  exact ⟨⟨by simp;omega,by simp;omega,h2.set _ (by omega)⟩,by simp;omega⟩
 ·exact ⟨aq (fun h=>absurd h (by simpa using hc)) fun _=>rfl,au (fun h=>absurd h (by simpa using hc)) fun _=>h2⟩
omit hp in
theorem DV {q:Pos} (h:dz p q) (a:Pos) (b:Mv) (c:Int):nJ a b q p m c=true∧dz p (cB a b q p m c):=by
 have hl:=aM (BN (p:=p) (jq (qd q (wr .i64 m.to)) 64) (fm _ _) (fun _ h=>lJ h) h a p b m c)
 constructor
 ·unfold nJ
  refine aq (fun _=>rfl) fun _=>aq (fun _=>rfl) fun _=>ao (t143 _ _) fun _=>ao (t142 _) fun _=>ao ?_ fun _=>rfl
  rw [dJ];exact hl.1
 ·unfold cB
  refine au (P:=fun x:Pos=>dz p x) (fun _=>h) fun _=>au (P:=fun x:Pos=>dz p x) (fun _=>h) fun _=>?_
  rw [dJ];exact hl.2
omit hp in
theorem uo {c k:Int} (hc0:0≤c) (hc1:c≤1) (l:List Int) (hl:∀ s∈l,-128≤s∧s≤127) {q:Pos} (h:dz p q) (a b:Pos) (m1 m2:Mv) (e:Int):∃ r,lQ c k l a m1 b m2 e (0,q)=some r∧dz p r.2.2:=by
 refine bh (I:=fun x=>0≤x.1∧x.1≤2∧dz p x.2) (μ:=fun x=>(2-x.1).toNat) ?_ _ ⟨by simp,by simp,h⟩ (by simp)
 rintro ⟨n,o⟩ ⟨h0,h1,h2⟩
 simp only at h0 h1 h2
 by_cases hc:n<2
 ·have hs:=hQ hl (d:=0) (by omega) n.toNat
  have go1:zS (fun x:Int×Pos=>0≤x.1∧x.1≤2∧dz p x.2) (fun r:Int×Bool×Pos=>dz p r.2.2) (fun x=>(2-x.1).toNat) (2-n).toNat (.go (wr .i64 (n+1),o)):=by
   rw [aN (n:=n+1) (by omega) (by omega)]
   exact ⟨⟨by simp;omega,by simp;omega,h2⟩,by simp;omega⟩
  have go2:∀ i,zS (fun x:Int×Pos=>0≤x.1∧x.1≤2∧dz p x.2) (fun r:Int×Bool×Pos=>dz p r.2.2) (fun x=>(2-x.1).toNat) (2-n).toNat (.go (wr .i64 (n+1),⟨o.variant,o.ae,o.ab,o.af,o.aa,o.ai.set i (-1),o.ah,o.ag,o.half,o.full⟩)):=by
   intro i
   rw [aN (n:=n+1) (by omega) (by omega)]
   exact ⟨⟨by simp;omega,by simp;omega,h2.aeb i⟩,by simp;omega⟩
  have w1:wr .i64 c=c:=aN (by omega) (by omega)
  have w2:wr .i64 (56 * c)=56 * c:=aN (by omega) (by omega)
  have w3:wr .i64 (l.getD n.toNat 0)=l.getD n.toNat 0:=aN (by omega) (by omega)
  have w4:wr .i64 (56 * c+l.getD n.toNat 0)=56 * c+l.getD n.toNat 0:=aN (by omega) (by omega)
  have k1:(decide (0≤c)&&decide (c<Int.ofNat 2))=true:=by simp;omega
  have k2:(decide (0≤n)&&decide (n<Int.ofNat 2))=true:=by simp;omega
  refine ⟨aq (fun _=>ao k2 fun _=>aq (fun _=>rfl) fun g0=>aq (fun _=>rfl) fun g1=>?_) fun _=>rfl,au (fun _=>?_) fun h=>absurd h (by simpa using hc)⟩
  ·rw [w1,w2,w3,w4]
   have g0:0≤l.getD n.toNat 0:=by simpa using g0
   have g1:l.getD n.toNat 0≤7:=by simpa using g1
   have k3:(decide (0≤56 * c+l.getD n.toNat 0)&&decide (56 * c+l.getD n.toNat 0<Int.ofNat 64))=true:=Br (by omega) (by omega)
   repeat' (first | with_reducible rfl | with_reducible exact k1 | with_reducible exact k2 | with_reducible exact k3 | refine ao ?_ (fun _=>?_) | refine aq (fun _=>?_) (fun _=>?_))
  ·repeat' (first | exact go1 | exact go2 _ | refine au (fun _=>?_) (fun _=>?_))
 ·exact ⟨aq (fun h=>absurd h (by simpa using hc)) fun _=>rfl,au (fun h=>absurd h (by simpa using hc)) fun _=>h2⟩
omit hp in
theorem gn {q:Pos} (h:dz p q) (a b:Pos) (m1 m2:Mv) (e:Int):∃ r,dE a m1 b m2 e (0,q)=some r∧dz p r.2.2:=by
 refine bh (I:=fun x=>0≤x.1∧x.1≤2∧dz p x.2) (μ:=fun x=>(2-x.1).toNat) ?_ _ ⟨by simp,by simp,h⟩ (by simp)
 rintro ⟨n,o⟩ ⟨h0,h1,h2⟩
 simp only at h0 h1 h2
 by_cases hc:n≤1
 ·have hr:∀ s∈List.take 2 (List.drop (scale 2 n).toNat o.ai),-128≤s∧s≤127:=fun s hs=>h2.bW.r0 s (List.mem_of_mem_drop (List.mem_of_mem_take hs))
  have hl:=aM (uo (p:=p) (k:=aX o n 6) h0 hc _ hr h2 a b m1 m2 e)
  refine ⟨aq (fun _=>ao (t145 _ _ _) fun _=>ao (by simp;omega) fun _=>ao hl.1 fun _=>rfl) fun _=>rfl,au (fun _=>?_) fun h=>absurd h (by simpa using hc)⟩
  rw [o6 (n:=n+1) (by omega) (by omega)]
  exact ⟨⟨by simp;omega,by simp;omega,hl.2⟩,by simp;omega⟩
 ·exact ⟨aq (fun h=>absurd h (by simpa using hc)) fun _=>rfl,au (fun h=>absurd h (by simpa using hc)) fun _=>h2⟩
theorem Du (ht:p.aa≤1) {q:Pos} (h:dz p q) (hm:m.aW=0→0≤m.az∧m.az<64) (a:Pos) (b:Mv) (c:Int):oF a b q p m c=true∧dz p (cE a b q p m c):=by
 have t0:=hp.t0
 have h2:dz p ⟨q.variant,q.ae,q.ab,q.af,q.aa,List.take (scale 2 q.aa).toNat q.ai++li [-1,-1]++List.drop ((scale 2 q.aa).toNat+2) q.ai,q.ah,q.ag,q.half,q.full⟩:=by
  refine h.ai ?_ ?_
  ·have hr:=h.bW.rl
   have:(scale 2 q.aa).toNat≤2:=by rw [h.t];unfold scale;simp;omega
   simp [li,hr]
   omega
  ·intro x hx
   simp only [List.mem_append,li] at hx
   rcases hx with (hx | hx) | hx
   ·exact h.bW.r0 x (List.mem_of_mem_take hx)
   ·simp at hx;omega
   ·exact h.bW.r0 x (List.mem_of_mem_drop hx)
 have a1:=aM (gn h a p b m c)
 have a2:=aM (gn h2 a p b m c)
 have k1:(decide (0≤q.aa)&&decide (q.aa<Int.ofNat 2))=true:=by rw [h.t];simp;omega
 constructor
 ·unfold oF
  refine aq (fun _=>?_) fun hd=>ao ?_ fun _=>?_
  ·repeat' (first | with_reducible rfl | with_reducible exact k1 | with_reducible exact a1.1 | with_reducible exact a2.1 | refine ao ?_ (fun _=>?_) | refine aq (fun _=>?_) (fun _=>?_))
  ·have:=hm (by simpa using hd)
   simp;omega
  ·repeat' (first | with_reducible rfl | with_reducible exact k1 | with_reducible exact a1.1 | with_reducible exact a2.1 | refine ao ?_ (fun _=>?_) | refine aq (fun _=>?_) (fun _=>?_))
 ·unfold cE
  repeat' (first | exact a1.2 | exact a2.2 | refine au (P:=fun x:Pos=>dz p x) (fun _=>?_) (fun _=>?_))
omit hp in
theorem DD {q:Pos} (h:dz p q) (hm:m.aW=0→0≤m.az∧m.az<64) (a:Pos) (b:Mv) (c:Int):ou a b q p m c=true∧dz p (dw a b q p m c):=by
 constructor
 ·unfold ou
  refine aq (fun _=>?_) fun hd=>ao ?_ fun _=>?_
  ·repeat' (first | with_reducible rfl | with_reducible exact t146 _ _ | with_reducible exact t147 _ _ _ | refine ao ?_ (fun _=>?_) | refine aq (fun _=>?_) (fun _=>?_))
  ·have:=hm (by simpa using hd)
   simp;omega
  ·repeat' (first | with_reducible rfl | with_reducible exact t146 _ _ | with_reducible exact t147 _ _ _ | refine ao ?_ (fun _=>?_) | refine aq (fun _=>?_) (fun _=>?_))
 ·have n1:(-128:Int) ≤ -1∧(-1:Int)≤127:=by omega
  unfold dw
  repeat' (first | exact h.ah n1 | exact h.ah (NI _) | refine au (P:=fun x:Pos=>dz p x) (fun _=>?_) (fun _=>?_))
omit hp in
theorem Fz {q:Pos} (h:dz p q) (hm:m.aW=0→0≤m.az∧m.az<64) (a:Pos) (b:Mv) (c:Int):kJ a b q p m c=true∧dz p (cM a b q p m c):=by
 constructor
 ·unfold kJ
  refine aq (fun _=>rfl) fun hd=>ao ?_ fun _=>rfl
  have:=hm (by simpa using hd)
  simp;omega
 ·have z:(-9223372036854775808:Int)≤0∧(0:Int)≤9223372036854775807:=by omega
  have f1:=h.bW.f0
  have f2:=xo h.bW.f0
  have f3:=xo h.bW.h0
  unfold cM
  repeat' (first | exact h.xf z f1 | exact h.xf z f2 | exact h.xf f3 f1 | exact h.xf f3 f2 | refine au (P:=fun x:Pos=>dz p x) (fun _=>?_) (fun _=>?_))
theorem RO (ht:p.aa≤1) {q:Pos} (h:dz p q) (a:Pos) (b:Mv) (c:Int):lH a b q p m c=true∧aO (cO a b q p m c)∧(cO a b q p m c).variant=p.variant∧(cO a b q p m c).aa=1-p.aa:=by
 have t0:=hp.t0
 have w1:wr .u8 (1-p.aa)=1-p.aa:=o6 (by omega) (by omega)
 have w2:wr .u8 (1-(1-p.aa))=p.aa:=by rw [o6 (by omega) (by omega)];omega
 have k1:(decide (0≤p.aa)&&decide (p.aa<Int.ofNat 2))=true:=by simp;omega
 have hq:aO ⟨q.variant,q.ae,q.ab,q.af,1-p.aa,q.ai,q.ah,q.ag,q.half,q.full⟩ :=
  ⟨h.bW.v0,h.bW.v1,h.bW.bl,h.bW.b0,h.bW.kl,h.bW.k0,by show 0≤1-p.aa;omega,by show 1-p.aa≤255;omega,h.bW.rl,h.bW.r0,h.bW.p0,h.bW.p1,h.bW.cl,h.bW.c0,h.bW.h0,h.bW.f0⟩
 constructor
 ·unfold lH
  rw [h.t,w1,w2]
  refine aq (fun _=>ao k1 fun _=>aq (fun _=>ao (t149 h.bW.v0 (by omega)) fun _=>aq (fun _=>ao k1 fun _=>ao k1 fun _=>rfl) fun _=>rfl) fun _=>rfl) fun _=>rfl
 ·unfold cO
  rw [h.t,w1,w2]
  have base:aO ⟨q.variant,q.ae,q.ab,q.af,1-p.aa,q.ai,q.ah,q.ag,q.half,q.full⟩∧q.variant=p.variant∧(1-p.aa=1-p.aa):=⟨hq,h.v,rfl⟩
  refine au (P:=fun x:Pos=>aO x∧x.variant=p.variant∧x.aa=1-p.aa) (fun _=>au (P:=fun x:Pos=>aO x∧x.variant=p.variant∧x.aa=1-p.aa) (fun _=>au (P:=fun x:Pos=>aO x∧x.variant=p.variant∧x.aa=1-p.aa) (fun _=>?_) fun _=>base) fun _=>base) fun _=>base
  exact ⟨⟨hq.v0,hq.v1,hq.bl,hq.b0,hq.kl,hq.k0,hq.t0,hq.t1,hq.rl,hq.r0,hq.p0,hq.p1,by rw [List.length_set];exact hq.cl,ui hq.c0 ⟨jv _,lv _⟩ _,hq.h0,hq.f0⟩,h.v,rfl⟩
end
theorem i7 {p:Pos} (hp:aO p) {m:Mv} (h:m∈bL p):there p∧0≤m.az∧m.az<64∧0≤m.to∧m.to<64∧0≤m.aW∧m.aW≤5∧0≤m.bP∧m.bP≤6:=by
 rw [nk] at h
 have n110:∀ v:Int,9≤v→uS v=false:=fun v hv=>by
  unfold uS
  rw [show decide (v≥9)=true by simpa using hv];rfl
 have n113:∀ v:Int,9≤v→qS v=false:=fun v hv=>by
  unfold qS
  rw [show decide (v≥9)=true by simpa using hv];rfl
 simp only [List.mem_append] at h
 rcases h with (h | h) | h
 ·obtain ⟨th,f,t,h1,h2,h3,h4,h5,h6,h7,h8,_⟩:=gD hp.v0 h
  exact ⟨th,by omega,by omega,by omega,by omega,by omega,by omega,h7,h8⟩
 ·obtain ⟨h1,h2,h3,h4,h5,h6,h7,h8⟩:=tJ hp h
  refine ⟨⟨h1,?_⟩,h2,h3,h4,h5,by omega,by omega,by omega,by omega⟩
  refine Classical.byContradiction fun hv=>?_
  unfold eL at h
  rw [n110 _ (by omega)] at h
  rw [show decide (p.aa>1)=false by simp;omega] at h
  cases h
 ·obtain ⟨h1,h2,h3,h4,h5,h6,h7,h8,h9⟩:=lr hp.t0 h
  refine ⟨⟨h1,?_⟩,by omega,by omega,h4,h5,by omega,h8,by omega,by omega⟩
  refine Classical.byContradiction fun hv=>?_
  rw [n113 _ (by omega)] at h2
  cases h2
theorem od {p:Pos} (hp:aO p) (m:Mv):Fv p m=true∧(m∈bL p→(mI p m).2=true∧aO (mI p m).1∧(mI p m).1.variant=p.variant∧(mI p m).1.aa=1-p.aa)∧(m∉bL p→mI p m=(p,false)):=by
 have hlen:=mg hp
 have hc:GD (bL p) m=decide (m∈bL p):=pw (by omega)
 by_cases hm:m∈bL p
 ·obtain ⟨th,f0,f1,g0,g1,d0,d1,r0,r1⟩:=i7 hp hm
  have hmf:m.aW=0→0≤m.az∧m.az<64:=fun _=>⟨f0,f1⟩
  have hn:=BB hp m
  have h1:=C9 hp m p m (bC p m)
  have h2:=Dm m h1 p m (bC p m)
  have h4:=DV m h2 p m (bC p m)
  have h8:=Du hp m th.1 h4.2 hmf p m (bC p m)
  have h9:=DD m h8.2 hmf p m (bC p m)
  have h10:=Fz m h9.2 hmf p m (bC p m)
  have h11:=RO hp m th.1 h10.2 p m (bC p m)
  have kf:(decide (0≤m.az)&&decide (m.az<Int.ofNat 64))=true:=by simp;omega
  have kt:(decide (0≤m.to)&&decide (m.to<Int.ofNat 64))=true:=by simp;omega
  have kn:bC p m≥0→(decide (0≤bC p m)&&decide (bC p m<Int.ofNat 64))=true:=fun h=>by simp;omega
  have hg:=DX hp.t0 th.1 m
  have ok1:nY p m p p m (bC p m)=true:=by
   unfold nY
   have kg1:(decide (0≤(gq p m).1)&&decide ((gq p m).1<Int.ofNat 64))=true:=by simp;omega
   have kg2:(decide (0≤(gq p m).2.1)&&decide ((gq p m).2.1<Int.ofNat 64))=true:=by simp;omega
   refine aq (fun _=>?_) fun _=>aq (fun _=>?_) fun _=>aq (fun hh=>?_) fun _=>?_
   ·repeat' (first | with_reducible rfl | with_reducible exact t137 _ _ | with_reducible exact kf | with_reducible exact kt | with_reducible exact kg1 | with_reducible exact kg2 | refine ao ?_ (fun _=>?_))
   ·refine ao (t138 hp.t0 d0) fun _=>ao kt fun _=>rfl
   ·have hh:bC p m≥0:=by simpa using hh
    have kn:=kn hh
    repeat' (first | with_reducible rfl | with_reducible exact kn | with_reducible exact kf | with_reducible exact kt | refine ao ?_ (fun _=>?_) | refine aq (fun _=>?_) (fun _=>?_))
   ·repeat' (first | with_reducible rfl | with_reducible exact kf | with_reducible exact kt | refine ao ?_ (fun _=>?_) | refine aq (fun _=>?_) (fun _=>?_))
  have ok2:oI p m (bM p m p p m (bC p m)) p m (bC p m)=true:=by
   have e:0≤(bM p m p p m (bC p m)).aa:=h1.bW.t0
   have bi:=fun i=>(eH hp i).1
   unfold oI
   refine aq (fun _=>rfl) fun _=>aq (fun _=>rfl) fun _=>aq (fun _=>ao (t137 _ _) fun _=>rfl) fun _=>aq (fun hh=>?_) fun _=>rfl
   have hh:bC p m≥0:=by simpa using hh
   have kn:=kn hh
   repeat' (first | with_reducible rfl | with_reducible exact kn | with_reducible exact t141 e (by decide) | with_reducible exact t141 e (N1 (bi _)) | refine ao ?_ (fun _=>?_) | refine aq (fun _=>?_) (fun _=>?_))
  refine ⟨?_,fun _=>?_,fun h=>absurd hm h⟩
  ·unfold Fv
   exact ao (t66 hp) fun _=>ao (t65 (by omega)) fun _=>aq (fun _=>rfl) fun _=>ao (t67 hp.v0 m) fun _=>ao ok1 fun _=>ao ok2 fun _=>ao h4.1 fun _=>ao h8.1 fun _=>ao h9.1 fun _=>ao h10.1 fun _=>ao h11.1 fun _=>rfl
  ·unfold mI
   rw [hc]
   simp only [hm,decide_true,Bool.not_true,cond_false]
   exact ⟨trivial,h11.2⟩
 ·refine ⟨?_,fun h=>absurd h hm,fun _=>?_⟩
  ·unfold Fv
   refine ao (t66 hp) fun _=>ao (t65 (by omega)) fun _=>aq (fun _=>rfl) fun h=>?_
   rw [hc] at h
   simp [hm] at h
  ·unfold mI
   rw [hc]
   simp [hm]
end Kz
end
noncomputable section
namespace Kz
open Go Go.RowKit Go.Proofs
def K97:KT:=[(97,11,[(0,[1,2]),(1,[4])])]
def B97:aw:=bO Pz K97 [(82,mz)] [] []
theorem aiH:aV B97:=ak aj ⟨mN,trivial⟩ trivial trivial
def y8 (a:Pos) (b:Int):Bool:=(bw (a.ae.getD (scale 1 b).toNat 0)==0)
def pB (a:Pos) (b:Int):Bool:=(decide (0≤b)&&decide (b < ↑64)&&true)
theorem P97 (a:Pos) (b:Int) (h:pB a b=true):PS Pz 97 [Pos.av a,.int .i64 b] (dB.res (y8 a b)):=pq14 aiH h
def WQ:GT:=g2 aY (dI .i64) (fun a b=>cg (pB a b) (dB.res (y8 a b)))
theorem s97:Sound Pz 97 WQ:=aT fun a b=>ay (P97 a b)
def aey:KT:=[(151,20,[(0,(1::2::3::(rn 12 7 []))),(1,[6])])]
def aiv:aw:=bO Pz aey [(83,PV),(97,WQ)] [] []
theorem XJ:aV aiv:=ak aj ⟨Ux,s97,trivial⟩ trivial trivial
def sJ (a:Pos) (b:Int) (c:Int):Bool:=(bif !y8 (Pos.mk a.variant a.ae a.ab a.af a.aa a.ai a.ah a.ag a.half a.full) b then (nn (a.ae.getD (scale 1 b).toNat 0)==c) else (false))
def qE (a:Pos) (b:Int) (c:Int):Bool:=(pB (Pos.mk a.variant a.ae a.ab a.af a.aa a.ai a.ah a.ag a.half a.full) (b)&&(bif !y8 (Pos.mk a.variant a.ae a.ab a.af a.aa a.ai a.ah a.ag a.half a.full) b then (decide (0≤b)&&decide (b < ↑64)&&true) else true))
theorem agu (a:Pos) (b:Int) (c:Int) (h:qE a b c=true):PS Pz 151 [Pos.av a,.int .i64 b,.int .u8 c] (dB.res (sJ a b c)):=pq14 XJ h
def Lf:GT:=g3 aY (dI .i64) (dI .u8) (fun a b c=>cg (qE a b c) (dB.res (sJ a b c)))
theorem Mx:Sound Pz 151 Lf:=dg fun a b c=>ay (agu a b c)
def K94:KT:=[(94,12,[(0,[0,1]),(1,[1,6]),(2,[4]),(3,[4])])]
def B94:aw:=bO Pz K94 [] [] []
theorem ah5:aV B94:=ak aj trivial trivial trivial
def rh (a:Int) (b:Int):Int:=(bif a==0 then (wr .i64 (b.tdiv 8)) else (wr .i64 (7-wr .i64 (b.tdiv 8))))
def acZ (a:Int) (b:Int):Bool:=true
theorem P94 (a:Int) (b:Int) (h:acZ a b=true):PS Pz 94 [.int .u8 a,.int .i64 b] ((dI .i64).res (rh a b)):=pq14 ah5 h
def Mi:GT:=g2 (dI .u8) (dI .i64) (fun a b=>.ret ((dI .i64).res (rh a b)))
theorem OY:Sound Pz 94 Mi:=aT fun a b=>bK (P94 a b rfl)
def K98:KT:=[(98,5,[(0,[0]),(1,[4]),(2,[2]),(3,[2])])]
def B98:aw:=bO Pz K98 [] [] []
theorem ajy:aV B98:=ak aj trivial trivial trivial
def gz (a:Int):Int:=(bif a==0 then (8) else (-8))
def ajB (a:Int):Bool:=true
theorem P98 (a:Int) (h:ajB a=true):PS Pz 98 [.int .u8 a] ((dI .i64).res (gz a)):=pq14 ajy h
def Ws:GT:=g1 (dI .u8) (fun a=>.ret ((dI .i64).res (gz a)))
theorem s98:Sound Pz 98 Ws:=aF fun a=>bK (P98 a rfl)
def aiU:KT:=[(157,79,[(0,(1::2::3::(rn 24 5 (rn 45 12 (65::(rn 68 5 [75,76,77])))))),(1,(1::2::3::7::(rn 24 5 (rn 45 12 (65::(rn 68 5 [75,76,77])))))),(2,(1::2::3::7::16::(rn 24 5 (rn 45 12 (65::(rn 68 5 [75,76,77])))))),(3,[6]),(4,(1::2::3::7::34::(rn 45 12 (65::(rn 68 5 [75,76,77]))))),(5,[6]),(6,(1::2::3::7::8::(rn 45 12 (65::(rn 68 5 [75,76,77]))))),(7,(1::2::3::7::9::65::(rn 68 5 [75,76,77]))),(8,[6])])]
def adz:aw:=bO Pz aiU [(151,Lf),(97,WQ),(98,Ws),(154,Ci),(94,Mi)] [] []
theorem V3:aV adz:=ak aj ⟨Mx,s97,s98,Ed,OY,trivial⟩ trivial trivial
def Lv (a:Pos) (b:Int) (c:Int):Bool:=(bif nz a b c then (bif sJ a c (wr .u8 (1-a.aa)) then (true) else (wr .i64 a.ah==c)) else (bif c==wr .i64 (b+gz a.aa) then (y8 a c) else (bif rh a.aa b==1 then (bif c==wr .i64 (b+wr .i64 (2 * gz a.aa)) then (bif y8 a (wr .i64 (b+gz a.aa)) then (y8 a c) else (false)) else (false)) else (bif rh a.aa b==0 then (bif a.variant==7 then (bif c==wr .i64 (b+wr .i64 (2 * gz a.aa)) then (bif a.aa==0 then (bif y8 a (wr .i64 (b+gz a.aa)) then (y8 a c) else (false)) else (false)) else (false)) else (bif c==wr .i64 (b+wr .i64 (2 * gz a.aa)) then (false) else (false))) else (bif c==wr .i64 (b+wr .i64 (2 * gz a.aa)) then (false) else (false))))))
def zP (a:Pos) (b:Int) (c:Int):Bool:=(ob (a) (b) (c)&&(bif nz a b c then (qE (a) (c) (wr .u8 (1-a.aa))&&true) else (bif c==wr .i64 (b+gz a.aa) then (pB (a) (c)&&true) else (bif rh a.aa b==1 then (bif c==wr .i64 (b+wr .i64 (2 * gz a.aa)) then (pB (a) (wr .i64 (b+gz a.aa))&&(bif y8 a (wr .i64 (b+gz a.aa)) then (pB (a) (c)&&true) else true)) else true) else (bif rh a.aa b==0 then (bif a.variant==7 then (bif c==wr .i64 (b+wr .i64 (2 * gz a.aa)) then (bif a.aa==0 then (pB (a) (wr .i64 (b+gz a.aa))&&(bif y8 a (wr .i64 (b+gz a.aa)) then (pB (a) (c)&&true) else true)) else true) else true) else true) else true)))))
theorem aft (a:Pos) (b:Int) (c:Int) (h:zP a b c=true):PS Pz 157 [Pos.av a,.int .i64 b,.int .i64 c] (dB.res (Lv a b c)):=pq14 V3 h
def XY:GT:=g3 aY (dI .i64) (dI .i64) (fun a b c=>cg (zP a b c) (dB.res (Lv a b c)))
theorem ab5:Sound Pz 157 XY:=dg fun a b c=>ay (aft a b c)
def K93:KT:=[(93,56,[(0,(1::2::3::(rn 11 6 (rn 19 5 (rn 43 8 []))))),(1,(1::2::3::24::(rn 43 8 []))),(2,[6]),(3,(1::2::3::29::(rn 43 8 []))),(4,(1::2::3::29::30::(rn 43 8 []))),(5,[6]),(6,(1::2::3::36::(rn 43 8 []))),(7,[6]),(8,[6])])]
def B93:aw:=bO Pz K93 [(82,mz),(151,Lf),(97,WQ),(154,Ci),(157,XY)] [] []
theorem aeH:aV B93:=ak aj ⟨mN,Mx,s97,Ed,ab5,trivial⟩ trivial trivial
def AM (a:Pos) (b:Int) (c:Int):Bool:=(bif b==c then (false) else (bif !sJ a b a.aa then (false) else (bif sJ a c a.aa then (false) else (bif bw (a.ae.getD (scale 1 b).toNat 0)==1 then (Lv a b c) else (bif bw (a.ae.getD (scale 1 b).toNat 0)==6 then (bif nz a b c then (bif a.variant != 3 then (true) else (y8 a c)) else (false)) else (nz a b c))))))
def Ft (a:Pos) (b:Int) (c:Int):Bool:=(bif b==c then true else (qE (a) (b) (a.aa)&&(bif !sJ a b a.aa then true else (qE (a) (c) (a.aa)&&(bif sJ a c a.aa then true else (decide (0≤b)&&decide (b<Int.ofNat 64)&&(bif bw (a.ae.getD (scale 1 b).toNat 0)==1 then (zP (a) (b) (c)&&true) else (bif bw (a.ae.getD (scale 1 b).toNat 0)==6 then (ob (a) (b) (c)&&(bif nz a b c then (bif a.variant != 3 then true else (pB (a) (c)&&true)) else true)) else (ob (a) (b) (c)&&true)))))))))
theorem P93 (a:Pos) (b:Int) (c:Int) (h:Ft a b c=true):PS Pz 93 [Pos.av a,.int .i64 b,.int .i64 c] (dB.res (AM a b c)):=pq14 aeH h
def VC:GT:=g3 aY (dI .i64) (dI .i64) (fun a b c=>cg (Ft a b c) (dB.res (AM a b c)))
theorem Wd:Sound Pz 93 VC:=dg fun a b c=>ay (P93 a b c)
end Kz
end
noncomputable section
namespace Kz
open Go Go.RowKit
theorem LZ:∀ v:Fin 256,bu v.val=bw v.val∧(dn 0 0 v.val=(!(bw v.val==0)&&nn v.val==0))∧(dn 1 0 v.val=(!(bw v.val==0)&&nn v.val==1))∧((dn 0 0 v.val || dn 1 0 v.val)=!(bw v.val==0))∧(bw v.val=0∨bw v.val=1∨(2≤bw v.val∧bw v.val≤6)):=by decide +kernel
theorem qX {v:Int} (h0:0≤v) (h1:v≤255):bu v=bw v∧(dn 0 0 v=(!(bw v==0)&&nn v==0))∧(dn 1 0 v=(!(bw v==0)&&nn v==1))∧((dn 0 0 v || dn 1 0 v)=!(bw v==0))∧(bw v=0∨bw v=1∨(2≤bw v∧bw v≤6)):=by
 obtain ⟨n,rfl⟩:=Int.eq_ofNat_of_zero_le h0
 exact LZ ⟨n,by omega⟩
noncomputable section
variable {p:Pos} (hp:aO p) (ht:p.aa=0∨p.aa=1)
include hp ht
theorem iu {c:Int} (hc:c=0∨c=1) {i:Nat} (hi:i<64):sJ p i c=(aK p c 0).getLsbD i:=by
 obtain ⟨b0,b1⟩:=eH hp i
 obtain ⟨_,m0,m1,_⟩:=qX b0 b1
 rw [cm _ _ _ hi]
 unfold sJ y8
 rw [show (Pos.mk p.variant p.ae p.ab p.af p.aa p.ai p.ah p.ag p.half p.full)=p from rfl,show (scale 1 (i:Int)).toNat=i by unfold scale;simp]
 rcases hc with rfl | rfl
 ·rw [m0];cases bw (p.ae.getD i 0)==0<;>rfl
 ·rw [m1];cases bw (p.ae.getD i 0)==0<;>rfl
theorem GV:gV p=aK p (1-p.aa) 0:=by
 unfold gV
 rw [o6 (by omega) (by omega)]
theorem rp {s:Nat} (hs:s<64):(own p|||gV p).getLsbD s=false ↔ bw (p.ae.getD s 0)=0:=by
 obtain ⟨b0,b1⟩:=eH hp s
 obtain ⟨_,_,_,m,_⟩:=qX b0 b1
 rw [BitVec.getLsbD_or,GV hp ht]
 unfold own
 rw [cm _ _ _ hs,cm _ _ _ hs]
 have e:(dn p.aa 0 (p.ae.getD s 0) || dn (1-p.aa) 0 (p.ae.getD s 0))=!(bw (p.ae.getD s 0)==0):=by
  rw [← m]
  rcases ht with h | h<;>rw [h]
  ·rfl
  ·exact Bool.or_comm _ _
 rw [e]
 simp
theorem xR {s:Nat} (hs:s<64):y8 p s=!(own p|||gV p).getLsbD s:=by
 have h:=rp hp ht hs
 unfold y8
 rw [show (scale 1 (s:Int)).toNat=s by unfold scale;simp]
 cases hb:(own p|||gV p).getLsbD s with
 | false=>rw [h.1 hb];rfl
 | true =>
  have:bw (p.ae.getD s 0)≠0:=fun e=>by rw [h.2 e] at hb;cases hb
  simpa using this
theorem Md {f t:Nat} (hf:f<64) (h64:t<64) (hown:(own p).getLsbD f=true) (hk:bw (p.ae.getD f 0)≠1):AM p f t=(gP (p,own p,gV p) f).getLsbD t:=by
 obtain ⟨b0,b1⟩:=eH hp f
 obtain ⟨m91,_,_,mm,mk⟩:=qX b0 b1
 have e1:=iu hp ht ht hf
 have e2:=iu hp ht ht h64
 have ho:aK p p.aa 0=own p:=rfl
 rw [ho] at e1 e2
 rw [hown] at e1
 have hocc:=fun s hs=>rp hp ht (s:=s) hs
 have hne:bw (p.ae.getD f 0)≠0:=fun e=>by
  have:=(rp hp ht hf).2 e
  rw [BitVec.getLsbD_or,hown] at this
  cases this
 have h26:2≤bw (p.ae.getD f 0)∧bw (p.ae.getD f 0)≤6:=by omega
 have hit:=Ir (p:=p) (occ:=own p|||gV p) hocc hf h64 h26
 have emp:=xR hp ht h64
 unfold AM gP
 dsimp only
 rw [e1,e2,show (scale 1 (f:Int)).toNat=f by unfold scale;simp,m91,hit,emp]
 unfold Cq
 have hft:((f:Int)==(t:Int))=decide (f=t):=by
  rw [Bool.eq_iff_iff];simp;omega
 rw [hft]
 generalize bw (p.ae.getD f 0)=k at *
 have hk':k=2∨k=3∨k=4∨k=5∨k=6:=by omega
 by_cases hts:f=t
 ·subst hts
  rw [decide_eq_true rfl]
  have hz:∀ X:BitVec 64,(X &&& ~~~own p).getLsbD f=false:=fun X=>by
   rw [BitVec.getLsbD_and,BitVec.getLsbD_not,hown];simp
  rcases hk' with rfl | rfl | rfl | rfl | rfl
  ·exact (hz _).symm
  ·exact (hz _).symm
  ·exact (hz _).symm
  ·exact (hz _).symm
  ·show false=(bif p.variant==3 then _ else _:BitVec 64).getLsbD f
   cases p.variant==3
   ·exact (hz _).symm
   ·exact (hz _).symm
 ·rw [decide_eq_false hts]
  have hz:∀ X:BitVec 64,(X &&& ~~~own p).getLsbD t=(!(own p).getLsbD t&&X.getLsbD t):=fun X=>by
   rw [BitVec.getLsbD_and,BitVec.getLsbD_not,Bool.and_comm];simp [h64]
  rcases hk' with rfl | rfl | rfl | rfl | rfl
  ·show (bif (own p).getLsbD t then false else (pD f).getLsbD t)=(pD f &&& ~~~own p).getLsbD t
   rw [hz];cases (own p).getLsbD t<;>rfl
  ·show (bif (own p).getLsbD t then false else (qY f (own p|||gV p)).getLsbD t)=(qY f (own p|||gV p) &&& ~~~own p).getLsbD t
   rw [hz];cases (own p).getLsbD t<;>rfl
  ·show (bif (own p).getLsbD t then false else (qO f (own p|||gV p)).getLsbD t)=(qO f (own p|||gV p) &&& ~~~own p).getLsbD t
   rw [hz];cases (own p).getLsbD t<;>rfl
  ·show (bif (own p).getLsbD t then false else (rL f (own p|||gV p)).getLsbD t)=(rL f (own p|||gV p) &&& ~~~own p).getLsbD t
   rw [hz];cases (own p).getLsbD t<;>rfl
  ·show (bif (own p).getLsbD t then false else (bif (cX f).getLsbD t then (bif p.variant != 3 then true else !(own p|||gV p).getLsbD t) else false))=(bif p.variant==3 then cX f &&& ~~~gV p &&& ~~~own p else cX f &&& ~~~own p).getLsbD t
   rw [BitVec.getLsbD_or]
   by_cases hv:p.variant=3
   ·rw [show (p.variant != 3)=false by simp [hv],show (p.variant==3)=true by simp [hv]]
    show _=(cX f &&& ~~~gV p &&& ~~~own p).getLsbD t
    rw [hz,BitVec.getLsbD_and,BitVec.getLsbD_not]
    simp only [h64,decide_true,Bool.true_and,cond_false]
    cases (own p).getLsbD t<;>cases (gV p).getLsbD t<;>cases (cX f).getLsbD t<;>rfl
   ·rw [show (p.variant != 3)=true by simpa using hv,show (p.variant==3)=false by simpa using hv]
    show _=(cX f &&& ~~~own p).getLsbD t
    rw [hz]
    cases (own p).getLsbD t<;>cases (cX f).getLsbD t<;>rfl
end
theorem AJ (x:BitVec 64) {k:Nat} (hk:k<64):(x >>> k&&&1#64==1#64)=x.getLsbD k:=by
 have h:(x >>> k&&&1#64).toNat=(x.getLsbD k).toNat:=by
  rw [BitVec.toNat_and,BitVec.toNat_ushiftRight,Nat.shiftRight_eq_div_pow,show (1#64).toNat=2 ^ 1-1 from rfl,Nat.and_two_pow_sub_one_eq_mod,BitVec.getLsbD,Nat.testBit_eq_decide_div_mod_eq]
  have:=Nat.mod_two_eq_zero_or_one (x.toNat / 2 ^ k)
  rcases this with h | h
  ·rw [show (2:Nat) ^ 1=2 from rfl,h];rfl
  ·rw [show (2:Nat) ^ 1=2 from rfl,h];rfl
 cases hb:x.getLsbD k with
 | true =>
  rw [hb] at h
  have:x >>> k&&&1#64=1#64:=BitVec.eq_of_toNat_eq h
  rw [this];rfl
 | false =>
  rw [hb] at h
  have:x >>> k&&&1#64=0#64:=BitVec.eq_of_toNat_eq h
  rw [this];rfl
theorem J9:∀ (c:Fin 2) (f t:Fin 64),cK 1 c.val f.val t.val false=(df c.val f.val).getLsbD t.val:=by decide +kernel
theorem sS:∀ (c:Fin 2) (f:Fin 64),fR c.val f.val=rh c.val f.val∧(fR c.val f.val≠7→0≤cV c.val f.val∧cV c.val f.val<64)∧cV c.val f.val=f.val+gz c.val∧(fR c.val f.val=1∨fR c.val f.val=0→cV c.val (cV c.val f.val)=f.val+2 * gz c.val∧0≤cV c.val (cV c.val f.val)∧cV c.val (cV c.val f.val)<64)∧(fR c.val f.val=7→cV c.val f.val<0∨64≤cV c.val f.val)∧(gz c.val=8∨gz c.val = -8):=by decide +kernel
theorem Fy:∀ (c:Fin 2) (f t:Fin 64),(df c.val f.val).getLsbD t.val=true→(t.val:Int)≠f.val+gz c.val∧(t.val:Int)≠f.val+2 * gz c.val:=by decide +kernel
theorem Kg {n:Int} (h0:0≤n) (h1:n<64) {t:Nat} (ht:t<64):(1#64 <<< (BitVec.ofInt 64 n).toNat).getLsbD t=decide ((t:Int)=n):=by
 rw [fP ht,cP h0 (by omega),Bool.eq_iff_iff]
 simp
 omega
noncomputable section
variable {p:Pos} (hp:aO p) (ht:p.aa=0∨p.aa=1)
include hp ht
theorem JB {f t:Nat} (hf:f<64) (h64:t<64) (hown:(own p).getLsbD f=true) (hk:bw (p.ae.getD f 0)=1):AM p f t=(gP (p,own p,gV p) f).getLsbD t:=by
 obtain ⟨b0,b1⟩:=eH hp f
 obtain ⟨m91,m0,m1,_,_⟩:=qX b0 b1
 have e1:=iu hp ht ht hf
 have e2:=iu hp ht ht h64
 have ho:aK p p.aa 0=own p:=rfl
 rw [ho] at e1 e2
 rw [hown] at e1
 have hcol:nn (p.ae.getD f 0)=p.aa:=by
  have:dn p.aa 0 (p.ae.getD f 0)=true:=by
   rw [← cm p p.aa 0 hf];exact hown
  rcases ht with h | h
  ·rw [h,m0] at this
   rw [h]
   simp only [E',beq_iff_eq] at this
   exact this.2
  ·rw [h,m1] at this
   rw [h]
   simp only [E',beq_iff_eq] at this
   exact this.2
 have w1:wr .u8 (1-p.aa)=1-p.aa:=o6 (by omega) (by omega)
 have e3:sJ p t (wr .u8 (1-p.aa))=(gV p).getLsbD t:=by
  rw [w1,iu hp ht (by omega) h64,GV hp ht]
 have hsf:(scale 1 (f:Int)).toNat=f:=by unfold scale;simp
 have emp:=fun s hs=>xR hp ht (s:=s) hs
 obtain ⟨c,hc⟩:∃ c:Fin 2,p.aa=c.val:=by
  rcases ht with h | h
  ·exact ⟨0,h⟩
  ·exact ⟨1,h⟩
 have hat:=J9 c ⟨f,hf⟩ ⟨t,h64⟩
 obtain ⟨r1,r2,r3,r4,r5,r6⟩:=sS c ⟨f,hf⟩
 have hz:=Fy c ⟨f,hf⟩ ⟨t,h64⟩
 simp only at hat r1 r2 r3 r4 r5 r6 hz
 rw [← hc] at hat r1 r2 r3 r4 r5 r6 hz
 have hA:nz p f t=(df p.aa f).getLsbD t:=by
  rw [rF,hsf,hk,hcol,← hat]
  rfl
 have p0:=hp.p0
 have p1:=hp.p1
 have wp:wr .i64 p.ah=p.ah:=aN (by omega) (by omega)
 have hP:(pL (p,own p,gV p)).getLsbD t=(p.ah==(t:Int)):=by
  unfold pL
  refine au (P:=fun x:BitVec 64=>x.getLsbD t=_) (fun h=>?_) fun h=>au (P:=fun x:BitVec 64=>x.getLsbD t=_) (fun h2=>?_) fun h2=>?_
  ·have h:p.ah<0:=by simpa using h
   rw [show (p.ah==(t:Int))=false by simp;omega];simp
  ·have h2:p.ah≥64:=by simpa using h2
   rw [show (p.ah==(t:Int))=false by simp;omega];simp
  ·have h:0≤p.ah:=by simpa using h
   have h2:p.ah<64:=by simpa using h2
   show (1#64 <<< (BitVec.ofInt 64 p.ah).toNat).getLsbD t=_
   rw [Kg h h2 h64,Bool.eq_iff_iff]
   simp
   omega
 unfold AM gP
 dsimp only
 rw [e1,e2,hsf,m91,hk]
 show (bif (f:Int)==(t:Int) then false else bif (own p).getLsbD t then false else Lv p f t)=(AA (p,own p,gV p) f &&& ~~~own p).getLsbD t
 rw [BitVec.getLsbD_and,BitVec.getLsbD_not]
 by_cases hft:f=t
 ·subst hft
  rw [hown];simp
 ·rw [show ((f:Int)==(t:Int))=false by simp;omega,cond_false]
  cases hW:(own p).getLsbD t with
  | true=>simp
  | false =>
   simp only [cond_false,h64,decide_true,Bool.not_false,Bool.and_true]
   have hoc:(own p|||gV p).getLsbD t=(gV p).getLsbD t:=by rw [BitVec.getLsbD_or,hW,Bool.false_or]
   unfold Lv AA
   dsimp only
   rw [hA,e3,wp,← r1]
   have wup:wr .i64 ((f:Int)+gz p.aa)=f+gz p.aa:=aN (by omega) (by omega)
   have wup2:wr .i64 (2 * gz p.aa)=2 * gz p.aa:=aN (by omega) (by omega)
   have wup3:wr .i64 ((f:Int)+2 * gz p.aa)=f+2 * gz p.aa:=aN (by omega) (by omega)
   rw [wup2,wup,wup3,show (Pos.mk p.variant p.ae p.ab p.af p.aa p.ai p.ah p.ag p.half p.full,own p,gV p)=(p,own p,gV p) from rfl]
   have hatt:∀ X:BitVec 64,X=df p.aa f&&&(gV p|||pL (p,own p,gV p))→X.getLsbD t=((df p.aa f).getLsbD t&&((gV p).getLsbD t || (p.ah==(t:Int)))):=fun X hX=>by
    rw [hX,BitVec.getLsbD_and,BitVec.getLsbD_or,hP]
   generalize hXX:df p.aa f&&&(gV p|||pL (p,own p,gV p))=X at *
   have hatt:=hatt X rfl
   have hpass:(p.ah==(t:Int))=((p.ah:Int)==t):=rfl
   generalize (df p.aa f).getLsbD t=A at *
   by_cases h7:fR p.aa f=7
   ·rw [h7]
    have:=r5 h7
    rw [show ((7:Int)==7)=true from rfl,cond_true,hatt,emp t h64,hoc]
    cases A
    ·rw [show ((t:Int)==(f:Int)+gz p.aa)=false by simp;omega]
     cases ((t:Int)==(f:Int)+2 * gz p.aa)<;>rfl
    ·cases (gV p).getLsbD t<;>cases (p.ah==(t:Int))<;>rfl
   ·obtain ⟨a0,a1⟩:=r2 h7
    rw [show (fR p.aa f==7)=false by simpa using h7,cond_false,cP a0 (by omega),AJ _ (by omega)]
    obtain ⟨s,hs⟩:=Int.eq_ofNat_of_zero_le a0
    have hs64:s<64:=by omega
    rw [show (cV p.aa f).toNat=s by omega,show (f:Int)+gz p.aa=(s:Int) by omega,emp s hs64,emp t h64]
    have hb1:(1#64 <<< s).getLsbD t=((t:Int)==(s:Int)):=by
     rw [fP h64,Bool.eq_iff_iff];simp;omega
    have hb2:(fR p.aa f=1∨fR p.aa f=0)→(1#64 <<< (BitVec.ofInt 64 (cV p.aa (cV p.aa f))).toNat).getLsbD t=((t:Int)==(f:Int)+2 * gz p.aa):=fun h=>by
     obtain ⟨c1,c2,c3⟩:=r4 h
     rw [Kg c2 c3 h64,c1,Bool.eq_iff_iff]
     simp
    generalize 1#64 <<< (BitVec.ofInt 64 (cV p.aa (cV p.aa f))).toNat=Y at hb2 ⊢
    have q1:((t:Int)==(s:Int))=true→A=false∧(own p|||gV p).getLsbD t=(own p|||gV p).getLsbD s:=fun h=>by
     have h:(t:Int)=s:=by simpa using h
     refine ⟨?_,by rw [show t=s by omega]⟩
     cases hA':A with
     | false=>rfl
     | true=>exact absurd (by omega) (hz hA').1
    have q2:((t:Int)==(f:Int)+2 * gz p.aa)=true→A=false:=fun h=>by
     have h:(t:Int)=f+2 * gz p.aa:=by simpa using h
     cases hA':A with
     | false=>rfl
     | true=>exact absurd h (hz hA').2
    generalize ((t:Int)==(s:Int))=u at *
    generalize ((t:Int)==(f:Int)+2 * gz p.aa)=u2 at *
    have rhs1:(X|||1#64 <<< s).getLsbD t=(X.getLsbD t || u):=by rw [BitVec.getLsbD_or,hb1]
    have rhs2:(fR p.aa f=1∨fR p.aa f=0)→(X|||1#64 <<< s|||Y &&& ~~~(own p|||gV p)).getLsbD t=(X.getLsbD t || u || (u2&&!(own p|||gV p).getLsbD t)):=fun h=>by
     rw [BitVec.getLsbD_or,BitVec.getLsbD_or,BitVec.getLsbD_and,BitVec.getLsbD_not,hb1,hb2 h]
     simp only [h64,decide_true,Bool.true_and]
    generalize (own p|||gV p).getLsbD t=ot at *
    generalize (own p|||gV p).getLsbD s=os at *
    generalize (gV p).getLsbD t=O at *
    generalize (p.ah==(t:Int))=P at *
    by_cases g1:fR p.aa f=1
    ·rw [show (fR p.aa f==1)=true by simpa using g1]
     simp only [cond_true]
     cases os
     ·rw [cond_false,rhs2 (.inl g1),hatt]
      revert q1 q2
      cases A<;>cases u<;>cases u2<;>cases ot<;>cases O<;>cases P<;>simp
     ·rw [cond_true,hatt]
      revert q1 q2
      cases A<;>cases u<;>cases u2<;>cases ot<;>cases O<;>cases P<;>simp
    ·rw [show (fR p.aa f==1)=false by simpa using g1]
     simp only [cond_false]
     by_cases g0:fR p.aa f=0
     ·rw [show (fR p.aa f==0)=true by simpa using g0]
      simp only [cond_true]
      cases hv:(p.variant==7)<;>cases htn:(p.aa==0)<;>cases os<;>simp only [cond_true,cond_false,rhs1,rhs2 (.inr g0),hatt]<;>revert q1 q2<;>cases A<;>cases u<;>cases u2<;>cases ot<;>cases O<;>cases P<;>simp
     ·rw [show (fR p.aa f==0)=false by simpa using g0]
      simp only [cond_false]
      cases os
      ·rw [cond_false,rhs1,hatt]
       revert q1 q2
       cases A<;>cases u<;>cases u2<;>cases ot<;>cases O<;>cases P<;>simp
      ·rw [cond_true,hatt]
       revert q1 q2
       cases A<;>cases u<;>cases u2<;>cases ot<;>cases O<;>cases P<;>simp
end
end Kz
end
noncomputable section
namespace Kz
open Go Go.RowKit Go.Proofs
def K19:KT:=[(19,11,[(0,[1,7,8,9]),(1,[2])])]
def B19:aw:=bO Pz K19 [] [] []
theorem agP:aV B19:=ak aj trivial trivial trivial
def yj (a:Pos):Bool:=(bif decide (a.variant<9) then (decide (a.aa<2)) else (false))
def ae7 (a:Pos):Bool:=true
theorem P19 (a:Pos) (h:ae7 a=true):PS Pz 19 [Pos.av a] (dB.res (yj a)):=pq14 agP h
def LP:GT:=g1 aY (fun a=>.ret (dB.res (yj a)))
theorem No:Sound Pz 19 LP:=aF fun a=>bK (P19 a rfl)
def K95:KT:=[(95,11,[(0,[0]),(1,[0,3]),(2,[2]),(3,[7]),(4,[2]),(5,[2])])]
def B95:aw:=bO Pz K95 [] [] []
theorem afU:aV B95:=ak aj trivial trivial trivial
def wh (a:Int):List Int:=(bif a==4 then [(2),(3),(4),(5),(6)] else (bif decide (a<8) then [(2),(3),(4),(5)] else ([])))
def ach (a:Int):Bool:=true
theorem P95 (a:Int) (h:ach a=true):PS Pz 95 [.int .u8 a] ((dL (.i .u8)).res (wh a)):=pq14 afU h
def Rx:GT:=g1 (dI .u8) (fun a=>.ret ((dL (.i .u8)).res (wh a)))
theorem Vt:Sound Pz 95 Rx:=aF fun a=>bK (P95 a rfl)
def K38:KT:=[(38,67,[(0,(1::(rn 38 5 []))),(1,(1::3::(rn 38 5 []))),(2,(1::3::11::(rn 38 5 []))),(3,[2]),(4,(1::3::4::(rn 38 5 []))),(5,(1::3::4::14::(rn 38 5 []))),(6,(1::3::4::(rn 38 5 []))),(7,(1::3::4::5::(rn 38 5 []))),(8,(1::3::4::5::18::(rn 38 5 []))),(9,(1::3::4::5::(rn 38 5 []))),(10,(1::3::4::5::25::(rn 38 5 []))),(11,(1::(rn 3 4 (rn 38 5 [])))),(12,(1::(rn 3 4 (rn 38 6 [])))),(13,(1::3::4::5::(rn 38 5 []))),(14,(1::(rn 3 5 (rn 38 5 [])))),(15,(1::(rn 3 6 (rn 38 5 [])))),(16,(1::(rn 3 6 (rn 38 5 [54])))),(17,(1::(rn 3 6 (rn 38 5 [])))),(18,(1::(rn 3 6 (rn 38 5 [])))),(19,(1::(rn 3 6 (rn 38 5 [])))),(20,[2])])]
def ZC:aw:=bO Pz K38 [(19,LP),(82,mz),(93,VC),(94,Mi),(95,Rx)] [] []
theorem UZ:aV ZC:=ak aj ⟨No,mN,Wd,OY,Vt,trivial⟩ trivial trivial
def Pf (p1:Int) (p2:Int) (p3:Z') (p4:Int) (p5:Int) (p6:Bool) (p7:Pos) (p8:Nat) (x:(M'×Int×Mv)):St:=St.mk (.any::.ptr 0 0::.any::.list .mv x.1 (.own 1)::.int .i64 p1::.int .i64 p2::.ptr 1 0::.list (ET.i .u8) p3 .fresh::.int .i64 x.2.1::(an 29 (.ptr 0 78::.int .u8 p4::.int .i64 p2::.int .i64 p5::.bool p6::(an 24 [])))) (Hp.mk [(pc p7 []),[.int .i8 x.2.2.az,.int .i8 x.2.2.to,.int .u8 x.2.2.bP,.int .u8 x.2.2.aW,.bool x.2.2.bS]] [p8,x.1.length] [] 0 0 0)
def Q2 (p1:Int) (p2:Int) (p3:Z') (p4:Int) (p5:Int) (p6:Bool) (p7:Pos) (p8:Nat):(M'×Int×Bool×Mv)→Out:=fun y=>.exit 4 (St.mk (.any::.ptr 0 0::.any::.list .mv y.1 (.own 1)::.int .i64 p1::.int .i64 p2::.ptr 1 0::.list (ET.i .u8) p3 .fresh::.int .i64 y.2.1::(an 29 (.ptr 0 78::.int .u8 p4::.int .i64 p2::.int .i64 p5::.bool p6::(an 11 (.bool y.2.2.1::(an 12 [])))))) (Hp.mk [(pc p7 []),[.int .i8 y.2.2.2.az,.int .i8 y.2.2.2.to,.int .u8 y.2.2.2.bP,.int .u8 y.2.2.2.aW,.bool y.2.2.2.bS]] [p8,y.1.length] [] 0 0 0))
def Vf (p1:Int) (p2:Int) (p3:Z') (p4:Int) (p5:Int) (p6:Bool) (p7:Pos) (p8:Nat) (x:(M'×Int×Mv)):aI (M'×Int×Mv) ((M'×Int×Bool×Mv)):=(bif decide (x.2.1<Int.ofNat p3.length) then (aI.go (x.1++[Mv.mk x.2.2.az x.2.2.to (p3.getD x.2.1.toNat default) x.2.2.aW x.2.2.bS],wr .i64 (x.2.1+1),Mv.mk x.2.2.az x.2.2.to (p3.getD x.2.1.toNat default) x.2.2.aW x.2.2.bS)) else (aI.out ((x.1,x.2.1,decide (x.2.1<Int.ofNat p3.length),x.2.2))))
def LV (p1:Int) (p2:Int) (p3:Z') (p4:Int) (p5:Int) (p6:Bool) (p7:Pos) (p8:Nat) (x:(M'×Int×Mv)):Bool:=(bif decide (x.2.1<Int.ofNat p3.length) then (decide (0≤x.2.1)&&decide (x.2.1<Int.ofNat p3.length)&&(x.1.length==x.1.length&&decide (x.1.length+1≤1073741824)&&true)) else true)
def uw (p1:Int) (p2:Int) (p3:Z') (p4:Int) (p5:Int) (p6:Bool) (p7:Pos) (p8:Nat) (x:(M'×Int×Mv)):Option ((M'×Int×Bool×Mv)):=da (fun x=>bif LV p1 p2 p3 p4 p5 p6 p7 p8 x then Vf p1 p2 p3 p4 p5 p6 p7 p8 x else .bad) many x
abbrev PC {α:Type} (k:Int→Int→Z'→Int→Int→Bool→Pos→Nat→(M'×Int×Mv)→α) (s:St):α:=wP s 0 fun q0=>wM s 1 fun q1=>k (tI (tT s 4)) (tI (tT s 5)) (tL (ET.i .u8) (tT s 7)) (tI (tT s 39)) (tI (tT s 41)) (tB (tT s 42)) q0 (tK s 0) ((tL (ET.mv) (tT s 3)),(tI (tT s 8)),q1)
theorem aab (p1:Int) (p2:Int) (p3:Z') (p4:Int) (p5:Int) (p6:Bool) (p7:Pos) (p8:Nat) (x:(M'×Int×Mv)) (r:(M'×Int×Bool×Mv)) (h:uw p1 p2 p3 p4 p5 p6 p7 p8 x=some r):aB Pz (bj Pz 38 16) (Pf p1 p2 p3 p4 p5 p6 p7 p8 x) (Q2 p1 p2 p3 p4 p5 p6 p7 p8 r):=smq (m:=12) (fn:=38) UZ (PC fun _ _ _ _ _ _ _ _ x=>some x) (fun o=>match o with | .exit 4 s=>wM s 1 fun q1=>some ((tL ET.mv (tT s 3)),(tI (tT s 8)),(tB (tT s 54)),q1) | _=>none) many x r h
def CU (b:Code) (s:St):Tr Out:=PC (fun p1 p2 p3 p4 p5 p6 p7 p8 x=>mH b (bj Pz 38 16) s (Pf p1 p2 p3 p4 p5 p6 p7 p8 x) (uw p1 p2 p3 p4 p5 p6 p7 p8 x) (Q2 p1 p2 p3 p4 p5 p6 p7 p8)) s
theorem Bt:∀ b,aZ Pz b (CU b):=fun _ _ _ h=>bX (aab _ _ _ _ _ _ _ _ _) h
def VQ:aw:=bO Pz K38 [(19,LP),(82,mz),(93,VC),(94,Mi),(95,Rx)] [(38,16,CU)] []
theorem Uw:aV VQ:=ak aj ⟨No,mN,Wd,OY,Vt,trivial⟩ ⟨Bt,trivial⟩ trivial
def QY (p1:Int) (p2:Pos) (p3:Nat) (x:(M'×Int)):St:=St.mk (.any::.ptr 0 0::.any::.list .mv x.1 (.own 1)::.int .i64 p1::.int .i64 x.2::(an 61 [])) (Hp.mk [(pc p2 [])] [p3,x.1.length] [] 0 0 0)
def Pa (p1:Int) (p2:Pos) (p3:Nat):(M'×Int×Bool)→Out:=fun y=>.exit 2 (St.mk (.any::.ptr 0 0::.any::.list .mv y.1 (.own 1)::.int .i64 p1::.int .i64 y.2.1::(an 12 (.bool y.2.2::(an 48 [])))) (Hp.mk [(pc p2 [])] [p3,y.1.length] [] 0 0 0))
def Lr (p1:Int) (p2:Pos) (p3:Nat) (x:(M'×Int)):aI (M'×Int) ((M'×Int×Bool)):=(bif decide (x.2<64) then (bif !AM p2 p1 x.2 then (aI.go (x.1,wr .i64 (x.2+1))) else (bif bw (p2.ae.getD (scale 1 p1).toNat 0) != 1 then (aI.go (x.1++[Mv.mk (wr .i8 p1) (wr .i8 x.2) 0 0 false],wr .i64 (x.2+1))) else (bif rh p2.aa x.2 != 7 then (aI.go (x.1++[Mv.mk (wr .i8 p1) (wr .i8 x.2) 0 0 false],wr .i64 (x.2+1))) else (aI.go (((uw p1 x.2 (wh p2.variant) p2.aa (rh p2.aa x.2) (rh p2.aa x.2 != 7) p2 p3 (x.1,0,Mv.mk (wr .i8 p1) (wr .i8 x.2) 0 0 false)).getD default).1,wr .i64 (x.2+1)))))) else (aI.out ((x.1,x.2,decide (x.2<64)))))
def DH (p1:Int) (p2:Pos) (p3:Nat) (x:(M'×Int)):Bool:=(bif decide (x.2<64) then (Ft (p2) (p1) (x.2)&&(bif !AM p2 p1 x.2 then true else (decide (0≤p1)&&decide (p1<Int.ofNat 64)&&(bif bw (p2.ae.getD (scale 1 p1).toNat 0) != 1 then (x.1.length==x.1.length&&decide (x.1.length+1≤1073741824)&&true) else (bif rh p2.aa x.2 != 7 then (x.1.length==x.1.length&&decide (x.1.length+1≤1073741824)&&true) else ((uw p1 x.2 (wh p2.variant) p2.aa (rh p2.aa x.2) (rh p2.aa x.2 != 7) p2 p3 (x.1,0,Mv.mk (wr .i8 p1) (wr .i8 x.2) 0 0 false)).isSome&&true)))))) else true)
def ud (p1:Int) (p2:Pos) (p3:Nat) (x:(M'×Int)):Option ((M'×Int×Bool)):=da (fun x=>bif DH p1 p2 p3 x then Lr p1 p2 p3 x else .bad) many x
abbrev Q3 {α:Type} (k:Int→Pos→Nat→(M'×Int)→α) (s:St):α:=wP s 0 fun q0=>k (tI (tT s 4)) q0 (tK s 0) ((tL (ET.mv) (tT s 3)),(tI (tT s 5)))
theorem Yz (p1:Int) (p2:Pos) (p3:Nat) (x:(M'×Int)) (r:(M'×Int×Bool)) (h:ud p1 p2 p3 x=some r):aB Pz (bj Pz 38 8) (QY p1 p2 p3 x) (Pa p1 p2 p3 r):=smq (m:=12) (fn:=38) Uw (Q3 fun _ _ _ x=>some x) (fun o=>match o with | .exit 2 s=>some ((tL ET.mv (tT s 3)),(tI (tT s 5)),(tB (tT s 18))) | _=>none) many x r h
def Jl (b:Code) (s:St):Tr Out:=Q3 (fun p1 p2 p3 x=>mH b (bj Pz 38 8) s (QY p1 p2 p3 x) (ud p1 p2 p3 x) (Pa p1 p2 p3)) s
theorem HZ:∀ b,aZ Pz b (Jl b):=fun _ _ _ h=>bX (Yz _ _ _ _) h
def Xl:aw:=bO Pz K38 [(19,LP),(82,mz),(93,VC),(94,Mi),(95,Rx)] [(38,16,CU),(38,8,Jl)] []
theorem UL:aV Xl:=ak aj ⟨No,mN,Wd,OY,Vt,trivial⟩ ⟨Bt,HZ,trivial⟩ trivial
def P6 (p1:Pos) (p2:Nat) (x:(M'×Int)):St:=St.mk (.any::.ptr 0 0::.any::.list .mv x.1 (.own 1)::.int .i64 x.2::(an 62 [])) (Hp.mk [(pc p1 [])] [p2,x.1.length] [] 0 0 0)
def Pg (p1:Pos) (p2:Nat):(M'×Int×Bool)→Out:=fun y=>.exit 0 (St.mk (.any::.ptr 0 0::.any::.list .mv y.1 (.own 1)::.int .i64 y.2.1::(an 9 (.bool y.2.2::(an 52 [])))) (Hp.mk [(pc p1 [])] [p2,y.1.length] [] 0 0 0))
def Gg (p1:Pos) (p2:Nat) (x:(M'×Int)):aI (M'×Int) ((M'×Int×Bool)):=(bif decide (x.2<64) then (aI.go (((ud x.2 p1 p2 (x.1,0)).getD default).1,wr .i64 (x.2+1))) else (aI.out ((x.1,x.2,decide (x.2<64)))))
def Dz (p1:Pos) (p2:Nat) (x:(M'×Int)):Bool:=(bif decide (x.2<64) then ((ud x.2 p1 p2 (x.1,0)).isSome&&true) else true)
def nc (p1:Pos) (p2:Nat) (x:(M'×Int)):Option ((M'×Int×Bool)):=da (fun x=>bif Dz p1 p2 x then Gg p1 p2 x else .bad) many x
abbrev Qa {α:Type} (k:Pos→Nat→(M'×Int)→α) (s:St):α:=wP s 0 fun q0=>k q0 (tK s 0) ((tL (ET.mv) (tT s 3)),(tI (tT s 4)))
theorem W6 (p1:Pos) (p2:Nat) (x:(M'×Int)) (r:(M'×Int×Bool)) (h:nc p1 p2 x=some r):aB Pz (bj Pz 38 5) (P6 p1 p2 x) (Pg p1 p2 r):=smq (m:=12) (fn:=38) UL (Qa fun _ _ x=>some x) (fun o=>match o with | .exit 0 s=>some ((tL ET.mv (tT s 3)),(tI (tT s 4)),(tB (tT s 14))) | _=>none) many x r h
def O1 (b:Code) (s:St):Tr Out:=Qa (fun p1 p2 x=>mH b (bj Pz 38 5) s (P6 p1 p2 x) (nc p1 p2 x) (Pg p1 p2)) s
theorem Rv:∀ b,aZ Pz b (O1 b):=fun _ _ _ h=>bX (W6 _ _ _) h
def B38:aw:=bO Pz K38 [(19,LP),(82,mz),(93,VC),(94,Mi),(95,Rx)] [(38,16,CU),(38,8,Jl),(38,5,O1)] []
theorem ahV:aV B38:=ak aj ⟨No,mN,Wd,OY,Vt,trivial⟩ ⟨Bt,HZ,Rv,trivial⟩ trivial
def FF (a:Pos):M':=(bif !yj a then ([]) else (((nc a 0 ([],0)).getD default).1))
def Hd (a:Pos):Bool:=(bif !yj a then true else ((nc a 0 ([],0)).isSome&&true))
theorem P38 (a:Pos) (h:Hd a=true):PS Pz 38 [Pos.av a] ((dL .mv).res (FF a)):=pq14 ahV h
def G38:GT:=g1 aY (fun a=>cg (Hd a) ((dL .mv).res (FF a)))
theorem s38:Sound Pz 38 G38:=aF fun a=>ay (P38 a)
end Kz
end
noncomputable section
namespace Kz
open Go Go.RowKit
theorem KM:∀ a b:Fin 64,(bV BinOp.neq ((yg a.val b.val==0)==(bZ (uV a.val b.val)==0))=true→kG a.val b.val=true)∧((bZ (yg a.val b.val)==bZ (uV a.val b.val))=true→decide (bZ (uV a.val b.val)>0)=true→kH a.val b.val=true):=by decide +kernel
noncomputable section
variable {p:Pos} (hp:aO p) (ht:p.aa=0∨p.aa=1)
include hp ht
theorem t207 {a b:Nat} (ha:a<64) (h:kG a b=true∨kH a b=true):lg p a b=true:=by
 have hocc:=fun s hs=>rp hp ht (s:=s) hs
 have:∃ d,d<8∧b∈je a d:=by
  unfold kG kH at h
  simp only [Bool.or_eq_true,decide_eq_true_eq] at h
  rcases h with (((h | h) | h) | h) | (((h | h) | h) | h)
  ·exact ⟨0,by decide,h⟩
  ·exact ⟨2,by decide,h⟩
  ·exact ⟨4,by decide,h⟩
  ·exact ⟨6,by decide,h⟩
  ·exact ⟨1,by decide,h⟩
  ·exact ⟨3,by decide,h⟩
  ·exact ⟨5,by decide,h⟩
  ·exact ⟨7,by decide,h⟩
 obtain ⟨d,hd,hb⟩:=this
 exact (ml p hocc ha hd hb).1
theorem t154 {a b:Nat} (ha:a<64) (hb:b<64):ob p a b=true:=by
 obtain ⟨l1,l2⟩:=KM ⟨a,ha⟩ ⟨b,hb⟩
 simp only [yg,uV] at l1 l2
 have k1:=fun h=>t207 hp ht ha (.inl (l1 h))
 have k2:=fun h h'=>t207 hp ht ha (.inr (l2 h h'))
 have ki:(decide (0≤(a:Int))&&decide ((a:Int)<Int.ofNat 64))=true:=by simp;omega
 unfold ob
 refine ao ki fun _=>aq (fun e=>?_) fun e=>?_
 all_goals repeat' (first | with_reducible rfl | exact k1 (by assumption) | exact k2 (by assumption) (by assumption) | refine ao ?_ (fun _=>?_) | refine aq (fun _=>?_) (fun _=>?_))
theorem t97 {b:Nat} (hb:b<64):pB p b=true:=by
 unfold pB
 simp
 omega
theorem t151 {b:Nat} (hb:b<64) (c:Int):qE p b c=true:=by
 unfold qE
 refine ao (t97 hp ht hb) fun _=>aq (fun _=>?_) fun _=>rfl
 simp
 omega
theorem t157 {a b:Nat} (ha:a<64) (hb:b<64):zP p a b=true:=by
 obtain ⟨c,hc⟩:∃ c:Fin 2,p.aa=c.val:=by
  rcases ht with h | h
  ·exact ⟨0,h⟩
  ·exact ⟨1,h⟩
 obtain ⟨r1,r2,r3,r4,r5,r6⟩:=sS c ⟨a,ha⟩
 simp only at r1 r2 r3 r4 r5 r6
 rw [← hc] at r1 r2 r3 r4 r5 r6
 have wup:wr .i64 ((a:Int)+gz p.aa)=a+gz p.aa:=aN (by omega) (by omega)
 have k1:=t154 hp ht ha hb
 have k2:=t151 hp ht hb (wr IntKind.u8 (1-p.aa))
 have k3:=t97 hp ht hb
 have k4:fR p.aa a≠7→pB p ((a:Int)+gz p.aa)=true:=fun h=>by
  obtain ⟨c1,c2⟩:=r2 h
  obtain ⟨s,hs⟩:=Int.eq_ofNat_of_zero_le c1
  rw [← r3,hs]
  exact t97 hp ht (by omega)
 unfold zP
 rw [wup,← r1]
 refine ao k1 fun _=>aq (fun _=>ao k2 fun _=>rfl) fun _=>aq (fun _=>ao k3 fun _=>rfl) fun _=>aq (fun h=>?_) fun _=>aq (fun h=>?_) fun _=>rfl
 ·have h1:fR p.aa a=1:=by simpa using h
  have k5:=k4 (by omega)
  exact aq (fun _=>ao k5 fun _=>aq (fun _=>ao k3 fun _=>rfl) fun _=>rfl) fun _=>rfl
 ·have h0:fR p.aa a=0:=by simpa using h
  have k5:=k4 (by omega)
  exact aq (fun _=>aq (fun _=>aq (fun _=>ao k5 fun _=>aq (fun _=>ao k3 fun _=>rfl) fun _=>rfl) fun _=>rfl) fun _=>rfl) fun _=>rfl
theorem t93 {a b:Nat} (ha:a<64) (hb:b<64):Ft p a b=true:=by
 have ki:(decide (0≤(a:Int))&&decide ((a:Int)<Int.ofNat 64))=true:=by simp;omega
 have k1:=t154 hp ht ha hb
 have k2:=t151 hp ht ha p.aa
 have k3:=t151 hp ht hb p.aa
 have k4:=t157 hp ht ha hb
 have k5:=t97 hp ht hb
 unfold Ft
 repeat' (first | with_reducible rfl | with_reducible exact ki | with_reducible exact k1 | with_reducible exact k2 | with_reducible exact k3 | with_reducible exact k4 | with_reducible exact k5 | refine ao ?_ (fun _=>?_) | refine aq (fun _=>?_) (fun _=>?_))
end
def fp (p:Pos) (a b:Nat):M' :=
 bif !AM p a b then [] else bif bw (p.ae.getD a 0) != 1 then [⟨a,b,0,0,false⟩] else bif rh p.aa b != 7 then [⟨a,b,0,0,false⟩] else (wh p.variant).map fun k=>⟨a,b,k,0,false⟩
theorem yB (p:Pos) (a b:Nat):(fp p a b).length≤5:=by
 unfold fp
 refine au (P:=fun l:M'=>l.length≤5) (fun _=>by simp) fun _=>au (P:=fun l:M'=>l.length≤5) (fun _=>by simp) fun _=>au (P:=fun l:M'=>l.length≤5) (fun _=>by simp) fun _=>?_
 rw [List.length_map]
 unfold wh
 exact au (P:=fun l:List Int=>l.length≤5) (fun _=>by simp) fun _=>au (P:=fun l:List Int=>l.length≤5) (fun _=>by simp) fun _=>by simp
theorem Z4 (l:List Int) (p1 p2 p4 p5:Int) (p6:Bool) (p7:Pos) (p8:Nat) (m0:Mv) (out:M') (hl:l.length≤5) (ho:out.length≤1000000) :
  ∃ r,uw p1 p2 l p4 p5 p6 p7 p8 (out,0,m0)=some r∧r.1=out++l.map fun k=>⟨m0.az,m0.to,k,m0.aW,m0.bS⟩:=by
 refine bh (I:=fun x=>0≤x.2.1∧x.2.1≤(l.length:Int)∧x.1=out++(l.take x.2.1.toNat).map (fun k=>(⟨m0.az,m0.to,k,m0.aW,m0.bS⟩:Mv))∧x.2.2.az=m0.az∧x.2.2.to=m0.to∧x.2.2.aW=m0.aW∧x.2.2.bS=m0.bS) (μ:=fun x=>((l.length:Int)-x.2.1).toNat) ?_ _ ⟨by simp,by simp,by simp,rfl,rfl,rfl,rfl⟩ (by simp;omega)
 rintro ⟨o,n,m⟩ ⟨h0,h1,h2,e1,e2,e3,e4⟩
 simp only at h0 h1 h2 e1 e2 e3 e4
 by_cases hc:n<l.length
 ·have hlt:n.toNat<l.length:=by omega
  have hol:o.length≤1000005:=by
   rw [h2];simp;omega
  refine ⟨aq (fun _=>ao (by simp [h0];exact hc) fun _=>?_) fun _=>rfl,au (fun _=>?_) fun h=>absurd h (by simpa using hc)⟩
  ·simp;omega
  ·rw [aN (n:=n+1) (by omega) (by omega)]
   refine ⟨⟨by show 0≤n+1;omega,by show n+1≤_;omega,?_,e1,e2,e3,e4⟩,by show ((l.length:Int)-(n+1)).toNat<((l.length:Int)-n).toNat;omega⟩
   show o++[_]=out++(l.take (n+1).toNat).map _
   rw [show (n+1).toNat=n.toNat+1 by omega,List.take_succ_eq_append_getElem hlt,List.map_append,h2,List.append_assoc,e1,e2,e3,e4]
   simp only [List.map_cons,List.map_nil]
   rw [List.getD_eq_getElem?_getD,I' hlt]
   rfl
 ·refine ⟨aq (fun h=>absurd h (by simpa using hc)) fun _=>rfl,au (fun h=>absurd h (by simpa using hc)) fun _=>?_⟩
  show o=_
  rw [h2,List.take_of_length_le (show l.length≤n.toNat by omega)]
end Kz
end
noncomputable section
namespace Kz
open Go Go.RowKit Go.Proofs
def K81:KT:=[(81,48,[(0,(1::2::3::12::13::16::17::(rn 28 7 (rn 37 4 [])))),(1,(1::2::3::7::12::13::16::17::(rn 28 7 (rn 37 4 [])))),(2,(1::2::3::7::8::12::13::16::17::(rn 28 7 (rn 37 4 [])))),(3,(1::2::3::7::8::12::13::16::17::18::(rn 28 7 (rn 37 4 [])))),(4,(1::2::3::7::8::12::13::16::17::(rn 28 7 (rn 37 4 [])))),(5,(1::2::3::7::8::12::13::16::17::(rn 28 7 (rn 37 5 [])))),(6,(1::2::3::7::8::12::13::16::17::(rn 28 7 (rn 37 4 [])))),(7,[6])])]
def aaM:aw:=bO Pz K81 [(82,mz),(83,PV),(154,Ci)] [] []
theorem Un:aV aaM:=ak aj ⟨mN,Ux,Ed,trivial⟩ trivial trivial
def QT (p1:Int) (p2:Int) (p3:Pos) (x:((BitVec 64)×Int)):St:=St.mk (.any::.int .i64 p1::.int .u8 p2::.ptr 0 0::(an 3 (.u64 x.1::.int .i64 x.2::(an 39 [])))) (Hp.mk [(pc p3 [])] [] [] 0 0 0)
def P8 (p1:Int) (p2:Int) (p3:Pos):((BitVec 64)×Int×Bool)→Out:=fun y=>.exit 0 (St.mk (.any::.int .i64 p1::.int .u8 p2::.ptr 0 0::(an 3 (.u64 y.1::.int .i64 y.2.1::(an 9 (.bool y.2.2::(an 29 [])))))) (Hp.mk [(pc p3 [])] [] [] 0 0 0))
def I1 (p1:Int) (p2:Int) (p3:Pos) (x:((BitVec 64)×Int)):aI ((BitVec 64)×Int) (((BitVec 64)×Int×Bool)):=(bif decide (x.2<64) then (bif decide (p1≥0) then (bif decide (p1<64) then (bif bw (p3.ae.getD (scale 1 x.2).toNat 0) != 0 then (bif nn (p3.ae.getD (scale 1 x.2).toNat 0)==p2 then (bif nz p3 x.2 p1 then (aI.go (x.1|||1#64 <<< (BitVec.ofInt 64 x.2).toNat,wr .i64 (x.2+1))) else (aI.go (x.1,wr .i64 (x.2+1)))) else (aI.go (x.1,wr .i64 (x.2+1)))) else (aI.go (x.1,wr .i64 (x.2+1)))) else (aI.out ((x.1,x.2,decide (p1<64))))) else (aI.out ((x.1,x.2,false)))) else (aI.out ((x.1,x.2,false))))
def CX (p1:Int) (p2:Int) (p3:Pos) (x:((BitVec 64)×Int)):Bool:=(bif decide (x.2<64) then (bif decide (p1≥0) then (bif decide (p1<64) then (decide (0≤x.2)&&decide (x.2<Int.ofNat 64)&&(bif bw (p3.ae.getD (scale 1 x.2).toNat 0) != 0 then (decide (0≤x.2)&&decide (x.2<Int.ofNat 64)&&(bif nn (p3.ae.getD (scale 1 x.2).toNat 0)==p2 then (ob (p3) (x.2) (p1)&&true) else true)) else true)) else true) else true) else true)
def sR (p1:Int) (p2:Int) (p3:Pos) (x:((BitVec 64)×Int)):Option (((BitVec 64)×Int×Bool)):=da (fun x=>bif CX p1 p2 p3 x then I1 p1 p2 p3 x else .bad) many x
abbrev QD {α:Type} (k:Int→Int→Pos→((BitVec 64)×Int)→α) (s:St):α:=wP s 0 fun q0=>k (tI (tT s 1)) (tI (tT s 2)) q0 ((tU (tT s 7)),(tI (tT s 8)))
theorem Xd (p1:Int) (p2:Int) (p3:Pos) (x:((BitVec 64)×Int)) (r:((BitVec 64)×Int×Bool)) (h:sR p1 p2 p3 x=some r):aB Pz (bj Pz 81 3) (QT p1 p2 p3 x) (P8 p1 p2 p3 r):=smq (m:=12) (fn:=81) Un (QD fun _ _ _ x=>some x) (fun o=>match o with | .exit 0 s=>some ((tU (tT s 7)),(tI (tT s 8)),(tB (tT s 18))) | _=>none) many x r h
def Pc (b:Code) (s:St):Tr Out:=QD (fun p1 p2 p3 x=>mH b (bj Pz 81 3) s (QT p1 p2 p3 x) (sR p1 p2 p3 x) (P8 p1 p2 p3)) s
theorem Sf:∀ b,aZ Pz b (Pc b):=fun _ _ _ h=>bX (Xd _ _ _ _) h
def B81:aw:=bO Pz K81 [(82,mz),(83,PV),(154,Ci)] [(81,3,Pc)] []
theorem aia:aV B81:=ak aj ⟨mN,Ux,Ed,trivial⟩ ⟨Sf,trivial⟩ trivial
def Vq (a:Pos) (b:Int) (c:Int):BitVec 64:=(((sR b c a (0#64,0)).getD default).1)
def EC (a:Pos) (b:Int) (c:Int):Bool:=((sR b c a (0#64,0)).isSome&&true)
theorem P81 (a:Pos) (b:Int) (c:Int) (h:EC a b c=true):PS Pz 81 [Pos.av a,.int .i64 b,.int .u8 c] (dU.res (Vq a b c)):=pq14 aia h
def G81:GT:=g3 aY (dI .i64) (dI .u8) (fun a b c=>cg (EC a b c) (dU.res (Vq a b c)))
theorem s81:Sound Pz 81 G81:=dg fun a b c=>ay (P81 a b c)
end Kz
end
noncomputable section
namespace Kz
open Go Go.RowKit
def A4 (p:Pos) (t:Nat) (c:Int) (s:Nat):Bool:=bw (p.ae.getD s 0) != 0&&(nn (p.ae.getD s 0)==c&&nz p s t)
theorem MU {p:Pos} (hp:aO p) (ht:p.aa=0∨p.aa=1) {t:Nat} (h64:t<64) (c:Int):EC p t c=true∧∀ s,s<64→(Vq p t c).getLsbD s=A4 p t c s:=by
 have hl:∃ r,sR t c p (0#64,0)=some r∧∀ s,s<64→r.1.getLsbD s=A4 p t c s:=by
  refine bh (I:=fun x=>∃ n:Nat,n≤64∧x.2=(n:Int)∧∀ s,s<64→x.1.getLsbD s=(decide (s<n)&&A4 p t c s)) (μ:=fun x=>(64-x.2).toNat) ?_ _ ⟨0,by omega,rfl,fun s hs=>by simp⟩ (by simp)
  rintro ⟨o,m⟩ ⟨n,hn,hm,h⟩
  simp only at hm h
  subst hm
  have hsc:(scale 1 (n:Int)).toNat=n:=by unfold scale;simp
  unfold CX I1
  dsimp only
  rw [hsc,show decide ((t:Int)≥0)=true by simp,show decide ((t:Int)<64)=true by simp;omega]
  by_cases hc64:n<64
  ·have k174:=t154 hp ht hc64 h64
   rw [aN (n:=(n:Int)+1) (by omega) (by omega)]
   constructor
   ·refine aq (fun _=>?_) fun _=>rfl
    repeat' (first | with_reducible rfl | with_reducible exact k174 | (simp;omega;done) | refine ao ?_ (fun _=>?_) | refine aq (fun _=>?_) (fun _=>?_))
   ·have keep:A4 p t c n=false→zS (fun x:BitVec 64×Int=>∃ n:Nat,n≤64∧x.2=(n:Int)∧∀ s,s<64→x.1.getLsbD s=(decide (s<n)&&A4 p t c s)) (fun r:BitVec 64×Int×Bool=>∀ s,s<64→r.1.getLsbD s=A4 p t c s) (fun x=>(64-x.2).toNat) (64-(n:Int)).toNat (.go (o,(n:Int)+1)):=fun hf=>by
     refine ⟨⟨n+1,by omega,rfl,fun s hs=>?_⟩,by show (64-((n:Int)+1)).toNat<_;omega⟩
     show o.getLsbD s=_
     rw [h s hs]
     by_cases e:s=n
     ·subst e;rw [hf];simp
     ·rw [show decide (s<n+1)=decide (s<n) by rw [decide_eq_decide];omega]
    have add:A4 p t c n=true→zS (fun x:BitVec 64×Int=>∃ n:Nat,n≤64∧x.2=(n:Int)∧∀ s,s<64→x.1.getLsbD s=(decide (s<n)&&A4 p t c s)) (fun r:BitVec 64×Int×Bool=>∀ s,s<64→r.1.getLsbD s=A4 p t c s) (fun x=>(64-x.2).toNat) (64-(n:Int)).toNat (.go (o|||1#64 <<< (BitVec.ofInt 64 n).toNat,(n:Int)+1)):=fun hf=>by
     refine ⟨⟨n+1,by omega,rfl,fun s hs=>?_⟩,by show (64-((n:Int)+1)).toNat<_;omega⟩
     show (o|||1#64 <<< (BitVec.ofInt 64 n).toNat).getLsbD s=_
     rw [BitVec.getLsbD_or,h s hs,cP (by omega) (by omega),Int.toNat_natCast,fP hs]
     by_cases e:s=n
     ·subst e;rw [hf];simp
     ·rw [show decide (s<n+1)=decide (s<n) by rw [decide_eq_decide];omega]
      simp [e]
    refine au (fun _=>?_) fun h'=>absurd h' (by simp;omega)
    simp only [cond_true]
    refine au (fun h1=>au (fun h2=>au (fun h3=>?_) fun h3=>?_) fun h2=>?_) fun h1=>?_
    ·exact add (by unfold A4;rw [h1,h2,h3];rfl)
    ·exact keep (by unfold A4;rw [h1,h2,h3];rfl)
    ·exact keep (by unfold A4;rw [h1,h2];rfl)
    ·exact keep (by unfold A4;rw [h1];rfl)
  ·have e:n=64:=by omega
   subst e
   refine ⟨aq (fun h'=>absurd h' (by simp)) fun _=>rfl,au (fun h'=>absurd h' (by simp)) fun _=>?_⟩
   intro s hs
   show o.getLsbD s=_
   rw [h s hs]
   simp [hs]
 have h2:=aM hl
 exact ⟨ao h2.1 fun _=>rfl,h2.2⟩
def btw (a d b:Nat):List Nat:=(je a d).takeWhile fun s => !(s==b)
theorem H7:∀ (a:Fin 64) (d:Fin 8),((je a.val d.val).all fun b=>decide (b<64)&&decide (a.val∈je b ((d.val+4) % 8))&&(btw b ((d.val+4) % 8) a.val==(btw a.val d.val b).reverse))=true:=by decide +kernel
theorem tf {b:Nat}:∀ {l:List Nat},b∈l→∃ post,l=(l.takeWhile fun s => !(s==b))++b::post∧b∉(l.takeWhile fun s => !(s==b))
 | [],h=>by cases h
 | s::l,h=>by
  by_cases e:s=b
  ·subst e
   exact ⟨l,by simp,by simp⟩
  ·have hb:b∈l:=by
    simp only [List.mem_cons] at h
    rcases h with h | h
    ·exact absurd h.symm e
    ·exact h
   obtain ⟨post,e1,e2⟩:=tf hb
   have hs:(!(s==b))=true:=by simpa using e
   have ht:((s::l).takeWhile fun s => !(s==b))=s::(l.takeWhile fun s => !(s==b)):=by
    rw [List.takeWhile]
    simp only [hs]
   refine ⟨post,?_,?_⟩
   ·rw [ht,List.cons_append,← e1]
   ·rw [ht]
    simp only [List.mem_cons,not_or]
    exact ⟨fun h=>e h.symm,e2⟩
theorem sY {b:Nat}:∀ {l1 l2 m1 m2:List Nat},l1++b::m1=l2++b::m2→b∉l1→b∉l2→l1=l2
 | [],[],_,_,_,_,_=>rfl
 | [],y::l2,_,_,h,_,h2=>by
  simp only [List.nil_append,List.cons_append,List.cons.injEq] at h
  exact absurd (by rw [h.1];simp) h2
 | x::l1,[],_,_,h,h1,_=>by
  simp only [List.nil_append,List.cons_append,List.cons.injEq] at h
  exact absurd (by rw [← h.1];simp) h1
 | x::l1,y::l2,m1,m2,h,h1,h2=>by
  simp only [List.cons_append,List.cons.injEq] at h
  rw [h.1,sY h.2 (fun hm=>h1 (by simp [hm])) (fun hm=>h2 (by simp [hm]))]
theorem yn {occ:BitVec 64} {a d b:Nat} (hb:b∈je a d):b∈seen occ (je a d) ↔ ∀ s∈btw a d b,occ.getLsbD s=false:=by
 rw [tF hb]
 obtain ⟨post,e1,e2⟩:=tf hb
 constructor
 ·intro h
  exact h _ post e1 e2
 ·intro h pre post' e hp
  rw [sY (e.symm.trans e1) hp e2]
  exact h
theorem IZ (p:Pos) {occ:BitVec 64} (hocc:∀ s,s<64→(occ.getLsbD s=false ↔ bw (p.ae.getD s 0)=0)) {a b:Nat} (ha:a<64) (h:kG a b=true∨kH a b=true):cY p a b=cY p b a:=by
 have:∃ d,d<8∧b∈je a d:=by
  unfold kG kH at h
  simp only [Bool.or_eq_true,decide_eq_true_eq] at h
  rcases h with (((h | h) | h) | h) | (((h | h) | h) | h)
  ·exact ⟨0,by decide,h⟩
  ·exact ⟨2,by decide,h⟩
  ·exact ⟨4,by decide,h⟩
  ·exact ⟨6,by decide,h⟩
  ·exact ⟨1,by decide,h⟩
  ·exact ⟨3,by decide,h⟩
  ·exact ⟨5,by decide,h⟩
  ·exact ⟨7,by decide,h⟩
 obtain ⟨d,hd,hb⟩:=this
 have f:=List.all_eq_true.1 (H7 ⟨a,ha⟩ ⟨d,hd⟩) b hb
 simp only [E',decide_eq_true_eq,beq_iff_eq] at f
 obtain ⟨⟨f1,f2⟩,f3⟩:=f
 rw [(ml p hocc ha hd hb).2,(ml p hocc f1 (Nat.mod_lt _ (by decide)) f2).2,decide_eq_decide,yn hb,yn f2,f3]
 simp
end Kz
end
noncomputable section
namespace Kz
open Go Go.RowKit Go.Proofs
def ah8:KT:=[(152,25,[(0,(rn 1 4 (rn 17 7 []))),(1,[8])])]
def ajc:aw:=bO Pz ah8 [(82,mz),(83,PV)] [] []
theorem abe:aV ajc:=ak aj ⟨mN,Ux,trivial⟩ trivial trivial
def pX (a:Pos) (b:Int) (c:Int) (d:Int):Bool:=(bif bw (a.ae.getD (scale 1 b).toNat 0)==d then (nn (a.ae.getD (scale 1 b).toNat 0)==c) else (false))
def mV (a:Pos) (b:Int) (c:Int) (d:Int):Bool:=(decide (0≤b)&&decide (b < ↑64)&&(bif bw (a.ae.getD (scale 1 b).toNat 0)==d then (decide (0≤b)&&decide (b < ↑64)&&true) else true))
theorem aiK (a:Pos) (b:Int) (c:Int) (d:Int) (h:mV a b c d=true):PS Pz 152 [Pos.av a,.int .i64 b,.int .u8 c,.int .u8 d] (dB.res (pX a b c d)):=pq14 abe h
def nN:GT:=g4 aY (dI .i64) (dI .u8) (dI .u8) (fun a b c d=>cg (mV a b c d) (dB.res (pX a b c d)))
theorem pd:Sound Pz 152 nN:=B4 fun a b c d=>ay (aiK a b c d)
def Zi:KT:=[(150,18,[(0,[1,2,3]),(1,[1,2,3,7]),(2,[1,2,3,7,9]),(3,[1,2,3,7]),(4,[1,2,3,7,16]),(5,[6]),(6,[6])])]
def TE:aw:=bO Pz Zi [(152,nN)] [] []
theorem Ov:aV TE:=ak aj ⟨pd,trivial⟩ trivial trivial
def Gd (p1:Int) (p2:Int) (p3:Pos) (x:(Int)):St:=St.mk (.any::.int .u8 p1::.int .u8 p2::.ptr 0 0::(an 3 (.int .i64 x::(an 10 [])))) (Hp.mk [(pc p3 [])] [] [] 0 0 0)
def GI (p1:Int) (p2:Int) (p3:Pos):(Int) ⊕ (Int×Bool)→Out
 | (.inl (y))=>.ret (St.mk (an 6 (AV.int .i64 y::(an 11 []))) (Hp.mk [(pc p3 [])] [] [] 0 0 0))
 | (.inr (y))=>.exit 0 (St.mk (AV.any::AV.int .u8 p1::AV.int .u8 p2::AV.ptr 0 0::(an 3 (AV.int .i64 y.1::AV.any::AV.bool y.2::(an 8 [])))) (Hp.mk [(pc p3 [])] [] [] 0 0 0))
def CJ (p1:Int) (p2:Int) (p3:Pos) (x:(Int)):aI (Int) ((Int) ⊕ (Int×Bool)):=(bif decide (x<64) then (bif pX (Pos.mk p3.variant p3.ae p3.ab p3.af p3.aa p3.ai p3.ah p3.ag p3.half p3.full) x p1 p2 then (aI.out (.inl ((x)))) else (aI.go (wr .i64 (x+1)))) else (aI.out (.inr ((x,decide (x<64))))))
def zk (p1:Int) (p2:Int) (p3:Pos) (x:(Int)):Bool:=(bif decide (x<64) then (mV (Pos.mk p3.variant p3.ae p3.ab p3.af p3.aa p3.ai p3.ah p3.ag p3.half p3.full) (x) (p1) (p2)&&true) else true)
def iS (p1:Int) (p2:Int) (p3:Pos) (x:(Int)):Option ((Int) ⊕ (Int×Bool)):=da (fun x=>bif zk p1 p2 p3 x then CJ p1 p2 p3 x else .bad) many x
abbrev I6 {α:Type} (k:Int→Int→Pos→(Int)→α) (s:St):α:=wP s 0 fun q0=>k (tI (tT s 1)) (tI (tT s 2)) q0 ((tI (tT s 7)))
theorem Rz (p1:Int) (p2:Int) (p3:Pos) (x:(Int)) (r:(Int) ⊕ (Int×Bool)) (h:iS p1 p2 p3 x=some r):aB Pz (bj Pz 150 2) (Gd p1 p2 p3 x) (GI p1 p2 p3 r):=aB.xO (m:=12) (fn:=150) Ov (I6 fun _ _ _ x=>some x) (fun o=>match o with | .ret s=>some (.inl (tI (tT s 6))) | .exit 0 s=>some (.inr ((tI (tT s 7)),(tB (tT s 9)))) | _=>none) (fun r=>by cases r<;>rfl) (fun _=>by kernel_rfl) (fun _=>by kernel_rfl) (fun _=>by kernel_rfl) (fun _=>by kernel_rfl) many x r h
def KO (b:Code) (s:St):Tr Out:=I6 (fun p1 p2 p3 x=>w9 b (bj Pz 150 2) s (Gd p1 p2 p3 x) (iS p1 p2 p3 x) (GI p1 p2 p3)) s
theorem NL:∀ b,aZ Pz b (KO b):=fun _ _ _ h=>ez (Rz _ _ _ _) h
def aiI:aw:=bO Pz Zi [(152,nN)] [(150,2,KO)] []
theorem YC:aV aiI:=ak aj ⟨pd,trivial⟩ ⟨NL,trivial⟩ trivial
def cr (a:Pos) (b:Int) (c:Int):Int:=(bif cu ((iS b c (Pos.mk a.variant a.ae a.ab a.af a.aa a.ai a.ah a.ag a.half a.full) 0).getD default) then (gl ((iS b c (Pos.mk a.variant a.ae a.ab a.af a.aa a.ai a.ah a.ag a.half a.full) 0).getD default)) else (-1))
def uC (a:Pos) (b:Int) (c:Int):Bool:=((iS b c (Pos.mk a.variant a.ae a.ab a.af a.aa a.ai a.ah a.ag a.half a.full) 0).isSome&&bif cu ((iS b c (Pos.mk a.variant a.ae a.ab a.af a.aa a.ai a.ah a.ag a.half a.full) 0).getD default) then true else true)
theorem acE (a:Pos) (b:Int) (c:Int) (h:uC a b c=true):PS Pz 150 [Pos.av a,.int .u8 b,.int .u8 c] ((dI .i64).res (cr a b c)):=pq14 YC h
def xn:GT:=g3 aY (dI .u8) (dI .u8) (fun a b c=>cg (uC a b c) ((dI .i64).res (cr a b c)))
theorem zh:Sound Pz 150 xn:=dg fun a b c=>ay (acE a b c)
end Kz
end
noncomputable section
namespace Kz
open Go Go.RowKit
theorem J6:∀ (c:Fin 2) (k:Fin 7) (v:Fin 256),1≤k.val→dn c.val k.val v.val=(bw v.val==k.val&&nn v.val==c.val):=by decide +kernel
theorem is' {c k v:Int} (hc:c=0∨c=1) (k1:1≤k) (k6:k≤6) (v0:0≤v) (v1:v≤255):dn c k v=(bw v==k&&nn v==c):=by
 obtain ⟨n,rfl⟩:=Int.eq_ofNat_of_zero_le v0
 obtain ⟨m,rfl⟩:=Int.eq_ofNat_of_zero_le (show 0≤k by omega)
 rcases hc with rfl | rfl
 ·exact J6 0 ⟨m,by omega⟩ ⟨n,by omega⟩ (by show 1≤m;omega)
 ·exact J6 1 ⟨m,by omega⟩ ⟨n,by omega⟩ (by show 1≤m;omega)
theorem kj {p:Pos} (hp:aO p) {c k:Int} (hc:c=0∨c=1) (k1:1≤k) (k6:k≤6) {s:Nat} (hs:s<64):mV p s c k=true∧pX p s c k=dn c k (p.ae.getD s 0):=by
 obtain ⟨b0,b1⟩:=eH hp s
 have hsc:(scale 1 (s:Int)).toNat=s:=by unfold scale;simp
 rw [is' hc k1 k6 b0 b1]
 unfold mV pX
 rw [hsc]
 constructor
 ·refine ao (by simp;omega) fun _=>aq (fun _=>?_) fun _=>rfl
  simp
  omega
 ·cases bw (p.ae.getD s 0)==k<;>rfl
theorem nM {p:Pos} (hp:aO p) {c k:Int} (hc:c=0∨c=1) (k1:1≤k) (k6:k≤6):uC p c k=true∧cr p c k=aX p c k:=by
 have hl:∃ r,iS c k p 0=some r∧(match r with
   | .inl i=>∃ n:Nat,n<64∧i=n∧dn c k (p.ae.getD n 0)=true∧∀ j,j<n→dn c k (p.ae.getD j 0)=false
   | .inr _=>∀ j:Nat,j<64→dn c k (p.ae.getD j 0)=false):=by
  refine bh (I:=fun x=>∃ n:Nat,n≤64∧x=(n:Int)∧∀ j,j<n→dn c k (p.ae.getD j 0)=false) (μ:=fun x=>(64-x).toNat) ?_ _ ⟨0,by omega,rfl,fun j hj=>by omega⟩ (by simp)
  rintro _ ⟨n,hn,rfl,h⟩
  unfold zk CJ
  rw [show (Pos.mk p.variant p.ae p.ab p.af p.aa p.ai p.ah p.ag p.half p.full)=p from rfl]
  by_cases hc64:n<64
  ·obtain ⟨e1,e2⟩:=kj hp hc k1 k6 hc64
   rw [e1,e2,aN (n:=(n:Int)+1) (by omega) (by omega)]
   refine ⟨aq (fun _=>rfl) fun _=>rfl,au (fun _=>au (fun ht=>?_) fun ht=>?_) fun h'=>absurd h' (by simp;omega)⟩
   ·exact ⟨n,hc64,rfl,ht,h⟩
   ·refine ⟨⟨n+1,by omega,rfl,fun j hj=>?_⟩,by show (64-((n:Int)+1)).toNat<(64-(n:Int)).toNat;omega⟩
    by_cases e:j=n
    ·rw [e];exact ht
    ·exact h j (by omega)
  ·have e:n=64:=by omega
   subst e
   exact ⟨rfl,h⟩
 have h2:=aM hl
 constructor
 ·exact ao h2.1 fun _=>aq (fun _=>rfl) fun _=>rfl
 ·unfold cr
  rw [show (Pos.mk p.variant p.ae p.ab p.af p.aa p.ai p.ah p.ag p.half p.full)=p from rfl]
  have h3:=h2.2
  generalize (iS c k p 0).getD default=r at h3
  rcases iq p c k with ⟨a1,a2⟩ | ⟨j,a0,a1,a2,a3⟩
  ·cases r with
   | inl i =>
    obtain ⟨n,h64,_,ht,_⟩:=h3
    rw [a2 n h64] at ht
    cases ht
   | inr x=>rw [a1];rfl
  ·cases r with
   | inl i =>
    obtain ⟨n,h64,rfl,ht,hm⟩:=h3
    rw [a1]
    show (n:Int)=j
    rcases Nat.lt_trichotomy n j with h | h | h
    ·rw [a3 n h] at ht;cases ht
    ·rw [h]
    ·rw [hm j h] at a2;cases a2
   | inr x =>
    rw [h3 j a0] at a2
    cases a2
theorem wj:∀ a b:Fin 64,(pD a.val).getLsbD b.val=(pD b.val).getLsbD a.val∧(cX a.val).getLsbD b.val=(cX b.val).getLsbD a.val∧kG a.val b.val=kG b.val a.val∧kH a.val b.val=kH b.val a.val:=by decide +kernel
theorem sq:∀ (c:Fin 2) (s t:Fin 64),(df (1-c.val) t.val).getLsbD s.val=cK 1 c.val s.val t.val false:=by decide +kernel
theorem E8:∀ t:Fin 64,KK t.val=true:=by decide +kernel
theorem zO {p:Pos} (hp:aO p) {s:Nat} (hs:s<64):(bg p).getLsbD s=false ↔ bw (p.ae.getD s 0)=0:=by
 obtain ⟨b0,b1⟩:=eH hp s
 rw [kK _ hs]
 have:fS (p.ae.getD s 0)=!(bw (p.ae.getD s 0)==0):=by
  obtain ⟨n,hn⟩:=Int.eq_ofNat_of_zero_le b0
  rw [hn]
  have h:∀ v:Fin 256,fS v.val=!(bw v.val==0):=by decide +kernel
  exact h ⟨n,by omega⟩
 rw [this]
 simp
theorem J7 {p:Pos} (hp:aO p) {t:Nat} (h64:t<64) {c:Int} (hc:c=0∨c=1) {s:Nat} (hs:s<64):(oP p t c).getLsbD s=A4 p t c s:=by
 have hocc:=fun s hs=>zO hp (s:=s) hs
 obtain ⟨b0,b1⟩:=eH hp s
 obtain ⟨y2,y6,ystr,yacr⟩:=wj ⟨s,hs⟩ ⟨t,h64⟩
 obtain ⟨f2,f6,f4,f4',f3,f3',f5,f5'⟩:=oE ⟨s,hs⟩ ⟨t,h64⟩
 simp only at f2 f6 f4 f4' f3 f3' f5 f5' y2 y6 ystr yacr
 have hr:=sE hocc h64 hs
 have hbi:=mX hocc h64 hs
 have hqu:=vP hocc h64 hs
 have cs:kG s t=true∨kH s t=true→cY p s t=cY p t s:=fun h=>IZ p hocc hs h
 have tk:=fun (k:Int) (k1:1≤k) (k6:k≤6)=>(cm p c k hs).trans (is' hc k1 k6 b0 b1)
 have hpawn:(E7 (wr .u8 (1-c)) t (bg p)).getLsbD s=cK 1 c s t false:=by
  unfold E7
  rw [o6 (by omega) (by omega)]
  rcases hc with rfl | rfl
  ·exact sq 0 ⟨s,hs⟩ ⟨t,h64⟩
  ·exact sq 1 ⟨s,hs⟩ ⟨t,h64⟩
 have e:oP p t c=0|||E7 (wr .u8 (1-c)) t (bg p)&&&aK p c 1|||pD t&&&aK p c 2|||qY t (bg p)&&&aK p c 3|||qO t (bg p)&&&aK p c 4|||rL t (bg p)&&&aK p c 5|||cX t&&&aK p c 6:=by
  unfold oP
  rw [E8 ⟨t,h64⟩,show decide (c>1)=false by simp;omega]
  rfl
 rw [e]
 simp only [BitVec.getLsbD_or,BitVec.getLsbD_and]
 rw [tk 1 (by omega) (by omega),tk 2 (by omega) (by omega),tk 3 (by omega) (by omega),tk 4 (by omega) (by omega),tk 5 (by omega) (by omega),tk 6 (by omega) (by omega),hr,hbi,hqu,hpawn,← y2,← y6,← ystr,← yacr]
 unfold A4
 rw [rF,show (scale 1 (s:Int)).toNat=s by unfold scale;simp]
 have km:bw (p.ae.getD s 0)=0∨bw (p.ae.getD s 0)=1∨bw (p.ae.getD s 0)=2∨bw (p.ae.getD s 0)=3∨bw (p.ae.getD s 0)=4∨bw (p.ae.getD s 0)=5∨bw (p.ae.getD s 0)=6:=by
  have:=(qX b0 b1).2.2.2.2
  omega
 generalize bw (p.ae.getD s 0)=k at *
 generalize nn (p.ae.getD s 0)=col at *
 cases hcol:col==c with
 | false=>simp
 | true =>
  have hcol:col=c:=by simpa using hcol
  subst hcol
  rcases km with rfl | rfl | rfl | rfl | rfl | rfl | rfl
  ·simp
  ·have:cK 1 col s t (cY p s t)=cK 1 col s t false:=rfl
   rw [this]
   simp
  ·rw [jA (k:=2) rfl,show cK 2 0 s t (cY p s t)=(pD s).getLsbD t from f2 ▸ rfl]
   simp
  ·rw [jA (k:=3) rfl]
   have:cK 3 0 s t (cY p s t)=(kH s t&&cY p t s):=by
    cases ha:kH s t with
    | true =>
     rw [cs (.inr ha)]
     cases cY p t s
     ·rw [f3'];rfl
     ·rw [f3,ha];rfl
    | false =>
     cases cY p s t
     ·rw [f3'];rfl
     ·rw [f3,ha];rfl
   rw [this]
   simp
  ·rw [jA (k:=4) rfl]
   have:cK 4 0 s t (cY p s t)=(kG s t&&cY p t s):=by
    cases ha:kG s t with
    | true =>
     rw [cs (.inl ha)]
     cases cY p t s
     ·rw [f4'];rfl
     ·rw [f4,ha];rfl
    | false =>
     cases cY p s t
     ·rw [f4'];rfl
     ·rw [f4,ha];rfl
   rw [this]
   simp
  ·rw [jA (k:=5) rfl]
   have:cK 5 0 s t (cY p s t)=((kG s t || kH s t)&&cY p t s):=by
    cases ha:(kG s t || kH s t) with
    | true =>
     rw [cs (by simpa using ha)]
     cases cY p t s
     ·rw [f5'];rfl
     ·rw [f5,ha];rfl
    | false =>
     cases cY p s t
     ·rw [f5'];rfl
     ·rw [f5,ha];rfl
   rw [this]
   simp
  ·rw [jA (k:=6) rfl,show cK 6 0 s t (cY p s t)=(cX s).getLsbD t from f6 ▸ rfl]
   simp
end Kz
end
noncomputable section
namespace Kz
open Go Go.RowKit Go.Proofs
def K84:KT:=[(84,23,[(0,(0::1::8::9::12::13::(rn 16 6 []))),(1,[4])])]
def B84:aw:=bO Pz K84 [] [] []
theorem acv:aV B84:=ak aj trivial trivial trivial
def LH (a:Int) (b:Int):Bool:=(bif decide (a<9) then (bif decide (b<2) then (bif a != 4 then (bif a != 7 then (true) else (b==1)) else (false)) else (false)) else (false))
def ahW (a:Int) (b:Int):Bool:=true
theorem P84 (a:Int) (b:Int) (h:ahW a b=true):PS Pz 84 [.int .u8 a,.int .u8 b] (dB.res (LH a b)):=pq14 acv h
def VB:GT:=g2 (dI .u8) (dI .u8) (fun a b=>.ret (dB.res (LH a b)))
theorem Z1:Sound Pz 84 VB:=aT fun a b=>bK (P84 a b rfl)
def K80:KT:=[(80,39,[(0,[1,2,16,17,22,23,24,34,35,36]),(1,[1,2,5,16,17,22,23,24,34,35,36]),(2,[1,2,5,18,22,23,24,34,35,36]),(3,[4]),(4,[1,2,5,6,22,23,24,34,35,36]),(5,(1::2::5::6::(rn 22 4 [34,35,36]))),(6,[1,2,5,6,22,23,24,34,35,36]),(7,(1::2::5::6::22::23::24::(rn 34 4 []))),(8,[4]),(9,[4])])]
def YB:aw:=bO Pz K80 [(84,VB),(150,xn),(152,nN),(153,zu)] [] []
theorem SA:aV YB:=ak aj ⟨Z1,zh,pd,B6,trivial⟩ trivial trivial
def Pu (p1:Int) (p2:Int) (p3:Pos) (x:(Int)):St:=St.mk (.any::.int .u8 p1::.ptr 0 0::.any::.any::.int .i64 p2::.int .i64 x::(an 32 [])) (Hp.mk [(pc p3 [])] [] [] 0 0 0)
def Q4 (p1:Int) (p2:Int) (p3:Pos):Unit ⊕ (Int×Bool)→Out
 | (.inl (y))=>.ret (St.mk (an 4 (AV.bm .i64 (-1)::(an 34 []))) (Hp.mk [(pc p3 [])] [] [] 0 0 0))
 | (.inr (y))=>.exit 0 (St.mk (AV.any::AV.int .u8 p1::AV.ptr 0 0::AV.any::AV.any::AV.int .i64 p2::AV.int .i64 y.1::(an 18 (AV.bool y.2::(an 13 [])))) (Hp.mk [(pc p3 [])] [] [] 0 0 0))
def sW (p1:Int) (p2:Int) (p3:Pos) (x:(Int)):aI (Int) (Unit ⊕ (Int×Bool)):=(bif decide (x<64) then (bif p3.variant==3 then (bif pX (Pos.mk p3.variant p3.ae p3.ab p3.af p3.aa p3.ai p3.ah p3.ag p3.half p3.full) x (wr .u8 (1-p1)) 6 then (bif iH x p2 then (aI.out (.inl (()))) else (aI.go (wr .i64 (x+1)))) else (aI.go (wr .i64 (x+1)))) else (aI.out (.inr ((x,p3.variant==3))))) else (aI.out (.inr ((x,false)))))
def oD (p1:Int) (p2:Int) (p3:Pos) (x:(Int)):Bool:=(bif decide (x<64) then (bif p3.variant==3 then (mV (Pos.mk p3.variant p3.ae p3.ab p3.af p3.aa p3.ai p3.ah p3.ag p3.half p3.full) (x) (wr .u8 (1-p1)) (6)&&true) else true) else true)
def pH (p1:Int) (p2:Int) (p3:Pos) (x:(Int)):Option (Unit ⊕ (Int×Bool)):=da (fun x=>bif oD p1 p2 p3 x then sW p1 p2 p3 x else .bad) many x
abbrev Qy {α:Type} (k:Int→Int→Pos→(Int)→α) (s:St):α:=wP s 0 fun q0=>k (tI (tT s 1)) (tI (tT s 5)) q0 ((tI (tT s 6)))
theorem Zz (p1:Int) (p2:Int) (p3:Pos) (x:(Int)) (r:Unit ⊕ (Int×Bool)) (h:pH p1 p2 p3 x=some r):aB Pz (bj Pz 80 5) (Pu p1 p2 p3 x) (Q4 p1 p2 p3 r):=aB.xO (m:=12) (fn:=80) SA (Qy fun _ _ _ x=>some x) (fun o=>match o with | .ret s=>some (.inl ()) | .exit 0 s=>some (.inr ((tI (tT s 6)),(tB (tT s 25)))) | _=>none) (fun r=>by cases r<;>rfl) (fun _=>by kernel_rfl) (fun _=>by kernel_rfl) (fun _=>by kernel_rfl) (fun _=>by kernel_rfl) many x r h
def QU (b:Code) (s:St):Tr Out:=Qy (fun p1 p2 p3 x=>w9 b (bj Pz 80 5) s (Pu p1 p2 p3 x) (pH p1 p2 p3 x) (Q4 p1 p2 p3)) s
theorem UJ:∀ b,aZ Pz b (QU b):=fun _ _ _ h=>ez (Zz _ _ _ _) h
def B80:aw:=bO Pz K80 [(84,VB),(150,xn),(152,nN),(153,zu)] [(80,5,QU)] []
theorem adH:aV B80:=ak aj ⟨Z1,zh,pd,B6,trivial⟩ ⟨UJ,trivial⟩ trivial
def Rq (a:Pos) (b:Int):Int:=(bif !LH a.variant b then (-1) else (bif decide (cr (Pos.mk a.variant a.ae a.ab a.af a.aa a.ai a.ah a.ag a.half a.full) b 6<0) then (-1) else (bif cu ((pH b (cr (Pos.mk a.variant a.ae a.ab a.af a.aa a.ai a.ah a.ag a.half a.full) b 6) (Pos.mk a.variant a.ae a.ab a.af a.aa a.ai a.ah a.ag a.half a.full) 0).getD default) then (-1) else (cr (Pos.mk a.variant a.ae a.ab a.af a.aa a.ai a.ah a.ag a.half a.full) b 6))))
def Oi (a:Pos) (b:Int):Bool:=(uC (Pos.mk a.variant a.ae a.ab a.af a.aa a.ai a.ah a.ag a.half a.full) (b) (6)&&(bif !LH a.variant b then true else (bif decide (cr (Pos.mk a.variant a.ae a.ab a.af a.aa a.ai a.ah a.ag a.half a.full) b 6<0) then true else ((pH b (cr (Pos.mk a.variant a.ae a.ab a.af a.aa a.ai a.ah a.ag a.half a.full) b 6) (Pos.mk a.variant a.ae a.ab a.af a.aa a.ai a.ah a.ag a.half a.full) 0).isSome&&bif cu ((pH b (cr (Pos.mk a.variant a.ae a.ab a.af a.aa a.ai a.ah a.ag a.half a.full) b 6) (Pos.mk a.variant a.ae a.ab a.af a.aa a.ai a.ah a.ag a.half a.full) 0).getD default) then true else true))))
theorem P80 (a:Pos) (b:Int) (h:Oi a b=true):PS Pz 80 [Pos.av a,.int .u8 b] ((dI .i64).res (Rq a b)):=pq14 adH h
def G80:GT:=g2 aY (dI .u8) (fun a b=>cg (Oi a b) ((dI .i64).res (Rq a b)))
theorem s80:Sound Pz 80 G80:=aT fun a b=>ay (P80 a b)
def K33:KT:=[(33,21,[(0,(1::2::(rn 14 6 []))),(1,(1::2::7::(rn 14 6 []))),(2,[4]),(3,(1::2::5::(rn 14 6 []))),(4,[4])])]
def B33:aw:=bO Pz K33 [(80,G80),(81,G81)] [] []
theorem aet:aV B33:=ak aj ⟨s80,s81,trivial⟩ trivial trivial
def ni (a:Pos) (b:Int):Bool:=(bif decide (b>1) then (false) else (bif decide (Rq a b≥0) then (Vq a (Rq a b) (wr .u8 (1-b)) != 0#64) else (false)))
def jn (a:Pos) (b:Int):Bool:=(bif decide (b>1) then true else (Oi (a) (b)&&(bif decide (Rq a b≥0) then (EC (a) (Rq a b) (wr .u8 (1-b))&&true) else true)))
theorem P33 (a:Pos) (b:Int) (h:jn a b=true):PS Pz 33 [Pos.av a,.int .u8 b] (dB.res (ni a b)):=pq14 aet h
def YG:GT:=g2 aY (dI .u8) (fun a b=>cg (jn a b) (dB.res (ni a b)))
theorem s33:Sound Pz 33 YG:=aT fun a b=>ay (P33 a b)
end Kz
end
noncomputable section
namespace Kz
open Go Go.RowKit
theorem Kr {p:Pos} (hp:aO p) (ht:p.aa=0∨p.aa=1) {t:Nat} (h64:t<64) {c:Int} (hc:c=0∨c=1):EC p t c=true∧Vq p t c=oP p t c:=by
 obtain ⟨h1,h2⟩:=MU hp ht h64 c
 refine ⟨h1,BitVec.eq_of_getLsbD_eq fun s hs=>?_⟩
 rw [h2 s hs,J7 hp h64 hc hs]
theorem adj {p:Pos} (hp:aO p) {b:Int} (hb:b=0∨b=1) {k:Nat} (hk:k<64):∃ r,pH b k p 0=some r∧cu r=(p.variant==3&&(cX k&&&aK p (wr .u8 (1-b)) 6 != 0#64)):=by
 have w1:wr .u8 (1-b)=1-b:=o6 (by omega) (by omega)
 rw [w1]
 have kings:∀ n:Nat,n<64→(cX k&&&aK p (1-b) 6).getLsbD n=(iH n k&&dn (1-b) 6 (p.ae.getD n 0)):=fun n hn=>by
  obtain ⟨_,f6,_⟩:=oE ⟨n,hn⟩ ⟨k,hk⟩
  obtain ⟨_,y6,_⟩:=wj ⟨n,hn⟩ ⟨k,hk⟩
  simp only at f6 y6
  rw [BitVec.getLsbD_and,cm _ _ _ hn,← y6,← f6]
  have:cK 6 0 n k false=iH n k:=by
   have h:∀ a b:Fin 64,cK 6 0 a.val b.val false=iH a.val b.val:=by decide +kernel
   exact h ⟨n,hn⟩ ⟨k,hk⟩
  rw [this]
 cases hv:p.variant==3 with
 | false =>
  have e:da (fun x=>bif oD b k p x then sW b k p x else .bad) 1 0=some (.inr (0,false)):=by
   rw [da]
   have:(bif oD b k p 0 then sW b k p 0 else .bad)=.out (.inr (0,false)):=by
    unfold oD sW
    rw [hv]
    rfl
   rw [this]
  exact ⟨_,jD _ many _ _ (by unfold many;omega) e,rfl⟩
 | true =>
  rw [Bool.true_and]
  refine bh (I:=fun x=>∃ n:Nat,n≤64∧x=(n:Int)∧∀ j,j<n→(cX k&&&aK p (1-b) 6).getLsbD j=false) (μ:=fun x=>(64-x).toNat) ?_ _ ⟨0,by omega,rfl,fun j hj=>by omega⟩ (by simp)
  rintro _ ⟨n,hn,rfl,h⟩
  unfold oD sW
  rw [show (Pos.mk p.variant p.ae p.ab p.af p.aa p.ai p.ah p.ag p.half p.full)=p from rfl,hv,w1]
  by_cases hc64:n<64
  ·obtain ⟨e1,e2⟩:=kj hp (c:=1-b) (k:=6) (by omega) (by omega) (by omega) hc64
   have hbit:=kings n hc64
   rw [e1,e2,aN (n:=(n:Int)+1) (by omega) (by omega)]
   have keep:(cX k&&&aK p (1-b) 6).getLsbD n=false→zS (fun x:Int=>∃ n:Nat,n≤64∧x=(n:Int)∧∀ j,j<n→(cX k&&&aK p (1-b) 6).getLsbD j=false) (fun r:Unit ⊕ (Int×Bool)=>cu r=(cX k&&&aK p (1-b) 6 != 0#64)) (fun x=>(64-x).toNat) (64-(n:Int)).toNat (.go ((n:Int)+1)):=fun hf=>by
    refine ⟨⟨n+1,by omega,rfl,fun j hj=>?_⟩,by show (64-((n:Int)+1)).toNat<(64-(n:Int)).toNat;omega⟩
    by_cases e:j=n
    ·rw [e];exact hf
    ·exact h j (by omega)
   constructor
   ·repeat' (first | with_reducible rfl | refine ao ?_ (fun _=>?_) | refine aq (fun _=>?_) (fun _=>?_))
   ·refine au (fun _=>?_) fun h'=>absurd h' (by simp;omega)
    rw [cond_true]
    refine au (fun h1=>au (fun h2=>?_) fun h2=>?_) fun h1=>?_
    ·show true=_
     rw [h2,h1] at hbit
     have:cX k&&&aK p (1-b) 6≠0#64:=fun e=>by rw [e] at hbit;simp at hbit
     simpa using this
    ·exact keep (by rw [hbit,h2];rfl)
    ·exact keep (by rw [hbit,h1,Bool.and_false])
  ·have e:n=64:=by omega
   subst e
   refine ⟨aq (fun h'=>absurd h' (by simp)) fun _=>rfl,au (fun h'=>absurd h' (by simp)) fun _=>?_⟩
   show false=_
   have:cX k&&&aK p (1-b) 6=0#64:=BitVec.eq_of_getLsbD_eq fun j hj=>by rw [h j hj];simp
   rw [this]
   rfl
theorem vp:∀ (v:Fin 9) (b:Fin 2),LH v.val b.val=jr v.val b.val:=by decide +kernel
theorem sF {v b:Int} (v0:0≤v) (hb:b=0∨b=1):LH v b=jr v b:=by
 obtain ⟨n,rfl⟩:=Int.eq_ofNat_of_zero_le v0
 by_cases h9:n<9
 ·rcases hb with rfl | rfl
  ·exact vp ⟨n,h9⟩ 0
  ·exact vp ⟨n,h9⟩ 1
 ·unfold LH jr
  rw [show decide ((n:Int)<9)=false by simp;omega,show decide ((n:Int)≥9)=true by simp;omega]
  rcases hb with rfl | rfl<;>rfl
theorem sD {p:Pos} (hp:aO p) (ht:p.aa=0∨p.aa=1) {b:Int} (hb:b=0∨b=1):jn p b=true∧ni p b=mD p b:=by
 obtain ⟨f1,f2⟩:=nM hp (c:=b) (k:=6) hb (by omega) (by omega)
 have w1:wr .u8 (1-b)=1-b:=o6 (by omega) (by omega)
 have hroy:=sF (b:=b) hp.v0 hb
 have pe:(Pos.mk p.variant p.ae p.ab p.af p.aa p.ai p.ah p.ag p.half p.full)=p:=rfl
 unfold jn ni Oi Rq mD Bh BK
 rw [pe,f1,f2,hroy,show decide (b>1)=false by simp;omega]
 rcases iq p b 6 with ⟨a1,_⟩ | ⟨k,hk,a1,_⟩
 ·rw [a1]
  cases jr p.variant b
  ·exact ⟨rfl,rfl⟩
  ·exact ⟨rfl,rfl⟩
 ·rw [a1]
  obtain ⟨l1,l2⟩:=aM (adj hp hb hk)
  obtain ⟨o1,o2⟩:=Kr hp ht hk (c:=1-b) (by omega)
  rw [l1,l2,w1,show decide ((k:Int)<0)=false by simp]
  cases jr p.variant b
  ·exact ⟨rfl,rfl⟩
  ·cases p.variant==3
   ·simp only [Bool.false_and,cond_false,Bool.not_true,cond_true,Bool.true_and,Bool.and_true]
    rw [show decide ((k:Int)≥0)=true by simp,o1,o2]
    exact ⟨rfl,rfl⟩
   ·cases (cX k&&&aK p (1-b) 6 != 0#64)
    ·simp only [Bool.true_and,cond_false,Bool.not_true,cond_true,Bool.and_true]
     rw [show decide ((k:Int)≥0)=true by simp,o1,o2]
     exact ⟨rfl,rfl⟩
    ·exact ⟨rfl,rfl⟩
theorem j5 {α:Type} (g:Nat→List α) (n:Nat):(List.range (n+1)).flatMap g=(List.range n).flatMap g++g n:=by
 rw [List.range_succ,List.flatMap_append]
 simp
theorem eh {α:Type} (g:Nat→List α) (c:Nat) (h:∀ i,(g i).length≤c):∀ n,((List.range n).flatMap g).length≤c * n
 | 0=>by simp
 | n+1=>by
  rw [j5,List.length_append]
  have:=eh g c h n
  have:=h n
  rw [Nat.mul_succ]
  omega
noncomputable section
variable {p:Pos} (hp:aO p) (ht:p.aa=0∨p.aa=1)
include hp ht
theorem Za {a:Nat} (ha:a<64) (p3:Nat) (out:M') (ho:out.length≤100000):∃ r,ud a p p3 (out,0)=some r∧r.1=out++(List.range 64).flatMap (fp p a):=by
 refine bh (I:=fun x=>∃ n:Nat,n≤64∧x=(out++(List.range n).flatMap (fp p a),(n:Int))) (μ:=fun x=>(64-x.2).toNat) ?_ _ ⟨0,by omega,by simp⟩ (by simp)
 rintro _ ⟨n,hn,rfl⟩
 have hsc:(scale 1 (a:Int)).toNat=a:=by unfold scale;simp
 have hlen:=eh (fp p a) 5 (yB p a) n
 unfold DH Lr
 dsimp only
 rw [hsc]
 by_cases hc:n<64
 ·have k175:=t93 hp ht ha hc
  have wa:wr IntKind.i8 (a:Int)=a:=FI (by omega) (by omega)
  have wn:wr IntKind.i8 (n:Int)=n:=FI (by omega) (by omega)
  have kl:(decide (0≤(a:Int))&&decide ((a:Int)<Int.ofNat 64))=true:=by simp;omega
  have kap:((out++(List.range n).flatMap (fp p a)).length==(out++(List.range n).flatMap (fp p a)).length&&decide ((out++(List.range n).flatMap (fp p a)).length+1≤1073741824)&&true)=true:=by
   have:(out++(List.range n).flatMap (fp p a)).length≤1000000:=by rw [List.length_append];omega
   generalize (out++(List.range n).flatMap (fp p a)).length=k at this
   simp
   omega
  have h177:(wh p.variant).length≤5:=by
   unfold wh
   exact au (P:=fun l:List Int=>l.length≤5) (fun _=>by simp) fun _=>au (P:=fun l:List Int=>l.length≤5) (fun _=>by simp) fun _=>by simp
  have hl:=aM (Z4 (wh p.variant) a n p.aa (rh p.aa n) (rh p.aa n != 7) p p3 ⟨a,n,0,0,false⟩ (out++(List.range n).flatMap (fp p a)) h177 (by rw [List.length_append];omega))
  rw [wa,wn,aN (n:=(n:Int)+1) (by omega) (by omega)]
  constructor
  ·refine aq (fun _=>ao k175 fun _=>aq (fun _=>rfl) fun _=>ao kl fun _=>aq (fun _=>kap) fun _=>aq (fun _=>kap) fun _=>ao hl.1 fun _=>rfl) fun _=>rfl
  ·have go:∀ l:M',l=out++(List.range n).flatMap (fp p a)++fp p a n→zS (fun x:M'×Int=>∃ n:Nat,n≤64∧x=(out++(List.range n).flatMap (fp p a),(n:Int))) (fun r:M'×Int×Bool=>r.1=out++(List.range 64).flatMap (fp p a)) (fun x=>(64-x.2).toNat) (64-(n:Int)).toNat (.go (l,(n:Int)+1)):=by
    rintro _ rfl
    exact ⟨⟨n+1,by omega,by rw [j5,List.append_assoc];rfl⟩,by show (64-((n:Int)+1)).toNat<_;omega⟩
   refine au (fun _=>au (fun h1=>?_) fun h1=>au (fun h2=>?_) fun h2=>au (fun h3=>?_) fun h3=>?_) fun h=>absurd h (by simp;omega)
   ·exact go _ (by unfold fp;rw [h1];simp)
   ·exact go _ (by unfold fp;rw [h1,h2];rfl)
   ·exact go _ (by unfold fp;rw [h1,h2,h3];rfl)
   ·exact go _ (by rw [hl.2];unfold fp;rw [h1,h2,h3];rfl)
 ·have e:n=64:=by omega
  subst e
  exact ⟨rfl,rfl⟩
theorem aa8 (p3:Nat):∃ r,nc p p3 ([],0)=some r∧r.1=(List.range 64).flatMap fun a=>(List.range 64).flatMap (fp p a):=by
 refine bh (I:=fun x=>∃ n:Nat,n≤64∧x=((List.range n).flatMap (fun a=>(List.range 64).flatMap (fp p a)),(n:Int))) (μ:=fun x=>(64-x.2).toNat) ?_ _ ⟨0,by omega,by simp⟩ (by simp)
 rintro _ ⟨n,hn,rfl⟩
 have hlen:=eh (fun a=>(List.range 64).flatMap (fp p a)) 320 (fun a=>eh (fp p a) 5 (yB p a) 64) n
 unfold Dz Gg
 dsimp only
 by_cases hc:n<64
 ·have hl:=aM (Za hp ht hc p3 ((List.range n).flatMap (fun a=>(List.range 64).flatMap (fp p a))) (by omega))
  rw [aN (n:=(n:Int)+1) (by omega) (by omega)]
  constructor
  ·exact aq (fun _=>ao hl.1 fun _=>rfl) fun _=>rfl
  ·refine au (fun _=>?_) fun h=>absurd h (by simp;omega)
   rw [hl.2]
   exact ⟨⟨n+1,by omega,by rw [j5 (fun a=>(List.range 64).flatMap (fp p a)) n];rfl⟩,by show (64-((n:Int)+1)).toNat<_;omega⟩
 ·have e:n=64:=by omega
  subst e
  exact ⟨rfl,rfl⟩
end
theorem gF {α β:Type} (q:α→Bool) (g:α→List β):∀ l:List α,(l.filter q).flatMap g=l.flatMap fun a=>bif q a then g a else []
 | []=>rfl
 | a::l=>by
  rw [List.flatMap_cons,← gF q g l]
  cases h:q a with
  | true=>rw [List.filter_cons_of_pos h];rfl
  | false=>rw [List.filter_cons_of_neg (by simp [h])];rfl
theorem lI {α β γ:Type} (f:α→β) (g:β→List γ):∀ l:List α,(l.map f).flatMap g=l.flatMap fun a=>g (f a)
 | []=>rfl
 | a::l=>by rw [List.map_cons,List.flatMap_cons,List.flatMap_cons,lI f g l]
theorem iy {α β:Type} {g h:α→List β}:∀ {l:List α},(∀ a∈l,g a=h a)→l.flatMap g=l.flatMap h
 | [],_=>rfl
 | a::l,e=>by rw [List.flatMap_cons,List.flatMap_cons,e a (by simp),iy fun b hb=>e b (by simp [hb])]
noncomputable section
variable {p:Pos} (hp:aO p) (ht:there p)
include hp ht
theorem CL {a b:Nat} (ha:a<64) (hb:b<64):fp p a b=bif (own p).getLsbD a then (bif (gP (p,own p,gV p) a).getLsbD b then uQ p a b else []) else []:=by
 have t0:=hp.t0
 have htt:p.aa=0∨p.aa=1:=by have:=ht.1;omega
 cases ho:(own p).getLsbD a with
 | false =>
  have e1:=iu hp htt htt ha
  rw [show aK p p.aa 0=own p from rfl,ho] at e1
  have:AM p a b=false:=by
   unfold AM
   rw [e1]
   cases (a:Int)==(b:Int)<;>rfl
  unfold fp
  rw [this]
  rfl
 | true =>
  have hm:AM p a b=(gP (p,own p,gV p) a).getLsbD b:=by
   by_cases hk:bw (p.ae.getD a 0)=1
   ·exact JB hp htt ha hb ho hk
   ·exact Md hp htt ha hb ho hk
  obtain ⟨b0,b1⟩:=eH hp a
  have m91:=(qX b0 b1).1
  unfold fp uQ
  rw [hm,show ((a:Int)).toNat=a by omega,m91]
  obtain ⟨c,hc⟩:∃ c:Fin 2,p.aa=c.val:=by
   rcases htt with h | h
   ·exact ⟨0,h⟩
   ·exact ⟨1,h⟩
  have r1:=(sS c ⟨b,hb⟩).1
  simp only at r1
  rw [← hc] at r1
  rw [r1]
  have hpr:(wh p.variant).map (fun k=>(⟨a,b,k,0,false⟩:Mv))=(iX p.variant).flatMap fun k=>[⟨a,b,k,0,false⟩]:=by
   have v0:=hp.v0
   have v9:=ht.2
   have e:wh p.variant=iX p.variant:=by
    unfold wh iX
    by_cases h4:p.variant=4
    ·rw [h4];rfl
    ·rw [show (p.variant==4)=false by simpa using h4,cond_false]
     by_cases h8:p.variant<8
     ·rw [decide_eq_true h8,cond_true,if_pos ⟨v0,by omega⟩,if_neg h4]
     ·rw [decide_eq_false h8,cond_false,if_neg (by omega)]
   rw [e]
   induction iX p.variant with
   | nil=>rfl
   | cons k l ih=>rw [List.map_cons,List.flatMap_cons,ih];rfl
  rw [hpr]
  cases (gP (p,own p,gV p) a).getLsbD b<;>rfl
theorem Sy:Hd p=true∧FF p=dX p:=by
 have t0:=hp.t0
 have htt:p.aa=0∨p.aa=1:=by have:=ht.1;omega
 have h34:yj p=true:=by
  unfold yj
  rw [decide_eq_true ht.2,decide_eq_true (show p.aa<2 by have:=ht.1;omega)]
  rfl
 have hl:=aM (aa8 hp htt 0)
 constructor
 ·unfold Hd
  rw [h34]
  exact ao hl.1 fun _=>rfl
 ·unfold FF
  rw [h34,j7 hp.v0 ht]
  show (_:M')=_
  rw [show (bif !true then ([]:M') else ((nc p 0 ([],0)).getD default).1)=((nc p 0 ([],0)).getD default).1 from rfl,hl.2]
  unfold jq
  rw [lI,gF]
  refine iy fun a ha=>?_
  have ha:a<64:=List.mem_range.1 ha
  unfold nL jq
  rw [lI,gF]
  have e:(List.range 64).flatMap (fp p a)=(List.range 64).flatMap fun b=>bif (own p).getLsbD a then (bif (gP (p,own p,gV p) a).getLsbD b then uQ p a b else []) else [] :=
   iy fun b hb=>CL hp ht ha (List.mem_range.1 hb)
  rw [e]
  cases (own p).getLsbD a with
  | true=>rfl
  | false =>
   show (List.range 64).flatMap (fun _=>([]:M'))=[]
   induction List.range 64 with
   | nil=>rfl
   | cons x l ih=>rw [List.flatMap_cons,ih];rfl
end
end Kz
end
noncomputable section
namespace Kz
open Go Go.RowKit Go.Proofs
def K55:KT:=[(55,61,[(0,(1::10::11::12::(rn 22 8 (rn 40 10 [])))),(1,(1::3::10::11::12::(rn 22 8 (rn 40 10 [])))),(2,(1::3::13::(rn 22 8 (rn 40 10 [])))),(3,[2]),(4,(1::3::4::(rn 22 8 (rn 40 10 [])))),(5,(1::3::4::16::(rn 22 8 (rn 40 10 [])))),(6,(1::3::4::(rn 22 8 (rn 40 10 [])))),(7,(1::3::4::5::(rn 22 8 (rn 40 10 [])))),(8,(1::3::4::5::(rn 22 9 (rn 40 10 [])))),(9,(1::3::4::5::(rn 22 8 (rn 40 10 [])))),(10,(1::3::4::5::(rn 22 8 (rn 40 11 [])))),(11,(1::3::4::5::(rn 22 8 (rn 40 10 [])))),(12,[2])])]
def YA:aw:=bO Pz K55 [(82,mz)] [] []
theorem Tn:aV YA:=ak aj ⟨mN,trivial⟩ trivial trivial
def QE (p1:Int) (p2:Pos) (p3:Nat) (x:(M'×Int)):St:=St.mk (.any::.ptr 0 0::.any::.list .mv x.1 (.own 1)::.int .u8 p1::.int .i64 x.2::(an 55 [])) (Hp.mk [(pc p2 [])] [p3,x.1.length] [] 0 0 0)
def OU (p1:Int) (p2:Pos) (p3:Nat):(M'×Int×Bool)→Out:=fun y=>.exit 2 (St.mk (.any::.ptr 0 0::.any::.list .mv y.1 (.own 1)::.int .u8 p1::.int .i64 y.2.1::(an 24 (.bool y.2.2::(an 30 [])))) (Hp.mk [(pc p2 [])] [p3,y.1.length] [] 0 0 0))
def rO (p1:Int) (p2:Pos) (p3:Nat) (x:(M'×Int)):aI (M'×Int) ((M'×Int×Bool)):=(bif decide (x.2<64) then (bif decide (p2.af.getD (scale 6 p2.aa+scale 1 p1).toNat 0>0) then (bif bw (p2.ae.getD (scale 1 x.2).toNat 0) != 0 then (aI.go (x.1,wr .i64 (x.2+1))) else (bif p1==1 then (bif decide (x.2<8) then (aI.go (x.1,wr .i64 (x.2+1))) else (bif decide (x.2>55) then (aI.go (x.1,wr .i64 (x.2+1))) else (aI.go (x.1++[Mv.mk (wr .i8 x.2) (wr .i8 x.2) 0 p1 false],wr .i64 (x.2+1))))) else (aI.go (x.1++[Mv.mk (wr .i8 x.2) (wr .i8 x.2) 0 p1 false],wr .i64 (x.2+1))))) else (aI.out ((x.1,x.2,decide (p2.af.getD (scale 6 p2.aa+scale 1 p1).toNat 0>0))))) else (aI.out ((x.1,x.2,false))))
def oJ (p1:Int) (p2:Pos) (p3:Nat) (x:(M'×Int)):Bool:=(bif decide (x.2<64) then (decide (0≤p2.aa)&&decide (p2.aa<Int.ofNat 2)&&(decide (0≤p1)&&decide (p1<Int.ofNat 6)&&(bif decide (p2.af.getD (scale 6 p2.aa+scale 1 p1).toNat 0>0) then (decide (0≤x.2)&&decide (x.2<Int.ofNat 64)&&(bif bw (p2.ae.getD (scale 1 x.2).toNat 0) != 0 then true else (bif p1==1 then (bif decide (x.2<8) then true else (bif decide (x.2>55) then true else (x.1.length==x.1.length&&decide (x.1.length+1≤1073741824)&&true))) else (x.1.length==x.1.length&&decide (x.1.length+1≤1073741824)&&true)))) else true))) else true)
def uD (p1:Int) (p2:Pos) (p3:Nat) (x:(M'×Int)):Option ((M'×Int×Bool)):=da (fun x=>bif oJ p1 p2 p3 x then rO p1 p2 p3 x else .bad) many x
abbrev Qh {α:Type} (k:Int→Pos→Nat→(M'×Int)→α) (s:St):α:=wP s 0 fun q0=>k (tI (tT s 4)) q0 (tK s 0) ((tL (ET.mv) (tT s 3)),(tI (tT s 5)))
theorem Y1 (p1:Int) (p2:Pos) (p3:Nat) (x:(M'×Int)) (r:(M'×Int×Bool)) (h:uD p1 p2 p3 x=some r):aB Pz (bj Pz 55 8) (QE p1 p2 p3 x) (OU p1 p2 p3 r):=smq (m:=12) (fn:=55) Tn (Qh fun _ _ _ x=>some x) (fun o=>match o with | .exit 2 s=>some ((tL ET.mv (tT s 3)),(tI (tT s 5)),(tB (tT s 30))) | _=>none) many x r h
def Kk (b:Code) (s:St):Tr Out:=Qh (fun p1 p2 p3 x=>mH b (bj Pz 55 8) s (QE p1 p2 p3 x) (uD p1 p2 p3 x) (OU p1 p2 p3)) s
theorem Ka:∀ b,aZ Pz b (Kk b):=fun _ _ _ h=>bX (Y1 _ _ _ _) h
def aaq:aw:=bO Pz K55 [(82,mz)] [(55,8,Kk)] []
theorem UW:aV aaq:=ak aj ⟨mN,trivial⟩ ⟨Ka,trivial⟩ trivial
def Ql (p1:Pos) (p2:Nat) (x:(M'×Int)):St:=St.mk (.any::.ptr 0 0::.any::.list .mv x.1 (.own 1)::.int .u8 x.2::(an 56 [])) (Hp.mk [(pc p1 [])] [p2,x.1.length] [] 0 0 0)
def Pq (p1:Pos) (p2:Nat):(M'×Int×Bool)→Out:=fun y=>.exit 0 (St.mk (.any::.ptr 0 0::.any::.list .mv y.1 (.own 1)::.int .u8 y.2.1::(an 11 (.bool y.2.2::(an 44 [])))) (Hp.mk [(pc p1 [])] [p2,y.1.length] [] 0 0 0))
def Kn (p1:Pos) (p2:Nat) (x:(M'×Int)):aI (M'×Int) ((M'×Int×Bool)):=(bif decide (x.2≤5) then (aI.go (((uD x.2 p1 p2 (x.1,0)).getD default).1,wr .u8 (x.2+1))) else (aI.out ((x.1,x.2,decide (x.2≤5)))))
def Cp (p1:Pos) (p2:Nat) (x:(M'×Int)):Bool:=(bif decide (x.2≤5) then ((uD x.2 p1 p2 (x.1,0)).isSome&&true) else true)
def pG (p1:Pos) (p2:Nat) (x:(M'×Int)):Option ((M'×Int×Bool)):=da (fun x=>bif Cp p1 p2 x then Kn p1 p2 x else .bad) many x
abbrev Qw {α:Type} (k:Pos→Nat→(M'×Int)→α) (s:St):α:=wP s 0 fun q0=>k q0 (tK s 0) ((tL (ET.mv) (tT s 3)),(tI (tT s 4)))
theorem aaX (p1:Pos) (p2:Nat) (x:(M'×Int)) (r:(M'×Int×Bool)) (h:pG p1 p2 x=some r):aB Pz (bj Pz 55 5) (Ql p1 p2 x) (Pq p1 p2 r):=smq (m:=12) (fn:=55) UW (Qw fun _ _ x=>some x) (fun o=>match o with | .exit 0 s=>some ((tL ET.mv (tT s 3)),(tI (tT s 4)),(tB (tT s 16))) | _=>none) many x r h
def QP (b:Code) (s:St):Tr Out:=Qw (fun p1 p2 x=>mH b (bj Pz 55 5) s (Ql p1 p2 x) (pG p1 p2 x) (Pq p1 p2)) s
theorem TG:∀ b,aZ Pz b (QP b):=fun _ _ _ h=>bX (aaX _ _ _) h
def B55:aw:=bO Pz K55 [(82,mz)] [(55,8,Kk),(55,5,QP)] []
theorem aej:aV B55:=ak aj ⟨mN,trivial⟩ ⟨Ka,TG,trivial⟩ trivial
def Vu (a:Pos):M':=(bif decide (a.aa>1) then ([]) else (bif a.variant != 2 then ([]) else (((pG a 0 ([],1)).getD default).1)))
def Ha (a:Pos):Bool:=(bif decide (a.aa>1) then true else (bif a.variant != 2 then true else ((pG a 0 ([],1)).isSome&&true)))
theorem P55 (a:Pos) (h:Ha a=true):PS Pz 55 [Pos.av a] ((dL .mv).res (Vu a)):=pq14 aej h
def G55:GT:=g1 aY (fun a=>cg (Ha a) ((dL .mv).res (Vu a)))
theorem s55:Sound Pz 55 G55:=aF fun a=>ay (P55 a)
end Kz
end
noncomputable section
namespace Kz
open Go Go.RowKit
def jy (s:Nat):Bool:=decide (s<8) || decide (s>55)
def eG (p:Pos) (k:Int) (s:Nat):M':=bif bw (p.ae.getD s 0) != 0 then [] else bif k==1 then (bif jy s then [] else [⟨s,s,0,k,false⟩]) else [⟨s,s,0,k,false⟩]
def fN (p:Pos) (k:Int):M':=bif decide (p.af.getD (scale 6 p.aa+scale 1 k).toNat 0>0) then (List.range 64).flatMap (eG p k) else []
theorem vG (p:Pos) (k:Int) (s:Nat):(eG p k s).length≤1:=by
 unfold eG
 exact au (P:=fun l:M'=>l.length≤1) (fun _=>by simp) fun _=>au (P:=fun l:M'=>l.length≤1) (fun _=>au (P:=fun l:M'=>l.length≤1) (fun _=>by simp) fun _=>by simp) fun _=>by simp
noncomputable section
variable {p:Pos} (hp:aO p) (ht:p.aa≤1)
include hp ht
theorem Y8 {k:Int} (k0:0≤k) (k1:k≤5) (p3:Nat) (out:M') (ho:out.length≤100000):∃ r,uD k p p3 (out,0)=some r∧r.1=out++fN p k:=by
 have t0:=hp.t0
 unfold fN
 cases hpk:decide (p.af.getD (scale 6 p.aa+scale 1 k).toNat 0>0) with
 | false =>
  have e:da (fun x=>bif oJ k p p3 x then rO k p p3 x else .bad) 1 (out,0)=some (out,0,false):=by
   rw [da]
   have:(bif oJ k p p3 (out,0) then rO k p p3 (out,0) else .bad)=.out (out,0,false):=by
    unfold oJ rO
    dsimp only
    rw [hpk,show (decide (0≤p.aa)&&decide (p.aa<Int.ofNat 2))=true by simp;omega,show (decide (0≤k)&&decide (k<Int.ofNat 6))=true by simp;omega]
    rfl
   rw [this]
  exact ⟨_,jD _ many _ _ (by unfold many;omega) e,by simp⟩
 | true =>
  rw [cond_true]
  refine bh (I:=fun x=>∃ n:Nat,n≤64∧x=(out++(List.range n).flatMap (eG p k),(n:Int))) (μ:=fun x=>(64-x.2).toNat) ?_ _ ⟨0,by omega,by simp⟩ (by simp)
  rintro _ ⟨n,hn,rfl⟩
  have hsc:(scale 1 (n:Int)).toNat=n:=by unfold scale;simp
  have hlen:=eh (eG p k) 1 (vG p k) n
  unfold oJ rO
  dsimp only
  rw [hsc,hpk]
  by_cases hc:n<64
  ·have wn:wr IntKind.i8 (n:Int)=n:=FI (by omega) (by omega)
   have kt:(decide (0≤p.aa)&&decide (p.aa<Int.ofNat 2))=true:=by simp;omega
   have kk:(decide (0≤k)&&decide (k<Int.ofNat 6))=true:=by simp;omega
   have kn:(decide (0≤(n:Int))&&decide ((n:Int)<Int.ofNat 64))=true:=by simp;omega
   have kap:((out++(List.range n).flatMap (eG p k)).length==(out++(List.range n).flatMap (eG p k)).length&&decide ((out++(List.range n).flatMap (eG p k)).length+1≤1073741824)&&true)=true:=by
    have:(out++(List.range n).flatMap (eG p k)).length≤1000000:=by rw [List.length_append];omega
    generalize (out++(List.range n).flatMap (eG p k)).length=q at this
    simp
    omega
   rw [wn,aN (n:=(n:Int)+1) (by omega) (by omega),show decide ((n:Int)<8)=decide (n<8) by rw [decide_eq_decide];omega,show decide ((n:Int)>55)=decide (n>55) by rw [decide_eq_decide];omega]
   constructor
   ·refine aq (fun _=>ao kt fun _=>ao kk fun _=>aq (fun _=>ao kn fun _=>aq (fun _=>rfl) fun _=>aq (fun _=>aq (fun _=>rfl) fun _=>aq (fun _=>rfl) fun _=>kap) fun _=>kap) fun _=>rfl) fun _=>rfl
   ·have go:∀ l:M',l=out++(List.range n).flatMap (eG p k)++eG p k n→zS (fun x:M'×Int=>∃ n:Nat,n≤64∧x=(out++(List.range n).flatMap (eG p k),(n:Int))) (fun r:M'×Int×Bool=>r.1=out++(List.range 64).flatMap (eG p k)) (fun x=>(64-x.2).toNat) (64-(n:Int)).toNat (.go (l,(n:Int)+1)):=by
     rintro _ rfl
     exact ⟨⟨n+1,by omega,by rw [j5 (eG p k) n,List.append_assoc];rfl⟩,by show (64-((n:Int)+1)).toNat<_;omega⟩
    refine au (fun _=>?_) fun h=>absurd h (by simp;omega)
    rw [cond_true]
    refine au (fun h1=>?_) fun h1=>au (fun h2=>au (fun h3=>?_) fun h3=>au (fun h4=>?_) fun h4=>?_) fun h2=>?_
    ·exact go _ (by unfold eG;rw [h1];simp)
    ·exact go _ (by unfold eG jy;rw [h1,h2,h3];simp)
    ·exact go _ (by unfold eG jy;rw [h1,h2,h3,h4];simp)
    ·exact go _ (by unfold eG jy;rw [h1,h2,h3,h4];rfl)
    ·exact go _ (by unfold eG;rw [h1,h2];rfl)
  ·have e:n=64:=by omega
   subst e
   exact ⟨rfl,rfl⟩
theorem B3 (k:Int):(fN p k).length≤64:=by
 unfold fN
 refine au (P:=fun l:M'=>l.length≤64) (fun _=>?_) fun _=>by simp
 have:=eh (eG p k) 1 (vG p k) 64
 omega
theorem XO:∃ r,pG p 0 ([],1)=some r∧r.1=[1,2,3,4,5].flatMap (fN p):=by
 refine bh (I:=fun x=>∃ n:Nat,n≤5∧x=(([1,2,3,4,5].take n).flatMap (fN p),(n:Int)+1)) (μ:=fun x=>(6-x.2).toNat) ?_ _ ⟨0,by omega,rfl⟩ (by simp)
 rintro _ ⟨n,hn,rfl⟩
 have hlen:=hM (([1,2,3,4,5]:List Int).take n) (fN p) 64 fun k _=>B3 hp ht k
 have htl:(([1,2,3,4,5]:List Int).take n).length≤5:=by rw [List.length_take];simp;omega
 unfold Cp Kn
 dsimp only
 by_cases hc:n<5
 ·have hl:=aM (Y8 hp ht (k:=(n:Int)+1) (by omega) (by omega) 0 ((([1,2,3,4,5]:List Int).take n).flatMap (fN p)) (by omega))
  rw [o6 (n:=(n:Int)+1+1) (by omega) (by omega)]
  constructor
  ·exact aq (fun _=>ao hl.1 fun _=>rfl) fun _=>rfl
  ·refine au (fun _=>?_) fun h=>absurd h (by simp;omega)
   rw [hl.2]
   refine ⟨⟨n+1,by omega,?_⟩,by show (6-((n:Int)+1+1)).toNat<(6-((n:Int)+1)).toNat;omega⟩
   have:(([1,2,3,4,5]:List Int).take (n+1)).flatMap (fN p)=(([1,2,3,4,5]:List Int).take n).flatMap (fN p)++fN p ((n:Int)+1):=by
    have h5:n=0∨n=1∨n=2∨n=3∨n=4:=by omega
    rcases h5 with rfl | rfl | rfl | rfl | rfl<;>simp
   rw [this]
   rfl
 ·have e:n=5:=by omega
  subst e
  exact ⟨rfl,rfl⟩
end
theorem Ue:∀ v:Fin 256,fS v.val=!(bw v.val==0):=by decide +kernel
theorem FY {v:Int} (h0:0≤v) (h1:v≤255):fS v=!(bw v==0):=by
 obtain ⟨n,rfl⟩:=Int.eq_ofNat_of_zero_le h0
 exact Ue ⟨n,by omega⟩
theorem GQ:∀ s:Fin 64,(72057594037927680#64).getLsbD s.val=!jy s.val:=by decide +kernel
theorem Bx {p:Pos} (hp:aO p) (k:Int):fN p k=eW p k:=by
 have hk:0≤p.af.getD (scale 6 p.aa+scale 1 k).toNat 0:=(hQ hp.k0 (by omega) _).1
 have bit:∀ s,s<64→(~~~bg p).getLsbD s=(bw (p.ae.getD s 0)==0):=fun s hs=>by
  obtain ⟨b0,b1⟩:=eH hp s
  rw [BitVec.getLsbD_not,kK _ hs,(FY b0 b1)]
  simp [hs]
 unfold fN eW
 generalize p.af.getD (scale 6 p.aa+scale 1 k).toNat 0=v at hk
 by_cases h0:v=0
 ·rw [h0];rfl
 ·rw [show decide (v>0)=true by simp;omega,show (v==0)=false by simpa using h0,cond_true,cond_false]
  unfold jq
  rw [lI,gF,lI,gF]
  by_cases h1:(k==1)=true
  ·rw [h1,cond_true]
   refine iy fun s hs=>?_
   have hs:s<64:=List.mem_range.1 hs
   rw [BitVec.getLsbD_and,bit s hs,GQ ⟨s,hs⟩]
   unfold eG
   rw [h1]
   cases hz:bw (p.ae.getD s 0)==0
   ·rw [show (bw (p.ae.getD s 0) != 0)=true by simpa using hz];rfl
   ·rw [show (bw (p.ae.getD s 0) != 0)=false by simpa using hz]
    cases jy s<;>rfl
  ·rw [show (k==1)=false by simpa using h1,cond_false]
   refine iy fun s hs=>?_
   have hs:s<64:=List.mem_range.1 hs
   rw [bit s hs]
   unfold eG
   rw [show (k==1)=false by simpa using h1]
   cases hz:bw (p.ae.getD s 0)==0
   ·rw [show (bw (p.ae.getD s 0) != 0)=true by simpa using hz];rfl
   ·rw [show (bw (p.ae.getD s 0) != 0)=false by simpa using hz];rfl
theorem T7 {p:Pos} (hp:aO p):Ha p=true∧Vu p=mG p:=by
 rw [rA hp.t0]
 unfold Ha Vu
 by_cases ht:p.aa≤1
 ·rw [show decide (p.aa>1)=false by simp;omega]
  have hl:=aM (XO hp ht)
  have h112:qS p.variant=(p.variant==2):=by
   have v0:=hp.v0
   unfold qS
   by_cases h2:p.variant=2
   ·rw [h2];rfl
   ·rw [show (p.variant==2)=false by simpa using h2]
    cases decide (p.variant≥9)<;>cases p.variant==0<;>cases p.variant==1<;>cases p.variant==3<;>cases p.variant==4<;>cases p.variant==5<;>cases p.variant==6<;>cases p.variant==7<;>rfl
  rw [h112]
  by_cases h2:p.variant=2
  ·rw [show (p.variant != 2)=false by simp [h2],show (p.variant==2)=true by simp [h2]]
   refine ⟨ao hl.1 fun _=>rfl,?_⟩
   show ((pG p 0 ([],1)).getD default).1=[1,2,3,4,5].flatMap (eW p)
   rw [hl.2,show fN p=eW p from funext fun k=>Bx hp k]
  ·rw [show (p.variant != 2)=true by simpa using h2,show (p.variant==2)=false by simpa using h2]
   exact ⟨rfl,rfl⟩
 ·rw [show decide (p.aa>1)=true by simp;omega]
  exact ⟨rfl,rfl⟩
end Kz
end
noncomputable section
namespace Kz
open Go Go.RowKit Go.Proofs
def acG:KT:=[(156,6,[(0,[0]),(1,[5]),(2,[2,3]),(3,[2,3])])]
def afq:aw:=bO Pz acG [] [] []
theorem Wb:aV afq:=ak aj trivial trivial trivial
def dF (a:Int):(Int×Int):=(bif a==0 then ((6),(5)) else ((2),(3)))
def Zm (a:Int):Bool:=true
theorem aee (a:Int) (h:Zm a=true):PS Pz 156 [.int .i64 a] ((d2 (dI .i64) (dI .i64)).res (dF a)):=pq14 Wb h
def D4:GT:=g1 (dI .i64) (fun a=>.ret ((d2 (dI .i64) (dI .i64)).res (dF a)))
theorem Kl:Sound Pz 156 D4:=aF fun a=>bK (aee a rfl)
def ahI:KT:=[(175,13,[(0,[0,6,7,10,11]),(1,[2])])]
def ahm:aw:=bO Pz ahI [] [] []
theorem aao:aV ahm:=ak aj trivial trivial trivial
def BS (a:Int):Bool:=(bif decide (a<9) then (bif a != 4 then (a != 8) else (false)) else (false))
def ZB (a:Int):Bool:=true
theorem aep (a:Int) (h:ZB a=true):PS Pz 175 [.int .u8 a] (dB.res (BS a)):=pq14 aao h
def TU:GT:=g1 (dI .u8) (fun a=>.ret (dB.res (BS a)))
theorem Xx:Sound Pz 175 TU:=aF fun a=>bK (aep a rfl)
def aed:KT:=[(176,25,[(0,(0::1::2::11::12::13::(rn 16 8 []))),(1,[6])])]
def aic:aw:=bO Pz aed [] [] []
theorem aaJ:aV aic:=ak aj trivial trivial trivial
def fU (a:Int) (b:Int) (c:Int):Bool:=(bif decide (a≥b) then (bif decide (a≤c) then (true) else (bif decide (a≥c) then (decide (a≤b)) else (false))) else (bif decide (a≥c) then (decide (a≤b)) else (false)))
def Y4 (a:Int) (b:Int) (c:Int):Bool:=true
theorem ahP (a:Int) (b:Int) (c:Int) (h:Y4 a b c=true):PS Pz 176 [.int .i64 a,.int .i64 b,.int .i64 c] (dB.res (fU a b c)):=pq14 aaJ h
def TZ:GT:=g3 (dI .i64) (dI .i64) (dI .i64) (fun a b c=>.ret (dB.res (fU a b c)))
theorem YI:Sound Pz 176 TZ:=dg fun a b c=>bK (ahP a b c rfl)
def VP:KT:=[(177,33,[(0,[1,2,9,10,11,22,23,24]),(1,[1,2,5,9,10,11,22,23,24]),(2,(1::2::5::(rn 9 4 [22,23,24]))),(3,[1,2,5,9,10,11,22,23,24]),(4,(1::2::5::9::10::11::(rn 22 4 []))),(5,[4]),(6,[4])])]
def T9:aw:=bO Pz VP [(81,G81),(152,nN),(153,zu)] [] []
theorem NW:aV T9:=ak aj ⟨s81,pd,B6,trivial⟩ trivial trivial
def Ga (p1:Int) (p2:Pos) (x:(Int)):St:=St.mk (.any::.int .i64 p1::.ptr 0 0::.any::.any::.int .i64 x::(an 27 [])) (Hp.mk [(pc p2 [])] [] [] 0 0 0)
def G4 (p1:Int) (p2:Pos):Unit ⊕ (Int×Bool)→Out
 | (.inl (y))=>.ret (St.mk (an 4 (AV.aQ true::(an 28 []))) (Hp.mk [(pc p2 [])] [] [] 0 0 0))
 | (.inr (y))=>.exit 0 (St.mk (AV.any::AV.int .i64 p1::AV.ptr 0 0::AV.any::AV.any::AV.int .i64 y.1::(an 6 (AV.bool y.2::(an 20 [])))) (Hp.mk [(pc p2 [])] [] [] 0 0 0))
def jY (p1:Int) (p2:Pos) (x:(Int)):aI (Int) (Unit ⊕ (Int×Bool)):=(bif decide (x<64) then (bif p2.variant==3 then (bif pX p2 x (wr .u8 (1-p2.aa)) 6 then (bif iH x p1 then (aI.out (.inl (()))) else (aI.go (wr .i64 (x+1)))) else (aI.go (wr .i64 (x+1)))) else (aI.out (.inr ((x,p2.variant==3))))) else (aI.out (.inr ((x,false)))))
def jw (p1:Int) (p2:Pos) (x:(Int)):Bool:=(bif decide (x<64) then (bif p2.variant==3 then (mV (p2) (x) (wr .u8 (1-p2.aa)) (6)&&true) else true) else true)
def lW (p1:Int) (p2:Pos) (x:(Int)):Option (Unit ⊕ (Int×Bool)):=da (fun x=>bif jw p1 p2 x then jY p1 p2 x else .bad) many x
abbrev Kt {α:Type} (k:Int→Pos→(Int)→α) (s:St):α:=wP s 0 fun q0=>k (tI (tT s 1)) q0 ((tI (tT s 5)))
theorem Uk (p1:Int) (p2:Pos) (x:(Int)) (r:Unit ⊕ (Int×Bool)) (h:lW p1 p2 x=some r):aB Pz (bj Pz 177 2) (Ga p1 p2 x) (G4 p1 p2 r):=aB.xO (m:=12) (fn:=177) NW (Kt fun _ _ x=>some x) (fun o=>match o with | .ret s=>some (.inl ()) | .exit 0 s=>some (.inr ((tI (tT s 5)),(tB (tT s 12)))) | _=>none) (fun r=>by cases r<;>rfl) (fun _=>by kernel_rfl) (fun _=>by kernel_rfl) (fun _=>by kernel_rfl) (fun _=>by kernel_rfl) many x r h
def Ko (b:Code) (s:St):Tr Out:=Kt (fun p1 p2 x=>w9 b (bj Pz 177 2) s (Ga p1 p2 x) (lW p1 p2 x) (G4 p1 p2)) s
theorem L7:∀ b,aZ Pz b (Ko b):=fun _ _ _ h=>ez (Uk _ _ _) h
def aiW:aw:=bO Pz VP [(81,G81),(152,nN),(153,zu)] [(177,2,Ko)] []
theorem XH:aV aiW:=ak aj ⟨s81,pd,B6,trivial⟩ ⟨L7,trivial⟩ trivial
def tE (a:Pos) (b:Int):Bool:=(bif cu ((lW b a 0).getD default) then (true) else (Vq a b (wr .u8 (1-a.aa))==0#64))
def uE (a:Pos) (b:Int):Bool:=((lW b a 0).isSome&&bif cu ((lW b a 0).getD default) then true else (EC (a) (b) (wr .u8 (1-a.aa))&&true))
theorem ajt (a:Pos) (b:Int) (h:uE a b=true):PS Pz 177 [Pos.av a,.int .i64 b] (dB.res (tE a b)):=pq14 XH h
def Tw:GT:=g2 aY (dI .i64) (fun a b=>cg (uE a b) (dB.res (tE a b)))
theorem XD:Sound Pz 177 Tw:=aT fun a b=>ay (ajt a b)
def VY:KT:=[(112,138,[(0,(1::2::(rn 20 4 (rn 45 4 (51::52::55::56::(rn 68 7 (rn 77 7 (rn 112 6 (rn 120 6 (rn 128 7 [])))))))))),(1,(1::2::24::(rn 45 4 (51::52::55::56::(rn 68 7 (rn 77 7 (rn 112 6 (rn 120 6 (rn 128 7 []))))))))),(2,[4,5,6]),(3,(1::2::7::(rn 45 4 (51::52::55::56::(rn 68 7 (rn 77 7 (rn 112 6 (rn 120 6 (rn 128 7 []))))))))),(4,(1::2::7::8::(rn 45 4 (51::52::55::56::(rn 68 7 (rn 77 7 (rn 112 6 (rn 120 6 (rn 128 7 []))))))))),(5,(1::2::7::8::9::(rn 45 4 (51::52::55::56::(rn 68 7 (rn 77 7 (rn 112 6 (rn 120 6 (rn 128 7 []))))))))),(6,(1::2::7::8::9::57::(rn 68 7 (rn 77 7 (rn 112 6 (rn 120 6 (rn 128 7 []))))))),(7,[4,5,6]),(8,(1::2::7::8::10::(rn 68 7 (rn 77 7 (rn 112 6 (rn 120 6 (rn 128 7 []))))))),(9,(1::2::7::8::10::84::(rn 112 6 (rn 120 6 (rn 128 7 []))))),(10,[4,5,6]),(11,(2::7::8::10::11::12::(rn 112 6 (rn 120 6 (rn 128 7 []))))),(12,(7::8::(rn 10 4 (rn 112 6 (rn 120 6 (rn 128 7 [])))))),(13,(7::8::(rn 10 4 (rn 112 6 (rn 120 6 (rn 128 7 [])))))),(14,(7::8::(rn 10 4 (rn 112 6 (rn 120 6 (rn 128 7 [])))))),(15,(7::8::(rn 10 5 (rn 112 6 (rn 120 6 (rn 128 7 [])))))),(16,(7::8::(rn 10 5 (101::(rn 112 6 (rn 120 6 (rn 128 7 []))))))),(17,(7::8::(rn 10 5 (rn 112 6 (rn 120 6 (rn 128 7 [])))))),(18,(7::8::(rn 10 6 (rn 112 6 (rn 120 6 (rn 128 7 [])))))),(19,(7::8::(rn 10 5 (rn 112 6 (rn 120 6 (rn 128 8 [])))))),(20,[4,5,6]),(21,[4,5,6])])]
def RZ:aw:=bO Pz VY [(82,mz),(150,xn),(152,nN),(156,D4),(175,TU),(176,TZ),(177,Tw)] [] []
theorem M6:aV RZ:=ak aj ⟨mN,zh,pd,Kl,Xx,YI,XD,trivial⟩ trivial trivial
def JT (p1:Int) (p2:Int) (p3:Int) (p4:Int) (p5:Int) (p6:Pos) (p7:Pos) (x:(Int)):St:=St.mk (an 7 (.int .i64 p1::.int .i64 p2::.any::.int .i64 p3::.int .i64 p4::.int .i64 p5::.ptr 1 0::.int .i64 x::(an 123 []))) (Hp.mk [(pc p6 []),(pc p7 [])] [] [] 0 0 0)
def IF (p1:Int) (p2:Int) (p3:Int) (p4:Int) (p5:Int) (p6:Pos) (p7:Pos):Unit ⊕ (Int×Bool)→Out
 | (.inl (y))=>.ret (St.mk (an 4 (AV.bm .i64 0::AV.bm .i64 0::AV.aQ false::(an 131 []))) (Hp.mk [(pc p6 []),(pc p7 [])] [] [] 0 0 0))
 | (.inr (y))=>.exit 0 (St.mk (an 7 (AV.int .i64 p1::AV.int .i64 p2::AV.any::AV.int .i64 p3::AV.int .i64 p4::AV.int .i64 p5::AV.ptr 1 0::AV.int .i64 y.1::(an 86 (AV.bool y.2::(an 36 []))))) (Hp.mk [(pc p6 []),(pc p7 [])] [] [] 0 0 0))
def xV (p1:Int) (p2:Int) (p3:Int) (p4:Int) (p5:Int) (p6:Pos) (p7:Pos) (x:(Int)):aI (Int) (Unit ⊕ (Int×Bool)):=(bif decide (x<wr .i64 (p1+8)) then (bif fU x p2 (wr .i64 (p1+p4)) then (bif bw (p7.ae.getD (scale 1 x).toNat 0) != 0 then (aI.out (.inl (()))) else (bif fU x p2 (wr .i64 (p1+p4)) then (bif !tE p7 x then (aI.out (.inl (()))) else (aI.go (wr .i64 (x+1)))) else (aI.go (wr .i64 (x+1))))) else (bif fU x p3 (wr .i64 (p1+p5)) then (bif bw (p7.ae.getD (scale 1 x).toNat 0) != 0 then (aI.out (.inl (()))) else (bif fU x p2 (wr .i64 (p1+p4)) then (bif !tE p7 x then (aI.out (.inl (()))) else (aI.go (wr .i64 (x+1)))) else (aI.go (wr .i64 (x+1))))) else (bif fU x p2 (wr .i64 (p1+p4)) then (bif !tE p7 x then (aI.out (.inl (()))) else (aI.go (wr .i64 (x+1)))) else (aI.go (wr .i64 (x+1)))))) else (aI.out (.inr ((x,decide (x<wr .i64 (p1+8)))))))
def Ad (p1:Int) (p2:Int) (p3:Int) (p4:Int) (p5:Int) (p6:Pos) (p7:Pos) (x:(Int)):Bool:=(bif decide (x<wr .i64 (p1+8)) then (bif fU x p2 (wr .i64 (p1+p4)) then (decide (0≤x)&&decide (x<Int.ofNat 64)&&(bif bw (p7.ae.getD (scale 1 x).toNat 0) != 0 then true else (bif fU x p2 (wr .i64 (p1+p4)) then (uE (p7) (x)&&true) else true))) else (bif fU x p3 (wr .i64 (p1+p5)) then (decide (0≤x)&&decide (x<Int.ofNat 64)&&(bif bw (p7.ae.getD (scale 1 x).toNat 0) != 0 then true else (bif fU x p2 (wr .i64 (p1+p4)) then (uE (p7) (x)&&true) else true))) else (bif fU x p2 (wr .i64 (p1+p4)) then (uE (p7) (x)&&true) else true))) else true)
def cA (p1:Int) (p2:Int) (p3:Int) (p4:Int) (p5:Int) (p6:Pos) (p7:Pos) (x:(Int)):Option (Unit ⊕ (Int×Bool)):=da (fun x=>bif Ad p1 p2 p3 p4 p5 p6 p7 x then xV p1 p2 p3 p4 p5 p6 p7 x else .bad) many x
abbrev GZ {α:Type} (k:Int→Int→Int→Int→Int→Pos→Pos→(Int)→α) (s:St):α:=wP s 0 fun q0=>wP s 1 fun q1=>k (tI (tT s 7)) (tI (tT s 8)) (tI (tT s 10)) (tI (tT s 11)) (tI (tT s 12)) q0 q1 ((tI (tT s 14)))
theorem Tj (p1:Int) (p2:Int) (p3:Int) (p4:Int) (p5:Int) (p6:Pos) (p7:Pos) (x:(Int)) (r:Unit ⊕ (Int×Bool)) (h:cA p1 p2 p3 p4 p5 p6 p7 x=some r):aB Pz (bj Pz 112 16) (JT p1 p2 p3 p4 p5 p6 p7 x) (IF p1 p2 p3 p4 p5 p6 p7 r):=aB.xO (m:=12) (fn:=112) M6 (GZ fun _ _ _ _ _ _ _ x=>some x) (fun o=>match o with | .ret s=>some (.inl ()) | .exit 0 s=>some (.inr ((tI (tT s 14)),(tB (tT s 101)))) | _=>none) (fun r=>by cases r<;>rfl) (fun _=>by kernel_rfl) (fun _=>by kernel_rfl) (fun _=>by kernel_rfl) (fun _=>by kernel_rfl) many x r h
def Ku (b:Code) (s:St):Tr Out:=GZ (fun p1 p2 p3 p4 p5 p6 p7 x=>w9 b (bj Pz 112 16) s (JT p1 p2 p3 p4 p5 p6 p7 x) (cA p1 p2 p3 p4 p5 p6 p7 x) (IF p1 p2 p3 p4 p5 p6 p7)) s
theorem NP:∀ b,aZ Pz b (Ku b):=fun _ _ _ h=>ez (Tj _ _ _ _ _ _ _ _) h
def afj:aw:=bO Pz VY [(82,mz),(150,xn),(152,nN),(156,D4),(175,TU),(176,TZ),(177,Tw)] [(112,16,Ku)] []
theorem X0:aV afj:=ak aj ⟨mN,zh,pd,Kl,Xx,YI,XD,trivial⟩ ⟨NP,trivial⟩ trivial
def fE (a:Pos) (b:Int):(Int×Int×Bool):=(bif decide (a.aa>1) then ((0),(0),(false)) else (bif !BS a.variant then ((0),(0),(false)) else (bif decide (cr a a.aa 6<wr .i64 (56 * wr .i64 a.aa)) then ((0),(0),(false)) else (bif decide (cr a a.aa 6>wr .i64 (wr .i64 (56 * wr .i64 a.aa)+7)) then ((0),(0),(false)) else (bif decide (wr .i64 (a.ai.getD (scale 2 a.aa+scale 1 b).toNat 0)<0) then ((0),(0),(false)) else (bif decide (wr .i64 (a.ai.getD (scale 2 a.aa+scale 1 b).toNat 0)>7) then ((0),(0),(false)) else (bif !pX a (wr .i64 (wr .i64 (56 * wr .i64 a.aa)+wr .i64 (a.ai.getD (scale 2 a.aa+scale 1 b).toNat 0))) a.aa 4 then ((0),(0),(false)) else (bif b==0 then (bif decide (wr .i64 (wr .i64 (56 * wr .i64 a.aa)+wr .i64 (a.ai.getD (scale 2 a.aa+scale 1 b).toNat 0))<cr a a.aa 6) then ((0),(0),(false)) else (bif b==1 then (bif decide (wr .i64 (wr .i64 (56 * wr .i64 a.aa)+wr .i64 (a.ai.getD (scale 2 a.aa+scale 1 b).toNat 0))>cr a a.aa 6) then ((0),(0),(false)) else (bif cu ((cA (wr .i64 (56 * wr .i64 a.aa)) (cr a a.aa 6) (wr .i64 (wr .i64 (56 * wr .i64 a.aa)+wr .i64 (a.ai.getD (scale 2 a.aa+scale 1 b).toNat 0))) (dF b).1 (dF b).2 a (Pos.mk a.variant ((a.ae.set (scale 1 (cr a a.aa 6)).toNat 0).set (scale 1 (wr .i64 (wr .i64 (56 * wr .i64 a.aa)+wr .i64 (a.ai.getD (scale 2 a.aa+scale 1 b).toNat 0)))).toNat 0) a.ab a.af a.aa a.ai a.ah a.ag a.half a.full) (wr .i64 (56 * wr .i64 a.aa))).getD default) then ((0),(0),(false)) else ((cr a a.aa 6),(wr .i64 (wr .i64 (56 * wr .i64 a.aa)+wr .i64 (a.ai.getD (scale 2 a.aa+scale 1 b).toNat 0))),(true)))) else (bif cu ((cA (wr .i64 (56 * wr .i64 a.aa)) (cr a a.aa 6) (wr .i64 (wr .i64 (56 * wr .i64 a.aa)+wr .i64 (a.ai.getD (scale 2 a.aa+scale 1 b).toNat 0))) (dF b).1 (dF b).2 a (Pos.mk a.variant ((a.ae.set (scale 1 (cr a a.aa 6)).toNat 0).set (scale 1 (wr .i64 (wr .i64 (56 * wr .i64 a.aa)+wr .i64 (a.ai.getD (scale 2 a.aa+scale 1 b).toNat 0)))).toNat 0) a.ab a.af a.aa a.ai a.ah a.ag a.half a.full) (wr .i64 (56 * wr .i64 a.aa))).getD default) then ((0),(0),(false)) else ((cr a a.aa 6),(wr .i64 (wr .i64 (56 * wr .i64 a.aa)+wr .i64 (a.ai.getD (scale 2 a.aa+scale 1 b).toNat 0))),(true))))) else (bif b==1 then (bif decide (wr .i64 (wr .i64 (56 * wr .i64 a.aa)+wr .i64 (a.ai.getD (scale 2 a.aa+scale 1 b).toNat 0))>cr a a.aa 6) then ((0),(0),(false)) else (bif cu ((cA (wr .i64 (56 * wr .i64 a.aa)) (cr a a.aa 6) (wr .i64 (wr .i64 (56 * wr .i64 a.aa)+wr .i64 (a.ai.getD (scale 2 a.aa+scale 1 b).toNat 0))) (dF b).1 (dF b).2 a (Pos.mk a.variant ((a.ae.set (scale 1 (cr a a.aa 6)).toNat 0).set (scale 1 (wr .i64 (wr .i64 (56 * wr .i64 a.aa)+wr .i64 (a.ai.getD (scale 2 a.aa+scale 1 b).toNat 0)))).toNat 0) a.ab a.af a.aa a.ai a.ah a.ag a.half a.full) (wr .i64 (56 * wr .i64 a.aa))).getD default) then ((0),(0),(false)) else ((cr a a.aa 6),(wr .i64 (wr .i64 (56 * wr .i64 a.aa)+wr .i64 (a.ai.getD (scale 2 a.aa+scale 1 b).toNat 0))),(true)))) else (bif cu ((cA (wr .i64 (56 * wr .i64 a.aa)) (cr a a.aa 6) (wr .i64 (wr .i64 (56 * wr .i64 a.aa)+wr .i64 (a.ai.getD (scale 2 a.aa+scale 1 b).toNat 0))) (dF b).1 (dF b).2 a (Pos.mk a.variant ((a.ae.set (scale 1 (cr a a.aa 6)).toNat 0).set (scale 1 (wr .i64 (wr .i64 (56 * wr .i64 a.aa)+wr .i64 (a.ai.getD (scale 2 a.aa+scale 1 b).toNat 0)))).toNat 0) a.ab a.af a.aa a.ai a.ah a.ag a.half a.full) (wr .i64 (56 * wr .i64 a.aa))).getD default) then ((0),(0),(false)) else ((cr a a.aa 6),(wr .i64 (wr .i64 (56 * wr .i64 a.aa)+wr .i64 (a.ai.getD (scale 2 a.aa+scale 1 b).toNat 0))),(true))))))))))))
def lM (a:Pos) (b:Int):Bool:=(bif decide (a.aa>1) then true else (bif !BS a.variant then true else (uC (a) (a.aa) (6)&&(decide (0≤a.aa)&&decide (a.aa<Int.ofNat 2)&&(decide (0≤b)&&decide (b<Int.ofNat 2)&&(bif decide (cr a a.aa 6<wr .i64 (56 * wr .i64 a.aa)) then true else (bif decide (cr a a.aa 6>wr .i64 (wr .i64 (56 * wr .i64 a.aa)+7)) then true else (bif decide (wr .i64 (a.ai.getD (scale 2 a.aa+scale 1 b).toNat 0)<0) then true else (bif decide (wr .i64 (a.ai.getD (scale 2 a.aa+scale 1 b).toNat 0)>7) then true else (mV (a) (wr .i64 (wr .i64 (56 * wr .i64 a.aa)+wr .i64 (a.ai.getD (scale 2 a.aa+scale 1 b).toNat 0))) (a.aa) (4)&&(bif !pX a (wr .i64 (wr .i64 (56 * wr .i64 a.aa)+wr .i64 (a.ai.getD (scale 2 a.aa+scale 1 b).toNat 0))) a.aa 4 then true else (bif b==0 then (bif decide (wr .i64 (wr .i64 (56 * wr .i64 a.aa)+wr .i64 (a.ai.getD (scale 2 a.aa+scale 1 b).toNat 0))<cr a a.aa 6) then true else (bif b==1 then (bif decide (wr .i64 (wr .i64 (56 * wr .i64 a.aa)+wr .i64 (a.ai.getD (scale 2 a.aa+scale 1 b).toNat 0))>cr a a.aa 6) then true else (decide (0≤cr a a.aa 6)&&decide (cr a a.aa 6<Int.ofNat 64)&&(decide (0≤wr .i64 (wr .i64 (56 * wr .i64 a.aa)+wr .i64 (a.ai.getD (scale 2 a.aa+scale 1 b).toNat 0)))&&decide (wr .i64 (wr .i64 (56 * wr .i64 a.aa)+wr .i64 (a.ai.getD (scale 2 a.aa+scale 1 b).toNat 0))<Int.ofNat 64)&&((cA (wr .i64 (56 * wr .i64 a.aa)) (cr a a.aa 6) (wr .i64 (wr .i64 (56 * wr .i64 a.aa)+wr .i64 (a.ai.getD (scale 2 a.aa+scale 1 b).toNat 0))) (dF b).1 (dF b).2 a (Pos.mk a.variant ((a.ae.set (scale 1 (cr a a.aa 6)).toNat 0).set (scale 1 (wr .i64 (wr .i64 (56 * wr .i64 a.aa)+wr .i64 (a.ai.getD (scale 2 a.aa+scale 1 b).toNat 0)))).toNat 0) a.ab a.af a.aa a.ai a.ah a.ag a.half a.full) (wr .i64 (56 * wr .i64 a.aa))).isSome&&bif cu ((cA (wr .i64 (56 * wr .i64 a.aa)) (cr a a.aa 6) (wr .i64 (wr .i64 (56 * wr .i64 a.aa)+wr .i64 (a.ai.getD (scale 2 a.aa+scale 1 b).toNat 0))) (dF b).1 (dF b).2 a (Pos.mk a.variant ((a.ae.set (scale 1 (cr a a.aa 6)).toNat 0).set (scale 1 (wr .i64 (wr .i64 (56 * wr .i64 a.aa)+wr .i64 (a.ai.getD (scale 2 a.aa+scale 1 b).toNat 0)))).toNat 0) a.ab a.af a.aa a.ai a.ah a.ag a.half a.full) (wr .i64 (56 * wr .i64 a.aa))).getD default) then true else true)))) else (decide (0≤cr a a.aa 6)&&decide (cr a a.aa 6<Int.ofNat 64)&&(decide (0≤wr .i64 (wr .i64 (56 * wr .i64 a.aa)+wr .i64 (a.ai.getD (scale 2 a.aa+scale 1 b).toNat 0)))&&decide (wr .i64 (wr .i64 (56 * wr .i64 a.aa)+wr .i64 (a.ai.getD (scale 2 a.aa+scale 1 b).toNat 0))<Int.ofNat 64)&&((cA (wr .i64 (56 * wr .i64 a.aa)) (cr a a.aa 6) (wr .i64 (wr .i64 (56 * wr .i64 a.aa)+wr .i64 (a.ai.getD (scale 2 a.aa+scale 1 b).toNat 0))) (dF b).1 (dF b).2 a (Pos.mk a.variant ((a.ae.set (scale 1 (cr a a.aa 6)).toNat 0).set (scale 1 (wr .i64 (wr .i64 (56 * wr .i64 a.aa)+wr .i64 (a.ai.getD (scale 2 a.aa+scale 1 b).toNat 0)))).toNat 0) a.ab a.af a.aa a.ai a.ah a.ag a.half a.full) (wr .i64 (56 * wr .i64 a.aa))).isSome&&bif cu ((cA (wr .i64 (56 * wr .i64 a.aa)) (cr a a.aa 6) (wr .i64 (wr .i64 (56 * wr .i64 a.aa)+wr .i64 (a.ai.getD (scale 2 a.aa+scale 1 b).toNat 0))) (dF b).1 (dF b).2 a (Pos.mk a.variant ((a.ae.set (scale 1 (cr a a.aa 6)).toNat 0).set (scale 1 (wr .i64 (wr .i64 (56 * wr .i64 a.aa)+wr .i64 (a.ai.getD (scale 2 a.aa+scale 1 b).toNat 0)))).toNat 0) a.ab a.af a.aa a.ai a.ah a.ag a.half a.full) (wr .i64 (56 * wr .i64 a.aa))).getD default) then true else true))))) else (bif b==1 then (bif decide (wr .i64 (wr .i64 (56 * wr .i64 a.aa)+wr .i64 (a.ai.getD (scale 2 a.aa+scale 1 b).toNat 0))>cr a a.aa 6) then true else (decide (0≤cr a a.aa 6)&&decide (cr a a.aa 6<Int.ofNat 64)&&(decide (0≤wr .i64 (wr .i64 (56 * wr .i64 a.aa)+wr .i64 (a.ai.getD (scale 2 a.aa+scale 1 b).toNat 0)))&&decide (wr .i64 (wr .i64 (56 * wr .i64 a.aa)+wr .i64 (a.ai.getD (scale 2 a.aa+scale 1 b).toNat 0))<Int.ofNat 64)&&((cA (wr .i64 (56 * wr .i64 a.aa)) (cr a a.aa 6) (wr .i64 (wr .i64 (56 * wr .i64 a.aa)+wr .i64 (a.ai.getD (scale 2 a.aa+scale 1 b).toNat 0))) (dF b).1 (dF b).2 a (Pos.mk a.variant ((a.ae.set (scale 1 (cr a a.aa 6)).toNat 0).set (scale 1 (wr .i64 (wr .i64 (56 * wr .i64 a.aa)+wr .i64 (a.ai.getD (scale 2 a.aa+scale 1 b).toNat 0)))).toNat 0) a.ab a.af a.aa a.ai a.ah a.ag a.half a.full) (wr .i64 (56 * wr .i64 a.aa))).isSome&&bif cu ((cA (wr .i64 (56 * wr .i64 a.aa)) (cr a a.aa 6) (wr .i64 (wr .i64 (56 * wr .i64 a.aa)+wr .i64 (a.ai.getD (scale 2 a.aa+scale 1 b).toNat 0))) (dF b).1 (dF b).2 a (Pos.mk a.variant ((a.ae.set (scale 1 (cr a a.aa 6)).toNat 0).set (scale 1 (wr .i64 (wr .i64 (56 * wr .i64 a.aa)+wr .i64 (a.ai.getD (scale 2 a.aa+scale 1 b).toNat 0)))).toNat 0) a.ab a.af a.aa a.ai a.ah a.ag a.half a.full) (wr .i64 (56 * wr .i64 a.aa))).getD default) then true else true)))) else (decide (0≤cr a a.aa 6)&&decide (cr a a.aa 6<Int.ofNat 64)&&(decide (0≤wr .i64 (wr .i64 (56 * wr .i64 a.aa)+wr .i64 (a.ai.getD (scale 2 a.aa+scale 1 b).toNat 0)))&&decide (wr .i64 (wr .i64 (56 * wr .i64 a.aa)+wr .i64 (a.ai.getD (scale 2 a.aa+scale 1 b).toNat 0))<Int.ofNat 64)&&((cA (wr .i64 (56 * wr .i64 a.aa)) (cr a a.aa 6) (wr .i64 (wr .i64 (56 * wr .i64 a.aa)+wr .i64 (a.ai.getD (scale 2 a.aa+scale 1 b).toNat 0))) (dF b).1 (dF b).2 a (Pos.mk a.variant ((a.ae.set (scale 1 (cr a a.aa 6)).toNat 0).set (scale 1 (wr .i64 (wr .i64 (56 * wr .i64 a.aa)+wr .i64 (a.ai.getD (scale 2 a.aa+scale 1 b).toNat 0)))).toNat 0) a.ab a.af a.aa a.ai a.ah a.ag a.half a.full) (wr .i64 (56 * wr .i64 a.aa))).isSome&&bif cu ((cA (wr .i64 (56 * wr .i64 a.aa)) (cr a a.aa 6) (wr .i64 (wr .i64 (56 * wr .i64 a.aa)+wr .i64 (a.ai.getD (scale 2 a.aa+scale 1 b).toNat 0))) (dF b).1 (dF b).2 a (Pos.mk a.variant ((a.ae.set (scale 1 (cr a a.aa 6)).toNat 0).set (scale 1 (wr .i64 (wr .i64 (56 * wr .i64 a.aa)+wr .i64 (a.ai.getD (scale 2 a.aa+scale 1 b).toNat 0)))).toNat 0) a.ab a.af a.aa a.ai a.ah a.ag a.half a.full) (wr .i64 (56 * wr .i64 a.aa))).getD default) then true else true))))))))))))))))
theorem abU (a:Pos) (b:Int) (h:lM a b=true):PS Pz 112 [Pos.av a,.int .i64 b] ((d3 (dI .i64) (dI .i64) dB).res (fE a b)):=pq14 X0 h
def Rk:GT:=g2 aY (dI .i64) (fun a b=>cg (lM a b) ((d3 (dI .i64) (dI .i64) dB).res (fE a b)))
theorem YY:Sound Pz 112 Rk:=aT fun a b=>ay (abU a b)
def K54:KT:=[(54,29,[(0,[1]),(1,[1,3]),(2,[1,3,4]),(3,[1,3,4,9]),(4,[1,3,4]),(5,(1::(rn 3 5 []))),(6,(1::(rn 3 4 [19]))),(7,[1,3,4]),(8,[2])])]
def aap:aw:=bO Pz K54 [(112,Rk)] [] []
theorem Ry:aV aap:=ak aj ⟨YY,trivial⟩ trivial trivial
def Qs (p1:Pos) (p2:Nat) (x:(M'×Int)):St:=St.mk (.any::.ptr 0 0::.any::.list .mv x.1 (.own 1)::.int .i64 x.2::(an 24 [])) (Hp.mk [(pc p1 [])] [p2,x.1.length] [] 0 0 0)
def QJ (p1:Pos) (p2:Nat):(M'×Int×Bool)→Out:=fun y=>.exit 0 (St.mk (.any::.ptr 0 0::.any::.list .mv y.1 (.own 1)::.int .i64 y.2.1::(an 4 (.bool y.2.2::(an 19 [])))) (Hp.mk [(pc p1 [])] [p2,y.1.length] [] 0 0 0))
def xF (p1:Pos) (p2:Nat) (x:(M'×Int)):aI (M'×Int) ((M'×Int×Bool)):=(bif decide (x.2≥0) then (bif (fE p1 x.2).2.2 then (aI.go (x.1++[Mv.mk (wr .i8 (fE p1 x.2).1) (wr .i8 (fE p1 x.2).2.1) 0 0 true],wr .i64 (x.2-1))) else (aI.go (x.1,wr .i64 (x.2-1)))) else (aI.out ((x.1,x.2,decide (x.2≥0)))))
def rm (p1:Pos) (p2:Nat) (x:(M'×Int)):Bool:=(bif decide (x.2≥0) then (lM (p1) (x.2)&&(bif (fE p1 x.2).2.2 then (x.1.length==x.1.length&&decide (x.1.length+1≤1073741824)&&true) else true)) else true)
def tx (p1:Pos) (p2:Nat) (x:(M'×Int)):Option ((M'×Int×Bool)):=da (fun x=>bif rm p1 p2 x then xF p1 p2 x else .bad) many x
abbrev Pv {α:Type} (k:Pos→Nat→(M'×Int)→α) (s:St):α:=wP s 0 fun q0=>k q0 (tK s 0) ((tL (ET.mv) (tT s 3)),(tI (tT s 4)))
theorem Yt (p1:Pos) (p2:Nat) (x:(M'×Int)) (r:(M'×Int×Bool)) (h:tx p1 p2 x=some r):aB Pz (bj Pz 54 3) (Qs p1 p2 x) (QJ p1 p2 r):=smq (m:=12) (fn:=54) Ry (Pv fun _ _ x=>some x) (fun o=>match o with | .exit 0 s=>some ((tL ET.mv (tT s 3)),(tI (tT s 4)),(tB (tT s 9))) | _=>none) many x r h
def Qg (b:Code) (s:St):Tr Out:=Pv (fun p1 p2 x=>mH b (bj Pz 54 3) s (Qs p1 p2 x) (tx p1 p2 x) (QJ p1 p2)) s
theorem S8:∀ b,aZ Pz b (Qg b):=fun _ _ _ h=>bX (Yt _ _ _) h
def B54:aw:=bO Pz K54 [(112,Rk)] [(54,3,Qg)] []
theorem afe:aV B54:=ak aj ⟨YY,trivial⟩ ⟨S8,trivial⟩ trivial
def GL (a:Pos):M':=(((tx a 0 ([],1)).getD default).1)
def Bc (a:Pos):Bool:=((tx a 0 ([],1)).isSome&&true)
theorem P54 (a:Pos) (h:Bc a=true):PS Pz 54 [Pos.av a] ((dL .mv).res (GL a)):=pq14 afe h
def G54:GT:=g1 aY (fun a=>cg (Bc a) ((dL .mv).res (GL a)))
theorem s54:Sound Pz 54 G54:=aF fun a=>ay (P54 a)
end Kz
end
