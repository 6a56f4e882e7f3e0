/- Part 5 of the texts under the proof: an abstract interpreter,the summaries of functions,plain laws. -/
import Derived.Test.YtgbndomcmihfkaaGreatDoorD4
import Derived.Shelf.SlicesE.Clone
import Derived.Shelf.SlicesQ.IndexFunc
import Derived.Sort.WalkB12
import Derived.Shelf.SlicesQ.Load
import Derived.Lib.SliceRun
import Derived.Lib.SlKept
import Derived.Lib.Hide
import Derived.Shelf.SlicesE.DeleteFunc
set_option linter.unusedSectionVars false
set_option linter.unusedVariables false
set_option linter.unusedSimpArgs false
set_option linter.unnecessarySimpa false
set_option maxRecDepth 100000
set_option maxHeartbeats 4000000
noncomputable section
namespace Kz
open Go Go.RowKit Go.Proofs
def ad0:KT:=[(137,29,[(0,[2,3]),(1,[2,7]),(2,[2,7,13]),(3,[4,5,6]),(4,[2,8]),(5,[4,5,6])]),(196,4,[(0,[0]),(1,[0])])]
def ahM:aw:=bO Pz ad0 [(190,xp),(195,Yd)] [] []
theorem ZJ:aW ahM:=aj ak ⟨zk,ahP,trivial⟩ trivial trivial
def ga (a:Pos) (b:Mv):(Int×Int×Bool):=(bif decide (gM (Pos.mk a.variant a.ae a.ab a.af a.aa a.ai a.ah a.ag a.half a.full) (Mv.mk b.az b.to b.bQ b.aX b.bP)<0) then ((0),(0),(false)) else ((wr .i64 (cg a.aa+(if 2=2 then List.take 2 (List.drop ((gM (Pos.mk a.variant a.ae a.ab a.af a.aa a.ai a.ah a.ag a.half a.full) (Mv.mk b.az b.to b.bQ b.aX b.bP)).toNat * 2) (if 4=4 then if 2=4 then ((List.replicate 2 0).set 0 2).set 1 3 else List.take 2 (if 2=4 then ((List.replicate 2 0).set 0 6).set 1 5 else List.take 0 (List.replicate 4 0)++((List.replicate 2 0).set 0 6).set 1 5++List.drop 2 (List.replicate 4 0))++((List.replicate 2 0).set 0 2).set 1 3++List.drop 4 (if 2=4 then ((List.replicate 2 0).set 0 6).set 1 5 else List.take 0 (List.replicate 4 0)++((List.replicate 2 0).set 0 6).set 1 5++List.drop 2 (List.replicate 4 0)) else (List.take 0 (List.replicate 4 0)++if 2=4 then ((List.replicate 2 0).set 0 2).set 1 3 else List.take 2 (if 2=4 then ((List.replicate 2 0).set 0 6).set 1 5 else List.take 0 (List.replicate 4 0)++((List.replicate 2 0).set 0 6).set 1 5++List.drop 2 (List.replicate 4 0))++((List.replicate 2 0).set 0 2).set 1 3++List.drop 4 (if 2=4 then ((List.replicate 2 0).set 0 6).set 1 5 else List.take 0 (List.replicate 4 0)++((List.replicate 2 0).set 0 6).set 1 5++List.drop 2 (List.replicate 4 0)))++List.drop 4 (List.replicate 4 0))) else List.take 0 (List.replicate 2 0)++List.take 2 (List.drop ((gM (Pos.mk a.variant a.ae a.ab a.af a.aa a.ai a.ah a.ag a.half a.full) (Mv.mk b.az b.to b.bQ b.aX b.bP)).toNat * 2) (if 4=4 then if 2=4 then ((List.replicate 2 0).set 0 2).set 1 3 else List.take 2 (if 2=4 then ((List.replicate 2 0).set 0 6).set 1 5 else List.take 0 (List.replicate 4 0)++((List.replicate 2 0).set 0 6).set 1 5++List.drop 2 (List.replicate 4 0))++((List.replicate 2 0).set 0 2).set 1 3++List.drop 4 (if 2=4 then ((List.replicate 2 0).set 0 6).set 1 5 else List.take 0 (List.replicate 4 0)++((List.replicate 2 0).set 0 6).set 1 5++List.drop 2 (List.replicate 4 0)) else (List.take 0 (List.replicate 4 0)++if 2=4 then ((List.replicate 2 0).set 0 2).set 1 3 else List.take 2 (if 2=4 then ((List.replicate 2 0).set 0 6).set 1 5 else List.take 0 (List.replicate 4 0)++((List.replicate 2 0).set 0 6).set 1 5++List.drop 2 (List.replicate 4 0))++((List.replicate 2 0).set 0 2).set 1 3++List.drop 4 (if 2=4 then ((List.replicate 2 0).set 0 6).set 1 5 else List.take 0 (List.replicate 4 0)++((List.replicate 2 0).set 0 6).set 1 5++List.drop 2 (List.replicate 4 0)))++List.drop 4 (List.replicate 4 0)))++List.drop 2 (List.replicate 2 0)).getD 0 0)),(wr .i64 (cg a.aa+(if 2=2 then List.take 2 (List.drop ((gM (Pos.mk a.variant a.ae a.ab a.af a.aa a.ai a.ah a.ag a.half a.full) (Mv.mk b.az b.to b.bQ b.aX b.bP)).toNat * 2) (if 4=4 then if 2=4 then ((List.replicate 2 0).set 0 2).set 1 3 else List.take 2 (if 2=4 then ((List.replicate 2 0).set 0 6).set 1 5 else List.take 0 (List.replicate 4 0)++((List.replicate 2 0).set 0 6).set 1 5++List.drop 2 (List.replicate 4 0))++((List.replicate 2 0).set 0 2).set 1 3++List.drop 4 (if 2=4 then ((List.replicate 2 0).set 0 6).set 1 5 else List.take 0 (List.replicate 4 0)++((List.replicate 2 0).set 0 6).set 1 5++List.drop 2 (List.replicate 4 0)) else (List.take 0 (List.replicate 4 0)++if 2=4 then ((List.replicate 2 0).set 0 2).set 1 3 else List.take 2 (if 2=4 then ((List.replicate 2 0).set 0 6).set 1 5 else List.take 0 (List.replicate 4 0)++((List.replicate 2 0).set 0 6).set 1 5++List.drop 2 (List.replicate 4 0))++((List.replicate 2 0).set 0 2).set 1 3++List.drop 4 (if 2=4 then ((List.replicate 2 0).set 0 6).set 1 5 else List.take 0 (List.replicate 4 0)++((List.replicate 2 0).set 0 6).set 1 5++List.drop 2 (List.replicate 4 0)))++List.drop 4 (List.replicate 4 0))) else List.take 0 (List.replicate 2 0)++List.take 2 (List.drop ((gM (Pos.mk a.variant a.ae a.ab a.af a.aa a.ai a.ah a.ag a.half a.full) (Mv.mk b.az b.to b.bQ b.aX b.bP)).toNat * 2) (if 4=4 then if 2=4 then ((List.replicate 2 0).set 0 2).set 1 3 else List.take 2 (if 2=4 then ((List.replicate 2 0).set 0 6).set 1 5 else List.take 0 (List.replicate 4 0)++((List.replicate 2 0).set 0 6).set 1 5++List.drop 2 (List.replicate 4 0))++((List.replicate 2 0).set 0 2).set 1 3++List.drop 4 (if 2=4 then ((List.replicate 2 0).set 0 6).set 1 5 else List.take 0 (List.replicate 4 0)++((List.replicate 2 0).set 0 6).set 1 5++List.drop 2 (List.replicate 4 0)) else (List.take 0 (List.replicate 4 0)++if 2=4 then ((List.replicate 2 0).set 0 2).set 1 3 else List.take 2 (if 2=4 then ((List.replicate 2 0).set 0 6).set 1 5 else List.take 0 (List.replicate 4 0)++((List.replicate 2 0).set 0 6).set 1 5++List.drop 2 (List.replicate 4 0))++((List.replicate 2 0).set 0 2).set 1 3++List.drop 4 (if 2=4 then ((List.replicate 2 0).set 0 6).set 1 5 else List.take 0 (List.replicate 4 0)++((List.replicate 2 0).set 0 6).set 1 5++List.drop 2 (List.replicate 4 0)))++List.drop 4 (List.replicate 4 0)))++List.drop 2 (List.replicate 2 0)).getD 1 0)),(true)))
def wv (a:Pos) (b:Mv):Bool:=(bif decide (gM (Pos.mk a.variant a.ae a.ab a.af a.aa a.ai a.ah a.ag a.half a.full) (Mv.mk b.az b.to b.bQ b.aX b.bP)<0) then true else (decide (0≤gM (Pos.mk a.variant a.ae a.ab a.af a.aa a.ai a.ah a.ag a.half a.full) (Mv.mk b.az b.to b.bQ b.aX b.bP))&&decide (gM (Pos.mk a.variant a.ae a.ab a.af a.aa a.ai a.ah a.ag a.half a.full) (Mv.mk b.az b.to b.bQ b.aX b.bP) < ↑2)&&true))
theorem agI (a:Pos) (b:Mv) (h:wv a b=true):PS Pz 137 [Pos.av a,Mv.av b] ((d3 (dI .i64) (dI .i64) dB).res (ga a b)):=pq14 ZJ h
def qZ:GT:=g2 aY va (fun a b=>cp (wv a b) ((d3 (dI .i64) (dI .i64) dB).res (ga a b)))
theorem uj:Sound Pz 137 qZ:=bb fun a b=>aC (agI a b)
def adL:KT:=[(197,15,[(0,[0,1,8,9,12,13]),(1,[4])])]
def aeA:aw:=bO Pz adL [] [] []
theorem Xl:aW aeA:=aj ak trivial trivial trivial
def ra (a:Int) (b:Int):Bool:=(bif decide (a≤1) then (bif decide (b≥1) then (decide (b≤5)) else (false)) else (false))
def Yj (a:Int) (b:Int):Bool:=true
theorem ajg (a:Int) (b:Int) (h:Yj a b=true):PS Pz 197 [.int .u8 a,.int .u8 b] (dB.res (ra a b)):=pq14 Xl h
def Wn:GT:=g2 (dI .u8) (dI .u8) (fun a b=>.ret (dB.res (ra a b)))
theorem Y0:Sound Pz 197 Wn:=bb fun a b=>bV (ajg a b rfl)
def aeB:KT:=[(138,33,[(0,(1::2::3::6::(rn 13 7 []))),(1,[1,2,3,6,20]),(2,[6,7]),(3,[3,6]),(4,[6,7])])]
def afs:aw:=bO Pz aeB [(197,Wn)] [] []
theorem abv:aW afs:=aj ak ⟨Y0,trivial⟩ trivial trivial
def gp (a:Pos) (b:Int) (c:Int):(Pos×Bool):=(bif !ra b c then (⟨(a.variant),(if 64=64 then a.ae else List.take 0 (List.replicate 64 0)++a.ae++List.drop 64 (List.replicate 64 0)),(a.ab),(if 12=12 then a.af else List.take 0 (List.replicate 12 0)++a.af++List.drop 12 (List.replicate 12 0)),(a.aa),(if 4=4 then a.ai else List.take 0 (List.replicate 4 0)++a.ai++List.drop 4 (List.replicate 4 0)),(a.ah),(if 2=2 then a.ag else List.take 0 (List.replicate 2 0)++a.ag++List.drop 2 (List.replicate 2 0)),(a.half),(a.full)⟩,(false)) else (bif a.af.getD (scale 6 b+scale 1 c).toNat 0==0 then (⟨(a.variant),(if 64=64 then a.ae else List.take 0 (List.replicate 64 0)++a.ae++List.drop 64 (List.replicate 64 0)),(a.ab),(if 12=12 then a.af else List.take 0 (List.replicate 12 0)++a.af++List.drop 12 (List.replicate 12 0)),(a.aa),(if 4=4 then a.ai else List.take 0 (List.replicate 4 0)++a.ai++List.drop 4 (List.replicate 4 0)),(a.ah),(if 2=2 then a.ag else List.take 0 (List.replicate 2 0)++a.ag++List.drop 2 (List.replicate 2 0)),(a.half),(a.full)⟩,(false)) else (⟨(a.variant),(if 64=64 then a.ae else List.take 0 (List.replicate 64 0)++a.ae++List.drop 64 (List.replicate 64 0)),(a.ab),(if 12=12 then a.af.set (scale 6 b+scale 1 c).toNat (wr .u8 (a.af.getD (scale 6 b+scale 1 c).toNat 0-1)) else List.take 0 (List.replicate 12 0)++a.af.set (scale 6 b+scale 1 c).toNat (wr .u8 (a.af.getD (scale 6 b+scale 1 c).toNat 0-1))++List.drop 12 (List.replicate 12 0)),(a.aa),(if 4=4 then a.ai else List.take 0 (List.replicate 4 0)++a.ai++List.drop 4 (List.replicate 4 0)),(a.ah),(if 2=2 then a.ag else List.take 0 (List.replicate 2 0)++a.ag++List.drop 2 (List.replicate 2 0)),(a.half),(a.full)⟩,(true))))
def Ay (a:Pos) (b:Int) (c:Int):Bool:=(bif !ra b c then true else (decide (0≤b)&&decide (b < ↑2)&&(decide (0≤c)&&decide (c < ↑6)&&(bif a.af.getD (scale 6 b+scale 1 c).toNat 0==0 then true else (decide (0≤b)&&decide (b < ↑2)&&(decide (0≤c)&&decide (c < ↑6)&&(decide (0≤b)&&decide (b < ↑2)&&(decide (0≤c)&&decide (c < ↑6)&&true))))))))
theorem afW (a:Pos) (b:Int) (c:Int) (h:Ay a b c=true):PS Pz 138 [Pos.av a,.int .u8 b,.int .u8 c] ((d2 aY dB).res (gp a b c)):=pq14 abv h
def rb:GT:=g3 aY (dI .u8) (dI .u8) (fun a b c=>cp (Ay a b c) ((d2 aY dB).res (gp a b c)))
theorem tC:Sound Pz 138 rb:=dv fun a b c=>aC (afW a b c)
def afF:KT:=[(141,30,[(0,(1::2::3::6::(rn 11 7 []))),(1,[1,2,3,6,18]),(2,[3,6]),(3,[6])])]
def ahF:aw:=bO Pz afF [(197,Wn)] [] []
theorem aaa:aW ahF:=aj ak ⟨Y0,trivial⟩ trivial trivial
def bj (a:Pos) (b:Int) (c:Int):Pos:=(bif ra b c then (bif decide (a.af.getD (scale 6 b+scale 1 c).toNat 0<255) then ⟨(a.variant),(if 64=64 then a.ae else List.take 0 (List.replicate 64 0)++a.ae++List.drop 64 (List.replicate 64 0)),(a.ab),(if 12=12 then a.af.set (scale 6 b+scale 1 c).toNat (wr .u8 (a.af.getD (scale 6 b+scale 1 c).toNat 0+1)) else List.take 0 (List.replicate 12 0)++a.af.set (scale 6 b+scale 1 c).toNat (wr .u8 (a.af.getD (scale 6 b+scale 1 c).toNat 0+1))++List.drop 12 (List.replicate 12 0)),(a.aa),(if 4=4 then a.ai else List.take 0 (List.replicate 4 0)++a.ai++List.drop 4 (List.replicate 4 0)),(a.ah),(if 2=2 then a.ag else List.take 0 (List.replicate 2 0)++a.ag++List.drop 2 (List.replicate 2 0)),(a.half),(a.full)⟩ else ⟨(a.variant),(if 64=64 then a.ae else List.take 0 (List.replicate 64 0)++a.ae++List.drop 64 (List.replicate 64 0)),(a.ab),(if 12=12 then a.af else List.take 0 (List.replicate 12 0)++a.af++List.drop 12 (List.replicate 12 0)),(a.aa),(if 4=4 then a.ai else List.take 0 (List.replicate 4 0)++a.ai++List.drop 4 (List.replicate 4 0)),(a.ah),(if 2=2 then a.ag else List.take 0 (List.replicate 2 0)++a.ag++List.drop 2 (List.replicate 2 0)),(a.half),(a.full)⟩) else ⟨(a.variant),(if 64=64 then a.ae else List.take 0 (List.replicate 64 0)++a.ae++List.drop 64 (List.replicate 64 0)),(a.ab),(if 12=12 then a.af else List.take 0 (List.replicate 12 0)++a.af++List.drop 12 (List.replicate 12 0)),(a.aa),(if 4=4 then a.ai else List.take 0 (List.replicate 4 0)++a.ai++List.drop 4 (List.replicate 4 0)),(a.ah),(if 2=2 then a.ag else List.take 0 (List.replicate 2 0)++a.ag++List.drop 2 (List.replicate 2 0)),(a.half),(a.full)⟩)
def so (a:Pos) (b:Int) (c:Int):Bool:=(bif ra b c then (decide (0≤b)&&decide (b < ↑2)&&(decide (0≤c)&&decide (c < ↑6)&&(bif decide (a.af.getD (scale 6 b+scale 1 c).toNat 0<255) then (decide (0≤b)&&decide (b < ↑2)&&(decide (0≤c)&&decide (c < ↑6)&&(decide (0≤b)&&decide (b < ↑2)&&(decide (0≤c)&&decide (c < ↑6)&&true)))) else true))) else true)
theorem af3 (a:Pos) (b:Int) (c:Int) (h:so a b c=true):PS Pz 141 [Pos.av a,.int .u8 b,.int .u8 c] (aY.res (bj a b c)):=pq14 aaa h
def ru:GT:=g3 aY (dI .u8) (dI .u8) (fun a b c=>cp (so a b c) (aY.res (bj a b c)))
theorem tq:Sound Pz 141 ru:=dv fun a b c=>aC (af3 a b c)
def ae0:KT:=[(143,32,[(0,[1,2,10,11]),(1,[1,2,12]),(2,[4]),(3,[1,2,5]),(4,[1,2,5,6]),(5,[1,2,5,6,19]),(6,[1,2,5,6]),(7,[1,2,5,6]),(8,[4])])]
def aio:aw:=bO Pz ae0 [(193,u6),(147,gV),(199,y0)] [] []
theorem abp:aW aio:=aj ak ⟨vn,gX,Ak,trivial⟩ trivial trivial
def nD (a:Pos) (b:Int):BitVec 64:=(bif decide (b<0) then (0#64) else (bif decide (b≥64) then (0#64) else (cZ b&&&bh (Pos.mk a.variant a.ae a.ab a.af a.aa a.ai a.ah a.ag a.half a.full) &&& ~~~aO (Pos.mk a.variant a.ae a.ab a.af a.aa a.ai a.ah a.ag a.half a.full) 0 1 &&& ~~~aO (Pos.mk a.variant a.ae a.ab a.af a.aa a.ai a.ah a.ag a.half a.full) (wr .u8 (0+1)) 1|||1#64 <<< (BitVec.ofInt 64 b).toNat)))
def AZ (a:Pos) (b:Int):Bool:=(bif decide (b<0) then true else (bif decide (b≥64) then true else (pd (b)&&(qP (Pos.mk a.variant a.ae a.ab a.af a.aa a.ai a.ah a.ag a.half a.full)&&(cx (Pos.mk a.variant a.ae a.ab a.af a.aa a.ai a.ah a.ag a.half a.full) (0) (1)&&(cx (Pos.mk a.variant a.ae a.ab a.af a.aa a.ai a.ah a.ag a.half a.full) (wr .u8 (0+1)) (1)&&true))))))
theorem adW (a:Pos) (b:Int) (h:AZ a b=true):PS Pz 143 [Pos.av a,.int .i64 b] (dU.res (nD a b)):=pq14 abp h
def qY:GT:=g2 aY (dI .i64) (fun a b=>cp (AZ a b) (dU.res (nD a b)))
theorem uU:Sound Pz 143 qY:=bb fun a b=>aC (adW a b)
end Kz
end
noncomputable section
namespace Kz
open Go
theorem Ns:∀ f t:Fin 64,(dc 0 f.val).getLsbD t.val=true→8≤t.val:=by decide +kernel
theorem Oi:∀ f t:Fin 64,(dc 1 f.val).getLsbD t.val=true→t.val<56:=by decide +kernel
theorem fN {x:Nat} {i:Nat} (hi:i<64):(1#64 <<< x).getLsbD i=decide (i=x):=by
 rw [BitVec.getLsbD_shiftLeft,BitVec.getLsbD_one]
 rcases Nat.lt_trichotomy i x with h | rfl | h
 ·have:¬ i=x:=by omega
  simp [h,this]
 ·simp [hi]
 ·have h1:¬ i=x:=by omega
  have h2:¬ i-x=0:=by omega
  simp [h1,h2]
theorem cP {n:Int} (h0:0≤n) (h1:n<18446744073709551616):(BitVec.ofInt 64 n).toNat=n.toNat:=by
 rw [BitVec.toNat_ofInt]
 omega
theorem Jf {c k v:Int} (h:dn c k v=true):k=0∨bw v=k:=by
 unfold dn at h
 simp only [E',Bool.or_eq_true,beq_iff_eq] at h
 exact h.2
theorem Ge {p:Pos} (hp:aA p) (ht:p.aa≤1) {x:Pos×BitVec 64×BitVec 64} (hx:x.1=p) {f t:Nat} (hf:f<64) (h1:t<64) (hm:(f:Int).tmod 8≠(t:Int).tmod 8) (hb:(zi x f).getLsbD t=true):(dc p.aa f).getLsbD t=true:=by
 have h0:=hp.t0
 have hne:f % 8≠t % 8:=by
  intro e
  apply hm
  rw [Int.tmod_eq_emod_of_nonneg (by omega),Int.tmod_eq_emod_of_nonneg (by omega)]
  omega
 have a1:∀ n:Int,(n=f+8∨n=f-8∨n=f+16∨n=f-16)→(1#64 <<< (BitVec.ofInt 64 n).toNat).getLsbD t=false:=by
  intro n hn
  rw [fN h1]
  simp only [decide_eq_false_iff_not]
  rw [BitVec.toNat_ofInt]
  omega
 have w:∀ s:Int,-100≤s→s≤100→(cV p.aa s=s+8∨cV p.aa s=s-8):=by
  intro s g0 g1
  unfold cV
  rw [aF (n:=s-8) (by omega) (by omega),aF (n:=s+8) (by omega) (by omega)]
  exact aq (P:=fun x:Int=>x=s+8∨x=s-8) (fun _=>.inr rfl) fun _=>.inl rfl
 have b1:=w f (by omega) (by omega)
 have b2:=w (cV p.aa f) (by omega) (by omega)
 have c1:=a1 (cV p.aa f) (by omega)
 have c2:(1#64 <<< (BitVec.ofInt 64 (cV p.aa (cV p.aa f))).toNat).getLsbD t=false:=by
  by_cases e:cV p.aa (cV p.aa f)=f
  ·rw [e,fN h1]
   simp only [decide_eq_false_iff_not]
   rw [BitVec.toNat_ofInt]
   omega
  ·exact a1 _ (by omega)
 revert hb
 unfold zi
 rw [hx]
 have k1:∀ y:BitVec 64,(dc p.aa f&&&y).getLsbD t=true→(dc p.aa f).getLsbD t=true:=fun y h=>by
  rw [BitVec.getLsbD_and] at h
  exact (E' _ _ ▸ h).1
 have k2:∀ y:BitVec 64,(dc p.aa f&&&y|||1#64 <<< (BitVec.ofInt 64 (cV p.aa f)).toNat).getLsbD t=true→(dc p.aa f).getLsbD t=true:=fun y h=>by
  rw [BitVec.getLsbD_or,c1,Bool.or_false] at h
  exact k1 y h
 have k3:∀ y z:BitVec 64,(dc p.aa f&&&y|||1#64 <<< (BitVec.ofInt 64 (cV p.aa f)).toNat|||1#64 <<< (BitVec.ofInt 64 (cV p.aa (cV p.aa f))).toNat&&&z).getLsbD t=true→(dc p.aa f).getLsbD t=true:=fun y z h=>by
  rw [BitVec.getLsbD_or,BitVec.getLsbD_and,c2,Bool.false_and,Bool.or_false] at h
  exact k2 y h
 repeat' (first | with_reducible exact k1 _ | with_reducible exact k2 _ | with_reducible exact k3 _ _ | refine aq (P:=fun y:BitVec 64=>y.getLsbD t=true→(dc p.aa f).getLsbD t=true) (fun _=>?_) (fun _=>?_))
theorem CI {p:Pos} (hp:aA p) (m:Mv) : -1≤bq p m∧bq p m<64:=by
 have hl:=jS hp.v0
 unfold bq
 refine aq (P:=fun x:Int => -1≤x∧x<64) (fun _=>by simp) fun hthere=>aq (P:=fun x:Int => -1≤x∧x<64) (fun _=>by simp) fun h=>?_
 rw [ko (by omega)] at h
 have hm:m∈dz p:=by simpa using h
 obtain ⟨th,f,t,h1,h2,h3,h4,h5,h6,h7,h8,h9,h10⟩:=fI hp.v0 hm
 rw [h3,h4]
 rw [aF (n:=(t:Int)) (by omega) (by omega)]
 refine aq (P:=fun x:Int => -1≤x∧x<64) (fun _=>by omega) fun _=>aq (P:=fun x:Int => -1≤x∧x<64) (fun hk=>aq (P:=fun x:Int => -1≤x∧x<64) (fun hd=>?_) fun _=>by simp) fun _=>by simp
 have hd:(f:Int).tmod 8≠(t:Int).tmod 8:=by simpa using hd
 have hto:(zi (p,own p,gU p) f).getLsbD t=true:=by
  unfold gR at h10
  rw [hk,cond_true,BitVec.getLsbD_and] at h10
  exact (E' _ _ ▸ h10).1
 have hat:=Ge hp th.1 rfl h1 h2 hd hto
 have h0:=hp.t0
 have ht:=th.1
 have:p.aa=0∨p.aa=1:=by omega
 rcases this with e | e
 ·rw [e] at hat
  have:=Ns ⟨f,h1⟩ ⟨t,h2⟩ hat
  simp only at this
  rw [e]
  unfold cV
  rw [show wr .u8 (1-0)=1 from by decide,aF (n:=(t:Int)-8) (by omega) (by omega)]
  show -1≤(t:Int)-8∧(t:Int)-8<64
  omega
 ·rw [e] at hat
  have:=Oi ⟨f,h1⟩ ⟨t,h2⟩ hat
  simp only at this
  rw [e]
  unfold cV
  rw [show wr .u8 (1-1)=0 from by decide,aF (n:=(t:Int)+8) (by omega) (by omega)]
  show -1≤(t:Int)+8∧(t:Int)+8<64
  omega
theorem EH (p:Pos) (m:Mv) : -1≤gM p m∧gM p m≤1:=by
 unfold gM
 repeat' (first | (constructor<;>decide) | refine aq (P:=fun x:Int => -1≤x∧x≤1) (fun _=>?_) (fun _=>?_))
theorem t137 (p:Pos) (m:Mv):wv p m=true:=by
 unfold wv
 refine ar (fun _=>rfl) fun h=>ao ?_ fun _=>rfl
 have h1:=EH p m
 have h:¬ gM p m<0:=by simpa using h
 show (decide (0≤gM p m)&&decide (gM p m<2))=true
 simp
 omega
theorem D7 {p:Pos} (h0:0≤p.aa) (ht:p.aa≤1) (m:Mv):0≤(ga p m).1∧(ga p m).1<64∧0≤(ga p m).2.1∧(ga p m).2.1<64:=by
 have h1:=EH p m
 unfold ga
 refine aq (P:=fun x:Int×Int×Bool=>0≤x.1∧x.1<64∧0≤x.2.1∧x.2.1<64) (fun _=>by simp) fun h=>?_
 have h:¬ gM p m<0:=by simpa using h
 rw [oY h0 ht]
 show 0≤wr .i64 (56 * p.aa+_)∧_
 have e:gM p m=0∨gM p m=1:=by omega
 have e':gM ⟨p.variant,p.ae,p.ab,p.af,p.aa,p.ai,p.ah,p.ag,p.half,p.full⟩ ⟨m.az,m.to,m.bQ,m.aX,m.bP⟩=gM p m:=rfl
 rw [e']
 have e2:p.aa=0∨p.aa=1:=by omega
 rcases e with e | e<;>rcases e2 with e2 | e2<;>rw [e,e2]<;>decide
theorem t138 {p:Pos} {b c:Int} (hb:0≤b) (hc:0≤c):Ay p b c=true:=by
 unfold Ay
 refine ar (fun _=>rfl) fun h=>?_
 have h:ra b c=true:=by simpa using h
 have hin:b≤1∧1≤c∧c≤5:=by
  revert h
  unfold ra
  refine aq (P:=fun x:Bool=>x=true→_) (fun h1=>aq (P:=fun x:Bool=>x=true→_) (fun h2 h3=>?_) fun _ h=>by cases h) fun _ h=>by cases h
  simp only [decide_eq_true_eq] at h1 h2 h3
  omega
 have a1:(decide (0≤b)&&decide (b<2))=true:=by simp;omega
 have a2:(decide (0≤c)&&decide (c<6))=true:=by simp;omega
 repeat' (first | with_reducible rfl | with_reducible exact a1 | with_reducible exact a2 | refine ao ?_ (fun _=>?_) | refine ar (fun _=>?_) (fun _=>?_))
theorem t141 {p:Pos} {b c:Int} (hb:0≤b) (hc:0≤c):so p b c=true:=by
 unfold so
 refine ar (fun h=>?_) fun _=>rfl
 have hin:b≤1∧1≤c∧c≤5:=by
  revert h
  unfold ra
  refine aq (P:=fun x:Bool=>x=true→_) (fun h1=>aq (P:=fun x:Bool=>x=true→_) (fun h2 h3=>?_) fun _ h=>by cases h) fun _ h=>by cases h
  simp only [decide_eq_true_eq] at h1 h2 h3
  omega
 have a1:(decide (0≤b)&&decide (b<2))=true:=by simp;omega
 have a2:(decide (0≤c)&&decide (c<6))=true:=by simp;omega
 repeat' (first | with_reducible rfl | with_reducible exact a1 | with_reducible exact a2 | refine ao ?_ (fun _=>?_) | refine ar (fun _=>?_) (fun _=>?_))
theorem t143 (p:Pos) (s:Int):AZ p s=true:=by
 unfold AZ
 repeat' (first | with_reducible rfl | with_reducible exact t199 _ | with_reducible exact t193 _ | with_reducible exact t147 _ _ _ | refine ao ?_ (fun _=>?_) | refine ar (fun _=>?_) (fun _=>?_))
theorem NH {v:Int} (h:0≤v):0≤bw v:=by
 unfold bw
 exact aq (P:=fun x:Int=>0≤x) (fun _=>by simp) fun _=>Int.tmod_nonneg _ h
end Kz
end
noncomputable section
namespace Kz
open Go Go.RowKit Go.Proofs
def ag7:KT:=[(148,8,[(0,[0]),(1,[0,4]),(2,[2]),(3,[2])])]
def ajQ:aw:=bO Pz ag7 [] [] []
theorem aa9:aW ajQ:=aj ak trivial trivial trivial
def ml (a:Int):Int:=(bif decide (a≥10000) then (a) else (wr .i64 (a+1)))
def acn (a:Int):Bool:=true
theorem aeh (a:Int) (h:acn a=true):PS Pz 148 [.int .i64 a] ((dI .i64).res (ml a)):=pq14 aa9 h
def rh:GT:=g1 (dI .i64) (fun a=>.ret ((dI .i64).res (ml a)))
theorem uh:Sound Pz 148 rh:=aH fun a=>bV (aeh a rfl)
def Ix:KT:=[(31,48,[(0,[2,3,4]),(1,[2,3,4,13]),(2,[4,5]),(3,[4,6]),(4,[4,6,37,38]),(5,[4,6,37,38,39]),(6,[4,6,8,37,38]),(7,[4,6,37,38]),(8,[4,6,37,38]),(9,[4,5])]),(68,156,[(0,[0,2]),(1,[0,2,14]),(2,[0,2]),(3,[0,2]),(4,[0,2,48]),(5,[]),(6,[0,2,64]),(7,[0,2,3,4]),(8,[0,2,3,4]),(9,[]),(10,[0,2,119]),(11,[0,2]),(12,[])]),(69,188,[(0,(1::(rn 14 6 (rn 99 11 (rn 163 8 []))))),(1,(1::20::(rn 99 11 (rn 163 8 [])))),(2,(1::2::(rn 99 11 (rn 163 8 [])))),(3,(1::2::26::(rn 99 11 (rn 163 8 [])))),(4,[1,2,4]),(5,[1,4,47]),(6,[1,4]),(7,[]),(8,(1::2::80::(rn 99 11 (rn 163 8 [])))),(9,(1::2::6::(rn 99 11 (rn 163 8 [])))),(10,(1::2::6::110::(rn 163 8 []))),(11,(1::2::6::(rn 163 8 []))),(12,(1::2::(rn 163 8 []))),(13,(1::2::(rn 163 8 []))),(14,(1::2::(rn 163 8 []))),(15,[1,171]),(16,[])]),(70,41,[(0,[0,16]),(1,[0,28,29,30]),(2,[0,28,29,30,31]),(3,[0,3,28,29,30]),(4,[0,28,29,30]),(5,[0,28,29,30])]),(71,121,[(0,(0::18::54::55::(rn 70 16 (89::90::(rn 93 6 (rn 101 10 [])))))),(1,(0::54::55::(rn 70 16 (89::90::(rn 93 6 (rn 101 10 [])))))),(2,(0::2::54::55::(rn 70 16 (89::90::(rn 93 6 (rn 101 10 [])))))),(3,(0::2::31::54::55::(rn 70 16 (89::90::(rn 93 6 (rn 101 10 [])))))),(4,(0::2::54::55::(rn 70 16 (89::90::(rn 93 6 (rn 101 10 [])))))),(5,(0::2::3::54::55::(rn 70 16 (89::90::(rn 93 6 (rn 101 10 [])))))),(6,(0::2::3::46::47::54::55::(rn 70 16 (89::90::(rn 93 6 (rn 101 10 [])))))),(7,(0::2::3::46::47::48::54::55::(rn 70 16 (89::90::(rn 93 6 (rn 101 10 [])))))),(8,(0::(rn 2 4 (46::47::54::55::(rn 70 16 (89::90::(rn 93 6 (rn 101 10 [])))))))),(9,(0::(rn 2 4 (46::47::54::55::56::(rn 70 16 (89::90::(rn 93 6 (rn 101 10 [])))))))),(10,(0::2::3::4::6::46::47::54::55::(rn 70 16 (89::90::(rn 93 6 (rn 101 10 [])))))),(11,(0::2::3::4::6::7::46::47::54::55::(rn 70 16 (89::90::(rn 93 6 (rn 101 10 [])))))),(12,(0::2::3::4::46::47::54::55::(rn 70 16 (89::90::(rn 93 6 (rn 101 11 [])))))),(13,(0::2::3::46::47::54::55::(rn 70 16 (89::90::(rn 93 6 (rn 101 10 [])))))),(14,(0::2::3::46::47::54::55::(rn 70 16 (89::90::(rn 93 6 (rn 101 10 []))))))]),(72,112,[(0,(0::(rn 12 6 (rn 20 26 (rn 64 9 []))))),(1,(0::46::(rn 64 9 []))),(2,(0::2::(rn 64 9 []))),(3,[0,73]),(4,[0,3]),(5,[0,3,106]),(6,[])]),(73,42,[(0,(0::(rn 16 5 []))),(1,[0,21]),(2,[0]),(3,[0,31]),(4,[])]),(74,59,[(0,(0::(rn 26 8 (rn 36 10 [])))),(1,(0::2::(rn 26 8 (rn 36 10 [])))),(2,[0,2,46]),(3,[])]),(140,14,[(0,[0,1]),(1,[3])]),(144,26,[(0,[0]),(1,[0,8]),(2,[2]),(3,[2])])]
def aaO:aw:=bO Pz Ix [(149,nR),(66,D4),(65,GW),(67,F8),(147,gV),(135,jD),(137,qZ),(138,rb),(139,pJ),(141,ru),(142,j9),(143,qY),(145,ll),(146,oe),(148,rh)] [] []
theorem Vy:aW aaO:=aj ak ⟨pA,Fy,G2,GX,gX,kz,uj,tC,re,tq,lf,uU,lX,qc,uh,trivial⟩ trivial trivial
def R7 (p1:Pos) (p2:Mv) (p3:Pos) (p4:Pos) (p5:Mv) (p6:Int):List AV:=[AV.ptr 3 0]
def RC (p1:Pos) (p2:Mv) (p3:Pos) (p4:Pos) (p5:Mv) (p6:Int):Hp:=Hp.mk [(pc p1 []),[AV.int .i8 p2.az,AV.int .i8 p2.to,AV.int .u8 p2.bQ,AV.int .u8 p2.aX,AV.bool p2.bP],zpB,(pc p3 (pc p4 [AV.int .i8 p5.az,AV.int .i8 p5.to,AV.int .u8 p5.bQ,AV.int .u8 p5.aX,AV.bool p5.bP,AV.int .i64 p6]))] [] [] 0 0 0
def Ja (p1:Pos) (p2:Mv) (p3:Pos) (p4:Pos) (p5:Mv) (p6:Int) (y:(Pos)):bY := .ret (.tuple []) (Hp.mk [(pc p1 []),[.int .i8 p2.az,.int .i8 p2.to,.int .u8 p2.bQ,.int .u8 p2.aX,.bool p2.bP],zpB,(pc y (pc p4 [.int .i8 p5.az,.int .i8 p5.to,.int .u8 p5.bQ,.int .u8 p5.aX,.bool p5.bP,.int .i64 p6]))] [] [] 0 0 0)
def bC (p1:Pos) (p2:Mv) (p3:Pos) (p4:Pos) (p5:Mv) (p6:Int):(Pos):=(bif p5.bP then (Pos.mk p3.variant ((((p3.ae.set (scale 1 p5.az).toNat 0).set (scale 1 p5.to).toNat 0).set (scale 1 (ga p4 p5).1).toNat (p4.ae.getD (scale 1 p5.az).toNat 0)).set (scale 1 (ga p4 p5).2.1).toNat (p4.ae.getD (scale 1 p5.to).toNat 0)) p3.ab p3.af p3.aa p3.ai p3.ah p3.ag p3.half p3.full) else (bif p5.aX != 0 then (Pos.mk (gp p3 p3.aa p5.aX).1.variant ((gp p3 p3.aa p5.aX).1.ae.set (scale 1 p5.to).toNat (jB (gp p3 p3.aa p5.aX).1.aa p5.aX)) (gp p3 p3.aa p5.aX).1.ab (gp p3 p3.aa p5.aX).1.af (gp p3 p3.aa p5.aX).1.aa (gp p3 p3.aa p5.aX).1.ai (gp p3 p3.aa p5.aX).1.ah (gp p3 p3.aa p5.aX).1.ag (gp p3 p3.aa p5.aX).1.half (gp p3 p3.aa p5.aX).1.full) else (bif decide (p6≥0) then (bif p5.bQ != 0 then (Pos.mk p3.variant ((((p3.ae.set (scale 1 p6).toNat 0).set (scale 1 p5.az).toNat 0).set (scale 1 p5.to).toNat (p4.ae.getD (scale 1 p5.az).toNat 0)).set (scale 1 p5.to).toNat (jB p3.aa p5.bQ)) p3.ab p3.af p3.aa p3.ai p3.ah p3.ag p3.half p3.full) else (Pos.mk p3.variant (((p3.ae.set (scale 1 p6).toNat 0).set (scale 1 p5.az).toNat 0).set (scale 1 p5.to).toNat (p4.ae.getD (scale 1 p5.az).toNat 0)) p3.ab p3.af p3.aa p3.ai p3.ah p3.ag p3.half p3.full)) else (bif p5.bQ != 0 then (Pos.mk p3.variant (((p3.ae.set (scale 1 p5.az).toNat 0).set (scale 1 p5.to).toNat (p4.ae.getD (scale 1 p5.az).toNat 0)).set (scale 1 p5.to).toNat (jB p3.aa p5.bQ)) p3.ab p3.af p3.aa p3.ai p3.ah p3.ag p3.half p3.full) else (Pos.mk p3.variant ((p3.ae.set (scale 1 p5.az).toNat 0).set (scale 1 p5.to).toNat (p4.ae.getD (scale 1 p5.az).toNat 0)) p3.ab p3.af p3.aa p3.ai p3.ah p3.ag p3.half p3.full)))))
def oF (p1:Pos) (p2:Mv) (p3:Pos) (p4:Pos) (p5:Mv) (p6:Int):Bool:=(bif p5.bP then (wv (p4) (p5)&&(decide (0≤p5.az)&&decide (p5.az<Int.ofNat 64)&&(decide (0≤p5.to)&&decide (p5.to<Int.ofNat 64)&&(decide (0≤p5.az)&&decide (p5.az<Int.ofNat 64)&&(decide (0≤p5.to)&&decide (p5.to<Int.ofNat 64)&&(decide (0≤(ga p4 p5).1)&&decide ((ga p4 p5).1<Int.ofNat 64)&&(decide (0≤(ga p4 p5).2.1)&&decide ((ga p4 p5).2.1<Int.ofNat 64)&&true))))))) else (bif p5.aX != 0 then (Ay (p3) (p3.aa) (p5.aX)&&(decide (0≤p5.to)&&decide (p5.to<Int.ofNat 64)&&true)) else (bif decide (p6≥0) then (decide (0≤p6)&&decide (p6<Int.ofNat 64)&&(decide (0≤p5.az)&&decide (p5.az<Int.ofNat 64)&&(decide (0≤p5.az)&&decide (p5.az<Int.ofNat 64)&&(decide (0≤p5.to)&&decide (p5.to<Int.ofNat 64)&&(bif p5.bQ != 0 then (decide (0≤p5.to)&&decide (p5.to<Int.ofNat 64)&&true) else true))))) else (decide (0≤p5.az)&&decide (p5.az<Int.ofNat 64)&&(decide (0≤p5.az)&&decide (p5.az<Int.ofNat 64)&&(decide (0≤p5.to)&&decide (p5.to<Int.ofNat 64)&&(bif p5.bQ != 0 then (decide (0≤p5.to)&&decide (p5.to<Int.ofNat 64)&&true) else true)))))))
abbrev V4 {α:Type} (k:Pos→Mv→Pos→Pos→Mv→Int→α) (s:St):α:=wP s 0 fun q0=>wP s 3 fun q3=>wM s 1 fun q1=>k q0 q1 q3 (Kz.Pos.mk (tI (tH s 3 10)) (tN (tH s 3 11)) (tU (tH s 3 12)) (tN (tH s 3 13)) (tI (tH s 3 14)) (tN (tH s 3 15)) (tI (tH s 3 16)) (tN (tH s 3 17)) (tI (tH s 3 18)) (tI (tH s 3 19))) (Kz.Mv.mk (tI (tH s 3 20)) (tI (tH s 3 21)) (tI (tH s 3 22)) (tI (tH s 3 23)) (tB (tH s 3 24))) (tI (tH s 3 25))
theorem S3 (p1:Pos) (p2:Mv) (p3:Pos) (p4:Pos) (p5:Mv) (p6:Int) (h:oF p1 p2 p3 p4 p5 p6=true):du Pz 68 (R7 p1 p2 p3 p4 p5 p6) (RC p1 p2 p3 p4 p5 p6) (Ja p1 p2 p3 p4 p5 p6 (bC p1 p2 p3 p4 p5 p6))∧∃ fn,Pz.funcs[68]?=some fn∧fn.body.isSome=true:=kF (n:=14) (O:=Ja p1 p2 p3 p4 p5 p6) Vy (fun o=>match o with | .ret v h=>(let s:St:=⟨[v],h⟩;wP s 3 fun q3=>some q3) | _=>none) (fun _=>rfl) (by kernel_rfl) (by kernel_rfl) (by kernel_rfl) (by kernel_rfl) h
def iu (xs:List AV) (h:Hp):Tr bY:=V4 (fun p1 p2 p3 p4 p5 p6=>fk xs h (R7 p1 p2 p3 p4 p5 p6) (RC p1 p2 p3 p4 p5 p6) (oF p1 p2 p3 p4 p5 p6) (Ja p1 p2 p3 p4 p5 p6) (bC p1 p2 p3 p4 p5 p6)) ⟨xs,h⟩
theorem gz:gT Pz 68 iu:=fun _ _ _ h=>sD (S3 _ _ _ _ _ _) h
def aaq:aw:=bO Pz Ix [(149,nR),(66,D4),(65,GW),(67,F8),(147,gV),(135,jD),(137,qZ),(138,rb),(139,pJ),(141,ru),(142,j9),(143,qY),(145,ll),(146,oe),(148,rh)] [] [(68,iu)]
theorem VG:aW aaq:=aj ak ⟨pA,Fy,G2,GX,gX,kz,uj,tC,re,tq,lf,uU,lX,qc,uh,trivial⟩ trivial ⟨gz,trivial⟩
def Qv (p1:Pos) (p2:Mv) (p3:Pos) (p4:Pos) (p5:Mv) (p6:Int):List AV:=[AV.ptr 3 0]
def Rh (p1:Pos) (p2:Mv) (p3:Pos) (p4:Pos) (p5:Mv) (p6:Int):Hp:=Hp.mk [(pc p1 []),[AV.int .i8 p2.az,AV.int .i8 p2.to,AV.int .u8 p2.bQ,AV.int .u8 p2.aX,AV.bool p2.bP],zpB,(pc p3 (pc p4 [AV.int .i8 p5.az,AV.int .i8 p5.to,AV.int .u8 p5.bQ,AV.int .u8 p5.aX,AV.bool p5.bP,AV.int .i64 p6]))] [] [] 0 0 0
def Kd (p1:Pos) (p2:Mv) (p3:Pos) (p4:Pos) (p5:Mv) (p6:Int) (y:(Pos)):bY := .ret (.tuple []) (Hp.mk [(pc p1 []),[.int .i8 p2.az,.int .i8 p2.to,.int .u8 p2.bQ,.int .u8 p2.aX,.bool p2.bP],zpB,(pc y (pc p4 [.int .i8 p5.az,.int .i8 p5.to,.int .u8 p5.bQ,.int .u8 p5.aX,.bool p5.bP,.int .i64 p6]))] [] [] 0 0 0)
def bS (p1:Pos) (p2:Mv) (p3:Pos) (p4:Pos) (p5:Mv) (p6:Int):(Pos):=(bif p3.variant != 2 then (p3) else (bif p5.aX != 0 then (p3) else (bif p5.bP then (bif p4.ab >>> (BitVec.ofInt 64 (wr .i64 p5.to)).toNat&&&1#64==1#64 then (Pos.mk p3.variant p3.ae (p3.ab &&& ~~~(1#64 <<< (BitVec.ofInt 64 p5.to).toNat)|||1#64 <<< (BitVec.ofInt 64 (ga p4 p5).2.1).toNat) p3.af p3.aa p3.ai p3.ah p3.ag p3.half p3.full) else (p3)) else (bif decide (p6≥0) then (bif p4.ab >>> (BitVec.ofInt 64 p6).toNat&&&1#64==1#64 then (bif p4.ae.getD (scale 1 p6).toNat 0 != 0 then (bif p5.bQ != 0 then (Pos.mk (bj p3 p3.aa 1).variant (bj p3 p3.aa 1).ae ((bj p3 p3.aa 1).ab &&& ~~~(1#64 <<< (BitVec.ofInt 64 p6).toNat) &&& ~~~(1#64 <<< (BitVec.ofInt 64 p5.az).toNat)|||1#64 <<< (BitVec.ofInt 64 p5.to).toNat) (bj p3 p3.aa 1).af (bj p3 p3.aa 1).aa (bj p3 p3.aa 1).ai (bj p3 p3.aa 1).ah (bj p3 p3.aa 1).ag (bj p3 p3.aa 1).half (bj p3 p3.aa 1).full) else (bif p4.ab >>> (BitVec.ofInt 64 (wr .i64 p5.az)).toNat&&&1#64==1#64 then (Pos.mk (bj p3 p3.aa 1).variant (bj p3 p3.aa 1).ae ((bj p3 p3.aa 1).ab &&& ~~~(1#64 <<< (BitVec.ofInt 64 p6).toNat) &&& ~~~(1#64 <<< (BitVec.ofInt 64 p5.az).toNat)|||1#64 <<< (BitVec.ofInt 64 p5.to).toNat) (bj p3 p3.aa 1).af (bj p3 p3.aa 1).aa (bj p3 p3.aa 1).ai (bj p3 p3.aa 1).ah (bj p3 p3.aa 1).ag (bj p3 p3.aa 1).half (bj p3 p3.aa 1).full) else (Pos.mk (bj p3 p3.aa 1).variant (bj p3 p3.aa 1).ae ((bj p3 p3.aa 1).ab &&& ~~~(1#64 <<< (BitVec.ofInt 64 p6).toNat) &&& ~~~(1#64 <<< (BitVec.ofInt 64 p5.az).toNat)) (bj p3 p3.aa 1).af (bj p3 p3.aa 1).aa (bj p3 p3.aa 1).ai (bj p3 p3.aa 1).ah (bj p3 p3.aa 1).ag (bj p3 p3.aa 1).half (bj p3 p3.aa 1).full))) else (bif p5.bQ != 0 then (Pos.mk (bj p3 p3.aa (bw (p4.ae.getD (scale 1 p6).toNat 0))).variant (bj p3 p3.aa (bw (p4.ae.getD (scale 1 p6).toNat 0))).ae ((bj p3 p3.aa (bw (p4.ae.getD (scale 1 p6).toNat 0))).ab &&& ~~~(1#64 <<< (BitVec.ofInt 64 p6).toNat) &&& ~~~(1#64 <<< (BitVec.ofInt 64 p5.az).toNat)|||1#64 <<< (BitVec.ofInt 64 p5.to).toNat) (bj p3 p3.aa (bw (p4.ae.getD (scale 1 p6).toNat 0))).af (bj p3 p3.aa (bw (p4.ae.getD (scale 1 p6).toNat 0))).aa (bj p3 p3.aa (bw (p4.ae.getD (scale 1 p6).toNat 0))).ai (bj p3 p3.aa (bw (p4.ae.getD (scale 1 p6).toNat 0))).ah (bj p3 p3.aa (bw (p4.ae.getD (scale 1 p6).toNat 0))).ag (bj p3 p3.aa (bw (p4.ae.getD (scale 1 p6).toNat 0))).half (bj p3 p3.aa (bw (p4.ae.getD (scale 1 p6).toNat 0))).full) else (bif p4.ab >>> (BitVec.ofInt 64 (wr .i64 p5.az)).toNat&&&1#64==1#64 then (Pos.mk (bj p3 p3.aa (bw (p4.ae.getD (scale 1 p6).toNat 0))).variant (bj p3 p3.aa (bw (p4.ae.getD (scale 1 p6).toNat 0))).ae ((bj p3 p3.aa (bw (p4.ae.getD (scale 1 p6).toNat 0))).ab &&& ~~~(1#64 <<< (BitVec.ofInt 64 p6).toNat) &&& ~~~(1#64 <<< (BitVec.ofInt 64 p5.az).toNat)|||1#64 <<< (BitVec.ofInt 64 p5.to).toNat) (bj p3 p3.aa (bw (p4.ae.getD (scale 1 p6).toNat 0))).af (bj p3 p3.aa (bw (p4.ae.getD (scale 1 p6).toNat 0))).aa (bj p3 p3.aa (bw (p4.ae.getD (scale 1 p6).toNat 0))).ai (bj p3 p3.aa (bw (p4.ae.getD (scale 1 p6).toNat 0))).ah (bj p3 p3.aa (bw (p4.ae.getD (scale 1 p6).toNat 0))).ag (bj p3 p3.aa (bw (p4.ae.getD (scale 1 p6).toNat 0))).half (bj p3 p3.aa (bw (p4.ae.getD (scale 1 p6).toNat 0))).full) else (Pos.mk (bj p3 p3.aa (bw (p4.ae.getD (scale 1 p6).toNat 0))).variant (bj p3 p3.aa (bw (p4.ae.getD (scale 1 p6).toNat 0))).ae ((bj p3 p3.aa (bw (p4.ae.getD (scale 1 p6).toNat 0))).ab &&& ~~~(1#64 <<< (BitVec.ofInt 64 p6).toNat) &&& ~~~(1#64 <<< (BitVec.ofInt 64 p5.az).toNat)) (bj p3 p3.aa (bw (p4.ae.getD (scale 1 p6).toNat 0))).af (bj p3 p3.aa (bw (p4.ae.getD (scale 1 p6).toNat 0))).aa (bj p3 p3.aa (bw (p4.ae.getD (scale 1 p6).toNat 0))).ai (bj p3 p3.aa (bw (p4.ae.getD (scale 1 p6).toNat 0))).ah (bj p3 p3.aa (bw (p4.ae.getD (scale 1 p6).toNat 0))).ag (bj p3 p3.aa (bw (p4.ae.getD (scale 1 p6).toNat 0))).half (bj p3 p3.aa (bw (p4.ae.getD (scale 1 p6).toNat 0))).full)))) else (bif p5.bQ != 0 then (Pos.mk (bj p3 p3.aa (bw (p4.ae.getD (scale 1 p6).toNat 0))).variant (bj p3 p3.aa (bw (p4.ae.getD (scale 1 p6).toNat 0))).ae ((bj p3 p3.aa (bw (p4.ae.getD (scale 1 p6).toNat 0))).ab &&& ~~~(1#64 <<< (BitVec.ofInt 64 p6).toNat) &&& ~~~(1#64 <<< (BitVec.ofInt 64 p5.az).toNat)|||1#64 <<< (BitVec.ofInt 64 p5.to).toNat) (bj p3 p3.aa (bw (p4.ae.getD (scale 1 p6).toNat 0))).af (bj p3 p3.aa (bw (p4.ae.getD (scale 1 p6).toNat 0))).aa (bj p3 p3.aa (bw (p4.ae.getD (scale 1 p6).toNat 0))).ai (bj p3 p3.aa (bw (p4.ae.getD (scale 1 p6).toNat 0))).ah (bj p3 p3.aa (bw (p4.ae.getD (scale 1 p6).toNat 0))).ag (bj p3 p3.aa (bw (p4.ae.getD (scale 1 p6).toNat 0))).half (bj p3 p3.aa (bw (p4.ae.getD (scale 1 p6).toNat 0))).full) else (bif p4.ab >>> (BitVec.ofInt 64 (wr .i64 p5.az)).toNat&&&1#64==1#64 then (Pos.mk (bj p3 p3.aa (bw (p4.ae.getD (scale 1 p6).toNat 0))).variant (bj p3 p3.aa (bw (p4.ae.getD (scale 1 p6).toNat 0))).ae ((bj p3 p3.aa (bw (p4.ae.getD (scale 1 p6).toNat 0))).ab &&& ~~~(1#64 <<< (BitVec.ofInt 64 p6).toNat) &&& ~~~(1#64 <<< (BitVec.ofInt 64 p5.az).toNat)|||1#64 <<< (BitVec.ofInt 64 p5.to).toNat) (bj p3 p3.aa (bw (p4.ae.getD (scale 1 p6).toNat 0))).af (bj p3 p3.aa (bw (p4.ae.getD (scale 1 p6).toNat 0))).aa (bj p3 p3.aa (bw (p4.ae.getD (scale 1 p6).toNat 0))).ai (bj p3 p3.aa (bw (p4.ae.getD (scale 1 p6).toNat 0))).ah (bj p3 p3.aa (bw (p4.ae.getD (scale 1 p6).toNat 0))).ag (bj p3 p3.aa (bw (p4.ae.getD (scale 1 p6).toNat 0))).half (bj p3 p3.aa (bw (p4.ae.getD (scale 1 p6).toNat 0))).full) else (Pos.mk (bj p3 p3.aa (bw (p4.ae.getD (scale 1 p6).toNat 0))).variant (bj p3 p3.aa (bw (p4.ae.getD (scale 1 p6).toNat 0))).ae ((bj p3 p3.aa (bw (p4.ae.getD (scale 1 p6).toNat 0))).ab &&& ~~~(1#64 <<< (BitVec.ofInt 64 p6).toNat) &&& ~~~(1#64 <<< (BitVec.ofInt 64 p5.az).toNat)) (bj p3 p3.aa (bw (p4.ae.getD (scale 1 p6).toNat 0))).af (bj p3 p3.aa (bw (p4.ae.getD (scale 1 p6).toNat 0))).aa (bj p3 p3.aa (bw (p4.ae.getD (scale 1 p6).toNat 0))).ai (bj p3 p3.aa (bw (p4.ae.getD (scale 1 p6).toNat 0))).ah (bj p3 p3.aa (bw (p4.ae.getD (scale 1 p6).toNat 0))).ag (bj p3 p3.aa (bw (p4.ae.getD (scale 1 p6).toNat 0))).half (bj p3 p3.aa (bw (p4.ae.getD (scale 1 p6).toNat 0))).full)))) else (bif p5.bQ != 0 then (Pos.mk p3.variant p3.ae (p3.ab &&& ~~~(1#64 <<< (BitVec.ofInt 64 p5.az).toNat)|||1#64 <<< (BitVec.ofInt 64 p5.to).toNat) p3.af p3.aa p3.ai p3.ah p3.ag p3.half p3.full) else (bif p4.ab >>> (BitVec.ofInt 64 (wr .i64 p5.az)).toNat&&&1#64==1#64 then (Pos.mk p3.variant p3.ae (p3.ab &&& ~~~(1#64 <<< (BitVec.ofInt 64 p5.az).toNat)|||1#64 <<< (BitVec.ofInt 64 p5.to).toNat) p3.af p3.aa p3.ai p3.ah p3.ag p3.half p3.full) else (Pos.mk p3.variant p3.ae (p3.ab &&& ~~~(1#64 <<< (BitVec.ofInt 64 p5.az).toNat)) p3.af p3.aa p3.ai p3.ah p3.ag p3.half p3.full)))))))
def oQ (p1:Pos) (p2:Mv) (p3:Pos) (p4:Pos) (p5:Mv) (p6:Int):Bool:=(bif p3.variant != 2 then true else (bif p5.aX != 0 then true else (bif p5.bP then (wv (p4) (p5)&&true) else (bif decide (p6≥0) then (decide (0≤p6)&&decide (p6<Int.ofNat 64)&&(bif p4.ab >>> (BitVec.ofInt 64 p6).toNat&&&1#64==1#64 then (decide (0≤p6)&&decide (p6<Int.ofNat 64)&&(bif p4.ae.getD (scale 1 p6).toNat 0 != 0 then (so (p3) (p3.aa) (1)&&true) else (so (p3) (p3.aa) (bw (p4.ae.getD (scale 1 p6).toNat 0))&&true))) else (so (p3) (p3.aa) (bw (p4.ae.getD (scale 1 p6).toNat 0))&&true))) else true))))
abbrev U0 {α:Type} (k:Pos→Mv→Pos→Pos→Mv→Int→α) (s:St):α:=wP s 0 fun q0=>wP s 3 fun q3=>wM s 1 fun q1=>k q0 q1 q3 (Kz.Pos.mk (tI (tH s 3 10)) (tN (tH s 3 11)) (tU (tH s 3 12)) (tN (tH s 3 13)) (tI (tH s 3 14)) (tN (tH s 3 15)) (tI (tH s 3 16)) (tN (tH s 3 17)) (tI (tH s 3 18)) (tI (tH s 3 19))) (Kz.Mv.mk (tI (tH s 3 20)) (tI (tH s 3 21)) (tI (tH s 3 22)) (tI (tH s 3 23)) (tB (tH s 3 24))) (tI (tH s 3 25))
theorem U5 (p1:Pos) (p2:Mv) (p3:Pos) (p4:Pos) (p5:Mv) (p6:Int) (h:oQ p1 p2 p3 p4 p5 p6=true):du Pz 69 (Qv p1 p2 p3 p4 p5 p6) (Rh p1 p2 p3 p4 p5 p6) (Kd p1 p2 p3 p4 p5 p6 (bS p1 p2 p3 p4 p5 p6))∧∃ fn,Pz.funcs[69]?=some fn∧fn.body.isSome=true:=kF (n:=14) (O:=Kd p1 p2 p3 p4 p5 p6) VG (fun o=>match o with | .ret v h=>(let s:St:=⟨[v],h⟩;wP s 3 fun q3=>some q3) | _=>none) (fun _=>rfl) (by kernel_rfl) (by kernel_rfl) (by kernel_rfl) (by kernel_rfl) h
def ju (xs:List AV) (h:Hp):Tr bY:=U0 (fun p1 p2 p3 p4 p5 p6=>fk xs h (Qv p1 p2 p3 p4 p5 p6) (Rh p1 p2 p3 p4 p5 p6) (oQ p1 p2 p3 p4 p5 p6) (Kd p1 p2 p3 p4 p5 p6) (bS p1 p2 p3 p4 p5 p6)) ⟨xs,h⟩
theorem hZ:gT Pz 69 ju:=fun _ _ _ h=>sD (U5 _ _ _ _ _ _) h
def abc:aw:=bO Pz Ix [(149,nR),(66,D4),(65,GW),(67,F8),(147,gV),(135,jD),(137,qZ),(138,rb),(139,pJ),(141,ru),(142,j9),(143,qY),(145,ll),(146,oe),(148,rh)] [] [(68,iu),(69,ju)]
theorem V8:aW abc:=aj ak ⟨pA,Fy,G2,GX,gX,kz,uj,tC,re,tq,lf,uU,lX,qc,uh,trivial⟩ trivial ⟨gz,hZ,trivial⟩
def RY (p1:Z') (p2:Int) (p3:Pos) (p4:Mv) (p5:Pos) (p6:Mv) (p7:Int) (x:(Int×Pos)):St:=St.mk (.ptr 3 0::(an 27 (.list (ET.i .i64) p1 .fresh::.int .i64 p2::.int .i64 x.1::(an 10 [])))) (Hp.mk [(pc p3 []),[.int .i8 p4.az,.int .i8 p4.to,.int .u8 p4.bQ,.int .u8 p4.aX,.bool p4.bP],zpB,(pc x.2 (pc p5 [.int .i8 p6.az,.int .i8 p6.to,.int .u8 p6.bQ,.int .u8 p6.aX,.bool p6.bP,.int .i64 p7]))] [] [] 0 0 0)
def Rr (p1:Z') (p2:Int) (p3:Pos) (p4:Mv) (p5:Pos) (p6:Mv) (p7:Int):(Int×Bool×Pos)→Out:=fun y=>.exit 0 (St.mk (.ptr 3 0::(an 27 (.list (ET.i .i64) p1 .fresh::.int .i64 p2::.int .i64 y.1::.bool y.2.1::(an 9 [])))) (Hp.mk [(pc p3 []),[.int .i8 p4.az,.int .i8 p4.to,.int .u8 p4.bQ,.int .u8 p4.aX,.bool p4.bP],zpB,(pc y.2.2 (pc p5 [.int .i8 p6.az,.int .i8 p6.to,.int .u8 p6.bQ,.int .u8 p6.aX,.bool p6.bP,.int .i64 p7]))] [] [] 0 0 0))
def CX (p1:Z') (p2:Int) (p3:Pos) (p4:Mv) (p5:Pos) (p6:Mv) (p7:Int) (x:(Int×Pos)):aG (Int×Pos) ((Int×Bool×Pos)):=(bif decide (x.1<p2) then (aG.go (wr .i64 (x.1+1),Pos.mk x.2.variant (x.2.ae.set (scale 1 (p1.getD x.1.toNat default)).toNat 0) x.2.ab x.2.af x.2.aa x.2.ai x.2.ah x.2.ag x.2.half x.2.full)) else (aG.out ((x.1,decide (x.1<p2),x.2))))
def E9 (p1:Z') (p2:Int) (p3:Pos) (p4:Mv) (p5:Pos) (p6:Mv) (p7:Int) (x:(Int×Pos)):Bool:=(bif decide (x.1<p2) then (decide (0≤x.1)&&decide (x.1<Int.ofNat p1.length)&&(decide (0≤p1.getD x.1.toNat default)&&decide (p1.getD x.1.toNat default<Int.ofNat 64)&&true)) else true)
def kr (p1:Z') (p2:Int) (p3:Pos) (p4:Mv) (p5:Pos) (p6:Mv) (p7:Int) (x:(Int×Pos)):Option ((Int×Bool×Pos)):=cO (fun x=>bif E9 p1 p2 p3 p4 p5 p6 p7 x then CX p1 p2 p3 p4 p5 p6 p7 x else .bad) many x
abbrev Qq {α:Type} (k:Z'→Int→Pos→Mv→Pos→Mv→Int→(Int×Pos)→α) (s:St):α:=wP s 0 fun q0=>wP s 3 fun q3=>wM s 1 fun q1=>k (tL (ET.i .i64) (tT s 28)) (tI (tT s 29)) q0 q1 (Kz.Pos.mk (tI (tH s 3 10)) (tN (tH s 3 11)) (tU (tH s 3 12)) (tN (tH s 3 13)) (tI (tH s 3 14)) (tN (tH s 3 15)) (tI (tH s 3 16)) (tN (tH s 3 17)) (tI (tH s 3 18)) (tI (tH s 3 19))) (Kz.Mv.mk (tI (tH s 3 20)) (tI (tH s 3 21)) (tI (tH s 3 22)) (tI (tH s 3 23)) (tB (tH s 3 24))) (tI (tH s 3 25)) ((tI (tT s 30)),q3)
theorem abG (p1:Z') (p2:Int) (p3:Pos) (p4:Mv) (p5:Pos) (p6:Mv) (p7:Int) (x:(Int×Pos)) (r:(Int×Bool×Pos)) (h:kr p1 p2 p3 p4 p5 p6 p7 x=some r):ay Pz (aT Pz 70 2) (RY p1 p2 p3 p4 p5 p6 p7 x) (Rr p1 p2 p3 p4 p5 p6 p7 r):=smq (m:=12) (fn:=70) V8 (Qq fun _ _ _ _ _ _ _ x=>some x) (fun o=>match o with | .exit 0 s=>wP s 3 fun q3=>some ((tI (tT s 30)),(tB (tT s 31)),q3) | _=>none) many x r h
def nO (b:Code) (s:St):Tr Out:=Qq (fun p1 p2 p3 p4 p5 p6 p7 x=>lq b (aT Pz 70 2) s (RY p1 p2 p3 p4 p5 p6 p7 x) (kr p1 p2 p3 p4 p5 p6 p7 x) (Rr p1 p2 p3 p4 p5 p6 p7)) s
theorem mn:∀ b,aM Pz b (nO b):=fun _ _ _ h=>bK (abG _ _ _ _ _ _ _ _) h
def ZQ:aw:=bO Pz Ix [(149,nR),(66,D4),(65,GW),(67,F8),(147,gV),(135,jD),(137,qZ),(138,rb),(139,pJ),(141,ru),(142,j9),(143,qY),(145,ll),(146,oe),(148,rh)] [(70,2,nO)] [(68,iu),(69,ju)]
theorem Uy:aW ZQ:=aj ak ⟨pA,Fy,G2,GX,gX,kz,uj,tC,re,tq,lf,uU,lX,qc,uh,trivial⟩ ⟨mn,trivial⟩ ⟨gz,hZ,trivial⟩
def Q6 (p1:Pos) (p2:Mv) (p3:Pos) (p4:Pos) (p5:Mv) (p6:Int):List AV:=[AV.ptr 3 0]
def Rt (p1:Pos) (p2:Mv) (p3:Pos) (p4:Pos) (p5:Mv) (p6:Int):Hp:=Hp.mk [(pc p1 []),[AV.int .i8 p2.az,AV.int .i8 p2.to,AV.int .u8 p2.bQ,AV.int .u8 p2.aX,AV.bool p2.bP],zpB,(pc p3 (pc p4 [AV.int .i8 p5.az,AV.int .i8 p5.to,AV.int .u8 p5.bQ,AV.int .u8 p5.aX,AV.bool p5.bP,AV.int .i64 p6]))] [] [] 0 0 0
def Hk (p1:Pos) (p2:Mv) (p3:Pos) (p4:Pos) (p5:Mv) (p6:Int) (y:(Pos)):bY := .ret (.tuple []) (Hp.mk [(pc p1 []),[.int .i8 p2.az,.int .i8 p2.to,.int .u8 p2.bQ,.int .u8 p2.aX,.bool p2.bP],zpB,(pc y (pc p4 [.int .i8 p5.az,.int .i8 p5.to,.int .u8 p5.bQ,.int .u8 p5.aX,.bool p5.bP,.int .i64 p6]))] [] [] 0 0 0)
def cr (p1:Pos) (p2:Mv) (p3:Pos) (p4:Pos) (p5:Mv) (p6:Int):(Pos):=(bif p3.variant != 3 then (p3) else (bif decide (p6<0) then (p3) else (((kr (gn (nD p3 (wr .i64 p5.to))) (Int.ofNat (gn (nD p3 (wr .i64 p5.to))).length) p1 p2 p4 p5 p6 (0,p3)).getD default).2.2)))
def nV (p1:Pos) (p2:Mv) (p3:Pos) (p4:Pos) (p5:Mv) (p6:Int):Bool:=(bif p3.variant != 3 then true else (bif decide (p6<0) then true else (AZ (p3) (wr .i64 p5.to)&&(qF (nD p3 (wr .i64 p5.to))&&((kr (gn (nD p3 (wr .i64 p5.to))) (Int.ofNat (gn (nD p3 (wr .i64 p5.to))).length) p1 p2 p4 p5 p6 (0,p3)).isSome&&true)))))
abbrev Ta {α:Type} (k:Pos→Mv→Pos→Pos→Mv→Int→α) (s:St):α:=wP s 0 fun q0=>wP s 3 fun q3=>wM s 1 fun q1=>k q0 q1 q3 (Kz.Pos.mk (tI (tH s 3 10)) (tN (tH s 3 11)) (tU (tH s 3 12)) (tN (tH s 3 13)) (tI (tH s 3 14)) (tN (tH s 3 15)) (tI (tH s 3 16)) (tN (tH s 3 17)) (tI (tH s 3 18)) (tI (tH s 3 19))) (Kz.Mv.mk (tI (tH s 3 20)) (tI (tH s 3 21)) (tI (tH s 3 22)) (tI (tH s 3 23)) (tB (tH s 3 24))) (tI (tH s 3 25))
theorem Vp (p1:Pos) (p2:Mv) (p3:Pos) (p4:Pos) (p5:Mv) (p6:Int) (h:nV p1 p2 p3 p4 p5 p6=true):du Pz 70 (Q6 p1 p2 p3 p4 p5 p6) (Rt p1 p2 p3 p4 p5 p6) (Hk p1 p2 p3 p4 p5 p6 (cr p1 p2 p3 p4 p5 p6))∧∃ fn,Pz.funcs[70]?=some fn∧fn.body.isSome=true:=kF (n:=14) (O:=Hk p1 p2 p3 p4 p5 p6) Uy (fun o=>match o with | .ret v h=>(let s:St:=⟨[v],h⟩;wP s 3 fun q3=>some q3) | _=>none) (fun _=>rfl) (by kernel_rfl) (by kernel_rfl) (by kernel_rfl) (by kernel_rfl) h
def lV (xs:List AV) (h:Hp):Tr bY:=Ta (fun p1 p2 p3 p4 p5 p6=>fk xs h (Q6 p1 p2 p3 p4 p5 p6) (Rt p1 p2 p3 p4 p5 p6) (nV p1 p2 p3 p4 p5 p6) (Hk p1 p2 p3 p4 p5 p6) (cr p1 p2 p3 p4 p5 p6)) ⟨xs,h⟩
theorem kc:gT Pz 70 lV:=fun _ _ _ h=>sD (Vp _ _ _ _ _ _) h
def abl:aw:=bO Pz Ix [(149,nR),(66,D4),(65,GW),(67,F8),(147,gV),(135,jD),(137,qZ),(138,rb),(139,pJ),(141,ru),(142,j9),(143,qY),(145,ll),(146,oe),(148,rh)] [(70,2,nO)] [(68,iu),(69,ju),(70,lV)]
theorem Wo:aW abl:=aj ak ⟨pA,Fy,G2,GX,gX,kz,uj,tC,re,tq,lf,uU,lX,qc,uh,trivial⟩ ⟨mn,trivial⟩ ⟨gz,hZ,kc,trivial⟩
def Qa (p1:Int) (p2:Int) (p3:Z') (p4:Pos) (p5:Mv) (p6:Pos) (p7:Mv) (p8:Int) (x:(Int×Pos)):St:=St.mk (.ptr 3 0::.any::.int .u8 p1::.int .i64 p2::(an 42 (.agg [.ints .i8 2 p3]::.int .i64 x.1::(an 73 [])))) (Hp.mk [(pc p4 []),[.int .i8 p5.az,.int .i8 p5.to,.int .u8 p5.bQ,.int .u8 p5.aX,.bool p5.bP],zpB,(pc x.2 (pc p6 [.int .i8 p7.az,.int .i8 p7.to,.int .u8 p7.bQ,.int .u8 p7.aX,.bool p7.bP,.int .i64 p8]))] [] [] 0 0 0)
def RW (p1:Int) (p2:Int) (p3:Z') (p4:Pos) (p5:Mv) (p6:Pos) (p7:Mv) (p8:Int):(Int×Bool×Pos)→Out:=fun y=>.exit 2 (St.mk (.ptr 3 0::.any::.int .u8 p1::.int .i64 p2::(an 42 (.agg [.ints .i8 2 p3]::.int .i64 y.1::.bool y.2.1::(an 72 [])))) (Hp.mk [(pc p4 []),[.int .i8 p5.az,.int .i8 p5.to,.int .u8 p5.bQ,.int .u8 p5.aX,.bool p5.bP],zpB,(pc y.2.2 (pc p6 [.int .i8 p7.az,.int .i8 p7.to,.int .u8 p7.bQ,.int .u8 p7.aX,.bool p7.bP,.int .i64 p8]))] [] [] 0 0 0))
def sh (p1:Int) (p2:Int) (p3:Z') (p4:Pos) (p5:Mv) (p6:Pos) (p7:Mv) (p8:Int) (x:(Int×Pos)):aG (Int×Pos) ((Int×Bool×Pos)):=(bif decide (x.1<2) then (bif decide (p3.getD x.1.toNat 0<0) then (aG.go (wr .i64 (x.1+1),x.2)) else (bif decide (p3.getD x.1.toNat 0>7) then (aG.go (wr .i64 (x.1+1),x.2)) else (bif p8==wr .i64 (wr .i64 (56 * wr .i64 p1)+wr .i64 (p3.getD x.1.toNat 0)) then (aG.go (wr .i64 (x.1+1),Pos.mk x.2.variant x.2.ae x.2.ab x.2.af x.2.aa (x.2.ai.set (scale 2 p1+scale 1 x.1).toNat (-1)) x.2.ah x.2.ag x.2.half x.2.full)) else (bif p7.aX==0 then (bif wr .i64 p7.az==wr .i64 (wr .i64 (56 * wr .i64 p1)+wr .i64 (p3.getD x.1.toNat 0)) then (aG.go (wr .i64 (x.1+1),Pos.mk x.2.variant x.2.ae x.2.ab x.2.af x.2.aa (x.2.ai.set (scale 2 p1+scale 1 x.1).toNat (-1)) x.2.ah x.2.ag x.2.half x.2.full)) else (bif decide (p2<0) then (aG.go (wr .i64 (x.1+1),Pos.mk x.2.variant x.2.ae x.2.ab x.2.af x.2.aa (x.2.ai.set (scale 2 p1+scale 1 x.1).toNat (-1)) x.2.ah x.2.ag x.2.half x.2.full)) else (bif wr .i64 (p2.tdiv 8) != wr .i64 (7 * wr .i64 p1) then (aG.go (wr .i64 (x.1+1),Pos.mk x.2.variant x.2.ae x.2.ab x.2.af x.2.aa (x.2.ai.set (scale 2 p1+scale 1 x.1).toNat (-1)) x.2.ah x.2.ag x.2.half x.2.full)) else (bif x.2.ae.getD (scale 1 (wr .i64 (wr .i64 (56 * wr .i64 p1)+wr .i64 (p3.getD x.1.toNat 0)))).toNat 0 != jB p1 4 then (aG.go (wr .i64 (x.1+1),Pos.mk x.2.variant x.2.ae x.2.ab x.2.af x.2.aa (x.2.ai.set (scale 2 p1+scale 1 x.1).toNat (-1)) x.2.ah x.2.ag x.2.half x.2.full)) else (aG.go (wr .i64 (x.1+1),x.2)))))) else (bif decide (p2<0) then (aG.go (wr .i64 (x.1+1),Pos.mk x.2.variant x.2.ae x.2.ab x.2.af x.2.aa (x.2.ai.set (scale 2 p1+scale 1 x.1).toNat (-1)) x.2.ah x.2.ag x.2.half x.2.full)) else (bif wr .i64 (p2.tdiv 8) != wr .i64 (7 * wr .i64 p1) then (aG.go (wr .i64 (x.1+1),Pos.mk x.2.variant x.2.ae x.2.ab x.2.af x.2.aa (x.2.ai.set (scale 2 p1+scale 1 x.1).toNat (-1)) x.2.ah x.2.ag x.2.half x.2.full)) else (bif x.2.ae.getD (scale 1 (wr .i64 (wr .i64 (56 * wr .i64 p1)+wr .i64 (p3.getD x.1.toNat 0)))).toNat 0 != jB p1 4 then (aG.go (wr .i64 (x.1+1),Pos.mk x.2.variant x.2.ae x.2.ab x.2.af x.2.aa (x.2.ai.set (scale 2 p1+scale 1 x.1).toNat (-1)) x.2.ah x.2.ag x.2.half x.2.full)) else (aG.go (wr .i64 (x.1+1),x.2))))))))) else (aG.out ((x.1,decide (x.1<2),x.2))))
def xK (p1:Int) (p2:Int) (p3:Z') (p4:Pos) (p5:Mv) (p6:Pos) (p7:Mv) (p8:Int) (x:(Int×Pos)):Bool:=(bif decide (x.1<2) then (decide (0≤x.1)&&decide (x.1<Int.ofNat 2)&&(bif decide (p3.getD x.1.toNat 0<0) then true else (bif decide (p3.getD x.1.toNat 0>7) then true else (bif p8==wr .i64 (wr .i64 (56 * wr .i64 p1)+wr .i64 (p3.getD x.1.toNat 0)) then (decide (0≤p1)&&decide (p1<Int.ofNat 2)&&(decide (0≤x.1)&&decide (x.1<Int.ofNat 2)&&true)) else (bif p7.aX==0 then (bif wr .i64 p7.az==wr .i64 (wr .i64 (56 * wr .i64 p1)+wr .i64 (p3.getD x.1.toNat 0)) then (decide (0≤p1)&&decide (p1<Int.ofNat 2)&&(decide (0≤x.1)&&decide (x.1<Int.ofNat 2)&&true)) else (bif decide (p2<0) then (decide (0≤p1)&&decide (p1<Int.ofNat 2)&&(decide (0≤x.1)&&decide (x.1<Int.ofNat 2)&&true)) else (bif wr .i64 (p2.tdiv 8) != wr .i64 (7 * wr .i64 p1) then (decide (0≤p1)&&decide (p1<Int.ofNat 2)&&(decide (0≤x.1)&&decide (x.1<Int.ofNat 2)&&true)) else (decide (0≤wr .i64 (wr .i64 (56 * wr .i64 p1)+wr .i64 (p3.getD x.1.toNat 0)))&&decide (wr .i64 (wr .i64 (56 * wr .i64 p1)+wr .i64 (p3.getD x.1.toNat 0))<Int.ofNat 64)&&(bif x.2.ae.getD (scale 1 (wr .i64 (wr .i64 (56 * wr .i64 p1)+wr .i64 (p3.getD x.1.toNat 0)))).toNat 0 != jB p1 4 then (decide (0≤p1)&&decide (p1<Int.ofNat 2)&&(decide (0≤x.1)&&decide (x.1<Int.ofNat 2)&&true)) else true))))) else (bif decide (p2<0) then (decide (0≤p1)&&decide (p1<Int.ofNat 2)&&(decide (0≤x.1)&&decide (x.1<Int.ofNat 2)&&true)) else (bif wr .i64 (p2.tdiv 8) != wr .i64 (7 * wr .i64 p1) then (decide (0≤p1)&&decide (p1<Int.ofNat 2)&&(decide (0≤x.1)&&decide (x.1<Int.ofNat 2)&&true)) else (decide (0≤wr .i64 (wr .i64 (56 * wr .i64 p1)+wr .i64 (p3.getD x.1.toNat 0)))&&decide (wr .i64 (wr .i64 (56 * wr .i64 p1)+wr .i64 (p3.getD x.1.toNat 0))<Int.ofNat 64)&&(bif x.2.ae.getD (scale 1 (wr .i64 (wr .i64 (56 * wr .i64 p1)+wr .i64 (p3.getD x.1.toNat 0)))).toNat 0 != jB p1 4 then (decide (0≤p1)&&decide (p1<Int.ofNat 2)&&(decide (0≤x.1)&&decide (x.1<Int.ofNat 2)&&true)) else true))))))))) else true)
def ji (p1:Int) (p2:Int) (p3:Z') (p4:Pos) (p5:Mv) (p6:Pos) (p7:Mv) (p8:Int) (x:(Int×Pos)):Option ((Int×Bool×Pos)):=cO (fun x=>bif xK p1 p2 p3 p4 p5 p6 p7 p8 x then sh p1 p2 p3 p4 p5 p6 p7 p8 x else .bad) many x
abbrev Q4 {α:Type} (k:Int→Int→Z'→Pos→Mv→Pos→Mv→Int→(Int×Pos)→α) (s:St):α:=wP s 0 fun q0=>wP s 3 fun q3=>wM s 1 fun q1=>k (tI (tT s 2)) (tI (tT s 3)) (tN (tX (tA (tT s 46)) 0)) q0 q1 (Kz.Pos.mk (tI (tH s 3 10)) (tN (tH s 3 11)) (tU (tH s 3 12)) (tN (tH s 3 13)) (tI (tH s 3 14)) (tN (tH s 3 15)) (tI (tH s 3 16)) (tN (tH s 3 17)) (tI (tH s 3 18)) (tI (tH s 3 19))) (Kz.Mv.mk (tI (tH s 3 20)) (tI (tH s 3 21)) (tI (tH s 3 22)) (tI (tH s 3 23)) (tB (tH s 3 24))) (tI (tH s 3 25)) ((tI (tT s 47)),q3)
theorem ZH (p1:Int) (p2:Int) (p3:Z') (p4:Pos) (p5:Mv) (p6:Pos) (p7:Mv) (p8:Int) (x:(Int×Pos)) (r:(Int×Bool×Pos)) (h:ji p1 p2 p3 p4 p5 p6 p7 p8 x=some r):ay Pz (aT Pz 71 7) (Qa p1 p2 p3 p4 p5 p6 p7 p8 x) (RW p1 p2 p3 p4 p5 p6 p7 p8 r):=smq (m:=12) (fn:=71) Wo (Q4 fun _ _ _ _ _ _ _ _ x=>some x) (fun o=>match o with | .exit 2 s=>wP s 3 fun q3=>some ((tI (tT s 47)),(tB (tT s 48)),q3) | _=>none) many x r h
def uN (b:Code) (s:St):Tr Out:=Q4 (fun p1 p2 p3 p4 p5 p6 p7 p8 x=>lq b (aT Pz 71 7) s (Qa p1 p2 p3 p4 p5 p6 p7 p8 x) (ji p1 p2 p3 p4 p5 p6 p7 p8 x) (RW p1 p2 p3 p4 p5 p6 p7 p8)) s
theorem pz:∀ b,aM Pz b (uN b):=fun _ _ _ h=>bK (ZH _ _ _ _ _ _ _ _ _) h
def Yr:aw:=bO Pz Ix [(149,nR),(66,D4),(65,GW),(67,F8),(147,gV),(135,jD),(137,qZ),(138,rb),(139,pJ),(141,ru),(142,j9),(143,qY),(145,ll),(146,oe),(148,rh)] [(70,2,nO),(71,7,uN)] [(68,iu),(69,ju),(70,lV)]
theorem Up:aW Yr:=aj ak ⟨pA,Fy,G2,GX,gX,kz,uj,tC,re,tq,lf,uU,lX,qc,uh,trivial⟩ ⟨mn,pz,trivial⟩ ⟨gz,hZ,kc,trivial⟩
def Ss (p1:Pos) (p2:Mv) (p3:Pos) (p4:Mv) (p5:Int) (x:(Int×Pos)):St:=St.mk (.ptr 3 0::.any::.int .u8 x.1::(an 118 [])) (Hp.mk [(pc p1 []),[.int .i8 p2.az,.int .i8 p2.to,.int .u8 p2.bQ,.int .u8 p2.aX,.bool p2.bP],zpB,(pc x.2 (pc p3 [.int .i8 p4.az,.int .i8 p4.to,.int .u8 p4.bQ,.int .u8 p4.aX,.bool p4.bP,.int .i64 p5]))] [] [] 0 0 0)
def QB (p1:Pos) (p2:Mv) (p3:Pos) (p4:Mv) (p5:Int):(Int×Bool×Pos)→Out:=fun y=>.exit 0 (St.mk (.ptr 3 0::.any::.int .u8 y.1::(an 28 (.bool y.2.1::(an 89 [])))) (Hp.mk [(pc p1 []),[.int .i8 p2.az,.int .i8 p2.to,.int .u8 p2.bQ,.int .u8 p2.aX,.bool p2.bP],zpB,(pc y.2.2 (pc p3 [.int .i8 p4.az,.int .i8 p4.to,.int .u8 p4.bQ,.int .u8 p4.aX,.bool p4.bP,.int .i64 p5]))] [] [] 0 0 0))
def sy (p1:Pos) (p2:Mv) (p3:Pos) (p4:Mv) (p5:Int) (x:(Int×Pos)):aG (Int×Pos) ((Int×Bool×Pos)):=(bif decide (x.1≤1) then (aG.go (wr .u8 (x.1+1),((ji x.1 (aZ x.2 x.1 6) (List.take 2 (List.drop (scale 2 x.1).toNat x.2.ai)) p1 p2 p3 p4 p5 (0,x.2)).getD default).2.2)) else (aG.out ((x.1,decide (x.1≤1),x.2))))
def ph (p1:Pos) (p2:Mv) (p3:Pos) (p4:Mv) (p5:Int) (x:(Int×Pos)):Bool:=(bif decide (x.1≤1) then (iW (x.2) (x.1) (6)&&(decide (0≤x.1)&&decide (x.1<Int.ofNat 2)&&((ji x.1 (aZ x.2 x.1 6) (List.take 2 (List.drop (scale 2 x.1).toNat x.2.ai)) p1 p2 p3 p4 p5 (0,x.2)).isSome&&true))) else true)
def di (p1:Pos) (p2:Mv) (p3:Pos) (p4:Mv) (p5:Int) (x:(Int×Pos)):Option ((Int×Bool×Pos)):=cO (fun x=>bif ph p1 p2 p3 p4 p5 x then sy p1 p2 p3 p4 p5 x else .bad) many x
abbrev QN {α:Type} (k:Pos→Mv→Pos→Mv→Int→(Int×Pos)→α) (s:St):α:=wP s 0 fun q0=>wP s 3 fun q3=>wM s 1 fun q1=>k q0 q1 (Kz.Pos.mk (tI (tH s 3 10)) (tN (tH s 3 11)) (tU (tH s 3 12)) (tN (tH s 3 13)) (tI (tH s 3 14)) (tN (tH s 3 15)) (tI (tH s 3 16)) (tN (tH s 3 17)) (tI (tH s 3 18)) (tI (tH s 3 19))) (Kz.Mv.mk (tI (tH s 3 20)) (tI (tH s 3 21)) (tI (tH s 3 22)) (tI (tH s 3 23)) (tB (tH s 3 24))) (tI (tH s 3 25)) ((tI (tT s 2)),q3)
theorem Za (p1:Pos) (p2:Mv) (p3:Pos) (p4:Mv) (p5:Int) (x:(Int×Pos)) (r:(Int×Bool×Pos)) (h:di p1 p2 p3 p4 p5 x=some r):ay Pz (aT Pz 71 3) (Ss p1 p2 p3 p4 p5 x) (QB p1 p2 p3 p4 p5 r):=smq (m:=12) (fn:=71) Up (QN fun _ _ _ _ _ x=>some x) (fun o=>match o with | .exit 0 s=>wP s 3 fun q3=>some ((tI (tT s 2)),(tB (tT s 31)),q3) | _=>none) many x r h
def wG (b:Code) (s:St):Tr Out:=QN (fun p1 p2 p3 p4 p5 x=>lq b (aT Pz 71 3) s (Ss p1 p2 p3 p4 p5 x) (di p1 p2 p3 p4 p5 x) (QB p1 p2 p3 p4 p5)) s
theorem uA:∀ b,aM Pz b (wG b):=fun _ _ _ h=>bK (Za _ _ _ _ _ _) h
def Xw:aw:=bO Pz Ix [(149,nR),(66,D4),(65,GW),(67,F8),(147,gV),(135,jD),(137,qZ),(138,rb),(139,pJ),(141,ru),(142,j9),(143,qY),(145,ll),(146,oe),(148,rh)] [(70,2,nO),(71,7,uN),(71,3,wG)] [(68,iu),(69,ju),(70,lV)]
theorem T5:aW Xw:=aj ak ⟨pA,Fy,G2,GX,gX,kz,uj,tC,re,tq,lf,uU,lX,qc,uh,trivial⟩ ⟨mn,pz,uA,trivial⟩ ⟨gz,hZ,kc,trivial⟩
def Si (p1:Pos) (p2:Mv) (p3:Pos) (p4:Pos) (p5:Mv) (p6:Int):List AV:=[AV.ptr 3 0]
def Qy (p1:Pos) (p2:Mv) (p3:Pos) (p4:Pos) (p5:Mv) (p6:Int):Hp:=Hp.mk [(pc p1 []),[AV.int .i8 p2.az,AV.int .i8 p2.to,AV.int .u8 p2.bQ,AV.int .u8 p2.aX,AV.bool p2.bP],zpB,(pc p3 (pc p4 [AV.int .i8 p5.az,AV.int .i8 p5.to,AV.int .u8 p5.bQ,AV.int .u8 p5.aX,AV.bool p5.bP,AV.int .i64 p6]))] [] [] 0 0 0
def Ki (p1:Pos) (p2:Mv) (p3:Pos) (p4:Pos) (p5:Mv) (p6:Int) (y:(Pos)):bY := .ret (.tuple []) (Hp.mk [(pc p1 []),[.int .i8 p2.az,.int .i8 p2.to,.int .u8 p2.bQ,.int .u8 p2.aX,.bool p2.bP],zpB,(pc y (pc p4 [.int .i8 p5.az,.int .i8 p5.to,.int .u8 p5.bQ,.int .u8 p5.aX,.bool p5.bP,.int .i64 p6]))] [] [] 0 0 0)
def cA (p1:Pos) (p2:Mv) (p3:Pos) (p4:Pos) (p5:Mv) (p6:Int):(Pos):=(bif p5.aX != 0 then (bif p5.aX==6 then (bif p5.aX==0 then (((di p1 p2 p4 p5 p6 (0,Pos.mk p3.variant p3.ae p3.ab p3.af p3.aa (List.take (scale 2 p3.aa).toNat p3.ai++li [-1,-1]++List.drop ((scale 2 p3.aa).toNat+2) p3.ai) p3.ah p3.ag p3.half p3.full)).getD default).2.2) else (((di p1 p2 p4 p5 p6 (0,p3)).getD default).2.2)) else (((di p1 p2 p4 p5 p6 (0,p3)).getD default).2.2)) else (bif bw (p4.ae.getD (scale 1 p5.az).toNat 0)==6 then (bif p5.aX==0 then (((di p1 p2 p4 p5 p6 (0,Pos.mk p3.variant p3.ae p3.ab p3.af p3.aa (List.take (scale 2 p3.aa).toNat p3.ai++li [-1,-1]++List.drop ((scale 2 p3.aa).toNat+2) p3.ai) p3.ah p3.ag p3.half p3.full)).getD default).2.2) else (((di p1 p2 p4 p5 p6 (0,p3)).getD default).2.2)) else (((di p1 p2 p4 p5 p6 (0,p3)).getD default).2.2)))
def oG (p1:Pos) (p2:Mv) (p3:Pos) (p4:Pos) (p5:Mv) (p6:Int):Bool:=(bif p5.aX != 0 then (bif p5.aX==6 then (bif p5.aX==0 then (decide (0≤p3.aa)&&decide (p3.aa<Int.ofNat 2)&&((di p1 p2 p4 p5 p6 (0,Pos.mk p3.variant p3.ae p3.ab p3.af p3.aa (List.take (scale 2 p3.aa).toNat p3.ai++li [-1,-1]++List.drop ((scale 2 p3.aa).toNat+2) p3.ai) p3.ah p3.ag p3.half p3.full)).isSome&&true)) else ((di p1 p2 p4 p5 p6 (0,p3)).isSome&&true)) else ((di p1 p2 p4 p5 p6 (0,p3)).isSome&&true)) else (decide (0≤p5.az)&&decide (p5.az<Int.ofNat 64)&&(bif bw (p4.ae.getD (scale 1 p5.az).toNat 0)==6 then (bif p5.aX==0 then (decide (0≤p3.aa)&&decide (p3.aa<Int.ofNat 2)&&((di p1 p2 p4 p5 p6 (0,Pos.mk p3.variant p3.ae p3.ab p3.af p3.aa (List.take (scale 2 p3.aa).toNat p3.ai++li [-1,-1]++List.drop ((scale 2 p3.aa).toNat+2) p3.ai) p3.ah p3.ag p3.half p3.full)).isSome&&true)) else ((di p1 p2 p4 p5 p6 (0,p3)).isSome&&true)) else ((di p1 p2 p4 p5 p6 (0,p3)).isSome&&true))))
abbrev Vu {α:Type} (k:Pos→Mv→Pos→Pos→Mv→Int→α) (s:St):α:=wP s 0 fun q0=>wP s 3 fun q3=>wM s 1 fun q1=>k q0 q1 q3 (Kz.Pos.mk (tI (tH s 3 10)) (tN (tH s 3 11)) (tU (tH s 3 12)) (tN (tH s 3 13)) (tI (tH s 3 14)) (tN (tH s 3 15)) (tI (tH s 3 16)) (tN (tH s 3 17)) (tI (tH s 3 18)) (tI (tH s 3 19))) (Kz.Mv.mk (tI (tH s 3 20)) (tI (tH s 3 21)) (tI (tH s 3 22)) (tI (tH s 3 23)) (tB (tH s 3 24))) (tI (tH s 3 25))
theorem UA (p1:Pos) (p2:Mv) (p3:Pos) (p4:Pos) (p5:Mv) (p6:Int) (h:oG p1 p2 p3 p4 p5 p6=true):du Pz 71 (Si p1 p2 p3 p4 p5 p6) (Qy p1 p2 p3 p4 p5 p6) (Ki p1 p2 p3 p4 p5 p6 (cA p1 p2 p3 p4 p5 p6))∧∃ fn,Pz.funcs[71]?=some fn∧fn.body.isSome=true:=kF (n:=14) (O:=Ki p1 p2 p3 p4 p5 p6) T5 (fun o=>match o with | .ret v h=>(let s:St:=⟨[v],h⟩;wP s 3 fun q3=>some q3) | _=>none) (fun _=>rfl) (by kernel_rfl) (by kernel_rfl) (by kernel_rfl) (by kernel_rfl) h
def se (xs:List AV) (h:Hp):Tr bY:=Vu (fun p1 p2 p3 p4 p5 p6=>fk xs h (Si p1 p2 p3 p4 p5 p6) (Qy p1 p2 p3 p4 p5 p6) (oG p1 p2 p3 p4 p5 p6) (Ki p1 p2 p3 p4 p5 p6) (cA p1 p2 p3 p4 p5 p6)) ⟨xs,h⟩
theorem rV:gT Pz 71 se:=fun _ _ _ h=>sD (UA _ _ _ _ _ _) h
def YZ:aw:=bO Pz Ix [(149,nR),(66,D4),(65,GW),(67,F8),(147,gV),(135,jD),(137,qZ),(138,rb),(139,pJ),(141,ru),(142,j9),(143,qY),(145,ll),(146,oe),(148,rh)] [(70,2,nO),(71,7,uN),(71,3,wG)] [(68,iu),(69,ju),(70,lV),(71,se)]
theorem Ut:aW YZ:=aj ak ⟨pA,Fy,G2,GX,gX,kz,uj,tC,re,tq,lf,uU,lX,qc,uh,trivial⟩ ⟨mn,pz,uA,trivial⟩ ⟨gz,hZ,kc,rV,trivial⟩
def Qo (p1:Pos) (p2:Mv) (p3:Pos) (p4:Pos) (p5:Mv) (p6:Int):List AV:=[AV.ptr 3 0]
def Q3 (p1:Pos) (p2:Mv) (p3:Pos) (p4:Pos) (p5:Mv) (p6:Int):Hp:=Hp.mk [(pc p1 []),[AV.int .i8 p2.az,AV.int .i8 p2.to,AV.int .u8 p2.bQ,AV.int .u8 p2.aX,AV.bool p2.bP],zpB,(pc p3 (pc p4 [AV.int .i8 p5.az,AV.int .i8 p5.to,AV.int .u8 p5.bQ,AV.int .u8 p5.aX,AV.bool p5.bP,AV.int .i64 p6]))] [] [] 0 0 0
def KM (p1:Pos) (p2:Mv) (p3:Pos) (p4:Pos) (p5:Mv) (p6:Int) (y:(Pos)):bY := .ret (.tuple []) (Hp.mk [(pc p1 []),[.int .i8 p2.az,.int .i8 p2.to,.int .u8 p2.bQ,.int .u8 p2.aX,.bool p2.bP],zpB,(pc y (pc p4 [.int .i8 p5.az,.int .i8 p5.to,.int .u8 p5.bQ,.int .u8 p5.aX,.bool p5.bP,.int .i64 p6]))] [] [] 0 0 0)
def da (p1:Pos) (p2:Mv) (p3:Pos) (p4:Pos) (p5:Mv) (p6:Int):(Pos):=(bif p5.aX != 0 then (bif p5.aX != 1 then (Pos.mk p3.variant p3.ae p3.ab p3.af p3.aa p3.ai (-1) p3.ag p3.half p3.full) else (bif p5.aX != 0 then (Pos.mk p3.variant p3.ae p3.ab p3.af p3.aa p3.ai (-1) p3.ag p3.half p3.full) else (bif wr .i8 (p5.to-p5.az) != 16 then (bif wr .i8 (p5.az-p5.to) != 16 then (Pos.mk p3.variant p3.ae p3.ab p3.af p3.aa p3.ai (-1) p3.ag p3.half p3.full) else (bif wr .i8 (p5.az.tdiv 8) != wr .i8 (wr .i8 (7 * wr .i8 p3.aa)+1) then (bif wr .i8 (p5.az.tdiv 8) != wr .i8 (wr .i8 (7 * wr .i8 p3.aa)-1) then (Pos.mk p3.variant p3.ae p3.ab p3.af p3.aa p3.ai (-1) p3.ag p3.half p3.full) else (bif dc p3.aa (wr .i64 (wr .i8 ((wr .i8 (p5.az+p5.to)).tdiv 2)))&&&aO (Pos.mk p3.variant p3.ae p3.ab p3.af p3.aa p3.ai (-1) p3.ag p3.half p3.full) (wr .u8 (1-p3.aa)) 1 != 0#64 then (Pos.mk p3.variant p3.ae p3.ab p3.af p3.aa p3.ai (wr .i8 ((wr .i8 (p5.az+p5.to)).tdiv 2)) p3.ag p3.half p3.full) else (Pos.mk p3.variant p3.ae p3.ab p3.af p3.aa p3.ai (-1) p3.ag p3.half p3.full))) else (bif dc p3.aa (wr .i64 (wr .i8 ((wr .i8 (p5.az+p5.to)).tdiv 2)))&&&aO (Pos.mk p3.variant p3.ae p3.ab p3.af p3.aa p3.ai (-1) p3.ag p3.half p3.full) (wr .u8 (1-p3.aa)) 1 != 0#64 then (Pos.mk p3.variant p3.ae p3.ab p3.af p3.aa p3.ai (wr .i8 ((wr .i8 (p5.az+p5.to)).tdiv 2)) p3.ag p3.half p3.full) else (Pos.mk p3.variant p3.ae p3.ab p3.af p3.aa p3.ai (-1) p3.ag p3.half p3.full)))) else (bif wr .i8 (p5.az.tdiv 8) != wr .i8 (wr .i8 (7 * wr .i8 p3.aa)+1) then (bif wr .i8 (p5.az.tdiv 8) != wr .i8 (wr .i8 (7 * wr .i8 p3.aa)-1) then (Pos.mk p3.variant p3.ae p3.ab p3.af p3.aa p3.ai (-1) p3.ag p3.half p3.full) else (bif dc p3.aa (wr .i64 (wr .i8 ((wr .i8 (p5.az+p5.to)).tdiv 2)))&&&aO (Pos.mk p3.variant p3.ae p3.ab p3.af p3.aa p3.ai (-1) p3.ag p3.half p3.full) (wr .u8 (1-p3.aa)) 1 != 0#64 then (Pos.mk p3.variant p3.ae p3.ab p3.af p3.aa p3.ai (wr .i8 ((wr .i8 (p5.az+p5.to)).tdiv 2)) p3.ag p3.half p3.full) else (Pos.mk p3.variant p3.ae p3.ab p3.af p3.aa p3.ai (-1) p3.ag p3.half p3.full))) else (bif dc p3.aa (wr .i64 (wr .i8 ((wr .i8 (p5.az+p5.to)).tdiv 2)))&&&aO (Pos.mk p3.variant p3.ae p3.ab p3.af p3.aa p3.ai (-1) p3.ag p3.half p3.full) (wr .u8 (1-p3.aa)) 1 != 0#64 then (Pos.mk p3.variant p3.ae p3.ab p3.af p3.aa p3.ai (wr .i8 ((wr .i8 (p5.az+p5.to)).tdiv 2)) p3.ag p3.half p3.full) else (Pos.mk p3.variant p3.ae p3.ab p3.af p3.aa p3.ai (-1) p3.ag p3.half p3.full)))))) else (bif bw (p4.ae.getD (scale 1 p5.az).toNat 0) != 1 then (Pos.mk p3.variant p3.ae p3.ab p3.af p3.aa p3.ai (-1) p3.ag p3.half p3.full) else (bif p5.aX != 0 then (Pos.mk p3.variant p3.ae p3.ab p3.af p3.aa p3.ai (-1) p3.ag p3.half p3.full) else (bif wr .i8 (p5.to-p5.az) != 16 then (bif wr .i8 (p5.az-p5.to) != 16 then (Pos.mk p3.variant p3.ae p3.ab p3.af p3.aa p3.ai (-1) p3.ag p3.half p3.full) else (bif wr .i8 (p5.az.tdiv 8) != wr .i8 (wr .i8 (7 * wr .i8 p3.aa)+1) then (bif wr .i8 (p5.az.tdiv 8) != wr .i8 (wr .i8 (7 * wr .i8 p3.aa)-1) then (Pos.mk p3.variant p3.ae p3.ab p3.af p3.aa p3.ai (-1) p3.ag p3.half p3.full) else (bif dc p3.aa (wr .i64 (wr .i8 ((wr .i8 (p5.az+p5.to)).tdiv 2)))&&&aO (Pos.mk p3.variant p3.ae p3.ab p3.af p3.aa p3.ai (-1) p3.ag p3.half p3.full) (wr .u8 (1-p3.aa)) 1 != 0#64 then (Pos.mk p3.variant p3.ae p3.ab p3.af p3.aa p3.ai (wr .i8 ((wr .i8 (p5.az+p5.to)).tdiv 2)) p3.ag p3.half p3.full) else (Pos.mk p3.variant p3.ae p3.ab p3.af p3.aa p3.ai (-1) p3.ag p3.half p3.full))) else (bif dc p3.aa (wr .i64 (wr .i8 ((wr .i8 (p5.az+p5.to)).tdiv 2)))&&&aO (Pos.mk p3.variant p3.ae p3.ab p3.af p3.aa p3.ai (-1) p3.ag p3.half p3.full) (wr .u8 (1-p3.aa)) 1 != 0#64 then (Pos.mk p3.variant p3.ae p3.ab p3.af p3.aa p3.ai (wr .i8 ((wr .i8 (p5.az+p5.to)).tdiv 2)) p3.ag p3.half p3.full) else (Pos.mk p3.variant p3.ae p3.ab p3.af p3.aa p3.ai (-1) p3.ag p3.half p3.full)))) else (bif wr .i8 (p5.az.tdiv 8) != wr .i8 (wr .i8 (7 * wr .i8 p3.aa)+1) then (bif wr .i8 (p5.az.tdiv 8) != wr .i8 (wr .i8 (7 * wr .i8 p3.aa)-1) then (Pos.mk p3.variant p3.ae p3.ab p3.af p3.aa p3.ai (-1) p3.ag p3.half p3.full) else (bif dc p3.aa (wr .i64 (wr .i8 ((wr .i8 (p5.az+p5.to)).tdiv 2)))&&&aO (Pos.mk p3.variant p3.ae p3.ab p3.af p3.aa p3.ai (-1) p3.ag p3.half p3.full) (wr .u8 (1-p3.aa)) 1 != 0#64 then (Pos.mk p3.variant p3.ae p3.ab p3.af p3.aa p3.ai (wr .i8 ((wr .i8 (p5.az+p5.to)).tdiv 2)) p3.ag p3.half p3.full) else (Pos.mk p3.variant p3.ae p3.ab p3.af p3.aa p3.ai (-1) p3.ag p3.half p3.full))) else (bif dc p3.aa (wr .i64 (wr .i8 ((wr .i8 (p5.az+p5.to)).tdiv 2)))&&&aO (Pos.mk p3.variant p3.ae p3.ab p3.af p3.aa p3.ai (-1) p3.ag p3.half p3.full) (wr .u8 (1-p3.aa)) 1 != 0#64 then (Pos.mk p3.variant p3.ae p3.ab p3.af p3.aa p3.ai (wr .i8 ((wr .i8 (p5.az+p5.to)).tdiv 2)) p3.ag p3.half p3.full) else (Pos.mk p3.variant p3.ae p3.ab p3.af p3.aa p3.ai (-1) p3.ag p3.half p3.full)))))))
def ov (p1:Pos) (p2:Mv) (p3:Pos) (p4:Pos) (p5:Mv) (p6:Int):Bool:=(bif p5.aX != 0 then (bif p5.aX != 1 then true else (bif p5.aX != 0 then true else (bif wr .i8 (p5.to-p5.az) != 16 then (bif wr .i8 (p5.az-p5.to) != 16 then true else (bif wr .i8 (p5.az.tdiv 8) != wr .i8 (wr .i8 (7 * wr .i8 p3.aa)+1) then (bif wr .i8 (p5.az.tdiv 8) != wr .i8 (wr .i8 (7 * wr .i8 p3.aa)-1) then true else (iS (p3.aa) (wr .i64 (wr .i8 ((wr .i8 (p5.az+p5.to)).tdiv 2)))&&(cx (Pos.mk p3.variant p3.ae p3.ab p3.af p3.aa p3.ai (-1) p3.ag p3.half p3.full) (wr .u8 (1-p3.aa)) (1)&&true))) else (iS (p3.aa) (wr .i64 (wr .i8 ((wr .i8 (p5.az+p5.to)).tdiv 2)))&&(cx (Pos.mk p3.variant p3.ae p3.ab p3.af p3.aa p3.ai (-1) p3.ag p3.half p3.full) (wr .u8 (1-p3.aa)) (1)&&true)))) else (bif wr .i8 (p5.az.tdiv 8) != wr .i8 (wr .i8 (7 * wr .i8 p3.aa)+1) then (bif wr .i8 (p5.az.tdiv 8) != wr .i8 (wr .i8 (7 * wr .i8 p3.aa)-1) then true else (iS (p3.aa) (wr .i64 (wr .i8 ((wr .i8 (p5.az+p5.to)).tdiv 2)))&&(cx (Pos.mk p3.variant p3.ae p3.ab p3.af p3.aa p3.ai (-1) p3.ag p3.half p3.full) (wr .u8 (1-p3.aa)) (1)&&true))) else (iS (p3.aa) (wr .i64 (wr .i8 ((wr .i8 (p5.az+p5.to)).tdiv 2)))&&(cx (Pos.mk p3.variant p3.ae p3.ab p3.af p3.aa p3.ai (-1) p3.ag p3.half p3.full) (wr .u8 (1-p3.aa)) (1)&&true)))))) else (decide (0≤p5.az)&&decide (p5.az<Int.ofNat 64)&&(bif bw (p4.ae.getD (scale 1 p5.az).toNat 0) != 1 then true else (bif p5.aX != 0 then true else (bif wr .i8 (p5.to-p5.az) != 16 then (bif wr .i8 (p5.az-p5.to) != 16 then true else (bif wr .i8 (p5.az.tdiv 8) != wr .i8 (wr .i8 (7 * wr .i8 p3.aa)+1) then (bif wr .i8 (p5.az.tdiv 8) != wr .i8 (wr .i8 (7 * wr .i8 p3.aa)-1) then true else (iS (p3.aa) (wr .i64 (wr .i8 ((wr .i8 (p5.az+p5.to)).tdiv 2)))&&(cx (Pos.mk p3.variant p3.ae p3.ab p3.af p3.aa p3.ai (-1) p3.ag p3.half p3.full) (wr .u8 (1-p3.aa)) (1)&&true))) else (iS (p3.aa) (wr .i64 (wr .i8 ((wr .i8 (p5.az+p5.to)).tdiv 2)))&&(cx (Pos.mk p3.variant p3.ae p3.ab p3.af p3.aa p3.ai (-1) p3.ag p3.half p3.full) (wr .u8 (1-p3.aa)) (1)&&true)))) else (bif wr .i8 (p5.az.tdiv 8) != wr .i8 (wr .i8 (7 * wr .i8 p3.aa)+1) then (bif wr .i8 (p5.az.tdiv 8) != wr .i8 (wr .i8 (7 * wr .i8 p3.aa)-1) then true else (iS (p3.aa) (wr .i64 (wr .i8 ((wr .i8 (p5.az+p5.to)).tdiv 2)))&&(cx (Pos.mk p3.variant p3.ae p3.ab p3.af p3.aa p3.ai (-1) p3.ag p3.half p3.full) (wr .u8 (1-p3.aa)) (1)&&true))) else (iS (p3.aa) (wr .i64 (wr .i8 ((wr .i8 (p5.az+p5.to)).tdiv 2)))&&(cx (Pos.mk p3.variant p3.ae p3.ab p3.af p3.aa p3.ai (-1) p3.ag p3.half p3.full) (wr .u8 (1-p3.aa)) (1)&&true))))))))
abbrev UU {α:Type} (k:Pos→Mv→Pos→Pos→Mv→Int→α) (s:St):α:=wP s 0 fun q0=>wP s 3 fun q3=>wM s 1 fun q1=>k q0 q1 q3 (Kz.Pos.mk (tI (tH s 3 10)) (tN (tH s 3 11)) (tU (tH s 3 12)) (tN (tH s 3 13)) (tI (tH s 3 14)) (tN (tH s 3 15)) (tI (tH s 3 16)) (tN (tH s 3 17)) (tI (tH s 3 18)) (tI (tH s 3 19))) (Kz.Mv.mk (tI (tH s 3 20)) (tI (tH s 3 21)) (tI (tH s 3 22)) (tI (tH s 3 23)) (tB (tH s 3 24))) (tI (tH s 3 25))
theorem TD (p1:Pos) (p2:Mv) (p3:Pos) (p4:Pos) (p5:Mv) (p6:Int) (h:ov p1 p2 p3 p4 p5 p6=true):du Pz 72 (Qo p1 p2 p3 p4 p5 p6) (Q3 p1 p2 p3 p4 p5 p6) (KM p1 p2 p3 p4 p5 p6 (da p1 p2 p3 p4 p5 p6))∧∃ fn,Pz.funcs[72]?=some fn∧fn.body.isSome=true:=kF (n:=14) (O:=KM p1 p2 p3 p4 p5 p6) Ut (fun o=>match o with | .ret v h=>(let s:St:=⟨[v],h⟩;wP s 3 fun q3=>some q3) | _=>none) (fun _=>rfl) (by kernel_rfl) (by kernel_rfl) (by kernel_rfl) (by kernel_rfl) h
def xk (xs:List AV) (h:Hp):Tr bY:=UU (fun p1 p2 p3 p4 p5 p6=>fk xs h (Qo p1 p2 p3 p4 p5 p6) (Q3 p1 p2 p3 p4 p5 p6) (ov p1 p2 p3 p4 p5 p6) (KM p1 p2 p3 p4 p5 p6) (da p1 p2 p3 p4 p5 p6)) ⟨xs,h⟩
theorem yV:gT Pz 72 xk:=fun _ _ _ h=>sD (TD _ _ _ _ _ _) h
def VC:aw:=bO Pz Ix [(149,nR),(66,D4),(65,GW),(67,F8),(147,gV),(135,jD),(137,qZ),(138,rb),(139,pJ),(141,ru),(142,j9),(143,qY),(145,ll),(146,oe),(148,rh)] [(70,2,nO),(71,7,uN),(71,3,wG)] [(68,iu),(69,ju),(70,lV),(71,se),(72,xk)]
theorem Pq:aW VC:=aj ak ⟨pA,Fy,G2,GX,gX,kz,uj,tC,re,tq,lf,uU,lX,qc,uh,trivial⟩ ⟨mn,pz,uA,trivial⟩ ⟨gz,hZ,kc,rV,yV,trivial⟩
def IF (p1:Pos) (p2:Mv) (p3:Pos) (p4:Pos) (p5:Mv) (p6:Int):List AV:=[AV.ptr 3 0]
def L3 (p1:Pos) (p2:Mv) (p3:Pos) (p4:Pos) (p5:Mv) (p6:Int):Hp:=Hp.mk [(pc p1 []),[AV.int .i8 p2.az,AV.int .i8 p2.to,AV.int .u8 p2.bQ,AV.int .u8 p2.aX,AV.bool p2.bP],zpB,(pc p3 (pc p4 [AV.int .i8 p5.az,AV.int .i8 p5.to,AV.int .u8 p5.bQ,AV.int .u8 p5.aX,AV.bool p5.bP,AV.int .i64 p6]))] [] [] 0 0 0
def BN (p1:Pos) (p2:Mv) (p3:Pos) (p4:Pos) (p5:Mv) (p6:Int) (y:(Pos)):bY := .ret (.tuple []) (Hp.mk [(pc p1 []),[.int .i8 p2.az,.int .i8 p2.to,.int .u8 p2.bQ,.int .u8 p2.aX,.bool p2.bP],zpB,(pc y (pc p4 [.int .i8 p5.az,.int .i8 p5.to,.int .u8 p5.bQ,.int .u8 p5.aX,.bool p5.bP,.int .i64 p6]))] [] [] 0 0 0)
def cC (p1:Pos) (p2:Mv) (p3:Pos) (p4:Pos) (p5:Mv) (p6:Int):(Pos):=(bif p5.aX != 0 then (bif p5.aX==1 then (bif p3.aa==1 then (Pos.mk p3.variant p3.ae p3.ab p3.af p3.aa p3.ai p3.ah p3.ag 0 (ml p3.full)) else (Pos.mk p3.variant p3.ae p3.ab p3.af p3.aa p3.ai p3.ah p3.ag 0 p3.full)) else (bif decide (p6≥0) then (bif p3.aa==1 then (Pos.mk p3.variant p3.ae p3.ab p3.af p3.aa p3.ai p3.ah p3.ag 0 (ml p3.full)) else (Pos.mk p3.variant p3.ae p3.ab p3.af p3.aa p3.ai p3.ah p3.ag 0 p3.full)) else (bif p3.aa==1 then (Pos.mk p3.variant p3.ae p3.ab p3.af p3.aa p3.ai p3.ah p3.ag (ml p3.half) (ml p3.full)) else (Pos.mk p3.variant p3.ae p3.ab p3.af p3.aa p3.ai p3.ah p3.ag (ml p3.half) p3.full)))) else (bif bw (p4.ae.getD (scale 1 p5.az).toNat 0)==1 then (bif p3.aa==1 then (Pos.mk p3.variant p3.ae p3.ab p3.af p3.aa p3.ai p3.ah p3.ag 0 (ml p3.full)) else (Pos.mk p3.variant p3.ae p3.ab p3.af p3.aa p3.ai p3.ah p3.ag 0 p3.full)) else (bif decide (p6≥0) then (bif p3.aa==1 then (Pos.mk p3.variant p3.ae p3.ab p3.af p3.aa p3.ai p3.ah p3.ag 0 (ml p3.full)) else (Pos.mk p3.variant p3.ae p3.ab p3.af p3.aa p3.ai p3.ah p3.ag 0 p3.full)) else (bif p3.aa==1 then (Pos.mk p3.variant p3.ae p3.ab p3.af p3.aa p3.ai p3.ah p3.ag (ml p3.half) (ml p3.full)) else (Pos.mk p3.variant p3.ae p3.ab p3.af p3.aa p3.ai p3.ah p3.ag (ml p3.half) p3.full)))))
def lW (p1:Pos) (p2:Mv) (p3:Pos) (p4:Pos) (p5:Mv) (p6:Int):Bool:=(bif p5.aX != 0 then true else (decide (0≤p5.az)&&decide (p5.az<Int.ofNat 64)&&true))
abbrev Od {α:Type} (k:Pos→Mv→Pos→Pos→Mv→Int→α) (s:St):α:=wP s 0 fun q0=>wP s 3 fun q3=>wM s 1 fun q1=>k q0 q1 q3 (Kz.Pos.mk (tI (tH s 3 10)) (tN (tH s 3 11)) (tU (tH s 3 12)) (tN (tH s 3 13)) (tI (tH s 3 14)) (tN (tH s 3 15)) (tI (tH s 3 16)) (tN (tH s 3 17)) (tI (tH s 3 18)) (tI (tH s 3 19))) (Kz.Mv.mk (tI (tH s 3 20)) (tI (tH s 3 21)) (tI (tH s 3 22)) (tI (tH s 3 23)) (tB (tH s 3 24))) (tI (tH s 3 25))
theorem N4 (p1:Pos) (p2:Mv) (p3:Pos) (p4:Pos) (p5:Mv) (p6:Int) (h:lW p1 p2 p3 p4 p5 p6=true):du Pz 73 (IF p1 p2 p3 p4 p5 p6) (L3 p1 p2 p3 p4 p5 p6) (BN p1 p2 p3 p4 p5 p6 (cC p1 p2 p3 p4 p5 p6))∧∃ fn,Pz.funcs[73]?=some fn∧fn.body.isSome=true:=kF (n:=14) (O:=BN p1 p2 p3 p4 p5 p6) Pq (fun o=>match o with | .ret v h=>(let s:St:=⟨[v],h⟩;wP s 3 fun q3=>some q3) | _=>none) (fun _=>rfl) (by kernel_rfl) (by kernel_rfl) (by kernel_rfl) (by kernel_rfl) h
def xc (xs:List AV) (h:Hp):Tr bY:=Od (fun p1 p2 p3 p4 p5 p6=>fk xs h (IF p1 p2 p3 p4 p5 p6) (L3 p1 p2 p3 p4 p5 p6) (lW p1 p2 p3 p4 p5 p6) (BN p1 p2 p3 p4 p5 p6) (cC p1 p2 p3 p4 p5 p6)) ⟨xs,h⟩
theorem AT:gT Pz 73 xc:=fun _ _ _ h=>sD (N4 _ _ _ _ _ _) h
def Vj:aw:=bO Pz Ix [(149,nR),(66,D4),(65,GW),(67,F8),(147,gV),(135,jD),(137,qZ),(138,rb),(139,pJ),(141,ru),(142,j9),(143,qY),(145,ll),(146,oe),(148,rh)] [(70,2,nO),(71,7,uN),(71,3,wG)] [(68,iu),(69,ju),(70,lV),(71,se),(72,xk),(73,xc)]
theorem OQ:aW Vj:=aj ak ⟨pA,Fy,G2,GX,gX,kz,uj,tC,re,tq,lf,uU,lX,qc,uh,trivial⟩ ⟨mn,pz,uA,trivial⟩ ⟨gz,hZ,kc,rV,yV,AT,trivial⟩
def IE (p1:Pos) (p2:Mv) (p3:Pos) (p4:Pos) (p5:Mv) (p6:Int):List AV:=[AV.ptr 3 0]
def IH (p1:Pos) (p2:Mv) (p3:Pos) (p4:Pos) (p5:Mv) (p6:Int):Hp:=Hp.mk [(pc p1 []),[AV.int .i8 p2.az,AV.int .i8 p2.to,AV.int .u8 p2.bQ,AV.int .u8 p2.aX,AV.bool p2.bP],zpB,(pc p3 (pc p4 [AV.int .i8 p5.az,AV.int .i8 p5.to,AV.int .u8 p5.bQ,AV.int .u8 p5.aX,AV.bool p5.bP,AV.int .i64 p6]))] [] [] 0 0 0
def Cu (p1:Pos) (p2:Mv) (p3:Pos) (p4:Pos) (p5:Mv) (p6:Int) (y:(Pos)):bY := .ret (.tuple []) (Hp.mk [(pc p1 []),[.int .i8 p2.az,.int .i8 p2.to,.int .u8 p2.bQ,.int .u8 p2.aX,.bool p2.bP],zpB,(pc y (pc p4 [.int .i8 p5.az,.int .i8 p5.to,.int .u8 p5.bQ,.int .u8 p5.aX,.bool p5.bP,.int .i64 p6]))] [] [] 0 0 0)
def cB (p1:Pos) (p2:Mv) (p3:Pos) (p4:Pos) (p5:Mv) (p6:Int):(Pos):=(bif p3.variant==5 then (bif decide (p3.ag.getD (scale 1 (wr .u8 (1-wr .u8 (1-p3.aa)))).toNat 0<3) then (bif hQ (Pos.mk p3.variant p3.ae p3.ab p3.af (wr .u8 (1-p3.aa)) p3.ai p3.ah p3.ag p3.half p3.full) (wr .u8 (1-p3.aa)) then (Pos.mk p3.variant p3.ae p3.ab p3.af (wr .u8 (1-p3.aa)) p3.ai p3.ah (p3.ag.set (scale 1 (wr .u8 (1-wr .u8 (1-p3.aa)))).toNat (wr .u8 (p3.ag.getD (scale 1 (wr .u8 (1-wr .u8 (1-p3.aa)))).toNat 0+1))) p3.half p3.full) else (Pos.mk p3.variant p3.ae p3.ab p3.af (wr .u8 (1-p3.aa)) p3.ai p3.ah p3.ag p3.half p3.full)) else (Pos.mk p3.variant p3.ae p3.ab p3.af (wr .u8 (1-p3.aa)) p3.ai p3.ah p3.ag p3.half p3.full)) else (Pos.mk p3.variant p3.ae p3.ab p3.af (wr .u8 (1-p3.aa)) p3.ai p3.ah p3.ag p3.half p3.full))
def mc (p1:Pos) (p2:Mv) (p3:Pos) (p4:Pos) (p5:Mv) (p6:Int):Bool:=(bif p3.variant==5 then (decide (0≤wr .u8 (1-wr .u8 (1-p3.aa)))&&decide (wr .u8 (1-wr .u8 (1-p3.aa))<Int.ofNat 2)&&(bif decide (p3.ag.getD (scale 1 (wr .u8 (1-wr .u8 (1-p3.aa)))).toNat 0<3) then (mj (Pos.mk p3.variant p3.ae p3.ab p3.af (wr .u8 (1-p3.aa)) p3.ai p3.ah p3.ag p3.half p3.full) (wr .u8 (1-p3.aa))&&(bif hQ (Pos.mk p3.variant p3.ae p3.ab p3.af (wr .u8 (1-p3.aa)) p3.ai p3.ah p3.ag p3.half p3.full) (wr .u8 (1-p3.aa)) then (decide (0≤wr .u8 (1-wr .u8 (1-p3.aa)))&&decide (wr .u8 (1-wr .u8 (1-p3.aa))<Int.ofNat 2)&&(decide (0≤wr .u8 (1-wr .u8 (1-p3.aa)))&&decide (wr .u8 (1-wr .u8 (1-p3.aa))<Int.ofNat 2)&&true)) else true)) else true)) else true)
abbrev Nc {α:Type} (k:Pos→Mv→Pos→Pos→Mv→Int→α) (s:St):α:=wP s 0 fun q0=>wP s 3 fun q3=>wM s 1 fun q1=>k q0 q1 q3 (Kz.Pos.mk (tI (tH s 3 10)) (tN (tH s 3 11)) (tU (tH s 3 12)) (tN (tH s 3 13)) (tI (tH s 3 14)) (tN (tH s 3 15)) (tI (tH s 3 16)) (tN (tH s 3 17)) (tI (tH s 3 18)) (tI (tH s 3 19))) (Kz.Mv.mk (tI (tH s 3 20)) (tI (tH s 3 21)) (tI (tH s 3 22)) (tI (tH s 3 23)) (tB (tH s 3 24))) (tI (tH s 3 25))
theorem MS (p1:Pos) (p2:Mv) (p3:Pos) (p4:Pos) (p5:Mv) (p6:Int) (h:mc p1 p2 p3 p4 p5 p6=true):du Pz 74 (IE p1 p2 p3 p4 p5 p6) (IH p1 p2 p3 p4 p5 p6) (Cu p1 p2 p3 p4 p5 p6 (cB p1 p2 p3 p4 p5 p6))∧∃ fn,Pz.funcs[74]?=some fn∧fn.body.isSome=true:=kF (n:=14) (O:=Cu p1 p2 p3 p4 p5 p6) OQ (fun o=>match o with | .ret v h=>(let s:St:=⟨[v],h⟩;wP s 3 fun q3=>some q3) | _=>none) (fun _=>rfl) (by kernel_rfl) (by kernel_rfl) (by kernel_rfl) (by kernel_rfl) h
def Eh (xs:List AV) (h:Hp):Tr bY:=Nc (fun p1 p2 p3 p4 p5 p6=>fk xs h (IE p1 p2 p3 p4 p5 p6) (IH p1 p2 p3 p4 p5 p6) (mc p1 p2 p3 p4 p5 p6) (Cu p1 p2 p3 p4 p5 p6) (cB p1 p2 p3 p4 p5 p6)) ⟨xs,h⟩
theorem LQ:gT Pz 74 Eh:=fun _ _ _ h=>sD (MS _ _ _ _ _ _) h
def B31:aw:=bO Pz Ix [(149,nR),(66,D4),(65,GW),(67,F8),(147,gV),(135,jD),(137,qZ),(138,rb),(139,pJ),(141,ru),(142,j9),(143,qY),(145,ll),(146,oe),(148,rh)] [(70,2,nO),(71,7,uN),(71,3,wG)] [(68,iu),(69,ju),(70,lV),(71,se),(72,xk),(73,xc),(74,Eh)]
theorem ada:aW B31:=aj ak ⟨pA,Fy,G2,GX,gX,kz,uj,tC,re,tq,lf,uU,lX,qc,uh,trivial⟩ ⟨mn,pz,uA,trivial⟩ ⟨gz,hZ,kc,rV,yV,AT,LQ,trivial⟩
def cS (a:Pos) (b:Mv):(Pos×Bool):=(bif !F2 (b8 a) b then (⟨(a.variant),(a.ae),(a.ab),(a.af),(a.aa),(a.ai),(a.ah),(a.ag),(a.half),(a.full)⟩,(false)) else (⟨((cB a b (cC a b (da a b (cA a b (cr a b (bS a b (bC a b a a b (bq a b)) a b (bq a b)) a b (bq a b)) a b (bq a b)) a b (bq a b)) a b (bq a b)) a b (bq a b)).variant),((cB a b (cC a b (da a b (cA a b (cr a b (bS a b (bC a b a a b (bq a b)) a b (bq a b)) a b (bq a b)) a b (bq a b)) a b (bq a b)) a b (bq a b)) a b (bq a b)).ae),((cB a b (cC a b (da a b (cA a b (cr a b (bS a b (bC a b a a b (bq a b)) a b (bq a b)) a b (bq a b)) a b (bq a b)) a b (bq a b)) a b (bq a b)) a b (bq a b)).ab),((cB a b (cC a b (da a b (cA a b (cr a b (bS a b (bC a b a a b (bq a b)) a b (bq a b)) a b (bq a b)) a b (bq a b)) a b (bq a b)) a b (bq a b)) a b (bq a b)).af),((cB a b (cC a b (da a b (cA a b (cr a b (bS a b (bC a b a a b (bq a b)) a b (bq a b)) a b (bq a b)) a b (bq a b)) a b (bq a b)) a b (bq a b)) a b (bq a b)).aa),((cB a b (cC a b (da a b (cA a b (cr a b (bS a b (bC a b a a b (bq a b)) a b (bq a b)) a b (bq a b)) a b (bq a b)) a b (bq a b)) a b (bq a b)) a b (bq a b)).ai),((cB a b (cC a b (da a b (cA a b (cr a b (bS a b (bC a b a a b (bq a b)) a b (bq a b)) a b (bq a b)) a b (bq a b)) a b (bq a b)) a b (bq a b)) a b (bq a b)).ah),((cB a b (cC a b (da a b (cA a b (cr a b (bS a b (bC a b a a b (bq a b)) a b (bq a b)) a b (bq a b)) a b (bq a b)) a b (bq a b)) a b (bq a b)) a b (bq a b)).ag),((cB a b (cC a b (da a b (cA a b (cr a b (bS a b (bC a b a a b (bq a b)) a b (bq a b)) a b (bq a b)) a b (bq a b)) a b (bq a b)) a b (bq a b)) a b (bq a b)).half),((cB a b (cC a b (da a b (cA a b (cr a b (bS a b (bC a b a a b (bq a b)) a b (bq a b)) a b (bq a b)) a b (bq a b)) a b (bq a b)) a b (bq a b)) a b (bq a b)).full)⟩,(true)))
def qa (a:Pos) (b:Mv):Bool:=(Al (a)&&(LB (b8 a) (b)&&(bif !F2 (b8 a) b then true else (Fq (a) (b)&&(oF (a) (b) (a) (a) (b) (bq a b)&&(oQ (a) (b) (bC a b a a b (bq a b)) (a) (b) (bq a b)&&(nV (a) (b) (bS a b (bC a b a a b (bq a b)) a b (bq a b)) (a) (b) (bq a b)&&(oG (a) (b) (cr a b (bS a b (bC a b a a b (bq a b)) a b (bq a b)) a b (bq a b)) (a) (b) (bq a b)&&(ov (a) (b) (cA a b (cr a b (bS a b (bC a b a a b (bq a b)) a b (bq a b)) a b (bq a b)) a b (bq a b)) (a) (b) (bq a b)&&(lW (a) (b) (da a b (cA a b (cr a b (bS a b (bC a b a a b (bq a b)) a b (bq a b)) a b (bq a b)) a b (bq a b)) a b (bq a b)) (a) (b) (bq a b)&&(mc (a) (b) (cC a b (da a b (cA a b (cr a b (bS a b (bC a b a a b (bq a b)) a b (bq a b)) a b (bq a b)) a b (bq a b)) a b (bq a b)) a b (bq a b)) (a) (b) (bq a b)&&true)))))))))))
theorem P31 (a:Pos) (b:Mv) (h:qa a b=true):PS Pz 31 [Pos.av a,Mv.av b] ((d2 aY dB).res (cS a b)):=pq14 ada h
def ML:GT:=g2 aY va (fun a b=>cp (qa a b) ((d2 aY dB).res (cS a b)))
theorem OU:Sound Pz 31 ML:=bb fun a b=>aC (P31 a b)
end Kz
end
noncomputable section
namespace Kz
open Go
theorem BH {i:Int} (h0:0≤i) (h1:i<64):(decide (0≤i)&&decide (i<Int.ofNat 64))=true:=by
 rw [E',decide_eq_true_eq,decide_eq_true_eq]
 exact ⟨h0,h1⟩
theorem sC {l:List Int} {a b v:Int} (h:∀ x∈l,a≤x∧x≤b) (hv:a≤v∧v≤b) (i:Nat):∀ x∈l.set i v,a≤x∧x≤b:=by
 intro x hx
 rcases List.mem_or_eq_of_mem_set hx with h1 | rfl
 ·exact h x h1
 ·exact hv
theorem yB (a b:Int):0≤jB a b∧jB a b≤255:=by
 unfold jB
 exact aq (P:=fun x:Int=>0≤x∧x≤255) (fun _=>by decide) fun _=>aq (P:=fun x:Int=>0≤x∧x≤255) (fun _=>by decide) fun _=>aq (P:=fun x:Int=>0≤x∧x≤255) (fun _=>by decide) fun _=>⟨jF _,lD _⟩
theorem xF {n:Int} (h : -9223372036854775808≤n∧n≤9223372036854775807) : -9223372036854775808≤ml n∧ml n≤9223372036854775807:=by
 unfold ml
 exact aq (P:=fun x:Int => -9223372036854775808≤x∧x≤9223372036854775807) (fun _=>h) fun _=>MA _
structure dm (p q:Pos):Prop where
 bU:aA q
 v:q.variant=p.variant
 t:q.aa=p.aa
noncomputable section
variable {p q:Pos}
theorem dm.ae (h:dm p q) {bd:List Int} (hl:bd.length=64) (hb:∀ x∈bd,0≤x∧x≤255) (pr:BitVec 64):dm p ⟨q.variant,bd,pr,q.af,q.aa,q.ai,q.ah,q.ag,q.half,q.full⟩ :=
 ⟨⟨h.bU.v0,h.bU.v1,hl,hb,h.bU.kl,h.bU.k0,h.bU.t0,h.bU.t1,h.bU.rl,h.bU.r0,h.bU.p0,h.bU.p1,h.bU.cl,h.bU.c0,h.bU.h0,h.bU.f0⟩,h.v,h.t⟩
theorem dm.set (h:dm p q) (i:Nat) {v:Int} (hv:0≤v∧v≤255):dm p ⟨q.variant,q.ae.set i v,q.ab,q.af,q.aa,q.ai,q.ah,q.ag,q.half,q.full⟩ :=
 h.ae (by rw [List.length_set];exact h.bU.bl) (sC h.bU.b0 hv i) _
theorem dm.ab (h:dm p q) (pr:BitVec 64):dm p ⟨q.variant,q.ae,pr,q.af,q.aa,q.ai,q.ah,q.ag,q.half,q.full⟩:=h.ae h.bU.bl h.bU.b0 pr
theorem dm.af (h:dm p q) (i:Nat) {v:Int} (hv:0≤v∧v≤255):dm p ⟨q.variant,q.ae,q.ab,q.af.set i v,q.aa,q.ai,q.ah,q.ag,q.half,q.full⟩ :=
 ⟨⟨h.bU.v0,h.bU.v1,h.bU.bl,h.bU.b0,by rw [List.length_set];exact h.bU.kl,sC h.bU.k0 hv i,h.bU.t0,h.bU.t1,h.bU.rl,h.bU.r0,h.bU.p0,h.bU.p1,h.bU.cl,h.bU.c0,h.bU.h0,h.bU.f0⟩,h.v,h.t⟩
theorem dm.ai (h:dm p q) {rk:List Int} (hl:rk.length=4) (hr:∀ x∈rk,-128≤x∧x≤127):dm p ⟨q.variant,q.ae,q.ab,q.af,q.aa,rk,q.ah,q.ag,q.half,q.full⟩ :=
 ⟨⟨h.bU.v0,h.bU.v1,h.bU.bl,h.bU.b0,h.bU.kl,h.bU.k0,h.bU.t0,h.bU.t1,hl,hr,h.bU.p0,h.bU.p1,h.bU.cl,h.bU.c0,h.bU.h0,h.bU.f0⟩,h.v,h.t⟩
theorem dm.aep (h:dm p q) (i:Nat):dm p ⟨q.variant,q.ae,q.ab,q.af,q.aa,q.ai.set i (-1),q.ah,q.ag,q.half,q.full⟩ :=
 h.ai (by rw [List.length_set];exact h.bU.rl) (sC h.bU.r0 (by omega) i)
theorem dm.ah (h:dm p q) {s:Int} (hs : -128≤s∧s≤127):dm p ⟨q.variant,q.ae,q.ab,q.af,q.aa,q.ai,s,q.ag,q.half,q.full⟩ :=
 ⟨⟨h.bU.v0,h.bU.v1,h.bU.bl,h.bU.b0,h.bU.kl,h.bU.k0,h.bU.t0,h.bU.t1,h.bU.rl,h.bU.r0,hs.1,hs.2,h.bU.cl,h.bU.c0,h.bU.h0,h.bU.f0⟩,h.v,h.t⟩
theorem dm.xx (h:dm p q) {a b:Int} (ha : -9223372036854775808≤a∧a≤9223372036854775807) (hb : -9223372036854775808≤b∧b≤9223372036854775807):dm p ⟨q.variant,q.ae,q.ab,q.af,q.aa,q.ai,q.ah,q.ag,a,b⟩ :=
 ⟨⟨h.bU.v0,h.bU.v1,h.bU.bl,h.bU.b0,h.bU.kl,h.bU.k0,h.bU.t0,h.bU.t1,h.bU.rl,h.bU.r0,h.bU.p0,h.bU.p1,h.bU.cl,h.bU.c0,ha,hb⟩,h.v,h.t⟩
theorem ME (h:dm p q) (b c:Int):dm p (gp q b c).1:=by
 unfold gp
 refine aq (P:=fun x:Pos×Bool=>dm p x.1) (fun _=>h) fun _=>aq (P:=fun x:Pos×Bool=>dm p x.1) (fun _=>h) fun _=>?_
 exact h.af _ ⟨jF _,lD _⟩
theorem Aj (h:dm p q) (b c:Int):dm p (bj q b c):=by
 unfold bj
 refine aq (P:=fun x:Pos=>dm p x) (fun _=>aq (P:=fun x:Pos=>dm p x) (fun _=>?_) fun _=>h) fun _=>h
 exact h.af _ ⟨jF _,lD _⟩
end
noncomputable section
variable {p:Pos} (hp:aA p) (m:Mv)
include hp
theorem eC (i:Nat):0≤p.ae.getD i 0∧p.ae.getD i 0≤255:=gu hp.b0 (by omega) i
theorem xT (a:Pos) (b:Mv) (c:Int):dm p (bC a b p p m c):=by
 have h:dm p p:=⟨hp,rfl,rfl⟩
 have z:(0:Int)≤0∧(0:Int)≤255:=by omega
 have bi:=eC hp
 unfold bC
 refine aq (P:=fun x:Pos=>dm p x) (fun _=>((((h.set _ z).set _ z).set _ (bi _)).set _ (bi _))) fun _=>aq (P:=fun x:Pos=>dm p x) (fun _=>(ME h _ _).set _ (yB _ _)) fun _=>aq (P:=fun x:Pos=>dm p x) (fun _=>aq (P:=fun x:Pos=>dm p x) (fun _=>(((h.set _ z).set _ z).set _ (bi _)).set _ (yB _ _)) fun _=>((h.set _ z).set _ z).set _ (bi _)) fun _=>aq (P:=fun x:Pos=>dm p x) (fun _=>((h.set _ z).set _ (bi _)).set _ (yB _ _)) fun _=>(h.set _ z).set _ (bi _)
omit hp in
theorem xY {q:Pos} (h:dm p q) (a:Pos) (b:Mv) (c:Int):dm p (bS a b q p m c):=by
 unfold bS
 repeat' (first | exact h | exact h.ab _ | exact Aj h _ _ | exact (Aj h _ _).ab _ | refine aq (P:=fun x:Pos=>dm p x) (fun _=>?_) (fun _=>?_))
omit hp in
theorem C6 (l:List Int) (hl:l.length≤64) (hin:∀ s∈l,0≤s∧s<64) {q:Pos} (h:dm p q) (a b:Pos) (c d:Mv) (e:Int):∃ r,kr l (Int.ofNat l.length) a c b d e (0,q)=some r∧dm p r.2.2:=by
 refine aU (I:=fun x=>0≤x.1∧x.1≤(l.length:Int)∧dm p x.2) (μ:=fun x=>((l.length:Int)-x.1).toNat) ?_ _ ⟨by simp,by simp,h⟩ (by simp;omega)
 rintro ⟨n,o⟩ ⟨h0,h1,h2⟩
 simp only at h0 h1 h2
 by_cases hc:n<l.length
 ·have hf:=hin _ (ct (d:=default) (show n.toNat<l.length by omega))
  refine ⟨ar (fun _=>ao (by simp [h0];omega) fun _=>ao (BH hf.1 hf.2) fun _=>rfl) fun _=>rfl,aq (fun _=>?_) fun h=>absurd h (by simpa using hc)⟩
  rw [aF (n:=n+1) (by omega) (by omega)]
  exact ⟨⟨by simp;omega,by simp;omega,h2.set _ (by omega)⟩,by simp;omega⟩
 ·exact ⟨ar (fun h=>absurd h (by simpa using hc)) fun _=>rfl,aq (fun h=>absurd h (by simpa using hc)) fun _=>h2⟩
omit hp in
theorem yW {q:Pos} (h:dm p q) (a:Pos) (b:Mv) (c:Int):nV a b q p m c=true∧dm p (cr a b q p m c):=by
 have hl:=aK (C6 (p:=p) (jx (nD q (wr .i64 m.to)) 64) (fa _ _) (fun _ h=>lJ h) h a p b m c)
 constructor
 ·unfold nV
  refine ar (fun _=>rfl) fun _=>ar (fun _=>rfl) fun _=>ao (t143 _ _) fun _=>ao (t142 _) fun _=>ao ?_ fun _=>rfl
  rw [dy];exact hl.1
 ·unfold cr
  refine aq (P:=fun x:Pos=>dm p x) (fun _=>h) fun _=>aq (P:=fun x:Pos=>dm p x) (fun _=>h) fun _=>?_
  rw [dy];exact hl.2
omit hp in
theorem uS {c k:Int} (hc0:0≤c) (hc1:c≤1) (l:List Int) (hl:∀ s∈l,-128≤s∧s≤127) {q:Pos} (h:dm p q) (a b:Pos) (m1 m2:Mv) (e:Int):∃ r,ji c k l a m1 b m2 e (0,q)=some r∧dm p r.2.2:=by
 refine aU (I:=fun x=>0≤x.1∧x.1≤2∧dm p x.2) (μ:=fun x=>(2-x.1).toNat) ?_ _ ⟨by simp,by simp,h⟩ (by simp)
 rintro ⟨n,o⟩ ⟨h0,h1,h2⟩
 simp only at h0 h1 h2
 by_cases hc:n<2
 ·have hs:=gu hl (d:=0) (by omega) n.toNat
  have go1:zE (fun x:Int×Pos=>0≤x.1∧x.1≤2∧dm p x.2) (fun r:Int×Bool×Pos=>dm p r.2.2) (fun x=>(2-x.1).toNat) (2-n).toNat (.go (wr .i64 (n+1),o)):=by
   rw [aF (n:=n+1) (by omega) (by omega)]
   exact ⟨⟨by simp;omega,by simp;omega,h2⟩,by simp;omega⟩
  have go2:∀ i,zE (fun x:Int×Pos=>0≤x.1∧x.1≤2∧dm p x.2) (fun r:Int×Bool×Pos=>dm p r.2.2) (fun x=>(2-x.1).toNat) (2-n).toNat (.go (wr .i64 (n+1),⟨o.variant,o.ae,o.ab,o.af,o.aa,o.ai.set i (-1),o.ah,o.ag,o.half,o.full⟩)):=by
   intro i
   rw [aF (n:=n+1) (by omega) (by omega)]
   exact ⟨⟨by simp;omega,by simp;omega,h2.aep i⟩,by simp;omega⟩
  have w1:wr .i64 c=c:=aF (by omega) (by omega)
  have w2:wr .i64 (56 * c)=56 * c:=aF (by omega) (by omega)
  have w3:wr .i64 (l.getD n.toNat 0)=l.getD n.toNat 0:=aF (by omega) (by omega)
  have w4:wr .i64 (56 * c+l.getD n.toNat 0)=56 * c+l.getD n.toNat 0:=aF (by omega) (by omega)
  have k1:(decide (0≤c)&&decide (c<Int.ofNat 2))=true:=by simp;omega
  have k2:(decide (0≤n)&&decide (n<Int.ofNat 2))=true:=by simp;omega
  refine ⟨ar (fun _=>ao k2 fun _=>ar (fun _=>rfl) fun g0=>ar (fun _=>rfl) fun g1=>?_) fun _=>rfl,aq (fun _=>?_) fun h=>absurd h (by simpa using hc)⟩
  ·rw [w1,w2,w3,w4]
   have g0:0≤l.getD n.toNat 0:=by simpa using g0
   have g1:l.getD n.toNat 0≤7:=by simpa using g1
   have k3:(decide (0≤56 * c+l.getD n.toNat 0)&&decide (56 * c+l.getD n.toNat 0<Int.ofNat 64))=true:=BH (by omega) (by omega)
   repeat' (first | with_reducible rfl | with_reducible exact k1 | with_reducible exact k2 | with_reducible exact k3 | refine ao ?_ (fun _=>?_) | refine ar (fun _=>?_) (fun _=>?_))
  ·repeat' (first | exact go1 | exact go2 _ | refine aq (fun _=>?_) (fun _=>?_))
 ·exact ⟨ar (fun h=>absurd h (by simpa using hc)) fun _=>rfl,aq (fun h=>absurd h (by simpa using hc)) fun _=>h2⟩
omit hp in
theorem eJ {q:Pos} (h:dm p q) (a b:Pos) (m1 m2:Mv) (e:Int):∃ r,di a m1 b m2 e (0,q)=some r∧dm p r.2.2:=by
 refine aU (I:=fun x=>0≤x.1∧x.1≤2∧dm p x.2) (μ:=fun x=>(2-x.1).toNat) ?_ _ ⟨by simp,by simp,h⟩ (by simp)
 rintro ⟨n,o⟩ ⟨h0,h1,h2⟩
 simp only at h0 h1 h2
 by_cases hc:n≤1
 ·have hr:∀ s∈List.take 2 (List.drop (scale 2 n).toNat o.ai),-128≤s∧s≤127:=fun s hs=>h2.bU.r0 s (List.mem_of_mem_drop (List.mem_of_mem_take hs))
  have hl:=aK (uS (p:=p) (k:=aZ o n 6) h0 hc _ hr h2 a b m1 m2 e)
  refine ⟨ar (fun _=>ao (t145 _ _ _) fun _=>ao (by simp;omega) fun _=>ao hl.1 fun _=>rfl) fun _=>rfl,aq (fun _=>?_) fun h=>absurd h (by simpa using hc)⟩
  rw [ni (n:=n+1) (by omega) (by omega)]
  exact ⟨⟨by simp;omega,by simp;omega,hl.2⟩,by simp;omega⟩
 ·exact ⟨ar (fun h=>absurd h (by simpa using hc)) fun _=>rfl,aq (fun h=>absurd h (by simpa using hc)) fun _=>h2⟩
theorem DH (ht:p.aa≤1) {q:Pos} (h:dm p q) (hm:m.aX=0→0≤m.az∧m.az<64) (a:Pos) (b:Mv) (c:Int):oG a b q p m c=true∧dm p (cA a b q p m c):=by
 have t0:=hp.t0
 have h2:dm p ⟨q.variant,q.ae,q.ab,q.af,q.aa,List.take (scale 2 q.aa).toNat q.ai++li [-1,-1]++List.drop ((scale 2 q.aa).toNat+2) q.ai,q.ah,q.ag,q.half,q.full⟩:=by
  refine h.ai ?_ ?_
  ·have hr:=h.bU.rl
   have:(scale 2 q.aa).toNat≤2:=by rw [h.t];unfold scale;simp;omega
   simp [li,hr]
   omega
  ·intro x hx
   simp only [List.mem_append,li] at hx
   rcases hx with (hx | hx) | hx
   ·exact h.bU.r0 x (List.mem_of_mem_take hx)
   ·simp at hx;omega
   ·exact h.bU.r0 x (List.mem_of_mem_drop hx)
 have a1:=aK (eJ h a p b m c)
 have a2:=aK (eJ h2 a p b m c)
 have k1:(decide (0≤q.aa)&&decide (q.aa<Int.ofNat 2))=true:=by rw [h.t];simp;omega
 constructor
 ·unfold oG
  refine ar (fun _=>?_) fun hd=>ao ?_ fun _=>?_
  ·repeat' (first | with_reducible rfl | with_reducible exact k1 | with_reducible exact a1.1 | with_reducible exact a2.1 | refine ao ?_ (fun _=>?_) | refine ar (fun _=>?_) (fun _=>?_))
  ·have:=hm (by simpa using hd)
   simp;omega
  ·repeat' (first | with_reducible rfl | with_reducible exact k1 | with_reducible exact a1.1 | with_reducible exact a2.1 | refine ao ?_ (fun _=>?_) | refine ar (fun _=>?_) (fun _=>?_))
 ·unfold cA
  repeat' (first | exact a1.2 | exact a2.2 | refine aq (P:=fun x:Pos=>dm p x) (fun _=>?_) (fun _=>?_))
omit hp in
theorem Ew {q:Pos} (h:dm p q) (hm:m.aX=0→0≤m.az∧m.az<64) (a:Pos) (b:Mv) (c:Int):ov a b q p m c=true∧dm p (da a b q p m c):=by
 constructor
 ·unfold ov
  refine ar (fun _=>?_) fun hd=>ao ?_ fun _=>?_
  ·repeat' (first | with_reducible rfl | with_reducible exact t146 _ _ | with_reducible exact t147 _ _ _ | refine ao ?_ (fun _=>?_) | refine ar (fun _=>?_) (fun _=>?_))
  ·have:=hm (by simpa using hd)
   simp;omega
  ·repeat' (first | with_reducible rfl | with_reducible exact t146 _ _ | with_reducible exact t147 _ _ _ | refine ao ?_ (fun _=>?_) | refine ar (fun _=>?_) (fun _=>?_))
 ·have n1:(-128:Int) ≤ -1∧(-1:Int)≤127:=by omega
  unfold da
  repeat' (first | exact h.ah n1 | exact h.ah (PI _) | refine aq (P:=fun x:Pos=>dm p x) (fun _=>?_) (fun _=>?_))
omit hp in
theorem FI {q:Pos} (h:dm p q) (hm:m.aX=0→0≤m.az∧m.az<64) (a:Pos) (b:Mv) (c:Int):lW a b q p m c=true∧dm p (cC a b q p m c):=by
 constructor
 ·unfold lW
  refine ar (fun _=>rfl) fun hd=>ao ?_ fun _=>rfl
  have:=hm (by simpa using hd)
  simp;omega
 ·have z:(-9223372036854775808:Int)≤0∧(0:Int)≤9223372036854775807:=by omega
  have f1:=h.bU.f0
  have f2:=xF h.bU.f0
  have f3:=xF h.bU.h0
  unfold cC
  repeat' (first | exact h.xx z f1 | exact h.xx z f2 | exact h.xx f3 f1 | exact h.xx f3 f2 | refine aq (P:=fun x:Pos=>dm p x) (fun _=>?_) (fun _=>?_))
theorem VD (ht:p.aa≤1) {q:Pos} (h:dm p q) (a:Pos) (b:Mv) (c:Int):mc a b q p m c=true∧aA (cB a b q p m c)∧(cB a b q p m c).variant=p.variant∧(cB a b q p m c).aa=1-p.aa:=by
 have t0:=hp.t0
 have w1:wr .u8 (1-p.aa)=1-p.aa:=ni (by omega) (by omega)
 have w2:wr .u8 (1-(1-p.aa))=p.aa:=by rw [ni (by omega) (by omega)];omega
 have k1:(decide (0≤p.aa)&&decide (p.aa<Int.ofNat 2))=true:=by simp;omega
 have hq:aA ⟨q.variant,q.ae,q.ab,q.af,1-p.aa,q.ai,q.ah,q.ag,q.half,q.full⟩ :=
  ⟨h.bU.v0,h.bU.v1,h.bU.bl,h.bU.b0,h.bU.kl,h.bU.k0,by show 0≤1-p.aa;omega,by show 1-p.aa≤255;omega,h.bU.rl,h.bU.r0,h.bU.p0,h.bU.p1,h.bU.cl,h.bU.c0,h.bU.h0,h.bU.f0⟩
 constructor
 ·unfold mc
  rw [h.t,w1,w2]
  refine ar (fun _=>ao k1 fun _=>ar (fun _=>ao (t149 h.bU.v0 (by omega)) fun _=>ar (fun _=>ao k1 fun _=>ao k1 fun _=>rfl) fun _=>rfl) fun _=>rfl) fun _=>rfl
 ·unfold cB
  rw [h.t,w1,w2]
  have base:aA ⟨q.variant,q.ae,q.ab,q.af,1-p.aa,q.ai,q.ah,q.ag,q.half,q.full⟩∧q.variant=p.variant∧(1-p.aa=1-p.aa):=⟨hq,h.v,rfl⟩
  refine aq (P:=fun x:Pos=>aA x∧x.variant=p.variant∧x.aa=1-p.aa) (fun _=>aq (P:=fun x:Pos=>aA x∧x.variant=p.variant∧x.aa=1-p.aa) (fun _=>aq (P:=fun x:Pos=>aA x∧x.variant=p.variant∧x.aa=1-p.aa) (fun _=>?_) fun _=>base) fun _=>base) fun _=>base
  exact ⟨⟨hq.v0,hq.v1,hq.bl,hq.b0,hq.kl,hq.k0,hq.t0,hq.t1,hq.rl,hq.r0,hq.p0,hq.p1,by rw [List.length_set];exact hq.cl,sC hq.c0 ⟨jF _,lD _⟩ _,hq.h0,hq.f0⟩,h.v,rfl⟩
end
theorem eZ {p:Pos} (hp:aA p) {m:Mv} (h:m∈b8 p):there p∧0≤m.az∧m.az<64∧0≤m.to∧m.to<64∧0≤m.aX∧m.aX≤5∧0≤m.bQ∧m.bQ≤6:=by
 rw [kh] at h
 have n110:∀ v:Int,9≤v→ue v=false:=fun v hv=>by
  unfold ue
  rw [show decide (v≥9)=true by simpa using hv];rfl
 have n113:∀ v:Int,9≤v→ry v=false:=fun v hv=>by
  unfold ry
  rw [show decide (v≥9)=true by simpa using hv];rfl
 simp only [List.mem_append] at h
 rcases h with (h | h) | h
 ·obtain ⟨th,f,t,h1,h2,h3,h4,h5,h6,h7,h8,_⟩:=fI hp.v0 h
  exact ⟨th,by omega,by omega,by omega,by omega,by omega,by omega,h7,h8⟩
 ·obtain ⟨h1,h2,h3,h4,h5,h6,h7,h8⟩:=pg hp h
  refine ⟨⟨h1,?_⟩,h2,h3,h4,h5,by omega,by omega,by omega,by omega⟩
  refine Classical.byContradiction fun hv=>?_
  unfold dJ at h
  rw [n110 _ (by omega)] at h
  rw [show decide (p.aa>1)=false by simp;omega] at h
  cases h
 ·obtain ⟨h1,h2,h3,h4,h5,h6,h7,h8,h9⟩:=jA hp.t0 h
  refine ⟨⟨h1,?_⟩,by omega,by omega,h4,h5,by omega,h8,by omega,by omega⟩
  refine Classical.byContradiction fun hv=>?_
  rw [n113 _ (by omega)] at h2
  cases h2
theorem dN {p:Pos} (hp:aA p) (m:Mv):qa p m=true∧(m∈b8 p→(cS p m).2=true∧aA (cS p m).1∧(cS p m).1.variant=p.variant∧(cS p m).1.aa=1-p.aa)∧(m∉b8 p→cS p m=(p,false)):=by
 have hlen:=jf hp
 have hc:F2 (b8 p) m=decide (m∈b8 p):=ko (by omega)
 by_cases hm:m∈b8 p
 ·obtain ⟨th,f0,f1,g0,g1,d0,d1,r0,r1⟩:=eZ hp hm
  have hmf:m.aX=0→0≤m.az∧m.az<64:=fun _=>⟨f0,f1⟩
  have hn:=CI hp m
  have h1:=xT hp m p m (bq p m)
  have h2:=xY m h1 p m (bq p m)
  have h4:=yW m h2 p m (bq p m)
  have h8:=DH hp m th.1 h4.2 hmf p m (bq p m)
  have h9:=Ew m h8.2 hmf p m (bq p m)
  have h10:=FI m h9.2 hmf p m (bq p m)
  have h11:=VD hp m th.1 h10.2 p m (bq p m)
  have kf:(decide (0≤m.az)&&decide (m.az<Int.ofNat 64))=true:=by simp;omega
  have kt:(decide (0≤m.to)&&decide (m.to<Int.ofNat 64))=true:=by simp;omega
  have kn:bq p m≥0→(decide (0≤bq p m)&&decide (bq p m<Int.ofNat 64))=true:=fun h=>by simp;omega
  have hg:=D7 hp.t0 th.1 m
  have ok1:oF p m p p m (bq p m)=true:=by
   unfold oF
   have kg1:(decide (0≤(ga p m).1)&&decide ((ga p m).1<Int.ofNat 64))=true:=by simp;omega
   have kg2:(decide (0≤(ga p m).2.1)&&decide ((ga p m).2.1<Int.ofNat 64))=true:=by simp;omega
   refine ar (fun _=>?_) fun _=>ar (fun _=>?_) fun _=>ar (fun hh=>?_) fun _=>?_
   ·repeat' (first | with_reducible rfl | with_reducible exact t137 _ _ | with_reducible exact kf | with_reducible exact kt | with_reducible exact kg1 | with_reducible exact kg2 | refine ao ?_ (fun _=>?_))
   ·refine ao (t138 hp.t0 d0) fun _=>ao kt fun _=>rfl
   ·have hh:bq p m≥0:=by simpa using hh
    have kn:=kn hh
    repeat' (first | with_reducible rfl | with_reducible exact kn | with_reducible exact kf | with_reducible exact kt | refine ao ?_ (fun _=>?_) | refine ar (fun _=>?_) (fun _=>?_))
   ·repeat' (first | with_reducible rfl | with_reducible exact kf | with_reducible exact kt | refine ao ?_ (fun _=>?_) | refine ar (fun _=>?_) (fun _=>?_))
  have ok2:oQ p m (bC p m p p m (bq p m)) p m (bq p m)=true:=by
   have e:0≤(bC p m p p m (bq p m)).aa:=h1.bU.t0
   have bi:=fun i=>(eC hp i).1
   unfold oQ
   refine ar (fun _=>rfl) fun _=>ar (fun _=>rfl) fun _=>ar (fun _=>ao (t137 _ _) fun _=>rfl) fun _=>ar (fun hh=>?_) fun _=>rfl
   have hh:bq p m≥0:=by simpa using hh
   have kn:=kn hh
   repeat' (first | with_reducible rfl | with_reducible exact kn | with_reducible exact t141 e (by decide) | with_reducible exact t141 e (NH (bi _)) | refine ao ?_ (fun _=>?_) | refine ar (fun _=>?_) (fun _=>?_))
  refine ⟨?_,fun _=>?_,fun h=>absurd hm h⟩
  ·unfold qa
   exact ao (t66 hp) fun _=>ao (t65 (by omega)) fun _=>ar (fun _=>rfl) fun _=>ao (t67 hp.v0 m) fun _=>ao ok1 fun _=>ao ok2 fun _=>ao h4.1 fun _=>ao h8.1 fun _=>ao h9.1 fun _=>ao h10.1 fun _=>ao h11.1 fun _=>rfl
  ·unfold cS
   rw [hc]
   simp only [hm,decide_true,Bool.not_true,cond_false]
   exact ⟨trivial,h11.2⟩
 ·refine ⟨?_,fun h=>absurd h hm,fun _=>?_⟩
  ·unfold qa
   refine ao (t66 hp) fun _=>ao (t65 (by omega)) fun _=>ar (fun _=>rfl) fun h=>?_
   rw [hc] at h
   simp [hm] at h
  ·unfold cS
   rw [hc]
   simp [hm]
end Kz
end
noncomputable section
namespace Kz
open Go Go.RowKit Go.Proofs
def K97:KT:=[(97,11,[(0,[1,2]),(1,[4])])]
def B97:aw:=bO Pz K97 [(82,mV)] [] []
theorem afH:aW B97:=aj ak ⟨nm,trivial⟩ trivial trivial
def vA (a:Pos) (b:Int):Bool:=(bg (a.ae.getD (scale 1 b).toNat 0)==0)
def pP (a:Pos) (b:Int):Bool:=(decide (0≤b)&&decide (b < ↑64)&&true)
theorem P97 (a:Pos) (b:Int) (h:pP a b=true):PS Pz 97 [Pos.av a,.int .i64 b] (dB.res (vA a b)):=pq14 afH h
def ZF:GT:=g2 aY (dI .i64) (fun a b=>cp (pP a b) (dB.res (vA a b)))
theorem s97:Sound Pz 97 ZF:=bb fun a b=>aC (P97 a b)
def afj:KT:=[(151,20,[(0,(1::2::3::(rn 12 7 []))),(1,[6])])]
def aeM:aw:=bO Pz afj [(83,SH),(97,ZF)] [] []
theorem aaH:aW aeM:=aj ak ⟨TC,s97,trivial⟩ trivial trivial
def il (a:Pos) (b:Int) (c:Int):Bool:=(bif !vA (Pos.mk a.variant a.ae a.ab a.af a.aa a.ai a.ah a.ag a.half a.full) b then (kN (a.ae.getD (scale 1 b).toNat 0)==c) else (false))
def qI (a:Pos) (b:Int) (c:Int):Bool:=(pP (Pos.mk a.variant a.ae a.ab a.af a.aa a.ai a.ah a.ag a.half a.full) (b)&&(bif !vA (Pos.mk a.variant a.ae a.ab a.af a.aa a.ai a.ah a.ag a.half a.full) b then (decide (0≤b)&&decide (b < ↑64)&&true) else true))
theorem adA (a:Pos) (b:Int) (c:Int) (h:qI a b c=true):PS Pz 151 [Pos.av a,.int .i64 b,.int .u8 c] (dB.res (il a b c)):=pq14 aaH h
def MB:GT:=g3 aY (dI .i64) (dI .u8) (fun a b c=>cp (qI a b c) (dB.res (il a b c)))
theorem PA:Sound Pz 151 MB:=dv fun a b c=>aC (adA a b c)
def K94:KT:=[(94,12,[(0,[0,1]),(1,[1,6]),(2,[4]),(3,[4])])]
def B94:aw:=bO Pz K94 [] [] []
theorem afR:aW B94:=aj ak trivial trivial trivial
def qH (a:Int) (b:Int):Int:=(bif a==0 then (wr .i64 (b.tdiv 8)) else (wr .i64 (7-wr .i64 (b.tdiv 8))))
def aff (a:Int) (b:Int):Bool:=true
theorem P94 (a:Int) (b:Int) (h:aff a b=true):PS Pz 94 [.int .u8 a,.int .i64 b] ((dI .i64).res (qH a b)):=pq14 afR h
def MZ:GT:=g2 (dI .u8) (dI .i64) (fun a b=>.ret ((dI .i64).res (qH a b)))
theorem Ro:Sound Pz 94 MZ:=bb fun a b=>bV (P94 a b rfl)
def K98:KT:=[(98,5,[(0,[0]),(1,[4]),(2,[2]),(3,[2])])]
def B98:aw:=bO Pz K98 [] [] []
theorem ad7:aW B98:=aj ak trivial trivial trivial
def fb (a:Int):Int:=(bif a==0 then (8) else (-8))
def ad4 (a:Int):Bool:=true
theorem P98 (a:Int) (h:ad4 a=true):PS Pz 98 [.int .u8 a] ((dI .i64).res (fb a)):=pq14 ad7 h
def Yu:GT:=g1 (dI .u8) (fun a=>.ret ((dI .i64).res (fb a)))
theorem s98:Sound Pz 98 Yu:=aH fun a=>bV (P98 a rfl)
def afL:KT:=[(157,79,[(0,(1::2::3::(rn 24 5 (rn 45 12 (65::(rn 68 5 [75,76,77])))))),(1,(1::2::3::7::(rn 24 5 (rn 45 12 (65::(rn 68 5 [75,76,77])))))),(2,(1::2::3::7::16::(rn 24 5 (rn 45 12 (65::(rn 68 5 [75,76,77])))))),(3,[6]),(4,(1::2::3::7::34::(rn 45 12 (65::(rn 68 5 [75,76,77]))))),(5,[6]),(6,(1::2::3::7::8::(rn 45 12 (65::(rn 68 5 [75,76,77]))))),(7,(1::2::3::7::9::65::(rn 68 5 [75,76,77]))),(8,[6])])]
def aeI:aw:=bO Pz afL [(151,MB),(97,ZF),(98,Yu),(154,Df),(94,MZ)] [] []
theorem Xc:aW aeI:=aj ak ⟨PA,s97,s98,FN,Ro,trivial⟩ trivial trivial
def GQ (a:Pos) (b:Int) (c:Int):Bool:=(bif jX a b c then (bif il a c (wr .u8 (1-a.aa)) then (true) else (wr .i64 a.ah==c)) else (bif c==wr .i64 (b+fb a.aa) then (vA a c) else (bif qH a.aa b==1 then (bif c==wr .i64 (b+wr .i64 (2 * fb a.aa)) then (bif vA a (wr .i64 (b+fb a.aa)) then (vA a c) else (false)) else (false)) else (bif qH a.aa b==0 then (bif a.variant==7 then (bif c==wr .i64 (b+wr .i64 (2 * fb a.aa)) then (bif a.aa==0 then (bif vA a (wr .i64 (b+fb a.aa)) then (vA a c) else (false)) else (false)) else (false)) else (bif c==wr .i64 (b+wr .i64 (2 * fb a.aa)) then (false) else (false))) else (bif c==wr .i64 (b+wr .i64 (2 * fb a.aa)) then (false) else (false))))))
def Ba (a:Pos) (b:Int) (c:Int):Bool:=(o6 (a) (b) (c)&&(bif jX a b c then (qI (a) (c) (wr .u8 (1-a.aa))&&true) else (bif c==wr .i64 (b+fb a.aa) then (pP (a) (c)&&true) else (bif qH a.aa b==1 then (bif c==wr .i64 (b+wr .i64 (2 * fb a.aa)) then (pP (a) (wr .i64 (b+fb a.aa))&&(bif vA a (wr .i64 (b+fb a.aa)) then (pP (a) (c)&&true) else true)) else true) else (bif qH a.aa b==0 then (bif a.variant==7 then (bif c==wr .i64 (b+wr .i64 (2 * fb a.aa)) then (bif a.aa==0 then (pP (a) (wr .i64 (b+fb a.aa))&&(bif vA a (wr .i64 (b+fb a.aa)) then (pP (a) (c)&&true) else true)) else true) else true) else true) else true)))))
theorem aiG (a:Pos) (b:Int) (c:Int) (h:Ba a b c=true):PS Pz 157 [Pos.av a,.int .i64 b,.int .i64 c] (dB.res (GQ a b c)):=pq14 Xc h
def XX:GT:=g3 aY (dI .i64) (dI .i64) (fun a b c=>cp (Ba a b c) (dB.res (GQ a b c)))
theorem ain:Sound Pz 157 XX:=dv fun a b c=>aC (aiG a b c)
def K93:KT:=[(93,56,[(0,(1::2::3::(rn 11 6 (rn 19 5 (rn 43 8 []))))),(1,(1::2::3::24::(rn 43 8 []))),(2,[6]),(3,(1::2::3::29::(rn 43 8 []))),(4,(1::2::3::29::30::(rn 43 8 []))),(5,[6]),(6,(1::2::3::36::(rn 43 8 []))),(7,[6]),(8,[6])])]
def B93:aw:=bO Pz K93 [(82,mV),(151,MB),(97,ZF),(154,Df),(157,XX)] [] []
theorem akg:aW B93:=aj ak ⟨nm,PA,s97,FN,ain,trivial⟩ trivial trivial
def vu (a:Pos) (b:Int) (c:Int):Bool:=(bif b==c then (false) else (bif !il a b a.aa then (false) else (bif il a c a.aa then (false) else (bif bg (a.ae.getD (scale 1 b).toNat 0)==1 then (GQ a b c) else (bif bg (a.ae.getD (scale 1 b).toNat 0)==6 then (bif jX a b c then (bif a.variant != 3 then (true) else (vA a c)) else (false)) else (jX a b c))))))
def FG (a:Pos) (b:Int) (c:Int):Bool:=(bif b==c then true else (qI (a) (b) (a.aa)&&(bif !il a b a.aa then true else (qI (a) (c) (a.aa)&&(bif il a c a.aa then true else (decide (0≤b)&&decide (b<Int.ofNat 64)&&(bif bg (a.ae.getD (scale 1 b).toNat 0)==1 then (Ba (a) (b) (c)&&true) else (bif bg (a.ae.getD (scale 1 b).toNat 0)==6 then (o6 (a) (b) (c)&&(bif jX a b c then (bif a.variant != 3 then true else (pP (a) (c)&&true)) else true)) else (o6 (a) (b) (c)&&true)))))))))
theorem P93 (a:Pos) (b:Int) (c:Int) (h:FG a b c=true):PS Pz 93 [Pos.av a,.int .i64 b,.int .i64 c] (dB.res (vu a b c)):=pq14 akg h
def WM:GT:=g3 aY (dI .i64) (dI .i64) (fun a b c=>cp (FG a b c) (dB.res (vu a b c)))
theorem s93:Sound Pz 93 WM:=dv fun a b c=>aC (P93 a b c)
end Kz
end
noncomputable section
namespace Kz
open Go Go.RowKit
theorem OI:∀ v:Fin 256,bw v.val=bg v.val∧(dn 0 0 v.val=(!(bg v.val==0)&&kN v.val==0))∧(dn 1 0 v.val=(!(bg v.val==0)&&kN v.val==1))∧((dn 0 0 v.val || dn 1 0 v.val)=!(bg v.val==0))∧(bg v.val=0∨bg v.val=1∨(2≤bg v.val∧bg v.val≤6)):=by decide +kernel
theorem pZ {v:Int} (h0:0≤v) (h1:v≤255):bw v=bg v∧(dn 0 0 v=(!(bg v==0)&&kN v==0))∧(dn 1 0 v=(!(bg v==0)&&kN v==1))∧((dn 0 0 v || dn 1 0 v)=!(bg v==0))∧(bg v=0∨bg v=1∨(2≤bg v∧bg v≤6)):=by
 obtain ⟨n,rfl⟩:=Int.eq_ofNat_of_zero_le h0
 exact OI ⟨n,by omega⟩
noncomputable section
variable {p:Pos} (hp:aA p) (ht:p.aa=0∨p.aa=1)
include hp ht
theorem gJ {c:Int} (hc:c=0∨c=1) {i:Nat} (hi:i<64):il p i c=(aO p c 0).getLsbD i:=by
 obtain ⟨b0,b1⟩:=eC hp i
 obtain ⟨_,m0,m1,_⟩:=pZ b0 b1
 rw [cf _ _ _ hi]
 unfold il vA
 rw [show (Pos.mk p.variant p.ae p.ab p.af p.aa p.ai p.ah p.ag p.half p.full)=p from rfl,show (scale 1 (i:Int)).toNat=i by unfold scale;simp]
 rcases hc with rfl | rfl
 ·rw [m0];cases bg (p.ae.getD i 0)==0<;>rfl
 ·rw [m1];cases bg (p.ae.getD i 0)==0<;>rfl
theorem JK:gU p=aO p (1-p.aa) 0:=by
 unfold gU
 rw [ni (by omega) (by omega)]
theorem nY {s:Nat} (hs:s<64):(own p|||gU p).getLsbD s=false ↔ bg (p.ae.getD s 0)=0:=by
 obtain ⟨b0,b1⟩:=eC hp s
 obtain ⟨_,_,_,m,_⟩:=pZ b0 b1
 rw [BitVec.getLsbD_or,JK hp ht]
 unfold own
 rw [cf _ _ _ hs,cf _ _ _ hs]
 have e:(dn p.aa 0 (p.ae.getD s 0) || dn (1-p.aa) 0 (p.ae.getD s 0))=!(bg (p.ae.getD s 0)==0):=by
  rw [← m]
  rcases ht with h | h<;>rw [h]
  ·rfl
  ·exact Bool.or_comm _ _
 rw [e]
 simp
theorem rW {s:Nat} (hs:s<64):vA p s=!(own p|||gU p).getLsbD s:=by
 have h:=nY hp ht hs
 unfold vA
 rw [show (scale 1 (s:Int)).toNat=s by unfold scale;simp]
 cases hb:(own p|||gU p).getLsbD s with
 | false=>rw [h.1 hb];rfl
 | true =>
  have:bg (p.ae.getD s 0)≠0:=fun e=>by rw [h.2 e] at hb;cases hb
  simpa using this
theorem N5 {f t:Nat} (hf:f<64) (h64:t<64) (hown:(own p).getLsbD f=true) (hk:bg (p.ae.getD f 0)≠1):vu p f t=(gR (p,own p,gU p) f).getLsbD t:=by
 obtain ⟨b0,b1⟩:=eC hp f
 obtain ⟨m91,_,_,mm,mk⟩:=pZ b0 b1
 have e1:=gJ hp ht ht hf
 have e2:=gJ hp ht ht h64
 have ho:aO p p.aa 0=own p:=rfl
 rw [ho] at e1 e2
 rw [hown] at e1
 have hocc:=fun s hs=>nY hp ht (s:=s) hs
 have hne:bg (p.ae.getD f 0)≠0:=fun e=>by
  have:=(nY hp ht hf).2 e
  rw [BitVec.getLsbD_or,hown] at this
  cases this
 have h26:2≤bg (p.ae.getD f 0)∧bg (p.ae.getD f 0)≤6:=by omega
 have hit:=Kr (p:=p) (occ:=own p|||gU p) hocc hf h64 h26
 have emp:=rW hp ht h64
 unfold vu gR
 dsimp only
 rw [e1,e2,show (scale 1 (f:Int)).toNat=f by unfold scale;simp,m91,hit,emp]
 unfold Du
 have hft:((f:Int)==(t:Int))=decide (f=t):=by
  rw [Bool.eq_iff_iff];simp;omega
 rw [hft]
 generalize bg (p.ae.getD f 0)=k at *
 have hk':k=2∨k=3∨k=4∨k=5∨k=6:=by omega
 by_cases hts:f=t
 ·subst hts
  rw [decide_eq_true rfl]
  have hz:∀ X:BitVec 64,(X &&& ~~~own p).getLsbD f=false:=fun X=>by
   rw [BitVec.getLsbD_and,BitVec.getLsbD_not,hown];simp
  rcases hk' with rfl | rfl | rfl | rfl | rfl
  ·exact (hz _).symm
  ·exact (hz _).symm
  ·exact (hz _).symm
  ·exact (hz _).symm
  ·show false=(bif p.variant==3 then _ else _:BitVec 64).getLsbD f
   cases p.variant==3
   ·exact (hz _).symm
   ·exact (hz _).symm
 ·rw [decide_eq_false hts]
  have hz:∀ X:BitVec 64,(X &&& ~~~own p).getLsbD t=(!(own p).getLsbD t&&X.getLsbD t):=fun X=>by
   rw [BitVec.getLsbD_and,BitVec.getLsbD_not,Bool.and_comm];simp [h64]
  rcases hk' with rfl | rfl | rfl | rfl | rfl
  ·show (bif (own p).getLsbD t then false else (qb f).getLsbD t)=(qb f &&& ~~~own p).getLsbD t
   rw [hz];cases (own p).getLsbD t<;>rfl
  ·show (bif (own p).getLsbD t then false else (rf f (own p|||gU p)).getLsbD t)=(rf f (own p|||gU p) &&& ~~~own p).getLsbD t
   rw [hz];cases (own p).getLsbD t<;>rfl
  ·show (bif (own p).getLsbD t then false else (rq f (own p|||gU p)).getLsbD t)=(rq f (own p|||gU p) &&& ~~~own p).getLsbD t
   rw [hz];cases (own p).getLsbD t<;>rfl
  ·show (bif (own p).getLsbD t then false else (uI f (own p|||gU p)).getLsbD t)=(uI f (own p|||gU p) &&& ~~~own p).getLsbD t
   rw [hz];cases (own p).getLsbD t<;>rfl
  ·show (bif (own p).getLsbD t then false else (bif (cZ f).getLsbD t then (bif p.variant != 3 then true else !(own p|||gU p).getLsbD t) else false))=(bif p.variant==3 then cZ f &&& ~~~gU p &&& ~~~own p else cZ f &&& ~~~own p).getLsbD t
   rw [BitVec.getLsbD_or]
   by_cases hv:p.variant=3
   ·rw [show (p.variant != 3)=false by simp [hv],show (p.variant==3)=true by simp [hv]]
    show _=(cZ f &&& ~~~gU p &&& ~~~own p).getLsbD t
    rw [hz,BitVec.getLsbD_and,BitVec.getLsbD_not]
    simp only [h64,decide_true,Bool.true_and,cond_false]
    cases (own p).getLsbD t<;>cases (gU p).getLsbD t<;>cases (cZ f).getLsbD t<;>rfl
   ·rw [show (p.variant != 3)=true by simpa using hv,show (p.variant==3)=false by simpa using hv]
    show _=(cZ f &&& ~~~own p).getLsbD t
    rw [hz]
    cases (own p).getLsbD t<;>cases (cZ f).getLsbD t<;>rfl
end
theorem Bg (x:BitVec 64) {k:Nat} (hk:k<64):(x >>> k&&&1#64==1#64)=x.getLsbD k:=by
 have h:(x >>> k&&&1#64).toNat=(x.getLsbD k).toNat:=by
  rw [BitVec.toNat_and,BitVec.toNat_ushiftRight,Nat.shiftRight_eq_div_pow,show (1#64).toNat=2 ^ 1-1 from rfl,Nat.and_two_pow_sub_one_eq_mod,BitVec.getLsbD,Nat.testBit_eq_decide_div_mod_eq]
  have:=Nat.mod_two_eq_zero_or_one (x.toNat / 2 ^ k)
  rcases this with h | h
  ·rw [show (2:Nat) ^ 1=2 from rfl,h];rfl
  ·rw [show (2:Nat) ^ 1=2 from rfl,h];rfl
 cases hb:x.getLsbD k with
 | true =>
  rw [hb] at h
  have:x >>> k&&&1#64=1#64:=BitVec.eq_of_toNat_eq h
  rw [this];rfl
 | false =>
  rw [hb] at h
  have:x >>> k&&&1#64=0#64:=BitVec.eq_of_toNat_eq h
  rw [this];rfl
theorem He:∀ (c:Fin 2) (f t:Fin 64),cm 1 c.val f.val t.val false=(dc c.val f.val).getLsbD t.val:=by decide +kernel
theorem tO:∀ (c:Fin 2) (f:Fin 64),fP c.val f.val=qH c.val f.val∧(fP c.val f.val≠7→0≤cV c.val f.val∧cV c.val f.val<64)∧cV c.val f.val=f.val+fb c.val∧(fP c.val f.val=1∨fP c.val f.val=0→cV c.val (cV c.val f.val)=f.val+2 * fb c.val∧0≤cV c.val (cV c.val f.val)∧cV c.val (cV c.val f.val)<64)∧(fP c.val f.val=7→cV c.val f.val<0∨64≤cV c.val f.val)∧(fb c.val=8∨fb c.val = -8):=by decide +kernel
theorem F4:∀ (c:Fin 2) (f t:Fin 64),(dc c.val f.val).getLsbD t.val=true→(t.val:Int)≠f.val+fb c.val∧(t.val:Int)≠f.val+2 * fb c.val:=by decide +kernel
theorem JY {n:Int} (h0:0≤n) (h1:n<64) {t:Nat} (ht:t<64):(1#64 <<< (BitVec.ofInt 64 n).toNat).getLsbD t=decide ((t:Int)=n):=by
 rw [fN ht,cP h0 (by omega),Bool.eq_iff_iff]
 simp
 omega
noncomputable section
variable {p:Pos} (hp:aA p) (ht:p.aa=0∨p.aa=1)
include hp ht
theorem JR {f t:Nat} (hf:f<64) (h64:t<64) (hown:(own p).getLsbD f=true) (hk:bg (p.ae.getD f 0)=1):vu p f t=(gR (p,own p,gU p) f).getLsbD t:=by
 obtain ⟨b0,b1⟩:=eC hp f
 obtain ⟨m91,m0,m1,_,_⟩:=pZ b0 b1
 have e1:=gJ hp ht ht hf
 have e2:=gJ hp ht ht h64
 have ho:aO p p.aa 0=own p:=rfl
 rw [ho] at e1 e2
 rw [hown] at e1
 have hcol:kN (p.ae.getD f 0)=p.aa:=by
  have:dn p.aa 0 (p.ae.getD f 0)=true:=by
   rw [← cf p p.aa 0 hf];exact hown
  rcases ht with h | h
  ·rw [h,m0] at this
   rw [h]
   simp only [E',beq_iff_eq] at this
   exact this.2
  ·rw [h,m1] at this
   rw [h]
   simp only [E',beq_iff_eq] at this
   exact this.2
 have w1:wr .u8 (1-p.aa)=1-p.aa:=ni (by omega) (by omega)
 have e3:il p t (wr .u8 (1-p.aa))=(gU p).getLsbD t:=by
  rw [w1,gJ hp ht (by omega) h64,JK hp ht]
 have hsf:(scale 1 (f:Int)).toNat=f:=by unfold scale;simp
 have emp:=fun s hs=>rW hp ht (s:=s) hs
 obtain ⟨c,hc⟩:∃ c:Fin 2,p.aa=c.val:=by
  rcases ht with h | h
  ·exact ⟨0,h⟩
  ·exact ⟨1,h⟩
 have hat:=He c ⟨f,hf⟩ ⟨t,h64⟩
 obtain ⟨r1,r2,r3,r4,r5,r6⟩:=tO c ⟨f,hf⟩
 have hz:=F4 c ⟨f,hf⟩ ⟨t,h64⟩
 simp only at hat r1 r2 r3 r4 r5 r6 hz
 rw [← hc] at hat r1 r2 r3 r4 r5 r6 hz
 have hA:jX p f t=(dc p.aa f).getLsbD t:=by
  rw [om,hsf,hk,hcol,← hat]
  rfl
 have p0:=hp.p0
 have p1:=hp.p1
 have wp:wr .i64 p.ah=p.ah:=aF (by omega) (by omega)
 have hP:(pS (p,own p,gU p)).getLsbD t=(p.ah==(t:Int)):=by
  unfold pS
  refine aq (P:=fun x:BitVec 64=>x.getLsbD t=_) (fun h=>?_) fun h=>aq (P:=fun x:BitVec 64=>x.getLsbD t=_) (fun h2=>?_) fun h2=>?_
  ·have h:p.ah<0:=by simpa using h
   rw [show (p.ah==(t:Int))=false by simp;omega];simp
  ·have h2:p.ah≥64:=by simpa using h2
   rw [show (p.ah==(t:Int))=false by simp;omega];simp
  ·have h:0≤p.ah:=by simpa using h
   have h2:p.ah<64:=by simpa using h2
   show (1#64 <<< (BitVec.ofInt 64 p.ah).toNat).getLsbD t=_
   rw [JY h h2 h64,Bool.eq_iff_iff]
   simp
   omega
 unfold vu gR
 dsimp only
 rw [e1,e2,hsf,m91,hk]
 show (bif (f:Int)==(t:Int) then false else bif (own p).getLsbD t then false else GQ p f t)=(zi (p,own p,gU p) f &&& ~~~own p).getLsbD t
 rw [BitVec.getLsbD_and,BitVec.getLsbD_not]
 by_cases hft:f=t
 ·subst hft
  rw [hown];simp
 ·rw [show ((f:Int)==(t:Int))=false by simp;omega,cond_false]
  cases hW:(own p).getLsbD t with
  | true=>simp
  | false =>
   simp only [cond_false,h64,decide_true,Bool.not_false,Bool.and_true]
   have hoc:(own p|||gU p).getLsbD t=(gU p).getLsbD t:=by rw [BitVec.getLsbD_or,hW,Bool.false_or]
   unfold GQ zi
   dsimp only
   rw [hA,e3,wp,← r1]
   have wup:wr .i64 ((f:Int)+fb p.aa)=f+fb p.aa:=aF (by omega) (by omega)
   have wup2:wr .i64 (2 * fb p.aa)=2 * fb p.aa:=aF (by omega) (by omega)
   have wup3:wr .i64 ((f:Int)+2 * fb p.aa)=f+2 * fb p.aa:=aF (by omega) (by omega)
   rw [wup2,wup,wup3,show (Pos.mk p.variant p.ae p.ab p.af p.aa p.ai p.ah p.ag p.half p.full,own p,gU p)=(p,own p,gU p) from rfl]
   have hatt:∀ X:BitVec 64,X=dc p.aa f&&&(gU p|||pS (p,own p,gU p))→X.getLsbD t=((dc p.aa f).getLsbD t&&((gU p).getLsbD t || (p.ah==(t:Int)))):=fun X hX=>by
    rw [hX,BitVec.getLsbD_and,BitVec.getLsbD_or,hP]
   generalize hXX:dc p.aa f&&&(gU p|||pS (p,own p,gU p))=X at *
   have hatt:=hatt X rfl
   have hpass:(p.ah==(t:Int))=((p.ah:Int)==t):=rfl
   generalize (dc p.aa f).getLsbD t=A at *
   by_cases h7:fP p.aa f=7
   ·rw [h7]
    have:=r5 h7
    rw [show ((7:Int)==7)=true from rfl,cond_true,hatt,emp t h64,hoc]
    cases A
    ·rw [show ((t:Int)==(f:Int)+fb p.aa)=false by simp;omega]
     cases ((t:Int)==(f:Int)+2 * fb p.aa)<;>rfl
    ·cases (gU p).getLsbD t<;>cases (p.ah==(t:Int))<;>rfl
   ·obtain ⟨a0,a1⟩:=r2 h7
    rw [show (fP p.aa f==7)=false by simpa using h7,cond_false,cP a0 (by omega),Bg _ (by omega)]
    obtain ⟨s,hs⟩:=Int.eq_ofNat_of_zero_le a0
    have hs64:s<64:=by omega
    rw [show (cV p.aa f).toNat=s by omega,show (f:Int)+fb p.aa=(s:Int) by omega,emp s hs64,emp t h64]
    have hb1:(1#64 <<< s).getLsbD t=((t:Int)==(s:Int)):=by
     rw [fN h64,Bool.eq_iff_iff];simp;omega
    have hb2:(fP p.aa f=1∨fP p.aa f=0)→(1#64 <<< (BitVec.ofInt 64 (cV p.aa (cV p.aa f))).toNat).getLsbD t=((t:Int)==(f:Int)+2 * fb p.aa):=fun h=>by
     obtain ⟨c1,c2,c3⟩:=r4 h
     rw [JY c2 c3 h64,c1,Bool.eq_iff_iff]
     simp
    generalize 1#64 <<< (BitVec.ofInt 64 (cV p.aa (cV p.aa f))).toNat=Y at hb2 ⊢
    have q1:((t:Int)==(s:Int))=true→A=false∧(own p|||gU p).getLsbD t=(own p|||gU p).getLsbD s:=fun h=>by
     have h:(t:Int)=s:=by simpa using h
     refine ⟨?_,by rw [show t=s by omega]⟩
     cases hA':A with
     | false=>rfl
     | true=>exact absurd (by omega) (hz hA').1
    have q2:((t:Int)==(f:Int)+2 * fb p.aa)=true→A=false:=fun h=>by
     have h:(t:Int)=f+2 * fb p.aa:=by simpa using h
     cases hA':A with
     | false=>rfl
     | true=>exact absurd h (hz hA').2
    generalize ((t:Int)==(s:Int))=u at *
    generalize ((t:Int)==(f:Int)+2 * fb p.aa)=u2 at *
    have rhs1:(X|||1#64 <<< s).getLsbD t=(X.getLsbD t || u):=by rw [BitVec.getLsbD_or,hb1]
    have rhs2:(fP p.aa f=1∨fP p.aa f=0)→(X|||1#64 <<< s|||Y &&& ~~~(own p|||gU p)).getLsbD t=(X.getLsbD t || u || (u2&&!(own p|||gU p).getLsbD t)):=fun h=>by
     rw [BitVec.getLsbD_or,BitVec.getLsbD_or,BitVec.getLsbD_and,BitVec.getLsbD_not,hb1,hb2 h]
     simp only [h64,decide_true,Bool.true_and]
    generalize (own p|||gU p).getLsbD t=ot at *
    generalize (own p|||gU p).getLsbD s=os at *
    generalize (gU p).getLsbD t=O at *
    generalize (p.ah==(t:Int))=P at *
    by_cases g1:fP p.aa f=1
    ·rw [show (fP p.aa f==1)=true by simpa using g1]
     simp only [cond_true]
     cases os
     ·rw [cond_false,rhs2 (.inl g1),hatt]
      revert q1 q2
      cases A<;>cases u<;>cases u2<;>cases ot<;>cases O<;>cases P<;>simp
     ·rw [cond_true,hatt]
      revert q1 q2
      cases A<;>cases u<;>cases u2<;>cases ot<;>cases O<;>cases P<;>simp
    ·rw [show (fP p.aa f==1)=false by simpa using g1]
     simp only [cond_false]
     by_cases g0:fP p.aa f=0
     ·rw [show (fP p.aa f==0)=true by simpa using g0]
      simp only [cond_true]
      cases hv:(p.variant==7)<;>cases htn:(p.aa==0)<;>cases os<;>simp only [cond_true,cond_false,rhs1,rhs2 (.inr g0),hatt]<;>revert q1 q2<;>cases A<;>cases u<;>cases u2<;>cases ot<;>cases O<;>cases P<;>simp
     ·rw [show (fP p.aa f==0)=false by simpa using g0]
      simp only [cond_false]
      cases os
      ·rw [cond_false,rhs1,hatt]
       revert q1 q2
       cases A<;>cases u<;>cases u2<;>cases ot<;>cases O<;>cases P<;>simp
      ·rw [cond_true,hatt]
       revert q1 q2
       cases A<;>cases u<;>cases u2<;>cases ot<;>cases O<;>cases P<;>simp
end
end Kz
end
noncomputable section
namespace Kz
open Go Go.RowKit Go.Proofs
def K19:KT:=[(19,11,[(0,[1,7,8,9]),(1,[2])])]
def B19:aw:=bO Pz K19 [] [] []
theorem ae3:aW B19:=aj ak trivial trivial trivial
def rX (a:Pos):Bool:=(bif decide (a.variant<9) then (decide (a.aa<2)) else (false))
def ajR (a:Pos):Bool:=true
theorem P19 (a:Pos) (h:ajR a=true):PS Pz 19 [Pos.av a] (dB.res (rX a)):=pq14 ae3 h
def KE:GT:=g1 aY (fun a=>.ret (dB.res (rX a)))
theorem MN:Sound Pz 19 KE:=aH fun a=>bV (P19 a rfl)
def K95:KT:=[(95,11,[(0,[0]),(1,[0,3]),(2,[2]),(3,[7]),(4,[2]),(5,[2])])]
def B95:aw:=bO Pz K95 [] [] []
theorem ah4:aW B95:=aj ak trivial trivial trivial
def vK (a:Int):List Int:=(bif a==4 then [(2),(3),(4),(5),(6)] else (bif decide (a<8) then [(2),(3),(4),(5)] else ([])))
def ajj (a:Int):Bool:=true
theorem P95 (a:Int) (h:ajj a=true):PS Pz 95 [.int .u8 a] ((dL (.i .u8)).res (vK a)):=pq14 ah4 h
def TE:GT:=g1 (dI .u8) (fun a=>.ret ((dL (.i .u8)).res (vK a)))
theorem WS:Sound Pz 95 TE:=aH fun a=>bV (P95 a rfl)
def K38:KT:=[(38,67,[(0,(1::(rn 38 5 []))),(1,(1::3::(rn 38 5 []))),(2,(1::3::11::(rn 38 5 []))),(3,[2]),(4,(1::3::4::(rn 38 5 []))),(5,(1::3::4::14::(rn 38 5 []))),(6,(1::3::4::(rn 38 5 []))),(7,(1::3::4::5::(rn 38 5 []))),(8,(1::3::4::5::18::(rn 38 5 []))),(9,(1::3::4::5::(rn 38 5 []))),(10,(1::3::4::5::25::(rn 38 5 []))),(11,(1::(rn 3 4 (rn 38 5 [])))),(12,(1::(rn 3 4 (rn 38 6 [])))),(13,(1::3::4::5::(rn 38 5 []))),(14,(1::(rn 3 5 (rn 38 5 [])))),(15,(1::(rn 3 6 (rn 38 5 [])))),(16,(1::(rn 3 6 (rn 38 5 [54])))),(17,(1::(rn 3 6 (rn 38 5 [])))),(18,(1::(rn 3 6 (rn 38 5 [])))),(19,(1::(rn 3 6 (rn 38 5 [])))),(20,[2])])]
def ZI:aw:=bO Pz K38 [(19,KE),(82,mV),(93,WM),(94,MZ),(95,TE)] [] []
theorem T1:aW ZI:=aj ak ⟨MN,nm,s93,Ro,WS,trivial⟩ trivial trivial
def Qs (p1:Int) (p2:Int) (p3:Z') (p4:Int) (p5:Int) (p6:Bool) (p7:Pos) (p8:Nat) (x:(M'×Int×Mv)):St:=St.mk (.any::.ptr 0 0::.any::.list .mv x.1 (.own 1)::.int .i64 p1::.int .i64 p2::.ptr 1 0::.list (ET.i .u8) p3 .fresh::.int .i64 x.2.1::(an 29 (.ptr 0 78::.int .u8 p4::.int .i64 p2::.int .i64 p5::.bool p6::(an 24 [])))) (Hp.mk [(pc p7 []),[.int .i8 x.2.2.az,.int .i8 x.2.2.to,.int .u8 x.2.2.bQ,.int .u8 x.2.2.aX,.bool x.2.2.bP]] [p8,x.1.length] [] 0 0 0)
def QP (p1:Int) (p2:Int) (p3:Z') (p4:Int) (p5:Int) (p6:Bool) (p7:Pos) (p8:Nat):(M'×Int×Bool×Mv)→Out:=fun y=>.exit 4 (St.mk (.any::.ptr 0 0::.any::.list .mv y.1 (.own 1)::.int .i64 p1::.int .i64 p2::.ptr 1 0::.list (ET.i .u8) p3 .fresh::.int .i64 y.2.1::(an 29 (.ptr 0 78::.int .u8 p4::.int .i64 p2::.int .i64 p5::.bool p6::(an 11 (.bool y.2.2.1::(an 12 [])))))) (Hp.mk [(pc p7 []),[.int .i8 y.2.2.2.az,.int .i8 y.2.2.2.to,.int .u8 y.2.2.2.bQ,.int .u8 y.2.2.2.aX,.bool y.2.2.2.bP]] [p8,y.1.length] [] 0 0 0))
def UW (p1:Int) (p2:Int) (p3:Z') (p4:Int) (p5:Int) (p6:Bool) (p7:Pos) (p8:Nat) (x:(M'×Int×Mv)):aG (M'×Int×Mv) ((M'×Int×Bool×Mv)):=(bif decide (x.2.1<Int.ofNat p3.length) then (aG.go (x.1++[Mv.mk x.2.2.az x.2.2.to (p3.getD x.2.1.toNat default) x.2.2.aX x.2.2.bP],wr .i64 (x.2.1+1),Mv.mk x.2.2.az x.2.2.to (p3.getD x.2.1.toNat default) x.2.2.aX x.2.2.bP)) else (aG.out ((x.1,x.2.1,decide (x.2.1<Int.ofNat p3.length),x.2.2))))
def Og (p1:Int) (p2:Int) (p3:Z') (p4:Int) (p5:Int) (p6:Bool) (p7:Pos) (p8:Nat) (x:(M'×Int×Mv)):Bool:=(bif decide (x.2.1<Int.ofNat p3.length) then (decide (0≤x.2.1)&&decide (x.2.1<Int.ofNat p3.length)&&(x.1.length==x.1.length&&decide (x.1.length+1≤1073741824)&&true)) else true)
def sd (p1:Int) (p2:Int) (p3:Z') (p4:Int) (p5:Int) (p6:Bool) (p7:Pos) (p8:Nat) (x:(M'×Int×Mv)):Option ((M'×Int×Bool×Mv)):=cO (fun x=>bif Og p1 p2 p3 p4 p5 p6 p7 p8 x then UW p1 p2 p3 p4 p5 p6 p7 p8 x else .bad) many x
abbrev R4 {α:Type} (k:Int→Int→Z'→Int→Int→Bool→Pos→Nat→(M'×Int×Mv)→α) (s:St):α:=wP s 0 fun q0=>wM s 1 fun q1=>k (tI (tT s 4)) (tI (tT s 5)) (tL (ET.i .u8) (tT s 7)) (tI (tT s 39)) (tI (tT s 41)) (tB (tT s 42)) q0 (tK s 0) ((tL (ET.mv) (tT s 3)),(tI (tT s 8)),q1)
theorem abx (p1:Int) (p2:Int) (p3:Z') (p4:Int) (p5:Int) (p6:Bool) (p7:Pos) (p8:Nat) (x:(M'×Int×Mv)) (r:(M'×Int×Bool×Mv)) (h:sd p1 p2 p3 p4 p5 p6 p7 p8 x=some r):ay Pz (aT Pz 38 16) (Qs p1 p2 p3 p4 p5 p6 p7 p8 x) (QP p1 p2 p3 p4 p5 p6 p7 p8 r):=smq (m:=12) (fn:=38) T1 (R4 fun _ _ _ _ _ _ _ _ x=>some x) (fun o=>match o with | .exit 4 s=>wM s 1 fun q1=>some ((tL ET.mv (tT s 3)),(tI (tT s 8)),(tB (tT s 54)),q1) | _=>none) many x r h
def D5 (b:Code) (s:St):Tr Out:=R4 (fun p1 p2 p3 p4 p5 p6 p7 p8 x=>lq b (aT Pz 38 16) s (Qs p1 p2 p3 p4 p5 p6 p7 p8 x) (sd p1 p2 p3 p4 p5 p6 p7 p8 x) (QP p1 p2 p3 p4 p5 p6 p7 p8)) s
theorem CJ:∀ b,aM Pz b (D5 b):=fun _ _ _ h=>bK (abx _ _ _ _ _ _ _ _ _) h
def abb:aw:=bO Pz K38 [(19,KE),(82,mV),(93,WM),(94,MZ),(95,TE)] [(38,16,D5)] []
theorem SZ:aW abb:=aj ak ⟨MN,nm,s93,Ro,WS,trivial⟩ ⟨CJ,trivial⟩ trivial
def Sf (p1:Int) (p2:Pos) (p3:Nat) (x:(M'×Int)):St:=St.mk (.any::.ptr 0 0::.any::.list .mv x.1 (.own 1)::.int .i64 p1::.int .i64 x.2::(an 61 [])) (Hp.mk [(pc p2 [])] [p3,x.1.length] [] 0 0 0)
def Sw (p1:Int) (p2:Pos) (p3:Nat):(M'×Int×Bool)→Out:=fun y=>.exit 2 (St.mk (.any::.ptr 0 0::.any::.list .mv y.1 (.own 1)::.int .i64 p1::.int .i64 y.2.1::(an 12 (.bool y.2.2::(an 48 [])))) (Hp.mk [(pc p2 [])] [p3,y.1.length] [] 0 0 0))
def KZ (p1:Int) (p2:Pos) (p3:Nat) (x:(M'×Int)):aG (M'×Int) ((M'×Int×Bool)):=(bif decide (x.2<64) then (bif !vu p2 p1 x.2 then (aG.go (x.1,wr .i64 (x.2+1))) else (bif bg (p2.ae.getD (scale 1 p1).toNat 0) != 1 then (aG.go (x.1++[Mv.mk (wr .i8 p1) (wr .i8 x.2) 0 0 false],wr .i64 (x.2+1))) else (bif qH p2.aa x.2 != 7 then (aG.go (x.1++[Mv.mk (wr .i8 p1) (wr .i8 x.2) 0 0 false],wr .i64 (x.2+1))) else (aG.go (((sd p1 x.2 (vK p2.variant) p2.aa (qH p2.aa x.2) (qH p2.aa x.2 != 7) p2 p3 (x.1,0,Mv.mk (wr .i8 p1) (wr .i8 x.2) 0 0 false)).getD default).1,wr .i64 (x.2+1)))))) else (aG.out ((x.1,x.2,decide (x.2<64)))))
def Dg (p1:Int) (p2:Pos) (p3:Nat) (x:(M'×Int)):Bool:=(bif decide (x.2<64) then (FG (p2) (p1) (x.2)&&(bif !vu p2 p1 x.2 then true else (decide (0≤p1)&&decide (p1<Int.ofNat 64)&&(bif bg (p2.ae.getD (scale 1 p1).toNat 0) != 1 then (x.1.length==x.1.length&&decide (x.1.length+1≤1073741824)&&true) else (bif qH p2.aa x.2 != 7 then (x.1.length==x.1.length&&decide (x.1.length+1≤1073741824)&&true) else ((sd p1 x.2 (vK p2.variant) p2.aa (qH p2.aa x.2) (qH p2.aa x.2 != 7) p2 p3 (x.1,0,Mv.mk (wr .i8 p1) (wr .i8 x.2) 0 0 false)).isSome&&true)))))) else true)
def sn (p1:Int) (p2:Pos) (p3:Nat) (x:(M'×Int)):Option ((M'×Int×Bool)):=cO (fun x=>bif Dg p1 p2 p3 x then KZ p1 p2 p3 x else .bad) many x
abbrev Rp {α:Type} (k:Int→Pos→Nat→(M'×Int)→α) (s:St):α:=wP s 0 fun q0=>k (tI (tT s 4)) q0 (tK s 0) ((tL (ET.mv) (tT s 3)),(tI (tT s 5)))
theorem Yf (p1:Int) (p2:Pos) (p3:Nat) (x:(M'×Int)) (r:(M'×Int×Bool)) (h:sn p1 p2 p3 x=some r):ay Pz (aT Pz 38 8) (Sf p1 p2 p3 x) (Sw p1 p2 p3 r):=smq (m:=12) (fn:=38) SZ (Rp fun _ _ _ x=>some x) (fun o=>match o with | .exit 2 s=>some ((tL ET.mv (tT s 3)),(tI (tT s 5)),(tB (tT s 18))) | _=>none) many x r h
def LF (b:Code) (s:St):Tr Out:=Rp (fun p1 p2 p3 x=>lq b (aT Pz 38 8) s (Sf p1 p2 p3 x) (sn p1 p2 p3 x) (Sw p1 p2 p3)) s
theorem Mx:∀ b,aM Pz b (LF b):=fun _ _ _ h=>bK (Yf _ _ _ _) h
def aby:aw:=bO Pz K38 [(19,KE),(82,mV),(93,WM),(94,MZ),(95,TE)] [(38,16,D5),(38,8,LF)] []
theorem Vn:aW aby:=aj ak ⟨MN,nm,s93,Ro,WS,trivial⟩ ⟨CJ,Mx,trivial⟩ trivial
def Qd (p1:Pos) (p2:Nat) (x:(M'×Int)):St:=St.mk (.any::.ptr 0 0::.any::.list .mv x.1 (.own 1)::.int .i64 x.2::(an 62 [])) (Hp.mk [(pc p1 [])] [p2,x.1.length] [] 0 0 0)
def Rx (p1:Pos) (p2:Nat):(M'×Int×Bool)→Out:=fun y=>.exit 0 (St.mk (.any::.ptr 0 0::.any::.list .mv y.1 (.own 1)::.int .i64 y.2.1::(an 9 (.bool y.2.2::(an 52 [])))) (Hp.mk [(pc p1 [])] [p2,y.1.length] [] 0 0 0))
def Mz (p1:Pos) (p2:Nat) (x:(M'×Int)):aG (M'×Int) ((M'×Int×Bool)):=(bif decide (x.2<64) then (aG.go (((sn x.2 p1 p2 (x.1,0)).getD default).1,wr .i64 (x.2+1))) else (aG.out ((x.1,x.2,decide (x.2<64)))))
def EB (p1:Pos) (p2:Nat) (x:(M'×Int)):Bool:=(bif decide (x.2<64) then ((sn x.2 p1 p2 (x.1,0)).isSome&&true) else true)
def kv (p1:Pos) (p2:Nat) (x:(M'×Int)):Option ((M'×Int×Bool)):=cO (fun x=>bif EB p1 p2 x then Mz p1 p2 x else .bad) many x
abbrev Rc {α:Type} (k:Pos→Nat→(M'×Int)→α) (s:St):α:=wP s 0 fun q0=>k q0 (tK s 0) ((tL (ET.mv) (tT s 3)),(tI (tT s 4)))
theorem aah (p1:Pos) (p2:Nat) (x:(M'×Int)) (r:(M'×Int×Bool)) (h:kv p1 p2 x=some r):ay Pz (aT Pz 38 5) (Qd p1 p2 x) (Rx p1 p2 r):=smq (m:=12) (fn:=38) Vn (Rc fun _ _ x=>some x) (fun o=>match o with | .exit 0 s=>some ((tL ET.mv (tT s 3)),(tI (tT s 4)),(tB (tT s 14))) | _=>none) many x r h
def Sy (b:Code) (s:St):Tr Out:=Rc (fun p1 p2 x=>lq b (aT Pz 38 5) s (Qd p1 p2 x) (kv p1 p2 x) (Rx p1 p2)) s
theorem SP:∀ b,aM Pz b (Sy b):=fun _ _ _ h=>bK (aah _ _ _) h
def B38:aw:=bO Pz K38 [(19,KE),(82,mV),(93,WM),(94,MZ),(95,TE)] [(38,16,D5),(38,8,LF),(38,5,Sy)] []
theorem ajw:aW B38:=aj ak ⟨MN,nm,s93,Ro,WS,trivial⟩ ⟨CJ,Mx,SP,trivial⟩ trivial
def GS (a:Pos):M':=(bif !rX a then ([]) else (((kv a 0 ([],0)).getD default).1))
def LL (a:Pos):Bool:=(bif !rX a then true else ((kv a 0 ([],0)).isSome&&true))
theorem P38 (a:Pos) (h:LL a=true):PS Pz 38 [Pos.av a] ((dL .mv).res (GS a)):=pq14 ajw h
def G38:GT:=g1 aY (fun a=>cp (LL a) ((dL .mv).res (GS a)))
theorem s38:Sound Pz 38 G38:=aH fun a=>aC (P38 a)
end Kz
end
noncomputable section
namespace Kz
open Go Go.RowKit
theorem JO:∀ a b:Fin 64,(bR BinOp.neq ((y8 a.val b.val==0)==(bX (vm a.val b.val)==0))=true→ld a.val b.val=true)∧((bX (y8 a.val b.val)==bX (vm a.val b.val))=true→decide (bX (vm a.val b.val)>0)=true→kY a.val b.val=true):=by decide +kernel
noncomputable section
variable {p:Pos} (hp:aA p) (ht:p.aa=0∨p.aa=1)
include hp ht
theorem t207 {a b:Nat} (ha:a<64) (h:ld a b=true∨kY a b=true):lK p a b=true:=by
 have hocc:=fun s hs=>nY hp ht (s:=s) hs
 have:∃ d,d<8∧b∈jq a d:=by
  unfold ld kY at h
  simp only [Bool.or_eq_true,decide_eq_true_eq] at h
  rcases h with (((h | h) | h) | h) | (((h | h) | h) | h)
  ·exact ⟨0,by decide,h⟩
  ·exact ⟨2,by decide,h⟩
  ·exact ⟨4,by decide,h⟩
  ·exact ⟨6,by decide,h⟩
  ·exact ⟨1,by decide,h⟩
  ·exact ⟨3,by decide,h⟩
  ·exact ⟨5,by decide,h⟩
  ·exact ⟨7,by decide,h⟩
 obtain ⟨d,hd,hb⟩:=this
 exact (mE p hocc ha hd hb).1
theorem t154 {a b:Nat} (ha:a<64) (hb:b<64):o6 p a b=true:=by
 obtain ⟨l1,l2⟩:=JO ⟨a,ha⟩ ⟨b,hb⟩
 simp only [y8,vm] at l1 l2
 have k1:=fun h=>t207 hp ht ha (.inl (l1 h))
 have k2:=fun h h'=>t207 hp ht ha (.inr (l2 h h'))
 have ki:(decide (0≤(a:Int))&&decide ((a:Int)<Int.ofNat 64))=true:=by simp;omega
 unfold o6
 refine ao ki fun _=>ar (fun e=>?_) fun e=>?_
 all_goals repeat' (first | with_reducible rfl | exact k1 (by assumption) | exact k2 (by assumption) (by assumption) | refine ao ?_ (fun _=>?_) | refine ar (fun _=>?_) (fun _=>?_))
theorem t97 {b:Nat} (hb:b<64):pP p b=true:=by
 unfold pP
 simp
 omega
theorem t151 {b:Nat} (hb:b<64) (c:Int):qI p b c=true:=by
 unfold qI
 refine ao (t97 hp ht hb) fun _=>ar (fun _=>?_) fun _=>rfl
 simp
 omega
theorem t157 {a b:Nat} (ha:a<64) (hb:b<64):Ba p a b=true:=by
 obtain ⟨c,hc⟩:∃ c:Fin 2,p.aa=c.val:=by
  rcases ht with h | h
  ·exact ⟨0,h⟩
  ·exact ⟨1,h⟩
 obtain ⟨r1,r2,r3,r4,r5,r6⟩:=tO c ⟨a,ha⟩
 simp only at r1 r2 r3 r4 r5 r6
 rw [← hc] at r1 r2 r3 r4 r5 r6
 have wup:wr .i64 ((a:Int)+fb p.aa)=a+fb p.aa:=aF (by omega) (by omega)
 have k1:=t154 hp ht ha hb
 have k2:=t151 hp ht hb (wr IntKind.u8 (1-p.aa))
 have k3:=t97 hp ht hb
 have k4:fP p.aa a≠7→pP p ((a:Int)+fb p.aa)=true:=fun h=>by
  obtain ⟨c1,c2⟩:=r2 h
  obtain ⟨s,hs⟩:=Int.eq_ofNat_of_zero_le c1
  rw [← r3,hs]
  exact t97 hp ht (by omega)
 unfold Ba
 rw [wup,← r1]
 refine ao k1 fun _=>ar (fun _=>ao k2 fun _=>rfl) fun _=>ar (fun _=>ao k3 fun _=>rfl) fun _=>ar (fun h=>?_) fun _=>ar (fun h=>?_) fun _=>rfl
 ·have h1:fP p.aa a=1:=by simpa using h
  have k5:=k4 (by omega)
  exact ar (fun _=>ao k5 fun _=>ar (fun _=>ao k3 fun _=>rfl) fun _=>rfl) fun _=>rfl
 ·have h0:fP p.aa a=0:=by simpa using h
  have k5:=k4 (by omega)
  exact ar (fun _=>ar (fun _=>ar (fun _=>ao k5 fun _=>ar (fun _=>ao k3 fun _=>rfl) fun _=>rfl) fun _=>rfl) fun _=>rfl) fun _=>rfl
theorem t93 {a b:Nat} (ha:a<64) (hb:b<64):FG p a b=true:=by
 have ki:(decide (0≤(a:Int))&&decide ((a:Int)<Int.ofNat 64))=true:=by simp;omega
 have k1:=t154 hp ht ha hb
 have k2:=t151 hp ht ha p.aa
 have k3:=t151 hp ht hb p.aa
 have k4:=t157 hp ht ha hb
 have k5:=t97 hp ht hb
 unfold FG
 repeat' (first | with_reducible rfl | with_reducible exact ki | with_reducible exact k1 | with_reducible exact k2 | with_reducible exact k3 | with_reducible exact k4 | with_reducible exact k5 | refine ao ?_ (fun _=>?_) | refine ar (fun _=>?_) (fun _=>?_))
end
def dO (p:Pos) (a b:Nat):M' :=
 bif !vu p a b then [] else bif bg (p.ae.getD a 0) != 1 then [⟨a,b,0,0,false⟩] else bif qH p.aa b != 7 then [⟨a,b,0,0,false⟩] else (vK p.variant).map fun k=>⟨a,b,k,0,false⟩
theorem td (p:Pos) (a b:Nat):(dO p a b).length≤5:=by
 unfold dO
 refine aq (P:=fun l:M'=>l.length≤5) (fun _=>by simp) fun _=>aq (P:=fun l:M'=>l.length≤5) (fun _=>by simp) fun _=>aq (P:=fun l:M'=>l.length≤5) (fun _=>by simp) fun _=>?_
 rw [List.length_map]
 unfold vK
 exact aq (P:=fun l:List Int=>l.length≤5) (fun _=>by simp) fun _=>aq (P:=fun l:List Int=>l.length≤5) (fun _=>by simp) fun _=>by simp
theorem acd (l:List Int) (p1 p2 p4 p5:Int) (p6:Bool) (p7:Pos) (p8:Nat) (m0:Mv) (out:M') (hl:l.length≤5) (ho:out.length≤1000000) :
  ∃ r,sd p1 p2 l p4 p5 p6 p7 p8 (out,0,m0)=some r∧r.1=out++l.map fun k=>⟨m0.az,m0.to,k,m0.aX,m0.bP⟩:=by
 refine aU (I:=fun x=>0≤x.2.1∧x.2.1≤(l.length:Int)∧x.1=out++(l.take x.2.1.toNat).map (fun k=>(⟨m0.az,m0.to,k,m0.aX,m0.bP⟩:Mv))∧x.2.2.az=m0.az∧x.2.2.to=m0.to∧x.2.2.aX=m0.aX∧x.2.2.bP=m0.bP) (μ:=fun x=>((l.length:Int)-x.2.1).toNat) ?_ _ ⟨by simp,by simp,by simp,rfl,rfl,rfl,rfl⟩ (by simp;omega)
 rintro ⟨o,n,m⟩ ⟨h0,h1,h2,e1,e2,e3,e4⟩
 simp only at h0 h1 h2 e1 e2 e3 e4
 by_cases hc:n<l.length
 ·have hlt:n.toNat<l.length:=by omega
  have hol:o.length≤1000005:=by
   rw [h2];simp;omega
  refine ⟨ar (fun _=>ao (by simp [h0];exact hc) fun _=>?_) fun _=>rfl,aq (fun _=>?_) fun h=>absurd h (by simpa using hc)⟩
  ·simp;omega
  ·rw [aF (n:=n+1) (by omega) (by omega)]
   refine ⟨⟨by show 0≤n+1;omega,by show n+1≤_;omega,?_,e1,e2,e3,e4⟩,by show ((l.length:Int)-(n+1)).toNat<((l.length:Int)-n).toNat;omega⟩
   show o++[_]=out++(l.take (n+1).toNat).map _
   rw [show (n+1).toNat=n.toNat+1 by omega,List.take_succ_eq_append_getElem hlt,List.map_append,h2,List.append_assoc,e1,e2,e3,e4]
   simp only [List.map_cons,List.map_nil]
   rw [List.getD_eq_getElem?_getD,I' hlt]
   rfl
 ·refine ⟨ar (fun h=>absurd h (by simpa using hc)) fun _=>rfl,aq (fun h=>absurd h (by simpa using hc)) fun _=>?_⟩
  show o=_
  rw [h2,List.take_of_length_le (show l.length≤n.toNat by omega)]
theorem kD {α:Type} (g:Nat→List α) (n:Nat):(List.range (n+1)).flatMap g=(List.range n).flatMap g++g n:=by
 rw [List.range_succ,List.flatMap_append]
 simp
theorem dZ {α:Type} (g:Nat→List α) (c:Nat) (h:∀ i,(g i).length≤c):∀ n,((List.range n).flatMap g).length≤c * n
 | 0=>by simp
 | n+1=>by
  rw [kD,List.length_append]
  have:=dZ g c h n
  have:=h n
  rw [Nat.mul_succ]
  omega
noncomputable section
variable {p:Pos} (hp:aA p) (ht:p.aa=0∨p.aa=1)
include hp ht
theorem abW {a:Nat} (ha:a<64) (p3:Nat) (out:M') (ho:out.length≤100000):∃ r,sn a p p3 (out,0)=some r∧r.1=out++(List.range 64).flatMap (dO p a):=by
 refine aU (I:=fun x=>∃ n:Nat,n≤64∧x=(out++(List.range n).flatMap (dO p a),(n:Int))) (μ:=fun x=>(64-x.2).toNat) ?_ _ ⟨0,by omega,by simp⟩ (by simp)
 rintro _ ⟨n,hn,rfl⟩
 have hsc:(scale 1 (a:Int)).toNat=a:=by unfold scale;simp
 have hlen:=dZ (dO p a) 5 (td p a) n
 unfold Dg KZ
 dsimp only
 rw [hsc]
 by_cases hc:n<64
 ·have k175:=t93 hp ht ha hc
  have wa:wr IntKind.i8 (a:Int)=a:=G3 (by omega) (by omega)
  have wn:wr IntKind.i8 (n:Int)=n:=G3 (by omega) (by omega)
  have kl:(decide (0≤(a:Int))&&decide ((a:Int)<Int.ofNat 64))=true:=by simp;omega
  have kap:((out++(List.range n).flatMap (dO p a)).length==(out++(List.range n).flatMap (dO p a)).length&&decide ((out++(List.range n).flatMap (dO p a)).length+1≤1073741824)&&true)=true:=by
   have:(out++(List.range n).flatMap (dO p a)).length≤1000000:=by rw [List.length_append];omega
   generalize (out++(List.range n).flatMap (dO p a)).length=k at this
   simp
   omega
  have h177:(vK p.variant).length≤5:=by
   unfold vK
   exact aq (P:=fun l:List Int=>l.length≤5) (fun _=>by simp) fun _=>aq (P:=fun l:List Int=>l.length≤5) (fun _=>by simp) fun _=>by simp
  have hl:=aK (acd (vK p.variant) a n p.aa (qH p.aa n) (qH p.aa n != 7) p p3 ⟨a,n,0,0,false⟩ (out++(List.range n).flatMap (dO p a)) h177 (by rw [List.length_append];omega))
  rw [wa,wn,aF (n:=(n:Int)+1) (by omega) (by omega)]
  constructor
  ·refine ar (fun _=>ao k175 fun _=>ar (fun _=>rfl) fun _=>ao kl fun _=>ar (fun _=>kap) fun _=>ar (fun _=>kap) fun _=>ao hl.1 fun _=>rfl) fun _=>rfl
  ·have go:∀ l:M',l=out++(List.range n).flatMap (dO p a)++dO p a n→zE (fun x:M'×Int=>∃ n:Nat,n≤64∧x=(out++(List.range n).flatMap (dO p a),(n:Int))) (fun r:M'×Int×Bool=>r.1=out++(List.range 64).flatMap (dO p a)) (fun x=>(64-x.2).toNat) (64-(n:Int)).toNat (.go (l,(n:Int)+1)):=by
    rintro _ rfl
    exact ⟨⟨n+1,by omega,by rw [kD,List.append_assoc];rfl⟩,by show (64-((n:Int)+1)).toNat<_;omega⟩
   refine aq (fun _=>aq (fun h1=>?_) fun h1=>aq (fun h2=>?_) fun h2=>aq (fun h3=>?_) fun h3=>?_) fun h=>absurd h (by simp;omega)
   ·exact go _ (by unfold dO;rw [h1];simp)
   ·exact go _ (by unfold dO;rw [h1,h2];rfl)
   ·exact go _ (by unfold dO;rw [h1,h2,h3];rfl)
   ·exact go _ (by rw [hl.2];unfold dO;rw [h1,h2,h3];rfl)
 ·have e:n=64:=by omega
  subst e
  exact ⟨rfl,rfl⟩
theorem QM (p3:Nat):∃ r,kv p p3 ([],0)=some r∧r.1=(List.range 64).flatMap fun a=>(List.range 64).flatMap (dO p a):=by
 refine aU (I:=fun x=>∃ n:Nat,n≤64∧x=((List.range n).flatMap (fun a=>(List.range 64).flatMap (dO p a)),(n:Int))) (μ:=fun x=>(64-x.2).toNat) ?_ _ ⟨0,by omega,by simp⟩ (by simp)
 rintro _ ⟨n,hn,rfl⟩
 have hlen:=dZ (fun a=>(List.range 64).flatMap (dO p a)) 320 (fun a=>dZ (dO p a) 5 (td p a) 64) n
 unfold EB Mz
 dsimp only
 by_cases hc:n<64
 ·have hl:=aK (abW hp ht hc p3 ((List.range n).flatMap (fun a=>(List.range 64).flatMap (dO p a))) (by omega))
  rw [aF (n:=(n:Int)+1) (by omega) (by omega)]
  constructor
  ·exact ar (fun _=>ao hl.1 fun _=>rfl) fun _=>rfl
  ·refine aq (fun _=>?_) fun h=>absurd h (by simp;omega)
   rw [hl.2]
   exact ⟨⟨n+1,by omega,by rw [kD (fun a=>(List.range 64).flatMap (dO p a)) n];rfl⟩,by show (64-((n:Int)+1)).toNat<_;omega⟩
 ·have e:n=64:=by omega
  subst e
  exact ⟨rfl,rfl⟩
end
theorem gN {α β:Type} (q:α→Bool) (g:α→List β):∀ l:List α,(l.filter q).flatMap g=l.flatMap fun a=>bif q a then g a else []
 | []=>rfl
 | a::l=>by
  rw [List.flatMap_cons,← gN q g l]
  cases h:q a with
  | true=>rw [List.filter_cons_of_pos h];rfl
  | false=>rw [List.filter_cons_of_neg (by simp [h])];rfl
theorem mu {α β γ:Type} (f:α→β) (g:β→List γ):∀ l:List α,(l.map f).flatMap g=l.flatMap fun a=>g (f a)
 | []=>rfl
 | a::l=>by rw [List.map_cons,List.flatMap_cons,List.flatMap_cons,mu f g l]
theorem ij {α β:Type} {g h:α→List β}:∀ {l:List α},(∀ a∈l,g a=h a)→l.flatMap g=l.flatMap h
 | [],_=>rfl
 | a::l,e=>by rw [List.flatMap_cons,List.flatMap_cons,e a (by simp),ij fun b hb=>e b (by simp [hb])]
noncomputable section
variable {p:Pos} (hp:aA p) (ht:there p)
include hp ht
theorem E2 {a b:Nat} (ha:a<64) (hb:b<64):dO p a b=bif (own p).getLsbD a then (bif (gR (p,own p,gU p) a).getLsbD b then vw p a b else []) else []:=by
 have t0:=hp.t0
 have htt:p.aa=0∨p.aa=1:=by have:=ht.1;omega
 cases ho:(own p).getLsbD a with
 | false =>
  have e1:=gJ hp htt htt ha
  rw [show aO p p.aa 0=own p from rfl,ho] at e1
  have:vu p a b=false:=by
   unfold vu
   rw [e1]
   cases (a:Int)==(b:Int)<;>rfl
  unfold dO
  rw [this]
  rfl
 | true =>
  have hm:vu p a b=(gR (p,own p,gU p) a).getLsbD b:=by
   by_cases hk:bg (p.ae.getD a 0)=1
   ·exact JR hp htt ha hb ho hk
   ·exact N5 hp htt ha hb ho hk
  obtain ⟨b0,b1⟩:=eC hp a
  have m91:=(pZ b0 b1).1
  unfold dO vw
  rw [hm,show ((a:Int)).toNat=a by omega,m91]
  obtain ⟨c,hc⟩:∃ c:Fin 2,p.aa=c.val:=by
   rcases htt with h | h
   ·exact ⟨0,h⟩
   ·exact ⟨1,h⟩
  have r1:=(tO c ⟨b,hb⟩).1
  simp only at r1
  rw [← hc] at r1
  rw [r1]
  have hpr:(vK p.variant).map (fun k=>(⟨a,b,k,0,false⟩:Mv))=(jg p.variant).flatMap fun k=>[⟨a,b,k,0,false⟩]:=by
   have v0:=hp.v0
   have v9:=ht.2
   have e:vK p.variant=jg p.variant:=by
    unfold vK jg
    by_cases h4:p.variant=4
    ·rw [h4];rfl
    ·rw [show (p.variant==4)=false by simpa using h4,cond_false]
     by_cases h8:p.variant<8
     ·rw [decide_eq_true h8,cond_true,if_pos ⟨v0,by omega⟩,if_neg h4]
     ·rw [decide_eq_false h8,cond_false,if_neg (by omega)]
   rw [e]
   induction jg p.variant with
   | nil=>rfl
   | cons k l ih=>rw [List.map_cons,List.flatMap_cons,ih];rfl
  rw [hpr]
  cases (gR (p,own p,gU p) a).getLsbD b<;>rfl
theorem KP:LL p=true∧GS p=dz p:=by
 have t0:=hp.t0
 have htt:p.aa=0∨p.aa=1:=by have:=ht.1;omega
 have h34:rX p=true:=by
  unfold rX
  rw [decide_eq_true ht.2,decide_eq_true (show p.aa<2 by have:=ht.1;omega)]
  rfl
 have hl:=aK (QM hp htt 0)
 constructor
 ·unfold LL
  rw [h34]
  exact ao hl.1 fun _=>rfl
 ·unfold GS
  rw [h34,kJ hp.v0 ht]
  show (_:M')=_
  rw [show (bif !true then ([]:M') else ((kv p 0 ([],0)).getD default).1)=((kv p 0 ([],0)).getD default).1 from rfl,hl.2]
  unfold jx
  rw [mu,gN]
  refine ij fun a ha=>?_
  have ha:a<64:=List.mem_range.1 ha
  unfold oq jx
  rw [mu,gN]
  have e:(List.range 64).flatMap (dO p a)=(List.range 64).flatMap fun b=>bif (own p).getLsbD a then (bif (gR (p,own p,gU p) a).getLsbD b then vw p a b else []) else [] :=
   ij fun b hb=>E2 hp ht ha (List.mem_range.1 hb)
  rw [e]
  cases (own p).getLsbD a with
  | true=>rfl
  | false =>
   show (List.range 64).flatMap (fun _=>([]:M'))=[]
   induction List.range 64 with
   | nil=>rfl
   | cons x l ih=>rw [List.flatMap_cons,ih];rfl
end
end Kz
end
noncomputable section
namespace Kz
open Go Go.RowKit Go.Proofs
def K55:KT:=[(55,61,[(0,(1::10::11::12::(rn 22 8 (rn 40 10 [])))),(1,(1::3::10::11::12::(rn 22 8 (rn 40 10 [])))),(2,(1::3::13::(rn 22 8 (rn 40 10 [])))),(3,[2]),(4,(1::3::4::(rn 22 8 (rn 40 10 [])))),(5,(1::3::4::16::(rn 22 8 (rn 40 10 [])))),(6,(1::3::4::(rn 22 8 (rn 40 10 [])))),(7,(1::3::4::5::(rn 22 8 (rn 40 10 [])))),(8,(1::3::4::5::(rn 22 9 (rn 40 10 [])))),(9,(1::3::4::5::(rn 22 8 (rn 40 10 [])))),(10,(1::3::4::5::(rn 22 8 (rn 40 11 [])))),(11,(1::3::4::5::(rn 22 8 (rn 40 10 [])))),(12,[2])])]
def ab4:aw:=bO Pz K55 [(82,mV)] [] []
theorem Wl:aW ab4:=aj ak ⟨nm,trivial⟩ trivial trivial
def SG (p1:Int) (p2:Pos) (p3:Nat) (x:(M'×Int)):St:=St.mk (.any::.ptr 0 0::.any::.list .mv x.1 (.own 1)::.int .u8 p1::.int .i64 x.2::(an 55 [])) (Hp.mk [(pc p2 [])] [p3,x.1.length] [] 0 0 0)
def RJ (p1:Int) (p2:Pos) (p3:Nat):(M'×Int×Bool)→Out:=fun y=>.exit 2 (St.mk (.any::.ptr 0 0::.any::.list .mv y.1 (.own 1)::.int .u8 p1::.int .i64 y.2.1::(an 24 (.bool y.2.2::(an 30 [])))) (Hp.mk [(pc p2 [])] [p3,y.1.length] [] 0 0 0))
def tx (p1:Int) (p2:Pos) (p3:Nat) (x:(M'×Int)):aG (M'×Int) ((M'×Int×Bool)):=(bif decide (x.2<64) then (bif decide (p2.af.getD (scale 6 p2.aa+scale 1 p1).toNat 0>0) then (bif bg (p2.ae.getD (scale 1 x.2).toNat 0) != 0 then (aG.go (x.1,wr .i64 (x.2+1))) else (bif p1==1 then (bif decide (x.2<8) then (aG.go (x.1,wr .i64 (x.2+1))) else (bif decide (x.2>55) then (aG.go (x.1,wr .i64 (x.2+1))) else (aG.go (x.1++[Mv.mk (wr .i8 x.2) (wr .i8 x.2) 0 p1 false],wr .i64 (x.2+1))))) else (aG.go (x.1++[Mv.mk (wr .i8 x.2) (wr .i8 x.2) 0 p1 false],wr .i64 (x.2+1))))) else (aG.out ((x.1,x.2,decide (p2.af.getD (scale 6 p2.aa+scale 1 p1).toNat 0>0))))) else (aG.out ((x.1,x.2,false))))
def nS (p1:Int) (p2:Pos) (p3:Nat) (x:(M'×Int)):Bool:=(bif decide (x.2<64) then (decide (0≤p2.aa)&&decide (p2.aa<Int.ofNat 2)&&(decide (0≤p1)&&decide (p1<Int.ofNat 6)&&(bif decide (p2.af.getD (scale 6 p2.aa+scale 1 p1).toNat 0>0) then (decide (0≤x.2)&&decide (x.2<Int.ofNat 64)&&(bif bg (p2.ae.getD (scale 1 x.2).toNat 0) != 0 then true else (bif p1==1 then (bif decide (x.2<8) then true else (bif decide (x.2>55) then true else (x.1.length==x.1.length&&decide (x.1.length+1≤1073741824)&&true))) else (x.1.length==x.1.length&&decide (x.1.length+1≤1073741824)&&true)))) else true))) else true)
def sO (p1:Int) (p2:Pos) (p3:Nat) (x:(M'×Int)):Option ((M'×Int×Bool)):=cO (fun x=>bif nS p1 p2 p3 x then tx p1 p2 p3 x else .bad) many x
abbrev Sc {α:Type} (k:Int→Pos→Nat→(M'×Int)→α) (s:St):α:=wP s 0 fun q0=>k (tI (tT s 4)) q0 (tK s 0) ((tL (ET.mv) (tT s 3)),(tI (tT s 5)))
theorem Yo (p1:Int) (p2:Pos) (p3:Nat) (x:(M'×Int)) (r:(M'×Int×Bool)) (h:sO p1 p2 p3 x=some r):ay Pz (aT Pz 55 8) (SG p1 p2 p3 x) (RJ p1 p2 p3 r):=smq (m:=12) (fn:=55) Wl (Sc fun _ _ _ x=>some x) (fun o=>match o with | .exit 2 s=>some ((tL ET.mv (tT s 3)),(tI (tT s 5)),(tB (tT s 30))) | _=>none) many x r h
def LO (b:Code) (s:St):Tr Out:=Sc (fun p1 p2 p3 x=>lq b (aT Pz 55 8) s (SG p1 p2 p3 x) (sO p1 p2 p3 x) (RJ p1 p2 p3)) s
theorem L9:∀ b,aM Pz b (LO b):=fun _ _ _ h=>bK (Yo _ _ _ _) h
def ach:aw:=bO Pz K55 [(82,mV)] [(55,8,LO)] []
theorem V6:aW ach:=aj ak ⟨nm,trivial⟩ ⟨L9,trivial⟩ trivial
def RP (p1:Pos) (p2:Nat) (x:(M'×Int)):St:=St.mk (.any::.ptr 0 0::.any::.list .mv x.1 (.own 1)::.int .u8 x.2::(an 56 [])) (Hp.mk [(pc p1 [])] [p2,x.1.length] [] 0 0 0)
def QD (p1:Pos) (p2:Nat):(M'×Int×Bool)→Out:=fun y=>.exit 0 (St.mk (.any::.ptr 0 0::.any::.list .mv y.1 (.own 1)::.int .u8 y.2.1::(an 11 (.bool y.2.2::(an 44 [])))) (Hp.mk [(pc p1 [])] [p2,y.1.length] [] 0 0 0))
def Lf (p1:Pos) (p2:Nat) (x:(M'×Int)):aG (M'×Int) ((M'×Int×Bool)):=(bif decide (x.2≤5) then (aG.go (((sO x.2 p1 p2 (x.1,0)).getD default).1,wr .u8 (x.2+1))) else (aG.out ((x.1,x.2,decide (x.2≤5)))))
def EA (p1:Pos) (p2:Nat) (x:(M'×Int)):Bool:=(bif decide (x.2≤5) then ((sO x.2 p1 p2 (x.1,0)).isSome&&true) else true)
def qg (p1:Pos) (p2:Nat) (x:(M'×Int)):Option ((M'×Int×Bool)):=cO (fun x=>bif EA p1 p2 x then Lf p1 p2 x else .bad) many x
abbrev Sd {α:Type} (k:Pos→Nat→(M'×Int)→α) (s:St):α:=wP s 0 fun q0=>k q0 (tK s 0) ((tL (ET.mv) (tT s 3)),(tI (tT s 4)))
theorem X0 (p1:Pos) (p2:Nat) (x:(M'×Int)) (r:(M'×Int×Bool)) (h:qg p1 p2 x=some r):ay Pz (aT Pz 55 5) (RP p1 p2 x) (QD p1 p2 r):=smq (m:=12) (fn:=55) V6 (Sd fun _ _ x=>some x) (fun o=>match o with | .exit 0 s=>some ((tL ET.mv (tT s 3)),(tI (tT s 4)),(tB (tT s 16))) | _=>none) many x r h
def Qu (b:Code) (s:St):Tr Out:=Sd (fun p1 p2 x=>lq b (aT Pz 55 5) s (RP p1 p2 x) (qg p1 p2 x) (QD p1 p2)) s
theorem Vr:∀ b,aM Pz b (Qu b):=fun _ _ _ h=>bK (X0 _ _ _) h
def B55:aw:=bO Pz K55 [(82,mV)] [(55,8,LO),(55,5,Qu)] []
theorem adM:aW B55:=aj ak ⟨nm,trivial⟩ ⟨L9,Vr,trivial⟩ trivial
def WB (a:Pos):M':=(bif decide (a.aa>1) then ([]) else (bif a.variant != 2 then ([]) else (((qg a 0 ([],1)).getD default).1)))
def HM (a:Pos):Bool:=(bif decide (a.aa>1) then true else (bif a.variant != 2 then true else ((qg a 0 ([],1)).isSome&&true)))
theorem P55 (a:Pos) (h:HM a=true):PS Pz 55 [Pos.av a] ((dL .mv).res (WB a)):=pq14 adM h
def G55:GT:=g1 aY (fun a=>cp (HM a) ((dL .mv).res (WB a)))
theorem s55:Sound Pz 55 G55:=aH fun a=>aC (P55 a)
end Kz
end
noncomputable section
namespace Kz
open Go Go.RowKit
def jO (s:Nat):Bool:=decide (s<8) || decide (s>55)
def dQ (p:Pos) (k:Int) (s:Nat):M':=bif bg (p.ae.getD s 0) != 0 then [] else bif k==1 then (bif jO s then [] else [⟨s,s,0,k,false⟩]) else [⟨s,s,0,k,false⟩]
def fe (p:Pos) (k:Int):M':=bif decide (p.af.getD (scale 6 p.aa+scale 1 k).toNat 0>0) then (List.range 64).flatMap (dQ p k) else []
theorem vI (p:Pos) (k:Int) (s:Nat):(dQ p k s).length≤1:=by
 unfold dQ
 exact aq (P:=fun l:M'=>l.length≤1) (fun _=>by simp) fun _=>aq (P:=fun l:M'=>l.length≤1) (fun _=>aq (P:=fun l:M'=>l.length≤1) (fun _=>by simp) fun _=>by simp) fun _=>by simp
noncomputable section
variable {p:Pos} (hp:aA p) (ht:p.aa≤1)
include hp ht
theorem abd {k:Int} (k0:0≤k) (k1:k≤5) (p3:Nat) (out:M') (ho:out.length≤100000):∃ r,sO k p p3 (out,0)=some r∧r.1=out++fe p k:=by
 have t0:=hp.t0
 unfold fe
 cases hpk:decide (p.af.getD (scale 6 p.aa+scale 1 k).toNat 0>0) with
 | false =>
  have e:cO (fun x=>bif nS k p p3 x then tx k p p3 x else .bad) 1 (out,0)=some (out,0,false):=by
   rw [cO]
   have:(bif nS k p p3 (out,0) then tx k p p3 (out,0) else .bad)=.out (out,0,false):=by
    unfold nS tx
    dsimp only
    rw [hpk,show (decide (0≤p.aa)&&decide (p.aa<Int.ofNat 2))=true by simp;omega,show (decide (0≤k)&&decide (k<Int.ofNat 6))=true by simp;omega]
    rfl
   rw [this]
  exact ⟨_,jC _ many _ _ (by unfold many;omega) e,by simp⟩
 | true =>
  rw [cond_true]
  refine aU (I:=fun x=>∃ n:Nat,n≤64∧x=(out++(List.range n).flatMap (dQ p k),(n:Int))) (μ:=fun x=>(64-x.2).toNat) ?_ _ ⟨0,by omega,by simp⟩ (by simp)
  rintro _ ⟨n,hn,rfl⟩
  have hsc:(scale 1 (n:Int)).toNat=n:=by unfold scale;simp
  have hlen:=dZ (dQ p k) 1 (vI p k) n
  unfold nS tx
  dsimp only
  rw [hsc,hpk]
  by_cases hc:n<64
  ·have wn:wr IntKind.i8 (n:Int)=n:=G3 (by omega) (by omega)
   have kt:(decide (0≤p.aa)&&decide (p.aa<Int.ofNat 2))=true:=by simp;omega
   have kk:(decide (0≤k)&&decide (k<Int.ofNat 6))=true:=by simp;omega
   have kn:(decide (0≤(n:Int))&&decide ((n:Int)<Int.ofNat 64))=true:=by simp;omega
   have kap:((out++(List.range n).flatMap (dQ p k)).length==(out++(List.range n).flatMap (dQ p k)).length&&decide ((out++(List.range n).flatMap (dQ p k)).length+1≤1073741824)&&true)=true:=by
    have:(out++(List.range n).flatMap (dQ p k)).length≤1000000:=by rw [List.length_append];omega
    generalize (out++(List.range n).flatMap (dQ p k)).length=q at this
    simp
    omega
   rw [wn,aF (n:=(n:Int)+1) (by omega) (by omega),show decide ((n:Int)<8)=decide (n<8) by rw [decide_eq_decide];omega,show decide ((n:Int)>55)=decide (n>55) by rw [decide_eq_decide];omega]
   constructor
   ·refine ar (fun _=>ao kt fun _=>ao kk fun _=>ar (fun _=>ao kn fun _=>ar (fun _=>rfl) fun _=>ar (fun _=>ar (fun _=>rfl) fun _=>ar (fun _=>rfl) fun _=>kap) fun _=>kap) fun _=>rfl) fun _=>rfl
   ·have go:∀ l:M',l=out++(List.range n).flatMap (dQ p k)++dQ p k n→zE (fun x:M'×Int=>∃ n:Nat,n≤64∧x=(out++(List.range n).flatMap (dQ p k),(n:Int))) (fun r:M'×Int×Bool=>r.1=out++(List.range 64).flatMap (dQ p k)) (fun x=>(64-x.2).toNat) (64-(n:Int)).toNat (.go (l,(n:Int)+1)):=by
     rintro _ rfl
     exact ⟨⟨n+1,by omega,by rw [kD (dQ p k) n,List.append_assoc];rfl⟩,by show (64-((n:Int)+1)).toNat<_;omega⟩
    refine aq (fun _=>?_) fun h=>absurd h (by simp;omega)
    rw [cond_true]
    refine aq (fun h1=>?_) fun h1=>aq (fun h2=>aq (fun h3=>?_) fun h3=>aq (fun h4=>?_) fun h4=>?_) fun h2=>?_
    ·exact go _ (by unfold dQ;rw [h1];simp)
    ·exact go _ (by unfold dQ jO;rw [h1,h2,h3];simp)
    ·exact go _ (by unfold dQ jO;rw [h1,h2,h3,h4];simp)
    ·exact go _ (by unfold dQ jO;rw [h1,h2,h3,h4];rfl)
    ·exact go _ (by unfold dQ;rw [h1,h2];rfl)
  ·have e:n=64:=by omega
   subst e
   exact ⟨rfl,rfl⟩
theorem Cp (k:Int):(fe p k).length≤64:=by
 unfold fe
 refine aq (P:=fun l:M'=>l.length≤64) (fun _=>?_) fun _=>by simp
 have:=dZ (dQ p k) 1 (vI p k) 64
 omega
theorem abC:∃ r,qg p 0 ([],1)=some r∧r.1=[1,2,3,4,5].flatMap (fe p):=by
 refine aU (I:=fun x=>∃ n:Nat,n≤5∧x=(([1,2,3,4,5].take n).flatMap (fe p),(n:Int)+1)) (μ:=fun x=>(6-x.2).toNat) ?_ _ ⟨0,by omega,rfl⟩ (by simp)
 rintro _ ⟨n,hn,rfl⟩
 have hlen:=hY (([1,2,3,4,5]:List Int).take n) (fe p) 64 fun k _=>Cp hp ht k
 have htl:(([1,2,3,4,5]:List Int).take n).length≤5:=by rw [List.length_take];simp;omega
 unfold EA Lf
 dsimp only
 by_cases hc:n<5
 ·have hl:=aK (abd hp ht (k:=(n:Int)+1) (by omega) (by omega) 0 ((([1,2,3,4,5]:List Int).take n).flatMap (fe p)) (by omega))
  rw [ni (n:=(n:Int)+1+1) (by omega) (by omega)]
  constructor
  ·exact ar (fun _=>ao hl.1 fun _=>rfl) fun _=>rfl
  ·refine aq (fun _=>?_) fun h=>absurd h (by simp;omega)
   rw [hl.2]
   refine ⟨⟨n+1,by omega,?_⟩,by show (6-((n:Int)+1+1)).toNat<(6-((n:Int)+1)).toNat;omega⟩
   have:(([1,2,3,4,5]:List Int).take (n+1)).flatMap (fe p)=(([1,2,3,4,5]:List Int).take n).flatMap (fe p)++fe p ((n:Int)+1):=by
    have h5:n=0∨n=1∨n=2∨n=3∨n=4:=by omega
    rcases h5 with rfl | rfl | rfl | rfl | rfl<;>simp
   rw [this]
   rfl
 ·have e:n=5:=by omega
  subst e
  exact ⟨rfl,rfl⟩
end
theorem T2:∀ v:Fin 256,gQ v.val=!(bg v.val==0):=by decide +kernel
theorem LS {v:Int} (h0:0≤v) (h1:v≤255):gQ v=!(bg v==0):=by
 obtain ⟨n,rfl⟩:=Int.eq_ofNat_of_zero_le h0
 exact T2 ⟨n,by omega⟩
theorem JZ:∀ s:Fin 64,(72057594037927680#64).getLsbD s.val=!jO s.val:=by decide +kernel
theorem uD {p:Pos} (hp:aA p) (k:Int):fe p k=eO p k:=by
 have hk:0≤p.af.getD (scale 6 p.aa+scale 1 k).toNat 0:=(gu hp.k0 (by omega) _).1
 have bit:∀ s,s<64→(~~~bh p).getLsbD s=(bg (p.ae.getD s 0)==0):=fun s hs=>by
  obtain ⟨b0,b1⟩:=eC hp s
  rw [BitVec.getLsbD_not,ly _ hs,(LS b0 b1)]
  simp [hs]
 unfold fe eO
 generalize p.af.getD (scale 6 p.aa+scale 1 k).toNat 0=v at hk
 by_cases h0:v=0
 ·rw [h0];rfl
 ·rw [show decide (v>0)=true by simp;omega,show (v==0)=false by simpa using h0,cond_true,cond_false]
  unfold jx
  rw [mu,gN,mu,gN]
  by_cases h1:(k==1)=true
  ·rw [h1,cond_true]
   refine ij fun s hs=>?_
   have hs:s<64:=List.mem_range.1 hs
   rw [BitVec.getLsbD_and,bit s hs,JZ ⟨s,hs⟩]
   unfold dQ
   rw [h1]
   cases hz:bg (p.ae.getD s 0)==0
   ·rw [show (bg (p.ae.getD s 0) != 0)=true by simpa using hz];rfl
   ·rw [show (bg (p.ae.getD s 0) != 0)=false by simpa using hz]
    cases jO s<;>rfl
  ·rw [show (k==1)=false by simpa using h1,cond_false]
   refine ij fun s hs=>?_
   have hs:s<64:=List.mem_range.1 hs
   rw [bit s hs]
   unfold dQ
   rw [show (k==1)=false by simpa using h1]
   cases hz:bg (p.ae.getD s 0)==0
   ·rw [show (bg (p.ae.getD s 0) != 0)=true by simpa using hz];rfl
   ·rw [show (bg (p.ae.getD s 0) != 0)=false by simpa using hz];rfl
theorem Tg {p:Pos} (hp:aA p):HM p=true∧WB p=mb p:=by
 rw [oC hp.t0]
 unfold HM WB
 by_cases ht:p.aa≤1
 ·rw [show decide (p.aa>1)=false by simp;omega]
  have hl:=aK (abC hp ht)
  have h112:ry p.variant=(p.variant==2):=by
   have v0:=hp.v0
   unfold ry
   by_cases h2:p.variant=2
   ·rw [h2];rfl
   ·rw [show (p.variant==2)=false by simpa using h2]
    cases decide (p.variant≥9)<;>cases p.variant==0<;>cases p.variant==1<;>cases p.variant==3<;>cases p.variant==4<;>cases p.variant==5<;>cases p.variant==6<;>cases p.variant==7<;>rfl
  rw [h112]
  by_cases h2:p.variant=2
  ·rw [show (p.variant != 2)=false by simp [h2],show (p.variant==2)=true by simp [h2]]
   refine ⟨ao hl.1 fun _=>rfl,?_⟩
   show ((qg p 0 ([],1)).getD default).1=[1,2,3,4,5].flatMap (eO p)
   rw [hl.2,show fe p=eO p from funext fun k=>uD hp k]
  ·rw [show (p.variant != 2)=true by simpa using h2,show (p.variant==2)=false by simpa using h2]
   exact ⟨rfl,rfl⟩
 ·rw [show decide (p.aa>1)=true by simp;omega]
  exact ⟨rfl,rfl⟩
end Kz
end
noncomputable section
namespace Kz
open Go Go.RowKit Go.Proofs
def Kq (k:Int) (f t:Nat):Bool:=cm k 0 f t true || cm k 0 f t false
def vf (c:Int) (f t:Nat):Bool:=cm 1 c f t false || ((t:Int)==f+fb c) || ((t:Int)==f+2 * fb c)
theorem Kk:∀ (k:Fin 7) (f:Fin 64),((List.range 64).filter (Kq k.val f.val)).length≤27∨k.val=1:=by decide +kernel
theorem zX:∀ (c:Fin 2) (f:Fin 64),((List.range 64).filter (vf c.val f.val)).length≤4:=by decide +kernel
theorem N0 (c f t:Int) (b:Bool):cm 1 c f t b=cm 1 c f t false:=rfl
theorem jK {α β:Type} (g:α→List β) (q:α→Bool) (c:Nat):∀ l:List α,(∀ a∈l,(g a).length≤bif q a then c else 0)→(l.flatMap g).length≤c * (l.filter q).length
 | [],_=>by simp
 | a::l,h=>by
  have h1:=jK g q c l fun x hx=>h x (by simp [hx])
  have h2:=h a (by simp)
  rw [List.flatMap_cons,List.length_append,List.filter_cons]
  cases hq:q a with
  | true =>
   rw [hq,cond_true] at h2
   rw [if_pos rfl,List.length_cons,Nat.mul_add]
   omega
  | false =>
   rw [hq,cond_false] at h2
   rw [if_neg (by simp)]
   omega
variable {p:Pos}
theorem YN {c:Int} (hc:c=0∨c=1) : -8≤fb c∧fb c≤8:=by
 rcases hc with rfl | rfl<;>exact ⟨by decide +kernel,by decide +kernel⟩
theorem yl (ht:p.aa=0∨p.aa=1) {f t:Nat} (hf:f<64) (h64:t<64) (h:vu p f t=true):il p f p.aa=true∧(bg (p.ae.getD f 0)=1→vf p.aa f t=true)∧(bg (p.ae.getD f 0)≠1→Kq (bg (p.ae.getD f 0)) f t=true):=by
 obtain ⟨d0,d1⟩:=YN ht
 unfold vu at h
 rw [dh,Int.toNat_natCast] at h
 revert h
 cases ((f:Int)==(t:Int)) with
 | true=>intro h;cases h
 | false =>
  cases hA:il p f p.aa with
  | false=>intro h;cases h
  | true =>
   cases il p t p.aa with
   | true=>intro h;cases h
   | false =>
    simp only [cond_false,Bool.not_true]
    have hcol:kN (p.ae.getD f 0)=p.aa:=by
     unfold il at hA
     rw [dh,Int.toNat_natCast] at hA
     revert hA
     cases !vA ⟨p.variant,p.ae,p.ab,p.af,p.aa,p.ai,p.ah,p.ag,p.half,p.full⟩ f with
     | false=>intro h;cases h
     | true=>intro h;exact beq_iff_eq.1 h
    have e170:jX p f t=cm (bg (p.ae.getD f 0)) (kN (p.ae.getD f 0)) f t (cU p f t):=by
     have:=om p f t
     rw [dh,Int.toNat_natCast] at this
     exact this
    cases hk:(bg (p.ae.getD f 0)==1) with
    | true =>
     rw [cond_true]
     intro h
     refine ⟨trivial,fun _=>?_,fun hn=>absurd (beq_iff_eq.1 hk) hn⟩
     have cap:jX p f t=true→vf p.aa f t=true:=fun h=>by
      rw [e170,beq_iff_eq.1 hk,hcol,N0] at h
      unfold vf
      rw [h];rfl
     have one:((t:Int)==wr .i64 (f+fb p.aa))=true→vf p.aa f t=true:=fun h=>by
      rw [aF (by omega) (by omega)] at h
      unfold vf
      rw [h];simp
     have two:((t:Int)==wr .i64 (f+wr .i64 (2 * fb p.aa)))=true→vf p.aa f t=true:=fun h=>by
      rw [aF (n:=2 * fb p.aa) (by omega) (by omega),aF (by omega) (by omega)] at h
      unfold vf
      rw [h];simp
     unfold GQ at h
     revert h
     cases h1:jX p f t with
     | true=>exact fun _=>cap h1
     | false =>
      cases h2:((t:Int)==wr .i64 (f+fb p.aa)) with
      | true=>exact fun _=>one h2
      | false =>
       cases h3:((t:Int)==wr .i64 (f+wr .i64 (2 * fb p.aa))) with
       | true=>exact fun _=>two h3
       | false =>
        intro h
        simp only [cond_false] at h
        revert h
        cases (qH p.aa f==1)<;>cases (qH p.aa f==0)<;>cases (p.variant==7)<;>intro h<;>cases h
    | false =>
     rw [cond_false]
     have hk1:bg (p.ae.getD f 0)≠1:=by simpa using hk
     intro h
     refine ⟨trivial,fun e=>absurd e hk1,fun _=>?_⟩
     have h170:jX p f t=true:=by
      revert h
      cases (bg (p.ae.getD f 0)==6) with
      | false=>exact id
      | true =>
       cases jX p f t with
       | true=>exact fun _=>rfl
       | false=>intro h;cases h
     rw [e170,iC hk] at h170
     unfold Kq
     revert h170
     cases cU p f t with
     | true=>intro h;rw [h];rfl
     | false=>intro h;rw [h];simp
theorem U4 (hp:aA p) (ht:p.aa=0∨p.aa=1) {a:Nat} (ha:a<64):((List.range 64).flatMap (dO p a)).length≤bif il p a p.aa then 27 else 0:=by
 have hb:0≤p.ae.getD a 0∧p.ae.getD a 0≤255:=gu hp.b0 (by omega) a
 have hkd:=(pZ hb.1 hb.2).2.2.2.2
 cases hN:il p a p.aa with
 | false =>
  have h:=jK (dO p a) (fun _=>false) 0 (List.range 64) fun t hx=>by
   have h64:=List.mem_range.1 hx
   unfold dO
   cases h:vu p a t with
   | false=>exact Nat.le_refl _
   | true =>
    have:=(yl ht ha h64 h).1
    rw [hN] at this
    cases this
  rw [cond_false]
  omega
 | true =>
  rw [cond_true]
  by_cases hk:bg (p.ae.getD a 0)=1
  ·have h:=jK (dO p a) (vf p.aa a) 5 (List.range 64) fun t hx=>by
    have h64:=List.mem_range.1 hx
    have l5:=td p a t
    cases h:vu p a t with
    | false =>
     unfold dO
     rw [h]
     exact Nat.zero_le _
    | true =>
     rw [(yl ht ha h64 h).2.1 hk]
     exact l5
   have hf:((List.range 64).filter (vf p.aa a)).length≤4:=by
    rcases ht with e | e<;>rw [e]
    ·exact zX ⟨0,by omega⟩ ⟨a,ha⟩
    ·exact zX ⟨1,by omega⟩ ⟨a,ha⟩
   omega
  ·obtain ⟨k,hk0⟩:∃ k:Nat,bg (p.ae.getD a 0)=(k:Int)∧k<7:=⟨(bg (p.ae.getD a 0)).toNat,by omega,by omega⟩
   have h:=jK (dO p a) (Kq (bg (p.ae.getD a 0)) a) 1 (List.range 64) fun t hx=>by
    have h64:=List.mem_range.1 hx
    unfold dO
    cases h:vu p a t with
    | false=>exact Nat.zero_le _
    | true =>
     rw [(yl ht ha h64 h).2.2 hk,show (bg (p.ae.getD a 0) != 1)=true from bne_iff_ne.2 hk]
     exact Nat.le_refl _
   have hf:((List.range 64).filter (Kq (bg (p.ae.getD a 0)) a)).length≤27:=by
    rw [hk0.1]
    rcases Kk ⟨k,hk0.2⟩ ⟨a,ha⟩ with h | h
    ·exact h
    ·exact absurd (by rw [hk0.1];exact congrArg _ h) hk
   omega
variable {p:Pos}
def rp (p:Pos) (c:Int):Nat:=((List.range 64).filter fun a:Nat=>il p a c).length
def zS (p:Pos):Nat:=((List.range 64).filter fun a:Nat=>bg (p.ae.getD a 0)==0).length
theorem zt {α:Type} (f g h:α→Bool) (hd:∀ a,(f a).toNat+(g a).toNat+(h a).toNat≤1):∀ l:List α,(l.filter f).length+(l.filter g).length+(l.filter h).length≤l.length
 | []=>by simp
 | a::l=>by
  have h1:=zt f g h hd l
  have h2:=hd a
  simp only [List.filter_cons,List.length_cons]
  cases hf:f a<;>cases hg:g a<;>cases hh:h a<;>rw [hf,hg,hh] at h2<;>simp at h2 ⊢ <;> omega
theorem Ee {a:Nat} (ha:a<64) (hp:aA p) (ht:p.aa=0∨p.aa=1):vA p a=(bg (p.ae.getD a 0)==0):=by
 have h1:=rW hp ht ha
 have h2:=nY hp ht ha
 rw [h1]
 cases hx:(own p|||gU p).getLsbD a with
 | false=>rw [beq_iff_eq.2 (h2.1 hx)];rfl
 | true =>
  rw [beq_eq_false_iff_ne.2 fun e=>by rw [h2.2 e] at hx;cases hx]
  rfl
theorem oT (a:Nat) (c:Int):il p a c=(bif !vA p a then kN (p.ae.getD a 0)==c else false):=by
 unfold il
 rw [dh,Int.toNat_natCast]
theorem DP (hp:aA p) (ht:p.aa=0∨p.aa=1):rp p p.aa+rp p (1-p.aa)+zS p≤64:=by
 have h:=zt (fun a:Nat=>il p a p.aa&&decide (a<64)) (fun a:Nat=>il p a (1-p.aa)&&decide (a<64)) (fun a:Nat=>(bg (p.ae.getD a 0)==0)&&decide (a<64)) (fun a=>by
  by_cases ha:a<64
  ·rw [decide_eq_true ha,Bool.and_true,Bool.and_true,Bool.and_true,oT,oT,Ee ha hp ht]
   cases (bg (p.ae.getD a 0)==0) with
   | true=>exact Nat.le_refl 1
   | false =>
    rw [Bool.not_false,cond_true,cond_true]
    by_cases h1:kN (p.ae.getD a 0)=p.aa
    ·rw [beq_iff_eq.2 h1,beq_eq_false_iff_ne.2 (show kN (p.ae.getD a 0)≠1-p.aa by omega)]
     decide
    ·rw [beq_eq_false_iff_ne.2 h1]
     cases (kN (p.ae.getD a 0)==1-p.aa)<;>decide
  ·rw [decide_eq_false ha,Bool.and_false,Bool.and_false,Bool.and_false]
   decide) (List.range 64)
 have e:∀ f:Nat→Bool,(List.range 64).filter (fun a=>f a&&decide (a<64))=(List.range 64).filter f:=fun f=>List.filter_congr fun a ha=>by
  rw [decide_eq_true (List.mem_range.1 ha),Bool.and_true]
 rw [e,e,e,List.length_range] at h
 exact h
theorem GU (hp:aA p) (ht:there p):(dz p).length≤27 * rp p p.aa:=by
 have t0:=hp.t0
 have htt:p.aa=0∨p.aa=1:=by have:=ht.1;omega
 have h34:rX p=true:=by
  unfold rX
  rw [decide_eq_true ht.2,decide_eq_true (show p.aa<2 by have:=ht.1;omega)]
  rfl
 have hl:=aK (QM hp htt 0)
 rw [← (KP hp ht).2]
 unfold GS
 rw [h34,show (bif !true then ([]:M') else ((kv p 0 ([],0)).getD default).1)=((kv p 0 ([],0)).getD default).1 from rfl,hl.2]
 exact jK _ (fun a:Nat=>il p a p.aa) 27 _ fun a ha=>U4 hp htt (List.mem_range.1 ha)
theorem BU (hp:aA p):(mb p).length≤5 * zS p:=by
 have one:∀ k,(eO p k).length≤zS p:=fun k=>by
  rw [← uD hp k]
  unfold fe
  refine aq (P:=fun l:M'=>l.length≤zS p) (fun _=>?_) fun _=>Nat.zero_le _
  have h:=jK (dQ p k) (fun a:Nat=>bg (p.ae.getD a 0)==0) 1 (List.range 64) fun a ha=>by
   unfold dQ bne
   cases (bg (p.ae.getD a 0)==0) with
   | false=>exact Nat.le_refl _
   | true =>
    rw [Bool.not_true,cond_false,cond_true]
    refine aq (P:=fun l:M'=>l.length≤1) (fun _=>aq (P:=fun l:M'=>l.length≤1) (fun _=>Nat.zero_le _) fun _=>Nat.le_refl _) fun _=>Nat.le_refl _
  unfold zS
  omega
 rw [oC hp.t0]
 refine aq (P:=fun l:M'=>l.length≤5 * zS p) (fun _=>Nat.zero_le _) fun _=>?_
 refine aq (P:=fun l:M'=>l.length≤5 * zS p) (fun _=>Nat.zero_le _) fun _=>?_
 have h1:=one 1
 have h2:=one 2
 have h3:=one 3
 have h4:=one 4
 have h5:=one 5
 simp only [List.flatMap_cons,List.flatMap_nil,List.length_append,List.length_nil]
 omega
theorem Hm (hp:aA p) (ht:there p):(b8 p).length≤27 * rp p p.aa+5 * zS p+2:=by
 have h1:=GU hp ht
 have h2:=BU hp
 have h3:(dJ p).length≤2:=by
  unfold dJ
  repeat' (first | exact Nat.zero_le _ | exact Nat.le_refl _ | exact (by decide:(1:Nat)≤2) | refine aq (P:=fun l:M'=>l.length≤2) (fun _=>?_) (fun _=>?_))
 rw [kh,List.length_append,List.length_append]
 omega
def afr:KT:=[]
def abU:aw:=bO Pz afr [] [] []
theorem X7:aW abU:=aj ak trivial trivial trivial
def V57:AV:=AV.agg [AV.nilfunc,AV.nilfunc,AV.nilfunc,AV.func 182 [] [],AV.func 186 [] [],AV.func 183 [] [],AV.func 184 [] [],AV.func 185 [] [],AV.func 187 [] []]
def XA:Bool:=true
theorem afn:db abU 14 119 []=Tr.ret V57:=by kernel_rfl
theorem af8 (_:XA=true):PS Pz 119 [] V57:=qf X7 (by rw [afn];rfl)
def Z3:GT:=g0 (.ret V57)
theorem afa:Sound Pz 119 Z3:=pN (bV (af8 rfl))
def ajn:KT:=[(121,9,[(0,[1,2]),(1,[4])])]
def ah6:aw:=bO Pz ajn [(145,ll)] [] []
theorem Z8:aW ah6:=aj ak ⟨lX,trivial⟩ trivial trivial
def pY (a:Pos) (b:Int):Bool:=(decide (aZ a b 6≥0))
def sv (a:Pos) (b:Int):Bool:=(iW (a) (b) (6)&&true)
theorem aiC (a:Pos) (b:Int) (h:sv a b=true):PS Pz 121 [Pos.av a,.int .u8 b] (dB.res (pY a b)):=pq14 Z8 h
def JS:GT:=g2 aY (dI .u8) (fun a b=>cp (sv a b) (dB.res (pY a b)))
theorem MO:Sound Pz 121 JS:=bb fun a b=>aC (aiC a b)
def afP:KT:=[(229,9,[(0,[0,1,4]),(1,[4])])]
def afO:aw:=bO Pz afP [] [] []
theorem ZG:aW afO:=aj ak trivial trivial trivial
def cY (a:Int) (b:Int):(Int×Int):=⟨(wr .u8 (1+a)),(b)⟩
def YM (a:Int) (b:Int):Bool:=true
theorem afD (a:Int) (b:Int) (h:YM a b=true):PS Pz 229 [.int .u8 a,.int .u8 b] ((dR .u8 .u8).res (cY a b)):=pq14 ZG h
def Bo:GT:=g2 (dI .u8) (dI .u8) (fun a b=>.ret ((dR .u8 .u8).res (cY a b)))
theorem Ch:Sound Pz 229 Bo:=bb fun a b=>bV (afD a b rfl)
def adl:KT:=[(182,13,[(0,[1,2]),(1,[1,2,7]),(2,[2]),(3,[2])])]
def afh:aw:=bO Pz adl [(121,JS),(229,Bo)] [] []
theorem aaF:aW afh:=aj ak ⟨MO,Ch,trivial⟩ trivial trivial
def xX (a:Pos):(Int×Int):=(bif !pY a a.aa then ⟨((cY (wr .u8 (1-a.aa)) 6).1),((cY (wr .u8 (1-a.aa)) 6).2)⟩ else ⟨(0),(0)⟩)
def ER (a:Pos):Bool:=(sv (a) (a.aa)&&true)
theorem aeq (a:Pos) (h:ER a=true):PS Pz 182 [Pos.av a] ((dR .u8 .u8).res (xX a)):=pq14 aaF h
def aav:GT:=g1 aY (fun a=>cp (ER a) ((dR .u8 .u8).res (xX a)))
theorem ahV:Sound Pz 182 aav:=aH fun a=>aC (aeq a)
def afZ:KT:=[(183,6,[(0,[1,2]),(1,[2])]),(230,28,[(0,[1,2,3,6]),(1,[1,2,6,14,15,16]),(2,(1::2::6::(rn 14 4 []))),(3,[1,2,6,8,14,15,16]),(4,[1,2,6,8,14,15,16,22]),(5,[6]),(6,[1,2,6,14,15,16]),(7,[6])]),(231,9,[(0,[0,1]),(1,[3])])]
def adj:aw:=bO Pz afZ [(229,Bo)] [] []
theorem abV:aW adj:=aj ak ⟨Ch,trivial⟩ trivial trivial
def xQ (a:Pos):(Int×Int):=(bif decide (a.ag.getD (scale 1 (wr .u8 (1-a.aa))).toNat 0≥3) then ⟨((cY (wr .u8 (1-a.aa)) 7).1),((cY (wr .u8 (1-a.aa)) 7).2)⟩ else (bif decide (a.ag.getD (scale 1 a.aa).toNat 0≥3) then ⟨((cY a.aa 7).1),((cY a.aa 7).2)⟩ else ⟨(0),(0)⟩))
def zn (a:Pos):Bool:=(decide (0≤wr .u8 (1-a.aa))&&decide (wr .u8 (1-a.aa) < ↑2)&&(bif decide (a.ag.getD (scale 1 (wr .u8 (1-a.aa))).toNat 0≥3) then true else (decide (0≤a.aa)&&decide (a.aa < ↑2)&&true)))
theorem adP (a:Pos) (h:zn a=true):PS Pz 183 [Pos.av a] ((dR .u8 .u8).res (xQ a)):=pq14 abV h
def W8:GT:=g1 aY (fun a=>cp (zn a) ((dR .u8 .u8).res (xQ a)))
theorem aiK:Sound Pz 183 W8:=aH fun a=>aC (adP a)
def aeQ:KT:=[(184,6,[(0,[1,2]),(1,[2])]),(230,28,[(0,[1,2,3,6]),(1,[1,2,6,14,15,16]),(2,(1::2::6::(rn 14 4 []))),(3,[1,2,6,8,14,15,16]),(4,[1,2,6,8,14,15,16,22]),(5,[6]),(6,[1,2,6,14,15,16]),(7,[6])]),(232,17,[(0,(0::1::(rn 11 5 []))),(1,(4::(rn 11 5 []))),(2,[3])])]
def aif:aw:=bO Pz aeQ [(145,ll),(229,Bo)] [] []
theorem Yy:aW aif:=aj ak ⟨lX,Ch,trivial⟩ trivial trivial
def yg (a:Pos):(Int×Int):=(bif decide (aZ a (wr .u8 (1-a.aa)) 6≥0) then (bif iY BinOp.and .i64 (Int.fdiv 103481868288 (2 ^ min (BitVec.ofInt 64 (aZ a (wr .u8 (1-a.aa)) 6)).toNat 64)) 1==1 then ⟨((cY (wr .u8 (1-a.aa)) 6).1),((cY (wr .u8 (1-a.aa)) 6).2)⟩ else (bif decide (aZ a a.aa 6≥0) then (bif iY BinOp.and .i64 (Int.fdiv 103481868288 (2 ^ min (BitVec.ofInt 64 (aZ a a.aa 6)).toNat 64)) 1==1 then ⟨((cY a.aa 6).1),((cY a.aa 6).2)⟩ else ⟨(0),(0)⟩) else ⟨(0),(0)⟩)) else (bif decide (aZ a a.aa 6≥0) then (bif iY BinOp.and .i64 (Int.fdiv 103481868288 (2 ^ min (BitVec.ofInt 64 (aZ a a.aa 6)).toNat 64)) 1==1 then ⟨((cY a.aa 6).1),((cY a.aa 6).2)⟩ else ⟨(0),(0)⟩) else ⟨(0),(0)⟩))
def Bt (a:Pos):Bool:=(iW (a) (wr .u8 (1-a.aa)) (6)&&(bif decide (aZ a (wr .u8 (1-a.aa)) 6≥0) then (bif iY BinOp.and .i64 (Int.fdiv 103481868288 (2 ^ min (BitVec.ofInt 64 (aZ a (wr .u8 (1-a.aa)) 6)).toNat 64)) 1==1 then true else (iW (a) (a.aa) (6)&&true)) else (iW (a) (a.aa) (6)&&true)))
theorem aeO (a:Pos) (h:Bt a=true):PS Pz 184 [Pos.av a] ((dR .u8 .u8).res (yg a)):=pq14 Yy h
def aaY:GT:=g1 aY (fun a=>cp (Bt a) ((dR .u8 .u8).res (yg a)))
theorem aey:Sound Pz 184 aaY:=aH fun a=>aC (aeO a)
def agA:KT:=[(185,8,[(0,[1,2]),(1,[2,5]),(2,[2]),(3,[2])])]
def ajM:aw:=bO Pz agA [(147,gV),(229,Bo)] [] []
theorem X8:aW ajM:=aj ak ⟨gX,Ch,trivial⟩ trivial trivial
def yC (a:Pos):(Int×Int):=(bif aO (Pos.mk a.variant a.ae a.ab a.af a.aa a.ai a.ah a.ag a.half a.full) 0 0==0#64 then ⟨((cY 1 8).1),((cY 1 8).2)⟩ else ⟨(0),(0)⟩)
def Dt (a:Pos):Bool:=(cx (Pos.mk a.variant a.ae a.ab a.af a.aa a.ai a.ah a.ag a.half a.full) (0) (0)&&true)
theorem ajP (a:Pos) (h:Dt a=true):PS Pz 185 [Pos.av a] ((dR .u8 .u8).res (yC a)):=pq14 X8 h
def YV:GT:=g1 aY (fun a=>cp (Dt a) ((dR .u8 .u8).res (yC a)))
theorem ahJ:Sound Pz 185 YV:=aH fun a=>aC (ajP a)
def aim:KT:=[(186,24,[(0,[1,2]),(1,[1,2,10,11,12]),(2,(1::2::(rn 10 4 []))),(3,[1,2,4,10,11,12]),(4,[1,2,4,10,11,12,19]),(5,[2]),(6,[1,2,10,11,12]),(7,[2])])]
def aj9:aw:=bO Pz aim [(147,gV),(229,Bo)] [] []
theorem ZP:aW aj9:=aj ak ⟨gX,Ch,trivial⟩ trivial trivial
def yu (a:Pos):(Int×Int):=(bif aO (Pos.mk a.variant a.ae a.ab a.af a.aa a.ai a.ah a.ag a.half a.full) a.aa 0==0#64 then ⟨((cY a.aa 8).1),((cY a.aa 8).2)⟩ else (bif aO (Pos.mk a.variant a.ae a.ab a.af a.aa a.ai a.ah a.ag a.half a.full) (wr .u8 (1-a.aa)) 0==0#64 then ⟨((cY (wr .u8 (1-a.aa)) 8).1),((cY (wr .u8 (1-a.aa)) 8).2)⟩ else ⟨(0),(0)⟩))
def Bh (a:Pos):Bool:=(cx (Pos.mk a.variant a.ae a.ab a.af a.aa a.ai a.ah a.ag a.half a.full) (a.aa) (0)&&(bif aO (Pos.mk a.variant a.ae a.ab a.af a.aa a.ai a.ah a.ag a.half a.full) a.aa 0==0#64 then true else (cx (Pos.mk a.variant a.ae a.ab a.af a.aa a.ai a.ah a.ag a.half a.full) (wr .u8 (1-a.aa)) (0)&&true)))
theorem ahS (a:Pos) (h:Bh a=true):PS Pz 186 [Pos.av a] ((dR .u8 .u8).res (yu a)):=pq14 ZP h
def X9:GT:=g1 aY (fun a=>cp (Bh a) ((dR .u8 .u8).res (yu a)))
theorem aes:Sound Pz 186 X9:=aH fun a=>aC (ahS a)
def af0:KT:=[(126,52,[(0,(2::3::(rn 30 10 (rn 45 6 [])))),(1,(2::5::6::(rn 30 10 (rn 45 6 [])))),(2,(2::5::14::(rn 30 10 (rn 45 6 [])))),(3,[4]),(4,(2::5::19::(rn 30 10 (rn 45 6 [])))),(5,(2::5::24::(rn 30 10 (rn 45 6 [])))),(6,[4]),(7,(2::5::40::(rn 45 6 []))),(8,[4]),(9,[4])])]
def ajb:aw:=bO Pz af0 [(31,ML),(120,Iz),(149,nR),(121,JS)] [] []
theorem aac:aW ajb:=aj ak ⟨OU,PN,pA,MO,trivial⟩ trivial trivial
def dp (a:Pos) (b:Mv):Bool:=(bif !(cS a b).2 then (false) else (bif lj a.variant a.aa then (bif !pY (cS a b).1 a.aa then (false) else (bif hQ (cS a b).1 a.aa then (bif a.variant != 3 then (false) else (bif pY (cS a b).1 (wr .u8 (1-a.aa)) then (false) else (bif a.variant != 8 then (true) else (!hQ (cS a b).1 (wr .u8 (1-a.aa)))))) else (bif a.variant != 8 then (true) else (!hQ (cS a b).1 (wr .u8 (1-a.aa)))))) else (bif a.variant != 8 then (true) else (!hQ (cS a b).1 (wr .u8 (1-a.aa))))))
def qN (a:Pos) (b:Mv):Bool:=(qa (a) (b)&&(bif !(cS a b).2 then true else (pb (a.variant) (a.aa)&&(bif lj a.variant a.aa then (sv ((cS a b).1) (a.aa)&&(bif !pY (cS a b).1 a.aa then true else (mj ((cS a b).1) (a.aa)&&(bif hQ (cS a b).1 a.aa then (bif a.variant != 3 then true else (sv ((cS a b).1) (wr .u8 (1-a.aa))&&(bif pY (cS a b).1 (wr .u8 (1-a.aa)) then true else (bif a.variant != 8 then true else (mj ((cS a b).1) (wr .u8 (1-a.aa))&&true))))) else (bif a.variant != 8 then true else (mj ((cS a b).1) (wr .u8 (1-a.aa))&&true)))))) else (bif a.variant != 8 then true else (mj ((cS a b).1) (wr .u8 (1-a.aa))&&true))))))
theorem adb (a:Pos) (b:Mv) (h:qN a b=true):PS Pz 126 [Pos.av a,Mv.av b] (dB.res (dp a b)):=pq14 aac h
def PL:GT:=g2 aY va (fun a b=>cp (qN a b) (dB.res (dp a b)))
theorem TY:Sound Pz 126 PL:=bb fun a b=>aC (adb a b)
end Kz
end
noncomputable section
namespace Go.Proofs
open Go.Shelf Go.RowKit Go.Lib Go.Sort
def fR (m:Kz.Mv):List Value:=[.int .i8 m.az,.int .i8 m.to,.int .u8 m.bQ,.int .u8 m.aX,.bool m.bP]
theorem gE (m:Kz.Mv):(fR m).length=5:=rfl
structure fY (w:World) (dj cap:Nat) (ty:TypeId) (dk:Array Kz.Mv) (W:World):Prop where
 os:W.os=w.os
 tape:W.tape=w.tape
 output:W.output=w.output
 size:w.heap.size≤W.heap.size
 other:∀ k,k<w.heap.size→k≠dj→W.heap[k]?=w.heap[k]?
 row:∃ cur,W.heap[dj]?=some (.cells cur ty (0,0))∧cur.size=cap * 5∧∀ j c,j<dk.size→c<5→cur[j * 5+c]?=(fR dk[j]!)[c]?
theorem fY.below {w W W':World} {dj cap:Nat} {ty:TypeId} {dk:Array Kz.Mv} (h:fY w dj cap ty dk W) (hb:dj<w.heap.size) (b:Below W.heap.size W W'):fY w dj cap ty dk W' :=
 ⟨b.os.trans h.os,b.tape.trans h.tape,b.output.trans h.output,Nat.le_trans h.size b.size,fun k hk hn=>by rw [b.block k (Nat.lt_of_lt_of_le hk h.size)];exact h.other k hk hn,by
  obtain ⟨cur,h1,h2⟩:=h.row
  exact ⟨cur,by rw [b.block dj (Nat.lt_of_lt_of_le hb h.size)];exact h1,h2⟩⟩
theorem fY.setCells {w W:World} {dj cap:Nat} {ty:TypeId} {dk dk':Array Kz.Mv} (h:fY w dj cap ty dk W) (vs:List Value) (o:Nat)
  (hd:∀ j c,j<dk'.size→c<5→j<dk.size∧(if o≤j * 5+c∧j * 5+c<o+vs.length then vs[j * 5+c-o]? else (fR dk[j]!)[c]?)=(fR dk'[j]!)[c]?) (hlen:o+vs.length≤cap * 5):fY w dj cap ty dk' (W.setCells dj o vs):=by
 obtain ⟨cur,h1,h2,h3⟩:=h.row
 have hb:=Kz.aV h1
 have key:∀ (vs:List Value) (o:Nat) (W:World) (cur:Array Value),W.heap[dj]?=some (.cells cur ty (0,0))→o+vs.length≤cur.size →
   ∃ cur',W.setCells dj o vs=Kz.bk W dj (.cells cur' ty (0,0))∧cur'.size=cur.size∧∀ t,t<cur.size→cur'[t]?=if o≤t∧t<o+vs.length then vs[t-o]? else cur[t]? := by
  intro vs
  induction vs with
  | nil =>
   intro o W cur hW _
   refine ⟨cur,?_,rfl,fun t _=>by rw [if_neg (by simp)]⟩
   rw [World.setCells]
   simp only [Kz.bk]
   have:W.heap.setIfInBounds dj (.cells cur ty (0,0))=W.heap:=by
    apply Array.ext_getElem?
    intro i
    rw [Array.getElem?_setIfInBounds]
    split
    ·rename_i e;subst e;split
     ·exact hW.symm
     ·rename_i h';simp [Array.getElem?_eq_none (by omega:W.heap.size≤dj)]
    ·rfl
   rw [this]
  | cons v vs ih =>
   intro o W cur hW hl
   simp only [List.length_cons] at hl
   have e1:W.setCell ⟨dj,o,none⟩ v=Kz.bk W dj (.cells (cur.setIfInBounds o v) ty (0,0)):=Kz.lv hW v
   obtain ⟨cur',a1,a2,a3⟩:=ih (o+1) (Kz.bk W dj (.cells (cur.setIfInBounds o v) ty (0,0))) (cur.setIfInBounds o v) (Kz.cG hW) (by simp;omega)
   refine ⟨cur',?_,by rw [a2];simp,fun t ht=>?_⟩
   ·rw [World.setCells,e1,a1]
    simp [Kz.bk]
   ·rw [a3 t (by simpa using ht)]
    by_cases h1:o+1≤t∧t<o+1+vs.length
    ·rw [if_pos h1,if_pos ⟨by omega,by simp;omega⟩]
     obtain ⟨u,rfl⟩:∃ u,t=o+1+u:=⟨t-(o+1),by omega⟩
     rw [show o+1+u-(o+1)=u by omega,show o+1+u-o=u+1 by omega]
     simp
    ·rw [if_neg h1,Array.getElem?_setIfInBounds]
     by_cases h2:o=t
     ·subst h2
      rw [if_pos rfl,if_pos (by omega),if_pos ⟨Nat.le_refl _,by simp⟩]
      simp
     ·rw [if_neg h2,if_neg (by simp;omega)]
 obtain ⟨cur',a1,a2,a3⟩:=key vs o W cur h1 (by omega)
 rw [a1]
 refine ⟨h.os,h.tape,h.output,by rw [Kz.dg];exact h.size,fun k hk hn=>by rw [Kz.aN hn];exact h.other k hk hn,cur',Kz.cG h1,by rw [a2,h2],fun j c hj hc=>?_⟩
 obtain ⟨hj',he⟩:=hd j c hj hc
 have hlt:j * 5+c<cur.size:=by
  rcases Nat.lt_or_ge (j * 5+c) cur.size with h' | h'
  ·exact h'
  ·have:=h3 j c hj' hc
   rw [Array.getElem?_eq_none h',I' (by rw [gE];exact hc)] at this
   cases this
 rw [a3 _ hlt,h3 j c hj' hc]
 exact he
theorem fY.put {w W:World} {dj cap:Nat} {ty:TypeId} {dk:Array Kz.Mv} (h:fY w dj cap ty dk W) {i:Nat} (hi:i<dk.size) (hc:dk.size≤cap) (u:Kz.Mv):fY w dj cap ty (dk.setIfInBounds i u) (W.setCells dj (i * 5) (fR u)):=by
 refine h.setCells (fR u) (i * 5) (fun j c hj hc=>?_) (by rw [gE];have:=Nat.mul_le_mul_right 5 (show i+1≤cap by omega);omega)
 have hj':j<dk.size:=by simpa using hj
 refine ⟨hj',?_⟩
 rw [gE]
 by_cases e:i=j
 ·subst e
  rw [if_pos ⟨by omega,by omega⟩,show i * 5+c-i * 5=c by omega,getElem!_pos (dk.setIfInBounds i u) i hj]
  simp
 ·rw [if_neg (by omega),getElem!_pos (dk.setIfInBounds i u) j hj,getElem!_pos dk j hj',Array.getElem_setIfInBounds_ne _ e]
theorem fY.tail {w W:World} {dj cap:Nat} {ty:TypeId} {dk:Array Kz.Mv} (h:fY w dj cap ty dk W) {i n:Nat} (hn:i+n≤cap) (hi:i≤dk.size) (vs:List Value) (hl:vs.length=n * 5):fY w dj cap ty (dk.toList.take i).toArray (W.setCells dj (i * 5) vs):=by
 refine h.setCells vs (i * 5) (fun j c hj hc=>?_) (by rw [hl,← Nat.add_mul];exact Nat.mul_le_mul_right 5 hn)
 have hj':j<i:=by simp at hj;omega
 refine ⟨by omega,?_⟩
 rw [if_neg (by omega)]
 congr 2
 rw [getElem!_pos dk j (show j<dk.size by omega),getElem!_pos (dk.toList.take i).toArray j hj]
 simp
theorem fY.same {w W:World} {dj cap:Nat} {ty:TypeId} {dk:Array Kz.Mv} (h:fY w dj cap ty dk W) {i:Nat} (hi:i≤dk.size):fY w dj cap ty (dk.toList.take i).toArray W:=by
 obtain ⟨cur,h1,h2,h3⟩:=h.row
 refine ⟨h.os,h.tape,h.output,h.size,h.other,cur,h1,h2,fun j c hj hc=>?_⟩
 have hj':j<i:=by simp at hj;omega
 rw [h3 j c (by omega) hc]
 congr 2
 rw [getElem!_pos dk j (show j<dk.size by omega),getElem!_pos (dk.toList.take i).toArray j hj]
 simp
def kO:Array Value := #[Value.int IntKind.i8 0,Value.int IntKind.i8 0,Value.int IntKind.u8 0,Value.int IntKind.u8 0,Value.bool false]
theorem FZ (n:Nat):∀ v∈(Builtin.zeroCells kO n).toList,v.oneCell'=true:=by
 intro v hv
 simp only [Builtin.zeroCells,Array.toList_map,List.mem_map] at hv
 obtain ⟨i,_,rfl⟩:=hv
 have:i % kO.size<5:=Nat.mod_lt _ (by decide)
 generalize i % kO.size=t at this
 match t,this with
 | 0,_ | 1,_ | 2,_ | 3,_ | 4,_=>rfl
 | t+5,h=>omega
theorem pE (n:Nat):(Builtin.zeroCells kO n).toList.length=n * 5:=by simp [Builtin.zeroCells,kO]
theorem BV (W:World) (b o n c:Nat) (hn:0<n) (hc:∀ t,t<n * 5→(W.cell? ⟨b,o+t,none⟩).isSome=true) (hf:∀ t,t<n * 5→W.frozen? ⟨b,o+t,none⟩=false) (ty:TypeId) :
  (Builtin.clear_ #[34] ty #[.slice (some ⟨b,o,none⟩) n c]).run Tryz.prog W=.ok (.tuple #[]) (W.setCells b o (Builtin.zeroCells kO n).toList):=by
 have hst:=run_storeCells_cells (P:=Tryz.prog) b o (Builtin.zeroCells kO n).toList 0 W (by rw [pE];simpa using hc) (by rw [pE];simpa using hf) (FZ n)
 simp only [Nat.add_zero] at hst
 obtain ⟨m,rfl⟩:∃ m,n=m+1:=⟨n-1,by omega⟩
 have hz:(Value.agg kO).cells=kO:=rfl
 have hv:∀ w,(zeroValue 47).run Tryz.prog w=.ok (.agg kO) w:=Tryz.zeroValue47
 simp only [kO] at hst hz hv
 simp [Builtin.clear_,run_underlying Tryz.underlying34,hv,hz,hst]
 rfl
theorem fY.cell {w W:World} {dj cap:Nat} {ty:TypeId} {dk:Array Kz.Mv} (h:fY w dj cap ty dk W) {j:Nat} (hj:j<dk.size) (c:Nat) (hc:c<5):W.cell? ⟨dj,j * 5+c,none⟩=some ((fR dk[j]!)[c]'hc)∧W.frozen? ⟨dj,j * 5+c,none⟩=false:=by
 obtain ⟨cur,h1,h2,h3⟩:=h.row
 refine ⟨?_,Kz.jt h1⟩
 rw [Kz.bu h1,h3 j c hj hc]
 exact I' _
theorem fY.load {w W:World} {dj cap:Nat} {ty:TypeId} {dk:Array Kz.Mv} (h:fY w dj cap ty dk W) {j:Nat} (hj:j<dk.size):Sem.run Tryz.prog (loadCellsFrom ⟨dj,0+j * 5,none⟩ 0 5 #[]) W=.ok (fR dk[j]!).toArray W :=
 run_loadCellsFrom_list Tryz.prog _ _ (fR dk[j]!) 5 rfl (fun c v hc=>by
  have hc5:c<5:=(C'.1 hc).1
  obtain ⟨cur,h1,h2,h3⟩:=h.row
  rw [Addr.add_lit]
  rw [Kz.bu h1,Nat.zero_add,h3 j c hj hc5]
  exact hc)
set_option maxHeartbeats 1000000 in
set_option maxRecDepth 100000 in
theorem ahN (p:Kz.Mv→Bool) (g:Nat) (lb:Array Value) (eg:∀ args w,(callFunc g args).run Tryz.prog w=.ok (.enter g args) w) (dj cap:Nat) (d:Array Kz.Mv) (w:World) (hb:dj<w.heap.size) (hH:fY w dj cap 47 d w) (hcap:d.size≤cap) (hmax:cap≤maxLen)
  (hpo:∀ W dk x,fY w dj cap 47 dk W→Calls Tryz.prog g (#[.agg (fR x).toArray]++lb) W fun e w'=>e=.returned (.bool (p x))∧RowKit.Below W.heap.size W w') :
  Calls Tryz.prog 49 #[.slice (some ⟨dj,0,none⟩) d.size cap,.func (.func g) #[] lb] w fun e w'=>e=.returned (.slice (some ⟨dj,0,none⟩) (d.toList.filter fun x => !p x).length cap)∧fY w dj cap 47 (d.toList.filter fun x => !p x).toArray w':=by
 have hsz:d.size≤9223372036854775807:=by unfold maxLen at hmax;omega
 have e6:∀ args w,(callFunc 110 args).run Tryz.prog w=.ok (.enter 110 args) w:=fun args w=>by rfl
 have hp:PredBelow Tryz.prog g lb (fun x=>.agg (fR x).toArray) p w:=fun W x hB=>(hpo W d x (hH.below hb hB)).mono fun e w' ⟨h1,h2⟩=>⟨h1,hB.trans (h2.mono hB.size)⟩
 have hIF:=AnyQ.slices_IndexFunc Tryz.ai7 5 Tryz.isAgg47 Tryz.sizeOf47 fR gE p g lb eg dj 0 d.size cap d.toList w hp (by simp) hsz hb (fun j hj i v hi=>by
  have hi5:i<5:=(C'.1 hi).1
  have hj':j<d.size:=by simpa using hj
  obtain ⟨cur,h1,h2,h3⟩:=hH.row
  rw [Kz.bu h1,Nat.zero_add,h3 j i hj' hi5]
  rw [← hi,getElem!_pos d j hj',getElem!_pos d.toList j hj]
  simp)
 rw [show d.toList.take d.size=d.toList from List.take_of_length_le (by simp)] at hIF
 have tl:∀ j,j<d.size→d.toList[j]! = d[j]! := fun j hj=>by rw [getElem!_pos d j hj,getElem!_pos d.toList j (by simpa using hj)];simp
 obtain ⟨kp,HK⟩:∃ kp:Nat→Bool,Hid (kp=fun j => !p d[j]!):=⟨_,rfl⟩
 have hfil:(d.toList.filter fun x => !p x)=keptUpTo kp d d.size:=by rw [HK.out];exact (keptUpTo_filter (fun x => !p x) d).symm
 rw [hfil]
 rcases idxByFrom_spec (fun _ y=>p y) default d.toList 0 with ⟨e1,hall⟩ | ⟨k0,hk0,e1,ht,hall⟩
 ·
  have e2:Lib.idxBy (fun _ y=>p y) d.toList default = -1:=e1
  rw [e2] at hIF
  have hkeep:∀ j,j<d.size→kp j=true:=fun j hj=>by rw [HK.out];show (!p d[j]!)=true;rw [← tl j hj,hall j (by simpa using hj)];rfl
  have e3:keptUpTo kp d d.size=d.toList:=by rw [keptUpTo_all kp d _ hkeep,range_map_get]
  have HH:Aside (fY w dj cap 47 d w):=hH
  have HB:Hid (dj<w.heap.size):=hb
  clear hH hpo hp hb
  go_enter Tryz.func49,Tryz.ntmps49
  go_wp2_with (go_at_fn 110;refine hIF.mono ?_;rintro e w' ⟨rfl,hbl⟩)
  go_ret
  rw [e3]
  exact ⟨by simp,by simpa using HH.out.below HB.out hbl⟩
 ·have hk0':k0<d.size:=by simpa using hk0
  have e2:Lib.idxBy (fun _ y=>p y) d.toList default=(k0:Int):=by unfold Lib.idxBy;rw [e1];simp
  rw [e2] at hIF
  have hkeep:∀ j,j<k0→kp j=true:=fun j hj=>by rw [HK.out];show (!p d[j]!)=true;rw [← tl j (by omega),hall j hj];rfl
  have hdrop:kp k0=false:=by rw [HK.out];show (!p d[k0]!)=false;rw [← tl k0 hk0'];rw [show p d.toList[k0]! = true from ht];rfl
  have hne1:((k0:Int) == -1)=false:=beq_eq_false_iff_ne.2 (by omega)
  have HC:Aside _:=hpo
  have HH:Aside (fY w dj cap 47 d w):=hH
  have HB:Hid (dj<w.heap.size):=hb
  clear hpo hp hH hb hall ht e1 e2 tl
  go_enter Tryz.func49,Tryz.ntmps49
  go_wp2_with (go_at_fn 110;refine hIF.mono ?_;rintro e w' ⟨rfl,hbl⟩)
  have HBL:=Lib.hid hbl
  clear hbl
  go_loopg [5,6,7] d.size (fun gg s5 s6 _ wr=>∃ (i j:Nat) (dk:Array Kz.Mv),s5=.int .i64 i∧s6=.int .i64 j∧j≤d.size∧d.size-j≤gg∧Aside (fY w dj cap 47 dk wr)∧Aside (KeptInv kp d j i dk))
  case atStart=>exact ⟨k0,k0+1,d,rfl,by go_num,by omega,by omega,HH.out.below HB.out HBL.out,KeptInv.start hkeep hdrop⟩
  case round =>
   obtain ⟨i,j,dk,rfl,rfl,hjd,hgg,W2,I2⟩:=hrel
   have hI:=I2.out
   have hij:=hI.lt
   have hds:=hI.size
   by_cases hlt:j<d.size
   ·have hltz:(j:Int)<(d.size:Int):=by omega
    have c0:=(W2.out.cell (j:=j) (by omega) 0 (by omega)).1
    have c1:=(W2.out.cell (j:=j) (by omega) 1 (by omega)).1
    have c2:=(W2.out.cell (j:=j) (by omega) 2 (by omega)).1
    have c3:=(W2.out.cell (j:=j) (by omega) 3 (by omega)).1
    have c4:=(W2.out.cell (j:=j) (by omega) 4 (by omega)).1
    simp only [hI.high j (by omega),fR,List.getElem_cons_succ,List.getElem_cons_zero,Nat.add_zero] at c0 c1 c2 c3 c4
    clear hI
    generalize hu:d[j]! = u at c0 c1 c2 c3 c4
    have C:Aside (d[j]! = u):=hu
    clear hu
    have hW1:fY w dj cap 47 dk (wr.alloc (Obj.cells #[Value.int IntKind.i8 u.az,Value.int IntKind.i8 u.to,Value.int IntKind.u8 u.bQ,Value.int IntKind.u8 u.aX,Value.bool u.bP] 47)) :=
     W2.out.below HB.out ((Below.refl _ _).alloc (Nat.le_refl _) _)
    have hcall:Calls Tryz.prog g (#[Value.agg #[Value.int IntKind.i8 u.az,Value.int IntKind.i8 u.to,Value.int IntKind.u8 u.bQ,Value.int IntKind.u8 u.aX,Value.bool u.bP]]++lb) _ _:=HC.out _ dk u hW1
    have HW1:=Lib.hid hW1
    clear hW1
    cases hq:p u with
    | false =>
     rw [hq] at hcall
     have HCALL:=Lib.hid hcall
     clear hcall
     go_wp2_with fail
     refine HCALL.out.mono ?_
     rintro e w2 ⟨rfl,hb2⟩
     have hW2:=HW1.out.below HB.out hb2
     have r0:=hW2.cell (j:=i) (by omega) 0 (by omega)
     have r1:=hW2.cell (j:=i) (by omega) 1 (by omega)
     have r2:=hW2.cell (j:=i) (by omega) 2 (by omega)
     have r3:=hW2.cell (j:=i) (by omega) 3 (by omega)
     have r4:=hW2.cell (j:=i) (by omega) 4 (by omega)
     simp only [Nat.add_zero] at r0
     obtain ⟨r0,f0⟩:=r0
     obtain ⟨r1,f1⟩:=r1
     obtain ⟨r2,f2⟩:=r2
     obtain ⟨r3,f3⟩:=r3
     obtain ⟨r4,f4⟩:=r4
     have hcs:∀ c,w2.cell? ⟨wr.heap.size,c,none⟩=(#[Value.int IntKind.i8 u.az,Value.int IntKind.i8 u.to,Value.int IntKind.u8 u.bQ,Value.int IntKind.u8 u.aX,Value.bool u.bP]:Array Value)[c]? := fun c=>by
      rw [hb2.cell (p:=⟨wr.heap.size,c,none⟩) (by simp),Kz.bu (heap_alloc_new wr _)]
     have b0:=hcs 0
     have b1:=hcs 1
     have b2:=hcs 2
     have b3:=hcs 3
     have b4:=hcs 4
     simp at b0 b1 b2 b3 b4
     have HW2:=Lib.hid hW2
     clear hcs hb2 hW2
     go_wp2_with fail
     go_roundg (d.size-(j+1))
     case measure=>omega
     case rel =>
      refine ⟨i+1,j+1,dk.setIfInBounds i u,by go_num,by go_num,by omega,Nat.le_refl _,HW2.out.put (i:=i) (by omega) (by omega) u,(show Aside _ from ?_)⟩
      have:=I2.out.keep hlt (by rw [HK.out];show (!p d[j]!)=true;rw [C.out,hq];rfl)
      rwa [C.out] at this
    | true =>
     rw [hq] at hcall
     have HCALL:=Lib.hid hcall
     clear hcall
     go_wp2_with fail
     refine HCALL.out.mono ?_
     rintro e w2 ⟨rfl,hb2⟩
     have HW2:=Lib.hid (HW1.out.below HB.out hb2)
     clear hb2
     go_wp2_with fail
     go_roundg (d.size-(j+1))
     case measure=>omega
     case rel=>exact ⟨i,j+1,dk,rfl,by go_num,by omega,Nat.le_refl _,HW2.out,I2.out.skip (by rw [HK.out];show (!p d[j]!)=false;rw [C.out,hq];rfl)⟩
   ·obtain rfl:j=d.size:=by omega
    have hltz:¬ (d.size:Int)<(d.size:Int):=by omega
    have hcl:∀ ty,(Builtin.clear_ #[34] ty #[.slice (some ⟨dj,i * 5,none⟩) (d.size-i) (cap-i)]).run Tryz.prog wr=.ok (.tuple #[]) (wr.setCells dj (i * 5) (Builtin.zeroCells kO (d.size-i)).toList):=by
     obtain ⟨cur,h1,h2,h3⟩:=W2.out.row
     refine BV wr dj (i * 5) (d.size-i) (cap-i) (by omega) (fun t ht=>?_) (fun t ht=>Kz.jt h1)
     rw [Kz.bu h1]
     have:d.size * 5≤cap * 5:=Nat.mul_le_mul_right 5 hcap
     have h5:(d.size-i) * 5=d.size * 5-i * 5:=Nat.sub_mul _ _ _
     rw [Array.getElem?_eq_getElem (by omega)]
     rfl
    have hid:i≤d.size:=by omega
    clear hI
    go_wp2
    go_ret
    have hI:=I2.out
    refine ⟨by rw [hI.len];rfl,?_⟩
    have:=W2.out.tail (i:=i) (n:=d.size-i) (by omega) (by omega) _ (pE (d.size-i))
    have e:keptUpTo kp d d.size=dk.toList.take i:=by
     have hsz':=hI.size
     apply List.ext_getElem?
     intro j
     by_cases hj:j<i
     ·rw [hI.low j hj,List.getElem?_take_of_lt hj,getElem!_pos dk j (by omega),I' (by simp;omega)]
      simp
     ·rw [List.getElem?_eq_none (by rw [hI.len];omega),List.getElem?_eq_none (by simp;omega)]
    rw [e]
    exact this
end Go.Proofs
end
noncomputable section
namespace Go.Proofs
open Go.Shelf Go.RowKit Go.Lib Go.Sort Kz
theorem PE {w W:World} (hsz:w.heap.size≤W.heap.size) (old:∀ k,k<w.heap.size→W.heap[k]?=w.heap[k]?) {p:Nat×IntKind×Option Z'} (h:mZ (jV w) w p):mZ (jV W) W p :=
 ⟨fun hi=>let ⟨d,x,t,fr,e,f⟩:=h.1 hi
  ⟨Nat.lt_of_lt_of_le d hsz,x,t,fr,by rw [old _ d];exact e,f⟩,
 fun hi=>let ⟨zs,a,b,c,d,t,fr,e⟩:=h.2 hi
  ⟨zs,a,b,fun j x hj=>⟨by rw [fm (old _ d)];exact (c j x hj).1,Nat.lt_of_lt_of_le d hsz⟩,Nat.lt_of_lt_of_le d hsz,t,fr,by rw [old _ d];exact e⟩⟩
theorem KS {g:Gh} {tk:List Nat} {w:World} {m:Mv} {cs:List Value} (h:ax g tk w (bx (Mv.av m)) cs):cs=fR m:=by
 change ax g tk w [.int .i8 m.az,.int .i8 m.to,.int .u8 m.bQ,.int .u8 m.aX,.bool m.bP] cs at h
 obtain ⟨x1,r1,rfl,q1,h⟩:=h.inv_one rfl
 obtain ⟨x2,r2,rfl,q2,h⟩:=h.inv_one rfl
 obtain ⟨x3,r3,rfl,q3,h⟩:=h.inv_one rfl
 obtain ⟨x4,r4,rfl,q4,h⟩:=h.inv_one rfl
 obtain ⟨x5,r5,rfl,q5,h⟩:=h.inv_one rfl
 obtain rfl:=h.df
 cases q1;cases q2;cases q3;cases q4;cases q5
 rfl
theorem Jb (g:Gh) (tk:List Nat) (w:World) (m:Mv):ax g tk w (bx (Mv.av m)) (fR m) :=
 .one rfl (.int _ _) (.one rfl (.int _ _) (.one rfl (.int _ _) (.one rfl (.int _ _) (.one rfl (.bool _) .nil))))
theorem pC {g:Gh} {tk:List Nat} {w:World}:∀ {l:M'} {cs:List Value},bp g tk w (l.map (enc .mv)) cs→cs=l.flatMap fR
 | [],_,h=>by cases h;rfl
 | m::l,_,h=>by
  cases h with
  | cons hs hx h hr=>rw [hx,KS h,pC hr];rfl
theorem yJ (g:Gh) (tk:List Nat) (w:World):∀ l:M',bp g tk w (l.map (enc .mv)) (l.flatMap fR)
 | []=>.nil
 | m::l=>.cons rfl rfl (Jb g tk w m) (yJ g tk w l)
theorem nW (l:M'):(l.flatMap fR).length=l.length * 5:=by
 induction l with
 | nil=>rfl
 | cons m l ih=>simp only [List.flatMap_cons,List.length_append,gE,ih,List.length_cons];omega
theorem sl:∀ (l:M') (j c:Nat),j<l.length→c<5→(l.flatMap fR)[j * 5+c]?=(fR l[j]!)[c]?
 | [],_,_,h,_=>absurd h (Nat.not_lt_zero _)
 | m::l,0,c,_,hc=>by
  simp only [List.flatMap_cons]
  rw [List.getElem?_append_left (by rw [gE];omega)]
  simp
 | m::l,j+1,c,h,hc=>by
  simp only [List.flatMap_cons]
  rw [List.getElem?_append_right (by rw [gE];omega),gE,show (j+1) * 5+c-5=j * 5+c by omega,sl l j c (by simpa using h) hc]
  simp
theorem LJ (m:Mv):∀ u∈fR m,u.oneCell'=true:=by
 intro u hu
 simp only [fR,List.mem_cons,List.not_mem_nil,or_false] at hu
 rcases hu with rfl | rfl | rfl | rfl | rfl<;>rfl
theorem KF (l:M'):∀ u∈l.flatMap fR,u.oneCell'=true:=by
 intro u hu
 obtain ⟨m,_,h⟩:=List.mem_flatMap.1 hu
 exact LJ m u h
theorem Er {g g':Gh} {tk tk':List Nat} {w w':World} {p:Pos} {cs:List Value} (h:ax g tk w (bx (Pos.av p)) cs):ax g' tk' w' (bx (Pos.av p)) cs:=by
 change ax g tk w [.int .u8 p.variant,.ints .u8 64 p.ae,.u64 p.ab,.ints .u8 12 p.af,.int .u8 p.aa,.ints .i8 4 p.ai,.int .i8 p.ah,.ints .u8 2 p.ag,.int .i64 p.half,.int .i64 p.full] cs at h
 obtain ⟨x1,r1,rfl,q1,h1⟩:=h.inv_one rfl
 obtain ⟨l2,r2,rfl,h2⟩:=h1.cE
 obtain ⟨x3,r3,rfl,q3,h3⟩:=h2.inv_one rfl
 obtain ⟨l4,r4,rfl,h4⟩:=h3.cE
 obtain ⟨x5,r5,rfl,q5,h5⟩:=h4.inv_one rfl
 obtain ⟨l6,r6,rfl,h6⟩:=h5.cE
 obtain ⟨x7,r7,rfl,q7,h7⟩:=h6.inv_one rfl
 obtain ⟨l8,r8,rfl,h8⟩:=h7.cE
 obtain ⟨x9,r9,rfl,q9,h9⟩:=h8.inv_one rfl
 obtain ⟨x10,r10,rfl,q10,h10⟩:=h9.inv_one rfl
 obtain rfl:=h10.df
 cases q1;cases q3;cases q5;cases q7;cases q9;cases q10
 exact .one rfl (.int _ _) (.ints l2 rfl (.one rfl (.u64 _) (.ints l4 rfl (.one rfl (.int _ _) (.ints l6 rfl (.one rfl (.int _ _) (.ints l8 rfl (.one rfl (.int _ _) (.one rfl (.int _ _) .nil)))))))))
set_option maxHeartbeats 1000000 in
set_option maxRecDepth 100000 in
theorem afz (a:Option Addr) (c:Nat) (fv:Value) (w:World):Calls Tryz.prog 110 #[.slice a 0 c,fv] w fun e w'=>e=.returned (.int .i64 (-1))∧w'=w:=by
 go_enter Tryz.func110,Tryz.ntmps110
 go_wp2
 go_loopg [5,8] 0 (fun _ _ s8 wr=>s8=.int .i64 0∧wr=w)
 case atStart=>exact ⟨rfl,rfl⟩
 case round =>
  obtain ⟨rfl,rfl⟩:=hrel
  go_wp2
  go_ret
  exact ⟨rfl,rfl⟩
set_option maxHeartbeats 1000000 in
set_option maxRecDepth 100000 in
theorem ahr (a:Option Addr) (c:Nat) (fv:Value) (w:World):Calls Tryz.prog 49 #[.slice a 0 c,fv] w fun e w'=>e=.returned (.slice a 0 c)∧w'=w:=by
 have h:=afz a c fv w
 go_enter Tryz.func49,Tryz.ntmps49
 go_wp2_with fail
 refine h.mono ?_
 rintro e w' ⟨rfl,rfl⟩
 go_wp2_with fail
 go_ret
 exact ⟨rfl,rfl⟩
set_option maxHeartbeats 2000000 in
set_option maxRecDepth 100000 in
theorem SW (ad:Addr) (c:Nat) (w:World):Calls Tryz.prog 123 #[.slice (some ad) 0 c] w fun e w'=>∃ v',e=.returned v'∧w'.ownsRow w.heap.size 47 5 v' 0 []∧v'≠.slice none 0 0∧RowKit.Below w.heap.size w w':=by
 obtain ⟨i0,z,a1,a2,a3,a4,a5⟩:=CB
 have q22:∀ (w:World) (a:Option Addr) (n c n' c':Nat),(binOp .eql 34 (.slice a n c) (.slice none n' c')).run Tryz.prog w=.ok (.bool a.isNone) w:=fun w a n c n' c'=>Lib.run_eql_slice_nil w _ _ a n c n' c' Tryz.underlying34
 have u22:∀ w,Sem.run Tryz.prog (underlying 34) w=.ok (TypeDesc.slice 47) w:=run_underlying Tryz.underlying34
 go_enter Tryz.func123,Tryz.ntmps123
 go_wp2_with (at_builtin;refine wpList_append_own _ rfl _ _ 34 rfl w.heap.size 47 i0 z 5 i0.bytes Tryz.underlying34 a1 a2 a3 rfl a4 (by omega) _ _ _ rfl (World.ownsRow_made w #[] 0 (Nat.le_refl _) (Nat.zero_le _) (by simp)) ad 0 c [] rfl ?qc1 ?qc2 ?qc3 ?qc4 ?qc5 ?qc6 ?_)
 case qc1=>rfl
 case qc2=>intro j u hj;simp at hj
 case qc3=>intro u hu;simp at hu
 case qc4=>simp
 case qc5=>simp
 case qc6=>simp
 intro v' w1 hown hgrow hnil
 go_wp2
 go_ret
 refine ⟨v',rfl,by simpa using hown,?_,?_⟩
 ·exact hnil
 ·exact ((Below.refl _ w).alloc (Nat.le_refl _) _).grown hgrow (by simp) (by intro k hk;simp [Value.ownBlock] at hk;omega)
set_option maxHeartbeats 2000000 in
set_option maxRecDepth 100000 in
theorem Q7 (p:Pos) (f2:Nat) (q:Mv→Bool) (l:M') (hll:l.length≤wU) (hq:∀ m,cF Tryz.prog 124 [Mv.av m,.ptrf (.func f2 [] [.ptrf (Pos.av p)])] (.bool (!q m))):cF Tryz.prog 122 [.list .mv l .arg,.func f2 [] [.ptrf (Pos.av p)]] (.list .mv (l.filter q) .fresh):=by
 intro w cd hg hr
 obtain ⟨cd⟩:=cd
 cases hr with
 | cons q1 r1 =>
 cases r1 with
 | cons q2 r2 =>
 cases r2
 cases q2 with
 | func ha hb =>
 rename_i x y
 obtain ⟨x⟩:=x
 obtain ⟨y⟩:=y
 cases ha
 cases hb with
 | cons q3 r3 =>
 cases r3
 cases q3 with
 | ptrf hpc hpa =>
 rename_i pc po pcs
 cases q1 with
 | list hn hE hS hT hC =>
 rename_i a n cap cs
 subst hn
 have hcs:=pC hE
 obtain ⟨fv,hfv⟩:∃ fv:Value,fv=.func (.func f2) (Array.mk []) (Array.mk [.pointer (some ⟨pc,po,none⟩)]):=⟨_,rfl⟩
 rw [← hfv]
 have hpred:∀ (W:World) (u:Mv),w.heap.size+1≤W.heap.size→(∀ k,k<w.heap.size+1→W.heap[k]?=(w.alloc (.cells #[fv] 74)).heap[k]?) →
   Calls Tryz.prog 124 (#[.agg (fR u).toArray]++#[.pointer (some ⟨w.heap.size,0,none⟩)]) W fun e w'=>e=.returned (.bool (!q u))∧RowKit.Below W.heap.size W w':=by
  intro W u hsz hsame
  have old:∀ k,k<w.heap.size→W.heap[k]?=w.heap[k]? := fun k hk=>by
   rw [hsame k (by omega)]
   exact ((Below.refl _ w).alloc (Nat.le_refl _) _).block k hk
  refine (callsIn_wide.1 (hq u W (#[.agg (fR u).toArray]++#[.pointer (some ⟨w.heap.size,0,none⟩)]) ?_ ?_)).mono ?_
  ·exact fun pr hpr=>PE (by omega) old (hg pr hpr)
  ·refine .cons (.agg (Jb _ _ _ u)) (.cons (.ptrf (cs:=[fv]) (.one rfl ?_ .nil) ?_) .nil)
   ·rw [hfv]
    refine .func .nil (.cons (.ptrf (Er hpc) ?_) .nil)
    intro j x hj
    obtain ⟨h1,h2⟩:=hpa j x hj
    have hlt:pc<w.heap.size:=h2
    exact ⟨by rw [fm (old _ hlt)];exact h1,Nat.lt_of_lt_of_le hlt (by omega)⟩
   ·intro j x hj
    have hc:W.heap[w.heap.size]?=some (.cells #[fv] 74 (0,0)):=by
     rw [hsame _ (Nat.lt_succ_self _)];exact heap_alloc_new w _
    refine ⟨?_,show w.heap.size<W.heap.size by omega⟩
    rw [bu hc,Nat.zero_add]
    simpa using hj
  ·rintro e w' ⟨v,rfl,hb,hv⟩
   cases hv
   exact ⟨rfl,hb⟩
 subst hfv
 clear hpc hpa
 refine callsIn_wide.2 ?_
 cases a with
 | none =>
  obtain rfl:l=[]:=by
   rcases hS with h | ⟨_,_,h,_⟩
   ·have:=nW l
    rw [← hcs,h] at this
    exact List.eq_nil_of_length_eq_zero (by simp at this;omega)
   ·cases h
  have hc:=fun w=>AnyE.slices_Clone_nil Tryz.Lz 0 cap w
  have hd:=ahr none 0 (.func (.func 124) #[] #[.pointer (some ⟨w.heap.size,0,none⟩)])
  clear hpred hS hcs hE hT
  go_enter Tryz.func122,Tryz.ntmps122
  go_wp2_with fail
  refine (hc _).mono ?_
  rintro e w' ⟨rfl,rfl⟩
  go_wp2_with fail
  refine (hd _).mono ?_
  rintro e w' ⟨rfl,rfl⟩
  go_wp2_with fail
  go_ret
  exact ⟨_,rfl,(Below.refl _ w).alloc (Nat.le_refl _) _,.list (cs:=[]) rfl .nil (.inl rfl) (fun k e=>by cases e) (Nat.le_refl _)⟩
 | some ad =>
  have hclone:Calls Tryz.prog 123 #[.slice (some ad) l.length cap] (w.alloc (.cells #[(.func (.func f2) (Array.mk []) (Array.mk [.pointer (some ⟨pc,po,none⟩)]))] 74)) fun e w'=>∃ v',e=.returned v'∧w'.ownsRow (w.alloc (.cells #[(.func (.func f2) (Array.mk []) (Array.mk [.pointer (some ⟨pc,po,none⟩)]))] 74)).heap.size 47 5 v' l.length (l.flatMap fR)∧v'≠.slice none 0 0∧RowKit.Below (w.alloc (.cells #[(.func (.func f2) (Array.mk []) (Array.mk [.pointer (some ⟨pc,po,none⟩)]))] 74)).heap.size (w.alloc (.cells #[(.func (.func f2) (Array.mk []) (Array.mk [.pointer (some ⟨pc,po,none⟩)]))] 74)) w':=by
   by_cases hl:l=[]
   ·subst hl
    exact SW ad cap _
   ·obtain ⟨c,o,hadr,hat,_⟩:=hS.resolve_left (fun e0=>hl (by
     have:=nW l
     rw [← hcs,e0] at this
     exact List.eq_nil_of_length_eq_zero (by simp at this;omega)))
    simp only [A'] at hadr
    subst hadr
    obtain ⟨i0,z,a1,a2,a3,a4,a5⟩:=CB
    refine AnyE.slices_Clone Tryz.Lz i0 z 5 i0.bytes a1 a2 a3 rfl a4 (by omega) Tryz.sizeOf47 c o l.length cap (l.flatMap fR) _ (nW l) ?_ ?_ ?_ (KF l)
    ·unfold wU at hll;unfold maxLen;omega
    ·have:l.length * i0.bytes≤l.length * 131072:=Nat.mul_le_mul_left _ a5
     unfold wU at hll
     omega
    ·intro j u hj
     rw [← hcs] at hj
     obtain ⟨h1,h2⟩:=hat j u hj
     have hlt:c<w.heap.size:=h2
     rw [fm (((Below.refl _ w).alloc (Nat.le_refl _) _).block c hlt)]
     exact h1
  clear hS hcs hE hT
  have HP:=Lib.hid hpred
  clear hpred
  go_enter Tryz.func122,Tryz.ntmps122
  go_wp2_with fail
  refine hclone.mono ?_
  rintro e w2 ⟨v',rfl,hown,hne,hb⟩
  obtain ⟨hlen,⟨rfl,_⟩ | ⟨gb,cap',cur,rfl,hgb,hcur,hn',hmax,hsz,htake⟩⟩:=hown
  ·exact absurd rfl hne
  have hrow:fY w2 gb cap' 47 l.toArray w2:=⟨rfl,rfl,rfl,Nat.le_refl _,fun _ _ _=>rfl,cur,hcur,hsz,fun j c hj hc=>by
   have hj':j<l.length:=by simpa using hj
   have h1:j * 5+c<l.length * 5:=by have:=Nat.mul_le_mul_right 5 (show j+1≤l.length from hj');omega
   rw [← Array.getElem?_toList,← List.getElem?_take_of_lt h1,htake,sl l j c hj' hc]
   congr 2
   rw [getElem!_pos l j hj',getElem!_pos l.toArray j hj]
   simp⟩
  have hdel:=ahN (fun u => !q u) 124 #[.pointer (some ⟨w.heap.size,0,none⟩)] (fun _ _=>rfl) gb cap' l.toArray w2 (aV hcur) hrow (by simpa using hn') hmax (fun W dk u hW=>by
   have hs1:(w.alloc (.cells #[(.func (.func f2) (Array.mk []) (Array.mk [.pointer (some ⟨pc,po,none⟩)]))] 74)).heap.size=w.heap.size+1:=by simp
   refine HP.out W u (by have:=hb.size;have:=hW.size;omega) (fun k hk=>?_)
   rw [hW.other k (by have:=hb.size;omega) (by omega),hb.block k (by omega)])
  simp only [List.size_toArray,Bool.not_not] at hdel
  have HD:=Lib.hid hdel
  have HBW:=Lib.hid hb
  have HG:=Lib.hid hgb
  have HN:=Lib.hid hn'
  clear hdel HP hrow hb hgb hn' hcur hsz htake hlen hne hmax hclone
  go_wp2_with fail
  refine HD.out.mono ?_
  rintro e w3 ⟨rfl,hR⟩
  have HR:=Lib.hid hR
  clear hR
  go_wp2_with fail
  go_ret
  have hR:=HR.out
  have hb:=HBW.out
  have hgb:=HG.out
  have hs1:(w.alloc (.cells #[(.func (.func f2) (Array.mk []) (Array.mk [.pointer (some ⟨pc,po,none⟩)]))] 74)).heap.size=w.heap.size+1:=by simp
  have hw1:RowKit.Below w.heap.size w (w.alloc (.cells #[(.func (.func f2) (Array.mk []) (Array.mk [.pointer (some ⟨pc,po,none⟩)]))] 74)):=(Below.refl _ w).alloc (Nat.le_refl _) _
  have hbw:RowKit.Below w.heap.size w w3:=⟨hR.os.trans (hb.os.trans hw1.os),hR.tape.trans (hb.tape.trans hw1.tape),hR.output.trans (hb.output.trans hw1.output),by have:=hR.size;have:=hb.size;omega,fun k hk=>by
   rw [hR.other k (by have:=hb.size;omega) (by omega),hb.block k (by omega)]
   exact hw1.block k hk⟩
  refine ⟨_,rfl,hbw,?_⟩
  obtain ⟨cur,k1,k2,k3⟩:=hR.row
  have hfl:(l.filter q).length≤l.length:=List.length_filter_le _ _
  refine .list (cs:=(l.filter q).flatMap fR) (by simp) (yJ _ _ _ _) (.inr ⟨gb,0,rfl,fun j x hj=>?_,fun _=>by show w.heap.size≤gb;omega⟩) (fun k e=>by cases e) (Nat.le_trans hfl HN.out)
  have hjl:j<(l.filter q).length * 5:=by rw [← nW];exact (C'.1 hj).1
  have hdm:j=j / 5 * 5+j % 5:=by omega
  have hq5:j / 5<(l.filter q).length:=by omega
  refine ⟨?_,show w.heap.size≤gb∧gb<w3.heap.size from ⟨by omega,aV k1⟩⟩
  rw [bu k1,Nat.zero_add,hdm,k3 (j / 5) (j % 5) (by simpa using hq5) (Nat.mod_lt _ (by omega)),← hj]
  conv=>rhs;rw [hdm]
  rw [sl (l.filter q) (j / 5) (j % 5) hq5 (Nat.mod_lt _ (by omega))]
  congr 2
  rw [getElem!_pos (l.filter q) (j / 5) hq5,getElem!_pos (l.filter q).toArray (j / 5) (by simpa using hq5)]
  simp
end Go.Proofs
end
noncomputable section
namespace Kz
open Go Go.RowKit Go.Proofs
theorem DS {P:Program} {f:Nat} {l l':M'} {tk:Tk} {f2 b:Nat} {p:Pos} {h:Hp} (hb:h.heap[b]?=some (bx (Pos.av p))) (hs:cF P f [.list .mv l .arg,.func f2 [] [.ptrf (Pos.av p)]] (.list .mv l' .fresh)) :
  du P f [.list .mv l tk,.func f2 [] [.ptr b 0]] h (.ret (.list .mv l' .fresh) h):=by
 intro g w cd m hr
 have hr':aB (jV w) [] w [.list .mv l .arg,.func f2 [] [.ptrf (Pos.av p)]] cd.toList:=by
  obtain ⟨cd⟩:=cd
  cases hr with
  | cons q1 r1 =>
  cases r1 with
  | cons q2 r2 =>
  cases r2
  cases q1 with
  | list hn hE hS hT hC =>
  rename_i a n cap cs
  cases q2 with
  | func ha hb2 =>
  rename_i x y
  obtain ⟨x⟩:=x
  obtain ⟨y⟩:=y
  cases ha
  cases hb2 with
  | cons q3 r3 =>
  cases r3
  cases q3 with
  | ptr hv =>
  rename_i c
  obtain ⟨_,_,cells,ty,hc,hcells⟩:=m.VB hv hb rfl
  refine .cons (.list (cs:=cs) hn (by rw [pC hE];exact yJ _ _ _ _) (hS.imp id fun ⟨c',o',e1,e2,_⟩=>⟨c',o',e1,fun j x hj=>⟨(e2 j x hj).1,m.fJ _ _ (e2 j x hj).2⟩,fun f=>absurd rfl f⟩) (fun k e=>by cases e) hC)
   (.cons (.func .nil (.cons (.ptrf (cs:=cells.toList) (Er hcells) fun j x hj=>⟨by rw [bu hc,Nat.zero_add];simpa using hj,aV hc⟩) .nil)) .nil)
 refine (hs w cd m.KQ hr').mono ?_
 rintro e w' ⟨x,rfl,hbl,hx⟩
 obtain ⟨m1,l1⟩:=m.Jp hbl
 exact ⟨_,x,rfl,⟨m1,l1,Fl.refl _⟩,II m hx⟩
def Wm:aw:=iJ Pz (fun _ _=>[]) [(47,G47),(126,PL)] [] []
theorem P6:aW Wm:=aj ak ⟨s47,TY,trivial⟩ trivial trivial
theorem Xh (p:Pos) (m:Mv):db Wm 14 124 [Mv.av m,.ptrf (.func 125 [] [.ptrf (Pos.av p)])]=Tr.br (qN p m) (Tr.ret (AV.bool (!dp p m))) Tr.fail:=by kernel_rfl
theorem W1 (p:Pos) (m:Mv):db Wm 14 124 [Mv.av m,.ptrf (.func 127 [] [.ptrf (Pos.av p)])]=Tr.br (zy p m) (Tr.ret (AV.bool (!nM p m))) Tr.fail:=by kernel_rfl
theorem X1 (p:Pos) (m:Mv) (h:qN p m=true):cF Pz 124 [Mv.av m,.ptrf (.func 125 [] [.ptrf (Pos.av p)])] (.bool (!dp p m)) :=
 (rJ (d:=dB) P6 (Xh p m) (bL (cL rfl)) (by rw [h];rfl)).1
theorem WV (p:Pos) (m:Mv) (h:zy p m=true):cF Pz 124 [Mv.av m,.ptrf (.func 127 [] [.ptrf (Pos.av p)])] (.bool (!nM p m)) :=
 (rJ (d:=dB) P6 (W1 p m) (bL (cL rfl)) (by rw [h];rfl)).1
open Classical in
def Cn (p:Pos):Bool:=shut (decide (∀ m,qN p m=true))
theorem sZ {p:Pos}:Cn p=true ↔ ∀ m,qN p m=true:=by
 unfold Cn
 rw [rO]
 simp
open Classical in
def L1 (p:Pos):Bool:=shut (decide (∀ m,zy p m=true))
theorem wD {p:Pos}:L1 p=true ↔ ∀ m,zy p m=true:=by
 unfold L1
 rw [rO]
 simp
def kept (f:Nat) (p:Pos) (l:M'):M':=l.filter (bif f.beq 125 then dp p else nM p)
def gP (f:Nat) (p:Pos) (l:M'):Bool:=decide (l.length≤wU)&&bif f.beq 125 then Cn p else f.beq 127&&L1 p
def EE:List AV→Hp→Tr bY:=fun xs h=>match xs with
 | [.list .mv l _,.func f [] [.ptr b 0]]=>match h.heap[b]? with
  | some [.int .u8 v,.ints .u8 64 bd,.u64 pr,.ints .u8 12 pk,.int .u8 tn,.ints .i8 4 rk,.int .i8 ps,.ints .u8 2 ck,.int .i64 hf,.int .i64 fl] =>
   .guard (gP f ⟨v,bd,pr,pk,tn,rk,ps,ck,hf,fl⟩ l) (.ret (.ret (.list .mv (kept f ⟨v,bd,pr,pk,tn,rk,ps,ck,hf,fl⟩ l) .fresh) h))
  | _=>.fail
 | _=>.fail
theorem NP:∃ fn,Pz.funcs[122]?=some fn∧fn.body.isSome=true:=by
 have h:(match Pz.funcs[122]? with
  | some fn=>fn.body.isSome
  | none=>false)=true:=by kernel_rfl
 split at h
 ·rename_i fn hf
  exact ⟨fn,hf,h⟩
 ·cases h
theorem Is:gT Pz 122 EE:=by
 intro xs h res he
 unfold EE at he
 split at he
 ·rename_i l tk f b
  split at he
  ·rename_i v bd pr pk tn rk ps ck hf fl hb
   simp only [get_guard,au,A'] at he
   obtain ⟨h1,rfl⟩:=he
   refine ⟨?_,NP⟩
   unfold gP at h1
   simp only [E',decide_eq_true_eq] at h1
   obtain ⟨hl,h1⟩:=h1
   unfold kept
   cases hf3:f.beq 125 with
   | true =>
    rw [hf3] at h1
    obtain rfl:=Nat.eq_of_beq_eq_true hf3
    exact DS (p:=⟨v,bd,pr,pk,tn,rk,ps,ck,hf,fl⟩) hb (Q7 _ _ _ l hl fun m=>X1 _ m (sZ.1 h1 m))
   | false =>
    rw [hf3] at h1
    simp only [cond_false,E'] at h1
    obtain rfl:=Nat.eq_of_beq_eq_true h1.1
    exact DS (p:=⟨v,bd,pr,pk,tn,rk,ps,ck,hf,fl⟩) hb (Q7 _ _ _ l hl fun m=>WV _ m (wD.1 h1.2 m))
  ·simp at he
 ·simp at he
def K64:KT:=[(64,37,[(0,(1::(rn 12 5 [28,29,30]))),(1,[1,17,28,29,30]),(2,[2]),(3,[1,3,28,29,30]),(4,[1,3,4,28,29,30]),(5,[1,3,4,5,28,29,30]),(6,[3,4,5,31]),(7,[4]),(8,[2])]),(122,9,[(0,[0,3]),(1,[4])]),(125,7,[(0,[1,2]),(1,[3])]),(127,7,[(0,[1,2]),(1,[3])]),(128,9,[(0,[0,1]),(1,[4])]),(110,19,[(0,[0,1]),(1,[0,1,7,8]),(2,[0,1,7,8,9]),(3,[0,1,5,7,8]),(4,[0,1,5,7,8,16]),(5,[4]),(6,[0,1,7,8]),(7,[4])])]
def Zo:aw:=bO Pz K64 [(120,Iz),(66,D4),(47,G47),(126,PL),(121,JS)] [] [(122,EE)]
theorem VW:aW Zo:=aj ak ⟨PN,Fy,s47,TY,MO,trivial⟩ trivial ⟨Is,trivial⟩
def Qp (p1:M') (p2:Int) (p3:Pos) (x:(Int)):St:=St.mk (.list .mv p1 .fresh::.func 127 [] [.ptr 0 0]::(an 5 (.int .i64 p2::.int .i64 x::(an 10 [])))) (Hp.mk [(pc p3 [])] [0] [] 0 0 0)
def RH (p1:M') (p2:Int) (p3:Pos):(Int) ⊕ (Int×Bool)→Out
 | (.inl (y))=>.ret (St.mk (an 4 (AV.int .i64 y::(an 14 []))) (Hp.mk [(pc p3 [])] [0] [] 0 0 0))
 | (.inr (y))=>.exit 0 (St.mk (AV.list ET.mv p1 Tk.fresh::AV.func 127 [] [AV.ptr 0 0]::(an 5 (AV.int .i64 p2::AV.int .i64 y.1::AV.bool y.2::(an 9 [])))) (Hp.mk [(pc p3 [])] [0] [] 0 0 0))
def VE (p1:M') (p2:Int) (p3:Pos) (x:(Int)):aG (Int) ((Int) ⊕ (Int×Bool)):=(bif decide (x<p2) then (bif nM p3 (p1.getD x.toNat default) then (aG.out (.inl ((x)))) else (aG.go (wr .i64 (x+1)))) else (aG.out (.inr ((x,decide (x<p2))))))
def OE (p1:M') (p2:Int) (p3:Pos) (x:(Int)):Bool:=(bif decide (x<p2) then (decide (0≤x)&&decide (x<Int.ofNat p1.length)&&(zy (p3) (p1.getD x.toNat default)&&true)) else true)
def eN (p1:M') (p2:Int) (p3:Pos) (x:(Int)):Option ((Int) ⊕ (Int×Bool)):=cO (fun x=>bif OE p1 p2 p3 x then VE p1 p2 p3 x else .bad) many x
abbrev RS {α:Type} (k:M'→Int→Pos→(Int)→α) (s:St):α:=wP s 0 fun q0=>k (tL (ET.mv) (tT s 0)) (tI (tT s 7)) q0 ((tI (tT s 8)))
theorem aaj (p1:M') (p2:Int) (p3:Pos) (x:(Int)) (r:(Int) ⊕ (Int×Bool)) (h:eN p1 p2 p3 x=some r):ay Pz (aT Pz 110 2) (Qp p1 p2 p3 x) (RH p1 p2 p3 r):=ay.vC (m:=12) (fn:=110) VW (RS fun _ _ _ x=>some x) (fun o=>match o with | .ret s=>some (.inl (tI (tT s 4))) | .exit 0 s=>some (.inr ((tI (tT s 8)),(tB (tT s 9)))) | _=>none) (fun r=>by cases r<;>rfl) (fun _=>by kernel_rfl) (fun _=>by kernel_rfl) (fun _=>by kernel_rfl) (fun _=>by kernel_rfl) many x r h
def QQ (b:Code) (s:St):Tr Out:=RS (fun p1 p2 p3 x=>yX b (aT Pz 110 2) s (Qp p1 p2 p3 x) (eN p1 p2 p3 x) (RH p1 p2 p3)) s
theorem VR:∀ b,aM Pz b (QQ b):=fun _ _ _ h=>dG (aaj _ _ _ _) h
def B64:aw:=bO Pz K64 [(120,Iz),(66,D4),(47,G47),(126,PL),(121,JS)] [(110,2,QQ)] [(122,EE)]
theorem ajT:aW B64:=aj ak ⟨PN,Fy,s47,TY,MO,trivial⟩ ⟨VR,trivial⟩ ⟨Is,trivial⟩
def kZ (a:Pos):M':=(bif lj a.variant a.aa then (bif !pY a a.aa then ([]) else (bif a.variant==4 then (bif bI ((eN (kept 125 a (b8 a)) (Int.ofNat (kept 125 a (b8 a)).length) a 0).getD default) then (bif decide (gl ((eN (kept 125 a (b8 a)) (Int.ofNat (kept 125 a (b8 a)).length) a 0).getD default)≥0) then (kept 127 a (kept 125 a (b8 a))) else (kept 125 a (b8 a))) else (kept 125 a (b8 a))) else (kept 125 a (b8 a)))) else (bif a.variant==4 then (bif bI ((eN (kept 125 a (b8 a)) (Int.ofNat (kept 125 a (b8 a)).length) a 0).getD default) then (bif decide (gl ((eN (kept 125 a (b8 a)) (Int.ofNat (kept 125 a (b8 a)).length) a 0).getD default)≥0) then (kept 127 a (kept 125 a (b8 a))) else (kept 125 a (b8 a))) else (kept 125 a (b8 a))) else (kept 125 a (b8 a))))
def AP (a:Pos):Bool:=(pb (a.variant) (a.aa)&&(bif lj a.variant a.aa then (sv (a) (a.aa)&&(bif !pY a a.aa then true else (Al (a)&&(gP 125 a (b8 a)&&(bif a.variant==4 then ((eN (kept 125 a (b8 a)) (Int.ofNat (kept 125 a (b8 a)).length) a 0).isSome&&bif bI ((eN (kept 125 a (b8 a)) (Int.ofNat (kept 125 a (b8 a)).length) a 0).getD default) then (bif decide (gl ((eN (kept 125 a (b8 a)) (Int.ofNat (kept 125 a (b8 a)).length) a 0).getD default)≥0) then (gP 127 a (kept 125 a (b8 a))&&true) else true) else true) else true))))) else (Al (a)&&(gP 125 a (b8 a)&&(bif a.variant==4 then ((eN (kept 125 a (b8 a)) (Int.ofNat (kept 125 a (b8 a)).length) a 0).isSome&&bif bI ((eN (kept 125 a (b8 a)) (Int.ofNat (kept 125 a (b8 a)).length) a 0).getD default) then (bif decide (gl ((eN (kept 125 a (b8 a)) (Int.ofNat (kept 125 a (b8 a)).length) a 0).getD default)≥0) then (gP 127 a (kept 125 a (b8 a))&&true) else true) else true) else true)))))
theorem P64 (a:Pos) (h:AP a=true):PS Pz 64 [Pos.av a] ((dL .mv).res (kZ a)):=pq14 ajT h
def G64:GT:=g1 aY (fun a=>cp (AP a) ((dL .mv).res (kZ a)))
theorem s64:Sound Pz 64 G64:=aH fun a=>aC (P64 a)
def ZL:KT:=[(128,9,[(0,[0,1]),(1,[4])]),(187,40,[(0,[1,2,16]),(1,[1,2,3,16]),(2,[1,2,4,5,16]),(3,[1,2,4,5,13]),(4,[2]),(5,[1,2,4,19]),(6,[2]),(7,[1,2,22]),(8,[2]),(9,[1,2,26]),(10,[2]),(11,[1,2,6]),(12,[1,2,7]),(13,[2,37]),(14,[2]),(15,[2])]),(110,19,[(0,[0,1]),(1,[0,1,7,8]),(2,[0,1,7,8,9]),(3,[0,1,5,7,8]),(4,[0,1,5,7,8,16]),(5,[4]),(6,[0,1,7,8]),(7,[4])]),(233,8,[(0,[0,1]),(1,[3])]),(234,14,[(0,[1,2,10,11,12]),(1,[3])])]
def VX:aw:=bO Pz ZL [(64,G64),(145,ll),(229,Bo)] [] []
theorem PU:aW VX:=aj ak ⟨s64,lX,Ch,trivial⟩ trivial trivial
def IM (p1:M') (p2:Int) (p3:Pos) (p4:Int) (x:(Int)):St:=St.mk (.list .mv p1 .fresh::.func 234 [] [.ptr 2 0]::(an 5 (.int .i64 p2::.int .i64 x::(an 10 [])))) (Hp.mk [(pc p3 []),[.int .u8 0,.int .u8 0],[.int .i64 p4]] [] [] 0 0 0)
def Lu (p1:M') (p2:Int) (p3:Pos) (p4:Int):(Int) ⊕ (Int×Bool)→Out
 | (.inl (y))=>.ret (St.mk (an 4 (AV.int .i64 y::(an 14 []))) (Hp.mk [(pc p3 []),[AV.int .u8 0,AV.int .u8 0],[AV.int .i64 p4]] [] [] 0 0 0))
 | (.inr (y))=>.exit 0 (St.mk (AV.list ET.mv p1 Tk.fresh::AV.func 234 [] [AV.ptr 2 0]::(an 5 (AV.int .i64 p2::AV.int .i64 y.1::AV.bool y.2::(an 9 [])))) (Hp.mk [(pc p3 []),[AV.int .u8 0,AV.int .u8 0],[AV.int .i64 p4]] [] [] 0 0 0))
def EM (p1:M') (p2:Int) (p3:Pos) (p4:Int) (x:(Int)):aG (Int) ((Int) ⊕ (Int×Bool)):=(bif decide (x<p2) then (bif wr .i64 (p1.getD x.toNat default).az==p4 then (bif decide ((p1.getD x.toNat default).to≥56) then (aG.out (.inl ((x)))) else (aG.go (wr .i64 (x+1)))) else (aG.go (wr .i64 (x+1)))) else (aG.out (.inr ((x,decide (x<p2))))))
def zp (p1:M') (p2:Int) (p3:Pos) (p4:Int) (x:(Int)):Bool:=(bif decide (x<p2) then (decide (0≤x)&&decide (x<Int.ofNat p1.length)&&true) else true)
def eR (p1:M') (p2:Int) (p3:Pos) (p4:Int) (x:(Int)):Option ((Int) ⊕ (Int×Bool)):=cO (fun x=>bif zp p1 p2 p3 p4 x then EM p1 p2 p3 p4 x else .bad) many x
abbrev HY {α:Type} (k:M'→Int→Pos→Int→(Int)→α) (s:St):α:=wP s 0 fun q0=>k (tL (ET.mv) (tT s 0)) (tI (tT s 7)) q0 (tI (tH s 2 0)) ((tI (tT s 8)))
theorem UO (p1:M') (p2:Int) (p3:Pos) (p4:Int) (x:(Int)) (r:(Int) ⊕ (Int×Bool)) (h:eR p1 p2 p3 p4 x=some r):ay Pz (aT Pz 110 2) (IM p1 p2 p3 p4 x) (Lu p1 p2 p3 p4 r):=ay.vC (m:=12) (fn:=110) PU (HY fun _ _ _ _ x=>some x) (fun o=>match o with | .ret s=>some (.inl (tI (tT s 4))) | .exit 0 s=>some (.inr ((tI (tT s 8)),(tB (tT s 9)))) | _=>none) (fun r=>by cases r<;>rfl) (fun _=>by kernel_rfl) (fun _=>by kernel_rfl) (fun _=>by kernel_rfl) (fun _=>by kernel_rfl) many x r h
def Im (b:Code) (s:St):Tr Out:=HY (fun p1 p2 p3 p4 x=>yX b (aT Pz 110 2) s (IM p1 p2 p3 p4 x) (eR p1 p2 p3 p4 x) (Lu p1 p2 p3 p4)) s
theorem PD:∀ b,aM Pz b (Im b):=fun _ _ _ h=>dG (UO _ _ _ _ _) h
def aiP:aw:=bO Pz ZL [(64,G64),(145,ll),(229,Bo)] [(110,2,Im)] []
theorem aa8:aW aiP:=aj ak ⟨s64,lX,Ch,trivial⟩ ⟨PD,trivial⟩ trivial
def yM (a:Pos):(Int×Int):=(bif decide (aZ a 0 6≥56) then (bif decide (aZ a 1 6≥56) then ⟨(3),(6)⟩ else (bif decide (aZ a 1 6≥56) then ⟨((cY 1 6).1),((cY 1 6).2)⟩ else (bif !decide (aZ a 0 6≥56) then ⟨(0),(0)⟩ else (bif a.aa==0 then ⟨((cY 0 6).1),((cY 0 6).2)⟩ else (bif bI ((eR (kZ a) (Int.ofNat (kZ a).length) a (aZ a 1 6) 0).getD default) then (bif decide (gl ((eR (kZ a) (Int.ofNat (kZ a).length) a (aZ a 1 6) 0).getD default)≥0) then ⟨(0),(0)⟩ else ⟨((cY 0 6).1),((cY 0 6).2)⟩) else ⟨((cY 0 6).1),((cY 0 6).2)⟩))))) else (bif decide (aZ a 1 6≥56) then ⟨((cY 1 6).1),((cY 1 6).2)⟩ else (bif !decide (aZ a 0 6≥56) then ⟨(0),(0)⟩ else (bif a.aa==0 then ⟨((cY 0 6).1),((cY 0 6).2)⟩ else (bif bI ((eR (kZ a) (Int.ofNat (kZ a).length) a (aZ a 1 6) 0).getD default) then (bif decide (gl ((eR (kZ a) (Int.ofNat (kZ a).length) a (aZ a 1 6) 0).getD default)≥0) then ⟨(0),(0)⟩ else ⟨((cY 0 6).1),((cY 0 6).2)⟩) else ⟨((cY 0 6).1),((cY 0 6).2)⟩)))))
def A8 (a:Pos):Bool:=(iW (a) (0) (6)&&(iW (a) (1) (6)&&(bif decide (aZ a 0 6≥56) then (bif decide (aZ a 1 6≥56) then true else (bif decide (aZ a 1 6≥56) then true else (bif !decide (aZ a 0 6≥56) then true else (bif a.aa==0 then true else (iW (a) (1) (6)&&(AP (a)&&((eR (kZ a) (Int.ofNat (kZ a).length) a (aZ a 1 6) 0).isSome&&bif bI ((eR (kZ a) (Int.ofNat (kZ a).length) a (aZ a 1 6) 0).getD default) then true else true))))))) else (bif decide (aZ a 1 6≥56) then true else (bif !decide (aZ a 0 6≥56) then true else (bif a.aa==0 then true else (iW (a) (1) (6)&&(AP (a)&&((eR (kZ a) (Int.ofNat (kZ a).length) a (aZ a 1 6) 0).isSome&&bif bI ((eR (kZ a) (Int.ofNat (kZ a).length) a (aZ a 1 6) 0).getD default) then true else true)))))))))
theorem agt (a:Pos) (h:A8 a=true):PS Pz 187 [Pos.av a] ((dR .u8 .u8).res (yM a)):=pq14 aa8 h
def Zg:GT:=g1 aY (fun a=>cp (A8 a) ((dR .u8 .u8).res (yM a)))
theorem ajm:Sound Pz 187 Zg:=aH fun a=>aC (agt a)
def K63:KT:=[(63,25,[(0,[1,2,8,9,10]),(1,[1,2,11]),(2,[2]),(3,[1,2,3]),(4,[1,2,3,19]),(5,[2]),(6,[2])])]
def B63:aw:=bO Pz K63 [(119,Z3),(182,aav),(183,W8),(184,aaY),(185,YV),(186,X9),(187,Zg)] [] []
theorem aeH:aW B63:=aj ak ⟨afa,ahV,aiK,aey,ahJ,aes,ajm,trivial⟩ trivial trivial
def rL (a:Pos):(Int×Int):=(bif decide (a.variant≥9) then ⟨(0),(0)⟩ else (bif decide (a.aa>1) then ⟨(0),(0)⟩ else (bif a.variant==Int.ofNat 0 then ⟨(0),(0)⟩ else (bif a.variant==Int.ofNat 1 then ⟨(0),(0)⟩ else (bif a.variant==Int.ofNat 2 then ⟨(0),(0)⟩ else (bif a.variant==Int.ofNat 3 then ⟨((xX a).1),((xX a).2)⟩ else (bif a.variant==Int.ofNat 4 then ⟨((yu a).1),((yu a).2)⟩ else (bif a.variant==Int.ofNat 5 then ⟨((xQ a).1),((xQ a).2)⟩ else (bif a.variant==Int.ofNat 6 then ⟨((yg a).1),((yg a).2)⟩ else (bif a.variant==Int.ofNat 7 then ⟨((yC a).1),((yC a).2)⟩ else ⟨((yM a).1),((yM a).2)⟩))))))))))
def Gt (a:Pos):Bool:=(bif decide (a.variant≥9) then true else (bif decide (a.aa>1) then true else (decide (0≤a.variant)&&decide (a.variant<Int.ofNat 9)&&(bif a.variant==Int.ofNat 0 then true else (bif a.variant==Int.ofNat 1 then true else (bif a.variant==Int.ofNat 2 then true else (bif a.variant==Int.ofNat 3 then (ER (a)&&true) else (bif a.variant==Int.ofNat 4 then (Bh (a)&&true) else (bif a.variant==Int.ofNat 5 then (zn (a)&&true) else (bif a.variant==Int.ofNat 6 then (Bt (a)&&true) else (bif a.variant==Int.ofNat 7 then (Dt (a)&&true) else (a.variant==Int.ofNat 8&&(A8 (a)&&true)))))))))))))
theorem P63 (a:Pos) (h:Gt a=true):PS Pz 63 [Pos.av a] ((dR .u8 .u8).res (rL a)):=pq14 aeH h
def G63:GT:=g1 aY (fun a=>cp (Gt a) ((dR .u8 .u8).res (rL a)))
theorem s63:Sound Pz 63 G63:=aH fun a=>aC (P63 a)
def K30:KT:=[(30,9,[(0,[1]),(1,[1,6]),(2,[2]),(3,[2])])]
def B30:aw:=bO Pz K30 [(63,G63),(64,G64)] [] []
theorem adN:aW B30:=aj ak ⟨s63,s64,trivial⟩ trivial trivial
def ba (a:Pos):M':=(bif (rL a).1 != 0 then ([]) else (kZ a))
def lO (a:Pos):Bool:=(Gt (a)&&(bif (rL a).1 != 0 then true else (AP (a)&&true)))
theorem P30 (a:Pos) (h:lO a=true):PS Pz 30 [Pos.av a] ((dL .mv).res (ba a)):=pq14 adN h
def MI:GT:=g1 aY (fun a=>cp (lO a) ((dL .mv).res (ba a)))
theorem PZ:Sound Pz 30 MI:=aH fun a=>aC (P30 a)
end Kz
end
noncomputable section
namespace Kz
open Go
theorem t121 (p:Pos) (b:Int):sv p b=true:=ao (t145 _ _ _) fun _=>rfl
noncomputable section
variable {p:Pos} (hp:aA p)
include hp
theorem LK (m:Mv):0≤(cS p m).1.variant:=by
 obtain ⟨_,h1,h2⟩:=dN hp m
 by_cases hm:m∈b8 p
 ·rw [(h1 hm).2.2.1];exact hp.v0
 ·rw [h2 hm];exact hp.v0
theorem t126 (m:Mv):qN p m=true:=by
 have hv:=LK hp m
 have t0:=hp.t0
 have b1:=jF (1-p.aa)
 unfold qN
 refine ao (dN hp m).1 fun _=>?_
 have k1:pb p.variant p.aa=true:=t120 hp.v0 t0
 have k2:mj (cS p m).1 p.aa=true:=t149 hv t0
 have k3:mj (cS p m).1 (wr .u8 (1-p.aa))=true:=t149 hv b1
 repeat' (first | with_reducible rfl | with_reducible exact k1 | with_reducible exact k2 | with_reducible exact k3 | with_reducible exact t121 _ _ | refine ao ?_ (fun _=>?_) | refine ar (fun _=>?_) (fun _=>?_))
theorem GK {l:M'} (hl:l.length≤1000000):gP 125 p l=true:=by
 unfold gP
 rw [show (125:Nat).beq 125=true from rfl,cond_true]
 have h1:decide (l.length≤wU)=true:=by unfold wU;simp;omega
 rw [h1,Bool.true_and]
 exact sZ.2 (t126 hp)
theorem Fi {l:M'} (hl:l.length≤1000000):gP 127 p l=true:=by
 unfold gP
 rw [show (127:Nat).beq 125=false from rfl,cond_false,show (127:Nat).beq 127=true from rfl,Bool.true_and]
 have h1:decide (l.length≤wU)=true:=by unfold wU;simp;omega
 rw [h1,Bool.true_and]
 exact wD.2 (t47 hp.v0)
omit hp in
theorem rG (l:M'):kept 125 p l=l.filter (dp p):=by
 unfold kept
 rw [show (125:Nat).beq 125=true from rfl,cond_true]
omit hp in
theorem Ok (l:M'):kept 127 p l=l.filter (nM p):=by
 unfold kept
 rw [show (127:Nat).beq 125=false from rfl,cond_false]
theorem Zd (l:M') (hl:l.length≤1000000):∃ r,eN l (Int.ofNat l.length) p 0=some r ∧
  match r with
  | .inl i=>0≤i∧∃ m,m∈l∧nM p m=true
  | .inr _=>∀ m,m∈l→nM p m=false:=by
 refine aU (I:=fun x=>0≤x∧x≤(l.length:Int)∧∀ m,m∈l.take x.toNat→nM p m=false) (μ:=fun x=>((l.length:Int)-x).toNat) ?_ _ ⟨by simp,by simp,by simp⟩ (by simp;omega)
 rintro n ⟨h0,h1,h2⟩
 by_cases hc:n<l.length
 ·have hlt:n.toNat<l.length:=by omega
  refine ⟨ar (fun _=>ao (by simp [h0];exact hc) fun _=>ao (t47 hp.v0 _) fun _=>rfl) fun _=>rfl,aq (fun _=>?_) fun h=>absurd h (by simpa using hc)⟩
  refine aq (fun h=>⟨h0,_,ct hlt,h⟩) fun h=>?_
  rw [aF (n:=n+1) (by omega) (by omega)]
  refine ⟨⟨by omega,by omega,?_⟩,by dsimp only;omega⟩
  rw [show (n+1).toNat=n.toNat+1 by omega,List.take_succ_eq_append_getElem hlt]
  rw [List.getD_eq_getElem?_getD,I' hlt] at h
  intro m hm
  simp only [List.mem_append,List.mem_singleton] at hm
  rcases hm with hm | rfl
  ·exact h2 m hm
  ·exact h
 ·refine ⟨ar (fun h=>absurd h (by simpa using hc)) fun _=>rfl,aq (fun h=>absurd h (by simpa using hc)) fun _=>?_⟩
  show ∀ m,m∈l→nM p m=false
  rw [List.take_of_length_le (by omega)] at h2
  exact h2
theorem J0 (l:M') (hl:l.length≤1000000) {α:Type} (x y:α) :
  (bif bI ((eN l (Int.ofNat l.length) p 0).getD default) then bif decide (gl ((eN l (Int.ofNat l.length) p 0).getD default)≥0) then x else y else y)=bif l.any (nM p) then x else y:=by
 have h:=(aK (Zd hp l hl)).2
 generalize (eN l (Int.ofNat l.length) p 0).getD default=r at h ⊢
 cases r with
 | inl i =>
  obtain ⟨h1,m,h2,h3⟩:=h
  have:l.any (nM p)=true:=List.any_eq_true.2 ⟨m,h2,h3⟩
  simp [bI,gl,h1,this]
 | inr z =>
  have:l.any (nM p)=false:=by
   rw [List.any_eq_false]
   intro m hm
   rw [h m hm];simp
  simp [bI,this]
theorem sR:((b8 p).filter (dp p)).length≤20802:=Nat.le_trans (List.length_filter_le _ _) (jf hp)
theorem t64:AP p=true:=by
 have h1:=jf hp
 have h2:=sR hp
 have k1:pb p.variant p.aa=true:=t120 hp.v0 hp.t0
 have k2:Al p=true:=t66 hp
 have k3:gP 125 p (b8 p)=true:=GK hp (by omega)
 have k4:gP 127 p (kept 125 p (b8 p))=true:=Fi hp (by rw [rG];omega)
 have k5:(eN (kept 125 p (b8 p)) (Int.ofNat (kept 125 p (b8 p)).length) p 0).isSome=true:=(aK (Zd hp _ (by rw [rG];omega))).1
 unfold AP
 repeat' (first | with_reducible rfl | with_reducible exact k1 | with_reducible exact k2 | with_reducible exact k3 | with_reducible exact k4 | with_reducible exact k5 | with_reducible exact t121 _ _ | refine ao ?_ (fun _=>?_) | refine ar (fun _=>?_) (fun _=>?_))
def j5 (p:Pos):M':=bif p.variant==4 then bif ((b8 p).filter (dp p)).any (nM p) then ((b8 p).filter (dp p)).filter (nM p) else (b8 p).filter (dp p) else (b8 p).filter (dp p)
theorem yz:kZ p=bif lj p.variant p.aa then bif !pY p p.aa then [] else j5 p else j5 p:=by
 have h2:=sR hp
 unfold kZ
 have e:=fun (x y:M')=>J0 hp (kept 125 p (b8 p)) (by rw [rG];omega) x y
 rw [e]
 unfold j5
 rw [Ok,rG]
omit hp in
theorem uT {m:Mv} (h:m∈j5 p):m∈b8 p∧dp p m=true:=by
 revert h
 unfold j5
 have k:m∈(b8 p).filter (dp p)→m∈b8 p∧dp p m=true:=fun h=>by simpa using h
 refine aq (P:=fun l:M'=>m∈l→_) (fun _=>aq (P:=fun l:M'=>m∈l→_) (fun _ h=>k (List.mem_filter.1 h).1) fun _=>k) fun _=>k
theorem yO {m:Mv} (h:m∈kZ p):m∈b8 p∧dp p m=true:=by
 rw [yz hp] at h
 revert h
 exact aq (P:=fun l:M'=>m∈l→_) (fun _=>aq (P:=fun l:M'=>m∈l→_) (fun _ h=>by cases h) fun _=>uT) fun _=>uT
omit hp in
theorem Ab (hl:((b8 p).filter (dp p)).length≤20802):(j5 p).length≤20802:=by
 unfold j5
 refine aq (P:=fun l:M'=>l.length≤20802) (fun _=>aq (P:=fun l:M'=>l.length≤20802) (fun _=>Nat.le_trans (List.length_filter_le _ _) hl) fun _=>hl) fun _=>hl
theorem yy:(kZ p).length≤20802:=by
 have h:=Ab (sR hp)
 rw [yz hp]
 exact aq (P:=fun l:M'=>l.length≤20802) (fun _=>aq (P:=fun l:M'=>l.length≤20802) (fun _=>by simp) fun _=>h) fun _=>h
omit hp in
theorem Zh (l:M') (hl:l.length≤1000000) (q:Pos) (k:Int):(eR l (Int.ofNat l.length) q k 0).isSome=true:=by
 refine (aK (Q:=fun _=>True) (aU (I:=fun x=>0≤x∧x≤(l.length:Int)) (μ:=fun x=>((l.length:Int)-x).toNat) ?_ _ ⟨by simp,by simp⟩ (by simp;omega))).1
 rintro n ⟨h0,h1⟩
 by_cases hc:n<l.length
 ·refine ⟨ar (fun _=>ao (by simp [h0];exact hc) fun _=>rfl) fun _=>rfl,aq (fun _=>?_) fun h=>absurd h (by simpa using hc)⟩
  rw [aF (n:=n+1) (by omega) (by omega)]
  have go:zE (fun x:Int=>0≤x∧x≤(l.length:Int)) (fun _:Int ⊕ (Int×Bool)=>True) (fun x=>((l.length:Int)-x).toNat) ((l.length:Int)-n).toNat (.go (n+1)):=⟨⟨by omega,by omega⟩,by dsimp only;omega⟩
  exact aq (fun _=>aq (fun _=>trivial) fun _=>go) fun _=>go
 ·exact ⟨ar (fun h=>absurd h (by simpa using hc)) fun _=>rfl,aq (fun h=>absurd h (by simpa using hc)) fun _=>trivial⟩
theorem t187:A8 p=true:=by
 have h:=yy hp
 have k1:AP p=true:=t64 hp
 have k2:(eR (kZ p) (Int.ofNat (kZ p).length) p (aZ p 1 6) 0).isSome=true:=Zh _ (by omega) _ _
 unfold A8
 repeat' (first | with_reducible rfl | with_reducible exact k1 | with_reducible exact k2 | with_reducible exact t145 _ _ _ | refine ao ?_ (fun _=>?_) | refine ar (fun _=>?_) (fun _=>?_))
omit hp in
theorem t182:ER p=true:=ao (t121 _ _) fun _=>rfl
theorem t183 (ht:p.aa≤1):zn p=true:=by
 have t0:=hp.t0
 unfold zn
 rw [ni (n:=1-p.aa) (by omega) (by omega)]
 refine ao (by simp;omega) fun _=>ar (fun _=>rfl) fun _=>ao (by simp;omega) fun _=>rfl
omit hp in
theorem t184:Bt p=true:=by
 unfold Bt
 repeat' (first | with_reducible rfl | with_reducible exact t145 _ _ _ | refine ao ?_ (fun _=>?_) | refine ar (fun _=>?_) (fun _=>?_))
omit hp in
theorem t185:Dt p=true:=ao (t147 _ _ _) fun _=>rfl
omit hp in
theorem t186:Bh p=true:=by
 unfold Bh
 repeat' (first | with_reducible rfl | with_reducible exact t147 _ _ _ | refine ao ?_ (fun _=>?_) | refine ar (fun _=>?_) (fun _=>?_))
theorem t63:Gt p=true:=by
 have v0:=hp.v0
 unfold Gt
 refine ar (fun _=>rfl) fun h9=>ar (fun _=>rfl) fun ht=>?_
 have h9:p.variant<9:=by simpa using h9
 have ht:p.aa≤1:=by simpa using ht
 refine ao (by simp;omega) fun _=>?_
 have k3:=t182 (p:=p)
 have k4:=t186 (p:=p)
 have k5:=t183 hp ht
 have k6:=t184 (p:=p)
 have k7:=t185 (p:=p)
 have k8:=t187 hp
 refine ar (fun _=>rfl) fun n0=>ar (fun _=>rfl) fun n1=>ar (fun _=>rfl) fun n2=>ar (fun _=>ao k3 fun _=>rfl) fun n3=>ar (fun _=>ao k4 fun _=>rfl) fun n4=>ar (fun _=>ao k5 fun _=>rfl) fun n5=>ar (fun _=>ao k6 fun _=>rfl) fun n6=>ar (fun _=>ao k7 fun _=>rfl) fun n7=>ao ?_ fun _=>ao k8 fun _=>rfl
 simp only [beq_eq_false_iff_ne,ne_eq,beq_iff_eq,Int.ofNat_eq_natCast] at *
 omega
theorem t30:lO p=true:=ao (t63 hp) fun _=>ar (fun _=>rfl) fun _=>ao (t64 hp) fun _=>rfl
theorem xz:ba p=bif (rL p).1 != 0 then [] else kZ p:=rfl
theorem kg:(ba p).length≤20802:=by
 unfold ba
 exact aq (P:=fun l:M'=>l.length≤20802) (fun _=>by simp) fun _=>yy hp
end
def lA (r:Int×Int):Prop:=r=(0,0)∨((r.1=1∨r.1=2)∧(r.2=6∨r.2=7∨r.2=8))∨r=(3,6)
theorem I4 {c w:Int} (hc:c=0∨c=1) (hw:w=6∨w=7∨w=8):lA (cY c w):=by
 refine .inr (.inl ⟨?_,hw⟩)
 rcases hc with rfl | rfl
 ·exact .inl rfl
 ·exact .inr rfl
theorem dW {c w:Int} (hc:c=0∨c=1) (hw:w=6∨w=7∨w=8):lA ((cY c w).1,(cY c w).2):=I4 hc hw
theorem uv:lA (0,0) := .inl rfl
theorem EL {p:Pos} (hp:aA p):lA (rL p)∧(((rL p).1=3∨(p.variant<3))→(rL p).1=0∨p.variant=8)∧((rL p).1≠0→3≤p.variant∧p.variant<9∧p.aa≤1):=by
 have t0:=hp.t0
 have v0:=hp.v0
 unfold rL
 have nw:∀ {P:Prop},lA ((0:Int),(0:Int))∧((((0:Int),(0:Int)).1=3∨P)→((0:Int),(0:Int)).1=0∨p.variant=8)∧(((0:Int),(0:Int)).1≠0→3≤p.variant∧p.variant<9∧p.aa≤1):=fun {P}=>⟨uv,fun _=>.inl rfl,fun h=>absurd rfl h⟩
 have ci:=fun {d:Bool} {x y:Int×Int} => @aq (Int×Int) (fun r=>lA r∧((r.1=3∨(p.variant<3))→r.1=0∨p.variant=8)∧(r.1≠0→3≤p.variant∧p.variant<9∧p.aa≤1)) d x y
 refine ci (fun _=>nw) fun h9=>ci (fun _=>nw) fun ht=>?_
 have h9:p.variant<9:=by simpa using h9
 have ht:p.aa≤1:=by simpa using ht
 have hc:p.aa=0∨p.aa=1:=by omega
 have hc':wr .u8 (1-p.aa)=0∨wr .u8 (1-p.aa)=1:=by rw [ni (by omega) (by omega)];omega
 have one:∀ (r:Int×Int),lA r→r.1≠3→3≤p.variant→lA r∧((r.1=3∨(p.variant<3))→r.1=0∨p.variant=8)∧(r.1≠0→3≤p.variant∧p.variant<9∧p.aa≤1):=fun r h1 h2 h3=>⟨h1,fun h=>by rcases h with h | h;exact absurd h h2;omega,fun _=>⟨h3,h9,ht⟩⟩
 have n3:∀ {c w:Int},(c=0∨c=1)→(cY c w).1≠3:=fun {c w} h=>by rcases h with rfl | rfl<;>(show wr .u8 _≠3;decide)
 have z3:(((0:Int),(0:Int)).1)≠3:=by decide
 have cw:=fun {d:Bool} {x y:Int×Int} => @aq (Int×Int) (fun r=>lA (r.1,r.2)∧r.1≠3) d x y
 have w6:((6:Int)=6∨(6:Int)=7∨(6:Int)=8) := .inl rfl
 have w7:((7:Int)=6∨(7:Int)=7∨(7:Int)=8) := .inr (.inl rfl)
 have w8:((8:Int)=6∨(8:Int)=7∨(8:Int)=8) := .inr (.inr rfl)
 have c0:((0:Int)=0∨(0:Int)=1) := .inl rfl
 have c1:((1:Int)=0∨(1:Int)=1) := .inr rfl
 have k113:lA ((xX p).1,(xX p).2)∧(xX p).1≠3:=by
  unfold xX
  repeat' (first | exact ⟨uv,z3⟩ | exact ⟨dW hc' w6,n3 hc'⟩ | refine cw (fun _=>?_) (fun _=>?_))
 have k117:lA ((yu p).1,(yu p).2)∧(yu p).1≠3:=by
  unfold yu
  repeat' (first | exact ⟨uv,z3⟩ | exact ⟨dW hc w8,n3 hc⟩ | exact ⟨dW hc' w8,n3 hc'⟩ | refine cw (fun _=>?_) (fun _=>?_))
 have k114:lA ((xQ p).1,(xQ p).2)∧(xQ p).1≠3:=by
  unfold xQ
  repeat' (first | exact ⟨uv,z3⟩ | exact ⟨dW hc w7,n3 hc⟩ | exact ⟨dW hc' w7,n3 hc'⟩ | refine cw (fun _=>?_) (fun _=>?_))
 have k115:lA ((yg p).1,(yg p).2)∧(yg p).1≠3:=by
  unfold yg
  repeat' (first | exact ⟨uv,z3⟩ | exact ⟨dW hc w6,n3 hc⟩ | exact ⟨dW hc' w6,n3 hc'⟩ | refine cw (fun _=>?_) (fun _=>?_))
 have k116:lA ((yC p).1,(yC p).2)∧(yC p).1≠3:=by
  unfold yC
  repeat' (first | exact ⟨uv,z3⟩ | exact ⟨dW c1 w8,n3 c1⟩ | refine cw (fun _=>?_) (fun _=>?_))
 have k118:lA ((yM p).1,(yM p).2):=by
  unfold yM
  repeat' (first | exact uv | exact .inr (.inr rfl) | exact dW c0 w6 | exact dW c1 w6 | refine aq (P:=fun r:Int×Int=>lA (r.1,r.2)) (fun _=>?_) (fun _=>?_))
 have vv:∀ (n:Nat),(p.variant==Int.ofNat n)=true→p.variant=n:=fun n h=>by simpa using h
 refine ci (fun _=>nw) fun n0=>ci (fun _=>nw) fun n1=>ci (fun _=>nw) fun n2=>ci (fun h=>one _ k113.1 k113.2 (by have:=vv 3 h;omega)) fun m3=>ci (fun h=>one _ k117.1 k117.2 (by have:=vv 4 h;omega)) fun n4=>ci (fun h=>one _ k114.1 k114.2 (by have:=vv 5 h;omega)) fun n5=>ci (fun h=>one _ k115.1 k115.2 (by have:=vv 6 h;omega)) fun n6=>ci (fun h=>one _ k116.1 k116.2 (by have:=vv 7 h;omega)) fun n7=>?_
 have h8:p.variant=8:=by
  simp only [beq_eq_false_iff_ne,ne_eq,Int.ofNat_eq_natCast] at n0 n1 n2 m3 n4 n5 n6 n7
  omega
 exact ⟨k118,fun _=>.inr h8,fun _=>⟨by omega,by omega,ht⟩⟩
end Kz
end
noncomputable section
namespace Kz
open Go Go.RowKit
def cl (h f:Int) (p:Pos):Pos:=⟨p.variant,p.ae,p.ab,p.af,p.aa,p.ai,p.ah,p.ag,h,f⟩
def aG.map {X X' R R':Type} (φ:X→X') (ψ:R→R'):aG X R→aG X' R'
 | .go x=>.go (φ x)
 | .out r=>.out (ψ r)
 | .bad=>.bad
noncomputable section
variable (h f:Int) (p:Pos)
end
noncomputable section
variable (h f h2 f2 h3 f3:Int) (a q p:Pos) (b m:Mv) (c:Int)
end
def E6 (p:Pos) (m:Mv):Pos:=cB p m (cC p m (da p m (cA p m (cr p m (bS p m (bC p m p p m (bq p m)) p m (bq p m)) p m (bq p m)) p m (bq p m)) p m (bq p m)) p m (bq p m)) p m (bq p m)
theorem rR (p:Pos) (m:Mv):cS p m=bif !F2 (b8 p) m then (p,false) else (E6 p m,true):=rfl
noncomputable section
variable {p:Pos} (hp:aA p)
include hp
variable {h f:Int} (hq:aA (cl h f p))
include hq
end
end Kz
end
noncomputable section
namespace Kz
open Go Go.RowKit Go.Proofs
def ag0:KT:=[]
def X3:aw:=bO Pz ag0 [] [] []
theorem aaW:aW X3:=aj ak trivial trivial trivial
def V66:AV:=AV.agg [AV.func 63 [] [],AV.func 179 [] [],AV.func 180 [] [],AV.func 181 [] []]
def aay:Bool:=true
theorem ae4:db X3 14 118 []=Tr.ret V66:=by kernel_rfl
theorem aiq (_:aay=true):PS Pz 118 [] V66:=qf aaW (by rw [ae4];rfl)
def XP:GT:=g0 (.ret V66)
theorem agQ:Sound Pz 118 XP:=pN (bV (aiq rfl))
def aec:KT:=[(227,5,[(0,[0,2]),(1,[2])])]
def ah9:aw:=bO Pz aec [] [] []
theorem acf:aW ah9:=aj ak trivial trivial trivial
def zr (a:Int):(Int×Int):=⟨(3),(a)⟩
def XF (a:Int):Bool:=true
theorem aht (a:Int) (h:XF a=true):PS Pz 227 [.int .u8 a] ((dR .u8 .u8).res (zr a)):=pq14 acf h
def N1:GT:=g1 (dI .u8) (fun a=>.ret ((dR .u8 .u8).res (zr a)))
theorem Wp:Sound Pz 227 N1:=aH fun a=>bV (aht a rfl)
def afe:KT:=[(179,26,[(0,[1,2]),(1,[1,2,6]),(2,[2]),(3,[1,2,8]),(4,[2]),(5,[1,2,16]),(6,[2]),(7,[2])])]
def aeF:aw:=bO Pz afe [(30,MI),(149,nR),(227,N1)] [] []
theorem Ys:aW aeF:=aj ak ⟨PZ,pA,Wp,trivial⟩ trivial trivial
def mU (a:Pos):(Int×Int):=(bif decide (Int.ofNat (ba a).length>0) then ⟨(0),(0)⟩ else (bif a.variant==4 then ⟨(wr .u8 (1+a.aa)),(8)⟩ else (bif hQ a a.aa then ⟨(wr .u8 (2-a.aa)),(1)⟩ else ⟨((zr 2).1),((zr 2).2)⟩)))
def D1 (a:Pos):Bool:=(lO (a)&&(bif decide (Int.ofNat (ba a).length>0) then true else (bif a.variant==4 then true else (mj (a) (a.aa)&&true))))
theorem aiz (a:Pos) (h:D1 a=true):PS Pz 179 [Pos.av a] ((dR .u8 .u8).res (mU a)):=pq14 Ys h
def aab:GT:=g1 aY (fun a=>cp (D1 a) ((dR .u8 .u8).res (mU a)))
theorem ac8:Sound Pz 179 aab:=aH fun a=>aC (aiz a)
end Kz
end
