/- Part 7 of the texts under the proof: an abstract interpreter,the summaries of functions,plain laws. -/
import Derived.Test.YtgbndomcmihfkaaGreatDoorC6
import Derived.Sort.Lot0
import Derived.Test.YtgbndomcmihfkaaGreatDoorProg
import Derived.Sort.Grow
import Derived.Sort.WalkB2
import Derived.Sort.WalkB12
import Derived.Deep.LoopGhost
import Derived.Deep.QuietTactic
import Derived.Shelf.RegionOpenPlain
import Derived.Shelf.SlicesQ.Load
import Derived.Lib.Hide
import Derived.Lib.SliceRun
import Derived.Lib.SlicesMore
import Derived.Deep.Cut
import Derived.Deep.RegionWith
set_option linter.unusedSectionVars false
set_option linter.unusedVariables false
set_option linter.unusedSimpArgs false
set_option linter.unnecessarySimpa false
set_option maxRecDepth 100000
set_option maxHeartbeats 4000000
noncomputable section
namespace Kz
open Go Go.RowKit Go.Proofs
def K79:KT:=[(79,55,[(0,(1::2::15::30::31::32::(rn 46 6 []))),(1,(rn 1 4 (15::30::31::32::(rn 46 6 [])))),(2,(rn 1 4 (16::30::31::32::(rn 46 6 [])))),(3,[2]),(4,(1::2::3::18::30::31::32::(rn 46 6 []))),(5,[2]),(6,(1::2::21::30::31::32::(rn 46 6 []))),(7,[2]),(8,(1::2::5::30::31::32::(rn 46 6 []))),(9,(1::2::5::6::30::31::32::(rn 46 6 []))),(10,(1::2::5::6::(rn 30 4 (rn 46 6 [])))),(11,(1::2::5::6::30::31::32::(rn 46 6 []))),(12,(1::2::5::6::30::31::32::(rn 46 7 []))),(13,[2]),(14,[2])])]
def V8:aw:=bO Pz K79 [(35,G35),(75,UM),(76,G76)] [] []
theorem Sa:aV V8:=ak aj ⟨s35,Vn,s76,trivial⟩ trivial trivial
def QS (p1:M') (p2:Pos) (x:(Int)):St:=St.mk (.any::.ptr 0 0::.ptr 1 0::.any::.any::.list .mv p1 .fresh::.int .i64 x::(an 48 [])) (Hp.mk [(pc p2 []),[.int .u8 0,.int .u8 0]] [] [] 0 0 0)
def QM (p1:M') (p2:Pos):Unit ⊕ (Int×Bool)→Out
 | (.inl (y))=>.ret (St.mk (AV.any::AV.any::AV.ptr 1 0::(an 52 [])) (Hp.mk [(pc p2 []),[AV.bm .u8 0,AV.bm .u8 0]] [] [] 0 0 0))
 | (.inr (y))=>.exit 0 (St.mk (AV.any::AV.ptr 0 0::AV.ptr 1 0::AV.any::AV.any::AV.list ET.mv p1 Tk.fresh::AV.int .i64 y.1::(an 26 (AV.bool y.2::(an 21 [])))) (Hp.mk [(pc p2 []),[AV.int .u8 0,AV.int .u8 0]] [] [] 0 0 0))
def A0 (p1:M') (p2:Pos) (x:(Int)):aI (Int) (Unit ⊕ (Int×Bool)):=(bif decide (x<Int.ofNat p1.length) then (bif p2.aa==1 then (bif wr .i64 (p1.getD x.toNat default).az==oW p2 1 then (bif decide ((p1.getD x.toNat default).to>55) then (aI.out (.inl (()))) else (aI.go (wr .i64 (x+1)))) else (aI.go (wr .i64 (x+1)))) else (aI.out (.inr ((x,p2.aa==1))))) else (aI.out (.inr ((x,false)))))
def xJ (p1:M') (p2:Pos) (x:(Int)):Bool:=(bif decide (x<Int.ofNat p1.length) then (bif p2.aa==1 then (decide (0≤x)&&decide (x<Int.ofNat p1.length)&&(pE (p2) (1)&&(bif wr .i64 (p1.getD x.toNat default).az==oW p2 1 then (decide (0≤x)&&decide (x<Int.ofNat p1.length)&&true) else true))) else true) else true)
def ji (p1:M') (p2:Pos) (x:(Int)):Option (Unit ⊕ (Int×Bool)):=da (fun x=>bif xJ p1 p2 x then A0 p1 p2 x else .bad) many x
abbrev Qm {α:Type} (k:M'→Pos→(Int)→α) (s:St):α:=wP s 0 fun q0=>k (tL (ET.mv) (tT s 5)) q0 ((tI (tT s 6)))
theorem Zr (p1:M') (p2:Pos) (x:(Int)) (r:Unit ⊕ (Int×Bool)) (h:ji p1 p2 x=some r):aB Pz (bj Pz 79 10) (QS p1 p2 x) (QM p1 p2 r):=aB.xO (m:=12) (fn:=79) Sa (Qm fun _ _ x=>some x) (fun o=>match o with | .ret s=>some (.inl ()) | .exit 0 s=>some (.inr ((tI (tT s 6)),(tB (tT s 33)))) | _=>none) (fun r=>by cases r<;>rfl) (fun _=>by kernel_rfl) (fun _=>by kernel_rfl) (fun _=>by kernel_rfl) (fun _=>by kernel_rfl) many x r h
def P9 (b:Code) (s:St):Tr Out:=Qm (fun p1 p2 x=>w9 b (bj Pz 79 10) s (QS p1 p2 x) (ji p1 p2 x) (QM p1 p2)) s
theorem RH:∀ b,aZ Pz b (P9 b):=fun _ _ _ h=>ez (Zr _ _ _) h
def B79:aw:=bO Pz K79 [(35,G35),(75,UM),(76,G76)] [(79,10,P9)] []
theorem ab1:aV B79:=ak aj ⟨s35,Vn,s76,trivial⟩ ⟨RH,trivial⟩ trivial
def VD (a:Pos):(Int×Int):=(bif decide (oW a 0>55) then (bif decide (oW a 1>55) then ⟨(3),(6)⟩ else (bif decide (oW a 1>55) then ⟨((mT 1 6).1),((mT 1 6).2)⟩ else (bif !decide (oW a 0>55) then ⟨(0),(0)⟩ else (bif cu ((ji (Fi a) a 0).getD default) then ⟨(0),(0)⟩ else ⟨((mT 0 6).1),((mT 0 6).2)⟩)))) else (bif decide (oW a 1>55) then ⟨((mT 1 6).1),((mT 1 6).2)⟩ else (bif !decide (oW a 0>55) then ⟨(0),(0)⟩ else (bif cu ((ji (Fi a) a 0).getD default) then ⟨(0),(0)⟩ else ⟨((mT 0 6).1),((mT 0 6).2)⟩))))
def Gx (a:Pos):Bool:=(pE (a) (0)&&(pE (a) (1)&&(bif decide (oW a 0>55) then (bif decide (oW a 1>55) then true else (bif decide (oW a 1>55) then true else (bif !decide (oW a 0>55) then true else (xD (a)&&((ji (Fi a) a 0).isSome&&bif cu ((ji (Fi a) a 0).getD default) then true else true))))) else (bif decide (oW a 1>55) then true else (bif !decide (oW a 0>55) then true else (xD (a)&&((ji (Fi a) a 0).isSome&&bif cu ((ji (Fi a) a 0).getD default) then true else true)))))))
theorem P79 (a:Pos) (h:Gx a=true):PS Pz 79 [Pos.av a] ((dR .u8 .u8).res (VD a)):=pq14 ab1 h
def G79:GT:=g1 aY (fun a=>cg (Gx a) ((dR .u8 .u8).res (VD a)))
theorem s79:Sound Pz 79 G79:=aF fun a=>ay (P79 a)
def K32:KT:=[(32,79,[(0,[1,2]),(1,[1,2,7]),(2,[2]),(3,[1,2,3,4]),(4,[1,2,3,4,15]),(5,(rn 1 4 [15,16])),(6,[2,4,21]),(7,[2]),(8,(rn 1 4 [15,24])),(9,[1,2,3,4,30]),(10,[2]),(11,[2,3,37]),(12,[2]),(13,(rn 1 4 [15,40])),(14,[1,2,3,4,45]),(15,[2]),(16,[2,3,51]),(17,[2]),(18,(rn 1 4 [15,54])),(19,[2,58]),(20,[2]),(21,(rn 1 4 [15,60])),(22,[1,2,3,4,65]),(23,[2]),(24,[2,4,71]),(25,[2]),(26,[1,2,74]),(27,[2]),(28,[2])])]
def B32:aw:=bO Pz K32 [(19,LP),(75,UM),(76,G76),(77,G77),(78,G78),(79,G79)] [] []
theorem adv:aV B32:=ak aj ⟨No,Vn,s76,s77,s78,s79,trivial⟩ trivial trivial
def H4 (a:Pos):(Int×Int):=(bif !yj a then ⟨(0),(0)⟩ else (bif a.variant==3 then (bif decide (oW a a.aa<0) then ⟨((mT (wr .u8 (1-a.aa)) 6).1),((mT (wr .u8 (1-a.aa)) 6).2)⟩ else ⟨(0),(0)⟩) else (bif a.variant==5 then (bif decide (a.ag.getD (scale 1 (wr .u8 (1-a.aa))).toNat 0≥3) then ⟨((mT (wr .u8 (1-a.aa)) 7).1),((mT (wr .u8 (1-a.aa)) 7).2)⟩ else (bif decide (a.ag.getD (scale 1 a.aa).toNat 0≥3) then ⟨((mT a.aa 7).1),((mT a.aa 7).2)⟩ else ⟨(0),(0)⟩)) else (bif a.variant==6 then (bif RE (oW a (wr .u8 (1-a.aa))) then ⟨((mT (wr .u8 (1-a.aa)) 6).1),((mT (wr .u8 (1-a.aa)) 6).2)⟩ else (bif RE (oW a a.aa) then ⟨((mT a.aa 6).1),((mT a.aa 6).2)⟩ else ⟨(0),(0)⟩)) else (bif a.variant==7 then (bif !QL a 0 then ⟨((mT 1 8).1),((mT 1 8).2)⟩ else ⟨(0),(0)⟩) else (bif a.variant==4 then (bif !QL a a.aa then ⟨((mT a.aa 8).1),((mT a.aa 8).2)⟩ else (bif !QL a (wr .u8 (1-a.aa)) then ⟨((mT (wr .u8 (1-a.aa)) 8).1),((mT (wr .u8 (1-a.aa)) 8).2)⟩ else ⟨(0),(0)⟩)) else (bif a.variant==8 then ⟨((VD a).1),((VD a).2)⟩ else ⟨(0),(0)⟩)))))))
def Bf (a:Pos):Bool:=(bif !yj a then true else (bif a.variant==3 then (pE (a) (a.aa)&&true) else (bif a.variant==5 then (decide (0≤wr .u8 (1-a.aa))&&decide (wr .u8 (1-a.aa)<Int.ofNat 2)&&(bif decide (a.ag.getD (scale 1 (wr .u8 (1-a.aa))).toNat 0≥3) then true else (decide (0≤a.aa)&&decide (a.aa<Int.ofNat 2)&&true))) else (bif a.variant==6 then (pE (a) (wr .u8 (1-a.aa))&&(bif RE (oW a (wr .u8 (1-a.aa))) then true else (pE (a) (a.aa)&&true))) else (bif a.variant==7 then (BF (a) (0)&&true) else (bif a.variant==4 then (BF (a) (a.aa)&&(bif !QL a a.aa then true else (BF (a) (wr .u8 (1-a.aa))&&true))) else (bif a.variant==8 then (Gx (a)&&true) else true)))))))
theorem P32 (a:Pos) (h:Bf a=true):PS Pz 32 [Pos.av a] ((dR .u8 .u8).res (H4 a)):=pq14 adv h
def G32:GT:=g1 aY (fun a=>cg (Bf a) ((dR .u8 .u8).res (H4 a)))
theorem s32:Sound Pz 32 G32:=aF fun a=>ay (P32 a)
def K11:KT:=[(11,11,[(0,[1]),(1,[1,3]),(2,[1,8]),(3,[2]),(4,[2])])]
def B11:aw:=bO Pz K11 [(32,G32),(35,G35)] [] []
theorem aeu:aV B11:=ak aj ⟨s32,s35,trivial⟩ trivial trivial
def QA (a:Pos):M':=(bif (H4 a).1 != 0 then ([]) else (Fi a))
def Es (a:Pos):Bool:=(Bf (a)&&(bif (H4 a).1 != 0 then true else (xD (a)&&true)))
theorem P11 (a:Pos) (h:Es a=true):PS Pz 11 [Pos.av a] ((dL .mv).res (QA a)):=pq14 aeu h
def G11:GT:=g1 aY (fun a=>cg (Es a) ((dL .mv).res (QA a)))
theorem s11:Sound Pz 11 G11:=aF fun a=>ay (P11 a)
end Kz
end
noncomputable section
namespace Kz
open Go Go.RowKit
theorem Lk {c w:Int} (hc:c=0∨c=1):mT c w=dm c w:=by
 rcases hc with rfl | rfl<;>rfl
theorem Jf:∀ s:Fin 64,(iZ BinOp.and .i64 (Int.fdiv 103481868288 (2 ^ min (BitVec.ofInt 64 (s.val:Int)).toNat 64)) 1==1)=RE s.val:=by decide +kernel
theorem Dn {s:Int} (h0 : -1≤s) (h1:s<64):(bif decide (s≥0) then (iZ BinOp.and .i64 (Int.fdiv 103481868288 (2 ^ min (BitVec.ofInt 64 s).toNat 64)) 1==1) else false)=RE s:=by
 by_cases h:s≥0
 ·obtain ⟨n,rfl⟩:=Int.eq_ofNat_of_zero_le h
  rw [decide_eq_true h]
  exact Jf ⟨n,by omega⟩
 ·have:s = -1:=by omega
  subst this
  rfl
noncomputable section
variable {p:Pos} (hp:aO p)
include hp
theorem ac2 {c:Int} (hc:c=0∨c=1) (ht:p.aa=0∨p.aa=1):∃ r,pT c p 0=some r∧cu r=(aK p c 0 != 0#64):=by
 refine bh (Q:=fun r:Unit ⊕ (Int×Bool)=>cu r=(aK p c 0 != 0#64)) (I:=fun x:Int=>∃ n:Nat,n≤64∧x=(n:Int)∧∀ s,s<n→(aK p c 0).getLsbD s=false) (μ:=fun x=>(64-x).toNat) ?_ _ ⟨0,by omega,rfl,fun s hs=>by omega⟩ (by simp)
 rintro x ⟨n,hn,rfl,h⟩
 unfold DY F1
 rw [show (⟨p.variant,p.ae,p.ab,p.af,p.aa,p.ai,p.ah,p.ag,p.half,p.full⟩:Pos)=p from rfl]
 by_cases h64:n<64
 ·have hb:=iu hp ht hc h64
  have ho:=t151 hp ht h64 c
  rw [hb,ho,decide_eq_true (show (n:Int)<64 by omega),aN (n:=(n:Int)+1) (by omega) (by omega)]
  cases hx:(aK p c 0).getLsbD n with
  | true =>
   refine ⟨rfl,?_⟩
   show true=_
   symm
   rw [bne_iff_ne]
   intro e
   rw [e] at hx
   simp at hx
  | false =>
   exact ⟨rfl,⟨n+1,by omega,by simp,fun s hs=>by
    by_cases e:s=n
    ·rw [e];exact hx
    ·exact h s (by omega)⟩,by dsimp only;omega⟩
 ·have:n=64:=by omega
  subst this
  refine ⟨rfl,?_⟩
  show false=_
  symm
  rw [bne_eq_false_iff_eq]
  exact BitVec.eq_of_getLsbD_eq fun i hi=>by rw [h i hi];simp
theorem AU {c:Int} (hc:c=0∨c=1) (ht:p.aa=0∨p.aa=1):BF p c=true∧QL p c=(aK p c 0 != 0#64):=by
 obtain ⟨h1,h2⟩:=aM (ac2 hp hc ht)
 unfold BF QL
 rw [show (⟨p.variant,p.ae,p.ab,p.af,p.aa,p.ai,p.ah,p.ag,p.half,p.full⟩:Pos)=p from rfl,h1,h2]
 cases aK p c 0 != 0#64<;>exact ⟨rfl,rfl⟩
def nV (k:Int) (l:M'):Bool:=l.any fun m=>wr .i64 m.az==k&&decide (m.to≥56)
omit hp in
theorem yH {α:Type} (f:α→Bool) (d:α):∀ (l:List α) (n:Nat),n<l.length→(l.take (n+1)).any f=((l.take n).any f || f (l.getD n d)):=fun l n h=>by
 rw [List.take_add_one,List.getD_eq_getElem?_getD,I' h,List.any_append]
 simp
theorem aeC (ht:p.aa=1) (l:M') (hl:l.length≤1000000):∃ r,ji l p 0=some r∧cu r=nV (aX p 1 6) l:=by
 obtain ⟨o1,e1⟩:=lq hp (c:=1) (by omega)
 refine bh (Q:=fun r:Unit ⊕ (Int×Bool)=>cu r=nV (aX p 1 6) l) (I:=fun x:Int=>∃ n:Nat,n≤l.length∧x=(n:Int)∧nV (aX p 1 6) (l.take n)=false) (μ:=fun x=>(l.length-x).toNat) ?_ _ ⟨0,by omega,rfl,rfl⟩ (by simp;omega)
 rintro x ⟨n,hn,rfl,h⟩
 unfold xJ A0
 by_cases hc:n<l.length
 ·have ha:=yH (fun m:Mv=>wr .i64 m.az==aX p 1 6&&decide (m.to≥56)) default l n hc
  rw [decide_eq_true (show (n:Int)<Int.ofNat l.length from Int.ofNat_lt.2 hc),decide_eq_true (show (0:Int)≤n by omega),Int.toNat_natCast,aN (n:=(n:Int)+1) (by omega) (by omega),o1,e1,ht]
  have h55:decide ((l.getD n default).to>55)=decide ((l.getD n default).to≥56):=by rw [decide_eq_decide];omega
  rw [h55]
  unfold nV at h ⊢
  rw [h,Bool.false_or] at ha
  cases hx:wr .i64 (l.getD n default).az==aX p 1 6 with
  | false=>rw [hx] at ha;exact ⟨rfl,⟨n+1,by omega,by simp,ha⟩,by dsimp only;omega⟩
  | true =>
   rw [hx] at ha
   cases hy:decide ((l.getD n default).to≥56) with
   | false=>rw [hy] at ha;exact ⟨rfl,⟨n+1,by omega,by simp,ha⟩,by dsimp only;omega⟩
   | true =>
    refine ⟨rfl,?_⟩
    show true=_
    symm
    rw [List.any_eq_true]
    exact ⟨_,cS hc,by rw [hx,hy];rfl⟩
 ·rw [decide_eq_false (show ¬ ((n:Int)<Int.ofNat l.length) from fun h=>hc (Int.ofNat_lt.1 h))]
  refine ⟨rfl,?_⟩
  rw [List.take_of_length_le (by omega)] at h
  exact h.symm
omit hp in
theorem RJ (l:M') (hl:l.length≤1000000) (q:Pos) (k:Int):∃ r,eR l (Int.ofNat l.length) q k 0=some r∧cu r=nV k l∧0≤gl r:=by
 refine bh (Q:=fun r:Int ⊕ (Int×Bool)=>cu r=nV k l∧0≤gl r) (I:=fun x:Int=>∃ n:Nat,n≤l.length∧x=(n:Int)∧nV k (l.take n)=false) (μ:=fun x=>(l.length-x).toNat) ?_ _ ⟨0,by omega,rfl,rfl⟩ (by simp;omega)
 rintro x ⟨n,hn,rfl,h⟩
 unfold zf Cl
 by_cases hc:n<l.length
 ·have ha:=yH (fun m:Mv=>wr .i64 m.az==k&&decide (m.to≥56)) default l n hc
  rw [decide_eq_true (show (n:Int)<Int.ofNat l.length from Int.ofNat_lt.2 hc),decide_eq_true (show (0:Int)≤n by omega),Int.toNat_natCast,aN (n:=(n:Int)+1) (by omega) (by omega)]
  unfold nV at h ⊢
  rw [h,Bool.false_or] at ha
  cases hx:wr .i64 (l.getD n default).az==k with
  | false=>rw [hx] at ha;exact ⟨rfl,⟨n+1,by omega,by simp,ha⟩,by dsimp only;omega⟩
  | true =>
   rw [hx] at ha
   cases hy:decide ((l.getD n default).to≥56) with
   | false=>rw [hy] at ha;exact ⟨rfl,⟨n+1,by omega,by simp,ha⟩,by dsimp only;omega⟩
   | true =>
    refine ⟨rfl,?_,by show (0:Int)≤n;omega⟩
    show true=_
    symm
    rw [List.any_eq_true]
    exact ⟨_,cS hc,by rw [hx,hy];rfl⟩
 ·rw [decide_eq_false (show ¬ ((n:Int)<Int.ofNat l.length) from fun h=>hc (Int.ofNat_lt.1 h))]
  rw [List.take_of_length_le (by omega)] at h
  exact ⟨rfl,h.symm,by show (0:Int)≤default;decide⟩
theorem Sk (hth:there p):Gx p=true∧VD p=Ej p:=by
 obtain ⟨t,hpt,ht⟩:=gJ hp hth.1
 obtain ⟨o0,e0⟩:=lq hp (c:=0) (by omega)
 obtain ⟨o1,e1⟩:=lq hp (c:=1) (by omega)
 obtain ⟨o33,e33⟩:=F4 hp hth
 have hl:(kC p).length≤1000000:=Nat.le_trans (xK hp) (by omega)
 obtain ⟨c1,c2,c3⟩:=aM (RJ (kC p) hl p (aX p 1 6))
 have g55:∀ x:Int,decide (x>55)=decide (x≥56):=fun x=>by rw [decide_eq_decide];omega
 have w0:mT 0 6=dm 0 6:=rfl
 have w1:mT 1 6=dm 1 6:=rfl
 unfold Gx VD Ej
 rw [o0,o1,e0,e1,o33,e33,w0,w1,c2,g55,g55,decide_eq_true c3]
 rcases (show p.aa=0∨p.aa=1 by omega) with h | h
 ·
  have hs:∃ r,ji (kC p) p 0=some r∧cu r=false:=by
   refine bh (Q:=fun r:Unit ⊕ (Int×Bool)=>cu r=false) (I:=fun x:Int=>x=0) (μ:=fun x=>(kC p).length) ?_ _ rfl (by omega)
   rintro x rfl
   unfold xJ A0
   rw [h]
   cases decide ((0:Int)<Int.ofNat (kC p).length)<;>exact ⟨rfl,rfl⟩
  obtain ⟨d1,d2⟩:=aM hs
  rw [d1,d2,h]
  cases decide (aX p 0 6≥56)<;>cases decide (aX p 1 6≥56)<;>exact ⟨rfl,rfl⟩
 ·obtain ⟨d1,d2⟩:=aM (aeC hp h (kC p) hl)
  rw [d1,d2,h]
  cases decide (aX p 0 6≥56)<;>cases decide (aX p 1 6≥56)<;>cases nV (aX p 1 6) (kC p)<;>exact ⟨rfl,rfl⟩
end
theorem rq {p:Pos} (h:¬ there p):yj p=false:=by
 unfold yj
 by_cases h1:p.variant<9
 ·rw [decide_eq_true h1,decide_eq_false (show ¬ p.aa<2 from fun h2=>h ⟨by omega,h1⟩)];rfl
 ·rw [decide_eq_false h1];rfl
theorem bn {x:BitVec 64}:(!(x != 0#64))=(x==0#64):=by unfold bne;rw [Bool.not_not]
noncomputable section
variable {p:Pos} (hp:aO p)
include hp
theorem K3:Bf p=true∧H4 p=v7 p:=by
 by_cases hth:there p
 ·obtain ⟨t,hpt,ht⟩:=gJ hp hth.1
  have v0:=hp.v0
  have v9:=hth.2
  have hc:p.aa=0∨p.aa=1:=by omega
  have hc':wr .u8 (1-p.aa)=0∨wr .u8 (1-p.aa)=1:=by rw [hpt,o6 (by omega) (by omega)];omega
  obtain ⟨o1,e1⟩:=lq hp hc
  obtain ⟨o2,e2⟩:=lq hp hc'
  obtain ⟨a0,b0⟩:=AU hp (c:=0) (by omega) hc
  obtain ⟨a1,b1⟩:=AU hp hc hc
  obtain ⟨a2,b2⟩:=AU hp hc' hc
  obtain ⟨a3,b3⟩:=Sk hp hth
  have k1:=Dn (hJ p p.aa 6).1 (hJ p p.aa 6).2
  have k2:=Dn (hJ p (wr .u8 (1-p.aa)) 6).1 (hJ p (wr .u8 (1-p.aa)) 6).2
  have i1:(decide (0≤p.aa)&&decide (p.aa<Int.ofNat 2))=true:=by simp;omega
  have i2:(decide (0≤wr .u8 (1-p.aa))&&decide (wr .u8 (1-p.aa)<Int.ofNat 2))=true:=by simp;omega
  have d9:decide (p.variant≥9)=false:=decide_eq_false (by omega)
  have d1:decide (p.aa>1)=false:=decide_eq_false (by omega)
  have f1:∀ w,mT p.aa w=dm p.aa w:=fun w=>Lk hc
  have f2:∀ w,mT (wr .u8 (1-p.aa)) w=dm (wr .u8 (1-p.aa)) w:=fun w=>Lk hc'
  have f3:mT 1 8=dm 1 8:=rfl
  unfold Bf H4 v7
  rw [jF hth,o1,o2,a0,a1,a2,a3,b0,b1,b2,b3,d9,d1,i1,i2,e1,e2]
  simp only [f1,f2,f3,← k1,← k2,bn,DG]
  rcases (show p.variant=0∨p.variant=1∨p.variant=2∨p.variant=3∨p.variant=4∨p.variant=5∨p.variant=6∨p.variant=7∨p.variant=8 by omega) with h | h | h | h | h | h | h | h | h<;>rw [h]
  ·exact ⟨rfl,rfl⟩
  ·exact ⟨rfl,rfl⟩
  ·exact ⟨rfl,rfl⟩
  ·refine ⟨rfl,?_⟩
   unfold GN nh
   cases decide (aX p p.aa 6≥0)<;>rfl
  ·refine ⟨by cases aK p p.aa 0==0#64<;>rfl,?_⟩
   unfold J8
   rw [show (⟨p.variant,p.ae,p.ab,p.af,p.aa,p.ai,p.ah,p.ag,p.half,p.full⟩:Pos)=p from rfl]
   cases aK p p.aa 0==0#64<;>cases aK p (wr .u8 (1-p.aa)) 0==0#64<;>rfl
  ·refine ⟨by cases decide (p.ag.getD (scale 1 (wr .u8 (1-p.aa))).toNat 0≥3)<;>rfl,?_⟩
   unfold JG
   cases decide (p.ag.getD (scale 1 (wr .u8 (1-p.aa))).toNat 0≥3)<;>cases decide (p.ag.getD (scale 1 p.aa).toNat 0≥3)<;>rfl
  ·unfold JC
   generalize (iZ BinOp.and .i64 (Int.fdiv 103481868288 (2 ^ min (BitVec.ofInt 64 (aX p p.aa 6)).toNat 64)) 1==1)=x1
   generalize (iZ BinOp.and .i64 (Int.fdiv 103481868288 (2 ^ min (BitVec.ofInt 64 (aX p (wr .u8 (1-p.aa)) 6)).toNat 64)) 1==1)=x2
   cases decide (aX p p.aa 6≥0)<;>cases decide (aX p (wr .u8 (1-p.aa)) 6≥0)<;>cases x1<;>cases x2<;>exact ⟨rfl,rfl⟩
  ·refine ⟨rfl,?_⟩
   unfold IJ
   rw [show (⟨p.variant,p.ae,p.ab,p.af,p.aa,p.ai,p.ah,p.ag,p.half,p.full⟩:Pos)=p from rfl]
   cases aK p 0 0==0#64<;>rfl
  ·exact ⟨rfl,rfl⟩
 ·have h19:=rq hth
  unfold Bf H4 v7
  rw [h19]
  refine ⟨rfl,?_⟩
  by_cases h9:p.variant≥9
  ·rw [decide_eq_true h9];rfl
  ·rw [decide_eq_false h9,decide_eq_true (show p.aa>1 by unfold there at hth;omega)];rfl
theorem GF:Es p=true∧QA p=eX p:=by
 obtain ⟨a1,a2⟩:=K3 hp
 unfold Es QA
 rw [a1,a2,GC hp]
 by_cases hth:there p
 ·obtain ⟨b1,b2⟩:=F4 hp hth
  rw [b1,b2]
  cases (v7 p).1 != 0<;>exact ⟨rfl,rfl⟩
 ·have h33:xD p=true∧Fi p=[]:=by
   unfold xD Fi
   rw [rq hth]
   exact ⟨rfl,rfl⟩
  have h38:bL p=[]:=by
   have h0:∀ m,m∉bL p:=fun m hm=>hth (i7 hp hm).1
   cases h:bL p with
   | nil=>rfl
   | cons a l=>exact absurd (by rw [h];simp) (h0 a)
  have h31:kC p=[]:=by
   have h0:∀ m,m∉kC p:=fun m hm=>by
    have:=(DS hp hm).1
    rw [h38] at this
    cases this
   cases h:kC p with
   | nil=>rfl
   | cons a l=>exact absurd (by rw [h];simp) (h0 a)
  rw [h33.1,h33.2,h31]
  cases (v7 p).1 != 0<;>exact ⟨rfl,rfl⟩
end
end Kz
end
noncomputable section
namespace Kz
open Go Go.RowKit Go.Proofs
def ahr:KT:=[(259,35,[(0,[0]),(1,[0]),(2,[0]),(3,[0]),(4,[0]),(5,[0]),(6,[0]),(7,[2])])]
def ae1:aw:=bO Pz ahr [] [] []
theorem XC:aV ae1:=ak aj trivial trivial trivial
def ju (a:BitVec 64):Int:=(iZ BinOp.and .i64 (wr .i64 ↑((((((a >>> 1&&&6148914691236517205#64)+(a&&&6148914691236517205#64)) >>> 2&&&3689348814741910323#64)+((a >>> 1&&&6148914691236517205#64)+(a&&&6148914691236517205#64)&&&3689348814741910323#64)) >>> 4+((((a >>> 1&&&6148914691236517205#64)+(a&&&6148914691236517205#64)) >>> 2&&&3689348814741910323#64)+((a >>> 1&&&6148914691236517205#64)+(a&&&6148914691236517205#64)&&&3689348814741910323#64))&&&1085102592571150095#64)+(((((a >>> 1&&&6148914691236517205#64)+(a&&&6148914691236517205#64)) >>> 2&&&3689348814741910323#64)+((a >>> 1&&&6148914691236517205#64)+(a&&&6148914691236517205#64)&&&3689348814741910323#64)) >>> 4+((((a >>> 1&&&6148914691236517205#64)+(a&&&6148914691236517205#64)) >>> 2&&&3689348814741910323#64)+((a >>> 1&&&6148914691236517205#64)+(a&&&6148914691236517205#64)&&&3689348814741910323#64))&&&1085102592571150095#64) >>> 8+((((((a >>> 1&&&6148914691236517205#64)+(a&&&6148914691236517205#64)) >>> 2&&&3689348814741910323#64)+((a >>> 1&&&6148914691236517205#64)+(a&&&6148914691236517205#64)&&&3689348814741910323#64)) >>> 4+((((a >>> 1&&&6148914691236517205#64)+(a&&&6148914691236517205#64)) >>> 2&&&3689348814741910323#64)+((a >>> 1&&&6148914691236517205#64)+(a&&&6148914691236517205#64)&&&3689348814741910323#64))&&&1085102592571150095#64)+(((((a >>> 1&&&6148914691236517205#64)+(a&&&6148914691236517205#64)) >>> 2&&&3689348814741910323#64)+((a >>> 1&&&6148914691236517205#64)+(a&&&6148914691236517205#64)&&&3689348814741910323#64)) >>> 4+((((a >>> 1&&&6148914691236517205#64)+(a&&&6148914691236517205#64)) >>> 2&&&3689348814741910323#64)+((a >>> 1&&&6148914691236517205#64)+(a&&&6148914691236517205#64)&&&3689348814741910323#64))&&&1085102592571150095#64) >>> 8) >>> 16+((((((a >>> 1&&&6148914691236517205#64)+(a&&&6148914691236517205#64)) >>> 2&&&3689348814741910323#64)+((a >>> 1&&&6148914691236517205#64)+(a&&&6148914691236517205#64)&&&3689348814741910323#64)) >>> 4+((((a >>> 1&&&6148914691236517205#64)+(a&&&6148914691236517205#64)) >>> 2&&&3689348814741910323#64)+((a >>> 1&&&6148914691236517205#64)+(a&&&6148914691236517205#64)&&&3689348814741910323#64))&&&1085102592571150095#64)+(((((a >>> 1&&&6148914691236517205#64)+(a&&&6148914691236517205#64)) >>> 2&&&3689348814741910323#64)+((a >>> 1&&&6148914691236517205#64)+(a&&&6148914691236517205#64)&&&3689348814741910323#64)) >>> 4+((((a >>> 1&&&6148914691236517205#64)+(a&&&6148914691236517205#64)) >>> 2&&&3689348814741910323#64)+((a >>> 1&&&6148914691236517205#64)+(a&&&6148914691236517205#64)&&&3689348814741910323#64))&&&1085102592571150095#64) >>> 8+((((((a >>> 1&&&6148914691236517205#64)+(a&&&6148914691236517205#64)) >>> 2&&&3689348814741910323#64)+((a >>> 1&&&6148914691236517205#64)+(a&&&6148914691236517205#64)&&&3689348814741910323#64)) >>> 4+((((a >>> 1&&&6148914691236517205#64)+(a&&&6148914691236517205#64)) >>> 2&&&3689348814741910323#64)+((a >>> 1&&&6148914691236517205#64)+(a&&&6148914691236517205#64)&&&3689348814741910323#64))&&&1085102592571150095#64)+(((((a >>> 1&&&6148914691236517205#64)+(a&&&6148914691236517205#64)) >>> 2&&&3689348814741910323#64)+((a >>> 1&&&6148914691236517205#64)+(a&&&6148914691236517205#64)&&&3689348814741910323#64)) >>> 4+((((a >>> 1&&&6148914691236517205#64)+(a&&&6148914691236517205#64)) >>> 2&&&3689348814741910323#64)+((a >>> 1&&&6148914691236517205#64)+(a&&&6148914691236517205#64)&&&3689348814741910323#64))&&&1085102592571150095#64) >>> 8) >>> 16) >>> 32).toNat) 127)
def Xf (a:BitVec 64):Bool:=true
theorem agw (a:BitVec 64) (h:Xf a=true):PS Pz 259 [.u64 a] ((dI .i64).res (ju a)):=pq14 XC h
def TM:GT:=g1 dU (fun a=>.ret ((dI .i64).res (ju a)))
theorem aaw:Sound Pz 259 TM:=aF fun a=>bK (agw a rfl)
end Kz
end
noncomputable section
namespace Kz
open Go Go.RowKit
def dV (B:Nat):List Nat→Nat
 | []=>0
 | a::l=>a+B * dV B l
def dM (B:Nat) (n:Nat):Nat:=dV (B * B) (List.replicate n (B-1))
theorem AR {w a x:Nat} (ha:a<2 ^ w) (j:Nat):(a+2 ^ w * x).testBit j=if j<w then a.testBit j else x.testBit (j-w):=by
 rw [Nat.add_comm]
 exact Nat.testBit_two_pow_mul_add x ha j
theorem Bn {w a m x y:Nat} (ha:a<2 ^ w) (hm:m<2 ^ w):(a+2 ^ w * x)&&&(m+2 ^ w * y)=(a&&&m)+2 ^ w * (x&&&y):=by
 apply Nat.eq_of_testBit_eq
 intro j
 have h:a&&&m<2 ^ w:=Nat.lt_of_le_of_lt Nat.and_le_left ha
 rw [Nat.testBit_and,AR ha,AR hm,AR h]
 split<;>rw [Nat.testBit_and]
theorem and_ones {w a:Nat} (ha:a<2 ^ w) (x:Nat):(a+2 ^ w * x)&&&(2 ^ w-1)=a:=by
 rw [Nat.and_two_pow_sub_one_eq_mod,Nat.add_mul_mod_self_left,Nat.mod_eq_of_lt ha]
theorem C1 {w:Nat}:∀ (n:Nat) (ps:List (Nat×Nat)),ps.length=n→(∀ q∈ps,q.1<2 ^ w∧q.2<2 ^ w) →
  (dV (2 ^ w * 2 ^ w) (ps.map fun q=>q.1+2 ^ w * q.2)&&&dM (2 ^ w) n)=dV (2 ^ w * 2 ^ w) (ps.map (·.1))
 | 0,ps,h,_=>by
  obtain rfl:=List.length_eq_zero_iff.1 h
  simp [dV]
 | n+1,[],h,_=>by cases h
 | n+1,q::ps,h,hq=>by
  obtain ⟨h1,h2⟩:=hq q (by simp)
  have ih:=C1 n ps (by simpa using h) fun q hm=>hq q (by simp [hm])
  have hb:q.1+2 ^ w * q.2<2 ^ (w+w):=by
   rw [Nat.pow_add]
   have:2 ^ w * q.2≤2 ^ w * (2 ^ w-1):=Nat.mul_le_mul_left _ (by omega)
   rw [Nat.mul_sub_one] at this
   have:=Nat.le_mul_self (2 ^ w)
   omega
  have hm:2 ^ w-1<2 ^ (w+w):=by
   have:=Nat.pow_le_pow_right (n:=2) (by omega) (show w≤w+w by omega)
   have:=Nat.two_pow_pos w
   omega
  simp only [List.map_cons,dM,List.replicate_succ,dV] at ih ⊢
  rw [← Nat.pow_add] at ih ⊢
  rw [Bn hb hm,ih,and_ones h1]
theorem DU {w:Nat}:∀ (n:Nat) (ps:List (Nat×Nat)),ps.length=n→(∀ q∈ps,q.1<2 ^ w∧q.2<2 ^ w) →
  (dV (2 ^ w * 2 ^ w) (ps.map fun q=>q.1+2 ^ w * q.2) / 2 ^ w&&&dM (2 ^ w) n)=dV (2 ^ w * 2 ^ w) (ps.map (·.2))
 | 0,ps,h,_=>by
  obtain rfl:=List.length_eq_zero_iff.1 h
  simp [dV]
 | n+1,[],h,_=>by cases h
 | n+1,q::ps,h,hq=>by
  obtain ⟨h1,h2⟩:=hq q (by simp)
  have ih:=DU n ps (by simpa using h) fun q hm=>hq q (by simp [hm])
  have hpos:=Nat.two_pow_pos w
  have hm:2 ^ w-1<2 ^ (w+w):=by
   have:=Nat.pow_le_pow_right (n:=2) (by omega) (show w≤w+w by omega)
   omega
  simp only [List.map_cons,dM,List.replicate_succ,dV] at ih ⊢
  generalize dV (2 ^ w * 2 ^ w) (ps.map fun q=>q.1+2 ^ w * q.2)=R at ih ⊢
  have e:(q.1+2 ^ w * q.2+2 ^ w * 2 ^ w * R) / 2 ^ w=(q.2+2 ^ w * (R % 2 ^ w))+2 ^ (w+w) * (R / 2 ^ w):=by
   rw [show q.1+2 ^ w * q.2+2 ^ w * 2 ^ w * R=q.1+2 ^ w * (q.2+2 ^ w * R) by rw [Nat.mul_add,Nat.mul_assoc,Nat.add_assoc],Nat.add_mul_div_left _ _ hpos,Nat.div_eq_of_lt h1,Nat.zero_add,Nat.pow_add,Nat.mul_assoc,Nat.add_assoc,← Nat.mul_add,Nat.mod_add_div]
  have hb:q.2+2 ^ w * (R % 2 ^ w)<2 ^ (w+w):=by
   rw [Nat.pow_add]
   have hr:=Nat.mod_lt R hpos
   have:2 ^ w * (R % 2 ^ w)≤2 ^ w * (2 ^ w-1):=Nat.mul_le_mul_left _ (by omega)
   rw [Nat.mul_sub_one] at this
   have:=Nat.le_mul_self (2 ^ w)
   omega
  rw [e]
  rw [← Nat.pow_add] at ih ⊢
  rw [Bn hb hm,ih,and_ones h2]
theorem Ht {K:Nat} {α:Type} (f g:α→Nat):∀ l:List α,dV K (l.map f)+dV K (l.map g)=dV K (l.map fun a=>f a+g a)
 | []=>rfl
 | a::l=>by
  simp only [List.map_cons,dV]
  rw [← Ht f g l,Nat.mul_add]
  omega
def QO (B n D x t:Nat):Prop := ∃ l:List Nat,l.length=n∧(∀ d∈l,d≤D)∧dV B l=x∧l.sum=t
theorem ss:∀ (n:Nat) (l:List Nat),l.length=2 * n→∃ ps:List (Nat×Nat),ps.length=n∧l=ps.flatMap fun q=>[q.1,q.2]
 | 0,l,h=>⟨[],rfl,by simpa using h⟩
 | n+1,[],h=>by simp at h
 | n+1,[a],h=>by simp at h;omega
 | n+1,a::c::l,h=>by
  obtain ⟨ps,h1,rfl⟩:=ss n l (by simp at h;omega)
  exact ⟨(a,c)::ps,by simp [h1],rfl⟩
theorem sT {B:Nat}:∀ ps:List (Nat×Nat),dV B (ps.flatMap fun q=>[q.1,q.2])=dV (B * B) (ps.map fun q=>q.1+B * q.2)
 | []=>rfl
 | q::ps=>by
  simp only [List.flatMap_cons,List.cons_append,List.nil_append,List.map_cons,dV]
  rw [sT ps,Nat.mul_add,Nat.mul_assoc,Nat.add_assoc]
theorem qn:∀ ps:List (Nat×Nat),(ps.flatMap fun q=>[q.1,q.2]).sum=(ps.map fun q=>q.1+q.2).sum
 | []=>rfl
 | q::ps=>by
  simp only [List.flatMap_cons,List.cons_append,List.nil_append,List.map_cons,List.sum_cons]
  rw [qn ps];omega
theorem AB {w n D x t:Nat} (hD:D<2 ^ w) (h:QO (2 ^ w) (2 * n) D x t):QO (2 ^ w * 2 ^ w) n (2 * D) ((x / 2 ^ w&&&dM (2 ^ w) n)+(x&&&dM (2 ^ w) n)) t:=by
 obtain ⟨l,h1,h2,rfl,rfl⟩:=h
 obtain ⟨ps,h3,rfl⟩:=ss n l h1
 have hb:∀ q∈ps,q.1≤D∧q.2≤D:=fun q hq=>⟨h2 _ (List.mem_flatMap.2 ⟨q,hq,by simp⟩),h2 _ (List.mem_flatMap.2 ⟨q,hq,by simp⟩)⟩
 have hq:∀ q∈ps,q.1<2 ^ w∧q.2<2 ^ w:=fun q hm=>by have:=hb q hm;omega
 refine ⟨ps.map fun q=>q.1+q.2,by simp [h3],?_,?_,(qn ps).symm⟩
 ·intro d hd
  obtain ⟨q,hm,rfl⟩:=List.mem_map.1 hd
  have:=hb q hm
  omega
 ·rw [sT,C1 n ps h3 hq,DU n ps h3 hq,Nat.add_comm,Ht]
theorem zp {w D:Nat} (hD:2 * D<2 ^ w):∀ (n:Nat) (ps:List (Nat×Nat)),ps.length=n→(∀ q∈ps,q.1≤D∧q.2≤D) →
  (dV (2 ^ w * 2 ^ w) (ps.map fun q=>q.1+2 ^ w * q.2) / 2 ^ w+dV (2 ^ w * 2 ^ w) (ps.map fun q=>q.1+2 ^ w * q.2)&&&dM (2 ^ w) n)=dV (2 ^ w * 2 ^ w) (ps.map fun q=>q.1+q.2)
 | 0,ps,h,_=>by
  obtain rfl:=List.length_eq_zero_iff.1 h
  simp [dV]
 | n+1,[],h,_=>by cases h
 | n+1,q::ps,h,hq=>by
  obtain ⟨h1,h2⟩:=hq q (by simp)
  have ih:=zp hD n ps (by simpa using h) fun q hm=>hq q (by simp [hm])
  have hpos:=Nat.two_pow_pos w
  have hlow:dV (2 ^ w * 2 ^ w) (ps.map fun q=>q.1+2 ^ w * q.2) % 2 ^ w≤D:=by
   cases ps with
   | nil=>simp [dV]
   | cons r rs =>
    have hr:=hq r (by simp)
    simp only [List.map_cons,dV]
    rw [Nat.mul_assoc,Nat.add_assoc,← Nat.mul_add,Nat.add_mul_mod_self_left,Nat.mod_eq_of_lt (by omega)]
    exact hr.1
  have hm:2 ^ w-1<2 ^ (w+w):=by
   have:=Nat.pow_le_pow_right (n:=2) (by omega) (show w≤w+w by omega)
   omega
  simp only [List.map_cons,dM,List.replicate_succ,dV] at ih ⊢
  generalize dV (2 ^ w * 2 ^ w) (ps.map fun q=>q.1+2 ^ w * q.2)=R at ih hlow ⊢
  have e1:(q.1+2 ^ w * q.2+2 ^ w * 2 ^ w * R) / 2 ^ w=q.2+2 ^ w * R:=by
   rw [show q.1+2 ^ w * q.2+2 ^ w * 2 ^ w * R=q.1+2 ^ w * (q.2+2 ^ w * R) by rw [Nat.mul_add,Nat.mul_assoc,Nat.add_assoc],Nat.add_mul_div_left _ _ hpos,Nat.div_eq_of_lt (by omega),Nat.zero_add]
  have e2:q.2+2 ^ w * R+(q.1+2 ^ w * q.2+2 ^ w * 2 ^ w * R)=(q.1+q.2+2 ^ w * (q.2+R % 2 ^ w))+2 ^ (w+w) * (R / 2 ^ w+R):=by
   have hR:=Nat.mod_add_div R (2 ^ w)
   rw [Nat.pow_add]
   have:2 ^ w * R=2 ^ w * (R % 2 ^ w)+2 ^ w * 2 ^ w * (R / 2 ^ w):=by
    rw [Nat.mul_assoc,← Nat.mul_add,hR]
   rw [Nat.mul_add,Nat.mul_add]
   omega
  have hb:q.1+q.2+2 ^ w * (q.2+R % 2 ^ w)<2 ^ (w+w):=by
   rw [Nat.pow_add]
   have:2 ^ w * (q.2+R % 2 ^ w)≤2 ^ w * (2 ^ w-1):=Nat.mul_le_mul_left _ (by omega)
   rw [Nat.mul_sub_one] at this
   have:=Nat.le_mul_self (2 ^ w)
   omega
  rw [e1,e2]
  rw [← Nat.pow_add] at ih ⊢
  rw [Bn hb hm,ih,and_ones (by omega)]
theorem Ni {w n D x t:Nat} (hD:2 * D<2 ^ w) (h:QO (2 ^ w) (2 * n) D x t):QO (2 ^ w * 2 ^ w) n (2 * D) (x / 2 ^ w+x&&&dM (2 ^ w) n) t:=by
 obtain ⟨l,h1,h2,rfl,rfl⟩:=h
 obtain ⟨ps,h3,rfl⟩:=ss n l h1
 have hb:∀ q∈ps,q.1≤D∧q.2≤D:=fun q hq=>⟨h2 _ (List.mem_flatMap.2 ⟨q,hq,by simp⟩),h2 _ (List.mem_flatMap.2 ⟨q,hq,by simp⟩)⟩
 refine ⟨ps.map fun q=>q.1+q.2,by simp [h3],?_,?_,(qn ps).symm⟩
 ·intro d hd
  obtain ⟨q,hm,rfl⟩:=List.mem_map.1 hd
  have:=hb q hm
  omega
 ·rw [sT,zp hD n ps h3 hb]
theorem Qp {K:Nat}:∀ l:List Nat,(∀ d∈l,d<K)→dV K l<K ^ l.length
 | [],_=>by simp [dV]
 | a::l,h=>by
  have ih:=Qp l fun d hd=>h d (by simp [hd])
  have ha:=h a (by simp)
  simp only [dV,List.length_cons,Nat.pow_succ]
  have:K * dV K l≤K * (K ^ l.length-1):=Nat.mul_le_mul_left _ (by omega)
  rw [Nat.mul_sub_one] at this
  rw [Nat.mul_comm (K ^ l.length)]
  have hk:K≤K * K ^ l.length:=Nat.le_mul_of_pos_right _ (Nat.pow_pos (by omega))
  omega
theorem QO.lt {B n D x t:Nat} (h:QO B n D x t) (hD:D<B):x<B ^ n:=by
 obtain ⟨l,rfl,h2,rfl,_⟩:=h
 exact Qp l fun d hd=>by have:=h2 d hd;omega
def jC (x:BitVec 64):Nat→Nat→List Nat
 | _,0=>[]
 | i,n+1=>(x.getLsbD i).toNat::jC x (i+1) n
def KQ (x:BitVec 64):Nat:=(jC x 0 64).sum
theorem vQ (x:BitVec 64):∀ n i,(jC x i n).length=n
 | 0,_=>rfl
 | n+1,i=>by simp [jC,vQ x n]
theorem yy (x:BitVec 64):∀ n i,∀ d∈jC x i n,d≤1
 | 0,_,_,h=>by cases h
 | n+1,i,d,h=>by
  simp only [jC,List.mem_cons] at h
  rcases h with rfl | h
  ·cases x.getLsbD i<;>simp
  ·exact yy x n _ d h
theorem vd (x:BitVec 64):∀ n i,dV 2 (jC x i n)=x.toNat / 2 ^ i % 2 ^ n
 | 0,_=>by simp [jC,dV,Nat.mod_one]
 | n+1,i=>by
  simp only [jC,dV]
  rw [vd x n (i+1),show (2:Nat) ^ (n+1)=2 * 2 ^ n from Nat.pow_succ',Nat.mod_mul,Nat.div_div_eq_div_mul,← Nat.pow_succ]
  congr 1
  rw [BitVec.getLsbD,Nat.testBit_eq_decide_div_mod_eq]
  have:=Nat.mod_two_eq_zero_or_one (x.toNat / 2 ^ i)
  rcases this with h | h<;>rw [h]<;>rfl
theorem S6 (x:BitVec 64):QO (2 ^ 1) (2 * 32) 1 x.toNat (KQ x):=by
 refine ⟨jC x 0 64,vQ x 64 0,yy x 64 0,?_,rfl⟩
 have:=vd x 64 0
 rw [show (2:Nat) ^ 1=2 from rfl,this,Nat.pow_zero,Nat.div_one,Nat.mod_eq_of_lt x.isLt]
theorem IA (a:BitVec 64):ju a =
  let s1:=(a >>> 1&&&6148914691236517205#64)+(a&&&6148914691236517205#64)
  let s2:=(s1 >>> 2&&&3689348814741910323#64)+(s1&&&3689348814741910323#64)
  let s3:=s2 >>> 4+s2&&&1085102592571150095#64
  let s4:=s3+s3 >>> 8
  let s5:=s4+s4 >>> 16
  let s6:=s5+s5 >>> 32
  iZ BinOp.and IntKind.i64 (wr IntKind.i64 ↑s6.toNat) 127:=by kernel_rfl
theorem Sl {r q K:Nat} (h:r<K):(r+K * q) / K=q:=by
 rw [Nat.add_mul_div_left _ _ (by omega),Nat.div_eq_of_lt h,Nat.zero_add]
theorem e8a (a b c d e f g i:Nat):a+256 * b+65536 * c+16777216 * d+4294967296 * e+1099511627776 * f+281474976710656 * g+72057594037927936 * i=a+256 * (b+256 * c+65536 * d+16777216 * e+4294967296 * f+1099511627776 * g+281474976710656 * i):=by omega
theorem e8b (a b c d e f g i:Nat):a+256 * b+65536 * c+16777216 * d+4294967296 * e+1099511627776 * f+281474976710656 * g+72057594037927936 * i+(b+256 * c+65536 * d+16777216 * e+4294967296 * f+1099511627776 * g+281474976710656 * i)=((a+b)+256 * (b+c))+65536 * ((c+d)+256 * (d+e)+65536 * (e+f)+16777216 * (f+g)+4294967296 * (g+i)+1099511627776 * i):=by omega
theorem e8c (a b c d e f g i:Nat):((a+b)+256 * (b+c))+65536 * ((c+d)+256 * (d+e)+65536 * (e+f)+16777216 * (f+g)+4294967296 * (g+i)+1099511627776 * i)+((c+d)+256 * (d+e)+65536 * (e+f)+16777216 * (f+g)+4294967296 * (g+i)+1099511627776 * i)=((a+b+c+d)+256 * (b+c+d+e)+65536 * (c+d+e+f)+16777216 * (d+e+f+g))+4294967296 * ((e+f+g+i)+256 * (f+g+i)+65536 * (g+i)+16777216 * i):=by omega
theorem e8d (a b c d e f g i:Nat):((a+b+c+d)+256 * (b+c+d+e)+65536 * (c+d+e+f)+16777216 * (d+e+f+g))+4294967296 * ((e+f+g+i)+256 * (f+g+i)+65536 * (g+i)+16777216 * i)+((e+f+g+i)+256 * (f+g+i)+65536 * (g+i)+16777216 * i)=(a+b+c+d+e+f+g+i)+128 * (2 * (b+c+d+e)+512 * (c+d+e+f)+131072 * (d+e+f+g)+33554432 * ((e+f+g+i)+256 * (f+g+i)+65536 * (g+i)+16777216 * i)+2 * (f+g+i)+512 * (g+i)+131072 * i):=by omega
theorem b8a {a b c d e f g i:Nat} (k1:a≤8) (k2:b≤8) (k3:c≤8) (k4:d≤8) (k5:e≤8) (k6:f≤8) (k7:g≤8) (k8:i≤8):a+b+c+d+e+f+g+i<128:=by omega
theorem b8b {a b c d e f g i:Nat} (k1:a≤8) (k2:b≤8) (k3:c≤8) (k4:d≤8) (k5:e≤8) (k6:f≤8) (k7:g≤8) (k8:i≤8):(a+b+c+d)+256 * (b+c+d+e)+65536 * (c+d+e+f)+16777216 * (d+e+f+g)<4294967296:=by omega
theorem b8c {a b c:Nat} (k1:a≤8) (k2:b≤8) (k3:c≤8):(a+b)+256 * (b+c)<65536:=by omega
theorem ahs {a b c d e f g i x:Nat} (k1:a≤8) (k2:b≤8) (k3:c≤8) (k4:d≤8) (k5:e≤8) (k6:f≤8) (k7:g≤8) (k8:i≤8)
  (hx:x=a+256 * b+65536 * c+16777216 * d+4294967296 * e+1099511627776 * f+281474976710656 * g+72057594037927936 * i) :
  ((x+x / 256)+(x+x / 256) / 65536+((x+x / 256)+(x+x / 256) / 65536) / 4294967296) % 128=a+b+c+d+e+f+g+i∧x<1152921504606846976:=by
 have hb:x<1152921504606846976:=by omega
 have l1:a<256:=Nat.lt_of_le_of_lt k1 (by decide)
 have l2:=b8c k1 k2 k3
 have l3:=b8b k1 k2 k3 k4 k5 k6 k7 k8
 have l4:=b8a k1 k2 k3 k4 k5 k6 k7 k8
 have h1:x / 256=b+256 * c+65536 * d+16777216 * e+4294967296 * f+1099511627776 * g+281474976710656 * i:=by
  rw [hx,e8a a b c d e f g i];exact Sl l1
 refine ⟨?_,hb⟩
 have y:x+x / 256=((a+b)+256 * (b+c))+65536 * ((c+d)+256 * (d+e)+65536 * (e+f)+16777216 * (f+g)+4294967296 * (g+i)+1099511627776 * i):=by rw [h1,hx];exact e8b a b c d e f g i
 have y2:(x+x / 256) / 65536=(c+d)+256 * (d+e)+65536 * (e+f)+16777216 * (f+g)+4294967296 * (g+i)+1099511627776 * i:=by rw [y];exact Sl l2
 generalize x+x / 256=Y at y y2 ⊢
 have z:Y+Y / 65536=((a+b+c+d)+256 * (b+c+d+e)+65536 * (c+d+e+f)+16777216 * (d+e+f+g))+4294967296 * ((e+f+g+i)+256 * (f+g+i)+65536 * (g+i)+16777216 * i):=by rw [y2,y];exact e8c a b c d e f g i
 have z2:(Y+Y / 65536) / 4294967296=(e+f+g+i)+256 * (f+g+i)+65536 * (g+i)+16777216 * i:=by rw [z];exact Sl l3
 generalize Y+Y / 65536=Z at z z2 ⊢
 rw [z2,z]
 refine (congrArg (· % 128) (e8d a b c d e f g i)).trans ?_
 show (_+128 * _) % 128=_
 rw [Nat.add_mul_mod_self_left]
 exact Nat.mod_eq_of_lt l4
theorem len8 {l:List Nat} (h:l.length=8):∃ a b c d e f g i,l=[a,b,c,d,e,f,g,i]:=by
 rcases l with _ | ⟨a,_ | ⟨b,_ | ⟨c,_ | ⟨d,_ | ⟨e,_ | ⟨f,_ | ⟨g,_ | ⟨i,_ | ⟨j,l⟩⟩⟩⟩⟩⟩⟩⟩⟩
 all_goals first | exact ⟨_,_,_,_,_,_,_,_,rfl⟩ | (simp only [List.length_cons,List.length_nil] at h;omega)
theorem X5 {x t:Nat} (h:QO 256 8 8 x t):((x+x / 256)+(x+x / 256) / 65536+((x+x / 256)+(x+x / 256) / 65536) / 4294967296) % 128=t∧x<1152921504606846976:=by
 obtain ⟨l,h1,h2,h3,h4⟩:=h
 obtain ⟨a,b,c,d,e,f,g,i,rfl⟩:=len8 h1
 have h5:a+b+c+d+e+f+g+i=t:=by
  rw [← h4];simp only [List.sum_cons,List.sum_nil,Nat.add_zero,Nat.add_assoc]
 rw [← h5]
 refine ahs (h2 a (by simp)) (h2 b (by simp)) (h2 c (by simp)) (h2 d (by simp)) (h2 e (by simp)) (h2 f (by simp)) (h2 g (by simp)) (h2 i (by simp)) ?_
 rw [← h3]
 simp only [dV,Nat.mul_add,← Nat.mul_assoc,Nat.reduceMul,Nat.mul_zero,Nat.add_zero,Nat.add_assoc]
theorem PX {K D:Nat} (hK:0<K):∀ l:List Nat,(∀ d∈l,d≤D)→dV K l * (K-1)≤D * (K ^ l.length-1)
 | [],_=>by simp [dV]
 | a::l,h=>by
  have ih:=PX hK l fun d hd=>h d (by simp [hd])
  have ha:=h a (by simp)
  simp only [dV,List.length_cons]
  have e:K ^ (l.length+1)-1=(K-1)+K * (K ^ l.length-1):=by
   rw [Nat.pow_succ',Nat.mul_sub_one]
   have:K * 1≤K * K ^ l.length:=Nat.mul_le_mul_left _ (Nat.pow_pos hK)
   omega
  rw [e,Nat.add_mul,Nat.mul_add,Nat.mul_assoc]
  have h1:a * (K-1)≤D * (K-1):=Nat.mul_le_mul_right _ ha
  have h2:K * (dV K l * (K-1))≤K * (D * (K ^ l.length-1)):=Nat.mul_le_mul_left _ ih
  have h3:K * (D * (K ^ l.length-1))=D * (K * (K ^ l.length-1)):=Nat.mul_left_comm _ _ _
  omega
theorem RM {n:Nat} (h:n<9223372036854775808):iZ BinOp.and IntKind.i64 (wr IntKind.i64 ↑n) 127=((n % 128:Nat):Int):=by
 rw [aN (by omega) (by omega)]
 have e:(BitVec.ofInt 64 (n:Int)&&&BitVec.ofInt 64 127).toNat=n % 128:=by
  rw [BitVec.toNat_and,BitVec.ofInt_natCast,BitVec.toNat_ofNat,show (BitVec.ofInt 64 127).toNat=2 ^ 7-1 from rfl,Nat.and_two_pow_sub_one_eq_mod]
  omega
 show IntKind.i64.wrap _=_
 rw [show (BitVec.ofInt IntKind.i64.bits (n:Int)&&&BitVec.ofInt IntKind.i64.bits 127).toNat=n % 128 from e]
 exact aN (by omega) (by omega)
theorem DA (a:BitVec 64):ju a=KQ a:=by
 rw [IA]
 have d1:=AB (w:=1) (n:=32) (D:=1) (by decide) (S6 a)
 have d2:=AB (w:=2) (n:=16) (D:=2) (by decide) (x:=(a.toNat / 2 ^ 1&&&dM (2 ^ 1) 32)+(a.toNat&&&dM (2 ^ 1) 32)) (t:=KQ a) d1
 have l1:=d1.lt (by decide)
 have l2:=d2.lt (by decide)
 have d3:=Ni (w:=4) (n:=8) (D:=4) (by decide) d2
 have l3:=d3.lt (by decide)
 have m1:dM (2 ^ 1) 32=6148914691236517205:=by decide
 have m2:dM (2 ^ 2) 16=3689348814741910323:=by decide
 have m3:dM (2 ^ 4) 8=1085102592571150095:=by decide
 rw [m1] at d1 d2 l1 l2 d3 l3
 rw [m2] at d2 l2 d3 l3
 rw [m3] at d3 l3
 dsimp only
 have e1:((a >>> 1&&&6148914691236517205#64)+(a&&&6148914691236517205#64)).toNat=(a.toNat / 2 ^ 1&&&6148914691236517205)+(a.toNat&&&6148914691236517205):=by
  rw [BitVec.toNat_add,BitVec.toNat_and,BitVec.toNat_and,BitVec.toNat_ushiftRight,Nat.shiftRight_eq_div_pow]
  exact Nat.mod_eq_of_lt l1
 generalize (a >>> 1&&&6148914691236517205#64)+(a&&&6148914691236517205#64)=s1 at e1 ⊢
 rw [← e1] at d2 l2 d3 l3
 have e2:((s1 >>> 2&&&3689348814741910323#64)+(s1&&&3689348814741910323#64)).toNat=(s1.toNat / 2 ^ 2&&&3689348814741910323)+(s1.toNat&&&3689348814741910323):=by
  rw [BitVec.toNat_add,BitVec.toNat_and,BitVec.toNat_and,BitVec.toNat_ushiftRight,Nat.shiftRight_eq_div_pow]
  exact Nat.mod_eq_of_lt l2
 generalize (s1 >>> 2&&&3689348814741910323#64)+(s1&&&3689348814741910323#64)=s2 at e2 ⊢
 rw [← e2] at d3 l3 l2 d2
 have k2:s2.toNat / 2 ^ 4+s2.toNat<2 ^ 64:=by
  obtain ⟨l,h1,h2,h3,_⟩:=d2
  have h5:=PX (K:=2 ^ 2 * 2 ^ 2) (D:=2 * 2) (by decide) l h2
  rw [h3,h1] at h5
  omega
 have e3:(s2 >>> 4+s2&&&1085102592571150095#64).toNat=(s2.toNat / 2 ^ 4+s2.toNat&&&1085102592571150095):=by
  rw [BitVec.toNat_and,BitVec.toNat_add,BitVec.toNat_ushiftRight,Nat.shiftRight_eq_div_pow,Nat.mod_eq_of_lt k2]
  rfl
 generalize (s2 >>> 4+s2&&&1085102592571150095#64)=s3 at e3 ⊢
 rw [← e3] at d3 l3
 obtain ⟨f1,f2⟩:=X5 d3
 have e4:(s3+s3 >>> 8).toNat=s3.toNat+s3.toNat / 256:=by
  rw [BitVec.toNat_add,BitVec.toNat_ushiftRight,Nat.shiftRight_eq_div_pow]
  omega
 generalize s3+s3 >>> 8=s4 at e4 ⊢
 have e5:(s4+s4 >>> 16).toNat=s4.toNat+s4.toNat / 65536:=by
  rw [BitVec.toNat_add,BitVec.toNat_ushiftRight,Nat.shiftRight_eq_div_pow]
  omega
 generalize s4+s4 >>> 16=s5 at e5 ⊢
 have e6:(s5+s5 >>> 32).toNat=s5.toNat+s5.toNat / 4294967296:=by
  rw [BitVec.toNat_add,BitVec.toNat_ushiftRight,Nat.shiftRight_eq_div_pow]
  omega
 rw [RM (by rw [e6];omega),e6,e5,e4,f1]
end Kz
end
noncomputable section
namespace Kz
open Go Go.RowKit Go.Proofs
def adU:KT:=[(258,12,[(0,[1,2]),(1,[4])])]
def adB:aw:=bO Pz adU [(147,fD)] [] []
theorem Wv:aV adB:=ak aj ⟨fG,trivial⟩ trivial trivial
def ew (a:Pos) (b:Int):BitVec 64:=(aK (Pos.mk a.variant a.ae a.ab a.af a.aa a.ai a.ah a.ag a.half a.full) 0 b|||aK (Pos.mk a.variant a.ae a.ab a.af a.aa a.ai a.ah a.ag a.half a.full) 1 b)
def oS (a:Pos) (b:Int):Bool:=(ct (Pos.mk a.variant a.ae a.ab a.af a.aa a.ai a.ah a.ag a.half a.full) (0) (b)&&(ct (Pos.mk a.variant a.ae a.ab a.af a.aa a.ai a.ah a.ag a.half a.full) (1) (b)&&true))
theorem aj4 (a:Pos) (b:Int) (h:oS a b=true):PS Pz 258 [Pos.av a,.int .u8 b] (dU.res (ew a b)):=pq14 Wv h
def VV:GT:=g2 aY (dI .u8) (fun a b=>cg (oS a b) (dU.res (ew a b)))
theorem ac5:Sound Pz 258 VV:=aT fun a b=>ay (aj4 a b)
def aen:KT:=[(228,68,[(0,(1::(rn 32 13 [59,60,61,64,65,66]))),(1,(1::3::(rn 32 13 [59,60,61,64,65,66]))),(2,(1::3::11::(rn 32 13 [59,60,61,64,65,66]))),(3,(1::3::11::12::(rn 32 13 [59,60,61,64,65,66]))),(4,(1::3::11::12::(rn 32 13 [59,60,61,64,65,66]))),(5,(1::4::(rn 32 13 []))),(6,(1::4::5::(rn 32 13 []))),(7,(4::5::27::(rn 32 13 []))),(8,[2]),(9,[2]),(10,[1,3,11,46,59,60,61,64,65,66]),(11,[1,3,46,59,60,61,64,65,66]),(12,[3,6,7,59,60,61,64,65,66]),(13,[2]),(14,[2])])]
def afD:aw:=bO Pz aen [(193,tG),(258,VV),(259,TM),(147,fD)] [] []
theorem aaN:aV afD:=ak aj ⟨uJ,ac5,aaw,fG,trivial⟩ trivial trivial
def A6 (a:Pos):Bool:=(bif a.variant==0 then (bif a.variant==0 then (bif bg (Pos.mk a.variant a.ae a.ab a.af a.aa a.ai a.ah a.ag a.half a.full) &&& ~~~ew (Pos.mk a.variant a.ae a.ab a.af a.aa a.ai a.ah a.ag a.half a.full) 6 &&& ~~~ew (Pos.mk a.variant a.ae a.ab a.af a.aa a.ai a.ah a.ag a.half a.full) 3 &&& ~~~ew (Pos.mk a.variant a.ae a.ab a.af a.aa a.ai a.ah a.ag a.half a.full) 2 != 0#64 then (false) else (bif decide (ju (bg (Pos.mk a.variant a.ae a.ab a.af a.aa a.ai a.ah a.ag a.half a.full) &&& ~~~ew (Pos.mk a.variant a.ae a.ab a.af a.aa a.ai a.ah a.ag a.half a.full) 6)≤1) then (true) else (bif bg (Pos.mk a.variant a.ae a.ab a.af a.aa a.ai a.ah a.ag a.half a.full) &&& ~~~ew (Pos.mk a.variant a.ae a.ab a.af a.aa a.ai a.ah a.ag a.half a.full) 6==ew (Pos.mk a.variant a.ae a.ab a.af a.aa a.ai a.ah a.ag a.half a.full) 3 then (bif bg (Pos.mk a.variant a.ae a.ab a.af a.aa a.ai a.ah a.ag a.half a.full) &&& ~~~ew (Pos.mk a.variant a.ae a.ab a.af a.aa a.ai a.ah a.ag a.half a.full) 6&&&6172840429334713770#64==0#64 then (true) else (bg (Pos.mk a.variant a.ae a.ab a.af a.aa a.ai a.ah a.ag a.half a.full) &&& ~~~ew (Pos.mk a.variant a.ae a.ab a.af a.aa a.ai a.ah a.ag a.half a.full) 6 &&& ~~~6172840429334713770#64==0#64)) else (false)))) else (bif a.variant==3 then (bif a.variant==3 then (bif bg (Pos.mk a.variant a.ae a.ab a.af a.aa a.ai a.ah a.ag a.half a.full)==aK (Pos.mk a.variant a.ae a.ab a.af a.aa a.ai a.ah a.ag a.half a.full) 0 6|||aK (Pos.mk a.variant a.ae a.ab a.af a.aa a.ai a.ah a.ag a.half a.full) 1 6 then (bif ju (aK (Pos.mk a.variant a.ae a.ab a.af a.aa a.ai a.ah a.ag a.half a.full) 0 6)==1 then (ju (aK (Pos.mk a.variant a.ae a.ab a.af a.aa a.ai a.ah a.ag a.half a.full) 1 6)==1) else (false)) else (false)) else (false)) else (bif a.variant==5 then (bif bg (Pos.mk a.variant a.ae a.ab a.af a.aa a.ai a.ah a.ag a.half a.full)==aK (Pos.mk a.variant a.ae a.ab a.af a.aa a.ai a.ah a.ag a.half a.full) 0 6|||aK (Pos.mk a.variant a.ae a.ab a.af a.aa a.ai a.ah a.ag a.half a.full) 1 6 then (bif ju (aK (Pos.mk a.variant a.ae a.ab a.af a.aa a.ai a.ah a.ag a.half a.full) 0 6)==1 then (ju (aK (Pos.mk a.variant a.ae a.ab a.af a.aa a.ai a.ah a.ag a.half a.full) 1 6)==1) else (false)) else (false)) else (false)))) else (bif a.variant==1 then (bif bg (Pos.mk a.variant a.ae a.ab a.af a.aa a.ai a.ah a.ag a.half a.full) &&& ~~~ew (Pos.mk a.variant a.ae a.ab a.af a.aa a.ai a.ah a.ag a.half a.full) 6 &&& ~~~ew (Pos.mk a.variant a.ae a.ab a.af a.aa a.ai a.ah a.ag a.half a.full) 3 &&& ~~~ew (Pos.mk a.variant a.ae a.ab a.af a.aa a.ai a.ah a.ag a.half a.full) 2 != 0#64 then (false) else (bif decide (ju (bg (Pos.mk a.variant a.ae a.ab a.af a.aa a.ai a.ah a.ag a.half a.full) &&& ~~~ew (Pos.mk a.variant a.ae a.ab a.af a.aa a.ai a.ah a.ag a.half a.full) 6)≤1) then (true) else (bif bg (Pos.mk a.variant a.ae a.ab a.af a.aa a.ai a.ah a.ag a.half a.full) &&& ~~~ew (Pos.mk a.variant a.ae a.ab a.af a.aa a.ai a.ah a.ag a.half a.full) 6==ew (Pos.mk a.variant a.ae a.ab a.af a.aa a.ai a.ah a.ag a.half a.full) 3 then (bif bg (Pos.mk a.variant a.ae a.ab a.af a.aa a.ai a.ah a.ag a.half a.full) &&& ~~~ew (Pos.mk a.variant a.ae a.ab a.af a.aa a.ai a.ah a.ag a.half a.full) 6&&&6172840429334713770#64==0#64 then (true) else (bg (Pos.mk a.variant a.ae a.ab a.af a.aa a.ai a.ah a.ag a.half a.full) &&& ~~~ew (Pos.mk a.variant a.ae a.ab a.af a.aa a.ai a.ah a.ag a.half a.full) 6 &&& ~~~6172840429334713770#64==0#64)) else (false)))) else (bif a.variant==3 then (bif a.variant==3 then (bif bg (Pos.mk a.variant a.ae a.ab a.af a.aa a.ai a.ah a.ag a.half a.full)==aK (Pos.mk a.variant a.ae a.ab a.af a.aa a.ai a.ah a.ag a.half a.full) 0 6|||aK (Pos.mk a.variant a.ae a.ab a.af a.aa a.ai a.ah a.ag a.half a.full) 1 6 then (bif ju (aK (Pos.mk a.variant a.ae a.ab a.af a.aa a.ai a.ah a.ag a.half a.full) 0 6)==1 then (ju (aK (Pos.mk a.variant a.ae a.ab a.af a.aa a.ai a.ah a.ag a.half a.full) 1 6)==1) else (false)) else (false)) else (false)) else (bif a.variant==5 then (bif bg (Pos.mk a.variant a.ae a.ab a.af a.aa a.ai a.ah a.ag a.half a.full)==aK (Pos.mk a.variant a.ae a.ab a.af a.aa a.ai a.ah a.ag a.half a.full) 0 6|||aK (Pos.mk a.variant a.ae a.ab a.af a.aa a.ai a.ah a.ag a.half a.full) 1 6 then (bif ju (aK (Pos.mk a.variant a.ae a.ab a.af a.aa a.ai a.ah a.ag a.half a.full) 0 6)==1 then (ju (aK (Pos.mk a.variant a.ae a.ab a.af a.aa a.ai a.ah a.ag a.half a.full) 1 6)==1) else (false)) else (false)) else (false)))))
def y7 (a:Pos):Bool:=(qz (Pos.mk a.variant a.ae a.ab a.af a.aa a.ai a.ah a.ag a.half a.full)&&(bif a.variant==0 then (bif a.variant==0 then (oS (Pos.mk a.variant a.ae a.ab a.af a.aa a.ai a.ah a.ag a.half a.full) (6)&&(oS (Pos.mk a.variant a.ae a.ab a.af a.aa a.ai a.ah a.ag a.half a.full) (3)&&(oS (Pos.mk a.variant a.ae a.ab a.af a.aa a.ai a.ah a.ag a.half a.full) (2)&&true))) else (bif a.variant==3 then (bif a.variant==3 then (ct (Pos.mk a.variant a.ae a.ab a.af a.aa a.ai a.ah a.ag a.half a.full) (0) (6)&&(ct (Pos.mk a.variant a.ae a.ab a.af a.aa a.ai a.ah a.ag a.half a.full) (1) (6)&&true)) else true) else (bif a.variant==5 then (ct (Pos.mk a.variant a.ae a.ab a.af a.aa a.ai a.ah a.ag a.half a.full) (0) (6)&&(ct (Pos.mk a.variant a.ae a.ab a.af a.aa a.ai a.ah a.ag a.half a.full) (1) (6)&&true)) else true))) else (bif a.variant==1 then (oS (Pos.mk a.variant a.ae a.ab a.af a.aa a.ai a.ah a.ag a.half a.full) (6)&&(oS (Pos.mk a.variant a.ae a.ab a.af a.aa a.ai a.ah a.ag a.half a.full) (3)&&(oS (Pos.mk a.variant a.ae a.ab a.af a.aa a.ai a.ah a.ag a.half a.full) (2)&&true))) else (bif a.variant==3 then (bif a.variant==3 then (ct (Pos.mk a.variant a.ae a.ab a.af a.aa a.ai a.ah a.ag a.half a.full) (0) (6)&&(ct (Pos.mk a.variant a.ae a.ab a.af a.aa a.ai a.ah a.ag a.half a.full) (1) (6)&&true)) else true) else (bif a.variant==5 then (ct (Pos.mk a.variant a.ae a.ab a.af a.aa a.ai a.ah a.ag a.half a.full) (0) (6)&&(ct (Pos.mk a.variant a.ae a.ab a.af a.aa a.ai a.ah a.ag a.half a.full) (1) (6)&&true)) else true)))))
theorem ace (a:Pos) (h:y7 a=true):PS Pz 228 [Pos.av a] (dB.res (A6 a)):=pq14 aaN h
def YL:GT:=g1 aY (fun a=>cg (y7 a) (dB.res (A6 a)))
theorem acb:Sound Pz 228 YL:=aF fun a=>ay (ace a)
def K34:KT:=[(34,96,[(0,(1::(rn 66 13 [92,93,94]))),(1,(1::3::(rn 66 13 [92,93,94]))),(2,(1::(rn 3 5 (rn 66 13 [92,93,94])))),(3,(1::(rn 3 6 (rn 66 13 [92,93,94])))),(4,(1::(rn 3 6 (12::(rn 66 13 [92,93,94]))))),(5,(1::(rn 3 6 (rn 66 13 [92,93,94])))),(6,(1::(rn 3 6 (19::(rn 66 13 [92,93,94]))))),(7,(1::(rn 3 6 (rn 66 13 [92,93,94])))),(8,(1::(rn 3 6 (19::22::(rn 66 13 [92,93,94]))))),(9,(1::(rn 3 6 (19::24::(rn 66 13 [92,93,94]))))),(10,(1::(rn 3 6 (rn 66 13 [92,93,94])))),(11,(1::(rn 3 6 (19::35::(rn 66 13 [92,93,94]))))),(12,(1::(rn 3 6 (rn 66 13 [92,93,94])))),(13,(1::(rn 3 6 (39::(rn 66 13 [92,93,94]))))),(14,(1::(rn 3 6 (47::(rn 66 13 [92,93,94]))))),(15,(1::(rn 3 6 (rn 66 13 [92,93,94])))),(16,(1::(rn 3 6 (rn 66 13 [92,93,94])))),(17,(rn 3 5 (53::(rn 66 13 [92,93,94])))),(18,(rn 3 5 (53::54::(rn 66 13 [92,93,94])))),(19,(rn 3 5 (53::54::(rn 66 13 [92,93,94])))),(20,(rn 4 4 (9::(rn 66 13 [])))),(21,[2]),(22,(rn 3 5 [53,80,92,93,94])),(23,(rn 3 5 [80,92,93,94])),(24,[2]),(25,[2])])]
def aaK:aw:=bO Pz K34 [(82,mz),(83,PV)] [] []
theorem RY:aV aaK:=ak aj ⟨mN,Ux,trivial⟩ trivial trivial
def Qf (p1:Pos) (x:(Int×Int×Int×Int×Int×Z')):St:=St.mk (.any::.ptr 0 0::.any::.ptr 1 0::.int .i64 x.1::.int .i64 x.2.1::.int .i64 x.2.2.1::.int .i64 x.2.2.2.1::.int .i64 x.2.2.2.2.1::(an 57 (.undef::.undef::.undef::.undef::.undef::.undef::.undef::.undef::.undef::.undef::.undef::.undef::.undef::(an 13 [.undef,.undef,.undef,.any])))) (Hp.mk [(pc p1 []),[.ints .i64 2 x.2.2.2.2.2]] [] [] 0 0 0)
def O5 (p1:Pos):(Int×Int×Int×Int×Int×Bool×Z')→Out:=fun y=>.exit 0 (St.mk (.any::.ptr 0 0::.any::.ptr 1 0::.int .i64 y.1::.int .i64 y.2.1::.int .i64 y.2.2.1::.int .i64 y.2.2.2.1::.int .i64 y.2.2.2.2.1::(an 3 (.bool y.2.2.2.2.2.1::(an 53 (.undef::.undef::.undef::.undef::.undef::.undef::.undef::.undef::.undef::.undef::.undef::.undef::.undef::(an 13 [.undef,.undef,.undef,.any])))))) (Hp.mk [(pc p1 []),[.ints .i64 2 y.2.2.2.2.2.2]] [] [] 0 0 0))
def Gr (p1:Pos) (x:(Int×Int×Int×Int×Int×Z')):aI (Int×Int×Int×Int×Int×Z') ((Int×Int×Int×Int×Int×Bool×Z')):=(bif decide (x.2.2.2.2.1<64) then (bif bw (p1.ae.getD (scale 1 x.2.2.2.2.1).toNat 0)==0 then (aI.go (x.1,x.2.1,x.2.2.1,x.2.2.2.1,wr .i64 (x.2.2.2.2.1+1),x.2.2.2.2.2)) else (bif bw (p1.ae.getD (scale 1 x.2.2.2.2.1).toNat 0)==6 then (aI.go (x.1,x.2.1,x.2.2.1,x.2.2.2.1,wr .i64 (x.2.2.2.2.1+1),x.2.2.2.2.2.set (scale 1 (nn (p1.ae.getD (scale 1 x.2.2.2.2.1).toNat 0))).toNat (wr .i64 (x.2.2.2.2.2.getD (scale 1 (nn (p1.ae.getD (scale 1 x.2.2.2.2.1).toNat 0))).toNat 0+1)))) else (bif bw (p1.ae.getD (scale 1 x.2.2.2.2.1).toNat 0)==2 then (aI.go (wr .i64 (x.1+1),x.2.1,x.2.2.1,x.2.2.2.1,wr .i64 (x.2.2.2.2.1+1),x.2.2.2.2.2)) else (bif bw (p1.ae.getD (scale 1 x.2.2.2.2.1).toNat 0)==3 then (bif (wr .i64 (wr .i64 (x.2.2.2.2.1.tdiv 8)+x.2.2.2.2.1.tmod 8)).tmod 2==0 then (aI.go (x.1,wr .i64 (x.2.1+1),x.2.2.1,x.2.2.2.1,wr .i64 (x.2.2.2.2.1+1),x.2.2.2.2.2)) else (aI.go (x.1,x.2.1,wr .i64 (x.2.2.1+1),x.2.2.2.1,wr .i64 (x.2.2.2.2.1+1),x.2.2.2.2.2))) else (aI.go (x.1,x.2.1,x.2.2.1,wr .i64 (x.2.2.2.1+1),wr .i64 (x.2.2.2.2.1+1),x.2.2.2.2.2)))))) else (aI.out ((x.1,x.2.1,x.2.2.1,x.2.2.2.1,x.2.2.2.2.1,decide (x.2.2.2.2.1<64),x.2.2.2.2.2))))
def D0 (p1:Pos) (x:(Int×Int×Int×Int×Int×Z')):Bool:=(bif decide (x.2.2.2.2.1<64) then (decide (0≤x.2.2.2.2.1)&&decide (x.2.2.2.2.1<Int.ofNat 64)&&(bif bw (p1.ae.getD (scale 1 x.2.2.2.2.1).toNat 0)==0 then true else (bif bw (p1.ae.getD (scale 1 x.2.2.2.2.1).toNat 0)==6 then (decide (0≤x.2.2.2.2.1)&&decide (x.2.2.2.2.1<Int.ofNat 64)&&(decide (0≤nn (p1.ae.getD (scale 1 x.2.2.2.2.1).toNat 0))&&decide (nn (p1.ae.getD (scale 1 x.2.2.2.2.1).toNat 0)<Int.ofNat 2)&&(decide (0≤nn (p1.ae.getD (scale 1 x.2.2.2.2.1).toNat 0))&&decide (nn (p1.ae.getD (scale 1 x.2.2.2.2.1).toNat 0)<Int.ofNat 2)&&true))) else true))) else true)
def bF (p1:Pos) (x:(Int×Int×Int×Int×Int×Z')):Option ((Int×Int×Int×Int×Int×Bool×Z')):=da (fun x=>bif D0 p1 x then Gr p1 x else .bad) many x
abbrev O2 {α:Type} (k:Pos→(Int×Int×Int×Int×Int×Z')→α) (s:St):α:=wP s 0 fun q0=>k q0 ((tI (tT s 4)),(tI (tT s 5)),(tI (tT s 6)),(tI (tT s 7)),(tI (tT s 8)),(tN (tH s 1 0)))
theorem ZI (p1:Pos) (x:(Int×Int×Int×Int×Int×Z')) (r:(Int×Int×Int×Int×Int×Bool×Z')) (h:bF p1 x=some r):aB Pz (bj Pz 34 4) (Qf p1 x) (O5 p1 r):=smq (m:=12) (fn:=34) RY (O2 fun _ x=>some x) (fun o=>match o with | .exit 0 s=>some ((tI (tT s 4)),(tI (tT s 5)),(tI (tT s 6)),(tI (tT s 7)),(tI (tT s 8)),(tB (tT s 12)),(tN (tH s 1 0))) | _=>none) many x r h
def P4 (b:Code) (s:St):Tr Out:=O2 (fun p1 x=>mH b (bj Pz 34 4) s (Qf p1 x) (bF p1 x) (O5 p1)) s
theorem Ur:∀ b,aZ Pz b (P4 b):=fun _ _ _ h=>bX (ZI _ _) h
def B34:aw:=bO Pz K34 [(82,mz),(83,PV)] [(34,4,P4)] []
theorem ad8:aV B34:=ak aj ⟨mN,Ux,trivial⟩ ⟨Ur,trivial⟩ trivial
def Vw (a:Pos):Bool:=(bif a.variant==0 then (bif a.variant==0 then (bif ((bF a (0,0,0,0,0,List.replicate 2 0)).getD default).2.2.2.1==0 then (bif decide (wr .i64 (wr .i64 (((bF a (0,0,0,0,0,List.replicate 2 0)).getD default).1+((bF a (0,0,0,0,0,List.replicate 2 0)).getD default).2.1)+((bF a (0,0,0,0,0,List.replicate 2 0)).getD default).2.2.1)≤1) then (true) else (bif ((bF a (0,0,0,0,0,List.replicate 2 0)).getD default).1==0 then (bif ((bF a (0,0,0,0,0,List.replicate 2 0)).getD default).2.1==0 then (true) else (((bF a (0,0,0,0,0,List.replicate 2 0)).getD default).2.2.1==0)) else (false))) else (false)) else (bif a.variant==3 then (bif a.variant==3 then (bif wr .i64 (wr .i64 (wr .i64 (((bF a (0,0,0,0,0,List.replicate 2 0)).getD default).2.2.2.1+((bF a (0,0,0,0,0,List.replicate 2 0)).getD default).1)+((bF a (0,0,0,0,0,List.replicate 2 0)).getD default).2.1)+((bF a (0,0,0,0,0,List.replicate 2 0)).getD default).2.2.1)==0 then (bV BinOp.eql (((bF a (0,0,0,0,0,List.replicate 2 0)).getD default).2.2.2.2.2.2==((List.replicate 2 0).set 0 1).set 1 1&&true)) else (false)) else (false)) else (bif a.variant==5 then (bif wr .i64 (wr .i64 (wr .i64 (((bF a (0,0,0,0,0,List.replicate 2 0)).getD default).2.2.2.1+((bF a (0,0,0,0,0,List.replicate 2 0)).getD default).1)+((bF a (0,0,0,0,0,List.replicate 2 0)).getD default).2.1)+((bF a (0,0,0,0,0,List.replicate 2 0)).getD default).2.2.1)==0 then (bV BinOp.eql (((bF a (0,0,0,0,0,List.replicate 2 0)).getD default).2.2.2.2.2.2==((List.replicate 2 0).set 0 1).set 1 1&&true)) else (false)) else (false)))) else (bif a.variant==1 then (bif ((bF a (0,0,0,0,0,List.replicate 2 0)).getD default).2.2.2.1==0 then (bif decide (wr .i64 (wr .i64 (((bF a (0,0,0,0,0,List.replicate 2 0)).getD default).1+((bF a (0,0,0,0,0,List.replicate 2 0)).getD default).2.1)+((bF a (0,0,0,0,0,List.replicate 2 0)).getD default).2.2.1)≤1) then (true) else (bif ((bF a (0,0,0,0,0,List.replicate 2 0)).getD default).1==0 then (bif ((bF a (0,0,0,0,0,List.replicate 2 0)).getD default).2.1==0 then (true) else (((bF a (0,0,0,0,0,List.replicate 2 0)).getD default).2.2.1==0)) else (false))) else (false)) else (bif a.variant==3 then (bif a.variant==3 then (bif wr .i64 (wr .i64 (wr .i64 (((bF a (0,0,0,0,0,List.replicate 2 0)).getD default).2.2.2.1+((bF a (0,0,0,0,0,List.replicate 2 0)).getD default).1)+((bF a (0,0,0,0,0,List.replicate 2 0)).getD default).2.1)+((bF a (0,0,0,0,0,List.replicate 2 0)).getD default).2.2.1)==0 then (bV BinOp.eql (((bF a (0,0,0,0,0,List.replicate 2 0)).getD default).2.2.2.2.2.2==((List.replicate 2 0).set 0 1).set 1 1&&true)) else (false)) else (false)) else (bif a.variant==5 then (bif wr .i64 (wr .i64 (wr .i64 (((bF a (0,0,0,0,0,List.replicate 2 0)).getD default).2.2.2.1+((bF a (0,0,0,0,0,List.replicate 2 0)).getD default).1)+((bF a (0,0,0,0,0,List.replicate 2 0)).getD default).2.1)+((bF a (0,0,0,0,0,List.replicate 2 0)).getD default).2.2.1)==0 then (bV BinOp.eql (((bF a (0,0,0,0,0,List.replicate 2 0)).getD default).2.2.2.2.2.2==((List.replicate 2 0).set 0 1).set 1 1&&true)) else (false)) else (false)))))
def NC (a:Pos):Bool:=((bF a (0,0,0,0,0,List.replicate 2 0)).isSome&&true)
theorem P34 (a:Pos) (h:NC a=true):PS Pz 34 [Pos.av a] (dB.res (Vw a)):=pq14 ad8 h
def G34:GT:=g1 aY (fun a=>cg (NC a) (dB.res (Vw a)))
theorem s34:Sound Pz 34 G34:=aF fun a=>ay (P34 a)
end Kz
end
noncomputable section
namespace Kz
open Go Go.RowKit
def bU (P:Nat→Bool):Nat→Nat
 | 0=>0
 | n+1=>bU P n+(P n).toNat
theorem rz {P Q R:Nat→Bool}:∀ {n:Nat},(∀ i,i<n→(P i).toNat=(Q i).toNat+(R i).toNat)→bU P n=bU Q n+bU R n
 | 0,_=>rfl
 | n+1,h=>by
  have h1:=rz (n:=n) fun i hi=>h i (by omega)
  have h2:=h n (by omega)
  unfold bU
  omega
theorem px {P Q:Nat→Bool}:∀ {n:Nat},(∀ i,i<n→P i=Q i)→bU P n=bU Q n
 | 0,_=>rfl
 | n+1,h=>by
  unfold bU
  rw [px (n:=n) fun i hi=>h i (by omega),h n (by omega)]
theorem il (P:Nat→Bool):∀ n,bU P n≤n
 | 0=>Nat.le_refl _
 | n+1=>by
  have:=il P n
  have:(P n).toNat≤1:=by cases P n<;>simp
  unfold bU
  omega
theorem jx {P:Nat→Bool}:∀ {n:Nat},bU P n=0 ↔ ∀ i,i<n→P i=false
 | 0=>⟨fun _ i h=>by omega,fun _=>rfl⟩
 | n+1=>by
  have ih:=jx (P:=P) (n:=n)
  unfold bU
  constructor
  ·intro h i hi
   by_cases e:i=n
   ·subst e;cases hp:P i with
    | false=>rfl
    | true=>rw [hp] at h;simp at h
   ·exact ih.1 (by omega) i (by omega)
  ·intro h
   rw [ih.2 fun i hi=>h i (by omega),h n (by omega)]
   rfl
theorem Ap (x:BitVec 64):∀ (n i:Nat),(jC x i n).sum+bU x.getLsbD i=bU x.getLsbD (i+n)
 | 0,i=>by simp [jC]
 | n+1,i=>by
  have:=Ap x n (i+1)
  simp only [jC,List.sum_cons]
  rw [show i+(n+1)=i+1+n by omega,← this]
  simp only [bU]
  omega
theorem zC (x:BitVec 64):KQ x=bU x.getLsbD 64:=by
 have:=Ap x 64 0
 unfold KQ
 simpa [bU] using this
theorem tq {x:BitVec 64} {P:Nat→Bool} (h:∀ i,i<64→x.getLsbD i=P i):(x==0#64)=decide (bU P 64=0):=by
 rw [Bool.eq_iff_iff,beq_iff_eq,decide_eq_true_eq,jx]
 constructor
 ·intro e i hi
  rw [← h i hi,e];simp
 ·intro e
  exact BitVec.eq_of_getLsbD_eq fun i hi=>by rw [h i hi,e i hi];simp
noncomputable section
variable (p:Pos)
def kd (i:Nat):Int:=bw (p.ae.getD i 0)
def Xy (i:Nat):Int:=nn (p.ae.getD i 0)
def uW (i:Nat):Bool:=(wr .i64 (wr .i64 ((i:Int).tdiv 8)+(i:Int).tmod 8)).tmod 2==0
def Pn (i:Nat):Bool:=kd p i==2
def Pe (i:Nat):Bool:=kd p i==3&&uW i
def Pd (i:Nat):Bool:=kd p i==3&&!uW i
def Po (i:Nat):Bool := !(kd p i==0)&&(!(kd p i==6)&&(!(kd p i==2)&&!(kd p i==3)))
def Pk (c:Int) (i:Nat):Bool:=kd p i==6&&Xy p i==c
end
theorem C4:∀ i:Fin 64,(6172840429334713770#64).getLsbD i.val=!uW i.val:=by decide +kernel
theorem Kx:∀ v:Fin 256,(bw v.val==6)=true→nn v.val=0∨nn v.val=1:=by decide +kernel
noncomputable section
variable {p:Pos} (hp:aO p)
include hp
theorem ad1:∃ r,bF p (0,0,0,0,0,List.replicate 2 0)=some r∧r.1=bU (Pn p) 64∧r.2.1=bU (Pe p) 64∧r.2.2.1=bU (Pd p) 64∧r.2.2.2.1=bU (Po p) 64∧r.2.2.2.2.2.2=[((bU (Pk p 0) 64:Nat):Int),((bU (Pk p 1) 64:Nat):Int)]:=by
 refine bh (Q:=fun r:Int×Int×Int×Int×Int×Bool×List Int=>r.1=bU (Pn p) 64∧r.2.1=bU (Pe p) 64∧r.2.2.1=bU (Pd p) 64∧r.2.2.2.1=bU (Po p) 64∧r.2.2.2.2.2.2=[((bU (Pk p 0) 64:Nat):Int),((bU (Pk p 1) 64:Nat):Int)])
  (I:=fun x:Int×Int×Int×Int×Int×List Int=>∃ n:Nat,n≤64∧x.2.2.2.2.1=n∧x.1=bU (Pn p) n∧x.2.1=bU (Pe p) n∧x.2.2.1=bU (Pd p) n∧x.2.2.2.1=bU (Po p) n∧x.2.2.2.2.2=[((bU (Pk p 0) n:Nat):Int),((bU (Pk p 1) n:Nat):Int)]) (μ:=fun x=>(64-x.2.2.2.2.1).toNat) ?_ _ ⟨0,by omega,rfl,rfl,rfl,rfl,rfl,rfl⟩ (by simp)
 rintro ⟨a,b,c,d,x,L⟩ ⟨n,hn,hx,ha,hb,hc,hd,hL⟩
 simp only at hx ha hb hc hd hL
 subst hx ha hb hc hd hL
 unfold D0 Gr
 dsimp only
 by_cases h64:n<64
 ·have hbd:=eH hp n
  obtain ⟨v,hv⟩:=Int.eq_ofNat_of_zero_le hbd.1
  have hk6:=Kx ⟨v,by omega⟩
  simp only at hk6
  rw [← hv] at hk6
  have b1:=il (Pn p) n
  have b2:=il (Pe p) n
  have b3:=il (Pd p) n
  have b4:=il (Po p) n
  have b5:=il (Pk p 0) n
  have b6:=il (Pk p 1) n
  rw [decide_eq_true (show (n:Int)<64 by omega),decide_eq_true (show (0:Int)≤n by omega),decide_eq_true (show (n:Int)<Int.ofNat 64 by show (n:Int)<64;omega),gR,Int.toNat_natCast,aN (n:=(n:Int)+1) (by omega) (by omega),aN (n:=((bU (Pn p) n:Nat):Int)+1) (by omega) (by omega),aN (n:=((bU (Pe p) n:Nat):Int)+1) (by omega) (by omega),aN (n:=((bU (Pd p) n:Nat):Int)+1) (by omega) (by omega),aN (n:=((bU (Po p) n:Nat):Int)+1) (by omega) (by omega)]
  have go:∀ (a' b' c' d':Int) (L':List Int),a'=bU (Pn p) (n+1)→b'=bU (Pe p) (n+1)→c'=bU (Pd p) (n+1)→d'=bU (Po p) (n+1)→L'=[((bU (Pk p 0) (n+1):Nat):Int),((bU (Pk p 1) (n+1):Nat):Int)] →
    zS (fun x:Int×Int×Int×Int×Int×List Int=>∃ n:Nat,n≤64∧x.2.2.2.2.1=n∧x.1=bU (Pn p) n∧x.2.1=bU (Pe p) n∧x.2.2.1=bU (Pd p) n∧x.2.2.2.1=bU (Po p) n∧x.2.2.2.2.2=[((bU (Pk p 0) n:Nat):Int),((bU (Pk p 1) n:Nat):Int)])
     (fun r:Int×Int×Int×Int×Int×Bool×List Int=>r.1=bU (Pn p) 64∧r.2.1=bU (Pe p) 64∧r.2.2.1=bU (Pd p) 64∧r.2.2.2.1=bU (Po p) 64∧r.2.2.2.2.2.2=[((bU (Pk p 0) 64:Nat):Int),((bU (Pk p 1) 64:Nat):Int)]) (fun x:Int×Int×Int×Int×Int×List Int=>(64-x.2.2.2.2.1).toNat) ((64-(n:Int)).toNat) (.go (a',b',c',d',(n:Int)+1,L')) :=
   fun a' b' c' d' L' h1 h2 h3 h4 h5=>⟨⟨n+1,by omega,by simp,h1,h2,h3,h4,h5⟩,by dsimp only;omega⟩
  have en:bU (Pn p) (n+1)=bU (Pn p) n+(kd p n==2).toNat:=rfl
  have ee:bU (Pe p) (n+1)=bU (Pe p) n+(kd p n==3&&uW n).toNat:=rfl
  have ed:bU (Pd p) (n+1)=bU (Pd p) n+(kd p n==3&&!uW n).toNat:=rfl
  have eo:bU (Po p) (n+1)=bU (Po p) n+(!(kd p n==0)&&(!(kd p n==6)&&(!(kd p n==2)&&!(kd p n==3)))).toNat:=rfl
  have e0:bU (Pk p 0) (n+1)=bU (Pk p 0) n+(kd p n==6&&Xy p n==0).toNat:=rfl
  have e1:bU (Pk p 1) (n+1)=bU (Pk p 1) n+(kd p n==6&&Xy p n==1).toNat:=rfl
  have hkd:bw (p.ae.getD n 0)=kd p n:=rfl
  have hcl:nn (p.ae.getD n 0)=Xy p n:=rfl
  have hpar:((wr .i64 (wr .i64 ((n:Int).tdiv 8)+(n:Int).tmod 8)).tmod 2==0)=uW n:=rfl
  rw [hkd,hcl] at hk6
  rw [hkd,hcl,hpar]
  rw [en,ee,ed,eo,e0,e1] at go
  generalize kd p n=k at *
  by_cases k0:k=0
  ·subst k0
   exact ⟨rfl,go _ _ _ _ _ (by simp) (by simp) (by simp) (by simp) (by simp)⟩
  ·by_cases k6:k=6
   ·subst k6
    have hc01:=hk6 rfl
    generalize Xy p n=w at *
    rcases hc01 with rfl | rfl
    ·rw [show wr .i64 (([((bU (Pk p 0) n:Nat):Int),((bU (Pk p 1) n:Nat):Int)]:List Int).getD (scale 1 (0:Int)).toNat 0+1)=((bU (Pk p 0) n:Nat):Int)+1 from aN (n:=((bU (Pk p 0) n:Nat):Int)+1) (by omega) (by omega)]
     exact ⟨rfl,go _ _ _ _ _ (by simp) (by simp) (by simp) (by simp) (by simp [scale])⟩
    ·rw [show wr .i64 (([((bU (Pk p 0) n:Nat):Int),((bU (Pk p 1) n:Nat):Int)]:List Int).getD (scale 1 (1:Int)).toNat 0+1)=((bU (Pk p 1) n:Nat):Int)+1 from aN (n:=((bU (Pk p 1) n:Nat):Int)+1) (by omega) (by omega)]
     exact ⟨rfl,go _ _ _ _ _ (by simp) (by simp) (by simp) (by simp) (by simp [scale])⟩
   ·rw [beq_eq_false_iff_ne.2 k0,beq_eq_false_iff_ne.2 k6]
    rw [beq_eq_false_iff_ne.2 k0,beq_eq_false_iff_ne.2 k6] at go
    refine ⟨rfl,?_⟩
    by_cases k2:k=2
    ·subst k2
     exact go _ _ _ _ _ (by simp) (by simp) (by simp) (by simp) (by simp)
    ·by_cases k3:k=3
     ·subst k3
      cases hpb:uW n with
      | true=>rw [hpb] at go;exact go _ _ _ _ _ (by simp) (by simp) (by simp) (by simp) (by simp)
      | false=>rw [hpb] at go;exact go _ _ _ _ _ (by simp) (by simp) (by simp) (by simp) (by simp)
     ·rw [beq_eq_false_iff_ne.2 k2,beq_eq_false_iff_ne.2 k3]
      rw [beq_eq_false_iff_ne.2 k2,beq_eq_false_iff_ne.2 k3] at go
      exact go _ _ _ _ _ (by simp) (by simp) (by simp) (by simp) (by simp)
 ·have:n=64:=by omega
  subst this
  exact ⟨rfl,rfl,rfl,rfl,rfl,rfl⟩
end
def Co (r:Int×Int×Int×Int×Int×Bool×List Int):Bool:=bif r.2.2.2.1==0 then (bif decide (wr .i64 (wr .i64 (r.1+r.2.1)+r.2.2.1)≤1) then true else bif r.1==0 then (bif r.2.1==0 then true else r.2.2.1==0) else false) else false
def Di (r:Int×Int×Int×Int×Int×Bool×List Int):Bool:=bif wr .i64 (wr .i64 (wr .i64 (r.2.2.2.1+r.1)+r.2.1)+r.2.2.1)==0 then bV BinOp.eql (r.2.2.2.2.2.2==((List.replicate 2 0).set 0 1).set 1 1&&true) else false
theorem La (p:Pos):Vw p=bif (p.variant==0 || p.variant==1) then Co ((bF p (0,0,0,0,0,List.replicate 2 0)).getD default) else bif (p.variant==3 || p.variant==5) then Di ((bF p (0,0,0,0,0,List.replicate 2 0)).getD default) else false:=by
 unfold Vw Co Di
 cases h0:p.variant==0<;>cases h1:p.variant==1<;>cases h3:p.variant==3<;>cases h5:p.variant==5<;>rfl
def ny:BitVec 64:=6172840429334713770#64
def CM (A K B N:BitVec 64):Bool:=bif A &&& ~~~K &&& ~~~B &&& ~~~N != 0#64 then false else bif decide (ju (A &&& ~~~K)≤1) then true else bif A &&& ~~~K==B then (bif A &&& ~~~K&&&ny==0#64 then true else A &&& ~~~K &&& ~~~ny==0#64) else false
def DE (A W X:BitVec 64):Bool:=bif A==W|||X then (bif ju W==1 then ju X==1 else false) else false
theorem Fo (p:Pos):A6 p=bif (p.variant==0 || p.variant==1) then CM (bg p) (ew p 6) (ew p 3) (ew p 2) else bif (p.variant==3 || p.variant==5) then DE (bg p) (aK p 0 6) (aK p 1 6) else false:=by
 unfold A6 CM DE ny
 rw [show (Pos.mk p.variant p.ae p.ab p.af p.aa p.ai p.ah p.ag p.half p.full)=p from rfl]
 cases h0:p.variant==0<;>cases h1:p.variant==1<;>cases h3:p.variant==3<;>cases h5:p.variant==5<;>rfl
theorem EP:∀ v:Fin 256,fS v.val=!(bw v.val==0)∧(dn 0 6 v.val || dn 1 6 v.val)=(bw v.val==6)∧(dn 0 3 v.val || dn 1 3 v.val)=(bw v.val==3)∧(dn 0 2 v.val || dn 1 2 v.val)=(bw v.val==2)∧dn 0 6 v.val=(bw v.val==6&&nn v.val==0)∧dn 1 6 v.val=(bw v.val==6&&nn v.val==1):=by decide +kernel
noncomputable section
variable {p:Pos} (hp:aO p)
include hp
theorem GS (i:Nat):fS (p.ae.getD i 0)=!(kd p i==0)∧(dn 0 6 (p.ae.getD i 0) || dn 1 6 (p.ae.getD i 0))=(kd p i==6)∧(dn 0 3 (p.ae.getD i 0) || dn 1 3 (p.ae.getD i 0))=(kd p i==3)∧(dn 0 2 (p.ae.getD i 0) || dn 1 2 (p.ae.getD i 0))=(kd p i==2)∧dn 0 6 (p.ae.getD i 0)=Pk p 0 i∧dn 1 6 (p.ae.getD i 0)=Pk p 1 i:=by
 have hb:=eH hp i
 obtain ⟨v,hv⟩:=Int.eq_ofNat_of_zero_le hb.1
 have:=EP ⟨v,by omega⟩
 simp only at this
 rw [← hv] at this
 exact this
theorem sn (k:Int) {i:Nat} (hi:i<64):(ew p k).getLsbD i=(dn 0 k (p.ae.getD i 0) || dn 1 k (p.ae.getD i 0)):=by
 unfold ew
 rw [show (Pos.mk p.variant p.ae p.ab p.af p.aa p.ai p.ah p.ag p.half p.full)=p from rfl,BitVec.getLsbD_or,cm _ _ _ hi,cm _ _ _ hi]
theorem TH:NC p=true∧Vw p=A6 p:=by
 obtain ⟨o,h1,h2,h3,h4,h5⟩:=aM (ad1 hp)
 refine ⟨ao o fun _=>rfl,?_⟩
 rw [La,Fo]
 have ka:=GS hp
 have b1:=il (Pn p) 64
 have b2:=il (Pe p) 64
 have b3:=il (Pd p) 64
 have b4:=il (Po p) 64
 have men:∀ i,i<64→(bg p &&& ~~~ew p 6).getLsbD i=(!(kd p i==0)&&!(kd p i==6)):=fun i hi=>by
  rw [BitVec.getLsbD_and,BitVec.getLsbD_not,kK _ hi,sn hp _ hi,(ka i).1,(ka i).2.1];simp [hi]
 have gV:∀ i,i<64→(bg p &&& ~~~ew p 6 &&& ~~~ew p 3 &&& ~~~ew p 2).getLsbD i=Po p i:=fun i hi=>by
  rw [BitVec.getLsbD_and,BitVec.getLsbD_and,BitVec.getLsbD_not,BitVec.getLsbD_not,men i hi,sn hp _ hi,sn hp _ hi,(ka i).2.2.1,(ka i).2.2.2.1]
  unfold Po
  cases kd p i==0<;>cases kd p i==6<;>cases kd p i==3<;>cases kd p i==2<;>simp [hi]
 have sum:bU (fun i => !(kd p i==0)&&!(kd p i==6)) 64=bU (Pn p) 64+(bU (Pe p) 64+(bU (Pd p) 64+bU (Po p) 64)):=by
  have s1:bU (fun i=>Pd p i || Po p i) 64=bU (Pd p) 64+bU (Po p) 64:=rz fun i hi=>by
   unfold Pd Po
   by_cases k3:kd p i=3
   ·rw [k3];cases uW i<;>rfl
   ·rw [beq_eq_false_iff_ne.2 k3];cases kd p i==0<;>cases kd p i==6<;>cases kd p i==2<;>rfl
  have s2:bU (fun i=>Pe p i || (Pd p i || Po p i)) 64=bU (Pe p) 64+bU (fun i=>Pd p i || Po p i) 64:=rz fun i hi=>by
   unfold Pe Pd Po
   by_cases k3:kd p i=3
   ·rw [k3];cases uW i<;>rfl
   ·rw [beq_eq_false_iff_ne.2 k3];cases kd p i==0<;>cases kd p i==6<;>cases kd p i==2<;>rfl
  have s3:bU (fun i => !(kd p i==0)&&!(kd p i==6)) 64=bU (Pn p) 64+bU (fun i=>Pe p i || (Pd p i || Po p i)) 64:=rz fun i hi=>by
   unfold Pn Pe Pd Po
   by_cases k3:kd p i=3
   ·rw [k3];cases uW i<;>rfl
   ·rw [beq_eq_false_iff_ne.2 k3]
    by_cases k2:kd p i=2
    ·rw [k2];rfl
    ·rw [beq_eq_false_iff_ne.2 k2];cases kd p i==0<;>cases kd p i==6<;>rfl
  rw [s3,s2,s1]
 have pc:ju (bg p &&& ~~~ew p 6)=((bU (Pn p) 64+(bU (Pe p) 64+(bU (Pd p) 64+bU (Po p) 64)):Nat):Int):=by
  rw [DA,zC,px men,sum]
 have pk:∀ c,c=0∨c=1→ju (aK p c 6)=((bU (Pk p c) 64:Nat):Int):=fun c hc=>by
  rw [DA,zC,px (Q:=Pk p c) fun i hi=>by
   rw [cm _ _ _ hi]
   rcases hc with rfl | rfl
   ·exact (ka i).2.2.2.2.1
   ·exact (ka i).2.2.2.2.2]
 have eA:Co ((bF p (0,0,0,0,0,List.replicate 2 0)).getD default)=CM (bg p) (ew p 6) (ew p 3) (ew p 2):=by
  unfold Co CM
  rw [h1,h2,h3,h4,bne,tq gV,pc,aN (n:=((bU (Pn p) 64:Nat):Int)+((bU (Pe p) 64:Nat):Int)) (by omega) (by omega),aN (by omega) (by omega)]
  by_cases hO:bU (Po p) 64=0
  ·rw [hO]
   simp only [decide_true,Bool.not_true,cond_false]
   rw [show (((0:Nat):Int)==0)=true from rfl,cond_true]
   by_cases hle:bU (Pn p) 64+bU (Pe p) 64+bU (Pd p) 64≤1
   ·rw [decide_eq_true (by omega),decide_eq_true (by omega)];rfl
   ·rw [decide_eq_false (by omega),decide_eq_false (by omega),cond_false,cond_false]
    have hOz:=jx.1 hO
    by_cases hN:bU (Pn p) 64=0
    ·have hNz:=jx.1 hN
     have all3:∀ i,i<64→(!(kd p i==0)&&!(kd p i==6))=(kd p i==3):=fun i hi=>by
      have a:=hOz i hi
      have b:=hNz i hi
      unfold Po at a
      unfold Pn at b
      by_cases k3:kd p i=3
      ·rw [k3];rfl
      ·rw [b,beq_eq_false_iff_ne.2 k3] at a
       rw [beq_eq_false_iff_ne.2 k3]
       revert a
       cases kd p i==0<;>cases kd p i==6<;>simp
     have e1:(bg p &&& ~~~ew p 6==ew p 3)=true:=by
      rw [beq_iff_eq]
      exact BitVec.eq_of_getLsbD_eq fun i hi=>by rw [men i hi,sn hp _ hi,(ka i).2.2.1];exact all3 i hi
     have z1:(bg p &&& ~~~ew p 6&&&ny==0#64)=decide (bU (Pd p) 64=0):=tq fun i hi=>by
      rw [BitVec.getLsbD_and,men i hi,all3 i hi]
      unfold ny
      rw [C4 ⟨i,hi⟩];rfl
     have z2:(bg p &&& ~~~ew p 6 &&& ~~~ny==0#64)=decide (bU (Pe p) 64=0):=tq fun i hi=>by
      rw [BitVec.getLsbD_and,BitVec.getLsbD_not,men i hi,all3 i hi]
      unfold ny
      rw [C4 ⟨i,hi⟩];simp [hi,Pe]
     rw [hN,e1,z1,z2,show (((0:Nat):Int)==0)=true from rfl,cond_true,cond_true]
     by_cases x1:bU (Pe p) 64=0<;>by_cases x2:bU (Pd p) 64=0
     ·rw [x1,x2];rfl
     ·rw [x1,decide_eq_false x2];rfl
     ·rw [x2,decide_eq_false x1,beq_eq_false_iff_ne.2 (show ((bU (Pe p) 64:Nat):Int)≠0 by omega)];rfl
     ·rw [decide_eq_false x1,decide_eq_false x2,beq_eq_false_iff_ne.2 (show ((bU (Pe p) 64:Nat):Int)≠0 by omega),beq_eq_false_iff_ne.2 (show ((bU (Pd p) 64:Nat):Int)≠0 by omega)]
    ·have e1:(bg p &&& ~~~ew p 6==ew p 3)=false:=by
      rw [beq_eq_false_iff_ne]
      intro e
      refine hN (jx.2 fun i hi=>?_)
      have:=congrArg (fun x=>x.getLsbD i) e
      rw [men i hi,sn hp _ hi,(ka i).2.2.1] at this
      unfold Pn
      cases h2:kd p i==2 with
      | false=>rfl
      | true =>
       rw [beq_iff_eq.1 h2] at this
       cases this
     rw [e1,beq_eq_false_iff_ne.2 (show ((bU (Pn p) 64:Nat):Int)≠0 by omega)]
     rfl
  ·rw [decide_eq_false hO,beq_eq_false_iff_ne.2 (show ((bU (Po p) 64:Nat):Int)≠0 by omega)]
   rfl
 have eB:Di ((bF p (0,0,0,0,0,List.replicate 2 0)).getD default)=DE (bg p) (aK p 0 6) (aK p 1 6):=by
  unfold Di DE
  rw [h1,h2,h3,h4,h5,pk 0 (.inl rfl),pk 1 (.inr rfl),aN (n:=((bU (Po p) 64:Nat):Int)+((bU (Pn p) 64:Nat):Int)) (by omega) (by omega),aN (n:=((bU (Po p) 64:Nat):Int)+((bU (Pn p) 64:Nat):Int)+((bU (Pe p) 64:Nat):Int)) (by omega) (by omega),aN (by omega) (by omega)]
  have e:(bg p==aK p 0 6|||aK p 1 6)=decide (bU (fun i => !(kd p i==0)&&!(kd p i==6)) 64=0):=by
   rw [Bool.eq_iff_iff,beq_iff_eq,decide_eq_true_eq,jx]
   have bits:∀ i,i<64→(bg p).getLsbD i=!(kd p i==0)∧(aK p 0 6|||aK p 1 6).getLsbD i=(kd p i==6):=fun i hi=>by
    rw [kK _ hi,BitVec.getLsbD_or,cm _ _ _ hi,cm _ _ _ hi]
    exact ⟨(ka i).1,(ka i).2.1⟩
   constructor
   ·intro e i hi
    obtain ⟨x1,x2⟩:=bits i hi
    rw [e,x2] at x1
    rw [← x1]
    cases kd p i==6<;>rfl
   ·intro h
    refine BitVec.eq_of_getLsbD_eq fun i hi=>?_
    obtain ⟨x1,x2⟩:=bits i hi
    rw [x1,x2]
    have:=h i hi
    by_cases k6:kd p i=6
    ·rw [k6];rfl
    ·rw [beq_eq_false_iff_ne.2 k6] at this ⊢
     simpa using this
  rw [e,sum]
  by_cases hz:bU (Pn p) 64+(bU (Pe p) 64+(bU (Pd p) 64+bU (Po p) 64))=0
  ·rw [decide_eq_true hz,beq_iff_eq.2 (show ((bU (Po p) 64:Nat):Int)+((bU (Pn p) 64:Nat):Int)+((bU (Pe p) 64:Nat):Int)+((bU (Pd p) 64:Nat):Int)=0 by omega)]
   show ([((bU (Pk p 0) 64:Nat):Int),((bU (Pk p 1) 64:Nat):Int)]==[(1:Int),1]&&true)=_
   rw [Bool.and_true,cond_true]
   rw [Bool.eq_iff_iff]
   by_cases q0:((bU (Pk p 0) 64:Nat):Int)=1
   ·rw [q0]
    by_cases q1:((bU (Pk p 1) 64:Nat):Int)=1
    ·rw [q1];exact ⟨fun _=>rfl,fun _=>rfl⟩
    ·rw [beq_eq_false_iff_ne.2 q1];simp [q1]
   ·rw [beq_eq_false_iff_ne.2 q0];simp [q0]
  ·rw [decide_eq_false hz,beq_eq_false_iff_ne.2 (show ((bU (Po p) 64:Nat):Int)+((bU (Pn p) 64:Nat):Int)+((bU (Pe p) 64:Nat):Int)+((bU (Pd p) 64:Nat):Int)≠0 by omega)]
   rfl
 rw [eA,eB]
end
end Kz
end
noncomputable section
namespace Kz
open Go Go.RowKit Go.Proofs
def aeh:KT:=[]
def aa7:aw:=bO Pz aeh [] [] []
theorem ZZ:aV aa7:=ak aj trivial trivial trivial
def V66:AV:=AV.agg [AV.func 63 [] [],AV.func 179 [] [],AV.func 180 [] [],AV.func 181 [] []]
def aag:Bool:=true
theorem ajX:cy aa7 14 118 []=Tr.ret V66:=by kernel_rfl
theorem ahl (_:aag=true):PS Pz 118 [] V66:=lV ZZ (by rw [ajX];rfl)
def VF:GT:=g0 (.ret V66)
theorem agO:Sound Pz 118 VF:=sd (bK (ahl rfl))
def ajS:KT:=[(227,5,[(0,[0,2]),(1,[2])])]
def ahF:aw:=bO Pz ajS [] [] []
theorem Zt:aV ahF:=ak aj trivial trivial trivial
def zR (a:Int):(Int×Int):=⟨(3),(a)⟩
def aa4 (a:Int):Bool:=true
theorem ahk (a:Int) (h:aa4 a=true):PS Pz 227 [.int .u8 a] ((dR .u8 .u8).res (zR a)):=pq14 Zt h
def M5:GT:=g1 (dI .u8) (fun a=>.ret ((dR .u8 .u8).res (zR a)))
theorem Vk:Sound Pz 227 M5:=aF fun a=>bK (ahk a rfl)
def acu:KT:=[(179,26,[(0,[1,2]),(1,[1,2,6]),(2,[2]),(3,[1,2,8]),(4,[2]),(5,[1,2,16]),(6,[2]),(7,[2])])]
def ag1:aw:=bO Pz acu [(30,G30),(149,oU),(227,M5)] [] []
theorem Wq:aV ag1:=ak aj ⟨s30,ph,Vk,trivial⟩ trivial trivial
def wJ (a:Pos):(Int×Int):=(bif decide (Int.ofNat (eX a).length>0) then ⟨(0),(0)⟩ else (bif a.variant==4 then ⟨(wr .u8 (1+a.aa)),(8)⟩ else (bif mD a a.aa then ⟨(wr .u8 (2-a.aa)),(1)⟩ else ⟨((zR 2).1),((zR 2).2)⟩)))
def Cr (a:Pos):Bool:=(Jt (a)&&(bif decide (Int.ofNat (eX a).length>0) then true else (bif a.variant==4 then true else (lO (a) (a.aa)&&true))))
theorem ajz (a:Pos) (h:Cr a=true):PS Pz 179 [Pos.av a] ((dR .u8 .u8).res (wJ a)):=pq14 Wq h
def aaf:GT:=g1 aY (fun a=>cg (Cr a) ((dR .u8 .u8).res (wJ a)))
theorem ahL:Sound Pz 179 aaf:=aF fun a=>ay (ajz a)
def adx:KT:=[(180,7,[(0,[1,2]),(1,[2,4]),(2,[2]),(3,[2])])]
def agi:aw:=bO Pz adx [(228,YL),(227,M5)] [] []
theorem XX:aV agi:=ak aj ⟨acb,Vk,trivial⟩ trivial trivial
def zT (a:Pos):(Int×Int):=(bif A6 (Pos.mk a.variant a.ae a.ab a.af a.aa a.ai a.ah a.ag a.half a.full) then ⟨((zR 3).1),((zR 3).2)⟩ else ⟨(0),(0)⟩)
def CI (a:Pos):Bool:=(y7 (Pos.mk a.variant a.ae a.ab a.af a.aa a.ai a.ah a.ag a.half a.full)&&true)
theorem ab2 (a:Pos) (h:CI a=true):PS Pz 180 [Pos.av a] ((dR .u8 .u8).res (zT a)):=pq14 XX h
def Y3:GT:=g1 aY (fun a=>cg (CI a) ((dR .u8 .u8).res (zT a)))
theorem agJ:Sound Pz 180 Y3:=aF fun a=>ay (ab2 a)
def agT:KT:=[(181,8,[(0,[1,2]),(1,[2,5]),(2,[2]),(3,[2])])]
def ajV:aw:=bO Pz agT [(227,M5)] [] []
theorem V1:aV ajV:=ak aj ⟨Vk,trivial⟩ trivial trivial
def Ac (a:Pos):(Int×Int):=(bif decide (a.half≥150) then ⟨((zR 4).1),((zR 4).2)⟩ else ⟨(0),(0)⟩)
def W4 (a:Pos):Bool:=true
theorem acA (a:Pos) (h:W4 a=true):PS Pz 181 [Pos.av a] ((dR .u8 .u8).res (Ac a)):=pq14 V1 h
def aat:GT:=g1 aY (fun a=>.ret ((dR .u8 .u8).res (Ac a)))
theorem agH:Sound Pz 181 aat:=aF fun a=>bK (acA a rfl)
def K62:KT:=[(62,29,[(0,[1,2,10,11,12]),(1,[1,2,13]),(2,[2]),(3,[1,2,15,16]),(4,[1,2,15,16,17]),(5,[1,2,4,15,16]),(6,[1,2,5,15,16]),(7,[1,2,5,15,16,25]),(8,[2]),(9,[1,2,15,16]),(10,[2])])]
def B62:aw:=bO Pz K62 [(63,YT),(118,VF),(179,aaf),(180,Y3),(181,aat)] [] []
theorem afG:aV B62:=ak aj ⟨s63,agO,ahL,agJ,agH,trivial⟩ trivial trivial
def AL (a:Pos):(Int×Int):=(bif decide (a.variant≥9) then ⟨(0),(0)⟩ else (bif decide (a.aa>1) then ⟨(0),(0)⟩ else (bif (v7 a).1 != 0 then ⟨((v7 a).1),((v7 a).2)⟩ else (bif (wJ a).1 != 0 then ⟨((wJ a).1),((wJ a).2)⟩ else (bif (zT a).1 != 0 then ⟨((zT a).1),((zT a).2)⟩ else (bif (Ac a).1 != 0 then ⟨((Ac a).1),((Ac a).2)⟩ else ⟨(0),(0)⟩))))))
def Nc (a:Pos):Bool:=(bif decide (a.variant≥9) then true else (bif decide (a.aa>1) then true else (An (a)&&(bif (v7 a).1 != 0 then true else (Cr (a)&&(bif (wJ a).1 != 0 then true else (CI (a)&&true)))))))
theorem P62 (a:Pos) (h:Nc a=true):PS Pz 62 [Pos.av a] ((dR .u8 .u8).res (AL a)):=pq14 afG h
def G62:GT:=g1 aY (fun a=>cg (Nc a) ((dR .u8 .u8).res (AL a)))
theorem s62:Sound Pz 62 G62:=aF fun a=>ay (P62 a)
end Kz
end
noncomputable section
namespace Kz
open Go Go.RowKit
theorem afH (p:Pos) (b:Int):oS p b=true:=ao (t147 _ _ _) fun _=>ao (t147 _ _ _) fun _=>rfl
theorem t228 (p:Pos):y7 p=true:=by
 unfold y7
 rw [show (Pos.mk p.variant p.ae p.ab p.af p.aa p.ai p.ah p.ag p.half p.full)=p from rfl]
 repeat' (first | with_reducible rfl | with_reducible exact t193 _ | with_reducible exact afH _ _ | with_reducible exact t147 _ _ _ | refine ao ?_ (fun _=>?_) | refine aq (fun _=>?_) (fun _=>?_))
theorem t180 (p:Pos):CI p=true:=ao (t228 _) fun _=>rfl
theorem t179 {p:Pos} (hp:aO p):Cr p=true:=ao (t30 hp) fun _=>aq (fun _=>rfl) fun _=>aq (fun _=>rfl) fun _=>ao (t149 hp.v0 hp.t0) fun _=>rfl
theorem t62 {p:Pos} (hp:aO p):Nc p=true:=aq (fun _=>rfl) fun _=>aq (fun _=>rfl) fun _=>ao (t63 hp) fun _=>aq (fun _=>rfl) fun _=>ao (t179 hp) fun _=>aq (fun _=>rfl) fun _=>ao (t180 p) fun _=>rfl
theorem Mr {p:Pos} (h:¬ there p):AL p=(0,0):=by
 unfold there at h
 unfold AL
 refine au (P:=fun r:Int×Int=>r=(0,0)) (fun _=>rfl) fun h1=>au (P:=fun r:Int×Int=>r=(0,0)) (fun _=>rfl) fun h2=>?_
 have h1:p.variant<9:=by simpa using h1
 have h2:p.aa≤1:=by simpa using h2
 exact absurd ⟨h2,h1⟩ h
theorem FD {p:Pos} (h:there p):AL p=bif (v7 p).1 != 0 then v7 p else bif (wJ p).1 != 0 then wJ p else bif (zT p).1 != 0 then zT p else bif (Ac p).1 != 0 then Ac p else (0,0):=by
 obtain ⟨h1,h2⟩:=h
 unfold AL
 rw [show decide (p.variant≥9)=false by simp;omega,show decide (p.aa>1)=false by simp;omega]
 rfl
noncomputable section
variable {p:Pos} (hp:aO p) {h f:Int} (hq:aO (cl h f p))
include hp hq
end
end Kz
end
noncomputable section
namespace Kz
open Go Go.RowKit Go.Proofs
def K10:KT:=[(10,43,[(0,[1,2]),(1,[1,2,8]),(2,[2]),(3,[1,2,3]),(4,[1,2,3,14]),(5,[2]),(6,[1,2,19]),(7,[1,2,4,5]),(8,[1,2,4,5,22]),(9,[1,2,4]),(10,[1,2,4,5]),(11,[1,2,4,5,25]),(12,[2]),(13,[2,5,31]),(14,[2]),(15,[2]),(16,[1,2,36]),(17,[2]),(18,[2,40]),(19,[2]),(20,[2])])]
def B10:aw:=bO Pz K10 [(11,G11),(19,LP),(32,G32),(33,YG),(34,G34)] [] []
theorem ah9:aV B10:=ak aj ⟨s11,No,s32,s33,s34,trivial⟩ trivial trivial
def F0 (a:Pos):(Int×Int):=(bif !yj a then ⟨(0),(0)⟩ else (bif (H4 a).1 != 0 then ⟨((H4 a).1),((H4 a).2)⟩ else (bif Int.ofNat (QA a).length==0 then (bif a.aa==1 then (bif a.variant==4 then ⟨(2),(8)⟩ else (bif ni a a.aa then ⟨(1),(1)⟩ else ⟨(3),(2)⟩)) else (bif a.variant==4 then ⟨(1),(8)⟩ else (bif ni a a.aa then ⟨(2),(1)⟩ else ⟨(3),(2)⟩))) else (bif Vw a then ⟨(3),(3)⟩ else (bif decide (a.half≥150) then ⟨(3),(4)⟩ else ⟨(0),(0)⟩)))))
def E5 (a:Pos):Bool:=(bif !yj a then true else (Bf (a)&&(bif (H4 a).1 != 0 then true else (Es (a)&&(bif Int.ofNat (QA a).length==0 then (bif a.aa==1 then (bif a.variant==4 then true else (jn (a) (a.aa)&&true)) else (bif a.variant==4 then true else (jn (a) (a.aa)&&true))) else (NC (a)&&true))))))
theorem P10 (a:Pos) (h:E5 a=true):PS Pz 10 [Pos.av a] ((dR .u8 .u8).res (F0 a)):=pq14 ah9 h
def G10:GT:=g1 aY (fun a=>cg (E5 a) ((dR .u8 .u8).res (F0 a)))
theorem s10:Sound Pz 10 G10:=aF fun a=>ay (P10 a)
end Kz
end
noncomputable section
namespace Kz
open Go Go.RowKit
noncomputable section
variable {p:Pos} (hp:aO p)
include hp
theorem SI:E5 p=true∧F0 p=AL p:=by
 by_cases hth:there p
 ·obtain ⟨a1,a2⟩:=K3 hp
  obtain ⟨b1,b2⟩:=GF hp
  have t0:=hp.t0
  have t1:=hth.1
  have ht:p.aa=0∨p.aa=1:=by omega
  obtain ⟨c1,c2⟩:=sD hp ht ht
  obtain ⟨d1,d2⟩:=TH hp
  refine ⟨?_,?_⟩
  ·unfold E5
   exact aq (fun _=>rfl) fun _=>ao a1 fun _=>aq (fun _=>rfl) fun _=>ao b1 fun _=>aq (fun _=>aq (fun _=>aq (fun _=>rfl) fun _=>ao c1 fun _=>rfl) (fun _=>aq (fun _=>rfl) fun _=>ao c1 fun _=>rfl)) fun _=>ao d1 fun _=>rfl
  ·unfold F0
   rw [FD hth,jF hth,a2,b2,c2,d2,Bool.not_true,cond_false]
   cases (v7 p).1 != 0
   ·rw [cond_false,cond_false]
    unfold wJ zT Ac
    rw [show (Pos.mk p.variant p.ae p.ab p.af p.aa p.ai p.ah p.ag p.half p.full)=p from rfl]
    by_cases hl:(eX p).length=0
    ·rw [hl]
     rcases ht with h | h<;>rw [h]
     ·cases p.variant==4
      ·cases mD p 0<;>rfl
      ·rfl
     ·cases p.variant==4
      ·cases mD p 1<;>rfl
      ·rfl
    ·rw [show decide (Int.ofNat (eX p).length>0)=true by simp;omega,show (Int.ofNat (eX p).length==0)=false by simp;exact fun e=>hl (by rw [e];rfl)]
     cases A6 p
     ·cases decide (p.half≥150)<;>rfl
     ·rfl
   ·rfl
 ·refine ⟨?_,?_⟩
  ·unfold E5
   rw [rq hth];rfl
  ·unfold F0
   rw [rq hth,Mr hth];rfl
end
end Kz
end
noncomputable section
namespace Kz
open Go Go.RowKit Go.Proofs
def K22:KT:=[(22,36,[(0,[1]),(1,[1,3]),(2,[1,3,4]),(3,[1,3,11]),(4,[2]),(5,[1,3,5]),(6,[1,3,5,6]),(7,[1,3,5,6,18]),(8,[1,3,5,6]),(9,[1,3,5,6,27]),(10,[1,3,5,6]),(11,[2])])]
def ZO:aw:=bO Pz K22 [(10,G10),(11,G11),(39,TA)] [] []
theorem Uf:aV ZO:=ak aj ⟨s10,s11,Vr,trivial⟩ trivial trivial
def PA (p1:M') (p2:Pos) (p3:Int) (p4:Int) (p5:Nat) (x:(M'×Int)):St:=St.mk (.any::.ptr 0 0::.any::.list .mv x.1 (.own 1)::.any::.list .mv p1 .fresh::.int .i64 x.2::(an 29 [])) (Hp.mk [(pc p2 []),[.int .u8 p3,.int .u8 p4]] [p5,x.1.length] [] 0 0 0)
def Qq (p1:M') (p2:Pos) (p3:Int) (p4:Int) (p5:Nat):(M'×Int×Bool)→Out:=fun y=>.exit 0 (St.mk (.any::.ptr 0 0::.any::.list .mv y.1 (.own 1)::.any::.list .mv p1 .fresh::.int .i64 y.2.1::(an 11 (.bool y.2.2::(an 17 [])))) (Hp.mk [(pc p2 []),[.int .u8 p3,.int .u8 p4]] [p5,y.1.length] [] 0 0 0))
def Jw (p1:M') (p2:Pos) (p3:Int) (p4:Int) (p5:Nat) (x:(M'×Int)):aI (M'×Int) ((M'×Int×Bool)):=(bif decide (x.2<Int.ofNat p1.length) then (bif decide (ie p2 (p1.getD x.2.toNat default)≥0) then (aI.go (x.1++[p1.getD x.2.toNat default],wr .i64 (x.2+1))) else (aI.go (x.1,wr .i64 (x.2+1)))) else (aI.out ((x.1,x.2,decide (x.2<Int.ofNat p1.length)))))
def Cu (p1:M') (p2:Pos) (p3:Int) (p4:Int) (p5:Nat) (x:(M'×Int)):Bool:=(bif decide (x.2<Int.ofNat p1.length) then (decide (0≤x.2)&&decide (x.2<Int.ofNat p1.length)&&(xW p2 (p1.getD x.2.toNat default)&&(bif decide (ie p2 (p1.getD x.2.toNat default)≥0) then (decide (0≤x.2)&&decide (x.2<Int.ofNat p1.length)&&(x.1.length==x.1.length&&decide (x.1.length+1≤1073741824)&&true)) else true))) else true)
def ua (p1:M') (p2:Pos) (p3:Int) (p4:Int) (p5:Nat) (x:(M'×Int)):Option ((M'×Int×Bool)):=da (fun x=>bif Cu p1 p2 p3 p4 p5 x then Jw p1 p2 p3 p4 p5 x else .bad) many x
abbrev O8 {α:Type} (k:M'→Pos→Int→Int→Nat→(M'×Int)→α) (s:St):α:=wP s 0 fun q0=>k (tL (ET.mv) (tT s 5)) q0 (tI (tH s 1 0)) (tI (tH s 1 1)) (tK s 0) ((tL (ET.mv) (tT s 3)),(tI (tT s 6)))
theorem Y9 (p1:M') (p2:Pos) (p3:Int) (p4:Int) (p5:Nat) (x:(M'×Int)) (r:(M'×Int×Bool)) (h:ua p1 p2 p3 p4 p5 x=some r):aB Pz (bj Pz 22 7) (PA p1 p2 p3 p4 p5 x) (Qq p1 p2 p3 p4 p5 r):=smq (m:=12) (fn:=22) Uf (O8 fun _ _ _ _ _ x=>some x) (fun o=>match o with | .exit 0 s=>some ((tL ET.mv (tT s 3)),(tI (tT s 6)),(tB (tT s 18))) | _=>none) many x r h
def PU (b:Code) (s:St):Tr Out:=O8 (fun p1 p2 p3 p4 p5 x=>mH b (bj Pz 22 7) s (PA p1 p2 p3 p4 p5 x) (ua p1 p2 p3 p4 p5 x) (Qq p1 p2 p3 p4 p5)) s
theorem SU:∀ b,aZ Pz b (PU b):=fun _ _ _ h=>bX (Y9 _ _ _ _ _ _) h
def B22:aw:=bO Pz K22 [(10,G10),(11,G11),(39,TA)] [(22,7,PU)] []
theorem acM:aV B22:=ak aj ⟨s10,s11,Vr,trivial⟩ ⟨SU,trivial⟩ trivial
def uP (a:Pos):M':=(bif (F0 a).1 != 0 then ([]) else (((ua (QA a) a (F0 a).1 (F0 a).2 0 ([],0)).getD default).1))
def I0 (a:Pos):Bool:=(E5 a&&(bif (F0 a).1 != 0 then true else (Es a&&((ua (QA a) a (F0 a).1 (F0 a).2 0 ([],0)).isSome&&true))))
theorem P22 (a:Pos) (h:I0 a=true):PS Pz 22 [Pos.av a] ((dL .mv).res (uP a)):=pq14 acM h
def G22:GT:=g1 aY (fun a=>cg (I0 a) ((dL .mv).res (uP a)))
theorem s22:Sound Pz 22 G22:=aF fun a=>ay (P22 a)
def K23:KT:=[(23,18,[(0,[0,3]),(1,[0,3,5]),(2,[0,3,5,9]),(3,[0,3,5]),(4,[0,3,5,17]),(5,[4]),(6,[4])])]
def Y6:aw:=bO Pz K23 [] [] []
theorem Tq:aV Y6:=ak aj trivial trivial trivial
def Q6 (p1:M') (p2:Mv) (x:(Int)):St:=St.mk (.list .mv p1 .arg::.any::.any::.ptr 0 0::.any::.int .i64 x::(an 12 [])) (Hp.mk [[.int .i8 p2.az,.int .i8 p2.to,.int .u8 p2.bP,.int .u8 p2.aW,.bool p2.bS]] [] [] 0 0 0)
def QW (p1:M') (p2:Mv):Unit ⊕ (Int×Bool)→Out
 | (.inl (y))=>.ret (St.mk (an 4 (AV.aQ true::(an 13 []))) (Hp.mk [[AV.int .i8 p2.az,AV.int .i8 p2.to,AV.int .u8 p2.bP,AV.int .u8 p2.aW,AV.bool p2.bS]] [] [] 0 0 0))
 | (.inr (y))=>.exit 0 (St.mk (AV.list ET.mv p1 Tk.arg::AV.any::AV.any::AV.ptr 0 0::AV.any::AV.int .i64 y.1::(an 3 (AV.bool y.2::(an 8 [])))) (Hp.mk [[AV.int .i8 p2.az,AV.int .i8 p2.to,AV.int .u8 p2.bP,AV.int .u8 p2.aW,AV.bool p2.bS]] [] [] 0 0 0))
def F2 (p1:M') (p2:Mv) (x:(Int)):aI (Int) (Unit ⊕ (Int×Bool)):=(bif decide (x<Int.ofNat p1.length) then (bif bV BinOp.eql ((p1.getD x.toNat default).az==p2.az&&((p1.getD x.toNat default).to==p2.to&&((p1.getD x.toNat default).bP==p2.bP&&((p1.getD x.toNat default).aW==p2.aW&&((p1.getD x.toNat default).bS==p2.bS&&true))))) then (aI.out (.inl (()))) else (aI.go (wr .i64 (x+1)))) else (aI.out (.inr ((x,decide (x<Int.ofNat p1.length))))))
def Dj (p1:M') (p2:Mv) (x:(Int)):Bool:=(bif decide (x<Int.ofNat p1.length) then (decide (0≤x)&&decide (x<Int.ofNat p1.length)&&true) else true)
def pj (p1:M') (p2:Mv) (x:(Int)):Option (Unit ⊕ (Int×Bool)):=da (fun x=>bif Dj p1 p2 x then F2 p1 p2 x else .bad) many x
abbrev QQ {α:Type} (k:M'→Mv→(Int)→α) (s:St):α:=wM s 0 fun q0=>k (tL (ET.mv) (tT s 0)) q0 ((tI (tT s 5)))
theorem VT (p1:M') (p2:Mv) (x:(Int)) (r:Unit ⊕ (Int×Bool)) (h:pj p1 p2 x=some r):aB Pz (bj Pz 23 2) (Q6 p1 p2 x) (QW p1 p2 r):=aB.xO (m:=12) (fn:=23) Tq (QQ fun _ _ x=>some x) (fun o=>match o with | .ret s=>some (.inl ()) | .exit 0 s=>some (.inr ((tI (tT s 5)),(tB (tT s 9)))) | _=>none) (fun r=>by cases r<;>rfl) (fun _=>by kernel_rfl) (fun _=>by kernel_rfl) (fun _=>by kernel_rfl) (fun _=>by kernel_rfl) many x r h
def Qv (b:Code) (s:St):Tr Out:=QQ (fun p1 p2 x=>w9 b (bj Pz 23 2) s (Q6 p1 p2 x) (pj p1 p2 x) (QW p1 p2)) s
theorem RN:∀ b,aZ Pz b (Qv b):=fun _ _ _ h=>ez (VT _ _ _) h
def B23:aw:=bO Pz K23 [] [(23,2,Qv)] []
theorem ab0:aV B23:=ak aj trivial ⟨RN,trivial⟩ trivial
def N23 (a:M') (b:Mv):Bool:=(bif cu ((pj a b 0).getD default) then (true) else (false))
def Hg (a:M') (b:Mv):Bool:=((pj a b 0).isSome&&bif cu ((pj a b 0).getD default) then true else true)
theorem P23 (a:M') (b:Mv) (h:Hg a b=true):PS Pz 23 [.list .mv a .arg,Mv.av b] (dB.res (N23 a b)):=pq14 ab0 h
def G23:GT:=g2 (dL .mv) qZ (fun a b=>cg (Hg a b) (dB.res (N23 a b)))
theorem s23:Sound Pz 23 G23:=aT fun a b=>ay (P23 a b)
variable {p:Pos} {m:Mv} {l:M'}
theorem RS (hp:aO p) (h:m∈eX p):m∈bL p:=by
 rw [GC hp] at h
 revert h
 cases ((v7 p).1 != 0) with
 | true=>intro h;cases h
 | false=>exact fun h=>(DS hp h).1
theorem Fs (hp:aO p) (a b:Int):∃ r,ua (eX p) p a b 0 ([],0)=some r∧r.1=(eX p).filter (fT p):=by
 have hl:=wz hp
 refine bh (I:=fun x:M'×Int=>0≤x.2∧x.2≤((eX p).length:Int)∧x.1=((eX p).take x.2.toNat).filter (fT p)) (Q:=fun r:M'×Int×Bool=>r.1=(eX p).filter (fT p)) (μ:=fun x=>(((eX p).length:Int)-x.2).toNat) ?_ _ ⟨Int.le_refl _,by dsimp only;omega,rfl⟩ (by dsimp only;omega)
 rintro ⟨o,i⟩ ⟨i0,i1,ho⟩
 dsimp only at i0 i1 ho
 unfold Cu Jw
 dsimp only
 by_cases hi:i<Int.ofNat (eX p).length
 ·have hi':i<((eX p).length:Int):=hi
  have hmem:=cS (l:=eX p) (i:=i.toNat) (d:=default) (by omega)
  have h66:=RS hp hmem
  obtain ⟨hth,_⟩:=i7 hp h66
  obtain ⟨k1,k2⟩:=tW hp hth h66
  have e47:decide (bC p ((eX p).getD i.toNat default)≥0)=fT p ((eX p).getD i.toNat default):=rfl
  have ol:o.length≤20802:=by
   rw [ho]
   have:=List.length_filter_le (fT p) ((eX p).take i.toNat)
   have h3:((eX p).take i.toNat).length≤(eX p).length:=by rw [List.length_take];omega
   omega
  have step:((eX p).take (i+1).toNat).filter (fT p)=o++(bif fT p ((eX p).getD i.toNat default) then [(eX p).getD i.toNat default] else []):=by
   rw [show (i+1).toNat=i.toNat+1 by omega,List.take_add_one,List.filter_append,← ho]
   congr 1
   rw [List.getD_eq_getElem?_getD]
   rw [I' (show i.toNat<(eX p).length by omega)]
   show List.filter (fT p) [(eX p)[i.toNat]]=_
   rw [List.filter_cons]
   show (if fT p (eX p)[i.toNat]=true then _ else _)=(bif fT p (eX p)[i.toNat] then _ else _)
   cases fT p (eX p)[i.toNat]<;>rfl
  rw [decide_eq_true hi,decide_eq_true i0,k1,k2,e47,aN (by omega) (by omega),decide_eq_true (show o.length+1≤1073741824 by omega),beq_self_eq_true]
  refine ⟨by cases fT p ((eX p).getD i.toNat default)<;>rfl,?_⟩
  rw [cond_true]
  cases hf:fT p ((eX p).getD i.toNat default) with
  | true =>
   rw [hf] at step
   exact ⟨⟨by dsimp only;omega,by dsimp only;omega,step.symm⟩,by dsimp only;omega⟩
  | false =>
   rw [hf] at step
   exact ⟨⟨by dsimp only;omega,by dsimp only;omega,by dsimp only;rw [step];simp⟩,by dsimp only;omega⟩
 ·have hi':¬ i<((eX p).length:Int):=hi
  rw [decide_eq_false hi]
  refine ⟨rfl,?_⟩
  show o=_
  rw [ho,List.take_of_length_le (by omega)]
theorem Il (hp:aO p):I0 p=true∧uP p=bif (AL p).1 != 0 then [] else (eX p).filter (fT p):=by
 obtain ⟨a1,a2⟩:=SI hp
 obtain ⟨b1,b2⟩:=GF hp
 obtain ⟨r,e,h⟩:=Fs hp (AL p).1 (AL p).2
 unfold I0 uP
 rw [a1,a2,b1,b2,e]
 simp only [Option.getD_some,Option.isSome_some,h]
 refine ⟨?_,trivial⟩
 cases ((AL p).1 != 0)<;>rfl
theorem aiw (hl:l.length≤1000000) (m:Mv):Hg l m=true∧N23 l m=decide (m∈l):=by
 obtain ⟨r,e,h⟩:∃ r,pj l m 0=some r∧cu r=decide (m∈l):=by
  refine bh (I:=fun x:Int=>0≤x∧x≤(l.length:Int)∧∀ j:Nat,(j:Int)<x→l.getD j default≠m) (Q:=fun r:Unit ⊕ (Int×Bool)=>cu r=decide (m∈l)) (μ:=fun x=>((l.length:Int)-x).toNat) ?_ _ ⟨Int.le_refl _,by omega,fun j h=>by omega⟩ (by omega)
  rintro x ⟨x0,x1,hx⟩
  unfold Dj F2
  by_cases hi:x<Int.ofNat l.length
  ·have hi':x<(l.length:Int):=hi
   have hin:=cS (l:=l) (i:=x.toNat) (d:=default) (by omega)
   rw [decide_eq_true hi,decide_eq_true x0,aN (n:=x+1) (by omega) (by omega),vo]
   refine ⟨rfl,?_⟩
   rw [cond_true]
   by_cases h:l.getD x.toNat default=m
   ·rw [decide_eq_true h]
    rw [h] at hin
    exact (decide_eq_true hin).symm
   ·rw [decide_eq_false h]
    refine ⟨⟨by omega,by omega,fun j hj=>?_⟩,show ((l.length:Int)-(x+1)).toNat<((l.length:Int)-x).toNat by omega⟩
    by_cases e:(j:Int)=x
    ·rw [show j=x.toNat by omega];exact h
    ·exact hx j (by omega)
  ·rw [decide_eq_false hi]
   refine ⟨rfl,?_⟩
   refine (decide_eq_false fun hm=>?_).symm
   obtain ⟨j,hj,e⟩:=List.getElem_of_mem hm
   refine hx j (by have:¬ x<(l.length:Int):=hi;omega) ?_
   rw [List.getD_eq_getElem?_getD,I' hj,e];rfl
 unfold Hg N23
 rw [e]
 simp only [Option.getD_some]
 rw [h]
 refine ⟨?_,?_⟩<;>cases decide (m∈l)<;>rfl
end Kz
end
noncomputable section
namespace Kz
open Go
def dp (cf:Mv→Mv→Int) (x y:Mv):Bool:=decide (cf x y<0)
noncomputable section
variable (lt:Mv→Mv→Bool)
def sw (d:Array Mv) (i j:Nat):Array Mv:=if i<d.size∧j<d.size then Sort.swp d i j else d
theorem AF {d:Array Mv} {i j:Nat} (hi:i<d.size) (hj:j<d.size):sw d i j=Sort.swp d i j:=if_pos ⟨hi,hj⟩
def HF (a:Nat):Nat→Array Mv→Array Mv
 | 0,d=>d
 | j+1,d=>bif decide (a<j+1)&&lt d[j+1]! d[j]! then HF a j (sw d (j+1) j) else d
def IS (a:Nat):Nat→Nat→Array Mv→Array Mv
 | 0,_,d=>d
 | r+1,i,d=>IS a r (i+1) (HF lt a i d)
def ins (a b:Nat) (d:Array Mv):Array Mv:=IS lt a (b-(a+1)) (a+1) d
def yY:Nat→Nat→Nat→Array Mv→Array Mv
 | 0,_,_,d=>d
 | r+1,a,b,d=>yY r (a+1) (b+1) (sw d a b)
def mE (m:Nat):Nat→Nat→Nat→Array Mv→Array Mv
 | 0,_,_,d=>d
 | f+1,i,j,d=>if i=j then yY i (m-i) m d else if j<i then mE m f (i-j) j (yY j (m-i) m d) else mE m f i (j-i) (yY i (m-i) (m+j-i) d)
def nA (c:Nat→Bool):Nat→Nat→Nat→Nat
 | 0,i,_=>i
 | f+1,i,j=>if i<j then (bif c ((i+j) / 2) then nA c f ((i+j) / 2+1) j else nA c f i ((i+j) / 2)) else i
def KC:Nat→Nat→Array Mv→Array Mv
 | 0,_,d=>d
 | r+1,k,d=>KC r (k+1) (sw d k (k+1))
def K6:Nat→Nat→Array Mv→Array Mv
 | 0,_,d=>d
 | r+1,k,d=>K6 r (k-1) (sw d k (k-1))
def mstart (a m b:Nat) (d:Array Mv):Nat :=
 let mid:=(a+b) / 2
 let p:=mid+m-1
 if mid<m then nA (fun c => !lt d[p-c]! d[c]!) (mid-(mid+m-b)) (mid+m-b) mid
 else nA (fun c => !lt d[p-c]! d[c]!) (m-a) a m
def sym:Nat→Nat→Nat→Nat→Array Mv→Array Mv
 | 0,_,_,_,d=>d
 | f+1,a,m,b,d =>
  if m-a=1 then KC (nA (fun h=>lt d[h]! d[a]!) (b-m) m b-1-a) a d
  else if b-m=1 then K6 (m-nA (fun h => !lt d[m]! d[h]!) (m-a) a m) m d
  else
   let mid:=(a+b) / 2
   let s:=mstart lt a m b d
   let e:=mid+m-s
   let d1:=if s<m∧m<e then mE m (e-s) (m-s) (e-m) d else d
   let d2:=if a<s∧s<mid then sym f a s mid d1 else d1
   if mid<e∧e<b then sym f mid e b d2 else d2
def oV (n:Nat):Nat→Nat→Array Mv→Array Mv
 | 0,_,d=>d
 | f+1,a,d=>if a+20≤n then oV n f (a+20) (ins lt a (a+20) d) else ins lt a n d
def pass (n s:Nat):Nat→Nat→Array Mv→Array Mv
 | 0,_,d=>d
 | f+1,a,d=>if a+2 * s≤n then pass n s f (a+2 * s) (sym lt (n+1) a (a+s) (a+2 * s) d) else if a+s<n then sym lt (n+1) a (a+s) n d else d
def gS (n:Nat):Nat→Nat→Array Mv→Array Mv
 | 0,_,d=>d
 | f+1,s,d=>if s<n then gS n f (2 * s) (pass lt n s (n+1) 0 d) else d
def qR (d:Array Mv):Array Mv:=gS lt d.size (d.size+1) 20 (oV lt d.size (d.size+1) 0 d)
def Pm (d d':Array Mv):Prop:=d'.toList.Perm d.toList
theorem Pm.kU (d:Array Mv):Pm d d:=List.Perm.refl _
theorem Pm.trans {a b c:Array Mv} (h:Pm a b) (k:Pm b c):Pm a c:=List.Perm.trans k h
theorem Pm.size {a b:Array Mv} (h:Pm a b):b.size=a.size:=by have:=List.Perm.length_eq h;simpa using this
theorem DJ (d:Array Mv) (i j:Nat):Pm d (sw d i j):=by
 unfold sw
 split
 ·rename_i h
  have e:Sort.swp d i j=d.swap i j h.1 h.2:=by
   unfold Sort.swp
   rw [getElem!_pos d j h.2,getElem!_pos d i h.1]
   apply Array.ext
   ·simp
   ·intro k h1 h2
    simp [Array.getElem_swap,Array.getElem_setIfInBounds]
    grind
  rw [e]
  exact (Array.swap_perm h.1 h.2).toList
 ·exact Pm.kU d
theorem Ii (a:Nat):∀ (j:Nat) (d:Array Mv),Pm d (HF lt a j d)
 | 0,d=>Pm.kU d
 | j+1,d=>by
  unfold HF
  cases decide (a<j+1)&&lt d[j+1]! d[j]!
  ·exact Pm.kU d
  ·exact (DJ d _ _).trans (Ii a j _)
theorem GJ (a:Nat):∀ (r i:Nat) (d:Array Mv),Pm d (IS lt a r i d)
 | 0,_,d=>Pm.kU d
 | r+1,i,d=>(Ii lt a i d).trans (GJ a r _ _)
theorem xL (a b:Nat) (d:Array Mv):Pm d (ins lt a b d):=GJ lt a _ _ d
theorem pI:∀ (r a b:Nat) (d:Array Mv),Pm d (yY r a b d)
 | 0,_,_,d=>Pm.kU d
 | r+1,a,b,d=>(DJ d a b).trans (pI r _ _ _)
theorem pg (m:Nat):∀ (f i j:Nat) (d:Array Mv),Pm d (mE m f i j d)
 | 0,_,_,d=>Pm.kU d
 | f+1,i,j,d=>by
  unfold mE
  split
  ·exact pI _ _ _ _
  ·split
   ·exact (pI _ _ _ d).trans (pg m f _ _ _)
   ·exact (pI _ _ _ d).trans (pg m f _ _ _)
theorem G7:∀ (r k:Nat) (d:Array Mv),Pm d (KC r k d)
 | 0,_,d=>Pm.kU d
 | r+1,k,d=>(DJ d _ _).trans (G7 r _ _)
theorem Iu:∀ (r k:Nat) (d:Array Mv),Pm d (K6 r k d)
 | 0,_,d=>Pm.kU d
 | r+1,k,d=>(DJ d _ _).trans (Iu r _ _)
theorem kh {c:Prop} [Decidable c] {d x y:Array Mv} (h1:Pm d x) (h2:Pm d y):Pm d (if c then x else y):=by split<;>assumption
theorem qk:∀ (f a m b:Nat) (d:Array Mv),Pm d (sym lt f a m b d)
 | 0,_,_,_,d=>Pm.kU d
 | f+1,a,m,b,d=>by
  unfold sym
  refine kh (G7 _ _ _) (kh (Iu _ _ _) ?_)
  have h1:Pm d (if mstart lt a m b d<m∧m<(a+b) / 2+m-mstart lt a m b d then mE m ((a+b) / 2+m-mstart lt a m b d-mstart lt a m b d) (m-mstart lt a m b d) ((a+b) / 2+m-mstart lt a m b d-m) d else d):=kh (pg _ _ _ _ _) (Pm.kU d)
  have h2:=h1.trans (kh (c:=a<mstart lt a m b d∧mstart lt a m b d<(a+b) / 2) (qk f a (mstart lt a m b d) ((a+b) / 2) _) (Pm.kU _))
  exact h2.trans (kh (qk f _ _ b _) (Pm.kU _))
theorem D3 (n:Nat):∀ (f a:Nat) (d:Array Mv),Pm d (oV lt n f a d)
 | 0,_,d=>Pm.kU d
 | f+1,a,d=>by
  unfold oV
  exact kh ((xL lt _ _ d).trans (D3 n f _ _)) (xL lt _ _ d)
theorem xQ (n s:Nat):∀ (f a:Nat) (d:Array Mv),Pm d (pass lt n s f a d)
 | 0,_,d=>Pm.kU d
 | f+1,a,d=>by
  unfold pass
  exact kh ((qk lt _ _ _ _ d).trans (xQ n s f _ _)) (kh (qk lt _ _ _ _ d) (Pm.kU d))
theorem vg (n:Nat):∀ (f s:Nat) (d:Array Mv),Pm d (gS lt n f s d)
 | 0,_,d=>Pm.kU d
 | f+1,s,d=>by
  unfold gS
  exact kh ((xQ lt _ _ _ _ d).trans (vg n f _ _)) (Pm.kU d)
theorem NX (d:Array Mv):Pm d (qR lt d):=(D3 lt _ _ _ d).trans (vg lt _ _ _ _)
end
end Kz
end
noncomputable section
namespace Go.Proofs
open Go.Shelf Go.RowKit Go.Lib Go.Sort
open Kz (Mv dp yY sw AF mE nA KC K6 mstart sym HF IS ins oV pass gS qR)
variable {α:Type} [Inhabited α]
structure kP (g:Nat) (cb:Array Value) (cf:α→α→Int) (bA off k:Nat) (enc:α→List Value) (RW:Array α→World→Prop):Prop where
 hk:∀ x,(enc x).length=k
 load:∀ {d W},RW d W→∀ i,i<d.size→Sem.run Tryz.prog (loadCellsFrom ⟨bA,off+i * k,none⟩ 0 k #[]) W=.ok (enc d[i]!).toArray W
 drew:∀ {d W},RW d W→RW d W.drew
 fh:∀ {d W},RW d W→∀ i,i<d.size→∀ y,Sem.run Tryz.prog (storeCells ⟨bA,off+i * k,none⟩ (enc y) 0) W=.ok () (W.setCells bA (off+i * k) (enc y))
 st2:∀ {d W},RW d W→∀ i j,i<d.size→j<d.size→∀ y x,Sem.run Tryz.prog (storeCells ⟨bA,off+j * k,none⟩ (enc x) 0) (W.setCells bA (off+i * k) (enc y))=.ok () ((W.setCells bA (off+i * k) (enc y)).setCells bA (off+j * k) (enc x))
 swap:∀ {d W},RW d W→∀ i j,i<d.size→j<d.size→RW (swp d i j) ((W.setCells bA (off+i * k) (enc d[j]!)).setCells bA (off+j * k) (enc d[i]!))
 cmp:∀ {d W},RW d W→∀ x y,Calls Tryz.prog g (#[.agg (enc x).toArray,.agg (enc y).toArray]++cb) W fun e w'=>e=.returned (.int .i64 (cf x y))∧RW d w'
 eg:∀ args w,(callFunc g args).run Tryz.prog w=.ok (.enter g args) w
structure xU (RW:Array α→World→Prop) (d:Array α) where
 W:World
 h:RW d W
set_option maxHeartbeats 4000000 in
set_option maxRecDepth 1000000 in
theorem Hm {g:Nat} {cb:Array Value} {cf:Mv→Mv→Int} {bA off k:Nat} {enc:Mv→List Value} {RW:Array Mv→World→Prop} (L:kP g cb cf bA off k enc RW) (aE:∀ w,(isAgg 47).run Tryz.prog w=.ok true w) (zE:∀ w,(Go.sizeOf 47).run Tryz.prog w=.ok k w)
  (cap a b n:Nat) (d:Array Mv) (w:World) (S:RW d w) (ha:a+n≤d.size) (hb:b+n≤d.size) (hsz:d.size<4611686018427387904) :
  Calls Tryz.prog 273 #[.slice (some ⟨bA,off,none⟩) d.size cap,.int .i64 a,.int .i64 b,.int .i64 n,.func (.func g) #[] cb] w fun e w'=>e=.returned (.tuple #[])∧RW (yY n a b d) w':=by
 have mixed:Tryz.prog.follows .mixedOrders=true:=by kernel_rfl
 have S0:Aside (RW d w):=S
 have LL:Aside (kP g cb cf bA off k enc RW):=L
 clear S L
 go_enter Tryz.func273,Tryz.ntmps273
 go_wp2
 go_loopg [10] n (fun kx s910 wr=>∃ (i:Nat) (dk:Array Mv),s910=.int .i64 i∧kx+i=n∧dk.size=d.size∧Aside (RW dk wr)∧Hid (yY kx (a+i) (b+i) dk=yY n a b d))
 case atStart=>exact ⟨0,d,rfl,rfl,rfl,S0,rfl⟩
 case round =>
  clear S0
  obtain ⟨i,dk,rfl,hi,hds,S1,HE⟩:=hrel
  cases gk with
  | zero =>
   have hlt:¬ (i:Int)<(n:Int):=by omega
   go_wp2
   go_end0
   refine ⟨rfl,?_⟩
   have:=HE.out
   rw [yY] at this
   rw [← this]
   exact S1.out
  | succ kx =>
   have hlt:(i:Int)<(n:Int):=by omega
   go_wp2_with fail
   have ea:((a:Int)+(i:Int)).toNat=a+i:=by omega
   have pa:(0:Int)≤(a:Int)+(i:Int):=by omega
   have ba:(a:Int)+(i:Int)<(d.size:Int):=by omega
   have ra:IntKind.i64.wrap ((a:Int)+(i:Int))=(a:Int)+(i:Int):=by rw [IntKind.wrap_i64];omega
   have eb:((b:Int)+(i:Int)).toNat=b+i:=by omega
   have pb:(0:Int)≤(b:Int)+(i:Int):=by omega
   have bb:(b:Int)+(i:Int)<(d.size:Int):=by omega
   have rb:IntKind.i64.wrap ((b:Int)+(i:Int))=(b:Int)+(i:Int):=by rw [IntKind.wrap_i64];omega
   have hA:a+i<dk.size:=by omega
   have hB:b+i<dk.size:=by omega
   have S2:Aside (RW (swp dk (a+i) (b+i)) ((wr.drew.setCells bA (off+(a+i) * k) (enc dk[b+i]!)).setCells bA (off+(b+i) * k) (enc dk[a+i]!))):=LL.out.swap (LL.out.drew S1.out) (a+i) (b+i) hA hB
   have la:=LL.out.load (LL.out.drew S1.out) (a+i) hA
   have lb:=LL.out.load (LL.out.drew S1.out) (b+i) hB
   have sa:=LL.out.fh (LL.out.drew S1.out) (a+i) hA dk[b+i]!
   have sb:=LL.out.st2 (LL.out.drew S1.out) (a+i) (b+i) hA hB dk[b+i]! dk[a+i]!
   have na:(enc dk[a+i]!).length=k:=LL.out.hk _
   have nb:(enc dk[b+i]!).length=k:=LL.out.hk _
   generalize enc dk[a+i]! = cI at S2 la sb na
   generalize enc dk[b+i]! = cJ at S2 lb sa sb nb
   clear S1
   go_wp2_with fail
   go_big_region_o
   clear la lb sa sb
   generalize (wr.drew.setCells bA (off+(a+i) * k) cJ).setCells bA (off+(b+i) * k) cI=w2 at S2 ⊢
   go_wp2
   go_roundg kx
   case measure=>omega
   case rel =>
    refine ⟨i+1,swp dk (a+i) (b+i),by go_num,by omega,by rw [size_swp];exact hds,S2,?_⟩
    show _=_
    rw [← HE.out,yY,AF hA hB]
    rfl
theorem db {β:Type} {RW:Array β→World→Prop} {d:Array β} {id:Nat} {Q:Exit→Act→World→Prop} {a:Act} {w:World} {l:List Oper} (hm:Tryz.prog.follows .mixedOrders=true) (hB:Region.lexB .any l.toArray=true) (hR:RW d w.drew)
  (h:wpQuiet Tryz.prog l.toArray (fun w'=>∃ p:xU RW d,w'=p.W) (fun a'=>∀ w',(∃ p:xU RW d,w'=p.W)→Q .normal a' w') l a):(Code.region id l.toArray true).wp Tryz.prog Q a w :=
 wp_region_quiet (C:=fun w'=>∃ p:xU RW d,w'=p.W) hm hB ⟨⟨w.drew,hR⟩,rfl⟩ (by simpa using h)
set_option maxHeartbeats 4000000 in
set_option maxRecDepth 1000000 in
theorem Ph {g:Nat} {cb:Array Value} {cf:Mv→Mv→Int} {bA off k:Nat} {enc:Mv→List Value} {RW:Array Mv→World→Prop} (L:kP g cb cf bA off k enc RW) (aE:∀ w,(isAgg 47).run Tryz.prog w=.ok true w) (zE:∀ w,(Go.sizeOf 47).run Tryz.prog w=.ok k w)
  (cap a b:Nat) (d:Array Mv) (w:World) (S:RW d w) (hab:a≤b) (hb:b≤d.size) (hsz:d.size<4611686018427387904) :
  Calls Tryz.prog 224 #[.slice (some ⟨bA,off,none⟩) d.size cap,.int .i64 a,.int .i64 b,.func (.func g) #[] cb] w fun e w'=>e=.returned (.tuple #[])∧RW (ins (dp cf) a b d) w':=by
 have mixed:Tryz.prog.follows .mixedOrders=true:=by kernel_rfl
 have eg:=L.eg
 have S0:Aside (RW d w):=S
 have LL:Aside (kP g cb cf bA off k enc RW):=L
 clear S L
 go_enter Tryz.func224,Tryz.ntmps224
 go_wp2
 go_loopg [8] (b-(a+1)+1) (fun g1 vi wr=>∃ (i r:Nat) (dk:Array Mv),vi=.int .i64 i∧a<i∧r=b-i∧g1=r+1∧dk.size=d.size∧Aside (RW dk wr)∧Hid (IS (dp cf) a r i dk=ins (dp cf) a b d))
 case atStart=>exact ⟨a+1,b-(a+1),d,by go_num,by omega,rfl,rfl,rfl,S0,rfl⟩
 case round =>
  clear S0
  obtain ⟨i,r,dk,rfl,hai,hr,rfl,hsk,S1,HO⟩:=hrel
  cases r with
  | zero =>
   have hltz:¬ (i:Int)<(b:Int):=by omega
   go_wp2
   go_end0
   refine ⟨rfl,?_⟩
   have:=HO.out
   rw [IS] at this
   rw [← this]
   exact S1.out
  | succ r =>
   have hltz:(i:Int)<(b:Int):=by omega
   have HO2:Hid (IS (dp cf) a r (i+1) (HF (dp cf) a i dk)=ins (dp cf) a b d):=HO.out
   clear HO
   go_wp2
   go_loopg [9] (i+1) (fun g2 vj wr2=>∃ (j:Nat) (dj:Array Mv),vj=.int .i64 j∧a≤j∧j≤i∧g2=j+1∧dj.size=d.size∧Aside (RW dj wr2)∧Hid (IS (dp cf) a r (i+1) (HF (dp cf) a j dj)=ins (dp cf) a b d))
   case atStart=>exact ⟨i,dk,rfl,by omega,Nat.le_refl _,rfl,hsk,S1,HO2⟩
   case round =>
    clear S1 HO2
    obtain ⟨j,dj,rfl,haj,hji,rfl,hsj,S2,HI⟩:=hrel
    by_cases hja:a<j
    ·obtain ⟨jp,rfl⟩:∃ jp,j=jp+1:=⟨j-1,by omega⟩
     obtain ⟨xj,hxj⟩:∃ x,dj[jp+1]! = x:=⟨_,rfl⟩
     obtain ⟨xp,hxp⟩:∃ x,dj[jp]! = x:=⟨_,rfl⟩
     have hwp:IntKind.i64.wrap (jp:Int)=(jp:Int):=by rw [IntKind.wrap_i64];omega
     have jz:(jp:Int)+1<(d.size:Int):=by omega
     have jz1:(jp:Int)<(d.size:Int):=by omega
     have hjaz':(a:Int)<(jp:Int)+1:=by omega
     have p0:(0:Int)≤(jp:Int)+1:=by omega
     have e0:((jp:Int)+1).toNat=jp+1:=by omega
     have hA:jp+1<dj.size:=by omega
     have hB:jp<dj.size:=by omega
     have lj:∀ p:xU RW dj,Sem.run Tryz.prog (loadCellsFrom ⟨bA,off+(jp+1) * k,none⟩ 0 k #[]) p.W=.ok (enc xj).toArray p.W:=fun p=>by rw [← hxj];exact LL.out.load p.h _ hA
     have lp:∀ p:xU RW dj,Sem.run Tryz.prog (loadCellsFrom ⟨bA,off+jp * k,none⟩ 0 k #[]) p.W=.ok (enc xp).toArray p.W:=fun p=>by rw [← hxp];exact LL.out.load p.h _ hB
     have hcg:∀ p:xU RW dj,Calls Tryz.prog g (#[.agg (enc xj).toArray,.agg (enc xp).toArray]++cb) p.W fun e w'=>e=.returned (.int .i64 (cf xj xp))∧∃ p':xU RW dj,w'=p'.W:=fun p=>(LL.out.cmp p.h xj xp).mono fun e w' ⟨h1,h2⟩=>⟨h1,⟨w',h2⟩,rfl⟩
     have hdr:RW dj wr.drew:=LL.out.drew S2.out
     clear S2
     by_cases hlv:cf xj xp<0
     ·have HI2:Hid (IS (dp cf) a r (i+1) (HF (dp cf) a jp (swp dj (jp+1) jp))=ins (dp cf) a b d):=by
       have:=HI.out
       rw [HF,AF hA hB,hxj,hxp] at this
       simp only [hja,decide_true,dp,hlv,Bool.and_self,cond_true] at this
       exact this
      go_wp2_with fail
      refine db mixed (by kernel_rfl) hdr ?_
      repeat (quiet_step (first | with_reducible rfl | (go_at_fn g;exact hcg _)))
      refine wpQuiet_nil ?_
      intro wq hw'
      obtain ⟨⟨wx,hq⟩,hw''⟩:=hw'
      subst hw''
      clear lj lp hcg hdr
      go_wp2_with fail
      have S3:Aside (RW (swp dj (jp+1) jp) ((wq.drew.setCells bA (off+(jp+1) * k) (enc dj[jp]!)).setCells bA (off+jp * k) (enc dj[jp+1]!))):=LL.out.swap (LL.out.drew hq) (jp+1) jp hA hB
      have la:=LL.out.load (LL.out.drew hq) (jp+1) hA
      have lb:=LL.out.load (LL.out.drew hq) jp hB
      have sa:=LL.out.fh (LL.out.drew hq) (jp+1) hA dj[jp]!
      have sb:=LL.out.st2 (LL.out.drew hq) (jp+1) jp hA hB dj[jp]! dj[jp+1]!
      have na:(enc dj[jp+1]!).length=k:=LL.out.hk _
      have nb:(enc dj[jp]!).length=k:=LL.out.hk _
      clear hxj hxp
      generalize enc dj[jp+1]! = cI at S3 la sb na
      generalize enc dj[jp]! = cJ at S3 lb sa sb nb
      clear hq
      go_big_region_o
      clear la lb sa sb
      generalize (wq.drew.setCells bA (off+(jp+1) * k) cJ).setCells bA (off+jp * k) cI=w2 at S3 ⊢
      go_wp2
      go_roundg (jp+1)
      case measure=>omega
      case rel=>exact ⟨jp,swp dj (jp+1) jp,by first | rfl | go_num | (congr 1;omega),by omega,by omega,rfl,by rw [size_swp];exact hsj,S3,HI2⟩
     ·have HI2:Hid (IS (dp cf) a r (i+1) dj=ins (dp cf) a b d):=by
       have:=HI.out
       rw [HF,hxj,hxp] at this
       simp only [hja,decide_true,dp,hlv,decide_false,Bool.and_false,cond_false] at this
       exact this
      go_wp2_with fail
      refine db mixed (by kernel_rfl) hdr ?_
      repeat (quiet_step (first | with_reducible rfl | (go_at_fn g;exact hcg _)))
      refine wpQuiet_nil ?_
      intro wq hw'
      obtain ⟨⟨wx,hq⟩,hw''⟩:=hw'
      subst hw''
      have S3:Aside (RW dj wq):=hq
      clear lj lp hcg hdr hq
      go_wp2
      go_roundg (r+1)
      case measure=>omega
      case rel=>exact ⟨i+1,r,dj,by go_num,by omega,by omega,rfl,hsj,S3,HI2⟩
    ·have hjaz:decide ((j:Int)>(a:Int))=false:=decide_eq_false (by omega)
     have hjaz':¬ (a:Int)<(j:Int):=by omega
     have S3:Aside (RW dj wr.drew):=LL.out.drew S2.out
     have HI2:Hid (IS (dp cf) a r (i+1) dj=ins (dp cf) a b d):=by
      have:=HI.out
      cases j with
      | zero=>exact this
      | succ jp=>rw [HF] at this;simp only [hja,decide_false,Bool.false_and,cond_false] at this;exact this
     clear S2
     go_wp2_with fail
     go_big_region_o
     all_goals go_wp2
     go_roundg (r+1)
     case measure=>omega
     case rel=>exact ⟨i+1,r,dj,by go_num,by omega,by omega,rfl,hsj,S3,HI2⟩
set_option maxHeartbeats 4000000 in
set_option maxRecDepth 1000000 in
theorem Cv {g:Nat} {cb:Array Value} {cf:Mv→Mv→Int} {bA off k:Nat} {enc:Mv→List Value} {RW:Array Mv→World→Prop} (L:kP g cb cf bA off k enc RW) (aE:∀ w,(isAgg 47).run Tryz.prog w=.ok true w) (zE:∀ w,(Go.sizeOf 47).run Tryz.prog w=.ok k w)
  (cap a m b:Nat) (d:Array Mv) (w:World) (S:RW d w) (ham:a<m) (hmb:m<b) (hb:b≤d.size) (hsz:d.size<4611686018427387904) :
  Calls Tryz.prog 257 #[.slice (some ⟨bA,off,none⟩) d.size cap,.int .i64 a,.int .i64 m,.int .i64 b,.func (.func g) #[] cb] w fun e w'=>e=.returned (.tuple #[])∧RW (mE m (b-a) (m-a) (b-m) d) w':=by
 have S0:Aside (RW d w):=S
 have LL:Aside (kP g cb cf bA off k enc RW):=L
 clear S L
 have e1:(m:Int)-(a:Int)=((m-a:Nat):Int):=by omega
 have e2:(b:Int)-(m:Int)=((b-m:Nat):Int):=by omega
 have E1:=Lib.hid e1
 have E2:=Lib.hid e2
 clear e1 e2
 go_enter Tryz.func257,Tryz.ntmps257
 go_wp2
 go_loopg [10,11] (b-a) (fun kx s910 Vo wr=>∃ (i j:Nat) (dk:Array Mv),s910=.int .i64 i∧Vo=.int .i64 j∧0<i∧0<j∧i≤m∧m+j≤d.size∧i+j≤kx∧dk.size=d.size∧Aside (RW dk wr)∧Hid (mE m kx i j dk=mE m (b-a) (m-a) (b-m) d))
 case atStart=>exact ⟨m-a,b-m,d,by rw [E1.out],by rw [E2.out],by omega,by omega,by omega,by omega,by omega,rfl,S0,rfl⟩
 case round =>
  clear S0
  obtain ⟨i,j,dk,rfl,rfl,hi,hj,him,hmj,hf,hds,S1,HE⟩:=hrel
  cases gk with
  | zero=>exfalso;omega
  | succ f =>
   by_cases hij:i=j
   ·subst hij
    have hc:=Hm LL.out aE zE cap (m-i) m i dk wr S1.out (by omega) (by omega) (by omega)
    rw [hds,show ((m-i:Nat):Int)=(m:Int)-(i:Int) by omega] at hc
    have HE2:=HE.out
    rw [mE,if_pos rfl] at HE2
    rw [HE2] at hc
    clear S1 HE2
    go_wp2_with fail
    refine hc.mono ?_
    rintro e w1 ⟨rfl,S3⟩
    go_wp2
    go_end0
    exact ⟨rfl,S3⟩
   ·have hne:((i:Int)==(j:Int))=false:=beq_eq_false_iff_ne.2 (by omega)
    have hne':¬ (i:Int)=(j:Int):=by omega
    by_cases hji:j<i
    ·have hjz:(j:Int)<(i:Int):=by omega
     have hc:=Hm LL.out aE zE cap (m-i) m j dk wr S1.out (by omega) (by omega) (by omega)
     rw [hds,show ((m-i:Nat):Int)=(m:Int)-(i:Int) by omega] at hc
     have HE2:Hid (mE m f (i-j) j (yY j (m-i) m dk)=mE m (b-a) (m-a) (b-m) d):=by
      have:=HE.out
      rw [mE,if_neg hij,if_pos hji] at this
      exact this
     have hsz2:(yY j (m-i) m dk).size=d.size:=(Kz.pI _ _ _ dk).size.trans hds
     clear S1 HE
     go_wp2_with fail
     refine hc.mono ?_
     rintro e w1 ⟨rfl,S3⟩
     go_wp2
     go_roundg f
     case measure=>omega
     case rel=>exact ⟨i-j,j,yY j (m-i) m dk,by congr 1;omega,rfl,by omega,hj,by omega,hmj,by omega,hsz2,S3,HE2⟩
    ·have hjz:¬ (j:Int)<(i:Int):=by omega
     have hc:=Hm LL.out aE zE cap (m-i) (m+j-i) i dk wr S1.out (by omega) (by omega) (by omega)
     rw [hds,show ((m-i:Nat):Int)=(m:Int)-(i:Int) by omega,show ((m+j-i:Nat):Int)=(m:Int)+(j:Int)-(i:Int) by omega] at hc
     have HE2:Hid (mE m f i (j-i) (yY i (m-i) (m+j-i) dk)=mE m (b-a) (m-a) (b-m) d):=by
      have:=HE.out
      rw [mE,if_neg hij,if_neg hji] at this
      exact this
     have hsz2:(yY i (m-i) (m+j-i) dk).size=d.size:=(Kz.pI _ _ _ dk).size.trans hds
     clear S1 HE
     go_wp2_with fail
     refine hc.mono ?_
     rintro e w1 ⟨rfl,S3⟩
     go_wp2
     go_roundg f
     case measure=>omega
     case rel=>exact ⟨i,j-i,yY i (m-i) (m+j-i) dk,rfl,by congr 1;omega,hi,by omega,him,by omega,by omega,hsz2,S3,HE2⟩
theorem sC (c:Nat→Bool):∀ (f i j:Nat),i≤j→i≤nA c f i j∧nA c f i j≤j
 | 0,i,j,h=>⟨Nat.le_refl _,h⟩
 | f+1,i,j,h=>by
  rw [nA]
  split
  ·cases c ((i+j) / 2)
   ·have:=sC c f i ((i+j) / 2) (by omega)
    simp only [cond_false]
    omega
   ·have:=sC c f ((i+j) / 2+1) j (by omega)
    simp only [cond_true]
    omega
  ·omega
set_option maxHeartbeats 4000000 in
set_option maxRecDepth 1000000 in
theorem Ui {g:Nat} {cb:Array Value} {cf:Mv→Mv→Int} {bA off k:Nat} {enc:Mv→List Value} {RW:Array Mv→World→Prop} (L:kP g cb cf bA off k enc RW) (aE:∀ w,(isAgg 47).run Tryz.prog w=.ok true w) (zE:∀ w,(Go.sizeOf 47).run Tryz.prog w=.ok k w)
  (cap a m b:Nat) (d:Array Mv) (w:World) (S:RW d w) (hma:m-a=1) (hmb:m<b) (hb:b≤d.size) (hsz:d.size<4611686018427387904) :
  Calls Tryz.prog 225 #[.slice (some ⟨bA,off,none⟩) d.size cap,.int .i64 a,.int .i64 m,.int .i64 b,.func (.func g) #[] cb] w fun e w'=>e=.returned (.tuple #[])∧RW (KC (nA (fun h=>dp cf d[h]! d[a]!) (b-m) m b-1-a) a d) w':=by
 have mixed:Tryz.prog.follows .mixedOrders=true:=by kernel_rfl
 have eg:=L.eg
 have S0:Aside (RW d w):=S
 have LL:Aside (kP g cb cf bA off k enc RW):=L
 clear S L
 have HM:Hid (m=a+1):=by show _=_;omega
 have eone:(m:Int)-(a:Int)=1:=by omega
 clear hma
 obtain ⟨r0,hr0⟩:∃ r0,r0=nA (fun h=>dp cf d[h]! d[a]!) (b-m) m b:=⟨_,rfl⟩
 have hr1:m≤r0∧r0≤b:=by rw [hr0];exact sC _ _ _ _ (by omega)
 rw [← hr0]
 have HR:=Lib.hid hr0
 clear hr0
 go_enter Tryz.func225,Tryz.ntmps225
 go_wp2
 go_loopg [10,11] (b-m+1) (fun kx s910 Vo wr=>∃ (i j f:Nat),s910=.int .i64 i∧Vo=.int .i64 j∧i≤j∧m≤i∧j≤b∧j-i≤f∧kx=f+1∧Aside (RW d wr)∧Hid (nA (fun h=>dp cf d[h]! d[a]!) f i j=r0))
 case atStart=>exact ⟨m,b,b-m,rfl,rfl,by omega,by omega,by omega,by omega,rfl,S0,HR.out.symm⟩
 case round =>
  clear S0
  obtain ⟨i,j,f,rfl,rfl,hij,hi,hj,hf,rfl,S1,HE⟩:=hrel
  by_cases hlt:i<j
  ·have hltz:(i:Int)<(j:Int):=by omega
   obtain ⟨f,rfl⟩:∃ f',f=f'+1:=⟨f-1,by omega⟩
   obtain ⟨h,hh⟩:∃ h,h=(i+j) / 2:=⟨_,rfl⟩
   have hhz:((i:Int)+(j:Int)) / 2=(h:Int):=by omega
   have HE2:=HE.out
   rw [nA,if_pos hlt,← hh] at HE2
   have hA:h<d.size:=by omega
   have hB:a<d.size:=by have:=HM.out;omega
   have hAz:(h:Int)<(d.size:Int):=by omega
   have hBz:(a:Int)<(d.size:Int):=by omega
   obtain ⟨xj,hxj⟩:∃ x,d[h]! = x:=⟨_,rfl⟩
   obtain ⟨xp,hxp⟩:∃ x,d[a]! = x:=⟨_,rfl⟩
   have lj:∀ p:xU RW d,Sem.run Tryz.prog (loadCellsFrom ⟨bA,off+h * k,none⟩ 0 k #[]) p.W=.ok (enc xj).toArray p.W:=fun p=>by rw [← hxj];exact LL.out.load p.h _ hA
   have lp:∀ p:xU RW d,Sem.run Tryz.prog (loadCellsFrom ⟨bA,off+a * k,none⟩ 0 k #[]) p.W=.ok (enc xp).toArray p.W:=fun p=>by rw [← hxp];exact LL.out.load p.h _ hB
   have hcg:∀ p:xU RW d,Calls Tryz.prog g (#[.agg (enc xj).toArray,.agg (enc xp).toArray]++cb) p.W fun e w'=>e=.returned (.int .i64 (cf xj xp))∧∃ p':xU RW d,w'=p'.W:=fun p=>(LL.out.cmp p.h xj xp).mono fun e w' ⟨h1,h2⟩=>⟨h1,⟨w',h2⟩,rfl⟩
   have hdr:RW d wr.drew:=LL.out.drew S1.out
   have HH:Hid (h=(i+j) / 2):=hh
   have hc0:dp cf d[h]! d[a]! = decide (cf xj xp<0):=by rw [hxj,hxp];rfl
   rw [hc0] at HE2
   clear S1 hh HE hxj hxp hc0
   by_cases hlv:cf xj xp<0
   ·simp only [hlv,decide_true,cond_true] at HE2
    have HE3:Hid (nA (fun h=>dp cf d[h]! d[a]!) f (h+1) j=r0):=HE2
    clear HE2
    go_wp2_with fail
    refine db mixed (by kernel_rfl) hdr ?_
    repeat (quiet_step (first | with_reducible rfl | (go_at_fn g;exact hcg _)))
    refine wpQuiet_nil ?_
    intro wq hw'
    obtain ⟨⟨wx,hq⟩,hw''⟩:=hw'
    subst hw''
    have S3:Aside (RW d wq):=hq
    clear lj lp hcg hdr hq
    go_wp2
    go_roundg (f+1)
    case measure=>omega
    case rel =>
     have:=HH.out
     exact ⟨h+1,j,f,by go_num,rfl,by omega,by omega,hj,by omega,rfl,S3,HE3.out⟩
   ·simp only [hlv,decide_false,cond_false] at HE2
    have HE3:Hid (nA (fun h=>dp cf d[h]! d[a]!) f i h=r0):=HE2
    clear HE2
    go_wp2_with fail
    refine db mixed (by kernel_rfl) hdr ?_
    repeat (quiet_step (first | with_reducible rfl | (go_at_fn g;exact hcg _)))
    refine wpQuiet_nil ?_
    intro wq hw'
    obtain ⟨⟨wx,hq⟩,hw''⟩:=hw'
    subst hw''
    have S3:Aside (RW d wq):=hq
    clear lj lp hcg hdr hq
    go_wp2
    go_roundg (f+1)
    case measure=>omega
    case rel =>
     have:=HH.out
     exact ⟨i,h,f,rfl,rfl,by omega,by omega,by omega,by omega,rfl,S3,HE3.out⟩
  ·have hltz:¬ (i:Int)<(j:Int):=by omega
   have hir:i=r0:=by
    have:=HE.out
    cases f with
    | zero=>exact this
    | succ f=>rw [nA,if_neg hlt] at this;exact this
   subst hir
   clear HE
   go_wp2
   go_loopg [13] (i-1-a+1) (fun kx s16 wr2=>∃ (q r:Nat) (dk:Array Mv),s16=.int .i64 q∧kx=r+1∧q+r=i-1∧dk.size=d.size∧Aside (RW dk wr2)∧Hid (KC r q dk=KC (i-1-a) a d))
   case atStart=>exact ⟨a,i-1-a,d,rfl,rfl,by have:=HM.out;omega,rfl,S1,rfl⟩
   case round =>
    clear S1
    obtain ⟨q,r,dk,rfl,rfl,hqr,hds,S1,HE⟩:=hrel
    cases r with
    | zero =>
     have hz:¬ (q:Int)<(i:Int)-1:=by omega
     go_wp2
     (try simp only [Exit.inBlock,Exit.then])
     refine bodyPost_ret (results_none rfl _ _ _) rfl ?_
     refine ⟨rfl,?_⟩
     have:=HE.out
     rw [KC] at this
     rw [← this]
     exact S1.out
    | succ r =>
     have hz:(q:Int)<(i:Int)-1:=by omega
     have hA:q<dk.size:=by omega
     have hB:q+1<dk.size:=by omega
     have HE2:Hid (KC r (q+1) (swp dk q (q+1))=KC (i-1-a) a d):=by
      have:=HE.out
      rw [KC,AF hA hB] at this
      exact this
     have pb:(0:Int)≤(q:Int)+1:=by omega
     have bb:(q:Int)+1<(d.size:Int):=by omega
     have ba:(q:Int)<(d.size:Int):=by omega
     have eb:((q:Int)+1).toNat=q+1:=by omega
     have rb:IntKind.i64.wrap ((q:Int)+1)=(q:Int)+1:=by rw [IntKind.wrap_i64];omega
     have S3:Aside (RW (swp dk q (q+1)) ((wr.drew.setCells bA (off+q * k) (enc dk[q+1]!)).setCells bA (off+(q+1) * k) (enc dk[q]!))):=LL.out.swap (LL.out.drew S1.out) q (q+1) hA hB
     have la:=LL.out.load (LL.out.drew S1.out) q hA
     have lb:=LL.out.load (LL.out.drew S1.out) (q+1) hB
     have sa:=LL.out.fh (LL.out.drew S1.out) q hA dk[q+1]!
     have sb:=LL.out.st2 (LL.out.drew S1.out) q (q+1) hA hB dk[q+1]! dk[q]!
     have na:(enc dk[q]!).length=k:=LL.out.hk _
     have nb:(enc dk[q+1]!).length=k:=LL.out.hk _
     generalize enc dk[q]! = cI at S3 la sb na
     generalize enc dk[q+1]! = cJ at S3 lb sa sb nb
     clear S1 HE
     go_wp2_with fail
     go_big_region_o
     clear la lb sa sb
     generalize (wr.drew.setCells bA (off+q * k) cJ).setCells bA (off+(q+1) * k) cI=w2 at S3 ⊢
     go_wp2
     go_roundg (r+1)
     case measure=>omega
     case rel=>exact ⟨q+1,r,swp dk q (q+1),by go_num,rfl,by omega,by rw [size_swp];exact hds,S3,HE2⟩
set_option maxHeartbeats 4000000 in
set_option maxRecDepth 1000000 in
theorem SN {g:Nat} {cb:Array Value} {cf:Mv→Mv→Int} {bA off k:Nat} {enc:Mv→List Value} {RW:Array Mv→World→Prop} (L:kP g cb cf bA off k enc RW) (aE:∀ w,(isAgg 47).run Tryz.prog w=.ok true w) (zE:∀ w,(Go.sizeOf 47).run Tryz.prog w=.ok k w)
  (cap a m b:Nat) (d:Array Mv) (w:World) (S:RW d w) (ham:a<m) (hma:¬ m-a=1) (hbm:b-m=1) (hb:b≤d.size) (hsz:d.size<4611686018427387904) :
  Calls Tryz.prog 225 #[.slice (some ⟨bA,off,none⟩) d.size cap,.int .i64 a,.int .i64 m,.int .i64 b,.func (.func g) #[] cb] w fun e w'=>e=.returned (.tuple #[])∧RW (K6 (m-nA (fun h => !dp cf d[m]! d[h]!) (m-a) a m) m d) w':=by
 have mixed:Tryz.prog.follows .mixedOrders=true:=by kernel_rfl
 have eg:=L.eg
 have S0:Aside (RW d w):=S
 have LL:Aside (kP g cb cf bA off k enc RW):=L
 clear S L
 have HM:Hid (b=m+1):=by show _=_;omega
 have eone:((m:Int)-(a:Int)==1)=false:=beq_eq_false_iff_ne.2 (by omega)
 have eone':(b:Int)-(m:Int)=1:=by omega
 have hmd:m<d.size:=by omega
 clear hma hbm
 obtain ⟨r0,hr0⟩:∃ r0,r0=nA (fun h => !dp cf d[m]! d[h]!) (m-a) a m:=⟨_,rfl⟩
 have hr1:a≤r0∧r0≤m:=by rw [hr0];exact sC _ _ _ _ (by omega)
 rw [← hr0]
 have HR:=Lib.hid hr0
 clear hr0
 go_enter Tryz.func225,Tryz.ntmps225
 go_wp2
 go_loopg [14,15] (m-a+1) (fun kx s910 Vo wr=>∃ (i j f:Nat),s910=.int .i64 i∧Vo=.int .i64 j∧i≤j∧a≤i∧j≤m∧j-i≤f∧kx=f+1∧Aside (RW d wr)∧Hid (nA (fun h => !dp cf d[m]! d[h]!) f i j=r0))
 case atStart=>exact ⟨a,m,m-a,rfl,rfl,by omega,by omega,by omega,by omega,rfl,S0,HR.out.symm⟩
 case round =>
  clear S0
  obtain ⟨i,j,f,rfl,rfl,hij,hi,hj,hf,rfl,S1,HE⟩:=hrel
  by_cases hlt:i<j
  ·have hltz:(i:Int)<(j:Int):=by omega
   obtain ⟨f,rfl⟩:∃ f',f=f'+1:=⟨f-1,by omega⟩
   obtain ⟨h,hh⟩:∃ h,h=(i+j) / 2:=⟨_,rfl⟩
   have hhz:((i:Int)+(j:Int)) / 2=(h:Int):=by omega
   have HE2:=HE.out
   rw [nA,if_pos hlt,← hh] at HE2
   have hA:h<d.size:=by omega
   have hB:m<d.size:=hmd
   have hAz:(h:Int)<(d.size:Int):=by omega
   have hBz:(m:Int)<(d.size:Int):=by omega
   obtain ⟨xj,hxj⟩:∃ x,d[h]! = x:=⟨_,rfl⟩
   obtain ⟨xp,hxp⟩:∃ x,d[m]! = x:=⟨_,rfl⟩
   have lj:∀ p:xU RW d,Sem.run Tryz.prog (loadCellsFrom ⟨bA,off+h * k,none⟩ 0 k #[]) p.W=.ok (enc xj).toArray p.W:=fun p=>by rw [← hxj];exact LL.out.load p.h _ hA
   have lp:∀ p:xU RW d,Sem.run Tryz.prog (loadCellsFrom ⟨bA,off+m * k,none⟩ 0 k #[]) p.W=.ok (enc xp).toArray p.W:=fun p=>by rw [← hxp];exact LL.out.load p.h _ hB
   have hcg:∀ p:xU RW d,Calls Tryz.prog g (#[.agg (enc xp).toArray,.agg (enc xj).toArray]++cb) p.W fun e w'=>e=.returned (.int .i64 (cf xp xj))∧∃ p':xU RW d,w'=p'.W:=fun p=>(LL.out.cmp p.h xp xj).mono fun e w' ⟨h1,h2⟩=>⟨h1,⟨w',h2⟩,rfl⟩
   have hdr:RW d wr.drew:=LL.out.drew S1.out
   have HH:Hid (h=(i+j) / 2):=hh
   have hc0:dp cf d[m]! d[h]! = decide (cf xp xj<0):=by rw [hxj,hxp];rfl
   rw [hc0] at HE2
   clear S1 hh HE hxj hxp hc0
   by_cases hlv:cf xp xj<0
   ·simp only [hlv,decide_true,Bool.not_true,cond_false] at HE2
    have HE3:Hid (nA (fun h => !dp cf d[m]! d[h]!) f i h=r0):=HE2
    clear HE2
    go_wp2_with fail
    refine db mixed (by kernel_rfl) hdr ?_
    repeat (quiet_step (first | with_reducible rfl | (go_at_fn g;exact hcg _)))
    refine wpQuiet_nil ?_
    intro wq hw'
    obtain ⟨⟨wx,hq⟩,hw''⟩:=hw'
    subst hw''
    have S3:Aside (RW d wq):=hq
    clear lj lp hcg hdr hq
    go_wp2
    go_roundg (f+1)
    case measure=>omega
    case rel =>
     have:=HH.out
     exact ⟨i,h,f,rfl,rfl,by omega,by omega,by omega,by omega,rfl,S3,HE3.out⟩
   ·simp only [hlv,decide_false,Bool.not_false,cond_true] at HE2
    have hlw:decide (cf xp xj<0)=false:=decide_eq_false hlv
    have HE3:Hid (nA (fun h => !dp cf d[m]! d[h]!) f (h+1) j=r0):=HE2
    clear HE2
    go_wp2_with fail
    refine db mixed (by kernel_rfl) hdr ?_
    repeat (quiet_step (first | with_reducible rfl | (go_at_fn g;exact hcg _)))
    refine wpQuiet_nil ?_
    intro wq hw'
    obtain ⟨⟨wx,hq⟩,hw''⟩:=hw'
    subst hw''
    have S3:Aside (RW d wq):=hq
    clear lj lp hcg hdr hq
    go_wp2
    go_roundg (f+1)
    case measure=>omega
    case rel =>
     have:=HH.out
     exact ⟨h+1,j,f,by go_num,rfl,by omega,by omega,hj,by omega,rfl,S3,HE3.out⟩
  ·have hltz:¬ (i:Int)<(j:Int):=by omega
   have hir:i=r0:=by
    have:=HE.out
    cases f with
    | zero=>exact this
    | succ f=>rw [nA,if_neg hlt] at this;exact this
   subst hir
   clear HE
   go_wp2
   go_loopg [17] (m-i+1) (fun kx s24 wr2=>∃ (q r:Nat) (dk:Array Mv),s24=.int .i64 q∧kx=r+1∧q=i+r∧q≤m∧dk.size=d.size∧Aside (RW dk wr2)∧Hid (K6 r q dk=K6 (m-i) m d))
   case atStart=>exact ⟨m,m-i,d,rfl,rfl,by omega,Nat.le_refl _,rfl,S1,rfl⟩
   case round =>
    clear S1
    obtain ⟨q,r,dk,rfl,rfl,hqr,hqm,hds,S1,HE⟩:=hrel
    cases r with
    | zero =>
     have hz:¬ (i:Int)<(q:Int):=by omega
     have HQ:=Lib.hid hqr
     clear hqr
     go_wp2
     (try simp only [Exit.inBlock,Exit.then])
     refine bodyPost_ret (results_none rfl _ _ _) rfl ?_
     refine ⟨rfl,?_⟩
     have:=HE.out
     rw [K6] at this
     rw [← this]
     exact S1.out
    | succ r =>
     obtain ⟨jp,rfl⟩:∃ jp,q=jp+1:=⟨q-1,by omega⟩
     have HQ:Hid (jp=i+r):=by show _=_;omega
     have hz:(i:Int)<(jp:Int)+1:=by omega
     have hA:jp+1<dk.size:=by omega
     have hB:jp<dk.size:=by omega
     have HE2:Hid (K6 r jp (swp dk (jp+1) jp)=K6 (m-i) m d):=by
      have:=HE.out
      rw [K6,Nat.add_sub_cancel,AF hA hB] at this
      exact this
     have hwp:IntKind.i64.wrap (jp:Int)=(jp:Int):=by rw [IntKind.wrap_i64];omega
     have jz:(jp:Int)+1<(d.size:Int):=by omega
     have jz1:(jp:Int)<(d.size:Int):=by omega
     have p0:(0:Int)≤(jp:Int)+1:=by omega
     have e0:((jp:Int)+1).toNat=jp+1:=by omega
     have S3:Aside (RW (swp dk (jp+1) jp) ((wr.drew.setCells bA (off+(jp+1) * k) (enc dk[jp]!)).setCells bA (off+jp * k) (enc dk[jp+1]!))):=LL.out.swap (LL.out.drew S1.out) (jp+1) jp hA hB
     have la:=LL.out.load (LL.out.drew S1.out) (jp+1) hA
     have lb:=LL.out.load (LL.out.drew S1.out) jp hB
     have sa:=LL.out.fh (LL.out.drew S1.out) (jp+1) hA dk[jp]!
     have sb:=LL.out.st2 (LL.out.drew S1.out) (jp+1) jp hA hB dk[jp]! dk[jp+1]!
     have na:(enc dk[jp+1]!).length=k:=LL.out.hk _
     have nb:(enc dk[jp]!).length=k:=LL.out.hk _
     generalize enc dk[jp+1]! = cI at S3 la sb na
     generalize enc dk[jp]! = cJ at S3 lb sa sb nb
     clear S1 HE hqr
     go_wp2_with fail
     go_big_region_o
     clear la lb sa sb
     generalize (wr.drew.setCells bA (off+(jp+1) * k) cJ).setCells bA (off+jp * k) cI=w2 at S3 ⊢
     go_wp2
     go_roundg (r+1)
     case measure=>omega
     case rel =>
      have:=HQ.out
      exact ⟨jp,r,swp dk (jp+1) jp,by first | rfl | go_num | (congr 1;omega),rfl,this,by omega,by rw [size_swp];exact hds,S3,HE2⟩
theorem Ck (lt:Mv→Mv→Bool) (a m b:Nat) (d:Array Mv) (mid lo hi:Nat) (hm:mid=(a+b) / 2) (h:(mid<m∧lo=mid+m-b∧hi=mid)∨(¬ mid<m∧lo=a∧hi=m)) :
  mstart lt a m b d=nA (fun c => !lt d[mid+m-1-c]! d[c]!) (hi-lo) lo hi:=by
 subst hm
 unfold mstart
 rcases h with ⟨h1,h2,h3⟩ | ⟨h1,h2,h3⟩
 ·rw [if_pos h1,h2,h3]
 ·rw [if_neg h1,h2,h3]
set_option maxHeartbeats 40000000 in
set_option maxRecDepth 1000000 in
theorem Tb {g:Nat} {cb:Array Value} {cf:Mv→Mv→Int} {bA off k:Nat} {enc:Mv→List Value} {RW:Array Mv→World→Prop} (L:kP g cb cf bA off k enc RW) (aE:∀ w,(isAgg 47).run Tryz.prog w=.ok true w) (zE:∀ w,(Go.sizeOf 47).run Tryz.prog w=.ok k w)
  (cap a m b f:Nat) (d:Array Mv) (w:World) (S:RW d w) (ham:a<m) (hmb:m<b) (hma:¬ m-a=1) (hbm:¬ b-m=1) (hb:b≤d.size) (hsz:d.size<4611686018427387904)
  (ih:∀ (a' m' b':Nat) (d':Array Mv) (w':World),b' - a'<b-a→d'.size=d.size→RW d' w'→a'<m'→m'<b'→b'≤d.size →
   Calls Tryz.prog 225 #[.slice (some ⟨bA,off,none⟩) d.size cap,.int .i64 a',.int .i64 m',.int .i64 b',.func (.func g) #[] cb] w' fun e w''=>e=.returned (.tuple #[])∧RW (sym (dp cf) f a' m' b' d') w'') :
  Calls Tryz.prog 225 #[.slice (some ⟨bA,off,none⟩) d.size cap,.int .i64 a,.int .i64 m,.int .i64 b,.func (.func g) #[] cb] w fun e w'=>e=.returned (.tuple #[])∧RW (sym (dp cf) (f+1) a m b d) w':=by
 have mixed:Tryz.prog.follows .mixedOrders=true:=by kernel_rfl
 have eg:=L.eg
 have S0:Aside (RW d w):=S
 have LL:Aside (kP g cb cf bA off k enc RW):=L
 have IH:Aside _:=ih
 obtain ⟨mid,hmid⟩:∃ mid,mid=(a+b) / 2:=⟨_,rfl⟩
 obtain ⟨lo,hi,hlh⟩:∃ lo hi,(mid<m∧lo=mid+m-b∧hi=mid)∨(¬ mid<m∧lo=a∧hi=m):=by
  by_cases h:mid<m
  ·exact ⟨_,_,.inl ⟨h,rfl,rfl⟩⟩
  ·exact ⟨_,_,.inr ⟨h,rfl,rfl⟩⟩
 have hms:=Ck (dp cf) a m b d mid lo hi hmid hlh
 obtain ⟨s,hs⟩:∃ s,s=mstart (dp cf) a m b d:=⟨_,rfl⟩
 have hle:lo≤hi:=by omega
 have hsr:lo≤s∧s≤hi:=by rw [hs,hms];exact sC _ _ _ _ hle
 obtain ⟨e,he⟩:∃ e,e=mid+m-s:=⟨_,rfl⟩
 have HSY:Hid (sym (dp cf) (f+1) a m b d=if mid<e∧e<b then sym (dp cf) f mid e b (if a<s∧s<mid then sym (dp cf) f a s mid (if s<m∧m<e then mE m (e-s) (m-s) (e-m) d else d) else (if s<m∧m<e then mE m (e-s) (m-s) (e-m) d else d)) else (if a<s∧s<mid then sym (dp cf) f a s mid (if s<m∧m<e then mE m (e-s) (m-s) (e-m) d else d) else (if s<m∧m<e then mE m (e-s) (m-s) (e-m) d else d))):=by
  show _=_
  rw [sym,if_neg hma,if_neg hbm]
  simp only [← hmid,← hs,← he]
 rw [hms] at hs
 have HS:=Lib.hid hs
 have HE:=Lib.hid he
 have HM:=Lib.hid hmid
 have HL:=Lib.hid hlh
 have eone:((m:Int)-(a:Int)==1)=false:=beq_eq_false_iff_ne.2 (by omega)
 have eone':((b:Int)-(m:Int)==1)=false:=beq_eq_false_iff_ne.2 (by omega)
 have hmidz:((a:Int)+(b:Int)) / 2=(mid:Int):=by omega
 have hez:(mid:Int)+(m:Int)-(s:Int)=(e:Int):=by omega
 have HSR:=Lib.hid hsr
 clear S L ih hmid hms hs he hma hbm hlh hsr
 go_enter Tryz.func225,Tryz.ntmps225
 go_upto_if 140 with fail
 go_cut [20,21] from 22 (fun s50 s921 wc=>s50=.int .i64 lo∧s921=.int .i64 hi∧Aside (RW d wc))
 case first =>
  by_cases hgt:mid<m
  ·have hgz:(mid:Int)<(m:Int):=by omega
   have e1:lo=mid+m-b∧hi=mid:=by have:=HL.out;omega
   have e2:(mid:Int)+(m:Int)-(b:Int)=(lo:Int):=by have:=HM.out;omega
   have e3:mid=hi:=e1.2.symm
   have E2:=Lib.hid e2
   have E3:=Lib.hid e3
   clear e1 e2 e3
   go_wp2_with fail
   go_meet
   case rel=>exact ⟨by rw [E2.out],by rw [← E3.out],S0⟩
  ·have hgz:¬ (mid:Int)<(m:Int):=by omega
   have e1:lo=a∧hi=m:=by have:=HL.out;omega
   have E1:=Lib.hid e1
   clear e1
   go_wp2_with fail
   go_meet
   case rel=>exact ⟨by rw [E1.out.1],by rw [E1.out.2],S0⟩
 case rest =>
  clear S0
  obtain ⟨rfl,rfl,S0⟩:=hcut
  go_wp2
  go_loopg [20,21] (hi-lo+1) (fun kx s50 s921 wr=>∃ (i j f':Nat),s50=.int .i64 i∧s921=.int .i64 j∧i≤j∧lo≤i∧j≤hi∧j-i≤f'∧kx=f'+1∧Aside (RW d wr)∧Hid (nA (fun c => !dp cf d[mid+m-1-c]! d[c]!) f' i j=s))
  case atStart=>exact ⟨lo,hi,hi-lo,rfl,rfl,hle,Nat.le_refl _,Nat.le_refl _,Nat.le_refl _,rfl,S0,HS.out.symm⟩
  case round =>
   clear S0
   obtain ⟨i,j,f',rfl,rfl,hij,hi1,hj,hf,rfl,S1,HB⟩:=hrel
   by_cases hlt:i<j
   ·have hltz:(i:Int)<(j:Int):=by omega
    obtain ⟨f',rfl⟩:∃ f2,f'=f2+1:=⟨f' - 1,by omega⟩
    obtain ⟨h,hh⟩:∃ h,h=(i+j) / 2:=⟨_,rfl⟩
    have hhz:((i:Int)+(j:Int)) / 2=(h:Int):=by omega
    obtain ⟨q,hq⟩:∃ q,q=mid+m-1-h:=⟨_,rfl⟩
    have hqr:(mid:Int)+(m:Int)-1-(h:Int)=(q:Int)∧q<b:=by have:=HL.out;have:=HM.out;omega
    have hqz:=hqr.1
    have HB2:=HB.out
    rw [nA,if_pos hlt,← hh,← hq] at HB2
    have hA:h<d.size:=by have:=HL.out;have:=HM.out;omega
    have hB:q<d.size:=by omega
    have hAz:(h:Int)<(d.size:Int):=by omega
    have hBz:(q:Int)<(d.size:Int):=by omega
    have hwq:IntKind.i64.wrap (q:Int)=(q:Int):=by rw [IntKind.wrap_i64];omega
    obtain ⟨xj,hxj⟩:∃ x,d[h]! = x:=⟨_,rfl⟩
    obtain ⟨xp,hxp⟩:∃ x,d[q]! = x:=⟨_,rfl⟩
    have lj:∀ p:xU RW d,Sem.run Tryz.prog (loadCellsFrom ⟨bA,off+h * k,none⟩ 0 k #[]) p.W=.ok (enc xj).toArray p.W:=fun p=>by rw [← hxj];exact LL.out.load p.h _ hA
    have lp:∀ p:xU RW d,Sem.run Tryz.prog (loadCellsFrom ⟨bA,off+q * k,none⟩ 0 k #[]) p.W=.ok (enc xp).toArray p.W:=fun p=>by rw [← hxp];exact LL.out.load p.h _ hB
    have hcg:∀ p:xU RW d,Calls Tryz.prog g (#[.agg (enc xp).toArray,.agg (enc xj).toArray]++cb) p.W fun e w'=>e=.returned (.int .i64 (cf xp xj))∧∃ p':xU RW d,w'=p'.W:=fun p=>(LL.out.cmp p.h xp xj).mono fun e w' ⟨h1,h2⟩=>⟨h1,⟨w',h2⟩,rfl⟩
    have hdr:RW d wr.drew:=LL.out.drew S1.out
    have HH:Hid (h=(i+j) / 2):=hh
    have HQ:Hid (q=mid+m-1-h):=hq
    have hc0:dp cf d[q]! d[h]! = decide (cf xp xj<0):=by rw [hxj,hxp];rfl
    rw [hc0] at HB2
    clear S1 hh hq hqr HB hxj hxp hc0
    by_cases hlv:cf xp xj<0
    ·simp only [hlv,decide_true,Bool.not_true,cond_false] at HB2
     have HB3:Hid (nA (fun c => !dp cf d[mid+m-1-c]! d[c]!) f' i h=s):=HB2
     clear HB2
     go_wp2_with fail
     refine db mixed (by kernel_rfl) hdr ?_
     repeat (quiet_step (first | with_reducible rfl | (go_at_fn g;exact hcg _)))
     refine wpQuiet_nil ?_
     intro wq hw'
     obtain ⟨⟨wx,hq⟩,hw''⟩:=hw'
     subst hw''
     have S3:Aside (RW d wq):=hq
     clear lj lp hcg hdr hq
     go_wp2
     go_roundg (f'+1)
     case measure=>omega
     case rel =>
      have:=HH.out
      exact ⟨i,h,f',rfl,rfl,by omega,by omega,by omega,by omega,rfl,S3,HB3.out⟩
    ·simp only [hlv,decide_false,Bool.not_false,cond_true] at HB2
     have hlw:decide (cf xp xj<0)=false:=decide_eq_false hlv
     have HB3:Hid (nA (fun c => !dp cf d[mid+m-1-c]! d[c]!) f' (h+1) j=s):=HB2
     clear HB2
     go_wp2_with fail
     refine db mixed (by kernel_rfl) hdr ?_
     repeat (quiet_step (first | with_reducible rfl | (go_at_fn g;exact hcg _)))
     refine wpQuiet_nil ?_
     intro wq hw'
     obtain ⟨⟨wx,hq⟩,hw''⟩:=hw'
     subst hw''
     have S3:Aside (RW d wq):=hq
     clear lj lp hcg hdr hq
     go_wp2
     go_roundg (f'+1)
     case measure=>omega
     case rel =>
      have:=HH.out
      exact ⟨h+1,j,f',by go_num,rfl,by omega,by omega,hj,by omega,rfl,S3,HB3.out⟩
   ·have hltz:¬ (i:Int)<(j:Int):=by omega
    have hir:i=s:=by
     have:=HB.out
     cases f' with
     | zero=>exact this
     | succ f'=>rw [nA,if_neg hlt] at this;exact this
    subst hir
    clear HB
    have LLL:Hid (a≤i∧i≤m∧i≤mid∧mid+m≤b+i∧a<mid∧mid<b):=by have:=HL.out;have:=HM.out;have:=HSR.out;show _∧_;omega
    by_cases h1:i<m
    ·by_cases h2:i<mid
     ·by_cases h3:a<i
      ·by_cases h4:e<b
       ·have Z:=LLL.out
        have ZE:=HE.out
        have z1:(i:Int)<(m:Int):=by have:=HE.out;have:=LLL.out;omega
        have z2:(m:Int)<(e:Int):=by have:=HE.out;have:=LLL.out;omega
        have z3:(a:Int)<(i:Int):=by have:=HE.out;have:=LLL.out;omega
        have z4:(i:Int)<(mid:Int):=by have:=HE.out;have:=LLL.out;omega
        have z5:(mid:Int)<(e:Int):=by have:=HE.out;have:=LLL.out;omega
        have z6:(e:Int)<(b:Int):=by have:=HE.out;have:=LLL.out;omega
        have y1:(i<m∧m<e):=by omega
        have y2:(a<i∧i<mid):=by omega
        have y3:(mid<e∧e<b):=by omega
        have HSY2:=HSY.out
        rw [if_pos y3,if_pos y2,if_pos y1] at HSY2
        have HSY3:=Lib.hid HSY2
        clear HSY2
        have hc1:=Cv LL.out aE zE cap i m e d wr S1.out (by omega) (by omega) (by omega) hsz
        have hz1:(mE m (e-i) (m-i) (e-m) d).size=d.size:=(Kz.pg _ _ _ _ _).size.trans rfl
        have hc2:∀ W,Aside (RW (mE m (e-i) (m-i) (e-m) d) W)→_:=fun W HW=>IH.out a i mid (mE m (e-i) (m-i) (e-m) d) W (by omega) hz1 HW.out (by omega) (by omega) (by omega)
        have hz2:(sym (dp cf) f a i mid (mE m (e-i) (m-i) (e-m) d)).size=d.size:=(Kz.qk _ _ _ _ _ _).size.trans hz1
        have hc3:∀ W,Aside (RW (sym (dp cf) f a i mid (mE m (e-i) (m-i) (e-m) d)) W)→_:=fun W HW=>IH.out mid e b (sym (dp cf) f a i mid (mE m (e-i) (m-i) (e-m) d)) W (by omega) hz2 HW.out (by omega) (by omega) (by omega)
        have HC2:=Lib.hid hc2
        have HC3:=Lib.hid hc3
        clear Z ZE y1 y2 y3 S1 hc2 hc3 hz1 hz2
        go_wp2_with fail
        refine hc1.mono ?_
        rintro e1 w1 ⟨rfl,T1⟩
        have U1:Aside _:=T1
        clear T1 hc1
        go_wp2_with fail
        refine (HC2.out _ U1).mono ?_
        rintro e2 w2 ⟨rfl,T2⟩
        have U2:Aside _:=T2
        clear T2 U1
        go_wp2_with fail
        refine (HC3.out _ U2).mono ?_
        rintro e3 w3 ⟨rfl,T3⟩
        have U3:Aside _:=T3
        clear T3 U2
        go_wp2
        go_end0
        exact ⟨rfl,by rw [HSY3.out];exact U3.out⟩
       ·have Z:=LLL.out
        have ZE:=HE.out
        have z1:(i:Int)<(m:Int):=by have:=HE.out;have:=LLL.out;omega
        have z2:(m:Int)<(e:Int):=by have:=HE.out;have:=LLL.out;omega
        have z3:(a:Int)<(i:Int):=by have:=HE.out;have:=LLL.out;omega
        have z4:(i:Int)<(mid:Int):=by have:=HE.out;have:=LLL.out;omega
        have z5:(mid:Int)<(e:Int):=by have:=HE.out;have:=LLL.out;omega
        have z6:¬ (e:Int)<(b:Int):=by have:=HE.out;have:=LLL.out;omega
        have y1:(i<m∧m<e):=by omega
        have y2:(a<i∧i<mid):=by omega
        have y3:¬ (mid<e∧e<b):=by omega
        have HSY2:=HSY.out
        rw [if_neg y3,if_pos y2,if_pos y1] at HSY2
        have HSY3:=Lib.hid HSY2
        clear HSY2
        have hc1:=Cv LL.out aE zE cap i m e d wr S1.out (by omega) (by omega) (by omega) hsz
        have hz1:(mE m (e-i) (m-i) (e-m) d).size=d.size:=(Kz.pg _ _ _ _ _).size.trans rfl
        have hc2:∀ W,Aside (RW (mE m (e-i) (m-i) (e-m) d) W)→_:=fun W HW=>IH.out a i mid (mE m (e-i) (m-i) (e-m) d) W (by omega) hz1 HW.out (by omega) (by omega) (by omega)
        have HC2:=Lib.hid hc2
        clear Z ZE y1 y2 y3 S1 hc2 hz1
        go_wp2_with fail
        refine hc1.mono ?_
        rintro e1 w1 ⟨rfl,T1⟩
        have U1:Aside _:=T1
        clear T1 hc1
        go_wp2_with fail
        refine (HC2.out _ U1).mono ?_
        rintro e2 w2 ⟨rfl,T2⟩
        have U2:Aside _:=T2
        clear T2 U1
        go_wp2
        go_end0
        exact ⟨rfl,by rw [HSY3.out];exact U2.out⟩
      ·by_cases h4:e<b
       ·have Z:=LLL.out
        have ZE:=HE.out
        have z1:(i:Int)<(m:Int):=by have:=HE.out;have:=LLL.out;omega
        have z2:(m:Int)<(e:Int):=by have:=HE.out;have:=LLL.out;omega
        have z3:¬ (a:Int)<(i:Int):=by have:=HE.out;have:=LLL.out;omega
        have z4:(i:Int)<(mid:Int):=by have:=HE.out;have:=LLL.out;omega
        have z5:(mid:Int)<(e:Int):=by have:=HE.out;have:=LLL.out;omega
        have z6:(e:Int)<(b:Int):=by have:=HE.out;have:=LLL.out;omega
        have y1:(i<m∧m<e):=by omega
        have y2:¬ (a<i∧i<mid):=by omega
        have y3:(mid<e∧e<b):=by omega
        have HSY2:=HSY.out
        rw [if_pos y3,if_neg y2,if_pos y1] at HSY2
        have HSY3:=Lib.hid HSY2
        clear HSY2
        have hc1:=Cv LL.out aE zE cap i m e d wr S1.out (by omega) (by omega) (by omega) hsz
        have hz1:(mE m (e-i) (m-i) (e-m) d).size=d.size:=(Kz.pg _ _ _ _ _).size.trans rfl
        have hc2:∀ W,Aside (RW (mE m (e-i) (m-i) (e-m) d) W)→_:=fun W HW=>IH.out mid e b (mE m (e-i) (m-i) (e-m) d) W (by omega) hz1 HW.out (by omega) (by omega) (by omega)
        have HC2:=Lib.hid hc2
        clear Z ZE y1 y2 y3 S1 hc2 hz1
        go_wp2_with fail
        refine hc1.mono ?_
        rintro e1 w1 ⟨rfl,T1⟩
        have U1:Aside _:=T1
        clear T1 hc1
        go_wp2_with fail
        refine (HC2.out _ U1).mono ?_
        rintro e2 w2 ⟨rfl,T2⟩
        have U2:Aside _:=T2
        clear T2 U1
        go_wp2
        go_end0
        exact ⟨rfl,by rw [HSY3.out];exact U2.out⟩
       ·have Z:=LLL.out
        have ZE:=HE.out
        have z1:(i:Int)<(m:Int):=by have:=HE.out;have:=LLL.out;omega
        have z2:(m:Int)<(e:Int):=by have:=HE.out;have:=LLL.out;omega
        have z3:¬ (a:Int)<(i:Int):=by have:=HE.out;have:=LLL.out;omega
        have z4:(i:Int)<(mid:Int):=by have:=HE.out;have:=LLL.out;omega
        have z5:(mid:Int)<(e:Int):=by have:=HE.out;have:=LLL.out;omega
        have z6:¬ (e:Int)<(b:Int):=by have:=HE.out;have:=LLL.out;omega
        have y1:(i<m∧m<e):=by omega
        have y2:¬ (a<i∧i<mid):=by omega
        have y3:¬ (mid<e∧e<b):=by omega
        have HSY2:=HSY.out
        rw [if_neg y3,if_neg y2,if_pos y1] at HSY2
        have HSY3:=Lib.hid HSY2
        clear HSY2
        have hc1:=Cv LL.out aE zE cap i m e d wr S1.out (by omega) (by omega) (by omega) hsz
        clear Z ZE y1 y2 y3 S1
        go_wp2_with fail
        refine hc1.mono ?_
        rintro e1 w1 ⟨rfl,T1⟩
        have U1:Aside _:=T1
        clear T1 hc1
        go_wp2
        go_end0
        exact ⟨rfl,by rw [HSY3.out];exact U1.out⟩
     ·by_cases h3:a<i
      ·by_cases h4:e<b
       ·have Z:=LLL.out
        have ZE:=HE.out
        have z1:(i:Int)<(m:Int):=by have:=HE.out;have:=LLL.out;omega
        have z2:¬ (m:Int)<(e:Int):=by have:=HE.out;have:=LLL.out;omega
        have z3:(a:Int)<(i:Int):=by have:=HE.out;have:=LLL.out;omega
        have z4:¬ (i:Int)<(mid:Int):=by have:=HE.out;have:=LLL.out;omega
        have z5:(mid:Int)<(e:Int):=by have:=HE.out;have:=LLL.out;omega
        have z6:(e:Int)<(b:Int):=by have:=HE.out;have:=LLL.out;omega
        have y1:¬ (i<m∧m<e):=by omega
        have y2:¬ (a<i∧i<mid):=by omega
        have y3:(mid<e∧e<b):=by omega
        have HSY2:=HSY.out
        rw [if_pos y3,if_neg y2,if_neg y1] at HSY2
        have HSY3:=Lib.hid HSY2
        clear HSY2
        have hc1:=IH.out mid e b d wr (by omega) rfl S1.out (by omega) (by omega) (by omega)
        clear Z ZE y1 y2 y3 S1
        go_wp2_with fail
        refine hc1.mono ?_
        rintro e1 w1 ⟨rfl,T1⟩
        have U1:Aside _:=T1
        clear T1 hc1
        go_wp2
        go_end0
        exact ⟨rfl,by rw [HSY3.out];exact U1.out⟩
       ·exfalso;have:=LLL.out;have:=HE.out;have:=HM.out;omega
      ·exfalso;have:=LLL.out;have:=HE.out;have:=HM.out;omega
    ·by_cases h2:i<mid
     ·by_cases h3:a<i
      ·by_cases h4:e<b
       ·have Z:=LLL.out
        have ZE:=HE.out
        have z1:¬ (i:Int)<(m:Int):=by have:=HE.out;have:=LLL.out;omega
        have z2:(m:Int)<(e:Int):=by have:=HE.out;have:=LLL.out;omega
        have z3:(a:Int)<(i:Int):=by have:=HE.out;have:=LLL.out;omega
        have z4:(i:Int)<(mid:Int):=by have:=HE.out;have:=LLL.out;omega
        have z5:¬ (mid:Int)<(e:Int):=by have:=HE.out;have:=LLL.out;omega
        have z6:(e:Int)<(b:Int):=by have:=HE.out;have:=LLL.out;omega
        have y1:¬ (i<m∧m<e):=by omega
        have y2:(a<i∧i<mid):=by omega
        have y3:¬ (mid<e∧e<b):=by omega
        have HSY2:=HSY.out
        rw [if_neg y3,if_pos y2,if_neg y1] at HSY2
        have HSY3:=Lib.hid HSY2
        clear HSY2
        have hc1:=IH.out a i mid d wr (by omega) rfl S1.out (by omega) (by omega) (by omega)
        clear Z ZE y1 y2 y3 S1
        go_wp2_with fail
        refine hc1.mono ?_
        rintro e1 w1 ⟨rfl,T1⟩
        have U1:Aside _:=T1
        clear T1 hc1
        go_wp2
        go_end0
        exact ⟨rfl,by rw [HSY3.out];exact U1.out⟩
       ·exfalso;have:=LLL.out;have:=HE.out;have:=HM.out;omega
      ·exfalso;have:=LLL.out;have:=HE.out;have:=HM.out;omega
     ·by_cases h3:a<i
      ·by_cases h4:e<b
       ·have Z:=LLL.out
        have ZE:=HE.out
        have z1:¬ (i:Int)<(m:Int):=by have:=HE.out;have:=LLL.out;omega
        have z2:¬ (m:Int)<(e:Int):=by have:=HE.out;have:=LLL.out;omega
        have z3:(a:Int)<(i:Int):=by have:=HE.out;have:=LLL.out;omega
        have z4:¬ (i:Int)<(mid:Int):=by have:=HE.out;have:=LLL.out;omega
        have z5:¬ (mid:Int)<(e:Int):=by have:=HE.out;have:=LLL.out;omega
        have z6:(e:Int)<(b:Int):=by have:=HE.out;have:=LLL.out;omega
        have y1:¬ (i<m∧m<e):=by omega
        have y2:¬ (a<i∧i<mid):=by omega
        have y3:¬ (mid<e∧e<b):=by omega
        have HSY2:=HSY.out
        rw [if_neg y3,if_neg y2,if_neg y1] at HSY2
        have HSY3:=Lib.hid HSY2
        clear HSY2
        clear Z ZE y1 y2 y3
        go_wp2
        go_end0
        exact ⟨rfl,by rw [HSY3.out];exact S1.out⟩
       ·exfalso;have:=LLL.out;have:=HE.out;have:=HM.out;omega
      ·exfalso;have:=LLL.out;have:=HE.out;have:=HM.out;omega
theorem HV {g:Nat} {cb:Array Value} {cf:Mv→Mv→Int} {bA off k:Nat} {enc:Mv→List Value} {RW:Array Mv→World→Prop} (L:kP g cb cf bA off k enc RW) (aE:∀ w,(isAgg 47).run Tryz.prog w=.ok true w) (zE:∀ w,(Go.sizeOf 47).run Tryz.prog w=.ok k w)
  (cap N:Nat) (hsz:N<4611686018427387904):∀ (f a m b:Nat) (d:Array Mv) (w:World),b-a≤f→d.size=N→RW d w→a<m→m<b→b≤N →
  Calls Tryz.prog 225 #[.slice (some ⟨bA,off,none⟩) N cap,.int .i64 a,.int .i64 m,.int .i64 b,.func (.func g) #[] cb] w fun e w'=>e=.returned (.tuple #[])∧RW (sym (dp cf) f a m b d) w'
 | 0,a,m,b,d,w,h,_,_,h1,h2,_=>by omega
 | f+1,a,m,b,d,w,h,hd,S,h1,h2,h3=>by
  subst hd
  by_cases c1:m-a=1
  ·rw [sym,if_pos c1]
   exact Ui L aE zE cap a m b d w S c1 h2 h3 hsz
  ·by_cases c2:b-m=1
   ·rw [sym,if_neg c1,if_pos c2]
    exact SN L aE zE cap a m b d w S h1 c1 c2 h3 hsz
   ·exact Tb L aE zE cap a m b f d w S h1 h2 c1 c2 h3 hsz (fun a' m' b' d' w' k1 k2 k3 k4 k5 k6=>HV L aE zE cap d.size hsz f a' m' b' d' w' (by omega) k2 k3 k4 k5 k6)
set_option maxHeartbeats 8000000 in
set_option maxRecDepth 1000000 in
theorem Rl {g:Nat} {cb:Array Value} {cf:Mv→Mv→Int} {bA off k:Nat} {enc:Mv→List Value} {RW:Array Mv→World→Prop} (L:kP g cb cf bA off k enc RW) (aE:∀ w,(isAgg 47).run Tryz.prog w=.ok true w) (zE:∀ w,(Go.sizeOf 47).run Tryz.prog w=.ok k w)
  (cap n:Nat) (d:Array Mv) (w:World) (hn:d.size=n) (S:RW d w) (hsz:n<1152921504606846976) :
  Calls Tryz.prog 170 #[.slice (some ⟨bA,off,none⟩) n cap,.int .i64 n,.func (.func g) #[] cb] w fun e w'=>e=.returned (.tuple #[])∧RW (qR (dp cf) d) w':=by
 have S0:Aside (RW d w):=S
 have LL:Aside (kP g cb cf bA off k enc RW):=L
 have HST:Hid (qR (dp cf) d=gS (dp cf) n (n+1) 20 (oV (dp cf) n (n+1) 0 d)):=by subst hn;rfl
 have HN:=Lib.hid hn
 clear S L hn
 go_enter Tryz.func170,Tryz.ntmps170
 go_wp2
 go_loopg [7,8] (n+1) (fun kx s7 s8 wr=>∃ (q:Nat) (dk:Array Mv),s7=.int .i64 q∧s8=.int .i64 ((q:Int)+20)∧q≤n∧n-q<kx∧Aside (dk.size=n)∧Aside (RW dk wr)∧Hid (oV (dp cf) n kx q dk=oV (dp cf) n (n+1) 0 d))
 case atStart=>exact ⟨0,d,rfl,rfl,by omega,by omega,HN.out,S0,rfl⟩
 case round =>
  clear S0
  obtain ⟨q,dk,rfl,rfl,hq,hk,hds,S1,HE⟩:=hrel
  obtain ⟨f,rfl⟩:∃ f,gk=f+1:=⟨gk-1,by omega⟩
  by_cases c:q+20≤n
  ·have cz:(q:Int)+20≤(n:Int):=by omega
   have hc:=Ph LL.out aE zE cap q (q+20) dk wr S1.out (by omega) (by rw [hds.out];exact c) (by rw [hds.out];omega)
   rw [hds.out,show ((q+20:Nat):Int)=(q:Int)+20 by omega] at hc
   have HE2:Hid (oV (dp cf) n f (q+20) (ins (dp cf) q (q+20) dk)=oV (dp cf) n (n+1) 0 d):=by
    have:=HE.out
    rw [oV,if_pos c] at this
    exact this
   have hds2:Aside ((ins (dp cf) q (q+20) dk).size=n):=(Kz.xL _ _ _ dk).size.trans hds.out
   clear S1 HE
   go_wp2_with fail
   refine hc.mono ?_
   rintro e w1 ⟨rfl,S3⟩
   have S4:Aside _:=S3
   clear S3
   go_wp2
   go_roundg f
   case measure=>omega
   case rel=>exact ⟨q+20,ins (dp cf) q (q+20) dk,by congr 1,by congr 1,by omega,by omega,hds2,S4,HE2⟩
  ·have cz:¬ (q:Int)+20≤(n:Int):=by omega
   have hc:=Ph LL.out aE zE cap q n dk wr S1.out hq (by rw [hds.out];exact Nat.le_refl _) (by rw [hds.out];omega)
   rw [hds.out] at hc
   have hds2:Aside ((ins (dp cf) q n dk).size=n):=(Kz.xL _ _ _ dk).size.trans hds.out
   have HE2:ins (dp cf) q n dk=oV (dp cf) n (n+1) 0 d:=by
    have:=HE.out
    rw [oV,if_neg c] at this
    exact this
   rw [HE2] at hc hds2
   clear S1 HE HE2
   go_wp2_with fail
   refine hc.mono ?_
   rintro e w1 ⟨rfl,S3⟩
   have S4:Aside _:=S3
   clear S3 hc hds
   generalize hD1:oV (dp cf) n (n+1) 0 d=D1 at S4 hds2
   have HST2:Hid (qR (dp cf) d=gS (dp cf) n (n+1) 20 D1):=by have:=HST.out;rw [hD1] at this;exact this
   clear HST hD1
   go_wp2
   go_loopg [6] (n+1) (fun kx s6 wr=>∃ (s:Nat) (dk:Array Mv),s6=.int .i64 s∧1≤s∧n<s+kx∧s≤2 * n+20∧Aside (dk.size=n)∧Aside (RW dk wr)∧Hid (qR (dp cf) d=gS (dp cf) n kx s dk))
   case atStart=>exact ⟨20,D1,rfl,by omega,by omega,by omega,hds2,S4,HST2⟩
   case round =>
    clear S4 hds2 HST2
    obtain ⟨s,dk,rfl,hs1,hk2,hs2,hds,S1,HE⟩:=hrel
    by_cases c2:s<n
    ·have cz2:(s:Int)<(n:Int):=by omega
     obtain ⟨f2,rfl⟩:∃ f,gk=f+1:=⟨gk-1,by omega⟩
     have HE2:Hid (qR (dp cf) d=gS (dp cf) n f2 (2 * s) (pass (dp cf) n s (n+1) 0 dk)):=by
      have:=HE.out
      rw [gS,if_pos c2] at this
      exact this
     have hds3:Aside ((pass (dp cf) n s (n+1) 0 dk).size=n):=(Kz.xQ _ _ _ _ _ dk).size.trans hds.out
     clear HE
     generalize hD2:pass (dp cf) n s (n+1) 0 dk=D2 at HE2 hds3
     have HD2:Hid (pass (dp cf) n s (n+1) 0 dk=D2):=hD2
     clear hD2
     go_wp2
     go_loopg [7,8] (n+1) (fun kx s7 s8 wr=>∃ (q:Nat) (dj:Array Mv),s7=.int .i64 q∧s8=.int .i64 ((q:Int)+2 * (s:Int))∧q≤n∧n-q<kx∧Aside (dj.size=n)∧Aside (RW dj wr)∧Hid (pass (dp cf) n s kx q dj=D2))
     case atStart=>exact ⟨0,dk,rfl,by congr 1;omega,by omega,by omega,hds,S1,HD2⟩
     case round =>
      clear S1 HD2 hds
      obtain ⟨q,dj,rfl,rfl,hq,hk3,hds,S1,HE⟩:=hrel
      obtain ⟨f3,rfl⟩:∃ f,gk=f+1:=⟨gk-1,by omega⟩
      by_cases c3:q+2 * s≤n
      ·have cz3:(q:Int)+2 * (s:Int)≤(n:Int):=by omega
       have hc:=HV LL.out aE zE cap n (by omega) (n+1) q (q+s) (q+2 * s) dj wr (by omega) hds.out S1.out (by omega) (by omega) c3
       rw [show ((q+s:Nat):Int)=(q:Int)+(s:Int) by omega,show ((q+2 * s:Nat):Int)=(q:Int)+2 * (s:Int) by omega] at hc
       have HE3:Hid (pass (dp cf) n s f3 (q+2 * s) (sym (dp cf) (n+1) q (q+s) (q+2 * s) dj)=D2):=by
        have:=HE.out
        rw [pass,if_pos c3] at this
        exact this
       have hds4:Aside ((sym (dp cf) (n+1) q (q+s) (q+2 * s) dj).size=n):=(Kz.qk _ _ _ _ _ dj).size.trans hds.out
       clear S1 HE
       go_wp2_with fail
       refine hc.mono ?_
       rintro e w1 ⟨rfl,S3⟩
       have S4:Aside _:=S3
       clear S3
       go_wp2
       go_roundg f3
       case measure=>omega
       case rel=>exact ⟨q+2 * s,_,by congr 1,by congr 1,by omega,by omega,hds4,S4,HE3⟩
      ·have cz3:¬ (q:Int)+2 * (s:Int)≤(n:Int):=by omega
       by_cases c4:q+s<n
       ·have cz4:(q:Int)+(s:Int)<(n:Int):=by omega
        have hc:=HV LL.out aE zE cap n (by omega) (n+1) q (q+s) n dj wr (by omega) hds.out S1.out (by omega) (by omega) (by omega)
        rw [show ((q+s:Nat):Int)=(q:Int)+(s:Int) by omega] at hc
        have HE3:sym (dp cf) (n+1) q (q+s) n dj=D2:=by
         have:=HE.out
         rw [pass,if_neg c3,if_pos c4] at this
         exact this
        rw [HE3] at hc
        clear S1 HE HE3
        go_wp2_with fail
        refine hc.mono ?_
        rintro e w1 ⟨rfl,S3⟩
        have S4:Aside _:=S3
        clear S3
        go_wp2
        go_roundg f2
        case measure=>omega
        case rel=>exact ⟨2 * s,D2,by congr 1;omega,by omega,by omega,by omega,hds3,S4,HE2⟩
       ·have cz4:¬ (q:Int)+(s:Int)<(n:Int):=by omega
        have HE3:dj=D2:=by
         have:=HE.out
         rw [pass,if_neg c3,if_neg c4] at this
         exact this
        rw [HE3] at S1
        clear HE HE3
        go_wp2
        go_roundg f2
        case measure=>omega
        case rel=>exact ⟨2 * s,D2,by congr 1;omega,by omega,by omega,by omega,hds3,S1,HE2⟩
    ·have cz2:¬ (s:Int)<(n:Int):=by omega
     go_wp2
     go_end0
     refine ⟨rfl,?_⟩
     rw [HE.out]
     cases gk with
     | zero=>rw [gS];exact S1.out
     | succ f=>rw [gS,if_neg c2];exact S1.out
set_option maxHeartbeats 4000000 in
set_option maxRecDepth 1000000 in
theorem xc {g:Nat} {cb:Array Value} {cf:Mv→Mv→Int} {bA off k:Nat} {enc:Mv→List Value} {RW:Array Mv→World→Prop} (L:kP g cb cf bA off k enc RW) (aE:∀ w,(isAgg 47).run Tryz.prog w=.ok true w) (zE:∀ w,(Go.sizeOf 47).run Tryz.prog w=.ok k w)
  (cap n:Nat) (d:Array Mv) (w:World) (hn:d.size=n) (S:RW d w) (hsz:n<1152921504606846976) :
  Calls Tryz.prog 104 #[.slice (some ⟨bA,off,none⟩) n cap,.func (.func g) #[] cb] w fun e w'=>e=.returned (.tuple #[])∧RW (qR (dp cf) d) w':=by
 have hc:=Rl L aE zE cap n d w hn S hsz
 have HC:=Lib.hid hc
 clear hc L S hn
 go_enter Tryz.func104,Tryz.ntmps104
 go_wp2_with fail
 refine HC.out.mono ?_
 rintro e w1 ⟨rfl,S3⟩
 go_wp2
 go_end0
 exact ⟨rfl,S3⟩
end Go.Proofs
end
noncomputable section
namespace Kz
open Go Go.RowKit Go.Proofs
def ae9:KT:=[(171,9,[(0,[0]),(1,[2])])]
def af5:aw:=bO Pz ae9 [] [] []
theorem aai:aV af5:=ak aj trivial trivial trivial
def FA (a:Int):Bool:=(bif decide (a≥0) then (decide (a<64)) else (false))
def aad (a:Int):Bool:=true
theorem ag9 (a:Int) (h:aad a=true):PS Pz 171 [.int .i8 a] (dB.res (FA a)):=pq14 aai h
def abh:GT:=g1 (dI .i8) (fun a=>.ret (dB.res (FA a)))
theorem agD:Sound Pz 171 abh:=aF fun a=>bK (ag9 a rfl)
def afo:KT:=[(172,23,[(0,[1,2]),(1,[1,2,18]),(2,[4]),(3,[4])])]
def acB:aw:=bO Pz afo [(194,Ax)] [] []
theorem X3:aV acB:=ak aj ⟨Cb,trivial⟩ trivial trivial
def BR (a:Pos) (b:Int):Int:=(bif decide (b<0) then (0) else (bif decide (b≥64) then (0) else (bif !fS (a.ae.getD (scale 1 b).toNat 0) then (0) else (a.ae.getD (scale 1 b).toNat 0))))
def ux (a:Pos) (b:Int):Bool:=(bif decide (b<0) then true else (bif decide (b≥64) then true else (decide (0≤b)&&decide (b<Int.ofNat 64)&&(bif !fS (a.ae.getD (scale 1 b).toNat 0) then true else (decide (0≤b)&&decide (b<Int.ofNat 64)&&true)))))
theorem acx (a:Pos) (b:Int) (h:ux a b=true):PS Pz 172 [Pos.av a,.int .i8 b] ((dI .u8).res (BR a b)):=pq14 X3 h
def RC:GT:=g2 aY (dI .i8) (fun a b=>cg (ux a b) ((dI .u8).res (BR a b)))
theorem XZ:Sound Pz 172 RC:=aT fun a b=>ay (acx a b)
def ahS:KT:=[(106,66,[(0,[2,3]),(1,[2,3,29]),(2,[4]),(3,[2,3,5]),(4,[2,3,5,39]),(5,[4]),(6,[65]),(7,[4]),(8,[4])])]
def aht:aw:=bO Pz ahS [(135,iO),(139,ov),(173,M4),(171,abh),(172,RC)] [] []
theorem Zo:aV aht:=ak aj ⟨jo,pz,S5,agD,XZ,trivial⟩ trivial trivial
def jO (a:Pos) (b:Mv):Int:=(bif b.aW != 0 then (0) else (bif b.bS then (0) else (bif !FA b.az then (0) else (bif !FA b.to then (0) else (bif decide (a.aa>1) then (0) else (bif Cf (BR a b.to)==wr .u8 (1-a.aa) then (bu (BR a b.to)) else (bif b.to==a.ah then (bif BR a b.az==kI a.aa 1 then (bif b.az.tmod 8 != b.to.tmod 8 then (1) else (0)) else (0)) else (0))))))))
def vU (a:Pos) (b:Mv):Bool:=(bif b.aW != 0 then true else (bif b.bS then true else (bif !FA b.az then true else (bif !FA b.to then true else (bif decide (a.aa>1) then true else (ux (a) (b.to)&&(bif Cf (BR a b.to)==wr .u8 (1-a.aa) then true else (bif b.to==a.ah then (ux (a) (b.az)&&true) else true))))))))
theorem ai5 (a:Pos) (b:Mv) (h:vU a b=true):PS Pz 106 [Pos.av a,Mv.av b] ((dI .u8).res (jO a b)):=pq14 Zo h
def Xk:GT:=g2 aY qZ (fun a b=>cg (vU a b) ((dI .u8).res (jO a b)))
theorem aj0:Sound Pz 106 Xk:=aT fun a b=>ay (ai5 a b)
def ajn:KT:=[(174,6,[(0,[0]),(1,[2])])]
def acg:aw:=bO Pz ajn [] [] []
theorem ZX:aV acg:=ak aj trivial trivial trivial
def H5 (a:Int):Bool:=(a != a)
def YH (a:Int):Bool:=true
theorem ajC (a:Int) (h:YH a=true):PS Pz 174 [.int .u8 a] (dB.res (H5 a)):=pq14 ZX h
def aak:GT:=g1 (dI .u8) (fun a=>.ret (dB.res (H5 a)))
theorem ah1:Sound Pz 174 aak:=aF fun a=>bK (ajC a rfl)
def aiM:KT:=[(108,20,[(0,[0,1]),(1,[0,1,5]),(2,[0,1,5,6]),(3,[0,1,6,11]),(4,[12]),(5,[4]),(6,[4]),(7,[0,1,13]),(8,[4]),(9,[0,1,16]),(10,[4]),(11,[19]),(12,[4]),(13,[4])])]
def aho:aw:=bO Pz aiM [(174,aak)] [] []
theorem abo:aV aho:=ak aj ⟨ah1,trivial⟩ trivial trivial
def ll (a:Int) (b:Int):Int:=(bif H5 a then (bif H5 b then (0) else (-1)) else (bif H5 b then (1) else (bif decide (a<b) then (-1) else (bif decide (a>b) then (1) else (0)))))
def Ww (a:Int) (b:Int):Bool:=true
theorem ajk (a:Int) (b:Int) (h:Ww a b=true):PS Pz 108 [.int .u8 a,.int .u8 b] ((dI .i64).res (ll a b)):=pq14 abo h
def Wy:GT:=g2 (dI .u8) (dI .u8) (fun a b=>.ret ((dI .i64).res (ll a b)))
theorem ahK:Sound Pz 108 Wy:=aT fun a b=>bK (ajk a b rfl)
def ajb:KT:=[(109,15,[(0,[2,3]),(1,[2,3,7]),(2,[4]),(3,[4])])]
def aeT:aw:=bO Pz ajb [(135,iO),(172,RC)] [] []
theorem Wg:aV aeT:=ak aj ⟨jo,XZ,trivial⟩ trivial trivial
def Ai (a:Pos) (b:Mv):Int:=(bif b.aW != 0 then (b.aW) else (bu (BR a b.az)))
def mR (a:Pos) (b:Mv):Bool:=(bif b.aW != 0 then true else (ux (a) (b.az)&&true))
theorem aij (a:Pos) (b:Mv) (h:mR a b=true):PS Pz 109 [Pos.av a,Mv.av b] ((dI .u8).res (Ai a b)):=pq14 Wg h
def aav:GT:=g2 aY qZ (fun a b=>cg (mR a b) ((dI .u8).res (Ai a b)))
theorem agj:Sound Pz 109 aav:=aT fun a b=>ay (aij a b)

def afY:aw:=gN Pz (fun _ _=>[]) [(106,Xk),(108,Wy),(109,aav)] [] []
theorem Ya:aV afY:=ak aj ⟨aj0,ahK,agj,trivial⟩ trivial trivial
def Al (a:Mv) (b:Mv) (p:Pos):Int:=(bif ll (jO p b) (jO p a) != 0 then (bif ll (jO p b) (jO p a)==0 then (bif decide (jO p a>0) then (ll (Ai p a) (Ai p b)) else (ll (jO p b) (jO p a))) else (ll (jO p b) (jO p a))) else (bif ll b.bP a.bP != 0 then (bif ll b.bP a.bP==0 then (bif decide (jO p a>0) then (ll (Ai p a) (Ai p b)) else (ll b.bP a.bP)) else (ll b.bP a.bP)) else (bif decide (jO p a>0) then (ll (Ai p a) (Ai p b)) else (0))))
def GW (a:Mv) (b:Mv) (p:Pos):Bool:=(vU (p) (a)&&(vU (p) (b)&&(bif ll (jO p b) (jO p a) != 0 then (bif ll (jO p b) (jO p a)==0 then (bif decide (jO p a>0) then (mR (p) (a)&&(mR (p) (b)&&true)) else true) else true) else (bif ll b.bP a.bP != 0 then (bif ll b.bP a.bP==0 then (bif decide (jO p a>0) then (mR (p) (a)&&(mR (p) (b)&&true)) else true) else true) else (bif decide (jO p a>0) then (mR (p) (a)&&(mR (p) (b)&&true)) else true)))))
theorem adE (a:Mv) (b:Mv) (p:Pos) (h:GW a b p=true):PS Pz 105 [Mv.av a,Mv.av b,.ptrf (Pos.av p)] ((dI .i64).res (Al a b p)):=xg (n:=14) Ya (by kernel_rfl) (by kernel_rfl) (by kernel_rfl) h
theorem xA (p:Pos) (b:Int):ux p b=true:=by
 unfold ux
 by_cases h1:b<0
 ·rw [decide_eq_true h1];rfl
 ·by_cases h2:b≥64
  ·rw [decide_eq_false h1,decide_eq_true h2];rfl
  ·have h3:b<Int.ofNat 64:=by show b<64;omega
   rw [decide_eq_false h1,decide_eq_false h2,decide_eq_true h3,decide_eq_true (show 0≤b by omega)]
   cases (!fS (p.ae.getD (scale 1 b).toNat 0))<;>rfl
theorem CC (p:Pos) (m:Mv):vU p m=true:=by
 unfold vU
 rw [xA,xA]
 simp
theorem CG (p:Pos) (m:Mv):mR p m=true:=by
 unfold mR
 rw [xA]
 simp
theorem Nd (a b:Mv) (p:Pos):GW a b p=true:=by
 unfold GW
 rw [CC,CC,CG,CG]
 simp
theorem aja (a b:Mv) (p:Pos):bJ Pz 105 [Mv.av a,Mv.av b,.ptrf (Pos.av p)] (.int .i64 (Al a b p)):=(adE a b p (Nd a b p)).1
def JU:bT→Option (M'×Option Nat)
 | .ret (.list .mv m (.own k)) h=>some (m,h.al[k]?)
 | _=>none
def Sb:aw:=gN Pz (fun _ _=>[]) [] [] [(188,NH)]
theorem Zv:aV Sb:=ak aj trivial trivial ⟨Qx,trivial⟩
theorem aiP (l:M'):(Db Sb 14 103 [.vlist false [.list .mv l .arg]] o7).bind (fun r=>Tr.opt (JU r))=Tr.br (decide (wr IntKind.i64 (0+Int.ofNat l.length)<0)) Tr.fail (Tr.br (decide (0≤wr IntKind.i64 (0+Int.ofNat l.length))&&decide (wr IntKind.i64 (0+Int.ofNat l.length)≤Int.ofNat 1073741824)) (Tr.br (0==0&&decide (0+l.length≤1073741824)) (Tr.ret ([]++l,some l.length)) Tr.fail) Tr.fail):=by kernel_rfl
theorem IQ {w:World} (hglob:eY w):MR (c9 w) o7 w :=
 ⟨Nat.le_refl _,fun _ _ x=>x,rfl,fun _ _ _ x _=>by simp [c9] at x,fun _ _ _ x=>by simp [c9] at x,rfl,fun _ x=>by simp [c9] at x,fun _ _ _ _ x=>by simp [c9] at x,fun _ _ _ _ _ _ _ x=>by simp [c9] at x,rfl,fun _ _ _ x=>by simp [c9] at x,fun _ _ _ x=>by simp [c9] at x,fun _ x=>by simp [c9] at x,hglob⟩
theorem TT {n:Nat} (h:n≤oZ):decide (wr IntKind.i64 (0+Int.ofNat n)<0)=false∧(decide (0≤wr IntKind.i64 (0+Int.ofNat n))&&decide (wr IntKind.i64 (0+Int.ofNat n)≤Int.ofNat 1073741824))=true∧(0==0&&decide (0+n≤1073741824))=true:=by
 have hn:n≤1073741824:=h
 have e:wr IntKind.i64 (0+Int.ofNat n)=(n:Int):=by
  show wr IntKind.i64 (0+(n:Int))=_
  rw [Int.zero_add]
  exact IntKind.wrap_i64 _ |>.trans (by omega)
 rw [e]
 refine ⟨decide_eq_false (by omega),?_,?_⟩
 ·rw [decide_eq_true (by omega),decide_eq_true (show (n:Int)≤Int.ofNat 1073741824 by show (n:Int)≤1073741824;omega)];rfl
 ·rw [decide_eq_true (by omega)];rfl
theorem aaL (l:M') (hl:l.length≤oZ) (w:World) (hg:eY w) (v:Value) (hv:aL (c9 w) [] w (.vlist false [.list .mv l .arg]) v) :
  Calls Tryz.prog 103 #[v] w fun e w'=>∃ a cap,e=.returned (.slice a l.length cap)∧RowKit.Below w.heap.size w w' ∧
   ((a=none∧l=[])∨∃ b ty,a=some ⟨b,0,none⟩∧w.heap.size≤b∧b<w'.heap.size∧l.length≤cap∧cZ w' b cap ty l.toArray w'):=by
 obtain ⟨c1,c2,c3⟩:=TT hl
 have hget:((Db Sb 14 103 [.vlist false [.list .mv l .arg]] o7).bind (fun r=>Tr.opt (JU r))).get=some (l,some l.length):=by
  rw [aiP]
  simp only [gi,c1,c2,c3,cond_true,cond_false,ar,List.nil_append]
 simp only [get_bind,B',bH] at hget
 obtain ⟨r,h1,h2⟩:=hget
 obtain ⟨hspec,_⟩:=(qx Zv 14).1 _ _ _ _ h1
 unfold JU at h2
 split at h2
 ·rename_i m k h
  simp only [A',Prod.mk.injEq] at h2
  obtain ⟨hml,hk⟩:=h2
  have hml':l=m:=hml.symm
  clear hml
  subst m
  refine (callsIn_wide.1 (hspec (c9 w) w #[v] (IQ hg) (.cons hv .nil))).mono ?_
  rintro e w' ⟨g',x,rfl,nx,hx⟩
  have hbase:g'.base=w.heap.size:=nx.le.base
  cases hx with
  | list hn hE hS hT hC =>
  rename_i a n cap cs
  subst hn
  have hcs:=eU hE
  obtain ⟨n',hn1,hn2,hown⟩:=hT k rfl
  rw [hk] at hn1
  simp only [A'] at hn1
  obtain ⟨ow,how,hOI⟩:=hown hn1
  refine ⟨a,cap,rfl,nx.le.below,?_⟩
  cases ow with
  | none =>
   obtain ⟨ha,hlen,hcap⟩:=hOI
   exact .inl ⟨ha,List.eq_nil_of_length_eq_zero hlen⟩
  | some t =>
   obtain ⟨b,cap',z'⟩:=t
   obtain ⟨rfl,rfl,rfl⟩:=hOI
   obtain ⟨_,cells,ty,_,_,_,hb,hblk,hsz,_,_⟩:=nx.mr.tok k b cap (kF .mv) how
   refine .inr ⟨b,ty,rfl,by omega,aC hblk,hC,rfl,rfl,rfl,Nat.le_refl _,fun _ _ _=>rfl,cells,hblk,hsz.1,fun j c hj hc=>?_⟩
   have hj':j<l.length:=by simpa using hj
   have h1:j * 5+c<l.length * 5:=by have:=Nat.mul_le_mul_right 5 (show j+1≤l.length from hj');omega
   have hfl:=fI l j c hj' hc
   have ea:l.toArray[j]! = l[j]:=by simp [hj']
   have eb:l[j]! = l[j]:=by simp [hj']
   rw [ea]
   rw [eb] at hfl
   rcases hS with h0 | ⟨c',o',ha,hat,_⟩
   ·exfalso
    have:=dQ l
    rw [← hcs,h0] at this
    simp at this
    omega
   ·simp only [A',Addr.mk.injEq,and_true] at ha
    obtain ⟨rfl,rfl⟩:=ha
    have hx:cs[j * 5+c]?=(b9 l[j])[c]? := by rw [hcs];exact hfl
    obtain ⟨u,hu⟩:∃ u,(b9 l[j])[c]?=some u:=⟨_,I' (show c<(b9 l[j]).length from hc)⟩
    obtain ⟨k1,_⟩:=hat (j * 5+c) u (by rw [hx,hu])
    rw [aD hblk,Nat.zero_add] at k1
    rw [k1]
    simp [hu]
 ·cases h2
theorem globOk_at {w W:World} (hg:eY w) (hs:w.heap.size≤W.heap.size) (h:∀ k,k<w.heap.size→W.heap[k]?=w.heap[k]?):eY W:=by
 intro pr hpr
 obtain ⟨h1,h2⟩:=hg pr hpr
 refine ⟨fun hi=>?_,fun hi=>?_⟩
 ·obtain ⟨d,x,t,fr,e,f⟩:=h1 hi
  exact ⟨Nat.lt_of_lt_of_le d hs,x,t,fr,by rw [h _ d];exact e,f⟩
 ·obtain ⟨zs,a,b,c,d,t,fr,e⟩:=h2 hi
  have hlt:pr.1<w.heap.size:=d
  exact ⟨zs,a,b,fun j x hj=>⟨by rw [cQ (h _ hlt)];exact (c j x hj).1,Nat.lt_of_lt_of_le hlt hs⟩,Nat.lt_of_lt_of_le d hs,t,fr,by rw [h _ hlt];exact e⟩
end Kz
end
noncomputable section
namespace Go.Proofs
open Go.Shelf Go.RowKit Go.Lib Go.Sort Kz
def lD (w w':World) (a:Option Addr) (cap:Nat) (l:M'):Prop :=
 (a=none∧l=[]∧cap=0)∨∃ b ty,a=some ⟨b,0,none⟩∧w.heap.size≤b∧b<w'.heap.size∧l.length≤cap∧cap≤maxLen∧cZ w' b cap ty l.toArray w'
set_option maxHeartbeats 2000000 in
set_option maxRecDepth 100000 in
theorem Pj (p:Pos) (f2:Nat) (q:Mv→Bool) (l:M') (hll:l.length≤oZ) (hq:∀ m,bJ Tryz.prog 124 [Mv.av m,.ptrf (.func f2 [] [.ptrf (Pos.av p)])] (.bool (!q m))) (w:World) (bG:Array Value) (hg:eY w) (hr:aA (c9 w) [] w [.list .mv l .arg,.func f2 [] [.ptrf (Pos.av p)]] bG.toList) :
  Calls Tryz.prog 122 bG w fun e w'=>∃ a cap,e=.returned (.slice a (l.filter q).length cap)∧RowKit.Below w.heap.size w w'∧lD w w' a cap (l.filter q):=by
 obtain ⟨bG⟩:=bG
 cases hr with
 | cons q1 r1 =>
 cases r1 with
 | cons q2 r2 =>
 cases r2
 cases q2 with
 | func ha hb =>
 rename_i x y
 obtain ⟨x⟩:=x
 obtain ⟨y⟩:=y
 cases ha
 cases hb with
 | cons q3 r3 =>
 cases r3
 cases q3 with
 | ptrf hpc hpa =>
 rename_i pc po pcs
 cases q1 with
 | list hn hE hS hT hC =>
 rename_i a n cap cs
 subst hn
 have hcs:=eU hE
 obtain ⟨fv,hfv⟩:∃ fv:Value,fv=.func (.func f2) (Array.mk []) (Array.mk [.pointer (some ⟨pc,po,none⟩)]):=⟨_,rfl⟩
 rw [← hfv]
 have hpred:∀ (W:World) (u:Mv),w.heap.size+1≤W.heap.size→(∀ k,k<w.heap.size+1→W.heap[k]?=(w.alloc (.cells #[fv] 74)).heap[k]?) →
   Calls Tryz.prog 124 (#[.agg (b9 u).toArray]++#[.pointer (some ⟨w.heap.size,0,none⟩)]) W fun e w'=>e=.returned (.bool (!q u))∧RowKit.Below W.heap.size W w':=by
  intro W u hsz hsame
  have old:∀ k,k<w.heap.size→W.heap[k]?=w.heap[k]? := fun k hk=>by
   rw [hsame k (by omega)]
   exact ((Below.refl _ w).alloc (Nat.le_refl _) _).block k hk
  refine (callsIn_wide.1 (hq u W (#[.agg (b9 u).toArray]++#[.pointer (some ⟨w.heap.size,0,none⟩)]) ?_ ?_)).mono ?_
  ·exact globOk_at hg (by omega) old
  ·refine .cons (.agg (pZ _ _ _ u)) (.cons (.ptrf (cs:=[fv]) (.one rfl ?_ .nil) ?_) .nil)
   ·rw [hfv]
    refine .func .nil (.cons (.ptrf (jb hpc) ?_) .nil)
    intro j x hj
    obtain ⟨h1,h2⟩:=hpa j x hj
    have hlt:pc<w.heap.size:=h2
    exact ⟨by rw [cQ (old _ hlt)];exact h1,Nat.lt_of_lt_of_le hlt (by omega)⟩
   ·intro j x hj
    have hc:W.heap[w.heap.size]?=some (.cells #[fv] 74 (0,0)):=by
     rw [hsame _ (Nat.lt_succ_self _)];exact heap_alloc_new w _
    refine ⟨?_,show w.heap.size<W.heap.size by omega⟩
    rw [aD hc,Nat.zero_add]
    simpa using hj
  ·rintro e w' ⟨v,rfl,hb,hv⟩
   cases hv
   exact ⟨rfl,hb⟩
 subst hfv
 clear hpc hpa
 cases a with
 | none =>
  obtain rfl:l=[]:=by
   rcases hS with h | ⟨_,_,h,_⟩
   ·have:=dQ l
    rw [← hcs,h] at this
    exact List.eq_nil_of_length_eq_zero (by simp at this;omega)
   ·cases h
  have hc:=fun w=>AnyE.slices_Clone_nil Tryz.wR 0 cap w
  have hd:=Tz none 0 (.func (.func 124) #[] #[.pointer (some ⟨w.heap.size,0,none⟩)])
  clear hpred hS hcs hE hT
  go_enter Tryz.func122,Tryz.ntmps122
  go_wp2_with fail
  refine (hc _).mono ?_
  rintro e w' ⟨rfl,rfl⟩
  go_wp2_with fail
  refine (hd _).mono ?_
  rintro e w' ⟨rfl,rfl⟩
  go_wp2_with fail
  go_ret
  exact ⟨_,_,rfl,(Below.refl _ w).alloc (Nat.le_refl _) _,.inl ⟨rfl,rfl,rfl⟩⟩
 | some ad =>
  have hclone:Calls Tryz.prog 123 #[.slice (some ad) l.length cap] (w.alloc (.cells #[(.func (.func f2) (Array.mk []) (Array.mk [.pointer (some ⟨pc,po,none⟩)]))] 74)) fun e w'=>∃ v',e=.returned v'∧w'.ownsRow (w.alloc (.cells #[(.func (.func f2) (Array.mk []) (Array.mk [.pointer (some ⟨pc,po,none⟩)]))] 74)).heap.size 47 5 v' l.length (l.flatMap b9)∧v'≠.slice none 0 0∧RowKit.Below (w.alloc (.cells #[(.func (.func f2) (Array.mk []) (Array.mk [.pointer (some ⟨pc,po,none⟩)]))] 74)).heap.size (w.alloc (.cells #[(.func (.func f2) (Array.mk []) (Array.mk [.pointer (some ⟨pc,po,none⟩)]))] 74)) w':=by
   by_cases hl:l=[]
   ·subst hl
    exact K7 ad cap _
   ·obtain ⟨c,o,hadr,hat,_⟩:=hS.resolve_left (fun e0=>hl (by
     have:=dQ l
     rw [← hcs,e0] at this
     exact List.eq_nil_of_length_eq_zero (by simp at this;omega)))
    simp only [A'] at hadr
    subst hadr
    obtain ⟨i0,z,a1,a2,a3,a4,a5⟩:=rK
    refine AnyE.slices_Clone Tryz.wR i0 z 5 i0.bytes a1 a2 a3 rfl a4 (by omega) Tryz.sizeOf47 c o l.length cap (l.flatMap b9) _ (dQ l) ?_ ?_ ?_ (zz l)
    ·unfold oZ at hll;unfold maxLen;omega
    ·have:l.length * i0.bytes≤l.length * 131072:=Nat.mul_le_mul_left _ a5
     unfold oZ at hll
     omega
    ·intro j u hj
     rw [← hcs] at hj
     obtain ⟨h1,h2⟩:=hat j u hj
     have hlt:c<w.heap.size:=h2
     rw [cQ (((Below.refl _ w).alloc (Nat.le_refl _) _).block c hlt)]
     exact h1
  clear hS hcs hE hT
  have HP:=Lib.hid hpred
  clear hpred
  go_enter Tryz.func122,Tryz.ntmps122
  go_wp2_with fail
  refine hclone.mono ?_
  rintro e w2 ⟨v',rfl,hown,hne,hb⟩
  obtain ⟨hlen,⟨rfl,_⟩ | ⟨gb,cap',cur,rfl,hgb,hcur,hn',hmax,hsz,htake⟩⟩:=hown
  ·exact absurd rfl hne
  have hrow:cZ w2 gb cap' 47 l.toArray w2:=⟨rfl,rfl,rfl,Nat.le_refl _,fun _ _ _=>rfl,cur,hcur,hsz,fun j c hj hc=>by
   have hj':j<l.length:=by simpa using hj
   have h1:j * 5+c<l.length * 5:=by have:=Nat.mul_le_mul_right 5 (show j+1≤l.length from hj');omega
   rw [← Array.getElem?_toList,← List.getElem?_take_of_lt h1,htake,fI l j c hj' hc]
   congr 2
   rw [getElem!_pos l j hj',getElem!_pos l.toArray j hj]
   simp⟩
  have hdel:=WG (fun u => !q u) 124 #[.pointer (some ⟨w.heap.size,0,none⟩)] (fun _ _=>rfl) gb cap' l.toArray w2 (aC hcur) hrow (by simpa using hn') hmax (fun W dk u hW=>by
   have hs1:(w.alloc (.cells #[(.func (.func f2) (Array.mk []) (Array.mk [.pointer (some ⟨pc,po,none⟩)]))] 74)).heap.size=w.heap.size+1:=by simp
   refine HP.out W u (by have:=hb.size;have:=hW.size;omega) (fun k hk=>?_)
   rw [hW.other k (by have:=hb.size;omega) (by omega),hb.block k (by omega)])
  simp only [List.size_toArray,Bool.not_not] at hdel
  have HD:=Lib.hid hdel
  have HBW:=Lib.hid hb
  have HG:=Lib.hid hgb
  have HN:=Lib.hid hn'
  have HM:=Lib.hid hmax
  clear hdel HP hrow hb hgb hn' hcur hsz htake hlen hne hmax hclone
  go_wp2_with fail
  refine HD.out.mono ?_
  rintro e w3 ⟨rfl,hR⟩
  have HR:=Lib.hid hR
  clear hR
  go_wp2_with fail
  go_ret
  have hR:=HR.out
  have hb:=HBW.out
  have hgb:=HG.out
  have hs1:(w.alloc (.cells #[(.func (.func f2) (Array.mk []) (Array.mk [.pointer (some ⟨pc,po,none⟩)]))] 74)).heap.size=w.heap.size+1:=by simp
  have hw1:RowKit.Below w.heap.size w (w.alloc (.cells #[(.func (.func f2) (Array.mk []) (Array.mk [.pointer (some ⟨pc,po,none⟩)]))] 74)):=(Below.refl _ w).alloc (Nat.le_refl _) _
  have hbw:RowKit.Below w.heap.size w w3:=⟨hR.os.trans (hb.os.trans hw1.os),hR.tape.trans (hb.tape.trans hw1.tape),hR.output.trans (hb.output.trans hw1.output),by have:=hR.size;have:=hb.size;omega,fun k hk=>by
   rw [hR.other k (by have:=hb.size;omega) (by omega),hb.block k (by omega)]
   exact hw1.block k hk⟩
  have hfl:(l.filter q).length≤l.length:=List.length_filter_le _ _
  obtain ⟨cur,k1,k2,k3⟩:=hR.row
  exact ⟨_,_,rfl,hbw,.inr ⟨gb,47,rfl,by omega,aC k1,Nat.le_trans hfl HN.out,HM.out,rfl,rfl,rfl,Nat.le_refl _,fun _ _ _=>rfl,cur,k1,k2,k3⟩⟩
end Go.Proofs
namespace Kz
open Go Go.RowKit Go.Proofs
set_option maxRecDepth 100000
set_option maxHeartbeats 4000000
noncomputable section
variable {g:Gh} {h:Hp} {w:World}
theorem MR.newRow (m:MR g h w) {w':World} {b cap z n:Nat} {cells:Array Value} {ty:TypeId} (hb:RowKit.Below w.heap.size w w') (h1:w.heap.size≤b) (h2:w'.heap[b]?=some (.cells cells ty (0,0))) (h3:wG z cap cells.size ty) (h4:n≤cap) (h5:cap≤maxLen) :
  MR { g with fz:=fun c o=>g.fz c o∨(c=b∧o<n * yh z),own:=g.own++[some (b,cap,z)] } { h with al:=h.al++[n] } w' ∧
   Le g h.al w { g with fz:=fun c o=>g.fz c o∨(c=b∧o<n * yh z),own:=g.own++[some (b,cap,z)] } (h.al++[n]) w':=by
 obtain ⟨m1,l1⟩:=m.grow hb
 have l2:Le g h.al w' { g with fz:=fun c o=>g.fz c o∨(c=b∧o<n * yh z),own:=g.own++[some (b,cap,z)] } (h.al++[n]) w' :=
  ⟨rfl,Below.refl _ _,fun _ _ x=>.inl x,fun _ _ _ _ x=>x,fun _ _ x=>x,fun _ _ x=>x,fun _ x=>x,fun k q x=>⟨q,by
   rw [List.getElem?_append_left (C'.1 x).1];exact x,Nat.le_refl _,fun _=>by
   have:=(C'.1 x).1
   simp only
   rw [List.getElem?_append_left (by rw [m.dC];exact this)]⟩,fun _ _ _=>rfl⟩
 have hle:=l1.trans l2
 have old:∀ {c:Nat} {o:Obj},w.heap[c]?=some o→c≠b:=fun x e=>by have:=aC x;omega
 have new:∀ (k:Nat) x,(g.own++[some (b,cap,z)])[k]?=some x→g.own[k]?=some x∨(k=g.own.length∧x=some (b,cap,z)):=by
  intro i c' x
  rcases Nat.lt_or_ge i g.own.length with h' | h'
  ·rw [List.getElem?_append_left h'] at x;exact .inl x
  ·rw [List.getElem?_append_right h'] at x
   obtain ⟨a,b⟩:=C'.1 x
   simp at a b
   exact .inr ⟨by omega,b.symm⟩
 have tokOld:∀ (k:Nat) x,h.al[k]?=some x→(h.al++[n])[k]?=some x:=fun k x hx=>by
  rw [List.getElem?_append_left (C'.1 hx).1];exact hx
 refine ⟨⟨m1.base,fun c o x=>?_,m1.du,fun i c l k1 k2=>?_,m1.uF,by simp [m.dC],fun k k1=>?_,fun k b' cap' z' k1=>?_,fun k k' b' c1 z1 c2 z2 k1 k2=>?_,m1.fZ,fun l c r k1 k2=>?_,m1.uH,m1.defs,fun p hp=>(m.gX p hp).mono hle⟩,hle⟩
 ·rcases x with x | ⟨rfl,_⟩
  ·exact m1.fa c o x
  ·exact aC h2
 ·obtain ⟨a,f,cs,d',e⟩:=m1.var i c l k1 k2
  obtain ⟨_,_,_,d0,_⟩:=m.var i c l k1 k2
  refine ⟨a,fun o x=>?_,cs,d',e.mono l2⟩
  rcases x with x | ⟨x,_⟩
  ·exact f o x
  ·exact old d0 x
 ·rcases new k _ k1 with a | ⟨_,e⟩
  ·obtain ⟨n',hn'⟩:=m.jl k a
   exact ⟨n',tokOld _ _ hn'⟩
  ·cases e
 ·rcases new k _ k1 with a | ⟨e1,e2⟩
  ·obtain ⟨q,cs,t,a1,a2,a3,a4,a5,a6,a7,a8⟩:=m1.tok k b' cap' z' a
   obtain ⟨_,_,_,_,_,_,_,d0,_⟩:=m.tok k b' cap' z' a
   refine ⟨q,cs,t,tokOld _ _ a1,a2,a3,a4,a5,a6,fun o x=>?_,a8⟩
   rcases x with x | ⟨x,_⟩
   ·exact a7 o x
   ·exact absurd x (old d0)
  ·simp only [A',Prod.mk.injEq] at e2
   obtain ⟨rfl,rfl,rfl⟩:=e2
   refine ⟨n,cells,ty,?_,h4,h5,Nat.le_trans m.base h1,h2,h3,fun o x=>?_,fun hv=>?_⟩
   ·show (h.al++[n])[k]?=_
    rw [e1,m.dC];simp
   ·rcases x with x | ⟨_,x⟩
    ·have:=m.fa _ _ x;omega
    ·exact x
   ·obtain ⟨i,hi⟩:=List.getElem?_of_mem hv
    have hi':=(C'.1 hi).1
    obtain ⟨_,_,_,d,_⟩:=m.var i _ _ hi (I' (by rw [← m.du];exact hi'))
    exact absurd rfl (old d)
 ·have notown:∀ (j c z':Nat),g.own[j]?≠some (some (b,c,z')):=fun j c z' x=>by
   obtain ⟨_,_,_,_,_,_,_,d,_⟩:=m.tok j _ c z' x
   exact absurd rfl (old d)
  rcases new k _ k1 with a | ⟨e1,e2⟩<;>rcases new k' _ k2 with b' | ⟨e3,e4⟩
  ·exact m1.uG k k' _ c1 z1 c2 z2 a b'
  ·simp only [A',Prod.mk.injEq] at e4
   obtain ⟨rfl,rfl,rfl⟩:=e4
   exact absurd a (notown k c1 z1)
  ·simp only [A',Prod.mk.injEq] at e2
   obtain ⟨rfl,rfl,rfl⟩:=e2
   exact absurd b' (notown k' c2 z2)
  ·omega
 ·obtain ⟨a,R,f,d'⟩:=m1.loop l c r k1 k2
  exact ⟨a,R,f,d'.mono l2⟩
theorem MR.M0 (m:MR g h w) {w':World} (hb:RowKit.Below w.heap.size w w') :
  MR { g with own:=g.own++[none] } { h with al:=h.al++[0] } w'∧Le g h.al w { g with own:=g.own++[none] } (h.al++[0]) w':=by
 obtain ⟨m1,l1⟩:=m.grow hb
 obtain ⟨m2,l2⟩:=m1.j8
 exact ⟨m2,l1.trans l2⟩
end
theorem As {f:Nat} {l l':M'} {tk:Tk} {f2 b:Nat} {p:Pos} {h:Hp} (hb:h.heap[b]?=some (bp (Pos.av p))) (hs:∀ (w:World) (bG:Array Value),eY w→aA (c9 w) [] w [.list .mv l .arg,.func f2 [] [.ptrf (Pos.av p)]] bG.toList→Calls Pz f bG w fun e w'=>∃ a cap,e=.returned (.slice a l'.length cap)∧RowKit.Below w.heap.size w w'∧lD w w' a cap l') :
  di Pz f [.list .mv l tk,.func f2 [] [.ptr b 0]] h (.ret (.list .mv l' (.own h.al.length)) { h with al:=h.al++[l'.length] }):=by
 intro g w bG m hr
 have hr':aA (c9 w) [] w [.list .mv l .arg,.func f2 [] [.ptrf (Pos.av p)]] bG.toList:=by
  obtain ⟨bG⟩:=bG
  cases hr with
  | cons q1 r1 =>
  cases r1 with
  | cons q2 r2 =>
  cases r2
  cases q1 with
  | list hn hE hS hT hC =>
  rename_i a n cap cs
  cases q2 with
  | func ha hb2 =>
  rename_i x y
  obtain ⟨x⟩:=x
  obtain ⟨y⟩:=y
  cases ha
  cases hb2 with
  | cons q3 r3 =>
  cases r3
  cases q3 with
  | ptr hv =>
  rename_i c
  obtain ⟨_,_,cells,ty,hc,hcells⟩:=m.Ma hv hb rfl
  refine .cons (.list (cs:=cs) hn (by rw [eU hE];exact hU _ _ _ _) (hS.imp id fun ⟨c',o',e1,e2,_⟩=>⟨c',o',e1,fun j x hj=>⟨(e2 j x hj).1,m.fa _ _ (e2 j x hj).2⟩,fun f=>absurd rfl f⟩) (fun k e=>by cases e) hC)
   (.cons (.func .nil (.cons (.ptrf (cs:=cells.toList) (jb hcells) fun j x hj=>⟨by rw [aD hc,Nat.zero_add];simpa using hj,aC hc⟩) .nil)) .nil)
 refine callsIn_wide.2 ((hs w bG m.AP hr').mono ?_)
 rintro e w' ⟨a,cap,rfl,hbl,hx⟩
 rcases hx with ⟨rfl,rfl,rfl⟩ | ⟨b',ty,rfl,k1,k2,k3,k4,hrow⟩
 ·obtain ⟨m1,l1⟩:=m.M0 hbl
  exact ⟨_,_,rfl,⟨m1,l1,⟨rfl,rfl,rfl,fun _ _ _ x=>x,fun i x _ hx=>by
   show (h.al++[0])[i]?=_
   rw [List.getElem?_append_left (C'.1 hx).1];exact hx,fun _ _ _ x=>x⟩⟩,
   .list (cs:=[]) rfl .nil (.inl rfl) (fun k ek=>by cases ek;exact ⟨0,by simp,Nat.le_refl _,fun _=>⟨none,by simp [m.dC],rfl,rfl,rfl⟩⟩) (Nat.le_refl _)⟩
 ·obtain ⟨cur,c1,c2,c3⟩:=hrow.row
  obtain ⟨m1,l1⟩:=m.newRow (z:=5) hbl k1 c1 ⟨c2,fun e=>by cases e⟩ k3 k4
  refine ⟨_,_,rfl,⟨m1,l1,⟨rfl,rfl,rfl,fun _ _ _ x=>x,fun i x _ hx=>by
   show (h.al++[l'.length])[i]?=_
   rw [List.getElem?_append_left (C'.1 hx).1];exact hx,fun _ _ _ x=>x⟩⟩,?_⟩
  refine .list (cs:=l'.flatMap b9) rfl (hU _ _ _ _) (.inr ⟨b',0,rfl,fun j x hj=>?_,fun _=>Nat.le_trans m.base k1⟩) (fun k ek=>by cases ek;exact ⟨l'.length,by simp,Nat.le_refl _,fun _=>⟨some (b',cap,5),by simp [m.dC],rfl,rfl,rfl⟩⟩) k3
  have hjl:j<l'.length * 5:=by rw [← dQ];exact (C'.1 hj).1
  have hdm:j=j / 5 * 5+j % 5:=by omega
  have hq5:j / 5<l'.length:=by omega
  have hfl:=fI l' (j / 5) (j % 5) hq5 (Nat.mod_lt _ (by omega))
  rw [← hdm,hj] at hfl
  refine ⟨?_,.inr ⟨rfl,show 0+j<l'.length * 5 by omega⟩⟩
  rw [aD c1,Nat.zero_add]
  have h3:=c3 (j / 5) (j % 5) (by simpa using hq5) (Nat.mod_lt _ (by omega))
  rw [← hdm] at h3
  rw [h3,hfl]
  have ea:l'.toArray[j / 5]! = l'[j / 5]:=by simp [hq5]
  have eb:l'[j / 5]! = l'[j / 5]:=by simp [hq5]
  rw [ea,eb]
def FK:List AV→Hp→Tr bT:=fun xs h=>match xs with
 | [.list .mv l _,.func f [] [.ptr b 0]]=>match h.heap[b]? with
  | some [.int .u8 v,.ints .u8 64 bd,.u64 pr,.ints .u8 12 pk,.int .u8 tn,.ints .i8 4 rk,.int .i8 ps,.ints .u8 2 ck,.int .i64 hf,.int .i64 fl] =>
   .guard (dy f ⟨v,bd,pr,pk,tn,rk,ps,ck,hf,fl⟩ l) (.ret (.ret (.list .mv (kept f ⟨v,bd,pr,pk,tn,rk,ps,ck,hf,fl⟩ l) (.own h.al.length)) { h with al:=h.al++[(kept f ⟨v,bd,pr,pk,tn,rk,ps,ck,hf,fl⟩ l).length] }))
  | _=>.fail
 | _=>.fail
theorem sFK:gO Pz 122 FK:=by
 intro xs h res he
 unfold FK at he
 split at he
 ·rename_i l tk f b
  split at he
  ·rename_i v bd pr pk tn rk ps ck hf fl hb
   simp only [get_guard,ar,A'] at he
   obtain ⟨h1,rfl⟩:=he
   refine ⟨?_,C8⟩
   unfold dy at h1
   simp only [E',decide_eq_true_eq] at h1
   obtain ⟨hl,h1⟩:=h1
   unfold kept
   cases hf3:f.beq 125 with
   | true =>
    rw [hf3] at h1
    obtain rfl:=Nat.eq_of_beq_eq_true hf3
    exact As (p:=⟨v,bd,pr,pk,tn,rk,ps,ck,hf,fl⟩) hb (fun w bG hg hr=>Pj _ _ _ l hl (fun m=>Q7 _ m (nq.1 h1 m)) w bG hg hr)
   | false =>
    rw [hf3] at h1
    simp only [cond_false,E'] at h1
    obtain rfl:=Nat.eq_of_beq_eq_true h1.1
    exact As (p:=⟨v,bd,pr,pk,tn,rk,ps,ck,hf,fl⟩) hb (fun w bG hg hr=>Pj _ _ _ l hl (fun m=>Qo _ m (pU.1 h1.2 m)) w bG hg hr)
  ·simp at he
 ·simp at he
end Kz
end
noncomputable section
namespace Kz
open Go Go.RowKit Go.Proofs
def Wf:List (Nat×Nat×List (Nat×List Nat)):=[(30,9,[(0,[1]),(1,[1,6]),(2,[2]),(3,[2])]),(64,37,[(0,[1]),(1,[1,17]),(2,[2]),(3,[1,3]),(4,[1,3,4]),(5,[1,3,4,5]),(6,[3,4,5,31]),(7,[4]),(8,[2])]),(110,19,[(0,[0,1]),(1,[0,1,7,8]),(2,[0,1,7,8,9]),(3,[0,1,5,7,8]),(4,[0,1,5,7,8,16]),(5,[4]),(6,[0,1,7,8]),(7,[4])]),(122,9,[(0,[0,3]),(1,[4])]),(125,7,[(0,[1,2]),(1,[3])]),(127,7,[(0,[1,2]),(1,[3])]),(128,9,[(0,[0,1]),(1,[4])])]
def SW:aw:=gN Pz (fun f i=>lkC f i Wf) [(47,RX),(63,YT),(66,AK),(120,A7),(121,BU),(126,EH)] [] [(122,FK)]
theorem Nb:aV SW:=ak aj ⟨Vx,s63,Bb,EA,Ew,G5,trivial⟩ trivial ⟨sFK,trivial⟩
def Ki (p1:M') (p2:Int) (p3:Pos) (p4:Pos) (x:(Int)):St:=St.mk (AV.list ET.mv p1 (Tk.own 2)::AV.func 127 [] [AV.ptr 1 0]::(an 5 (AV.int .i64 p2::AV.int .i64 x::(an 10 [])))) (Hp.mk [(pc p3 []),(pc p4 [])] [0,0,p1.length] [] 0 0 0)
def Ja (p1:M') (p2:Int) (p3:Pos) (p4:Pos):(Int) ⊕ (Int×Bool)→Out
 | (.inl (y))=>.ret (St.mk (an 4 (AV.int .i64 y::(an 14 []))) (Hp.mk [(pc p3 []),(pc p4 [])] [0,0,p1.length] [] 0 0 0))
 | (.inr (y))=>.exit 0 (St.mk (AV.list ET.mv p1 (Tk.own 2)::AV.func 127 [] [AV.ptr 1 0]::(an 5 (AV.int .i64 p2::AV.int .i64 y.fst::AV.bool y.snd::(an 9 [])))) (Hp.mk [(pc p3 []),(pc p4 [])] [0,0,p1.length] [] 0 0 0))
def Mn (p1:M') (p2:Int) (p3:Pos) (p4:Pos) (x:(Int)):aI (Int) ((Int) ⊕ (Int×Bool)):=(bif decide (x<p2) then (bif fT p4 (p1.getD x.toNat default) then (aI.out (.inl ((x)))) else (aI.go (wr .i64 (x+1)))) else (aI.out (.inr ((x,decide (x<p2))))))
def GX (p1:M') (p2:Int) (p3:Pos) (p4:Pos) (x:(Int)):Bool:=(bif decide (x<p2) then (decide (0≤x)&&decide (x<Int.ofNat p1.length)&&(uK p4 (p1.getD x.toNat default)&&true)) else true)
def eS (p1:M') (p2:Int) (p3:Pos) (p4:Pos) (x:(Int)):Option ((Int) ⊕ (Int×Bool)):=da (fun x=>bif GX p1 p2 p3 p4 x then Mn p1 p2 p3 p4 x else .bad) many x
abbrev JM {α:Type} (k:M'→Int→Pos→Pos→(Int)→α) (s:St):α:=wP s 0 fun q0=>wP s 1 fun q1=>k (tL (ET.mv) (tT s 0)) (tI (tT s 7)) q0 q1 ((tI (tT s 8)))
theorem U7 (p1:M') (p2:Int) (p3:Pos) (p4:Pos) (x:(Int)) (r:(Int) ⊕ (Int×Bool)) (h:eS p1 p2 p3 p4 x=some r):aB Pz (bj Pz 110 2) (Ki p1 p2 p3 p4 x) (Ja p1 p2 p3 p4 r):=aB.xO (m:=12) (fn:=77) Nb (JM fun _ _ _ _ x=>some x) (fun o=>match o with | .ret s=>some (.inl (tI (tT s 4))) | .exit 0 s=>some (.inr ((tI (tT s 8)),(tB (tT s 9)))) | _=>none) (fun r=>by cases r<;>rfl) (fun _=>by kernel_rfl) (fun _=>by kernel_rfl) (fun _=>by kernel_rfl) (fun _=>by kernel_rfl) many x r h
def He (b:Code) (s:St):Tr Out:=JM (fun p1 p2 p3 p4 x=>w9 b (bj Pz 110 2) s (Ki p1 p2 p3 p4 x) (eS p1 p2 p3 p4 x) (Ja p1 p2 p3 p4)) s
theorem L2:∀ b,aZ Pz b (He b):=fun _ _ _ h=>ez (U7 _ _ _ _ _) h
def ML:aw:=gN Pz (fun f i=>lkC f i Wf) [(47,RX),(63,YT),(66,AK),(120,A7),(121,BU),(126,EH)] [(110,2,He)] [(122,FK)]
theorem Zl:aV ML:=ak aj ⟨Vx,s63,Bb,EA,Ew,G5,trivial⟩ ⟨L2,trivial⟩ ⟨sFK,trivial⟩
def yq:bT→Option (M'×Nat)
 | .ret (.list .mv m (.own k)) h=>(h.al[k]?).map fun n=>(m,n)
 | _=>none
def Ul (a:Pos):M'×Nat:=(bif (v7 a).fst != 0 then ([],0) else (bif jr a.variant a.aa then (bif !nh a a.aa then ([],0) else (bif a.variant==4 then (bif cu ((eS (kept 125 a (bL a)) (Int.ofNat (kept 125 a (bL a)).length) a a 0).getD default) then (bif decide (gl ((eS (kept 125 a (bL a)) (Int.ofNat (kept 125 a (bL a)).length) a a 0).getD default)≥0) then ((kept 127 a (kept 125 a (bL a))),(kept 127 a (kept 125 a (bL a))).length) else ((kept 125 a (bL a)),(kept 125 a (bL a)).length)) else ((kept 125 a (bL a)),(kept 125 a (bL a)).length)) else ((kept 125 a (bL a)),(kept 125 a (bL a)).length))) else (bif a.variant==4 then (bif cu ((eS (kept 125 a (bL a)) (Int.ofNat (kept 125 a (bL a)).length) a a 0).getD default) then (bif decide (gl ((eS (kept 125 a (bL a)) (Int.ofNat (kept 125 a (bL a)).length) a a 0).getD default)≥0) then ((kept 127 a (kept 125 a (bL a))),(kept 127 a (kept 125 a (bL a))).length) else ((kept 125 a (bL a)),(kept 125 a (bL a)).length)) else ((kept 125 a (bL a)),(kept 125 a (bL a)).length)) else ((kept 125 a (bL a)),(kept 125 a (bL a)).length))))
def JI (a:Pos):Bool:=(An a&&(bif (v7 a).fst != 0 then true else (kX a.variant a.aa&&(bif jr a.variant a.aa then (qy a a.aa&&(bif !nh a a.aa then true else (sc a&&(dy 125 a (bL a)&&(bif a.variant==4 then ((eS (kept 125 a (bL a)) (Int.ofNat (kept 125 a (bL a)).length) a a 0).isSome&&bif cu ((eS (kept 125 a (bL a)) (Int.ofNat (kept 125 a (bL a)).length) a a 0).getD default) then (bif decide (gl ((eS (kept 125 a (bL a)) (Int.ofNat (kept 125 a (bL a)).length) a a 0).getD default)≥0) then (dy 127 a (kept 125 a (bL a))&&true) else true) else true) else true))))) else (sc a&&(dy 125 a (bL a)&&(bif a.variant==4 then ((eS (kept 125 a (bL a)) (Int.ofNat (kept 125 a (bL a)).length) a a 0).isSome&&bif cu ((eS (kept 125 a (bL a)) (Int.ofNat (kept 125 a (bL a)).length) a a 0).getD default) then (bif decide (gl ((eS (kept 125 a (bL a)) (Int.ofNat (kept 125 a (bL a)).length) a a 0).getD default)≥0) then (dy 127 a (kept 125 a (bL a))&&true) else true) else true) else true)))))))
theorem adQ (a:Pos):((Db ML 14 30 [Pos.av a] o7).qt yq).val=JI a:=by kernel_rfl
theorem adY (a:Pos):(Db ML 14 30 [Pos.av a] o7).vt yq=Ul a:=by kernel_rfl
theorem yC (l:M') (p:Pos):eS l (Int.ofNat l.length) p p 0=dD l (Int.ofNat l.length) p 0:=rfl
theorem NM {p:Pos} (hp:aO p):JI p=true:=by
 have h1:=mg hp
 have h2:=nS hp
 have k0:An p=true:=t63 hp
 have k1:kX p.variant p.aa=true:=t120 hp.v0 hp.t0
 have k2:sc p=true:=t66 hp
 have k3:dy 125 p (bL p)=true:=vc hp (by omega)
 have k4:dy 127 p (kept 125 p (bL p))=true:=vJ hp (by rw [mn];omega)
 have k5:(dD (kept 125 p (bL p)) (Int.ofNat (kept 125 p (bL p)).length) p 0).isSome=true:=(aM (SQ hp _ (by rw [mn];omega))).1
 unfold JI
 rw [yC]
 repeat' (first | with_reducible rfl | with_reducible exact k0 | with_reducible exact k1 | with_reducible exact k2 | with_reducible exact k3 | with_reducible exact k4 | with_reducible exact k5 | with_reducible exact t121 _ _ | refine ao ?_ (fun _=>?_) | refine aq (fun _=>?_) (fun _=>?_))
theorem fH {b:Bool} {x y:M'} {u v:M'×Nat} (h1:u=(x,x.length)) (h2:v=(y,y.length)):(bif b then u else v)=((bif b then x else y),(bif b then x else y).length):=by
 cases b
 ·exact h2
 ·exact h1
theorem NQ (p:Pos):Ul p=(eX p,(eX p).length):=by
 unfold Ul eX kC
 rw [yC]
 refine fH rfl (fH (fH rfl (fH (fH (fH rfl rfl) rfl) rfl)) (fH (fH (fH rfl rfl) rfl) rfl))
theorem Zx (p:Pos) (hp:aO p) (w:World) (hg:eY w) (v:Value) (hv:aL (c9 w) [] w (Pos.av p) v) :
  Calls Tryz.prog 30 #[v] w fun e w'=>∃ a cap,e=.returned (.slice a (eX p).length cap)∧RowKit.Below w.heap.size w w'∧lD w w' a cap (eX p):=by
 obtain ⟨r,h1,h2⟩:=tV (d:=yq) (R:=fun r v=>yq r=some v) (Db ML 14 30 [Pos.av p] o7) (xH (by kernel_rfl)) (fun a _ v hv=>hv) ((adQ p).trans (NM hp))
 rw [adY,NQ] at h2
 obtain ⟨hspec,_⟩:=(qx Zl 14).1 _ _ _ _ h1
 unfold yq at h2
 split at h2
 ·rename_i m k h
  simp only [H',Prod.mk.injEq] at h2
  obtain ⟨n0,hk,hml,hnl⟩:=h2
  subst hnl
  have hml':m=eX p:=hml
  clear hml
  subst hml'
  refine (callsIn_wide.1 (hspec (c9 w) w #[v] (IQ hg) (.cons hv .nil))).mono ?_
  rintro e w' ⟨g',x,rfl,nx,hx⟩
  generalize eX p=l at *
  have hbase:g'.base=w.heap.size:=nx.le.base
  cases hx with
  | list hn hE hS hT hC =>
  rename_i a n cap cs
  subst hn
  have hcs:=eU hE
  obtain ⟨n',hn1,hn2,hown⟩:=hT k rfl
  rw [hk] at hn1
  simp only [A'] at hn1
  obtain ⟨ow,how,hOI⟩:=hown hn1
  refine ⟨a,cap,rfl,nx.le.below,?_⟩
  cases ow with
  | none =>
   obtain ⟨ha,hlen,hcap⟩:=hOI
   exact .inl ⟨ha,List.eq_nil_of_length_eq_zero hlen,hcap⟩
  | some t =>
   obtain ⟨b,cap',z'⟩:=t
   obtain ⟨rfl,rfl,rfl⟩:=hOI
   obtain ⟨_,cells,ty,_,_,hmax,hb,hblk,hsz,_,_⟩:=nx.mr.tok k b cap (kF .mv) how
   refine .inr ⟨b,ty,rfl,by omega,aC hblk,hC,hmax,rfl,rfl,rfl,Nat.le_refl _,fun _ _ _=>rfl,cells,hblk,hsz.1,fun j c hj hc=>?_⟩
   have hj':j<l.length:=by simpa using hj
   have h1:j * 5+c<l.length * 5:=by have:=Nat.mul_le_mul_right 5 (show j+1≤l.length from hj');omega
   have hfl:=fI l j c hj' hc
   have ea:l.toArray[j]! = l[j]:=by simp [hj']
   have eb:l[j]! = l[j]:=by simp [hj']
   rw [ea]
   rw [eb] at hfl
   rcases hS with h0 | ⟨c',o',ha,hat,_⟩
   ·exfalso
    have:=dQ l
    rw [← hcs,h0] at this
    simp at this
    omega
   ·simp only [A',Addr.mk.injEq,and_true] at ha
    obtain ⟨rfl,rfl⟩:=ha
    have hx:cs[j * 5+c]?=(b9 l[j])[c]? := by rw [hcs];exact hfl
    obtain ⟨u,hu⟩:∃ u,(b9 l[j])[c]?=some u:=⟨_,I' (show c<(b9 l[j]).length from hc)⟩
    obtain ⟨k1,_⟩:=hat (j * 5+c) u (by rw [hx,hu])
    rw [aD hblk,Nat.zero_add] at k1
    rw [k1]
    simp [hu]
 ·cases h2
end Kz
end
noncomputable section
namespace Go.Proofs
open Go.Shelf Go.RowKit Go.Lib Go.Sort Kz
def AO (p:Pos) (l:M'):M':=(qR (dp fun a b=>Al a b p) l.toArray).toList
theorem zm (p:Pos) (l:M'):(AO p l).Perm l:=by
 have h:=NX (dp fun a b=>Al a b p) l.toArray
 unfold Pm at h
 simpa [AO] using h
theorem wY (p:Pos) (l:M'):(AO p l).length=l.length:=(zm p l).length_eq
set_option maxRecDepth 100000 in
theorem ad9 (p:Pos) (w w0:World) (hg:eY w) (hb:RowKit.Below w.heap.size w w0) (bA cap:Nat) (ty:TypeId) (hblk:w.heap.size≤bA) (pb po:Nat) (pcs:List Value) (hp:ax (c9 w) [] w (bp (Pos.av p)) pcs) (hpb:pb<w.heap.size) (hc:∀ j x,pcs[j]?=some x→w.cell? ⟨pb,po+j,none⟩=some x) :
  kP 105 #[.pointer (some ⟨pb,po,none⟩)] (fun a b=>Al a b p) bA 0 5 b9 (fun d W=>cZ w0 bA cap ty d W∧d.size≤cap):=by
 have ld:∀ {d:Array Mv} {W:World},cZ w0 bA cap ty d W→∀ i,i<d.size→Sem.run Tryz.prog (loadCellsFrom ⟨bA,0+i * 5,none⟩ 0 5 #[]) W=.ok (b9 d[i]!).toArray W:=fun h i hi=>h.load hi
 have st:∀ {d:Array Mv} {W:World},cZ w0 bA cap ty d W→d.size≤cap→∀ i,i<d.size→∀ y:Mv,Sem.run Tryz.prog (storeCells ⟨bA,0+i * 5,none⟩ (b9 y) 0) W=.ok () (W.setCells bA (0+i * 5) (b9 y)):=by
  intro d W h hs i hi y
  obtain ⟨cur,k1,k2,k3⟩:=h.row
  have:=run_storeCells_cells (P:=Tryz.prog) bA (0+i * 5) (b9 y) 0 W (fun j hj=>?_) (fun j hj=>fc k1) (yv y)
  ·rwa [Nat.add_zero] at this
  ·rw [eO] at hj
   rw [aD k1]
   have h5:i * 5+j<cap * 5:=by have:=Nat.mul_le_mul_right 5 (show i+1≤cap by omega);omega
   rw [show 0+i * 5+0+j=i * 5+j by omega,Array.getElem?_eq_getElem (by omega)]
   rfl
 have pt:∀ {d:Array Mv} {W:World},cZ w0 bA cap ty d W→d.size≤cap→∀ i,i<d.size→∀ y:Mv,cZ w0 bA cap ty (d.setIfInBounds i y) (W.setCells bA (0+i * 5) (b9 y)):=by
  intro d W h hs i hi y
  rw [Nat.zero_add]
  exact h.put hi hs y
 have hbs:∀ {d:Array Mv} {W:World},cZ w0 bA cap ty d W→bA<W.heap.size:=fun h=>by
  obtain ⟨cur,k1,_⟩:=h.row
  exact aC k1
 refine ⟨eO,fun h i hi=>ld h.1 i hi,fun h=>⟨⟨h.1.os,h.1.tape,h.1.output,h.1.size,h.1.other,h.1.row⟩,h.2⟩,fun h i hi y=>st h.1 h.2 i hi y,fun h i j hi hj y x=>st (pt h.1 h.2 i hi y) (by simpa using h.2) j (by simpa using hj) x,fun {d W} h i j hi hj=>⟨?_,by rw [size_swp];exact h.2⟩,fun {d W} h x y=>?_,fun _ _=>rfl⟩
 ·exact pt (pt h.1 h.2 i hi d[j]!) (by simpa using h.2) j (by simpa using hj) d[i]!
 ·have old:∀ k,k<w.heap.size→W.heap[k]?=w.heap[k]? := fun k hk=>by
   rw [h.1.other k (Nat.lt_of_lt_of_le hk hb.size) (by omega),hb.block k hk]
  have hsz:w.heap.size≤W.heap.size:=Nat.le_trans hb.size h.1.size
  have hs:=aja x y p
  unfold bJ at hs
  have hgW:eY W:=globOk_at hg hsz old
  obtain ⟨args,ha⟩:∃ args:Array Value,args=#[Value.agg (b9 x).toArray,Value.agg (b9 y).toArray]++#[Value.pointer (some ⟨pb,po,none⟩)]:=⟨_,rfl⟩
  rw [← ha]
  refine Calls.mono (callsIn_wide.1 (hs W args hgW ?_)) ?_
  ·have e:(#[Value.agg (b9 x).toArray,Value.agg (b9 y).toArray]++#[Value.pointer (some ⟨pb,po,none⟩)]).toList=[Value.agg (b9 x).toArray,Value.agg (b9 y).toArray,Value.pointer (some ⟨pb,po,none⟩)]:=by simp
   rw [ha,e]
   have r1:aL (c9 W) [] W (Mv.av x) (Value.agg (b9 x).toArray) := .agg (pZ _ _ _ x)
   have r2:aL (c9 W) [] W (Mv.av y) (Value.agg (b9 y).toArray) := .agg (pZ _ _ _ y)
   refine .cons r1 (.cons r2 (.cons (.ptrf (cs:=pcs) (jb hp) ?_) .nil))
   intro j u hj
   exact ⟨by rw [cQ (old _ hpb)];exact hc j u hj,Nat.lt_of_lt_of_le hpb hsz⟩
  ·rintro e w' ⟨v,rfl,hbw,hv⟩
   cases hv
   refine ⟨rfl,⟨hbw.os.trans h.1.os,hbw.tape.trans h.1.tape,hbw.output.trans h.1.output,Nat.le_trans h.1.size hbw.size,fun k hk hn=>by rw [hbw.block k (Nat.lt_of_lt_of_le hk h.1.size)];exact h.1.other k hk hn,?_⟩,h.2⟩
   obtain ⟨cur,k1,k2⟩:=h.1.row
   exact ⟨cur,by rw [hbw.block bA (aC k1)];exact k1,k2⟩
set_option maxHeartbeats 2000000 in
set_option maxRecDepth 100000 in
theorem ahY (a:Option Addr) (c:Nat) (fv:Value) (w:World):Calls Tryz.prog 224 #[.slice a 0 c,.int .i64 0,.int .i64 0,fv] w fun e w'=>e=.returned (.tuple #[])∧w'=w:=by
 go_enter Tryz.func224,Tryz.ntmps224
 go_wp2
 go_loopg [8] 0 (fun _ s8 wr=>s8=.int .i64 1∧wr=w)
 case atStart=>exact ⟨rfl,rfl⟩
 case round =>
  obtain ⟨rfl,rfl⟩:=hrel
  go_wp2
  go_end0
  exact ⟨rfl,rfl⟩
set_option maxHeartbeats 2000000 in
set_option maxRecDepth 100000 in
theorem aam (a:Option Addr) (c:Nat) (fv:Value) (w:World):Calls Tryz.prog 170 #[.slice a 0 c,.int .i64 0,fv] w fun e w'=>e=.returned (.tuple #[])∧w'=w:=by
 have h:=ahY a c fv w
 go_enter Tryz.func170,Tryz.ntmps170
 go_wp2
 go_loopg [7,8] 0 (fun _ s7 s8 wr=>s7=.int .i64 0∧s8=.int .i64 20∧wr=w)
 case atStart=>exact ⟨rfl,rfl,rfl⟩
 case round =>
  obtain ⟨rfl,rfl,rfl⟩:=hrel
  go_wp2_with fail
  refine h.mono ?_
  rintro e w' ⟨rfl,rfl⟩
  clear h
  go_wp2
  go_loopg [6] 0 (fun _ s6 wr=>s6=.int .i64 20∧wr=w')
  case atStart=>exact ⟨rfl,rfl⟩
  case round =>
   obtain ⟨rfl,rfl⟩:=hrel
   go_wp2
   go_end0
   exact ⟨rfl,rfl⟩
set_option maxHeartbeats 2000000 in
set_option maxRecDepth 100000 in
theorem Ye (a:Option Addr) (c:Nat) (fv:Value) (w:World):Calls Tryz.prog 104 #[.slice a 0 c,fv] w fun e w'=>e=.returned (.tuple #[])∧w'=w:=by
 have h:=aam a c fv w
 go_enter Tryz.func104,Tryz.ntmps104
 go_wp2_with fail
 refine h.mono ?_
 rintro e w' ⟨rfl,rfl⟩
 go_wp2
 go_end0
 exact ⟨rfl,rfl⟩
set_option maxHeartbeats 4000000 in
set_option maxRecDepth 100000 in
theorem Xu (p:Pos) (l:M') (hl:l.length≤oZ):bJ Tryz.prog 48 [Pos.av p,.list .mv l .arg] (.list .mv (AO p l) .fresh):=by
 intro w bG hg hr
 obtain ⟨bG⟩:=bG
 cases hr with
 | cons q1 r1 =>
 cases r1 with
 | cons q2 r2 =>
 cases r2
 obtain ⟨pcs,rfl,hpc⟩:=aL.eE (l:=bp (Pos.av p)) q1
 cases q2 with
 | list hn hE hS hT hC =>
 rename_i a n cap cs
 subst hn
 clear q1
 refine callsIn_wide.2 ?_
 have hw1:RowKit.Below w.heap.size w ((w.alloc (Obj.cells pcs 31)).alloc (Obj.cells #[Value.slice a l.length cap] 34)):=((Below.refl _ w).alloc (Nat.le_refl _) _).alloc (by simp) _
 have hs1:((w.alloc (Obj.cells pcs 31)).alloc (Obj.cells #[Value.slice a l.length cap] 34)).heap.size=w.heap.size+2:=by simp
 have hg1:eY ((w.alloc (Obj.cells pcs 31)).alloc (Obj.cells #[Value.slice a l.length cap] 34)):=globOk_at hg hw1.size hw1.block
 have hbp:((w.alloc (Obj.cells pcs 31)).alloc (Obj.cells #[Value.slice a l.length cap] 34)).heap[w.heap.size]?=some (.cells pcs 31 (0,0)):=by
  have h0:=Below.heap_alloc (w.alloc (Obj.cells pcs 31)) (Obj.cells #[Value.slice a l.length cap] 34) w.heap.size (by simp)
  rw [h0]
  exact heap_alloc_new w _
 have hbs:((w.alloc (Obj.cells pcs 31)).alloc (Obj.cells #[Value.slice a l.length cap] 34)).heap[w.heap.size+1]?=some (.cells #[Value.slice a l.length cap] 34 (0,0)):=by
  have h0:=heap_alloc_new (w.alloc (Obj.cells pcs 31)) (Obj.cells #[Value.slice a l.length cap] 34)
  have h1:(w.alloc (Obj.cells pcs 31)).heap.size=w.heap.size+1:=by simp
  rw [h1] at h0
  exact h0
 have hcs:=eU hE
 have hrl:aL (c9 ((w.alloc (Obj.cells pcs 31)).alloc (Obj.cells #[Value.slice a l.length cap] 34))) [] ((w.alloc (Obj.cells pcs 31)).alloc (Obj.cells #[Value.slice a l.length cap] 34)) (.list .mv l .arg) (.slice a l.length cap):=by
  refine .list (cs:=cs) rfl (by rw [hcs];exact hU _ _ _ _) (hS.imp id fun ⟨c,o,e1,e2,_⟩=>⟨c,o,e1,fun j x hj=>?_,fun f=>absurd rfl f⟩) (fun k e=>by cases e) hC
  obtain ⟨k1,k2⟩:=e2 j x hj
  have hlt:c<w.heap.size:=k2
  exact ⟨by rw [cQ (hw1.block _ hlt)];exact k1,by show c<_;omega⟩
 have hj:=aaL l hl _ hg1 (.slice (some ⟨w.heap.size+1,0,none⟩) 1 1) (.vlist (cs:=[.slice a l.length cap]) rfl (.cons rfl rfl (.one rfl hrl .nil) .nil) (.inr ⟨w.heap.size+1,0,rfl,fun j x hj=>by
  refine ⟨?_,?_⟩
  ·rw [aD hbs,Nat.zero_add]
   simpa using hj
  ·show w.heap.size+1<_
   omega,fun f=>by cases f⟩) rfl)
 have hsort:∀ (a':Option Addr) (cap':Nat) (w2:World),RowKit.Below ((w.alloc (Obj.cells pcs 31)).alloc (Obj.cells #[Value.slice a l.length cap] 34)).heap.size ((w.alloc (Obj.cells pcs 31)).alloc (Obj.cells #[Value.slice a l.length cap] 34)) w2 →
   ((a'=none∧l=[])∨∃ b ty,a'=some ⟨b,0,none⟩∧((w.alloc (Obj.cells pcs 31)).alloc (Obj.cells #[Value.slice a l.length cap] 34)).heap.size≤b∧b<w2.heap.size∧l.length≤cap'∧cZ w2 b cap' ty l.toArray w2) →
   Calls Tryz.prog 104 #[.slice a' l.length cap',.func (.func 105) #[] #[.pointer (some ⟨w.heap.size,0,none⟩)]] w2 fun e w'=>e=.returned (.tuple #[])∧RowKit.Below w.heap.size w w'∧aL (sr w w') [] w' (.list .mv (AO p l) .fresh) (.slice a' l.length cap'):=by
  intro a' cap' w2 hb2 hx
  have hb02:RowKit.Below w.heap.size w w2:=hw1.trans (hb2.mono (by omega))
  rcases hx with ⟨rfl,rfl⟩ | ⟨b,ty,rfl,k1,k2,k3,hrow⟩
  ·refine (Ye none cap' _ w2).mono ?_
   rintro e w' ⟨rfl,rfl⟩
   refine ⟨rfl,hb02,?_⟩
   have e0:AO p []=[]:=List.eq_nil_of_length_eq_zero (by rw [wY];rfl)
   rw [e0]
   exact .list (cs:=[]) rfl .nil (.inl rfl) (fun k e=>by cases e) (Nat.zero_le _)
  ·obtain ⟨i0,z,a1,a2,a3,a4,a5⟩:=rK
   have hp2:∀ j x,pcs.toList[j]?=some x→((w.alloc (Obj.cells pcs 31)).alloc (Obj.cells #[Value.slice a l.length cap] 34)).cell? ⟨w.heap.size,0+j,none⟩=some x:=fun j x hj=>by
    rw [aD hbp,Nat.zero_add]
    simpa using hj
   have L:=ad9 p _ w2 hg1 hb2 b cap' ty k1 w.heap.size 0 pcs.toList (jb hpc) (by omega) hp2
   have hs:=xc L (fun w=>Tryz.isAgg47 w) (fun w=>Tryz.sizeOf47 w) cap' l.length l.toArray w2 (by simp) ⟨hrow,by simpa using k3⟩ (by unfold oZ at hl;omega)
   refine hs.mono ?_
   rintro e w' ⟨rfl,hR,_⟩
   obtain ⟨cur,c1,c2,c3⟩:=hR.row
   refine ⟨rfl,⟨hR.os.trans hb02.os,hR.tape.trans hb02.tape,hR.output.trans hb02.output,Nat.le_trans hb02.size hR.size,fun k hk=>by
    rw [hR.other k (by have:=hb02.size;omega) (by omega),hb02.block k hk]⟩,?_⟩
   have hlen:(AO p l).length=l.length:=wY p l
   refine .list (cs:=(AO p l).flatMap b9) hlen.symm (hU _ _ _ _) (.inr ⟨b,0,rfl,fun j x hj=>?_,fun _=>by show w.heap.size≤b;omega⟩) (fun k e=>by cases e) (by omega)
   have hjl:j<(AO p l).length * 5:=by rw [← dQ];exact (C'.1 hj).1
   have hdm:j=j / 5 * 5+j % 5:=by omega
   have hq5:j / 5<(AO p l).length:=by omega
   have hfl:=fI (AO p l) (j / 5) (j % 5) hq5 (Nat.mod_lt _ (by omega))
   rw [← hdm,hj] at hfl
   refine ⟨?_,show w.heap.size≤b∧b<w'.heap.size from ⟨by omega,aC c1⟩⟩
   rw [aD c1,Nat.zero_add]
   have h3:=c3 (j / 5) (j % 5) (show j / 5<(qR (dp fun a b=>Al a b p) l.toArray).toList.length from hq5) (Nat.mod_lt _ (by omega))
   rw [← hdm] at h3
   rw [h3,hfl]
   congr 2
   have ea:(AO p l)[j / 5]! = (AO p l)[j / 5]:=by simp [hq5]
   rw [ea]
   have hq6:j / 5<(qR (dp fun a b=>Al a b p) l.toArray).size:=hq5
   have eb:=getElem!_pos (qR (dp fun a b=>Al a b p) l.toArray) (j / 5) hq6
   rw [eb]
   simp [AO]
 have HJ:=Lib.hid hj
 have HS:=Lib.hid hsort
 clear hw1 hs1 hg1 hbp hbs hcs hrl hj hsort hS hT hE hC hpc hg
 go_enter Tryz.func48,Tryz.ntmps48
 go_wp2_with fail
 refine HJ.out.mono ?_
 rintro e w2 ⟨a',cap',rfl,hb2,hx⟩
 have hc:=HS.out a' cap' w2 hb2 hx
 clear HJ HS hb2 hx
 go_wp2_with fail
 refine hc.mono ?_
 rintro e w3 ⟨rfl,hb3,hr3⟩
 have HB:=Lib.hid hb3
 have HR:=Lib.hid hr3
 clear hb3 hr3 hc
 go_wp2_with fail
 go_ret
 exact ⟨_,rfl,HB.out,HR.out⟩
end Go.Proofs
end
noncomputable section
namespace Kz
open Go Go.RowKit Go.Proofs
def K29:KT:=[(29,7,[(0,[1]),(1,[2])])]
def B29:aw:=bO Pz K29 [(62,G62)] [] []
theorem ad0:aV B29:=ak aj ⟨s62,trivial⟩ trivial trivial
def VE (a:Pos):Bool:=((AL a).1 != 0)
def SF (a:Pos):Bool:=(Nc (a)&&true)
theorem P29 (a:Pos) (h:SF a=true):PS Pz 29 [Pos.av a] (dB.res (VE a)):=pq14 ad0 h
def G29:GT:=g1 aY (fun a=>cg (SF a) (dB.res (VE a)))
theorem Vo:Sound Pz 29 G29:=aF fun a=>ay (P29 a)
end Kz
end
noncomputable section
namespace Go.Proofs
open Go.Shelf Go.RowKit Go.Lib Go.Sort
set_option maxHeartbeats 1000000 in
set_option maxRecDepth 100000 in
theorem abP (p:Kz.Mv→Bool) (g:Nat) (lb:Array Value) (eg:∀ args w,(callFunc g args).run Tryz.prog w=.ok (.enter g args) w) (bA cap:Nat) (d:Array Kz.Mv) (w:World) (ty:TypeId) (hb:bA<w.heap.size) (hH:cZ w bA cap ty d w) (hcap:d.size≤cap) (hmax:cap≤maxLen)
  (hpo:∀ W dk x,cZ w bA cap ty dk W→Calls Tryz.prog g (#[.agg (b9 x).toArray]++lb) W fun e w'=>e=.returned (.bool (p x))∧RowKit.Below W.heap.size W w') :
  Calls Tryz.prog 49 #[.slice (some ⟨bA,0,none⟩) d.size cap,.func (.func g) #[] lb] w fun e w'=>e=.returned (.slice (some ⟨bA,0,none⟩) (d.toList.filter fun x => !p x).length cap)∧cZ w bA cap ty (d.toList.filter fun x => !p x).toArray w':=by
 have hsz:d.size≤9223372036854775807:=by unfold maxLen at hmax;omega
 have e6:∀ args w,(callFunc 110 args).run Tryz.prog w=.ok (.enter 110 args) w:=fun args w=>by rfl
 have hp:PredBelow Tryz.prog g lb (fun x=>.agg (b9 x).toArray) p w:=fun W x hB=>(hpo W d x (hH.below hb hB)).mono fun e w' ⟨h1,h2⟩=>⟨h1,hB.trans (h2.mono hB.size)⟩
 have hIF:=AnyQ.slices_IndexFunc Tryz.Zj 5 Tryz.isAgg47 Tryz.sizeOf47 b9 eO p g lb eg bA 0 d.size cap d.toList w hp (by simp) hsz hb (fun j hj i v hi=>by
  have hi5:i<5:=(C'.1 hi).1
  have hj':j<d.size:=by simpa using hj
  obtain ⟨cur,h1,h2,h3⟩:=hH.row
  rw [Kz.aD h1,Nat.zero_add,h3 j i hj' hi5]
  rw [← hi,getElem!_pos d j hj',getElem!_pos d.toList j hj]
  simp)
 rw [show d.toList.take d.size=d.toList from List.take_of_length_le (by simp)] at hIF
 have tl:∀ j,j<d.size→d.toList[j]! = d[j]! := fun j hj=>by rw [getElem!_pos d j hj,getElem!_pos d.toList j (by simpa using hj)];simp
 obtain ⟨kp,HK⟩:∃ kp:Nat→Bool,Hid (kp=fun j => !p d[j]!):=⟨_,rfl⟩
 have hfil:(d.toList.filter fun x => !p x)=keptUpTo kp d d.size:=by rw [HK.out];exact (keptUpTo_filter (fun x => !p x) d).symm
 rw [hfil]
 rcases idxByFrom_spec (fun _ y=>p y) default d.toList 0 with ⟨e1,hall⟩ | ⟨k0,hk0,e1,ht,hall⟩
 ·
  have e2:Lib.idxBy (fun _ y=>p y) d.toList default = -1:=e1
  rw [e2] at hIF
  have hkeep:∀ j,j<d.size→kp j=true:=fun j hj=>by rw [HK.out];show (!p d[j]!)=true;rw [← tl j hj,hall j (by simpa using hj)];rfl
  have e3:keptUpTo kp d d.size=d.toList:=by rw [keptUpTo_all kp d _ hkeep,range_map_get]
  have HH:Aside (cZ w bA cap ty d w):=hH
  have HB:Hid (bA<w.heap.size):=hb
  clear hH hpo hp hb
  go_enter Tryz.func49,Tryz.ntmps49
  go_wp2_with (go_at_fn 110;refine hIF.mono ?_;rintro e w' ⟨rfl,hbl⟩)
  go_ret
  rw [e3]
  exact ⟨by simp,by simpa using HH.out.below HB.out hbl⟩
 ·have hk0':k0<d.size:=by simpa using hk0
  have e2:Lib.idxBy (fun _ y=>p y) d.toList default=(k0:Int):=by unfold Lib.idxBy;rw [e1];simp
  rw [e2] at hIF
  have hkeep:∀ j,j<k0→kp j=true:=fun j hj=>by rw [HK.out];show (!p d[j]!)=true;rw [← tl j (by omega),hall j hj];rfl
  have hdrop:kp k0=false:=by rw [HK.out];show (!p d[k0]!)=false;rw [← tl k0 hk0'];rw [show p d.toList[k0]! = true from ht];rfl
  have hne1:((k0:Int) == -1)=false:=beq_eq_false_iff_ne.2 (by omega)
  have HC:Aside _:=hpo
  have HH:Aside (cZ w bA cap ty d w):=hH
  have HB:Hid (bA<w.heap.size):=hb
  clear hpo hp hH hb hall ht e1 e2 tl
  go_enter Tryz.func49,Tryz.ntmps49
  go_wp2_with (go_at_fn 110;refine hIF.mono ?_;rintro e w' ⟨rfl,hbl⟩)
  have HBL:=Lib.hid hbl
  clear hbl
  go_loopg [5,6,7] d.size (fun gg s5 s6 _ wr=>∃ (i j:Nat) (dk:Array Kz.Mv),s5=.int .i64 i∧s6=.int .i64 j∧j≤d.size∧d.size-j≤gg∧Aside (cZ w bA cap ty dk wr)∧Aside (KeptInv kp d j i dk))
  case atStart=>exact ⟨k0,k0+1,d,rfl,by go_num,by omega,by omega,HH.out.below HB.out HBL.out,KeptInv.start hkeep hdrop⟩
  case round =>
   obtain ⟨i,j,dk,rfl,rfl,hjd,hgg,W2,I2⟩:=hrel
   have hI:=I2.out
   have hij:=hI.lt
   have hds:=hI.size
   by_cases hlt:j<d.size
   ·have hltz:(j:Int)<(d.size:Int):=by omega
    have c0:=(W2.out.cell (j:=j) (by omega) 0 (by omega)).1
    have c1:=(W2.out.cell (j:=j) (by omega) 1 (by omega)).1
    have c2:=(W2.out.cell (j:=j) (by omega) 2 (by omega)).1
    have c3:=(W2.out.cell (j:=j) (by omega) 3 (by omega)).1
    have c4:=(W2.out.cell (j:=j) (by omega) 4 (by omega)).1
    simp only [hI.high j (by omega),b9,List.getElem_cons_succ,List.getElem_cons_zero,Nat.add_zero] at c0 c1 c2 c3 c4
    clear hI
    generalize hu:d[j]! = u at c0 c1 c2 c3 c4
    have C:Aside (d[j]! = u):=hu
    clear hu
    have hW1:cZ w bA cap ty dk (wr.alloc (Obj.cells #[Value.int IntKind.i8 u.az,Value.int IntKind.i8 u.to,Value.int IntKind.u8 u.bP,Value.int IntKind.u8 u.aW,Value.bool u.bS] 47)) :=
     W2.out.below HB.out ((Below.refl _ _).alloc (Nat.le_refl _) _)
    have hcall:Calls Tryz.prog g (#[Value.agg #[Value.int IntKind.i8 u.az,Value.int IntKind.i8 u.to,Value.int IntKind.u8 u.bP,Value.int IntKind.u8 u.aW,Value.bool u.bS]]++lb) _ _:=HC.out _ dk u hW1
    have HW1:=Lib.hid hW1
    clear hW1
    cases hq:p u with
    | false =>
     rw [hq] at hcall
     have HCALL:=Lib.hid hcall
     clear hcall
     go_wp2_with fail
     refine HCALL.out.mono ?_
     rintro e w2 ⟨rfl,hb2⟩
     have hW2:=HW1.out.below HB.out hb2
     have r0:=hW2.cell (j:=i) (by omega) 0 (by omega)
     have r1:=hW2.cell (j:=i) (by omega) 1 (by omega)
     have r2:=hW2.cell (j:=i) (by omega) 2 (by omega)
     have r3:=hW2.cell (j:=i) (by omega) 3 (by omega)
     have r4:=hW2.cell (j:=i) (by omega) 4 (by omega)
     simp only [Nat.add_zero] at r0
     obtain ⟨r0,f0⟩:=r0
     obtain ⟨r1,f1⟩:=r1
     obtain ⟨r2,f2⟩:=r2
     obtain ⟨r3,f3⟩:=r3
     obtain ⟨r4,f4⟩:=r4
     have hcs:∀ c,w2.cell? ⟨wr.heap.size,c,none⟩=(#[Value.int IntKind.i8 u.az,Value.int IntKind.i8 u.to,Value.int IntKind.u8 u.bP,Value.int IntKind.u8 u.aW,Value.bool u.bS]:Array Value)[c]? := fun c=>by
      rw [hb2.cell (p:=⟨wr.heap.size,c,none⟩) (by simp),Kz.aD (heap_alloc_new wr _)]
     have b0:=hcs 0
     have b1:=hcs 1
     have b2:=hcs 2
     have b3:=hcs 3
     have b4:=hcs 4
     simp at b0 b1 b2 b3 b4
     have HW2:=Lib.hid hW2
     clear hcs hb2 hW2
     go_wp2_with fail
     go_roundg (d.size-(j+1))
     case measure=>omega
     case rel =>
      refine ⟨i+1,j+1,dk.setIfInBounds i u,by go_num,by go_num,by omega,Nat.le_refl _,HW2.out.put (i:=i) (by omega) (by omega) u,(show Aside _ from ?_)⟩
      have:=I2.out.keep hlt (by rw [HK.out];show (!p d[j]!)=true;rw [C.out,hq];rfl)
      rwa [C.out] at this
    | true =>
     rw [hq] at hcall
     have HCALL:=Lib.hid hcall
     clear hcall
     go_wp2_with fail
     refine HCALL.out.mono ?_
     rintro e w2 ⟨rfl,hb2⟩
     have HW2:=Lib.hid (HW1.out.below HB.out hb2)
     clear hb2
     go_wp2_with fail
     go_roundg (d.size-(j+1))
     case measure=>omega
     case rel=>exact ⟨i,j+1,dk,rfl,by go_num,by omega,Nat.le_refl _,HW2.out,I2.out.skip (by rw [HK.out];show (!p d[j]!)=false;rw [C.out,hq];rfl)⟩
   ·obtain rfl:j=d.size:=by omega
    have hltz:¬ (d.size:Int)<(d.size:Int):=by omega
    have hcl:∀ ty,(Builtin.clear_ #[34] ty #[.slice (some ⟨bA,i * 5,none⟩) (d.size-i) (cap-i)]).run Tryz.prog wr=.ok (.tuple #[]) (wr.setCells bA (i * 5) (Builtin.zeroCells jI (d.size-i)).toList):=by
     obtain ⟨cur,h1,h2,h3⟩:=W2.out.row
     refine tQ wr bA (i * 5) (d.size-i) (cap-i) (by omega) (fun t ht=>?_) (fun t ht=>Kz.fc h1)
     rw [Kz.aD h1]
     have:d.size * 5≤cap * 5:=Nat.mul_le_mul_right 5 hcap
     have h5:(d.size-i) * 5=d.size * 5-i * 5:=Nat.sub_mul _ _ _
     rw [Array.getElem?_eq_getElem (by omega)]
     rfl
    have hid:i≤d.size:=by omega
    clear hI
    go_wp2
    go_ret
    have hI:=I2.out
    refine ⟨by rw [hI.len];rfl,?_⟩
    have:=W2.out.tail (i:=i) (n:=d.size-i) (by omega) (by omega) _ (lX (d.size-i))
    have e:keptUpTo kp d d.size=dk.toList.take i:=by
     have hsz':=hI.size
     apply List.ext_getElem?
     intro j
     by_cases hj:j<i
     ·rw [hI.low j hj,List.getElem?_take_of_lt hj,getElem!_pos dk j (by omega),I' (by simp;omega)]
      simp
     ·rw [List.getElem?_eq_none (by rw [hI.len];omega),List.getElem?_eq_none (by simp;omega)]
    rw [e]
    exact this
end Go.Proofs
end
noncomputable section
namespace Kz
open Go Go.RowKit Go.Proofs
set_option maxRecDepth 100000
def B46:aw:=gN Pz (fun _ _=>[]) [(47,RX)] [] []
theorem aiS:aV B46:=ak aj ⟨Vx,trivial⟩ trivial trivial
theorem P46 (m:Mv) (p:Pos) (h:(uK p m&&true)=true):PS Pz 46 [Mv.av m,.ptrf (Pos.av p)] (dB.res (!fT p m)):=xg (n:=14) aiS (by kernel_rfl) (by kernel_rfl) (by kernel_rfl) h
theorem t29 {p:Pos} (hp:aO p):SF p=true:=ao (t62 hp) fun _=>rfl
def fX (p:Pos):M':=bif VE p then [] else AO p ((eX p).filter (fT p))
end Kz
namespace Go.Proofs
open Go.Shelf Go.RowKit Go.Lib Go.Sort Kz
theorem Ok {g:Gh} {tk:List Nat} {w:World} {p:Pos} {cs:List Value} (h:ax g tk w (bp (Pos.av p)) cs):cs.length=88:=by
 change ax g tk w [.int .u8 p.variant,.ints .u8 64 p.ae,.u64 p.ab,.ints .u8 12 p.af,.int .u8 p.aa,.ints .i8 4 p.ai,.int .i8 p.ah,.ints .u8 2 p.ag,.int .i64 p.half,.int .i64 p.full] cs at h
 obtain ⟨x1,r1,e1,q1,h1⟩:=h.inv_one rfl
 obtain ⟨l2,r2,e2,h2⟩:=h1.bY
 obtain ⟨x3,r3,e3,q3,h3⟩:=h2.inv_one rfl
 obtain ⟨l4,r4,e4,h4⟩:=h3.bY
 obtain ⟨x5,r5,e5,q5,h5⟩:=h4.inv_one rfl
 obtain ⟨l6,r6,e6,h6⟩:=h5.bY
 obtain ⟨x7,r7,e7,q7,h7⟩:=h6.inv_one rfl
 obtain ⟨l8,r8,e8,h8⟩:=h7.bY
 obtain ⟨x9,r9,e9,q9,h9⟩:=h8.inv_one rfl
 obtain ⟨x10,r10,e10,q10,h10⟩:=h9.inv_one rfl
 have e11:=h10.cT
 rw [e1,e2,e3,e4,e5,e6,e7,e8,e9,e10,e11]
 simp [l2,l4,l6,l8]
structure Kept (w w1 W:World):Prop where
 b:RowKit.Below w.heap.size w W
 s:w1.heap.size≤W.heap.size
 p:W.heap[w.heap.size]?=w1.heap[w.heap.size]?
theorem Kept.drew {w w1 W:World} (h:Kept w w1 W):Kept w w1 W.drew:=⟨h.b.drew,h.s,h.p⟩
theorem Mt {w W W':World} {l:M'} {v:Value} (hb:w.heap.size≤W.heap.size) (h:aL (sr W W') [] W' (.list .mv l .fresh) v):aL (sr w W') [] W' (.list .mv l .fresh) v:=by
 cases h with
 | list hn hE hS hT hC =>
 refine .list hn (by rw [eU hE];exact hU _ _ _ _) (hS.imp id fun ⟨c,o,e1,e2,e3⟩=>⟨c,o,e1,fun j x hj=>?_,fun f=>?_⟩) (fun k e=>by cases e) hC
 ·obtain ⟨k1,k2,k3⟩:=e2 j x hj
  exact ⟨k1,Nat.le_trans hb k2,k3⟩
 ·exact Nat.le_trans hb (e3 f)
theorem Nj {w0 W:World} {b cap:Nat} {ty:TypeId} {l:M'} (h:cZ w0 b cap ty l.toArray W) (hc:l.length≤cap):aL (c9 W) [] W (.list .mv l .arg) (.slice (some ⟨b,0,none⟩) l.length cap):=by
 obtain ⟨cur,c1,c2,c3⟩:=h.row
 refine .list (cs:=l.flatMap b9) rfl (hU _ _ _ _) (.inr ⟨b,0,rfl,fun j x hj=>?_,fun f=>absurd rfl f⟩) (fun k e=>by cases e) hc
 have hjl:j<l.length * 5:=by rw [← dQ];exact (C'.1 hj).1
 have hdm:j=j / 5 * 5+j % 5:=by omega
 have hq5:j / 5<l.length:=by omega
 have hfl:=fI l (j / 5) (j % 5) hq5 (Nat.mod_lt _ (by omega))
 rw [← hdm,hj] at hfl
 refine ⟨?_,show b<W.heap.size from aC c1⟩
 rw [aD c1,Nat.zero_add]
 have h3:=c3 (j / 5) (j % 5) (by simpa using hq5) (Nat.mod_lt _ (by omega))
 rw [← hdm] at h3
 rw [h3,hfl]
 congr 2
 have ea:l.toArray[j / 5]! = l[j / 5]:=by simp [hq5]
 have eb:l[j / 5]! = l[j / 5]:=by simp [hq5]
 rw [ea,eb]
set_option maxHeartbeats 4000000 in
set_option maxRecDepth 100000 in
theorem SV (p:Pos) (hp:aO p) (k:Nat) (zE:∀ w,(Go.sizeOf 31).run Tryz.prog w=.ok k w) (hk:k=88):bJ Tryz.prog 21 [Pos.av p] (.list .mv (fX p) .fresh):=by
 intro w bG hg hr
 obtain ⟨bG⟩:=bG
 cases hr with
 | cons q1 r1 =>
 cases r1
 obtain ⟨pcs,rfl,hpc⟩:=aL.eE (l:=bp (Pos.av p)) q1
 clear q1
 refine callsIn_wide.2 ?_
 have aE:∀ w,(isAgg 31).run Tryz.prog w=.ok true w:=Tryz.isAgg31
 have hlen:pcs.toList.length=k:=(Ok hpc).trans hk.symm
 obtain ⟨w1,hw1⟩:∃ w1,w1=w.alloc (Obj.cells pcs 31):=⟨_,rfl⟩
 have hs1:w1.heap.size=w.heap.size+1:=by rw [hw1];simp
 have hp1:w1.heap[w.heap.size]?=some (.cells pcs 31 (0,0)):=by rw [hw1];exact heap_alloc_new w _
 have hb1:RowKit.Below w.heap.size w w1:=by rw [hw1];exact (Below.refl _ w).alloc (Nat.le_refl _) _
 have ld:∀ W,Kept w w1 W→Sem.run Tryz.prog (loadCellsFrom ⟨w.heap.size,0,none⟩ 0 k #[]) W=.ok pcs W:=fun W hW=>by
  have h:=run_loadCellsFrom_list Tryz.prog _ _ pcs.toList k hlen (fun c v hc=>by
   rw [Addr.add_lit,aD (hW.p.trans hp1),Nat.zero_add]
   simpa using hc)
  simpa using h
 have r0:∀ W,Kept w w1 W→aL (c9 W) [] W (Pos.av p) (.agg pcs):=fun W hW=>.agg (jb hpc)
 have g0:∀ W,Kept w w1 W→eY W:=fun W hW=>globOk_at hg hW.b.size hW.b.block
 have k11:∀ W,Kept w w1 W→Calls Tryz.prog 29 #[.agg pcs] W fun e w'=>e=.returned (.bool (VE p))∧Kept w w1 w':=fun W hW=>by
  have h:=(P29 p (t29 hp)).1
  unfold bJ at h
  refine Calls.mono (callsIn_wide.1 (h W #[.agg pcs] (g0 W hW) (.cons (r0 W hW) .nil))) ?_
  rintro e w' ⟨x,rfl,hb,hx⟩
  cases hx
  have:=hW.s
  exact ⟨rfl,hW.b.trans (hb.mono hW.b.size),Nat.le_trans hW.s hb.size,(hb.block _ (by omega)).trans hW.p⟩
 have hK1:Kept w w1 w1:=⟨hb1,Nat.le_refl _,rfl⟩
 have hll:=wz hp
 have hfl:((eX p).filter (fT p)).length≤(eX p).length:=List.length_filter_le _ _
 have k18:∀ W,Kept w w1 W→Calls Tryz.prog 30 #[.agg pcs] W fun e w'=>∃ a cap,e=.returned (.slice a (eX p).length cap)∧Hid (Kept w w1 w')∧Hid (lD W w' a cap (eX p)):=fun W hW=>by
  refine Calls.mono (Zx p hp W (g0 W hW) (.agg pcs) (r0 W hW)) ?_
  rintro e w' ⟨a,cap,rfl,hb,hF⟩
  have:=hW.s
  exact ⟨a,cap,rfl,⟨hW.b.trans (hb.mono hW.b.size),Nat.le_trans hW.s hb.size,(hb.block _ (by omega)).trans hW.p⟩,hF⟩
 have k33:∀ W u,Kept w w1 W→Calls Tryz.prog 46 (#[.agg (b9 u).toArray]++#[.pointer (some ⟨w.heap.size,0,none⟩)]) W fun e w'=>e=.returned (.bool (!fT p u))∧RowKit.Below W.heap.size W w':=fun W u hW=>by
  have h:=(P46 u p (by rw [t47 hp.v0];rfl)).1
  unfold bJ at h
  obtain ⟨args,ha⟩:∃ args:Array Value,args=#[Value.agg (b9 u).toArray]++#[Value.pointer (some ⟨w.heap.size,0,none⟩)]:=⟨_,rfl⟩
  rw [← ha]
  refine Calls.mono (callsIn_wide.1 (h W args (g0 W hW) ?_)) ?_
  ·have e:args.toList=[Value.agg (b9 u).toArray,Value.pointer (some ⟨w.heap.size,0,none⟩)]:=by rw [ha];simp
   rw [e]
   have r1:aL (c9 W) [] W (Mv.av u) (Value.agg (b9 u).toArray) := .agg (pZ _ _ _ u)
   refine .cons r1 (.cons (.ptrf (cs:=pcs.toList) (jb hpc) ?_) .nil)
   intro j x hj
   have hs:=hW.s
   refine ⟨?_,show w.heap.size<W.heap.size by omega⟩
   rw [aD (hW.p.trans hp1),Nat.zero_add]
   simpa using hj
  ·rintro e w' ⟨x,rfl,hb,hx⟩
   cases hx
   exact ⟨rfl,hb⟩
 have k35:∀ W W3 a cap,Kept w w1 W→Kept w w1 W3→lD W W3 a cap (eX p)→Calls Tryz.prog 49 #[.slice a (eX p).length cap,.func (.func 46) #[] #[.pointer (some ⟨w.heap.size,0,none⟩)]] W3 fun e w'=>∃ a',e=.returned (.slice a' ((eX p).filter (fT p)).length cap)∧Hid (Kept w w1 w')∧Hid (aL (c9 w') [] w' (.list .mv ((eX p).filter (fT p)) .arg) (.slice a' ((eX p).filter (fT p)).length cap)):=fun W W3 a cap hW hW3 hF=>by
  rcases hF with ⟨rfl,hl0,rfl⟩ | ⟨b,ty,rfl,k1,k2,k3,k4,hrow⟩
  ·have el:(eX p).length=0:=by rw [hl0];rfl
   have e0:(eX p).filter (fT p)=[]:=by rw [hl0];rfl
   rw [el,e0]
   refine (Tz none 0 _ W3).mono ?_
   rintro e w' ⟨rfl,rfl⟩
   exact ⟨none,rfl,hW3,.list (cs:=[]) rfl .nil (.inl rfl) (fun k e=>by cases e) (Nat.le_refl _)⟩
  ·have hsW:=hW.s
   have hd:=abP (fun u => !fT p u) 46 #[.pointer (some ⟨w.heap.size,0,none⟩)] (fun _ _=>rfl) b cap (eX p).toArray W3 ty k2 hrow (by simpa using k3) k4 (fun W' dk u hW'=>by
    have hK:Kept w w1 W':=⟨⟨hW'.os.trans hW3.b.os,hW'.tape.trans hW3.b.tape,hW'.output.trans hW3.b.output,Nat.le_trans hW3.b.size hW'.size,fun q hq=>by
     have:=hW3.b.size
     rw [hW'.other q (by omega) (by omega),hW3.b.block q hq]⟩,Nat.le_trans hW3.s hW'.size,by
     have:=hW3.s
     rw [hW'.other _ (by omega) (by omega),hW3.p]⟩
    exact k33 W' u hK)
   simp only [List.size_toArray,Bool.not_not] at hd
   refine hd.mono ?_
   rintro e w' ⟨rfl,hR⟩
   refine ⟨_,rfl,⟨⟨hR.os.trans hW3.b.os,hR.tape.trans hW3.b.tape,hR.output.trans hW3.b.output,Nat.le_trans hW3.b.size hR.size,fun q hq=>by
     have:=hW3.b.size
     rw [hR.other q (by omega) (by omega),hW3.b.block q hq]⟩,Nat.le_trans hW3.s hR.size,by
     have:=hW3.s
     rw [hR.other _ (by omega) (by omega),hW3.p]⟩,Nj hR (by omega)⟩
 have k34:∀ W v,Kept w w1 W→aL (c9 W) [] W (.list .mv ((eX p).filter (fT p)) .arg) v→Calls Tryz.prog 48 #[.agg pcs,v] W fun e w'=>∃ x,e=.returned x∧Hid (RowKit.Below w.heap.size w w')∧Hid (aL (sr w w') [] w' (.list .mv (AO p ((eX p).filter (fT p))) .fresh) x):=fun W v hW hv=>by
  have h:=Xu p ((eX p).filter (fT p)) (by unfold oZ;omega)
  unfold bJ at h
  refine Calls.mono (callsIn_wide.1 (h W #[.agg pcs,v] (g0 W hW) (.cons (r0 W hW) (.cons hv .nil)))) ?_
  rintro e w' ⟨x,rfl,hb,hx⟩
  exact ⟨x,rfl,hW.b.trans (hb.mono hW.b.size),Mt hW.b.size hx⟩
 have K30:Aside _:=k18
 have K49:Aside _:=k35
 have K48:Aside _:=k34
 clear k18 k33 k35 k34 hll hfl
 have LD:Aside _:=ld
 have K29:Aside _:=k11
 clear ld k11 hg hk hlen
 have l1:Sem.run Tryz.prog (loadCellsFrom { block:=w.heap.size,off:=0,spot:=none } 0 k #[]) (w.alloc (Obj.cells pcs 31))=.ok pcs (w.alloc (Obj.cells pcs 31)):=by rw [← hw1];exact LD.out w1 hK1
 have c11:=K29.out w1 hK1
 rw [hw1] at c11
 have HW1:=Lib.hid hw1
 have HS1:=Lib.hid hs1
 have HP1:=Lib.hid hp1
 have HB1:=Lib.hid hb1
 have R0:=Lib.hid r0
 have G0:=Lib.hid g0
 clear hK1 hs1 hp1 hb1 r0 g0 hw1
 go_enter Tryz.func21,Tryz.ntmps21
 go_wp2_with fail
 refine c11.mono ?_
 rintro e w2 ⟨rfl,hK2⟩
 rw [← HW1.out] at hK2
 have HK2:=Lib.hid hK2
 clear l1 hK2 c11
 cases hN:VE p with
 | true =>
  go_wp2_with fail
  go_ret
  have hK:=HK2.out
  refine ⟨_,rfl,hK.b,?_⟩
  unfold fX
  rw [hN]
  exact .list (cs:=[]) rfl .nil (.inl rfl) (fun k e=>by cases e) (Nat.le_refl _)
 | false =>
  have HKd:Hid (Kept w w1 w2.drew):=HK2.out.drew
  have l2:=LD.out w2.drew HKd.out
  go_wp2_with fail
  go_region_with (first
   | (go_at_call_of 30 (Value.agg pcs);refine (K30.out w2.drew HKd.out).mono ?_;rintro e w3 ⟨a3,cap3,rfl,HK3,HF3⟩;have l3:=LD.out w3 HK3.out)
   | (go_at_call_of 49 (Value.slice a3 (eX p).length cap3);refine (K49.out w2.drew w3 a3 cap3 HKd.out HK3.out HF3.out).mono ?_;rintro e w4 ⟨a4,rfl,HK4,HR4⟩;have l4:=LD.out w4 HK4.out)
   | (go_at_call_of 48 (Value.agg pcs);refine (K48.out w4 _ HK4.out HR4.out).mono ?_;rintro e w5 ⟨x5,rfl,HB5,HR5⟩))
  all_goals
   go_wp2_with fail
   go_ret
   refine ⟨_,rfl,HB5.out,?_⟩
   unfold fX
   rw [hN]
   exact HR5.out
end Go.Proofs
namespace Kz
open Go Go.RowKit Go.Proofs
theorem Tu (p:Pos) (hp:aO p):PS Pz 21 [Pos.av p] (.list .mv (fX p) .fresh) :=
 ⟨SV p hp 88 Tryz.sizeOf31 rfl,by
  have h:(match Pz.funcs[21]? with
   | some fn=>fn.body.isSome
   | none=>false)=true:=by kernel_rfl
  split at h
  ·rename_i fn hf
   exact ⟨fn,hf,h⟩
  ·cases h⟩
end Kz
end
noncomputable section
namespace Kz
open Go Go.RowKit
def Hc (a b x:Int):Bool:=decide (a≤x)&&decide (x≤b)
theorem Oa {a b x:Int}:Hc a b x=true ↔ a≤x∧x≤b:=by unfold Hc;simp
def nE (p:Pos):Bool :=
 Hc 0 255 p.variant&&(p.ae.length==64&&p.ae.all (Hc 0 255))&&(p.af.length==12&&p.af.all (Hc 0 255))&&Hc 0 255 p.aa&&(p.ai.length==4&&p.ai.all (Hc (-128) 127))&&Hc (-128) 127 p.ah&&(p.ag.length==2&&p.ag.all (Hc 0 255))&&Hc (-9223372036854775808) 9223372036854775807 p.half&&Hc (-9223372036854775808) 9223372036854775807 p.full
theorem lU {p:Pos} (h:nE p=true):aO p:=by
 unfold nE at h
 simp only [E',beq_iff_eq,List.all_eq_true,Oa] at h
 obtain ⟨⟨⟨⟨⟨⟨⟨⟨a,b⟩,c⟩,d⟩,e⟩,f⟩,g⟩,i⟩,j⟩:=h
 exact ⟨a.1,a.2,b.1,b.2,c.1,c.2,d.1,d.2,e.1,e.2,f.1,f.2,g.1,g.2,i,j⟩
end Kz
end
noncomputable section
namespace Kz
open Go Go.RowKit Go.Proofs
def ais:KT:=[(159,6,[(0,[0]),(1,[2])])]
def aeq:aw:=bO Pz ais [(178,MF)] [] []
theorem YD:aV aeq:=ak aj ⟨Ua,trivial⟩ trivial trivial
def Up (a:Int):Y':=((yG a).1)
def Jh (a:Int):Bool:=(vC (a)&&true)
theorem abZ (a:Int) (h:Jh a=true):PS Pz 159 [.int .u8 a] (dS.res (Up a)):=pq14 YD h
def aa2:GT:=g1 (dI .u8) (fun a=>cg (Jh a) (dS.res (Up a)))
theorem afP:Sound Pz 159 aa2:=aF fun a=>ay (abZ a)
def K99:KT:=[(99,12,[(0,[0,1]),(1,[4])])]
def B99:aw:=bO Pz K99 [(159,aa2)] [] []
theorem ad4:aV B99:=ak aj ⟨afP,trivial⟩ trivial trivial
def N99 (a:Int) (b:Int):Bool:=(bif !Up a==(ByteArray.mk #[]).data.toList then (decide (b≤1)) else (false))
def Re (a:Int) (b:Int):Bool:=(Jh (a)&&true)
theorem P99 (a:Int) (b:Int) (h:Re a b=true):PS Pz 99 [.int .u8 a,.int .u8 b] (dB.res (N99 a b)):=pq14 ad4 h
def Vs:GT:=g2 (dI .u8) (dI .u8) (fun a b=>cg (Re a b) (dB.res (N99 a b)))
theorem Xg:Sound Pz 99 Vs:=aT fun a b=>ay (P99 a b)
def aeR:KT:=[(208,2,[(0,[0]),(1,[0])])]
def acL:aw:=bO Pz aeR [] [] []
theorem Zb:aV acL:=ak aj trivial trivial trivial
def Xv  : List Int:=(li [0,100,320,330,500,900,0])
def WX  : Bool:=true
theorem aci  (h:WX =true):PS Pz 208 [] ((ZN .i64 7).res (Xv )):=pq14 Zb h
def V7:GT:=g0  (.ret ((ZN .i64 7).res (Xv )))
theorem agA:Sound Pz 208 V7:=sd (bK (aci rfl))
def ahu:KT:=[(160,8,[(0,[0]),(1,[0,4]),(2,[2]),(3,[2])])]
def ae2:aw:=bO Pz ahu [(208,V7)] [] []
theorem aaS:aV ae2:=ak aj ⟨agA,trivial⟩ trivial trivial
def F5 (a:Int):Int:=(bif decide (a>6) then (0) else ((li [0,100,320,330,500,900,0]).getD a.toNat 0))
def DI (a:Int):Bool:=(bif decide (a>6) then true else (decide (0≤a)&&decide (a<Int.ofNat 7)&&true))
theorem ah0 (a:Int) (h:DI a=true):PS Pz 160 [.int .u8 a] ((dI .i64).res (F5 a)):=pq14 aaS h
def AW:GT:=g1 (dI .u8) (fun a=>cg (DI a) ((dI .i64).res (F5 a)))
theorem Ek:Sound Pz 160 AW:=aF fun a=>ay (ah0 a)
def ab6:KT:=[(209,8,[(0,[0]),(1,[2])])]
def ab7:aw:=bO Pz ab6 [] [] []
theorem abt:aV ab7:=ak aj trivial trivial trivial
def Ec (a:Int):Int:=(if 0>if wr .i64 (a-4)>wr .i64 (3-a) then wr .i64 (a-4) else wr .i64 (3-a) then 0 else if wr .i64 (a-4)>wr .i64 (3-a) then wr .i64 (a-4) else wr .i64 (3-a))
def WD (a:Int):Bool:=true
theorem ahp (a:Int) (h:WD a=true):PS Pz 209 [.int .i64 a] ((dI .i64).res (Ec a)):=pq14 abt h
def Zc:GT:=g1 (dI .i64) (fun a=>.ret ((dI .i64).res (Ec a)))
theorem adw:Sound Pz 209 Zc:=aF fun a=>bK (ahp a rfl)
def ab4:KT:=[(161,16,[(0,[0]),(1,[0,8]),(2,[2]),(3,[2])])]
def afQ:aw:=bO Pz ab4 [(209,Zc)] [] []
theorem W7:aV afQ:=ak aj ⟨adw,trivial⟩ trivial trivial
def JW (a:Int):Int:=(bif decide (a<0) then (-1) else (bif decide (a≥64) then (-1) else (if Ec (wr .i64 (a.tdiv 8))>Ec (a.tmod 8) then Ec (wr .i64 (a.tdiv 8)) else Ec (a.tmod 8))))
def Xz (a:Int):Bool:=true
theorem ahh (a:Int) (h:Xz a=true):PS Pz 161 [.int .i64 a] ((dI .i64).res (JW a)):=pq14 W7 h
def Ev:GT:=g1 (dI .i64) (fun a=>.ret ((dI .i64).res (JW a)))
theorem Gm:Sound Pz 161 Ev:=aF fun a=>bK (ahh a rfl)
def acp:KT:=[]
def Xw:aw:=bO Pz acp [] [] []
theorem VJ:aV Xw:=ak aj trivial trivial trivial
def Vg:AV:=AV.vlist true [AV.agg [AV.bm .u8 2,AV.func 210 [] []],AV.agg [AV.bm .u8 8,AV.func 211 [] []],AV.agg [AV.bm .u8 6,AV.func 214 [] []],AV.agg [AV.bm .u8 5,AV.func 216 [] []],AV.agg [AV.bm .u8 4,AV.func 217 [] []]]
def abp:Bool:=true
theorem ahX:cy Xw 14 162 []=Tr.ret Vg:=by kernel_rfl
theorem ail (_:abp=true):PS Pz 162 [] Vg:=lV VJ (by rw [ahX];rfl)
def Ic:GT:=g0 (.ret Vg)
theorem N2:Sound Pz 162 Ic:=sd (bK (ail rfl))
def aae:KT:=[(210,26,[(0,[1,2]),(1,[1,2,5]),(2,[5,11,12]),(3,[5,11,12,13]),(4,[5,6,7,11,12]),(5,[5,11,12]),(6,[5,11,12]),(7,[4])])]
def Vh:aw:=bO Pz aae [(160,AW)] [] []
theorem MM:aV Vh:=ak aj ⟨Ek,trivial⟩ trivial trivial
def Im (p1:Z') (p2:Pos) (x:(Int×Int)):St:=St.mk (an 5 (.int .i64 x.1::(an 5 (.agg [.ints .u8 6 p1]::.int .i64 x.2::(an 13 []))))) (Hp.mk [(pc p2 [])] [] [] 0 0 0)
def IM (p1:Z') (p2:Pos):(Int×Int×Bool)→Out:=fun y=>.exit 0 (St.mk (an 5 (.int .i64 y.1::(an 5 (.agg [.ints .u8 6 p1]::.int .i64 y.2.1::.bool y.2.2::(an 12 []))))) (Hp.mk [(pc p2 [])] [] [] 0 0 0))
def MG (p1:Z') (p2:Pos) (x:(Int×Int)):aI (Int×Int) ((Int×Int×Bool)):=(bif decide (x.2<6) then (aI.go (wr .i64 (x.1+wr .i64 (F5 (wr .u8 x.2) * wr .i64 (p1.getD x.2.toNat 0))),wr .i64 (x.2+1))) else (aI.out ((x.1,x.2,decide (x.2<6)))))
def Lg (p1:Z') (p2:Pos) (x:(Int×Int)):Bool:=(bif decide (x.2<6) then (decide (0≤x.2)&&decide (x.2<Int.ofNat 6)&&(DI (wr .u8 x.2)&&true)) else true)
def rG (p1:Z') (p2:Pos) (x:(Int×Int)):Option ((Int×Int×Bool)):=da (fun x=>bif Lg p1 p2 x then MG p1 p2 x else .bad) many x
abbrev KP {α:Type} (k:Z'→Pos→(Int×Int)→α) (s:St):α:=wP s 0 fun q0=>k (tN (tX (tA (tT s 11)) 0)) q0 ((tI (tT s 5)),(tI (tT s 12)))
theorem Rs (p1:Z') (p2:Pos) (x:(Int×Int)) (r:(Int×Int×Bool)) (h:rG p1 p2 x=some r):aB Pz (bj Pz 210 3) (Im p1 p2 x) (IM p1 p2 r):=smq (m:=12) (fn:=210) MM (KP fun _ _ x=>some x) (fun o=>match o with | .exit 0 s=>some ((tI (tT s 5)),(tI (tT s 12)),(tB (tT s 13))) | _=>none) many x r h
def Hq (b:Code) (s:St):Tr Out:=KP (fun p1 p2 x=>mH b (bj Pz 210 3) s (Im p1 p2 x) (rG p1 p2 x) (IM p1 p2)) s
theorem Nk:∀ b,aZ Pz b (Hq b):=fun _ _ _ h=>bX (Rs _ _ _) h
def ag4:aw:=bO Pz aae [(160,AW)] [(210,3,Hq)] []
theorem Wp:aV ag4:=ak aj ⟨Ek,trivial⟩ ⟨Nk,trivial⟩ trivial
def Ug (a:Pos) (b:Int):Int:=(((rG (List.take 6 (List.drop (scale 6 b).toNat a.af)) a (0,0)).getD default).1)
def KE (a:Pos) (b:Int):Bool:=(decide (0≤b)&&decide (b<Int.ofNat 2)&&((rG (List.take 6 (List.drop (scale 6 b).toNat a.af)) a (0,0)).isSome&&true))
theorem ajx (a:Pos) (b:Int) (h:KE a b=true):PS Pz 210 [Pos.av a,.int .u8 b] ((dI .i64).res (Ug a b)):=pq14 Wp h
def GA:GT:=g2 aY (dI .u8) (fun a b=>cg (KE a b) ((dI .i64).res (Ug a b)))
theorem MQ:Sound Pz 210 GA:=aT fun a b=>ay (ajx a b)
def afA:KT:=[(213,6,[(0,[0]),(1,[2])])]
def ah4:aw:=bO Pz afA [] [] []
theorem aaY:aV ah4:=ak aj trivial trivial trivial
def Vj (a:Int):Int:=(wr .i64 (60 * wr .i64 (a.tdiv 8)))
def aaE (a:Int):Bool:=true
theorem acC (a:Int) (h:aaE a=true):PS Pz 213 [.int .i64 a] ((dI .i64).res (Vj a)):=pq14 aaY h
def Xn:GT:=g1 (dI .i64) (fun a=>.ret ((dI .i64).res (Vj a)))
theorem aex:Sound Pz 213 Xn:=aF fun a=>bK (acC a rfl)
def aiY:KT:=[(211,8,[(0,[1,2]),(1,[4])]),(212,16,[(0,[1,2,3]),(1,[2,7]),(2,[2,7,12]),(3,[6]),(4,[6])])]
def ae4:aw:=bO Pz aiY [(145,jM),(213,Xn)] [] []
theorem WN:aV ae4:=ak aj ⟨ke,aex,trivial⟩ trivial trivial
def Sg (a:Pos) (b:Int):Int:=(bif decide (aX a b 6<0) then (0) else (Vj (aX a b 6)))
def Iq (a:Pos) (b:Int):Bool:=(gT (a) (b) (6)&&true)
theorem afz (a:Pos) (b:Int) (h:Iq a b=true):PS Pz 211 [Pos.av a,.int .u8 b] ((dI .i64).res (Sg a b)):=pq14 WN h
def Ia:GT:=g2 aY (dI .u8) (fun a b=>cg (Iq a b) ((dI .i64).res (Sg a b)))
theorem MN:Sound Pz 211 Ia:=aT fun a b=>ay (afz a b)
def agR:KT:=[(215,6,[(0,[0]),(1,[2])])]
def adS:aw:=bO Pz agR [(161,Ev)] [] []
theorem XN:aV adS:=ak aj ⟨Gm,trivial⟩ trivial trivial
def SS (a:Int):Int:=(wr .i64 (-30 * JW a))
def YO (a:Int):Bool:=true
theorem abT (a:Int) (h:YO a=true):PS Pz 215 [.int .i64 a] ((dI .i64).res (SS a)):=pq14 XN h
def ZD:GT:=g1 (dI .i64) (fun a=>.ret ((dI .i64).res (SS a)))
theorem adO:Sound Pz 215 ZD:=aF fun a=>bK (abT a rfl)
def afX:KT:=[(212,16,[(0,[1,2,3]),(1,[2,7]),(2,[2,7,12]),(3,[6]),(4,[6])]),(214,8,[(0,[1,2]),(1,[4])])]
def agK:aw:=bO Pz afX [(145,jM),(215,ZD)] [] []
theorem Yj:aV agK:=ak aj ⟨ke,adO,trivial⟩ trivial trivial
def SX (a:Pos) (b:Int):Int:=(bif decide (aX a b 6<0) then (0) else (SS (aX a b 6)))
def Hh (a:Pos) (b:Int):Bool:=(gT (a) (b) (6)&&true)
theorem ad2 (a:Pos) (b:Int) (h:Hh a b=true):PS Pz 214 [Pos.av a,.int .u8 b] ((dI .i64).res (SX a b)):=pq14 Yj h
def Ly:GT:=g2 aY (dI .u8) (fun a b=>cg (Hh a b) ((dI .i64).res (SX a b)))
theorem L5:Sound Pz 214 Ly:=aT fun a b=>ay (ad2 a b)
def aiq:KT:=[(216,11,[(0,[1,2]),(1,[4])])]
def afK:aw:=bO Pz aiq [] [] []
theorem Xj:aV afK:=ak aj trivial trivial trivial
def S9 (a:Pos) (b:Int):Int:=(wr .i64 (150 * wr .i64 (a.ag.getD (scale 1 b).toNat 0)))
def Gz (a:Pos) (b:Int):Bool:=(decide (0≤b)&&decide (b<Int.ofNat 2)&&true)
theorem afC (a:Pos) (b:Int) (h:Gz a b=true):PS Pz 216 [Pos.av a,.int .u8 b] ((dI .i64).res (S9 a b)):=pq14 Xj h
def JV:GT:=g2 aY (dI .u8) (fun a b=>cg (Gz a b) ((dI .i64).res (S9 a b)))
theorem MO:Sound Pz 216 JV:=aT fun a b=>ay (afC a b)
def ai2:KT:=[(251,5,[(0,[0]),(1,[2])])]
def afB:aw:=bO Pz ai2 [(259,TM)] [] []
theorem VK:aV afB:=ak aj ⟨aaw,trivial⟩ trivial trivial
def UI (a:BitVec 64):Int:=(ju a)
def Wo (a:BitVec 64):Bool:=true
theorem aiT (a:BitVec 64) (h:Wo a=true):PS Pz 251 [.u64 a] ((dI .i64).res (UI a)):=pq14 VK h
def YK:GT:=g1 dU (fun a=>.ret ((dI .i64).res (UI a)))
theorem agS:Sound Pz 251 YK:=aF fun a=>bK (aiT a rfl)
def aeS:KT:=[(218,12,[(0,[1,2,3]),(1,[6])])]
def ad5:aw:=bO Pz aeS [(147,fD),(251,YK)] [] []
theorem XR:aV ad5:=ak aj ⟨fG,agS,trivial⟩ trivial trivial
def Ru (a:Pos) (b:Int) (c:Int):Int:=(UI (aK a b c))
def KL (a:Pos) (b:Int) (c:Int):Bool:=(ct (a) (b) (c)&&true)
theorem aca (a:Pos) (b:Int) (c:Int) (h:KL a b c=true):PS Pz 218 [Pos.av a,.int .u8 b,.int .u8 c] ((dI .i64).res (Ru a b c)):=pq14 XR h
def YR:GT:=g3 aY (dI .u8) (dI .u8) (fun a b c=>cg (KL a b c) ((dI .i64).res (Ru a b c)))
theorem ai0:Sound Pz 218 YR:=dg fun a b c=>ay (aca a b c)
end Kz
end
