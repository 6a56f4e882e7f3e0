/- Part 6 of the texts under the proof: an abstract interpreter,the summaries of functions,plain laws. -/
import Derived.Test.YtgbndomcmihfkaaGreatDoorC5
import Derived.Shelf.SlicesE.Clone
import Derived.Shelf.SlicesQ.IndexFunc
import Derived.Sort.WalkB12
import Derived.Shelf.SlicesQ.Load
import Derived.Lib.SliceRun
import Derived.Lib.SlKept
import Derived.Lib.Hide
import Derived.Shelf.SlicesE.DeleteFunc
set_option linter.unusedSectionVars false
set_option linter.unusedVariables false
set_option linter.unusedSimpArgs false
set_option linter.unnecessarySimpa false
set_option maxRecDepth 100000
set_option maxHeartbeats 4000000
noncomputable section
namespace Kz
open Go Go.RowKit
theorem scan {R:Type} {bad:Nat→Bool} {lo hi:Nat} {x:Int} {ok:Int→Bool} {st:Int→aI Int R} {isl:R→Bool} (hx:x=(lo:Int)) (hl:lo≤hi+1) (hh:hi<1000)
  (hok:∀ n:Nat,lo≤n→n≤hi+1→ok (n:Int)=true)
  (h1:∀ n:Nat,lo≤n→n≤hi→(bad n=true→∃ r,st (n:Int)=.out r∧isl r=true)∧(bad n=false→st (n:Int)=.go ((n:Int)+1)))
  (h2:∃ r,st ((hi:Int)+1)=.out r∧isl r=false) :
  ∃ r,da (fun x=>bif ok x then st x else .bad) many x=some r∧(isl r=false ↔ ∀ s:Nat,lo≤s→s≤hi→bad s=false):=by
 refine bh (I:=fun x=>∃ n:Nat,x=(n:Int)∧lo≤n∧n≤hi+1∧∀ s,lo≤s→s<n→bad s=false) (μ:=fun x=>((hi:Int)+1-x).toNat) ?_ _ ⟨lo,hx,Nat.le_refl _,hl,fun s a b=>by omega⟩ (by omega)
 rintro _ ⟨n,rfl,a1,a2,a3⟩
 refine ⟨hok n a1 a2,?_⟩
 by_cases hn:n≤hi
 ·obtain ⟨b1,b2⟩:=h1 n a1 hn
  cases hb:bad n with
  | true =>
   obtain ⟨r,e,hr⟩:=b1 hb
   rw [e]
   show (isl r=false ↔ ∀ s:Nat,lo≤s→s≤hi→bad s=false)
   rw [hr]
   exact ⟨fun h=>(by cases h),fun h=>(by rw [h n a1 hn] at hb;cases hb)⟩
  | false =>
   rw [b2 hb]
   refine ⟨⟨n+1,by omega,by omega,by omega,fun s c1 c2=>?_⟩,by dsimp only;omega⟩
   by_cases e:s=n
   ·rw [e];exact hb
   ·exact a3 s c1 (by omega)
 ·have e:n=hi+1:=by omega
  subst e
  obtain ⟨r,e,hr⟩:=h2
  rw [show ((hi+1:Nat):Int)=(hi:Int)+1 by omega,e]
  show (isl r=false ↔ ∀ s:Nat,lo≤s→s≤hi→bad s=false)
  rw [hr]
  exact ⟨fun _ s c1 c2=>a3 s c1 (by omega),fun _=>rfl⟩
theorem nf {b:Bool}:(!b)=false ↔ b=true:=by cases b<;>simp
theorem vu (x:BitVec 64) {k:Nat} (hk:k<64):(x >>> k&&&1#64==0#64)=!x.getLsbD k:=by
 have h:(x >>> k&&&1#64).toNat=(x.getLsbD k).toNat:=by
  rw [BitVec.toNat_and,BitVec.toNat_ushiftRight,Nat.shiftRight_eq_div_pow,show (1#64).toNat=2 ^ 1-1 from rfl,Nat.and_two_pow_sub_one_eq_mod,BitVec.getLsbD,Nat.testBit_eq_decide_div_mod_eq]
  have:=Nat.mod_two_eq_zero_or_one (x.toNat / 2 ^ k)
  rcases this with h | h
  ·rw [show (2:Nat) ^ 1=2 from rfl,h];rfl
  ·rw [show (2:Nat) ^ 1=2 from rfl,h];rfl
 cases hb:x.getLsbD k with
 | true =>
  rw [hb] at h
  have:x >>> k&&&1#64=1#64:=BitVec.eq_of_toNat_eq h
  rw [this];rfl
 | false =>
  rw [hb] at h
  have:x >>> k&&&1#64=0#64:=BitVec.eq_of_toNat_eq h
  rw [this];rfl
theorem n9 (s a b:Int):fU s a b=true ↔ (a≤s∧s≤b)∨(b≤s∧s≤a):=by
 have e:fU s a b=(decide (s≥a)&&decide (s≤b) || decide (s≥b)&&decide (s≤a)):=by
  unfold fU
  cases decide (s≥a)<;>cases decide (s≤b)<;>cases decide (s≥b)<;>cases decide (s≤a)<;>rfl
 rw [e]
 simp only [Bool.or_eq_true,E',decide_eq_true_eq,ge_iff_le]
theorem F9 {l:List Int} {i:Nat} (hi:i<l.length) (j:Nat) (v:Int):(l.set i v).getD j 0=if i=j then v else l.getD j 0:=by
 rw [List.getD_eq_getElem?_getD,List.getD_eq_getElem?_getD,List.getElem?_set]
 split
 ·rename_i e
  subst e
  rfl
 ·rfl
def off (p:Pos) (k r:Int):Pos:=Pos.mk p.variant ((p.ae.set (scale 1 k).toNat 0).set (scale 1 r).toNat 0) p.ab p.af p.aa p.ai p.ah p.ag p.half p.full
theorem Sz {p:Pos} (hp:aO p) (k r:Int):aO (off p k r):=by
 refine ⟨hp.v0,hp.v1,by simp [off,hp.bl],fun x hx=>?_,hp.kl,hp.k0,hp.t0,hp.t1,hp.rl,hp.r0,hp.p0,hp.p1,hp.cl,hp.c0,hp.h0,hp.f0⟩
 rcases List.mem_or_eq_of_mem_set hx with hx | rfl
 ·rcases List.mem_or_eq_of_mem_set hx with hx | rfl
  ·exact hp.b0 _ hx
  ·omega
 ·omega
theorem Tt {p:Pos} (hp:aO p) {k r:Nat} (hk:k<64) (hr:r<64) (s:Nat):(off p k r).ae.getD s 0=if r=s then 0 else if k=s then 0 else p.ae.getD s 0:=by
 have e1:(scale 1 (k:Int)).toNat=k:=by unfold scale;simp
 have e2:(scale 1 (r:Int)).toNat=r:=by unfold scale;simp
 show ((p.ae.set (scale 1 (k:Int)).toNat 0).set (scale 1 (r:Int)).toNat 0).getD s 0=_
 rw [e1,e2,F9 (by simp [hp.bl,hr]),F9 (by simp [hp.bl,hk])]
theorem TD {p:Pos} (hp:aO p) {k r:Nat} (hk:k<64) (hr:r<64) {o:Int} (h1:dn o 6 (p.ae.getD k 0)=false) (h2:dn o 6 (p.ae.getD r 0)=false) (hz:dn o 6 0=false):aK (off p k r) o 6=aK p o 6:=by
 refine BitVec.eq_of_getLsbD_eq fun s hs=>?_
 rw [cm _ _ _ hs,cm _ _ _ hs,Tt hp hk hr]
 split
 ·rename_i e;rw [← e,hz,h2]
 ·split
  ·rename_i e;rw [← e,hz,h1]
  ·rfl
theorem u4 {q:Pos} {o:Int} {k:Nat} (hk:k<64) {n:Nat} (hn:n<64):(cX k&&&aK q o 6).getLsbD n=(iH n k&&dn o 6 (q.ae.getD n 0)):=by
 obtain ⟨_,f6,_⟩:=oE ⟨n,hn⟩ ⟨k,hk⟩
 obtain ⟨_,y6,_⟩:=wj ⟨n,hn⟩ ⟨k,hk⟩
 simp only at f6 y6
 rw [BitVec.getLsbD_and,cm _ _ _ hn,← y6,← f6]
 have:cK 6 0 n k false=iH n k:=by
  have h:∀ a b:Fin 64,cK 6 0 a.val b.val false=iH a.val b.val:=by decide +kernel
  exact h ⟨n,hn⟩ ⟨k,hk⟩
 rw [this]
noncomputable section
variable {q:Pos} (hq:aO q) (ht:q.aa=0∨q.aa=1)
include hq ht
theorem abq {s:Nat} (hs:s<64):∃ r,lW s q 0=some r∧cu r=(q.variant==3&&(cX s&&&aK q (1-q.aa) 6 != 0#64)):=by
 have w1:wr .u8 (1-q.aa)=1-q.aa:=o6 (by omega) (by omega)
 cases hv:q.variant==3 with
 | false =>
  have e:da (fun x=>bif jw s q x then jY s q x else .bad) 1 0=some (.inr (0,false)):=by
   rw [da]
   have:(bif jw s q 0 then jY s q 0 else .bad)=.out (.inr (0,false)):=by
    unfold jw jY
    rw [hv]
    rfl
   rw [this]
  exact ⟨_,jD _ many _ _ (by unfold many;omega) e,rfl⟩
 | true =>
  obtain ⟨r,e,hr⟩:=scan (bad:=fun n=>iH n s&&dn (1-q.aa) 6 (q.ae.getD n 0)) (lo:=0) (hi:=63) (x:=0) (ok:=jw s q) (st:=jY s q) (isl:=cu) rfl (by omega) (by omega) (fun n _ a2=>by
    unfold jw
    rw [hv,w1]
    refine aq (fun hc=>?_) fun _=>rfl
    have hc:(n:Int)<64:=by simpa using hc
    rw [(kj hq (c:=1-q.aa) (k:=6) (by omega) (by omega) (by omega) (show n<64 by omega)).1]
    rfl) (fun n _ a2=>by
    obtain ⟨e1,e2⟩:=kj hq (c:=1-q.aa) (k:=6) (by omega) (by omega) (by omega) (show n<64 by omega)
    unfold jY
    rw [hv,w1,e2,aN (n:=(n:Int)+1) (by omega) (by omega),decide_eq_true (show (n:Int)<64 by omega)]
    cases iH n s<;>cases dn (1-q.aa) 6 (q.ae.getD n 0)<;>exact ⟨fun h=>by first | (cases h;done) | exact ⟨_,rfl,rfl⟩,fun h=>by first | (cases h;done) | rfl⟩)
    ⟨_,by unfold jY;rw [decide_eq_false (show ¬ (((63:Nat):Int)+1<64) by omega)];rfl,rfl⟩
  refine ⟨r,e,?_⟩
  rw [Bool.true_and]
  cases hz:(cX s&&&aK q (1-q.aa) 6 != 0#64) with
  | false =>
   refine hr.2 fun n _ a2=>?_
   have hz:cX s&&&aK q (1-q.aa) 6=0#64:=by simpa using hz
   rw [← u4 hs (show n<64 by omega),hz]
   simp
  | true =>
   cases hl:cu r with
   | true=>rfl
   | false =>
    have hr:=hr.1 hl
    have:cX s&&&aK q (1-q.aa) 6=0#64:=BitVec.eq_of_getLsbD_eq fun j hj=>by
     rw [u4 hs hj]
     have:=hr j (by omega) (by omega)
     rw [this]
     simp
    rw [this] at hz
    cases hz
theorem Dg {s:Nat} (hs:s<64):uE q s=true∧tE q s=((q.variant==3&&(cX s&&&aK q (1-q.aa) 6 != 0#64)) || (oP q s (1-q.aa)==0#64)):=by
 have w1:wr .u8 (1-q.aa)=1-q.aa:=o6 (by omega) (by omega)
 obtain ⟨o1,o2⟩:=Kr hq ht hs (c:=1-q.aa) (by omega)
 obtain ⟨l1,l2⟩:=aM (abq hq ht hs)
 unfold uE tE
 rw [l1,l2,w1,o1,o2]
 cases (q.variant==3&&(cX s&&&aK q (1-q.aa) 6 != 0#64))<;>exact ⟨rfl,rfl⟩
end
theorem EW (p1:Pos) (p2:List Int) (p3:Pos) (p4 p5:BitVec 64) {p6 p7 x:Int} {lo hi:Nat} (hx:x=lo) (hm:(if p7>p6 then p7 else p6)=(hi:Int)) (hl:lo≤hi+1) (hh:hi<64):∃ r,dN p1 p2 p3 p4 p5 p6 p7 x=some r∧(cu r=false ↔ ∀ s:Nat,lo≤s→s≤hi→p4.getLsbD s=false):=by
 refine scan (bad:=fun s=>p4.getLsbD s) hx hl (by omega) (fun _ _ _=>rfl) (fun n a1 a2=>?_) ?_
 ·unfold xx
  rw [hm,decide_eq_true (show (n:Int)≤hi by omega),cP (by omega) (by omega),show ((n:Int)).toNat=n by omega,vu _ (by omega),Bool.not_not,aN (by omega) (by omega)]
  exact ⟨fun h=>by rw [h];exact ⟨_,rfl,rfl⟩,fun h=>by rw [h];rfl⟩
 ·unfold xx
  rw [hm,decide_eq_false (by omega)]
  exact ⟨_,rfl,rfl⟩
theorem Fq (p1:Pos) (p2:List Int) (p3:Pos) (p4 p5:BitVec 64) (p6 p7:Int) {p8 p9 x:Int} {lo hi:Nat} (hx:x=lo) (hm:(if p9>p8 then p9 else p8)=(hi:Int)) (hl:lo≤hi+1) (hh:hi<64):∃ r,dH p1 p2 p3 p4 p5 p6 p7 p8 p9 x=some r∧(cu r=false ↔ ∀ s:Nat,lo≤s→s≤hi→p4.getLsbD s=false):=by
 refine scan (bad:=fun s=>p4.getLsbD s) hx hl (by omega) (fun _ _ _=>rfl) (fun n a1 a2=>?_) ?_
 ·unfold xT
  rw [hm,decide_eq_true (show (n:Int)≤hi by omega),cP (by omega) (by omega),show ((n:Int)).toNat=n by omega,vu _ (by omega),Bool.not_not,aN (by omega) (by omega)]
  exact ⟨fun h=>by rw [h];exact ⟨_,rfl,rfl⟩,fun h=>by rw [h];rfl⟩
 ·unfold xT
  rw [hm,decide_eq_false (by omega)]
  exact ⟨_,rfl,rfl⟩
theorem Fw (p1:Pos) (p2:List Int) (p3:Pos) (p4 p5:BitVec 64) (p6 p7 p8 p9:Int) {p10 p11 x:Int} {lo hi:Nat} (hx:x=lo) (hm:(if p11>p10 then p11 else p10)=(hi:Int)) (hl:lo≤hi+1) (hh:hi<64):∃ r,dO p1 p2 p3 p4 p5 p6 p7 p8 p9 p10 p11 x=some r∧(cu r=false ↔ ∀ s:Nat,lo≤s→s≤hi→((p1.variant==3&&(cX s&&&p5 != 0#64)) || (oP p3 s (wr .u8 (1-p1.aa))==0#64))=true):=by
 have h:=scan (R:=Int ⊕ (Int×Bool)) (isl:=cu) (ok:=nO p1 p2 p3 p4 p5 p6 p7 p8 p9 p10 p11) (st:=rf p1 p2 p3 p4 p5 p6 p7 p8 p9 p10 p11) (bad:=fun s => !((p1.variant==3&&(cX s&&&p5 != 0#64)) || (oP p3 s (wr .u8 (1-p1.aa))==0#64))) hx hl (by omega) (fun n _ _=>by
   unfold nO
   repeat' (first | with_reducible rfl | with_reducible exact t199 _ | with_reducible exact t205 _ _ _ | refine ao ?_ (fun _=>?_) | refine aq (fun _=>?_) (fun _=>?_))) (fun n a1 a2=>by
   unfold rf BK
   rw [hm,decide_eq_true (show (n:Int)≤hi by omega),aN (by omega) (by omega),show (oP p3 n (wr .u8 (1-p1.aa)) != 0#64)=!(oP p3 n (wr .u8 (1-p1.aa))==0#64) from rfl]
   cases p1.variant==3<;>cases (cX n&&&p5 != 0#64)<;>cases (oP p3 n (wr .u8 (1-p1.aa))==0#64)<;>exact ⟨fun h=>by first | (cases h;done) | exact ⟨_,rfl,rfl⟩,fun h=>by first | (cases h;done) | rfl⟩)
   (by
    unfold rf
    rw [hm,decide_eq_false (by omega)]
    exact ⟨_,rfl,rfl⟩)
 obtain ⟨r,e,hr⟩:=h
 refine ⟨r,e,hr.trans ⟨fun h s a b=>?_,fun h s a b=>?_⟩⟩
 ·exact nf.1 (h s a b)
 ·exact nf.2 (h s a b)
theorem FT {q:Pos} (hq:aO q) (ht:q.aa=0∨q.aa=1) (p6:Pos) {h:Nat} (hh:h≤56) {k r x y:Int} (hk:0≤x∧x≤7) (hy:0≤y∧y≤7) :
  ∃ o,cA h k r x y p6 q h=some o∧(cu o=false ↔ ∀ s:Nat,h≤s→s≤h+7→((fU s k (h+x) || fU s r (h+y))&&bw (q.ae.getD s 0) != 0 || fU s k (h+x)&&!tE q s)=false):=by
 refine scan (bad:=fun s=>((fU s k (h+x) || fU s r (h+y))&&bw (q.ae.getD s 0) != 0 || fU s k (h+x)&&!tE q s)) rfl (by omega) (by omega) (fun n a1 a2=>?_) (fun n a1 a2=>?_) ?_
 ·unfold Ad
  refine aq (fun hc=>?_) fun _=>rfl
  have hc:(n:Int)<h+8:=by
   rw [aN (by omega) (by omega)] at hc
   simpa using hc
  have k1:(decide (0≤(n:Int))&&decide ((n:Int)<Int.ofNat 64))=true:=by simp;omega
  rw [(Dg hq ht (show n<64 by omega)).1,k1]
  repeat' (first | with_reducible rfl | refine ao ?_ (fun _=>?_) | refine aq (fun _=>?_) (fun _=>?_))
 ·have hsc:(scale 1 (n:Int)).toNat=n:=by unfold scale;simp
  unfold xV
  rw [aN (n:=(h:Int)+8) (by omega) (by omega),aN (n:=(h:Int)+x) (by omega) (by omega),aN (n:=(h:Int)+y) (by omega) (by omega),aN (n:=(n:Int)+1) (by omega) (by omega),hsc,decide_eq_true (show (n:Int)<h+8 by omega)]
  cases fU n k (h+x)<;>cases fU n r (h+y)<;>cases (bw (q.ae.getD n 0) != 0)<;>cases tE q n<;>exact ⟨fun h=>by first | (cases h;done) | exact ⟨_,rfl,rfl⟩,fun h=>by first | (cases h;done) | rfl⟩
 ·unfold xV
  rw [aN (n:=(h:Int)+8) (by omega) (by omega),decide_eq_false (show ¬ (((h+7:Nat):Int)+1<h+8) by omega)]
  exact ⟨_,rfl,rfl⟩
theorem sV:∀ (c:Fin 2) (v:Fin 256),dn c.val 4 v.val=((v.val:Int)==8 * (c.val:Int)+4)∧(dn c.val 4 v.val=true→dn c.val 6 v.val=false∧dn (1-c.val) 6 v.val=false)∧(dn c.val 6 v.val=true→dn (1-c.val) 6 v.val=false):=by decide +kernel
theorem yI:∀ v:Fin 256,BS v.val=uS v.val:=by decide +kernel
noncomputable section
variable {p:Pos} (hp:aO p)
include hp
theorem ways {t k r x y:Nat} (ht:t≤1) (hpt:p.aa=t) (k0:56 * t≤k) (k7:k≤56 * t+7) (r0:56 * t≤r) (r7:r≤56 * t+7) (hx:x≤7) (hy:y≤7) (l:List Int)
  (h1:dn (1-p.aa) 6 (p.ae.getD k 0)=false) (h2:dn (1-p.aa) 6 (p.ae.getD r 0)=false) {gk gr m1 m2:Int} (hgk:gk=((56 * t+x:Nat):Int)) (hgr:gr=((56 * t+y:Nat):Int)) (hm1:m1=if gk<k then gk else k) (hm2:m2=if gr<r then gr else r) :
  (cA ((56 * t:Nat):Int) k r x y p (off p k r) ((56 * t:Nat):Int)).isSome=true ∧
  cu ((cA ((56 * t:Nat):Int) k r x y p (off p k r) ((56 * t:Nat):Int)).getD default) =
   (cu ((dN p l (off p k r) (bg (off p k r)) (aK p (wr .u8 (1-p.aa)) 6) k gk m1).getD default) || (cu ((dH p l (off p k r) (bg (off p k r)) (aK p (wr .u8 (1-p.aa)) 6) k gk r gr m2).getD default) || cu ((dO p l (off p k r) (bg (off p k r)) (aK p (wr .u8 (1-p.aa)) 6) k gk r gr k gk m1).getD default))):=by
 have w1:wr .u8 (1-p.aa)=1-p.aa:=o6 (by omega) (by omega)
 have hq:=Sz hp (k:Int) (r:Int)
 have hqt:(off p k r).aa=0∨(off p k r).aa=1:=by show p.aa=0∨p.aa=1;omega
 have hz:dn (1-p.aa) 6 0=false:=by
  have:p.aa=0∨p.aa=1:=by omega
  rcases this with h | h<;>rw [h]<;>decide +kernel
 have hof:=TD hp (k:=k) (r:=r) (by omega) (by omega) h1 h2 hz
 obtain ⟨s0,a0⟩:=aM (FT hq hqt p (h:=56 * t) (by omega) (k:=k) (r:=r) (x:=x) (y:=y) (by omega) (by omega))
 obtain ⟨_,a1⟩:=aM (EW p l (off p k r) (bg (off p k r)) (aK p (wr .u8 (1-p.aa)) 6) (p6:=k) (p7:=gk) (x:=m1) (lo:=min (56 * t+x) k) (hi:=max (56 * t+x) k) (by rw [hm1];split<;>omega) (by split<;>omega) (by omega) (by omega))
 obtain ⟨_,a2⟩:=aM (Fq p l (off p k r) (bg (off p k r)) (aK p (wr .u8 (1-p.aa)) 6) k gk (p8:=r) (p9:=gr) (x:=m2) (lo:=min (56 * t+y) r) (hi:=max (56 * t+y) r) (by rw [hm2];split<;>omega) (by split<;>omega) (by omega) (by omega))
 obtain ⟨_,a3⟩:=aM (Fw p l (off p k r) (bg (off p k r)) (aK p (wr .u8 (1-p.aa)) 6) k gk r gr (p10:=k) (p11:=gk) (x:=m1) (lo:=min (56 * t+x) k) (hi:=max (56 * t+x) k) (by rw [hm1];split<;>omega) (by split<;>omega) (by omega) (by omega))
 refine ⟨s0,?_⟩
 have key:(cu ((cA ((56 * t:Nat):Int) k r x y p (off p k r) ((56 * t:Nat):Int)).getD default)=false) ↔
   ((cu ((dN p l (off p k r) (bg (off p k r)) (aK p (wr .u8 (1-p.aa)) 6) k gk m1).getD default)=false)∧(cu ((dH p l (off p k r) (bg (off p k r)) (aK p (wr .u8 (1-p.aa)) 6) k gk r gr m2).getD default)=false)∧(cu ((dO p l (off p k r) (bg (off p k r)) (aK p (wr .u8 (1-p.aa)) 6) k gk r gr k gk m1).getD default)=false)):=by
  rw [a0,a1,a2,a3]
  have safe:∀ s:Nat,s<64→((p.variant==3&&(cX s&&&aK p (wr .u8 (1-p.aa)) 6 != 0#64)) || (oP (off p k r) s (wr .u8 (1-p.aa))==0#64))=tE (off p k r) s:=fun s hs=>by
   rw [(Dg hq hqt hs).2,w1,show (off p k r).aa=p.aa from rfl,hof]
   rfl
  constructor
  ·intro h
   refine ⟨fun s b1 b2=>?_,fun s b1 b2=>?_,fun s b1 b2=>?_⟩
   ·have hs:=h s (by omega) (by omega)
    have w:fU s k (((56 * t:Nat):Int)+x)=true:=(n9 _ _ _).2 (by omega)
    rw [w] at hs
    simp only [Bool.true_or,Bool.true_and,Bool.or_eq_false_iff,bne_eq_false_iff_eq] at hs
    exact (zO hq (by omega)).2 hs.1
   ·have hs:=h s (by omega) (by omega)
    have w:fU s r (((56 * t:Nat):Int)+y)=true:=(n9 _ _ _).2 (by omega)
    rw [w] at hs
    simp only [Bool.or_true,Bool.true_and,Bool.or_eq_false_iff,bne_eq_false_iff_eq] at hs
    exact (zO hq (by omega)).2 hs.1
   ·have hs:=h s (by omega) (by omega)
    have w:fU s k (((56 * t:Nat):Int)+x)=true:=(n9 _ _ _).2 (by omega)
    rw [w] at hs
    simp only [Bool.true_or,Bool.true_and,Bool.or_eq_false_iff,Bool.not_eq_false'] at hs
    rw [safe s (by omega)]
    exact hs.2
  ·rintro ⟨c1,c2,c3⟩ s b1 b2
   cases w:fU s k (((56 * t:Nat):Int)+x) with
   | true =>
    have hw:=(n9 _ _ _).1 w
    have d1:=c1 s (by omega) (by omega)
    have d3:=c3 s (by omega) (by omega)
    rw [safe s (by omega)] at d3
    rw [(zO hq (by omega)).1 d1,d3]
    simp
   | false =>
    cases w':fU s r (((56 * t:Nat):Int)+y) with
    | true =>
     have hw:=(n9 _ _ _).1 w'
     have d2:=c2 s (by omega) (by omega)
     rw [(zO hq (by omega)).1 d2]
     simp
    | false=>simp
 revert key
 generalize cu ((cA ((56 * t:Nat):Int) k r x y p (off p k r) ((56 * t:Nat):Int)).getD default)=A
 generalize cu ((dN p l (off p k r) (bg (off p k r)) (aK p (wr .u8 (1-p.aa)) 6) k gk m1).getD default)=B
 generalize cu ((dH p l (off p k r) (bg (off p k r)) (aK p (wr .u8 (1-p.aa)) 6) k gk r gr m2).getD default)=C
 generalize cu ((dO p l (off p k r) (bg (off p k r)) (aK p (wr .u8 (1-p.aa)) 6) k gk r gr k gk m1).getD default)=D
 cases A<;>cases B<;>cases C<;>cases D<;>simp
theorem I9 {c:Int} (hc:c=0∨c=1) {t k:Nat} (ht:t≤1) (hpt:p.aa=t) (hv:uS p.variant=true) (hk:aX p p.aa 6=k) (hkt:dn p.aa 6 (p.ae.getD k 0)=true) (k0:56 * t≤k) (k7:k≤56 * t+7) :
  lM p c=true∧∃ r:Int,fE p c=(bif (dh p k c).2 then ((k:Int),r,true) else (0,0,false))∧((dh p k c).2=true→(dh p k c).1=⟨wr .i8 k,wr .i8 r,0,0,true⟩):=by
 have htt:p.aa=0∨p.aa=1:=by omega
 obtain ⟨o129,e129⟩:=nM hp (c:=p.aa) (k:=6) htt (by omega) (by omega)
 rw [hk] at e129
 have hvar:BS p.variant=true:=by
  have v0:=hp.v0
  have v1:=hp.v1
  obtain ⟨n,hn⟩:=Int.eq_ofNat_of_zero_le v0
  have:=yI ⟨n,by omega⟩
  rw [hn] at hv ⊢
  exact this.trans hv
 have hf:=hQ hp.r0 (d:=0) (by omega) (scale 2 p.aa+scale 1 c).toNat
 obtain ⟨x,y,hx,hy,n1,n2,g1,g2⟩:∃ x y:Nat,x≤7∧y≤7∧(dF c).1=x∧(dF c).2=y∧(List.take 2 (List.drop (c.toNat * 2) (li [6,5,2,3]))).getD 0 0=x∧(List.take 2 (List.drop (c.toNat * 2) (li [6,5,2,3]))).getD 1 0=y:=by
  rcases hc with rfl | rfl
  ·exact ⟨6,5,by omega,by omega,rfl,rfl,rfl,rfl⟩
  ·exact ⟨2,3,by omega,by omega,rfl,rfl,rfl,rfl⟩
 have d1:decide (p.aa>1)=false:=by simp;omega
 have wt:wr .i64 p.aa=t:=by rw [aN (by omega) (by omega)];exact hpt
 have w56:wr .i64 (56 * (t:Int))=((56 * t:Nat):Int):=by rw [aN (by omega) (by omega)];omega
 have w63:wr .i64 (((56 * t:Nat):Int)+7)=((56 * t+7:Nat):Int):=by rw [aN (by omega) (by omega)];omega
 have n110:cq p.aa=((56 * t:Nat):Int):=by unfold cq;rw [wt,w56]
 have b1:(decide (0≤p.aa)&&decide (p.aa<Int.ofNat 2))=true:=by simp;omega
 have b2:(decide (0≤c)&&decide (c<Int.ofNat 2))=true:=by simp;omega
 have c1:decide ((k:Int)<((56 * t:Nat):Int))=false:=by simp;omega
 have c2:decide ((k:Int)>((56 * t+7:Nat):Int))=false:=by simp;omega
 unfold lM fE
 rw [d1,hvar,o129,e129,wt,w56,w63,b1,b2,c1,c2]
 generalize hF:p.ai.getD (scale 2 p.aa+scale 1 c).toNat 0=f at hf
 rw [aN (n:=f) (by omega) (by omega)]
 simp only [cond_false,Bool.not_true,Bool.true_and]
 have no:(cp p k c).2=false→dh p k c=(⟨0,0,0,0,false⟩,false):=fun h=>by unfold dh;rw [h];rfl
 have none:dh p k c=(⟨0,0,0,0,false⟩,false)→∃ r:Int,((0:Int),(0:Int),false)=(bif (dh p k c).2 then ((k:Int),r,true) else (0,0,false))∧((dh p k c).2=true→(dh p k c).1=⟨wr .i8 k,wr .i8 r,0,0,true⟩):=fun h=>⟨0,by rw [h];exact ⟨rfl,fun h=>by cases h⟩⟩
 by_cases f0:f<0
 ·rw [decide_eq_true f0]
  refine ⟨rfl,none (no ?_)⟩
  unfold cp
  rw [hF,aN (n:=f) (by omega) (by omega),decide_eq_true f0]
  rfl
 by_cases f7:f>7
 ·rw [decide_eq_false f0,decide_eq_true f7]
  refine ⟨rfl,none (no ?_)⟩
  unfold cp
  rw [hF,aN (n:=f) (by omega) (by omega),decide_eq_false f0,decide_eq_true f7]
  rfl
 obtain ⟨n,rfl⟩:=Int.eq_ofNat_of_zero_le (show 0≤f by omega)
 have wr_:wr .i64 (((56 * t:Nat):Int)+(n:Int))=((56 * t+n:Nat):Int):=by rw [aN (by omega) (by omega)];omega
 rw [decide_eq_false f0,decide_eq_false f7,wr_]
 simp only [cond_false]
 obtain ⟨r,hr⟩:∃ r,r=56 * t+n:=⟨_,rfl⟩
 rw [← hr] at wr_ ⊢
 obtain ⟨o172,e172⟩:=kj hp (c:=p.aa) (k:=4) htt (by omega) (by omega) (show r<64 by omega)
 obtain ⟨v0,v1⟩:=eH hp r
 have hv4:dn p.aa 4 (p.ae.getD r 0)=(p.ae.getD r 0==wr .u8 (wr .u8 (8 * p.aa)+4))∧(dn p.aa 4 (p.ae.getD r 0)=true→dn p.aa 6 (p.ae.getD r 0)=false∧dn (1-p.aa) 6 (p.ae.getD r 0)=false):=by
  obtain ⟨m,hm⟩:=Int.eq_ofNat_of_zero_le v0
  have h:=sV ⟨t,by omega⟩ ⟨m,by omega⟩
  simp only at h
  rw [hm,hpt,o6 (n:=8 * (t:Int)) (by omega) (by omega),o6 (n:=8 * (t:Int)+4) (by omega) (by omega)]
  exact ⟨h.1,h.2.1⟩
 have hk6:dn (1-p.aa) 6 (p.ae.getD k 0)=false:=by
  obtain ⟨u0,u1⟩:=eH hp k
  obtain ⟨m,hm⟩:=Int.eq_ofNat_of_zero_le u0
  have h:=sV ⟨t,by omega⟩ ⟨m,by omega⟩
  simp only at h
  rw [hm,hpt] at hkt ⊢
  exact h.2.2 hkt
 have e160:cp p k c=(bif dn p.aa 4 (p.ae.getD r 0) then (bif (decide ((r:Int)>k)==(c==0)) then ((r:Int),(r:Int) != k) else ((r:Int),false)) else ((r:Int),false)):=by
  have hsc:(scale 1 (r:Int)).toNat=r:=by unfold scale;simp
  unfold cp
  rw [hF,aN (n:=(n:Int)) (by omega) (by omega),decide_eq_false f0,decide_eq_false f7,n110,wr_,hsc,hv4.1]
  rfl
 rw [o172,e172]
 cases h4:dn p.aa 4 (p.ae.getD r 0) with
 | false =>
  rw [h4] at e160
  exact ⟨rfl,none (no (by rw [e160];rfl))⟩
 | true =>
  rw [h4] at e160
  obtain ⟨h46,h46'⟩:=hv4.2 h4
  have hne:r≠k:=fun e=>by rw [e,hkt] at h46;cases h46
  simp only [cond_true,Bool.not_true,cond_false,Bool.true_and] at e160 ⊢
  have hL:=ways hp ht hpt k0 k7 (r:=r) (x:=x) (y:=y) (by omega) (by omega) hx hy (List.take 2 (List.drop (c.toNat * 2) (li [6,5,2,3]))) hk6 h46' (gk:=((56 * t+x:Nat):Int)) (gr:=((56 * t+y:Nat):Int)) rfl rfl rfl rfl
  have fin:cp p k c=((r:Int),true)→∀ (A:Bool),A=cu ((cA ((56 * t:Nat):Int) k r x y p (off p k r) ((56 * t:Nat):Int)).getD default)→∃ r':Int,(bif A then ((0:Int),(0:Int),false) else ((k:Int),(r:Int),true))=(bif (dh p k c).2 then ((k:Int),r',true) else (0,0,false))∧((dh p k c).2=true→(dh p k c).1=⟨wr .i8 k,wr .i8 r',0,0,true⟩):=by
   intro e A hA
   refine ⟨r,?_⟩
   rw [hL.2] at hA
   have wg:∀ z:Nat,z≤7→wr .i64 (((56 * t:Nat):Int)+(z:Int))=((56 * t+z:Nat):Int):=fun z hz=>by rw [aN (by omega) (by omega)];omega
   unfold dh
   rw [e,n110,g1,g2,wg x hx,wg y hy]
   rw [hA]
   show (bif _ || (_ || _) then _ else _)=_∧_
   simp only [Bool.not_true,cond_false]
   change (bif (cu ((dN p _ (off p k r) (bg (off p k r)) _ k _ _).getD default) || (cu ((dH p _ (off p k r) (bg (off p k r)) _ k _ r _ _).getD default) || cu ((dO p _ (off p k r) (bg (off p k r)) _ k _ r _ k _ _).getD default))) then _ else _)=(bif (bif cu ((dN p _ (off p k r) (bg (off p k r)) _ k _ _).getD default) then _ else bif cu ((dH p _ (off p k r) (bg (off p k r)) _ k _ r _ _).getD default) then _ else bif cu ((dO p _ (off p k r) (bg (off p k r)) _ k _ r _ k _ _).getD default) then _ else _:Mv×Bool).2 then _ else _)∧((bif cu ((dN p _ (off p k r) (bg (off p k r)) _ k _ _).getD default) then _ else bif cu ((dH p _ (off p k r) (bg (off p k r)) _ k _ r _ _).getD default) then _ else bif cu ((dO p _ (off p k r) (bg (off p k r)) _ k _ r _ k _ _).getD default) then _ else _:Mv×Bool).2=true→(bif cu ((dN p _ (off p k r) (bg (off p k r)) _ k _ _).getD default) then _ else bif cu ((dH p _ (off p k r) (bg (off p k r)) _ k _ r _ _).getD default) then _ else bif cu ((dO p _ (off p k r) (bg (off p k r)) _ k _ r _ k _ _).getD default) then _ else _:Mv×Bool).1=_)
   generalize cu ((dN p _ (off p k r) (bg (off p k r)) _ k _ _).getD default)=B
   generalize cu ((dH p _ (off p k r) (bg (off p k r)) _ k _ r _ _).getD default)=C
   generalize cu ((dO p _ (off p k r) (bg (off p k r)) _ k _ r _ k _ _).getD default)=D
   cases B<;>cases C<;>cases D<;>exact ⟨rfl,fun h=>by first | (cases h;done) | rfl⟩
  have kl:(decide (0≤(k:Int))&&decide ((k:Int)<Int.ofNat 64))=true:=by simp;omega
  have rl:(decide (0≤(r:Int))&&decide ((r:Int)<Int.ofNat 64))=true:=by simp;omega
  have hS:=hL.1
  rw [n1,n2]
  have hPS:(cA ((56 * t:Nat):Int) k r x y p (Pos.mk p.variant ((p.ae.set (scale 1 (k:Int)).toNat 0).set (scale 1 (r:Int)).toNat 0) p.ab p.af p.aa p.ai p.ah p.ag p.half p.full) ((56 * t:Nat):Int)).isSome=true:=hS
  rcases hc with rfl | rfl
  ·by_cases hlt:(r:Int)<k
   ·rw [decide_eq_true hlt]
    refine ⟨rfl,none (no ?_)⟩
    rw [e160,decide_eq_false (by omega)]
    rfl
   ·rw [decide_eq_false hlt,kl,rl,hPS]
    simp only [show ((0:Int)==0)=true from rfl,show ((0:Int)==1)=false from rfl,cond_true,cond_false,Bool.true_and]
    refine ⟨?_,fin ?_ _ rfl⟩
    ·exact aq (fun _=>rfl) fun _=>rfl
    ·rw [e160,decide_eq_true (by omega),show ((r:Int) != k)=true by simp;omega]
     rfl
  ·by_cases hgt:(r:Int)>k
   ·rw [decide_eq_true hgt]
    refine ⟨rfl,none (no ?_)⟩
    rw [e160,decide_eq_true hgt]
    rfl
   ·rw [decide_eq_false hgt,kl,rl,hPS]
    simp only [show ((1:Int)==0)=false from rfl,show ((1:Int)==1)=true from rfl,cond_true,cond_false,Bool.true_and]
    refine ⟨?_,fin ?_ _ rfl⟩
    ·exact aq (fun _=>rfl) fun _=>rfl
    ·rw [e160,decide_eq_false hgt,show ((r:Int) != k)=true by simp;omega]
     rfl
omit hp in
theorem I8 (h:∀ c:Int,c=0∨c=1→lM p c=true):Bc p=true∧GL p=(bif (fE p 1).2.2 then [⟨wr .i8 (fE p 1).1,wr .i8 (fE p 1).2.1,0,0,true⟩] else [])++(bif (fE p 0).2.2 then [⟨wr .i8 (fE p 0).1,wr .i8 (fE p 0).2.1,0,0,true⟩] else []):=by
 have h1:=h 1 (.inr rfl)
 have h0:=h 0 (.inl rfl)
 have e:∀ l:M',l.length≤5→∀ c:Int,c=0∨c=1→(bif rm p 0 (l,c) then xF p 0 (l,c) else .bad)=.go (l++(bif (fE p c).2.2 then [⟨wr .i8 (fE p c).1,wr .i8 (fE p c).2.1,0,0,true⟩] else []),c-1):=by
  intro l hl c hc
  unfold rm xF
  dsimp only
  rw [h c hc,decide_eq_true (show c≥0 by omega),aN (n:=c-1) (by omega) (by omega)]
  have:decide (l.length+1≤1073741824)=true:=decide_eq_true (by omega)
  rw [this]
  cases (fE p c).2.2<;>simp
 have hlp:da (fun x=>bif rm p 0 x then xF p 0 x else .bad) 3 ([],1)=some (([]++(bif (fE p 1).2.2 then [⟨wr .i8 (fE p 1).1,wr .i8 (fE p 1).2.1,0,0,true⟩] else []))++(bif (fE p 0).2.2 then [⟨wr .i8 (fE p 0).1,wr .i8 (fE p 0).2.1,0,0,true⟩] else []),-1,false):=by
  rw [da]
  try dsimp only
  rw [e [] (by simp) 1 (.inr rfl)]
  try dsimp only
  rw [da]
  try dsimp only
  rw [show (1:Int)-1=0 from rfl,e _ (by cases (fE p 1).2.2<;>simp) 0 (.inl rfl)]
  rfl
 have hm:=jD 3 many _ _ (by unfold many;omega) hlp
 unfold Bc GL tx
 rw [hm]
 exact ⟨rfl,by simp⟩
theorem UN:Bc p=true∧GL p=eL p:=by
 have none:(∀ c:Int,c=0∨c=1→lM p c=true∧fE p c=(0,0,false))→eL p=[]→Bc p=true∧GL p=eL p:=fun h h5=>by
  obtain ⟨h1,h2⟩:=I8 (p:=p) fun c hc=>(h c hc).1
  refine ⟨h1,?_⟩
  rw [h2,h5,(h 0 (.inl rfl)).2,(h 1 (.inr rfl)).2]
  rfl
 have t0:=hp.t0
 by_cases ht:1<p.aa
 ·have d1:decide (p.aa>1)=true:=by simp;omega
  refine none (fun c hc=>?_) ?_
  ·unfold lM fE;rw [d1];exact ⟨rfl,rfl⟩
  ·unfold eL;rw [d1];rfl
 have d1:decide (p.aa>1)=false:=by simp;omega
 have hvar:BS p.variant=uS p.variant:=by
  have v0:=hp.v0
  have v1:=hp.v1
  obtain ⟨n,hn⟩:=Int.eq_ofNat_of_zero_le v0
  rw [hn]
  exact yI ⟨n,by omega⟩
 cases hv:uS p.variant with
 | false =>
  refine none (fun c hc=>?_) ?_
  ·unfold lM fE;rw [d1,hvar,hv];exact ⟨rfl,rfl⟩
  ·unfold eL;rw [d1,hv];rfl
 | true =>
  have htt:p.aa=0∨p.aa=1:=by omega
  obtain ⟨t,hpt⟩:=Int.eq_ofNat_of_zero_le t0
  have ht1:t≤1:=by omega
  obtain ⟨o129,e129⟩:=nM hp (c:=p.aa) (k:=6) htt (by omega) (by omega)
  have wt:wr .i64 p.aa=t:=by rw [aN (by omega) (by omega)];exact hpt
  have w56:wr .i64 (56 * (t:Int))=((56 * t:Nat):Int):=by rw [aN (by omega) (by omega)];omega
  have w63:wr .i64 (((56 * t:Nat):Int)+7)=((56 * t+7:Nat):Int):=by rw [aN (by omega) (by omega)];omega
  have b1:(decide (0≤p.aa)&&decide (p.aa<Int.ofNat 2))=true:=by simp;omega
  have away:aX p p.aa 6<56 * t∨aX p p.aa 6>56 * t+7→∀ c:Int,c=0∨c=1→lM p c=true∧fE p c=(0,0,false):=fun h c hc=>by
   have b2:(decide (0≤c)&&decide (c<Int.ofNat 2))=true:=by simp;omega
   unfold lM fE
   rw [d1,hvar,hv,o129,e129,wt,w56,w63,b1,b2]
   rcases h with h | h
   ·rw [decide_eq_true (show aX p p.aa 6<((56 * t:Nat):Int) by omega)]
    exact ⟨rfl,rfl⟩
   ·rw [decide_eq_false (show ¬ aX p p.aa 6<((56 * t:Nat):Int) by omega),decide_eq_true (show aX p p.aa 6>((56 * t+7:Nat):Int) by omega)]
    exact ⟨rfl,rfl⟩
  have n110:cq p.aa=((56 * t:Nat):Int):=by unfold cq;rw [wt,w56]
  rcases iq p p.aa 6 with ⟨a1,_⟩ | ⟨k,hk,a1,a2,_⟩
  ·refine none (away (by omega)) ?_
   unfold eL
   rw [d1,hv,a1]
   rfl
  ·have n55:∀ b:Bool,(wr .i64 ((k:Int).tdiv 8) != wr .i64 ((((56 * t:Nat)):Int).tdiv 8))=b→b=!(decide (56 * t≤k)&&decide (k≤56 * t+7)):=fun b hb=>by
    rw [← hb,Int.tdiv_eq_ediv_of_nonneg (by omega),Int.tdiv_eq_ediv_of_nonneg (by omega),aN (by omega) (by omega),aN (by omega) (by omega),Bool.eq_iff_iff]
    simp
    omega
   have d0:decide ((k:Int)<0)=false:=by simp
   by_cases hin:56 * t≤k∧k≤56 * t+7
   ·have hb:=n55 _ rfl
    rw [decide_eq_true hin.1,decide_eq_true hin.2] at hb
    have one:∀ {c:Int},c=0∨c=1→_:=fun {c} (hc:c=0∨c=1)=>I9 hp hc ht1 hpt hv a1 a2 hin.1 hin.2
    obtain ⟨h1,h2⟩:=I8 (p:=p) fun c hc=>(one hc).1
    refine ⟨h1,?_⟩
    obtain ⟨_,r0,q0,m0⟩:=one (c:=0) (.inl rfl)
    obtain ⟨_,r1,q1,m1⟩:=one (c:=1) (.inr rfl)
    rw [h2,q0,q1]
    unfold eL
    rw [d1,hv,a1,d0,n110,hb]
    cases h3:(dh p k 1).2<;>cases h4:(dh p k 0).2
    ·rfl
    ·rw [m0 h4];rfl
    ·rw [m1 h3];rfl
    ·rw [m0 h4,m1 h3];rfl
   ·refine none (away (by omega)) ?_
    have hb:=n55 _ rfl
    have:(decide (56 * t≤k)&&decide (k≤56 * t+7))=false:=by
     rw [Bool.and_eq_false_iff,decide_eq_false_iff_not,decide_eq_false_iff_not]
     omega
    rw [this] at hb
    unfold eL
    rw [d1,hv,a1,d0,n110,hb]
    rfl
end
end Kz
end
noncomputable section
namespace Kz
open Go Go.RowKit Go.Proofs
def ahq:KT:=[]
def aaQ:aw:=bO Pz ahq [] [] []
theorem aau:aV aaQ:=ak aj trivial trivial trivial
def V57:AV:=AV.agg [AV.nilfunc,AV.nilfunc,AV.nilfunc,AV.func 182 [] [],AV.func 186 [] [],AV.func 183 [] [],AV.func 184 [] [],AV.func 185 [] [],AV.func 187 [] []]
def aaD:Bool:=true
theorem aeg:cy aaQ 14 119 []=Tr.ret V57:=by kernel_rfl
theorem ah3 (_:aaD=true):PS Pz 119 [] V57:=lV aau (by rw [aeg];rfl)
def ZG:GT:=g0 (.ret V57)
theorem abX:Sound Pz 119 ZG:=sd (bK (ah3 rfl))
def agL:KT:=[(121,9,[(0,[1,2]),(1,[4])])]
def agk:aw:=bO Pz agL [(145,jM)] [] []
theorem Xm:aV agk:=ak aj ⟨ke,trivial⟩ trivial trivial
def nh (a:Pos) (b:Int):Bool:=(decide (aX a b 6≥0))
def qy (a:Pos) (b:Int):Bool:=(gT (a) (b) (6)&&true)
theorem ad3 (a:Pos) (b:Int) (h:qy a b=true):PS Pz 121 [Pos.av a,.int .u8 b] (dB.res (nh a b)):=pq14 Xm h
def BU:GT:=g2 aY (dI .u8) (fun a b=>cg (qy a b) (dB.res (nh a b)))
theorem Ew:Sound Pz 121 BU:=aT fun a b=>ay (ad3 a b)
def aiu:KT:=[(229,9,[(0,[0,1,4]),(1,[4])])]
def acK:aw:=bO Pz aiu [] [] []
theorem WM:aV acK:=ak aj trivial trivial trivial
def dm (a:Int) (b:Int):(Int×Int):=⟨(wr .u8 (1+a)),(b)⟩
def YJ (a:Int) (b:Int):Bool:=true
theorem aik (a:Int) (b:Int) (h:YJ a b=true):PS Pz 229 [.int .u8 a,.int .u8 b] ((dR .u8 .u8).res (dm a b)):=pq14 WM h
def yA:GT:=g2 (dI .u8) (dI .u8) (fun a b=>.ret ((dR .u8 .u8).res (dm a b)))
theorem BI:Sound Pz 229 yA:=aT fun a b=>bK (aik a b rfl)
def ajs:KT:=[(182,13,[(0,[1,2]),(1,[1,2,7]),(2,[2]),(3,[2])])]
def adR:aw:=bO Pz ajs [(121,BU),(229,yA)] [] []
theorem ZV:aV adR:=ak aj ⟨Ew,BI,trivial⟩ trivial trivial
def GN (a:Pos):(Int×Int):=(bif !nh a a.aa then ⟨((dm (wr .u8 (1-a.aa)) 6).1),((dm (wr .u8 (1-a.aa)) 6).2)⟩ else ⟨(0),(0)⟩)
def Cn (a:Pos):Bool:=(qy (a) (a.aa)&&true)
theorem af4 (a:Pos) (h:Cn a=true):PS Pz 182 [Pos.av a] ((dR .u8 .u8).res (GN a)):=pq14 ZV h
def V9:GT:=g1 aY (fun a=>cg (Cn a) ((dR .u8 .u8).res (GN a)))
theorem aj5:Sound Pz 182 V9:=aF fun a=>ay (af4 a)
def ae6:KT:=[(183,6,[(0,[1,2]),(1,[2])]),(230,28,[(0,[1,2,3,6]),(1,[1,2,6,14,15,16]),(2,(1::2::6::(rn 14 4 []))),(3,[1,2,6,8,14,15,16]),(4,[1,2,6,8,14,15,16,22]),(5,[6]),(6,[1,2,6,14,15,16]),(7,[6])]),(231,9,[(0,[0,1]),(1,[3])])]
def agv:aw:=bO Pz ae6 [(229,yA)] [] []
theorem X4:aV agv:=ak aj ⟨BI,trivial⟩ trivial trivial
def JG (a:Pos):(Int×Int):=(bif decide (a.ag.getD (scale 1 (wr .u8 (1-a.aa))).toNat 0≥3) then ⟨((dm (wr .u8 (1-a.aa)) 7).1),((dm (wr .u8 (1-a.aa)) 7).2)⟩ else (bif decide (a.ag.getD (scale 1 a.aa).toNat 0≥3) then ⟨((dm a.aa 7).1),((dm a.aa 7).2)⟩ else ⟨(0),(0)⟩))
def zj (a:Pos):Bool:=(decide (0≤wr .u8 (1-a.aa))&&decide (wr .u8 (1-a.aa) < ↑2)&&(bif decide (a.ag.getD (scale 1 (wr .u8 (1-a.aa))).toNat 0≥3) then true else (decide (0≤a.aa)&&decide (a.aa < ↑2)&&true)))
theorem aj9 (a:Pos) (h:zj a=true):PS Pz 183 [Pos.av a] ((dR .u8 .u8).res (JG a)):=pq14 X4 h
def VZ:GT:=g1 aY (fun a=>cg (zj a) ((dR .u8 .u8).res (JG a)))
theorem acS:Sound Pz 183 VZ:=aF fun a=>ay (aj9 a)
def aga:KT:=[(184,6,[(0,[1,2]),(1,[2])]),(230,28,[(0,[1,2,3,6]),(1,[1,2,6,14,15,16]),(2,(1::2::6::(rn 14 4 []))),(3,[1,2,6,8,14,15,16]),(4,[1,2,6,8,14,15,16,22]),(5,[6]),(6,[1,2,6,14,15,16]),(7,[6])]),(232,17,[(0,(0::1::(rn 11 5 []))),(1,(4::(rn 11 5 []))),(2,[3])])]
def ajL:aw:=bO Pz aga [(145,jM),(229,yA)] [] []
theorem aaR:aV ajL:=ak aj ⟨ke,BI,trivial⟩ trivial trivial
def JC (a:Pos):(Int×Int):=(bif decide (aX a (wr .u8 (1-a.aa)) 6≥0) then (bif iZ BinOp.and .i64 (Int.fdiv 103481868288 (2 ^ min (BitVec.ofInt 64 (aX a (wr .u8 (1-a.aa)) 6)).toNat 64)) 1==1 then ⟨((dm (wr .u8 (1-a.aa)) 6).1),((dm (wr .u8 (1-a.aa)) 6).2)⟩ else (bif decide (aX a a.aa 6≥0) then (bif iZ BinOp.and .i64 (Int.fdiv 103481868288 (2 ^ min (BitVec.ofInt 64 (aX a a.aa 6)).toNat 64)) 1==1 then ⟨((dm a.aa 6).1),((dm a.aa 6).2)⟩ else ⟨(0),(0)⟩) else ⟨(0),(0)⟩)) else (bif decide (aX a a.aa 6≥0) then (bif iZ BinOp.and .i64 (Int.fdiv 103481868288 (2 ^ min (BitVec.ofInt 64 (aX a a.aa 6)).toNat 64)) 1==1 then ⟨((dm a.aa 6).1),((dm a.aa 6).2)⟩ else ⟨(0),(0)⟩) else ⟨(0),(0)⟩))
def Ao (a:Pos):Bool:=(gT (a) (wr .u8 (1-a.aa)) (6)&&(bif decide (aX a (wr .u8 (1-a.aa)) 6≥0) then (bif iZ BinOp.and .i64 (Int.fdiv 103481868288 (2 ^ min (BitVec.ofInt 64 (aX a (wr .u8 (1-a.aa)) 6)).toNat 64)) 1==1 then true else (gT (a) (a.aa) (6)&&true)) else (gT (a) (a.aa) (6)&&true)))
theorem ajA (a:Pos) (h:Ao a=true):PS Pz 184 [Pos.av a] ((dR .u8 .u8).res (JC a)):=pq14 aaR h
def XL:GT:=g1 aY (fun a=>cg (Ao a) ((dR .u8 .u8).res (JC a)))
theorem ahg:Sound Pz 184 XL:=aF fun a=>ay (ajA a)
def abO:KT:=[(185,8,[(0,[1,2]),(1,[2,5]),(2,[2]),(3,[2])])]
def agl:aw:=bO Pz abO [(147,fD),(229,yA)] [] []
theorem aa1:aV agl:=ak aj ⟨fG,BI,trivial⟩ trivial trivial
def IJ (a:Pos):(Int×Int):=(bif aK (Pos.mk a.variant a.ae a.ab a.af a.aa a.ai a.ah a.ag a.half a.full) 0 0==0#64 then ⟨((dm 1 8).1),((dm 1 8).2)⟩ else ⟨(0),(0)⟩)
def C6 (a:Pos):Bool:=(ct (Pos.mk a.variant a.ae a.ab a.af a.aa a.ai a.ah a.ag a.half a.full) (0) (0)&&true)
theorem aiJ (a:Pos) (h:C6 a=true):PS Pz 185 [Pos.av a] ((dR .u8 .u8).res (IJ a)):=pq14 aa1 h
def abn:GT:=g1 aY (fun a=>cg (C6 a) ((dR .u8 .u8).res (IJ a)))
theorem agM:Sound Pz 185 abn:=aF fun a=>ay (aiJ a)
def adk:KT:=[(186,24,[(0,[1,2]),(1,[1,2,10,11,12]),(2,(1::2::(rn 10 4 []))),(3,[1,2,4,10,11,12]),(4,[1,2,4,10,11,12,19]),(5,[2]),(6,[1,2,10,11,12]),(7,[2])])]
def ahJ:aw:=bO Pz adk [(147,fD),(229,yA)] [] []
theorem WL:aV ahJ:=ak aj ⟨fG,BI,trivial⟩ trivial trivial
def J8 (a:Pos):(Int×Int):=(bif aK (Pos.mk a.variant a.ae a.ab a.af a.aa a.ai a.ah a.ag a.half a.full) a.aa 0==0#64 then ⟨((dm a.aa 8).1),((dm a.aa 8).2)⟩ else (bif aK (Pos.mk a.variant a.ae a.ab a.af a.aa a.ai a.ah a.ag a.half a.full) (wr .u8 (1-a.aa)) 0==0#64 then ⟨((dm (wr .u8 (1-a.aa)) 8).1),((dm (wr .u8 (1-a.aa)) 8).2)⟩ else ⟨(0),(0)⟩))
def zF (a:Pos):Bool:=(ct (Pos.mk a.variant a.ae a.ab a.af a.aa a.ai a.ah a.ag a.half a.full) (a.aa) (0)&&(bif aK (Pos.mk a.variant a.ae a.ab a.af a.aa a.ai a.ah a.ag a.half a.full) a.aa 0==0#64 then true else (ct (Pos.mk a.variant a.ae a.ab a.af a.aa a.ai a.ah a.ag a.half a.full) (wr .u8 (1-a.aa)) (0)&&true)))
theorem acn (a:Pos) (h:zF a=true):PS Pz 186 [Pos.av a] ((dR .u8 .u8).res (J8 a)):=pq14 WL h
def V0:GT:=g1 aY (fun a=>cg (zF a) ((dR .u8 .u8).res (J8 a)))
theorem acw:Sound Pz 186 V0:=aF fun a=>ay (acn a)
def adt:KT:=[(126,52,[(0,(2::3::(rn 30 10 (rn 45 6 [])))),(1,(2::5::6::(rn 30 10 (rn 45 6 [])))),(2,(2::5::14::(rn 30 10 (rn 45 6 [])))),(3,[4]),(4,(2::5::19::(rn 30 10 (rn 45 6 [])))),(5,(2::5::24::(rn 30 10 (rn 45 6 [])))),(6,[4]),(7,(2::5::40::(rn 45 6 []))),(8,[4]),(9,[4])])]
def ajv:aw:=bO Pz adt [(31,G31),(120,A7),(149,oU),(121,BU)] [] []
theorem Zf:aV ajv:=ak aj ⟨s31,EA,ph,Ew,trivial⟩ trivial trivial
def dA (a:Pos) (b:Mv):Bool:=(bif !(mI a b).2 then (false) else (bif jr a.variant a.aa then (bif !nh (mI a b).1 a.aa then (false) else (bif mD (mI a b).1 a.aa then (bif a.variant != 3 then (false) else (bif nh (mI a b).1 (wr .u8 (1-a.aa)) then (false) else (bif a.variant != 8 then (true) else (!mD (mI a b).1 (wr .u8 (1-a.aa)))))) else (bif a.variant != 8 then (true) else (!mD (mI a b).1 (wr .u8 (1-a.aa)))))) else (bif a.variant != 8 then (true) else (!mD (mI a b).1 (wr .u8 (1-a.aa))))))
def qs (a:Pos) (b:Mv):Bool:=(Fv (a) (b)&&(bif !(mI a b).2 then true else (kX (a.variant) (a.aa)&&(bif jr a.variant a.aa then (qy ((mI a b).1) (a.aa)&&(bif !nh (mI a b).1 a.aa then true else (lO ((mI a b).1) (a.aa)&&(bif mD (mI a b).1 a.aa then (bif a.variant != 3 then true else (qy ((mI a b).1) (wr .u8 (1-a.aa))&&(bif nh (mI a b).1 (wr .u8 (1-a.aa)) then true else (bif a.variant != 8 then true else (lO ((mI a b).1) (wr .u8 (1-a.aa))&&true))))) else (bif a.variant != 8 then true else (lO ((mI a b).1) (wr .u8 (1-a.aa))&&true)))))) else (bif a.variant != 8 then true else (lO ((mI a b).1) (wr .u8 (1-a.aa))&&true))))))
theorem acY (a:Pos) (b:Mv) (h:qs a b=true):PS Pz 126 [Pos.av a,Mv.av b] (dB.res (dA a b)):=pq14 Zf h
def EH:GT:=g2 aY qZ (fun a b=>cg (qs a b) (dB.res (dA a b)))
theorem G5:Sound Pz 126 EH:=aT fun a b=>ay (acY a b)
end Kz
end
noncomputable section
namespace Go.Proofs
open Go.Shelf Go.RowKit Go.Lib Go.Sort
def b9 (m:Kz.Mv):List Value:=[.int .i8 m.az,.int .i8 m.to,.int .u8 m.bP,.int .u8 m.aW,.bool m.bS]
theorem eO (m:Kz.Mv):(b9 m).length=5:=rfl
structure cZ (w:World) (bA cap:Nat) (ty:TypeId) (dk:Array Kz.Mv) (W:World):Prop where
 os:W.os=w.os
 tape:W.tape=w.tape
 output:W.output=w.output
 size:w.heap.size≤W.heap.size
 other:∀ k,k<w.heap.size→k≠bA→W.heap[k]?=w.heap[k]?
 row:∃ cur,W.heap[bA]?=some (.cells cur ty (0,0))∧cur.size=cap * 5∧∀ j c,j<dk.size→c<5→cur[j * 5+c]?=(b9 dk[j]!)[c]?
theorem cZ.below {w W W':World} {bA cap:Nat} {ty:TypeId} {dk:Array Kz.Mv} (h:cZ w bA cap ty dk W) (hb:bA<w.heap.size) (b:Below W.heap.size W W'):cZ w bA cap ty dk W' :=
 ⟨b.os.trans h.os,b.tape.trans h.tape,b.output.trans h.output,Nat.le_trans h.size b.size,fun k hk hn=>by rw [b.block k (Nat.lt_of_lt_of_le hk h.size)];exact h.other k hk hn,by
  obtain ⟨cur,h1,h2⟩:=h.row
  exact ⟨cur,by rw [b.block bA (Nat.lt_of_lt_of_le hb h.size)];exact h1,h2⟩⟩
theorem cZ.setCells {w W:World} {bA cap:Nat} {ty:TypeId} {dk dk':Array Kz.Mv} (h:cZ w bA cap ty dk W) (vs:List Value) (o:Nat)
  (hd:∀ j c,j<dk'.size→c<5→j<dk.size∧(if o≤j * 5+c∧j * 5+c<o+vs.length then vs[j * 5+c-o]? else (b9 dk[j]!)[c]?)=(b9 dk'[j]!)[c]?) (hlen:o+vs.length≤cap * 5):cZ w bA cap ty dk' (W.setCells bA o vs):=by
 obtain ⟨cur,h1,h2,h3⟩:=h.row
 have hb:=Kz.aC h1
 have key:∀ (vs:List Value) (o:Nat) (W:World) (cur:Array Value),W.heap[bA]?=some (.cells cur ty (0,0))→o+vs.length≤cur.size →
   ∃ cur',W.setCells bA o vs=Kz.bq W bA (.cells cur' ty (0,0))∧cur'.size=cur.size∧∀ t,t<cur.size→cur'[t]?=if o≤t∧t<o+vs.length then vs[t-o]? else cur[t]? := by
  intro vs
  induction vs with
  | nil =>
   intro o W cur hW _
   refine ⟨cur,?_,rfl,fun t _=>by rw [if_neg (by simp)]⟩
   rw [World.setCells]
   simp only [Kz.bq]
   have:W.heap.setIfInBounds bA (.cells cur ty (0,0))=W.heap:=by
    apply Array.ext_getElem?
    intro i
    rw [Array.getElem?_setIfInBounds]
    split
    ·rename_i e;subst e;split
     ·exact hW.symm
     ·rename_i h';simp [Array.getElem?_eq_none (by omega:W.heap.size≤bA)]
    ·rfl
   rw [this]
  | cons v vs ih =>
   intro o W cur hW hl
   simp only [List.length_cons] at hl
   have e1:W.setCell ⟨bA,o,none⟩ v=Kz.bq W bA (.cells (cur.setIfInBounds o v) ty (0,0)):=Kz.lC hW v
   obtain ⟨cur',a1,a2,a3⟩:=ih (o+1) (Kz.bq W bA (.cells (cur.setIfInBounds o v) ty (0,0))) (cur.setIfInBounds o v) (Kz.cC hW) (by simp;omega)
   refine ⟨cur',?_,by rw [a2];simp,fun t ht=>?_⟩
   ·rw [World.setCells,e1,a1]
    simp [Kz.bq]
   ·rw [a3 t (by simpa using ht)]
    by_cases h1:o+1≤t∧t<o+1+vs.length
    ·rw [if_pos h1,if_pos ⟨by omega,by simp;omega⟩]
     obtain ⟨u,rfl⟩:∃ u,t=o+1+u:=⟨t-(o+1),by omega⟩
     rw [show o+1+u-(o+1)=u by omega,show o+1+u-o=u+1 by omega]
     simp
    ·rw [if_neg h1,Array.getElem?_setIfInBounds]
     by_cases h2:o=t
     ·subst h2
      rw [if_pos rfl,if_pos (by omega),if_pos ⟨Nat.le_refl _,by simp⟩]
      simp
     ·rw [if_neg h2,if_neg (by simp;omega)]
 obtain ⟨cur',a1,a2,a3⟩:=key vs o W cur h1 (by omega)
 rw [a1]
 refine ⟨h.os,h.tape,h.output,by rw [Kz.dc];exact h.size,fun k hk hn=>by rw [Kz.aP hn];exact h.other k hk hn,cur',Kz.cC h1,by rw [a2,h2],fun j c hj hc=>?_⟩
 obtain ⟨hj',he⟩:=hd j c hj hc
 have hlt:j * 5+c<cur.size:=by
  rcases Nat.lt_or_ge (j * 5+c) cur.size with h' | h'
  ·exact h'
  ·have:=h3 j c hj' hc
   rw [Array.getElem?_eq_none h',I' (by rw [eO];exact hc)] at this
   cases this
 rw [a3 _ hlt,h3 j c hj' hc]
 exact he
theorem cZ.put {w W:World} {bA cap:Nat} {ty:TypeId} {dk:Array Kz.Mv} (h:cZ w bA cap ty dk W) {i:Nat} (hi:i<dk.size) (hc:dk.size≤cap) (u:Kz.Mv):cZ w bA cap ty (dk.setIfInBounds i u) (W.setCells bA (i * 5) (b9 u)):=by
 refine h.setCells (b9 u) (i * 5) (fun j c hj hc=>?_) (by rw [eO];have:=Nat.mul_le_mul_right 5 (show i+1≤cap by omega);omega)
 have hj':j<dk.size:=by simpa using hj
 refine ⟨hj',?_⟩
 rw [eO]
 by_cases e:i=j
 ·subst e
  rw [if_pos ⟨by omega,by omega⟩,show i * 5+c-i * 5=c by omega,getElem!_pos (dk.setIfInBounds i u) i hj]
  simp
 ·rw [if_neg (by omega),getElem!_pos (dk.setIfInBounds i u) j hj,getElem!_pos dk j hj',Array.getElem_setIfInBounds_ne _ e]
theorem cZ.tail {w W:World} {bA cap:Nat} {ty:TypeId} {dk:Array Kz.Mv} (h:cZ w bA cap ty dk W) {i n:Nat} (hn:i+n≤cap) (hi:i≤dk.size) (vs:List Value) (hl:vs.length=n * 5):cZ w bA cap ty (dk.toList.take i).toArray (W.setCells bA (i * 5) vs):=by
 refine h.setCells vs (i * 5) (fun j c hj hc=>?_) (by rw [hl,← Nat.add_mul];exact Nat.mul_le_mul_right 5 hn)
 have hj':j<i:=by simp at hj;omega
 refine ⟨by omega,?_⟩
 rw [if_neg (by omega)]
 congr 2
 rw [getElem!_pos dk j (show j<dk.size by omega),getElem!_pos (dk.toList.take i).toArray j hj]
 simp
theorem cZ.same {w W:World} {bA cap:Nat} {ty:TypeId} {dk:Array Kz.Mv} (h:cZ w bA cap ty dk W) {i:Nat} (hi:i≤dk.size):cZ w bA cap ty (dk.toList.take i).toArray W:=by
 obtain ⟨cur,h1,h2,h3⟩:=h.row
 refine ⟨h.os,h.tape,h.output,h.size,h.other,cur,h1,h2,fun j c hj hc=>?_⟩
 have hj':j<i:=by simp at hj;omega
 rw [h3 j c (by omega) hc]
 congr 2
 rw [getElem!_pos dk j (show j<dk.size by omega),getElem!_pos (dk.toList.take i).toArray j hj]
 simp
def jI:Array Value := #[Value.int IntKind.i8 0,Value.int IntKind.i8 0,Value.int IntKind.u8 0,Value.int IntKind.u8 0,Value.bool false]
theorem EB (n:Nat):∀ v∈(Builtin.zeroCells jI n).toList,v.oneCell'=true:=by
 intro v hv
 simp only [Builtin.zeroCells,Array.toList_map,List.mem_map] at hv
 obtain ⟨i,_,rfl⟩:=hv
 have:i % jI.size<5:=Nat.mod_lt _ (by decide)
 generalize i % jI.size=t at this
 match t,this with
 | 0,_ | 1,_ | 2,_ | 3,_ | 4,_=>rfl
 | t+5,h=>omega
theorem lX (n:Nat):(Builtin.zeroCells jI n).toList.length=n * 5:=by simp [Builtin.zeroCells,jI]
theorem tQ (W:World) (b o n c:Nat) (hn:0<n) (hc:∀ t,t<n * 5→(W.cell? ⟨b,o+t,none⟩).isSome=true) (hf:∀ t,t<n * 5→W.frozen? ⟨b,o+t,none⟩=false) (ty:TypeId) :
  (Builtin.clear_ #[34] ty #[.slice (some ⟨b,o,none⟩) n c]).run Tryz.prog W=.ok (.tuple #[]) (W.setCells b o (Builtin.zeroCells jI n).toList):=by
 have hst:=run_storeCells_cells (P:=Tryz.prog) b o (Builtin.zeroCells jI n).toList 0 W (by rw [lX];simpa using hc) (by rw [lX];simpa using hf) (EB n)
 simp only [Nat.add_zero] at hst
 obtain ⟨m,rfl⟩:∃ m,n=m+1:=⟨n-1,by omega⟩
 have hz:(Value.agg jI).cells=jI:=rfl
 have hv:∀ w,(zeroValue 47).run Tryz.prog w=.ok (.agg jI) w:=Tryz.zeroValue47
 simp only [jI] at hst hz hv
 simp [Builtin.clear_,run_underlying Tryz.underlying34,hv,hz,hst]
 rfl
theorem cZ.cell {w W:World} {bA cap:Nat} {ty:TypeId} {dk:Array Kz.Mv} (h:cZ w bA cap ty dk W) {j:Nat} (hj:j<dk.size) (c:Nat) (hc:c<5):W.cell? ⟨bA,j * 5+c,none⟩=some ((b9 dk[j]!)[c]'hc)∧W.frozen? ⟨bA,j * 5+c,none⟩=false:=by
 obtain ⟨cur,h1,h2,h3⟩:=h.row
 refine ⟨?_,Kz.fc h1⟩
 rw [Kz.aD h1,h3 j c hj hc]
 exact I' _
theorem cZ.load {w W:World} {bA cap:Nat} {ty:TypeId} {dk:Array Kz.Mv} (h:cZ w bA cap ty dk W) {j:Nat} (hj:j<dk.size):Sem.run Tryz.prog (loadCellsFrom ⟨bA,0+j * 5,none⟩ 0 5 #[]) W=.ok (b9 dk[j]!).toArray W :=
 run_loadCellsFrom_list Tryz.prog _ _ (b9 dk[j]!) 5 rfl (fun c v hc=>by
  have hc5:c<5:=(C'.1 hc).1
  obtain ⟨cur,h1,h2,h3⟩:=h.row
  rw [Addr.add_lit]
  rw [Kz.aD h1,Nat.zero_add,h3 j c hj hc5]
  exact hc)
set_option maxHeartbeats 1000000 in
set_option maxRecDepth 100000 in
theorem WG (p:Kz.Mv→Bool) (g:Nat) (lb:Array Value) (eg:∀ args w,(callFunc g args).run Tryz.prog w=.ok (.enter g args) w) (bA cap:Nat) (d:Array Kz.Mv) (w:World) (hb:bA<w.heap.size) (hH:cZ w bA cap 47 d w) (hcap:d.size≤cap) (hmax:cap≤maxLen)
  (hpo:∀ W dk x,cZ w bA cap 47 dk W→Calls Tryz.prog g (#[.agg (b9 x).toArray]++lb) W fun e w'=>e=.returned (.bool (p x))∧RowKit.Below W.heap.size W w') :
  Calls Tryz.prog 49 #[.slice (some ⟨bA,0,none⟩) d.size cap,.func (.func g) #[] lb] w fun e w'=>e=.returned (.slice (some ⟨bA,0,none⟩) (d.toList.filter fun x => !p x).length cap)∧cZ w bA cap 47 (d.toList.filter fun x => !p x).toArray w':=by
 have hsz:d.size≤9223372036854775807:=by unfold maxLen at hmax;omega
 have e6:∀ args w,(callFunc 110 args).run Tryz.prog w=.ok (.enter 110 args) w:=fun args w=>by rfl
 have hp:PredBelow Tryz.prog g lb (fun x=>.agg (b9 x).toArray) p w:=fun W x hB=>(hpo W d x (hH.below hb hB)).mono fun e w' ⟨h1,h2⟩=>⟨h1,hB.trans (h2.mono hB.size)⟩
 have hIF:=AnyQ.slices_IndexFunc Tryz.Zj 5 Tryz.isAgg47 Tryz.sizeOf47 b9 eO p g lb eg bA 0 d.size cap d.toList w hp (by simp) hsz hb (fun j hj i v hi=>by
  have hi5:i<5:=(C'.1 hi).1
  have hj':j<d.size:=by simpa using hj
  obtain ⟨cur,h1,h2,h3⟩:=hH.row
  rw [Kz.aD h1,Nat.zero_add,h3 j i hj' hi5]
  rw [← hi,getElem!_pos d j hj',getElem!_pos d.toList j hj]
  simp)
 rw [show d.toList.take d.size=d.toList from List.take_of_length_le (by simp)] at hIF
 have tl:∀ j,j<d.size→d.toList[j]! = d[j]! := fun j hj=>by rw [getElem!_pos d j hj,getElem!_pos d.toList j (by simpa using hj)];simp
 obtain ⟨kp,HK⟩:∃ kp:Nat→Bool,Hid (kp=fun j => !p d[j]!):=⟨_,rfl⟩
 have hfil:(d.toList.filter fun x => !p x)=keptUpTo kp d d.size:=by rw [HK.out];exact (keptUpTo_filter (fun x => !p x) d).symm
 rw [hfil]
 rcases idxByFrom_spec (fun _ y=>p y) default d.toList 0 with ⟨e1,hall⟩ | ⟨k0,hk0,e1,ht,hall⟩
 ·
  have e2:Lib.idxBy (fun _ y=>p y) d.toList default = -1:=e1
  rw [e2] at hIF
  have hkeep:∀ j,j<d.size→kp j=true:=fun j hj=>by rw [HK.out];show (!p d[j]!)=true;rw [← tl j hj,hall j (by simpa using hj)];rfl
  have e3:keptUpTo kp d d.size=d.toList:=by rw [keptUpTo_all kp d _ hkeep,range_map_get]
  have HH:Aside (cZ w bA cap 47 d w):=hH
  have HB:Hid (bA<w.heap.size):=hb
  clear hH hpo hp hb
  go_enter Tryz.func49,Tryz.ntmps49
  go_wp2_with (go_at_fn 110;refine hIF.mono ?_;rintro e w' ⟨rfl,hbl⟩)
  go_ret
  rw [e3]
  exact ⟨by simp,by simpa using HH.out.below HB.out hbl⟩
 ·have hk0':k0<d.size:=by simpa using hk0
  have e2:Lib.idxBy (fun _ y=>p y) d.toList default=(k0:Int):=by unfold Lib.idxBy;rw [e1];simp
  rw [e2] at hIF
  have hkeep:∀ j,j<k0→kp j=true:=fun j hj=>by rw [HK.out];show (!p d[j]!)=true;rw [← tl j (by omega),hall j hj];rfl
  have hdrop:kp k0=false:=by rw [HK.out];show (!p d[k0]!)=false;rw [← tl k0 hk0'];rw [show p d.toList[k0]! = true from ht];rfl
  have hne1:((k0:Int) == -1)=false:=beq_eq_false_iff_ne.2 (by omega)
  have HC:Aside _:=hpo
  have HH:Aside (cZ w bA cap 47 d w):=hH
  have HB:Hid (bA<w.heap.size):=hb
  clear hpo hp hH hb hall ht e1 e2 tl
  go_enter Tryz.func49,Tryz.ntmps49
  go_wp2_with (go_at_fn 110;refine hIF.mono ?_;rintro e w' ⟨rfl,hbl⟩)
  have HBL:=Lib.hid hbl
  clear hbl
  go_loopg [5,6,7] d.size (fun gg s5 s6 _ wr=>∃ (i j:Nat) (dk:Array Kz.Mv),s5=.int .i64 i∧s6=.int .i64 j∧j≤d.size∧d.size-j≤gg∧Aside (cZ w bA cap 47 dk wr)∧Aside (KeptInv kp d j i dk))
  case atStart=>exact ⟨k0,k0+1,d,rfl,by go_num,by omega,by omega,HH.out.below HB.out HBL.out,KeptInv.start hkeep hdrop⟩
  case round =>
   obtain ⟨i,j,dk,rfl,rfl,hjd,hgg,W2,I2⟩:=hrel
   have hI:=I2.out
   have hij:=hI.lt
   have hds:=hI.size
   by_cases hlt:j<d.size
   ·have hltz:(j:Int)<(d.size:Int):=by omega
    have c0:=(W2.out.cell (j:=j) (by omega) 0 (by omega)).1
    have c1:=(W2.out.cell (j:=j) (by omega) 1 (by omega)).1
    have c2:=(W2.out.cell (j:=j) (by omega) 2 (by omega)).1
    have c3:=(W2.out.cell (j:=j) (by omega) 3 (by omega)).1
    have c4:=(W2.out.cell (j:=j) (by omega) 4 (by omega)).1
    simp only [hI.high j (by omega),b9,List.getElem_cons_succ,List.getElem_cons_zero,Nat.add_zero] at c0 c1 c2 c3 c4
    clear hI
    generalize hu:d[j]! = u at c0 c1 c2 c3 c4
    have C:Aside (d[j]! = u):=hu
    clear hu
    have hW1:cZ w bA cap 47 dk (wr.alloc (Obj.cells #[Value.int IntKind.i8 u.az,Value.int IntKind.i8 u.to,Value.int IntKind.u8 u.bP,Value.int IntKind.u8 u.aW,Value.bool u.bS] 47)) :=
     W2.out.below HB.out ((Below.refl _ _).alloc (Nat.le_refl _) _)
    have hcall:Calls Tryz.prog g (#[Value.agg #[Value.int IntKind.i8 u.az,Value.int IntKind.i8 u.to,Value.int IntKind.u8 u.bP,Value.int IntKind.u8 u.aW,Value.bool u.bS]]++lb) _ _:=HC.out _ dk u hW1
    have HW1:=Lib.hid hW1
    clear hW1
    cases hq:p u with
    | false =>
     rw [hq] at hcall
     have HCALL:=Lib.hid hcall
     clear hcall
     go_wp2_with fail
     refine HCALL.out.mono ?_
     rintro e w2 ⟨rfl,hb2⟩
     have hW2:=HW1.out.below HB.out hb2
     have r0:=hW2.cell (j:=i) (by omega) 0 (by omega)
     have r1:=hW2.cell (j:=i) (by omega) 1 (by omega)
     have r2:=hW2.cell (j:=i) (by omega) 2 (by omega)
     have r3:=hW2.cell (j:=i) (by omega) 3 (by omega)
     have r4:=hW2.cell (j:=i) (by omega) 4 (by omega)
     simp only [Nat.add_zero] at r0
     obtain ⟨r0,f0⟩:=r0
     obtain ⟨r1,f1⟩:=r1
     obtain ⟨r2,f2⟩:=r2
     obtain ⟨r3,f3⟩:=r3
     obtain ⟨r4,f4⟩:=r4
     have hcs:∀ c,w2.cell? ⟨wr.heap.size,c,none⟩=(#[Value.int IntKind.i8 u.az,Value.int IntKind.i8 u.to,Value.int IntKind.u8 u.bP,Value.int IntKind.u8 u.aW,Value.bool u.bS]:Array Value)[c]? := fun c=>by
      rw [hb2.cell (p:=⟨wr.heap.size,c,none⟩) (by simp),Kz.aD (heap_alloc_new wr _)]
     have b0:=hcs 0
     have b1:=hcs 1
     have b2:=hcs 2
     have b3:=hcs 3
     have b4:=hcs 4
     simp at b0 b1 b2 b3 b4
     have HW2:=Lib.hid hW2
     clear hcs hb2 hW2
     go_wp2_with fail
     go_roundg (d.size-(j+1))
     case measure=>omega
     case rel =>
      refine ⟨i+1,j+1,dk.setIfInBounds i u,by go_num,by go_num,by omega,Nat.le_refl _,HW2.out.put (i:=i) (by omega) (by omega) u,(show Aside _ from ?_)⟩
      have:=I2.out.keep hlt (by rw [HK.out];show (!p d[j]!)=true;rw [C.out,hq];rfl)
      rwa [C.out] at this
    | true =>
     rw [hq] at hcall
     have HCALL:=Lib.hid hcall
     clear hcall
     go_wp2_with fail
     refine HCALL.out.mono ?_
     rintro e w2 ⟨rfl,hb2⟩
     have HW2:=Lib.hid (HW1.out.below HB.out hb2)
     clear hb2
     go_wp2_with fail
     go_roundg (d.size-(j+1))
     case measure=>omega
     case rel=>exact ⟨i,j+1,dk,rfl,by go_num,by omega,Nat.le_refl _,HW2.out,I2.out.skip (by rw [HK.out];show (!p d[j]!)=false;rw [C.out,hq];rfl)⟩
   ·obtain rfl:j=d.size:=by omega
    have hltz:¬ (d.size:Int)<(d.size:Int):=by omega
    have hcl:∀ ty,(Builtin.clear_ #[34] ty #[.slice (some ⟨bA,i * 5,none⟩) (d.size-i) (cap-i)]).run Tryz.prog wr=.ok (.tuple #[]) (wr.setCells bA (i * 5) (Builtin.zeroCells jI (d.size-i)).toList):=by
     obtain ⟨cur,h1,h2,h3⟩:=W2.out.row
     refine tQ wr bA (i * 5) (d.size-i) (cap-i) (by omega) (fun t ht=>?_) (fun t ht=>Kz.fc h1)
     rw [Kz.aD h1]
     have:d.size * 5≤cap * 5:=Nat.mul_le_mul_right 5 hcap
     have h5:(d.size-i) * 5=d.size * 5-i * 5:=Nat.sub_mul _ _ _
     rw [Array.getElem?_eq_getElem (by omega)]
     rfl
    have hid:i≤d.size:=by omega
    clear hI
    go_wp2
    go_ret
    have hI:=I2.out
    refine ⟨by rw [hI.len];rfl,?_⟩
    have:=W2.out.tail (i:=i) (n:=d.size-i) (by omega) (by omega) _ (lX (d.size-i))
    have e:keptUpTo kp d d.size=dk.toList.take i:=by
     have hsz':=hI.size
     apply List.ext_getElem?
     intro j
     by_cases hj:j<i
     ·rw [hI.low j hj,List.getElem?_take_of_lt hj,getElem!_pos dk j (by omega),I' (by simp;omega)]
      simp
     ·rw [List.getElem?_eq_none (by rw [hI.len];omega),List.getElem?_eq_none (by simp;omega)]
    rw [e]
    exact this
end Go.Proofs
end
noncomputable section
namespace Go.Proofs
open Go.Shelf Go.RowKit Go.Lib Go.Sort Kz
theorem MY {w W:World} (hsz:w.heap.size≤W.heap.size) (old:∀ k,k<w.heap.size→W.heap[k]?=w.heap[k]?) {p:Nat×IntKind×Option Z'} (h:mW (c9 w) w p):mW (c9 W) W p :=
 ⟨fun hi=>let ⟨d,x,t,fr,e,f⟩:=h.1 hi
  ⟨Nat.lt_of_lt_of_le d hsz,x,t,fr,by rw [old _ d];exact e,f⟩,
 fun hi=>let ⟨zs,a,b,c,d,t,fr,e⟩:=h.2 hi
  ⟨zs,a,b,fun j x hj=>⟨by rw [cQ (old _ d)];exact (c j x hj).1,Nat.lt_of_lt_of_le d hsz⟩,Nat.lt_of_lt_of_le d hsz,t,fr,by rw [old _ d];exact e⟩⟩
theorem JL {g:Gh} {tk:List Nat} {w:World} {m:Mv} {cs:List Value} (h:ax g tk w (bp (Mv.av m)) cs):cs=b9 m:=by
 change ax g tk w [.int .i8 m.az,.int .i8 m.to,.int .u8 m.bP,.int .u8 m.aW,.bool m.bS] cs at h
 obtain ⟨x1,r1,rfl,q1,h⟩:=h.inv_one rfl
 obtain ⟨x2,r2,rfl,q2,h⟩:=h.inv_one rfl
 obtain ⟨x3,r3,rfl,q3,h⟩:=h.inv_one rfl
 obtain ⟨x4,r4,rfl,q4,h⟩:=h.inv_one rfl
 obtain ⟨x5,r5,rfl,q5,h⟩:=h.inv_one rfl
 obtain rfl:=h.cT
 cases q1;cases q2;cases q3;cases q4;cases q5
 rfl
theorem pZ (g:Gh) (tk:List Nat) (w:World) (m:Mv):ax g tk w (bp (Mv.av m)) (b9 m) :=
 .one rfl (.int _ _) (.one rfl (.int _ _) (.one rfl (.int _ _) (.one rfl (.int _ _) (.one rfl (.bool _) .nil))))
theorem eU {g:Gh} {tk:List Nat} {w:World}:∀ {l:M'} {cs:List Value},bx g tk w (l.map (enc .mv)) cs→cs=l.flatMap b9
 | [],_,h=>by cases h;rfl
 | m::l,_,h=>by
  cases h with
  | cons hs hx h hr=>rw [hx,JL h,eU hr];rfl
theorem hU (g:Gh) (tk:List Nat) (w:World):∀ l:M',bx g tk w (l.map (enc .mv)) (l.flatMap b9)
 | []=>.nil
 | m::l=>.cons rfl rfl (pZ g tk w m) (hU g tk w l)
theorem dQ (l:M'):(l.flatMap b9).length=l.length * 5:=by
 induction l with
 | nil=>rfl
 | cons m l ih=>simp only [List.flatMap_cons,List.length_append,eO,ih,List.length_cons];omega
theorem fI:∀ (l:M') (j c:Nat),j<l.length→c<5→(l.flatMap b9)[j * 5+c]?=(b9 l[j]!)[c]?
 | [],_,_,h,_=>absurd h (Nat.not_lt_zero _)
 | m::l,0,c,_,hc=>by
  simp only [List.flatMap_cons]
  rw [List.getElem?_append_left (by rw [eO];omega)]
  simp
 | m::l,j+1,c,h,hc=>by
  simp only [List.flatMap_cons]
  rw [List.getElem?_append_right (by rw [eO];omega),eO,show (j+1) * 5+c-5=j * 5+c by omega,fI l j c (by simpa using h) hc]
  simp
theorem yv (m:Mv):∀ u∈b9 m,u.oneCell'=true:=by
 intro u hu
 simp only [b9,List.mem_cons,List.not_mem_nil,or_false] at hu
 rcases hu with rfl | rfl | rfl | rfl | rfl<;>rfl
theorem zz (l:M'):∀ u∈l.flatMap b9,u.oneCell'=true:=by
 intro u hu
 obtain ⟨m,_,h⟩:=List.mem_flatMap.1 hu
 exact yv m u h
theorem jb {g g':Gh} {tk tk':List Nat} {w w':World} {p:Pos} {cs:List Value} (h:ax g tk w (bp (Pos.av p)) cs):ax g' tk' w' (bp (Pos.av p)) cs:=by
 change ax g tk w [.int .u8 p.variant,.ints .u8 64 p.ae,.u64 p.ab,.ints .u8 12 p.af,.int .u8 p.aa,.ints .i8 4 p.ai,.int .i8 p.ah,.ints .u8 2 p.ag,.int .i64 p.half,.int .i64 p.full] cs at h
 obtain ⟨x1,r1,rfl,q1,h1⟩:=h.inv_one rfl
 obtain ⟨l2,r2,rfl,h2⟩:=h1.bY
 obtain ⟨x3,r3,rfl,q3,h3⟩:=h2.inv_one rfl
 obtain ⟨l4,r4,rfl,h4⟩:=h3.bY
 obtain ⟨x5,r5,rfl,q5,h5⟩:=h4.inv_one rfl
 obtain ⟨l6,r6,rfl,h6⟩:=h5.bY
 obtain ⟨x7,r7,rfl,q7,h7⟩:=h6.inv_one rfl
 obtain ⟨l8,r8,rfl,h8⟩:=h7.bY
 obtain ⟨x9,r9,rfl,q9,h9⟩:=h8.inv_one rfl
 obtain ⟨x10,r10,rfl,q10,h10⟩:=h9.inv_one rfl
 obtain rfl:=h10.cT
 cases q1;cases q3;cases q5;cases q7;cases q9;cases q10
 exact .one rfl (.int _ _) (.ints l2 rfl (.one rfl (.u64 _) (.ints l4 rfl (.one rfl (.int _ _) (.ints l6 rfl (.one rfl (.int _ _) (.ints l8 rfl (.one rfl (.int _ _) (.one rfl (.int _ _) .nil)))))))))
set_option maxHeartbeats 1000000 in
set_option maxRecDepth 100000 in
theorem ahN (a:Option Addr) (c:Nat) (fv:Value) (w:World):Calls Tryz.prog 110 #[.slice a 0 c,fv] w fun e w'=>e=.returned (.int .i64 (-1))∧w'=w:=by
 go_enter Tryz.func110,Tryz.ntmps110
 go_wp2
 go_loopg [5,8] 0 (fun _ _ s8 wr=>s8=.int .i64 0∧wr=w)
 case atStart=>exact ⟨rfl,rfl⟩
 case round =>
  obtain ⟨rfl,rfl⟩:=hrel
  go_wp2
  go_ret
  exact ⟨rfl,rfl⟩
set_option maxHeartbeats 1000000 in
set_option maxRecDepth 100000 in
theorem Tz (a:Option Addr) (c:Nat) (fv:Value) (w:World):Calls Tryz.prog 49 #[.slice a 0 c,fv] w fun e w'=>e=.returned (.slice a 0 c)∧w'=w:=by
 have h:=ahN a c fv w
 go_enter Tryz.func49,Tryz.ntmps49
 go_wp2_with fail
 refine h.mono ?_
 rintro e w' ⟨rfl,rfl⟩
 go_wp2_with fail
 go_ret
 exact ⟨rfl,rfl⟩
set_option maxHeartbeats 2000000 in
set_option maxRecDepth 100000 in
theorem K7 (ad:Addr) (c:Nat) (w:World):Calls Tryz.prog 123 #[.slice (some ad) 0 c] w fun e w'=>∃ v',e=.returned v'∧w'.ownsRow w.heap.size 47 5 v' 0 []∧v'≠.slice none 0 0∧RowKit.Below w.heap.size w w':=by
 obtain ⟨i0,z,a1,a2,a3,a4,a5⟩:=rK
 have q22:∀ (w:World) (a:Option Addr) (n c n' c':Nat),(binOp .eql 34 (.slice a n c) (.slice none n' c')).run Tryz.prog w=.ok (.bool a.isNone) w:=fun w a n c n' c'=>Lib.run_eql_slice_nil w _ _ a n c n' c' Tryz.underlying34
 have u22:∀ w,Sem.run Tryz.prog (underlying 34) w=.ok (TypeDesc.slice 47) w:=run_underlying Tryz.underlying34
 go_enter Tryz.func123,Tryz.ntmps123
 go_wp2_with (at_builtin;refine wpList_append_own _ rfl _ _ 34 rfl w.heap.size 47 i0 z 5 i0.bytes Tryz.underlying34 a1 a2 a3 rfl a4 (by omega) _ _ _ rfl (World.ownsRow_made w #[] 0 (Nat.le_refl _) (Nat.zero_le _) (by simp)) ad 0 c [] rfl ?qc1 ?qc2 ?qc3 ?qc4 ?qc5 ?qc6 ?_)
 case qc1=>rfl
 case qc2=>intro j u hj;simp at hj
 case qc3=>intro u hu;simp at hu
 case qc4=>simp
 case qc5=>simp
 case qc6=>simp
 intro v' w1 hown hgrow hnil
 go_wp2
 go_ret
 refine ⟨v',rfl,by simpa using hown,?_,?_⟩
 ·exact hnil
 ·exact ((Below.refl _ w).alloc (Nat.le_refl _) _).grown hgrow (by simp) (by intro k hk;simp [Value.ownBlock] at hk;omega)
set_option maxHeartbeats 2000000 in
set_option maxRecDepth 100000 in
theorem Qe (p:Pos) (f2:Nat) (q:Mv→Bool) (l:M') (hll:l.length≤oZ) (hq:∀ m,bJ Tryz.prog 124 [Mv.av m,.ptrf (.func f2 [] [.ptrf (Pos.av p)])] (.bool (!q m))):bJ Tryz.prog 122 [.list .mv l .arg,.func f2 [] [.ptrf (Pos.av p)]] (.list .mv (l.filter q) .fresh):=by
 intro w bG hg hr
 obtain ⟨bG⟩:=bG
 cases hr with
 | cons q1 r1 =>
 cases r1 with
 | cons q2 r2 =>
 cases r2
 cases q2 with
 | func ha hb =>
 rename_i x y
 obtain ⟨x⟩:=x
 obtain ⟨y⟩:=y
 cases ha
 cases hb with
 | cons q3 r3 =>
 cases r3
 cases q3 with
 | ptrf hpc hpa =>
 rename_i pc po pcs
 cases q1 with
 | list hn hE hS hT hC =>
 rename_i a n cap cs
 subst hn
 have hcs:=eU hE
 obtain ⟨fv,hfv⟩:∃ fv:Value,fv=.func (.func f2) (Array.mk []) (Array.mk [.pointer (some ⟨pc,po,none⟩)]):=⟨_,rfl⟩
 rw [← hfv]
 have hpred:∀ (W:World) (u:Mv),w.heap.size+1≤W.heap.size→(∀ k,k<w.heap.size+1→W.heap[k]?=(w.alloc (.cells #[fv] 74)).heap[k]?) →
   Calls Tryz.prog 124 (#[.agg (b9 u).toArray]++#[.pointer (some ⟨w.heap.size,0,none⟩)]) W fun e w'=>e=.returned (.bool (!q u))∧RowKit.Below W.heap.size W w':=by
  intro W u hsz hsame
  have old:∀ k,k<w.heap.size→W.heap[k]?=w.heap[k]? := fun k hk=>by
   rw [hsame k (by omega)]
   exact ((Below.refl _ w).alloc (Nat.le_refl _) _).block k hk
  refine (callsIn_wide.1 (hq u W (#[.agg (b9 u).toArray]++#[.pointer (some ⟨w.heap.size,0,none⟩)]) ?_ ?_)).mono ?_
  ·exact fun pr hpr=>MY (by omega) old (hg pr hpr)
  ·refine .cons (.agg (pZ _ _ _ u)) (.cons (.ptrf (cs:=[fv]) (.one rfl ?_ .nil) ?_) .nil)
   ·rw [hfv]
    refine .func .nil (.cons (.ptrf (jb hpc) ?_) .nil)
    intro j x hj
    obtain ⟨h1,h2⟩:=hpa j x hj
    have hlt:pc<w.heap.size:=h2
    exact ⟨by rw [cQ (old _ hlt)];exact h1,Nat.lt_of_lt_of_le hlt (by omega)⟩
   ·intro j x hj
    have hc:W.heap[w.heap.size]?=some (.cells #[fv] 74 (0,0)):=by
     rw [hsame _ (Nat.lt_succ_self _)];exact heap_alloc_new w _
    refine ⟨?_,show w.heap.size<W.heap.size by omega⟩
    rw [aD hc,Nat.zero_add]
    simpa using hj
  ·rintro e w' ⟨v,rfl,hb,hv⟩
   cases hv
   exact ⟨rfl,hb⟩
 subst hfv
 clear hpc hpa
 refine callsIn_wide.2 ?_
 cases a with
 | none =>
  obtain rfl:l=[]:=by
   rcases hS with h | ⟨_,_,h,_⟩
   ·have:=dQ l
    rw [← hcs,h] at this
    exact List.eq_nil_of_length_eq_zero (by simp at this;omega)
   ·cases h
  have hc:=fun w=>AnyE.slices_Clone_nil Tryz.wR 0 cap w
  have hd:=Tz none 0 (.func (.func 124) #[] #[.pointer (some ⟨w.heap.size,0,none⟩)])
  clear hpred hS hcs hE hT
  go_enter Tryz.func122,Tryz.ntmps122
  go_wp2_with fail
  refine (hc _).mono ?_
  rintro e w' ⟨rfl,rfl⟩
  go_wp2_with fail
  refine (hd _).mono ?_
  rintro e w' ⟨rfl,rfl⟩
  go_wp2_with fail
  go_ret
  exact ⟨_,rfl,(Below.refl _ w).alloc (Nat.le_refl _) _,.list (cs:=[]) rfl .nil (.inl rfl) (fun k e=>by cases e) (Nat.le_refl _)⟩
 | some ad =>
  have hclone:Calls Tryz.prog 123 #[.slice (some ad) l.length cap] (w.alloc (.cells #[(.func (.func f2) (Array.mk []) (Array.mk [.pointer (some ⟨pc,po,none⟩)]))] 74)) fun e w'=>∃ v',e=.returned v'∧w'.ownsRow (w.alloc (.cells #[(.func (.func f2) (Array.mk []) (Array.mk [.pointer (some ⟨pc,po,none⟩)]))] 74)).heap.size 47 5 v' l.length (l.flatMap b9)∧v'≠.slice none 0 0∧RowKit.Below (w.alloc (.cells #[(.func (.func f2) (Array.mk []) (Array.mk [.pointer (some ⟨pc,po,none⟩)]))] 74)).heap.size (w.alloc (.cells #[(.func (.func f2) (Array.mk []) (Array.mk [.pointer (some ⟨pc,po,none⟩)]))] 74)) w':=by
   by_cases hl:l=[]
   ·subst hl
    exact K7 ad cap _
   ·obtain ⟨c,o,hadr,hat,_⟩:=hS.resolve_left (fun e0=>hl (by
     have:=dQ l
     rw [← hcs,e0] at this
     exact List.eq_nil_of_length_eq_zero (by simp at this;omega)))
    simp only [A'] at hadr
    subst hadr
    obtain ⟨i0,z,a1,a2,a3,a4,a5⟩:=rK
    refine AnyE.slices_Clone Tryz.wR i0 z 5 i0.bytes a1 a2 a3 rfl a4 (by omega) Tryz.sizeOf47 c o l.length cap (l.flatMap b9) _ (dQ l) ?_ ?_ ?_ (zz l)
    ·unfold oZ at hll;unfold maxLen;omega
    ·have:l.length * i0.bytes≤l.length * 131072:=Nat.mul_le_mul_left _ a5
     unfold oZ at hll
     omega
    ·intro j u hj
     rw [← hcs] at hj
     obtain ⟨h1,h2⟩:=hat j u hj
     have hlt:c<w.heap.size:=h2
     rw [cQ (((Below.refl _ w).alloc (Nat.le_refl _) _).block c hlt)]
     exact h1
  clear hS hcs hE hT
  have HP:=Lib.hid hpred
  clear hpred
  go_enter Tryz.func122,Tryz.ntmps122
  go_wp2_with fail
  refine hclone.mono ?_
  rintro e w2 ⟨v',rfl,hown,hne,hb⟩
  obtain ⟨hlen,⟨rfl,_⟩ | ⟨gb,cap',cur,rfl,hgb,hcur,hn',hmax,hsz,htake⟩⟩:=hown
  ·exact absurd rfl hne
  have hrow:cZ w2 gb cap' 47 l.toArray w2:=⟨rfl,rfl,rfl,Nat.le_refl _,fun _ _ _=>rfl,cur,hcur,hsz,fun j c hj hc=>by
   have hj':j<l.length:=by simpa using hj
   have h1:j * 5+c<l.length * 5:=by have:=Nat.mul_le_mul_right 5 (show j+1≤l.length from hj');omega
   rw [← Array.getElem?_toList,← List.getElem?_take_of_lt h1,htake,fI l j c hj' hc]
   congr 2
   rw [getElem!_pos l j hj',getElem!_pos l.toArray j hj]
   simp⟩
  have hdel:=WG (fun u => !q u) 124 #[.pointer (some ⟨w.heap.size,0,none⟩)] (fun _ _=>rfl) gb cap' l.toArray w2 (aC hcur) hrow (by simpa using hn') hmax (fun W dk u hW=>by
   have hs1:(w.alloc (.cells #[(.func (.func f2) (Array.mk []) (Array.mk [.pointer (some ⟨pc,po,none⟩)]))] 74)).heap.size=w.heap.size+1:=by simp
   refine HP.out W u (by have:=hb.size;have:=hW.size;omega) (fun k hk=>?_)
   rw [hW.other k (by have:=hb.size;omega) (by omega),hb.block k (by omega)])
  simp only [List.size_toArray,Bool.not_not] at hdel
  have HD:=Lib.hid hdel
  have HBW:=Lib.hid hb
  have HG:=Lib.hid hgb
  have HN:=Lib.hid hn'
  clear hdel HP hrow hb hgb hn' hcur hsz htake hlen hne hmax hclone
  go_wp2_with fail
  refine HD.out.mono ?_
  rintro e w3 ⟨rfl,hR⟩
  have HR:=Lib.hid hR
  clear hR
  go_wp2_with fail
  go_ret
  have hR:=HR.out
  have hb:=HBW.out
  have hgb:=HG.out
  have hs1:(w.alloc (.cells #[(.func (.func f2) (Array.mk []) (Array.mk [.pointer (some ⟨pc,po,none⟩)]))] 74)).heap.size=w.heap.size+1:=by simp
  have hw1:RowKit.Below w.heap.size w (w.alloc (.cells #[(.func (.func f2) (Array.mk []) (Array.mk [.pointer (some ⟨pc,po,none⟩)]))] 74)):=(Below.refl _ w).alloc (Nat.le_refl _) _
  have hbw:RowKit.Below w.heap.size w w3:=⟨hR.os.trans (hb.os.trans hw1.os),hR.tape.trans (hb.tape.trans hw1.tape),hR.output.trans (hb.output.trans hw1.output),by have:=hR.size;have:=hb.size;omega,fun k hk=>by
   rw [hR.other k (by have:=hb.size;omega) (by omega),hb.block k (by omega)]
   exact hw1.block k hk⟩
  refine ⟨_,rfl,hbw,?_⟩
  obtain ⟨cur,k1,k2,k3⟩:=hR.row
  have hfl:(l.filter q).length≤l.length:=List.length_filter_le _ _
  refine .list (cs:=(l.filter q).flatMap b9) (by simp) (hU _ _ _ _) (.inr ⟨gb,0,rfl,fun j x hj=>?_,fun _=>by show w.heap.size≤gb;omega⟩) (fun k e=>by cases e) (Nat.le_trans hfl HN.out)
  have hjl:j<(l.filter q).length * 5:=by rw [← dQ];exact (C'.1 hj).1
  have hdm:j=j / 5 * 5+j % 5:=by omega
  have hq5:j / 5<(l.filter q).length:=by omega
  refine ⟨?_,show w.heap.size≤gb∧gb<w3.heap.size from ⟨by omega,aC k1⟩⟩
  rw [aD k1,Nat.zero_add,hdm,k3 (j / 5) (j % 5) (by simpa using hq5) (Nat.mod_lt _ (by omega)),← hj]
  conv=>rhs;rw [hdm]
  rw [fI (l.filter q) (j / 5) (j % 5) hq5 (Nat.mod_lt _ (by omega))]
  congr 2
  rw [getElem!_pos (l.filter q) (j / 5) hq5,getElem!_pos (l.filter q).toArray (j / 5) (by simpa using hq5)]
  simp
end Go.Proofs
end
noncomputable section
namespace Kz
open Go Go.RowKit Go.Proofs
theorem DQ {P:Program} {f:Nat} {l l':M'} {tk:Tk} {f2 b:Nat} {p:Pos} {h:Hp} (hb:h.heap[b]?=some (bp (Pos.av p))) (hs:bJ P f [.list .mv l .arg,.func f2 [] [.ptrf (Pos.av p)]] (.list .mv l' .fresh)) :
  di P f [.list .mv l tk,.func f2 [] [.ptr b 0]] h (.ret (.list .mv l' .fresh) h):=by
 intro g w bG m hr
 have hr':aA (c9 w) [] w [.list .mv l .arg,.func f2 [] [.ptrf (Pos.av p)]] bG.toList:=by
  obtain ⟨bG⟩:=bG
  cases hr with
  | cons q1 r1 =>
  cases r1 with
  | cons q2 r2 =>
  cases r2
  cases q1 with
  | list hn hE hS hT hC =>
  rename_i a n cap cs
  cases q2 with
  | func ha hb2 =>
  rename_i x y
  obtain ⟨x⟩:=x
  obtain ⟨y⟩:=y
  cases ha
  cases hb2 with
  | cons q3 r3 =>
  cases r3
  cases q3 with
  | ptr hv =>
  rename_i c
  obtain ⟨_,_,cells,ty,hc,hcells⟩:=m.Ma hv hb rfl
  refine .cons (.list (cs:=cs) hn (by rw [eU hE];exact hU _ _ _ _) (hS.imp id fun ⟨c',o',e1,e2,_⟩=>⟨c',o',e1,fun j x hj=>⟨(e2 j x hj).1,m.fa _ _ (e2 j x hj).2⟩,fun f=>absurd rfl f⟩) (fun k e=>by cases e) hC)
   (.cons (.func .nil (.cons (.ptrf (cs:=cells.toList) (jb hcells) fun j x hj=>⟨by rw [aD hc,Nat.zero_add];simpa using hj,aC hc⟩) .nil)) .nil)
 refine (hs w bG m.AP hr').mono ?_
 rintro e w' ⟨x,rfl,hbl,hx⟩
 obtain ⟨m1,l1⟩:=m.K0 hbl
 exact ⟨_,x,rfl,⟨m1,l1,Fl.refl _⟩,FV m hx⟩
def Tx:aw:=gN Pz (fun _ _=>[]) [(47,RX),(126,EH)] [] []
theorem QI:aV Tx:=ak aj ⟨Vx,G5,trivial⟩ trivial trivial
theorem aaV (p:Pos) (m:Mv):cy Tx 14 124 [Mv.av m,.ptrf (.func 125 [] [.ptrf (Pos.av p)])]=Tr.br (qs p m) (Tr.ret (AV.bool (!dA p m))) Tr.fail:=by kernel_rfl
theorem Xi (p:Pos) (m:Mv):cy Tx 14 124 [Mv.av m,.ptrf (.func 127 [] [.ptrf (Pos.av p)])]=Tr.br (uK p m) (Tr.ret (AV.bool (!fT p m))) Tr.fail:=by kernel_rfl
theorem Q7 (p:Pos) (m:Mv) (h:qs p m=true):bJ Pz 124 [Mv.av m,.ptrf (.func 125 [] [.ptrf (Pos.av p)])] (.bool (!dA p m)) :=
 (Dv (d:=dB) QI (aaV p m) (sx (JQ rfl)) (by rw [h];rfl)).1
theorem Qo (p:Pos) (m:Mv) (h:uK p m=true):bJ Pz 124 [Mv.av m,.ptrf (.func 127 [] [.ptrf (Pos.av p)])] (.bool (!fT p m)) :=
 (Dv (d:=dB) QI (Xi p m) (sx (JQ rfl)) (by rw [h];rfl)).1
open Classical in
def Bu (p:Pos):Bool:=shut (decide (∀ m,qs p m=true))
theorem nq {p:Pos}:Bu p=true ↔ ∀ m,qs p m=true:=by
 unfold Bu
 rw [nK]
 simp
open Classical in
def Lb (p:Pos):Bool:=shut (decide (∀ m,uK p m=true))
theorem pU {p:Pos}:Lb p=true ↔ ∀ m,uK p m=true:=by
 unfold Lb
 rw [nK]
 simp
def kept (f:Nat) (p:Pos) (l:M'):M':=l.filter (bif f.beq 125 then dA p else fT p)
def dy (f:Nat) (p:Pos) (l:M'):Bool:=decide (l.length≤oZ)&&bif f.beq 125 then Bu p else f.beq 127&&Lb p
def DR:List AV→Hp→Tr bT:=fun xs h=>match xs with
 | [.list .mv l _,.func f [] [.ptr b 0]]=>match h.heap[b]? with
  | some [.int .u8 v,.ints .u8 64 bd,.u64 pr,.ints .u8 12 pk,.int .u8 tn,.ints .i8 4 rk,.int .i8 ps,.ints .u8 2 ck,.int .i64 hf,.int .i64 fl] =>
   .guard (dy f ⟨v,bd,pr,pk,tn,rk,ps,ck,hf,fl⟩ l) (.ret (.ret (.list .mv (kept f ⟨v,bd,pr,pk,tn,rk,ps,ck,hf,fl⟩ l) .fresh) h))
  | _=>.fail
 | _=>.fail
theorem C8:∃ fn,Pz.funcs[122]?=some fn∧fn.body.isSome=true:=by
 have h:(match Pz.funcs[122]? with
  | some fn=>fn.body.isSome
  | none=>false)=true:=by kernel_rfl
 split at h
 ·rename_i fn hf
  exact ⟨fn,hf,h⟩
 ·cases h
theorem JY:gO Pz 122 DR:=by
 intro xs h res he
 unfold DR at he
 split at he
 ·rename_i l tk f b
  split at he
  ·rename_i v bd pr pk tn rk ps ck hf fl hb
   simp only [get_guard,ar,A'] at he
   obtain ⟨h1,rfl⟩:=he
   refine ⟨?_,C8⟩
   unfold dy at h1
   simp only [E',decide_eq_true_eq] at h1
   obtain ⟨hl,h1⟩:=h1
   unfold kept
   cases hf3:f.beq 125 with
   | true =>
    rw [hf3] at h1
    obtain rfl:=Nat.eq_of_beq_eq_true hf3
    exact DQ (p:=⟨v,bd,pr,pk,tn,rk,ps,ck,hf,fl⟩) hb (Qe _ _ _ l hl fun m=>Q7 _ m (nq.1 h1 m))
   | false =>
    rw [hf3] at h1
    simp only [cond_false,E'] at h1
    obtain rfl:=Nat.eq_of_beq_eq_true h1.1
    exact DQ (p:=⟨v,bd,pr,pk,tn,rk,ps,ck,hf,fl⟩) hb (Qe _ _ _ l hl fun m=>Qo _ m (pU.1 h1.2 m))
  ·simp at he
 ·simp at he
def K64:KT:=[(64,37,[(0,(1::(rn 12 5 [28,29,30]))),(1,[1,17,28,29,30]),(2,[2]),(3,[1,3,28,29,30]),(4,[1,3,4,28,29,30]),(5,[1,3,4,5,28,29,30]),(6,[3,4,5,31]),(7,[4]),(8,[2])]),(122,9,[(0,[0,3]),(1,[4])]),(125,7,[(0,[1,2]),(1,[3])]),(127,7,[(0,[1,2]),(1,[3])]),(128,9,[(0,[0,1]),(1,[4])]),(110,19,[(0,[0,1]),(1,[0,1,7,8]),(2,[0,1,7,8,9]),(3,[0,1,5,7,8]),(4,[0,1,5,7,8,16]),(5,[4]),(6,[0,1,7,8]),(7,[4])])]
def ZY:aw:=bO Pz K64 [(120,A7),(66,AK),(47,RX),(126,EH),(121,BU)] [] [(122,DR)]
theorem Tc:aV ZY:=ak aj ⟨EA,Bb,Vx,G5,Ew,trivial⟩ trivial ⟨JY,trivial⟩
def Qk (p1:M') (p2:Int) (p3:Pos) (x:(Int)):St:=St.mk (.list .mv p1 .fresh::.func 127 [] [.ptr 0 0]::(an 5 (.int .i64 p2::.int .i64 x::(an 10 [])))) (Hp.mk [(pc p3 [])] [0] [] 0 0 0)
def OV (p1:M') (p2:Int) (p3:Pos):(Int) ⊕ (Int×Bool)→Out
 | (.inl (y))=>.ret (St.mk (an 4 (AV.int .i64 y::(an 14 []))) (Hp.mk [(pc p3 [])] [0] [] 0 0 0))
 | (.inr (y))=>.exit 0 (St.mk (AV.list ET.mv p1 Tk.fresh::AV.func 127 [] [AV.ptr 0 0]::(an 5 (AV.int .i64 p2::AV.int .i64 y.1::AV.bool y.2::(an 9 [])))) (Hp.mk [(pc p3 [])] [0] [] 0 0 0))
def Sh (p1:M') (p2:Int) (p3:Pos) (x:(Int)):aI (Int) ((Int) ⊕ (Int×Bool)):=(bif decide (x<p2) then (bif fT p3 (p1.getD x.toNat default) then (aI.out (.inl ((x)))) else (aI.go (wr .i64 (x+1)))) else (aI.out (.inr ((x,decide (x<p2))))))
def Mh (p1:M') (p2:Int) (p3:Pos) (x:(Int)):Bool:=(bif decide (x<p2) then (decide (0≤x)&&decide (x<Int.ofNat p1.length)&&(uK (p3) (p1.getD x.toNat default)&&true)) else true)
def dD (p1:M') (p2:Int) (p3:Pos) (x:(Int)):Option ((Int) ⊕ (Int×Bool)):=da (fun x=>bif Mh p1 p2 p3 x then Sh p1 p2 p3 x else .bad) many x
abbrev OR {α:Type} (k:M'→Int→Pos→(Int)→α) (s:St):α:=wP s 0 fun q0=>k (tL (ET.mv) (tT s 0)) (tI (tT s 7)) q0 ((tI (tT s 8)))
theorem abm (p1:M') (p2:Int) (p3:Pos) (x:(Int)) (r:(Int) ⊕ (Int×Bool)) (h:dD p1 p2 p3 x=some r):aB Pz (bj Pz 110 2) (Qk p1 p2 p3 x) (OV p1 p2 p3 r):=aB.xO (m:=12) (fn:=110) Tc (OR fun _ _ _ x=>some x) (fun o=>match o with | .ret s=>some (.inl (tI (tT s 4))) | .exit 0 s=>some (.inr ((tI (tT s 8)),(tB (tT s 9)))) | _=>none) (fun r=>by cases r<;>rfl) (fun _=>by kernel_rfl) (fun _=>by kernel_rfl) (fun _=>by kernel_rfl) (fun _=>by kernel_rfl) many x r h
def Q8 (b:Code) (s:St):Tr Out:=OR (fun p1 p2 p3 x=>w9 b (bj Pz 110 2) s (Qk p1 p2 p3 x) (dD p1 p2 p3 x) (OV p1 p2 p3)) s
theorem Rg:∀ b,aZ Pz b (Q8 b):=fun _ _ _ h=>ez (abm _ _ _ _) h
def B64:aw:=bO Pz K64 [(120,A7),(66,AK),(47,RX),(126,EH),(121,BU)] [(110,2,Q8)] [(122,DR)]
theorem abV:aV B64:=ak aj ⟨EA,Bb,Vx,G5,Ew,trivial⟩ ⟨Rg,trivial⟩ ⟨JY,trivial⟩
def kC (a:Pos):M':=(bif jr a.variant a.aa then (bif !nh a a.aa then ([]) else (bif a.variant==4 then (bif cu ((dD (kept 125 a (bL a)) (Int.ofNat (kept 125 a (bL a)).length) a 0).getD default) then (bif decide (gl ((dD (kept 125 a (bL a)) (Int.ofNat (kept 125 a (bL a)).length) a 0).getD default)≥0) then (kept 127 a (kept 125 a (bL a))) else (kept 125 a (bL a))) else (kept 125 a (bL a))) else (kept 125 a (bL a)))) else (bif a.variant==4 then (bif cu ((dD (kept 125 a (bL a)) (Int.ofNat (kept 125 a (bL a)).length) a 0).getD default) then (bif decide (gl ((dD (kept 125 a (bL a)) (Int.ofNat (kept 125 a (bL a)).length) a 0).getD default)≥0) then (kept 127 a (kept 125 a (bL a))) else (kept 125 a (bL a))) else (kept 125 a (bL a))) else (kept 125 a (bL a))))
def yR (a:Pos):Bool:=(kX (a.variant) (a.aa)&&(bif jr a.variant a.aa then (qy (a) (a.aa)&&(bif !nh a a.aa then true else (sc (a)&&(dy 125 a (bL a)&&(bif a.variant==4 then ((dD (kept 125 a (bL a)) (Int.ofNat (kept 125 a (bL a)).length) a 0).isSome&&bif cu ((dD (kept 125 a (bL a)) (Int.ofNat (kept 125 a (bL a)).length) a 0).getD default) then (bif decide (gl ((dD (kept 125 a (bL a)) (Int.ofNat (kept 125 a (bL a)).length) a 0).getD default)≥0) then (dy 127 a (kept 125 a (bL a))&&true) else true) else true) else true))))) else (sc (a)&&(dy 125 a (bL a)&&(bif a.variant==4 then ((dD (kept 125 a (bL a)) (Int.ofNat (kept 125 a (bL a)).length) a 0).isSome&&bif cu ((dD (kept 125 a (bL a)) (Int.ofNat (kept 125 a (bL a)).length) a 0).getD default) then (bif decide (gl ((dD (kept 125 a (bL a)) (Int.ofNat (kept 125 a (bL a)).length) a 0).getD default)≥0) then (dy 127 a (kept 125 a (bL a))&&true) else true) else true) else true)))))
theorem P64 (a:Pos) (h:yR a=true):PS Pz 64 [Pos.av a] ((dL .mv).res (kC a)):=pq14 abV h
def G64:GT:=g1 aY (fun a=>cg (yR a) ((dL .mv).res (kC a)))
theorem s64:Sound Pz 64 G64:=aF fun a=>ay (P64 a)
def Xs:KT:=[(128,9,[(0,[0,1]),(1,[4])]),(187,40,[(0,[1,2,16]),(1,[1,2,3,16]),(2,[1,2,4,5,16]),(3,[1,2,4,5,13]),(4,[2]),(5,[1,2,4,19]),(6,[2]),(7,[1,2,22]),(8,[2]),(9,[1,2,26]),(10,[2]),(11,[1,2,6]),(12,[1,2,7]),(13,[2,37]),(14,[2]),(15,[2])]),(110,19,[(0,[0,1]),(1,[0,1,7,8]),(2,[0,1,7,8,9]),(3,[0,1,5,7,8]),(4,[0,1,5,7,8,16]),(5,[4]),(6,[0,1,7,8]),(7,[4])]),(233,8,[(0,[0,1]),(1,[3])]),(234,14,[(0,[1,2,10,11,12]),(1,[3])])]
def Vi:aw:=bO Pz Xs [(64,G64),(145,jM),(229,yA)] [] []
theorem Nq:aV Vi:=ak aj ⟨s64,ke,BI,trivial⟩ trivial trivial
def G8 (p1:M') (p2:Int) (p3:Pos) (p4:Int) (x:(Int)):St:=St.mk (.list .mv p1 .fresh::.func 234 [] [.ptr 2 0]::(an 5 (.int .i64 p2::.int .i64 x::(an 10 [])))) (Hp.mk [(pc p3 []),[.int .u8 0,.int .u8 0],[.int .i64 p4]] [] [] 0 0 0)
def KG (p1:M') (p2:Int) (p3:Pos) (p4:Int):(Int) ⊕ (Int×Bool)→Out
 | (.inl (y))=>.ret (St.mk (an 4 (AV.int .i64 y::(an 14 []))) (Hp.mk [(pc p3 []),[AV.int .u8 0,AV.int .u8 0],[AV.int .i64 p4]] [] [] 0 0 0))
 | (.inr (y))=>.exit 0 (St.mk (AV.list ET.mv p1 Tk.fresh::AV.func 234 [] [AV.ptr 2 0]::(an 5 (AV.int .i64 p2::AV.int .i64 y.1::AV.bool y.2::(an 9 [])))) (Hp.mk [(pc p3 []),[AV.int .u8 0,AV.int .u8 0],[AV.int .i64 p4]] [] [] 0 0 0))
def Cl (p1:M') (p2:Int) (p3:Pos) (p4:Int) (x:(Int)):aI (Int) ((Int) ⊕ (Int×Bool)):=(bif decide (x<p2) then (bif wr .i64 (p1.getD x.toNat default).az==p4 then (bif decide ((p1.getD x.toNat default).to≥56) then (aI.out (.inl ((x)))) else (aI.go (wr .i64 (x+1)))) else (aI.go (wr .i64 (x+1)))) else (aI.out (.inr ((x,decide (x<p2))))))
def zf (p1:M') (p2:Int) (p3:Pos) (p4:Int) (x:(Int)):Bool:=(bif decide (x<p2) then (decide (0≤x)&&decide (x<Int.ofNat p1.length)&&true) else true)
def eR (p1:M') (p2:Int) (p3:Pos) (p4:Int) (x:(Int)):Option ((Int) ⊕ (Int×Bool)):=da (fun x=>bif zf p1 p2 p3 p4 x then Cl p1 p2 p3 p4 x else .bad) many x
abbrev Hj {α:Type} (k:M'→Int→Pos→Int→(Int)→α) (s:St):α:=wP s 0 fun q0=>k (tL (ET.mv) (tT s 0)) (tI (tT s 7)) q0 (tI (tH s 2 0)) ((tI (tT s 8)))
theorem Ss (p1:M') (p2:Int) (p3:Pos) (p4:Int) (x:(Int)) (r:(Int) ⊕ (Int×Bool)) (h:eR p1 p2 p3 p4 x=some r):aB Pz (bj Pz 110 2) (G8 p1 p2 p3 p4 x) (KG p1 p2 p3 p4 r):=aB.xO (m:=12) (fn:=110) Nq (Hj fun _ _ _ _ x=>some x) (fun o=>match o with | .ret s=>some (.inl (tI (tT s 4))) | .exit 0 s=>some (.inr ((tI (tT s 8)),(tB (tT s 9)))) | _=>none) (fun r=>by cases r<;>rfl) (fun _=>by kernel_rfl) (fun _=>by kernel_rfl) (fun _=>by kernel_rfl) (fun _=>by kernel_rfl) many x r h
def JE (b:Code) (s:St):Tr Out:=Hj (fun p1 p2 p3 p4 x=>w9 b (bj Pz 110 2) s (G8 p1 p2 p3 p4 x) (eR p1 p2 p3 p4 x) (KG p1 p2 p3 p4)) s
theorem OA:∀ b,aZ Pz b (JE b):=fun _ _ _ h=>ez (Ss _ _ _ _ _) h
def aea:aw:=bO Pz Xs [(64,G64),(145,jM),(229,yA)] [(110,2,JE)] []
theorem Yy:aV aea:=ak aj ⟨s64,ke,BI,trivial⟩ ⟨OA,trivial⟩ trivial
def Ej (a:Pos):(Int×Int):=(bif decide (aX a 0 6≥56) then (bif decide (aX a 1 6≥56) then ⟨(3),(6)⟩ else (bif decide (aX a 1 6≥56) then ⟨((dm 1 6).1),((dm 1 6).2)⟩ else (bif !decide (aX a 0 6≥56) then ⟨(0),(0)⟩ else (bif a.aa==0 then ⟨((dm 0 6).1),((dm 0 6).2)⟩ else (bif cu ((eR (kC a) (Int.ofNat (kC a).length) a (aX a 1 6) 0).getD default) then (bif decide (gl ((eR (kC a) (Int.ofNat (kC a).length) a (aX a 1 6) 0).getD default)≥0) then ⟨(0),(0)⟩ else ⟨((dm 0 6).1),((dm 0 6).2)⟩) else ⟨((dm 0 6).1),((dm 0 6).2)⟩))))) else (bif decide (aX a 1 6≥56) then ⟨((dm 1 6).1),((dm 1 6).2)⟩ else (bif !decide (aX a 0 6≥56) then ⟨(0),(0)⟩ else (bif a.aa==0 then ⟨((dm 0 6).1),((dm 0 6).2)⟩ else (bif cu ((eR (kC a) (Int.ofNat (kC a).length) a (aX a 1 6) 0).getD default) then (bif decide (gl ((eR (kC a) (Int.ofNat (kC a).length) a (aX a 1 6) 0).getD default)≥0) then ⟨(0),(0)⟩ else ⟨((dm 0 6).1),((dm 0 6).2)⟩) else ⟨((dm 0 6).1),((dm 0 6).2)⟩)))))
def zM (a:Pos):Bool:=(gT (a) (0) (6)&&(gT (a) (1) (6)&&(bif decide (aX a 0 6≥56) then (bif decide (aX a 1 6≥56) then true else (bif decide (aX a 1 6≥56) then true else (bif !decide (aX a 0 6≥56) then true else (bif a.aa==0 then true else (gT (a) (1) (6)&&(yR (a)&&((eR (kC a) (Int.ofNat (kC a).length) a (aX a 1 6) 0).isSome&&bif cu ((eR (kC a) (Int.ofNat (kC a).length) a (aX a 1 6) 0).getD default) then true else true))))))) else (bif decide (aX a 1 6≥56) then true else (bif !decide (aX a 0 6≥56) then true else (bif a.aa==0 then true else (gT (a) (1) (6)&&(yR (a)&&((eR (kC a) (Int.ofNat (kC a).length) a (aX a 1 6) 0).isSome&&bif cu ((eR (kC a) (Int.ofNat (kC a).length) a (aX a 1 6) 0).getD default) then true else true)))))))))
theorem ajP (a:Pos) (h:zM a=true):PS Pz 187 [Pos.av a] ((dR .u8 .u8).res (Ej a)):=pq14 Yy h
def YE:GT:=g1 aY (fun a=>cg (zM a) ((dR .u8 .u8).res (Ej a)))
theorem afg:Sound Pz 187 YE:=aF fun a=>ay (ajP a)
def K63:KT:=[(63,25,[(0,[1,2,8,9,10]),(1,[1,2,11]),(2,[2]),(3,[1,2,3]),(4,[1,2,3,19]),(5,[2]),(6,[2])])]
def B63:aw:=bO Pz K63 [(119,ZG),(182,V9),(183,VZ),(184,XL),(185,abn),(186,V0),(187,YE)] [] []
theorem aeE:aV B63:=ak aj ⟨abX,aj5,acS,ahg,agM,acw,afg,trivial⟩ trivial trivial
def v7 (a:Pos):(Int×Int):=(bif decide (a.variant≥9) then ⟨(0),(0)⟩ else (bif decide (a.aa>1) then ⟨(0),(0)⟩ else (bif a.variant==Int.ofNat 0 then ⟨(0),(0)⟩ else (bif a.variant==Int.ofNat 1 then ⟨(0),(0)⟩ else (bif a.variant==Int.ofNat 2 then ⟨(0),(0)⟩ else (bif a.variant==Int.ofNat 3 then ⟨((GN a).1),((GN a).2)⟩ else (bif a.variant==Int.ofNat 4 then ⟨((J8 a).1),((J8 a).2)⟩ else (bif a.variant==Int.ofNat 5 then ⟨((JG a).1),((JG a).2)⟩ else (bif a.variant==Int.ofNat 6 then ⟨((JC a).1),((JC a).2)⟩ else (bif a.variant==Int.ofNat 7 then ⟨((IJ a).1),((IJ a).2)⟩ else ⟨((Ej a).1),((Ej a).2)⟩))))))))))
def An (a:Pos):Bool:=(bif decide (a.variant≥9) then true else (bif decide (a.aa>1) then true else (decide (0≤a.variant)&&decide (a.variant<Int.ofNat 9)&&(bif a.variant==Int.ofNat 0 then true else (bif a.variant==Int.ofNat 1 then true else (bif a.variant==Int.ofNat 2 then true else (bif a.variant==Int.ofNat 3 then (Cn (a)&&true) else (bif a.variant==Int.ofNat 4 then (zF (a)&&true) else (bif a.variant==Int.ofNat 5 then (zj (a)&&true) else (bif a.variant==Int.ofNat 6 then (Ao (a)&&true) else (bif a.variant==Int.ofNat 7 then (C6 (a)&&true) else (a.variant==Int.ofNat 8&&(zM (a)&&true)))))))))))))
theorem P63 (a:Pos) (h:An a=true):PS Pz 63 [Pos.av a] ((dR .u8 .u8).res (v7 a)):=pq14 aeE h
def YT:GT:=g1 aY (fun a=>cg (An a) ((dR .u8 .u8).res (v7 a)))
theorem s63:Sound Pz 63 YT:=aF fun a=>ay (P63 a)
def K30:KT:=[(30,9,[(0,[1]),(1,[1,6]),(2,[2]),(3,[2])])]
def B30:aw:=bO Pz K30 [(63,YT),(64,G64)] [] []
theorem aiN:aV B30:=ak aj ⟨s63,s64,trivial⟩ trivial trivial
def eX (a:Pos):M':=(bif (v7 a).1 != 0 then ([]) else (kC a))
def Jt (a:Pos):Bool:=(An (a)&&(bif (v7 a).1 != 0 then true else (yR (a)&&true)))
theorem P30 (a:Pos) (h:Jt a=true):PS Pz 30 [Pos.av a] ((dL .mv).res (eX a)):=pq14 aiN h
def G30:GT:=g1 aY (fun a=>cg (Jt a) ((dL .mv).res (eX a)))
theorem s30:Sound Pz 30 G30:=aF fun a=>ay (P30 a)
end Kz
end
noncomputable section
namespace Kz
open Go
theorem t121 (p:Pos) (b:Int):qy p b=true:=ao (t145 _ _ _) fun _=>rfl
noncomputable section
variable {p:Pos} (hp:aO p)
include hp
theorem Kw (m:Mv):0≤(mI p m).1.variant:=by
 obtain ⟨_,h1,h2⟩:=od hp m
 by_cases hm:m∈bL p
 ·rw [(h1 hm).2.2.1];exact hp.v0
 ·rw [h2 hm];exact hp.v0
theorem t126 (m:Mv):qs p m=true:=by
 have hv:=Kw hp m
 have t0:=hp.t0
 have b1:=jv (1-p.aa)
 unfold qs
 refine ao (od hp m).1 fun _=>?_
 have k1:kX p.variant p.aa=true:=t120 hp.v0 t0
 have k2:lO (mI p m).1 p.aa=true:=t149 hv t0
 have k3:lO (mI p m).1 (wr .u8 (1-p.aa))=true:=t149 hv b1
 repeat' (first | with_reducible rfl | with_reducible exact k1 | with_reducible exact k2 | with_reducible exact k3 | with_reducible exact t121 _ _ | refine ao ?_ (fun _=>?_) | refine aq (fun _=>?_) (fun _=>?_))
theorem vc {l:M'} (hl:l.length≤1000000):dy 125 p l=true:=by
 unfold dy
 rw [show (125:Nat).beq 125=true from rfl,cond_true]
 have h1:decide (l.length≤oZ)=true:=by unfold oZ;simp;omega
 rw [h1,Bool.true_and]
 exact nq.2 (t126 hp)
theorem vJ {l:M'} (hl:l.length≤1000000):dy 127 p l=true:=by
 unfold dy
 rw [show (127:Nat).beq 125=false from rfl,cond_false,show (127:Nat).beq 127=true from rfl,Bool.true_and]
 have h1:decide (l.length≤oZ)=true:=by unfold oZ;simp;omega
 rw [h1,Bool.true_and]
 exact pU.2 (t47 hp.v0)
omit hp in
theorem mn (l:M'):kept 125 p l=l.filter (dA p):=by
 unfold kept
 rw [show (125:Nat).beq 125=true from rfl,cond_true]
omit hp in
theorem Oz (l:M'):kept 127 p l=l.filter (fT p):=by
 unfold kept
 rw [show (127:Nat).beq 125=false from rfl,cond_false]
theorem SQ (l:M') (hl:l.length≤1000000):∃ r,dD l (Int.ofNat l.length) p 0=some r ∧
  match r with
  | .inl i=>0≤i∧∃ m,m∈l∧fT p m=true
  | .inr _=>∀ m,m∈l→fT p m=false:=by
 refine bh (I:=fun x=>0≤x∧x≤(l.length:Int)∧∀ m,m∈l.take x.toNat→fT p m=false) (μ:=fun x=>((l.length:Int)-x).toNat) ?_ _ ⟨by simp,by simp,by simp⟩ (by simp;omega)
 rintro n ⟨h0,h1,h2⟩
 by_cases hc:n<l.length
 ·have hlt:n.toNat<l.length:=by omega
  refine ⟨aq (fun _=>ao (by simp [h0];exact hc) fun _=>ao (t47 hp.v0 _) fun _=>rfl) fun _=>rfl,au (fun _=>?_) fun h=>absurd h (by simpa using hc)⟩
  refine au (fun h=>⟨h0,_,cS hlt,h⟩) fun h=>?_
  rw [aN (n:=n+1) (by omega) (by omega)]
  refine ⟨⟨by omega,by omega,?_⟩,by dsimp only;omega⟩
  rw [show (n+1).toNat=n.toNat+1 by omega,List.take_succ_eq_append_getElem hlt]
  rw [List.getD_eq_getElem?_getD,I' hlt] at h
  intro m hm
  simp only [List.mem_append,List.mem_singleton] at hm
  rcases hm with hm | rfl
  ·exact h2 m hm
  ·exact h
 ·refine ⟨aq (fun h=>absurd h (by simpa using hc)) fun _=>rfl,au (fun h=>absurd h (by simpa using hc)) fun _=>?_⟩
  show ∀ m,m∈l→fT p m=false
  rw [List.take_of_length_le (by omega)] at h2
  exact h2
theorem Gf (l:M') (hl:l.length≤1000000) {α:Type} (x y:α) :
  (bif cu ((dD l (Int.ofNat l.length) p 0).getD default) then bif decide (gl ((dD l (Int.ofNat l.length) p 0).getD default)≥0) then x else y else y)=bif l.any (fT p) then x else y:=by
 have h:=(aM (SQ hp l hl)).2
 generalize (dD l (Int.ofNat l.length) p 0).getD default=r at h ⊢
 cases r with
 | inl i =>
  obtain ⟨h1,m,h2,h3⟩:=h
  have:l.any (fT p)=true:=List.any_eq_true.2 ⟨m,h2,h3⟩
  simp [cu,gl,h1,this]
 | inr z =>
  have:l.any (fT p)=false:=by
   rw [List.any_eq_false]
   intro m hm
   rw [h m hm];simp
  simp [cu,this]
theorem nS:((bL p).filter (dA p)).length≤20802:=Nat.le_trans (List.length_filter_le _ _) (mg hp)
theorem t64:yR p=true:=by
 have h1:=mg hp
 have h2:=nS hp
 have k1:kX p.variant p.aa=true:=t120 hp.v0 hp.t0
 have k2:sc p=true:=t66 hp
 have k3:dy 125 p (bL p)=true:=vc hp (by omega)
 have k4:dy 127 p (kept 125 p (bL p))=true:=vJ hp (by rw [mn];omega)
 have k5:(dD (kept 125 p (bL p)) (Int.ofNat (kept 125 p (bL p)).length) p 0).isSome=true:=(aM (SQ hp _ (by rw [mn];omega))).1
 unfold yR
 repeat' (first | with_reducible rfl | with_reducible exact k1 | with_reducible exact k2 | with_reducible exact k3 | with_reducible exact k4 | with_reducible exact k5 | with_reducible exact t121 _ _ | refine ao ?_ (fun _=>?_) | refine aq (fun _=>?_) (fun _=>?_))
def kZ (p:Pos):M':=bif p.variant==4 then bif ((bL p).filter (dA p)).any (fT p) then ((bL p).filter (dA p)).filter (fT p) else (bL p).filter (dA p) else (bL p).filter (dA p)
theorem Be:kC p=bif jr p.variant p.aa then bif !nh p p.aa then [] else kZ p else kZ p:=by
 have h2:=nS hp
 unfold kC
 have e:=fun (x y:M')=>Gf hp (kept 125 p (bL p)) (by rw [mn];omega) x y
 rw [e]
 unfold kZ
 rw [Oz,mn]
omit hp in
theorem uy {m:Mv} (h:m∈kZ p):m∈bL p∧dA p m=true:=by
 revert h
 unfold kZ
 have k:m∈(bL p).filter (dA p)→m∈bL p∧dA p m=true:=fun h=>by simpa using h
 refine au (P:=fun l:M'=>m∈l→_) (fun _=>au (P:=fun l:M'=>m∈l→_) (fun _ h=>k (List.mem_filter.1 h).1) fun _=>k) fun _=>k
theorem DS {m:Mv} (h:m∈kC p):m∈bL p∧dA p m=true:=by
 rw [Be hp] at h
 revert h
 exact au (P:=fun l:M'=>m∈l→_) (fun _=>au (P:=fun l:M'=>m∈l→_) (fun _ h=>by cases h) fun _=>uy) fun _=>uy
omit hp in
theorem zy (hl:((bL p).filter (dA p)).length≤20802):(kZ p).length≤20802:=by
 unfold kZ
 refine au (P:=fun l:M'=>l.length≤20802) (fun _=>au (P:=fun l:M'=>l.length≤20802) (fun _=>Nat.le_trans (List.length_filter_le _ _) hl) fun _=>hl) fun _=>hl
theorem xK:(kC p).length≤20802:=by
 have h:=zy (nS hp)
 rw [Be hp]
 exact au (P:=fun l:M'=>l.length≤20802) (fun _=>au (P:=fun l:M'=>l.length≤20802) (fun _=>by simp) fun _=>h) fun _=>h
omit hp in
theorem VU (l:M') (hl:l.length≤1000000) (q:Pos) (k:Int):(eR l (Int.ofNat l.length) q k 0).isSome=true:=by
 refine (aM (Q:=fun _=>True) (bh (I:=fun x=>0≤x∧x≤(l.length:Int)) (μ:=fun x=>((l.length:Int)-x).toNat) ?_ _ ⟨by simp,by simp⟩ (by simp;omega))).1
 rintro n ⟨h0,h1⟩
 by_cases hc:n<l.length
 ·refine ⟨aq (fun _=>ao (by simp [h0];exact hc) fun _=>rfl) fun _=>rfl,au (fun _=>?_) fun h=>absurd h (by simpa using hc)⟩
  rw [aN (n:=n+1) (by omega) (by omega)]
  have go:zS (fun x:Int=>0≤x∧x≤(l.length:Int)) (fun _:Int ⊕ (Int×Bool)=>True) (fun x=>((l.length:Int)-x).toNat) ((l.length:Int)-n).toNat (.go (n+1)):=⟨⟨by omega,by omega⟩,by dsimp only;omega⟩
  exact au (fun _=>au (fun _=>trivial) fun _=>go) fun _=>go
 ·exact ⟨aq (fun h=>absurd h (by simpa using hc)) fun _=>rfl,au (fun h=>absurd h (by simpa using hc)) fun _=>trivial⟩
theorem t187:zM p=true:=by
 have h:=xK hp
 have k1:yR p=true:=t64 hp
 have k2:(eR (kC p) (Int.ofNat (kC p).length) p (aX p 1 6) 0).isSome=true:=VU _ (by omega) _ _
 unfold zM
 repeat' (first | with_reducible rfl | with_reducible exact k1 | with_reducible exact k2 | with_reducible exact t145 _ _ _ | refine ao ?_ (fun _=>?_) | refine aq (fun _=>?_) (fun _=>?_))
omit hp in
theorem t182:Cn p=true:=ao (t121 _ _) fun _=>rfl
theorem t183 (ht:p.aa≤1):zj p=true:=by
 have t0:=hp.t0
 unfold zj
 rw [o6 (n:=1-p.aa) (by omega) (by omega)]
 refine ao (by simp;omega) fun _=>aq (fun _=>rfl) fun _=>ao (by simp;omega) fun _=>rfl
omit hp in
theorem t184:Ao p=true:=by
 unfold Ao
 repeat' (first | with_reducible rfl | with_reducible exact t145 _ _ _ | refine ao ?_ (fun _=>?_) | refine aq (fun _=>?_) (fun _=>?_))
omit hp in
theorem t185:C6 p=true:=ao (t147 _ _ _) fun _=>rfl
omit hp in
theorem t186:zF p=true:=by
 unfold zF
 repeat' (first | with_reducible rfl | with_reducible exact t147 _ _ _ | refine ao ?_ (fun _=>?_) | refine aq (fun _=>?_) (fun _=>?_))
theorem t63:An p=true:=by
 have v0:=hp.v0
 unfold An
 refine aq (fun _=>rfl) fun h9=>aq (fun _=>rfl) fun ht=>?_
 have h9:p.variant<9:=by simpa using h9
 have ht:p.aa≤1:=by simpa using ht
 refine ao (by simp;omega) fun _=>?_
 have k3:=t182 (p:=p)
 have k4:=t186 (p:=p)
 have k5:=t183 hp ht
 have k6:=t184 (p:=p)
 have k7:=t185 (p:=p)
 have k8:=t187 hp
 refine aq (fun _=>rfl) fun n0=>aq (fun _=>rfl) fun n1=>aq (fun _=>rfl) fun n2=>aq (fun _=>ao k3 fun _=>rfl) fun n3=>aq (fun _=>ao k4 fun _=>rfl) fun n4=>aq (fun _=>ao k5 fun _=>rfl) fun n5=>aq (fun _=>ao k6 fun _=>rfl) fun n6=>aq (fun _=>ao k7 fun _=>rfl) fun n7=>ao ?_ fun _=>ao k8 fun _=>rfl
 simp only [beq_eq_false_iff_ne,ne_eq,beq_iff_eq,Int.ofNat_eq_natCast] at *
 omega
theorem t30:Jt p=true:=ao (t63 hp) fun _=>aq (fun _=>rfl) fun _=>ao (t64 hp) fun _=>rfl
theorem GC:eX p=bif (v7 p).1 != 0 then [] else kC p:=rfl
theorem wz:(eX p).length≤20802:=by
 unfold eX
 exact au (P:=fun l:M'=>l.length≤20802) (fun _=>by simp) fun _=>xK hp
end
end Kz
end
noncomputable section
namespace Kz
open Go Go.RowKit
def cl (h f:Int) (p:Pos):Pos:=⟨p.variant,p.ae,p.ab,p.af,p.aa,p.ai,p.ah,p.ag,h,f⟩
def aI.map {X X' R R':Type} (φ:X→X') (ψ:R→R'):aI X R→aI X' R'
 | .go x=>.go (φ x)
 | .out r=>.out (ψ r)
 | .bad=>.bad
noncomputable section
variable (h f:Int) (p:Pos)
end
noncomputable section
variable (h f h2 f2 h3 f3:Int) (a q p:Pos) (b m:Mv) (c:Int)
end
def LN (p:Pos) (m:Mv):Pos:=cO p m (cM p m (dw p m (cE p m (cB p m (b7 p m (bM p m p p m (bC p m)) p m (bC p m)) p m (bC p m)) p m (bC p m)) p m (bC p m)) p m (bC p m)) p m (bC p m)
theorem Oj (p:Pos) (m:Mv):mI p m=bif !GD (bL p) m then (p,false) else (LN p m,true):=rfl
noncomputable section
variable {p:Pos} (hp:aO p)
include hp
variable {h f:Int} (hq:aO (cl h f p))
include hq
end
end Kz
end
noncomputable section
namespace Kz
open Go Go.RowKit Go.Proofs
def XG:KT:=[(158,21,[(0,[0,1]),(1,[1,5]),(2,[1,5,6]),(3,[1,5,6,12]),(4,[1,5,6]),(5,[1,5,6,20]),(6,[4]),(7,[4])])]
def UU:aw:=bO Pz XG [(95,Rx)] [] []
theorem Ml:aV UU:=ak aj ⟨Vt,trivial⟩ trivial trivial
def Hv (p1:Int) (p2:Z') (x:(Int)):St:=St.mk (.any::.int .u8 p1::(an 3 (.list (ET.i .u8) p2 .fresh::.int .i64 x::(an 14 [])))) (Hp.mk [] [] [] 0 0 0)
def IK (p1:Int) (p2:Z'):Unit ⊕ (Int×Bool)→Out
 | (.inl (y))=>.ret (St.mk (an 4 (AV.aQ true::(an 16 []))) (Hp.mk [] [] [] 0 0 0))
 | (.inr (y))=>.exit 0 (St.mk (AV.any::AV.int .u8 p1::(an 3 (AV.list (ET.i .u8) p2 Tk.fresh::AV.int .i64 y.1::(an 5 (AV.bool y.2::(an 8 [])))))) (Hp.mk [] [] [] 0 0 0))
def Dr (p1:Int) (p2:Z') (x:(Int)):aI (Int) (Unit ⊕ (Int×Bool)):=(bif decide (x<Int.ofNat p2.length) then (bif p2.getD x.toNat default==p1 then (aI.out (.inl (()))) else (aI.go (wr .i64 (x+1)))) else (aI.out (.inr ((x,decide (x<Int.ofNat p2.length))))))
def Ah (p1:Int) (p2:Z') (x:(Int)):Bool:=(bif decide (x<Int.ofNat p2.length) then (decide (0≤x)&&decide (x<Int.ofNat p2.length)&&true) else true)
def mo (p1:Int) (p2:Z') (x:(Int)):Option (Unit ⊕ (Int×Bool)):=da (fun x=>bif Ah p1 p2 x then Dr p1 p2 x else .bad) many x
abbrev J5 {α:Type} (k:Int→Z'→(Int)→α) (s:St):α:=k (tI (tT s 1)) (tL (ET.i .u8) (tT s 5)) ((tI (tT s 6)))
theorem RT (p1:Int) (p2:Z') (x:(Int)) (r:Unit ⊕ (Int×Bool)) (h:mo p1 p2 x=some r):aB Pz (bj Pz 158 3) (Hv p1 p2 x) (IK p1 p2 r):=aB.xO (m:=12) (fn:=158) Ml (J5 fun _ _ x=>some x) (fun o=>match o with | .ret s=>some (.inl ()) | .exit 0 s=>some (.inr ((tI (tT s 6)),(tB (tT s 12)))) | _=>none) (fun r=>by cases r<;>rfl) (fun _=>by kernel_rfl) (fun _=>by kernel_rfl) (fun _=>by kernel_rfl) (fun _=>by kernel_rfl) many x r h
def K1 (b:Code) (s:St):Tr Out:=J5 (fun p1 p2 x=>w9 b (bj Pz 158 3) s (Hv p1 p2 x) (mo p1 p2 x) (IK p1 p2)) s
theorem Nt:∀ b,aZ Pz b (K1 b):=fun _ _ _ h=>ez (RT _ _ _) h
def acU:aw:=bO Pz XG [(95,Rx)] [(158,3,K1)] []
theorem abr:aV acU:=ak aj ⟨Vt,trivial⟩ ⟨Nt,trivial⟩ trivial
def J4 (a:Int) (b:Int):Bool:=(bif cu ((mo b (wh a) 0).getD default) then (true) else (false))
def Au (a:Int) (b:Int):Bool:=((mo b (wh a) 0).isSome&&bif cu ((mo b (wh a) 0).getD default) then true else true)
theorem acT (a:Int) (b:Int) (h:Au a b=true):PS Pz 158 [.int .u8 a,.int .u8 b] (dB.res (J4 a b)):=pq14 abr h
def aar:GT:=g2 (dI .u8) (dI .u8) (fun a b=>cg (Au a b) (dB.res (J4 a b)))
theorem ajD:Sound Pz 158 aar:=aT fun a b=>ay (acT a b)
def K96:KT:=[(96,69,[(0,(2::3::17::18::21::22::23::26::27::30::31::34::35::38::39::(rn 42 5 (rn 55 5 [])))),(1,(2::3::5::6::17::18::21::22::23::26::27::30::31::34::35::38::39::(rn 42 5 (rn 55 5 [])))),(2,(2::3::5::6::47::(rn 55 5 []))),(3,[4]),(4,[2,3,60]),(5,[4]),(6,[4])])]
def B96:aw:=bO Pz K96 [(19,LP),(82,mz),(93,VC),(94,Mi),(158,aar)] [] []
theorem afh:aV B96:=ak aj ⟨No,mN,Wd,OY,ajD,trivial⟩ trivial trivial
def Rb (a:Pos) (b:Mv):Bool:=(bif !yj a then (false) else (bif b.bS then (false) else (bif b.aW != 0 then (false) else (bif decide (wr .i64 b.az<0) then (false) else (bif decide (wr .i64 b.az>63) then (false) else (bif decide (wr .i64 b.to<0) then (false) else (bif decide (wr .i64 b.to>63) then (false) else (bif !AM a (wr .i64 b.az) (wr .i64 b.to) then (false) else (bif bw (a.ae.getD (scale 1 (wr .i64 b.az)).toNat 0) != 1 then (b.bP==0) else (bif rh a.aa (wr .i64 b.to) != 7 then (b.bP==0) else (J4 a.variant b.bP)))))))))))
def Bz (a:Pos) (b:Mv):Bool:=(bif !yj a then true else (bif b.bS then true else (bif b.aW != 0 then true else (bif decide (wr .i64 b.az<0) then true else (bif decide (wr .i64 b.az>63) then true else (bif decide (wr .i64 b.to<0) then true else (bif decide (wr .i64 b.to>63) then true else (Ft (a) (wr .i64 b.az) (wr .i64 b.to)&&(bif !AM a (wr .i64 b.az) (wr .i64 b.to) then true else (decide (0≤wr .i64 b.az)&&decide (wr .i64 b.az<Int.ofNat 64)&&(bif bw (a.ae.getD (scale 1 (wr .i64 b.az)).toNat 0) != 1 then true else (bif rh a.aa (wr .i64 b.to) != 7 then true else (Au (a.variant) (b.bP)&&true)))))))))))))
theorem P96 (a:Pos) (b:Mv) (h:Bz a b=true):PS Pz 96 [Pos.av a,Mv.av b] (dB.res (Rb a b)):=pq14 afh h
def G96:GT:=g2 aY qZ (fun a b=>cg (Bz a b) (dB.res (Rb a b)))
theorem s96:Sound Pz 96 G96:=aT fun a b=>ay (P96 a b)
def K39:KT:=[(39,39,[(0,(2::3::(rn 26 7 []))),(1,(2::3::9::(rn 26 7 []))),(2,[4]),(3,(2::3::5::(rn 26 7 []))),(4,(2::3::5::16::(rn 26 7 []))),(5,[4]),(6,[2,5,33]),(7,[4]),(8,[4])])]
def B39:aw:=bO Pz K39 [(82,mz),(96,G96),(97,WQ),(98,Ws)] [] []
theorem ahZ:aV B39:=ak aj ⟨mN,s96,s97,s98,trivial⟩ trivial trivial
def ie (a:Pos) (b:Mv):Int:=(bif !Rb a b then (-1) else (bif !y8 a (wr .i64 b.to) then (wr .i64 b.to) else (bif bw (a.ae.getD (scale 1 b.az).toNat 0)==1 then (bif b.az.tmod 8 != b.to.tmod 8 then (wr .i64 (wr .i64 b.to-gz a.aa)) else (-1)) else (-1))))
def xW (a:Pos) (b:Mv):Bool:=(Bz (a) (b)&&(bif !Rb a b then true else (pB (a) (wr .i64 b.to)&&(bif !y8 a (wr .i64 b.to) then true else (decide (0≤b.az)&&decide (b.az<Int.ofNat 64)&&true)))))
theorem P39 (a:Pos) (b:Mv) (h:xW a b=true):PS Pz 39 [Pos.av a,Mv.av b] ((dI .i64).res (ie a b)):=pq14 ahZ h
def TA:GT:=g2 aY qZ (fun a b=>cg (xW a b) ((dI .i64).res (ie a b)))
theorem Vr:Sound Pz 39 TA:=aT fun a b=>ay (P39 a b)
def ag2:KT:=[(155,65,[(0,(2::3::9::10::11::(rn 14 5 (21::22::23::26::27::28::31::32::33::36::37::38::(rn 41 8 (rn 51 8 [])))))),(1,[3,59]),(2,[4]),(3,[64]),(4,[4]),(5,[4])])]
def agN:aw:=bO Pz ag2 [] [] []
theorem Wn:aV agN:=ak aj trivial trivial trivial
def pY (a:Pos) (b:Mv):Int:=(bif decide (a.aa>1) then (-1) else (bif !b.bS then (-1) else (bif b.az==b.to then (-1) else (bif decide (b.az<0) then (-1) else (bif decide (b.az>63) then (-1) else (bif decide (b.to<0) then (-1) else (bif decide (b.to>63) then (-1) else (bif wr .i8 (b.az.tdiv 8) != wr .i8 (wr .u8 (7 * a.aa)) then (-1) else (bif wr .i8 (b.to.tdiv 8) != wr .i8 (wr .u8 (7 * a.aa)) then (-1) else (bif decide (b.to>b.az) then (0) else (1)))))))))))
def VS (a:Pos) (b:Mv):Bool:=true
theorem af2 (a:Pos) (b:Mv) (h:VS a b=true):PS Pz 155 [Pos.av a,Mv.av b] ((dI .i64).res (pY a b)):=pq14 Wn h
def ME:GT:=g2 aY qZ (fun a b=>.ret ((dI .i64).res (pY a b)))
theorem SE:Sound Pz 155 ME:=aT fun a b=>bK (af2 a b rfl)
def K86:KT:=[(86,116,[(0,[2,3,4,6]),(1,[2,3,4,6,7]),(2,[2,3,4,6,7,8]),(3,[2,3,4,6,7,8,20]),(4,(3::4::(rn 6 4 []))),(5,[3,4,6,7,8,10,11]),(6,[3,4,6,7,8,10,11,12]),(7,(4::6::7::8::(rn 10 4 []))),(8,(4::6::7::8::(rn 10 4 []))),(9,(6::7::8::(rn 10 4 []))),(10,[6,7,11,12,13]),(11,[6,7]),(12,[6]),(13,[2,3,4,6,7,8,61]),(14,[3,4,6,7]),(15,[6,7]),(16,[6]),(17,[2,3,4,6,7,8,89]),(18,[3,4,6,7,8]),(19,[3,4,6,7,8]),(20,[3,4,6,7]),(21,[3,4,6,7,104]),(22,[6,7]),(23,[6])])]
def B86:aw:=bO Pz K86 [(155,ME),(156,D4)] [] []
theorem adb:aV B86:=ak aj ⟨SE,Kl,trivial⟩ trivial trivial
def yM (a:Pos) (b:Mv) (c:Int):Pos:=(bif b.bS then ⟨(a.variant),((((a.ae.set (scale 1 b.az).toNat 0).set (scale 1 b.to).toNat 0).set (scale 1 (wr .i64 (wr .i64 (56 * wr .i64 a.aa)+(dF (pY a b)).1))).toNat (a.ae.getD (scale 1 b.az).toNat 0)).set (scale 1 (wr .i64 (wr .i64 (56 * wr .i64 a.aa)+(dF (pY a b)).2))).toNat (a.ae.getD (scale 1 b.to).toNat 0)),(a.ab),(a.af),(a.aa),(a.ai),(a.ah),(a.ag),(a.half),(a.full)⟩ else (bif b.aW != 0 then ⟨(a.variant),(a.ae.set (scale 1 b.to).toNat (wr .u8 (wr .u8 (8 * a.aa)+b.aW))),(a.ab),(a.af.set (scale 6 a.aa+scale 1 b.aW).toNat (wr .u8 (a.af.getD (scale 6 a.aa+scale 1 b.aW).toNat 0-1))),(a.aa),(a.ai),(a.ah),(a.ag),(a.half),(a.full)⟩ else (bif decide (c≥0) then (bif b.bP != 0 then ⟨(a.variant),((((a.ae.set (scale 1 c).toNat 0).set (scale 1 b.az).toNat 0).set (scale 1 b.to).toNat (a.ae.getD (scale 1 b.az).toNat 0)).set (scale 1 b.to).toNat (wr .u8 (wr .u8 (8 * a.aa)+b.bP))),(a.ab),(a.af),(a.aa),(a.ai),(a.ah),(a.ag),(a.half),(a.full)⟩ else ⟨(a.variant),(((a.ae.set (scale 1 c).toNat 0).set (scale 1 b.az).toNat 0).set (scale 1 b.to).toNat (a.ae.getD (scale 1 b.az).toNat 0)),(a.ab),(a.af),(a.aa),(a.ai),(a.ah),(a.ag),(a.half),(a.full)⟩) else (bif b.bP != 0 then ⟨(a.variant),(((a.ae.set (scale 1 b.az).toNat 0).set (scale 1 b.to).toNat (a.ae.getD (scale 1 b.az).toNat 0)).set (scale 1 b.to).toNat (wr .u8 (wr .u8 (8 * a.aa)+b.bP))),(a.ab),(a.af),(a.aa),(a.ai),(a.ah),(a.ag),(a.half),(a.full)⟩ else ⟨(a.variant),((a.ae.set (scale 1 b.az).toNat 0).set (scale 1 b.to).toNat (a.ae.getD (scale 1 b.az).toNat 0)),(a.ab),(a.af),(a.aa),(a.ai),(a.ah),(a.ag),(a.half),(a.full)⟩))))
def yr (a:Pos) (b:Mv) (c:Int):Bool:=(decide (0≤b.az)&&decide (b.az<Int.ofNat 64)&&(bif b.bS then (decide (0≤b.to)&&decide (b.to<Int.ofNat 64)&&(decide (0≤b.az)&&decide (b.az<Int.ofNat 64)&&(decide (0≤b.to)&&decide (b.to<Int.ofNat 64)&&(decide (0≤wr .i64 (wr .i64 (56 * wr .i64 a.aa)+(dF (pY a b)).1))&&decide (wr .i64 (wr .i64 (56 * wr .i64 a.aa)+(dF (pY a b)).1)<Int.ofNat 64)&&(decide (0≤wr .i64 (wr .i64 (56 * wr .i64 a.aa)+(dF (pY a b)).2))&&decide (wr .i64 (wr .i64 (56 * wr .i64 a.aa)+(dF (pY a b)).2)<Int.ofNat 64)&&true))))) else (bif b.aW != 0 then (decide (0≤a.aa)&&decide (a.aa<Int.ofNat 2)&&(decide (0≤b.aW)&&decide (b.aW<Int.ofNat 6)&&(decide (0≤a.aa)&&decide (a.aa<Int.ofNat 2)&&(decide (0≤b.aW)&&decide (b.aW<Int.ofNat 6)&&(decide (0≤b.to)&&decide (b.to<Int.ofNat 64)&&true))))) else (bif decide (c≥0) then (decide (0≤c)&&decide (c<Int.ofNat 64)&&(decide (0≤b.az)&&decide (b.az<Int.ofNat 64)&&(decide (0≤b.to)&&decide (b.to<Int.ofNat 64)&&(bif b.bP != 0 then (decide (0≤b.to)&&decide (b.to<Int.ofNat 64)&&true) else true)))) else (decide (0≤b.az)&&decide (b.az<Int.ofNat 64)&&(decide (0≤b.to)&&decide (b.to<Int.ofNat 64)&&(bif b.bP != 0 then (decide (0≤b.to)&&decide (b.to<Int.ofNat 64)&&true) else true)))))))
theorem P86 (a:Pos) (b:Mv) (c:Int) (h:yr a b c=true):PS Pz 86 [Pos.av a,Mv.av b,.int .i64 c] (aY.res (yM a b c)):=pq14 adb h
def G86:GT:=g3 aY qZ (dI .i64) (fun a b c=>cg (yr a b c) (aY.res (yM a b c)))
theorem s86:Sound Pz 86 G86:=dg fun a b c=>ay (P86 a b c)
def K89:KT:=[(89,11,[(0,[0,1]),(1,[4])])]
def B89:aw:=bO Pz K89 [] [] []
theorem ab9:aV B89:=ak aj trivial trivial trivial
def B0 (a:BitVec 64) (b:Int):Bool:=(a >>> (BitVec.ofInt 64 b).toNat&&&1#64==1#64)
def aes (a:BitVec 64) (b:Int):Bool:=true
theorem P89 (a:BitVec 64) (b:Int) (h:aes a b=true):PS Pz 89 [.u64 a,.int .i64 b] (dB.res (B0 a b)):=pq14 ab9 h
def G89:GT:=g2 dU (dI .i64) (fun a b=>.ret (dB.res (B0 a b)))
theorem s89:Sound Pz 89 G89:=aT fun a b=>bK (P89 a b rfl)
def K87:KT:=[(87,151,[(0,(rn 3 4 (8::19::20::21::(rn 73 5 (82::83::(rn 86 8 (115::116::117::(rn 120 5 (rn 135 6 []))))))))),(1,(rn 3 4 (8::22::(rn 73 5 (82::83::(rn 86 8 (115::116::117::(rn 120 5 (rn 135 6 []))))))))),(2,[8]),(3,(rn 3 4 (8::25::(rn 73 5 (82::83::(rn 86 8 (115::116::117::(rn 120 5 (rn 135 6 []))))))))),(4,[4,5,6,8,9]),(5,[4,5,6,8,11]),(6,[4,5,6,8,11,39]),(7,[4,5,8,11]),(8,[5,8]),(9,[8]),(10,(rn 3 4 (8::62::(rn 73 5 (82::83::(rn 86 8 (115::116::117::(rn 120 5 (rn 135 6 []))))))))),(11,(rn 3 4 (8::12::(rn 73 5 (82::83::(rn 86 8 (115::116::117::(rn 120 5 (rn 135 6 []))))))))),(12,(rn 3 4 (8::12::78::82::83::(rn 86 8 (115::116::117::(rn 120 5 (rn 135 6 []))))))),(13,(rn 3 4 (8::12::82::83::(rn 86 8 (115::116::117::(rn 120 5 (rn 135 6 []))))))),(14,(rn 3 4 (8::12::94::115::116::117::(rn 120 5 (rn 135 6 []))))),(15,(rn 3 4 (8::115::116::117::(rn 120 5 (rn 135 6 []))))),(16,(rn 3 4 (8::13::115::116::117::(rn 120 5 (rn 135 6 []))))),(17,(rn 3 4 (8::13::14::115::116::117::(rn 120 5 (rn 135 6 []))))),(18,(rn 3 4 (8::13::14::107::115::116::117::(rn 120 5 (rn 135 6 []))))),(19,(rn 3 4 (8::13::14::115::116::117::(rn 120 5 (rn 135 6 []))))),(20,(rn 3 4 (8::13::14::115::116::117::(rn 120 6 (rn 135 6 []))))),(21,(rn 3 4 (8::13::14::115::116::117::(rn 120 5 (rn 135 6 []))))),(22,[5,6,8,13,141]),(23,[5,8,13]),(24,[5,8]),(25,[8])])]
def aba:aw:=bO Pz K87 [(82,mz),(89,G89),(155,ME),(156,D4)] [] []
theorem Tp:aV aba:=ak aj ⟨mN,s89,SE,Kl,trivial⟩ trivial trivial
def Pb (p1:Int) (p2:Pos) (p3:Pos) (p4:Mv) (x:((BitVec 64)×Int)):St:=St.mk (an 3 (.int .i64 p1::.ptr 0 0::.ptr 1 0::.ptr 2 0::.any::.ptr 3 0::(an 4 (.u64 x.1::.int .i64 x.2::(an 120 (.undef::.undef::.undef::.undef::.undef::.undef::(an 10 []))))))) (Hp.mk [(pc p2 []),(pc p3 []),[.int .i8 p4.az,.int .i8 p4.to,.int .u8 p4.bP,.int .u8 p4.aW,.bool p4.bS],zpB] [] [] 0 0 0)
def Qu (p1:Int) (p2:Pos) (p3:Pos) (p4:Mv):((BitVec 64)×Int×Bool)→Out:=fun y=>.exit 0 (St.mk (an 3 (.int .i64 p1::.ptr 0 0::.ptr 1 0::.ptr 2 0::.any::.ptr 3 0::(an 4 (.u64 y.1::.int .i64 y.2.1::(an 92 (.bool y.2.2::(an 27 (.undef::.undef::.undef::.undef::.undef::.undef::(an 10 []))))))))) (Hp.mk [(pc p2 []),(pc p3 []),[.int .i8 p4.az,.int .i8 p4.to,.int .u8 p4.bP,.int .u8 p4.aW,.bool p4.bS],zpB] [] [] 0 0 0))
def Kj (p1:Int) (p2:Pos) (p3:Pos) (p4:Mv) (x:((BitVec 64)×Int)):aI ((BitVec 64)×Int) (((BitVec 64)×Int×Bool)):=(bif decide (x.2<64) then (bif B0 p2.ab x.2 then (bif x.2 != p1 then (bif x.2 != wr .i64 p4.az then (aI.go (x.1|||1#64 <<< (BitVec.ofInt 64 x.2).toNat,wr .i64 (x.2+1))) else (aI.go (x.1,wr .i64 (x.2+1)))) else (aI.go (x.1,wr .i64 (x.2+1)))) else (aI.go (x.1,wr .i64 (x.2+1)))) else (aI.out ((x.1,x.2,decide (x.2<64)))))
def N4 (p1:Int) (p2:Pos) (p3:Pos) (p4:Mv) (x:((BitVec 64)×Int)):Bool:=true
def eZ (p1:Int) (p2:Pos) (p3:Pos) (p4:Mv) (x:((BitVec 64)×Int)):Option (((BitVec 64)×Int×Bool)):=da (fun x=>bif N4 p1 p2 p3 p4 x then Kj p1 p2 p3 p4 x else .bad) many x
abbrev PZ {α:Type} (k:Int→Pos→Pos→Mv→((BitVec 64)×Int)→α) (s:St):α:=wP s 0 fun q0=>wP s 1 fun q1=>wM s 2 fun q2=>k (tI (tT s 3)) q0 q1 q2 ((tU (tT s 13)),(tI (tT s 14)))
theorem Zk (p1:Int) (p2:Pos) (p3:Pos) (p4:Mv) (x:((BitVec 64)×Int)) (r:((BitVec 64)×Int×Bool)) (h:eZ p1 p2 p3 p4 x=some r):aB Pz (bj Pz 87 18) (Pb p1 p2 p3 p4 x) (Qu p1 p2 p3 p4 r):=smq (m:=12) (fn:=87) Tp (PZ fun _ _ _ _ x=>some x) (fun o=>match o with | .exit 0 s=>some ((tU (tT s 13)),(tI (tT s 14)),(tB (tT s 107))) | _=>none) many x r h
def O3 (b:Code) (s:St):Tr Out:=PZ (fun p1 p2 p3 p4 x=>mH b (bj Pz 87 18) s (Pb p1 p2 p3 p4 x) (eZ p1 p2 p3 p4 x) (Qu p1 p2 p3 p4)) s
theorem SB:∀ b,aZ Pz b (O3 b):=fun _ _ _ h=>bX (Zk _ _ _ _ _) h
def B87:aw:=bO Pz K87 [(82,mz),(89,G89),(155,ME),(156,D4)] [(87,18,O3)] []
theorem afl:aV B87:=ak aj ⟨mN,s89,SE,Kl,trivial⟩ ⟨SB,trivial⟩ trivial
def Av (a:Pos) (b:Pos) (c:Mv) (d:Int):Pos:=let z1:=(bif c.bP != 0 then (Pos.mk b.variant b.ae (((eZ d a b c (0#64,0)).getD default).1|||1#64 <<< (BitVec.ofInt 64 c.to).toNat) b.af b.aa b.ai b.ah b.ag b.half b.full) else (bif B0 a.ab (wr .i64 c.az) then (Pos.mk b.variant b.ae (((eZ d a b c (0#64,0)).getD default).1|||1#64 <<< (BitVec.ofInt 64 c.to).toNat) b.af b.aa b.ai b.ah b.ag b.half b.full) else (Pos.mk b.variant b.ae (((eZ d a b c (0#64,0)).getD default).1) b.af b.aa b.ai b.ah b.ag b.half b.full)));let z2:=(bif decide (bw (a.ae.getD (scale 1 d).toNat 0)≥1) then (bif decide (bw (a.ae.getD (scale 1 d).toNat 0)≤5) then (bif decide (b.af.getD (scale 6 a.aa+scale 1 (bw (a.ae.getD (scale 1 d).toNat 0))).toNat 0<255) then (bif c.bP != 0 then (Pos.mk b.variant b.ae (((eZ d a (Pos.mk b.variant b.ae b.ab (b.af.set (scale 6 a.aa+scale 1 (bw (a.ae.getD (scale 1 d).toNat 0))).toNat (wr .u8 (b.af.getD (scale 6 a.aa+scale 1 (bw (a.ae.getD (scale 1 d).toNat 0))).toNat 0+1))) b.aa b.ai b.ah b.ag b.half b.full) c (0#64,0)).getD default).1|||1#64 <<< (BitVec.ofInt 64 c.to).toNat) (b.af.set (scale 6 a.aa+scale 1 (bw (a.ae.getD (scale 1 d).toNat 0))).toNat (wr .u8 (b.af.getD (scale 6 a.aa+scale 1 (bw (a.ae.getD (scale 1 d).toNat 0))).toNat 0+1))) b.aa b.ai b.ah b.ag b.half b.full) else (bif B0 a.ab (wr .i64 c.az) then (Pos.mk b.variant b.ae (((eZ d a (Pos.mk b.variant b.ae b.ab (b.af.set (scale 6 a.aa+scale 1 (bw (a.ae.getD (scale 1 d).toNat 0))).toNat (wr .u8 (b.af.getD (scale 6 a.aa+scale 1 (bw (a.ae.getD (scale 1 d).toNat 0))).toNat 0+1))) b.aa b.ai b.ah b.ag b.half b.full) c (0#64,0)).getD default).1|||1#64 <<< (BitVec.ofInt 64 c.to).toNat) (b.af.set (scale 6 a.aa+scale 1 (bw (a.ae.getD (scale 1 d).toNat 0))).toNat (wr .u8 (b.af.getD (scale 6 a.aa+scale 1 (bw (a.ae.getD (scale 1 d).toNat 0))).toNat 0+1))) b.aa b.ai b.ah b.ag b.half b.full) else (Pos.mk b.variant b.ae (((eZ d a (Pos.mk b.variant b.ae b.ab (b.af.set (scale 6 a.aa+scale 1 (bw (a.ae.getD (scale 1 d).toNat 0))).toNat (wr .u8 (b.af.getD (scale 6 a.aa+scale 1 (bw (a.ae.getD (scale 1 d).toNat 0))).toNat 0+1))) b.aa b.ai b.ah b.ag b.half b.full) c (0#64,0)).getD default).1) (b.af.set (scale 6 a.aa+scale 1 (bw (a.ae.getD (scale 1 d).toNat 0))).toNat (wr .u8 (b.af.getD (scale 6 a.aa+scale 1 (bw (a.ae.getD (scale 1 d).toNat 0))).toNat 0+1))) b.aa b.ai b.ah b.ag b.half b.full))) else z1) else z1) else z1);let z3:=(b.af.set (scale 6 a.aa+scale 1 (Int.ofNat 1)).toNat (wr .u8 (b.af.getD (scale 6 a.aa+scale 1 (Int.ofNat 1)).toNat 0+1)));let z4:=(Pos.mk b.variant b.ae (((eZ d a (Pos.mk b.variant b.ae b.ab z3 b.aa b.ai b.ah b.ag b.half b.full) c (0#64,0)).getD default).1|||1#64 <<< (BitVec.ofInt 64 c.to).toNat) z3 b.aa b.ai b.ah b.ag b.half b.full);let z5:=(Pos.mk b.variant b.ae b.ab b.af b.aa b.ai b.ah b.ag b.half b.full); (bif a.variant != 2 then z5 else (bif c.aW != 0 then z5 else (bif c.bS then (bif B0 a.ab (wr .i64 c.to) then (Pos.mk b.variant b.ae (a.ab &&& ~~~(1#64 <<< (BitVec.ofInt 64 c.to).toNat)|||1#64 <<< (BitVec.ofInt 64 (wr .i64 (wr .i64 (56 * wr .i64 a.aa)+(dF (pY a c)).2))).toNat) b.af b.aa b.ai b.ah b.ag b.half b.full) else z5) else (bif decide (d≥0) then (bif B0 a.ab d then (bif a.ae.getD (scale 1 d).toNat 0 != 0 then (bif decide (b.af.getD (scale 6 a.aa+scale 1 (Int.ofNat 1)).toNat 0<255) then (bif c.bP != 0 then z4 else (bif B0 a.ab (wr .i64 c.az) then z4 else (Pos.mk b.variant b.ae (((eZ d a (Pos.mk b.variant b.ae b.ab z3 b.aa b.ai b.ah b.ag b.half b.full) c (0#64,0)).getD default).1) z3 b.aa b.ai b.ah b.ag b.half b.full))) else z1) else z2) else z2) else z1))))
def xX (a:Pos) (b:Pos) (c:Mv) (d:Int):Bool:=let z2:=(scale 6 a.aa+scale 1 (Int.ofNat 1));let z3:=((eZ d a b c (0#64,0)).isSome&&true);let z4:=(a.aa<Int.ofNat 2);let z1:=(bif decide (bw (a.ae.getD (scale 1 d).toNat 0)≥1) then (bif decide (bw (a.ae.getD (scale 1 d).toNat 0)≤5) then (decide (0≤a.aa)&&decide z4&&(decide (0≤bw (a.ae.getD (scale 1 d).toNat 0))&&decide (bw (a.ae.getD (scale 1 d).toNat 0)<Int.ofNat 6)&&(bif decide (b.af.getD (scale 6 a.aa+scale 1 (bw (a.ae.getD (scale 1 d).toNat 0))).toNat 0<255) then (decide (0≤a.aa)&&decide z4&&(decide (0≤bw (a.ae.getD (scale 1 d).toNat 0))&&decide (bw (a.ae.getD (scale 1 d).toNat 0)<Int.ofNat 6)&&(decide (0≤a.aa)&&decide z4&&(decide (0≤bw (a.ae.getD (scale 1 d).toNat 0))&&decide (bw (a.ae.getD (scale 1 d).toNat 0)<Int.ofNat 6)&&((eZ d a (Pos.mk b.variant b.ae b.ab (b.af.set (scale 6 a.aa+scale 1 (bw (a.ae.getD (scale 1 d).toNat 0))).toNat (wr .u8 (b.af.getD (scale 6 a.aa+scale 1 (bw (a.ae.getD (scale 1 d).toNat 0))).toNat 0+1))) b.aa b.ai b.ah b.ag b.half b.full) c (0#64,0)).isSome&&true))))) else z3))) else z3) else z3); (bif a.variant != 2 then true else (bif c.aW != 0 then true else (bif c.bS then true else (bif decide (d≥0) then (decide (0≤d)&&decide (d<Int.ofNat 64)&&(bif B0 a.ab d then (decide (0≤d)&&decide (d<Int.ofNat 64)&&(bif a.ae.getD (scale 1 d).toNat 0 != 0 then (decide (0≤a.aa)&&decide z4&&(bif decide (b.af.getD z2.toNat 0<255) then (decide (0≤a.aa)&&decide z4&&(decide (0≤a.aa)&&decide z4&&((eZ d a (Pos.mk b.variant b.ae b.ab (b.af.set z2.toNat (wr .u8 (b.af.getD z2.toNat 0+1))) b.aa b.ai b.ah b.ag b.half b.full) c (0#64,0)).isSome&&true))) else z3)) else z1)) else z1)) else z3))))
theorem P87 (a:Pos) (b:Pos) (c:Mv) (d:Int) (h:xX a b c d=true):PS Pz 87 [Pos.av a,Pos.av b,Mv.av c,.int .i64 d] (aY.res (Av a b c d)):=pq14 afl h
def G87:GT:=g4 aY aY qZ (dI .i64) (fun a b c d=>cg (xX a b c d) (aY.res (Av a b c d)))
theorem s87:Sound Pz 87 G87:=B4 fun a b c d=>ay (P87 a b c d)
def K88:KT:=[(88,47,[(0,(1::2::11::12::15::16::(rn 29 11 []))),(1,(1::2::5::11::12::15::16::(rn 29 11 []))),(2,(1::2::5::6::11::12::15::16::(rn 29 11 []))),(3,(1::2::5::6::11::12::15::16::17::(rn 29 11 []))),(4,(1::2::5::6::11::12::15::16::(rn 29 11 []))),(5,(1::2::5::6::7::11::12::15::16::(rn 29 11 []))),(6,(1::2::5::6::11::12::15::16::(rn 29 12 []))),(7,(1::2::5::6::11::12::15::16::(rn 29 11 []))),(8,[4])])]
def Zs:aw:=bO Pz K88 [(82,mz),(153,zu)] [] []
theorem Uh:aV Zs:=ak aj ⟨mN,B6,trivial⟩ trivial trivial
def PB (p1:Int) (p2:Pos) (x:((BitVec 64)×Int)):St:=St.mk (.any::.int .i64 p1::.ptr 0 0::.any::.any::.u64 x.1::.int .i64 x.2::(an 40 [])) (Hp.mk [(pc p2 [])] [] [] 0 0 0)
def Qd (p1:Int) (p2:Pos):((BitVec 64)×Int×Bool)→Out:=fun y=>.exit 0 (St.mk (.any::.int .i64 p1::.ptr 0 0::.any::.any::.u64 y.1::.int .i64 y.2.1::(an 10 (.bool y.2.2::(an 29 [])))) (Hp.mk [(pc p2 [])] [] [] 0 0 0))
def KA (p1:Int) (p2:Pos) (x:((BitVec 64)×Int)):aI ((BitVec 64)×Int) (((BitVec 64)×Int×Bool)):=(bif decide (x.2<64) then (bif decide (p1≥0) then (bif decide (p1<64) then (bif x.2==p1 then (aI.go (x.1|||1#64 <<< (BitVec.ofInt 64 x.2).toNat,wr .i64 (x.2+1))) else (bif iH x.2 p1 then (bif bw (p2.ae.getD (scale 1 x.2).toNat 0) != 0 then (bif bw (p2.ae.getD (scale 1 x.2).toNat 0) != 1 then (aI.go (x.1|||1#64 <<< (BitVec.ofInt 64 x.2).toNat,wr .i64 (x.2+1))) else (aI.go (x.1,wr .i64 (x.2+1)))) else (aI.go (x.1,wr .i64 (x.2+1)))) else (aI.go (x.1,wr .i64 (x.2+1))))) else (aI.out ((x.1,x.2,decide (p1<64))))) else (aI.out ((x.1,x.2,false)))) else (aI.out ((x.1,x.2,false))))
def Cw (p1:Int) (p2:Pos) (x:((BitVec 64)×Int)):Bool:=(bif decide (x.2<64) then (bif decide (p1≥0) then (bif decide (p1<64) then (decide (0≤x.2)&&decide (x.2 < ↑64)&&true) else true) else true) else true)
def sf (p1:Int) (p2:Pos) (x:((BitVec 64)×Int)):Option (((BitVec 64)×Int×Bool)):=da (fun x=>bif Cw p1 p2 x then KA p1 p2 x else .bad) many x
abbrev Pr {α:Type} (k:Int→Pos→((BitVec 64)×Int)→α) (s:St):α:=wP s 0 fun q0=>k (tI (tT s 1)) q0 ((tU (tT s 5)),(tI (tT s 6)))
theorem aax (p1:Int) (p2:Pos) (x:((BitVec 64)×Int)) (r:((BitVec 64)×Int×Bool)) (h:sf p1 p2 x=some r):aB Pz (bj Pz 88 3) (PB p1 p2 x) (Qd p1 p2 r):=smq (m:=12) (fn:=88) Uh (Pr fun _ _ x=>some x) (fun o=>match o with | .exit 0 s=>some ((tU (tT s 5)),(tI (tT s 6)),(tB (tT s 17))) | _=>none) many x r h
def PR (b:Code) (s:St):Tr Out:=Pr (fun p1 p2 x=>mH b (bj Pz 88 3) s (PB p1 p2 x) (sf p1 p2 x) (Qd p1 p2)) s
theorem TJ:∀ b,aZ Pz b (PR b):=fun _ _ _ h=>bX (aax _ _ _) h
def B88:aw:=bO Pz K88 [(82,mz),(153,zu)] [(88,3,PR)] []
theorem ahD:aV B88:=ak aj ⟨mN,B6,trivial⟩ ⟨TJ,trivial⟩ trivial
def LQ (a:Pos) (b:Int):BitVec 64:=(((sf b (Pos.mk a.variant a.ae a.ab a.af a.aa a.ai a.ah a.ag a.half a.full) (0#64,0)).getD default).1)
def FP (a:Pos) (b:Int):Bool:=((sf b (Pos.mk a.variant a.ae a.ab a.af a.aa a.ai a.ah a.ag a.half a.full) (0#64,0)).isSome&&true)
theorem P88 (a:Pos) (b:Int) (h:FP a b=true):PS Pz 88 [Pos.av a,.int .i64 b] (dU.res (LQ a b)):=pq14 ahD h
def G88:GT:=g2 aY (dI .i64) (fun a b=>cg (FP a b) (dU.res (LQ a b)))
theorem s88:Sound Pz 88 G88:=aT fun a b=>ay (P88 a b)
def K90:KT:=[(90,103,[(0,(rn 3 4 (8::(rn 20 7 (57::58::(rn 67 4 (rn 73 5 (80::81::82::(rn 85 10 []))))))))),(1,(rn 3 4 (8::27::57::58::(rn 67 4 (rn 73 5 (80::81::82::(rn 85 10 []))))))),(2,(3::5::6::8::57::58::(rn 67 4 (rn 73 5 (80::81::82::(rn 85 10 [])))))),(3,(3::5::6::8::9::57::58::(rn 67 4 (rn 73 5 (80::81::82::(rn 85 10 [])))))),(4,(3::5::6::8::9::34::57::58::(rn 67 4 (rn 73 5 (80::81::82::(rn 85 10 [])))))),(5,(3::5::6::8::9::57::58::(rn 67 4 (rn 73 5 (80::81::82::(rn 85 10 [])))))),(6,(3::5::6::8::9::10::57::58::(rn 67 4 (rn 73 5 (80::81::82::(rn 85 10 [])))))),(7,(3::5::6::(rn 8 4 (57::58::(rn 67 4 (rn 73 5 (80::81::82::(rn 85 10 [])))))))),(8,(3::5::6::(rn 8 5 (57::58::(rn 67 4 (rn 73 5 (80::81::82::(rn 85 10 [])))))))),(9,(3::5::6::(rn 8 5 (44::57::58::(rn 67 4 (rn 73 5 (80::81::82::(rn 85 10 [])))))))),(10,(3::5::6::(rn 8 5 (57::58::(rn 67 4 (rn 73 5 (80::81::82::(rn 85 10 [])))))))),(11,(3::5::6::(rn 8 6 (57::58::(rn 67 4 (rn 73 5 (80::81::82::(rn 85 10 [])))))))),(12,(3::5::6::(rn 8 6 (57::58::59::(rn 67 4 (rn 73 5 (80::81::82::(rn 85 10 [])))))))),(13,(3::5::6::(rn 8 5 (14::57::58::(rn 67 4 (rn 73 5 (80::81::82::(rn 85 10 [])))))))),(14,(3::5::6::(rn 8 5 (15::57::58::(rn 67 4 (rn 73 5 (80::81::82::(rn 85 10 [])))))))),(15,(3::5::6::(rn 8 5 (57::58::(rn 67 4 (rn 73 5 (80::81::82::(rn 85 10 [96])))))))),(16,(3::5::6::(rn 8 5 (57::58::(rn 67 4 (rn 73 5 (80::81::82::(rn 85 10 [])))))))),(17,[8])])]
def WI:aw:=bO Pz K90 [(82,mz),(150,xn),(152,nN)] [] []
theorem SJ:aV WI:=ak aj ⟨mN,zh,pd,trivial⟩ trivial trivial
def Ps (p1:Int) (p2:Int) (p3:Int) (p4:Int) (p5:Pos) (p6:Mv) (x:(Int×Pos)):St:=St.mk (an 3 (.int .i64 p1::.any::.ptr 1 0::.ptr 2 0::.any::.ptr 3 0::.int .u8 p2::.int .i64 p3::.int .i64 p4::.int .i64 x.1::(an 90 []))) (Hp.mk [(pc p5 []),(pc x.2 []),[.int .i8 p6.az,.int .i8 p6.to,.int .u8 p6.bP,.int .u8 p6.aW,.bool p6.bS],[.int .u8 0,.ints .u8 64 (List.replicate 64 0),.u64 0,.ints .u8 12 (List.replicate 12 0),.int .u8 0,.ints .i8 4 (List.replicate 4 0),.int .i8 0,.ints .u8 2 (List.replicate 2 0),.int .i64 0,.int .i64 0]] [] [] 0 0 0)
def PI (p1:Int) (p2:Int) (p3:Int) (p4:Int) (p5:Pos) (p6:Mv):(Int×Bool×Pos)→Out:=fun y=>.exit 2 (St.mk (an 3 (.int .i64 p1::.any::.ptr 1 0::.ptr 2 0::.any::.ptr 3 0::.int .u8 p2::.int .i64 p3::.int .i64 p4::.int .i64 y.1::(an 31 (.bool y.2.1::(an 58 []))))) (Hp.mk [(pc p5 []),(pc y.2.2 []),[.int .i8 p6.az,.int .i8 p6.to,.int .u8 p6.bP,.int .u8 p6.aW,.bool p6.bS],[.int .u8 0,.ints .u8 64 (List.replicate 64 0),.u64 0,.ints .u8 12 (List.replicate 12 0),.int .u8 0,.ints .i8 4 (List.replicate 4 0),.int .i8 0,.ints .u8 2 (List.replicate 2 0),.int .i64 0,.int .i64 0]] [] [] 0 0 0))
def A3 (p1:Int) (p2:Int) (p3:Int) (p4:Int) (p5:Pos) (p6:Mv) (x:(Int×Pos)):aI (Int×Pos) ((Int×Bool×Pos)):=(bif decide (x.1<2) then (bif decide (wr .i64 (x.2.ai.getD (scale 2 p2+scale 1 x.1).toNat 0)<0) then (aI.go (wr .i64 (x.1+1),x.2)) else (bif decide (wr .i64 (x.2.ai.getD (scale 2 p2+scale 1 x.1).toNat 0)>7) then (aI.go (wr .i64 (x.1+1),x.2)) else (bif decide (p4<p3) then (aI.go (wr .i64 (x.1+1),Pos.mk x.2.variant x.2.ae x.2.ab x.2.af x.2.aa (x.2.ai.set (scale 2 p2+scale 1 x.1).toNat (-1)) x.2.ah x.2.ag x.2.half x.2.full)) else (bif decide (p4>wr .i64 (p3+7)) then (aI.go (wr .i64 (x.1+1),Pos.mk x.2.variant x.2.ae x.2.ab x.2.af x.2.aa (x.2.ai.set (scale 2 p2+scale 1 x.1).toNat (-1)) x.2.ah x.2.ag x.2.half x.2.full)) else (bif !pX x.2 (wr .i64 (p3+wr .i64 (x.2.ai.getD (scale 2 p2+scale 1 x.1).toNat 0))) p2 4 then (aI.go (wr .i64 (x.1+1),Pos.mk x.2.variant x.2.ae x.2.ab x.2.af x.2.aa (x.2.ai.set (scale 2 p2+scale 1 x.1).toNat (-1)) x.2.ah x.2.ag x.2.half x.2.full)) else (bif p1==wr .i64 (p3+wr .i64 (x.2.ai.getD (scale 2 p2+scale 1 x.1).toNat 0)) then (aI.go (wr .i64 (x.1+1),Pos.mk x.2.variant x.2.ae x.2.ab x.2.af x.2.aa (x.2.ai.set (scale 2 p2+scale 1 x.1).toNat (-1)) x.2.ah x.2.ag x.2.half x.2.full)) else (bif p6.aW==0 then (bif wr .i64 p6.az==wr .i64 (p3+wr .i64 (x.2.ai.getD (scale 2 p2+scale 1 x.1).toNat 0)) then (aI.go (wr .i64 (x.1+1),Pos.mk x.2.variant x.2.ae x.2.ab x.2.af x.2.aa (x.2.ai.set (scale 2 p2+scale 1 x.1).toNat (-1)) x.2.ah x.2.ag x.2.half x.2.full)) else (aI.go (wr .i64 (x.1+1),x.2))) else (aI.go (wr .i64 (x.1+1),x.2))))))))) else (aI.out ((x.1,decide (x.1<2),x.2))))
def xr (p1:Int) (p2:Int) (p3:Int) (p4:Int) (p5:Pos) (p6:Mv) (x:(Int×Pos)):Bool:=(bif decide (x.1<2) then (decide (0≤p2)&&decide (p2<Int.ofNat 2)&&(decide (0≤x.1)&&decide (x.1<Int.ofNat 2)&&(bif decide (wr .i64 (x.2.ai.getD (scale 2 p2+scale 1 x.1).toNat 0)<0) then true else (bif decide (wr .i64 (x.2.ai.getD (scale 2 p2+scale 1 x.1).toNat 0)>7) then true else (bif decide (p4<p3) then (decide (0≤p2)&&decide (p2<Int.ofNat 2)&&(decide (0≤x.1)&&decide (x.1<Int.ofNat 2)&&true)) else (bif decide (p4>wr .i64 (p3+7)) then (decide (0≤p2)&&decide (p2<Int.ofNat 2)&&(decide (0≤x.1)&&decide (x.1<Int.ofNat 2)&&true)) else (mV (x.2) (wr .i64 (p3+wr .i64 (x.2.ai.getD (scale 2 p2+scale 1 x.1).toNat 0))) (p2) (4)&&(bif !pX x.2 (wr .i64 (p3+wr .i64 (x.2.ai.getD (scale 2 p2+scale 1 x.1).toNat 0))) p2 4 then (decide (0≤p2)&&decide (p2<Int.ofNat 2)&&(decide (0≤x.1)&&decide (x.1<Int.ofNat 2)&&true)) else (bif p1==wr .i64 (p3+wr .i64 (x.2.ai.getD (scale 2 p2+scale 1 x.1).toNat 0)) then (decide (0≤p2)&&decide (p2<Int.ofNat 2)&&(decide (0≤x.1)&&decide (x.1<Int.ofNat 2)&&true)) else (bif p6.aW==0 then (bif wr .i64 p6.az==wr .i64 (p3+wr .i64 (x.2.ai.getD (scale 2 p2+scale 1 x.1).toNat 0)) then (decide (0≤p2)&&decide (p2<Int.ofNat 2)&&(decide (0≤x.1)&&decide (x.1<Int.ofNat 2)&&true)) else true) else true)))))))))) else true)
def tj (p1:Int) (p2:Int) (p3:Int) (p4:Int) (p5:Pos) (p6:Mv) (x:(Int×Pos)):Option ((Int×Bool×Pos)):=da (fun x=>bif xr p1 p2 p3 p4 p5 p6 x then A3 p1 p2 p3 p4 p5 p6 x else .bad) many x
abbrev PT {α:Type} (k:Int→Int→Int→Int→Pos→Mv→(Int×Pos)→α) (s:St):α:=wP s 0 fun q0=>wP s 1 fun q1=>wM s 2 fun q2=>k (tI (tT s 3)) (tI (tT s 9)) (tI (tT s 10)) (tI (tT s 11)) q0 q2 ((tI (tT s 12)),q1)
theorem WE (p1:Int) (p2:Int) (p3:Int) (p4:Int) (p5:Pos) (p6:Mv) (x:(Int×Pos)) (r:(Int×Bool×Pos)) (h:tj p1 p2 p3 p4 p5 p6 x=some r):aB Pz (bj Pz 90 9) (Ps p1 p2 p3 p4 p5 p6 x) (PI p1 p2 p3 p4 p5 p6 r):=smq (m:=12) (fn:=90) SJ (PT fun _ _ _ _ _ _ x=>some x) (fun o=>match o with | .exit 2 s=>wP s 1 fun q1=>some ((tI (tT s 12)),(tB (tT s 44)),q1) | _=>none) many x r h
def Gq (b:Code) (s:St):Tr Out:=PT (fun p1 p2 p3 p4 p5 p6 x=>mH b (bj Pz 90 9) s (Ps p1 p2 p3 p4 p5 p6 x) (tj p1 p2 p3 p4 p5 p6 x) (PI p1 p2 p3 p4 p5 p6)) s
theorem Lc:∀ b,aZ Pz b (Gq b):=fun _ _ _ h=>bX (WE _ _ _ _ _ _ _) h
def Z7:aw:=bO Pz K90 [(82,mz),(150,xn),(152,nN)] [(90,9,Gq)] []
theorem U6:aV Z7:=ak aj ⟨mN,zh,pd,trivial⟩ ⟨Lc,trivial⟩ trivial
def PN (p1:Int) (p2:Pos) (p3:Mv) (x:(Int×Pos)):St:=St.mk (an 3 (.int .i64 p1::.any::.ptr 1 0::.ptr 2 0::.any::.ptr 3 0::.int .u8 x.1::(an 93 []))) (Hp.mk [(pc p2 []),(pc x.2 []),[.int .i8 p3.az,.int .i8 p3.to,.int .u8 p3.bP,.int .u8 p3.aW,.bool p3.bS],[.int .u8 0,.ints .u8 64 (List.replicate 64 0),.u64 0,.ints .u8 12 (List.replicate 12 0),.int .u8 0,.ints .i8 4 (List.replicate 4 0),.int .i8 0,.ints .u8 2 (List.replicate 2 0),.int .i64 0,.int .i64 0]] [] [] 0 0 0)
def PM (p1:Int) (p2:Pos) (p3:Mv):(Int×Bool×Pos)→Out:=fun y=>.exit 0 (St.mk (an 3 (.int .i64 p1::.any::.ptr 1 0::.ptr 2 0::.any::.ptr 3 0::.int .u8 y.1::(an 24 (.bool y.2.1::(an 68 []))))) (Hp.mk [(pc p2 []),(pc y.2.2 []),[.int .i8 p3.az,.int .i8 p3.to,.int .u8 p3.bP,.int .u8 p3.aW,.bool p3.bS],[.int .u8 0,.ints .u8 64 (List.replicate 64 0),.u64 0,.ints .u8 12 (List.replicate 12 0),.int .u8 0,.ints .i8 4 (List.replicate 4 0),.int .i8 0,.ints .u8 2 (List.replicate 2 0),.int .i64 0,.int .i64 0]] [] [] 0 0 0))
def Gu (p1:Int) (p2:Pos) (p3:Mv) (x:(Int×Pos)):aI (Int×Pos) ((Int×Bool×Pos)):=(bif decide (x.1<2) then (aI.go (wr .u8 (x.1+1),((tj p1 x.1 (wr .i64 (56 * wr .i64 x.1)) (cr x.2 x.1 6) p2 p3 (0,x.2)).getD default).2.2)) else (aI.out ((x.1,decide (x.1<2),x.2))))
def DP (p1:Int) (p2:Pos) (p3:Mv) (x:(Int×Pos)):Bool:=(bif decide (x.1<2) then (uC (x.2) (x.1) (6)&&((tj p1 x.1 (wr .i64 (56 * wr .i64 x.1)) (cr x.2 x.1 6) p2 p3 (0,x.2)).isSome&&true)) else true)
def ly (p1:Int) (p2:Pos) (p3:Mv) (x:(Int×Pos)):Option ((Int×Bool×Pos)):=da (fun x=>bif DP p1 p2 p3 x then Gu p1 p2 p3 x else .bad) many x
abbrev Qn {α:Type} (k:Int→Pos→Mv→(Int×Pos)→α) (s:St):α:=wP s 0 fun q0=>wP s 1 fun q1=>wM s 2 fun q2=>k (tI (tT s 3)) q0 q2 ((tI (tT s 9)),q1)
theorem Wi (p1:Int) (p2:Pos) (p3:Mv) (x:(Int×Pos)) (r:(Int×Bool×Pos)) (h:ly p1 p2 p3 x=some r):aB Pz (bj Pz 90 4) (PN p1 p2 p3 x) (PM p1 p2 p3 r):=smq (m:=12) (fn:=90) U6 (Qn fun _ _ _ x=>some x) (fun o=>match o with | .exit 0 s=>wP s 1 fun q1=>some ((tI (tT s 9)),(tB (tT s 34)),q1) | _=>none) many x r h
def PE (b:Code) (s:St):Tr Out:=Qn (fun p1 p2 p3 x=>mH b (bj Pz 90 4) s (PN p1 p2 p3 x) (ly p1 p2 p3 x) (PM p1 p2 p3)) s
theorem RK:∀ b,aZ Pz b (PE b):=fun _ _ _ h=>bX (Wi _ _ _ _) h
def B90:aw:=bO Pz K90 [(82,mz),(150,xn),(152,nN)] [(90,9,Gq),(90,4,PE)] []
theorem acd:aV B90:=ak aj ⟨mN,zh,pd,trivial⟩ ⟨Lc,RK,trivial⟩ trivial
def NU (a:Pos) (b:Pos) (c:Mv) (d:Int):Pos:=let z1:=((ly d a c (0,Pos.mk b.variant b.ae b.ab b.af b.aa (List.take (scale 2 a.aa).toNat b.ai++((List.replicate 2 0).set 0 (-1)).set 1 (-1)++List.drop ((scale 2 a.aa).toNat+2) b.ai) b.ah b.ag b.half b.full)).getD default);let z2:=((ly d a c (0,b)).getD default);let z3:=(Pos.mk (z2.2.2.variant) (z2.2.2.ae) (z2.2.2.ab) (z2.2.2.af) (z2.2.2.aa) (z2.2.2.ai) (z2.2.2.ah) (z2.2.2.ag) (z2.2.2.half) (z2.2.2.full)); (bif c.aW==0 then (bif bw (a.ae.getD (scale 1 c.az).toNat 0)==6 then (Pos.mk (z1.2.2.variant) (z1.2.2.ae) (z1.2.2.ab) (z1.2.2.af) (z1.2.2.aa) (z1.2.2.ai) (z1.2.2.ah) (z1.2.2.ag) (z1.2.2.half) (z1.2.2.full)) else z3) else z3)
def Fk (a:Pos) (b:Pos) (c:Mv) (d:Int):Bool:=let z1:=((ly d a c (0,b)).isSome&&true); (bif c.aW==0 then (decide (0≤c.az)&&decide (c.az<Int.ofNat 64)&&(bif bw (a.ae.getD (scale 1 c.az).toNat 0)==6 then (decide (0≤a.aa)&&decide (a.aa<Int.ofNat 2)&&((ly d a c (0,Pos.mk b.variant b.ae b.ab b.af b.aa (List.take (scale 2 a.aa).toNat b.ai++((List.replicate 2 0).set 0 (-1)).set 1 (-1)++List.drop ((scale 2 a.aa).toNat+2) b.ai) b.ah b.ag b.half b.full)).isSome&&true)) else z1)) else z1)
theorem P90 (a:Pos) (b:Pos) (c:Mv) (d:Int) (h:Fk a b c d=true):PS Pz 90 [Pos.av a,Pos.av b,Mv.av c,.int .i64 d] (aY.res (NU a b c d)):=pq14 acd h
def G90:GT:=g4 aY aY qZ (dI .i64) (fun a b c d=>cg (Fk a b c d) (aY.res (NU a b c d)))
theorem s90:Sound Pz 90 G90:=B4 fun a b c d=>ay (P90 a b c d)
def K91:KT:=[(91,69,[(0,(3::4::5::14::15::(rn 18 7 (rn 41 5 (rn 58 6 []))))),(1,(3::4::5::25::(rn 41 5 (rn 58 6 [])))),(2,[6]),(3,(3::4::5::7::(rn 41 5 (rn 58 6 [])))),(4,(3::4::5::7::8::(rn 41 5 (rn 58 6 [])))),(5,(3::4::7::8::46::(rn 58 6 []))),(6,[6]),(7,(3::4::7::8::9::(rn 58 6 []))),(8,(3::4::7::8::9::48::(rn 58 6 []))),(9,(3::4::7::8::9::(rn 58 6 []))),(10,(3::4::7::8::9::(rn 58 7 []))),(11,[6]),(12,[6])])]
def aan:aw:=bO Pz K91 [(82,mz),(98,Ws),(152,nN),(154,Ci),(94,Mi)] [] []
theorem Ri:aV aan:=ak aj ⟨mN,s98,pd,Ed,OY,trivial⟩ trivial trivial
def Q1 (p1:Int) (p2:Int) (p3:Pos) (p4:Pos) (p5:Mv) (x:(Int)):St:=St.mk (an 3 (.ptr 0 0::.ptr 1 0::.any::.any::.int .i64 p1::.int .i64 p2::.int .i64 x::(an 59 []))) (Hp.mk [(pc p3 []),(pc p4 []),[.int .i8 p5.az,.int .i8 p5.to,.int .u8 p5.bP,.int .u8 p5.aW,.bool p5.bS]] [] [] 0 0 0)
def OO (p1:Int) (p2:Int) (p3:Pos) (p4:Pos) (p5:Mv):Unit ⊕ (Int×Bool)→Out
 | (.inl (y))=>.ret (St.mk (an 6 (AV.int .i8 (wr .i8 (wr .i64 (p2+p1)))::(an 62 []))) (Hp.mk [(pc p3 []),(pc p4 []),[AV.int .i8 p5.az,AV.int .i8 p5.to,AV.int .u8 p5.bP,AV.int .u8 p5.aW,AV.bool p5.bS]] [] [] 0 0 0))
 | (.inr (y))=>.exit 0 (St.mk (an 3 (AV.ptr 0 0::AV.ptr 1 0::AV.any::AV.any::AV.int .i64 p1::AV.int .i64 p2::AV.int .i64 y.1::(an 38 (AV.bool y.2::(an 20 []))))) (Hp.mk [(pc p3 []),(pc p4 []),[AV.int .i8 p5.az,AV.int .i8 p5.to,AV.int .u8 p5.bP,AV.int .u8 p5.aW,AV.bool p5.bS]] [] [] 0 0 0))
def GP (p1:Int) (p2:Int) (p3:Pos) (p4:Pos) (p5:Mv) (x:(Int)):aI (Int) (Unit ⊕ (Int×Bool)):=(bif decide (x<64) then (bif pX p4 x (wr .u8 (1-p3.aa)) 1 then (bif nz p4 x (wr .i64 (p2+p1)) then (aI.out (.inl (()))) else (aI.go (wr .i64 (x+1)))) else (aI.go (wr .i64 (x+1)))) else (aI.out (.inr ((x,decide (x<64))))))
def Dh (p1:Int) (p2:Int) (p3:Pos) (p4:Pos) (p5:Mv) (x:(Int)):Bool:=(bif decide (x<64) then (mV (p4) (x) (wr .u8 (1-p3.aa)) (1)&&(bif pX p4 x (wr .u8 (1-p3.aa)) 1 then (ob (p4) (x) (wr .i64 (p2+p1))&&true) else true)) else true)
def py (p1:Int) (p2:Int) (p3:Pos) (p4:Pos) (p5:Mv) (x:(Int)):Option (Unit ⊕ (Int×Bool)):=da (fun x=>bif Dh p1 p2 p3 p4 p5 x then GP p1 p2 p3 p4 p5 x else .bad) many x
abbrev OQ {α:Type} (k:Int→Int→Pos→Pos→Mv→(Int)→α) (s:St):α:=wP s 0 fun q0=>wP s 1 fun q1=>wM s 2 fun q2=>k (tI (tT s 7)) (tI (tT s 8)) q0 q1 q2 ((tI (tT s 9)))
theorem WH (p1:Int) (p2:Int) (p3:Pos) (p4:Pos) (p5:Mv) (x:(Int)) (r:Unit ⊕ (Int×Bool)) (h:py p1 p2 p3 p4 p5 x=some r):aB Pz (bj Pz 91 8) (Q1 p1 p2 p3 p4 p5 x) (OO p1 p2 p3 p4 p5 r):=aB.xO (m:=12) (fn:=91) Ri (OQ fun _ _ _ _ _ x=>some x) (fun o=>match o with | .ret s=>some (.inl ()) | .exit 0 s=>some (.inr ((tI (tT s 9)),(tB (tT s 48)))) | _=>none) (fun r=>by cases r<;>rfl) (fun _=>by kernel_rfl) (fun _=>by kernel_rfl) (fun _=>by kernel_rfl) (fun _=>by kernel_rfl) many x r h
def Q5 (b:Code) (s:St):Tr Out:=OQ (fun p1 p2 p3 p4 p5 x=>w9 b (bj Pz 91 8) s (Q1 p1 p2 p3 p4 p5 x) (py p1 p2 p3 p4 p5 x) (OO p1 p2 p3 p4 p5)) s
theorem Ts:∀ b,aZ Pz b (Q5 b):=fun _ _ _ h=>ez (WH _ _ _ _ _ _) h
def B91:aw:=bO Pz K91 [(82,mz),(98,Ws),(152,nN),(154,Ci),(94,Mi)] [(91,8,Q5)] []
theorem afT:aV B91:=ak aj ⟨mN,s98,pd,Ed,OY,trivial⟩ ⟨Ts,trivial⟩ trivial
def eP (a:Pos) (b:Pos) (c:Mv):Int:=(bif c.aW != 0 then (-1) else (bif c.bS then (-1) else (bif bw (a.ae.getD (scale 1 c.az).toNat 0) != 1 then (-1) else (bif wr .i64 c.to != wr .i64 (wr .i64 c.az+wr .i64 (2 * gz a.aa)) then (-1) else (bif rh a.aa (wr .i64 c.az) != 1 then (-1) else (bif cu ((py (gz a.aa) (wr .i64 c.az) a b c 0).getD default) then (wr .i8 (wr .i64 (wr .i64 c.az+gz a.aa))) else (-1)))))))
def D5 (a:Pos) (b:Pos) (c:Mv):Bool:=(bif c.aW != 0 then true else (bif c.bS then true else (decide (0≤c.az)&&decide (c.az<Int.ofNat 64)&&(bif bw (a.ae.getD (scale 1 c.az).toNat 0) != 1 then true else (bif wr .i64 c.to != wr .i64 (wr .i64 c.az+wr .i64 (2 * gz a.aa)) then true else (bif rh a.aa (wr .i64 c.az) != 1 then true else ((py (gz a.aa) (wr .i64 c.az) a b c 0).isSome&&bif cu ((py (gz a.aa) (wr .i64 c.az) a b c 0).getD default) then true else true)))))))
theorem P91 (a:Pos) (b:Pos) (c:Mv) (h:D5 a b c=true):PS Pz 91 [Pos.av a,Pos.av b,Mv.av c] ((dI .i8).res (eP a b c)):=pq14 afT h
def G91:GT:=g3 aY aY qZ (fun a b c=>cg (D5 a b c) ((dI .i8).res (eP a b c)))
theorem s91:Sound Pz 91 G91:=dg fun a b c=>ay (P91 a b c)
def K92:KT:=[(92,8,[(0,[0]),(1,[0,4]),(2,[2]),(3,[2])])]
def B92:aw:=bO Pz K92 [] [] []
theorem aiB:aV B92:=ak aj trivial trivial trivial
def ev (a:Int):Int:=(bif decide (a≥10000) then (a) else (wr .i64 (a+1)))
def acF (a:Int):Bool:=true
theorem P92 (a:Int) (h:acF a=true):PS Pz 92 [.int .i64 a] ((dI .i64).res (ev a)):=pq14 aiB h
def G92:GT:=g1 (dI .i64) (fun a=>.ret ((dI .i64).res (ev a)))
theorem s92:Sound Pz 92 G92:=aF fun a=>bK (P92 a rfl)
def K36:KT:=[(36,118,[(0,(2::3::4::26::27::(rn 58 12 (77::78::(rn 96 6 (rn 104 4 [])))))),(1,(rn 2 4 (26::27::(rn 58 12 (77::78::(rn 96 6 (rn 104 4 []))))))),(2,(rn 2 5 (26::27::(rn 58 12 (77::78::(rn 96 6 (rn 104 4 []))))))),(3,(rn 2 5 (26::27::(rn 58 12 (77::78::(rn 96 6 (rn 104 4 []))))))),(4,(rn 2 5 (28::(rn 58 12 (77::78::(rn 96 6 (rn 104 4 []))))))),(5,(rn 2 6 (rn 58 12 (77::78::(rn 96 6 (rn 104 4 [])))))),(6,(rn 2 7 (rn 58 12 (77::78::(rn 96 6 (rn 104 4 [])))))),(7,(rn 2 7 (35::(rn 58 12 (77::78::(rn 96 6 (rn 104 4 []))))))),(8,(rn 2 7 (rn 58 12 (77::78::(rn 96 6 (rn 104 4 [])))))),(9,(rn 2 7 (40::(rn 58 12 (77::78::(rn 96 6 (rn 104 4 []))))))),(10,(rn 2 7 (rn 58 12 (77::78::(rn 96 6 (rn 104 4 [])))))),(11,(rn 2 5 (rn 58 12 (77::78::(rn 96 6 (rn 104 4 [])))))),(12,(rn 2 5 (rn 58 12 (77::78::(rn 96 6 (rn 104 4 [])))))),(13,(2::4::5::6::9::77::78::(rn 96 6 (rn 104 4 [])))),(14,(2::4::5::6::9::77::78::(rn 96 6 (rn 104 4 [])))),(15,(2::4::6::79::(rn 96 6 (rn 104 4 [])))),(16,(2::4::6::(rn 96 6 (rn 104 4 [])))),(17,(2::4::6::83::(rn 96 6 (rn 104 4 [])))),(18,(2::4::6::(rn 96 6 (rn 104 4 [])))),(19,(2::4::6::(rn 96 6 (rn 104 4 [])))),(20,[2,4,6,108]),(21,[4,6]),(22,[4])])]
def VG:aw:=bO Pz K36 [(33,YG),(39,TA),(82,mz),(86,G86),(87,G87),(88,G88),(89,G89),(90,G90),(91,G91),(92,G92)] [] []
theorem Sc:aV VG:=ak aj ⟨s33,Vr,mN,s86,s87,s88,s89,s90,s91,s92,trivial⟩ trivial trivial
def Px (p1:Int) (p2:(BitVec 64)) (p3:Pos) (p4:Mv) (x:(Int×Pos)):St:=St.mk (.any::.any::.ptr 0 0::.ptr 1 0::.ptr 2 0::.int .i64 p1::.ptr 3 0::.u64 p2::.int .i64 x.1::(an 49 (.undef::.undef::.undef::.undef::.undef::.undef::.undef::.undef::.undef::.undef::.undef::.undef::(an 7 (.undef::.undef::(an 17 (.undef::.undef::.undef::.undef::.undef::.undef::.any::.any::.undef::.undef::.undef::.undef::(an 10 [])))))))) (Hp.mk [(pc p3 []),[.int .i8 p4.az,.int .i8 p4.to,.int .u8 p4.bP,.int .u8 p4.aW,.bool p4.bS],zpB,(pc x.2 [])] [] [] 0 0 0)
def QC (p1:Int) (p2:(BitVec 64)) (p3:Pos) (p4:Mv):(Int×Bool×Pos)→Out:=fun y=>.exit 0 (St.mk (.any::.any::.ptr 0 0::.ptr 1 0::.ptr 2 0::.int .i64 p1::.ptr 3 0::.u64 p2::.int .i64 y.1::(an 26 (.bool y.2.1::(an 22 (.undef::.undef::.undef::.undef::.undef::.undef::.undef::.undef::.undef::.undef::.undef::.undef::(an 7 (.undef::.undef::(an 17 (.undef::.undef::.undef::.undef::.undef::.undef::.any::.any::.undef::.undef::.undef::.undef::(an 10 [])))))))))) (Hp.mk [(pc p3 []),[.int .i8 p4.az,.int .i8 p4.to,.int .u8 p4.bP,.int .u8 p4.aW,.bool p4.bS],zpB,(pc y.2.2 [])] [] [] 0 0 0))
def GB (p1:Int) (p2:(BitVec 64)) (p3:Pos) (p4:Mv) (x:(Int×Pos)):aI (Int×Pos) ((Int×Bool×Pos)):=(bif decide (x.1<64) then (bif B0 p2 x.1 then (aI.go (wr .i64 (x.1+1),Pos.mk x.2.variant (x.2.ae.set (scale 1 x.1).toNat 0) x.2.ab x.2.af x.2.aa x.2.ai x.2.ah x.2.ag x.2.half x.2.full)) else (aI.go (wr .i64 (x.1+1),x.2))) else (aI.out ((x.1,decide (x.1<64),x.2))))
def CP (p1:Int) (p2:(BitVec 64)) (p3:Pos) (p4:Mv) (x:(Int×Pos)):Bool:=(bif decide (x.1<64) then (bif B0 p2 x.1 then (decide (0≤x.1)&&decide (x.1<Int.ofNat 64)&&true) else true) else true)
def lh (p1:Int) (p2:(BitVec 64)) (p3:Pos) (p4:Mv) (x:(Int×Pos)):Option ((Int×Bool×Pos)):=da (fun x=>bif CP p1 p2 p3 p4 x then GB p1 p2 p3 p4 x else .bad) many x
abbrev PH {α:Type} (k:Int→(BitVec 64)→Pos→Mv→(Int×Pos)→α) (s:St):α:=wP s 0 fun q0=>wP s 3 fun q3=>wM s 1 fun q1=>k (tI (tT s 5)) (tU (tT s 7)) q0 q1 ((tI (tT s 8)),q3)
theorem WR (p1:Int) (p2:(BitVec 64)) (p3:Pos) (p4:Mv) (x:(Int×Pos)) (r:(Int×Bool×Pos)) (h:lh p1 p2 p3 p4 x=some r):aB Pz (bj Pz 36 7) (Px p1 p2 p3 p4 x) (QC p1 p2 p3 p4 r):=smq (m:=12) (fn:=36) Sc (PH fun _ _ _ _ x=>some x) (fun o=>match o with | .exit 0 s=>wP s 3 fun q3=>some ((tI (tT s 8)),(tB (tT s 35)),q3) | _=>none) many x r h
def P3 (b:Code) (s:St):Tr Out:=PH (fun p1 p2 p3 p4 x=>mH b (bj Pz 36 7) s (Px p1 p2 p3 p4 x) (lh p1 p2 p3 p4 x) (QC p1 p2 p3 p4)) s
theorem UD:∀ b,aZ Pz b (P3 b):=fun _ _ _ h=>bX (WR _ _ _ _ _) h
def B36:aw:=bO Pz K36 [(33,YG),(39,TA),(82,mz),(86,G86),(87,G87),(88,G88),(89,G89),(90,G90),(91,G91),(92,G92)] [(36,7,P3)] []
theorem aiy:aV B36:=ak aj ⟨s33,Vr,mN,s86,s87,s88,s89,s90,s91,s92,trivial⟩ ⟨UD,trivial⟩ trivial
def LO (a:Pos) (b:Mv):Pos:=let z1:=(NU a ((lh (ie a b) (LQ (Av a (yM a b (ie a b)) b (ie a b)) (wr .i64 b.to)) a b (0,Av a (yM a b (ie a b)) b (ie a b))).getD default).2.2 b (ie a b));let z2:=(NU a (Av a (yM a b (ie a b)) b (ie a b)) b (ie a b));let z3:=(bif a.aa==1 then (bif z2.variant==5 then (bif decide (z2.ag.getD (scale 1 a.aa).toNat 0<3) then (bif ni (Pos.mk z2.variant z2.ae z2.ab z2.af (wr .u8 (1-a.aa)) z2.ai (eP a z2 b) z2.ag 0 (ev a.full)) (wr .u8 (1-a.aa)) then (Pos.mk (z2.variant) (z2.ae) (z2.ab) (z2.af) (wr .u8 (1-a.aa)) (z2.ai) (eP a z2 b) (z2.ag.set (scale 1 a.aa).toNat (wr .u8 (z2.ag.getD (scale 1 a.aa).toNat 0+1))) 0 (ev a.full)) else (Pos.mk (z2.variant) (z2.ae) (z2.ab) (z2.af) (wr .u8 (1-a.aa)) (z2.ai) (eP a z2 b) (z2.ag) 0 (ev a.full))) else (Pos.mk (z2.variant) (z2.ae) (z2.ab) (z2.af) (wr .u8 (1-a.aa)) (z2.ai) (eP a z2 b) (z2.ag) 0 (ev a.full))) else (Pos.mk (z2.variant) (z2.ae) (z2.ab) (z2.af) (wr .u8 (1-a.aa)) (z2.ai) (eP a z2 b) (z2.ag) 0 (ev a.full))) else (bif z2.variant==5 then (bif decide (z2.ag.getD (scale 1 a.aa).toNat 0<3) then (bif ni (Pos.mk z2.variant z2.ae z2.ab z2.af (wr .u8 (1-a.aa)) z2.ai (eP a z2 b) z2.ag 0 z2.full) (wr .u8 (1-a.aa)) then (Pos.mk (z2.variant) (z2.ae) (z2.ab) (z2.af) (wr .u8 (1-a.aa)) (z2.ai) (eP a z2 b) (z2.ag.set (scale 1 a.aa).toNat (wr .u8 (z2.ag.getD (scale 1 a.aa).toNat 0+1))) 0 (z2.full)) else (Pos.mk (z2.variant) (z2.ae) (z2.ab) (z2.af) (wr .u8 (1-a.aa)) (z2.ai) (eP a z2 b) (z2.ag) 0 (z2.full))) else (Pos.mk (z2.variant) (z2.ae) (z2.ab) (z2.af) (wr .u8 (1-a.aa)) (z2.ai) (eP a z2 b) (z2.ag) 0 (z2.full))) else (Pos.mk (z2.variant) (z2.ae) (z2.ab) (z2.af) (wr .u8 (1-a.aa)) (z2.ai) (eP a z2 b) (z2.ag) 0 (z2.full))));let z4:=(bif decide (ie a b≥0) then z3 else (bif a.aa==1 then (bif z2.variant==5 then (bif decide (z2.ag.getD (scale 1 a.aa).toNat 0<3) then (bif ni (Pos.mk z2.variant z2.ae z2.ab z2.af (wr .u8 (1-a.aa)) z2.ai (eP a z2 b) z2.ag (ev a.half) (ev a.full)) (wr .u8 (1-a.aa)) then (Pos.mk (z2.variant) (z2.ae) (z2.ab) (z2.af) (wr .u8 (1-a.aa)) (z2.ai) (eP a z2 b) (z2.ag.set (scale 1 a.aa).toNat (wr .u8 (z2.ag.getD (scale 1 a.aa).toNat 0+1))) (ev a.half) (ev a.full)) else (Pos.mk (z2.variant) (z2.ae) (z2.ab) (z2.af) (wr .u8 (1-a.aa)) (z2.ai) (eP a z2 b) (z2.ag) (ev a.half) (ev a.full))) else (Pos.mk (z2.variant) (z2.ae) (z2.ab) (z2.af) (wr .u8 (1-a.aa)) (z2.ai) (eP a z2 b) (z2.ag) (ev a.half) (ev a.full))) else (Pos.mk (z2.variant) (z2.ae) (z2.ab) (z2.af) (wr .u8 (1-a.aa)) (z2.ai) (eP a z2 b) (z2.ag) (ev a.half) (ev a.full))) else (bif z2.variant==5 then (bif decide (z2.ag.getD (scale 1 a.aa).toNat 0<3) then (bif ni (Pos.mk z2.variant z2.ae z2.ab z2.af (wr .u8 (1-a.aa)) z2.ai (eP a z2 b) z2.ag (ev a.half) z2.full) (wr .u8 (1-a.aa)) then (Pos.mk (z2.variant) (z2.ae) (z2.ab) (z2.af) (wr .u8 (1-a.aa)) (z2.ai) (eP a z2 b) (z2.ag.set (scale 1 a.aa).toNat (wr .u8 (z2.ag.getD (scale 1 a.aa).toNat 0+1))) (ev a.half) (z2.full)) else (Pos.mk (z2.variant) (z2.ae) (z2.ab) (z2.af) (wr .u8 (1-a.aa)) (z2.ai) (eP a z2 b) (z2.ag) (ev a.half) (z2.full))) else (Pos.mk (z2.variant) (z2.ae) (z2.ab) (z2.af) (wr .u8 (1-a.aa)) (z2.ai) (eP a z2 b) (z2.ag) (ev a.half) (z2.full))) else (Pos.mk (z2.variant) (z2.ae) (z2.ab) (z2.af) (wr .u8 (1-a.aa)) (z2.ai) (eP a z2 b) (z2.ag) (ev a.half) (z2.full)))));let z5:=(bif a.aa==1 then (bif z1.variant==5 then (bif decide (z1.ag.getD (scale 1 a.aa).toNat 0<3) then (bif ni (Pos.mk z1.variant z1.ae z1.ab z1.af (wr .u8 (1-a.aa)) z1.ai (eP a z1 b) z1.ag 0 (ev a.full)) (wr .u8 (1-a.aa)) then (Pos.mk (z1.variant) (z1.ae) (z1.ab) (z1.af) (wr .u8 (1-a.aa)) (z1.ai) (eP a z1 b) (z1.ag.set (scale 1 a.aa).toNat (wr .u8 (z1.ag.getD (scale 1 a.aa).toNat 0+1))) 0 (ev a.full)) else (Pos.mk (z1.variant) (z1.ae) (z1.ab) (z1.af) (wr .u8 (1-a.aa)) (z1.ai) (eP a z1 b) (z1.ag) 0 (ev a.full))) else (Pos.mk (z1.variant) (z1.ae) (z1.ab) (z1.af) (wr .u8 (1-a.aa)) (z1.ai) (eP a z1 b) (z1.ag) 0 (ev a.full))) else (Pos.mk (z1.variant) (z1.ae) (z1.ab) (z1.af) (wr .u8 (1-a.aa)) (z1.ai) (eP a z1 b) (z1.ag) 0 (ev a.full))) else (bif z1.variant==5 then (bif decide (z1.ag.getD (scale 1 a.aa).toNat 0<3) then (bif ni (Pos.mk z1.variant z1.ae z1.ab z1.af (wr .u8 (1-a.aa)) z1.ai (eP a z1 b) z1.ag 0 z1.full) (wr .u8 (1-a.aa)) then (Pos.mk (z1.variant) (z1.ae) (z1.ab) (z1.af) (wr .u8 (1-a.aa)) (z1.ai) (eP a z1 b) (z1.ag.set (scale 1 a.aa).toNat (wr .u8 (z1.ag.getD (scale 1 a.aa).toNat 0+1))) 0 (z1.full)) else (Pos.mk (z1.variant) (z1.ae) (z1.ab) (z1.af) (wr .u8 (1-a.aa)) (z1.ai) (eP a z1 b) (z1.ag) 0 (z1.full))) else (Pos.mk (z1.variant) (z1.ae) (z1.ab) (z1.af) (wr .u8 (1-a.aa)) (z1.ai) (eP a z1 b) (z1.ag) 0 (z1.full))) else (Pos.mk (z1.variant) (z1.ae) (z1.ab) (z1.af) (wr .u8 (1-a.aa)) (z1.ai) (eP a z1 b) (z1.ag) 0 (z1.full))));let z6:=(bif decide (ie a b≥0) then z5 else (bif a.aa==1 then (bif z1.variant==5 then (bif decide (z1.ag.getD (scale 1 a.aa).toNat 0<3) then (bif ni (Pos.mk z1.variant z1.ae z1.ab z1.af (wr .u8 (1-a.aa)) z1.ai (eP a z1 b) z1.ag (ev a.half) (ev a.full)) (wr .u8 (1-a.aa)) then (Pos.mk (z1.variant) (z1.ae) (z1.ab) (z1.af) (wr .u8 (1-a.aa)) (z1.ai) (eP a z1 b) (z1.ag.set (scale 1 a.aa).toNat (wr .u8 (z1.ag.getD (scale 1 a.aa).toNat 0+1))) (ev a.half) (ev a.full)) else (Pos.mk (z1.variant) (z1.ae) (z1.ab) (z1.af) (wr .u8 (1-a.aa)) (z1.ai) (eP a z1 b) (z1.ag) (ev a.half) (ev a.full))) else (Pos.mk (z1.variant) (z1.ae) (z1.ab) (z1.af) (wr .u8 (1-a.aa)) (z1.ai) (eP a z1 b) (z1.ag) (ev a.half) (ev a.full))) else (Pos.mk (z1.variant) (z1.ae) (z1.ab) (z1.af) (wr .u8 (1-a.aa)) (z1.ai) (eP a z1 b) (z1.ag) (ev a.half) (ev a.full))) else (bif z1.variant==5 then (bif decide (z1.ag.getD (scale 1 a.aa).toNat 0<3) then (bif ni (Pos.mk z1.variant z1.ae z1.ab z1.af (wr .u8 (1-a.aa)) z1.ai (eP a z1 b) z1.ag (ev a.half) z1.full) (wr .u8 (1-a.aa)) then (Pos.mk (z1.variant) (z1.ae) (z1.ab) (z1.af) (wr .u8 (1-a.aa)) (z1.ai) (eP a z1 b) (z1.ag.set (scale 1 a.aa).toNat (wr .u8 (z1.ag.getD (scale 1 a.aa).toNat 0+1))) (ev a.half) (z1.full)) else (Pos.mk (z1.variant) (z1.ae) (z1.ab) (z1.af) (wr .u8 (1-a.aa)) (z1.ai) (eP a z1 b) (z1.ag) (ev a.half) (z1.full))) else (Pos.mk (z1.variant) (z1.ae) (z1.ab) (z1.af) (wr .u8 (1-a.aa)) (z1.ai) (eP a z1 b) (z1.ag) (ev a.half) (z1.full))) else (Pos.mk (z1.variant) (z1.ae) (z1.ab) (z1.af) (wr .u8 (1-a.aa)) (z1.ai) (eP a z1 b) (z1.ag) (ev a.half) (z1.full)))));let z7:=(bif b.aW==1 then z3 else (bif b.aW==0 then (bif bw (a.ae.getD (scale 1 b.az).toNat 0)==1 then z3 else z4) else z4)); (bif a.variant==3 then (bif decide (ie a b≥0) then (bif b.aW==1 then z5 else (bif b.aW==0 then (bif bw (a.ae.getD (scale 1 b.az).toNat 0)==1 then z5 else z6) else z6)) else z7) else z7)
def Ge (a:Pos) (b:Mv):Bool:=let z2:=(NU a (Av a (yM a b (ie a b)) b (ie a b)) b (ie a b));let z3:=(bif a.aa==1 then (bif z2.variant==5 then (decide (0≤a.aa)&&decide (a.aa<Int.ofNat 2)&&(bif decide (z2.ag.getD (scale 1 a.aa).toNat 0<3) then (jn (Pos.mk z2.variant z2.ae z2.ab z2.af (wr .u8 (1-a.aa)) z2.ai (eP a z2 b) z2.ag 0 (ev a.full)) (wr .u8 (1-a.aa))&&(bif ni (Pos.mk z2.variant z2.ae z2.ab z2.af (wr .u8 (1-a.aa)) z2.ai (eP a z2 b) z2.ag 0 (ev a.full)) (wr .u8 (1-a.aa)) then (decide (0≤a.aa)&&decide (a.aa<Int.ofNat 2)&&(decide (0≤a.aa)&&decide (a.aa<Int.ofNat 2)&&true)) else true)) else true)) else true) else (bif z2.variant==5 then (decide (0≤a.aa)&&decide (a.aa<Int.ofNat 2)&&(bif decide (z2.ag.getD (scale 1 a.aa).toNat 0<3) then (jn (Pos.mk z2.variant z2.ae z2.ab z2.af (wr .u8 (1-a.aa)) z2.ai (eP a z2 b) z2.ag 0 z2.full) (wr .u8 (1-a.aa))&&(bif ni (Pos.mk z2.variant z2.ae z2.ab z2.af (wr .u8 (1-a.aa)) z2.ai (eP a z2 b) z2.ag 0 z2.full) (wr .u8 (1-a.aa)) then (decide (0≤a.aa)&&decide (a.aa<Int.ofNat 2)&&(decide (0≤a.aa)&&decide (a.aa<Int.ofNat 2)&&true)) else true)) else true)) else true));let z4:=(bif decide (ie a b≥0) then z3 else (bif a.aa==1 then (bif z2.variant==5 then (decide (0≤a.aa)&&decide (a.aa<Int.ofNat 2)&&(bif decide (z2.ag.getD (scale 1 a.aa).toNat 0<3) then (jn (Pos.mk z2.variant z2.ae z2.ab z2.af (wr .u8 (1-a.aa)) z2.ai (eP a z2 b) z2.ag (ev a.half) (ev a.full)) (wr .u8 (1-a.aa))&&(bif ni (Pos.mk z2.variant z2.ae z2.ab z2.af (wr .u8 (1-a.aa)) z2.ai (eP a z2 b) z2.ag (ev a.half) (ev a.full)) (wr .u8 (1-a.aa)) then (decide (0≤a.aa)&&decide (a.aa<Int.ofNat 2)&&(decide (0≤a.aa)&&decide (a.aa<Int.ofNat 2)&&true)) else true)) else true)) else true) else (bif z2.variant==5 then (decide (0≤a.aa)&&decide (a.aa<Int.ofNat 2)&&(bif decide (z2.ag.getD (scale 1 a.aa).toNat 0<3) then (jn (Pos.mk z2.variant z2.ae z2.ab z2.af (wr .u8 (1-a.aa)) z2.ai (eP a z2 b) z2.ag (ev a.half) z2.full) (wr .u8 (1-a.aa))&&(bif ni (Pos.mk z2.variant z2.ae z2.ab z2.af (wr .u8 (1-a.aa)) z2.ai (eP a z2 b) z2.ag (ev a.half) z2.full) (wr .u8 (1-a.aa)) then (decide (0≤a.aa)&&decide (a.aa<Int.ofNat 2)&&(decide (0≤a.aa)&&decide (a.aa<Int.ofNat 2)&&true)) else true)) else true)) else true)));let z7:=(Fk (a) (Av a (yM a b (ie a b)) b (ie a b)) (b) (ie a b)&&(D5 (a) z2 (b)&&(bif b.aW==1 then z3 else (bif b.aW==0 then (decide (0≤b.az)&&decide (b.az<Int.ofNat 64)&&(bif bw (a.ae.getD (scale 1 b.az).toNat 0)==1 then z3 else z4)) else z4))));let z8:=(lh (ie a b) (LQ (Av a (yM a b (ie a b)) b (ie a b)) (wr .i64 b.to)) a b (0,Av a (yM a b (ie a b)) b (ie a b)));let z1:=(NU a (z8.getD default).2.2 b (ie a b));let z5:=(bif a.aa==1 then (bif z1.variant==5 then (decide (0≤a.aa)&&decide (a.aa<Int.ofNat 2)&&(bif decide (z1.ag.getD (scale 1 a.aa).toNat 0<3) then (jn (Pos.mk z1.variant z1.ae z1.ab z1.af (wr .u8 (1-a.aa)) z1.ai (eP a z1 b) z1.ag 0 (ev a.full)) (wr .u8 (1-a.aa))&&(bif ni (Pos.mk z1.variant z1.ae z1.ab z1.af (wr .u8 (1-a.aa)) z1.ai (eP a z1 b) z1.ag 0 (ev a.full)) (wr .u8 (1-a.aa)) then (decide (0≤a.aa)&&decide (a.aa<Int.ofNat 2)&&(decide (0≤a.aa)&&decide (a.aa<Int.ofNat 2)&&true)) else true)) else true)) else true) else (bif z1.variant==5 then (decide (0≤a.aa)&&decide (a.aa<Int.ofNat 2)&&(bif decide (z1.ag.getD (scale 1 a.aa).toNat 0<3) then (jn (Pos.mk z1.variant z1.ae z1.ab z1.af (wr .u8 (1-a.aa)) z1.ai (eP a z1 b) z1.ag 0 z1.full) (wr .u8 (1-a.aa))&&(bif ni (Pos.mk z1.variant z1.ae z1.ab z1.af (wr .u8 (1-a.aa)) z1.ai (eP a z1 b) z1.ag 0 z1.full) (wr .u8 (1-a.aa)) then (decide (0≤a.aa)&&decide (a.aa<Int.ofNat 2)&&(decide (0≤a.aa)&&decide (a.aa<Int.ofNat 2)&&true)) else true)) else true)) else true));let z6:=(bif decide (ie a b≥0) then z5 else (bif a.aa==1 then (bif z1.variant==5 then (decide (0≤a.aa)&&decide (a.aa<Int.ofNat 2)&&(bif decide (z1.ag.getD (scale 1 a.aa).toNat 0<3) then (jn (Pos.mk z1.variant z1.ae z1.ab z1.af (wr .u8 (1-a.aa)) z1.ai (eP a z1 b) z1.ag (ev a.half) (ev a.full)) (wr .u8 (1-a.aa))&&(bif ni (Pos.mk z1.variant z1.ae z1.ab z1.af (wr .u8 (1-a.aa)) z1.ai (eP a z1 b) z1.ag (ev a.half) (ev a.full)) (wr .u8 (1-a.aa)) then (decide (0≤a.aa)&&decide (a.aa<Int.ofNat 2)&&(decide (0≤a.aa)&&decide (a.aa<Int.ofNat 2)&&true)) else true)) else true)) else true) else (bif z1.variant==5 then (decide (0≤a.aa)&&decide (a.aa<Int.ofNat 2)&&(bif decide (z1.ag.getD (scale 1 a.aa).toNat 0<3) then (jn (Pos.mk z1.variant z1.ae z1.ab z1.af (wr .u8 (1-a.aa)) z1.ai (eP a z1 b) z1.ag (ev a.half) z1.full) (wr .u8 (1-a.aa))&&(bif ni (Pos.mk z1.variant z1.ae z1.ab z1.af (wr .u8 (1-a.aa)) z1.ai (eP a z1 b) z1.ag (ev a.half) z1.full) (wr .u8 (1-a.aa)) then (decide (0≤a.aa)&&decide (a.aa<Int.ofNat 2)&&(decide (0≤a.aa)&&decide (a.aa<Int.ofNat 2)&&true)) else true)) else true)) else true))); (xW (a) (b)&&(yr (a) (b) (ie a b)&&(xX (a) (yM a b (ie a b)) (b) (ie a b)&&(bif a.variant==3 then (bif decide (ie a b≥0) then (FP (Av a (yM a b (ie a b)) b (ie a b)) (wr .i64 b.to)&&(z8.isSome&&(Fk (a) ((z8.getD default).2.2) (b) (ie a b)&&(D5 (a) z1 (b)&&(bif b.aW==1 then z5 else (bif b.aW==0 then (decide (0≤b.az)&&decide (b.az<Int.ofNat 64)&&(bif bw (a.ae.getD (scale 1 b.az).toNat 0)==1 then z5 else z6)) else z6)))))) else z7) else z7))))
theorem P36 (a:Pos) (b:Mv) (h:Ge a b=true):PS Pz 36 [Pos.av a,Mv.av b] (aY.res (LO a b)):=pq14 aiy h
def G36:GT:=g2 aY qZ (fun a b=>cg (Ge a b) (aY.res (LO a b)))
theorem s36:Sound Pz 36 G36:=aT fun a b=>ay (P36 a b)
end Kz
end
noncomputable section
namespace Kz
open Go Go.RowKit
theorem gJ {p:Pos} (hp:aO p) (ht:p.aa≤1):∃ t:Nat,p.aa=t∧t≤1:=by
 have t0:=hp.t0
 obtain ⟨t,h⟩:=Int.eq_ofNat_of_zero_le t0
 exact ⟨t,h,by omega⟩
theorem n140 {t:Nat} (ht:t≤1):cq (t:Int)=((56 * t:Nat):Int):=by
 rw [nZ (by omega) (by omega)];omega
theorem Fa {p:Pos} (hp:aO p) {t:Nat} (hpt:p.aa=t) (ht:t≤1) {b c:Int}:(cp p b c).2=true→∃ f:Nat,f≤7∧(cp p b c).1=((56 * t+f:Nat):Int)∧((56 * t+f:Nat):Int)≠b:=by
 have hr:=hQ (d:=0) hp.r0 (by omega) (scale 2 p.aa+scale 1 c).toNat
 unfold cp
 rw [hpt] at hr ⊢
 rw [n140 ht]
 generalize p.ai.getD (scale 2 (t:Int)+scale 1 c).toNat 0=f at hr ⊢
 rw [aN (n:=f) (by omega) (by omega),aN (n:=((56 * t:Nat):Int)+f) (by omega) (by omega)]
 refine au (P:=fun x:Int×Bool=>x.2=true→∃ f:Nat,f≤7∧x.1=((56 * t+f:Nat):Int)∧((56 * t+f:Nat):Int)≠b) (fun _ h=>by cases h) fun h1=>au (P:=fun x:Int×Bool=>x.2=true→∃ f:Nat,f≤7∧x.1=((56 * t+f:Nat):Int)∧((56 * t+f:Nat):Int)≠b) (fun _ h=>by cases h) fun h2=>au (P:=fun x:Int×Bool=>x.2=true→∃ f:Nat,f≤7∧x.1=((56 * t+f:Nat):Int)∧((56 * t+f:Nat):Int)≠b) (fun _=>?_) fun _ h=>by cases h
 have h1:¬ f<0:=by simpa using h1
 have h2:¬ f>7:=by simpa using h2
 refine au (P:=fun x:Int×Bool=>x.2=true→∃ f:Nat,f≤7∧x.1=((56 * t+f:Nat):Int)∧((56 * t+f:Nat):Int)≠b) (fun _ h=>?_) fun _ h=>by cases h
 have h:(((56 * t:Nat):Int)+f != b)=true:=h
 rw [bne_iff_ne] at h
 exact ⟨f.toNat,by omega,by show ((56 * t:Nat):Int)+f=_;omega,by omega⟩
theorem qp {p:Pos} (hp:aO p) {t:Nat} (hpt:p.aa=t) (ht:t≤1) {m:Mv} (h:m∈eL p):∃ k r:Nat,m.az=k∧m.to=r∧56 * t≤k∧k≤56 * t+7∧56 * t≤r∧r≤56 * t+7∧k≠r:=by
 revert h
 unfold eL
 have hk:=hJ p p.aa 6
 have ht1:p.aa≤1:=by omega
 refine au (P:=fun l:M'=>m∈l→_) (fun _ h=>by cases h) fun _=>?_
 refine au (P:=fun l:M'=>m∈l→_) (fun _ h=>by cases h) fun _=>au (P:=fun l:M'=>m∈l→_) (fun _ h=>by cases h) fun hk0=>au (P:=fun l:M'=>m∈l→_) (fun _ h=>by cases h) fun hh=>?_
 have hk0:0≤aX p p.aa 6:=by simpa using hk0
 rw [hpt,n140 ht] at hh
 rw [← hpt] at hh
 obtain ⟨k,hk'⟩:=Int.eq_ofNat_of_zero_le hk0
 rw [hk',Int.tdiv_eq_ediv_of_nonneg (by omega),Int.tdiv_eq_ediv_of_nonneg (by omega),aN (by omega) (by omega),aN (by omega) (by omega),bne_eq_false_iff_eq] at hh
 have key:∀ c,(dh p (aX p p.aa 6) c).2=true→m=(dh p (aX p p.aa 6) c).1→∃ k r:Nat,m.az=k∧m.to=r∧56 * t≤k∧k≤56 * t+7∧56 * t≤r∧r≤56 * t+7∧k≠r:=by
  intro c h1 h2
  obtain ⟨a1,_,_,_,_,_,a7,a8⟩:=ug hp ht1 hk0 hk.2 h1
  obtain ⟨f,f7,e1,e2⟩:=Fa hp hpt ht a8
  rw [← h2] at a1 a7
  rw [a7,e1]
  exact ⟨k,56 * t+f,by rw [a1,hk'],rfl,by omega,by omega,by omega,by omega,by omega⟩
 refine au (P:=fun l:M'=>m∈l→_) (fun h1=>au (P:=fun l:M'=>m∈l→_) (fun h2 h=>?_) fun _ h=>?_) fun _=>au (P:=fun l:M'=>m∈l→_) (fun h2 h=>?_) fun _ h=>by cases h
 ·simp only [List.nil_append,List.mem_append,List.mem_singleton] at h
  rcases h with h | h
  ·exact key _ h1 h
  ·exact key _ h2 h
 ·simp only [List.nil_append,List.mem_singleton] at h
  exact key _ h1 h
 ·simp only [List.nil_append,List.mem_singleton] at h
  exact key _ h2 h
theorem Ag {p:Pos} {t:Nat} (hpt:p.aa=t) (ht:t≤1) {m:Mv} (hc:m.bS=true) {k r:Nat} (hk:m.az=k) (hr:m.to=r) (k0:56 * t≤k) (k7:k≤56 * t+7) (r0:56 * t≤r) (r7:r≤56 * t+7) (hkr:k≠r) :
  (gq p m).1=wr .i64 (wr .i64 (56 * wr .i64 p.aa)+(dF (pY p m)).1)∧(gq p m).2.1=wr .i64 (wr .i64 (56 * wr .i64 p.aa)+(dF (pY p m)).2)∧0≤(gq p m).1∧(gq p m).1<64∧0≤(gq p m).2.1∧(gq p m).2.1<64:=by
 have tw:wr .i64 (t:Int)=t:=aN (by omega) (by omega)
 have hb:=DX (p:=p) (by omega) (by omega) m
 have e145:gK p m=if r>k then 0 else 1:=by
  unfold gK
  rw [hpt,hc,hk,hr,n140 ht,aN (n:=(k:Int)) (by omega) (by omega),aN (n:=(r:Int)) (by omega) (by omega),aN (n:=(k:Int)-((56 * t:Nat):Int)) (by omega) (by omega),aN (n:=(r:Int)-((56 * t:Nat):Int)) (by omega) (by omega),
   decide_eq_false (show ¬ ((t:Int)>1) by omega),beq_eq_false_iff_ne.2 (show (k:Int)≠r by omega),decide_eq_false (show ¬ ((k:Int)-((56 * t:Nat):Int)<0) by omega),decide_eq_false (show ¬ ((k:Int)-((56 * t:Nat):Int)>7) by omega),decide_eq_false (show ¬ ((r:Int)-((56 * t:Nat):Int)<0) by omega),decide_eq_false (show ¬ ((r:Int)-((56 * t:Nat):Int)>7) by omega)]
  by_cases h:r>k
  ·rw [if_pos h,decide_eq_true (show (r:Int)>k by omega)];rfl
  ·rw [if_neg h,decide_eq_false (show ¬ (r:Int)>k by omega)];rfl
 have e164:pY p m=if r>k then 0 else 1:=by
  have d1:(wr .i8 ((k:Int).tdiv 8) != wr .i8 (wr .u8 (7 * (t:Int))))=false:=by
   rw [Int.tdiv_eq_ediv_of_nonneg (by omega),FI (by omega) (by omega),o6 (by omega) (by omega),FI (by omega) (by omega),bne_eq_false_iff_eq]
   omega
  have d2:(wr .i8 ((r:Int).tdiv 8) != wr .i8 (wr .u8 (7 * (t:Int))))=false:=by
   rw [Int.tdiv_eq_ediv_of_nonneg (by omega),FI (by omega) (by omega),o6 (by omega) (by omega),FI (by omega) (by omega),bne_eq_false_iff_eq]
   omega
  unfold pY
  rw [hpt,hc,hk,hr,d1,d2,decide_eq_false (show ¬ ((t:Int)>1) by omega),beq_eq_false_iff_ne.2 (show (k:Int)≠r by omega),decide_eq_false (show ¬ ((k:Int)<0) by omega),decide_eq_false (show ¬ ((k:Int)>63) by omega),decide_eq_false (show ¬ ((r:Int)<0) by omega),decide_eq_false (show ¬ ((r:Int)>63) by omega)]
  by_cases h:r>k
  ·rw [if_pos h,decide_eq_true (show (r:Int)>k by omega)];rfl
  ·rw [if_neg h,decide_eq_false (show ¬ (r:Int)>k by omega)];rfl
 have e':gK ⟨p.variant,p.ae,p.ab,p.af,p.aa,p.ai,p.ah,p.ag,p.half,p.full⟩ ⟨m.az,m.to,m.bP,m.aW,m.bS⟩=gK p m:=rfl
 have two:∀ s:Int,s=0∨s=1→gK p m=s→(gq p m).1=wr .i64 (wr .i64 (56 * wr .i64 p.aa)+(dF s).1)∧(gq p m).2.1=wr .i64 (wr .i64 (56 * wr .i64 p.aa)+(dF s).2):=by
  intro s hs e
  unfold gq
  rw [e',e,hpt,n140 ht]
  rcases hs with rfl | rfl<;>rcases (show t=0∨t=1 by omega) with rfl | rfl<;>exact ⟨by decide,by decide⟩
 obtain ⟨h1,h2⟩:=two (if r>k then 0 else 1) (by split<;>simp) e145
 rw [e164]
 exact ⟨h1,h2,hb⟩
theorem wC {t:Nat} (ht:t≤1) {k:Int} (k1:1≤k) (k6:k≤6):kI (t:Int) k=wr .u8 (wr .u8 (8 * (t:Int))+k):=by
 unfold kI
 rw [decide_eq_false (show ¬ ((t:Int)>1) by omega),decide_eq_false (show ¬ (k<1) by omega),decide_eq_false (show ¬ (k>6) by omega)]
 rfl
theorem zW {p:Pos} (hp:aO p) {m:Mv} (h:m∈mG p):(p.af.getD (scale 6 p.aa+scale 1 m.aW).toNat 0==0)=false∧p.variant=2:=by
 rw [rA hp.t0] at h
 revert h
 refine au (P:=fun l:M'=>m∈l→_) (fun _ h=>by cases h) fun _=>au (P:=fun l:M'=>m∈l→_) (fun _ h=>by cases h) fun hv h=>?_
 obtain ⟨k,_,h⟩:=List.mem_flatMap.1 h
 have v2:p.variant=2:=by
  have v0:=hp.v0
  have v1:=hp.v1
  obtain ⟨n,hn⟩:=Int.eq_ofNat_of_zero_le v0
  have:∀ v:Fin 256,qS v.val=true→v.val=2:=by decide +kernel
  have hv:qS p.variant=true:=by simpa using hv
  rw [hn] at hv
  have:=this ⟨n,by omega⟩ hv
  simp only at this
  omega
 refine ⟨?_,v2⟩
 have hd:m.aW=k:=by
  revert h
  unfold eW
  refine au (P:=fun l:M'=>m∈l→_) (fun _ h=>by cases h) fun _=>au (P:=fun l:M'=>m∈l→_) (fun _ h=>?_) fun _ h=>?_
  ·obtain ⟨s,_,h⟩:=List.mem_flatMap.1 h;simp at h;rw [h]
  ·obtain ⟨s,_,h⟩:=List.mem_flatMap.1 h;simp at h;rw [h]
 rw [hd]
 unfold eW at h
 cases hc:p.af.getD (scale 6 p.aa+scale 1 k).toNat 0==0 with
 | false=>rfl
 | true=>rw [hc] at h;cases h
theorem Ro {p:Pos} (hp:aO p) {m:Mv} (hm:m∈bL p):yr p m (bC p m)=true∧yM p m (bC p m)=bM p m p p m (bC p m):=by
 obtain ⟨hth,f0,f1,o0,o1,_,_,pr0,pr6⟩:=i7 hp hm
 obtain ⟨t,hpt,ht⟩:=gJ hp hth.1
 have ht39:=BB hp m
 have if1:=Br f0 f1
 have it1:=Br o0 o1
 rw [nk] at hm
 have body:m.aW=0→m.bS=false→yr p m (bC p m)=true∧yM p m (bC p m)=bM p m p p m (bC p m):=by
  intro hd hc
  have e93:(m.bP != 0)=true→wr .u8 (wr .u8 (8 * p.aa)+m.bP)=kI p.aa m.bP:=fun h=>by
   rw [bne_iff_ne] at h
   rw [hpt,wC ht (by omega) pr6]
  unfold yr yM bM
  rw [hc,hd,if1,it1]
  simp only [cond_false,Bool.true_and,show ((0:Int) != 0)=false from rfl]
  constructor
  ·refine aq (fun h=>?_) fun _=>?_
   ·have h:bC p m≥0:=by simpa using h
    rw [Br h ht39.2]
    simp only [Bool.true_and]
    exact aq (fun _=>rfl) fun _=>rfl
   ·exact aq (fun _=>rfl) fun _=>rfl
  ·cases o7:m.bP != 0 with
   | false=>rfl
   | true=>rw [e93 o7]
 rcases List.mem_append.1 hm with hm | hm
 ·rcases List.mem_append.1 hm with hm | hm
  ·obtain ⟨_,f,g,_,_,_,_,hd,hc,_⟩:=gD hp.v0 hm
   exact body hd hc
  ·obtain ⟨_,_,_,_,_,hc,hd,_⟩:=tJ hp hm
   obtain ⟨k,r,hk,hr,k0,k7,r0,r7,hkr⟩:=qp hp hpt ht hm
   obtain ⟨g1,g2,g3,g4,g5,g6⟩:=Ag hpt ht hc hk hr k0 k7 r0 r7 hkr
   unfold yr yM bM
   rw [hc,if1,it1,← g1,← g2,Br g3 g4,Br g5 g6]
   exact ⟨rfl,rfl⟩
 ·obtain ⟨_,_,_,_,_,hc,d1,d5,_⟩:=lr hp.t0 hm
  obtain ⟨pk,_⟩:=zW hp hm
  have e147:qV p.aa m.aW=true:=by
   unfold qV
   rw [decide_eq_true (show p.aa≤1 by omega),decide_eq_true (show m.aW≥1 by omega),decide_eq_true (show m.aW≤5 by omega)]
   rfl
  have e92:jh p p.aa m.aW=(⟨p.variant,p.ae,p.ab,p.af.set (scale 6 p.aa+scale 1 m.aW).toNat (wr .u8 (p.af.getD (scale 6 p.aa+scale 1 m.aW).toNat 0-1)),p.aa,p.ai,p.ah,p.ag,p.half,p.full⟩,true):=by
   unfold jh
   rw [e147,pk]
   rfl
  have hd:(m.aW != 0)=true:=by rw [bne_iff_ne];omega
  have i2:(decide (0≤p.aa)&&decide (p.aa<Int.ofNat 2))=true:=by simp;omega
  have i6:(decide (0≤m.aW)&&decide (m.aW<Int.ofNat 6))=true:=by simp;omega
  unfold yr yM bM
  rw [hc,if1,it1,hd,e92,i2,i6]
  refine ⟨rfl,?_⟩
  simp only [cond_false,cond_true]
  rw [hpt,wC ht (by omega) (by omega)]
theorem vE {R:Type} {ok:BitVec 64×Int→Bool} {st:BitVec 64×Int→aI (BitVec 64×Int) R} (P:Nat→Bool) (fin:R→BitVec 64)
  (h1:∀ (o:BitVec 64) (n:Nat),n<64→ok (o,n)=true∧st (o,n)=.go ((bif P n then o|||1#64 <<< n else o),(n:Int)+1)) (h2:∀ o,ok (o,64)=true∧∃ r,st (o,64)=.out r∧fin r=o) :
  ∃ r,da (fun x=>bif ok x then st x else .bad) many (0#64,0)=some r∧∀ i,i<64→(fin r).getLsbD i=P i:=by
 refine bh (Q:=fun r=>∀ i,i<64→(fin r).getLsbD i=P i) (I:=fun x=>∃ n:Nat,n≤64∧x.2=(n:Int)∧∀ i,i<64→x.1.getLsbD i=(decide (i<n)&&P i)) (μ:=fun x=>(64-x.2).toNat) ?_ _ ⟨0,by omega,rfl,fun i hi=>by simp⟩ (by simp)
 rintro ⟨o,m⟩ ⟨n,hn,hm,h⟩
 simp only at hm h
 subst hm
 by_cases hc:n<64
 ·obtain ⟨k1,k2⟩:=h1 o n hc
  refine ⟨k1,?_⟩
  rw [k2]
  refine ⟨⟨n+1,by omega,by simp,fun i hi=>?_⟩,by dsimp only;omega⟩
  show (bif P n then o|||1#64 <<< n else o).getLsbD i=_
  cases hp:P n with
  | true =>
   rw [cond_true,BitVec.getLsbD_or,h i hi,fP hi]
   by_cases e:i=n
   ·subst e;rw [hp];simp
   ·rw [show decide (i<n+1)=decide (i<n) by rw [decide_eq_decide];omega]
    simp [e]
  | false =>
   rw [cond_false,h i hi]
   by_cases e:i=n
   ·subst e;rw [hp];simp
   ·rw [show decide (i<n+1)=decide (i<n) by rw [decide_eq_decide];omega]
 ·have:n=64:=by omega
  subst this
  obtain ⟨k1,r,k2,k3⟩:=h2 o
  refine ⟨k1,?_⟩
  rw [show ((o,((64:Nat):Int)):BitVec 64×Int)=(o,64) from rfl,k2]
  intro i hi
  rw [k3,h i hi]
  simp [hi]
theorem wW (a b:Int):(a==b)=decide (a=b):=rfl
theorem C7 (x:BitVec 64) {n:Int} (h0:0≤n) (h1:n<64):B0 x n=x.getLsbD n.toNat:=by
 unfold B0
 rw [cP h0 (by omega),AJ _ (by omega)]
noncomputable section
variable {p q:Pos} (hp:aO p) {m:Mv}
include hp
theorem afc (q':Pos) {d:Int} (f0:0≤m.az) (f1:m.az<64):∃ r,eZ d p q' m (0#64,0)=some r∧∀ i:Nat,i<64→r.1.getLsbD i=(p.ab.getLsbD i&&((i:Int) != d&&(i:Int) != m.az)):=by
 refine vE (fin:=fun r:BitVec 64×Int×Bool=>r.1) (fun i=>p.ab.getLsbD i&&((i:Int) != d&&(i:Int) != m.az)) (fun o n hn=>⟨rfl,?_⟩) fun o=>⟨rfl,_,rfl,rfl⟩
 unfold Kj
 dsimp only
 rw [decide_eq_true (show (n:Int)<64 by omega),C7 _ (by omega) (by omega),Int.toNat_natCast,aN (n:=(n:Int)+1) (by omega) (by omega),aN (n:=m.az) (by omega) (by omega),cP (by omega) (by omega),Int.toNat_natCast]
 cases p.ab.getLsbD n<;>cases ((n:Int) != d)<;>cases ((n:Int) != m.az)<;>rfl
theorem FM (q':Pos) {d:Int} (d0 : -1≤d) (d1:d<64) (f0:0≤m.az) (f1:m.az<64):(eZ d p q' m (0#64,0)).isSome=true∧((eZ d p q' m (0#64,0)).getD default).1=bif decide (d≥0) then p.ab &&& ~~~(1#64 <<< (BitVec.ofInt 64 d).toNat) &&& ~~~(1#64 <<< (BitVec.ofInt 64 m.az).toNat) else p.ab &&& ~~~(1#64 <<< (BitVec.ofInt 64 m.az).toNat):=by
 obtain ⟨h1,h2⟩:=aM (afc hp q' (d:=d) f0 f1)
 refine ⟨h1,BitVec.eq_of_getLsbD_eq fun i hi=>?_⟩
 rw [h2 i hi]
 have ef:(i:Int)=m.az ↔ i=m.az.toNat:=by omega
 by_cases hd:d≥0
 ·have ed:(i:Int)=d ↔ i=d.toNat:=by omega
  rw [decide_eq_true hd,cond_true,BitVec.getLsbD_and,BitVec.getLsbD_and,BitVec.getLsbD_not,BitVec.getLsbD_not,cP hd (by omega),cP f0 (by omega),fP hi,fP hi]
  simp only [bne,wW,ed,ef,hi,decide_true,Bool.true_and,Bool.and_assoc]
 ·have ed:((i:Int) != d)=true:=by rw [bne_iff_ne];omega
  rw [decide_eq_false hd,cond_false,BitVec.getLsbD_and,BitVec.getLsbD_not,cP f0 (by omega),fP hi,ed]
  simp only [bne,wW,ef,hi,decide_true,Bool.true_and]
theorem Fh (hk:dz p q) (hpr:q.ab=p.ab) (hm:m∈bL p):xX p q m (bC p m)=true∧Av p q m (bC p m)=b7 p m q p m (bC p m):=by
 obtain ⟨hth,f0,f1,o0,o1,_,_,pr0,pr6⟩:=i7 hp hm
 obtain ⟨t,hpt,ht⟩:=gJ hp hth.1
 have ht39:=BB hp m
 have hqt:q.aa=p.aa:=hk.t
 have hmk:=fun q':Pos=>FM (m:=m) hp q' ht39.1 ht39.2 f0 f1
 by_cases hv:p.variant=2
 ·have hv2:(q.variant != 2)=false:=by rw [hk.v,hv];rfl
  have hv1:(p.variant != 2)=false:=by rw [hv];rfl
  cases hd:m.aW != 0 with
  | true=>unfold xX Av b7;rw [hv2,hv1,hd];exact ⟨rfl,rfl⟩
  | false =>
   cases hc:m.bS with
   | true =>
    have hm':m∈eL p:=by
     rw [nk] at hm
     rcases List.mem_append.1 hm with hm | hm
     ·rcases List.mem_append.1 hm with hm | hm
      ·obtain ⟨_,_,_,_,_,_,_,_,h,_⟩:=gD hp.v0 hm;rw [h] at hc;cases hc
      ·exact hm
     ·obtain ⟨_,_,_,_,_,h,_⟩:=lr hp.t0 hm;rw [h] at hc;cases hc
    obtain ⟨k,r,hk',hr,k0,k7,r0,r7,hkr⟩:=qp hp hpt ht hm'
    obtain ⟨g1,g2,g3,g4,g5,g6⟩:=Ag hpt ht hc hk' hr k0 k7 r0 r7 hkr
    unfold xX Av b7
    rw [hv2,hv1,hd,hc,← g2,← hpr]
    refine ⟨rfl,?_⟩
    simp only [cond_false,cond_true]
    unfold B0
    rw [aN (n:=m.to) (by omega) (by omega)]
   | false =>
    have i2:decide (0≤p.aa)=true:=decide_eq_true hp.t0
    have i3:decide (p.aa<Int.ofNat 2)=true:=decide_eq_true (by show p.aa<2;omega)
    have n119:∀ x:Int,B0 p.ab x=(p.ab >>> (BitVec.ofInt 64 x).toNat&&&1#64==1#64):=fun x=>rfl
    by_cases hd0:bC p m≥0
    ·have dt:decide (bC p m≥0)=true:=decide_eq_true hd0
     have hbi:=eH hp (scale 1 (bC p m)).toNat
     obtain ⟨e89,_,_,_,_⟩:=qX hbi.1 hbi.2
     have i64:decide (0≤bC p m)=true:=decide_eq_true hd0
     have i65:decide (bC p m<Int.ofNat 64)=true:=decide_eq_true ht39.2
     have hadd:∀ k:Int,bk q q.aa k=bif decide (k≥1) then (bif decide (k≤5) then (bif decide (q.af.getD (scale 6 q.aa+scale 1 k).toNat 0<255) then ⟨q.variant,q.ae,q.ab,q.af.set (scale 6 q.aa+scale 1 k).toNat (wr .u8 (q.af.getD (scale 6 q.aa+scale 1 k).toNat 0+1)),q.aa,q.ai,q.ah,q.ag,q.half,q.full⟩ else q) else q) else q:=fun k=>by
      unfold bk qV
      rw [decide_eq_true (show q.aa≤1 by rw [hqt];omega)]
      cases decide (k≥1)<;>cases decide (k≤5)<;>cases decide (q.af.getD (scale 6 q.aa+scale 1 k).toNat 0<255)<;>rfl
     have ik:∀ k:Int,decide (k≥1)=true→decide (k≤5)=true→decide (0≤k)=true∧decide (k<Int.ofNat 6)=true:=fun k h1 h2=>by
      simp only [decide_eq_true_eq] at h1 h2 ⊢
      exact ⟨by omega,by show k<6;omega⟩
     have mk:=fun q':Pos=>(hmk q').2
     simp only [dt,cond_true] at mk
     have m1:=fun q':Pos=>(hmk q').1
     have key:∀ (k:Int) (c1 c2:Bool),True:=fun _ _ _=>trivial
     rw [← hqt] at i2 i3
     unfold xX Av b7
     rw [hv2,hv1,hd,hc,dt]
     simp only [← hqt,e89,cond_false,cond_true,mk,m1,hadd,n119,i2,i3,i64,i65,aN (n:=m.az) (by omega) (by omega),Bool.true_and,Bool.and_true,show decide ((1:Int)≥1)=true from rfl,show decide ((1:Int)≤5)=true from rfl,show Int.ofNat 1=(1:Int) from rfl]
     constructor
     ·generalize bw (p.ae.getD (scale 1 (bC p m)).toNat 0)=k
      have go:decide (k≥1)=true→decide (k≤5)=true→(decide (0≤k)&&decide (k<Int.ofNat 6))=true:=fun h1 h2=>by
       simp only [decide_eq_true_eq,E'] at h1 h2 ⊢
       exact ⟨by omega,by show k<6;omega⟩
      have fin:decide (k≥1)=true→decide (k≤5)=true→∀ c:Bool,(decide (0≤k)&&decide (k<Int.ofNat 6)&&bif c then decide (0≤k)&&decide (k<Int.ofNat 6)&&(decide (0≤k)&&decide (k<Int.ofNat 6)) else true)=true:=fun h1 h2 c=>by
       rw [go h1 h2]
       cases c<;>rfl
      refine aq (fun _=>aq (fun _=>aq (fun _=>rfl) fun _=>rfl) fun _=>?_) fun _=>?_
      ·exact aq (fun a1=>aq (fun a2=>fin a1 a2 _) fun _=>rfl) fun _=>rfl
      ·exact aq (fun a1=>aq (fun a2=>fin a1 a2 _) fun _=>rfl) fun _=>rfl
     ·generalize (p.ab >>> (BitVec.ofInt 64 (bC p m)).toNat&&&1#64==1#64)=c1
      generalize (p.ae.getD (scale 1 (bC p m)).toNat 0 != 0)=c2
      generalize (m.bP != 0)=c3
      generalize (p.ab >>> (BitVec.ofInt 64 m.az).toNat&&&1#64==1#64)=c4
      generalize bw (p.ae.getD (scale 1 (bC p m)).toNat 0)=k
      rw [← hpr]
      cases c1<;>cases c2<;>cases c3<;>cases c4<;>cases decide (k≥1)<;>cases decide (k≤5)<;>cases decide (q.af.getD (scale 6 q.aa+scale 1 k).toNat 0<255)<;>cases decide (q.af.getD (scale 6 q.aa+scale 1 1).toNat 0<255)<;>rfl
    ·have dt:decide (bC p m≥0)=false:=decide_eq_false hd0
     have mk:=fun q':Pos=>(hmk q').2
     simp only [dt,cond_false] at mk
     have m1:=fun q':Pos=>(hmk q').1
     unfold xX Av b7
     rw [hv2,hv1,hd,hc,dt]
     simp only [cond_false,mk,m1,n119,aN (n:=m.az) (by omega) (by omega)]
     refine ⟨rfl,?_⟩
     rw [← hpr]
 ·have hv2:(q.variant != 2)=true:=by rw [bne_iff_ne,hk.v];exact hv
  have hv1:(p.variant != 2)=true:=by rw [bne_iff_ne];exact hv
  unfold xX Av b7
  rw [hv2,hv1]
  exact ⟨rfl,rfl⟩
end
theorem Ce:∀ a b:Fin 64,iH a.val b.val=(cX b.val).getLsbD a.val∧iH a.val a.val=false:=by decide +kernel
theorem Eh:∀ v:Fin 256,(fS v.val&&!dn 0 1 v.val&&!dn 1 1 v.val)=(bw v.val != 0&&bw v.val != 1):=by decide +kernel
theorem Th {q:Pos} (hq:aO q) {b:Int} (b0:0≤b) (b1:b<64):FP q b=true∧LQ q b=qd q b:=by
 obtain ⟨n,rfl⟩:=Int.eq_ofNat_of_zero_le b0
 have hn:n<64:=by omega
 have hl:∃ r,sf (n:Int) q (0#64,0)=some r∧∀ i:Nat,i<64→r.1.getLsbD i=(decide (i=n) || (iH i n&&(bw (q.ae.getD i 0) != 0&&bw (q.ae.getD i 0) != 1))):=by
  refine vE (fin:=fun r:BitVec 64×Int×Bool=>r.1) (fun i=>decide (i=n) || (iH i n&&(bw (q.ae.getD i 0) != 0&&bw (q.ae.getD i 0) != 1))) (fun o i hi=>?_) fun o=>⟨rfl,_,rfl,rfl⟩
  unfold Cw KA
  dsimp only
  rw [decide_eq_true (show (i:Int)<64 by omega),decide_eq_true (show (n:Int)≥0 by omega),decide_eq_true (show (n:Int)<64 by omega),decide_eq_true (show (0:Int)≤i by omega),show ((i:Int)==n)=decide (i=n) by rw [wW,decide_eq_decide];omega,gR,Int.toNat_natCast,aN (n:=(i:Int)+1) (by omega) (by omega),cP (by omega) (by omega),Int.toNat_natCast]
  refine ⟨rfl,?_⟩
  cases decide (i=n)<;>cases iH i n<;>cases (bw (q.ae.getD i 0) != 0)<;>cases (bw (q.ae.getD i 0) != 1)<;>rfl
 obtain ⟨h1,h2⟩:=aM hl
 refine ⟨ao h1 fun _=>rfl,BitVec.eq_of_getLsbD_eq fun i hi=>?_⟩
 have e1:(LQ q n).getLsbD i=(decide (i=n) || (iH i n&&(bw (q.ae.getD i 0) != 0&&bw (q.ae.getD i 0) != 1))):=h2 i hi
 rw [e1]
 unfold qd
 rw [decide_eq_false (show ¬ ((n:Int)<0) by omega),decide_eq_false (show ¬ ((n:Int)≥64) by omega)]
 simp only [cond_false,BitVec.getLsbD_or,BitVec.getLsbD_and,BitVec.getLsbD_not,hi,decide_true,Bool.true_and]
 rw [show (⟨q.variant,q.ae,q.ab,q.af,q.aa,q.ai,q.ah,q.ag,q.half,q.full⟩:Pos)=q from rfl,kK _ hi,cm _ _ _ hi,cm _ _ _ hi,cP (by omega) (by omega),Int.toNat_natCast,fP hi,show wr .u8 (0+1)=1 from rfl]
 have hb:=hQ (d:=0) hq.b0 (by omega) i
 obtain ⟨v,hv⟩:=Int.eq_ofNat_of_zero_le hb.1
 have k1:=Eh ⟨v,by omega⟩
 have k2:=(Ce ⟨i,hi⟩ ⟨n,hn⟩).1
 simp only at k1 k2
 rw [← hv] at k1
 rw [← k1,k2]
 cases decide (i=n)<;>cases (cX (n:Int)).getLsbD i<;>cases fS (q.ae.getD i 0)<;>cases dn 0 1 (q.ae.getD i 0)<;>cases dn 1 1 (q.ae.getD i 0)<;>rfl
def wb (q:Pos) (B:List Int):Pos:=⟨q.variant,B,q.ab,q.af,q.aa,q.ai,q.ah,q.ag,q.half,q.full⟩
theorem Jk {A B:List Int} {n:Nat} (ha:A.length=n) (hb:B.length=n) (h:∀ i,i<n→A.getD i 0=B.getD i 0):A=B:=by
 refine List.ext_getElem (by omega) fun i h1 h2=>?_
 have:=h i (by omega)
 rw [List.getD_eq_getElem?_getD,List.getD_eq_getElem?_getD,I' h1,I' h2] at this
 exact this
theorem ajE {q:Pos} (hq:aO q) (d:Int) (bits:BitVec 64) (p:Pos) (m:Mv):∃ r,lh d bits p m (0,q)=some r∧∃ B,r.2.2=wb q B∧B.length=64∧∀ i,i<64→B.getD i 0=bif bits.getLsbD i then 0 else q.ae.getD i 0:=by
 refine bh (Q:=fun r:Int×Bool×Pos=>∃ B,r.2.2=wb q B∧B.length=64∧∀ i,i<64→B.getD i 0=bif bits.getLsbD i then 0 else q.ae.getD i 0) (I:=fun x:Int×Pos=>∃ n:Nat,n≤64∧x.1=n∧∃ B,x.2=wb q B∧B.length=64∧∀ i,i<64→B.getD i 0=bif decide (i<n)&&bits.getLsbD i then 0 else q.ae.getD i 0) (μ:=fun x=>(64-x.1).toNat) ?_ _ ⟨0,by omega,rfl,q.ae,rfl,hq.bl,fun i hi=>by simp⟩ (by simp)
 rintro ⟨x,q'⟩ ⟨n,hn,hx,B,hB,hl,h⟩
 simp only at hx hB
 subst hx hB
 unfold CP GB
 dsimp only
 by_cases hc:n<64
 ·rw [decide_eq_true (show (n:Int)<64 by omega),C7 _ (by omega) (by omega),Int.toNat_natCast,aN (n:=(n:Int)+1) (by omega) (by omega),gR,Int.toNat_natCast,decide_eq_true (show (0:Int)≤n by omega)]
  have e64:decide ((n:Int)<Int.ofNat 64)=true:=decide_eq_true (by show (n:Int)<64;omega)
  rw [e64]
  cases hb:bits.getLsbD n with
  | true =>
   refine ⟨rfl,⟨n+1,by omega,by simp,B.set n 0,rfl,by simp [hl],fun i hi=>?_⟩,by dsimp only;omega⟩
   rw [F9 (by rw [hl];exact hc)]
   by_cases e:n=i
   ·subst e;rw [if_pos rfl,hb];simp
   ·rw [if_neg e,h i hi,show decide (i<n+1)=decide (i<n) by rw [decide_eq_decide];omega]
  | false =>
   refine ⟨rfl,⟨n+1,by omega,by simp,B,rfl,hl,fun i hi=>?_⟩,by dsimp only;omega⟩
   rw [h i hi]
   by_cases e:n=i
   ·subst e;rw [hb];simp
   ·rw [show decide (i<n+1)=decide (i<n) by rw [decide_eq_decide];omega]
 ·have:n=64:=by omega
  subst this
  refine ⟨rfl,B,rfl,hl,fun i hi=>?_⟩
  rw [h i hi,decide_eq_true hi,Bool.true_and]
theorem PY {q:Pos} (hq:aO q) {l:List Int} (hl0:l.length≤64) (hin:∀ s∈l,0≤s∧s<64) (a b:Pos) (c d:Mv) (e:Int):∃ r,qi l (Int.ofNat l.length) a c b d e (0,q)=some r∧∃ B,r.2.2=wb q B∧B.length=64∧∀ i:Nat,i<64→B.getD i 0=bif decide ((i:Int)∈l) then 0 else q.ae.getD i 0:=by
 refine bh (Q:=fun r:Int×Bool×Pos=>∃ B,r.2.2=wb q B∧B.length=64∧∀ i:Nat,i<64→B.getD i 0=bif decide ((i:Int)∈l) then 0 else q.ae.getD i 0) (I:=fun x:Int×Pos=>∃ n:Nat,n≤l.length∧x.1=n∧∃ B,x.2=wb q B∧B.length=64∧∀ i:Nat,i<64→B.getD i 0=bif decide ((i:Int)∈l.take n) then 0 else q.ae.getD i 0) (μ:=fun x=>(l.length-x.1).toNat) ?_ _ ⟨0,by omega,rfl,q.ae,rfl,hq.bl,fun i hi=>by simp⟩ (by simp;omega)
 rintro ⟨x,q'⟩ ⟨n,hn,hx,B,hB,hl,h⟩
 simp only at hx hB
 subst hx hB
 unfold CB Hi
 dsimp only
 by_cases hc:n<l.length
 ·have hs:=hin _ (cS (d:=default) hc)
  have ht:l.take (n+1)=l.take n++[l.getD n default]:=by
   rw [List.take_add_one,List.getD_eq_getElem?_getD,I' hc];rfl
  rw [decide_eq_true (show (n:Int)<Int.ofNat l.length from Int.ofNat_lt.2 hc),decide_eq_true (show (0:Int)≤n by omega),Int.toNat_natCast,aN (n:=(n:Int)+1) (by omega) (by omega),gR,decide_eq_true hs.1,decide_eq_true (show l.getD n default<Int.ofNat 64 from hs.2)]
  refine ⟨rfl,⟨n+1,by omega,by simp,B.set (l.getD n default).toNat 0,rfl,by simp [hl],fun i hi=>?_⟩,by dsimp only;omega⟩
  rw [F9 (by rw [hl];omega),ht]
  by_cases e:(l.getD n default).toNat=i
  ·rw [if_pos e,decide_eq_true (show (i:Int)∈l.take n++[l.getD n default] by rw [List.mem_append,List.mem_singleton];right;omega)]
   rfl
  ·rw [if_neg e,h i hi]
   congr 1
   rw [decide_eq_decide,List.mem_append,List.mem_singleton]
   constructor
   ·exact .inl
   ·rintro (h | h)
    ·exact h
    ·omega
 ·rw [decide_eq_false (show ¬ ((n:Int)<Int.ofNat l.length) from fun h=>hc (Int.ofNat_lt.1 h))]
  have:n=l.length:=by omega
  subst this
  refine ⟨rfl,B,rfl,hl,fun i hi=>?_⟩
  rw [h i hi,List.take_length]
theorem Oc {p q:Pos} (hk:dz p q) {m:Mv} (o0:0≤m.to) (o1:m.to<64) (d:Int):FP q (wr .i64 m.to)=true∧(lh d (LQ q (wr .i64 m.to)) p m (0,q)).isSome=true ∧
  (bif p.variant==3 then (bif decide (d≥0) then ((lh d (LQ q (wr .i64 m.to)) p m (0,q)).getD default).2.2 else q) else q)=cB p m q p m d:=by
 have hq:=hk.bW
 have wt:wr .i64 m.to=m.to:=aN (by omega) (by omega)
 obtain ⟨k1,k2⟩:=Th hq o0 o1
 obtain ⟨a1,B,a2,a3,a4⟩:=aM (ajE hq d (LQ q m.to) p m)
 obtain ⟨b1,C,b2,b3,b4⟩:=aM (PY hq (l:=fQ (qd q m.to)) (by rw [dJ];exact fm _ _) (fun s hs=>by rw [dJ] at hs;exact lJ hs) p p m m d)
 rw [wt]
 refine ⟨k1,a1,?_⟩
 unfold cB
 rw [wt,a2,b2,hk.v]
 have e:B=C:=Jk a3 b3 fun i hi=>by
  rw [a4 i hi,b4 i hi,k2]
  congr 1
  rw [dJ]
  cases hb:(qd q m.to).getLsbD i with
  | true=>exact (decide_eq_true (nI.2 ⟨i,hi,hb,rfl⟩)).symm
  | false =>
   refine (decide_eq_false fun h=>?_).symm
   obtain ⟨j,_,hj,he⟩:=nI.1 h
   have:j=i:=by omega
   subst this
   rw [hb] at hj;cases hj
 rw [e]
 by_cases hv:p.variant=3
 ·rw [hv]
  by_cases hd:d<0
  ·rw [decide_eq_true hd,decide_eq_false (show ¬ d≥0 by omega)];rfl
  ·rw [decide_eq_false hd,decide_eq_true (show d≥0 by omega)];rfl
 ·rw [beq_eq_false_iff_ne.2 hv,bne_iff_ne.2 hv];rfl
theorem rZ {X R:Type} {f g:X→aI X R} (I:X→Prop) (h:∀ x,I x→f x=g x∧∀ y,f x=.go y→I y):∀ (n:Nat) (x:X),I x→da f n x=da g n x
 | 0,_,_=>rfl
 | n+1,x,hx=>by
  obtain ⟨h1,h2⟩:=h x hx
  rw [da,da,← h1]
  cases hf:f x with
  | go y=>exact rZ I h n y (h2 y hf)
  | out r=>rfl
  | bad=>rfl
def wk (q:Pos) (R:List Int):Pos:=⟨q.variant,q.ae,q.ab,q.af,q.aa,R,q.ah,q.ag,q.half,q.full⟩
theorem Wh {q:Pos} (hq:aO q) {R:List Int} (hl:R.length=4) (hr:∀ x∈R,-128≤x∧x≤127):aO (wk q R) :=
 ⟨hq.v0,hq.v1,hq.bl,hq.b0,hq.kl,hq.k0,hq.t0,hq.t1,hl,hr,hq.p0,hq.p1,hq.cl,hq.c0,hq.h0,hq.f0⟩
def C3 (q:Pos) (c:Nat) (k s t:Int) (m:Mv):Bool :=
 decide (k<((56 * c:Nat):Int)) || (decide (k>((56 * c+7:Nat):Int)) || (!dn c 4 (q.ae.getD s.toNat 0) || (t==s || (m.aW==0&&m.az==s))))
noncomputable section
variable {q:Pos} (hq:aO q) {c:Nat} (hc:c≤1) {k:Int} (k0 : -1≤k) (k1:k<64) {m:Mv} (f0 : -128≤m.az∧m.az≤127) (t:Int) (p:Pos)
include hq hc k0 k1 f0
theorem Bd (R:List Int) (hl:R.length=4) (hr:∀ x∈R,-128≤x∧x≤127) {n:Nat} (hn:n<2) (l:List Int) (hll:l.getD n 0=R.getD (2 * c+n) 0) (a b:Pos) (m1:Mv) :
  (bif w6 (c:Int) k l a m1 b m t (n,wk q R) then xS (c:Int) k l a m1 b m t (n,wk q R) else .bad)=.go ((n:Int)+1,bif (decide (0≤R.getD (2 * c+n) 0)&&decide (R.getD (2 * c+n) 0≤7))&&C3 q c k (((56 * c:Nat):Int)+R.getD (2 * c+n) 0) t m then wk q (R.set (2 * c+n) (-1)) else wk q R) ∧
  (bif xr t (c:Int) ((56 * c:Nat):Int) k p m (n,wk q R) then A3 t (c:Int) ((56 * c:Nat):Int) k p m (n,wk q R) else .bad)=.go ((n:Int)+1,bif (decide (0≤R.getD (2 * c+n) 0)&&decide (R.getD (2 * c+n) 0≤7))&&C3 q c k (((56 * c:Nat):Int)+R.getD (2 * c+n) 0) t m then wk q (R.set (2 * c+n) (-1)) else wk q R):=by
 have hf:=hQ (d:=0) hr (by omega) (2 * c+n)
 have hsc:(scale 2 (c:Int)+scale 1 (n:Int)).toNat=2 * c+n:=by unfold scale;simp;omega
 have i1:decide ((0:Int)≤c)=true:=decide_eq_true (by omega)
 have i2:decide ((c:Int)<Int.ofNat 2)=true:=decide_eq_true (by show (c:Int)<2;omega)
 have i3:decide ((0:Int)≤n)=true:=decide_eq_true (by omega)
 have i4:decide ((n:Int)<Int.ofNat 2)=true:=decide_eq_true (by show (n:Int)<2;omega)
 have i5:decide ((n:Int)<2)=true:=decide_eq_true (by omega)
 have w1:wr .i64 ((n:Int)+1)=n+1:=aN (by omega) (by omega)
 have wc:wr .i64 (c:Int)=c:=aN (by omega) (by omega)
 have w56:wr .i64 (56 * (c:Int))=((56 * c:Nat):Int):=by rw [aN (by omega) (by omega)];omega
 have w7:wr .i64 (((56 * c:Nat):Int)+7)=((56 * c+7:Nat):Int):=by rw [aN (by omega) (by omega)];omega
 have hrk:(wk q R).ai.getD (2 * c+n) 0=R.getD (2 * c+n) 0:=rfl
 unfold w6 xS xr A3
 dsimp only
 rw [hsc,Int.toNat_natCast,hll,hrk,i1,i2,i3,i4,i5,w1,wc,w56,w7]
 generalize hfe:R.getD (2 * c+n) 0=f at hf ⊢
 rw [aN (n:=f) (by omega) (by omega),aN (n:=m.az) (by omega) (by omega)]
 by_cases h0:f<0
 ·rw [decide_eq_true h0,decide_eq_false (show ¬ (0≤f) by omega)]
  exact ⟨rfl,rfl⟩
 ·by_cases h7:f>7
  ·rw [decide_eq_false h0,decide_eq_true h7,decide_eq_false (show ¬ (f≤7) by omega),Bool.and_false]
   exact ⟨rfl,rfl⟩
  ·rw [decide_eq_false h0,decide_eq_false h7,decide_eq_true (show 0≤f by omega),decide_eq_true (show f≤7 by omega),aN (n:=((56 * c:Nat):Int)+f) (by omega) (by omega)]
   obtain ⟨s,hs⟩:=Int.eq_ofNat_of_zero_le (show 0≤((56 * c:Nat):Int)+f by omega)
   have s49:s<64:=by omega
   rw [hs,gR,Int.toNat_natCast,decide_eq_true (show (0:Int)≤s by omega),decide_eq_true (show (s:Int)<Int.ofNat 64 by show (s:Int)<64;omega)]
   obtain ⟨o157,e157⟩:=kj (Wh hq hl hr) (c:=(c:Int)) (k:=4) (by omega) (by omega) (by omega) s49
   have hb:=eH hq s
   have hrook:((wk q R).ae.getD s 0 != kI (c:Int) 4)=!dn c 4 (q.ae.getD s 0):=by
    obtain ⟨v,hv⟩:=Int.eq_ofNat_of_zero_le hb.1
    have:=(sV ⟨c,by omega⟩ ⟨v,by omega⟩).1
    simp only at this
    rw [hv,this,wC hc (by omega) (by omega),show (wk q R).ae=q.ae from rfl,hv,o6 (n:=8 * (c:Int)) (by omega) (by omega),o6 (by omega) (by omega)]
    rfl
   have hking:(bif decide (k<0) then true else (wr .i64 (k.tdiv 8) != wr .i64 (7 * (c:Int))))=(decide (k<((56 * c:Nat):Int)) || decide (k>((56 * c+7:Nat):Int))):=by
    by_cases hk:k<0
    ·rw [decide_eq_true hk,decide_eq_true (show k<((56 * c:Nat):Int) by omega)];rfl
    ·rw [decide_eq_false hk,Int.tdiv_eq_ediv_of_nonneg (by omega),aN (by omega) (by omega),aN (by omega) (by omega),cond_false,Bool.eq_iff_iff]
     simp only [bne_iff_ne,Bool.or_eq_true,decide_eq_true_eq]
     omega
   rw [o157,e157,hrook,show (wk q R).ae.getD s 0=q.ae.getD s 0 from rfl]
   unfold C3
   rw [Int.toNat_natCast]
   revert hking
   cases decide (k<0)<;>cases (wr .i64 (k.tdiv 8) != wr .i64 (7 * (c:Int)))<;>cases decide (k<((56 * c:Nat):Int))<;>cases decide (k>((56 * c+7:Nat):Int))<;>intro hking <;>
    first
    | (exfalso;revert hking;decide)
    | (cases dn (c:Int) 4 (q.ae.getD s 0)<;>cases (t==(s:Int))<;>cases (m.aW==0)<;>cases (m.az==(s:Int))<;>exact ⟨rfl,rfl⟩)
theorem Jb (a b:Pos) (m1:Mv):lQ (c:Int) k (List.take 2 (List.drop (scale 2 (c:Int)).toNat q.ai)) a m1 b m t (0,q)=tj t (c:Int) ((56 * c:Nat):Int) k p m (0,q):=by
 have hsl:∀ d,d<2→(List.take 2 (List.drop (scale 2 (c:Int)).toNat q.ai)).getD d 0=q.ai.getD (2 * c+d) 0:=fun d hd=>by
  rw [List.getD_eq_getElem?_getD,List.getD_eq_getElem?_getD,List.getElem?_take_of_lt hd,List.getElem?_drop,show (scale 2 (c:Int)).toNat=2 * c by unfold scale;simp;omega]
 refine rZ (fun x:Int×Pos=>∃ n:Nat,n≤2∧x.1=(n:Int)∧∃ R,x.2=wk q R∧R.length=4∧(∀ x∈R,-128≤x∧x≤127)∧∀ d,n≤d→d<2→R.getD (2 * c+d) 0=q.ai.getD (2 * c+d) 0) (fun x hx=>?_) many (0,q) ⟨0,by omega,rfl,q.ai,rfl,hq.rl,hq.r0,fun _ _ _=>rfl⟩
 obtain ⟨x1,x2⟩:=x
 obtain ⟨n,hn,h1,R,h2,hl,hr,hR⟩:=hx
 simp only at h1 h2
 subst h1 h2
 by_cases h2:n<2
 ·obtain ⟨e1,e2⟩:=Bd hq hc k0 k1 f0 t p R hl hr h2 (List.take 2 (List.drop (scale 2 (c:Int)).toNat q.ai)) (by rw [hsl n h2,hR n (by omega) h2]) a b m1
  refine ⟨e1.trans e2.symm,fun y hy=>?_⟩
  rw [e1] at hy
  simp only [aI.go.injEq] at hy
  subst hy
  refine ⟨n+1,by omega,by simp,?_⟩
  cases (decide (0≤R.getD (2 * c+n) 0)&&decide (R.getD (2 * c+n) 0≤7))&&C3 q c k (((56 * c:Nat):Int)+R.getD (2 * c+n) 0) t m with
  | false=>exact ⟨R,rfl,hl,hr,fun d h1 h2=>hR d (by omega) h2⟩
  | true=>exact ⟨R.set (2 * c+n) (-1),rfl,by simp [hl],ui hr (by omega) _,fun d h1 h2=>by
    rw [F9 (by omega),if_neg (by omega)]
    exact hR d (by omega) h2⟩
 ·have:n=2:=by omega
  subst this
  exact ⟨rfl,fun y hy=>by cases hy⟩
end
noncomputable section
variable {p q:Pos} (hp:aO p) (hk:dz p q) {m:Mv} (f0 : -128≤m.az∧m.az≤127) (t:Int)
include hp hk f0
theorem yW (a b:Pos) (m1:Mv) {q':Pos} (hq':dz p q'):(dE a m1 b m t (0,q'))=ly t p m (0,q'):=by
 refine rZ (fun x:Int×Pos=>∃ n:Nat,n≤2∧x.1=(n:Int)∧dz p x.2) (fun x hx=>?_) many (0,q') ⟨0,by omega,rfl,hq'⟩
 obtain ⟨x1,x2⟩:=x
 obtain ⟨n,hn,h1,h2⟩:=hx
 simp only at h1 h2
 subst h1
 unfold wF Bp DP Gu
 dsimp only
 by_cases hc:n<2
 ·have hn1:n≤1:=by omega
  have lo:=hJ x2 (n:Int) 6
  obtain ⟨o131,e131⟩:=nM h2.bW (c:=(n:Int)) (k:=6) (by omega) (by omega) (by omega)
  have e:=Jb h2.bW hn1 (by omega) lo.2 f0 t p a b m1 (k:=aX x2 n 6)
  obtain ⟨r,hr,hkin⟩:=uo (p:=p) (q:=x2) (c:=(n:Int)) (k:=aX x2 n 6) (by omega) (by omega) (List.take 2 (List.drop (scale 2 (n:Int)).toNat x2.ai)) (fun s hs=>h2.bW.r0 s (List.mem_of_mem_drop (List.mem_of_mem_take hs))) h2 a b m1 m t
  have w56:wr .i64 (56 * wr .i64 (n:Int))=((56 * n:Nat):Int):=by rw [aN (n:=(n:Int)) (by omega) (by omega),aN (by omega) (by omega)];omega
  rw [e131,o131,t145,w56,← e,hr,decide_eq_true (show (n:Int)≤1 by omega),decide_eq_true (show (n:Int)<2 by omega),decide_eq_true (show (0:Int)≤n by omega),o6 (n:=(n:Int)+1) (by omega) (by omega)]
  have i2:decide ((n:Int)<Int.ofNat 2)=true:=decide_eq_true (by show (n:Int)<2;omega)
  rw [i2]
  refine ⟨rfl,fun y hy=>?_⟩
  have hy:aI.go ((n:Int)+1,r.2.2)=.go y:=hy
  simp only [aI.go.injEq] at hy
  subst hy
  exact ⟨n+1,by omega,by simp,hkin⟩
 ·have:n=2:=by omega
  subst this
  exact ⟨rfl,fun y hy=>by cases hy⟩
theorem EJ (ht:p.aa≤1) (hm:m.aW=0→0≤m.az∧m.az<64) (d5:m.aW≤5):Fk p q m t=true∧NU p q m t=cE p m q p m t:=by
 have t0:=hp.t0
 have hqt:q.aa=p.aa:=hk.t
 have h2:dz p (wk q (List.take (scale 2 q.aa).toNat q.ai++li [-1,-1]++List.drop ((scale 2 q.aa).toNat+2) q.ai)):=by
  refine hk.ai ?_ ?_
  ·have hr:=hk.bW.rl
   have:(scale 2 q.aa).toNat≤2:=by rw [hqt];unfold scale;simp;omega
   simp [li,hr]
   omega
  ·intro x hx
   simp only [List.mem_append,li] at hx
   rcases hx with (hx | hx) | hx
   ·exact hk.bW.r0 x (List.mem_of_mem_take hx)
   ·simp at hx;omega
   ·exact hk.bW.r0 x (List.mem_of_mem_drop hx)
 have e1:=yW hp hk f0 t p p m hk
 have e2:=yW hp hk f0 t p p m h2
 obtain ⟨r1,k1,_⟩:=gn hk p p m m t
 obtain ⟨r2,k2,_⟩:=gn h2 p p m m t
 have k3:=e1.symm.trans k1
 have k4:ly t p m (0,Pos.mk q.variant q.ae q.ab q.af q.aa (List.take (scale 2 q.aa).toNat q.ai++((List.replicate 2 0).set 0 (-1)).set 1 (-1)++List.drop ((scale 2 q.aa).toNat+2) q.ai) q.ah q.ag q.half q.full)=some r2:=e2.symm.trans k2
 have k2:dE p m p m t (0,Pos.mk q.variant q.ae q.ab q.af q.aa (List.take (scale 2 q.aa).toNat q.ai++li [-1,-1]++List.drop ((scale 2 q.aa).toNat+2) q.ai) q.ah q.ag q.half q.full)=some r2:=k2
 have hb:=eH hp (scale 1 m.az).toNat
 obtain ⟨e89,_⟩:=qX hb.1 hb.2
 have i1:decide (0≤p.aa)=true:=decide_eq_true t0
 have i2:decide (p.aa<Int.ofNat 2)=true:=decide_eq_true (by show p.aa<2;omega)
 unfold Fk NU cE
 rw [← hqt] at i1 i2 ⊢
 rw [e89,k1,k2,k3,k4,i1,i2]
 by_cases hd:m.aW=0
 ·obtain ⟨a0,a1⟩:=hm hd
  rw [hd,decide_eq_true a0,decide_eq_true (show m.az<Int.ofNat 64 from a1)]
  cases bw (p.ae.getD (scale 1 m.az).toNat 0)==6<;>exact ⟨rfl,rfl⟩
 ·rw [beq_eq_false_iff_ne.2 hd,bne_iff_ne.2 hd]
  cases m.aW==6<;>exact ⟨rfl,rfl⟩
end
theorem WO (col b c:Int) (cl:Bool):cK 1 col b c cl=cK 1 col b c false:=rfl
def Jg (q:Pos) (s:Int):Pos:=⟨q.variant,q.ae,q.ab,q.af,q.aa,q.ai,s,q.ag,q.half,q.full⟩
theorem KZ (q:Pos) (s a b:Int):aK (Jg q s) a b=aK q a b:=by kernel_rfl
def PW (t a b:Int):Bool:=(!(wr .i8 (b-a) != 16) || !(wr .i8 (a-b) != 16))&&(!(wr .i8 (a.tdiv 8) != wr .i8 (wr .i8 (7 * wr .i8 t)+1)) || !(wr .i8 (a.tdiv 8) != wr .i8 (wr .i8 (7 * wr .i8 t)-1)))
def My (t a b:Int):Bool := !(wr .i64 b != wr .i64 (wr .i64 a+wr .i64 (2 * gz t)))&&!(rh t (wr .i64 a) != 1)
theorem L0:∀ (t:Fin 2) (a b:Fin 64),(PW t.val a.val b.val==My t.val a.val b.val&&(!My t.val a.val b.val || (wr .i8 ((wr .i8 ((a.val:Int)+b.val)).tdiv 2)==wr .i8 (wr .i64 (wr .i64 a.val+gz t.val))&&(wr .i64 (wr .i8 ((wr .i8 ((a.val:Int)+b.val)).tdiv 2))==wr .i64 (wr .i64 a.val+gz t.val)&&(decide (0≤wr .i64 (wr .i64 a.val+gz t.val))&&decide (wr .i64 (wr .i64 a.val+gz t.val)<64))))))=true:=by decide +kernel
theorem zY {p:Pos} {m:Mv} (h:m∈eL p) (hp:aO p):bw (p.ae.getD m.az.toNat 0)=6:=by
 have key:m.az=aX p p.aa 6∧0≤aX p p.aa 6:=by
  revert h
  unfold eL
  have hk:=hJ p p.aa 6
  refine au (P:=fun l:M'=>m∈l→_) (fun _ h=>by cases h) fun h=>?_
  have ht:p.aa≤1:=by simpa using h
  refine au (P:=fun l:M'=>m∈l→_) (fun _ h=>by cases h) fun _=>au (P:=fun l:M'=>m∈l→_) (fun _ h=>by cases h) fun hk0=>au (P:=fun l:M'=>m∈l→_) (fun _ h=>by cases h) fun _=>?_
  have hk0:0≤aX p p.aa 6:=by simpa using hk0
  have key:∀ c,(dh p (aX p p.aa 6) c).2=true→m=(dh p (aX p p.aa 6) c).1→m.az=aX p p.aa 6∧0≤aX p p.aa 6:=by
   intro c h1 h2
   rw [h2]
   exact ⟨(ug hp ht hk0 hk.2 h1).1,hk0⟩
  refine au (P:=fun l:M'=>m∈l→_) (fun h1=>au (P:=fun l:M'=>m∈l→_) (fun h2 h=>?_) fun _ h=>?_) fun _=>au (P:=fun l:M'=>m∈l→_) (fun h2 h=>?_) fun _ h=>by cases h
  ·simp only [List.nil_append,List.mem_append,List.mem_singleton] at h
   rcases h with h | h
   ·exact key _ h1 h
   ·exact key _ h2 h
  ·simp only [List.nil_append,List.mem_singleton] at h
   exact key _ h1 h
  ·simp only [List.nil_append,List.mem_singleton] at h
   exact key _ h2 h
 rcases iq p p.aa 6 with ⟨h,_⟩ | ⟨k,_,h,h2,_⟩
 ·omega
 ·have hb:=eH hp k
  have:=JF h2
  rw [key.1,h,Int.toNat_natCast,← (qX hb.1 hb.2).1]
  omega
noncomputable section
variable {p q:Pos} (hp:aO p) (hk:dz p q) (hth:there p)
include hp hk hth
theorem agy {t:Nat} (hpt:p.aa=t) (ht:t≤1) (p1 p2:Int) {d:Nat} (hd:d<64) (he:wr .i64 (p2+p1)=d) (m:Mv):∃ r,py p1 p2 p q m 0=some r∧cu r=(df (t:Int) d&&&aK q (1-(t:Int)) 1 != 0#64):=by
 have hqt:q.aa=0∨q.aa=1:=by rw [hk.t,hpt];omega
 have bit:∀ s:Nat,s<64→(df (t:Int) d&&&aK q (1-(t:Int)) 1).getLsbD s=(dn (1-(t:Int)) 1 (q.ae.getD s 0)&&nz q s d):=fun s hs=>by
  rw [BitVec.getLsbD_and,cm _ _ _ hs,Bool.and_comm]
  cases h:dn (1-(t:Int)) 1 (q.ae.getD s 0) with
  | false=>rfl
  | true =>
   have hb:=eH hk.bW s
   rw [is' (by omega) (by omega) (by omega) hb.1 hb.2,E',beq_iff_eq,beq_iff_eq] at h
   rw [Bool.true_and,Bool.true_and,rF,gR,Int.toNat_natCast,h.1,h.2,WO]
   have:=sq ⟨1-t,by omega⟩ ⟨s,hs⟩ ⟨d,hd⟩
   simp only at this
   rw [show ((1-t:Nat):Int)=1-(t:Int) by omega,show (1:Int)-(1-(t:Int))=t by omega] at this
   exact this
 refine bh (Q:=fun r:Unit ⊕ (Int×Bool)=>cu r=(df (t:Int) d&&&aK q (1-(t:Int)) 1 != 0#64)) (I:=fun x:Int=>∃ n:Nat,n≤64∧x=(n:Int)∧∀ s,s<n→(df (t:Int) d&&&aK q (1-(t:Int)) 1).getLsbD s=false) (μ:=fun x=>(64-x).toNat) ?_ _ ⟨0,by omega,rfl,fun s hs=>by omega⟩ (by simp)
 rintro x ⟨n,hn,hx,h⟩
 subst hx
 unfold Dh GP
 by_cases hc:n<64
 ·obtain ⟨o157,e157⟩:=kj hk.bW (c:=1-(t:Int)) (k:=1) (by omega) (by omega) (by omega) hc
  have o159:=t154 hk.bW hqt hc hd
  have hb:=bit n hc
  rw [he,hpt,o6 (n:=1-(t:Int)) (by omega) (by omega),o157,e157,o159,decide_eq_true (show (n:Int)<64 by omega),aN (n:=(n:Int)+1) (by omega) (by omega)]
  have keep:(df (t:Int) d&&&aK q (1-(t:Int)) 1).getLsbD n=false→∃ k:Nat,k≤64∧(n:Int)+1=(k:Int)∧∀ s,s<k→(df (t:Int) d&&&aK q (1-(t:Int)) 1).getLsbD s=false:=fun hf=>⟨n+1,by omega,by simp,fun s hs=>by
   by_cases e:s=n
   ·rw [e];exact hf
   ·exact h s (by omega)⟩
  revert hb
  cases dn (1-(t:Int)) 1 (q.ae.getD n 0) with
  | false=>intro hb;exact ⟨rfl,keep hb,by dsimp only;omega⟩
  | true =>
   cases nz q n d with
   | false=>intro hb;exact ⟨rfl,keep hb,by dsimp only;omega⟩
   | true =>
    intro hb
    refine ⟨rfl,?_⟩
    show true=_
    symm
    rw [bne_iff_ne]
    intro e
    rw [e] at hb
    simp at hb
 ·have:n=64:=by omega
  subst this
  refine ⟨rfl,?_⟩
  show false=_
  symm
  rw [bne_eq_false_iff_eq]
  exact BitVec.eq_of_getLsbD_eq fun i hi=>by rw [h i hi];simp
theorem rM {m:Mv} (hm:m∈bL p) (d:Int):D5 p q m=true∧dw p m q p m d=Jg q (eP p q m):=by
 obtain ⟨_,f0,f1,o0,o1,_,_,_,_⟩:=i7 hp hm
 obtain ⟨t,hpt,ht⟩:=gJ hp hth.1
 obtain ⟨a,ha⟩:=Int.eq_ofNat_of_zero_le f0
 obtain ⟨b,hb⟩:=Int.eq_ofNat_of_zero_le o0
 have hqt:q.aa=(t:Int):=by rw [hk.t,hpt]
 have hbd:=eH hp (scale 1 m.az).toNat
 obtain ⟨e89,_⟩:=qX hbd.1 hbd.2
 have i1:decide (0≤m.az)=true:=decide_eq_true f0
 have i2:decide (m.az<Int.ofNat 64)=true:=decide_eq_true f1
 have fin:=L0 ⟨t,by omega⟩ ⟨a,by omega⟩ ⟨b,by omega⟩
 simp only [E',beq_iff_eq,Bool.or_eq_true,Bool.not_eq_true'] at fin
 obtain ⟨fin1,fin2⟩:=fin
 have hcas:m.bS=true→(bw (p.ae.getD (scale 1 m.az).toNat 0) != 1)=true:=fun hc=>by
  have hm':m∈eL p:=by
   rw [nk] at hm
   rcases List.mem_append.1 hm with hm | hm
   ·rcases List.mem_append.1 hm with hm | hm
    ·obtain ⟨_,_,_,_,_,_,_,_,h,_⟩:=gD hp.v0 hm;rw [h] at hc;cases hc
    ·exact hm
   ·obtain ⟨_,_,_,_,_,h,_⟩:=lr hp.t0 hm;rw [h] at hc;cases hc
  rw [gR,zY hm' hp]
  rfl
 have n101:∀ s c k:Int,aK (Pos.mk q.variant q.ae q.ab q.af q.aa q.ai s q.ag q.half q.full) c k=aK q c k:=fun s c k=>KZ q s c k
 unfold D5 eP dw Jg
 simp only [n101]
 rw [e89,i1,i2,hqt,hpt,ha,hb,o6 (n:=1-(t:Int)) (by omega) (by omega)]
 cases hd:m.aW != 0 with
 | true =>
  refine ⟨rfl,?_⟩
  cases m.aW != 1<;>rfl
 | false =>
  cases hc:m.bS with
  | true =>
   have:=hcas hc
   rw [ha] at this
   rw [this]
   exact ⟨rfl,rfl⟩
  | false =>
   cases hpn:(bw (p.ae.getD (scale 1 (a:Int)).toNat 0) != 1) with
   | true=>exact ⟨rfl,rfl⟩
   | false =>
    simp only [cond_false,Bool.true_and]
    unfold PW My at fin1
    unfold My at fin2
    revert fin1 fin2
    cases hx1:(wr .i64 (b:Int) != wr .i64 (wr .i64 (a:Int)+wr .i64 (2 * gz (t:Int)))) with
    | true =>
     intro fin1 _
     refine ⟨rfl,?_⟩
     revert fin1
     generalize (wr .i8 ((b:Int)-a) != 16)=x1
     generalize (wr .i8 ((a:Int)-b) != 16)=x2
     generalize (wr .i8 ((a:Int).tdiv 8) != wr .i8 (wr .i8 (7 * wr .i8 (t:Int))+1))=x3
     generalize (wr .i8 ((a:Int).tdiv 8) != wr .i8 (wr .i8 (7 * wr .i8 (t:Int))-1))=x4
     generalize (rh (t:Int) (wr .i64 (a:Int)) != 1)=x6
     cases x1<;>cases x2<;>cases x3<;>cases x4<;>intro h<;>first | rfl | (exfalso;revert h;cases x6<;>decide)
    | false =>
     cases hx2:(rh (t:Int) (wr .i64 (a:Int)) != 1) with
     | true =>
      intro fin1 _
      refine ⟨rfl,?_⟩
      revert fin1
      generalize (wr .i8 ((b:Int)-a) != 16)=x1
      generalize (wr .i8 ((a:Int)-b) != 16)=x2
      generalize (wr .i8 ((a:Int).tdiv 8) != wr .i8 (wr .i8 (7 * wr .i8 (t:Int))+1))=x3
      generalize (wr .i8 ((a:Int).tdiv 8) != wr .i8 (wr .i8 (7 * wr .i8 (t:Int))-1))=x4
      cases x1<;>cases x2<;>cases x3<;>cases x4<;>intro h<;>first | rfl | (exfalso;revert h;decide)
     | false =>
      intro fin1 fin2
      obtain ⟨g1,g2,g3,g4⟩:=fin2.resolve_left (by decide)
      simp only [decide_eq_true_eq] at g3 g4
      obtain ⟨e,he⟩:=Int.eq_ofNat_of_zero_le g3
      obtain ⟨r1,r2⟩:=aM (agy hp hk hth hpt ht (gz (t:Int)) (wr .i64 (a:Int)) (d:=e) (by omega) he m)
      rw [g2,g1,he,r2,r1]
      refine ⟨by cases (df (t:Int) e&&&aK q (1-(t:Int)) 1 != 0#64)<;>rfl,?_⟩
      revert fin1
      generalize (wr .i8 ((b:Int)-a) != 16)=x1
      generalize (wr .i8 ((a:Int)-b) != 16)=x2
      generalize (wr .i8 ((a:Int).tdiv 8) != wr .i8 (wr .i8 (7 * wr .i8 (t:Int))+1))=x3
      generalize (wr .i8 ((a:Int).tdiv 8) != wr .i8 (wr .i8 (7 * wr .i8 (t:Int))-1))=x4
      generalize (df (t:Int) e&&&aK q (1-(t:Int)) 1 != 0#64)=x5
      cases x1<;>cases x2<;>cases x3<;>cases x4<;>intro h<;>first | (exfalso;revert h;decide) | (cases x5<;>rfl)
end
theorem Lx (x:BitVec 64) {k:Nat} (hk:k<64):(x&&&1#64 <<< k != 0#64)=x.getLsbD k:=by
 have e:∀ i,i<64→(x&&&1#64 <<< k).getLsbD i=(x.getLsbD k&&decide (i=k)):=fun i hi=>by
  rw [BitVec.getLsbD_and,fP hi]
  by_cases h:i=k
  ·subst h;simp
  ·simp [h]
 cases hx:x.getLsbD k with
 | true =>
  rw [bne_iff_ne]
  intro h
  have:=e k hk
  rw [h,hx] at this
  simp at this
 | false =>
  rw [bne_eq_false_iff_eq]
  refine BitVec.eq_of_getLsbD_eq fun i hi=>?_
  rw [e i hi,hx]
  simp
theorem Np {a:Pos×BitVec 64×BitVec 64} {b:Int} {g:Nat} (h:(gP a b).getLsbD g=true):a.2.1.getLsbD g=false:=by
 have key:∃ X,gP a b=X &&& ~~~a.2.1:=by
  unfold gP
  repeat' (first | exact ⟨_,rfl⟩ | refine au (P:=fun x:BitVec 64=>∃ X,x=X &&& ~~~a.2.1) (fun _=>?_) (fun _=>?_))
 obtain ⟨X,e⟩:=key
 rw [e,BitVec.getLsbD_and,BitVec.getLsbD_not] at h
 simp only [E',Bool.not_eq_true'] at h
 exact h.2.2
theorem VN (k:Int) (l:List Int) (hl:l.length≤5):∃ r,mo k l 0=some r∧cu r=decide (k∈l):=by
 refine bh (Q:=fun r:Unit ⊕ (Int×Bool)=>cu r=decide (k∈l)) (I:=fun x:Int=>∃ n:Nat,n≤l.length∧x=(n:Int)∧k∉l.take n) (μ:=fun x=>(l.length-x).toNat) ?_ _ ⟨0,by omega,rfl,by simp⟩ (by simp;omega)
 rintro x ⟨n,hn,rfl,h⟩
 unfold Ah Dr
 by_cases hc:n<l.length
 ·have ht:l.take (n+1)=l.take n++[l.getD n default]:=by
   rw [List.take_add_one,List.getD_eq_getElem?_getD,I' hc];rfl
  rw [decide_eq_true (show (n:Int)<Int.ofNat l.length from Int.ofNat_lt.2 hc),decide_eq_true (show (0:Int)≤n by omega),Int.toNat_natCast,aN (n:=(n:Int)+1) (by omega) (by omega)]
  refine ⟨rfl,?_⟩
  cases he:l.getD n default==k with
  | true =>
   show true=_
   symm
   rw [decide_eq_true_eq,← beq_iff_eq.1 he]
   exact cS hc
  | false =>
   refine ⟨⟨n+1,by omega,by simp,?_⟩,by dsimp only;omega⟩
   rw [ht,List.mem_append,List.mem_singleton]
   rintro (h1 | h1)
   ·exact h h1
   ·rw [h1] at he;simp at he
 ·rw [decide_eq_false (show ¬ ((n:Int)<Int.ofNat l.length) from fun h=>hc (Int.ofNat_lt.1 h))]
  refine ⟨rfl,?_⟩
  show false=_
  symm
  rw [decide_eq_false_iff_not]
  rw [List.take_of_length_le (by omega)] at h
  exact h
theorem OE (v:Int):(wh v).length≤5:=by
 unfold wh
 exact au (P:=fun l:List Int=>l.length≤5) (fun _=>by simp) fun _=>au (P:=fun l:List Int=>l.length≤5) (fun _=>by simp) fun _=>by simp
theorem MK (v k:Int):Au v k=true∧J4 v k=decide (k∈wh v):=by
 obtain ⟨h1,h2⟩:=aM (VN k (wh v) (OE v))
 unfold Au J4
 rw [h1,h2]
 cases decide (k∈wh v)<;>exact ⟨rfl,rfl⟩
theorem jF {p:Pos} (h:there p):yj p=true:=by
 unfold yj
 rw [decide_eq_true h.2,decide_eq_true (show p.aa<2 by have:=h.1;omega)]
 rfl
noncomputable section
variable {p:Pos} (hp:aO p) (hth:there p)
include hp hth
theorem Oy {m:Mv} (hm:m∈dX p):∃ f g:Nat,f<64∧g<64∧m.az=f∧m.to=g∧m.bS=false∧m.aW=0∧(own p).getLsbD f=true∧(own p).getLsbD g=false∧Bz p m=true∧Rb p m=true:=by
 have t0:=hp.t0
 have htt:p.aa=0∨p.aa=1:=by have:=hth.1;omega
 obtain ⟨_,f,g,hf,hg,ef,eg,hd,hc,_,_,h1,h2⟩:=gD hp.v0 hm
 have h3:m∈uQ p f g:=by
  rw [j7 hp.v0 hth] at hm
  obtain ⟨a,_,hm⟩:=List.mem_flatMap.1 hm
  obtain ⟨b,_,hm⟩:=List.mem_flatMap.1 hm
  have:m.az=a∧m.to=b:=by
   revert hm
   unfold uQ
   refine au (P:=fun l:M'=>m∈l→_) (fun _ h=>by simp at h;rw [h];exact ⟨rfl,rfl⟩) fun _=>au (P:=fun l:M'=>m∈l→_) (fun _ h=>by simp at h;rw [h];exact ⟨rfl,rfl⟩) fun _ h=>?_
   obtain ⟨k,_,h⟩:=List.mem_flatMap.1 h
   simp at h;rw [h];exact ⟨rfl,rfl⟩
  rw [← this.1,← this.2,ef,eg] at hm
  exact hm
 have hR:=CL hp hth hf hg
 rw [h1,h2] at hR
 simp only [cond_true] at hR
 rw [← hR] at h3
 have e160:AM p f g=true:=by
  cases h:AM p f g with
  | true=>rfl
  | false=>unfold fp at h3;rw [h] at h3;cases h3
 have o160:=t93 hp htt hf hg
 have wf:wr .i64 (f:Int)=f:=aN (by omega) (by omega)
 have wg:wr .i64 (g:Int)=g:=aN (by omega) (by omega)
 refine ⟨f,g,hf,hg,ef,eg,hc,hd,h1,Np h2,?_⟩
 unfold Bz Rb
 unfold fp at h3
 rw [e160] at h3
 obtain ⟨o173,e173⟩:=MK p.variant m.bP
 rw [jF hth,hc,hd,ef,eg,wf,wg,e160,o160,gR,Int.toNat_natCast,decide_eq_false (show ¬ ((f:Int)<0) by omega),decide_eq_false (show ¬ ((f:Int)>63) by omega),decide_eq_false (show ¬ ((g:Int)<0) by omega),decide_eq_false (show ¬ ((g:Int)>63) by omega),decide_eq_true (show (0:Int)≤f by omega),decide_eq_true (show (f:Int)<Int.ofNat 64 by show (f:Int)<64;omega),o173,e173]
 revert h3
 cases bw (p.ae.getD f 0) != 1 with
 | true=>intro h3;simp at h3;rw [h3];exact ⟨rfl,rfl⟩
 | false =>
  cases rh p.aa g != 7 with
  | true=>intro h3;simp at h3;rw [h3];exact ⟨rfl,rfl⟩
  | false =>
   intro h3
   simp only [Bool.not_true,cond_false,List.mem_map] at h3
   obtain ⟨k,hk,rfl⟩:=h3
   rw [decide_eq_true hk]
   exact ⟨rfl,rfl⟩
theorem tW {m:Mv} (hm:m∈bL p):xW p m=true∧ie p m=bC p m:=by
 have hth1:=hth.1
 have htt:p.aa=0∨p.aa=1:=by have:=hp.t0;omega
 have hl:(dX p).length≤1000000:=Nat.le_trans (jL hp.v0) (by omega)
 have no:(m.bS=true∨(m.bS=false∧m.aW≠0))→xW p m=true∧ie p m=bC p m:=fun h=>by
  have e133:Rb p m=false∧Bz p m=true:=by
   unfold Bz Rb
   rw [jF hth]
   rcases h with h | ⟨h,h'⟩
   ·rw [h];exact ⟨rfl,rfl⟩
   ·rw [h,bne_iff_ne.2 h'];exact ⟨rfl,rfl⟩
  have hnm:m∉dX p:=fun hm=>by
   obtain ⟨_,_,_,_,_,_,_,hd,hc,_⟩:=gD hp.v0 hm
   rcases h with h | ⟨_,h⟩
   ·rw [h] at hc;cases hc
   ·exact h hd
  unfold xW ie bC
  rw [e133.1,e133.2,kb hth,pw hl,decide_eq_false hnm]
  exact ⟨rfl,rfl⟩
 rw [nk] at hm
 rcases List.mem_append.1 hm with hm | hm
 ·rcases List.mem_append.1 hm with hm | hm
  ·obtain ⟨f,g,hf,hg,ef,eg,hc,hd,h1,h2,h3,h4⟩:=Oy hp hth hm
   have wg:wr .i64 (g:Int)=g:=aN (by omega) (by omega)
   have e134:=xR hp htt hg
   have o134:=t97 (p:=p) hp htt hg
   have hb:=eH hp (scale 1 (f:Int)).toNat
   obtain ⟨e89,_⟩:=qX hb.1 hb.2
   unfold xW ie bC
   rw [h3,h4,kb hth,pw hl,decide_eq_true hm,ef,eg,wg,e134,o134,cP (by omega) (by omega),Int.toNat_natCast,e89,BitVec.getLsbD_or,h2]
   simp only [Bool.false_or,Bool.not_not]
   rw [Lx _ hg,decide_eq_true (show (0:Int)≤f by omega),decide_eq_true (show (f:Int)<Int.ofNat 64 by show (f:Int)<64;omega)]
   refine ⟨by cases (gV p).getLsbD g<;>rfl,?_⟩
   have e90:wr .i64 ((g:Int)-gz p.aa)=cV (wr .u8 (1-p.aa)) g:=by
    rcases htt with h | h<;>rw [h]<;>unfold cV gz
    ·show wr .i64 ((g:Int)-8)=wr .i64 ((g:Int)-8);rfl
    ·show wr .i64 ((g:Int) - -8)=wr .i64 ((g:Int)+8)
     congr 1
   rw [e90]
   rfl
  ·obtain ⟨_,_,_,_,_,hc,_⟩:=tJ hp hm
   exact no (.inl hc)
 ·obtain ⟨_,_,_,_,_,hc,d1,_⟩:=lr hp.t0 hm
  exact no (.inr ⟨hc,by omega⟩)
end
def StI {X R:Type} (I:X→Prop) (Q:R→Prop):aI X R→Prop
 | .go y=>I y
 | .out r=>Q r
 | .bad=>True
theorem tD {X R:Type} {f:X→aI X R} (I:X→Prop) (Q:R→Prop) (h:∀ x,I x→StI I Q (f x)):∀ (n:Nat) (x:X) (r:R),I x→da f n x=some r→Q r
 | 0,_,_,_,e=>by cases e
 | n+1,x,r,hx,e=>by
  have:=h x hx
  unfold da at e
  cases hf:f x with
  | go y=>rw [hf] at this e;exact tD I Q h n y r this e
  | out r'=>rw [hf] at this e;cases e;exact this
  | bad=>rw [hf] at e;cases e
def SC (q r:Pos):Prop:=r.half=q.half∧r.full=q.full
theorem SC.rfl {q:Pos}:SC q q:=⟨Eq.refl _,Eq.refl _⟩
abbrev Vy (q:Pos):aI (Int×Pos) (Int×Bool×Pos)→Prop:=StI (fun x=>SC q x.2) (fun r=>SC q r.2.2)
theorem sc6 {q:Pos} (c k:Int) (l:List Int) (a:Pos) (m1:Mv) (b:Pos) (m2:Mv) (e:Int) {x:Int×Pos} {r:Int×Bool×Pos} (hx:SC q x.2) (h:lQ c k l a m1 b m2 e x=some r):SC q r.2.2:=by
 unfold lQ at h
 refine tD (fun x=>SC q x.2) (fun r=>SC q r.2.2) (fun x hx=>?_) many x r hx h
 show Vy q _
 refine au (P:=fun s=>Vy q s) (fun _=>?_) fun _=>trivial
 unfold xS
 repeat' (first | exact (show SC q _ from hx) | refine au (P:=fun s=>Vy q s) (fun _=>?_) (fun _=>?_))
theorem sc7 {q:Pos} (a:Pos) (m1:Mv) (b:Pos) (m2:Mv) (e:Int) {x:Int×Pos} {r:Int×Bool×Pos} (hx:SC q x.2) (h:dE a m1 b m2 e x=some r):SC q r.2.2:=by
 unfold dE at h
 refine tD (fun x=>SC q x.2) (fun r=>SC q r.2.2) (fun x hx=>?_) many x r hx h
 show Vy q _
 refine au (P:=fun s=>Vy q s) (fun hok=>?_) fun _=>trivial
 unfold Bp
 unfold wF at hok
 refine au (P:=fun s=>Vy q s) (fun hc=>?_) (fun _=>hx)
 rw [hc] at hok
 simp only [cond_true,E'] at hok
 obtain ⟨_,_,h6,_⟩:=hok
 exact sc6 _ _ _ _ _ _ _ _ (x:=(0,x.2)) hx (pR h6)
theorem YV (q:Pos) (b c:Int):SC q (jh q b c).1:=by
 unfold jh
 exact au (P:=fun x:Pos×Bool=>SC q x.1) (fun _=>⟨rfl,rfl⟩) fun _=>au (P:=fun x:Pos×Bool=>SC q x.1) (fun _=>⟨rfl,rfl⟩) fun _=>⟨rfl,rfl⟩
theorem ZT (q:Pos) (b c:Int):SC q (bk q b c):=by
 unfold bk
 exact au (P:=fun x:Pos=>SC q x) (fun _=>au (P:=fun x:Pos=>SC q x) (fun _=>⟨rfl,rfl⟩) fun _=>⟨rfl,rfl⟩) fun _=>⟨rfl,rfl⟩
noncomputable section
variable {p:Pos} (hp:aO p) {m:Mv}
include hp
theorem sc1 (q:Pos) (c:Int):SC q (bM p m q p m c):=by
 have h:=YV q q.aa m.aW
 unfold bM
 repeat' (first | exact ⟨rfl,rfl⟩ | exact h | refine au (P:=fun x:Pos=>SC q x) (fun _=>?_) (fun _=>?_))
theorem sc2 (q:Pos) (c:Int):SC q (b7 p m q p m c):=by
 have h:=ZT q q.aa
 unfold b7
 repeat' (first | exact ⟨rfl,rfl⟩ | exact h _ | refine au (P:=fun x:Pos=>SC q x) (fun _=>?_) (fun _=>?_))
theorem sc4 {q:Pos} (hk:dz p q) (c:Int):SC q (cB p m q p m c):=by
 obtain ⟨b1,C,b2,b3,b4⟩:=aM (PY hk.bW (l:=fQ (qd q (wr .i64 m.to))) (by rw [dJ];exact fm _ _) (fun s hs=>by rw [dJ] at hs;exact lJ hs) p p m m c)
 unfold cB
 rw [b2]
 repeat' (first | exact ⟨rfl,rfl⟩ | refine au (P:=fun x:Pos=>SC q x) (fun _=>?_) (fun _=>?_))
theorem sc8 (ht:p.aa≤1) {q:Pos} (h:dz p q) (c:Int):SC q (cE p m q p m c):=by
 have t0:=hp.t0
 have h2:dz p ⟨q.variant,q.ae,q.ab,q.af,q.aa,List.take (scale 2 q.aa).toNat q.ai++li [-1,-1]++List.drop ((scale 2 q.aa).toNat+2) q.ai,q.ah,q.ag,q.half,q.full⟩:=by
  refine h.ai ?_ ?_
  ·have hr:=h.bW.rl
   have:(scale 2 q.aa).toNat≤2:=by rw [h.t];unfold scale;simp;omega
   simp [li,hr]
   omega
  ·intro x hx
   simp only [List.mem_append,li] at hx
   rcases hx with (hx | hx) | hx
   ·exact h.bW.r0 x (List.mem_of_mem_take hx)
   ·simp at hx;omega
   ·exact h.bW.r0 x (List.mem_of_mem_drop hx)
 obtain ⟨r1,k1,_⟩:=gn h p p m m c
 obtain ⟨r2,k2,_⟩:=gn h2 p p m m c
 have b1:SC q r1.2.2:=sc7 p m p m c (x:=(0,q)) SC.rfl k1
 have b2:SC q r2.2.2:=sc7 p m p m c (x:=(0,⟨q.variant,q.ae,q.ab,q.af,q.aa,List.take (scale 2 q.aa).toNat q.ai++li [-1,-1]++List.drop ((scale 2 q.aa).toNat+2) q.ai,q.ah,q.ag,q.half,q.full⟩)) ⟨rfl,rfl⟩ k2
 unfold cE
 rw [k1,k2]
 repeat' (first | exact b1 | exact b2 | refine au (P:=fun x:Pos=>SC q x) (fun _=>?_) (fun _=>?_))
end
def qD (p:Pos) (m:Mv) (d:Int):Int:=bif m.aW==1 then 0 else bif m.aW==0 then (bif bw (p.ae.getD (scale 1 m.az).toNat 0)==1 then 0 else bif decide (d≥0) then 0 else ev p.half) else bif decide (d≥0) then 0 else ev p.half
def TN (p z:Pos) (s h f:Int):Pos :=
 bif z.variant==5 then (bif decide (z.ag.getD (scale 1 p.aa).toNat 0<3) then (bif ni (Pos.mk z.variant z.ae z.ab z.af (wr .u8 (1-p.aa)) z.ai s z.ag h f) (wr .u8 (1-p.aa)) then Pos.mk z.variant z.ae z.ab z.af (wr .u8 (1-p.aa)) z.ai s (z.ag.set (scale 1 p.aa).toNat (wr .u8 (z.ag.getD (scale 1 p.aa).toNat 0+1))) h f else Pos.mk z.variant z.ae z.ab z.af (wr .u8 (1-p.aa)) z.ai s z.ag h f) else Pos.mk z.variant z.ae z.ab z.af (wr .u8 (1-p.aa)) z.ai s z.ag h f) else Pos.mk z.variant z.ae z.ab z.af (wr .u8 (1-p.aa)) z.ai s z.ag h f
def EE (p:Pos) (m:Mv) (d:Int):Pos:=Av p (yM p m d) m d
def Fm (p:Pos) (m:Mv) (d:Int):Pos:=NU p (bif p.variant==3 then (bif decide (d≥0) then ((lh d (LQ (EE p m d) (wr .i64 m.to)) p m (0,EE p m d)).getD default).2.2 else EE p m d) else EE p m d) m d
theorem Ms (p:Pos) (m:Mv):LO p m=TN p (Fm p m (ie p m)) (eP p (Fm p m (ie p m)) m) (qD p m (ie p m)) (bif p.aa==1 then ev p.full else (Fm p m (ie p m)).full):=by
 unfold LO Fm EE qD
 dsimp only
 cases p.variant==3<;>cases decide (ie p m≥0)<;>cases m.aW==1<;>cases m.aW==0<;>cases bw (p.ae.getD (scale 1 m.az).toNat 0)==1<;>cases p.aa==1<;>rfl
noncomputable section
variable {p:Pos} (hp:aO p) (hth:there p) {m:Mv}
include hp
theorem pr1 (q:Pos) (c:Int):(bM p m q p m c).ab=q.ab:=by
 have h:(jh q q.aa m.aW).1.ab=q.ab:=by
  unfold jh
  exact au (P:=fun x:Pos×Bool=>x.1.ab=q.ab) (fun _=>rfl) fun _=>au (P:=fun x:Pos×Bool=>x.1.ab=q.ab) (fun _=>rfl) fun _=>rfl
 unfold bM
 repeat' (first | exact rfl | exact h | refine au (P:=fun x:Pos=>x.ab=q.ab) (fun _=>?_) (fun _=>?_))
include hth
theorem TV {z:Pos} (hz:dz p z) (hsc:SC p z) (hm:m∈bL p) (d:Int):TN p z (eP p z m) (qD p m d) (bif p.aa==1 then ev p.full else z.full)=cO p m (cM p m (dw p m z p m d) p m d) p m d ∧
  ∀ h f:Int,(h=0∨h=ev p.half)→(f=ev p.full∨f=z.full)→jn (Pos.mk z.variant z.ae z.ab z.af (wr .u8 (1-p.aa)) z.ai (eP p z m) z.ag h f) (wr .u8 (1-p.aa))=true:=by
 obtain ⟨_,f0,f1,_⟩:=i7 hp hm
 obtain ⟨t,hpt,ht⟩:=gJ hp hth.1
 obtain ⟨_,e9⟩:=rM hp hz hth hm d
 have k9:=(DD m hz (fun _=>⟨f0,f1⟩) p m d).2
 rw [e9] at k9
 have sp0 : -128≤eP p z m:=k9.bW.p0
 have sp1:eP p z m≤127:=k9.bW.p1
 have wt:wr .u8 (1-p.aa)=((1-t:Nat):Int):=by rw [hpt,o6 (by omega) (by omega)];omega
 have n102:∀ n:Int,-9223372036854775808≤n∧n≤9223372036854775807 → -9223372036854775808≤ev n∧ev n≤9223372036854775807:=fun n hn=>xo hn
 have bW:∀ h f:Int,(-9223372036854775808≤h∧h≤9223372036854775807)→(-9223372036854775808≤f∧f≤9223372036854775807)→aO (Pos.mk z.variant z.ae z.ab z.af (wr .u8 (1-p.aa)) z.ai (eP p z m) z.ag h f):=fun h f hh hf =>
  ⟨hz.bW.v0,hz.bW.v1,hz.bW.bl,hz.bW.b0,hz.bW.kl,hz.bW.k0,by show 0≤wr .u8 (1-p.aa);rw [wt];omega,by show wr .u8 (1-p.aa)≤255;rw [wt];omega,hz.bW.rl,hz.bW.r0,sp0,sp1,hz.bW.cl,hz.bW.c0,hh,hf⟩
 have tt:∀ h f:Int,(Pos.mk z.variant z.ae z.ab z.af (wr .u8 (1-p.aa)) z.ai (eP p z m) z.ag h f).aa=0∨(Pos.mk z.variant z.ae z.ab z.af (wr .u8 (1-p.aa)) z.ai (eP p z m) z.ag h f).aa=1:=fun h f=>by
  show wr .u8 (1-p.aa)=0∨wr .u8 (1-p.aa)=1
  rw [wt];omega
 have ttw:wr .u8 (1-p.aa)=0∨wr .u8 (1-p.aa)=1:=by rw [wt];omega
 refine ⟨?_,fun h f hh hf=>?_⟩
 ·have hb:=eH hp (scale 1 m.az).toNat
  obtain ⟨e89,_⟩:=qX hb.1 hb.2
  have e10:cM p m (Jg z (eP p z m)) p m d=⟨z.variant,z.ae,z.ab,z.af,z.aa,z.ai,eP p z m,z.ag,qD p m d,bif p.aa==1 then ev p.full else z.full⟩:=by
   unfold cM qD Jg
   dsimp only
   rw [e89,hz.t,hsc.1,hsc.2,show lS p.half=ev p.half from rfl,show lS p.full=ev p.full from rfl]
   by_cases h0:m.aW=0
   ·rw [h0]
    cases bw (p.ae.getD (scale 1 m.az).toNat 0)==1<;>cases decide (d≥0)<;>cases p.aa==1<;>rfl
   ·rw [bne_iff_ne.2 h0,beq_eq_false_iff_ne.2 h0]
    cases m.aW==1<;>cases decide (d≥0)<;>cases p.aa==1<;>rfl
  rw [e9,e10]
  have hH : -9223372036854775808≤qD p m d∧qD p m d≤9223372036854775807:=by
   unfold qD
   repeat' (first | exact ⟨by omega,by omega⟩ | exact n102 _ hp.h0 | refine au (P:=fun x:Int => -9223372036854775808≤x∧x≤9223372036854775807) (fun _=>?_) (fun _=>?_))
  have hF : -9223372036854775808≤(bif p.aa==1 then ev p.full else z.full)∧(bif p.aa==1 then ev p.full else z.full)≤9223372036854775807 :=
   au (P:=fun x:Int => -9223372036854775808≤x∧x≤9223372036854775807) (fun _=>n102 _ hp.f0) (fun _=>hz.bW.f0)
  unfold TN cO
  dsimp only
  rw [hz.t,(sD (bW _ _ hH hF) (tt _ _) ttw).2]
  have back:wr .u8 (1-wr .u8 (1-p.aa))=p.aa:=by rw [wt,hpt,o6 (by omega) (by omega)];omega
  rw [back]
 ·refine (sD (bW h f ?_ ?_) (tt h f) ttw).1
  ·rcases hh with rfl | rfl
   ·omega
   ·exact n102 _ hp.h0
  ·rcases hf with rfl | rfl
   ·exact n102 _ hp.f0
   ·exact hz.bW.f0
theorem CE (hm:m∈bL p):Ge p m=true∧LO p m=LN p m:=by
 obtain ⟨_,f0,f1,o0,o1,_,d5,_⟩:=i7 hp hm
 have hb8 : -128≤m.az∧m.az≤127:=by omega
 obtain ⟨o79,e79⟩:=tW hp hth hm
 obtain ⟨o116,e116⟩:=Ro hp hm
 have k1:dz p (bM p m p p m (bC p m)):=C9 hp m p m (bC p m)
 obtain ⟨o117,e117⟩:=Fh hp k1 (pr1 hp p _) hm
 have k2:=Dm m k1 p m (bC p m)
 obtain ⟨o118,l58,e4⟩:=Oc (p:=p) k2 o0 o1 (bC p m)
 have k4:=(DV m k2 p m (bC p m)).2
 obtain ⟨o120,e120⟩:=EJ hp k4 hb8 (bC p m) hth.1 (fun _=>⟨f0,f1⟩) d5
 have k8:=(Du hp m hth.1 k4 (fun _=>⟨f0,f1⟩) p m (bC p m)).2
 obtain ⟨o121,_⟩:=rM hp k8 hth hm (bC p m)
 have s1:=sc1 hp (m:=m) p (bC p m)
 have s2:=sc2 hp (m:=m) (bM p m p p m (bC p m)) (bC p m)
 have s4:=sc4 hp (m:=m) k2 (bC p m)
 have s8:=sc8 hp (m:=m) hth.1 k4 (bC p m)
 have hsc:SC p (cE p m (cB p m (b7 p m (bM p m p p m (bC p m)) p m (bC p m)) p m (bC p m)) p m (bC p m)) :=
  ⟨s8.1.trans (s4.1.trans (s2.1.trans s1.1)),s8.2.trans (s4.2.trans (s2.2.trans s1.2))⟩
 obtain ⟨eEnd,o47⟩:=TV hp hth k8 hsc hm (bC p m)
 have e3:Fm p m (bC p m)=cE p m (cB p m (b7 p m (bM p m p p m (bC p m)) p m (bC p m)) p m (bC p m)) p m (bC p m):=by
  unfold Fm EE
  rw [e116,e117,e4,e120]
 constructor
 ·have i1:decide (0≤p.aa)=true:=decide_eq_true hp.t0
  have i2:decide (p.aa<Int.ofNat 2)=true:=decide_eq_true (by show p.aa<2;have:=hth.1;omega)
  have i3:decide (0≤m.az)=true:=decide_eq_true f0
  have i4:decide (m.az<Int.ofNat 64)=true:=decide_eq_true f1
  unfold Ge
  dsimp only
  rw [e79,o79,o116,e116,o117,e117,o118]
  generalize hz:cE p m (cB p m (b7 p m (bM p m p p m (bC p m)) p m (bC p m)) p m (bC p m)) p m (bC p m)=z at *
  have a1:=o47 0 (ev p.full) (.inl rfl) (.inl rfl)
  have a2:=o47 0 z.full (.inl rfl) (.inr rfl)
  have a3:=o47 (ev p.half) (ev p.full) (.inr rfl) (.inl rfl)
  have a4:=o47 (ev p.half) z.full (.inr rfl) (.inr rfl)
  cases h3:p.variant==3 with
  | false =>
   rw [h3] at e4
   simp only [cond_false] at e4
   rw [e4,e120,o120,o121,i1,i2,i3,i4]
   simp only [a1,a2,a3,a4,Bool.true_and,Bool.and_true,cond_false]
   cases m.aW==1<;>cases m.aW==0<;>cases bw (p.ae.getD (scale 1 m.az).toNat 0)==1<;>cases decide (bC p m≥0)<;>cases p.aa==1<;>cases z.variant==5<;>simp
  | true =>
   rw [h3] at e4
   simp only [cond_true] at e4
   cases hd:decide (bC p m≥0) with
   | false =>
    rw [hd] at e4
    simp only [cond_false] at e4
    rw [e4,e120,o120,o121,i1,i2,i3,i4]
    simp only [a1,a2,a3,a4,Bool.true_and,Bool.and_true,cond_false,cond_true]
    cases m.aW==1<;>cases m.aW==0<;>cases bw (p.ae.getD (scale 1 m.az).toNat 0)==1<;>cases p.aa==1<;>cases z.variant==5<;>simp
   | true =>
    rw [hd] at e4
    simp only [cond_true] at e4
    rw [e4,l58,e120,o120,o121,i1,i2,i3,i4]
    simp only [a1,a2,a3,a4,Bool.true_and,Bool.and_true,cond_true]
    cases m.aW==1<;>cases m.aW==0<;>cases bw (p.ae.getD (scale 1 m.az).toNat 0)==1<;>cases p.aa==1<;>cases z.variant==5<;>simp
 ·rw [Ms,e79,e3,eEnd]
  rfl
end
end Kz
end
noncomputable section
namespace Kz
open Go Go.RowKit Go.Proofs
def K26:KT:=[(26,16,[(0,[1]),(1,[1,3]),(2,[1,3]),(3,[1,3]),(4,[2])])]
def B26:aw:=bO Pz K26 [(38,G38),(54,G54),(55,G55)] [] []
theorem age:aV B26:=ak aj ⟨s38,s54,s55,trivial⟩ trivial trivial
def CZ (a:Pos):M':=([]++FF a++GL a++Vu a)
def Et (a:Pos):Bool:=(Hd (a)&&(0==0&&decide (0+(FF a).length≤1073741824)&&(Bc (a)&&(([]++FF a).length==([]++FF a).length&&decide (([]++FF a).length+(GL a).length≤1073741824)&&(Ha (a)&&(([]++FF a++GL a).length==([]++FF a++GL a).length&&decide (([]++FF a++GL a).length+(Vu a).length≤1073741824)&&true))))))
theorem P26 (a:Pos) (h:Et a=true):PS Pz 26 [Pos.av a] ((dL .mv).res (CZ a)):=pq14 age h
def G26:GT:=g1 aY (fun a=>cg (Et a) ((dL .mv).res (CZ a)))
theorem s26:Sound Pz 26 G26:=aF fun a=>ay (P26 a)
def K75:KT:=[(75,8,[(0,[1,2]),(1,[4])])]
def B75:aw:=bO Pz K75 [(150,xn)] [] []
theorem ahE:aV B75:=ak aj ⟨zh,trivial⟩ trivial trivial
def oW (a:Pos) (b:Int):Int:=(cr (Pos.mk a.variant a.ae a.ab a.af a.aa a.ai a.ah a.ag a.half a.full) b 6)
def pE (a:Pos) (b:Int):Bool:=(uC (Pos.mk a.variant a.ae a.ab a.af a.aa a.ai a.ah a.ag a.half a.full) (b) (6)&&true)
theorem P75 (a:Pos) (b:Int) (h:pE a b=true):PS Pz 75 [Pos.av a,.int .u8 b] ((dI .i64).res (oW a b)):=pq14 ahE h
def UM:GT:=g2 aY (dI .u8) (fun a b=>cg (pE a b) ((dI .i64).res (oW a b)))
theorem Vn:Sound Pz 75 UM:=aT fun a b=>ay (P75 a b)
def K85:KT:=[(85,48,[(0,(2::3::(rn 21 4 (rn 31 7 (rn 43 4 []))))),(1,(2::3::5::6::(rn 21 4 (rn 31 7 (rn 43 4 []))))),(2,(2::3::5::6::16::(rn 21 4 (rn 31 7 (rn 43 4 []))))),(3,(2::3::5::6::7::(rn 31 7 (rn 43 4 [])))),(4,(2::3::6::38::(rn 43 4 []))),(5,[4]),(6,[4])])]
def B85:aw:=bO Pz K85 [(33,YG),(75,UM),(84,VB)] [] []
theorem adV:aV B85:=ak aj ⟨s33,Vn,Z1,trivial⟩ trivial trivial
def Vz (a:Pos) (b:Pos):Bool:=(bif LH a.variant a.aa then (bif a.variant==3 then (bif decide (oW b a.aa<0) then (false) else (bif !decide (oW b (wr .u8 (1-a.aa))<0) then (bif ni b a.aa then (false) else (bif a.variant != 8 then (true) else (!ni b (wr .u8 (1-a.aa))))) else (bif a.variant != 8 then (true) else (!ni b (wr .u8 (1-a.aa)))))) else (bif decide (oW b a.aa<0) then (false) else (bif ni b a.aa then (false) else (bif a.variant != 8 then (true) else (!ni b (wr .u8 (1-a.aa))))))) else (bif a.variant != 8 then (true) else (!ni b (wr .u8 (1-a.aa)))))
def Ig (a:Pos) (b:Pos):Bool:=(bif LH a.variant a.aa then (bif a.variant==3 then (pE (b) (wr .u8 (1-a.aa))&&(pE (b) (a.aa)&&(bif decide (oW b a.aa<0) then true else (bif !decide (oW b (wr .u8 (1-a.aa))<0) then (jn (b) (a.aa)&&(bif ni b a.aa then true else (bif a.variant != 8 then true else (jn (b) (wr .u8 (1-a.aa))&&true)))) else (bif a.variant != 8 then true else (jn (b) (wr .u8 (1-a.aa))&&true)))))) else (pE (b) (a.aa)&&(bif decide (oW b a.aa<0) then true else (jn (b) (a.aa)&&(bif ni b a.aa then true else (bif a.variant != 8 then true else (jn (b) (wr .u8 (1-a.aa))&&true))))))) else (bif a.variant != 8 then true else (jn (b) (wr .u8 (1-a.aa))&&true)))
theorem P85 (a:Pos) (b:Pos) (h:Ig a b=true):PS Pz 85 [Pos.av a,Pos.av b] (dB.res (Vz a b)):=pq14 adV h
def G85:GT:=g2 aY aY (fun a b=>cg (Ig a b) (dB.res (Vz a b)))
theorem s85:Sound Pz 85 G85:=aT fun a b=>ay (P85 a b)
def K35:KT:=[(35,77,[(0,(1::(rn 11 12 (rn 52 7 [71,72,73])))),(1,(1::3::4::(rn 11 12 (rn 52 7 [71,72,73])))),(2,(1::3::4::23::(rn 52 7 [71,72,73]))),(3,[2]),(4,(1::3::4::5::(rn 52 7 [71,72,73]))),(5,(1::(rn 3 4 (rn 52 7 [71,72,73])))),(6,(1::(rn 3 4 (29::(rn 52 7 [71,72,73]))))),(7,(1::(rn 3 4 (rn 52 7 [71,72,73])))),(8,(1::(rn 3 4 (40::(rn 52 7 [71,72,73]))))),(9,(1::(rn 3 4 (rn 52 7 [71,72,73])))),(10,(1::(rn 3 4 (rn 52 8 [71,72,73])))),(11,(1::(rn 3 4 (rn 52 7 [71,72,73])))),(12,[3,4,74]),(13,[2]),(14,[2])])]
def WU:aw:=bO Pz K35 [(19,LP),(26,G26),(36,G36),(75,UM),(84,VB),(85,G85),(39,TA)] [] []
theorem SK:aV WU:=ak aj ⟨No,s26,s36,Vn,Z1,s85,Vr,trivial⟩ trivial trivial
def QF (p1:M') (p2:Pos) (p3:Nat) (x:(M'×M'×Int×Nat)):St:=St.mk (.any::.ptr 0 0::.any::.list .mv x.1 (.own 1)::.list .mv x.2.1 (.own 2)::.list .mv p1 .fresh::.int .i64 x.2.2.1::(an 64 (.undef::.undef::.undef::(an 3 [])))) (Hp.mk [(pc p2 [])] [p3,x.1.length,x.2.2.2] [] 0 0 0)
def OP (p1:M') (p2:Pos) (p3:Nat):(M'×M'×Int×Bool×Nat)→Out:=fun y=>.exit 0 (St.mk (.any::.ptr 0 0::.any::.list .mv y.1 (.own 1)::.list .mv y.2.1 (.own 2)::.list .mv p1 .fresh::.int .i64 y.2.2.1::(an 22 (.bool y.2.2.2.1::(an 41 (.undef::.undef::.undef::(an 3 [])))))) (Hp.mk [(pc p2 [])] [p3,y.1.length,y.2.2.2.2] [] 0 0 0))
def JO (p1:M') (p2:Pos) (p3:Nat) (x:(M'×M'×Int×Nat)):aI (M'×M'×Int×Nat) ((M'×M'×Int×Bool×Nat)):=(bif decide (x.2.2.1<Int.ofNat p1.length) then (bif !Vz p2 (LO p2 (p1.getD x.2.2.1.toNat default)) then (aI.go (x.1,x.2.1,wr .i64 (x.2.2.1+1),x.2.2.2)) else (bif p2.variant==4 then (bif decide (ie p2 (p1.getD x.2.2.1.toNat default)≥0) then (aI.go (x.1++[p1.getD x.2.2.1.toNat default],x.2.1++[p1.getD x.2.2.1.toNat default],wr .i64 (x.2.2.1+1),(x.2.1++[p1.getD x.2.2.1.toNat default]).length)) else (aI.go (x.1++[p1.getD x.2.2.1.toNat default],x.2.1,wr .i64 (x.2.2.1+1),x.2.2.2))) else (aI.go (x.1++[p1.getD x.2.2.1.toNat default],x.2.1,wr .i64 (x.2.2.1+1),x.2.2.2)))) else (aI.out ((x.1,x.2.1,x.2.2.1,decide (x.2.2.1<Int.ofNat p1.length),x.2.2.2))))
def DL (p1:M') (p2:Pos) (p3:Nat) (x:(M'×M'×Int×Nat)):Bool:=(bif decide (x.2.2.1<Int.ofNat p1.length) then (decide (0≤x.2.2.1)&&decide (x.2.2.1<Int.ofNat p1.length)&&(Ge (p2) (p1.getD x.2.2.1.toNat default)&&(Ig (p2) (LO p2 (p1.getD x.2.2.1.toNat default))&&(bif !Vz p2 (LO p2 (p1.getD x.2.2.1.toNat default)) then true else (decide (0≤x.2.2.1)&&decide (x.2.2.1<Int.ofNat p1.length)&&(x.1.length==x.1.length&&decide (x.1.length+1≤1073741824)&&(bif p2.variant==4 then (decide (0≤x.2.2.1)&&decide (x.2.2.1<Int.ofNat p1.length)&&(xW (p2) (p1.getD x.2.2.1.toNat default)&&(bif decide (ie p2 (p1.getD x.2.2.1.toNat default)≥0) then (decide (0≤x.2.2.1)&&decide (x.2.2.1<Int.ofNat p1.length)&&(x.2.2.2==x.2.1.length&&decide (x.2.1.length+1≤1073741824)&&true)) else true))) else true))))))) else true)
def gp (p1:M') (p2:Pos) (p3:Nat) (x:(M'×M'×Int×Nat)):Option ((M'×M'×Int×Bool×Nat)):=da (fun x=>bif DL p1 p2 p3 x then JO p1 p2 p3 x else .bad) many x
abbrev Q0 {α:Type} (k:M'→Pos→Nat→(M'×M'×Int×Nat)→α) (s:St):α:=wP s 0 fun q0=>k (tL (ET.mv) (tT s 5)) q0 (tK s 0) ((tL (ET.mv) (tT s 3)),(tL (ET.mv) (tT s 4)),(tI (tT s 6)),(tK s 2))
theorem aa3 (p1:M') (p2:Pos) (p3:Nat) (x:(M'×M'×Int×Nat)) (r:(M'×M'×Int×Bool×Nat)) (h:gp p1 p2 p3 x=some r):aB Pz (bj Pz 35 6) (QF p1 p2 p3 x) (OP p1 p2 p3 r):=smq (m:=12) (fn:=35) SK (Q0 fun _ _ _ x=>some x) (fun o=>match o with | .exit 0 s=>some ((tL ET.mv (tT s 3)),(tL ET.mv (tT s 4)),(tI (tT s 6)),(tB (tT s 29)),(tK s 2)) | _=>none) many x r h
def QV (b:Code) (s:St):Tr Out:=Q0 (fun p1 p2 p3 x=>mH b (bj Pz 35 6) s (QF p1 p2 p3 x) (gp p1 p2 p3 x) (OP p1 p2 p3)) s
theorem UQ:∀ b,aZ Pz b (QV b):=fun _ _ _ h=>bX (aa3 _ _ _ _) h
def B35:aw:=bO Pz K35 [(19,LP),(26,G26),(36,G36),(75,UM),(84,VB),(85,G85),(39,TA)] [(35,6,QV)] []
theorem agn:aV B35:=ak aj ⟨No,s26,s36,Vn,Z1,s85,Vr,trivial⟩ ⟨UQ,trivial⟩ trivial
def Fi (a:Pos):M':=(bif !yj a then ([]) else (bif LH a.variant a.aa then (bif decide (oW a a.aa<0) then ([]) else (bif a.variant==4 then (bif decide (Int.ofNat ((gp (CZ a) a 0 ([],[],0,0)).getD default).2.1.length>0) then (((gp (CZ a) a 0 ([],[],0,0)).getD default).2.1) else (((gp (CZ a) a 0 ([],[],0,0)).getD default).1)) else (((gp (CZ a) a 0 ([],[],0,0)).getD default).1))) else (bif a.variant==4 then (bif decide (Int.ofNat ((gp (CZ a) a 0 ([],[],0,0)).getD default).2.1.length>0) then (((gp (CZ a) a 0 ([],[],0,0)).getD default).2.1) else (((gp (CZ a) a 0 ([],[],0,0)).getD default).1)) else (((gp (CZ a) a 0 ([],[],0,0)).getD default).1))))
def xD (a:Pos):Bool:=(bif !yj a then true else (bif LH a.variant a.aa then (pE (a) (a.aa)&&(bif decide (oW a a.aa<0) then true else (Et (a)&&((gp (CZ a) a 0 ([],[],0,0)).isSome&&true)))) else (Et (a)&&((gp (CZ a) a 0 ([],[],0,0)).isSome&&true))))
theorem P35 (a:Pos) (h:xD a=true):PS Pz 35 [Pos.av a] ((dL .mv).res (Fi a)):=pq14 agn h
def G35:GT:=g1 aY (fun a=>cg (xD a) ((dL .mv).res (Fi a)))
theorem s35:Sound Pz 35 G35:=aF fun a=>ay (P35 a)
end Kz
end
noncomputable section
namespace Kz
open Go Go.RowKit
theorem lq {q:Pos} (hq:aO q) {c:Int} (hc:c=0∨c=1):pE q c=true∧oW q c=aX q c 6:=by
 obtain ⟨h1,h2⟩:=nM hq hc (k:=6) (by omega) (by omega)
 exact ⟨ao h1 fun _=>rfl,h2⟩
theorem DG (x:Int):decide (x<0)=!decide (x≥0):=by
 by_cases h:x<0
 ·rw [decide_eq_true h,decide_eq_false (show ¬ x≥0 by omega)];rfl
 ·rw [decide_eq_false h,decide_eq_true (show x≥0 by omega)];rfl
noncomputable section
variable {p:Pos} (hp:aO p) (hth:there p)
include hp hth
theorem TF:Et p=true∧CZ p=bL p:=by
 obtain ⟨a1,a2⟩:=Sy hp hth
 obtain ⟨b1,b2⟩:=UN hp
 obtain ⟨c1,c2⟩:=T7 hp
 have l1:(dX p).length≤20480:=jL hp.v0
 have l2:=rS (p:=p) hp
 have l3:=td (p:=p) hp.t0
 unfold Et CZ
 rw [a1,a2,b1,b2,c1,c2,nk,List.nil_append]
 refine ⟨?_,rfl⟩
 rw [decide_eq_true (show 0+(dX p).length≤1073741824 by omega),decide_eq_true (show (dX p).length+(eL p).length≤1073741824 by omega),decide_eq_true (show (dX p++eL p).length+(mG p).length≤1073741824 by rw [List.length_append];omega),beq_self_eq_true,beq_self_eq_true,beq_self_eq_true]
 rfl
theorem L1 {m:Mv} (hm:m∈bL p):Ig p (LO p m)=true∧Vz p (LO p m)=dA p m:=by
 obtain ⟨t,hpt,ht⟩:=gJ hp hth.1
 obtain ⟨_,e58⟩:=CE hp hth hm
 have hmv:=(od hp m).2.1 hm
 have e17:mI p m=(LN p m,true):=by
  rw [Oj,pw (by have:=mg hp;omega),decide_eq_true hm];rfl
 rw [e17] at hmv
 obtain ⟨_,hq,_,htq⟩:=hmv
 have hqt:(LN p m).aa=0∨(LN p m).aa=1:=by have:(LN p m).aa=1-p.aa:=htq;omega
 have hc:p.aa=0∨p.aa=1:=by omega
 have hc':wr .u8 (1-p.aa)=0∨wr .u8 (1-p.aa)=1:=by rw [hpt,o6 (by omega) (by omega)];omega
 obtain ⟨o1,e1⟩:=lq hq hc
 obtain ⟨o2,e2⟩:=lq hq hc'
 obtain ⟨o3,e3⟩:=sD hq hqt hc
 obtain ⟨o4,e4⟩:=sD hq hqt hc'
 have er:=sF (v:=p.variant) hp.v0 hc
 rw [e58]
 unfold Ig Vz dA nh
 rw [e17,er,e1,e2,e3,e4,o1,o2,o3,o4,DG,DG]
 simp only [Bool.not_true,Bool.not_not,cond_false,Bool.true_and,Bool.and_true,bne]
 cases jr p.variant p.aa<;>cases p.variant==3<;>cases decide (aX (LN p m) p.aa 6≥0)<;>cases decide (aX (LN p m) (wr .u8 (1-p.aa)) 6≥0)<;>cases mD (LN p m) p.aa<;>cases p.variant==8<;>cases mD (LN p m) (wr .u8 (1-p.aa))<;>exact ⟨rfl,rfl⟩
theorem aeJ:∃ r,gp (bL p) p 0 ([],[],0,0)=some r∧r.1=(bL p).filter (dA p)∧r.2.1=(bif p.variant==4 then ((bL p).filter (dA p)).filter (fT p) else []):=by
 have hlen:=mg hp
 refine bh (Q:=fun r:M'×M'×Int×Bool×Nat=>r.1=(bL p).filter (dA p)∧r.2.1=(bif p.variant==4 then ((bL p).filter (dA p)).filter (fT p) else [])) (I:=fun x:M'×M'×Int×Nat=>∃ n:Nat,n≤(bL p).length∧x.2.2.1=n∧x.1=((bL p).take n).filter (dA p)∧x.2.1=(bif p.variant==4 then (((bL p).take n).filter (dA p)).filter (fT p) else [])∧x.2.2.2=x.2.1.length) (μ:=fun x=>((bL p).length-x.2.2.1).toNat) ?_ _ ⟨0,by omega,rfl,by simp,by cases p.variant==4<;>simp,rfl⟩ (by simp;omega)
 rintro ⟨a,b,x,k⟩ ⟨n,hn,hx,ha,hb,hk⟩
 simp only at hx ha hb hk
 subst hx ha hk
 unfold DL JO
 dsimp only
 by_cases hc:n<(bL p).length
 ·have hm:(bL p).getD n default∈bL p:=cS hc
  have ht:(bL p).take (n+1)=(bL p).take n++[(bL p).getD n default]:=by
   rw [List.take_add_one,List.getD_eq_getElem?_getD,I' hc];rfl
  have la:(((bL p).take n).filter (dA p)).length≤n:=Nat.le_trans (List.length_filter_le _ _) (by rw [List.length_take];omega)
  have lb:b.length≤n:=by
   rw [hb]
   refine au (P:=fun l:M'=>l.length≤n) (fun _=>Nat.le_trans (List.length_filter_le _ _) la) fun _=>by simp
  rw [decide_eq_true (show (n:Int)<Int.ofNat (bL p).length from Int.ofNat_lt.2 hc),decide_eq_true (show (0:Int)≤n by omega),Int.toNat_natCast,aN (n:=(n:Int)+1) (by omega) (by omega)]
  generalize (bL p).getD n default=m at *
  obtain ⟨o58,_⟩:=CE hp hth hm
  obtain ⟨o78,e78⟩:=L1 hp hth hm
  obtain ⟨o79,e79⟩:=tW hp hth hm
  have eT:fT p m=decide (bC p m≥0):=rfl
  rw [o58,o78,e78,o79,e79,decide_eq_true (show (((bL p).take n).filter (dA p)).length+1≤1073741824 by omega),decide_eq_true (show b.length+1≤1073741824 by omega),beq_self_eq_true,beq_self_eq_true]
  constructor
  ·cases dA p m<;>cases p.variant==4<;>cases decide (bC p m≥0)<;>rfl
  ·have go:∀ (a' b':M') (k':Nat),a'=((bL p).take (n+1)).filter (dA p)→b'=(bif p.variant==4 then (((bL p).take (n+1)).filter (dA p)).filter (fT p) else [])→k'=b'.length →
     zS (fun x:M'×M'×Int×Nat=>∃ n:Nat,n≤(bL p).length∧x.2.2.1=n∧x.1=((bL p).take n).filter (dA p)∧x.2.1=(bif p.variant==4 then (((bL p).take n).filter (dA p)).filter (fT p) else [])∧x.2.2.2=x.2.1.length) (fun r:M'×M'×Int×Bool×Nat=>r.1=(bL p).filter (dA p)∧r.2.1=(bif p.variant==4 then ((bL p).filter (dA p)).filter (fT p) else [])) (fun x:M'×M'×Int×Nat=>((bL p).length-x.2.2.1).toNat) ((((bL p).length:Int)-(n:Int)).toNat) (.go (a',b',(n:Int)+1,k')) :=
    fun a' b' k' h1 h2 h3=>⟨⟨n+1,by omega,by simp,h1,h2,h3⟩,by dsimp only;omega⟩
   have hf:((bL p).take (n+1)).filter (dA p)=bif dA p m then ((bL p).take n).filter (dA p)++[m] else ((bL p).take n).filter (dA p):=by
    rw [ht,List.filter_append]
    cases h:dA p m<;>simp [h]
   cases hw:dA p m with
   | false =>
    rw [hw] at hf
    exact go _ _ _ (by rw [hf];rfl) (by rw [hf];exact hb) rfl
   | true =>
    rw [hw] at hf
    simp only [cond_true] at hf
    cases hv:p.variant==4 with
    | false=>rw [hv] at hb go;exact go _ _ _ hf.symm hb rfl
    | true =>
     rw [hv] at hb go
     simp only [cond_true] at hb
     have hf2:(((bL p).take n).filter (dA p)++[m]).filter (fT p)=bif fT p m then b++[m] else b:=by
      rw [List.filter_append,hb]
      cases h:fT p m<;>simp [h]
     cases hd:decide (bC p m≥0) with
     | false=>exact go _ b _ hf.symm (by rw [hf,cond_true,hf2,eT,hd];rfl) rfl
     | true=>exact go _ (b++[m]) _ hf.symm (by rw [hf,cond_true,hf2,eT,hd];rfl) rfl
 ·rw [decide_eq_false (show ¬ ((n:Int)<Int.ofNat (bL p).length) from fun h=>hc (Int.ofNat_lt.1 h))]
  have:n=(bL p).length:=by omega
  subst this
  rw [List.take_length] at hb ⊢
  exact ⟨rfl,rfl,hb⟩
theorem F4:xD p=true∧Fi p=kC p:=by
 obtain ⟨t,hpt,ht⟩:=gJ hp hth.1
 have hc:p.aa=0∨p.aa=1:=by omega
 obtain ⟨a1,a2⟩:=TF hp hth
 obtain ⟨b1,b2,b3⟩:=aM (aeJ hp hth)
 obtain ⟨o1,e1⟩:=lq hp hc
 have er:=sF (v:=p.variant) hp.v0 hc
 rw [Be hp]
 unfold xD Fi nh kZ
 rw [jF hth,er,a1,a2,e1,o1,b1,b2,b3,DG]
 refine ⟨by cases jr p.variant p.aa<;>cases decide (aX p p.aa 6≥0)<;>rfl,?_⟩
 have any:∀ l:M',decide (Int.ofNat (l.filter (fT p)).length>0)=l.any (fT p):=fun l=>by
  rw [Bool.eq_iff_iff,decide_eq_true_eq,List.any_eq_true]
  constructor
  ·intro h
   have h:0<(l.filter (fT p)).length:=Int.ofNat_lt.1 h
   obtain ⟨x,hx⟩:=List.exists_mem_of_length_pos h
   exact ⟨x,(List.mem_filter.1 hx).1,(List.mem_filter.1 hx).2⟩
  ·rintro ⟨x,h1,h2⟩
   exact Int.ofNat_lt.2 (List.length_pos_of_mem (List.mem_filter.2 ⟨h1,h2⟩))
 cases p.variant==4 with
 | false=>cases jr p.variant p.aa<;>cases decide (aX p p.aa 6≥0)<;>rfl
 | true =>
  simp only [cond_true]
  rw [any]
  cases jr p.variant p.aa<;>cases decide (aX p p.aa 6≥0)<;>rfl
end
end Kz
end
noncomputable section
namespace Kz
open Go Go.RowKit Go.Proofs
def K76:KT:=[(76,11,[(0,[0,1,4]),(1,[1,4,6]),(2,[4]),(3,[4])])]
def B76:aw:=bO Pz K76 [] [] []
theorem afr:aV B76:=ak aj trivial trivial trivial
def mT (a:Int) (b:Int):(Int×Int):=(bif a==0 then ⟨(1),(b)⟩ else ⟨(2),(b)⟩)
def adr (a:Int) (b:Int):Bool:=true
theorem P76 (a:Int) (b:Int) (h:adr a b=true):PS Pz 76 [.int .u8 a,.int .u8 b] ((dR .u8 .u8).res (mT a b)):=pq14 afr h
def G76:GT:=g2 (dI .u8) (dI .u8) (fun a b=>.ret ((dR .u8 .u8).res (mT a b)))
theorem s76:Sound Pz 76 G76:=aT fun a b=>bK (P76 a b rfl)
def K77:KT:=[(77,17,[(0,[0,6,7,10,11,14,15]),(1,[2])])]
def B77:aw:=bO Pz K77 [] [] []
theorem adu:aV B77:=ak aj trivial trivial trivial
def RE (a:Int):Bool:=(bif a==27 then (true) else (bif a==28 then (true) else (bif a==35 then (true) else (a==36))))
def acr (a:Int):Bool:=true
theorem P77 (a:Int) (h:acr a=true):PS Pz 77 [.int .i64 a] (dB.res (RE a)):=pq14 adu h
def G77:GT:=g1 (dI .i64) (fun a=>.ret (dB.res (RE a)))
theorem s77:Sound Pz 77 G77:=aF fun a=>bK (P77 a rfl)
def K78:KT:=[(78,14,[(0,[1,2]),(1,[1,2,5]),(2,[1,2,5,7]),(3,[1,2,5]),(4,[1,2,5,13]),(5,[4]),(6,[4])])]
def W5:aw:=bO Pz K78 [(151,Lf)] [] []
theorem R7:aV W5:=ak aj ⟨Mx,trivial⟩ trivial trivial
def O7 (p1:Int) (p2:Pos) (x:(Int)):St:=St.mk (.any::.int .u8 p1::.ptr 0 0::.any::.any::.int .i64 x::(an 8 [])) (Hp.mk [(pc p2 [])] [] [] 0 0 0)
def PF (p1:Int) (p2:Pos):Unit ⊕ (Int×Bool)→Out
 | (.inl (y))=>.ret (St.mk (an 4 (AV.aQ true::(an 9 []))) (Hp.mk [(pc p2 [])] [] [] 0 0 0))
 | (.inr (y))=>.exit 0 (St.mk (AV.any::AV.int .u8 p1::AV.ptr 0 0::AV.any::AV.any::AV.int .i64 y.1::AV.any::AV.bool y.2::(an 6 [])) (Hp.mk [(pc p2 [])] [] [] 0 0 0))
def F1 (p1:Int) (p2:Pos) (x:(Int)):aI (Int) (Unit ⊕ (Int×Bool)):=(bif decide (x<64) then (bif sJ (Pos.mk p2.variant p2.ae p2.ab p2.af p2.aa p2.ai p2.ah p2.ag p2.half p2.full) x p1 then (aI.out (.inl (()))) else (aI.go (wr .i64 (x+1)))) else (aI.out (.inr ((x,decide (x<64))))))
def DY (p1:Int) (p2:Pos) (x:(Int)):Bool:=(bif decide (x<64) then (qE (Pos.mk p2.variant p2.ae p2.ab p2.af p2.aa p2.ai p2.ah p2.ag p2.half p2.full) (x) (p1)&&true) else true)
def pT (p1:Int) (p2:Pos) (x:(Int)):Option (Unit ⊕ (Int×Bool)):=da (fun x=>bif DY p1 p2 x then F1 p1 p2 x else .bad) many x
abbrev Pw {α:Type} (k:Int→Pos→(Int)→α) (s:St):α:=wP s 0 fun q0=>k (tI (tT s 1)) q0 ((tI (tT s 5)))
theorem ZH (p1:Int) (p2:Pos) (x:(Int)) (r:Unit ⊕ (Int×Bool)) (h:pT p1 p2 x=some r):aB Pz (bj Pz 78 2) (O7 p1 p2 x) (PF p1 p2 r):=aB.xO (m:=12) (fn:=78) R7 (Pw fun _ _ x=>some x) (fun o=>match o with | .ret s=>some (.inl ()) | .exit 0 s=>some (.inr ((tI (tT s 5)),(tB (tT s 7)))) | _=>none) (fun r=>by cases r<;>rfl) (fun _=>by kernel_rfl) (fun _=>by kernel_rfl) (fun _=>by kernel_rfl) (fun _=>by kernel_rfl) many x r h
def OZ (b:Code) (s:St):Tr Out:=Pw (fun p1 p2 x=>w9 b (bj Pz 78 2) s (O7 p1 p2 x) (pT p1 p2 x) (PF p1 p2)) s
theorem Va:∀ b,aZ Pz b (OZ b):=fun _ _ _ h=>ez (ZH _ _ _) h
def B78:aw:=bO Pz K78 [(151,Lf)] [(78,2,OZ)] []
theorem aiZ:aV B78:=ak aj ⟨Mx,trivial⟩ ⟨Va,trivial⟩ trivial
def QL (a:Pos) (b:Int):Bool:=(bif cu ((pT b (Pos.mk a.variant a.ae a.ab a.af a.aa a.ai a.ah a.ag a.half a.full) 0).getD default) then (true) else (false))
def BF (a:Pos) (b:Int):Bool:=((pT b (Pos.mk a.variant a.ae a.ab a.af a.aa a.ai a.ah a.ag a.half a.full) 0).isSome&&bif cu ((pT b (Pos.mk a.variant a.ae a.ab a.af a.aa a.ai a.ah a.ag a.half a.full) 0).getD default) then true else true)
theorem P78 (a:Pos) (b:Int) (h:BF a b=true):PS Pz 78 [Pos.av a,.int .u8 b] (dB.res (QL a b)):=pq14 aiZ h
def G78:GT:=g2 aY (dI .u8) (fun a b=>cg (BF a b) (dB.res (QL a b)))
theorem s78:Sound Pz 78 G78:=aT fun a b=>ay (P78 a b)
end Kz
end
