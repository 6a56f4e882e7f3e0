/- Part 7 of the texts under the proof: an abstract interpreter,the summaries of functions,plain laws. -/
import Derived.Test.YtgbndomcmihfkaaGreatDoorD6
set_option linter.unusedSectionVars false
set_option linter.unusedVariables false
set_option linter.unusedSimpArgs false
set_option linter.unnecessarySimpa false
set_option maxRecDepth 100000
set_option maxHeartbeats 4000000
noncomputable section
namespace Kz
open Go Go.RowKit
theorem CA:∀ a b:Fin 64,iF a.val b.val=(cZ b.val).getLsbD a.val∧iF a.val a.val=false:=by decide +kernel
theorem Gy:∀ v:Fin 256,(gQ v.val&&!dn 0 1 v.val&&!dn 1 1 v.val)=(bg v.val != 0&&bg v.val != 1):=by decide +kernel
theorem V5 {q:Pos} (hq:aA q) {b:Int} (b0:0≤b) (b1:b<64):JI q b=true∧MG q b=nD q b:=by
 obtain ⟨n,rfl⟩:=Int.eq_ofNat_of_zero_le b0
 have hn:n<64:=by omega
 have hl:∃ r,sq (n:Int) q (0#64,0)=some r∧∀ i:Nat,i<64→r.1.getLsbD i=(decide (i=n) || (iF i n&&(bg (q.ae.getD i 0) != 0&&bg (q.ae.getD i 0) != 1))):=by
  refine wj (fin:=fun r:BitVec 64×Int×Bool=>r.1) (fun i=>decide (i=n) || (iF i n&&(bg (q.ae.getD i 0) != 0&&bg (q.ae.getD i 0) != 1))) (fun o i hi=>?_) fun o=>⟨rfl,_,rfl,rfl⟩
  unfold Dj JN
  dsimp only
  rw [decide_eq_true (show (i:Int)<64 by omega),decide_eq_true (show (n:Int)≥0 by omega),decide_eq_true (show (n:Int)<64 by omega),decide_eq_true (show (0:Int)≤i by omega),show ((i:Int)==n)=decide (i=n) by rw [yK,decide_eq_decide];omega,dh,Int.toNat_natCast,aF (n:=(i:Int)+1) (by omega) (by omega),cP (by omega) (by omega),Int.toNat_natCast]
  refine ⟨rfl,?_⟩
  cases decide (i=n)<;>cases iF i n<;>cases (bg (q.ae.getD i 0) != 0)<;>cases (bg (q.ae.getD i 0) != 1)<;>rfl
 obtain ⟨h1,h2⟩:=aK hl
 refine ⟨ao h1 fun _=>rfl,BitVec.eq_of_getLsbD_eq fun i hi=>?_⟩
 have e1:(MG q n).getLsbD i=(decide (i=n) || (iF i n&&(bg (q.ae.getD i 0) != 0&&bg (q.ae.getD i 0) != 1))):=h2 i hi
 rw [e1]
 unfold nD
 rw [decide_eq_false (show ¬ ((n:Int)<0) by omega),decide_eq_false (show ¬ ((n:Int)≥64) by omega)]
 simp only [cond_false,BitVec.getLsbD_or,BitVec.getLsbD_and,BitVec.getLsbD_not,hi,decide_true,Bool.true_and]
 rw [show (⟨q.variant,q.ae,q.ab,q.af,q.aa,q.ai,q.ah,q.ag,q.half,q.full⟩:Pos)=q from rfl,ly _ hi,cf _ _ _ hi,cf _ _ _ hi,cP (by omega) (by omega),Int.toNat_natCast,fN hi,show wr .u8 (0+1)=1 from rfl]
 have hb:=gu (d:=0) hq.b0 (by omega) i
 obtain ⟨v,hv⟩:=Int.eq_ofNat_of_zero_le hb.1
 have k1:=Gy ⟨v,by omega⟩
 have k2:=(CA ⟨i,hi⟩ ⟨n,hn⟩).1
 simp only at k1 k2
 rw [← hv] at k1
 rw [← k1,k2]
 cases decide (i=n)<;>cases (cZ (n:Int)).getLsbD i<;>cases gQ (q.ae.getD i 0)<;>cases dn 0 1 (q.ae.getD i 0)<;>cases dn 1 1 (q.ae.getD i 0)<;>rfl
def wb (q:Pos) (B:List Int):Pos:=⟨q.variant,B,q.ab,q.af,q.aa,q.ai,q.ah,q.ag,q.half,q.full⟩
theorem IB {A B:List Int} {n:Nat} (ha:A.length=n) (hb:B.length=n) (h:∀ i,i<n→A.getD i 0=B.getD i 0):A=B:=by
 refine List.ext_getElem (by omega) fun i h1 h2=>?_
 have:=h i (by omega)
 rw [List.getD_eq_getElem?_getD,List.getD_eq_getElem?_getD,I' h1,I' h2] at this
 exact this
theorem agd {q:Pos} (hq:aA q) (d:Int) (bits:BitVec 64) (p:Pos) (m:Mv):∃ r,lH d bits p m (0,q)=some r∧∃ B,r.2.2=wb q B∧B.length=64∧∀ i,i<64→B.getD i 0=bif bits.getLsbD i then 0 else q.ae.getD i 0:=by
 refine aU (Q:=fun r:Int×Bool×Pos=>∃ B,r.2.2=wb q B∧B.length=64∧∀ i,i<64→B.getD i 0=bif bits.getLsbD i then 0 else q.ae.getD i 0) (I:=fun x:Int×Pos=>∃ n:Nat,n≤64∧x.1=n∧∃ B,x.2=wb q B∧B.length=64∧∀ i,i<64→B.getD i 0=bif decide (i<n)&&bits.getLsbD i then 0 else q.ae.getD i 0) (μ:=fun x=>(64-x.1).toNat) ?_ _ ⟨0,by omega,rfl,q.ae,rfl,hq.bl,fun i hi=>by simp⟩ (by simp)
 rintro ⟨x,q'⟩ ⟨n,hn,hx,B,hB,hl,h⟩
 simp only at hx hB
 subst hx hB
 unfold EP KX
 dsimp only
 by_cases hc:n<64
 ·rw [decide_eq_true (show (n:Int)<64 by omega),EY _ (by omega) (by omega),Int.toNat_natCast,aF (n:=(n:Int)+1) (by omega) (by omega),dh,Int.toNat_natCast,decide_eq_true (show (0:Int)≤n by omega)]
  have e64:decide ((n:Int)<Int.ofNat 64)=true:=decide_eq_true (by show (n:Int)<64;omega)
  rw [e64]
  cases hb:bits.getLsbD n with
  | true =>
   refine ⟨rfl,⟨n+1,by omega,by simp,B.set n 0,rfl,by simp [hl],fun i hi=>?_⟩,by dsimp only;omega⟩
   rw [HJ (by rw [hl];exact hc)]
   by_cases e:n=i
   ·subst e;rw [if_pos rfl,hb];simp
   ·rw [if_neg e,h i hi,show decide (i<n+1)=decide (i<n) by rw [decide_eq_decide];omega]
  | false =>
   refine ⟨rfl,⟨n+1,by omega,by simp,B,rfl,hl,fun i hi=>?_⟩,by dsimp only;omega⟩
   rw [h i hi]
   by_cases e:n=i
   ·subst e;rw [hb];simp
   ·rw [show decide (i<n+1)=decide (i<n) by rw [decide_eq_decide];omega]
 ·have:n=64:=by omega
  subst this
  refine ⟨rfl,B,rfl,hl,fun i hi=>?_⟩
  rw [h i hi,decide_eq_true hi,Bool.true_and]
theorem QJ {q:Pos} (hq:aA q) {l:List Int} (hl0:l.length≤64) (hin:∀ s∈l,0≤s∧s<64) (a b:Pos) (c d:Mv) (e:Int):∃ r,kr l (Int.ofNat l.length) a c b d e (0,q)=some r∧∃ B,r.2.2=wb q B∧B.length=64∧∀ i:Nat,i<64→B.getD i 0=bif decide ((i:Int)∈l) then 0 else q.ae.getD i 0:=by
 refine aU (Q:=fun r:Int×Bool×Pos=>∃ B,r.2.2=wb q B∧B.length=64∧∀ i:Nat,i<64→B.getD i 0=bif decide ((i:Int)∈l) then 0 else q.ae.getD i 0) (I:=fun x:Int×Pos=>∃ n:Nat,n≤l.length∧x.1=n∧∃ B,x.2=wb q B∧B.length=64∧∀ i:Nat,i<64→B.getD i 0=bif decide ((i:Int)∈l.take n) then 0 else q.ae.getD i 0) (μ:=fun x=>(l.length-x.1).toNat) ?_ _ ⟨0,by omega,rfl,q.ae,rfl,hq.bl,fun i hi=>by simp⟩ (by simp;omega)
 rintro ⟨x,q'⟩ ⟨n,hn,hx,B,hB,hl,h⟩
 simp only at hx hB
 subst hx hB
 unfold E9 CX
 dsimp only
 by_cases hc:n<l.length
 ·have hs:=hin _ (ct (d:=default) hc)
  have ht:l.take (n+1)=l.take n++[l.getD n default]:=by
   rw [List.take_add_one,List.getD_eq_getElem?_getD,I' hc];rfl
  rw [decide_eq_true (show (n:Int)<Int.ofNat l.length from Int.ofNat_lt.2 hc),decide_eq_true (show (0:Int)≤n by omega),Int.toNat_natCast,aF (n:=(n:Int)+1) (by omega) (by omega),dh,decide_eq_true hs.1,decide_eq_true (show l.getD n default<Int.ofNat 64 from hs.2)]
  refine ⟨rfl,⟨n+1,by omega,by simp,B.set (l.getD n default).toNat 0,rfl,by simp [hl],fun i hi=>?_⟩,by dsimp only;omega⟩
  rw [HJ (by rw [hl];omega),ht]
  by_cases e:(l.getD n default).toNat=i
  ·rw [if_pos e,decide_eq_true (show (i:Int)∈l.take n++[l.getD n default] by rw [List.mem_append,List.mem_singleton];right;omega)]
   rfl
  ·rw [if_neg e,h i hi]
   congr 1
   rw [decide_eq_decide,List.mem_append,List.mem_singleton]
   constructor
   ·exact .inl
   ·rintro (h | h)
    ·exact h
    ·omega
 ·rw [decide_eq_false (show ¬ ((n:Int)<Int.ofNat l.length) from fun h=>hc (Int.ofNat_lt.1 h))]
  have:n=l.length:=by omega
  subst this
  refine ⟨rfl,B,rfl,hl,fun i hi=>?_⟩
  rw [h i hi,List.take_length]
theorem NJ {p q:Pos} (hk:dm p q) {m:Mv} (o0:0≤m.to) (o1:m.to<64) (d:Int):JI q (wr .i64 m.to)=true∧(lH d (MG q (wr .i64 m.to)) p m (0,q)).isSome=true ∧
  (bif p.variant==3 then (bif decide (d≥0) then ((lH d (MG q (wr .i64 m.to)) p m (0,q)).getD default).2.2 else q) else q)=cr p m q p m d:=by
 have hq:=hk.bU
 have wt:wr .i64 m.to=m.to:=aF (by omega) (by omega)
 obtain ⟨k1,k2⟩:=V5 hq o0 o1
 obtain ⟨a1,B,a2,a3,a4⟩:=aK (agd hq d (MG q m.to) p m)
 obtain ⟨b1,C,b2,b3,b4⟩:=aK (QJ hq (l:=gn (nD q m.to)) (by rw [dy];exact fa _ _) (fun s hs=>by rw [dy] at hs;exact lJ hs) p p m m d)
 rw [wt]
 refine ⟨k1,a1,?_⟩
 unfold cr
 rw [wt,a2,b2,hk.v]
 have e:B=C:=IB a3 b3 fun i hi=>by
  rw [a4 i hi,b4 i hi,k2]
  congr 1
  rw [dy]
  cases hb:(nD q m.to).getLsbD i with
  | true=>exact (decide_eq_true (nZ.2 ⟨i,hi,hb,rfl⟩)).symm
  | false =>
   refine (decide_eq_false fun h=>?_).symm
   obtain ⟨j,_,hj,he⟩:=nZ.1 h
   have:j=i:=by omega
   subst this
   rw [hb] at hj;cases hj
 rw [e]
 by_cases hv:p.variant=3
 ·rw [hv]
  by_cases hd:d<0
  ·rw [decide_eq_true hd,decide_eq_false (show ¬ d≥0 by omega)];rfl
  ·rw [decide_eq_false hd,decide_eq_true (show d≥0 by omega)];rfl
 ·rw [beq_eq_false_iff_ne.2 hv,bne_iff_ne.2 hv];rfl
theorem sr {X R:Type} {f g:X→aG X R} (I:X→Prop) (h:∀ x,I x→f x=g x∧∀ y,f x=.go y→I y):∀ (n:Nat) (x:X),I x→cO f n x=cO g n x
 | 0,_,_=>rfl
 | n+1,x,hx=>by
  obtain ⟨h1,h2⟩:=h x hx
  rw [cO,cO,← h1]
  cases hf:f x with
  | go y=>exact sr I h n y (h2 y hf)
  | out r=>rfl
  | bad=>rfl
def wk (q:Pos) (R:List Int):Pos:=⟨q.variant,q.ae,q.ab,q.af,q.aa,R,q.ah,q.ag,q.half,q.full⟩
theorem aaz {q:Pos} (hq:aA q) {R:List Int} (hl:R.length=4) (hr:∀ x∈R,-128≤x∧x≤127):aA (wk q R) :=
 ⟨hq.v0,hq.v1,hq.bl,hq.b0,hq.kl,hq.k0,hq.t0,hq.t1,hl,hr,hq.p0,hq.p1,hq.cl,hq.c0,hq.h0,hq.f0⟩
def Eg (q:Pos) (c:Nat) (k s t:Int) (m:Mv):Bool :=
 decide (k<((56 * c:Nat):Int)) || (decide (k>((56 * c+7:Nat):Int)) || (!dn c 4 (q.ae.getD s.toNat 0) || (t==s || (m.aX==0&&m.az==s))))
noncomputable section
variable {q:Pos} (hq:aA q) {c:Nat} (hc:c≤1) {k:Int} (k0 : -1≤k) (k1:k<64) {m:Mv} (f0 : -128≤m.az∧m.az≤127) (t:Int) (p:Pos)
include hq hc k0 k1 f0
theorem CU (R:List Int) (hl:R.length=4) (hr:∀ x∈R,-128≤x∧x≤127) {n:Nat} (hn:n<2) (l:List Int) (hll:l.getD n 0=R.getD (2 * c+n) 0) (a b:Pos) (m1:Mv) :
  (bif xK (c:Int) k l a m1 b m t (n,wk q R) then sh (c:Int) k l a m1 b m t (n,wk q R) else .bad)=.go ((n:Int)+1,bif (decide (0≤R.getD (2 * c+n) 0)&&decide (R.getD (2 * c+n) 0≤7))&&Eg q c k (((56 * c:Nat):Int)+R.getD (2 * c+n) 0) t m then wk q (R.set (2 * c+n) (-1)) else wk q R) ∧
  (bif yF t (c:Int) ((56 * c:Nat):Int) k p m (n,wk q R) then CD t (c:Int) ((56 * c:Nat):Int) k p m (n,wk q R) else .bad)=.go ((n:Int)+1,bif (decide (0≤R.getD (2 * c+n) 0)&&decide (R.getD (2 * c+n) 0≤7))&&Eg q c k (((56 * c:Nat):Int)+R.getD (2 * c+n) 0) t m then wk q (R.set (2 * c+n) (-1)) else wk q R):=by
 have hf:=gu (d:=0) hr (by omega) (2 * c+n)
 have hsc:(scale 2 (c:Int)+scale 1 (n:Int)).toNat=2 * c+n:=by unfold scale;simp;omega
 have i1:decide ((0:Int)≤c)=true:=decide_eq_true (by omega)
 have i2:decide ((c:Int)<Int.ofNat 2)=true:=decide_eq_true (by show (c:Int)<2;omega)
 have i3:decide ((0:Int)≤n)=true:=decide_eq_true (by omega)
 have i4:decide ((n:Int)<Int.ofNat 2)=true:=decide_eq_true (by show (n:Int)<2;omega)
 have i5:decide ((n:Int)<2)=true:=decide_eq_true (by omega)
 have w1:wr .i64 ((n:Int)+1)=n+1:=aF (by omega) (by omega)
 have wc:wr .i64 (c:Int)=c:=aF (by omega) (by omega)
 have w56:wr .i64 (56 * (c:Int))=((56 * c:Nat):Int):=by rw [aF (by omega) (by omega)];omega
 have w7:wr .i64 (((56 * c:Nat):Int)+7)=((56 * c+7:Nat):Int):=by rw [aF (by omega) (by omega)];omega
 have hrk:(wk q R).ai.getD (2 * c+n) 0=R.getD (2 * c+n) 0:=rfl
 unfold xK sh yF CD
 dsimp only
 rw [hsc,Int.toNat_natCast,hll,hrk,i1,i2,i3,i4,i5,w1,wc,w56,w7]
 generalize hfe:R.getD (2 * c+n) 0=f at hf ⊢
 rw [aF (n:=f) (by omega) (by omega),aF (n:=m.az) (by omega) (by omega)]
 by_cases h0:f<0
 ·rw [decide_eq_true h0,decide_eq_false (show ¬ (0≤f) by omega)]
  exact ⟨rfl,rfl⟩
 ·by_cases h7:f>7
  ·rw [decide_eq_false h0,decide_eq_true h7,decide_eq_false (show ¬ (f≤7) by omega),Bool.and_false]
   exact ⟨rfl,rfl⟩
  ·rw [decide_eq_false h0,decide_eq_false h7,decide_eq_true (show 0≤f by omega),decide_eq_true (show f≤7 by omega),aF (n:=((56 * c:Nat):Int)+f) (by omega) (by omega)]
   obtain ⟨s,hs⟩:=Int.eq_ofNat_of_zero_le (show 0≤((56 * c:Nat):Int)+f by omega)
   have s49:s<64:=by omega
   rw [hs,dh,Int.toNat_natCast,decide_eq_true (show (0:Int)≤s by omega),decide_eq_true (show (s:Int)<Int.ofNat 64 by show (s:Int)<64;omega)]
   obtain ⟨o157,e157⟩:=ky (aaz hq hl hr) (c:=(c:Int)) (k:=4) (by omega) (by omega) (by omega) s49
   have hb:=eC hq s
   have hrook:((wk q R).ae.getD s 0 != jB (c:Int) 4)=!dn c 4 (q.ae.getD s 0):=by
    obtain ⟨v,hv⟩:=Int.eq_ofNat_of_zero_le hb.1
    have:=(uX ⟨c,by omega⟩ ⟨v,by omega⟩).1
    simp only at this
    rw [hv,this,xm hc (by omega) (by omega),show (wk q R).ae=q.ae from rfl,hv,ni (n:=8 * (c:Int)) (by omega) (by omega),ni (by omega) (by omega)]
    rfl
   have hking:(bif decide (k<0) then true else (wr .i64 (k.tdiv 8) != wr .i64 (7 * (c:Int))))=(decide (k<((56 * c:Nat):Int)) || decide (k>((56 * c+7:Nat):Int))):=by
    by_cases hk:k<0
    ·rw [decide_eq_true hk,decide_eq_true (show k<((56 * c:Nat):Int) by omega)];rfl
    ·rw [decide_eq_false hk,Int.tdiv_eq_ediv_of_nonneg (by omega),aF (by omega) (by omega),aF (by omega) (by omega),cond_false,Bool.eq_iff_iff]
     simp only [bne_iff_ne,Bool.or_eq_true,decide_eq_true_eq]
     omega
   rw [o157,e157,hrook,show (wk q R).ae.getD s 0=q.ae.getD s 0 from rfl]
   unfold Eg
   rw [Int.toNat_natCast]
   revert hking
   cases decide (k<0)<;>cases (wr .i64 (k.tdiv 8) != wr .i64 (7 * (c:Int)))<;>cases decide (k<((56 * c:Nat):Int))<;>cases decide (k>((56 * c+7:Nat):Int))<;>intro hking <;>
    first
    | (exfalso;revert hking;decide)
    | (cases dn (c:Int) 4 (q.ae.getD s 0)<;>cases (t==(s:Int))<;>cases (m.aX==0)<;>cases (m.az==(s:Int))<;>exact ⟨rfl,rfl⟩)
theorem HF (a b:Pos) (m1:Mv):ji (c:Int) k (List.take 2 (List.drop (scale 2 (c:Int)).toNat q.ai)) a m1 b m t (0,q)=um t (c:Int) ((56 * c:Nat):Int) k p m (0,q):=by
 have hsl:∀ d,d<2→(List.take 2 (List.drop (scale 2 (c:Int)).toNat q.ai)).getD d 0=q.ai.getD (2 * c+d) 0:=fun d hd=>by
  rw [List.getD_eq_getElem?_getD,List.getD_eq_getElem?_getD,List.getElem?_take_of_lt hd,List.getElem?_drop,show (scale 2 (c:Int)).toNat=2 * c by unfold scale;simp;omega]
 refine sr (fun x:Int×Pos=>∃ n:Nat,n≤2∧x.1=(n:Int)∧∃ R,x.2=wk q R∧R.length=4∧(∀ x∈R,-128≤x∧x≤127)∧∀ d,n≤d→d<2→R.getD (2 * c+d) 0=q.ai.getD (2 * c+d) 0) (fun x hx=>?_) many (0,q) ⟨0,by omega,rfl,q.ai,rfl,hq.rl,hq.r0,fun _ _ _=>rfl⟩
 obtain ⟨x1,x2⟩:=x
 obtain ⟨n,hn,h1,R,h2,hl,hr,hR⟩:=hx
 simp only at h1 h2
 subst h1 h2
 by_cases h2:n<2
 ·obtain ⟨e1,e2⟩:=CU hq hc k0 k1 f0 t p R hl hr h2 (List.take 2 (List.drop (scale 2 (c:Int)).toNat q.ai)) (by rw [hsl n h2,hR n (by omega) h2]) a b m1
  refine ⟨e1.trans e2.symm,fun y hy=>?_⟩
  rw [e1] at hy
  simp only [aG.go.injEq] at hy
  subst hy
  refine ⟨n+1,by omega,by simp,?_⟩
  cases (decide (0≤R.getD (2 * c+n) 0)&&decide (R.getD (2 * c+n) 0≤7))&&Eg q c k (((56 * c:Nat):Int)+R.getD (2 * c+n) 0) t m with
  | false=>exact ⟨R,rfl,hl,hr,fun d h1 h2=>hR d (by omega) h2⟩
  | true=>exact ⟨R.set (2 * c+n) (-1),rfl,by simp [hl],sC hr (by omega) _,fun d h1 h2=>by
    rw [HJ (by omega),if_neg (by omega)]
    exact hR d (by omega) h2⟩
 ·have:n=2:=by omega
  subst this
  exact ⟨rfl,fun y hy=>by cases hy⟩
end
noncomputable section
variable {p q:Pos} (hp:aA p) (hk:dm p q) {m:Mv} (f0 : -128≤m.az∧m.az≤127) (t:Int)
include hp hk f0
theorem Bd (a b:Pos) (m1:Mv) {q':Pos} (hq':dm p q'):(di a m1 b m t (0,q'))=mw t p m (0,q'):=by
 refine sr (fun x:Int×Pos=>∃ n:Nat,n≤2∧x.1=(n:Int)∧dm p x.2) (fun x hx=>?_) many (0,q') ⟨0,by omega,rfl,hq'⟩
 obtain ⟨x1,x2⟩:=x
 obtain ⟨n,hn,h1,h2⟩:=hx
 simp only at h1 h2
 subst h1
 unfold ph sy DE Hr
 dsimp only
 by_cases hc:n<2
 ·have hn1:n≤1:=by omega
  have lo:=gx x2 (n:Int) 6
  obtain ⟨o131,e131⟩:=o9 h2.bU (c:=(n:Int)) (k:=6) (by omega) (by omega) (by omega)
  have e:=HF h2.bU hn1 (by omega) lo.2 f0 t p a b m1 (k:=aZ x2 n 6)
  obtain ⟨r,hr,hkin⟩:=uS (p:=p) (q:=x2) (c:=(n:Int)) (k:=aZ x2 n 6) (by omega) (by omega) (List.take 2 (List.drop (scale 2 (n:Int)).toNat x2.ai)) (fun s hs=>h2.bU.r0 s (List.mem_of_mem_drop (List.mem_of_mem_take hs))) h2 a b m1 m t
  have w56:wr .i64 (56 * wr .i64 (n:Int))=((56 * n:Nat):Int):=by rw [aF (n:=(n:Int)) (by omega) (by omega),aF (by omega) (by omega)];omega
  rw [e131,o131,t145,w56,← e,hr,decide_eq_true (show (n:Int)≤1 by omega),decide_eq_true (show (n:Int)<2 by omega),decide_eq_true (show (0:Int)≤n by omega),ni (n:=(n:Int)+1) (by omega) (by omega)]
  have i2:decide ((n:Int)<Int.ofNat 2)=true:=decide_eq_true (by show (n:Int)<2;omega)
  rw [i2]
  refine ⟨rfl,fun y hy=>?_⟩
  have hy:aG.go ((n:Int)+1,r.2.2)=.go y:=hy
  simp only [aG.go.injEq] at hy
  subst hy
  exact ⟨n+1,by omega,by simp,hkin⟩
 ·have:n=2:=by omega
  subst this
  exact ⟨rfl,fun y hy=>by cases hy⟩
theorem FD (ht:p.aa≤1) (hm:m.aX=0→0≤m.az∧m.az<64) (d5:m.aX≤5):Gx p q m t=true∧Ps p q m t=cA p m q p m t:=by
 have t0:=hp.t0
 have hqt:q.aa=p.aa:=hk.t
 have h2:dm p (wk q (List.take (scale 2 q.aa).toNat q.ai++li [-1,-1]++List.drop ((scale 2 q.aa).toNat+2) q.ai)):=by
  refine hk.ai ?_ ?_
  ·have hr:=hk.bU.rl
   have:(scale 2 q.aa).toNat≤2:=by rw [hqt];unfold scale;simp;omega
   simp [li,hr]
   omega
  ·intro x hx
   simp only [List.mem_append,li] at hx
   rcases hx with (hx | hx) | hx
   ·exact hk.bU.r0 x (List.mem_of_mem_take hx)
   ·simp at hx;omega
   ·exact hk.bU.r0 x (List.mem_of_mem_drop hx)
 have e1:=Bd hp hk f0 t p p m hk
 have e2:=Bd hp hk f0 t p p m h2
 obtain ⟨r1,k1,_⟩:=eJ hk p p m m t
 obtain ⟨r2,k2,_⟩:=eJ h2 p p m m t
 have k3:=e1.symm.trans k1
 have k4:mw t p m (0,Pos.mk q.variant q.ae q.ab q.af q.aa (List.take (scale 2 q.aa).toNat q.ai++((List.replicate 2 0).set 0 (-1)).set 1 (-1)++List.drop ((scale 2 q.aa).toNat+2) q.ai) q.ah q.ag q.half q.full)=some r2:=e2.symm.trans k2
 have k2:di p m p m t (0,Pos.mk q.variant q.ae q.ab q.af q.aa (List.take (scale 2 q.aa).toNat q.ai++li [-1,-1]++List.drop ((scale 2 q.aa).toNat+2) q.ai) q.ah q.ag q.half q.full)=some r2:=k2
 have hb:=eC hp (scale 1 m.az).toNat
 obtain ⟨e89,_⟩:=pZ hb.1 hb.2
 have i1:decide (0≤p.aa)=true:=decide_eq_true t0
 have i2:decide (p.aa<Int.ofNat 2)=true:=decide_eq_true (by show p.aa<2;omega)
 unfold Gx Ps cA
 rw [← hqt] at i1 i2 ⊢
 rw [e89,k1,k2,k3,k4,i1,i2]
 by_cases hd:m.aX=0
 ·obtain ⟨a0,a1⟩:=hm hd
  rw [hd,decide_eq_true a0,decide_eq_true (show m.az<Int.ofNat 64 from a1)]
  cases bg (p.ae.getD (scale 1 m.az).toNat 0)==6<;>exact ⟨rfl,rfl⟩
 ·rw [beq_eq_false_iff_ne.2 hd,bne_iff_ne.2 hd]
  cases m.aX==6<;>exact ⟨rfl,rfl⟩
end
theorem YW (col b c:Int) (cl:Bool):cm 1 col b c cl=cm 1 col b c false:=rfl
def KL (q:Pos) (s:Int):Pos:=⟨q.variant,q.ae,q.ab,q.af,q.aa,q.ai,s,q.ag,q.half,q.full⟩
theorem KA (q:Pos) (s a b:Int):aO (KL q s) a b=aO q a b:=by kernel_rfl
def Qc (t a b:Int):Bool:=(!(wr .i8 (b-a) != 16) || !(wr .i8 (a-b) != 16))&&(!(wr .i8 (a.tdiv 8) != wr .i8 (wr .i8 (7 * wr .i8 t)+1)) || !(wr .i8 (a.tdiv 8) != wr .i8 (wr .i8 (7 * wr .i8 t)-1)))
def NF (t a b:Int):Bool := !(wr .i64 b != wr .i64 (wr .i64 a+wr .i64 (2 * fb t)))&&!(qH t (wr .i64 a) != 1)
theorem Nn:∀ (t:Fin 2) (a b:Fin 64),(Qc t.val a.val b.val==NF t.val a.val b.val&&(!NF t.val a.val b.val || (wr .i8 ((wr .i8 ((a.val:Int)+b.val)).tdiv 2)==wr .i8 (wr .i64 (wr .i64 a.val+fb t.val))&&(wr .i64 (wr .i8 ((wr .i8 ((a.val:Int)+b.val)).tdiv 2))==wr .i64 (wr .i64 a.val+fb t.val)&&(decide (0≤wr .i64 (wr .i64 a.val+fb t.val))&&decide (wr .i64 (wr .i64 a.val+fb t.val)<64))))))=true:=by decide +kernel
theorem AX {p:Pos} {m:Mv} (h:m∈dJ p) (hp:aA p):bg (p.ae.getD m.az.toNat 0)=6:=by
 have key:m.az=aZ p p.aa 6∧0≤aZ p p.aa 6:=by
  revert h
  unfold dJ
  have hk:=gx p p.aa 6
  refine aq (P:=fun l:M'=>m∈l→_) (fun _ h=>by cases h) fun h=>?_
  have ht:p.aa≤1:=by simpa using h
  refine aq (P:=fun l:M'=>m∈l→_) (fun _ h=>by cases h) fun _=>aq (P:=fun l:M'=>m∈l→_) (fun _ h=>by cases h) fun hk0=>aq (P:=fun l:M'=>m∈l→_) (fun _ h=>by cases h) fun _=>?_
  have hk0:0≤aZ p p.aa 6:=by simpa using hk0
  have key:∀ c,(c9 p (aZ p p.aa 6) c).2=true→m=(c9 p (aZ p p.aa 6) c).1→m.az=aZ p p.aa 6∧0≤aZ p p.aa 6:=by
   intro c h1 h2
   rw [h2]
   exact ⟨(oI hp ht hk0 hk.2 h1).1,hk0⟩
  refine aq (P:=fun l:M'=>m∈l→_) (fun h1=>aq (P:=fun l:M'=>m∈l→_) (fun h2 h=>?_) fun _ h=>?_) fun _=>aq (P:=fun l:M'=>m∈l→_) (fun h2 h=>?_) fun _ h=>by cases h
  ·simp only [List.nil_append,List.mem_append,List.mem_singleton] at h
   rcases h with h | h
   ·exact key _ h1 h
   ·exact key _ h2 h
  ·simp only [List.nil_append,List.mem_singleton] at h
   exact key _ h1 h
  ·simp only [List.nil_append,List.mem_singleton] at h
   exact key _ h2 h
 rcases gj p p.aa 6 with ⟨h,_⟩ | ⟨k,_,h,h2,_⟩
 ·omega
 ·have hb:=eC hp k
  have:=Jf h2
  rw [key.1,h,Int.toNat_natCast,← (pZ hb.1 hb.2).1]
  omega
noncomputable section
variable {p q:Pos} (hp:aA p) (hk:dm p q) (hth:there p)
include hp hk hth
theorem akf {t:Nat} (hpt:p.aa=t) (ht:t≤1) (p1 p2:Int) {d:Nat} (hd:d<64) (he:wr .i64 (p2+p1)=d) (m:Mv):∃ r,pV p1 p2 p q m 0=some r∧bI r=(dc (t:Int) d&&&aO q (1-(t:Int)) 1 != 0#64):=by
 have hqt:q.aa=0∨q.aa=1:=by rw [hk.t,hpt];omega
 have bit:∀ s:Nat,s<64→(dc (t:Int) d&&&aO q (1-(t:Int)) 1).getLsbD s=(dn (1-(t:Int)) 1 (q.ae.getD s 0)&&jX q s d):=fun s hs=>by
  rw [BitVec.getLsbD_and,cf _ _ _ hs,Bool.and_comm]
  cases h:dn (1-(t:Int)) 1 (q.ae.getD s 0) with
  | false=>rfl
  | true =>
   have hb:=eC hk.bU s
   rw [is' (by omega) (by omega) (by omega) hb.1 hb.2,E',beq_iff_eq,beq_iff_eq] at h
   rw [Bool.true_and,Bool.true_and,om,dh,Int.toNat_natCast,h.1,h.2,YW]
   have:=ua ⟨1-t,by omega⟩ ⟨s,hs⟩ ⟨d,hd⟩
   simp only at this
   rw [show ((1-t:Nat):Int)=1-(t:Int) by omega,show (1:Int)-(1-(t:Int))=t by omega] at this
   exact this
 refine aU (Q:=fun r:Unit ⊕ (Int×Bool)=>bI r=(dc (t:Int) d&&&aO q (1-(t:Int)) 1 != 0#64)) (I:=fun x:Int=>∃ n:Nat,n≤64∧x=(n:Int)∧∀ s,s<n→(dc (t:Int) d&&&aO q (1-(t:Int)) 1).getLsbD s=false) (μ:=fun x=>(64-x).toNat) ?_ _ ⟨0,by omega,rfl,fun s hs=>by omega⟩ (by simp)
 rintro x ⟨n,hn,hx,h⟩
 subst hx
 unfold DI HT
 by_cases hc:n<64
 ·obtain ⟨o157,e157⟩:=ky hk.bU (c:=1-(t:Int)) (k:=1) (by omega) (by omega) (by omega) hc
  have o159:=t154 hk.bU hqt hc hd
  have hb:=bit n hc
  rw [he,hpt,ni (n:=1-(t:Int)) (by omega) (by omega),o157,e157,o159,decide_eq_true (show (n:Int)<64 by omega),aF (n:=(n:Int)+1) (by omega) (by omega)]
  have keep:(dc (t:Int) d&&&aO q (1-(t:Int)) 1).getLsbD n=false→∃ k:Nat,k≤64∧(n:Int)+1=(k:Int)∧∀ s,s<k→(dc (t:Int) d&&&aO q (1-(t:Int)) 1).getLsbD s=false:=fun hf=>⟨n+1,by omega,by simp,fun s hs=>by
   by_cases e:s=n
   ·rw [e];exact hf
   ·exact h s (by omega)⟩
  revert hb
  cases dn (1-(t:Int)) 1 (q.ae.getD n 0) with
  | false=>intro hb;exact ⟨rfl,keep hb,by dsimp only;omega⟩
  | true =>
   cases jX q n d with
   | false=>intro hb;exact ⟨rfl,keep hb,by dsimp only;omega⟩
   | true =>
    intro hb
    refine ⟨rfl,?_⟩
    show true=_
    symm
    rw [bne_iff_ne]
    intro e
    rw [e] at hb
    simp at hb
 ·have:n=64:=by omega
  subst this
  refine ⟨rfl,?_⟩
  show false=_
  symm
  rw [bne_eq_false_iff_eq]
  exact BitVec.eq_of_getLsbD_eq fun i hi=>by rw [h i hi];simp
theorem uu {m:Mv} (hm:m∈b8 p) (d:Int):GD p q m=true∧da p m q p m d=KL q (eP p q m):=by
 obtain ⟨_,f0,f1,o0,o1,_,_,_,_⟩:=eZ hp hm
 obtain ⟨t,hpt,ht⟩:=eW hp hth.1
 obtain ⟨a,ha⟩:=Int.eq_ofNat_of_zero_le f0
 obtain ⟨b,hb⟩:=Int.eq_ofNat_of_zero_le o0
 have hqt:q.aa=(t:Int):=by rw [hk.t,hpt]
 have hbd:=eC hp (scale 1 m.az).toNat
 obtain ⟨e89,_⟩:=pZ hbd.1 hbd.2
 have i1:decide (0≤m.az)=true:=decide_eq_true f0
 have i2:decide (m.az<Int.ofNat 64)=true:=decide_eq_true f1
 have fin:=Nn ⟨t,by omega⟩ ⟨a,by omega⟩ ⟨b,by omega⟩
 simp only [E',beq_iff_eq,Bool.or_eq_true,Bool.not_eq_true'] at fin
 obtain ⟨fin1,fin2⟩:=fin
 have hcas:m.bP=true→(bg (p.ae.getD (scale 1 m.az).toNat 0) != 1)=true:=fun hc=>by
  have hm':m∈dJ p:=by
   rw [kh] at hm
   rcases List.mem_append.1 hm with hm | hm
   ·rcases List.mem_append.1 hm with hm | hm
    ·obtain ⟨_,_,_,_,_,_,_,_,h,_⟩:=fI hp.v0 hm;rw [h] at hc;cases hc
    ·exact hm
   ·obtain ⟨_,_,_,_,_,h,_⟩:=jA hp.t0 hm;rw [h] at hc;cases hc
  rw [dh,AX hm' hp]
  rfl
 have n101:∀ s c k:Int,aO (Pos.mk q.variant q.ae q.ab q.af q.aa q.ai s q.ag q.half q.full) c k=aO q c k:=fun s c k=>KA q s c k
 unfold GD eP da KL
 simp only [n101]
 rw [e89,i1,i2,hqt,hpt,ha,hb,ni (n:=1-(t:Int)) (by omega) (by omega)]
 cases hd:m.aX != 0 with
 | true =>
  refine ⟨rfl,?_⟩
  cases m.aX != 1<;>rfl
 | false =>
  cases hc:m.bP with
  | true =>
   have:=hcas hc
   rw [ha] at this
   rw [this]
   exact ⟨rfl,rfl⟩
  | false =>
   cases hpn:(bg (p.ae.getD (scale 1 (a:Int)).toNat 0) != 1) with
   | true=>exact ⟨rfl,rfl⟩
   | false =>
    simp only [cond_false,Bool.true_and]
    unfold Qc NF at fin1
    unfold NF at fin2
    revert fin1 fin2
    cases hx1:(wr .i64 (b:Int) != wr .i64 (wr .i64 (a:Int)+wr .i64 (2 * fb (t:Int)))) with
    | true =>
     intro fin1 _
     refine ⟨rfl,?_⟩
     revert fin1
     generalize (wr .i8 ((b:Int)-a) != 16)=x1
     generalize (wr .i8 ((a:Int)-b) != 16)=x2
     generalize (wr .i8 ((a:Int).tdiv 8) != wr .i8 (wr .i8 (7 * wr .i8 (t:Int))+1))=x3
     generalize (wr .i8 ((a:Int).tdiv 8) != wr .i8 (wr .i8 (7 * wr .i8 (t:Int))-1))=x4
     generalize (qH (t:Int) (wr .i64 (a:Int)) != 1)=x6
     cases x1<;>cases x2<;>cases x3<;>cases x4<;>intro h<;>first | rfl | (exfalso;revert h;cases x6<;>decide)
    | false =>
     cases hx2:(qH (t:Int) (wr .i64 (a:Int)) != 1) with
     | true =>
      intro fin1 _
      refine ⟨rfl,?_⟩
      revert fin1
      generalize (wr .i8 ((b:Int)-a) != 16)=x1
      generalize (wr .i8 ((a:Int)-b) != 16)=x2
      generalize (wr .i8 ((a:Int).tdiv 8) != wr .i8 (wr .i8 (7 * wr .i8 (t:Int))+1))=x3
      generalize (wr .i8 ((a:Int).tdiv 8) != wr .i8 (wr .i8 (7 * wr .i8 (t:Int))-1))=x4
      cases x1<;>cases x2<;>cases x3<;>cases x4<;>intro h<;>first | rfl | (exfalso;revert h;decide)
     | false =>
      intro fin1 fin2
      obtain ⟨g1,g2,g3,g4⟩:=fin2.resolve_left (by decide)
      simp only [decide_eq_true_eq] at g3 g4
      obtain ⟨e,he⟩:=Int.eq_ofNat_of_zero_le g3
      obtain ⟨r1,r2⟩:=aK (akf hp hk hth hpt ht (fb (t:Int)) (wr .i64 (a:Int)) (d:=e) (by omega) he m)
      rw [g2,g1,he,r2,r1]
      refine ⟨by cases (dc (t:Int) e&&&aO q (1-(t:Int)) 1 != 0#64)<;>rfl,?_⟩
      revert fin1
      generalize (wr .i8 ((b:Int)-a) != 16)=x1
      generalize (wr .i8 ((a:Int)-b) != 16)=x2
      generalize (wr .i8 ((a:Int).tdiv 8) != wr .i8 (wr .i8 (7 * wr .i8 (t:Int))+1))=x3
      generalize (wr .i8 ((a:Int).tdiv 8) != wr .i8 (wr .i8 (7 * wr .i8 (t:Int))-1))=x4
      generalize (dc (t:Int) e&&&aO q (1-(t:Int)) 1 != 0#64)=x5
      cases x1<;>cases x2<;>cases x3<;>cases x4<;>intro h<;>first | (exfalso;revert h;decide) | (cases x5<;>rfl)
end
theorem Iu (x:BitVec 64) {k:Nat} (hk:k<64):(x&&&1#64 <<< k != 0#64)=x.getLsbD k:=by
 have e:∀ i,i<64→(x&&&1#64 <<< k).getLsbD i=(x.getLsbD k&&decide (i=k)):=fun i hi=>by
  rw [BitVec.getLsbD_and,fN hi]
  by_cases h:i=k
  ·subst h;simp
  ·simp [h]
 cases hx:x.getLsbD k with
 | true =>
  rw [bne_iff_ne]
  intro h
  have:=e k hk
  rw [h,hx] at this
  simp at this
 | false =>
  rw [bne_eq_false_iff_eq]
  refine BitVec.eq_of_getLsbD_eq fun i hi=>?_
  rw [e i hi,hx]
  simp
theorem ND {a:Pos×BitVec 64×BitVec 64} {b:Int} {g:Nat} (h:(gR a b).getLsbD g=true):a.2.1.getLsbD g=false:=by
 have key:∃ X,gR a b=X &&& ~~~a.2.1:=by
  unfold gR
  repeat' (first | exact ⟨_,rfl⟩ | refine aq (P:=fun x:BitVec 64=>∃ X,x=X &&& ~~~a.2.1) (fun _=>?_) (fun _=>?_))
 obtain ⟨X,e⟩:=key
 rw [e,BitVec.getLsbD_and,BitVec.getLsbD_not] at h
 simp only [E',Bool.not_eq_true'] at h
 exact h.2.2
theorem Zs (k:Int) (l:List Int) (hl:l.length≤5):∃ r,mP k l 0=some r∧bI r=decide (k∈l):=by
 refine aU (Q:=fun r:Unit ⊕ (Int×Bool)=>bI r=decide (k∈l)) (I:=fun x:Int=>∃ n:Nat,n≤l.length∧x=(n:Int)∧k∉l.take n) (μ:=fun x=>(l.length-x).toNat) ?_ _ ⟨0,by omega,rfl,by simp⟩ (by simp;omega)
 rintro x ⟨n,hn,rfl,h⟩
 unfold AI Fb
 by_cases hc:n<l.length
 ·have ht:l.take (n+1)=l.take n++[l.getD n default]:=by
   rw [List.take_add_one,List.getD_eq_getElem?_getD,I' hc];rfl
  rw [decide_eq_true (show (n:Int)<Int.ofNat l.length from Int.ofNat_lt.2 hc),decide_eq_true (show (0:Int)≤n by omega),Int.toNat_natCast,aF (n:=(n:Int)+1) (by omega) (by omega)]
  refine ⟨rfl,?_⟩
  cases he:l.getD n default==k with
  | true =>
   show true=_
   symm
   rw [decide_eq_true_eq,← beq_iff_eq.1 he]
   exact ct hc
  | false =>
   refine ⟨⟨n+1,by omega,by simp,?_⟩,by dsimp only;omega⟩
   rw [ht,List.mem_append,List.mem_singleton]
   rintro (h1 | h1)
   ·exact h h1
   ·rw [h1] at he;simp at he
 ·rw [decide_eq_false (show ¬ ((n:Int)<Int.ofNat l.length) from fun h=>hc (Int.ofNat_lt.1 h))]
  refine ⟨rfl,?_⟩
  show false=_
  symm
  rw [decide_eq_false_iff_not]
  rw [List.take_of_length_le (by omega)] at h
  exact h
theorem Ph (v:Int):(vK v).length≤5:=by
 unfold vK
 exact aq (P:=fun l:List Int=>l.length≤5) (fun _=>by simp) fun _=>aq (P:=fun l:List Int=>l.length≤5) (fun _=>by simp) fun _=>by simp
theorem Nk (v k:Int):zj v k=true∧HA v k=decide (k∈vK v):=by
 obtain ⟨h1,h2⟩:=aK (Zs k (vK v) (Ph v))
 unfold zj HA
 rw [h1,h2]
 cases decide (k∈vK v)<;>exact ⟨rfl,rfl⟩
theorem jE {p:Pos} (h:there p):rX p=true:=by
 unfold rX
 rw [decide_eq_true h.2,decide_eq_true (show p.aa<2 by have:=h.1;omega)]
 rfl
noncomputable section
variable {p:Pos} (hp:aA p) (hth:there p)
include hp hth
theorem Oq {m:Mv} (hm:m∈dz p):∃ f g:Nat,f<64∧g<64∧m.az=f∧m.to=g∧m.bP=false∧m.aX=0∧(own p).getLsbD f=true∧(own p).getLsbD g=false∧BP p m=true∧Qj p m=true:=by
 have t0:=hp.t0
 have htt:p.aa=0∨p.aa=1:=by have:=hth.1;omega
 obtain ⟨_,f,g,hf,hg,ef,eg,hd,hc,_,_,h1,h2⟩:=fI hp.v0 hm
 have h3:m∈vw p f g:=by
  rw [kJ hp.v0 hth] at hm
  obtain ⟨a,_,hm⟩:=List.mem_flatMap.1 hm
  obtain ⟨b,_,hm⟩:=List.mem_flatMap.1 hm
  have:m.az=a∧m.to=b:=by
   revert hm
   unfold vw
   refine aq (P:=fun l:M'=>m∈l→_) (fun _ h=>by simp at h;rw [h];exact ⟨rfl,rfl⟩) fun _=>aq (P:=fun l:M'=>m∈l→_) (fun _ h=>by simp at h;rw [h];exact ⟨rfl,rfl⟩) fun _ h=>?_
   obtain ⟨k,_,h⟩:=List.mem_flatMap.1 h
   simp at h;rw [h];exact ⟨rfl,rfl⟩
  rw [← this.1,← this.2,ef,eg] at hm
  exact hm
 have hR:=E2 hp hth hf hg
 rw [h1,h2] at hR
 simp only [cond_true] at hR
 rw [← hR] at h3
 have e160:vu p f g=true:=by
  cases h:vu p f g with
  | true=>rfl
  | false=>unfold dO at h3;rw [h] at h3;cases h3
 have o160:=t93 hp htt hf hg
 have wf:wr .i64 (f:Int)=f:=aF (by omega) (by omega)
 have wg:wr .i64 (g:Int)=g:=aF (by omega) (by omega)
 refine ⟨f,g,hf,hg,ef,eg,hc,hd,h1,ND h2,?_⟩
 unfold BP Qj
 unfold dO at h3
 rw [e160] at h3
 obtain ⟨o173,e173⟩:=Nk p.variant m.bQ
 rw [jE hth,hc,hd,ef,eg,wf,wg,e160,o160,dh,Int.toNat_natCast,decide_eq_false (show ¬ ((f:Int)<0) by omega),decide_eq_false (show ¬ ((f:Int)>63) by omega),decide_eq_false (show ¬ ((g:Int)<0) by omega),decide_eq_false (show ¬ ((g:Int)>63) by omega),decide_eq_true (show (0:Int)≤f by omega),decide_eq_true (show (f:Int)<Int.ofNat 64 by show (f:Int)<64;omega),o173,e173]
 revert h3
 cases bg (p.ae.getD f 0) != 1 with
 | true=>intro h3;simp at h3;rw [h3];exact ⟨rfl,rfl⟩
 | false =>
  cases qH p.aa g != 7 with
  | true=>intro h3;simp at h3;rw [h3];exact ⟨rfl,rfl⟩
  | false =>
   intro h3
   simp only [Bool.not_true,cond_false,List.mem_map] at h3
   obtain ⟨k,hk,rfl⟩:=h3
   rw [decide_eq_true hk]
   exact ⟨rfl,rfl⟩
theorem Ah {m:Mv} (hm:m∈b8 p):A3 p m=true∧iO p m=bq p m:=by
 have hth1:=hth.1
 have htt:p.aa=0∨p.aa=1:=by have:=hp.t0;omega
 have hl:(dz p).length≤1000000:=Nat.le_trans (jS hp.v0) (by omega)
 have no:(m.bP=true∨(m.bP=false∧m.aX≠0))→A3 p m=true∧iO p m=bq p m:=fun h=>by
  have e133:Qj p m=false∧BP p m=true:=by
   unfold BP Qj
   rw [jE hth]
   rcases h with h | ⟨h,h'⟩
   ·rw [h];exact ⟨rfl,rfl⟩
   ·rw [h,bne_iff_ne.2 h'];exact ⟨rfl,rfl⟩
  have hnm:m∉dz p:=fun hm=>by
   obtain ⟨_,_,_,_,_,_,_,hd,hc,_⟩:=fI hp.v0 hm
   rcases h with h | ⟨_,h⟩
   ·rw [h] at hc;cases hc
   ·exact h hd
  unfold A3 iO bq
  rw [e133.1,e133.2,kM hth,ko hl,decide_eq_false hnm]
  exact ⟨rfl,rfl⟩
 rw [kh] at hm
 rcases List.mem_append.1 hm with hm | hm
 ·rcases List.mem_append.1 hm with hm | hm
  ·obtain ⟨f,g,hf,hg,ef,eg,hc,hd,h1,h2,h3,h4⟩:=Oq hp hth hm
   have wg:wr .i64 (g:Int)=g:=aF (by omega) (by omega)
   have e134:=rW hp htt hg
   have o134:=t97 (p:=p) hp htt hg
   have hb:=eC hp (scale 1 (f:Int)).toNat
   obtain ⟨e89,_⟩:=pZ hb.1 hb.2
   unfold A3 iO bq
   rw [h3,h4,kM hth,ko hl,decide_eq_true hm,ef,eg,wg,e134,o134,cP (by omega) (by omega),Int.toNat_natCast,e89,BitVec.getLsbD_or,h2]
   simp only [Bool.false_or,Bool.not_not]
   rw [Iu _ hg,decide_eq_true (show (0:Int)≤f by omega),decide_eq_true (show (f:Int)<Int.ofNat 64 by show (f:Int)<64;omega)]
   refine ⟨by cases (gU p).getLsbD g<;>rfl,?_⟩
   have e90:wr .i64 ((g:Int)-fb p.aa)=cV (wr .u8 (1-p.aa)) g:=by
    rcases htt with h | h<;>rw [h]<;>unfold cV fb
    ·show wr .i64 ((g:Int)-8)=wr .i64 ((g:Int)-8);rfl
    ·show wr .i64 ((g:Int) - -8)=wr .i64 ((g:Int)+8)
     congr 1
   rw [e90]
   rfl
  ·obtain ⟨_,_,_,_,_,hc,_⟩:=pg hp hm
   exact no (.inl hc)
 ·obtain ⟨_,_,_,_,_,hc,d1,_⟩:=jA hp.t0 hm
  exact no (.inr ⟨hc,by omega⟩)
end
def StI {X R:Type} (I:X→Prop) (Q:R→Prop):aG X R→Prop
 | .go y=>I y
 | .out r=>Q r
 | .bad=>True
theorem sM {X R:Type} {f:X→aG X R} (I:X→Prop) (Q:R→Prop) (h:∀ x,I x→StI I Q (f x)):∀ (n:Nat) (x:X) (r:R),I x→cO f n x=some r→Q r
 | 0,_,_,_,e=>by cases e
 | n+1,x,r,hx,e=>by
  have:=h x hx
  unfold cO at e
  cases hf:f x with
  | go y=>rw [hf] at this e;exact sM I Q h n y r this e
  | out r'=>rw [hf] at this e;cases e;exact this
  | bad=>rw [hf] at e;cases e
def SC (q r:Pos):Prop:=r.half=q.half∧r.full=q.full
theorem SC.rfl {q:Pos}:SC q q:=⟨Eq.refl _,Eq.refl _⟩
abbrev WG (q:Pos):aG (Int×Pos) (Int×Bool×Pos)→Prop:=StI (fun x=>SC q x.2) (fun r=>SC q r.2.2)
theorem sc6 {q:Pos} (c k:Int) (l:List Int) (a:Pos) (m1:Mv) (b:Pos) (m2:Mv) (e:Int) {x:Int×Pos} {r:Int×Bool×Pos} (hx:SC q x.2) (h:ji c k l a m1 b m2 e x=some r):SC q r.2.2:=by
 unfold ji at h
 refine sM (fun x=>SC q x.2) (fun r=>SC q r.2.2) (fun x hx=>?_) many x r hx h
 show WG q _
 refine aq (P:=fun s=>WG q s) (fun _=>?_) fun _=>trivial
 unfold sh
 repeat' (first | exact (show SC q _ from hx) | refine aq (P:=fun s=>WG q s) (fun _=>?_) (fun _=>?_))
theorem sc7 {q:Pos} (a:Pos) (m1:Mv) (b:Pos) (m2:Mv) (e:Int) {x:Int×Pos} {r:Int×Bool×Pos} (hx:SC q x.2) (h:di a m1 b m2 e x=some r):SC q r.2.2:=by
 unfold di at h
 refine sM (fun x=>SC q x.2) (fun r=>SC q r.2.2) (fun x hx=>?_) many x r hx h
 show WG q _
 refine aq (P:=fun s=>WG q s) (fun hok=>?_) fun _=>trivial
 unfold sy
 unfold ph at hok
 refine aq (P:=fun s=>WG q s) (fun hc=>?_) (fun _=>hx)
 rw [hc] at hok
 simp only [cond_true,E'] at hok
 obtain ⟨_,_,h6,_⟩:=hok
 exact sc6 _ _ _ _ _ _ _ _ (x:=(0,x.2)) hx (cR h6)
theorem Z4 (q:Pos) (b c:Int):SC q (gp q b c).1:=by
 unfold gp
 exact aq (P:=fun x:Pos×Bool=>SC q x.1) (fun _=>⟨rfl,rfl⟩) fun _=>aq (P:=fun x:Pos×Bool=>SC q x.1) (fun _=>⟨rfl,rfl⟩) fun _=>⟨rfl,rfl⟩
theorem XH (q:Pos) (b c:Int):SC q (bj q b c):=by
 unfold bj
 exact aq (P:=fun x:Pos=>SC q x) (fun _=>aq (P:=fun x:Pos=>SC q x) (fun _=>⟨rfl,rfl⟩) fun _=>⟨rfl,rfl⟩) fun _=>⟨rfl,rfl⟩
noncomputable section
variable {p:Pos} (hp:aA p) {m:Mv}
include hp
theorem sc1 (q:Pos) (c:Int):SC q (bC p m q p m c):=by
 have h:=Z4 q q.aa m.aX
 unfold bC
 repeat' (first | exact ⟨rfl,rfl⟩ | exact h | refine aq (P:=fun x:Pos=>SC q x) (fun _=>?_) (fun _=>?_))
theorem sc2 (q:Pos) (c:Int):SC q (bS p m q p m c):=by
 have h:=XH q q.aa
 unfold bS
 repeat' (first | exact ⟨rfl,rfl⟩ | exact h _ | refine aq (P:=fun x:Pos=>SC q x) (fun _=>?_) (fun _=>?_))
theorem sc4 {q:Pos} (hk:dm p q) (c:Int):SC q (cr p m q p m c):=by
 obtain ⟨b1,C,b2,b3,b4⟩:=aK (QJ hk.bU (l:=gn (nD q (wr .i64 m.to))) (by rw [dy];exact fa _ _) (fun s hs=>by rw [dy] at hs;exact lJ hs) p p m m c)
 unfold cr
 rw [b2]
 repeat' (first | exact ⟨rfl,rfl⟩ | refine aq (P:=fun x:Pos=>SC q x) (fun _=>?_) (fun _=>?_))
theorem sc8 (ht:p.aa≤1) {q:Pos} (h:dm p q) (c:Int):SC q (cA p m q p m c):=by
 have t0:=hp.t0
 have h2:dm p ⟨q.variant,q.ae,q.ab,q.af,q.aa,List.take (scale 2 q.aa).toNat q.ai++li [-1,-1]++List.drop ((scale 2 q.aa).toNat+2) q.ai,q.ah,q.ag,q.half,q.full⟩:=by
  refine h.ai ?_ ?_
  ·have hr:=h.bU.rl
   have:(scale 2 q.aa).toNat≤2:=by rw [h.t];unfold scale;simp;omega
   simp [li,hr]
   omega
  ·intro x hx
   simp only [List.mem_append,li] at hx
   rcases hx with (hx | hx) | hx
   ·exact h.bU.r0 x (List.mem_of_mem_take hx)
   ·simp at hx;omega
   ·exact h.bU.r0 x (List.mem_of_mem_drop hx)
 obtain ⟨r1,k1,_⟩:=eJ h p p m m c
 obtain ⟨r2,k2,_⟩:=eJ h2 p p m m c
 have b1:SC q r1.2.2:=sc7 p m p m c (x:=(0,q)) SC.rfl k1
 have b2:SC q r2.2.2:=sc7 p m p m c (x:=(0,⟨q.variant,q.ae,q.ab,q.af,q.aa,List.take (scale 2 q.aa).toNat q.ai++li [-1,-1]++List.drop ((scale 2 q.aa).toNat+2) q.ai,q.ah,q.ag,q.half,q.full⟩)) ⟨rfl,rfl⟩ k2
 unfold cA
 rw [k1,k2]
 repeat' (first | exact b1 | exact b2 | refine aq (P:=fun x:Pos=>SC q x) (fun _=>?_) (fun _=>?_))
end
def qO (p:Pos) (m:Mv) (d:Int):Int:=bif m.aX==1 then 0 else bif m.aX==0 then (bif bg (p.ae.getD (scale 1 m.az).toNat 0)==1 then 0 else bif decide (d≥0) then 0 else ep p.half) else bif decide (d≥0) then 0 else ep p.half
def Wd (p z:Pos) (s h f:Int):Pos :=
 bif z.variant==5 then (bif decide (z.ag.getD (scale 1 p.aa).toNat 0<3) then (bif nF (Pos.mk z.variant z.ae z.ab z.af (wr .u8 (1-p.aa)) z.ai s z.ag h f) (wr .u8 (1-p.aa)) then Pos.mk z.variant z.ae z.ab z.af (wr .u8 (1-p.aa)) z.ai s (z.ag.set (scale 1 p.aa).toNat (wr .u8 (z.ag.getD (scale 1 p.aa).toNat 0+1))) h f else Pos.mk z.variant z.ae z.ab z.af (wr .u8 (1-p.aa)) z.ai s z.ag h f) else Pos.mk z.variant z.ae z.ab z.af (wr .u8 (1-p.aa)) z.ai s z.ag h f) else Pos.mk z.variant z.ae z.ab z.af (wr .u8 (1-p.aa)) z.ai s z.ag h f
def Gi (p:Pos) (m:Mv) (d:Int):Pos:=Bw p (Aa p m d) m d
def GA (p:Pos) (m:Mv) (d:Int):Pos:=Ps p (bif p.variant==3 then (bif decide (d≥0) then ((lH d (MG (Gi p m d) (wr .i64 m.to)) p m (0,Gi p m d)).getD default).2.2 else Gi p m d) else Gi p m d) m d
theorem OM (p:Pos) (m:Mv):vy p m=Wd p (GA p m (iO p m)) (eP p (GA p m (iO p m)) m) (qO p m (iO p m)) (bif p.aa==1 then ep p.full else (GA p m (iO p m)).full):=by
 unfold vy GA Gi qO
 dsimp only
 cases p.variant==3<;>cases decide (iO p m≥0)<;>cases m.aX==1<;>cases m.aX==0<;>cases bg (p.ae.getD (scale 1 m.az).toNat 0)==1<;>cases p.aa==1<;>rfl
noncomputable section
variable {p:Pos} (hp:aA p) (hth:there p) {m:Mv}
include hp
theorem pr1 (q:Pos) (c:Int):(bC p m q p m c).ab=q.ab:=by
 have h:(gp q q.aa m.aX).1.ab=q.ab:=by
  unfold gp
  exact aq (P:=fun x:Pos×Bool=>x.1.ab=q.ab) (fun _=>rfl) fun _=>aq (P:=fun x:Pos×Bool=>x.1.ab=q.ab) (fun _=>rfl) fun _=>rfl
 unfold bC
 repeat' (first | exact rfl | exact h | refine aq (P:=fun x:Pos=>x.ab=q.ab) (fun _=>?_) (fun _=>?_))
include hth
theorem TB {z:Pos} (hz:dm p z) (hsc:SC p z) (hm:m∈b8 p) (d:Int):Wd p z (eP p z m) (qO p m d) (bif p.aa==1 then ep p.full else z.full)=cB p m (cC p m (da p m z p m d) p m d) p m d ∧
  ∀ h f:Int,(h=0∨h=ep p.half)→(f=ep p.full∨f=z.full)→jk (Pos.mk z.variant z.ae z.ab z.af (wr .u8 (1-p.aa)) z.ai (eP p z m) z.ag h f) (wr .u8 (1-p.aa))=true:=by
 obtain ⟨_,f0,f1,_⟩:=eZ hp hm
 obtain ⟨t,hpt,ht⟩:=eW hp hth.1
 obtain ⟨_,e9⟩:=uu hp hz hth hm d
 have k9:=(Ew m hz (fun _=>⟨f0,f1⟩) p m d).2
 rw [e9] at k9
 have sp0 : -128≤eP p z m:=k9.bU.p0
 have sp1:eP p z m≤127:=k9.bU.p1
 have wt:wr .u8 (1-p.aa)=((1-t:Nat):Int):=by rw [hpt,ni (by omega) (by omega)];omega
 have n102:∀ n:Int,-9223372036854775808≤n∧n≤9223372036854775807 → -9223372036854775808≤ep n∧ep n≤9223372036854775807:=fun n hn=>xF hn
 have bU:∀ h f:Int,(-9223372036854775808≤h∧h≤9223372036854775807)→(-9223372036854775808≤f∧f≤9223372036854775807)→aA (Pos.mk z.variant z.ae z.ab z.af (wr .u8 (1-p.aa)) z.ai (eP p z m) z.ag h f):=fun h f hh hf =>
  ⟨hz.bU.v0,hz.bU.v1,hz.bU.bl,hz.bU.b0,hz.bU.kl,hz.bU.k0,by show 0≤wr .u8 (1-p.aa);rw [wt];omega,by show wr .u8 (1-p.aa)≤255;rw [wt];omega,hz.bU.rl,hz.bU.r0,sp0,sp1,hz.bU.cl,hz.bU.c0,hh,hf⟩
 have tt:∀ h f:Int,(Pos.mk z.variant z.ae z.ab z.af (wr .u8 (1-p.aa)) z.ai (eP p z m) z.ag h f).aa=0∨(Pos.mk z.variant z.ae z.ab z.af (wr .u8 (1-p.aa)) z.ai (eP p z m) z.ag h f).aa=1:=fun h f=>by
  show wr .u8 (1-p.aa)=0∨wr .u8 (1-p.aa)=1
  rw [wt];omega
 have ttw:wr .u8 (1-p.aa)=0∨wr .u8 (1-p.aa)=1:=by rw [wt];omega
 refine ⟨?_,fun h f hh hf=>?_⟩
 ·have hb:=eC hp (scale 1 m.az).toNat
  obtain ⟨e89,_⟩:=pZ hb.1 hb.2
  have e10:cC p m (KL z (eP p z m)) p m d=⟨z.variant,z.ae,z.ab,z.af,z.aa,z.ai,eP p z m,z.ag,qO p m d,bif p.aa==1 then ep p.full else z.full⟩:=by
   unfold cC qO KL
   dsimp only
   rw [e89,hz.t,hsc.1,hsc.2,show ml p.half=ep p.half from rfl,show ml p.full=ep p.full from rfl]
   by_cases h0:m.aX=0
   ·rw [h0]
    cases bg (p.ae.getD (scale 1 m.az).toNat 0)==1<;>cases decide (d≥0)<;>cases p.aa==1<;>rfl
   ·rw [bne_iff_ne.2 h0,beq_eq_false_iff_ne.2 h0]
    cases m.aX==1<;>cases decide (d≥0)<;>cases p.aa==1<;>rfl
  rw [e9,e10]
  have hH : -9223372036854775808≤qO p m d∧qO p m d≤9223372036854775807:=by
   unfold qO
   repeat' (first | exact ⟨by omega,by omega⟩ | exact n102 _ hp.h0 | refine aq (P:=fun x:Int => -9223372036854775808≤x∧x≤9223372036854775807) (fun _=>?_) (fun _=>?_))
  have hF : -9223372036854775808≤(bif p.aa==1 then ep p.full else z.full)∧(bif p.aa==1 then ep p.full else z.full)≤9223372036854775807 :=
   aq (P:=fun x:Int => -9223372036854775808≤x∧x≤9223372036854775807) (fun _=>n102 _ hp.f0) (fun _=>hz.bU.f0)
  unfold Wd cB
  dsimp only
  rw [hz.t,(uF (bU _ _ hH hF) (tt _ _) ttw).2]
  have back:wr .u8 (1-wr .u8 (1-p.aa))=p.aa:=by rw [wt,hpt,ni (by omega) (by omega)];omega
  rw [back]
 ·refine (uF (bU h f ?_ ?_) (tt h f) ttw).1
  ·rcases hh with rfl | rfl
   ·omega
   ·exact n102 _ hp.h0
  ·rcases hf with rfl | rfl
   ·exact n102 _ hp.f0
   ·exact hz.bU.f0
theorem rU (hm:m∈b8 p):BY p m=true∧vy p m=E6 p m:=by
 obtain ⟨_,f0,f1,o0,o1,_,d5,_⟩:=eZ hp hm
 have hb8 : -128≤m.az∧m.az≤127:=by omega
 obtain ⟨o79,e79⟩:=Ah hp hth hm
 obtain ⟨o116,e116⟩:=SS hp hm
 have k1:dm p (bC p m p p m (bq p m)):=xT hp m p m (bq p m)
 obtain ⟨o117,e117⟩:=GR hp k1 (pr1 hp p _) hm
 have k2:=xY m k1 p m (bq p m)
 obtain ⟨o118,l58,e4⟩:=NJ (p:=p) k2 o0 o1 (bq p m)
 have k4:=(yW m k2 p m (bq p m)).2
 obtain ⟨o120,e120⟩:=FD hp k4 hb8 (bq p m) hth.1 (fun _=>⟨f0,f1⟩) d5
 have k8:=(DH hp m hth.1 k4 (fun _=>⟨f0,f1⟩) p m (bq p m)).2
 obtain ⟨o121,_⟩:=uu hp k8 hth hm (bq p m)
 have s1:=sc1 hp (m:=m) p (bq p m)
 have s2:=sc2 hp (m:=m) (bC p m p p m (bq p m)) (bq p m)
 have s4:=sc4 hp (m:=m) k2 (bq p m)
 have s8:=sc8 hp (m:=m) hth.1 k4 (bq p m)
 have hsc:SC p (cA p m (cr p m (bS p m (bC p m p p m (bq p m)) p m (bq p m)) p m (bq p m)) p m (bq p m)) :=
  ⟨s8.1.trans (s4.1.trans (s2.1.trans s1.1)),s8.2.trans (s4.2.trans (s2.2.trans s1.2))⟩
 obtain ⟨eEnd,o47⟩:=TB hp hth k8 hsc hm (bq p m)
 have e3:GA p m (bq p m)=cA p m (cr p m (bS p m (bC p m p p m (bq p m)) p m (bq p m)) p m (bq p m)) p m (bq p m):=by
  unfold GA Gi
  rw [e116,e117,e4,e120]
 constructor
 ·have i1:decide (0≤p.aa)=true:=decide_eq_true hp.t0
  have i2:decide (p.aa<Int.ofNat 2)=true:=decide_eq_true (by show p.aa<2;have:=hth.1;omega)
  have i3:decide (0≤m.az)=true:=decide_eq_true f0
  have i4:decide (m.az<Int.ofNat 64)=true:=decide_eq_true f1
  unfold BY
  dsimp only
  rw [e79,o79,o116,e116,o117,e117,o118]
  generalize hz:cA p m (cr p m (bS p m (bC p m p p m (bq p m)) p m (bq p m)) p m (bq p m)) p m (bq p m)=z at *
  have a1:=o47 0 (ep p.full) (.inl rfl) (.inl rfl)
  have a2:=o47 0 z.full (.inl rfl) (.inr rfl)
  have a3:=o47 (ep p.half) (ep p.full) (.inr rfl) (.inl rfl)
  have a4:=o47 (ep p.half) z.full (.inr rfl) (.inr rfl)
  cases h3:p.variant==3 with
  | false =>
   rw [h3] at e4
   simp only [cond_false] at e4
   rw [e4,e120,o120,o121,i1,i2,i3,i4]
   simp only [a1,a2,a3,a4,Bool.true_and,Bool.and_true,cond_false]
   cases m.aX==1<;>cases m.aX==0<;>cases bg (p.ae.getD (scale 1 m.az).toNat 0)==1<;>cases decide (bq p m≥0)<;>cases p.aa==1<;>cases z.variant==5<;>simp
  | true =>
   rw [h3] at e4
   simp only [cond_true] at e4
   cases hd:decide (bq p m≥0) with
   | false =>
    rw [hd] at e4
    simp only [cond_false] at e4
    rw [e4,e120,o120,o121,i1,i2,i3,i4]
    simp only [a1,a2,a3,a4,Bool.true_and,Bool.and_true,cond_false,cond_true]
    cases m.aX==1<;>cases m.aX==0<;>cases bg (p.ae.getD (scale 1 m.az).toNat 0)==1<;>cases p.aa==1<;>cases z.variant==5<;>simp
   | true =>
    rw [hd] at e4
    simp only [cond_true] at e4
    rw [e4,l58,e120,o120,o121,i1,i2,i3,i4]
    simp only [a1,a2,a3,a4,Bool.true_and,Bool.and_true,cond_true]
    cases m.aX==1<;>cases m.aX==0<;>cases bg (p.ae.getD (scale 1 m.az).toNat 0)==1<;>cases p.aa==1<;>cases z.variant==5<;>simp
 ·rw [OM,e79,e3,eEnd]
  rfl
end
end Kz
end
noncomputable section
namespace Kz
open Go Go.RowKit Go.Proofs
def K26:KT:=[(26,16,[(0,[1]),(1,[1,3]),(2,[1,3]),(3,[1,3]),(4,[2])])]
def B26:aw:=bO Pz K26 [(38,G38),(54,G54),(55,G55)] [] []
theorem ai5:aW B26:=aj ak ⟨s38,s54,s55,trivial⟩ trivial trivial
def y5 (a:Pos):M':=([]++GS a++KN a++WB a)
def vr (a:Pos):Bool:=(LL (a)&&(0==0&&decide (0+(GS a).length≤1073741824)&&(BS (a)&&(([]++GS a).length==([]++GS a).length&&decide (([]++GS a).length+(KN a).length≤1073741824)&&(HM (a)&&(([]++GS a++KN a).length==([]++GS a++KN a).length&&decide (([]++GS a++KN a).length+(WB a).length≤1073741824)&&true))))))
theorem P26 (a:Pos) (h:vr a=true):PS Pz 26 [Pos.av a] ((dL .mv).res (y5 a)):=pq14 ai5 h
def G26:GT:=g1 aY (fun a=>cp (vr a) ((dL .mv).res (y5 a)))
theorem s26:Sound Pz 26 G26:=aH fun a=>aC (P26 a)
def K75:KT:=[(75,8,[(0,[1,2]),(1,[4])])]
def B75:aw:=bO Pz K75 [(150,xb)] [] []
theorem agM:aW B75:=aj ak ⟨An,trivial⟩ trivial trivial
def oR (a:Pos) (b:Int):Int:=(cn (Pos.mk a.variant a.ae a.ab a.af a.aa a.ai a.ah a.ag a.half a.full) b 6)
def pH (a:Pos) (b:Int):Bool:=(tQ (Pos.mk a.variant a.ae a.ab a.af a.aa a.ai a.ah a.ag a.half a.full) (b) (6)&&true)
theorem P75 (a:Pos) (b:Int) (h:pH a b=true):PS Pz 75 [Pos.av a,.int .u8 b] ((dI .i64).res (oR a b)):=pq14 agM h
def Tb:GT:=g2 aY (dI .u8) (fun a b=>cp (pH a b) ((dI .i64).res (oR a b)))
theorem Wz:Sound Pz 75 Tb:=bb fun a b=>aC (P75 a b)
def K85:KT:=[(85,48,[(0,(2::3::(rn 21 4 (rn 31 7 (rn 43 4 []))))),(1,(2::3::5::6::(rn 21 4 (rn 31 7 (rn 43 4 []))))),(2,(2::3::5::6::16::(rn 21 4 (rn 31 7 (rn 43 4 []))))),(3,(2::3::5::6::7::(rn 31 7 (rn 43 4 [])))),(4,(2::3::6::38::(rn 43 4 []))),(5,[4]),(6,[4])])]
def B85:aw:=bO Pz K85 [(33,G33),(75,Tb),(84,WH)] [] []
theorem ado:aW B85:=aj ak ⟨s33,Wz,X2,trivial⟩ trivial trivial
def WJ (a:Pos) (b:Pos):Bool:=(bif Mn a.variant a.aa then (bif a.variant==3 then (bif decide (oR b a.aa<0) then (false) else (bif !decide (oR b (wr .u8 (1-a.aa))<0) then (bif nF b a.aa then (false) else (bif a.variant != 8 then (true) else (!nF b (wr .u8 (1-a.aa))))) else (bif a.variant != 8 then (true) else (!nF b (wr .u8 (1-a.aa)))))) else (bif decide (oR b a.aa<0) then (false) else (bif nF b a.aa then (false) else (bif a.variant != 8 then (true) else (!nF b (wr .u8 (1-a.aa))))))) else (bif a.variant != 8 then (true) else (!nF b (wr .u8 (1-a.aa)))))
def JB (a:Pos) (b:Pos):Bool:=(bif Mn a.variant a.aa then (bif a.variant==3 then (pH (b) (wr .u8 (1-a.aa))&&(pH (b) (a.aa)&&(bif decide (oR b a.aa<0) then true else (bif !decide (oR b (wr .u8 (1-a.aa))<0) then (jk (b) (a.aa)&&(bif nF b a.aa then true else (bif a.variant != 8 then true else (jk (b) (wr .u8 (1-a.aa))&&true)))) else (bif a.variant != 8 then true else (jk (b) (wr .u8 (1-a.aa))&&true)))))) else (pH (b) (a.aa)&&(bif decide (oR b a.aa<0) then true else (jk (b) (a.aa)&&(bif nF b a.aa then true else (bif a.variant != 8 then true else (jk (b) (wr .u8 (1-a.aa))&&true))))))) else (bif a.variant != 8 then true else (jk (b) (wr .u8 (1-a.aa))&&true)))
theorem P85 (a:Pos) (b:Pos) (h:JB a b=true):PS Pz 85 [Pos.av a,Pos.av b] (dB.res (WJ a b)):=pq14 ado h
def G85:GT:=g2 aY aY (fun a b=>cp (JB a b) (dB.res (WJ a b)))
theorem s85:Sound Pz 85 G85:=bb fun a b=>aC (P85 a b)
def K35:KT:=[(35,77,[(0,(1::(rn 11 12 (rn 52 7 [71,72,73])))),(1,(1::3::4::(rn 11 12 (rn 52 7 [71,72,73])))),(2,(1::3::4::23::(rn 52 7 [71,72,73]))),(3,[2]),(4,(1::3::4::5::(rn 52 7 [71,72,73]))),(5,(1::(rn 3 4 (rn 52 7 [71,72,73])))),(6,(1::(rn 3 4 (29::(rn 52 7 [71,72,73]))))),(7,(1::(rn 3 4 (rn 52 7 [71,72,73])))),(8,(1::(rn 3 4 (40::(rn 52 7 [71,72,73]))))),(9,(1::(rn 3 4 (rn 52 7 [71,72,73])))),(10,(1::(rn 3 4 (rn 52 8 [71,72,73])))),(11,(1::(rn 3 4 (rn 52 7 [71,72,73])))),(12,[3,4,74]),(13,[2]),(14,[2])])]
def XL:aw:=bO Pz K35 [(19,KE),(26,G26),(36,T8),(75,Tb),(84,WH),(85,G85),(39,ZB)] [] []
theorem Vo:aW XL:=aj ak ⟨MN,s26,WI,Wz,X2,s85,s39,trivial⟩ trivial trivial
def Qk (p1:M') (p2:Pos) (p3:Nat) (x:(M'×M'×Int×Nat)):St:=St.mk (.any::.ptr 0 0::.any::.list .mv x.1 (.own 1)::.list .mv x.2.1 (.own 2)::.list .mv p1 .fresh::.int .i64 x.2.2.1::(an 64 (.undef::.undef::.undef::(an 3 [])))) (Hp.mk [(pc p2 [])] [p3,x.1.length,x.2.2.2] [] 0 0 0)
def QX (p1:M') (p2:Pos) (p3:Nat):(M'×M'×Int×Bool×Nat)→Out:=fun y=>.exit 0 (St.mk (.any::.ptr 0 0::.any::.list .mv y.1 (.own 1)::.list .mv y.2.1 (.own 2)::.list .mv p1 .fresh::.int .i64 y.2.2.1::(an 22 (.bool y.2.2.2.1::(an 41 (.undef::.undef::.undef::(an 3 [])))))) (Hp.mk [(pc p2 [])] [p3,y.1.length,y.2.2.2.2] [] 0 0 0))
def Mf (p1:M') (p2:Pos) (p3:Nat) (x:(M'×M'×Int×Nat)):aG (M'×M'×Int×Nat) ((M'×M'×Int×Bool×Nat)):=(bif decide (x.2.2.1<Int.ofNat p1.length) then (bif !WJ p2 (vy p2 (p1.getD x.2.2.1.toNat default)) then (aG.go (x.1,x.2.1,wr .i64 (x.2.2.1+1),x.2.2.2)) else (bif p2.variant==4 then (bif decide (iO p2 (p1.getD x.2.2.1.toNat default)≥0) then (aG.go (x.1++[p1.getD x.2.2.1.toNat default],x.2.1++[p1.getD x.2.2.1.toNat default],wr .i64 (x.2.2.1+1),(x.2.1++[p1.getD x.2.2.1.toNat default]).length)) else (aG.go (x.1++[p1.getD x.2.2.1.toNat default],x.2.1,wr .i64 (x.2.2.1+1),x.2.2.2))) else (aG.go (x.1++[p1.getD x.2.2.1.toNat default],x.2.1,wr .i64 (x.2.2.1+1),x.2.2.2)))) else (aG.out ((x.1,x.2.1,x.2.2.1,decide (x.2.2.1<Int.ofNat p1.length),x.2.2.2))))
def EF (p1:M') (p2:Pos) (p3:Nat) (x:(M'×M'×Int×Nat)):Bool:=(bif decide (x.2.2.1<Int.ofNat p1.length) then (decide (0≤x.2.2.1)&&decide (x.2.2.1<Int.ofNat p1.length)&&(BY (p2) (p1.getD x.2.2.1.toNat default)&&(JB (p2) (vy p2 (p1.getD x.2.2.1.toNat default))&&(bif !WJ p2 (vy p2 (p1.getD x.2.2.1.toNat default)) then true else (decide (0≤x.2.2.1)&&decide (x.2.2.1<Int.ofNat p1.length)&&(x.1.length==x.1.length&&decide (x.1.length+1≤1073741824)&&(bif p2.variant==4 then (decide (0≤x.2.2.1)&&decide (x.2.2.1<Int.ofNat p1.length)&&(A3 (p2) (p1.getD x.2.2.1.toNat default)&&(bif decide (iO p2 (p1.getD x.2.2.1.toNat default)≥0) then (decide (0≤x.2.2.1)&&decide (x.2.2.1<Int.ofNat p1.length)&&(x.2.2.2==x.2.1.length&&decide (x.2.1.length+1≤1073741824)&&true)) else true))) else true))))))) else true)
def gm (p1:M') (p2:Pos) (p3:Nat) (x:(M'×M'×Int×Nat)):Option ((M'×M'×Int×Bool×Nat)):=cO (fun x=>bif EF p1 p2 p3 x then Mf p1 p2 p3 x else .bad) many x
abbrev Rv {α:Type} (k:M'→Pos→Nat→(M'×M'×Int×Nat)→α) (s:St):α:=wP s 0 fun q0=>k (tL (ET.mv) (tT s 5)) q0 (tK s 0) ((tL (ET.mv) (tT s 3)),(tL (ET.mv) (tT s 4)),(tI (tT s 6)),(tK s 2))
theorem Zw (p1:M') (p2:Pos) (p3:Nat) (x:(M'×M'×Int×Nat)) (r:(M'×M'×Int×Bool×Nat)) (h:gm p1 p2 p3 x=some r):ay Pz (aT Pz 35 6) (Qk p1 p2 p3 x) (QX p1 p2 p3 r):=smq (m:=12) (fn:=35) Vo (Rv fun _ _ _ x=>some x) (fun o=>match o with | .exit 0 s=>some ((tL ET.mv (tT s 3)),(tL ET.mv (tT s 4)),(tI (tT s 6)),(tB (tT s 29)),(tK s 2)) | _=>none) many x r h
def QU (b:Code) (s:St):Tr Out:=Rv (fun p1 p2 p3 x=>lq b (aT Pz 35 6) s (Qk p1 p2 p3 x) (gm p1 p2 p3 x) (QX p1 p2 p3)) s
theorem VH:∀ b,aM Pz b (QU b):=fun _ _ _ h=>bK (Zw _ _ _ _) h
def B35:aw:=bO Pz K35 [(19,KE),(26,G26),(36,T8),(75,Tb),(84,WH),(85,G85),(39,ZB)] [(35,6,QU)] []
theorem aiW:aW B35:=aj ak ⟨MN,s26,WI,Wz,X2,s85,s39,trivial⟩ ⟨VH,trivial⟩ trivial
def Gm (a:Pos):M':=(bif !rX a then ([]) else (bif Mn a.variant a.aa then (bif decide (oR a a.aa<0) then ([]) else (bif a.variant==4 then (bif decide (Int.ofNat ((gm (y5 a) a 0 ([],[],0,0)).getD default).2.1.length>0) then (((gm (y5 a) a 0 ([],[],0,0)).getD default).2.1) else (((gm (y5 a) a 0 ([],[],0,0)).getD default).1)) else (((gm (y5 a) a 0 ([],[],0,0)).getD default).1))) else (bif a.variant==4 then (bif decide (Int.ofNat ((gm (y5 a) a 0 ([],[],0,0)).getD default).2.1.length>0) then (((gm (y5 a) a 0 ([],[],0,0)).getD default).2.1) else (((gm (y5 a) a 0 ([],[],0,0)).getD default).1)) else (((gm (y5 a) a 0 ([],[],0,0)).getD default).1))))
def xo (a:Pos):Bool:=(bif !rX a then true else (bif Mn a.variant a.aa then (pH (a) (a.aa)&&(bif decide (oR a a.aa<0) then true else (vr (a)&&((gm (y5 a) a 0 ([],[],0,0)).isSome&&true)))) else (vr (a)&&((gm (y5 a) a 0 ([],[],0,0)).isSome&&true))))
theorem P35 (a:Pos) (h:xo a=true):PS Pz 35 [Pos.av a] ((dL .mv).res (Gm a)):=pq14 aiW h
def G35:GT:=g1 aY (fun a=>cp (xo a) ((dL .mv).res (Gm a)))
theorem s35:Sound Pz 35 G35:=aH fun a=>aC (P35 a)
end Kz
end
noncomputable section
namespace Kz
open Go Go.RowKit
theorem ma {q:Pos} (hq:aA q) {c:Int} (hc:c=0∨c=1):pH q c=true∧oR q c=aZ q c 6:=by
 obtain ⟨h1,h2⟩:=o9 hq hc (k:=6) (by omega) (by omega)
 exact ⟨ao h1 fun _=>rfl,h2⟩
theorem Ek (x:Int):decide (x<0)=!decide (x≥0):=by
 by_cases h:x<0
 ·rw [decide_eq_true h,decide_eq_false (show ¬ x≥0 by omega)];rfl
 ·rw [decide_eq_false h,decide_eq_true (show x≥0 by omega)];rfl
noncomputable section
variable {p:Pos} (hp:aA p) (hth:there p)
include hp hth
theorem yo:vr p=true∧y5 p=b8 p:=by
 obtain ⟨a1,a2⟩:=KP hp hth
 obtain ⟨b1,b2⟩:=UR hp
 obtain ⟨c1,c2⟩:=Tg hp
 have l1:(dz p).length≤20480:=jS hp.v0
 have l2:=uy (p:=p) hp
 have l3:=ti (p:=p) hp.t0
 unfold vr y5
 rw [a1,a2,b1,b2,c1,c2,kh,List.nil_append]
 refine ⟨?_,rfl⟩
 rw [decide_eq_true (show 0+(dz p).length≤1073741824 by omega),decide_eq_true (show (dz p).length+(dJ p).length≤1073741824 by omega),decide_eq_true (show (dz p++dJ p).length+(mb p).length≤1073741824 by rw [List.length_append];omega),beq_self_eq_true,beq_self_eq_true,beq_self_eq_true]
 rfl
theorem MT {m:Mv} (hm:m∈b8 p):JB p (vy p m)=true∧WJ p (vy p m)=dp p m:=by
 obtain ⟨t,hpt,ht⟩:=eW hp hth.1
 obtain ⟨_,e58⟩:=rU hp hth hm
 have hmv:=(dN hp m).2.1 hm
 have e17:cS p m=(E6 p m,true):=by
  rw [rR,ko (by have:=jf hp;omega),decide_eq_true hm];rfl
 rw [e17] at hmv
 obtain ⟨_,hq,_,htq⟩:=hmv
 have hqt:(E6 p m).aa=0∨(E6 p m).aa=1:=by have:(E6 p m).aa=1-p.aa:=htq;omega
 have hc:p.aa=0∨p.aa=1:=by omega
 have hc':wr .u8 (1-p.aa)=0∨wr .u8 (1-p.aa)=1:=by rw [hpt,ni (by omega) (by omega)];omega
 obtain ⟨o1,e1⟩:=ma hq hc
 obtain ⟨o2,e2⟩:=ma hq hc'
 obtain ⟨o3,e3⟩:=uF hq hqt hc
 obtain ⟨o4,e4⟩:=uF hq hqt hc'
 have er:=sE (v:=p.variant) hp.v0 hc
 rw [e58]
 unfold JB WJ dp pY
 rw [e17,er,e1,e2,e3,e4,o1,o2,o3,o4,Ek,Ek]
 simp only [Bool.not_true,Bool.not_not,cond_false,Bool.true_and,Bool.and_true,bne]
 cases lj p.variant p.aa<;>cases p.variant==3<;>cases decide (aZ (E6 p m) p.aa 6≥0)<;>cases decide (aZ (E6 p m) (wr .u8 (1-p.aa)) 6≥0)<;>cases hQ (E6 p m) p.aa<;>cases p.variant==8<;>cases hQ (E6 p m) (wr .u8 (1-p.aa))<;>exact ⟨rfl,rfl⟩
theorem ahC:∃ r,gm (b8 p) p 0 ([],[],0,0)=some r∧r.1=(b8 p).filter (dp p)∧r.2.1=(bif p.variant==4 then ((b8 p).filter (dp p)).filter (nM p) else []):=by
 have hlen:=jf hp
 refine aU (Q:=fun r:M'×M'×Int×Bool×Nat=>r.1=(b8 p).filter (dp p)∧r.2.1=(bif p.variant==4 then ((b8 p).filter (dp p)).filter (nM p) else [])) (I:=fun x:M'×M'×Int×Nat=>∃ n:Nat,n≤(b8 p).length∧x.2.2.1=n∧x.1=((b8 p).take n).filter (dp p)∧x.2.1=(bif p.variant==4 then (((b8 p).take n).filter (dp p)).filter (nM p) else [])∧x.2.2.2=x.2.1.length) (μ:=fun x=>((b8 p).length-x.2.2.1).toNat) ?_ _ ⟨0,by omega,rfl,by simp,by cases p.variant==4<;>simp,rfl⟩ (by simp;omega)
 rintro ⟨a,b,x,k⟩ ⟨n,hn,hx,ha,hb,hk⟩
 simp only at hx ha hb hk
 subst hx ha hk
 unfold EF Mf
 dsimp only
 by_cases hc:n<(b8 p).length
 ·have hm:(b8 p).getD n default∈b8 p:=ct hc
  have ht:(b8 p).take (n+1)=(b8 p).take n++[(b8 p).getD n default]:=by
   rw [List.take_add_one,List.getD_eq_getElem?_getD,I' hc];rfl
  have la:(((b8 p).take n).filter (dp p)).length≤n:=Nat.le_trans (List.length_filter_le _ _) (by rw [List.length_take];omega)
  have lb:b.length≤n:=by
   rw [hb]
   refine aq (P:=fun l:M'=>l.length≤n) (fun _=>Nat.le_trans (List.length_filter_le _ _) la) fun _=>by simp
  rw [decide_eq_true (show (n:Int)<Int.ofNat (b8 p).length from Int.ofNat_lt.2 hc),decide_eq_true (show (0:Int)≤n by omega),Int.toNat_natCast,aF (n:=(n:Int)+1) (by omega) (by omega)]
  generalize (b8 p).getD n default=m at *
  obtain ⟨o58,_⟩:=rU hp hth hm
  obtain ⟨o78,e78⟩:=MT hp hth hm
  obtain ⟨o79,e79⟩:=Ah hp hth hm
  have eT:nM p m=decide (bq p m≥0):=rfl
  rw [o58,o78,e78,o79,e79,decide_eq_true (show (((b8 p).take n).filter (dp p)).length+1≤1073741824 by omega),decide_eq_true (show b.length+1≤1073741824 by omega),beq_self_eq_true,beq_self_eq_true]
  constructor
  ·cases dp p m<;>cases p.variant==4<;>cases decide (bq p m≥0)<;>rfl
  ·have go:∀ (a' b':M') (k':Nat),a'=((b8 p).take (n+1)).filter (dp p)→b'=(bif p.variant==4 then (((b8 p).take (n+1)).filter (dp p)).filter (nM p) else [])→k'=b'.length →
     zE (fun x:M'×M'×Int×Nat=>∃ n:Nat,n≤(b8 p).length∧x.2.2.1=n∧x.1=((b8 p).take n).filter (dp p)∧x.2.1=(bif p.variant==4 then (((b8 p).take n).filter (dp p)).filter (nM p) else [])∧x.2.2.2=x.2.1.length) (fun r:M'×M'×Int×Bool×Nat=>r.1=(b8 p).filter (dp p)∧r.2.1=(bif p.variant==4 then ((b8 p).filter (dp p)).filter (nM p) else [])) (fun x:M'×M'×Int×Nat=>((b8 p).length-x.2.2.1).toNat) ((((b8 p).length:Int)-(n:Int)).toNat) (.go (a',b',(n:Int)+1,k')) :=
    fun a' b' k' h1 h2 h3=>⟨⟨n+1,by omega,by simp,h1,h2,h3⟩,by dsimp only;omega⟩
   have hf:((b8 p).take (n+1)).filter (dp p)=bif dp p m then ((b8 p).take n).filter (dp p)++[m] else ((b8 p).take n).filter (dp p):=by
    rw [ht,List.filter_append]
    cases h:dp p m<;>simp [h]
   cases hw:dp p m with
   | false =>
    rw [hw] at hf
    exact go _ _ _ (by rw [hf];rfl) (by rw [hf];exact hb) rfl
   | true =>
    rw [hw] at hf
    simp only [cond_true] at hf
    cases hv:p.variant==4 with
    | false=>rw [hv] at hb go;exact go _ _ _ hf.symm hb rfl
    | true =>
     rw [hv] at hb go
     simp only [cond_true] at hb
     have hf2:(((b8 p).take n).filter (dp p)++[m]).filter (nM p)=bif nM p m then b++[m] else b:=by
      rw [List.filter_append,hb]
      cases h:nM p m<;>simp [h]
     cases hd:decide (bq p m≥0) with
     | false=>exact go _ b _ hf.symm (by rw [hf,cond_true,hf2,eT,hd];rfl) rfl
     | true=>exact go _ (b++[m]) _ hf.symm (by rw [hf,cond_true,hf2,eT,hd];rfl) rfl
 ·rw [decide_eq_false (show ¬ ((n:Int)<Int.ofNat (b8 p).length) from fun h=>hc (Int.ofNat_lt.1 h))]
  have:n=(b8 p).length:=by omega
  subst this
  rw [List.take_length] at hb ⊢
  exact ⟨rfl,rfl,hb⟩
theorem Kv:xo p=true∧Gm p=kZ p:=by
 obtain ⟨t,hpt,ht⟩:=eW hp hth.1
 have hc:p.aa=0∨p.aa=1:=by omega
 obtain ⟨a1,a2⟩:=yo hp hth
 obtain ⟨b1,b2,b3⟩:=aK (ahC hp hth)
 obtain ⟨o1,e1⟩:=ma hp hc
 have er:=sE (v:=p.variant) hp.v0 hc
 rw [yz hp]
 unfold xo Gm pY j5
 rw [jE hth,er,a1,a2,e1,o1,b1,b2,b3,Ek]
 refine ⟨by cases lj p.variant p.aa<;>cases decide (aZ p p.aa 6≥0)<;>rfl,?_⟩
 have any:∀ l:M',decide (Int.ofNat (l.filter (nM p)).length>0)=l.any (nM p):=fun l=>by
  rw [Bool.eq_iff_iff,decide_eq_true_eq,List.any_eq_true]
  constructor
  ·intro h
   have h:0<(l.filter (nM p)).length:=Int.ofNat_lt.1 h
   obtain ⟨x,hx⟩:=List.exists_mem_of_length_pos h
   exact ⟨x,(List.mem_filter.1 hx).1,(List.mem_filter.1 hx).2⟩
  ·rintro ⟨x,h1,h2⟩
   exact Int.ofNat_lt.2 (List.length_pos_of_mem (List.mem_filter.2 ⟨h1,h2⟩))
 cases p.variant==4 with
 | false=>cases lj p.variant p.aa<;>cases decide (aZ p p.aa 6≥0)<;>rfl
 | true =>
  simp only [cond_true]
  rw [any]
  cases lj p.variant p.aa<;>cases decide (aZ p p.aa 6≥0)<;>rfl
end
end Kz
end
noncomputable section
namespace Kz
open Go Go.RowKit Go.Proofs
def K76:KT:=[(76,11,[(0,[0,1,4]),(1,[1,4,6]),(2,[4]),(3,[4])])]
def B76:aw:=bO Pz K76 [] [] []
theorem agS:aW B76:=aj ak trivial trivial trivial
def nc (a:Int) (b:Int):(Int×Int):=(bif a==0 then ⟨(1),(b)⟩ else ⟨(2),(b)⟩)
def air (a:Int) (b:Int):Bool:=true
theorem P76 (a:Int) (b:Int) (h:air a b=true):PS Pz 76 [.int .u8 a,.int .u8 b] ((dR .u8 .u8).res (nc a b)):=pq14 agS h
def G76:GT:=g2 (dI .u8) (dI .u8) (fun a b=>.ret ((dR .u8 .u8).res (nc a b)))
theorem s76:Sound Pz 76 G76:=bb fun a b=>bV (P76 a b rfl)
def K77:KT:=[(77,17,[(0,[0,6,7,10,11,14,15]),(1,[2])])]
def B77:aw:=bO Pz K77 [] [] []
theorem ade:aW B77:=aj ak trivial trivial trivial
def VF (a:Int):Bool:=(bif a==27 then (true) else (bif a==28 then (true) else (bif a==35 then (true) else (a==36))))
def aiD (a:Int):Bool:=true
theorem P77 (a:Int) (h:aiD a=true):PS Pz 77 [.int .i64 a] (dB.res (VF a)):=pq14 ade h
def G77:GT:=g1 (dI .i64) (fun a=>.ret (dB.res (VF a)))
theorem s77:Sound Pz 77 G77:=aH fun a=>bV (P77 a rfl)
def K78:KT:=[(78,14,[(0,[1,2]),(1,[1,2,5]),(2,[1,2,5,7]),(3,[1,2,5]),(4,[1,2,5,13]),(5,[4]),(6,[4])])]
def Xd:aw:=bO Pz K78 [(151,MB)] [] []
theorem Te:aW Xd:=aj ak ⟨PA,trivial⟩ trivial trivial
def QR (p1:Int) (p2:Pos) (x:(Int)):St:=St.mk (.any::.int .u8 p1::.ptr 0 0::.any::.any::.int .i64 x::(an 8 [])) (Hp.mk [(pc p2 [])] [] [] 0 0 0)
def RX (p1:Int) (p2:Pos):Unit ⊕ (Int×Bool)→Out
 | (.inl (y))=>.ret (St.mk (an 4 (AV.aL true::(an 9 []))) (Hp.mk [(pc p2 [])] [] [] 0 0 0))
 | (.inr (y))=>.exit 0 (St.mk (AV.any::AV.int .u8 p1::AV.ptr 0 0::AV.any::AV.any::AV.int .i64 y.1::AV.any::AV.bool y.2::(an 6 [])) (Hp.mk [(pc p2 [])] [] [] 0 0 0))
def Jo (p1:Int) (p2:Pos) (x:(Int)):aG (Int) (Unit ⊕ (Int×Bool)):=(bif decide (x<64) then (bif il (Pos.mk p2.variant p2.ae p2.ab p2.af p2.aa p2.ai p2.ah p2.ag p2.half p2.full) x p1 then (aG.out (.inl (()))) else (aG.go (wr .i64 (x+1)))) else (aG.out (.inr ((x,decide (x<64))))))
def Eu (p1:Int) (p2:Pos) (x:(Int)):Bool:=(bif decide (x<64) then (qI (Pos.mk p2.variant p2.ae p2.ab p2.af p2.aa p2.ai p2.ah p2.ag p2.half p2.full) (x) (p1)&&true) else true)
def pK (p1:Int) (p2:Pos) (x:(Int)):Option (Unit ⊕ (Int×Bool)):=cO (fun x=>bif Eu p1 p2 x then Jo p1 p2 x else .bad) many x
abbrev RI {α:Type} (k:Int→Pos→(Int)→α) (s:St):α:=wP s 0 fun q0=>k (tI (tT s 1)) q0 ((tI (tT s 5)))
theorem Yt (p1:Int) (p2:Pos) (x:(Int)) (r:Unit ⊕ (Int×Bool)) (h:pK p1 p2 x=some r):ay Pz (aT Pz 78 2) (QR p1 p2 x) (RX p1 p2 r):=ay.vC (m:=12) (fn:=78) Te (RI fun _ _ x=>some x) (fun o=>match o with | .ret s=>some (.inl ()) | .exit 0 s=>some (.inr ((tI (tT s 5)),(tB (tT s 7)))) | _=>none) (fun r=>by cases r<;>rfl) (fun _=>by kernel_rfl) (fun _=>by kernel_rfl) (fun _=>by kernel_rfl) (fun _=>by kernel_rfl) many x r h
def SJ (b:Code) (s:St):Tr Out:=RI (fun p1 p2 x=>yX b (aT Pz 78 2) s (QR p1 p2 x) (pK p1 p2 x) (RX p1 p2)) s
theorem TS:∀ b,aM Pz b (SJ b):=fun _ _ _ h=>dG (Yt _ _ _) h
def B78:aw:=bO Pz K78 [(151,MB)] [(78,2,SJ)] []
theorem aij:aW B78:=aj ak ⟨PA,trivial⟩ ⟨TS,trivial⟩ trivial
def P1 (a:Pos) (b:Int):Bool:=(bif bI ((pK b (Pos.mk a.variant a.ae a.ab a.af a.aa a.ai a.ah a.ag a.half a.full) 0).getD default) then (true) else (false))
def Cr (a:Pos) (b:Int):Bool:=((pK b (Pos.mk a.variant a.ae a.ab a.af a.aa a.ai a.ah a.ag a.half a.full) 0).isSome&&bif bI ((pK b (Pos.mk a.variant a.ae a.ab a.af a.aa a.ai a.ah a.ag a.half a.full) 0).getD default) then true else true)
theorem P78 (a:Pos) (b:Int) (h:Cr a b=true):PS Pz 78 [Pos.av a,.int .u8 b] (dB.res (P1 a b)):=pq14 aij h
def G78:GT:=g2 aY (dI .u8) (fun a b=>cp (Cr a b) (dB.res (P1 a b)))
theorem s78:Sound Pz 78 G78:=bb fun a b=>aC (P78 a b)
def K79:KT:=[(79,55,[(0,(1::2::15::30::31::32::(rn 46 6 []))),(1,(rn 1 4 (15::30::31::32::(rn 46 6 [])))),(2,(rn 1 4 (16::30::31::32::(rn 46 6 [])))),(3,[2]),(4,(1::2::3::18::30::31::32::(rn 46 6 []))),(5,[2]),(6,(1::2::21::30::31::32::(rn 46 6 []))),(7,[2]),(8,(1::2::5::30::31::32::(rn 46 6 []))),(9,(1::2::5::6::30::31::32::(rn 46 6 []))),(10,(1::2::5::6::(rn 30 4 (rn 46 6 [])))),(11,(1::2::5::6::30::31::32::(rn 46 6 []))),(12,(1::2::5::6::30::31::32::(rn 46 7 []))),(13,[2]),(14,[2])])]
def Yn:aw:=bO Pz K79 [(35,G35),(75,Tb),(76,G76)] [] []
theorem T7:aW Yn:=aj ak ⟨s35,Wz,s76,trivial⟩ trivial trivial
def RO (p1:M') (p2:Pos) (x:(Int)):St:=St.mk (.any::.ptr 0 0::.ptr 1 0::.any::.any::.list .mv p1 .fresh::.int .i64 x::(an 48 [])) (Hp.mk [(pc p2 []),[.int .u8 0,.int .u8 0]] [] [] 0 0 0)
def RN (p1:M') (p2:Pos):Unit ⊕ (Int×Bool)→Out
 | (.inl (y))=>.ret (St.mk (AV.any::AV.any::AV.ptr 1 0::(an 52 [])) (Hp.mk [(pc p2 []),[AV.aE .u8 0,AV.aE .u8 0]] [] [] 0 0 0))
 | (.inr (y))=>.exit 0 (St.mk (AV.any::AV.ptr 0 0::AV.ptr 1 0::AV.any::AV.any::AV.list ET.mv p1 Tk.fresh::AV.int .i64 y.1::(an 26 (AV.bool y.2::(an 21 [])))) (Hp.mk [(pc p2 []),[AV.int .u8 0,AV.int .u8 0]] [] [] 0 0 0))
def Cg (p1:M') (p2:Pos) (x:(Int)):aG (Int) (Unit ⊕ (Int×Bool)):=(bif decide (x<Int.ofNat p1.length) then (bif p2.aa==1 then (bif wr .i64 (p1.getD x.toNat default).az==oR p2 1 then (bif decide ((p1.getD x.toNat default).to>55) then (aG.out (.inl (()))) else (aG.go (wr .i64 (x+1)))) else (aG.go (wr .i64 (x+1)))) else (aG.out (.inr ((x,p2.aa==1))))) else (aG.out (.inr ((x,false)))))
def xH (p1:M') (p2:Pos) (x:(Int)):Bool:=(bif decide (x<Int.ofNat p1.length) then (bif p2.aa==1 then (decide (0≤x)&&decide (x<Int.ofNat p1.length)&&(pH (p2) (1)&&(bif wr .i64 (p1.getD x.toNat default).az==oR p2 1 then (decide (0≤x)&&decide (x<Int.ofNat p1.length)&&true) else true))) else true) else true)
def jm (p1:M') (p2:Pos) (x:(Int)):Option (Unit ⊕ (Int×Bool)):=cO (fun x=>bif xH p1 p2 x then Cg p1 p2 x else .bad) many x
abbrev Rd {α:Type} (k:M'→Pos→(Int)→α) (s:St):α:=wP s 0 fun q0=>k (tL (ET.mv) (tT s 5)) q0 ((tI (tT s 6)))
theorem aaT (p1:M') (p2:Pos) (x:(Int)) (r:Unit ⊕ (Int×Bool)) (h:jm p1 p2 x=some r):ay Pz (aT Pz 79 10) (RO p1 p2 x) (RN p1 p2 r):=ay.vC (m:=12) (fn:=79) T7 (Rd fun _ _ x=>some x) (fun o=>match o with | .ret s=>some (.inl ()) | .exit 0 s=>some (.inr ((tI (tT s 6)),(tB (tT s 33)))) | _=>none) (fun r=>by cases r<;>rfl) (fun _=>by kernel_rfl) (fun _=>by kernel_rfl) (fun _=>by kernel_rfl) (fun _=>by kernel_rfl) many x r h
def Rw (b:Code) (s:St):Tr Out:=Rd (fun p1 p2 x=>yX b (aT Pz 79 10) s (RO p1 p2 x) (jm p1 p2 x) (RN p1 p2)) s
theorem UT:∀ b,aM Pz b (Rw b):=fun _ _ _ h=>dG (aaT _ _ _) h
def B79:aw:=bO Pz K79 [(35,G35),(75,Tb),(76,G76)] [(79,10,Rw)] []
theorem aeY:aW B79:=aj ak ⟨s35,Wz,s76,trivial⟩ ⟨UT,trivial⟩ trivial
def WA (a:Pos):(Int×Int):=(bif decide (oR a 0>55) then (bif decide (oR a 1>55) then ⟨(3),(6)⟩ else (bif decide (oR a 1>55) then ⟨((nc 1 6).1),((nc 1 6).2)⟩ else (bif !decide (oR a 0>55) then ⟨(0),(0)⟩ else (bif bI ((jm (Gm a) a 0).getD default) then ⟨(0),(0)⟩ else ⟨((nc 0 6).1),((nc 0 6).2)⟩)))) else (bif decide (oR a 1>55) then ⟨((nc 1 6).1),((nc 1 6).2)⟩ else (bif !decide (oR a 0>55) then ⟨(0),(0)⟩ else (bif bI ((jm (Gm a) a 0).getD default) then ⟨(0),(0)⟩ else ⟨((nc 0 6).1),((nc 0 6).2)⟩))))
def Kc (a:Pos):Bool:=(pH (a) (0)&&(pH (a) (1)&&(bif decide (oR a 0>55) then (bif decide (oR a 1>55) then true else (bif decide (oR a 1>55) then true else (bif !decide (oR a 0>55) then true else (xo (a)&&((jm (Gm a) a 0).isSome&&bif bI ((jm (Gm a) a 0).getD default) then true else true))))) else (bif decide (oR a 1>55) then true else (bif !decide (oR a 0>55) then true else (xo (a)&&((jm (Gm a) a 0).isSome&&bif bI ((jm (Gm a) a 0).getD default) then true else true)))))))
theorem P79 (a:Pos) (h:Kc a=true):PS Pz 79 [Pos.av a] ((dR .u8 .u8).res (WA a)):=pq14 aeY h
def G79:GT:=g1 aY (fun a=>cp (Kc a) ((dR .u8 .u8).res (WA a)))
theorem s79:Sound Pz 79 G79:=aH fun a=>aC (P79 a)
def K32:KT:=[(32,79,[(0,[1,2]),(1,[1,2,7]),(2,[2]),(3,[1,2,3,4]),(4,[1,2,3,4,15]),(5,(rn 1 4 [15,16])),(6,[2,4,21]),(7,[2]),(8,(rn 1 4 [15,24])),(9,[1,2,3,4,30]),(10,[2]),(11,[2,3,37]),(12,[2]),(13,(rn 1 4 [15,40])),(14,[1,2,3,4,45]),(15,[2]),(16,[2,3,51]),(17,[2]),(18,(rn 1 4 [15,54])),(19,[2,58]),(20,[2]),(21,(rn 1 4 [15,60])),(22,[1,2,3,4,65]),(23,[2]),(24,[2,4,71]),(25,[2]),(26,[1,2,74]),(27,[2]),(28,[2])])]
def B32:aw:=bO Pz K32 [(19,KE),(75,Tb),(76,G76),(77,G77),(78,G78),(79,G79)] [] []
theorem afN:aW B32:=aj ak ⟨MN,Wz,s76,s77,s78,s79,trivial⟩ trivial trivial
def Jx (a:Pos):(Int×Int):=(bif !rX a then ⟨(0),(0)⟩ else (bif a.variant==3 then (bif decide (oR a a.aa<0) then ⟨((nc (wr .u8 (1-a.aa)) 6).1),((nc (wr .u8 (1-a.aa)) 6).2)⟩ else ⟨(0),(0)⟩) else (bif a.variant==5 then (bif decide (a.ag.getD (scale 1 (wr .u8 (1-a.aa))).toNat 0≥3) then ⟨((nc (wr .u8 (1-a.aa)) 7).1),((nc (wr .u8 (1-a.aa)) 7).2)⟩ else (bif decide (a.ag.getD (scale 1 a.aa).toNat 0≥3) then ⟨((nc a.aa 7).1),((nc a.aa 7).2)⟩ else ⟨(0),(0)⟩)) else (bif a.variant==6 then (bif VF (oR a (wr .u8 (1-a.aa))) then ⟨((nc (wr .u8 (1-a.aa)) 6).1),((nc (wr .u8 (1-a.aa)) 6).2)⟩ else (bif VF (oR a a.aa) then ⟨((nc a.aa 6).1),((nc a.aa 6).2)⟩ else ⟨(0),(0)⟩)) else (bif a.variant==7 then (bif !P1 a 0 then ⟨((nc 1 8).1),((nc 1 8).2)⟩ else ⟨(0),(0)⟩) else (bif a.variant==4 then (bif !P1 a a.aa then ⟨((nc a.aa 8).1),((nc a.aa 8).2)⟩ else (bif !P1 a (wr .u8 (1-a.aa)) then ⟨((nc (wr .u8 (1-a.aa)) 8).1),((nc (wr .u8 (1-a.aa)) 8).2)⟩ else ⟨(0),(0)⟩)) else (bif a.variant==8 then ⟨((WA a).1),((WA a).2)⟩ else ⟨(0),(0)⟩)))))))
def Ce (a:Pos):Bool:=(bif !rX a then true else (bif a.variant==3 then (pH (a) (a.aa)&&true) else (bif a.variant==5 then (decide (0≤wr .u8 (1-a.aa))&&decide (wr .u8 (1-a.aa)<Int.ofNat 2)&&(bif decide (a.ag.getD (scale 1 (wr .u8 (1-a.aa))).toNat 0≥3) then true else (decide (0≤a.aa)&&decide (a.aa<Int.ofNat 2)&&true))) else (bif a.variant==6 then (pH (a) (wr .u8 (1-a.aa))&&(bif VF (oR a (wr .u8 (1-a.aa))) then true else (pH (a) (a.aa)&&true))) else (bif a.variant==7 then (Cr (a) (0)&&true) else (bif a.variant==4 then (Cr (a) (a.aa)&&(bif !P1 a a.aa then true else (Cr (a) (wr .u8 (1-a.aa))&&true))) else (bif a.variant==8 then (Kc (a)&&true) else true)))))))
theorem P32 (a:Pos) (h:Ce a=true):PS Pz 32 [Pos.av a] ((dR .u8 .u8).res (Jx a)):=pq14 afN h
def G32:GT:=g1 aY (fun a=>cp (Ce a) ((dR .u8 .u8).res (Jx a)))
theorem s32:Sound Pz 32 G32:=aH fun a=>aC (P32 a)
def K11:KT:=[(11,11,[(0,[1]),(1,[1,3]),(2,[1,8]),(3,[2]),(4,[2])])]
def B11:aw:=bO Pz K11 [(32,G32),(35,G35)] [] []
theorem aek:aW B11:=aj ak ⟨s32,s35,trivial⟩ trivial trivial
def MJ (a:Pos):M':=(bif (Jx a).1 != 0 then ([]) else (Gm a))
def Ct (a:Pos):Bool:=(Ce (a)&&(bif (Jx a).1 != 0 then true else (xo (a)&&true)))
theorem P11 (a:Pos) (h:Ct a=true):PS Pz 11 [Pos.av a] ((dL .mv).res (MJ a)):=pq14 aek h
def Wb:GT:=g1 aY (fun a=>cp (Ct a) ((dL .mv).res (MJ a)))
theorem WQ:Sound Pz 11 Wb:=aH fun a=>aC (P11 a)
end Kz
end
noncomputable section
namespace Kz
open Go Go.RowKit
theorem JQ {c w:Int} (hc:c=0∨c=1):nc c w=cY c w:=by
 rcases hc with rfl | rfl<;>rfl
theorem MF:∀ s:Fin 64,(iY BinOp.and .i64 (Int.fdiv 103481868288 (2 ^ min (BitVec.ofInt 64 (s.val:Int)).toNat 64)) 1==1)=VF s.val:=by decide +kernel
theorem DW {s:Int} (h0 : -1≤s) (h1:s<64):(bif decide (s≥0) then (iY BinOp.and .i64 (Int.fdiv 103481868288 (2 ^ min (BitVec.ofInt 64 s).toNat 64)) 1==1) else false)=VF s:=by
 by_cases h:s≥0
 ·obtain ⟨n,rfl⟩:=Int.eq_ofNat_of_zero_le h
  rw [decide_eq_true h]
  exact MF ⟨n,by omega⟩
 ·have:s = -1:=by omega
  subst this
  rfl
noncomputable section
variable {p:Pos} (hp:aA p)
include hp
theorem ah5 {c:Int} (hc:c=0∨c=1) (ht:p.aa=0∨p.aa=1):∃ r,pK c p 0=some r∧bI r=(aO p c 0 != 0#64):=by
 refine aU (Q:=fun r:Unit ⊕ (Int×Bool)=>bI r=(aO p c 0 != 0#64)) (I:=fun x:Int=>∃ n:Nat,n≤64∧x=(n:Int)∧∀ s,s<n→(aO p c 0).getLsbD s=false) (μ:=fun x=>(64-x).toNat) ?_ _ ⟨0,by omega,rfl,fun s hs=>by omega⟩ (by simp)
 rintro x ⟨n,hn,rfl,h⟩
 unfold Eu Jo
 rw [show (⟨p.variant,p.ae,p.ab,p.af,p.aa,p.ai,p.ah,p.ag,p.half,p.full⟩:Pos)=p from rfl]
 by_cases h64:n<64
 ·have hb:=gJ hp ht hc h64
  have ho:=t151 hp ht h64 c
  rw [hb,ho,decide_eq_true (show (n:Int)<64 by omega),aF (n:=(n:Int)+1) (by omega) (by omega)]
  cases hx:(aO p c 0).getLsbD n with
  | true =>
   refine ⟨rfl,?_⟩
   show true=_
   symm
   rw [bne_iff_ne]
   intro e
   rw [e] at hx
   simp at hx
  | false =>
   exact ⟨rfl,⟨n+1,by omega,by simp,fun s hs=>by
    by_cases e:s=n
    ·rw [e];exact hx
    ·exact h s (by omega)⟩,by dsimp only;omega⟩
 ·have:n=64:=by omega
  subst this
  refine ⟨rfl,?_⟩
  show false=_
  symm
  rw [bne_eq_false_iff_eq]
  exact BitVec.eq_of_getLsbD_eq fun i hi=>by rw [h i hi];simp
theorem BK {c:Int} (hc:c=0∨c=1) (ht:p.aa=0∨p.aa=1):Cr p c=true∧P1 p c=(aO p c 0 != 0#64):=by
 obtain ⟨h1,h2⟩:=aK (ah5 hp hc ht)
 unfold Cr P1
 rw [show (⟨p.variant,p.ae,p.ab,p.af,p.aa,p.ai,p.ah,p.ag,p.half,p.full⟩:Pos)=p from rfl,h1,h2]
 cases aO p c 0 != 0#64<;>exact ⟨rfl,rfl⟩
def oM (k:Int) (l:M'):Bool:=l.any fun m=>wr .i64 m.az==k&&decide (m.to≥56)
omit hp in
theorem Br {α:Type} (f:α→Bool) (d:α):∀ (l:List α) (n:Nat),n<l.length→(l.take (n+1)).any f=((l.take n).any f || f (l.getD n d)):=fun l n h=>by
 rw [List.take_add_one,List.getD_eq_getElem?_getD,I' h,List.any_append]
 simp
theorem ag3 (ht:p.aa=1) (l:M') (hl:l.length≤1000000):∃ r,jm l p 0=some r∧bI r=oM (aZ p 1 6) l:=by
 obtain ⟨o1,e1⟩:=ma hp (c:=1) (by omega)
 refine aU (Q:=fun r:Unit ⊕ (Int×Bool)=>bI r=oM (aZ p 1 6) l) (I:=fun x:Int=>∃ n:Nat,n≤l.length∧x=(n:Int)∧oM (aZ p 1 6) (l.take n)=false) (μ:=fun x=>(l.length-x).toNat) ?_ _ ⟨0,by omega,rfl,rfl⟩ (by simp;omega)
 rintro x ⟨n,hn,rfl,h⟩
 unfold xH Cg
 by_cases hc:n<l.length
 ·have ha:=Br (fun m:Mv=>wr .i64 m.az==aZ p 1 6&&decide (m.to≥56)) default l n hc
  rw [decide_eq_true (show (n:Int)<Int.ofNat l.length from Int.ofNat_lt.2 hc),decide_eq_true (show (0:Int)≤n by omega),Int.toNat_natCast,aF (n:=(n:Int)+1) (by omega) (by omega),o1,e1,ht]
  have h55:decide ((l.getD n default).to>55)=decide ((l.getD n default).to≥56):=by rw [decide_eq_decide];omega
  rw [h55]
  unfold oM at h ⊢
  rw [h,Bool.false_or] at ha
  cases hx:wr .i64 (l.getD n default).az==aZ p 1 6 with
  | false=>rw [hx] at ha;exact ⟨rfl,⟨n+1,by omega,by simp,ha⟩,by dsimp only;omega⟩
  | true =>
   rw [hx] at ha
   cases hy:decide ((l.getD n default).to≥56) with
   | false=>rw [hy] at ha;exact ⟨rfl,⟨n+1,by omega,by simp,ha⟩,by dsimp only;omega⟩
   | true =>
    refine ⟨rfl,?_⟩
    show true=_
    symm
    rw [List.any_eq_true]
    exact ⟨_,ct hc,by rw [hx,hy];rfl⟩
 ·rw [decide_eq_false (show ¬ ((n:Int)<Int.ofNat l.length) from fun h=>hc (Int.ofNat_lt.1 h))]
  refine ⟨rfl,?_⟩
  rw [List.take_of_length_le (by omega)] at h
  exact h.symm
omit hp in
theorem UY (l:M') (hl:l.length≤1000000) (q:Pos) (k:Int):∃ r,eR l (Int.ofNat l.length) q k 0=some r∧bI r=oM k l∧0≤gl r:=by
 refine aU (Q:=fun r:Int ⊕ (Int×Bool)=>bI r=oM k l∧0≤gl r) (I:=fun x:Int=>∃ n:Nat,n≤l.length∧x=(n:Int)∧oM k (l.take n)=false) (μ:=fun x=>(l.length-x).toNat) ?_ _ ⟨0,by omega,rfl,rfl⟩ (by simp;omega)
 rintro x ⟨n,hn,rfl,h⟩
 unfold zp EM
 by_cases hc:n<l.length
 ·have ha:=Br (fun m:Mv=>wr .i64 m.az==k&&decide (m.to≥56)) default l n hc
  rw [decide_eq_true (show (n:Int)<Int.ofNat l.length from Int.ofNat_lt.2 hc),decide_eq_true (show (0:Int)≤n by omega),Int.toNat_natCast,aF (n:=(n:Int)+1) (by omega) (by omega)]
  unfold oM at h ⊢
  rw [h,Bool.false_or] at ha
  cases hx:wr .i64 (l.getD n default).az==k with
  | false=>rw [hx] at ha;exact ⟨rfl,⟨n+1,by omega,by simp,ha⟩,by dsimp only;omega⟩
  | true =>
   rw [hx] at ha
   cases hy:decide ((l.getD n default).to≥56) with
   | false=>rw [hy] at ha;exact ⟨rfl,⟨n+1,by omega,by simp,ha⟩,by dsimp only;omega⟩
   | true =>
    refine ⟨rfl,?_,by show (0:Int)≤n;omega⟩
    show true=_
    symm
    rw [List.any_eq_true]
    exact ⟨_,ct hc,by rw [hx,hy];rfl⟩
 ·rw [decide_eq_false (show ¬ ((n:Int)<Int.ofNat l.length) from fun h=>hc (Int.ofNat_lt.1 h))]
  rw [List.take_of_length_le (by omega)] at h
  exact ⟨rfl,h.symm,by show (0:Int)≤default;decide⟩
theorem VI (hth:there p):Kc p=true∧WA p=yM p:=by
 obtain ⟨t,hpt,ht⟩:=eW hp hth.1
 obtain ⟨o0,e0⟩:=ma hp (c:=0) (by omega)
 obtain ⟨o1,e1⟩:=ma hp (c:=1) (by omega)
 obtain ⟨o33,e33⟩:=Kv hp hth
 have hl:(kZ p).length≤1000000:=Nat.le_trans (yy hp) (by omega)
 obtain ⟨c1,c2,c3⟩:=aK (UY (kZ p) hl p (aZ p 1 6))
 have g55:∀ x:Int,decide (x>55)=decide (x≥56):=fun x=>by rw [decide_eq_decide];omega
 have w0:nc 0 6=cY 0 6:=rfl
 have w1:nc 1 6=cY 1 6:=rfl
 unfold Kc WA yM
 rw [o0,o1,e0,e1,o33,e33,w0,w1,c2,g55,g55,decide_eq_true c3]
 rcases (show p.aa=0∨p.aa=1 by omega) with h | h
 ·
  have hs:∃ r,jm (kZ p) p 0=some r∧bI r=false:=by
   refine aU (Q:=fun r:Unit ⊕ (Int×Bool)=>bI r=false) (I:=fun x:Int=>x=0) (μ:=fun x=>(kZ p).length) ?_ _ rfl (by omega)
   rintro x rfl
   unfold xH Cg
   rw [h]
   cases decide ((0:Int)<Int.ofNat (kZ p).length)<;>exact ⟨rfl,rfl⟩
  obtain ⟨d1,d2⟩:=aK hs
  rw [d1,d2,h]
  cases decide (aZ p 0 6≥56)<;>cases decide (aZ p 1 6≥56)<;>exact ⟨rfl,rfl⟩
 ·obtain ⟨d1,d2⟩:=aK (ag3 hp h (kZ p) hl)
  rw [d1,d2,h]
  cases decide (aZ p 0 6≥56)<;>cases decide (aZ p 1 6≥56)<;>cases oM (aZ p 1 6) (kZ p)<;>exact ⟨rfl,rfl⟩
end
theorem rM {p:Pos} (h:¬ there p):rX p=false:=by
 unfold rX
 by_cases h1:p.variant<9
 ·rw [decide_eq_true h1,decide_eq_false (show ¬ p.aa<2 from fun h2=>h ⟨by omega,h1⟩)];rfl
 ·rw [decide_eq_false h1];rfl
theorem bn {x:BitVec 64}:(!(x != 0#64))=(x==0#64):=by unfold bne;rw [Bool.not_not]
noncomputable section
variable {p:Pos} (hp:aA p)
include hp
theorem Mw:Ce p=true∧Jx p=rL p:=by
 by_cases hth:there p
 ·obtain ⟨t,hpt,ht⟩:=eW hp hth.1
  have v0:=hp.v0
  have v9:=hth.2
  have hc:p.aa=0∨p.aa=1:=by omega
  have hc':wr .u8 (1-p.aa)=0∨wr .u8 (1-p.aa)=1:=by rw [hpt,ni (by omega) (by omega)];omega
  obtain ⟨o1,e1⟩:=ma hp hc
  obtain ⟨o2,e2⟩:=ma hp hc'
  obtain ⟨a0,b0⟩:=BK hp (c:=0) (by omega) hc
  obtain ⟨a1,b1⟩:=BK hp hc hc
  obtain ⟨a2,b2⟩:=BK hp hc' hc
  obtain ⟨a3,b3⟩:=VI hp hth
  have k1:=DW (gx p p.aa 6).1 (gx p p.aa 6).2
  have k2:=DW (gx p (wr .u8 (1-p.aa)) 6).1 (gx p (wr .u8 (1-p.aa)) 6).2
  have i1:(decide (0≤p.aa)&&decide (p.aa<Int.ofNat 2))=true:=by simp;omega
  have i2:(decide (0≤wr .u8 (1-p.aa))&&decide (wr .u8 (1-p.aa)<Int.ofNat 2))=true:=by simp;omega
  have d9:decide (p.variant≥9)=false:=decide_eq_false (by omega)
  have d1:decide (p.aa>1)=false:=decide_eq_false (by omega)
  have f1:∀ w,nc p.aa w=cY p.aa w:=fun w=>JQ hc
  have f2:∀ w,nc (wr .u8 (1-p.aa)) w=cY (wr .u8 (1-p.aa)) w:=fun w=>JQ hc'
  have f3:nc 1 8=cY 1 8:=rfl
  unfold Ce Jx rL
  rw [jE hth,o1,o2,a0,a1,a2,a3,b0,b1,b2,b3,d9,d1,i1,i2,e1,e2]
  simp only [f1,f2,f3,← k1,← k2,bn,Ek]
  rcases (show p.variant=0∨p.variant=1∨p.variant=2∨p.variant=3∨p.variant=4∨p.variant=5∨p.variant=6∨p.variant=7∨p.variant=8 by omega) with h | h | h | h | h | h | h | h | h<;>rw [h]
  ·exact ⟨rfl,rfl⟩
  ·exact ⟨rfl,rfl⟩
  ·exact ⟨rfl,rfl⟩
  ·refine ⟨rfl,?_⟩
   unfold xX pY
   cases decide (aZ p p.aa 6≥0)<;>rfl
  ·refine ⟨by cases aO p p.aa 0==0#64<;>rfl,?_⟩
   unfold yu
   rw [show (⟨p.variant,p.ae,p.ab,p.af,p.aa,p.ai,p.ah,p.ag,p.half,p.full⟩:Pos)=p from rfl]
   cases aO p p.aa 0==0#64<;>cases aO p (wr .u8 (1-p.aa)) 0==0#64<;>rfl
  ·refine ⟨by cases decide (p.ag.getD (scale 1 (wr .u8 (1-p.aa))).toNat 0≥3)<;>rfl,?_⟩
   unfold xQ
   cases decide (p.ag.getD (scale 1 (wr .u8 (1-p.aa))).toNat 0≥3)<;>cases decide (p.ag.getD (scale 1 p.aa).toNat 0≥3)<;>rfl
  ·unfold yg
   generalize (iY BinOp.and .i64 (Int.fdiv 103481868288 (2 ^ min (BitVec.ofInt 64 (aZ p p.aa 6)).toNat 64)) 1==1)=x1
   generalize (iY BinOp.and .i64 (Int.fdiv 103481868288 (2 ^ min (BitVec.ofInt 64 (aZ p (wr .u8 (1-p.aa)) 6)).toNat 64)) 1==1)=x2
   cases decide (aZ p p.aa 6≥0)<;>cases decide (aZ p (wr .u8 (1-p.aa)) 6≥0)<;>cases x1<;>cases x2<;>exact ⟨rfl,rfl⟩
  ·refine ⟨rfl,?_⟩
   unfold yC
   rw [show (⟨p.variant,p.ae,p.ab,p.af,p.aa,p.ai,p.ah,p.ag,p.half,p.full⟩:Pos)=p from rfl]
   cases aO p 0 0==0#64<;>rfl
  ·exact ⟨rfl,rfl⟩
 ·have h19:=rM hth
  unfold Ce Jx rL
  rw [h19]
  refine ⟨rfl,?_⟩
  by_cases h9:p.variant≥9
  ·rw [decide_eq_true h9];rfl
  ·rw [decide_eq_false h9,decide_eq_true (show p.aa>1 by unfold there at hth;omega)];rfl
theorem B8:Ct p=true∧MJ p=ba p:=by
 obtain ⟨a1,a2⟩:=Mw hp
 unfold Ct MJ
 rw [a1,a2,xz hp]
 by_cases hth:there p
 ·obtain ⟨b1,b2⟩:=Kv hp hth
  rw [b1,b2]
  cases (rL p).1 != 0<;>exact ⟨rfl,rfl⟩
 ·have h33:xo p=true∧Gm p=[]:=by
   unfold xo Gm
   rw [rM hth]
   exact ⟨rfl,rfl⟩
  have h38:b8 p=[]:=by
   have h0:∀ m,m∉b8 p:=fun m hm=>hth (eZ hp hm).1
   cases h:b8 p with
   | nil=>rfl
   | cons a l=>exact absurd (by rw [h];simp) (h0 a)
  have h31:kZ p=[]:=by
   have h0:∀ m,m∉kZ p:=fun m hm=>by
    have:=(yO hp hm).1
    rw [h38] at this
    cases this
   cases h:kZ p with
   | nil=>rfl
   | cons a l=>exact absurd (by rw [h];simp) (h0 a)
  rw [h33.1,h33.2,h31]
  cases (rL p).1 != 0<;>exact ⟨rfl,rfl⟩
end
def dV (B:Nat):List Nat→Nat
 | []=>0
 | a::l=>a+B * dV B l
def dM (B:Nat) (n:Nat):Nat:=dV (B * B) (List.replicate n (B-1))
theorem CN {w a x:Nat} (ha:a<2 ^ w) (j:Nat):(a+2 ^ w * x).testBit j=if j<w then a.testBit j else x.testBit (j-w):=by
 rw [Nat.add_comm]
 exact Nat.testBit_two_pow_mul_add x ha j
theorem BT {w a m x y:Nat} (ha:a<2 ^ w) (hm:m<2 ^ w):(a+2 ^ w * x)&&&(m+2 ^ w * y)=(a&&&m)+2 ^ w * (x&&&y):=by
 apply Nat.eq_of_testBit_eq
 intro j
 have h:a&&&m<2 ^ w:=Nat.lt_of_le_of_lt Nat.and_le_left ha
 rw [Nat.testBit_and,CN ha,CN hm,CN h]
 split<;>rw [Nat.testBit_and]
theorem and_ones {w a:Nat} (ha:a<2 ^ w) (x:Nat):(a+2 ^ w * x)&&&(2 ^ w-1)=a:=by
 rw [Nat.and_two_pow_sub_one_eq_mod,Nat.add_mul_mod_self_left,Nat.mod_eq_of_lt ha]
theorem EX {w:Nat}:∀ (n:Nat) (ps:List (Nat×Nat)),ps.length=n→(∀ q∈ps,q.1<2 ^ w∧q.2<2 ^ w) →
  (dV (2 ^ w * 2 ^ w) (ps.map fun q=>q.1+2 ^ w * q.2)&&&dM (2 ^ w) n)=dV (2 ^ w * 2 ^ w) (ps.map (·.1))
 | 0,ps,h,_=>by
  obtain rfl:=List.length_eq_zero_iff.1 h
  simp [dV]
 | n+1,[],h,_=>by cases h
 | n+1,q::ps,h,hq=>by
  obtain ⟨h1,h2⟩:=hq q (by simp)
  have ih:=EX n ps (by simpa using h) fun q hm=>hq q (by simp [hm])
  have hb:q.1+2 ^ w * q.2<2 ^ (w+w):=by
   rw [Nat.pow_add]
   have:2 ^ w * q.2≤2 ^ w * (2 ^ w-1):=Nat.mul_le_mul_left _ (by omega)
   rw [Nat.mul_sub_one] at this
   have:=Nat.le_mul_self (2 ^ w)
   omega
  have hm:2 ^ w-1<2 ^ (w+w):=by
   have:=Nat.pow_le_pow_right (n:=2) (by omega) (show w≤w+w by omega)
   have:=Nat.two_pow_pos w
   omega
  simp only [List.map_cons,dM,List.replicate_succ,dV] at ih ⊢
  rw [← Nat.pow_add] at ih ⊢
  rw [BT hb hm,ih,and_ones h1]
theorem DY {w:Nat}:∀ (n:Nat) (ps:List (Nat×Nat)),ps.length=n→(∀ q∈ps,q.1<2 ^ w∧q.2<2 ^ w) →
  (dV (2 ^ w * 2 ^ w) (ps.map fun q=>q.1+2 ^ w * q.2) / 2 ^ w&&&dM (2 ^ w) n)=dV (2 ^ w * 2 ^ w) (ps.map (·.2))
 | 0,ps,h,_=>by
  obtain rfl:=List.length_eq_zero_iff.1 h
  simp [dV]
 | n+1,[],h,_=>by cases h
 | n+1,q::ps,h,hq=>by
  obtain ⟨h1,h2⟩:=hq q (by simp)
  have ih:=DY n ps (by simpa using h) fun q hm=>hq q (by simp [hm])
  have hpos:=Nat.two_pow_pos w
  have hm:2 ^ w-1<2 ^ (w+w):=by
   have:=Nat.pow_le_pow_right (n:=2) (by omega) (show w≤w+w by omega)
   omega
  simp only [List.map_cons,dM,List.replicate_succ,dV] at ih ⊢
  generalize dV (2 ^ w * 2 ^ w) (ps.map fun q=>q.1+2 ^ w * q.2)=R at ih ⊢
  have e:(q.1+2 ^ w * q.2+2 ^ w * 2 ^ w * R) / 2 ^ w=(q.2+2 ^ w * (R % 2 ^ w))+2 ^ (w+w) * (R / 2 ^ w):=by
   rw [show q.1+2 ^ w * q.2+2 ^ w * 2 ^ w * R=q.1+2 ^ w * (q.2+2 ^ w * R) by rw [Nat.mul_add,Nat.mul_assoc,Nat.add_assoc],Nat.add_mul_div_left _ _ hpos,Nat.div_eq_of_lt h1,Nat.zero_add,Nat.pow_add,Nat.mul_assoc,Nat.add_assoc,← Nat.mul_add,Nat.mod_add_div]
  have hb:q.2+2 ^ w * (R % 2 ^ w)<2 ^ (w+w):=by
   rw [Nat.pow_add]
   have hr:=Nat.mod_lt R hpos
   have:2 ^ w * (R % 2 ^ w)≤2 ^ w * (2 ^ w-1):=Nat.mul_le_mul_left _ (by omega)
   rw [Nat.mul_sub_one] at this
   have:=Nat.le_mul_self (2 ^ w)
   omega
  rw [e]
  rw [← Nat.pow_add] at ih ⊢
  rw [BT hb hm,ih,and_ones h2]
theorem Lb {K:Nat} {α:Type} (f g:α→Nat):∀ l:List α,dV K (l.map f)+dV K (l.map g)=dV K (l.map fun a=>f a+g a)
 | []=>rfl
 | a::l=>by
  simp only [List.map_cons,dV]
  rw [← Lb f g l,Nat.mul_add]
  omega
def Ri (B n D x t:Nat):Prop := ∃ l:List Nat,l.length=n∧(∀ d∈l,d≤D)∧dV B l=x∧l.sum=t
theorem sT:∀ (n:Nat) (l:List Nat),l.length=2 * n→∃ ps:List (Nat×Nat),ps.length=n∧l=ps.flatMap fun q=>[q.1,q.2]
 | 0,l,h=>⟨[],rfl,by simpa using h⟩
 | n+1,[],h=>by simp at h
 | n+1,[a],h=>by simp at h;omega
 | n+1,a::c::l,h=>by
  obtain ⟨ps,h1,rfl⟩:=sT n l (by simp at h;omega)
  exact ⟨(a,c)::ps,by simp [h1],rfl⟩
theorem tF {B:Nat}:∀ ps:List (Nat×Nat),dV B (ps.flatMap fun q=>[q.1,q.2])=dV (B * B) (ps.map fun q=>q.1+B * q.2)
 | []=>rfl
 | q::ps=>by
  simp only [List.flatMap_cons,List.cons_append,List.nil_append,List.map_cons,dV]
  rw [tF ps,Nat.mul_add,Nat.mul_assoc,Nat.add_assoc]
theorem pW:∀ ps:List (Nat×Nat),(ps.flatMap fun q=>[q.1,q.2]).sum=(ps.map fun q=>q.1+q.2).sum
 | []=>rfl
 | q::ps=>by
  simp only [List.flatMap_cons,List.cons_append,List.nil_append,List.map_cons,List.sum_cons]
  rw [pW ps];omega
theorem AS {w n D x t:Nat} (hD:D<2 ^ w) (h:Ri (2 ^ w) (2 * n) D x t):Ri (2 ^ w * 2 ^ w) n (2 * D) ((x / 2 ^ w&&&dM (2 ^ w) n)+(x&&&dM (2 ^ w) n)) t:=by
 obtain ⟨l,h1,h2,rfl,rfl⟩:=h
 obtain ⟨ps,h3,rfl⟩:=sT n l h1
 have hb:∀ q∈ps,q.1≤D∧q.2≤D:=fun q hq=>⟨h2 _ (List.mem_flatMap.2 ⟨q,hq,by simp⟩),h2 _ (List.mem_flatMap.2 ⟨q,hq,by simp⟩)⟩
 have hq:∀ q∈ps,q.1<2 ^ w∧q.2<2 ^ w:=fun q hm=>by have:=hb q hm;omega
 refine ⟨ps.map fun q=>q.1+q.2,by simp [h3],?_,?_,(pW ps).symm⟩
 ·intro d hd
  obtain ⟨q,hm,rfl⟩:=List.mem_map.1 hd
  have:=hb q hm
  omega
 ·rw [tF,EX n ps h3 hq,DY n ps h3 hq,Nat.add_comm,Lb]
theorem Bk {w D:Nat} (hD:2 * D<2 ^ w):∀ (n:Nat) (ps:List (Nat×Nat)),ps.length=n→(∀ q∈ps,q.1≤D∧q.2≤D) →
  (dV (2 ^ w * 2 ^ w) (ps.map fun q=>q.1+2 ^ w * q.2) / 2 ^ w+dV (2 ^ w * 2 ^ w) (ps.map fun q=>q.1+2 ^ w * q.2)&&&dM (2 ^ w) n)=dV (2 ^ w * 2 ^ w) (ps.map fun q=>q.1+q.2)
 | 0,ps,h,_=>by
  obtain rfl:=List.length_eq_zero_iff.1 h
  simp [dV]
 | n+1,[],h,_=>by cases h
 | n+1,q::ps,h,hq=>by
  obtain ⟨h1,h2⟩:=hq q (by simp)
  have ih:=Bk hD n ps (by simpa using h) fun q hm=>hq q (by simp [hm])
  have hpos:=Nat.two_pow_pos w
  have hlow:dV (2 ^ w * 2 ^ w) (ps.map fun q=>q.1+2 ^ w * q.2) % 2 ^ w≤D:=by
   cases ps with
   | nil=>simp [dV]
   | cons r rs =>
    have hr:=hq r (by simp)
    simp only [List.map_cons,dV]
    rw [Nat.mul_assoc,Nat.add_assoc,← Nat.mul_add,Nat.add_mul_mod_self_left,Nat.mod_eq_of_lt (by omega)]
    exact hr.1
  have hm:2 ^ w-1<2 ^ (w+w):=by
   have:=Nat.pow_le_pow_right (n:=2) (by omega) (show w≤w+w by omega)
   omega
  simp only [List.map_cons,dM,List.replicate_succ,dV] at ih ⊢
  generalize dV (2 ^ w * 2 ^ w) (ps.map fun q=>q.1+2 ^ w * q.2)=R at ih hlow ⊢
  have e1:(q.1+2 ^ w * q.2+2 ^ w * 2 ^ w * R) / 2 ^ w=q.2+2 ^ w * R:=by
   rw [show q.1+2 ^ w * q.2+2 ^ w * 2 ^ w * R=q.1+2 ^ w * (q.2+2 ^ w * R) by rw [Nat.mul_add,Nat.mul_assoc,Nat.add_assoc],Nat.add_mul_div_left _ _ hpos,Nat.div_eq_of_lt (by omega),Nat.zero_add]
  have e2:q.2+2 ^ w * R+(q.1+2 ^ w * q.2+2 ^ w * 2 ^ w * R)=(q.1+q.2+2 ^ w * (q.2+R % 2 ^ w))+2 ^ (w+w) * (R / 2 ^ w+R):=by
   have hR:=Nat.mod_add_div R (2 ^ w)
   rw [Nat.pow_add]
   have:2 ^ w * R=2 ^ w * (R % 2 ^ w)+2 ^ w * 2 ^ w * (R / 2 ^ w):=by
    rw [Nat.mul_assoc,← Nat.mul_add,hR]
   rw [Nat.mul_add,Nat.mul_add]
   omega
  have hb:q.1+q.2+2 ^ w * (q.2+R % 2 ^ w)<2 ^ (w+w):=by
   rw [Nat.pow_add]
   have:2 ^ w * (q.2+R % 2 ^ w)≤2 ^ w * (2 ^ w-1):=Nat.mul_le_mul_left _ (by omega)
   rw [Nat.mul_sub_one] at this
   have:=Nat.le_mul_self (2 ^ w)
   omega
  rw [e1,e2]
  rw [← Nat.pow_add] at ih ⊢
  rw [BT hb hm,ih,and_ones (by omega)]
theorem OX {w n D x t:Nat} (hD:2 * D<2 ^ w) (h:Ri (2 ^ w) (2 * n) D x t):Ri (2 ^ w * 2 ^ w) n (2 * D) (x / 2 ^ w+x&&&dM (2 ^ w) n) t:=by
 obtain ⟨l,h1,h2,rfl,rfl⟩:=h
 obtain ⟨ps,h3,rfl⟩:=sT n l h1
 have hb:∀ q∈ps,q.1≤D∧q.2≤D:=fun q hq=>⟨h2 _ (List.mem_flatMap.2 ⟨q,hq,by simp⟩),h2 _ (List.mem_flatMap.2 ⟨q,hq,by simp⟩)⟩
 refine ⟨ps.map fun q=>q.1+q.2,by simp [h3],?_,?_,(pW ps).symm⟩
 ·intro d hd
  obtain ⟨q,hm,rfl⟩:=List.mem_map.1 hd
  have:=hb q hm
  omega
 ·rw [tF,Bk hD n ps h3 hb]
theorem Sr {K:Nat}:∀ l:List Nat,(∀ d∈l,d<K)→dV K l<K ^ l.length
 | [],_=>by simp [dV]
 | a::l,h=>by
  have ih:=Sr l fun d hd=>h d (by simp [hd])
  have ha:=h a (by simp)
  simp only [dV,List.length_cons,Nat.pow_succ]
  have:K * dV K l≤K * (K ^ l.length-1):=Nat.mul_le_mul_left _ (by omega)
  rw [Nat.mul_sub_one] at this
  rw [Nat.mul_comm (K ^ l.length)]
  have hk:K≤K * K ^ l.length:=Nat.le_mul_of_pos_right _ (Nat.pow_pos (by omega))
  omega
theorem Ri.lt {B n D x t:Nat} (h:Ri B n D x t) (hD:D<B):x<B ^ n:=by
 obtain ⟨l,rfl,h2,rfl,_⟩:=h
 exact Sr l fun d hd=>by have:=h2 d hd;omega
def jH (x:BitVec 64):Nat→Nat→List Nat
 | _,0=>[]
 | i,n+1=>(x.getLsbD i).toNat::jH x (i+1) n
def LW (x:BitVec 64):Nat:=(jH x 0 64).sum
theorem vY (x:BitVec 64):∀ n i,(jH x i n).length=n
 | 0,_=>rfl
 | n+1,i=>by simp [jH,vY x n]
theorem Bx (x:BitVec 64):∀ n i,∀ d∈jH x i n,d≤1
 | 0,_,_,h=>by cases h
 | n+1,i,d,h=>by
  simp only [jH,List.mem_cons] at h
  rcases h with rfl | h
  ·cases x.getLsbD i<;>simp
  ·exact Bx x n _ d h
theorem wy (x:BitVec 64):∀ n i,dV 2 (jH x i n)=x.toNat / 2 ^ i % 2 ^ n
 | 0,_=>by simp [jH,dV,Nat.mod_one]
 | n+1,i=>by
  simp only [jH,dV]
  rw [wy x n (i+1),show (2:Nat) ^ (n+1)=2 * 2 ^ n from Nat.pow_succ',Nat.mod_mul,Nat.div_div_eq_div_mul,← Nat.pow_succ]
  congr 1
  rw [BitVec.getLsbD,Nat.testBit_eq_decide_div_mod_eq]
  have:=Nat.mod_two_eq_zero_or_one (x.toNat / 2 ^ i)
  rcases this with h | h<;>rw [h]<;>rfl
theorem VP (x:BitVec 64):Ri (2 ^ 1) (2 * 32) 1 x.toNat (LW x):=by
 refine ⟨jH x 0 64,vY x 64 0,Bx x 64 0,?_,rfl⟩
 have:=wy x 64 0
 rw [show (2:Nat) ^ 1=2 from rfl,this,Nat.pow_zero,Nat.div_one,Nat.mod_eq_of_lt x.isLt]
theorem H7 (a:BitVec 64):j8 a =
  let s1:=(a >>> 1&&&6148914691236517205#64)+(a&&&6148914691236517205#64)
  let s2:=(s1 >>> 2&&&3689348814741910323#64)+(s1&&&3689348814741910323#64)
  let s3:=s2 >>> 4+s2&&&1085102592571150095#64
  let s4:=s3+s3 >>> 8
  let s5:=s4+s4 >>> 16
  let s6:=s5+s5 >>> 32
  iY BinOp.and IntKind.i64 (wr IntKind.i64 ↑s6.toNat) 127:=by kernel_rfl
theorem UQ {r q K:Nat} (h:r<K):(r+K * q) / K=q:=by
 rw [Nat.add_mul_div_left _ _ (by omega),Nat.div_eq_of_lt h,Nat.zero_add]
theorem e8a (a b c d e f g i:Nat):a+256 * b+65536 * c+16777216 * d+4294967296 * e+1099511627776 * f+281474976710656 * g+72057594037927936 * i=a+256 * (b+256 * c+65536 * d+16777216 * e+4294967296 * f+1099511627776 * g+281474976710656 * i):=by omega
theorem e8b (a b c d e f g i:Nat):a+256 * b+65536 * c+16777216 * d+4294967296 * e+1099511627776 * f+281474976710656 * g+72057594037927936 * i+(b+256 * c+65536 * d+16777216 * e+4294967296 * f+1099511627776 * g+281474976710656 * i)=((a+b)+256 * (b+c))+65536 * ((c+d)+256 * (d+e)+65536 * (e+f)+16777216 * (f+g)+4294967296 * (g+i)+1099511627776 * i):=by omega
theorem e8c (a b c d e f g i:Nat):((a+b)+256 * (b+c))+65536 * ((c+d)+256 * (d+e)+65536 * (e+f)+16777216 * (f+g)+4294967296 * (g+i)+1099511627776 * i)+((c+d)+256 * (d+e)+65536 * (e+f)+16777216 * (f+g)+4294967296 * (g+i)+1099511627776 * i)=((a+b+c+d)+256 * (b+c+d+e)+65536 * (c+d+e+f)+16777216 * (d+e+f+g))+4294967296 * ((e+f+g+i)+256 * (f+g+i)+65536 * (g+i)+16777216 * i):=by omega
theorem e8d (a b c d e f g i:Nat):((a+b+c+d)+256 * (b+c+d+e)+65536 * (c+d+e+f)+16777216 * (d+e+f+g))+4294967296 * ((e+f+g+i)+256 * (f+g+i)+65536 * (g+i)+16777216 * i)+((e+f+g+i)+256 * (f+g+i)+65536 * (g+i)+16777216 * i)=(a+b+c+d+e+f+g+i)+128 * (2 * (b+c+d+e)+512 * (c+d+e+f)+131072 * (d+e+f+g)+33554432 * ((e+f+g+i)+256 * (f+g+i)+65536 * (g+i)+16777216 * i)+2 * (f+g+i)+512 * (g+i)+131072 * i):=by omega
theorem b8a {a b c d e f g i:Nat} (k1:a≤8) (k2:b≤8) (k3:c≤8) (k4:d≤8) (k5:e≤8) (k6:f≤8) (k7:g≤8) (k8:i≤8):a+b+c+d+e+f+g+i<128:=by omega
theorem b8b {a b c d e f g i:Nat} (k1:a≤8) (k2:b≤8) (k3:c≤8) (k4:d≤8) (k5:e≤8) (k6:f≤8) (k7:g≤8) (k8:i≤8):(a+b+c+d)+256 * (b+c+d+e)+65536 * (c+d+e+f)+16777216 * (d+e+f+g)<4294967296:=by omega
theorem b8c {a b c:Nat} (k1:a≤8) (k2:b≤8) (k3:c≤8):(a+b)+256 * (b+c)<65536:=by omega
theorem aeN {a b c d e f g i x:Nat} (k1:a≤8) (k2:b≤8) (k3:c≤8) (k4:d≤8) (k5:e≤8) (k6:f≤8) (k7:g≤8) (k8:i≤8)
  (hx:x=a+256 * b+65536 * c+16777216 * d+4294967296 * e+1099511627776 * f+281474976710656 * g+72057594037927936 * i) :
  ((x+x / 256)+(x+x / 256) / 65536+((x+x / 256)+(x+x / 256) / 65536) / 4294967296) % 128=a+b+c+d+e+f+g+i∧x<1152921504606846976:=by
 have hb:x<1152921504606846976:=by omega
 have l1:a<256:=Nat.lt_of_le_of_lt k1 (by decide)
 have l2:=b8c k1 k2 k3
 have l3:=b8b k1 k2 k3 k4 k5 k6 k7 k8
 have l4:=b8a k1 k2 k3 k4 k5 k6 k7 k8
 have h1:x / 256=b+256 * c+65536 * d+16777216 * e+4294967296 * f+1099511627776 * g+281474976710656 * i:=by
  rw [hx,e8a a b c d e f g i];exact UQ l1
 refine ⟨?_,hb⟩
 have y:x+x / 256=((a+b)+256 * (b+c))+65536 * ((c+d)+256 * (d+e)+65536 * (e+f)+16777216 * (f+g)+4294967296 * (g+i)+1099511627776 * i):=by rw [h1,hx];exact e8b a b c d e f g i
 have y2:(x+x / 256) / 65536=(c+d)+256 * (d+e)+65536 * (e+f)+16777216 * (f+g)+4294967296 * (g+i)+1099511627776 * i:=by rw [y];exact UQ l2
 generalize x+x / 256=Y at y y2 ⊢
 have z:Y+Y / 65536=((a+b+c+d)+256 * (b+c+d+e)+65536 * (c+d+e+f)+16777216 * (d+e+f+g))+4294967296 * ((e+f+g+i)+256 * (f+g+i)+65536 * (g+i)+16777216 * i):=by rw [y2,y];exact e8c a b c d e f g i
 have z2:(Y+Y / 65536) / 4294967296=(e+f+g+i)+256 * (f+g+i)+65536 * (g+i)+16777216 * i:=by rw [z];exact UQ l3
 generalize Y+Y / 65536=Z at z z2 ⊢
 rw [z2,z]
 refine (congrArg (· % 128) (e8d a b c d e f g i)).trans ?_
 show (_+128 * _) % 128=_
 rw [Nat.add_mul_mod_self_left]
 exact Nat.mod_eq_of_lt l4
theorem len8 {l:List Nat} (h:l.length=8):∃ a b c d e f g i,l=[a,b,c,d,e,f,g,i]:=by
 rcases l with _ | ⟨a,_ | ⟨b,_ | ⟨c,_ | ⟨d,_ | ⟨e,_ | ⟨f,_ | ⟨g,_ | ⟨i,_ | ⟨j,l⟩⟩⟩⟩⟩⟩⟩⟩⟩
 all_goals first | exact ⟨_,_,_,_,_,_,_,_,rfl⟩ | (simp only [List.length_cons,List.length_nil] at h;omega)
theorem aaP {x t:Nat} (h:Ri 256 8 8 x t):((x+x / 256)+(x+x / 256) / 65536+((x+x / 256)+(x+x / 256) / 65536) / 4294967296) % 128=t∧x<1152921504606846976:=by
 obtain ⟨l,h1,h2,h3,h4⟩:=h
 obtain ⟨a,b,c,d,e,f,g,i,rfl⟩:=len8 h1
 have h5:a+b+c+d+e+f+g+i=t:=by
  rw [← h4];simp only [List.sum_cons,List.sum_nil,Nat.add_zero,Nat.add_assoc]
 rw [← h5]
 refine aeN (h2 a (by simp)) (h2 b (by simp)) (h2 c (by simp)) (h2 d (by simp)) (h2 e (by simp)) (h2 f (by simp)) (h2 g (by simp)) (h2 i (by simp)) ?_
 rw [← h3]
 simp only [dV,Nat.mul_add,← Nat.mul_assoc,Nat.reduceMul,Nat.mul_zero,Nat.add_zero,Nat.add_assoc]
theorem RM {K D:Nat} (hK:0<K):∀ l:List Nat,(∀ d∈l,d≤D)→dV K l * (K-1)≤D * (K ^ l.length-1)
 | [],_=>by simp [dV]
 | a::l,h=>by
  have ih:=RM hK l fun d hd=>h d (by simp [hd])
  have ha:=h a (by simp)
  simp only [dV,List.length_cons]
  have e:K ^ (l.length+1)-1=(K-1)+K * (K ^ l.length-1):=by
   rw [Nat.pow_succ',Nat.mul_sub_one]
   have:K * 1≤K * K ^ l.length:=Nat.mul_le_mul_left _ (Nat.pow_pos hK)
   omega
  rw [e,Nat.add_mul,Nat.mul_add,Nat.mul_assoc]
  have h1:a * (K-1)≤D * (K-1):=Nat.mul_le_mul_right _ ha
  have h2:K * (dV K l * (K-1))≤K * (D * (K ^ l.length-1)):=Nat.mul_le_mul_left _ ih
  have h3:K * (D * (K ^ l.length-1))=D * (K * (K ^ l.length-1)):=Nat.mul_left_comm _ _ _
  omega
theorem Td {n:Nat} (h:n<9223372036854775808):iY BinOp.and IntKind.i64 (wr IntKind.i64 ↑n) 127=((n % 128:Nat):Int):=by
 rw [aF (by omega) (by omega)]
 have e:(BitVec.ofInt 64 (n:Int)&&&BitVec.ofInt 64 127).toNat=n % 128:=by
  rw [BitVec.toNat_and,BitVec.ofInt_natCast,BitVec.toNat_ofNat,show (BitVec.ofInt 64 127).toNat=2 ^ 7-1 from rfl,Nat.and_two_pow_sub_one_eq_mod]
  omega
 show IntKind.i64.wrap _=_
 rw [show (BitVec.ofInt IntKind.i64.bits (n:Int)&&&BitVec.ofInt IntKind.i64.bits 127).toNat=n % 128 from e]
 exact aF (by omega) (by omega)
theorem Dl (a:BitVec 64):j8 a=LW a:=by
 rw [H7]
 have d1:=AS (w:=1) (n:=32) (D:=1) (by decide) (VP a)
 have d2:=AS (w:=2) (n:=16) (D:=2) (by decide) (x:=(a.toNat / 2 ^ 1&&&dM (2 ^ 1) 32)+(a.toNat&&&dM (2 ^ 1) 32)) (t:=LW a) d1
 have l1:=d1.lt (by decide)
 have l2:=d2.lt (by decide)
 have d3:=OX (w:=4) (n:=8) (D:=4) (by decide) d2
 have l3:=d3.lt (by decide)
 have m1:dM (2 ^ 1) 32=6148914691236517205:=by decide
 have m2:dM (2 ^ 2) 16=3689348814741910323:=by decide
 have m3:dM (2 ^ 4) 8=1085102592571150095:=by decide
 rw [m1] at d1 d2 l1 l2 d3 l3
 rw [m2] at d2 l2 d3 l3
 rw [m3] at d3 l3
 dsimp only
 have e1:((a >>> 1&&&6148914691236517205#64)+(a&&&6148914691236517205#64)).toNat=(a.toNat / 2 ^ 1&&&6148914691236517205)+(a.toNat&&&6148914691236517205):=by
  rw [BitVec.toNat_add,BitVec.toNat_and,BitVec.toNat_and,BitVec.toNat_ushiftRight,Nat.shiftRight_eq_div_pow]
  exact Nat.mod_eq_of_lt l1
 generalize (a >>> 1&&&6148914691236517205#64)+(a&&&6148914691236517205#64)=s1 at e1 ⊢
 rw [← e1] at d2 l2 d3 l3
 have e2:((s1 >>> 2&&&3689348814741910323#64)+(s1&&&3689348814741910323#64)).toNat=(s1.toNat / 2 ^ 2&&&3689348814741910323)+(s1.toNat&&&3689348814741910323):=by
  rw [BitVec.toNat_add,BitVec.toNat_and,BitVec.toNat_and,BitVec.toNat_ushiftRight,Nat.shiftRight_eq_div_pow]
  exact Nat.mod_eq_of_lt l2
 generalize (s1 >>> 2&&&3689348814741910323#64)+(s1&&&3689348814741910323#64)=s2 at e2 ⊢
 rw [← e2] at d3 l3 l2 d2
 have k2:s2.toNat / 2 ^ 4+s2.toNat<2 ^ 64:=by
  obtain ⟨l,h1,h2,h3,_⟩:=d2
  have h5:=RM (K:=2 ^ 2 * 2 ^ 2) (D:=2 * 2) (by decide) l h2
  rw [h3,h1] at h5
  omega
 have e3:(s2 >>> 4+s2&&&1085102592571150095#64).toNat=(s2.toNat / 2 ^ 4+s2.toNat&&&1085102592571150095):=by
  rw [BitVec.toNat_and,BitVec.toNat_add,BitVec.toNat_ushiftRight,Nat.shiftRight_eq_div_pow,Nat.mod_eq_of_lt k2]
  rfl
 generalize (s2 >>> 4+s2&&&1085102592571150095#64)=s3 at e3 ⊢
 rw [← e3] at d3 l3
 obtain ⟨f1,f2⟩:=aaP d3
 have e4:(s3+s3 >>> 8).toNat=s3.toNat+s3.toNat / 256:=by
  rw [BitVec.toNat_add,BitVec.toNat_ushiftRight,Nat.shiftRight_eq_div_pow]
  omega
 generalize s3+s3 >>> 8=s4 at e4 ⊢
 have e5:(s4+s4 >>> 16).toNat=s4.toNat+s4.toNat / 65536:=by
  rw [BitVec.toNat_add,BitVec.toNat_ushiftRight,Nat.shiftRight_eq_div_pow]
  omega
 generalize s4+s4 >>> 16=s5 at e5 ⊢
 have e6:(s5+s5 >>> 32).toNat=s5.toNat+s5.toNat / 4294967296:=by
  rw [BitVec.toNat_add,BitVec.toNat_ushiftRight,Nat.shiftRight_eq_div_pow]
  omega
 rw [Td (by rw [e6];omega),e6,e5,e4,f1]
end Kz
end
noncomputable section
namespace Kz
open Go Go.RowKit Go.Proofs
def K34:KT:=[(34,96,[(0,(1::(rn 66 13 [92,93,94]))),(1,(1::3::(rn 66 13 [92,93,94]))),(2,(1::(rn 3 5 (rn 66 13 [92,93,94])))),(3,(1::(rn 3 6 (rn 66 13 [92,93,94])))),(4,(1::(rn 3 6 (12::(rn 66 13 [92,93,94]))))),(5,(1::(rn 3 6 (rn 66 13 [92,93,94])))),(6,(1::(rn 3 6 (19::(rn 66 13 [92,93,94]))))),(7,(1::(rn 3 6 (rn 66 13 [92,93,94])))),(8,(1::(rn 3 6 (19::22::(rn 66 13 [92,93,94]))))),(9,(1::(rn 3 6 (19::24::(rn 66 13 [92,93,94]))))),(10,(1::(rn 3 6 (rn 66 13 [92,93,94])))),(11,(1::(rn 3 6 (19::35::(rn 66 13 [92,93,94]))))),(12,(1::(rn 3 6 (rn 66 13 [92,93,94])))),(13,(1::(rn 3 6 (39::(rn 66 13 [92,93,94]))))),(14,(1::(rn 3 6 (47::(rn 66 13 [92,93,94]))))),(15,(1::(rn 3 6 (rn 66 13 [92,93,94])))),(16,(1::(rn 3 6 (rn 66 13 [92,93,94])))),(17,(rn 3 5 (53::(rn 66 13 [92,93,94])))),(18,(rn 3 5 (53::54::(rn 66 13 [92,93,94])))),(19,(rn 3 5 (53::54::(rn 66 13 [92,93,94])))),(20,(rn 4 4 (9::(rn 66 13 [])))),(21,[2]),(22,(rn 3 5 [53,80,92,93,94])),(23,(rn 3 5 [80,92,93,94])),(24,[2]),(25,[2])])]
def ZN:aw:=bO Pz K34 [(82,mV),(83,SH)] [] []
theorem Ua:aW ZN:=aj ak ⟨nm,TC,trivial⟩ trivial trivial
def Q9 (p1:Pos) (x:(Int×Int×Int×Int×Int×Z')):St:=St.mk (.any::.ptr 0 0::.any::.ptr 1 0::.int .i64 x.1::.int .i64 x.2.1::.int .i64 x.2.2.1::.int .i64 x.2.2.2.1::.int .i64 x.2.2.2.2.1::(an 57 (.undef::.undef::.undef::.undef::.undef::.undef::.undef::.undef::.undef::.undef::.undef::.undef::.undef::(an 13 [.undef,.undef,.undef,.any])))) (Hp.mk [(pc p1 []),[.ints .i64 2 x.2.2.2.2.2]] [] [] 0 0 0)
def Sk (p1:Pos):(Int×Int×Int×Int×Int×Bool×Z')→Out:=fun y=>.exit 0 (St.mk (.any::.ptr 0 0::.any::.ptr 1 0::.int .i64 y.1::.int .i64 y.2.1::.int .i64 y.2.2.1::.int .i64 y.2.2.2.1::.int .i64 y.2.2.2.2.1::(an 3 (.bool y.2.2.2.2.2.1::(an 53 (.undef::.undef::.undef::.undef::.undef::.undef::.undef::.undef::.undef::.undef::.undef::.undef::.undef::(an 13 [.undef,.undef,.undef,.any])))))) (Hp.mk [(pc p1 []),[.ints .i64 2 y.2.2.2.2.2.2]] [] [] 0 0 0))
def Kb (p1:Pos) (x:(Int×Int×Int×Int×Int×Z')):aG (Int×Int×Int×Int×Int×Z') ((Int×Int×Int×Int×Int×Bool×Z')):=(bif decide (x.2.2.2.2.1<64) then (bif bg (p1.ae.getD (scale 1 x.2.2.2.2.1).toNat 0)==0 then (aG.go (x.1,x.2.1,x.2.2.1,x.2.2.2.1,wr .i64 (x.2.2.2.2.1+1),x.2.2.2.2.2)) else (bif bg (p1.ae.getD (scale 1 x.2.2.2.2.1).toNat 0)==6 then (aG.go (x.1,x.2.1,x.2.2.1,x.2.2.2.1,wr .i64 (x.2.2.2.2.1+1),x.2.2.2.2.2.set (scale 1 (kN (p1.ae.getD (scale 1 x.2.2.2.2.1).toNat 0))).toNat (wr .i64 (x.2.2.2.2.2.getD (scale 1 (kN (p1.ae.getD (scale 1 x.2.2.2.2.1).toNat 0))).toNat 0+1)))) else (bif bg (p1.ae.getD (scale 1 x.2.2.2.2.1).toNat 0)==2 then (aG.go (wr .i64 (x.1+1),x.2.1,x.2.2.1,x.2.2.2.1,wr .i64 (x.2.2.2.2.1+1),x.2.2.2.2.2)) else (bif bg (p1.ae.getD (scale 1 x.2.2.2.2.1).toNat 0)==3 then (bif (wr .i64 (wr .i64 (x.2.2.2.2.1.tdiv 8)+x.2.2.2.2.1.tmod 8)).tmod 2==0 then (aG.go (x.1,wr .i64 (x.2.1+1),x.2.2.1,x.2.2.2.1,wr .i64 (x.2.2.2.2.1+1),x.2.2.2.2.2)) else (aG.go (x.1,x.2.1,wr .i64 (x.2.2.1+1),x.2.2.2.1,wr .i64 (x.2.2.2.2.1+1),x.2.2.2.2.2))) else (aG.go (x.1,x.2.1,x.2.2.1,wr .i64 (x.2.2.2.1+1),wr .i64 (x.2.2.2.2.1+1),x.2.2.2.2.2)))))) else (aG.out ((x.1,x.2.1,x.2.2.1,x.2.2.2.1,x.2.2.2.2.1,decide (x.2.2.2.2.1<64),x.2.2.2.2.2))))
def DV (p1:Pos) (x:(Int×Int×Int×Int×Int×Z')):Bool:=(bif decide (x.2.2.2.2.1<64) then (decide (0≤x.2.2.2.2.1)&&decide (x.2.2.2.2.1<Int.ofNat 64)&&(bif bg (p1.ae.getD (scale 1 x.2.2.2.2.1).toNat 0)==0 then true else (bif bg (p1.ae.getD (scale 1 x.2.2.2.2.1).toNat 0)==6 then (decide (0≤x.2.2.2.2.1)&&decide (x.2.2.2.2.1<Int.ofNat 64)&&(decide (0≤kN (p1.ae.getD (scale 1 x.2.2.2.2.1).toNat 0))&&decide (kN (p1.ae.getD (scale 1 x.2.2.2.2.1).toNat 0)<Int.ofNat 2)&&(decide (0≤kN (p1.ae.getD (scale 1 x.2.2.2.2.1).toNat 0))&&decide (kN (p1.ae.getD (scale 1 x.2.2.2.2.1).toNat 0)<Int.ofNat 2)&&true))) else true))) else true)
def bD (p1:Pos) (x:(Int×Int×Int×Int×Int×Z')):Option ((Int×Int×Int×Int×Int×Bool×Z')):=cO (fun x=>bif DV p1 x then Kb p1 x else .bad) many x
abbrev Sj {α:Type} (k:Pos→(Int×Int×Int×Int×Int×Z')→α) (s:St):α:=wP s 0 fun q0=>k q0 ((tI (tT s 4)),(tI (tT s 5)),(tI (tT s 6)),(tI (tT s 7)),(tI (tT s 8)),(tN (tH s 1 0)))
theorem acB (p1:Pos) (x:(Int×Int×Int×Int×Int×Z')) (r:(Int×Int×Int×Int×Int×Bool×Z')) (h:bD p1 x=some r):ay Pz (aT Pz 34 4) (Q9 p1 x) (Sk p1 r):=smq (m:=12) (fn:=34) Ua (Sj fun _ x=>some x) (fun o=>match o with | .exit 0 s=>some ((tI (tT s 4)),(tI (tT s 5)),(tI (tT s 6)),(tI (tT s 7)),(tI (tT s 8)),(tB (tT s 12)),(tN (tH s 1 0))) | _=>none) many x r h
def Rg (b:Code) (s:St):Tr Out:=Sj (fun p1 x=>lq b (aT Pz 34 4) s (Q9 p1 x) (bD p1 x) (Sk p1)) s
theorem Vm:∀ b,aM Pz b (Rg b):=fun _ _ _ h=>bK (acB _ _) h
def B34:aw:=bO Pz K34 [(82,mV),(83,SH)] [(34,4,Rg)] []
theorem aha:aW B34:=aj ak ⟨nm,TC,trivial⟩ ⟨Vm,trivial⟩ trivial
def WR (a:Pos):Bool:=(bif a.variant==0 then (bif a.variant==0 then (bif ((bD a (0,0,0,0,0,List.replicate 2 0)).getD default).2.2.2.1==0 then (bif decide (wr .i64 (wr .i64 (((bD a (0,0,0,0,0,List.replicate 2 0)).getD default).1+((bD a (0,0,0,0,0,List.replicate 2 0)).getD default).2.1)+((bD a (0,0,0,0,0,List.replicate 2 0)).getD default).2.2.1)≤1) then (true) else (bif ((bD a (0,0,0,0,0,List.replicate 2 0)).getD default).1==0 then (bif ((bD a (0,0,0,0,0,List.replicate 2 0)).getD default).2.1==0 then (true) else (((bD a (0,0,0,0,0,List.replicate 2 0)).getD default).2.2.1==0)) else (false))) else (false)) else (bif a.variant==3 then (bif a.variant==3 then (bif wr .i64 (wr .i64 (wr .i64 (((bD a (0,0,0,0,0,List.replicate 2 0)).getD default).2.2.2.1+((bD a (0,0,0,0,0,List.replicate 2 0)).getD default).1)+((bD a (0,0,0,0,0,List.replicate 2 0)).getD default).2.1)+((bD a (0,0,0,0,0,List.replicate 2 0)).getD default).2.2.1)==0 then (bR BinOp.eql (((bD a (0,0,0,0,0,List.replicate 2 0)).getD default).2.2.2.2.2.2==((List.replicate 2 0).set 0 1).set 1 1&&true)) else (false)) else (false)) else (bif a.variant==5 then (bif wr .i64 (wr .i64 (wr .i64 (((bD a (0,0,0,0,0,List.replicate 2 0)).getD default).2.2.2.1+((bD a (0,0,0,0,0,List.replicate 2 0)).getD default).1)+((bD a (0,0,0,0,0,List.replicate 2 0)).getD default).2.1)+((bD a (0,0,0,0,0,List.replicate 2 0)).getD default).2.2.1)==0 then (bR BinOp.eql (((bD a (0,0,0,0,0,List.replicate 2 0)).getD default).2.2.2.2.2.2==((List.replicate 2 0).set 0 1).set 1 1&&true)) else (false)) else (false)))) else (bif a.variant==1 then (bif ((bD a (0,0,0,0,0,List.replicate 2 0)).getD default).2.2.2.1==0 then (bif decide (wr .i64 (wr .i64 (((bD a (0,0,0,0,0,List.replicate 2 0)).getD default).1+((bD a (0,0,0,0,0,List.replicate 2 0)).getD default).2.1)+((bD a (0,0,0,0,0,List.replicate 2 0)).getD default).2.2.1)≤1) then (true) else (bif ((bD a (0,0,0,0,0,List.replicate 2 0)).getD default).1==0 then (bif ((bD a (0,0,0,0,0,List.replicate 2 0)).getD default).2.1==0 then (true) else (((bD a (0,0,0,0,0,List.replicate 2 0)).getD default).2.2.1==0)) else (false))) else (false)) else (bif a.variant==3 then (bif a.variant==3 then (bif wr .i64 (wr .i64 (wr .i64 (((bD a (0,0,0,0,0,List.replicate 2 0)).getD default).2.2.2.1+((bD a (0,0,0,0,0,List.replicate 2 0)).getD default).1)+((bD a (0,0,0,0,0,List.replicate 2 0)).getD default).2.1)+((bD a (0,0,0,0,0,List.replicate 2 0)).getD default).2.2.1)==0 then (bR BinOp.eql (((bD a (0,0,0,0,0,List.replicate 2 0)).getD default).2.2.2.2.2.2==((List.replicate 2 0).set 0 1).set 1 1&&true)) else (false)) else (false)) else (bif a.variant==5 then (bif wr .i64 (wr .i64 (wr .i64 (((bD a (0,0,0,0,0,List.replicate 2 0)).getD default).2.2.2.1+((bD a (0,0,0,0,0,List.replicate 2 0)).getD default).1)+((bD a (0,0,0,0,0,List.replicate 2 0)).getD default).2.1)+((bD a (0,0,0,0,0,List.replicate 2 0)).getD default).2.2.1)==0 then (bR BinOp.eql (((bD a (0,0,0,0,0,List.replicate 2 0)).getD default).2.2.2.2.2.2==((List.replicate 2 0).set 0 1).set 1 1&&true)) else (false)) else (false)))))
def On (a:Pos):Bool:=((bD a (0,0,0,0,0,List.replicate 2 0)).isSome&&true)
theorem P34 (a:Pos) (h:On a=true):PS Pz 34 [Pos.av a] (dB.res (WR a)):=pq14 aha h
def G34:GT:=g1 aY (fun a=>cp (On a) (dB.res (WR a)))
theorem s34:Sound Pz 34 G34:=aH fun a=>aC (P34 a)
end Kz
end
noncomputable section
namespace Kz
open Go Go.RowKit
def bT (P:Nat→Bool):Nat→Nat
 | 0=>0
 | n+1=>bT P n+(P n).toNat
theorem rH {P Q R:Nat→Bool}:∀ {n:Nat},(∀ i,i<n→(P i).toNat=(Q i).toNat+(R i).toNat)→bT P n=bT Q n+bT R n
 | 0,_=>rfl
 | n+1,h=>by
  have h1:=rH (n:=n) fun i hi=>h i (by omega)
  have h2:=h n (by omega)
  unfold bT
  omega
theorem ql {P Q:Nat→Bool}:∀ {n:Nat},(∀ i,i<n→P i=Q i)→bT P n=bT Q n
 | 0,_=>rfl
 | n+1,h=>by
  unfold bT
  rw [ql (n:=n) fun i hi=>h i (by omega),h n (by omega)]
theorem iy (P:Nat→Bool):∀ n,bT P n≤n
 | 0=>Nat.le_refl _
 | n+1=>by
  have:=iy P n
  have:(P n).toNat≤1:=by cases P n<;>simp
  unfold bT
  omega
theorem jG {P:Nat→Bool}:∀ {n:Nat},bT P n=0 ↔ ∀ i,i<n→P i=false
 | 0=>⟨fun _ i h=>by omega,fun _=>rfl⟩
 | n+1=>by
  have ih:=jG (P:=P) (n:=n)
  unfold bT
  constructor
  ·intro h i hi
   by_cases e:i=n
   ·subst e;cases hp:P i with
    | false=>rfl
    | true=>rw [hp] at h;simp at h
   ·exact ih.1 (by omega) i (by omega)
  ·intro h
   rw [ih.2 fun i hi=>h i (by omega),h n (by omega)]
   rfl
theorem Au (x:BitVec 64):∀ (n i:Nat),(jH x i n).sum+bT x.getLsbD i=bT x.getLsbD (i+n)
 | 0,i=>by simp [jH]
 | n+1,i=>by
  have:=Au x n (i+1)
  simp only [jH,List.sum_cons]
  rw [show i+(n+1)=i+1+n by omega,← this]
  simp only [bT]
  omega
theorem zV (x:BitVec 64):LW x=bT x.getLsbD 64:=by
 have:=Au x 64 0
 unfold LW
 simpa [bT] using this
theorem u4 {x:BitVec 64} {P:Nat→Bool} (h:∀ i,i<64→x.getLsbD i=P i):(x==0#64)=decide (bT P 64=0):=by
 rw [Bool.eq_iff_iff,beq_iff_eq,decide_eq_true_eq,jG]
 constructor
 ·intro e i hi
  rw [← h i hi,e];simp
 ·intro e
  exact BitVec.eq_of_getLsbD_eq fun i hi=>by rw [h i hi,e i hi];simp
noncomputable section
variable (p:Pos)
def kd (i:Nat):Int:=bg (p.ae.getD i 0)
def cl1 (i:Nat):Int:=kN (p.ae.getD i 0)
def vh (i:Nat):Bool:=(wr .i64 (wr .i64 ((i:Int).tdiv 8)+(i:Int).tmod 8)).tmod 2==0
def Pn (i:Nat):Bool:=kd p i==2
def Pe (i:Nat):Bool:=kd p i==3&&vh i
def Pd (i:Nat):Bool:=kd p i==3&&!vh i
def Po (i:Nat):Bool := !(kd p i==0)&&(!(kd p i==6)&&(!(kd p i==2)&&!(kd p i==3)))
def Pk (c:Int) (i:Nat):Bool:=kd p i==6&&cl1 p i==c
end
theorem EU:∀ i:Fin 64,(6172840429334713770#64).getLsbD i.val=!vh i.val:=by decide +kernel
theorem Ma:∀ v:Fin 256,(bg v.val==6)=true→kN v.val=0∨kN v.val=1:=by decide +kernel
noncomputable section
variable {p:Pos} (hp:aA p)
include hp
theorem adU:∃ r,bD p (0,0,0,0,0,List.replicate 2 0)=some r∧r.1=bT (Pn p) 64∧r.2.1=bT (Pe p) 64∧r.2.2.1=bT (Pd p) 64∧r.2.2.2.1=bT (Po p) 64∧r.2.2.2.2.2.2=[((bT (Pk p 0) 64:Nat):Int),((bT (Pk p 1) 64:Nat):Int)]:=by
 refine aU (Q:=fun r:Int×Int×Int×Int×Int×Bool×List Int=>r.1=bT (Pn p) 64∧r.2.1=bT (Pe p) 64∧r.2.2.1=bT (Pd p) 64∧r.2.2.2.1=bT (Po p) 64∧r.2.2.2.2.2.2=[((bT (Pk p 0) 64:Nat):Int),((bT (Pk p 1) 64:Nat):Int)])
  (I:=fun x:Int×Int×Int×Int×Int×List Int=>∃ n:Nat,n≤64∧x.2.2.2.2.1=n∧x.1=bT (Pn p) n∧x.2.1=bT (Pe p) n∧x.2.2.1=bT (Pd p) n∧x.2.2.2.1=bT (Po p) n∧x.2.2.2.2.2=[((bT (Pk p 0) n:Nat):Int),((bT (Pk p 1) n:Nat):Int)]) (μ:=fun x=>(64-x.2.2.2.2.1).toNat) ?_ _ ⟨0,by omega,rfl,rfl,rfl,rfl,rfl,rfl⟩ (by simp)
 rintro ⟨a,b,c,d,x,L⟩ ⟨n,hn,hx,ha,hb,hc,hd,hL⟩
 simp only at hx ha hb hc hd hL
 subst hx ha hb hc hd hL
 unfold DV Kb
 dsimp only
 by_cases h64:n<64
 ·have hbd:=eC hp n
  obtain ⟨v,hv⟩:=Int.eq_ofNat_of_zero_le hbd.1
  have hk6:=Ma ⟨v,by omega⟩
  simp only at hk6
  rw [← hv] at hk6
  have b1:=iy (Pn p) n
  have b2:=iy (Pe p) n
  have b3:=iy (Pd p) n
  have b4:=iy (Po p) n
  have b5:=iy (Pk p 0) n
  have b6:=iy (Pk p 1) n
  rw [decide_eq_true (show (n:Int)<64 by omega),decide_eq_true (show (0:Int)≤n by omega),decide_eq_true (show (n:Int)<Int.ofNat 64 by show (n:Int)<64;omega),dh,Int.toNat_natCast,aF (n:=(n:Int)+1) (by omega) (by omega),aF (n:=((bT (Pn p) n:Nat):Int)+1) (by omega) (by omega),aF (n:=((bT (Pe p) n:Nat):Int)+1) (by omega) (by omega),aF (n:=((bT (Pd p) n:Nat):Int)+1) (by omega) (by omega),aF (n:=((bT (Po p) n:Nat):Int)+1) (by omega) (by omega)]
  have go:∀ (a' b' c' d':Int) (L':List Int),a'=bT (Pn p) (n+1)→b'=bT (Pe p) (n+1)→c'=bT (Pd p) (n+1)→d'=bT (Po p) (n+1)→L'=[((bT (Pk p 0) (n+1):Nat):Int),((bT (Pk p 1) (n+1):Nat):Int)] →
    zE (fun x:Int×Int×Int×Int×Int×List Int=>∃ n:Nat,n≤64∧x.2.2.2.2.1=n∧x.1=bT (Pn p) n∧x.2.1=bT (Pe p) n∧x.2.2.1=bT (Pd p) n∧x.2.2.2.1=bT (Po p) n∧x.2.2.2.2.2=[((bT (Pk p 0) n:Nat):Int),((bT (Pk p 1) n:Nat):Int)])
     (fun r:Int×Int×Int×Int×Int×Bool×List Int=>r.1=bT (Pn p) 64∧r.2.1=bT (Pe p) 64∧r.2.2.1=bT (Pd p) 64∧r.2.2.2.1=bT (Po p) 64∧r.2.2.2.2.2.2=[((bT (Pk p 0) 64:Nat):Int),((bT (Pk p 1) 64:Nat):Int)]) (fun x:Int×Int×Int×Int×Int×List Int=>(64-x.2.2.2.2.1).toNat) ((64-(n:Int)).toNat) (.go (a',b',c',d',(n:Int)+1,L')) :=
   fun a' b' c' d' L' h1 h2 h3 h4 h5=>⟨⟨n+1,by omega,by simp,h1,h2,h3,h4,h5⟩,by dsimp only;omega⟩
  have en:bT (Pn p) (n+1)=bT (Pn p) n+(kd p n==2).toNat:=rfl
  have ee:bT (Pe p) (n+1)=bT (Pe p) n+(kd p n==3&&vh n).toNat:=rfl
  have ed:bT (Pd p) (n+1)=bT (Pd p) n+(kd p n==3&&!vh n).toNat:=rfl
  have eo:bT (Po p) (n+1)=bT (Po p) n+(!(kd p n==0)&&(!(kd p n==6)&&(!(kd p n==2)&&!(kd p n==3)))).toNat:=rfl
  have e0:bT (Pk p 0) (n+1)=bT (Pk p 0) n+(kd p n==6&&cl1 p n==0).toNat:=rfl
  have e1:bT (Pk p 1) (n+1)=bT (Pk p 1) n+(kd p n==6&&cl1 p n==1).toNat:=rfl
  have hkd:bg (p.ae.getD n 0)=kd p n:=rfl
  have hcl:kN (p.ae.getD n 0)=cl1 p n:=rfl
  have hpar:((wr .i64 (wr .i64 ((n:Int).tdiv 8)+(n:Int).tmod 8)).tmod 2==0)=vh n:=rfl
  rw [hkd,hcl] at hk6
  rw [hkd,hcl,hpar]
  rw [en,ee,ed,eo,e0,e1] at go
  generalize kd p n=k at *
  by_cases k0:k=0
  ·subst k0
   exact ⟨rfl,go _ _ _ _ _ (by simp) (by simp) (by simp) (by simp) (by simp)⟩
  ·by_cases k6:k=6
   ·subst k6
    have hc01:=hk6 rfl
    generalize cl1 p n=w at *
    rcases hc01 with rfl | rfl
    ·rw [show wr .i64 (([((bT (Pk p 0) n:Nat):Int),((bT (Pk p 1) n:Nat):Int)]:List Int).getD (scale 1 (0:Int)).toNat 0+1)=((bT (Pk p 0) n:Nat):Int)+1 from aF (n:=((bT (Pk p 0) n:Nat):Int)+1) (by omega) (by omega)]
     exact ⟨rfl,go _ _ _ _ _ (by simp) (by simp) (by simp) (by simp) (by simp [scale])⟩
    ·rw [show wr .i64 (([((bT (Pk p 0) n:Nat):Int),((bT (Pk p 1) n:Nat):Int)]:List Int).getD (scale 1 (1:Int)).toNat 0+1)=((bT (Pk p 1) n:Nat):Int)+1 from aF (n:=((bT (Pk p 1) n:Nat):Int)+1) (by omega) (by omega)]
     exact ⟨rfl,go _ _ _ _ _ (by simp) (by simp) (by simp) (by simp) (by simp [scale])⟩
   ·rw [beq_eq_false_iff_ne.2 k0,beq_eq_false_iff_ne.2 k6]
    rw [beq_eq_false_iff_ne.2 k0,beq_eq_false_iff_ne.2 k6] at go
    refine ⟨rfl,?_⟩
    by_cases k2:k=2
    ·subst k2
     exact go _ _ _ _ _ (by simp) (by simp) (by simp) (by simp) (by simp)
    ·by_cases k3:k=3
     ·subst k3
      cases hpb:vh n with
      | true=>rw [hpb] at go;exact go _ _ _ _ _ (by simp) (by simp) (by simp) (by simp) (by simp)
      | false=>rw [hpb] at go;exact go _ _ _ _ _ (by simp) (by simp) (by simp) (by simp) (by simp)
     ·rw [beq_eq_false_iff_ne.2 k2,beq_eq_false_iff_ne.2 k3]
      rw [beq_eq_false_iff_ne.2 k2,beq_eq_false_iff_ne.2 k3] at go
      exact go _ _ _ _ _ (by simp) (by simp) (by simp) (by simp) (by simp)
 ·have:n=64:=by omega
  subst this
  exact ⟨rfl,rfl,rfl,rfl,rfl,rfl⟩
end
def Dx (r:Int×Int×Int×Int×Int×Bool×List Int):Bool:=bif r.2.2.2.1==0 then (bif decide (wr .i64 (wr .i64 (r.1+r.2.1)+r.2.2.1)≤1) then true else bif r.1==0 then (bif r.2.1==0 then true else r.2.2.1==0) else false) else false
def Eo (r:Int×Int×Int×Int×Int×Bool×List Int):Bool:=bif wr .i64 (wr .i64 (wr .i64 (r.2.2.2.1+r.1)+r.2.1)+r.2.2.1)==0 then bR BinOp.eql (r.2.2.2.2.2.2==((List.replicate 2 0).set 0 1).set 1 1&&true) else false
theorem Ku (p:Pos):WR p=bif (p.variant==0 || p.variant==1) then Dx ((bD p (0,0,0,0,0,List.replicate 2 0)).getD default) else bif (p.variant==3 || p.variant==5) then Eo ((bD p (0,0,0,0,0,List.replicate 2 0)).getD default) else false:=by
 unfold WR Dx Eo
 cases h0:p.variant==0<;>cases h1:p.variant==1<;>cases h3:p.variant==3<;>cases h5:p.variant==5<;>rfl
def ny:BitVec 64:=6172840429334713770#64
def Ef (A K B N:BitVec 64):Bool:=bif A &&& ~~~K &&& ~~~B &&& ~~~N != 0#64 then false else bif decide (j8 (A &&& ~~~K)≤1) then true else bif A &&& ~~~K==B then (bif A &&& ~~~K&&&ny==0#64 then true else A &&& ~~~K &&& ~~~ny==0#64) else false
def Dh (A W X:BitVec 64):Bool:=bif A==W|||X then (bif j8 W==1 then j8 X==1 else false) else false
theorem Gc (p:Pos):B5 p=bif (p.variant==0 || p.variant==1) then Ef (bh p) (ez p 6) (ez p 3) (ez p 2) else bif (p.variant==3 || p.variant==5) then Dh (bh p) (aO p 0 6) (aO p 1 6) else false:=by
 unfold B5 Ef Dh ny
 rw [show (Pos.mk p.variant p.ae p.ab p.af p.aa p.ai p.ah p.ag p.half p.full)=p from rfl]
 cases h0:p.variant==0<;>cases h1:p.variant==1<;>cases h3:p.variant==3<;>cases h5:p.variant==5<;>rfl
theorem FH:∀ v:Fin 256,gQ v.val=!(bg v.val==0)∧(dn 0 6 v.val || dn 1 6 v.val)=(bg v.val==6)∧(dn 0 3 v.val || dn 1 3 v.val)=(bg v.val==3)∧(dn 0 2 v.val || dn 1 2 v.val)=(bg v.val==2)∧dn 0 6 v.val=(bg v.val==6&&kN v.val==0)∧dn 1 6 v.val=(bg v.val==6&&kN v.val==1):=by decide +kernel
noncomputable section
variable {p:Pos} (hp:aA p)
include hp
theorem Ij (i:Nat):gQ (p.ae.getD i 0)=!(kd p i==0)∧(dn 0 6 (p.ae.getD i 0) || dn 1 6 (p.ae.getD i 0))=(kd p i==6)∧(dn 0 3 (p.ae.getD i 0) || dn 1 3 (p.ae.getD i 0))=(kd p i==3)∧(dn 0 2 (p.ae.getD i 0) || dn 1 2 (p.ae.getD i 0))=(kd p i==2)∧dn 0 6 (p.ae.getD i 0)=Pk p 0 i∧dn 1 6 (p.ae.getD i 0)=Pk p 1 i:=by
 have hb:=eC hp i
 obtain ⟨v,hv⟩:=Int.eq_ofNat_of_zero_le hb.1
 have:=FH ⟨v,by omega⟩
 simp only at this
 rw [← hv] at this
 exact this
theorem ur (k:Int) {i:Nat} (hi:i<64):(ez p k).getLsbD i=(dn 0 k (p.ae.getD i 0) || dn 1 k (p.ae.getD i 0)):=by
 unfold ez
 rw [show (Pos.mk p.variant p.ae p.ab p.af p.aa p.ai p.ah p.ag p.half p.full)=p from rfl,BitVec.getLsbD_or,cf _ _ _ hi,cf _ _ _ hi]
theorem U9:On p=true∧WR p=B5 p:=by
 obtain ⟨o,h1,h2,h3,h4,h5⟩:=aK (adU hp)
 refine ⟨ao o fun _=>rfl,?_⟩
 rw [Ku,Gc]
 have ka:=Ij hp
 have b1:=iy (Pn p) 64
 have b2:=iy (Pe p) 64
 have b3:=iy (Pd p) 64
 have b4:=iy (Po p) 64
 have men:∀ i,i<64→(bh p &&& ~~~ez p 6).getLsbD i=(!(kd p i==0)&&!(kd p i==6)):=fun i hi=>by
  rw [BitVec.getLsbD_and,BitVec.getLsbD_not,ly _ hi,ur hp _ hi,(ka i).1,(ka i).2.1];simp [hi]
 have gU:∀ i,i<64→(bh p &&& ~~~ez p 6 &&& ~~~ez p 3 &&& ~~~ez p 2).getLsbD i=Po p i:=fun i hi=>by
  rw [BitVec.getLsbD_and,BitVec.getLsbD_and,BitVec.getLsbD_not,BitVec.getLsbD_not,men i hi,ur hp _ hi,ur hp _ hi,(ka i).2.2.1,(ka i).2.2.2.1]
  unfold Po
  cases kd p i==0<;>cases kd p i==6<;>cases kd p i==3<;>cases kd p i==2<;>simp [hi]
 have sum:bT (fun i => !(kd p i==0)&&!(kd p i==6)) 64=bT (Pn p) 64+(bT (Pe p) 64+(bT (Pd p) 64+bT (Po p) 64)):=by
  have s1:bT (fun i=>Pd p i || Po p i) 64=bT (Pd p) 64+bT (Po p) 64:=rH fun i hi=>by
   unfold Pd Po
   by_cases k3:kd p i=3
   ·rw [k3];cases vh i<;>rfl
   ·rw [beq_eq_false_iff_ne.2 k3];cases kd p i==0<;>cases kd p i==6<;>cases kd p i==2<;>rfl
  have s2:bT (fun i=>Pe p i || (Pd p i || Po p i)) 64=bT (Pe p) 64+bT (fun i=>Pd p i || Po p i) 64:=rH fun i hi=>by
   unfold Pe Pd Po
   by_cases k3:kd p i=3
   ·rw [k3];cases vh i<;>rfl
   ·rw [beq_eq_false_iff_ne.2 k3];cases kd p i==0<;>cases kd p i==6<;>cases kd p i==2<;>rfl
  have s3:bT (fun i => !(kd p i==0)&&!(kd p i==6)) 64=bT (Pn p) 64+bT (fun i=>Pe p i || (Pd p i || Po p i)) 64:=rH fun i hi=>by
   unfold Pn Pe Pd Po
   by_cases k3:kd p i=3
   ·rw [k3];cases vh i<;>rfl
   ·rw [beq_eq_false_iff_ne.2 k3]
    by_cases k2:kd p i=2
    ·rw [k2];rfl
    ·rw [beq_eq_false_iff_ne.2 k2];cases kd p i==0<;>cases kd p i==6<;>rfl
  rw [s3,s2,s1]
 have pc:j8 (bh p &&& ~~~ez p 6)=((bT (Pn p) 64+(bT (Pe p) 64+(bT (Pd p) 64+bT (Po p) 64)):Nat):Int):=by
  rw [Dl,zV,ql men,sum]
 have pk:∀ c,c=0∨c=1→j8 (aO p c 6)=((bT (Pk p c) 64:Nat):Int):=fun c hc=>by
  rw [Dl,zV,ql (Q:=Pk p c) fun i hi=>by
   rw [cf _ _ _ hi]
   rcases hc with rfl | rfl
   ·exact (ka i).2.2.2.2.1
   ·exact (ka i).2.2.2.2.2]
 have eA:Dx ((bD p (0,0,0,0,0,List.replicate 2 0)).getD default)=Ef (bh p) (ez p 6) (ez p 3) (ez p 2):=by
  unfold Dx Ef
  rw [h1,h2,h3,h4,bne,u4 gU,pc,aF (n:=((bT (Pn p) 64:Nat):Int)+((bT (Pe p) 64:Nat):Int)) (by omega) (by omega),aF (by omega) (by omega)]
  by_cases hO:bT (Po p) 64=0
  ·rw [hO]
   simp only [decide_true,Bool.not_true,cond_false]
   rw [show (((0:Nat):Int)==0)=true from rfl,cond_true]
   by_cases hle:bT (Pn p) 64+bT (Pe p) 64+bT (Pd p) 64≤1
   ·rw [decide_eq_true (by omega),decide_eq_true (by omega)];rfl
   ·rw [decide_eq_false (by omega),decide_eq_false (by omega),cond_false,cond_false]
    have hOz:=jG.1 hO
    by_cases hN:bT (Pn p) 64=0
    ·have hNz:=jG.1 hN
     have all3:∀ i,i<64→(!(kd p i==0)&&!(kd p i==6))=(kd p i==3):=fun i hi=>by
      have a:=hOz i hi
      have b:=hNz i hi
      unfold Po at a
      unfold Pn at b
      by_cases k3:kd p i=3
      ·rw [k3];rfl
      ·rw [b,beq_eq_false_iff_ne.2 k3] at a
       rw [beq_eq_false_iff_ne.2 k3]
       revert a
       cases kd p i==0<;>cases kd p i==6<;>simp
     have e1:(bh p &&& ~~~ez p 6==ez p 3)=true:=by
      rw [beq_iff_eq]
      exact BitVec.eq_of_getLsbD_eq fun i hi=>by rw [men i hi,ur hp _ hi,(ka i).2.2.1];exact all3 i hi
     have z1:(bh p &&& ~~~ez p 6&&&ny==0#64)=decide (bT (Pd p) 64=0):=u4 fun i hi=>by
      rw [BitVec.getLsbD_and,men i hi,all3 i hi]
      unfold ny
      rw [EU ⟨i,hi⟩];rfl
     have z2:(bh p &&& ~~~ez p 6 &&& ~~~ny==0#64)=decide (bT (Pe p) 64=0):=u4 fun i hi=>by
      rw [BitVec.getLsbD_and,BitVec.getLsbD_not,men i hi,all3 i hi]
      unfold ny
      rw [EU ⟨i,hi⟩];simp [hi,Pe]
     rw [hN,e1,z1,z2,show (((0:Nat):Int)==0)=true from rfl,cond_true,cond_true]
     by_cases x1:bT (Pe p) 64=0<;>by_cases x2:bT (Pd p) 64=0
     ·rw [x1,x2];rfl
     ·rw [x1,decide_eq_false x2];rfl
     ·rw [x2,decide_eq_false x1,beq_eq_false_iff_ne.2 (show ((bT (Pe p) 64:Nat):Int)≠0 by omega)];rfl
     ·rw [decide_eq_false x1,decide_eq_false x2,beq_eq_false_iff_ne.2 (show ((bT (Pe p) 64:Nat):Int)≠0 by omega),beq_eq_false_iff_ne.2 (show ((bT (Pd p) 64:Nat):Int)≠0 by omega)]
    ·have e1:(bh p &&& ~~~ez p 6==ez p 3)=false:=by
      rw [beq_eq_false_iff_ne]
      intro e
      refine hN (jG.2 fun i hi=>?_)
      have:=congrArg (fun x=>x.getLsbD i) e
      rw [men i hi,ur hp _ hi,(ka i).2.2.1] at this
      unfold Pn
      cases h2:kd p i==2 with
      | false=>rfl
      | true =>
       rw [beq_iff_eq.1 h2] at this
       cases this
     rw [e1,beq_eq_false_iff_ne.2 (show ((bT (Pn p) 64:Nat):Int)≠0 by omega)]
     rfl
  ·rw [decide_eq_false hO,beq_eq_false_iff_ne.2 (show ((bT (Po p) 64:Nat):Int)≠0 by omega)]
   rfl
 have eB:Eo ((bD p (0,0,0,0,0,List.replicate 2 0)).getD default)=Dh (bh p) (aO p 0 6) (aO p 1 6):=by
  unfold Eo Dh
  rw [h1,h2,h3,h4,h5,pk 0 (.inl rfl),pk 1 (.inr rfl),aF (n:=((bT (Po p) 64:Nat):Int)+((bT (Pn p) 64:Nat):Int)) (by omega) (by omega),aF (n:=((bT (Po p) 64:Nat):Int)+((bT (Pn p) 64:Nat):Int)+((bT (Pe p) 64:Nat):Int)) (by omega) (by omega),aF (by omega) (by omega)]
  have e:(bh p==aO p 0 6|||aO p 1 6)=decide (bT (fun i => !(kd p i==0)&&!(kd p i==6)) 64=0):=by
   rw [Bool.eq_iff_iff,beq_iff_eq,decide_eq_true_eq,jG]
   have bits:∀ i,i<64→(bh p).getLsbD i=!(kd p i==0)∧(aO p 0 6|||aO p 1 6).getLsbD i=(kd p i==6):=fun i hi=>by
    rw [ly _ hi,BitVec.getLsbD_or,cf _ _ _ hi,cf _ _ _ hi]
    exact ⟨(ka i).1,(ka i).2.1⟩
   constructor
   ·intro e i hi
    obtain ⟨x1,x2⟩:=bits i hi
    rw [e,x2] at x1
    rw [← x1]
    cases kd p i==6<;>rfl
   ·intro h
    refine BitVec.eq_of_getLsbD_eq fun i hi=>?_
    obtain ⟨x1,x2⟩:=bits i hi
    rw [x1,x2]
    have:=h i hi
    by_cases k6:kd p i=6
    ·rw [k6];rfl
    ·rw [beq_eq_false_iff_ne.2 k6] at this ⊢
     simpa using this
  rw [e,sum]
  by_cases hz:bT (Pn p) 64+(bT (Pe p) 64+(bT (Pd p) 64+bT (Po p) 64))=0
  ·rw [decide_eq_true hz,beq_iff_eq.2 (show ((bT (Po p) 64:Nat):Int)+((bT (Pn p) 64:Nat):Int)+((bT (Pe p) 64:Nat):Int)+((bT (Pd p) 64:Nat):Int)=0 by omega)]
   show ([((bT (Pk p 0) 64:Nat):Int),((bT (Pk p 1) 64:Nat):Int)]==[(1:Int),1]&&true)=_
   rw [Bool.and_true,cond_true]
   rw [Bool.eq_iff_iff]
   by_cases q0:((bT (Pk p 0) 64:Nat):Int)=1
   ·rw [q0]
    by_cases q1:((bT (Pk p 1) 64:Nat):Int)=1
    ·rw [q1];exact ⟨fun _=>rfl,fun _=>rfl⟩
    ·rw [beq_eq_false_iff_ne.2 q1];simp [q1]
   ·rw [beq_eq_false_iff_ne.2 q0];simp [q0]
  ·rw [decide_eq_false hz,beq_eq_false_iff_ne.2 (show ((bT (Po p) 64:Nat):Int)+((bT (Pn p) 64:Nat):Int)+((bT (Pe p) 64:Nat):Int)+((bT (Pd p) 64:Nat):Int)≠0 by omega)]
   rfl
 rw [eA,eB]
end
end Kz
end
noncomputable section
namespace Kz
open Go Go.RowKit Go.Proofs
def K10:KT:=[(10,43,[(0,[1,2]),(1,[1,2,8]),(2,[2]),(3,[1,2,3]),(4,[1,2,3,14]),(5,[2]),(6,[1,2,19]),(7,[1,2,4,5]),(8,[1,2,4,5,22]),(9,[1,2,4]),(10,[1,2,4,5]),(11,[1,2,4,5,25]),(12,[2]),(13,[2,5,31]),(14,[2]),(15,[2]),(16,[1,2,36]),(17,[2]),(18,[2,40]),(19,[2]),(20,[2])])]
def B10:aw:=bO Pz K10 [(11,Wb),(19,KE),(32,G32),(33,G33),(34,G34)] [] []
theorem ai6:aW B10:=aj ak ⟨WQ,MN,s32,s33,s34,trivial⟩ trivial trivial
def nA (a:Pos):(Int×Int):=(bif !rX a then ⟨(0),(0)⟩ else (bif (Jx a).1 != 0 then ⟨((Jx a).1),((Jx a).2)⟩ else (bif Int.ofNat (MJ a).length==0 then (bif a.aa==1 then (bif a.variant==4 then ⟨(2),(8)⟩ else (bif nF a a.aa then ⟨(1),(1)⟩ else ⟨(3),(2)⟩)) else (bif a.variant==4 then ⟨(1),(8)⟩ else (bif nF a a.aa then ⟨(2),(1)⟩ else ⟨(3),(2)⟩))) else (bif WR a then ⟨(3),(3)⟩ else (bif decide (a.half≥150) then ⟨(3),(4)⟩ else ⟨(0),(0)⟩)))))
def xG (a:Pos):Bool:=(bif !rX a then true else (Ce (a)&&(bif (Jx a).1 != 0 then true else (Ct (a)&&(bif Int.ofNat (MJ a).length==0 then (bif a.aa==1 then (bif a.variant==4 then true else (jk (a) (a.aa)&&true)) else (bif a.variant==4 then true else (jk (a) (a.aa)&&true))) else (On (a)&&true))))))
theorem P10 (a:Pos) (h:xG a=true):PS Pz 10 [Pos.av a] ((dR .u8 .u8).res (nA a)):=pq14 ai6 h
def MH:GT:=g1 aY (fun a=>cp (xG a) ((dR .u8 .u8).res (nA a)))
theorem M7:Sound Pz 10 MH:=aH fun a=>aC (P10 a)
end Kz
end
noncomputable section
namespace Kz
open Go Go.RowKit
noncomputable section
variable {p:Pos} (hp:aA p)
include hp
theorem yt:xG p=true∧nA p=vk p:=by
 by_cases hth:there p
 ·obtain ⟨a1,a2⟩:=Mw hp
  obtain ⟨b1,b2⟩:=B8 hp
  have t0:=hp.t0
  have t1:=hth.1
  have ht:p.aa=0∨p.aa=1:=by omega
  obtain ⟨c1,c2⟩:=uF hp ht ht
  obtain ⟨d1,d2⟩:=U9 hp
  refine ⟨?_,?_⟩
  ·unfold xG
   exact ar (fun _=>rfl) fun _=>ao a1 fun _=>ar (fun _=>rfl) fun _=>ao b1 fun _=>ar (fun _=>ar (fun _=>ar (fun _=>rfl) fun _=>ao c1 fun _=>rfl) (fun _=>ar (fun _=>rfl) fun _=>ao c1 fun _=>rfl)) fun _=>ao d1 fun _=>rfl
  ·unfold nA
   rw [qq hth,jE hth,a2,b2,c2,d2,Bool.not_true,cond_false]
   cases (rL p).1 != 0
   ·rw [cond_false,cond_false]
    unfold mU uO tp
    rw [show (Pos.mk p.variant p.ae p.ab p.af p.aa p.ai p.ah p.ag p.half p.full)=p from rfl]
    by_cases hl:(ba p).length=0
    ·rw [hl]
     rcases ht with h | h<;>rw [h]
     ·cases p.variant==4
      ·cases hQ p 0<;>rfl
      ·rfl
     ·cases p.variant==4
      ·cases hQ p 1<;>rfl
      ·rfl
    ·rw [show decide (Int.ofNat (ba p).length>0)=true by simp;omega,show (Int.ofNat (ba p).length==0)=false by simp;exact fun e=>hl (by rw [e];rfl)]
     cases B5 p
     ·cases decide (p.half≥150)<;>rfl
     ·rfl
   ·rfl
 ·refine ⟨?_,?_⟩
  ·unfold xG
   rw [rM hth];rfl
  ·unfold nA
   rw [rM hth,xS hth];rfl
end
end Kz
end
noncomputable section
namespace Kz
open Go Go.RowKit Go.Proofs
def K37:KT:=[(37,48,[(0,[0]),(1,[0,3]),(2,[0,3,4]),(3,[0,3,4,12]),(4,[0,3,4]),(5,[0,3,4,5]),(6,[0,3,4,22]),(7,[0,3,4,6]),(8,[0,3,4,6,7]),(9,[0,3,4,6,7,31]),(10,[0,3,4,6,7]),(11,[0,3,4,6,7,8]),(12,[0,3,4,6,7]),(13,[2])])]
def Z9:aw:=bO Pz K37 [(10,MH),(11,Wb),(36,T8)] [] []
theorem S0:aW Z9:=aj ak ⟨M7,WQ,WI,trivial⟩ trivial trivial
def QH (p1:(List Pos)) (p2:Int) (p3:M') (p4:Int) (p5:Int) (p6:Nat) (x:((List Pos)×Int)):St:=St.mk (.list .pos p1 .arg::.any::.any::.list .pos x.1 (.own 1)::.int .i64 p2::.any::.list .mv p3 .fresh::.int .i64 x.2::(an 40 [])) (Hp.mk [[.int .u8 p4,.int .u8 p5]] [p6,x.1.length] [] 0 0 0)
def RK (p1:(List Pos)) (p2:Int) (p3:M') (p4:Int) (p5:Int) (p6:Nat):((List Pos)×Int×Bool)→Out:=fun y=>.exit 2 (St.mk (.list .pos p1 .arg::.any::.any::.list .pos y.1 (.own 1)::.int .i64 p2::.any::.list .mv p3 .fresh::.int .i64 y.2.1::(an 23 (.bool y.2.2::(an 16 [])))) (Hp.mk [[.int .u8 p4,.int .u8 p5]] [p6,y.1.length] [] 0 0 0))
def Jr (p1:(List Pos)) (p2:Int) (p3:M') (p4:Int) (p5:Int) (p6:Nat) (x:((List Pos)×Int)):aG ((List Pos)×Int) (((List Pos)×Int×Bool)):=(bif decide (x.2<Int.ofNat p3.length) then (aG.go (x.1++[vy (p1.getD p2.toNat default) (p3.getD x.2.toNat default)],wr .i64 (x.2+1))) else (aG.out ((x.1,x.2,decide (x.2<Int.ofNat p3.length)))))
def D0 (p1:(List Pos)) (p2:Int) (p3:M') (p4:Int) (p5:Int) (p6:Nat) (x:((List Pos)×Int)):Bool:=(bif decide (x.2<Int.ofNat p3.length) then (decide (0≤p2)&&decide (p2<Int.ofNat p1.length)&&(decide (0≤x.2)&&decide (x.2<Int.ofNat p3.length)&&(BY (p1.getD p2.toNat default) (p3.getD x.2.toNat default)&&(x.1.length==x.1.length&&decide (x.1.length+1≤1073741824)&&true)))) else true)
def uG (p1:(List Pos)) (p2:Int) (p3:M') (p4:Int) (p5:Int) (p6:Nat) (x:((List Pos)×Int)):Option (((List Pos)×Int×Bool)):=cO (fun x=>bif D0 p1 p2 p3 p4 p5 p6 x then Jr p1 p2 p3 p4 p5 p6 x else .bad) many x
abbrev QG {α:Type} (k:(List Pos)→Int→M'→Int→Int→Nat→((List Pos)×Int)→α) (s:St):α:=k (tL (ET.pos) (tT s 0)) (tI (tT s 4)) (tL (ET.mv) (tT s 6)) (tI (tH s 0 0)) (tI (tH s 0 1)) (tK s 0) ((tL (ET.pos) (tT s 3)),(tI (tT s 7)))
theorem Yp (p1:(List Pos)) (p2:Int) (p3:M') (p4:Int) (p5:Int) (p6:Nat) (x:((List Pos)×Int)) (r:((List Pos)×Int×Bool)) (h:uG p1 p2 p3 p4 p5 p6 x=some r):ay Pz (aT Pz 37 9) (QH p1 p2 p3 p4 p5 p6 x) (RK p1 p2 p3 p4 p5 p6 r):=smq (m:=12) (fn:=37) S0 (QG fun _ _ _ _ _ _ x=>some x) (fun o=>match o with | .exit 2 s=>some ((tL ET.pos (tT s 3)),(tI (tT s 7)),(tB (tT s 31))) | _=>none) many x r h
def Jm (b:Code) (s:St):Tr Out:=QG (fun p1 p2 p3 p4 p5 p6 x=>lq b (aT Pz 37 9) s (QH p1 p2 p3 p4 p5 p6 x) (uG p1 p2 p3 p4 p5 p6 x) (RK p1 p2 p3 p4 p5 p6)) s
theorem J9:∀ b,aM Pz b (Jm b):=fun _ _ _ h=>bK (Yp _ _ _ _ _ _ _) h
def YK:aw:=bO Pz K37 [(10,MH),(11,Wb),(36,T8)] [(37,9,Jm)] []
theorem Ul:aW YK:=aj ak ⟨M7,WQ,WI,trivial⟩ ⟨J9,trivial⟩ trivial
def Qf (p1:(List Pos)) (p2:Nat) (x:((List Pos)×Int)):St:=St.mk (.list .pos p1 .arg::.any::.any::.list .pos x.1 (.own 1)::.int .i64 x.2::(an 43 [])) (Hp.mk [] [p2,x.1.length] [] 0 0 0)
def R5 (p1:(List Pos)) (p2:Nat):((List Pos)×Int×Bool)→Out:=fun y=>.exit 0 (St.mk (.list .pos p1 .arg::.any::.any::.list .pos y.1 (.own 1)::.int .i64 y.2.1::(an 7 (.bool y.2.2::(an 35 [])))) (Hp.mk [] [p2,y.1.length] [] 0 0 0))
def It (p1:(List Pos)) (p2:Nat) (x:((List Pos)×Int)):aG ((List Pos)×Int) (((List Pos)×Int×Bool)):=(bif decide (x.2<Int.ofNat p1.length) then (bif (nA (p1.getD x.2.toNat default)).1 != 0 then (aG.go (x.1,wr .i64 (x.2+1))) else (aG.go (((uG p1 x.2 (MJ (p1.getD x.2.toNat default)) (nA (p1.getD x.2.toNat default)).1 (nA (p1.getD x.2.toNat default)).2 p2 (x.1,0)).getD default).1,wr .i64 (x.2+1)))) else (aG.out ((x.1,x.2,decide (x.2<Int.ofNat p1.length)))))
def D9 (p1:(List Pos)) (p2:Nat) (x:((List Pos)×Int)):Bool:=(bif decide (x.2<Int.ofNat p1.length) then (decide (0≤x.2)&&decide (x.2<Int.ofNat p1.length)&&(xG (p1.getD x.2.toNat default)&&(bif (nA (p1.getD x.2.toNat default)).1 != 0 then true else (decide (0≤x.2)&&decide (x.2<Int.ofNat p1.length)&&(Ct (p1.getD x.2.toNat default)&&((uG p1 x.2 (MJ (p1.getD x.2.toNat default)) (nA (p1.getD x.2.toNat default)).1 (nA (p1.getD x.2.toNat default)).2 p2 (x.1,0)).isSome&&true)))))) else true)
def uQ (p1:(List Pos)) (p2:Nat) (x:((List Pos)×Int)):Option (((List Pos)×Int×Bool)):=cO (fun x=>bif D9 p1 p2 x then It p1 p2 x else .bad) many x
abbrev RG {α:Type} (k:(List Pos)→Nat→((List Pos)×Int)→α) (s:St):α:=k (tL (ET.pos) (tT s 0)) (tK s 0) ((tL (ET.pos) (tT s 3)),(tI (tT s 4)))
theorem Xa (p1:(List Pos)) (p2:Nat) (x:((List Pos)×Int)) (r:((List Pos)×Int×Bool)) (h:uQ p1 p2 x=some r):ay Pz (aT Pz 37 3) (Qf p1 p2 x) (R5 p1 p2 r):=smq (m:=12) (fn:=37) Ul (RG fun _ _ x=>some x) (fun o=>match o with | .exit 0 s=>some ((tL ET.pos (tT s 3)),(tI (tT s 4)),(tB (tT s 12))) | _=>none) many x r h
def Rf (b:Code) (s:St):Tr Out:=RG (fun p1 p2 x=>lq b (aT Pz 37 3) s (Qf p1 p2 x) (uQ p1 p2 x) (R5 p1 p2)) s
theorem VQ:∀ b,aM Pz b (Rf b):=fun _ _ _ h=>bK (Xa _ _ _) h
def B37:aw:=bO Pz K37 [(10,MH),(11,Wb),(36,T8)] [(37,9,Jm),(37,3,Rf)] []
theorem agC:aW B37:=aj ak ⟨M7,WQ,WI,trivial⟩ ⟨J9,VQ,trivial⟩ trivial
def TR (a:List Pos):List Pos:=(((uQ a 0 ([],0)).getD default).1)
def KU (a:List Pos):Bool:=((uQ a 0 ([],0)).isSome&&true)
theorem P37 (a:List Pos) (h:KU a=true):PS Pz 37 [.list .pos a .arg] ((dL .pos).res (TR a)):=pq14 agC h
def Xo:GT:=g1 (dL .pos) (fun a=>cp (KU a) ((dL .pos).res (TR a)))
theorem s37:Sound Pz 37 Xo:=aH fun a=>aC (P37 a)
def SK:KT:=[(15,37,[(0,[1,2,4]),(1,[1,4,5]),(2,[1,4,5,6]),(3,[1,4,5,6,14]),(4,[1,4,5,6]),(5,[1,4,5,6]),(6,[4,5,7]),(7,[4,5,7,8]),(8,[4,5,7,8,22]),(9,[4,5,7,8]),(10,[4,5,7,8,9]),(11,[4,5,7,8]),(12,[4])])]
def NA:aw:=bO Pz SK [(10,MH),(37,Xo)] [] []
theorem JX:aW NA:=aj ak ⟨M7,s37,trivial⟩ trivial trivial
def D8 (p1:Pos) (p2:Pos) (x:(Int×Z')):St:=St.mk (an 4 (.ptr 1 0::.vlist true [.agg (pc p1 [])]::.any::.ptr 2 0::.int .i64 x.1::(an 28 []))) (Hp.mk [(pc p2 []),[.ints .i64 4 (li [0,0,0,0])],[.ints .i64 4 x.2]] [] [] 0 0 0)
def EZ (p1:Pos) (p2:Pos):(Int×Bool×Z')→Out:=fun y=>.exit 2 (St.mk (an 4 (.ptr 1 0::.vlist true [.agg (pc p1 [])]::.any::.ptr 2 0::.int .i64 y.1::(an 13 (.bool y.2.1::(an 14 []))))) (Hp.mk [(pc p2 []),[.ints .i64 4 (li [0,0,0,0])],[.ints .i64 4 y.2.2]] [] [] 0 0 0))
def zh (p1:Pos) (p2:Pos) (x:(Int×Z')):aG (Int×Z') ((Int×Bool×Z')):=(bif decide (x.1<Int.ofNat 1) then (aG.go (wr .i64 (x.1+1),x.2.set (scale 1 (nA p1).1).toNat (wr .i64 (x.2.getD (scale 1 (nA p1).1).toNat 0+1)))) else (aG.out ((x.1,decide (x.1<Int.ofNat 1),x.2))))
def wh (p1:Pos) (p2:Pos) (x:(Int×Z')):Bool:=(bif decide (x.1<Int.ofNat 1) then (decide (0≤x.1)&&decide (x.1<Int.ofNat 1)&&(x.1==Int.ofNat 0&&(xG p1&&(decide (0≤(nA p1).1)&&decide ((nA p1).1<Int.ofNat 4)&&(decide (0≤(nA p1).1)&&decide ((nA p1).1<Int.ofNat 4)&&true))))) else true)
def mf (p1:Pos) (p2:Pos) (x:(Int×Z')):Option ((Int×Bool×Z')):=cO (fun x=>bif wh p1 p2 x then zh p1 p2 x else .bad) many x
abbrev D2 {α:Type} (k:Pos→Pos→(Int×Z')→α) (s:St):α:=wP s 0 fun q0=>k (Kz.Pos.mk (tI (tX (tA (tX (tV (tT s 5)) 0)) 0)) (tN (tX (tA (tX (tV (tT s 5)) 0)) 1)) (tU (tX (tA (tX (tV (tT s 5)) 0)) 2)) (tN (tX (tA (tX (tV (tT s 5)) 0)) 3)) (tI (tX (tA (tX (tV (tT s 5)) 0)) 4)) (tN (tX (tA (tX (tV (tT s 5)) 0)) 5)) (tI (tX (tA (tX (tV (tT s 5)) 0)) 6)) (tN (tX (tA (tX (tV (tT s 5)) 0)) 7)) (tI (tX (tA (tX (tV (tT s 5)) 0)) 8)) (tI (tX (tA (tX (tV (tT s 5)) 0)) 9))) q0 ((tI (tT s 8)),(tN (tH s 2 0)))
theorem Pg (p1:Pos) (p2:Pos) (x:(Int×Z')) (r:(Int×Bool×Z')) (h:mf p1 p2 x=some r):ay Pz (aT Pz 15 8) (D8 p1 p2 x) (EZ p1 p2 r):=smq (m:=12) (fn:=15) JX (D2 fun _ _ x=>some x) (fun o=>match o with | .exit 2 s=>some ((tI (tT s 8)),(tB (tT s 22)),(tN (tH s 2 0))) | _=>none) many x r h
def Ff (b:Code) (s:St):Tr Out:=D2 (fun p1 p2 x=>lq b (aT Pz 15 8) s (D8 p1 p2 x) (mf p1 p2 x) (EZ p1 p2)) s
theorem Ln:∀ b,aM Pz b (Ff b):=fun _ _ _ h=>bK (Pg _ _ _) h
def aaE:aw:=bO Pz SK [(10,MH),(37,Xo)] [(15,8,Ff)] []
theorem Ue:aW aaE:=aj ak ⟨M7,s37,trivial⟩ ⟨Ln,trivial⟩ trivial
def E5 (a:Pos):List Int:=(((mf a a (0,li [0,0,0,0])).getD default).2.2)
def xD (a:Pos):Bool:=((mf a a (0,li [0,0,0,0])).isSome&&true)
theorem YS (a:Pos) (h:xD a=true):PS Pz 15 [Pos.av a,.aE .i64 0] ((Bp .i64 4).res (E5 a)):=pq14 Ue h
def QC:KT:=[(15,37,[(0,[1,2,4]),(1,[1,4,5]),(2,[1,4,5,6]),(3,[1,4,5,6,14]),(4,[1,4,5,6]),(5,[1,4,5,6]),(6,[4,5,7]),(7,[4,5,7,8]),(8,[4,5,7,8,22]),(9,[4,5,7,8]),(10,[4,5,7,8,9]),(11,[4,5,7,8]),(12,[4])])]
def O4:aw:=bO Pz QC [(10,MH),(37,Xo)] [] []
theorem LN:aW O4:=aj ak ⟨M7,s37,trivial⟩ trivial trivial
def E3 (p1:(List Pos)) (p2:Pos) (x:(Int×Z')):St:=St.mk (an 4 (.ptr 1 0::.list .pos p1 .fresh::.any::.ptr 2 0::.int .i64 x.1::(an 28 []))) (Hp.mk [(pc p2 []),[.ints .i64 4 (li [0,0,0,0])],[.ints .i64 4 x.2]] [] [] 0 0 0)
def Fa (p1:(List Pos)) (p2:Pos):(Int×Bool×Z')→Out:=fun y=>.exit 2 (St.mk (an 4 (.ptr 1 0::.list .pos p1 .fresh::.any::.ptr 2 0::.int .i64 y.1::(an 13 (.bool y.2.1::(an 14 []))))) (Hp.mk [(pc p2 []),[.ints .i64 4 (li [0,0,0,0])],[.ints .i64 4 y.2.2]] [] [] 0 0 0))
def zz (p1:(List Pos)) (p2:Pos) (x:(Int×Z')):aG (Int×Z') ((Int×Bool×Z')):=(bif decide (x.1<Int.ofNat p1.length) then (aG.go (wr .i64 (x.1+1),x.2.set (scale 1 (nA (p1.getD x.1.toNat default)).1).toNat (wr .i64 (x.2.getD (scale 1 (nA (p1.getD x.1.toNat default)).1).toNat 0+1)))) else (aG.out ((x.1,decide (x.1<Int.ofNat p1.length),x.2))))
def wi (p1:(List Pos)) (p2:Pos) (x:(Int×Z')):Bool:=(bif decide (x.1<Int.ofNat p1.length) then (decide (0≤x.1)&&decide (x.1<Int.ofNat p1.length)&&(xG (p1.getD x.1.toNat default)&&(decide (0≤(nA (p1.getD x.1.toNat default)).1)&&decide ((nA (p1.getD x.1.toNat default)).1<Int.ofNat 4)&&(decide (0≤(nA (p1.getD x.1.toNat default)).1)&&decide ((nA (p1.getD x.1.toNat default)).1<Int.ofNat 4)&&true)))) else true)
def lL (p1:(List Pos)) (p2:Pos) (x:(Int×Z')):Option ((Int×Bool×Z')):=cO (fun x=>bif wi p1 p2 x then zz p1 p2 x else .bad) many x
abbrev E4 {α:Type} (k:(List Pos)→Pos→(Int×Z')→α) (s:St):α:=wP s 0 fun q0=>k (tL (ET.pos) (tT s 5)) q0 ((tI (tT s 8)),(tN (tH s 2 0)))
theorem NQ (p1:(List Pos)) (p2:Pos) (x:(Int×Z')) (r:(Int×Bool×Z')) (h:lL p1 p2 x=some r):ay Pz (aT Pz 15 8) (E3 p1 p2 x) (Fa p1 p2 r):=smq (m:=12) (fn:=15) LN (E4 fun _ _ x=>some x) (fun o=>match o with | .exit 2 s=>some ((tI (tT s 8)),(tB (tT s 22)),(tN (tH s 2 0))) | _=>none) many x r h
def DK (b:Code) (s:St):Tr Out:=E4 (fun p1 p2 x=>lq b (aT Pz 15 8) s (E3 p1 p2 x) (lL p1 p2 x) (Fa p1 p2)) s
theorem Hz:∀ b,aM Pz b (DK b):=fun _ _ _ h=>bK (NQ _ _ _) h
def YI:aw:=bO Pz QC [(10,MH),(37,Xo)] [(15,8,DK)] []
theorem Tn:aW YI:=aj ak ⟨M7,s37,trivial⟩ ⟨Hz,trivial⟩ trivial
def zY (a:Pos):List Int:=(((lL (TR [a]) a (0,li [0,0,0,0])).getD default).2.2)
def xl (a:Pos):Bool:=(KU [a]&&((lL (TR [a]) a (0,li [0,0,0,0])).isSome&&true))
theorem W4 (a:Pos) (h:xl a=true):PS Pz 15 [Pos.av a,.aE .i64 1] ((Bp .i64 4).res (zY a)):=pq14 Tn h
theorem QS {a:Pos} {k:Int} {v:AV} (h:PS Pz 15 [Pos.av a,.aE .i64 k] v):PS Pz 15 [Pos.av a,.int .i64 k] v:=⟨h.1.args fun w cs hr=>(by cases hr with | cons q r=>cases r with | cons q2 r2=>cases q2;exact .cons q (.cons (.aE _ _) r2)),h.2⟩
def Zu (a:Pos) (b:Int):List Int:=(bif b==0 then E5 a else zY a)
def Ih (a:Pos) (b:Int):Bool:=(bif b==0 then xD a else (bif b==1 then xl a else false))
theorem P15 (a:Pos) (b:Int) (h:Ih a b=true):PS Pz 15 [Pos.av a,.int .i64 b] ((Bp .i64 4).res (Zu a b)):=by
 unfold Ih at h
 unfold Zu
 cases h0:b==0 with
 | true=>rw [h0] at h;rw [beq_iff_eq.1 h0];exact QS (YS a h)
 | false=>cases h1:b==1 with
  | true=>rw [h0,h1] at h;rw [beq_iff_eq.1 h1];exact QS (W4 a h)
  | false=>rw [h0,h1] at h;cases h
def G15:GT:=g2 aY (dI .i64) (fun a b=>cp (Ih a b) ((Bp .i64 4).res (Zu a b)))
theorem s15:Sound Pz 15 G15:=bb fun a b=>aC (P15 a b)
def K14:KT:=[(14,14,[(0,[1]),(1,[2])])]
def B14:aw:=bO Pz K14 [] [] []
theorem ad3:aW B14:=aj ak trivial trivial trivial
def Cd (a:List Int):Int:=(wr .i64 (wr .i64 (wr .i64 (a.getD 0 0+a.getD 1 0)+a.getD 2 0)+a.getD 3 0))
def agB (a:List Int):Bool:=true
theorem P14 (a:List Int) (h:agB a=true):PS Pz 14 [.agg [.ints .i64 4 a]] ((dI .i64).res (Cd a)):=pq14 ad3 h
def G14:GT:=g1 (Bp .i64 4) (fun a=>.ret ((dI .i64).res (Cd a)))
theorem s14:Sound Pz 14 G14:=aH fun a=>bV (P14 a rfl)
theorem XO {p:Pos} (hp:aA p) (ht:there p):(vk p).1≤3:=by
 have hw:=(EL hp).1
 have t0:=hp.t0
 have t1:=ht.1
 rw [qq ht]
 refine aq (P:=fun r:Int×Int=>r.1≤3) (fun _=>?_) fun _=>aq (P:=fun r:Int×Int=>r.1≤3) (fun h=>?_) fun _=>aq (P:=fun r:Int×Int=>r.1≤3) (fun _=>?_) fun _=>aq (P:=fun r:Int×Int=>r.1≤3) (fun _=>?_) fun _=>?_
 ·unfold lA at hw
  rcases hw with h | ⟨h1,_⟩ | h
  ·rw [h];decide
  ·omega
  ·rw [h];decide
 ·have h:(mU p).1≠0:=by simpa using h
  rcases (DQ ht hp h).2 with e | ⟨e,_⟩ | ⟨e,_⟩<;>rw [e]<;>dsimp only<;>omega
 ·rcases Ea p with e | e<;>rw [e]<;>decide
 ·rcases Ei p with ⟨e,_⟩ | ⟨e,_⟩<;>rw [e]<;>decide
 ·decide
variable {p:Pos} {m:Mv}
theorem A5 (hp:aA p):0≤(vk p).1∧(vk p).1<4:=by
 by_cases ht:there p
 ·have h2:=XO hp ht
  exact ⟨(TW hp).1.1,by omega⟩
 ·rw [xS ht];exact ⟨by decide,by decide⟩
def C2 (l:List Int) (n:Int):Prop := ∃ a b c d:Int,l=[a,b,c,d]∧0≤a∧0≤b∧0≤c∧0≤d∧a+b+c+d=n
theorem C2.up {l:List Int} {n k:Int} (h:C2 l n) (hn:n≤1000000) (k0:0≤k) (k4:k<4):C2 (l.set (scale 1 k).toNat (wr .i64 (l.getD (scale 1 k).toNat 0+1))) (n+1):=by
 obtain ⟨a,b,c,d,rfl,h1,h2,h3,h4,h5⟩:=h
 rw [dh]
 rcases (show k=0∨k=1∨k=2∨k=3 by omega) with rfl | rfl | rfl | rfl
 ·refine ⟨a+1,b,c,d,?_,by omega,by omega,by omega,by omega,by omega⟩
  show [wr .i64 (a+1),b,c,d]=_
  rw [aF (by omega) (by omega)]
 ·refine ⟨a,b+1,c,d,?_,by omega,by omega,by omega,by omega,by omega⟩
  show [a,wr .i64 (b+1),c,d]=_
  rw [aF (by omega) (by omega)]
 ·refine ⟨a,b,c+1,d,?_,by omega,by omega,by omega,by omega,by omega⟩
  show [a,b,wr .i64 (c+1),d]=_
  rw [aF (by omega) (by omega)]
 ·refine ⟨a,b,c,d+1,?_,by omega,by omega,by omega,by omega,by omega⟩
  show [a,b,c,wr .i64 (d+1)]=_
  rw [aF (by omega) (by omega)]
theorem C2.sum {l:List Int} {n:Int} (h:C2 l n) (hn:n≤1000000):Cd l=n:=by
 obtain ⟨a,b,c,d,rfl,h1,h2,h3,h4,h5⟩:=h
 show wr .i64 (wr .i64 (wr .i64 (a+b)+c)+d)=n
 rw [aF (n:=a+b) (by omega) (by omega),aF (n:=a+b+c) (by omega) (by omega),aF (by omega) (by omega)]
 exact h5
theorem OF {l:List Pos} (hl:l.length≤1000000) (hin:∀ q∈l,aA q) (a:Pos):∃ r,lL l a (0,li [0,0,0,0])=some r∧Cd r.2.2=(l.length:Int):=by
 refine aU (I:=fun x:Int×List Int=>0≤x.1∧x.1≤(l.length:Int)∧C2 x.2 x.1) (Q:=fun r:Int×Bool×List Int=>Cd r.2.2=(l.length:Int)) (μ:=fun x=>((l.length:Int)-x.1).toNat) ?_ _ ⟨Int.le_refl _,by dsimp only;omega,0,0,0,0,rfl,by decide,by decide,by decide,by decide,rfl⟩ (by dsimp only;omega)
 rintro ⟨i,o⟩ ⟨i0,i1,ho⟩
 dsimp only at i0 i1 ho
 unfold wi zz
 dsimp only
 by_cases hi:i<Int.ofNat l.length
 ·have hi':i<(l.length:Int):=hi
  have hq:=hin _ (ct (l:=l) (i:=i.toNat) (d:=default) (by omega))
  obtain ⟨a1,a2⟩:=yt hq
  obtain ⟨s0,s4⟩:=A5 hq
  rw [decide_eq_true hi,decide_eq_true i0,a1,a2,decide_eq_true s0,decide_eq_true (show (vk (l.getD i.toNat default)).1<Int.ofNat 4 from s4),aF (n:=i+1) (by omega) (by omega)]
  exact ⟨rfl,⟨by dsimp only;omega,by dsimp only;omega,ho.up (by omega) s0 s4⟩,by dsimp only;omega⟩
 ·have hi':¬ i<(l.length:Int):=hi
  rw [decide_eq_false hi]
  refine ⟨rfl,?_⟩
  show Cd o=_
  rw [ho.sum (by omega)]
  omega
theorem FO (hp:aA p):xD p=true∧Cd (E5 p)=1:=by
 obtain ⟨r,e,h⟩:∃ r,mf p p (0,li [0,0,0,0])=some r∧Cd r.2.2=1:=by
  refine aU (I:=fun x:Int×List Int=>0≤x.1∧x.1≤1∧C2 x.2 x.1) (Q:=fun r:Int×Bool×List Int=>Cd r.2.2=1) (μ:=fun x=>(1-x.1).toNat) ?_ _ ⟨Int.le_refl _,by decide,0,0,0,0,rfl,by decide,by decide,by decide,by decide,rfl⟩ (by decide)
  rintro ⟨i,o⟩ ⟨i0,i1,ho⟩
  dsimp only at i0 i1 ho
  obtain ⟨a1,a2⟩:=yt hp
  obtain ⟨s0,s4⟩:=A5 hp
  unfold wh zh
  dsimp only
  by_cases hi:i<Int.ofNat 1
  ·have hi':i<1:=hi
   obtain rfl:i=0:=by omega
   rw [a1,a2,decide_eq_true s0,decide_eq_true (show (vk p).1<Int.ofNat 4 from s4)]
   exact ⟨rfl,⟨(show (0:Int)≤1 by decide),(show (1:Int)≤1 by decide),ho.up (by decide) s0 s4⟩,(show (1-(1:Int)).toNat<(1-(0:Int)).toNat by decide)⟩
  ·have hi':¬ i<1:=hi
   rw [decide_eq_false hi]
   refine ⟨rfl,?_⟩
   show Cd o=_
   rw [ho.sum (by omega)]
   omega
 unfold xD E5
 rw [e]
 exact ⟨rfl,h⟩
theorem Nv (hp:aA p) (a b:Int):∃ r,uG [p] 0 (ba p) a b 0 ([],0)=some r∧r.1=(ba p).map fun m=>(cS p m).1:=by
 have hl:=kg hp
 refine aU (I:=fun x:List Pos×Int=>0≤x.2∧x.2≤((ba p).length:Int)∧x.1=((ba p).take x.2.toNat).map fun m=>(cS p m).1) (Q:=fun r:List Pos×Int×Bool=>r.1=(ba p).map fun m=>(cS p m).1) (μ:=fun x=>(((ba p).length:Int)-x.2).toNat) ?_ _ ⟨Int.le_refl _,by dsimp only;omega,rfl⟩ (by dsimp only;omega)
 rintro ⟨o,i⟩ ⟨i0,i1,ho⟩
 dsimp only at i0 i1 ho
 unfold D0 Jr
 dsimp only
 by_cases hi:i<Int.ofNat (ba p).length
 ·have hi':i<((ba p).length:Int):=hi
  have h66:=jW hp (ct (l:=ba p) (i:=i.toNat) (d:=default) (by omega))
  obtain ⟨hth,_⟩:=eZ hp h66
  obtain ⟨m1,m2⟩:=rU hp hth h66
  have e65:F2 (b8 p) ((ba p).getD i.toNat default)=true:=by rw [ko (by have:=jf hp;omega)];exact decide_eq_true h66
  have e31:(cS p ((ba p).getD i.toNat default)).1=E6 p ((ba p).getD i.toNat default):=by rw [rR,e65];rfl
  have lo:o.length=i.toNat:=by rw [ho,List.length_map,List.length_take];omega
  have step:((ba p).take (i+1).toNat).map (fun m=>(cS p m).1)=o++[(cS p ((ba p).getD i.toNat default)).1]:=by
   rw [show (i+1).toNat=i.toNat+1 by omega,List.take_add_one,List.map_append,← ho,List.getD_eq_getElem?_getD,I' (show i.toNat<(ba p).length by omega)]
   rfl
  rw [decide_eq_true hi,decide_eq_true i0,show [p].getD (0:Int).toNat default=p from rfl,m1,m2,aF (n:=i+1) (by omega) (by omega),decide_eq_true (show o.length+1≤1073741824 by omega),beq_self_eq_true]
  refine ⟨rfl,⟨by dsimp only;omega,by dsimp only;omega,?_⟩,by dsimp only;omega⟩
  dsimp only
  rw [step,e31]
 ·have hi':¬ i<((ba p).length:Int):=hi
  rw [decide_eq_false hi]
  refine ⟨rfl,?_⟩
  show o=_
  rw [ho,List.take_of_length_le (by omega)]
theorem IY (hp:aA p):KU [p]=true∧TR [p]=bif j4 p then [] else (ba p).map fun m=>(cS p m).1:=by
 have ee:j4 p=((vk p).1 != 0):=rfl
 obtain ⟨r,e,h⟩:∃ r,uQ [p] 0 ([],0)=some r∧r.1=bif j4 p then [] else (ba p).map fun m=>(cS p m).1:=by
  refine aU (I:=fun x:List Pos×Int=>(x.2=0∧x.1=[])∨(x.2=1∧x.1=bif j4 p then [] else (ba p).map fun m=>(cS p m).1)) (Q:=fun r:List Pos×Int×Bool=>r.1=bif j4 p then [] else (ba p).map fun m=>(cS p m).1) (μ:=fun x=>(1-x.2).toNat) ?_ _ (.inl ⟨rfl,rfl⟩) (by decide)
  rintro ⟨o,i⟩ hI
  dsimp only at hI
  obtain ⟨a1,a2⟩:=yt hp
  obtain ⟨b1,b2⟩:=B8 hp
  rcases hI with ⟨rfl,rfl⟩ | ⟨rfl,rfl⟩
  ·obtain ⟨r,e,h⟩:=Nv hp (vk p).1 (vk p).2
   unfold D9 It
   dsimp only
   rw [show [p].getD (0:Int).toNat default=p from rfl,a1,a2,b1,b2,e,← ee]
   cases hN:j4 p with
   | true=>exact ⟨rfl,.inr ⟨rfl,rfl⟩,(show (1-(1:Int)).toNat<(1-(0:Int)).toNat by decide)⟩
   | false=>exact ⟨rfl,.inr ⟨rfl,h⟩,(show (1-(1:Int)).toNat<(1-(0:Int)).toNat by decide)⟩
  ·exact ⟨rfl,rfl⟩
 unfold KU TR
 rw [e]
 exact ⟨rfl,h⟩
theorem J6 (hp:aA p):xl p=true∧Cd (zY p)=(jR p:Int):=by
 obtain ⟨n1,n2⟩:=IY hp
 have hl:=kg hp
 obtain ⟨r,e,h⟩:=OF (l:=TR [p]) (by rw [n2];cases j4 p<;>simp<;>omega) (fun q hq=>by
  rw [n2] at hq
  revert hq
  cases j4 p with
  | true=>intro h;cases h
  | false =>
   intro h
   obtain ⟨m,hm,rfl⟩:=List.mem_map.1 h
   exact ((dN hp m).2.1 (jW hp hm)).2.1) p
 unfold xl zY
 rw [n1,e]
 refine ⟨rfl,?_⟩
 show Cd r.2.2=_
 rw [h,n2]
 unfold jR
 cases j4 p<;>simp
def K7:KT:=[(7,21,[(0,[1]),(1,[1,6]),(2,[2]),(3,[1,3]),(4,[1,3]),(5,[1,3]),(6,[2])])]
def B7:aw:=bO Pz K7 [(19,KE),(26,G26)] [] []
theorem hB7:aW B7:=aj ak ⟨MN,s26,trivial⟩ trivial trivial
def N7 (a:Pos):Bool:=(bif !rX a then (false) else (decide (wr .i64 (Int.ofNat (y5 a).length * Int.ofNat (y5 (Pos.mk a.variant a.ae a.ab a.af (wr .u8 (1-a.aa)) a.ai (-1) a.ag a.half a.full)).length)>1500)))
def ok7 (a:Pos):Bool:=(bif !rX a then true else (vr a&&(vr (Pos.mk a.variant a.ae a.ab a.af (wr .u8 (1-a.aa)) a.ai (-1) a.ag a.half a.full)&&true)))
theorem P7 (a:Pos) (h:ok7 a=true):PS Pz 7 [Pos.av a] (dB.res (N7 a)):=pq14 hB7 h
def G7:GT:=g1 aY (fun a=>cp (ok7 a) (dB.res (N7 a)))
theorem s7:Sound Pz 7 G7:=aH fun a=>aC (P7 a)
def K9:KT:=[(9,58,[(0,[1,2]),(1,[1,2,18]),(2,[4,5,6]),(3,[1,2,8]),(4,[1,2,8,26]),(5,[4,5,6]),(6,[1,2,29]),(7,[4,5,6]),(8,[1,2,9]),(9,[1,2,9,10]),(10,[1,2,9,10,32,33,34]),(11,(1::2::9::10::(rn 32 4 []))),(12,[1,2,9,10,12,32,33,34]),(13,[1,2,9,10,13,32,33,34]),(14,[1,2,9,10,15,32,33,34]),(15,[1,2,9,10,32,33,34]),(16,[1,2,9,10,32,33,34]),(17,[4,5,6])])]
def agk:aw:=bO Pz K9 [(28,G28),(29,NB),(30,MI),(31,ML)] [] []
theorem Ye:aW agk:=aj ak ⟨s28,Ql,PZ,OU,trivial⟩ trivial trivial
def X5 (p1:Int) (p2:M') (p3:M') (p4:Int) (p5:Pos) (p6:Nat) (x:(Z'×Int)):St:=St.mk (.any::.int .i64 p1::.ptr 0 0::(an 6 (.list .mv p2 .fresh::.list (ET.i .i64) x.1 (.own 2)::(an 21 (.list .mv p3 .fresh::.int .i64 p4::.int .i64 x.2::(an 23 [])))))) (Hp.mk [(pc p5 [])] [p6,p6,x.1.length] [] 0 0 0)
def YL (p1:Int) (p2:M') (p3:M') (p4:Int) (p5:Pos) (p6:Nat):(Z'×Int×Bool)→Out:=fun y=>.exit 0 (St.mk (.any::.int .i64 p1::.ptr 0 0::(an 6 (.list .mv p2 .fresh::.list (ET.i .i64) y.1 (.own 2)::(an 21 (.list .mv p3 .fresh::.int .i64 p4::.int .i64 y.2.1::.bool y.2.2::(an 22 [])))))) (Hp.mk [(pc p5 [])] [p6,p6,y.1.length] [] 0 0 0))
def Rj (p1:Int) (p2:M') (p3:M') (p4:Int) (p5:Pos) (p6:Nat) (x:(Z'×Int)):aG (Z'×Int) ((Z'×Int×Bool)):=(bif decide (x.2<p4) then (aG.go (x.1++[(GN (cS p5 (p3.getD x.2.toNat default)).1 (wr .i64 (p1-1))).1],wr .i64 (x.2+1))) else (aG.out ((x.1,x.2,decide (x.2<p4)))))
def J3 (p1:Int) (p2:M') (p3:M') (p4:Int) (p5:Pos) (p6:Nat) (x:(Z'×Int)):Bool:=(bif decide (x.2<p4) then (decide (0≤x.2)&&decide (x.2<Int.ofNat p3.length)&&(qa p5 (p3.getD x.2.toNat default)&&(yQ (cS p5 (p3.getD x.2.toNat default)).1 (wr .i64 (p1-1))&&(x.1.length==x.1.length&&decide (x.1.length+1≤1073741824)&&true)))) else true)
def AO (p1:Int) (p2:M') (p3:M') (p4:Int) (p5:Pos) (p6:Nat) (x:(Z'×Int)):Option ((Z'×Int×Bool)):=cO (fun x=>bif J3 p1 p2 p3 p4 p5 p6 x then Rj p1 p2 p3 p4 p5 p6 x else .bad) many x
abbrev Yx {α:Type} (k:Int→M'→M'→Int→Pos→Nat→(Z'×Int)→α) (s:St):α:=wP s 0 fun q0=>k (tI (tT s 1)) (tL (ET.mv) (tT s 9)) (tL (ET.mv) (tT s 32)) (tI (tT s 33)) q0 (tK s 0) ((tL (ET.i .i64) (tT s 10)),(tI (tT s 34)))
theorem aj5 (p1:Int) (p2:M') (p3:M') (p4:Int) (p5:Pos) (p6:Nat) (x:(Z'×Int)) (r:(Z'×Int×Bool)) (h:AO p1 p2 p3 p4 p5 p6 x=some r):ay Pz (aT Pz 9 11) (X5 p1 p2 p3 p4 p5 p6 x) (YL p1 p2 p3 p4 p5 p6 r):=smq (m:=12) (fn:=9) Ye (Yx fun _ _ _ _ _ _ x=>some x) (fun o=>match o with | .exit 0 s=>some ((tL (ET.i .i64) (tT s 10)),(tI (tT s 34)),(tB (tT s 35))) | _=>none) many x r h
def acD (b:Code) (s:St):Tr Out:=Yx (fun p1 p2 p3 p4 p5 p6 x=>lq b (aT Pz 9 11) s (X5 p1 p2 p3 p4 p5 p6 x) (AO p1 p2 p3 p4 p5 p6 x) (YL p1 p2 p3 p4 p5 p6)) s
theorem WW:∀ b,aM Pz b (acD b):=fun _ _ _ h=>bK (aj5 _ _ _ _ _ _ _) h
def B9:aw:=bO Pz K9 [(28,G28),(29,NB),(30,MI),(31,ML)] [(9,11,acD)] []
theorem hB9:aW B9:=aj ak ⟨s28,Ql,PZ,OU,trivial⟩ ⟨WW,trivial⟩ trivial
def N9 (a:Pos) (b:Int):(M'×List Int×Int):=(bif decide (b<1) then (([]),([]),(2)) else (bif (GN a b).2 != 0 then (([]),([]),((GN a b).2)) else (bif j4 a then (([]),([]),(0)) else ((ba a),(((AO b (ba a) (ba a) (Int.ofNat (ba a).length) a 0 ([],0)).getD default).1),(0)))))
def RV (a:Pos) (b:Int):Bool:=(bif decide (b<1) then true else (yQ a b&&(bif (GN a b).2 != 0 then true else (kG a&&(bif j4 a then true else (lO a&&((AO b (ba a) (ba a) (Int.ofNat (ba a).length) a 0 ([],0)).isSome&&true)))))))
theorem P9 (a:Pos) (b:Int) (h:RV a b=true):PS Pz 9 [Pos.av a,.int .i64 b] ((d3 (dL .mv) (dL (.i .i64)) (dI .i64)).res (N9 a b)):=pq14 hB9 h
def G9:GT:=g2 aY (dI .i64) (fun a b=>cp (RV a b) ((d3 (dL .mv) (dL (.i .i64)) (dI .i64)).res (N9 a b)))
theorem s9:Sound Pz 9 G9:=bb fun a b=>aC (P9 a b)
def K12:KT:=[(12,26,[(0,[0,1]),(1,[0,1,10]),(2,[4]),(3,[0,1,5]),(4,[0,1,5,14]),(5,[0,1,5]),(6,[0,1,5,25]),(7,[4]),(8,[4])])]
def ZW:aw:=bO Pz K12 [] [] []
theorem VY:aW ZW:=aj ak trivial trivial trivial
def Ra (p1:M') (p2:M') (x:(Int)):St:=St.mk (.list .mv p1 .arg::.list .mv p2 .arg::(an 3 (.int .i64 x::(an 20 [])))) (Hp.mk [] [] [] 0 0 0)
def RZ (p1:M') (p2:M'):Unit ⊕ (Int×Bool)→Out
 | (.inl (y))=>.ret (St.mk (an 4 (AV.aL false::(an 21 []))) (Hp.mk [] [] [] 0 0 0))
 | (.inr (y))=>.exit 0 (St.mk (AV.list ET.mv p1 Tk.arg::AV.list ET.mv p2 Tk.arg::(an 3 (AV.int .i64 y.1::(an 8 (AV.bool y.2::(an 11 [])))))) (Hp.mk [] [] [] 0 0 0))
def Jv (p1:M') (p2:M') (x:(Int)):aG (Int) (Unit ⊕ (Int×Bool)):=(bif decide (x<Int.ofNat p1.length) then (bif bR BinOp.neq ((p1.getD x.toNat default).az==(p2.getD x.toNat default).az&&((p1.getD x.toNat default).to==(p2.getD x.toNat default).to&&((p1.getD x.toNat default).bQ==(p2.getD x.toNat default).bQ&&((p1.getD x.toNat default).aX==(p2.getD x.toNat default).aX&&((p1.getD x.toNat default).bP==(p2.getD x.toNat default).bP&&true))))) then (aG.out (.inl (()))) else (aG.go (wr .i64 (x+1)))) else (aG.out (.inr ((x,decide (x<Int.ofNat p1.length))))))
def Ej (p1:M') (p2:M') (x:(Int)):Bool:=(bif decide (x<Int.ofNat p1.length) then (decide (0≤x)&&decide (x<Int.ofNat p1.length)&&(decide (0≤x)&&decide (x<Int.ofNat p2.length)&&true)) else true)
def qB (p1:M') (p2:M') (x:(Int)):Option (Unit ⊕ (Int×Bool)):=cO (fun x=>bif Ej p1 p2 x then Jv p1 p2 x else .bad) many x
abbrev SN {α:Type} (k:M'→M'→(Int)→α) (s:St):α:=k (tL (ET.mv) (tT s 0)) (tL (ET.mv) (tT s 1)) ((tI (tT s 5)))
theorem abh (p1:M') (p2:M') (x:(Int)) (r:Unit ⊕ (Int×Bool)) (h:qB p1 p2 x=some r):ay Pz (aT Pz 12 4) (Ra p1 p2 x) (RZ p1 p2 r):=ay.vC (m:=12) (fn:=12) VY (SN fun _ _ x=>some x) (fun o=>match o with | .ret s=>some (.inl ()) | .exit 0 s=>some (.inr ((tI (tT s 5)),(tB (tT s 14)))) | _=>none) (fun r=>by cases r<;>rfl) (fun _=>by kernel_rfl) (fun _=>by kernel_rfl) (fun _=>by kernel_rfl) (fun _=>by kernel_rfl) many x r h
def Sl (b:Code) (s:St):Tr Out:=SN (fun p1 p2 x=>yX b (aT Pz 12 4) s (Ra p1 p2 x) (qB p1 p2 x) (RZ p1 p2)) s
theorem Wh:∀ b,aM Pz b (Sl b):=fun _ _ _ h=>dG (abh _ _ _) h
def B12:aw:=bO Pz K12 [] [(12,4,Sl)] []
theorem adm:aW B12:=aj ak trivial ⟨Wh,trivial⟩ trivial
def WC (a:M') (b:M'):Bool:=(bif Int.ofNat a.length != Int.ofNat b.length then (false) else (bif bI ((qB a b 0).getD default) then (false) else (true)))
def Mr (a:M') (b:M'):Bool:=(bif Int.ofNat a.length != Int.ofNat b.length then true else ((qB a b 0).isSome&&bif bI ((qB a b 0).getD default) then true else true))
theorem P12 (a:M') (b:M') (h:Mr a b=true):PS Pz 12 [.list .mv a .arg,.list .mv b .arg] (dB.res (WC a b)):=pq14 adm h
def G12:GT:=g2 (dL .mv) (dL .mv) (fun a b=>cp (Mr a b) (dB.res (WC a b)))
theorem s12:Sound Pz 12 G12:=bb fun a b=>aC (P12 a b)
def K23:KT:=[(23,18,[(0,[0,3]),(1,[0,3,5]),(2,[0,3,5,9]),(3,[0,3,5]),(4,[0,3,5,17]),(5,[4]),(6,[4])])]
def XN:aw:=bO Pz K23 [] [] []
theorem Vl:aW XN:=aj ak trivial trivial trivial
def P5 (p1:M') (p2:Mv) (x:(Int)):St:=St.mk (.list .mv p1 .arg::.any::.any::.ptr 0 0::.any::.int .i64 x::(an 12 [])) (Hp.mk [[.int .i8 p2.az,.int .i8 p2.to,.int .u8 p2.bQ,.int .u8 p2.aX,.bool p2.bP]] [] [] 0 0 0)
def QO (p1:M') (p2:Mv):Unit ⊕ (Int×Bool)→Out
 | (.inl (y))=>.ret (St.mk (an 4 (AV.aL true::(an 13 []))) (Hp.mk [[AV.int .i8 p2.az,AV.int .i8 p2.to,AV.int .u8 p2.bQ,AV.int .u8 p2.aX,AV.bool p2.bP]] [] [] 0 0 0))
 | (.inr (y))=>.exit 0 (St.mk (AV.list ET.mv p1 Tk.arg::AV.any::AV.any::AV.ptr 0 0::AV.any::AV.int .i64 y.1::(an 3 (AV.bool y.2::(an 8 [])))) (Hp.mk [[AV.int .i8 p2.az,AV.int .i8 p2.to,AV.int .u8 p2.bQ,AV.int .u8 p2.aX,AV.bool p2.bP]] [] [] 0 0 0))
def Jh (p1:M') (p2:Mv) (x:(Int)):aG (Int) (Unit ⊕ (Int×Bool)):=(bif decide (x<Int.ofNat p1.length) then (bif bR BinOp.eql ((p1.getD x.toNat default).az==p2.az&&((p1.getD x.toNat default).to==p2.to&&((p1.getD x.toNat default).bQ==p2.bQ&&((p1.getD x.toNat default).aX==p2.aX&&((p1.getD x.toNat default).bP==p2.bP&&true))))) then (aG.out (.inl (()))) else (aG.go (wr .i64 (x+1)))) else (aG.out (.inr ((x,decide (x<Int.ofNat p1.length))))))
def E1 (p1:M') (p2:Mv) (x:(Int)):Bool:=(bif decide (x<Int.ofNat p1.length) then (decide (0≤x)&&decide (x<Int.ofNat p1.length)&&true) else true)
def pU (p1:M') (p2:Mv) (x:(Int)):Option (Unit ⊕ (Int×Bool)):=cO (fun x=>bif E1 p1 p2 x then Jh p1 p2 x else .bad) many x
abbrev QA {α:Type} (k:M'→Mv→(Int)→α) (s:St):α:=wM s 0 fun q0=>k (tL (ET.mv) (tT s 0)) q0 ((tI (tT s 5)))
theorem ab6 (p1:M') (p2:Mv) (x:(Int)) (r:Unit ⊕ (Int×Bool)) (h:pU p1 p2 x=some r):ay Pz (aT Pz 23 2) (P5 p1 p2 x) (QO p1 p2 r):=ay.vC (m:=12) (fn:=23) Vl (QA fun _ _ x=>some x) (fun o=>match o with | .ret s=>some (.inl ()) | .exit 0 s=>some (.inr ((tI (tT s 5)),(tB (tT s 9)))) | _=>none) (fun r=>by cases r<;>rfl) (fun _=>by kernel_rfl) (fun _=>by kernel_rfl) (fun _=>by kernel_rfl) (fun _=>by kernel_rfl) many x r h
def P2 (b:Code) (s:St):Tr Out:=QA (fun p1 p2 x=>yX b (aT Pz 23 2) s (P5 p1 p2 x) (pU p1 p2 x) (QO p1 p2)) s
theorem Ve:∀ b,aM Pz b (P2 b):=fun _ _ _ h=>dG (ab6 _ _ _) h
def B23:aw:=bO Pz K23 [] [(23,2,P2)] []
theorem ajK:aW B23:=aj ak trivial ⟨Ve,trivial⟩ trivial
def WO (a:M') (b:Mv):Bool:=(bif bI ((pU a b 0).getD default) then (true) else (false))
def J8 (a:M') (b:Mv):Bool:=((pU a b 0).isSome&&bif bI ((pU a b 0).getD default) then true else true)
theorem P23 (a:M') (b:Mv) (h:J8 a b=true):PS Pz 23 [.list .mv a .arg,Mv.av b] (dB.res (WO a b)):=pq14 ajK h
def G23:GT:=g2 (dL .mv) va (fun a b=>cp (J8 a b) (dB.res (WO a b)))
theorem s23:Sound Pz 23 G23:=bb fun a b=>aC (P23 a b)
def K13:KT:=[(13,15,[(0,[2,3,4]),(1,[2,3,4,10]),(2,[4,5]),(3,[4,5])])]
def B13:aw:=bO Pz K13 [(26,G26),(23,G23),(36,T8)] [] []
theorem af5:aW B13:=aj ak ⟨s26,s23,WI,trivial⟩ trivial trivial
def WN (a:Pos) (b:Mv):(Pos×Bool):=(bif !WO (y5 a) b then (⟨(a.variant),(a.ae),(a.ab),(a.af),(a.aa),(a.ai),(a.ah),(a.ag),(a.half),(a.full)⟩,(false)) else (⟨((vy a b).variant),((vy a b).ae),((vy a b).ab),((vy a b).af),((vy a b).aa),((vy a b).ai),((vy a b).ah),((vy a b).ag),((vy a b).half),((vy a b).full)⟩,(true)))
def JU (a:Pos) (b:Mv):Bool:=(vr (a)&&(J8 (y5 a) (b)&&(bif !WO (y5 a) b then true else (BY (a) (b)&&true))))
theorem P13 (a:Pos) (b:Mv) (h:JU a b=true):PS Pz 13 [Pos.av a,Mv.av b] ((d2 aY dB).res (WN a b)):=pq14 af5 h
def G13:GT:=g2 aY va (fun a b=>cp (JU a b) ((d2 aY dB).res (WN a b)))
theorem s13:Sound Pz 13 G13:=bb fun a b=>aC (P13 a b)
end Kz
end
noncomputable section
namespace Kz
open Go Go.RowKit
def G5 (a b x:Int):Bool:=decide (a≤x)&&decide (x≤b)
theorem Nr {a b x:Int}:G5 a b x=true ↔ a≤x∧x≤b:=by unfold G5;simp
def AW (p:Pos):Bool :=
 G5 0 255 p.variant&&(p.ae.length==64&&p.ae.all (G5 0 255))&&(p.af.length==12&&p.af.all (G5 0 255))&&G5 0 255 p.aa&&(p.ai.length==4&&p.ai.all (G5 (-128) 127))&&G5 (-128) 127 p.ah&&(p.ag.length==2&&p.ag.all (G5 0 255))&&G5 (-9223372036854775808) 9223372036854775807 p.half&&G5 (-9223372036854775808) 9223372036854775807 p.full
theorem xu {p:Pos} (h:AW p=true):aA p:=by
 unfold AW at h
 simp only [E',beq_iff_eq,List.all_eq_true,Nr] at h
 obtain ⟨⟨⟨⟨⟨⟨⟨⟨a,b⟩,c⟩,d⟩,e⟩,f⟩,g⟩,i⟩,j⟩:=h
 exact ⟨a.1,a.2,b.1,b.2,c.1,c.2,d.1,d.2,e.1,e.2,f.1,f.2,g.1,g.2,i,j⟩
end Kz
end
noncomputable section
namespace Kz
open Go Go.RowKit Go.Proofs
def adB:KT:=[(113,8,[(0,[0,2]),(1,[2])])]
def ahi:aw:=bO Pz adB [] [] []
theorem ZM:aW ahi:=aj ak trivial trivial trivial
def iG (a:Int):Pos:=⟨(a),(List.replicate 64 0),(0),(List.replicate 12 0),(0),(List.take 2 (List.take 0 (List.replicate 4 0)++((List.replicate 2 0).set 0 (-1)).set 1 (-1)++List.drop 2 (List.replicate 4 0))++((List.replicate 2 0).set 0 (-1)).set 1 (-1)++List.drop 4 (List.take 0 (List.replicate 4 0)++((List.replicate 2 0).set 0 (-1)).set 1 (-1)++List.drop 2 (List.replicate 4 0))),(-1),(List.replicate 2 0),(0),(1)⟩
def abR (a:Int):Bool:=true
theorem ajx (a:Int) (h:abR a=true):PS Pz 113 [.int .u8 a] (aY.res (iG a)):=pq14 ZM h
def O9:GT:=g1 (dI .u8) (fun a=>.ret (aY.res (iG a)))
theorem VT:Sound Pz 113 O9:=aH fun a=>bV (ajx a rfl)
def ai9:KT:=[(114,5,[(0,[0]),(1,[2])])]
def aeD:aw:=bO Pz ai9 [] [] []
theorem Xs:aW aeD:=aj ak trivial trivial trivial
def lg (a:Int):Int:=(wr .u8 (8+a))
def XC (a:Int):Bool:=true
theorem aeP (a:Int) (h:XC a=true):PS Pz 114 [.int .u8 a] ((dI .u8).res (lg a)):=pq14 Xs h
def NU:GT:=g1 (dI .u8) (fun a=>.ret ((dI .u8).res (lg a)))
theorem TP:Sound Pz 114 NU:=aH fun a=>bV (aeP a rfl)
def K58:KT:=[(58,60,[(0,[0,3,4,38,39]),(1,[0,3,4,5,38,39]),(2,[0,4,5,11,12,38,39]),(3,[0,4,5,11,12,13,38,39]),(4,(0::(rn 4 4 [11,12,38,39]))),(5,(0::(rn 4 4 [11,12,38,39]))),(6,(0::(rn 4 4 [11,12,38,39]))),(7,[0,4,5,6,11,12,38,39,40]),(8,[0,4,5,6,8,11,12,38,39]),(9,[0,4,5,6,8,11,12,38,39,45]),(10,[0,4,5,6,8,11,12,38,39]),(11,[0,4,5,11,12,38,39]),(12,[0,4,5,11,12,38,39]),(13,[4])])]
def abY:aw:=bO Pz K58 [(115,OO),(113,O9),(114,NU)] [] []
theorem SQ:aW abY:=aj ak ⟨Ux,VT,TP,trivial⟩ trivial trivial
def R9 (p1:Int) (p2:Z') (x:(Int×Pos)):St:=St.mk (.int .u8 p1::(an 3 (.ptr 1 0::.ptr 2 0::(an 5 (.agg [.ints .u8 8 p2]::.int .i64 x.1::(an 47 [])))))) (Hp.mk [[.ints .u8 8 p2],[.int .u8 0,.ints .u8 64 (List.replicate 64 0),.u64 0,.ints .u8 12 (List.replicate 12 0),.int .u8 0,.ints .i8 4 (List.replicate 4 0),.int .i8 0,.ints .u8 2 (List.replicate 2 0),.int .i64 0,.int .i64 0],(pc x.2 [])] [] [] 0 0 0)
def Q5 (p1:Int) (p2:Z'):(Int×Bool×Pos)→Out:=fun y=>.exit 0 (St.mk (.int .u8 p1::(an 3 (.ptr 1 0::.ptr 2 0::(an 5 (.agg [.ints .u8 8 p2]::.int .i64 y.1::.bool y.2.1::(an 46 [])))))) (Hp.mk [[.ints .u8 8 p2],[.int .u8 0,.ints .u8 64 (List.replicate 64 0),.u64 0,.ints .u8 12 (List.replicate 12 0),.int .u8 0,.ints .i8 4 (List.replicate 4 0),.int .i8 0,.ints .u8 2 (List.replicate 2 0),.int .i64 0,.int .i64 0],(pc y.2.2 [])] [] [] 0 0 0))
def Vg (p1:Int) (p2:Z') (x:(Int×Pos)):aG (Int×Pos) ((Int×Bool×Pos)):=(bif decide (x.1<8) then (bif ue p1 then (bif p2.getD x.1.toNat 0==4 then (bif decide (x.2.ai.getD 1 0<0) then (aG.go (wr .i64 (x.1+1),Pos.mk x.2.variant ((((x.2.ae.set (scale 1 x.1).toNat (p2.getD x.1.toNat 0)).set (scale 1 (wr .i64 (8+x.1))).toNat 1).set (scale 1 (wr .i64 (56+x.1))).toNat (lg (p2.getD x.1.toNat 0))).set (scale 1 (wr .i64 (48+x.1))).toNat (lg 1)) x.2.ab x.2.af x.2.aa ((x.2.ai.set 1 (wr .i8 x.1)).set 3 (wr .i8 x.1)) x.2.ah x.2.ag x.2.half x.2.full)) else (aG.go (wr .i64 (x.1+1),Pos.mk x.2.variant ((((x.2.ae.set (scale 1 x.1).toNat (p2.getD x.1.toNat 0)).set (scale 1 (wr .i64 (8+x.1))).toNat 1).set (scale 1 (wr .i64 (56+x.1))).toNat (lg (p2.getD x.1.toNat 0))).set (scale 1 (wr .i64 (48+x.1))).toNat (lg 1)) x.2.ab x.2.af x.2.aa ((x.2.ai.set 0 (wr .i8 x.1)).set 2 (wr .i8 x.1)) x.2.ah x.2.ag x.2.half x.2.full))) else (aG.go (wr .i64 (x.1+1),Pos.mk x.2.variant ((((x.2.ae.set (scale 1 x.1).toNat (p2.getD x.1.toNat 0)).set (scale 1 (wr .i64 (8+x.1))).toNat 1).set (scale 1 (wr .i64 (56+x.1))).toNat (lg (p2.getD x.1.toNat 0))).set (scale 1 (wr .i64 (48+x.1))).toNat (lg 1)) x.2.ab x.2.af x.2.aa x.2.ai x.2.ah x.2.ag x.2.half x.2.full))) else (aG.go (wr .i64 (x.1+1),Pos.mk x.2.variant ((((x.2.ae.set (scale 1 x.1).toNat (p2.getD x.1.toNat 0)).set (scale 1 (wr .i64 (8+x.1))).toNat 1).set (scale 1 (wr .i64 (56+x.1))).toNat (lg (p2.getD x.1.toNat 0))).set (scale 1 (wr .i64 (48+x.1))).toNat (lg 1)) x.2.ab x.2.af x.2.aa x.2.ai x.2.ah x.2.ag x.2.half x.2.full))) else (aG.out ((x.1,decide (x.1<8),x.2))))
def Nj (p1:Int) (p2:Z') (x:(Int×Pos)):Bool:=(bif decide (x.1<8) then (decide (0≤x.1)&&decide (x.1<Int.ofNat 8)&&(decide (0≤x.1)&&decide (x.1<Int.ofNat 64)&&(decide (0≤wr .i64 (8+x.1))&&decide (wr .i64 (8+x.1)<Int.ofNat 64)&&(decide (0≤wr .i64 (56+x.1))&&decide (wr .i64 (56+x.1)<Int.ofNat 64)&&(decide (0≤wr .i64 (48+x.1))&&decide (wr .i64 (48+x.1)<Int.ofNat 64)&&(vD (p1)&&true)))))) else true)
def gh (p1:Int) (p2:Z') (x:(Int×Pos)):Option ((Int×Bool×Pos)):=cO (fun x=>bif Nj p1 p2 x then Vg p1 p2 x else .bad) many x
abbrev Qx {α:Type} (k:Int→Z'→(Int×Pos)→α) (s:St):α:=wP s 2 fun q2=>k (tI (tT s 0)) (tN (tX (tA (tT s 11)) 0)) ((tI (tT s 12)),q2)
theorem XU (p1:Int) (p2:Z') (x:(Int×Pos)) (r:(Int×Bool×Pos)) (h:gh p1 p2 x=some r):ay Pz (aT Pz 58 3) (R9 p1 p2 x) (Q5 p1 p2 r):=smq (m:=12) (fn:=58) SQ (Qx fun _ _ x=>some x) (fun o=>match o with | .exit 0 s=>wP s 2 fun q2=>some ((tI (tT s 12)),(tB (tT s 13)),q2) | _=>none) many x r h
def Rl (b:Code) (s:St):Tr Out:=Qx (fun p1 p2 x=>lq b (aT Pz 58 3) s (R9 p1 p2 x) (gh p1 p2 x) (Q5 p1 p2)) s
theorem Vw:∀ b,aM Pz b (Rl b):=fun _ _ _ h=>bK (XU _ _ _) h
def B58:aw:=bO Pz K58 [(115,OO),(113,O9),(114,NU)] [(58,3,Rl)] []
theorem adq:aW B58:=aj ak ⟨Ux,VT,TP,trivial⟩ ⟨Vw,trivial⟩ trivial
def bJ (a:Int) (b:List Int):Pos:=⟨(((gh a b (0,iG a)).getD default).2.2.variant),(((gh a b (0,iG a)).getD default).2.2.ae),(((gh a b (0,iG a)).getD default).2.2.ab),(((gh a b (0,iG a)).getD default).2.2.af),(((gh a b (0,iG a)).getD default).2.2.aa),(((gh a b (0,iG a)).getD default).2.2.ai),(((gh a b (0,iG a)).getD default).2.2.ah),(((gh a b (0,iG a)).getD default).2.2.ag),(((gh a b (0,iG a)).getD default).2.2.half),(((gh a b (0,iG a)).getD default).2.2.full)⟩
def Pc (a:Int) (b:List Int):Bool:=((gh a b (0,iG a)).isSome&&true)
theorem P58 (a:Int) (b:List Int) (h:Pc a b=true):PS Pz 58 [.int .u8 a,.agg [.ints .u8 8 b]] (aY.res (bJ a b)):=pq14 adq h
def Xf:GT:=g2 (dI .u8) (Bp .u8 8) (fun a b=>cp (Pc a b) (aY.res (bJ a b)))
theorem s58:Sound Pz 58 Xf:=bb fun a b=>aC (P58 a b)
def K59:KT:=[(59,2,[(0,[0]),(1,[0])])]
def B59:aw:=bO Pz K59 [] [] []
theorem aiT:aW B59:=aj ak trivial trivial trivial
def bH  : List Int:=(if 8=8 then ((((((((List.replicate 8 0).set 0 4).set 1 2).set 2 3).set 3 5).set 4 6).set 5 3).set 6 2).set 7 4 else List.take 0 (List.replicate 8 0)++((((((((List.replicate 8 0).set 0 4).set 1 2).set 2 3).set 3 5).set 4 6).set 5 3).set 6 2).set 7 4++List.drop 8 (List.replicate 8 0))
def ah7  : Bool:=true
theorem P59  (h:ah7 =true):PS Pz 59 [] ((Bp .u8 8).res (bH )):=pq14 aiT h
def Y6:GT:=g0  (.ret ((Bp .u8 8).res (bH )))
theorem s59:Sound Pz 59 Y6:=pN (bV (P59 rfl))
def K56:KT:=[(56,28,[(0,[0]),(1,[0,1]),(2,[0,1]),(3,[0,1,10]),(4,[0,1,10,11]),(5,[0,1,2,10]),(6,[0,1,10]),(7,[0,1,10]),(8,[0,1,17,18,19]),(9,(0::1::(rn 17 4 []))),(10,[0,1,4,17,18,19]),(11,[0,1,17,18,19]),(12,[0,1,17,18,19]),(13,[0])])]
def aal:aw:=bO Pz K56 [(58,Xf),(59,Y6)] [] []
theorem Vk:aW aal:=aj ak ⟨s58,s59,trivial⟩ trivial trivial
def Qm  (x:(Int×Pos)):St:=St.mk (.ptr 0 0::.ptr 1 0::(an 8 (.int .i64 x.1::(an 17 [])))) (Hp.mk [[.int .u8 0,.ints .u8 64 (List.replicate 64 0),.u64 0,.ints .u8 12 (List.replicate 12 0),.int .u8 0,.ints .i8 4 (List.replicate 4 0),.int .i8 0,.ints .u8 2 (List.replicate 2 0),.int .i64 0,.int .i64 0],(pc x.2 [])] [] [] 0 0 0)
def Se  : (Int×Bool×Pos)→Out:=fun y=>.exit 0 (St.mk (.ptr 0 0::.ptr 1 0::(an 8 (.int .i64 y.1::.bool y.2.1::(an 16 [])))) (Hp.mk [[.int .u8 0,.ints .u8 64 (List.replicate 64 0),.u64 0,.ints .u8 12 (List.replicate 12 0),.int .u8 0,.ints .i8 4 (List.replicate 4 0),.int .i8 0,.ints .u8 2 (List.replicate 2 0),.int .i64 0,.int .i64 0],(pc y.2.2 [])] [] [] 0 0 0))
def TF  (x:(Int×Pos)):aG (Int×Pos) ((Int×Bool×Pos)):=(bif decide (x.1<32) then (aG.go (wr .i64 (x.1+1),Pos.mk x.2.variant (x.2.ae.set (scale 1 x.1).toNat 1) x.2.ab x.2.af x.2.aa x.2.ai x.2.ah x.2.ag x.2.half x.2.full)) else (aG.out ((x.1,decide (x.1<32),x.2))))
def PT  (x:(Int×Pos)):Bool:=(bif decide (x.1<32) then (decide (0≤x.1)&&decide (x.1<Int.ofNat 64)&&true) else true)
def fE  (x:(Int×Pos)):Option ((Int×Bool×Pos)):=cO (fun x=>bif PT  x then TF  x else .bad) many x
abbrev RE {α:Type} (k:(Int×Pos)→α) (s:St):α:=wP s 1 fun q1=>k ((tI (tT s 10)),q1)
theorem aau  (x:(Int×Pos)) (r:(Int×Bool×Pos)) (h:fE  x=some r):ay Pz (aT Pz 56 4) (Qm  x) (Se  r):=smq (m:=12) (fn:=56) Vk (RE fun x=>some x) (fun o=>match o with | .exit 0 s=>wP s 1 fun q1=>some ((tI (tT s 10)),(tB (tT s 11)),q1) | _=>none) many x r h
def J5 (b:Code) (s:St):Tr Out:=RE (fun x=>lq b (aT Pz 56 4) s (Qm x) (fE x) (Se )) s
theorem JD:∀ b,aM Pz b (J5 b):=fun _ _ _ h=>bK (aau _) h
def Yl:aw:=bO Pz K56 [(58,Xf),(59,Y6)] [(56,4,J5)] []
theorem TN:aW Yl:=aj ak ⟨s58,s59,trivial⟩ ⟨JD,trivial⟩ trivial
def QZ  (x:(Int×Pos)):St:=St.mk (.ptr 0 0::.ptr 1 0::(an 15 (.vlist true [.aE .i64 33,.aE .i64 34,.aE .i64 37,.aE .i64 38]::.aE .i64 (Int.ofNat 4)::.int .i64 x.1::(an 8 [])))) (Hp.mk [[.int .u8 0,.ints .u8 64 (List.replicate 64 0),.u64 0,.ints .u8 12 (List.replicate 12 0),.int .u8 0,.ints .i8 4 (List.replicate 4 0),.int .i8 0,.ints .u8 2 (List.replicate 2 0),.int .i64 0,.int .i64 0],(pc x.2 [])] [] [] 0 0 0)
def Q0  : (Int×Bool×Pos)→Out:=fun y=>.exit 2 (St.mk (.ptr 0 0::.ptr 1 0::(an 15 (.vlist true [.aE .i64 33,.aE .i64 34,.aE .i64 37,.aE .i64 38]::.aE .i64 (Int.ofNat 4)::.int .i64 y.1::.bool y.2.1::(an 7 [])))) (Hp.mk [[.int .u8 0,.ints .u8 64 (List.replicate 64 0),.u64 0,.ints .u8 12 (List.replicate 12 0),.int .u8 0,.ints .i8 4 (List.replicate 4 0),.int .i8 0,.ints .u8 2 (List.replicate 2 0),.int .i64 0,.int .i64 0],(pc y.2.2 [])] [] [] 0 0 0))
def Wv  (x:(Int×Pos)):aG (Int×Pos) ((Int×Bool×Pos)):=(bif decide (x.1<Int.ofNat 4) then (bif x.1==Int.ofNat 0 then (aG.go (wr .i64 (x.1+1),Pos.mk x.2.variant (x.2.ae.set 33 1) x.2.ab x.2.af x.2.aa x.2.ai x.2.ah x.2.ag x.2.half x.2.full)) else (bif x.1==Int.ofNat 1 then (aG.go (wr .i64 (x.1+1),Pos.mk x.2.variant (x.2.ae.set 34 1) x.2.ab x.2.af x.2.aa x.2.ai x.2.ah x.2.ag x.2.half x.2.full)) else (bif x.1==Int.ofNat 2 then (aG.go (wr .i64 (x.1+1),Pos.mk x.2.variant (x.2.ae.set 37 1) x.2.ab x.2.af x.2.aa x.2.ai x.2.ah x.2.ag x.2.half x.2.full)) else (aG.go (wr .i64 (x.1+1),Pos.mk x.2.variant (x.2.ae.set 38 1) x.2.ab x.2.af x.2.aa x.2.ai x.2.ah x.2.ag x.2.half x.2.full))))) else (aG.out ((x.1,decide (x.1<Int.ofNat 4),x.2))))
def PJ  (x:(Int×Pos)):Bool:=(bif decide (x.1<Int.ofNat 4) then (decide (0≤x.1)&&decide (x.1<Int.ofNat 4)&&(bif x.1==Int.ofNat 0 then true else (bif x.1==Int.ofNat 1 then true else (bif x.1==Int.ofNat 2 then true else (x.1==Int.ofNat 3&&true))))) else true)
def fV  (x:(Int×Pos)):Option ((Int×Bool×Pos)):=cO (fun x=>bif PJ  x then Wv  x else .bad) many x
abbrev Sa {α:Type} (k:(Int×Pos)→α) (s:St):α:=wP s 1 fun q1=>k ((tI (tT s 19)),q1)
theorem WX  (x:(Int×Pos)) (r:(Int×Bool×Pos)) (h:fV  x=some r):ay Pz (aT Pz 56 9) (QZ  x) (Q0  r):=smq (m:=12) (fn:=56) TN (Sa fun x=>some x) (fun o=>match o with | .exit 2 s=>wP s 1 fun q1=>some ((tI (tT s 19)),(tB (tT s 20)),q1) | _=>none) many x r h
def Qb (b:Code) (s:St):Tr Out:=Sa (fun x=>lq b (aT Pz 56 9) s (QZ x) (fV x) (Q0 )) s
theorem Ur:∀ b,aM Pz b (Qb b):=fun _ _ _ h=>bK (WX _) h
def B56:aw:=bO Pz K56 [(58,Xf),(59,Y6)] [(56,4,J5),(56,9,Qb)] []
theorem ac9:aW B56:=aj ak ⟨s58,s59,trivial⟩ ⟨JD,Ur,trivial⟩ trivial
def GZ  : Pos:=⟨(((fV (0,((fE (0,Pos.mk (bJ 7 bH).variant (bJ 7 bH).ae (bJ 7 bH).ab (bJ 7 bH).af (bJ 7 bH).aa (List.take 0 (bJ 7 bH).ai++((List.replicate 2 0).set 0 (-1)).set 1 (-1)++List.drop 2 (bJ 7 bH).ai) (bJ 7 bH).ah (bJ 7 bH).ag (bJ 7 bH).half (bJ 7 bH).full)).getD default).2.2)).getD default).2.2.variant),(((fV (0,((fE (0,Pos.mk (bJ 7 bH).variant (bJ 7 bH).ae (bJ 7 bH).ab (bJ 7 bH).af (bJ 7 bH).aa (List.take 0 (bJ 7 bH).ai++((List.replicate 2 0).set 0 (-1)).set 1 (-1)++List.drop 2 (bJ 7 bH).ai) (bJ 7 bH).ah (bJ 7 bH).ag (bJ 7 bH).half (bJ 7 bH).full)).getD default).2.2)).getD default).2.2.ae),(((fV (0,((fE (0,Pos.mk (bJ 7 bH).variant (bJ 7 bH).ae (bJ 7 bH).ab (bJ 7 bH).af (bJ 7 bH).aa (List.take 0 (bJ 7 bH).ai++((List.replicate 2 0).set 0 (-1)).set 1 (-1)++List.drop 2 (bJ 7 bH).ai) (bJ 7 bH).ah (bJ 7 bH).ag (bJ 7 bH).half (bJ 7 bH).full)).getD default).2.2)).getD default).2.2.ab),(((fV (0,((fE (0,Pos.mk (bJ 7 bH).variant (bJ 7 bH).ae (bJ 7 bH).ab (bJ 7 bH).af (bJ 7 bH).aa (List.take 0 (bJ 7 bH).ai++((List.replicate 2 0).set 0 (-1)).set 1 (-1)++List.drop 2 (bJ 7 bH).ai) (bJ 7 bH).ah (bJ 7 bH).ag (bJ 7 bH).half (bJ 7 bH).full)).getD default).2.2)).getD default).2.2.af),(((fV (0,((fE (0,Pos.mk (bJ 7 bH).variant (bJ 7 bH).ae (bJ 7 bH).ab (bJ 7 bH).af (bJ 7 bH).aa (List.take 0 (bJ 7 bH).ai++((List.replicate 2 0).set 0 (-1)).set 1 (-1)++List.drop 2 (bJ 7 bH).ai) (bJ 7 bH).ah (bJ 7 bH).ag (bJ 7 bH).half (bJ 7 bH).full)).getD default).2.2)).getD default).2.2.aa),(((fV (0,((fE (0,Pos.mk (bJ 7 bH).variant (bJ 7 bH).ae (bJ 7 bH).ab (bJ 7 bH).af (bJ 7 bH).aa (List.take 0 (bJ 7 bH).ai++((List.replicate 2 0).set 0 (-1)).set 1 (-1)++List.drop 2 (bJ 7 bH).ai) (bJ 7 bH).ah (bJ 7 bH).ag (bJ 7 bH).half (bJ 7 bH).full)).getD default).2.2)).getD default).2.2.ai),(((fV (0,((fE (0,Pos.mk (bJ 7 bH).variant (bJ 7 bH).ae (bJ 7 bH).ab (bJ 7 bH).af (bJ 7 bH).aa (List.take 0 (bJ 7 bH).ai++((List.replicate 2 0).set 0 (-1)).set 1 (-1)++List.drop 2 (bJ 7 bH).ai) (bJ 7 bH).ah (bJ 7 bH).ag (bJ 7 bH).half (bJ 7 bH).full)).getD default).2.2)).getD default).2.2.ah),(((fV (0,((fE (0,Pos.mk (bJ 7 bH).variant (bJ 7 bH).ae (bJ 7 bH).ab (bJ 7 bH).af (bJ 7 bH).aa (List.take 0 (bJ 7 bH).ai++((List.replicate 2 0).set 0 (-1)).set 1 (-1)++List.drop 2 (bJ 7 bH).ai) (bJ 7 bH).ah (bJ 7 bH).ag (bJ 7 bH).half (bJ 7 bH).full)).getD default).2.2)).getD default).2.2.ag),(((fV (0,((fE (0,Pos.mk (bJ 7 bH).variant (bJ 7 bH).ae (bJ 7 bH).ab (bJ 7 bH).af (bJ 7 bH).aa (List.take 0 (bJ 7 bH).ai++((List.replicate 2 0).set 0 (-1)).set 1 (-1)++List.drop 2 (bJ 7 bH).ai) (bJ 7 bH).ah (bJ 7 bH).ag (bJ 7 bH).half (bJ 7 bH).full)).getD default).2.2)).getD default).2.2.half),(((fV (0,((fE (0,Pos.mk (bJ 7 bH).variant (bJ 7 bH).ae (bJ 7 bH).ab (bJ 7 bH).af (bJ 7 bH).aa (List.take 0 (bJ 7 bH).ai++((List.replicate 2 0).set 0 (-1)).set 1 (-1)++List.drop 2 (bJ 7 bH).ai) (bJ 7 bH).ah (bJ 7 bH).ag (bJ 7 bH).half (bJ 7 bH).full)).getD default).2.2)).getD default).2.2.full)⟩
def UE  : Bool:=(Pc (7) (bH)&&((fE (0,Pos.mk (bJ 7 bH).variant (bJ 7 bH).ae (bJ 7 bH).ab (bJ 7 bH).af (bJ 7 bH).aa (List.take 0 (bJ 7 bH).ai++((List.replicate 2 0).set 0 (-1)).set 1 (-1)++List.drop 2 (bJ 7 bH).ai) (bJ 7 bH).ah (bJ 7 bH).ag (bJ 7 bH).half (bJ 7 bH).full)).isSome&&((fV (0,((fE (0,Pos.mk (bJ 7 bH).variant (bJ 7 bH).ae (bJ 7 bH).ab (bJ 7 bH).af (bJ 7 bH).aa (List.take 0 (bJ 7 bH).ai++((List.replicate 2 0).set 0 (-1)).set 1 (-1)++List.drop 2 (bJ 7 bH).ai) (bJ 7 bH).ah (bJ 7 bH).ag (bJ 7 bH).half (bJ 7 bH).full)).getD default).2.2)).isSome&&true)))
theorem P56  (h:UE =true):PS Pz 56 [] (aY.res (GZ )):=pq14 ac9 h
def G56:GT:=g0  (cp UE (aY.res (GZ)))
theorem s56:Sound Pz 56 G56:=pN (aC P56)
def K57:KT:=[(57,42,[(0,[0]),(1,[0,1]),(2,[0,1,9,10,11]),(3,(0::1::(rn 9 4 []))),(4,(rn 0 4 [9,10,11])),(5,[0,1,2,9,10,11,16,17,18]),(6,(0::1::2::9::10::11::(rn 16 4 []))),(7,[0,1,2,4,5,9,10,11,16,17,18]),(8,[0,1,2,9,10,11,16,17,18]),(9,[0,1,2,9,10,11,16,17,18]),(10,[0,1,9,10,11]),(11,[0])])]
def B57:aw:=bO Pz K57 [(113,O9),(114,NU)] [] []
theorem aeu:aW B57:=aj ak ⟨VT,TP,trivial⟩ trivial trivial
def G1  : Pos:=⟨((iG 8).variant),(((((((((((((((((iG 8).ae.set 0 (lg 5)).set 7 5).set 1 (lg 4)).set 6 4).set 2 (lg 3)).set 5 3).set 3 (lg 2)).set 4 2).set 8 (lg 6)).set 15 6).set 9 (lg 4)).set 14 4).set 10 (lg 3)).set 13 3).set 11 (lg 2)).set 12 2),((iG 8).ab),((iG 8).af),((iG 8).aa),((iG 8).ai),((iG 8).ah),((iG 8).ag),((iG 8).half),((iG 8).full)⟩
def ahq  : Bool:=true
theorem P57  (h:ahq =true):PS Pz 57 [] (aY.res (G1 )):=pq14 aeu h
def G57:GT:=g0  (.ret (aY.res (G1 )))
theorem s57:Sound Pz 57 G57:=pN (bV (P57 rfl))
def K27:KT:=[(27,19,[(0,[0,2]),(1,[0,2,4]),(2,[2,3]),(3,[0,2,8]),(4,[2,3]),(5,[0,2,12]),(6,[2,3]),(7,[2,3])])]
def B27:aw:=bO Pz K27 [(56,G56),(57,G57),(58,Xf),(59,Y6)] [] []
theorem agN:aW B27:=aj ak ⟨s56,s57,s58,s59,trivial⟩ trivial trivial
def N27 (a:Int):(Pos×Bool):=(bif decide (a≥9) then (⟨(0),(List.replicate 64 0),(0),(List.replicate 12 0),(0),(List.replicate 4 0),(0),(List.replicate 2 0),(0),(0)⟩,(false)) else (bif a==7 then (⟨(GZ.variant),(GZ.ae),(GZ.ab),(GZ.af),(GZ.aa),(GZ.ai),(GZ.ah),(GZ.ag),(GZ.half),(GZ.full)⟩,(true)) else (bif a==8 then (⟨(G1.variant),(G1.ae),(G1.ab),(G1.af),(G1.aa),(G1.ai),(G1.ah),(G1.ag),(G1.half),(G1.full)⟩,(true)) else (⟨((bJ a bH).variant),((bJ a bH).ae),((bJ a bH).ab),((bJ a bH).af),((bJ a bH).aa),((bJ a bH).ai),((bJ a bH).ah),((bJ a bH).ag),((bJ a bH).half),((bJ a bH).full)⟩,(true)))))
def ab3 (a:Int):Bool:=(bif decide (a≥9) then true else (bif a==7 then (UE &&true) else (bif a==8 then true else (Pc (a) (bH)&&true))))
theorem P27 (a:Int) (h:ab3 a=true):PS Pz 27 [.int .u8 a] ((d2 aY dB).res (N27 a)):=pq14 agN h
def G27:GT:=g1 (dI .u8) (fun a=>cp (ab3 a) ((d2 aY dB).res (N27 a)))
theorem s27:Sound Pz 27 G27:=aH fun a=>aC (P27 a)
def B8c:aw:=iJ Pz (fun _ _=>[]) [(27,G27),(29,g1 aY fun a=>cp (AW a) (dB.res (j4 a))),(30,g1 aY fun a=>cp (AW a) ((dL .mv).res (ba a))),(31,g2 aY va fun a b=>cp (AW a) ((d2 aY dB).res (cS a b)))] [] []
theorem ajH:aW B8c:=aj ak ⟨s27,aH fun a=>aC fun h=>P29 a (ao (t62 (xu h)) fun _=>rfl),aH fun a=>aC fun h=>P30 a (t30 (xu h)),bb fun a b=>aC fun h=>P31 a b (dN (xu h) b).1,trivial⟩ trivial trivial
def Ig:Option AV→Bool
 | some (.bool b) | some (.aL b)=>b
 | _=>false
theorem Fx {o:Option AV} (h:Ig o=true):∃ v,o=some v∧dB.dec v=some true:=by
 unfold Ig at h
 split at h
 ·subst h;exact ⟨_,rfl,rfl⟩
 ·subst h;exact ⟨_,rfl,rfl⟩
 ·cases h
theorem Q8:Ig (db B8c 120 8 []).get=true:=by kernel_rfl
theorem P8h:PS Pz 8 [] (dB.res true):=by
 obtain ⟨v,h1,h2⟩:=Fx Q8
 exact HO ajH h1 dB h2
def N8:Bool:=true
def ok8:Bool:=true
theorem P8 (_:ok8=true):PS Pz 8 [] (dB.res N8):=P8h
def G8:GT:=g0 (.ret (dB.res N8))
theorem s8:Sound Pz 8 G8:=pN (bV (P8 rfl))
def K3:KT:=[(3,104,[(0,[1,2]),(1,[1,2,26]),(2,[4]),(3,[1,2,5,6,7]),(4,[1,2,5,6,7,40]),(5,[4]),(6,(1::2::(rn 5 4 []))),(7,(1::2::(rn 5 5 []))),(8,[1,2,5,6,7,9,60]),(9,[1,2,5,6,7,9]),(10,[1,2,6,9,77]),(11,[4]),(12,[1,2,6,9,10]),(13,[1,2,6,9,10,81]),(14,[1,2,6,9,10]),(15,[1,2,6,9,10,11]),(16,[1,2,6,9,10,102]),(17,[4]),(18,[4])])]
def ag8:aw:=bO Pz K3 [(7,G7),(8,G8),(9,G9),(10,MH),(11,Wb),(12,G12),(13,G13),(14,G14),(15,G15)] [] []
theorem Su:aW ag8:=aj ak ⟨s7,s8,s9,M7,WQ,s12,s13,s14,s15,trivial⟩ trivial trivial
def TU (t:Tk) (p1:Int) (p2:Z') (p3:M') (p4:Pos) (p5:Int) (p6:Int) (x:(Int)):St:=St.mk (.any::.int .i64 p1::.ptr 0 0::(an 3 (.list (ET.i .i64) p2 .fresh::.any::.any::.list .mv p3 t::.int .i64 x::(an 93 [])))) (Hp.mk [(pc p4 []),[.int .u8 p5,.int .u8 p6]] [0] [] 0 0 0)
def U3 (t:Tk) (p1:Int) (p2:Z') (p3:M') (p4:Pos) (p5:Int) (p6:Int):Unit ⊕ (Int×Bool)→Out
 | (.inl (y))=>.ret (St.mk (an 4 (AV.aL false::(an 99 []))) (Hp.mk [(pc p4 []),[AV.int .u8 p5,AV.int .u8 p6]] [0] [] 0 0 0))
 | (.inr (y))=>.exit 0 (St.mk (AV.any::AV.int .i64 p1::AV.ptr 0 0::(an 3 (AV.list (ET.i .i64) p2 Tk.fresh::AV.any::AV.any::AV.list ET.mv p3 t::AV.int .i64 y.1::(an 70 (AV.bool y.2::(an 22 [])))))) (Hp.mk [(pc p4 []),[AV.int .u8 p5,AV.int .u8 p6]] [0] [] 0 0 0))
def QV (p1:Int) (p2:Z') (p3:M') (p4:Pos) (p5:Int) (p6:Int) (x:(Int)):aG (Int) (Unit ⊕ (Int×Bool)):=(bif decide (x<Int.ofNat p3.length) then (bif p2.getD x.toNat default != Cd (Zu (WN p4 (p3.getD x.toNat default)).1 (wr .i64 (p1-1))) then (aG.out (.inl (()))) else (aG.go (wr .i64 (x+1)))) else (aG.out (.inr ((x,decide (x<Int.ofNat p3.length))))))
def HU (p1:Int) (p2:Z') (p3:M') (p4:Pos) (p5:Int) (p6:Int) (x:(Int)):Bool:=(bif decide (x<Int.ofNat p3.length) then (decide (0≤x)&&decide (x<Int.ofNat p3.length)&&(JU p4 (p3.getD x.toNat default)&&(decide (0≤x)&&decide (x<Int.ofNat p2.length)&&(Ih (WN p4 (p3.getD x.toNat default)).1 (wr .i64 (p1-1))&&true)))) else true)
def sI (p1:Int) (p2:Z') (p3:M') (p4:Pos) (p5:Int) (p6:Int) (x:(Int)):Option (Unit ⊕ (Int×Bool)):=cO (fun x=>bif HU p1 p2 p3 p4 p5 p6 x then QV p1 p2 p3 p4 p5 p6 x else .bad) many x
abbrev VV {α:Type} (k:Int→Z'→M'→Pos→Int→Int→(Int)→α) (s:St):α:=wP s 0 fun q0=>k (tI (tT s 1)) (tL (ET.i .i64) (tT s 6)) (tL (ET.mv) (tT s 9)) q0 (tI (tH s 1 0)) (tI (tH s 1 1)) ((tI (tT s 10)))
theorem ajI (p1:Int) (p2:Z') (p3:M') (p4:Pos) (p5:Int) (p6:Int) (x:(Int)) (r:Unit ⊕ (Int×Bool)) (h:sI p1 p2 p3 p4 p5 p6 x=some r):ay Pz (aT Pz 3 13) (TU .fresh p1 p2 p3 p4 p5 p6 x) (U3 .fresh p1 p2 p3 p4 p5 p6 r):=ay.vC (m:=12) (fn:=3) Su (VV fun _ _ _ _ _ _ x=>some x) (fun o=>match o with | .ret s=>some (.inl ()) | .exit 0 s=>some (.inr ((tI (tT s 10)),(tB (tT s 81)))) | _=>none) (fun r=>by cases r<;>rfl) (fun _=>by kernel_rfl) (fun _=>by kernel_rfl) (fun _=>by kernel_rfl) (fun _=>by kernel_rfl) many x r h
theorem aeZ (p1:Int) (p2:Z') (p3:M') (p4:Pos) (p5:Int) (p6:Int) (x:(Int)) (r:Unit ⊕ (Int×Bool)) (h:sI p1 p2 p3 p4 p5 p6 x=some r):ay Pz (aT Pz 3 13) (TU (.own 0) p1 p2 p3 p4 p5 p6 x) (U3 (.own 0) p1 p2 p3 p4 p5 p6 r):=ay.vC (m:=12) (fn:=3) Su (VV fun _ _ _ _ _ _ x=>some x) (fun o=>match o with | .ret s=>some (.inl ()) | .exit 0 s=>some (.inr ((tI (tT s 10)),(tB (tT s 81)))) | _=>none) (fun r=>by cases r<;>rfl) (fun _=>by kernel_rfl) (fun _=>by kernel_rfl) (fun _=>by kernel_rfl) (fun _=>by kernel_rfl) many x r h
def Nw (t:Tk) (b:Code) (s:St):Tr Out:=VV (fun p1 p2 p3 p4 p5 p6 x=>yX b (aT Pz 3 13) s (TU t p1 p2 p3 p4 p5 p6 x) (sI p1 p2 p3 p4 p5 p6 x) (U3 t p1 p2 p3 p4 p5 p6)) s
theorem abf:∀ b,aM Pz b (Nw .fresh b):=fun _ _ _ h=>dG (ajI _ _ _ _ _ _ _) h
theorem aam:∀ b,aM Pz b (Nw (.own 0) b):=fun _ _ _ h=>dG (aeZ _ _ _ _ _ _ _) h
def H3 (s:St):Bool:=match tT s 9 with
 | .list _ _ .fresh=>true
 | _=>false
def B3:aw:=bO Pz K3 [(7,G7),(8,G8),(9,G9),(10,MH),(11,Wb),(12,G12),(13,G13),(14,G14),(15,G15)] [(3,13,fun b s=>bif H3 s then Nw .fresh b s else Nw (.own 0) b s)] []
theorem hB3:aW B3:=aj ak ⟨s7,s8,s9,M7,WQ,s12,s13,s14,s15,trivial⟩ ⟨fu (c:=H3) abf aam,trivial⟩ trivial
def W3 (r:M'×List Int×Int):Bool:=bif Int.ofNat r.1.length==0 then (bif Int.ofNat r.2.1.length==0 then (bif r.2.2==2 then N8 else false) else false) else false
def M3 (a:Pos) (b:Int) (l:M'):Bool:=bif (N9 a b).2.2 != 0 then false else bif !WC (N9 a b).1 l then false else bif Int.ofNat (N9 a b).2.1.length != Int.ofNat l.length then false else bif bI ((sI b (N9 a b).2.1 l a (nA a).1 (nA a).2 0).getD default) then false else N8
def T3 (a:Pos) (b:Int):Bool:=bif decide (b<1) then W3 (N9 a b) else bif decide (b>64) then W3 (N9 a b) else bif (nA a).1==0 then M3 a b (MJ a) else M3 a b []
def Y3 (a:Pos) (b:Int):Bool:=bif b==2 then bif N7 a then N8 else T3 a b else T3 a b
def m3 (a:Pos) (b:Int) (l:M'):Bool:=bif (N9 a b).2.2 != 0 then true else (Mr (N9 a b).1 l&&bif !WC (N9 a b).1 l then true else bif Int.ofNat (N9 a b).2.1.length != Int.ofNat l.length then true else ((sI b (N9 a b).2.1 l a (nA a).1 (nA a).2 0).isSome&&bif bI ((sI b (N9 a b).2.1 l a (nA a).1 (nA a).2 0).getD default) then true else true))
def t3 (a:Pos) (b:Int):Bool:=RV a b&&bif decide (b<1) then true else bif decide (b>64) then true else (xG a&&bif (nA a).1==0 then (Ct a&&m3 a b (MJ a)) else m3 a b [])
def y3 (a:Pos) (b:Int):Bool:=bif b==2 then (ok7 a&&bif N7 a then true else t3 a b) else t3 a b
def N3 (a:Pos) (b:Int):Bool:=bif decide (b>2) then bif decide (b≤64) then N8 else Y3 a b else Y3 a b
def ok3 (a:Pos) (b:Int):Bool:=bif decide (b>2) then bif decide (b≤64) then true else y3 a b else y3 a b
theorem P3 (a:Pos) (b:Int) (h:ok3 a b=true):PS Pz 3 [Pos.av a,.int .i64 b] (dB.res (N3 a b)):=pq14 hB3 h

variable {p:Pos} {m:Mv} {l:M'}
theorem adx (hl:l.length≤1000000) (m:Mv):J8 l m=true∧WO l m=decide (m∈l):=by
 obtain ⟨r,e,h⟩:∃ r,pU l m 0=some r∧bI r=decide (m∈l):=by
  refine aU (I:=fun x:Int=>0≤x∧x≤(l.length:Int)∧∀ j:Nat,(j:Int)<x→l.getD j default≠m) (Q:=fun r:Unit ⊕ (Int×Bool)=>bI r=decide (m∈l)) (μ:=fun x=>((l.length:Int)-x).toNat) ?_ _ ⟨Int.le_refl _,by omega,fun j h=>by omega⟩ (by omega)
  rintro x ⟨x0,x1,hx⟩
  unfold E1 Jh
  by_cases hi:x<Int.ofNat l.length
  ·have hi':x<(l.length:Int):=hi
   have hin:=ct (l:=l) (i:=x.toNat) (d:=default) (by omega)
   rw [decide_eq_true hi,decide_eq_true x0,aF (n:=x+1) (by omega) (by omega),py]
   refine ⟨rfl,?_⟩
   rw [cond_true]
   by_cases h:l.getD x.toNat default=m
   ·rw [decide_eq_true h]
    rw [h] at hin
    exact (decide_eq_true hin).symm
   ·rw [decide_eq_false h]
    refine ⟨⟨by omega,by omega,fun j hj=>?_⟩,show ((l.length:Int)-(x+1)).toNat<((l.length:Int)-x).toNat by omega⟩
    by_cases e:(j:Int)=x
    ·rw [show j=x.toNat by omega];exact h
    ·exact hx j (by omega)
  ·rw [decide_eq_false hi]
   refine ⟨rfl,?_⟩
   refine (decide_eq_false fun hm=>?_).symm
   obtain ⟨j,hj,e⟩:=List.getElem_of_mem hm
   refine hx j (by have:¬ x<(l.length:Int):=hi;omega) ?_
   rw [List.getD_eq_getElem?_getD,I' hj,e];rfl
 unfold J8 WO
 rw [e]
 simp only [Option.getD_some]
 rw [h]
 refine ⟨?_,?_⟩<;>cases decide (m∈l)<;>rfl
variable {p:Pos} {m:Mv}
theorem behind (hp:aA p) {k:Int} (hk:k=0∨k=1):yQ p k=true∧Ih p k=true∧(GN p k).1=Cd (Zu p k):=by
 rcases hk with rfl | rfl
 ·obtain ⟨a1,a2⟩:=FO hp
  exact ⟨rfl,a1,a2.symm⟩
 ·obtain ⟨a1,a2⟩:=J6 hp
  obtain ⟨b1,b2⟩:=vE hp
  refine ⟨b1,a1,?_⟩
  show (wQ p).1=Cd (zY p)
  rw [a2,b2]
  unfold jR
  cases j4 p<;>rfl
theorem L2 (hp:aA p) {b:Int} (hb:b=1∨b=2):yQ p b=true∧(GN p b).2=0:=by
 rcases hb with rfl | rfl
 ·obtain ⟨b1,b2⟩:=vE hp
  exact ⟨b1,show (wQ p).2=0 by rw [b2]⟩
 ·obtain ⟨b1,b2⟩:=Fk hp
  exact ⟨b1,show (Ae p).2=0 by rw [b2]⟩
def share (p:Pos) (b:Int) (m:Mv):Int:=(GN (cS p m).1 (b-1)).1
theorem GJ (hp:aA p) {b:Int} (hb:b=1∨b=2) (k:Nat):∃ r,AO b (ba p) (ba p) (Int.ofNat (ba p).length) p k ([],0)=some r∧r.1=(ba p).map (share p b):=by
 have hl:=kg hp
 have wb:wr .i64 (b-1)=b-1:=aF (by omega) (by omega)
 refine aU (I:=fun x:List Int×Int=>0≤x.2∧x.2≤((ba p).length:Int)∧x.1=((ba p).take x.2.toNat).map (share p b)) (Q:=fun r:List Int×Int×Bool=>r.1=(ba p).map (share p b)) (μ:=fun x=>(((ba p).length:Int)-x.2).toNat) ?_ _ ⟨Int.le_refl _,by dsimp only;omega,rfl⟩ (by dsimp only;omega)
 rintro ⟨o,i⟩ ⟨i0,i1,ho⟩
 dsimp only at i0 i1 ho
 unfold J3 Rj
 dsimp only
 by_cases hi:i<Int.ofNat (ba p).length
 ·have hi':i<((ba p).length:Int):=hi
  have h66:=jW hp (ct (l:=ba p) (i:=i.toNat) (d:=default) (by omega))
  obtain ⟨k31,hk,_⟩:=dN hp ((ba p).getD i.toNat default)
  obtain ⟨k28,_⟩:=behind (hk h66).2.1 (k:=b-1) (by omega)
  have lo:o.length=i.toNat:=by rw [ho,List.length_map,List.length_take];omega
  have step:((ba p).take (i+1).toNat).map (share p b)=o++[share p b ((ba p).getD i.toNat default)]:=by
   rw [show (i+1).toNat=i.toNat+1 by omega,List.take_add_one,List.map_append,← ho,List.getD_eq_getElem?_getD,I' (show i.toNat<(ba p).length by omega)]
   rfl
  rw [wb,decide_eq_true hi,decide_eq_true i0,k31,k28,aF (n:=i+1) (by omega) (by omega),decide_eq_true (show o.length+1≤1073741824 by omega),beq_self_eq_true]
  exact ⟨rfl,⟨by dsimp only;omega,by dsimp only;omega,step.symm⟩,by dsimp only;omega⟩
 ·have hi':¬ i<((ba p).length:Int):=hi
  rw [decide_eq_false hi]
  refine ⟨rfl,?_⟩
  show o=_
  rw [ho,List.take_of_length_le (by omega)]
theorem Gp (hp:aA p) {b:Int} (hb:b=1∨b=2):RV p b=true∧N9 p b=bif j4 p then ([],[],0) else (ba p,(ba p).map (share p b),0):=by
 have k29:kG p=true:=ao (t62 hp) fun _=>rfl
 have k30:=t30 hp
 obtain ⟨c1,c2⟩:=L2 hp hb
 obtain ⟨r,e,h⟩:=GJ hp hb 0
 unfold RV N9
 rw [decide_eq_false (show ¬ b<1 by omega),c1,c2,k29,k30,e,← h]
 cases j4 p<;>exact ⟨rfl,rfl⟩
theorem sV {b:Int} (hb:b<1∨b>64):RV p b=true∧N9 p b=([],[],2):=by
 by_cases h:b<1
 ·unfold RV N9
  rw [decide_eq_true h]
  exact ⟨rfl,rfl⟩
 ·have h64:b>64:=by omega
  have e:yQ p b=true∧GN p b=(0,2):=by
   unfold yQ GN
   rw [show (b==0)=false from beq_eq_false_iff_ne.2 (by omega),show (b==1)=false from beq_eq_false_iff_ne.2 (by omega),show (b==2)=false from beq_eq_false_iff_ne.2 (by omega),decide_eq_true h64]
   exact ⟨rfl,rfl⟩
  unfold RV N9
  rw [decide_eq_false h,e.1,e.2]
  exact ⟨rfl,rfl⟩
theorem Gb (l:M') (hl:l.length≤1000000):Mr l l=true∧WC l l=true:=by
 obtain ⟨r,e,h⟩:∃ r,qB l l 0=some r∧bI r=false:=by
  refine aU (I:=fun x:Int=>0≤x∧x≤(l.length:Int)) (Q:=fun r:Unit ⊕ (Int×Bool)=>bI r=false) (μ:=fun x=>((l.length:Int)-x).toNat) ?_ _ ⟨Int.le_refl _,by omega⟩ (by omega)
  rintro x ⟨x0,x1⟩
  unfold Ej Jv
  by_cases hi:x<Int.ofNat l.length
  ·have hi':x<(l.length:Int):=hi
   rw [decide_eq_true hi,decide_eq_true x0,aF (n:=x+1) (by omega) (by omega),py,decide_eq_true rfl]
   exact ⟨rfl,⟨by omega,by omega⟩,show ((l.length:Int)-(x+1)).toNat<((l.length:Int)-x).toNat by omega⟩
  ·rw [decide_eq_false hi]
   exact ⟨rfl,rfl⟩
 unfold Mr WC
 rw [e,show (Int.ofNat l.length != Int.ofNat l.length)=false by simp,Option.getD_some,h]
 exact ⟨rfl,rfl⟩
theorem Ke (hp:aA p) (h:m∈b8 p):JU p m=true∧(WN p m).1=(cS p m).1:=by
 obtain ⟨hth,_⟩:=eZ hp h
 obtain ⟨a1,a2⟩:=yo hp hth
 have hl:=jf hp
 obtain ⟨h1,h2⟩:=adx (l:=b8 p) (by omega) m
 obtain ⟨m1,m2⟩:=rU hp hth h
 have e65:F2 (b8 p) m=true:=by rw [ko (by omega)];exact decide_eq_true h
 unfold JU WN
 rw [rR,e65,a1,a2,h1,h2,decide_eq_true h,m1,m2]
 exact ⟨rfl,rfl⟩
theorem Uv (hp:aA p) {b:Int} (hb:b=1∨b=2) (c d:Int) (l:M') (hl:∀ m∈l,m∈b8 p) (hn:l.length≤1000000):∃ r,sI b (l.map (share p b)) l p c d 0=some r∧bI r=false:=by
 have wb:wr .i64 (b-1)=b-1:=aF (by omega) (by omega)
 refine aU (I:=fun x:Int=>0≤x∧x≤(l.length:Int)) (Q:=fun r:Unit ⊕ (Int×Bool)=>bI r=false) (μ:=fun x=>((l.length:Int)-x).toNat) ?_ _ ⟨Int.le_refl _,by omega⟩ (by omega)
 rintro x ⟨x0,x1⟩
 unfold HU QV
 by_cases hi:x<Int.ofNat l.length
 ·have hi':x<(l.length:Int):=hi
  have h66:=hl _ (ct (l:=l) (i:=x.toNat) (d:=default) (by omega))
  obtain ⟨_,hk,_⟩:=dN hp (l.getD x.toNat default)
  obtain ⟨_,k15,ke⟩:=behind (hk h66).2.1 (k:=b-1) (by omega)
  obtain ⟨m1,m2⟩:=Ke hp h66
  have eg:(l.map (share p b)).getD x.toNat default=share p b (l.getD x.toNat default):=by
   rw [List.getD_eq_getElem?_getD,List.getD_eq_getElem?_getD,List.getElem?_map,I' (show x.toNat<l.length by omega)]
   rfl
  rw [wb,decide_eq_true hi,decide_eq_true x0,m1,m2,k15,eg,List.length_map,decide_eq_true hi,aF (n:=x+1) (by omega) (by omega),← ke,show (share p b (l.getD x.toNat default) != (GN (cS p (l.getD x.toNat default)).1 (b-1)).1)=false by simp [share]]
  exact ⟨rfl,⟨by omega,by omega⟩,show ((l.length:Int)-(x+1)).toNat<((l.length:Int)-x).toNat by omega⟩
 ·rw [decide_eq_false hi]
  exact ⟨rfl,rfl⟩
theorem OR (hp:aA p):ok7 p=true:=by
 unfold ok7
 cases h:rX p with
 | false=>rfl
 | true =>
  have hth:there p:=by
   unfold rX at h
   revert h
   by_cases h1:p.variant<9
   ·by_cases h2:p.aa<2
    ·intro _;exact ⟨by omega,h1⟩
    ·rw [decide_eq_true h1,decide_eq_false h2];intro h;cases h
   ·rw [decide_eq_false h1];intro h;cases h
  have t0:=hp.t0
  have t1:=hth.1
  have wt:wr .u8 (1-p.aa)=1-p.aa:=ni (by omega) (by omega)
  have hq:aA { p with aa:=wr .u8 (1-p.aa),ah := -1 }:={ hp with t0:=by dsimp only;omega,t1:=by dsimp only;omega,p0:=(show (-128:Int) ≤ -1 by decide),p1:=(show (-1:Int)≤127 by decide) }
  have h1:=(yo hp hth).1
  have h2:=(yo hq ⟨by dsimp only;omega,hth.2⟩).1
  rw [h1,show vr (Pos.mk p.variant p.ae p.ab p.af (wr .u8 (1-p.aa)) p.ai (-1) p.ag p.half p.full)=true from h2]
  rfl
theorem OH (hp:aA p) {b:Int} (hb:b≤2∨b>64):t3 p b=true∧T3 p b=true:=by
 obtain ⟨a1,a2⟩:=yt hp
 obtain ⟨b1,b2⟩:=B8 hp
 unfold t3 T3
 by_cases h1:b<1
 ·obtain ⟨c1,c2⟩:=sV (p:=p) (.inl h1)
  rw [decide_eq_true h1,c1,c2]
  exact ⟨rfl,rfl⟩
 ·by_cases h64:b>64
  ·obtain ⟨c1,c2⟩:=sV (p:=p) (.inr h64)
   rw [decide_eq_false h1,decide_eq_true h64,c1,c2]
   exact ⟨rfl,rfl⟩
  ·have hb':b=1∨b=2:=by omega
   obtain ⟨c1,c2⟩:=Gp hp hb'
   have hl:=kg hp
   rw [decide_eq_false h1,decide_eq_false h64,c1,a1,a2,b1,b2]
   have e29:j4 p=((vk p).1 != 0):=rfl
   have key:∀ l:M',(∀ m∈l,m∈b8 p)→l.length≤1000000→N9 p b=(l,l.map (share p b),0)→m3 p b l=true∧M3 p b l=true:=by
    intro l h2 h3 h4
    obtain ⟨s1,s2⟩:=Gb l h3
    obtain ⟨r,e,hr⟩:=Uv hp hb' (vk p).1 (vk p).2 l h2 h3
    unfold m3 M3
    rw [h4,a2,s1,s2,e,Option.getD_some,hr,List.length_map,show (Int.ofNat l.length != Int.ofNat l.length)=false by simp]
    exact ⟨rfl,rfl⟩
   cases h0:(vk p).1==0 with
   | true =>
    have k:=key (ba p) (fun m hm=>jW hp hm) (by omega) (by rw [c2,e29,bne,h0];rfl)
    rw [k.1]
    exact ⟨rfl,k.2⟩
   | false =>
    have k:=key [] (fun m hm=>by cases hm) (by decide) (by rw [c2,e29,bne,h0];rfl)
    exact ⟨k.1,k.2⟩
theorem Nu (hp:aA p) (b:Int):ok3 p b=true∧N3 p b=true:=by
 have n8:N8=true:=rfl
 have kw:=OR hp
 have key:b≤2∨b>64→y3 p b=true∧Y3 p b=true:=by
  intro hb
  obtain ⟨t1,t2⟩:=OH hp hb
  unfold y3 Y3
  rw [t1,t2,kw,n8]
  cases b==2<;>cases N7 p<;>exact ⟨rfl,rfl⟩
 unfold ok3 N3
 by_cases h:b>2
 ·by_cases h':b≤64
  ·rw [decide_eq_true h,decide_eq_true h'];exact ⟨rfl,rfl⟩
  ·obtain ⟨k1,k2⟩:=key (by omega)
   rw [decide_eq_true h,decide_eq_false h',k1,k2];exact ⟨rfl,rfl⟩
 ·obtain ⟨k1,k2⟩:=key (by omega)
  rw [decide_eq_false h,k1,k2];exact ⟨rfl,rfl⟩
end Kz
end
