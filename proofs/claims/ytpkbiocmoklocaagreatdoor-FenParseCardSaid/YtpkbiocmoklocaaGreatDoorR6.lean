/- Part 6 of the texts under the proof: an abstract interpreter,the summaries of functions,plain laws. -/
import Derived.Test.YtpkbiocmoklocaaGreatDoorR5
set_option linter.unusedSectionVars false
set_option linter.unusedVariables false
set_option linter.unusedSimpArgs false
set_option linter.unnecessarySimpa false
noncomputable section
namespace Kz
open Go Go.RowKit Go.Proofs
set_option maxRecDepth 100000
theorem Dv {p:Pos} (hp:aR p) {c:Int} (hc:c=0∨c=1) (f:Int):gk p c f=true:=by
 obtain ⟨a1,a2⟩:=mD hp hc
 unfold gk
 rw [a2]
 refine bN rfl fun _=>aQ (fun _=>rfl) fun hk => ?_
 have hk:=of_decide_eq_false hk
 generalize ju p c=k at a1 hk
 have h63:k≤63:=by
  rcases a1 with ⟨h,_⟩ | ⟨_,h,_⟩ <;> omega
 have ht:=dk xh (show 0≤k by omega) (show k < ((64:Nat):Int) by show k < (64:Int); omega)
 rw [show ((k.toNat:Nat):Int)=k by omega] at ht
 simp only [Bool.and_eq_true] at ht
 obtain ⟨⟨⟨⟨⟨_,_⟩,t903⟩,t12⟩,_⟩,_⟩:=ht
 rw [t903,t12]
 exact bN rfl fun _=>bN rfl fun _=>aQ (fun _=>rfl) fun _=>bN rfl fun _=>aQ (fun _=>rfl) fun _=>bN rfl fun _=>rfl
theorem Dq {p:Pos} (hp:aR p) {c:Int} (hc:c=0∨c=1) (d f:Int):fv p c d f=true:=by
 obtain ⟨a1,a2⟩:=ir hp hc
 unfold fv
 rw [a2]
 refine bN rfl fun _=>aQ (fun _=>rfl) fun _=>aQ (fun _=>rfl) fun _=>aQ (fun _=>rfl) fun hk => ?_
 have hk:=of_decide_eq_false hk
 generalize sY p c 6=k at a1 hk
 have h63:k≤63:=by
  rcases a1 with ⟨h,_⟩ | ⟨_,h,_⟩ <;> omega
 have ht:=dk xh (show 0≤k by omega) (show k < ((64:Nat):Int) by show k < (64:Int); omega)
 rw [show ((k.toNat:Nat):Int)=k by omega] at ht
 simp only [Bool.and_eq_true] at ht
 obtain ⟨⟨⟨⟨⟨_,_⟩,_⟩,_⟩,t32⟩,t34⟩:=ht
 rw [t32,t34]
 exact bN rfl fun _=>aQ (fun _=>rfl) fun _=>aQ (fun _=>rfl) fun _=>rfl
theorem pF {p:Pos} {c d f:Int} (h:fR p c d f=true):0≤f∧f≤7:=by
 unfold fR at h
 by_cases h0:f < 0
 ·rw [decide_eq_true h0,cond_true] at h; cases h
 ·by_cases h7:f > 7
  ·rw [decide_eq_false h0,cond_false,decide_eq_true h7,cond_true] at h; cases h
  ·omega
def CO (p:Pos) (s:Nat):Prop:=if cK p s=0 then bQ p.aa s=false else pX (cK p s)=true
theorem Xa (a:BitVec 64) (s:Nat):(a >>> s&&&1#64==0#64)=!bQ a s:=by
 unfold bQ
 have hm:a >>> s&&&1#64=a >>> s % 2#64:=by
  apply BitVec.eq_of_toNat_eq
  simp [BitVec.toNat_umod,Nat.and_one_is_mod]
 rw [hm]
 have h2:(a >>> s % 2#64).toNat < 2:=by
  rw [BitVec.toNat_umod]
  exact Nat.mod_lt _ (by decide)
 generalize a >>> s % 2#64=y at h2
 have:y=0#64∨y=1#64:=by
  have h01:y.toNat=0∨y.toNat=1:=by omega
  rcases h01 with h | h
  ·exact .inl (BitVec.eq_of_toNat_eq h)
  ·exact .inr (BitVec.eq_of_toNat_eq h)
 rcases this with rfl | rfl <;> rfl
theorem Lp {p:Pos} (hp:aR p) (b:Bool):∃ r,ba p.ag p (b,0)=some r∧(r.1=true ↔ b=true∧∀ s:Nat,s < 64→CO p s):=by
 refine bZ (I:=fun x=>0≤x.2∧x.2≤64∧(x.1=true ↔ b=true∧∀ s:Nat,(s:Int) < x.2→CO p s)) (μ:=fun x=>(64 - x.2).toNat) ?_ _ ⟨by simp,by simp,⟨fun h=>⟨h,fun t ht=>absurd ht (by dsimp only; omega)⟩,fun h=>h.1⟩⟩ (by simp)
 rintro ⟨o,s⟩ ⟨g0,g1,g2⟩
 simp only at g0 g1 g2
 unfold A6 Hy
 dsimp only
 by_cases hs:s < 64
 ·have hv:=mV hp s
  have hl:=qD hv.1 hv.2
  have w1:wr .i64 (s+1)=s+1:=bD (by omega) (by omega)
  have d1:decide (s < 64)=true:=decide_eq_true hs
  have d2:decide (0≤s)=true:=decide_eq_true g0
  have d3:decide (s < Int.ofNat 64)=true:=decide_eq_true hs
  have e20:yL (p.ag.getD s.toNat 0)=pX (cK p s):=hl.2.2.2
  have e0:p.ag.getD s.toNat 0=cK p s:=rfl
  have ecs:((s.toNat:Nat):Int)=s:=by omega
  rw [e20,Xa,w1,d1,d2,d3,e0]
  simp only [cond_true,Bool.true_and,Bool.and_true,Bool.cond_self,true_and]
  have key:∀ o':Bool,(o'=true ↔ o=true∧CO p s.toNat)→ni (fun x:Bool×Int=>0≤x.2∧x.2≤64∧(x.1=true ↔ b=true∧∀ s:Nat,(s:Int) < x.2→CO p s)) (fun r:Bool×Int×Bool=>(r.1=true ↔ b=true∧∀ s:Nat,s < 64→CO p s)) (fun x=>(64 - x.2).toNat) (64 - s).toNat (aF.go (o',s+1)):=by
   intro o' ho
   refine ⟨⟨by dsimp only; omega,by dsimp only; omega,?_⟩,by dsimp only; omega⟩
   dsimp only
   rw [ho,g2]
   constructor
   ·rintro ⟨⟨h1,h2⟩,h3⟩
    refine ⟨h1,fun t ht => ?_⟩
    by_cases hts:t=s.toNat
    ·rw [hts]; exact h3
    ·exact h2 t (by omega)
   ·rintro ⟨h1,h2⟩
    exact ⟨⟨h1,fun t ht=>h2 t (by omega)⟩,h2 _ (by omega)⟩
  have n0:pX 0=false:=rfl
  cases ho:o with
  | false =>
   rw [ho] at key
   simp only [cond_false]
   exact key false (by simp)
  | true =>
   rw [ho] at key
   simp only [cond_true]
   by_cases hz:cK p s=0
   ·have hb:(cK p s==0)=true:=by rw [hz]; rfl
    rw [hb,cond_true]
    have hsq:CO p s.toNat ↔ bQ p.aa s.toNat=false:=by unfold CO; rw [ecs,if_pos hz]
    cases hbt:bQ p.aa s.toNat with
    | false=>exact key true (by rw [hsq,hbt]; simp)
    | true =>
     rw [hz,n0]
     exact key false (by rw [hsq,hbt]; simp)
   ·have hb:(cK p s==0)=false:=by simpa using hz
    rw [hb,cond_false]
    exact key _ (by unfold CO; rw [ecs,if_neg hz]; simp)
 ·have h64:s=64:=by omega
  subst h64
  refine ⟨rfl,?_⟩
  show o=true ↔ _
  rw [g2]
  exact and_congr Iff.rfl ⟨fun h t ht=>h t (by omega),fun h t ht=>h t (by omega)⟩
def mJ (p:Pos) (c d:Int):Prop:=p.ah.getD (2 * c+d).toNat 0 = -1∨fR p c d (p.ah.getD (2 * c+d).toNat 0)=true
theorem Lc {p:Pos} (hp:aR p) (i:Nat) : -128≤p.ah.getD i 0∧p.ah.getD i 0≤127:=by
 rw [List.getD_eq_getElem?_getD]
 cases h:p.ah[i]? with
 | none=>exact ⟨by decide,by decide⟩
 | some x=>exact hp.r0 x (List.mem_of_getElem? h)
theorem Uf {p:Pos} (hp:aR p) (m:Int) {c d:Int} (hc:c=0∨c=1) (hd:d=0∨d=1) (o:Bool):vy m c (List.take 2 (List.drop (scale 2 c).toNat p.ah)) p (o,d)=true∧∃ o',Ar m c (List.take 2 (List.drop (scale 2 c).toNat p.ah)) p (o,d)=aF.go (o',d+1)∧(o'=true ↔ o=true∧mJ p c d):=by
 have hg:(List.take 2 (List.drop (scale 2 c).toNat p.ah)).getD d.toNat 0=p.ah.getD (2 * c+d).toNat 0:=by
  rw [fQ _ _ _ _ _ (by rcases hd with rfl | rfl <;> decide),pJ]
  congr 1
  rcases hc with rfl | rfl <;> rcases hd with rfl | rfl <;> rfl
 have hv:=Lc hp (2 * c+d).toNat
 have h21:=Dv hp hc (p.ah.getD (2 * c+d).toNat 0)
 have hw:wr .i64 (p.ah.getD (2 * c+d).toNat 0)=p.ah.getD (2 * c+d).toNat 0:=bD (by omega) (by omega)
 have w1:wr .i64 (d+1)=d+1:=by rcases hd with rfl | rfl <;> rfl
 have d1:decide (d < 2)=true:=by rcases hd with rfl | rfl <;> rfl
 have d2:decide (0≤d)=true:=by rcases hd with rfl | rfl <;> rfl
 have d3:decide (d < Int.ofNat 2)=true:=by rcases hd with rfl | rfl <;> rfl
 unfold vy Ar mJ
 dsimp only
 rw [hg,hw,h21,w1,d1,d2,d3]
 have hse:∀ h0:0≤p.ah.getD (2 * c+d).toNat 0,∀ h1:p.ah.getD (2 * c+d).toNat 0≤7,_:=fun h0 h1=>(I4 hp hc hd h0 h1).2.2
 generalize p.ah.getD (2 * c+d).toNat 0=v at hse
 simp only [cond_true,Bool.true_and,Bool.and_true,Bool.cond_self,true_and]
 by_cases hm:v = -1
 ·rw [hm]
  exact ⟨o,rfl,by simp⟩
 ·have hb:(v == -1)=false:=by simpa using hm
  rw [hb,cond_false]
  cases o with
  | false=>exact ⟨false,rfl,by simp⟩
  | true =>
   rw [cond_true]
   by_cases h0:v ≥ 0
   ·rw [decide_eq_true h0,cond_true]
    by_cases h7:v≤7
    ·rw [decide_eq_true h7,cond_true]
     have:=hse h0 h7
     cases h2:(ed p c v).2 with
     | true =>
      rw [h2,cond_true] at this
      rw [cond_true]
      exact ⟨_,rfl,by rw [this]; simp [hm]⟩
     | false =>
      rw [h2,cond_false] at this
      rw [cond_false]
      exact ⟨false,rfl,by rw [← this]; simp [hm]⟩
    ·rw [decide_eq_false h7,cond_false]
     refine ⟨false,rfl,?_⟩
     constructor
     ·intro h; cases h
     ·rintro ⟨_,h | h⟩
      ·exact absurd h hm
      ·exact absurd (pF h).2 h7
   ·rw [decide_eq_false h0,cond_false]
    refine ⟨false,rfl,?_⟩
    constructor
    ·intro h; cases h
    ·rintro ⟨_,h | h⟩
     ·exact absurd h hm
     ·exact absurd (pF h).1 h0
theorem Xr {p:Pos} (hp:aR p) (m:Int) {c:Int} (hc:c=0∨c=1) (b:Bool):∃ r,j9 m c (List.take 2 (List.drop (scale 2 c).toNat p.ah)) p (b,0)=some r∧(r.1=true ↔ b=true∧mJ p c 0∧mJ p c 1):=by
 refine bZ (I:=fun x=>(x.2=0∧x.1=b)∨(x.2=1∧(x.1=true ↔ b=true∧mJ p c 0))∨(x.2=2∧(x.1=true ↔ b=true∧mJ p c 0∧mJ p c 1))) (μ:=fun x=>(2 - x.2).toNat) ?_ _ (.inl ⟨rfl,rfl⟩) (by simp)
 rintro ⟨o,d⟩ h
 simp only at h
 rcases h with ⟨rfl,rfl⟩ | ⟨rfl,h⟩ | ⟨rfl,h⟩
 ·obtain ⟨a,o',e,f⟩:=Uf hp m hc (.inl rfl) o
  rw [a,e]
  exact ⟨rfl,.inr (.inl ⟨rfl,f⟩),by simp⟩
 ·obtain ⟨a,o',e,f⟩:=Uf hp m hc (.inr rfl) o
  rw [a,e]
  exact ⟨rfl,.inr (.inr ⟨rfl,by dsimp only; rw [f,h,and_assoc]⟩),by simp⟩
 ·exact ⟨rfl,h⟩
def C8 (p:Pos) (m c:Int):Prop:=p.ab.getD c.toNat 0≤m∧p.ae.getD (6 * c).toNat 0=0∧mJ p c 0∧mJ p c 1
theorem Tp {p:Pos} (hp:aR p) (m:Int) {c:Int} (hc:c=0∨c=1) (o:Bool):vS m p (o,c)=true∧∃ o',zF m p (o,c)=aF.go (o',c+1)∧(o'=true ↔ o=true∧C8 p m c):=by
 have w1:wr .u8 (c+1)=c+1:=by rcases hc with rfl | rfl <;> rfl
 have d1:decide (c≤1)=true:=by rcases hc with rfl | rfl <;> rfl
 have d2:decide (0≤c)=true:=by rcases hc with rfl | rfl <;> rfl
 have d3:decide (c < Int.ofNat 2)=true:=by rcases hc with rfl | rfl <;> rfl
 have e6:(scale 6 c+scale 1 (Int.ofNat 0)).toNat=(6 * c).toNat:=by rcases hc with rfl | rfl <;> rfl
 have l2:=fun b=>b9 (Xr hp m hc b)
 unfold vS zF C8
 dsimp only
 rw [e6,eO,w1,d1,d2,d3]
 simp only [(l2 _).1,cond_true,Bool.true_and,Bool.and_true,Bool.cond_self,true_and]
 cases o with
 | false =>
  rw [cond_false]
  exact ⟨_,rfl,by rw [(l2 false).2]; simp⟩
 | true =>
  rw [cond_true]
  by_cases hk:p.ab.getD c.toNat 0≤m
  ·rw [decide_eq_true hk,cond_true]
   exact ⟨_,rfl,by rw [(l2 _).2,beq_iff_eq]; exact ⟨fun ⟨h1,h2,h3⟩=>⟨rfl,hk,h1,h2,h3⟩,fun ⟨_,_,h1,h2,h3⟩=>⟨h1,h2,h3⟩⟩⟩
  ·rw [decide_eq_false hk,cond_false]
   exact ⟨_,rfl,by rw [(l2 false).2]; exact ⟨fun h=>(by cases h.1),fun h=>absurd h.2.1 hk⟩⟩
theorem Ri {p:Pos} (hp:aR p) (m:Int) (b:Bool):∃ r,bE m p (b,0)=some r∧(r.1=true ↔ b=true∧C8 p m 0∧C8 p m 1):=by
 refine bZ (I:=fun x=>(x.2=0∧x.1=b)∨(x.2=1∧(x.1=true ↔ b=true∧C8 p m 0))∨(x.2=2∧(x.1=true ↔ b=true∧C8 p m 0∧C8 p m 1))) (μ:=fun x=>(2 - x.2).toNat) ?_ _ (.inl ⟨rfl,rfl⟩) (by simp)
 rintro ⟨o,d⟩ h
 simp only at h
 rcases h with ⟨rfl,rfl⟩ | ⟨rfl,h⟩ | ⟨rfl,h⟩
 ·obtain ⟨a,o',e,f⟩:=Tp hp m (.inl rfl) o
  rw [a,e]
  exact ⟨rfl,.inr (.inl ⟨rfl,f⟩),by simp⟩
 ·obtain ⟨a,o',e,f⟩:=Tp hp m (.inr rfl) o
  rw [a,e]
  exact ⟨rfl,.inr (.inr ⟨rfl,by dsimp only; rw [f,h,and_assoc]⟩),by simp⟩
 ·exact ⟨rfl,h⟩
def Ux (p:Pos) (m:Int):Prop:=(∀ s:Nat,s < 64→CO p s)∧C8 p m 0∧C8 p m 1
open Classical in
def Gz (p:Pos) (m:Int):Bool:=decide (Ux p m)
theorem qV {p:Pos} {m:Int}:Gz p m=true ↔ Ux p m:=by
 unfold Gz
 exact @decide_eq_true_iff _ (Classical.propDecidable _)
theorem OT {p:Pos} (hp:aR p) (b:Bool) (m:Int):((bE m p (((ba p.ag p (b,0)).getD default).fst,0)).getD default).fst=(b&&Gz p m):=by
 have h1:=b9 (Lp hp b)
 have h2:=b9 (Ri hp m ((ba p.ag p (b,0)).getD default).fst)
 have h3:=h2.2
 rw [h1.2] at h3
 rw [Bool.eq_iff_iff,h3,Bool.and_eq_true]
 rw [qV]
 unfold Ux
 rw [and_assoc]
theorem Bz {p:Pos} (hp:aR p) (b:Bool) (m:Int):(ba p.ag p (b,0)).isSome=true∧(bE m p (((ba p.ag p (b,0)).getD default).fst,0)).isSome=true :=
 ⟨(b9 (Lp hp b)).1,(b9 (Ri hp m _)).1⟩
theorem Ry:(List.range 256).all (fun n=>sI (n:Int)&&(ql (n:Int)==(n==2)))=true:=by kernel_rfl
theorem gi {v:Int} (h0:0≤v) (h1:v≤255):sI v=true∧ql v=(v==2):=by
 have h:=dk Ry h0 (show v < ((256:Nat):Int) by show v < (256:Int); omega)
 rw [show ((v.toNat:Nat):Int)=v by omega] at h
 simp only [Bool.and_eq_true,beq_iff_eq] at h
 refine ⟨h.1,?_⟩
 rw [h.2]
 by_cases hv:v=2
 ·rw [hv]; rfl
 ·have e1:(v==2)=false:=by simpa using hv
  have e2:(v.toNat==2)=false:=by
   simp
   omega
  rw [e1,e2]
theorem IJ {p:Pos} (hp:aR p):JH p=(decide (p.variant < 9)&&(decide (p.ao≤1)&&(decide (p.af ≥ -1)&&(decide (p.af < 64)&&(decide ((if p.full < p.half then p.full else p.half) ≥ 0)&&(decide ((if p.full > p.half then p.full else p.half)≤10000)&&((ql p.variant || db BinOp.eql (p.ae==li [0,0,0,0,0,0,0,0,0,0,0,0]&&true))&&((ql p.variant || p.aa==0#64)&&(bif p.variant==5 then Gz p 3 else Gz p 0))))))))):=by
 unfold JH
 simp only [OT hp]
 generalize decide (p.variant < 9)=c1
 generalize decide (p.ao≤1)=c2
 generalize decide (p.af ≥ -1)=c3
 generalize decide (p.af < 64)=c4
 generalize decide ((if p.full < p.half then p.full else p.half) ≥ 0)=c5
 generalize decide ((if p.full > p.half then p.full else p.half)≤10000)=c6
 generalize ql p.variant=c7
 generalize db BinOp.eql (p.ae==li [0,0,0,0,0,0,0,0,0,0,0,0]&&true)=c8
 generalize (p.aa==0#64)=c9
 generalize (p.variant==5)=v5
 generalize Gz p 3=w3
 generalize Gz p 0=w0
 cases c1 <;> simp only [cond_false,cond_true,Bool.false_and,Bool.true_and,Bool.cond_self]
 cases c2 <;> simp only [cond_false,cond_true,Bool.false_and,Bool.true_and,Bool.cond_self]
 cases c3 <;> simp only [cond_false,cond_true,Bool.false_and,Bool.true_and,Bool.cond_self]
 cases c4 <;> simp only [cond_false,cond_true,Bool.false_and,Bool.true_and,Bool.cond_self]
 cases c5 <;> simp only [cond_false,cond_true,Bool.false_and,Bool.true_and,Bool.cond_self]
 cases c6 <;> simp only [cond_false,cond_true,Bool.false_and,Bool.true_and,Bool.cond_self]
 cases c7 <;> cases c8 <;> cases c9 <;> cases v5 <;> cases w3 <;> cases w0 <;> rfl
theorem Lh {p:Pos} (hp:aR p):G7 p=true:=by
 have h1:∀ b,(ba p.ag p (b,0)).isSome=true:=fun b=>(Bz hp b 0).1
 have h2:∀ b m,(bE m p (((ba p.ag p (b,0)).getD default).fst,0)).isSome=true:=fun b m=>(Bz hp b m).2
 unfold G7
 rw [(gi hp.v0 hp.v1).1]
 simp only [h1,h2,Bool.true_and,Bool.and_true,Bool.cond_self]
def nX (p:Pos) (s:Nat):Prop:=(cK p s≠0→pX (cK p s)=true)∧(bQ p.aa s=true→cK p s≠0∧p.variant=2)
theorem SW {p:Pos} (hp:aR p):∃ r,lY p 0=some r∧(bP r=false ↔ ∀ s:Nat,s < 64→nX p s):=by
 refine bZ (I:=fun x=>0≤x∧x≤64∧∀ s:Nat,(s:Int) < x→nX p s) (μ:=fun x=>(64 - x).toNat) ?_ _ ⟨by simp,by simp,fun t ht=>absurd ht (by omega)⟩ (by simp)
 rintro s ⟨g0,g1,g2⟩
 unfold Bh EM
 by_cases hs:s < 64
 ·have hb:=rO p.aa (s:=s) g0 (by omega)
  have w1:wr .i64 (s+1)=s+1:=bD (by omega) (by omega)
  have d1:decide (s < 64)=true:=decide_eq_true hs
  have d2:decide (0≤s)=true:=decide_eq_true g0
  have d3:decide (s < Int.ofNat 64)=true:=decide_eq_true hs
  have e0:p.ag.getD (scale 1 s).toNat 0=cK p s:=rfl
  have ecs:((s.toNat:Nat):Int)=s:=by omega
  have o36:∀ y,PZ y=true:=fun _=>rfl
  rw [e0,hb.1,hb.2,w1,d1,d2,d3]
  simp only [cond_true,Bool.true_and,Bool.and_true,Bool.cond_self,true_and]
  have go:nX p s.toNat→ni (fun x:Int=>0≤x∧x≤64∧∀ s:Nat,(s:Int) < x→nX p s) (fun r:Unit ⊕ (Int×Bool)=>(bP r=false ↔ ∀ s:Nat,s < 64→nX p s)) (fun x=>(64 - x).toNat) (64 - s).toNat (aF.go (s+1)):=by
   intro h
   refine ⟨⟨by omega,by omega,fun t ht => ?_⟩,by dsimp only; omega⟩
   by_cases hts:t=s.toNat
   ·rw [hts]; exact h
   ·exact g2 t (by omega)
  have out:¬ nX p s.toNat→ni (fun x:Int=>0≤x∧x≤64∧∀ s:Nat,(s:Int) < x→nX p s) (fun r:Unit ⊕ (Int×Bool)=>(bP r=false ↔ ∀ s:Nat,s < 64→nX p s)) (fun x=>(64 - x).toNat) (64 - s).toNat (aF.out (.inl ())):=by
   intro h
   exact ⟨fun e=>(by cases e),fun e=>absurd (e _ (by omega)) h⟩
  unfold nX at go out
  rw [ecs] at go out
  by_cases hx:cK p s=0
  ·have b1:(cK p s != 0)=false:=by rw [hx]; rfl
   have b2:(cK p s==0)=true:=by rw [hx]; rfl
   rw [b1,b2]
   simp only [cond_false,cond_true]
   cases hbt:bQ p.aa s.toNat with
   | true=>exact out fun h=>(h.2 hbt).1 hx
   | false=>exact go ⟨fun h=>absurd hx h,fun h=>by rw [hbt] at h; cases h⟩
  ·have b1:(cK p s != 0)=true:=by simpa using hx
   have b2:(cK p s==0)=false:=by simpa using hx
   rw [b1,b2]
   simp only [cond_false,cond_true]
   cases hi:pX (cK p s) with
   | false=>exact out fun h=>by have:=h.1 hx; rw [hi] at this; cases this
   | true =>
    simp only [Bool.not_true,cond_false]
    cases hbt:bQ p.aa s.toNat with
    | false=>exact go ⟨fun _=>hi,fun h=>by rw [hbt] at h; cases h⟩
    | true =>
     simp only [cond_true]
     by_cases hv:p.variant=2
     ·have b3:(p.variant != 2)=false:=by rw [hv]; rfl
      rw [b3,cond_false]
      exact go ⟨fun _=>hi,fun _=>⟨hx,hv⟩⟩
     ·have b3:(p.variant != 2)=true:=by simpa using hv
      rw [b3,cond_true]
      exact out fun h=>hv (h.2 hbt).2
 ·have h64:s=64:=by omega
  subst h64
  exact ⟨rfl,fun _ t ht=>g2 t (by omega),fun _=>rfl⟩
def Fq (p:Pos) (c:Int):Prop := ∀ k:Nat,k < 6→p.ae.getD (6 * c+k).toNat 0 > 0→p.variant=2∧k≠0
theorem To {p:Pos} {c:Int} (hc:c=0∨c=1):∃ r,nh c p 0=some r∧(bP r=false ↔ Fq p c):=by
 refine bZ (I:=fun x=>0≤x∧x≤6∧∀ k:Nat,(k:Int) < x→p.ae.getD (6 * c+k).toNat 0 > 0→p.variant=2∧k≠0) (μ:=fun x=>(6 - x).toNat) ?_ _ ⟨by simp,by simp,fun t ht=>absurd ht (by omega)⟩ (by simp)
 rintro k ⟨g0,g1,g2⟩
 unfold AO Er
 by_cases hk:k < 6
 ·have w1:wr .i64 (k+1)=k+1:=bD (by omega) (by omega)
  have d1:decide (k < 6)=true:=decide_eq_true hk
  have d2:decide (0≤k)=true:=decide_eq_true g0
  have d3:decide (k < Int.ofNat 6)=true:=decide_eq_true hk
  have d4:decide (0≤c)=true:=by rcases hc with rfl | rfl <;> rfl
  have d5:decide (c < Int.ofNat 2)=true:=by rcases hc with rfl | rfl <;> rfl
  have ecs:((k.toNat:Nat):Int)=k:=by omega
  have e6:scale 6 c+scale 1 k=6 * c+k:=by rw [sF,eO]; omega
  rw [e6,w1,d1,d2,d3,d4,d5]
  simp only [cond_true,Bool.true_and,Bool.and_true,true_and]
  have go:(p.ae.getD (6 * c+k).toNat 0 > 0→p.variant=2∧k≠0)→ni (fun x:Int=>0≤x∧x≤6∧∀ k:Nat,(k:Int) < x→p.ae.getD (6 * c+k).toNat 0 > 0→p.variant=2∧k≠0) (fun r:Unit ⊕ (Int×Bool)=>(bP r=false ↔ Fq p c)) (fun x=>(6 - x).toNat) (6 - k).toNat (aF.go (k+1)):=by
   intro h
   refine ⟨⟨by omega,by omega,fun t ht h2 => ?_⟩,by dsimp only; omega⟩
   by_cases hts:t=k.toNat
   ·rw [hts,ecs] at h2
    have:=h h2
    exact ⟨this.1,by rw [hts]; omega⟩
   ·exact g2 t (by omega) h2
  have out:¬ (p.ae.getD (6 * c+k).toNat 0 > 0→p.variant=2∧k≠0)→ni (fun x:Int=>0≤x∧x≤6∧∀ k:Nat,(k:Int) < x→p.ae.getD (6 * c+k).toNat 0 > 0→p.variant=2∧k≠0) (fun r:Unit ⊕ (Int×Bool)=>(bP r=false ↔ Fq p c)) (fun x=>(6 - x).toNat) (6 - k).toNat (aF.out (.inl ())):=by
   intro h
   refine ⟨fun e=>(by cases e),fun e=>absurd (fun h2 => ?_) h⟩
   have:=e k.toNat (by omega) (by rw [ecs]; exact h2)
   exact ⟨this.1,by omega⟩
  by_cases hq:p.ae.getD (6 * c+k).toNat 0 > 0
  ·rw [decide_eq_true hq,cond_true]
   by_cases hv:p.variant=2
   ·have b3:(p.variant != 2)=false:=by rw [hv]; rfl
    rw [b3,cond_false]
    by_cases hk0:k=0
    ·have b4:(k==0)=true:=by rw [hk0]; rfl
     rw [b4,cond_true]
     exact out fun h=>(h hq).2 hk0
    ·have b4:(k==0)=false:=by simpa using hk0
     rw [b4,cond_false]
     exact go fun _=>⟨hv,hk0⟩
   ·have b3:(p.variant != 2)=true:=by simpa using hv
    rw [b3,cond_true]
    exact out fun h=>hv (h hq).1
  ·rw [decide_eq_false hq,cond_false]
   exact go fun h=>absurd h hq
 ·have h6:k=6:=by omega
  subst h6
  exact ⟨rfl,fun _ t ht=>g2 t (by omega),fun _=>rfl⟩
theorem Rp {p:Pos} (hp:aR p) {c:Int} (hc:c=0∨c=1):∃ r,hH c p 0=some r∧(bP r=false ↔ mJ p c 0∧mJ p c 1):=by
 have w8:wr .u8 c=c:=by rcases hc with rfl | rfl <;> rfl
 have d4:decide (0≤c)=true:=by rcases hc with rfl | rfl <;> rfl
 have d5:decide (c < Int.ofNat 2)=true:=by rcases hc with rfl | rfl <;> rfl
 have one:∀ d:Int,(d=0∨d=1)→vg c p d=true∧((mJ p c d∧vf c p d=aF.go (d+1))∨(¬ mJ p c d∧vf c p d=aF.out (.inl ()))):=by
  intro d hd
  have hv:=Lc hp (2 * c+d).toNat
  have o38:=Dq hp hc d (p.ah.getD (2 * c+d).toNat 0)
  have e2:scale 2 c+scale 1 d=2 * c+d:=by rw [pJ,eO]; omega
  have hw:wr .i64 (p.ah.getD (2 * c+d).toNat 0)=p.ah.getD (2 * c+d).toNat 0:=bD (by omega) (by omega)
  have w1:wr .i64 (d+1)=d+1:=by rcases hd with rfl | rfl <;> rfl
  have d1:decide (d < 2)=true:=by rcases hd with rfl | rfl <;> rfl
  have d2:decide (0≤d)=true:=by rcases hd with rfl | rfl <;> rfl
  have d3:decide (d < Int.ofNat 2)=true:=by rcases hd with rfl | rfl <;> rfl
  unfold vg vf mJ
  rw [e2,hw,w8,o38,w1,d1,d2,d3,d4,d5]
  generalize p.ah.getD (2 * c+d).toNat 0=v
  simp only [cond_true,Bool.true_and,Bool.and_true,Bool.cond_self,true_and]
  by_cases hm:v = -1
  ·have b1:(v != -1)=false:=by rw [hm]; rfl
   rw [b1,cond_false]
   exact .inl ⟨.inl hm,rfl⟩
  ·have b1:(v != -1)=true:=by simpa using hm
   rw [b1,cond_true]
   cases h:fR p c d v with
   | true=>exact .inl ⟨.inr rfl,rfl⟩
   | false=>exact .inr ⟨fun e=>e.elim hm (fun e=>(by cases e)),rfl⟩
 refine bZ (I:=fun x=>x=0∨(x=1∧mJ p c 0)∨(x=2∧mJ p c 0∧mJ p c 1)) (μ:=fun x=>(2 - x).toNat) ?_ _ (.inl rfl) (by simp)
 intro d h
 rcases h with rfl | ⟨rfl,h⟩ | ⟨rfl,h⟩
 ·obtain ⟨a,b⟩:=one 0 (.inl rfl)
  refine ⟨a,?_⟩
  rcases b with ⟨b,e⟩ | ⟨b,e⟩ <;> rw [e]
  ·exact ⟨.inr (.inl ⟨rfl,b⟩),by simp⟩
  ·exact ⟨fun e=>(by cases e),fun e=>absurd e.1 b⟩
 ·obtain ⟨a,b⟩:=one 1 (.inr rfl)
  refine ⟨a,?_⟩
  rcases b with ⟨b,e⟩ | ⟨b,e⟩ <;> rw [e]
  ·exact ⟨.inr (.inr ⟨rfl,h,b⟩),by simp⟩
  ·exact ⟨fun e=>(by cases e),fun e=>absurd e.2 b⟩
 ·exact ⟨rfl,fun _=>h,fun _=>rfl⟩
def kH (p:Pos) (c:Int):Prop:=Fq p c∧p.ab.getD c.toNat 0≤3∧(p.ab.getD c.toNat 0 > 0→p.variant=5)∧mJ p c 0∧mJ p c 1
theorem RJ {p:Pos} (hp:aR p):∃ r,ld p 0=some r∧(bP r=false ↔ kH p 0∧kH p 1):=by
 have one:∀ c:Int,(c=0∨c=1)→vZ p c=true∧((kH p c∧vj p c=aF.go (c+1))∨(¬ kH p c∧vj p c=aF.out (.inl ()))):=by
  intro c hc
  obtain ⟨a1,a2⟩:=b9 (To (p:=p) hc)
  obtain ⟨b1,b2⟩:=b9 (Rp hp hc)
  have w1:wr .i64 (c+1)=c+1:=by rcases hc with rfl | rfl <;> rfl
  have d1:decide (c < 2)=true:=by rcases hc with rfl | rfl <;> rfl
  have d2:decide (0≤c)=true:=by rcases hc with rfl | rfl <;> rfl
  have d3:decide (c < Int.ofNat 2)=true:=by rcases hc with rfl | rfl <;> rfl
  unfold vZ vj kH
  rw [a1,b1,w1,d1,d2,d3,eO]
  simp only [cond_true,Bool.true_and,Bool.and_true,Bool.cond_self,true_and]
  cases hA:bP ((nh c p 0).getD default) with
  | true =>
   rw [hA] at a2
   exact .inr ⟨fun h=>(by have:=a2.2 h.1; cases this),rfl⟩
  | false =>
   rw [hA] at a2
   have hpk:=a2.1 rfl
   rw [cond_false]
   by_cases h3:p.ab.getD c.toNat 0 > 3
   ·rw [decide_eq_true h3,cond_true]
    exact .inr ⟨fun h=>by have:=h.2.1; omega,rfl⟩
   ·rw [decide_eq_false h3,cond_false]
    have fin:(p.ab.getD c.toNat 0 > 0→p.variant=5)→((Fq p c∧p.ab.getD c.toNat 0≤3∧(p.ab.getD c.toNat 0 > 0→p.variant=5)∧mJ p c 0∧mJ p c 1)∧(bif bP ((hH c p 0).getD default) then aF.out (.inl ()) else aF.go (c+1))=(aF.go (c+1):aF Int (Unit ⊕ (Int×Bool))))∨(¬ (Fq p c∧p.ab.getD c.toNat 0≤3∧(p.ab.getD c.toNat 0 > 0→p.variant=5)∧mJ p c 0∧mJ p c 1)∧(bif bP ((hH c p 0).getD default) then aF.out (.inl ()) else aF.go (c+1))=(aF.out (.inl ()):aF Int (Unit ⊕ (Int×Bool)))):=by
     intro hv
     cases hB:bP ((hH c p 0).getD default) with
     | true =>
      rw [hB] at b2
      exact .inr ⟨fun h=>(by have:=b2.2 h.2.2.2; cases this),rfl⟩
     | false =>
      rw [hB] at b2
      exact .inl ⟨⟨hpk,by omega,hv,b2.1 rfl⟩,rfl⟩
    by_cases h0:p.ab.getD c.toNat 0 > 0
    ·rw [decide_eq_true h0,cond_true]
     by_cases hv:p.variant=5
     ·have b3:(p.variant != 5)=false:=by rw [hv]; rfl
      rw [b3,cond_false]
      exact fin fun _=>hv
     ·have b3:(p.variant != 5)=true:=by simpa using hv
      rw [b3,cond_true]
      exact .inr ⟨fun h=>hv (h.2.2.1 h0),rfl⟩
    ·rw [decide_eq_false h0,cond_false]
     exact fin fun h=>absurd h h0
 refine bZ (I:=fun x=>x=0∨(x=1∧kH p 0)∨(x=2∧kH p 0∧kH p 1)) (μ:=fun x=>(2 - x).toNat) ?_ _ (.inl rfl) (by simp)
 intro d h
 rcases h with rfl | ⟨rfl,h⟩ | ⟨rfl,h⟩
 ·obtain ⟨a,b⟩:=one 0 (.inl rfl)
  refine ⟨a,?_⟩
  rcases b with ⟨b,e⟩ | ⟨b,e⟩ <;> rw [e]
  ·exact ⟨.inr (.inl ⟨rfl,b⟩),by simp⟩
  ·exact ⟨fun e=>(by cases e),fun e=>absurd e.1 b⟩
 ·obtain ⟨a,b⟩:=one 1 (.inr rfl)
  refine ⟨a,?_⟩
  rcases b with ⟨b,e⟩ | ⟨b,e⟩ <;> rw [e]
  ·exact ⟨.inr (.inr ⟨rfl,h,b⟩),by simp⟩
  ·exact ⟨fun e=>(by cases e),fun e=>absurd e.2 b⟩
 ·exact ⟨rfl,fun _=>h,fun _=>rfl⟩
def iP (p:Pos):Prop:=p.variant≤8∧p.ao≤1 ∧ -1≤p.af∧p.af≤63∧0≤p.half∧0≤p.full∧p.half≤10000∧p.full≤10000∧(∀ s:Nat,s < 64→nX p s)∧kH p 0∧kH p 1
theorem qu {p:Pos} (hp:aR p):(Mf p=true ↔ iP p)∧Fm p=true:=by
 obtain ⟨a1,a2⟩:=b9 (SW hp)
 obtain ⟨b1,b2⟩:=b9 (RJ hp)
 unfold Mf Fm iP
 rw [a1,b1]
 refine ⟨?_,?_⟩
 ·have step:∀ {q r:Prop} [Decidable q] {x:Bool},(x=true ↔ r)→((bif decide q then false else x)=true ↔ ¬ q∧r):=by
   intro q r _ x h
   by_cases hq:q
   ·rw [decide_eq_true hq,cond_true]
    exact ⟨fun e=>(by cases e),fun e=>absurd hq e.1⟩
   ·rw [decide_eq_false hq,cond_false,h]
    exact ⟨fun e=>⟨hq,e⟩,fun e=>e.2⟩
  have last:((bif bP ((lY p 0).getD default) then false else (bif bP ((ld p 0).getD default) then false else true))=true ↔ (∀ s:Nat,s < 64→nX p s)∧kH p 0∧kH p 1):=by
   rw [← a2,← b2]
   cases bP ((lY p 0).getD default) <;> cases bP ((ld p 0).getD default) <;> simp
  rw [step (step (step (step (step (step (step (step last)))))))]
  simp only [Int.not_lt]
 ·exact aQ (fun _=>rfl) fun _=>aQ (fun _=>rfl) fun _=>aQ (fun _=>rfl) fun _=>aQ (fun _=>rfl) fun _=>aQ (fun _=>rfl) fun _=>aQ (fun _=>rfl) fun _=>aQ (fun _=>rfl) fun _=>aQ (fun _=>rfl) fun _=>bN rfl fun _=>aQ (fun _=>rfl) fun _=>bN rfl fun _=>aQ (fun _=>rfl) fun _=>rfl
theorem CI {a:BitVec 64} (h:∀ s:Nat,s < 64→bQ a s=false):a=0#64:=by
 apply BitVec.eq_of_toNat_eq
 apply Nat.eq_of_testBit_eq
 intro i
 rw [show (0#64).toNat=0 from rfl,Nat.zero_testBit]
 by_cases hi:i < 64
 ·rw [← hI]
  exact h i hi
 ·exact Nat.testBit_lt_two_pow (Nat.lt_of_lt_of_le a.isLt (Nat.pow_le_pow_right (by decide) (by omega)))
theorem DV (s:Nat):bQ 0#64 s=false:=by
 rw [hI]
 exact Nat.zero_testBit s
theorem Jl {p:Pos} (hp:aR p):db BinOp.eql (p.ae==li [0,0,0,0,0,0,0,0,0,0,0,0]&&true)=true ↔ ∀ i:Nat,i < 12→p.ae.getD i 0=0:=by
 have e:db BinOp.eql (p.ae==li [0,0,0,0,0,0,0,0,0,0,0,0]&&true)=(p.ae==[0,0,0,0,0,0,0,0,0,0,0,0]):=by
  show (p.ae==li [0,0,0,0,0,0,0,0,0,0,0,0]&&true)=_
  rw [Bool.and_true]
 rw [e,beq_iff_eq]
 have hl:=hp.kl
 generalize p.ae=l at hl
 constructor
 ·rintro rfl i hi
  have:i=0∨i=1∨i=2∨i=3∨i=4∨i=5∨i=6∨i=7∨i=8∨i=9∨i=10∨i=11:=by omega
  rcases this with rfl | rfl | rfl | rfl | rfl | rfl | rfl | rfl | rfl | rfl | rfl | rfl <;> rfl
 ·intro h
  apply List.ext_getElem?
  intro i
  by_cases hi:i < 12
  ·have h1:=h i hi
   rw [List.getD_eq_getElem?_getD,List.getElem?_eq_getElem (by omega)] at h1
   have h2:([0,0,0,0,0,0,0,0,0,0,0,0]:List Int)[i]?=some 0:=by
    have:i=0∨i=1∨i=2∨i=3∨i=4∨i=5∨i=6∨i=7∨i=8∨i=9∨i=10∨i=11:=by omega
    rcases this with rfl | rfl | rfl | rfl | rfl | rfl | rfl | rfl | rfl | rfl | rfl | rfl <;> rfl
   rw [h2,List.getElem?_eq_getElem (by omega)]
   exact congrArg some h1
  ·rw [List.getElem?_eq_none (by omega),List.getElem?_eq_none (by simp; omega)]
theorem mP {p:Pos} (hp:aR p) (i:Nat):0≤p.ab.getD i 0∧p.ab.getD i 0≤255:=by
 rw [List.getD_eq_getElem?_getD]
 cases h:p.ab[i]? with
 | none=>exact ⟨Int.le_refl _,by decide⟩
 | some x=>exact hp.c0 x (List.mem_of_getElem? h)
theorem xw {p:Pos} (hp:aR p) (hv:p.variant≤8):(((ql p.variant || db BinOp.eql (p.ae==li [0,0,0,0,0,0,0,0,0,0,0,0]&&true))=true∧(ql p.variant || p.aa==0#64)=true)∧(bif p.variant==5 then Gz p 3 else Gz p 0)=true) ↔ ((∀ s:Nat,s < 64→nX p s)∧kH p 0∧kH p 1):=by
 have h19:=(gi hp.v0 hp.v1).2
 have c0:=mP hp (0:Int).toNat
 have c1:=mP hp (1:Int).toNat
 by_cases h2:p.variant=2
 ·have e2:(p.variant==2)=true:=by rw [h2]; rfl
  have e5:(p.variant==5)=false:=by rw [h2]; rfl
  rw [h19,e2,e5,cond_false,qV]
  simp only [Bool.true_or,and_self,true_and]
  have sq:∀ s,CO p s ↔ nX p s:=by
   intro s
   unfold CO nX
   by_cases hx:cK p s=0
   ·rw [if_pos hx]
    constructor
    ·intro h
     exact ⟨fun e=>absurd hx e,fun e=>by rw [h] at e; cases e⟩
    ·intro h
     cases hb:bQ p.aa s with
     | false=>rfl
     | true=>exact absurd hx (h.2 hb).1
   ·rw [if_neg hx]
    exact ⟨fun h=>⟨fun _=>h,fun _=>⟨hx,h2⟩⟩,fun h=>h.1 hx⟩
  have co:∀ c:Int,(c=0∨c=1)→(C8 p 0 c ↔ kH p c):=by
   intro c hc
   have hk:=oN hp (6 * c).toNat
   have hcc:0≤p.ab.getD c.toNat 0:=(mP hp c.toNat).1
   unfold C8 kH Fq
   constructor
   ·rintro ⟨a,b,r⟩
    refine ⟨fun k hk6 h=>⟨h2,fun k0 => ?_⟩,by omega,fun h=>by omega,r⟩
    subst k0
    rw [show 6 * c+((0:Nat):Int)=6 * c by omega,b] at h
    omega
   ·rintro ⟨a,b,d,r⟩
    refine ⟨?_,?_,r⟩
    ·by_cases h:p.ab.getD c.toNat 0 > 0
     ·have:=d h; omega
     ·omega
    ·by_cases h:p.ae.getD (6 * c).toNat 0 > 0
     ·exact absurd rfl (a 0 (by decide) (by rw [show 6 * c+((0:Nat):Int)=6 * c by omega]; exact h)).2
     ·omega
  unfold Ux
  rw [co 0 (.inl rfl),co 1 (.inr rfl)]
  exact and_congr ⟨fun h s hs=>(sq s).1 (h s hs),fun h s hs=>(sq s).2 (h s hs)⟩ Iff.rfl
 ·have e2:(p.variant==2)=false:=by simpa using h2
  rw [h19,e2,Bool.false_or,Bool.false_or,Jl hp,beq_iff_eq]
  have pz:(∀ i:Nat,i < 12→p.ae.getD i 0=0) ↔ Fq p 0∧Fq p 1:=by
   unfold Fq
   constructor
   ·intro h
    exact ⟨fun k hk e=>by rw [h _ (by omega)] at e; omega,fun k hk e=>by rw [h _ (by omega)] at e; omega⟩
   ·rintro ⟨a,b⟩ i hi
    have hk:=oN hp i
    by_cases qC:p.ae.getD i 0 > 0
    ·exfalso
     by_cases h6:i < 6
     ·exact h2 (a i h6 (by rw [show (6 * 0+(i:Int)).toNat=i by omega]; exact qC)).1
     ·exact h2 (b (i - 6) (by omega) (by rw [show (6 * 1+((i - 6:Nat):Int)).toNat=i by omega]; exact qC)).1
    ·omega
  have m5:∀ c:Int,(c=0∨c=1)→(∀ i:Nat,i < 12→p.ae.getD i 0=0)→Fq p c→((C8 p (if p.variant=5 then 3 else 0) c) ↔ kH p c):=by
   intro c hc hz hk
   have hcc:0≤p.ab.getD c.toNat 0:=(mP hp c.toNat).1
   have h0:p.ae.getD (6 * c).toNat 0=0:=hz _ (by rcases hc with rfl | rfl <;> decide)
   unfold C8 kH
   by_cases h5:p.variant=5
   ·rw [if_pos h5]
    exact ⟨fun ⟨a,_,r⟩=>⟨hk,a,fun _=>h5,r⟩,fun ⟨_,a,_,r⟩=>⟨a,h0,r⟩⟩
   ·rw [if_neg h5]
    refine ⟨fun ⟨a,_,r⟩=>⟨hk,by omega,fun h=>by omega,r⟩,fun ⟨_,a,d,r⟩=>⟨?_,h0,r⟩⟩
    by_cases h:p.ab.getD c.toNat 0 > 0
    ·exact absurd (d h) h5
    ·omega
  have wk:(bif p.variant==5 then Gz p 3 else Gz p 0)=true ↔ Ux p (if p.variant=5 then 3 else 0):=by
   by_cases h5:p.variant=5
   ·have e5:(p.variant==5)=true:=by rw [h5]; rfl
    rw [e5,if_pos h5,cond_true,qV]
   ·have e5:(p.variant==5)=false:=by simpa using h5
    rw [e5,if_neg h5,cond_false,qV]
  rw [wk]
  constructor
  ·rintro ⟨⟨hz,hpr⟩,hs,ha,hb⟩
   have hk:=pz.1 hz
   refine ⟨fun s hs64 => ?_,(m5 0 (.inl rfl) hz hk.1).1 ha,(m5 1 (.inr rfl) hz hk.2).1 hb⟩
   have:=hs s hs64
   unfold CO at this
   refine ⟨fun hx => ?_,fun hb => ?_⟩
   ·rw [if_neg hx] at this; exact this
   ·rw [hpr,DV] at hb; cases hb
  ·rintro ⟨hs,ha,hb⟩
   have hz:=pz.2 ⟨ha.1,hb.1⟩
   have hbit:∀ s:Nat,s < 64→bQ p.aa s=false:=fun s hs64=>by
    cases h:bQ p.aa s with
    | false=>rfl
    | true=>exact absurd ((hs s hs64).2 h).2 h2
   refine ⟨⟨hz,CI hbit⟩,fun s hs64 => ?_,(m5 0 (.inl rfl) hz ha.1).2 ha,(m5 1 (.inr rfl) hz hb.1).2 hb⟩
   unfold CO
   by_cases hx:cK p s=0
   ·rw [if_pos hx]; exact hbit s hs64
   ·rw [if_neg hx]; exact (hs s hs64).1 hx
theorem DC {p:Pos} (hp:aR p):JH p=true ↔ iP p:=by
 have hmin:(if p.full < p.half then p.full else p.half) ≥ 0 ↔ 0≤p.half∧0≤p.full:=by split <;> omega
 have hmax:(if p.full > p.half then p.full else p.half)≤10000 ↔ p.half≤10000∧p.full≤10000:=by split <;> omega
 rw [IJ hp]
 simp only [Bool.and_eq_true,decide_eq_true_eq,hmin,hmax]
 unfold iP
 constructor
 ·rintro ⟨a,b,c,d,⟨e1,e2⟩,⟨f1,f2⟩,g,h,i⟩
  exact ⟨by omega,b,by omega,by omega,e1,e2,f1,f2,(xw hp (by omega)).1 ⟨⟨g,h⟩,i⟩⟩
 ·rintro ⟨a,b,c,d,e1,e2,f1,f2,r⟩
  obtain ⟨⟨g,h⟩,i⟩:=(xw hp a).2 r
  exact ⟨by omega,b,by omega,by omega,⟨e1,e2⟩,⟨f1,f2⟩,g,h,i⟩
theorem AS {p:Pos} (hp:aR p) (h:iP p):Ch p:=by
 obtain ⟨_,_,_,_,_,_,_,_,_,⟨_,_,_,r00,r01⟩,⟨_,_,_,r10,r11⟩⟩:=h
 have one:∀ c d:Int,mJ p c d → -1≤p.ah.getD (2 * c+d).toNat 0∧p.ah.getD (2 * c+d).toNat 0≤7:=by
  intro c d h
  rcases h with h | h
  ·rw [h]; decide
  ·have:=pF h; omega
 have all:∀ i:Nat,-1≤p.ah.getD i 0∧p.ah.getD i 0≤7:=by
  intro i
  by_cases hi:i < 4
  ·have:i=0∨i=1∨i=2∨i=3:=by omega
   rcases this with rfl | rfl | rfl | rfl
   ·exact one 0 0 r00
   ·exact one 0 1 r01
   ·exact one 1 0 r10
   ·exact one 1 1 r11
  ·rw [List.getD_eq_getElem?_getD,List.getElem?_eq_none (by rw [hp.rl]; omega)]
   decide
 exact ⟨fun i=>(all i).1,fun i=>(all i).2⟩
def cV (p:Pos):List UInt8:=bif p.ao==0 then [119] else [98]
def cF (p:Pos):List UInt8:=bif decide (p.af < 0) then [45] else di p.af
def fO (p:Pos):List UInt8:=bif p.variant==5 then 43::(aK (p.ab.getD 0 0)++43::(aK (p.ab.getD 1 0)++[32])) else []
def cG (p:Pos):List UInt8:=gj p++32::(cV p++32::(iO (eP p)++32::(cF p++32::(fO p++(aK p.half++32::aK p.full)))))
def iJ (l:List UInt8):List UInt8:=bif decide (Int.ofNat l.length > 200) then [] else l
structure Mg (p:Pos):Prop where
 t:p.ao=0∨p.ao=1
 L8 : -1≤p.af
 M4:p.af≤63
 h0:0≤p.half
 h1:p.half≤10000
 f0:0≤p.full
 f1:p.full≤10000
 c0:0≤p.ab.getD 0 0∧p.ab.getD 0 0≤255
 c1:0≤p.ab.getD 1 0∧p.ab.getD 1 0≤255
theorem yF {p:Pos} (hp:aR p) (h:iP p):Mg p:=by
 obtain ⟨_,t,a,b,c,d,e,f,_⟩:=h
 have t0:=hp.t0
 exact ⟨by omega,a,b,c,e,d,f,mP hp 0,mP hp 1⟩
theorem Bx {p:Pos} (hq:Mg p):iO (H9 p.af)=cF p∧EO p.af=true∧sW p.af=true∧(cF p).length≤2:=by
 have a:=hq.L8
 have b:=hq.M4
 have h:=List.all_eq_true.1 RH _ (List.mem_range.2 (show (p.af+1).toNat < 65 by omega))
 have e:(((p.af+1).toNat:Nat):Int) - 1=p.af:=by omega
 rw [e] at h
 simp only [Bool.and_eq_true,beq_iff_eq,decide_eq_true_eq,Bool.or_eq_true,Bool.not_eq_true',beq_eq_false_iff_ne] at h
 obtain ⟨⟨⟨⟨⟨h1,h2⟩,h3⟩,h4⟩,h5⟩,h6⟩:=h
 refine ⟨?_,h2,h3,?_⟩
 ·rw [h1]
  unfold cF iO
  by_cases hn:p.af < 0
  ·have:di p.af=[]:=by
    rcases h5 with h5 | h5
    ·exact h5
    ·exact absurd (by omega) h5
   rw [decide_eq_true hn,cond_true,this]
   rfl
  ·have hne:di p.af≠[]:=by
    rcases h6 with h6 | h6
    ·omega
    ·exact h6
   have hb:(di p.af==(ByteArray.mk #[]).data.toList)=false:=by simpa using hne
   rw [decide_eq_false hn,cond_false,hb,cond_false]
 ·unfold cF
  cases decide (p.af < 0)
  ·exact h4
  ·show ([45]:List UInt8).length≤2
   decide
theorem SE {p:Pos} (hp:aR p) (h:iP p):wB p=iJ (cG p)∧yU p=true:=by
 have hq:=yF hp h
 have hr:=xk (AS hp h)
 have h6:=(DC hp).2 h
 obtain ⟨b1,b2,b3⟩:=NG hp (gi hp.v0 hp.v1).1
 obtain ⟨p1,p2,_,p4⟩:=Bx hq
 have w1:wr .i64 p.af=p.af:=bD (by have:=hq.L8; omega) (by have:=hq.M4; omega)
 have w2:wr .i64 (p.ab.getD 0 0)=p.ab.getD 0 0:=bD (by have:=hq.c0; omega) (by have:=hq.c0; omega)
 have w3:wr .i64 (p.ab.getD 1 0)=p.ab.getD 1 0:=bD (by have:=hq.c1; omega) (by have:=hq.c1; omega)
 have tt:List.drop p.ao.toNat (List.take (wr .u8 (p.ao+1)).toNat (ByteArray.mk #[119,98]).data.toList)=cV p:=by
  unfold cV
  rcases hq.t with e | e <;> rw [e] <;> rfl
 have td:(decide (0≤p.ao)&&decide (p.ao≤wr .u8 (p.ao+1))&&decide (wr .u8 (p.ao+1)≤Int.ofNat 2))=true:=by
  rcases hq.t with e | e <;> rw [e] <;> rfl
 have k1:=jG hq.h0 (by have:=hq.h1; omega)
 have k2:=jG hq.f0 (by have:=hq.f1; omega)
 have k3:=jG hq.c0.1 (by have:=hq.c0.2; omega)
 have k4:=jG hq.c1.1 (by have:=hq.c1.2; omega)
 have l1:=dp hq.h0 (by have:=hq.h1; omega)
 have l2:=dp hq.f0 (by have:=hq.f1; omega)
 have l3:=dp hq.c0.1 (by have:=hq.c0.2; omega)
 have l4:=dp hq.c1.1 (by have:=hq.c1.2; omega)
 have lt:(cV p).length=1:=by unfold cV; cases (p.ao==0) <;> rfl
 have Q9:(ByteArray.mk #[32]).data.toList=([32]:List UInt8):=rfl
 have Dx:(ByteArray.mk #[43]).data.toList=([43]:List UInt8):=rfl
 have lr:=hr.2.2.2.2
 unfold wB yU
 rw [Lh hp,h6,b1,b2,hr.1,hr.2.1,w1,w2,w3,tt,td,p1,p2,k1,k2,k3,k4,Q9,Dx]
 simp only [Bool.not_true,cond_false,Bool.true_and,Bool.and_true]
 unfold cG fO
 cases hv:(p.variant==5) with
 | true =>
  simp only [cond_true]
  have e:Lib.join ([gj p,cV p,iO (eP p),cF p]++[[43]++aK (p.ab.getD 0 0)++[43]++aK (p.ab.getD 1 0)]++[aK p.half,aK p.full]) [32]=gj p++32::(cV p++32::(iO (eP p)++32::(cF p++32::((43::(aK (p.ab.getD 0 0)++43::(aK (p.ab.getD 1 0)++[32])))++(aK p.half++32::aK p.full))))):=by
   simp only [List.cons_append,List.nil_append,Lib.join_cons,Lib.joinTail,List.map_cons,List.map_nil,List.flatten_cons,List.flatten_nil,List.append_assoc,List.append_nil]
  refine ⟨congrArg iJ e,?_⟩
  unfold ny
  rw [e]
  repeat' (first | with_reducible rfl | assumption | exact decide_eq_true (by omega) | exact decide_eq_true (by simp only [List.length_append,List.length_cons,List.length_nil]; omega) | exact decide_eq_true (Nat.le_trans (by omega) (show 100000≤tJ by decide)) | exact decide_eq_true (Nat.le_trans (by simp only [List.length_append,List.length_cons,List.length_nil]; omega) (show 100000≤tJ by decide)) | refine bN ?_ (fun _ => ?_))
 | false =>
  simp only [cond_false]
  have e:Lib.join ([gj p,cV p,iO (eP p),cF p]++[aK p.half,aK p.full]) [32]=gj p++32::(cV p++32::(iO (eP p)++32::(cF p++32::([]++(aK p.half++32::aK p.full))))):=by
   simp only [List.cons_append,List.nil_append,Lib.join_cons,Lib.joinTail,List.map_cons,List.map_nil,List.flatten_cons,List.flatten_nil,List.append_assoc,List.append_nil]
  refine ⟨congrArg iJ e,?_⟩
  unfold ny
  rw [e]
  repeat' (first | with_reducible rfl | assumption | exact decide_eq_true (by omega) | exact decide_eq_true (by simp only [List.length_append,List.length_cons,List.length_nil]; omega) | exact decide_eq_true (Nat.le_trans (by omega) (show 100000≤tJ by decide)) | exact decide_eq_true (Nat.le_trans (by simp only [List.length_append,List.length_cons,List.length_nil]; omega) (show 100000≤tJ by decide)) | refine bN ?_ (fun _ => ?_))
end Kz
end
noncomputable section
namespace Kz
open Go Go.RowKit Go.Proofs
set_option maxRecDepth 100000
set_option maxHeartbeats 0
theorem Rj {p:Pos} (hp:aR p) (h:iP p):jL p=iJ (cG p)∧eR p=true:=by
 have hq:=yF hp h
 have hr:=xk (AS hp h)
 have h13:=(qu hp).1.2 h
 have Gl:=(qu hp).2
 have h19:=(gi hp.v0 hp.v1).2
 obtain ⟨_,_,p3,p4⟩:=Bx hq
 obtain ⟨x,ex,e1⟩:=WV hp
 have ex':au p ((ByteArray.mk #[]).data.toList,7)=some x:=ex
 obtain ⟨q1,q2,q3⟩:=NP hp
 have w1:wr .i64 p.af=p.af:=bD (by have:=hq.L8; omega) (by have:=hq.M4; omega)
 have w2:wr .i64 (p.ab.getD 0 0)=p.ab.getD 0 0:=bD (by have:=hq.c0; omega) (by have:=hq.c0; omega)
 have w3:wr .i64 (p.ab.getD 1 0)=p.ab.getD 1 0:=bD (by have:=hq.c1; omega) (by have:=hq.c1; omega)
 obtain ⟨n1,k1⟩:=pj hq.h0 (by have:=hq.h1; omega)
 obtain ⟨n2,k2⟩:=pj hq.f0 (by have:=hq.f1; omega)
 obtain ⟨n3,k3⟩:=pj hq.c0.1 (by have:=hq.c0.2; omega)
 obtain ⟨n4,k4⟩:=pj hq.c1.1 (by have:=hq.c1.2; omega)
 have l1:=dp hq.h0 (by have:=hq.h1; omega)
 have l2:=dp hq.f0 (by have:=hq.f1; omega)
 have l3:=dp hq.c0.1 (by have:=hq.c0.2; omega)
 have l4:=dp hq.c1.1 (by have:=hq.c1.2; omega)
 have s0:(ByteArray.mk #[]).data.toList=([]:List UInt8):=rfl
 have Q9:(ByteArray.mk #[32]).data.toList=([32]:List UInt8):=rfl
 have Dx:(ByteArray.mk #[43]).data.toList=([43]:List UInt8):=rfl
 have sw:(ByteArray.mk #[32,119,32]).data.toList=([32,119,32]:List UInt8):=rfl
 have sb:(ByteArray.mk #[32,98,32]).data.toList=([32,98,32]:List UInt8):=rfl
 have sd:(ByteArray.mk #[32,45,32]).data.toList=([32,45,32]:List UInt8):=rfl
 have lb:=zU hp 8
 obtain ⟨_,_,r3,r4,r5⟩:=hr
 have l17:decide (p.af < 0)=false→(di p.af).length≤2:=by
  intro e
  unfold cF at p4
  rw [e,cond_false] at p4
  exact p4
 unfold jL eR
 rw [ex',h13,Gl,q2,r3,r4,w1,w2,w3,p3,n1,n2,n3,n4,k1,k2,k3,k4,sw,sb,sd,Q9,Dx]
 simp only [Bool.not_true,cond_false,Bool.true_and,Bool.and_true,Option.getD_some,Option.isSome_some,e1]
 cases h2:(p.variant==2) <;> cases ht:(p.ao==0) <;> cases hz:decide (p.af < 0) <;> cases h5:(p.variant==5) <;> simp only [cond_true,cond_false] <;> (
  constructor
  ·refine congrArg iJ ?_
   unfold cG gj cV cF fO
   simp only [h19,h2,ht,hz,h5,q1,cond_true,cond_false,List.append_assoc,List.cons_append,List.nil_append]
  ·have lv:=l17
   rw [hz] at lv
   first | have lw:=lv rfl | skip
   repeat' (first | with_reducible refine bN ?_ (fun _ => ?_) | with_reducible assumption | with_reducible rfl | exact decide_eq_true (by omega) | exact decide_eq_true (by simp only [List.length_append,List.length_cons,List.length_nil]; omega) | exact decide_eq_true (Nat.le_trans (by omega) (show 100000≤tJ by decide)) | exact decide_eq_true (Nat.le_trans (by simp only [List.length_append,List.length_cons,List.length_nil]; omega) (show 100000≤tJ by decide))))
theorem oc {p:Pos} (hp:aR p):yU p=true∧(iP p→wB p=iJ (cG p))∧(¬ iP p→wB p=[]):=by
 by_cases h:iP p
 ·obtain ⟨a,b⟩:=SE hp h
  exact ⟨b,fun _=>a,fun h'=>absurd h h'⟩
 ·have h6:JH p=false:=by
   cases e:JH p with
   | false=>rfl
   | true=>exact absurd ((DC hp).1 e) h
  unfold wB yU
  rw [Lh hp,h6]
  exact ⟨rfl,fun h'=>absurd h' h,fun _=>rfl⟩
end Kz
end
noncomputable section
namespace Kz
open Go Go.RowKit Go.Proofs
set_option maxRecDepth 100000
set_option maxHeartbeats 4000000
def SZ:List (Nat×Nat×List (Nat×List Nat)):=[(117,12,[(0,[]),(1,[1]),(2,[1,2]),(3,[1,2,4]),(4,[1,2]),(5,[1,2]),(6,[0])])]
def OD:aT:=aA Pz (fun f i=>cJ f i SZ) [] [] []
theorem JJ:cr OD:=ar aq trivial trivial trivial
def EY (p1:Nat) (x:((List Int)×Int)):St:=St.mk (AV.any::AV.list (ET.i .u8) x.fst (Tk.own 1)::AV.int .u8 x.snd::(an 9 [])) (Hp.mk [] [p1,x.fst.length] [] 0 0 0)
def Gk (p1:Nat):((List Int)×Int×Bool)→Out:=fun y=>.exit 0 (St.mk (AV.any::AV.list (ET.i .u8) y.fst (Tk.own 1)::AV.int .u8 y.snd.fst::AV.any::AV.bool y.snd.snd::(an 7 [])) (Hp.mk [] [p1,y.fst.length] [] 0 0 0))
def Jz (p1:Nat) (x:((List Int)×Int)):aF ((List Int)×Int) (((List Int)×Int×Bool)):=(bif decide (x.snd≤6) then (aF.go (x.fst++[x.snd],wr .u8 (x.snd+1))) else (aF.out ((x.fst,x.snd,decide (x.snd≤6)))))
def GV (p1:Nat) (x:((List Int)×Int)):Bool:=(bif decide (x.snd≤6) then (x.fst.length==x.fst.length&&decide (x.fst.length+1≤1073741824)&&true) else true)
def uX (p1:Nat) (x:((List Int)×Int)):Option (((List Int)×Int×Bool)):=dh (fun x=>bif GV p1 x then Jz p1 x else .bad) many x
abbrev HO {α:Type} (k:Nat→((List Int)×Int)→α) (s:St):α:=k (tK s 0) ((tL (ET.i .u8) (tT s 1)),(tI (tT s 2)))
theorem QB (p1:Nat) (x:((List Int)×Int)) (r:((List Int)×Int×Bool)) (h:uX p1 x=some r):aD Pz (bz Pz 117 3) (EY p1 x) (Gk p1 r):=aD.jR (m:=12) (fn:=117) JJ (HO fun _ x=>some x) (fun o=>match o with | .exit 0 s=>some ((tL (ET.i .u8) (tT s 1)),(tI (tT s 2)),(tB (tT s 4))) | _=>none) (fun _=>rfl) (fun _=>by kernel_rfl) (fun _=>by kernel_rfl) (fun _=>by kernel_rfl) (fun _=>by kernel_rfl) many x r h
def GG (b:Code) (s:St):Tr Out:=HO (fun p1 x=>mX b (bz Pz 117 3) s (EY p1 x) (uX p1 x) (Gk p1)) s
theorem Ke:∀ b,bq Pz b (GG b):=fun _ _ _ h=>cw (QB _ _) h
def WN:aT:=aA Pz (fun f i=>cJ f i SZ) [] [(117,3,GG)] []
theorem S3:cr WN:=ar aq trivial ⟨Ke,trivial⟩ trivial
def Rv  : List Int:=(li [1,2,3,4,5,6])
def BI  : Bool:=((uX 0 ([],1)).isSome&&true)
theorem WK  (h:BI =true):PS Pz 117 [] ((dL (.i .u8)).res (Rv )):=bw (n:=14) S3 (by kernel_rfl) (by kernel_rfl) (by kernel_rfl) h
def IS:List AV→Tr AV:=g0  (gW BI ((dL (.i .u8)).res (Rv)))
theorem OP:Sound Pz 117 IS:=HJ (b6 WK)
def Xq:List (Nat×Nat×List (Nat×List Nat)):=[(86,31,[(0,[0]),(1,[0,4]),(2,[0,4,5]),(3,[0,4,5,10]),(4,[0,4,5]),(5,[0,4,5,13,14,15]),(6,(0::4::5::(rn 13 4 []))),(7,[0,4,5,7,13,14,15]),(8,[0,4,5,8,13,14,15]),(9,[0,4,5,8,13,14,15,25]),(10,[4]),(11,[0,4,5,13,14,15]),(12,[2,3])])]
def Uq:aT:=aA Pz (fun f i=>cJ f i Xq) [(41,Hw),(69,JD),(117,IS)] [] []
theorem NQ:cr Uq:=ar aq ⟨Ia,LJ,OP,trivial⟩ trivial trivial
def MY (p1:(List UInt8)) (p2:Int) (p3:Int) (x:(Int)):St:=St.mk (AV.str p1::(an 3 (AV.int .u8 p2::AV.int .u8 p3::(an 7 (AV.list (ET.i .u8) (li [1,2,3,4,5,6]) Tk.fresh::AV.int .i64 (Int.ofNat 6)::AV.int .i64 x::(an 15 [])))))) (Hp.mk [] [] [] 0 0 0)
def Ng (p1:(List UInt8)) (p2:Int) (p3:Int):(Int) ⊕ (Int×Bool)→Out
 | (.inl (y))=>.exit 0 (St.mk (an 4 (AV.int .u8 y::(an 26 []))) (Hp.mk [] [] [] 0 0 0))
 | (.inr (y))=>.exit 2 (St.mk (AV.str p1::(an 3 (AV.int .u8 p2::AV.int .u8 p3::(an 7 (AV.list (ET.i .u8) (li [1,2,3,4,5,6]) Tk.fresh::AV.int .i64 (Int.ofNat 6)::AV.int .i64 y.fst::AV.bool y.snd::(an 14 [])))))) (Hp.mk [] [] [] 0 0 0))
def FX (p1:(List UInt8)) (p2:Int) (p3:Int) (x:(Int)):aF (Int) ((Int) ⊕ (Int×Bool)):=(bif decide (x < Int.ofNat 6) then (bif qG (gX p3 ((li [1,2,3,4,5,6]).getD x.toNat default))==p1 then (aF.out (.inl ((gX p3 ((li [1,2,3,4,5,6]).getD x.toNat default))))) else (aF.go (wr .i64 (x+1)))) else (aF.out (.inr ((x,decide (x < Int.ofNat 6))))))
def AW (p1:(List UInt8)) (p2:Int) (p3:Int) (x:(Int)):Bool:=(bif decide (x < Int.ofNat 6) then (decide (0≤x)&&decide (x < Int.ofNat 6)&&(ph (gX p3 ((li [1,2,3,4,5,6]).getD x.toNat default))&&true)) else true)
def nc (p1:(List UInt8)) (p2:Int) (p3:Int) (x:(Int)):Option ((Int) ⊕ (Int×Bool)):=dh (fun x=>bif AW p1 p2 p3 x then FX p1 p2 p3 x else .bad) many x
abbrev MP {α:Type} (k:(List UInt8)→Int→Int→(Int)→α) (s:St):α:=k (tS (tT s 0)) (tI (tT s 4)) (tI (tT s 5)) ((tI (tT s 15)))
theorem T3 (p1:(List UInt8)) (p2:Int) (p3:Int) (x:(Int)) (r:(Int) ⊕ (Int×Bool)) (h:nc p1 p2 p3 x=some r):aD Pz (bz Pz 86 6) (MY p1 p2 p3 x) (Ng p1 p2 p3 r):=aD.jR (m:=12) (fn:=86) NQ (MP fun _ _ _ x=>some x) (fun o=>match o with | .exit 0 s=>some (.inl (tI (tT s 4))) | .exit 2 s=>some (.inr ((tI (tT s 15)),(tB (tT s 16)))) | _=>none) (fun r=>by cases r <;> rfl) (fun _=>by kernel_rfl) (fun _=>by kernel_rfl) (fun _=>by kernel_rfl) (fun _=>by kernel_rfl) many x r h
def Ex (b:Code) (s:St):Tr Out:=MP (fun p1 p2 p3 x=>I3 b (bz Pz 86 6) s (MY p1 p2 p3 x) (nc p1 p2 p3 x) (Ng p1 p2 p3)) s
theorem GI:∀ b,bq Pz b (Ex b):=fun _ _ _ h=>lK (T3 _ _ _ _) h
def RZ:aT:=aA Pz (fun f i=>cJ f i Xq) [(41,Hw),(69,JD),(117,IS)] [(86,6,Ex)] []
theorem PE:cr RZ:=ar aq ⟨Ia,LJ,OP,trivial⟩ ⟨GI,trivial⟩ trivial
def LX (p1:(List UInt8)) (p2:Int) (x:(Int)):St:=St.mk (AV.str p1::(an 3 (AV.int .u8 p2::AV.int .u8 x::(an 25 [])))) (Hp.mk [] [] [] 0 0 0)
def Ll (p1:(List UInt8)) (p2:Int):(Int)→Out:=fun y=>.exit 0 (St.mk (an 4 (AV.int .u8 y::(an 26 []))) (Hp.mk [] [] [] 0 0 0))
def Gp (p1:(List UInt8)) (p2:Int) (x:(Int)):aF (Int) ((Int)):=(bif decide (x≤1) then (bif bP ((nc p1 p2 x 0).getD default) then (aF.out ((gl ((nc p1 p2 x 0).getD default)))) else (aF.go (wr .u8 (x+1)))) else (aF.out ((p2))))
def A7 (p1:(List UInt8)) (p2:Int) (x:(Int)):Bool:=(bif decide (x≤1) then (BI&&((nc p1 p2 x 0).isSome&&bif bP ((nc p1 p2 x 0).getD default) then true else true)) else true)
def pD (p1:(List UInt8)) (p2:Int) (x:(Int)):Option ((Int)):=dh (fun x=>bif A7 p1 p2 x then Gp p1 p2 x else .bad) many x
abbrev NC {α:Type} (k:(List UInt8)→Int→(Int)→α) (s:St):α:=k (tS (tT s 0)) (tI (tT s 4)) ((tI (tT s 5)))
theorem Sj (p1:(List UInt8)) (p2:Int) (x:(Int)) (r:(Int)) (h:pD p1 p2 x=some r):aD Pz (bz Pz 86 3) (LX p1 p2 x) (Ll p1 p2 r):=aD.jR (m:=12) (fn:=86) PE (NC fun _ _ x=>some x) (fun o=>match o with | .exit 0 s=>some (tI (tT s 4)) | _=>none) (fun _=>rfl) (fun _=>by kernel_rfl) (fun _=>by kernel_rfl) (fun _=>by kernel_rfl) (fun _=>by kernel_rfl) many x r h
def Nh (b:Code) (s:St):Tr Out:=NC (fun p1 p2 x=>mX b (bz Pz 86 3) s (LX p1 p2 x) (pD p1 p2 x) (Ll p1 p2)) s
theorem PQ:∀ b,bq Pz b (Nh b):=fun _ _ _ h=>cw (Sj _ _ _) h
def ZL:aT:=aA Pz (fun f i=>cJ f i Xq) [(41,Hw),(69,JD),(117,IS)] [(86,6,Ex),(86,3,Nh)] []
theorem VR:cr ZL:=ar aq ⟨Ia,LJ,OP,trivial⟩ ⟨GI,PQ,trivial⟩ trivial
def fw (a:List UInt8):(Int×Bool):=(((pD a 0 0).getD default),((pD a 0 0).getD default != 0))
def sL (a:List UInt8):Bool:=((pD a 0 0).isSome&&true)
theorem ZJ (a:List UInt8) (h:sL a=true):PS Pz 86 [.str a] ((d2 (dI .u8) dB).res (fw a)):=bw (n:=14) VR (by kernel_rfl) (by kernel_rfl) (by kernel_rfl) h
def wQ:List AV→Tr AV:=g1 dS (fun a=>gW (sL a) ((d2 (dI .u8) dB).res (fw a)))
theorem xZ:Sound Pz 86 wQ:=bV fun a=>b6 (ZJ a)
def W2:List (Nat×Nat×List (Nat×List Nat)):=[(143,21,[(0,[0,1]),(1,[4])])]
def W8:aT:=aA Pz (fun f i=>cJ f i W2) [] [] []
theorem S2:cr W8:=ar aq trivial trivial trivial
def xG (a:List UInt8) (b:List UInt8):Bool:=(bif decide (Int.ofNat a.length ≥ Int.ofNat b.length) then (List.drop (wr .i64 (Int.ofNat a.length - Int.ofNat b.length)).toNat (List.take a.length a)==b) else (false))
def yA (a:List UInt8) (b:List UInt8):Bool:=(bif decide (Int.ofNat a.length ≥ Int.ofNat b.length) then (decide (0≤wr .i64 (Int.ofNat a.length - Int.ofNat b.length))&&decide (wr .i64 (Int.ofNat a.length - Int.ofNat b.length)≤Int.ofNat a.length)&&true) else true)
theorem VY (a:List UInt8) (b:List UInt8) (h:yA a b=true):PS Pz 143 [.str a,.str b] (dB.res (xG a b)):=bw (n:=14) S2 (by kernel_rfl) (by kernel_rfl) (by kernel_rfl) h
def RT:List AV→Tr AV:=g2 dS dS (fun a b=>gW (yA a b) (dB.res (xG a b)))
theorem WJ:Sound Pz 143 RT:=dw fun a b=>b6 (VY a b)
def Xc:List (Nat×Nat×List (Nat×List Nat)):=[(116,16,[(0,[0,1]),(1,[0,1,7]),(2,[4]),(3,[4])])]
def VP:aT:=aA Pz (fun f i=>cJ f i Xc) [(143,RT)] [] []
theorem Te:cr VP:=ar aq ⟨WJ,trivial⟩ trivial trivial
def D1 (a:List UInt8) (b:List UInt8):List UInt8:=(bif xG a b then (List.drop 0 (List.take (wr .i64 (Int.ofNat a.length - Int.ofNat b.length)).toNat a)) else (a))
def Bj (a:List UInt8) (b:List UInt8):Bool:=(yA a b&&(bif xG a b then (decide (0≤wr .i64 (Int.ofNat a.length - Int.ofNat b.length))&&decide (wr .i64 (Int.ofNat a.length - Int.ofNat b.length)≤Int.ofNat a.length)&&true) else true))
theorem WQ (a:List UInt8) (b:List UInt8) (h:Bj a b=true):PS Pz 116 [.str a,.str b] (dS.res (D1 a b)):=bw (n:=14) Te (by kernel_rfl) (by kernel_rfl) (by kernel_rfl) h
def Sz:List AV→Tr AV:=g2 dS dS (fun a b=>gW (Bj a b) (dS.res (D1 a b)))
theorem V1:Sound Pz 116 Sz:=dw fun a b=>b6 (WQ a b)
def YN:List (Nat×Nat×List (Nat×List Nat)):=[(84,8,[(0,[0,1]),(1,[4])])]
def Zb:aT:=aA Pz (fun f i=>cJ f i YN) [(116,Sz)] [] []
theorem Wb:cr Zb:=ar aq ⟨V1,trivial⟩ trivial trivial
def ey (a:List UInt8) (b:List UInt8):List UInt8:=(D1 a b)
def B0 (a:List UInt8) (b:List UInt8):Bool:=(Bj a b&&true)
theorem Zk (a:List UInt8) (b:List UInt8) (h:B0 a b=true):PS Pz 84 [.str a,.str b] (dS.res (ey a b)):=bw (n:=14) Wb (by kernel_rfl) (by kernel_rfl) (by kernel_rfl) h
def wM:List AV→Tr AV:=g2 dS dS (fun a b=>gW (B0 a b) (dS.res (ey a b)))
theorem xe:Sound Pz 84 wM:=dw fun a b=>b6 (Zk a b)
def Vj:List (Nat×Nat×List (Nat×List Nat)):=[(119,20,[(0,[0,1]),(1,[0,1,15]),(2,[4,5]),(3,[4,5])])]
def VH:aT:=aA Pz (fun f i=>cJ f i Vj) [] [] []
theorem Un:cr VH:=ar aq trivial trivial trivial
def CM (a:Int) (b:Int):(Int×Bool):=(bif decide ((if b < a then b else a) < 0) then ((0),(false)) else (bif decide ((if b > a then b else a) ≥ 8) then ((0),(false)) else ((wr .i64 (wr .i64 (8 * b)+a)),(true))))
def SV (a:Int) (b:Int):Bool:=true
theorem VI (a:Int) (b:Int) (h:SV a b=true):PS Pz 119 [.int .i64 a,.int .i64 b] ((d2 (dI .i64) dB).res (CM a b)):=bw (n:=14) Un (by kernel_rfl) (by kernel_rfl) (by kernel_rfl) h
def PM:List AV→Tr AV:=g2 (dI .i64) (dI .i64) (fun a b=>.ret ((d2 (dI .i64) dB).res (CM a b)))
theorem TW:Sound Pz 119 PM:=dw fun a b=>jA (VI a b rfl)
def XP:List (Nat×List (Nat×List Nat)):=[(88,[(0,(rn 1 31 [])),(1,(rn 1 8 (rn 10 22 []))),(2,(0::1::(rn 4 28 []))),(3,(1::2::3::(rn 5 27 []))),(4,(rn 0 4 (rn 5 7 (rn 13 19 [])))),(5,(rn 0 4 (rn 5 7 (rn 15 17 [])))),(6,(rn 0 4 (rn 7 5 (rn 13 19 [])))),(7,(rn 0 4 (rn 5 7 (rn 13 19 [])))),(8,(0::1::(rn 4 28 [])))])]
def NA:aT:=aA Pz (fun f i=>tu f i XP) [(119,PM)] [] []
theorem PN:cr NA:=ar aq ⟨TW,trivial⟩ trivial trivial
def GA (p1:(List UInt8)) (x:((List Int)×Int)):St:=St.mk (an 4 (AV.ptr 0 0::(an 7 (AV.ptr 1 0::(an 19 []))))) (Hp.mk [[AV.ints .i64 2 x.fst],[AV.itr p1 x.snd]] [] [] 0 0 0)
def Av (p1:(List UInt8)):((List Int)×Int)→Out:=fun y=>.exit 0 (St.mk (an 4 (AV.ptr 0 0::(an 7 (AV.ptr 1 0::AV.tuple [AV.aO false]::AV.aO false::(an 17 []))))) (Hp.mk [[AV.ints .i64 2 y.fst],[AV.itr p1 y.snd]] [] [] 0 0 0))
def zk (p1:(List UInt8)) (x:((List Int)×Int)):aF ((List Int)×Int) (((List Int)×Int)):=(bif decide (x.snd < Int.ofNat p1.length) then (aF.go (x.fst.set (scale 1 x.snd).toNat (wr .i64 (wr .i64 (az p1 x.snd) - (li [97,49]).getD x.snd.toNat 0)),x.snd+aE p1 x.snd)) else (aF.out ((x.fst,x.snd))))
def vi (p1:(List UInt8)) (x:((List Int)×Int)):Bool:=(bif decide (x.snd < Int.ofNat p1.length) then (decide (0≤x.snd)&&decide (x.snd < Int.ofNat 2)&&(decide (0≤x.snd)&&decide (x.snd < Int.ofNat 2)&&true)) else true)
def gh (p1:(List UInt8)) (x:((List Int)×Int)):Option (((List Int)×Int)):=dh (fun x=>bif vi p1 x then zk p1 x else .bad) many x
theorem S4 (p1:(List UInt8)) (x:((List Int)×Int)):lf NA 12 88 (bz Pz 88 5) (GA p1 x)=Tr.br (decide (x.snd < Int.ofNat p1.length)) (Tr.br (decide (0≤x.snd)&&decide (x.snd < Int.ofNat 2)) (Tr.br (decide (0≤x.snd)&&decide (x.snd < Int.ofNat 2)) (Tr.ret (Out.norm (St.mk (an 4 (AV.ptr 0 0::(an 7 (AV.ptr 1 0::(an 19 []))))) (Hp.mk [[AV.ints .i64 2 (x.fst.set (scale 1 x.snd).toNat (wr .i64 (wr .i64 (az p1 x.snd) - (li [97,49]).getD x.snd.toNat 0)))],[AV.itr p1 (x.snd+aE p1 x.snd)]] [] [] 0 0 0)))) Tr.fail) Tr.fail) (Tr.ret (Out.exit 0 (St.mk (an 4 (AV.ptr 0 0::(an 7 (AV.ptr 1 0::AV.tuple [AV.aO false]::AV.aO false::(an 17 []))))) (Hp.mk [[AV.ints .i64 2 x.fst],[AV.itr p1 x.snd]] [] [] 0 0 0)))):=by kernel_rfl
theorem Rn (p1:(List UInt8)) (x:((List Int)×Int)) (r:((List Int)×Int)) (h:gh p1 x=some r):aD Pz (bz Pz 88 5) (GA p1 x) (Av p1 r):=aD.H6 (S:=GA p1) (O:=Av p1) (ok:=vi p1) (st:=zk p1) PN (fun x=>pY (S4 p1 x) (bT (aG (aG (aB (dM (ay (ks:=(rn 0 4 (rn 5 7 (rn 13 19 [])))) (gs:=[]) (b:=true) rfl (by kernel_rfl)))))) (aB (jf rfl (ay (ks:=(rn 0 4 (rn 5 7 (rn 15 17 [])))) (gs:=[]) (b:=false) rfl (by kernel_rfl)))))) many x r h
def M7:Code→St→Tr Out:=gS Pz (fun s=>Av (kp (tH s 1 0)) ((gh (kp (tH s 1 0)) ((tN (tH s 0 0)),(nV (tH s 1 0)))).getD default))
theorem O3:∀ b,bq Pz b (M7 b):=cf
def X4:aT:=aA Pz (fun f i=>tu f i XP) [(119,PM)] [(88,5,M7)] []
theorem Wt:cr X4:=ar aq ⟨TW,trivial⟩ ⟨O3,trivial⟩ trivial
def Jn (a:List UInt8):(Int×Bool):=(bif Int.ofNat a.length != 2 then ((0),(false)) else (((CM (((gh a (li [0,0],0)).getD default).fst.getD 0 0) (((gh a (li [0,0],0)).getD default).fst.getD 1 0)).fst),((CM (((gh a (li [0,0],0)).getD default).fst.getD 0 0) (((gh a (li [0,0],0)).getD default).fst.getD 1 0)).snd)))
def Kt (a:List UInt8):Bool:=(bif Int.ofNat a.length != 2 then true else ((gh a (li [0,0],0)).isSome&&true))
theorem Y2 (a:List UInt8):fZ X4 14 88 [.str a]=Tr.br (Int.ofNat a.length != 2) (Tr.ret (AV.tuple [AV.bu .i64 0,AV.aO false])) (Tr.br (jj Pz (bz Pz 88 5) (St.mk (an 4 (AV.ptr 0 0::(an 7 (AV.ptr 1 0::(an 19 []))))) (Hp.mk [[AV.ints .i64 2 (li [0,0])],[AV.itr a 0]] [] [] 0 0 0)) (Av a ((gh a (li [0,0],0)).getD default))) (Tr.ret (AV.tuple [AV.int .i64 (CM (((gh a (li [0,0],0)).getD default).fst.getD 0 0) (((gh a (li [0,0],0)).getD default).fst.getD 1 0)).fst,AV.bool (CM (((gh a (li [0,0],0)).getD default).fst.getD 0 0) (((gh a (li [0,0],0)).getD default).fst.getD 1 0)).snd])) Tr.fail):=by kernel_rfl
theorem Z9 (a:List UInt8) (h:Kt a=true):PS Pz 88 [.str a] ((d2 (dI .i64) dB).res (Jn a)):=BC Wt (Y2 a) (bT (aB rfl) (IG (fun h=>Rn (a) ((li [0,0],0)) _ (dT h)) (ay (ks:=(rn 0 4 (rn 5 7 (rn 13 19 [])))) (gs:=[]) (b:=true) rfl (by kernel_rfl)) (aB rfl))) h
def wK:List AV→Tr AV:=g1 dS (fun a=>sure Pz 88 [.str a] ((d2 (dI .i64) dB).res (Jn a)))
theorem yH:Sound Pz 88 wK:=bV (fun _=>Kj)
end Kz
end
noncomputable section
namespace Kz
open Go Go.RowKit Go.Proofs
set_option maxRecDepth 100000
def rX (x:Int):Prop:=1≤x∧x≤14∧yL x=true∧0≤rh x∧rh x≤1∧1≤nF x∧nF x≤6
theorem Wi:(List.range 12).all (fun n=>ph (gX ((n / 6:Nat):Int) (((n % 6:Nat):Int)+1))&&decide (1≤gX ((n / 6:Nat):Int) (((n % 6:Nat):Int)+1))&&decide (gX ((n / 6:Nat):Int) (((n % 6:Nat):Int)+1)≤14))=true:=by kernel_rfl
theorem Vq:(List.range 15).all (fun n=>bif yL (n:Int) then decide (0≤rh (n:Int))&&decide (rh (n:Int)≤1)&&decide (1≤nF (n:Int))&&decide (nF (n:Int)≤6) else true)=true:=by kernel_rfl
theorem VT:(List.range 12).all (fun n=>yL (gX ((n / 6:Nat):Int) (((n % 6:Nat):Int)+1)))=true:=by kernel_rfl
theorem ED {x:Int} (h0:1≤x) (h1:x≤14) (h:yL x=true):rX x:=by
 have t:=dk Vq (x:=x) (by omega) (by omega)
 rw [Int.toNat_of_nonneg (by omega),h,cond_true] at t
 simp only [Bool.and_eq_true,decide_eq_true_eq] at t
 obtain ⟨⟨⟨a,b⟩,c⟩,d⟩:=t
 exact ⟨h0,h1,h,a,b,c,d⟩
theorem Ht {c k:Int} (hc:c=0∨c=1) (h0:0≤k) (h5:k≤5):ph (gX c (k+1))=true∧rX (gX c (k+1)):=by
 obtain ⟨n,hn⟩:=Int.eq_ofNat_of_zero_le (show 0≤6 * c+k by omega)
 have e1:((n / 6:Nat):Int)=c:=by omega
 have e2:((n % 6:Nat):Int)=k:=by omega
 have hm:n ∈ List.range 12:=List.mem_range.2 (by omega)
 have t:=List.all_eq_true.1 Wi n hm
 have u:=List.all_eq_true.1 VT n hm
 rw [e1,e2] at t u
 simp only [Bool.and_eq_true,decide_eq_true_eq] at t
 exact ⟨t.1.1,ED t.1.2 t.2 u⟩
theorem Iw {x:Int} (h0:0≤x) (h5:x < 6):(li [1,2,3,4,5,6]).getD x.toNat default=x+1:=by
 have:x=0∨x=1∨x=2∨x=3∨x=4∨x=5:=by omega
 rcases this with rfl | rfl | rfl | rfl | rfl | rfl <;> rfl
theorem Rl (a:List UInt8) (p2:Int) {c:Int} (hc:c=0∨c=1):∃ r,nc a p2 c 0=some r∧(bP r=true→rX (gl r)):=by
 refine bZ (I:=fun x:Int=>0≤x∧x≤6) (μ:=fun x=>(6 - x).toNat) ?_ _ ⟨Int.le_refl _,by decide⟩ (by decide)
 rintro x ⟨h0,h6⟩
 unfold AW FX
 by_cases hx:x < 6
 ·obtain ⟨k1,k2⟩:=Ht hc h0 (show x≤5 by omega)
  rw [decide_eq_true (show x < Int.ofNat 6 from hx),decide_eq_true h0,Iw h0 hx,k1,bD (by omega) (by omega)]
  refine ⟨rfl,?_⟩
  rw [cond_true]
  cases (qG (gX c (x+1))==a) with
  | true=>exact fun _=>k2
  | false=>exact ⟨⟨by omega,by omega⟩,by show (6 - (x+1)).toNat < (6 - x).toNat; omega⟩
 ·rw [decide_eq_false (show ¬ x < Int.ofNat 6 from hx)]
  exact ⟨rfl,fun h=>by cases h⟩
theorem S9 (a:List UInt8):∃ r,pD a 0 0=some r∧(r=0∨rX r):=by
 refine bZ (I:=fun x:Int=>0≤x∧x≤2) (μ:=fun x=>(2 - x).toNat) ?_ _ ⟨Int.le_refl _,by decide⟩ (by decide)
 rintro x ⟨h0,h2⟩
 unfold A7 Gp
 by_cases hx:x≤1
 ·obtain ⟨r,e1,e2⟩:=Rl a 0 (c:=x) (by omega)
  rw [decide_eq_true hx,e1,show BI=true by kernel_rfl,Bw (by omega) (by omega)]
  refine ⟨by cases bP ((some r).getD default) <;> rfl,?_⟩
  simp only [cond_true,Option.getD_some]
  cases hr:bP r with
  | true=>exact .inr (e2 hr)
  | false=>exact ⟨⟨by omega,by omega⟩,by show (2 - (x+1)).toNat < (2 - x).toNat; omega⟩
 ·rw [decide_eq_false hx]
  exact ⟨rfl,.inl rfl⟩
theorem eE (a:List UInt8):sL a=true∧((fw a).2=true→rX (fw a).1):=by
 obtain ⟨r,e1,e2⟩:=S9 a
 unfold sL fw
 rw [e1]
 refine ⟨rfl,fun h => ?_⟩
 rcases e2 with rfl | e2
 ·exact absurd h (by decide)
 ·exact e2
theorem zw (s:ByteArray) (i:Nat):1≤(Utf8.decode s i).2∧(Utf8.decode s i).2≤4:=by
 unfold Utf8.decode
 dsimp only
 split
 ·exact ⟨by dsimp only; omega,by dsimp only; omega⟩
 ·split
  ·split <;> exact ⟨by dsimp only; omega,by dsimp only; omega⟩
  ·split
   ·split <;> exact ⟨by dsimp only; omega,by dsimp only; omega⟩
   ·split
    ·split <;> exact ⟨by dsimp only; omega,by dsimp only; omega⟩
    ·exact ⟨by dsimp only; omega,by dsimp only; omega⟩
theorem lC (s:List UInt8) (n:Int):1≤aE s n∧aE s n≤4:=by
 have:=zw ⟨s.toArray⟩ n.toNat
 unfold aE
 omega
theorem QE (a:List UInt8) (h2:a.length=2):∃ r,gh a (li [0,0],0)=some r∧True:=by
 refine bZ (I:=fun x:List Int×Int=>0≤x.2) (μ:=fun x=>(2 - x.2).toNat) ?_ _ (Int.le_refl _) (by decide)
 rintro ⟨l,x⟩ h0
 dsimp only at h0
 have hw:=lC a x
 unfold vi zk
 dsimp only
 by_cases hx:x < Int.ofNat a.length
 ·have hx2:x < 2:=by
   have:x < (a.length:Int):=hx
   omega
  rw [decide_eq_true hx,decide_eq_true h0,decide_eq_true (show x < Int.ofNat 2 from hx2)]
  exact ⟨rfl,⟨by dsimp only; omega,by dsimp only; omega⟩⟩
 ·rw [decide_eq_false hx]
  exact ⟨rfl,trivial⟩
theorem P0 (a:List UInt8):Kt a=true:=by
 unfold Kt
 by_cases h:a.length=2
 ·obtain ⟨r,e,_⟩:=QE a h
  rw [e]
  cases (Int.ofNat a.length != 2) <;> rfl
 ·have:(Int.ofNat a.length != 2)=true:=by
   rw [bne_iff_ne]
   intro e
   apply h
   have:(a.length:Int)=2:=e
   omega
  rw [this]
  rfl
theorem OY (a:List UInt8) (b:UInt8) (hl:a.length≤1000000):B0 a [b]=true∧(ey a [b]).length≤a.length:=by
 have h1:yA a [b]=true:=by
  unfold yA
  by_cases h:Int.ofNat a.length ≥ Int.ofNat [b].length
  ·have h':(a.length:Int) ≥ 1:=h
   have e:Int.ofNat a.length - Int.ofNat [b].length=(a.length:Int) - 1:=rfl
   rw [decide_eq_true h,e,bD (by omega) (by omega),decide_eq_true (show (0:Int)≤(a.length:Int) - 1 by omega),decide_eq_true (show (a.length:Int) - 1≤Int.ofNat a.length by show (a.length:Int) - 1≤(a.length:Int); omega)]
   rfl
  ·rw [decide_eq_false h]
   rfl
 unfold B0 ey Bj D1
 rw [h1]
 cases h:xG a [b] with
 | false=>exact ⟨rfl,Nat.le_refl _⟩
 | true =>
  have hge:(a.length:Int) ≥ 1:=by
   unfold xG at h
   by_cases h':Int.ofNat a.length ≥ Int.ofNat [b].length
   ·exact h'
   ·rw [decide_eq_false h'] at h
    cases h
  have e:Int.ofNat a.length - Int.ofNat [b].length=(a.length:Int) - 1:=rfl
  rw [e,bD (by omega) (by omega),decide_eq_true (show (0:Int)≤(a.length:Int) - 1 by omega),decide_eq_true (show (a.length:Int) - 1≤Int.ofNat a.length by show (a.length:Int) - 1≤(a.length:Int); omega)]
  refine ⟨rfl,?_⟩
  rw [cond_true,List.drop_zero,List.length_take]
  omega
end Kz
end
noncomputable section
namespace Kz
open Go Go.RowKit Go.Proofs
@[reducible] def wO:List AV→Tr AV:=R9
theorem yz:Sound Pz 83 wO:=VZ
@[reducible] def wR:List AV→Tr AV:=HF
theorem xK:Sound Pz 87 wR:=Pg
@[reducible] def kG:List AV→Tr AV:=L2
theorem lT:Sound Pz 120 kG:=S7
end Kz
end
noncomputable section
namespace Kz
open Go Go.RowKit Go.Proofs
set_option maxRecDepth 100000
set_option maxHeartbeats 4000000
def ya:List (Nat×List (Nat×List Nat)):=[(21,[(0,(2::3::(rn 6 36 []))),(1,(2::3::(rn 6 36 []))),(2,(2::3::(rn 7 35 []))),(3,(2::3::(rn 8 34 []))),(4,(0::2::3::(rn 8 15 (rn 24 18 [])))),(5,(0::2::3::(rn 8 34 []))),(6,(rn 0 4 (rn 7 35 []))),(7,(rn 0 4 (rn 6 36 [])))]),(45,[(0,(rn 3 14 [])),(1,(rn 3 4 (rn 8 9 []))),(2,(3::(rn 5 12 []))),(3,(rn 3 11 [15,16])),(4,(rn 2 15 [])),(5,(rn 0 17 []))]),(46,[(0,(rn 2 22 (rn 25 123 []))),(1,(rn 2 146 [])),(2,(rn 2 146 [])),(3,(2::3::(rn 6 142 []))),(4,(2::3::4::(rn 6 142 []))),(5,(rn 2 33 (rn 36 112 []))),(6,(rn 2 33 (rn 38 110 []))),(7,(rn 2 5 (rn 8 27 (rn 36 112 [])))),(8,(rn 2 6 (rn 10 25 (rn 36 112 [])))),(9,(rn 2 6 (rn 9 26 (rn 36 112 [])))),(10,(rn 2 33 (rn 36 112 []))),(11,(rn 1 9 (rn 11 137 []))),(12,(rn 1 9 (rn 11 137 []))),(13,(rn 1 74 (rn 78 70 []))),(14,(rn 1 74 (rn 79 69 []))),(15,(rn 1 10 (rn 13 62 (rn 78 70 [])))),(16,(rn 1 10 (rn 14 61 (rn 78 70 [])))),(17,(rn 1 10 (12::(rn 14 61 (rn 78 5 (rn 84 64 [])))))),(18,(rn 1 10 (12::(rn 14 61 (rn 78 5 (rn 86 62 [])))))),(19,(rn 1 10 (12::14::(rn 16 59 (rn 78 5 (rn 84 64 [])))))),(20,(rn 1 10 (12::14::(rn 18 57 (rn 78 5 (rn 84 64 [])))))),(21,(rn 1 10 (12::14::(rn 19 56 (rn 78 5 (rn 84 64 [])))))),(22,(rn 1 10 (12::14::(rn 16 59 (rn 78 5 (rn 84 64 [])))))),(23,(rn 1 10 (12::(rn 14 61 (rn 78 5 (rn 84 64 [])))))),(24,(rn 1 10 (12::14::17::(rn 19 56 (rn 78 5 (rn 84 26 (rn 111 37 []))))))),(25,(rn 1 10 (12::(rn 14 61 (rn 78 5 (rn 84 64 [])))))),(26,(rn 1 10 (12::(rn 14 61 (rn 78 5 (rn 84 64 [])))))),(27,(rn 1 10 (12::14::16::17::(rn 19 56 (rn 78 5 (rn 84 41 (rn 126 22 []))))))),(28,(rn 1 10 (12::(rn 14 61 (rn 78 5 (rn 84 64 [])))))),(29,(rn 1 74 (rn 78 70 []))),(30,(rn 1 74 (rn 78 70 [])))]),(47,[(0,(rn 2 15 [])),(1,(rn 1 11 (rn 13 4 []))),(2,(rn 0 17 []))]),(48,[(0,(rn 2 64 [])),(1,(rn 2 16 (rn 19 47 []))),(2,(rn 1 19 (rn 21 45 []))),(3,(rn 1 19 (rn 23 43 []))),(4,(rn 1 4 (rn 6 14 (rn 21 45 [])))),(5,(rn 1 4 (rn 7 13 (rn 21 45 [])))),(6,(rn 1 4 (rn 7 13 (rn 21 4 (rn 26 40 []))))),(7,(rn 1 4 (rn 7 13 (rn 21 45 [])))),(8,(rn 1 4 (rn 8 12 (rn 21 45 [])))),(9,(rn 1 5 (rn 8 12 (rn 21 11 (rn 33 33 []))))),(10,(rn 1 5 (rn 8 12 (rn 21 11 (rn 34 32 []))))),(11,(rn 1 5 (rn 8 12 (rn 21 45 [])))),(12,(rn 1 5 (rn 8 12 (rn 21 14 (rn 36 30 []))))),(13,(rn 1 5 (rn 8 12 (rn 21 45 [])))),(14,(rn 1 5 (rn 8 12 (rn 21 45 [])))),(15,(rn 1 5 (rn 10 10 (rn 21 45 [])))),(16,(rn 1 5 (rn 9 11 (rn 21 45 [])))),(17,(rn 1 19 (rn 21 45 [])))]),(49,[(0,(rn 2 23 [])),(1,(rn 2 9 (rn 12 13 []))),(2,(1::2::3::(rn 6 19 []))),(3,(1::2::3::(rn 5 20 []))),(4,(rn 0 25 []))]),(50,[(0,(rn 2 45 [])),(1,(rn 2 7 (rn 10 37 []))),(2,(rn 2 7 (rn 11 36 []))),(3,(2::3::(rn 5 4 (rn 10 37 [])))),(4,(2::3::(rn 5 4 (rn 10 37 [])))),(5,(rn 2 7 (rn 10 37 []))),(6,(rn 2 7 (rn 10 37 [])))]),(51,[(0,(0::2::3::(rn 5 24 []))),(1,(0::2::3::(rn 5 24 []))),(2,(rn 0 4 (rn 5 10 (rn 18 11 [])))),(3,(rn 0 4 (rn 5 10 (rn 19 10 [])))),(4,(rn 0 4 (rn 7 8 (rn 18 11 [])))),(5,(rn 0 4 (rn 5 10 (rn 18 11 [])))),(6,(rn 0 4 (rn 5 10 (rn 18 11 []))))]),(52,[(0,(rn 0 10 []))]),(53,[(0,(rn 0 10 []))]),(85,[(0,[0,1,2,4,5]),(1,(rn 0 6 []))]),(89,[(0,(rn 1 13 [])),(1,(0::1::2::(rn 5 9 []))),(2,(0::1::2::(rn 4 10 []))),(3,(0::1::(rn 3 11 [])))])]
def Md:aT:=aA Pz (fun f i=>tu f i ya) [(65,o6),(66,sH),(81,wm),(82,vG),(83,wO),(84,wM),(86,wQ),(87,wR),(88,wK),(120,kG)] [] []
theorem QX:cr Md:=ar aq ⟨pV,sZ,wX,wS,yz,xe,xZ,xK,yH,lT,trivial⟩ trivial trivial
def Fs (p1:(List UInt8)) (p2:(List UInt8)) (x:(Pos×Int)):St:=St.mk (AV.ptr 2 0::AV.str p1::(an 33 (AV.ptr 3 0::(an 112 [])))) (Hp.mk [zpB,[AV.int .i64 0],(pc x.fst []),[AV.itr p2 x.snd]] [4096] [] 0 0 0)
def uR (p1:(List UInt8)) (p2:(List UInt8)):(Pos×Int) ⊕ (Pos×Int)→Out
 | (.inl (y))=>.panic (AV.iface 69 (AV.agg [])) (Hp.mk [zpB,[AV.int .i64 0],(pc y.fst []),[AV.itr p2 y.snd]] [4096] [] 0 0 0)
 | (.inr (y))=>.exit 0 (St.mk (AV.ptr 2 0::AV.str p1::(an 33 (AV.ptr 3 0::AV.tuple [AV.aO false]::AV.aO false::(an 110 [])))) (Hp.mk [zpB,[AV.int .i64 0],(pc y.fst []),[AV.itr p2 y.snd]] [4096] [] 0 0 0))
def po (p1:(List UInt8)) (p2:(List UInt8)) (x:(Pos×Int)):aF (Pos×Int) ((Pos×Int) ⊕ (Pos×Int)):=(bif decide (x.snd < Int.ofNat p2.length) then (bif (fw (Utf8.encode (az p2 x.snd)).data.toList).snd then (bif !decide (nF (fw (Utf8.encode (az p2 x.snd)).data.toList).fst≤5) then (aF.out (.inl ((x.fst,x.snd+aE p2 x.snd)))) else (aF.go (Pos.mk x.fst.variant x.fst.ag x.fst.aa (x.fst.ae.set (scale 6 (rh (fw (Utf8.encode (az p2 x.snd)).data.toList).fst)+scale 1 (nF (fw (Utf8.encode (az p2 x.snd)).data.toList).fst)).toNat (wr .u8 (x.fst.ae.getD (scale 6 (rh (fw (Utf8.encode (az p2 x.snd)).data.toList).fst)+scale 1 (nF (fw (Utf8.encode (az p2 x.snd)).data.toList).fst)).toNat 0+1))) x.fst.ao x.fst.ah x.fst.af x.fst.ab x.fst.half x.fst.full,x.snd+aE p2 x.snd))) else (aF.out (.inl ((x.fst,x.snd+aE p2 x.snd))))) else (aF.out (.inr ((x.fst,x.snd)))))
def mG (p1:(List UInt8)) (p2:(List UInt8)) (x:(Pos×Int)):Bool:=(bif decide (x.snd < Int.ofNat p2.length) then (sL (Utf8.encode (az p2 x.snd)).data.toList&&(bif (fw (Utf8.encode (az p2 x.snd)).data.toList).snd then (sT (fw (Utf8.encode (az p2 x.snd)).data.toList).fst&&(bif !decide (nF (fw (Utf8.encode (az p2 x.snd)).data.toList).fst≤5) then true else (yn (fw (Utf8.encode (az p2 x.snd)).data.toList).fst&&(sT (fw (Utf8.encode (az p2 x.snd)).data.toList).fst&&(decide (0≤rh (fw (Utf8.encode (az p2 x.snd)).data.toList).fst)&&decide (rh (fw (Utf8.encode (az p2 x.snd)).data.toList).fst < Int.ofNat 2)&&(decide (0≤nF (fw (Utf8.encode (az p2 x.snd)).data.toList).fst)&&decide (nF (fw (Utf8.encode (az p2 x.snd)).data.toList).fst < Int.ofNat 6)&&(decide (0≤rh (fw (Utf8.encode (az p2 x.snd)).data.toList).fst)&&decide (rh (fw (Utf8.encode (az p2 x.snd)).data.toList).fst < Int.ofNat 2)&&(decide (0≤nF (fw (Utf8.encode (az p2 x.snd)).data.toList).fst)&&decide (nF (fw (Utf8.encode (az p2 x.snd)).data.toList).fst < Int.ofNat 6)&&true)))))))) else true)) else true)
def cO (p1:(List UInt8)) (p2:(List UInt8)) (x:(Pos×Int)):Option ((Pos×Int) ⊕ (Pos×Int)):=dh (fun x=>bif mG p1 p2 x then po p1 p2 x else .bad) many x
theorem Uh (p1:(List UInt8)) (p2:(List UInt8)) (x:(Pos×Int)):lf Md 12 46 (bz Pz 46 6) (Fs p1 p2 x)=(let z1:=(fw (Utf8.encode (az p2 x.snd)).data.toList); let z2:=zpB; let z3:=(Tr.ret (Out.panic (AV.iface 69 (AV.agg [])) (Hp.mk [z2,[AV.int .i64 0],(pc x.fst []),[AV.itr p2 (x.snd+aE p2 x.snd)]] [4096] [] 0 0 0))); let z4:=(decide (0≤rh z1.fst)&&decide (rh z1.fst < Int.ofNat 2)); let z5:=(decide (0≤nF z1.fst)&&decide (nF z1.fst < Int.ofNat 6)); Tr.br (decide (x.snd < Int.ofNat p2.length)) (Tr.br (sL (Utf8.encode (az p2 x.snd)).data.toList) (Tr.br z1.snd (Tr.br (sT z1.fst) (Tr.br (!decide (nF z1.fst≤5)) z3 (Tr.br (yn z1.fst) (Tr.br (sT z1.fst) (Tr.br z4 (Tr.br z5 (Tr.br z4 (Tr.br z5 (Tr.ret (Out.norm (St.mk (AV.ptr 2 0::AV.str p1::(an 33 (AV.ptr 3 0::(an 112 [])))) (Hp.mk [z2,[AV.int .i64 0],[AV.int .u8 x.fst.variant,AV.ints .u8 64 x.fst.ag,AV.u64 x.fst.aa,AV.ints .u8 12 (x.fst.ae.set (scale 6 (rh z1.fst)+scale 1 (nF z1.fst)).toNat (wr .u8 (x.fst.ae.getD (scale 6 (rh z1.fst)+scale 1 (nF z1.fst)).toNat 0+1))),AV.int .u8 x.fst.ao,AV.ints .i8 4 x.fst.ah,AV.int .i8 x.fst.af,AV.ints .u8 2 x.fst.ab,AV.int .i64 x.fst.half,AV.int .i64 x.fst.full],[AV.itr p2 (x.snd+aE p2 x.snd)]] [4096] [] 0 0 0)))) Tr.fail) Tr.fail) Tr.fail) Tr.fail) Tr.fail) Tr.fail)) Tr.fail) z3) Tr.fail) (Tr.ret (Out.exit 0 (St.mk (AV.ptr 2 0::AV.str p1::(an 33 (AV.ptr 3 0::AV.tuple [AV.aO false]::AV.aO false::(an 110 [])))) (Hp.mk [z2,[AV.int .i64 0],(pc x.fst []),[AV.itr p2 x.snd]] [4096] [] 0 0 0))))):=by kernel_rfl
theorem Rh (p1:(List UInt8)) (p2:(List UInt8)) (x:(Pos×Int)) (r:(Pos×Int) ⊕ (Pos×Int)) (h:cO p1 p2 x=some r):aD Pz (bz Pz 46 6) (Fs p1 p2 x) (uR p1 p2 r):=aD.H6 (S:=Fs p1 p2) (O:=uR p1 p2) (ok:=mG p1 p2) (st:=po p1 p2) QX (fun x=>pY (Uh p1 p2 x) (bT (aG (bT (aG (bT (aB (cm rfl (ay (ks:=[]) (gs:=[]) (b:=true) rfl (by kernel_rfl)))) (aG (aG (aG (aG (aG (aG (aB (dM (ay (ks:=(rn 2 33 (rn 36 112 []))) (gs:=[1]) (b:=true) rfl (by kernel_rfl)))))))))))) (aB (cm rfl (ay (ks:=[]) (gs:=[]) (b:=true) rfl (by kernel_rfl)))))) (aB (jf rfl (ay (ks:=(rn 2 33 (rn 38 110 []))) (gs:=[]) (b:=false) rfl (by kernel_rfl)))))) many x r h
def gN:Code→St→Tr Out:=fun b s=>.br (bP ((cO (tS (tT s 1)) (kp (tH s 3 0)) ((dP s 2),(nV (tH s 3 0)))).getD default)) (gS Pz (fun s=>uR (tS (tT s 1)) (kp (tH s 3 0)) (.inl (gl ((cO (tS (tT s 1)) (kp (tH s 3 0)) ((dP s 2),(nV (tH s 3 0)))).getD default)))) b s) (gS Pz (fun s=>uR (tS (tT s 1)) (kp (tH s 3 0)) (.inr (gr ((cO (tS (tT s 1)) (kp (tH s 3 0)) ((dP s 2),(nV (tH s 3 0)))).getD default)))) b s)
theorem eK:∀ b,bq Pz b (gN b):=ga (c:=fun s=>bP ((cO (tS (tT s 1)) (kp (tH s 3 0)) ((dP s 2),(nV (tH s 3 0)))).getD default)) cf cf
def Nw:aT:=aA Pz (fun f i=>tu f i ya) [(65,o6),(66,sH),(81,wm),(82,vG),(83,wO),(84,wM),(86,wQ),(87,wR),(88,wK),(120,kG)] [(46,6,gN)] []
theorem NN:cr Nw:=ar aq ⟨pV,sZ,wX,wS,yz,xe,xZ,xK,yH,lT,trivial⟩ ⟨eK,trivial⟩ trivial
def Eb (p1:Int) (p2:(List (List UInt8))) (p3:Int) (p4:Int) (p5:(List UInt8)) (p6:Int) (p7:(List UInt8)) (x:(Int×Pos×Int)):St:=St.mk (AV.ptr 2 0::(an 10 (AV.int .i64 p1::AV.any::AV.int .i64 x.fst::(an 61 (AV.list ET.str p2 Tk.fresh::AV.int .i64 p3::AV.int .i64 p4::(an 5 (AV.ptr 4 0::(an 64 [])))))))) (Hp.mk [zpB,[AV.int .i64 0],(pc x.snd.fst []),[AV.itr p5 p6],[AV.itr p7 x.snd.snd]] [4096] [] 0 0 0)
def uj (p1:Int) (p2:(List (List UInt8))) (p3:Int) (p4:Int) (p5:(List UInt8)) (p6:Int) (p7:(List UInt8)):(Pos×Int) ⊕ (Int×Pos×Int)→Out
 | (.inl (y))=>.panic (AV.iface 69 (AV.agg [])) (Hp.mk [zpB,[AV.int .i64 0],(pc y.fst []),[AV.itr p5 p6],[AV.itr p7 y.snd]] [4096] [] 0 0 0)
 | (.inr (y))=>.exit 4 (St.mk (AV.ptr 2 0::(an 10 (AV.int .i64 p1::AV.any::AV.int .i64 y.fst::(an 61 (AV.list ET.str p2 Tk.fresh::AV.int .i64 p3::AV.int .i64 p4::(an 5 (AV.ptr 4 0::AV.tuple [AV.aO false]::AV.aO false::(an 62 [])))))))) (Hp.mk [zpB,[AV.int .i64 0],(pc y.snd.fst []),[AV.itr p5 p6],[AV.itr p7 y.snd.snd]] [4096] [] 0 0 0))
def Ad (p1:Int) (p2:(List (List UInt8))) (p3:Int) (p4:Int) (p5:(List UInt8)) (p6:Int) (p7:(List UInt8)) (x:(Int×Pos×Int)):aF (Int×Pos×Int) ((Pos×Int) ⊕ (Int×Pos×Int)):=(bif decide (x.snd.snd < Int.ofNat p7.length) then (bif (fw (Utf8.encode (az p7 x.snd.snd)).data.toList).snd then (bif decide (x.fst < 8) then (aF.go (wr .i64 (x.fst+1),Pos.mk x.snd.fst.variant (x.snd.fst.ag.set (scale 1 (wr .i64 (wr .i64 (8 * wr .i64 (7 - p1))+x.fst))).toNat (fw (Utf8.encode (az p7 x.snd.snd)).data.toList).fst) x.snd.fst.aa x.snd.fst.ae x.snd.fst.ao x.snd.fst.ah x.snd.fst.af x.snd.fst.ab x.snd.fst.half x.snd.fst.full,x.snd.snd+aE p7 x.snd.snd)) else (bif az p7 x.snd.snd==126 then (bif decide (x.fst > 0) then (aF.go (x.fst,Pos.mk x.snd.fst.variant x.snd.fst.ag (x.snd.fst.aa|||1#64 <<< (wr .i64 (wr .i64 (wr .i64 (8 * wr .i64 (7 - p1))+x.fst) - 1)).toNat) x.snd.fst.ae x.snd.fst.ao x.snd.fst.ah x.snd.fst.af x.snd.fst.ab x.snd.fst.half x.snd.fst.full,x.snd.snd+aE p7 x.snd.snd)) else (bif decide (az p7 x.snd.snd ≥ 49) then (bif !decide (az p7 x.snd.snd≤56) then (aF.out (.inl ((x.snd.fst,x.snd.snd+aE p7 x.snd.snd)))) else (aF.go (wr .i64 (x.fst+wr .i64 (wr .i32 (az p7 x.snd.snd - 48))),x.snd.fst,x.snd.snd+aE p7 x.snd.snd))) else (aF.out (.inl ((x.snd.fst,x.snd.snd+aE p7 x.snd.snd)))))) else (bif decide (az p7 x.snd.snd ≥ 49) then (bif !decide (az p7 x.snd.snd≤56) then (aF.out (.inl ((x.snd.fst,x.snd.snd+aE p7 x.snd.snd)))) else (aF.go (wr .i64 (x.fst+wr .i64 (wr .i32 (az p7 x.snd.snd - 48))),x.snd.fst,x.snd.snd+aE p7 x.snd.snd))) else (aF.out (.inl ((x.snd.fst,x.snd.snd+aE p7 x.snd.snd))))))) else (bif az p7 x.snd.snd==126 then (bif decide (x.fst > 0) then (aF.go (x.fst,Pos.mk x.snd.fst.variant x.snd.fst.ag (x.snd.fst.aa|||1#64 <<< (wr .i64 (wr .i64 (wr .i64 (8 * wr .i64 (7 - p1))+x.fst) - 1)).toNat) x.snd.fst.ae x.snd.fst.ao x.snd.fst.ah x.snd.fst.af x.snd.fst.ab x.snd.fst.half x.snd.fst.full,x.snd.snd+aE p7 x.snd.snd)) else (bif decide (az p7 x.snd.snd ≥ 49) then (bif !decide (az p7 x.snd.snd≤56) then (aF.out (.inl ((x.snd.fst,x.snd.snd+aE p7 x.snd.snd)))) else (aF.go (wr .i64 (x.fst+wr .i64 (wr .i32 (az p7 x.snd.snd - 48))),x.snd.fst,x.snd.snd+aE p7 x.snd.snd))) else (aF.out (.inl ((x.snd.fst,x.snd.snd+aE p7 x.snd.snd)))))) else (bif decide (az p7 x.snd.snd ≥ 49) then (bif !decide (az p7 x.snd.snd≤56) then (aF.out (.inl ((x.snd.fst,x.snd.snd+aE p7 x.snd.snd)))) else (aF.go (wr .i64 (x.fst+wr .i64 (wr .i32 (az p7 x.snd.snd - 48))),x.snd.fst,x.snd.snd+aE p7 x.snd.snd))) else (aF.out (.inl ((x.snd.fst,x.snd.snd+aE p7 x.snd.snd))))))) else (aF.out (.inr ((x.fst,x.snd.fst,x.snd.snd)))))
def wH (p1:Int) (p2:(List (List UInt8))) (p3:Int) (p4:Int) (p5:(List UInt8)) (p6:Int) (p7:(List UInt8)) (x:(Int×Pos×Int)):Bool:=(bif decide (x.snd.snd < Int.ofNat p7.length) then (sL (Utf8.encode (az p7 x.snd.snd)).data.toList&&(bif (fw (Utf8.encode (az p7 x.snd.snd)).data.toList).snd then (bif decide (x.fst < 8) then (decide (0≤wr .i64 (wr .i64 (8 * wr .i64 (7 - p1))+x.fst))&&decide (wr .i64 (wr .i64 (8 * wr .i64 (7 - p1))+x.fst) < Int.ofNat 64)&&true) else (bif az p7 x.snd.snd==126 then (bif decide (x.fst > 0) then (decide (0≤wr .i64 (wr .i64 (wr .i64 (8 * wr .i64 (7 - p1))+x.fst) - 1))&&true) else true) else true)) else (bif az p7 x.snd.snd==126 then (bif decide (x.fst > 0) then (decide (0≤wr .i64 (wr .i64 (wr .i64 (8 * wr .i64 (7 - p1))+x.fst) - 1))&&true) else true) else true))) else true)
def eZ (p1:Int) (p2:(List (List UInt8))) (p3:Int) (p4:Int) (p5:(List UInt8)) (p6:Int) (p7:(List UInt8)) (x:(Int×Pos×Int)):Option ((Pos×Int) ⊕ (Int×Pos×Int)):=dh (fun x=>bif wH p1 p2 p3 p4 p5 p6 p7 x then Ad p1 p2 p3 p4 p5 p6 p7 x else .bad) many x
theorem Sp (p1:Int) (p2:(List (List UInt8))) (p3:Int) (p4:Int) (p5:(List UInt8)) (p6:Int) (p7:(List UInt8)) (x:(Int×Pos×Int)):lf Nw 12 46 (bz Pz 46 18) (Eb p1 p2 p3 p4 p5 p6 p7 x)=(let z3:=zpB; let z1:=(Tr.br (decide (az p7 x.snd.snd ≥ 49)) (Tr.br (!decide (az p7 x.snd.snd≤56)) (Tr.ret (Out.panic (AV.iface 69 (AV.agg [])) (Hp.mk [z3,[AV.int .i64 0],(pc x.snd.fst []),[AV.itr p5 p6],[AV.itr p7 (x.snd.snd+aE p7 x.snd.snd)]] [4096] [] 0 0 0))) (Tr.ret (Out.norm (St.mk (AV.ptr 2 0::(an 10 (AV.int .i64 p1::AV.any::AV.int .i64 (wr .i64 (x.fst+wr .i64 (wr .i32 (az p7 x.snd.snd - 48))))::(an 61 (AV.list ET.str p2 Tk.fresh::AV.int .i64 p3::AV.int .i64 p4::(an 5 (AV.ptr 4 0::(an 64 [])))))))) (Hp.mk [z3,[AV.int .i64 0],(pc x.snd.fst []),[AV.itr p5 p6],[AV.itr p7 (x.snd.snd+aE p7 x.snd.snd)]] [4096] [] 0 0 0))))) (Tr.ret (Out.panic (AV.iface 69 (AV.agg [])) (Hp.mk [z3,[AV.int .i64 0],(pc x.snd.fst []),[AV.itr p5 p6],[AV.itr p7 (x.snd.snd+aE p7 x.snd.snd)]] [4096] [] 0 0 0)))); let z4:=(wr .i64 (8 * wr .i64 (7 - p1))+x.fst); let z2:=(Tr.br (az p7 x.snd.snd==126) (Tr.br (decide (x.fst > 0)) (Tr.br (decide (0≤wr .i64 (wr .i64 z4 - 1))) (Tr.ret (Out.norm (St.mk (AV.ptr 2 0::(an 10 (AV.int .i64 p1::AV.any::AV.int .i64 x.fst::(an 61 (AV.list ET.str p2 Tk.fresh::AV.int .i64 p3::AV.int .i64 p4::(an 5 (AV.ptr 4 0::(an 64 [])))))))) (Hp.mk [z3,[AV.int .i64 0],[AV.int .u8 x.snd.fst.variant,AV.ints .u8 64 x.snd.fst.ag,AV.u64 (x.snd.fst.aa|||1#64 <<< (wr .i64 (wr .i64 z4 - 1)).toNat),AV.ints .u8 12 x.snd.fst.ae,AV.int .u8 x.snd.fst.ao,AV.ints .i8 4 x.snd.fst.ah,AV.int .i8 x.snd.fst.af,AV.ints .u8 2 x.snd.fst.ab,AV.int .i64 x.snd.fst.half,AV.int .i64 x.snd.fst.full],[AV.itr p5 p6],[AV.itr p7 (x.snd.snd+aE p7 x.snd.snd)]] [4096] [] 0 0 0)))) Tr.fail) z1) z1); let z5:=(Utf8.encode (az p7 x.snd.snd)); Tr.br (decide (x.snd.snd < Int.ofNat p7.length)) (Tr.br (sL z5.data.toList) (Tr.br (fw z5.data.toList).snd (Tr.br (decide (x.fst < 8)) (Tr.br (decide (0≤wr .i64 z4)&&decide (wr .i64 z4 < Int.ofNat 64)) (Tr.ret (Out.norm (St.mk (AV.ptr 2 0::(an 10 (AV.int .i64 p1::AV.any::AV.int .i64 (wr .i64 (x.fst+1))::(an 61 (AV.list ET.str p2 Tk.fresh::AV.int .i64 p3::AV.int .i64 p4::(an 5 (AV.ptr 4 0::(an 64 [])))))))) (Hp.mk [z3,[AV.int .i64 0],[AV.int .u8 x.snd.fst.variant,AV.ints .u8 64 (x.snd.fst.ag.set (scale 1 (wr .i64 z4)).toNat (fw z5.data.toList).fst),AV.u64 x.snd.fst.aa,AV.ints .u8 12 x.snd.fst.ae,AV.int .u8 x.snd.fst.ao,AV.ints .i8 4 x.snd.fst.ah,AV.int .i8 x.snd.fst.af,AV.ints .u8 2 x.snd.fst.ab,AV.int .i64 x.snd.fst.half,AV.int .i64 x.snd.fst.full],[AV.itr p5 p6],[AV.itr p7 (x.snd.snd+aE p7 x.snd.snd)]] [4096] [] 0 0 0)))) Tr.fail) z2) z2) Tr.fail) (Tr.ret (Out.exit 4 (St.mk (AV.ptr 2 0::(an 10 (AV.int .i64 p1::AV.any::AV.int .i64 x.fst::(an 61 (AV.list ET.str p2 Tk.fresh::AV.int .i64 p3::AV.int .i64 p4::(an 5 (AV.ptr 4 0::AV.tuple [AV.aO false]::AV.aO false::(an 62 [])))))))) (Hp.mk [z3,[AV.int .i64 0],(pc x.snd.fst []),[AV.itr p5 p6],[AV.itr p7 x.snd.snd]] [4096] [] 0 0 0))))):=by kernel_rfl
theorem TT (p1:Int) (p2:(List (List UInt8))) (p3:Int) (p4:Int) (p5:(List UInt8)) (p6:Int) (p7:(List UInt8)) (x:(Int×Pos×Int)) (r:(Pos×Int) ⊕ (Int×Pos×Int)) (h:eZ p1 p2 p3 p4 p5 p6 p7 x=some r):aD Pz (bz Pz 46 18) (Eb p1 p2 p3 p4 p5 p6 p7 x) (uj p1 p2 p3 p4 p5 p6 p7 r):=aD.H6 (S:=Eb p1 p2 p3 p4 p5 p6 p7) (O:=uj p1 p2 p3 p4 p5 p6 p7) (ok:=wH p1 p2 p3 p4 p5 p6 p7) (st:=Ad p1 p2 p3 p4 p5 p6 p7) NN (fun x=>pY (Sp p1 p2 p3 p4 p5 p6 p7 x) (bT (aG (bT (bT (aG (aB (dM (ay (ks:=(rn 1 10 (12::(rn 14 61 (rn 78 5 (rn 84 64 [])))))) (gs:=[11,13,75,76,77]) (b:=true) rfl (by kernel_rfl))))) (bT (bT (aG (aB (dM (ay (ks:=(rn 1 10 (12::(rn 14 61 (rn 78 5 (rn 84 64 [])))))) (gs:=[11,13,75,76,77]) (b:=true) rfl (by kernel_rfl))))) (cX (cX (aB (cm rfl (ay (ks:=[]) (gs:=[]) (b:=true) rfl (by kernel_rfl)))) (aB (dM (ay (ks:=(rn 1 10 (12::(rn 14 61 (rn 78 5 (rn 84 64 [])))))) (gs:=[11,13,75,76,77]) (b:=true) rfl (by kernel_rfl))))) (aB (cm rfl (ay (ks:=[]) (gs:=[]) (b:=true) rfl (by kernel_rfl)))))) (cX (cX (aB (cm rfl (ay (ks:=[]) (gs:=[]) (b:=true) rfl (by kernel_rfl)))) (aB (dM (ay (ks:=(rn 1 10 (12::(rn 14 61 (rn 78 5 (rn 84 64 [])))))) (gs:=[11,13,75,76,77]) (b:=true) rfl (by kernel_rfl))))) (aB (cm rfl (ay (ks:=[]) (gs:=[]) (b:=true) rfl (by kernel_rfl))))))) (bT (bT (aG (aB (dM (ay (ks:=(rn 1 10 (12::(rn 14 61 (rn 78 5 (rn 84 64 [])))))) (gs:=[11,13,75,76,77]) (b:=true) rfl (by kernel_rfl))))) (cX (cX (aB (cm rfl (ay (ks:=[]) (gs:=[]) (b:=true) rfl (by kernel_rfl)))) (aB (dM (ay (ks:=(rn 1 10 (12::(rn 14 61 (rn 78 5 (rn 84 64 [])))))) (gs:=[11,13,75,76,77]) (b:=true) rfl (by kernel_rfl))))) (aB (cm rfl (ay (ks:=[]) (gs:=[]) (b:=true) rfl (by kernel_rfl)))))) (cX (cX (aB (cm rfl (ay (ks:=[]) (gs:=[]) (b:=true) rfl (by kernel_rfl)))) (aB (dM (ay (ks:=(rn 1 10 (12::(rn 14 61 (rn 78 5 (rn 84 64 [])))))) (gs:=[11,13,75,76,77]) (b:=true) rfl (by kernel_rfl))))) (aB (cm rfl (ay (ks:=[]) (gs:=[]) (b:=true) rfl (by kernel_rfl)))))))) (aB (jf rfl (ay (ks:=(rn 1 10 (12::(rn 14 61 (rn 78 5 (rn 86 62 [])))))) (gs:=[]) (b:=false) rfl (by kernel_rfl)))))) many x r h
def hT:Code→St→Tr Out:=fun b s=>.br (bP ((eZ (tI (tT s 11)) (tL (ET.str) (tT s 75)) (tI (tT s 76)) (tI (tT s 77)) (kp (tH s 3 0)) (nV (tH s 3 0)) (kp (tH s 4 0)) ((tI (tT s 13)),(dP s 2),(nV (tH s 4 0)))).getD default)) (gS Pz (fun s=>uj (tI (tT s 11)) (tL (ET.str) (tT s 75)) (tI (tT s 76)) (tI (tT s 77)) (kp (tH s 3 0)) (nV (tH s 3 0)) (kp (tH s 4 0)) (.inl (gl ((eZ (tI (tT s 11)) (tL (ET.str) (tT s 75)) (tI (tT s 76)) (tI (tT s 77)) (kp (tH s 3 0)) (nV (tH s 3 0)) (kp (tH s 4 0)) ((tI (tT s 13)),(dP s 2),(nV (tH s 4 0)))).getD default)))) b s) (gS Pz (fun s=>uj (tI (tT s 11)) (tL (ET.str) (tT s 75)) (tI (tT s 76)) (tI (tT s 77)) (kp (tH s 3 0)) (nV (tH s 3 0)) (kp (tH s 4 0)) (.inr (gr ((eZ (tI (tT s 11)) (tL (ET.str) (tT s 75)) (tI (tT s 76)) (tI (tT s 77)) (kp (tH s 3 0)) (nV (tH s 3 0)) (kp (tH s 4 0)) ((tI (tT s 13)),(dP s 2),(nV (tH s 4 0)))).getD default)))) b s)
theorem e9:∀ b,bq Pz b (hT b):=ga (c:=fun s=>bP ((eZ (tI (tT s 11)) (tL (ET.str) (tT s 75)) (tI (tT s 76)) (tI (tT s 77)) (kp (tH s 3 0)) (nV (tH s 3 0)) (kp (tH s 4 0)) ((tI (tT s 13)),(dP s 2),(nV (tH s 4 0)))).getD default)) cf cf
def Lo:aT:=aA Pz (fun f i=>tu f i ya) [(65,o6),(66,sH),(81,wm),(82,vG),(83,wO),(84,wM),(86,wQ),(87,wR),(88,wK),(120,kG)] [(46,6,gN),(46,18,hT)] []
theorem OR:cr Lo:=ar aq ⟨pV,sZ,wX,wS,yz,xe,xZ,xK,yH,lT,trivial⟩ ⟨eK,e9,trivial⟩ trivial
def Du (p1:(List (List UInt8))) (p2:Int) (p3:(List UInt8)) (p4:Int) (x:(Int×Pos)):St:=St.mk (AV.ptr 2 0::(an 74 (AV.list ET.str p1 Tk.fresh::AV.int .i64 p2::AV.int .i64 x.fst::(an 70 [])))) (Hp.mk [zpB,[AV.int .i64 0],(pc x.snd []),[AV.itr p3 p4]] [4096] [] 0 0 0)
def uO (p1:(List (List UInt8))) (p2:Int) (p3:(List UInt8)) (p4:Int):(Pos) ⊕ (Int×Bool×Pos)→Out
 | (.inl (y))=>.panic (AV.iface 69 (AV.agg [])) (Hp.mk [zpB,[AV.int .i64 0],(pc y []),[AV.itr p3 p4]] [4096] [] 0 0 0)
 | (.inr (y))=>.exit 2 (St.mk (AV.ptr 2 0::(an 74 (AV.list ET.str p1 Tk.fresh::AV.int .i64 p2::AV.int .i64 y.fst::AV.bool y.snd.fst::(an 69 [])))) (Hp.mk [zpB,[AV.int .i64 0],(pc y.snd.snd []),[AV.itr p3 p4]] [4096] [] 0 0 0))
def nD (p1:(List (List UInt8))) (p2:Int) (p3:(List UInt8)) (p4:Int) (x:(Int×Pos)):aF (Int×Pos) ((Pos) ⊕ (Int×Bool×Pos)):=(bif decide (x.fst < p2) then (bif bP ((eZ x.fst p1 p2 x.fst p3 p4 (p1.getD x.fst.toNat default) (0,x.snd,0)).getD default) then (aF.out (.inl (((gl ((eZ x.fst p1 p2 x.fst p3 p4 (p1.getD x.fst.toNat default) (0,x.snd,0)).getD default)).fst)))) else (bif !(gr ((eZ x.fst p1 p2 x.fst p3 p4 (p1.getD x.fst.toNat default) (0,x.snd,0)).getD default)).fst==8 then (aF.out (.inl (((gr ((eZ x.fst p1 p2 x.fst p3 p4 (p1.getD x.fst.toNat default) (0,x.snd,0)).getD default)).snd.fst)))) else (aF.go (wr .i64 (x.fst+1),(gr ((eZ x.fst p1 p2 x.fst p3 p4 (p1.getD x.fst.toNat default) (0,x.snd,0)).getD default)).snd.fst)))) else (aF.out (.inr ((x.fst,decide (x.fst < p2),x.snd)))))
def j6 (p1:(List (List UInt8))) (p2:Int) (p3:(List UInt8)) (p4:Int) (x:(Int×Pos)):Bool:=(bif decide (x.fst < p2) then (decide (0≤x.fst)&&decide (x.fst < Int.ofNat p1.length)&&((eZ x.fst p1 p2 x.fst p3 p4 (p1.getD x.fst.toNat default) (0,x.snd,0)).isSome&&bif bP ((eZ x.fst p1 p2 x.fst p3 p4 (p1.getD x.fst.toNat default) (0,x.snd,0)).getD default) then true else true)) else true)
def df (p1:(List (List UInt8))) (p2:Int) (p3:(List UInt8)) (p4:Int) (x:(Int×Pos)):Option ((Pos) ⊕ (Int×Bool×Pos)):=dh (fun x=>bif j6 p1 p2 p3 p4 x then nD p1 p2 p3 p4 x else .bad) many x
theorem Sy (p1:(List (List UInt8))) (p2:Int) (p3:(List UInt8)) (p4:Int) (x:(Int×Pos)):lf Lo 12 46 (bz Pz 46 14) (Du p1 p2 p3 p4 x)=(let z1:=zpB; let z2:=((eZ x.fst p1 p2 x.fst p3 p4 (p1.getD x.fst.toNat default) (0,x.snd,0)).getD default); let z3:=(St.mk (AV.ptr 2 0::(an 10 (AV.int .i64 x.fst::AV.any::AV.bu .i64 0::(an 61 (AV.list ET.str p1 Tk.fresh::AV.int .i64 p2::AV.int .i64 x.fst::(an 5 (AV.ptr 4 0::(an 64 [])))))))) (Hp.mk [z1,[AV.int .i64 0],(pc x.snd []),[AV.itr p3 p4],[AV.itr (p1.getD x.fst.toNat default) 0]] [4096] [] 0 0 0)); let z4:=(Hp.mk [z1,[AV.int .i64 0],(pc (gr z2).snd.fst []),[AV.itr p3 p4]] [4096] [] 0 0 0); Tr.br (decide (x.fst < p2)) (Tr.br (decide (0≤x.fst)&&decide (x.fst < Int.ofNat p1.length)) (Tr.br (bP z2) (Tr.br (jj Pz (bz Pz 46 18) z3 (uj x.fst p1 p2 x.fst p3 p4 (p1.getD x.fst.toNat default) (Sum.inl (gl z2)))) (Tr.ret (Out.panic (AV.iface 69 (AV.agg [])) (Hp.mk [z1,[AV.int .i64 0],(pc (gl z2).fst []),[AV.itr p3 p4]] [4096] [] 0 0 0))) Tr.fail) (Tr.br (jj Pz (bz Pz 46 18) z3 (uj x.fst p1 p2 x.fst p3 p4 (p1.getD x.fst.toNat default) (Sum.inr (gr z2)))) (Tr.br (!(gr z2).fst==8) (Tr.ret (Out.panic (AV.iface 69 (AV.agg [])) z4)) (Tr.ret (Out.norm (St.mk (AV.ptr 2 0::(an 74 (AV.list ET.str p1 Tk.fresh::AV.int .i64 p2::AV.int .i64 (wr .i64 (x.fst+1))::(an 70 [])))) z4)))) Tr.fail)) Tr.fail) (Tr.ret (Out.exit 2 (St.mk (AV.ptr 2 0::(an 74 (AV.list ET.str p1 Tk.fresh::AV.int .i64 p2::AV.int .i64 x.fst::AV.bool (decide (x.fst < p2))::(an 69 [])))) (Hp.mk [z1,[AV.int .i64 0],(pc x.snd []),[AV.itr p3 p4]] [4096] [] 0 0 0))))):=by kernel_rfl
theorem RU (p1:(List (List UInt8))) (p2:Int) (p3:(List UInt8)) (p4:Int) (x:(Int×Pos)) (r:(Pos) ⊕ (Int×Bool×Pos)) (h:df p1 p2 p3 p4 x=some r):aD Pz (bz Pz 46 14) (Du p1 p2 p3 p4 x) (uO p1 p2 p3 p4 r):=aD.H6 (S:=Du p1 p2 p3 p4) (O:=uO p1 p2 p3 p4) (ok:=j6 p1 p2 p3 p4) (st:=nD p1 p2 p3 p4) OR (fun x=>pY (Sy p1 p2 p3 p4 x) (bT (aG (iz (fun h=>TT (x.fst) (p1) (p2) (x.fst) (p3) (p4) (p1.getD x.fst.toNat default) ((0,x.snd,0)) _ (dT h)) (ay (ks:=(rn 1 10 (12::(rn 14 61 (rn 78 5 (rn 84 64 [])))))) (gs:=[11,13,75,76,77]) (b:=true) rfl (by kernel_rfl)) (aB (cm rfl (ay (ks:=[]) (gs:=[]) (b:=true) rfl (by kernel_rfl)))) (cX (aB (cm rfl (ay (ks:=[]) (gs:=[]) (b:=true) rfl (by kernel_rfl)))) (aB (dM (ay (ks:=(rn 1 74 (rn 78 70 []))) (gs:=[75,76,77]) (b:=true) rfl (by kernel_rfl))))))) (aB (jf rfl (ay (ks:=(rn 1 74 (rn 79 69 []))) (gs:=[]) (b:=false) rfl (by kernel_rfl)))))) many x r h
def iy:Code→St→Tr Out:=fun b s=>.br (bP ((df (tL (ET.str) (tT s 75)) (tI (tT s 76)) (kp (tH s 3 0)) (nV (tH s 3 0)) ((tI (tT s 77)),(dP s 2))).getD default)) (gS Pz (fun s=>uO (tL (ET.str) (tT s 75)) (tI (tT s 76)) (kp (tH s 3 0)) (nV (tH s 3 0)) (.inl (gl ((df (tL (ET.str) (tT s 75)) (tI (tT s 76)) (kp (tH s 3 0)) (nV (tH s 3 0)) ((tI (tT s 77)),(dP s 2))).getD default)))) b s) (gS Pz (fun s=>uO (tL (ET.str) (tT s 75)) (tI (tT s 76)) (kp (tH s 3 0)) (nV (tH s 3 0)) (.inr (gr ((df (tL (ET.str) (tT s 75)) (tI (tT s 76)) (kp (tH s 3 0)) (nV (tH s 3 0)) ((tI (tT s 77)),(dP s 2))).getD default)))) b s)
theorem fH:∀ b,bq Pz b (iy b):=ga (c:=fun s=>bP ((df (tL (ET.str) (tT s 75)) (tI (tT s 76)) (kp (tH s 3 0)) (nV (tH s 3 0)) ((tI (tT s 77)),(dP s 2))).getD default)) cf cf
def Mc:aT:=aA Pz (fun f i=>tu f i ya) [(65,o6),(66,sH),(81,wm),(82,vG),(83,wO),(84,wM),(86,wQ),(87,wR),(88,wK),(120,kG)] [(46,6,gN),(46,18,hT),(46,14,iy)] []
theorem QA:cr Mc:=ar aq ⟨pV,sZ,wX,wS,yz,xe,xZ,xK,yH,lT,trivial⟩ ⟨eK,e9,fH,trivial⟩ trivial
def De (p1:Int) (p2:(List (List UInt8))) (p3:Int) (p4:Int) (p5:(List UInt8)) (x:(Int×Pos×Int)):St:=St.mk (AV.ptr 2 0::(an 10 (AV.int .i64 p1::AV.any::AV.int .i64 x.fst::(an 61 (AV.list ET.str p2 Tk.fresh::AV.int .i64 p3::AV.int .i64 p4::(an 5 (AV.ptr 3 0::(an 64 [])))))))) (Hp.mk [zpB,[AV.int .i64 0],(pc x.snd.fst []),[AV.itr p5 x.snd.snd]] [4096] [] 0 0 0)
def uh (p1:Int) (p2:(List (List UInt8))) (p3:Int) (p4:Int) (p5:(List UInt8)):(Pos×Int) ⊕ (Int×Pos×Int)→Out
 | (.inl (y))=>.panic (AV.iface 69 (AV.agg [])) (Hp.mk [zpB,[AV.int .i64 0],(pc y.fst []),[AV.itr p5 y.snd]] [4096] [] 0 0 0)
 | (.inr (y))=>.exit 4 (St.mk (AV.ptr 2 0::(an 10 (AV.int .i64 p1::AV.any::AV.int .i64 y.fst::(an 61 (AV.list ET.str p2 Tk.fresh::AV.int .i64 p3::AV.int .i64 p4::(an 5 (AV.ptr 3 0::AV.tuple [AV.aO false]::AV.aO false::(an 62 [])))))))) (Hp.mk [zpB,[AV.int .i64 0],(pc y.snd.fst []),[AV.itr p5 y.snd.snd]] [4096] [] 0 0 0))
def lU (p1:Int) (p2:(List (List UInt8))) (p3:Int) (p4:Int) (p5:(List UInt8)) (x:(Int×Pos×Int)):aF (Int×Pos×Int) ((Pos×Int) ⊕ (Int×Pos×Int)):=(bif decide (x.snd.snd < Int.ofNat p5.length) then (bif (fw (Utf8.encode (az p5 x.snd.snd)).data.toList).snd then (bif decide (x.fst < 8) then (aF.go (wr .i64 (x.fst+1),Pos.mk x.snd.fst.variant (x.snd.fst.ag.set (scale 1 (wr .i64 (wr .i64 (8 * wr .i64 (7 - p1))+x.fst))).toNat (fw (Utf8.encode (az p5 x.snd.snd)).data.toList).fst) x.snd.fst.aa x.snd.fst.ae x.snd.fst.ao x.snd.fst.ah x.snd.fst.af x.snd.fst.ab x.snd.fst.half x.snd.fst.full,x.snd.snd+aE p5 x.snd.snd)) else (bif az p5 x.snd.snd==126 then (bif decide (x.fst > 0) then (aF.go (x.fst,Pos.mk x.snd.fst.variant x.snd.fst.ag (x.snd.fst.aa|||1#64 <<< (wr .i64 (wr .i64 (wr .i64 (8 * wr .i64 (7 - p1))+x.fst) - 1)).toNat) x.snd.fst.ae x.snd.fst.ao x.snd.fst.ah x.snd.fst.af x.snd.fst.ab x.snd.fst.half x.snd.fst.full,x.snd.snd+aE p5 x.snd.snd)) else (bif decide (az p5 x.snd.snd ≥ 49) then (bif !decide (az p5 x.snd.snd≤56) then (aF.out (.inl ((x.snd.fst,x.snd.snd+aE p5 x.snd.snd)))) else (aF.go (wr .i64 (x.fst+wr .i64 (wr .i32 (az p5 x.snd.snd - 48))),x.snd.fst,x.snd.snd+aE p5 x.snd.snd))) else (aF.out (.inl ((x.snd.fst,x.snd.snd+aE p5 x.snd.snd)))))) else (bif decide (az p5 x.snd.snd ≥ 49) then (bif !decide (az p5 x.snd.snd≤56) then (aF.out (.inl ((x.snd.fst,x.snd.snd+aE p5 x.snd.snd)))) else (aF.go (wr .i64 (x.fst+wr .i64 (wr .i32 (az p5 x.snd.snd - 48))),x.snd.fst,x.snd.snd+aE p5 x.snd.snd))) else (aF.out (.inl ((x.snd.fst,x.snd.snd+aE p5 x.snd.snd))))))) else (bif az p5 x.snd.snd==126 then (bif decide (x.fst > 0) then (aF.go (x.fst,Pos.mk x.snd.fst.variant x.snd.fst.ag (x.snd.fst.aa|||1#64 <<< (wr .i64 (wr .i64 (wr .i64 (8 * wr .i64 (7 - p1))+x.fst) - 1)).toNat) x.snd.fst.ae x.snd.fst.ao x.snd.fst.ah x.snd.fst.af x.snd.fst.ab x.snd.fst.half x.snd.fst.full,x.snd.snd+aE p5 x.snd.snd)) else (bif decide (az p5 x.snd.snd ≥ 49) then (bif !decide (az p5 x.snd.snd≤56) then (aF.out (.inl ((x.snd.fst,x.snd.snd+aE p5 x.snd.snd)))) else (aF.go (wr .i64 (x.fst+wr .i64 (wr .i32 (az p5 x.snd.snd - 48))),x.snd.fst,x.snd.snd+aE p5 x.snd.snd))) else (aF.out (.inl ((x.snd.fst,x.snd.snd+aE p5 x.snd.snd)))))) else (bif decide (az p5 x.snd.snd ≥ 49) then (bif !decide (az p5 x.snd.snd≤56) then (aF.out (.inl ((x.snd.fst,x.snd.snd+aE p5 x.snd.snd)))) else (aF.go (wr .i64 (x.fst+wr .i64 (wr .i32 (az p5 x.snd.snd - 48))),x.snd.fst,x.snd.snd+aE p5 x.snd.snd))) else (aF.out (.inl ((x.snd.fst,x.snd.snd+aE p5 x.snd.snd))))))) else (aF.out (.inr ((x.fst,x.snd.fst,x.snd.snd)))))
def iU (p1:Int) (p2:(List (List UInt8))) (p3:Int) (p4:Int) (p5:(List UInt8)) (x:(Int×Pos×Int)):Bool:=(bif decide (x.snd.snd < Int.ofNat p5.length) then (sL (Utf8.encode (az p5 x.snd.snd)).data.toList&&(bif (fw (Utf8.encode (az p5 x.snd.snd)).data.toList).snd then (bif decide (x.fst < 8) then (decide (0≤wr .i64 (wr .i64 (8 * wr .i64 (7 - p1))+x.fst))&&decide (wr .i64 (wr .i64 (8 * wr .i64 (7 - p1))+x.fst) < Int.ofNat 64)&&true) else (bif az p5 x.snd.snd==126 then (bif decide (x.fst > 0) then (decide (0≤wr .i64 (wr .i64 (wr .i64 (8 * wr .i64 (7 - p1))+x.fst) - 1))&&true) else true) else true)) else (bif az p5 x.snd.snd==126 then (bif decide (x.fst > 0) then (decide (0≤wr .i64 (wr .i64 (wr .i64 (8 * wr .i64 (7 - p1))+x.fst) - 1))&&true) else true) else true))) else true)
def eN (p1:Int) (p2:(List (List UInt8))) (p3:Int) (p4:Int) (p5:(List UInt8)) (x:(Int×Pos×Int)):Option ((Pos×Int) ⊕ (Int×Pos×Int)):=dh (fun x=>bif iU p1 p2 p3 p4 p5 x then lU p1 p2 p3 p4 p5 x else .bad) many x
theorem Tb (p1:Int) (p2:(List (List UInt8))) (p3:Int) (p4:Int) (p5:(List UInt8)) (x:(Int×Pos×Int)):lf Mc 12 46 (bz Pz 46 18) (De p1 p2 p3 p4 p5 x)=(let z3:=zpB; let z1:=(Tr.br (decide (az p5 x.snd.snd ≥ 49)) (Tr.br (!decide (az p5 x.snd.snd≤56)) (Tr.ret (Out.panic (AV.iface 69 (AV.agg [])) (Hp.mk [z3,[AV.int .i64 0],(pc x.snd.fst []),[AV.itr p5 (x.snd.snd+aE p5 x.snd.snd)]] [4096] [] 0 0 0))) (Tr.ret (Out.norm (St.mk (AV.ptr 2 0::(an 10 (AV.int .i64 p1::AV.any::AV.int .i64 (wr .i64 (x.fst+wr .i64 (wr .i32 (az p5 x.snd.snd - 48))))::(an 61 (AV.list ET.str p2 Tk.fresh::AV.int .i64 p3::AV.int .i64 p4::(an 5 (AV.ptr 3 0::(an 64 [])))))))) (Hp.mk [z3,[AV.int .i64 0],(pc x.snd.fst []),[AV.itr p5 (x.snd.snd+aE p5 x.snd.snd)]] [4096] [] 0 0 0))))) (Tr.ret (Out.panic (AV.iface 69 (AV.agg [])) (Hp.mk [z3,[AV.int .i64 0],(pc x.snd.fst []),[AV.itr p5 (x.snd.snd+aE p5 x.snd.snd)]] [4096] [] 0 0 0)))); let z4:=(wr .i64 (8 * wr .i64 (7 - p1))+x.fst); let z2:=(Tr.br (az p5 x.snd.snd==126) (Tr.br (decide (x.fst > 0)) (Tr.br (decide (0≤wr .i64 (wr .i64 z4 - 1))) (Tr.ret (Out.norm (St.mk (AV.ptr 2 0::(an 10 (AV.int .i64 p1::AV.any::AV.int .i64 x.fst::(an 61 (AV.list ET.str p2 Tk.fresh::AV.int .i64 p3::AV.int .i64 p4::(an 5 (AV.ptr 3 0::(an 64 [])))))))) (Hp.mk [z3,[AV.int .i64 0],[AV.int .u8 x.snd.fst.variant,AV.ints .u8 64 x.snd.fst.ag,AV.u64 (x.snd.fst.aa|||1#64 <<< (wr .i64 (wr .i64 z4 - 1)).toNat),AV.ints .u8 12 x.snd.fst.ae,AV.int .u8 x.snd.fst.ao,AV.ints .i8 4 x.snd.fst.ah,AV.int .i8 x.snd.fst.af,AV.ints .u8 2 x.snd.fst.ab,AV.int .i64 x.snd.fst.half,AV.int .i64 x.snd.fst.full],[AV.itr p5 (x.snd.snd+aE p5 x.snd.snd)]] [4096] [] 0 0 0)))) Tr.fail) z1) z1); let z5:=(Utf8.encode (az p5 x.snd.snd)); Tr.br (decide (x.snd.snd < Int.ofNat p5.length)) (Tr.br (sL z5.data.toList) (Tr.br (fw z5.data.toList).snd (Tr.br (decide (x.fst < 8)) (Tr.br (decide (0≤wr .i64 z4)&&decide (wr .i64 z4 < Int.ofNat 64)) (Tr.ret (Out.norm (St.mk (AV.ptr 2 0::(an 10 (AV.int .i64 p1::AV.any::AV.int .i64 (wr .i64 (x.fst+1))::(an 61 (AV.list ET.str p2 Tk.fresh::AV.int .i64 p3::AV.int .i64 p4::(an 5 (AV.ptr 3 0::(an 64 [])))))))) (Hp.mk [z3,[AV.int .i64 0],[AV.int .u8 x.snd.fst.variant,AV.ints .u8 64 (x.snd.fst.ag.set (scale 1 (wr .i64 z4)).toNat (fw z5.data.toList).fst),AV.u64 x.snd.fst.aa,AV.ints .u8 12 x.snd.fst.ae,AV.int .u8 x.snd.fst.ao,AV.ints .i8 4 x.snd.fst.ah,AV.int .i8 x.snd.fst.af,AV.ints .u8 2 x.snd.fst.ab,AV.int .i64 x.snd.fst.half,AV.int .i64 x.snd.fst.full],[AV.itr p5 (x.snd.snd+aE p5 x.snd.snd)]] [4096] [] 0 0 0)))) Tr.fail) z2) z2) Tr.fail) (Tr.ret (Out.exit 4 (St.mk (AV.ptr 2 0::(an 10 (AV.int .i64 p1::AV.any::AV.int .i64 x.fst::(an 61 (AV.list ET.str p2 Tk.fresh::AV.int .i64 p3::AV.int .i64 p4::(an 5 (AV.ptr 3 0::AV.tuple [AV.aO false]::AV.aO false::(an 62 [])))))))) (Hp.mk [z3,[AV.int .i64 0],(pc x.snd.fst []),[AV.itr p5 x.snd.snd]] [4096] [] 0 0 0))))):=by kernel_rfl
theorem SJ (p1:Int) (p2:(List (List UInt8))) (p3:Int) (p4:Int) (p5:(List UInt8)) (x:(Int×Pos×Int)) (r:(Pos×Int) ⊕ (Int×Pos×Int)) (h:eN p1 p2 p3 p4 p5 x=some r):aD Pz (bz Pz 46 18) (De p1 p2 p3 p4 p5 x) (uh p1 p2 p3 p4 p5 r):=aD.H6 (S:=De p1 p2 p3 p4 p5) (O:=uh p1 p2 p3 p4 p5) (ok:=iU p1 p2 p3 p4 p5) (st:=lU p1 p2 p3 p4 p5) QA (fun x=>pY (Tb p1 p2 p3 p4 p5 x) (bT (aG (bT (bT (aG (aB (dM (ay (ks:=(rn 1 10 (12::(rn 14 61 (rn 78 5 (rn 84 64 [])))))) (gs:=[11,13,75,76,77]) (b:=true) rfl (by kernel_rfl))))) (bT (bT (aG (aB (dM (ay (ks:=(rn 1 10 (12::(rn 14 61 (rn 78 5 (rn 84 64 [])))))) (gs:=[11,13,75,76,77]) (b:=true) rfl (by kernel_rfl))))) (cX (cX (aB (cm rfl (ay (ks:=[]) (gs:=[]) (b:=true) rfl (by kernel_rfl)))) (aB (dM (ay (ks:=(rn 1 10 (12::(rn 14 61 (rn 78 5 (rn 84 64 [])))))) (gs:=[11,13,75,76,77]) (b:=true) rfl (by kernel_rfl))))) (aB (cm rfl (ay (ks:=[]) (gs:=[]) (b:=true) rfl (by kernel_rfl)))))) (cX (cX (aB (cm rfl (ay (ks:=[]) (gs:=[]) (b:=true) rfl (by kernel_rfl)))) (aB (dM (ay (ks:=(rn 1 10 (12::(rn 14 61 (rn 78 5 (rn 84 64 [])))))) (gs:=[11,13,75,76,77]) (b:=true) rfl (by kernel_rfl))))) (aB (cm rfl (ay (ks:=[]) (gs:=[]) (b:=true) rfl (by kernel_rfl))))))) (bT (bT (aG (aB (dM (ay (ks:=(rn 1 10 (12::(rn 14 61 (rn 78 5 (rn 84 64 [])))))) (gs:=[11,13,75,76,77]) (b:=true) rfl (by kernel_rfl))))) (cX (cX (aB (cm rfl (ay (ks:=[]) (gs:=[]) (b:=true) rfl (by kernel_rfl)))) (aB (dM (ay (ks:=(rn 1 10 (12::(rn 14 61 (rn 78 5 (rn 84 64 [])))))) (gs:=[11,13,75,76,77]) (b:=true) rfl (by kernel_rfl))))) (aB (cm rfl (ay (ks:=[]) (gs:=[]) (b:=true) rfl (by kernel_rfl)))))) (cX (cX (aB (cm rfl (ay (ks:=[]) (gs:=[]) (b:=true) rfl (by kernel_rfl)))) (aB (dM (ay (ks:=(rn 1 10 (12::(rn 14 61 (rn 78 5 (rn 84 64 [])))))) (gs:=[11,13,75,76,77]) (b:=true) rfl (by kernel_rfl))))) (aB (cm rfl (ay (ks:=[]) (gs:=[]) (b:=true) rfl (by kernel_rfl)))))))) (aB (jf rfl (ay (ks:=(rn 1 10 (12::(rn 14 61 (rn 78 5 (rn 86 62 [])))))) (gs:=[]) (b:=false) rfl (by kernel_rfl)))))) many x r h
def iS:Code→St→Tr Out:=fun b s=>.br (bP ((eN (tI (tT s 11)) (tL (ET.str) (tT s 75)) (tI (tT s 76)) (tI (tT s 77)) (kp (tH s 3 0)) ((tI (tT s 13)),(dP s 2),(nV (tH s 3 0)))).getD default)) (gS Pz (fun s=>uh (tI (tT s 11)) (tL (ET.str) (tT s 75)) (tI (tT s 76)) (tI (tT s 77)) (kp (tH s 3 0)) (.inl (gl ((eN (tI (tT s 11)) (tL (ET.str) (tT s 75)) (tI (tT s 76)) (tI (tT s 77)) (kp (tH s 3 0)) ((tI (tT s 13)),(dP s 2),(nV (tH s 3 0)))).getD default)))) b s) (gS Pz (fun s=>uh (tI (tT s 11)) (tL (ET.str) (tT s 75)) (tI (tT s 76)) (tI (tT s 77)) (kp (tH s 3 0)) (.inr (gr ((eN (tI (tT s 11)) (tL (ET.str) (tT s 75)) (tI (tT s 76)) (tI (tT s 77)) (kp (tH s 3 0)) ((tI (tT s 13)),(dP s 2),(nV (tH s 3 0)))).getD default)))) b s)
theorem gb:∀ b,bq Pz b (iS b):=ga (c:=fun s=>bP ((eN (tI (tT s 11)) (tL (ET.str) (tT s 75)) (tI (tT s 76)) (tI (tT s 77)) (kp (tH s 3 0)) ((tI (tT s 13)),(dP s 2),(nV (tH s 3 0)))).getD default)) cf cf
abbrev cs21_1 (s:St):Bool:=Kz.EI [0,11,13,75,76,77,83] s==[132,3,3,11,3,3,164,10,3,7,4,7,3,7,3,7,3,3,1,3,10,3,7,4,7,3,7,3,7,3,3,1,20,1,20]
abbrev cs21_2 (s:St):Bool:=Kz.EI [0,11,13,75,76,77,83] s==[132,3,3,11,3,3,148,10,3,7,4,7,3,7,3,7,3,3,1,3,10,3,7,4,7,3,7,3,7,3,3,1,20]
def MV:aT:=aA Pz (fun f i=>tu f i ya) [(65,o6),(66,sH),(81,wm),(82,vG),(83,wO),(84,wM),(86,wQ),(87,wR),(88,wK),(120,kG)] [(46,6,gN),(46,18,fun b s=>(bif cs21_1 s then hT b s else (bif cs21_2 s then iS b s else .fail))),(46,14,iy)] []
theorem NU:cr MV:=ar aq ⟨pV,sZ,wX,wS,yz,xe,xZ,xK,yH,lT,trivial⟩ ⟨eK,(aJ (c:=cs21_1) e9 (aJ (c:=cs21_2) gb bC)),fH,trivial⟩ trivial
def Dy (p1:(List (List UInt8))) (p2:Int) (x:(Int×Pos)):St:=St.mk (AV.ptr 2 0::(an 74 (AV.list ET.str p1 Tk.fresh::AV.int .i64 p2::AV.int .i64 x.fst::(an 70 [])))) (Hp.mk [zpB,[AV.int .i64 0],(pc x.snd [])] [4096] [] 0 0 0)
def ui (p1:(List (List UInt8))) (p2:Int):(Pos) ⊕ (Int×Bool×Pos)→Out
 | (.inl (y))=>.panic (AV.iface 69 (AV.agg [])) (Hp.mk [zpB,[AV.int .i64 0],(pc y [])] [4096] [] 0 0 0)
 | (.inr (y))=>.exit 2 (St.mk (AV.ptr 2 0::(an 74 (AV.list ET.str p1 Tk.fresh::AV.int .i64 p2::AV.int .i64 y.fst::AV.bool y.snd.fst::(an 69 [])))) (Hp.mk [zpB,[AV.int .i64 0],(pc y.snd.snd [])] [4096] [] 0 0 0))
def nw (p1:(List (List UInt8))) (p2:Int) (x:(Int×Pos)):aF (Int×Pos) ((Pos) ⊕ (Int×Bool×Pos)):=(bif decide (x.fst < p2) then (bif bP ((eN x.fst p1 p2 x.fst (p1.getD x.fst.toNat default) (0,x.snd,0)).getD default) then (aF.out (.inl (((gl ((eN x.fst p1 p2 x.fst (p1.getD x.fst.toNat default) (0,x.snd,0)).getD default)).fst)))) else (bif !(gr ((eN x.fst p1 p2 x.fst (p1.getD x.fst.toNat default) (0,x.snd,0)).getD default)).fst==8 then (aF.out (.inl (((gr ((eN x.fst p1 p2 x.fst (p1.getD x.fst.toNat default) (0,x.snd,0)).getD default)).snd.fst)))) else (aF.go (wr .i64 (x.fst+1),(gr ((eN x.fst p1 p2 x.fst (p1.getD x.fst.toNat default) (0,x.snd,0)).getD default)).snd.fst)))) else (aF.out (.inr ((x.fst,decide (x.fst < p2),x.snd)))))
def kf (p1:(List (List UInt8))) (p2:Int) (x:(Int×Pos)):Bool:=(bif decide (x.fst < p2) then (decide (0≤x.fst)&&decide (x.fst < Int.ofNat p1.length)&&((eN x.fst p1 p2 x.fst (p1.getD x.fst.toNat default) (0,x.snd,0)).isSome&&bif bP ((eN x.fst p1 p2 x.fst (p1.getD x.fst.toNat default) (0,x.snd,0)).getD default) then true else true)) else true)
def gp (p1:(List (List UInt8))) (p2:Int) (x:(Int×Pos)):Option ((Pos) ⊕ (Int×Bool×Pos)):=dh (fun x=>bif kf p1 p2 x then nw p1 p2 x else .bad) many x
theorem UD (p1:(List (List UInt8))) (p2:Int) (x:(Int×Pos)):lf MV 12 46 (bz Pz 46 14) (Dy p1 p2 x)=(let z1:=zpB; let z2:=((eN x.fst p1 p2 x.fst (p1.getD x.fst.toNat default) (0,x.snd,0)).getD default); let z3:=(St.mk (AV.ptr 2 0::(an 10 (AV.int .i64 x.fst::AV.any::AV.bu .i64 0::(an 61 (AV.list ET.str p1 Tk.fresh::AV.int .i64 p2::AV.int .i64 x.fst::(an 5 (AV.ptr 3 0::(an 64 [])))))))) (Hp.mk [z1,[AV.int .i64 0],(pc x.snd []),[AV.itr (p1.getD x.fst.toNat default) 0]] [4096] [] 0 0 0)); let z4:=(Hp.mk [z1,[AV.int .i64 0],(pc (gr z2).snd.fst [])] [4096] [] 0 0 0); Tr.br (decide (x.fst < p2)) (Tr.br (decide (0≤x.fst)&&decide (x.fst < Int.ofNat p1.length)) (Tr.br (bP z2) (Tr.br (jj Pz (bz Pz 46 18) z3 (uh x.fst p1 p2 x.fst (p1.getD x.fst.toNat default) (Sum.inl (gl z2)))) (Tr.ret (Out.panic (AV.iface 69 (AV.agg [])) (Hp.mk [z1,[AV.int .i64 0],(pc (gl z2).fst [])] [4096] [] 0 0 0))) Tr.fail) (Tr.br (jj Pz (bz Pz 46 18) z3 (uh x.fst p1 p2 x.fst (p1.getD x.fst.toNat default) (Sum.inr (gr z2)))) (Tr.br (!(gr z2).fst==8) (Tr.ret (Out.panic (AV.iface 69 (AV.agg [])) z4)) (Tr.ret (Out.norm (St.mk (AV.ptr 2 0::(an 74 (AV.list ET.str p1 Tk.fresh::AV.int .i64 p2::AV.int .i64 (wr .i64 (x.fst+1))::(an 70 [])))) z4)))) Tr.fail)) Tr.fail) (Tr.ret (Out.exit 2 (St.mk (AV.ptr 2 0::(an 74 (AV.list ET.str p1 Tk.fresh::AV.int .i64 p2::AV.int .i64 x.fst::AV.bool (decide (x.fst < p2))::(an 69 [])))) (Hp.mk [z1,[AV.int .i64 0],(pc x.snd [])] [4096] [] 0 0 0))))):=by kernel_rfl
theorem Sv (p1:(List (List UInt8))) (p2:Int) (x:(Int×Pos)) (r:(Pos) ⊕ (Int×Bool×Pos)) (h:gp p1 p2 x=some r):aD Pz (bz Pz 46 14) (Dy p1 p2 x) (ui p1 p2 r):=aD.H6 (S:=Dy p1 p2) (O:=ui p1 p2) (ok:=kf p1 p2) (st:=nw p1 p2) NU (fun x=>pY (UD p1 p2 x) (bT (aG (iz (fun h=>SJ (x.fst) (p1) (p2) (x.fst) (p1.getD x.fst.toNat default) ((0,x.snd,0)) _ (dT h)) (ay (ks:=(rn 1 10 (12::(rn 14 61 (rn 78 5 (rn 84 64 [])))))) (gs:=[11,13,75,76,77]) (b:=true) rfl (by kernel_rfl)) (aB (cm rfl (ay (ks:=[]) (gs:=[]) (b:=true) rfl (by kernel_rfl)))) (cX (aB (cm rfl (ay (ks:=[]) (gs:=[]) (b:=true) rfl (by kernel_rfl)))) (aB (dM (ay (ks:=(rn 1 74 (rn 78 70 []))) (gs:=[75,76,77]) (b:=true) rfl (by kernel_rfl))))))) (aB (jf rfl (ay (ks:=(rn 1 74 (rn 79 69 []))) (gs:=[]) (b:=false) rfl (by kernel_rfl)))))) many x r h
def jt:Code→St→Tr Out:=fun b s=>.br (bP ((gp (tL (ET.str) (tT s 75)) (tI (tT s 76)) ((tI (tT s 77)),(dP s 2))).getD default)) (gS Pz (fun s=>ui (tL (ET.str) (tT s 75)) (tI (tT s 76)) (.inl (gl ((gp (tL (ET.str) (tT s 75)) (tI (tT s 76)) ((tI (tT s 77)),(dP s 2))).getD default)))) b s) (gS Pz (fun s=>ui (tL (ET.str) (tT s 75)) (tI (tT s 76)) (.inr (gr ((gp (tL (ET.str) (tT s 75)) (tI (tT s 76)) ((tI (tT s 77)),(dP s 2))).getD default)))) b s)
theorem hE:∀ b,bq Pz b (jt b):=ga (c:=fun s=>bP ((gp (tL (ET.str) (tT s 75)) (tI (tT s 76)) ((tI (tT s 77)),(dP s 2))).getD default)) cf cf
abbrev cs21_3 (s:St):Bool:=Kz.EI [0,75,76,77] s==[132,11,3,3,10,3,7,4,7,3,7,3,7,3,3,1,3,10,3,7,4,7,3,7,3,7,3,3,1,20]
abbrev cs21_4 (s:St):Bool:=Kz.EI [0,75,76,77] s==[132,11,3,3,10,3,7,4,7,3,7,3,7,3,3,1,3,10,3,7,4,7,3,7,3,7,3,3]
def M9:aT:=aA Pz (fun f i=>tu f i ya) [(65,o6),(66,sH),(81,wm),(82,vG),(83,wO),(84,wM),(86,wQ),(87,wR),(88,wK),(120,kG)] [(46,6,gN),(46,18,fun b s=>(bif cs21_1 s then hT b s else (bif cs21_2 s then iS b s else .fail))),(46,14,fun b s=>(bif cs21_3 s then iy b s else (bif cs21_4 s then jt b s else .fail)))] []
theorem Pp:cr M9:=ar aq ⟨pV,sZ,wX,wS,yz,xe,xZ,xK,yH,lT,trivial⟩ ⟨eK,(aJ (c:=cs21_1) e9 (aJ (c:=cs21_2) gb bC)),(aJ (c:=cs21_3) fH (aJ (c:=cs21_4) hE bC)),trivial⟩ trivial
def Ly (p1:(List UInt8)) (p2:Pos):List AV:=[AV.ptr 2 0,AV.str p1]
def ME (p1:(List UInt8)) (p2:Pos):Hp:=Hp.mk [zpB,[AV.int .i64 0],(pc p2 [])] [4096] [] 0 0 0
def p8 (p1:(List UInt8)) (p2:Pos):((Pos) ⊕ (Pos))→aW
 | .inl y=>.ret (AV.tuple []) (Hp.mk [zpB,[AV.int .i64 0],(pc y [])] [4096] [] 0 0 0)
 | .inr y=>.panic (AV.iface 69 (AV.agg [])) (Hp.mk [zpB,[AV.int .i64 0],(pc y [])] [4096] [] 0 0 0)
def aN (p1:(List UInt8)) (p2:Pos):((Pos) ⊕ (Pos)):=(bif ql p2.variant then (bif !(Lib.cut (ey p1 (ByteArray.mk #[93]).data.toList) (ByteArray.mk #[91]).data.toList).snd.snd then (.inr (p2)) else (bif bP ((cO (Lib.cut (ey p1 (ByteArray.mk #[93]).data.toList) (ByteArray.mk #[91]).data.toList).fst (Lib.cut (ey p1 (ByteArray.mk #[93]).data.toList) (ByteArray.mk #[91]).data.toList).snd.fst (p2,0)).getD default) then (.inr ((gl ((cO (Lib.cut (ey p1 (ByteArray.mk #[93]).data.toList) (ByteArray.mk #[91]).data.toList).fst (Lib.cut (ey p1 (ByteArray.mk #[93]).data.toList) (ByteArray.mk #[91]).data.toList).snd.fst (p2,0)).getD default)).fst)) else (bif !Int.ofNat (ai (Lib.cut (ey p1 (ByteArray.mk #[93]).data.toList) (ByteArray.mk #[91]).data.toList).fst (ByteArray.mk #[47]).data.toList).length==8 then (.inr ((gr ((cO (Lib.cut (ey p1 (ByteArray.mk #[93]).data.toList) (ByteArray.mk #[91]).data.toList).fst (Lib.cut (ey p1 (ByteArray.mk #[93]).data.toList) (ByteArray.mk #[91]).data.toList).snd.fst (p2,0)).getD default)).fst)) else (bif bP ((df (ai (Lib.cut (ey p1 (ByteArray.mk #[93]).data.toList) (ByteArray.mk #[91]).data.toList).fst (ByteArray.mk #[47]).data.toList) (Int.ofNat (ai (Lib.cut (ey p1 (ByteArray.mk #[93]).data.toList) (ByteArray.mk #[91]).data.toList).fst (ByteArray.mk #[47]).data.toList).length) (Lib.cut (ey p1 (ByteArray.mk #[93]).data.toList) (ByteArray.mk #[91]).data.toList).snd.fst (gr ((cO (Lib.cut (ey p1 (ByteArray.mk #[93]).data.toList) (ByteArray.mk #[91]).data.toList).fst (Lib.cut (ey p1 (ByteArray.mk #[93]).data.toList) (ByteArray.mk #[91]).data.toList).snd.fst (p2,0)).getD default)).snd (0,(gr ((cO (Lib.cut (ey p1 (ByteArray.mk #[93]).data.toList) (ByteArray.mk #[91]).data.toList).fst (Lib.cut (ey p1 (ByteArray.mk #[93]).data.toList) (ByteArray.mk #[91]).data.toList).snd.fst (p2,0)).getD default)).fst)).getD default) then (.inr (gl ((df (ai (Lib.cut (ey p1 (ByteArray.mk #[93]).data.toList) (ByteArray.mk #[91]).data.toList).fst (ByteArray.mk #[47]).data.toList) (Int.ofNat (ai (Lib.cut (ey p1 (ByteArray.mk #[93]).data.toList) (ByteArray.mk #[91]).data.toList).fst (ByteArray.mk #[47]).data.toList).length) (Lib.cut (ey p1 (ByteArray.mk #[93]).data.toList) (ByteArray.mk #[91]).data.toList).snd.fst (gr ((cO (Lib.cut (ey p1 (ByteArray.mk #[93]).data.toList) (ByteArray.mk #[91]).data.toList).fst (Lib.cut (ey p1 (ByteArray.mk #[93]).data.toList) (ByteArray.mk #[91]).data.toList).snd.fst (p2,0)).getD default)).snd (0,(gr ((cO (Lib.cut (ey p1 (ByteArray.mk #[93]).data.toList) (ByteArray.mk #[91]).data.toList).fst (Lib.cut (ey p1 (ByteArray.mk #[93]).data.toList) (ByteArray.mk #[91]).data.toList).snd.fst (p2,0)).getD default)).fst)).getD default))) else (.inl ((gr ((df (ai (Lib.cut (ey p1 (ByteArray.mk #[93]).data.toList) (ByteArray.mk #[91]).data.toList).fst (ByteArray.mk #[47]).data.toList) (Int.ofNat (ai (Lib.cut (ey p1 (ByteArray.mk #[93]).data.toList) (ByteArray.mk #[91]).data.toList).fst (ByteArray.mk #[47]).data.toList).length) (Lib.cut (ey p1 (ByteArray.mk #[93]).data.toList) (ByteArray.mk #[91]).data.toList).snd.fst (gr ((cO (Lib.cut (ey p1 (ByteArray.mk #[93]).data.toList) (ByteArray.mk #[91]).data.toList).fst (Lib.cut (ey p1 (ByteArray.mk #[93]).data.toList) (ByteArray.mk #[91]).data.toList).snd.fst (p2,0)).getD default)).snd (0,(gr ((cO (Lib.cut (ey p1 (ByteArray.mk #[93]).data.toList) (ByteArray.mk #[91]).data.toList).fst (Lib.cut (ey p1 (ByteArray.mk #[93]).data.toList) (ByteArray.mk #[91]).data.toList).snd.fst (p2,0)).getD default)).fst)).getD default)).snd.snd)))))) else (bif !Int.ofNat (ai p1 (ByteArray.mk #[47]).data.toList).length==8 then (.inr (p2)) else (bif bP ((gp (ai p1 (ByteArray.mk #[47]).data.toList) (Int.ofNat (ai p1 (ByteArray.mk #[47]).data.toList).length) (0,p2)).getD default) then (.inr (gl ((gp (ai p1 (ByteArray.mk #[47]).data.toList) (Int.ofNat (ai p1 (ByteArray.mk #[47]).data.toList).length) (0,p2)).getD default))) else (.inl ((gr ((gp (ai p1 (ByteArray.mk #[47]).data.toList) (Int.ofNat (ai p1 (ByteArray.mk #[47]).data.toList).length) (0,p2)).getD default)).snd.snd)))))
def ic (p1:(List UInt8)) (p2:Pos):Bool:=(sI p2.variant&&(bif ql p2.variant then (B0 p1 (ByteArray.mk #[93]).data.toList&&(um (ey p1 (ByteArray.mk #[93]).data.toList) (ByteArray.mk #[91]).data.toList&&(bif !(Lib.cut (ey p1 (ByteArray.mk #[93]).data.toList) (ByteArray.mk #[91]).data.toList).snd.snd then true else ((cO (Lib.cut (ey p1 (ByteArray.mk #[93]).data.toList) (ByteArray.mk #[91]).data.toList).fst (Lib.cut (ey p1 (ByteArray.mk #[93]).data.toList) (ByteArray.mk #[91]).data.toList).snd.fst (p2,0)).isSome&&bif bP ((cO (Lib.cut (ey p1 (ByteArray.mk #[93]).data.toList) (ByteArray.mk #[91]).data.toList).fst (Lib.cut (ey p1 (ByteArray.mk #[93]).data.toList) (ByteArray.mk #[91]).data.toList).snd.fst (p2,0)).getD default) then true else (ez (Lib.cut (ey p1 (ByteArray.mk #[93]).data.toList) (ByteArray.mk #[91]).data.toList).fst (ByteArray.mk #[47]).data.toList&&(bif !Int.ofNat (ai (Lib.cut (ey p1 (ByteArray.mk #[93]).data.toList) (ByteArray.mk #[91]).data.toList).fst (ByteArray.mk #[47]).data.toList).length==8 then true else ((df (ai (Lib.cut (ey p1 (ByteArray.mk #[93]).data.toList) (ByteArray.mk #[91]).data.toList).fst (ByteArray.mk #[47]).data.toList) (Int.ofNat (ai (Lib.cut (ey p1 (ByteArray.mk #[93]).data.toList) (ByteArray.mk #[91]).data.toList).fst (ByteArray.mk #[47]).data.toList).length) (Lib.cut (ey p1 (ByteArray.mk #[93]).data.toList) (ByteArray.mk #[91]).data.toList).snd.fst (gr ((cO (Lib.cut (ey p1 (ByteArray.mk #[93]).data.toList) (ByteArray.mk #[91]).data.toList).fst (Lib.cut (ey p1 (ByteArray.mk #[93]).data.toList) (ByteArray.mk #[91]).data.toList).snd.fst (p2,0)).getD default)).snd (0,(gr ((cO (Lib.cut (ey p1 (ByteArray.mk #[93]).data.toList) (ByteArray.mk #[91]).data.toList).fst (Lib.cut (ey p1 (ByteArray.mk #[93]).data.toList) (ByteArray.mk #[91]).data.toList).snd.fst (p2,0)).getD default)).fst)).isSome&&bif bP ((df (ai (Lib.cut (ey p1 (ByteArray.mk #[93]).data.toList) (ByteArray.mk #[91]).data.toList).fst (ByteArray.mk #[47]).data.toList) (Int.ofNat (ai (Lib.cut (ey p1 (ByteArray.mk #[93]).data.toList) (ByteArray.mk #[91]).data.toList).fst (ByteArray.mk #[47]).data.toList).length) (Lib.cut (ey p1 (ByteArray.mk #[93]).data.toList) (ByteArray.mk #[91]).data.toList).snd.fst (gr ((cO (Lib.cut (ey p1 (ByteArray.mk #[93]).data.toList) (ByteArray.mk #[91]).data.toList).fst (Lib.cut (ey p1 (ByteArray.mk #[93]).data.toList) (ByteArray.mk #[91]).data.toList).snd.fst (p2,0)).getD default)).snd (0,(gr ((cO (Lib.cut (ey p1 (ByteArray.mk #[93]).data.toList) (ByteArray.mk #[91]).data.toList).fst (Lib.cut (ey p1 (ByteArray.mk #[93]).data.toList) (ByteArray.mk #[91]).data.toList).snd.fst (p2,0)).getD default)).fst)).getD default) then true else true))))))) else (ez p1 (ByteArray.mk #[47]).data.toList&&(bif !Int.ofNat (ai p1 (ByteArray.mk #[47]).data.toList).length==8 then true else ((gp (ai p1 (ByteArray.mk #[47]).data.toList) (Int.ofNat (ai p1 (ByteArray.mk #[47]).data.toList).length) (0,p2)).isSome&&bif bP ((gp (ai p1 (ByteArray.mk #[47]).data.toList) (Int.ofNat (ai p1 (ByteArray.mk #[47]).data.toList).length) (0,p2)).getD default) then true else true)))))
theorem PB (p1:(List UInt8)) (p2:Pos):lO M9 14 46 (Ly p1 p2) (ME p1 p2)=(let z1:=(Lib.cut (ey p1 (ByteArray.mk #[93]).data.toList) (ByteArray.mk #[91]).data.toList); let z2:=zpB; let z4:=(ai p1 (ByteArray.mk #[47]).data.toList); let z5:=((cO z1.fst z1.snd.fst (p2,0)).getD default); let z6:=(ai z1.fst (ByteArray.mk #[47]).data.toList); let z3:=((df z6 (Int.ofNat z6.length) z1.snd.fst (gr z5).snd (0,(gr z5).fst)).getD default); let z8:=((gp z4 (Int.ofNat z4.length) (0,p2)).getD default); let z11:=(AV.iface 69 (AV.agg [])); let z12:=[AV.int .i64 0]; let z7:=(St.mk (AV.ptr 2 0::(an 74 (AV.list ET.str z6 Tk.fresh::AV.int .i64 (Int.ofNat z6.length)::AV.bu .i64 0::(an 70 [])))) (Hp.mk [z2,z12,(pc (gr z5).fst []),[AV.itr z1.snd.fst (gr z5).snd]] [4096] [] 0 0 0)); let z9:=(St.mk (AV.ptr 2 0::(an 74 (AV.list ET.str z4 Tk.fresh::AV.int .i64 (Int.ofNat z4.length)::AV.bu .i64 0::(an 70 [])))) (Hp.mk [z2,z12,(pc p2 [])] [4096] [] 0 0 0)); let z10:=(St.mk (AV.ptr 2 0::AV.str z1.fst::(an 33 (AV.ptr 3 0::(an 112 [])))) (Hp.mk [z2,z12,(pc p2 []),[AV.itr z1.snd.fst 0]] [4096] [] 0 0 0)); let z13:=(Tr.ret (aW.panic z11 (Hp.mk [z2,z12,(pc p2 [])] [4096] [] 0 0 0))); Tr.br (sI p2.variant) (Tr.br (ql p2.variant) (Tr.br (B0 p1 (ByteArray.mk #[93]).data.toList) (Tr.br (um (ey p1 (ByteArray.mk #[93]).data.toList) (ByteArray.mk #[91]).data.toList) (Tr.br (!z1.snd.snd) z13 (Tr.br (bP z5) (Tr.br (jj Pz (bz Pz 46 6) z10 (uR z1.fst z1.snd.fst (Sum.inl (gl z5)))) (Tr.ret (aW.panic z11 (Hp.mk [z2,z12,(pc (gl z5).fst [])] [4096] [] 0 0 0))) Tr.fail) (Tr.br (jj Pz (bz Pz 46 6) z10 (uR z1.fst z1.snd.fst (Sum.inr (gr z5)))) (Tr.br (ez z1.fst (ByteArray.mk #[47]).data.toList) (Tr.br (!Int.ofNat z6.length==8) (Tr.ret (aW.panic z11 (Hp.mk [z2,z12,(pc (gr z5).fst [])] [4096] [] 0 0 0))) (Tr.br (bP z3) (Tr.br (jj Pz (bz Pz 46 14) z7 (uO z6 (Int.ofNat z6.length) z1.snd.fst (gr z5).snd (Sum.inl (gl z3)))) (Tr.ret (aW.panic z11 (Hp.mk [z2,z12,(pc (gl z3) [])] [4096] [] 0 0 0))) Tr.fail) (Tr.br (jj Pz (bz Pz 46 14) z7 (uO z6 (Int.ofNat z6.length) z1.snd.fst (gr z5).snd (Sum.inr (gr z3)))) (Tr.ret (aW.ret (AV.tuple []) (Hp.mk [z2,z12,(pc (gr z3).snd.snd [])] [4096] [] 0 0 0))) Tr.fail))) Tr.fail) Tr.fail))) Tr.fail) Tr.fail) (Tr.br (ez p1 (ByteArray.mk #[47]).data.toList) (Tr.br (!Int.ofNat z4.length==8) z13 (Tr.br (bP z8) (Tr.br (jj Pz (bz Pz 46 14) z9 (ui z4 (Int.ofNat z4.length) (Sum.inl (gl z8)))) (Tr.ret (aW.panic z11 (Hp.mk [z2,z12,(pc (gl z8) [])] [4096] [] 0 0 0))) Tr.fail) (Tr.br (jj Pz (bz Pz 46 14) z9 (ui z4 (Int.ofNat z4.length) (Sum.inr (gr z8)))) (Tr.ret (aW.ret (AV.tuple []) (Hp.mk [z2,z12,(pc (gr z8).snd.snd [])] [4096] [] 0 0 0))) Tr.fail))) Tr.fail)) Tr.fail):=by kernel_rfl
theorem GF (p1:(List UInt8)) (p2:Pos) (h:ic p1 p2=true):cy Pz 46 (Ly p1 p2) (ME p1 p2) (p8 p1 p2 (aN p1 p2))∧∃ fn,Pz.funcs[46]?=some fn∧fn.body.isSome=true:=gC (O:=p8 p1 p2) Pp (PB p1 p2) (aG (bT (aG (aG (bT (aB (cE rfl (ay (ks:=[]) (gs:=[]) (b:=true) rfl (by kernel_rfl)))) (iz (fun h=>Rh ((Lib.cut (ey p1 (ByteArray.mk #[93]).data.toList) (ByteArray.mk #[91]).data.toList).fst) ((Lib.cut (ey p1 (ByteArray.mk #[93]).data.toList) (ByteArray.mk #[91]).data.toList).snd.fst) ((p2,0)) _ (dT h)) (ay (ks:=(rn 2 33 (rn 36 112 []))) (gs:=[1]) (b:=true) rfl (by kernel_rfl)) (aB (cE rfl (ay (ks:=[]) (gs:=[]) (b:=true) rfl (by kernel_rfl)))) (aG (bT (aB (cE rfl (ay (ks:=[]) (gs:=[]) (b:=true) rfl (by kernel_rfl)))) (iz (fun h=>RU (ai (Lib.cut (ey p1 (ByteArray.mk #[93]).data.toList) (ByteArray.mk #[91]).data.toList).fst (ByteArray.mk #[47]).data.toList) (Int.ofNat (ai (Lib.cut (ey p1 (ByteArray.mk #[93]).data.toList) (ByteArray.mk #[91]).data.toList).fst (ByteArray.mk #[47]).data.toList).length) ((Lib.cut (ey p1 (ByteArray.mk #[93]).data.toList) (ByteArray.mk #[91]).data.toList).snd.fst) ((gr ((cO (Lib.cut (ey p1 (ByteArray.mk #[93]).data.toList) (ByteArray.mk #[91]).data.toList).fst (Lib.cut (ey p1 (ByteArray.mk #[93]).data.toList) (ByteArray.mk #[91]).data.toList).snd.fst (p2,0)).getD default)).snd) ((0,(gr ((cO (Lib.cut (ey p1 (ByteArray.mk #[93]).data.toList) (ByteArray.mk #[91]).data.toList).fst (Lib.cut (ey p1 (ByteArray.mk #[93]).data.toList) (ByteArray.mk #[91]).data.toList).snd.fst (p2,0)).getD default)).fst)) _ (dT h)) (ay (ks:=(rn 1 74 (rn 78 70 []))) (gs:=[75,76,77]) (b:=true) rfl (by kernel_rfl)) (aB (cE rfl (ay (ks:=[]) (gs:=[]) (b:=true) rfl (by kernel_rfl)))) (aB (eL rfl (ay (ks:=[]) (gs:=[]) (b:=true) rfl (by kernel_rfl))))))))))) (aG (bT (aB (cE rfl (ay (ks:=[]) (gs:=[]) (b:=true) rfl (by kernel_rfl)))) (iz (fun h=>Sv (ai p1 (ByteArray.mk #[47]).data.toList) (Int.ofNat (ai p1 (ByteArray.mk #[47]).data.toList).length) ((0,p2)) _ (dT h)) (ay (ks:=(rn 1 74 (rn 78 70 []))) (gs:=[75,76,77]) (b:=true) rfl (by kernel_rfl)) (aB (cE rfl (ay (ks:=[]) (gs:=[]) (b:=true) rfl (by kernel_rfl)))) (aB (eL rfl (ay (ks:=[]) (gs:=[]) (b:=true) rfl (by kernel_rfl))))))))) h
def gZ:List AV→Hp→Tr aW:=fun xs h=>.br (bP (aN (tS (tT ⟨xs,h⟩ 1)) (dP ⟨xs,h⟩ 2))) (fq Pz 46 (fun xs h=>p8 (tS (tT ⟨xs,h⟩ 1)) (dP ⟨xs,h⟩ 2) (.inl (gl (aN (tS (tT ⟨xs,h⟩ 1)) (dP ⟨xs,h⟩ 2))))) xs h) (fq Pz 46 (fun xs h=>p8 (tS (tT ⟨xs,h⟩ 1)) (dP ⟨xs,h⟩ 2) (.inr (gr (aN (tS (tT ⟨xs,h⟩ 1)) (dP ⟨xs,h⟩ 2))))) xs h)
theorem fF:ct Pz 46 gZ:=eH (c:=fun xs h=>bP (aN (tS (tT ⟨xs,h⟩ 1)) (dP ⟨xs,h⟩ 2))) bU bU
def Nf:aT:=aA Pz (fun f i=>tu f i ya) [(65,o6),(66,sH),(81,wm),(82,vG),(83,wO),(84,wM),(86,wQ),(87,wR),(88,wK),(120,kG)] [(46,6,gN),(46,18,fun b s=>(bif cs21_1 s then hT b s else (bif cs21_2 s then iS b s else .fail))),(46,14,fun b s=>(bif cs21_3 s then iy b s else (bif cs21_4 s then jt b s else .fail)))] [(46,gZ)]
theorem OF:cr Nf:=ar aq ⟨pV,sZ,wX,wS,yz,xe,xZ,xK,yH,lT,trivial⟩ ⟨eK,(aJ (c:=cs21_1) e9 (aJ (c:=cs21_2) gb bC)),(aJ (c:=cs21_3) fH (aJ (c:=cs21_4) hE bC)),trivial⟩ ⟨fF,trivial⟩
def Nl (p1:(List UInt8)) (p2:Pos):List AV:=[AV.ptr 2 0,AV.str p1]
def K5 (p1:(List UInt8)) (p2:Pos):Hp:=Hp.mk [zpB,[AV.int .i64 0],(pc p2 [])] [4096] [] 0 0 0
def pK (p1:(List UInt8)) (p2:Pos):((Pos) ⊕ Unit)→aW
 | .inl y=>.ret (AV.tuple []) (Hp.mk [zpB,[AV.int .i64 0],(pc y [])] [4096] [] 0 0 0)
 | .inr y=>.panic (AV.iface 69 (AV.agg [])) (Hp.mk [zpB,[AV.int .i64 0],(pc p2 [])] [4096] [] 0 0 0)
def bb (p1:(List UInt8)) (p2:Pos):((Pos) ⊕ Unit):=(bif p1==(ByteArray.mk #[119]).data.toList then (bif p1==(ByteArray.mk #[98]).data.toList then (.inl (Pos.mk p2.variant p2.ag p2.aa p2.ae 1 p2.ah p2.af p2.ab p2.half p2.full)) else (.inl (p2))) else (bif !p1==(ByteArray.mk #[98]).data.toList then (.inr ()) else (bif p1==(ByteArray.mk #[98]).data.toList then (.inl (Pos.mk p2.variant p2.ag p2.aa p2.ae 1 p2.ah p2.af p2.ab p2.half p2.full)) else (.inl (p2)))))
def qF (p1:(List UInt8)) (p2:Pos):Bool:=true
theorem PW (p1:(List UInt8)) (p2:Pos):lO Nf 14 47 (Nl p1 p2) (K5 p1 p2)=(let z1:=zpB; let z2:=(Tr.br (p1==(ByteArray.mk #[98]).data.toList) (Tr.ret (aW.ret (AV.tuple []) (Hp.mk [z1,[AV.int .i64 0],[AV.int .u8 p2.variant,AV.ints .u8 64 p2.ag,AV.u64 p2.aa,AV.ints .u8 12 p2.ae,AV.bu .u8 1,AV.ints .i8 4 p2.ah,AV.int .i8 p2.af,AV.ints .u8 2 p2.ab,AV.int .i64 p2.half,AV.int .i64 p2.full]] [4096] [] 0 0 0))) (Tr.ret (aW.ret (AV.tuple []) (Hp.mk [z1,[AV.int .i64 0],(pc p2 [])] [4096] [] 0 0 0)))); Tr.br (p1==(ByteArray.mk #[119]).data.toList) z2 (Tr.br (!p1==(ByteArray.mk #[98]).data.toList) (Tr.ret (aW.panic (AV.iface 69 (AV.agg [])) (Hp.mk [z1,[AV.int .i64 0],(pc p2 [])] [4096] [] 0 0 0))) z2)):=by kernel_rfl
theorem HZ (p1:(List UInt8)) (p2:Pos) (h:qF p1 p2=true):cy Pz 47 (Nl p1 p2) (K5 p1 p2) (pK p1 p2 (bb p1 p2))∧∃ fn,Pz.funcs[47]?=some fn∧fn.body.isSome=true:=gC (O:=pK p1 p2) OF (PW p1 p2) (cX (cX (aB (eL rfl (ay (ks:=[]) (gs:=[]) (b:=true) rfl (by kernel_rfl)))) (aB (eL rfl (ay (ks:=[]) (gs:=[]) (b:=true) rfl (by kernel_rfl))))) (cX (aB (cE rfl (ay (ks:=[]) (gs:=[]) (b:=true) rfl (by kernel_rfl)))) (cX (aB (eL rfl (ay (ks:=[]) (gs:=[]) (b:=true) rfl (by kernel_rfl)))) (aB (eL rfl (ay (ks:=[]) (gs:=[]) (b:=true) rfl (by kernel_rfl))))))) h
def iM:List AV→Hp→Tr aW:=fun xs h=>.br (bP (bb (tS (tT ⟨xs,h⟩ 1)) (dP ⟨xs,h⟩ 2))) (fq Pz 47 (fun xs h=>pK (tS (tT ⟨xs,h⟩ 1)) (dP ⟨xs,h⟩ 2) (.inl (gl (bb (tS (tT ⟨xs,h⟩ 1)) (dP ⟨xs,h⟩ 2))))) xs h) (fq Pz 47 (fun xs h=>pK (tS (tT ⟨xs,h⟩ 1)) (dP ⟨xs,h⟩ 2) (.inr (gr (bb (tS (tT ⟨xs,h⟩ 1)) (dP ⟨xs,h⟩ 2))))) xs h)
theorem gH:ct Pz 47 iM:=eH (c:=fun xs h=>bP (bb (tS (tT ⟨xs,h⟩ 1)) (dP ⟨xs,h⟩ 2))) bU bU
def Nj:aT:=aA Pz (fun f i=>tu f i ya) [(65,o6),(66,sH),(81,wm),(82,vG),(83,wO),(84,wM),(86,wQ),(87,wR),(88,wK),(120,kG)] [(46,6,gN),(46,18,fun b s=>(bif cs21_1 s then hT b s else (bif cs21_2 s then iS b s else .fail))),(46,14,fun b s=>(bif cs21_3 s then iy b s else (bif cs21_4 s then jt b s else .fail)))] [(46,gZ),(47,iM)]
theorem NW:cr Nj:=ar aq ⟨pV,sZ,wX,wS,yz,xe,xZ,xK,yH,lT,trivial⟩ ⟨eK,(aJ (c:=cs21_1) e9 (aJ (c:=cs21_2) gb bC)),(aJ (c:=cs21_3) fH (aJ (c:=cs21_4) hE bC)),trivial⟩ ⟨fF,gH,trivial⟩
def GH (p1:(List UInt8)) (x:(Pos×Int)):St:=St.mk (AV.ptr 2 0::(an 19 (AV.ptr 3 0::(an 45 [])))) (Hp.mk [zpB,[AV.int .i64 0],(pc x.fst []),[AV.itr p1 x.snd]] [4096] [] 0 0 0)
def tP (p1:(List UInt8)):(Pos×Int) ⊕ (Pos×Int)→Out
 | (.inl (y))=>.panic (AV.iface 69 (AV.agg [])) (Hp.mk [zpB,[AV.int .i64 0],(pc y.fst []),[AV.itr p1 y.snd]] [4096] [] 0 0 0)
 | (.inr (y))=>.exit 0 (St.mk (AV.ptr 2 0::(an 19 (AV.ptr 3 0::AV.tuple [AV.aO false]::AV.aO false::(an 43 [])))) (Hp.mk [zpB,[AV.int .i64 0],(pc y.fst []),[AV.itr p1 y.snd]] [4096] [] 0 0 0))
def pI (p1:(List UInt8)) (x:(Pos×Int)):aF (Pos×Int) ((Pos×Int) ⊕ (Pos×Int)):=(bif decide (x.snd < Int.ofNat p1.length) then (bif decide (az p1 x.snd ≥ 97) then (bif wr .i32 (wr .i32 (az p1 x.snd - 97)+65)==75 then (bif !(ed x.fst 1 7).snd then (aF.out (.inl ((x.fst,x.snd+aE p1 x.snd)))) else (aF.go (Pos.mk x.fst.variant x.fst.ag x.fst.aa x.fst.ae x.fst.ao (List.take 2 x.fst.ah++(List.take 2 (List.drop 2 x.fst.ah)).set (scale 1 (ed x.fst 1 7).fst).toNat (wr .i8 7)++List.drop 4 x.fst.ah) x.fst.af x.fst.ab x.fst.half x.fst.full,x.snd+aE p1 x.snd))) else (bif wr .i32 (wr .i32 (az p1 x.snd - 97)+65)==81 then (bif !(ed x.fst 1 0).snd then (aF.out (.inl ((x.fst,x.snd+aE p1 x.snd)))) else (aF.go (Pos.mk x.fst.variant x.fst.ag x.fst.aa x.fst.ae x.fst.ao (List.take 2 x.fst.ah++(List.take 2 (List.drop 2 x.fst.ah)).set (scale 1 (ed x.fst 1 0).fst).toNat (wr .i8 0)++List.drop 4 x.fst.ah) x.fst.af x.fst.ab x.fst.half x.fst.full,x.snd+aE p1 x.snd))) else (bif decide (wr .i64 (wr .i32 (wr .i32 (wr .i32 (az p1 x.snd - 97)+65) - 65)) ≥ 0) then (bif !decide (wr .i64 (wr .i32 (wr .i32 (wr .i32 (az p1 x.snd - 97)+65) - 65)) < 8) then (aF.out (.inl ((x.fst,x.snd+aE p1 x.snd)))) else (bif !(ed x.fst 1 (wr .i64 (wr .i32 (wr .i32 (wr .i32 (az p1 x.snd - 97)+65) - 65)))).snd then (aF.out (.inl ((x.fst,x.snd+aE p1 x.snd)))) else (aF.go (Pos.mk x.fst.variant x.fst.ag x.fst.aa x.fst.ae x.fst.ao (List.take 2 x.fst.ah++(List.take 2 (List.drop 2 x.fst.ah)).set (scale 1 (ed x.fst 1 (wr .i64 (wr .i32 (wr .i32 (wr .i32 (az p1 x.snd - 97)+65) - 65)))).fst).toNat (wr .i8 (wr .i64 (wr .i32 (wr .i32 (wr .i32 (az p1 x.snd - 97)+65) - 65))))++List.drop 4 x.fst.ah) x.fst.af x.fst.ab x.fst.half x.fst.full,x.snd+aE p1 x.snd)))) else (aF.out (.inl ((x.fst,x.snd+aE p1 x.snd))))))) else (bif az p1 x.snd==75 then (bif !(ed x.fst 0 7).snd then (aF.out (.inl ((x.fst,x.snd+aE p1 x.snd)))) else (aF.go (Pos.mk x.fst.variant x.fst.ag x.fst.aa x.fst.ae x.fst.ao (List.take 0 x.fst.ah++(List.take 2 (List.drop 0 x.fst.ah)).set (scale 1 (ed x.fst 0 7).fst).toNat (wr .i8 7)++List.drop 2 x.fst.ah) x.fst.af x.fst.ab x.fst.half x.fst.full,x.snd+aE p1 x.snd))) else (bif az p1 x.snd==81 then (bif !(ed x.fst 0 0).snd then (aF.out (.inl ((x.fst,x.snd+aE p1 x.snd)))) else (aF.go (Pos.mk x.fst.variant x.fst.ag x.fst.aa x.fst.ae x.fst.ao (List.take 0 x.fst.ah++(List.take 2 (List.drop 0 x.fst.ah)).set (scale 1 (ed x.fst 0 0).fst).toNat (wr .i8 0)++List.drop 2 x.fst.ah) x.fst.af x.fst.ab x.fst.half x.fst.full,x.snd+aE p1 x.snd))) else (bif decide (wr .i64 (wr .i32 (az p1 x.snd - 65)) ≥ 0) then (bif !decide (wr .i64 (wr .i32 (az p1 x.snd - 65)) < 8) then (aF.out (.inl ((x.fst,x.snd+aE p1 x.snd)))) else (bif !(ed x.fst 0 (wr .i64 (wr .i32 (az p1 x.snd - 65)))).snd then (aF.out (.inl ((x.fst,x.snd+aE p1 x.snd)))) else (aF.go (Pos.mk x.fst.variant x.fst.ag x.fst.aa x.fst.ae x.fst.ao (List.take 0 x.fst.ah++(List.take 2 (List.drop 0 x.fst.ah)).set (scale 1 (ed x.fst 0 (wr .i64 (wr .i32 (az p1 x.snd - 65)))).fst).toNat (wr .i8 (wr .i64 (wr .i32 (az p1 x.snd - 65))))++List.drop 2 x.fst.ah) x.fst.af x.fst.ab x.fst.half x.fst.full,x.snd+aE p1 x.snd)))) else (aF.out (.inl ((x.fst,x.snd+aE p1 x.snd)))))))) else (aF.out (.inr ((x.fst,x.snd)))))
def mH (p1:(List UInt8)) (x:(Pos×Int)):Bool:=(bif decide (x.snd < Int.ofNat p1.length) then (bif decide (az p1 x.snd ≥ 97) then (bif wr .i32 (wr .i32 (az p1 x.snd - 97)+65)==75 then (gk x.fst 1 7&&(bif !(ed x.fst 1 7).snd then true else (decide (0≤(ed x.fst 1 7).fst)&&decide ((ed x.fst 1 7).fst < Int.ofNat 2)&&true))) else (bif wr .i32 (wr .i32 (az p1 x.snd - 97)+65)==81 then (gk x.fst 1 0&&(bif !(ed x.fst 1 0).snd then true else (decide (0≤(ed x.fst 1 0).fst)&&decide ((ed x.fst 1 0).fst < Int.ofNat 2)&&true))) else (bif decide (wr .i64 (wr .i32 (wr .i32 (wr .i32 (az p1 x.snd - 97)+65) - 65)) ≥ 0) then (bif !decide (wr .i64 (wr .i32 (wr .i32 (wr .i32 (az p1 x.snd - 97)+65) - 65)) < 8) then true else (gk x.fst 1 (wr .i64 (wr .i32 (wr .i32 (wr .i32 (az p1 x.snd - 97)+65) - 65)))&&(bif !(ed x.fst 1 (wr .i64 (wr .i32 (wr .i32 (wr .i32 (az p1 x.snd - 97)+65) - 65)))).snd then true else (decide (0≤(ed x.fst 1 (wr .i64 (wr .i32 (wr .i32 (wr .i32 (az p1 x.snd - 97)+65) - 65)))).fst)&&decide ((ed x.fst 1 (wr .i64 (wr .i32 (wr .i32 (wr .i32 (az p1 x.snd - 97)+65) - 65)))).fst < Int.ofNat 2)&&true)))) else true))) else (bif az p1 x.snd==75 then (gk x.fst 0 7&&(bif !(ed x.fst 0 7).snd then true else (decide (0≤(ed x.fst 0 7).fst)&&decide ((ed x.fst 0 7).fst < Int.ofNat 2)&&true))) else (bif az p1 x.snd==81 then (gk x.fst 0 0&&(bif !(ed x.fst 0 0).snd then true else (decide (0≤(ed x.fst 0 0).fst)&&decide ((ed x.fst 0 0).fst < Int.ofNat 2)&&true))) else (bif decide (wr .i64 (wr .i32 (az p1 x.snd - 65)) ≥ 0) then (bif !decide (wr .i64 (wr .i32 (az p1 x.snd - 65)) < 8) then true else (gk x.fst 0 (wr .i64 (wr .i32 (az p1 x.snd - 65)))&&(bif !(ed x.fst 0 (wr .i64 (wr .i32 (az p1 x.snd - 65)))).snd then true else (decide (0≤(ed x.fst 0 (wr .i64 (wr .i32 (az p1 x.snd - 65)))).fst)&&decide ((ed x.fst 0 (wr .i64 (wr .i32 (az p1 x.snd - 65)))).fst < Int.ofNat 2)&&true)))) else true)))) else true)
def ei (p1:(List UInt8)) (x:(Pos×Int)):Option ((Pos×Int) ⊕ (Pos×Int)):=dh (fun x=>bif mH p1 x then pI p1 x else .bad) many x
theorem Si (p1:(List UInt8)) (x:(Pos×Int)):lf Nj 12 48 (bz Pz 48 3) (GH p1 x)=(let z1:=zpB; let z3:=(wr .i32 (wr .i32 (wr .i32 (az p1 x.snd - 97)+65) - 65)); let z4:=(AV.ptr 2 0::(an 19 (AV.ptr 3 0::(an 45 [])))); let z5:=(wr .i32 (az p1 x.snd - 65)); let z6:=[AV.itr p1 (x.snd+aE p1 x.snd)]; let z7:=[AV.int .i64 0]; let z2:=(Tr.ret (Out.panic (AV.iface 69 (AV.agg [])) (Hp.mk [z1,z7,(pc x.fst []),z6] [4096] [] 0 0 0))); let z8:=(List.take 2 (List.drop 2 x.fst.ah)); let z9:=(List.take 2 (List.drop 0 x.fst.ah)); let z10:=(ed x.fst 1 (wr .i64 z3)); let z11:=(ed x.fst 0 (wr .i64 z5)); Tr.br (decide (x.snd < Int.ofNat p1.length)) (Tr.br (decide (az p1 x.snd ≥ 97)) (Tr.br (wr .i32 (wr .i32 (az p1 x.snd - 97)+65)==75) (Tr.br (gk x.fst 1 7) (Tr.br (!(ed x.fst 1 7).snd) z2 (Tr.br (decide (0≤(ed x.fst 1 7).fst)&&decide ((ed x.fst 1 7).fst < Int.ofNat 2)) (Tr.ret (Out.norm (St.mk z4 (Hp.mk [z1,z7,[AV.int .u8 x.fst.variant,AV.ints .u8 64 x.fst.ag,AV.u64 x.fst.aa,AV.ints .u8 12 x.fst.ae,AV.int .u8 x.fst.ao,AV.ints .i8 4 (List.take 2 x.fst.ah++z8.set (scale 1 (ed x.fst 1 7).fst).toNat (wr .i8 7)++List.drop 4 x.fst.ah),AV.int .i8 x.fst.af,AV.ints .u8 2 x.fst.ab,AV.int .i64 x.fst.half,AV.int .i64 x.fst.full],z6] [4096] [] 0 0 0)))) Tr.fail)) Tr.fail) (Tr.br (wr .i32 (wr .i32 (az p1 x.snd - 97)+65)==81) (Tr.br (gk x.fst 1 0) (Tr.br (!(ed x.fst 1 0).snd) z2 (Tr.br (decide (0≤(ed x.fst 1 0).fst)&&decide ((ed x.fst 1 0).fst < Int.ofNat 2)) (Tr.ret (Out.norm (St.mk z4 (Hp.mk [z1,z7,[AV.int .u8 x.fst.variant,AV.ints .u8 64 x.fst.ag,AV.u64 x.fst.aa,AV.ints .u8 12 x.fst.ae,AV.int .u8 x.fst.ao,AV.ints .i8 4 (List.take 2 x.fst.ah++z8.set (scale 1 (ed x.fst 1 0).fst).toNat (wr .i8 0)++List.drop 4 x.fst.ah),AV.int .i8 x.fst.af,AV.ints .u8 2 x.fst.ab,AV.int .i64 x.fst.half,AV.int .i64 x.fst.full],z6] [4096] [] 0 0 0)))) Tr.fail)) Tr.fail) (Tr.br (decide (wr .i64 z3 ≥ 0)) (Tr.br (!decide (wr .i64 z3 < 8)) z2 (Tr.br (gk x.fst 1 (wr .i64 z3)) (Tr.br (!z10.snd) z2 (Tr.br (decide (0≤z10.fst)&&decide (z10.fst < Int.ofNat 2)) (Tr.ret (Out.norm (St.mk z4 (Hp.mk [z1,z7,[AV.int .u8 x.fst.variant,AV.ints .u8 64 x.fst.ag,AV.u64 x.fst.aa,AV.ints .u8 12 x.fst.ae,AV.int .u8 x.fst.ao,AV.ints .i8 4 (List.take 2 x.fst.ah++z8.set (scale 1 z10.fst).toNat (wr .i8 (wr .i64 z3))++List.drop 4 x.fst.ah),AV.int .i8 x.fst.af,AV.ints .u8 2 x.fst.ab,AV.int .i64 x.fst.half,AV.int .i64 x.fst.full],z6] [4096] [] 0 0 0)))) Tr.fail)) Tr.fail)) z2))) (Tr.br (az p1 x.snd==75) (Tr.br (gk x.fst 0 7) (Tr.br (!(ed x.fst 0 7).snd) z2 (Tr.br (decide (0≤(ed x.fst 0 7).fst)&&decide ((ed x.fst 0 7).fst < Int.ofNat 2)) (Tr.ret (Out.norm (St.mk z4 (Hp.mk [z1,z7,[AV.int .u8 x.fst.variant,AV.ints .u8 64 x.fst.ag,AV.u64 x.fst.aa,AV.ints .u8 12 x.fst.ae,AV.int .u8 x.fst.ao,AV.ints .i8 4 (List.take 0 x.fst.ah++z9.set (scale 1 (ed x.fst 0 7).fst).toNat (wr .i8 7)++List.drop 2 x.fst.ah),AV.int .i8 x.fst.af,AV.ints .u8 2 x.fst.ab,AV.int .i64 x.fst.half,AV.int .i64 x.fst.full],z6] [4096] [] 0 0 0)))) Tr.fail)) Tr.fail) (Tr.br (az p1 x.snd==81) (Tr.br (gk x.fst 0 0) (Tr.br (!(ed x.fst 0 0).snd) z2 (Tr.br (decide (0≤(ed x.fst 0 0).fst)&&decide ((ed x.fst 0 0).fst < Int.ofNat 2)) (Tr.ret (Out.norm (St.mk z4 (Hp.mk [z1,z7,[AV.int .u8 x.fst.variant,AV.ints .u8 64 x.fst.ag,AV.u64 x.fst.aa,AV.ints .u8 12 x.fst.ae,AV.int .u8 x.fst.ao,AV.ints .i8 4 (List.take 0 x.fst.ah++z9.set (scale 1 (ed x.fst 0 0).fst).toNat (wr .i8 0)++List.drop 2 x.fst.ah),AV.int .i8 x.fst.af,AV.ints .u8 2 x.fst.ab,AV.int .i64 x.fst.half,AV.int .i64 x.fst.full],z6] [4096] [] 0 0 0)))) Tr.fail)) Tr.fail) (Tr.br (decide (wr .i64 z5 ≥ 0)) (Tr.br (!decide (wr .i64 z5 < 8)) z2 (Tr.br (gk x.fst 0 (wr .i64 z5)) (Tr.br (!z11.snd) z2 (Tr.br (decide (0≤z11.fst)&&decide (z11.fst < Int.ofNat 2)) (Tr.ret (Out.norm (St.mk z4 (Hp.mk [z1,z7,[AV.int .u8 x.fst.variant,AV.ints .u8 64 x.fst.ag,AV.u64 x.fst.aa,AV.ints .u8 12 x.fst.ae,AV.int .u8 x.fst.ao,AV.ints .i8 4 (List.take 0 x.fst.ah++z9.set (scale 1 z11.fst).toNat (wr .i8 (wr .i64 z5))++List.drop 2 x.fst.ah),AV.int .i8 x.fst.af,AV.ints .u8 2 x.fst.ab,AV.int .i64 x.fst.half,AV.int .i64 x.fst.full],z6] [4096] [] 0 0 0)))) Tr.fail)) Tr.fail)) z2)))) (Tr.ret (Out.exit 0 (St.mk (AV.ptr 2 0::(an 19 (AV.ptr 3 0::AV.tuple [AV.aO false]::AV.aO false::(an 43 [])))) (Hp.mk [z1,z7,(pc x.fst []),[AV.itr p1 x.snd]] [4096] [] 0 0 0))))):=by kernel_rfl
theorem Uc (p1:(List UInt8)) (x:(Pos×Int)) (r:(Pos×Int) ⊕ (Pos×Int)) (h:ei p1 x=some r):aD Pz (bz Pz 48 3) (GH p1 x) (tP p1 r):=aD.H6 (S:=GH p1) (O:=tP p1) (ok:=mH p1) (st:=pI p1) NW (fun x=>pY (Si p1 x) (bT (bT (bT (aG (bT (aB (cm rfl (ay (ks:=[]) (gs:=[]) (b:=true) rfl (by kernel_rfl)))) (aG (aB (dM (ay (ks:=(rn 1 19 (rn 21 45 []))) (gs:=[]) (b:=true) rfl (by kernel_rfl))))))) (bT (aG (bT (aB (cm rfl (ay (ks:=[]) (gs:=[]) (b:=true) rfl (by kernel_rfl)))) (aG (aB (dM (ay (ks:=(rn 1 19 (rn 21 45 []))) (gs:=[]) (b:=true) rfl (by kernel_rfl))))))) (bT (bT (aB (cm rfl (ay (ks:=[]) (gs:=[]) (b:=true) rfl (by kernel_rfl)))) (aG (bT (aB (cm rfl (ay (ks:=[]) (gs:=[]) (b:=true) rfl (by kernel_rfl)))) (aG (aB (dM (ay (ks:=(rn 1 19 (rn 21 45 []))) (gs:=[]) (b:=true) rfl (by kernel_rfl)))))))) (aB (cm rfl (ay (ks:=[]) (gs:=[]) (b:=true) rfl (by kernel_rfl))))))) (bT (aG (bT (aB (cm rfl (ay (ks:=[]) (gs:=[]) (b:=true) rfl (by kernel_rfl)))) (aG (aB (dM (ay (ks:=(rn 1 19 (rn 21 45 []))) (gs:=[]) (b:=true) rfl (by kernel_rfl))))))) (bT (aG (bT (aB (cm rfl (ay (ks:=[]) (gs:=[]) (b:=true) rfl (by kernel_rfl)))) (aG (aB (dM (ay (ks:=(rn 1 19 (rn 21 45 []))) (gs:=[]) (b:=true) rfl (by kernel_rfl))))))) (bT (bT (aB (cm rfl (ay (ks:=[]) (gs:=[]) (b:=true) rfl (by kernel_rfl)))) (aG (bT (aB (cm rfl (ay (ks:=[]) (gs:=[]) (b:=true) rfl (by kernel_rfl)))) (aG (aB (dM (ay (ks:=(rn 1 19 (rn 21 45 []))) (gs:=[]) (b:=true) rfl (by kernel_rfl)))))))) (aB (cm rfl (ay (ks:=[]) (gs:=[]) (b:=true) rfl (by kernel_rfl)))))))) (aB (jf rfl (ay (ks:=(rn 1 19 (rn 23 43 []))) (gs:=[]) (b:=false) rfl (by kernel_rfl)))))) many x r h
def mW:Code→St→Tr Out:=fun b s=>.br (bP ((ei (kp (tH s 3 0)) ((dP s 2),(nV (tH s 3 0)))).getD default)) (gS Pz (fun s=>tP (kp (tH s 3 0)) (.inl (gl ((ei (kp (tH s 3 0)) ((dP s 2),(nV (tH s 3 0)))).getD default)))) b s) (gS Pz (fun s=>tP (kp (tH s 3 0)) (.inr (gr ((ei (kp (tH s 3 0)) ((dP s 2),(nV (tH s 3 0)))).getD default)))) b s)
theorem jV:∀ b,bq Pz b (mW b):=ga (c:=fun s=>bP ((ei (kp (tH s 3 0)) ((dP s 2),(nV (tH s 3 0)))).getD default)) cf cf
def M6:aT:=aA Pz (fun f i=>tu f i ya) [(65,o6),(66,sH),(81,wm),(82,vG),(83,wO),(84,wM),(86,wQ),(87,wR),(88,wK),(120,kG)] [(46,6,gN),(46,18,fun b s=>(bif cs21_1 s then hT b s else (bif cs21_2 s then iS b s else .fail))),(46,14,fun b s=>(bif cs21_3 s then iy b s else (bif cs21_4 s then jt b s else .fail))),(48,3,mW)] [(46,gZ),(47,iM)]
theorem Qe:cr M6:=ar aq ⟨pV,sZ,wX,wS,yz,xe,xZ,xK,yH,lT,trivial⟩ ⟨eK,(aJ (c:=cs21_1) e9 (aJ (c:=cs21_2) gb bC)),(aJ (c:=cs21_3) fH (aJ (c:=cs21_4) hE bC)),jV,trivial⟩ ⟨fF,gH,trivial⟩
def Lx (p1:(List UInt8)) (p2:Pos):List AV:=[AV.ptr 2 0,AV.str p1]
def Lr (p1:(List UInt8)) (p2:Pos):Hp:=Hp.mk [zpB,[AV.int .i64 0],(pc p2 [])] [4096] [] 0 0 0
def pR (p1:(List UInt8)) (p2:Pos):((Pos) ⊕ (Pos))→aW
 | .inl y=>.ret (AV.tuple []) (Hp.mk [zpB,[AV.int .i64 0],(pc y [])] [4096] [] 0 0 0)
 | .inr y=>.panic (AV.iface 69 (AV.agg [])) (Hp.mk [zpB,[AV.int .i64 0],(pc y [])] [4096] [] 0 0 0)
def bm (p1:(List UInt8)) (p2:Pos):((Pos) ⊕ (Pos)):=(bif p1==(ByteArray.mk #[45]).data.toList then (.inl (Pos.mk p2.variant p2.ag p2.aa p2.ae p2.ao (li [-1,-1,-1,-1]) p2.af p2.ab p2.half p2.full)) else (bif bP ((ei p1 (Pos.mk p2.variant p2.ag p2.aa p2.ae p2.ao (li [-1,-1,-1,-1]) p2.af p2.ab p2.half p2.full,0)).getD default) then (.inr ((gl ((ei p1 (Pos.mk p2.variant p2.ag p2.aa p2.ae p2.ao (li [-1,-1,-1,-1]) p2.af p2.ab p2.half p2.full,0)).getD default)).fst)) else (.inl ((gr ((ei p1 (Pos.mk p2.variant p2.ag p2.aa p2.ae p2.ao (li [-1,-1,-1,-1]) p2.af p2.ab p2.half p2.full,0)).getD default)).fst))))
def oe (p1:(List UInt8)) (p2:Pos):Bool:=(bif p1==(ByteArray.mk #[45]).data.toList then true else ((ei p1 (Pos.mk p2.variant p2.ag p2.aa p2.ae p2.ao (li [-1,-1,-1,-1]) p2.af p2.ab p2.half p2.full,0)).isSome&&bif bP ((ei p1 (Pos.mk p2.variant p2.ag p2.aa p2.ae p2.ao (li [-1,-1,-1,-1]) p2.af p2.ab p2.half p2.full,0)).getD default) then true else true))
theorem Oe (p1:(List UInt8)) (p2:Pos):lO M6 14 48 (Lx p1 p2) (Lr p1 p2)=(let z1:=zpB; let z2:=((ei p1 (Pos.mk p2.variant p2.ag p2.aa p2.ae p2.ao (li [-1,-1,-1,-1]) p2.af p2.ab p2.half p2.full,0)).getD default); let z3:=[AV.int .u8 p2.variant,AV.ints .u8 64 p2.ag,AV.u64 p2.aa,AV.ints .u8 12 p2.ae,AV.int .u8 p2.ao,AV.ints .i8 4 (li [-1,-1,-1,-1]),AV.int .i8 p2.af,AV.ints .u8 2 p2.ab,AV.int .i64 p2.half,AV.int .i64 p2.full]; let z4:=(St.mk (AV.ptr 2 0::(an 19 (AV.ptr 3 0::(an 45 [])))) (Hp.mk [z1,[AV.int .i64 0],z3,[AV.itr p1 0]] [4096] [] 0 0 0)); Tr.br (p1==(ByteArray.mk #[45]).data.toList) (Tr.ret (aW.ret (AV.tuple []) (Hp.mk [z1,[AV.int .i64 0],z3] [4096] [] 0 0 0))) (Tr.br (bP z2) (Tr.br (jj Pz (bz Pz 48 3) z4 (tP p1 (Sum.inl (gl z2)))) (Tr.ret (aW.panic (AV.iface 69 (AV.agg [])) (Hp.mk [z1,[AV.int .i64 0],(pc (gl z2).fst [])] [4096] [] 0 0 0))) Tr.fail) (Tr.br (jj Pz (bz Pz 48 3) z4 (tP p1 (Sum.inr (gr z2)))) (Tr.ret (aW.ret (AV.tuple []) (Hp.mk [z1,[AV.int .i64 0],(pc (gr z2).fst [])] [4096] [] 0 0 0))) Tr.fail))):=by kernel_rfl
theorem Hl (p1:(List UInt8)) (p2:Pos) (h:oe p1 p2=true):cy Pz 48 (Lx p1 p2) (Lr p1 p2) (pR p1 p2 (bm p1 p2))∧∃ fn,Pz.funcs[48]?=some fn∧fn.body.isSome=true:=gC (O:=pR p1 p2) Qe (Oe p1 p2) (bT (aB (eL rfl (ay (ks:=[]) (gs:=[]) (b:=true) rfl (by kernel_rfl)))) (iz (fun h=>Uc (p1) ((Pos.mk p2.variant p2.ag p2.aa p2.ae p2.ao (li [-1,-1,-1,-1]) p2.af p2.ab p2.half p2.full,0)) _ (dT h)) (ay (ks:=(rn 1 19 (rn 21 45 []))) (gs:=[]) (b:=true) rfl (by kernel_rfl)) (aB (cE rfl (ay (ks:=[]) (gs:=[]) (b:=true) rfl (by kernel_rfl)))) (aB (eL rfl (ay (ks:=[]) (gs:=[]) (b:=true) rfl (by kernel_rfl)))))) h
def j5:List AV→Hp→Tr aW:=fun xs h=>.br (bP (bm (tS (tT ⟨xs,h⟩ 1)) (dP ⟨xs,h⟩ 2))) (fq Pz 48 (fun xs h=>pR (tS (tT ⟨xs,h⟩ 1)) (dP ⟨xs,h⟩ 2) (.inl (gl (bm (tS (tT ⟨xs,h⟩ 1)) (dP ⟨xs,h⟩ 2))))) xs h) (fq Pz 48 (fun xs h=>pR (tS (tT ⟨xs,h⟩ 1)) (dP ⟨xs,h⟩ 2) (.inr (gr (bm (tS (tT ⟨xs,h⟩ 1)) (dP ⟨xs,h⟩ 2))))) xs h)
theorem jc:ct Pz 48 j5:=eH (c:=fun xs h=>bP (bm (tS (tT ⟨xs,h⟩ 1)) (dP ⟨xs,h⟩ 2))) bU bU
def EE:aT:=aA Pz (fun f i=>tu f i ya) [(65,o6),(66,sH),(81,wm),(82,vG),(83,wO),(84,wM),(86,wQ),(87,wR),(88,wK),(120,kG)] [(46,6,gN),(46,18,fun b s=>(bif cs21_1 s then hT b s else (bif cs21_2 s then iS b s else .fail))),(46,14,fun b s=>(bif cs21_3 s then iy b s else (bif cs21_4 s then jt b s else .fail))),(48,3,mW)] [(46,gZ),(47,iM),(48,j5)]
theorem I2:cr EE:=ar aq ⟨pV,sZ,wX,wS,yz,xe,xZ,xK,yH,lT,trivial⟩ ⟨eK,(aJ (c:=cs21_1) e9 (aJ (c:=cs21_2) gb bC)),(aJ (c:=cs21_3) fH (aJ (c:=cs21_4) hE bC)),jV,trivial⟩ ⟨fF,gH,jc,trivial⟩
def F7 (p1:(List UInt8)) (p2:Pos):List AV:=[AV.ptr 2 0,AV.str p1]
def Dl (p1:(List UInt8)) (p2:Pos):Hp:=Hp.mk [zpB,[AV.int .i64 0],(pc p2 [])] [4096] [] 0 0 0
def kP (p1:(List UInt8)) (p2:Pos):((Pos) ⊕ (Pos))→aW
 | .inl y=>.ret (AV.tuple []) (Hp.mk [zpB,[AV.int .i64 0],(pc y [])] [4096] [] 0 0 0)
 | .inr y=>.panic (AV.iface 69 (AV.agg [])) (Hp.mk [zpB,[AV.int .i64 0],(pc y [])] [4096] [] 0 0 0)
def bj (p1:(List UInt8)) (p2:Pos):((Pos) ⊕ (Pos)):=(bif !p1==(ByteArray.mk #[45]).data.toList then (bif !(Jn p1).snd then (.inr (Pos.mk p2.variant p2.ag p2.aa p2.ae p2.ao p2.ah (-1) p2.ab p2.half p2.full)) else (.inl (Pos.mk p2.variant p2.ag p2.aa p2.ae p2.ao p2.ah (wr .i8 (Jn p1).fst) p2.ab p2.half p2.full))) else (.inl (Pos.mk p2.variant p2.ag p2.aa p2.ae p2.ao p2.ah (-1) p2.ab p2.half p2.full)))
def lN (p1:(List UInt8)) (p2:Pos):Bool:=(bif !p1==(ByteArray.mk #[45]).data.toList then (Kt (p1)&&true) else true)
theorem JQ (p1:(List UInt8)) (p2:Pos):lO EE 14 49 (F7 p1 p2) (Dl p1 p2)=(let z1:=(Hp.mk [zpB,[AV.int .i64 0],[AV.int .u8 p2.variant,AV.ints .u8 64 p2.ag,AV.u64 p2.aa,AV.ints .u8 12 p2.ae,AV.int .u8 p2.ao,AV.ints .i8 4 p2.ah,AV.bu .i8 (-1),AV.ints .u8 2 p2.ab,AV.int .i64 p2.half,AV.int .i64 p2.full]] [4096] [] 0 0 0); Tr.br (!p1==(ByteArray.mk #[45]).data.toList) (Tr.br (HA Pz 88 [AV.str p1] ((d2 (dI .i64) dB).res (Jn p1))) (Tr.br (!(Jn p1).snd) (Tr.ret (aW.panic (AV.iface 69 (AV.agg [])) z1)) (Tr.ret (aW.ret (AV.tuple []) (Hp.mk [zpB,[AV.int .i64 0],[AV.int .u8 p2.variant,AV.ints .u8 64 p2.ag,AV.u64 p2.aa,AV.ints .u8 12 p2.ae,AV.int .u8 p2.ao,AV.ints .i8 4 p2.ah,AV.int .i8 (wr .i8 (Jn p1).fst),AV.ints .u8 2 p2.ab,AV.int .i64 p2.half,AV.int .i64 p2.full]] [4096] [] 0 0 0)))) Tr.fail) (Tr.ret (aW.ret (AV.tuple []) z1))):=by kernel_rfl
theorem AE (p1:(List UInt8)) (p2:Pos) (h:lN p1 p2=true):cy Pz 49 (F7 p1 p2) (Dl p1 p2) (kP p1 p2 (bj p1 p2))∧∃ fn,Pz.funcs[49]?=some fn∧fn.body.isSome=true:=gC (O:=kP p1 p2) I2 (JQ p1 p2) (bT (JL (Z9 (p1)) (cX (aB (cE rfl (ay (ks:=[]) (gs:=[]) (b:=true) rfl (by kernel_rfl)))) (aB (eL rfl (ay (ks:=[]) (gs:=[]) (b:=true) rfl (by kernel_rfl)))))) (aB (eL rfl (ay (ks:=[]) (gs:=[]) (b:=true) rfl (by kernel_rfl))))) h
def jg:List AV→Hp→Tr aW:=fun xs h=>.br (bP (bj (tS (tT ⟨xs,h⟩ 1)) (dP ⟨xs,h⟩ 2))) (fq Pz 49 (fun xs h=>kP (tS (tT ⟨xs,h⟩ 1)) (dP ⟨xs,h⟩ 2) (.inl (gl (bj (tS (tT ⟨xs,h⟩ 1)) (dP ⟨xs,h⟩ 2))))) xs h) (fq Pz 49 (fun xs h=>kP (tS (tT ⟨xs,h⟩ 1)) (dP ⟨xs,h⟩ 2) (.inr (gr (bj (tS (tT ⟨xs,h⟩ 1)) (dP ⟨xs,h⟩ 2))))) xs h)
theorem iI:ct Pz 49 jg:=eH (c:=fun xs h=>bP (bj (tS (tT ⟨xs,h⟩ 1)) (dP ⟨xs,h⟩ 2))) bU bU
def FF:aT:=aA Pz (fun f i=>tu f i ya) [(65,o6),(66,sH),(81,wm),(82,vG),(83,wO),(84,wM),(86,wQ),(87,wR),(88,wK),(120,kG)] [(46,6,gN),(46,18,fun b s=>(bif cs21_1 s then hT b s else (bif cs21_2 s then iS b s else .fail))),(46,14,fun b s=>(bif cs21_3 s then iy b s else (bif cs21_4 s then jt b s else .fail))),(48,3,mW)] [(46,gZ),(47,iM),(48,j5),(49,jg)]
theorem J1:cr FF:=ar aq ⟨pV,sZ,wX,wS,yz,xe,xZ,xK,yH,lT,trivial⟩ ⟨eK,(aJ (c:=cs21_1) e9 (aJ (c:=cs21_2) gb bC)),(aJ (c:=cs21_3) fH (aJ (c:=cs21_4) hE bC)),jV,trivial⟩ ⟨fF,gH,jc,iI,trivial⟩
def zR (p1:(List UInt8)) (x:(Int×Pos)):St:=St.mk (AV.ptr 2 0::AV.str p1::(an 7 (AV.int .i64 x.fst::(an 37 [])))) (Hp.mk [zpB,[AV.int .i64 0],(pc x.snd [])] [4096] [] 0 0 0)
def pn (p1:(List UInt8)):(Pos) ⊕ (Int×Bool×Pos)→Out
 | (.inl (y))=>.panic (AV.iface 69 (AV.agg [])) (Hp.mk [zpB,[AV.int .i64 0],(pc y [])] [4096] [] 0 0 0)
 | (.inr (y))=>.exit 0 (St.mk (AV.ptr 2 0::AV.str p1::(an 7 (AV.int .i64 y.fst::AV.bool y.snd.fst::(an 36 [])))) (Hp.mk [zpB,[AV.int .i64 0],(pc y.snd.snd [])] [4096] [] 0 0 0))
def qH (p1:(List UInt8)) (x:(Int×Pos)):aF (Int×Pos) ((Pos) ⊕ (Int×Bool×Pos)):=(bif decide (x.fst < 2) then (bif Int.ofNat (p1[(wr .i64 (2 * x.fst)).toNat]?.getD 0).toNat==43 then (bif decide (Int.ofNat (p1[(wr .i64 (wr .i64 (2 * x.fst)+1)).toNat]?.getD 0).toNat ≥ 48) then (bif !decide (Int.ofNat (p1[(wr .i64 (wr .i64 (2 * x.fst)+1)).toNat]?.getD 0).toNat≤51) then (aF.out (.inl ((x.snd)))) else (aF.go (wr .i64 (x.fst+1),Pos.mk x.snd.variant x.snd.ag x.snd.aa x.snd.ae x.snd.ao x.snd.ah x.snd.af (x.snd.ab.set (scale 1 x.fst).toNat (wr .u8 (Int.ofNat (p1[(wr .i64 (wr .i64 (2 * x.fst)+1)).toNat]?.getD 0).toNat - 48))) x.snd.half x.snd.full))) else (aF.out (.inl ((x.snd))))) else (aF.out (.inl ((x.snd))))) else (aF.out (.inr ((x.fst,decide (x.fst < 2),x.snd)))))
def nT (p1:(List UInt8)) (x:(Int×Pos)):Bool:=(bif decide (x.fst < 2) then (decide (0≤wr .i64 (2 * x.fst))&&decide (wr .i64 (2 * x.fst) < Int.ofNat p1.length)&&(bif Int.ofNat (p1[(wr .i64 (2 * x.fst)).toNat]?.getD 0).toNat==43 then (decide (0≤wr .i64 (wr .i64 (2 * x.fst)+1))&&decide (wr .i64 (wr .i64 (2 * x.fst)+1) < Int.ofNat p1.length)&&(bif decide (Int.ofNat (p1[(wr .i64 (wr .i64 (2 * x.fst)+1)).toNat]?.getD 0).toNat ≥ 48) then (decide (0≤wr .i64 (wr .i64 (2 * x.fst)+1))&&decide (wr .i64 (wr .i64 (2 * x.fst)+1) < Int.ofNat p1.length)&&(bif !decide (Int.ofNat (p1[(wr .i64 (wr .i64 (2 * x.fst)+1)).toNat]?.getD 0).toNat≤51) then true else (decide (0≤wr .i64 (wr .i64 (2 * x.fst)+1))&&decide (wr .i64 (wr .i64 (2 * x.fst)+1) < Int.ofNat p1.length)&&(decide (0≤x.fst)&&decide (x.fst < Int.ofNat 2)&&true)))) else true)) else true)) else true)
def eC (p1:(List UInt8)) (x:(Int×Pos)):Option ((Pos) ⊕ (Int×Bool×Pos)):=dh (fun x=>bif nT p1 x then qH p1 x else .bad) many x
theorem Qi (p1:(List UInt8)) (x:(Int×Pos)):lf FF 12 50 (bz Pz 50 2) (zR p1 x)=(let z1:=zpB; let z2:=(decide (0≤wr .i64 (wr .i64 (2 * x.fst)+1))&&decide (wr .i64 (wr .i64 (2 * x.fst)+1) < Int.ofNat p1.length)); let z3:=(Tr.ret (Out.panic (AV.iface 69 (AV.agg [])) (Hp.mk [z1,[AV.int .i64 0],(pc x.snd [])] [4096] [] 0 0 0))); let z4:=(p1[(wr .i64 (wr .i64 (2 * x.fst)+1)).toNat]?.getD 0); Tr.br (decide (x.fst < 2)) (Tr.br (decide (0≤wr .i64 (2 * x.fst))&&decide (wr .i64 (2 * x.fst) < Int.ofNat p1.length)) (Tr.br (Int.ofNat (p1[(wr .i64 (2 * x.fst)).toNat]?.getD 0).toNat==43) (Tr.br z2 (Tr.br (decide (Int.ofNat z4.toNat ≥ 48)) (Tr.br z2 (Tr.br (!decide (Int.ofNat z4.toNat≤51)) z3 (Tr.br z2 (Tr.br (decide (0≤x.fst)&&decide (x.fst < Int.ofNat 2)) (Tr.ret (Out.norm (St.mk (AV.ptr 2 0::AV.str p1::(an 7 (AV.int .i64 (wr .i64 (x.fst+1))::(an 37 [])))) (Hp.mk [z1,[AV.int .i64 0],[AV.int .u8 x.snd.variant,AV.ints .u8 64 x.snd.ag,AV.u64 x.snd.aa,AV.ints .u8 12 x.snd.ae,AV.int .u8 x.snd.ao,AV.ints .i8 4 x.snd.ah,AV.int .i8 x.snd.af,AV.ints .u8 2 (x.snd.ab.set (scale 1 x.fst).toNat (wr .u8 (Int.ofNat z4.toNat - 48))),AV.int .i64 x.snd.half,AV.int .i64 x.snd.full]] [4096] [] 0 0 0)))) Tr.fail) Tr.fail)) Tr.fail) z3) Tr.fail) z3) Tr.fail) (Tr.ret (Out.exit 0 (St.mk (AV.ptr 2 0::AV.str p1::(an 7 (AV.int .i64 x.fst::AV.bool (decide (x.fst < 2))::(an 36 [])))) (Hp.mk [z1,[AV.int .i64 0],(pc x.snd [])] [4096] [] 0 0 0))))):=by kernel_rfl
theorem Oi (p1:(List UInt8)) (x:(Int×Pos)) (r:(Pos) ⊕ (Int×Bool×Pos)) (h:eC p1 x=some r):aD Pz (bz Pz 50 2) (zR p1 x) (pn p1 r):=aD.H6 (S:=zR p1) (O:=pn p1) (ok:=nT p1) (st:=qH p1) J1 (fun x=>pY (Qi p1 x) (bT (aG (bT (aG (bT (aG (bT (aB (cm rfl (ay (ks:=[]) (gs:=[]) (b:=true) rfl (by kernel_rfl)))) (aG (aG (aB (dM (ay (ks:=(rn 2 7 (rn 10 37 []))) (gs:=[1,9]) (b:=true) rfl (by kernel_rfl)))))))) (aB (cm rfl (ay (ks:=[]) (gs:=[]) (b:=true) rfl (by kernel_rfl)))))) (aB (cm rfl (ay (ks:=[]) (gs:=[]) (b:=true) rfl (by kernel_rfl)))))) (aB (jf rfl (ay (ks:=(rn 2 7 (rn 11 36 []))) (gs:=[]) (b:=false) rfl (by kernel_rfl)))))) many x r h
def nf:Code→St→Tr Out:=fun b s=>.br (bP ((eC (tS (tT s 1)) ((tI (tT s 9)),(dP s 2))).getD default)) (gS Pz (fun s=>pn (tS (tT s 1)) (.inl (gl ((eC (tS (tT s 1)) ((tI (tT s 9)),(dP s 2))).getD default)))) b s) (gS Pz (fun s=>pn (tS (tT s 1)) (.inr (gr ((eC (tS (tT s 1)) ((tI (tT s 9)),(dP s 2))).getD default)))) b s)
theorem my:∀ b,bq Pz b (nf b):=ga (c:=fun s=>bP ((eC (tS (tT s 1)) ((tI (tT s 9)),(dP s 2))).getD default)) cf cf
def Hf:aT:=aA Pz (fun f i=>tu f i ya) [(65,o6),(66,sH),(81,wm),(82,vG),(83,wO),(84,wM),(86,wQ),(87,wR),(88,wK),(120,kG)] [(46,6,gN),(46,18,fun b s=>(bif cs21_1 s then hT b s else (bif cs21_2 s then iS b s else .fail))),(46,14,fun b s=>(bif cs21_3 s then iy b s else (bif cs21_4 s then jt b s else .fail))),(48,3,mW),(50,2,nf)] [(46,gZ),(47,iM),(48,j5),(49,jg)]
theorem JE:cr Hf:=ar aq ⟨pV,sZ,wX,wS,yz,xe,xZ,xK,yH,lT,trivial⟩ ⟨eK,(aJ (c:=cs21_1) e9 (aJ (c:=cs21_2) gb bC)),(aJ (c:=cs21_3) fH (aJ (c:=cs21_4) hE bC)),jV,my,trivial⟩ ⟨fF,gH,jc,iI,trivial⟩
def E4 (p1:(List UInt8)) (p2:Pos):List AV:=[AV.ptr 2 0,AV.str p1]
def EN (p1:(List UInt8)) (p2:Pos):Hp:=Hp.mk [zpB,[AV.int .i64 0],(pc p2 [])] [4096] [] 0 0 0
def pE (p1:(List UInt8)) (p2:Pos):((Pos) ⊕ (Pos))→aW
 | .inl y=>.ret (AV.tuple []) (Hp.mk [zpB,[AV.int .i64 0],(pc y [])] [4096] [] 0 0 0)
 | .inr y=>.panic (AV.iface 69 (AV.agg [])) (Hp.mk [zpB,[AV.int .i64 0],(pc y [])] [4096] [] 0 0 0)
def cp (p1:(List UInt8)) (p2:Pos):((Pos) ⊕ (Pos)):=(bif !Int.ofNat p1.length==4 then (.inr (p2)) else (bif bP ((eC p1 (0,p2)).getD default) then (.inr (gl ((eC p1 (0,p2)).getD default))) else (.inl ((gr ((eC p1 (0,p2)).getD default)).snd.snd))))
def oD (p1:(List UInt8)) (p2:Pos):Bool:=(bif !Int.ofNat p1.length==4 then true else ((eC p1 (0,p2)).isSome&&bif bP ((eC p1 (0,p2)).getD default) then true else true))
theorem IF (p1:(List UInt8)) (p2:Pos):lO Hf 14 50 (E4 p1 p2) (EN p1 p2)=(let z1:=zpB; let z2:=(St.mk (AV.ptr 2 0::AV.str p1::(an 7 (AV.bu .i64 0::(an 37 [])))) (Hp.mk [z1,[AV.int .i64 0],(pc p2 [])] [4096] [] 0 0 0)); let z3:=((eC p1 (0,p2)).getD default); Tr.br (!Int.ofNat p1.length==4) (Tr.ret (aW.panic (AV.iface 69 (AV.agg [])) (Hp.mk [z1,[AV.int .i64 0],(pc p2 [])] [4096] [] 0 0 0))) (Tr.br (bP z3) (Tr.br (jj Pz (bz Pz 50 2) z2 (pn p1 (Sum.inl (gl z3)))) (Tr.ret (aW.panic (AV.iface 69 (AV.agg [])) (Hp.mk [z1,[AV.int .i64 0],(pc (gl z3) [])] [4096] [] 0 0 0))) Tr.fail) (Tr.br (jj Pz (bz Pz 50 2) z2 (pn p1 (Sum.inr (gr z3)))) (Tr.ret (aW.ret (AV.tuple []) (Hp.mk [z1,[AV.int .i64 0],(pc (gr z3).snd.snd [])] [4096] [] 0 0 0))) Tr.fail))):=by kernel_rfl
theorem Ic (p1:(List UInt8)) (p2:Pos) (h:oD p1 p2=true):cy Pz 50 (E4 p1 p2) (EN p1 p2) (pE p1 p2 (cp p1 p2))∧∃ fn,Pz.funcs[50]?=some fn∧fn.body.isSome=true:=gC (O:=pE p1 p2) JE (IF p1 p2) (bT (aB (cE rfl (ay (ks:=[]) (gs:=[]) (b:=true) rfl (by kernel_rfl)))) (iz (fun h=>Oi (p1) ((0,p2)) _ (dT h)) (ay (ks:=(rn 2 7 (rn 10 37 []))) (gs:=[1,9]) (b:=true) rfl (by kernel_rfl)) (aB (cE rfl (ay (ks:=[]) (gs:=[]) (b:=true) rfl (by kernel_rfl)))) (aB (eL rfl (ay (ks:=[]) (gs:=[]) (b:=false) rfl (by kernel_rfl)))))) h
def me:List AV→Hp→Tr aW:=fun xs h=>.br (bP (cp (tS (tT ⟨xs,h⟩ 1)) (dP ⟨xs,h⟩ 2))) (fq Pz 50 (fun xs h=>pE (tS (tT ⟨xs,h⟩ 1)) (dP ⟨xs,h⟩ 2) (.inl (gl (cp (tS (tT ⟨xs,h⟩ 1)) (dP ⟨xs,h⟩ 2))))) xs h) (fq Pz 50 (fun xs h=>pE (tS (tT ⟨xs,h⟩ 1)) (dP ⟨xs,h⟩ 2) (.inr (gr (cp (tS (tT ⟨xs,h⟩ 1)) (dP ⟨xs,h⟩ 2))))) xs h)
theorem lF:ct Pz 50 me:=eH (c:=fun xs h=>bP (cp (tS (tT ⟨xs,h⟩ 1)) (dP ⟨xs,h⟩ 2))) bU bU
def FG:aT:=aA Pz (fun f i=>tu f i ya) [(65,o6),(66,sH),(81,wm),(82,vG),(83,wO),(84,wM),(86,wQ),(87,wR),(88,wK),(120,kG)] [(46,6,gN),(46,18,fun b s=>(bif cs21_1 s then hT b s else (bif cs21_2 s then iS b s else .fail))),(46,14,fun b s=>(bif cs21_3 s then iy b s else (bif cs21_4 s then jt b s else .fail))),(48,3,mW),(50,2,nf)] [(46,gZ),(47,iM),(48,j5),(49,jg),(50,me)]
theorem I7:cr FG:=ar aq ⟨pV,sZ,wX,wS,yz,xe,xZ,xK,yH,lT,trivial⟩ ⟨eK,(aJ (c:=cs21_1) e9 (aJ (c:=cs21_2) gb bC)),(aJ (c:=cs21_3) fH (aJ (c:=cs21_4) hE bC)),jV,my,trivial⟩ ⟨fF,gH,jc,iI,lF,trivial⟩
def FJ (p1:(List UInt8)) (p2:Pos):List AV:=[AV.ptr 2 0,AV.str p1]
def DF (p1:(List UInt8)) (p2:Pos):Hp:=Hp.mk [zpB,[AV.int .i64 0],(pc p2 [])] [4096] [] 0 0 0
def kZ (p1:(List UInt8)) (p2:Pos):((Pos) ⊕ Unit)→aW
 | .inl y=>.ret (AV.tuple []) (Hp.mk [zpB,[AV.int .i64 0],(pc y [])] [4096] [] 0 0 0)
 | .inr y=>.panic (AV.iface 69 (AV.agg [])) (Hp.mk [zpB,[AV.int .i64 0],(pc p2 [])] [4096] [] 0 0 0)
def b8 (p1:(List UInt8)) (p2:Pos):((Pos) ⊕ Unit):=(bif eh p1 then (.inl (Pos.mk p2.variant p2.ag p2.aa p2.ae p2.ao p2.ah p2.af p2.ab (ky p1) p2.full)) else (.inr ()))
def ll (p1:(List UInt8)) (p2:Pos):Bool:=(bif eh p1 then true else (ke p1&&true))
theorem KG (p1:(List UInt8)) (p2:Pos):lO FG 14 52 (FJ p1 p2) (DF p1 p2)=Tr.br (eh p1) (Tr.ret (aW.ret (AV.tuple []) (Hp.mk [zpB,[AV.int .i64 0],[AV.int .u8 p2.variant,AV.ints .u8 64 p2.ag,AV.u64 p2.aa,AV.ints .u8 12 p2.ae,AV.int .u8 p2.ao,AV.ints .i8 4 p2.ah,AV.int .i8 p2.af,AV.ints .u8 2 p2.ab,AV.int .i64 (ky p1),AV.int .i64 p2.full]] [4096] [] 0 0 0))) (Tr.br (ke p1) (Tr.ret (aW.panic (AV.iface 69 (AV.agg [])) (Hp.mk [zpB,[AV.int .i64 0],(pc p2 [])] [4096] [] 0 0 0))) Tr.fail):=by kernel_rfl
theorem AZ (p1:(List UInt8)) (p2:Pos) (h:ll p1 p2=true):cy Pz 52 (FJ p1 p2) (DF p1 p2) (kZ p1 p2 (b8 p1 p2))∧∃ fn,Pz.funcs[52]?=some fn∧fn.body.isSome=true:=gC (O:=kZ p1 p2) I7 (KG p1 p2) (bT (aB (eL rfl (ay (ks:=[]) (gs:=[]) (b:=false) rfl (by kernel_rfl)))) (aG (aB (cE rfl (ay (ks:=[]) (gs:=[]) (b:=true) rfl (by kernel_rfl)))))) h
def nI:List AV→Hp→Tr aW:=fun xs h=>.br (bP (b8 (tS (tT ⟨xs,h⟩ 1)) (dP ⟨xs,h⟩ 2))) (fq Pz 52 (fun xs h=>kZ (tS (tT ⟨xs,h⟩ 1)) (dP ⟨xs,h⟩ 2) (.inl (gl (b8 (tS (tT ⟨xs,h⟩ 1)) (dP ⟨xs,h⟩ 2))))) xs h) (fq Pz 52 (fun xs h=>kZ (tS (tT ⟨xs,h⟩ 1)) (dP ⟨xs,h⟩ 2) (.inr (gr (b8 (tS (tT ⟨xs,h⟩ 1)) (dP ⟨xs,h⟩ 2))))) xs h)
theorem oH:ct Pz 52 nI:=eH (c:=fun xs h=>bP (b8 (tS (tT ⟨xs,h⟩ 1)) (dP ⟨xs,h⟩ 2))) bU bU
def Gd:aT:=aA Pz (fun f i=>tu f i ya) [(65,o6),(66,sH),(81,wm),(82,vG),(83,wO),(84,wM),(86,wQ),(87,wR),(88,wK),(120,kG)] [(46,6,gN),(46,18,fun b s=>(bif cs21_1 s then hT b s else (bif cs21_2 s then iS b s else .fail))),(46,14,fun b s=>(bif cs21_3 s then iy b s else (bif cs21_4 s then jt b s else .fail))),(48,3,mW),(50,2,nf)] [(46,gZ),(47,iM),(48,j5),(49,jg),(50,me),(52,nI)]
theorem Jw:cr Gd:=ar aq ⟨pV,sZ,wX,wS,yz,xe,xZ,xK,yH,lT,trivial⟩ ⟨eK,(aJ (c:=cs21_1) e9 (aJ (c:=cs21_2) gb bC)),(aJ (c:=cs21_3) fH (aJ (c:=cs21_4) hE bC)),jV,my,trivial⟩ ⟨fF,gH,jc,iI,lF,oH,trivial⟩
def Ea (p1:(List UInt8)) (p2:Pos):List AV:=[AV.ptr 2 0,AV.str p1]
def GY (p1:(List UInt8)) (p2:Pos):Hp:=Hp.mk [zpB,[AV.int .i64 0],(pc p2 [])] [4096] [] 0 0 0
def lI (p1:(List UInt8)) (p2:Pos):((Pos) ⊕ Unit)→aW
 | .inl y=>.ret (AV.tuple []) (Hp.mk [zpB,[AV.int .i64 0],(pc y [])] [4096] [] 0 0 0)
 | .inr y=>.panic (AV.iface 69 (AV.agg [])) (Hp.mk [zpB,[AV.int .i64 0],(pc p2 [])] [4096] [] 0 0 0)
def cQ (p1:(List UInt8)) (p2:Pos):((Pos) ⊕ Unit):=(bif eh p1 then (.inl (Pos.mk p2.variant p2.ag p2.aa p2.ae p2.ao p2.ah p2.af p2.ab p2.half (ky p1))) else (.inr ()))
def lM (p1:(List UInt8)) (p2:Pos):Bool:=(bif eh p1 then true else (ke p1&&true))
theorem IN (p1:(List UInt8)) (p2:Pos):lO Gd 14 53 (Ea p1 p2) (GY p1 p2)=Tr.br (eh p1) (Tr.ret (aW.ret (AV.tuple []) (Hp.mk [zpB,[AV.int .i64 0],[AV.int .u8 p2.variant,AV.ints .u8 64 p2.ag,AV.u64 p2.aa,AV.ints .u8 12 p2.ae,AV.int .u8 p2.ao,AV.ints .i8 4 p2.ah,AV.int .i8 p2.af,AV.ints .u8 2 p2.ab,AV.int .i64 p2.half,AV.int .i64 (ky p1)]] [4096] [] 0 0 0))) (Tr.br (ke p1) (Tr.ret (aW.panic (AV.iface 69 (AV.agg [])) (Hp.mk [zpB,[AV.int .i64 0],(pc p2 [])] [4096] [] 0 0 0))) Tr.fail):=by kernel_rfl
theorem BY (p1:(List UInt8)) (p2:Pos) (h:lM p1 p2=true):cy Pz 53 (Ea p1 p2) (GY p1 p2) (lI p1 p2 (cQ p1 p2))∧∃ fn,Pz.funcs[53]?=some fn∧fn.body.isSome=true:=gC (O:=lI p1 p2) Jw (IN p1 p2) (bT (aB (eL rfl (ay (ks:=[]) (gs:=[]) (b:=false) rfl (by kernel_rfl)))) (aG (aB (cE rfl (ay (ks:=[]) (gs:=[]) (b:=true) rfl (by kernel_rfl)))))) h
def qT:List AV→Hp→Tr aW:=fun xs h=>.br (bP (cQ (tS (tT ⟨xs,h⟩ 1)) (dP ⟨xs,h⟩ 2))) (fq Pz 53 (fun xs h=>lI (tS (tT ⟨xs,h⟩ 1)) (dP ⟨xs,h⟩ 2) (.inl (gl (cQ (tS (tT ⟨xs,h⟩ 1)) (dP ⟨xs,h⟩ 2))))) xs h) (fq Pz 53 (fun xs h=>lI (tS (tT ⟨xs,h⟩ 1)) (dP ⟨xs,h⟩ 2) (.inr (gr (cQ (tS (tT ⟨xs,h⟩ 1)) (dP ⟨xs,h⟩ 2))))) xs h)
theorem rN:ct Pz 53 qT:=eH (c:=fun xs h=>bP (cQ (tS (tT ⟨xs,h⟩ 1)) (dP ⟨xs,h⟩ 2))) bU bU
def Gq:aT:=aA Pz (fun f i=>tu f i ya) [(65,o6),(66,sH),(81,wm),(82,vG),(83,wO),(84,wM),(86,wQ),(87,wR),(88,wK),(120,kG)] [(46,6,gN),(46,18,fun b s=>(bif cs21_1 s then hT b s else (bif cs21_2 s then iS b s else .fail))),(46,14,fun b s=>(bif cs21_3 s then iy b s else (bif cs21_4 s then jt b s else .fail))),(48,3,mW),(50,2,nf)] [(46,gZ),(47,iM),(48,j5),(49,jg),(50,me),(52,nI),(53,qT)]
theorem IB:cr Gq:=ar aq ⟨pV,sZ,wX,wS,yz,xe,xZ,xK,yH,lT,trivial⟩ ⟨eK,(aJ (c:=cs21_1) e9 (aJ (c:=cs21_2) gb bC)),(aJ (c:=cs21_3) fH (aJ (c:=cs21_4) hE bC)),jV,my,trivial⟩ ⟨fF,gH,jc,iI,lF,oH,rN,trivial⟩
def Fa (p1:(List UInt8)) (p2:Pos):List AV:=[AV.str p1,AV.vany Tk.fresh [AV.func 46 [AV.ptr 2 0] [],AV.func 47 [AV.ptr 2 0] [],AV.func 48 [AV.ptr 2 0] [],AV.func 49 [AV.ptr 2 0] [],AV.func 50 [AV.ptr 2 0] [],AV.func 52 [AV.ptr 2 0] [],AV.func 53 [AV.ptr 2 0] []]]
def Df (p1:(List UInt8)) (p2:Pos):Hp:=Hp.mk [zpB,[AV.int .i64 0],(pc p2 [])] [4096] [] 0 0 0
def ly (p1:(List UInt8)) (p2:Pos):((Pos) ⊕ (Pos))→aW
 | .inl y=>.ret (AV.tuple []) (Hp.mk [zpB,[AV.int .i64 0],(pc y [])] [4096] [] 0 0 0)
 | .inr y=>.panic (AV.iface 69 (AV.agg [])) (Hp.mk [zpB,[AV.int .i64 0],(pc y [])] [4096] [] 0 0 0)
def bL (p1:(List UInt8)) (p2:Pos):((Pos) ⊕ (Pos)):=(bif !Int.ofNat (ai p1 (ByteArray.mk #[32]).data.toList).length==Int.ofNat 7 then (.inr (p2)) else (bif bP (aN ((ai p1 (ByteArray.mk #[32]).data.toList).getD 0 default) p2) then (bif bP (bb ((ai p1 (ByteArray.mk #[32]).data.toList).getD 1 default) (gl (aN ((ai p1 (ByteArray.mk #[32]).data.toList).getD 0 default) p2))) then (bif bP (bm ((ai p1 (ByteArray.mk #[32]).data.toList).getD 2 default) (gl (bb ((ai p1 (ByteArray.mk #[32]).data.toList).getD 1 default) (gl (aN ((ai p1 (ByteArray.mk #[32]).data.toList).getD 0 default) p2))))) then (bif bP (bj ((ai p1 (ByteArray.mk #[32]).data.toList).getD 3 default) (gl (bm ((ai p1 (ByteArray.mk #[32]).data.toList).getD 2 default) (gl (bb ((ai p1 (ByteArray.mk #[32]).data.toList).getD 1 default) (gl (aN ((ai p1 (ByteArray.mk #[32]).data.toList).getD 0 default) p2))))))) then (bif bP (cp ((ai p1 (ByteArray.mk #[32]).data.toList).getD 4 default) (gl (bj ((ai p1 (ByteArray.mk #[32]).data.toList).getD 3 default) (gl (bm ((ai p1 (ByteArray.mk #[32]).data.toList).getD 2 default) (gl (bb ((ai p1 (ByteArray.mk #[32]).data.toList).getD 1 default) (gl (aN ((ai p1 (ByteArray.mk #[32]).data.toList).getD 0 default) p2))))))))) then (bif bP (b8 ((ai p1 (ByteArray.mk #[32]).data.toList).getD 5 default) (gl (cp ((ai p1 (ByteArray.mk #[32]).data.toList).getD 4 default) (gl (bj ((ai p1 (ByteArray.mk #[32]).data.toList).getD 3 default) (gl (bm ((ai p1 (ByteArray.mk #[32]).data.toList).getD 2 default) (gl (bb ((ai p1 (ByteArray.mk #[32]).data.toList).getD 1 default) (gl (aN ((ai p1 (ByteArray.mk #[32]).data.toList).getD 0 default) p2))))))))))) then (bif bP (cQ ((ai p1 (ByteArray.mk #[32]).data.toList).getD 6 default) (gl (b8 ((ai p1 (ByteArray.mk #[32]).data.toList).getD 5 default) (gl (cp ((ai p1 (ByteArray.mk #[32]).data.toList).getD 4 default) (gl (bj ((ai p1 (ByteArray.mk #[32]).data.toList).getD 3 default) (gl (bm ((ai p1 (ByteArray.mk #[32]).data.toList).getD 2 default) (gl (bb ((ai p1 (ByteArray.mk #[32]).data.toList).getD 1 default) (gl (aN ((ai p1 (ByteArray.mk #[32]).data.toList).getD 0 default) p2))))))))))))) then (.inl (gl (cQ ((ai p1 (ByteArray.mk #[32]).data.toList).getD 6 default) (gl (b8 ((ai p1 (ByteArray.mk #[32]).data.toList).getD 5 default) (gl (cp ((ai p1 (ByteArray.mk #[32]).data.toList).getD 4 default) (gl (bj ((ai p1 (ByteArray.mk #[32]).data.toList).getD 3 default) (gl (bm ((ai p1 (ByteArray.mk #[32]).data.toList).getD 2 default) (gl (bb ((ai p1 (ByteArray.mk #[32]).data.toList).getD 1 default) (gl (aN ((ai p1 (ByteArray.mk #[32]).data.toList).getD 0 default) p2))))))))))))))) else (.inr (gl (b8 ((ai p1 (ByteArray.mk #[32]).data.toList).getD 5 default) (gl (cp ((ai p1 (ByteArray.mk #[32]).data.toList).getD 4 default) (gl (bj ((ai p1 (ByteArray.mk #[32]).data.toList).getD 3 default) (gl (bm ((ai p1 (ByteArray.mk #[32]).data.toList).getD 2 default) (gl (bb ((ai p1 (ByteArray.mk #[32]).data.toList).getD 1 default) (gl (aN ((ai p1 (ByteArray.mk #[32]).data.toList).getD 0 default) p2)))))))))))))) else (.inr (gl (cp ((ai p1 (ByteArray.mk #[32]).data.toList).getD 4 default) (gl (bj ((ai p1 (ByteArray.mk #[32]).data.toList).getD 3 default) (gl (bm ((ai p1 (ByteArray.mk #[32]).data.toList).getD 2 default) (gl (bb ((ai p1 (ByteArray.mk #[32]).data.toList).getD 1 default) (gl (aN ((ai p1 (ByteArray.mk #[32]).data.toList).getD 0 default) p2)))))))))))) else (.inr (gr (cp ((ai p1 (ByteArray.mk #[32]).data.toList).getD 4 default) (gl (bj ((ai p1 (ByteArray.mk #[32]).data.toList).getD 3 default) (gl (bm ((ai p1 (ByteArray.mk #[32]).data.toList).getD 2 default) (gl (bb ((ai p1 (ByteArray.mk #[32]).data.toList).getD 1 default) (gl (aN ((ai p1 (ByteArray.mk #[32]).data.toList).getD 0 default) p2)))))))))))) else (.inr (gr (bj ((ai p1 (ByteArray.mk #[32]).data.toList).getD 3 default) (gl (bm ((ai p1 (ByteArray.mk #[32]).data.toList).getD 2 default) (gl (bb ((ai p1 (ByteArray.mk #[32]).data.toList).getD 1 default) (gl (aN ((ai p1 (ByteArray.mk #[32]).data.toList).getD 0 default) p2)))))))))) else (.inr (gr (bm ((ai p1 (ByteArray.mk #[32]).data.toList).getD 2 default) (gl (bb ((ai p1 (ByteArray.mk #[32]).data.toList).getD 1 default) (gl (aN ((ai p1 (ByteArray.mk #[32]).data.toList).getD 0 default) p2)))))))) else (.inr (gl (aN ((ai p1 (ByteArray.mk #[32]).data.toList).getD 0 default) p2)))) else (.inr (gr (aN ((ai p1 (ByteArray.mk #[32]).data.toList).getD 0 default) p2)))))
def jD (p1:(List UInt8)) (p2:Pos):Bool:=(ez p1 (ByteArray.mk #[32]).data.toList&&(bif !Int.ofNat (ai p1 (ByteArray.mk #[32]).data.toList).length==Int.ofNat 7 then true else (decide (0≤0)&&decide (0 < Int.ofNat (ai p1 (ByteArray.mk #[32]).data.toList).length)&&(ic ((ai p1 (ByteArray.mk #[32]).data.toList).getD 0 default) (p2)&&bif bP (aN ((ai p1 (ByteArray.mk #[32]).data.toList).getD 0 default) p2) then (decide (0≤wr .i64 (0+1))&&decide (wr .i64 (0+1) < Int.ofNat (ai p1 (ByteArray.mk #[32]).data.toList).length)&&(qF ((ai p1 (ByteArray.mk #[32]).data.toList).getD 1 default) (gl (aN ((ai p1 (ByteArray.mk #[32]).data.toList).getD 0 default) p2))&&bif bP (bb ((ai p1 (ByteArray.mk #[32]).data.toList).getD 1 default) (gl (aN ((ai p1 (ByteArray.mk #[32]).data.toList).getD 0 default) p2))) then (decide (0≤wr .i64 (wr .i64 (0+1)+1))&&decide (wr .i64 (wr .i64 (0+1)+1) < Int.ofNat (ai p1 (ByteArray.mk #[32]).data.toList).length)&&(oe ((ai p1 (ByteArray.mk #[32]).data.toList).getD 2 default) (gl (bb ((ai p1 (ByteArray.mk #[32]).data.toList).getD 1 default) (gl (aN ((ai p1 (ByteArray.mk #[32]).data.toList).getD 0 default) p2))))&&bif bP (bm ((ai p1 (ByteArray.mk #[32]).data.toList).getD 2 default) (gl (bb ((ai p1 (ByteArray.mk #[32]).data.toList).getD 1 default) (gl (aN ((ai p1 (ByteArray.mk #[32]).data.toList).getD 0 default) p2))))) then (decide (0≤wr .i64 (wr .i64 (wr .i64 (0+1)+1)+1))&&decide (wr .i64 (wr .i64 (wr .i64 (0+1)+1)+1) < Int.ofNat (ai p1 (ByteArray.mk #[32]).data.toList).length)&&(lN ((ai p1 (ByteArray.mk #[32]).data.toList).getD 3 default) (gl (bm ((ai p1 (ByteArray.mk #[32]).data.toList).getD 2 default) (gl (bb ((ai p1 (ByteArray.mk #[32]).data.toList).getD 1 default) (gl (aN ((ai p1 (ByteArray.mk #[32]).data.toList).getD 0 default) p2))))))&&bif bP (bj ((ai p1 (ByteArray.mk #[32]).data.toList).getD 3 default) (gl (bm ((ai p1 (ByteArray.mk #[32]).data.toList).getD 2 default) (gl (bb ((ai p1 (ByteArray.mk #[32]).data.toList).getD 1 default) (gl (aN ((ai p1 (ByteArray.mk #[32]).data.toList).getD 0 default) p2))))))) then (decide (0≤wr .i64 (wr .i64 (wr .i64 (wr .i64 (0+1)+1)+1)+1))&&decide (wr .i64 (wr .i64 (wr .i64 (wr .i64 (0+1)+1)+1)+1) < Int.ofNat (ai p1 (ByteArray.mk #[32]).data.toList).length)&&(oD ((ai p1 (ByteArray.mk #[32]).data.toList).getD 4 default) (gl (bj ((ai p1 (ByteArray.mk #[32]).data.toList).getD 3 default) (gl (bm ((ai p1 (ByteArray.mk #[32]).data.toList).getD 2 default) (gl (bb ((ai p1 (ByteArray.mk #[32]).data.toList).getD 1 default) (gl (aN ((ai p1 (ByteArray.mk #[32]).data.toList).getD 0 default) p2))))))))&&bif bP (cp ((ai p1 (ByteArray.mk #[32]).data.toList).getD 4 default) (gl (bj ((ai p1 (ByteArray.mk #[32]).data.toList).getD 3 default) (gl (bm ((ai p1 (ByteArray.mk #[32]).data.toList).getD 2 default) (gl (bb ((ai p1 (ByteArray.mk #[32]).data.toList).getD 1 default) (gl (aN ((ai p1 (ByteArray.mk #[32]).data.toList).getD 0 default) p2))))))))) then (decide (0≤wr .i64 (wr .i64 (wr .i64 (wr .i64 (wr .i64 (0+1)+1)+1)+1)+1))&&decide (wr .i64 (wr .i64 (wr .i64 (wr .i64 (wr .i64 (0+1)+1)+1)+1)+1) < Int.ofNat (ai p1 (ByteArray.mk #[32]).data.toList).length)&&(ll ((ai p1 (ByteArray.mk #[32]).data.toList).getD 5 default) (gl (cp ((ai p1 (ByteArray.mk #[32]).data.toList).getD 4 default) (gl (bj ((ai p1 (ByteArray.mk #[32]).data.toList).getD 3 default) (gl (bm ((ai p1 (ByteArray.mk #[32]).data.toList).getD 2 default) (gl (bb ((ai p1 (ByteArray.mk #[32]).data.toList).getD 1 default) (gl (aN ((ai p1 (ByteArray.mk #[32]).data.toList).getD 0 default) p2))))))))))&&bif bP (b8 ((ai p1 (ByteArray.mk #[32]).data.toList).getD 5 default) (gl (cp ((ai p1 (ByteArray.mk #[32]).data.toList).getD 4 default) (gl (bj ((ai p1 (ByteArray.mk #[32]).data.toList).getD 3 default) (gl (bm ((ai p1 (ByteArray.mk #[32]).data.toList).getD 2 default) (gl (bb ((ai p1 (ByteArray.mk #[32]).data.toList).getD 1 default) (gl (aN ((ai p1 (ByteArray.mk #[32]).data.toList).getD 0 default) p2))))))))))) then (decide (0≤wr .i64 (wr .i64 (wr .i64 (wr .i64 (wr .i64 (wr .i64 (0+1)+1)+1)+1)+1)+1))&&decide (wr .i64 (wr .i64 (wr .i64 (wr .i64 (wr .i64 (wr .i64 (0+1)+1)+1)+1)+1)+1) < Int.ofNat (ai p1 (ByteArray.mk #[32]).data.toList).length)&&(lM ((ai p1 (ByteArray.mk #[32]).data.toList).getD 6 default) (gl (b8 ((ai p1 (ByteArray.mk #[32]).data.toList).getD 5 default) (gl (cp ((ai p1 (ByteArray.mk #[32]).data.toList).getD 4 default) (gl (bj ((ai p1 (ByteArray.mk #[32]).data.toList).getD 3 default) (gl (bm ((ai p1 (ByteArray.mk #[32]).data.toList).getD 2 default) (gl (bb ((ai p1 (ByteArray.mk #[32]).data.toList).getD 1 default) (gl (aN ((ai p1 (ByteArray.mk #[32]).data.toList).getD 0 default) p2))))))))))))&&bif bP (cQ ((ai p1 (ByteArray.mk #[32]).data.toList).getD 6 default) (gl (b8 ((ai p1 (ByteArray.mk #[32]).data.toList).getD 5 default) (gl (cp ((ai p1 (ByteArray.mk #[32]).data.toList).getD 4 default) (gl (bj ((ai p1 (ByteArray.mk #[32]).data.toList).getD 3 default) (gl (bm ((ai p1 (ByteArray.mk #[32]).data.toList).getD 2 default) (gl (bb ((ai p1 (ByteArray.mk #[32]).data.toList).getD 1 default) (gl (aN ((ai p1 (ByteArray.mk #[32]).data.toList).getD 0 default) p2))))))))))))) then true else true)) else true)) else true)) else true)) else true)) else true)) else true))))
theorem J5 (p1:(List UInt8)) (p2:Pos):lO Gq 14 51 (Fa p1 p2) (Df p1 p2)=(let z1:=(ai p1 (ByteArray.mk #[32]).data.toList); let z2:=zpB; let z7:=[AV.int .i64 0]; let z11:=(AV.iface 69 (AV.agg [])); let z12:=(z1.getD 6 default); let z16:=(Hp.mk [z2,z7,(pc p2 [])] [4096] [] 0 0 0); let z17:=(wr .i64 (0+1)+1); let z9:=(wr .i64 (wr .i64 z17+1)+1); let z19:=(z1.getD 0 default); let z10:=(aN z19 p2); let z13:=(Hp.mk [z2,z7,(pc (gl z10) [])] [4096] [] 0 0 0); let z20:=(z1.getD 1 default); let z4:=(bb z20 (gl z10)); let z21:=(z1.getD 2 default); let z8:=(bm z21 (gl z4)); let z22:=(z1.getD 3 default); let z3:=(bj z22 (gl z8)); let z23:=(z1.getD 4 default); let z6:=(cp z23 (gl z3)); let z14:=(Hp.mk [z2,z7,(pc (gl z6) [])] [4096] [] 0 0 0); let z24:=(z1.getD 5 default); let z5:=(b8 z24 (gl z6)); let z15:=(Hp.mk [z2,z7,(pc (gl z5) [])] [4096] [] 0 0 0); let z18:=(cQ z12 (gl z5)); Tr.br (ez p1 (ByteArray.mk #[32]).data.toList) (Tr.br (!Int.ofNat z1.length==Int.ofNat 7) (Tr.ret (aW.panic z11 z16)) (Tr.br (decide (0≤0)&&decide (0 < Int.ofNat z1.length)) (Tr.br (bP z10) (Tr.br (dA Pz 46 [AV.ptr 2 0,AV.str z19] z16 (p8 z19 p2 (Sum.inl (gl z10)))) (Tr.br (decide (0≤wr .i64 (0+1))&&decide (wr .i64 (0+1) < Int.ofNat z1.length)) (Tr.br (bP z4) (Tr.br (dA Pz 47 [AV.ptr 2 0,AV.str z20] z13 (pK z20 (gl z10) (Sum.inl (gl z4)))) (Tr.br (decide (0≤wr .i64 z17)&&decide (wr .i64 z17 < Int.ofNat z1.length)) (Tr.br (bP z8) (Tr.br (dA Pz 48 [AV.ptr 2 0,AV.str z21] (Hp.mk [z2,z7,(pc (gl z4) [])] [4096] [] 0 0 0) (pR z21 (gl z4) (Sum.inl (gl z8)))) (Tr.br (decide (0≤wr .i64 (wr .i64 z17+1))&&decide (wr .i64 (wr .i64 z17+1) < Int.ofNat z1.length)) (Tr.br (bP z3) (Tr.br (dA Pz 49 [AV.ptr 2 0,AV.str z22] (Hp.mk [z2,z7,(pc (gl z8) [])] [4096] [] 0 0 0) (kP z22 (gl z8) (Sum.inl (gl z3)))) (Tr.br (decide (0≤wr .i64 z9)&&decide (wr .i64 z9 < Int.ofNat z1.length)) (Tr.br (bP z6) (Tr.br (dA Pz 50 [AV.ptr 2 0,AV.str z23] (Hp.mk [z2,z7,(pc (gl z3) [])] [4096] [] 0 0 0) (pE z23 (gl z3) (Sum.inl (gl z6)))) (Tr.br (decide (0≤wr .i64 (wr .i64 z9+1))&&decide (wr .i64 (wr .i64 z9+1) < Int.ofNat z1.length)) (Tr.br (bP z5) (Tr.br (dA Pz 52 [AV.ptr 2 0,AV.str z24] z14 (kZ z24 (gl z6) (Sum.inl (gl z5)))) (Tr.br (decide (0≤wr .i64 (wr .i64 (wr .i64 z9+1)+1))&&decide (wr .i64 (wr .i64 (wr .i64 z9+1)+1) < Int.ofNat z1.length)) (Tr.br (bP z18) (Tr.br (dA Pz 53 [AV.ptr 2 0,AV.str z12] z15 (lI z12 (gl z5) (Sum.inl (gl z18)))) (Tr.ret (aW.ret (AV.tuple []) (Hp.mk [z2,z7,(pc (gl z18) [])] [4096] [] 0 0 0))) Tr.fail) (Tr.br (dA Pz 53 [AV.ptr 2 0,AV.str z12] z15 (lI z12 (gl z5) (Sum.inr (gr z18)))) (Tr.ret (aW.panic z11 z15)) Tr.fail)) Tr.fail) Tr.fail) (Tr.br (dA Pz 52 [AV.ptr 2 0,AV.str z24] z14 (kZ z24 (gl z6) (Sum.inr (gr z5)))) (Tr.ret (aW.panic z11 z14)) Tr.fail)) Tr.fail) Tr.fail) (Tr.br (dA Pz 50 [AV.ptr 2 0,AV.str z23] (Hp.mk [z2,z7,(pc (gl z3) [])] [4096] [] 0 0 0) (pE z23 (gl z3) (Sum.inr (gr z6)))) (Tr.ret (aW.panic z11 (Hp.mk [z2,z7,(pc (gr z6) [])] [4096] [] 0 0 0))) Tr.fail)) Tr.fail) Tr.fail) (Tr.br (dA Pz 49 [AV.ptr 2 0,AV.str z22] (Hp.mk [z2,z7,(pc (gl z8) [])] [4096] [] 0 0 0) (kP z22 (gl z8) (Sum.inr (gr z3)))) (Tr.ret (aW.panic z11 (Hp.mk [z2,z7,(pc (gr z3) [])] [4096] [] 0 0 0))) Tr.fail)) Tr.fail) Tr.fail) (Tr.br (dA Pz 48 [AV.ptr 2 0,AV.str z21] (Hp.mk [z2,z7,(pc (gl z4) [])] [4096] [] 0 0 0) (pR z21 (gl z4) (Sum.inr (gr z8)))) (Tr.ret (aW.panic z11 (Hp.mk [z2,z7,(pc (gr z8) [])] [4096] [] 0 0 0))) Tr.fail)) Tr.fail) Tr.fail) (Tr.br (dA Pz 47 [AV.ptr 2 0,AV.str z20] z13 (pK z20 (gl z10) (Sum.inr (gr z4)))) (Tr.ret (aW.panic z11 z13)) Tr.fail)) Tr.fail) Tr.fail) (Tr.br (dA Pz 46 [AV.ptr 2 0,AV.str z19] z16 (p8 z19 p2 (Sum.inr (gr z10)))) (Tr.ret (aW.panic z11 (Hp.mk [z2,z7,(pc (gr z10) [])] [4096] [] 0 0 0))) Tr.fail)) Tr.fail)) Tr.fail):=by kernel_rfl
theorem wu (p1:(List UInt8)) (p2:Pos) (h:jD p1 p2=true):cy Pz 51 (Fa p1 p2) (Df p1 p2) (ly p1 p2 (bL p1 p2))∧∃ fn,Pz.funcs[51]?=some fn∧fn.body.isSome=true:=gC (O:=ly p1 p2) IB (J5 p1 p2) (aG (bT (aB (cE rfl (ay (ks:=[]) (gs:=[]) (b:=true) rfl (by kernel_rfl)))) (aG (dD (fun h=>GF ((ai p1 (ByteArray.mk #[32]).data.toList).getD 0 default) (p2) h) (ay (ks:=[]) (gs:=[1]) (b:=true) rfl (by kernel_rfl)) (aG (dD (fun h=>HZ ((ai p1 (ByteArray.mk #[32]).data.toList).getD 1 default) (gl (aN ((ai p1 (ByteArray.mk #[32]).data.toList).getD 0 default) p2)) h) (ay (ks:=[]) (gs:=[1]) (b:=true) rfl (by kernel_rfl)) (aG (dD (fun h=>Hl ((ai p1 (ByteArray.mk #[32]).data.toList).getD 2 default) (gl (bb ((ai p1 (ByteArray.mk #[32]).data.toList).getD 1 default) (gl (aN ((ai p1 (ByteArray.mk #[32]).data.toList).getD 0 default) p2)))) h) (ay (ks:=[]) (gs:=[1]) (b:=true) rfl (by kernel_rfl)) (aG (dD (fun h=>AE ((ai p1 (ByteArray.mk #[32]).data.toList).getD 3 default) (gl (bm ((ai p1 (ByteArray.mk #[32]).data.toList).getD 2 default) (gl (bb ((ai p1 (ByteArray.mk #[32]).data.toList).getD 1 default) (gl (aN ((ai p1 (ByteArray.mk #[32]).data.toList).getD 0 default) p2)))))) h) (ay (ks:=[]) (gs:=[1]) (b:=true) rfl (by kernel_rfl)) (aG (dD (fun h=>Ic ((ai p1 (ByteArray.mk #[32]).data.toList).getD 4 default) (gl (bj ((ai p1 (ByteArray.mk #[32]).data.toList).getD 3 default) (gl (bm ((ai p1 (ByteArray.mk #[32]).data.toList).getD 2 default) (gl (bb ((ai p1 (ByteArray.mk #[32]).data.toList).getD 1 default) (gl (aN ((ai p1 (ByteArray.mk #[32]).data.toList).getD 0 default) p2)))))))) h) (ay (ks:=[]) (gs:=[1]) (b:=true) rfl (by kernel_rfl)) (aG (dD (fun h=>AZ ((ai p1 (ByteArray.mk #[32]).data.toList).getD 5 default) (gl (cp ((ai p1 (ByteArray.mk #[32]).data.toList).getD 4 default) (gl (bj ((ai p1 (ByteArray.mk #[32]).data.toList).getD 3 default) (gl (bm ((ai p1 (ByteArray.mk #[32]).data.toList).getD 2 default) (gl (bb ((ai p1 (ByteArray.mk #[32]).data.toList).getD 1 default) (gl (aN ((ai p1 (ByteArray.mk #[32]).data.toList).getD 0 default) p2)))))))))) h) (ay (ks:=[]) (gs:=[1]) (b:=true) rfl (by kernel_rfl)) (aG (dD (fun h=>BY ((ai p1 (ByteArray.mk #[32]).data.toList).getD 6 default) (gl (b8 ((ai p1 (ByteArray.mk #[32]).data.toList).getD 5 default) (gl (cp ((ai p1 (ByteArray.mk #[32]).data.toList).getD 4 default) (gl (bj ((ai p1 (ByteArray.mk #[32]).data.toList).getD 3 default) (gl (bm ((ai p1 (ByteArray.mk #[32]).data.toList).getD 2 default) (gl (bb ((ai p1 (ByteArray.mk #[32]).data.toList).getD 1 default) (gl (aN ((ai p1 (ByteArray.mk #[32]).data.toList).getD 0 default) p2)))))))))))) h) (ay (ks:=[]) (gs:=[1]) (b:=true) rfl (by kernel_rfl)) (aB (eL rfl (ay (ks:=[]) (gs:=[]) (b:=false) rfl (by kernel_rfl)))) (aB (cE rfl (ay (ks:=[]) (gs:=[]) (b:=true) rfl (by kernel_rfl)))))) (aB (cE rfl (ay (ks:=[]) (gs:=[]) (b:=true) rfl (by kernel_rfl)))))) (aB (cE rfl (ay (ks:=[]) (gs:=[]) (b:=true) rfl (by kernel_rfl)))))) (aB (cE rfl (ay (ks:=[]) (gs:=[]) (b:=true) rfl (by kernel_rfl)))))) (aB (cE rfl (ay (ks:=[]) (gs:=[]) (b:=true) rfl (by kernel_rfl)))))) (aB (cE rfl (ay (ks:=[]) (gs:=[]) (b:=true) rfl (by kernel_rfl)))))) (aB (cE rfl (ay (ks:=[]) (gs:=[]) (b:=true) rfl (by kernel_rfl)))))))) h
def BJ:List AV→Hp→Tr aW:=fun xs h=>.br (bP (bL (tS (tT ⟨xs,h⟩ 0)) (dP ⟨xs,h⟩ 2))) (fq Pz 51 (fun xs h=>ly (tS (tT ⟨xs,h⟩ 0)) (dP ⟨xs,h⟩ 2) (.inl (gl (bL (tS (tT ⟨xs,h⟩ 0)) (dP ⟨xs,h⟩ 2))))) xs h) (fq Pz 51 (fun xs h=>ly (tS (tT ⟨xs,h⟩ 0)) (dP ⟨xs,h⟩ 2) (.inr (gr (bL (tS (tT ⟨xs,h⟩ 0)) (dP ⟨xs,h⟩ 2))))) xs h)
theorem Fk:ct Pz 51 BJ:=eH (c:=fun xs h=>bP (bL (tS (tT ⟨xs,h⟩ 0)) (dP ⟨xs,h⟩ 2))) bU bU
def Fh:aT:=aA Pz (fun f i=>tu f i ya) [(65,o6),(66,sH),(81,wm),(82,vG),(83,wO),(84,wM),(86,wQ),(87,wR),(88,wK),(120,kG)] [(46,6,gN),(46,18,fun b s=>(bif cs21_1 s then hT b s else (bif cs21_2 s then iS b s else .fail))),(46,14,fun b s=>(bif cs21_3 s then iy b s else (bif cs21_4 s then jt b s else .fail))),(48,3,mW),(50,2,nf)] [(46,gZ),(47,iM),(48,j5),(49,jg),(50,me),(52,nI),(53,qT)]
theorem Ir:cr Fh:=ar aq ⟨pV,sZ,wX,wS,yz,xe,xZ,xK,yH,lT,trivial⟩ ⟨eK,(aJ (c:=cs21_1) e9 (aJ (c:=cs21_2) gb bC)),(aJ (c:=cs21_3) fH (aJ (c:=cs21_4) hE bC)),jV,my,trivial⟩ ⟨fF,gH,jc,iI,lF,oH,rN,trivial⟩
def EZ (p1:(List UInt8)) (p2:Pos):List AV:=[AV.str p1,AV.vany Tk.fresh [AV.func 46 [AV.ptr 2 0] [],AV.func 47 [AV.ptr 2 0] [],AV.func 48 [AV.ptr 2 0] [],AV.func 49 [AV.ptr 2 0] [],AV.func 52 [AV.ptr 2 0] [],AV.func 53 [AV.ptr 2 0] []]]
def ES (p1:(List UInt8)) (p2:Pos):Hp:=Hp.mk [zpB,[AV.int .i64 0],(pc p2 [])] [4096] [] 0 0 0
def kQ (p1:(List UInt8)) (p2:Pos):((Pos) ⊕ (Pos))→aW
 | .inl y=>.ret (AV.tuple []) (Hp.mk [zpB,[AV.int .i64 0],(pc y [])] [4096] [] 0 0 0)
 | .inr y=>.panic (AV.iface 69 (AV.agg [])) (Hp.mk [zpB,[AV.int .i64 0],(pc y [])] [4096] [] 0 0 0)
def bJ (p1:(List UInt8)) (p2:Pos):((Pos) ⊕ (Pos)):=(bif !Int.ofNat (ai p1 (ByteArray.mk #[32]).data.toList).length==Int.ofNat 6 then (.inr (p2)) else (bif bP (aN ((ai p1 (ByteArray.mk #[32]).data.toList).getD 0 default) p2) then (bif bP (bb ((ai p1 (ByteArray.mk #[32]).data.toList).getD 1 default) (gl (aN ((ai p1 (ByteArray.mk #[32]).data.toList).getD 0 default) p2))) then (bif bP (bm ((ai p1 (ByteArray.mk #[32]).data.toList).getD 2 default) (gl (bb ((ai p1 (ByteArray.mk #[32]).data.toList).getD 1 default) (gl (aN ((ai p1 (ByteArray.mk #[32]).data.toList).getD 0 default) p2))))) then (bif bP (bj ((ai p1 (ByteArray.mk #[32]).data.toList).getD 3 default) (gl (bm ((ai p1 (ByteArray.mk #[32]).data.toList).getD 2 default) (gl (bb ((ai p1 (ByteArray.mk #[32]).data.toList).getD 1 default) (gl (aN ((ai p1 (ByteArray.mk #[32]).data.toList).getD 0 default) p2))))))) then (bif bP (b8 ((ai p1 (ByteArray.mk #[32]).data.toList).getD 4 default) (gl (bj ((ai p1 (ByteArray.mk #[32]).data.toList).getD 3 default) (gl (bm ((ai p1 (ByteArray.mk #[32]).data.toList).getD 2 default) (gl (bb ((ai p1 (ByteArray.mk #[32]).data.toList).getD 1 default) (gl (aN ((ai p1 (ByteArray.mk #[32]).data.toList).getD 0 default) p2))))))))) then (bif bP (cQ ((ai p1 (ByteArray.mk #[32]).data.toList).getD 5 default) (gl (b8 ((ai p1 (ByteArray.mk #[32]).data.toList).getD 4 default) (gl (bj ((ai p1 (ByteArray.mk #[32]).data.toList).getD 3 default) (gl (bm ((ai p1 (ByteArray.mk #[32]).data.toList).getD 2 default) (gl (bb ((ai p1 (ByteArray.mk #[32]).data.toList).getD 1 default) (gl (aN ((ai p1 (ByteArray.mk #[32]).data.toList).getD 0 default) p2))))))))))) then (.inl (gl (cQ ((ai p1 (ByteArray.mk #[32]).data.toList).getD 5 default) (gl (b8 ((ai p1 (ByteArray.mk #[32]).data.toList).getD 4 default) (gl (bj ((ai p1 (ByteArray.mk #[32]).data.toList).getD 3 default) (gl (bm ((ai p1 (ByteArray.mk #[32]).data.toList).getD 2 default) (gl (bb ((ai p1 (ByteArray.mk #[32]).data.toList).getD 1 default) (gl (aN ((ai p1 (ByteArray.mk #[32]).data.toList).getD 0 default) p2))))))))))))) else (.inr (gl (b8 ((ai p1 (ByteArray.mk #[32]).data.toList).getD 4 default) (gl (bj ((ai p1 (ByteArray.mk #[32]).data.toList).getD 3 default) (gl (bm ((ai p1 (ByteArray.mk #[32]).data.toList).getD 2 default) (gl (bb ((ai p1 (ByteArray.mk #[32]).data.toList).getD 1 default) (gl (aN ((ai p1 (ByteArray.mk #[32]).data.toList).getD 0 default) p2)))))))))))) else (.inr (gl (bj ((ai p1 (ByteArray.mk #[32]).data.toList).getD 3 default) (gl (bm ((ai p1 (ByteArray.mk #[32]).data.toList).getD 2 default) (gl (bb ((ai p1 (ByteArray.mk #[32]).data.toList).getD 1 default) (gl (aN ((ai p1 (ByteArray.mk #[32]).data.toList).getD 0 default) p2)))))))))) else (.inr (gr (bj ((ai p1 (ByteArray.mk #[32]).data.toList).getD 3 default) (gl (bm ((ai p1 (ByteArray.mk #[32]).data.toList).getD 2 default) (gl (bb ((ai p1 (ByteArray.mk #[32]).data.toList).getD 1 default) (gl (aN ((ai p1 (ByteArray.mk #[32]).data.toList).getD 0 default) p2)))))))))) else (.inr (gr (bm ((ai p1 (ByteArray.mk #[32]).data.toList).getD 2 default) (gl (bb ((ai p1 (ByteArray.mk #[32]).data.toList).getD 1 default) (gl (aN ((ai p1 (ByteArray.mk #[32]).data.toList).getD 0 default) p2)))))))) else (.inr (gl (aN ((ai p1 (ByteArray.mk #[32]).data.toList).getD 0 default) p2)))) else (.inr (gr (aN ((ai p1 (ByteArray.mk #[32]).data.toList).getD 0 default) p2)))))
def jz (p1:(List UInt8)) (p2:Pos):Bool:=(ez p1 (ByteArray.mk #[32]).data.toList&&(bif !Int.ofNat (ai p1 (ByteArray.mk #[32]).data.toList).length==Int.ofNat 6 then true else (decide (0≤0)&&decide (0 < Int.ofNat (ai p1 (ByteArray.mk #[32]).data.toList).length)&&(ic ((ai p1 (ByteArray.mk #[32]).data.toList).getD 0 default) (p2)&&bif bP (aN ((ai p1 (ByteArray.mk #[32]).data.toList).getD 0 default) p2) then (decide (0≤wr .i64 (0+1))&&decide (wr .i64 (0+1) < Int.ofNat (ai p1 (ByteArray.mk #[32]).data.toList).length)&&(qF ((ai p1 (ByteArray.mk #[32]).data.toList).getD 1 default) (gl (aN ((ai p1 (ByteArray.mk #[32]).data.toList).getD 0 default) p2))&&bif bP (bb ((ai p1 (ByteArray.mk #[32]).data.toList).getD 1 default) (gl (aN ((ai p1 (ByteArray.mk #[32]).data.toList).getD 0 default) p2))) then (decide (0≤wr .i64 (wr .i64 (0+1)+1))&&decide (wr .i64 (wr .i64 (0+1)+1) < Int.ofNat (ai p1 (ByteArray.mk #[32]).data.toList).length)&&(oe ((ai p1 (ByteArray.mk #[32]).data.toList).getD 2 default) (gl (bb ((ai p1 (ByteArray.mk #[32]).data.toList).getD 1 default) (gl (aN ((ai p1 (ByteArray.mk #[32]).data.toList).getD 0 default) p2))))&&bif bP (bm ((ai p1 (ByteArray.mk #[32]).data.toList).getD 2 default) (gl (bb ((ai p1 (ByteArray.mk #[32]).data.toList).getD 1 default) (gl (aN ((ai p1 (ByteArray.mk #[32]).data.toList).getD 0 default) p2))))) then (decide (0≤wr .i64 (wr .i64 (wr .i64 (0+1)+1)+1))&&decide (wr .i64 (wr .i64 (wr .i64 (0+1)+1)+1) < Int.ofNat (ai p1 (ByteArray.mk #[32]).data.toList).length)&&(lN ((ai p1 (ByteArray.mk #[32]).data.toList).getD 3 default) (gl (bm ((ai p1 (ByteArray.mk #[32]).data.toList).getD 2 default) (gl (bb ((ai p1 (ByteArray.mk #[32]).data.toList).getD 1 default) (gl (aN ((ai p1 (ByteArray.mk #[32]).data.toList).getD 0 default) p2))))))&&bif bP (bj ((ai p1 (ByteArray.mk #[32]).data.toList).getD 3 default) (gl (bm ((ai p1 (ByteArray.mk #[32]).data.toList).getD 2 default) (gl (bb ((ai p1 (ByteArray.mk #[32]).data.toList).getD 1 default) (gl (aN ((ai p1 (ByteArray.mk #[32]).data.toList).getD 0 default) p2))))))) then (decide (0≤wr .i64 (wr .i64 (wr .i64 (wr .i64 (0+1)+1)+1)+1))&&decide (wr .i64 (wr .i64 (wr .i64 (wr .i64 (0+1)+1)+1)+1) < Int.ofNat (ai p1 (ByteArray.mk #[32]).data.toList).length)&&(ll ((ai p1 (ByteArray.mk #[32]).data.toList).getD 4 default) (gl (bj ((ai p1 (ByteArray.mk #[32]).data.toList).getD 3 default) (gl (bm ((ai p1 (ByteArray.mk #[32]).data.toList).getD 2 default) (gl (bb ((ai p1 (ByteArray.mk #[32]).data.toList).getD 1 default) (gl (aN ((ai p1 (ByteArray.mk #[32]).data.toList).getD 0 default) p2))))))))&&bif bP (b8 ((ai p1 (ByteArray.mk #[32]).data.toList).getD 4 default) (gl (bj ((ai p1 (ByteArray.mk #[32]).data.toList).getD 3 default) (gl (bm ((ai p1 (ByteArray.mk #[32]).data.toList).getD 2 default) (gl (bb ((ai p1 (ByteArray.mk #[32]).data.toList).getD 1 default) (gl (aN ((ai p1 (ByteArray.mk #[32]).data.toList).getD 0 default) p2))))))))) then (decide (0≤wr .i64 (wr .i64 (wr .i64 (wr .i64 (wr .i64 (0+1)+1)+1)+1)+1))&&decide (wr .i64 (wr .i64 (wr .i64 (wr .i64 (wr .i64 (0+1)+1)+1)+1)+1) < Int.ofNat (ai p1 (ByteArray.mk #[32]).data.toList).length)&&(lM ((ai p1 (ByteArray.mk #[32]).data.toList).getD 5 default) (gl (b8 ((ai p1 (ByteArray.mk #[32]).data.toList).getD 4 default) (gl (bj ((ai p1 (ByteArray.mk #[32]).data.toList).getD 3 default) (gl (bm ((ai p1 (ByteArray.mk #[32]).data.toList).getD 2 default) (gl (bb ((ai p1 (ByteArray.mk #[32]).data.toList).getD 1 default) (gl (aN ((ai p1 (ByteArray.mk #[32]).data.toList).getD 0 default) p2))))))))))&&bif bP (cQ ((ai p1 (ByteArray.mk #[32]).data.toList).getD 5 default) (gl (b8 ((ai p1 (ByteArray.mk #[32]).data.toList).getD 4 default) (gl (bj ((ai p1 (ByteArray.mk #[32]).data.toList).getD 3 default) (gl (bm ((ai p1 (ByteArray.mk #[32]).data.toList).getD 2 default) (gl (bb ((ai p1 (ByteArray.mk #[32]).data.toList).getD 1 default) (gl (aN ((ai p1 (ByteArray.mk #[32]).data.toList).getD 0 default) p2))))))))))) then true else true)) else true)) else true)) else true)) else true)) else true))))
theorem Js (p1:(List UInt8)) (p2:Pos):lO Fh 14 51 (EZ p1 p2) (ES p1 p2)=(let z1:=(ai p1 (ByteArray.mk #[32]).data.toList); let z2:=zpB; let z7:=[AV.int .i64 0]; let z9:=(wr .i64 (wr .i64 (0+1)+1)+1); let z10:=(AV.iface 69 (AV.agg [])); let z11:=(z1.getD 5 default); let z15:=(Hp.mk [z2,z7,(pc p2 [])] [4096] [] 0 0 0); let z17:=(z1.getD 0 default); let z5:=(aN z17 p2); let z12:=(Hp.mk [z2,z7,(pc (gl z5) [])] [4096] [] 0 0 0); let z18:=(z1.getD 1 default); let z8:=(bb z18 (gl z5)); let z19:=(z1.getD 2 default); let z3:=(bm z19 (gl z8)); let z20:=(z1.getD 3 default); let z6:=(bj z20 (gl z3)); let z13:=(Hp.mk [z2,z7,(pc (gl z6) [])] [4096] [] 0 0 0); let z21:=(z1.getD 4 default); let z4:=(b8 z21 (gl z6)); let z14:=(Hp.mk [z2,z7,(pc (gl z4) [])] [4096] [] 0 0 0); let z16:=(cQ z11 (gl z4)); Tr.br (ez p1 (ByteArray.mk #[32]).data.toList) (Tr.br (!Int.ofNat z1.length==Int.ofNat 6) (Tr.ret (aW.panic z10 z15)) (Tr.br (decide (0≤0)&&decide (0 < Int.ofNat z1.length)) (Tr.br (bP z5) (Tr.br (dA Pz 46 [AV.ptr 2 0,AV.str z17] z15 (p8 z17 p2 (Sum.inl (gl z5)))) (Tr.br (decide (0≤wr .i64 (0+1))&&decide (wr .i64 (0+1) < Int.ofNat z1.length)) (Tr.br (bP z8) (Tr.br (dA Pz 47 [AV.ptr 2 0,AV.str z18] z12 (pK z18 (gl z5) (Sum.inl (gl z8)))) (Tr.br (decide (0≤wr .i64 (wr .i64 (0+1)+1))&&decide (wr .i64 (wr .i64 (0+1)+1) < Int.ofNat z1.length)) (Tr.br (bP z3) (Tr.br (dA Pz 48 [AV.ptr 2 0,AV.str z19] (Hp.mk [z2,z7,(pc (gl z8) [])] [4096] [] 0 0 0) (pR z19 (gl z8) (Sum.inl (gl z3)))) (Tr.br (decide (0≤wr .i64 z9)&&decide (wr .i64 z9 < Int.ofNat z1.length)) (Tr.br (bP z6) (Tr.br (dA Pz 49 [AV.ptr 2 0,AV.str z20] (Hp.mk [z2,z7,(pc (gl z3) [])] [4096] [] 0 0 0) (kP z20 (gl z3) (Sum.inl (gl z6)))) (Tr.br (decide (0≤wr .i64 (wr .i64 z9+1))&&decide (wr .i64 (wr .i64 z9+1) < Int.ofNat z1.length)) (Tr.br (bP z4) (Tr.br (dA Pz 52 [AV.ptr 2 0,AV.str z21] z13 (kZ z21 (gl z6) (Sum.inl (gl z4)))) (Tr.br (decide (0≤wr .i64 (wr .i64 (wr .i64 z9+1)+1))&&decide (wr .i64 (wr .i64 (wr .i64 z9+1)+1) < Int.ofNat z1.length)) (Tr.br (bP z16) (Tr.br (dA Pz 53 [AV.ptr 2 0,AV.str z11] z14 (lI z11 (gl z4) (Sum.inl (gl z16)))) (Tr.ret (aW.ret (AV.tuple []) (Hp.mk [z2,z7,(pc (gl z16) [])] [4096] [] 0 0 0))) Tr.fail) (Tr.br (dA Pz 53 [AV.ptr 2 0,AV.str z11] z14 (lI z11 (gl z4) (Sum.inr (gr z16)))) (Tr.ret (aW.panic z10 z14)) Tr.fail)) Tr.fail) Tr.fail) (Tr.br (dA Pz 52 [AV.ptr 2 0,AV.str z21] z13 (kZ z21 (gl z6) (Sum.inr (gr z4)))) (Tr.ret (aW.panic z10 z13)) Tr.fail)) Tr.fail) Tr.fail) (Tr.br (dA Pz 49 [AV.ptr 2 0,AV.str z20] (Hp.mk [z2,z7,(pc (gl z3) [])] [4096] [] 0 0 0) (kP z20 (gl z3) (Sum.inr (gr z6)))) (Tr.ret (aW.panic z10 (Hp.mk [z2,z7,(pc (gr z6) [])] [4096] [] 0 0 0))) Tr.fail)) Tr.fail) Tr.fail) (Tr.br (dA Pz 48 [AV.ptr 2 0,AV.str z19] (Hp.mk [z2,z7,(pc (gl z8) [])] [4096] [] 0 0 0) (pR z19 (gl z8) (Sum.inr (gr z3)))) (Tr.ret (aW.panic z10 (Hp.mk [z2,z7,(pc (gr z3) [])] [4096] [] 0 0 0))) Tr.fail)) Tr.fail) Tr.fail) (Tr.br (dA Pz 47 [AV.ptr 2 0,AV.str z18] z12 (pK z18 (gl z5) (Sum.inr (gr z8)))) (Tr.ret (aW.panic z10 z12)) Tr.fail)) Tr.fail) Tr.fail) (Tr.br (dA Pz 46 [AV.ptr 2 0,AV.str z17] z15 (p8 z17 p2 (Sum.inr (gr z5)))) (Tr.ret (aW.panic z10 (Hp.mk [z2,z7,(pc (gr z5) [])] [4096] [] 0 0 0))) Tr.fail)) Tr.fail)) Tr.fail):=by kernel_rfl
theorem vw (p1:(List UInt8)) (p2:Pos) (h:jz p1 p2=true):cy Pz 51 (EZ p1 p2) (ES p1 p2) (kQ p1 p2 (bJ p1 p2))∧∃ fn,Pz.funcs[51]?=some fn∧fn.body.isSome=true:=gC (O:=kQ p1 p2) Ir (Js p1 p2) (aG (bT (aB (cE rfl (ay (ks:=[]) (gs:=[]) (b:=true) rfl (by kernel_rfl)))) (aG (dD (fun h=>GF ((ai p1 (ByteArray.mk #[32]).data.toList).getD 0 default) (p2) h) (ay (ks:=[]) (gs:=[1]) (b:=true) rfl (by kernel_rfl)) (aG (dD (fun h=>HZ ((ai p1 (ByteArray.mk #[32]).data.toList).getD 1 default) (gl (aN ((ai p1 (ByteArray.mk #[32]).data.toList).getD 0 default) p2)) h) (ay (ks:=[]) (gs:=[1]) (b:=true) rfl (by kernel_rfl)) (aG (dD (fun h=>Hl ((ai p1 (ByteArray.mk #[32]).data.toList).getD 2 default) (gl (bb ((ai p1 (ByteArray.mk #[32]).data.toList).getD 1 default) (gl (aN ((ai p1 (ByteArray.mk #[32]).data.toList).getD 0 default) p2)))) h) (ay (ks:=[]) (gs:=[1]) (b:=true) rfl (by kernel_rfl)) (aG (dD (fun h=>AE ((ai p1 (ByteArray.mk #[32]).data.toList).getD 3 default) (gl (bm ((ai p1 (ByteArray.mk #[32]).data.toList).getD 2 default) (gl (bb ((ai p1 (ByteArray.mk #[32]).data.toList).getD 1 default) (gl (aN ((ai p1 (ByteArray.mk #[32]).data.toList).getD 0 default) p2)))))) h) (ay (ks:=[]) (gs:=[1]) (b:=true) rfl (by kernel_rfl)) (aG (dD (fun h=>AZ ((ai p1 (ByteArray.mk #[32]).data.toList).getD 4 default) (gl (bj ((ai p1 (ByteArray.mk #[32]).data.toList).getD 3 default) (gl (bm ((ai p1 (ByteArray.mk #[32]).data.toList).getD 2 default) (gl (bb ((ai p1 (ByteArray.mk #[32]).data.toList).getD 1 default) (gl (aN ((ai p1 (ByteArray.mk #[32]).data.toList).getD 0 default) p2)))))))) h) (ay (ks:=[]) (gs:=[1]) (b:=true) rfl (by kernel_rfl)) (aG (dD (fun h=>BY ((ai p1 (ByteArray.mk #[32]).data.toList).getD 5 default) (gl (b8 ((ai p1 (ByteArray.mk #[32]).data.toList).getD 4 default) (gl (bj ((ai p1 (ByteArray.mk #[32]).data.toList).getD 3 default) (gl (bm ((ai p1 (ByteArray.mk #[32]).data.toList).getD 2 default) (gl (bb ((ai p1 (ByteArray.mk #[32]).data.toList).getD 1 default) (gl (aN ((ai p1 (ByteArray.mk #[32]).data.toList).getD 0 default) p2)))))))))) h) (ay (ks:=[]) (gs:=[1]) (b:=true) rfl (by kernel_rfl)) (aB (eL rfl (ay (ks:=[]) (gs:=[]) (b:=false) rfl (by kernel_rfl)))) (aB (cE rfl (ay (ks:=[]) (gs:=[]) (b:=true) rfl (by kernel_rfl)))))) (aB (cE rfl (ay (ks:=[]) (gs:=[]) (b:=true) rfl (by kernel_rfl)))))) (aB (cE rfl (ay (ks:=[]) (gs:=[]) (b:=true) rfl (by kernel_rfl)))))) (aB (cE rfl (ay (ks:=[]) (gs:=[]) (b:=true) rfl (by kernel_rfl)))))) (aB (cE rfl (ay (ks:=[]) (gs:=[]) (b:=true) rfl (by kernel_rfl)))))) (aB (cE rfl (ay (ks:=[]) (gs:=[]) (b:=true) rfl (by kernel_rfl)))))))) h
def Bv:List AV→Hp→Tr aW:=fun xs h=>.br (bP (bJ (tS (tT ⟨xs,h⟩ 0)) (dP ⟨xs,h⟩ 2))) (fq Pz 51 (fun xs h=>kQ (tS (tT ⟨xs,h⟩ 0)) (dP ⟨xs,h⟩ 2) (.inl (gl (bJ (tS (tT ⟨xs,h⟩ 0)) (dP ⟨xs,h⟩ 2))))) xs h) (fq Pz 51 (fun xs h=>kQ (tS (tT ⟨xs,h⟩ 0)) (dP ⟨xs,h⟩ 2) (.inr (gr (bJ (tS (tT ⟨xs,h⟩ 0)) (dP ⟨xs,h⟩ 2))))) xs h)
theorem FE:ct Pz 51 Bv:=eH (c:=fun xs h=>bP (bJ (tS (tT ⟨xs,h⟩ 0)) (dP ⟨xs,h⟩ 2))) bU bU
abbrev cq21_1 (xs:List AV) (h:Hp):Bool:=Kz.EI [0,1] (St.mk xs h)==[5,5007,10,3,7,4,7,3,7,3,7,3,3,1,3,10,3,7,4,7,3,7,3,7,3,3]
abbrev cq21_2 (xs:List AV) (h:Hp):Bool:=Kz.EI [0,1] (St.mk xs h)==[5,5006,10,3,7,4,7,3,7,3,7,3,3,1,3,10,3,7,4,7,3,7,3,7,3,3]
def Yi:aT:=aA Pz (fun f i=>tu f i ya) [(65,o6),(66,sH),(81,wm),(82,vG),(83,wO),(84,wM),(86,wQ),(87,wR),(88,wK),(120,kG)] [(46,6,gN),(46,18,fun b s=>(bif cs21_1 s then hT b s else (bif cs21_2 s then iS b s else .fail))),(46,14,fun b s=>(bif cs21_3 s then iy b s else (bif cs21_4 s then jt b s else .fail))),(48,3,mW),(50,2,nf)] [(46,gZ),(47,iM),(48,j5),(49,jg),(50,me),(52,nI),(53,qT),(51,fun xs h=>(bif cq21_1 xs h then BJ xs h else (bif cq21_2 xs h then Bv xs h else .fail)))]
theorem VL:cr Yi:=ar aq ⟨pV,sZ,wX,wS,yz,xe,xZ,xK,yH,lT,trivial⟩ ⟨eK,(aJ (c:=cs21_1) e9 (aJ (c:=cs21_2) gb bC)),(aJ (c:=cs21_3) fH (aJ (c:=cs21_4) hE bC)),jV,my,trivial⟩ ⟨fF,gH,jc,iI,lF,oH,rN,(aw (c:=cq21_1) Fk (aw (c:=cq21_2) FE aY)),trivial⟩
def nK (a:Int) (b:List UInt8):(Pos×Int):=(bif a==5 then (bif bP (bL b (Pos.mk a (li (List.replicate 64 0)) 0 (li [0,0,0,0,0,0,0,0,0,0,0,0]) 0 (li [0,0,0,0]) 0 (li [0,0]) 0 0)) then (⟨((gl (bL b (Pos.mk a (li (List.replicate 64 0)) 0 (li [0,0,0,0,0,0,0,0,0,0,0,0]) 0 (li [0,0,0,0]) 0 (li [0,0]) 0 0))).variant),((gl (bL b (Pos.mk a (li (List.replicate 64 0)) 0 (li [0,0,0,0,0,0,0,0,0,0,0,0]) 0 (li [0,0,0,0]) 0 (li [0,0]) 0 0))).ag),((gl (bL b (Pos.mk a (li (List.replicate 64 0)) 0 (li [0,0,0,0,0,0,0,0,0,0,0,0]) 0 (li [0,0,0,0]) 0 (li [0,0]) 0 0))).aa),((gl (bL b (Pos.mk a (li (List.replicate 64 0)) 0 (li [0,0,0,0,0,0,0,0,0,0,0,0]) 0 (li [0,0,0,0]) 0 (li [0,0]) 0 0))).ae),((gl (bL b (Pos.mk a (li (List.replicate 64 0)) 0 (li [0,0,0,0,0,0,0,0,0,0,0,0]) 0 (li [0,0,0,0]) 0 (li [0,0]) 0 0))).ao),((gl (bL b (Pos.mk a (li (List.replicate 64 0)) 0 (li [0,0,0,0,0,0,0,0,0,0,0,0]) 0 (li [0,0,0,0]) 0 (li [0,0]) 0 0))).ah),((gl (bL b (Pos.mk a (li (List.replicate 64 0)) 0 (li [0,0,0,0,0,0,0,0,0,0,0,0]) 0 (li [0,0,0,0]) 0 (li [0,0]) 0 0))).af),((gl (bL b (Pos.mk a (li (List.replicate 64 0)) 0 (li [0,0,0,0,0,0,0,0,0,0,0,0]) 0 (li [0,0,0,0]) 0 (li [0,0]) 0 0))).ab),((gl (bL b (Pos.mk a (li (List.replicate 64 0)) 0 (li [0,0,0,0,0,0,0,0,0,0,0,0]) 0 (li [0,0,0,0]) 0 (li [0,0]) 0 0))).half),((gl (bL b (Pos.mk a (li (List.replicate 64 0)) 0 (li [0,0,0,0,0,0,0,0,0,0,0,0]) 0 (li [0,0,0,0]) 0 (li [0,0]) 0 0))).full)⟩,(0)) else (bif a==5 then (bif bP (bL b (Pos.mk a (li (List.replicate 64 0)) 0 (li [0,0,0,0,0,0,0,0,0,0,0,0]) 0 (li [0,0,0,0]) 0 (li [0,0]) 0 0)) then default else (⟨(0),(li (List.replicate 64 0)),(0),(li [0,0,0,0,0,0,0,0,0,0,0,0]),(0),(li [0,0,0,0]),(0),(li [0,0]),(0),(0)⟩,(5))) else (bif bP (bJ b (Pos.mk a (li (List.replicate 64 0)) 0 (li [0,0,0,0,0,0,0,0,0,0,0,0]) 0 (li [0,0,0,0]) 0 (li [0,0]) 0 0)) then default else (⟨(0),(li (List.replicate 64 0)),(0),(li [0,0,0,0,0,0,0,0,0,0,0,0]),(0),(li [0,0,0,0]),(0),(li [0,0]),(0),(0)⟩,(5))))) else (bif bP (bJ b (Pos.mk a (li (List.replicate 64 0)) 0 (li [0,0,0,0,0,0,0,0,0,0,0,0]) 0 (li [0,0,0,0]) 0 (li [0,0]) 0 0)) then (⟨((gl (bJ b (Pos.mk a (li (List.replicate 64 0)) 0 (li [0,0,0,0,0,0,0,0,0,0,0,0]) 0 (li [0,0,0,0]) 0 (li [0,0]) 0 0))).variant),((gl (bJ b (Pos.mk a (li (List.replicate 64 0)) 0 (li [0,0,0,0,0,0,0,0,0,0,0,0]) 0 (li [0,0,0,0]) 0 (li [0,0]) 0 0))).ag),((gl (bJ b (Pos.mk a (li (List.replicate 64 0)) 0 (li [0,0,0,0,0,0,0,0,0,0,0,0]) 0 (li [0,0,0,0]) 0 (li [0,0]) 0 0))).aa),((gl (bJ b (Pos.mk a (li (List.replicate 64 0)) 0 (li [0,0,0,0,0,0,0,0,0,0,0,0]) 0 (li [0,0,0,0]) 0 (li [0,0]) 0 0))).ae),((gl (bJ b (Pos.mk a (li (List.replicate 64 0)) 0 (li [0,0,0,0,0,0,0,0,0,0,0,0]) 0 (li [0,0,0,0]) 0 (li [0,0]) 0 0))).ao),((gl (bJ b (Pos.mk a (li (List.replicate 64 0)) 0 (li [0,0,0,0,0,0,0,0,0,0,0,0]) 0 (li [0,0,0,0]) 0 (li [0,0]) 0 0))).ah),((gl (bJ b (Pos.mk a (li (List.replicate 64 0)) 0 (li [0,0,0,0,0,0,0,0,0,0,0,0]) 0 (li [0,0,0,0]) 0 (li [0,0]) 0 0))).af),((gl (bJ b (Pos.mk a (li (List.replicate 64 0)) 0 (li [0,0,0,0,0,0,0,0,0,0,0,0]) 0 (li [0,0,0,0]) 0 (li [0,0]) 0 0))).ab),((gl (bJ b (Pos.mk a (li (List.replicate 64 0)) 0 (li [0,0,0,0,0,0,0,0,0,0,0,0]) 0 (li [0,0,0,0]) 0 (li [0,0]) 0 0))).half),((gl (bJ b (Pos.mk a (li (List.replicate 64 0)) 0 (li [0,0,0,0,0,0,0,0,0,0,0,0]) 0 (li [0,0,0,0]) 0 (li [0,0]) 0 0))).full)⟩,(0)) else (bif a==5 then (bif bP (bL b (Pos.mk a (li (List.replicate 64 0)) 0 (li [0,0,0,0,0,0,0,0,0,0,0,0]) 0 (li [0,0,0,0]) 0 (li [0,0]) 0 0)) then default else (⟨(0),(li (List.replicate 64 0)),(0),(li [0,0,0,0,0,0,0,0,0,0,0,0]),(0),(li [0,0,0,0]),(0),(li [0,0]),(0),(0)⟩,(5))) else (bif bP (bJ b (Pos.mk a (li (List.replicate 64 0)) 0 (li [0,0,0,0,0,0,0,0,0,0,0,0]) 0 (li [0,0,0,0]) 0 (li [0,0]) 0 0)) then default else (⟨(0),(li (List.replicate 64 0)),(0),(li [0,0,0,0,0,0,0,0,0,0,0,0]),(0),(li [0,0,0,0]),(0),(li [0,0]),(0),(0)⟩,(5))))))
def D3 (a:Int) (b:List UInt8):Bool:=(bif a==5 then (jD (b) (Pos.mk a (li (List.replicate 64 0)) 0 (li [0,0,0,0,0,0,0,0,0,0,0,0]) 0 (li [0,0,0,0]) 0 (li [0,0]) 0 0)&&bif bP (bL b (Pos.mk a (li (List.replicate 64 0)) 0 (li [0,0,0,0,0,0,0,0,0,0,0,0]) 0 (li [0,0,0,0]) 0 (li [0,0]) 0 0)) then true else (bif a==5 then (jD (b) (Pos.mk a (li (List.replicate 64 0)) 0 (li [0,0,0,0,0,0,0,0,0,0,0,0]) 0 (li [0,0,0,0]) 0 (li [0,0]) 0 0)&&bif bP (bL b (Pos.mk a (li (List.replicate 64 0)) 0 (li [0,0,0,0,0,0,0,0,0,0,0,0]) 0 (li [0,0,0,0]) 0 (li [0,0]) 0 0)) then false else true) else (jz (b) (Pos.mk a (li (List.replicate 64 0)) 0 (li [0,0,0,0,0,0,0,0,0,0,0,0]) 0 (li [0,0,0,0]) 0 (li [0,0]) 0 0)&&bif bP (bJ b (Pos.mk a (li (List.replicate 64 0)) 0 (li [0,0,0,0,0,0,0,0,0,0,0,0]) 0 (li [0,0,0,0]) 0 (li [0,0]) 0 0)) then false else true))) else (jz (b) (Pos.mk a (li (List.replicate 64 0)) 0 (li [0,0,0,0,0,0,0,0,0,0,0,0]) 0 (li [0,0,0,0]) 0 (li [0,0]) 0 0)&&bif bP (bJ b (Pos.mk a (li (List.replicate 64 0)) 0 (li [0,0,0,0,0,0,0,0,0,0,0,0]) 0 (li [0,0,0,0]) 0 (li [0,0]) 0 0)) then true else (bif a==5 then (jD (b) (Pos.mk a (li (List.replicate 64 0)) 0 (li [0,0,0,0,0,0,0,0,0,0,0,0]) 0 (li [0,0,0,0]) 0 (li [0,0]) 0 0)&&bif bP (bL b (Pos.mk a (li (List.replicate 64 0)) 0 (li [0,0,0,0,0,0,0,0,0,0,0,0]) 0 (li [0,0,0,0]) 0 (li [0,0]) 0 0)) then false else true) else (jz (b) (Pos.mk a (li (List.replicate 64 0)) 0 (li [0,0,0,0,0,0,0,0,0,0,0,0]) 0 (li [0,0,0,0]) 0 (li [0,0]) 0 0)&&bif bP (bJ b (Pos.mk a (li (List.replicate 64 0)) 0 (li [0,0,0,0,0,0,0,0,0,0,0,0]) 0 (li [0,0,0,0]) 0 (li [0,0]) 0 0)) then false else true))))
theorem YC (a:Int) (b:List UInt8):fZ Yi 14 21 [.int .u8 a,.str b]=(let z1:=(Hp.mk [[AV.bu .u8 0,AV.ints .u8 64 (li (List.replicate 64 0)),AV.u64 0,AV.ints .u8 12 (li [0,0,0,0,0,0,0,0,0,0,0,0]),AV.bu .u8 0,AV.ints .i8 4 (li [0,0,0,0]),AV.bu .i8 0,AV.ints .u8 2 (li [0,0]),AV.bu .i64 0,AV.bu .i64 0],[AV.bu .i64 0],[AV.int .u8 a,AV.ints .u8 64 (li (List.replicate 64 0)),AV.u64 0,AV.ints .u8 12 (li [0,0,0,0,0,0,0,0,0,0,0,0]),AV.bu .u8 0,AV.ints .i8 4 (li [0,0,0,0]),AV.bu .i8 0,AV.ints .u8 2 (li [0,0]),AV.bu .i64 0,AV.bu .i64 0]] [4096] [] 0 0 0); let z2:=(Pos.mk a (li (List.replicate 64 0)) 0 (li [0,0,0,0,0,0,0,0,0,0,0,0]) 0 (li [0,0,0,0]) 0 (li [0,0]) 0 0); let z4:=[AV.str b,AV.vany Tk.fresh [AV.func 46 [AV.ptr 2 0] [],AV.func 47 [AV.ptr 2 0] [],AV.func 48 [AV.ptr 2 0] [],AV.func 49 [AV.ptr 2 0] [],AV.func 50 [AV.ptr 2 0] [],AV.func 52 [AV.ptr 2 0] [],AV.func 53 [AV.ptr 2 0] []]]; let z5:=[AV.str b,AV.vany Tk.fresh [AV.func 46 [AV.ptr 2 0] [],AV.func 47 [AV.ptr 2 0] [],AV.func 48 [AV.ptr 2 0] [],AV.func 49 [AV.ptr 2 0] [],AV.func 52 [AV.ptr 2 0] [],AV.func 53 [AV.ptr 2 0] []]]; let z3:=(Tr.br (a==5) (Tr.br (bP (bL b z2)) (Tr.br (dA Pz 51 z4 z1 (ly b z2 (Sum.inl (gl (bL b z2))))) Tr.fail Tr.fail) (Tr.br (dA Pz 51 z4 z1 (ly b z2 (Sum.inr (gr (bL b z2))))) (Tr.ret (AV.tuple [AV.agg [AV.bu .u8 0,AV.ints .u8 64 (li (List.replicate 64 0)),AV.u64 0,AV.ints .u8 12 (li [0,0,0,0,0,0,0,0,0,0,0,0]),AV.bu .u8 0,AV.ints .i8 4 (li [0,0,0,0]),AV.bu .i8 0,AV.ints .u8 2 (li [0,0]),AV.bu .i64 0,AV.bu .i64 0],AV.bu .i64 5])) Tr.fail)) (Tr.br (bP (bJ b z2)) (Tr.br (dA Pz 51 z5 z1 (kQ b z2 (Sum.inl (gl (bJ b z2))))) Tr.fail Tr.fail) (Tr.br (dA Pz 51 z5 z1 (kQ b z2 (Sum.inr (gr (bJ b z2))))) (Tr.ret (AV.tuple [AV.agg [AV.bu .u8 0,AV.ints .u8 64 (li (List.replicate 64 0)),AV.u64 0,AV.ints .u8 12 (li [0,0,0,0,0,0,0,0,0,0,0,0]),AV.bu .u8 0,AV.ints .i8 4 (li [0,0,0,0]),AV.bu .i8 0,AV.ints .u8 2 (li [0,0]),AV.bu .i64 0,AV.bu .i64 0],AV.bu .i64 5])) Tr.fail))); Tr.br (a==5) (Tr.br (bP (bL b z2)) (Tr.br (dA Pz 51 z4 z1 (ly b z2 (Sum.inl (gl (bL b z2))))) (Tr.ret (AV.tuple [AV.agg (pc (gl (bL b z2)) []),AV.bu .i64 0])) Tr.fail) (Tr.br (dA Pz 51 z4 z1 (ly b z2 (Sum.inr (gr (bL b z2))))) z3 Tr.fail)) (Tr.br (bP (bJ b z2)) (Tr.br (dA Pz 51 z5 z1 (kQ b z2 (Sum.inl (gl (bJ b z2))))) (Tr.ret (AV.tuple [AV.agg (pc (gl (bJ b z2)) []),AV.bu .i64 0])) Tr.fail) (Tr.br (dA Pz 51 z5 z1 (kQ b z2 (Sum.inr (gr (bJ b z2))))) z3 Tr.fail))):=by kernel_rfl
theorem P21 (a:Int) (b:List UInt8) (h:D3 a b=true):PS Pz 21 [.int .u8 a,.str b] ((d2 jl (dI .i64)).res (nK a b)):=BC VL (YC a b) (bT (dD (fun h=>wu (b) (Pos.mk a (li (List.replicate 64 0)) 0 (li [0,0,0,0,0,0,0,0,0,0,0,0]) 0 (li [0,0,0,0]) 0 (li [0,0]) 0 0) h) (ay (ks:=[]) (gs:=[0]) (b:=true) rfl (by kernel_rfl)) (aB rfl) (bT (dD (fun h=>wu (b) (Pos.mk a (li (List.replicate 64 0)) 0 (li [0,0,0,0,0,0,0,0,0,0,0,0]) 0 (li [0,0,0,0]) 0 (li [0,0]) 0 0) h) (ay (ks:=[]) (gs:=[0]) (b:=true) rfl (by kernel_rfl)) (qL) (aB rfl)) (dD (fun h=>vw (b) (Pos.mk a (li (List.replicate 64 0)) 0 (li [0,0,0,0,0,0,0,0,0,0,0,0]) 0 (li [0,0,0,0]) 0 (li [0,0]) 0 0) h) (ay (ks:=[]) (gs:=[0]) (b:=true) rfl (by kernel_rfl)) (qL) (aB rfl)))) (dD (fun h=>vw (b) (Pos.mk a (li (List.replicate 64 0)) 0 (li [0,0,0,0,0,0,0,0,0,0,0,0]) 0 (li [0,0,0,0]) 0 (li [0,0]) 0 0) h) (ay (ks:=[]) (gs:=[0]) (b:=true) rfl (by kernel_rfl)) (aB rfl) (bT (dD (fun h=>wu (b) (Pos.mk a (li (List.replicate 64 0)) 0 (li [0,0,0,0,0,0,0,0,0,0,0,0]) 0 (li [0,0,0,0]) 0 (li [0,0]) 0 0) h) (ay (ks:=[]) (gs:=[0]) (b:=true) rfl (by kernel_rfl)) (qL) (aB rfl)) (dD (fun h=>vw (b) (Pos.mk a (li (List.replicate 64 0)) 0 (li [0,0,0,0,0,0,0,0,0,0,0,0]) 0 (li [0,0,0,0]) 0 (li [0,0]) 0 0) h) (ay (ks:=[]) (gs:=[0]) (b:=true) rfl (by kernel_rfl)) (qL) (aB rfl))))) h
def XV:List AV→Tr AV:=g2 (dI .u8) dS (fun a b=>gW (D3 a b) ((d2 jl (dI .i64)).res (nK a b)))
theorem YH:Sound Pz 21 XV:=dw fun a b=>b6 (P21 a b)
end Kz
end
noncomputable section
namespace Kz
open Go Go.RowKit Go.Proofs
set_option maxRecDepth 100000
structure Hd (p:Prop):Prop where
 out:p
theorem jh {X R:Type} {I:X→Prop} {Q:R→Prop} {μ:X→Nat} {ok:X→Bool} {st:X→aF X R} (h:∀ x,I x→ok x=true∧Hd (ni I Q μ (μ x) (st x))) (x:X) (hx:I x) (hn:μ x < 4294967296):∃ r,dh (fun x=>bif ok x then st x else .bad) many x=some r∧Q r :=
 bZ (fun x hx=>⟨(h x hx).1,(h x hx).2.out⟩) x hx hn
theorem bn {X R:Type} {I:X→Prop} {Q:R→Prop} {μ:X→Nat} {n:Nat} {c:Bool} {a b:aF X R} (h1:c=true→Hd (ni I Q μ n a)) (h2:c=false→Hd (ni I Q μ n b)):Hd (ni I Q μ n (bif c then a else b)):=by
 cases c
 ·exact h2 rfl
 ·exact h1 rfl
theorem bH {X R:Type} {I:X→Prop} {Q:R→Prop} {μ:X→Nat} {n:Nat} {r:R} (h:Q r):Hd (ni I Q μ n (.out r)):=⟨h⟩
theorem fj {X R:Type} {I:X→Prop} {Q:R→Prop} {μ:X→Nat} {n:Nat} {y:X} (h1:I y) (h2:μ y < n):Hd (ni I Q μ n (.go y)):=⟨h1,h2⟩
theorem XK {y c k:Int} (h4:0≤c) (h5:c≤1) (h6:1≤k) (h7:k≤5):(decide (0≤c)&&decide (c < Int.ofNat 2)&&(decide (0≤k)&&decide (k < Int.ofNat 6)&&(decide (0≤c)&&decide (c < Int.ofNat 2)&&(decide (0≤k)&&decide (k < Int.ofNat 6)&&true))))=true:=by
 rw [decide_eq_true h4,decide_eq_true (show c < Int.ofNat 2 by show c < 2; omega),decide_eq_true (show 0≤k by omega),decide_eq_true (show k < Int.ofNat 6 by show k < 6; omega)]
 rfl
def RP (v:Int) (p:Pos):Prop:=aR p∧p.variant=v
variable {p:Pos} {v:Int}
theorem rG (h:RP v p) (j:Nat) (z:Int):RP v (Pos.mk p.variant p.ag p.aa (p.ae.set j (wr .u8 z)) p.ao p.ah p.af p.ab p.half p.full) :=
 ⟨{ h.1 with
  kl:=by show (p.ae.set j (wr .u8 z)).length=12; rw [List.length_set]; exact h.1.kl
  k0:=by
   intro x hx
   rcases List.mem_or_eq_of_mem_set hx with hx | rfl
   ·exact h.1.k0 x hx
   ·exact ⟨yp z,yv z⟩ },h.2⟩
theorem oE (h:RP v p) (j:Nat) {c:Int} (hc:rX c):RP v (Pos.mk p.variant (p.ag.set j c) p.aa p.ae p.ao p.ah p.af p.ab p.half p.full) :=
 ⟨{ h.1 with
  bl:=by show (p.ag.set j c).length=64; rw [List.length_set]; exact h.1.bl
  b0:=by
   intro x hx
   rcases List.mem_or_eq_of_mem_set hx with hx | rfl
   ·exact h.1.b0 x hx
   ·exact ⟨by have:=hc.1; omega,by have:=hc.2.1; omega⟩ },h.2⟩
theorem k9 (h:RP v p) (b:BitVec 64):RP v (Pos.mk p.variant p.ag b p.ae p.ao p.ah p.af p.ab p.half p.full):=⟨{ h.1 with },h.2⟩
theorem u6 (h:RP v p) {t:Int} (h0:0≤t) (h1:t≤255):RP v (Pos.mk p.variant p.ag p.aa p.ae t p.ah p.af p.ab p.half p.full):=⟨{ h.1 with t0:=h0,t1:=h1 },h.2⟩
theorem kh (h:RP v p) {t:Int} (h0 : -128≤t) (h1:t≤127):RP v (Pos.mk p.variant p.ag p.aa p.ae p.ao p.ah t p.ab p.half p.full):=⟨{ h.1 with p0:=h0,p1:=h1 },h.2⟩
theorem AG (h:RP v p) {t:Int} (h0 : -9223372036854775808≤t) (h1:t≤9223372036854775807):RP v (Pos.mk p.variant p.ag p.aa p.ae p.ao p.ah p.af p.ab t p.full):=⟨{ h.1 with h0:=⟨h0,h1⟩ },h.2⟩
theorem Bt (h:RP v p) {t:Int} (h0 : -9223372036854775808≤t) (h1:t≤9223372036854775807):RP v (Pos.mk p.variant p.ag p.aa p.ae p.ao p.ah p.af p.ab p.half t):=⟨{ h.1 with f0:=⟨h0,h1⟩ },h.2⟩
def kC {A:Type} (f:A→Pos) {B:Type} (g:B→Pos) (v:Int):A ⊕ B→Prop
 | .inl a=>RP v (f a)
 | .inr b=>RP v (g b)
theorem Sl (s t:List UInt8) (ht:t.length≤1000000) (hp:RP v p):∃ r,cO s t (p,0)=some r∧kC (·.1) (·.1) v r:=by
 refine jh (I:=fun x:Pos×Int=>RP v x.1∧0≤x.2) (μ:=fun x=>((t.length:Int) - x.2).toNat) ?_ _ ⟨hp,Int.le_refl _⟩ (by dsimp only; omega)
 rintro ⟨q,i⟩ ⟨hq,h0⟩
 dsimp only at hq h0
 obtain ⟨w1,_⟩:=lC t i
 unfold mG po
 dsimp only
 have k86:=(eE (Utf8.encode (az t i)).data.toList).1
 have hm:=(eE (Utf8.encode (az t i)).data.toList).2
 have five:∀ {y:Int},(!decide (y≤5))=false→y≤5:=fun {y} h=>by
  rw [Bool.not_eq_false'] at h
  exact of_decide_eq_true h
 have UW:∀ x:Int,sT x=true:=fun _=>rfl
 have WO:∀ x:Int,yn x=true:=fun _=>rfl
 refine ⟨aQ (fun _=>bN k86 fun _=>aQ (fun hz=>bN (UW _) fun _=>aQ (fun _=>rfl) fun h5=>bN (WO _) fun _=>bN (UW _) fun _ => ?_) fun _=>rfl) fun _=>rfl,?_⟩
 ·have M:=hm hz
  clear hm hz
  generalize (fw (Utf8.encode (az t i)).data.toList).fst=z at M h5 ⊢
  obtain ⟨m1,m2,m3,m4,m5,m6,m7⟩:=M
  exact XK (y:=0) m4 m5 m6 (five h5)
 refine bn (fun hi=>bn (fun hz=>bn (fun _=>bH hq) fun h5=>fj ⟨rG hq _ _,?_⟩ ?_) fun _=>bH hq) fun _=>bH hq
 ·dsimp only; omega
 ·have hi':i < (t.length:Int):=of_decide_eq_true hi
  dsimp only; omega
theorem Gj {l:List (List UInt8)} {a b:Int} {s:List UInt8} {d:Int} {t:List UInt8} {i:Int} (i0:0≤i) (i7:i≤7) (ht:t.length≤1000000) (hp:RP v p):∃ r,eZ i l a b s d t (0,p,0)=some r∧kC (·.1) (·.2.1) v r:=by
 refine jh (I:=fun x:Int×Pos×Int=>RP v x.2.1∧0≤x.1∧x.1≤8 * x.2.2∧0≤x.2.2∧x.2.2≤(t.length:Int)+4) (μ:=fun x=>((t.length:Int)+4 - x.2.2).toNat) ?_ _ ⟨hp,Int.le_refl _,Int.le_refl _,Int.le_refl _,by dsimp only; omega⟩ (by dsimp only; omega)
 rintro ⟨f,q,n⟩ ⟨hq,f0,f8,h0,h4⟩
 dsimp only at hq f0 f8 h0 h4
 obtain ⟨w1,w4⟩:=lC t n
 unfold wH Ad
 dsimp only
 by_cases hn:n < Int.ofNat t.length
 ·have hn':n < (t.length:Int):=hn
  obtain ⟨k86,hm⟩:=eE (Utf8.encode (az t n)).data.toList
  rw [decide_eq_true hn,k86]
  generalize fw (Utf8.encode (az t n)).data.toList=z at hm
  generalize az t n=c
  generalize aE t n=w at w1 w4
  have a1:wr .i64 (7 - i)=7 - i:=bD (by omega) (by omega)
  have a2:wr .i64 (8 * (7 - i))=8 * (7 - i):=bD (by omega) (by omega)
  have a3:wr .i64 (8 * (7 - i)+f)=8 * (7 - i)+f:=bD (by omega) (by omega)
  have a4:wr .i64 (8 * (7 - i)+f - 1)=8 * (7 - i)+f - 1:=bD (by omega) (by omega)
  have a5:wr .i64 (f+1)=f+1:=bD (by omega) (by omega)
  rw [a1,a2,a3,a4,a5]
  simp only [cond_true,Bool.true_and,Bool.and_true]
  have dig:c ≥ 49→c≤56→wr .i64 (f+wr .i64 (wr .i32 (c - 48)))=f+(c - 48):=fun c0 c1=>by
   rw [show wr .i32 (c - 48)=c - 48 from IntWalk.i32_in _ ⟨by omega,by omega⟩,bD (n:=c - 48) (by omega) (by omega),bD (by omega) (by omega)]
  have bad:RP v q:=hq
  have go1:∀ b:BitVec 64,ni (fun x:Int×Pos×Int=>RP v x.2.1∧0≤x.1∧x.1≤8 * x.2.2∧0≤x.2.2∧x.2.2≤(t.length:Int)+4) (kC (A:=Pos×Int) (·.1) (B:=Int×Pos×Int) (·.2.1) v) (fun x=>((t.length:Int)+4 - x.2.2).toNat) ((t.length:Int)+4 - n).toNat (aF.go (f,Pos.mk q.variant q.ag b q.ae q.ao q.ah q.af q.ab q.half q.full,n+w)):=fun b =>
   ⟨⟨k9 hq b,by dsimp only; omega,by dsimp only; omega,by dsimp only; omega,by dsimp only; omega⟩,by dsimp only; omega⟩
  have go2:c ≥ 49→c≤56→ni (fun x:Int×Pos×Int=>RP v x.2.1∧0≤x.1∧x.1≤8 * x.2.2∧0≤x.2.2∧x.2.2≤(t.length:Int)+4) (kC (A:=Pos×Int) (·.1) (B:=Int×Pos×Int) (·.2.1) v) (fun x=>((t.length:Int)+4 - x.2.2).toNat) ((t.length:Int)+4 - n).toNat (aF.go (wr .i64 (f+wr .i64 (wr .i32 (c - 48))),q,n+w)):=fun c0 c1=>by
   rw [dig c0 c1]
   exact ⟨⟨hq,by dsimp only; omega,by dsimp only; omega,by dsimp only; omega,by dsimp only; omega⟩,by dsimp only; omega⟩
  have rest:ni (fun x:Int×Pos×Int=>RP v x.2.1∧0≤x.1∧x.1≤8 * x.2.2∧0≤x.2.2∧x.2.2≤(t.length:Int)+4) (kC (A:=Pos×Int) (·.1) (B:=Int×Pos×Int) (·.2.1) v) (fun x=>((t.length:Int)+4 - x.2.2).toNat) ((t.length:Int)+4 - n).toNat (bif decide (c ≥ 49) then (bif !decide (c≤56) then (aF.out (.inl (q,n+w))) else (aF.go (wr .i64 (f+wr .i64 (wr .i32 (c - 48))),q,n+w))) else (aF.out (.inl (q,n+w)))):=by
   by_cases c0:c ≥ 49
   ·by_cases c1:c≤56
    ·rw [decide_eq_true c0,decide_eq_true c1]
     exact go2 c0 c1
    ·rw [decide_eq_true c0,decide_eq_false c1]
     exact bad
   ·rw [decide_eq_false c0]
    exact bad
  have ok1:f > 0→decide (0≤8 * (7 - i)+f - 1)=true:=fun h=>decide_eq_true (by omega)
  cases hz:z.2 with
  | true =>
   simp only [cond_true]
   by_cases hf:f < 8
   ·rw [decide_eq_true hf,decide_eq_true (show 0≤8 * (7 - i)+f by omega),decide_eq_true (show 8 * (7 - i)+f < Int.ofNat 64 by show 8 * (7 - i)+f < 64; omega)]
    exact ⟨rfl,⟨⟨oE hq _ (hm hz),by dsimp only; omega,by dsimp only; omega,by dsimp only; omega,by dsimp only; omega⟩,by dsimp only; omega⟩⟩
   ·rw [decide_eq_false hf]
    simp only [cond_false]
    cases hc:(c==126) with
    | true =>
     simp only [cond_true]
     by_cases hf0:f > 0
     ·rw [ok1 hf0,decide_eq_true hf0]
      exact ⟨rfl,⟨go1 _⟩⟩
     ·rw [decide_eq_false hf0]
      exact ⟨rfl,⟨rest⟩⟩
    | false=>exact ⟨rfl,⟨rest⟩⟩
  | false =>
   simp only [cond_false]
   cases hc:(c==126) with
   | true =>
    simp only [cond_true]
    by_cases hf0:f > 0
    ·rw [ok1 hf0,decide_eq_true hf0]
     exact ⟨rfl,⟨go1 _⟩⟩
    ·rw [decide_eq_false hf0]
     exact ⟨rfl,⟨rest⟩⟩
   | false=>exact ⟨rfl,⟨rest⟩⟩
 ·rw [decide_eq_false hn]
  exact ⟨rfl,bH hq⟩
theorem El {l:List (List UInt8)} {a b:Int} {t:List UInt8} {i:Int} (i0:0≤i) (i7:i≤7) (ht:t.length≤1000000) (hp:RP v p):∃ r,eN i l a b t (0,p,0)=some r∧kC (·.1) (·.2.1) v r:=by
 refine jh (I:=fun x:Int×Pos×Int=>RP v x.2.1∧0≤x.1∧x.1≤8 * x.2.2∧0≤x.2.2∧x.2.2≤(t.length:Int)+4) (μ:=fun x=>((t.length:Int)+4 - x.2.2).toNat) ?_ _ ⟨hp,Int.le_refl _,Int.le_refl _,Int.le_refl _,by dsimp only; omega⟩ (by dsimp only; omega)
 rintro ⟨f,q,n⟩ ⟨hq,f0,f8,h0,h4⟩
 dsimp only at hq f0 f8 h0 h4
 obtain ⟨w1,w4⟩:=lC t n
 unfold iU lU
 dsimp only
 by_cases hn:n < Int.ofNat t.length
 ·have hn':n < (t.length:Int):=hn
  obtain ⟨k86,hm⟩:=eE (Utf8.encode (az t n)).data.toList
  rw [decide_eq_true hn,k86]
  generalize fw (Utf8.encode (az t n)).data.toList=z at hm
  generalize az t n=c
  generalize aE t n=w at w1 w4
  have a1:wr .i64 (7 - i)=7 - i:=bD (by omega) (by omega)
  have a2:wr .i64 (8 * (7 - i))=8 * (7 - i):=bD (by omega) (by omega)
  have a3:wr .i64 (8 * (7 - i)+f)=8 * (7 - i)+f:=bD (by omega) (by omega)
  have a4:wr .i64 (8 * (7 - i)+f - 1)=8 * (7 - i)+f - 1:=bD (by omega) (by omega)
  have a5:wr .i64 (f+1)=f+1:=bD (by omega) (by omega)
  rw [a1,a2,a3,a4,a5]
  simp only [cond_true,Bool.true_and,Bool.and_true]
  have dig:c ≥ 49→c≤56→wr .i64 (f+wr .i64 (wr .i32 (c - 48)))=f+(c - 48):=fun c0 c1=>by
   rw [show wr .i32 (c - 48)=c - 48 from IntWalk.i32_in _ ⟨by omega,by omega⟩,bD (n:=c - 48) (by omega) (by omega),bD (by omega) (by omega)]
  have bad:RP v q:=hq
  have go1:∀ b:BitVec 64,ni (fun x:Int×Pos×Int=>RP v x.2.1∧0≤x.1∧x.1≤8 * x.2.2∧0≤x.2.2∧x.2.2≤(t.length:Int)+4) (kC (A:=Pos×Int) (·.1) (B:=Int×Pos×Int) (·.2.1) v) (fun x=>((t.length:Int)+4 - x.2.2).toNat) ((t.length:Int)+4 - n).toNat (aF.go (f,Pos.mk q.variant q.ag b q.ae q.ao q.ah q.af q.ab q.half q.full,n+w)):=fun b =>
   ⟨⟨k9 hq b,by dsimp only; omega,by dsimp only; omega,by dsimp only; omega,by dsimp only; omega⟩,by dsimp only; omega⟩
  have go2:c ≥ 49→c≤56→ni (fun x:Int×Pos×Int=>RP v x.2.1∧0≤x.1∧x.1≤8 * x.2.2∧0≤x.2.2∧x.2.2≤(t.length:Int)+4) (kC (A:=Pos×Int) (·.1) (B:=Int×Pos×Int) (·.2.1) v) (fun x=>((t.length:Int)+4 - x.2.2).toNat) ((t.length:Int)+4 - n).toNat (aF.go (wr .i64 (f+wr .i64 (wr .i32 (c - 48))),q,n+w)):=fun c0 c1=>by
   rw [dig c0 c1]
   exact ⟨⟨hq,by dsimp only; omega,by dsimp only; omega,by dsimp only; omega,by dsimp only; omega⟩,by dsimp only; omega⟩
  have rest:ni (fun x:Int×Pos×Int=>RP v x.2.1∧0≤x.1∧x.1≤8 * x.2.2∧0≤x.2.2∧x.2.2≤(t.length:Int)+4) (kC (A:=Pos×Int) (·.1) (B:=Int×Pos×Int) (·.2.1) v) (fun x=>((t.length:Int)+4 - x.2.2).toNat) ((t.length:Int)+4 - n).toNat (bif decide (c ≥ 49) then (bif !decide (c≤56) then (aF.out (.inl (q,n+w))) else (aF.go (wr .i64 (f+wr .i64 (wr .i32 (c - 48))),q,n+w))) else (aF.out (.inl (q,n+w)))):=by
   by_cases c0:c ≥ 49
   ·by_cases c1:c≤56
    ·rw [decide_eq_true c0,decide_eq_true c1]
     exact go2 c0 c1
    ·rw [decide_eq_true c0,decide_eq_false c1]
     exact bad
   ·rw [decide_eq_false c0]
    exact bad
  have ok1:f > 0→decide (0≤8 * (7 - i)+f - 1)=true:=fun h=>decide_eq_true (by omega)
  cases hz:z.2 with
  | true =>
   simp only [cond_true]
   by_cases hf:f < 8
   ·rw [decide_eq_true hf,decide_eq_true (show 0≤8 * (7 - i)+f by omega),decide_eq_true (show 8 * (7 - i)+f < Int.ofNat 64 by show 8 * (7 - i)+f < 64; omega)]
    exact ⟨rfl,⟨⟨oE hq _ (hm hz),by dsimp only; omega,by dsimp only; omega,by dsimp only; omega,by dsimp only; omega⟩,by dsimp only; omega⟩⟩
   ·rw [decide_eq_false hf]
    simp only [cond_false]
    cases hc:(c==126) with
    | true =>
     simp only [cond_true]
     by_cases hf0:f > 0
     ·rw [ok1 hf0,decide_eq_true hf0]
      exact ⟨rfl,⟨go1 _⟩⟩
     ·rw [decide_eq_false hf0]
      exact ⟨rfl,⟨rest⟩⟩
    | false=>exact ⟨rfl,⟨rest⟩⟩
  | false =>
   simp only [cond_false]
   cases hc:(c==126) with
   | true =>
    simp only [cond_true]
    by_cases hf0:f > 0
    ·rw [ok1 hf0,decide_eq_true hf0]
     exact ⟨rfl,⟨go1 _⟩⟩
    ·rw [decide_eq_false hf0]
     exact ⟨rfl,⟨rest⟩⟩
   | false=>exact ⟨rfl,⟨rest⟩⟩
 ·rw [decide_eq_false hn]
  exact ⟨rfl,bH hq⟩
variable {p:Pos} {v:Int}
theorem GX {l:List (List UInt8)} (hl:l.length≤8) (hs:∀ s ∈ l,s.length≤1000000) (hp:RP v p):∃ r,gp l (Int.ofNat l.length) (0,p)=some r∧kC (fun x:Pos=>x) (fun x:Int×Bool×Pos=>x.2.2) v r:=by
 refine jh (I:=fun x:Int×Pos=>RP v x.2∧0≤x.1∧x.1≤(l.length:Int)) (μ:=fun x=>((l.length:Int) - x.1).toNat) ?_ _ ⟨hp,Int.le_refl _,by dsimp only; omega⟩ (by dsimp only; omega)
 rintro ⟨i,q⟩ ⟨hq,h0,h1⟩
 dsimp only at hq h0 h1
 unfold kf nw
 dsimp only
 by_cases hi:i < Int.ofNat l.length
 ·have hi':i < (l.length:Int):=hi
  obtain ⟨r,e,hr⟩:=El (l:=l) (a:=Int.ofNat l.length) (b:=i) (t:=l.getD i.toNat default) h0 (by omega) (hs _ (ob (by omega))) hq
  rw [decide_eq_true hi,decide_eq_true h0,e]
  cases r with
  | inl a=>exact ⟨rfl,bH hr⟩
  | inr b =>
   refine ⟨rfl,?_⟩
   simp only [cond_true,Option.getD_some]
   show Hd (ni _ _ _ _ (bif !b.1==8 then aF.out (Sum.inl b.2.1:Pos ⊕ (Int×Bool×Pos)) else aF.go (wr .i64 (i+1),b.2.1)))
   rw [bD (by omega) (by omega)]
   exact bn (fun _=>bH hr) fun _=>fj ⟨hr,by dsimp only; omega,by dsimp only; omega⟩ (by dsimp only; omega)
 ·rw [decide_eq_false hi]
  exact ⟨rfl,bH hq⟩
theorem HW {l:List (List UInt8)} {s:List UInt8} {d:Int} (hl:l.length≤8) (hs:∀ s ∈ l,s.length≤1000000) (hp:RP v p):∃ r,df l (Int.ofNat l.length) s d (0,p)=some r∧kC (fun x:Pos=>x) (fun x:Int×Bool×Pos=>x.2.2) v r:=by
 refine jh (I:=fun x:Int×Pos=>RP v x.2∧0≤x.1∧x.1≤(l.length:Int)) (μ:=fun x=>((l.length:Int) - x.1).toNat) ?_ _ ⟨hp,Int.le_refl _,by dsimp only; omega⟩ (by dsimp only; omega)
 rintro ⟨i,q⟩ ⟨hq,h0,h1⟩
 dsimp only at hq h0 h1
 unfold j6 nD
 dsimp only
 by_cases hi:i < Int.ofNat l.length
 ·have hi':i < (l.length:Int):=hi
  obtain ⟨r,e,hr⟩:=Gj (l:=l) (a:=Int.ofNat l.length) (b:=i) (s:=s) (d:=d) (t:=l.getD i.toNat default) h0 (by omega) (hs _ (ob (by omega))) hq
  rw [decide_eq_true hi,decide_eq_true h0,e]
  cases r with
  | inl a=>exact ⟨rfl,bH hr⟩
  | inr b =>
   refine ⟨rfl,?_⟩
   simp only [cond_true,Option.getD_some]
   show Hd (ni _ _ _ _ (bif !b.1==8 then aF.out (Sum.inl b.2.1:Pos ⊕ (Int×Bool×Pos)) else aF.go (wr .i64 (i+1),b.2.1)))
   rw [bD (by omega) (by omega)]
   exact bn (fun _=>bH hr) fun _=>fj ⟨hr,by dsimp only; omega,by dsimp only; omega⟩ (by dsimp only; omega)
 ·rw [decide_eq_false hi]
  exact ⟨rfl,bH hq⟩
theorem Bs (c:UInt8):∀ (s:List UInt8),(∀ x ∈ mK c s,x.length≤s.length)∧mK c s≠[]
 | []=>⟨fun x hx=>by rw [show mK c []=[[]] from rfl,List.mem_singleton] at hx; rw [hx]; exact Nat.le_refl _,by simp [mK]⟩
 | b::l=>by
  obtain ⟨h1,h2⟩:=Bs c l
  unfold mK
  cases hb:(b==c) with
  | true =>
   rw [if_pos rfl]
   refine ⟨fun x hx => ?_,by simp⟩
   rcases List.mem_cons.1 hx with rfl | hx
   ·simp
   ·have:=h1 x hx
    rw [List.length_cons]
    omega
  | false =>
   rw [if_neg (by decide)]
   cases hl:mK c l with
   | nil=>exact absurd hl h2
   | cons y t =>
    rw [hl] at h1
    refine ⟨fun x hx => ?_,by simp⟩
    rcases List.mem_cons.1 hx with rfl | hx
    ·have:=h1 y (List.mem_cons_self ..)
     simp only [List.length_cons]
     omega
    ·have:=h1 x (List.mem_cons_of_mem _ hx)
     rw [List.length_cons]
     omega
theorem qs {s:List UInt8} {c:UInt8} (hs:s.length≤1000000):ez s [c]=true∧∀ x ∈ ai s [c],x.length≤1000000:=by
 refine ⟨?_,fun x hx=>Nat.le_trans ((Bs c s).1 x hx) hs⟩
 unfold ez
 rw [decide_eq_true hs]
 rfl
theorem Ut (s:List UInt8) (c:List UInt8):(Lib.cut s c).1.length≤s.length∧(Lib.cut s c).2.1.length≤s.length:=by
 unfold Lib.cut
 split
 ·dsimp only
  rw [List.length_take,List.length_drop]
  omega
 ·exact ⟨Nat.le_refl _,Nat.zero_le _⟩
theorem PX (hp:RP v p):sI p.variant=true:=(gi hp.1.v0 hp.1.v1).1
theorem Lt {s:List UInt8} (hs:s.length≤1000000) (hp:RP v p):ic s p=true∧kC (fun x:Pos=>x) (fun x:Pos=>x) v (aN s p):=by
 unfold ic aN
 rw [PX hp,show (ByteArray.mk #[93]).data.toList=([93]:List UInt8) from rfl,show (ByteArray.mk #[91]).data.toList=([91]:List UInt8) from rfl,show (ByteArray.mk #[47]).data.toList=([47]:List UInt8) from rfl]
 simp only [Bool.true_and]
 cases ql p.variant with
 | true =>
  simp only [cond_true]
  obtain ⟨k84,l84⟩:=OY s 93 hs
  rw [k84]
  generalize ey s [93]=s1 at l84
  have kc:um s1 [91]=true:=decide_eq_true (by omega)
  obtain ⟨c1,c2⟩:=Ut s1 [91]
  rw [kc]
  generalize Lib.cut s1 [91]=z at c1 c2
  simp only [Bool.true_and]
  cases z.2.2 with
  | false=>exact ⟨rfl,hp⟩
  | true =>
   simp only [Bool.not_true,cond_false]
   obtain ⟨r,e,hr⟩:=Sl z.1 z.2.1 (by omega) hp
   rw [e]
   simp only [Option.getD_some]
   cases r with
   | inl a=>exact ⟨rfl,hr⟩
   | inr a =>
    obtain ⟨q1,q2⟩:=qs (s:=z.1) (c:=47) (by omega)
    rw [q1]
    generalize ai z.1 [47]=l at q2
    by_cases h8:l.length=8
    ·obtain ⟨r2,e2,hr2⟩:=HW (l:=l) (s:=z.2.1) (d:=a.2) (by omega) q2 (show RP v a.1 from hr)
     rw [show (!Int.ofNat l.length==8)=false by rw [h8]; rfl]
     show (true&&(bif false then true else (true&&(bif false then true else ((df l (Int.ofNat l.length) z.2.1 a.2 (0,a.1)).isSome&&bif bP ((df l (Int.ofNat l.length) z.2.1 a.2 (0,a.1)).getD default) then true else true)))))=true∧kC _ _ v (bif bP ((df l (Int.ofNat l.length) z.2.1 a.2 (0,a.1)).getD default) then (.inr (gl ((df l (Int.ofNat l.length) z.2.1 a.2 (0,a.1)).getD default))) else (.inl ((gr ((df l (Int.ofNat l.length) z.2.1 a.2 (0,a.1)).getD default)).2.2)))
     rw [e2]
     cases r2 with
     | inl b=>exact ⟨rfl,hr2⟩
     | inr b=>exact ⟨rfl,hr2⟩
    ·rw [show (!Int.ofNat l.length==8)=true by
      rw [Bool.not_eq_true',beq_eq_false_iff_ne]
      intro h
      apply h8
      have:(l.length:Int)=8:=h
      omega]
     exact ⟨rfl,hr⟩
 | false =>
  simp only [cond_false]
  obtain ⟨q1,q2⟩:=qs (s:=s) (c:=47) hs
  rw [q1]
  generalize ai s [47]=l at q2
  by_cases h8:l.length=8
  ·obtain ⟨r2,e2,hr2⟩:=GX (l:=l) (by omega) q2 hp
   rw [show (!Int.ofNat l.length==8)=false by rw [h8]; rfl,e2]
   cases r2 with
   | inl b=>exact ⟨rfl,hr2⟩
   | inr b=>exact ⟨rfl,hr2⟩
  ·rw [show (!Int.ofNat l.length==8)=true by
    rw [Bool.not_eq_true',beq_eq_false_iff_ne]
    intro h
    apply h8
    have:(l.length:Int)=8:=h
    omega]
   exact ⟨rfl,hp⟩
variable {p:Pos} {v:Int}
theorem kS (h:RP v p) {l:List Int} (hl:l.length=4) (hx:∀ x ∈ l,-128≤x∧x≤127):RP v (Pos.mk p.variant p.ag p.aa p.ae p.ao l p.af p.ab p.half p.full):=⟨{ h.1 with rl:=hl,r0:=hx },h.2⟩
theorem tM (h:RP v p) (j:Nat) (z:Int):RP v (Pos.mk p.variant p.ag p.aa p.ae p.ao p.ah p.af (p.ab.set j (wr .u8 z)) p.half p.full) :=
 ⟨{ h.1 with
  cl:=by show (p.ab.set j (wr .u8 z)).length=2; rw [List.length_set]; exact h.1.cl
  c0:=by
   intro x hx
   rcases List.mem_or_eq_of_mem_set hx with hx | rfl
   ·exact h.1.c0 x hx
   ·exact ⟨yp z,yv z⟩ },h.2⟩
theorem mg (h:RP v p) {a b c j:Nat} {z:Int} (ha:a≤2) (hb:b=a) (hc:c=a+2):RP v (Pos.mk p.variant p.ag p.aa p.ae p.ao (List.take a p.ah++(List.take 2 (List.drop b p.ah)).set j (wr .i8 z)++List.drop c p.ah) p.af p.ab p.half p.full):=by
 subst hb hc
 have hl:=h.1.rl
 refine kS h ?_ fun x hx => ?_
 ·simp only [List.length_append,List.length_take,List.length_set,List.length_drop]
  omega
 ·rcases List.mem_append.1 hx with hx | hx
  ·rcases List.mem_append.1 hx with hx | hx
   ·exact h.1.r0 x (List.mem_of_mem_take hx)
   ·rcases List.mem_or_eq_of_mem_set hx with hx | rfl
    ·exact h.1.r0 x (List.mem_of_mem_drop (List.mem_of_mem_take hx))
    ·exact nN z
  ·exact h.1.r0 x (List.mem_of_mem_drop hx)
theorem Ki (q:Pos) (c f:Int):0≤(ed q c f).1∧(ed q c f).1≤1:=by
 have key:∀ (a b d e:Bool),0≤(bif a then ((0:Int),false) else bif b then (0,false) else bif d then (0,false) else bif e then (0,true) else (1,true)).1∧(bif a then ((0:Int),false) else bif b then (0,false) else bif d then (0,false) else bif e then (0,true) else (1,true)).1≤1:=by decide
 unfold ed
 exact key _ _ _ _
theorem mb (hp:RP v p) {c:Int} (hc:c=0∨c=1) (f:Int):(gk p c f&&(bif !(ed p c f).snd then true else (decide (0≤(ed p c f).fst)&&decide ((ed p c f).fst < Int.ofNat 2)&&true)))=true:=by
 rw [Dv hp.1 hc f]
 have h:=Ki p c f
 rw [decide_eq_true h.1,decide_eq_true (show (ed p c f).1 < Int.ofNat 2 by show (ed p c f).1 < 2; omega)]
 cases (ed p c f).2 <;> rfl
theorem G6 {t:List UInt8} (ht:t.length≤1000000) (hp:RP v p):∃ r,ei t (p,0)=some r∧kC (·.1) (·.1) v r:=by
 refine jh (I:=fun x:Pos×Int=>RP v x.1∧0≤x.2) (μ:=fun x=>((t.length:Int) - x.2).toNat) ?_ _ ⟨hp,Int.le_refl _⟩ (by dsimp only; omega)
 rintro ⟨q,i⟩ ⟨hq,h0⟩
 dsimp only at hq h0
 obtain ⟨w1,_⟩:=lC t i
 unfold mH pI
 dsimp only
 generalize az t i=c
 generalize aE t i=w at w1
 refine ⟨aQ (fun _=>aQ (fun _=>aQ (fun _=>mb hq (.inr rfl) _) fun _=>aQ (fun _=>mb hq (.inr rfl) _) fun _=>aQ (fun _=>aQ (fun _=>rfl) fun _=>mb hq (.inr rfl) _) fun _=>rfl) fun _=>aQ (fun _=>mb hq (.inl rfl) _) fun _=>aQ (fun _=>mb hq (.inl rfl) _) fun _=>aQ (fun _=>aQ (fun _=>rfl) fun _=>mb hq (.inl rfl) _) fun _=>rfl) fun _=>rfl,?_⟩
 refine bn (fun hi => ?_) fun _=>bH hq
 have hi':i < (t.length:Int):=of_decide_eq_true hi
 have m:((t.length:Int) - (i+w)).toNat < ((t.length:Int) - i).toNat:=by omega
 have h2:0≤i+w:=by omega
 refine bn (fun _=>bn (fun _=>bn (fun _=>bH hq) fun _=>fj ⟨mg hq (by decide) rfl rfl,h2⟩ m) fun _=>bn (fun _=>bn (fun _=>bH hq) fun _=>fj ⟨mg hq (by decide) rfl rfl,h2⟩ m) fun _=>bn (fun _=>bn (fun _=>bH hq) fun _=>bn (fun _=>bH hq) fun _=>fj ⟨mg hq (by decide) rfl rfl,h2⟩ m) fun _=>bH hq)
  fun _=>bn (fun _=>bn (fun _=>bH hq) fun _=>fj ⟨mg hq (by decide) rfl rfl,h2⟩ m) fun _=>bn (fun _=>bn (fun _=>bH hq) fun _=>fj ⟨mg hq (by decide) rfl rfl,h2⟩ m) fun _=>bn (fun _=>bn (fun _=>bH hq) fun _=>bn (fun _=>bH hq) fun _=>fj ⟨mg hq (by decide) rfl rfl,h2⟩ m) fun _=>bH hq
def rF {A:Type} (v:Int):Pos ⊕ A→Prop
 | .inl a=>RP v a
 | .inr _=>True
theorem Ay {B:Type} {r:Pos ⊕ B} {g:B→Pos} (h:kC (fun x:Pos=>x) g v r):rF v r:=by
 cases r with
 | inl a=>exact h
 | inr b=>trivial
theorem Di (s:List UInt8) (hp:RP v p):qF s p=true∧rF v (bb s p):=by
 refine ⟨rfl,?_⟩
 unfold bb
 cases (s==(ByteArray.mk #[119]).data.toList) <;> cases (s==(ByteArray.mk #[98]).data.toList) <;> first | exact u6 hp (by decide) (by decide) | exact hp | trivial
theorem BN {s:List UInt8} (hs:s.length≤1000000) (hp:RP v p):oe s p=true∧rF v (bm s p):=by
 have h0:RP v (Pos.mk p.variant p.ag p.aa p.ae p.ao (li [-1,-1,-1,-1]) p.af p.ab p.half p.full):=kS hp rfl (by decide)
 unfold oe bm
 cases (s==(ByteArray.mk #[45]).data.toList) with
 | true=>exact ⟨rfl,h0⟩
 | false =>
  obtain ⟨r,e,hr⟩:=G6 hs h0
  simp only [cond_false]
  rw [e]
  cases r with
  | inl a=>exact ⟨rfl,trivial⟩
  | inr a=>exact ⟨rfl,hr⟩
theorem uU (s:List UInt8) (hp:RP v p):lN s p=true∧rF v (bj s p):=by
 unfold lN bj
 rw [P0]
 cases (s==(ByteArray.mk #[45]).data.toList) with
 | true=>exact ⟨rfl,kh hp (by decide) (by decide)⟩
 | false =>
  refine ⟨rfl,?_⟩
  simp only [Bool.not_false,cond_true]
  cases (Jn s).2 with
  | true=>exact kh hp (nN _).1 (nN _).2
  | false=>trivial
theorem Bl {s:List UInt8} (hs:s.length≤1000000):eh s=true∨(eh s=false∧ke s=true):=by
 unfold eh ke
 rw [decide_eq_true hs]
 cases Lib.atoiAll s with
 | ok n=>exact .inl rfl
 | _=>exact .inr ⟨rfl,rfl⟩
theorem qM {s:List UInt8} (h:eh s=true) : -9223372036854775808≤ky s∧ky s≤9223372036854775807:=by
 unfold eh at h
 rw [Bool.and_eq_true] at h
 unfold ky
 cases hv:Lib.atoiAll s with
 | ok n=>exact Lib.atoiAll_bounds hv
 | _=>rw [hv] at h; cases h.2
theorem Eo {s:List UInt8} (hs:s.length≤1000000) (hp:RP v p):ll s p=true∧rF v (b8 s p):=by
 unfold ll b8
 rcases Bl hs with h | ⟨h,h2⟩
 ·rw [h]
  exact ⟨rfl,AG hp (qM h).1 (qM h).2⟩
 ·rw [h,h2]
  exact ⟨rfl,trivial⟩
theorem EP {s:List UInt8} (hs:s.length≤1000000) (hp:RP v p):lM s p=true∧rF v (cQ s p):=by
 unfold lM cQ
 rcases Bl hs with h | ⟨h,h2⟩
 ·rw [h]
  exact ⟨rfl,Bt hp (qM h).1 (qM h).2⟩
 ·rw [h,h2]
  exact ⟨rfl,trivial⟩
variable {p:Pos} {v:Int}
theorem Ce {t:List UInt8} (ht:t.length=4) (hp:RP v p):∃ r,eC t (0,p)=some r∧kC (fun x:Pos=>x) (fun x:Int×Bool×Pos=>x.2.2) v r:=by
 refine jh (I:=fun x:Int×Pos=>RP v x.2∧0≤x.1∧x.1≤2) (μ:=fun x=>(2 - x.1).toNat) ?_ _ ⟨hp,Int.le_refl _,(show (0:Int)≤2 by decide)⟩ (show (2 - (0:Int)).toNat < 4294967296 by decide)
 rintro ⟨i,q⟩ ⟨hq,h0,h2⟩
 dsimp only at hq h0 h2
 unfold nT qH
 dsimp only
 rw [ht]
 by_cases hi:i < 2
 ·rw [decide_eq_true hi,bD (n:=2 * i) (by omega) (by omega),bD (n:=2 * i+1) (by omega) (by omega),bD (n:=i+1) (by omega) (by omega),decide_eq_true (show 0≤2 * i by omega),decide_eq_true (show 2 * i < Int.ofNat 4 by show 2 * i < 4; omega),decide_eq_true (show 0≤2 * i+1 by omega),decide_eq_true (show 2 * i+1 < Int.ofNat 4 by show 2 * i+1 < 4; omega),decide_eq_true (show 0≤i from h0),decide_eq_true (show i < Int.ofNat 2 from hi)]
  refine ⟨aQ (fun _=>aQ (fun _=>aQ (fun _=>aQ (fun _=>rfl) fun _=>rfl) fun _=>rfl) fun _=>rfl) fun _=>rfl,?_⟩
  exact bn (fun _=>bn (fun _=>bn (fun _=>bn (fun _=>bH hq) fun _=>fj ⟨tM hq _ _,by dsimp only; omega,by dsimp only; omega⟩ (by dsimp only; omega)) fun _=>bH hq) fun _=>bH hq) fun _=>bH hq
 ·rw [decide_eq_false hi]
  exact ⟨rfl,bH hq⟩
theorem DW (s:List UInt8) (hp:RP v p):oD s p=true∧rF v (cp s p):=by
 unfold oD cp
 by_cases h4:s.length=4
 ·obtain ⟨r,e,hr⟩:=Ce h4 hp
  rw [show (!Int.ofNat s.length==4)=false by rw [h4]; rfl]
  simp only [cond_false]
  rw [e]
  cases r with
  | inl a=>exact ⟨rfl,trivial⟩
  | inr a=>exact ⟨rfl,hr⟩
 ·rw [show (!Int.ofNat s.length==4)=true by
   rw [Bool.not_eq_true',beq_eq_false_iff_ne]
   intro h
   apply h4
   have:(s.length:Int)=4:=h
   omega]
  exact ⟨rfl,trivial⟩
theorem Ag {s:List UInt8} (hs:s.length≤1000000) (hp:RP v p):jz s p=true∧rF v (bJ s p):=by
 unfold jz bJ
 obtain ⟨q1,q2⟩:=qs (s:=s) (c:=32) hs
 rw [show (ByteArray.mk #[32]).data.toList=([32]:List UInt8) from rfl,q1]
 generalize ai s [32]=l at q2
 by_cases hl:l.length=6
 case neg =>
  rw [show (!Int.ofNat l.length==Int.ofNat 6)=true by
   rw [Bool.not_eq_true',beq_eq_false_iff_ne]
   intro h
   apply hl
   have:(l.length:Int)=6:=h
   omega]
  exact ⟨rfl,trivial⟩
 have hg:∀ i:Nat,i < 6→(l.getD i default).length≤1000000:=fun i hi=>q2 _ (ob (by omega))
 rw [show (!Int.ofNat l.length==Int.ofNat 6)=false by rw [hl]; rfl]
 have n1:wr .i64 (0+1)=1:=rfl
 have n2:wr .i64 (wr .i64 (0+1)+1)=2:=rfl
 have n3:wr .i64 (wr .i64 (wr .i64 (0+1)+1)+1)=3:=rfl
 have n4:wr .i64 (wr .i64 (wr .i64 (wr .i64 (0+1)+1)+1)+1)=4:=rfl
 have n5:wr .i64 (wr .i64 (wr .i64 (wr .i64 (wr .i64 (0+1)+1)+1)+1)+1)=5:=rfl
 rw [n5,n4,n3,n2,n1]
 have d0:(decide ((0:Nat)≤0)&&decide ((0:Int) < Int.ofNat l.length))=true:=by rw [hl]; rfl
 have d1:(decide ((0:Int)≤1)&&decide ((1:Int) < Int.ofNat l.length))=true:=by rw [hl]; rfl
 have d2:(decide ((0:Int)≤2)&&decide ((2:Int) < Int.ofNat l.length))=true:=by rw [hl]; rfl
 have d3:(decide ((0:Int)≤3)&&decide ((3:Int) < Int.ofNat l.length))=true:=by rw [hl]; rfl
 have d4:(decide ((0:Int)≤4)&&decide ((4:Int) < Int.ofNat l.length))=true:=by rw [hl]; rfl
 have d5:(decide ((0:Int)≤5)&&decide ((5:Int) < Int.ofNat l.length))=true:=by rw [hl]; rfl
 rw [d0,d1,d2,d3,d4,d5]
 simp only [Bool.true_and,cond_false]
 obtain ⟨k0,h0⟩:=(fun (q:ic ((l.getD 0 default)) p=true∧kC (fun x:Pos=>x) (fun x:Pos=>x) v (aN ((l.getD 0 default)) p))=>(⟨q.1,Ay q.2⟩:ic ((l.getD 0 default)) p=true∧rF v (aN ((l.getD 0 default)) p))) (Lt (hg 0 (by decide)) hp)
 rw [k0]
 cases e0:aN (l.getD 0 default) p with
 | inr b=>exact ⟨rfl,trivial⟩
 | inl p0 =>
 rw [e0] at h0
 simp only [bP,gl,cond_true,Bool.true_and]
 obtain ⟨k1,h1⟩:=Di (l.getD 1 default) (show RP v p0 from h0)
 rw [k1]
 cases e1:bb (l.getD 1 default) p0 with
 | inr b=>exact ⟨rfl,trivial⟩
 | inl p1 =>
 rw [e1] at h1
 simp only [bP,gl,cond_true,Bool.true_and]
 obtain ⟨k2,h2⟩:=BN (hg 2 (by decide)) (show RP v p1 from h1)
 rw [k2]
 cases e2:bm (l.getD 2 default) p1 with
 | inr b=>exact ⟨rfl,trivial⟩
 | inl p2 =>
 rw [e2] at h2
 simp only [bP,gl,cond_true,Bool.true_and]
 obtain ⟨k3,h3⟩:=uU (l.getD 3 default) (show RP v p2 from h2)
 rw [k3]
 cases e3:bj (l.getD 3 default) p2 with
 | inr b=>exact ⟨rfl,trivial⟩
 | inl p3 =>
 rw [e3] at h3
 simp only [bP,gl,cond_true,Bool.true_and]
 obtain ⟨k4,h4⟩:=Eo (hg 4 (by decide)) (show RP v p3 from h3)
 rw [k4]
 cases e4:b8 (l.getD 4 default) p3 with
 | inr b=>exact ⟨rfl,trivial⟩
 | inl p4 =>
 rw [e4] at h4
 simp only [bP,gl,cond_true,Bool.true_and]
 obtain ⟨k5,h5⟩:=EP (hg 5 (by decide)) (show RP v p4 from h4)
 rw [k5]
 cases e5:cQ (l.getD 5 default) p4 with
 | inr b=>exact ⟨rfl,trivial⟩
 | inl p5 =>
 rw [e5] at h5
 simp only [bP,gl,cond_true,Bool.true_and]
 exact ⟨trivial,(show RP v p5 from h5)⟩
theorem Aj {s:List UInt8} (hs:s.length≤1000000) (hp:RP v p):jD s p=true∧rF v (bL s p):=by
 unfold jD bL
 obtain ⟨q1,q2⟩:=qs (s:=s) (c:=32) hs
 rw [show (ByteArray.mk #[32]).data.toList=([32]:List UInt8) from rfl,q1]
 generalize ai s [32]=l at q2
 by_cases hl:l.length=7
 case neg =>
  rw [show (!Int.ofNat l.length==Int.ofNat 7)=true by
   rw [Bool.not_eq_true',beq_eq_false_iff_ne]
   intro h
   apply hl
   have:(l.length:Int)=7:=h
   omega]
  exact ⟨rfl,trivial⟩
 have hg:∀ i:Nat,i < 7→(l.getD i default).length≤1000000:=fun i hi=>q2 _ (ob (by omega))
 rw [show (!Int.ofNat l.length==Int.ofNat 7)=false by rw [hl]; rfl]
 have n1:wr .i64 (0+1)=1:=rfl
 have n2:wr .i64 (wr .i64 (0+1)+1)=2:=rfl
 have n3:wr .i64 (wr .i64 (wr .i64 (0+1)+1)+1)=3:=rfl
 have n4:wr .i64 (wr .i64 (wr .i64 (wr .i64 (0+1)+1)+1)+1)=4:=rfl
 have n5:wr .i64 (wr .i64 (wr .i64 (wr .i64 (wr .i64 (0+1)+1)+1)+1)+1)=5:=rfl
 have n6:wr .i64 (wr .i64 (wr .i64 (wr .i64 (wr .i64 (wr .i64 (0+1)+1)+1)+1)+1)+1)=6:=rfl
 rw [n6,n5,n4,n3,n2,n1]
 have d0:(decide ((0:Nat)≤0)&&decide ((0:Int) < Int.ofNat l.length))=true:=by rw [hl]; rfl
 have d1:(decide ((0:Int)≤1)&&decide ((1:Int) < Int.ofNat l.length))=true:=by rw [hl]; rfl
 have d2:(decide ((0:Int)≤2)&&decide ((2:Int) < Int.ofNat l.length))=true:=by rw [hl]; rfl
 have d3:(decide ((0:Int)≤3)&&decide ((3:Int) < Int.ofNat l.length))=true:=by rw [hl]; rfl
 have d4:(decide ((0:Int)≤4)&&decide ((4:Int) < Int.ofNat l.length))=true:=by rw [hl]; rfl
 have d5:(decide ((0:Int)≤5)&&decide ((5:Int) < Int.ofNat l.length))=true:=by rw [hl]; rfl
 have d6:(decide ((0:Int)≤6)&&decide ((6:Int) < Int.ofNat l.length))=true:=by rw [hl]; rfl
 rw [d0,d1,d2,d3,d4,d5,d6]
 simp only [Bool.true_and,cond_false]
 obtain ⟨k0,h0⟩:=(fun (q:ic ((l.getD 0 default)) p=true∧kC (fun x:Pos=>x) (fun x:Pos=>x) v (aN ((l.getD 0 default)) p))=>(⟨q.1,Ay q.2⟩:ic ((l.getD 0 default)) p=true∧rF v (aN ((l.getD 0 default)) p))) (Lt (hg 0 (by decide)) hp)
 rw [k0]
 cases e0:aN (l.getD 0 default) p with
 | inr b=>exact ⟨rfl,trivial⟩
 | inl p0 =>
 rw [e0] at h0
 simp only [bP,gl,cond_true,Bool.true_and]
 obtain ⟨k1,h1⟩:=Di (l.getD 1 default) (show RP v p0 from h0)
 rw [k1]
 cases e1:bb (l.getD 1 default) p0 with
 | inr b=>exact ⟨rfl,trivial⟩
 | inl p1 =>
 rw [e1] at h1
 simp only [bP,gl,cond_true,Bool.true_and]
 obtain ⟨k2,h2⟩:=BN (hg 2 (by decide)) (show RP v p1 from h1)
 rw [k2]
 cases e2:bm (l.getD 2 default) p1 with
 | inr b=>exact ⟨rfl,trivial⟩
 | inl p2 =>
 rw [e2] at h2
 simp only [bP,gl,cond_true,Bool.true_and]
 obtain ⟨k3,h3⟩:=uU (l.getD 3 default) (show RP v p2 from h2)
 rw [k3]
 cases e3:bj (l.getD 3 default) p2 with
 | inr b=>exact ⟨rfl,trivial⟩
 | inl p3 =>
 rw [e3] at h3
 simp only [bP,gl,cond_true,Bool.true_and]
 obtain ⟨k4,h4⟩:=DW (l.getD 4 default) (show RP v p3 from h3)
 rw [k4]
 cases e4:cp (l.getD 4 default) p3 with
 | inr b=>exact ⟨rfl,trivial⟩
 | inl p4 =>
 rw [e4] at h4
 simp only [bP,gl,cond_true,Bool.true_and]
 obtain ⟨k5,h5⟩:=Eo (hg 5 (by decide)) (show RP v p4 from h4)
 rw [k5]
 cases e5:b8 (l.getD 5 default) p4 with
 | inr b=>exact ⟨rfl,trivial⟩
 | inl p5 =>
 rw [e5] at h5
 simp only [bP,gl,cond_true,Bool.true_and]
 obtain ⟨k6,h6⟩:=EP (hg 6 (by decide)) (show RP v p5 from h5)
 rw [k6]
 cases e6:cQ (l.getD 6 default) p5 with
 | inr b=>exact ⟨rfl,trivial⟩
 | inl p6 =>
 rw [e6] at h6
 simp only [bP,gl,cond_true,Bool.true_and]
 exact ⟨trivial,(show RP v p6 from h6)⟩
theorem z12:∀ x ∈ li [0,0,0,0,0,0,0,0,0,0,0,0],(0:Int)≤x∧x≤255:=by decide
theorem z4:∀ x ∈ li [0,0,0,0],(-128:Int)≤x∧x≤127:=by decide
theorem z2:∀ x ∈ li [0,0],(0:Int)≤x∧x≤255:=by decide
theorem Ku:∀ x ∈ li (List.replicate 64 0),(0:Int)≤x∧x≤255:=fun x hx=>by
 obtain rfl:=List.eq_of_mem_replicate hx
 decide
theorem zz:(-9223372036854775808:Int)≤0∧(0:Int)≤9223372036854775807:=by decide
theorem Jt {v:Int} (h0:0≤v) (h1:v≤255):RP v (Pos.mk v (li (List.replicate 64 0)) 0 (li [0,0,0,0,0,0,0,0,0,0,0,0]) 0 (li [0,0,0,0]) 0 (li [0,0]) 0 0) :=
 ⟨⟨h0,h1,rfl,Ku,rfl,z12,(show (0:Int)≤0 by decide),(show (0:Int)≤255 by decide),rfl,z4,(show (-128:Int)≤0 by decide),(show (0:Int)≤127 by decide),rfl,z2,zz,zz⟩,rfl⟩
theorem P8 {v:Int} (h0:0≤v) (h1:v≤255) {s:List UInt8} (hs:s.length≤1000000):D3 v s=true∧(((nK v s).2=0∧RP v (nK v s).1)∨(nK v s).2=5):=by
 have hz:=Jt h0 h1
 unfold D3 nK
 generalize Pos.mk v (li (List.replicate 64 0)) 0 (li [0,0,0,0,0,0,0,0,0,0,0,0]) 0 (li [0,0,0,0]) 0 (li [0,0]) 0 0=z at hz
 cases h5:(v==5) with
 | true =>
  obtain ⟨k,h⟩:=Aj hs hz
  rw [k]
  cases e:bL s z with
  | inl q =>
   rw [e] at h
   exact ⟨rfl,.inl ⟨rfl,h⟩⟩
  | inr q=>exact ⟨rfl,.inr rfl⟩
 | false =>
  obtain ⟨k,h⟩:=Ag hs hz
  rw [k]
  cases e:bJ s z with
  | inl q =>
   rw [e] at h
   exact ⟨rfl,.inl ⟨rfl,h⟩⟩
  | inr q=>exact ⟨rfl,.inr rfl⟩
end Kz
end
noncomputable section
namespace Kz
open Go Go.RowKit Go.Proofs
set_option maxRecDepth 100000
set_option maxHeartbeats 4000000
def K9:List (Nat×Nat×List (Nat×List Nat)):=[(9,33,[(0,[0,1,4]),(1,[0,1,4,8]),(2,[4,5]),(3,[0,1,4,12]),(4,[4,5]),(5,[1,4,6,7]),(6,[4,6,30]),(7,[4,5]),(8,[4,5])])]
def B9:aT:=aA Pz (fun f i=>cJ f i K9) [(12,X7),(21,XV)] [] []
theorem YE:cr B9:=ar aq ⟨s12,YH,trivial⟩ trivial trivial
def N9 (a:Int) (b:List UInt8):(Pos×Int):=(bif decide (a ≥ 9) then (⟨(0),(li (List.replicate 64 0)),(0),(li [0,0,0,0,0,0,0,0,0,0,0,0]),(0),(li [0,0,0,0]),(0),(li [0,0]),(0),(0)⟩,(2)) else (bif decide (Int.ofNat b.length > 200) then (⟨(0),(li (List.replicate 64 0)),(0),(li [0,0,0,0,0,0,0,0,0,0,0,0]),(0),(li [0,0,0,0]),(0),(li [0,0]),(0),(0)⟩,(3)) else (bif (nK a b).snd != 0 then (⟨(0),(li (List.replicate 64 0)),(0),(li [0,0,0,0,0,0,0,0,0,0,0,0]),(0),(li [0,0,0,0]),(0),(li [0,0]),(0),(0)⟩,(5)) else (bif !wB (nK a b).fst==b then (⟨(0),(li (List.replicate 64 0)),(0),(li [0,0,0,0,0,0,0,0,0,0,0,0]),(0),(li [0,0,0,0]),(0),(li [0,0]),(0),(0)⟩,(5)) else (⟨((nK a b).fst.variant),((nK a b).fst.ag),((nK a b).fst.aa),((nK a b).fst.ae),((nK a b).fst.ao),((nK a b).fst.ah),((nK a b).fst.af),((nK a b).fst.ab),((nK a b).fst.half),((nK a b).fst.full)⟩,(0))))))
def Sw (a:Int) (b:List UInt8):Bool:=(bif decide (a ≥ 9) then true else (bif decide (Int.ofNat b.length > 200) then true else (D3 (a) (b)&&(bif (nK a b).snd != 0 then true else (yU (nK a b).fst&&true)))))
theorem P9 (a:Int) (b:List UInt8) (h:Sw a b=true):PS Pz 9 [.int .u8 a,.str b] ((d2 jl (dI .i64)).res (N9 a b)):=bw (n:=14) YE (by kernel_rfl) (by kernel_rfl) (by kernel_rfl) h
def G9:List AV→Tr AV:=g2 (dI .u8) dS (fun a b=>gW (Sw a b) ((d2 jl (dI .i64)).res (N9 a b)))
theorem s9:Sound Pz 9 G9:=dw fun a b=>b6 (P9 a b)









end Kz
end
noncomputable section
namespace Kz
open Go Go.RowKit Go.Proofs
set_option maxRecDepth 100000


def f0 : List UInt8 := "rnbqkbnr/pppppppp/8/8/8/8/PPPPPPPP/RNBQKBNR w KQkq - 0 1".toUTF8.data.toList
end Kz
end
noncomputable section

end
noncomputable section
namespace Kz
open Go Go.RowKit Go.Proofs
set_option maxRecDepth 100000
set_option maxHeartbeats 4000000



end Kz
end
noncomputable section
namespace Kz
open Go Go.RowKit Go.Proofs
set_option maxRecDepth 100000

end Kz
end
