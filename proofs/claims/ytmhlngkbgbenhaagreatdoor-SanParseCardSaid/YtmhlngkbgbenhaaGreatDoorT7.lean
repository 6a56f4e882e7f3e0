/- Part 7 of the texts under the proof: an abstract interpreter,the summaries of functions,plain laws. -/
import Derived.Test.YtmhlngkbgbenhaaGreatDoorT6
set_option linter.unusedSectionVars false
set_option linter.unusedVariables false
set_option linter.unusedSimpArgs false
set_option linter.unnecessarySimpa false
noncomputable section
namespace Kz
open Go Go.RowKit
set_option maxRecDepth 100000
set_option maxHeartbeats 1000000
set_option linter.unusedSectionVars false
theorem j5 {α:Type} (g:Nat→List α) (n:Nat):(List.range (n+1)).flatMap g=(List.range n).flatMap g++g n:=by
 rw [List.range_succ,List.flatMap_append]
 simp
theorem dG {α:Type} (g:Nat→List α) (c:Nat) (h:∀ i,(g i).length≤c):∀ n,((List.range n).flatMap g).length≤c * n
 | 0=>by simp
 | n+1=>by
  rw [j5,List.length_append]
  have:=dG g c h n
  have:=h n
  rw [Nat.mul_succ]
  omega
noncomputable section
variable {p:Pos} (hp:aG p) (ht:p.aa=0∨p.aa=1)
include hp ht
theorem aaX {a:Nat} (ha:a < 64) (p3:Nat) (out:List Mv) (ho:out.length≤100000):∃ r,uq a p p3 (out,0)=some r∧r.1=out++(List.range 64).flatMap (fa p a):=by
 refine ba (I:=fun x => ∃ n:Nat,n≤64∧x=(out++(List.range n).flatMap (fa p a),(n:Int))) (μ:=fun x=>(64 - x.2).toNat) ?_ _ ⟨0,by omega,by simp⟩ (by simp)
 rintro _ ⟨n,hn,rfl⟩
 have hsc:(scale 1 (a:Int)).toNat=a:=by unfold scale; simp
 have hlen:=dG (fa p a) 5 (zf p a) n
 unfold CC Hq
 dsimp only
 rw [hsc]
 by_cases hc:n < 64
 ·have k175:=t163 hp ht ha hc
  have wa:wr IntKind.i8 (a:Int)=a:=Ga (by omega) (by omega)
  have wn:wr IntKind.i8 (n:Int)=n:=Ga (by omega) (by omega)
  have kl:(decide (0≤(a:Int))&&decide ((a:Int) < Int.ofNat 64))=true:=by simp; omega
  have kap:((out++(List.range n).flatMap (fa p a)).length==(out++(List.range n).flatMap (fa p a)).length&&decide ((out++(List.range n).flatMap (fa p a)).length+1≤1073741824)&&true)=true:=by
   have:(out++(List.range n).flatMap (fa p a)).length≤1000000:=by rw [List.length_append]; omega
   generalize (out++(List.range n).flatMap (fa p a)).length=k at this
   simp
   omega
  have h177:(jn p.variant).length≤5:=by
   unfold jn
   exact au (P:=fun l:List Int=>l.length≤5) (fun _=>by simp) fun _=>au (P:=fun l:List Int=>l.length≤5) (fun _=>by simp) fun _=>by simp
  have hl:=aN (Y0 (jn p.variant) a n p.aa (gW p.aa n) (gW p.aa n != 7) p p3 ⟨a,n,0,0,false⟩ (out++(List.range n).flatMap (fa p a)) h177 (by rw [List.length_append]; omega))
  rw [wa,wn,aI (n:=(n:Int)+1) (by omega) (by omega)]
  constructor
  ·refine aq (fun _=>ao k175 fun _=>aq (fun _=>rfl) fun _=>ao kl fun _=>aq (fun _=>kap) fun _=>aq (fun _=>kap) fun _=>ao hl.1 fun _=>rfl) fun _=>rfl
  ·have go:∀ l:List Mv,l=out++(List.range n).flatMap (fa p a)++fa p a n→rR (fun x:List Mv×Int => ∃ n:Nat,n≤64∧x=(out++(List.range n).flatMap (fa p a),(n:Int))) (fun r:List Mv×Int×Bool=>r.1=out++(List.range 64).flatMap (fa p a)) (fun x=>(64 - x.2).toNat) (64 - (n:Int)).toNat (.go (l,(n:Int)+1)):=by
    rintro _ rfl
    exact ⟨⟨n+1,by omega,by rw [j5,List.append_assoc]; rfl⟩,by show (64 - ((n:Int)+1)).toNat < _; omega⟩
   refine au (fun _=>au (fun h1 => ?_) fun h1=>au (fun h2 => ?_) fun h2=>au (fun h3 => ?_) fun h3 => ?_) fun h=>absurd h (by simp; omega)
   ·exact go _ (by unfold fa; rw [h1]; simp)
   ·exact go _ (by unfold fa; rw [h1,h2]; rfl)
   ·exact go _ (by unfold fa; rw [h1,h2,h3]; rfl)
   ·exact go _ (by rw [hl.2]; unfold fa; rw [h1,h2,h3]; rfl)
 ·have e:n=64:=by omega
  subst e
  exact ⟨rfl,rfl⟩
theorem Wc (p3:Nat):∃ r,nw p p3 ([],0)=some r∧r.1=(List.range 64).flatMap fun a=>(List.range 64).flatMap (fa p a):=by
 refine ba (I:=fun x => ∃ n:Nat,n≤64∧x=((List.range n).flatMap (fun a=>(List.range 64).flatMap (fa p a)),(n:Int))) (μ:=fun x=>(64 - x.2).toNat) ?_ _ ⟨0,by omega,by simp⟩ (by simp)
 rintro _ ⟨n,hn,rfl⟩
 have hlen:=dG (fun a=>(List.range 64).flatMap (fa p a)) 320 (fun a=>dG (fa p a) 5 (zf p a) 64) n
 unfold C0 JU
 dsimp only
 by_cases hc:n < 64
 ·have hl:=aN (aaX hp ht hc p3 ((List.range n).flatMap (fun a=>(List.range 64).flatMap (fa p a))) (by omega))
  rw [aI (n:=(n:Int)+1) (by omega) (by omega)]
  constructor
  ·exact aq (fun _=>ao hl.1 fun _=>rfl) fun _=>rfl
  ·refine au (fun _ => ?_) fun h=>absurd h (by simp; omega)
   rw [hl.2]
   exact ⟨⟨n+1,by omega,by rw [j5 (fun a=>(List.range 64).flatMap (fa p a)) n]; rfl⟩,by show (64 - ((n:Int)+1)).toNat < _; omega⟩
 ·have e:n=64:=by omega
  subst e
  exact ⟨rfl,rfl⟩
end
theorem gx {α β:Type} (q:α→Bool) (g:α→List β):∀ l:List α,(l.filter q).flatMap g=l.flatMap fun a=>bif q a then g a else []
 | []=>rfl
 | a::l=>by
  rw [List.flatMap_cons,← gx q g l]
  cases h:q a with
  | true=>rw [List.filter_cons_of_pos h]; rfl
  | false=>rw [List.filter_cons_of_neg (by simp [h])]; rfl
theorem kM {α β γ:Type} (f:α→β) (g:β→List γ):∀ l:List α,(l.map f).flatMap g=l.flatMap fun a=>g (f a)
 | []=>rfl
 | a::l=>by rw [List.map_cons,List.flatMap_cons,List.flatMap_cons,kM f g l]
theorem iq {α β:Type} {g h:α→List β}:∀ {l:List α},(∀ a ∈ l,g a=h a)→l.flatMap g=l.flatMap h
 | [],_=>rfl
 | a::l,e=>by rw [List.flatMap_cons,List.flatMap_cons,e a (by simp),iq fun b hb=>e b (by simp [hb])]
noncomputable section
variable {p:Pos} (hp:aG p) (ht:there p)
include hp ht
theorem CY {a b:Nat} (ha:a < 64) (hb:b < 64):fa p a b=bif (own p).getLsbD a then (bif (gG (p,own p,gO p) a).getLsbD b then uI p a b else []) else []:=by
 have t0:=hp.t0
 have htt:p.aa=0∨p.aa=1:=by have:=ht.1; omega
 cases ho:(own p).getLsbD a with
 | false =>
  have e1:=kh hp htt htt ha
  rw [show aR p p.aa 0=own p from rfl,ho] at e1
  have:mE p a b=false:=by
   unfold mE
   rw [e1]
   cases (a:Int)==(b:Int) <;> rfl
  unfold fa
  rw [this]
  rfl
 | true =>
  have hm:mE p a b=(gG (p,own p,gO p) a).getLsbD b:=by
   by_cases hk:bA (p.ae.getD a 0)=1
   ·exact IM hp htt ha hb ho hk
   ·exact My hp htt ha hb ho hk
  obtain ⟨b0,b1⟩:=ei hp a
  have m91:=(qD b0 b1).1
  unfold fa uI
  rw [hm,show ((a:Int)).toNat=a by omega,m91]
  obtain ⟨c,hc⟩:∃ c:Fin 2,p.aa=c.val:=by
   rcases htt with h | h
   ·exact ⟨0,h⟩
   ·exact ⟨1,h⟩
  have r1:=(rV c ⟨b,hb⟩).1
  simp only at r1
  rw [← hc] at r1
  rw [r1]
  have hpr:(jn p.variant).map (fun k=>(⟨a,b,k,0,false⟩:Mv))=(iS p.variant).flatMap fun k=>[⟨a,b,k,0,false⟩]:=by
   have v0:=hp.v0
   have v9:=ht.2
   have e:jn p.variant=iS p.variant:=by
    unfold jn iS
    by_cases h4:p.variant=4
    ·rw [h4]; rfl
    ·rw [show (p.variant==4)=false by simpa using h4,cond_false]
     by_cases h8:p.variant < 8
     ·rw [decide_eq_true h8,cond_true,if_pos ⟨v0,by omega⟩,if_neg h4]
     ·rw [decide_eq_false h8,cond_false,if_neg (by omega)]
   rw [e]
   induction iS p.variant with
   | nil=>rfl
   | cons k l ih=>rw [List.map_cons,List.flatMap_cons,ih]; rfl
  rw [hpr]
  cases (gG (p,own p,gO p) a).getLsbD b <;> rfl
theorem T5:JY p=true∧Gf p=dE p:=by
 have t0:=hp.t0
 have htt:p.aa=0∨p.aa=1:=by have:=ht.1; omega
 have h34:yd p=true:=by
  unfold yd
  rw [decide_eq_true ht.2,decide_eq_true (show p.aa < 2 by have:=ht.1; omega)]
  rfl
 have hl:=aN (Wc hp htt 0)
 constructor
 ·unfold JY
  rw [h34]
  exact ao hl.1 fun _=>rfl
 ·unfold Gf
  rw [h34,j7 hp.v0 ht]
  show (_:List Mv)=_
  rw [show (bif !true then ([]:List Mv) else ((nw p 0 ([],0)).getD default).1)=((nw p 0 ([],0)).getD default).1 from rfl,hl.2]
  unfold jk
  rw [kM,gx]
  refine iq fun a ha => ?_
  have ha:a < 64:=List.mem_range.1 ha
  unfold nX jk
  rw [kM,gx]
  have e:(List.range 64).flatMap (fa p a)=(List.range 64).flatMap fun b=>bif (own p).getLsbD a then (bif (gG (p,own p,gO p) a).getLsbD b then uI p a b else []) else [] :=
   iq fun b hb=>CY hp ht ha (List.mem_range.1 hb)
  rw [e]
  cases (own p).getLsbD a with
  | true=>rfl
  | false =>
   show (List.range 64).flatMap (fun _=>([]:List Mv))=[]
   induction List.range 64 with
   | nil=>rfl
   | cons x l ih=>rw [List.flatMap_cons,ih]; rfl
end
def jD (s:Nat):Bool:=decide (s < 8) || decide (s > 55)
def eu (p:Pos) (k:Int) (s:Nat):List Mv:=bif bA (p.ae.getD s 0) != 0 then [] else bif k==1 then (bif jD s then [] else [⟨s,s,0,k,false⟩]) else [⟨s,s,0,k,false⟩]
def fw (p:Pos) (k:Int):List Mv:=bif decide (p.af.getD (scale 6 p.aa+scale 1 k).toNat 0 > 0) then (List.range 64).flatMap (eu p k) else []
theorem vL (p:Pos) (k:Int) (s:Nat):(eu p k s).length≤1:=by
 unfold eu
 exact au (P:=fun l:List Mv=>l.length≤1) (fun _=>by simp) fun _=>au (P:=fun l:List Mv=>l.length≤1) (fun _=>au (P:=fun l:List Mv=>l.length≤1) (fun _=>by simp) fun _=>by simp) fun _=>by simp
noncomputable section
variable {p:Pos} (hp:aG p) (ht:p.aa≤1)
include hp ht
theorem X3 {k:Int} (k0:0≤k) (k1:k≤5) (p3:Nat) (out:List Mv) (ho:out.length≤100000):∃ r,tJ k p p3 (out,0)=some r∧r.1=out++fw p k:=by
 have t0:=hp.t0
 unfold fw
 cases hpk:decide (p.af.getD (scale 6 p.aa+scale 1 k).toNat 0 > 0) with
 | false =>
  have e:cP (fun x=>bif oU k p p3 x then sn k p p3 x else .bad) 1 (out,0)=some (out,0,false):=by
   rw [cP]
   have:(bif oU k p p3 (out,0) then sn k p p3 (out,0) else .bad)=.out (out,0,false):=by
    unfold oU sn
    dsimp only
    rw [hpk,show (decide (0≤p.aa)&&decide (p.aa < Int.ofNat 2))=true by simp; omega,show (decide (0≤k)&&decide (k < Int.ofNat 6))=true by simp; omega]
    rfl
   rw [this]
  exact ⟨_,jw _ many _ _ (by unfold many; omega) e,by simp⟩
 | true =>
  rw [cond_true]
  refine ba (I:=fun x => ∃ n:Nat,n≤64∧x=(out++(List.range n).flatMap (eu p k),(n:Int))) (μ:=fun x=>(64 - x.2).toNat) ?_ _ ⟨0,by omega,by simp⟩ (by simp)
  rintro _ ⟨n,hn,rfl⟩
  have hsc:(scale 1 (n:Int)).toNat=n:=by unfold scale; simp
  have hlen:=dG (eu p k) 1 (vL p k) n
  unfold oU sn
  dsimp only
  rw [hsc,hpk]
  by_cases hc:n < 64
  ·have wn:wr IntKind.i8 (n:Int)=n:=Ga (by omega) (by omega)
   have kt:(decide (0≤p.aa)&&decide (p.aa < Int.ofNat 2))=true:=by simp; omega
   have kk:(decide (0≤k)&&decide (k < Int.ofNat 6))=true:=by simp; omega
   have kn:(decide (0≤(n:Int))&&decide ((n:Int) < Int.ofNat 64))=true:=by simp; omega
   have kap:((out++(List.range n).flatMap (eu p k)).length==(out++(List.range n).flatMap (eu p k)).length&&decide ((out++(List.range n).flatMap (eu p k)).length+1≤1073741824)&&true)=true:=by
    have:(out++(List.range n).flatMap (eu p k)).length≤1000000:=by rw [List.length_append]; omega
    generalize (out++(List.range n).flatMap (eu p k)).length=q at this
    simp
    omega
   rw [wn,aI (n:=(n:Int)+1) (by omega) (by omega),show decide ((n:Int) < 8)=decide (n < 8) by rw [decide_eq_decide]; omega,show decide ((n:Int) > 55)=decide (n > 55) by rw [decide_eq_decide]; omega]
   constructor
   ·refine aq (fun _=>ao kt fun _=>ao kk fun _=>aq (fun _=>ao kn fun _=>aq (fun _=>rfl) fun _=>aq (fun _=>aq (fun _=>rfl) fun _=>aq (fun _=>rfl) fun _=>kap) fun _=>kap) fun _=>rfl) fun _=>rfl
   ·have go:∀ l:List Mv,l=out++(List.range n).flatMap (eu p k)++eu p k n→rR (fun x:List Mv×Int => ∃ n:Nat,n≤64∧x=(out++(List.range n).flatMap (eu p k),(n:Int))) (fun r:List Mv×Int×Bool=>r.1=out++(List.range 64).flatMap (eu p k)) (fun x=>(64 - x.2).toNat) (64 - (n:Int)).toNat (.go (l,(n:Int)+1)):=by
     rintro _ rfl
     exact ⟨⟨n+1,by omega,by rw [j5 (eu p k) n,List.append_assoc]; rfl⟩,by show (64 - ((n:Int)+1)).toNat < _; omega⟩
    refine au (fun _ => ?_) fun h=>absurd h (by simp; omega)
    rw [cond_true]
    refine au (fun h1 => ?_) fun h1=>au (fun h2=>au (fun h3 => ?_) fun h3=>au (fun h4 => ?_) fun h4 => ?_) fun h2 => ?_
    ·exact go _ (by unfold eu; rw [h1]; simp)
    ·exact go _ (by unfold eu jD; rw [h1,h2,h3]; simp)
    ·exact go _ (by unfold eu jD; rw [h1,h2,h3,h4]; simp)
    ·exact go _ (by unfold eu jD; rw [h1,h2,h3,h4]; rfl)
    ·exact go _ (by unfold eu; rw [h1,h2]; rfl)
  ·have e:n=64:=by omega
   subst e
   exact ⟨rfl,rfl⟩
theorem A3 (k:Int):(fw p k).length≤64:=by
 unfold fw
 refine au (P:=fun l:List Mv=>l.length≤64) (fun _ => ?_) fun _=>by simp
 have:=dG (eu p k) 1 (vL p k) 64
 omega
theorem Y2:∃ r,o9 p 0 ([],1)=some r∧r.1=[1,2,3,4,5].flatMap (fw p):=by
 refine ba (I:=fun x => ∃ n:Nat,n≤5∧x=(([1,2,3,4,5].take n).flatMap (fw p),(n:Int)+1)) (μ:=fun x=>(6 - x.2).toNat) ?_ _ ⟨0,by omega,rfl⟩ (by simp)
 rintro _ ⟨n,hn,rfl⟩
 have hlen:=gV (([1,2,3,4,5]:List Int).take n) (fw p) 64 fun k _=>A3 hp ht k
 have htl:(([1,2,3,4,5]:List Int).take n).length≤5:=by rw [List.length_take]; simp; omega
 unfold Ep JP
 dsimp only
 by_cases hc:n < 5
 ·have hl:=aN (X3 hp ht (k:=(n:Int)+1) (by omega) (by omega) 0 ((([1,2,3,4,5]:List Int).take n).flatMap (fw p)) (by omega))
  rw [oZ (n:=(n:Int)+1+1) (by omega) (by omega)]
  constructor
  ·exact aq (fun _=>ao hl.1 fun _=>rfl) fun _=>rfl
  ·refine au (fun _ => ?_) fun h=>absurd h (by simp; omega)
   rw [hl.2]
   refine ⟨⟨n+1,by omega,?_⟩,by show (6 - ((n:Int)+1+1)).toNat < (6 - ((n:Int)+1)).toNat; omega⟩
   have:(([1,2,3,4,5]:List Int).take (n+1)).flatMap (fw p)=(([1,2,3,4,5]:List Int).take n).flatMap (fw p)++fw p ((n:Int)+1):=by
    have h5:n=0∨n=1∨n=2∨n=3∨n=4:=by omega
    rcases h5 with rfl | rfl | rfl | rfl | rfl <;> simp
   rw [this]
   rfl
 ·have e:n=5:=by omega
  subst e
  exact ⟨rfl,rfl⟩
end
theorem Tw:∀ v:Fin 256,eR v.val=!(bA v.val==0):=by decide +kernel
theorem G0 {v:Int} (h0:0≤v) (h1:v≤255):eR v=!(bA v==0):=by
 obtain ⟨n,rfl⟩:=Int.eq_ofNat_of_zero_le h0
 exact Tw ⟨n,by omega⟩
theorem Gu:∀ s:Fin 64,(72057594037927680#64).getLsbD s.val=!jD s.val:=by decide +kernel
theorem Ci {p:Pos} (hp:aG p) (k:Int):fw p k=eM p k:=by
 have hk:0≤p.af.getD (scale 6 p.aa+scale 1 k).toNat 0:=(fB hp.k0 (by omega) _).1
 have bit:∀ s,s < 64→(~~~bm p).getLsbD s=(bA (p.ae.getD s 0)==0):=fun s hs=>by
  obtain ⟨b0,b1⟩:=ei hp s
  rw [BitVec.getLsbD_not,lU _ hs,(G0 b0 b1)]
  simp [hs]
 unfold fw eM
 generalize p.af.getD (scale 6 p.aa+scale 1 k).toNat 0=v at hk
 by_cases h0:v=0
 ·rw [h0]; rfl
 ·rw [show decide (v > 0)=true by simp; omega,show (v==0)=false by simpa using h0,cond_true,cond_false]
  unfold jk
  rw [kM,gx,kM,gx]
  by_cases h1:(k==1)=true
  ·rw [h1,cond_true]
   refine iq fun s hs => ?_
   have hs:s < 64:=List.mem_range.1 hs
   rw [BitVec.getLsbD_and,bit s hs,Gu ⟨s,hs⟩]
   unfold eu
   rw [h1]
   cases hz:bA (p.ae.getD s 0)==0
   ·rw [show (bA (p.ae.getD s 0) != 0)=true by simpa using hz]; rfl
   ·rw [show (bA (p.ae.getD s 0) != 0)=false by simpa using hz]
    cases jD s <;> rfl
  ·rw [show (k==1)=false by simpa using h1,cond_false]
   refine iq fun s hs => ?_
   have hs:s < 64:=List.mem_range.1 hs
   rw [bit s hs]
   unfold eu
   rw [show (k==1)=false by simpa using h1]
   cases hz:bA (p.ae.getD s 0)==0
   ·rw [show (bA (p.ae.getD s 0) != 0)=true by simpa using hz]; rfl
   ·rw [show (bA (p.ae.getD s 0) != 0)=false by simpa using hz]; rfl
theorem U3 {p:Pos} (hp:aG p):Iz p=true∧Vt p=mG p:=by
 rw [ri hp.t0]
 unfold Iz Vt
 by_cases ht:p.aa≤1
 ·rw [show decide (p.aa > 1)=false by simp; omega]
  have hl:=aN (Y2 hp ht)
  have h112:qP p.variant=(p.variant==2):=by
   have v0:=hp.v0
   unfold qP
   by_cases h2:p.variant=2
   ·rw [h2]; rfl
   ·rw [show (p.variant==2)=false by simpa using h2]
    cases decide (p.variant ≥ 9) <;> cases p.variant==0 <;> cases p.variant==1 <;> cases p.variant==3 <;> cases p.variant==4 <;> cases p.variant==5 <;> cases p.variant==6 <;> cases p.variant==7 <;> rfl
  rw [h112]
  by_cases h2:p.variant=2
  ·rw [show (p.variant != 2)=false by simp [h2],show (p.variant==2)=true by simp [h2]]
   refine ⟨ao hl.1 fun _=>rfl,?_⟩
   show ((o9 p 0 ([],1)).getD default).1=[1,2,3,4,5].flatMap (eM p)
   rw [hl.2,show fw p=eM p from funext fun k=>Ci hp k]
  ·rw [show (p.variant != 2)=true by simpa using h2,show (p.variant==2)=false by simpa using h2]
   exact ⟨rfl,rfl⟩
 ·rw [show decide (p.aa > 1)=true by simp; omega]
  exact ⟨rfl,rfl⟩
theorem scan {R:Type} {bad:Nat→Bool} {lo hi:Nat} {x:Int} {ok:Int→Bool} {st:Int→aF Int R} {isl:R→Bool} (hx:x=(lo:Int)) (hl:lo≤hi+1) (hh:hi < 1000)
  (hok:∀ n:Nat,lo≤n→n≤hi+1→ok (n:Int)=true)
  (h1:∀ n:Nat,lo≤n→n≤hi→(bad n=true→∃ r,st (n:Int)=.out r∧isl r=true)∧(bad n=false→st (n:Int)=.go ((n:Int)+1)))
  (h2:∃ r,st ((hi:Int)+1)=.out r∧isl r=false) :
  ∃ r,cP (fun x=>bif ok x then st x else .bad) many x=some r∧(isl r=false ↔ ∀ s:Nat,lo≤s→s≤hi→bad s=false):=by
 refine ba (I:=fun x => ∃ n:Nat,x=(n:Int)∧lo≤n∧n≤hi+1∧∀ s,lo≤s→s < n→bad s=false) (μ:=fun x=>((hi:Int)+1 - x).toNat) ?_ _ ⟨lo,hx,Nat.le_refl _,hl,fun s a b=>by omega⟩ (by omega)
 rintro _ ⟨n,rfl,a1,a2,a3⟩
 refine ⟨hok n a1 a2,?_⟩
 by_cases hn:n≤hi
 ·obtain ⟨b1,b2⟩:=h1 n a1 hn
  cases hb:bad n with
  | true =>
   obtain ⟨r,e,hr⟩:=b1 hb
   rw [e]
   show (isl r=false ↔ ∀ s:Nat,lo≤s→s≤hi→bad s=false)
   rw [hr]
   exact ⟨fun h=>(by cases h),fun h=>(by rw [h n a1 hn] at hb; cases hb)⟩
  | false =>
   rw [b2 hb]
   refine ⟨⟨n+1,by omega,by omega,by omega,fun s c1 c2 => ?_⟩,by dsimp only; omega⟩
   by_cases e:s=n
   ·rw [e]; exact hb
   ·exact a3 s c1 (by omega)
 ·have e:n=hi+1:=by omega
  subst e
  obtain ⟨r,e,hr⟩:=h2
  rw [show ((hi+1:Nat):Int)=(hi:Int)+1 by omega,e]
  show (isl r=false ↔ ∀ s:Nat,lo≤s→s≤hi→bad s=false)
  rw [hr]
  exact ⟨fun _ s c1 c2=>a3 s c1 (by omega),fun _=>rfl⟩
theorem nf {b:Bool}:(!b)=false ↔ b=true:=by cases b <;> simp
theorem vw (x:BitVec 64) {k:Nat} (hk:k < 64):(x >>> k&&&1#64==0#64)=!x.getLsbD k:=by
 have h:(x >>> k&&&1#64).toNat=(x.getLsbD k).toNat:=by
  rw [BitVec.toNat_and,BitVec.toNat_ushiftRight,Nat.shiftRight_eq_div_pow,show (1#64).toNat=2 ^ 1 - 1 from rfl,Nat.and_two_pow_sub_one_eq_mod,BitVec.getLsbD,Nat.testBit_eq_decide_div_mod_eq]
  have:=Nat.mod_two_eq_zero_or_one (x.toNat / 2 ^ k)
  rcases this with h | h
  ·rw [show (2:Nat) ^ 1=2 from rfl,h]; rfl
  ·rw [show (2:Nat) ^ 1=2 from rfl,h]; rfl
 cases hb:x.getLsbD k with
 | true =>
  rw [hb] at h
  have:x >>> k&&&1#64=1#64:=BitVec.eq_of_toNat_eq h
  rw [this]; rfl
 | false =>
  rw [hb] at h
  have:x >>> k&&&1#64=0#64:=BitVec.eq_of_toNat_eq h
  rw [this]; rfl
theorem oR (s a b:Int):fK s a b=true ↔ (a≤s∧s≤b)∨(b≤s∧s≤a):=by
 have e:fK s a b=(decide (s ≥ a)&&decide (s≤b) || decide (s ≥ b)&&decide (s≤a)):=by
  unfold fK
  cases decide (s ≥ a) <;> cases decide (s≤b) <;> cases decide (s ≥ b) <;> cases decide (s≤a) <;> rfl
 rw [e]
 simp only [Bool.or_eq_true,Bool.and_eq_true,decide_eq_true_eq,ge_iff_le]
theorem GF {l:List Int} {i:Nat} (hi:i < l.length) (j:Nat) (v:Int):(l.set i v).getD j 0=if i=j then v else l.getD j 0:=by
 rw [List.getD_eq_getElem?_getD,List.getD_eq_getElem?_getD,List.getElem?_set]
 split
 ·rename_i e
  subst e
  rfl
 ·rfl
def off (p:Pos) (k r:Int):Pos:=Pos.mk p.variant ((p.ae.set (scale 1 k).toNat 0).set (scale 1 r).toNat 0) p.ab p.af p.aa p.ai p.ah p.ag p.half p.full
theorem Vi {p:Pos} (hp:aG p) (k r:Int):aG (off p k r):=by
 refine ⟨hp.v0,hp.v1,by simp [off,hp.bl],fun x hx => ?_,hp.kl,hp.k0,hp.t0,hp.t1,hp.rl,hp.r0,hp.p0,hp.p1,hp.cl,hp.c0,hp.h0,hp.f0⟩
 rcases List.mem_or_eq_of_mem_set hx with hx | rfl
 ·rcases List.mem_or_eq_of_mem_set hx with hx | rfl
  ·exact hp.b0 _ hx
  ·omega
 ·omega
theorem RJ {p:Pos} (hp:aG p) {k r:Nat} (hk:k < 64) (hr:r < 64) (s:Nat):(off p k r).ae.getD s 0=if r=s then 0 else if k=s then 0 else p.ae.getD s 0:=by
 have e1:(scale 1 (k:Int)).toNat=k:=by unfold scale; simp
 have e2:(scale 1 (r:Int)).toNat=r:=by unfold scale; simp
 show ((p.ae.set (scale 1 (k:Int)).toNat 0).set (scale 1 (r:Int)).toNat 0).getD s 0=_
 rw [e1,e2,GF (by simp [hp.bl,hr]),GF (by simp [hp.bl,hk])]
theorem SY {p:Pos} (hp:aG p) {k r:Nat} (hk:k < 64) (hr:r < 64) {o:Int} (h1:dc o 6 (p.ae.getD k 0)=false) (h2:dc o 6 (p.ae.getD r 0)=false) (hz:dc o 6 0=false):aR (off p k r) o 6=aR p o 6:=by
 refine BitVec.eq_of_getLsbD_eq fun s hs => ?_
 rw [cn _ _ _ hs,cn _ _ _ hs,RJ hp hk hr]
 split
 ·rename_i e; rw [← e,hz,h2]
 ·split
  ·rename_i e; rw [← e,hz,h1]
  ·rfl
theorem vI {q:Pos} {o:Int} {k:Nat} (hk:k < 64) {n:Nat} (hn:n < 64):(cV k&&&aR q o 6).getLsbD n=(iu n k&&dc o 6 (q.ae.getD n 0)):=by
 obtain ⟨_,f6,_⟩:=nI ⟨n,hn⟩ ⟨k,hk⟩
 obtain ⟨_,y6,_⟩:=wZ ⟨n,hn⟩ ⟨k,hk⟩
 simp only at f6 y6
 rw [BitVec.getLsbD_and,cn _ _ _ hn,← y6,← f6]
 have:cJ 6 0 n k false=iu n k:=by
  have h:∀ a b:Fin 64,cJ 6 0 a.val b.val false=iu a.val b.val:=by decide +kernel
  exact h ⟨n,hn⟩ ⟨k,hk⟩
 rw [this]
noncomputable section
variable {q:Pos} (hq:aG q) (ht:q.aa=0∨q.aa=1)
include hq ht
theorem Zk {s:Nat} (hs:s < 64):∃ r,me s q 0=some r∧cq r=(q.variant==3&&(cV s&&&aR q (1 - q.aa) 6 != 0#64)):=by
 have w1:wr .u8 (1 - q.aa)=1 - q.aa:=oZ (by omega) (by omega)
 cases hv:q.variant==3 with
 | false =>
  have e:cP (fun x=>bif ju s q x then j8 s q x else .bad) 1 0=some (.inr (0,false)):=by
   rw [cP]
   have:(bif ju s q 0 then j8 s q 0 else .bad)=.out (.inr (0,false)):=by
    unfold ju j8
    rw [hv]
    rfl
   rw [this]
  exact ⟨_,jw _ many _ _ (by unfold many; omega) e,rfl⟩
 | true =>
  obtain ⟨r,e,hr⟩:=scan (bad:=fun n=>iu n s&&dc (1 - q.aa) 6 (q.ae.getD n 0)) (lo:=0) (hi:=63) (x:=0) (ok:=ju s q) (st:=j8 s q) (isl:=cq) rfl (by omega) (by omega) (fun n _ a2=>by
    unfold ju
    rw [hv,w1]
    refine aq (fun hc => ?_) fun _=>rfl
    have hc:(n:Int) < 64:=by simpa using hc
    rw [(jN hq (c:=1 - q.aa) (k:=6) (by omega) (by omega) (by omega) (show n < 64 by omega)).1]
    rfl) (fun n _ a2=>by
    obtain ⟨e1,e2⟩:=jN hq (c:=1 - q.aa) (k:=6) (by omega) (by omega) (by omega) (show n < 64 by omega)
    unfold j8
    rw [hv,w1,e2,aI (n:=(n:Int)+1) (by omega) (by omega),decide_eq_true (show (n:Int) < 64 by omega)]
    cases iu n s <;> cases dc (1 - q.aa) 6 (q.ae.getD n 0) <;> exact ⟨fun h=>by first | (cases h; done) | exact ⟨_,rfl,rfl⟩,fun h=>by first | (cases h; done) | rfl⟩)
    ⟨_,by unfold j8; rw [decide_eq_false (show ¬ (((63:Nat):Int)+1 < 64) by omega)]; rfl,rfl⟩
  refine ⟨r,e,?_⟩
  rw [Bool.true_and]
  cases hz:(cV s&&&aR q (1 - q.aa) 6 != 0#64) with
  | false =>
   refine hr.2 fun n _ a2 => ?_
   have hz:cV s&&&aR q (1 - q.aa) 6=0#64:=by simpa using hz
   rw [← vI hs (show n < 64 by omega),hz]
   simp
  | true =>
   cases hl:cq r with
   | true=>rfl
   | false =>
    have hr:=hr.1 hl
    have:cV s&&&aR q (1 - q.aa) 6=0#64:=BitVec.eq_of_getLsbD_eq fun j hj=>by
     rw [vI hs hj]
     have:=hr j (by omega) (by omega)
     rw [this]
     simp
    rw [this] at hz
    cases hz
theorem Ea {s:Nat} (hs:s < 64):sC q s=true∧tO q s=((q.variant==3&&(cV s&&&aR q (1 - q.aa) 6 != 0#64)) || (nY q s (1 - q.aa)==0#64)):=by
 have w1:wr .u8 (1 - q.aa)=1 - q.aa:=oZ (by omega) (by omega)
 obtain ⟨o1,o2⟩:=DK hq ht hs (c:=1 - q.aa) (by omega)
 obtain ⟨l1,l2⟩:=aN (Zk hq ht hs)
 unfold sC tO
 rw [l1,l2,w1,o1,o2]
 cases (q.variant==3&&(cV s&&&aR q (1 - q.aa) 6 != 0#64)) <;> exact ⟨rfl,rfl⟩
end
theorem EO (p1:Pos) (p2:List Int) (p3:Pos) (p4 p5:BitVec 64) {p6 p7 x:Int} {lo hi:Nat} (hx:x=lo) (hm:(if p7 > p6 then p7 else p6)=(hi:Int)) (hl:lo≤hi+1) (hh:hi < 64):∃ r,dp p1 p2 p3 p4 p5 p6 p7 x=some r∧(cq r=false ↔ ∀ s:Nat,lo≤s→s≤hi→p4.getLsbD s=false):=by
 refine scan (bad:=fun s=>p4.getLsbD s) hx hl (by omega) (fun _ _ _=>rfl) (fun n a1 a2 => ?_) ?_
 ·unfold wU
  rw [hm,decide_eq_true (show (n:Int)≤hi by omega),cN (by omega) (by omega),show ((n:Int)).toNat=n by omega,vw _ (by omega),Bool.not_not,aI (by omega) (by omega)]
  exact ⟨fun h=>by rw [h]; exact ⟨_,rfl,rfl⟩,fun h=>by rw [h]; rfl⟩
 ·unfold wU
  rw [hm,decide_eq_false (by omega)]
  exact ⟨_,rfl,rfl⟩
theorem F3 (p1:Pos) (p2:List Int) (p3:Pos) (p4 p5:BitVec 64) (p6 p7:Int) {p8 p9 x:Int} {lo hi:Nat} (hx:x=lo) (hm:(if p9 > p8 then p9 else p8)=(hi:Int)) (hl:lo≤hi+1) (hh:hi < 64):∃ r,dz p1 p2 p3 p4 p5 p6 p7 p8 p9 x=some r∧(cq r=false ↔ ∀ s:Nat,lo≤s→s≤hi→p4.getLsbD s=false):=by
 refine scan (bad:=fun s=>p4.getLsbD s) hx hl (by omega) (fun _ _ _=>rfl) (fun n a1 a2 => ?_) ?_
 ·unfold wm
  rw [hm,decide_eq_true (show (n:Int)≤hi by omega),cN (by omega) (by omega),show ((n:Int)).toNat=n by omega,vw _ (by omega),Bool.not_not,aI (by omega) (by omega)]
  exact ⟨fun h=>by rw [h]; exact ⟨_,rfl,rfl⟩,fun h=>by rw [h]; rfl⟩
 ·unfold wm
  rw [hm,decide_eq_false (by omega)]
  exact ⟨_,rfl,rfl⟩
theorem Fj (p1:Pos) (p2:List Int) (p3:Pos) (p4 p5:BitVec 64) (p6 p7 p8 p9:Int) {p10 p11 x:Int} {lo hi:Nat} (hx:x=lo) (hm:(if p11 > p10 then p11 else p10)=(hi:Int)) (hl:lo≤hi+1) (hh:hi < 64):∃ r,dv p1 p2 p3 p4 p5 p6 p7 p8 p9 p10 p11 x=some r∧(cq r=false ↔ ∀ s:Nat,lo≤s→s≤hi→((p1.variant==3&&(cV s&&&p5 != 0#64)) || (nY p3 s (wr .u8 (1 - p1.aa))==0#64))=true):=by
 have h:=scan (R:=Int ⊕ (Int×Bool)) (isl:=cq) (ok:=nQ p1 p2 p3 p4 p5 p6 p7 p8 p9 p10 p11) (st:=qX p1 p2 p3 p4 p5 p6 p7 p8 p9 p10 p11) (bad:=fun s => !((p1.variant==3&&(cV s&&&p5 != 0#64)) || (nY p3 s (wr .u8 (1 - p1.aa))==0#64))) hx hl (by omega) (fun n _ _=>by
   unfold nQ
   repeat' (first | with_reducible rfl | with_reducible exact t196 _ | with_reducible exact t122 _ _ _ | refine ao ?_ (fun _ => ?_) | refine aq (fun _ => ?_) (fun _ => ?_))) (fun n a1 a2=>by
   unfold qX AR
   rw [hm,decide_eq_true (show (n:Int)≤hi by omega),aI (by omega) (by omega),show (nY p3 n (wr .u8 (1 - p1.aa)) != 0#64)=!(nY p3 n (wr .u8 (1 - p1.aa))==0#64) from rfl]
   cases p1.variant==3 <;> cases (cV n&&&p5 != 0#64) <;> cases (nY p3 n (wr .u8 (1 - p1.aa))==0#64) <;> exact ⟨fun h=>by first | (cases h; done) | exact ⟨_,rfl,rfl⟩,fun h=>by first | (cases h; done) | rfl⟩)
   (by
    unfold qX
    rw [hm,decide_eq_false (by omega)]
    exact ⟨_,rfl,rfl⟩)
 obtain ⟨r,e,hr⟩:=h
 refine ⟨r,e,hr.trans ⟨fun h s a b => ?_,fun h s a b => ?_⟩⟩
 ·exact nf.1 (h s a b)
 ·exact nf.2 (h s a b)
theorem Ja {q:Pos} (hq:aG q) (ht:q.aa=0∨q.aa=1) (p6:Pos) {h:Nat} (hh:h≤56) {k r x y:Int} (hk:0≤x∧x≤7) (hy:0≤y∧y≤7) :
  ∃ o,cB h k r x y p6 q h=some o∧(cq o=false ↔ ∀ s:Nat,h≤s→s≤h+7→((fK s k (h+x) || fK s r (h+y))&&bA (q.ae.getD s 0) != 0 || fK s k (h+x)&&!tO q s)=false):=by
 refine scan (bad:=fun s=>((fK s k (h+x) || fK s r (h+y))&&bA (q.ae.getD s 0) != 0 || fK s k (h+x)&&!tO q s)) rfl (by omega) (by omega) (fun n a1 a2 => ?_) (fun n a1 a2 => ?_) ?_
 ·unfold Av
  refine aq (fun hc => ?_) fun _=>rfl
  have hc:(n:Int) < h+8:=by
   rw [aI (by omega) (by omega)] at hc
   simpa using hc
  have k1:(decide (0≤(n:Int))&&decide ((n:Int) < Int.ofNat 64))=true:=by simp; omega
  rw [(Ea hq ht (show n < 64 by omega)).1,k1]
  repeat' (first | with_reducible rfl | refine ao ?_ (fun _ => ?_) | refine aq (fun _ => ?_) (fun _ => ?_))
 ·have hsc:(scale 1 (n:Int)).toNat=n:=by unfold scale; simp
  unfold xc
  rw [aI (n:=(h:Int)+8) (by omega) (by omega),aI (n:=(h:Int)+x) (by omega) (by omega),aI (n:=(h:Int)+y) (by omega) (by omega),aI (n:=(n:Int)+1) (by omega) (by omega),hsc,decide_eq_true (show (n:Int) < h+8 by omega)]
  cases fK n k (h+x) <;> cases fK n r (h+y) <;> cases (bA (q.ae.getD n 0) != 0) <;> cases tO q n <;> exact ⟨fun h=>by first | (cases h; done) | exact ⟨_,rfl,rfl⟩,fun h=>by first | (cases h; done) | rfl⟩
 ·unfold xc
  rw [aI (n:=(h:Int)+8) (by omega) (by omega),decide_eq_false (show ¬ (((h+7:Nat):Int)+1 < h+8) by omega)]
  exact ⟨_,rfl,rfl⟩
theorem sj:∀ (c:Fin 2) (v:Fin 256),dc c.val 4 v.val=((v.val:Int)==8 * (c.val:Int)+4)∧(dc c.val 4 v.val=true→dc c.val 6 v.val=false∧dc (1 - c.val) 6 v.val=false)∧(dc c.val 6 v.val=true→dc (1 - c.val) 6 v.val=false):=by decide +kernel
theorem Ac:∀ v:Fin 256,BY v.val=uQ v.val:=by decide +kernel
noncomputable section
variable {p:Pos} (hp:aG p)
include hp
theorem ways {t k r x y:Nat} (ht:t≤1) (hpt:p.aa=t) (k0:56 * t≤k) (k7:k≤56 * t+7) (r0:56 * t≤r) (r7:r≤56 * t+7) (hx:x≤7) (hy:y≤7) (l:List Int)
  (h1:dc (1 - p.aa) 6 (p.ae.getD k 0)=false) (h2:dc (1 - p.aa) 6 (p.ae.getD r 0)=false) {gk gr m1 m2:Int} (hgk:gk=((56 * t+x:Nat):Int)) (hgr:gr=((56 * t+y:Nat):Int)) (hm1:m1=if gk < k then gk else k) (hm2:m2=if gr < r then gr else r) :
  (cB ((56 * t:Nat):Int) k r x y p (off p k r) ((56 * t:Nat):Int)).isSome=true ∧
  cq ((cB ((56 * t:Nat):Int) k r x y p (off p k r) ((56 * t:Nat):Int)).getD default) =
   (cq ((dp p l (off p k r) (bm (off p k r)) (aR p (wr .u8 (1 - p.aa)) 6) k gk m1).getD default) || (cq ((dz p l (off p k r) (bm (off p k r)) (aR p (wr .u8 (1 - p.aa)) 6) k gk r gr m2).getD default) || cq ((dv p l (off p k r) (bm (off p k r)) (aR p (wr .u8 (1 - p.aa)) 6) k gk r gr k gk m1).getD default))):=by
 have w1:wr .u8 (1 - p.aa)=1 - p.aa:=oZ (by omega) (by omega)
 have hq:=Vi hp (k:Int) (r:Int)
 have hqt:(off p k r).aa=0∨(off p k r).aa=1:=by show p.aa=0∨p.aa=1; omega
 have hz:dc (1 - p.aa) 6 0=false:=by
  have:p.aa=0∨p.aa=1:=by omega
  rcases this with h | h <;> rw [h] <;> decide +kernel
 have hof:=SY hp (k:=k) (r:=r) (by omega) (by omega) h1 h2 hz
 obtain ⟨s0,a0⟩:=aN (Ja hq hqt p (h:=56 * t) (by omega) (k:=k) (r:=r) (x:=x) (y:=y) (by omega) (by omega))
 obtain ⟨_,a1⟩:=aN (EO p l (off p k r) (bm (off p k r)) (aR p (wr .u8 (1 - p.aa)) 6) (p6:=k) (p7:=gk) (x:=m1) (lo:=min (56 * t+x) k) (hi:=max (56 * t+x) k) (by rw [hm1]; split <;> omega) (by split <;> omega) (by omega) (by omega))
 obtain ⟨_,a2⟩:=aN (F3 p l (off p k r) (bm (off p k r)) (aR p (wr .u8 (1 - p.aa)) 6) k gk (p8:=r) (p9:=gr) (x:=m2) (lo:=min (56 * t+y) r) (hi:=max (56 * t+y) r) (by rw [hm2]; split <;> omega) (by split <;> omega) (by omega) (by omega))
 obtain ⟨_,a3⟩:=aN (Fj p l (off p k r) (bm (off p k r)) (aR p (wr .u8 (1 - p.aa)) 6) k gk r gr (p10:=k) (p11:=gk) (x:=m1) (lo:=min (56 * t+x) k) (hi:=max (56 * t+x) k) (by rw [hm1]; split <;> omega) (by split <;> omega) (by omega) (by omega))
 refine ⟨s0,?_⟩
 have key:(cq ((cB ((56 * t:Nat):Int) k r x y p (off p k r) ((56 * t:Nat):Int)).getD default)=false) ↔
   ((cq ((dp p l (off p k r) (bm (off p k r)) (aR p (wr .u8 (1 - p.aa)) 6) k gk m1).getD default)=false)∧(cq ((dz p l (off p k r) (bm (off p k r)) (aR p (wr .u8 (1 - p.aa)) 6) k gk r gr m2).getD default)=false)∧(cq ((dv p l (off p k r) (bm (off p k r)) (aR p (wr .u8 (1 - p.aa)) 6) k gk r gr k gk m1).getD default)=false)):=by
  rw [a0,a1,a2,a3]
  have safe:∀ s:Nat,s < 64→((p.variant==3&&(cV s&&&aR p (wr .u8 (1 - p.aa)) 6 != 0#64)) || (nY (off p k r) s (wr .u8 (1 - p.aa))==0#64))=tO (off p k r) s:=fun s hs=>by
   rw [(Ea hq hqt hs).2,w1,show (off p k r).aa=p.aa from rfl,hof]
   rfl
  constructor
  ·intro h
   refine ⟨fun s b1 b2 => ?_,fun s b1 b2 => ?_,fun s b1 b2 => ?_⟩
   ·have hs:=h s (by omega) (by omega)
    have w:fK s k (((56 * t:Nat):Int)+x)=true:=(oR _ _ _).2 (by omega)
    rw [w] at hs
    simp only [Bool.true_or,Bool.true_and,Bool.or_eq_false_iff,bne_eq_false_iff_eq] at hs
    exact (yY hq (by omega)).2 hs.1
   ·have hs:=h s (by omega) (by omega)
    have w:fK s r (((56 * t:Nat):Int)+y)=true:=(oR _ _ _).2 (by omega)
    rw [w] at hs
    simp only [Bool.or_true,Bool.true_and,Bool.or_eq_false_iff,bne_eq_false_iff_eq] at hs
    exact (yY hq (by omega)).2 hs.1
   ·have hs:=h s (by omega) (by omega)
    have w:fK s k (((56 * t:Nat):Int)+x)=true:=(oR _ _ _).2 (by omega)
    rw [w] at hs
    simp only [Bool.true_or,Bool.true_and,Bool.or_eq_false_iff,Bool.not_eq_false'] at hs
    rw [safe s (by omega)]
    exact hs.2
  ·rintro ⟨c1,c2,c3⟩ s b1 b2
   cases w:fK s k (((56 * t:Nat):Int)+x) with
   | true =>
    have hw:=(oR _ _ _).1 w
    have d1:=c1 s (by omega) (by omega)
    have d3:=c3 s (by omega) (by omega)
    rw [safe s (by omega)] at d3
    rw [(yY hq (by omega)).1 d1,d3]
    simp
   | false =>
    cases w':fK s r (((56 * t:Nat):Int)+y) with
    | true =>
     have hw:=(oR _ _ _).1 w'
     have d2:=c2 s (by omega) (by omega)
     rw [(yY hq (by omega)).1 d2]
     simp
    | false=>simp
 revert key
 generalize cq ((cB ((56 * t:Nat):Int) k r x y p (off p k r) ((56 * t:Nat):Int)).getD default)=A
 generalize cq ((dp p l (off p k r) (bm (off p k r)) (aR p (wr .u8 (1 - p.aa)) 6) k gk m1).getD default)=B
 generalize cq ((dz p l (off p k r) (bm (off p k r)) (aR p (wr .u8 (1 - p.aa)) 6) k gk r gr m2).getD default)=C
 generalize cq ((dv p l (off p k r) (bm (off p k r)) (aR p (wr .u8 (1 - p.aa)) 6) k gk r gr k gk m1).getD default)=D
 cases A <;> cases B <;> cases C <;> cases D <;> simp
theorem IS {c:Int} (hc:c=0∨c=1) {t k:Nat} (ht:t≤1) (hpt:p.aa=t) (hv:uQ p.variant=true) (hk:bb p p.aa 6=k) (hkt:dc p.aa 6 (p.ae.getD k 0)=true) (k0:56 * t≤k) (k7:k≤56 * t+7) :
  lq p c=true∧∃ r:Int,ft p c=(bif (cZ p k c).2 then ((k:Int),r,true) else (0,0,false))∧((cZ p k c).2=true→(cZ p k c).1=⟨wr .i8 k,wr .i8 r,0,0,true⟩):=by
 have htt:p.aa=0∨p.aa=1:=by omega
 obtain ⟨o129,e129⟩:=sV hp (c:=p.aa) (k:=6) htt (by omega) (by omega)
 rw [hk] at e129
 have hvar:BY p.variant=true:=by
  have v0:=hp.v0
  have v1:=hp.v1
  obtain ⟨n,hn⟩:=Int.eq_ofNat_of_zero_le v0
  have:=Ac ⟨n,by omega⟩
  rw [hn] at hv ⊢
  exact this.trans hv
 have hf:=fB hp.r0 (d:=0) (by omega) (scale 2 p.aa+scale 1 c).toNat
 obtain ⟨x,y,hx,hy,n1,n2,g1,g2⟩:∃ x y:Nat,x≤7∧y≤7∧(dD c).1=x∧(dD c).2=y∧(List.take 2 (List.drop (c.toNat * 2) (li [6,5,2,3]))).getD 0 0=x∧(List.take 2 (List.drop (c.toNat * 2) (li [6,5,2,3]))).getD 1 0=y:=by
  rcases hc with rfl | rfl
  ·exact ⟨6,5,by omega,by omega,rfl,rfl,rfl,rfl⟩
  ·exact ⟨2,3,by omega,by omega,rfl,rfl,rfl,rfl⟩
 have d1:decide (p.aa > 1)=false:=by simp; omega
 have wt:wr .i64 p.aa=t:=by rw [aI (by omega) (by omega)]; exact hpt
 have w56:wr .i64 (56 * (t:Int))=((56 * t:Nat):Int):=by rw [aI (by omega) (by omega)]; omega
 have w63:wr .i64 (((56 * t:Nat):Int)+7)=((56 * t+7:Nat):Int):=by rw [aI (by omega) (by omega)]; omega
 have n110:cp p.aa=((56 * t:Nat):Int):=by unfold cp; rw [wt,w56]
 have b1:(decide (0≤p.aa)&&decide (p.aa < Int.ofNat 2))=true:=by simp; omega
 have b2:(decide (0≤c)&&decide (c < Int.ofNat 2))=true:=by simp; omega
 have c1:decide ((k:Int) < ((56 * t:Nat):Int))=false:=by simp; omega
 have c2:decide ((k:Int) > ((56 * t+7:Nat):Int))=false:=by simp; omega
 unfold lq ft
 rw [d1,hvar,o129,e129,wt,w56,w63,b1,b2,c1,c2]
 generalize hF:p.ai.getD (scale 2 p.aa+scale 1 c).toNat 0=f at hf
 rw [aI (n:=f) (by omega) (by omega)]
 simp only [cond_false,Bool.not_true,Bool.true_and]
 have no:(cr p k c).2=false→cZ p k c=(⟨0,0,0,0,false⟩,false):=fun h=>by unfold cZ; rw [h]; rfl
 have none:cZ p k c=(⟨0,0,0,0,false⟩,false)→∃ r:Int,((0:Int),(0:Int),false)=(bif (cZ p k c).2 then ((k:Int),r,true) else (0,0,false))∧((cZ p k c).2=true→(cZ p k c).1=⟨wr .i8 k,wr .i8 r,0,0,true⟩):=fun h=>⟨0,by rw [h]; exact ⟨rfl,fun h=>by cases h⟩⟩
 by_cases f0:f < 0
 ·rw [decide_eq_true f0]
  refine ⟨rfl,none (no ?_)⟩
  unfold cr
  rw [hF,aI (n:=f) (by omega) (by omega),decide_eq_true f0]
  rfl
 by_cases f7:f > 7
 ·rw [decide_eq_false f0,decide_eq_true f7]
  refine ⟨rfl,none (no ?_)⟩
  unfold cr
  rw [hF,aI (n:=f) (by omega) (by omega),decide_eq_false f0,decide_eq_true f7]
  rfl
 obtain ⟨n,rfl⟩:=Int.eq_ofNat_of_zero_le (show 0≤f by omega)
 have wr_:wr .i64 (((56 * t:Nat):Int)+(n:Int))=((56 * t+n:Nat):Int):=by rw [aI (by omega) (by omega)]; omega
 rw [decide_eq_false f0,decide_eq_false f7,wr_]
 simp only [cond_false]
 obtain ⟨r,hr⟩:∃ r,r=56 * t+n:=⟨_,rfl⟩
 rw [← hr] at wr_ ⊢
 obtain ⟨o172,e172⟩:=jN hp (c:=p.aa) (k:=4) htt (by omega) (by omega) (show r < 64 by omega)
 obtain ⟨v0,v1⟩:=ei hp r
 have hv4:dc p.aa 4 (p.ae.getD r 0)=(p.ae.getD r 0==wr .u8 (wr .u8 (8 * p.aa)+4))∧(dc p.aa 4 (p.ae.getD r 0)=true→dc p.aa 6 (p.ae.getD r 0)=false∧dc (1 - p.aa) 6 (p.ae.getD r 0)=false):=by
  obtain ⟨m,hm⟩:=Int.eq_ofNat_of_zero_le v0
  have h:=sj ⟨t,by omega⟩ ⟨m,by omega⟩
  simp only at h
  rw [hm,hpt,oZ (n:=8 * (t:Int)) (by omega) (by omega),oZ (n:=8 * (t:Int)+4) (by omega) (by omega)]
  exact ⟨h.1,h.2.1⟩
 have hk6:dc (1 - p.aa) 6 (p.ae.getD k 0)=false:=by
  obtain ⟨u0,u1⟩:=ei hp k
  obtain ⟨m,hm⟩:=Int.eq_ofNat_of_zero_le u0
  have h:=sj ⟨t,by omega⟩ ⟨m,by omega⟩
  simp only at h
  rw [hm,hpt] at hkt ⊢
  exact h.2.2 hkt
 have e160:cr p k c=(bif dc p.aa 4 (p.ae.getD r 0) then (bif (decide ((r:Int) > k)==(c==0)) then ((r:Int),(r:Int) != k) else ((r:Int),false)) else ((r:Int),false)):=by
  have hsc:(scale 1 (r:Int)).toNat=r:=by unfold scale; simp
  unfold cr
  rw [hF,aI (n:=(n:Int)) (by omega) (by omega),decide_eq_false f0,decide_eq_false f7,n110,wr_,hsc,hv4.1]
  rfl
 rw [o172,e172]
 cases h4:dc p.aa 4 (p.ae.getD r 0) with
 | false =>
  rw [h4] at e160
  exact ⟨rfl,none (no (by rw [e160]; rfl))⟩
 | true =>
  rw [h4] at e160
  obtain ⟨h46,h46'⟩:=hv4.2 h4
  have hne:r≠k:=fun e=>by rw [e,hkt] at h46; cases h46
  simp only [cond_true,Bool.not_true,cond_false,Bool.true_and] at e160 ⊢
  have hL:=ways hp ht hpt k0 k7 (r:=r) (x:=x) (y:=y) (by omega) (by omega) hx hy (List.take 2 (List.drop (c.toNat * 2) (li [6,5,2,3]))) hk6 h46' (gk:=((56 * t+x:Nat):Int)) (gr:=((56 * t+y:Nat):Int)) rfl rfl rfl rfl
  have fin:cr p k c=((r:Int),true)→∀ (A:Bool),A=cq ((cB ((56 * t:Nat):Int) k r x y p (off p k r) ((56 * t:Nat):Int)).getD default)→∃ r':Int,(bif A then ((0:Int),(0:Int),false) else ((k:Int),(r:Int),true))=(bif (cZ p k c).2 then ((k:Int),r',true) else (0,0,false))∧((cZ p k c).2=true→(cZ p k c).1=⟨wr .i8 k,wr .i8 r',0,0,true⟩):=by
   intro e A hA
   refine ⟨r,?_⟩
   rw [hL.2] at hA
   have wg:∀ z:Nat,z≤7→wr .i64 (((56 * t:Nat):Int)+(z:Int))=((56 * t+z:Nat):Int):=fun z hz=>by rw [aI (by omega) (by omega)]; omega
   unfold cZ
   rw [e,n110,g1,g2,wg x hx,wg y hy]
   rw [hA]
   show (bif _ || (_ || _) then _ else _)=_∧_
   simp only [Bool.not_true,cond_false]
   change (bif (cq ((dp p _ (off p k r) (bm (off p k r)) _ k _ _).getD default) || (cq ((dz p _ (off p k r) (bm (off p k r)) _ k _ r _ _).getD default) || cq ((dv p _ (off p k r) (bm (off p k r)) _ k _ r _ k _ _).getD default))) then _ else _)=(bif (bif cq ((dp p _ (off p k r) (bm (off p k r)) _ k _ _).getD default) then _ else bif cq ((dz p _ (off p k r) (bm (off p k r)) _ k _ r _ _).getD default) then _ else bif cq ((dv p _ (off p k r) (bm (off p k r)) _ k _ r _ k _ _).getD default) then _ else _:Mv×Bool).2 then _ else _)∧((bif cq ((dp p _ (off p k r) (bm (off p k r)) _ k _ _).getD default) then _ else bif cq ((dz p _ (off p k r) (bm (off p k r)) _ k _ r _ _).getD default) then _ else bif cq ((dv p _ (off p k r) (bm (off p k r)) _ k _ r _ k _ _).getD default) then _ else _:Mv×Bool).2=true→(bif cq ((dp p _ (off p k r) (bm (off p k r)) _ k _ _).getD default) then _ else bif cq ((dz p _ (off p k r) (bm (off p k r)) _ k _ r _ _).getD default) then _ else bif cq ((dv p _ (off p k r) (bm (off p k r)) _ k _ r _ k _ _).getD default) then _ else _:Mv×Bool).1=_)
   generalize cq ((dp p _ (off p k r) (bm (off p k r)) _ k _ _).getD default)=B
   generalize cq ((dz p _ (off p k r) (bm (off p k r)) _ k _ r _ _).getD default)=C
   generalize cq ((dv p _ (off p k r) (bm (off p k r)) _ k _ r _ k _ _).getD default)=D
   cases B <;> cases C <;> cases D <;> exact ⟨rfl,fun h=>by first | (cases h; done) | rfl⟩
  have kl:(decide (0≤(k:Int))&&decide ((k:Int) < Int.ofNat 64))=true:=by simp; omega
  have rl:(decide (0≤(r:Int))&&decide ((r:Int) < Int.ofNat 64))=true:=by simp; omega
  have hS:=hL.1
  rw [n1,n2]
  have hPS:(cB ((56 * t:Nat):Int) k r x y p (Pos.mk p.variant ((p.ae.set (scale 1 (k:Int)).toNat 0).set (scale 1 (r:Int)).toNat 0) p.ab p.af p.aa p.ai p.ah p.ag p.half p.full) ((56 * t:Nat):Int)).isSome=true:=hS
  rcases hc with rfl | rfl
  ·by_cases hlt:(r:Int) < k
   ·rw [decide_eq_true hlt]
    refine ⟨rfl,none (no ?_)⟩
    rw [e160,decide_eq_false (by omega)]
    rfl
   ·rw [decide_eq_false hlt,kl,rl,hPS]
    simp only [show ((0:Int)==0)=true from rfl,show ((0:Int)==1)=false from rfl,cond_true,cond_false,Bool.true_and]
    refine ⟨?_,fin ?_ _ rfl⟩
    ·exact aq (fun _=>rfl) fun _=>rfl
    ·rw [e160,decide_eq_true (by omega),show ((r:Int) != k)=true by simp; omega]
     rfl
  ·by_cases hgt:(r:Int) > k
   ·rw [decide_eq_true hgt]
    refine ⟨rfl,none (no ?_)⟩
    rw [e160,decide_eq_true hgt]
    rfl
   ·rw [decide_eq_false hgt,kl,rl,hPS]
    simp only [show ((1:Int)==0)=false from rfl,show ((1:Int)==1)=true from rfl,cond_true,cond_false,Bool.true_and]
    refine ⟨?_,fin ?_ _ rfl⟩
    ·exact aq (fun _=>rfl) fun _=>rfl
    ·rw [e160,decide_eq_false hgt,show ((r:Int) != k)=true by simp; omega]
     rfl
omit hp in
theorem Ju (h:∀ c:Int,c=0∨c=1→lq p c=true):BG p=true∧JD p=(bif (ft p 1).2.2 then [⟨wr .i8 (ft p 1).1,wr .i8 (ft p 1).2.1,0,0,true⟩] else [])++(bif (ft p 0).2.2 then [⟨wr .i8 (ft p 0).1,wr .i8 (ft p 0).2.1,0,0,true⟩] else []):=by
 have h1:=h 1 (.inr rfl)
 have h0:=h 0 (.inl rfl)
 have e:∀ l:List Mv,l.length≤5→∀ c:Int,c=0∨c=1→(bif rm p 0 (l,c) then xR p 0 (l,c) else .bad)=.go (l++(bif (ft p c).2.2 then [⟨wr .i8 (ft p c).1,wr .i8 (ft p c).2.1,0,0,true⟩] else []),c - 1):=by
  intro l hl c hc
  unfold rm xR
  dsimp only
  rw [h c hc,decide_eq_true (show c ≥ 0 by omega),aI (n:=c - 1) (by omega) (by omega)]
  have:decide (l.length+1≤1073741824)=true:=decide_eq_true (by omega)
  rw [this]
  cases (ft p c).2.2 <;> simp
 have hlp:cP (fun x=>bif rm p 0 x then xR p 0 x else .bad) 3 ([],1)=some (([]++(bif (ft p 1).2.2 then [⟨wr .i8 (ft p 1).1,wr .i8 (ft p 1).2.1,0,0,true⟩] else []))++(bif (ft p 0).2.2 then [⟨wr .i8 (ft p 0).1,wr .i8 (ft p 0).2.1,0,0,true⟩] else []),-1,false):=by
  rw [cP]
  try dsimp only
  rw [e [] (by simp) 1 (.inr rfl)]
  try dsimp only
  rw [cP]
  try dsimp only
  rw [show (1:Int) - 1=0 from rfl,e _ (by cases (ft p 1).2.2 <;> simp) 0 (.inl rfl)]
  rfl
 have hm:=jw 3 many _ _ (by unfold many; omega) hlp
 unfold BG JD su
 rw [hm]
 exact ⟨rfl,by simp⟩
theorem UP:BG p=true∧JD p=dZ p:=by
 have none:(∀ c:Int,c=0∨c=1→lq p c=true∧ft p c=(0,0,false))→dZ p=[]→BG p=true∧JD p=dZ p:=fun h h5=>by
  obtain ⟨h1,h2⟩:=Ju (p:=p) fun c hc=>(h c hc).1
  refine ⟨h1,?_⟩
  rw [h2,h5,(h 0 (.inl rfl)).2,(h 1 (.inr rfl)).2]
  rfl
 have t0:=hp.t0
 by_cases ht:1 < p.aa
 ·have d1:decide (p.aa > 1)=true:=by simp; omega
  refine none (fun c hc => ?_) ?_
  ·unfold lq ft; rw [d1]; exact ⟨rfl,rfl⟩
  ·unfold dZ; rw [d1]; rfl
 have d1:decide (p.aa > 1)=false:=by simp; omega
 have hvar:BY p.variant=uQ p.variant:=by
  have v0:=hp.v0
  have v1:=hp.v1
  obtain ⟨n,hn⟩:=Int.eq_ofNat_of_zero_le v0
  rw [hn]
  exact Ac ⟨n,by omega⟩
 cases hv:uQ p.variant with
 | false =>
  refine none (fun c hc => ?_) ?_
  ·unfold lq ft; rw [d1,hvar,hv]; exact ⟨rfl,rfl⟩
  ·unfold dZ; rw [d1,hv]; rfl
 | true =>
  have htt:p.aa=0∨p.aa=1:=by omega
  obtain ⟨t,hpt⟩:=Int.eq_ofNat_of_zero_le t0
  have ht1:t≤1:=by omega
  obtain ⟨o129,e129⟩:=sV hp (c:=p.aa) (k:=6) htt (by omega) (by omega)
  have wt:wr .i64 p.aa=t:=by rw [aI (by omega) (by omega)]; exact hpt
  have w56:wr .i64 (56 * (t:Int))=((56 * t:Nat):Int):=by rw [aI (by omega) (by omega)]; omega
  have w63:wr .i64 (((56 * t:Nat):Int)+7)=((56 * t+7:Nat):Int):=by rw [aI (by omega) (by omega)]; omega
  have b1:(decide (0≤p.aa)&&decide (p.aa < Int.ofNat 2))=true:=by simp; omega
  have away:bb p p.aa 6 < 56 * t∨bb p p.aa 6 > 56 * t+7→∀ c:Int,c=0∨c=1→lq p c=true∧ft p c=(0,0,false):=fun h c hc=>by
   have b2:(decide (0≤c)&&decide (c < Int.ofNat 2))=true:=by simp; omega
   unfold lq ft
   rw [d1,hvar,hv,o129,e129,wt,w56,w63,b1,b2]
   rcases h with h | h
   ·rw [decide_eq_true (show bb p p.aa 6 < ((56 * t:Nat):Int) by omega)]
    exact ⟨rfl,rfl⟩
   ·rw [decide_eq_false (show ¬ bb p p.aa 6 < ((56 * t:Nat):Int) by omega),decide_eq_true (show bb p p.aa 6 > ((56 * t+7:Nat):Int) by omega)]
    exact ⟨rfl,rfl⟩
  have n110:cp p.aa=((56 * t:Nat):Int):=by unfold cp; rw [wt,w56]
  rcases iy p p.aa 6 with ⟨a1,_⟩ | ⟨k,hk,a1,a2,_⟩
  ·refine none (away (by omega)) ?_
   unfold dZ
   rw [d1,hv,a1]
   rfl
  ·have n55:∀ b:Bool,(wr .i64 ((k:Int).tdiv 8) != wr .i64 ((((56 * t:Nat)):Int).tdiv 8))=b→b=!(decide (56 * t≤k)&&decide (k≤56 * t+7)):=fun b hb=>by
    rw [← hb,Int.tdiv_eq_ediv_of_nonneg (by omega),Int.tdiv_eq_ediv_of_nonneg (by omega),aI (by omega) (by omega),aI (by omega) (by omega),Bool.eq_iff_iff]
    simp
    omega
   have d0:decide ((k:Int) < 0)=false:=by simp
   by_cases hin:56 * t≤k∧k≤56 * t+7
   ·have hb:=n55 _ rfl
    rw [decide_eq_true hin.1,decide_eq_true hin.2] at hb
    have one:∀ {c:Int},c=0∨c=1→_:=fun {c} (hc:c=0∨c=1)=>IS hp hc ht1 hpt hv a1 a2 hin.1 hin.2
    obtain ⟨h1,h2⟩:=Ju (p:=p) fun c hc=>(one hc).1
    refine ⟨h1,?_⟩
    obtain ⟨_,r0,q0,m0⟩:=one (c:=0) (.inl rfl)
    obtain ⟨_,r1,q1,m1⟩:=one (c:=1) (.inr rfl)
    rw [h2,q0,q1]
    unfold dZ
    rw [d1,hv,a1,d0,n110,hb]
    cases h3:(cZ p k 1).2 <;> cases h4:(cZ p k 0).2
    ·rfl
    ·rw [m0 h4]; rfl
    ·rw [m1 h3]; rfl
    ·rw [m0 h4,m1 h3]; rfl
   ·refine none (away (by omega)) ?_
    have hb:=n55 _ rfl
    have:(decide (56 * t≤k)&&decide (k≤56 * t+7))=false:=by
     rw [Bool.and_eq_false_iff,decide_eq_false_iff_not,decide_eq_false_iff_not]
     omega
    rw [this] at hb
    unfold dZ
    rw [d1,hv,a1,d0,n110,hb]
    rfl
end
end Kz
end
noncomputable section
namespace Kz
open Go Go.RowKit
set_option maxRecDepth 100000
set_option maxHeartbeats 2000000
set_option linter.unusedSectionVars false
theorem gv {p:Pos} (hp:aG p) (ht:p.aa≤1):∃ t:Nat,p.aa=t∧t≤1:=by
 have t0:=hp.t0
 obtain ⟨t,h⟩:=Int.eq_ofNat_of_zero_le t0
 exact ⟨t,h,by omega⟩
theorem n140 {t:Nat} (ht:t≤1):cp (t:Int)=((56 * t:Nat):Int):=by
 rw [oJ (by omega) (by omega)]; omega
theorem F8 {p:Pos} (hp:aG p) {t:Nat} (hpt:p.aa=t) (ht:t≤1) {b c:Int}:(cr p b c).2=true→∃ f:Nat,f≤7∧(cr p b c).1=((56 * t+f:Nat):Int)∧((56 * t+f:Nat):Int)≠b:=by
 have hr:=fB (d:=0) hp.r0 (by omega) (scale 2 p.aa+scale 1 c).toNat
 unfold cr
 rw [hpt] at hr ⊢
 rw [n140 ht]
 generalize p.ai.getD (scale 2 (t:Int)+scale 1 c).toNat 0=f at hr ⊢
 rw [aI (n:=f) (by omega) (by omega),aI (n:=((56 * t:Nat):Int)+f) (by omega) (by omega)]
 refine au (P:=fun x:Int×Bool=>x.2=true→∃ f:Nat,f≤7∧x.1=((56 * t+f:Nat):Int)∧((56 * t+f:Nat):Int)≠b) (fun _ h=>by cases h) fun h1=>au (P:=fun x:Int×Bool=>x.2=true→∃ f:Nat,f≤7∧x.1=((56 * t+f:Nat):Int)∧((56 * t+f:Nat):Int)≠b) (fun _ h=>by cases h) fun h2=>au (P:=fun x:Int×Bool=>x.2=true→∃ f:Nat,f≤7∧x.1=((56 * t+f:Nat):Int)∧((56 * t+f:Nat):Int)≠b) (fun _ => ?_) fun _ h=>by cases h
 have h1:¬ f < 0:=by simpa using h1
 have h2:¬ f > 7:=by simpa using h2
 refine au (P:=fun x:Int×Bool=>x.2=true→∃ f:Nat,f≤7∧x.1=((56 * t+f:Nat):Int)∧((56 * t+f:Nat):Int)≠b) (fun _ h => ?_) fun _ h=>by cases h
 have h:(((56 * t:Nat):Int)+f != b)=true:=h
 rw [bne_iff_ne] at h
 exact ⟨f.toNat,by omega,by show ((56 * t:Nat):Int)+f=_; omega,by omega⟩
theorem ql {p:Pos} (hp:aG p) {t:Nat} (hpt:p.aa=t) (ht:t≤1) {m:Mv} (h:m ∈ dZ p):∃ k r:Nat,m.aw=k∧m.to=r∧56 * t≤k∧k≤56 * t+7∧56 * t≤r∧r≤56 * t+7∧k≠r:=by
 revert h
 unfold dZ
 have hk:=gQ p p.aa 6
 have ht1:p.aa≤1:=by omega
 refine au (P:=fun l:List Mv=>m ∈ l→_) (fun _ h=>by cases h) fun _ => ?_
 refine au (P:=fun l:List Mv=>m ∈ l→_) (fun _ h=>by cases h) fun _=>au (P:=fun l:List Mv=>m ∈ l→_) (fun _ h=>by cases h) fun hk0=>au (P:=fun l:List Mv=>m ∈ l→_) (fun _ h=>by cases h) fun hh => ?_
 have hk0:0≤bb p p.aa 6:=by simpa using hk0
 rw [hpt,n140 ht] at hh
 rw [← hpt] at hh
 obtain ⟨k,hk'⟩:=Int.eq_ofNat_of_zero_le hk0
 rw [hk',Int.tdiv_eq_ediv_of_nonneg (by omega),Int.tdiv_eq_ediv_of_nonneg (by omega),aI (by omega) (by omega),aI (by omega) (by omega),bne_eq_false_iff_eq] at hh
 have key:∀ c,(cZ p (bb p p.aa 6) c).2=true→m=(cZ p (bb p p.aa 6) c).1→∃ k r:Nat,m.aw=k∧m.to=r∧56 * t≤k∧k≤56 * t+7∧56 * t≤r∧r≤56 * t+7∧k≠r:=by
  intro c h1 h2
  obtain ⟨a1,_,_,_,_,_,a7,a8⟩:=so hp ht1 hk0 hk.2 h1
  obtain ⟨f,f7,e1,e2⟩:=F8 hp hpt ht a8
  rw [← h2] at a1 a7
  rw [a7,e1]
  exact ⟨k,56 * t+f,by rw [a1,hk'],rfl,by omega,by omega,by omega,by omega,by omega⟩
 refine au (P:=fun l:List Mv=>m ∈ l→_) (fun h1=>au (P:=fun l:List Mv=>m ∈ l→_) (fun h2 h => ?_) fun _ h => ?_) fun _=>au (P:=fun l:List Mv=>m ∈ l→_) (fun h2 h => ?_) fun _ h=>by cases h
 ·simp only [List.nil_append,List.mem_append,List.mem_singleton] at h
  rcases h with h | h
  ·exact key _ h1 h
  ·exact key _ h2 h
 ·simp only [List.nil_append,List.mem_singleton] at h
  exact key _ h1 h
 ·simp only [List.nil_append,List.mem_singleton] at h
  exact key _ h2 h
theorem yK {p:Pos} {t:Nat} (hpt:p.aa=t) (ht:t≤1) {m:Mv} (hc:m.bq=true) {k r:Nat} (hk:m.aw=k) (hr:m.to=r) (k0:56 * t≤k) (k7:k≤56 * t+7) (r0:56 * t≤r) (r7:r≤56 * t+7) (hkr:k≠r) :
  (fV p m).1=wr .i64 (wr .i64 (56 * wr .i64 p.aa)+(dD (qg p m)).1)∧(fV p m).2.1=wr .i64 (wr .i64 (56 * wr .i64 p.aa)+(dD (qg p m)).2)∧0≤(fV p m).1∧(fV p m).1 < 64∧0≤(fV p m).2.1∧(fV p m).2.1 < 64:=by
 have tw:wr .i64 (t:Int)=t:=aI (by omega) (by omega)
 have hb:=Dc (p:=p) (by omega) (by omega) m
 have e145:gu p m=if r > k then 0 else 1:=by
  unfold gu
  rw [hpt,hc,hk,hr,n140 ht,aI (n:=(k:Int)) (by omega) (by omega),aI (n:=(r:Int)) (by omega) (by omega),aI (n:=(k:Int) - ((56 * t:Nat):Int)) (by omega) (by omega),aI (n:=(r:Int) - ((56 * t:Nat):Int)) (by omega) (by omega),
   decide_eq_false (show ¬ ((t:Int) > 1) by omega),beq_eq_false_iff_ne.2 (show (k:Int)≠r by omega),decide_eq_false (show ¬ ((k:Int) - ((56 * t:Nat):Int) < 0) by omega),decide_eq_false (show ¬ ((k:Int) - ((56 * t:Nat):Int) > 7) by omega),decide_eq_false (show ¬ ((r:Int) - ((56 * t:Nat):Int) < 0) by omega),decide_eq_false (show ¬ ((r:Int) - ((56 * t:Nat):Int) > 7) by omega)]
  by_cases h:r > k
  ·rw [if_pos h,decide_eq_true (show (r:Int) > k by omega)]; rfl
  ·rw [if_neg h,decide_eq_false (show ¬ (r:Int) > k by omega)]; rfl
 have e164:qg p m=if r > k then 0 else 1:=by
  have d1:(wr .i8 ((k:Int).tdiv 8) != wr .i8 (wr .u8 (7 * (t:Int))))=false:=by
   rw [Int.tdiv_eq_ediv_of_nonneg (by omega),Ga (by omega) (by omega),oZ (by omega) (by omega),Ga (by omega) (by omega),bne_eq_false_iff_eq]
   omega
  have d2:(wr .i8 ((r:Int).tdiv 8) != wr .i8 (wr .u8 (7 * (t:Int))))=false:=by
   rw [Int.tdiv_eq_ediv_of_nonneg (by omega),Ga (by omega) (by omega),oZ (by omega) (by omega),Ga (by omega) (by omega),bne_eq_false_iff_eq]
   omega
  unfold qg
  rw [hpt,hc,hk,hr,d1,d2,decide_eq_false (show ¬ ((t:Int) > 1) by omega),beq_eq_false_iff_ne.2 (show (k:Int)≠r by omega),decide_eq_false (show ¬ ((k:Int) < 0) by omega),decide_eq_false (show ¬ ((k:Int) > 63) by omega),decide_eq_false (show ¬ ((r:Int) < 0) by omega),decide_eq_false (show ¬ ((r:Int) > 63) by omega)]
  by_cases h:r > k
  ·rw [if_pos h,decide_eq_true (show (r:Int) > k by omega)]; rfl
  ·rw [if_neg h,decide_eq_false (show ¬ (r:Int) > k by omega)]; rfl
 have e':gu ⟨p.variant,p.ae,p.ab,p.af,p.aa,p.ai,p.ah,p.ag,p.half,p.full⟩ ⟨m.aw,m.to,m.aM,m.aD,m.bq⟩=gu p m:=rfl
 have two:∀ s:Int,s=0∨s=1→gu p m=s→(fV p m).1=wr .i64 (wr .i64 (56 * wr .i64 p.aa)+(dD s).1)∧(fV p m).2.1=wr .i64 (wr .i64 (56 * wr .i64 p.aa)+(dD s).2):=by
  intro s hs e
  unfold fV
  rw [e',e,hpt,n140 ht]
  rcases hs with rfl | rfl <;> rcases (show t=0∨t=1 by omega) with rfl | rfl <;> exact ⟨by decide,by decide⟩
 obtain ⟨h1,h2⟩:=two (if r > k then 0 else 1) (by split <;> simp) e145
 rw [e164]
 exact ⟨h1,h2,hb⟩
theorem wA {t:Nat} (ht:t≤1) {k:Int} (k1:1≤k) (k6:k≤6):jW (t:Int) k=wr .u8 (wr .u8 (8 * (t:Int))+k):=by
 unfold jW
 rw [decide_eq_false (show ¬ ((t:Int) > 1) by omega),decide_eq_false (show ¬ (k < 1) by omega),decide_eq_false (show ¬ (k > 6) by omega)]
 rfl
theorem Al {p:Pos} (hp:aG p) {m:Mv} (h:m ∈ mG p):(p.af.getD (scale 6 p.aa+scale 1 m.aD).toNat 0==0)=false∧p.variant=2:=by
 rw [ri hp.t0] at h
 revert h
 refine au (P:=fun l:List Mv=>m ∈ l→_) (fun _ h=>by cases h) fun _=>au (P:=fun l:List Mv=>m ∈ l→_) (fun _ h=>by cases h) fun hv h => ?_
 obtain ⟨k,_,h⟩:=List.mem_flatMap.1 h
 have v2:p.variant=2:=by
  have v0:=hp.v0
  have v1:=hp.v1
  obtain ⟨n,hn⟩:=Int.eq_ofNat_of_zero_le v0
  have:∀ v:Fin 256,qP v.val=true→v.val=2:=by decide +kernel
  have hv:qP p.variant=true:=by simpa using hv
  rw [hn] at hv
  have:=this ⟨n,by omega⟩ hv
  simp only at this
  omega
 refine ⟨?_,v2⟩
 have hd:m.aD=k:=by
  revert h
  unfold eM
  refine au (P:=fun l:List Mv=>m ∈ l→_) (fun _ h=>by cases h) fun _=>au (P:=fun l:List Mv=>m ∈ l→_) (fun _ h => ?_) fun _ h => ?_
  ·obtain ⟨s,_,h⟩:=List.mem_flatMap.1 h; simp at h; rw [h]
  ·obtain ⟨s,_,h⟩:=List.mem_flatMap.1 h; simp at h; rw [h]
 rw [hd]
 unfold eM at h
 cases hc:p.af.getD (scale 6 p.aa+scale 1 k).toNat 0==0 with
 | false=>rfl
 | true=>rw [hc] at h; cases h
theorem RH {p:Pos} (hp:aG p) {m:Mv} (hm:m ∈ cy p):yq p m (aA p m)=true∧Ay p m (aA p m)=bL p m p p m (aA p m):=by
 obtain ⟨hth,f0,f1,o0,o1,_,_,pr0,pr6⟩:=iN hp hm
 obtain ⟨t,hpt,ht⟩:=gv hp hth.1
 have ht39:=xE hp m
 have if1:=B3 f0 f1
 have it1:=B3 o0 o1
 rw [nj] at hm
 have body:m.aD=0→m.bq=false→yq p m (aA p m)=true∧Ay p m (aA p m)=bL p m p p m (aA p m):=by
  intro hd hc
  have e93:(m.aM != 0)=true→wr .u8 (wr .u8 (8 * p.aa)+m.aM)=jW p.aa m.aM:=fun h=>by
   rw [bne_iff_ne] at h
   rw [hpt,wA ht (by omega) pr6]
  unfold yq Ay bL
  rw [hc,hd,if1,it1]
  simp only [cond_false,Bool.true_and,show ((0:Int) != 0)=false from rfl]
  constructor
  ·refine aq (fun h => ?_) fun _ => ?_
   ·have h:aA p m ≥ 0:=by simpa using h
    rw [B3 h ht39.2]
    simp only [Bool.true_and]
    exact aq (fun _=>rfl) fun _=>rfl
   ·exact aq (fun _=>rfl) fun _=>rfl
  ·cases qp:m.aM != 0 with
   | false=>rfl
   | true=>rw [e93 qp]
 rcases List.mem_append.1 hm with hm | hm
 ·rcases List.mem_append.1 hm with hm | hm
  ·obtain ⟨_,f,g,_,_,_,_,hd,hc,_⟩:=gp hp.v0 hm
   exact body hd hc
  ·obtain ⟨_,_,_,_,_,hc,hd,_⟩:=td hp hm
   obtain ⟨k,r,hk,hr,k0,k7,r0,r7,hkr⟩:=ql hp hpt ht hm
   obtain ⟨g1,g2,g3,g4,g5,g6⟩:=yK hpt ht hc hk hr k0 k7 r0 r7 hkr
   unfold yq Ay bL
   rw [hc,if1,it1,← g1,← g2,B3 g3 g4,B3 g5 g6]
   exact ⟨rfl,rfl⟩
 ·obtain ⟨_,_,_,_,_,hc,d1,d5,_⟩:=kN hp.t0 hm
  obtain ⟨pk,_⟩:=Al hp hm
  have e147:qM p.aa m.aD=true:=by
   unfold qM
   rw [decide_eq_true (show p.aa≤1 by omega),decide_eq_true (show m.aD ≥ 1 by omega),decide_eq_true (show m.aD≤5 by omega)]
   rfl
  have e92:jj p p.aa m.aD=(⟨p.variant,p.ae,p.ab,p.af.set (scale 6 p.aa+scale 1 m.aD).toNat (wr .u8 (p.af.getD (scale 6 p.aa+scale 1 m.aD).toNat 0 - 1)),p.aa,p.ai,p.ah,p.ag,p.half,p.full⟩,true):=by
   unfold jj
   rw [e147,pk]
   rfl
  have hd:(m.aD != 0)=true:=by rw [bne_iff_ne]; omega
  have i2:(decide (0≤p.aa)&&decide (p.aa < Int.ofNat 2))=true:=by simp; omega
  have i6:(decide (0≤m.aD)&&decide (m.aD < Int.ofNat 6))=true:=by simp; omega
  unfold yq Ay bL
  rw [hc,if1,it1,hd,e92,i2,i6]
  refine ⟨rfl,?_⟩
  simp only [cond_false,cond_true]
  rw [hpt,wA ht (by omega) (by omega)]
end Kz
end
noncomputable section
namespace Kz
open Go Go.RowKit
set_option maxRecDepth 100000
set_option maxHeartbeats 4000000
set_option linter.unusedSectionVars false
theorem vK {R:Type} {ok:BitVec 64×Int→Bool} {st:BitVec 64×Int→aF (BitVec 64×Int) R} (P:Nat→Bool) (fin:R→BitVec 64)
  (h1:∀ (o:BitVec 64) (n:Nat),n < 64→ok (o,n)=true∧st (o,n)=.go ((bif P n then o|||1#64 <<< n else o),(n:Int)+1)) (h2:∀ o,ok (o,64)=true∧∃ r,st (o,64)=.out r∧fin r=o) :
  ∃ r,cP (fun x=>bif ok x then st x else .bad) many (0#64,0)=some r∧∀ i,i < 64→(fin r).getLsbD i=P i:=by
 refine ba (Q:=fun r => ∀ i,i < 64→(fin r).getLsbD i=P i) (I:=fun x => ∃ n:Nat,n≤64∧x.2=(n:Int)∧∀ i,i < 64→x.1.getLsbD i=(decide (i < n)&&P i)) (μ:=fun x=>(64 - x.2).toNat) ?_ _ ⟨0,by omega,rfl,fun i hi=>by simp⟩ (by simp)
 rintro ⟨o,m⟩ ⟨n,hn,hm,h⟩
 simp only at hm h
 subst hm
 by_cases hc:n < 64
 ·obtain ⟨k1,k2⟩:=h1 o n hc
  refine ⟨k1,?_⟩
  rw [k2]
  refine ⟨⟨n+1,by omega,by simp,fun i hi => ?_⟩,by dsimp only; omega⟩
  show (bif P n then o|||1#64 <<< n else o).getLsbD i=_
  cases hp:P n with
  | true =>
   rw [cond_true,BitVec.getLsbD_or,h i hi,fF hi]
   by_cases e:i=n
   ·subst e; rw [hp]; simp
   ·rw [show decide (i < n+1)=decide (i < n) by rw [decide_eq_decide]; omega]
    simp [e]
  | false =>
   rw [cond_false,h i hi]
   by_cases e:i=n
   ·subst e; rw [hp]; simp
   ·rw [show decide (i < n+1)=decide (i < n) by rw [decide_eq_decide]; omega]
 ·have:n=64:=by omega
  subst this
  obtain ⟨k1,r,k2,k3⟩:=h2 o
  refine ⟨k1,?_⟩
  rw [show ((o,((64:Nat):Int)):BitVec 64×Int)=(o,64) from rfl,k2]
  intro i hi
  rw [k3,h i hi]
  simp [hi]
theorem xw (a b:Int):(a==b)=decide (a=b):=rfl
theorem CW (x:BitVec 64) {n:Int} (h0:0≤n) (h1:n < 64):Bm x n=x.getLsbD n.toNat:=by
 unfold Bm
 rw [cN h0 (by omega),zG _ (by omega)]
noncomputable section
variable {p q:Pos} (hp:aG p) {m:Mv}
include hp
theorem ahp (q':Pos) {d:Int} (f0:0≤m.aw) (f1:m.aw < 64):∃ r,eN d p q' m (0#64,0)=some r∧∀ i:Nat,i < 64→r.1.getLsbD i=(p.ab.getLsbD i&&((i:Int) != d&&(i:Int) != m.aw)):=by
 refine vK (fin:=fun r:BitVec 64×Int×Bool=>r.1) (fun i=>p.ab.getLsbD i&&((i:Int) != d&&(i:Int) != m.aw)) (fun o n hn=>⟨rfl,?_⟩) fun o=>⟨rfl,_,rfl,rfl⟩
 unfold IW
 dsimp only
 rw [decide_eq_true (show (n:Int) < 64 by omega),CW _ (by omega) (by omega),Int.toNat_natCast,aI (n:=(n:Int)+1) (by omega) (by omega),aI (n:=m.aw) (by omega) (by omega),cN (by omega) (by omega),Int.toNat_natCast]
 cases p.ab.getLsbD n <;> cases ((n:Int) != d) <;> cases ((n:Int) != m.aw) <;> rfl
theorem IH (q':Pos) {d:Int} (d0 : -1≤d) (d1:d < 64) (f0:0≤m.aw) (f1:m.aw < 64):(eN d p q' m (0#64,0)).isSome=true∧((eN d p q' m (0#64,0)).getD default).1=bif decide (d ≥ 0) then p.ab &&& ~~~(1#64 <<< (BitVec.ofInt 64 d).toNat) &&& ~~~(1#64 <<< (BitVec.ofInt 64 m.aw).toNat) else p.ab &&& ~~~(1#64 <<< (BitVec.ofInt 64 m.aw).toNat):=by
 obtain ⟨h1,h2⟩:=aN (ahp hp q' (d:=d) f0 f1)
 refine ⟨h1,BitVec.eq_of_getLsbD_eq fun i hi => ?_⟩
 rw [h2 i hi]
 have ef:(i:Int)=m.aw ↔ i=m.aw.toNat:=by omega
 by_cases hd:d ≥ 0
 ·have ed:(i:Int)=d ↔ i=d.toNat:=by omega
  rw [decide_eq_true hd,cond_true,BitVec.getLsbD_and,BitVec.getLsbD_and,BitVec.getLsbD_not,BitVec.getLsbD_not,cN hd (by omega),cN f0 (by omega),fF hi,fF hi]
  simp only [bne,xw,ed,ef,hi,decide_true,Bool.true_and,Bool.and_assoc]
 ·have ed:((i:Int) != d)=true:=by rw [bne_iff_ne]; omega
  rw [decide_eq_false hd,cond_false,BitVec.getLsbD_and,BitVec.getLsbD_not,cN f0 (by omega),fF hi,ed]
  simp only [bne,xw,ef,hi,decide_true,Bool.true_and]
theorem E4 (hk:dm p q) (hpr:q.ab=p.ab) (hm:m ∈ cy p):wJ p q m (aA p m)=true∧zT p q m (aA p m)=cf p m q p m (aA p m):=by
 obtain ⟨hth,f0,f1,o0,o1,_,_,pr0,pr6⟩:=iN hp hm
 obtain ⟨t,hpt,ht⟩:=gv hp hth.1
 have ht39:=xE hp m
 have hqt:q.aa=p.aa:=hk.t
 have hmk:=fun q':Pos=>IH (m:=m) hp q' ht39.1 ht39.2 f0 f1
 by_cases hv:p.variant=2
 ·have hv2:(q.variant != 2)=false:=by rw [hk.v,hv]; rfl
  have hv1:(p.variant != 2)=false:=by rw [hv]; rfl
  cases hd:m.aD != 0 with
  | true=>unfold wJ zT cf; rw [hv2,hv1,hd]; exact ⟨rfl,rfl⟩
  | false =>
   cases hc:m.bq with
   | true =>
    have hm':m ∈ dZ p:=by
     rw [nj] at hm
     rcases List.mem_append.1 hm with hm | hm
     ·rcases List.mem_append.1 hm with hm | hm
      ·obtain ⟨_,_,_,_,_,_,_,_,h,_⟩:=gp hp.v0 hm; rw [h] at hc; cases hc
      ·exact hm
     ·obtain ⟨_,_,_,_,_,h,_⟩:=kN hp.t0 hm; rw [h] at hc; cases hc
    obtain ⟨k,r,hk',hr,k0,k7,r0,r7,hkr⟩:=ql hp hpt ht hm'
    obtain ⟨g1,g2,g3,g4,g5,g6⟩:=yK hpt ht hc hk' hr k0 k7 r0 r7 hkr
    unfold wJ zT cf
    rw [hv2,hv1,hd,hc,← g2,← hpr]
    refine ⟨rfl,?_⟩
    simp only [cond_false,cond_true]
    unfold Bm
    rw [aI (n:=m.to) (by omega) (by omega)]
   | false =>
    have i2:decide (0≤p.aa)=true:=decide_eq_true hp.t0
    have i3:decide (p.aa < Int.ofNat 2)=true:=decide_eq_true (by show p.aa < 2; omega)
    have n119:∀ x:Int,Bm p.ab x=(p.ab >>> (BitVec.ofInt 64 x).toNat&&&1#64==1#64):=fun x=>rfl
    by_cases hd0:aA p m ≥ 0
    ·have dt:decide (aA p m ≥ 0)=true:=decide_eq_true hd0
     have hbi:=ei hp (scale 1 (aA p m)).toNat
     obtain ⟨e89,_,_,_,_⟩:=qD hbi.1 hbi.2
     have i64:decide (0≤aA p m)=true:=decide_eq_true hd0
     have i65:decide (aA p m < Int.ofNat 64)=true:=decide_eq_true ht39.2
     have hadd:∀ k:Int,bp q q.aa k=bif decide (k ≥ 1) then (bif decide (k≤5) then (bif decide (q.af.getD (scale 6 q.aa+scale 1 k).toNat 0 < 255) then ⟨q.variant,q.ae,q.ab,q.af.set (scale 6 q.aa+scale 1 k).toNat (wr .u8 (q.af.getD (scale 6 q.aa+scale 1 k).toNat 0+1)),q.aa,q.ai,q.ah,q.ag,q.half,q.full⟩ else q) else q) else q:=fun k=>by
      unfold bp qM
      rw [decide_eq_true (show q.aa≤1 by rw [hqt]; omega)]
      cases decide (k ≥ 1) <;> cases decide (k≤5) <;> cases decide (q.af.getD (scale 6 q.aa+scale 1 k).toNat 0 < 255) <;> rfl
     have ik:∀ k:Int,decide (k ≥ 1)=true→decide (k≤5)=true→decide (0≤k)=true∧decide (k < Int.ofNat 6)=true:=fun k h1 h2=>by
      simp only [decide_eq_true_eq] at h1 h2 ⊢
      exact ⟨by omega,by show k < 6; omega⟩
     have mk:=fun q':Pos=>(hmk q').2
     simp only [dt,cond_true] at mk
     have m1:=fun q':Pos=>(hmk q').1
     have key:∀ (k:Int) (c1 c2:Bool),True:=fun _ _ _=>trivial
     rw [← hqt] at i2 i3
     unfold wJ zT cf
     rw [hv2,hv1,hd,hc,dt]
     simp only [← hqt,e89,cond_false,cond_true,mk,m1,hadd,n119,i2,i3,i64,i65,aI (n:=m.aw) (by omega) (by omega),Bool.true_and,Bool.and_true,show decide ((1:Int) ≥ 1)=true from rfl,show decide ((1:Int)≤5)=true from rfl,show Int.ofNat 1=(1:Int) from rfl]
     constructor
     ·generalize bA (p.ae.getD (scale 1 (aA p m)).toNat 0)=k
      have go:decide (k ≥ 1)=true→decide (k≤5)=true→(decide (0≤k)&&decide (k < Int.ofNat 6))=true:=fun h1 h2=>by
       simp only [decide_eq_true_eq,Bool.and_eq_true] at h1 h2 ⊢
       exact ⟨by omega,by show k < 6; omega⟩
      have fin:decide (k ≥ 1)=true→decide (k≤5)=true→∀ c:Bool,(decide (0≤k)&&decide (k < Int.ofNat 6)&&bif c then decide (0≤k)&&decide (k < Int.ofNat 6)&&(decide (0≤k)&&decide (k < Int.ofNat 6)) else true)=true:=fun h1 h2 c=>by
       rw [go h1 h2]
       cases c <;> rfl
      refine aq (fun _=>aq (fun _=>aq (fun _=>rfl) fun _=>rfl) fun _ => ?_) fun _ => ?_
      ·exact aq (fun a1=>aq (fun a2=>fin a1 a2 _) fun _=>rfl) fun _=>rfl
      ·exact aq (fun a1=>aq (fun a2=>fin a1 a2 _) fun _=>rfl) fun _=>rfl
     ·generalize (p.ab >>> (BitVec.ofInt 64 (aA p m)).toNat&&&1#64==1#64)=c1
      generalize (p.ae.getD (scale 1 (aA p m)).toNat 0 != 0)=c2
      generalize (m.aM != 0)=c3
      generalize (p.ab >>> (BitVec.ofInt 64 m.aw).toNat&&&1#64==1#64)=c4
      generalize bA (p.ae.getD (scale 1 (aA p m)).toNat 0)=k
      rw [← hpr]
      cases c1 <;> cases c2 <;> cases c3 <;> cases c4 <;> cases decide (k ≥ 1) <;> cases decide (k≤5) <;> cases decide (q.af.getD (scale 6 q.aa+scale 1 k).toNat 0 < 255) <;> cases decide (q.af.getD (scale 6 q.aa+scale 1 1).toNat 0 < 255) <;> rfl
    ·have dt:decide (aA p m ≥ 0)=false:=decide_eq_false hd0
     have mk:=fun q':Pos=>(hmk q').2
     simp only [dt,cond_false] at mk
     have m1:=fun q':Pos=>(hmk q').1
     unfold wJ zT cf
     rw [hv2,hv1,hd,hc,dt]
     simp only [cond_false,mk,m1,n119,aI (n:=m.aw) (by omega) (by omega)]
     refine ⟨rfl,?_⟩
     rw [← hpr]
 ·have hv2:(q.variant != 2)=true:=by rw [bne_iff_ne,hk.v]; exact hv
  have hv1:(p.variant != 2)=true:=by rw [bne_iff_ne]; exact hv
  unfold wJ zT cf
  rw [hv2,hv1]
  exact ⟨rfl,rfl⟩
end
theorem Co:∀ a b:Fin 64,iu a.val b.val=(cV b.val).getLsbD a.val∧iu a.val a.val=false:=by decide +kernel
theorem F5:∀ v:Fin 256,(eR v.val&&!dc 0 1 v.val&&!dc 1 1 v.val)=(bA v.val != 0&&bA v.val != 1):=by decide +kernel
theorem RE {q:Pos} (hq:aG q) {b:Int} (b0:0≤b) (b1:b < 64):LB q b=true∧LZ q b=pR q b:=by
 obtain ⟨n,rfl⟩:=Int.eq_ofNat_of_zero_le b0
 have hn:n < 64:=by omega
 have hl:∃ r,tD (n:Int) q (0#64,0)=some r∧∀ i:Nat,i < 64→r.1.getLsbD i=(decide (i=n) || (iu i n&&(bA (q.ae.getD i 0) != 0&&bA (q.ae.getD i 0) != 1))):=by
  refine vK (fin:=fun r:BitVec 64×Int×Bool=>r.1) (fun i=>decide (i=n) || (iu i n&&(bA (q.ae.getD i 0) != 0&&bA (q.ae.getD i 0) != 1))) (fun o i hi => ?_) fun o=>⟨rfl,_,rfl,rfl⟩
  unfold C1 Kb
  dsimp only
  rw [decide_eq_true (show (i:Int) < 64 by omega),decide_eq_true (show (n:Int) ≥ 0 by omega),decide_eq_true (show (n:Int) < 64 by omega),decide_eq_true (show (0:Int)≤i by omega),show ((i:Int)==n)=decide (i=n) by rw [xw,decide_eq_decide]; omega,fA,Int.toNat_natCast,aI (n:=(i:Int)+1) (by omega) (by omega),cN (by omega) (by omega),Int.toNat_natCast]
  refine ⟨rfl,?_⟩
  cases decide (i=n) <;> cases iu i n <;> cases (bA (q.ae.getD i 0) != 0) <;> cases (bA (q.ae.getD i 0) != 1) <;> rfl
 obtain ⟨h1,h2⟩:=aN hl
 refine ⟨ao h1 fun _=>rfl,BitVec.eq_of_getLsbD_eq fun i hi => ?_⟩
 have e1:(LZ q n).getLsbD i=(decide (i=n) || (iu i n&&(bA (q.ae.getD i 0) != 0&&bA (q.ae.getD i 0) != 1))):=h2 i hi
 rw [e1]
 unfold pR
 rw [decide_eq_false (show ¬ ((n:Int) < 0) by omega),decide_eq_false (show ¬ ((n:Int) ≥ 64) by omega)]
 simp only [cond_false,BitVec.getLsbD_or,BitVec.getLsbD_and,BitVec.getLsbD_not,hi,decide_true,Bool.true_and]
 rw [show (⟨q.variant,q.ae,q.ab,q.af,q.aa,q.ai,q.ah,q.ag,q.half,q.full⟩:Pos)=q from rfl,lU _ hi,cn _ _ _ hi,cn _ _ _ hi,cN (by omega) (by omega),Int.toNat_natCast,fF hi,show wr .u8 (0+1)=1 from rfl]
 have hb:=fB (d:=0) hq.b0 (by omega) i
 obtain ⟨v,hv⟩:=Int.eq_ofNat_of_zero_le hb.1
 have k1:=F5 ⟨v,by omega⟩
 have k2:=(Co ⟨i,hi⟩ ⟨n,hn⟩).1
 simp only at k1 k2
 rw [← hv] at k1
 rw [← k1,k2]
 cases decide (i=n) <;> cases (cV (n:Int)).getLsbD i <;> cases eR (q.ae.getD i 0) <;> cases dc 0 1 (q.ae.getD i 0) <;> cases dc 1 1 (q.ae.getD i 0) <;> rfl
def wb (q:Pos) (B:List Int):Pos:=⟨q.variant,B,q.ab,q.af,q.aa,q.ai,q.ah,q.ag,q.half,q.full⟩
theorem Ko {A B:List Int} {n:Nat} (ha:A.length=n) (hb:B.length=n) (h:∀ i,i < n→A.getD i 0=B.getD i 0):A=B:=by
 refine List.ext_getElem (by omega) fun i h1 h2 => ?_
 have:=h i (by omega)
 rw [List.getD_eq_getElem?_getD,List.getD_eq_getElem?_getD,List.getElem?_eq_getElem h1,List.getElem?_eq_getElem h2] at this
 exact this
theorem acD {q:Pos} (hq:aG q) (d:Int) (bits:BitVec 64) (p:Pos) (m:Mv):∃ r,lX d bits p m (0,q)=some r∧∃ B,r.2.2=wb q B∧B.length=64∧∀ i,i < 64→B.getD i 0=bif bits.getLsbD i then 0 else q.ae.getD i 0:=by
 refine ba (Q:=fun r:Int×Bool×Pos => ∃ B,r.2.2=wb q B∧B.length=64∧∀ i,i < 64→B.getD i 0=bif bits.getLsbD i then 0 else q.ae.getD i 0) (I:=fun x:Int×Pos => ∃ n:Nat,n≤64∧x.1=n∧∃ B,x.2=wb q B∧B.length=64∧∀ i,i < 64→B.getD i 0=bif decide (i < n)&&bits.getLsbD i then 0 else q.ae.getD i 0) (μ:=fun x=>(64 - x.1).toNat) ?_ _ ⟨0,by omega,rfl,q.ae,rfl,hq.bl,fun i hi=>by simp⟩ (by simp)
 rintro ⟨x,q'⟩ ⟨n,hn,hx,B,hB,hl,h⟩
 simp only at hx hB
 subst hx hB
 unfold CA Ku
 dsimp only
 by_cases hc:n < 64
 ·rw [decide_eq_true (show (n:Int) < 64 by omega),CW _ (by omega) (by omega),Int.toNat_natCast,aI (n:=(n:Int)+1) (by omega) (by omega),fA,Int.toNat_natCast,decide_eq_true (show (0:Int)≤n by omega)]
  have e64:decide ((n:Int) < Int.ofNat 64)=true:=decide_eq_true (by show (n:Int) < 64; omega)
  rw [e64]
  cases hb:bits.getLsbD n with
  | true =>
   refine ⟨rfl,⟨n+1,by omega,by simp,B.set n 0,rfl,by simp [hl],fun i hi => ?_⟩,by dsimp only; omega⟩
   rw [GF (by rw [hl]; exact hc)]
   by_cases e:n=i
   ·subst e; rw [if_pos rfl,hb]; simp
   ·rw [if_neg e,h i hi,show decide (i < n+1)=decide (i < n) by rw [decide_eq_decide]; omega]
  | false =>
   refine ⟨rfl,⟨n+1,by omega,by simp,B,rfl,hl,fun i hi => ?_⟩,by dsimp only; omega⟩
   rw [h i hi]
   by_cases e:n=i
   ·subst e; rw [hb]; simp
   ·rw [show decide (i < n+1)=decide (i < n) by rw [decide_eq_decide]; omega]
 ·have:n=64:=by omega
  subst this
  refine ⟨rfl,B,rfl,hl,fun i hi => ?_⟩
  rw [h i hi,decide_eq_true hi,Bool.true_and]
theorem O5 {q:Pos} (hq:aG q) {l:List Int} (hl0:l.length≤64) (hin:∀ s ∈ l,0≤s∧s < 64) (a b:Pos) (c d:Mv) (e:Int):∃ r,pb l (Int.ofNat l.length) a c b d e (0,q)=some r∧∃ B,r.2.2=wb q B∧B.length=64∧∀ i:Nat,i < 64→B.getD i 0=bif decide ((i:Int) ∈ l) then 0 else q.ae.getD i 0:=by
 refine ba (Q:=fun r:Int×Bool×Pos => ∃ B,r.2.2=wb q B∧B.length=64∧∀ i:Nat,i < 64→B.getD i 0=bif decide ((i:Int) ∈ l) then 0 else q.ae.getD i 0) (I:=fun x:Int×Pos => ∃ n:Nat,n≤l.length∧x.1=n∧∃ B,x.2=wb q B∧B.length=64∧∀ i:Nat,i < 64→B.getD i 0=bif decide ((i:Int) ∈ l.take n) then 0 else q.ae.getD i 0) (μ:=fun x=>(l.length - x.1).toNat) ?_ _ ⟨0,by omega,rfl,q.ae,rfl,hq.bl,fun i hi=>by simp⟩ (by simp; omega)
 rintro ⟨x,q'⟩ ⟨n,hn,hx,B,hB,hl,h⟩
 simp only at hx hB
 subst hx hB
 unfold CS K1
 dsimp only
 by_cases hc:n < l.length
 ·have hs:=hin _ (ct (d:=default) hc)
  have ht:l.take (n+1)=l.take n++[l.getD n default]:=by
   rw [List.take_add_one,List.getD_eq_getElem?_getD,List.getElem?_eq_getElem hc]; rfl
  rw [decide_eq_true (show (n:Int) < Int.ofNat l.length from Int.ofNat_lt.2 hc),decide_eq_true (show (0:Int)≤n by omega),Int.toNat_natCast,aI (n:=(n:Int)+1) (by omega) (by omega),fA,decide_eq_true hs.1,decide_eq_true (show l.getD n default < Int.ofNat 64 from hs.2)]
  refine ⟨rfl,⟨n+1,by omega,by simp,B.set (l.getD n default).toNat 0,rfl,by simp [hl],fun i hi => ?_⟩,by dsimp only; omega⟩
  rw [GF (by rw [hl]; omega),ht]
  by_cases e:(l.getD n default).toNat=i
  ·rw [if_pos e,decide_eq_true (show (i:Int) ∈ l.take n++[l.getD n default] by rw [List.mem_append,List.mem_singleton]; right; omega)]
   rfl
  ·rw [if_neg e,h i hi]
   congr 1
   rw [decide_eq_decide,List.mem_append,List.mem_singleton]
   constructor
   ·exact .inl
   ·rintro (h | h)
    ·exact h
    ·omega
 ·rw [decide_eq_false (show ¬ ((n:Int) < Int.ofNat l.length) from fun h=>hc (Int.ofNat_lt.1 h))]
  have:n=l.length:=by omega
  subst this
  refine ⟨rfl,B,rfl,hl,fun i hi => ?_⟩
  rw [h i hi,List.take_length]
theorem NY {p q:Pos} (hk:dm p q) {m:Mv} (o0:0≤m.to) (o1:m.to < 64) (d:Int):LB q (wr .i64 m.to)=true∧(lX d (LZ q (wr .i64 m.to)) p m (0,q)).isSome=true ∧
  (bif p.variant==3 then (bif decide (d ≥ 0) then ((lX d (LZ q (wr .i64 m.to)) p m (0,q)).getD default).2.2 else q) else q)=cC p m q p m d:=by
 have hq:=hk.bW
 have wt:wr .i64 m.to=m.to:=aI (by omega) (by omega)
 obtain ⟨k1,k2⟩:=RE hq o0 o1
 obtain ⟨a1,B,a2,a3,a4⟩:=aN (acD hq d (LZ q m.to) p m)
 obtain ⟨b1,C,b2,b3,b4⟩:=aN (O5 hq (l:=gK (pR q m.to)) (by rw [dw]; exact eU _ _) (fun s hs=>by rw [dw] at hs; exact lM hs) p p m m d)
 rw [wt]
 refine ⟨k1,a1,?_⟩
 unfold cC
 rw [wt,a2,b2,hk.v]
 have e:B=C:=Ko a3 b3 fun i hi=>by
  rw [a4 i hi,b4 i hi,k2]
  congr 1
  rw [dw]
  cases hb:(pR q m.to).getLsbD i with
  | true=>exact (decide_eq_true (oD.2 ⟨i,hi,hb,rfl⟩)).symm
  | false =>
   refine (decide_eq_false fun h => ?_).symm
   obtain ⟨j,_,hj,he⟩:=oD.1 h
   have:j=i:=by omega
   subst this
   rw [hb] at hj; cases hj
 rw [e]
 by_cases hv:p.variant=3
 ·rw [hv]
  by_cases hd:d < 0
  ·rw [decide_eq_true hd,decide_eq_false (show ¬ d ≥ 0 by omega)]; rfl
  ·rw [decide_eq_false hd,decide_eq_true (show d ≥ 0 by omega)]; rfl
 ·rw [beq_eq_false_iff_ne.2 hv,bne_iff_ne.2 hv]; rfl
theorem uk {X R:Type} {f g:X→aF X R} (I:X→Prop) (h:∀ x,I x→f x=g x∧∀ y,f x=.go y→I y):∀ (n:Nat) (x:X),I x→cP f n x=cP g n x
 | 0,_,_=>rfl
 | n+1,x,hx=>by
  obtain ⟨h1,h2⟩:=h x hx
  rw [cP,cP,← h1]
  cases hf:f x with
  | go y=>exact uk I h n y (h2 y hf)
  | out r=>rfl
  | bad=>rfl
def wk (q:Pos) (R:List Int):Pos:=⟨q.variant,q.ae,q.ab,q.af,q.aa,R,q.ah,q.ag,q.half,q.full⟩
theorem Zd {q:Pos} (hq:aG q) {R:List Int} (hl:R.length=4) (hr:∀ x ∈ R,-128≤x∧x≤127):aG (wk q R) :=
 ⟨hq.v0,hq.v1,hq.bl,hq.b0,hq.kl,hq.k0,hq.t0,hq.t1,hl,hr,hq.p0,hq.p1,hq.cl,hq.c0,hq.h0,hq.f0⟩
def C5 (q:Pos) (c:Nat) (k s t:Int) (m:Mv):Bool :=
 decide (k < ((56 * c:Nat):Int)) || (decide (k > ((56 * c+7:Nat):Int)) || (!dc c 4 (q.ae.getD s.toNat 0) || (t==s || (m.aD==0&&m.aw==s))))
noncomputable section
variable {q:Pos} (hq:aG q) {c:Nat} (hc:c≤1) {k:Int} (k0 : -1≤k) (k1:k < 64) {m:Mv} (f0 : -128≤m.aw∧m.aw≤127) (t:Int) (p:Pos)
include hq hc k0 k1 f0
theorem AL (R:List Int) (hl:R.length=4) (hr:∀ x ∈ R,-128≤x∧x≤127) {n:Nat} (hn:n < 2) (l:List Int) (hll:l.getD n 0=R.getD (2 * c+n) 0) (a b:Pos) (m1:Mv) :
  (bif wO (c:Int) k l a m1 b m t (n,wk q R) then wj (c:Int) k l a m1 b m t (n,wk q R) else .bad)=.go ((n:Int)+1,bif (decide (0≤R.getD (2 * c+n) 0)&&decide (R.getD (2 * c+n) 0≤7))&&C5 q c k (((56 * c:Nat):Int)+R.getD (2 * c+n) 0) t m then wk q (R.set (2 * c+n) (-1)) else wk q R) ∧
  (bif wi t (c:Int) ((56 * c:Nat):Int) k p m (n,wk q R) then BN t (c:Int) ((56 * c:Nat):Int) k p m (n,wk q R) else .bad)=.go ((n:Int)+1,bif (decide (0≤R.getD (2 * c+n) 0)&&decide (R.getD (2 * c+n) 0≤7))&&C5 q c k (((56 * c:Nat):Int)+R.getD (2 * c+n) 0) t m then wk q (R.set (2 * c+n) (-1)) else wk q R):=by
 have hf:=fB (d:=0) hr (by omega) (2 * c+n)
 have hsc:(scale 2 (c:Int)+scale 1 (n:Int)).toNat=2 * c+n:=by unfold scale; simp; omega
 have i1:decide ((0:Int)≤c)=true:=decide_eq_true (by omega)
 have i2:decide ((c:Int) < Int.ofNat 2)=true:=decide_eq_true (by show (c:Int) < 2; omega)
 have i3:decide ((0:Int)≤n)=true:=decide_eq_true (by omega)
 have i4:decide ((n:Int) < Int.ofNat 2)=true:=decide_eq_true (by show (n:Int) < 2; omega)
 have i5:decide ((n:Int) < 2)=true:=decide_eq_true (by omega)
 have w1:wr .i64 ((n:Int)+1)=n+1:=aI (by omega) (by omega)
 have wc:wr .i64 (c:Int)=c:=aI (by omega) (by omega)
 have w56:wr .i64 (56 * (c:Int))=((56 * c:Nat):Int):=by rw [aI (by omega) (by omega)]; omega
 have w7:wr .i64 (((56 * c:Nat):Int)+7)=((56 * c+7:Nat):Int):=by rw [aI (by omega) (by omega)]; omega
 have hrk:(wk q R).ai.getD (2 * c+n) 0=R.getD (2 * c+n) 0:=rfl
 unfold wO wj wi BN
 dsimp only
 rw [hsc,Int.toNat_natCast,hll,hrk,i1,i2,i3,i4,i5,w1,wc,w56,w7]
 generalize hfe:R.getD (2 * c+n) 0=f at hf ⊢
 rw [aI (n:=f) (by omega) (by omega),aI (n:=m.aw) (by omega) (by omega)]
 by_cases h0:f < 0
 ·rw [decide_eq_true h0,decide_eq_false (show ¬ (0≤f) by omega)]
  exact ⟨rfl,rfl⟩
 ·by_cases h7:f > 7
  ·rw [decide_eq_false h0,decide_eq_true h7,decide_eq_false (show ¬ (f≤7) by omega),Bool.and_false]
   exact ⟨rfl,rfl⟩
  ·rw [decide_eq_false h0,decide_eq_false h7,decide_eq_true (show 0≤f by omega),decide_eq_true (show f≤7 by omega),aI (n:=((56 * c:Nat):Int)+f) (by omega) (by omega)]
   obtain ⟨s,hs⟩:=Int.eq_ofNat_of_zero_le (show 0≤((56 * c:Nat):Int)+f by omega)
   have s73:s < 64:=by omega
   rw [hs,fA,Int.toNat_natCast,decide_eq_true (show (0:Int)≤s by omega),decide_eq_true (show (s:Int) < Int.ofNat 64 by show (s:Int) < 64; omega)]
   obtain ⟨o157,e157⟩:=jN (Zd hq hl hr) (c:=(c:Int)) (k:=4) (by omega) (by omega) (by omega) s73
   have hb:=ei hq s
   have hrook:((wk q R).ae.getD s 0 != jW (c:Int) 4)=!dc c 4 (q.ae.getD s 0):=by
    obtain ⟨v,hv⟩:=Int.eq_ofNat_of_zero_le hb.1
    have:=(sj ⟨c,by omega⟩ ⟨v,by omega⟩).1
    simp only at this
    rw [hv,this,wA hc (by omega) (by omega),show (wk q R).ae=q.ae from rfl,hv,oZ (n:=8 * (c:Int)) (by omega) (by omega),oZ (by omega) (by omega)]
    rfl
   have hking:(bif decide (k < 0) then true else (wr .i64 (k.tdiv 8) != wr .i64 (7 * (c:Int))))=(decide (k < ((56 * c:Nat):Int)) || decide (k > ((56 * c+7:Nat):Int))):=by
    by_cases hk:k < 0
    ·rw [decide_eq_true hk,decide_eq_true (show k < ((56 * c:Nat):Int) by omega)]; rfl
    ·rw [decide_eq_false hk,Int.tdiv_eq_ediv_of_nonneg (by omega),aI (by omega) (by omega),aI (by omega) (by omega),cond_false,Bool.eq_iff_iff]
     simp only [bne_iff_ne,Bool.or_eq_true,decide_eq_true_eq]
     omega
   rw [o157,e157,hrook,show (wk q R).ae.getD s 0=q.ae.getD s 0 from rfl]
   unfold C5
   rw [Int.toNat_natCast]
   revert hking
   cases decide (k < 0) <;> cases (wr .i64 (k.tdiv 8) != wr .i64 (7 * (c:Int))) <;> cases decide (k < ((56 * c:Nat):Int)) <;> cases decide (k > ((56 * c+7:Nat):Int)) <;> intro hking <;>
    first
    | (exfalso; revert hking; decide)
    | (cases dc (c:Int) 4 (q.ae.getD s 0) <;> cases (t==(s:Int)) <;> cases (m.aD==0) <;> cases (m.aw==(s:Int)) <;> exact ⟨rfl,rfl⟩)
theorem Hf (a b:Pos) (m1:Mv):lS (c:Int) k (List.take 2 (List.drop (scale 2 (c:Int)).toNat q.ai)) a m1 b m t (0,q)=ti t (c:Int) ((56 * c:Nat):Int) k p m (0,q):=by
 have hsl:∀ d,d < 2→(List.take 2 (List.drop (scale 2 (c:Int)).toNat q.ai)).getD d 0=q.ai.getD (2 * c+d) 0:=fun d hd=>by
  rw [List.getD_eq_getElem?_getD,List.getD_eq_getElem?_getD,List.getElem?_take_of_lt hd,List.getElem?_drop,show (scale 2 (c:Int)).toNat=2 * c by unfold scale; simp; omega]
 refine uk (fun x:Int×Pos => ∃ n:Nat,n≤2∧x.1=(n:Int)∧∃ R,x.2=wk q R∧R.length=4∧(∀ x ∈ R,-128≤x∧x≤127)∧∀ d,n≤d→d < 2→R.getD (2 * c+d) 0=q.ai.getD (2 * c+d) 0) (fun x hx => ?_) many (0,q) ⟨0,by omega,rfl,q.ai,rfl,hq.rl,hq.r0,fun _ _ _=>rfl⟩
 obtain ⟨x1,x2⟩:=x
 obtain ⟨n,hn,h1,R,h2,hl,hr,hR⟩:=hx
 simp only at h1 h2
 subst h1 h2
 by_cases h2:n < 2
 ·obtain ⟨e1,e2⟩:=AL hq hc k0 k1 f0 t p R hl hr h2 (List.take 2 (List.drop (scale 2 (c:Int)).toNat q.ai)) (by rw [hsl n h2,hR n (by omega) h2]) a b m1
  refine ⟨e1.trans e2.symm,fun y hy => ?_⟩
  rw [e1] at hy
  simp only [aF.go.injEq] at hy
  subst hy
  refine ⟨n+1,by omega,by simp,?_⟩
  cases (decide (0≤R.getD (2 * c+n) 0)&&decide (R.getD (2 * c+n) 0≤7))&&C5 q c k (((56 * c:Nat):Int)+R.getD (2 * c+n) 0) t m with
  | false=>exact ⟨R,rfl,hl,hr,fun d h1 h2=>hR d (by omega) h2⟩
  | true=>exact ⟨R.set (2 * c+n) (-1),rfl,by simp [hl],sq hr (by omega) _,fun d h1 h2=>by
    rw [GF (by omega),if_neg (by omega)]
    exact hR d (by omega) h2⟩
 ·have:n=2:=by omega
  subst this
  exact ⟨rfl,fun y hy=>by cases hy⟩
end
noncomputable section
variable {p q:Pos} (hp:aG p) (hk:dm p q) {m:Mv} (f0 : -128≤m.aw∧m.aw≤127) (t:Int)
include hp hk f0
theorem yF (a b:Pos) (m1:Mv) {q':Pos} (hq':dm p q'):(dC a m1 b m t (0,q'))=lR t p m (0,q'):=by
 refine uk (fun x:Int×Pos => ∃ n:Nat,n≤2∧x.1=(n:Int)∧dm p x.2) (fun x hx => ?_) many (0,q') ⟨0,by omega,rfl,hq'⟩
 obtain ⟨x1,x2⟩:=x
 obtain ⟨n,hn,h1,h2⟩:=hx
 simp only at h1 h2
 subst h1
 unfold wV Cu CH Km
 dsimp only
 by_cases hc:n < 2
 ·have hn1:n≤1:=by omega
  have lo:=gQ x2 (n:Int) 6
  obtain ⟨o131,e131⟩:=sV h2.bW (c:=(n:Int)) (k:=6) (by omega) (by omega) (by omega)
  have e:=Hf h2.bW hn1 (by omega) lo.2 f0 t p a b m1 (k:=bb x2 n 6)
  obtain ⟨r,hr,hkin⟩:=ui (p:=p) (q:=x2) (c:=(n:Int)) (k:=bb x2 n 6) (by omega) (by omega) (List.take 2 (List.drop (scale 2 (n:Int)).toNat x2.ai)) (fun s hs=>h2.bW.r0 s (List.mem_of_mem_drop (List.mem_of_mem_take hs))) h2 a b m1 m t
  have w56:wr .i64 (56 * wr .i64 (n:Int))=((56 * n:Nat):Int):=by rw [aI (n:=(n:Int)) (by omega) (by omega),aI (by omega) (by omega)]; omega
  rw [e131,o131,t155,w56,← e,hr,decide_eq_true (show (n:Int)≤1 by omega),decide_eq_true (show (n:Int) < 2 by omega),decide_eq_true (show (0:Int)≤n by omega),oZ (n:=(n:Int)+1) (by omega) (by omega)]
  have i2:decide ((n:Int) < Int.ofNat 2)=true:=decide_eq_true (by show (n:Int) < 2; omega)
  rw [i2]
  refine ⟨rfl,fun y hy => ?_⟩
  have hy:aF.go ((n:Int)+1,r.2.2)=.go y:=hy
  simp only [aF.go.injEq] at hy
  subst hy
  exact ⟨n+1,by omega,by simp,hkin⟩
 ·have:n=2:=by omega
  subst this
  exact ⟨rfl,fun y hy=>by cases hy⟩
theorem EA (ht:p.aa≤1) (hm:m.aD=0→0≤m.aw∧m.aw < 64) (d5:m.aD≤5):EW p q m t=true∧Oi p q m t=cG p m q p m t:=by
 have t0:=hp.t0
 have hqt:q.aa=p.aa:=hk.t
 have h2:dm p (wk q (List.take (scale 2 q.aa).toNat q.ai++li [-1,-1]++List.drop ((scale 2 q.aa).toNat+2) q.ai)):=by
  refine hk.ai ?_ ?_
  ·have hr:=hk.bW.rl
   have:(scale 2 q.aa).toNat≤2:=by rw [hqt]; unfold scale; simp; omega
   simp [li,hr]
   omega
  ·intro x hx
   simp only [List.mem_append,li] at hx
   rcases hx with (hx | hx) | hx
   ·exact hk.bW.r0 x (List.mem_of_mem_take hx)
   ·simp at hx; omega
   ·exact hk.bW.r0 x (List.mem_of_mem_drop hx)
 have e1:=yF hp hk f0 t p p m hk
 have e2:=yF hp hk f0 t p p m h2
 obtain ⟨r1,k1,_⟩:=fO hk p p m m t
 obtain ⟨r2,k2,_⟩:=fO h2 p p m m t
 have k3:=e1.symm.trans k1
 have k4:lR t p m (0,Pos.mk q.variant q.ae q.ab q.af q.aa (List.take (scale 2 q.aa).toNat q.ai++((List.replicate 2 0).set 0 (-1)).set 1 (-1)++List.drop ((scale 2 q.aa).toNat+2) q.ai) q.ah q.ag q.half q.full)=some r2:=e2.symm.trans k2
 have k2:dC p m p m t (0,Pos.mk q.variant q.ae q.ab q.af q.aa (List.take (scale 2 q.aa).toNat q.ai++li [-1,-1]++List.drop ((scale 2 q.aa).toNat+2) q.ai) q.ah q.ag q.half q.full)=some r2:=k2
 have hb:=ei hp (scale 1 m.aw).toNat
 obtain ⟨e89,_⟩:=qD hb.1 hb.2
 have i1:decide (0≤p.aa)=true:=decide_eq_true t0
 have i2:decide (p.aa < Int.ofNat 2)=true:=decide_eq_true (by show p.aa < 2; omega)
 unfold EW Oi cG
 rw [← hqt] at i1 i2 ⊢
 rw [e89,k1,k2,k3,k4,i1,i2]
 by_cases hd:m.aD=0
 ·obtain ⟨a0,a1⟩:=hm hd
  rw [hd,decide_eq_true a0,decide_eq_true (show m.aw < Int.ofNat 64 from a1)]
  cases bA (p.ae.getD (scale 1 m.aw).toNat 0)==6 <;> exact ⟨rfl,rfl⟩
 ·rw [beq_eq_false_iff_ne.2 hd,bne_iff_ne.2 hd]
  cases m.aD==6 <;> exact ⟨rfl,rfl⟩
end
theorem Xo (col b c:Int) (cl:Bool):cJ 1 col b c cl=cJ 1 col b c false:=rfl
def LJ (q:Pos) (s:Int):Pos:=⟨q.variant,q.ae,q.ab,q.af,q.aa,q.ai,s,q.ag,q.half,q.full⟩
theorem JV (q:Pos) (s a b:Int):aR (LJ q s) a b=aR q a b:=by kernel_rfl
def Pw (t a b:Int):Bool:=(!(wr .i8 (b - a) != 16) || !(wr .i8 (a - b) != 16))&&(!(wr .i8 (a.tdiv 8) != wr .i8 (wr .i8 (7 * wr .i8 t)+1)) || !(wr .i8 (a.tdiv 8) != wr .i8 (wr .i8 (7 * wr .i8 t) - 1)))
def On (t a b:Int):Bool := !(wr .i64 b != wr .i64 (wr .i64 a+wr .i64 (2 * fX t)))&&!(gW t (wr .i64 a) != 1)
theorem Mu:∀ (t:Fin 2) (a b:Fin 64),(Pw t.val a.val b.val==On t.val a.val b.val&&(!On t.val a.val b.val || (wr .i8 ((wr .i8 ((a.val:Int)+b.val)).tdiv 2)==wr .i8 (wr .i64 (wr .i64 a.val+fX t.val))&&(wr .i64 (wr .i8 ((wr .i8 ((a.val:Int)+b.val)).tdiv 2))==wr .i64 (wr .i64 a.val+fX t.val)&&(decide (0≤wr .i64 (wr .i64 a.val+fX t.val))&&decide (wr .i64 (wr .i64 a.val+fX t.val) < 64))))))=true:=by decide +kernel
theorem yJ {p:Pos} {m:Mv} (h:m ∈ dZ p) (hp:aG p):bA (p.ae.getD m.aw.toNat 0)=6:=by
 have key:m.aw=bb p p.aa 6∧0≤bb p p.aa 6:=by
  revert h
  unfold dZ
  have hk:=gQ p p.aa 6
  refine au (P:=fun l:List Mv=>m ∈ l→_) (fun _ h=>by cases h) fun h => ?_
  have ht:p.aa≤1:=by simpa using h
  refine au (P:=fun l:List Mv=>m ∈ l→_) (fun _ h=>by cases h) fun _=>au (P:=fun l:List Mv=>m ∈ l→_) (fun _ h=>by cases h) fun hk0=>au (P:=fun l:List Mv=>m ∈ l→_) (fun _ h=>by cases h) fun _ => ?_
  have hk0:0≤bb p p.aa 6:=by simpa using hk0
  have key:∀ c,(cZ p (bb p p.aa 6) c).2=true→m=(cZ p (bb p p.aa 6) c).1→m.aw=bb p p.aa 6∧0≤bb p p.aa 6:=by
   intro c h1 h2
   rw [h2]
   exact ⟨(so hp ht hk0 hk.2 h1).1,hk0⟩
  refine au (P:=fun l:List Mv=>m ∈ l→_) (fun h1=>au (P:=fun l:List Mv=>m ∈ l→_) (fun h2 h => ?_) fun _ h => ?_) fun _=>au (P:=fun l:List Mv=>m ∈ l→_) (fun h2 h => ?_) fun _ h=>by cases h
  ·simp only [List.nil_append,List.mem_append,List.mem_singleton] at h
   rcases h with h | h
   ·exact key _ h1 h
   ·exact key _ h2 h
  ·simp only [List.nil_append,List.mem_singleton] at h
   exact key _ h1 h
  ·simp only [List.nil_append,List.mem_singleton] at h
   exact key _ h2 h
 rcases iy p p.aa 6 with ⟨h,_⟩ | ⟨k,_,h,h2,_⟩
 ·omega
 ·have hb:=ei hp k
  have:=K7 h2
  rw [key.1,h,Int.toNat_natCast,← (qD hb.1 hb.2).1]
  omega
noncomputable section
variable {p q:Pos} (hp:aG p) (hk:dm p q) (hth:there p)
include hp hk hth
theorem acf {t:Nat} (hpt:p.aa=t) (ht:t≤1) (p1 p2:Int) {d:Nat} (hd:d < 64) (he:wr .i64 (p2+p1)=d) (m:Mv):∃ r,o8 p1 p2 p q m 0=some r∧cq r=(cW (t:Int) d&&&aR q (1 - (t:Int)) 1 != 0#64):=by
 have hqt:q.aa=0∨q.aa=1:=by rw [hk.t,hpt]; omega
 have bit:∀ s:Nat,s < 64→(cW (t:Int) d&&&aR q (1 - (t:Int)) 1).getLsbD s=(dc (1 - (t:Int)) 1 (q.ae.getD s 0)&&np q s d):=fun s hs=>by
  rw [BitVec.getLsbD_and,cn _ _ _ hs,Bool.and_comm]
  cases h:dc (1 - (t:Int)) 1 (q.ae.getD s 0) with
  | false=>rfl
  | true =>
   have hb:=ei hk.bW s
   rw [is' (by omega) (by omega) (by omega) hb.1 hb.2,Bool.and_eq_true,beq_iff_eq,beq_iff_eq] at h
   rw [Bool.true_and,Bool.true_and,qT,fA,Int.toNat_natCast,h.1,h.2,Xo]
   have:=tv ⟨1 - t,by omega⟩ ⟨s,hs⟩ ⟨d,hd⟩
   simp only at this
   rw [show ((1 - t:Nat):Int)=1 - (t:Int) by omega,show (1:Int) - (1 - (t:Int))=t by omega] at this
   exact this
 refine ba (Q:=fun r:Unit ⊕ (Int×Bool)=>cq r=(cW (t:Int) d&&&aR q (1 - (t:Int)) 1 != 0#64)) (I:=fun x:Int => ∃ n:Nat,n≤64∧x=(n:Int)∧∀ s,s < n→(cW (t:Int) d&&&aR q (1 - (t:Int)) 1).getLsbD s=false) (μ:=fun x=>(64 - x).toNat) ?_ _ ⟨0,by omega,rfl,fun s hs=>by omega⟩ (by simp)
 rintro x ⟨n,hn,hx,h⟩
 subst hx
 unfold Dg LM
 by_cases hc:n < 64
 ·obtain ⟨o157,e157⟩:=jN hk.bW (c:=1 - (t:Int)) (k:=1) (by omega) (by omega) (by omega) hc
  have o159:=t170 hk.bW hqt hc hd
  have hb:=bit n hc
  rw [he,hpt,oZ (n:=1 - (t:Int)) (by omega) (by omega),o157,e157,o159,decide_eq_true (show (n:Int) < 64 by omega),aI (n:=(n:Int)+1) (by omega) (by omega)]
  have keep:(cW (t:Int) d&&&aR q (1 - (t:Int)) 1).getLsbD n=false→∃ k:Nat,k≤64∧(n:Int)+1=(k:Int)∧∀ s,s < k→(cW (t:Int) d&&&aR q (1 - (t:Int)) 1).getLsbD s=false:=fun hf=>⟨n+1,by omega,by simp,fun s hs=>by
   by_cases e:s=n
   ·rw [e]; exact hf
   ·exact h s (by omega)⟩
  revert hb
  cases dc (1 - (t:Int)) 1 (q.ae.getD n 0) with
  | false=>intro hb; exact ⟨rfl,keep hb,by dsimp only; omega⟩
  | true =>
   cases np q n d with
   | false=>intro hb; exact ⟨rfl,keep hb,by dsimp only; omega⟩
   | true =>
    intro hb
    refine ⟨rfl,?_⟩
    show true=_
    symm
    rw [bne_iff_ne]
    intro e
    rw [e] at hb
    simp at hb
 ·have:n=64:=by omega
  subst this
  refine ⟨rfl,?_⟩
  show false=_
  symm
  rw [bne_eq_false_iff_eq]
  exact BitVec.eq_of_getLsbD_eq fun i hi=>by rw [h i hi]; simp
theorem rI {m:Mv} (hm:m ∈ cy p) (d:Int):FQ p q m=true∧dg p m q p m d=LJ q (eF p q m):=by
 obtain ⟨_,f0,f1,o0,o1,_,_,_,_⟩:=iN hp hm
 obtain ⟨t,hpt,ht⟩:=gv hp hth.1
 obtain ⟨a,ha⟩:=Int.eq_ofNat_of_zero_le f0
 obtain ⟨b,hb⟩:=Int.eq_ofNat_of_zero_le o0
 have hqt:q.aa=(t:Int):=by rw [hk.t,hpt]
 have hbd:=ei hp (scale 1 m.aw).toNat
 obtain ⟨e89,_⟩:=qD hbd.1 hbd.2
 have i1:decide (0≤m.aw)=true:=decide_eq_true f0
 have i2:decide (m.aw < Int.ofNat 64)=true:=decide_eq_true f1
 have fin:=Mu ⟨t,by omega⟩ ⟨a,by omega⟩ ⟨b,by omega⟩
 simp only [Bool.and_eq_true,beq_iff_eq,Bool.or_eq_true,Bool.not_eq_true'] at fin
 obtain ⟨fin1,fin2⟩:=fin
 have hcas:m.bq=true→(bA (p.ae.getD (scale 1 m.aw).toNat 0) != 1)=true:=fun hc=>by
  have hm':m ∈ dZ p:=by
   rw [nj] at hm
   rcases List.mem_append.1 hm with hm | hm
   ·rcases List.mem_append.1 hm with hm | hm
    ·obtain ⟨_,_,_,_,_,_,_,_,h,_⟩:=gp hp.v0 hm; rw [h] at hc; cases hc
    ·exact hm
   ·obtain ⟨_,_,_,_,_,h,_⟩:=kN hp.t0 hm; rw [h] at hc; cases hc
  rw [fA,yJ hm' hp]
  rfl
 have n101:∀ s c k:Int,aR (Pos.mk q.variant q.ae q.ab q.af q.aa q.ai s q.ag q.half q.full) c k=aR q c k:=fun s c k=>JV q s c k
 unfold FQ eF dg LJ
 simp only [n101]
 rw [e89,i1,i2,hqt,hpt,ha,hb,oZ (n:=1 - (t:Int)) (by omega) (by omega)]
 cases hd:m.aD != 0 with
 | true =>
  refine ⟨rfl,?_⟩
  cases m.aD != 1 <;> rfl
 | false =>
  cases hc:m.bq with
  | true =>
   have:=hcas hc
   rw [ha] at this
   rw [this]
   exact ⟨rfl,rfl⟩
  | false =>
   cases hpn:(bA (p.ae.getD (scale 1 (a:Int)).toNat 0) != 1) with
   | true=>exact ⟨rfl,rfl⟩
   | false =>
    simp only [cond_false,Bool.true_and]
    unfold Pw On at fin1
    unfold On at fin2
    revert fin1 fin2
    cases hx1:(wr .i64 (b:Int) != wr .i64 (wr .i64 (a:Int)+wr .i64 (2 * fX (t:Int)))) with
    | true =>
     intro fin1 _
     refine ⟨rfl,?_⟩
     revert fin1
     generalize (wr .i8 ((b:Int) - a) != 16)=x1
     generalize (wr .i8 ((a:Int) - b) != 16)=x2
     generalize (wr .i8 ((a:Int).tdiv 8) != wr .i8 (wr .i8 (7 * wr .i8 (t:Int))+1))=x3
     generalize (wr .i8 ((a:Int).tdiv 8) != wr .i8 (wr .i8 (7 * wr .i8 (t:Int)) - 1))=x4
     generalize (gW (t:Int) (wr .i64 (a:Int)) != 1)=x6
     cases x1 <;> cases x2 <;> cases x3 <;> cases x4 <;> intro h <;> first | rfl | (exfalso; revert h; cases x6 <;> decide)
    | false =>
     cases hx2:(gW (t:Int) (wr .i64 (a:Int)) != 1) with
     | true =>
      intro fin1 _
      refine ⟨rfl,?_⟩
      revert fin1
      generalize (wr .i8 ((b:Int) - a) != 16)=x1
      generalize (wr .i8 ((a:Int) - b) != 16)=x2
      generalize (wr .i8 ((a:Int).tdiv 8) != wr .i8 (wr .i8 (7 * wr .i8 (t:Int))+1))=x3
      generalize (wr .i8 ((a:Int).tdiv 8) != wr .i8 (wr .i8 (7 * wr .i8 (t:Int)) - 1))=x4
      cases x1 <;> cases x2 <;> cases x3 <;> cases x4 <;> intro h <;> first | rfl | (exfalso; revert h; decide)
     | false =>
      intro fin1 fin2
      obtain ⟨g1,g2,g3,g4⟩:=fin2.resolve_left (by decide)
      simp only [decide_eq_true_eq] at g3 g4
      obtain ⟨e,he⟩:=Int.eq_ofNat_of_zero_le g3
      obtain ⟨r1,r2⟩:=aN (acf hp hk hth hpt ht (fX (t:Int)) (wr .i64 (a:Int)) (d:=e) (by omega) he m)
      rw [g2,g1,he,r2,r1]
      refine ⟨by cases (cW (t:Int) e&&&aR q (1 - (t:Int)) 1 != 0#64) <;> rfl,?_⟩
      revert fin1
      generalize (wr .i8 ((b:Int) - a) != 16)=x1
      generalize (wr .i8 ((a:Int) - b) != 16)=x2
      generalize (wr .i8 ((a:Int).tdiv 8) != wr .i8 (wr .i8 (7 * wr .i8 (t:Int))+1))=x3
      generalize (wr .i8 ((a:Int).tdiv 8) != wr .i8 (wr .i8 (7 * wr .i8 (t:Int)) - 1))=x4
      generalize (cW (t:Int) e&&&aR q (1 - (t:Int)) 1 != 0#64)=x5
      cases x1 <;> cases x2 <;> cases x3 <;> cases x4 <;> intro h <;> first | (exfalso; revert h; decide) | (cases x5 <;> rfl)
end
theorem JH (x:BitVec 64) {k:Nat} (hk:k < 64):(x&&&1#64 <<< k != 0#64)=x.getLsbD k:=by
 have e:∀ i,i < 64→(x&&&1#64 <<< k).getLsbD i=(x.getLsbD k&&decide (i=k)):=fun i hi=>by
  rw [BitVec.getLsbD_and,fF hi]
  by_cases h:i=k
  ·subst h; simp
  ·simp [h]
 cases hx:x.getLsbD k with
 | true =>
  rw [bne_iff_ne]
  intro h
  have:=e k hk
  rw [h,hx] at this
  simp at this
 | false =>
  rw [bne_eq_false_iff_eq]
  refine BitVec.eq_of_getLsbD_eq fun i hi => ?_
  rw [e i hi,hx]
  simp
theorem Mt {a:Pos×BitVec 64×BitVec 64} {b:Int} {g:Nat} (h:(gG a b).getLsbD g=true):a.2.1.getLsbD g=false:=by
 have key:∃ X,gG a b=X &&& ~~~a.2.1:=by
  unfold gG
  repeat' (first | exact ⟨_,rfl⟩ | refine au (P:=fun x:BitVec 64 => ∃ X,x=X &&& ~~~a.2.1) (fun _ => ?_) (fun _ => ?_))
 obtain ⟨X,e⟩:=key
 rw [e,BitVec.getLsbD_and,BitVec.getLsbD_not] at h
 simp only [Bool.and_eq_true,Bool.not_eq_true'] at h
 exact h.2.2
theorem Yh (k:Int) (l:List Int) (hl:l.length≤5):∃ r,mq k l 0=some r∧cq r=decide (k ∈ l):=by
 refine ba (Q:=fun r:Unit ⊕ (Int×Bool)=>cq r=decide (k ∈ l)) (I:=fun x:Int => ∃ n:Nat,n≤l.length∧x=(n:Int)∧k ∉ l.take n) (μ:=fun x=>(l.length - x).toNat) ?_ _ ⟨0,by omega,rfl,by simp⟩ (by simp; omega)
 rintro x ⟨n,hn,rfl,h⟩
 unfold AE CG
 by_cases hc:n < l.length
 ·have ht:l.take (n+1)=l.take n++[l.getD n default]:=by
   rw [List.take_add_one,List.getD_eq_getElem?_getD,List.getElem?_eq_getElem hc]; rfl
  rw [decide_eq_true (show (n:Int) < Int.ofNat l.length from Int.ofNat_lt.2 hc),decide_eq_true (show (0:Int)≤n by omega),Int.toNat_natCast,aI (n:=(n:Int)+1) (by omega) (by omega)]
  refine ⟨rfl,?_⟩
  cases he:l.getD n default==k with
  | true =>
   show true=_
   symm
   rw [decide_eq_true_eq,← beq_iff_eq.1 he]
   exact ct hc
  | false =>
   refine ⟨⟨n+1,by omega,by simp,?_⟩,by dsimp only; omega⟩
   rw [ht,List.mem_append,List.mem_singleton]
   rintro (h1 | h1)
   ·exact h h1
   ·rw [h1] at he; simp at he
 ·rw [decide_eq_false (show ¬ ((n:Int) < Int.ofNat l.length) from fun h=>hc (Int.ofNat_lt.1 h))]
  refine ⟨rfl,?_⟩
  show false=_
  symm
  rw [decide_eq_false_iff_not]
  rw [List.take_of_length_le (by omega)] at h
  exact h
theorem IF (v:Int):(jn v).length≤5:=by
 unfold jn
 exact au (P:=fun l:List Int=>l.length≤5) (fun _=>by simp) fun _=>au (P:=fun l:List Int=>l.length≤5) (fun _=>by simp) fun _=>by simp
theorem N9 (v k:Int):zP v k=true∧Gg v k=decide (k ∈ jn v):=by
 obtain ⟨h1,h2⟩:=aN (Yh k (jn v) (IF v))
 unfold zP Gg
 rw [h1,h2]
 cases decide (k ∈ jn v) <;> exact ⟨rfl,rfl⟩
theorem jv {p:Pos} (h:there p):yd p=true:=by
 unfold yd
 rw [decide_eq_true h.2,decide_eq_true (show p.aa < 2 by have:=h.1; omega)]
 rfl
noncomputable section
variable {p:Pos} (hp:aG p) (hth:there p)
include hp hth
theorem Oa {m:Mv} (hm:m ∈ dE p):∃ f g:Nat,f < 64∧g < 64∧m.aw=f∧m.to=g∧m.bq=false∧m.aD=0∧(own p).getLsbD f=true∧(own p).getLsbD g=false∧Ch p m=true∧Py p m=true:=by
 have t0:=hp.t0
 have htt:p.aa=0∨p.aa=1:=by have:=hth.1; omega
 obtain ⟨_,f,g,hf,hg,ef,eg,hd,hc,_,_,h1,h2⟩:=gp hp.v0 hm
 have h3:m ∈ uI p f g:=by
  rw [j7 hp.v0 hth] at hm
  obtain ⟨a,_,hm⟩:=List.mem_flatMap.1 hm
  obtain ⟨b,_,hm⟩:=List.mem_flatMap.1 hm
  have:m.aw=a∧m.to=b:=by
   revert hm
   unfold uI
   refine au (P:=fun l:List Mv=>m ∈ l→_) (fun _ h=>by simp at h; rw [h]; exact ⟨rfl,rfl⟩) fun _=>au (P:=fun l:List Mv=>m ∈ l→_) (fun _ h=>by simp at h; rw [h]; exact ⟨rfl,rfl⟩) fun _ h => ?_
   obtain ⟨k,_,h⟩:=List.mem_flatMap.1 h
   simp at h; rw [h]; exact ⟨rfl,rfl⟩
  rw [← this.1,← this.2,ef,eg] at hm
  exact hm
 have hR:=CY hp hth hf hg
 rw [h1,h2] at hR
 simp only [cond_true] at hR
 rw [← hR] at h3
 have e160:mE p f g=true:=by
  cases h:mE p f g with
  | true=>rfl
  | false=>unfold fa at h3; rw [h] at h3; cases h3
 have o160:=t163 hp htt hf hg
 have wf:wr .i64 (f:Int)=f:=aI (by omega) (by omega)
 have wg:wr .i64 (g:Int)=g:=aI (by omega) (by omega)
 refine ⟨f,g,hf,hg,ef,eg,hc,hd,h1,Mt h2,?_⟩
 unfold Ch Py
 unfold fa at h3
 rw [e160] at h3
 obtain ⟨o173,e173⟩:=N9 p.variant m.aM
 rw [jv hth,hc,hd,ef,eg,wf,wg,e160,o160,fA,Int.toNat_natCast,decide_eq_false (show ¬ ((f:Int) < 0) by omega),decide_eq_false (show ¬ ((f:Int) > 63) by omega),decide_eq_false (show ¬ ((g:Int) < 0) by omega),decide_eq_false (show ¬ ((g:Int) > 63) by omega),decide_eq_true (show (0:Int)≤f by omega),decide_eq_true (show (f:Int) < Int.ofNat 64 by show (f:Int) < 64; omega),o173,e173]
 revert h3
 cases bA (p.ae.getD f 0) != 1 with
 | true=>intro h3; simp at h3; rw [h3]; exact ⟨rfl,rfl⟩
 | false =>
  cases gW p.aa g != 7 with
  | true=>intro h3; simp at h3; rw [h3]; exact ⟨rfl,rfl⟩
  | false =>
   intro h3
   simp only [Bool.not_true,cond_false,List.mem_map] at h3
   obtain ⟨k,hk,rfl⟩:=h3
   rw [decide_eq_true hk]
   exact ⟨rfl,rfl⟩
theorem rT {m:Mv} (hm:m ∈ cy p):wR p m=true∧gZ p m=aA p m:=by
 have hth1:=hth.1
 have htt:p.aa=0∨p.aa=1:=by have:=hp.t0; omega
 have hl:(dE p).length≤1000000:=Nat.le_trans (jI hp.v0) (by omega)
 have no:(m.bq=true∨(m.bq=false∧m.aD≠0))→wR p m=true∧gZ p m=aA p m:=fun h=>by
  have e133:Py p m=false∧Ch p m=true:=by
   unfold Ch Py
   rw [jv hth]
   rcases h with h | ⟨h,h'⟩
   ·rw [h]; exact ⟨rfl,rfl⟩
   ·rw [h,bne_iff_ne.2 h']; exact ⟨rfl,rfl⟩
  have hnm:m ∉ dE p:=fun hm=>by
   obtain ⟨_,_,_,_,_,_,_,hd,hc,_⟩:=gp hp.v0 hm
   rcases h with h | ⟨_,h⟩
   ·rw [h] at hc; cases hc
   ·exact h hd
  unfold wR gZ aA
  rw [e133.1,e133.2,ke hth,lf hl,decide_eq_false hnm]
  exact ⟨rfl,rfl⟩
 rw [nj] at hm
 rcases List.mem_append.1 hm with hm | hm
 ·rcases List.mem_append.1 hm with hm | hm
  ·obtain ⟨f,g,hf,hg,ef,eg,hc,hd,h1,h2,h3,h4⟩:=Oa hp hth hm
   have wg:wr .i64 (g:Int)=g:=aI (by omega) (by omega)
   have e134:=xP hp htt hg
   have o134:=t96 (p:=p) hp htt hg
   have hb:=ei hp (scale 1 (f:Int)).toNat
   obtain ⟨e89,_⟩:=qD hb.1 hb.2
   unfold wR gZ aA
   rw [h3,h4,ke hth,lf hl,decide_eq_true hm,ef,eg,wg,e134,o134,cN (by omega) (by omega),Int.toNat_natCast,e89,BitVec.getLsbD_or,h2]
   simp only [Bool.false_or,Bool.not_not]
   rw [JH _ hg,decide_eq_true (show (0:Int)≤f by omega),decide_eq_true (show (f:Int) < Int.ofNat 64 by show (f:Int) < 64; omega)]
   refine ⟨by cases (gO p).getLsbD g <;> rfl,?_⟩
   have e90:wr .i64 ((g:Int) - fX p.aa)=cS (wr .u8 (1 - p.aa)) g:=by
    rcases htt with h | h <;> rw [h] <;> unfold cS fX
    ·show wr .i64 ((g:Int) - 8)=wr .i64 ((g:Int) - 8); rfl
    ·show wr .i64 ((g:Int) - -8)=wr .i64 ((g:Int)+8)
     congr 1
   rw [e90]
   rfl
  ·obtain ⟨_,_,_,_,_,hc,_⟩:=td hp hm
   exact no (.inl hc)
 ·obtain ⟨_,_,_,_,_,hc,d1,_⟩:=kN hp.t0 hm
  exact no (.inr ⟨hc,by omega⟩)
end
def StI {X R:Type} (I:X→Prop) (Q:R→Prop):aF X R→Prop
 | .go y=>I y
 | .out r=>Q r
 | .bad=>True
theorem uh {X R:Type} {f:X→aF X R} (I:X→Prop) (Q:R→Prop) (h:∀ x,I x→StI I Q (f x)):∀ (n:Nat) (x:X) (r:R),I x→cP f n x=some r→Q r
 | 0,_,_,_,e=>by cases e
 | n+1,x,r,hx,e=>by
  have:=h x hx
  unfold cP at e
  cases hf:f x with
  | go y=>rw [hf] at this e; exact uh I Q h n y r this e
  | out r'=>rw [hf] at this e; cases e; exact this
  | bad=>rw [hf] at e; cases e
def SC (q r:Pos):Prop:=r.half=q.half∧r.full=q.full
theorem SC.rfl {q:Pos}:SC q q:=⟨Eq.refl _,Eq.refl _⟩
abbrev VE (q:Pos):aF (Int×Pos) (Int×Bool×Pos)→Prop:=StI (fun x=>SC q x.2) (fun r=>SC q r.2.2)
theorem sc6 {q:Pos} (c k:Int) (l:List Int) (a:Pos) (m1:Mv) (b:Pos) (m2:Mv) (e:Int) {x:Int×Pos} {r:Int×Bool×Pos} (hx:SC q x.2) (h:lS c k l a m1 b m2 e x=some r):SC q r.2.2:=by
 unfold lS at h
 refine uh (fun x=>SC q x.2) (fun r=>SC q r.2.2) (fun x hx => ?_) many x r hx h
 show VE q _
 refine au (P:=fun s=>VE q s) (fun _ => ?_) fun _=>trivial
 unfold wj
 repeat' (first | exact (show SC q _ from hx) | refine au (P:=fun s=>VE q s) (fun _ => ?_) (fun _ => ?_))
theorem sc7 {q:Pos} (a:Pos) (m1:Mv) (b:Pos) (m2:Mv) (e:Int) {x:Int×Pos} {r:Int×Bool×Pos} (hx:SC q x.2) (h:dC a m1 b m2 e x=some r):SC q r.2.2:=by
 unfold dC at h
 refine uh (fun x=>SC q x.2) (fun r=>SC q r.2.2) (fun x hx => ?_) many x r hx h
 show VE q _
 refine au (P:=fun s=>VE q s) (fun hok => ?_) fun _=>trivial
 unfold Cu
 unfold wV at hok
 refine au (P:=fun s=>VE q s) (fun hc => ?_) (fun _=>hx)
 rw [hc] at hok
 simp only [cond_true,Bool.and_eq_true] at hok
 obtain ⟨_,_,h6,_⟩:=hok
 exact sc6 _ _ _ _ _ _ _ _ (x:=(0,x.2)) hx (qc h6)
theorem WI (q:Pos) (b c:Int):SC q (jj q b c).1:=by
 unfold jj
 exact au (P:=fun x:Pos×Bool=>SC q x.1) (fun _=>⟨rfl,rfl⟩) fun _=>au (P:=fun x:Pos×Bool=>SC q x.1) (fun _=>⟨rfl,rfl⟩) fun _=>⟨rfl,rfl⟩
theorem Y5 (q:Pos) (b c:Int):SC q (bp q b c):=by
 unfold bp
 exact au (P:=fun x:Pos=>SC q x) (fun _=>au (P:=fun x:Pos=>SC q x) (fun _=>⟨rfl,rfl⟩) fun _=>⟨rfl,rfl⟩) fun _=>⟨rfl,rfl⟩
noncomputable section
variable {p:Pos} (hp:aG p) {m:Mv}
include hp
theorem sc1 (q:Pos) (c:Int):SC q (bL p m q p m c):=by
 have h:=WI q q.aa m.aD
 unfold bL
 repeat' (first | exact ⟨rfl,rfl⟩ | exact h | refine au (P:=fun x:Pos=>SC q x) (fun _ => ?_) (fun _ => ?_))
theorem sc2 (q:Pos) (c:Int):SC q (cf p m q p m c):=by
 have h:=Y5 q q.aa
 unfold cf
 repeat' (first | exact ⟨rfl,rfl⟩ | exact h _ | refine au (P:=fun x:Pos=>SC q x) (fun _ => ?_) (fun _ => ?_))
theorem sc4 {q:Pos} (hk:dm p q) (c:Int):SC q (cC p m q p m c):=by
 obtain ⟨b1,C,b2,b3,b4⟩:=aN (O5 hk.bW (l:=gK (pR q (wr .i64 m.to))) (by rw [dw]; exact eU _ _) (fun s hs=>by rw [dw] at hs; exact lM hs) p p m m c)
 unfold cC
 rw [b2]
 repeat' (first | exact ⟨rfl,rfl⟩ | refine au (P:=fun x:Pos=>SC q x) (fun _ => ?_) (fun _ => ?_))
theorem sc8 (ht:p.aa≤1) {q:Pos} (h:dm p q) (c:Int):SC q (cG p m q p m c):=by
 have t0:=hp.t0
 have h2:dm p ⟨q.variant,q.ae,q.ab,q.af,q.aa,List.take (scale 2 q.aa).toNat q.ai++li [-1,-1]++List.drop ((scale 2 q.aa).toNat+2) q.ai,q.ah,q.ag,q.half,q.full⟩:=by
  refine h.ai ?_ ?_
  ·have hr:=h.bW.rl
   have:(scale 2 q.aa).toNat≤2:=by rw [h.t]; unfold scale; simp; omega
   simp [li,hr]
   omega
  ·intro x hx
   simp only [List.mem_append,li] at hx
   rcases hx with (hx | hx) | hx
   ·exact h.bW.r0 x (List.mem_of_mem_take hx)
   ·simp at hx; omega
   ·exact h.bW.r0 x (List.mem_of_mem_drop hx)
 obtain ⟨r1,k1,_⟩:=fO h p p m m c
 obtain ⟨r2,k2,_⟩:=fO h2 p p m m c
 have b1:SC q r1.2.2:=sc7 p m p m c (x:=(0,q)) SC.rfl k1
 have b2:SC q r2.2.2:=sc7 p m p m c (x:=(0,⟨q.variant,q.ae,q.ab,q.af,q.aa,List.take (scale 2 q.aa).toNat q.ai++li [-1,-1]++List.drop ((scale 2 q.aa).toNat+2) q.ai,q.ah,q.ag,q.half,q.full⟩)) ⟨rfl,rfl⟩ k2
 unfold cG
 rw [k1,k2]
 repeat' (first | exact b1 | exact b2 | refine au (P:=fun x:Pos=>SC q x) (fun _ => ?_) (fun _ => ?_))
end
def qz (p:Pos) (m:Mv) (d:Int):Int:=bif m.aD==1 then 0 else bif m.aD==0 then (bif bA (p.ae.getD (scale 1 m.aw).toNat 0)==1 then 0 else bif decide (d ≥ 0) then 0 else dQ p.half) else bif decide (d ≥ 0) then 0 else dQ p.half
def U7 (p z:Pos) (s h f:Int):Pos :=
 bif z.variant==5 then (bif decide (z.ag.getD (scale 1 p.aa).toNat 0 < 3) then (bif mM (Pos.mk z.variant z.ae z.ab z.af (wr .u8 (1 - p.aa)) z.ai s z.ag h f) (wr .u8 (1 - p.aa)) then Pos.mk z.variant z.ae z.ab z.af (wr .u8 (1 - p.aa)) z.ai s (z.ag.set (scale 1 p.aa).toNat (wr .u8 (z.ag.getD (scale 1 p.aa).toNat 0+1))) h f else Pos.mk z.variant z.ae z.ab z.af (wr .u8 (1 - p.aa)) z.ai s z.ag h f) else Pos.mk z.variant z.ae z.ab z.af (wr .u8 (1 - p.aa)) z.ai s z.ag h f) else Pos.mk z.variant z.ae z.ab z.af (wr .u8 (1 - p.aa)) z.ai s z.ag h f
def E9 (p:Pos) (m:Mv) (d:Int):Pos:=zT p (Ay p m d) m d
def FC (p:Pos) (m:Mv) (d:Int):Pos:=Oi p (bif p.variant==3 then (bif decide (d ≥ 0) then ((lX d (LZ (E9 p m d) (wr .i64 m.to)) p m (0,E9 p m d)).getD default).2.2 else E9 p m d) else E9 p m d) m d
theorem MJ (p:Pos) (m:Mv):Af p m=U7 p (FC p m (gZ p m)) (eF p (FC p m (gZ p m)) m) (qz p m (gZ p m)) (bif p.aa==1 then dQ p.full else (FC p m (gZ p m)).full):=by
 unfold Af FC E9 qz
 dsimp only
 cases p.variant==3 <;> cases decide (gZ p m ≥ 0) <;> cases m.aD==1 <;> cases m.aD==0 <;> cases bA (p.ae.getD (scale 1 m.aw).toNat 0)==1 <;> cases p.aa==1 <;> rfl
noncomputable section
variable {p:Pos} (hp:aG p) (hth:there p) {m:Mv}
include hp
theorem pr1 (q:Pos) (c:Int):(bL p m q p m c).ab=q.ab:=by
 have h:(jj q q.aa m.aD).1.ab=q.ab:=by
  unfold jj
  exact au (P:=fun x:Pos×Bool=>x.1.ab=q.ab) (fun _=>rfl) fun _=>au (P:=fun x:Pos×Bool=>x.1.ab=q.ab) (fun _=>rfl) fun _=>rfl
 unfold bL
 repeat' (first | exact rfl | exact h | refine au (P:=fun x:Pos=>x.ab=q.ab) (fun _ => ?_) (fun _ => ?_))
include hth
theorem S9 {z:Pos} (hz:dm p z) (hsc:SC p z) (hm:m ∈ cy p) (d:Int):U7 p z (eF p z m) (qz p m d) (bif p.aa==1 then dQ p.full else z.full)=cM p m (cK p m (dg p m z p m d) p m d) p m d ∧
  ∀ h f:Int,(h=0∨h=dQ p.half)→(f=dQ p.full∨f=z.full)→iK (Pos.mk z.variant z.ae z.ab z.af (wr .u8 (1 - p.aa)) z.ai (eF p z m) z.ag h f) (wr .u8 (1 - p.aa))=true:=by
 obtain ⟨_,f0,f1,_⟩:=iN hp hm
 obtain ⟨t,hpt,ht⟩:=gv hp hth.1
 obtain ⟨_,e9⟩:=rI hp hz hth hm d
 have k9:=(Di m hz (fun _=>⟨f0,f1⟩) p m d).2
 rw [e9] at k9
 have sp0 : -128≤eF p z m:=k9.bW.p0
 have sp1:eF p z m≤127:=k9.bW.p1
 have wt:wr .u8 (1 - p.aa)=((1 - t:Nat):Int):=by rw [hpt,oZ (by omega) (by omega)]; omega
 have n102:∀ n:Int,-9223372036854775808≤n∧n≤9223372036854775807 → -9223372036854775808≤dQ n∧dQ n≤9223372036854775807:=fun n hn=>wN hn
 have bW:∀ h f:Int,(-9223372036854775808≤h∧h≤9223372036854775807)→(-9223372036854775808≤f∧f≤9223372036854775807)→aG (Pos.mk z.variant z.ae z.ab z.af (wr .u8 (1 - p.aa)) z.ai (eF p z m) z.ag h f):=fun h f hh hf =>
  ⟨hz.bW.v0,hz.bW.v1,hz.bW.bl,hz.bW.b0,hz.bW.kl,hz.bW.k0,by show 0≤wr .u8 (1 - p.aa); rw [wt]; omega,by show wr .u8 (1 - p.aa)≤255; rw [wt]; omega,hz.bW.rl,hz.bW.r0,sp0,sp1,hz.bW.cl,hz.bW.c0,hh,hf⟩
 have tt:∀ h f:Int,(Pos.mk z.variant z.ae z.ab z.af (wr .u8 (1 - p.aa)) z.ai (eF p z m) z.ag h f).aa=0∨(Pos.mk z.variant z.ae z.ab z.af (wr .u8 (1 - p.aa)) z.ai (eF p z m) z.ag h f).aa=1:=fun h f=>by
  show wr .u8 (1 - p.aa)=0∨wr .u8 (1 - p.aa)=1
  rw [wt]; omega
 have ttw:wr .u8 (1 - p.aa)=0∨wr .u8 (1 - p.aa)=1:=by rw [wt]; omega
 refine ⟨?_,fun h f hh hf => ?_⟩
 ·have hb:=ei hp (scale 1 m.aw).toNat
  obtain ⟨e89,_⟩:=qD hb.1 hb.2
  have e10:cK p m (LJ z (eF p z m)) p m d=⟨z.variant,z.ae,z.ab,z.af,z.aa,z.ai,eF p z m,z.ag,qz p m d,bif p.aa==1 then dQ p.full else z.full⟩:=by
   unfold cK qz LJ
   dsimp only
   rw [e89,hz.t,hsc.1,hsc.2,show kQ p.half=dQ p.half from rfl,show kQ p.full=dQ p.full from rfl]
   by_cases h0:m.aD=0
   ·rw [h0]
    cases bA (p.ae.getD (scale 1 m.aw).toNat 0)==1 <;> cases decide (d ≥ 0) <;> cases p.aa==1 <;> rfl
   ·rw [bne_iff_ne.2 h0,beq_eq_false_iff_ne.2 h0]
    cases m.aD==1 <;> cases decide (d ≥ 0) <;> cases p.aa==1 <;> rfl
  rw [e9,e10]
  have hH : -9223372036854775808≤qz p m d∧qz p m d≤9223372036854775807:=by
   unfold qz
   repeat' (first | exact ⟨by omega,by omega⟩ | exact n102 _ hp.h0 | refine au (P:=fun x:Int => -9223372036854775808≤x∧x≤9223372036854775807) (fun _ => ?_) (fun _ => ?_))
  have hF : -9223372036854775808≤(bif p.aa==1 then dQ p.full else z.full)∧(bif p.aa==1 then dQ p.full else z.full)≤9223372036854775807 :=
   au (P:=fun x:Int => -9223372036854775808≤x∧x≤9223372036854775807) (fun _=>n102 _ hp.f0) (fun _=>hz.bW.f0)
  unfold U7 cM
  dsimp only
  rw [hz.t,(pB (bW _ _ hH hF) (tt _ _) ttw).2]
  have back:wr .u8 (1 - wr .u8 (1 - p.aa))=p.aa:=by rw [wt,hpt,oZ (by omega) (by omega)]; omega
  rw [back]
 ·refine (pB (bW h f ?_ ?_) (tt h f) ttw).1
  ·rcases hh with rfl | rfl
   ·omega
   ·exact n102 _ hp.h0
  ·rcases hf with rfl | rfl
   ·exact n102 _ hp.f0
   ·exact hz.bW.f0
theorem xx (hm:m ∈ cy p):Ex p m=true∧Af p m=Eb p m:=by
 obtain ⟨_,f0,f1,o0,o1,_,d5,_⟩:=iN hp hm
 have hb8 : -128≤m.aw∧m.aw≤127:=by omega
 obtain ⟨o79,e79⟩:=rT hp hth hm
 obtain ⟨o116,e116⟩:=RH hp hm
 have k1:dm p (bL p m p p m (aA p m)):=CF hp m p m (aA p m)
 obtain ⟨o117,e117⟩:=E4 hp k1 (pr1 hp p _) hm
 have k2:=CB m k1 p m (aA p m)
 obtain ⟨o118,l58,e4⟩:=NY (p:=p) k2 o0 o1 (aA p m)
 have k4:=(Dv m k2 p m (aA p m)).2
 obtain ⟨o120,e120⟩:=EA hp k4 hb8 (aA p m) hth.1 (fun _=>⟨f0,f1⟩) d5
 have k8:=(D0 hp m hth.1 k4 (fun _=>⟨f0,f1⟩) p m (aA p m)).2
 obtain ⟨o121,_⟩:=rI hp k8 hth hm (aA p m)
 have s1:=sc1 hp (m:=m) p (aA p m)
 have s2:=sc2 hp (m:=m) (bL p m p p m (aA p m)) (aA p m)
 have s4:=sc4 hp (m:=m) k2 (aA p m)
 have s8:=sc8 hp (m:=m) hth.1 k4 (aA p m)
 have hsc:SC p (cG p m (cC p m (cf p m (bL p m p p m (aA p m)) p m (aA p m)) p m (aA p m)) p m (aA p m)) :=
  ⟨s8.1.trans (s4.1.trans (s2.1.trans s1.1)),s8.2.trans (s4.2.trans (s2.2.trans s1.2))⟩
 obtain ⟨eEnd,o47⟩:=S9 hp hth k8 hsc hm (aA p m)
 have e3:FC p m (aA p m)=cG p m (cC p m (cf p m (bL p m p p m (aA p m)) p m (aA p m)) p m (aA p m)) p m (aA p m):=by
  unfold FC E9
  rw [e116,e117,e4,e120]
 constructor
 ·have i1:decide (0≤p.aa)=true:=decide_eq_true hp.t0
  have i2:decide (p.aa < Int.ofNat 2)=true:=decide_eq_true (by show p.aa < 2; have:=hth.1; omega)
  have i3:decide (0≤m.aw)=true:=decide_eq_true f0
  have i4:decide (m.aw < Int.ofNat 64)=true:=decide_eq_true f1
  unfold Ex
  dsimp only
  rw [e79,o79,o116,e116,o117,e117,o118]
  generalize hz:cG p m (cC p m (cf p m (bL p m p p m (aA p m)) p m (aA p m)) p m (aA p m)) p m (aA p m)=z at *
  have a1:=o47 0 (dQ p.full) (.inl rfl) (.inl rfl)
  have a2:=o47 0 z.full (.inl rfl) (.inr rfl)
  have a3:=o47 (dQ p.half) (dQ p.full) (.inr rfl) (.inl rfl)
  have a4:=o47 (dQ p.half) z.full (.inr rfl) (.inr rfl)
  cases h3:p.variant==3 with
  | false =>
   rw [h3] at e4
   simp only [cond_false] at e4
   rw [e4,e120,o120,o121,i1,i2,i3,i4]
   simp only [a1,a2,a3,a4,Bool.true_and,Bool.and_true,cond_false]
   cases m.aD==1 <;> cases m.aD==0 <;> cases bA (p.ae.getD (scale 1 m.aw).toNat 0)==1 <;> cases decide (aA p m ≥ 0) <;> cases p.aa==1 <;> cases z.variant==5 <;> simp
  | true =>
   rw [h3] at e4
   simp only [cond_true] at e4
   cases hd:decide (aA p m ≥ 0) with
   | false =>
    rw [hd] at e4
    simp only [cond_false] at e4
    rw [e4,e120,o120,o121,i1,i2,i3,i4]
    simp only [a1,a2,a3,a4,Bool.true_and,Bool.and_true,cond_false,cond_true]
    cases m.aD==1 <;> cases m.aD==0 <;> cases bA (p.ae.getD (scale 1 m.aw).toNat 0)==1 <;> cases p.aa==1 <;> cases z.variant==5 <;> simp
   | true =>
    rw [hd] at e4
    simp only [cond_true] at e4
    rw [e4,l58,e120,o120,o121,i1,i2,i3,i4]
    simp only [a1,a2,a3,a4,Bool.true_and,Bool.and_true,cond_true]
    cases m.aD==1 <;> cases m.aD==0 <;> cases bA (p.ae.getD (scale 1 m.aw).toNat 0)==1 <;> cases p.aa==1 <;> cases z.variant==5 <;> simp
 ·rw [MJ,e79,e3,eEnd]
  rfl
end
theorem lQ {q:Pos} (hq:aG q) {c:Int} (hc:c=0∨c=1):pq q c=true∧oQ q c=bb q c 6:=by
 obtain ⟨h1,h2⟩:=sV hq hc (k:=6) (by omega) (by omega)
 exact ⟨ao h1 fun _=>rfl,h2⟩
theorem DM (x:Int):decide (x < 0)=!decide (x ≥ 0):=by
 by_cases h:x < 0
 ·rw [decide_eq_true h,decide_eq_false (show ¬ x ≥ 0 by omega)]; rfl
 ·rw [decide_eq_false h,decide_eq_true (show x ≥ 0 by omega)]; rfl
noncomputable section
variable {p:Pos} (hp:aG p) (hth:there p)
include hp hth
theorem Tx:Fa p=true∧D4 p=cy p:=by
 obtain ⟨a1,a2⟩:=T5 hp hth
 obtain ⟨b1,b2⟩:=UP hp
 obtain ⟨c1,c2⟩:=U3 hp
 have l1:(dE p).length≤20480:=jI hp.v0
 have l2:=tF (p:=p) hp
 have l3:=uc (p:=p) hp.t0
 unfold Fa D4
 rw [a1,a2,b1,b2,c1,c2,nj,List.nil_append]
 refine ⟨?_,rfl⟩
 rw [decide_eq_true (show 0+(dE p).length≤1073741824 by omega),decide_eq_true (show (dE p).length+(dZ p).length≤1073741824 by omega),decide_eq_true (show (dE p++dZ p).length+(mG p).length≤1073741824 by rw [List.length_append]; omega),beq_self_eq_true,beq_self_eq_true,beq_self_eq_true]
 rfl
theorem NL {m:Mv} (hm:m ∈ cy p):I9 p (Af p m)=true∧VB p (Af p m)=jL p m:=by
 obtain ⟨t,hpt,ht⟩:=gv hp hth.1
 obtain ⟨_,e58⟩:=xx hp hth hm
 have hmv:=(lN hp m).2.1 hm
 have e17:jg p m=(Eb p m,true):=by
  rw [Ee,lf (by have:=mc hp; omega),decide_eq_true hm]; rfl
 rw [e17] at hmv
 obtain ⟨_,hq,_,htq⟩:=hmv
 have hqt:(Eb p m).aa=0∨(Eb p m).aa=1:=by have:(Eb p m).aa=1 - p.aa:=htq; omega
 have hc:p.aa=0∨p.aa=1:=by omega
 have hc':wr .u8 (1 - p.aa)=0∨wr .u8 (1 - p.aa)=1:=by rw [hpt,oZ (by omega) (by omega)]; omega
 obtain ⟨o1,e1⟩:=lQ hq hc
 obtain ⟨o2,e2⟩:=lQ hq hc'
 obtain ⟨o3,e3⟩:=pB hq hqt hc
 obtain ⟨o4,e4⟩:=pB hq hqt hc'
 have er:=rH (v:=p.variant) hp.v0 hc
 rw [e58]
 unfold I9 VB jL FK
 rw [e17,er,e1,e2,e3,e4,o1,o2,o3,o4,DM,DM]
 simp only [Bool.not_true,Bool.not_not,cond_false,Bool.true_and,Bool.and_true,bne]
 cases yg p.variant p.aa <;> cases p.variant==3 <;> cases decide (bb (Eb p m) p.aa 6 ≥ 0) <;> cases decide (bb (Eb p m) (wr .u8 (1 - p.aa)) 6 ≥ 0) <;> cases yf (Eb p m) p.aa <;> cases p.variant==8 <;> cases yf (Eb p m) (wr .u8 (1 - p.aa)) <;> exact ⟨rfl,rfl⟩
theorem abQ:∃ r,fR (cy p) p 0 ([],[],0,0)=some r∧r.1=(cy p).filter (jL p)∧r.2.1=(bif p.variant==4 then ((cy p).filter (jL p)).filter (kc p) else []):=by
 have hlen:=mc hp
 refine ba (Q:=fun r:List Mv×List Mv×Int×Bool×Nat=>r.1=(cy p).filter (jL p)∧r.2.1=(bif p.variant==4 then ((cy p).filter (jL p)).filter (kc p) else [])) (I:=fun x:List Mv×List Mv×Int×Nat => ∃ n:Nat,n≤(cy p).length∧x.2.2.1=n∧x.1=((cy p).take n).filter (jL p)∧x.2.1=(bif p.variant==4 then (((cy p).take n).filter (jL p)).filter (kc p) else [])∧x.2.2.2=x.2.1.length) (μ:=fun x=>((cy p).length - x.2.2.1).toNat) ?_ _ ⟨0,by omega,rfl,by simp,by cases p.variant==4 <;> simp,rfl⟩ (by simp; omega)
 rintro ⟨a,b,x,k⟩ ⟨n,hn,hx,ha,hb,hk⟩
 simp only at hx ha hb hk
 subst hx ha hk
 unfold CQ Gl
 dsimp only
 by_cases hc:n < (cy p).length
 ·have hm:(cy p).getD n default ∈ cy p:=ct hc
  have ht:(cy p).take (n+1)=(cy p).take n++[(cy p).getD n default]:=by
   rw [List.take_add_one,List.getD_eq_getElem?_getD,List.getElem?_eq_getElem hc]; rfl
  have la:(((cy p).take n).filter (jL p)).length≤n:=Nat.le_trans (List.length_filter_le _ _) (by rw [List.length_take]; omega)
  have lb:b.length≤n:=by
   rw [hb]
   refine au (P:=fun l:List Mv=>l.length≤n) (fun _=>Nat.le_trans (List.length_filter_le _ _) la) fun _=>by simp
  rw [decide_eq_true (show (n:Int) < Int.ofNat (cy p).length from Int.ofNat_lt.2 hc),decide_eq_true (show (0:Int)≤n by omega),Int.toNat_natCast,aI (n:=(n:Int)+1) (by omega) (by omega)]
  generalize (cy p).getD n default=m at *
  obtain ⟨o58,_⟩:=xx hp hth hm
  obtain ⟨o78,e78⟩:=NL hp hth hm
  obtain ⟨o79,e79⟩:=rT hp hth hm
  have eT:kc p m=decide (aA p m ≥ 0):=rfl
  rw [o58,o78,e78,o79,e79,decide_eq_true (show (((cy p).take n).filter (jL p)).length+1≤1073741824 by omega),decide_eq_true (show b.length+1≤1073741824 by omega),beq_self_eq_true,beq_self_eq_true]
  constructor
  ·cases jL p m <;> cases p.variant==4 <;> cases decide (aA p m ≥ 0) <;> rfl
  ·have go:∀ (a' b':List Mv) (k':Nat),a'=((cy p).take (n+1)).filter (jL p)→b'=(bif p.variant==4 then (((cy p).take (n+1)).filter (jL p)).filter (kc p) else [])→k'=b'.length →
     rR (fun x:List Mv×List Mv×Int×Nat => ∃ n:Nat,n≤(cy p).length∧x.2.2.1=n∧x.1=((cy p).take n).filter (jL p)∧x.2.1=(bif p.variant==4 then (((cy p).take n).filter (jL p)).filter (kc p) else [])∧x.2.2.2=x.2.1.length) (fun r:List Mv×List Mv×Int×Bool×Nat=>r.1=(cy p).filter (jL p)∧r.2.1=(bif p.variant==4 then ((cy p).filter (jL p)).filter (kc p) else [])) (fun x:List Mv×List Mv×Int×Nat=>((cy p).length - x.2.2.1).toNat) ((((cy p).length:Int) - (n:Int)).toNat) (.go (a',b',(n:Int)+1,k')) :=
    fun a' b' k' h1 h2 h3=>⟨⟨n+1,by omega,by simp,h1,h2,h3⟩,by dsimp only; omega⟩
   have hf:((cy p).take (n+1)).filter (jL p)=bif jL p m then ((cy p).take n).filter (jL p)++[m] else ((cy p).take n).filter (jL p):=by
    rw [ht,List.filter_append]
    cases h:jL p m <;> simp [h]
   cases hw:jL p m with
   | false =>
    rw [hw] at hf
    exact go _ _ _ (by rw [hf]; rfl) (by rw [hf]; exact hb) rfl
   | true =>
    rw [hw] at hf
    simp only [cond_true] at hf
    cases hv:p.variant==4 with
    | false=>rw [hv] at hb go; exact go _ _ _ hf.symm hb rfl
    | true =>
     rw [hv] at hb go
     simp only [cond_true] at hb
     have hf2:(((cy p).take n).filter (jL p)++[m]).filter (kc p)=bif kc p m then b++[m] else b:=by
      rw [List.filter_append,hb]
      cases h:kc p m <;> simp [h]
     cases hd:decide (aA p m ≥ 0) with
     | false=>exact go _ b _ hf.symm (by rw [hf,cond_true,hf2,eT,hd]; rfl) rfl
     | true=>exact go _ (b++[m]) _ hf.symm (by rw [hf,cond_true,hf2,eT,hd]; rfl) rfl
 ·rw [decide_eq_false (show ¬ ((n:Int) < Int.ofNat (cy p).length) from fun h=>hc (Int.ofNat_lt.1 h))]
  have:n=(cy p).length:=by omega
  subst this
  rw [List.take_length] at hb ⊢
  exact ⟨rfl,rfl,hb⟩
theorem LA:xb p=true∧FF p=kC p:=by
 obtain ⟨t,hpt,ht⟩:=gv hp hth.1
 have hc:p.aa=0∨p.aa=1:=by omega
 obtain ⟨a1,a2⟩:=Tx hp hth
 obtain ⟨b1,b2,b3⟩:=aN (abQ hp hth)
 obtain ⟨o1,e1⟩:=lQ hp hc
 have er:=rH (v:=p.variant) hp.v0 hc
 rw [BZ hp]
 unfold xb FF FK lW
 rw [jv hth,er,a1,a2,e1,o1,b1,b2,b3,DM]
 refine ⟨by cases yg p.variant p.aa <;> cases decide (bb p p.aa 6 ≥ 0) <;> rfl,?_⟩
 have any:∀ l:List Mv,decide (Int.ofNat (l.filter (kc p)).length > 0)=l.any (kc p):=fun l=>by
  rw [Bool.eq_iff_iff,decide_eq_true_eq,List.any_eq_true]
  constructor
  ·intro h
   have h:0 < (l.filter (kc p)).length:=Int.ofNat_lt.1 h
   obtain ⟨x,hx⟩:=List.exists_mem_of_length_pos h
   exact ⟨x,(List.mem_filter.1 hx).1,(List.mem_filter.1 hx).2⟩
  ·rintro ⟨x,h1,h2⟩
   exact Int.ofNat_lt.2 (List.length_pos_of_mem (List.mem_filter.2 ⟨h1,h2⟩))
 cases p.variant==4 with
 | false=>cases yg p.variant p.aa <;> cases decide (bb p p.aa 6 ≥ 0) <;> rfl
 | true =>
  simp only [cond_true]
  rw [any]
  cases yg p.variant p.aa <;> cases decide (bb p p.aa 6 ≥ 0) <;> rfl
end
theorem Jl {c w:Int} (hc:c=0∨c=1):mW c w=da c w:=by
 rcases hc with rfl | rfl <;> rfl
theorem HU:∀ s:Fin 64,(iR BinOp.and .i64 (Int.fdiv 103481868288 (2 ^ min (BitVec.ofInt 64 (s.val:Int)).toNat 64)) 1==1)=RO s.val:=by decide +kernel
theorem C2 {s:Int} (h0 : -1≤s) (h1:s < 64):(bif decide (s ≥ 0) then (iR BinOp.and .i64 (Int.fdiv 103481868288 (2 ^ min (BitVec.ofInt 64 s).toNat 64)) 1==1) else false)=RO s:=by
 by_cases h:s ≥ 0
 ·obtain ⟨n,rfl⟩:=Int.eq_ofNat_of_zero_le h
  rw [decide_eq_true h]
  exact HU ⟨n,by omega⟩
 ·have:s = -1:=by omega
  subst this
  rfl
noncomputable section
variable {p:Pos} (hp:aG p)
include hp
theorem ae3 {c:Int} (hc:c=0∨c=1) (ht:p.aa=0∨p.aa=1):∃ r,pt c p 0=some r∧cq r=(aR p c 0 != 0#64):=by
 refine ba (Q:=fun r:Unit ⊕ (Int×Bool)=>cq r=(aR p c 0 != 0#64)) (I:=fun x:Int => ∃ n:Nat,n≤64∧x=(n:Int)∧∀ s,s < n→(aR p c 0).getLsbD s=false) (μ:=fun x=>(64 - x).toNat) ?_ _ ⟨0,by omega,rfl,fun s hs=>by omega⟩ (by simp)
 rintro x ⟨n,hn,rfl,h⟩
 unfold CT Iy
 rw [show (⟨p.variant,p.ae,p.ab,p.af,p.aa,p.ai,p.ah,p.ag,p.half,p.full⟩:Pos)=p from rfl]
 by_cases h64:n < 64
 ·have hb:=kh hp ht hc h64
  have ho:=t83 hp ht h64 c
  rw [hb,ho,decide_eq_true (show (n:Int) < 64 by omega),aI (n:=(n:Int)+1) (by omega) (by omega)]
  cases hx:(aR p c 0).getLsbD n with
  | true =>
   refine ⟨rfl,?_⟩
   show true=_
   symm
   rw [bne_iff_ne]
   intro e
   rw [e] at hx
   simp at hx
  | false =>
   exact ⟨rfl,⟨n+1,by omega,by simp,fun s hs=>by
    by_cases e:s=n
    ·rw [e]; exact hx
    ·exact h s (by omega)⟩,by dsimp only; omega⟩
 ·have:n=64:=by omega
  subst this
  refine ⟨rfl,?_⟩
  show false=_
  symm
  rw [bne_eq_false_iff_eq]
  exact BitVec.eq_of_getLsbD_eq fun i hi=>by rw [h i hi]; simp
theorem BL {c:Int} (hc:c=0∨c=1) (ht:p.aa=0∨p.aa=1):AU p c=true∧Qw p c=(aR p c 0 != 0#64):=by
 obtain ⟨h1,h2⟩:=aN (ae3 hp hc ht)
 unfold AU Qw
 rw [show (⟨p.variant,p.ae,p.ab,p.af,p.aa,p.ai,p.ah,p.ag,p.half,p.full⟩:Pos)=p from rfl,h1,h2]
 cases aR p c 0 != 0#64 <;> exact ⟨rfl,rfl⟩
def oS (k:Int) (l:List Mv):Bool:=l.any fun m=>wr .i64 m.aw==k&&decide (m.to ≥ 56)
omit hp in
theorem yX {α:Type} (f:α→Bool) (d:α):∀ (l:List α) (n:Nat),n < l.length→(l.take (n+1)).any f=((l.take n).any f || f (l.getD n d)):=fun l n h=>by
 rw [List.take_add_one,List.getD_eq_getElem?_getD,List.getElem?_eq_getElem h,List.any_append]
 simp
theorem ahy (ht:p.aa=1) (l:List Mv) (hl:l.length≤1000000):∃ r,je l p 0=some r∧cq r=oS (bb p 1 6) l:=by
 obtain ⟨o1,e1⟩:=lQ hp (c:=1) (by omega)
 refine ba (Q:=fun r:Unit ⊕ (Int×Bool)=>cq r=oS (bb p 1 6) l) (I:=fun x:Int => ∃ n:Nat,n≤l.length∧x=(n:Int)∧oS (bb p 1 6) (l.take n)=false) (μ:=fun x=>(l.length - x).toNat) ?_ _ ⟨0,by omega,rfl,rfl⟩ (by simp; omega)
 rintro x ⟨n,hn,rfl,h⟩
 unfold xk AW
 by_cases hc:n < l.length
 ·have ha:=yX (fun m:Mv=>wr .i64 m.aw==bb p 1 6&&decide (m.to ≥ 56)) default l n hc
  rw [decide_eq_true (show (n:Int) < Int.ofNat l.length from Int.ofNat_lt.2 hc),decide_eq_true (show (0:Int)≤n by omega),Int.toNat_natCast,aI (n:=(n:Int)+1) (by omega) (by omega),o1,e1,ht]
  have h55:decide ((l.getD n default).to > 55)=decide ((l.getD n default).to ≥ 56):=by rw [decide_eq_decide]; omega
  rw [h55]
  unfold oS at h ⊢
  rw [h,Bool.false_or] at ha
  cases hx:wr .i64 (l.getD n default).aw==bb p 1 6 with
  | false=>rw [hx] at ha; exact ⟨rfl,⟨n+1,by omega,by simp,ha⟩,by dsimp only; omega⟩
  | true =>
   rw [hx] at ha
   cases hy:decide ((l.getD n default).to ≥ 56) with
   | false=>rw [hy] at ha; exact ⟨rfl,⟨n+1,by omega,by simp,ha⟩,by dsimp only; omega⟩
   | true =>
    refine ⟨rfl,?_⟩
    show true=_
    symm
    rw [List.any_eq_true]
    exact ⟨_,ct hc,by rw [hx,hy]; rfl⟩
 ·rw [decide_eq_false (show ¬ ((n:Int) < Int.ofNat l.length) from fun h=>hc (Int.ofNat_lt.1 h))]
  refine ⟨rfl,?_⟩
  rw [List.take_of_length_le (by omega)] at h
  exact h.symm
omit hp in
theorem RZ (l:List Mv) (hl:l.length≤1000000) (q:Pos) (k:Int):∃ r,eJ l (Int.ofNat l.length) q k 0=some r∧cq r=oS k l∧0≤gl r:=by
 refine ba (Q:=fun r:Int ⊕ (Int×Bool)=>cq r=oS k l∧0≤gl r) (I:=fun x:Int => ∃ n:Nat,n≤l.length∧x=(n:Int)∧oS k (l.take n)=false) (μ:=fun x=>(l.length - x).toNat) ?_ _ ⟨0,by omega,rfl,rfl⟩ (by simp; omega)
 rintro x ⟨n,hn,rfl,h⟩
 unfold zy Dm
 by_cases hc:n < l.length
 ·have ha:=yX (fun m:Mv=>wr .i64 m.aw==k&&decide (m.to ≥ 56)) default l n hc
  rw [decide_eq_true (show (n:Int) < Int.ofNat l.length from Int.ofNat_lt.2 hc),decide_eq_true (show (0:Int)≤n by omega),Int.toNat_natCast,aI (n:=(n:Int)+1) (by omega) (by omega)]
  unfold oS at h ⊢
  rw [h,Bool.false_or] at ha
  cases hx:wr .i64 (l.getD n default).aw==k with
  | false=>rw [hx] at ha; exact ⟨rfl,⟨n+1,by omega,by simp,ha⟩,by dsimp only; omega⟩
  | true =>
   rw [hx] at ha
   cases hy:decide ((l.getD n default).to ≥ 56) with
   | false=>rw [hy] at ha; exact ⟨rfl,⟨n+1,by omega,by simp,ha⟩,by dsimp only; omega⟩
   | true =>
    refine ⟨rfl,?_,by show (0:Int)≤n; omega⟩
    show true=_
    symm
    rw [List.any_eq_true]
    exact ⟨_,ct hc,by rw [hx,hy]; rfl⟩
 ·rw [decide_eq_false (show ¬ ((n:Int) < Int.ofNat l.length) from fun h=>hc (Int.ofNat_lt.1 h))]
  rw [List.take_of_length_le (by omega)] at h
  exact ⟨rfl,h.symm,by show (0:Int)≤default; decide⟩
theorem S5 (hth:there p):GV p=true∧VC p=FZ p:=by
 obtain ⟨t,hpt,ht⟩:=gv hp hth.1
 obtain ⟨o0,e0⟩:=lQ hp (c:=0) (by omega)
 obtain ⟨o1,e1⟩:=lQ hp (c:=1) (by omega)
 obtain ⟨o33,e33⟩:=LA hp hth
 have hl:(kC p).length≤1000000:=Nat.le_trans (wE hp) (by omega)
 obtain ⟨c1,c2,c3⟩:=aN (RZ (kC p) hl p (bb p 1 6))
 have g55:∀ x:Int,decide (x > 55)=decide (x ≥ 56):=fun x=>by rw [decide_eq_decide]; omega
 have w0:mW 0 6=da 0 6:=rfl
 have w1:mW 1 6=da 1 6:=rfl
 unfold GV VC FZ
 rw [o0,o1,e0,e1,o33,e33,w0,w1,c2,g55,g55,decide_eq_true c3]
 rcases (show p.aa=0∨p.aa=1 by omega) with h | h
 ·
  have hs:∃ r,je (kC p) p 0=some r∧cq r=false:=by
   refine ba (Q:=fun r:Unit ⊕ (Int×Bool)=>cq r=false) (I:=fun x:Int=>x=0) (μ:=fun x=>(kC p).length) ?_ _ rfl (by omega)
   rintro x rfl
   unfold xk AW
   rw [h]
   cases decide ((0:Int) < Int.ofNat (kC p).length) <;> exact ⟨rfl,rfl⟩
  obtain ⟨d1,d2⟩:=aN hs
  rw [d1,d2,h]
  cases decide (bb p 0 6 ≥ 56) <;> cases decide (bb p 1 6 ≥ 56) <;> exact ⟨rfl,rfl⟩
 ·obtain ⟨d1,d2⟩:=aN (ahy hp h (kC p) hl)
  rw [d1,d2,h]
  cases decide (bb p 0 6 ≥ 56) <;> cases decide (bb p 1 6 ≥ 56) <;> cases oS (bb p 1 6) (kC p) <;> exact ⟨rfl,rfl⟩
end
theorem qY {p:Pos} (h:¬ there p):yd p=false:=by
 unfold yd
 by_cases h1:p.variant < 9
 ·rw [decide_eq_true h1,decide_eq_false (show ¬ p.aa < 2 from fun h2=>h ⟨by omega,h1⟩)]; rfl
 ·rw [decide_eq_false h1]; rfl
theorem bn {x:BitVec 64}:(!(x != 0#64))=(x==0#64):=by unfold bne; rw [Bool.not_not]
noncomputable section
variable {p:Pos} (hp:aG p)
include hp
theorem LC:Bl p=true∧KN p=yb p:=by
 by_cases hth:there p
 ·obtain ⟨t,hpt,ht⟩:=gv hp hth.1
  have v0:=hp.v0
  have v9:=hth.2
  have hc:p.aa=0∨p.aa=1:=by omega
  have hc':wr .u8 (1 - p.aa)=0∨wr .u8 (1 - p.aa)=1:=by rw [hpt,oZ (by omega) (by omega)]; omega
  obtain ⟨o1,e1⟩:=lQ hp hc
  obtain ⟨o2,e2⟩:=lQ hp hc'
  obtain ⟨a0,b0⟩:=BL hp (c:=0) (by omega) hc
  obtain ⟨a1,b1⟩:=BL hp hc hc
  obtain ⟨a2,b2⟩:=BL hp hc' hc
  obtain ⟨a3,b3⟩:=S5 hp hth
  have k1:=C2 (gQ p p.aa 6).1 (gQ p p.aa 6).2
  have k2:=C2 (gQ p (wr .u8 (1 - p.aa)) 6).1 (gQ p (wr .u8 (1 - p.aa)) 6).2
  have i1:(decide (0≤p.aa)&&decide (p.aa < Int.ofNat 2))=true:=by simp; omega
  have i2:(decide (0≤wr .u8 (1 - p.aa))&&decide (wr .u8 (1 - p.aa) < Int.ofNat 2))=true:=by simp; omega
  have d9:decide (p.variant ≥ 9)=false:=decide_eq_false (by omega)
  have d1:decide (p.aa > 1)=false:=decide_eq_false (by omega)
  have f1:∀ w,mW p.aa w=da p.aa w:=fun w=>Jl hc
  have f2:∀ w,mW (wr .u8 (1 - p.aa)) w=da (wr .u8 (1 - p.aa)) w:=fun w=>Jl hc'
  have f3:mW 1 8=da 1 8:=rfl
  unfold Bl KN yb
  rw [jv hth,o1,o2,a0,a1,a2,a3,b0,b1,b2,b3,d9,d1,i1,i2,e1,e2]
  simp only [f1,f2,f3,← k1,← k2,bn,DM]
  rcases (show p.variant=0∨p.variant=1∨p.variant=2∨p.variant=3∨p.variant=4∨p.variant=5∨p.variant=6∨p.variant=7∨p.variant=8 by omega) with h | h | h | h | h | h | h | h | h <;> rw [h]
  ·exact ⟨rfl,rfl⟩
  ·exact ⟨rfl,rfl⟩
  ·exact ⟨rfl,rfl⟩
  ·refine ⟨rfl,?_⟩
   unfold I4 FK
   cases decide (bb p p.aa 6 ≥ 0) <;> rfl
  ·refine ⟨by cases aR p p.aa 0==0#64 <;> rfl,?_⟩
   unfold Lj
   rw [show (⟨p.variant,p.ae,p.ab,p.af,p.aa,p.ai,p.ah,p.ag,p.half,p.full⟩:Pos)=p from rfl]
   cases aR p p.aa 0==0#64 <;> cases aR p (wr .u8 (1 - p.aa)) 0==0#64 <;> rfl
  ·refine ⟨by cases decide (p.ag.getD (scale 1 (wr .u8 (1 - p.aa))).toNat 0 ≥ 3) <;> rfl,?_⟩
   unfold Jr
   cases decide (p.ag.getD (scale 1 (wr .u8 (1 - p.aa))).toNat 0 ≥ 3) <;> cases decide (p.ag.getD (scale 1 p.aa).toNat 0 ≥ 3) <;> rfl
  ·unfold Iv
   generalize (iR BinOp.and .i64 (Int.fdiv 103481868288 (2 ^ min (BitVec.ofInt 64 (bb p p.aa 6)).toNat 64)) 1==1)=x1
   generalize (iR BinOp.and .i64 (Int.fdiv 103481868288 (2 ^ min (BitVec.ofInt 64 (bb p (wr .u8 (1 - p.aa)) 6)).toNat 64)) 1==1)=x2
   cases decide (bb p p.aa 6 ≥ 0) <;> cases decide (bb p (wr .u8 (1 - p.aa)) 6 ≥ 0) <;> cases x1 <;> cases x2 <;> exact ⟨rfl,rfl⟩
  ·refine ⟨rfl,?_⟩
   unfold HO
   rw [show (⟨p.variant,p.ae,p.ab,p.af,p.aa,p.ai,p.ah,p.ag,p.half,p.full⟩:Pos)=p from rfl]
   cases aR p 0 0==0#64 <;> rfl
  ·exact ⟨rfl,rfl⟩
 ·have h19:=qY hth
  unfold Bl KN yb
  rw [h19]
  refine ⟨rfl,?_⟩
  by_cases h9:p.variant ≥ 9
  ·rw [decide_eq_true h9]; rfl
  ·rw [decide_eq_false h9,decide_eq_true (show p.aa > 1 by unfold there at hth; omega)]; rfl
theorem ud:uE p=true∧eG p=bN p:=by
 obtain ⟨a1,a2⟩:=LC hp
 unfold uE eG
 rw [a1,a2,Hc hp]
 by_cases hth:there p
 ·obtain ⟨b1,b2⟩:=LA hp hth
  rw [b1,b2]
  cases (yb p).1 != 0 <;> exact ⟨rfl,rfl⟩
 ·have h33:xb p=true∧FF p=[]:=by
   unfold xb FF
   rw [qY hth]
   exact ⟨rfl,rfl⟩
  have h38:cy p=[]:=by
   have h0:∀ m,m ∉ cy p:=fun m hm=>hth (iN hp hm).1
   cases h:cy p with
   | nil=>rfl
   | cons a l=>exact absurd (by rw [h]; simp) (h0 a)
  have h31:kC p=[]:=by
   have h0:∀ m,m ∉ kC p:=fun m hm=>by
    have:=(Dh hp hm).1
    rw [h38] at this
    cases this
   cases h:kC p with
   | nil=>rfl
   | cons a l=>exact absurd (by rw [h]; simp) (h0 a)
  rw [h33.1,h33.2,h31]
  cases (yb p).1 != 0 <;> exact ⟨rfl,rfl⟩
end
end Kz
end
noncomputable section
namespace Kz
open Go Go.RowKit
set_option maxRecDepth 100000
set_option maxHeartbeats 200000
def dV (B:Nat):List Nat→Nat
 | []=>0
 | a::l=>a+B * dV B l
def dM (B:Nat) (n:Nat):Nat:=dV (B * B) (List.replicate n (B - 1))
theorem AQ {w a x:Nat} (ha:a < 2 ^ w) (j:Nat):(a+2 ^ w * x).testBit j=if j < w then a.testBit j else x.testBit (j - w):=by
 rw [Nat.add_comm]
 exact Nat.testBit_two_pow_mul_add x ha j
theorem BS {w a m x y:Nat} (ha:a < 2 ^ w) (hm:m < 2 ^ w):(a+2 ^ w * x)&&&(m+2 ^ w * y)=(a&&&m)+2 ^ w * (x&&&y):=by
 apply Nat.eq_of_testBit_eq
 intro j
 have h:a&&&m < 2 ^ w:=Nat.lt_of_le_of_lt Nat.and_le_left ha
 rw [Nat.testBit_and,AQ ha,AQ hm,AQ h]
 split <;> rw [Nat.testBit_and]
theorem and_ones {w a:Nat} (ha:a < 2 ^ w) (x:Nat):(a+2 ^ w * x)&&&(2 ^ w - 1)=a:=by
 rw [Nat.and_two_pow_sub_one_eq_mod,Nat.add_mul_mod_self_left,Nat.mod_eq_of_lt ha]
theorem DJ {w:Nat}:∀ (n:Nat) (ps:List (Nat×Nat)),ps.length=n→(∀ q ∈ ps,q.1 < 2 ^ w∧q.2 < 2 ^ w) →
  (dV (2 ^ w * 2 ^ w) (ps.map fun q=>q.1+2 ^ w * q.2)&&&dM (2 ^ w) n)=dV (2 ^ w * 2 ^ w) (ps.map (·.1))
 | 0,ps,h,_=>by
  obtain rfl:=List.length_eq_zero_iff.1 h
  simp [dV]
 | n+1,[],h,_=>by cases h
 | n+1,q::ps,h,hq=>by
  obtain ⟨h1,h2⟩:=hq q (by simp)
  have ih:=DJ n ps (by simpa using h) fun q hm=>hq q (by simp [hm])
  have hb:q.1+2 ^ w * q.2 < 2 ^ (w+w):=by
   rw [Nat.pow_add]
   have:2 ^ w * q.2≤2 ^ w * (2 ^ w - 1):=Nat.mul_le_mul_left _ (by omega)
   rw [Nat.mul_sub_one] at this
   have:=Nat.le_mul_self (2 ^ w)
   omega
  have hm:2 ^ w - 1 < 2 ^ (w+w):=by
   have:=Nat.pow_le_pow_right (n:=2) (by omega) (show w≤w+w by omega)
   have:=Nat.two_pow_pos w
   omega
  simp only [List.map_cons,dM,List.replicate_succ,dV] at ih ⊢
  rw [← Nat.pow_add] at ih ⊢
  rw [BS hb hm,ih,and_ones h1]
theorem DS {w:Nat}:∀ (n:Nat) (ps:List (Nat×Nat)),ps.length=n→(∀ q ∈ ps,q.1 < 2 ^ w∧q.2 < 2 ^ w) →
  (dV (2 ^ w * 2 ^ w) (ps.map fun q=>q.1+2 ^ w * q.2) / 2 ^ w&&&dM (2 ^ w) n)=dV (2 ^ w * 2 ^ w) (ps.map (·.2))
 | 0,ps,h,_=>by
  obtain rfl:=List.length_eq_zero_iff.1 h
  simp [dV]
 | n+1,[],h,_=>by cases h
 | n+1,q::ps,h,hq=>by
  obtain ⟨h1,h2⟩:=hq q (by simp)
  have ih:=DS n ps (by simpa using h) fun q hm=>hq q (by simp [hm])
  have hpos:=Nat.two_pow_pos w
  have hm:2 ^ w - 1 < 2 ^ (w+w):=by
   have:=Nat.pow_le_pow_right (n:=2) (by omega) (show w≤w+w by omega)
   omega
  simp only [List.map_cons,dM,List.replicate_succ,dV] at ih ⊢
  generalize dV (2 ^ w * 2 ^ w) (ps.map fun q=>q.1+2 ^ w * q.2)=R at ih ⊢
  have e:(q.1+2 ^ w * q.2+2 ^ w * 2 ^ w * R) / 2 ^ w=(q.2+2 ^ w * (R % 2 ^ w))+2 ^ (w+w) * (R / 2 ^ w):=by
   rw [show q.1+2 ^ w * q.2+2 ^ w * 2 ^ w * R=q.1+2 ^ w * (q.2+2 ^ w * R) by rw [Nat.mul_add,Nat.mul_assoc,Nat.add_assoc],Nat.add_mul_div_left _ _ hpos,Nat.div_eq_of_lt h1,Nat.zero_add,Nat.pow_add,Nat.mul_assoc,Nat.add_assoc,← Nat.mul_add,Nat.mod_add_div]
  have hb:q.2+2 ^ w * (R % 2 ^ w) < 2 ^ (w+w):=by
   rw [Nat.pow_add]
   have hr:=Nat.mod_lt R hpos
   have:2 ^ w * (R % 2 ^ w)≤2 ^ w * (2 ^ w - 1):=Nat.mul_le_mul_left _ (by omega)
   rw [Nat.mul_sub_one] at this
   have:=Nat.le_mul_self (2 ^ w)
   omega
  rw [e]
  rw [← Nat.pow_add] at ih ⊢
  rw [BS hb hm,ih,and_ones h2]
theorem Jz {K:Nat} {α:Type} (f g:α→Nat):∀ l:List α,dV K (l.map f)+dV K (l.map g)=dV K (l.map fun a=>f a+g a)
 | []=>rfl
 | a::l=>by
  simp only [List.map_cons,dV]
  rw [← Jz f g l,Nat.mul_add]
  omega
def Ro (B n D x t:Nat):Prop := ∃ l:List Nat,l.length=n∧(∀ d ∈ l,d≤D)∧dV B l=x∧l.sum=t
theorem tP:∀ (n:Nat) (l:List Nat),l.length=2 * n→∃ ps:List (Nat×Nat),ps.length=n∧l=ps.flatMap fun q=>[q.1,q.2]
 | 0,l,h=>⟨[],rfl,by simpa using h⟩
 | n+1,[],h=>by simp at h
 | n+1,[a],h=>by simp at h; omega
 | n+1,a::c::l,h=>by
  obtain ⟨ps,h1,rfl⟩:=tP n l (by simp at h; omega)
  exact ⟨(a,c)::ps,by simp [h1],rfl⟩
theorem tg {B:Nat}:∀ ps:List (Nat×Nat),dV B (ps.flatMap fun q=>[q.1,q.2])=dV (B * B) (ps.map fun q=>q.1+B * q.2)
 | []=>rfl
 | q::ps=>by
  simp only [List.flatMap_cons,List.cons_append,List.nil_append,List.map_cons,dV]
  rw [tg ps,Nat.mul_add,Nat.mul_assoc,Nat.add_assoc]
theorem pj:∀ ps:List (Nat×Nat),(ps.flatMap fun q=>[q.1,q.2]).sum=(ps.map fun q=>q.1+q.2).sum
 | []=>rfl
 | q::ps=>by
  simp only [List.flatMap_cons,List.cons_append,List.nil_append,List.map_cons,List.sum_cons]
  rw [pj ps]; omega
theorem AI {w n D x t:Nat} (hD:D < 2 ^ w) (h:Ro (2 ^ w) (2 * n) D x t):Ro (2 ^ w * 2 ^ w) n (2 * D) ((x / 2 ^ w&&&dM (2 ^ w) n)+(x&&&dM (2 ^ w) n)) t:=by
 obtain ⟨l,h1,h2,rfl,rfl⟩:=h
 obtain ⟨ps,h3,rfl⟩:=tP n l h1
 have hb:∀ q ∈ ps,q.1≤D∧q.2≤D:=fun q hq=>⟨h2 _ (List.mem_flatMap.2 ⟨q,hq,by simp⟩),h2 _ (List.mem_flatMap.2 ⟨q,hq,by simp⟩)⟩
 have hq:∀ q ∈ ps,q.1 < 2 ^ w∧q.2 < 2 ^ w:=fun q hm=>by have:=hb q hm; omega
 refine ⟨ps.map fun q=>q.1+q.2,by simp [h3],?_,?_,(pj ps).symm⟩
 ·intro d hd
  obtain ⟨q,hm,rfl⟩:=List.mem_map.1 hd
  have:=hb q hm
  omega
 ·rw [tg,DJ n ps h3 hq,DS n ps h3 hq,Nat.add_comm,Jz]
theorem Ah {w D:Nat} (hD:2 * D < 2 ^ w):∀ (n:Nat) (ps:List (Nat×Nat)),ps.length=n→(∀ q ∈ ps,q.1≤D∧q.2≤D) →
  (dV (2 ^ w * 2 ^ w) (ps.map fun q=>q.1+2 ^ w * q.2) / 2 ^ w+dV (2 ^ w * 2 ^ w) (ps.map fun q=>q.1+2 ^ w * q.2)&&&dM (2 ^ w) n)=dV (2 ^ w * 2 ^ w) (ps.map fun q=>q.1+q.2)
 | 0,ps,h,_=>by
  obtain rfl:=List.length_eq_zero_iff.1 h
  simp [dV]
 | n+1,[],h,_=>by cases h
 | n+1,q::ps,h,hq=>by
  obtain ⟨h1,h2⟩:=hq q (by simp)
  have ih:=Ah hD n ps (by simpa using h) fun q hm=>hq q (by simp [hm])
  have hpos:=Nat.two_pow_pos w
  have hlow:dV (2 ^ w * 2 ^ w) (ps.map fun q=>q.1+2 ^ w * q.2) % 2 ^ w≤D:=by
   cases ps with
   | nil=>simp [dV]
   | cons r rs =>
    have hr:=hq r (by simp)
    simp only [List.map_cons,dV]
    rw [Nat.mul_assoc,Nat.add_assoc,← Nat.mul_add,Nat.add_mul_mod_self_left,Nat.mod_eq_of_lt (by omega)]
    exact hr.1
  have hm:2 ^ w - 1 < 2 ^ (w+w):=by
   have:=Nat.pow_le_pow_right (n:=2) (by omega) (show w≤w+w by omega)
   omega
  simp only [List.map_cons,dM,List.replicate_succ,dV] at ih ⊢
  generalize dV (2 ^ w * 2 ^ w) (ps.map fun q=>q.1+2 ^ w * q.2)=R at ih hlow ⊢
  have e1:(q.1+2 ^ w * q.2+2 ^ w * 2 ^ w * R) / 2 ^ w=q.2+2 ^ w * R:=by
   rw [show q.1+2 ^ w * q.2+2 ^ w * 2 ^ w * R=q.1+2 ^ w * (q.2+2 ^ w * R) by rw [Nat.mul_add,Nat.mul_assoc,Nat.add_assoc],Nat.add_mul_div_left _ _ hpos,Nat.div_eq_of_lt (by omega),Nat.zero_add]
  have e2:q.2+2 ^ w * R+(q.1+2 ^ w * q.2+2 ^ w * 2 ^ w * R)=(q.1+q.2+2 ^ w * (q.2+R % 2 ^ w))+2 ^ (w+w) * (R / 2 ^ w+R):=by
   have hR:=Nat.mod_add_div R (2 ^ w)
   rw [Nat.pow_add]
   have:2 ^ w * R=2 ^ w * (R % 2 ^ w)+2 ^ w * 2 ^ w * (R / 2 ^ w):=by
    rw [Nat.mul_assoc,← Nat.mul_add,hR]
   rw [Nat.mul_add,Nat.mul_add]
   omega
  have hb:q.1+q.2+2 ^ w * (q.2+R % 2 ^ w) < 2 ^ (w+w):=by
   rw [Nat.pow_add]
   have:2 ^ w * (q.2+R % 2 ^ w)≤2 ^ w * (2 ^ w - 1):=Nat.mul_le_mul_left _ (by omega)
   rw [Nat.mul_sub_one] at this
   have:=Nat.le_mul_self (2 ^ w)
   omega
  rw [e1,e2]
  rw [← Nat.pow_add] at ih ⊢
  rw [BS hb hm,ih,and_ones (by omega)]
theorem Nc {w n D x t:Nat} (hD:2 * D < 2 ^ w) (h:Ro (2 ^ w) (2 * n) D x t):Ro (2 ^ w * 2 ^ w) n (2 * D) (x / 2 ^ w+x&&&dM (2 ^ w) n) t:=by
 obtain ⟨l,h1,h2,rfl,rfl⟩:=h
 obtain ⟨ps,h3,rfl⟩:=tP n l h1
 have hb:∀ q ∈ ps,q.1≤D∧q.2≤D:=fun q hq=>⟨h2 _ (List.mem_flatMap.2 ⟨q,hq,by simp⟩),h2 _ (List.mem_flatMap.2 ⟨q,hq,by simp⟩)⟩
 refine ⟨ps.map fun q=>q.1+q.2,by simp [h3],?_,?_,(pj ps).symm⟩
 ·intro d hd
  obtain ⟨q,hm,rfl⟩:=List.mem_map.1 hd
  have:=hb q hm
  omega
 ·rw [tg,Ah hD n ps h3 hb]
theorem Ph {K:Nat}:∀ l:List Nat,(∀ d ∈ l,d < K)→dV K l < K ^ l.length
 | [],_=>by simp [dV]
 | a::l,h=>by
  have ih:=Ph l fun d hd=>h d (by simp [hd])
  have ha:=h a (by simp)
  simp only [dV,List.length_cons,Nat.pow_succ]
  have:K * dV K l≤K * (K ^ l.length - 1):=Nat.mul_le_mul_left _ (by omega)
  rw [Nat.mul_sub_one] at this
  rw [Nat.mul_comm (K ^ l.length)]
  have hk:K≤K * K ^ l.length:=Nat.le_mul_of_pos_right _ (Nat.pow_pos (by omega))
  omega
theorem Ro.lt {B n D x t:Nat} (h:Ro B n D x t) (hD:D < B):x < B ^ n:=by
 obtain ⟨l,rfl,h2,rfl,_⟩:=h
 exact Ph l fun d hd=>by have:=h2 d hd; omega
def jm (x:BitVec 64):Nat→Nat→List Nat
 | _,0=>[]
 | i,n+1=>(x.getLsbD i).toNat::jm x (i+1) n
def Jd (x:BitVec 64):Nat:=(jm x 0 64).sum
theorem vU (x:BitVec 64):∀ n i,(jm x i n).length=n
 | 0,_=>rfl
 | n+1,i=>by simp [jm,vU x n]
theorem zz (x:BitVec 64):∀ n i,∀ d ∈ jm x i n,d≤1
 | 0,_,_,h=>by cases h
 | n+1,i,d,h=>by
  simp only [jm,List.mem_cons] at h
  rcases h with rfl | h
  ·cases x.getLsbD i <;> simp
  ·exact zz x n _ d h
theorem vb (x:BitVec 64):∀ n i,dV 2 (jm x i n)=x.toNat / 2 ^ i % 2 ^ n
 | 0,_=>by simp [jm,dV,Nat.mod_one]
 | n+1,i=>by
  simp only [jm,dV]
  rw [vb x n (i+1),show (2:Nat) ^ (n+1)=2 * 2 ^ n from Nat.pow_succ',Nat.mod_mul,Nat.div_div_eq_div_mul,← Nat.pow_succ]
  congr 1
  rw [BitVec.getLsbD,Nat.testBit_eq_decide_div_mod_eq]
  have:=Nat.mod_two_eq_zero_or_one (x.toNat / 2 ^ i)
  rcases this with h | h <;> rw [h] <;> rfl
theorem Ua (x:BitVec 64):Ro (2 ^ 1) (2 * 32) 1 x.toNat (Jd x):=by
 refine ⟨jm x 0 64,vU x 64 0,zz x 64 0,?_,rfl⟩
 have:=vb x 64 0
 rw [show (2:Nat) ^ 1=2 from rfl,this,Nat.pow_zero,Nat.div_one,Nat.mod_eq_of_lt x.isLt]
theorem Ir (a:BitVec 64):jO a =
  let s1:=(a >>> 1&&&6148914691236517205#64)+(a&&&6148914691236517205#64)
  let s2:=(s1 >>> 2&&&3689348814741910323#64)+(s1&&&3689348814741910323#64)
  let s3:=s2 >>> 4+s2&&&1085102592571150095#64
  let s4:=s3+s3 >>> 8
  let s5:=s4+s4 >>> 16
  let s6:=s5+s5 >>> 32
  iR BinOp.and IntKind.i64 (wr IntKind.i64 ↑s6.toNat) 127:=by kernel_rfl
theorem Sp {r q K:Nat} (h:r < K):(r+K * q) / K=q:=by
 rw [Nat.add_mul_div_left _ _ (by omega),Nat.div_eq_of_lt h,Nat.zero_add]
theorem e8a (a b c d e f g i:Nat):a+256 * b+65536 * c+16777216 * d+4294967296 * e+1099511627776 * f+281474976710656 * g+72057594037927936 * i=a+256 * (b+256 * c+65536 * d+16777216 * e+4294967296 * f+1099511627776 * g+281474976710656 * i):=by omega
theorem e8b (a b c d e f g i:Nat):a+256 * b+65536 * c+16777216 * d+4294967296 * e+1099511627776 * f+281474976710656 * g+72057594037927936 * i+(b+256 * c+65536 * d+16777216 * e+4294967296 * f+1099511627776 * g+281474976710656 * i)=((a+b)+256 * (b+c))+65536 * ((c+d)+256 * (d+e)+65536 * (e+f)+16777216 * (f+g)+4294967296 * (g+i)+1099511627776 * i):=by omega
theorem e8c (a b c d e f g i:Nat):((a+b)+256 * (b+c))+65536 * ((c+d)+256 * (d+e)+65536 * (e+f)+16777216 * (f+g)+4294967296 * (g+i)+1099511627776 * i)+((c+d)+256 * (d+e)+65536 * (e+f)+16777216 * (f+g)+4294967296 * (g+i)+1099511627776 * i)=((a+b+c+d)+256 * (b+c+d+e)+65536 * (c+d+e+f)+16777216 * (d+e+f+g))+4294967296 * ((e+f+g+i)+256 * (f+g+i)+65536 * (g+i)+16777216 * i):=by omega
theorem e8d (a b c d e f g i:Nat):((a+b+c+d)+256 * (b+c+d+e)+65536 * (c+d+e+f)+16777216 * (d+e+f+g))+4294967296 * ((e+f+g+i)+256 * (f+g+i)+65536 * (g+i)+16777216 * i)+((e+f+g+i)+256 * (f+g+i)+65536 * (g+i)+16777216 * i)=(a+b+c+d+e+f+g+i)+128 * (2 * (b+c+d+e)+512 * (c+d+e+f)+131072 * (d+e+f+g)+33554432 * ((e+f+g+i)+256 * (f+g+i)+65536 * (g+i)+16777216 * i)+2 * (f+g+i)+512 * (g+i)+131072 * i):=by omega
theorem b8a {a b c d e f g i:Nat} (k1:a≤8) (k2:b≤8) (k3:c≤8) (k4:d≤8) (k5:e≤8) (k6:f≤8) (k7:g≤8) (k8:i≤8):a+b+c+d+e+f+g+i < 128:=by omega
theorem b8b {a b c d e f g i:Nat} (k1:a≤8) (k2:b≤8) (k3:c≤8) (k4:d≤8) (k5:e≤8) (k6:f≤8) (k7:g≤8) (k8:i≤8):(a+b+c+d)+256 * (b+c+d+e)+65536 * (c+d+e+f)+16777216 * (d+e+f+g) < 4294967296:=by omega
theorem b8c {a b c:Nat} (k1:a≤8) (k2:b≤8) (k3:c≤8):(a+b)+256 * (b+c) < 65536:=by omega
theorem ag7 {a b c d e f g i x:Nat} (k1:a≤8) (k2:b≤8) (k3:c≤8) (k4:d≤8) (k5:e≤8) (k6:f≤8) (k7:g≤8) (k8:i≤8)
  (hx:x=a+256 * b+65536 * c+16777216 * d+4294967296 * e+1099511627776 * f+281474976710656 * g+72057594037927936 * i) :
  ((x+x / 256)+(x+x / 256) / 65536+((x+x / 256)+(x+x / 256) / 65536) / 4294967296) % 128=a+b+c+d+e+f+g+i∧x < 1152921504606846976:=by
 have hb:x < 1152921504606846976:=by omega
 have l1:a < 256:=Nat.lt_of_le_of_lt k1 (by decide)
 have l2:=b8c k1 k2 k3
 have l3:=b8b k1 k2 k3 k4 k5 k6 k7 k8
 have l4:=b8a k1 k2 k3 k4 k5 k6 k7 k8
 have h1:x / 256=b+256 * c+65536 * d+16777216 * e+4294967296 * f+1099511627776 * g+281474976710656 * i:=by
  rw [hx,e8a a b c d e f g i]; exact Sp l1
 refine ⟨?_,hb⟩
 have y:x+x / 256=((a+b)+256 * (b+c))+65536 * ((c+d)+256 * (d+e)+65536 * (e+f)+16777216 * (f+g)+4294967296 * (g+i)+1099511627776 * i):=by rw [h1,hx]; exact e8b a b c d e f g i
 have y2:(x+x / 256) / 65536=(c+d)+256 * (d+e)+65536 * (e+f)+16777216 * (f+g)+4294967296 * (g+i)+1099511627776 * i:=by rw [y]; exact Sp l2
 generalize x+x / 256=Y at y y2 ⊢
 have z:Y+Y / 65536=((a+b+c+d)+256 * (b+c+d+e)+65536 * (c+d+e+f)+16777216 * (d+e+f+g))+4294967296 * ((e+f+g+i)+256 * (f+g+i)+65536 * (g+i)+16777216 * i):=by rw [y2,y]; exact e8c a b c d e f g i
 have z2:(Y+Y / 65536) / 4294967296=(e+f+g+i)+256 * (f+g+i)+65536 * (g+i)+16777216 * i:=by rw [z]; exact Sp l3
 generalize Y+Y / 65536=Z at z z2 ⊢
 rw [z2,z]
 refine (congrArg (· % 128) (e8d a b c d e f g i)).trans ?_
 show (_+128 * _) % 128=_
 rw [Nat.add_mul_mod_self_left]
 exact Nat.mod_eq_of_lt l4
theorem len8 {l:List Nat} (h:l.length=8):∃ a b c d e f g i,l=[a,b,c,d,e,f,g,i]:=by
 rcases l with _ | ⟨a,_ | ⟨b,_ | ⟨c,_ | ⟨d,_ | ⟨e,_ | ⟨f,_ | ⟨g,_ | ⟨i,_ | ⟨j,l⟩⟩⟩⟩⟩⟩⟩⟩⟩
 all_goals first | exact ⟨_,_,_,_,_,_,_,_,rfl⟩ | (simp only [List.length_cons,List.length_nil] at h; omega)
theorem XQ {x t:Nat} (h:Ro 256 8 8 x t):((x+x / 256)+(x+x / 256) / 65536+((x+x / 256)+(x+x / 256) / 65536) / 4294967296) % 128=t∧x < 1152921504606846976:=by
 obtain ⟨l,h1,h2,h3,h4⟩:=h
 obtain ⟨a,b,c,d,e,f,g,i,rfl⟩:=len8 h1
 have h5:a+b+c+d+e+f+g+i=t:=by
  rw [← h4]; simp only [List.sum_cons,List.sum_nil,Nat.add_zero,Nat.add_assoc]
 rw [← h5]
 refine ag7 (h2 a (by simp)) (h2 b (by simp)) (h2 c (by simp)) (h2 d (by simp)) (h2 e (by simp)) (h2 f (by simp)) (h2 g (by simp)) (h2 i (by simp)) ?_
 rw [← h3]
 simp only [dV,Nat.mul_add,← Nat.mul_assoc,Nat.reduceMul,Nat.mul_zero,Nat.add_zero,Nat.add_assoc]
theorem PU {K D:Nat} (hK:0 < K):∀ l:List Nat,(∀ d ∈ l,d≤D)→dV K l * (K - 1)≤D * (K ^ l.length - 1)
 | [],_=>by simp [dV]
 | a::l,h=>by
  have ih:=PU hK l fun d hd=>h d (by simp [hd])
  have ha:=h a (by simp)
  simp only [dV,List.length_cons]
  have e:K ^ (l.length+1) - 1=(K - 1)+K * (K ^ l.length - 1):=by
   rw [Nat.pow_succ',Nat.mul_sub_one]
   have:K * 1≤K * K ^ l.length:=Nat.mul_le_mul_left _ (Nat.pow_pos hK)
   omega
  rw [e,Nat.add_mul,Nat.mul_add,Nat.mul_assoc]
  have h1:a * (K - 1)≤D * (K - 1):=Nat.mul_le_mul_right _ ha
  have h2:K * (dV K l * (K - 1))≤K * (D * (K ^ l.length - 1)):=Nat.mul_le_mul_left _ ih
  have h3:K * (D * (K ^ l.length - 1))=D * (K * (K ^ l.length - 1)):=Nat.mul_left_comm _ _ _
  omega
theorem UT {n:Nat} (h:n < 9223372036854775808):iR BinOp.and IntKind.i64 (wr IntKind.i64 ↑n) 127=((n % 128:Nat):Int):=by
 rw [aI (by omega) (by omega)]
 have e:(BitVec.ofInt 64 (n:Int)&&&BitVec.ofInt 64 127).toNat=n % 128:=by
  rw [BitVec.toNat_and,BitVec.ofInt_natCast,BitVec.toNat_ofNat,show (BitVec.ofInt 64 127).toNat=2 ^ 7 - 1 from rfl,Nat.and_two_pow_sub_one_eq_mod]
  omega
 show IntKind.i64.wrap _=_
 rw [show (BitVec.ofInt IntKind.i64.bits (n:Int)&&&BitVec.ofInt IntKind.i64.bits 127).toNat=n % 128 from e]
 exact aI (by omega) (by omega)
theorem CI (a:BitVec 64):jO a=Jd a:=by
 rw [Ir]
 have d1:=AI (w:=1) (n:=32) (D:=1) (by decide) (Ua a)
 have d2:=AI (w:=2) (n:=16) (D:=2) (by decide) (x:=(a.toNat / 2 ^ 1&&&dM (2 ^ 1) 32)+(a.toNat&&&dM (2 ^ 1) 32)) (t:=Jd a) d1
 have l1:=d1.lt (by decide)
 have l2:=d2.lt (by decide)
 have d3:=Nc (w:=4) (n:=8) (D:=4) (by decide) d2
 have l3:=d3.lt (by decide)
 have m1:dM (2 ^ 1) 32=6148914691236517205:=by decide
 have m2:dM (2 ^ 2) 16=3689348814741910323:=by decide
 have m3:dM (2 ^ 4) 8=1085102592571150095:=by decide
 rw [m1] at d1 d2 l1 l2 d3 l3
 rw [m2] at d2 l2 d3 l3
 rw [m3] at d3 l3
 dsimp only
 have e1:((a >>> 1&&&6148914691236517205#64)+(a&&&6148914691236517205#64)).toNat=(a.toNat / 2 ^ 1&&&6148914691236517205)+(a.toNat&&&6148914691236517205):=by
  rw [BitVec.toNat_add,BitVec.toNat_and,BitVec.toNat_and,BitVec.toNat_ushiftRight,Nat.shiftRight_eq_div_pow]
  exact Nat.mod_eq_of_lt l1
 generalize (a >>> 1&&&6148914691236517205#64)+(a&&&6148914691236517205#64)=s1 at e1 ⊢
 rw [← e1] at d2 l2 d3 l3
 have e2:((s1 >>> 2&&&3689348814741910323#64)+(s1&&&3689348814741910323#64)).toNat=(s1.toNat / 2 ^ 2&&&3689348814741910323)+(s1.toNat&&&3689348814741910323):=by
  rw [BitVec.toNat_add,BitVec.toNat_and,BitVec.toNat_and,BitVec.toNat_ushiftRight,Nat.shiftRight_eq_div_pow]
  exact Nat.mod_eq_of_lt l2
 generalize (s1 >>> 2&&&3689348814741910323#64)+(s1&&&3689348814741910323#64)=s2 at e2 ⊢
 rw [← e2] at d3 l3 l2 d2
 have k2:s2.toNat / 2 ^ 4+s2.toNat < 2 ^ 64:=by
  obtain ⟨l,h1,h2,h3,_⟩:=d2
  have h5:=PU (K:=2 ^ 2 * 2 ^ 2) (D:=2 * 2) (by decide) l h2
  rw [h3,h1] at h5
  omega
 have e3:(s2 >>> 4+s2&&&1085102592571150095#64).toNat=(s2.toNat / 2 ^ 4+s2.toNat&&&1085102592571150095):=by
  rw [BitVec.toNat_and,BitVec.toNat_add,BitVec.toNat_ushiftRight,Nat.shiftRight_eq_div_pow,Nat.mod_eq_of_lt k2]
  rfl
 generalize (s2 >>> 4+s2&&&1085102592571150095#64)=s3 at e3 ⊢
 rw [← e3] at d3 l3
 obtain ⟨f1,f2⟩:=XQ d3
 have e4:(s3+s3 >>> 8).toNat=s3.toNat+s3.toNat / 256:=by
  rw [BitVec.toNat_add,BitVec.toNat_ushiftRight,Nat.shiftRight_eq_div_pow]
  omega
 generalize s3+s3 >>> 8=s4 at e4 ⊢
 have e5:(s4+s4 >>> 16).toNat=s4.toNat+s4.toNat / 65536:=by
  rw [BitVec.toNat_add,BitVec.toNat_ushiftRight,Nat.shiftRight_eq_div_pow]
  omega
 generalize s4+s4 >>> 16=s5 at e5 ⊢
 have e6:(s5+s5 >>> 32).toNat=s5.toNat+s5.toNat / 4294967296:=by
  rw [BitVec.toNat_add,BitVec.toNat_ushiftRight,Nat.shiftRight_eq_div_pow]
  omega
 rw [UT (by rw [e6]; omega),e6,e5,e4,f1]
end Kz
end
noncomputable section
namespace Kz
open Go Go.RowKit
set_option maxRecDepth 100000
set_option maxHeartbeats 4000000
set_option linter.unusedSectionVars false
def bT (P:Nat→Bool):Nat→Nat
 | 0=>0
 | n+1=>bT P n+(P n).toNat
theorem rA {P Q R:Nat→Bool}:∀ {n:Nat},(∀ i,i < n→(P i).toNat=(Q i).toNat+(R i).toNat)→bT P n=bT Q n+bT R n
 | 0,_=>rfl
 | n+1,h=>by
  have h1:=rA (n:=n) fun i hi=>h i (by omega)
  have h2:=h n (by omega)
  unfold bT
  omega
theorem pL {P Q:Nat→Bool}:∀ {n:Nat},(∀ i,i < n→P i=Q i)→bT P n=bT Q n
 | 0,_=>rfl
 | n+1,h=>by
  unfold bT
  rw [pL (n:=n) fun i hi=>h i (by omega),h n (by omega)]
theorem iv (P:Nat→Bool):∀ n,bT P n≤n
 | 0=>Nat.le_refl _
 | n+1=>by
  have:=iv P n
  have:(P n).toNat≤1:=by cases P n <;> simp
  unfold bT
  omega
theorem jy {P:Nat→Bool}:∀ {n:Nat},bT P n=0 ↔ ∀ i,i < n→P i=false
 | 0=>⟨fun _ i h=>by omega,fun _=>rfl⟩
 | n+1=>by
  have ih:=jy (P:=P) (n:=n)
  unfold bT
  constructor
  ·intro h i hi
   by_cases e:i=n
   ·subst e; cases hp:P i with
    | false=>rfl
    | true=>rw [hp] at h; simp at h
   ·exact ih.1 (by omega) i (by omega)
  ·intro h
   rw [ih.2 fun i hi=>h i (by omega),h n (by omega)]
   rfl
theorem As (x:BitVec 64):∀ (n i:Nat),(jm x i n).sum+bT x.getLsbD i=bT x.getLsbD (i+n)
 | 0,i=>by simp [jm]
 | n+1,i=>by
  have:=As x n (i+1)
  simp only [jm,List.sum_cons]
  rw [show i+(n+1)=i+1+n by omega,← this]
  simp only [bT]
  omega
theorem AA (x:BitVec 64):Jd x=bT x.getLsbD 64:=by
 have:=As x 64 0
 unfold Jd
 simpa [bT] using this
theorem sF {x:BitVec 64} {P:Nat→Bool} (h:∀ i,i < 64→x.getLsbD i=P i):(x==0#64)=decide (bT P 64=0):=by
 rw [Bool.eq_iff_iff,beq_iff_eq,decide_eq_true_eq,jy]
 constructor
 ·intro e i hi
  rw [← h i hi,e]; simp
 ·intro e
  exact BitVec.eq_of_getLsbD_eq fun i hi=>by rw [h i hi,e i hi]; simp
noncomputable section
variable (p:Pos)
def kd (i:Nat):Int:=bA (p.ae.getD i 0)
def cl1 (i:Nat):Int:=eY (p.ae.getD i 0)
def uC (i:Nat):Bool:=(wr .i64 (wr .i64 ((i:Int).tdiv 8)+(i:Int).tmod 8)).tmod 2==0
def Pn (i:Nat):Bool:=kd p i==2
def Pe (i:Nat):Bool:=kd p i==3&&uC i
def Pd (i:Nat):Bool:=kd p i==3&&!uC i
def Po (i:Nat):Bool := !(kd p i==0)&&(!(kd p i==6)&&(!(kd p i==2)&&!(kd p i==3)))
def Pk (c:Int) (i:Nat):Bool:=kd p i==6&&cl1 p i==c
end
theorem Eg:∀ i:Fin 64,(6172840429334713770#64).getLsbD i.val=!uC i.val:=by decide +kernel
theorem Hn:∀ v:Fin 256,(bA v.val==6)=true→eY v.val=0∨eY v.val=1:=by decide +kernel
noncomputable section
variable {p:Pos} (hp:aG p)
include hp
theorem WM:∃ r,bh p (0,0,0,0,0,List.replicate 2 0)=some r∧r.1=bT (Pn p) 64∧r.2.1=bT (Pe p) 64∧r.2.2.1=bT (Pd p) 64∧r.2.2.2.1=bT (Po p) 64∧r.2.2.2.2.2.2=[((bT (Pk p 0) 64:Nat):Int),((bT (Pk p 1) 64:Nat):Int)]:=by
 refine ba (Q:=fun r:Int×Int×Int×Int×Int×Bool×List Int=>r.1=bT (Pn p) 64∧r.2.1=bT (Pe p) 64∧r.2.2.1=bT (Pd p) 64∧r.2.2.2.1=bT (Po p) 64∧r.2.2.2.2.2.2=[((bT (Pk p 0) 64:Nat):Int),((bT (Pk p 1) 64:Nat):Int)])
  (I:=fun x:Int×Int×Int×Int×Int×List Int => ∃ n:Nat,n≤64∧x.2.2.2.2.1=n∧x.1=bT (Pn p) n∧x.2.1=bT (Pe p) n∧x.2.2.1=bT (Pd p) n∧x.2.2.2.1=bT (Po p) n∧x.2.2.2.2.2=[((bT (Pk p 0) n:Nat):Int),((bT (Pk p 1) n:Nat):Int)]) (μ:=fun x=>(64 - x.2.2.2.2.1).toNat) ?_ _ ⟨0,by omega,rfl,rfl,rfl,rfl,rfl,rfl⟩ (by simp)
 rintro ⟨a,b,c,d,x,L⟩ ⟨n,hn,hx,ha,hb,hc,hd,hL⟩
 simp only at hx ha hb hc hd hL
 subst hx ha hb hc hd hL
 unfold yV Dr
 dsimp only
 by_cases h64:n < 64
 ·have hbd:=ei hp n
  obtain ⟨v,hv⟩:=Int.eq_ofNat_of_zero_le hbd.1
  have hk6:=Hn ⟨v,by omega⟩
  simp only at hk6
  rw [← hv] at hk6
  have b1:=iv (Pn p) n
  have b2:=iv (Pe p) n
  have b3:=iv (Pd p) n
  have b4:=iv (Po p) n
  have b5:=iv (Pk p 0) n
  have b6:=iv (Pk p 1) n
  rw [decide_eq_true (show (n:Int) < 64 by omega),decide_eq_true (show (0:Int)≤n by omega),decide_eq_true (show (n:Int) < Int.ofNat 64 by show (n:Int) < 64; omega),fA,Int.toNat_natCast,aI (n:=(n:Int)+1) (by omega) (by omega),aI (n:=((bT (Pn p) n:Nat):Int)+1) (by omega) (by omega),aI (n:=((bT (Pe p) n:Nat):Int)+1) (by omega) (by omega),aI (n:=((bT (Pd p) n:Nat):Int)+1) (by omega) (by omega),aI (n:=((bT (Po p) n:Nat):Int)+1) (by omega) (by omega)]
  have go:∀ (a' b' c' d':Int) (L':List Int),a'=bT (Pn p) (n+1)→b'=bT (Pe p) (n+1)→c'=bT (Pd p) (n+1)→d'=bT (Po p) (n+1)→L'=[((bT (Pk p 0) (n+1):Nat):Int),((bT (Pk p 1) (n+1):Nat):Int)] →
    rR (fun x:Int×Int×Int×Int×Int×List Int => ∃ n:Nat,n≤64∧x.2.2.2.2.1=n∧x.1=bT (Pn p) n∧x.2.1=bT (Pe p) n∧x.2.2.1=bT (Pd p) n∧x.2.2.2.1=bT (Po p) n∧x.2.2.2.2.2=[((bT (Pk p 0) n:Nat):Int),((bT (Pk p 1) n:Nat):Int)])
     (fun r:Int×Int×Int×Int×Int×Bool×List Int=>r.1=bT (Pn p) 64∧r.2.1=bT (Pe p) 64∧r.2.2.1=bT (Pd p) 64∧r.2.2.2.1=bT (Po p) 64∧r.2.2.2.2.2.2=[((bT (Pk p 0) 64:Nat):Int),((bT (Pk p 1) 64:Nat):Int)]) (fun x:Int×Int×Int×Int×Int×List Int=>(64 - x.2.2.2.2.1).toNat) ((64 - (n:Int)).toNat) (.go (a',b',c',d',(n:Int)+1,L')) :=
   fun a' b' c' d' L' h1 h2 h3 h4 h5=>⟨⟨n+1,by omega,by simp,h1,h2,h3,h4,h5⟩,by dsimp only; omega⟩
  have en:bT (Pn p) (n+1)=bT (Pn p) n+(kd p n==2).toNat:=rfl
  have ee:bT (Pe p) (n+1)=bT (Pe p) n+(kd p n==3&&uC n).toNat:=rfl
  have ed:bT (Pd p) (n+1)=bT (Pd p) n+(kd p n==3&&!uC n).toNat:=rfl
  have eo:bT (Po p) (n+1)=bT (Po p) n+(!(kd p n==0)&&(!(kd p n==6)&&(!(kd p n==2)&&!(kd p n==3)))).toNat:=rfl
  have e0:bT (Pk p 0) (n+1)=bT (Pk p 0) n+(kd p n==6&&cl1 p n==0).toNat:=rfl
  have e1:bT (Pk p 1) (n+1)=bT (Pk p 1) n+(kd p n==6&&cl1 p n==1).toNat:=rfl
  have hkd:bA (p.ae.getD n 0)=kd p n:=rfl
  have hcl:eY (p.ae.getD n 0)=cl1 p n:=rfl
  have hpar:((wr .i64 (wr .i64 ((n:Int).tdiv 8)+(n:Int).tmod 8)).tmod 2==0)=uC n:=rfl
  rw [hkd,hcl] at hk6
  rw [hkd,hcl,hpar]
  rw [en,ee,ed,eo,e0,e1] at go
  generalize kd p n=k at *
  by_cases k0:k=0
  ·subst k0
   exact ⟨rfl,go _ _ _ _ _ (by simp) (by simp) (by simp) (by simp) (by simp)⟩
  ·by_cases k6:k=6
   ·subst k6
    have hc01:=hk6 rfl
    generalize cl1 p n=w at *
    rcases hc01 with rfl | rfl
    ·rw [show wr .i64 (([((bT (Pk p 0) n:Nat):Int),((bT (Pk p 1) n:Nat):Int)]:List Int).getD (scale 1 (0:Int)).toNat 0+1)=((bT (Pk p 0) n:Nat):Int)+1 from aI (n:=((bT (Pk p 0) n:Nat):Int)+1) (by omega) (by omega)]
     exact ⟨rfl,go _ _ _ _ _ (by simp) (by simp) (by simp) (by simp) (by simp [scale])⟩
    ·rw [show wr .i64 (([((bT (Pk p 0) n:Nat):Int),((bT (Pk p 1) n:Nat):Int)]:List Int).getD (scale 1 (1:Int)).toNat 0+1)=((bT (Pk p 1) n:Nat):Int)+1 from aI (n:=((bT (Pk p 1) n:Nat):Int)+1) (by omega) (by omega)]
     exact ⟨rfl,go _ _ _ _ _ (by simp) (by simp) (by simp) (by simp) (by simp [scale])⟩
   ·rw [beq_eq_false_iff_ne.2 k0,beq_eq_false_iff_ne.2 k6]
    rw [beq_eq_false_iff_ne.2 k0,beq_eq_false_iff_ne.2 k6] at go
    refine ⟨rfl,?_⟩
    by_cases k2:k=2
    ·subst k2
     exact go _ _ _ _ _ (by simp) (by simp) (by simp) (by simp) (by simp)
    ·by_cases k3:k=3
     ·subst k3
      cases hpb:uC n with
      | true=>rw [hpb] at go; exact go _ _ _ _ _ (by simp) (by simp) (by simp) (by simp) (by simp)
      | false=>rw [hpb] at go; exact go _ _ _ _ _ (by simp) (by simp) (by simp) (by simp) (by simp)
     ·rw [beq_eq_false_iff_ne.2 k2,beq_eq_false_iff_ne.2 k3]
      rw [beq_eq_false_iff_ne.2 k2,beq_eq_false_iff_ne.2 k3] at go
      exact go _ _ _ _ _ (by simp) (by simp) (by simp) (by simp) (by simp)
 ·have:n=64:=by omega
  subst this
  exact ⟨rfl,rfl,rfl,rfl,rfl,rfl⟩
end
def DH (r:Int×Int×Int×Int×Int×Bool×List Int):Bool:=bif r.2.2.2.1==0 then (bif decide (wr .i64 (wr .i64 (r.1+r.2.1)+r.2.2.1)≤1) then true else bif r.1==0 then (bif r.2.1==0 then true else r.2.2.1==0) else false) else false
def C4 (r:Int×Int×Int×Int×Int×Bool×List Int):Bool:=bif wr .i64 (wr .i64 (wr .i64 (r.2.2.2.1+r.1)+r.2.1)+r.2.2.1)==0 then bI BinOp.eql (r.2.2.2.2.2.2==((List.replicate 2 0).set 0 1).set 1 1&&true) else false
theorem F7 (p:Pos):Fx p=bif (p.variant==0 || p.variant==1) then DH ((bh p (0,0,0,0,0,List.replicate 2 0)).getD default) else bif (p.variant==3 || p.variant==5) then C4 ((bh p (0,0,0,0,0,List.replicate 2 0)).getD default) else false:=by
 unfold Fx DH C4
 cases h0:p.variant==0 <;> cases h1:p.variant==1 <;> cases h3:p.variant==3 <;> cases h5:p.variant==5 <;> rfl
def ng:BitVec 64:=6172840429334713770#64
def C3 (A K B N:BitVec 64):Bool:=bif A &&& ~~~K &&& ~~~B &&& ~~~N != 0#64 then false else bif decide (jO (A &&& ~~~K)≤1) then true else bif A &&& ~~~K==B then (bif A &&& ~~~K&&&ng==0#64 then true else A &&& ~~~K &&& ~~~ng==0#64) else false
def DF (A W X:BitVec 64):Bool:=bif A==W|||X then (bif jO W==1 then jO X==1 else false) else false
theorem E1 (p:Pos):Cp p=bif (p.variant==0 || p.variant==1) then C3 (bm p) (dT p 6) (dT p 3) (dT p 2) else bif (p.variant==3 || p.variant==5) then DF (bm p) (aR p 0 6) (aR p 1 6) else false:=by
 unfold Cp C3 DF ng
 rw [show (Pos.mk p.variant p.ae p.ab p.af p.aa p.ai p.ah p.ag p.half p.full)=p from rfl]
 cases h0:p.variant==0 <;> cases h1:p.variant==1 <;> cases h3:p.variant==3 <;> cases h5:p.variant==5 <;> rfl
theorem F1:∀ v:Fin 256,eR v.val=!(bA v.val==0)∧(dc 0 6 v.val || dc 1 6 v.val)=(bA v.val==6)∧(dc 0 3 v.val || dc 1 3 v.val)=(bA v.val==3)∧(dc 0 2 v.val || dc 1 2 v.val)=(bA v.val==2)∧dc 0 6 v.val=(bA v.val==6&&eY v.val==0)∧dc 1 6 v.val=(bA v.val==6&&eY v.val==1):=by decide +kernel
noncomputable section
variable {p:Pos} (hp:aG p)
include hp
theorem Lm (i:Nat):eR (p.ae.getD i 0)=!(kd p i==0)∧(dc 0 6 (p.ae.getD i 0) || dc 1 6 (p.ae.getD i 0))=(kd p i==6)∧(dc 0 3 (p.ae.getD i 0) || dc 1 3 (p.ae.getD i 0))=(kd p i==3)∧(dc 0 2 (p.ae.getD i 0) || dc 1 2 (p.ae.getD i 0))=(kd p i==2)∧dc 0 6 (p.ae.getD i 0)=Pk p 0 i∧dc 1 6 (p.ae.getD i 0)=Pk p 1 i:=by
 have hb:=ei hp i
 obtain ⟨v,hv⟩:=Int.eq_ofNat_of_zero_le hb.1
 have:=F1 ⟨v,by omega⟩
 simp only at this
 rw [← hv] at this
 exact this
theorem rO (k:Int) {i:Nat} (hi:i < 64):(dT p k).getLsbD i=(dc 0 k (p.ae.getD i 0) || dc 1 k (p.ae.getD i 0)):=by
 unfold dT
 rw [show (Pos.mk p.variant p.ae p.ab p.af p.aa p.ai p.ah p.ag p.half p.full)=p from rfl,BitVec.getLsbD_or,cn _ _ _ hi,cn _ _ _ hi]
theorem OF:De p=true∧Fx p=Cp p:=by
 obtain ⟨o,h1,h2,h3,h4,h5⟩:=aN (WM hp)
 refine ⟨ao o fun _=>rfl,?_⟩
 rw [F7,E1]
 have ka:=Lm hp
 have b1:=iv (Pn p) 64
 have b2:=iv (Pe p) 64
 have b3:=iv (Pd p) 64
 have b4:=iv (Po p) 64
 have men:∀ i,i < 64→(bm p &&& ~~~dT p 6).getLsbD i=(!(kd p i==0)&&!(kd p i==6)):=fun i hi=>by
  rw [BitVec.getLsbD_and,BitVec.getLsbD_not,lU _ hi,rO hp _ hi,(ka i).1,(ka i).2.1]; simp [hi]
 have gO:∀ i,i < 64→(bm p &&& ~~~dT p 6 &&& ~~~dT p 3 &&& ~~~dT p 2).getLsbD i=Po p i:=fun i hi=>by
  rw [BitVec.getLsbD_and,BitVec.getLsbD_and,BitVec.getLsbD_not,BitVec.getLsbD_not,men i hi,rO hp _ hi,rO hp _ hi,(ka i).2.2.1,(ka i).2.2.2.1]
  unfold Po
  cases kd p i==0 <;> cases kd p i==6 <;> cases kd p i==3 <;> cases kd p i==2 <;> simp [hi]
 have sum:bT (fun i => !(kd p i==0)&&!(kd p i==6)) 64=bT (Pn p) 64+(bT (Pe p) 64+(bT (Pd p) 64+bT (Po p) 64)):=by
  have s1:bT (fun i=>Pd p i || Po p i) 64=bT (Pd p) 64+bT (Po p) 64:=rA fun i hi=>by
   unfold Pd Po
   by_cases k3:kd p i=3
   ·rw [k3]; cases uC i <;> rfl
   ·rw [beq_eq_false_iff_ne.2 k3]; cases kd p i==0 <;> cases kd p i==6 <;> cases kd p i==2 <;> rfl
  have s2:bT (fun i=>Pe p i || (Pd p i || Po p i)) 64=bT (Pe p) 64+bT (fun i=>Pd p i || Po p i) 64:=rA fun i hi=>by
   unfold Pe Pd Po
   by_cases k3:kd p i=3
   ·rw [k3]; cases uC i <;> rfl
   ·rw [beq_eq_false_iff_ne.2 k3]; cases kd p i==0 <;> cases kd p i==6 <;> cases kd p i==2 <;> rfl
  have s3:bT (fun i => !(kd p i==0)&&!(kd p i==6)) 64=bT (Pn p) 64+bT (fun i=>Pe p i || (Pd p i || Po p i)) 64:=rA fun i hi=>by
   unfold Pn Pe Pd Po
   by_cases k3:kd p i=3
   ·rw [k3]; cases uC i <;> rfl
   ·rw [beq_eq_false_iff_ne.2 k3]
    by_cases k2:kd p i=2
    ·rw [k2]; rfl
    ·rw [beq_eq_false_iff_ne.2 k2]; cases kd p i==0 <;> cases kd p i==6 <;> rfl
  rw [s3,s2,s1]
 have pc:jO (bm p &&& ~~~dT p 6)=((bT (Pn p) 64+(bT (Pe p) 64+(bT (Pd p) 64+bT (Po p) 64)):Nat):Int):=by
  rw [CI,AA,pL men,sum]
 have pk:∀ c,c=0∨c=1→jO (aR p c 6)=((bT (Pk p c) 64:Nat):Int):=fun c hc=>by
  rw [CI,AA,pL (Q:=Pk p c) fun i hi=>by
   rw [cn _ _ _ hi]
   rcases hc with rfl | rfl
   ·exact (ka i).2.2.2.2.1
   ·exact (ka i).2.2.2.2.2]
 have eA:DH ((bh p (0,0,0,0,0,List.replicate 2 0)).getD default)=C3 (bm p) (dT p 6) (dT p 3) (dT p 2):=by
  unfold DH C3
  rw [h1,h2,h3,h4,bne,sF gO,pc,aI (n:=((bT (Pn p) 64:Nat):Int)+((bT (Pe p) 64:Nat):Int)) (by omega) (by omega),aI (by omega) (by omega)]
  by_cases hO:bT (Po p) 64=0
  ·rw [hO]
   simp only [decide_true,Bool.not_true,cond_false]
   rw [show (((0:Nat):Int)==0)=true from rfl,cond_true]
   by_cases hle:bT (Pn p) 64+bT (Pe p) 64+bT (Pd p) 64≤1
   ·rw [decide_eq_true (by omega),decide_eq_true (by omega)]; rfl
   ·rw [decide_eq_false (by omega),decide_eq_false (by omega),cond_false,cond_false]
    have hOz:=jy.1 hO
    by_cases hN:bT (Pn p) 64=0
    ·have hNz:=jy.1 hN
     have all3:∀ i,i < 64→(!(kd p i==0)&&!(kd p i==6))=(kd p i==3):=fun i hi=>by
      have a:=hOz i hi
      have b:=hNz i hi
      unfold Po at a
      unfold Pn at b
      by_cases k3:kd p i=3
      ·rw [k3]; rfl
      ·rw [b,beq_eq_false_iff_ne.2 k3] at a
       rw [beq_eq_false_iff_ne.2 k3]
       revert a
       cases kd p i==0 <;> cases kd p i==6 <;> simp
     have e1:(bm p &&& ~~~dT p 6==dT p 3)=true:=by
      rw [beq_iff_eq]
      exact BitVec.eq_of_getLsbD_eq fun i hi=>by rw [men i hi,rO hp _ hi,(ka i).2.2.1]; exact all3 i hi
     have z1:(bm p &&& ~~~dT p 6&&&ng==0#64)=decide (bT (Pd p) 64=0):=sF fun i hi=>by
      rw [BitVec.getLsbD_and,men i hi,all3 i hi]
      unfold ng
      rw [Eg ⟨i,hi⟩]; rfl
     have z2:(bm p &&& ~~~dT p 6 &&& ~~~ng==0#64)=decide (bT (Pe p) 64=0):=sF fun i hi=>by
      rw [BitVec.getLsbD_and,BitVec.getLsbD_not,men i hi,all3 i hi]
      unfold ng
      rw [Eg ⟨i,hi⟩]; simp [hi,Pe]
     rw [hN,e1,z1,z2,show (((0:Nat):Int)==0)=true from rfl,cond_true,cond_true]
     by_cases x1:bT (Pe p) 64=0 <;> by_cases x2:bT (Pd p) 64=0
     ·rw [x1,x2]; rfl
     ·rw [x1,decide_eq_false x2]; rfl
     ·rw [x2,decide_eq_false x1,beq_eq_false_iff_ne.2 (show ((bT (Pe p) 64:Nat):Int)≠0 by omega)]; rfl
     ·rw [decide_eq_false x1,decide_eq_false x2,beq_eq_false_iff_ne.2 (show ((bT (Pe p) 64:Nat):Int)≠0 by omega),beq_eq_false_iff_ne.2 (show ((bT (Pd p) 64:Nat):Int)≠0 by omega)]
    ·have e1:(bm p &&& ~~~dT p 6==dT p 3)=false:=by
      rw [beq_eq_false_iff_ne]
      intro e
      refine hN (jy.2 fun i hi => ?_)
      have:=congrArg (fun x=>x.getLsbD i) e
      rw [men i hi,rO hp _ hi,(ka i).2.2.1] at this
      unfold Pn
      cases h2:kd p i==2 with
      | false=>rfl
      | true =>
       rw [beq_iff_eq.1 h2] at this
       cases this
     rw [e1,beq_eq_false_iff_ne.2 (show ((bT (Pn p) 64:Nat):Int)≠0 by omega)]
     rfl
  ·rw [decide_eq_false hO,beq_eq_false_iff_ne.2 (show ((bT (Po p) 64:Nat):Int)≠0 by omega)]
   rfl
 have eB:C4 ((bh p (0,0,0,0,0,List.replicate 2 0)).getD default)=DF (bm p) (aR p 0 6) (aR p 1 6):=by
  unfold C4 DF
  rw [h1,h2,h3,h4,h5,pk 0 (.inl rfl),pk 1 (.inr rfl),aI (n:=((bT (Po p) 64:Nat):Int)+((bT (Pn p) 64:Nat):Int)) (by omega) (by omega),aI (n:=((bT (Po p) 64:Nat):Int)+((bT (Pn p) 64:Nat):Int)+((bT (Pe p) 64:Nat):Int)) (by omega) (by omega),aI (by omega) (by omega)]
  have e:(bm p==aR p 0 6|||aR p 1 6)=decide (bT (fun i => !(kd p i==0)&&!(kd p i==6)) 64=0):=by
   rw [Bool.eq_iff_iff,beq_iff_eq,decide_eq_true_eq,jy]
   have bits:∀ i,i < 64→(bm p).getLsbD i=!(kd p i==0)∧(aR p 0 6|||aR p 1 6).getLsbD i=(kd p i==6):=fun i hi=>by
    rw [lU _ hi,BitVec.getLsbD_or,cn _ _ _ hi,cn _ _ _ hi]
    exact ⟨(ka i).1,(ka i).2.1⟩
   constructor
   ·intro e i hi
    obtain ⟨x1,x2⟩:=bits i hi
    rw [e,x2] at x1
    rw [← x1]
    cases kd p i==6 <;> rfl
   ·intro h
    refine BitVec.eq_of_getLsbD_eq fun i hi => ?_
    obtain ⟨x1,x2⟩:=bits i hi
    rw [x1,x2]
    have:=h i hi
    by_cases k6:kd p i=6
    ·rw [k6]; rfl
    ·rw [beq_eq_false_iff_ne.2 k6] at this ⊢
     simpa using this
  rw [e,sum]
  by_cases hz:bT (Pn p) 64+(bT (Pe p) 64+(bT (Pd p) 64+bT (Po p) 64))=0
  ·rw [decide_eq_true hz,beq_iff_eq.2 (show ((bT (Po p) 64:Nat):Int)+((bT (Pn p) 64:Nat):Int)+((bT (Pe p) 64:Nat):Int)+((bT (Pd p) 64:Nat):Int)=0 by omega)]
   show ([((bT (Pk p 0) 64:Nat):Int),((bT (Pk p 1) 64:Nat):Int)]==[(1:Int),1]&&true)=_
   rw [Bool.and_true,cond_true]
   rw [Bool.eq_iff_iff]
   by_cases q0:((bT (Pk p 0) 64:Nat):Int)=1
   ·rw [q0]
    by_cases q1:((bT (Pk p 1) 64:Nat):Int)=1
    ·rw [q1]; exact ⟨fun _=>rfl,fun _=>rfl⟩
    ·rw [beq_eq_false_iff_ne.2 q1]; simp [q1]
   ·rw [beq_eq_false_iff_ne.2 q0]; simp [q0]
  ·rw [decide_eq_false hz,beq_eq_false_iff_ne.2 (show ((bT (Po p) 64:Nat):Int)+((bT (Pn p) 64:Nat):Int)+((bT (Pe p) 64:Nat):Int)+((bT (Pd p) 64:Nat):Int)≠0 by omega)]
   rfl
 rw [eA,eB]
end
end Kz
end
noncomputable section
namespace Kz
open Go Go.RowKit
set_option maxRecDepth 100000
set_option maxHeartbeats 4000000
noncomputable section
variable {p:Pos} (hp:aG p)
include hp
theorem UK:Es p=true∧Vl p=Gc p:=by
 by_cases hth:there p
 ·obtain ⟨a1,a2⟩:=LC hp
  obtain ⟨b1,b2⟩:=ud hp
  have t0:=hp.t0
  have t1:=hth.1
  have ht:p.aa=0∨p.aa=1:=by omega
  obtain ⟨c1,c2⟩:=pB hp ht ht
  obtain ⟨d1,d2⟩:=OF hp
  refine ⟨?_,?_⟩
  ·unfold Es
   exact aq (fun _=>rfl) fun _=>ao a1 fun _=>aq (fun _=>rfl) fun _=>ao b1 fun _=>aq (fun _=>aq (fun _=>aq (fun _=>rfl) fun _=>ao c1 fun _=>rfl) (fun _=>aq (fun _=>rfl) fun _=>ao c1 fun _=>rfl)) fun _=>ao d1 fun _=>rfl
  ·unfold Vl
   rw [Ew hth,jv hth,a2,b2,c2,d2,Bool.not_true,cond_false]
   cases (yb p).1 != 0
   ·rw [cond_false,cond_false]
    unfold xL yP Aw
    rw [show (Pos.mk p.variant p.ae p.ab p.af p.aa p.ai p.ah p.ag p.half p.full)=p from rfl]
    by_cases hl:(bN p).length=0
    ·rw [hl]
     rcases ht with h | h <;> rw [h]
     ·cases p.variant==4
      ·cases yf p 0 <;> rfl
      ·rfl
     ·cases p.variant==4
      ·cases yf p 1 <;> rfl
      ·rfl
    ·rw [show decide (Int.ofNat (bN p).length > 0)=true by simp; omega,show (Int.ofNat (bN p).length==0)=false by simp; exact fun e=>hl (by rw [e]; rfl)]
     cases Cp p
     ·cases decide (p.half ≥ 150) <;> rfl
     ·rfl
   ·rfl
 ·refine ⟨?_,?_⟩
  ·unfold Es
   rw [qY hth]; rfl
  ·unfold Vl
   rw [qY hth,Nh hth]; rfl
end
end Kz
end
noncomputable section
namespace Kz
open Go Go.RowKit Go.Proofs
set_option maxRecDepth 100000
set_option maxHeartbeats 4000000
def K18:KT:=[(18,13,[(0,[2,3]),(1,[2,3,9]),(2,[4]),(3,[4])])]
def B18:ax:=bO Pz K18 [(10,Tl),(25,G25),(28,XY)] [] []
theorem ahm:aV B18:=ak aj ⟨Vy,s25,s28,trivial⟩ trivial trivial
def OE (a:Pos) (b:Mv):List UInt8:=(bif !P7 (eG a) b then ((ByteArray.mk #[]).data.toList) else (PG a b))
def zO (a:Pos) (b:Mv):Bool:=(uE a&&(EC (eG a) b&&(bif !P7 (eG a) b then true else (Bn a b&&true))))
theorem P18 (a:Pos) (b:Mv) (h:zO a b=true):PS Pz 18 [Pos.av a,Mv.av b] (dS.res (OE a b)):=pq14 ahm h
def G18:GT:=g2 aZ jl (fun a b=>bV (zO a b) (dS.res (OE a b)))
theorem s18:Sound Pz 18 G18:=aW fun a b=>az (P18 a b)
def K5:KT:=[(5,55,[(0,[2,3,4]),(1,[2,3,4,23]),(2,[6]),(3,[2,3,4,7]),(4,[2,3,4,7,28]),(5,[6]),(6,[3,4]),(7,[6])])]
def B5:ax:=bO Pz K5 [(10,Tl),(15,G15),(16,G16),(17,G17),(18,G18)] [] []
theorem hB5:aV B5:=ak aj ⟨Vy,s15,s16,s17,s18,trivial⟩ trivial trivial
def N5 (a:Pos) (b:Mv) (c:Int):Bool:=(bif !BF a b==LW a b then (false) else (bif !I3 a b==OE a b then (false) else (bif Int.ofNat (eG a).length==0 then (true) else (bif BF a ((eG a).getD (wr .i64 (Int.ofNat (BitVec.ofInt 64 c % BitVec.ofInt 64 (Int.ofNat (eG a).length)).toNat)).toNat default)==LW a ((eG a).getD (wr .i64 (Int.ofNat (BitVec.ofInt 64 c % BitVec.ofInt 64 (Int.ofNat (eG a).length)).toNat)).toNat default) then (I3 a ((eG a).getD (wr .i64 (Int.ofNat (BitVec.ofInt 64 c % BitVec.ofInt 64 (Int.ofNat (eG a).length)).toNat)).toNat default)==OE a ((eG a).getD (wr .i64 (Int.ofNat (BitVec.ofInt 64 c % BitVec.ofInt 64 (Int.ofNat (eG a).length)).toNat)).toNat default)) else (false)))))
def ok5 (a:Pos) (b:Mv) (c:Int):Bool:=(zm a b&&(yl a b&&(bif !BF a b==LW a b then true else (Ax a b&&(zO a b&&(bif !I3 a b==OE a b then true else (uE a&&(bif Int.ofNat (eG a).length==0 then true else (!BitVec.ofInt 64 (Int.ofNat (eG a).length)==0#64&&(decide (0≤wr .i64 (Int.ofNat (BitVec.ofInt 64 c % BitVec.ofInt 64 (Int.ofNat (eG a).length)).toNat))&&decide (wr .i64 (Int.ofNat (BitVec.ofInt 64 c % BitVec.ofInt 64 (Int.ofNat (eG a).length)).toNat) < Int.ofNat (eG a).length)&&(zm a ((eG a).getD (wr .i64 (Int.ofNat (BitVec.ofInt 64 c % BitVec.ofInt 64 (Int.ofNat (eG a).length)).toNat)).toNat default)&&(yl a ((eG a).getD (wr .i64 (Int.ofNat (BitVec.ofInt 64 c % BitVec.ofInt 64 (Int.ofNat (eG a).length)).toNat)).toNat default)&&(bif BF a ((eG a).getD (wr .i64 (Int.ofNat (BitVec.ofInt 64 c % BitVec.ofInt 64 (Int.ofNat (eG a).length)).toNat)).toNat default)==LW a ((eG a).getD (wr .i64 (Int.ofNat (BitVec.ofInt 64 c % BitVec.ofInt 64 (Int.ofNat (eG a).length)).toNat)).toNat default) then (Ax a ((eG a).getD (wr .i64 (Int.ofNat (BitVec.ofInt 64 c % BitVec.ofInt 64 (Int.ofNat (eG a).length)).toNat)).toNat default)&&(zO a ((eG a).getD (wr .i64 (Int.ofNat (BitVec.ofInt 64 c % BitVec.ofInt 64 (Int.ofNat (eG a).length)).toNat)).toNat default)&&true)) else true)))))))))))))
theorem P5 (a:Pos) (b:Mv) (c:Int) (h:ok5 a b c=true):PS Pz 5 [Pos.av a,Mv.av b,.int .i64 c] (dB.res (N5 a b c)):=pq14 hB5 h
end Kz
end
noncomputable section
namespace Kz
open Go Go.RowKit Go.Proofs
set_option maxRecDepth 100000
variable {p:Pos} {m:Mv} {l:List Mv}
theorem Hu (hp:aG p) (hm:oV m) (h76:m ∈ cy p) (hth:there p) (c:Int) (hc:∀ c,wD m c=true∧(mQ m c).length≤2):EZ p m c=true∧xK p m c=b9 p m (mQ m c):=by
 obtain ⟨s1,s2⟩:=sqR hm.f0 hm.f1
 obtain ⟨s3,s4⟩:=sqR hm.t0 hm.t1
 obtain ⟨k1,k2⟩:=kdR (p:=p) hp hm.f0 hm.f1
 obtain ⟨_,k3,k4⟩:=KJ hp hm.f0 hm.f1
 obtain ⟨t1,t2⟩:=rT hp hth h76
 have e80:decide (aA p m ≥ 0)=kc p m:=rfl
 have l1:=ltR k3 k4
 have l2:=ltR hm.d0 (by have:=hm.d5; omega)
 have l3:=ltR hm.p0 hm.p6
 have e4:(bD (wr .i64 m.aw)).length=2:=by rw [(uM hm.f0 hm.f1).2]; rfl
 have e2:(bD (wr .i64 m.to)).length=2:=by rw [(uM hm.t0 hm.t1).2]; rfl
 have w1:mQ m 1=List.take 1 (bD (wr .i64 m.aw)):=by unfold mQ; rw [s2]; rfl
 refine ⟨?_,?_⟩
 ·obtain ⟨_,_,g1⟩:=xX (k:=bU p m) k3 (by omega)
  obtain ⟨_,_,g2⟩:=xX (k:=m.aD) hm.d0 (by have:=hm.d5; omega)
  obtain ⟨_,_,g3⟩:=xX (k:=m.aM) hm.p0 (by have:=hm.p6; omega)
  obtain ⟨c1,c2⟩:=hc c
  obtain ⟨c3,c4⟩:=hc 1
  unfold EZ
  rw [s3,s4,k1,k2,t1,t2,e80,c1,c3,l1,l2,l3]
  generalize bD (wr .i64 m.to)=T at e2
  generalize bw (bU p m)=A at g1
  generalize bw m.aD=B at g2
  generalize bw m.aM=C at g3
  generalize mQ m c=W at c2
  generalize mQ m 1=V at c4
  repeat' (first | with_reducible refine ao ?_ (fun _ => ?_) | with_reducible refine aq (fun _ => ?_) (fun _ => ?_) | with_reducible rfl | exact decide_eq_true (by omega) | exact decide_eq_true (by simp only [List.length_append,List.length_drop,List.length_take,List.length_cons,List.length_nil,show (ByteArray.mk #[64]).data.toList=([64]:List UInt8) from rfl,show (ByteArray.mk #[120]).data.toList=([120]:List UInt8) from rfl,show (ByteArray.mk #[61]).data.toList=([61]:List UInt8) from rfl,show (ByteArray.mk #[]).data.toList=([]:List UInt8) from rfl]; omega))
 ·unfold xK b9
  rw [s4,k2,t2,e80,l1,l2,l3,w1]
  have d:(m.aD != 0)=!(m.aD==0):=rfl
  have e:(m.aM != 0)=!(m.aM==0):=rfl
  have f:(bU p m != 1)=!(bU p m==1):=rfl
  have x1:(!(ByteArray.mk #[120]).data.toList==(ByteArray.mk #[]).data.toList)=true:=rfl
  have x2:(!(ByteArray.mk #[]).data.toList==(ByteArray.mk #[]).data.toList)=false:=rfl
  rw [d,e,f,x1,x2,show (ByteArray.mk #[64]).data.toList=([64]:List UInt8) from rfl,show (ByteArray.mk #[120]).data.toList=([120]:List UInt8) from rfl,show (ByteArray.mk #[61]).data.toList=([61]:List UInt8) from rfl,show (ByteArray.mk #[]).data.toList=([]:List UInt8) from rfl]
  generalize bD (wr .i64 m.to)=T
  generalize bD (wr .i64 m.aw)=F
  cases m.bq <;> cases (m.aD==0) <;> cases kc p m <;> cases decide (m.to > m.aw) <;> cases (bU p m==1) <;> cases (m.aM==0) <;>
   first | rfl | simp only [cond_true,cond_false,Bool.not_true,Bool.not_false,List.append_assoc,List.append_nil,List.nil_append,List.cons_append]
theorem Ia (hp:aG p) (hth:there p) (h76:m ∈ cy p):Bn p m=true∧PG p m=nG p m:=by
 obtain ⟨k,h,_⟩:=lN hp m
 obtain ⟨q0,q1,q2,q3⟩:=h h76
 obtain ⟨m1,m2⟩:=xx hp hth h76
 have e31:DC (cy p) m=true:=by rw [lf (by have:=mc hp; omega)]; exact decide_eq_true h76
 have e59:(jg p m).1=Eb p m:=by rw [Ee,e31]; rfl
 rw [e59] at q1 q3
 have t0:=hp.t0
 have t1:=hth.1
 have ht:(Eb p m).aa=0∨(Eb p m).aa=1:=by omega
 obtain ⟨a1,a2⟩:=UK q1
 obtain ⟨b1,b2⟩:=pB q1 ht ht
 unfold Bn PG nG
 rw [m1,m2,a1,a2,b1,b2,e59]
 refine ⟨?_,rfl⟩
 cases ((Gc (Eb p m)).2==1) <;> rfl
theorem Ys (hl:l.length≤1000000) (m:Mv):EC l m=true∧P7 l m=decide (m ∈ l):=by
 obtain ⟨r,e,h⟩:∃ r,qd l m 0=some r∧cq r=decide (m ∈ l):=by
  refine ba (I:=fun x:Int=>0≤x∧x≤(l.length:Int)∧∀ j:Nat,(j:Int) < x→l.getD j default≠m) (Q:=fun r:Unit ⊕ (Int×Bool)=>cq r=decide (m ∈ l)) (μ:=fun x=>((l.length:Int) - x).toNat) ?_ _ ⟨Int.le_refl _,by omega,fun j h=>by omega⟩ (by omega)
  rintro x ⟨x0,x1,hx⟩
  unfold CR Jy
  by_cases hi:x < Int.ofNat l.length
  ·have hi':x < (l.length:Int):=hi
   have hin:=ct (l:=l) (i:=x.toNat) (d:=default) (by omega)
   rw [decide_eq_true hi,decide_eq_true x0,aI (n:=x+1) (by omega) (by omega),va]
   refine ⟨rfl,?_⟩
   rw [cond_true]
   by_cases h:l.getD x.toNat default=m
   ·rw [decide_eq_true h]
    rw [h] at hin
    exact (decide_eq_true hin).symm
   ·rw [decide_eq_false h]
    refine ⟨⟨by omega,by omega,fun j hj => ?_⟩,show ((l.length:Int) - (x+1)).toNat < ((l.length:Int) - x).toNat by omega⟩
    by_cases e:(j:Int)=x
    ·rw [show j=x.toNat by omega]; exact h
    ·exact hx j (by omega)
  ·rw [decide_eq_false hi]
   refine ⟨rfl,?_⟩
   refine (decide_eq_false fun hm => ?_).symm
   obtain ⟨j,hj,e⟩:=List.getElem_of_mem hm
   refine hx j (by have:¬ x < (l.length:Int):=hi; omega) ?_
   rw [List.getD_eq_getElem?_getD,List.getElem?_eq_getElem hj,e]; rfl
 unfold EC P7
 rw [e]
 simp only [Option.getD_some]
 rw [h]
 refine ⟨?_,?_⟩ <;> cases decide (m ∈ l) <;> rfl
theorem inR (hp:aG p) (hm:m ∈ bN p):BE p m (bN p)=true∧Ve p m (bN p)=U4 p m (bN p):=by
 obtain ⟨a,hth,b⟩:=fC hp hm
 have hl:=gU hp
 obtain ⟨_,tx,_⟩:=rY hp hm
 obtain ⟨h1,h2⟩:=Ys (l:=bN p) (by omega) m
 obtain ⟨c1,c2,c3,c4⟩:=LF hp (show (bN p).length≤1000000 by omega) a fun x hx=>(fC hp hx).1
 obtain ⟨d1,d2⟩:=Hu hp a b hth (QJ p m (bN p)) fun c=>⟨c2 c,c4 c⟩
 obtain ⟨e1,e2⟩:=Ia hp hth b
 obtain ⟨_,k4⟩:=pK hp b
 obtain ⟨h,z,f1,_,f3,_⟩:=ma hp a (c:=Cx p m (bN p)) (by rw [← c3]; exact c4 _)
 unfold BE Ve
 rw [h1,h2,decide_eq_true hm,c1,d1,d2,e1,e2,c3,tx]
 refine ⟨?_,rfl⟩
 have:(nG p m).length≤1:=by rcases k4 with e | e | e <;> rw [e] <;> decide
 rw [decide_eq_true (show (b9 p m (Cx p m (bN p))).length+(nG p m).length≤1073741824 by rw [f1]; simp; omega)]
 rfl
theorem T9 (hp:aG p) (m:Mv):yl p m=true∧LW p m=BF p m∧zO p m=true∧OE p m=I3 p m:=by
 obtain ⟨g1,g2⟩:=ud hp
 have hl:=gU hp
 obtain ⟨h1,h2⟩:=Ys (l:=bN p) (by omega) m
 obtain ⟨_,_,_,_,y,n⟩:=rf hp m
 by_cases hm:m ∈ bN p
 ·obtain ⟨a1,a2⟩:=inR hp hm
  obtain ⟨_,hth,b⟩:=fC hp hm
  obtain ⟨e1,e2⟩:=Ia hp hth b
  obtain ⟨_,tx,_⟩:=rY hp hm
  obtain ⟨y1,y2⟩:=y hm
  refine ⟨?_,?_,?_,?_⟩
  ·unfold yl; rw [g1,g2,a1]; rfl
  ·unfold LW; rw [g2,a2,y1,tx]
  ·unfold zO; rw [g1,g2,h1,h2,decide_eq_true hm,e1]; rfl
  ·unfold OE; rw [g2,h2,decide_eq_true hm,y2,e2]; rfl
 ·obtain ⟨n1,n2⟩:=n hm
  refine ⟨?_,?_,?_,?_⟩
  ·unfold yl BE; rw [g1,g2,h1,h2,decide_eq_false hm]; rfl
  ·unfold LW Ve; rw [g2,h2,decide_eq_false hm,n1]; rfl
  ·unfold zO; rw [g1,g2,h1,h2,decide_eq_false hm]; rfl
  ·unfold OE; rw [g2,h2,decide_eq_false hm,n2]; rfl
end Kz
end
