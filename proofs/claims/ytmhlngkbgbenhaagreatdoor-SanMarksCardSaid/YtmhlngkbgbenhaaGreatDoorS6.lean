/- Part 6 of the texts under the proof: an abstract interpreter,the summaries of functions,plain laws. -/
import Derived.Test.YtmhlngkbgbenhaaGreatDoorS5
set_option linter.unusedSectionVars false
set_option linter.unusedVariables false
set_option linter.unusedSimpArgs false
set_option linter.unnecessarySimpa false
section
namespace Kz
open Go Go.RowKit Go.Proofs
set_option maxRecDepth 100000
set_option maxHeartbeats 4000000
noncomputable def K24:List (Nat×Nat×List (Nat×List Nat)):=[(24,18,[(0,[2,3,4]),(1,[6])])]
noncomputable def B24:aC:=au Pz (fun f i=>bI f i K24) [(32,R6),(49,SN),(50,ZB)] [] []
theorem Zc:bD B24:=ao al ⟨S1,Yp,s50,trivial⟩ trivial trivial
noncomputable def No (a:Pos) (b:Mv) (c:List Mv):List UInt8:=(kL a b (oC a b c)++nK a b)
noncomputable def A5 (a:Pos) (b:Mv) (c:List Mv):Bool:=(Df a b c&&(lZ a b (oC a b c)&&(xc a b&&(decide ((kL a b (oC a b c)).length+(nK a b).length≤1073741824)&&true))))
theorem P24 (a:Pos) (b:Mv) (c:List Mv) (h:A5 a b c=true):PS Pz 24 [Pos.av a,Mv.av b,.list .mv c .arg] (dS.res (No a b c)):=aA (n:=14) Zc (by kernel_rfl) (by kernel_rfl) (by kernel_rfl) h
noncomputable def SX:List AV→Tr AV:=g3 bH iE (dL .mv) (fun a b c=>cE (A5 a b c) (dS.res (No a b c)))
theorem Tl:Sound Pz 24 SX:=eG fun a b c=>aJ (P24 a b c)
noncomputable def K15:List (Nat×Nat×List (Nat×List Nat)):=[(15,16,[(0,[2,3]),(1,[2,3,5]),(2,[2,3,5,11]),(3,[4]),(4,[4])])]
noncomputable def B15:aC:=au Pz (fun f i=>bI f i K15) [(20,zT),(24,SX),(31,xb)] [] []
theorem XF:bD B15:=ao al ⟨AQ,Tl,zD,trivial⟩ trivial trivial
noncomputable def aD (a:Pos) (b:Mv):List UInt8:=(bif !A0 (ae a) b then ((ByteArray.mk #[]).data.toList) else (No a b (ae a)))
noncomputable def iF (a:Pos) (b:Mv):Bool:=(kI a&&(xD (ae a) b&&(bif !A0 (ae a) b then true else (A5 a b (ae a)&&true))))
theorem GR (a:Pos) (b:Mv) (h:iF a b=true):PS Pz 15 [Pos.av a,Mv.av b] (dS.res (aD a b)):=aA (n:=14) XF (by kernel_rfl) (by kernel_rfl) (by kernel_rfl) h
noncomputable def Nj:List AV→Tr AV:=g2 bH iE (fun a b=>cE (iF a b) (dS.res (aD a b)))
theorem QK:Sound Pz 15 Nj:=bB fun a b=>aJ (GR a b)
noncomputable def K21:List (Nat×Nat×List (Nat×List Nat)):=[(21,9,[(0,[2,3]),(1,[4])])]
noncomputable def B21:aC:=au Pz (fun f i=>bI f i K21) [(20,zT),(31,xb)] [] []
theorem VC:bD B21:=ao al ⟨AQ,zD,trivial⟩ trivial trivial
noncomputable def wW (a:Pos) (b:Mv):Bool:=(A0 (ae a) b)
noncomputable def mT (a:Pos) (b:Mv):Bool:=(kI a&&(xD (ae a) b&&true))
theorem P21 (a:Pos) (b:Mv) (h:mT a b=true):PS Pz 21 [Pos.av a,Mv.av b] (dB.res (wW a b)):=aA (n:=14) VC (by kernel_rfl) (by kernel_rfl) (by kernel_rfl) h
noncomputable def SW:List AV→Tr AV:=g2 bH iE (fun a b=>cE (mT a b) (dB.res (wW a b)))
theorem S7:Sound Pz 21 SW:=bB fun a b=>aJ (P21 a b)
noncomputable def K17:List (Nat×Nat×List (Nat×List Nat)):=[(17,12,[(0,[2,3]),(1,[2,3,8]),(2,[4]),(3,[4])])]
noncomputable def B17:aC:=au Pz (fun f i=>bI f i K17) [(21,SW),(32,R6)] [] []
theorem Wq:bD B17:=ao al ⟨S7,S1,trivial⟩ trivial trivial
noncomputable def bE (a:Pos) (b:Mv):List UInt8:=(bif !wW a b then ((ByteArray.mk #[]).data.toList) else (nK a b))
noncomputable def od (a:Pos) (b:Mv):Bool:=(mT a b&&(bif !wW a b then true else (xc a b&&true)))
theorem P17 (a:Pos) (b:Mv) (h:od a b=true):PS Pz 17 [Pos.av a,Mv.av b] (dS.res (bE a b)):=aA (n:=14) Wq (by kernel_rfl) (by kernel_rfl) (by kernel_rfl) h
noncomputable def X9:List AV→Tr AV:=g2 bH iE (fun a b=>cE (od a b) (dS.res (bE a b)))
theorem ZJ:Sound Pz 17 X9:=bB fun a b=>aJ (P17 a b)
end Kz
end
section
namespace Kz
open Go Go.RowKit Go.Proofs
set_option maxRecDepth 100000
theorem nT {f:Nat→Bool} {k:Nat} (t:(List.range k).all f=true) {n:Nat} (h:n < k):f n=true:=List.all_eq_true.1 t n (List.mem_range.2 h)
theorem OW:(List.range 64).all (fun n=>kK (n:Int)&&(bF (n:Int)==[UInt8.ofNat (97+n % 8),UInt8.ofNat (49+n / 8)]))=true:=by kernel_rfl
theorem uO {n:Int} (h0:0≤n) (h1:n < 64):kK (wr .i64 n)=true∧bF (wr .i64 n)=[UInt8.ofNat (97+n.toNat % 8),UInt8.ofNat (49+n.toNat / 8)]:=by
  rw [cp (by omega) (by omega)]
  have t:=nT OW (n:=n.toNat) (by omega)
  rw [Int.toNat_of_nonneg h0] at t
  simp only [Bool.and_eq_true,beq_iff_eq] at t
  exact t
theorem QF:(List.range 256).all (fun n=>cO (n:Int)&&(bq (n:Int)==(bif decide (1≤n)&&decide (n≤6) then [([80,78,66,82,81,75]:List UInt8).getD (n - 1) 0] else [])))=true:=by kernel_rfl
def gY (n:Nat):UInt8:=([80,78,66,82,81,75]:List UInt8).getD (n - 1) 0
theorem FC {n:Nat} (h1:1≤n) (h6:n≤6):65≤(gY n).toNat∧(gY n).toNat≤90:=by
  have:n=1∨n=2∨n=3∨n=4∨n=5∨n=6:=by omega
  rcases this with rfl | rfl | rfl | rfl | rfl | rfl <;> decide
theorem tG {k:Int} (h0:0≤k) (h1:k≤255):cO k=true∧(1≤k→k≤6→bq k=[gY k.toNat])∧(bq k).length≤1:=by
  have t:=nT QF (n:=k.toNat) (by omega)
  rw [Int.toNat_of_nonneg h0] at t
  simp only [Bool.and_eq_true,beq_iff_eq] at t
  obtain ⟨a,b⟩:=t
  refine ⟨a,fun h1 h6 => ?_,?_⟩
  · rw [b,decide_eq_true (show 1≤k.toNat by omega),decide_eq_true (show k.toNat≤6 by omega)]
    rfl
  · rw [b]
    cases decide (1≤k.toNat)&&decide (k.toNat≤6)
    · exact Nat.zero_le _
    · exact Nat.le_refl _
theorem Jy:(List.range 256).all (fun n=>decide (0≤aY (n:Int))&&decide (aY (n:Int)≤6)&&(bif fH (n:Int) then decide (1≤aY (n:Int)) else true))=true:=by kernel_rfl
variable {p:Pos} {m:Mv}
theorem w8 (hp:aR p) (f0:0≤m.aw) (f1:m.aw < 64):mu p m=true∧0≤bu p m∧bu p m≤6:=by
  have hin:0≤p.ag.getD m.aw.toNat 0∧p.ag.getD m.aw.toNat 0≤255:=ku hp.b0 (by omega) _
  unfold mu bu zk Em
  rw [cp (by omega) (by omega),sR,decide_eq_true f0,decide_eq_true (show m.aw < Int.ofNat 64 from f1)]
  have z:0≤aY 0∧aY 0≤6:=by
    have:=nT Jy (n:=0) (by decide)
    simp only [Bool.and_eq_true,decide_eq_true_eq] at this
    exact this.1
  have t:=nT Jy (n:=(p.ag.getD m.aw.toNat 0).toNat) (by omega)
  rw [Int.toNat_of_nonneg hin.1] at t
  simp only [Bool.and_eq_true,decide_eq_true_eq] at t
  generalize p.ag.getD m.aw.toNat 0=x at t
  cases xu m.aw <;> cases fH x <;> first | exact ⟨rfl,t.1⟩ | exact ⟨rfl,z⟩
variable {p:Pos} {m:Mv} {c:List UInt8}
noncomputable def aW (p:Pos) (m:Mv) (c:List UInt8):List UInt8 :=
  bif m.bh then (bif decide (m.to > m.aw) then [79,45,79] else [79,45,79,45,79])
  else bif m.aM==0 then
    (bif bu p m==1 then (bif gX p m then List.take 1 (bF (wr .i64 m.aw))++120::bF (wr .i64 m.to) else bF (wr .i64 m.to))++(bif m.aI==0 then [] else 61::bq m.aI)
    else bq (bu p m)++(c++((bif gX p m then [120] else [])++bF (wr .i64 m.to))))
  else bq m.aM++64::bF (wr .i64 m.to)
theorem xN (p:Pos) (m:Mv) (c:List UInt8):kL p m c=aW p m c:=by
  unfold kL Gg aW
  have d:(m.aM != 0)=!(m.aM==0):=rfl
  have e:(m.aI != 0)=!(m.aI==0):=rfl
  rw [d,e]
  cases m.bh <;> cases (m.aM==0) <;> cases gX p m <;> cases decide (m.to > m.aw) <;> cases (bu p m==1) <;> cases (m.aI==0) <;>
    first | rfl | simp only [cond_true,cond_false,Bool.not_true,Bool.not_false,List.append_assoc,List.append_nil,List.nil_append,List.cons_append,List.drop_zero] <;> rfl
structure iV (m:Mv):Prop where
  f0:0≤m.aw
  f1:m.aw < 64
  t0:0≤m.to
  t1:m.to < 64
  d0:0≤m.aM
  d5:m.aM≤5
  p0:0≤m.aI
  p6:m.aI≤6
theorem cm (hp:aR p) (h:m ∈ ae p):iV m∧there p∧m ∈ dO p:=by
  have h1:m ∈ nI p:=by
    rw [EJ hp] at h
    revert h
    cases ((Fa p).1 != 0) with
    | true=>intro h; cases h
    | false=>exact id
  have h2:=(GA hp h1).1
  obtain ⟨a,b,c,d,e,f,g,i,j⟩:=yF hp h2
  exact ⟨⟨b,c,d,e,f,g,i,j⟩,a,h2⟩
theorem DA (hp:aR p) (hm:iV m) (hc:c.length≤2):lZ p m c=true:=by
  obtain ⟨s1,s2⟩:=uO hm.t0 hm.t1
  obtain ⟨s3,s4⟩:=uO hm.f0 hm.f1
  obtain ⟨k1,k2,k3⟩:=w8 hp hm.f0 hm.f1
  obtain ⟨l1,_,l2⟩:=tG (k:=bu p m) k2 (by omega)
  obtain ⟨l3,_,l4⟩:=tG (k:=m.aM) hm.d0 (by have:=hm.d5; omega)
  obtain ⟨l5,_,l6⟩:=tG (k:=m.aI) hm.p0 (by have:=hm.p6; omega)
  have k80:=t80 (p:=p) hp.v0 m
  have e2:(bF (wr .i64 m.to)).length=2:=by rw [s2]; rfl
  have e4:(bF (wr .i64 m.aw)).length=2:=by rw [s4]; rfl
  have e5:decide (1≤Int.ofNat (bF (wr .i64 m.aw)).length)=true:=by rw [e4]; rfl
  unfold lZ
  rw [s1,s3,k1,l1,l3,l5,k80,e5]
  generalize bF (wr .i64 m.to)=T at e2
  generalize bF (wr .i64 m.aw)=F at e4
  generalize bq (bu p m)=A at l2
  generalize bq m.aM=B at l4
  generalize bq m.aI=C at l6
  repeat' (first | with_reducible refine ar ?_ (fun _ => ?_) | with_reducible refine ay (fun _ => ?_) (fun _ => ?_) | with_reducible rfl | exact decide_eq_true (by omega) | exact decide_eq_true (by simp only [List.length_append,List.length_drop,List.length_take,List.length_cons,List.length_nil,show (ByteArray.mk #[64]).data.toList=([64]:List UInt8) from rfl,show (ByteArray.mk #[120]).data.toList=([120]:List UInt8) from rfl,show (ByteArray.mk #[61]).data.toList=([61]:List UInt8) from rfl,show (ByteArray.mk #[]).data.toList=([]:List UInt8) from rfl]; omega))
def jg (z:UInt8):Prop:=(49≤z.toNat∧z.toNat≤56)∨z.toNat=79∨(65≤z.toNat∧z.toNat≤90)
theorem il (hp:aR p) (hm:iV m) (hc:c.length≤2):∃ h z,aW p m c=h++[z]∧1≤h.length∧h.length≤10∧jg z:=by
  have s2:=(uO hm.t0 hm.t1).2
  have s4:=(uO hm.f0 hm.f1).2
  obtain ⟨k1,k2,k3⟩:=w8 hp hm.f0 hm.f1
  obtain ⟨l1,_,l2⟩:=tG (k:=bu p m) k2 (by omega)
  obtain ⟨l3,_,l4⟩:=tG (k:=m.aM) hm.d0 (by have:=hm.d5; omega)
  obtain ⟨l5,l7,l6⟩:=tG (k:=m.aI) hm.p0 (by have:=hm.p6; omega)
  have zt:jg (UInt8.ofNat (49+m.to.toNat / 8)):=by
    left
    have:=hm.t1
    rw [UInt8.toNat_ofNat',Nat.mod_eq_of_lt (by omega)]
    omega
  unfold aW
  rw [s2,s4]
  generalize UInt8.ofNat (49+m.to.toNat / 8)=z at zt
  generalize UInt8.ofNat (97+m.to.toNat % 8)=y
  cases m.bh with
  | true =>
    cases decide (m.to > m.aw) with
    | true=>exact ⟨[79,45],79,rfl,by decide,by decide,.inr (.inl rfl)⟩
    | false=>exact ⟨[79,45,79,45],79,rfl,by decide,by decide,.inr (.inl rfl)⟩
  | false =>
    rw [cond_false]
    cases (m.aM==0) with
    | false=>exact ⟨bq m.aM++[64,y],z,by simp,by simp <;> omega,by simp <;> omega,zt⟩
    | true =>
      rw [cond_true]
      cases (bu p m==1) with
      | false =>
        cases gX p m with
        | true=>exact ⟨bq (bu p m)++(c++[120,y]),z,by simp,by simp <;> omega,by simp <;> omega,zt⟩
        | false=>exact ⟨bq (bu p m)++(c++[y]),z,by simp,by simp <;> omega,by simp <;> omega,zt⟩
      | true =>
        rw [cond_true]
        cases hpr:(m.aI==0) with
        | true =>
          cases gX p m with
          | true=>exact ⟨[UInt8.ofNat (97+m.aw.toNat % 8),120,y],z,rfl,by simp,by simp,zt⟩
          | false=>exact ⟨[y],z,rfl,by simp,by simp,zt⟩
        | false =>
          have p1:1≤m.aI:=by
            have:=hm.p0
            have:m.aI≠0:=by simpa using hpr
            omega
          have l7:=l7 p1 hm.p6
          have zl:jg (gY m.aI.toNat) := .inr (.inr (FC (by omega) (by have:=hm.p6; omega)))
          rw [l7]
          cases gX p m with
          | true=>exact ⟨[UInt8.ofNat (97+m.aw.toNat % 8),120,y,z,61],gY m.aI.toNat,rfl,by simp,by simp,zl⟩
          | false=>exact ⟨[y,z,61],gY m.aI.toNat,rfl,by simp,by simp,zl⟩
end Kz
end
section
namespace Kz
open Go Go.RowKit
set_option maxRecDepth 100000
set_option maxHeartbeats 4000000
def cl (h f:Int) (p:Pos):Pos:=⟨p.variant,p.ag,p.ab,p.af,p.aa,p.ak,p.ah,p.ai,h,f⟩
def bA.map {X X' R R':Type} (φ:X→X') (ψ:R→R'):bA X R→bA X' R'
  | .go x=>.go (φ x)
  | .out r=>.out (ψ r)
  | .bad=>.bad
section
variable (h f:Int) (p:Pos)
end
section
variable (h f h2 f2 h3 f3:Int) (a q p:Pos) (b m:Mv) (c:Int)
end
section
variable {p:Pos} (hp:aR p)
include hp
variable {h f:Int} (hq:aR (cl h f p))
include hq
end
theorem t288 (p:Pos) (b:Int):mQ p b=true:=ar (t191 _ _ _) fun _=>ar (t191 _ _ _) fun _=>rfl
theorem t251 (p:Pos):wJ p=true:=by
  unfold wJ
  rw [show (Pos.mk p.variant p.ag p.ab p.af p.aa p.ak p.ah p.ai p.half p.full)=p from rfl]
  repeat' (first | with_reducible rfl | with_reducible exact t234 _ | with_reducible exact t288 _ _ | with_reducible exact t191 _ _ _ | refine ar ?_ (fun _ => ?_) | refine ay (fun _ => ?_) (fun _ => ?_))
theorem t194 (p:Pos):yD p=true:=ar (t251 _) fun _=>rfl
theorem t193 {p:Pos} (hp:aR p):yT p=true:=ar (t20 hp) fun _=>ay (fun _=>rfl) fun _=>ay (fun _=>rfl) fun _=>ar (t61 hp.v0 hp.t0) fun _=>rfl
theorem t60 {p:Pos} (hp:aR p):GU p=true:=ay (fun _=>rfl) fun _=>ay (fun _=>rfl) fun _=>ar (t36 hp) fun _=>ay (fun _=>rfl) fun _=>ar (t193 hp) fun _=>ay (fun _=>rfl) fun _=>ar (t194 p) fun _=>rfl
section
variable {p:Pos} (hp:aR p) {h f:Int} (hq:aR (cl h f p))
include hp hq
end
end Kz
end
section
namespace Kz
open Go Go.RowKit Go.Proofs
set_option maxRecDepth 100000
variable {p:Pos} {m:Mv} {l:List Mv}
theorem BE (hp:aR p) (hl:l.length≤1000000) (hm:iV m) (hx:∀ x ∈ l,iV x):(eY l (Int.ofNat l.length) p m (false,false,false,0)).isSome=true:=by
  obtain ⟨r,e,_⟩:∃ r,eY l (Int.ofNat l.length) p m (false,false,false,0)=some r∧True:=by
    refine b7 (I:=fun x:Bool×Bool×Bool×Int=>0≤x.2.2.2) (μ:=fun x=>((l.length:Int) - x.2.2.2).toNat) ?_ _ (Int.le_refl _) (by dsimp only; omega)
    rintro ⟨a,b,c,i⟩ h0
    dsimp only at h0
    unfold sQ yy
    dsimp only
    by_cases hi:i < Int.ofNat l.length
    · have hi':i < (l.length:Int):=hi
      have hin:=hx _ (cF (l:=l) (i:=i.toNat) (d:=default) (by omega))
      rw [decide_eq_true hi,decide_eq_true h0]
      generalize l.getD i.toNat default=x at hin
      have o1:=(w8 (p:=p) hp hin.f0 hin.f1).1
      have o2:=(w8 (p:=p) hp hm.f0 hm.f1).1
      rw [o1,o2,cp (by omega) (by omega)]
      refine ⟨ar rfl fun _=>ay (fun _=>rfl) fun _=>ay (fun _=>rfl) fun _=>ay (fun _=>rfl) fun _=>ay (fun _=>rfl) fun _=>rfl,?_⟩
      have g:∀ a b c:Bool,vO (fun x:Bool×Bool×Bool×Int=>0≤x.2.2.2) (fun _=>True) (fun x=>((l.length:Int) - x.2.2.2).toNat) ((l.length:Int) - i).toNat (.go (a,b,c,i+1):bA (Bool×Bool×Bool×Int) (Bool×Bool×Bool×Int×Bool)):=fun a b c=>⟨by dsimp only; omega,by dsimp only; omega⟩
      have gi:=fun {q:bA (Bool×Bool×Bool×Int) (Bool×Bool×Bool×Int×Bool)} {r} {d:Bool} (h1:vO (fun x:Bool×Bool×Bool×Int=>0≤x.2.2.2) (fun _=>True) (fun x=>((l.length:Int) - x.2.2.2).toNat) ((l.length:Int) - i).toNat q) (h2:vO (fun x:Bool×Bool×Bool×Int=>0≤x.2.2.2) (fun _=>True) (fun x=>((l.length:Int) - x.2.2.2).toNat) ((l.length:Int) - i).toNat r)=>(show vO _ _ _ _ (bif d then q else r) from by cases d <;> assumption)
      rw [cond_true]
      exact gi (g _ _ _) (gi (g _ _ _) (gi (g _ _ _) (gi (g _ _ _) (gi (g _ _ _) (gi (gi (g _ _ _) (g _ _ _)) (gi (g _ _ _) (g _ _ _)))))))
    · rw [decide_eq_false hi]
      exact ⟨rfl,trivial⟩
  rw [e]
  rfl
theorem Ft (hp:aR p) (hl:l.length≤1000000) (hm:iV m) (hx:∀ x ∈ l,iV x):Df p m l=true∧(oC p m l).length≤2:=by
  obtain ⟨s3,s4⟩:=uO hm.f0 hm.f1
  have e4:(bF (wr .i64 m.aw)).length=2:=by rw [s4]; rfl
  have e5:decide (1≤Int.ofNat (bF (wr .i64 m.aw)).length)=true:=by rw [e4]; rfl
  unfold Df oC
  rw [BE hp hl hm hx,s3,e5]
  generalize bF (wr .i64 m.aw)=F at e4
  generalize (eY l (Int.ofNat l.length) p m (false,false,false,0)).getD default=r
  refine ⟨by cases r.1 <;> cases r.2.1 <;> cases r.2.2.1 <;> rfl,?_⟩
  cases r.1 <;> cases r.2.1 <;> cases r.2.2.1 <;> simp [e4] <;> omega
def uf (e:List UInt8):Prop:=e=[]∨e=[43]∨e=[35]
theorem jU (hp:aR p) (hm:m ∈ dO p):xc p m=true∧uf (nK p m):=by
  obtain ⟨k,h,_⟩:=qn hp m
  obtain ⟨_,q1,_,q3⟩:=h hm
  unfold xc nK
  rw [k,t60 q1,t61 q1.v0 (by rw [q3]; exact (show 0≤1 - p.aa from by
    have:=q1.t0
    rw [q3] at this
    exact this))]
  refine ⟨by cases ((Ns (iD p m).1).2==1) <;> rfl,?_⟩
  cases ((Ns (iD p m).1).2==1)
  · cases Bb (iD p m).1 (iD p m).1.aa
    · exact .inl rfl
    · exact .inr (.inl rfl)
  · exact .inr (.inr rfl)
theorem pH (hp:aR p) (hm:m ∈ ae p):A5 p m (ae p)=true∧No p m (ae p)=aW p m (oC p m (ae p))++nK p m∧(oC p m (ae p)).length≤2:=by
  obtain ⟨a,_,b⟩:=cm hp hm
  have hl:=dV hp
  obtain ⟨k1,k2⟩:=Ft hp (show (ae p).length≤1000000 by omega) a fun x hx=>(cm hp hx).1
  obtain ⟨k3,k4⟩:=jU hp b
  have k5:=DA hp a k2
  obtain ⟨h,z,e1,_,e3,_⟩:=il hp a k2
  unfold A5 No
  rw [k1,k3,k5,xN]
  refine ⟨?_,rfl,k2⟩
  have:(nK p m).length≤1:=by rcases k4 with e | e | e <;> rw [e] <;> decide
  rw [decide_eq_true (show (aW p m (oC p m (ae p))).length+(nK p m).length≤1073741824 by rw [e1]; simp; omega)]
  rfl
theorem cK (hp:aR p) (m:Mv):iF p m=true∧od p m=true∧mT p m=true∧wW p m=decide (m ∈ ae p)∧(m ∈ ae p→aD p m=aW p m (oC p m (ae p))++nK p m∧bE p m=nK p m)∧(m ∉ ae p→aD p m=[]∧bE p m=[]):=by
  have hl:=dV hp
  have k20:=t20 hp
  have k31:=t31 (l:=ae p) (b:=m) (by omega)
  have e31:=pU (l:=ae p) (b:=m) (by omega)
  have k21:mT p m=true:=by unfold mT; rw [k20,k31]; rfl
  have e21:wW p m=decide (m ∈ ae p):=by
    rw [← e31]
    rfl
  by_cases h:m ∈ ae p
  · obtain ⟨t1,t2,_⟩:=pH hp h
    have t3:=(jU hp (cm hp h).2.2).1
    refine ⟨?_,?_,k21,e21,fun _=>⟨?_,?_⟩,fun g=>absurd h g⟩
    · unfold iF; rw [k20,k31,e31,decide_eq_true h,t1]; rfl
    · unfold od; rw [k21,e21,decide_eq_true h,t3]; rfl
    · unfold aD; rw [e31,decide_eq_true h,← t2]; rfl
    · unfold bE; rw [e21,decide_eq_true h]; rfl
  · refine ⟨?_,?_,k21,e21,fun g=>absurd g h,fun _=>⟨?_,?_⟩⟩
    · unfold iF; rw [k20,k31,e31,decide_eq_false h]; rfl
    · unfold od; rw [k21,e21,decide_eq_false h]; rfl
    · unfold aD; rw [e31,decide_eq_false h]; rfl
    · unfold bE; rw [e21,decide_eq_false h]; rfl
end Kz
end
section
namespace Kz
open Go Go.RowKit Go.Proofs
set_option maxRecDepth 100000
set_option maxHeartbeats 4000000
noncomputable def Ua:List (Nat×Nat×List (Nat×List Nat)):=[(123,8,[(0,[0,2]),(1,[2])])]
noncomputable def X4:aC:=au Pz (fun f i=>bI f i Ua) [] [] []
theorem RR:bD X4:=ao al trivial trivial trivial
noncomputable def gx (a:Int):Pos:=⟨(a),(List.replicate 64 0),(0),(List.replicate 12 0),(0),(List.take 2 (List.take 0 (List.replicate 4 0)++((List.replicate 2 0).set 0 (-1)).set 1 (-1)++List.drop 2 (List.replicate 4 0))++((List.replicate 2 0).set 0 (-1)).set 1 (-1)++List.drop 4 (List.take 0 (List.replicate 4 0)++((List.replicate 2 0).set 0 (-1)).set 1 (-1)++List.drop 2 (List.replicate 4 0))),(-1),(List.replicate 2 0),(0),(1)⟩
noncomputable def RW (a:Int):Bool:=true
theorem Xy (a:Int) (h:RW a=true):PS Pz 123 [.int .u8 a] (bH.res (gx a)):=aA (n:=14) RR (by kernel_rfl) (by kernel_rfl) (by kernel_rfl) h
noncomputable def Hd:List AV→Tr AV:=g1 (dI .u8) (fun a=>.ret (bH.res (gx a)))
theorem MN:Sound Pz 123 Hd:=aS fun a=>cW (Xy a rfl)
noncomputable def Uj:List (Nat×Nat×List (Nat×List Nat)):=[(124,5,[(0,[0]),(1,[2])])]
noncomputable def Zb:aC:=au Pz (fun f i=>bI f i Uj) [] [] []
theorem OE:bD Zb:=ao al trivial trivial trivial
noncomputable def jn (a:Int):Int:=(wr .u8 (8+a))
noncomputable def Q2 (a:Int):Bool:=true
theorem Y9 (a:Int) (h:Q2 a=true):PS Pz 124 [.int .u8 a] ((dI .u8).res (jn a)):=aA (n:=14) OE (by kernel_rfl) (by kernel_rfl) (by kernel_rfl) h
noncomputable def Ga:List AV→Tr AV:=g1 (dI .u8) (fun a=>.ret ((dI .u8).res (jn a)))
theorem Ke:Sound Pz 124 Ga:=aS fun a=>cW (Y9 a rfl)
noncomputable def ZS:List (Nat×Nat×List (Nat×List Nat)):=[(64,60,[(0,[0,3,4,38,39]),(1,[0,3,4,5,38,39]),(2,[0,4,5,11,12,38,39]),(3,[0,4,5,11,12,13,38,39]),(4,(0::(rn 4 4 [11,12,38,39]))),(5,(0::(rn 4 4 [11,12,38,39]))),(6,(0::(rn 4 4 [11,12,38,39]))),(7,[0,4,5,6,11,12,38,39,40]),(8,[0,4,5,6,8,11,12,38,39]),(9,[0,4,5,6,8,11,12,38,39,45]),(10,[0,4,5,6,8,11,12,38,39]),(11,[0,4,5,11,12,38,39]),(12,[0,4,5,11,12,38,39]),(13,[4])])]
noncomputable def RO:aC:=au Pz (fun f i=>bI f i ZS) [(125,Fx),(123,Hd),(124,Ga)] [] []
theorem Ls:bD RO:=ao al ⟨Mf,MN,Ke,trivial⟩ trivial trivial
noncomputable def Jh (p1:Int) (p2:(List Int)) (x:(Int×Pos)):St:=St.mk (AV.int .u8 p1::(an 3 (AV.ptr 1 0::AV.ptr 2 0::(an 5 (AV.agg [AV.ints .u8 8 p2]::AV.int .i64 x.fst::(an 47 [])))))) (Hp.mk [[AV.ints .u8 8 p2],[AV.int .u8 0,AV.ints .u8 64 (List.replicate 64 0),AV.u64 0,AV.ints .u8 12 (List.replicate 12 0),AV.int .u8 0,AV.ints .i8 4 (List.replicate 4 0),AV.int .i8 0,AV.ints .u8 2 (List.replicate 2 0),AV.int .i64 0,AV.int .i64 0],(pc x.snd [])] [] [] 0 0 0)
noncomputable def Jp (p1:Int) (p2:(List Int)):(Int×Bool×Pos)→Out:=fun y=>.exit 0 (St.mk (AV.int .u8 p1::(an 3 (AV.ptr 1 0::AV.ptr 2 0::(an 5 (AV.agg [AV.ints .u8 8 p2]::AV.int .i64 y.fst::AV.bool y.snd.fst::(an 46 [])))))) (Hp.mk [[AV.ints .u8 8 p2],[AV.int .u8 0,AV.ints .u8 64 (List.replicate 64 0),AV.u64 0,AV.ints .u8 12 (List.replicate 12 0),AV.int .u8 0,AV.ints .i8 4 (List.replicate 4 0),AV.int .i8 0,AV.ints .u8 2 (List.replicate 2 0),AV.int .i64 0,AV.int .i64 0],(pc y.snd.snd [])] [] [] 0 0 0))
noncomputable def JO (p1:Int) (p2:(List Int)) (x:(Int×Pos)):bA (Int×Pos) ((Int×Bool×Pos)):=(bif decide (x.fst < 8) then (bif xB p1 then (bif p2.getD x.fst.toNat 0==4 then (bif decide (x.snd.ak.getD 1 0 < 0) then (bA.go (wr .i64 (x.fst+1),Pos.mk x.snd.variant ((((x.snd.ag.set (scale 1 x.fst).toNat (p2.getD x.fst.toNat 0)).set (scale 1 (wr .i64 (8+x.fst))).toNat 1).set (scale 1 (wr .i64 (56+x.fst))).toNat (jn (p2.getD x.fst.toNat 0))).set (scale 1 (wr .i64 (48+x.fst))).toNat (jn 1)) x.snd.ab x.snd.af x.snd.aa ((x.snd.ak.set 1 (wr .i8 x.fst)).set 3 (wr .i8 x.fst)) x.snd.ah x.snd.ai x.snd.half x.snd.full)) else (bA.go (wr .i64 (x.fst+1),Pos.mk x.snd.variant ((((x.snd.ag.set (scale 1 x.fst).toNat (p2.getD x.fst.toNat 0)).set (scale 1 (wr .i64 (8+x.fst))).toNat 1).set (scale 1 (wr .i64 (56+x.fst))).toNat (jn (p2.getD x.fst.toNat 0))).set (scale 1 (wr .i64 (48+x.fst))).toNat (jn 1)) x.snd.ab x.snd.af x.snd.aa ((x.snd.ak.set 0 (wr .i8 x.fst)).set 2 (wr .i8 x.fst)) x.snd.ah x.snd.ai x.snd.half x.snd.full))) else (bA.go (wr .i64 (x.fst+1),Pos.mk x.snd.variant ((((x.snd.ag.set (scale 1 x.fst).toNat (p2.getD x.fst.toNat 0)).set (scale 1 (wr .i64 (8+x.fst))).toNat 1).set (scale 1 (wr .i64 (56+x.fst))).toNat (jn (p2.getD x.fst.toNat 0))).set (scale 1 (wr .i64 (48+x.fst))).toNat (jn 1)) x.snd.ab x.snd.af x.snd.aa x.snd.ak x.snd.ah x.snd.ai x.snd.half x.snd.full))) else (bA.go (wr .i64 (x.fst+1),Pos.mk x.snd.variant ((((x.snd.ag.set (scale 1 x.fst).toNat (p2.getD x.fst.toNat 0)).set (scale 1 (wr .i64 (8+x.fst))).toNat 1).set (scale 1 (wr .i64 (56+x.fst))).toNat (jn (p2.getD x.fst.toNat 0))).set (scale 1 (wr .i64 (48+x.fst))).toNat (jn 1)) x.snd.ab x.snd.af x.snd.aa x.snd.ak x.snd.ah x.snd.ai x.snd.half x.snd.full))) else (bA.out ((x.fst,decide (x.fst < 8),x.snd))))
noncomputable def Im (p1:Int) (p2:(List Int)) (x:(Int×Pos)):Bool:=(bif decide (x.fst < 8) then (decide (0≤x.fst)&&decide (x.fst < Int.ofNat 8)&&(decide (0≤x.fst)&&decide (x.fst < Int.ofNat 64)&&(decide (0≤wr .i64 (8+x.fst))&&decide (wr .i64 (8+x.fst) < Int.ofNat 64)&&(decide (0≤wr .i64 (56+x.fst))&&decide (wr .i64 (56+x.fst) < Int.ofNat 64)&&(decide (0≤wr .i64 (48+x.fst))&&decide (wr .i64 (48+x.fst) < Int.ofNat 64)&&(rY (p1)&&true)))))) else true)
noncomputable def eZ (p1:Int) (p2:(List Int)) (x:(Int×Pos)):Option ((Int×Bool×Pos)):=fY (fun x=>bif Im p1 p2 x then JO p1 p2 x else .bad) many x
abbrev Ji {α:Type} (k:Int→(List Int)→(Int×Pos)→α) (s:St):α:=wP s 2 fun q2=>k (tI (tT s 0)) (tN (tX (tA (tT s 11)) 0)) ((tI (tT s 12)),q2)
theorem OR (p1:Int) (p2:(List Int)) (x:(Int×Pos)) (r:(Int×Bool×Pos)) (h:eZ p1 p2 x=some r):aF Pz (bW Pz 64 3) (Jh p1 p2 x) (Jp p1 p2 r):=aF.kR (m:=12) (fn:=64) Ls (Ji fun _ _ x=>some x) (fun o=>match o with | .exit 0 s=>wP s 2 fun q2=>some ((tI (tT s 12)),(tB (tT s 13)),q2) | _=>none) (fun _=>rfl) (fun _=>by kernel_rfl) (fun _=>by kernel_rfl) (fun _=>by kernel_rfl) (fun _=>by kernel_rfl) many x r h
noncomputable def IF (b:Code) (s:St):Tr Out:=Ji (fun p1 p2 x=>qN b (bW Pz 64 3) s (Jh p1 p2 x) (eZ p1 p2 x) (Jp p1 p2)) s
theorem L5:∀ b,bJ Pz b (IF b):=fun _ _ _ h=>cN (OR _ _ _) h
noncomputable def B64:aC:=au Pz (fun f i=>bI f i ZS) [(125,Fx),(123,Hd),(124,Ga)] [(64,3,IF)] []
theorem Uq:bD B64:=ao al ⟨Mf,MN,Ke,trivial⟩ ⟨L5,trivial⟩ trivial
noncomputable def bP (a:Int) (b:List Int):Pos:=⟨(((eZ a b (0,gx a)).getD default).snd.snd.variant),(((eZ a b (0,gx a)).getD default).snd.snd.ag),(((eZ a b (0,gx a)).getD default).snd.snd.ab),(((eZ a b (0,gx a)).getD default).snd.snd.af),(((eZ a b (0,gx a)).getD default).snd.snd.aa),(((eZ a b (0,gx a)).getD default).snd.snd.ak),(((eZ a b (0,gx a)).getD default).snd.snd.ah),(((eZ a b (0,gx a)).getD default).snd.snd.ai),(((eZ a b (0,gx a)).getD default).snd.snd.half),(((eZ a b (0,gx a)).getD default).snd.snd.full)⟩
noncomputable def Gf (a:Int) (b:List Int):Bool:=((eZ a b (0,gx a)).isSome&&true)
theorem P64 (a:Int) (b:List Int) (h:Gf a b=true):PS Pz 64 [.int .u8 a,.agg [.ints .u8 8 b]] (bH.res (bP a b)):=aA (n:=14) Uq (by kernel_rfl) (by kernel_rfl) (by kernel_rfl) h
noncomputable def Qa:List AV→Tr AV:=g2 (dI .u8) (KC .u8 8) (fun a b=>cE (Gf a b) (bH.res (bP a b)))
theorem SZ:Sound Pz 64 Qa:=bB fun a b=>aJ (P64 a b)
noncomputable def K65:List (Nat×Nat×List (Nat×List Nat)):=[(65,2,[(0,[0]),(1,[0])])]
noncomputable def B65:aC:=au Pz (fun f i=>bI f i K65) [] [] []
theorem Vg:bD B65:=ao al trivial trivial trivial
noncomputable def bO  : List Int:=(if 8=8 then ((((((((List.replicate 8 0).set 0 4).set 1 2).set 2 3).set 3 5).set 4 6).set 5 3).set 6 2).set 7 4 else List.take 0 (List.replicate 8 0)++((((((((List.replicate 8 0).set 0 4).set 1 2).set 2 3).set 3 5).set 4 6).set 5 3).set 6 2).set 7 4++List.drop 8 (List.replicate 8 0))
noncomputable def YZ  : Bool:=true
theorem P65  (h:YZ =true):PS Pz 65 [] ((KC .u8 8).res (bO )):=aA (n:=14) Vg (by kernel_rfl) (by kernel_rfl) (by kernel_rfl) h
noncomputable def RC:List AV→Tr AV:=g0  (.ret ((KC .u8 8).res (bO )))
theorem SK:Sound Pz 65 RC:=la (cW (P65 rfl))
noncomputable def YW:List (Nat×Nat×List (Nat×List Nat)):=[(62,28,[(0,[0]),(1,[0,1]),(2,[0,1]),(3,[0,1,10]),(4,[0,1,10,11]),(5,[0,1,2,10]),(6,[0,1,10]),(7,[0,1,10]),(8,[0,1,17,18,19]),(9,(0::1::(rn 17 4 []))),(10,[0,1,4,17,18,19]),(11,[0,1,17,18,19]),(12,[0,1,17,18,19]),(13,[0])])]
noncomputable def Sa:aC:=au Pz (fun f i=>bI f i YW) [(64,Qa),(65,RC)] [] []
theorem Lf:bD Sa:=ao al ⟨SZ,SK,trivial⟩ trivial trivial
noncomputable def Is  (x:(Int×Pos)):St:=St.mk (AV.ptr 0 0::AV.ptr 1 0::(an 8 (AV.int .i64 x.fst::(an 17 [])))) (Hp.mk [[AV.int .u8 0,AV.ints .u8 64 (List.replicate 64 0),AV.u64 0,AV.ints .u8 12 (List.replicate 12 0),AV.int .u8 0,AV.ints .i8 4 (List.replicate 4 0),AV.int .i8 0,AV.ints .u8 2 (List.replicate 2 0),AV.int .i64 0,AV.int .i64 0],(pc x.snd [])] [] [] 0 0 0)
noncomputable def IA  : (Int×Bool×Pos)→Out:=fun y=>.exit 0 (St.mk (AV.ptr 0 0::AV.ptr 1 0::(an 8 (AV.int .i64 y.fst::AV.bool y.snd.fst::(an 16 [])))) (Hp.mk [[AV.int .u8 0,AV.ints .u8 64 (List.replicate 64 0),AV.u64 0,AV.ints .u8 12 (List.replicate 12 0),AV.int .u8 0,AV.ints .i8 4 (List.replicate 4 0),AV.int .i8 0,AV.ints .u8 2 (List.replicate 2 0),AV.int .i64 0,AV.int .i64 0],(pc y.snd.snd [])] [] [] 0 0 0))
noncomputable def JW  (x:(Int×Pos)):bA (Int×Pos) ((Int×Bool×Pos)):=(bif decide (x.fst < 32) then (bA.go (wr .i64 (x.fst+1),Pos.mk x.snd.variant (x.snd.ag.set (scale 1 x.fst).toNat 1) x.snd.ab x.snd.af x.snd.aa x.snd.ak x.snd.ah x.snd.ai x.snd.half x.snd.full)) else (bA.out ((x.fst,decide (x.fst < 32),x.snd))))
noncomputable def Fc  (x:(Int×Pos)):Bool:=(bif decide (x.fst < 32) then (decide (0≤x.fst)&&decide (x.fst < Int.ofNat 64)&&true) else true)
noncomputable def eF  (x:(Int×Pos)):Option ((Int×Bool×Pos)):=fY (fun x=>bif Fc  x then JW  x else .bad) many x
abbrev IS {α:Type} (k:(Int×Pos)→α) (s:St):α:=wP s 1 fun q1=>k ((tI (tT s 10)),q1)
theorem Qs  (x:(Int×Pos)) (r:(Int×Bool×Pos)) (h:eF  x=some r):aF Pz (bW Pz 62 4) (Is  x) (IA  r):=aF.kR (m:=12) (fn:=62) Lf (IS fun x=>some x) (fun o=>match o with | .exit 0 s=>wP s 1 fun q1=>some ((tI (tT s 10)),(tB (tT s 11)),q1) | _=>none) (fun _=>rfl) (fun _=>by kernel_rfl) (fun _=>by kernel_rfl) (fun _=>by kernel_rfl) (fun _=>by kernel_rfl) many x r h
noncomputable def Dt (b:Code) (s:St):Tr Out:=IS (fun x=>qN b (bW Pz 62 4) s (Is x) (eF x) (IA )) s
theorem DQ:∀ b,bJ Pz b (Dt b):=fun _ _ _ h=>cN (Qs _) h
noncomputable def Sz:aC:=au Pz (fun f i=>bI f i YW) [(64,Qa),(65,RC)] [(62,4,Dt)] []
theorem M6:bD Sz:=ao al ⟨SZ,SK,trivial⟩ ⟨DQ,trivial⟩ trivial
noncomputable def Jr  (x:(Int×Pos)):St:=St.mk (AV.ptr 0 0::AV.ptr 1 0::(an 15 (AV.vlist true [AV.bC .i64 33,AV.bC .i64 34,AV.bC .i64 37,AV.bC .i64 38]::AV.bC .i64 (Int.ofNat 4)::AV.int .i64 x.fst::(an 8 [])))) (Hp.mk [[AV.int .u8 0,AV.ints .u8 64 (List.replicate 64 0),AV.u64 0,AV.ints .u8 12 (List.replicate 12 0),AV.int .u8 0,AV.ints .i8 4 (List.replicate 4 0),AV.int .i8 0,AV.ints .u8 2 (List.replicate 2 0),AV.int .i64 0,AV.int .i64 0],(pc x.snd [])] [] [] 0 0 0)
noncomputable def I3  : (Int×Bool×Pos)→Out:=fun y=>.exit 2 (St.mk (AV.ptr 0 0::AV.ptr 1 0::(an 15 (AV.vlist true [AV.bC .i64 33,AV.bC .i64 34,AV.bC .i64 37,AV.bC .i64 38]::AV.bC .i64 (Int.ofNat 4)::AV.int .i64 y.fst::AV.bool y.snd.fst::(an 7 [])))) (Hp.mk [[AV.int .u8 0,AV.ints .u8 64 (List.replicate 64 0),AV.u64 0,AV.ints .u8 12 (List.replicate 12 0),AV.int .u8 0,AV.ints .i8 4 (List.replicate 4 0),AV.int .i8 0,AV.ints .u8 2 (List.replicate 2 0),AV.int .i64 0,AV.int .i64 0],(pc y.snd.snd [])] [] [] 0 0 0))
noncomputable def Kv  (x:(Int×Pos)):bA (Int×Pos) ((Int×Bool×Pos)):=(bif decide (x.fst < Int.ofNat 4) then (bif x.fst==Int.ofNat 0 then (bA.go (wr .i64 (x.fst+1),Pos.mk x.snd.variant (x.snd.ag.set 33 1) x.snd.ab x.snd.af x.snd.aa x.snd.ak x.snd.ah x.snd.ai x.snd.half x.snd.full)) else (bif x.fst==Int.ofNat 1 then (bA.go (wr .i64 (x.fst+1),Pos.mk x.snd.variant (x.snd.ag.set 34 1) x.snd.ab x.snd.af x.snd.aa x.snd.ak x.snd.ah x.snd.ai x.snd.half x.snd.full)) else (bif x.fst==Int.ofNat 2 then (bA.go (wr .i64 (x.fst+1),Pos.mk x.snd.variant (x.snd.ag.set 37 1) x.snd.ab x.snd.af x.snd.aa x.snd.ak x.snd.ah x.snd.ai x.snd.half x.snd.full)) else (bA.go (wr .i64 (x.fst+1),Pos.mk x.snd.variant (x.snd.ag.set 38 1) x.snd.ab x.snd.af x.snd.aa x.snd.ak x.snd.ah x.snd.ai x.snd.half x.snd.full))))) else (bA.out ((x.fst,decide (x.fst < Int.ofNat 4),x.snd))))
noncomputable def HL  (x:(Int×Pos)):Bool:=(bif decide (x.fst < Int.ofNat 4) then (decide (0≤x.fst)&&decide (x.fst < Int.ofNat 4)&&(bif x.fst==Int.ofNat 0 then true else (bif x.fst==Int.ofNat 1 then true else (bif x.fst==Int.ofNat 2 then true else (x.fst==Int.ofNat 3&&true))))) else true)
noncomputable def eQ  (x:(Int×Pos)):Option ((Int×Bool×Pos)):=fY (fun x=>bif HL  x then Kv  x else .bad) many x
abbrev Jl {α:Type} (k:(Int×Pos)→α) (s:St):α:=wP s 1 fun q1=>k ((tI (tT s 19)),q1)
theorem OI  (x:(Int×Pos)) (r:(Int×Bool×Pos)) (h:eQ  x=some r):aF Pz (bW Pz 62 9) (Jr  x) (I3  r):=aF.kR (m:=12) (fn:=62) M6 (Jl fun x=>some x) (fun o=>match o with | .exit 2 s=>wP s 1 fun q1=>some ((tI (tT s 19)),(tB (tT s 20)),q1) | _=>none) (fun _=>rfl) (fun _=>by kernel_rfl) (fun _=>by kernel_rfl) (fun _=>by kernel_rfl) (fun _=>by kernel_rfl) many x r h
noncomputable def IC (b:Code) (s:St):Tr Out:=Jl (fun x=>qN b (bW Pz 62 9) s (Jr x) (eQ x) (I3 )) s
theorem KJ:∀ b,bJ Pz b (IC b):=fun _ _ _ h=>cN (OI _) h
noncomputable def B62:aC:=au Pz (fun f i=>bI f i YW) [(64,Qa),(65,RC)] [(62,4,Dt),(62,9,IC)] []
theorem WD:bD B62:=ao al ⟨SZ,SK,trivial⟩ ⟨DQ,KJ,trivial⟩ trivial
noncomputable def Bc  : Pos:=⟨(((eQ (0,((eF (0,Pos.mk (bP 7 bO).variant (bP 7 bO).ag (bP 7 bO).ab (bP 7 bO).af (bP 7 bO).aa (List.take 0 (bP 7 bO).ak++((List.replicate 2 0).set 0 (-1)).set 1 (-1)++List.drop 2 (bP 7 bO).ak) (bP 7 bO).ah (bP 7 bO).ai (bP 7 bO).half (bP 7 bO).full)).getD default).snd.snd)).getD default).snd.snd.variant),(((eQ (0,((eF (0,Pos.mk (bP 7 bO).variant (bP 7 bO).ag (bP 7 bO).ab (bP 7 bO).af (bP 7 bO).aa (List.take 0 (bP 7 bO).ak++((List.replicate 2 0).set 0 (-1)).set 1 (-1)++List.drop 2 (bP 7 bO).ak) (bP 7 bO).ah (bP 7 bO).ai (bP 7 bO).half (bP 7 bO).full)).getD default).snd.snd)).getD default).snd.snd.ag),(((eQ (0,((eF (0,Pos.mk (bP 7 bO).variant (bP 7 bO).ag (bP 7 bO).ab (bP 7 bO).af (bP 7 bO).aa (List.take 0 (bP 7 bO).ak++((List.replicate 2 0).set 0 (-1)).set 1 (-1)++List.drop 2 (bP 7 bO).ak) (bP 7 bO).ah (bP 7 bO).ai (bP 7 bO).half (bP 7 bO).full)).getD default).snd.snd)).getD default).snd.snd.ab),(((eQ (0,((eF (0,Pos.mk (bP 7 bO).variant (bP 7 bO).ag (bP 7 bO).ab (bP 7 bO).af (bP 7 bO).aa (List.take 0 (bP 7 bO).ak++((List.replicate 2 0).set 0 (-1)).set 1 (-1)++List.drop 2 (bP 7 bO).ak) (bP 7 bO).ah (bP 7 bO).ai (bP 7 bO).half (bP 7 bO).full)).getD default).snd.snd)).getD default).snd.snd.af),(((eQ (0,((eF (0,Pos.mk (bP 7 bO).variant (bP 7 bO).ag (bP 7 bO).ab (bP 7 bO).af (bP 7 bO).aa (List.take 0 (bP 7 bO).ak++((List.replicate 2 0).set 0 (-1)).set 1 (-1)++List.drop 2 (bP 7 bO).ak) (bP 7 bO).ah (bP 7 bO).ai (bP 7 bO).half (bP 7 bO).full)).getD default).snd.snd)).getD default).snd.snd.aa),(((eQ (0,((eF (0,Pos.mk (bP 7 bO).variant (bP 7 bO).ag (bP 7 bO).ab (bP 7 bO).af (bP 7 bO).aa (List.take 0 (bP 7 bO).ak++((List.replicate 2 0).set 0 (-1)).set 1 (-1)++List.drop 2 (bP 7 bO).ak) (bP 7 bO).ah (bP 7 bO).ai (bP 7 bO).half (bP 7 bO).full)).getD default).snd.snd)).getD default).snd.snd.ak),(((eQ (0,((eF (0,Pos.mk (bP 7 bO).variant (bP 7 bO).ag (bP 7 bO).ab (bP 7 bO).af (bP 7 bO).aa (List.take 0 (bP 7 bO).ak++((List.replicate 2 0).set 0 (-1)).set 1 (-1)++List.drop 2 (bP 7 bO).ak) (bP 7 bO).ah (bP 7 bO).ai (bP 7 bO).half (bP 7 bO).full)).getD default).snd.snd)).getD default).snd.snd.ah),(((eQ (0,((eF (0,Pos.mk (bP 7 bO).variant (bP 7 bO).ag (bP 7 bO).ab (bP 7 bO).af (bP 7 bO).aa (List.take 0 (bP 7 bO).ak++((List.replicate 2 0).set 0 (-1)).set 1 (-1)++List.drop 2 (bP 7 bO).ak) (bP 7 bO).ah (bP 7 bO).ai (bP 7 bO).half (bP 7 bO).full)).getD default).snd.snd)).getD default).snd.snd.ai),(((eQ (0,((eF (0,Pos.mk (bP 7 bO).variant (bP 7 bO).ag (bP 7 bO).ab (bP 7 bO).af (bP 7 bO).aa (List.take 0 (bP 7 bO).ak++((List.replicate 2 0).set 0 (-1)).set 1 (-1)++List.drop 2 (bP 7 bO).ak) (bP 7 bO).ah (bP 7 bO).ai (bP 7 bO).half (bP 7 bO).full)).getD default).snd.snd)).getD default).snd.snd.half),(((eQ (0,((eF (0,Pos.mk (bP 7 bO).variant (bP 7 bO).ag (bP 7 bO).ab (bP 7 bO).af (bP 7 bO).aa (List.take 0 (bP 7 bO).ak++((List.replicate 2 0).set 0 (-1)).set 1 (-1)++List.drop 2 (bP 7 bO).ak) (bP 7 bO).ah (bP 7 bO).ai (bP 7 bO).half (bP 7 bO).full)).getD default).snd.snd)).getD default).snd.snd.full)⟩
noncomputable def Nf  : Bool:=(Gf (7) (bO)&&((eF (0,Pos.mk (bP 7 bO).variant (bP 7 bO).ag (bP 7 bO).ab (bP 7 bO).af (bP 7 bO).aa (List.take 0 (bP 7 bO).ak++((List.replicate 2 0).set 0 (-1)).set 1 (-1)++List.drop 2 (bP 7 bO).ak) (bP 7 bO).ah (bP 7 bO).ai (bP 7 bO).half (bP 7 bO).full)).isSome&&((eQ (0,((eF (0,Pos.mk (bP 7 bO).variant (bP 7 bO).ag (bP 7 bO).ab (bP 7 bO).af (bP 7 bO).aa (List.take 0 (bP 7 bO).ak++((List.replicate 2 0).set 0 (-1)).set 1 (-1)++List.drop 2 (bP 7 bO).ak) (bP 7 bO).ah (bP 7 bO).ai (bP 7 bO).half (bP 7 bO).full)).getD default).snd.snd)).isSome&&true)))
theorem P62  (h:Nf =true):PS Pz 62 [] (bH.res (Bc )):=aA (n:=14) WD (by kernel_rfl) (by kernel_rfl) (by kernel_rfl) h
noncomputable def Z4:List AV→Tr AV:=g0  (cE Nf (bH.res (Bc)))
theorem s62:Sound Pz 62 Z4:=la (aJ P62)
noncomputable def K63:List (Nat×Nat×List (Nat×List Nat)):=[(63,42,[(0,[0]),(1,[0,1]),(2,[0,1,9,10,11]),(3,(0::1::(rn 9 4 []))),(4,(rn 0 4 [9,10,11])),(5,[0,1,2,9,10,11,16,17,18]),(6,(0::1::2::9::10::11::(rn 16 4 []))),(7,[0,1,2,4,5,9,10,11,16,17,18]),(8,[0,1,2,9,10,11,16,17,18]),(9,[0,1,2,9,10,11,16,17,18]),(10,[0,1,9,10,11]),(11,[0])])]
noncomputable def B63:aC:=au Pz (fun f i=>bI f i K63) [(123,Hd),(124,Ga)] [] []
theorem XD:bD B63:=ao al ⟨MN,Ke,trivial⟩ trivial trivial
noncomputable def Bg  : Pos:=⟨((gx 8).variant),(((((((((((((((((gx 8).ag.set 0 (jn 5)).set 7 5).set 1 (jn 4)).set 6 4).set 2 (jn 3)).set 5 3).set 3 (jn 2)).set 4 2).set 8 (jn 6)).set 15 6).set 9 (jn 4)).set 14 4).set 10 (jn 3)).set 13 3).set 11 (jn 2)).set 12 2),((gx 8).ab),((gx 8).af),((gx 8).aa),((gx 8).ak),((gx 8).ah),((gx 8).ai),((gx 8).half),((gx 8).full)⟩
noncomputable def Yi  : Bool:=true
theorem P63  (h:Yi =true):PS Pz 63 [] (bH.res (Bg )):=aA (n:=14) XD (by kernel_rfl) (by kernel_rfl) (by kernel_rfl) h
noncomputable def Zn:List AV→Tr AV:=g0  (.ret (bH.res (Bg )))
theorem s63:Sound Pz 63 Zn:=la (cW (P63 rfl))
noncomputable def K33:List (Nat×Nat×List (Nat×List Nat)):=[(33,19,[(0,[0,2]),(1,[0,2,4]),(2,[2,3]),(3,[0,2,8]),(4,[2,3]),(5,[0,2,12]),(6,[2,3]),(7,[2,3])])]
noncomputable def B33:aC:=au Pz (fun f i=>bI f i K33) [(62,Z4),(63,Zn),(64,Qa),(65,RC)] [] []
theorem S6:bD B33:=ao al ⟨s62,s63,SZ,SK,trivial⟩ trivial trivial
noncomputable def ZV (a:Int):(Pos×Bool):=(bif decide (a ≥ 9) then (⟨(0),(List.replicate 64 0),(0),(List.replicate 12 0),(0),(List.replicate 4 0),(0),(List.replicate 2 0),(0),(0)⟩,(false)) else (bif a==7 then (⟨(Bc.variant),(Bc.ag),(Bc.ab),(Bc.af),(Bc.aa),(Bc.ak),(Bc.ah),(Bc.ai),(Bc.half),(Bc.full)⟩,(true)) else (bif a==8 then (⟨(Bg.variant),(Bg.ag),(Bg.ab),(Bg.af),(Bg.aa),(Bg.ak),(Bg.ah),(Bg.ai),(Bg.half),(Bg.full)⟩,(true)) else (⟨((bP a bO).variant),((bP a bO).ag),((bP a bO).ab),((bP a bO).af),((bP a bO).aa),((bP a bO).ak),((bP a bO).ah),((bP a bO).ai),((bP a bO).half),((bP a bO).full)⟩,(true)))))
noncomputable def OP (a:Int):Bool:=(bif decide (a ≥ 9) then true else (bif a==7 then (Nf &&true) else (bif a==8 then true else (Gf (a) (bO)&&true))))
theorem P33 (a:Int) (h:OP a=true):PS Pz 33 [.int .u8 a] ((d2 bH dB).res (ZV a)):=aA (n:=14) S6 (by kernel_rfl) (by kernel_rfl) (by kernel_rfl) h
noncomputable def ZL:List AV→Tr AV:=g1 (dI .u8) (fun a=>cE (OP a) ((d2 bH dB).res (ZV a)))
theorem s33:Sound Pz 33 ZL:=aS fun a=>aJ (P33 a)
end Kz
end
section
namespace Kz
open Go Go.RowKit Go.Proofs
@[reducible] noncomputable def Lb:List AV→Tr AV:=JA
theorem Sq:Sound Pz 146 Lb:=OV
@[reducible] noncomputable def Kd:List AV→Tr AV:=Iq
theorem Qd:Sound Pz 147 Kd:=Pj
@[reducible] noncomputable def Kk:List AV→Tr AV:=DW
theorem NM:Sound Pz 209 Kk:=My
@[reducible] noncomputable def Pw:List AV→Tr AV:=Pa
theorem T6:Sound Pz 217 Pw:=TT
@[reducible] noncomputable def Kr:List AV→Tr AV:=Rk
theorem O4:Sound Pz 219 Kr:=VF
@[reducible] noncomputable def M9:List AV→Tr AV:=IQ
theorem Si:Sound Pz 266 M9:=Q6
end Kz
end
section
namespace Kz
open Go Go.RowKit Go.Proofs
set_option maxRecDepth 100000
def rb (p q:Pos):Bool:=p.variant==q.variant&&(p.ag==q.ag&&(p.ab==q.ab&&(p.af==q.af&&(p.aa==q.aa&&(p.ak==q.ak&&(p.ah==q.ah&&(p.ai==q.ai&&(p.half==q.half&&p.full==q.full))))))))
theorem gP {p q:Pos} (h:rb p q=true):p=q:=by
  unfold rb at h
  simp only [Bool.and_eq_true,beq_iff_eq] at h
  obtain ⟨a,b,c,d,e,f,g,i,j,k⟩:=h
  cases p; cases q
  simp only at a b c d e f g i j k
  subst a; subst b; subst c; subst d; subst e; subst f; subst g; subst i; subst j; subst k
  rfl
def z8:List Int:=List.replicate 8 0
def SE (b:List Int) (t:Int) (r:List Int) (f:Int):Pos:=⟨0,b,0#64,List.replicate 12 0,t,r,-1,[0,0],0,f⟩
def bp:List Int:=List.replicate 8 9
def br:List Int:=[12,10,11,13,14,11,10,12]
def ZT:List Int:=[4,2,3,5,6,3,2,4]
def AJ:Pos:=SE (ZT++(List.replicate 8 1++(List.replicate 32 0++(bp++br)))) 0 [7,0,7,0] 1
def wU:Pos:=SE (ZT++([1,1,1,1,1,0,0,1]++([0,0,0,0,0,1,0,0]++([0,0,0,0,0,0,1,0]++([0,0,0,0,9,0,0,0]++(z8++([9,9,9,9,0,9,9,9]++br))))))) 1 [7,0,7,0] 2
def qd:Pos:=SE ([4,0,0,0,6,0,0,4]++(List.replicate 48 0++[0,0,0,0,14,0,0,0])) 0 [7,0,-1,-1] 1
def qV:Pos:=SE ([0,2,0,0,0,0,0,6]++(z8++([0,0,0,0,0,2,0,0]++(List.replicate 32 0++[0,0,0,0,0,0,0,14])))) 0 [-1,-1,-1,-1] 1
def SH : List UInt8 := "rnbqkbnr/pppp1ppp/8/4p3/6P1/5P2/PPPPP2P/RNBQKBNR b KQkq - 0 2".toUTF8.data.toList
def SM : List UInt8 := "4k3/8/8/8/8/8/8/R3K2R w KQ - 0 1".toUTF8.data.toList
def SQ : List UInt8 := "7k/8/8/8/8/5N2/8/1N5K w - - 0 1".toUTF8.data.toList
noncomputable def BqF:aC:=au Pz (fun _ _=>[]) [(146,Lb),(147,Kd),(209,Kk),(217,Pw),(219,Kr),(266,M9)] [] [(267,Xr),(216,Ud)]
theorem Eu:bD BqF:=ao al ⟨Sq,Qd,NM,T6,O4,Si,trivial⟩ trivial ⟨US,XU,trivial⟩
def NZ (x:List UInt8) (t:Tr AV):Bool:=match t.get with
  | some (.str y)=>y==x
  | _=>false
theorem mD {B:aC} (hB:bD B) {n f:Nat} {xs:List AV} {x:List UInt8} (h:NZ x (cZ B n f xs)=true):PS B.P f xs (.str x):=by
  unfold NZ at h
  split at h
  · rename_i y hy
    rw [beq_iff_eq] at h
    subst h
    exact rV hB hy dS rfl
  · cases h
end Kz
end
section
namespace Kz
open Go Go.RowKit Go.Proofs
set_option maxRecDepth 100000
set_option maxHeartbeats 4000000
noncomputable def ZU:List (Nat×Nat×List (Nat×List Nat)):=[(29,15,[(0,[3,4,5,6]),(1,[5,6,10]),(2,[5,6,7]),(3,[6,14]),(4,[]),(5,[6])]),(57,6,[(0,[2,3]),(1,[4])]),(102,13,[(0,[0,2]),(1,[2,3]),(2,[2])]),(111,34,[(0,[0,1,2,4]),(1,[0,1,2,4,13,14]),(2,[0,1,2,4,13,14,15]),(3,[0,1,2,4,6,13,14]),(4,[0,1,2,4,7,13,14]),(5,[0,1,2,4,13,14,32]),(6,[0,1,2,4,13,14])])]
noncomputable def Qb:aC:=au Pz (fun f i=>bI f i ZU) [(32,R6),(49,SN),(98,Nk)] [] []
theorem LM:bD Qb:=ao al ⟨S1,Yp,Qo,trivial⟩ trivial trivial
noncomputable def I6 (p1:(List UInt8)) (p2:(List UInt8)) (p3:(List UInt8)) (p4:(List UInt8)) (p5:Pos) (p6:Mv) (p7:(List UInt8)) (p8:Pos) (p9:Mv) (x:(Int)):St:=St.mk (AV.yield 0::AV.ptr 4 0::AV.ptr 5 0::AV.any::AV.str p1::(an 8 (AV.agg [AV.str (ByteArray.mk #[]).data.toList,AV.str p2,AV.str p3,AV.str p4]::AV.int .i64 x::(an 19 [])))) (Hp.mk [(pc p5 []),[AV.int .i8 p6.aw,AV.int .i8 p6.to,AV.int .u8 p6.aI,AV.int .u8 p6.aM,AV.bool p6.bh],[AV.str p7],[AV.bool false],(pc p8 []),[AV.int .i8 p9.aw,AV.int .i8 p9.to,AV.int .u8 p9.aI,AV.int .u8 p9.aM,AV.bool p9.bh]] [] [cU.mk 0 none 29 (an 5 (AV.ptr 2 0::AV.ptr 3 0::(an 3 (AV.func 111 [] [AV.ptr 4 0,AV.ptr 5 0]::(an 4 []))))) [11] (lN Pz 29 3) (mw Pz 29 3)] 0 0 0)
noncomputable def Iu (p1:(List UInt8)) (p2:(List UInt8)) (p3:(List UInt8)) (p4:(List UInt8)) (p5:Pos) (p6:Mv) (p7:(List UInt8)) (p8:Pos) (p9:Mv):(Int) ⊕ (Int×Bool)→Out
  | (.inl (y))=>.ret (St.mk (AV.yield 0::AV.ptr 4 0::AV.ptr 5 0::AV.any::AV.str p1::(an 8 (AV.agg [AV.str (ByteArray.mk #[]).data.toList,AV.str p2,AV.str p3,AV.str p4]::AV.int .i64 y::(an 17 [AV.aO true,AV.any])))) (Hp.mk [(pc p5 []),[AV.int .i8 p6.aw,AV.int .i8 p6.to,AV.int .u8 p6.aI,AV.int .u8 p6.aM,AV.bool p6.bh],[AV.str p7],[AV.bool true],(pc p8 []),[AV.int .i8 p9.aw,AV.int .i8 p9.to,AV.int .u8 p9.aI,AV.int .u8 p9.aM,AV.bool p9.bh]] [] [cU.mk 2 (some Code.ret) 29 (an 5 (AV.ptr 2 0::AV.ptr 3 0::(an 3 (AV.func 111 [] [AV.ptr 4 0,AV.ptr 5 0]::(an 4 []))))) [11] (lN Pz 29 3) (mw Pz 29 3)] 0 0 0))
  | (.inr (y))=>.exit 0 (St.mk (AV.yield 0::AV.ptr 4 0::AV.ptr 5 0::AV.any::AV.str p1::(an 8 (AV.agg [AV.str (ByteArray.mk #[]).data.toList,AV.str p2,AV.str p3,AV.str p4]::AV.int .i64 y.fst::AV.bool y.snd::(an 18 [])))) (Hp.mk [(pc p5 []),[AV.int .i8 p6.aw,AV.int .i8 p6.to,AV.int .u8 p6.aI,AV.int .u8 p6.aM,AV.bool p6.bh],[AV.str p7],[AV.bool false],(pc p8 []),[AV.int .i8 p9.aw,AV.int .i8 p9.to,AV.int .u8 p9.aI,AV.int .u8 p9.aM,AV.bool p9.bh]] [] [cU.mk 0 none 29 (an 5 (AV.ptr 2 0::AV.ptr 3 0::(an 3 (AV.func 111 [] [AV.ptr 4 0,AV.ptr 5 0]::(an 4 []))))) [11] (lN Pz 29 3) (mw Pz 29 3)] 0 0 0))
noncomputable def Ce (p1:(List UInt8)) (p2:(List UInt8)) (p3:(List UInt8)) (p4:(List UInt8)) (p5:Pos) (p6:Mv) (p7:(List UInt8)) (p8:Pos) (p9:Mv) (x:(Int)):bA (Int) ((Int) ⊕ (Int×Bool)):=(bif decide (x < 4) then (bif x==Int.ofNat 0 then (bif kL p8 p9 (ByteArray.mk #[]).data.toList==p7 then (bA.out (.inl ((x)))) else (bif kL p8 p9 (ByteArray.mk #[]).data.toList++p1==p7 then (bA.out (.inl ((x)))) else (bA.go (wr .i64 (x+1))))) else (bif x==Int.ofNat 1 then (bif kL p8 p9 p2==p7 then (bA.out (.inl ((x)))) else (bif kL p8 p9 p2++p1==p7 then (bA.out (.inl ((x)))) else (bA.go (wr .i64 (x+1))))) else (bif x==Int.ofNat 2 then (bif kL p8 p9 p3==p7 then (bA.out (.inl ((x)))) else (bif kL p8 p9 p3++p1==p7 then (bA.out (.inl ((x)))) else (bA.go (wr .i64 (x+1))))) else (bif kL p8 p9 p4==p7 then (bA.out (.inl ((x)))) else (bif kL p8 p9 p4++p1==p7 then (bA.out (.inl ((x)))) else (bA.go (wr .i64 (x+1)))))))) else (bA.out (.inr ((x,decide (x < 4))))))
noncomputable def zi (p1:(List UInt8)) (p2:(List UInt8)) (p3:(List UInt8)) (p4:(List UInt8)) (p5:Pos) (p6:Mv) (p7:(List UInt8)) (p8:Pos) (p9:Mv) (x:(Int)):Bool:=(bif decide (x < 4) then (decide (0≤x)&&decide (x < Int.ofNat 4)&&(bif x==Int.ofNat 0 then (lZ p8 p9 (ByteArray.mk #[]).data.toList&&(bif kL p8 p9 (ByteArray.mk #[]).data.toList==p7 then true else (decide ((kL p8 p9 (ByteArray.mk #[]).data.toList).length+p1.length≤1073741824)&&true))) else (bif x==Int.ofNat 1 then (lZ p8 p9 p2&&(bif kL p8 p9 p2==p7 then true else (decide ((kL p8 p9 p2).length+p1.length≤1073741824)&&true))) else (bif x==Int.ofNat 2 then (lZ p8 p9 p3&&(bif kL p8 p9 p3==p7 then true else (decide ((kL p8 p9 p3).length+p1.length≤1073741824)&&true))) else (x==Int.ofNat 3&&(lZ p8 p9 p4&&(bif kL p8 p9 p4==p7 then true else (decide ((kL p8 p9 p4).length+p1.length≤1073741824)&&true)))))))) else true)
noncomputable def na (p1:(List UInt8)) (p2:(List UInt8)) (p3:(List UInt8)) (p4:(List UInt8)) (p5:Pos) (p6:Mv) (p7:(List UInt8)) (p8:Pos) (p9:Mv) (x:(Int)):Option ((Int) ⊕ (Int×Bool)):=fY (fun x=>bif zi p1 p2 p3 p4 p5 p6 p7 p8 p9 x then Ce p1 p2 p3 p4 p5 p6 p7 p8 p9 x else .bad) many x
abbrev IB {α:Type} (k:(List UInt8)→(List UInt8)→(List UInt8)→(List UInt8)→Pos→Mv→(List UInt8)→Pos→Mv→(Int)→α) (s:St):α:=wP s 0 fun q0=>wP s 4 fun q4=>wM s 1 fun q1=>wM s 5 fun q5=>k (tS (tT s 4)) (tS (tX (tA (tT s 13)) 1)) (tS (tX (tA (tT s 13)) 2)) (tS (tX (tA (tT s 13)) 3)) q0 q1 (tS (tH s 2 0)) q4 q5 ((tI (tT s 14)))
theorem QI (p1:(List UInt8)) (p2:(List UInt8)) (p3:(List UInt8)) (p4:(List UInt8)) (p5:Pos) (p6:Mv) (p7:(List UInt8)) (p8:Pos) (p9:Mv) (x:(Int)) (r:(Int) ⊕ (Int×Bool)) (h:na p1 p2 p3 p4 p5 p6 p7 p8 p9 x=some r):aF Pz (bW Pz 111 2) (I6 p1 p2 p3 p4 p5 p6 p7 p8 p9 x) (Iu p1 p2 p3 p4 p5 p6 p7 p8 p9 r):=aF.kR (m:=12) (fn:=111) LM (IB fun _ _ _ _ _ _ _ _ _ x=>some x) (fun o=>match o with | .ret s=>some (.inl (tI (tT s 14))) | .exit 0 s=>some (.inr ((tI (tT s 14)),(tB (tT s 15)))) | _=>none) (fun r=>by cases r <;> rfl) (fun _=>by kernel_rfl) (fun _=>by kernel_rfl) (fun _=>by kernel_rfl) (fun _=>by kernel_rfl) many x r h
noncomputable def JK (b:Code) (s:St):Tr Out:=IB (fun p1 p2 p3 p4 p5 p6 p7 p8 p9 x=>Be b (bW Pz 111 2) s (I6 p1 p2 p3 p4 p5 p6 p7 p8 p9 x) (na p1 p2 p3 p4 p5 p6 p7 p8 p9 x) (Iu p1 p2 p3 p4 p5 p6 p7 p8 p9)) s
theorem L2:∀ b,bJ Pz b (JK b):=fun _ _ _ h=>fX (QI _ _ _ _ _ _ _ _ _ _) h
noncomputable def B29:aC:=au Pz (fun f i=>bI f i ZU) [(32,R6),(49,SN),(98,Nk)] [(111,2,JK)] []
theorem X6:bD B29:=ao al ⟨S1,Yp,Qo,trivial⟩ ⟨L2,trivial⟩ trivial
noncomputable def Nl (a:Pos) (b:Mv) (c:List UInt8):Bool:=(bif iC ((na (nK a b) (List.drop 0 (List.take 1 (bF (wr .i64 b.aw)))) (List.drop 1 (List.take (bF (wr .i64 b.aw)).length (bF (wr .i64 b.aw)))) (bF (wr .i64 b.aw)) a b c a b 0).getD default) then (true) else (false))
noncomputable def CY (a:Pos) (b:Mv) (c:List UInt8):Bool:=(xc a b&&(kK (wr .i64 b.aw)&&(decide (0≤1)&&decide (1≤Int.ofNat (bF (wr .i64 b.aw)).length)&&(decide (0≤1)&&decide (1≤Int.ofNat (bF (wr .i64 b.aw)).length)&&((na (nK a b) (List.drop 0 (List.take 1 (bF (wr .i64 b.aw)))) (List.drop 1 (List.take (bF (wr .i64 b.aw)).length (bF (wr .i64 b.aw)))) (bF (wr .i64 b.aw)) a b c a b 0).isSome&&bif iC ((na (nK a b) (List.drop 0 (List.take 1 (bF (wr .i64 b.aw)))) (List.drop 1 (List.take (bF (wr .i64 b.aw)).length (bF (wr .i64 b.aw)))) (bF (wr .i64 b.aw)) a b c a b 0).getD default) then true else true)))))
theorem P29 (a:Pos) (b:Mv) (c:List UInt8) (h:CY a b c=true):PS Pz 29 [Pos.av a,Mv.av b,.str c] (dB.res (Nl a b c)):=aA (n:=14) X6 (by kernel_rfl) (by kernel_rfl) (by kernel_rfl) h
noncomputable def S8:List AV→Tr AV:=g3 bH iE dS (fun a b c=>cE (CY a b c) (dB.res (Nl a b c)))
theorem ZE:Sound Pz 29 S8:=eG fun a b c=>aJ (P29 a b c)
noncomputable def ZH:List (Nat×Nat×List (Nat×List Nat)):=[(13,40,[(0,[1,2,4]),(1,[1,2,4,11]),(2,[4,5]),(3,[1,2,4,6]),(4,[1,2,4,6,14,15,16]),(5,(1::2::4::6::(rn 14 4 []))),(6,[1,2,4,6,8,14,15,16]),(7,[1,2,4,6,8,14,15,16,23]),(8,[1,2,4,6,14,15,16]),(9,[1,2,4,6,14,15,16]),(10,[4,6,30]),(11,[4,6,30,31]),(12,[4,5]),(13,[4,6,34]),(14,[4,5]),(15,[4,5])])]
noncomputable def Ol:aC:=au Pz (fun f i=>bI f i ZH) [(20,zT),(29,S8)] [] []
theorem Kc:bD Ol:=ao al ⟨AQ,ZE,trivial⟩ trivial trivial
noncomputable def IU (p1:(List UInt8)) (p2:(List Mv)) (p3:Int) (p4:Pos) (x:((List Mv)×Int)):St:=St.mk (AV.any::AV.str p1::AV.ptr 0 0::AV.any::AV.ptr 1 0::AV.any::AV.list ET.mv x.fst (Tk.own 0)::(an 7 (AV.list ET.mv p2 Tk.fresh::AV.int .i64 p3::AV.int .i64 x.snd::(an 23 [])))) (Hp.mk [(pc p4 []),[AV.int .i8 0,AV.int .i8 0,AV.int .u8 0,AV.int .u8 0,AV.bool false]] [x.fst.length] [] 0 0 0)
noncomputable def Jv (p1:(List UInt8)) (p2:(List Mv)) (p3:Int) (p4:Pos):((List Mv)×Int×Bool)→Out:=fun y=>.exit 0 (St.mk (AV.any::AV.str p1::AV.ptr 0 0::AV.any::AV.ptr 1 0::AV.any::AV.list ET.mv y.fst (Tk.own 0)::(an 7 (AV.list ET.mv p2 Tk.fresh::AV.int .i64 p3::AV.int .i64 y.snd.fst::AV.bool y.snd.snd::(an 22 [])))) (Hp.mk [(pc p4 []),[AV.int .i8 0,AV.int .i8 0,AV.int .u8 0,AV.int .u8 0,AV.bool false]] [y.fst.length] [] 0 0 0))
noncomputable def Bj (p1:(List UInt8)) (p2:(List Mv)) (p3:Int) (p4:Pos) (x:((List Mv)×Int)):bA ((List Mv)×Int) (((List Mv)×Int×Bool)):=(bif decide (x.snd < p3) then (bif Nl p4 (p2.getD x.snd.toNat default) p1 then (bA.go (x.fst++[p2.getD x.snd.toNat default],wr .i64 (x.snd+1))) else (bA.go (x.fst,wr .i64 (x.snd+1)))) else (bA.out ((x.fst,x.snd,decide (x.snd < p3)))))
noncomputable def y6 (p1:(List UInt8)) (p2:(List Mv)) (p3:Int) (p4:Pos) (x:((List Mv)×Int)):Bool:=(bif decide (x.snd < p3) then (decide (0≤x.snd)&&decide (x.snd < Int.ofNat p2.length)&&(CY p4 (p2.getD x.snd.toNat default) p1&&(bif Nl p4 (p2.getD x.snd.toNat default) p1 then (x.fst.length==x.fst.length&&decide (x.fst.length+1≤1073741824)&&true) else true))) else true)
noncomputable def eH (p1:(List UInt8)) (p2:(List Mv)) (p3:Int) (p4:Pos) (x:((List Mv)×Int)):Option (((List Mv)×Int×Bool)):=fY (fun x=>bif y6 p1 p2 p3 p4 x then Bj p1 p2 p3 p4 x else .bad) many x
abbrev Iw {α:Type} (k:(List UInt8)→(List Mv)→Int→Pos→((List Mv)×Int)→α) (s:St):α:=wP s 0 fun q0=>k (tS (tT s 1)) (tL (ET.mv) (tT s 14)) (tI (tT s 15)) q0 ((tL (ET.mv) (tT s 6)),(tI (tT s 16)))
theorem RI (p1:(List UInt8)) (p2:(List Mv)) (p3:Int) (p4:Pos) (x:((List Mv)×Int)) (r:((List Mv)×Int×Bool)) (h:eH p1 p2 p3 p4 x=some r):aF Pz (bW Pz 13 5) (IU p1 p2 p3 p4 x) (Jv p1 p2 p3 p4 r):=aF.kR (m:=12) (fn:=13) Kc (Iw fun _ _ _ _ x=>some x) (fun o=>match o with | .exit 0 s=>some ((tL ET.mv (tT s 6)),(tI (tT s 16)),(tB (tT s 17))) | _=>none) (fun _=>rfl) (fun _=>by kernel_rfl) (fun _=>by kernel_rfl) (fun _=>by kernel_rfl) (fun _=>by kernel_rfl) many x r h
noncomputable def Jn (b:Code) (s:St):Tr Out:=Iw (fun p1 p2 p3 p4 x=>qN b (bW Pz 13 5) s (IU p1 p2 p3 p4 x) (eH p1 p2 p3 p4 x) (Jv p1 p2 p3 p4)) s
theorem KR:∀ b,bJ Pz b (Jn b):=fun _ _ _ h=>cN (RI _ _ _ _ _) h
noncomputable def B13:aC:=au Pz (fun f i=>bI f i ZH) [(20,zT),(29,S8)] [(13,5,Jn)] []
theorem U0:bD B13:=ao al ⟨AQ,ZE,trivial⟩ ⟨KR,trivial⟩ trivial
noncomputable def aX (a:Pos) (b:List UInt8):(Mv×Int):=(bif decide (Int.ofNat b.length > 20) then (⟨(0),(0),(0),(0),(false)⟩,(3)) else (bif Int.ofNat ((eH b (ae a) (Int.ofNat (ae a).length) a ([],0)).getD default).fst.length==0 then (⟨(0),(0),(0),(0),(false)⟩,(5)) else (bif Int.ofNat ((eH b (ae a) (Int.ofNat (ae a).length) a ([],0)).getD default).fst.length==1 then (⟨((((eH b (ae a) (Int.ofNat (ae a).length) a ([],0)).getD default).fst.getD 0 default).aw),((((eH b (ae a) (Int.ofNat (ae a).length) a ([],0)).getD default).fst.getD 0 default).to),((((eH b (ae a) (Int.ofNat (ae a).length) a ([],0)).getD default).fst.getD 0 default).aI),((((eH b (ae a) (Int.ofNat (ae a).length) a ([],0)).getD default).fst.getD 0 default).aM),((((eH b (ae a) (Int.ofNat (ae a).length) a ([],0)).getD default).fst.getD 0 default).bh)⟩,(0)) else (⟨(0),(0),(0),(0),(false)⟩,(230)))))
noncomputable def fQ (a:Pos) (b:List UInt8):Bool:=(bif decide (Int.ofNat b.length > 20) then true else (kI a&&((eH b (ae a) (Int.ofNat (ae a).length) a ([],0)).isSome&&(bif Int.ofNat ((eH b (ae a) (Int.ofNat (ae a).length) a ([],0)).getD default).fst.length==0 then true else (bif Int.ofNat ((eH b (ae a) (Int.ofNat (ae a).length) a ([],0)).getD default).fst.length==1 then (decide (0≤0)&&decide (0 < Int.ofNat ((eH b (ae a) (Int.ofNat (ae a).length) a ([],0)).getD default).fst.length)&&true) else true)))))
theorem UF (a:Pos) (b:List UInt8) (h:fQ a b=true):PS Pz 13 [Pos.av a,.str b] ((d2 iE (dI .i64)).res (aX a b)):=aA (n:=14) U0 (by kernel_rfl) (by kernel_rfl) (by kernel_rfl) h
noncomputable def Wb:List AV→Tr AV:=g2 bH dS (fun a b=>cE (fQ a b) ((d2 iE (dI .i64)).res (aX a b)))
theorem Zr:Sound Pz 13 Wb:=bB fun a b=>aJ (UF a b)
end Kz
end
section
namespace Kz
open Go Go.RowKit Go.Proofs
set_option maxRecDepth 100000
variable {p:Pos} {m:Mv} {t:List UInt8}
noncomputable def wh (m:Mv) (j:Int):List UInt8:=bif j==0 then [] else bif j==1 then List.drop 0 (List.take 1 (bF (wr .i64 m.aw))) else bif j==2 then List.drop 1 (List.take (bF (wr .i64 m.aw)).length (bF (wr .i64 m.aw))) else bF (wr .i64 m.aw)
theorem xp (hm:iV m) (j:Int):(wh m j).length≤2:=by
  have s4:=(uO hm.f0 hm.f1).2
  have e4:(bF (wr .i64 m.aw)).length=2:=by rw [s4]; rfl
  unfold wh
  generalize bF (wr .i64 m.aw)=F at e4
  cases (j==0) <;> cases (j==1) <;> cases (j==2) <;> simp <;> omega
noncomputable def fm (p:Pos) (m:Mv) (t:List UInt8) (j:Int):Bool:=aW p m (wh m j)==t || (aW p m (wh m j)++nK p m==t)
noncomputable def bT (p:Pos) (m:Mv) (t:List UInt8):Bool:=fm p m t 0 || (fm p m t 1 || (fm p m t 2 || fm p m t 3))
theorem Fj (hp:aR p) (hm:iV m) (h76:m ∈ dO p):∃ r,na (nK p m) (List.drop 0 (List.take 1 (bF (wr .i64 m.aw)))) (List.drop 1 (List.take (bF (wr .i64 m.aw)).length (bF (wr .i64 m.aw)))) (bF (wr .i64 m.aw)) p m t p m 0=some r∧iC r=bT p m t:=by
  refine b7 (I:=fun x:Int=>0≤x∧x≤4∧∀ j:Int,0≤j→j < x→fm p m t j=false) (μ:=fun x=>(4 - x).toNat) ?_ _ ⟨Int.le_refl _,by decide,fun j a b=>by omega⟩ (by decide)
  rintro x ⟨x0,x4,hx⟩
  have mk:=(jU hp h76).2
  have ml:(nK p m).length≤1:=by rcases mk with e | e | e <;> rw [e] <;> decide
  have key:∀ j:Int,lZ p m (wh m j)=true∧decide ((kL p m (wh m j)).length+(nK p m).length≤1073741824)=true:=fun j=>by
    refine ⟨DA hp hm (xp hm j),?_⟩
    obtain ⟨h,z,e,_,e2,_⟩:=il hp hm (xp hm j)
    rw [xN,e]
    exact decide_eq_true (by simp; omega)
  have st:∀ j:Int,0≤j→j < 4→x=j→vO (fun x:Int=>0≤x∧x≤4∧∀ j:Int,0≤j→j < x→fm p m t j=false) (fun r:Int ⊕ (Int×Bool)=>iC r=bT p m t) (fun x=>(4 - x).toNat) (4 - x).toNat (bif kL p m (wh m j)==t then .out (.inl j) else bif kL p m (wh m j)++nK p m==t then .out (.inl j) else .go (wr .i64 (j+1))):=by
    intro j j0 j4 hj
    subst hj
    rw [xN]
    have yes:fm p m t x=true→bT p m t=true:=fun h=>by
      unfold bT
      rcases (show x=0∨x=1∨x=2∨x=3 by omega) with rfl | rfl | rfl | rfl <;> rw [h] <;> simp
    cases h1:(aW p m (wh m x)==t) with
    | true=>exact (yes (by unfold fm; rw [h1]; rfl)).symm
    | false =>
      cases h2:(aW p m (wh m x)++nK p m==t) with
      | true=>exact (yes (by unfold fm; rw [h1,h2]; rfl)).symm
      | false =>
        rw [cp (by omega) (by omega)]
        refine ⟨⟨by omega,by omega,fun j a b => ?_⟩,show (4 - (x+1)).toNat < (4 - x).toNat by omega⟩
        by_cases h:j=x
        · subst h; unfold fm; rw [h1,h2]; rfl
        · exact hx j a (by omega)
  unfold zi Ce
  by_cases h4:x < 4
  · rcases (show x=0∨x=1∨x=2∨x=3 by omega) with rfl | rfl | rfl | rfl
    · obtain ⟨k1,k2⟩:=key 0
      change lZ p m (ByteArray.mk #[]).data.toList=true at k1
      change decide ((kL p m (ByteArray.mk #[]).data.toList).length+_≤_)=true at k2
      rw [k1,k2]
      exact ⟨by cases (kL p m (ByteArray.mk #[]).data.toList==t) <;> rfl,st 0 (by decide) (by decide) rfl⟩
    · obtain ⟨k1,k2⟩:=key 1
      change lZ p m (List.drop 0 (List.take 1 (bF (wr .i64 m.aw))))=true at k1
      change decide ((kL p m (List.drop 0 (List.take 1 (bF (wr .i64 m.aw))))).length+_≤_)=true at k2
      rw [k1,k2]
      exact ⟨by cases (kL p m (List.drop 0 (List.take 1 (bF (wr .i64 m.aw))))==t) <;> rfl,st 1 (by decide) (by decide) rfl⟩
    · obtain ⟨k1,k2⟩:=key 2
      change lZ p m (List.drop 1 (List.take (bF (wr .i64 m.aw)).length (bF (wr .i64 m.aw))))=true at k1
      change decide ((kL p m (List.drop 1 (List.take (bF (wr .i64 m.aw)).length (bF (wr .i64 m.aw))))).length+_≤_)=true at k2
      rw [k1,k2]
      exact ⟨by cases (kL p m (List.drop 1 (List.take (bF (wr .i64 m.aw)).length (bF (wr .i64 m.aw))))==t) <;> rfl,st 2 (by decide) (by decide) rfl⟩
    · obtain ⟨k1,k2⟩:=key 3
      change lZ p m (bF (wr .i64 m.aw))=true at k1
      change decide ((kL p m (bF (wr .i64 m.aw))).length+_≤_)=true at k2
      rw [k1,k2]
      exact ⟨by cases (kL p m (bF (wr .i64 m.aw))==t) <;> rfl,st 3 (by decide) (by decide) rfl⟩
  · obtain rfl:x=4:=by omega
    refine ⟨rfl,?_⟩
    show false=bT p m t
    unfold bT
    rw [hx 0 (by decide) (by decide),hx 1 (by decide) (by decide),hx 2 (by decide) (by decide),hx 3 (by decide) (by decide)]
    rfl
theorem Ov (hp:aR p) (hm:m ∈ ae p) (t:List UInt8):CY p m t=true∧Nl p m t=bT p m t:=by
  obtain ⟨a,_,b⟩:=cm hp hm
  obtain ⟨s3,s4⟩:=uO a.f0 a.f1
  have e5:decide (1≤Int.ofNat (bF (wr .i64 m.aw)).length)=true:=by rw [s4]; rfl
  obtain ⟨r,e,h⟩:=Fj (t:=t) hp a b
  unfold CY Nl
  rw [(jU hp b).1,s3,e5,e]
  refine ⟨by cases iC ((some r).getD default) <;> rfl,?_⟩
  rw [← h]
  show (bif iC r then true else false)=iC r
  cases iC r <;> rfl
def told:List Mv→Mv×Int
  | []=>(⟨0,0,0,0,false⟩,5)
  | [m]=>(m,0)
  | _=>(⟨0,0,0,0,false⟩,230)
theorem FV (hp:aR p) (t:List UInt8):∃ r,eH t (ae p) (Int.ofNat (ae p).length) p ([],0)=some r∧r.1=(ae p).filter (bT p · t):=by
  have hl:=dV hp
  refine b7 (I:=fun x:List Mv×Int=>0≤x.2∧x.2≤((ae p).length:Int)∧x.1=((ae p).take x.2.toNat).filter (bT p · t)) (μ:=fun x=>(((ae p).length:Int) - x.2).toNat) ?_ _ ⟨Int.le_refl _,by dsimp only; omega,rfl⟩ (by dsimp only; omega)
  rintro ⟨o,i⟩ ⟨i0,i1,ho⟩
  dsimp only at i0 i1 ho
  unfold y6 Bj
  dsimp only
  by_cases hi:i < Int.ofNat (ae p).length
  · have hi':i < ((ae p).length:Int):=hi
    have hmem:=cF (l:=ae p) (i:=i.toNat) (d:=default) (by omega)
    obtain ⟨k1,k2⟩:=Ov hp hmem t
    have ol:o.length≤20802:=by
      rw [ho]
      have:=List.length_filter_le (bT p · t) ((ae p).take i.toNat)
      have h2:=List.length_take_le i.toNat (ae p)
      have h3:((ae p).take i.toNat).length≤(ae p).length:=by rw [List.length_take]; omega
      omega
    have step:((ae p).take (i+1).toNat).filter (bT p · t)=o++(bif bT p ((ae p).getD i.toNat default) t then [(ae p).getD i.toNat default] else []):=by
      rw [show (i+1).toNat=i.toNat+1 by omega,List.take_add_one,List.filter_append,← ho]
      congr 1
      rw [List.getD_eq_getElem?_getD]
      rw [List.getElem?_eq_getElem (show i.toNat < (ae p).length by omega)]
      show List.filter (bT p · t) [(ae p)[i.toNat]]=_
      rw [List.filter_cons]
      show (if bT p (ae p)[i.toNat] t=true then _ else _)=(bif bT p (ae p)[i.toNat] t then _ else _)
      cases bT p (ae p)[i.toNat] t <;> rfl
    rw [decide_eq_true hi,decide_eq_true i0,k1,k2,cp (by omega) (by omega),decide_eq_true (show o.length+1≤1073741824 by omega),beq_self_eq_true]
    refine ⟨by cases bT p ((ae p).getD i.toNat default) t <;> rfl,?_⟩
    rw [cond_true]
    cases hf:bT p ((ae p).getD i.toNat default) t with
    | true =>
      rw [hf] at step
      exact ⟨⟨by dsimp only; omega,by dsimp only; omega,step.symm⟩,by dsimp only; omega⟩
    | false =>
      rw [hf] at step
      exact ⟨⟨by dsimp only; omega,by dsimp only; omega,by dsimp only; rw [step]; simp⟩,by dsimp only; omega⟩
  · have hi':¬ i < ((ae p).length:Int):=hi
    rw [decide_eq_false hi]
    refine ⟨rfl,?_⟩
    show o=_
    rw [ho,List.take_of_length_le (by omega)]
theorem gq (hp:aR p) (t:List UInt8):fQ p t=true∧aX p t=(bif decide (Int.ofNat t.length > 20) then (⟨0,0,0,0,false⟩,3) else told ((ae p).filter (bT p · t))):=by
  obtain ⟨r,e,h⟩:=FV hp t
  unfold fQ aX
  rw [e,t20 hp]
  simp only [Option.getD_some,Option.isSome_some,h]
  generalize (ae p).filter (bT p · t)=l
  cases decide (Int.ofNat t.length > 20) with
  | true=>exact ⟨rfl,rfl⟩
  | false =>
    match l with
    | []=>exact ⟨rfl,rfl⟩
    | [m]=>exact ⟨rfl,rfl⟩
    | a::b::l =>
      have n0:(Int.ofNat (a::b::l).length==0)=false:=rfl
      have n1:(Int.ofNat (a::b::l).length==1)=false:=by
        rw [beq_eq_false_iff_ne]
        intro e
        have:(a::b::l).length=1:=Int.ofNat.inj e
        simp at this
      rw [n0,n1]
      exact ⟨rfl,rfl⟩
end Kz
end
section
namespace Kz
open Go Go.RowKit Go.Proofs
set_option maxRecDepth 100000
set_option maxHeartbeats 4000000
noncomputable def Sh:List (Nat×Nat×List (Nat×List Nat)):=[(259,12,[(0,[]),(1,[1]),(2,[1,2]),(3,[1,2,4]),(4,[1,2]),(5,[1,2]),(6,[0])])]
noncomputable def Km:aC:=au Pz (fun f i=>bI f i Sh) [] [] []
theorem Ig:bD Km:=ao al trivial trivial trivial
noncomputable def Dz (p1:Nat) (x:((List Int)×Int)):St:=St.mk (AV.any::AV.list (ET.i .u8) x.fst (Tk.own 1)::AV.int .u8 x.snd::(an 9 [])) (Hp.mk [] [p1,x.fst.length] [] 0 0 0)
noncomputable def C7 (p1:Nat):((List Int)×Int×Bool)→Out:=fun y=>.exit 0 (St.mk (AV.any::AV.list (ET.i .u8) y.fst (Tk.own 1)::AV.int .u8 y.snd.fst::AV.any::AV.bool y.snd.snd::(an 7 [])) (Hp.mk [] [p1,y.fst.length] [] 0 0 0))
noncomputable def Fo (p1:Nat) (x:((List Int)×Int)):bA ((List Int)×Int) (((List Int)×Int×Bool)):=(bif decide (x.snd≤6) then (bA.go (x.fst++[x.snd],wr .u8 (x.snd+1))) else (bA.out ((x.fst,x.snd,decide (x.snd≤6)))))
noncomputable def BN (p1:Nat) (x:((List Int)×Int)):Bool:=(bif decide (x.snd≤6) then (x.fst.length==x.fst.length&&decide (x.fst.length+1≤1073741824)&&true) else true)
noncomputable def tC (p1:Nat) (x:((List Int)×Int)):Option (((List Int)×Int×Bool)):=fY (fun x=>bif BN p1 x then Fo p1 x else .bad) many x
abbrev BG {α:Type} (k:Nat→((List Int)×Int)→α) (s:St):α:=k (tK s 0) ((tL (ET.i .u8) (tT s 1)),(tI (tT s 2)))
theorem K4 (p1:Nat) (x:((List Int)×Int)) (r:((List Int)×Int×Bool)) (h:tC p1 x=some r):aF Pz (bW Pz 259 3) (Dz p1 x) (C7 p1 r):=aF.kR (m:=12) (fn:=259) Ig (BG fun _ x=>some x) (fun o=>match o with | .exit 0 s=>some ((tL (ET.i .u8) (tT s 1)),(tI (tT s 2)),(tB (tT s 4))) | _=>none) (fun _=>rfl) (fun _=>by kernel_rfl) (fun _=>by kernel_rfl) (fun _=>by kernel_rfl) (fun _=>by kernel_rfl) many x r h
noncomputable def Ci (b:Code) (s:St):Tr Out:=BG (fun p1 x=>qN b (bW Pz 259 3) s (Dz p1 x) (tC p1 x) (C7 p1)) s
theorem Fh:∀ b,bJ Pz b (Ci b):=fun _ _ _ h=>cN (K4 _ _) h
noncomputable def U4:aC:=au Pz (fun f i=>bI f i Sh) [] [(259,3,Ci)] []
theorem Ru:bD U4:=ao al trivial ⟨Fh,trivial⟩ trivial
noncomputable def On  : List Int:=(li [1,2,3,4,5,6])
noncomputable def B0  : Bool:=((tC 0 ([],1)).isSome&&true)
theorem Ys  (h:B0 =true):PS Pz 259 [] ((dL (.i .u8)).res (On )):=aA (n:=14) Ru (by kernel_rfl) (by kernel_rfl) (by kernel_rfl) h
noncomputable def H9:List AV→Tr AV:=g0  (cE B0 ((dL (.i .u8)).res (On)))
theorem Ni:Sound Pz 259 H9:=la (aJ Ys)
noncomputable def K1:List (Nat×Nat×List (Nat×List Nat)):=[(202,31,[(0,[0]),(1,[0,4]),(2,[0,4,5]),(3,[0,4,5,10]),(4,[0,4,5]),(5,[0,4,5,13,14,15]),(6,(0::4::5::(rn 13 4 []))),(7,[0,4,5,7,13,14,15]),(8,[0,4,5,8,13,14,15]),(9,[0,4,5,8,13,14,15,25]),(10,[4]),(11,[0,4,5,13,14,15]),(12,[2,3])])]
noncomputable def L9:aC:=au Pz (fun f i=>bI f i K1) [(178,jX),(177,Ca),(259,H9)] [] []
theorem GF:bD L9:=ao al ⟨kH,FJ,Ni,trivial⟩ trivial trivial
noncomputable def Cp (p1:(List UInt8)) (p2:Int) (p3:Int) (x:(Int)):St:=St.mk (AV.str p1::(an 3 (AV.int .u8 p2::AV.int .u8 p3::(an 7 (AV.list (ET.i .u8) (li [1,2,3,4,5,6]) Tk.fresh::AV.int .i64 (Int.ofNat 6)::AV.int .i64 x::(an 15 [])))))) (Hp.mk [] [] [] 0 0 0)
noncomputable def Ew (p1:(List UInt8)) (p2:Int) (p3:Int):(Int) ⊕ (Int×Bool)→Out
  | (.inl (y))=>.exit 0 (St.mk (an 4 (AV.int .u8 y::(an 26 []))) (Hp.mk [] [] [] 0 0 0))
  | (.inr (y))=>.exit 2 (St.mk (AV.str p1::(an 3 (AV.int .u8 p2::AV.int .u8 p3::(an 7 (AV.list (ET.i .u8) (li [1,2,3,4,5,6]) Tk.fresh::AV.int .i64 (Int.ofNat 6)::AV.int .i64 y.fst::AV.bool y.snd::(an 14 [])))))) (Hp.mk [] [] [] 0 0 0))
noncomputable def HE (p1:(List UInt8)) (p2:Int) (p3:Int) (x:(Int)):bA (Int) ((Int) ⊕ (Int×Bool)):=(bif decide (x < Int.ofNat 6) then (bif F5 (jo p3 ((li [1,2,3,4,5,6]).getD x.toNat default))==p1 then (bA.out (.inl ((jo p3 ((li [1,2,3,4,5,6]).getD x.toNat default))))) else (bA.go (wr .i64 (x+1)))) else (bA.out (.inr ((x,decide (x < Int.ofNat 6))))))
noncomputable def EC (p1:(List UInt8)) (p2:Int) (p3:Int) (x:(Int)):Bool:=(bif decide (x < Int.ofNat 6) then (decide (0≤x)&&decide (x < Int.ofNat 6)&&(zN (jo p3 ((li [1,2,3,4,5,6]).getD x.toNat default))&&true)) else true)
noncomputable def kE (p1:(List UInt8)) (p2:Int) (p3:Int) (x:(Int)):Option ((Int) ⊕ (Int×Bool)):=fY (fun x=>bif EC p1 p2 p3 x then HE p1 p2 p3 x else .bad) many x
abbrev CD {α:Type} (k:(List UInt8)→Int→Int→(Int)→α) (s:St):α:=k (tS (tT s 0)) (tI (tT s 4)) (tI (tT s 5)) ((tI (tT s 15)))
theorem L1 (p1:(List UInt8)) (p2:Int) (p3:Int) (x:(Int)) (r:(Int) ⊕ (Int×Bool)) (h:kE p1 p2 p3 x=some r):aF Pz (bW Pz 202 6) (Cp p1 p2 p3 x) (Ew p1 p2 p3 r):=aF.kR (m:=12) (fn:=202) GF (CD fun _ _ _ x=>some x) (fun o=>match o with | .exit 0 s=>some (.inl (tI (tT s 4))) | .exit 2 s=>some (.inr ((tI (tT s 15)),(tB (tT s 16)))) | _=>none) (fun r=>by cases r <;> rfl) (fun _=>by kernel_rfl) (fun _=>by kernel_rfl) (fun _=>by kernel_rfl) (fun _=>by kernel_rfl) many x r h
noncomputable def yo (b:Code) (s:St):Tr Out:=CD (fun p1 p2 p3 x=>Be b (bW Pz 202 6) s (Cp p1 p2 p3 x) (kE p1 p2 p3 x) (Ew p1 p2 p3)) s
theorem zq:∀ b,bJ Pz b (yo b):=fun _ _ _ h=>fX (L1 _ _ _ _) h
noncomputable def Mh:aC:=au Pz (fun f i=>bI f i K1) [(178,jX),(177,Ca),(259,H9)] [(202,6,yo)] []
theorem F4:bD Mh:=ao al ⟨kH,FJ,Ni,trivial⟩ ⟨zq,trivial⟩ trivial
noncomputable def DS (p1:(List UInt8)) (p2:Int) (x:(Int)):St:=St.mk (AV.str p1::(an 3 (AV.int .u8 p2::AV.int .u8 x::(an 25 [])))) (Hp.mk [] [] [] 0 0 0)
noncomputable def BA (p1:(List UInt8)) (p2:Int):(Int)→Out:=fun y=>.exit 0 (St.mk (an 4 (AV.int .u8 y::(an 26 []))) (Hp.mk [] [] [] 0 0 0))
noncomputable def HW (p1:(List UInt8)) (p2:Int) (x:(Int)):bA (Int) ((Int)):=(bif decide (x≤1) then (bif iC ((kE p1 p2 x 0).getD default) then (bA.out ((gl ((kE p1 p2 x 0).getD default)))) else (bA.go (wr .u8 (x+1)))) else (bA.out ((p2))))
noncomputable def DG (p1:(List UInt8)) (p2:Int) (x:(Int)):Bool:=(bif decide (x≤1) then (B0&&((kE p1 p2 x 0).isSome&&bif iC ((kE p1 p2 x 0).getD default) then true else true)) else true)
noncomputable def lW (p1:(List UInt8)) (p2:Int) (x:(Int)):Option ((Int)):=fY (fun x=>bif DG p1 p2 x then HW p1 p2 x else .bad) many x
abbrev BJ {α:Type} (k:(List UInt8)→Int→(Int)→α) (s:St):α:=k (tS (tT s 0)) (tI (tT s 4)) ((tI (tT s 5)))
theorem Mk (p1:(List UInt8)) (p2:Int) (x:(Int)) (r:(Int)) (h:lW p1 p2 x=some r):aF Pz (bW Pz 202 3) (DS p1 p2 x) (BA p1 p2 r):=aF.kR (m:=12) (fn:=202) F4 (BJ fun _ _ x=>some x) (fun o=>match o with | .exit 0 s=>some (tI (tT s 4)) | _=>none) (fun _=>rfl) (fun _=>by kernel_rfl) (fun _=>by kernel_rfl) (fun _=>by kernel_rfl) (fun _=>by kernel_rfl) many x r h
noncomputable def D4 (b:Code) (s:St):Tr Out:=BJ (fun p1 p2 x=>qN b (bW Pz 202 3) s (DS p1 p2 x) (lW p1 p2 x) (BA p1 p2)) s
theorem Fm:∀ b,bJ Pz b (D4 b):=fun _ _ _ h=>cN (Mk _ _ _) h
noncomputable def Uo:aC:=au Pz (fun f i=>bI f i K1) [(178,jX),(177,Ca),(259,H9)] [(202,6,yo),(202,3,D4)] []
theorem QE:bD Uo:=ao al ⟨kH,FJ,Ni,trivial⟩ ⟨zq,Fm,trivial⟩ trivial
noncomputable def KI (a:List UInt8):(Int×Bool):=(((lW a 0 0).getD default),((lW a 0 0).getD default != 0))
noncomputable def IN (a:List UInt8):Bool:=((lW a 0 0).isSome&&true)
theorem Yn (a:List UInt8) (h:IN a=true):PS Pz 202 [.str a] ((d2 (dI .u8) dB).res (KI a)):=aA (n:=14) QE (by kernel_rfl) (by kernel_rfl) (by kernel_rfl) h
end Kz
end
section
namespace Kz
open Go
set_option maxRecDepth 100000
theorem lM {α β:Type} {l:List α} {f:α→List β} (h1:l.Pairwise (·≠·)) (h2:∀ a ∈ l,(f a).Pairwise (·≠·)) (h3:∀ a b x,x ∈ f a→x ∈ f b→a=b):(l.flatMap f).Pairwise (·≠·):=by
  rw [List.pairwise_flatMap]
  exact ⟨h2,h1.imp fun hne x hx y hy e=>by subst e; exact hne (h3 _ _ x hx hy)⟩
theorem kZ {α:Type} (a:α):[a].Pairwise (·≠·):=List.pairwise_singleton _ _
theorem yg (b:BitVec 64) (k:Nat):(hU b k).Pairwise (·≠·):=by
  unfold hU
  rw [List.pairwise_map]
  have h:(List.range k).Pairwise (·≠·):=List.nodup_range
  have h2:((List.range k).filter b.getLsbD).Pairwise (·≠·):=List.Pairwise.filter _ h
  exact h2.imp fun {a c} hne e=>hne (Int.ofNat.inj e)
theorem Cl (v:Int):(iy v).Pairwise (·≠·):=by
  unfold iy
  split
  · split <;> decide
  · exact .nil
theorem oL {p:Pos} {f t:Int} {m:Mv} (h:m ∈ qY p f t):m.aw=f∧m.to=t∧m.aM=0∧m.bh=false:=by
  revert h
  unfold qY
  have k:m ∈ [(⟨f,t,0,0,false⟩:Mv)]→m.aw=f∧m.to=t∧m.aM=0∧m.bh=false:=fun h=>by
    rw [List.mem_singleton] at h
    subst h
    exact ⟨rfl,rfl,rfl,rfl⟩
  refine az (P:=fun l:List Mv=>m ∈ l→_) (fun _=>k) fun _=>az (P:=fun l:List Mv=>m ∈ l→_) (fun _=>k) fun _ h => ?_
  obtain ⟨q,_,h⟩:=List.mem_flatMap.1 h
  rw [List.mem_singleton] at h
  subst h
  exact ⟨rfl,rfl,rfl,rfl⟩
theorem J7 (p:Pos) (f t:Int):(qY p f t).Pairwise (·≠·):=by
  unfold qY
  refine az (P:=fun l:List Mv=>l.Pairwise (·≠·)) (fun _=>kZ _) fun _=>az (P:=fun l:List Mv=>l.Pairwise (·≠·)) (fun _=>kZ _) fun _ => ?_
  refine lM (Cl _) (fun _ _=>kZ _) fun a b x hx hy => ?_
  rw [List.mem_singleton] at hx hy
  subst hx
  exact congrArg Mv.aI hy
theorem sn {p:Pos} {x:Pos×BitVec 64×BitVec 64} {f:Int} {m:Mv} (h:m ∈ jd p x f):m.aw=f∧m.aM=0∧m.bh=false:=by
  unfold jd at h
  obtain ⟨t,_,h⟩:=List.mem_flatMap.1 h
  have:=oL h
  exact ⟨this.1,this.2.2.1,this.2.2.2⟩
theorem BZ (p:Pos) (x:Pos×BitVec 64×BitVec 64) (f:Int):(jd p x f).Pairwise (·≠·) :=
  lM (yg _ _) (fun t _=>J7 p f t) fun a b m hx hy=>(oL hx).2.1.symm.trans (oL hy).2.1
theorem Fq {p:Pos} (hp:aR p):(dD p).Pairwise (·≠·):=by
  by_cases ht:there p
  · rw [iJ hp.v0 ht]
    exact lM (yg _ _) (fun f _=>BZ _ _ f) fun a b m hx hy=>(sn hx).1.symm.trans (sn hy).1
  · rw [my ht]
    exact .nil
theorem rz {p:Pos} {k:Int} {m:Mv} (h:m ∈ ew p k):m.aM=k:=by
  revert h
  unfold ew
  have key:∀ l:List Int,m ∈ l.flatMap (fun s=>[(⟨s,s,0,k,false⟩:Mv)])→m.aM=k:=fun l h=>by
    obtain ⟨s,_,h⟩:=List.mem_flatMap.1 h
    rw [List.mem_singleton] at h
    subst h
    rfl
  exact az (P:=fun l:List Mv=>m ∈ l→_) (fun _ h=>by cases h) fun _=>az (P:=fun l:List Mv=>m ∈ l→_) (fun _ h=>key _ h) fun _ h=>key _ h
theorem CU (p:Pos) (k:Int):(ew p k).Pairwise (·≠·):=by
  unfold ew
  have key:∀ b:BitVec 64,((hU b 64).flatMap (fun s=>[(⟨s,s,0,k,false⟩:Mv)])).Pairwise (·≠·):=fun b =>
    lM (yg _ _) (fun _ _=>kZ _) fun a c x hx hy=>by
      rw [List.mem_singleton] at hx hy
      subst hx
      exact congrArg Mv.aw hy
  exact az (P:=fun l:List Mv=>l.Pairwise (·≠·)) (fun _=>.nil) fun _=>az (P:=fun l:List Mv=>l.Pairwise (·≠·)) (fun _=>key _) fun _=>key _
theorem Hk {p:Pos} (hp:aR p):(mg p).Pairwise (·≠·):=by
  rw [ua hp.t0]
  refine az (P:=fun l:List Mv=>l.Pairwise (·≠·)) (fun _=>.nil) fun _=>az (P:=fun l:List Mv=>l.Pairwise (·≠·)) (fun _=>.nil) fun _ => ?_
  exact lM (by decide) (fun k _=>CU p k) fun a b m hx hy=>(rz hx).symm.trans (rz hy)
theorem kG {p:Pos} {b c:Int} (h:(cf p b c).2=true):(c=0→b < (cf p b c).1)∧(c≠0→¬ b < (cf p b c).1):=by
  revert h
  unfold cf
  refine az (P:=fun x:Int×Bool=>x.2=true→(c=0→b < x.1)∧(c≠0→¬ b < x.1)) (fun _ h=>by cases h) fun _=>az (P:=fun x:Int×Bool=>x.2=true→(c=0→b < x.1)∧(c≠0→¬ b < x.1)) (fun _ h=>by cases h) fun _=>az (P:=fun x:Int×Bool=>x.2=true→(c=0→b < x.1)∧(c≠0→¬ b < x.1)) (fun _=>az (P:=fun x:Int×Bool=>x.2=true→(c=0→b < x.1)∧(c≠0→¬ b < x.1)) (fun h1 _ => ?_) fun _ h=>by cases h) fun _ h=>by cases h
  have h1:(decide (wr .i64 (cd p.aa+wr .i64 (p.ak.getD (scale 2 p.aa+scale 1 c).toNat 0)) > b)==(c==0))=true:=h1
  simp only [beq_iff_eq] at h1
  refine ⟨fun hc => ?_,fun hc hlt => ?_⟩
  · subst hc
    simpa using h1
  · have hc2:(c==0)=false:=by simpa using hc
    rw [hc2] at h1
    have:=of_decide_eq_false h1
    exact this hlt
theorem G1 {p:Pos} (hp:aR p):(fG p).Pairwise (·≠·):=by
  unfold fG
  have hk:=oR p p.aa 6
  refine az (P:=fun l:List Mv=>l.Pairwise (·≠·)) (fun _=>.nil) fun h => ?_
  have ht:p.aa≤1:=by simpa using h
  refine az (P:=fun l:List Mv=>l.Pairwise (·≠·)) (fun _=>.nil) fun _=>az (P:=fun l:List Mv=>l.Pairwise (·≠·)) (fun _=>.nil) fun hk0=>az (P:=fun l:List Mv=>l.Pairwise (·≠·)) (fun _=>.nil) fun _ => ?_
  have hk0:0≤bL p p.aa 6:=by simpa using hk0
  refine az (P:=fun l:List Mv=>l.Pairwise (·≠·)) (fun h1=>az (P:=fun l:List Mv=>l.Pairwise (·≠·)) (fun h2 => ?_) fun _=>kZ _) fun _=>az (P:=fun l:List Mv=>l.Pairwise (·≠·)) (fun _=>kZ _) fun _=>.nil
  obtain ⟨_,_,_,_,_,_,a1,a2⟩:=jR hp ht hk0 hk.2 h1
  obtain ⟨_,_,_,_,_,_,b1,b2⟩:=jR hp ht hk0 hk.2 h2
  have s1:=(kG a2).2 (by decide)
  have s2:=(kG b2).1 rfl
  rw [← a1] at s1
  rw [← b1] at s2
  refine List.pairwise_cons.2 ⟨fun x hx e => ?_,kZ _⟩
  have hx:x ∈ [(eL p (bL p p.aa 6) 0).fst]:=hx
  rw [List.mem_singleton] at hx
  subst e
  rw [hx] at s1
  exact s1 s2
theorem J2 {p:Pos} (hp:aR p):(dO p).Pairwise (·≠·):=by
  rw [pL,List.pairwise_append,List.pairwise_append]
  refine ⟨⟨Fq hp,G1 hp,fun x hx y hy e => ?_⟩,Hk hp,fun x hx y hy e => ?_⟩
  · subst e
    obtain ⟨_,_,_,_,_,_,_,_,h,_⟩:=jM hp.v0 hx
    have h2:=(ik hp hy).2.2.2.2.2.1
    rw [h] at h2
    cases h2
  · subst e
    have h1:=(mb hp.t0 hy).2.2.2.2.2.2.1
    rcases List.mem_append.1 hx with hx | hx
    · obtain ⟨_,_,_,_,_,_,_,h,_⟩:=jM hp.v0 hx
      omega
    · have:=(ik hp hx).2.2.2.2.2.2.1
      omega
theorem xY {p:Pos} (hp:aR p):(ae p).Pairwise (·≠·):=by
  rw [EJ hp]
  refine az (P:=fun l:List Mv=>l.Pairwise (·≠·)) (fun _=>.nil) fun _ => ?_
  have e:=xW hp
  rw [e]
  have hw:(iQ p).Pairwise (·≠·):=by
    unfold iQ
    have h0:((dO p).filter (wE p)).Pairwise (·≠·):=List.Pairwise.filter _ (J2 hp)
    exact az (P:=fun l:List Mv=>l.Pairwise (·≠·)) (fun _=>az (P:=fun l:List Mv=>l.Pairwise (·≠·)) (fun _=>List.Pairwise.filter _ h0) fun _=>h0) fun _=>h0
  exact az (P:=fun l:List Mv=>l.Pairwise (·≠·)) (fun _=>az (P:=fun l:List Mv=>l.Pairwise (·≠·)) (fun _=>.nil) fun _=>hw) fun _=>hw
end Kz
end
section
namespace Kz
open Go Go.RowKit
set_option maxRecDepth 100000
set_option maxHeartbeats 1000000
theorem Fw (x:BitVec 64) {k:Nat} (hk:k < 64):(x >>> k&&&1#64==1#64)=x.getLsbD k:=by
  have h:(x >>> k&&&1#64).toNat=(x.getLsbD k).toNat:=by
    rw [BitVec.toNat_and,BitVec.toNat_ushiftRight,Nat.shiftRight_eq_div_pow,show (1#64).toNat=2 ^ 1 - 1 from rfl,Nat.and_two_pow_sub_one_eq_mod,BitVec.getLsbD,Nat.testBit_eq_decide_div_mod_eq]
    have:=Nat.mod_two_eq_zero_or_one (x.toNat / 2 ^ k)
    rcases this with h | h
    · rw [show (2:Nat) ^ 1=2 from rfl,h]; rfl
    · rw [show (2:Nat) ^ 1=2 from rfl,h]; rfl
  cases hb:x.getLsbD k with
  | true =>
    rw [hb] at h
    have:x >>> k&&&1#64=1#64:=BitVec.eq_of_toNat_eq h
    rw [this]; rfl
  | false =>
    rw [hb] at h
    have:x >>> k&&&1#64=0#64:=BitVec.eq_of_toNat_eq h
    rw [this]; rfl
theorem Lo:∀ (c:Fin 2) (f t:Fin 64),(dQ c.val f.val).getLsbD t.val=true→t.val % 8≠f.val % 8∧((t.val / 8:Nat):Int)=((f.val / 8:Nat):Int)+(1 - 2 * (c.val:Int)):=by decide +kernel
theorem Nh:∀ (c:Fin 2) (f:Fin 64),jW c.val f.val≠7→cB c.val f.val=f.val+(8 - 16 * (c.val:Int))∧0≤cB c.val f.val∧cB c.val f.val < 64:=by decide +kernel
theorem KH:∀ (c:Fin 2) (f:Fin 64),jW c.val f.val=1∨jW c.val f.val=0→cB c.val (cB c.val f.val)=f.val+2 * (8 - 16 * (c.val:Int))∧0≤cB c.val (cB c.val f.val)∧cB c.val (cB c.val f.val) < 64:=by decide +kernel
def ma (p:Pos) (f t:Nat):Prop :=
  (t % 8≠f % 8∧((t / 8:Nat):Int)=((f / 8:Nat):Int)+(1 - 2 * p.aa)) ∨
  ((t:Int)=f+(8 - 16 * p.aa)∧(nJ p).getLsbD t=false) ∨
  ((t:Int)=f+2 * (8 - 16 * p.aa)∧(nJ p).getLsbD t=false∧∀ g:Nat,(g:Int)=f+(8 - 16 * p.aa)→(own p).getLsbD g=false)
theorem CO {p:Pos} (ht:p.aa=0∨p.aa=1) {f t:Nat} (hf:f < 64) (h64:t < 64) (hk:aY (p.ag.getD f 0)=1) (h:(iL (p,own p,nJ p) f).getLsbD t=true):ma p f t:=by
  have hs:(scale 1 (f:Int)).toNat=f:=by unfold scale; simp
  unfold iL at h
  simp only [hs] at h
  rw [hk] at h
  have h:(wt (p,own p,nJ p) f &&& ~~~own p).getLsbD t=true:=h
  rw [BitVec.getLsbD_and,Bool.and_eq_true] at h
  obtain ⟨h,hno⟩:=h
  obtain ⟨c,hc⟩:∃ c:Fin 2,p.aa=c.val:=by
    rcases ht with h | h
    · exact ⟨0,h⟩
    · exact ⟨1,h⟩
  have hA:∀ z:BitVec 64,(dQ p.aa f&&&z).getLsbD t=true→ma p f t:=fun z hz=>by
    rw [BitVec.getLsbD_and,Bool.and_eq_true] at hz
    have:=Lo c ⟨f,hf⟩ ⟨t,h64⟩ (by rw [← hc]; exact hz.1)
    simp only at this
    rw [← hc] at this
    exact .inl this
  have p1:=Nh c ⟨f,hf⟩
  have p2:=KH c ⟨f,hf⟩
  simp only at p1 p2
  rw [← hc] at p1 p2
  have bit:∀ {n:Int},0≤n→n < 64→(1#64 <<< (BitVec.ofInt 64 n).toNat).getLsbD t=true→(t:Int)=n:=fun {n} h0 h1 hb=>by
    rw [mq h64,nC h0 (by omega)] at hb
    have:=of_decide_eq_true hb
    omega
  unfold wt at h
  revert h
  show (bif jW p.aa f==7 then _ else bif _ then _ else bif jW p.aa f==1 then _ else bif jW p.aa f==0 then bif p.variant==7 then bif p.aa==0 then _ else _ else _ else _:BitVec 64).getLsbD t=true→_
  refine az (P:=fun x:BitVec 64=>x.getLsbD t=true→ma p f t) (fun _=>hA _) fun h7 => ?_
  have h7:jW p.aa f≠7:=by simpa using h7
  obtain ⟨q1,q2,q3⟩:=p1 h7
  refine az (P:=fun x:BitVec 64=>x.getLsbD t=true→ma p f t) (fun _=>hA _) fun he => ?_
  have hk2:(BitVec.ofInt 64 (cB p.aa f)).toNat=(cB p.aa f).toNat:=nC q2 (by omega)
  have he:((own p|||nJ p) >>> (BitVec.ofInt 64 (cB p.aa f)).toNat&&&1#64==1#64)=false:=he
  rw [hk2,Fw _ (by omega),BitVec.getLsbD_or,Bool.or_eq_false_iff] at he
  have one:∀ z:BitVec 64,(dQ p.aa f&&&z|||1#64 <<< (BitVec.ofInt 64 (cB p.aa f)).toNat).getLsbD t=true→ma p f t:=fun z hz=>by
    rw [BitVec.getLsbD_or,Bool.or_eq_true] at hz
    rcases hz with hz | hz
    · exact hA _ hz
    · have e:=bit q2 q3 hz
      refine .inr (.inl ⟨by omega,?_⟩)
      rw [show t=(cB p.aa f).toNat by omega]
      exact he.2
  have two:jW p.aa f=1∨jW p.aa f=0→∀ z:BitVec 64,(dQ p.aa f&&&z|||1#64 <<< (BitVec.ofInt 64 (cB p.aa f)).toNat|||1#64 <<< (BitVec.ofInt 64 (cB p.aa (cB p.aa f))).toNat &&& ~~~(own p|||nJ p)).getLsbD t=true→ma p f t:=fun hr z hz=>by
    obtain ⟨r1,r2,r3⟩:=p2 hr
    rw [BitVec.getLsbD_or,Bool.or_eq_true] at hz
    rcases hz with hz | hz
    · exact one _ hz
    · rw [BitVec.getLsbD_and,Bool.and_eq_true] at hz
      have e:=bit r2 r3 hz.1
      have hn:=hz.2
      rw [BitVec.getLsbD_not,Bool.and_eq_true,Bool.not_eq_true',BitVec.getLsbD_or,Bool.or_eq_false_iff] at hn
      refine .inr (.inr ⟨by omega,hn.2.2,fun g hg => ?_⟩)
      rw [show g=(cB p.aa f).toNat by omega]
      exact he.1
  refine az (P:=fun x:BitVec 64=>x.getLsbD t=true→ma p f t) (fun h1=>two (.inl (by simpa using h1)) _) fun _ => ?_
  refine az (P:=fun x:BitVec 64=>x.getLsbD t=true→ma p f t) (fun h0 => ?_) fun _=>one _
  have h0:=two (.inr (by simpa using h0))
  exact az (P:=fun x:BitVec 64=>x.getLsbD t=true→ma p f t) (fun _=>az (P:=fun x:BitVec 64=>x.getLsbD t=true→ma p f t) (fun _=>h0 _) fun _=>one _) fun _=>one _
theorem Ip {p:Pos} (ht:p.aa=0∨p.aa=1) {f g t:Nat} (of:(own p).getLsbD f=true) (og:(own p).getLsbD g=true) (hf:ma p f t) (hg:ma p g t)
    (h:t % 8≠f % 8∧f % 8=g % 8∨t % 8=f % 8∧t % 8=g % 8):f=g:=by
  rcases hf with ⟨a1,a2⟩ | ⟨a1,a2⟩ | ⟨a1,a2,a3⟩ <;> rcases hg with ⟨b1,b2⟩ | ⟨b1,b2⟩ | ⟨b1,b2,b3⟩
  · omega
  · omega
  · omega
  · omega
  · omega
  · have:=b3 f (by omega)
    rw [of] at this
    cases this
  · omega
  · have:=a3 g (by omega)
    rw [og] at this
    cases this
  · omega
variable {p:Pos} {m x:Mv}
theorem tc {f:Nat} (hf:f < 64) (e:m.aw=f):bu p m=aY (p.ag.getD f 0):=by
  have hs:(scale 1 (f:Int)).toNat=f:=by unfold scale; simp
  have h241:xu (f:Int)=true:=by
    unfold xu
    simp
    omega
  unfold bu Em
  rw [e,cp (by omega) (by omega),hs,h241]
  show aY (bif false then _ else bif !fH (p.ag.getD f 0) then (0:Int) else p.ag.getD f 0)=_
  cases h:fH (p.ag.getD f 0) with
  | true=>rfl
  | false =>
    show aY 0=aY (p.ag.getD f 0)
    have e:∀ v:Int,fH v=false→aY v=0:=fun v hv=>by
      unfold aY
      rw [hv]
      rfl
    rw [e _ h]
    exact e 0 (by decide +kernel)
theorem vo (hp:aR p) (h:m ∈ dD p):there p∧∃ f t:Nat,f < 64∧t < 64∧m.aw=f∧m.to=t∧m.aM=0∧m.bh=false∧(own p).getLsbD f=true∧(iL (p,own p,nJ p) f).getLsbD t=true∧1≤bu p m∧bu p m≤6∧(bu p m≠1→m.aI=0)∧(m.aI=0∨(2≤m.aI∧m.aI≤6)):=by
  by_cases ht:there p
  · rw [iJ hp.v0 ht] at h
    obtain ⟨f,hf,h⟩:=List.mem_flatMap.1 h
    unfold jd at h
    obtain ⟨t,htt,hm⟩:=List.mem_flatMap.1 h
    obtain ⟨f,hf1,hf2,rfl⟩:=lV.1 hf
    obtain ⟨t,ht1,ht2,rfl⟩:=lV.1 htt
    obtain ⟨a1,a2,a3,a4⟩:=oL hm
    have hk:=tc (p:=p) (m:=m) hf1 a1
    refine ⟨ht,f,t,hf1,ht1,a1,a2,a3,a4,hf2,ht2,?_⟩
    have k:=w8 (m:=m) hp (by omega) (by omega)
    have k0:bu p m≠0:=fun e=>by
      rw [hk] at e
      have hs:(scale 1 (f:Int)).toNat=f:=by unfold scale; simp
      have h2:(iL (p,own p,nJ p) (Int.ofNat f)).getLsbD t=true:=ht2
      unfold iL at h2
      simp only [Int.ofNat_eq_natCast,hs] at h2
      rw [e] at h2
      have h3:(0#64 &&& ~~~own p).getLsbD t=true:=h2
      rw [BitVec.getLsbD_and] at h3
      simp at h3
    refine ⟨by omega,k.2.2,?_⟩
    revert hm
    unfold qY
    have hs:(f:Int).toNat=f:=rfl
    rw [hs,← hk]
    refine az (P:=fun l:List Mv=>m ∈ l→(bu p m≠1→m.aI=0)∧(m.aI=0∨(2≤m.aI∧m.aI≤6))) (fun _ h => ?_) fun hk1=>az (P:=fun l:List Mv=>m ∈ l→(bu p m≠1→m.aI=0)∧(m.aI=0∨(2≤m.aI∧m.aI≤6))) (fun _ h => ?_) fun _ h => ?_
    · rw [List.mem_singleton] at h
      subst h
      exact ⟨fun _=>rfl,.inl rfl⟩
    · rw [List.mem_singleton] at h
      subst h
      exact ⟨fun _=>rfl,.inl rfl⟩
    · obtain ⟨q,hq,h⟩:=List.mem_flatMap.1 h
      rw [List.mem_singleton] at h
      have hk1:bu p m=1:=by simpa using hk1
      refine ⟨fun hne=>absurd hk1 hne,.inr ?_⟩
      rw [h]
      show 2≤q∧q≤6
      unfold iy at hq
      split at hq
      · split at hq <;> simp at hq <;> omega
      · cases hq
  · rw [my ht] at h
    cases h
theorem Hl (hp:aR p) (hm:m ∈ fG p) (hx:x ∈ fG p) (e:m.to > m.aw ↔ x.to > x.aw):m=x:=by
  revert hm hx
  unfold fG
  have hk:=oR p p.aa 6
  refine az (P:=fun l:List Mv=>m ∈ l→x ∈ l→m=x) (fun _ h=>by cases h) fun h => ?_
  have ht:p.aa≤1:=by simpa using h
  refine az (P:=fun l:List Mv=>m ∈ l→x ∈ l→m=x) (fun _ h=>by cases h) fun _=>az (P:=fun l:List Mv=>m ∈ l→x ∈ l→m=x) (fun _ h=>by cases h) fun hk0=>az (P:=fun l:List Mv=>m ∈ l→x ∈ l→m=x) (fun _ h=>by cases h) fun _ => ?_
  have hk0:0≤bL p p.aa 6:=by simpa using hk0
  have one:∀ a:Mv,m ∈ [a]→x ∈ [a]→m=x:=fun a h1 h2=>by
    rw [List.mem_singleton] at h1 h2
    rw [h1,h2]
  refine az (P:=fun l:List Mv=>m ∈ l→x ∈ l→m=x) (fun h1=>az (P:=fun l:List Mv=>m ∈ l→x ∈ l→m=x) (fun h2 => ?_) fun _=>one _) fun _=>az (P:=fun l:List Mv=>m ∈ l→x ∈ l→m=x) (fun _=>one _) fun _ h=>by cases h
  obtain ⟨c1,_,_,_,_,_,a1,a2⟩:=jR hp ht hk0 hk.2 h1
  obtain ⟨c2,_,_,_,_,_,b1,b2⟩:=jR hp ht hk0 hk.2 h2
  have s1:=(kG a2).2 (by decide)
  have s2:=(kG b2).1 rfl
  rw [← a1] at s1
  rw [← b1] at s2
  intro hm hx
  have hm:m ∈ [(eL p (bL p p.aa 6) 1).fst,(eL p (bL p p.aa 6) 0).fst]:=hm
  have hx:x ∈ [(eL p (bL p p.aa 6) 1).fst,(eL p (bL p p.aa 6) 0).fst]:=hx
  simp only [List.mem_cons,List.not_mem_nil,or_false] at hm hx
  rcases hm with rfl | rfl <;> rcases hx with rfl | rfl
  · rfl
  · rw [c1,c2] at e
    exact absurd (e.2 s2) s1
  · rw [c1,c2] at e
    exact absurd (e.1 s2) s1
  · rfl
variable {p:Pos} {m x:Mv}
def fl (n:Int):UInt8:=UInt8.ofNat (97+n.toNat % 8)
def rk (n:Int):UInt8:=UInt8.ofNat (49+n.toNat / 8)
theorem mP (n:Int):(fl n).toNat=97+n.toNat % 8:=by
  unfold fl
  rw [UInt8.toNat_ofNat',Nat.mod_eq_of_lt (by omega)]
theorem wC {n:Int} (h:n < 64):(rk n).toNat=49+n.toNat / 8:=by
  unfold rk
  rw [UInt8.toNat_ofNat',Nat.mod_eq_of_lt (by omega)]
theorem lX {a b:Nat} (a1:1≤a) (a6:a≤6) (b1:1≤b) (b6:b≤6) (h:gY a=gY b):a=b:=by
  have:∀ a b:Fin 7,1≤a.val→1≤b.val→gY a.val=gY b.val→a=b:=by decide
  exact congrArg Fin.val (this ⟨a,by omega⟩ ⟨b,by omega⟩ a1 b1 h)
theorem xr (hp:aR p) (h:m ∈ dD p) {f t:Nat} (hf:f < 64) (h64:t < 64) (ef:m.aw=f) (et:m.to=t) (hk:aY (p.ag.getD f 0)=1) (hth:there p) (w:ma p f t):gX p m=decide (t % 8≠f % 8):=by
  have hs:(scale 1 (f:Int)).toNat=f:=by unfold scale; simp
  have hl:=jD hp.v0
  have ht:p.aa=0∨p.aa=1:=by
    have:=hp.t0
    have:=hth.1
    omega
  have c31:A0 (dD p) m=true:=by rw [pU (by omega)]; exact decide_eq_true h
  unfold gX aU
  rw [kX hth,c31,ef,et,hs,hk]
  have hsh:(BitVec.ofInt 64 (t:Int)).toNat=t:=by
    rw [nC (by omega) (by omega)]
    rfl
  rw [hsh]
  have hb:(nJ p&&&1#64 <<< t != 0#64)=(nJ p).getLsbD t:=by
    cases hz:(nJ p).getLsbD t with
    | true =>
      have:nJ p&&&1#64 <<< t≠0#64:=fun e=>by
        have:=congrArg (fun z:BitVec 64=>z.getLsbD t) e
        simp only [BitVec.getLsbD_and,hz,mq h64] at this
        simp at this
      simpa using this
    | false =>
      have:nJ p&&&1#64 <<< t=0#64:=by
        apply BitVec.eq_of_getLsbD_eq
        intro i hi
        rw [BitVec.getLsbD_and,mq hi]
        by_cases e:i=t
        · subst e
          rw [hz]
          simp
        · simp [e]
      rw [this]
      rfl
  show decide ((bif false then (-1:Int) else bif false then (-1:Int) else bif nJ p&&&1#64 <<< t != 0#64 then wr .i64 (t:Int) else bif true then bif (f:Int).tmod 8 != (t:Int).tmod 8 then cB (wr .u8 (1 - p.aa)) (wr .i64 (t:Int)) else (-1:Int) else (-1:Int)) ≥ 0)=decide (t % 8≠f % 8)
  rw [hb]
  have w64:wr .i64 (t:Int)=t:=cp (by omega) (by omega)
  rw [w64]
  rw [cond_false,cond_false,cond_true]
  cases hz:(nJ p).getLsbD t with
  | true =>
    rw [cond_true]
    rcases w with ⟨a,_⟩ | ⟨_,a⟩ | ⟨_,a,_⟩
    · rw [decide_eq_true a,decide_eq_true (by omega)]
    · rw [hz] at a; cases a
    · rw [hz] at a; cases a
  | false =>
    rw [cond_false]
    by_cases e:t % 8=f % 8
    · have e2:((f:Int).tmod 8 != (t:Int).tmod 8)=false:=by
        have:(f:Int).tmod 8=(t:Int).tmod 8:=by
          rw [Int.tmod_eq_emod_of_nonneg (by omega),Int.tmod_eq_emod_of_nonneg (by omega)]
          omega
        simp [this]
      rw [e2,cond_false,decide_eq_false (by decide),decide_eq_false (by simpa using e)]
    · have e2:((f:Int).tmod 8 != (t:Int).tmod 8)=true:=by
        have:(f:Int).tmod 8≠(t:Int).tmod 8:=by
          rw [Int.tmod_eq_emod_of_nonneg (by omega),Int.tmod_eq_emod_of_nonneg (by omega)]
          omega
        simpa using this
      rw [e2,cond_true,decide_eq_true e]
      have hr:((t / 8:Nat):Int)=((f / 8:Nat):Int)+(1 - 2 * p.aa):=by
        rcases w with ⟨_,a⟩ | ⟨a,_⟩ | ⟨a,_,_⟩
        · exact a
        · omega
        · omega
      have:0≤cB (wr .u8 (1 - p.aa)) (t:Int):=by
        unfold cB
        rcases ht with h | h
        · rw [h,MX (by omega) (by omega)]
          show 0≤wr .i64 ((t:Int) - 8)
          rw [cp (by omega) (by omega)]
          omega
        · rw [h,MX (by omega) (by omega)]
          show 0≤wr .i64 ((t:Int)+8)
          rw [cp (by omega) (by omega)]
          omega
      exact decide_eq_true this
variable {p:Pos} {m x:Mv}
structure Zm (p:Pos) (m:Mv):Prop where
  mem:m ∈ fG p
  h:∀ c,aW p m c=bif decide (m.to > m.aw) then [79,45,79] else [79,45,79,45,79]
structure Rs (p:Pos) (m:Mv):Prop where
  d1:1≤m.aM
  d5:m.aM≤5
  ft:m.aw=m.to
  aI:m.aI=0
  bh:m.bh=false
  t0:0≤m.to
  t1:m.to < 64
  h:∀ c,aW p m c=[gY m.aM.toNat,64,fl m.to,rk m.to]
structure Lg (p:Pos) (m:Mv) (f t:Nat):Prop where
  ef:m.aw=f
  et:m.to=t
  f64:f < 64
  t64:t < 64
  k:bu p m=1
  own:(own p).getLsbD f=true
  Zp:ma p f t
  tk:gX p m=decide (t % 8≠f % 8)
  aM:m.aM=0
  bh:m.bh=false
  aI:m.aI=0∨(2≤m.aI∧m.aI≤6)
  aa:p.aa=0∨p.aa=1
  h:∀ c,aW p m c=(bif decide (t % 8≠f % 8) then [fl m.aw,120,fl m.to,rk m.to] else [fl m.to,rk m.to])++(bif m.aI==0 then [] else [61,gY m.aI.toNat])
structure zh (p:Pos) (m:Mv):Prop where
  f0:0≤m.aw
  f1:m.aw < 64
  t0:0≤m.to
  t1:m.to < 64
  k2:2≤bu p m
  k6:bu p m≤6
  aI:m.aI=0
  aM:m.aM=0
  bh:m.bh=false
  h:∀ c,aW p m c=gY (bu p m).toNat::(c++((bif gX p m then [120] else [])++[fl m.to,rk m.to]))
theorem pq {n:Int} (h0:0≤n) (h1:n < 64):bF (wr .i64 n)=[fl n,rk n]:=(uO h0 h1).2
theorem mf (hp:aR p) (hm:m ∈ ae p):Zm p m∨Rs p m∨(∃ f t,Lg p m f t)∨zh p m:=by
  obtain ⟨a,hth,h⟩:=cm hp hm
  have ht:p.aa=0∨p.aa=1:=by
    have:=hp.t0
    have:=hth.1
    omega
  have et:=pq a.t0 a.t1
  have ef:=pq a.f0 a.f1
  rw [pL] at h
  rcases List.mem_append.1 h with h | h
  · rcases List.mem_append.1 h with h | h
    · obtain ⟨_,f,t,hf,h64,e1,e2,e3,e4,e5,e6,e7,e8,e9,e10⟩:=vo hp h
      by_cases hk:bu p m=1
      · have hk2:aY (p.ag.getD f 0)=1:=(tc hf e1).symm.trans hk
        have w:=CO ht hf h64 hk2 e6
        have tk:=xr hp h hf h64 e1 e2 hk2 hth w
        refine .inr (.inr (.inl ⟨f,t,e1,e2,hf,h64,hk,e5,w,tk,e3,e4,e10,ht,fun c => ?_⟩))
        have hpr:m.aI≠0→bq m.aI=[gY m.aI.toNat]:=fun hne=>(tG (k:=m.aI) a.p0 (by have:=a.p6; omega)).2.1 (by omega) a.p6
        unfold aW
        rw [e3,e4,hk,tk,et,ef]
        show (bif decide (t % 8≠f % 8) then [fl m.aw,120,fl m.to,rk m.to] else [fl m.to,rk m.to])++(bif m.aI==0 then [] else 61::bq m.aI)=_
        by_cases hz:m.aI=0
        · rw [hz]; rfl
        · rw [show (m.aI==0)=false by simpa using hz,cond_false,cond_false,hpr hz]
      · refine .inr (.inr (.inr ⟨a.f0,a.f1,a.t0,a.t1,by omega,e8,e9 hk,e3,e4,fun c => ?_⟩))
        have hl:=(tG (k:=bu p m) (by omega) (by omega)).2.1 e7 e8
        unfold aW
        rw [e3,e4,show (bu p m==1)=false by simpa using hk,et,hl]
        rfl
    · refine .inl ⟨h,fun c => ?_⟩
      have hc:=(ik hp h).2.2.2.2.2.1
      unfold aW
      rw [hc]
      rfl
  · obtain ⟨_,_,e1,_,_,e4,e5,e6,e7⟩:=mb hp.t0 h
    refine .inr (.inl ⟨e5,e6,e1,e7,e4,a.t0,a.t1,fun c => ?_⟩)
    have hl:=(tG (k:=m.aM) (by omega) (by omega)).2.1 e5 (by omega)
    unfold aW
    rw [e4,show (m.aM==0)=false by simp; omega,et,hl]
    rfl
variable {p:Pos} {m x:Mv}
theorem xA (h1:m.aw=x.aw) (h2:m.to=x.to) (h3:m.aI=x.aI) (h4:m.aM=x.aM) (h5:m.bh=x.bh):m=x:=by
  obtain ⟨a,b,c,d,e⟩:=m
  obtain ⟨a',b',c',d',e'⟩:=x
  simp only at h1 h2 h3 h4 h5
  rw [h1,h2,h3,h4,h5]
theorem qf {a b:Int} (a0:0≤a) (a1:a < 64) (b0:0≤b) (b1:b < 64) (h1:fl a=fl b) (h2:rk a=rk b):a=b:=by
  have e1:=congrArg UInt8.toNat h1
  have e2:=congrArg UInt8.toNat h2
  rw [mP,mP] at e1
  rw [wC a1,wC b1] at e2
  omega
theorem lG {n:Nat} (h1:1≤n) (h6:n≤6):(gY n).toNat≠79∧(gY n).toNat≤90:=by
  have:n=1∨n=2∨n=3∨n=4∨n=5∨n=6:=by omega
  rcases this with rfl | rfl | rfl | rfl | rfl | rfl <;> decide
def Ch (c:List UInt8):Prop := ∀ z ∈ c,z.toNat≠120∧z.toNat≠64
theorem Ay {c d:List UInt8} (hm:Zm p m) (hx:Rs p x∨(∃ f t,Lg p x f t)∨zh p x) (e:aW p m c=aW p x d):False:=by
  rw [hm.h] at e
  have e0:(aW p x d).head?=some 79:=by
    rw [← e]
    cases decide (m.to > m.aw) <;> rfl
  rcases hx with h | ⟨f,t,h⟩ | h
  · rw [h.h] at e0
    have:=congrArg UInt8.toNat (Option.some.inj e0)
    exact (lG (n:=x.aM.toNat) (by have:=h.d1; omega) (by have:=h.d5; omega)).1 this
  · rw [h.h] at e0
    revert e0
    cases decide (t % 8≠f % 8) with
    | true =>
      intro e0
      have:=congrArg UInt8.toNat (Option.some.inj e0)
      rw [mP] at this
      have h79:(79:UInt8).toNat=79:=rfl
      omega
    | false =>
      intro e0
      have:=congrArg UInt8.toNat (Option.some.inj e0)
      rw [mP] at this
      have h79:(79:UInt8).toNat=79:=rfl
      omega
  · rw [h.h] at e0
    have:=congrArg UInt8.toNat (Option.some.inj e0)
    exact (lG (n:=(bu p x).toNat) (by have:=h.k2; omega) (by have:=h.k6; omega)).1 this
theorem xX {f t:Nat} {c:List UInt8} (h:Lg p m f t):∃ z l,aW p m c=z::l∧97≤z.toNat:=by
  rw [h.h]
  cases decide (t % 8≠f % 8) with
  | true=>exact ⟨_,_,rfl,by rw [mP]; omega⟩
  | false=>exact ⟨_,_,rfl,by rw [mP]; omega⟩
theorem Fi {c d:List UInt8} (hd:Ch d) (hm:Rs p m) (hx:(∃ f t,Lg p x f t)∨zh p x) (e:aW p m c=aW p x d):False:=by
  have l1:=lG (n:=m.aM.toNat) (by have:=hm.d1; omega) (by have:=hm.d5; omega)
  rw [hm.h] at e
  rcases hx with ⟨f,t,h⟩ | h
  · obtain ⟨z,l,e2,hz⟩:=xX (c:=d) h
    rw [e2] at e
    have:=congrArg UInt8.toNat (List.cons.inj e).1
    omega
  · rw [h.h] at e
    have e:=(List.cons.inj e).2
    cases d with
    | nil =>
      revert e
      cases gX p x with
      | true =>
        intro e
        have:=(List.cons.inj e).1
        exact absurd this (by decide)
      | false =>
        intro e
        have:=congrArg UInt8.toNat (List.cons.inj e).1
        rw [mP] at this
        have h64:(64:UInt8).toNat=64:=rfl
        omega
    | cons z d =>
      have:=congrArg UInt8.toNat (List.cons.inj e).1
      exact (hd z (by simp)).2 this.symm
theorem Qp {c d:List UInt8} {f t:Nat} (hm:Lg p m f t) (hx:zh p x) (e:aW p m c=aW p x d):False:=by
  obtain ⟨z,l,e2,hz⟩:=xX (c:=c) hm
  rw [e2,hx.h] at e
  have:=congrArg UInt8.toNat (List.cons.inj e).1
  have:=(lG (n:=(bu p x).toNat) (by have:=hx.k2; omega) (by have:=hx.k6; omega)).2
  omega
theorem Q3 {c d:List UInt8} {f t g u:Nat} (hm:Lg p m f t) (hx:Lg p x g u) (e:aW p m c=aW p x d):m=x:=by
  have m0:0≤m.to∧m.to < 64:=by rw [hm.et]; have:=hm.t64; omega
  have x0:0≤x.to∧x.to < 64:=by rw [hx.et]; have:=hx.t64; omega
  have pr:((bif m.aI==0 then [] else [61,gY m.aI.toNat]):List UInt8)=(bif x.aI==0 then [] else [61,gY x.aI.toNat])→m.aI=x.aI:=fun h=>by
    have a:=hm.aI
    have b:=hx.aI
    by_cases ea:m.aI=0
    · by_cases eb:x.aI=0
      · rw [ea,eb]
      · rw [ea,show (x.aI==0)=false by simpa using eb] at h
        exact absurd h (by simp)
    · by_cases eb:x.aI=0
      · rw [eb,show (m.aI==0)=false by simpa using ea] at h
        exact absurd h (by simp)
      · rw [show (m.aI==0)=false by simpa using ea,show (x.aI==0)=false by simpa using eb] at h
        have h:=(List.cons.inj (List.cons.inj h).2).1
        have:=lX (by omega) (by omega) (by omega) (by omega) h
        omega
  rw [hm.h,hx.h] at e
  have fin:m.to=x.to→m.aI=x.aI→(t % 8≠f % 8∧f % 8=g % 8∨t % 8=f % 8∧u % 8=g % 8)→m=x:=fun e1 e2 e3=>by
    have et:t=u:=by
      have:=hm.et
      have:=hx.et
      omega
    subst et
    have efg:=Ip hm.aa hm.own hx.own hm.Zp hx.Zp e3
    exact xA (by rw [hm.ef,hx.ef,efg]) e1 e2 (hm.aM.trans hx.aM.symm) (hm.bh.trans hx.bh.symm)
  have hr:∀ {a:Int},a < 64→(120:UInt8)=rk a→0≤a→False:=fun {a} h e h0=>by
    have:=congrArg UInt8.toNat e
    rw [wC h] at this
    have h120:(120:UInt8).toNat=120:=rfl
    omega
  by_cases a:t % 8≠f % 8
  · by_cases b:u % 8≠g % 8
    · rw [decide_eq_true a,decide_eq_true b] at e
      have i1:=List.cons.inj e
      have i2:=List.cons.inj (List.cons.inj i1.2).2
      have i3:=List.cons.inj i2.2
      refine fin (qf m0.1 m0.2 x0.1 x0.2 i2.1 i3.1) (pr i3.2) (.inl ⟨a,?_⟩)
      have:=congrArg UInt8.toNat i1.1
      rw [mP,mP,hm.ef,hx.ef] at this
      simp only [Int.toNat_natCast] at this
      omega
    · rw [decide_eq_true a,decide_eq_false b] at e
      exact (hr x0.2 (List.cons.inj (List.cons.inj e).2).1 x0.1).elim
  · by_cases b:u % 8≠g % 8
    · rw [decide_eq_false a,decide_eq_true b] at e
      exact (hr m0.2 (List.cons.inj (List.cons.inj e).2).1.symm m0.1).elim
    · rw [decide_eq_false a,decide_eq_false b] at e
      have i1:=List.cons.inj e
      have i2:=List.cons.inj i1.2
      exact fin (qf m0.1 m0.2 x0.1 x0.2 i1.1 i2.1) (pr i2.2) (.inr ⟨by omega,by omega⟩)
theorem RM {c d:List UInt8} (hm:Rs p m) (hx:Rs p x) (e:aW p m c=aW p x d):m=x:=by
  rw [hm.h,hx.h] at e
  have i1:=List.cons.inj e
  have i2:=List.cons.inj (List.cons.inj i1.2).2
  have i3:=List.cons.inj i2.2
  have et:=qf hm.t0 hm.t1 hx.t0 hx.t1 i2.1 i3.1
  have ed:=lX (by have:=hm.d1; omega) (by have:=hm.d5; omega) (by have:=hx.d1; omega) (by have:=hx.d5; omega) i1.1
  exact xA (by rw [hm.ft,hx.ft,et]) et (hm.aI.trans hx.aI.symm) (by have:=hm.d1; have:=hx.d1; omega) (hm.bh.trans hx.bh.symm)
theorem KU {c d:List UInt8} (hc:Ch c) (hd:Ch d) (hm:zh p m) (hx:zh p x) (e:aW p m c=aW p x d):bu p m=bu p x∧m.to=x.to∧gX p m=gX p x∧c=d:=by
  rw [hm.h,hx.h] at e
  have i1:=List.cons.inj e
  have ek:=lX (by have:=hm.k2; omega) (by have:=hm.k6; omega) (by have:=hx.k2; omega) (by have:=hx.k6; omega) i1.1
  have i2:=i1.2
  rw [← List.append_assoc,← List.append_assoc] at i2
  obtain ⟨j1,j2⟩:=List.append_inj' i2 rfl
  have j3:=List.cons.inj j2
  have et:=qf hm.t0 hm.t1 hx.t0 hx.t1 j3.1 (List.cons.inj j3.2).1
  refine ⟨by have:=hm.k2; have:=hx.k2; omega,et,?_⟩
  have in120:∀ {l:List UInt8},Ch l→∀ {r:List UInt8},l=r++[120]→False:=fun {l} hl {r} e=>(hl 120 (by rw [e]; simp)).1 rfl
  revert j1
  cases gX p m <;> cases gX p x <;> intro j1
  · exact ⟨rfl,by simpa using j1⟩
  · exact (in120 hc (by simpa using j1)).elim
  · exact (in120 hd (by simpa using j1.symm)).elim
  · exact ⟨rfl,by simpa using j1⟩
theorem A9 {c d:List UInt8} (hp:aR p) (hm:m ∈ ae p) (hx:x ∈ ae p) (hc:Ch c) (hd:Ch d) (e:aW p m c=aW p x d) :
    m=x∨(zh p m∧zh p x∧bu p m=bu p x∧m.to=x.to∧gX p m=gX p x∧c=d):=by
  rcases mf hp hm with a | a | ⟨f,t,a⟩ | a <;> rcases mf hp hx with b | b | ⟨g,u,b⟩ | b
  · refine .inl (Hl hp a.mem b.mem ?_)
    rw [a.h,b.h] at e
    by_cases h1:m.to > m.aw <;> by_cases h2:x.to > x.aw
    · exact ⟨fun _=>h2,fun _=>h1⟩
    · rw [decide_eq_true h1,decide_eq_false h2] at e; exact absurd e (by decide)
    · rw [decide_eq_false h1,decide_eq_true h2] at e; exact absurd e (by decide)
    · exact ⟨fun h=>absurd h h1,fun h=>absurd h h2⟩
  · exact (Ay a (.inl b) e).elim
  · exact (Ay a (.inr (.inl ⟨_,_,b⟩)) e).elim
  · exact (Ay a (.inr (.inr b)) e).elim
  · exact (Ay b (.inl a) e.symm).elim
  · exact .inl (RM a b e)
  · exact (Fi hd a (.inl ⟨_,_,b⟩) e).elim
  · exact (Fi hd a (.inr b) e).elim
  · exact (Ay b (.inr (.inl ⟨_,_,a⟩)) e.symm).elim
  · exact (Fi hc b (.inl ⟨_,_,a⟩) e.symm).elim
  · exact .inl (Q3 a b e)
  · exact (Qp a b e).elim
  · exact (Ay b (.inr (.inr a)) e.symm).elim
  · exact (Fi hc b (.inr a) e.symm).elim
  · exact (Qp b a e.symm).elim
  · exact .inr ⟨a,b,KU hc hd a b e⟩
end Kz
end
section
namespace Kz
open Go Go.RowKit Go.Proofs
set_option maxRecDepth 100000
variable {p:Pos} {m:Mv} {l:List Mv}
structure Rel (p:Pos) (m x:Mv):Prop where
  pl:Gg x=true
  tq:x.to=m.to
  aw:x.aw≠m.aw
  kd:bu p x=bu p m
def Told (p:Pos) (m x:Mv) (a b c:Bool):Prop:=Rel p m x→a=true∧(x.aw.tmod 8=m.aw.tmod 8→b=true)∧(x.aw.tdiv 8=m.aw.tdiv 8→c=true)
theorem wX (hp:aR p) (hl:l.length≤1000000) (hm:iV m) (hx:∀ x ∈ l,iV x):∃ r,eY l (Int.ofNat l.length) p m (false,false,false,0)=some r∧∀ j:Nat,j < l.length→Told p m (l.getD j default) r.1 r.2.1 r.2.2.1:=by
  refine b7 (I:=fun x:Bool×Bool×Bool×Int=>0≤x.2.2.2∧x.2.2.2≤(l.length:Int)∧∀ j:Nat,(j:Int) < x.2.2.2→Told p m (l.getD j default) x.1 x.2.1 x.2.2.1) (Q:=fun r:Bool×Bool×Bool×Int×Bool => ∀ j:Nat,j < l.length→Told p m (l.getD j default) r.1 r.2.1 r.2.2.1) (μ:=fun x=>((l.length:Int) - x.2.2.2).toNat) ?_ _ ⟨Int.le_refl _,by dsimp only; omega,fun j hj=>by dsimp only at hj; omega⟩ (by dsimp only; omega)
  rintro ⟨a,b,c,i⟩ ⟨h0,h1,hI⟩
  dsimp only at h0 h1 hI
  unfold sQ yy
  dsimp only
  by_cases hi:i < Int.ofNat l.length
  · have hi':i < (l.length:Int):=hi
    have hin:=hx _ (cF (l:=l) (i:=i.toNat) (d:=default) (by omega))
    have o1:=(w8 (p:=p) hp hin.f0 hin.f1).1
    have o2:=(w8 (p:=p) hp hm.f0 hm.f1).1
    have wi:wr .i64 (i+1)=i+1:=cp (by omega) (by omega)
    have g:∀ a' b' c':Bool,(a=true→a'=true)→(b=true→b'=true)→(c=true→c'=true)→Told p m (l.getD i.toNat default) a' b' c' →
        vO (fun x:Bool×Bool×Bool×Int=>0≤x.2.2.2∧x.2.2.2≤(l.length:Int)∧∀ j:Nat,(j:Int) < x.2.2.2→Told p m (l.getD j default) x.1 x.2.1 x.2.2.1) (fun r:Bool×Bool×Bool×Int×Bool => ∀ j:Nat,j < l.length→Told p m (l.getD j default) r.1 r.2.1 r.2.2.1) (fun x=>((l.length:Int) - x.2.2.2).toNat) ((l.length:Int) - i).toNat (.go (a',b',c',wr .i64 (i+1)):bA (Bool×Bool×Bool×Int) (Bool×Bool×Bool×Int×Bool)):=fun a' b' c' ha hb hc ht=>by
      rw [wi]
      refine ⟨⟨by dsimp only; omega,by dsimp only; omega,fun j hj => ?_⟩,by dsimp only; omega⟩
      dsimp only at hj ⊢
      by_cases e:(j:Int)=i
      · rw [show j=i.toNat by omega]
        exact ht
      · intro hr
        obtain ⟨q1,q2,q3⟩:=hI j (by omega) hr
        exact ⟨ha q1,fun h=>hb (q2 h),fun h=>hc (q3 h)⟩
    rw [decide_eq_true hi,decide_eq_true h0]
    generalize l.getD i.toNat default=x at hin o1 g
    rw [o1,o2]
    refine ⟨ar rfl fun _=>ay (fun _=>rfl) fun _=>ay (fun _=>rfl) fun _=>ay (fun _=>rfl) fun _=>ay (fun _=>rfl) fun _=>rfl,?_⟩
    rw [cond_true]
    have skip:=fun h:¬ Rel p m x=>g a b c id id id fun r=>absurd r h
    have ci:=fun {d:Bool} {q r:bA (Bool×Bool×Bool×Int) (Bool×Bool×Bool×Int×Bool)} => @az _ (vO (fun x:Bool×Bool×Bool×Int=>0≤x.2.2.2∧x.2.2.2≤(l.length:Int)∧∀ j:Nat,(j:Int) < x.2.2.2→Told p m (l.getD j default) x.1 x.2.1 x.2.2.1) (fun r:Bool×Bool×Bool×Int×Bool => ∀ j:Nat,j < l.length→Told p m (l.getD j default) r.1 r.2.1 r.2.2.1) (fun x=>((l.length:Int) - x.2.2.2).toNat) ((l.length:Int) - i).toNat) d q r
    refine ci (fun h=>skip fun r => ?_) fun _=>ci (fun h=>skip fun r => ?_) fun _=>ci (fun h=>skip fun r => ?_) fun _=>ci (fun h=>skip fun r => ?_) fun _=>ci (fun h=>skip fun r => ?_) fun _ => ?_
    · have h:(x.aw==m.aw&&(x.to==m.to&&(x.aI==m.aI&&(x.aM==m.aM&&(x.bh==m.bh&&true)))))=true:=h
      rw [Bool.and_eq_true,beq_iff_eq] at h
      exact r.aw h.1
    · rw [r.pl] at h
      cases h
    · rw [r.tq] at h
      simp at h
    · exact r.aw (by simpa using h)
    · rw [r.kd] at h
      simp at h
    · have e1:x.aw.tmod 8=m.aw.tmod 8→(x.aw.tmod 8==m.aw.tmod 8)=true:=fun h=>by simpa using h
      have e2:x.aw.tdiv 8=m.aw.tdiv 8→(wr .i8 (x.aw.tdiv 8)==wr .i8 (m.aw.tdiv 8))=true:=fun h=>by rw [h]; simp
      refine ci (fun hb=>ci (fun hc => ?_) fun hc => ?_) fun hb=>ci (fun hc => ?_) fun hc => ?_
      · exact g true true true (fun _=>rfl) (fun _=>rfl) (fun _=>rfl) fun _=>⟨rfl,fun _=>rfl,fun _=>rfl⟩
      · exact g true true _ (fun _=>rfl) (fun _=>rfl) (fun h=>by rw [hc] at h; cases h) fun _=>⟨rfl,fun _=>rfl,e2⟩
      · exact g true _ true (fun _=>rfl) (fun h=>by rw [hb] at h; cases h) (fun _=>rfl) fun _=>⟨rfl,e1,fun _=>rfl⟩
      · exact g true _ _ (fun _=>rfl) (fun h=>by rw [hb] at h; cases h) (fun h=>by rw [hc] at h; cases h) fun _=>⟨rfl,e1,e2⟩
  · rw [decide_eq_false hi]
    refine ⟨rfl,fun j hj => ?_⟩
    exact hI j (by have:¬ i < (l.length:Int):=hi; omega)
variable {p:Pos} {m x:Mv}
theorem Zu (hm:iV m):wh m 1=[fl m.aw]:=by
  unfold wh
  rw [pq hm.f0 hm.f1]
  rfl
theorem Zq (hm:iV m):wh m 2=[rk m.aw]:=by
  unfold wh
  rw [pq hm.f0 hm.f1]
  rfl
theorem S3 (hm:iV m) {j:Int} (h0:j≠0) (h1:j≠1) (h2:j≠2):wh m j=[fl m.aw,rk m.aw]:=by
  unfold wh
  rw [pq hm.f0 hm.f1,show (j==0)=false by simpa using h0,show (j==1)=false by simpa using h1,show (j==2)=false by simpa using h2]
  rfl
theorem vA (hm:iV m) (j:Int):(j=0∧wh m j=[])∨(j=1∧wh m j=[fl m.aw])∨(j=2∧wh m j=[rk m.aw])∨(wh m j=[fl m.aw,rk m.aw]):=by
  by_cases h0:j=0
  · subst h0; exact .inl ⟨rfl,rfl⟩
  · by_cases h1:j=1
    · subst h1; exact .inr (.inl ⟨rfl,Zu hm⟩)
    · by_cases h2:j=2
      · subst h2; exact .inr (.inr (.inl ⟨rfl,Zq hm⟩))
      · exact .inr (.inr (.inr (S3 hm h0 h1 h2)))
theorem zx (hm:iV m) (j:Int):Ch (wh m j):=by
  have a:(fl m.aw).toNat≠120∧(fl m.aw).toNat≠64:=by rw [mP]; omega
  have b:(rk m.aw).toNat≠120∧(rk m.aw).toNat≠64:=by
    have:=hm.f0
    have:=hm.f1
    rw [wC hm.f1]
    omega
  rcases vA hm j with ⟨_,e⟩ | ⟨_,e⟩ | ⟨_,e⟩ | e <;> rw [e] <;> intro z hz <;> simp at hz
  · rw [hz]; exact a
  · rw [hz]; exact b
  · rcases hz with rfl | rfl
    · exact a
    · exact b
theorem vR (hp:aR p) {l:List Mv} (hl:l.length≤1000000) (hm:iV m) (hx:∀ x ∈ l,iV x):∃ n:Int,oC p m l=wh m n∧(n=0∨n=1∨n=2∨n=3)∧∀ x ∈ l,Rel p m x→n≠0∧(n=1→x.aw.tmod 8≠m.aw.tmod 8)∧(n=2→x.aw.tdiv 8≠m.aw.tdiv 8):=by
  obtain ⟨r,e,h⟩:=wX (p:=p) hp hl hm hx
  have h:∀ x ∈ l,Told p m x r.1 r.2.1 r.2.2.1:=fun x hx=>by
    obtain ⟨j,hj,rfl⟩:=List.getElem_of_mem hx
    have:=h j hj
    rwa [List.getD_eq_getElem?_getD,List.getElem?_eq_getElem hj] at this
  unfold oC
  rw [e]
  show ∃ n:Int,(bif !r.1 then [] else bif !r.2.1 then _ else bif !r.2.2.1 then _ else _)=_∧_
  cases h1:r.1 with
  | false =>
    refine ⟨0,rfl,.inl rfl,fun x hx hr => ?_⟩
    have:=(h x hx hr).1
    rw [h1] at this
    cases this
  | true =>
    cases h2:r.2.1 with
    | false =>
      refine ⟨1,rfl,.inr (.inl rfl),fun x hx hr=>⟨by decide,fun _ ef => ?_,fun h=>absurd h (by decide)⟩⟩
      have:=(h x hx hr).2.1 ef
      rw [h2] at this
      cases this
    | true =>
      cases h3:r.2.2.1 with
      | false =>
        refine ⟨2,rfl,.inr (.inr (.inl rfl)),fun x hx hr=>⟨by decide,fun h=>absurd h (by decide),fun _ ef => ?_⟩⟩
        have:=(h x hx hr).2.2 ef
        rw [h3] at this
        cases this
      | true=>exact ⟨3,rfl,.inr (.inr (.inr rfl)),fun x hx hr=>⟨by decide,fun h=>absurd h (by decide),fun h=>absurd h (by decide)⟩⟩
theorem Po (hm:zh p m) (hx:zh p x) (h1:m.aw=x.aw) (h2:m.to=x.to):m=x :=
  xA h1 h2 (hm.aI.trans hx.aI.symm) (hm.aM.trans hx.aM.symm) (hm.bh.trans hx.bh.symm)
theorem ZD {a b:Int} (hb:b < 64):fl a≠rk b:=fun e=>by
  have:=congrArg UInt8.toNat e
  rw [mP,wC hb] at this
  omega
theorem AZ (hp:aR p) (hm:m ∈ ae p) (hx:x ∈ ae p) (j:Int) (e:aW p m (oC p m (ae p))=aW p x (wh x j)):m=x:=by
  have am:=(cm hp hm).1
  have ax:=(cm hp hx).1
  have hl:=dV hp
  obtain ⟨n,en,hn,ht⟩:=vR (p:=p) (m:=m) hp (l:=ae p) (by omega) am fun x hx=>(cm hp hx).1
  rw [en] at e
  rcases A9 hp hm hx (zx am n) (zx ax j) e with h | ⟨km,kx,e1,e2,_,e3⟩
  · exact h
  · by_cases hf:x.aw=m.aw
    · exact Po km kx hf.symm e2
    · have hr:Rel p m x:=⟨by unfold Gg; rw [kx.aM,kx.bh]; rfl,e2.symm,hf,e1.symm⟩
      obtain ⟨t0,t1,t2⟩:=ht x hx hr
      have f0:=am.f0
      have g0:=ax.f0
      rcases hn with rfl | rfl | rfl | rfl
      · exact absurd rfl t0
      · have t1:=t1 rfl
        rw [Zu am] at e3
        rcases vA ax j with ⟨_,w⟩ | ⟨_,w⟩ | ⟨_,w⟩ | w <;> rw [w] at e3
        · cases e3
        · have:=congrArg UInt8.toNat (List.cons.inj e3).1
          rw [mP,mP] at this
          rw [Int.tmod_eq_emod_of_nonneg g0,Int.tmod_eq_emod_of_nonneg f0] at t1
          omega
        · exact absurd (List.cons.inj e3).1 (ZD ax.f1)
        · cases (List.cons.inj e3).2
      · have t2:=t2 rfl
        rw [Zq am] at e3
        rcases vA ax j with ⟨_,w⟩ | ⟨_,w⟩ | ⟨_,w⟩ | w <;> rw [w] at e3
        · cases e3
        · exact absurd (List.cons.inj e3).1.symm (ZD am.f1)
        · have:=congrArg UInt8.toNat (List.cons.inj e3).1
          rw [wC am.f1,wC ax.f1] at this
          rw [Int.tdiv_eq_ediv_of_nonneg g0,Int.tdiv_eq_ediv_of_nonneg f0] at t2
          omega
        · cases (List.cons.inj e3).2
      · rw [S3 am (by decide) (by decide) (by decide)] at e3
        rcases vA ax j with ⟨_,w⟩ | ⟨_,w⟩ | ⟨_,w⟩ | w <;> rw [w] at e3
        · cases e3
        · cases (List.cons.inj e3).2
        · cases (List.cons.inj e3).2
        · have:=qf am.f0 am.f1 ax.f0 ax.f1 (List.cons.inj e3).1 (List.cons.inj (List.cons.inj e3).2).1
          exact absurd this.symm hf
variable {p:Pos} {m x:Mv}
theorem oP {h:List UInt8} {z a:UInt8} {l:List UInt8} (hz:jg z) (e:h++[z]=l++[a]) (ha:a=43∨a=35):False:=by
  obtain ⟨_,e2⟩:=List.append_inj' e rfl
  have e3:=(List.cons.inj e2).1
  subst e3
  unfold jg at hz
  rcases ha with rfl | rfl
  · have h43:(43:UInt8).toNat=43:=rfl
    omega
  · have h35:(35:UInt8).toNat=35:=rfl
    omega
theorem ql {a b e d:List UInt8} (ha:∃ h z,a=h++[z]∧jg z) (hb:∃ h z,b=h++[z]∧jg z) (he:uf e) (hd:uf d) (h:a++e=b++d):a=b:=by
  obtain ⟨f,y,ea,hy⟩:=ha
  obtain ⟨g,z,eb,hz⟩:=hb
  rcases he with rfl | rfl | rfl <;> rcases hd with rfl | rfl | rfl
  · simpa using h
  · rw [ea,List.append_nil] at h
    exact (oP hy h (.inl rfl)).elim
  · rw [ea,List.append_nil] at h
    exact (oP hy h (.inr rfl)).elim
  · rw [eb,List.append_nil] at h
    exact (oP hz h.symm (.inl rfl)).elim
  · exact (List.append_inj' h rfl).1
  · exact (List.append_inj' h rfl).1
  · rw [eb,List.append_nil] at h
    exact (oP hz h.symm (.inr rfl)).elim
  · exact (List.append_inj' h rfl).1
  · exact (List.append_inj' h rfl).1
theorem pC (hp:aR p) (hm:iV m) {c:List UInt8} (hc:c.length≤2):∃ h z,aW p m c=h++[z]∧jg z:=by
  obtain ⟨h,z,e,_,_,hz⟩:=il hp hm hc
  exact ⟨h,z,e,hz⟩
theorem qo (hp:aR p) (hx:x ∈ ae p) {a e:List UInt8} (ha:∃ h z,a=h++[z]∧jg z) (he:uf e) (h:bT p x (a++e)=true):∃ j,a=aW p x (wh x j):=by
  obtain ⟨ax,_,b⟩:=cm hp hx
  have mk:=(jU hp b).2
  have one:∀ j,fm p x (a++e) j=true→a=aW p x (wh x j):=fun j hj=>by
    have hb:=pC (p:=p) hp ax (xp ax j)
    unfold fm at hj
    rw [Bool.or_eq_true,beq_iff_eq,beq_iff_eq] at hj
    rcases hj with hj | hj
    · exact ql ha hb he (.inl rfl) (by rw [← hj,List.append_nil])
    · exact ql ha hb he mk hj.symm
  unfold bT at h
  simp only [Bool.or_eq_true] at h
  rcases h with h | h | h | h
  · exact ⟨_,one _ h⟩
  · exact ⟨_,one _ h⟩
  · exact ⟨_,one _ h⟩
  · exact ⟨_,one _ h⟩
theorem mY {t:List UInt8} {j:Int} (hj:j=0∨j=1∨j=2∨j=3) (h:fm p x t j=true):bT p x t=true:=by
  unfold bT
  simp only [Bool.or_eq_true]
  rcases hj with rfl | rfl | rfl | rfl
  · exact .inl h
  · exact .inr (.inl h)
  · exact .inr (.inr (.inl h))
  · exact .inr (.inr (.inr h))
theorem vU (hp:aR p) (hm:m ∈ ae p):bT p m (aW p m (oC p m (ae p)))=true∧bT p m (aW p m (oC p m (ae p))++nK p m)=true:=by
  have am:=(cm hp hm).1
  have hl:=dV hp
  obtain ⟨n,en,hn,_⟩:=vR (p:=p) (m:=m) hp (l:=ae p) (by omega) am fun x hx=>(cm hp hx).1
  rw [en]
  exact ⟨mY hn (by unfold fm; rw [show (aW p m (wh m n)==aW p m (wh m n))=true by simp]; rfl),mY hn (by unfold fm; rw [show (aW p m (wh m n)++nK p m==aW p m (wh m n)++nK p m)=true by simp,Bool.or_true])⟩
theorem filter_one {α:Type} {l:List α} {f:α→Bool} {a:α} (h:l.Pairwise (·≠·)) (ha:a ∈ l) (fa:f a=true) (hf:∀ x ∈ l,f x=true→x=a):l.filter f=[a]:=by
  induction l with
  | nil=>cases ha
  | cons y l ih =>
    obtain ⟨h1,h2⟩:=List.pairwise_cons.1 h
    by_cases e:y=a
    · subst e
      rw [List.filter_cons_of_pos fa]
      congr 1
      rw [List.filter_eq_nil_iff]
      intro x hx hfx
      exact h1 x hx (hf x (by simp [hx]) hfx).symm
    · have:f y≠true:=fun h=>e (hf y (by simp) h)
      rw [List.filter_cons_of_neg this]
      exact ih h2 ((List.mem_cons.1 ha).resolve_left (Ne.symm e)) fun x hx=>hf x (by simp [hx])
theorem Cr (hp:aR p) (hm:m ∈ ae p):(ae p).filter (bT p · (aW p m (oC p m (ae p))++nK p m))=[m]:=by
  obtain ⟨am,_,b⟩:=cm hp hm
  have mk:=(jU hp b).2
  refine filter_one (xY hp) hm (vU hp hm).2 fun x hx h => ?_
  obtain ⟨j,e⟩:=qo hp hx (pC hp am (pH hp hm).2.2) mk h
  exact (AZ hp hm hx j e).symm
theorem mS (hp:aR p) (hm:m ∈ ae p):(aW p m (oC p m (ae p))++nK p m).length≤12∧2≤(aW p m (oC p m (ae p))).length∧(aW p m (oC p m (ae p))).length≤11:=by
  obtain ⟨am,_,b⟩:=cm hp hm
  have mk:=(jU hp b).2
  obtain ⟨h,z,e,h1,h2,_⟩:=il hp am (pH hp hm).2.2
  rw [e]
  rcases mk with e | e | e <;> rw [e] <;> simp <;> omega
theorem lC (hp:aR p) (hm:m ∈ ae p):aX p (aD p m)=(m,0):=by
  rw [((cK hp m).2.2.2.2.1 hm).1,(gq hp _).2,Cr hp hm,decide_eq_false (by have:=(mS hp hm).1; show ¬ ((List.length _:Nat):Int) > 20; omega)]
  rfl
theorem Mp (hp:aR p) (hm:m ∈ ae p) (hx:x ∈ ae p) (h:aD p m=aD p x):m=x:=by
  have a:=lC hp hm
  rw [h,lC hp hx] at a
  exact (congrArg Prod.fst a).symm
end Kz
end
section
namespace Kz
open Go Go.RowKit Go.Proofs
set_option maxRecDepth 100000
set_option maxHeartbeats 4000000
noncomputable def ZO:List (Nat×Nat×List (Nat×List Nat)):=[(11,24,[(0,[1]),(1,[1,3]),(2,[1,3,4]),(3,[1,3,4,9,10,11]),(4,(1::3::4::(rn 9 4 []))),(5,[1,3,4,6,9,10,11]),(6,[1,3,4,9,10,11]),(7,[1,3,4,9,10,11]),(8,[2])])]
noncomputable def Rm:aC:=au Pz (fun f i=>bI f i ZO) [(20,zT),(24,SX)] [] []
theorem K3:bD Rm:=ao al ⟨AQ,Tl,trivial⟩ trivial trivial
noncomputable def IM (p1:(List Mv)) (p2:(List Mv)) (p3:Int) (p4:Pos) (p5:Nat) (x:((List (List UInt8))×Int)):St:=St.mk (AV.any::AV.ptr 0 0::AV.any::AV.list ET.mv p1 Tk.fresh::AV.list ET.str x.fst (Tk.own 1)::(an 4 (AV.list ET.mv p2 Tk.fresh::AV.int .i64 p3::AV.int .i64 x.snd::(an 12 [])))) (Hp.mk [(pc p4 [])] [p5,x.fst.length] [] 0 0 0)
noncomputable def IT (p1:(List Mv)) (p2:(List Mv)) (p3:Int) (p4:Pos) (p5:Nat):((List (List UInt8))×Int×Bool)→Out:=fun y=>.exit 0 (St.mk (AV.any::AV.ptr 0 0::AV.any::AV.list ET.mv p1 Tk.fresh::AV.list ET.str y.fst (Tk.own 1)::(an 4 (AV.list ET.mv p2 Tk.fresh::AV.int .i64 p3::AV.int .i64 y.snd.fst::AV.bool y.snd.snd::(an 11 [])))) (Hp.mk [(pc p4 [])] [p5,y.fst.length] [] 0 0 0))
noncomputable def Bl (p1:(List Mv)) (p2:(List Mv)) (p3:Int) (p4:Pos) (p5:Nat) (x:((List (List UInt8))×Int)):bA ((List (List UInt8))×Int) (((List (List UInt8))×Int×Bool)):=(bif decide (x.snd < p3) then (bA.go (x.fst++[No p4 (p2.getD x.snd.toNat default) p1],wr .i64 (x.snd+1))) else (bA.out ((x.fst,x.snd,decide (x.snd < p3)))))
noncomputable def yR (p1:(List Mv)) (p2:(List Mv)) (p3:Int) (p4:Pos) (p5:Nat) (x:((List (List UInt8))×Int)):Bool:=(bif decide (x.snd < p3) then (decide (0≤x.snd)&&decide (x.snd < Int.ofNat p2.length)&&(A5 p4 (p2.getD x.snd.toNat default) p1&&(x.fst.length==x.fst.length&&decide (x.fst.length+1≤1073741824)&&true))) else true)
noncomputable def pP (p1:(List Mv)) (p2:(List Mv)) (p3:Int) (p4:Pos) (p5:Nat) (x:((List (List UInt8))×Int)):Option (((List (List UInt8))×Int×Bool)):=fY (fun x=>bif yR p1 p2 p3 p4 p5 x then Bl p1 p2 p3 p4 p5 x else .bad) many x
abbrev IL {α:Type} (k:(List Mv)→(List Mv)→Int→Pos→Nat→((List (List UInt8))×Int)→α) (s:St):α:=wP s 0 fun q0=>k (tL (ET.mv) (tT s 3)) (tL (ET.mv) (tT s 9)) (tI (tT s 10)) q0 (tK s 0) ((tL (ET.str) (tT s 4)),(tI (tT s 11)))
theorem Qn (p1:(List Mv)) (p2:(List Mv)) (p3:Int) (p4:Pos) (p5:Nat) (x:((List (List UInt8))×Int)) (r:((List (List UInt8))×Int×Bool)) (h:pP p1 p2 p3 p4 p5 x=some r):aF Pz (bW Pz 11 4) (IM p1 p2 p3 p4 p5 x) (IT p1 p2 p3 p4 p5 r):=aF.kR (m:=12) (fn:=11) K3 (IL fun _ _ _ _ _ x=>some x) (fun o=>match o with | .exit 0 s=>some ((tL ET.str (tT s 4)),(tI (tT s 11)),(tB (tT s 12))) | _=>none) (fun _=>rfl) (fun _=>by kernel_rfl) (fun _=>by kernel_rfl) (fun _=>by kernel_rfl) (fun _=>by kernel_rfl) many x r h
noncomputable def I4 (b:Code) (s:St):Tr Out:=IL (fun p1 p2 p3 p4 p5 x=>qN b (bW Pz 11 4) s (IM p1 p2 p3 p4 p5 x) (pP p1 p2 p3 p4 p5 x) (IT p1 p2 p3 p4 p5)) s
theorem Lh:∀ b,bJ Pz b (I4 b):=fun _ _ _ h=>cN (Qn _ _ _ _ _ _) h
noncomputable def B11:aC:=au Pz (fun f i=>bI f i ZO) [(20,zT),(24,SX)] [(11,4,I4)] []
theorem Y0:bD B11:=ao al ⟨AQ,Tl,trivial⟩ ⟨Lh,trivial⟩ trivial
noncomputable def Hb (a:Pos):List (List UInt8):=(((pP (ae a) (ae a) (Int.ofNat (ae a).length) a 0 ([],0)).getD default).fst)
noncomputable def EK (a:Pos):Bool:=(kI a&&((pP (ae a) (ae a) (Int.ofNat (ae a).length) a 0 ([],0)).isSome&&true))
theorem P11 (a:Pos) (h:EK a=true):PS Pz 11 [Pos.av a] ((dL .str).res (Hb a)):=aA (n:=14) Y0 (by kernel_rfl) (by kernel_rfl) (by kernel_rfl) h
noncomputable def SJ:List AV→Tr AV:=g1 bH (fun a=>cE (EK a) ((dL .str).res (Hb a)))
theorem Wf:Sound Pz 11 SJ:=aS fun a=>aJ (P11 a)
end Kz
end
