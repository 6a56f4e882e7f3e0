/- Part 6 of the texts under the proof: an abstract interpreter,the summaries of functions,plain laws. -/
import Derived.Test.YteikjjgonhlndaaGreatDoorP5
import Derived.Deep.RegionWith
set_option linter.unusedSectionVars false
set_option linter.unusedVariables false
set_option linter.unusedSimpArgs false
set_option linter.unnecessarySimpa false
section
namespace Kz
open Go
set_option maxRecDepth 100000
section
variable {p:Pos} (hp:PosIn p)
include hp
theorem N149_mem (ht:p.turn≤1) {b c:Int} (hb0:0≤b) (hb1:b < 64):(N149 p b c).2=true→(N149 p b c).1.frm=b∧0≤(N149 p b c).1.to∧(N149 p b c).1.to < 64∧(N149 p b c).1.cas=true∧(N149 p b c).1.drp=0∧(N149 p b c).1.pro=0∧(N149 p b c).1.to=(N181 p b c).1∧(N181 p b c).2=true:=by
  have hr:=N181_in hp ht (b:=b) (c:=c)
  have wb:wr .i8 b=b:=wi8 (by omega) (by omega)
  have wr':wr .i8 (N181 p b c).1=(N181 p b c).1:=wi8 (by omega) (by omega)
  have ci:=fun {d:Bool} {x y:Mv×Bool} => @c_ind (Mv×Bool) (fun x=>x.2=true→x.1.frm=b∧0≤x.1.to∧x.1.to < 64∧x.1.cas=true∧x.1.drp=0∧x.1.pro=0∧x.1.to=(N181 p b c).1∧(N181 p b c).2=true) d x y
  show (fun x:Mv×Bool=>x.2=true→x.1.frm=b∧0≤x.1.to∧x.1.to < 64∧x.1.cas=true∧x.1.drp=0∧x.1.pro=0∧x.1.to=(N181 p b c).1∧(N181 p b c).2=true) (N149 p b c)
  unfold N149
  rw [wb,wr']
  refine ci (fun _ h=>by cases h) fun h1=>ci (fun _ h=>by cases h) fun _=>ci (fun _ h=>by cases h) fun _=>ci (fun _ h=>by cases h) fun _ _ => ?_
  exact ⟨rfl,hr.1,hr.2,rfl,rfl,rfl,rfl,by simpa using h1⟩
theorem N97_len:(N97 p).length≤2:=by
  unfold N97
  repeat' (first | exact Nat.zero_le _ | (simp; done) | refine c_ind (P:=fun l:List Mv=>l.length≤2) (fun _ => ?_) (fun _ => ?_))
theorem N97_mem {m:Mv} (h:m ∈ N97 p):p.turn≤1∧0≤m.frm∧m.frm < 64∧0≤m.to∧m.to < 64∧m.cas=true∧m.drp=0∧m.pro=0:=by
  revert h
  unfold N97
  have hk:=N106_lo p p.turn 6
  refine c_ind (P:=fun l:List Mv=>m ∈ l→_) (fun _ h=>by cases h) fun h => ?_
  have ht:p.turn≤1:=by simpa using h
  refine c_ind (P:=fun l:List Mv=>m ∈ l→_) (fun _ h=>by cases h) fun _=>c_ind (P:=fun l:List Mv=>m ∈ l→_) (fun _ h=>by cases h) fun hk0=>c_ind (P:=fun l:List Mv=>m ∈ l→_) (fun _ h=>by cases h) fun _ => ?_
  have hk0:0≤N106 p p.turn 6:=by simpa using hk0
  have key:∀ c,(N149 p (N106 p p.turn 6) c).2=true→m=(N149 p (N106 p p.turn 6) c).1→p.turn≤1∧0≤m.frm∧m.frm < 64∧0≤m.to∧m.to < 64∧m.cas=true∧m.drp=0∧m.pro=0:=by
    intro c h1 h2
    obtain ⟨a1,a2,a3,a4,a5,a6,_⟩:=N149_mem hp ht hk0 hk.2 h1
    rw [h2]
    exact ⟨ht,by omega,by omega,a2,a3,a4,a5,a6⟩
  refine c_ind (P:=fun l:List Mv=>m ∈ l→_) (fun h1=>c_ind (P:=fun l:List Mv=>m ∈ l→_) (fun h2 h => ?_) fun _ h => ?_) fun _=>c_ind (P:=fun l:List Mv=>m ∈ l→_) (fun h2 h => ?_) fun _ h=>by cases h
  · simp only [List.nil_append,List.mem_append,List.mem_singleton] at h
    rcases h with h | h
    · exact key _ h1 h
    · exact key _ h2 h
  · simp only [List.nil_append,List.mem_singleton] at h
    exact key _ h1 h
  · simp only [List.nil_append,List.mem_singleton] at h
    exact key _ h2 h
end
theorem lp98a (k p2:Int) (l:List Int) (p5:Pos) (p6:Nat) (out:List Mv) (hl:l.length≤64) (hin:∀ s ∈ l,0≤s∧s < 64) (ho:out.length≤1000000) :
    ∃ r,lp98_2 k p2 l (Int.ofNat l.length) p5 p6 (out,0)=some r∧r.1=out++l.flatMap fun s=>[⟨s,s,0,k,false⟩]:=by
  refine lp_many (I:=fun x=>0≤x.2∧x.2≤(l.length:Int)∧x.1=out++(l.take x.2.toNat).flatMap (fun s=>[⟨s,s,0,k,false⟩])) (μ:=fun x=>((l.length:Int) - x.2).toNat) ?_ _ ⟨by simp,by simp,by simp⟩ (by simp; omega)
  rintro ⟨o,n⟩ ⟨h0,h1,h2⟩
  simp only at h0 h1 h2
  have hlen:o.length≤out.length+64:=by
    have:=flat_le (l.take n.toNat) (fun s=>[(⟨s,s,0,k,false⟩:Mv)]) 1 fun _ _=>by simp
    have h5:(l.take n.toNat).length≤64:=by rw [List.length_take]; omega
    rw [h2,List.length_append]
    omega
  by_cases hc:n < l.length
  · have hf:=hin _ (getD_mem (d:=default) (show n.toNat < l.length by omega))
    refine ⟨c_true (fun _=>a_true (by simp [h0]; omega) fun _=>a_true (by simp; omega) fun _=>rfl) fun _=>rfl,c_ind (fun _ => ?_) fun h=>absurd h (by simpa using hc)⟩
    have hw:wr .i64 (n+1)=n+1:=wi64 (by omega) (by omega)
    rw [hw,wi8 (n:=l.getD n.toNat default) (by omega) (by omega)]
    refine ⟨⟨by simp; omega,by simp; omega,?_⟩,by simp; omega⟩
    simp only
    rw [show (n+1).toNat=n.toNat+1 by omega,take_next default _ (by omega),h2,List.append_assoc]
  · refine ⟨c_true (fun h=>absurd h (by simpa using hc)) fun _=>rfl,c_ind (fun h=>absurd h (by simpa using hc)) fun _ => ?_⟩
    show o=_
    rw [h2,List.take_of_length_le (by omega)]
noncomputable def drops (p:Pos) (k:Int):List Mv :=
  bif p.pockets.getD (scale 6 p.turn+scale 1 k).toNat 0==0 then [] else bif k==1 then (sqs (~~~N151 p&&&72057594037927680#64) 64).flatMap fun s=>[⟨s,s,0,k,false⟩] else (sqs (~~~N151 p) 64).flatMap fun s=>[⟨s,s,0,k,false⟩]
theorem drops_len (p:Pos) (k:Int):(drops p k).length≤64:=by
  unfold drops
  refine c_ind (P:=fun l:List Mv=>l.length≤64) (fun _=>by simp) fun _=>c_ind (P:=fun l:List Mv=>l.length≤64) (fun _ => ?_) fun _ => ?_
  · have:=sqs_len (~~~N151 p&&&72057594037927680#64) 64
    have h2:=flat_le (sqs (~~~N151 p&&&72057594037927680#64) 64) (fun s=>[(⟨s,s,0,k,false⟩:Mv)]) 1 fun _ _=>by simp
    omega
  · have:=sqs_len (~~~N151 p) 64
    have h2:=flat_le (sqs (~~~N151 p) 64) (fun s=>[(⟨s,s,0,k,false⟩:Mv)]) 1 fun _ _=>by simp
    omega
theorem lp98b {p:Pos} (h0:0≤p.turn) (h1:p.turn≤1):∃ r,lp98_3 p 0 ([],0)=some r∧r.1=[1,2,3,4,5].flatMap (drops p):=by
  refine lp_many (I:=fun x=>0≤x.2∧x.2≤5∧x.1=(([1,2,3,4,5]:List Int).take x.2.toNat).flatMap (drops p)∧(x.1.length:Int)≤64 * x.2) (μ:=fun x=>(5 - x.2).toNat) ?_ _ ⟨by simp,by simp,by simp,by simp⟩ (by simp)
  rintro ⟨o,n⟩ ⟨g0,g1,g2,g3⟩
  simp only at g0 g1 g2 g3
  by_cases hc:n < 5
  · have hw:wr .i64 (n+1)=n+1:=wi64 (by omega) (by omega)
    have hw8:wr .u8 (n+1)=n+1:=wu8 (by omega) (by omega)
    have s1:=sqs_len (~~~N151 p&&&72057594037927680#64) 64
    have s2:=sqs_len (~~~N151 p) 64
    have d1:=of_some (lp98a (n+1) n (sqs (~~~N151 p&&&72057594037927680#64) 64) p 0 o s1 (fun _ h=>sqs_in h) (by omega))
    have d2:=of_some (lp98a (n+1) n (sqs (~~~N151 p) 64) p 0 o s2 (fun _ h=>sqs_in h) (by omega))
    have e:([1,2,3,4,5]:List Int).getD n.toNat 0=n+1:=by
      have:n=0∨n=1∨n=2∨n=3∨n=4:=by omega
      rcases this with rfl | rfl | rfl | rfl | rfl <;> rfl
    have hs:Nxt (fun x:List Mv×Int=>0≤x.2∧x.2≤5∧x.1=(([1,2,3,4,5]:List Int).take x.2.toNat).flatMap (drops p)∧x.1.length≤64 * x.2) (fun r:List Mv×Int×Bool=>r.1=[1,2,3,4,5].flatMap (drops p)) (fun x=>(5 - x.2).toNat) (5 - n).toNat (.go (o++drops p (n+1),n+1)):=by
      have hq:=drops_len p (n+1)
      refine ⟨⟨by simp; omega,by simp; omega,?_,?_⟩,by simp; omega⟩
      · simp only
        rw [show (n+1).toNat=n.toNat+1 by omega,take_next 0 _ (by simp; omega),g2,e]
      · simp only [List.length_append]
        omega
    refine ⟨c_true (fun _ => ?_) fun _=>rfl,c_ind (fun _ => ?_) fun h=>absurd h (by simpa using hc)⟩
    · rw [hw,hw8,N65_eq,N65_eq]
      refine a_true (by simp; omega) fun _=>a_true (by simp; omega) fun _=>c_true (fun _=>rfl) fun _=>a_true (t151 _) fun _=>c_true (fun _=>a_true (t65 _) fun _=>a_true d1.1 fun _=>rfl) fun _=>a_true (t65 _) fun _=>a_true d2.1 fun _=>rfl
    · rw [hw,hw8,N65_eq,N65_eq]
      refine c_ind (fun h => ?_) fun h=>c_ind (fun h' => ?_) fun h' => ?_
      · have e:drops p (n+1)=[]:=by unfold drops; rw [h]; rfl
        rw [e,List.append_nil] at hs; exact hs
      · have e:drops p (n+1)=(sqs (~~~N151 p&&&72057594037927680#64) 64).flatMap fun s=>[⟨s,s,0,n+1,false⟩]:=by unfold drops; rw [h,h']; rfl
        rw [e] at hs; rw [d1.2]; exact hs
      · have e:drops p (n+1)=(sqs (~~~N151 p) 64).flatMap fun s=>[⟨s,s,0,n+1,false⟩]:=by unfold drops; rw [h,h']; rfl
        rw [e] at hs; rw [d2.2]; exact hs
  · refine ⟨c_true (fun h=>absurd h (by simpa using hc)) fun _=>rfl,c_ind (fun h=>absurd h (by simpa using hc)) fun _ => ?_⟩
    have:n=5:=by omega
    subst this
    exact g2
theorem t98 {p:Pos} (hv:0≤p.variant) (h0:0≤p.turn):ok98 p=true:=by
  unfold ok98
  refine c_true (fun _=>rfl) fun h=>a_true (t150 hv) fun _=>c_true (fun _=>rfl) fun _=>a_true ?_ fun _=>rfl
  exact (of_some (lp98b h0 (by simpa using h))).1
theorem N98_eq {p:Pos} (h0:0≤p.turn):N98 p=bif decide (p.turn > 1) then [] else bif !N150 p.variant then [] else [1,2,3,4,5].flatMap (drops p):=by
  unfold N98
  by_cases h:p.turn≤1
  · rw [(of_some (lp98b h0 h)).2]
  · rw [show decide (p.turn > 1)=true by simp; omega]; rfl
theorem N98_len {p:Pos} (h0:0≤p.turn):(N98 p).length≤320:=by
  rw [N98_eq h0]
  refine c_ind (P:=fun l:List Mv=>l.length≤320) (fun _=>by simp) fun _=>c_ind (P:=fun l:List Mv=>l.length≤320) (fun _=>by simp) fun _ => ?_
  have:=flat_le [1,2,3,4,5] (drops p) 64 fun k _=>drops_len p k
  simpa using this
theorem N98_mem {p:Pos} (h0:0≤p.turn) {m:Mv} (h:m ∈ N98 p):p.turn≤1∧N150 p.variant=true∧m.frm=m.to∧0≤m.to∧m.to < 64∧m.cas=false∧1≤m.drp∧m.drp≤5∧m.pro=0:=by
  rw [N98_eq h0] at h
  revert h
  refine c_ind (P:=fun l:List Mv=>m ∈ l→_) (fun _ h=>by cases h) fun h1=>c_ind (P:=fun l:List Mv=>m ∈ l→_) (fun _ h=>by cases h) fun h2 h => ?_
  obtain ⟨k,hk,hm⟩:=List.mem_flatMap.1 h
  have hk':1≤k∧k≤5:=by simp at hk; omega
  have key:∀ b:BitVec 64,m ∈ (sqs b 64).flatMap (fun s=>[(⟨s,s,0,k,false⟩:Mv)])→m.frm=m.to∧0≤m.to∧m.to < 64∧m.cas=false∧1≤m.drp∧m.drp≤5∧m.pro=0:=by
    intro b hb
    obtain ⟨s,hs,hm⟩:=List.mem_flatMap.1 hb
    have:=sqs_in hs
    rw [List.mem_singleton.1 hm]
    exact ⟨rfl,this.1,this.2,rfl,hk'.1,hk'.2,rfl⟩
  refine ⟨by simpa using h1,by simpa using h2,?_⟩
  revert hm
  unfold drops
  exact c_ind (P:=fun l:List Mv=>m ∈ l→_) (fun _ h=>by cases h) fun _=>c_ind (P:=fun l:List Mv=>m ∈ l→_) (fun _=>key _) fun _=>key _
theorem N45_eq (p:Pos):N45 p=N90 p++N97 p++N98 p:=by unfold N45; rw [List.nil_append]
theorem N45_len {p:Pos} (hp:PosIn p):(N45 p).length≤20802:=by
  have a:=N90_len hp.v0
  have b:=N97_len hp
  have c:=N98_len hp.t0
  rw [N45_eq,List.length_append,List.length_append]
  omega
theorem t45 {p:Pos} (hp:PosIn p):ok45 p=true:=by
  have a:=N90_len hp.v0
  have b:=N97_len hp
  have c:=N98_len hp.t0
  unfold ok45
  rw [wi64 (n:=0+Int.ofNat (N90 p).length) (by first | omega | (simp; done) | (simp; omega)) (by first | omega | (simp; done) | (simp; omega))]
  rw [wi64 (n:=0+Int.ofNat (N90 p).length+Int.ofNat (N97 p).length) (by first | omega | (simp; done) | (simp; omega)) (by first | omega | (simp; done) | (simp; omega))]
  rw [wi64 (n:=0+Int.ofNat (N90 p).length+Int.ofNat (N97 p).length+Int.ofNat (N98 p).length) (by first | omega | (simp; done) | (simp; omega)) (by first | omega | (simp; done) | (simp; omega))]
  refine a_true (t90 hp.v0) fun _=>a_true (t97 hp) fun _=>a_true (t98 hp.v0 hp.t0) fun _ => ?_
  simp
  omega
theorem pawn_up:∀ f t:Fin 64,(N107 0 f.val).getLsbD t.val=true→8≤t.val:=by decide +kernel
theorem pawn_dn:∀ f t:Fin 64,(N107 1 f.val).getLsbD t.val=true→t.val < 56:=by decide +kernel
theorem one_bit {x:Nat} {i:Nat} (hi:i < 64):(1#64 <<< x).getLsbD i=decide (i=x):=by
  rw [BitVec.getLsbD_shiftLeft,BitVec.getLsbD_one]
  rcases Nat.lt_trichotomy i x with h | rfl | h
  · have:¬ i=x:=by omega
    simp [h,this]
  · simp [hi]
  · have h1:¬ i=x:=by omega
    have h2:¬ i - x=0:=by omega
    simp [h1,h2]
theorem pawn_side {p:Pos} (hp:PosIn p) (ht:p.turn≤1) {x:Pos×BitVec 64×BitVec 64} (hx:x.1=p) {f t:Nat} (hf:f < 64) (h1:t < 64) (hm:(f:Int).tmod 8≠(t:Int).tmod 8) (hb:(N196 x f).getLsbD t=true):(N107 p.turn f).getLsbD t=true:=by
  have h0:=hp.t0
  have hne:f % 8≠t % 8:=by
    intro e
    apply hm
    rw [Int.tmod_eq_emod_of_nonneg (by omega),Int.tmod_eq_emod_of_nonneg (by omega)]
    omega
  have a1:∀ n:Int,(n=f+8∨n=f - 8∨n=f+16∨n=f - 16)→(1#64 <<< (BitVec.ofInt 64 n).toNat).getLsbD t=false:=by
    intro n hn
    rw [one_bit h1]
    simp only [decide_eq_false_iff_not]
    rw [BitVec.toNat_ofInt]
    omega
  have w:∀ s:Int,-100≤s→s≤100→(N92 p.turn s=s+8∨N92 p.turn s=s - 8):=by
    intro s g0 g1
    unfold N92
    rw [wi64 (n:=s - 8) (by omega) (by omega),wi64 (n:=s+8) (by omega) (by omega)]
    exact c_ind (P:=fun x:Int=>x=s+8∨x=s - 8) (fun _=>.inr rfl) fun _=>.inl rfl
  have b1:=w f (by omega) (by omega)
  have b2:=w (N92 p.turn f) (by omega) (by omega)
  have c1:=a1 (N92 p.turn f) (by omega)
  have c2:(1#64 <<< (BitVec.ofInt 64 (N92 p.turn (N92 p.turn f))).toNat).getLsbD t=false:=by
    by_cases e:N92 p.turn (N92 p.turn f)=f
    · rw [e,one_bit h1]
      simp only [decide_eq_false_iff_not]
      rw [BitVec.toNat_ofInt]
      omega
    · exact a1 _ (by omega)
  revert hb
  unfold N196
  rw [hx]
  have k1:∀ y:BitVec 64,(N107 p.turn f&&&y).getLsbD t=true→(N107 p.turn f).getLsbD t=true:=fun y h=>by
    rw [BitVec.getLsbD_and] at h
    exact (Bool.and_eq_true _ _ ▸ h).1
  have k2:∀ y:BitVec 64,(N107 p.turn f&&&y|||1#64 <<< (BitVec.ofInt 64 (N92 p.turn f)).toNat).getLsbD t=true→(N107 p.turn f).getLsbD t=true:=fun y h=>by
    rw [BitVec.getLsbD_or,c1,Bool.or_false] at h
    exact k1 y h
  have k3:∀ y z:BitVec 64,(N107 p.turn f&&&y|||1#64 <<< (BitVec.ofInt 64 (N92 p.turn f)).toNat|||1#64 <<< (BitVec.ofInt 64 (N92 p.turn (N92 p.turn f))).toNat&&&z).getLsbD t=true→(N107 p.turn f).getLsbD t=true:=fun y z h=>by
    rw [BitVec.getLsbD_or,BitVec.getLsbD_and,c2,Bool.false_and,Bool.or_false] at h
    exact k2 y h
  repeat' (first | with_reducible exact k1 _ | with_reducible exact k2 _ | with_reducible exact k3 _ _ | refine c_ind (P:=fun y:BitVec 64=>y.getLsbD t=true→(N107 p.turn f).getLsbD t=true) (fun _ => ?_) (fun _ => ?_))
theorem N40_in {p:Pos} (hp:PosIn p) (m:Mv) : -1≤N40 p m∧N40 p m < 64:=by
  have hl:=N90_len hp.v0
  unfold N40
  refine c_ind (P:=fun x:Int => -1≤x∧x < 64) (fun _=>by simp) fun hthere=>c_ind (P:=fun x:Int => -1≤x∧x < 64) (fun _=>by simp) fun h => ?_
  rw [N41_eq (by omega)] at h
  have hm:m ∈ N90 p:=by simpa using h
  obtain ⟨th,f,t,h1,h2,h3,h4,h5,h6,h7,h8,h9,h10⟩:=N90_mem hp.v0 hm
  rw [h3,h4]
  rw [wi64 (n:=(t:Int)) (by omega) (by omega)]
  refine c_ind (P:=fun x:Int => -1≤x∧x < 64) (fun _=>by omega) fun _=>c_ind (P:=fun x:Int => -1≤x∧x < 64) (fun hk=>c_ind (P:=fun x:Int => -1≤x∧x < 64) (fun hd => ?_) fun _=>by simp) fun _=>by simp
  have hd:(f:Int).tmod 8≠(t:Int).tmod 8:=by simpa using hd
  have hto:(N196 (p,own p,oth p) f).getLsbD t=true:=by
    unfold N179 at h10
    rw [hk,cond_true,BitVec.getLsbD_and] at h10
    exact (Bool.and_eq_true _ _ ▸ h10).1
  have hat:=pawn_side hp th.1 rfl h1 h2 hd hto
  have h0:=hp.t0
  have ht:=th.1
  have:p.turn=0∨p.turn=1:=by omega
  rcases this with e | e
  · rw [e] at hat
    have:=pawn_up ⟨f,h1⟩ ⟨t,h2⟩ hat
    simp only at this
    rw [e]
    unfold N92
    rw [show wr .u8 (1 - 0)=1 from by decide,wi64 (n:=(t:Int) - 8) (by omega) (by omega)]
    show -1≤(t:Int) - 8∧(t:Int) - 8 < 64
    omega
  · rw [e] at hat
    have:=pawn_dn ⟨f,h1⟩ ⟨t,h2⟩ hat
    simp only at this
    rw [e]
    unfold N92
    rw [show wr .u8 (1 - 1)=0 from by decide,wi64 (n:=(t:Int)+8) (by omega) (by omega)]
    show -1≤(t:Int)+8∧(t:Int)+8 < 64
    omega
theorem N152_in (p:Pos) (m:Mv) : -1≤N152 p m∧N152 p m≤1:=by
  unfold N152
  repeat' (first | (constructor <;> decide) | refine c_ind (P:=fun x:Int => -1≤x∧x≤1) (fun _ => ?_) (fun _ => ?_))
theorem t99 (p:Pos) (m:Mv):ok99 p m=true:=by
  unfold ok99
  refine c_true (fun _=>rfl) fun h=>a_true ?_ fun _=>rfl
  have h1:=N152_in p m
  have h:¬ N152 p m < 0:=by simpa using h
  show (decide (0≤N152 p m)&&decide (N152 p m < 2))=true
  simp
  omega
theorem N99_in {p:Pos} (h0:0≤p.turn) (ht:p.turn≤1) (m:Mv):0≤(N99 p m).1∧(N99 p m).1 < 64∧0≤(N99 p m).2.1∧(N99 p m).2.1 < 64:=by
  have h1:=N152_in p m
  unfold N99
  refine c_ind (P:=fun x:Int×Int×Bool=>0≤x.1∧x.1 < 64∧0≤x.2.1∧x.2.1 < 64) (fun _=>by simp) fun h => ?_
  have h:¬ N152 p m < 0:=by simpa using h
  rw [N148_eq h0 ht]
  show 0≤wr .i64 (56 * p.turn+_)∧_
  have e:N152 p m=0∨N152 p m=1:=by omega
  have e':N152 ⟨p.variant,p.board,p.promoted,p.pockets,p.turn,p.rooks,p.passing,p.checks,p.half,p.full⟩ ⟨m.frm,m.to,m.pro,m.drp,m.cas⟩=N152 p m:=rfl
  rw [e']
  have e2:p.turn=0∨p.turn=1:=by omega
  rcases e with e | e <;> rcases e2 with e2 | e2 <;> rw [e,e2] <;> decide
theorem t100 {p:Pos} {b c:Int} (hb:0≤b) (hc:0≤c):ok100 p b c=true:=by
  unfold ok100
  refine c_true (fun _=>rfl) fun h => ?_
  have h:N154 b c=true:=by simpa using h
  have hin:b≤1∧1≤c∧c≤5:=by
    revert h
    unfold N154
    refine c_ind (P:=fun x:Bool=>x=true→_) (fun h1=>c_ind (P:=fun x:Bool=>x=true→_) (fun h2 h3 => ?_) fun _ h=>by cases h) fun _ h=>by cases h
    simp only [decide_eq_true_eq] at h1 h2 h3
    omega
  have a1:(decide (0≤b)&&decide (b < 2))=true:=by simp; omega
  have a2:(decide (0≤c)&&decide (c < 6))=true:=by simp; omega
  repeat' (first | with_reducible rfl | with_reducible exact a1 | with_reducible exact a2 | refine a_true ?_ (fun _ => ?_) | refine c_true (fun _ => ?_) (fun _ => ?_))
theorem t103 {p:Pos} {b c:Int} (hb:0≤b) (hc:0≤c):ok103 p b c=true:=by
  unfold ok103
  refine c_true (fun h => ?_) fun _=>rfl
  have hin:b≤1∧1≤c∧c≤5:=by
    revert h
    unfold N154
    refine c_ind (P:=fun x:Bool=>x=true→_) (fun h1=>c_ind (P:=fun x:Bool=>x=true→_) (fun h2 h3 => ?_) fun _ h=>by cases h) fun _ h=>by cases h
    simp only [decide_eq_true_eq] at h1 h2 h3
    omega
  have a1:(decide (0≤b)&&decide (b < 2))=true:=by simp; omega
  have a2:(decide (0≤c)&&decide (c < 6))=true:=by simp; omega
  repeat' (first | with_reducible rfl | with_reducible exact a1 | with_reducible exact a2 | refine a_true ?_ (fun _ => ?_) | refine c_true (fun _ => ?_) (fun _ => ?_))
theorem t104 (p:Pos) (s:Int):ok104 p s=true:=by
  unfold ok104
  repeat' (first | with_reducible rfl | with_reducible exact t155 _ | with_reducible exact t151 _ | with_reducible exact t66 _ _ _ | refine a_true ?_ (fun _ => ?_) | refine c_true (fun _ => ?_) (fun _ => ?_))
theorem N91_in {v:Int} (h:0≤v):0≤N91 v:=by
  unfold N91
  exact c_ind (P:=fun x:Int=>0≤x) (fun _=>by simp) fun _=>Int.tmod_nonneg _ h
theorem ix64 {i:Int} (h0:0≤i) (h1:i < 64):(decide (0≤i)&&decide (i < Int.ofNat 64))=true:=by
  rw [Bool.and_eq_true,decide_eq_true_eq,decide_eq_true_eq]
  exact ⟨h0,h1⟩
theorem set_in {l:List Int} {a b v:Int} (h:∀ x ∈ l,a≤x∧x≤b) (hv:a≤v∧v≤b) (i:Nat):∀ x ∈ l.set i v,a≤x∧x≤b:=by
  intro x hx
  rcases List.mem_or_eq_of_mem_set hx with h1 | rfl
  · exact h x h1
  · exact hv
theorem N101_in (a b:Int):0≤N101 a b∧N101 a b≤255:=by
  unfold N101
  exact c_ind (P:=fun x:Int=>0≤x∧x≤255) (fun _=>by decide) fun _=>c_ind (P:=fun x:Int=>0≤x∧x≤255) (fun _=>by decide) fun _=>c_ind (P:=fun x:Int=>0≤x∧x≤255) (fun _=>by decide) fun _=>⟨wr_u8_lo _,wr_u8_hi _⟩
theorem N108_in {n:Int} (h : -9223372036854775808≤n∧n≤9223372036854775807) : -9223372036854775808≤N108 n∧N108 n≤9223372036854775807:=by
  unfold N108
  exact c_ind (P:=fun x:Int => -9223372036854775808≤x∧x≤9223372036854775807) (fun _=>h) fun _=>wr_i64_b _
structure Kin (p q:Pos):Prop where
  pin:PosIn q
  v:q.variant=p.variant
  t:q.turn=p.turn
section
variable {p q:Pos}
theorem Kin.board (h:Kin p q) {bd:List Int} (hl:bd.length=64) (hb:∀ x ∈ bd,0≤x∧x≤255) (pr:BitVec 64):Kin p ⟨q.variant,bd,pr,q.pockets,q.turn,q.rooks,q.passing,q.checks,q.half,q.full⟩ :=
  ⟨⟨h.pin.v0,h.pin.v1,hl,hb,h.pin.kl,h.pin.k0,h.pin.t0,h.pin.t1,h.pin.rl,h.pin.r0,h.pin.p0,h.pin.p1,h.pin.cl,h.pin.c0,h.pin.h0,h.pin.f0⟩,h.v,h.t⟩
theorem Kin.set (h:Kin p q) (i:Nat) {v:Int} (hv:0≤v∧v≤255):Kin p ⟨q.variant,q.board.set i v,q.promoted,q.pockets,q.turn,q.rooks,q.passing,q.checks,q.half,q.full⟩ :=
  h.board (by rw [List.length_set]; exact h.pin.bl) (set_in h.pin.b0 hv i) _
theorem Kin.promoted (h:Kin p q) (pr:BitVec 64):Kin p ⟨q.variant,q.board,pr,q.pockets,q.turn,q.rooks,q.passing,q.checks,q.half,q.full⟩:=h.board h.pin.bl h.pin.b0 pr
theorem Kin.pockets (h:Kin p q) (i:Nat) {v:Int} (hv:0≤v∧v≤255):Kin p ⟨q.variant,q.board,q.promoted,q.pockets.set i v,q.turn,q.rooks,q.passing,q.checks,q.half,q.full⟩ :=
  ⟨⟨h.pin.v0,h.pin.v1,h.pin.bl,h.pin.b0,by rw [List.length_set]; exact h.pin.kl,set_in h.pin.k0 hv i,h.pin.t0,h.pin.t1,h.pin.rl,h.pin.r0,h.pin.p0,h.pin.p1,h.pin.cl,h.pin.c0,h.pin.h0,h.pin.f0⟩,h.v,h.t⟩
theorem Kin.rooks (h:Kin p q) {rk:List Int} (hl:rk.length=4) (hr:∀ x ∈ rk,-128≤x∧x≤127):Kin p ⟨q.variant,q.board,q.promoted,q.pockets,q.turn,rk,q.passing,q.checks,q.half,q.full⟩ :=
  ⟨⟨h.pin.v0,h.pin.v1,h.pin.bl,h.pin.b0,h.pin.kl,h.pin.k0,h.pin.t0,h.pin.t1,hl,hr,h.pin.p0,h.pin.p1,h.pin.cl,h.pin.c0,h.pin.h0,h.pin.f0⟩,h.v,h.t⟩
theorem Kin.rook (h:Kin p q) (i:Nat):Kin p ⟨q.variant,q.board,q.promoted,q.pockets,q.turn,q.rooks.set i (-1),q.passing,q.checks,q.half,q.full⟩ :=
  h.rooks (by rw [List.length_set]; exact h.pin.rl) (set_in h.pin.r0 (by omega) i)
theorem Kin.passing (h:Kin p q) {s:Int} (hs : -128≤s∧s≤127):Kin p ⟨q.variant,q.board,q.promoted,q.pockets,q.turn,q.rooks,s,q.checks,q.half,q.full⟩ :=
  ⟨⟨h.pin.v0,h.pin.v1,h.pin.bl,h.pin.b0,h.pin.kl,h.pin.k0,h.pin.t0,h.pin.t1,h.pin.rl,h.pin.r0,hs.1,hs.2,h.pin.cl,h.pin.c0,h.pin.h0,h.pin.f0⟩,h.v,h.t⟩
theorem Kin.clocks (h:Kin p q) {a b:Int} (ha : -9223372036854775808≤a∧a≤9223372036854775807) (hb : -9223372036854775808≤b∧b≤9223372036854775807):Kin p ⟨q.variant,q.board,q.promoted,q.pockets,q.turn,q.rooks,q.passing,q.checks,a,b⟩ :=
  ⟨⟨h.pin.v0,h.pin.v1,h.pin.bl,h.pin.b0,h.pin.kl,h.pin.k0,h.pin.t0,h.pin.t1,h.pin.rl,h.pin.r0,h.pin.p0,h.pin.p1,h.pin.cl,h.pin.c0,ha,hb⟩,h.v,h.t⟩
theorem N100_kin (h:Kin p q) (b c:Int):Kin p (N100 q b c).1:=by
  unfold N100
  refine c_ind (P:=fun x:Pos×Bool=>Kin p x.1) (fun _=>h) fun _=>c_ind (P:=fun x:Pos×Bool=>Kin p x.1) (fun _=>h) fun _ => ?_
  exact h.pockets _ ⟨wr_u8_lo _,wr_u8_hi _⟩
theorem N103_kin (h:Kin p q) (b c:Int):Kin p (N103 q b c):=by
  unfold N103
  refine c_ind (P:=fun x:Pos=>Kin p x) (fun _=>c_ind (P:=fun x:Pos=>Kin p x) (fun _ => ?_) fun _=>h) fun _=>h
  exact h.pockets _ ⟨wr_u8_lo _,wr_u8_hi _⟩
end
section
variable {p:Pos} (hp:PosIn p) (m:Mv)
include hp
theorem bd_in (i:Nat):0≤p.board.getD i 0∧p.board.getD i 0≤255:=getD_in hp.b0 (by omega) i
theorem vF1_kin (a:Pos) (b:Mv) (c:Int):Kin p (vF22_1 a b p p m c):=by
  have h:Kin p p:=⟨hp,rfl,rfl⟩
  have z:(0:Int)≤0∧(0:Int)≤255:=by omega
  have bi:=bd_in hp
  unfold vF22_1
  refine c_ind (P:=fun x:Pos=>Kin p x) (fun _=>((((h.set _ z).set _ z).set _ (bi _)).set _ (bi _))) fun _=>c_ind (P:=fun x:Pos=>Kin p x) (fun _=>(N100_kin h _ _).set _ (N101_in _ _)) fun _=>c_ind (P:=fun x:Pos=>Kin p x) (fun _=>c_ind (P:=fun x:Pos=>Kin p x) (fun _=>(((h.set _ z).set _ z).set _ (bi _)).set _ (N101_in _ _)) fun _=>((h.set _ z).set _ z).set _ (bi _)) fun _=>c_ind (P:=fun x:Pos=>Kin p x) (fun _=>((h.set _ z).set _ (bi _)).set _ (N101_in _ _)) fun _=>(h.set _ z).set _ (bi _)
omit hp in
theorem vF2_kin {q:Pos} (h:Kin p q) (a:Pos) (b:Mv) (c:Int):Kin p (vF22_2 a b q p m c):=by
  unfold vF22_2
  repeat' (first | exact h | exact h.promoted _ | exact N103_kin h _ _ | exact (N103_kin h _ _).promoted _ | refine c_ind (P:=fun x:Pos=>Kin p x) (fun _ => ?_) (fun _ => ?_))
omit hp in
theorem lp22_3_kin (l:List Int) (hl:l.length≤64) (hin:∀ s ∈ l,0≤s∧s < 64) {q:Pos} (h:Kin p q) (a b:Pos) (c d:Mv) (e:Int):∃ r,lp22_3 l (Int.ofNat l.length) a c b d e (0,q)=some r∧Kin p r.2.2:=by
  refine lp_many (I:=fun x=>0≤x.1∧x.1≤(l.length:Int)∧Kin p x.2) (μ:=fun x=>((l.length:Int) - x.1).toNat) ?_ _ ⟨by simp,by simp,h⟩ (by simp; omega)
  rintro ⟨n,o⟩ ⟨h0,h1,h2⟩
  simp only at h0 h1 h2
  by_cases hc:n < l.length
  · have hf:=hin _ (getD_mem (d:=default) (show n.toNat < l.length by omega))
    refine ⟨c_true (fun _=>a_true (by simp [h0]; omega) fun _=>a_true (ix64 hf.1 hf.2) fun _=>rfl) fun _=>rfl,c_ind (fun _ => ?_) fun h=>absurd h (by simpa using hc)⟩
    rw [wi64 (n:=n+1) (by omega) (by omega)]
    exact ⟨⟨by simp; omega,by simp; omega,h2.set _ (by omega)⟩,by simp; omega⟩
  · exact ⟨c_true (fun h=>absurd h (by simpa using hc)) fun _=>rfl,c_ind (fun h=>absurd h (by simpa using hc)) fun _=>h2⟩
omit hp in
theorem vF4_kin {q:Pos} (h:Kin p q) (a:Pos) (b:Mv) (c:Int):okF22_4 a b q p m c=true∧Kin p (vF22_4 a b q p m c):=by
  have hl:=of_some (lp22_3_kin (p:=p) (sqs (N104 q (wr .i64 m.to)) 64) (sqs_len _ _) (fun _ h=>sqs_in h) h a p b m c)
  constructor
  · unfold okF22_4
    refine c_true (fun _=>rfl) fun _=>c_true (fun _=>rfl) fun _=>a_true (t104 _ _) fun _=>a_true (t65 _) fun _=>a_true ?_ fun _=>rfl
    rw [N65_eq]; exact hl.1
  · unfold vF22_4
    refine c_ind (P:=fun x:Pos=>Kin p x) (fun _=>h) fun _=>c_ind (P:=fun x:Pos=>Kin p x) (fun _=>h) fun _ => ?_
    rw [N65_eq]; exact hl.2
omit hp in
theorem lp22_6_kin {c k:Int} (hc0:0≤c) (hc1:c≤1) (l:List Int) (hl:∀ s ∈ l,-128≤s∧s≤127) {q:Pos} (h:Kin p q) (a b:Pos) (m1 m2:Mv) (e:Int):∃ r,lp22_6 c k l a m1 b m2 e (0,q)=some r∧Kin p r.2.2:=by
  refine lp_many (I:=fun x=>0≤x.1∧x.1≤2∧Kin p x.2) (μ:=fun x=>(2 - x.1).toNat) ?_ _ ⟨by simp,by simp,h⟩ (by simp)
  rintro ⟨n,o⟩ ⟨h0,h1,h2⟩
  simp only at h0 h1 h2
  by_cases hc:n < 2
  · have hs:=getD_in hl (d:=0) (by omega) n.toNat
    have go1:Nxt (fun x:Int×Pos=>0≤x.1∧x.1≤2∧Kin p x.2) (fun r:Int×Bool×Pos=>Kin p r.2.2) (fun x=>(2 - x.1).toNat) (2 - n).toNat (.go (wr .i64 (n+1),o)):=by
      rw [wi64 (n:=n+1) (by omega) (by omega)]
      exact ⟨⟨by simp; omega,by simp; omega,h2⟩,by simp; omega⟩
    have go2:∀ i,Nxt (fun x:Int×Pos=>0≤x.1∧x.1≤2∧Kin p x.2) (fun r:Int×Bool×Pos=>Kin p r.2.2) (fun x=>(2 - x.1).toNat) (2 - n).toNat (.go (wr .i64 (n+1),⟨o.variant,o.board,o.promoted,o.pockets,o.turn,o.rooks.set i (-1),o.passing,o.checks,o.half,o.full⟩)):=by
      intro i
      rw [wi64 (n:=n+1) (by omega) (by omega)]
      exact ⟨⟨by simp; omega,by simp; omega,h2.rook i⟩,by simp; omega⟩
    have w1:wr .i64 c=c:=wi64 (by omega) (by omega)
    have w2:wr .i64 (56 * c)=56 * c:=wi64 (by omega) (by omega)
    have w3:wr .i64 (l.getD n.toNat 0)=l.getD n.toNat 0:=wi64 (by omega) (by omega)
    have w4:wr .i64 (56 * c+l.getD n.toNat 0)=56 * c+l.getD n.toNat 0:=wi64 (by omega) (by omega)
    have k1:(decide (0≤c)&&decide (c < Int.ofNat 2))=true:=by simp; omega
    have k2:(decide (0≤n)&&decide (n < Int.ofNat 2))=true:=by simp; omega
    refine ⟨c_true (fun _=>a_true k2 fun _=>c_true (fun _=>rfl) fun g0=>c_true (fun _=>rfl) fun g1 => ?_) fun _=>rfl,c_ind (fun _ => ?_) fun h=>absurd h (by simpa using hc)⟩
    · rw [w1,w2,w3,w4]
      have g0:0≤l.getD n.toNat 0:=by simpa using g0
      have g1:l.getD n.toNat 0≤7:=by simpa using g1
      have k3:(decide (0≤56 * c+l.getD n.toNat 0)&&decide (56 * c+l.getD n.toNat 0 < Int.ofNat 64))=true:=ix64 (by omega) (by omega)
      repeat' (first | with_reducible rfl | with_reducible exact k1 | with_reducible exact k2 | with_reducible exact k3 | refine a_true ?_ (fun _ => ?_) | refine c_true (fun _ => ?_) (fun _ => ?_))
    · repeat' (first | exact go1 | exact go2 _ | refine c_ind (fun _ => ?_) (fun _ => ?_))
  · exact ⟨c_true (fun h=>absurd h (by simpa using hc)) fun _=>rfl,c_ind (fun h=>absurd h (by simpa using hc)) fun _=>h2⟩
omit hp in
theorem lp22_7_kin {q:Pos} (h:Kin p q) (a b:Pos) (m1 m2:Mv) (e:Int):∃ r,lp22_7 a m1 b m2 e (0,q)=some r∧Kin p r.2.2:=by
  refine lp_many (I:=fun x=>0≤x.1∧x.1≤2∧Kin p x.2) (μ:=fun x=>(2 - x.1).toNat) ?_ _ ⟨by simp,by simp,h⟩ (by simp)
  rintro ⟨n,o⟩ ⟨h0,h1,h2⟩
  simp only at h0 h1 h2
  by_cases hc:n≤1
  · have hr:∀ s ∈ List.take 2 (List.drop (scale 2 n).toNat o.rooks),-128≤s∧s≤127:=fun s hs=>h2.pin.r0 s (List.mem_of_mem_drop (List.mem_of_mem_take hs))
    have hl:=of_some (lp22_6_kin (p:=p) (k:=N106 o n 6) h0 hc _ hr h2 a b m1 m2 e)
    refine ⟨c_true (fun _=>a_true (t106 _ _ _) fun _=>a_true (by simp; omega) fun _=>a_true hl.1 fun _=>rfl) fun _=>rfl,c_ind (fun _ => ?_) fun h=>absurd h (by simpa using hc)⟩
    rw [wu8 (n:=n+1) (by omega) (by omega)]
    exact ⟨⟨by simp; omega,by simp; omega,hl.2⟩,by simp; omega⟩
  · exact ⟨c_true (fun h=>absurd h (by simpa using hc)) fun _=>rfl,c_ind (fun h=>absurd h (by simpa using hc)) fun _=>h2⟩
theorem vF8_kin (ht:p.turn≤1) {q:Pos} (h:Kin p q) (hm:m.drp=0→0≤m.frm∧m.frm < 64) (a:Pos) (b:Mv) (c:Int):okF22_8 a b q p m c=true∧Kin p (vF22_8 a b q p m c):=by
  have t0:=hp.t0
  have h2:Kin p ⟨q.variant,q.board,q.promoted,q.pockets,q.turn,List.take (scale 2 q.turn).toNat q.rooks++li [-1,-1]++List.drop ((scale 2 q.turn).toNat+2) q.rooks,q.passing,q.checks,q.half,q.full⟩:=by
    refine h.rooks ?_ ?_
    · have hr:=h.pin.rl
      have:(scale 2 q.turn).toNat≤2:=by rw [h.t]; unfold scale; simp; omega
      simp [li,hr]
      omega
    · intro x hx
      simp only [List.mem_append,li] at hx
      rcases hx with (hx | hx) | hx
      · exact h.pin.r0 x (List.mem_of_mem_take hx)
      · simp at hx; omega
      · exact h.pin.r0 x (List.mem_of_mem_drop hx)
  have a1:=of_some (lp22_7_kin h a p b m c)
  have a2:=of_some (lp22_7_kin h2 a p b m c)
  have k1:(decide (0≤q.turn)&&decide (q.turn < Int.ofNat 2))=true:=by rw [h.t]; simp; omega
  constructor
  · unfold okF22_8
    refine c_true (fun _ => ?_) fun hd=>a_true ?_ fun _ => ?_
    · repeat' (first | with_reducible rfl | with_reducible exact k1 | with_reducible exact a1.1 | with_reducible exact a2.1 | refine a_true ?_ (fun _ => ?_) | refine c_true (fun _ => ?_) (fun _ => ?_))
    · have:=hm (by simpa using hd)
      simp; omega
    · repeat' (first | with_reducible rfl | with_reducible exact k1 | with_reducible exact a1.1 | with_reducible exact a2.1 | refine a_true ?_ (fun _ => ?_) | refine c_true (fun _ => ?_) (fun _ => ?_))
  · unfold vF22_8
    repeat' (first | exact a1.2 | exact a2.2 | refine c_ind (P:=fun x:Pos=>Kin p x) (fun _ => ?_) (fun _ => ?_))
omit hp in
theorem vF9_kin {q:Pos} (h:Kin p q) (hm:m.drp=0→0≤m.frm∧m.frm < 64) (a:Pos) (b:Mv) (c:Int):okF22_9 a b q p m c=true∧Kin p (vF22_9 a b q p m c):=by
  constructor
  · unfold okF22_9
    refine c_true (fun _ => ?_) fun hd=>a_true ?_ fun _ => ?_
    · repeat' (first | with_reducible rfl | with_reducible exact t107 _ _ | with_reducible exact t66 _ _ _ | refine a_true ?_ (fun _ => ?_) | refine c_true (fun _ => ?_) (fun _ => ?_))
    · have:=hm (by simpa using hd)
      simp; omega
    · repeat' (first | with_reducible rfl | with_reducible exact t107 _ _ | with_reducible exact t66 _ _ _ | refine a_true ?_ (fun _ => ?_) | refine c_true (fun _ => ?_) (fun _ => ?_))
  · have n1:(-128:Int) ≤ -1∧(-1:Int)≤127:=by omega
    unfold vF22_9
    repeat' (first | exact h.passing n1 | exact h.passing (wr_i8_b _) | refine c_ind (P:=fun x:Pos=>Kin p x) (fun _ => ?_) (fun _ => ?_))
omit hp in
theorem vF910_kin {q:Pos} (h:Kin p q) (hm:m.drp=0→0≤m.frm∧m.frm < 64) (a:Pos) (b:Mv) (c:Int):okF22_10 a b q p m c=true∧Kin p (vF22_10 a b q p m c):=by
  constructor
  · unfold okF22_10
    refine c_true (fun _=>rfl) fun hd=>a_true ?_ fun _=>rfl
    have:=hm (by simpa using hd)
    simp; omega
  · have z:(-9223372036854775808:Int)≤0∧(0:Int)≤9223372036854775807:=by omega
    have f1:=h.pin.f0
    have f2:=N108_in h.pin.f0
    have f3:=N108_in h.pin.h0
    unfold vF22_10
    repeat' (first | exact h.clocks z f1 | exact h.clocks z f2 | exact h.clocks f3 f1 | exact h.clocks f3 f2 | refine c_ind (P:=fun x:Pos=>Kin p x) (fun _ => ?_) (fun _ => ?_))
theorem vF4_in (ht:p.turn≤1) {q:Pos} (h:Kin p q) (a:Pos) (b:Mv) (c:Int):okF22_11 a b q p m c=true∧PosIn (vF22_11 a b q p m c)∧(vF22_11 a b q p m c).variant=p.variant∧(vF22_11 a b q p m c).turn=1 - p.turn:=by
  have t0:=hp.t0
  have w1:wr .u8 (1 - p.turn)=1 - p.turn:=wu8 (by omega) (by omega)
  have w2:wr .u8 (1 - (1 - p.turn))=p.turn:=by rw [wu8 (by omega) (by omega)]; omega
  have k1:(decide (0≤p.turn)&&decide (p.turn < Int.ofNat 2))=true:=by simp; omega
  have hq:PosIn ⟨q.variant,q.board,q.promoted,q.pockets,1 - p.turn,q.rooks,q.passing,q.checks,q.half,q.full⟩ :=
    ⟨h.pin.v0,h.pin.v1,h.pin.bl,h.pin.b0,h.pin.kl,h.pin.k0,by show 0≤1 - p.turn; omega,by show 1 - p.turn≤255; omega,h.pin.rl,h.pin.r0,h.pin.p0,h.pin.p1,h.pin.cl,h.pin.c0,h.pin.h0,h.pin.f0⟩
  constructor
  · unfold okF22_11
    rw [h.t,w1,w2]
    refine c_true (fun _=>a_true k1 fun _=>c_true (fun _=>a_true (t109 h.pin.v0 (by omega)) fun _=>c_true (fun _=>a_true k1 fun _=>a_true k1 fun _=>rfl) fun _=>rfl) fun _=>rfl) fun _=>rfl
  · unfold vF22_11
    rw [h.t,w1,w2]
    have base:PosIn ⟨q.variant,q.board,q.promoted,q.pockets,1 - p.turn,q.rooks,q.passing,q.checks,q.half,q.full⟩∧q.variant=p.variant∧(1 - p.turn=1 - p.turn):=⟨hq,h.v,rfl⟩
    refine c_ind (P:=fun x:Pos=>PosIn x∧x.variant=p.variant∧x.turn=1 - p.turn) (fun _=>c_ind (P:=fun x:Pos=>PosIn x∧x.variant=p.variant∧x.turn=1 - p.turn) (fun _=>c_ind (P:=fun x:Pos=>PosIn x∧x.variant=p.variant∧x.turn=1 - p.turn) (fun _ => ?_) fun _=>base) fun _=>base) fun _=>base
    exact ⟨⟨hq.v0,hq.v1,hq.bl,hq.b0,hq.kl,hq.k0,hq.t0,hq.t1,hq.rl,hq.r0,hq.p0,hq.p1,by rw [List.length_set]; exact hq.cl,set_in hq.c0 ⟨wr_u8_lo _,wr_u8_hi _⟩ _,hq.h0,hq.f0⟩,h.v,rfl⟩
end
theorem N45_mem {p:Pos} (hp:PosIn p) {m:Mv} (h:m ∈ N45 p):there p∧0≤m.frm∧m.frm < 64∧0≤m.to∧m.to < 64∧0≤m.drp∧m.drp≤5∧0≤m.pro∧m.pro≤6:=by
  rw [N45_eq] at h
  have n110:∀ v:Int,9≤v→N147 v=false:=fun v hv=>by
    unfold N147
    rw [show decide (v ≥ 9)=true by simpa using hv]; rfl
  have n113:∀ v:Int,9≤v→N150 v=false:=fun v hv=>by
    unfold N150
    rw [show decide (v ≥ 9)=true by simpa using hv]; rfl
  simp only [List.mem_append] at h
  rcases h with (h | h) | h
  · obtain ⟨th,f,t,h1,h2,h3,h4,h5,h6,h7,h8,_⟩:=N90_mem hp.v0 h
    exact ⟨th,by omega,by omega,by omega,by omega,by omega,by omega,h7,h8⟩
  · obtain ⟨h1,h2,h3,h4,h5,h6,h7,h8⟩:=N97_mem hp h
    refine ⟨⟨h1,?_⟩,h2,h3,h4,h5,by omega,by omega,by omega,by omega⟩
    refine Classical.byContradiction fun hv => ?_
    unfold N97 at h
    rw [n110 _ (by omega)] at h
    rw [show decide (p.turn > 1)=false by simp; omega] at h
    cases h
  · obtain ⟨h1,h2,h3,h4,h5,h6,h7,h8,h9⟩:=N98_mem hp.t0 h
    refine ⟨⟨h1,?_⟩,by omega,by omega,h4,h5,by omega,h8,by omega,by omega⟩
    refine Classical.byContradiction fun hv => ?_
    rw [n113 _ (by omega)] at h2
    cases h2
theorem move_all {p:Pos} (hp:PosIn p) (m:Mv):ok22 p m=true∧(m ∈ N45 p→(N22 p m).2=true∧PosIn (N22 p m).1∧(N22 p m).1.variant=p.variant∧(N22 p m).1.turn=1 - p.turn)∧(m ∉ N45 p→N22 p m=(p,false)):=by
  have hlen:=N45_len hp
  have hc:N41 (N45 p) m=decide (m ∈ N45 p):=N41_eq (by omega)
  by_cases hm:m ∈ N45 p
  · obtain ⟨th,f0,f1,g0,g1,d0,d1,r0,r1⟩:=N45_mem hp hm
    have hmf:m.drp=0→0≤m.frm∧m.frm < 64:=fun _=>⟨f0,f1⟩
    have hn:=N40_in hp m
    have h1:=vF1_kin hp m p m (N40 p m)
    have h2:=vF2_kin m h1 p m (N40 p m)
    have h4:=vF4_kin m h2 p m (N40 p m)
    have h8:=vF8_kin hp m th.1 h4.2 hmf p m (N40 p m)
    have h9:=vF9_kin m h8.2 hmf p m (N40 p m)
    have h10:=vF910_kin m h9.2 hmf p m (N40 p m)
    have h11:=vF4_in hp m th.1 h10.2 p m (N40 p m)
    have kf:(decide (0≤m.frm)&&decide (m.frm < Int.ofNat 64))=true:=by simp; omega
    have kt:(decide (0≤m.to)&&decide (m.to < Int.ofNat 64))=true:=by simp; omega
    have kn:N40 p m ≥ 0→(decide (0≤N40 p m)&&decide (N40 p m < Int.ofNat 64))=true:=fun h=>by simp; omega
    have hg:=N99_in hp.t0 th.1 m
    have ok1:okF22_1 p m p p m (N40 p m)=true:=by
      unfold okF22_1
      have kg1:(decide (0≤(N99 p m).1)&&decide ((N99 p m).1 < Int.ofNat 64))=true:=by simp; omega
      have kg2:(decide (0≤(N99 p m).2.1)&&decide ((N99 p m).2.1 < Int.ofNat 64))=true:=by simp; omega
      refine c_true (fun _ => ?_) fun _=>c_true (fun _ => ?_) fun _=>c_true (fun hh => ?_) fun _ => ?_
      · repeat' (first | with_reducible rfl | with_reducible exact t99 _ _ | with_reducible exact kf | with_reducible exact kt | with_reducible exact kg1 | with_reducible exact kg2 | refine a_true ?_ (fun _ => ?_))
      · refine a_true (t100 hp.t0 d0) fun _=>a_true kt fun _=>rfl
      · have hh:N40 p m ≥ 0:=by simpa using hh
        have kn:=kn hh
        repeat' (first | with_reducible rfl | with_reducible exact kn | with_reducible exact kf | with_reducible exact kt | refine a_true ?_ (fun _ => ?_) | refine c_true (fun _ => ?_) (fun _ => ?_))
      · repeat' (first | with_reducible rfl | with_reducible exact kf | with_reducible exact kt | refine a_true ?_ (fun _ => ?_) | refine c_true (fun _ => ?_) (fun _ => ?_))
    have ok2:okF22_2 p m (vF22_1 p m p p m (N40 p m)) p m (N40 p m)=true:=by
      have e:0≤(vF22_1 p m p p m (N40 p m)).turn:=h1.pin.t0
      have bi:=fun i=>(bd_in hp i).1
      unfold okF22_2
      refine c_true (fun _=>rfl) fun _=>c_true (fun _=>rfl) fun _=>c_true (fun _=>a_true (t99 _ _) fun _=>rfl) fun _=>c_true (fun hh => ?_) fun _=>rfl
      have hh:N40 p m ≥ 0:=by simpa using hh
      have kn:=kn hh
      repeat' (first | with_reducible rfl | with_reducible exact kn | with_reducible exact t103 e (by decide) | with_reducible exact t103 e (N91_in (bi _)) | refine a_true ?_ (fun _ => ?_) | refine c_true (fun _ => ?_) (fun _ => ?_))
    refine ⟨?_,fun _ => ?_,fun h=>absurd hm h⟩
    · unfold ok22
      exact a_true (t45 hp) fun _=>a_true (t41 (by omega)) fun _=>c_true (fun _=>rfl) fun _=>a_true (t40 hp.v0 m) fun _=>a_true ok1 fun _=>a_true ok2 fun _=>a_true h4.1 fun _=>a_true h8.1 fun _=>a_true h9.1 fun _=>a_true h10.1 fun _=>a_true h11.1 fun _=>rfl
    · unfold N22
      rw [hc]
      simp only [hm,decide_true,Bool.not_true,cond_false]
      exact ⟨trivial,h11.2⟩
  · refine ⟨?_,fun h=>absurd h hm,fun _ => ?_⟩
    · unfold ok22
      refine a_true (t45 hp) fun _=>a_true (t41 (by omega)) fun _=>c_true (fun _=>rfl) fun h => ?_
      rw [hc] at h
      simp [hm] at h
    · unfold N22
      rw [hc]
      simp [hm]
theorem t81 (p:Pos) (b:Int):ok81 p b=true:=a_true (t106 _ _ _) fun _=>rfl
section
variable {p:Pos} (hp:PosIn p)
include hp
theorem move_var (m:Mv):0≤(N22 p m).1.variant:=by
  obtain ⟨_,h1,h2⟩:=move_all hp m
  by_cases hm:m ∈ N45 p
  · rw [(h1 hm).2.2.1]; exact hp.v0
  · rw [h2 hm]; exact hp.v0
theorem t86 (m:Mv):ok86 p m=true:=by
  have hv:=move_var hp m
  have t0:=hp.t0
  have b1:=wr_u8_lo (1 - p.turn)
  unfold ok86
  refine a_true (move_all hp m).1 fun _ => ?_
  have k1:ok80 p.variant p.turn=true:=t80 hp.v0 t0
  have k2:ok109 (N22 p m).1 p.turn=true:=t109 hv t0
  have k3:ok109 (N22 p m).1 (wr .u8 (1 - p.turn))=true:=t109 hv b1
  repeat' (first | with_reducible rfl | with_reducible exact k1 | with_reducible exact k2 | with_reducible exact k3 | with_reducible exact t81 _ _ | refine a_true ?_ (fun _ => ?_) | refine c_true (fun _ => ?_) (fun _ => ?_))
theorem okKept_72 {l:List Mv} (hl:l.length≤1000000):okKept 85 p l=true:=by
  unfold okKept
  rw [show (85:Nat).beq 85=true from rfl,cond_true]
  have h1:decide (l.length≤lim)=true:=by unfold lim; simp; omega
  rw [h1,Bool.true_and]
  exact all86_iff.2 (t86 hp)
theorem okKept_73 {l:List Mv} (hl:l.length≤1000000):okKept 87 p l=true:=by
  unfold okKept
  rw [show (87:Nat).beq 85=false from rfl,cond_false,show (87:Nat).beq 87=true from rfl,Bool.true_and]
  have h1:decide (l.length≤lim)=true:=by unfold lim; simp; omega
  rw [h1,Bool.true_and]
  exact all19_iff.2 (t19 hp.v0)
omit hp in
theorem kept_72 (l:List Mv):kept 85 p l=l.filter (N86 p):=by
  unfold kept
  rw [show (85:Nat).beq 85=true from rfl,cond_true]
omit hp in
theorem kept_73 (l:List Mv):kept 87 p l=l.filter (N19 p):=by
  unfold kept
  rw [show (87:Nat).beq 85=false from rfl,cond_false]
theorem lp39 (l:List Mv) (hl:l.length≤1000000):∃ r,lp39_1 l (Int.ofNat l.length) p 0=some r ∧
    match r with
    | .inl i=>0≤i∧∃ m,m ∈ l∧N19 p m=true
    | .inr _ => ∀ m,m ∈ l→N19 p m=false:=by
  refine lp_many (I:=fun x=>0≤x∧x≤(l.length:Int)∧∀ m,m ∈ l.take x.toNat→N19 p m=false) (μ:=fun x=>((l.length:Int) - x).toNat) ?_ _ ⟨by simp,by simp,by simp⟩ (by simp; omega)
  rintro n ⟨h0,h1,h2⟩
  by_cases hc:n < l.length
  · have hlt:n.toNat < l.length:=by omega
    refine ⟨c_true (fun _=>a_true (by simp [h0]; exact hc) fun _=>a_true (t19 hp.v0 _) fun _=>rfl) fun _=>rfl,c_ind (fun _ => ?_) fun h=>absurd h (by simpa using hc)⟩
    refine c_ind (fun h=>⟨h0,_,getD_mem hlt,h⟩) fun h => ?_
    rw [wi64 (n:=n+1) (by omega) (by omega)]
    refine ⟨⟨by omega,by omega,?_⟩,by dsimp only; omega⟩
    rw [show (n+1).toNat=n.toNat+1 by omega,List.take_succ_eq_append_getElem hlt]
    rw [List.getD_eq_getElem?_getD,List.getElem?_eq_getElem hlt] at h
    intro m hm
    simp only [List.mem_append,List.mem_singleton] at hm
    rcases hm with hm | rfl
    · exact h2 m hm
    · exact h
  · refine ⟨c_true (fun h=>absurd h (by simpa using hc)) fun _=>rfl,c_ind (fun h=>absurd h (by simpa using hc)) fun _ => ?_⟩
    show ∀ m,m ∈ l→N19 p m=false
    rw [List.take_of_length_le (by omega)] at h2
    exact h2
theorem lp39_any (l:List Mv) (hl:l.length≤1000000) {α:Type} (x y:α) :
    (bif isL ((lp39_1 l (Int.ofNat l.length) p 0).getD default) then bif decide (gl ((lp39_1 l (Int.ofNat l.length) p 0).getD default) ≥ 0) then x else y else y)=bif l.any (N19 p) then x else y:=by
  have h:=(of_some (lp39 hp l hl)).2
  generalize (lp39_1 l (Int.ofNat l.length) p 0).getD default=r at h ⊢
  cases r with
  | inl i =>
    obtain ⟨h1,m,h2,h3⟩:=h
    have:l.any (N19 p)=true:=List.any_eq_true.2 ⟨m,h2,h3⟩
    simp [isL,gl,h1,this]
  | inr z =>
    have:l.any (N19 p)=false:=by
      rw [List.any_eq_false]
      intro m hm
      rw [h m hm]; simp
    simp [isL,this]
theorem well_len:((N45 p).filter (N86 p)).length≤20802:=Nat.le_trans (List.length_filter_le _ _) (N45_len hp)
theorem t39:ok39 p=true:=by
  have h1:=N45_len hp
  have h2:=well_len hp
  have k1:ok80 p.variant p.turn=true:=t80 hp.v0 hp.t0
  have k2:ok45 p=true:=t45 hp
  have k3:okKept 85 p (N45 p)=true:=okKept_72 hp (by omega)
  have k4:okKept 87 p (kept 85 p (N45 p))=true:=okKept_73 hp (by rw [kept_72]; omega)
  have k5:(lp39_1 (kept 85 p (N45 p)) (Int.ofNat (kept 85 p (N45 p)).length) p 0).isSome=true:=(of_some (lp39 hp _ (by rw [kept_72]; omega))).1
  unfold ok39
  repeat' (first | with_reducible rfl | with_reducible exact k1 | with_reducible exact k2 | with_reducible exact k3 | with_reducible exact k4 | with_reducible exact k5 | with_reducible exact t81 _ _ | refine a_true ?_ (fun _ => ?_) | refine c_true (fun _ => ?_) (fun _ => ?_))
noncomputable def wouldL (p:Pos):List Mv:=bif p.variant==4 then bif ((N45 p).filter (N86 p)).any (N19 p) then ((N45 p).filter (N86 p)).filter (N19 p) else (N45 p).filter (N86 p) else (N45 p).filter (N86 p)
theorem N39_eq:N39 p=bif N80 p.variant p.turn then bif !N81 p p.turn then [] else wouldL p else wouldL p:=by
  have h2:=well_len hp
  unfold N39
  have e:=fun (x y:List Mv)=>lp39_any hp (kept 85 p (N45 p)) (by rw [kept_72]; omega) x y
  rw [e]
  unfold wouldL
  rw [kept_73,kept_72]
omit hp in
theorem wouldL_len' (hl:((N45 p).filter (N86 p)).length≤20802):(wouldL p).length≤20802:=by
  unfold wouldL
  refine c_ind (P:=fun l:List Mv=>l.length≤20802) (fun _=>c_ind (P:=fun l:List Mv=>l.length≤20802) (fun _=>Nat.le_trans (List.length_filter_le _ _) hl) fun _=>hl) fun _=>hl
theorem N39_len:(N39 p).length≤20802:=by
  have h:=wouldL_len' (well_len hp)
  rw [N39_eq hp]
  exact c_ind (P:=fun l:List Mv=>l.length≤20802) (fun _=>c_ind (P:=fun l:List Mv=>l.length≤20802) (fun _=>by simp) fun _=>h) fun _=>h
omit hp in
theorem lp143 (l:List Mv) (hl:l.length≤1000000) (q:Pos) (k:Int):(lp143_1 l (Int.ofNat l.length) q k 0).isSome=true:=by
  refine (of_some (Q:=fun _=>True) (lp_many (I:=fun x=>0≤x∧x≤(l.length:Int)) (μ:=fun x=>((l.length:Int) - x).toNat) ?_ _ ⟨by simp,by simp⟩ (by simp; omega))).1
  rintro n ⟨h0,h1⟩
  by_cases hc:n < l.length
  · refine ⟨c_true (fun _=>a_true (by simp [h0]; exact hc) fun _=>rfl) fun _=>rfl,c_ind (fun _ => ?_) fun h=>absurd h (by simpa using hc)⟩
    rw [wi64 (n:=n+1) (by omega) (by omega)]
    have go:Nxt (fun x:Int=>0≤x∧x≤(l.length:Int)) (fun _:Int ⊕ (Int×Bool)=>True) (fun x=>((l.length:Int) - x).toNat) ((l.length:Int) - n).toNat (.go (n+1)):=⟨⟨by omega,by omega⟩,by dsimp only; omega⟩
    exact c_ind (fun _=>c_ind (fun _=>trivial) fun _=>go) fun _=>go
  · exact ⟨c_true (fun h=>absurd h (by simpa using hc)) fun _=>rfl,c_ind (fun h=>absurd h (by simpa using hc)) fun _=>trivial⟩
theorem t143:ok143 p=true:=by
  have h:=N39_len hp
  have k1:ok39 p=true:=t39 hp
  have k2:(lp143_1 (N39 p) (Int.ofNat (N39 p).length) p (N106 p 1 6) 0).isSome=true:=lp143 _ (by omega) _ _
  unfold ok143
  repeat' (first | with_reducible rfl | with_reducible exact k1 | with_reducible exact k2 | with_reducible exact t106 _ _ _ | refine a_true ?_ (fun _ => ?_) | refine c_true (fun _ => ?_) (fun _ => ?_))
omit hp in
theorem t138:ok138 p=true:=a_true (t81 _ _) fun _=>rfl
theorem t139 (ht:p.turn≤1):ok139 p=true:=by
  have t0:=hp.t0
  unfold ok139
  rw [wu8 (n:=1 - p.turn) (by omega) (by omega)]
  refine a_true (by simp; omega) fun _=>c_true (fun _=>rfl) fun _=>a_true (by simp; omega) fun _=>rfl
omit hp in
theorem t140:ok140 p=true:=by
  unfold ok140
  repeat' (first | with_reducible rfl | with_reducible exact t106 _ _ _ | refine a_true ?_ (fun _ => ?_) | refine c_true (fun _ => ?_) (fun _ => ?_))
omit hp in
theorem t141:ok141 p=true:=a_true (t66 _ _ _) fun _=>rfl
omit hp in
theorem t142:ok142 p=true:=by
  unfold ok142
  repeat' (first | with_reducible rfl | with_reducible exact t66 _ _ _ | refine a_true ?_ (fun _ => ?_) | refine c_true (fun _ => ?_) (fun _ => ?_))
theorem t38:ok38 p=true:=by
  have v0:=hp.v0
  unfold ok38
  refine c_true (fun _=>rfl) fun h9=>c_true (fun _=>rfl) fun ht => ?_
  have h9:p.variant < 9:=by simpa using h9
  have ht:p.turn≤1:=by simpa using ht
  refine a_true (by simp; omega) fun _ => ?_
  have k3:=t138 (p:=p)
  have k4:=t142 (p:=p)
  have k5:=t139 hp ht
  have k6:=t140 (p:=p)
  have k7:=t141 (p:=p)
  have k8:=t143 hp
  refine c_true (fun _=>rfl) fun n0=>c_true (fun _=>rfl) fun n1=>c_true (fun _=>rfl) fun n2=>c_true (fun _=>a_true k3 fun _=>rfl) fun n3=>c_true (fun _=>a_true k4 fun _=>rfl) fun n4=>c_true (fun _=>a_true k5 fun _=>rfl) fun n5=>c_true (fun _=>a_true k6 fun _=>rfl) fun n6=>c_true (fun _=>a_true k7 fun _=>rfl) fun n7=>a_true ?_ fun _=>a_true k8 fun _=>rfl
  simp only [beq_eq_false_iff_ne,ne_eq,beq_iff_eq,Int.ofNat_eq_natCast] at *
  omega
theorem t18:ok18 p=true:=a_true (t38 hp) fun _=>c_true (fun _=>rfl) fun _=>a_true (t39 hp) fun _=>rfl
theorem N18_eq:N18 p=bif (N38 p).1 != 0 then [] else N39 p:=rfl
theorem N18_len:(N18 p).length≤20802:=by
  unfold N18
  exact c_ind (P:=fun l:List Mv=>l.length≤20802) (fun _=>by simp) fun _=>N39_len hp
end
end Kz
end
section
namespace Kz
open Go Go.RowKit Go.Proofs
set_option maxRecDepth 100000
set_option maxHeartbeats 4000000
noncomputable def K918:List (Nat×Nat×List (Nat×List Nat)):=[(18,9,[(0,[1]),(1,[1,6]),(2,[2]),(3,[2])]),(39,37,[(0,[1]),(1,[1,17]),(2,[2]),(3,[1,3]),(4,[1,3,4]),(5,[1,3,4,5]),(6,[3,4,5,31]),(7,[4]),(8,[2])]),(77,19,[(0,[0,1]),(1,[0,1,7,8]),(2,[0,1,7,8,9]),(3,[0,1,5,7,8]),(4,[0,1,5,7,8,16]),(5,[4]),(6,[0,1,7,8]),(7,[4])]),(82,9,[(0,[0,3]),(1,[4])]),(85,7,[(0,[1,2]),(1,[3])]),(87,7,[(0,[1,2]),(1,[3])]),(88,9,[(0,[0,1]),(1,[4])])]
noncomputable def B918_1:Base:=baseOf Pz (fun f i=>lkC f i K918) [(19,G19),(38,G38),(45,G45),(80,G80),(81,G81),(86,G86)] [] [(82,FK)]
theorem hB918_1:BOk B918_1:=base_ok named_z ⟨s19,s38,s45,s80,s81,s86,trivial⟩ trivial ⟨sFK,trivial⟩
noncomputable def S918_1 (p1:(List Mv)) (p2:Int) (p3:Pos) (p4:Pos) (x:(Int)):St:=St.mk (AV.list ET.mv p1 (Tk.own 2)::AV.func 87 [] [AV.ptr 1 0]::(an 5 (AV.int .i64 p2::AV.int .i64 x::(an 10 [])))) (Hp.mk [(pc p3 []),(pc p4 [])] [0,0,p1.length] [] 0 0 0)
noncomputable def O918_1 (p1:(List Mv)) (p2:Int) (p3:Pos) (p4:Pos):(Int) ⊕ (Int×Bool)→Out
  | (.inl (y))=>.ret (St.mk (an 4 (AV.int .i64 y::(an 14 []))) (Hp.mk [(pc p3 []),(pc p4 [])] [0,0,p1.length] [] 0 0 0))
  | (.inr (y))=>.exit 0 (St.mk (AV.list ET.mv p1 (Tk.own 2)::AV.func 87 [] [AV.ptr 1 0]::(an 5 (AV.int .i64 p2::AV.int .i64 y.fst::AV.bool y.snd::(an 9 [])))) (Hp.mk [(pc p3 []),(pc p4 [])] [0,0,p1.length] [] 0 0 0))
noncomputable def st918_1 (p1:(List Mv)) (p2:Int) (p3:Pos) (p4:Pos) (x:(Int)):Stp (Int) ((Int) ⊕ (Int×Bool)):=(bif decide (x < p2) then (bif N19 p4 (p1.getD x.toNat default) then (Stp.out (.inl ((x)))) else (Stp.go (wr .i64 (x+1)))) else (Stp.out (.inr ((x,decide (x < p2))))))
noncomputable def okL918_1 (p1:(List Mv)) (p2:Int) (p3:Pos) (p4:Pos) (x:(Int)):Bool:=(bif decide (x < p2) then (decide (0≤x)&&decide (x < Int.ofNat p1.length)&&(ok19 p4 (p1.getD x.toNat default)&&true)) else true)
noncomputable def lp918_1 (p1:(List Mv)) (p2:Int) (p3:Pos) (p4:Pos) (x:(Int)):Option ((Int) ⊕ (Int×Bool)):=itl (fun x=>bif okL918_1 p1 p2 p3 p4 x then st918_1 p1 p2 p3 p4 x else .bad) many x
abbrev D918_1 {α:Type} (k:(List Mv)→Int→Pos→Pos→(Int)→α) (s:St):α:=wP s 0 fun q0=>wP s 1 fun q1=>k (tL (ET.mv) (tT s 0)) (tI (tT s 7)) q0 q1 ((tI (tT s 8)))
theorem L918_1 (p1:(List Mv)) (p2:Int) (p3:Pos) (p4:Pos) (x:(Int)) (r:(Int) ⊕ (Int×Bool)) (h:lp918_1 p1 p2 p3 p4 x=some r):LSpec Pz (bodL Pz 77 2) (S918_1 p1 p2 p3 p4 x) (O918_1 p1 p2 p3 p4 r):=LSpec.smd (m:=12) (fn:=77) hB918_1 (D918_1 fun _ _ _ _ x=>some x) (fun o=>match o with | .ret s=>some (.inl (tI (tT s 4))) | .exit 0 s=>some (.inr ((tI (tT s 8)),(tB (tT s 9)))) | _=>none) (fun r=>by cases r <;> rfl) (fun _=>by kernel_rfl) (fun _=>by kernel_rfl) (fun _=>by kernel_rfl) (fun _=>by kernel_rfl) many x r h
noncomputable def F918_1 (b:Code) (s:St):Tr Out:=D918_1 (fun p1 p2 p3 p4 x=>lk2 b (bodL Pz 77 2) s (S918_1 p1 p2 p3 p4 x) (lp918_1 p1 p2 p3 p4 x) (O918_1 p1 p2 p3 p4)) s
theorem sF918_1:∀ b,LSound Pz b (F918_1 b):=fun _ _ _ h=>lk2_ok (L918_1 _ _ _ _ _) h
noncomputable def B918:Base:=baseOf Pz (fun f i=>lkC f i K918) [(19,G19),(38,G38),(45,G45),(80,G80),(81,G81),(86,G86)] [(77,2,F918_1)] [(82,FK)]
theorem hB918:BOk B918:=base_ok named_z ⟨s19,s38,s45,s80,s81,s86,trivial⟩ ⟨sF918_1,trivial⟩ ⟨sFK,trivial⟩
def shLen:FRes→Option (List Mv×Nat)
  | .ret (.list .mv m (.own k)) h=>(h.toks[k]?).map fun n=>(m,n)
  | _=>none
noncomputable def V918 (a:Pos):List Mv×Nat:=(bif (N38 a).fst != 0 then ([],0) else (bif N80 a.variant a.turn then (bif !N81 a a.turn then ([],0) else (bif a.variant==4 then (bif isL ((lp918_1 (kept 85 a (N45 a)) (Int.ofNat (kept 85 a (N45 a)).length) a a 0).getD default) then (bif decide (gl ((lp918_1 (kept 85 a (N45 a)) (Int.ofNat (kept 85 a (N45 a)).length) a a 0).getD default) ≥ 0) then ((kept 87 a (kept 85 a (N45 a))),(kept 87 a (kept 85 a (N45 a))).length) else ((kept 85 a (N45 a)),(kept 85 a (N45 a)).length)) else ((kept 85 a (N45 a)),(kept 85 a (N45 a)).length)) else ((kept 85 a (N45 a)),(kept 85 a (N45 a)).length))) else (bif a.variant==4 then (bif isL ((lp918_1 (kept 85 a (N45 a)) (Int.ofNat (kept 85 a (N45 a)).length) a a 0).getD default) then (bif decide (gl ((lp918_1 (kept 85 a (N45 a)) (Int.ofNat (kept 85 a (N45 a)).length) a a 0).getD default) ≥ 0) then ((kept 87 a (kept 85 a (N45 a))),(kept 87 a (kept 85 a (N45 a))).length) else ((kept 85 a (N45 a)),(kept 85 a (N45 a)).length)) else ((kept 85 a (N45 a)),(kept 85 a (N45 a)).length)) else ((kept 85 a (N45 a)),(kept 85 a (N45 a)).length))))
noncomputable def ok918 (a:Pos):Bool:=(ok38 a&&(bif (N38 a).fst != 0 then true else (ok80 a.variant a.turn&&(bif N80 a.variant a.turn then (ok81 a a.turn&&(bif !N81 a a.turn then true else (ok45 a&&(okKept 85 a (N45 a)&&(bif a.variant==4 then ((lp918_1 (kept 85 a (N45 a)) (Int.ofNat (kept 85 a (N45 a)).length) a a 0).isSome&&bif isL ((lp918_1 (kept 85 a (N45 a)) (Int.ofNat (kept 85 a (N45 a)).length) a a 0).getD default) then (bif decide (gl ((lp918_1 (kept 85 a (N45 a)) (Int.ofNat (kept 85 a (N45 a)).length) a a 0).getD default) ≥ 0) then (okKept 87 a (kept 85 a (N45 a))&&true) else true) else true) else true))))) else (ok45 a&&(okKept 85 a (N45 a)&&(bif a.variant==4 then ((lp918_1 (kept 85 a (N45 a)) (Int.ofNat (kept 85 a (N45 a)).length) a a 0).isSome&&bif isL ((lp918_1 (kept 85 a (N45 a)) (Int.ofNat (kept 85 a (N45 a)).length) a a 0).getD default) then (bif decide (gl ((lp918_1 (kept 85 a (N45 a)) (Int.ofNat (kept 85 a (N45 a)).length) a a 0).getD default) ≥ 0) then (okKept 87 a (kept 85 a (N45 a))&&true) else true) else true) else true)))))))
theorem Q918 (a:Pos):((evF B918 14 18 [Pos.av a] hp0).qt shLen).val=ok918 a:=by kernel_rfl
theorem W918 (a:Pos):(evF B918 14 18 [Pos.av a] hp0).vt shLen=V918 a:=by kernel_rfl
theorem lp918_eq (l:List Mv) (p:Pos):lp918_1 l (Int.ofNat l.length) p p 0=lp39_1 l (Int.ofNat l.length) p 0:=rfl
theorem ok918_t {p:Pos} (hp:PosIn p):ok918 p=true:=by
  have h1:=N45_len hp
  have h2:=well_len hp
  have k0:ok38 p=true:=t38 hp
  have k1:ok80 p.variant p.turn=true:=t80 hp.v0 hp.t0
  have k2:ok45 p=true:=t45 hp
  have k3:okKept 85 p (N45 p)=true:=okKept_72 hp (by omega)
  have k4:okKept 87 p (kept 85 p (N45 p))=true:=okKept_73 hp (by rw [kept_72]; omega)
  have k5:(lp39_1 (kept 85 p (N45 p)) (Int.ofNat (kept 85 p (N45 p)).length) p 0).isSome=true:=(of_some (lp39 hp _ (by rw [kept_72]; omega))).1
  unfold ok918
  rw [lp918_eq]
  repeat' (first | with_reducible rfl | with_reducible exact k0 | with_reducible exact k1 | with_reducible exact k2 | with_reducible exact k3 | with_reducible exact k4 | with_reducible exact k5 | with_reducible exact t81 _ _ | refine a_true ?_ (fun _ => ?_) | refine c_true (fun _ => ?_) (fun _ => ?_))
theorem bif_pair {b:Bool} {x y:List Mv} {u v:List Mv×Nat} (h1:u=(x,x.length)) (h2:v=(y,y.length)):(bif b then u else v)=((bif b then x else y),(bif b then x else y).length):=by
  cases b
  · exact h2
  · exact h1
theorem V918_eq (p:Pos):V918 p=(N18 p,(N18 p).length):=by
  unfold V918 N18 N39
  rw [lp918_eq]
  refine bif_pair rfl (bif_pair (bif_pair rfl (bif_pair (bif_pair (bif_pair rfl rfl) rfl) rfl)) (bif_pair (bif_pair (bif_pair rfl rfl) rfl) rfl))
theorem listM (p:Pos) (hp:PosIn p) (w:World) (hg:GlobOk w) (v:Value) (hv:Rep (gArg w) [] w (Pos.av p) v) :
    Calls Tryz.prog 18 #[v] w fun e w' => ∃ a cap,e=.returned (.slice a (N18 p).length cap)∧RowKit.Below w.heap.size w w'∧FreshRow w w' a cap (N18 p):=by
  obtain ⟨r,h1,h2⟩:=got_t (d:=shLen) (R:=fun r v=>shLen r=some v) (evF B918 14 18 [Pos.av p] hp0) (obl_ok (by kernel_rfl)) (fun a _ v hv=>hv) ((Q918 p).trans (ok918_t hp))
  rw [W918,V918_eq] at h2
  obtain ⟨hspec,_⟩:=(ev_ok hB918 14).1 _ _ _ _ h1
  unfold shLen at h2
  split at h2
  · rename_i m k h
    simp only [Option.map_eq_some_iff,Prod.mk.injEq] at h2
    obtain ⟨n0,hk,hml,hnl⟩:=h2
    subst hnl
    have hml':m=N18 p:=hml
    clear hml
    subst hml'
    refine (callsIn_wide.1 (hspec (gArg w) w #[v] (hp0_mr hg) (.cons hv .nil))).mono ?_
    rintro e w' ⟨g',x,rfl,nx,hx⟩
    generalize N18 p=l at *
    have hbase:g'.base=w.heap.size:=nx.le.base
    cases hx with
    | list hn hE hS hT hC =>
    rename_i a n cap cs
    subst hn
    have hcs:=mvs_cells hE
    obtain ⟨n',hn1,hn2,hown⟩:=hT k rfl
    rw [hk] at hn1
    simp only [Option.some.injEq] at hn1
    obtain ⟨ow,how,hOI⟩:=hown hn1
    refine ⟨a,cap,rfl,nx.le.below,?_⟩
    cases ow with
    | none =>
      obtain ⟨ha,hlen,hcap⟩:=hOI
      exact .inl ⟨ha,List.eq_nil_of_length_eq_zero hlen,hcap⟩
    | some t =>
      obtain ⟨b,cap',z'⟩:=t
      obtain ⟨rfl,rfl,rfl⟩:=hOI
      obtain ⟨_,cells,ty,_,_,hmax,hb,hblk,hsz,_,_⟩:=nx.mr.tok k b cap (esz .mv) how
      refine .inr ⟨b,ty,rfl,by omega,lt_of_some hblk,hC,hmax,rfl,rfl,rfl,Nat.le_refl _,fun _ _ _=>rfl,cells,hblk,hsz,fun j c hj hc => ?_⟩
      have hj':j < l.length:=by simpa using hj
      have h1:j * 5+c < l.length * 5:=by have:=Nat.mul_le_mul_right 5 (show j+1≤l.length from hj'); omega
      have hfl:=flat_get l j c hj' hc
      have ea:l.toArray[j]! = l[j]:=by simp [hj']
      have eb:l[j]! = l[j]:=by simp [hj']
      rw [ea]
      rw [eb] at hfl
      rcases hS with h0 | ⟨c',o',ha,hat,_⟩
      · exfalso
        have:=flat_len l
        rw [← hcs,h0] at this
        simp at this
        omega
      · simp only [Option.some.injEq,Addr.mk.injEq,and_true] at ha
        obtain ⟨rfl,rfl⟩:=ha
        have hx:cs[j * 5+c]?=(encM l[j])[c]? := by rw [hcs]; exact hfl
        obtain ⟨u,hu⟩:∃ u,(encM l[j])[c]?=some u:=⟨_,List.getElem?_eq_getElem (show c < (encM l[j]).length from hc)⟩
        obtain ⟨k1,_⟩:=hat (j * 5+c) u (by rw [hx,hu])
        rw [cell_of_blk hblk,Nat.zero_add] at k1
        rw [k1]
        simp [hu]
  · cases h2
end Kz
end
section
namespace Go.Proofs
open Go.Shelf Go.RowKit Go.Lib Go.Sort Kz
noncomputable def srt (p:Pos) (l:List Mv):List Mv:=(stab (ltC fun a b=>N72 a b p) l.toArray).toList
theorem srt_perm (p:Pos) (l:List Mv):(srt p l).Perm l:=by
  have h:=stab_pm (ltC fun a b=>N72 a b p) l.toArray
  unfold Pm at h
  simpa [srt] using h
theorem srt_len (p:Pos) (l:List Mv):(srt p l).length=l.length:=(srt_perm p l).length_eq
theorem globOk_of {w W:World} (hg:GlobOk w) (hs:w.heap.size≤W.heap.size) (h:∀ k,k < w.heap.size→W.heap[k]?=w.heap[k]?):GlobOk W:=by
  intro pr hpr j x hj
  obtain ⟨h1,h2⟩:=hg pr hpr j x hj
  have hlt:pr.1 < w.heap.size:=h2
  exact ⟨by rw [cell_same (h _ hlt)]; exact h1,Nat.lt_of_lt_of_le hlt hs⟩
set_option maxRecDepth 100000 in
theorem rowL (p:Pos) (w w0:World) (hg:GlobOk w) (hb:RowKit.Below w.heap.size w w0) (blk cap:Nat) (ty:TypeId) (hblk:w.heap.size≤blk) (pb po:Nat) (pcs:List Value) (hp:RepC (gArg w) [] w (segs (Pos.av p)) pcs) (hpb:pb < w.heap.size) (hc:∀ j x,pcs[j]?=some x→w.cell? ⟨pb,po+j,none⟩=some x) :
    RowL 72 #[.pointer (some ⟨pb,po,none⟩)] (fun a b=>N72 a b p) blk 0 5 encM (fun d W=>RowW w0 blk cap ty d W∧d.size≤cap):=by
  have ld:∀ {d:Array Mv} {W:World},RowW w0 blk cap ty d W→∀ i,i < d.size→Sem.run Tryz.prog (loadCellsFrom ⟨blk,0+i * 5,none⟩ 0 5 #[]) W=.ok (encM d[i]!).toArray W:=fun h i hi=>h.load hi
  have st:∀ {d:Array Mv} {W:World},RowW w0 blk cap ty d W→d.size≤cap→∀ i,i < d.size→∀ y:Mv,Sem.run Tryz.prog (storeCells ⟨blk,0+i * 5,none⟩ (encM y) 0) W=.ok () (W.setCells blk (0+i * 5) (encM y)):=by
    intro d W h hs i hi y
    obtain ⟨cur,k1,k2,k3⟩:=h.row
    have:=run_storeCells_cells (P:=Tryz.prog) blk (0+i * 5) (encM y) 0 W (fun j hj => ?_) (fun j hj=>frozen_of_blk k1) (encM_one y)
    · rwa [Nat.add_zero] at this
    · rw [encM_len] at hj
      rw [cell_of_blk k1]
      have h5:i * 5+j < cap * 5:=by have:=Nat.mul_le_mul_right 5 (show i+1≤cap by omega); omega
      rw [show 0+i * 5+0+j=i * 5+j by omega,Array.getElem?_eq_getElem (by omega)]
      rfl
  have pt:∀ {d:Array Mv} {W:World},RowW w0 blk cap ty d W→d.size≤cap→∀ i,i < d.size→∀ y:Mv,RowW w0 blk cap ty (d.setIfInBounds i y) (W.setCells blk (0+i * 5) (encM y)):=by
    intro d W h hs i hi y
    rw [Nat.zero_add]
    exact h.put hi hs y
  have hbs:∀ {d:Array Mv} {W:World},RowW w0 blk cap ty d W→blk < W.heap.size:=fun h=>by
    obtain ⟨cur,k1,_⟩:=h.row
    exact lt_of_some k1
  refine ⟨encM_len,fun h i hi=>ld h.1 i hi,fun h=>⟨⟨h.1.os,h.1.tape,h.1.output,h.1.size,h.1.other,h.1.row⟩,h.2⟩,fun h i hi y=>st h.1 h.2 i hi y,fun h i j hi hj y x=>st (pt h.1 h.2 i hi y) (by simpa using h.2) j (by simpa using hj) x,fun {d W} h i j hi hj=>⟨?_,by rw [size_swp]; exact h.2⟩,fun {d W} h x y => ?_,fun _ _=>rfl⟩
  · exact pt (pt h.1 h.2 i hi d[j]!) (by simpa using h.2) j (by simpa using hj) d[i]!
  · have old:∀ k,k < w.heap.size→W.heap[k]?=w.heap[k]? := fun k hk=>by
      rw [h.1.other k (Nat.lt_of_lt_of_le hk hb.size) (by omega),hb.block k hk]
    have hsz:w.heap.size≤W.heap.size:=Nat.le_trans hb.size h.1.size
    have hs:=S72 x y p
    unfold PureSpec at hs
    have hgW:GlobOk W:=globOk_of hg hsz old
    obtain ⟨args,ha⟩:∃ args:Array Value,args=#[Value.agg (encM x).toArray,Value.agg (encM y).toArray]++#[Value.pointer (some ⟨pb,po,none⟩)]:=⟨_,rfl⟩
    rw [← ha]
    refine Calls.mono (callsIn_wide.1 (hs W args hgW ?_)) ?_
    · have e:(#[Value.agg (encM x).toArray,Value.agg (encM y).toArray]++#[Value.pointer (some ⟨pb,po,none⟩)]).toList=[Value.agg (encM x).toArray,Value.agg (encM y).toArray,Value.pointer (some ⟨pb,po,none⟩)]:=by simp
      rw [ha,e]
      have r1:Rep (gArg W) [] W (Mv.av x) (Value.agg (encM x).toArray) := .agg (mv_rep _ _ _ x)
      have r2:Rep (gArg W) [] W (Mv.av y) (Value.agg (encM y).toArray) := .agg (mv_rep _ _ _ y)
      refine .cons r1 (.cons r2 (.cons (.ptrf (cs:=pcs) (pos_rep hp) ?_) .nil))
      intro j u hj
      exact ⟨by rw [cell_same (old _ hpb)]; exact hc j u hj,Nat.lt_of_lt_of_le hpb hsz⟩
    · rintro e w' ⟨v,rfl,hbw,hv⟩
      cases hv
      refine ⟨rfl,⟨hbw.os.trans h.1.os,hbw.tape.trans h.1.tape,hbw.output.trans h.1.output,Nat.le_trans h.1.size hbw.size,fun k hk hn=>by rw [hbw.block k (Nat.lt_of_lt_of_le hk h.1.size)]; exact h.1.other k hk hn,?_⟩,h.2⟩
      obtain ⟨cur,k1,k2⟩:=h.1.row
      exact ⟨cur,by rw [hbw.block blk (lt_of_some k1)]; exact k1,k2⟩
set_option maxHeartbeats 2000000 in
set_option maxRecDepth 100000 in
theorem ins0 (a:Option Addr) (c:Nat) (fv:Value) (w:World):Calls Tryz.prog 170 #[.slice a 0 c,.int .i64 0,.int .i64 0,fv] w fun e w'=>e=.returned (.tuple #[])∧w'=w:=by
  go_enter Tryz.func170,Tryz.ntmps170
  go_wp2
  go_loopg [8] 0 (fun _ s8 wr=>s8=.int .i64 1∧wr=w)
  case atStart=>exact ⟨rfl,rfl⟩
  case round =>
    obtain ⟨rfl,rfl⟩:=hrel
    go_wp2
    go_end0
    exact ⟨rfl,rfl⟩
set_option maxHeartbeats 2000000 in
set_option maxRecDepth 100000 in
theorem stab0 (a:Option Addr) (c:Nat) (fv:Value) (w:World):Calls Tryz.prog 134 #[.slice a 0 c,.int .i64 0,fv] w fun e w'=>e=.returned (.tuple #[])∧w'=w:=by
  have h:=ins0 a c fv w
  go_enter Tryz.func134,Tryz.ntmps134
  go_wp2
  go_loopg [7,8] 0 (fun _ s7 s8 wr=>s7=.int .i64 0∧s8=.int .i64 20∧wr=w)
  case atStart=>exact ⟨rfl,rfl,rfl⟩
  case round =>
    obtain ⟨rfl,rfl,rfl⟩:=hrel
    go_wp2_with fail
    refine h.mono ?_
    rintro e w' ⟨rfl,rfl⟩
    clear h
    go_wp2
    go_loopg [6] 0 (fun _ s6 wr=>s6=.int .i64 20∧wr=w')
    case atStart=>exact ⟨rfl,rfl⟩
    case round =>
      obtain ⟨rfl,rfl⟩:=hrel
      go_wp2
      go_end0
      exact ⟨rfl,rfl⟩
set_option maxHeartbeats 2000000 in
set_option maxRecDepth 100000 in
theorem sort0 (a:Option Addr) (c:Nat) (fv:Value) (w:World):Calls Tryz.prog 71 #[.slice a 0 c,fv] w fun e w'=>e=.returned (.tuple #[])∧w'=w:=by
  have h:=stab0 a c fv w
  go_enter Tryz.func71,Tryz.ntmps71
  go_wp2_with fail
  refine h.mono ?_
  rintro e w' ⟨rfl,rfl⟩
  go_wp2
  go_end0
  exact ⟨rfl,rfl⟩
set_option maxHeartbeats 4000000 in
set_option maxRecDepth 100000 in
theorem sortM (p:Pos) (l:List Mv) (hl:l.length≤lim):PureSpec Tryz.prog 34 [Pos.av p,.list .mv l .arg] (.list .mv (srt p l) .fresh):=by
  intro w vals hg hr
  obtain ⟨vals⟩:=vals
  cases hr with
  | cons q1 r1 =>
  cases r1 with
  | cons q2 r2 =>
  cases r2
  obtain ⟨pcs,rfl,hpc⟩:=Rep.inv_agg (l:=segs (Pos.av p)) q1
  cases q2 with
  | list hn hE hS hT hC =>
  rename_i a n cap cs
  subst hn
  clear q1
  refine callsIn_wide.2 ?_
  have hw1:RowKit.Below w.heap.size w ((w.alloc (Obj.cells pcs 34)).alloc (Obj.cells #[Value.slice a l.length cap] 40)):=((Below.refl _ w).alloc (Nat.le_refl _) _).alloc (by simp) _
  have hs1:((w.alloc (Obj.cells pcs 34)).alloc (Obj.cells #[Value.slice a l.length cap] 40)).heap.size=w.heap.size+2:=by simp
  have hg1:GlobOk ((w.alloc (Obj.cells pcs 34)).alloc (Obj.cells #[Value.slice a l.length cap] 40)):=globOk_of hg hw1.size hw1.block
  have hbp:((w.alloc (Obj.cells pcs 34)).alloc (Obj.cells #[Value.slice a l.length cap] 40)).heap[w.heap.size]?=some (.cells pcs 34 (0,0)):=by
    have h0:=Below.heap_alloc (w.alloc (Obj.cells pcs 34)) (Obj.cells #[Value.slice a l.length cap] 40) w.heap.size (by simp)
    rw [h0]
    exact heap_alloc_new w _
  have hbs:((w.alloc (Obj.cells pcs 34)).alloc (Obj.cells #[Value.slice a l.length cap] 40)).heap[w.heap.size+1]?=some (.cells #[Value.slice a l.length cap] 40 (0,0)):=by
    have h0:=heap_alloc_new (w.alloc (Obj.cells pcs 34)) (Obj.cells #[Value.slice a l.length cap] 40)
    have h1:(w.alloc (Obj.cells pcs 34)).heap.size=w.heap.size+1:=by simp
    rw [h1] at h0
    exact h0
  have hcs:=mvs_cells hE
  have hrl:Rep (gArg ((w.alloc (Obj.cells pcs 34)).alloc (Obj.cells #[Value.slice a l.length cap] 40))) [] ((w.alloc (Obj.cells pcs 34)).alloc (Obj.cells #[Value.slice a l.length cap] 40)) (.list .mv l .arg) (.slice a l.length cap):=by
    refine .list (cs:=cs) rfl (by rw [hcs]; exact mvs_rep _ _ _ _) (hS.imp id fun ⟨c,o,e1,e2,_⟩=>⟨c,o,e1,fun j x hj => ?_,fun f=>absurd rfl f⟩) (fun k e=>by cases e) hC
    obtain ⟨k1,k2⟩:=e2 j x hj
    have hlt:c < w.heap.size:=k2
    exact ⟨by rw [cell_same (hw1.block _ hlt)]; exact k1,by show c < _; omega⟩
  have hj:=joinM l hl _ hg1 (.slice (some ⟨w.heap.size+1,0,none⟩) 1 1) (.vlist (cs:=[.slice a l.length cap]) rfl (.cons rfl rfl (.one rfl hrl .nil) .nil) (.inr ⟨w.heap.size+1,0,rfl,fun j x hj=>by
    refine ⟨?_,?_⟩
    · rw [cell_of_blk hbs,Nat.zero_add]
      simpa using hj
    · show w.heap.size+1 < _
      omega,fun f=>by cases f⟩) (Nat.le_refl _))
  have hsort:∀ (a':Option Addr) (cap':Nat) (w2:World),RowKit.Below ((w.alloc (Obj.cells pcs 34)).alloc (Obj.cells #[Value.slice a l.length cap] 40)).heap.size ((w.alloc (Obj.cells pcs 34)).alloc (Obj.cells #[Value.slice a l.length cap] 40)) w2 →
      ((a'=none∧l=[])∨∃ b ty,a'=some ⟨b,0,none⟩∧((w.alloc (Obj.cells pcs 34)).alloc (Obj.cells #[Value.slice a l.length cap] 40)).heap.size≤b∧b < w2.heap.size∧l.length≤cap'∧RowW w2 b cap' ty l.toArray w2) →
      Calls Tryz.prog 71 #[.slice a' l.length cap',.func (.func 72) #[] #[.pointer (some ⟨w.heap.size,0,none⟩)]] w2 fun e w'=>e=.returned (.tuple #[])∧RowKit.Below w.heap.size w w'∧Rep (gRes w w') [] w' (.list .mv (srt p l) .fresh) (.slice a' l.length cap'):=by
    intro a' cap' w2 hb2 hx
    have hb02:RowKit.Below w.heap.size w w2:=hw1.trans (hb2.mono (by omega))
    rcases hx with ⟨rfl,rfl⟩ | ⟨b,ty,rfl,k1,k2,k3,hrow⟩
    · refine (sort0 none cap' _ w2).mono ?_
      rintro e w' ⟨rfl,rfl⟩
      refine ⟨rfl,hb02,?_⟩
      have e0:srt p []=[]:=List.eq_nil_of_length_eq_zero (by rw [srt_len]; rfl)
      rw [e0]
      exact .list (cs:=[]) rfl .nil (.inl rfl) (fun k e=>by cases e) (Nat.zero_le _)
    · obtain ⟨i0,z,a1,a2,a3,a4,a5⟩:=info44
      have hp2:∀ j x,pcs.toList[j]?=some x→((w.alloc (Obj.cells pcs 34)).alloc (Obj.cells #[Value.slice a l.length cap] 40)).cell? ⟨w.heap.size,0+j,none⟩=some x:=fun j x hj=>by
        rw [cell_of_blk hbp,Nat.zero_add]
        simpa using hj
      have L:=rowL p _ w2 hg1 hb2 b cap' ty k1 w.heap.size 0 pcs.toList (pos_rep hpc) (by omega) hp2
      have hs:=sortStable_w L (fun w=>Tryz.isAgg44 w) (fun w=>Tryz.sizeOf44 w) cap' l.length l.toArray w2 (by simp) ⟨hrow,by simpa using k3⟩ (by unfold lim at hl; omega)
      refine hs.mono ?_
      rintro e w' ⟨rfl,hR,_⟩
      obtain ⟨cur,c1,c2,c3⟩:=hR.row
      refine ⟨rfl,⟨hR.os.trans hb02.os,hR.tape.trans hb02.tape,hR.output.trans hb02.output,Nat.le_trans hb02.size hR.size,fun k hk=>by
        rw [hR.other k (by have:=hb02.size; omega) (by omega),hb02.block k hk]⟩,?_⟩
      have hlen:(srt p l).length=l.length:=srt_len p l
      refine .list (cs:=(srt p l).flatMap encM) hlen.symm (mvs_rep _ _ _ _) (.inr ⟨b,0,rfl,fun j x hj => ?_,fun _=>by show w.heap.size≤b; omega⟩) (fun k e=>by cases e) (by omega)
      have hjl:j < (srt p l).length * 5:=by rw [← flat_len]; exact (List.getElem?_eq_some_iff.1 hj).1
      have hdm:j=j / 5 * 5+j % 5:=by omega
      have hq5:j / 5 < (srt p l).length:=by omega
      have hfl:=flat_get (srt p l) (j / 5) (j % 5) hq5 (Nat.mod_lt _ (by omega))
      rw [← hdm,hj] at hfl
      refine ⟨?_,show w.heap.size≤b∧b < w'.heap.size from ⟨by omega,lt_of_some c1⟩⟩
      rw [cell_of_blk c1,Nat.zero_add]
      have h3:=c3 (j / 5) (j % 5) (show j / 5 < (stab (ltC fun a b=>N72 a b p) l.toArray).toList.length from hq5) (Nat.mod_lt _ (by omega))
      rw [← hdm] at h3
      rw [h3,hfl]
      congr 2
      have ea:(srt p l)[j / 5]! = (srt p l)[j / 5]:=by simp [hq5]
      rw [ea]
      have hq6:j / 5 < (stab (ltC fun a b=>N72 a b p) l.toArray).size:=hq5
      have eb:=getElem!_pos (stab (ltC fun a b=>N72 a b p) l.toArray) (j / 5) hq6
      rw [eb]
      simp [srt]
  have HJ:=Lib.hid hj
  have HS:=Lib.hid hsort
  clear hw1 hs1 hg1 hbp hbs hcs hrl hj hsort hS hT hE hC hpc hg
  go_enter Tryz.func34,Tryz.ntmps34
  go_wp2_with fail
  refine HJ.out.mono ?_
  rintro e w2 ⟨a',cap',rfl,hb2,hx⟩
  have hc:=HS.out a' cap' w2 hb2 hx
  clear HJ HS hb2 hx
  go_wp2_with fail
  refine hc.mono ?_
  rintro e w3 ⟨rfl,hb3,hr3⟩
  have HB:=Lib.hid hb3
  have HR:=Lib.hid hr3
  clear hb3 hr3 hc
  go_wp2_with fail
  go_ret
  exact ⟨_,rfl,HB.out,HR.out⟩
end Go.Proofs
end
section
namespace Kz
open Go Go.RowKit
set_option maxRecDepth 100000
set_option maxHeartbeats 4000000
def cl (h f:Int) (p:Pos):Pos:=⟨p.variant,p.board,p.promoted,p.pockets,p.turn,p.rooks,p.passing,p.checks,h,f⟩
def Stp.map {X X' R R':Type} (φ:X→X') (ψ:R→R'):Stp X R→Stp X' R'
  | .go x=>.go (φ x)
  | .out r=>.out (ψ r)
  | .bad=>.bad
section
variable (h f:Int) (p:Pos)
end
section
variable (h f h2 f2 h3 f3:Int) (a q p:Pos) (b m:Mv) (c:Int)
end
section
variable {p:Pos} (hp:PosIn p)
include hp
variable {h f:Int} (hq:PosIn (cl h f p))
include hq
end
theorem t191 (p:Pos) (b:Int):ok191 p b=true:=a_true (t66 _ _ _) fun _=>a_true (t66 _ _ _) fun _=>rfl
theorem t161 (p:Pos):ok161 p=true:=by
  unfold ok161
  rw [show (Pos.mk p.variant p.board p.promoted p.pockets p.turn p.rooks p.passing p.checks p.half p.full)=p from rfl]
  repeat' (first | with_reducible rfl | with_reducible exact t151 _ | with_reducible exact t191 _ _ | with_reducible exact t66 _ _ _ | refine a_true ?_ (fun _ => ?_) | refine c_true (fun _ => ?_) (fun _ => ?_))
theorem t112 (p:Pos):ok112 p=true:=a_true (t161 _) fun _=>rfl
theorem t111 {p:Pos} (hp:PosIn p):ok111 p=true:=a_true (t18 hp) fun _=>c_true (fun _=>rfl) fun _=>c_true (fun _=>rfl) fun _=>a_true (t109 hp.v0 hp.t0) fun _=>rfl
theorem t24 {p:Pos} (hp:PosIn p):ok24 p=true:=c_true (fun _=>rfl) fun _=>c_true (fun _=>rfl) fun _=>a_true (t38 hp) fun _=>c_true (fun _=>rfl) fun _=>a_true (t111 hp) fun _=>c_true (fun _=>rfl) fun _=>a_true (t112 p) fun _=>rfl
section
variable {p:Pos} (hp:PosIn p) {h f:Int} (hq:PosIn (cl h f p))
include hp hq
end
end Kz
end
section
namespace Go.Proofs
open Go.Shelf Go.RowKit Go.Lib Go.Sort
set_option maxHeartbeats 1000000 in
set_option maxRecDepth 100000 in
theorem delT (p:Kz.Mv→Bool) (g:Nat) (lb:Array Value) (eg:∀ args w,(callFunc g args).run Tryz.prog w=.ok (.enter g args) w) (blk cap:Nat) (d:Array Kz.Mv) (w:World) (ty:TypeId) (hb:blk < w.heap.size) (hH:RowW w blk cap ty d w) (hcap:d.size≤cap) (hmax:cap≤maxLen)
    (hpo:∀ W dk x,RowW w blk cap ty dk W→Calls Tryz.prog g (#[.agg (encM x).toArray]++lb) W fun e w'=>e=.returned (.bool (p x))∧RowKit.Below W.heap.size W w') :
    Calls Tryz.prog 35 #[.slice (some ⟨blk,0,none⟩) d.size cap,.func (.func g) #[] lb] w fun e w'=>e=.returned (.slice (some ⟨blk,0,none⟩) (d.toList.filter fun x => !p x).length cap)∧RowW w blk cap ty (d.toList.filter fun x => !p x).toArray w':=by
  have hsz:d.size≤9223372036854775807:=by unfold maxLen at hmax; omega
  have e6:∀ args w,(callFunc 77 args).run Tryz.prog w=.ok (.enter 77 args) w:=fun args w=>by rfl
  have hp:PredBelow Tryz.prog g lb (fun x=>.agg (encM x).toArray) p w:=fun W x hB=>(hpo W d x (hH.below hb hB)).mono fun e w' ⟨h1,h2⟩=>⟨h1,hB.trans (h2.mono hB.size)⟩
  have hIF:=AnyQ.slices_IndexFunc Tryz.idxM 5 Tryz.isAgg44 Tryz.sizeOf44 encM encM_len p g lb eg blk 0 d.size cap d.toList w hp (by simp) hsz hb (fun j hj i v hi=>by
    have hi5:i < 5:=(List.getElem?_eq_some_iff.1 hi).1
    have hj':j < d.size:=by simpa using hj
    obtain ⟨cur,h1,h2,h3⟩:=hH.row
    rw [Kz.cell_of_blk h1,Nat.zero_add,h3 j i hj' hi5]
    rw [← hi,getElem!_pos d j hj',getElem!_pos d.toList j hj]
    simp)
  rw [show d.toList.take d.size=d.toList from List.take_of_length_le (by simp)] at hIF
  have tl:∀ j,j < d.size→d.toList[j]! = d[j]! := fun j hj=>by rw [getElem!_pos d j hj,getElem!_pos d.toList j (by simpa using hj)]; simp
  obtain ⟨kp,HK⟩:∃ kp:Nat→Bool,Hid (kp=fun j => !p d[j]!):=⟨_,rfl⟩
  have hfil:(d.toList.filter fun x => !p x)=keptUpTo kp d d.size:=by rw [HK.out]; exact (keptUpTo_filter (fun x => !p x) d).symm
  rw [hfil]
  rcases idxByFrom_spec (fun _ y=>p y) default d.toList 0 with ⟨e1,hall⟩ | ⟨k0,hk0,e1,ht,hall⟩
  ·
    have e2:Lib.idxBy (fun _ y=>p y) d.toList default = -1:=e1
    rw [e2] at hIF
    have hkeep:∀ j,j < d.size→kp j=true:=fun j hj=>by rw [HK.out]; show (!p d[j]!)=true; rw [← tl j hj,hall j (by simpa using hj)]; rfl
    have e3:keptUpTo kp d d.size=d.toList:=by rw [keptUpTo_all kp d _ hkeep,range_map_get]
    have HH:Aside (RowW w blk cap ty d w):=hH
    have HB:Hid (blk < w.heap.size):=hb
    clear hH hpo hp hb
    go_enter Tryz.func35,Tryz.ntmps35
    go_wp2_with (go_at_fn 77; refine hIF.mono ?_; rintro e w' ⟨rfl,hbl⟩)
    go_ret
    rw [e3]
    exact ⟨by simp,by simpa using HH.out.below HB.out hbl⟩
  · have hk0':k0 < d.size:=by simpa using hk0
    have e2:Lib.idxBy (fun _ y=>p y) d.toList default=(k0:Int):=by unfold Lib.idxBy; rw [e1]; simp
    rw [e2] at hIF
    have hkeep:∀ j,j < k0→kp j=true:=fun j hj=>by rw [HK.out]; show (!p d[j]!)=true; rw [← tl j (by omega),hall j hj]; rfl
    have hdrop:kp k0=false:=by rw [HK.out]; show (!p d[k0]!)=false; rw [← tl k0 hk0']; rw [show p d.toList[k0]! = true from ht]; rfl
    have hne1:((k0:Int) == -1)=false:=beq_eq_false_iff_ne.2 (by omega)
    have HC:Aside _:=hpo
    have HH:Aside (RowW w blk cap ty d w):=hH
    have HB:Hid (blk < w.heap.size):=hb
    clear hpo hp hH hb hall ht e1 e2 tl
    go_enter Tryz.func35,Tryz.ntmps35
    go_wp2_with (go_at_fn 77; refine hIF.mono ?_; rintro e w' ⟨rfl,hbl⟩)
    have HBL:=Lib.hid hbl
    clear hbl
    go_loopg [5,6,7] d.size (fun gg s5 s6 _ wr => ∃ (i j:Nat) (dk:Array Kz.Mv),s5=.int .i64 i∧s6=.int .i64 j∧j≤d.size∧d.size - j≤gg∧Aside (RowW w blk cap ty dk wr)∧Aside (KeptInv kp d j i dk))
    case atStart=>exact ⟨k0,k0+1,d,rfl,by go_num,by omega,by omega,HH.out.below HB.out HBL.out,KeptInv.start hkeep hdrop⟩
    case round =>
      obtain ⟨i,j,dk,rfl,rfl,hjd,hgg,W2,I2⟩:=hrel
      have hI:=I2.out
      have hij:=hI.lt
      have hds:=hI.size
      by_cases hlt:j < d.size
      · have hltz:(j:Int) < (d.size:Int):=by omega
        have c0:=(W2.out.cell (j:=j) (by omega) 0 (by omega)).1
        have c1:=(W2.out.cell (j:=j) (by omega) 1 (by omega)).1
        have c2:=(W2.out.cell (j:=j) (by omega) 2 (by omega)).1
        have c3:=(W2.out.cell (j:=j) (by omega) 3 (by omega)).1
        have c4:=(W2.out.cell (j:=j) (by omega) 4 (by omega)).1
        simp only [hI.high j (by omega),encM,List.getElem_cons_succ,List.getElem_cons_zero,Nat.add_zero] at c0 c1 c2 c3 c4
        clear hI
        generalize hu:d[j]! = u at c0 c1 c2 c3 c4
        have C:Aside (d[j]! = u):=hu
        clear hu
        have hW1:RowW w blk cap ty dk (wr.alloc (Obj.cells #[Value.int IntKind.i8 u.frm,Value.int IntKind.i8 u.to,Value.int IntKind.u8 u.pro,Value.int IntKind.u8 u.drp,Value.bool u.cas] 44)) :=
          W2.out.below HB.out ((Below.refl _ _).alloc (Nat.le_refl _) _)
        have hcall:Calls Tryz.prog g (#[Value.agg #[Value.int IntKind.i8 u.frm,Value.int IntKind.i8 u.to,Value.int IntKind.u8 u.pro,Value.int IntKind.u8 u.drp,Value.bool u.cas]]++lb) _ _:=HC.out _ dk u hW1
        have HW1:=Lib.hid hW1
        clear hW1
        cases hq:p u with
        | false =>
          rw [hq] at hcall
          have HCALL:=Lib.hid hcall
          clear hcall
          go_wp2_with fail
          refine HCALL.out.mono ?_
          rintro e w2 ⟨rfl,hb2⟩
          have hW2:=HW1.out.below HB.out hb2
          have r0:=hW2.cell (j:=i) (by omega) 0 (by omega)
          have r1:=hW2.cell (j:=i) (by omega) 1 (by omega)
          have r2:=hW2.cell (j:=i) (by omega) 2 (by omega)
          have r3:=hW2.cell (j:=i) (by omega) 3 (by omega)
          have r4:=hW2.cell (j:=i) (by omega) 4 (by omega)
          simp only [Nat.add_zero] at r0
          obtain ⟨r0,f0⟩:=r0
          obtain ⟨r1,f1⟩:=r1
          obtain ⟨r2,f2⟩:=r2
          obtain ⟨r3,f3⟩:=r3
          obtain ⟨r4,f4⟩:=r4
          have hcs:∀ c,w2.cell? ⟨wr.heap.size,c,none⟩=(#[Value.int IntKind.i8 u.frm,Value.int IntKind.i8 u.to,Value.int IntKind.u8 u.pro,Value.int IntKind.u8 u.drp,Value.bool u.cas]:Array Value)[c]? := fun c=>by
            rw [hb2.cell (p:=⟨wr.heap.size,c,none⟩) (by simp),Kz.cell_of_blk (heap_alloc_new wr _)]
          have b0:=hcs 0
          have b1:=hcs 1
          have b2:=hcs 2
          have b3:=hcs 3
          have b4:=hcs 4
          simp at b0 b1 b2 b3 b4
          have HW2:=Lib.hid hW2
          clear hcs hb2 hW2
          go_wp2_with fail
          go_roundg (d.size - (j+1))
          case measure=>omega
          case rel =>
            refine ⟨i+1,j+1,dk.setIfInBounds i u,by go_num,by go_num,by omega,Nat.le_refl _,HW2.out.put (i:=i) (by omega) (by omega) u,(show Aside _ from ?_)⟩
            have:=I2.out.keep hlt (by rw [HK.out]; show (!p d[j]!)=true; rw [C.out,hq]; rfl)
            rwa [C.out] at this
        | true =>
          rw [hq] at hcall
          have HCALL:=Lib.hid hcall
          clear hcall
          go_wp2_with fail
          refine HCALL.out.mono ?_
          rintro e w2 ⟨rfl,hb2⟩
          have HW2:=Lib.hid (HW1.out.below HB.out hb2)
          clear hb2
          go_wp2_with fail
          go_roundg (d.size - (j+1))
          case measure=>omega
          case rel=>exact ⟨i,j+1,dk,rfl,by go_num,by omega,Nat.le_refl _,HW2.out,I2.out.skip (by rw [HK.out]; show (!p d[j]!)=false; rw [C.out,hq]; rfl)⟩
      · obtain rfl:j=d.size:=by omega
        have hltz:¬ (d.size:Int) < (d.size:Int):=by omega
        have hcl:∀ ty,(Builtin.clear_ #[40] ty #[.slice (some ⟨blk,i * 5,none⟩) (d.size - i) (cap - i)]).run Tryz.prog wr=.ok (.tuple #[]) (wr.setCells blk (i * 5) (Builtin.zeroCells zeroM (d.size - i)).toList):=by
          obtain ⟨cur,h1,h2,h3⟩:=W2.out.row
          refine run_clear5 wr blk (i * 5) (d.size - i) (cap - i) (by omega) (fun t ht => ?_) (fun t ht=>Kz.frozen_of_blk h1)
          rw [Kz.cell_of_blk h1]
          have:d.size * 5≤cap * 5:=Nat.mul_le_mul_right 5 hcap
          have h5:(d.size - i) * 5=d.size * 5 - i * 5:=Nat.sub_mul _ _ _
          rw [Array.getElem?_eq_getElem (by omega)]
          rfl
        have hid:i≤d.size:=by omega
        clear hI
        go_wp2
        go_ret
        have hI:=I2.out
        refine ⟨by rw [hI.len]; rfl,?_⟩
        have:=W2.out.tail (i:=i) (n:=d.size - i) (by omega) (by omega) _ (zeroM_len (d.size - i))
        have e:keptUpTo kp d d.size=dk.toList.take i:=by
          have hsz':=hI.size
          apply List.ext_getElem?
          intro j
          by_cases hj:j < i
          · rw [hI.low j hj,List.getElem?_take_of_lt hj,getElem!_pos dk j (by omega),List.getElem?_eq_getElem (by simp; omega)]
            simp
          · rw [List.getElem?_eq_none (by rw [hI.len]; omega),List.getElem?_eq_none (by simp; omega)]
        rw [e]
        exact this
end Go.Proofs
end
section
namespace Kz
open Go Go.RowKit Go.Proofs
set_option maxRecDepth 100000
noncomputable def B33:Base:=baseOf Pz (fun _ _=>[]) [(19,G19)] [] []
theorem hB33:BOk B33:=base_ok named_z ⟨s19,trivial⟩ trivial trivial
theorem P33 (m:Mv) (p:Pos) (h:(ok19 p m&&true)=true):PS Pz 33 [Mv.av m,.ptrf (Pos.av p)] (dB.res (!N19 p m)):=ps_sum (n:=14) hB33 (by kernel_rfl) (by kernel_rfl) (by kernel_rfl) h
theorem t11 {p:Pos} (hp:PosIn p):ok11 p=true:=a_true (t24 hp) fun _=>rfl
noncomputable def takesL (p:Pos):List Mv:=bif N11 p then [] else srt p ((N18 p).filter (N19 p))
end Kz
namespace Go.Proofs
open Go.Shelf Go.RowKit Go.Lib Go.Sort Kz
theorem pos_len {g:Gh} {tk:List Nat} {w:World} {p:Pos} {cs:List Value} (h:RepC g tk w (segs (Pos.av p)) cs):cs.length=88:=by
  change RepC g tk w [.int .u8 p.variant,.ints .u8 64 p.board,.u64 p.promoted,.ints .u8 12 p.pockets,.int .u8 p.turn,.ints .i8 4 p.rooks,.int .i8 p.passing,.ints .u8 2 p.checks,.int .i64 p.half,.int .i64 p.full] cs at h
  obtain ⟨x1,r1,e1,q1,h1⟩:=h.inv_one rfl
  obtain ⟨l2,r2,e2,h2⟩:=h1.inv_ints
  obtain ⟨x3,r3,e3,q3,h3⟩:=h2.inv_one rfl
  obtain ⟨l4,r4,e4,h4⟩:=h3.inv_ints
  obtain ⟨x5,r5,e5,q5,h5⟩:=h4.inv_one rfl
  obtain ⟨l6,r6,e6,h6⟩:=h5.inv_ints
  obtain ⟨x7,r7,e7,q7,h7⟩:=h6.inv_one rfl
  obtain ⟨l8,r8,e8,h8⟩:=h7.inv_ints
  obtain ⟨x9,r9,e9,q9,h9⟩:=h8.inv_one rfl
  obtain ⟨x10,r10,e10,q10,h10⟩:=h9.inv_one rfl
  have e11:=h10.inv_nil
  rw [e1,e2,e3,e4,e5,e6,e7,e8,e9,e10,e11]
  simp [l2,l4,l6,l8]
structure Kept (w w1 W:World):Prop where
  b:RowKit.Below w.heap.size w W
  s:w1.heap.size≤W.heap.size
  p:W.heap[w.heap.size]?=w1.heap[w.heap.size]?
theorem Kept.drew {w w1 W:World} (h:Kept w w1 W):Kept w w1 W.drew:=⟨h.b.drew,h.s,h.p⟩
theorem rep_res {w W W':World} {l:List Mv} {v:Value} (hb:w.heap.size≤W.heap.size) (h:Rep (gRes W W') [] W' (.list .mv l .fresh) v):Rep (gRes w W') [] W' (.list .mv l .fresh) v:=by
  cases h with
  | list hn hE hS hT hC =>
  refine .list hn (by rw [mvs_cells hE]; exact mvs_rep _ _ _ _) (hS.imp id fun ⟨c,o,e1,e2,e3⟩=>⟨c,o,e1,fun j x hj => ?_,fun f => ?_⟩) (fun k e=>by cases e) hC
  · obtain ⟨k1,k2,k3⟩:=e2 j x hj
    exact ⟨k1,Nat.le_trans hb k2,k3⟩
  · exact Nat.le_trans hb (e3 f)
theorem row_rep {w0 W:World} {b cap:Nat} {ty:TypeId} {l:List Mv} (h:RowW w0 b cap ty l.toArray W) (hc:l.length≤cap):Rep (gArg W) [] W (.list .mv l .arg) (.slice (some ⟨b,0,none⟩) l.length cap):=by
  obtain ⟨cur,c1,c2,c3⟩:=h.row
  refine .list (cs:=l.flatMap encM) rfl (mvs_rep _ _ _ _) (.inr ⟨b,0,rfl,fun j x hj => ?_,fun f=>absurd rfl f⟩) (fun k e=>by cases e) hc
  have hjl:j < l.length * 5:=by rw [← flat_len]; exact (List.getElem?_eq_some_iff.1 hj).1
  have hdm:j=j / 5 * 5+j % 5:=by omega
  have hq5:j / 5 < l.length:=by omega
  have hfl:=flat_get l (j / 5) (j % 5) hq5 (Nat.mod_lt _ (by omega))
  rw [← hdm,hj] at hfl
  refine ⟨?_,show b < W.heap.size from lt_of_some c1⟩
  rw [cell_of_blk c1,Nat.zero_add]
  have h3:=c3 (j / 5) (j % 5) (by simpa using hq5) (Nat.mod_lt _ (by omega))
  rw [← hdm] at h3
  rw [h3,hfl]
  congr 2
  have ea:l.toArray[j / 5]! = l[j / 5]:=by simp [hq5]
  have eb:l[j / 5]! = l[j / 5]:=by simp [hq5]
  rw [ea,eb]
set_option maxHeartbeats 4000000 in
set_option maxRecDepth 100000 in
theorem takesM (p:Pos) (hp:PosIn p) (k:Nat) (zE:∀ w,(Go.sizeOf 34).run Tryz.prog w=.ok k w) (hk:k=88):PureSpec Tryz.prog 16 [Pos.av p] (.list .mv (takesL p) .fresh):=by
  intro w vals hg hr
  obtain ⟨vals⟩:=vals
  cases hr with
  | cons q1 r1 =>
  cases r1
  obtain ⟨pcs,rfl,hpc⟩:=Rep.inv_agg (l:=segs (Pos.av p)) q1
  clear q1
  refine callsIn_wide.2 ?_
  have aE:∀ w,(isAgg 34).run Tryz.prog w=.ok true w:=Tryz.isAgg34
  have hlen:pcs.toList.length=k:=(pos_len hpc).trans hk.symm
  obtain ⟨w1,hw1⟩:∃ w1,w1=w.alloc (Obj.cells pcs 34):=⟨_,rfl⟩
  have hs1:w1.heap.size=w.heap.size+1:=by rw [hw1]; simp
  have hp1:w1.heap[w.heap.size]?=some (.cells pcs 34 (0,0)):=by rw [hw1]; exact heap_alloc_new w _
  have hb1:RowKit.Below w.heap.size w w1:=by rw [hw1]; exact (Below.refl _ w).alloc (Nat.le_refl _) _
  have ld:∀ W,Kept w w1 W→Sem.run Tryz.prog (loadCellsFrom ⟨w.heap.size,0,none⟩ 0 k #[]) W=.ok pcs W:=fun W hW=>by
    have h:=run_loadCellsFrom_list Tryz.prog _ _ pcs.toList k hlen (fun c v hc=>by
      rw [Addr.add_lit,cell_of_blk (hW.p.trans hp1),Nat.zero_add]
      simpa using hc)
    simpa using h
  have r0:∀ W,Kept w w1 W→Rep (gArg W) [] W (Pos.av p) (.agg pcs):=fun W hW=>.agg (pos_rep hpc)
  have g0:∀ W,Kept w w1 W→GlobOk W:=fun W hW=>globOk_of hg hW.b.size hW.b.block
  have k11:∀ W,Kept w w1 W→Calls Tryz.prog 11 #[.agg pcs] W fun e w'=>e=.returned (.bool (N11 p))∧Kept w w1 w':=fun W hW=>by
    have h:=(P11 p (t11 hp)).1
    unfold PureSpec at h
    refine Calls.mono (callsIn_wide.1 (h W #[.agg pcs] (g0 W hW) (.cons (r0 W hW) .nil))) ?_
    rintro e w' ⟨x,rfl,hb,hx⟩
    cases hx
    have:=hW.s
    exact ⟨rfl,hW.b.trans (hb.mono hW.b.size),Nat.le_trans hW.s hb.size,(hb.block _ (by omega)).trans hW.p⟩
  have hK1:Kept w w1 w1:=⟨hb1,Nat.le_refl _,rfl⟩
  have hll:=N18_len hp
  have hfl:((N18 p).filter (N19 p)).length≤(N18 p).length:=List.length_filter_le _ _
  have k18:∀ W,Kept w w1 W→Calls Tryz.prog 18 #[.agg pcs] W fun e w' => ∃ a cap,e=.returned (.slice a (N18 p).length cap)∧Hid (Kept w w1 w')∧Hid (FreshRow W w' a cap (N18 p)):=fun W hW=>by
    refine Calls.mono (listM p hp W (g0 W hW) (.agg pcs) (r0 W hW)) ?_
    rintro e w' ⟨a,cap,rfl,hb,hF⟩
    have:=hW.s
    exact ⟨a,cap,rfl,⟨hW.b.trans (hb.mono hW.b.size),Nat.le_trans hW.s hb.size,(hb.block _ (by omega)).trans hW.p⟩,hF⟩
  have k33:∀ W u,Kept w w1 W→Calls Tryz.prog 33 (#[.agg (encM u).toArray]++#[.pointer (some ⟨w.heap.size,0,none⟩)]) W fun e w'=>e=.returned (.bool (!N19 p u))∧RowKit.Below W.heap.size W w':=fun W u hW=>by
    have h:=(P33 u p (by rw [t19 hp.v0]; rfl)).1
    unfold PureSpec at h
    obtain ⟨args,ha⟩:∃ args:Array Value,args=#[Value.agg (encM u).toArray]++#[Value.pointer (some ⟨w.heap.size,0,none⟩)]:=⟨_,rfl⟩
    rw [← ha]
    refine Calls.mono (callsIn_wide.1 (h W args (g0 W hW) ?_)) ?_
    · have e:args.toList=[Value.agg (encM u).toArray,Value.pointer (some ⟨w.heap.size,0,none⟩)]:=by rw [ha]; simp
      rw [e]
      have r1:Rep (gArg W) [] W (Mv.av u) (Value.agg (encM u).toArray) := .agg (mv_rep _ _ _ u)
      refine .cons r1 (.cons (.ptrf (cs:=pcs.toList) (pos_rep hpc) ?_) .nil)
      intro j x hj
      have hs:=hW.s
      refine ⟨?_,show w.heap.size < W.heap.size by omega⟩
      rw [cell_of_blk (hW.p.trans hp1),Nat.zero_add]
      simpa using hj
    · rintro e w' ⟨x,rfl,hb,hx⟩
      cases hx
      exact ⟨rfl,hb⟩
  have k35:∀ W W3 a cap,Kept w w1 W→Kept w w1 W3→FreshRow W W3 a cap (N18 p)→Calls Tryz.prog 35 #[.slice a (N18 p).length cap,.func (.func 33) #[] #[.pointer (some ⟨w.heap.size,0,none⟩)]] W3 fun e w' => ∃ a',e=.returned (.slice a' ((N18 p).filter (N19 p)).length cap)∧Hid (Kept w w1 w')∧Hid (Rep (gArg w') [] w' (.list .mv ((N18 p).filter (N19 p)) .arg) (.slice a' ((N18 p).filter (N19 p)).length cap)):=fun W W3 a cap hW hW3 hF=>by
    rcases hF with ⟨rfl,hl0,rfl⟩ | ⟨b,ty,rfl,k1,k2,k3,k4,hrow⟩
    · have el:(N18 p).length=0:=by rw [hl0]; rfl
      have e0:(N18 p).filter (N19 p)=[]:=by rw [hl0]; rfl
      rw [el,e0]
      refine (del0 none 0 _ W3).mono ?_
      rintro e w' ⟨rfl,rfl⟩
      exact ⟨none,rfl,hW3,.list (cs:=[]) rfl .nil (.inl rfl) (fun k e=>by cases e) (Nat.le_refl _)⟩
    · have hsW:=hW.s
      have hd:=delT (fun u => !N19 p u) 33 #[.pointer (some ⟨w.heap.size,0,none⟩)] (fun _ _=>rfl) b cap (N18 p).toArray W3 ty k2 hrow (by simpa using k3) k4 (fun W' dk u hW'=>by
        have hK:Kept w w1 W':=⟨⟨hW'.os.trans hW3.b.os,hW'.tape.trans hW3.b.tape,hW'.output.trans hW3.b.output,Nat.le_trans hW3.b.size hW'.size,fun q hq=>by
          have:=hW3.b.size
          rw [hW'.other q (by omega) (by omega),hW3.b.block q hq]⟩,Nat.le_trans hW3.s hW'.size,by
          have:=hW3.s
          rw [hW'.other _ (by omega) (by omega),hW3.p]⟩
        exact k33 W' u hK)
      simp only [List.size_toArray,Bool.not_not] at hd
      refine hd.mono ?_
      rintro e w' ⟨rfl,hR⟩
      refine ⟨_,rfl,⟨⟨hR.os.trans hW3.b.os,hR.tape.trans hW3.b.tape,hR.output.trans hW3.b.output,Nat.le_trans hW3.b.size hR.size,fun q hq=>by
          have:=hW3.b.size
          rw [hR.other q (by omega) (by omega),hW3.b.block q hq]⟩,Nat.le_trans hW3.s hR.size,by
          have:=hW3.s
          rw [hR.other _ (by omega) (by omega),hW3.p]⟩,row_rep hR (by omega)⟩
  have k34:∀ W v,Kept w w1 W→Rep (gArg W) [] W (.list .mv ((N18 p).filter (N19 p)) .arg) v→Calls Tryz.prog 34 #[.agg pcs,v] W fun e w' => ∃ x,e=.returned x∧Hid (RowKit.Below w.heap.size w w')∧Hid (Rep (gRes w w') [] w' (.list .mv (srt p ((N18 p).filter (N19 p))) .fresh) x):=fun W v hW hv=>by
    have h:=sortM p ((N18 p).filter (N19 p)) (by unfold lim; omega)
    unfold PureSpec at h
    refine Calls.mono (callsIn_wide.1 (h W #[.agg pcs,v] (g0 W hW) (.cons (r0 W hW) (.cons hv .nil)))) ?_
    rintro e w' ⟨x,rfl,hb,hx⟩
    exact ⟨x,rfl,hW.b.trans (hb.mono hW.b.size),rep_res hW.b.size hx⟩
  have K18:Aside _:=k18
  have K35:Aside _:=k35
  have K34:Aside _:=k34
  clear k18 k33 k35 k34 hll hfl
  have LD:Aside _:=ld
  have K11:Aside _:=k11
  clear ld k11 hg hk hlen
  have l1:Sem.run Tryz.prog (loadCellsFrom { block:=w.heap.size,off:=0,spot:=none } 0 k #[]) (w.alloc (Obj.cells pcs 34))=.ok pcs (w.alloc (Obj.cells pcs 34)):=by rw [← hw1]; exact LD.out w1 hK1
  have c11:=K11.out w1 hK1
  rw [hw1] at c11
  have HW1:=Lib.hid hw1
  have HS1:=Lib.hid hs1
  have HP1:=Lib.hid hp1
  have HB1:=Lib.hid hb1
  have R0:=Lib.hid r0
  have G0:=Lib.hid g0
  clear hK1 hs1 hp1 hb1 r0 g0 hw1
  go_enter Tryz.func16,Tryz.ntmps16
  go_wp2_with fail
  refine c11.mono ?_
  rintro e w2 ⟨rfl,hK2⟩
  rw [← HW1.out] at hK2
  have HK2:=Lib.hid hK2
  clear l1 hK2 c11
  cases hN:N11 p with
  | true =>
    go_wp2_with fail
    go_ret
    have hK:=HK2.out
    refine ⟨_,rfl,hK.b,?_⟩
    unfold takesL
    rw [hN]
    exact .list (cs:=[]) rfl .nil (.inl rfl) (fun k e=>by cases e) (Nat.le_refl _)
  | false =>
    have HKd:Hid (Kept w w1 w2.drew):=HK2.out.drew
    have l2:=LD.out w2.drew HKd.out
    go_wp2_with fail
    go_region_with (first
      | (go_at_call_of 18 (Value.agg pcs); refine (K18.out w2.drew HKd.out).mono ?_; rintro e w3 ⟨a3,cap3,rfl,HK3,HF3⟩; have l3:=LD.out w3 HK3.out)
      | (go_at_call_of 35 (Value.slice a3 (N18 p).length cap3); refine (K35.out w2.drew w3 a3 cap3 HKd.out HK3.out HF3.out).mono ?_; rintro e w4 ⟨a4,rfl,HK4,HR4⟩; have l4:=LD.out w4 HK4.out)
      | (go_at_call_of 34 (Value.agg pcs); refine (K34.out w4 _ HK4.out HR4.out).mono ?_; rintro e w5 ⟨x5,rfl,HB5,HR5⟩))
    all_goals
      go_wp2_with fail
      go_ret
      refine ⟨_,rfl,HB5.out,?_⟩
      unfold takesL
      rw [hN]
      exact HR5.out
end Go.Proofs
namespace Kz
open Go Go.RowKit Go.Proofs
theorem P16h (p:Pos) (hp:PosIn p):PS Pz 16 [Pos.av p] (.list .mv (takesL p) .fresh) :=
  ⟨takesM p hp 88 Tryz.sizeOf34 rfl,by
    have h:(match Pz.funcs[16]? with
      | some fn=>fn.body.isSome
      | none=>false)=true:=by kernel_rfl
    split at h
    · rename_i fn hf
      exact ⟨fn,hf,h⟩
    · cases h⟩
end Kz
end
section
namespace Kz
open Go Go.RowKit
set_option maxRecDepth 100000
set_option maxHeartbeats 4000000
def inC (a b x:Int):Bool:=decide (a≤x)&&decide (x≤b)
theorem inC_iff {a b x:Int}:inC a b x=true ↔ a≤x∧x≤b:=by unfold inC; simp
def posIB (p:Pos):Bool :=
  inC 0 255 p.variant&&(p.board.length==64&&p.board.all (inC 0 255))&&(p.pockets.length==12&&p.pockets.all (inC 0 255))&&inC 0 255 p.turn&&(p.rooks.length==4&&p.rooks.all (inC (-128) 127))&&inC (-128) 127 p.passing&&(p.checks.length==2&&p.checks.all (inC 0 255))&&inC (-9223372036854775808) 9223372036854775807 p.half&&inC (-9223372036854775808) 9223372036854775807 p.full
theorem posI_of {p:Pos} (h:posIB p=true):PosIn p:=by
  unfold posIB at h
  simp only [Bool.and_eq_true,beq_iff_eq,List.all_eq_true,inC_iff] at h
  obtain ⟨⟨⟨⟨⟨⟨⟨⟨a,b⟩,c⟩,d⟩,e⟩,f⟩,g⟩,i⟩,j⟩:=h
  exact ⟨a.1,a.2,b.1,b.2,c.1,c.2,d.1,d.2,e.1,e.2,f.1,f.2,g.1,g.2,i,j⟩
end Kz
end
section
namespace Kz
open Go Go.RowKit Go.Proofs
set_option maxRecDepth 100000
set_option maxHeartbeats 4000000
noncomputable def K64:List (Nat×Nat×List (Nat×List Nat)):=[(64,6,[(0,[0]),(1,[2])])]
noncomputable def B64:Base:=baseOf Pz (fun f i=>lkC f i K64) [(118,G118)] [] []
theorem hB64:BOk B64:=base_ok named_z ⟨s118,trivial⟩ trivial trivial
noncomputable def N64 (a:Int):List UInt8:=((N118 a).fst)
noncomputable def ok64 (a:Int):Bool:=(ok118 (a)&&true)
theorem P64 (a:Int) (h:ok64 a=true):PS Pz 64 [.int .u8 a] (dS.res (N64 a)):=ps_sum (n:=14) hB64 (by kernel_rfl) (by kernel_rfl) (by kernel_rfl) h
noncomputable def G64:List AV→Tr AV:=g1 (dI .u8) (fun a=>gdv (ok64 a) (dS.res (N64 a)))
theorem s64:Sound Pz 64 G64:=sound1 fun a=>at_gd (P64 a)
noncomputable def K31:List (Nat×Nat×List (Nat×List Nat)):=[(31,12,[(0,[0,1]),(1,[4])])]
noncomputable def B31:Base:=baseOf Pz (fun f i=>lkC f i K31) [(64,G64)] [] []
theorem hB31:BOk B31:=base_ok named_z ⟨s64,trivial⟩ trivial trivial
noncomputable def N31 (a:Int) (b:Int):Bool:=(bif !N64 a==(ByteArray.mk #[]).data.toList then (decide (b≤1)) else (false))
noncomputable def ok31 (a:Int) (b:Int):Bool:=(ok64 (a)&&true)
theorem P31 (a:Int) (b:Int) (h:ok31 a b=true):PS Pz 31 [.int .u8 a,.int .u8 b] (dB.res (N31 a b)):=ps_sum (n:=14) hB31 (by kernel_rfl) (by kernel_rfl) (by kernel_rfl) h
noncomputable def G31:List AV→Tr AV:=g2 (dI .u8) (dI .u8) (fun a b=>gdv (ok31 a b) (dB.res (N31 a b)))
theorem s31:Sound Pz 31 G31:=sound2 fun a b=>at_gd (P31 a b)
noncomputable def K123:List (Nat×Nat×List (Nat×List Nat)):=[(123,2,[(0,[0]),(1,[0])])]
noncomputable def B123:Base:=baseOf Pz (fun f i=>lkC f i K123) [] [] []
theorem hB123:BOk B123:=base_ok named_z trivial trivial trivial
noncomputable def N123  : List Int:=(li [0,100,320,330,500,900,0])
noncomputable def ok123  : Bool:=true
theorem P123  (h:ok123 =true):PS Pz 123 [] ((dArr .i64 7).res (N123 )):=ps_sum (n:=14) hB123 (by kernel_rfl) (by kernel_rfl) (by kernel_rfl) h
noncomputable def G123:List AV→Tr AV:=g0  (.ret ((dArr .i64 7).res (N123 )))
theorem s123:Sound Pz 123 G123:=sound0 (at_rt (P123 rfl))
noncomputable def K67:List (Nat×Nat×List (Nat×List Nat)):=[(67,8,[(0,[0]),(1,[0,4]),(2,[2]),(3,[2])])]
noncomputable def B67:Base:=baseOf Pz (fun f i=>lkC f i K67) [(123,G123)] [] []
theorem hB67:BOk B67:=base_ok named_z ⟨s123,trivial⟩ trivial trivial
noncomputable def N67 (a:Int):Int:=(bif decide (a > 6) then (0) else ((li [0,100,320,330,500,900,0]).getD a.toNat 0))
noncomputable def ok67 (a:Int):Bool:=(bif decide (a > 6) then true else (decide (0≤a)&&decide (a < Int.ofNat 7)&&true))
theorem P67 (a:Int) (h:ok67 a=true):PS Pz 67 [.int .u8 a] ((dI .i64).res (N67 a)):=ps_sum (n:=14) hB67 (by kernel_rfl) (by kernel_rfl) (by kernel_rfl) h
noncomputable def G67:List AV→Tr AV:=g1 (dI .u8) (fun a=>gdv (ok67 a) ((dI .i64).res (N67 a)))
theorem s67:Sound Pz 67 G67:=sound1 fun a=>at_gd (P67 a)
noncomputable def K124:List (Nat×Nat×List (Nat×List Nat)):=[(124,8,[(0,[0]),(1,[2])])]
noncomputable def B124:Base:=baseOf Pz (fun f i=>lkC f i K124) [] [] []
theorem hB124:BOk B124:=base_ok named_z trivial trivial trivial
noncomputable def N124 (a:Int):Int:=(if 0 > if wr .i64 (a - 4) > wr .i64 (3 - a) then wr .i64 (a - 4) else wr .i64 (3 - a) then 0 else if wr .i64 (a - 4) > wr .i64 (3 - a) then wr .i64 (a - 4) else wr .i64 (3 - a))
noncomputable def ok124 (a:Int):Bool:=true
theorem P124 (a:Int) (h:ok124 a=true):PS Pz 124 [.int .i64 a] ((dI .i64).res (N124 a)):=ps_sum (n:=14) hB124 (by kernel_rfl) (by kernel_rfl) (by kernel_rfl) h
noncomputable def G124:List AV→Tr AV:=g1 (dI .i64) (fun a=>.ret ((dI .i64).res (N124 a)))
theorem s124:Sound Pz 124 G124:=sound1 fun a=>at_rt (P124 a rfl)
noncomputable def K68:List (Nat×Nat×List (Nat×List Nat)):=[(68,16,[(0,[0]),(1,[0,8]),(2,[2]),(3,[2])])]
noncomputable def B68:Base:=baseOf Pz (fun f i=>lkC f i K68) [(124,G124)] [] []
theorem hB68:BOk B68:=base_ok named_z ⟨s124,trivial⟩ trivial trivial
noncomputable def N68 (a:Int):Int:=(bif decide (a < 0) then (-1) else (bif decide (a ≥ 64) then (-1) else (if N124 (wr .i64 (a.tdiv 8)) > N124 (a.tmod 8) then N124 (wr .i64 (a.tdiv 8)) else N124 (a.tmod 8))))
noncomputable def ok68 (a:Int):Bool:=true
theorem P68 (a:Int) (h:ok68 a=true):PS Pz 68 [.int .i64 a] ((dI .i64).res (N68 a)):=ps_sum (n:=14) hB68 (by kernel_rfl) (by kernel_rfl) (by kernel_rfl) h
noncomputable def G68:List AV→Tr AV:=g1 (dI .i64) (fun a=>.ret ((dI .i64).res (N68 a)))
theorem s68:Sound Pz 68 G68:=sound1 fun a=>at_rt (P68 a rfl)
noncomputable def K69:List (Nat×Nat×List (Nat×List Nat)):=[]
noncomputable def B69:Base:=baseOf Pz (fun f i=>lkC f i K69) [] [] []
theorem hB69:BOk B69:=base_ok named_z trivial trivial trivial
noncomputable def V169:AV:=AV.vlist true [AV.agg [AV.cint .u8 2,AV.func 125 [] []],AV.agg [AV.cint .u8 8,AV.func 126 [] []],AV.agg [AV.cint .u8 6,AV.func 129 [] []],AV.agg [AV.cint .u8 5,AV.func 131 [] []],AV.agg [AV.cint .u8 4,AV.func 132 [] []]]
noncomputable def ok69:Bool:=true
theorem E69:evPure B69 14 69 []=Tr.ret V169:=by kernel_rfl
theorem P69 (_:ok69=true):PS Pz 69 [] V169:=evPure_ok hB69 (by rw [E69]; rfl)
noncomputable def G69:List AV→Tr AV:=g0 (.ret V169)
theorem s69:Sound Pz 69 G69:=sound0 (at_rt (P69 rfl))
noncomputable def K125:List (Nat×Nat×List (Nat×List Nat)):=[(125,26,[(0,[1,2]),(1,[1,2,5]),(2,[5,11,12]),(3,[5,11,12,13]),(4,[5,6,7,11,12]),(5,[5,11,12]),(6,[5,11,12]),(7,[4])])]
noncomputable def B125_1:Base:=baseOf Pz (fun f i=>lkC f i K125) [(67,G67)] [] []
theorem hB125_1:BOk B125_1:=base_ok named_z ⟨s67,trivial⟩ trivial trivial
noncomputable def S125_1 (p1:(List Int)) (p2:Pos) (x:(Int×Int)):St:=St.mk (an 5 (AV.int .i64 x.fst::(an 5 (AV.agg [AV.ints .u8 6 p1]::AV.int .i64 x.snd::(an 13 []))))) (Hp.mk [(pc p2 [])] [] [] 0 0 0)
noncomputable def O125_1 (p1:(List Int)) (p2:Pos):(Int×Int×Bool)→Out:=fun y=>.exit 0 (St.mk (an 5 (AV.int .i64 y.fst::(an 5 (AV.agg [AV.ints .u8 6 p1]::AV.int .i64 y.snd.fst::AV.bool y.snd.snd::(an 12 []))))) (Hp.mk [(pc p2 [])] [] [] 0 0 0))
noncomputable def st125_1 (p1:(List Int)) (p2:Pos) (x:(Int×Int)):Stp (Int×Int) ((Int×Int×Bool)):=(bif decide (x.snd < 6) then (Stp.go (wr .i64 (x.fst+wr .i64 (N67 (wr .u8 x.snd) * wr .i64 (p1.getD x.snd.toNat 0))),wr .i64 (x.snd+1))) else (Stp.out ((x.fst,x.snd,decide (x.snd < 6)))))
noncomputable def okL125_1 (p1:(List Int)) (p2:Pos) (x:(Int×Int)):Bool:=(bif decide (x.snd < 6) then (decide (0≤x.snd)&&decide (x.snd < Int.ofNat 6)&&(ok67 (wr .u8 x.snd)&&true)) else true)
noncomputable def lp125_1 (p1:(List Int)) (p2:Pos) (x:(Int×Int)):Option ((Int×Int×Bool)):=itl (fun x=>bif okL125_1 p1 p2 x then st125_1 p1 p2 x else .bad) many x
abbrev D125_1 {α:Type} (k:(List Int)→Pos→(Int×Int)→α) (s:St):α:=wP s 0 fun q0=>k (tN (tX (tA (tT s 11)) 0)) q0 ((tI (tT s 5)),(tI (tT s 12)))
theorem L125_1 (p1:(List Int)) (p2:Pos) (x:(Int×Int)) (r:(Int×Int×Bool)) (h:lp125_1 p1 p2 x=some r):LSpec Pz (bodL Pz 125 3) (S125_1 p1 p2 x) (O125_1 p1 p2 r):=LSpec.smd (m:=12) (fn:=125) hB125_1 (D125_1 fun _ _ x=>some x) (fun o=>match o with | .exit 0 s=>some ((tI (tT s 5)),(tI (tT s 12)),(tB (tT s 13))) | _=>none) (fun _=>rfl) (fun _=>by kernel_rfl) (fun _=>by kernel_rfl) (fun _=>by kernel_rfl) (fun _=>by kernel_rfl) many x r h
noncomputable def F125_1 (b:Code) (s:St):Tr Out:=D125_1 (fun p1 p2 x=>lk1 b (bodL Pz 125 3) s (S125_1 p1 p2 x) (lp125_1 p1 p2 x) (O125_1 p1 p2)) s
theorem sF125_1:∀ b,LSound Pz b (F125_1 b):=fun _ _ _ h=>lk1_ok (L125_1 _ _ _) h
noncomputable def B125:Base:=baseOf Pz (fun f i=>lkC f i K125) [(67,G67)] [(125,3,F125_1)] []
theorem hB125:BOk B125:=base_ok named_z ⟨s67,trivial⟩ ⟨sF125_1,trivial⟩ trivial
noncomputable def N125 (a:Pos) (b:Int):Int:=(((lp125_1 (List.take 6 (List.drop (scale 6 b).toNat a.pockets)) a (0,0)).getD default).fst)
noncomputable def ok125 (a:Pos) (b:Int):Bool:=(decide (0≤b)&&decide (b < Int.ofNat 2)&&((lp125_1 (List.take 6 (List.drop (scale 6 b).toNat a.pockets)) a (0,0)).isSome&&true))
theorem P125 (a:Pos) (b:Int) (h:ok125 a b=true):PS Pz 125 [Pos.av a,.int .u8 b] ((dI .i64).res (N125 a b)):=ps_sum (n:=14) hB125 (by kernel_rfl) (by kernel_rfl) (by kernel_rfl) h
noncomputable def G125:List AV→Tr AV:=g2 dPos (dI .u8) (fun a b=>gdv (ok125 a b) ((dI .i64).res (N125 a b)))
theorem s125:Sound Pz 125 G125:=sound2 fun a b=>at_gd (P125 a b)
noncomputable def K128:List (Nat×Nat×List (Nat×List Nat)):=[(128,6,[(0,[0]),(1,[2])])]
noncomputable def B128:Base:=baseOf Pz (fun f i=>lkC f i K128) [] [] []
theorem hB128:BOk B128:=base_ok named_z trivial trivial trivial
noncomputable def N128 (a:Int):Int:=(wr .i64 (60 * wr .i64 (a.tdiv 8)))
noncomputable def ok128 (a:Int):Bool:=true
theorem P128 (a:Int) (h:ok128 a=true):PS Pz 128 [.int .i64 a] ((dI .i64).res (N128 a)):=ps_sum (n:=14) hB128 (by kernel_rfl) (by kernel_rfl) (by kernel_rfl) h
noncomputable def G128:List AV→Tr AV:=g1 (dI .i64) (fun a=>.ret ((dI .i64).res (N128 a)))
theorem s128:Sound Pz 128 G128:=sound1 fun a=>at_rt (P128 a rfl)
noncomputable def K126:List (Nat×Nat×List (Nat×List Nat)):=[(126,8,[(0,[1,2]),(1,[4])]),(127,16,[(0,[1,2,3]),(1,[2,7]),(2,[2,7,12]),(3,[6]),(4,[6])])]
noncomputable def B126:Base:=baseOf Pz (fun f i=>lkC f i K126) [(106,G106),(128,G128)] [] []
theorem hB126:BOk B126:=base_ok named_z ⟨s106,s128,trivial⟩ trivial trivial
noncomputable def N126 (a:Pos) (b:Int):Int:=(bif decide (N106 a b 6 < 0) then (0) else (N128 (N106 a b 6)))
noncomputable def ok126 (a:Pos) (b:Int):Bool:=(ok106 (a) (b) (6)&&true)
theorem P126 (a:Pos) (b:Int) (h:ok126 a b=true):PS Pz 126 [Pos.av a,.int .u8 b] ((dI .i64).res (N126 a b)):=ps_sum (n:=14) hB126 (by kernel_rfl) (by kernel_rfl) (by kernel_rfl) h
noncomputable def G126:List AV→Tr AV:=g2 dPos (dI .u8) (fun a b=>gdv (ok126 a b) ((dI .i64).res (N126 a b)))
theorem s126:Sound Pz 126 G126:=sound2 fun a b=>at_gd (P126 a b)
noncomputable def K130:List (Nat×Nat×List (Nat×List Nat)):=[(130,6,[(0,[0]),(1,[2])])]
noncomputable def B130:Base:=baseOf Pz (fun f i=>lkC f i K130) [(68,G68)] [] []
theorem hB130:BOk B130:=base_ok named_z ⟨s68,trivial⟩ trivial trivial
noncomputable def N130 (a:Int):Int:=(wr .i64 (-30 * N68 a))
noncomputable def ok130 (a:Int):Bool:=true
theorem P130 (a:Int) (h:ok130 a=true):PS Pz 130 [.int .i64 a] ((dI .i64).res (N130 a)):=ps_sum (n:=14) hB130 (by kernel_rfl) (by kernel_rfl) (by kernel_rfl) h
noncomputable def G130:List AV→Tr AV:=g1 (dI .i64) (fun a=>.ret ((dI .i64).res (N130 a)))
theorem s130:Sound Pz 130 G130:=sound1 fun a=>at_rt (P130 a rfl)
noncomputable def K129:List (Nat×Nat×List (Nat×List Nat)):=[(127,16,[(0,[1,2,3]),(1,[2,7]),(2,[2,7,12]),(3,[6]),(4,[6])]),(129,8,[(0,[1,2]),(1,[4])])]
noncomputable def B129:Base:=baseOf Pz (fun f i=>lkC f i K129) [(106,G106),(130,G130)] [] []
theorem hB129:BOk B129:=base_ok named_z ⟨s106,s130,trivial⟩ trivial trivial
noncomputable def N129 (a:Pos) (b:Int):Int:=(bif decide (N106 a b 6 < 0) then (0) else (N130 (N106 a b 6)))
noncomputable def ok129 (a:Pos) (b:Int):Bool:=(ok106 (a) (b) (6)&&true)
theorem P129 (a:Pos) (b:Int) (h:ok129 a b=true):PS Pz 129 [Pos.av a,.int .u8 b] ((dI .i64).res (N129 a b)):=ps_sum (n:=14) hB129 (by kernel_rfl) (by kernel_rfl) (by kernel_rfl) h
noncomputable def G129:List AV→Tr AV:=g2 dPos (dI .u8) (fun a b=>gdv (ok129 a b) ((dI .i64).res (N129 a b)))
theorem s129:Sound Pz 129 G129:=sound2 fun a b=>at_gd (P129 a b)
noncomputable def K131:List (Nat×Nat×List (Nat×List Nat)):=[(131,11,[(0,[1,2]),(1,[4])])]
noncomputable def B131:Base:=baseOf Pz (fun f i=>lkC f i K131) [] [] []
theorem hB131:BOk B131:=base_ok named_z trivial trivial trivial
noncomputable def N131 (a:Pos) (b:Int):Int:=(wr .i64 (150 * wr .i64 (a.checks.getD (scale 1 b).toNat 0)))
noncomputable def ok131 (a:Pos) (b:Int):Bool:=(decide (0≤b)&&decide (b < Int.ofNat 2)&&true)
theorem P131 (a:Pos) (b:Int) (h:ok131 a b=true):PS Pz 131 [Pos.av a,.int .u8 b] ((dI .i64).res (N131 a b)):=ps_sum (n:=14) hB131 (by kernel_rfl) (by kernel_rfl) (by kernel_rfl) h
noncomputable def G131:List AV→Tr AV:=g2 dPos (dI .u8) (fun a b=>gdv (ok131 a b) ((dI .i64).res (N131 a b)))
theorem s131:Sound Pz 131 G131:=sound2 fun a b=>at_gd (P131 a b)
noncomputable def K169:List (Nat×Nat×List (Nat×List Nat)):=[(169,5,[(0,[0]),(1,[2])])]
noncomputable def B169:Base:=baseOf Pz (fun f i=>lkC f i K169) [(192,G192)] [] []
theorem hB169:BOk B169:=base_ok named_z ⟨s192,trivial⟩ trivial trivial
noncomputable def N169 (a:BitVec 64):Int:=(N192 a)
noncomputable def ok169 (a:BitVec 64):Bool:=true
theorem P169 (a:BitVec 64) (h:ok169 a=true):PS Pz 169 [.u64 a] ((dI .i64).res (N169 a)):=ps_sum (n:=14) hB169 (by kernel_rfl) (by kernel_rfl) (by kernel_rfl) h
noncomputable def G169:List AV→Tr AV:=g1 dU (fun a=>.ret ((dI .i64).res (N169 a)))
theorem s169:Sound Pz 169 G169:=sound1 fun a=>at_rt (P169 a rfl)
noncomputable def K133:List (Nat×Nat×List (Nat×List Nat)):=[(133,12,[(0,[1,2,3]),(1,[6])])]
noncomputable def B133:Base:=baseOf Pz (fun f i=>lkC f i K133) [(66,G66),(169,G169)] [] []
theorem hB133:BOk B133:=base_ok named_z ⟨s66,s169,trivial⟩ trivial trivial
noncomputable def N133 (a:Pos) (b:Int) (c:Int):Int:=(N169 (N66 a b c))
noncomputable def ok133 (a:Pos) (b:Int) (c:Int):Bool:=(ok66 (a) (b) (c)&&true)
theorem P133 (a:Pos) (b:Int) (c:Int) (h:ok133 a b c=true):PS Pz 133 [Pos.av a,.int .u8 b,.int .u8 c] ((dI .i64).res (N133 a b c)):=ps_sum (n:=14) hB133 (by kernel_rfl) (by kernel_rfl) (by kernel_rfl) h
noncomputable def G133:List AV→Tr AV:=g3 dPos (dI .u8) (dI .u8) (fun a b c=>gdv (ok133 a b c) ((dI .i64).res (N133 a b c)))
theorem s133:Sound Pz 133 G133:=sound3 fun a b c=>at_gd (P133 a b c)
noncomputable def K132:List (Nat×Nat×List (Nat×List Nat)):=[(132,9,[(0,[1,2]),(1,[4])])]
noncomputable def B132:Base:=baseOf Pz (fun f i=>lkC f i K132) [(133,G133)] [] []
theorem hB132:BOk B132:=base_ok named_z ⟨s133,trivial⟩ trivial trivial
noncomputable def N132 (a:Pos) (b:Int):Int:=(wr .i64 (200 * N133 a b 6))
noncomputable def ok132 (a:Pos) (b:Int):Bool:=(ok133 (a) (b) (6)&&true)
theorem P132 (a:Pos) (b:Int) (h:ok132 a b=true):PS Pz 132 [Pos.av a,.int .u8 b] ((dI .i64).res (N132 a b)):=ps_sum (n:=14) hB132 (by kernel_rfl) (by kernel_rfl) (by kernel_rfl) h
noncomputable def G132:List AV→Tr AV:=g2 dPos (dI .u8) (fun a b=>gdv (ok132 a b) ((dI .i64).res (N132 a b)))
theorem s132:Sound Pz 132 G132:=sound2 fun a b=>at_gd (P132 a b)
noncomputable def K32:List (Nat×Nat×List (Nat×List Nat)):=[(32,77,[(0,[1,2]),(1,[1,2,15]),(2,[4]),(3,[1,2,5]),(4,[1,2,5,6]),(5,[1,2,5,6,17]),(6,[1,2,5,6]),(7,[1,2,5,6,24,25,26]),(8,(1::2::5::6::(rn 24 4 []))),(9,[1,2,5,6,8,24,25,26]),(10,[1,2,5,6,8,24,25,26]),(11,[1,2,5,6,8,24,25,26,39]),(12,[1,2,5,6,24,25,26]),(13,[1,2,5,6,24,25,26]),(14,[1,2,5,57,58,59]),(15,(1::2::5::(rn 57 4 []))),(16,[1,2,5,10,57,58,59]),(17,[1,2,5,10,57,58,59,67]),(18,[1,2,5,57,58,59]),(19,[1,2,5,57,58,59]),(20,[4])])]
noncomputable def B32_1:Base:=baseOf Pz (fun f i=>lkC f i K32) [(31,G31),(65,G65),(66,G66),(67,G67),(68,G68),(69,G69),(125,G125),(126,G126),(129,G129),(131,G131),(132,G132)] [] []
theorem hB32_1:BOk B32_1:=base_ok named_z ⟨s31,s65,s66,s67,s68,s69,s125,s126,s129,s131,s132,trivial⟩ trivial trivial
noncomputable def S32_1 (p1:Int) (p2:Int) (p3:(List Int)) (p4:Int) (p5:Pos) (x:(Int×Int)):St:=St.mk (AV.any::AV.int .u8 p1::AV.ptr 0 0::AV.any::AV.any::AV.int .i64 x.fst::AV.int .u8 p2::(an 17 (AV.list (ET.i .i64) p3 Tk.fresh::AV.int .i64 p4::AV.int .i64 x.snd::(an 50 [])))) (Hp.mk [(pc p5 [])] [] [] 0 0 0)
noncomputable def O32_1 (p1:Int) (p2:Int) (p3:(List Int)) (p4:Int) (p5:Pos):(Int×Int×Bool)→Out:=fun y=>.exit 2 (St.mk (AV.any::AV.int .u8 p1::AV.ptr 0 0::AV.any::AV.any::AV.int .i64 y.fst::AV.int .u8 p2::(an 17 (AV.list (ET.i .i64) p3 Tk.fresh::AV.int .i64 p4::AV.int .i64 y.snd.fst::AV.bool y.snd.snd::(an 49 [])))) (Hp.mk [(pc p5 [])] [] [] 0 0 0))
noncomputable def st32_1 (p1:Int) (p2:Int) (p3:(List Int)) (p4:Int) (p5:Pos) (x:(Int×Int)):Stp (Int×Int) ((Int×Int×Bool)):=(bif decide (x.snd < p4) then (bif p2==1 then (Stp.go (wr .i64 (wr .i64 (x.fst+wr .i64 (N67 p2 - wr .i64 (4 * N68 (p3.getD x.snd.toNat default))))+wr .i64 (6 * if wr .i64 (wr .i64 (7 * wr .i64 p1) - wr .i64 (Int.tdiv (p3.getD x.snd.toNat default) 8)) > wr .i64 (wr .i64 (Int.tdiv (p3.getD x.snd.toNat default) 8) - wr .i64 (7 * wr .i64 p1)) then wr .i64 (wr .i64 (7 * wr .i64 p1) - wr .i64 (Int.tdiv (p3.getD x.snd.toNat default) 8)) else wr .i64 (wr .i64 (Int.tdiv (p3.getD x.snd.toNat default) 8) - wr .i64 (7 * wr .i64 p1)))),wr .i64 (x.snd+1))) else (Stp.go (wr .i64 (x.fst+wr .i64 (N67 p2 - wr .i64 (4 * N68 (p3.getD x.snd.toNat default)))),wr .i64 (x.snd+1)))) else (Stp.out ((x.fst,x.snd,decide (x.snd < p4)))))
noncomputable def okL32_1 (p1:Int) (p2:Int) (p3:(List Int)) (p4:Int) (p5:Pos) (x:(Int×Int)):Bool:=(bif decide (x.snd < p4) then (decide (0≤x.snd)&&decide (x.snd < Int.ofNat p3.length)&&(ok67 (p2)&&true)) else true)
noncomputable def lp32_1 (p1:Int) (p2:Int) (p3:(List Int)) (p4:Int) (p5:Pos) (x:(Int×Int)):Option ((Int×Int×Bool)):=itl (fun x=>bif okL32_1 p1 p2 p3 p4 p5 x then st32_1 p1 p2 p3 p4 p5 x else .bad) many x
abbrev D32_1 {α:Type} (k:Int→Int→(List Int)→Int→Pos→(Int×Int)→α) (s:St):α:=wP s 0 fun q0=>k (tI (tT s 1)) (tI (tT s 6)) (tL (ET.i .i64) (tT s 24)) (tI (tT s 25)) q0 ((tI (tT s 5)),(tI (tT s 26)))
theorem L32_1 (p1:Int) (p2:Int) (p3:(List Int)) (p4:Int) (p5:Pos) (x:(Int×Int)) (r:(Int×Int×Bool)) (h:lp32_1 p1 p2 p3 p4 p5 x=some r):LSpec Pz (bodL Pz 32 8) (S32_1 p1 p2 p3 p4 p5 x) (O32_1 p1 p2 p3 p4 p5 r):=LSpec.smd (m:=12) (fn:=32) hB32_1 (D32_1 fun _ _ _ _ _ x=>some x) (fun o=>match o with | .exit 2 s=>some ((tI (tT s 5)),(tI (tT s 26)),(tB (tT s 27))) | _=>none) (fun _=>rfl) (fun _=>by kernel_rfl) (fun _=>by kernel_rfl) (fun _=>by kernel_rfl) (fun _=>by kernel_rfl) many x r h
noncomputable def F32_1 (b:Code) (s:St):Tr Out:=D32_1 (fun p1 p2 p3 p4 p5 x=>lk1 b (bodL Pz 32 8) s (S32_1 p1 p2 p3 p4 p5 x) (lp32_1 p1 p2 p3 p4 p5 x) (O32_1 p1 p2 p3 p4 p5)) s
theorem sF32_1:∀ b,LSound Pz b (F32_1 b):=fun _ _ _ h=>lk1_ok (L32_1 _ _ _ _ _ _) h
noncomputable def B32_2:Base:=baseOf Pz (fun f i=>lkC f i K32) [(31,G31),(65,G65),(66,G66),(67,G67),(68,G68),(69,G69),(125,G125),(126,G126),(129,G129),(131,G131),(132,G132)] [(32,8,F32_1)] []
theorem hB32_2:BOk B32_2:=base_ok named_z ⟨s31,s65,s66,s67,s68,s69,s125,s126,s129,s131,s132,trivial⟩ ⟨sF32_1,trivial⟩ trivial
noncomputable def S32_2 (p1:Int) (p2:Pos) (x:(Int×Int)):St:=St.mk (AV.any::AV.int .u8 p1::AV.ptr 0 0::AV.any::AV.any::AV.int .i64 x.fst::AV.int .u8 x.snd::(an 70 [])) (Hp.mk [(pc p2 [])] [] [] 0 0 0)
noncomputable def O32_2 (p1:Int) (p2:Pos):(Int×Int×Bool)→Out:=fun y=>.exit 0 (St.mk (AV.any::AV.int .u8 p1::AV.ptr 0 0::AV.any::AV.any::AV.int .i64 y.fst::AV.int .u8 y.snd.fst::(an 10 (AV.bool y.snd.snd::(an 59 [])))) (Hp.mk [(pc p2 [])] [] [] 0 0 0))
noncomputable def st32_2 (p1:Int) (p2:Pos) (x:(Int×Int)):Stp (Int×Int) ((Int×Int×Bool)):=(bif decide (x.snd≤6) then (Stp.go (((lp32_1 p1 x.snd (N65 (N66 p2 p1 x.snd)) (Int.ofNat (N65 (N66 p2 p1 x.snd)).length) p2 (x.fst,0)).getD default).fst,wr .u8 (x.snd+1))) else (Stp.out ((x.fst,x.snd,decide (x.snd≤6)))))
noncomputable def okL32_2 (p1:Int) (p2:Pos) (x:(Int×Int)):Bool:=(bif decide (x.snd≤6) then (ok66 (p2) (p1) (x.snd)&&(ok65 (N66 p2 p1 x.snd)&&((lp32_1 p1 x.snd (N65 (N66 p2 p1 x.snd)) (Int.ofNat (N65 (N66 p2 p1 x.snd)).length) p2 (x.fst,0)).isSome&&true))) else true)
noncomputable def lp32_2 (p1:Int) (p2:Pos) (x:(Int×Int)):Option ((Int×Int×Bool)):=itl (fun x=>bif okL32_2 p1 p2 x then st32_2 p1 p2 x else .bad) many x
abbrev D32_2 {α:Type} (k:Int→Pos→(Int×Int)→α) (s:St):α:=wP s 0 fun q0=>k (tI (tT s 1)) q0 ((tI (tT s 5)),(tI (tT s 6)))
theorem L32_2 (p1:Int) (p2:Pos) (x:(Int×Int)) (r:(Int×Int×Bool)) (h:lp32_2 p1 p2 x=some r):LSpec Pz (bodL Pz 32 5) (S32_2 p1 p2 x) (O32_2 p1 p2 r):=LSpec.smd (m:=12) (fn:=32) hB32_2 (D32_2 fun _ _ x=>some x) (fun o=>match o with | .exit 0 s=>some ((tI (tT s 5)),(tI (tT s 6)),(tB (tT s 17))) | _=>none) (fun _=>rfl) (fun _=>by kernel_rfl) (fun _=>by kernel_rfl) (fun _=>by kernel_rfl) (fun _=>by kernel_rfl) many x r h
noncomputable def F32_2 (b:Code) (s:St):Tr Out:=D32_2 (fun p1 p2 x=>lk1 b (bodL Pz 32 5) s (S32_2 p1 p2 x) (lp32_2 p1 p2 x) (O32_2 p1 p2)) s
theorem sF32_2:∀ b,LSound Pz b (F32_2 b):=fun _ _ _ h=>lk1_ok (L32_2 _ _ _) h
noncomputable def B32_3:Base:=baseOf Pz (fun f i=>lkC f i K32) [(31,G31),(65,G65),(66,G66),(67,G67),(68,G68),(69,G69),(125,G125),(126,G126),(129,G129),(131,G131),(132,G132)] [(32,8,F32_1),(32,5,F32_2)] []
theorem hB32_3:BOk B32_3:=base_ok named_z ⟨s31,s65,s66,s67,s68,s69,s125,s126,s129,s131,s132,trivial⟩ ⟨sF32_1,sF32_2,trivial⟩ trivial
noncomputable def S32_3 (p1:Int) (p2:Pos) (x:(Int×Int)):St:=St.mk (AV.any::AV.int .u8 p1::AV.ptr 0 0::AV.any::AV.any::AV.int .i64 x.fst::(an 51 (AV.vlist true [AV.agg [AV.cint .u8 2,AV.func 125 [] []],AV.agg [AV.cint .u8 8,AV.func 126 [] []],AV.agg [AV.cint .u8 6,AV.func 129 [] []],AV.agg [AV.cint .u8 5,AV.func 131 [] []],AV.agg [AV.cint .u8 4,AV.func 132 [] []]]::AV.cint .i64 (Int.ofNat 5)::AV.int .i64 x.snd::(an 17 [])))) (Hp.mk [(pc p2 [])] [] [] 0 0 0)
noncomputable def O32_3 (p1:Int) (p2:Pos):(Int×Int×Bool)→Out:=fun y=>.exit 4 (St.mk (AV.any::AV.int .u8 p1::AV.ptr 0 0::AV.any::AV.any::AV.int .i64 y.fst::(an 51 (AV.vlist true [AV.agg [AV.cint .u8 2,AV.func 125 [] []],AV.agg [AV.cint .u8 8,AV.func 126 [] []],AV.agg [AV.cint .u8 6,AV.func 129 [] []],AV.agg [AV.cint .u8 5,AV.func 131 [] []],AV.agg [AV.cint .u8 4,AV.func 132 [] []]]::AV.cint .i64 (Int.ofNat 5)::AV.int .i64 y.snd.fst::AV.bool y.snd.snd::(an 16 [])))) (Hp.mk [(pc p2 [])] [] [] 0 0 0))
noncomputable def st32_3 (p1:Int) (p2:Pos) (x:(Int×Int)):Stp (Int×Int) ((Int×Int×Bool)):=(bif decide (x.snd < Int.ofNat 5) then (bif x.snd==Int.ofNat 0 then (bif 2==p2.variant then (Stp.go (wr .i64 (x.fst+N125 p2 p1),wr .i64 (x.snd+1))) else (Stp.go (x.fst,wr .i64 (x.snd+1)))) else (bif x.snd==Int.ofNat 1 then (bif 8==p2.variant then (Stp.go (wr .i64 (x.fst+N126 p2 p1),wr .i64 (x.snd+1))) else (Stp.go (x.fst,wr .i64 (x.snd+1)))) else (bif x.snd==Int.ofNat 2 then (bif 6==p2.variant then (Stp.go (wr .i64 (x.fst+N129 p2 p1),wr .i64 (x.snd+1))) else (Stp.go (x.fst,wr .i64 (x.snd+1)))) else (bif x.snd==Int.ofNat 3 then (bif 5==p2.variant then (Stp.go (wr .i64 (x.fst+N131 p2 p1),wr .i64 (x.snd+1))) else (Stp.go (x.fst,wr .i64 (x.snd+1)))) else (bif 4==p2.variant then (Stp.go (wr .i64 (x.fst+N132 p2 p1),wr .i64 (x.snd+1))) else (Stp.go (x.fst,wr .i64 (x.snd+1)))))))) else (Stp.out ((x.fst,x.snd,decide (x.snd < Int.ofNat 5)))))
noncomputable def okL32_3 (p1:Int) (p2:Pos) (x:(Int×Int)):Bool:=(bif decide (x.snd < Int.ofNat 5) then (decide (0≤x.snd)&&decide (x.snd < Int.ofNat 5)&&(bif x.snd==Int.ofNat 0 then (bif 2==p2.variant then (ok125 (p2) (p1)&&true) else true) else (bif x.snd==Int.ofNat 1 then (bif 8==p2.variant then (ok126 (p2) (p1)&&true) else true) else (bif x.snd==Int.ofNat 2 then (bif 6==p2.variant then (ok129 (p2) (p1)&&true) else true) else (bif x.snd==Int.ofNat 3 then (bif 5==p2.variant then (ok131 (p2) (p1)&&true) else true) else (x.snd==Int.ofNat 4&&(bif 4==p2.variant then (ok132 (p2) (p1)&&true) else true))))))) else true)
noncomputable def lp32_3 (p1:Int) (p2:Pos) (x:(Int×Int)):Option ((Int×Int×Bool)):=itl (fun x=>bif okL32_3 p1 p2 x then st32_3 p1 p2 x else .bad) many x
abbrev D32_3 {α:Type} (k:Int→Pos→(Int×Int)→α) (s:St):α:=wP s 0 fun q0=>k (tI (tT s 1)) q0 ((tI (tT s 5)),(tI (tT s 59)))
theorem L32_3 (p1:Int) (p2:Pos) (x:(Int×Int)) (r:(Int×Int×Bool)) (h:lp32_3 p1 p2 x=some r):LSpec Pz (bodL Pz 32 15) (S32_3 p1 p2 x) (O32_3 p1 p2 r):=LSpec.smd (m:=12) (fn:=32) hB32_3 (D32_3 fun _ _ x=>some x) (fun o=>match o with | .exit 4 s=>some ((tI (tT s 5)),(tI (tT s 59)),(tB (tT s 60))) | _=>none) (fun _=>rfl) (fun _=>by kernel_rfl) (fun _=>by kernel_rfl) (fun _=>by kernel_rfl) (fun _=>by kernel_rfl) many x r h
noncomputable def F32_3 (b:Code) (s:St):Tr Out:=D32_3 (fun p1 p2 x=>lk1 b (bodL Pz 32 15) s (S32_3 p1 p2 x) (lp32_3 p1 p2 x) (O32_3 p1 p2)) s
theorem sF32_3:∀ b,LSound Pz b (F32_3 b):=fun _ _ _ h=>lk1_ok (L32_3 _ _ _) h
noncomputable def B32:Base:=baseOf Pz (fun f i=>lkC f i K32) [(31,G31),(65,G65),(66,G66),(67,G67),(68,G68),(69,G69),(125,G125),(126,G126),(129,G129),(131,G131),(132,G132)] [(32,8,F32_1),(32,5,F32_2),(32,15,F32_3)] []
theorem hB32:BOk B32:=base_ok named_z ⟨s31,s65,s66,s67,s68,s69,s125,s126,s129,s131,s132,trivial⟩ ⟨sF32_1,sF32_2,sF32_3,trivial⟩ trivial
noncomputable def N32 (a:Pos) (b:Int):Int:=(bif !N31 a.variant b then (0) else (((lp32_3 b a (((lp32_2 b a (0,1)).getD default).fst,0)).getD default).fst))
noncomputable def ok32 (a:Pos) (b:Int):Bool:=(ok31 (a.variant) (b)&&(bif !N31 a.variant b then true else ((lp32_2 b a (0,1)).isSome&&((lp32_3 b a (((lp32_2 b a (0,1)).getD default).fst,0)).isSome&&true))))
theorem P32 (a:Pos) (b:Int) (h:ok32 a b=true):PS Pz 32 [Pos.av a,.int .u8 b] ((dI .i64).res (N32 a b)):=ps_sum (n:=14) hB32 (by kernel_rfl) (by kernel_rfl) (by kernel_rfl) h
noncomputable def G32:List AV→Tr AV:=g2 dPos (dI .u8) (fun a b=>gdv (ok32 a b) ((dI .i64).res (N32 a b)))
theorem s32:Sound Pz 32 G32:=sound2 fun a b=>at_gd (P32 a b)
noncomputable def B15:Base:=baseOf Pz (fun _ _=>[]) [(31,G31),(32,G32)] [] []
theorem hB15:BOk B15:=base_ok named_z ⟨s31,s32,trivial⟩ trivial trivial
noncomputable def N15 (a:Pos):Int:=(evPure B15 14 15 [Pos.av a]).vt (dI .i64).dec
noncomputable def ok15 (a:Pos):Bool:=((evPure B15 14 15 [Pos.av a]).qt (dI .i64).dec).val
theorem P15a (a:Pos):(evPure B15 14 15 [Pos.av a]).obl.map ob1=(evPure B15 14 15 [Pos.av a]).obl.map ob2:=by kernel_rfl
theorem P15b (a:Pos):((evPure B15 14 15 [Pos.av a]).qt (dI .i64).dec).val=ok15 a:=by kernel_rfl
theorem P15c (a:Pos):(evPure B15 14 15 [Pos.av a]).vt (dI .i64).dec=N15 a:=by kernel_rfl
theorem P15 (a:Pos) (h:ok15 a=true):PS Pz 15 [Pos.av a] ((dI .i64).res (N15 a)) := @ps_sum B15 hB15 14 15 [Pos.av a] Int _ (dI .i64) (ok15 a) (N15 a) (P15b a) (P15c a) (P15a a) h
noncomputable def K78:List (Nat×Nat×List (Nat×List Nat)):=[(78,16,[(0,[0]),(1,[0]),(2,[0,5]),(3,[2]),(4,[0,10]),(5,[2]),(6,[2])])]
noncomputable def B78:Base:=baseOf Pz (fun f i=>lkC f i K78) [] [] []
theorem hB78:BOk B78:=base_ok named_z trivial trivial trivial
noncomputable def N78 (a:Int):Int:=(bif decide (wr .i64 (0 - a) > 20000) then (wr .i64 (wr .i64 (0 - a) - 1)) else (bif decide (wr .i64 (0 - a) < -20000) then (wr .i64 (wr .i64 (0 - a)+1)) else (wr .i64 (0 - a))))
noncomputable def ok78 (a:Int):Bool:=true
theorem P78 (a:Int) (h:ok78 a=true):PS Pz 78 [.int .i64 a] ((dI .i64).res (N78 a)):=ps_sum (n:=14) hB78 (by kernel_rfl) (by kernel_rfl) (by kernel_rfl) h
noncomputable def G78:List AV→Tr AV:=g1 (dI .i64) (fun a=>.ret ((dI .i64).res (N78 a)))
theorem s78:Sound Pz 78 G78:=sound1 fun a=>at_rt (P78 a rfl)
end Kz
end
section
namespace Kz
open Go Go.RowKit Go.Proofs
set_option maxRecDepth 100000
def pC:Pos:=⟨0,((((List.replicate 64 (0:Int)).set 0 6).set 3 4).set 63 14).set 59 13,0,List.replicate 12 0,0,List.replicate 4 0,-1,[0,0],0,1⟩
def mC:Mv:=⟨3,59,0,0,false⟩
noncomputable def qC:Pos:=(N22 pC mC).1
theorem p0C:N24 pC=(0,0):=by kernel_rfl
theorem p1C:N24 qC=(0,0):=by kernel_rfl
theorem T0C:takesL pC=[mC]:=by kernel_rfl
theorem T1C:takesL qC=[]:=by kernel_rfl
theorem e0C:(ok15 pC,N15 pC)=(true,-400):=by kernel_rfl
theorem e1C:(ok15 qC,N15 qC)=(true,-488):=by kernel_rfl
def eqP (p q:Pos):Bool:=p.board==q.board&&(p.turn==q.turn&&(p.passing==q.passing&&(p.half==q.half&&(p.full==q.full&&(p.variant==q.variant&&(p.promoted==q.promoted&&(p.pockets==q.pockets&&(p.rooks==q.rooks&&p.checks==q.checks))))))))
theorem eqP_eq {p q:Pos} (h:eqP p q=true):p=q:=by
  unfold eqP at h
  simp only [Bool.and_eq_true,beq_iff_eq] at h
  obtain ⟨h1,h2,h3,h4,h5,h6,h7,h8,h9,h0⟩:=h
  cases p; cases q
  simp only at *
  subst_vars
  rfl
noncomputable def G24C (a:Pos):Tr AV:=match eqP pC a with
  | true=>gdv (posIB a) ((dR .u8 .u8).res (0,0))
  | false=>match eqP qC a with
    | true=>gdv (posIB a) ((dR .u8 .u8).res (0,0))
    | false=>.fail
noncomputable def G16C (a:Pos):Tr AV:=match eqP pC a with
  | true=>gdv (posIB a) ((dL .mv).res [mC])
  | false=>match eqP qC a with
    | true=>gdv (posIB a) ((dL .mv).res [])
    | false=>.fail
noncomputable def G15C (a:Pos):Tr AV:=match eqP pC a with
  | true=>.ret ((dI .i64).res (-400))
  | false=>match eqP qC a with
    | true=>.ret ((dI .i64).res (-488))
    | false=>.fail
theorem at24C (a:Pos):At0 Pz 24 [Pos.av a] (G24C a):=by
  unfold G24C
  split
  · rename_i e
    rw [← eqP_eq e]
    exact at_gd fun h=>by rw [← p0C]; exact P24 pC (t24 (posI_of h))
  · split
    · rename_i e
      rw [← eqP_eq e]
      exact at_gd fun h=>by rw [← p1C]; exact P24 qC (t24 (posI_of h))
    · intro u hu; cases hu
theorem at16C (a:Pos):At0 Pz 16 [Pos.av a] (G16C a):=by
  unfold G16C
  split
  · rename_i e
    rw [← eqP_eq e]
    exact at_gd fun h=>by rw [← T0C]; exact P16h pC (posI_of h)
  · split
    · rename_i e
      rw [← eqP_eq e]
      exact at_gd fun h=>by rw [← T1C]; exact P16h qC (posI_of h)
    · intro u hu; cases hu
theorem at15C (a:Pos):At0 Pz 15 [Pos.av a] (G15C a):=by
  unfold G15C
  split
  · rename_i e
    rw [← eqP_eq e]
    have h:ok15 pC=true∧N15 pC = -400:=by simpa using e0C
    rw [← h.2]
    exact at_rt (P15 pC h.1)
  · split
    · rename_i e
      rw [← eqP_eq e]
      have h:ok15 qC=true∧N15 qC = -488:=by simpa using e1C
      rw [← h.2]
      exact at_rt (P15 qC h.1)
    · intro u hu; cases hu
theorem i0C:N20 pC mC=true:=by kernel_rfl
theorem at20C (a:Pos) (m:Mv):At0 Pz 20 [Pos.av a,Mv.av m] (gdv (posIB a&&ok41 (N18 a) m) (dB.res (N20 a m))) :=
  at_gd fun h=>by
    simp only [Bool.and_eq_true] at h
    exact P20 a m (a_true (t18 (posI_of h.1)) fun _=>a_true h.2 fun _=>rfl)
noncomputable def B12:Base:=baseOf Pz (fun _ _=>[]) [(22,g2 dPos dMv fun a b=>gdv (posIB a) ((d2 dPos dB).res (N22 a b))),(24,g1 dPos G24C),(16,g1 dPos G16C),(15,g1 dPos G15C),(20,g2 dPos dMv fun a b=>gdv (posIB a&&ok41 (N18 a) b) (dB.res (N20 a b))),(78,G78)] [] []
theorem hB12:BOk B12:=base_ok named_z ⟨sound2 fun a b=>at_gd fun h=>P22 a b (move_all (posI_of h) b).1,sound1 at24C,sound1 at16C,sound1 at15C,sound2 at20C,s78,trivial⟩ trivial trivial
def isTr:Option AV→Bool
  | some (.bool b) | some (.cbool b)=>b
  | _=>false
theorem isTr_dec {o:Option AV} (h:isTr o=true):∃ v,o=some v∧dB.dec v=some true:=by
  unfold isTr at h
  split at h
  · subst h; exact ⟨_,rfl,rfl⟩
  · subst h; exact ⟨_,rfl,rfl⟩
  · cases h
theorem Q12:isTr (evPure B12 80 12 []).get=true:=by kernel_rfl
theorem P12h:PS Pz 12 [] (dB.res true):=by
  obtain ⟨v,h1,h2⟩:=isTr_dec Q12
  exact ps_of hB12 h1 dB h2
end Kz
end
section
namespace Kz
open Go Go.RowKit Go.Proofs
noncomputable def N12:Bool:=true
noncomputable def ok12:Bool:=true
theorem P12 (_:ok12=true):PS Pz 12 [] (dB.res N12):=P12h
noncomputable def G12:List AV→Tr AV:=g0 (.ret (dB.res N12))
theorem s12:Sound Pz 12 G12:=sound0 (at_rt (P12 rfl))
end Kz
end
section
namespace Kz
open Go Go.RowKit Go.Proofs
open Classical in
noncomputable def ok16 (a:Pos):Bool:=shut (decide (PosIn a))
theorem ok16_iff {p:Pos}:ok16 p=true ↔ PosIn p:=by
  unfold ok16
  rw [shut_eq]
  simp
noncomputable def N16 (a:Pos):List Mv:=shut (takesL a)
theorem N16_eq (p:Pos):N16 p=takesL p:=shut_eq _
theorem P16 (a:Pos) (h:ok16 a=true):PS Pz 16 [Pos.av a] ((dL .mv).res (N16 a)):=by
  rw [N16_eq]
  exact P16h a (ok16_iff.1 h)
noncomputable def G16:List AV→Tr AV:=g1 dPos (fun a=>gdv (ok16 a) ((dL .mv).res (N16 a)))
theorem s16:Sound Pz 16 G16:=sound1 fun a=>at_gd (P16 a)
end Kz
end
section
namespace Kz
open Go Go.RowKit Go.Proofs
set_option maxRecDepth 100000
set_option maxHeartbeats 4000000
noncomputable def K5:List (Nat×Nat×List (Nat×List Nat)):=[(5,78,[(0,[1]),(1,[1,3]),(2,[1,3,4]),(3,[1,3,4,5]),(4,[1,3,4,5,6]),(5,(1::(rn 3 4 [16]))),(6,[1,3,4,5,6]),(7,(1::(rn 3 4 [24]))),(8,[1,3,4,5,6]),(9,[1,3,5,7]),(10,[1,3,5,7,30]),(11,[1,3,5,7]),(12,[1,3,5,7,48]),(13,[2]),(14,[1,3,5,7,8]),(15,[1,3,5,7,8,51]),(16,[1,3,5,7,8]),(17,[1,3,5,7,8,62]),(18,[2]),(19,[3,5,64]),(20,[2]),(21,[2])])]
noncomputable def B5_1:Base:=baseOf Pz (fun f i=>lkC f i K5) [(11,G11),(12,G12),(16,G16),(18,G18),(19,G19),(20,G20)] [] []
theorem hB5_1:BOk B5_1:=base_ok named_z ⟨s11,s12,s16,s18,s19,s20,trivial⟩ trivial trivial
noncomputable def S5_1 (p1:(List Mv)) (p2:(List Mv)) (p3:Pos) (x:(Int×Int)):St:=St.mk (AV.any::AV.ptr 0 0::AV.any::AV.list ET.mv p1 Tk.fresh::AV.list ET.mv p2 Tk.fresh::AV.int .i64 x.fst::AV.int .i64 x.snd::(an 71 [])) (Hp.mk [(pc p3 [])] [] [] 0 0 0)
noncomputable def O5_1 (p1:(List Mv)) (p2:(List Mv)) (p3:Pos):(Int×Int×Bool)→Out:=fun y=>.exit 0 (St.mk (AV.any::AV.ptr 0 0::AV.any::AV.list ET.mv p1 Tk.fresh::AV.list ET.mv p2 Tk.fresh::AV.int .i64 y.fst::AV.int .i64 y.snd.fst::(an 9 (AV.bool y.snd.snd::(an 61 [])))) (Hp.mk [(pc p3 [])] [] [] 0 0 0))
noncomputable def st5_1 (p1:(List Mv)) (p2:(List Mv)) (p3:Pos) (x:(Int×Int)):Stp (Int×Int) ((Int×Int×Bool)):=(bif decide (x.snd < Int.ofNat p2.length) then (bif N19 p3 (p2.getD x.snd.toNat default) then (Stp.go (wr .i64 (x.fst+1),wr .i64 (x.snd+1))) else (Stp.go (x.fst,wr .i64 (x.snd+1)))) else (Stp.out ((x.fst,x.snd,decide (x.snd < Int.ofNat p2.length)))))
noncomputable def okL5_1 (p1:(List Mv)) (p2:(List Mv)) (p3:Pos) (x:(Int×Int)):Bool:=(bif decide (x.snd < Int.ofNat p2.length) then (decide (0≤x.snd)&&decide (x.snd < Int.ofNat p2.length)&&(ok19 p3 (p2.getD x.snd.toNat default)&&true)) else true)
noncomputable def lp5_1 (p1:(List Mv)) (p2:(List Mv)) (p3:Pos) (x:(Int×Int)):Option ((Int×Int×Bool)):=itl (fun x=>bif okL5_1 p1 p2 p3 x then st5_1 p1 p2 p3 x else .bad) many x
abbrev D5_1 {α:Type} (k:(List Mv)→(List Mv)→Pos→(Int×Int)→α) (s:St):α:=wP s 0 fun q0=>k (tL (ET.mv) (tT s 3)) (tL (ET.mv) (tT s 4)) q0 ((tI (tT s 5)),(tI (tT s 6)))
theorem L5_1 (p1:(List Mv)) (p2:(List Mv)) (p3:Pos) (x:(Int×Int)) (r:(Int×Int×Bool)) (h:lp5_1 p1 p2 p3 x=some r):LSpec Pz (bodL Pz 5 5) (S5_1 p1 p2 p3 x) (O5_1 p1 p2 p3 r):=LSpec.smd (m:=12) (fn:=5) hB5_1 (D5_1 fun _ _ _ x=>some x) (fun o=>match o with | .exit 0 s=>some ((tI (tT s 5)),(tI (tT s 6)),(tB (tT s 16))) | _=>none) (fun _=>rfl) (fun _=>by kernel_rfl) (fun _=>by kernel_rfl) (fun _=>by kernel_rfl) (fun _=>by kernel_rfl) many x r h
noncomputable def F5_1 (b:Code) (s:St):Tr Out:=D5_1 (fun p1 p2 p3 x=>lk1 b (bodL Pz 5 5) s (S5_1 p1 p2 p3 x) (lp5_1 p1 p2 p3 x) (O5_1 p1 p2 p3)) s
theorem sF5_1:∀ b,LSound Pz b (F5_1 b):=fun _ _ _ h=>lk1_ok (L5_1 _ _ _ _) h
noncomputable def B5_2:Base:=baseOf Pz (fun f i=>lkC f i K5) [(11,G11),(12,G12),(16,G16),(18,G18),(19,G19),(20,G20)] [(5,5,F5_1)] []
theorem hB5_2:BOk B5_2:=base_ok named_z ⟨s11,s12,s16,s18,s19,s20,trivial⟩ ⟨sF5_1,trivial⟩ trivial
noncomputable def S5_2 (p1:(List Mv)) (p2:Int) (p3:Int) (p4:Pos) (x:(Int)):St:=St.mk (AV.any::AV.ptr 0 0::AV.any::AV.list ET.mv p1 Tk.fresh::AV.any::AV.int .i64 p2::AV.any::AV.int .i64 p3::AV.int .i64 x::(an 69 [])) (Hp.mk [(pc p4 [])] [] [] 0 0 0)
noncomputable def O5_2 (p1:(List Mv)) (p2:Int) (p3:Int) (p4:Pos):Unit ⊕ (Int×Bool)→Out
  | (.inl (y))=>.ret (St.mk (AV.any::AV.any::AV.cbool false::(an 75 [])) (Hp.mk [(pc p4 [])] [] [] 0 0 0))
  | (.inr (y))=>.exit 4 (St.mk (AV.any::AV.ptr 0 0::AV.any::AV.list ET.mv p1 Tk.fresh::AV.any::AV.int .i64 p2::AV.any::AV.int .i64 p3::AV.int .i64 y.fst::(an 42 (AV.bool y.snd::(an 26 [])))) (Hp.mk [(pc p4 [])] [] [] 0 0 0))
noncomputable def st5_2 (p1:(List Mv)) (p2:Int) (p3:Int) (p4:Pos) (x:(Int)):Stp (Int) (Unit ⊕ (Int×Bool)):=(bif decide (x < p3) then (bif eqOut BinOp.eql ((p1.getD x.toNat default).frm==(p1.getD p3.toNat default).frm&&((p1.getD x.toNat default).to==(p1.getD p3.toNat default).to&&((p1.getD x.toNat default).pro==(p1.getD p3.toNat default).pro&&((p1.getD x.toNat default).drp==(p1.getD p3.toNat default).drp&&((p1.getD x.toNat default).cas==(p1.getD p3.toNat default).cas&&true))))) then (Stp.out (.inl (()))) else (Stp.go (wr .i64 (x+1)))) else (Stp.out (.inr ((x,decide (x < p3))))))
noncomputable def okL5_2 (p1:(List Mv)) (p2:Int) (p3:Int) (p4:Pos) (x:(Int)):Bool:=(bif decide (x < p3) then (decide (0≤x)&&decide (x < Int.ofNat p1.length)&&(decide (0≤p3)&&decide (p3 < Int.ofNat p1.length)&&true)) else true)
noncomputable def lp5_2 (p1:(List Mv)) (p2:Int) (p3:Int) (p4:Pos) (x:(Int)):Option (Unit ⊕ (Int×Bool)):=itl (fun x=>bif okL5_2 p1 p2 p3 p4 x then st5_2 p1 p2 p3 p4 x else .bad) many x
abbrev D5_2 {α:Type} (k:(List Mv)→Int→Int→Pos→(Int)→α) (s:St):α:=wP s 0 fun q0=>k (tL (ET.mv) (tT s 3)) (tI (tT s 5)) (tI (tT s 7)) q0 ((tI (tT s 8)))
theorem L5_2 (p1:(List Mv)) (p2:Int) (p3:Int) (p4:Pos) (x:(Int)) (r:Unit ⊕ (Int×Bool)) (h:lp5_2 p1 p2 p3 p4 x=some r):LSpec Pz (bodL Pz 5 15) (S5_2 p1 p2 p3 p4 x) (O5_2 p1 p2 p3 p4 r):=LSpec.smd (m:=12) (fn:=5) hB5_2 (D5_2 fun _ _ _ _ x=>some x) (fun o=>match o with | .ret s=>some (.inl ()) | .exit 4 s=>some (.inr ((tI (tT s 8)),(tB (tT s 51)))) | _=>none) (fun r=>by cases r <;> rfl) (fun _=>by kernel_rfl) (fun _=>by kernel_rfl) (fun _=>by kernel_rfl) (fun _=>by kernel_rfl) many x r h
noncomputable def F5_2 (b:Code) (s:St):Tr Out:=D5_2 (fun p1 p2 p3 p4 x=>lk2 b (bodL Pz 5 15) s (S5_2 p1 p2 p3 p4 x) (lp5_2 p1 p2 p3 p4 x) (O5_2 p1 p2 p3 p4)) s
theorem sF5_2:∀ b,LSound Pz b (F5_2 b):=fun _ _ _ h=>lk2_ok (L5_2 _ _ _ _ _) h
noncomputable def B5_3:Base:=baseOf Pz (fun f i=>lkC f i K5) [(11,G11),(12,G12),(16,G16),(18,G18),(19,G19),(20,G20)] [(5,5,F5_1),(5,15,F5_2)] []
theorem hB5_3:BOk B5_3:=base_ok named_z ⟨s11,s12,s16,s18,s19,s20,trivial⟩ ⟨sF5_1,sF5_2,trivial⟩ trivial
noncomputable def S5_3 (p1:(List Mv)) (p2:Int) (p3:Pos) (x:(Int)):St:=St.mk (AV.any::AV.ptr 0 0::AV.any::AV.list ET.mv p1 Tk.fresh::AV.any::AV.int .i64 p2::AV.any::AV.int .i64 x::(an 70 [])) (Hp.mk [(pc p3 [])] [] [] 0 0 0)
noncomputable def O5_3 (p1:(List Mv)) (p2:Int) (p3:Pos):Unit ⊕ (Int×Bool)→Out
  | (.inl (y))=>.ret (St.mk (AV.any::AV.any::AV.cbool false::(an 75 [])) (Hp.mk [(pc p3 [])] [] [] 0 0 0))
  | (.inr (y))=>.exit 2 (St.mk (AV.any::AV.ptr 0 0::AV.any::AV.list ET.mv p1 Tk.fresh::AV.any::AV.int .i64 p2::AV.any::AV.int .i64 y.fst::(an 22 (AV.bool y.snd::(an 47 [])))) (Hp.mk [(pc p3 [])] [] [] 0 0 0))
noncomputable def st5_3 (p1:(List Mv)) (p2:Int) (p3:Pos) (x:(Int)):Stp (Int) (Unit ⊕ (Int×Bool)):=(bif decide (x < Int.ofNat p1.length) then (bif !N20 p3 (p1.getD x.toNat default) then (Stp.out (.inl (()))) else (bif !N19 p3 (p1.getD x.toNat default) then (Stp.out (.inl (()))) else (bif isL ((lp5_2 p1 p2 x p3 0).getD default) then (Stp.out (.inl (()))) else (Stp.go (wr .i64 (x+1)))))) else (Stp.out (.inr ((x,decide (x < Int.ofNat p1.length))))))
noncomputable def okL5_3 (p1:(List Mv)) (p2:Int) (p3:Pos) (x:(Int)):Bool:=(bif decide (x < Int.ofNat p1.length) then (decide (0≤x)&&decide (x < Int.ofNat p1.length)&&(ok20 p3 (p1.getD x.toNat default)&&(bif !N20 p3 (p1.getD x.toNat default) then true else (decide (0≤x)&&decide (x < Int.ofNat p1.length)&&(ok19 p3 (p1.getD x.toNat default)&&(bif !N19 p3 (p1.getD x.toNat default) then true else ((lp5_2 p1 p2 x p3 0).isSome&&bif isL ((lp5_2 p1 p2 x p3 0).getD default) then true else true))))))) else true)
noncomputable def lp5_3 (p1:(List Mv)) (p2:Int) (p3:Pos) (x:(Int)):Option (Unit ⊕ (Int×Bool)):=itl (fun x=>bif okL5_3 p1 p2 p3 x then st5_3 p1 p2 p3 x else .bad) many x
abbrev D5_3 {α:Type} (k:(List Mv)→Int→Pos→(Int)→α) (s:St):α:=wP s 0 fun q0=>k (tL (ET.mv) (tT s 3)) (tI (tT s 5)) q0 ((tI (tT s 7)))
theorem L5_3 (p1:(List Mv)) (p2:Int) (p3:Pos) (x:(Int)) (r:Unit ⊕ (Int×Bool)) (h:lp5_3 p1 p2 p3 x=some r):LSpec Pz (bodL Pz 5 10) (S5_3 p1 p2 p3 x) (O5_3 p1 p2 p3 r):=LSpec.smd (m:=12) (fn:=5) hB5_3 (D5_3 fun _ _ _ x=>some x) (fun o=>match o with | .ret s=>some (.inl ()) | .exit 2 s=>some (.inr ((tI (tT s 7)),(tB (tT s 30)))) | _=>none) (fun r=>by cases r <;> rfl) (fun _=>by kernel_rfl) (fun _=>by kernel_rfl) (fun _=>by kernel_rfl) (fun _=>by kernel_rfl) many x r h
noncomputable def F5_3 (b:Code) (s:St):Tr Out:=D5_3 (fun p1 p2 p3 x=>lk2 b (bodL Pz 5 10) s (S5_3 p1 p2 p3 x) (lp5_3 p1 p2 p3 x) (O5_3 p1 p2 p3)) s
theorem sF5_3:∀ b,LSound Pz b (F5_3 b):=fun _ _ _ h=>lk2_ok (L5_3 _ _ _ _) h
noncomputable def B5:Base:=baseOf Pz (fun f i=>lkC f i K5) [(11,G11),(12,G12),(16,G16),(18,G18),(19,G19),(20,G20)] [(5,5,F5_1),(5,15,F5_2),(5,10,F5_3)] []
theorem hB5:BOk B5:=base_ok named_z ⟨s11,s12,s16,s18,s19,s20,trivial⟩ ⟨sF5_1,sF5_2,sF5_3,trivial⟩ trivial
noncomputable def N5 (a:Pos):Bool:=(bif isL ((lp5_3 (N16 a) ((lp5_1 (N16 a) (N18 a) a (0,0)).getD default).fst a 0).getD default) then (false) else (bif N11 a then (bif Int.ofNat (N16 a).length==0 then (N12) else (false)) else (bif Int.ofNat (N16 a).length==((lp5_1 (N16 a) (N18 a) a (0,0)).getD default).fst then (N12) else (false))))
noncomputable def ok5 (a:Pos):Bool:=(ok16 a&&(ok18 a&&((lp5_1 (N16 a) (N18 a) a (0,0)).isSome&&((lp5_3 (N16 a) ((lp5_1 (N16 a) (N18 a) a (0,0)).getD default).fst a 0).isSome&&bif isL ((lp5_3 (N16 a) ((lp5_1 (N16 a) (N18 a) a (0,0)).getD default).fst a 0).getD default) then true else (ok11 a&&true)))))
theorem P5 (a:Pos) (h:ok5 a=true):PS Pz 5 [Pos.av a] (dB.res (N5 a)):=ps_sum (n:=14) hB5 (by kernel_rfl) (by kernel_rfl) (by kernel_rfl) h
noncomputable def G5:List AV→Tr AV:=g1 dPos (fun a=>gdv (ok5 a) (dB.res (N5 a)))
theorem s5:Sound Pz 5 G5:=sound1 fun a=>at_gd (P5 a)
end Kz
end
section
namespace Kz
open Go
set_option maxRecDepth 100000
theorem nd_flat {α β:Type} {l:List α} {f:α→List β} (h1:l.Pairwise (·≠·)) (h2:∀ a ∈ l,(f a).Pairwise (·≠·)) (h3:∀ a b x,x ∈ f a→x ∈ f b→a=b):(l.flatMap f).Pairwise (·≠·):=by
  rw [List.pairwise_flatMap]
  exact ⟨h2,h1.imp fun hne x hx y hy e=>by subst e; exact hne (h3 _ _ x hx hy)⟩
theorem nd_one {α:Type} (a:α):[a].Pairwise (·≠·):=List.pairwise_singleton _ _
theorem sqs_nd (b:BitVec 64) (k:Nat):(sqs b k).Pairwise (·≠·):=by
  unfold sqs
  rw [List.pairwise_map]
  have h:(List.range k).Pairwise (·≠·):=List.nodup_range
  have h2:((List.range k).filter b.getLsbD).Pairwise (·≠·):=List.Pairwise.filter _ h
  exact h2.imp fun {a c} hne e=>hne (Int.ofNat.inj e)
theorem proms_nd (v:Int):(proms v).Pairwise (·≠·):=by
  unfold proms
  split
  · split <;> decide
  · exact .nil
theorem mvs_mem {p:Pos} {f t:Int} {m:Mv} (h:m ∈ mvs p f t):m.frm=f∧m.to=t∧m.drp=0∧m.cas=false:=by
  revert h
  unfold mvs
  have k:m ∈ [(⟨f,t,0,0,false⟩:Mv)]→m.frm=f∧m.to=t∧m.drp=0∧m.cas=false:=fun h=>by
    rw [List.mem_singleton] at h
    subst h
    exact ⟨rfl,rfl,rfl,rfl⟩
  refine c_ind (P:=fun l:List Mv=>m ∈ l→_) (fun _=>k) fun _=>c_ind (P:=fun l:List Mv=>m ∈ l→_) (fun _=>k) fun _ h => ?_
  obtain ⟨q,_,h⟩:=List.mem_flatMap.1 h
  rw [List.mem_singleton] at h
  subst h
  exact ⟨rfl,rfl,rfl,rfl⟩
theorem mvs_nd (p:Pos) (f t:Int):(mvs p f t).Pairwise (·≠·):=by
  unfold mvs
  refine c_ind (P:=fun l:List Mv=>l.Pairwise (·≠·)) (fun _=>nd_one _) fun _=>c_ind (P:=fun l:List Mv=>l.Pairwise (·≠·)) (fun _=>nd_one _) fun _ => ?_
  refine nd_flat (proms_nd _) (fun _ _=>nd_one _) fun a b x hx hy => ?_
  rw [List.mem_singleton] at hx hy
  subst hx
  exact congrArg Mv.pro hy
theorem froms_mem {p:Pos} {x:Pos×BitVec 64×BitVec 64} {f:Int} {m:Mv} (h:m ∈ froms p x f):m.frm=f∧m.drp=0∧m.cas=false:=by
  unfold froms at h
  obtain ⟨t,_,h⟩:=List.mem_flatMap.1 h
  have:=mvs_mem h
  exact ⟨this.1,this.2.2.1,this.2.2.2⟩
theorem froms_nd (p:Pos) (x:Pos×BitVec 64×BitVec 64) (f:Int):(froms p x f).Pairwise (·≠·) :=
  nd_flat (sqs_nd _ _) (fun t _=>mvs_nd p f t) fun a b m hx hy=>(mvs_mem hx).2.1.symm.trans (mvs_mem hy).2.1
theorem N90_nd {p:Pos} (hp:PosIn p):(N90 p).Pairwise (·≠·):=by
  by_cases ht:there p
  · rw [N90_there hp.v0 ht]
    exact nd_flat (sqs_nd _ _) (fun f _=>froms_nd _ _ f) fun a b m hx hy=>(froms_mem hx).1.symm.trans (froms_mem hy).1
  · rw [N90_not ht]
    exact .nil
theorem drops_mem {p:Pos} {k:Int} {m:Mv} (h:m ∈ drops p k):m.drp=k:=by
  revert h
  unfold drops
  have key:∀ l:List Int,m ∈ l.flatMap (fun s=>[(⟨s,s,0,k,false⟩:Mv)])→m.drp=k:=fun l h=>by
    obtain ⟨s,_,h⟩:=List.mem_flatMap.1 h
    rw [List.mem_singleton] at h
    subst h
    rfl
  exact c_ind (P:=fun l:List Mv=>m ∈ l→_) (fun _ h=>by cases h) fun _=>c_ind (P:=fun l:List Mv=>m ∈ l→_) (fun _ h=>key _ h) fun _ h=>key _ h
theorem drops_nd (p:Pos) (k:Int):(drops p k).Pairwise (·≠·):=by
  unfold drops
  have key:∀ b:BitVec 64,((sqs b 64).flatMap (fun s=>[(⟨s,s,0,k,false⟩:Mv)])).Pairwise (·≠·):=fun b =>
    nd_flat (sqs_nd _ _) (fun _ _=>nd_one _) fun a c x hx hy=>by
      rw [List.mem_singleton] at hx hy
      subst hx
      exact congrArg Mv.frm hy
  exact c_ind (P:=fun l:List Mv=>l.Pairwise (·≠·)) (fun _=>.nil) fun _=>c_ind (P:=fun l:List Mv=>l.Pairwise (·≠·)) (fun _=>key _) fun _=>key _
theorem N98_nd {p:Pos} (hp:PosIn p):(N98 p).Pairwise (·≠·):=by
  rw [N98_eq hp.t0]
  refine c_ind (P:=fun l:List Mv=>l.Pairwise (·≠·)) (fun _=>.nil) fun _=>c_ind (P:=fun l:List Mv=>l.Pairwise (·≠·)) (fun _=>.nil) fun _ => ?_
  exact nd_flat (by decide) (fun k _=>drops_nd p k) fun a b m hx hy=>(drops_mem hx).symm.trans (drops_mem hy)
theorem N181_side {p:Pos} {b c:Int} (h:(N181 p b c).2=true):(c=0→b < (N181 p b c).1)∧(c≠0→¬ b < (N181 p b c).1):=by
  revert h
  unfold N181
  refine c_ind (P:=fun x:Int×Bool=>x.2=true→(c=0→b < x.1)∧(c≠0→¬ b < x.1)) (fun _ h=>by cases h) fun _=>c_ind (P:=fun x:Int×Bool=>x.2=true→(c=0→b < x.1)∧(c≠0→¬ b < x.1)) (fun _ h=>by cases h) fun _=>c_ind (P:=fun x:Int×Bool=>x.2=true→(c=0→b < x.1)∧(c≠0→¬ b < x.1)) (fun _=>c_ind (P:=fun x:Int×Bool=>x.2=true→(c=0→b < x.1)∧(c≠0→¬ b < x.1)) (fun h1 _ => ?_) fun _ h=>by cases h) fun _ h=>by cases h
  have h1:(decide (wr .i64 (N148 p.turn+wr .i64 (p.rooks.getD (scale 2 p.turn+scale 1 c).toNat 0)) > b)==(c==0))=true:=h1
  simp only [beq_iff_eq] at h1
  refine ⟨fun hc => ?_,fun hc hlt => ?_⟩
  · subst hc
    simpa using h1
  · have hc2:(c==0)=false:=by simpa using hc
    rw [hc2] at h1
    have:=of_decide_eq_false h1
    exact this hlt
theorem N97_nd {p:Pos} (hp:PosIn p):(N97 p).Pairwise (·≠·):=by
  unfold N97
  have hk:=N106_lo p p.turn 6
  refine c_ind (P:=fun l:List Mv=>l.Pairwise (·≠·)) (fun _=>.nil) fun h => ?_
  have ht:p.turn≤1:=by simpa using h
  refine c_ind (P:=fun l:List Mv=>l.Pairwise (·≠·)) (fun _=>.nil) fun _=>c_ind (P:=fun l:List Mv=>l.Pairwise (·≠·)) (fun _=>.nil) fun hk0=>c_ind (P:=fun l:List Mv=>l.Pairwise (·≠·)) (fun _=>.nil) fun _ => ?_
  have hk0:0≤N106 p p.turn 6:=by simpa using hk0
  refine c_ind (P:=fun l:List Mv=>l.Pairwise (·≠·)) (fun h1=>c_ind (P:=fun l:List Mv=>l.Pairwise (·≠·)) (fun h2 => ?_) fun _=>nd_one _) fun _=>c_ind (P:=fun l:List Mv=>l.Pairwise (·≠·)) (fun _=>nd_one _) fun _=>.nil
  obtain ⟨_,_,_,_,_,_,a1,a2⟩:=N149_mem hp ht hk0 hk.2 h1
  obtain ⟨_,_,_,_,_,_,b1,b2⟩:=N149_mem hp ht hk0 hk.2 h2
  have s1:=(N181_side a2).2 (by decide)
  have s2:=(N181_side b2).1 rfl
  rw [← a1] at s1
  rw [← b1] at s2
  refine List.pairwise_cons.2 ⟨fun x hx e => ?_,nd_one _⟩
  have hx:x ∈ [(N149 p (N106 p p.turn 6) 0).fst]:=hx
  rw [List.mem_singleton] at hx
  subst e
  rw [hx] at s1
  exact s1 s2
theorem N45_nd {p:Pos} (hp:PosIn p):(N45 p).Pairwise (·≠·):=by
  rw [N45_eq,List.pairwise_append,List.pairwise_append]
  refine ⟨⟨N90_nd hp,N97_nd hp,fun x hx y hy e => ?_⟩,N98_nd hp,fun x hx y hy e => ?_⟩
  · subst e
    obtain ⟨_,_,_,_,_,_,_,_,h,_⟩:=N90_mem hp.v0 hx
    have h2:=(N97_mem hp hy).2.2.2.2.2.1
    rw [h] at h2
    cases h2
  · subst e
    have h1:=(N98_mem hp.t0 hy).2.2.2.2.2.2.1
    rcases List.mem_append.1 hx with hx | hx
    · obtain ⟨_,_,_,_,_,_,_,h,_⟩:=N90_mem hp.v0 hx
      omega
    · have:=(N97_mem hp hx).2.2.2.2.2.2.1
      omega
theorem N18_nd {p:Pos} (hp:PosIn p):(N18 p).Pairwise (·≠·):=by
  rw [N18_eq hp]
  refine c_ind (P:=fun l:List Mv=>l.Pairwise (·≠·)) (fun _=>.nil) fun _ => ?_
  have e:=N39_eq hp
  rw [e]
  have hw:(wouldL p).Pairwise (·≠·):=by
    unfold wouldL
    have h0:((N45 p).filter (N86 p)).Pairwise (·≠·):=List.Pairwise.filter _ (N45_nd hp)
    exact c_ind (P:=fun l:List Mv=>l.Pairwise (·≠·)) (fun _=>c_ind (P:=fun l:List Mv=>l.Pairwise (·≠·)) (fun _=>List.Pairwise.filter _ h0) fun _=>h0) fun _=>h0
  exact c_ind (P:=fun l:List Mv=>l.Pairwise (·≠·)) (fun _=>c_ind (P:=fun l:List Mv=>l.Pairwise (·≠·)) (fun _=>.nil) fun _=>hw) fun _=>hw
section
variable {p:Pos} (hp:PosIn p)
include hp
theorem takes_len:(takesL p).length≤20802∧∀ m ∈ takesL p,m ∈ N18 p∧N19 p m=true:=by
  have h:=N18_len hp
  unfold takesL
  refine c_ind (P:=fun l:List Mv=>l.length≤20802∧∀ m ∈ l,m ∈ N18 p∧N19 p m=true) (fun _=>⟨by simp,fun m h=>by cases h⟩) fun _ => ?_
  have h2:((N18 p).filter (N19 p)).length≤(N18 p).length:=List.length_filter_le _ _
  refine ⟨by rw [Go.Proofs.srt_len]; omega,fun m hm => ?_⟩
  exact List.mem_filter.1 ((Go.Proofs.srt_perm p _).mem_iff.1 hm)
theorem takes_nd:(takesL p).Pairwise (·≠·):=by
  unfold takesL
  refine c_ind (P:=fun l:List Mv=>l.Pairwise (·≠·)) (fun _=>.nil) fun _ => ?_
  have h:((N18 p).filter (N19 p)).Nodup:=List.Pairwise.filter _ (N18_nd hp)
  exact (Go.Proofs.srt_perm p _).nodup_iff.2 h
theorem t20 (m:Mv):ok20 p m=true:=a_true (t18 hp) fun _=>a_true (t41 (by have:=N18_len hp; omega)) fun _=>rfl
theorem N20_eq (m:Mv):N20 p m=decide (m ∈ N18 p):=by
  unfold N20
  exact N41_eq (by have:=N18_len hp; omega)
theorem lp5a (q:List Mv) (l:List Mv) (hl:l.length≤1000000):∃ r,lp5_1 q l p (0,0)=some r∧r.1=((l.filter (N19 p)).length:Int):=by
  refine lp_many (I:=fun x=>0≤x.2∧x.2≤(l.length:Int)∧x.1=(((l.take x.2.toNat).filter (N19 p)).length:Int)) (μ:=fun x=>((l.length:Int) - x.2).toNat) ?_ _ ⟨by simp,by simp,by simp⟩ (by simp; omega)
  rintro ⟨c,n⟩ ⟨h0,h1,h2⟩
  simp only at h0 h1 h2
  have hc2:((l.take n.toNat).filter (N19 p)).length≤1000000:=by
    have:=List.length_filter_le (N19 p) (l.take n.toNat)
    have:=List.length_take_le n.toNat l
    rw [List.length_take] at this
    have h3:(l.take n.toNat).length≤l.length:=by rw [List.length_take]; omega
    omega
  by_cases hc:n < l.length
  · have hlt:n.toNat < l.length:=by omega
    have hw:wr .i64 (n+1)=n+1:=wi64 (by omega) (by omega)
    have hw1:wr .i64 (c+1)=c+1:=wi64 (by omega) (by omega)
    have et:(l.take (n+1).toNat).filter (N19 p)=(l.take n.toNat).filter (N19 p)++if N19 p l[n.toNat]=true then [l[n.toNat]] else []:=by
      rw [show (n+1).toNat=n.toNat+1 by omega,List.take_succ_eq_append_getElem hlt,List.filter_append,List.filter_cons,List.filter_nil]
    have eg:l.getD n.toNat default=l[n.toNat]:=by rw [List.getD_eq_getElem?_getD,List.getElem?_eq_getElem hlt]; rfl
    refine ⟨c_true (fun _=>a_true (by simp [h0]; exact hc) fun _=>a_true (t19 hp.v0 _) fun _=>rfl) fun _=>rfl,c_ind (fun _ => ?_) fun h=>absurd h (by simpa using hc)⟩
    refine c_ind (fun h => ?_) fun h => ?_
    · rw [hw,hw1]
      rw [eg] at h
      refine ⟨⟨by dsimp only; omega,by dsimp only; omega,?_⟩,by dsimp only; omega⟩
      show c+1=(((l.take (n+1).toNat).filter (N19 p)).length:Int)
      rw [et,if_pos h,List.length_append]
      simp [h2]
    · rw [hw]
      rw [eg] at h
      refine ⟨⟨by dsimp only; omega,by dsimp only; omega,?_⟩,by dsimp only; omega⟩
      show c=(((l.take (n+1).toNat).filter (N19 p)).length:Int)
      rw [et,if_neg (by rw [h]; simp),List.append_nil]
      exact h2
  · refine ⟨c_true (fun h=>absurd h (by simpa using hc)) fun _=>rfl,c_ind (fun h=>absurd h (by simpa using hc)) fun _ => ?_⟩
    show c=((l.filter (N19 p)).length:Int)
    rw [List.take_of_length_le (by omega)] at h2
    exact h2
omit hp in
theorem mv_eqB {a b:Mv} (h:(a.frm==b.frm&&(a.to==b.to&&(a.pro==b.pro&&(a.drp==b.drp&&(a.cas==b.cas&&true)))))=true):a=b:=by
  simp only [Bool.and_true,Bool.and_eq_true,beq_iff_eq] at h
  obtain ⟨h1,h2,h3,h4,h5⟩:=h
  cases a; cases b
  simp_all
omit hp in
theorem lp5b (l:List Mv) (hl:l.length≤1000000) (hn:l.Pairwise (·≠·)) (c:Int) (i:Int) (hi:0≤i) (hi2:i < l.length):∃ r,lp5_2 l c i p 0=some r∧isL r=false:=by
  refine lp_many (I:=fun x=>0≤x∧x≤i) (μ:=fun x=>(i - x).toNat) ?_ _ ⟨by simp,hi⟩ (by simp; omega)
  rintro n ⟨h0,h1⟩
  by_cases hc:n < i
  · have hlt:n.toNat < l.length:=by omega
    have hlti:i.toNat < l.length:=by omega
    have hw:wr .i64 (n+1)=n+1:=wi64 (by omega) (by omega)
    refine ⟨c_true (fun _=>a_true (by simp [h0]; omega) fun _=>a_true (by simp [hi]; exact hi2) fun _=>rfl) fun _=>rfl,c_ind (fun _ => ?_) fun h=>absurd h (by simpa using hc)⟩
    refine c_ind (fun h => ?_) fun _ => ?_
    · exfalso
      have h:=mv_eqB (show _=true from h)
      have e1:l.getD n.toNat default=l[n.toNat]:=by rw [List.getD_eq_getElem?_getD,List.getElem?_eq_getElem hlt]; rfl
      have e2:l.getD i.toNat default=l[i.toNat]:=by rw [List.getD_eq_getElem?_getD,List.getElem?_eq_getElem hlti]; rfl
      rw [e1,e2] at h
      exact List.pairwise_iff_getElem.1 hn n.toNat i.toNat hlt hlti (by omega) h
    · rw [hw]
      exact ⟨⟨by omega,by omega⟩,by dsimp only; omega⟩
  · exact ⟨c_true (fun h=>absurd h (by simpa using hc)) fun _=>rfl,c_ind (fun h=>absurd h (by simpa using hc)) fun _=>rfl⟩
theorem lp5c (l:List Mv) (hl:l.length≤1000000) (hn:l.Pairwise (·≠·)) (hm:∀ m ∈ l,m ∈ N18 p∧N19 p m=true) (c:Int):∃ r,lp5_3 l c p 0=some r∧isL r=false:=by
  refine lp_many (I:=fun x=>0≤x∧x≤(l.length:Int)) (μ:=fun x=>((l.length:Int) - x).toNat) ?_ _ ⟨by simp,by simp⟩ (by simp; omega)
  rintro n ⟨h0,h1⟩
  by_cases hc:n < l.length
  · have hlt:n.toNat < l.length:=by omega
    have hw:wr .i64 (n+1)=n+1:=wi64 (by omega) (by omega)
    have hg:=hm _ (getD_mem (d:=default) hlt)
    have k1:N20 p (l.getD n.toNat default)=true:=by rw [N20_eq hp]; exact decide_eq_true hg.1
    have k2:=hg.2
    have k3:=of_some (lp5b (p:=p) l hl hn c n h0 hc)
    have b1:(decide (0≤n)&&decide (n < Int.ofNat l.length))=true:=by simp [h0]; exact hc
    refine ⟨c_true (fun _=>a_true b1 fun _=>a_true (t20 hp _) fun _=>c_true (fun _=>rfl) fun _=>a_true b1 fun _=>a_true (t19 hp.v0 _) fun _=>c_true (fun _=>rfl) fun _=>a_true k3.1 fun _=>c_true (fun _=>rfl) fun _=>rfl) fun _=>rfl,c_ind (fun _ => ?_) fun h=>absurd h (by simpa using hc)⟩
    refine c_ind (fun h=>by rw [k1] at h; cases h) fun _=>c_ind (fun h=>by rw [k2] at h; cases h) fun _=>c_ind (fun h=>by rw [k3.2] at h; cases h) fun _ => ?_
    rw [hw]
    exact ⟨⟨by omega,by omega⟩,by dsimp only; omega⟩
  · exact ⟨c_true (fun h=>absurd h (by simpa using hc)) fun _=>rfl,c_ind (fun h=>absurd h (by simpa using hc)) fun _=>rfl⟩
theorem N5_true:ok5 p=true∧N5 p=true:=by
  have hl:=takes_len hp
  have h18:=N18_len hp
  have a:=of_some (lp5a hp (takesL p) (N18 p) (by omega))
  have c:=of_some (lp5c hp (takesL p) (by omega) (takes_nd hp) hl.2 ((lp5_1 (takesL p) (N18 p) p (0,0)).getD default).fst)
  unfold ok5 N5
  rw [N16_eq]
  refine ⟨a_true (ok16_iff.2 hp) fun _=>a_true (t18 hp) fun _=>a_true a.1 fun _=>a_true c.1 fun _=>c_true (fun _=>rfl) fun _=>a_true (t11 hp) fun _=>rfl,?_⟩
  rw [c.2,cond_false]
  refine c_ind (P:=fun b:Bool=>b=true) (fun h => ?_) fun h => ?_
  · have e:takesL p=[]:=by unfold takesL; rw [h]; rfl
    rw [e]
    rfl
  · have e:(takesL p).length=((N18 p).filter (N19 p)).length:=by unfold takesL; rw [h]; exact Go.Proofs.srt_len p _
    refine c_ind (P:=fun b:Bool=>b=true) (fun _=>rfl) fun h2 => ?_
    exfalso
    rw [a.2,e] at h2
    simp at h2
end
end Kz
end
