/- Part 5 of the texts under the proof: an abstract interpreter,the summaries of functions,plain laws. -/
import Derived.Test.YtkigphpfdagcnaaGreatDoorO4
set_option linter.unusedSectionVars false
set_option linter.unusedVariables false
set_option linter.unusedSimpArgs false
set_option linter.unnecessarySimpa false
section
namespace Kz
open Go
set_option maxRecDepth 100000
section
variable {p:Pos} (hp:PosIn p)
include hp
theorem N141_mem (ht:p.turn≤1) {b c:Int} (hb0:0≤b) (hb1:b < 64):(N141 p b c).2=true→(N141 p b c).1.frm=b∧0≤(N141 p b c).1.to∧(N141 p b c).1.to < 64∧(N141 p b c).1.cas=true∧(N141 p b c).1.drp=0∧(N141 p b c).1.pro=0∧(N141 p b c).1.to=(N179 p b c).1∧(N179 p b c).2=true:=by
  have hr:=N179_in hp ht (b:=b) (c:=c)
  have wb:wr .i8 b=b:=wi8 (by omega) (by omega)
  have wr':wr .i8 (N179 p b c).1=(N179 p b c).1:=wi8 (by omega) (by omega)
  have ci:=fun {d:Bool} {x y:Mv×Bool} => @c_ind (Mv×Bool) (fun x=>x.2=true→x.1.frm=b∧0≤x.1.to∧x.1.to < 64∧x.1.cas=true∧x.1.drp=0∧x.1.pro=0∧x.1.to=(N179 p b c).1∧(N179 p b c).2=true) d x y
  show (fun x:Mv×Bool=>x.2=true→x.1.frm=b∧0≤x.1.to∧x.1.to < 64∧x.1.cas=true∧x.1.drp=0∧x.1.pro=0∧x.1.to=(N179 p b c).1∧(N179 p b c).2=true) (N141 p b c)
  unfold N141
  rw [wb,wr']
  refine ci (fun _ h=>by cases h) fun h1=>ci (fun _ h=>by cases h) fun _=>ci (fun _ h=>by cases h) fun _=>ci (fun _ h=>by cases h) fun _ _ => ?_
  exact ⟨rfl,hr.1,hr.2,rfl,rfl,rfl,rfl,by simpa using h1⟩
theorem N86_len:(N86 p).length≤2:=by
  unfold N86
  repeat' (first | exact Nat.zero_le _ | (simp; done) | refine c_ind (P:=fun l:List Mv=>l.length≤2) (fun _ => ?_) (fun _ => ?_))
theorem N86_mem {m:Mv} (h:m ∈ N86 p):p.turn≤1∧0≤m.frm∧m.frm < 64∧0≤m.to∧m.to < 64∧m.cas=true∧m.drp=0∧m.pro=0:=by
  revert h
  unfold N86
  have hk:=N99_lo p p.turn 6
  refine c_ind (P:=fun l:List Mv=>m ∈ l→_) (fun _ h=>by cases h) fun h => ?_
  have ht:p.turn≤1:=by simpa using h
  refine c_ind (P:=fun l:List Mv=>m ∈ l→_) (fun _ h=>by cases h) fun _=>c_ind (P:=fun l:List Mv=>m ∈ l→_) (fun _ h=>by cases h) fun hk0=>c_ind (P:=fun l:List Mv=>m ∈ l→_) (fun _ h=>by cases h) fun _ => ?_
  have hk0:0≤N99 p p.turn 6:=by simpa using hk0
  have key:∀ c,(N141 p (N99 p p.turn 6) c).2=true→m=(N141 p (N99 p p.turn 6) c).1→p.turn≤1∧0≤m.frm∧m.frm < 64∧0≤m.to∧m.to < 64∧m.cas=true∧m.drp=0∧m.pro=0:=by
    intro c h1 h2
    obtain ⟨a1,a2,a3,a4,a5,a6,_⟩:=N141_mem hp ht hk0 hk.2 h1
    rw [h2]
    exact ⟨ht,by omega,by omega,a2,a3,a4,a5,a6⟩
  refine c_ind (P:=fun l:List Mv=>m ∈ l→_) (fun h1=>c_ind (P:=fun l:List Mv=>m ∈ l→_) (fun h2 h => ?_) fun _ h => ?_) fun _=>c_ind (P:=fun l:List Mv=>m ∈ l→_) (fun h2 h => ?_) fun _ h=>by cases h
  · simp only [List.nil_append,List.mem_append,List.mem_singleton] at h
    rcases h with h | h
    · exact key _ h1 h
    · exact key _ h2 h
  · simp only [List.nil_append,List.mem_singleton] at h
    exact key _ h1 h
  · simp only [List.nil_append,List.mem_singleton] at h
    exact key _ h2 h
end
theorem lp87a (k p2:Int) (l:List Int) (p5:Pos) (p6:Nat) (out:List Mv) (hl:l.length≤64) (hin:∀ s ∈ l,0≤s∧s < 64) (ho:out.length≤1000000) :
    ∃ r,lp87_2 k p2 l (Int.ofNat l.length) p5 p6 (out,0)=some r∧r.1=out++l.flatMap fun s=>[⟨s,s,0,k,false⟩]:=by
  refine lp_many (I:=fun x=>0≤x.2∧x.2≤(l.length:Int)∧x.1=out++(l.take x.2.toNat).flatMap (fun s=>[⟨s,s,0,k,false⟩])) (μ:=fun x=>((l.length:Int) - x.2).toNat) ?_ _ ⟨by simp,by simp,by simp⟩ (by simp; omega)
  rintro ⟨o,n⟩ ⟨h0,h1,h2⟩
  simp only at h0 h1 h2
  have hlen:o.length≤out.length+64:=by
    have:=flat_le (l.take n.toNat) (fun s=>[(⟨s,s,0,k,false⟩:Mv)]) 1 fun _ _=>by simp
    have h5:(l.take n.toNat).length≤64:=by rw [List.length_take]; omega
    rw [h2,List.length_append]
    omega
  by_cases hc:n < l.length
  · have hf:=hin _ (getD_mem (d:=default) (show n.toNat < l.length by omega))
    refine ⟨c_true (fun _=>a_true (by simp [h0]; omega) fun _=>a_true (by simp; omega) fun _=>rfl) fun _=>rfl,c_ind (fun _ => ?_) fun h=>absurd h (by simpa using hc)⟩
    have hw:wr .i64 (n+1)=n+1:=wi64 (by omega) (by omega)
    rw [hw,wi8 (n:=l.getD n.toNat default) (by omega) (by omega)]
    refine ⟨⟨by simp; omega,by simp; omega,?_⟩,by simp; omega⟩
    simp only
    rw [show (n+1).toNat=n.toNat+1 by omega,take_next default _ (by omega),h2,List.append_assoc]
  · refine ⟨c_true (fun h=>absurd h (by simpa using hc)) fun _=>rfl,c_ind (fun h=>absurd h (by simpa using hc)) fun _ => ?_⟩
    show o=_
    rw [h2,List.take_of_length_le (by omega)]
noncomputable def drops (p:Pos) (k:Int):List Mv :=
  bif p.pockets.getD (scale 6 p.turn+scale 1 k).toNat 0==0 then [] else bif k==1 then (sqs (~~~N143 p&&&72057594037927680#64) 64).flatMap fun s=>[⟨s,s,0,k,false⟩] else (sqs (~~~N143 p) 64).flatMap fun s=>[⟨s,s,0,k,false⟩]
theorem drops_len (p:Pos) (k:Int):(drops p k).length≤64:=by
  unfold drops
  refine c_ind (P:=fun l:List Mv=>l.length≤64) (fun _=>by simp) fun _=>c_ind (P:=fun l:List Mv=>l.length≤64) (fun _ => ?_) fun _ => ?_
  · have:=sqs_len (~~~N143 p&&&72057594037927680#64) 64
    have h2:=flat_le (sqs (~~~N143 p&&&72057594037927680#64) 64) (fun s=>[(⟨s,s,0,k,false⟩:Mv)]) 1 fun _ _=>by simp
    omega
  · have:=sqs_len (~~~N143 p) 64
    have h2:=flat_le (sqs (~~~N143 p) 64) (fun s=>[(⟨s,s,0,k,false⟩:Mv)]) 1 fun _ _=>by simp
    omega
theorem lp87b {p:Pos} (h0:0≤p.turn) (h1:p.turn≤1):∃ r,lp87_3 p 0 ([],0)=some r∧r.1=[1,2,3,4,5].flatMap (drops p):=by
  refine lp_many (I:=fun x=>0≤x.2∧x.2≤5∧x.1=(([1,2,3,4,5]:List Int).take x.2.toNat).flatMap (drops p)∧(x.1.length:Int)≤64 * x.2) (μ:=fun x=>(5 - x.2).toNat) ?_ _ ⟨by simp,by simp,by simp,by simp⟩ (by simp)
  rintro ⟨o,n⟩ ⟨g0,g1,g2,g3⟩
  simp only at g0 g1 g2 g3
  by_cases hc:n < 5
  · have hw:wr .i64 (n+1)=n+1:=wi64 (by omega) (by omega)
    have hw8:wr .u8 (n+1)=n+1:=wu8 (by omega) (by omega)
    have s1:=sqs_len (~~~N143 p&&&72057594037927680#64) 64
    have s2:=sqs_len (~~~N143 p) 64
    have d1:=of_some (lp87a (n+1) n (sqs (~~~N143 p&&&72057594037927680#64) 64) p 0 o s1 (fun _ h=>sqs_in h) (by omega))
    have d2:=of_some (lp87a (n+1) n (sqs (~~~N143 p) 64) p 0 o s2 (fun _ h=>sqs_in h) (by omega))
    have e:([1,2,3,4,5]:List Int).getD n.toNat 0=n+1:=by
      have:n=0∨n=1∨n=2∨n=3∨n=4:=by omega
      rcases this with rfl | rfl | rfl | rfl | rfl <;> rfl
    have hs:Nxt (fun x:List Mv×Int=>0≤x.2∧x.2≤5∧x.1=(([1,2,3,4,5]:List Int).take x.2.toNat).flatMap (drops p)∧x.1.length≤64 * x.2) (fun r:List Mv×Int×Bool=>r.1=[1,2,3,4,5].flatMap (drops p)) (fun x=>(5 - x.2).toNat) (5 - n).toNat (.go (o++drops p (n+1),n+1)):=by
      have hq:=drops_len p (n+1)
      refine ⟨⟨by simp; omega,by simp; omega,?_,?_⟩,by simp; omega⟩
      · simp only
        rw [show (n+1).toNat=n.toNat+1 by omega,take_next 0 _ (by simp; omega),g2,e]
      · simp only [List.length_append]
        omega
    refine ⟨c_true (fun _ => ?_) fun _=>rfl,c_ind (fun _ => ?_) fun h=>absurd h (by simpa using hc)⟩
    · rw [hw,hw8,N96_eq,N96_eq]
      refine a_true (by simp; omega) fun _=>a_true (by simp; omega) fun _=>c_true (fun _=>rfl) fun _=>a_true (t143 _) fun _=>c_true (fun _=>a_true (t96 _) fun _=>a_true d1.1 fun _=>rfl) fun _=>a_true (t96 _) fun _=>a_true d2.1 fun _=>rfl
    · rw [hw,hw8,N96_eq,N96_eq]
      refine c_ind (fun h => ?_) fun h=>c_ind (fun h' => ?_) fun h' => ?_
      · have e:drops p (n+1)=[]:=by unfold drops; rw [h]; rfl
        rw [e,List.append_nil] at hs; exact hs
      · have e:drops p (n+1)=(sqs (~~~N143 p&&&72057594037927680#64) 64).flatMap fun s=>[⟨s,s,0,n+1,false⟩]:=by unfold drops; rw [h,h']; rfl
        rw [e] at hs; rw [d1.2]; exact hs
      · have e:drops p (n+1)=(sqs (~~~N143 p) 64).flatMap fun s=>[⟨s,s,0,n+1,false⟩]:=by unfold drops; rw [h,h']; rfl
        rw [e] at hs; rw [d2.2]; exact hs
  · refine ⟨c_true (fun h=>absurd h (by simpa using hc)) fun _=>rfl,c_ind (fun h=>absurd h (by simpa using hc)) fun _ => ?_⟩
    have:n=5:=by omega
    subst this
    exact g2
theorem t87 {p:Pos} (hv:0≤p.variant) (h0:0≤p.turn):ok87 p=true:=by
  unfold ok87
  refine c_true (fun _=>rfl) fun h=>a_true (t142 hv) fun _=>c_true (fun _=>rfl) fun _=>a_true ?_ fun _=>rfl
  exact (of_some (lp87b h0 (by simpa using h))).1
theorem N87_eq {p:Pos} (h0:0≤p.turn):N87 p=bif decide (p.turn > 1) then [] else bif !N142 p.variant then [] else [1,2,3,4,5].flatMap (drops p):=by
  unfold N87
  by_cases h:p.turn≤1
  · rw [(of_some (lp87b h0 h)).2]
  · rw [show decide (p.turn > 1)=true by simp; omega]; rfl
theorem N87_len {p:Pos} (h0:0≤p.turn):(N87 p).length≤320:=by
  rw [N87_eq h0]
  refine c_ind (P:=fun l:List Mv=>l.length≤320) (fun _=>by simp) fun _=>c_ind (P:=fun l:List Mv=>l.length≤320) (fun _=>by simp) fun _ => ?_
  have:=flat_le [1,2,3,4,5] (drops p) 64 fun k _=>drops_len p k
  simpa using this
theorem N87_mem {p:Pos} (h0:0≤p.turn) {m:Mv} (h:m ∈ N87 p):p.turn≤1∧N142 p.variant=true∧m.frm=m.to∧0≤m.to∧m.to < 64∧m.cas=false∧1≤m.drp∧m.drp≤5∧m.pro=0:=by
  rw [N87_eq h0] at h
  revert h
  refine c_ind (P:=fun l:List Mv=>m ∈ l→_) (fun _ h=>by cases h) fun h1=>c_ind (P:=fun l:List Mv=>m ∈ l→_) (fun _ h=>by cases h) fun h2 h => ?_
  obtain ⟨k,hk,hm⟩:=List.mem_flatMap.1 h
  have hk':1≤k∧k≤5:=by simp at hk; omega
  have key:∀ b:BitVec 64,m ∈ (sqs b 64).flatMap (fun s=>[(⟨s,s,0,k,false⟩:Mv)])→m.frm=m.to∧0≤m.to∧m.to < 64∧m.cas=false∧1≤m.drp∧m.drp≤5∧m.pro=0:=by
    intro b hb
    obtain ⟨s,hs,hm⟩:=List.mem_flatMap.1 hb
    have:=sqs_in hs
    rw [List.mem_singleton.1 hm]
    exact ⟨rfl,this.1,this.2,rfl,hk'.1,hk'.2,rfl⟩
  refine ⟨by simpa using h1,by simpa using h2,?_⟩
  revert hm
  unfold drops
  exact c_ind (P:=fun l:List Mv=>m ∈ l→_) (fun _ h=>by cases h) fun _=>c_ind (P:=fun l:List Mv=>m ∈ l→_) (fun _=>key _) fun _=>key _
theorem N38_eq (p:Pos):N38 p=N85 p++N86 p++N87 p:=by unfold N38; rw [List.nil_append]
theorem N38_len {p:Pos} (hp:PosIn p):(N38 p).length≤20802:=by
  have a:=N85_len hp.v0
  have b:=N86_len hp
  have c:=N87_len hp.t0
  rw [N38_eq,List.length_append,List.length_append]
  omega
theorem t38 {p:Pos} (hp:PosIn p):ok38 p=true:=by
  have a:=N85_len hp.v0
  have b:=N86_len hp
  have c:=N87_len hp.t0
  unfold ok38
  rw [wi64 (n:=0+Int.ofNat (N85 p).length) (by first | omega | (simp; done) | (simp; omega)) (by first | omega | (simp; done) | (simp; omega))]
  rw [wi64 (n:=0+Int.ofNat (N85 p).length+Int.ofNat (N86 p).length) (by first | omega | (simp; done) | (simp; omega)) (by first | omega | (simp; done) | (simp; omega))]
  rw [wi64 (n:=0+Int.ofNat (N85 p).length+Int.ofNat (N86 p).length+Int.ofNat (N87 p).length) (by first | omega | (simp; done) | (simp; omega)) (by first | omega | (simp; done) | (simp; omega))]
  refine a_true (t85 hp.v0) fun _=>a_true (t86 hp) fun _=>a_true (t87 hp.v0 hp.t0) fun _ => ?_
  simp
  omega
end Kz
end
section
namespace Kz
open Go Go.RowKit Go.Proofs
set_option maxRecDepth 100000
set_option maxHeartbeats 4000000
noncomputable def K145:List (Nat×Nat×List (Nat×List Nat)):=[(145,51,[(0,(2::3::12::13::14::(rn 17 5 [42,43]))),(1,[2,3,22,42,43]),(2,[4]),(3,[2,3,27,28,29,42,43]),(4,(2::3::(rn 27 4 [42,43]))),(5,[2,3,6,27,28,29,42,43]),(6,[2,3,7,27,28,29,42,43]),(7,[2,3,27,28,29,42,43,44]),(8,[4]),(9,[2,3,27,28,29,42,43]),(10,[50]),(11,[4]),(12,[4])])]
noncomputable def B145:Base:=baseOf Pz (fun f i=>lkC f i K145) [(140,G140)] [] []
theorem hB145:BOk B145:=base_ok named_z ⟨s140,trivial⟩ trivial trivial
noncomputable def N145 (a:Pos) (b:Mv):Int:=(bif decide (a.turn > 1) then (-1) else (bif !b.cas then (-1) else (bif b.frm==b.to then (-1) else (bif decide (wr .i64 (wr .i64 b.frm - N140 a.turn) < 0) then (-1) else (bif decide (wr .i64 (wr .i64 b.frm - N140 a.turn) > 7) then (-1) else (bif decide (wr .i64 (wr .i64 b.to - N140 a.turn) < 0) then (-1) else (bif decide (wr .i64 (wr .i64 b.to - N140 a.turn) > 7) then (-1) else (bif decide (b.to > b.frm) then (0) else (1)))))))))
noncomputable def ok145 (a:Pos) (b:Mv):Bool:=true
theorem P145 (a:Pos) (b:Mv) (h:ok145 a b=true):PS Pz 145 [Pos.av a,Mv.av b] ((dI .i64).res (N145 a b)):=ps_sum (n:=14) hB145 (by kernel_rfl) (by kernel_rfl) (by kernel_rfl) h
noncomputable def G145:List AV→Tr AV:=g2 dPos dMv (fun a b=>.ret ((dI .i64).res (N145 a b)))
theorem s145:Sound Pz 145 G145:=sound2 fun a b=>at_rt (P145 a b rfl)
noncomputable def K91:List (Nat×Nat×List (Nat×List Nat)):=[(91,29,[(0,[2,3]),(1,[2,7]),(2,[2,7,13]),(3,[4,5,6]),(4,[2,8]),(5,[4,5,6])]),(146,4,[(0,[0]),(1,[0])])]
noncomputable def B91:Base:=baseOf Pz (fun f i=>lkC f i K91) [(140,G140),(145,G145)] [] []
theorem hB91:BOk B91:=base_ok named_z ⟨s140,s145,trivial⟩ trivial trivial
noncomputable def N91 (a:Pos) (b:Mv):(Int×Int×Bool):=(bif decide (N145 (Pos.mk a.variant a.board a.promoted a.pockets a.turn a.rooks a.passing a.checks a.half a.full) (Mv.mk b.frm b.to b.pro b.drp b.cas) < 0) then ((0),(0),(false)) else ((wr .i64 (N140 a.turn+(if 2=2 then List.take 2 (List.drop ((N145 (Pos.mk a.variant a.board a.promoted a.pockets a.turn a.rooks a.passing a.checks a.half a.full) (Mv.mk b.frm b.to b.pro b.drp b.cas)).toNat * 2) (if 4=4 then if 2=4 then ((List.replicate 2 0).set 0 2).set 1 3 else List.take 2 (if 2=4 then ((List.replicate 2 0).set 0 6).set 1 5 else List.take 0 (List.replicate 4 0)++((List.replicate 2 0).set 0 6).set 1 5++List.drop 2 (List.replicate 4 0))++((List.replicate 2 0).set 0 2).set 1 3++List.drop 4 (if 2=4 then ((List.replicate 2 0).set 0 6).set 1 5 else List.take 0 (List.replicate 4 0)++((List.replicate 2 0).set 0 6).set 1 5++List.drop 2 (List.replicate 4 0)) else (List.take 0 (List.replicate 4 0)++if 2=4 then ((List.replicate 2 0).set 0 2).set 1 3 else List.take 2 (if 2=4 then ((List.replicate 2 0).set 0 6).set 1 5 else List.take 0 (List.replicate 4 0)++((List.replicate 2 0).set 0 6).set 1 5++List.drop 2 (List.replicate 4 0))++((List.replicate 2 0).set 0 2).set 1 3++List.drop 4 (if 2=4 then ((List.replicate 2 0).set 0 6).set 1 5 else List.take 0 (List.replicate 4 0)++((List.replicate 2 0).set 0 6).set 1 5++List.drop 2 (List.replicate 4 0)))++List.drop 4 (List.replicate 4 0))) else List.take 0 (List.replicate 2 0)++List.take 2 (List.drop ((N145 (Pos.mk a.variant a.board a.promoted a.pockets a.turn a.rooks a.passing a.checks a.half a.full) (Mv.mk b.frm b.to b.pro b.drp b.cas)).toNat * 2) (if 4=4 then if 2=4 then ((List.replicate 2 0).set 0 2).set 1 3 else List.take 2 (if 2=4 then ((List.replicate 2 0).set 0 6).set 1 5 else List.take 0 (List.replicate 4 0)++((List.replicate 2 0).set 0 6).set 1 5++List.drop 2 (List.replicate 4 0))++((List.replicate 2 0).set 0 2).set 1 3++List.drop 4 (if 2=4 then ((List.replicate 2 0).set 0 6).set 1 5 else List.take 0 (List.replicate 4 0)++((List.replicate 2 0).set 0 6).set 1 5++List.drop 2 (List.replicate 4 0)) else (List.take 0 (List.replicate 4 0)++if 2=4 then ((List.replicate 2 0).set 0 2).set 1 3 else List.take 2 (if 2=4 then ((List.replicate 2 0).set 0 6).set 1 5 else List.take 0 (List.replicate 4 0)++((List.replicate 2 0).set 0 6).set 1 5++List.drop 2 (List.replicate 4 0))++((List.replicate 2 0).set 0 2).set 1 3++List.drop 4 (if 2=4 then ((List.replicate 2 0).set 0 6).set 1 5 else List.take 0 (List.replicate 4 0)++((List.replicate 2 0).set 0 6).set 1 5++List.drop 2 (List.replicate 4 0)))++List.drop 4 (List.replicate 4 0)))++List.drop 2 (List.replicate 2 0)).getD 0 0)),(wr .i64 (N140 a.turn+(if 2=2 then List.take 2 (List.drop ((N145 (Pos.mk a.variant a.board a.promoted a.pockets a.turn a.rooks a.passing a.checks a.half a.full) (Mv.mk b.frm b.to b.pro b.drp b.cas)).toNat * 2) (if 4=4 then if 2=4 then ((List.replicate 2 0).set 0 2).set 1 3 else List.take 2 (if 2=4 then ((List.replicate 2 0).set 0 6).set 1 5 else List.take 0 (List.replicate 4 0)++((List.replicate 2 0).set 0 6).set 1 5++List.drop 2 (List.replicate 4 0))++((List.replicate 2 0).set 0 2).set 1 3++List.drop 4 (if 2=4 then ((List.replicate 2 0).set 0 6).set 1 5 else List.take 0 (List.replicate 4 0)++((List.replicate 2 0).set 0 6).set 1 5++List.drop 2 (List.replicate 4 0)) else (List.take 0 (List.replicate 4 0)++if 2=4 then ((List.replicate 2 0).set 0 2).set 1 3 else List.take 2 (if 2=4 then ((List.replicate 2 0).set 0 6).set 1 5 else List.take 0 (List.replicate 4 0)++((List.replicate 2 0).set 0 6).set 1 5++List.drop 2 (List.replicate 4 0))++((List.replicate 2 0).set 0 2).set 1 3++List.drop 4 (if 2=4 then ((List.replicate 2 0).set 0 6).set 1 5 else List.take 0 (List.replicate 4 0)++((List.replicate 2 0).set 0 6).set 1 5++List.drop 2 (List.replicate 4 0)))++List.drop 4 (List.replicate 4 0))) else List.take 0 (List.replicate 2 0)++List.take 2 (List.drop ((N145 (Pos.mk a.variant a.board a.promoted a.pockets a.turn a.rooks a.passing a.checks a.half a.full) (Mv.mk b.frm b.to b.pro b.drp b.cas)).toNat * 2) (if 4=4 then if 2=4 then ((List.replicate 2 0).set 0 2).set 1 3 else List.take 2 (if 2=4 then ((List.replicate 2 0).set 0 6).set 1 5 else List.take 0 (List.replicate 4 0)++((List.replicate 2 0).set 0 6).set 1 5++List.drop 2 (List.replicate 4 0))++((List.replicate 2 0).set 0 2).set 1 3++List.drop 4 (if 2=4 then ((List.replicate 2 0).set 0 6).set 1 5 else List.take 0 (List.replicate 4 0)++((List.replicate 2 0).set 0 6).set 1 5++List.drop 2 (List.replicate 4 0)) else (List.take 0 (List.replicate 4 0)++if 2=4 then ((List.replicate 2 0).set 0 2).set 1 3 else List.take 2 (if 2=4 then ((List.replicate 2 0).set 0 6).set 1 5 else List.take 0 (List.replicate 4 0)++((List.replicate 2 0).set 0 6).set 1 5++List.drop 2 (List.replicate 4 0))++((List.replicate 2 0).set 0 2).set 1 3++List.drop 4 (if 2=4 then ((List.replicate 2 0).set 0 6).set 1 5 else List.take 0 (List.replicate 4 0)++((List.replicate 2 0).set 0 6).set 1 5++List.drop 2 (List.replicate 4 0)))++List.drop 4 (List.replicate 4 0)))++List.drop 2 (List.replicate 2 0)).getD 1 0)),(true)))
noncomputable def ok91 (a:Pos) (b:Mv):Bool:=(bif decide (N145 (Pos.mk a.variant a.board a.promoted a.pockets a.turn a.rooks a.passing a.checks a.half a.full) (Mv.mk b.frm b.to b.pro b.drp b.cas) < 0) then true else (decide (0≤N145 (Pos.mk a.variant a.board a.promoted a.pockets a.turn a.rooks a.passing a.checks a.half a.full) (Mv.mk b.frm b.to b.pro b.drp b.cas))&&decide (N145 (Pos.mk a.variant a.board a.promoted a.pockets a.turn a.rooks a.passing a.checks a.half a.full) (Mv.mk b.frm b.to b.pro b.drp b.cas) < ↑2)&&true))
theorem P91 (a:Pos) (b:Mv) (h:ok91 a b=true):PS Pz 91 [Pos.av a,Mv.av b] ((d3 (dI .i64) (dI .i64) dB).res (N91 a b)):=ps_sum (n:=14) hB91 (by kernel_rfl) (by kernel_rfl) (by kernel_rfl) h
noncomputable def G91:List AV→Tr AV:=g2 dPos dMv (fun a b=>gdv (ok91 a b) ((d3 (dI .i64) (dI .i64) dB).res (N91 a b)))
theorem s91:Sound Pz 91 G91:=sound2 fun a b=>at_gd (P91 a b)
noncomputable def K147:List (Nat×Nat×List (Nat×List Nat)):=[(147,15,[(0,[0,1,8,9,12,13]),(1,[4])])]
noncomputable def B147:Base:=baseOf Pz (fun f i=>lkC f i K147) [] [] []
theorem hB147:BOk B147:=base_ok named_z trivial trivial trivial
noncomputable def N147 (a:Int) (b:Int):Bool:=(bif decide (a≤1) then (bif decide (b ≥ 1) then (decide (b≤5)) else (false)) else (false))
noncomputable def ok147 (a:Int) (b:Int):Bool:=true
theorem P147 (a:Int) (b:Int) (h:ok147 a b=true):PS Pz 147 [.int .u8 a,.int .u8 b] (dB.res (N147 a b)):=ps_sum (n:=14) hB147 (by kernel_rfl) (by kernel_rfl) (by kernel_rfl) h
noncomputable def G147:List AV→Tr AV:=g2 (dI .u8) (dI .u8) (fun a b=>.ret (dB.res (N147 a b)))
theorem s147:Sound Pz 147 G147:=sound2 fun a b=>at_rt (P147 a b rfl)
noncomputable def K92:List (Nat×Nat×List (Nat×List Nat)):=[(92,33,[(0,(1::2::3::6::(rn 13 7 []))),(1,[1,2,3,6,20]),(2,[6,7]),(3,[3,6]),(4,[6,7])])]
noncomputable def B92:Base:=baseOf Pz (fun f i=>lkC f i K92) [(147,G147)] [] []
theorem hB92:BOk B92:=base_ok named_z ⟨s147,trivial⟩ trivial trivial
noncomputable def N92 (a:Pos) (b:Int) (c:Int):(Pos×Bool):=(bif !N147 b c then (⟨(a.variant),(if 64=64 then a.board else List.take 0 (List.replicate 64 0)++a.board++List.drop 64 (List.replicate 64 0)),(a.promoted),(if 12=12 then a.pockets else List.take 0 (List.replicate 12 0)++a.pockets++List.drop 12 (List.replicate 12 0)),(a.turn),(if 4=4 then a.rooks else List.take 0 (List.replicate 4 0)++a.rooks++List.drop 4 (List.replicate 4 0)),(a.passing),(if 2=2 then a.checks else List.take 0 (List.replicate 2 0)++a.checks++List.drop 2 (List.replicate 2 0)),(a.half),(a.full)⟩,(false)) else (bif a.pockets.getD (scale 6 b+scale 1 c).toNat 0==0 then (⟨(a.variant),(if 64=64 then a.board else List.take 0 (List.replicate 64 0)++a.board++List.drop 64 (List.replicate 64 0)),(a.promoted),(if 12=12 then a.pockets else List.take 0 (List.replicate 12 0)++a.pockets++List.drop 12 (List.replicate 12 0)),(a.turn),(if 4=4 then a.rooks else List.take 0 (List.replicate 4 0)++a.rooks++List.drop 4 (List.replicate 4 0)),(a.passing),(if 2=2 then a.checks else List.take 0 (List.replicate 2 0)++a.checks++List.drop 2 (List.replicate 2 0)),(a.half),(a.full)⟩,(false)) else (⟨(a.variant),(if 64=64 then a.board else List.take 0 (List.replicate 64 0)++a.board++List.drop 64 (List.replicate 64 0)),(a.promoted),(if 12=12 then a.pockets.set (scale 6 b+scale 1 c).toNat (wr .u8 (a.pockets.getD (scale 6 b+scale 1 c).toNat 0 - 1)) else List.take 0 (List.replicate 12 0)++a.pockets.set (scale 6 b+scale 1 c).toNat (wr .u8 (a.pockets.getD (scale 6 b+scale 1 c).toNat 0 - 1))++List.drop 12 (List.replicate 12 0)),(a.turn),(if 4=4 then a.rooks else List.take 0 (List.replicate 4 0)++a.rooks++List.drop 4 (List.replicate 4 0)),(a.passing),(if 2=2 then a.checks else List.take 0 (List.replicate 2 0)++a.checks++List.drop 2 (List.replicate 2 0)),(a.half),(a.full)⟩,(true))))
noncomputable def ok92 (a:Pos) (b:Int) (c:Int):Bool:=(bif !N147 b c then true else (decide (0≤b)&&decide (b < ↑2)&&(decide (0≤c)&&decide (c < ↑6)&&(bif a.pockets.getD (scale 6 b+scale 1 c).toNat 0==0 then true else (decide (0≤b)&&decide (b < ↑2)&&(decide (0≤c)&&decide (c < ↑6)&&(decide (0≤b)&&decide (b < ↑2)&&(decide (0≤c)&&decide (c < ↑6)&&true))))))))
theorem P92 (a:Pos) (b:Int) (c:Int) (h:ok92 a b c=true):PS Pz 92 [Pos.av a,.int .u8 b,.int .u8 c] ((d2 dPos dB).res (N92 a b c)):=ps_sum (n:=14) hB92 (by kernel_rfl) (by kernel_rfl) (by kernel_rfl) h
noncomputable def G92:List AV→Tr AV:=g3 dPos (dI .u8) (dI .u8) (fun a b c=>gdv (ok92 a b c) ((d2 dPos dB).res (N92 a b c)))
theorem s92:Sound Pz 92 G92:=sound3 fun a b c=>at_gd (P92 a b c)
noncomputable def K95:List (Nat×Nat×List (Nat×List Nat)):=[(95,30,[(0,(1::2::3::6::(rn 11 7 []))),(1,[1,2,3,6,18]),(2,[3,6]),(3,[6])])]
noncomputable def B95:Base:=baseOf Pz (fun f i=>lkC f i K95) [(147,G147)] [] []
theorem hB95:BOk B95:=base_ok named_z ⟨s147,trivial⟩ trivial trivial
noncomputable def N95 (a:Pos) (b:Int) (c:Int):Pos:=(bif N147 b c then (bif decide (a.pockets.getD (scale 6 b+scale 1 c).toNat 0 < 255) then ⟨(a.variant),(if 64=64 then a.board else List.take 0 (List.replicate 64 0)++a.board++List.drop 64 (List.replicate 64 0)),(a.promoted),(if 12=12 then a.pockets.set (scale 6 b+scale 1 c).toNat (wr .u8 (a.pockets.getD (scale 6 b+scale 1 c).toNat 0+1)) else List.take 0 (List.replicate 12 0)++a.pockets.set (scale 6 b+scale 1 c).toNat (wr .u8 (a.pockets.getD (scale 6 b+scale 1 c).toNat 0+1))++List.drop 12 (List.replicate 12 0)),(a.turn),(if 4=4 then a.rooks else List.take 0 (List.replicate 4 0)++a.rooks++List.drop 4 (List.replicate 4 0)),(a.passing),(if 2=2 then a.checks else List.take 0 (List.replicate 2 0)++a.checks++List.drop 2 (List.replicate 2 0)),(a.half),(a.full)⟩ else ⟨(a.variant),(if 64=64 then a.board else List.take 0 (List.replicate 64 0)++a.board++List.drop 64 (List.replicate 64 0)),(a.promoted),(if 12=12 then a.pockets else List.take 0 (List.replicate 12 0)++a.pockets++List.drop 12 (List.replicate 12 0)),(a.turn),(if 4=4 then a.rooks else List.take 0 (List.replicate 4 0)++a.rooks++List.drop 4 (List.replicate 4 0)),(a.passing),(if 2=2 then a.checks else List.take 0 (List.replicate 2 0)++a.checks++List.drop 2 (List.replicate 2 0)),(a.half),(a.full)⟩) else ⟨(a.variant),(if 64=64 then a.board else List.take 0 (List.replicate 64 0)++a.board++List.drop 64 (List.replicate 64 0)),(a.promoted),(if 12=12 then a.pockets else List.take 0 (List.replicate 12 0)++a.pockets++List.drop 12 (List.replicate 12 0)),(a.turn),(if 4=4 then a.rooks else List.take 0 (List.replicate 4 0)++a.rooks++List.drop 4 (List.replicate 4 0)),(a.passing),(if 2=2 then a.checks else List.take 0 (List.replicate 2 0)++a.checks++List.drop 2 (List.replicate 2 0)),(a.half),(a.full)⟩)
noncomputable def ok95 (a:Pos) (b:Int) (c:Int):Bool:=(bif N147 b c then (decide (0≤b)&&decide (b < ↑2)&&(decide (0≤c)&&decide (c < ↑6)&&(bif decide (a.pockets.getD (scale 6 b+scale 1 c).toNat 0 < 255) then (decide (0≤b)&&decide (b < ↑2)&&(decide (0≤c)&&decide (c < ↑6)&&(decide (0≤b)&&decide (b < ↑2)&&(decide (0≤c)&&decide (c < ↑6)&&true)))) else true))) else true)
theorem P95 (a:Pos) (b:Int) (c:Int) (h:ok95 a b c=true):PS Pz 95 [Pos.av a,.int .u8 b,.int .u8 c] (dPos.res (N95 a b c)):=ps_sum (n:=14) hB95 (by kernel_rfl) (by kernel_rfl) (by kernel_rfl) h
noncomputable def G95:List AV→Tr AV:=g3 dPos (dI .u8) (dI .u8) (fun a b c=>gdv (ok95 a b c) (dPos.res (N95 a b c)))
theorem s95:Sound Pz 95 G95:=sound3 fun a b c=>at_gd (P95 a b c)
noncomputable def K97:List (Nat×Nat×List (Nat×List Nat)):=[(97,32,[(0,[1,2,10,11]),(1,[1,2,12]),(2,[4]),(3,[1,2,5]),(4,[1,2,5,6]),(5,[1,2,5,6,19]),(6,[1,2,5,6]),(7,[1,2,5,6]),(8,[4])])]
noncomputable def B97:Base:=baseOf Pz (fun f i=>lkC f i K97) [(143,G143),(101,G101),(149,G149)] [] []
theorem hB97:BOk B97:=base_ok named_z ⟨s143,s101,s149,trivial⟩ trivial trivial
noncomputable def N97 (a:Pos) (b:Int):BitVec 64:=(bif decide (b < 0) then (0#64) else (bif decide (b ≥ 64) then (0#64) else (N149 b&&&N143 (Pos.mk a.variant a.board a.promoted a.pockets a.turn a.rooks a.passing a.checks a.half a.full) &&& ~~~N101 (Pos.mk a.variant a.board a.promoted a.pockets a.turn a.rooks a.passing a.checks a.half a.full) 0 1 &&& ~~~N101 (Pos.mk a.variant a.board a.promoted a.pockets a.turn a.rooks a.passing a.checks a.half a.full) (wr .u8 (0+1)) 1|||1#64 <<< (BitVec.ofInt 64 b).toNat)))
noncomputable def ok97 (a:Pos) (b:Int):Bool:=(bif decide (b < 0) then true else (bif decide (b ≥ 64) then true else (ok149 (b)&&(ok143 (Pos.mk a.variant a.board a.promoted a.pockets a.turn a.rooks a.passing a.checks a.half a.full)&&(ok101 (Pos.mk a.variant a.board a.promoted a.pockets a.turn a.rooks a.passing a.checks a.half a.full) (0) (1)&&(ok101 (Pos.mk a.variant a.board a.promoted a.pockets a.turn a.rooks a.passing a.checks a.half a.full) (wr .u8 (0+1)) (1)&&true))))))
theorem P97 (a:Pos) (b:Int) (h:ok97 a b=true):PS Pz 97 [Pos.av a,.int .i64 b] (dU.res (N97 a b)):=ps_sum (n:=14) hB97 (by kernel_rfl) (by kernel_rfl) (by kernel_rfl) h
noncomputable def G97:List AV→Tr AV:=g2 dPos (dI .i64) (fun a b=>gdv (ok97 a b) (dU.res (N97 a b)))
theorem s97:Sound Pz 97 G97:=sound2 fun a b=>at_gd (P97 a b)
end Kz
end
section
namespace Kz
open Go
set_option maxRecDepth 100000
theorem pawn_up:∀ f t:Fin 64,(N100 0 f.val).getLsbD t.val=true→8≤t.val:=by decide +kernel
theorem pawn_dn:∀ f t:Fin 64,(N100 1 f.val).getLsbD t.val=true→t.val < 56:=by decide +kernel
theorem one_bit {x:Nat} {i:Nat} (hi:i < 64):(1#64 <<< x).getLsbD i=decide (i=x):=by
  rw [BitVec.getLsbD_shiftLeft,BitVec.getLsbD_one]
  rcases Nat.lt_trichotomy i x with h | rfl | h
  · have:¬ i=x:=by omega
    simp [h,this]
  · simp [hi]
  · have h1:¬ i=x:=by omega
    have h2:¬ i - x=0:=by omega
    simp [h1,h2]
theorem ofInt_nat {n:Int} (h0:0≤n) (h1:n < 18446744073709551616):(BitVec.ofInt 64 n).toNat=n.toNat:=by
  rw [BitVec.toNat_ofInt]
  omega
theorem tOf_kind {c k v:Int} (h:tOf c k v=true):k=0∨N89 v=k:=by
  unfold tOf at h
  simp only [Bool.and_eq_true,Bool.or_eq_true,beq_iff_eq] at h
  exact h.2
theorem pawn_side {p:Pos} (hp:PosIn p) (ht:p.turn≤1) {x:Pos×BitVec 64×BitVec 64} (hx:x.1=p) {f t:Nat} (hf:f < 64) (h1:t < 64) (hm:(f:Int).tmod 8≠(t:Int).tmod 8) (hb:(N197 x f).getLsbD t=true):(N100 p.turn f).getLsbD t=true:=by
  have h0:=hp.t0
  have hne:f % 8≠t % 8:=by
    intro e
    apply hm
    rw [Int.tmod_eq_emod_of_nonneg (by omega),Int.tmod_eq_emod_of_nonneg (by omega)]
    omega
  have a1:∀ n:Int,(n=f+8∨n=f - 8∨n=f+16∨n=f - 16)→(1#64 <<< (BitVec.ofInt 64 n).toNat).getLsbD t=false:=by
    intro n hn
    rw [one_bit h1]
    simp only [decide_eq_false_iff_not]
    rw [BitVec.toNat_ofInt]
    omega
  have w:∀ s:Int,-100≤s→s≤100→(N90 p.turn s=s+8∨N90 p.turn s=s - 8):=by
    intro s g0 g1
    unfold N90
    rw [wi64 (n:=s - 8) (by omega) (by omega),wi64 (n:=s+8) (by omega) (by omega)]
    exact c_ind (P:=fun x:Int=>x=s+8∨x=s - 8) (fun _=>.inr rfl) fun _=>.inl rfl
  have b1:=w f (by omega) (by omega)
  have b2:=w (N90 p.turn f) (by omega) (by omega)
  have c1:=a1 (N90 p.turn f) (by omega)
  have c2:(1#64 <<< (BitVec.ofInt 64 (N90 p.turn (N90 p.turn f))).toNat).getLsbD t=false:=by
    by_cases e:N90 p.turn (N90 p.turn f)=f
    · rw [e,one_bit h1]
      simp only [decide_eq_false_iff_not]
      rw [BitVec.toNat_ofInt]
      omega
    · exact a1 _ (by omega)
  revert hb
  unfold N197
  rw [hx]
  have k1:∀ y:BitVec 64,(N100 p.turn f&&&y).getLsbD t=true→(N100 p.turn f).getLsbD t=true:=fun y h=>by
    rw [BitVec.getLsbD_and] at h
    exact (Bool.and_eq_true _ _ ▸ h).1
  have k2:∀ y:BitVec 64,(N100 p.turn f&&&y|||1#64 <<< (BitVec.ofInt 64 (N90 p.turn f)).toNat).getLsbD t=true→(N100 p.turn f).getLsbD t=true:=fun y h=>by
    rw [BitVec.getLsbD_or,c1,Bool.or_false] at h
    exact k1 y h
  have k3:∀ y z:BitVec 64,(N100 p.turn f&&&y|||1#64 <<< (BitVec.ofInt 64 (N90 p.turn f)).toNat|||1#64 <<< (BitVec.ofInt 64 (N90 p.turn (N90 p.turn f))).toNat&&&z).getLsbD t=true→(N100 p.turn f).getLsbD t=true:=fun y z h=>by
    rw [BitVec.getLsbD_or,BitVec.getLsbD_and,c2,Bool.false_and,Bool.or_false] at h
    exact k2 y h
  repeat' (first | with_reducible exact k1 _ | with_reducible exact k2 _ | with_reducible exact k3 _ _ | refine c_ind (P:=fun y:BitVec 64=>y.getLsbD t=true→(N100 p.turn f).getLsbD t=true) (fun _ => ?_) (fun _ => ?_))
theorem N39_in {p:Pos} (hp:PosIn p) (m:Mv) : -1≤N39 p m∧N39 p m < 64:=by
  have hl:=N85_len hp.v0
  unfold N39
  refine c_ind (P:=fun x:Int => -1≤x∧x < 64) (fun _=>by simp) fun hthere=>c_ind (P:=fun x:Int => -1≤x∧x < 64) (fun _=>by simp) fun h => ?_
  rw [N37_eq (by omega)] at h
  have hm:m ∈ N85 p:=by simpa using h
  obtain ⟨th,f,t,h1,h2,h3,h4,h5,h6,h7,h8,h9,h10⟩:=N85_mem hp.v0 hm
  rw [h3,h4]
  rw [wi64 (n:=(t:Int)) (by omega) (by omega)]
  refine c_ind (P:=fun x:Int => -1≤x∧x < 64) (fun _=>by omega) fun _=>c_ind (P:=fun x:Int => -1≤x∧x < 64) (fun hk=>c_ind (P:=fun x:Int => -1≤x∧x < 64) (fun hd => ?_) fun _=>by simp) fun _=>by simp
  have hd:(f:Int).tmod 8≠(t:Int).tmod 8:=by simpa using hd
  have hto:(N197 (p,own p,oth p) f).getLsbD t=true:=by
    unfold N177 at h10
    rw [hk,cond_true,BitVec.getLsbD_and] at h10
    exact (Bool.and_eq_true _ _ ▸ h10).1
  have hat:=pawn_side hp th.1 rfl h1 h2 hd hto
  have h0:=hp.t0
  have ht:=th.1
  have:p.turn=0∨p.turn=1:=by omega
  rcases this with e | e
  · rw [e] at hat
    have:=pawn_up ⟨f,h1⟩ ⟨t,h2⟩ hat
    simp only at this
    rw [e]
    unfold N90
    rw [show wr .u8 (1 - 0)=1 from by decide,wi64 (n:=(t:Int) - 8) (by omega) (by omega)]
    show -1≤(t:Int) - 8∧(t:Int) - 8 < 64
    omega
  · rw [e] at hat
    have:=pawn_dn ⟨f,h1⟩ ⟨t,h2⟩ hat
    simp only at this
    rw [e]
    unfold N90
    rw [show wr .u8 (1 - 1)=0 from by decide,wi64 (n:=(t:Int)+8) (by omega) (by omega)]
    show -1≤(t:Int)+8∧(t:Int)+8 < 64
    omega
theorem N145_in (p:Pos) (m:Mv) : -1≤N145 p m∧N145 p m≤1:=by
  unfold N145
  repeat' (first | (constructor <;> decide) | refine c_ind (P:=fun x:Int => -1≤x∧x≤1) (fun _ => ?_) (fun _ => ?_))
theorem t91 (p:Pos) (m:Mv):ok91 p m=true:=by
  unfold ok91
  refine c_true (fun _=>rfl) fun h=>a_true ?_ fun _=>rfl
  have h1:=N145_in p m
  have h:¬ N145 p m < 0:=by simpa using h
  show (decide (0≤N145 p m)&&decide (N145 p m < 2))=true
  simp
  omega
theorem N91_in {p:Pos} (h0:0≤p.turn) (ht:p.turn≤1) (m:Mv):0≤(N91 p m).1∧(N91 p m).1 < 64∧0≤(N91 p m).2.1∧(N91 p m).2.1 < 64:=by
  have h1:=N145_in p m
  unfold N91
  refine c_ind (P:=fun x:Int×Int×Bool=>0≤x.1∧x.1 < 64∧0≤x.2.1∧x.2.1 < 64) (fun _=>by simp) fun h => ?_
  have h:¬ N145 p m < 0:=by simpa using h
  rw [N140_eq h0 ht]
  show 0≤wr .i64 (56 * p.turn+_)∧_
  have e:N145 p m=0∨N145 p m=1:=by omega
  have e':N145 ⟨p.variant,p.board,p.promoted,p.pockets,p.turn,p.rooks,p.passing,p.checks,p.half,p.full⟩ ⟨m.frm,m.to,m.pro,m.drp,m.cas⟩=N145 p m:=rfl
  rw [e']
  have e2:p.turn=0∨p.turn=1:=by omega
  rcases e with e | e <;> rcases e2 with e2 | e2 <;> rw [e,e2] <;> decide
theorem t92 {p:Pos} {b c:Int} (hb:0≤b) (hc:0≤c):ok92 p b c=true:=by
  unfold ok92
  refine c_true (fun _=>rfl) fun h => ?_
  have h:N147 b c=true:=by simpa using h
  have hin:b≤1∧1≤c∧c≤5:=by
    revert h
    unfold N147
    refine c_ind (P:=fun x:Bool=>x=true→_) (fun h1=>c_ind (P:=fun x:Bool=>x=true→_) (fun h2 h3 => ?_) fun _ h=>by cases h) fun _ h=>by cases h
    simp only [decide_eq_true_eq] at h1 h2 h3
    omega
  have a1:(decide (0≤b)&&decide (b < 2))=true:=by simp; omega
  have a2:(decide (0≤c)&&decide (c < 6))=true:=by simp; omega
  repeat' (first | with_reducible rfl | with_reducible exact a1 | with_reducible exact a2 | refine a_true ?_ (fun _ => ?_) | refine c_true (fun _ => ?_) (fun _ => ?_))
theorem t95 {p:Pos} {b c:Int} (hb:0≤b) (hc:0≤c):ok95 p b c=true:=by
  unfold ok95
  refine c_true (fun h => ?_) fun _=>rfl
  have hin:b≤1∧1≤c∧c≤5:=by
    revert h
    unfold N147
    refine c_ind (P:=fun x:Bool=>x=true→_) (fun h1=>c_ind (P:=fun x:Bool=>x=true→_) (fun h2 h3 => ?_) fun _ h=>by cases h) fun _ h=>by cases h
    simp only [decide_eq_true_eq] at h1 h2 h3
    omega
  have a1:(decide (0≤b)&&decide (b < 2))=true:=by simp; omega
  have a2:(decide (0≤c)&&decide (c < 6))=true:=by simp; omega
  repeat' (first | with_reducible rfl | with_reducible exact a1 | with_reducible exact a2 | refine a_true ?_ (fun _ => ?_) | refine c_true (fun _ => ?_) (fun _ => ?_))
theorem t97 (p:Pos) (s:Int):ok97 p s=true:=by
  unfold ok97
  repeat' (first | with_reducible rfl | with_reducible exact t149 _ | with_reducible exact t143 _ | with_reducible exact t101 _ _ _ | refine a_true ?_ (fun _ => ?_) | refine c_true (fun _ => ?_) (fun _ => ?_))
theorem N89_in {v:Int} (h:0≤v):0≤N89 v:=by
  unfold N89
  exact c_ind (P:=fun x:Int=>0≤x) (fun _=>by simp) fun _=>Int.tmod_nonneg _ h
end Kz
end
section
namespace Kz
open Go Go.RowKit Go.Proofs
set_option maxRecDepth 100000
set_option maxHeartbeats 4000000
noncomputable def K102:List (Nat×Nat×List (Nat×List Nat)):=[(102,8,[(0,[0]),(1,[0,4]),(2,[2]),(3,[2])])]
noncomputable def B102:Base:=baseOf Pz (fun f i=>lkC f i K102) [] [] []
theorem hB102:BOk B102:=base_ok named_z trivial trivial trivial
noncomputable def N102 (a:Int):Int:=(bif decide (a ≥ 10000) then (a) else (wr .i64 (a+1)))
noncomputable def ok102 (a:Int):Bool:=true
theorem P102 (a:Int) (h:ok102 a=true):PS Pz 102 [.int .i64 a] ((dI .i64).res (N102 a)):=ps_sum (n:=14) hB102 (by kernel_rfl) (by kernel_rfl) (by kernel_rfl) h
noncomputable def G102:List AV→Tr AV:=g1 (dI .i64) (fun a=>.ret ((dI .i64).res (N102 a)))
theorem s102:Sound Pz 102 G102:=sound1 fun a=>at_rt (P102 a rfl)
noncomputable def K17:List (Nat×Nat×List (Nat×List Nat)):=[(17,48,[(0,[2,3,4]),(1,[2,3,4,13]),(2,[4,5]),(3,[4,6]),(4,[4,6,37,38]),(5,[4,6,37,38,39]),(6,[4,6,8,37,38]),(7,[4,6,37,38]),(8,[4,6,37,38]),(9,[4,5])]),(40,156,[(0,[0,2]),(1,[0,2,14]),(2,[0,2]),(3,[0,2]),(4,[0,2,48]),(5,[]),(6,[0,2,64]),(7,[0,2,3,4]),(8,[0,2,3,4]),(9,[]),(10,[0,2,119]),(11,[0,2]),(12,[])]),(41,188,[(0,(1::(rn 14 6 (rn 99 11 (rn 163 8 []))))),(1,(1::20::(rn 99 11 (rn 163 8 [])))),(2,(1::2::(rn 99 11 (rn 163 8 [])))),(3,(1::2::26::(rn 99 11 (rn 163 8 [])))),(4,[1,2,4]),(5,[1,4,47]),(6,[1,4]),(7,[]),(8,(1::2::80::(rn 99 11 (rn 163 8 [])))),(9,(1::2::6::(rn 99 11 (rn 163 8 [])))),(10,(1::2::6::110::(rn 163 8 []))),(11,(1::2::6::(rn 163 8 []))),(12,(1::2::(rn 163 8 []))),(13,(1::2::(rn 163 8 []))),(14,(1::2::(rn 163 8 []))),(15,[1,171]),(16,[])]),(42,41,[(0,[0,16]),(1,[0,28,29,30]),(2,[0,28,29,30,31]),(3,[0,3,28,29,30]),(4,[0,28,29,30]),(5,[0,28,29,30])]),(43,121,[(0,(0::18::54::55::(rn 70 16 (89::90::(rn 93 6 (rn 101 10 [])))))),(1,(0::54::55::(rn 70 16 (89::90::(rn 93 6 (rn 101 10 [])))))),(2,(0::2::54::55::(rn 70 16 (89::90::(rn 93 6 (rn 101 10 [])))))),(3,(0::2::31::54::55::(rn 70 16 (89::90::(rn 93 6 (rn 101 10 [])))))),(4,(0::2::54::55::(rn 70 16 (89::90::(rn 93 6 (rn 101 10 [])))))),(5,(0::2::3::54::55::(rn 70 16 (89::90::(rn 93 6 (rn 101 10 [])))))),(6,(0::2::3::46::47::54::55::(rn 70 16 (89::90::(rn 93 6 (rn 101 10 [])))))),(7,(0::2::3::46::47::48::54::55::(rn 70 16 (89::90::(rn 93 6 (rn 101 10 [])))))),(8,(0::(rn 2 4 (46::47::54::55::(rn 70 16 (89::90::(rn 93 6 (rn 101 10 [])))))))),(9,(0::(rn 2 4 (46::47::54::55::56::(rn 70 16 (89::90::(rn 93 6 (rn 101 10 [])))))))),(10,(0::2::3::4::6::46::47::54::55::(rn 70 16 (89::90::(rn 93 6 (rn 101 10 [])))))),(11,(0::2::3::4::6::7::46::47::54::55::(rn 70 16 (89::90::(rn 93 6 (rn 101 10 [])))))),(12,(0::2::3::4::46::47::54::55::(rn 70 16 (89::90::(rn 93 6 (rn 101 11 [])))))),(13,(0::2::3::46::47::54::55::(rn 70 16 (89::90::(rn 93 6 (rn 101 10 [])))))),(14,(0::2::3::46::47::54::55::(rn 70 16 (89::90::(rn 93 6 (rn 101 10 []))))))]),(44,112,[(0,(0::(rn 12 6 (rn 20 26 (rn 64 9 []))))),(1,(0::46::(rn 64 9 []))),(2,(0::2::(rn 64 9 []))),(3,[0,73]),(4,[0,3]),(5,[0,3,106]),(6,[])]),(45,42,[(0,(0::(rn 16 5 []))),(1,[0,21]),(2,[0]),(3,[0,31]),(4,[])]),(46,59,[(0,(0::(rn 26 8 (rn 36 10 [])))),(1,(0::2::(rn 26 8 (rn 36 10 [])))),(2,[0,2,46]),(3,[])]),(94,14,[(0,[0,1]),(1,[3])]),(98,26,[(0,[0]),(1,[0,8]),(2,[2]),(3,[2])])]
noncomputable def B17_1:Base:=baseOf Pz (fun f i=>lkC f i K17) [(103,G103),(38,G38),(37,G37),(39,G39),(101,G101),(89,G89),(91,G91),(92,G92),(93,G93),(95,G95),(96,G96),(97,G97),(99,G99),(100,G100),(102,G102)] [] []
theorem hB17_1:BOk B17_1:=base_ok named_z ⟨s103,s38,s37,s39,s101,s89,s91,s92,s93,s95,s96,s97,s99,s100,s102,trivial⟩ trivial trivial
noncomputable def A17_1 (p1:Pos) (p2:Mv) (p3:Pos) (p4:Pos) (p5:Mv) (p6:Int):List AV:=[AV.ptr 3 0]
noncomputable def H17_1 (p1:Pos) (p2:Mv) (p3:Pos) (p4:Pos) (p5:Mv) (p6:Int):Hp:=Hp.mk [(pc p1 []),[AV.int .i8 p2.frm,AV.int .i8 p2.to,AV.int .u8 p2.pro,AV.int .u8 p2.drp,AV.bool p2.cas],[AV.int .u8 0,AV.ints .u8 64 (li (List.replicate 64 0)),AV.u64 0,AV.ints .u8 12 (li [0,0,0,0,0,0,0,0,0,0,0,0]),AV.int .u8 0,AV.ints .i8 4 (li [0,0,0,0]),AV.int .i8 0,AV.ints .u8 2 (li [0,0]),AV.int .i64 0,AV.int .i64 0],(pc p3 (pc p4 [AV.int .i8 p5.frm,AV.int .i8 p5.to,AV.int .u8 p5.pro,AV.int .u8 p5.drp,AV.bool p5.cas,AV.int .i64 p6]))] [] [] 0 0 0
noncomputable def O17_1 (p1:Pos) (p2:Mv) (p3:Pos) (p4:Pos) (p5:Mv) (p6:Int) (y:(Pos)):FRes := .ret (AV.tuple []) (Hp.mk [(pc p1 []),[AV.int .i8 p2.frm,AV.int .i8 p2.to,AV.int .u8 p2.pro,AV.int .u8 p2.drp,AV.bool p2.cas],[AV.int .u8 0,AV.ints .u8 64 (li (List.replicate 64 0)),AV.u64 0,AV.ints .u8 12 (li [0,0,0,0,0,0,0,0,0,0,0,0]),AV.int .u8 0,AV.ints .i8 4 (li [0,0,0,0]),AV.int .i8 0,AV.ints .u8 2 (li [0,0]),AV.int .i64 0,AV.int .i64 0],(pc y (pc p4 [AV.int .i8 p5.frm,AV.int .i8 p5.to,AV.int .u8 p5.pro,AV.int .u8 p5.drp,AV.bool p5.cas,AV.int .i64 p6]))] [] [] 0 0 0)
noncomputable def vF17_1 (p1:Pos) (p2:Mv) (p3:Pos) (p4:Pos) (p5:Mv) (p6:Int):(Pos):=(bif p5.cas then (Pos.mk p3.variant ((((p3.board.set (scale 1 p5.frm).toNat 0).set (scale 1 p5.to).toNat 0).set (scale 1 (N91 p4 p5).fst).toNat (p4.board.getD (scale 1 p5.frm).toNat 0)).set (scale 1 (N91 p4 p5).snd.fst).toNat (p4.board.getD (scale 1 p5.to).toNat 0)) p3.promoted p3.pockets p3.turn p3.rooks p3.passing p3.checks p3.half p3.full) else (bif p5.drp != 0 then (Pos.mk (N92 p3 p3.turn p5.drp).fst.variant ((N92 p3 p3.turn p5.drp).fst.board.set (scale 1 p5.to).toNat (N93 (N92 p3 p3.turn p5.drp).fst.turn p5.drp)) (N92 p3 p3.turn p5.drp).fst.promoted (N92 p3 p3.turn p5.drp).fst.pockets (N92 p3 p3.turn p5.drp).fst.turn (N92 p3 p3.turn p5.drp).fst.rooks (N92 p3 p3.turn p5.drp).fst.passing (N92 p3 p3.turn p5.drp).fst.checks (N92 p3 p3.turn p5.drp).fst.half (N92 p3 p3.turn p5.drp).fst.full) else (bif decide (p6 ≥ 0) then (bif p5.pro != 0 then (Pos.mk p3.variant ((((p3.board.set (scale 1 p6).toNat 0).set (scale 1 p5.frm).toNat 0).set (scale 1 p5.to).toNat (p4.board.getD (scale 1 p5.frm).toNat 0)).set (scale 1 p5.to).toNat (N93 p3.turn p5.pro)) p3.promoted p3.pockets p3.turn p3.rooks p3.passing p3.checks p3.half p3.full) else (Pos.mk p3.variant (((p3.board.set (scale 1 p6).toNat 0).set (scale 1 p5.frm).toNat 0).set (scale 1 p5.to).toNat (p4.board.getD (scale 1 p5.frm).toNat 0)) p3.promoted p3.pockets p3.turn p3.rooks p3.passing p3.checks p3.half p3.full)) else (bif p5.pro != 0 then (Pos.mk p3.variant (((p3.board.set (scale 1 p5.frm).toNat 0).set (scale 1 p5.to).toNat (p4.board.getD (scale 1 p5.frm).toNat 0)).set (scale 1 p5.to).toNat (N93 p3.turn p5.pro)) p3.promoted p3.pockets p3.turn p3.rooks p3.passing p3.checks p3.half p3.full) else (Pos.mk p3.variant ((p3.board.set (scale 1 p5.frm).toNat 0).set (scale 1 p5.to).toNat (p4.board.getD (scale 1 p5.frm).toNat 0)) p3.promoted p3.pockets p3.turn p3.rooks p3.passing p3.checks p3.half p3.full)))))
noncomputable def okF17_1 (p1:Pos) (p2:Mv) (p3:Pos) (p4:Pos) (p5:Mv) (p6:Int):Bool:=(bif p5.cas then (ok91 (p4) (p5)&&(decide (0≤p5.frm)&&decide (p5.frm < Int.ofNat 64)&&(decide (0≤p5.to)&&decide (p5.to < Int.ofNat 64)&&(decide (0≤p5.frm)&&decide (p5.frm < Int.ofNat 64)&&(decide (0≤p5.to)&&decide (p5.to < Int.ofNat 64)&&(decide (0≤(N91 p4 p5).fst)&&decide ((N91 p4 p5).fst < Int.ofNat 64)&&(decide (0≤(N91 p4 p5).snd.fst)&&decide ((N91 p4 p5).snd.fst < Int.ofNat 64)&&true))))))) else (bif p5.drp != 0 then (ok92 (p3) (p3.turn) (p5.drp)&&(decide (0≤p5.to)&&decide (p5.to < Int.ofNat 64)&&true)) else (bif decide (p6 ≥ 0) then (decide (0≤p6)&&decide (p6 < Int.ofNat 64)&&(decide (0≤p5.frm)&&decide (p5.frm < Int.ofNat 64)&&(decide (0≤p5.frm)&&decide (p5.frm < Int.ofNat 64)&&(decide (0≤p5.to)&&decide (p5.to < Int.ofNat 64)&&(bif p5.pro != 0 then (decide (0≤p5.to)&&decide (p5.to < Int.ofNat 64)&&true) else true))))) else (decide (0≤p5.frm)&&decide (p5.frm < Int.ofNat 64)&&(decide (0≤p5.frm)&&decide (p5.frm < Int.ofNat 64)&&(decide (0≤p5.to)&&decide (p5.to < Int.ofNat 64)&&(bif p5.pro != 0 then (decide (0≤p5.to)&&decide (p5.to < Int.ofNat 64)&&true) else true)))))))
abbrev DF17_1 {α:Type} (k:Pos→Mv→Pos→Pos→Mv→Int→α) (s:St):α:=wP s 0 fun q0=>wP s 3 fun q3=>wM s 1 fun q1=>k q0 q1 q3 (Kz.Pos.mk (tI (tH s 3 10)) (tN (tH s 3 11)) (tU (tH s 3 12)) (tN (tH s 3 13)) (tI (tH s 3 14)) (tN (tH s 3 15)) (tI (tH s 3 16)) (tN (tH s 3 17)) (tI (tH s 3 18)) (tI (tH s 3 19))) (Kz.Mv.mk (tI (tH s 3 20)) (tI (tH s 3 21)) (tI (tH s 3 22)) (tI (tH s 3 23)) (tB (tH s 3 24))) (tI (tH s 3 25))
theorem PF17_1 (p1:Pos) (p2:Mv) (p3:Pos) (p4:Pos) (p5:Mv) (p6:Int) (h:okF17_1 p1 p2 p3 p4 p5 p6=true):FSpec Pz 40 (A17_1 p1 p2 p3 p4 p5 p6) (H17_1 p1 p2 p3 p4 p5 p6) (O17_1 p1 p2 p3 p4 p5 p6 (vF17_1 p1 p2 p3 p4 p5 p6))∧∃ fn,Pz.funcs[40]?=some fn∧fn.body.isSome=true:=fs_sumd (n:=14) (O:=O17_1 p1 p2 p3 p4 p5 p6) hB17_1 (fun o=>match o with | .ret v h=>(let s:St:=⟨[v],h⟩; wP s 3 fun q3=>some q3) | _=>none) (fun _=>rfl) (by kernel_rfl) (by kernel_rfl) (by kernel_rfl) (by kernel_rfl) h
noncomputable def FF17_1 (xs:List AV) (h:Hp):Tr FRes:=DF17_1 (fun p1 p2 p3 p4 p5 p6=>fk xs h (A17_1 p1 p2 p3 p4 p5 p6) (H17_1 p1 p2 p3 p4 p5 p6) (okF17_1 p1 p2 p3 p4 p5 p6) (O17_1 p1 p2 p3 p4 p5 p6) (vF17_1 p1 p2 p3 p4 p5 p6)) ⟨xs,h⟩
theorem sFF17_1:FSound Pz 40 FF17_1:=fun _ _ _ h=>fk_ok (PF17_1 _ _ _ _ _ _) h
noncomputable def B17_2:Base:=baseOf Pz (fun f i=>lkC f i K17) [(103,G103),(38,G38),(37,G37),(39,G39),(101,G101),(89,G89),(91,G91),(92,G92),(93,G93),(95,G95),(96,G96),(97,G97),(99,G99),(100,G100),(102,G102)] [] [(40,FF17_1)]
theorem hB17_2:BOk B17_2:=base_ok named_z ⟨s103,s38,s37,s39,s101,s89,s91,s92,s93,s95,s96,s97,s99,s100,s102,trivial⟩ trivial ⟨sFF17_1,trivial⟩
noncomputable def A17_2 (p1:Pos) (p2:Mv) (p3:Pos) (p4:Pos) (p5:Mv) (p6:Int):List AV:=[AV.ptr 3 0]
noncomputable def H17_2 (p1:Pos) (p2:Mv) (p3:Pos) (p4:Pos) (p5:Mv) (p6:Int):Hp:=Hp.mk [(pc p1 []),[AV.int .i8 p2.frm,AV.int .i8 p2.to,AV.int .u8 p2.pro,AV.int .u8 p2.drp,AV.bool p2.cas],[AV.int .u8 0,AV.ints .u8 64 (li (List.replicate 64 0)),AV.u64 0,AV.ints .u8 12 (li [0,0,0,0,0,0,0,0,0,0,0,0]),AV.int .u8 0,AV.ints .i8 4 (li [0,0,0,0]),AV.int .i8 0,AV.ints .u8 2 (li [0,0]),AV.int .i64 0,AV.int .i64 0],(pc p3 (pc p4 [AV.int .i8 p5.frm,AV.int .i8 p5.to,AV.int .u8 p5.pro,AV.int .u8 p5.drp,AV.bool p5.cas,AV.int .i64 p6]))] [] [] 0 0 0
noncomputable def O17_2 (p1:Pos) (p2:Mv) (p3:Pos) (p4:Pos) (p5:Mv) (p6:Int) (y:(Pos)):FRes := .ret (AV.tuple []) (Hp.mk [(pc p1 []),[AV.int .i8 p2.frm,AV.int .i8 p2.to,AV.int .u8 p2.pro,AV.int .u8 p2.drp,AV.bool p2.cas],[AV.int .u8 0,AV.ints .u8 64 (li (List.replicate 64 0)),AV.u64 0,AV.ints .u8 12 (li [0,0,0,0,0,0,0,0,0,0,0,0]),AV.int .u8 0,AV.ints .i8 4 (li [0,0,0,0]),AV.int .i8 0,AV.ints .u8 2 (li [0,0]),AV.int .i64 0,AV.int .i64 0],(pc y (pc p4 [AV.int .i8 p5.frm,AV.int .i8 p5.to,AV.int .u8 p5.pro,AV.int .u8 p5.drp,AV.bool p5.cas,AV.int .i64 p6]))] [] [] 0 0 0)
noncomputable def vF17_2 (p1:Pos) (p2:Mv) (p3:Pos) (p4:Pos) (p5:Mv) (p6:Int):(Pos):=(bif p3.variant != 2 then (p3) else (bif p5.drp != 0 then (p3) else (bif p5.cas then (bif p4.promoted >>> (BitVec.ofInt 64 (wr .i64 p5.to)).toNat&&&1#64==1#64 then (Pos.mk p3.variant p3.board (p3.promoted &&& ~~~(1#64 <<< (BitVec.ofInt 64 p5.to).toNat)|||1#64 <<< (BitVec.ofInt 64 (N91 p4 p5).snd.fst).toNat) p3.pockets p3.turn p3.rooks p3.passing p3.checks p3.half p3.full) else (p3)) else (bif decide (p6 ≥ 0) then (bif p4.promoted >>> (BitVec.ofInt 64 p6).toNat&&&1#64==1#64 then (bif p4.board.getD (scale 1 p6).toNat 0 != 0 then (bif p5.pro != 0 then (Pos.mk (N95 p3 p3.turn 1).variant (N95 p3 p3.turn 1).board ((N95 p3 p3.turn 1).promoted &&& ~~~(1#64 <<< (BitVec.ofInt 64 p6).toNat) &&& ~~~(1#64 <<< (BitVec.ofInt 64 p5.frm).toNat)|||1#64 <<< (BitVec.ofInt 64 p5.to).toNat) (N95 p3 p3.turn 1).pockets (N95 p3 p3.turn 1).turn (N95 p3 p3.turn 1).rooks (N95 p3 p3.turn 1).passing (N95 p3 p3.turn 1).checks (N95 p3 p3.turn 1).half (N95 p3 p3.turn 1).full) else (bif p4.promoted >>> (BitVec.ofInt 64 (wr .i64 p5.frm)).toNat&&&1#64==1#64 then (Pos.mk (N95 p3 p3.turn 1).variant (N95 p3 p3.turn 1).board ((N95 p3 p3.turn 1).promoted &&& ~~~(1#64 <<< (BitVec.ofInt 64 p6).toNat) &&& ~~~(1#64 <<< (BitVec.ofInt 64 p5.frm).toNat)|||1#64 <<< (BitVec.ofInt 64 p5.to).toNat) (N95 p3 p3.turn 1).pockets (N95 p3 p3.turn 1).turn (N95 p3 p3.turn 1).rooks (N95 p3 p3.turn 1).passing (N95 p3 p3.turn 1).checks (N95 p3 p3.turn 1).half (N95 p3 p3.turn 1).full) else (Pos.mk (N95 p3 p3.turn 1).variant (N95 p3 p3.turn 1).board ((N95 p3 p3.turn 1).promoted &&& ~~~(1#64 <<< (BitVec.ofInt 64 p6).toNat) &&& ~~~(1#64 <<< (BitVec.ofInt 64 p5.frm).toNat)) (N95 p3 p3.turn 1).pockets (N95 p3 p3.turn 1).turn (N95 p3 p3.turn 1).rooks (N95 p3 p3.turn 1).passing (N95 p3 p3.turn 1).checks (N95 p3 p3.turn 1).half (N95 p3 p3.turn 1).full))) else (bif p5.pro != 0 then (Pos.mk (N95 p3 p3.turn (N89 (p4.board.getD (scale 1 p6).toNat 0))).variant (N95 p3 p3.turn (N89 (p4.board.getD (scale 1 p6).toNat 0))).board ((N95 p3 p3.turn (N89 (p4.board.getD (scale 1 p6).toNat 0))).promoted &&& ~~~(1#64 <<< (BitVec.ofInt 64 p6).toNat) &&& ~~~(1#64 <<< (BitVec.ofInt 64 p5.frm).toNat)|||1#64 <<< (BitVec.ofInt 64 p5.to).toNat) (N95 p3 p3.turn (N89 (p4.board.getD (scale 1 p6).toNat 0))).pockets (N95 p3 p3.turn (N89 (p4.board.getD (scale 1 p6).toNat 0))).turn (N95 p3 p3.turn (N89 (p4.board.getD (scale 1 p6).toNat 0))).rooks (N95 p3 p3.turn (N89 (p4.board.getD (scale 1 p6).toNat 0))).passing (N95 p3 p3.turn (N89 (p4.board.getD (scale 1 p6).toNat 0))).checks (N95 p3 p3.turn (N89 (p4.board.getD (scale 1 p6).toNat 0))).half (N95 p3 p3.turn (N89 (p4.board.getD (scale 1 p6).toNat 0))).full) else (bif p4.promoted >>> (BitVec.ofInt 64 (wr .i64 p5.frm)).toNat&&&1#64==1#64 then (Pos.mk (N95 p3 p3.turn (N89 (p4.board.getD (scale 1 p6).toNat 0))).variant (N95 p3 p3.turn (N89 (p4.board.getD (scale 1 p6).toNat 0))).board ((N95 p3 p3.turn (N89 (p4.board.getD (scale 1 p6).toNat 0))).promoted &&& ~~~(1#64 <<< (BitVec.ofInt 64 p6).toNat) &&& ~~~(1#64 <<< (BitVec.ofInt 64 p5.frm).toNat)|||1#64 <<< (BitVec.ofInt 64 p5.to).toNat) (N95 p3 p3.turn (N89 (p4.board.getD (scale 1 p6).toNat 0))).pockets (N95 p3 p3.turn (N89 (p4.board.getD (scale 1 p6).toNat 0))).turn (N95 p3 p3.turn (N89 (p4.board.getD (scale 1 p6).toNat 0))).rooks (N95 p3 p3.turn (N89 (p4.board.getD (scale 1 p6).toNat 0))).passing (N95 p3 p3.turn (N89 (p4.board.getD (scale 1 p6).toNat 0))).checks (N95 p3 p3.turn (N89 (p4.board.getD (scale 1 p6).toNat 0))).half (N95 p3 p3.turn (N89 (p4.board.getD (scale 1 p6).toNat 0))).full) else (Pos.mk (N95 p3 p3.turn (N89 (p4.board.getD (scale 1 p6).toNat 0))).variant (N95 p3 p3.turn (N89 (p4.board.getD (scale 1 p6).toNat 0))).board ((N95 p3 p3.turn (N89 (p4.board.getD (scale 1 p6).toNat 0))).promoted &&& ~~~(1#64 <<< (BitVec.ofInt 64 p6).toNat) &&& ~~~(1#64 <<< (BitVec.ofInt 64 p5.frm).toNat)) (N95 p3 p3.turn (N89 (p4.board.getD (scale 1 p6).toNat 0))).pockets (N95 p3 p3.turn (N89 (p4.board.getD (scale 1 p6).toNat 0))).turn (N95 p3 p3.turn (N89 (p4.board.getD (scale 1 p6).toNat 0))).rooks (N95 p3 p3.turn (N89 (p4.board.getD (scale 1 p6).toNat 0))).passing (N95 p3 p3.turn (N89 (p4.board.getD (scale 1 p6).toNat 0))).checks (N95 p3 p3.turn (N89 (p4.board.getD (scale 1 p6).toNat 0))).half (N95 p3 p3.turn (N89 (p4.board.getD (scale 1 p6).toNat 0))).full)))) else (bif p5.pro != 0 then (Pos.mk (N95 p3 p3.turn (N89 (p4.board.getD (scale 1 p6).toNat 0))).variant (N95 p3 p3.turn (N89 (p4.board.getD (scale 1 p6).toNat 0))).board ((N95 p3 p3.turn (N89 (p4.board.getD (scale 1 p6).toNat 0))).promoted &&& ~~~(1#64 <<< (BitVec.ofInt 64 p6).toNat) &&& ~~~(1#64 <<< (BitVec.ofInt 64 p5.frm).toNat)|||1#64 <<< (BitVec.ofInt 64 p5.to).toNat) (N95 p3 p3.turn (N89 (p4.board.getD (scale 1 p6).toNat 0))).pockets (N95 p3 p3.turn (N89 (p4.board.getD (scale 1 p6).toNat 0))).turn (N95 p3 p3.turn (N89 (p4.board.getD (scale 1 p6).toNat 0))).rooks (N95 p3 p3.turn (N89 (p4.board.getD (scale 1 p6).toNat 0))).passing (N95 p3 p3.turn (N89 (p4.board.getD (scale 1 p6).toNat 0))).checks (N95 p3 p3.turn (N89 (p4.board.getD (scale 1 p6).toNat 0))).half (N95 p3 p3.turn (N89 (p4.board.getD (scale 1 p6).toNat 0))).full) else (bif p4.promoted >>> (BitVec.ofInt 64 (wr .i64 p5.frm)).toNat&&&1#64==1#64 then (Pos.mk (N95 p3 p3.turn (N89 (p4.board.getD (scale 1 p6).toNat 0))).variant (N95 p3 p3.turn (N89 (p4.board.getD (scale 1 p6).toNat 0))).board ((N95 p3 p3.turn (N89 (p4.board.getD (scale 1 p6).toNat 0))).promoted &&& ~~~(1#64 <<< (BitVec.ofInt 64 p6).toNat) &&& ~~~(1#64 <<< (BitVec.ofInt 64 p5.frm).toNat)|||1#64 <<< (BitVec.ofInt 64 p5.to).toNat) (N95 p3 p3.turn (N89 (p4.board.getD (scale 1 p6).toNat 0))).pockets (N95 p3 p3.turn (N89 (p4.board.getD (scale 1 p6).toNat 0))).turn (N95 p3 p3.turn (N89 (p4.board.getD (scale 1 p6).toNat 0))).rooks (N95 p3 p3.turn (N89 (p4.board.getD (scale 1 p6).toNat 0))).passing (N95 p3 p3.turn (N89 (p4.board.getD (scale 1 p6).toNat 0))).checks (N95 p3 p3.turn (N89 (p4.board.getD (scale 1 p6).toNat 0))).half (N95 p3 p3.turn (N89 (p4.board.getD (scale 1 p6).toNat 0))).full) else (Pos.mk (N95 p3 p3.turn (N89 (p4.board.getD (scale 1 p6).toNat 0))).variant (N95 p3 p3.turn (N89 (p4.board.getD (scale 1 p6).toNat 0))).board ((N95 p3 p3.turn (N89 (p4.board.getD (scale 1 p6).toNat 0))).promoted &&& ~~~(1#64 <<< (BitVec.ofInt 64 p6).toNat) &&& ~~~(1#64 <<< (BitVec.ofInt 64 p5.frm).toNat)) (N95 p3 p3.turn (N89 (p4.board.getD (scale 1 p6).toNat 0))).pockets (N95 p3 p3.turn (N89 (p4.board.getD (scale 1 p6).toNat 0))).turn (N95 p3 p3.turn (N89 (p4.board.getD (scale 1 p6).toNat 0))).rooks (N95 p3 p3.turn (N89 (p4.board.getD (scale 1 p6).toNat 0))).passing (N95 p3 p3.turn (N89 (p4.board.getD (scale 1 p6).toNat 0))).checks (N95 p3 p3.turn (N89 (p4.board.getD (scale 1 p6).toNat 0))).half (N95 p3 p3.turn (N89 (p4.board.getD (scale 1 p6).toNat 0))).full)))) else (bif p5.pro != 0 then (Pos.mk p3.variant p3.board (p3.promoted &&& ~~~(1#64 <<< (BitVec.ofInt 64 p5.frm).toNat)|||1#64 <<< (BitVec.ofInt 64 p5.to).toNat) p3.pockets p3.turn p3.rooks p3.passing p3.checks p3.half p3.full) else (bif p4.promoted >>> (BitVec.ofInt 64 (wr .i64 p5.frm)).toNat&&&1#64==1#64 then (Pos.mk p3.variant p3.board (p3.promoted &&& ~~~(1#64 <<< (BitVec.ofInt 64 p5.frm).toNat)|||1#64 <<< (BitVec.ofInt 64 p5.to).toNat) p3.pockets p3.turn p3.rooks p3.passing p3.checks p3.half p3.full) else (Pos.mk p3.variant p3.board (p3.promoted &&& ~~~(1#64 <<< (BitVec.ofInt 64 p5.frm).toNat)) p3.pockets p3.turn p3.rooks p3.passing p3.checks p3.half p3.full)))))))
noncomputable def okF17_2 (p1:Pos) (p2:Mv) (p3:Pos) (p4:Pos) (p5:Mv) (p6:Int):Bool:=(bif p3.variant != 2 then true else (bif p5.drp != 0 then true else (bif p5.cas then (ok91 (p4) (p5)&&true) else (bif decide (p6 ≥ 0) then (decide (0≤p6)&&decide (p6 < Int.ofNat 64)&&(bif p4.promoted >>> (BitVec.ofInt 64 p6).toNat&&&1#64==1#64 then (decide (0≤p6)&&decide (p6 < Int.ofNat 64)&&(bif p4.board.getD (scale 1 p6).toNat 0 != 0 then (ok95 (p3) (p3.turn) (1)&&true) else (ok95 (p3) (p3.turn) (N89 (p4.board.getD (scale 1 p6).toNat 0))&&true))) else (ok95 (p3) (p3.turn) (N89 (p4.board.getD (scale 1 p6).toNat 0))&&true))) else true))))
abbrev DF17_2 {α:Type} (k:Pos→Mv→Pos→Pos→Mv→Int→α) (s:St):α:=wP s 0 fun q0=>wP s 3 fun q3=>wM s 1 fun q1=>k q0 q1 q3 (Kz.Pos.mk (tI (tH s 3 10)) (tN (tH s 3 11)) (tU (tH s 3 12)) (tN (tH s 3 13)) (tI (tH s 3 14)) (tN (tH s 3 15)) (tI (tH s 3 16)) (tN (tH s 3 17)) (tI (tH s 3 18)) (tI (tH s 3 19))) (Kz.Mv.mk (tI (tH s 3 20)) (tI (tH s 3 21)) (tI (tH s 3 22)) (tI (tH s 3 23)) (tB (tH s 3 24))) (tI (tH s 3 25))
theorem PF17_2 (p1:Pos) (p2:Mv) (p3:Pos) (p4:Pos) (p5:Mv) (p6:Int) (h:okF17_2 p1 p2 p3 p4 p5 p6=true):FSpec Pz 41 (A17_2 p1 p2 p3 p4 p5 p6) (H17_2 p1 p2 p3 p4 p5 p6) (O17_2 p1 p2 p3 p4 p5 p6 (vF17_2 p1 p2 p3 p4 p5 p6))∧∃ fn,Pz.funcs[41]?=some fn∧fn.body.isSome=true:=fs_sumd (n:=14) (O:=O17_2 p1 p2 p3 p4 p5 p6) hB17_2 (fun o=>match o with | .ret v h=>(let s:St:=⟨[v],h⟩; wP s 3 fun q3=>some q3) | _=>none) (fun _=>rfl) (by kernel_rfl) (by kernel_rfl) (by kernel_rfl) (by kernel_rfl) h
noncomputable def FF17_2 (xs:List AV) (h:Hp):Tr FRes:=DF17_2 (fun p1 p2 p3 p4 p5 p6=>fk xs h (A17_2 p1 p2 p3 p4 p5 p6) (H17_2 p1 p2 p3 p4 p5 p6) (okF17_2 p1 p2 p3 p4 p5 p6) (O17_2 p1 p2 p3 p4 p5 p6) (vF17_2 p1 p2 p3 p4 p5 p6)) ⟨xs,h⟩
theorem sFF17_2:FSound Pz 41 FF17_2:=fun _ _ _ h=>fk_ok (PF17_2 _ _ _ _ _ _) h
noncomputable def B17_3:Base:=baseOf Pz (fun f i=>lkC f i K17) [(103,G103),(38,G38),(37,G37),(39,G39),(101,G101),(89,G89),(91,G91),(92,G92),(93,G93),(95,G95),(96,G96),(97,G97),(99,G99),(100,G100),(102,G102)] [] [(40,FF17_1),(41,FF17_2)]
theorem hB17_3:BOk B17_3:=base_ok named_z ⟨s103,s38,s37,s39,s101,s89,s91,s92,s93,s95,s96,s97,s99,s100,s102,trivial⟩ trivial ⟨sFF17_1,sFF17_2,trivial⟩
noncomputable def S17_3 (p1:(List Int)) (p2:Int) (p3:Pos) (p4:Mv) (p5:Pos) (p6:Mv) (p7:Int) (x:(Int×Pos)):St:=St.mk (AV.ptr 3 0::(an 27 (AV.list (ET.i .i64) p1 Tk.fresh::AV.int .i64 p2::AV.int .i64 x.fst::(an 10 [])))) (Hp.mk [(pc p3 []),[AV.int .i8 p4.frm,AV.int .i8 p4.to,AV.int .u8 p4.pro,AV.int .u8 p4.drp,AV.bool p4.cas],[AV.int .u8 0,AV.ints .u8 64 (li (List.replicate 64 0)),AV.u64 0,AV.ints .u8 12 (li [0,0,0,0,0,0,0,0,0,0,0,0]),AV.int .u8 0,AV.ints .i8 4 (li [0,0,0,0]),AV.int .i8 0,AV.ints .u8 2 (li [0,0]),AV.int .i64 0,AV.int .i64 0],(pc x.snd (pc p5 [AV.int .i8 p6.frm,AV.int .i8 p6.to,AV.int .u8 p6.pro,AV.int .u8 p6.drp,AV.bool p6.cas,AV.int .i64 p7]))] [] [] 0 0 0)
noncomputable def O17_3 (p1:(List Int)) (p2:Int) (p3:Pos) (p4:Mv) (p5:Pos) (p6:Mv) (p7:Int):(Int×Bool×Pos)→Out:=fun y=>.exit 0 (St.mk (AV.ptr 3 0::(an 27 (AV.list (ET.i .i64) p1 Tk.fresh::AV.int .i64 p2::AV.int .i64 y.fst::AV.bool y.snd.fst::(an 9 [])))) (Hp.mk [(pc p3 []),[AV.int .i8 p4.frm,AV.int .i8 p4.to,AV.int .u8 p4.pro,AV.int .u8 p4.drp,AV.bool p4.cas],[AV.int .u8 0,AV.ints .u8 64 (li (List.replicate 64 0)),AV.u64 0,AV.ints .u8 12 (li [0,0,0,0,0,0,0,0,0,0,0,0]),AV.int .u8 0,AV.ints .i8 4 (li [0,0,0,0]),AV.int .i8 0,AV.ints .u8 2 (li [0,0]),AV.int .i64 0,AV.int .i64 0],(pc y.snd.snd (pc p5 [AV.int .i8 p6.frm,AV.int .i8 p6.to,AV.int .u8 p6.pro,AV.int .u8 p6.drp,AV.bool p6.cas,AV.int .i64 p7]))] [] [] 0 0 0))
noncomputable def st17_3 (p1:(List Int)) (p2:Int) (p3:Pos) (p4:Mv) (p5:Pos) (p6:Mv) (p7:Int) (x:(Int×Pos)):Stp (Int×Pos) ((Int×Bool×Pos)):=(bif decide (x.fst < p2) then (Stp.go (wr .i64 (x.fst+1),Pos.mk x.snd.variant (x.snd.board.set (scale 1 (p1.getD x.fst.toNat default)).toNat 0) x.snd.promoted x.snd.pockets x.snd.turn x.snd.rooks x.snd.passing x.snd.checks x.snd.half x.snd.full)) else (Stp.out ((x.fst,decide (x.fst < p2),x.snd))))
noncomputable def okL17_3 (p1:(List Int)) (p2:Int) (p3:Pos) (p4:Mv) (p5:Pos) (p6:Mv) (p7:Int) (x:(Int×Pos)):Bool:=(bif decide (x.fst < p2) then (decide (0≤x.fst)&&decide (x.fst < Int.ofNat p1.length)&&(decide (0≤p1.getD x.fst.toNat default)&&decide (p1.getD x.fst.toNat default < Int.ofNat 64)&&true)) else true)
noncomputable def lp17_3 (p1:(List Int)) (p2:Int) (p3:Pos) (p4:Mv) (p5:Pos) (p6:Mv) (p7:Int) (x:(Int×Pos)):Option ((Int×Bool×Pos)):=itl (fun x=>bif okL17_3 p1 p2 p3 p4 p5 p6 p7 x then st17_3 p1 p2 p3 p4 p5 p6 p7 x else .bad) many x
abbrev D17_3 {α:Type} (k:(List Int)→Int→Pos→Mv→Pos→Mv→Int→(Int×Pos)→α) (s:St):α:=wP s 0 fun q0=>wP s 3 fun q3=>wM s 1 fun q1=>k (tL (ET.i .i64) (tT s 28)) (tI (tT s 29)) q0 q1 (Kz.Pos.mk (tI (tH s 3 10)) (tN (tH s 3 11)) (tU (tH s 3 12)) (tN (tH s 3 13)) (tI (tH s 3 14)) (tN (tH s 3 15)) (tI (tH s 3 16)) (tN (tH s 3 17)) (tI (tH s 3 18)) (tI (tH s 3 19))) (Kz.Mv.mk (tI (tH s 3 20)) (tI (tH s 3 21)) (tI (tH s 3 22)) (tI (tH s 3 23)) (tB (tH s 3 24))) (tI (tH s 3 25)) ((tI (tT s 30)),q3)
theorem L17_3 (p1:(List Int)) (p2:Int) (p3:Pos) (p4:Mv) (p5:Pos) (p6:Mv) (p7:Int) (x:(Int×Pos)) (r:(Int×Bool×Pos)) (h:lp17_3 p1 p2 p3 p4 p5 p6 p7 x=some r):LSpec Pz (bodL Pz 42 2) (S17_3 p1 p2 p3 p4 p5 p6 p7 x) (O17_3 p1 p2 p3 p4 p5 p6 p7 r):=LSpec.smd (m:=12) (fn:=42) hB17_3 (D17_3 fun _ _ _ _ _ _ _ x=>some x) (fun o=>match o with | .exit 0 s=>wP s 3 fun q3=>some ((tI (tT s 30)),(tB (tT s 31)),q3) | _=>none) (fun _=>rfl) (fun _=>by kernel_rfl) (fun _=>by kernel_rfl) (fun _=>by kernel_rfl) (fun _=>by kernel_rfl) many x r h
noncomputable def F17_3 (b:Code) (s:St):Tr Out:=D17_3 (fun p1 p2 p3 p4 p5 p6 p7 x=>lk1 b (bodL Pz 42 2) s (S17_3 p1 p2 p3 p4 p5 p6 p7 x) (lp17_3 p1 p2 p3 p4 p5 p6 p7 x) (O17_3 p1 p2 p3 p4 p5 p6 p7)) s
theorem sF17_3:∀ b,LSound Pz b (F17_3 b):=fun _ _ _ h=>lk1_ok (L17_3 _ _ _ _ _ _ _ _) h
noncomputable def B17_4:Base:=baseOf Pz (fun f i=>lkC f i K17) [(103,G103),(38,G38),(37,G37),(39,G39),(101,G101),(89,G89),(91,G91),(92,G92),(93,G93),(95,G95),(96,G96),(97,G97),(99,G99),(100,G100),(102,G102)] [(42,2,F17_3)] [(40,FF17_1),(41,FF17_2)]
theorem hB17_4:BOk B17_4:=base_ok named_z ⟨s103,s38,s37,s39,s101,s89,s91,s92,s93,s95,s96,s97,s99,s100,s102,trivial⟩ ⟨sF17_3,trivial⟩ ⟨sFF17_1,sFF17_2,trivial⟩
noncomputable def A17_4 (p1:Pos) (p2:Mv) (p3:Pos) (p4:Pos) (p5:Mv) (p6:Int):List AV:=[AV.ptr 3 0]
noncomputable def H17_4 (p1:Pos) (p2:Mv) (p3:Pos) (p4:Pos) (p5:Mv) (p6:Int):Hp:=Hp.mk [(pc p1 []),[AV.int .i8 p2.frm,AV.int .i8 p2.to,AV.int .u8 p2.pro,AV.int .u8 p2.drp,AV.bool p2.cas],[AV.int .u8 0,AV.ints .u8 64 (li (List.replicate 64 0)),AV.u64 0,AV.ints .u8 12 (li [0,0,0,0,0,0,0,0,0,0,0,0]),AV.int .u8 0,AV.ints .i8 4 (li [0,0,0,0]),AV.int .i8 0,AV.ints .u8 2 (li [0,0]),AV.int .i64 0,AV.int .i64 0],(pc p3 (pc p4 [AV.int .i8 p5.frm,AV.int .i8 p5.to,AV.int .u8 p5.pro,AV.int .u8 p5.drp,AV.bool p5.cas,AV.int .i64 p6]))] [] [] 0 0 0
noncomputable def O17_4 (p1:Pos) (p2:Mv) (p3:Pos) (p4:Pos) (p5:Mv) (p6:Int) (y:(Pos)):FRes := .ret (AV.tuple []) (Hp.mk [(pc p1 []),[AV.int .i8 p2.frm,AV.int .i8 p2.to,AV.int .u8 p2.pro,AV.int .u8 p2.drp,AV.bool p2.cas],[AV.int .u8 0,AV.ints .u8 64 (li (List.replicate 64 0)),AV.u64 0,AV.ints .u8 12 (li [0,0,0,0,0,0,0,0,0,0,0,0]),AV.int .u8 0,AV.ints .i8 4 (li [0,0,0,0]),AV.int .i8 0,AV.ints .u8 2 (li [0,0]),AV.int .i64 0,AV.int .i64 0],(pc y (pc p4 [AV.int .i8 p5.frm,AV.int .i8 p5.to,AV.int .u8 p5.pro,AV.int .u8 p5.drp,AV.bool p5.cas,AV.int .i64 p6]))] [] [] 0 0 0)
noncomputable def vF17_4 (p1:Pos) (p2:Mv) (p3:Pos) (p4:Pos) (p5:Mv) (p6:Int):(Pos):=(bif p3.variant != 3 then (p3) else (bif decide (p6 < 0) then (p3) else (((lp17_3 (N96 (N97 p3 (wr .i64 p5.to))) (Int.ofNat (N96 (N97 p3 (wr .i64 p5.to))).length) p1 p2 p4 p5 p6 (0,p3)).getD default).snd.snd)))
noncomputable def okF17_4 (p1:Pos) (p2:Mv) (p3:Pos) (p4:Pos) (p5:Mv) (p6:Int):Bool:=(bif p3.variant != 3 then true else (bif decide (p6 < 0) then true else (ok97 (p3) (wr .i64 p5.to)&&(ok96 (N97 p3 (wr .i64 p5.to))&&((lp17_3 (N96 (N97 p3 (wr .i64 p5.to))) (Int.ofNat (N96 (N97 p3 (wr .i64 p5.to))).length) p1 p2 p4 p5 p6 (0,p3)).isSome&&true)))))
abbrev DF17_4 {α:Type} (k:Pos→Mv→Pos→Pos→Mv→Int→α) (s:St):α:=wP s 0 fun q0=>wP s 3 fun q3=>wM s 1 fun q1=>k q0 q1 q3 (Kz.Pos.mk (tI (tH s 3 10)) (tN (tH s 3 11)) (tU (tH s 3 12)) (tN (tH s 3 13)) (tI (tH s 3 14)) (tN (tH s 3 15)) (tI (tH s 3 16)) (tN (tH s 3 17)) (tI (tH s 3 18)) (tI (tH s 3 19))) (Kz.Mv.mk (tI (tH s 3 20)) (tI (tH s 3 21)) (tI (tH s 3 22)) (tI (tH s 3 23)) (tB (tH s 3 24))) (tI (tH s 3 25))
theorem PF17_4 (p1:Pos) (p2:Mv) (p3:Pos) (p4:Pos) (p5:Mv) (p6:Int) (h:okF17_4 p1 p2 p3 p4 p5 p6=true):FSpec Pz 42 (A17_4 p1 p2 p3 p4 p5 p6) (H17_4 p1 p2 p3 p4 p5 p6) (O17_4 p1 p2 p3 p4 p5 p6 (vF17_4 p1 p2 p3 p4 p5 p6))∧∃ fn,Pz.funcs[42]?=some fn∧fn.body.isSome=true:=fs_sumd (n:=14) (O:=O17_4 p1 p2 p3 p4 p5 p6) hB17_4 (fun o=>match o with | .ret v h=>(let s:St:=⟨[v],h⟩; wP s 3 fun q3=>some q3) | _=>none) (fun _=>rfl) (by kernel_rfl) (by kernel_rfl) (by kernel_rfl) (by kernel_rfl) h
noncomputable def FF17_4 (xs:List AV) (h:Hp):Tr FRes:=DF17_4 (fun p1 p2 p3 p4 p5 p6=>fk xs h (A17_4 p1 p2 p3 p4 p5 p6) (H17_4 p1 p2 p3 p4 p5 p6) (okF17_4 p1 p2 p3 p4 p5 p6) (O17_4 p1 p2 p3 p4 p5 p6) (vF17_4 p1 p2 p3 p4 p5 p6)) ⟨xs,h⟩
theorem sFF17_4:FSound Pz 42 FF17_4:=fun _ _ _ h=>fk_ok (PF17_4 _ _ _ _ _ _) h
noncomputable def B17_6:Base:=baseOf Pz (fun f i=>lkC f i K17) [(103,G103),(38,G38),(37,G37),(39,G39),(101,G101),(89,G89),(91,G91),(92,G92),(93,G93),(95,G95),(96,G96),(97,G97),(99,G99),(100,G100),(102,G102)] [(42,2,F17_3)] [(40,FF17_1),(41,FF17_2),(42,FF17_4)]
theorem hB17_6:BOk B17_6:=base_ok named_z ⟨s103,s38,s37,s39,s101,s89,s91,s92,s93,s95,s96,s97,s99,s100,s102,trivial⟩ ⟨sF17_3,trivial⟩ ⟨sFF17_1,sFF17_2,sFF17_4,trivial⟩
noncomputable def S17_6 (p1:Int) (p2:Int) (p3:(List Int)) (p4:Pos) (p5:Mv) (p6:Pos) (p7:Mv) (p8:Int) (x:(Int×Pos)):St:=St.mk (AV.ptr 3 0::AV.any::AV.int .u8 p1::AV.int .i64 p2::(an 42 (AV.agg [AV.ints .i8 2 p3]::AV.int .i64 x.fst::(an 73 [])))) (Hp.mk [(pc p4 []),[AV.int .i8 p5.frm,AV.int .i8 p5.to,AV.int .u8 p5.pro,AV.int .u8 p5.drp,AV.bool p5.cas],[AV.int .u8 0,AV.ints .u8 64 (li (List.replicate 64 0)),AV.u64 0,AV.ints .u8 12 (li [0,0,0,0,0,0,0,0,0,0,0,0]),AV.int .u8 0,AV.ints .i8 4 (li [0,0,0,0]),AV.int .i8 0,AV.ints .u8 2 (li [0,0]),AV.int .i64 0,AV.int .i64 0],(pc x.snd (pc p6 [AV.int .i8 p7.frm,AV.int .i8 p7.to,AV.int .u8 p7.pro,AV.int .u8 p7.drp,AV.bool p7.cas,AV.int .i64 p8]))] [] [] 0 0 0)
noncomputable def O17_6 (p1:Int) (p2:Int) (p3:(List Int)) (p4:Pos) (p5:Mv) (p6:Pos) (p7:Mv) (p8:Int):(Int×Bool×Pos)→Out:=fun y=>.exit 2 (St.mk (AV.ptr 3 0::AV.any::AV.int .u8 p1::AV.int .i64 p2::(an 42 (AV.agg [AV.ints .i8 2 p3]::AV.int .i64 y.fst::AV.bool y.snd.fst::(an 72 [])))) (Hp.mk [(pc p4 []),[AV.int .i8 p5.frm,AV.int .i8 p5.to,AV.int .u8 p5.pro,AV.int .u8 p5.drp,AV.bool p5.cas],[AV.int .u8 0,AV.ints .u8 64 (li (List.replicate 64 0)),AV.u64 0,AV.ints .u8 12 (li [0,0,0,0,0,0,0,0,0,0,0,0]),AV.int .u8 0,AV.ints .i8 4 (li [0,0,0,0]),AV.int .i8 0,AV.ints .u8 2 (li [0,0]),AV.int .i64 0,AV.int .i64 0],(pc y.snd.snd (pc p6 [AV.int .i8 p7.frm,AV.int .i8 p7.to,AV.int .u8 p7.pro,AV.int .u8 p7.drp,AV.bool p7.cas,AV.int .i64 p8]))] [] [] 0 0 0))
noncomputable def st17_6 (p1:Int) (p2:Int) (p3:(List Int)) (p4:Pos) (p5:Mv) (p6:Pos) (p7:Mv) (p8:Int) (x:(Int×Pos)):Stp (Int×Pos) ((Int×Bool×Pos)):=(bif decide (x.fst < 2) then (bif decide (p3.getD x.fst.toNat 0 < 0) then (Stp.go (wr .i64 (x.fst+1),x.snd)) else (bif decide (p3.getD x.fst.toNat 0 > 7) then (Stp.go (wr .i64 (x.fst+1),x.snd)) else (bif p8==wr .i64 (wr .i64 (56 * wr .i64 p1)+wr .i64 (p3.getD x.fst.toNat 0)) then (Stp.go (wr .i64 (x.fst+1),Pos.mk x.snd.variant x.snd.board x.snd.promoted x.snd.pockets x.snd.turn (x.snd.rooks.set (scale 2 p1+scale 1 x.fst).toNat (-1)) x.snd.passing x.snd.checks x.snd.half x.snd.full)) else (bif p7.drp==0 then (bif wr .i64 p7.frm==wr .i64 (wr .i64 (56 * wr .i64 p1)+wr .i64 (p3.getD x.fst.toNat 0)) then (Stp.go (wr .i64 (x.fst+1),Pos.mk x.snd.variant x.snd.board x.snd.promoted x.snd.pockets x.snd.turn (x.snd.rooks.set (scale 2 p1+scale 1 x.fst).toNat (-1)) x.snd.passing x.snd.checks x.snd.half x.snd.full)) else (bif decide (p2 < 0) then (Stp.go (wr .i64 (x.fst+1),Pos.mk x.snd.variant x.snd.board x.snd.promoted x.snd.pockets x.snd.turn (x.snd.rooks.set (scale 2 p1+scale 1 x.fst).toNat (-1)) x.snd.passing x.snd.checks x.snd.half x.snd.full)) else (bif wr .i64 (p2.tdiv 8) != wr .i64 (7 * wr .i64 p1) then (Stp.go (wr .i64 (x.fst+1),Pos.mk x.snd.variant x.snd.board x.snd.promoted x.snd.pockets x.snd.turn (x.snd.rooks.set (scale 2 p1+scale 1 x.fst).toNat (-1)) x.snd.passing x.snd.checks x.snd.half x.snd.full)) else (bif x.snd.board.getD (scale 1 (wr .i64 (wr .i64 (56 * wr .i64 p1)+wr .i64 (p3.getD x.fst.toNat 0)))).toNat 0 != N93 p1 4 then (Stp.go (wr .i64 (x.fst+1),Pos.mk x.snd.variant x.snd.board x.snd.promoted x.snd.pockets x.snd.turn (x.snd.rooks.set (scale 2 p1+scale 1 x.fst).toNat (-1)) x.snd.passing x.snd.checks x.snd.half x.snd.full)) else (Stp.go (wr .i64 (x.fst+1),x.snd)))))) else (bif decide (p2 < 0) then (Stp.go (wr .i64 (x.fst+1),Pos.mk x.snd.variant x.snd.board x.snd.promoted x.snd.pockets x.snd.turn (x.snd.rooks.set (scale 2 p1+scale 1 x.fst).toNat (-1)) x.snd.passing x.snd.checks x.snd.half x.snd.full)) else (bif wr .i64 (p2.tdiv 8) != wr .i64 (7 * wr .i64 p1) then (Stp.go (wr .i64 (x.fst+1),Pos.mk x.snd.variant x.snd.board x.snd.promoted x.snd.pockets x.snd.turn (x.snd.rooks.set (scale 2 p1+scale 1 x.fst).toNat (-1)) x.snd.passing x.snd.checks x.snd.half x.snd.full)) else (bif x.snd.board.getD (scale 1 (wr .i64 (wr .i64 (56 * wr .i64 p1)+wr .i64 (p3.getD x.fst.toNat 0)))).toNat 0 != N93 p1 4 then (Stp.go (wr .i64 (x.fst+1),Pos.mk x.snd.variant x.snd.board x.snd.promoted x.snd.pockets x.snd.turn (x.snd.rooks.set (scale 2 p1+scale 1 x.fst).toNat (-1)) x.snd.passing x.snd.checks x.snd.half x.snd.full)) else (Stp.go (wr .i64 (x.fst+1),x.snd))))))))) else (Stp.out ((x.fst,decide (x.fst < 2),x.snd))))
noncomputable def okL17_6 (p1:Int) (p2:Int) (p3:(List Int)) (p4:Pos) (p5:Mv) (p6:Pos) (p7:Mv) (p8:Int) (x:(Int×Pos)):Bool:=(bif decide (x.fst < 2) then (decide (0≤x.fst)&&decide (x.fst < Int.ofNat 2)&&(bif decide (p3.getD x.fst.toNat 0 < 0) then true else (bif decide (p3.getD x.fst.toNat 0 > 7) then true else (bif p8==wr .i64 (wr .i64 (56 * wr .i64 p1)+wr .i64 (p3.getD x.fst.toNat 0)) then (decide (0≤p1)&&decide (p1 < Int.ofNat 2)&&(decide (0≤x.fst)&&decide (x.fst < Int.ofNat 2)&&true)) else (bif p7.drp==0 then (bif wr .i64 p7.frm==wr .i64 (wr .i64 (56 * wr .i64 p1)+wr .i64 (p3.getD x.fst.toNat 0)) then (decide (0≤p1)&&decide (p1 < Int.ofNat 2)&&(decide (0≤x.fst)&&decide (x.fst < Int.ofNat 2)&&true)) else (bif decide (p2 < 0) then (decide (0≤p1)&&decide (p1 < Int.ofNat 2)&&(decide (0≤x.fst)&&decide (x.fst < Int.ofNat 2)&&true)) else (bif wr .i64 (p2.tdiv 8) != wr .i64 (7 * wr .i64 p1) then (decide (0≤p1)&&decide (p1 < Int.ofNat 2)&&(decide (0≤x.fst)&&decide (x.fst < Int.ofNat 2)&&true)) else (decide (0≤wr .i64 (wr .i64 (56 * wr .i64 p1)+wr .i64 (p3.getD x.fst.toNat 0)))&&decide (wr .i64 (wr .i64 (56 * wr .i64 p1)+wr .i64 (p3.getD x.fst.toNat 0)) < Int.ofNat 64)&&(bif x.snd.board.getD (scale 1 (wr .i64 (wr .i64 (56 * wr .i64 p1)+wr .i64 (p3.getD x.fst.toNat 0)))).toNat 0 != N93 p1 4 then (decide (0≤p1)&&decide (p1 < Int.ofNat 2)&&(decide (0≤x.fst)&&decide (x.fst < Int.ofNat 2)&&true)) else true))))) else (bif decide (p2 < 0) then (decide (0≤p1)&&decide (p1 < Int.ofNat 2)&&(decide (0≤x.fst)&&decide (x.fst < Int.ofNat 2)&&true)) else (bif wr .i64 (p2.tdiv 8) != wr .i64 (7 * wr .i64 p1) then (decide (0≤p1)&&decide (p1 < Int.ofNat 2)&&(decide (0≤x.fst)&&decide (x.fst < Int.ofNat 2)&&true)) else (decide (0≤wr .i64 (wr .i64 (56 * wr .i64 p1)+wr .i64 (p3.getD x.fst.toNat 0)))&&decide (wr .i64 (wr .i64 (56 * wr .i64 p1)+wr .i64 (p3.getD x.fst.toNat 0)) < Int.ofNat 64)&&(bif x.snd.board.getD (scale 1 (wr .i64 (wr .i64 (56 * wr .i64 p1)+wr .i64 (p3.getD x.fst.toNat 0)))).toNat 0 != N93 p1 4 then (decide (0≤p1)&&decide (p1 < Int.ofNat 2)&&(decide (0≤x.fst)&&decide (x.fst < Int.ofNat 2)&&true)) else true))))))))) else true)
noncomputable def lp17_6 (p1:Int) (p2:Int) (p3:(List Int)) (p4:Pos) (p5:Mv) (p6:Pos) (p7:Mv) (p8:Int) (x:(Int×Pos)):Option ((Int×Bool×Pos)):=itl (fun x=>bif okL17_6 p1 p2 p3 p4 p5 p6 p7 p8 x then st17_6 p1 p2 p3 p4 p5 p6 p7 p8 x else .bad) many x
abbrev D17_6 {α:Type} (k:Int→Int→(List Int)→Pos→Mv→Pos→Mv→Int→(Int×Pos)→α) (s:St):α:=wP s 0 fun q0=>wP s 3 fun q3=>wM s 1 fun q1=>k (tI (tT s 2)) (tI (tT s 3)) (tN (tX (tA (tT s 46)) 0)) q0 q1 (Kz.Pos.mk (tI (tH s 3 10)) (tN (tH s 3 11)) (tU (tH s 3 12)) (tN (tH s 3 13)) (tI (tH s 3 14)) (tN (tH s 3 15)) (tI (tH s 3 16)) (tN (tH s 3 17)) (tI (tH s 3 18)) (tI (tH s 3 19))) (Kz.Mv.mk (tI (tH s 3 20)) (tI (tH s 3 21)) (tI (tH s 3 22)) (tI (tH s 3 23)) (tB (tH s 3 24))) (tI (tH s 3 25)) ((tI (tT s 47)),q3)
theorem L17_6 (p1:Int) (p2:Int) (p3:(List Int)) (p4:Pos) (p5:Mv) (p6:Pos) (p7:Mv) (p8:Int) (x:(Int×Pos)) (r:(Int×Bool×Pos)) (h:lp17_6 p1 p2 p3 p4 p5 p6 p7 p8 x=some r):LSpec Pz (bodL Pz 43 7) (S17_6 p1 p2 p3 p4 p5 p6 p7 p8 x) (O17_6 p1 p2 p3 p4 p5 p6 p7 p8 r):=LSpec.smd (m:=12) (fn:=43) hB17_6 (D17_6 fun _ _ _ _ _ _ _ _ x=>some x) (fun o=>match o with | .exit 2 s=>wP s 3 fun q3=>some ((tI (tT s 47)),(tB (tT s 48)),q3) | _=>none) (fun _=>rfl) (fun _=>by kernel_rfl) (fun _=>by kernel_rfl) (fun _=>by kernel_rfl) (fun _=>by kernel_rfl) many x r h
noncomputable def F17_6 (b:Code) (s:St):Tr Out:=D17_6 (fun p1 p2 p3 p4 p5 p6 p7 p8 x=>lk1 b (bodL Pz 43 7) s (S17_6 p1 p2 p3 p4 p5 p6 p7 p8 x) (lp17_6 p1 p2 p3 p4 p5 p6 p7 p8 x) (O17_6 p1 p2 p3 p4 p5 p6 p7 p8)) s
theorem sF17_6:∀ b,LSound Pz b (F17_6 b):=fun _ _ _ h=>lk1_ok (L17_6 _ _ _ _ _ _ _ _ _) h
noncomputable def B17_7:Base:=baseOf Pz (fun f i=>lkC f i K17) [(103,G103),(38,G38),(37,G37),(39,G39),(101,G101),(89,G89),(91,G91),(92,G92),(93,G93),(95,G95),(96,G96),(97,G97),(99,G99),(100,G100),(102,G102)] [(42,2,F17_3),(43,7,F17_6)] [(40,FF17_1),(41,FF17_2),(42,FF17_4)]
theorem hB17_7:BOk B17_7:=base_ok named_z ⟨s103,s38,s37,s39,s101,s89,s91,s92,s93,s95,s96,s97,s99,s100,s102,trivial⟩ ⟨sF17_3,sF17_6,trivial⟩ ⟨sFF17_1,sFF17_2,sFF17_4,trivial⟩
noncomputable def S17_7 (p1:Pos) (p2:Mv) (p3:Pos) (p4:Mv) (p5:Int) (x:(Int×Pos)):St:=St.mk (AV.ptr 3 0::AV.any::AV.int .u8 x.fst::(an 118 [])) (Hp.mk [(pc p1 []),[AV.int .i8 p2.frm,AV.int .i8 p2.to,AV.int .u8 p2.pro,AV.int .u8 p2.drp,AV.bool p2.cas],[AV.int .u8 0,AV.ints .u8 64 (li (List.replicate 64 0)),AV.u64 0,AV.ints .u8 12 (li [0,0,0,0,0,0,0,0,0,0,0,0]),AV.int .u8 0,AV.ints .i8 4 (li [0,0,0,0]),AV.int .i8 0,AV.ints .u8 2 (li [0,0]),AV.int .i64 0,AV.int .i64 0],(pc x.snd (pc p3 [AV.int .i8 p4.frm,AV.int .i8 p4.to,AV.int .u8 p4.pro,AV.int .u8 p4.drp,AV.bool p4.cas,AV.int .i64 p5]))] [] [] 0 0 0)
noncomputable def O17_7 (p1:Pos) (p2:Mv) (p3:Pos) (p4:Mv) (p5:Int):(Int×Bool×Pos)→Out:=fun y=>.exit 0 (St.mk (AV.ptr 3 0::AV.any::AV.int .u8 y.fst::(an 28 (AV.bool y.snd.fst::(an 89 [])))) (Hp.mk [(pc p1 []),[AV.int .i8 p2.frm,AV.int .i8 p2.to,AV.int .u8 p2.pro,AV.int .u8 p2.drp,AV.bool p2.cas],[AV.int .u8 0,AV.ints .u8 64 (li (List.replicate 64 0)),AV.u64 0,AV.ints .u8 12 (li [0,0,0,0,0,0,0,0,0,0,0,0]),AV.int .u8 0,AV.ints .i8 4 (li [0,0,0,0]),AV.int .i8 0,AV.ints .u8 2 (li [0,0]),AV.int .i64 0,AV.int .i64 0],(pc y.snd.snd (pc p3 [AV.int .i8 p4.frm,AV.int .i8 p4.to,AV.int .u8 p4.pro,AV.int .u8 p4.drp,AV.bool p4.cas,AV.int .i64 p5]))] [] [] 0 0 0))
noncomputable def st17_7 (p1:Pos) (p2:Mv) (p3:Pos) (p4:Mv) (p5:Int) (x:(Int×Pos)):Stp (Int×Pos) ((Int×Bool×Pos)):=(bif decide (x.fst≤1) then (Stp.go (wr .u8 (x.fst+1),((lp17_6 x.fst (N99 x.snd x.fst 6) (List.take 2 (List.drop (scale 2 x.fst).toNat x.snd.rooks)) p1 p2 p3 p4 p5 (0,x.snd)).getD default).snd.snd)) else (Stp.out ((x.fst,decide (x.fst≤1),x.snd))))
noncomputable def okL17_7 (p1:Pos) (p2:Mv) (p3:Pos) (p4:Mv) (p5:Int) (x:(Int×Pos)):Bool:=(bif decide (x.fst≤1) then (ok99 (x.snd) (x.fst) (6)&&(decide (0≤x.fst)&&decide (x.fst < Int.ofNat 2)&&((lp17_6 x.fst (N99 x.snd x.fst 6) (List.take 2 (List.drop (scale 2 x.fst).toNat x.snd.rooks)) p1 p2 p3 p4 p5 (0,x.snd)).isSome&&true))) else true)
noncomputable def lp17_7 (p1:Pos) (p2:Mv) (p3:Pos) (p4:Mv) (p5:Int) (x:(Int×Pos)):Option ((Int×Bool×Pos)):=itl (fun x=>bif okL17_7 p1 p2 p3 p4 p5 x then st17_7 p1 p2 p3 p4 p5 x else .bad) many x
abbrev D17_7 {α:Type} (k:Pos→Mv→Pos→Mv→Int→(Int×Pos)→α) (s:St):α:=wP s 0 fun q0=>wP s 3 fun q3=>wM s 1 fun q1=>k q0 q1 (Kz.Pos.mk (tI (tH s 3 10)) (tN (tH s 3 11)) (tU (tH s 3 12)) (tN (tH s 3 13)) (tI (tH s 3 14)) (tN (tH s 3 15)) (tI (tH s 3 16)) (tN (tH s 3 17)) (tI (tH s 3 18)) (tI (tH s 3 19))) (Kz.Mv.mk (tI (tH s 3 20)) (tI (tH s 3 21)) (tI (tH s 3 22)) (tI (tH s 3 23)) (tB (tH s 3 24))) (tI (tH s 3 25)) ((tI (tT s 2)),q3)
theorem L17_7 (p1:Pos) (p2:Mv) (p3:Pos) (p4:Mv) (p5:Int) (x:(Int×Pos)) (r:(Int×Bool×Pos)) (h:lp17_7 p1 p2 p3 p4 p5 x=some r):LSpec Pz (bodL Pz 43 3) (S17_7 p1 p2 p3 p4 p5 x) (O17_7 p1 p2 p3 p4 p5 r):=LSpec.smd (m:=12) (fn:=43) hB17_7 (D17_7 fun _ _ _ _ _ x=>some x) (fun o=>match o with | .exit 0 s=>wP s 3 fun q3=>some ((tI (tT s 2)),(tB (tT s 31)),q3) | _=>none) (fun _=>rfl) (fun _=>by kernel_rfl) (fun _=>by kernel_rfl) (fun _=>by kernel_rfl) (fun _=>by kernel_rfl) many x r h
noncomputable def F17_7 (b:Code) (s:St):Tr Out:=D17_7 (fun p1 p2 p3 p4 p5 x=>lk1 b (bodL Pz 43 3) s (S17_7 p1 p2 p3 p4 p5 x) (lp17_7 p1 p2 p3 p4 p5 x) (O17_7 p1 p2 p3 p4 p5)) s
theorem sF17_7:∀ b,LSound Pz b (F17_7 b):=fun _ _ _ h=>lk1_ok (L17_7 _ _ _ _ _ _) h
noncomputable def B17_8:Base:=baseOf Pz (fun f i=>lkC f i K17) [(103,G103),(38,G38),(37,G37),(39,G39),(101,G101),(89,G89),(91,G91),(92,G92),(93,G93),(95,G95),(96,G96),(97,G97),(99,G99),(100,G100),(102,G102)] [(42,2,F17_3),(43,7,F17_6),(43,3,F17_7)] [(40,FF17_1),(41,FF17_2),(42,FF17_4)]
theorem hB17_8:BOk B17_8:=base_ok named_z ⟨s103,s38,s37,s39,s101,s89,s91,s92,s93,s95,s96,s97,s99,s100,s102,trivial⟩ ⟨sF17_3,sF17_6,sF17_7,trivial⟩ ⟨sFF17_1,sFF17_2,sFF17_4,trivial⟩
noncomputable def A17_8 (p1:Pos) (p2:Mv) (p3:Pos) (p4:Pos) (p5:Mv) (p6:Int):List AV:=[AV.ptr 3 0]
noncomputable def H17_8 (p1:Pos) (p2:Mv) (p3:Pos) (p4:Pos) (p5:Mv) (p6:Int):Hp:=Hp.mk [(pc p1 []),[AV.int .i8 p2.frm,AV.int .i8 p2.to,AV.int .u8 p2.pro,AV.int .u8 p2.drp,AV.bool p2.cas],[AV.int .u8 0,AV.ints .u8 64 (li (List.replicate 64 0)),AV.u64 0,AV.ints .u8 12 (li [0,0,0,0,0,0,0,0,0,0,0,0]),AV.int .u8 0,AV.ints .i8 4 (li [0,0,0,0]),AV.int .i8 0,AV.ints .u8 2 (li [0,0]),AV.int .i64 0,AV.int .i64 0],(pc p3 (pc p4 [AV.int .i8 p5.frm,AV.int .i8 p5.to,AV.int .u8 p5.pro,AV.int .u8 p5.drp,AV.bool p5.cas,AV.int .i64 p6]))] [] [] 0 0 0
noncomputable def O17_8 (p1:Pos) (p2:Mv) (p3:Pos) (p4:Pos) (p5:Mv) (p6:Int) (y:(Pos)):FRes := .ret (AV.tuple []) (Hp.mk [(pc p1 []),[AV.int .i8 p2.frm,AV.int .i8 p2.to,AV.int .u8 p2.pro,AV.int .u8 p2.drp,AV.bool p2.cas],[AV.int .u8 0,AV.ints .u8 64 (li (List.replicate 64 0)),AV.u64 0,AV.ints .u8 12 (li [0,0,0,0,0,0,0,0,0,0,0,0]),AV.int .u8 0,AV.ints .i8 4 (li [0,0,0,0]),AV.int .i8 0,AV.ints .u8 2 (li [0,0]),AV.int .i64 0,AV.int .i64 0],(pc y (pc p4 [AV.int .i8 p5.frm,AV.int .i8 p5.to,AV.int .u8 p5.pro,AV.int .u8 p5.drp,AV.bool p5.cas,AV.int .i64 p6]))] [] [] 0 0 0)
noncomputable def vF17_8 (p1:Pos) (p2:Mv) (p3:Pos) (p4:Pos) (p5:Mv) (p6:Int):(Pos):=(bif p5.drp != 0 then (bif p5.drp==6 then (bif p5.drp==0 then (((lp17_7 p1 p2 p4 p5 p6 (0,Pos.mk p3.variant p3.board p3.promoted p3.pockets p3.turn (List.take (scale 2 p3.turn).toNat p3.rooks++li [-1,-1]++List.drop ((scale 2 p3.turn).toNat+2) p3.rooks) p3.passing p3.checks p3.half p3.full)).getD default).snd.snd) else (((lp17_7 p1 p2 p4 p5 p6 (0,p3)).getD default).snd.snd)) else (((lp17_7 p1 p2 p4 p5 p6 (0,p3)).getD default).snd.snd)) else (bif N89 (p4.board.getD (scale 1 p5.frm).toNat 0)==6 then (bif p5.drp==0 then (((lp17_7 p1 p2 p4 p5 p6 (0,Pos.mk p3.variant p3.board p3.promoted p3.pockets p3.turn (List.take (scale 2 p3.turn).toNat p3.rooks++li [-1,-1]++List.drop ((scale 2 p3.turn).toNat+2) p3.rooks) p3.passing p3.checks p3.half p3.full)).getD default).snd.snd) else (((lp17_7 p1 p2 p4 p5 p6 (0,p3)).getD default).snd.snd)) else (((lp17_7 p1 p2 p4 p5 p6 (0,p3)).getD default).snd.snd)))
noncomputable def okF17_8 (p1:Pos) (p2:Mv) (p3:Pos) (p4:Pos) (p5:Mv) (p6:Int):Bool:=(bif p5.drp != 0 then (bif p5.drp==6 then (bif p5.drp==0 then (decide (0≤p3.turn)&&decide (p3.turn < Int.ofNat 2)&&((lp17_7 p1 p2 p4 p5 p6 (0,Pos.mk p3.variant p3.board p3.promoted p3.pockets p3.turn (List.take (scale 2 p3.turn).toNat p3.rooks++li [-1,-1]++List.drop ((scale 2 p3.turn).toNat+2) p3.rooks) p3.passing p3.checks p3.half p3.full)).isSome&&true)) else ((lp17_7 p1 p2 p4 p5 p6 (0,p3)).isSome&&true)) else ((lp17_7 p1 p2 p4 p5 p6 (0,p3)).isSome&&true)) else (decide (0≤p5.frm)&&decide (p5.frm < Int.ofNat 64)&&(bif N89 (p4.board.getD (scale 1 p5.frm).toNat 0)==6 then (bif p5.drp==0 then (decide (0≤p3.turn)&&decide (p3.turn < Int.ofNat 2)&&((lp17_7 p1 p2 p4 p5 p6 (0,Pos.mk p3.variant p3.board p3.promoted p3.pockets p3.turn (List.take (scale 2 p3.turn).toNat p3.rooks++li [-1,-1]++List.drop ((scale 2 p3.turn).toNat+2) p3.rooks) p3.passing p3.checks p3.half p3.full)).isSome&&true)) else ((lp17_7 p1 p2 p4 p5 p6 (0,p3)).isSome&&true)) else ((lp17_7 p1 p2 p4 p5 p6 (0,p3)).isSome&&true))))
abbrev DF17_8 {α:Type} (k:Pos→Mv→Pos→Pos→Mv→Int→α) (s:St):α:=wP s 0 fun q0=>wP s 3 fun q3=>wM s 1 fun q1=>k q0 q1 q3 (Kz.Pos.mk (tI (tH s 3 10)) (tN (tH s 3 11)) (tU (tH s 3 12)) (tN (tH s 3 13)) (tI (tH s 3 14)) (tN (tH s 3 15)) (tI (tH s 3 16)) (tN (tH s 3 17)) (tI (tH s 3 18)) (tI (tH s 3 19))) (Kz.Mv.mk (tI (tH s 3 20)) (tI (tH s 3 21)) (tI (tH s 3 22)) (tI (tH s 3 23)) (tB (tH s 3 24))) (tI (tH s 3 25))
theorem PF17_8 (p1:Pos) (p2:Mv) (p3:Pos) (p4:Pos) (p5:Mv) (p6:Int) (h:okF17_8 p1 p2 p3 p4 p5 p6=true):FSpec Pz 43 (A17_8 p1 p2 p3 p4 p5 p6) (H17_8 p1 p2 p3 p4 p5 p6) (O17_8 p1 p2 p3 p4 p5 p6 (vF17_8 p1 p2 p3 p4 p5 p6))∧∃ fn,Pz.funcs[43]?=some fn∧fn.body.isSome=true:=fs_sumd (n:=14) (O:=O17_8 p1 p2 p3 p4 p5 p6) hB17_8 (fun o=>match o with | .ret v h=>(let s:St:=⟨[v],h⟩; wP s 3 fun q3=>some q3) | _=>none) (fun _=>rfl) (by kernel_rfl) (by kernel_rfl) (by kernel_rfl) (by kernel_rfl) h
noncomputable def FF17_8 (xs:List AV) (h:Hp):Tr FRes:=DF17_8 (fun p1 p2 p3 p4 p5 p6=>fk xs h (A17_8 p1 p2 p3 p4 p5 p6) (H17_8 p1 p2 p3 p4 p5 p6) (okF17_8 p1 p2 p3 p4 p5 p6) (O17_8 p1 p2 p3 p4 p5 p6) (vF17_8 p1 p2 p3 p4 p5 p6)) ⟨xs,h⟩
theorem sFF17_8:FSound Pz 43 FF17_8:=fun _ _ _ h=>fk_ok (PF17_8 _ _ _ _ _ _) h
noncomputable def B17_9:Base:=baseOf Pz (fun f i=>lkC f i K17) [(103,G103),(38,G38),(37,G37),(39,G39),(101,G101),(89,G89),(91,G91),(92,G92),(93,G93),(95,G95),(96,G96),(97,G97),(99,G99),(100,G100),(102,G102)] [(42,2,F17_3),(43,7,F17_6),(43,3,F17_7)] [(40,FF17_1),(41,FF17_2),(42,FF17_4),(43,FF17_8)]
theorem hB17_9:BOk B17_9:=base_ok named_z ⟨s103,s38,s37,s39,s101,s89,s91,s92,s93,s95,s96,s97,s99,s100,s102,trivial⟩ ⟨sF17_3,sF17_6,sF17_7,trivial⟩ ⟨sFF17_1,sFF17_2,sFF17_4,sFF17_8,trivial⟩
noncomputable def A17_9 (p1:Pos) (p2:Mv) (p3:Pos) (p4:Pos) (p5:Mv) (p6:Int):List AV:=[AV.ptr 3 0]
noncomputable def H17_9 (p1:Pos) (p2:Mv) (p3:Pos) (p4:Pos) (p5:Mv) (p6:Int):Hp:=Hp.mk [(pc p1 []),[AV.int .i8 p2.frm,AV.int .i8 p2.to,AV.int .u8 p2.pro,AV.int .u8 p2.drp,AV.bool p2.cas],[AV.int .u8 0,AV.ints .u8 64 (li (List.replicate 64 0)),AV.u64 0,AV.ints .u8 12 (li [0,0,0,0,0,0,0,0,0,0,0,0]),AV.int .u8 0,AV.ints .i8 4 (li [0,0,0,0]),AV.int .i8 0,AV.ints .u8 2 (li [0,0]),AV.int .i64 0,AV.int .i64 0],(pc p3 (pc p4 [AV.int .i8 p5.frm,AV.int .i8 p5.to,AV.int .u8 p5.pro,AV.int .u8 p5.drp,AV.bool p5.cas,AV.int .i64 p6]))] [] [] 0 0 0
noncomputable def O17_9 (p1:Pos) (p2:Mv) (p3:Pos) (p4:Pos) (p5:Mv) (p6:Int) (y:(Pos)):FRes := .ret (AV.tuple []) (Hp.mk [(pc p1 []),[AV.int .i8 p2.frm,AV.int .i8 p2.to,AV.int .u8 p2.pro,AV.int .u8 p2.drp,AV.bool p2.cas],[AV.int .u8 0,AV.ints .u8 64 (li (List.replicate 64 0)),AV.u64 0,AV.ints .u8 12 (li [0,0,0,0,0,0,0,0,0,0,0,0]),AV.int .u8 0,AV.ints .i8 4 (li [0,0,0,0]),AV.int .i8 0,AV.ints .u8 2 (li [0,0]),AV.int .i64 0,AV.int .i64 0],(pc y (pc p4 [AV.int .i8 p5.frm,AV.int .i8 p5.to,AV.int .u8 p5.pro,AV.int .u8 p5.drp,AV.bool p5.cas,AV.int .i64 p6]))] [] [] 0 0 0)
noncomputable def vF17_9 (p1:Pos) (p2:Mv) (p3:Pos) (p4:Pos) (p5:Mv) (p6:Int):(Pos):=(bif p5.drp != 0 then (bif p5.drp != 1 then (Pos.mk p3.variant p3.board p3.promoted p3.pockets p3.turn p3.rooks (-1) p3.checks p3.half p3.full) else (bif p5.drp != 0 then (Pos.mk p3.variant p3.board p3.promoted p3.pockets p3.turn p3.rooks (-1) p3.checks p3.half p3.full) else (bif wr .i8 (p5.to - p5.frm) != 16 then (bif wr .i8 (p5.frm - p5.to) != 16 then (Pos.mk p3.variant p3.board p3.promoted p3.pockets p3.turn p3.rooks (-1) p3.checks p3.half p3.full) else (bif wr .i8 (p5.frm.tdiv 8) != wr .i8 (wr .i8 (7 * wr .i8 p3.turn)+1) then (bif wr .i8 (p5.frm.tdiv 8) != wr .i8 (wr .i8 (7 * wr .i8 p3.turn) - 1) then (Pos.mk p3.variant p3.board p3.promoted p3.pockets p3.turn p3.rooks (-1) p3.checks p3.half p3.full) else (bif N100 p3.turn (wr .i64 (wr .i8 ((wr .i8 (p5.frm+p5.to)).tdiv 2)))&&&N101 (Pos.mk p3.variant p3.board p3.promoted p3.pockets p3.turn p3.rooks (-1) p3.checks p3.half p3.full) (wr .u8 (1 - p3.turn)) 1 != 0#64 then (Pos.mk p3.variant p3.board p3.promoted p3.pockets p3.turn p3.rooks (wr .i8 ((wr .i8 (p5.frm+p5.to)).tdiv 2)) p3.checks p3.half p3.full) else (Pos.mk p3.variant p3.board p3.promoted p3.pockets p3.turn p3.rooks (-1) p3.checks p3.half p3.full))) else (bif N100 p3.turn (wr .i64 (wr .i8 ((wr .i8 (p5.frm+p5.to)).tdiv 2)))&&&N101 (Pos.mk p3.variant p3.board p3.promoted p3.pockets p3.turn p3.rooks (-1) p3.checks p3.half p3.full) (wr .u8 (1 - p3.turn)) 1 != 0#64 then (Pos.mk p3.variant p3.board p3.promoted p3.pockets p3.turn p3.rooks (wr .i8 ((wr .i8 (p5.frm+p5.to)).tdiv 2)) p3.checks p3.half p3.full) else (Pos.mk p3.variant p3.board p3.promoted p3.pockets p3.turn p3.rooks (-1) p3.checks p3.half p3.full)))) else (bif wr .i8 (p5.frm.tdiv 8) != wr .i8 (wr .i8 (7 * wr .i8 p3.turn)+1) then (bif wr .i8 (p5.frm.tdiv 8) != wr .i8 (wr .i8 (7 * wr .i8 p3.turn) - 1) then (Pos.mk p3.variant p3.board p3.promoted p3.pockets p3.turn p3.rooks (-1) p3.checks p3.half p3.full) else (bif N100 p3.turn (wr .i64 (wr .i8 ((wr .i8 (p5.frm+p5.to)).tdiv 2)))&&&N101 (Pos.mk p3.variant p3.board p3.promoted p3.pockets p3.turn p3.rooks (-1) p3.checks p3.half p3.full) (wr .u8 (1 - p3.turn)) 1 != 0#64 then (Pos.mk p3.variant p3.board p3.promoted p3.pockets p3.turn p3.rooks (wr .i8 ((wr .i8 (p5.frm+p5.to)).tdiv 2)) p3.checks p3.half p3.full) else (Pos.mk p3.variant p3.board p3.promoted p3.pockets p3.turn p3.rooks (-1) p3.checks p3.half p3.full))) else (bif N100 p3.turn (wr .i64 (wr .i8 ((wr .i8 (p5.frm+p5.to)).tdiv 2)))&&&N101 (Pos.mk p3.variant p3.board p3.promoted p3.pockets p3.turn p3.rooks (-1) p3.checks p3.half p3.full) (wr .u8 (1 - p3.turn)) 1 != 0#64 then (Pos.mk p3.variant p3.board p3.promoted p3.pockets p3.turn p3.rooks (wr .i8 ((wr .i8 (p5.frm+p5.to)).tdiv 2)) p3.checks p3.half p3.full) else (Pos.mk p3.variant p3.board p3.promoted p3.pockets p3.turn p3.rooks (-1) p3.checks p3.half p3.full)))))) else (bif N89 (p4.board.getD (scale 1 p5.frm).toNat 0) != 1 then (Pos.mk p3.variant p3.board p3.promoted p3.pockets p3.turn p3.rooks (-1) p3.checks p3.half p3.full) else (bif p5.drp != 0 then (Pos.mk p3.variant p3.board p3.promoted p3.pockets p3.turn p3.rooks (-1) p3.checks p3.half p3.full) else (bif wr .i8 (p5.to - p5.frm) != 16 then (bif wr .i8 (p5.frm - p5.to) != 16 then (Pos.mk p3.variant p3.board p3.promoted p3.pockets p3.turn p3.rooks (-1) p3.checks p3.half p3.full) else (bif wr .i8 (p5.frm.tdiv 8) != wr .i8 (wr .i8 (7 * wr .i8 p3.turn)+1) then (bif wr .i8 (p5.frm.tdiv 8) != wr .i8 (wr .i8 (7 * wr .i8 p3.turn) - 1) then (Pos.mk p3.variant p3.board p3.promoted p3.pockets p3.turn p3.rooks (-1) p3.checks p3.half p3.full) else (bif N100 p3.turn (wr .i64 (wr .i8 ((wr .i8 (p5.frm+p5.to)).tdiv 2)))&&&N101 (Pos.mk p3.variant p3.board p3.promoted p3.pockets p3.turn p3.rooks (-1) p3.checks p3.half p3.full) (wr .u8 (1 - p3.turn)) 1 != 0#64 then (Pos.mk p3.variant p3.board p3.promoted p3.pockets p3.turn p3.rooks (wr .i8 ((wr .i8 (p5.frm+p5.to)).tdiv 2)) p3.checks p3.half p3.full) else (Pos.mk p3.variant p3.board p3.promoted p3.pockets p3.turn p3.rooks (-1) p3.checks p3.half p3.full))) else (bif N100 p3.turn (wr .i64 (wr .i8 ((wr .i8 (p5.frm+p5.to)).tdiv 2)))&&&N101 (Pos.mk p3.variant p3.board p3.promoted p3.pockets p3.turn p3.rooks (-1) p3.checks p3.half p3.full) (wr .u8 (1 - p3.turn)) 1 != 0#64 then (Pos.mk p3.variant p3.board p3.promoted p3.pockets p3.turn p3.rooks (wr .i8 ((wr .i8 (p5.frm+p5.to)).tdiv 2)) p3.checks p3.half p3.full) else (Pos.mk p3.variant p3.board p3.promoted p3.pockets p3.turn p3.rooks (-1) p3.checks p3.half p3.full)))) else (bif wr .i8 (p5.frm.tdiv 8) != wr .i8 (wr .i8 (7 * wr .i8 p3.turn)+1) then (bif wr .i8 (p5.frm.tdiv 8) != wr .i8 (wr .i8 (7 * wr .i8 p3.turn) - 1) then (Pos.mk p3.variant p3.board p3.promoted p3.pockets p3.turn p3.rooks (-1) p3.checks p3.half p3.full) else (bif N100 p3.turn (wr .i64 (wr .i8 ((wr .i8 (p5.frm+p5.to)).tdiv 2)))&&&N101 (Pos.mk p3.variant p3.board p3.promoted p3.pockets p3.turn p3.rooks (-1) p3.checks p3.half p3.full) (wr .u8 (1 - p3.turn)) 1 != 0#64 then (Pos.mk p3.variant p3.board p3.promoted p3.pockets p3.turn p3.rooks (wr .i8 ((wr .i8 (p5.frm+p5.to)).tdiv 2)) p3.checks p3.half p3.full) else (Pos.mk p3.variant p3.board p3.promoted p3.pockets p3.turn p3.rooks (-1) p3.checks p3.half p3.full))) else (bif N100 p3.turn (wr .i64 (wr .i8 ((wr .i8 (p5.frm+p5.to)).tdiv 2)))&&&N101 (Pos.mk p3.variant p3.board p3.promoted p3.pockets p3.turn p3.rooks (-1) p3.checks p3.half p3.full) (wr .u8 (1 - p3.turn)) 1 != 0#64 then (Pos.mk p3.variant p3.board p3.promoted p3.pockets p3.turn p3.rooks (wr .i8 ((wr .i8 (p5.frm+p5.to)).tdiv 2)) p3.checks p3.half p3.full) else (Pos.mk p3.variant p3.board p3.promoted p3.pockets p3.turn p3.rooks (-1) p3.checks p3.half p3.full)))))))
noncomputable def okF17_9 (p1:Pos) (p2:Mv) (p3:Pos) (p4:Pos) (p5:Mv) (p6:Int):Bool:=(bif p5.drp != 0 then (bif p5.drp != 1 then true else (bif p5.drp != 0 then true else (bif wr .i8 (p5.to - p5.frm) != 16 then (bif wr .i8 (p5.frm - p5.to) != 16 then true else (bif wr .i8 (p5.frm.tdiv 8) != wr .i8 (wr .i8 (7 * wr .i8 p3.turn)+1) then (bif wr .i8 (p5.frm.tdiv 8) != wr .i8 (wr .i8 (7 * wr .i8 p3.turn) - 1) then true else (ok100 (p3.turn) (wr .i64 (wr .i8 ((wr .i8 (p5.frm+p5.to)).tdiv 2)))&&(ok101 (Pos.mk p3.variant p3.board p3.promoted p3.pockets p3.turn p3.rooks (-1) p3.checks p3.half p3.full) (wr .u8 (1 - p3.turn)) (1)&&true))) else (ok100 (p3.turn) (wr .i64 (wr .i8 ((wr .i8 (p5.frm+p5.to)).tdiv 2)))&&(ok101 (Pos.mk p3.variant p3.board p3.promoted p3.pockets p3.turn p3.rooks (-1) p3.checks p3.half p3.full) (wr .u8 (1 - p3.turn)) (1)&&true)))) else (bif wr .i8 (p5.frm.tdiv 8) != wr .i8 (wr .i8 (7 * wr .i8 p3.turn)+1) then (bif wr .i8 (p5.frm.tdiv 8) != wr .i8 (wr .i8 (7 * wr .i8 p3.turn) - 1) then true else (ok100 (p3.turn) (wr .i64 (wr .i8 ((wr .i8 (p5.frm+p5.to)).tdiv 2)))&&(ok101 (Pos.mk p3.variant p3.board p3.promoted p3.pockets p3.turn p3.rooks (-1) p3.checks p3.half p3.full) (wr .u8 (1 - p3.turn)) (1)&&true))) else (ok100 (p3.turn) (wr .i64 (wr .i8 ((wr .i8 (p5.frm+p5.to)).tdiv 2)))&&(ok101 (Pos.mk p3.variant p3.board p3.promoted p3.pockets p3.turn p3.rooks (-1) p3.checks p3.half p3.full) (wr .u8 (1 - p3.turn)) (1)&&true)))))) else (decide (0≤p5.frm)&&decide (p5.frm < Int.ofNat 64)&&(bif N89 (p4.board.getD (scale 1 p5.frm).toNat 0) != 1 then true else (bif p5.drp != 0 then true else (bif wr .i8 (p5.to - p5.frm) != 16 then (bif wr .i8 (p5.frm - p5.to) != 16 then true else (bif wr .i8 (p5.frm.tdiv 8) != wr .i8 (wr .i8 (7 * wr .i8 p3.turn)+1) then (bif wr .i8 (p5.frm.tdiv 8) != wr .i8 (wr .i8 (7 * wr .i8 p3.turn) - 1) then true else (ok100 (p3.turn) (wr .i64 (wr .i8 ((wr .i8 (p5.frm+p5.to)).tdiv 2)))&&(ok101 (Pos.mk p3.variant p3.board p3.promoted p3.pockets p3.turn p3.rooks (-1) p3.checks p3.half p3.full) (wr .u8 (1 - p3.turn)) (1)&&true))) else (ok100 (p3.turn) (wr .i64 (wr .i8 ((wr .i8 (p5.frm+p5.to)).tdiv 2)))&&(ok101 (Pos.mk p3.variant p3.board p3.promoted p3.pockets p3.turn p3.rooks (-1) p3.checks p3.half p3.full) (wr .u8 (1 - p3.turn)) (1)&&true)))) else (bif wr .i8 (p5.frm.tdiv 8) != wr .i8 (wr .i8 (7 * wr .i8 p3.turn)+1) then (bif wr .i8 (p5.frm.tdiv 8) != wr .i8 (wr .i8 (7 * wr .i8 p3.turn) - 1) then true else (ok100 (p3.turn) (wr .i64 (wr .i8 ((wr .i8 (p5.frm+p5.to)).tdiv 2)))&&(ok101 (Pos.mk p3.variant p3.board p3.promoted p3.pockets p3.turn p3.rooks (-1) p3.checks p3.half p3.full) (wr .u8 (1 - p3.turn)) (1)&&true))) else (ok100 (p3.turn) (wr .i64 (wr .i8 ((wr .i8 (p5.frm+p5.to)).tdiv 2)))&&(ok101 (Pos.mk p3.variant p3.board p3.promoted p3.pockets p3.turn p3.rooks (-1) p3.checks p3.half p3.full) (wr .u8 (1 - p3.turn)) (1)&&true))))))))
abbrev DF17_9 {α:Type} (k:Pos→Mv→Pos→Pos→Mv→Int→α) (s:St):α:=wP s 0 fun q0=>wP s 3 fun q3=>wM s 1 fun q1=>k q0 q1 q3 (Kz.Pos.mk (tI (tH s 3 10)) (tN (tH s 3 11)) (tU (tH s 3 12)) (tN (tH s 3 13)) (tI (tH s 3 14)) (tN (tH s 3 15)) (tI (tH s 3 16)) (tN (tH s 3 17)) (tI (tH s 3 18)) (tI (tH s 3 19))) (Kz.Mv.mk (tI (tH s 3 20)) (tI (tH s 3 21)) (tI (tH s 3 22)) (tI (tH s 3 23)) (tB (tH s 3 24))) (tI (tH s 3 25))
theorem PF17_9 (p1:Pos) (p2:Mv) (p3:Pos) (p4:Pos) (p5:Mv) (p6:Int) (h:okF17_9 p1 p2 p3 p4 p5 p6=true):FSpec Pz 44 (A17_9 p1 p2 p3 p4 p5 p6) (H17_9 p1 p2 p3 p4 p5 p6) (O17_9 p1 p2 p3 p4 p5 p6 (vF17_9 p1 p2 p3 p4 p5 p6))∧∃ fn,Pz.funcs[44]?=some fn∧fn.body.isSome=true:=fs_sumd (n:=14) (O:=O17_9 p1 p2 p3 p4 p5 p6) hB17_9 (fun o=>match o with | .ret v h=>(let s:St:=⟨[v],h⟩; wP s 3 fun q3=>some q3) | _=>none) (fun _=>rfl) (by kernel_rfl) (by kernel_rfl) (by kernel_rfl) (by kernel_rfl) h
noncomputable def FF17_9 (xs:List AV) (h:Hp):Tr FRes:=DF17_9 (fun p1 p2 p3 p4 p5 p6=>fk xs h (A17_9 p1 p2 p3 p4 p5 p6) (H17_9 p1 p2 p3 p4 p5 p6) (okF17_9 p1 p2 p3 p4 p5 p6) (O17_9 p1 p2 p3 p4 p5 p6) (vF17_9 p1 p2 p3 p4 p5 p6)) ⟨xs,h⟩
theorem sFF17_9:FSound Pz 44 FF17_9:=fun _ _ _ h=>fk_ok (PF17_9 _ _ _ _ _ _) h
noncomputable def B17_10:Base:=baseOf Pz (fun f i=>lkC f i K17) [(103,G103),(38,G38),(37,G37),(39,G39),(101,G101),(89,G89),(91,G91),(92,G92),(93,G93),(95,G95),(96,G96),(97,G97),(99,G99),(100,G100),(102,G102)] [(42,2,F17_3),(43,7,F17_6),(43,3,F17_7)] [(40,FF17_1),(41,FF17_2),(42,FF17_4),(43,FF17_8),(44,FF17_9)]
theorem hB17_10:BOk B17_10:=base_ok named_z ⟨s103,s38,s37,s39,s101,s89,s91,s92,s93,s95,s96,s97,s99,s100,s102,trivial⟩ ⟨sF17_3,sF17_6,sF17_7,trivial⟩ ⟨sFF17_1,sFF17_2,sFF17_4,sFF17_8,sFF17_9,trivial⟩
noncomputable def A17_10 (p1:Pos) (p2:Mv) (p3:Pos) (p4:Pos) (p5:Mv) (p6:Int):List AV:=[AV.ptr 3 0]
noncomputable def H17_10 (p1:Pos) (p2:Mv) (p3:Pos) (p4:Pos) (p5:Mv) (p6:Int):Hp:=Hp.mk [(pc p1 []),[AV.int .i8 p2.frm,AV.int .i8 p2.to,AV.int .u8 p2.pro,AV.int .u8 p2.drp,AV.bool p2.cas],[AV.int .u8 0,AV.ints .u8 64 (li (List.replicate 64 0)),AV.u64 0,AV.ints .u8 12 (li [0,0,0,0,0,0,0,0,0,0,0,0]),AV.int .u8 0,AV.ints .i8 4 (li [0,0,0,0]),AV.int .i8 0,AV.ints .u8 2 (li [0,0]),AV.int .i64 0,AV.int .i64 0],(pc p3 (pc p4 [AV.int .i8 p5.frm,AV.int .i8 p5.to,AV.int .u8 p5.pro,AV.int .u8 p5.drp,AV.bool p5.cas,AV.int .i64 p6]))] [] [] 0 0 0
noncomputable def O17_10 (p1:Pos) (p2:Mv) (p3:Pos) (p4:Pos) (p5:Mv) (p6:Int) (y:(Pos)):FRes := .ret (AV.tuple []) (Hp.mk [(pc p1 []),[AV.int .i8 p2.frm,AV.int .i8 p2.to,AV.int .u8 p2.pro,AV.int .u8 p2.drp,AV.bool p2.cas],[AV.int .u8 0,AV.ints .u8 64 (li (List.replicate 64 0)),AV.u64 0,AV.ints .u8 12 (li [0,0,0,0,0,0,0,0,0,0,0,0]),AV.int .u8 0,AV.ints .i8 4 (li [0,0,0,0]),AV.int .i8 0,AV.ints .u8 2 (li [0,0]),AV.int .i64 0,AV.int .i64 0],(pc y (pc p4 [AV.int .i8 p5.frm,AV.int .i8 p5.to,AV.int .u8 p5.pro,AV.int .u8 p5.drp,AV.bool p5.cas,AV.int .i64 p6]))] [] [] 0 0 0)
noncomputable def vF17_10 (p1:Pos) (p2:Mv) (p3:Pos) (p4:Pos) (p5:Mv) (p6:Int):(Pos):=(bif p5.drp != 0 then (bif p5.drp==1 then (bif p3.turn==1 then (Pos.mk p3.variant p3.board p3.promoted p3.pockets p3.turn p3.rooks p3.passing p3.checks 0 (N102 p3.full)) else (Pos.mk p3.variant p3.board p3.promoted p3.pockets p3.turn p3.rooks p3.passing p3.checks 0 p3.full)) else (bif decide (p6 ≥ 0) then (bif p3.turn==1 then (Pos.mk p3.variant p3.board p3.promoted p3.pockets p3.turn p3.rooks p3.passing p3.checks 0 (N102 p3.full)) else (Pos.mk p3.variant p3.board p3.promoted p3.pockets p3.turn p3.rooks p3.passing p3.checks 0 p3.full)) else (bif p3.turn==1 then (Pos.mk p3.variant p3.board p3.promoted p3.pockets p3.turn p3.rooks p3.passing p3.checks (N102 p3.half) (N102 p3.full)) else (Pos.mk p3.variant p3.board p3.promoted p3.pockets p3.turn p3.rooks p3.passing p3.checks (N102 p3.half) p3.full)))) else (bif N89 (p4.board.getD (scale 1 p5.frm).toNat 0)==1 then (bif p3.turn==1 then (Pos.mk p3.variant p3.board p3.promoted p3.pockets p3.turn p3.rooks p3.passing p3.checks 0 (N102 p3.full)) else (Pos.mk p3.variant p3.board p3.promoted p3.pockets p3.turn p3.rooks p3.passing p3.checks 0 p3.full)) else (bif decide (p6 ≥ 0) then (bif p3.turn==1 then (Pos.mk p3.variant p3.board p3.promoted p3.pockets p3.turn p3.rooks p3.passing p3.checks 0 (N102 p3.full)) else (Pos.mk p3.variant p3.board p3.promoted p3.pockets p3.turn p3.rooks p3.passing p3.checks 0 p3.full)) else (bif p3.turn==1 then (Pos.mk p3.variant p3.board p3.promoted p3.pockets p3.turn p3.rooks p3.passing p3.checks (N102 p3.half) (N102 p3.full)) else (Pos.mk p3.variant p3.board p3.promoted p3.pockets p3.turn p3.rooks p3.passing p3.checks (N102 p3.half) p3.full)))))
noncomputable def okF17_10 (p1:Pos) (p2:Mv) (p3:Pos) (p4:Pos) (p5:Mv) (p6:Int):Bool:=(bif p5.drp != 0 then true else (decide (0≤p5.frm)&&decide (p5.frm < Int.ofNat 64)&&true))
abbrev DF17_10 {α:Type} (k:Pos→Mv→Pos→Pos→Mv→Int→α) (s:St):α:=wP s 0 fun q0=>wP s 3 fun q3=>wM s 1 fun q1=>k q0 q1 q3 (Kz.Pos.mk (tI (tH s 3 10)) (tN (tH s 3 11)) (tU (tH s 3 12)) (tN (tH s 3 13)) (tI (tH s 3 14)) (tN (tH s 3 15)) (tI (tH s 3 16)) (tN (tH s 3 17)) (tI (tH s 3 18)) (tI (tH s 3 19))) (Kz.Mv.mk (tI (tH s 3 20)) (tI (tH s 3 21)) (tI (tH s 3 22)) (tI (tH s 3 23)) (tB (tH s 3 24))) (tI (tH s 3 25))
theorem PF17_10 (p1:Pos) (p2:Mv) (p3:Pos) (p4:Pos) (p5:Mv) (p6:Int) (h:okF17_10 p1 p2 p3 p4 p5 p6=true):FSpec Pz 45 (A17_10 p1 p2 p3 p4 p5 p6) (H17_10 p1 p2 p3 p4 p5 p6) (O17_10 p1 p2 p3 p4 p5 p6 (vF17_10 p1 p2 p3 p4 p5 p6))∧∃ fn,Pz.funcs[45]?=some fn∧fn.body.isSome=true:=fs_sumd (n:=14) (O:=O17_10 p1 p2 p3 p4 p5 p6) hB17_10 (fun o=>match o with | .ret v h=>(let s:St:=⟨[v],h⟩; wP s 3 fun q3=>some q3) | _=>none) (fun _=>rfl) (by kernel_rfl) (by kernel_rfl) (by kernel_rfl) (by kernel_rfl) h
noncomputable def FF17_10 (xs:List AV) (h:Hp):Tr FRes:=DF17_10 (fun p1 p2 p3 p4 p5 p6=>fk xs h (A17_10 p1 p2 p3 p4 p5 p6) (H17_10 p1 p2 p3 p4 p5 p6) (okF17_10 p1 p2 p3 p4 p5 p6) (O17_10 p1 p2 p3 p4 p5 p6) (vF17_10 p1 p2 p3 p4 p5 p6)) ⟨xs,h⟩
theorem sFF17_10:FSound Pz 45 FF17_10:=fun _ _ _ h=>fk_ok (PF17_10 _ _ _ _ _ _) h
noncomputable def B17_11:Base:=baseOf Pz (fun f i=>lkC f i K17) [(103,G103),(38,G38),(37,G37),(39,G39),(101,G101),(89,G89),(91,G91),(92,G92),(93,G93),(95,G95),(96,G96),(97,G97),(99,G99),(100,G100),(102,G102)] [(42,2,F17_3),(43,7,F17_6),(43,3,F17_7)] [(40,FF17_1),(41,FF17_2),(42,FF17_4),(43,FF17_8),(44,FF17_9),(45,FF17_10)]
theorem hB17_11:BOk B17_11:=base_ok named_z ⟨s103,s38,s37,s39,s101,s89,s91,s92,s93,s95,s96,s97,s99,s100,s102,trivial⟩ ⟨sF17_3,sF17_6,sF17_7,trivial⟩ ⟨sFF17_1,sFF17_2,sFF17_4,sFF17_8,sFF17_9,sFF17_10,trivial⟩
noncomputable def A17_11 (p1:Pos) (p2:Mv) (p3:Pos) (p4:Pos) (p5:Mv) (p6:Int):List AV:=[AV.ptr 3 0]
noncomputable def H17_11 (p1:Pos) (p2:Mv) (p3:Pos) (p4:Pos) (p5:Mv) (p6:Int):Hp:=Hp.mk [(pc p1 []),[AV.int .i8 p2.frm,AV.int .i8 p2.to,AV.int .u8 p2.pro,AV.int .u8 p2.drp,AV.bool p2.cas],[AV.int .u8 0,AV.ints .u8 64 (li (List.replicate 64 0)),AV.u64 0,AV.ints .u8 12 (li [0,0,0,0,0,0,0,0,0,0,0,0]),AV.int .u8 0,AV.ints .i8 4 (li [0,0,0,0]),AV.int .i8 0,AV.ints .u8 2 (li [0,0]),AV.int .i64 0,AV.int .i64 0],(pc p3 (pc p4 [AV.int .i8 p5.frm,AV.int .i8 p5.to,AV.int .u8 p5.pro,AV.int .u8 p5.drp,AV.bool p5.cas,AV.int .i64 p6]))] [] [] 0 0 0
noncomputable def O17_11 (p1:Pos) (p2:Mv) (p3:Pos) (p4:Pos) (p5:Mv) (p6:Int) (y:(Pos)):FRes := .ret (AV.tuple []) (Hp.mk [(pc p1 []),[AV.int .i8 p2.frm,AV.int .i8 p2.to,AV.int .u8 p2.pro,AV.int .u8 p2.drp,AV.bool p2.cas],[AV.int .u8 0,AV.ints .u8 64 (li (List.replicate 64 0)),AV.u64 0,AV.ints .u8 12 (li [0,0,0,0,0,0,0,0,0,0,0,0]),AV.int .u8 0,AV.ints .i8 4 (li [0,0,0,0]),AV.int .i8 0,AV.ints .u8 2 (li [0,0]),AV.int .i64 0,AV.int .i64 0],(pc y (pc p4 [AV.int .i8 p5.frm,AV.int .i8 p5.to,AV.int .u8 p5.pro,AV.int .u8 p5.drp,AV.bool p5.cas,AV.int .i64 p6]))] [] [] 0 0 0)
noncomputable def vF17_11 (p1:Pos) (p2:Mv) (p3:Pos) (p4:Pos) (p5:Mv) (p6:Int):(Pos):=(bif p3.variant==5 then (bif decide (p3.checks.getD (scale 1 (wr .u8 (1 - wr .u8 (1 - p3.turn)))).toNat 0 < 3) then (bif N103 (Pos.mk p3.variant p3.board p3.promoted p3.pockets (wr .u8 (1 - p3.turn)) p3.rooks p3.passing p3.checks p3.half p3.full) (wr .u8 (1 - p3.turn)) then (Pos.mk p3.variant p3.board p3.promoted p3.pockets (wr .u8 (1 - p3.turn)) p3.rooks p3.passing (p3.checks.set (scale 1 (wr .u8 (1 - wr .u8 (1 - p3.turn)))).toNat (wr .u8 (p3.checks.getD (scale 1 (wr .u8 (1 - wr .u8 (1 - p3.turn)))).toNat 0+1))) p3.half p3.full) else (Pos.mk p3.variant p3.board p3.promoted p3.pockets (wr .u8 (1 - p3.turn)) p3.rooks p3.passing p3.checks p3.half p3.full)) else (Pos.mk p3.variant p3.board p3.promoted p3.pockets (wr .u8 (1 - p3.turn)) p3.rooks p3.passing p3.checks p3.half p3.full)) else (Pos.mk p3.variant p3.board p3.promoted p3.pockets (wr .u8 (1 - p3.turn)) p3.rooks p3.passing p3.checks p3.half p3.full))
noncomputable def okF17_11 (p1:Pos) (p2:Mv) (p3:Pos) (p4:Pos) (p5:Mv) (p6:Int):Bool:=(bif p3.variant==5 then (decide (0≤wr .u8 (1 - wr .u8 (1 - p3.turn)))&&decide (wr .u8 (1 - wr .u8 (1 - p3.turn)) < Int.ofNat 2)&&(bif decide (p3.checks.getD (scale 1 (wr .u8 (1 - wr .u8 (1 - p3.turn)))).toNat 0 < 3) then (ok103 (Pos.mk p3.variant p3.board p3.promoted p3.pockets (wr .u8 (1 - p3.turn)) p3.rooks p3.passing p3.checks p3.half p3.full) (wr .u8 (1 - p3.turn))&&(bif N103 (Pos.mk p3.variant p3.board p3.promoted p3.pockets (wr .u8 (1 - p3.turn)) p3.rooks p3.passing p3.checks p3.half p3.full) (wr .u8 (1 - p3.turn)) then (decide (0≤wr .u8 (1 - wr .u8 (1 - p3.turn)))&&decide (wr .u8 (1 - wr .u8 (1 - p3.turn)) < Int.ofNat 2)&&(decide (0≤wr .u8 (1 - wr .u8 (1 - p3.turn)))&&decide (wr .u8 (1 - wr .u8 (1 - p3.turn)) < Int.ofNat 2)&&true)) else true)) else true)) else true)
abbrev DF17_11 {α:Type} (k:Pos→Mv→Pos→Pos→Mv→Int→α) (s:St):α:=wP s 0 fun q0=>wP s 3 fun q3=>wM s 1 fun q1=>k q0 q1 q3 (Kz.Pos.mk (tI (tH s 3 10)) (tN (tH s 3 11)) (tU (tH s 3 12)) (tN (tH s 3 13)) (tI (tH s 3 14)) (tN (tH s 3 15)) (tI (tH s 3 16)) (tN (tH s 3 17)) (tI (tH s 3 18)) (tI (tH s 3 19))) (Kz.Mv.mk (tI (tH s 3 20)) (tI (tH s 3 21)) (tI (tH s 3 22)) (tI (tH s 3 23)) (tB (tH s 3 24))) (tI (tH s 3 25))
theorem PF17_11 (p1:Pos) (p2:Mv) (p3:Pos) (p4:Pos) (p5:Mv) (p6:Int) (h:okF17_11 p1 p2 p3 p4 p5 p6=true):FSpec Pz 46 (A17_11 p1 p2 p3 p4 p5 p6) (H17_11 p1 p2 p3 p4 p5 p6) (O17_11 p1 p2 p3 p4 p5 p6 (vF17_11 p1 p2 p3 p4 p5 p6))∧∃ fn,Pz.funcs[46]?=some fn∧fn.body.isSome=true:=fs_sumd (n:=14) (O:=O17_11 p1 p2 p3 p4 p5 p6) hB17_11 (fun o=>match o with | .ret v h=>(let s:St:=⟨[v],h⟩; wP s 3 fun q3=>some q3) | _=>none) (fun _=>rfl) (by kernel_rfl) (by kernel_rfl) (by kernel_rfl) (by kernel_rfl) h
noncomputable def FF17_11 (xs:List AV) (h:Hp):Tr FRes:=DF17_11 (fun p1 p2 p3 p4 p5 p6=>fk xs h (A17_11 p1 p2 p3 p4 p5 p6) (H17_11 p1 p2 p3 p4 p5 p6) (okF17_11 p1 p2 p3 p4 p5 p6) (O17_11 p1 p2 p3 p4 p5 p6) (vF17_11 p1 p2 p3 p4 p5 p6)) ⟨xs,h⟩
theorem sFF17_11:FSound Pz 46 FF17_11:=fun _ _ _ h=>fk_ok (PF17_11 _ _ _ _ _ _) h
noncomputable def B17:Base:=baseOf Pz (fun f i=>lkC f i K17) [(103,G103),(38,G38),(37,G37),(39,G39),(101,G101),(89,G89),(91,G91),(92,G92),(93,G93),(95,G95),(96,G96),(97,G97),(99,G99),(100,G100),(102,G102)] [(42,2,F17_3),(43,7,F17_6),(43,3,F17_7)] [(40,FF17_1),(41,FF17_2),(42,FF17_4),(43,FF17_8),(44,FF17_9),(45,FF17_10),(46,FF17_11)]
theorem hB17:BOk B17:=base_ok named_z ⟨s103,s38,s37,s39,s101,s89,s91,s92,s93,s95,s96,s97,s99,s100,s102,trivial⟩ ⟨sF17_3,sF17_6,sF17_7,trivial⟩ ⟨sFF17_1,sFF17_2,sFF17_4,sFF17_8,sFF17_9,sFF17_10,sFF17_11,trivial⟩
noncomputable def N17 (a:Pos) (b:Mv):(Pos×Bool):=(bif !N37 (N38 a) b then (⟨(a.variant),(a.board),(a.promoted),(a.pockets),(a.turn),(a.rooks),(a.passing),(a.checks),(a.half),(a.full)⟩,(false)) else (⟨((vF17_11 a b (vF17_10 a b (vF17_9 a b (vF17_8 a b (vF17_4 a b (vF17_2 a b (vF17_1 a b a a b (N39 a b)) a b (N39 a b)) a b (N39 a b)) a b (N39 a b)) a b (N39 a b)) a b (N39 a b)) a b (N39 a b)).variant),((vF17_11 a b (vF17_10 a b (vF17_9 a b (vF17_8 a b (vF17_4 a b (vF17_2 a b (vF17_1 a b a a b (N39 a b)) a b (N39 a b)) a b (N39 a b)) a b (N39 a b)) a b (N39 a b)) a b (N39 a b)) a b (N39 a b)).board),((vF17_11 a b (vF17_10 a b (vF17_9 a b (vF17_8 a b (vF17_4 a b (vF17_2 a b (vF17_1 a b a a b (N39 a b)) a b (N39 a b)) a b (N39 a b)) a b (N39 a b)) a b (N39 a b)) a b (N39 a b)) a b (N39 a b)).promoted),((vF17_11 a b (vF17_10 a b (vF17_9 a b (vF17_8 a b (vF17_4 a b (vF17_2 a b (vF17_1 a b a a b (N39 a b)) a b (N39 a b)) a b (N39 a b)) a b (N39 a b)) a b (N39 a b)) a b (N39 a b)) a b (N39 a b)).pockets),((vF17_11 a b (vF17_10 a b (vF17_9 a b (vF17_8 a b (vF17_4 a b (vF17_2 a b (vF17_1 a b a a b (N39 a b)) a b (N39 a b)) a b (N39 a b)) a b (N39 a b)) a b (N39 a b)) a b (N39 a b)) a b (N39 a b)).turn),((vF17_11 a b (vF17_10 a b (vF17_9 a b (vF17_8 a b (vF17_4 a b (vF17_2 a b (vF17_1 a b a a b (N39 a b)) a b (N39 a b)) a b (N39 a b)) a b (N39 a b)) a b (N39 a b)) a b (N39 a b)) a b (N39 a b)).rooks),((vF17_11 a b (vF17_10 a b (vF17_9 a b (vF17_8 a b (vF17_4 a b (vF17_2 a b (vF17_1 a b a a b (N39 a b)) a b (N39 a b)) a b (N39 a b)) a b (N39 a b)) a b (N39 a b)) a b (N39 a b)) a b (N39 a b)).passing),((vF17_11 a b (vF17_10 a b (vF17_9 a b (vF17_8 a b (vF17_4 a b (vF17_2 a b (vF17_1 a b a a b (N39 a b)) a b (N39 a b)) a b (N39 a b)) a b (N39 a b)) a b (N39 a b)) a b (N39 a b)) a b (N39 a b)).checks),((vF17_11 a b (vF17_10 a b (vF17_9 a b (vF17_8 a b (vF17_4 a b (vF17_2 a b (vF17_1 a b a a b (N39 a b)) a b (N39 a b)) a b (N39 a b)) a b (N39 a b)) a b (N39 a b)) a b (N39 a b)) a b (N39 a b)).half),((vF17_11 a b (vF17_10 a b (vF17_9 a b (vF17_8 a b (vF17_4 a b (vF17_2 a b (vF17_1 a b a a b (N39 a b)) a b (N39 a b)) a b (N39 a b)) a b (N39 a b)) a b (N39 a b)) a b (N39 a b)) a b (N39 a b)).full)⟩,(true)))
noncomputable def ok17 (a:Pos) (b:Mv):Bool:=(ok38 (a)&&(ok37 (N38 a) (b)&&(bif !N37 (N38 a) b then true else (ok39 (a) (b)&&(okF17_1 (a) (b) (a) (a) (b) (N39 a b)&&(okF17_2 (a) (b) (vF17_1 a b a a b (N39 a b)) (a) (b) (N39 a b)&&(okF17_4 (a) (b) (vF17_2 a b (vF17_1 a b a a b (N39 a b)) a b (N39 a b)) (a) (b) (N39 a b)&&(okF17_8 (a) (b) (vF17_4 a b (vF17_2 a b (vF17_1 a b a a b (N39 a b)) a b (N39 a b)) a b (N39 a b)) (a) (b) (N39 a b)&&(okF17_9 (a) (b) (vF17_8 a b (vF17_4 a b (vF17_2 a b (vF17_1 a b a a b (N39 a b)) a b (N39 a b)) a b (N39 a b)) a b (N39 a b)) (a) (b) (N39 a b)&&(okF17_10 (a) (b) (vF17_9 a b (vF17_8 a b (vF17_4 a b (vF17_2 a b (vF17_1 a b a a b (N39 a b)) a b (N39 a b)) a b (N39 a b)) a b (N39 a b)) a b (N39 a b)) (a) (b) (N39 a b)&&(okF17_11 (a) (b) (vF17_10 a b (vF17_9 a b (vF17_8 a b (vF17_4 a b (vF17_2 a b (vF17_1 a b a a b (N39 a b)) a b (N39 a b)) a b (N39 a b)) a b (N39 a b)) a b (N39 a b)) a b (N39 a b)) (a) (b) (N39 a b)&&true)))))))))))
theorem P17 (a:Pos) (b:Mv) (h:ok17 a b=true):PS Pz 17 [Pos.av a,Mv.av b] ((d2 dPos dB).res (N17 a b)):=ps_sum (n:=14) hB17 (by kernel_rfl) (by kernel_rfl) (by kernel_rfl) h
noncomputable def G17:List AV→Tr AV:=g2 dPos dMv (fun a b=>gdv (ok17 a b) ((d2 dPos dB).res (N17 a b)))
theorem s17:Sound Pz 17 G17:=sound2 fun a b=>at_gd (P17 a b)
end Kz
end
section
namespace Kz
open Go
set_option maxRecDepth 100000
theorem ix64 {i:Int} (h0:0≤i) (h1:i < 64):(decide (0≤i)&&decide (i < Int.ofNat 64))=true:=by
  rw [Bool.and_eq_true,decide_eq_true_eq,decide_eq_true_eq]
  exact ⟨h0,h1⟩
theorem set_in {l:List Int} {a b v:Int} (h:∀ x ∈ l,a≤x∧x≤b) (hv:a≤v∧v≤b) (i:Nat):∀ x ∈ l.set i v,a≤x∧x≤b:=by
  intro x hx
  rcases List.mem_or_eq_of_mem_set hx with h1 | rfl
  · exact h x h1
  · exact hv
theorem N93_in (a b:Int):0≤N93 a b∧N93 a b≤255:=by
  unfold N93
  exact c_ind (P:=fun x:Int=>0≤x∧x≤255) (fun _=>by decide) fun _=>c_ind (P:=fun x:Int=>0≤x∧x≤255) (fun _=>by decide) fun _=>c_ind (P:=fun x:Int=>0≤x∧x≤255) (fun _=>by decide) fun _=>⟨wr_u8_lo _,wr_u8_hi _⟩
theorem N102_in {n:Int} (h : -9223372036854775808≤n∧n≤9223372036854775807) : -9223372036854775808≤N102 n∧N102 n≤9223372036854775807:=by
  unfold N102
  exact c_ind (P:=fun x:Int => -9223372036854775808≤x∧x≤9223372036854775807) (fun _=>h) fun _=>wr_i64_b _
structure Kin (p q:Pos):Prop where
  pin:PosIn q
  v:q.variant=p.variant
  t:q.turn=p.turn
section
variable {p q:Pos}
theorem Kin.board (h:Kin p q) {bd:List Int} (hl:bd.length=64) (hb:∀ x ∈ bd,0≤x∧x≤255) (pr:BitVec 64):Kin p ⟨q.variant,bd,pr,q.pockets,q.turn,q.rooks,q.passing,q.checks,q.half,q.full⟩ :=
  ⟨⟨h.pin.v0,h.pin.v1,hl,hb,h.pin.kl,h.pin.k0,h.pin.t0,h.pin.t1,h.pin.rl,h.pin.r0,h.pin.p0,h.pin.p1,h.pin.cl,h.pin.c0,h.pin.h0,h.pin.f0⟩,h.v,h.t⟩
theorem Kin.set (h:Kin p q) (i:Nat) {v:Int} (hv:0≤v∧v≤255):Kin p ⟨q.variant,q.board.set i v,q.promoted,q.pockets,q.turn,q.rooks,q.passing,q.checks,q.half,q.full⟩ :=
  h.board (by rw [List.length_set]; exact h.pin.bl) (set_in h.pin.b0 hv i) _
theorem Kin.promoted (h:Kin p q) (pr:BitVec 64):Kin p ⟨q.variant,q.board,pr,q.pockets,q.turn,q.rooks,q.passing,q.checks,q.half,q.full⟩:=h.board h.pin.bl h.pin.b0 pr
theorem Kin.pockets (h:Kin p q) (i:Nat) {v:Int} (hv:0≤v∧v≤255):Kin p ⟨q.variant,q.board,q.promoted,q.pockets.set i v,q.turn,q.rooks,q.passing,q.checks,q.half,q.full⟩ :=
  ⟨⟨h.pin.v0,h.pin.v1,h.pin.bl,h.pin.b0,by rw [List.length_set]; exact h.pin.kl,set_in h.pin.k0 hv i,h.pin.t0,h.pin.t1,h.pin.rl,h.pin.r0,h.pin.p0,h.pin.p1,h.pin.cl,h.pin.c0,h.pin.h0,h.pin.f0⟩,h.v,h.t⟩
theorem Kin.rooks (h:Kin p q) {rk:List Int} (hl:rk.length=4) (hr:∀ x ∈ rk,-128≤x∧x≤127):Kin p ⟨q.variant,q.board,q.promoted,q.pockets,q.turn,rk,q.passing,q.checks,q.half,q.full⟩ :=
  ⟨⟨h.pin.v0,h.pin.v1,h.pin.bl,h.pin.b0,h.pin.kl,h.pin.k0,h.pin.t0,h.pin.t1,hl,hr,h.pin.p0,h.pin.p1,h.pin.cl,h.pin.c0,h.pin.h0,h.pin.f0⟩,h.v,h.t⟩
theorem Kin.rook (h:Kin p q) (i:Nat):Kin p ⟨q.variant,q.board,q.promoted,q.pockets,q.turn,q.rooks.set i (-1),q.passing,q.checks,q.half,q.full⟩ :=
  h.rooks (by rw [List.length_set]; exact h.pin.rl) (set_in h.pin.r0 (by omega) i)
theorem Kin.passing (h:Kin p q) {s:Int} (hs : -128≤s∧s≤127):Kin p ⟨q.variant,q.board,q.promoted,q.pockets,q.turn,q.rooks,s,q.checks,q.half,q.full⟩ :=
  ⟨⟨h.pin.v0,h.pin.v1,h.pin.bl,h.pin.b0,h.pin.kl,h.pin.k0,h.pin.t0,h.pin.t1,h.pin.rl,h.pin.r0,hs.1,hs.2,h.pin.cl,h.pin.c0,h.pin.h0,h.pin.f0⟩,h.v,h.t⟩
theorem Kin.clocks (h:Kin p q) {a b:Int} (ha : -9223372036854775808≤a∧a≤9223372036854775807) (hb : -9223372036854775808≤b∧b≤9223372036854775807):Kin p ⟨q.variant,q.board,q.promoted,q.pockets,q.turn,q.rooks,q.passing,q.checks,a,b⟩ :=
  ⟨⟨h.pin.v0,h.pin.v1,h.pin.bl,h.pin.b0,h.pin.kl,h.pin.k0,h.pin.t0,h.pin.t1,h.pin.rl,h.pin.r0,h.pin.p0,h.pin.p1,h.pin.cl,h.pin.c0,ha,hb⟩,h.v,h.t⟩
theorem N92_kin (h:Kin p q) (b c:Int):Kin p (N92 q b c).1:=by
  unfold N92
  refine c_ind (P:=fun x:Pos×Bool=>Kin p x.1) (fun _=>h) fun _=>c_ind (P:=fun x:Pos×Bool=>Kin p x.1) (fun _=>h) fun _ => ?_
  exact h.pockets _ ⟨wr_u8_lo _,wr_u8_hi _⟩
theorem N95_kin (h:Kin p q) (b c:Int):Kin p (N95 q b c):=by
  unfold N95
  refine c_ind (P:=fun x:Pos=>Kin p x) (fun _=>c_ind (P:=fun x:Pos=>Kin p x) (fun _ => ?_) fun _=>h) fun _=>h
  exact h.pockets _ ⟨wr_u8_lo _,wr_u8_hi _⟩
end
section
variable {p:Pos} (hp:PosIn p) (m:Mv)
include hp
theorem bd_in (i:Nat):0≤p.board.getD i 0∧p.board.getD i 0≤255:=getD_in hp.b0 (by omega) i
theorem vF1_kin (a:Pos) (b:Mv) (c:Int):Kin p (vF17_1 a b p p m c):=by
  have h:Kin p p:=⟨hp,rfl,rfl⟩
  have z:(0:Int)≤0∧(0:Int)≤255:=by omega
  have bi:=bd_in hp
  unfold vF17_1
  refine c_ind (P:=fun x:Pos=>Kin p x) (fun _=>((((h.set _ z).set _ z).set _ (bi _)).set _ (bi _))) fun _=>c_ind (P:=fun x:Pos=>Kin p x) (fun _=>(N92_kin h _ _).set _ (N93_in _ _)) fun _=>c_ind (P:=fun x:Pos=>Kin p x) (fun _=>c_ind (P:=fun x:Pos=>Kin p x) (fun _=>(((h.set _ z).set _ z).set _ (bi _)).set _ (N93_in _ _)) fun _=>((h.set _ z).set _ z).set _ (bi _)) fun _=>c_ind (P:=fun x:Pos=>Kin p x) (fun _=>((h.set _ z).set _ (bi _)).set _ (N93_in _ _)) fun _=>(h.set _ z).set _ (bi _)
omit hp in
theorem vF2_kin {q:Pos} (h:Kin p q) (a:Pos) (b:Mv) (c:Int):Kin p (vF17_2 a b q p m c):=by
  unfold vF17_2
  repeat' (first | exact h | exact h.promoted _ | exact N95_kin h _ _ | exact (N95_kin h _ _).promoted _ | refine c_ind (P:=fun x:Pos=>Kin p x) (fun _ => ?_) (fun _ => ?_))
omit hp in
theorem lp17_3_kin (l:List Int) (hl:l.length≤64) (hin:∀ s ∈ l,0≤s∧s < 64) {q:Pos} (h:Kin p q) (a b:Pos) (c d:Mv) (e:Int):∃ r,lp17_3 l (Int.ofNat l.length) a c b d e (0,q)=some r∧Kin p r.2.2:=by
  refine lp_many (I:=fun x=>0≤x.1∧x.1≤(l.length:Int)∧Kin p x.2) (μ:=fun x=>((l.length:Int) - x.1).toNat) ?_ _ ⟨by simp,by simp,h⟩ (by simp; omega)
  rintro ⟨n,o⟩ ⟨h0,h1,h2⟩
  simp only at h0 h1 h2
  by_cases hc:n < l.length
  · have hf:=hin _ (getD_mem (d:=default) (show n.toNat < l.length by omega))
    refine ⟨c_true (fun _=>a_true (by simp [h0]; omega) fun _=>a_true (ix64 hf.1 hf.2) fun _=>rfl) fun _=>rfl,c_ind (fun _ => ?_) fun h=>absurd h (by simpa using hc)⟩
    rw [wi64 (n:=n+1) (by omega) (by omega)]
    exact ⟨⟨by simp; omega,by simp; omega,h2.set _ (by omega)⟩,by simp; omega⟩
  · exact ⟨c_true (fun h=>absurd h (by simpa using hc)) fun _=>rfl,c_ind (fun h=>absurd h (by simpa using hc)) fun _=>h2⟩
omit hp in
theorem vF4_kin {q:Pos} (h:Kin p q) (a:Pos) (b:Mv) (c:Int):okF17_4 a b q p m c=true∧Kin p (vF17_4 a b q p m c):=by
  have hl:=of_some (lp17_3_kin (p:=p) (sqs (N97 q (wr .i64 m.to)) 64) (sqs_len _ _) (fun _ h=>sqs_in h) h a p b m c)
  constructor
  · unfold okF17_4
    refine c_true (fun _=>rfl) fun _=>c_true (fun _=>rfl) fun _=>a_true (t97 _ _) fun _=>a_true (t96 _) fun _=>a_true ?_ fun _=>rfl
    rw [N96_eq]; exact hl.1
  · unfold vF17_4
    refine c_ind (P:=fun x:Pos=>Kin p x) (fun _=>h) fun _=>c_ind (P:=fun x:Pos=>Kin p x) (fun _=>h) fun _ => ?_
    rw [N96_eq]; exact hl.2
omit hp in
theorem lp17_6_kin {c k:Int} (hc0:0≤c) (hc1:c≤1) (l:List Int) (hl:∀ s ∈ l,-128≤s∧s≤127) {q:Pos} (h:Kin p q) (a b:Pos) (m1 m2:Mv) (e:Int):∃ r,lp17_6 c k l a m1 b m2 e (0,q)=some r∧Kin p r.2.2:=by
  refine lp_many (I:=fun x=>0≤x.1∧x.1≤2∧Kin p x.2) (μ:=fun x=>(2 - x.1).toNat) ?_ _ ⟨by simp,by simp,h⟩ (by simp)
  rintro ⟨n,o⟩ ⟨h0,h1,h2⟩
  simp only at h0 h1 h2
  by_cases hc:n < 2
  · have hs:=getD_in hl (d:=0) (by omega) n.toNat
    have go1:Nxt (fun x:Int×Pos=>0≤x.1∧x.1≤2∧Kin p x.2) (fun r:Int×Bool×Pos=>Kin p r.2.2) (fun x=>(2 - x.1).toNat) (2 - n).toNat (.go (wr .i64 (n+1),o)):=by
      rw [wi64 (n:=n+1) (by omega) (by omega)]
      exact ⟨⟨by simp; omega,by simp; omega,h2⟩,by simp; omega⟩
    have go2:∀ i,Nxt (fun x:Int×Pos=>0≤x.1∧x.1≤2∧Kin p x.2) (fun r:Int×Bool×Pos=>Kin p r.2.2) (fun x=>(2 - x.1).toNat) (2 - n).toNat (.go (wr .i64 (n+1),⟨o.variant,o.board,o.promoted,o.pockets,o.turn,o.rooks.set i (-1),o.passing,o.checks,o.half,o.full⟩)):=by
      intro i
      rw [wi64 (n:=n+1) (by omega) (by omega)]
      exact ⟨⟨by simp; omega,by simp; omega,h2.rook i⟩,by simp; omega⟩
    have w1:wr .i64 c=c:=wi64 (by omega) (by omega)
    have w2:wr .i64 (56 * c)=56 * c:=wi64 (by omega) (by omega)
    have w3:wr .i64 (l.getD n.toNat 0)=l.getD n.toNat 0:=wi64 (by omega) (by omega)
    have w4:wr .i64 (56 * c+l.getD n.toNat 0)=56 * c+l.getD n.toNat 0:=wi64 (by omega) (by omega)
    have k1:(decide (0≤c)&&decide (c < Int.ofNat 2))=true:=by simp; omega
    have k2:(decide (0≤n)&&decide (n < Int.ofNat 2))=true:=by simp; omega
    refine ⟨c_true (fun _=>a_true k2 fun _=>c_true (fun _=>rfl) fun g0=>c_true (fun _=>rfl) fun g1 => ?_) fun _=>rfl,c_ind (fun _ => ?_) fun h=>absurd h (by simpa using hc)⟩
    · rw [w1,w2,w3,w4]
      have g0:0≤l.getD n.toNat 0:=by simpa using g0
      have g1:l.getD n.toNat 0≤7:=by simpa using g1
      have k3:(decide (0≤56 * c+l.getD n.toNat 0)&&decide (56 * c+l.getD n.toNat 0 < Int.ofNat 64))=true:=ix64 (by omega) (by omega)
      repeat' (first | with_reducible rfl | with_reducible exact k1 | with_reducible exact k2 | with_reducible exact k3 | refine a_true ?_ (fun _ => ?_) | refine c_true (fun _ => ?_) (fun _ => ?_))
    · repeat' (first | exact go1 | exact go2 _ | refine c_ind (fun _ => ?_) (fun _ => ?_))
  · exact ⟨c_true (fun h=>absurd h (by simpa using hc)) fun _=>rfl,c_ind (fun h=>absurd h (by simpa using hc)) fun _=>h2⟩
omit hp in
theorem lp17_7_kin {q:Pos} (h:Kin p q) (a b:Pos) (m1 m2:Mv) (e:Int):∃ r,lp17_7 a m1 b m2 e (0,q)=some r∧Kin p r.2.2:=by
  refine lp_many (I:=fun x=>0≤x.1∧x.1≤2∧Kin p x.2) (μ:=fun x=>(2 - x.1).toNat) ?_ _ ⟨by simp,by simp,h⟩ (by simp)
  rintro ⟨n,o⟩ ⟨h0,h1,h2⟩
  simp only at h0 h1 h2
  by_cases hc:n≤1
  · have hr:∀ s ∈ List.take 2 (List.drop (scale 2 n).toNat o.rooks),-128≤s∧s≤127:=fun s hs=>h2.pin.r0 s (List.mem_of_mem_drop (List.mem_of_mem_take hs))
    have hl:=of_some (lp17_6_kin (p:=p) (k:=N99 o n 6) h0 hc _ hr h2 a b m1 m2 e)
    refine ⟨c_true (fun _=>a_true (t99 _ _ _) fun _=>a_true (by simp; omega) fun _=>a_true hl.1 fun _=>rfl) fun _=>rfl,c_ind (fun _ => ?_) fun h=>absurd h (by simpa using hc)⟩
    rw [wu8 (n:=n+1) (by omega) (by omega)]
    exact ⟨⟨by simp; omega,by simp; omega,hl.2⟩,by simp; omega⟩
  · exact ⟨c_true (fun h=>absurd h (by simpa using hc)) fun _=>rfl,c_ind (fun h=>absurd h (by simpa using hc)) fun _=>h2⟩
theorem vF8_kin (ht:p.turn≤1) {q:Pos} (h:Kin p q) (hm:m.drp=0→0≤m.frm∧m.frm < 64) (a:Pos) (b:Mv) (c:Int):okF17_8 a b q p m c=true∧Kin p (vF17_8 a b q p m c):=by
  have t0:=hp.t0
  have h2:Kin p ⟨q.variant,q.board,q.promoted,q.pockets,q.turn,List.take (scale 2 q.turn).toNat q.rooks++li [-1,-1]++List.drop ((scale 2 q.turn).toNat+2) q.rooks,q.passing,q.checks,q.half,q.full⟩:=by
    refine h.rooks ?_ ?_
    · have hr:=h.pin.rl
      have:(scale 2 q.turn).toNat≤2:=by rw [h.t]; unfold scale; simp; omega
      simp [li,hr]
      omega
    · intro x hx
      simp only [List.mem_append,li] at hx
      rcases hx with (hx | hx) | hx
      · exact h.pin.r0 x (List.mem_of_mem_take hx)
      · simp at hx; omega
      · exact h.pin.r0 x (List.mem_of_mem_drop hx)
  have a1:=of_some (lp17_7_kin h a p b m c)
  have a2:=of_some (lp17_7_kin h2 a p b m c)
  have k1:(decide (0≤q.turn)&&decide (q.turn < Int.ofNat 2))=true:=by rw [h.t]; simp; omega
  constructor
  · unfold okF17_8
    refine c_true (fun _ => ?_) fun hd=>a_true ?_ fun _ => ?_
    · repeat' (first | with_reducible rfl | with_reducible exact k1 | with_reducible exact a1.1 | with_reducible exact a2.1 | refine a_true ?_ (fun _ => ?_) | refine c_true (fun _ => ?_) (fun _ => ?_))
    · have:=hm (by simpa using hd)
      simp; omega
    · repeat' (first | with_reducible rfl | with_reducible exact k1 | with_reducible exact a1.1 | with_reducible exact a2.1 | refine a_true ?_ (fun _ => ?_) | refine c_true (fun _ => ?_) (fun _ => ?_))
  · unfold vF17_8
    repeat' (first | exact a1.2 | exact a2.2 | refine c_ind (P:=fun x:Pos=>Kin p x) (fun _ => ?_) (fun _ => ?_))
omit hp in
theorem vF9_kin {q:Pos} (h:Kin p q) (hm:m.drp=0→0≤m.frm∧m.frm < 64) (a:Pos) (b:Mv) (c:Int):okF17_9 a b q p m c=true∧Kin p (vF17_9 a b q p m c):=by
  constructor
  · unfold okF17_9
    refine c_true (fun _ => ?_) fun hd=>a_true ?_ fun _ => ?_
    · repeat' (first | with_reducible rfl | with_reducible exact t100 _ _ | with_reducible exact t101 _ _ _ | refine a_true ?_ (fun _ => ?_) | refine c_true (fun _ => ?_) (fun _ => ?_))
    · have:=hm (by simpa using hd)
      simp; omega
    · repeat' (first | with_reducible rfl | with_reducible exact t100 _ _ | with_reducible exact t101 _ _ _ | refine a_true ?_ (fun _ => ?_) | refine c_true (fun _ => ?_) (fun _ => ?_))
  · have n1:(-128:Int) ≤ -1∧(-1:Int)≤127:=by omega
    unfold vF17_9
    repeat' (first | exact h.passing n1 | exact h.passing (wr_i8_b _) | refine c_ind (P:=fun x:Pos=>Kin p x) (fun _ => ?_) (fun _ => ?_))
omit hp in
theorem vF910_kin {q:Pos} (h:Kin p q) (hm:m.drp=0→0≤m.frm∧m.frm < 64) (a:Pos) (b:Mv) (c:Int):okF17_10 a b q p m c=true∧Kin p (vF17_10 a b q p m c):=by
  constructor
  · unfold okF17_10
    refine c_true (fun _=>rfl) fun hd=>a_true ?_ fun _=>rfl
    have:=hm (by simpa using hd)
    simp; omega
  · have z:(-9223372036854775808:Int)≤0∧(0:Int)≤9223372036854775807:=by omega
    have f1:=h.pin.f0
    have f2:=N102_in h.pin.f0
    have f3:=N102_in h.pin.h0
    unfold vF17_10
    repeat' (first | exact h.clocks z f1 | exact h.clocks z f2 | exact h.clocks f3 f1 | exact h.clocks f3 f2 | refine c_ind (P:=fun x:Pos=>Kin p x) (fun _ => ?_) (fun _ => ?_))
theorem vF4_in (ht:p.turn≤1) {q:Pos} (h:Kin p q) (a:Pos) (b:Mv) (c:Int):okF17_11 a b q p m c=true∧PosIn (vF17_11 a b q p m c)∧(vF17_11 a b q p m c).variant=p.variant∧(vF17_11 a b q p m c).turn=1 - p.turn:=by
  have t0:=hp.t0
  have w1:wr .u8 (1 - p.turn)=1 - p.turn:=wu8 (by omega) (by omega)
  have w2:wr .u8 (1 - (1 - p.turn))=p.turn:=by rw [wu8 (by omega) (by omega)]; omega
  have k1:(decide (0≤p.turn)&&decide (p.turn < Int.ofNat 2))=true:=by simp; omega
  have hq:PosIn ⟨q.variant,q.board,q.promoted,q.pockets,1 - p.turn,q.rooks,q.passing,q.checks,q.half,q.full⟩ :=
    ⟨h.pin.v0,h.pin.v1,h.pin.bl,h.pin.b0,h.pin.kl,h.pin.k0,by show 0≤1 - p.turn; omega,by show 1 - p.turn≤255; omega,h.pin.rl,h.pin.r0,h.pin.p0,h.pin.p1,h.pin.cl,h.pin.c0,h.pin.h0,h.pin.f0⟩
  constructor
  · unfold okF17_11
    rw [h.t,w1,w2]
    refine c_true (fun _=>a_true k1 fun _=>c_true (fun _=>a_true (t103 h.pin.v0 (by omega)) fun _=>c_true (fun _=>a_true k1 fun _=>a_true k1 fun _=>rfl) fun _=>rfl) fun _=>rfl) fun _=>rfl
  · unfold vF17_11
    rw [h.t,w1,w2]
    have base:PosIn ⟨q.variant,q.board,q.promoted,q.pockets,1 - p.turn,q.rooks,q.passing,q.checks,q.half,q.full⟩∧q.variant=p.variant∧(1 - p.turn=1 - p.turn):=⟨hq,h.v,rfl⟩
    refine c_ind (P:=fun x:Pos=>PosIn x∧x.variant=p.variant∧x.turn=1 - p.turn) (fun _=>c_ind (P:=fun x:Pos=>PosIn x∧x.variant=p.variant∧x.turn=1 - p.turn) (fun _=>c_ind (P:=fun x:Pos=>PosIn x∧x.variant=p.variant∧x.turn=1 - p.turn) (fun _ => ?_) fun _=>base) fun _=>base) fun _=>base
    exact ⟨⟨hq.v0,hq.v1,hq.bl,hq.b0,hq.kl,hq.k0,hq.t0,hq.t1,hq.rl,hq.r0,hq.p0,hq.p1,by rw [List.length_set]; exact hq.cl,set_in hq.c0 ⟨wr_u8_lo _,wr_u8_hi _⟩ _,hq.h0,hq.f0⟩,h.v,rfl⟩
end
theorem N38_mem {p:Pos} (hp:PosIn p) {m:Mv} (h:m ∈ N38 p):there p∧0≤m.frm∧m.frm < 64∧0≤m.to∧m.to < 64∧0≤m.drp∧m.drp≤5∧0≤m.pro∧m.pro≤6:=by
  rw [N38_eq] at h
  have n110:∀ v:Int,9≤v→N110 v=false:=fun v hv=>by
    unfold N110
    rw [show decide (v ≥ 9)=true by simpa using hv]; rfl
  have n113:∀ v:Int,9≤v→N142 v=false:=fun v hv=>by
    unfold N142
    rw [show decide (v ≥ 9)=true by simpa using hv]; rfl
  simp only [List.mem_append] at h
  rcases h with (h | h) | h
  · obtain ⟨th,f,t,h1,h2,h3,h4,h5,h6,h7,h8,_⟩:=N85_mem hp.v0 h
    exact ⟨th,by omega,by omega,by omega,by omega,by omega,by omega,h7,h8⟩
  · obtain ⟨h1,h2,h3,h4,h5,h6,h7,h8⟩:=N86_mem hp h
    refine ⟨⟨h1,?_⟩,h2,h3,h4,h5,by omega,by omega,by omega,by omega⟩
    refine Classical.byContradiction fun hv => ?_
    unfold N86 at h
    rw [n110 _ (by omega)] at h
    rw [show decide (p.turn > 1)=false by simp; omega] at h
    cases h
  · obtain ⟨h1,h2,h3,h4,h5,h6,h7,h8,h9⟩:=N87_mem hp.t0 h
    refine ⟨⟨h1,?_⟩,by omega,by omega,h4,h5,by omega,h8,by omega,by omega⟩
    refine Classical.byContradiction fun hv => ?_
    rw [n113 _ (by omega)] at h2
    cases h2
theorem move_all {p:Pos} (hp:PosIn p) (m:Mv):ok17 p m=true∧(m ∈ N38 p→(N17 p m).2=true∧PosIn (N17 p m).1∧(N17 p m).1.variant=p.variant∧(N17 p m).1.turn=1 - p.turn)∧(m ∉ N38 p→N17 p m=(p,false)):=by
  have hlen:=N38_len hp
  have hc:N37 (N38 p) m=decide (m ∈ N38 p):=N37_eq (by omega)
  by_cases hm:m ∈ N38 p
  · obtain ⟨th,f0,f1,g0,g1,d0,d1,r0,r1⟩:=N38_mem hp hm
    have hmf:m.drp=0→0≤m.frm∧m.frm < 64:=fun _=>⟨f0,f1⟩
    have hn:=N39_in hp m
    have h1:=vF1_kin hp m p m (N39 p m)
    have h2:=vF2_kin m h1 p m (N39 p m)
    have h4:=vF4_kin m h2 p m (N39 p m)
    have h8:=vF8_kin hp m th.1 h4.2 hmf p m (N39 p m)
    have h9:=vF9_kin m h8.2 hmf p m (N39 p m)
    have h10:=vF910_kin m h9.2 hmf p m (N39 p m)
    have h11:=vF4_in hp m th.1 h10.2 p m (N39 p m)
    have kf:(decide (0≤m.frm)&&decide (m.frm < Int.ofNat 64))=true:=by simp; omega
    have kt:(decide (0≤m.to)&&decide (m.to < Int.ofNat 64))=true:=by simp; omega
    have kn:N39 p m ≥ 0→(decide (0≤N39 p m)&&decide (N39 p m < Int.ofNat 64))=true:=fun h=>by simp; omega
    have hg:=N91_in hp.t0 th.1 m
    have ok1:okF17_1 p m p p m (N39 p m)=true:=by
      unfold okF17_1
      have kg1:(decide (0≤(N91 p m).1)&&decide ((N91 p m).1 < Int.ofNat 64))=true:=by simp; omega
      have kg2:(decide (0≤(N91 p m).2.1)&&decide ((N91 p m).2.1 < Int.ofNat 64))=true:=by simp; omega
      refine c_true (fun _ => ?_) fun _=>c_true (fun _ => ?_) fun _=>c_true (fun hh => ?_) fun _ => ?_
      · repeat' (first | with_reducible rfl | with_reducible exact t91 _ _ | with_reducible exact kf | with_reducible exact kt | with_reducible exact kg1 | with_reducible exact kg2 | refine a_true ?_ (fun _ => ?_))
      · refine a_true (t92 hp.t0 d0) fun _=>a_true kt fun _=>rfl
      · have hh:N39 p m ≥ 0:=by simpa using hh
        have kn:=kn hh
        repeat' (first | with_reducible rfl | with_reducible exact kn | with_reducible exact kf | with_reducible exact kt | refine a_true ?_ (fun _ => ?_) | refine c_true (fun _ => ?_) (fun _ => ?_))
      · repeat' (first | with_reducible rfl | with_reducible exact kf | with_reducible exact kt | refine a_true ?_ (fun _ => ?_) | refine c_true (fun _ => ?_) (fun _ => ?_))
    have ok2:okF17_2 p m (vF17_1 p m p p m (N39 p m)) p m (N39 p m)=true:=by
      have e:0≤(vF17_1 p m p p m (N39 p m)).turn:=h1.pin.t0
      have bi:=fun i=>(bd_in hp i).1
      unfold okF17_2
      refine c_true (fun _=>rfl) fun _=>c_true (fun _=>rfl) fun _=>c_true (fun _=>a_true (t91 _ _) fun _=>rfl) fun _=>c_true (fun hh => ?_) fun _=>rfl
      have hh:N39 p m ≥ 0:=by simpa using hh
      have kn:=kn hh
      repeat' (first | with_reducible rfl | with_reducible exact kn | with_reducible exact t95 e (by decide) | with_reducible exact t95 e (N89_in (bi _)) | refine a_true ?_ (fun _ => ?_) | refine c_true (fun _ => ?_) (fun _ => ?_))
    refine ⟨?_,fun _ => ?_,fun h=>absurd hm h⟩
    · unfold ok17
      exact a_true (t38 hp) fun _=>a_true (t37 (by omega)) fun _=>c_true (fun _=>rfl) fun _=>a_true (t39 hp.v0 m) fun _=>a_true ok1 fun _=>a_true ok2 fun _=>a_true h4.1 fun _=>a_true h8.1 fun _=>a_true h9.1 fun _=>a_true h10.1 fun _=>a_true h11.1 fun _=>rfl
    · unfold N17
      rw [hc]
      simp only [hm,decide_true,Bool.not_true,cond_false]
      exact ⟨trivial,h11.2⟩
  · refine ⟨?_,fun h=>absurd h hm,fun _ => ?_⟩
    · unfold ok17
      refine a_true (t38 hp) fun _=>a_true (t37 (by omega)) fun _=>c_true (fun _=>rfl) fun h => ?_
      rw [hc] at h
      simp [hm] at h
    · unfold N17
      rw [hc]
      simp [hm]
end Kz
end
section
namespace Kz
open Go Go.RowKit Go.Proofs
set_option maxRecDepth 100000
set_option maxHeartbeats 4000000
noncomputable def K134:List (Nat×Nat×List (Nat×List Nat)):=[(134,11,[(0,[1,2]),(1,[4])])]
noncomputable def B134:Base:=baseOf Pz (fun f i=>lkC f i K134) [(106,G106)] [] []
theorem hB134:BOk B134:=base_ok named_z ⟨s106,trivial⟩ trivial trivial
noncomputable def N134 (a:Pos) (b:Int):Bool:=(N106 (a.board.getD (scale 1 b).toNat 0)==0)
noncomputable def ok134 (a:Pos) (b:Int):Bool:=(decide (0≤b)&&decide (b < ↑64)&&true)
theorem P134 (a:Pos) (b:Int) (h:ok134 a b=true):PS Pz 134 [Pos.av a,.int .i64 b] (dB.res (N134 a b)):=ps_sum (n:=14) hB134 (by kernel_rfl) (by kernel_rfl) (by kernel_rfl) h
noncomputable def G134:List AV→Tr AV:=g2 dPos (dI .i64) (fun a b=>gdv (ok134 a b) (dB.res (N134 a b)))
theorem s134:Sound Pz 134 G134:=sound2 fun a b=>at_gd (P134 a b)
noncomputable def K132:List (Nat×Nat×List (Nat×List Nat)):=[(132,20,[(0,(1::2::3::(rn 12 7 []))),(1,[6])])]
noncomputable def B132:Base:=baseOf Pz (fun f i=>lkC f i K132) [(107,G107),(134,G134)] [] []
theorem hB132:BOk B132:=base_ok named_z ⟨s107,s134,trivial⟩ trivial trivial
noncomputable def N132 (a:Pos) (b:Int) (c:Int):Bool:=(bif !N134 (Pos.mk a.variant a.board a.promoted a.pockets a.turn a.rooks a.passing a.checks a.half a.full) b then (N107 (a.board.getD (scale 1 b).toNat 0)==c) else (false))
noncomputable def ok132 (a:Pos) (b:Int) (c:Int):Bool:=(ok134 (Pos.mk a.variant a.board a.promoted a.pockets a.turn a.rooks a.passing a.checks a.half a.full) (b)&&(bif !N134 (Pos.mk a.variant a.board a.promoted a.pockets a.turn a.rooks a.passing a.checks a.half a.full) b then (decide (0≤b)&&decide (b < ↑64)&&true) else true))
theorem P132 (a:Pos) (b:Int) (c:Int) (h:ok132 a b c=true):PS Pz 132 [Pos.av a,.int .i64 b,.int .u8 c] (dB.res (N132 a b c)):=ps_sum (n:=14) hB132 (by kernel_rfl) (by kernel_rfl) (by kernel_rfl) h
noncomputable def G132:List AV→Tr AV:=g3 dPos (dI .i64) (dI .u8) (fun a b c=>gdv (ok132 a b c) (dB.res (N132 a b c)))
theorem s132:Sound Pz 132 G132:=sound3 fun a b c=>at_gd (P132 a b c)
noncomputable def K135:List (Nat×Nat×List (Nat×List Nat)):=[(135,5,[(0,[0]),(1,[4]),(2,[2]),(3,[2])])]
noncomputable def B135:Base:=baseOf Pz (fun f i=>lkC f i K135) [] [] []
theorem hB135:BOk B135:=base_ok named_z trivial trivial trivial
noncomputable def N135 (a:Int):Int:=(bif a==0 then (8) else (-8))
noncomputable def ok135 (a:Int):Bool:=true
theorem P135 (a:Int) (h:ok135 a=true):PS Pz 135 [.int .u8 a] ((dI .i64).res (N135 a)):=ps_sum (n:=14) hB135 (by kernel_rfl) (by kernel_rfl) (by kernel_rfl) h
noncomputable def G135:List AV→Tr AV:=g1 (dI .u8) (fun a=>.ret ((dI .i64).res (N135 a)))
theorem s135:Sound Pz 135 G135:=sound1 fun a=>at_rt (P135 a rfl)
noncomputable def K161:List (Nat×Nat×List (Nat×List Nat)):=[(161,12,[(0,[0,1]),(1,[1,6]),(2,[4]),(3,[4])])]
noncomputable def B161:Base:=baseOf Pz (fun f i=>lkC f i K161) [] [] []
theorem hB161:BOk B161:=base_ok named_z trivial trivial trivial
noncomputable def N161 (a:Int) (b:Int):Int:=(bif a==0 then (wr .i64 (b.tdiv 8)) else (wr .i64 (7 - wr .i64 (b.tdiv 8))))
noncomputable def ok161 (a:Int) (b:Int):Bool:=true
theorem P161 (a:Int) (b:Int) (h:ok161 a b=true):PS Pz 161 [.int .u8 a,.int .i64 b] ((dI .i64).res (N161 a b)):=ps_sum (n:=14) hB161 (by kernel_rfl) (by kernel_rfl) (by kernel_rfl) h
noncomputable def G161:List AV→Tr AV:=g2 (dI .u8) (dI .i64) (fun a b=>.ret ((dI .i64).res (N161 a b)))
theorem s161:Sound Pz 161 G161:=sound2 fun a b=>at_rt (P161 a b rfl)
noncomputable def K193:List (Nat×Nat×List (Nat×List Nat)):=[(193,79,[(0,(1::2::3::(rn 24 5 (rn 45 12 (65::(rn 68 5 [75,76,77])))))),(1,(1::2::3::7::(rn 24 5 (rn 45 12 (65::(rn 68 5 [75,76,77])))))),(2,(1::2::3::7::16::(rn 24 5 (rn 45 12 (65::(rn 68 5 [75,76,77])))))),(3,[6]),(4,(1::2::3::7::34::(rn 45 12 (65::(rn 68 5 [75,76,77]))))),(5,[6]),(6,(1::2::3::7::8::(rn 45 12 (65::(rn 68 5 [75,76,77]))))),(7,(1::2::3::7::9::65::(rn 68 5 [75,76,77]))),(8,[6])])]
noncomputable def B193:Base:=baseOf Pz (fun f i=>lkC f i K193) [(132,G132),(134,G134),(135,G135),(159,G159),(161,G161)] [] []
theorem hB193:BOk B193:=base_ok named_z ⟨s132,s134,s135,s159,s161,trivial⟩ trivial trivial
noncomputable def N193 (a:Pos) (b:Int) (c:Int):Bool:=(bif N159 a b c then (bif N132 a c (wr .u8 (1 - a.turn)) then (true) else (wr .i64 a.passing==c)) else (bif c==wr .i64 (b+N135 a.turn) then (N134 a c) else (bif N161 a.turn b==1 then (bif c==wr .i64 (b+wr .i64 (2 * N135 a.turn)) then (bif N134 a (wr .i64 (b+N135 a.turn)) then (N134 a c) else (false)) else (false)) else (bif N161 a.turn b==0 then (bif a.variant==7 then (bif c==wr .i64 (b+wr .i64 (2 * N135 a.turn)) then (bif a.turn==0 then (bif N134 a (wr .i64 (b+N135 a.turn)) then (N134 a c) else (false)) else (false)) else (false)) else (bif c==wr .i64 (b+wr .i64 (2 * N135 a.turn)) then (false) else (false))) else (bif c==wr .i64 (b+wr .i64 (2 * N135 a.turn)) then (false) else (false))))))
noncomputable def ok193 (a:Pos) (b:Int) (c:Int):Bool:=(ok159 (a) (b) (c)&&(bif N159 a b c then (ok132 (a) (c) (wr .u8 (1 - a.turn))&&true) else (bif c==wr .i64 (b+N135 a.turn) then (ok134 (a) (c)&&true) else (bif N161 a.turn b==1 then (bif c==wr .i64 (b+wr .i64 (2 * N135 a.turn)) then (ok134 (a) (wr .i64 (b+N135 a.turn))&&(bif N134 a (wr .i64 (b+N135 a.turn)) then (ok134 (a) (c)&&true) else true)) else true) else (bif N161 a.turn b==0 then (bif a.variant==7 then (bif c==wr .i64 (b+wr .i64 (2 * N135 a.turn)) then (bif a.turn==0 then (ok134 (a) (wr .i64 (b+N135 a.turn))&&(bif N134 a (wr .i64 (b+N135 a.turn)) then (ok134 (a) (c)&&true) else true)) else true) else true) else true) else true)))))
theorem P193 (a:Pos) (b:Int) (c:Int) (h:ok193 a b c=true):PS Pz 193 [Pos.av a,.int .i64 b,.int .i64 c] (dB.res (N193 a b c)):=ps_sum (n:=14) hB193 (by kernel_rfl) (by kernel_rfl) (by kernel_rfl) h
noncomputable def G193:List AV→Tr AV:=g3 dPos (dI .i64) (dI .i64) (fun a b c=>gdv (ok193 a b c) (dB.res (N193 a b c)))
theorem s193:Sound Pz 193 G193:=sound3 fun a b c=>at_gd (P193 a b c)
noncomputable def K160:List (Nat×Nat×List (Nat×List Nat)):=[(160,56,[(0,(1::2::3::(rn 11 6 (rn 19 5 (rn 43 8 []))))),(1,(1::2::3::24::(rn 43 8 []))),(2,[6]),(3,(1::2::3::29::(rn 43 8 []))),(4,(1::2::3::29::30::(rn 43 8 []))),(5,[6]),(6,(1::2::3::36::(rn 43 8 []))),(7,[6]),(8,[6])])]
noncomputable def B160:Base:=baseOf Pz (fun f i=>lkC f i K160) [(106,G106),(132,G132),(134,G134),(159,G159),(193,G193)] [] []
theorem hB160:BOk B160:=base_ok named_z ⟨s106,s132,s134,s159,s193,trivial⟩ trivial trivial
noncomputable def N160 (a:Pos) (b:Int) (c:Int):Bool:=(bif b==c then (false) else (bif !N132 a b a.turn then (false) else (bif N132 a c a.turn then (false) else (bif N106 (a.board.getD (scale 1 b).toNat 0)==1 then (N193 a b c) else (bif N106 (a.board.getD (scale 1 b).toNat 0)==6 then (bif N159 a b c then (bif a.variant != 3 then (true) else (N134 a c)) else (false)) else (N159 a b c))))))
noncomputable def ok160 (a:Pos) (b:Int) (c:Int):Bool:=(bif b==c then true else (ok132 (a) (b) (a.turn)&&(bif !N132 a b a.turn then true else (ok132 (a) (c) (a.turn)&&(bif N132 a c a.turn then true else (decide (0≤b)&&decide (b < Int.ofNat 64)&&(bif N106 (a.board.getD (scale 1 b).toNat 0)==1 then (ok193 (a) (b) (c)&&true) else (bif N106 (a.board.getD (scale 1 b).toNat 0)==6 then (ok159 (a) (b) (c)&&(bif N159 a b c then (bif a.variant != 3 then true else (ok134 (a) (c)&&true)) else true)) else (ok159 (a) (b) (c)&&true)))))))))
theorem P160 (a:Pos) (b:Int) (c:Int) (h:ok160 a b c=true):PS Pz 160 [Pos.av a,.int .i64 b,.int .i64 c] (dB.res (N160 a b c)):=ps_sum (n:=14) hB160 (by kernel_rfl) (by kernel_rfl) (by kernel_rfl) h
noncomputable def G160:List AV→Tr AV:=g3 dPos (dI .i64) (dI .i64) (fun a b c=>gdv (ok160 a b c) (dB.res (N160 a b c)))
theorem s160:Sound Pz 160 G160:=sound3 fun a b c=>at_gd (P160 a b c)
end Kz
end
section
namespace Kz
open Go Go.RowKit
set_option maxRecDepth 100000
set_option maxHeartbeats 1000000
set_option linter.unusedSectionVars false
theorem men_fin:∀ v:Fin 256,N89 v.val=N106 v.val∧(tOf 0 0 v.val=(!(N106 v.val==0)&&N107 v.val==0))∧(tOf 1 0 v.val=(!(N106 v.val==0)&&N107 v.val==1))∧((tOf 0 0 v.val || tOf 1 0 v.val)=!(N106 v.val==0))∧(N106 v.val=0∨N106 v.val=1∨(2≤N106 v.val∧N106 v.val≤6)):=by decide +kernel
theorem men' {v:Int} (h0:0≤v) (h1:v≤255):N89 v=N106 v∧(tOf 0 0 v=(!(N106 v==0)&&N107 v==0))∧(tOf 1 0 v=(!(N106 v==0)&&N107 v==1))∧((tOf 0 0 v || tOf 1 0 v)=!(N106 v==0))∧(N106 v=0∨N106 v=1∨(2≤N106 v∧N106 v≤6)):=by
  obtain ⟨n,rfl⟩:=Int.eq_ofNat_of_zero_le h0
  exact men_fin ⟨n,by omega⟩
section
variable {p:Pos} (hp:PosIn p) (ht:p.turn=0∨p.turn=1)
include hp ht
theorem N132_bit {c:Int} (hc:c=0∨c=1) {i:Nat} (hi:i < 64):N132 p i c=(N101 p c 0).getLsbD i:=by
  obtain ⟨b0,b1⟩:=bd_in hp i
  obtain ⟨_,m0,m1,_⟩:=men' b0 b1
  rw [N101_bit _ _ _ hi]
  unfold N132 N134
  rw [show (Pos.mk p.variant p.board p.promoted p.pockets p.turn p.rooks p.passing p.checks p.half p.full)=p from rfl,show (scale 1 (i:Int)).toNat=i by unfold scale; simp]
  rcases hc with rfl | rfl
  · rw [m0]; cases N106 (p.board.getD i 0)==0 <;> rfl
  · rw [m1]; cases N106 (p.board.getD i 0)==0 <;> rfl
theorem oth_eq:oth p=N101 p (1 - p.turn) 0:=by
  unfold oth
  rw [wu8 (by omega) (by omega)]
theorem occ_iff {s:Nat} (hs:s < 64):(own p|||oth p).getLsbD s=false ↔ N106 (p.board.getD s 0)=0:=by
  obtain ⟨b0,b1⟩:=bd_in hp s
  obtain ⟨_,_,_,m,_⟩:=men' b0 b1
  rw [BitVec.getLsbD_or,oth_eq hp ht]
  unfold own
  rw [N101_bit _ _ _ hs,N101_bit _ _ _ hs]
  have e:(tOf p.turn 0 (p.board.getD s 0) || tOf (1 - p.turn) 0 (p.board.getD s 0))=!(N106 (p.board.getD s 0)==0):=by
    rw [← m]
    rcases ht with h | h <;> rw [h]
    · rfl
    · exact Bool.or_comm _ _
  rw [e]
  simp
theorem N134_bit {s:Nat} (hs:s < 64):N134 p s=!(own p|||oth p).getLsbD s:=by
  have h:=occ_iff hp ht hs
  unfold N134
  rw [show (scale 1 (s:Int)).toNat=s by unfold scale; simp]
  cases hb:(own p|||oth p).getLsbD s with
  | false=>rw [h.1 hb]; rfl
  | true =>
    have:N106 (p.board.getD s 0)≠0:=fun e=>by rw [h.2 e] at hb; cases hb
    simpa using this
theorem may_bit {f t:Nat} (hf:f < 64) (h64:t < 64) (hown:(own p).getLsbD f=true) (hk:N106 (p.board.getD f 0)≠1):N160 p f t=(N177 (p,own p,oth p) f).getLsbD t:=by
  obtain ⟨b0,b1⟩:=bd_in hp f
  obtain ⟨m91,_,_,mm,mk⟩:=men' b0 b1
  have e1:=N132_bit hp ht ht hf
  have e2:=N132_bit hp ht ht h64
  have ho:N101 p p.turn 0=own p:=rfl
  rw [ho] at e1 e2
  rw [hown] at e1
  have hocc:=fun s hs=>occ_iff hp ht (s:=s) hs
  have hne:N106 (p.board.getD f 0)≠0:=fun e=>by
    have:=(occ_iff hp ht hf).2 e
    rw [BitVec.getLsbD_or,hown] at this
    cases this
  have h26:2≤N106 (p.board.getD f 0)∧N106 (p.board.getD f 0)≤6:=by omega
  have hit:=hits_bit (p:=p) (occ:=own p|||oth p) hocc hf h64 h26
  have emp:=N134_bit hp ht h64
  unfold N160 N177
  dsimp only
  rw [e1,e2,show (scale 1 (f:Int)).toNat=f by unfold scale; simp,m91,hit,emp]
  unfold hitBits
  have hft:((f:Int)==(t:Int))=decide (f=t):=by
    rw [Bool.eq_iff_iff]; simp; omega
  rw [hft]
  generalize N106 (p.board.getD f 0)=k at *
  have hk':k=2∨k=3∨k=4∨k=5∨k=6:=by omega
  by_cases hts:f=t
  · subst hts
    rw [decide_eq_true rfl]
    have hz:∀ X:BitVec 64,(X &&& ~~~own p).getLsbD f=false:=fun X=>by
      rw [BitVec.getLsbD_and,BitVec.getLsbD_not,hown]; simp
    rcases hk' with rfl | rfl | rfl | rfl | rfl
    · exact (hz _).symm
    · exact (hz _).symm
    · exact (hz _).symm
    · exact (hz _).symm
    · show false=(bif p.variant==3 then _ else _:BitVec 64).getLsbD f
      cases p.variant==3
      · exact (hz _).symm
      · exact (hz _).symm
  · rw [decide_eq_false hts]
    have hz:∀ X:BitVec 64,(X &&& ~~~own p).getLsbD t=(!(own p).getLsbD t&&X.getLsbD t):=fun X=>by
      rw [BitVec.getLsbD_and,BitVec.getLsbD_not,Bool.and_comm]; simp [h64]
    rcases hk' with rfl | rfl | rfl | rfl | rfl
    · show (bif (own p).getLsbD t then false else (N198 f).getLsbD t)=(N198 f &&& ~~~own p).getLsbD t
      rw [hz]; cases (own p).getLsbD t <;> rfl
    · show (bif (own p).getLsbD t then false else (N199 f (own p|||oth p)).getLsbD t)=(N199 f (own p|||oth p) &&& ~~~own p).getLsbD t
      rw [hz]; cases (own p).getLsbD t <;> rfl
    · show (bif (own p).getLsbD t then false else (N200 f (own p|||oth p)).getLsbD t)=(N200 f (own p|||oth p) &&& ~~~own p).getLsbD t
      rw [hz]; cases (own p).getLsbD t <;> rfl
    · show (bif (own p).getLsbD t then false else (N201 f (own p|||oth p)).getLsbD t)=(N201 f (own p|||oth p) &&& ~~~own p).getLsbD t
      rw [hz]; cases (own p).getLsbD t <;> rfl
    · show (bif (own p).getLsbD t then false else (bif (N149 f).getLsbD t then (bif p.variant != 3 then true else !(own p|||oth p).getLsbD t) else false))=(bif p.variant==3 then N149 f &&& ~~~oth p &&& ~~~own p else N149 f &&& ~~~own p).getLsbD t
      rw [BitVec.getLsbD_or]
      by_cases hv:p.variant=3
      · rw [show (p.variant != 3)=false by simp [hv],show (p.variant==3)=true by simp [hv]]
        show _=(N149 f &&& ~~~oth p &&& ~~~own p).getLsbD t
        rw [hz,BitVec.getLsbD_and,BitVec.getLsbD_not]
        simp only [h64,decide_true,Bool.true_and,cond_false]
        cases (own p).getLsbD t <;> cases (oth p).getLsbD t <;> cases (N149 f).getLsbD t <;> rfl
      · rw [show (p.variant != 3)=true by simpa using hv,show (p.variant==3)=false by simpa using hv]
        show _=(N149 f &&& ~~~own p).getLsbD t
        rw [hz]
        cases (own p).getLsbD t <;> cases (N149 f).getLsbD t <;> rfl
end
theorem bit_test (x:BitVec 64) {k:Nat} (hk:k < 64):(x >>> k&&&1#64==1#64)=x.getLsbD k:=by
  have h:(x >>> k&&&1#64).toNat=(x.getLsbD k).toNat:=by
    rw [BitVec.toNat_and,BitVec.toNat_ushiftRight,Nat.shiftRight_eq_div_pow,show (1#64).toNat=2 ^ 1 - 1 from rfl,Nat.and_two_pow_sub_one_eq_mod,BitVec.getLsbD,Nat.testBit_eq_decide_div_mod_eq]
    have:=Nat.mod_two_eq_zero_or_one (x.toNat / 2 ^ k)
    rcases this with h | h
    · rw [show (2:Nat) ^ 1=2 from rfl,h]; rfl
    · rw [show (2:Nat) ^ 1=2 from rfl,h]; rfl
  cases hb:x.getLsbD k with
  | true =>
    rw [hb] at h
    have:x >>> k&&&1#64=1#64:=BitVec.eq_of_toNat_eq h
    rw [this]; rfl
  | false =>
    rw [hb] at h
    have:x >>> k&&&1#64=0#64:=BitVec.eq_of_toNat_eq h
    rw [this]; rfl
theorem pawn_fin:∀ (c:Fin 2) (f t:Fin 64),hitsF 1 c.val f.val t.val false=(N100 c.val f.val).getLsbD t.val:=by decide +kernel
theorem rank_fin:∀ (c:Fin 2) (f:Fin 64),N202 c.val f.val=N161 c.val f.val∧(N202 c.val f.val≠7→0≤N90 c.val f.val∧N90 c.val f.val < 64)∧N90 c.val f.val=f.val+N135 c.val∧(N202 c.val f.val=1∨N202 c.val f.val=0→N90 c.val (N90 c.val f.val)=f.val+2 * N135 c.val∧0≤N90 c.val (N90 c.val f.val)∧N90 c.val (N90 c.val f.val) < 64)∧(N202 c.val f.val=7→N90 c.val f.val < 0∨64≤N90 c.val f.val)∧(N135 c.val=8∨N135 c.val = -8):=by decide +kernel
theorem aside_fin:∀ (c:Fin 2) (f t:Fin 64),(N100 c.val f.val).getLsbD t.val=true→(t.val:Int)≠f.val+N135 c.val∧(t.val:Int)≠f.val+2 * N135 c.val:=by decide +kernel
theorem bit_at {n:Int} (h0:0≤n) (h1:n < 64) {t:Nat} (ht:t < 64):(1#64 <<< (BitVec.ofInt 64 n).toNat).getLsbD t=decide ((t:Int)=n):=by
  rw [one_bit ht,ofInt_nat h0 (by omega),Bool.eq_iff_iff]
  simp
  omega
section
variable {p:Pos} (hp:PosIn p) (ht:p.turn=0∨p.turn=1)
include hp ht
theorem pawn_may {f t:Nat} (hf:f < 64) (h64:t < 64) (hown:(own p).getLsbD f=true) (hk:N106 (p.board.getD f 0)=1):N160 p f t=(N177 (p,own p,oth p) f).getLsbD t:=by
  obtain ⟨b0,b1⟩:=bd_in hp f
  obtain ⟨m91,m0,m1,_,_⟩:=men' b0 b1
  have e1:=N132_bit hp ht ht hf
  have e2:=N132_bit hp ht ht h64
  have ho:N101 p p.turn 0=own p:=rfl
  rw [ho] at e1 e2
  rw [hown] at e1
  have hcol:N107 (p.board.getD f 0)=p.turn:=by
    have:tOf p.turn 0 (p.board.getD f 0)=true:=by
      rw [← N101_bit p p.turn 0 hf]; exact hown
    rcases ht with h | h
    · rw [h,m0] at this
      rw [h]
      simp only [Bool.and_eq_true,beq_iff_eq] at this
      exact this.2
    · rw [h,m1] at this
      rw [h]
      simp only [Bool.and_eq_true,beq_iff_eq] at this
      exact this.2
  have w1:wr .u8 (1 - p.turn)=1 - p.turn:=wu8 (by omega) (by omega)
  have e3:N132 p t (wr .u8 (1 - p.turn))=(oth p).getLsbD t:=by
    rw [w1,N132_bit hp ht (by omega) h64,oth_eq hp ht]
  have hsf:(scale 1 (f:Int)).toNat=f:=by unfold scale; simp
  have emp:=fun s hs=>N134_bit hp ht (s:=s) hs
  obtain ⟨c,hc⟩:∃ c:Fin 2,p.turn=c.val:=by
    rcases ht with h | h
    · exact ⟨0,h⟩
    · exact ⟨1,h⟩
  have hat:=pawn_fin c ⟨f,hf⟩ ⟨t,h64⟩
  obtain ⟨r1,r2,r3,r4,r5,r6⟩:=rank_fin c ⟨f,hf⟩
  have hz:=aside_fin c ⟨f,hf⟩ ⟨t,h64⟩
  simp only at hat r1 r2 r3 r4 r5 r6 hz
  rw [← hc] at hat r1 r2 r3 r4 r5 r6 hz
  have hA:N159 p f t=(N100 p.turn f).getLsbD t:=by
    rw [N159_eq,hsf,hk,hcol,← hat]
    rfl
  have p0:=hp.p0
  have p1:=hp.p1
  have wp:wr .i64 p.passing=p.passing:=wi64 (by omega) (by omega)
  have hP:(N210 (p,own p,oth p)).getLsbD t=(p.passing==(t:Int)):=by
    unfold N210
    refine c_ind (P:=fun x:BitVec 64=>x.getLsbD t=_) (fun h => ?_) fun h=>c_ind (P:=fun x:BitVec 64=>x.getLsbD t=_) (fun h2 => ?_) fun h2 => ?_
    · have h:p.passing < 0:=by simpa using h
      rw [show (p.passing==(t:Int))=false by simp; omega]; simp
    · have h2:p.passing ≥ 64:=by simpa using h2
      rw [show (p.passing==(t:Int))=false by simp; omega]; simp
    · have h:0≤p.passing:=by simpa using h
      have h2:p.passing < 64:=by simpa using h2
      show (1#64 <<< (BitVec.ofInt 64 p.passing).toNat).getLsbD t=_
      rw [bit_at h h2 h64,Bool.eq_iff_iff]
      simp
      omega
  unfold N160 N177
  dsimp only
  rw [e1,e2,hsf,m91,hk]
  show (bif (f:Int)==(t:Int) then false else bif (own p).getLsbD t then false else N193 p f t)=(N197 (p,own p,oth p) f &&& ~~~own p).getLsbD t
  rw [BitVec.getLsbD_and,BitVec.getLsbD_not]
  by_cases hft:f=t
  · subst hft
    rw [hown]; simp
  · rw [show ((f:Int)==(t:Int))=false by simp; omega,cond_false]
    cases hW:(own p).getLsbD t with
    | true=>simp
    | false =>
      simp only [cond_false,h64,decide_true,Bool.not_false,Bool.and_true]
      have hoc:(own p|||oth p).getLsbD t=(oth p).getLsbD t:=by rw [BitVec.getLsbD_or,hW,Bool.false_or]
      unfold N193 N197
      dsimp only
      rw [hA,e3,wp,← r1]
      have wup:wr .i64 ((f:Int)+N135 p.turn)=f+N135 p.turn:=wi64 (by omega) (by omega)
      have wup2:wr .i64 (2 * N135 p.turn)=2 * N135 p.turn:=wi64 (by omega) (by omega)
      have wup3:wr .i64 ((f:Int)+2 * N135 p.turn)=f+2 * N135 p.turn:=wi64 (by omega) (by omega)
      rw [wup2,wup,wup3,show (Pos.mk p.variant p.board p.promoted p.pockets p.turn p.rooks p.passing p.checks p.half p.full,own p,oth p)=(p,own p,oth p) from rfl]
      have hatt:∀ X:BitVec 64,X=N100 p.turn f&&&(oth p|||N210 (p,own p,oth p))→X.getLsbD t=((N100 p.turn f).getLsbD t&&((oth p).getLsbD t || (p.passing==(t:Int)))):=fun X hX=>by
        rw [hX,BitVec.getLsbD_and,BitVec.getLsbD_or,hP]
      generalize hXX:N100 p.turn f&&&(oth p|||N210 (p,own p,oth p))=X at *
      have hatt:=hatt X rfl
      have hpass:(p.passing==(t:Int))=((p.passing:Int)==t):=rfl
      generalize (N100 p.turn f).getLsbD t=A at *
      by_cases h7:N202 p.turn f=7
      · rw [h7]
        have:=r5 h7
        rw [show ((7:Int)==7)=true from rfl,cond_true,hatt,emp t h64,hoc]
        cases A
        · rw [show ((t:Int)==(f:Int)+N135 p.turn)=false by simp; omega]
          cases ((t:Int)==(f:Int)+2 * N135 p.turn) <;> rfl
        · cases (oth p).getLsbD t <;> cases (p.passing==(t:Int)) <;> rfl
      · obtain ⟨a0,a1⟩:=r2 h7
        rw [show (N202 p.turn f==7)=false by simpa using h7,cond_false,ofInt_nat a0 (by omega),bit_test _ (by omega)]
        obtain ⟨s,hs⟩:=Int.eq_ofNat_of_zero_le a0
        have hs64:s < 64:=by omega
        rw [show (N90 p.turn f).toNat=s by omega,show (f:Int)+N135 p.turn=(s:Int) by omega,emp s hs64,emp t h64]
        have hb1:(1#64 <<< s).getLsbD t=((t:Int)==(s:Int)):=by
          rw [one_bit h64,Bool.eq_iff_iff]; simp; omega
        have hb2:(N202 p.turn f=1∨N202 p.turn f=0)→(1#64 <<< (BitVec.ofInt 64 (N90 p.turn (N90 p.turn f))).toNat).getLsbD t=((t:Int)==(f:Int)+2 * N135 p.turn):=fun h=>by
          obtain ⟨c1,c2,c3⟩:=r4 h
          rw [bit_at c2 c3 h64,c1,Bool.eq_iff_iff]
          simp
        generalize 1#64 <<< (BitVec.ofInt 64 (N90 p.turn (N90 p.turn f))).toNat=Y at hb2 ⊢
        have q1:((t:Int)==(s:Int))=true→A=false∧(own p|||oth p).getLsbD t=(own p|||oth p).getLsbD s:=fun h=>by
          have h:(t:Int)=s:=by simpa using h
          refine ⟨?_,by rw [show t=s by omega]⟩
          cases hA':A with
          | false=>rfl
          | true=>exact absurd (by omega) (hz hA').1
        have q2:((t:Int)==(f:Int)+2 * N135 p.turn)=true→A=false:=fun h=>by
          have h:(t:Int)=f+2 * N135 p.turn:=by simpa using h
          cases hA':A with
          | false=>rfl
          | true=>exact absurd h (hz hA').2
        generalize ((t:Int)==(s:Int))=u at *
        generalize ((t:Int)==(f:Int)+2 * N135 p.turn)=u2 at *
        have rhs1:(X|||1#64 <<< s).getLsbD t=(X.getLsbD t || u):=by rw [BitVec.getLsbD_or,hb1]
        have rhs2:(N202 p.turn f=1∨N202 p.turn f=0)→(X|||1#64 <<< s|||Y &&& ~~~(own p|||oth p)).getLsbD t=(X.getLsbD t || u || (u2&&!(own p|||oth p).getLsbD t)):=fun h=>by
          rw [BitVec.getLsbD_or,BitVec.getLsbD_or,BitVec.getLsbD_and,BitVec.getLsbD_not,hb1,hb2 h]
          simp only [h64,decide_true,Bool.true_and]
        generalize (own p|||oth p).getLsbD t=ot at *
        generalize (own p|||oth p).getLsbD s=os at *
        generalize (oth p).getLsbD t=O at *
        generalize (p.passing==(t:Int))=P at *
        by_cases g1:N202 p.turn f=1
        · rw [show (N202 p.turn f==1)=true by simpa using g1]
          simp only [cond_true]
          cases os
          · rw [cond_false,rhs2 (.inl g1),hatt]
            revert q1 q2
            cases A <;> cases u <;> cases u2 <;> cases ot <;> cases O <;> cases P <;> simp
          · rw [cond_true,hatt]
            revert q1 q2
            cases A <;> cases u <;> cases u2 <;> cases ot <;> cases O <;> cases P <;> simp
        · rw [show (N202 p.turn f==1)=false by simpa using g1]
          simp only [cond_false]
          by_cases g0:N202 p.turn f=0
          · rw [show (N202 p.turn f==0)=true by simpa using g0]
            simp only [cond_true]
            cases hv:(p.variant==7) <;> cases htn:(p.turn==0) <;> cases os <;> simp only [cond_true,cond_false,rhs1,rhs2 (.inr g0),hatt] <;> revert q1 q2 <;> cases A <;> cases u <;> cases u2 <;> cases ot <;> cases O <;> cases P <;> simp
          · rw [show (N202 p.turn f==0)=false by simpa using g0]
            simp only [cond_false]
            cases os
            · rw [cond_false,rhs1,hatt]
              revert q1 q2
              cases A <;> cases u <;> cases u2 <;> cases ot <;> cases O <;> cases P <;> simp
            · rw [cond_true,hatt]
              revert q1 q2
              cases A <;> cases u <;> cases u2 <;> cases ot <;> cases O <;> cases P <;> simp
end
end Kz
end
section
namespace Kz
open Go Go.RowKit Go.Proofs
set_option maxRecDepth 100000
set_option maxHeartbeats 4000000
noncomputable def K19:List (Nat×Nat×List (Nat×List Nat)):=[(19,11,[(0,[1,7,8,9]),(1,[2])])]
noncomputable def B19:Base:=baseOf Pz (fun f i=>lkC f i K19) [] [] []
theorem hB19:BOk B19:=base_ok named_z trivial trivial trivial
noncomputable def N19 (a:Pos):Bool:=(bif decide (a.variant < 9) then (decide (a.turn < 2)) else (false))
noncomputable def ok19 (a:Pos):Bool:=true
theorem P19 (a:Pos) (h:ok19 a=true):PS Pz 19 [Pos.av a] (dB.res (N19 a)):=ps_sum (n:=14) hB19 (by kernel_rfl) (by kernel_rfl) (by kernel_rfl) h
noncomputable def G19:List AV→Tr AV:=g1 dPos (fun a=>.ret (dB.res (N19 a)))
theorem s19:Sound Pz 19 G19:=sound1 fun a=>at_rt (P19 a rfl)
noncomputable def K162:List (Nat×Nat×List (Nat×List Nat)):=[(162,11,[(0,[0]),(1,[0,3]),(2,[2]),(3,[7]),(4,[2]),(5,[2])])]
noncomputable def B162:Base:=baseOf Pz (fun f i=>lkC f i K162) [] [] []
theorem hB162:BOk B162:=base_ok named_z trivial trivial trivial
noncomputable def N162 (a:Int):List Int:=(bif a==4 then [(2),(3),(4),(5),(6)] else (bif decide (a < 8) then [(2),(3),(4),(5)] else ([])))
noncomputable def ok162 (a:Int):Bool:=true
theorem P162 (a:Int) (h:ok162 a=true):PS Pz 162 [.int .u8 a] ((dL (.i .u8)).res (N162 a)):=ps_sum (n:=14) hB162 (by kernel_rfl) (by kernel_rfl) (by kernel_rfl) h
noncomputable def G162:List AV→Tr AV:=g1 (dI .u8) (fun a=>.ret ((dL (.i .u8)).res (N162 a)))
theorem s162:Sound Pz 162 G162:=sound1 fun a=>at_rt (P162 a rfl)
noncomputable def K113:List (Nat×Nat×List (Nat×List Nat)):=[(113,67,[(0,(1::(rn 38 5 []))),(1,(1::3::(rn 38 5 []))),(2,(1::3::11::(rn 38 5 []))),(3,[2]),(4,(1::3::4::(rn 38 5 []))),(5,(1::3::4::14::(rn 38 5 []))),(6,(1::3::4::(rn 38 5 []))),(7,(1::3::4::5::(rn 38 5 []))),(8,(1::3::4::5::18::(rn 38 5 []))),(9,(1::3::4::5::(rn 38 5 []))),(10,(1::3::4::5::25::(rn 38 5 []))),(11,(1::(rn 3 4 (rn 38 5 [])))),(12,(1::(rn 3 4 (rn 38 6 [])))),(13,(1::3::4::5::(rn 38 5 []))),(14,(1::(rn 3 5 (rn 38 5 [])))),(15,(1::(rn 3 6 (rn 38 5 [])))),(16,(1::(rn 3 6 (rn 38 5 [54])))),(17,(1::(rn 3 6 (rn 38 5 [])))),(18,(1::(rn 3 6 (rn 38 5 [])))),(19,(1::(rn 3 6 (rn 38 5 [])))),(20,[2])])]
noncomputable def B113_4:Base:=baseOf Pz (fun f i=>lkC f i K113) [(19,G19),(106,G106),(160,G160),(161,G161),(162,G162)] [] []
theorem hB113_4:BOk B113_4:=base_ok named_z ⟨s19,s106,s160,s161,s162,trivial⟩ trivial trivial
noncomputable def S113_4 (p1:Int) (p2:Int) (p3:(List Int)) (p4:Int) (p5:Int) (p6:Bool) (p7:Pos) (p8:Nat) (x:((List Mv)×Int×Mv)):St:=St.mk (AV.any::AV.ptr 0 0::AV.any::AV.list ET.mv x.fst (Tk.own 1)::AV.int .i64 p1::AV.int .i64 p2::AV.ptr 1 0::AV.list (ET.i .u8) p3 Tk.fresh::AV.int .i64 x.snd.fst::(an 29 (AV.ptr 0 78::AV.int .u8 p4::AV.int .i64 p2::AV.int .i64 p5::AV.bool p6::(an 24 [])))) (Hp.mk [(pc p7 []),[AV.int .i8 x.snd.snd.frm,AV.int .i8 x.snd.snd.to,AV.int .u8 x.snd.snd.pro,AV.int .u8 x.snd.snd.drp,AV.bool x.snd.snd.cas]] [p8,x.fst.length] [] 0 0 0)
noncomputable def O113_4 (p1:Int) (p2:Int) (p3:(List Int)) (p4:Int) (p5:Int) (p6:Bool) (p7:Pos) (p8:Nat):((List Mv)×Int×Bool×Mv)→Out:=fun y=>.exit 4 (St.mk (AV.any::AV.ptr 0 0::AV.any::AV.list ET.mv y.fst (Tk.own 1)::AV.int .i64 p1::AV.int .i64 p2::AV.ptr 1 0::AV.list (ET.i .u8) p3 Tk.fresh::AV.int .i64 y.snd.fst::(an 29 (AV.ptr 0 78::AV.int .u8 p4::AV.int .i64 p2::AV.int .i64 p5::AV.bool p6::(an 11 (AV.bool y.snd.snd.fst::(an 12 [])))))) (Hp.mk [(pc p7 []),[AV.int .i8 y.snd.snd.snd.frm,AV.int .i8 y.snd.snd.snd.to,AV.int .u8 y.snd.snd.snd.pro,AV.int .u8 y.snd.snd.snd.drp,AV.bool y.snd.snd.snd.cas]] [p8,y.fst.length] [] 0 0 0))
noncomputable def st113_4 (p1:Int) (p2:Int) (p3:(List Int)) (p4:Int) (p5:Int) (p6:Bool) (p7:Pos) (p8:Nat) (x:((List Mv)×Int×Mv)):Stp ((List Mv)×Int×Mv) (((List Mv)×Int×Bool×Mv)):=(bif decide (x.snd.fst < Int.ofNat p3.length) then (Stp.go (x.fst++[Mv.mk x.snd.snd.frm x.snd.snd.to (p3.getD x.snd.fst.toNat default) x.snd.snd.drp x.snd.snd.cas],wr .i64 (x.snd.fst+1),Mv.mk x.snd.snd.frm x.snd.snd.to (p3.getD x.snd.fst.toNat default) x.snd.snd.drp x.snd.snd.cas)) else (Stp.out ((x.fst,x.snd.fst,decide (x.snd.fst < Int.ofNat p3.length),x.snd.snd))))
noncomputable def okL113_4 (p1:Int) (p2:Int) (p3:(List Int)) (p4:Int) (p5:Int) (p6:Bool) (p7:Pos) (p8:Nat) (x:((List Mv)×Int×Mv)):Bool:=(bif decide (x.snd.fst < Int.ofNat p3.length) then (decide (0≤x.snd.fst)&&decide (x.snd.fst < Int.ofNat p3.length)&&(x.fst.length==x.fst.length&&decide (x.fst.length+1≤1073741824)&&true)) else true)
noncomputable def lp113_4 (p1:Int) (p2:Int) (p3:(List Int)) (p4:Int) (p5:Int) (p6:Bool) (p7:Pos) (p8:Nat) (x:((List Mv)×Int×Mv)):Option (((List Mv)×Int×Bool×Mv)):=itl (fun x=>bif okL113_4 p1 p2 p3 p4 p5 p6 p7 p8 x then st113_4 p1 p2 p3 p4 p5 p6 p7 p8 x else .bad) many x
abbrev D113_4 {α:Type} (k:Int→Int→(List Int)→Int→Int→Bool→Pos→Nat→((List Mv)×Int×Mv)→α) (s:St):α:=wP s 0 fun q0=>wM s 1 fun q1=>k (tI (tT s 4)) (tI (tT s 5)) (tL (ET.i .u8) (tT s 7)) (tI (tT s 39)) (tI (tT s 41)) (tB (tT s 42)) q0 (tK s 0) ((tL (ET.mv) (tT s 3)),(tI (tT s 8)),q1)
theorem L113_4 (p1:Int) (p2:Int) (p3:(List Int)) (p4:Int) (p5:Int) (p6:Bool) (p7:Pos) (p8:Nat) (x:((List Mv)×Int×Mv)) (r:((List Mv)×Int×Bool×Mv)) (h:lp113_4 p1 p2 p3 p4 p5 p6 p7 p8 x=some r):LSpec Pz (bodL Pz 113 16) (S113_4 p1 p2 p3 p4 p5 p6 p7 p8 x) (O113_4 p1 p2 p3 p4 p5 p6 p7 p8 r):=LSpec.smd (m:=12) (fn:=113) hB113_4 (D113_4 fun _ _ _ _ _ _ _ _ x=>some x) (fun o=>match o with | .exit 4 s=>wM s 1 fun q1=>some ((tL ET.mv (tT s 3)),(tI (tT s 8)),(tB (tT s 54)),q1) | _=>none) (fun _=>rfl) (fun _=>by kernel_rfl) (fun _=>by kernel_rfl) (fun _=>by kernel_rfl) (fun _=>by kernel_rfl) many x r h
noncomputable def F113_4 (b:Code) (s:St):Tr Out:=D113_4 (fun p1 p2 p3 p4 p5 p6 p7 p8 x=>lk1 b (bodL Pz 113 16) s (S113_4 p1 p2 p3 p4 p5 p6 p7 p8 x) (lp113_4 p1 p2 p3 p4 p5 p6 p7 p8 x) (O113_4 p1 p2 p3 p4 p5 p6 p7 p8)) s
theorem sF113_4:∀ b,LSound Pz b (F113_4 b):=fun _ _ _ h=>lk1_ok (L113_4 _ _ _ _ _ _ _ _ _) h
noncomputable def B113_5:Base:=baseOf Pz (fun f i=>lkC f i K113) [(19,G19),(106,G106),(160,G160),(161,G161),(162,G162)] [(113,16,F113_4)] []
theorem hB113_5:BOk B113_5:=base_ok named_z ⟨s19,s106,s160,s161,s162,trivial⟩ ⟨sF113_4,trivial⟩ trivial
noncomputable def S113_5 (p1:Int) (p2:Pos) (p3:Nat) (x:((List Mv)×Int)):St:=St.mk (AV.any::AV.ptr 0 0::AV.any::AV.list ET.mv x.fst (Tk.own 1)::AV.int .i64 p1::AV.int .i64 x.snd::(an 61 [])) (Hp.mk [(pc p2 [])] [p3,x.fst.length] [] 0 0 0)
noncomputable def O113_5 (p1:Int) (p2:Pos) (p3:Nat):((List Mv)×Int×Bool)→Out:=fun y=>.exit 2 (St.mk (AV.any::AV.ptr 0 0::AV.any::AV.list ET.mv y.fst (Tk.own 1)::AV.int .i64 p1::AV.int .i64 y.snd.fst::(an 12 (AV.bool y.snd.snd::(an 48 [])))) (Hp.mk [(pc p2 [])] [p3,y.fst.length] [] 0 0 0))
noncomputable def st113_5 (p1:Int) (p2:Pos) (p3:Nat) (x:((List Mv)×Int)):Stp ((List Mv)×Int) (((List Mv)×Int×Bool)):=(bif decide (x.snd < 64) then (bif !N160 p2 p1 x.snd then (Stp.go (x.fst,wr .i64 (x.snd+1))) else (bif N106 (p2.board.getD (scale 1 p1).toNat 0) != 1 then (Stp.go (x.fst++[Mv.mk (wr .i8 p1) (wr .i8 x.snd) 0 0 false],wr .i64 (x.snd+1))) else (bif N161 p2.turn x.snd != 7 then (Stp.go (x.fst++[Mv.mk (wr .i8 p1) (wr .i8 x.snd) 0 0 false],wr .i64 (x.snd+1))) else (Stp.go (((lp113_4 p1 x.snd (N162 p2.variant) p2.turn (N161 p2.turn x.snd) (N161 p2.turn x.snd != 7) p2 p3 (x.fst,0,Mv.mk (wr .i8 p1) (wr .i8 x.snd) 0 0 false)).getD default).fst,wr .i64 (x.snd+1)))))) else (Stp.out ((x.fst,x.snd,decide (x.snd < 64)))))
noncomputable def okL113_5 (p1:Int) (p2:Pos) (p3:Nat) (x:((List Mv)×Int)):Bool:=(bif decide (x.snd < 64) then (ok160 (p2) (p1) (x.snd)&&(bif !N160 p2 p1 x.snd then true else (decide (0≤p1)&&decide (p1 < Int.ofNat 64)&&(bif N106 (p2.board.getD (scale 1 p1).toNat 0) != 1 then (x.fst.length==x.fst.length&&decide (x.fst.length+1≤1073741824)&&true) else (bif N161 p2.turn x.snd != 7 then (x.fst.length==x.fst.length&&decide (x.fst.length+1≤1073741824)&&true) else ((lp113_4 p1 x.snd (N162 p2.variant) p2.turn (N161 p2.turn x.snd) (N161 p2.turn x.snd != 7) p2 p3 (x.fst,0,Mv.mk (wr .i8 p1) (wr .i8 x.snd) 0 0 false)).isSome&&true)))))) else true)
noncomputable def lp113_5 (p1:Int) (p2:Pos) (p3:Nat) (x:((List Mv)×Int)):Option (((List Mv)×Int×Bool)):=itl (fun x=>bif okL113_5 p1 p2 p3 x then st113_5 p1 p2 p3 x else .bad) many x
abbrev D113_5 {α:Type} (k:Int→Pos→Nat→((List Mv)×Int)→α) (s:St):α:=wP s 0 fun q0=>k (tI (tT s 4)) q0 (tK s 0) ((tL (ET.mv) (tT s 3)),(tI (tT s 5)))
theorem L113_5 (p1:Int) (p2:Pos) (p3:Nat) (x:((List Mv)×Int)) (r:((List Mv)×Int×Bool)) (h:lp113_5 p1 p2 p3 x=some r):LSpec Pz (bodL Pz 113 8) (S113_5 p1 p2 p3 x) (O113_5 p1 p2 p3 r):=LSpec.smd (m:=12) (fn:=113) hB113_5 (D113_5 fun _ _ _ x=>some x) (fun o=>match o with | .exit 2 s=>some ((tL ET.mv (tT s 3)),(tI (tT s 5)),(tB (tT s 18))) | _=>none) (fun _=>rfl) (fun _=>by kernel_rfl) (fun _=>by kernel_rfl) (fun _=>by kernel_rfl) (fun _=>by kernel_rfl) many x r h
noncomputable def F113_5 (b:Code) (s:St):Tr Out:=D113_5 (fun p1 p2 p3 x=>lk1 b (bodL Pz 113 8) s (S113_5 p1 p2 p3 x) (lp113_5 p1 p2 p3 x) (O113_5 p1 p2 p3)) s
theorem sF113_5:∀ b,LSound Pz b (F113_5 b):=fun _ _ _ h=>lk1_ok (L113_5 _ _ _ _) h
noncomputable def B113_6:Base:=baseOf Pz (fun f i=>lkC f i K113) [(19,G19),(106,G106),(160,G160),(161,G161),(162,G162)] [(113,16,F113_4),(113,8,F113_5)] []
theorem hB113_6:BOk B113_6:=base_ok named_z ⟨s19,s106,s160,s161,s162,trivial⟩ ⟨sF113_4,sF113_5,trivial⟩ trivial
noncomputable def S113_6 (p1:Pos) (p2:Nat) (x:((List Mv)×Int)):St:=St.mk (AV.any::AV.ptr 0 0::AV.any::AV.list ET.mv x.fst (Tk.own 1)::AV.int .i64 x.snd::(an 62 [])) (Hp.mk [(pc p1 [])] [p2,x.fst.length] [] 0 0 0)
noncomputable def O113_6 (p1:Pos) (p2:Nat):((List Mv)×Int×Bool)→Out:=fun y=>.exit 0 (St.mk (AV.any::AV.ptr 0 0::AV.any::AV.list ET.mv y.fst (Tk.own 1)::AV.int .i64 y.snd.fst::(an 9 (AV.bool y.snd.snd::(an 52 [])))) (Hp.mk [(pc p1 [])] [p2,y.fst.length] [] 0 0 0))
noncomputable def st113_6 (p1:Pos) (p2:Nat) (x:((List Mv)×Int)):Stp ((List Mv)×Int) (((List Mv)×Int×Bool)):=(bif decide (x.snd < 64) then (Stp.go (((lp113_5 x.snd p1 p2 (x.fst,0)).getD default).fst,wr .i64 (x.snd+1))) else (Stp.out ((x.fst,x.snd,decide (x.snd < 64)))))
noncomputable def okL113_6 (p1:Pos) (p2:Nat) (x:((List Mv)×Int)):Bool:=(bif decide (x.snd < 64) then ((lp113_5 x.snd p1 p2 (x.fst,0)).isSome&&true) else true)
noncomputable def lp113_6 (p1:Pos) (p2:Nat) (x:((List Mv)×Int)):Option (((List Mv)×Int×Bool)):=itl (fun x=>bif okL113_6 p1 p2 x then st113_6 p1 p2 x else .bad) many x
abbrev D113_6 {α:Type} (k:Pos→Nat→((List Mv)×Int)→α) (s:St):α:=wP s 0 fun q0=>k q0 (tK s 0) ((tL (ET.mv) (tT s 3)),(tI (tT s 4)))
theorem L113_6 (p1:Pos) (p2:Nat) (x:((List Mv)×Int)) (r:((List Mv)×Int×Bool)) (h:lp113_6 p1 p2 x=some r):LSpec Pz (bodL Pz 113 5) (S113_6 p1 p2 x) (O113_6 p1 p2 r):=LSpec.smd (m:=12) (fn:=113) hB113_6 (D113_6 fun _ _ x=>some x) (fun o=>match o with | .exit 0 s=>some ((tL ET.mv (tT s 3)),(tI (tT s 4)),(tB (tT s 14))) | _=>none) (fun _=>rfl) (fun _=>by kernel_rfl) (fun _=>by kernel_rfl) (fun _=>by kernel_rfl) (fun _=>by kernel_rfl) many x r h
noncomputable def F113_6 (b:Code) (s:St):Tr Out:=D113_6 (fun p1 p2 x=>lk1 b (bodL Pz 113 5) s (S113_6 p1 p2 x) (lp113_6 p1 p2 x) (O113_6 p1 p2)) s
theorem sF113_6:∀ b,LSound Pz b (F113_6 b):=fun _ _ _ h=>lk1_ok (L113_6 _ _ _) h
noncomputable def B113:Base:=baseOf Pz (fun f i=>lkC f i K113) [(19,G19),(106,G106),(160,G160),(161,G161),(162,G162)] [(113,16,F113_4),(113,8,F113_5),(113,5,F113_6)] []
theorem hB113:BOk B113:=base_ok named_z ⟨s19,s106,s160,s161,s162,trivial⟩ ⟨sF113_4,sF113_5,sF113_6,trivial⟩ trivial
noncomputable def N113 (a:Pos):List Mv:=(bif !N19 a then ([]) else (((lp113_6 a 0 ([],0)).getD default).fst))
noncomputable def ok113 (a:Pos):Bool:=(bif !N19 a then true else ((lp113_6 a 0 ([],0)).isSome&&true))
theorem P113 (a:Pos) (h:ok113 a=true):PS Pz 113 [Pos.av a] ((dL .mv).res (N113 a)):=ps_sum (n:=14) hB113 (by kernel_rfl) (by kernel_rfl) (by kernel_rfl) h
noncomputable def G113:List AV→Tr AV:=g1 dPos (fun a=>gdv (ok113 a) ((dL .mv).res (N113 a)))
theorem s113:Sound Pz 113 G113:=sound1 fun a=>at_gd (P113 a)
end Kz
end
section
namespace Kz
open Go Go.RowKit
set_option maxRecDepth 100000
set_option maxHeartbeats 1000000
set_option linter.unusedSectionVars false
theorem line_fin:∀ a b:Fin 64,(eqOut BinOp.neq ((upR a.val b.val==0)==(N191 (asR a.val b.val)==0))=true→strB a.val b.val=true)∧((N191 (upR a.val b.val)==N191 (asR a.val b.val))=true→decide (N191 (asR a.val b.val) > 0)=true→acrB a.val b.val=true):=by decide +kernel
section
variable {p:Pos} (hp:PosIn p) (ht:p.turn=0∨p.turn=1)
include hp ht
theorem t192 {a b:Nat} (ha:a < 64) (h:strB a b=true∨acrB a b=true):ok192 p a b=true:=by
  have hocc:=fun s hs=>occ_iff hp ht (s:=s) hs
  have:∃ d,d < 8∧b ∈ ray a d:=by
    unfold strB acrB at h
    simp only [Bool.or_eq_true,decide_eq_true_eq] at h
    rcases h with (((h | h) | h) | h) | (((h | h) | h) | h)
    · exact ⟨0,by decide,h⟩
    · exact ⟨2,by decide,h⟩
    · exact ⟨4,by decide,h⟩
    · exact ⟨6,by decide,h⟩
    · exact ⟨1,by decide,h⟩
    · exact ⟨3,by decide,h⟩
    · exact ⟨5,by decide,h⟩
    · exact ⟨7,by decide,h⟩
  obtain ⟨d,hd,hb⟩:=this
  exact (N192_seen p hocc ha hd hb).1
theorem t159 {a b:Nat} (ha:a < 64) (hb:b < 64):ok159 p a b=true:=by
  obtain ⟨l1,l2⟩:=line_fin ⟨a,ha⟩ ⟨b,hb⟩
  simp only [upR,asR] at l1 l2
  have k1:=fun h=>t192 hp ht ha (.inl (l1 h))
  have k2:=fun h h'=>t192 hp ht ha (.inr (l2 h h'))
  have ki:(decide (0≤(a:Int))&&decide ((a:Int) < Int.ofNat 64))=true:=by simp; omega
  unfold ok159
  refine a_true ki fun _=>c_true (fun e => ?_) fun e => ?_
  all_goals repeat' (first | with_reducible rfl | exact k1 (by assumption) | exact k2 (by assumption) (by assumption) | refine a_true ?_ (fun _ => ?_) | refine c_true (fun _ => ?_) (fun _ => ?_))
theorem t134 {b:Nat} (hb:b < 64):ok134 p b=true:=by
  unfold ok134
  simp
  omega
theorem t132 {b:Nat} (hb:b < 64) (c:Int):ok132 p b c=true:=by
  unfold ok132
  refine a_true (t134 hp ht hb) fun _=>c_true (fun _ => ?_) fun _=>rfl
  simp
  omega
theorem t193 {a b:Nat} (ha:a < 64) (hb:b < 64):ok193 p a b=true:=by
  obtain ⟨c,hc⟩:∃ c:Fin 2,p.turn=c.val:=by
    rcases ht with h | h
    · exact ⟨0,h⟩
    · exact ⟨1,h⟩
  obtain ⟨r1,r2,r3,r4,r5,r6⟩:=rank_fin c ⟨a,ha⟩
  simp only at r1 r2 r3 r4 r5 r6
  rw [← hc] at r1 r2 r3 r4 r5 r6
  have wup:wr .i64 ((a:Int)+N135 p.turn)=a+N135 p.turn:=wi64 (by omega) (by omega)
  have k1:=t159 hp ht ha hb
  have k2:=t132 hp ht hb (wr IntKind.u8 (1 - p.turn))
  have k3:=t134 hp ht hb
  have k4:N202 p.turn a≠7→ok134 p ((a:Int)+N135 p.turn)=true:=fun h=>by
    obtain ⟨c1,c2⟩:=r2 h
    obtain ⟨s,hs⟩:=Int.eq_ofNat_of_zero_le c1
    rw [← r3,hs]
    exact t134 hp ht (by omega)
  unfold ok193
  rw [wup,← r1]
  refine a_true k1 fun _=>c_true (fun _=>a_true k2 fun _=>rfl) fun _=>c_true (fun _=>a_true k3 fun _=>rfl) fun _=>c_true (fun h => ?_) fun _=>c_true (fun h => ?_) fun _=>rfl
  · have h1:N202 p.turn a=1:=by simpa using h
    have k5:=k4 (by omega)
    exact c_true (fun _=>a_true k5 fun _=>c_true (fun _=>a_true k3 fun _=>rfl) fun _=>rfl) fun _=>rfl
  · have h0:N202 p.turn a=0:=by simpa using h
    have k5:=k4 (by omega)
    exact c_true (fun _=>c_true (fun _=>c_true (fun _=>a_true k5 fun _=>c_true (fun _=>a_true k3 fun _=>rfl) fun _=>rfl) fun _=>rfl) fun _=>rfl) fun _=>rfl
theorem t160 {a b:Nat} (ha:a < 64) (hb:b < 64):ok160 p a b=true:=by
  have ki:(decide (0≤(a:Int))&&decide ((a:Int) < Int.ofNat 64))=true:=by simp; omega
  have k1:=t159 hp ht ha hb
  have k2:=t132 hp ht ha p.turn
  have k3:=t132 hp ht hb p.turn
  have k4:=t193 hp ht ha hb
  have k5:=t134 hp ht hb
  unfold ok160
  repeat' (first | with_reducible rfl | with_reducible exact ki | with_reducible exact k1 | with_reducible exact k2 | with_reducible exact k3 | with_reducible exact k4 | with_reducible exact k5 | refine a_true ?_ (fun _ => ?_) | refine c_true (fun _ => ?_) (fun _ => ?_))
end
noncomputable def mvsR (p:Pos) (a b:Nat):List Mv :=
  bif !N160 p a b then [] else bif N106 (p.board.getD a 0) != 1 then [⟨a,b,0,0,false⟩] else bif N161 p.turn b != 7 then [⟨a,b,0,0,false⟩] else (N162 p.variant).map fun k=>⟨a,b,k,0,false⟩
theorem mvsR_len (p:Pos) (a b:Nat):(mvsR p a b).length≤5:=by
  unfold mvsR
  refine c_ind (P:=fun l:List Mv=>l.length≤5) (fun _=>by simp) fun _=>c_ind (P:=fun l:List Mv=>l.length≤5) (fun _=>by simp) fun _=>c_ind (P:=fun l:List Mv=>l.length≤5) (fun _=>by simp) fun _ => ?_
  rw [List.length_map]
  unfold N162
  exact c_ind (P:=fun l:List Int=>l.length≤5) (fun _=>by simp) fun _=>c_ind (P:=fun l:List Int=>l.length≤5) (fun _=>by simp) fun _=>by simp
theorem lp113a (l:List Int) (p1 p2 p4 p5:Int) (p6:Bool) (p7:Pos) (p8:Nat) (m0:Mv) (out:List Mv) (hl:l.length≤5) (ho:out.length≤1000000) :
    ∃ r,lp113_4 p1 p2 l p4 p5 p6 p7 p8 (out,0,m0)=some r∧r.1=out++l.map fun k=>⟨m0.frm,m0.to,k,m0.drp,m0.cas⟩:=by
  refine lp_many (I:=fun x=>0≤x.2.1∧x.2.1≤(l.length:Int)∧x.1=out++(l.take x.2.1.toNat).map (fun k=>(⟨m0.frm,m0.to,k,m0.drp,m0.cas⟩:Mv))∧x.2.2.frm=m0.frm∧x.2.2.to=m0.to∧x.2.2.drp=m0.drp∧x.2.2.cas=m0.cas) (μ:=fun x=>((l.length:Int) - x.2.1).toNat) ?_ _ ⟨by simp,by simp,by simp,rfl,rfl,rfl,rfl⟩ (by simp; omega)
  rintro ⟨o,n,m⟩ ⟨h0,h1,h2,e1,e2,e3,e4⟩
  simp only at h0 h1 h2 e1 e2 e3 e4
  by_cases hc:n < l.length
  · have hlt:n.toNat < l.length:=by omega
    have hol:o.length≤1000005:=by
      rw [h2]; simp; omega
    refine ⟨c_true (fun _=>a_true (by simp [h0]; exact hc) fun _ => ?_) fun _=>rfl,c_ind (fun _ => ?_) fun h=>absurd h (by simpa using hc)⟩
    · simp; omega
    · rw [wi64 (n:=n+1) (by omega) (by omega)]
      refine ⟨⟨by show 0≤n+1; omega,by show n+1≤_; omega,?_,e1,e2,e3,e4⟩,by show ((l.length:Int) - (n+1)).toNat < ((l.length:Int) - n).toNat; omega⟩
      show o++[_]=out++(l.take (n+1).toNat).map _
      rw [show (n+1).toNat=n.toNat+1 by omega,List.take_succ_eq_append_getElem hlt,List.map_append,h2,List.append_assoc,e1,e2,e3,e4]
      simp only [List.map_cons,List.map_nil]
      rw [List.getD_eq_getElem?_getD,List.getElem?_eq_getElem hlt]
      rfl
  · refine ⟨c_true (fun h=>absurd h (by simpa using hc)) fun _=>rfl,c_ind (fun h=>absurd h (by simpa using hc)) fun _ => ?_⟩
    show o=_
    rw [h2,List.take_of_length_le (show l.length≤n.toNat by omega)]
end Kz
end
section
namespace Kz
open Go Go.RowKit Go.Proofs
set_option maxRecDepth 100000
set_option maxHeartbeats 4000000
noncomputable def K105:List (Nat×Nat×List (Nat×List Nat)):=[(105,48,[(0,(1::2::3::12::13::16::17::(rn 28 7 (rn 37 4 [])))),(1,(1::2::3::7::12::13::16::17::(rn 28 7 (rn 37 4 [])))),(2,(1::2::3::7::8::12::13::16::17::(rn 28 7 (rn 37 4 [])))),(3,(1::2::3::7::8::12::13::16::17::18::(rn 28 7 (rn 37 4 [])))),(4,(1::2::3::7::8::12::13::16::17::(rn 28 7 (rn 37 4 [])))),(5,(1::2::3::7::8::12::13::16::17::(rn 28 7 (rn 37 5 [])))),(6,(1::2::3::7::8::12::13::16::17::(rn 28 7 (rn 37 4 [])))),(7,[6])])]
noncomputable def B105_1:Base:=baseOf Pz (fun f i=>lkC f i K105) [(106,G106),(107,G107),(159,G159)] [] []
theorem hB105_1:BOk B105_1:=base_ok named_z ⟨s106,s107,s159,trivial⟩ trivial trivial
noncomputable def S105_1 (p1:Int) (p2:Int) (p3:Pos) (x:((BitVec 64)×Int)):St:=St.mk (AV.any::AV.int .i64 p1::AV.int .u8 p2::AV.ptr 0 0::(an 3 (AV.u64 x.fst::AV.int .i64 x.snd::(an 39 [])))) (Hp.mk [(pc p3 [])] [] [] 0 0 0)
noncomputable def O105_1 (p1:Int) (p2:Int) (p3:Pos):((BitVec 64)×Int×Bool)→Out:=fun y=>.exit 0 (St.mk (AV.any::AV.int .i64 p1::AV.int .u8 p2::AV.ptr 0 0::(an 3 (AV.u64 y.fst::AV.int .i64 y.snd.fst::(an 9 (AV.bool y.snd.snd::(an 29 [])))))) (Hp.mk [(pc p3 [])] [] [] 0 0 0))
noncomputable def st105_1 (p1:Int) (p2:Int) (p3:Pos) (x:((BitVec 64)×Int)):Stp ((BitVec 64)×Int) (((BitVec 64)×Int×Bool)):=(bif decide (x.snd < 64) then (bif decide (p1 ≥ 0) then (bif decide (p1 < 64) then (bif N106 (p3.board.getD (scale 1 x.snd).toNat 0) != 0 then (bif N107 (p3.board.getD (scale 1 x.snd).toNat 0)==p2 then (bif N159 p3 x.snd p1 then (Stp.go (x.fst|||1#64 <<< (BitVec.ofInt 64 x.snd).toNat,wr .i64 (x.snd+1))) else (Stp.go (x.fst,wr .i64 (x.snd+1)))) else (Stp.go (x.fst,wr .i64 (x.snd+1)))) else (Stp.go (x.fst,wr .i64 (x.snd+1)))) else (Stp.out ((x.fst,x.snd,decide (p1 < 64))))) else (Stp.out ((x.fst,x.snd,false)))) else (Stp.out ((x.fst,x.snd,false))))
noncomputable def okL105_1 (p1:Int) (p2:Int) (p3:Pos) (x:((BitVec 64)×Int)):Bool:=(bif decide (x.snd < 64) then (bif decide (p1 ≥ 0) then (bif decide (p1 < 64) then (decide (0≤x.snd)&&decide (x.snd < Int.ofNat 64)&&(bif N106 (p3.board.getD (scale 1 x.snd).toNat 0) != 0 then (decide (0≤x.snd)&&decide (x.snd < Int.ofNat 64)&&(bif N107 (p3.board.getD (scale 1 x.snd).toNat 0)==p2 then (ok159 (p3) (x.snd) (p1)&&true) else true)) else true)) else true) else true) else true)
noncomputable def lp105_1 (p1:Int) (p2:Int) (p3:Pos) (x:((BitVec 64)×Int)):Option (((BitVec 64)×Int×Bool)):=itl (fun x=>bif okL105_1 p1 p2 p3 x then st105_1 p1 p2 p3 x else .bad) many x
abbrev D105_1 {α:Type} (k:Int→Int→Pos→((BitVec 64)×Int)→α) (s:St):α:=wP s 0 fun q0=>k (tI (tT s 1)) (tI (tT s 2)) q0 ((tU (tT s 7)),(tI (tT s 8)))
theorem L105_1 (p1:Int) (p2:Int) (p3:Pos) (x:((BitVec 64)×Int)) (r:((BitVec 64)×Int×Bool)) (h:lp105_1 p1 p2 p3 x=some r):LSpec Pz (bodL Pz 105 3) (S105_1 p1 p2 p3 x) (O105_1 p1 p2 p3 r):=LSpec.smd (m:=12) (fn:=105) hB105_1 (D105_1 fun _ _ _ x=>some x) (fun o=>match o with | .exit 0 s=>some ((tU (tT s 7)),(tI (tT s 8)),(tB (tT s 18))) | _=>none) (fun _=>rfl) (fun _=>by kernel_rfl) (fun _=>by kernel_rfl) (fun _=>by kernel_rfl) (fun _=>by kernel_rfl) many x r h
noncomputable def F105_1 (b:Code) (s:St):Tr Out:=D105_1 (fun p1 p2 p3 x=>lk1 b (bodL Pz 105 3) s (S105_1 p1 p2 p3 x) (lp105_1 p1 p2 p3 x) (O105_1 p1 p2 p3)) s
theorem sF105_1:∀ b,LSound Pz b (F105_1 b):=fun _ _ _ h=>lk1_ok (L105_1 _ _ _ _) h
noncomputable def B105:Base:=baseOf Pz (fun f i=>lkC f i K105) [(106,G106),(107,G107),(159,G159)] [(105,3,F105_1)] []
theorem hB105:BOk B105:=base_ok named_z ⟨s106,s107,s159,trivial⟩ ⟨sF105_1,trivial⟩ trivial
noncomputable def N105 (a:Pos) (b:Int) (c:Int):BitVec 64:=(((lp105_1 b c a (0#64,0)).getD default).fst)
noncomputable def ok105 (a:Pos) (b:Int) (c:Int):Bool:=((lp105_1 b c a (0#64,0)).isSome&&true)
theorem P105 (a:Pos) (b:Int) (c:Int) (h:ok105 a b c=true):PS Pz 105 [Pos.av a,.int .i64 b,.int .u8 c] (dU.res (N105 a b c)):=ps_sum (n:=14) hB105 (by kernel_rfl) (by kernel_rfl) (by kernel_rfl) h
noncomputable def G105:List AV→Tr AV:=g3 dPos (dI .i64) (dI .u8) (fun a b c=>gdv (ok105 a b c) (dU.res (N105 a b c)))
theorem s105:Sound Pz 105 G105:=sound3 fun a b c=>at_gd (P105 a b c)
end Kz
end
section
namespace Kz
open Go Go.RowKit
set_option maxRecDepth 100000
set_option maxHeartbeats 1000000
set_option linter.unusedSectionVars false
noncomputable def byR (p:Pos) (t:Nat) (c:Int) (s:Nat):Bool:=N106 (p.board.getD s 0) != 0&&(N107 (p.board.getD s 0)==c&&N159 p s t)
theorem N105_bit {p:Pos} (hp:PosIn p) (ht:p.turn=0∨p.turn=1) {t:Nat} (h64:t < 64) (c:Int):ok105 p t c=true∧∀ s,s < 64→(N105 p t c).getLsbD s=byR p t c s:=by
  have hl:∃ r,lp105_1 t c p (0#64,0)=some r∧∀ s,s < 64→r.1.getLsbD s=byR p t c s:=by
    refine lp_many (I:=fun x => ∃ n:Nat,n≤64∧x.2=(n:Int)∧∀ s,s < 64→x.1.getLsbD s=(decide (s < n)&&byR p t c s)) (μ:=fun x=>(64 - x.2).toNat) ?_ _ ⟨0,by omega,rfl,fun s hs=>by simp⟩ (by simp)
    rintro ⟨o,m⟩ ⟨n,hn,hm,h⟩
    simp only at hm h
    subst hm
    have hsc:(scale 1 (n:Int)).toNat=n:=by unfold scale; simp
    unfold okL105_1 st105_1
    dsimp only
    rw [hsc,show decide ((t:Int) ≥ 0)=true by simp,show decide ((t:Int) < 64)=true by simp; omega]
    by_cases hc64:n < 64
    · have k174:=t159 hp ht hc64 h64
      rw [wi64 (n:=(n:Int)+1) (by omega) (by omega)]
      constructor
      · refine c_true (fun _ => ?_) fun _=>rfl
        repeat' (first | with_reducible rfl | with_reducible exact k174 | (simp; omega; done) | refine a_true ?_ (fun _ => ?_) | refine c_true (fun _ => ?_) (fun _ => ?_))
      · have keep:byR p t c n=false→Nxt (fun x:BitVec 64×Int => ∃ n:Nat,n≤64∧x.2=(n:Int)∧∀ s,s < 64→x.1.getLsbD s=(decide (s < n)&&byR p t c s)) (fun r:BitVec 64×Int×Bool => ∀ s,s < 64→r.1.getLsbD s=byR p t c s) (fun x=>(64 - x.2).toNat) (64 - (n:Int)).toNat (.go (o,(n:Int)+1)):=fun hf=>by
          refine ⟨⟨n+1,by omega,rfl,fun s hs => ?_⟩,by show (64 - ((n:Int)+1)).toNat < _; omega⟩
          show o.getLsbD s=_
          rw [h s hs]
          by_cases e:s=n
          · subst e; rw [hf]; simp
          · rw [show decide (s < n+1)=decide (s < n) by rw [decide_eq_decide]; omega]
        have add:byR p t c n=true→Nxt (fun x:BitVec 64×Int => ∃ n:Nat,n≤64∧x.2=(n:Int)∧∀ s,s < 64→x.1.getLsbD s=(decide (s < n)&&byR p t c s)) (fun r:BitVec 64×Int×Bool => ∀ s,s < 64→r.1.getLsbD s=byR p t c s) (fun x=>(64 - x.2).toNat) (64 - (n:Int)).toNat (.go (o|||1#64 <<< (BitVec.ofInt 64 n).toNat,(n:Int)+1)):=fun hf=>by
          refine ⟨⟨n+1,by omega,rfl,fun s hs => ?_⟩,by show (64 - ((n:Int)+1)).toNat < _; omega⟩
          show (o|||1#64 <<< (BitVec.ofInt 64 n).toNat).getLsbD s=_
          rw [BitVec.getLsbD_or,h s hs,ofInt_nat (by omega) (by omega),Int.toNat_natCast,one_bit hs]
          by_cases e:s=n
          · subst e; rw [hf]; simp
          · rw [show decide (s < n+1)=decide (s < n) by rw [decide_eq_decide]; omega]
            simp [e]
        refine c_ind (fun _ => ?_) fun h'=>absurd h' (by simp; omega)
        simp only [cond_true]
        refine c_ind (fun h1=>c_ind (fun h2=>c_ind (fun h3 => ?_) fun h3 => ?_) fun h2 => ?_) fun h1 => ?_
        · exact add (by unfold byR; rw [h1,h2,h3]; rfl)
        · exact keep (by unfold byR; rw [h1,h2,h3]; rfl)
        · exact keep (by unfold byR; rw [h1,h2]; rfl)
        · exact keep (by unfold byR; rw [h1]; rfl)
    · have e:n=64:=by omega
      subst e
      refine ⟨c_true (fun h'=>absurd h' (by simp)) fun _=>rfl,c_ind (fun h'=>absurd h' (by simp)) fun _ => ?_⟩
      intro s hs
      show o.getLsbD s=_
      rw [h s hs]
      simp [hs]
  have h2:=of_some hl
  exact ⟨a_true h2.1 fun _=>rfl,h2.2⟩
def btw (a d b:Nat):List Nat:=(ray a d).takeWhile fun s => !(s==b)
theorem back_fin:∀ (a:Fin 64) (d:Fin 8),((ray a.val d.val).all fun b=>decide (b < 64)&&decide (a.val ∈ ray b ((d.val+4) % 8))&&(btw b ((d.val+4) % 8) a.val==(btw a.val d.val b).reverse))=true:=by decide +kernel
theorem take_split {b:Nat}:∀ {l:List Nat},b ∈ l→∃ post,l=(l.takeWhile fun s => !(s==b))++b::post∧b ∉ (l.takeWhile fun s => !(s==b))
  | [],h=>by cases h
  | s::l,h=>by
    by_cases e:s=b
    · subst e
      exact ⟨l,by simp,by simp⟩
    · have hb:b ∈ l:=by
        simp only [List.mem_cons] at h
        rcases h with h | h
        · exact absurd h.symm e
        · exact h
      obtain ⟨post,e1,e2⟩:=take_split hb
      have hs:(!(s==b))=true:=by simpa using e
      have ht:((s::l).takeWhile fun s => !(s==b))=s::(l.takeWhile fun s => !(s==b)):=by
        rw [List.takeWhile]
        simp only [hs]
      refine ⟨post,?_,?_⟩
      · rw [ht,List.cons_append,← e1]
      · rw [ht]
        simp only [List.mem_cons,not_or]
        exact ⟨fun h=>e h.symm,e2⟩
theorem unique_pre {b:Nat}:∀ {l1 l2 m1 m2:List Nat},l1++b::m1=l2++b::m2→b ∉ l1→b ∉ l2→l1=l2
  | [],[],_,_,_,_,_=>rfl
  | [],y::l2,_,_,h,_,h2=>by
    simp only [List.nil_append,List.cons_append,List.cons.injEq] at h
    exact absurd (by rw [h.1]; simp) h2
  | x::l1,[],_,_,h,h1,_=>by
    simp only [List.nil_append,List.cons_append,List.cons.injEq] at h
    exact absurd (by rw [← h.1]; simp) h1
  | x::l1,y::l2,m1,m2,h,h1,h2=>by
    simp only [List.cons_append,List.cons.injEq] at h
    rw [h.1,unique_pre h.2 (fun hm=>h1 (by simp [hm])) (fun hm=>h2 (by simp [hm]))]
theorem seen_btw {occ:BitVec 64} {a d b:Nat} (hb:b ∈ ray a d):b ∈ seen occ (ray a d) ↔ ∀ s ∈ btw a d b,occ.getLsbD s=false:=by
  rw [mem_seen hb]
  obtain ⟨post,e1,e2⟩:=take_split hb
  constructor
  · intro h
    exact h _ post e1 e2
  · intro h pre post' e hp
    rw [unique_pre (e.symm.trans e1) hp e2]
    exact h
theorem N192_sym (p:Pos) {occ:BitVec 64} (hocc:∀ s,s < 64→(occ.getLsbD s=false ↔ N106 (p.board.getD s 0)=0)) {a b:Nat} (ha:a < 64) (h:strB a b=true∨acrB a b=true):N192 p a b=N192 p b a:=by
  have:∃ d,d < 8∧b ∈ ray a d:=by
    unfold strB acrB at h
    simp only [Bool.or_eq_true,decide_eq_true_eq] at h
    rcases h with (((h | h) | h) | h) | (((h | h) | h) | h)
    · exact ⟨0,by decide,h⟩
    · exact ⟨2,by decide,h⟩
    · exact ⟨4,by decide,h⟩
    · exact ⟨6,by decide,h⟩
    · exact ⟨1,by decide,h⟩
    · exact ⟨3,by decide,h⟩
    · exact ⟨5,by decide,h⟩
    · exact ⟨7,by decide,h⟩
  obtain ⟨d,hd,hb⟩:=this
  have f:=List.all_eq_true.1 (back_fin ⟨a,ha⟩ ⟨d,hd⟩) b hb
  simp only [Bool.and_eq_true,decide_eq_true_eq,beq_iff_eq] at f
  obtain ⟨⟨f1,f2⟩,f3⟩:=f
  rw [(N192_seen p hocc ha hd hb).2,(N192_seen p hocc f1 (Nat.mod_lt _ (by decide)) f2).2,decide_eq_decide,seen_btw hb,seen_btw f2,f3]
  simp
end Kz
end
section
namespace Kz
open Go Go.RowKit Go.Proofs
set_option maxRecDepth 100000
set_option maxHeartbeats 4000000
noncomputable def K157:List (Nat×Nat×List (Nat×List Nat)):=[(157,25,[(0,(rn 1 4 (rn 17 7 []))),(1,[8])])]
noncomputable def B157:Base:=baseOf Pz (fun f i=>lkC f i K157) [(106,G106),(107,G107)] [] []
theorem hB157:BOk B157:=base_ok named_z ⟨s106,s107,trivial⟩ trivial trivial
noncomputable def N157 (a:Pos) (b:Int) (c:Int) (d:Int):Bool:=(bif N106 (a.board.getD (scale 1 b).toNat 0)==d then (N107 (a.board.getD (scale 1 b).toNat 0)==c) else (false))
noncomputable def ok157 (a:Pos) (b:Int) (c:Int) (d:Int):Bool:=(decide (0≤b)&&decide (b < ↑64)&&(bif N106 (a.board.getD (scale 1 b).toNat 0)==d then (decide (0≤b)&&decide (b < ↑64)&&true) else true))
theorem P157 (a:Pos) (b:Int) (c:Int) (d:Int) (h:ok157 a b c d=true):PS Pz 157 [Pos.av a,.int .i64 b,.int .u8 c,.int .u8 d] (dB.res (N157 a b c d)):=ps_sum (n:=14) hB157 (by kernel_rfl) (by kernel_rfl) (by kernel_rfl) h
noncomputable def G157:List AV→Tr AV:=g4 dPos (dI .i64) (dI .u8) (dI .u8) (fun a b c d=>gdv (ok157 a b c d) (dB.res (N157 a b c d)))
theorem s157:Sound Pz 157 G157:=sound4 fun a b c d=>at_gd (P157 a b c d)
noncomputable def K131:List (Nat×Nat×List (Nat×List Nat)):=[(131,18,[(0,[1,2,3]),(1,[1,2,3,7]),(2,[1,2,3,7,9]),(3,[1,2,3,7]),(4,[1,2,3,7,16]),(5,[6]),(6,[6])])]
noncomputable def B131_1:Base:=baseOf Pz (fun f i=>lkC f i K131) [(157,G157)] [] []
theorem hB131_1:BOk B131_1:=base_ok named_z ⟨s157,trivial⟩ trivial trivial
noncomputable def S131_1 (p1:Int) (p2:Int) (p3:Pos) (x:(Int)):St:=St.mk (AV.any::AV.int .u8 p1::AV.int .u8 p2::AV.ptr 0 0::(an 3 (AV.int .i64 x::(an 10 [])))) (Hp.mk [(pc p3 [])] [] [] 0 0 0)
noncomputable def O131_1 (p1:Int) (p2:Int) (p3:Pos):(Int) ⊕ (Int×Bool)→Out
  | (.inl (y))=>.ret (St.mk (an 6 (AV.int .i64 y::(an 11 []))) (Hp.mk [(pc p3 [])] [] [] 0 0 0))
  | (.inr (y))=>.exit 0 (St.mk (AV.any::AV.int .u8 p1::AV.int .u8 p2::AV.ptr 0 0::(an 3 (AV.int .i64 y.fst::AV.any::AV.bool y.snd::(an 8 [])))) (Hp.mk [(pc p3 [])] [] [] 0 0 0))
noncomputable def st131_1 (p1:Int) (p2:Int) (p3:Pos) (x:(Int)):Stp (Int) ((Int) ⊕ (Int×Bool)):=(bif decide (x < 64) then (bif N157 (Pos.mk p3.variant p3.board p3.promoted p3.pockets p3.turn p3.rooks p3.passing p3.checks p3.half p3.full) x p1 p2 then (Stp.out (.inl ((x)))) else (Stp.go (wr .i64 (x+1)))) else (Stp.out (.inr ((x,decide (x < 64))))))
noncomputable def okL131_1 (p1:Int) (p2:Int) (p3:Pos) (x:(Int)):Bool:=(bif decide (x < 64) then (ok157 (Pos.mk p3.variant p3.board p3.promoted p3.pockets p3.turn p3.rooks p3.passing p3.checks p3.half p3.full) (x) (p1) (p2)&&true) else true)
noncomputable def lp131_1 (p1:Int) (p2:Int) (p3:Pos) (x:(Int)):Option ((Int) ⊕ (Int×Bool)):=itl (fun x=>bif okL131_1 p1 p2 p3 x then st131_1 p1 p2 p3 x else .bad) many x
abbrev D131_1 {α:Type} (k:Int→Int→Pos→(Int)→α) (s:St):α:=wP s 0 fun q0=>k (tI (tT s 1)) (tI (tT s 2)) q0 ((tI (tT s 7)))
theorem L131_1 (p1:Int) (p2:Int) (p3:Pos) (x:(Int)) (r:(Int) ⊕ (Int×Bool)) (h:lp131_1 p1 p2 p3 x=some r):LSpec Pz (bodL Pz 131 2) (S131_1 p1 p2 p3 x) (O131_1 p1 p2 p3 r):=LSpec.smd (m:=12) (fn:=131) hB131_1 (D131_1 fun _ _ _ x=>some x) (fun o=>match o with | .ret s=>some (.inl (tI (tT s 6))) | .exit 0 s=>some (.inr ((tI (tT s 7)),(tB (tT s 9)))) | _=>none) (fun r=>by cases r <;> rfl) (fun _=>by kernel_rfl) (fun _=>by kernel_rfl) (fun _=>by kernel_rfl) (fun _=>by kernel_rfl) many x r h
noncomputable def F131_1 (b:Code) (s:St):Tr Out:=D131_1 (fun p1 p2 p3 x=>lk2 b (bodL Pz 131 2) s (S131_1 p1 p2 p3 x) (lp131_1 p1 p2 p3 x) (O131_1 p1 p2 p3)) s
theorem sF131_1:∀ b,LSound Pz b (F131_1 b):=fun _ _ _ h=>lk2_ok (L131_1 _ _ _ _) h
noncomputable def B131:Base:=baseOf Pz (fun f i=>lkC f i K131) [(157,G157)] [(131,2,F131_1)] []
theorem hB131:BOk B131:=base_ok named_z ⟨s157,trivial⟩ ⟨sF131_1,trivial⟩ trivial
noncomputable def N131 (a:Pos) (b:Int) (c:Int):Int:=(bif isL ((lp131_1 b c (Pos.mk a.variant a.board a.promoted a.pockets a.turn a.rooks a.passing a.checks a.half a.full) 0).getD default) then (gl ((lp131_1 b c (Pos.mk a.variant a.board a.promoted a.pockets a.turn a.rooks a.passing a.checks a.half a.full) 0).getD default)) else (-1))
noncomputable def ok131 (a:Pos) (b:Int) (c:Int):Bool:=((lp131_1 b c (Pos.mk a.variant a.board a.promoted a.pockets a.turn a.rooks a.passing a.checks a.half a.full) 0).isSome&&bif isL ((lp131_1 b c (Pos.mk a.variant a.board a.promoted a.pockets a.turn a.rooks a.passing a.checks a.half a.full) 0).getD default) then true else true)
theorem P131 (a:Pos) (b:Int) (c:Int) (h:ok131 a b c=true):PS Pz 131 [Pos.av a,.int .u8 b,.int .u8 c] ((dI .i64).res (N131 a b c)):=ps_sum (n:=14) hB131 (by kernel_rfl) (by kernel_rfl) (by kernel_rfl) h
noncomputable def G131:List AV→Tr AV:=g3 dPos (dI .u8) (dI .u8) (fun a b c=>gdv (ok131 a b c) ((dI .i64).res (N131 a b c)))
theorem s131:Sound Pz 131 G131:=sound3 fun a b c=>at_gd (P131 a b c)
end Kz
end
section
namespace Kz
open Go Go.RowKit
set_option maxRecDepth 100000
set_option maxHeartbeats 1000000
set_option linter.unusedSectionVars false
theorem is_fin:∀ (c:Fin 2) (k:Fin 7) (v:Fin 256),1≤k.val→tOf c.val k.val v.val=(N106 v.val==k.val&&N107 v.val==c.val):=by decide +kernel
theorem is' {c k v:Int} (hc:c=0∨c=1) (k1:1≤k) (k6:k≤6) (v0:0≤v) (v1:v≤255):tOf c k v=(N106 v==k&&N107 v==c):=by
  obtain ⟨n,rfl⟩:=Int.eq_ofNat_of_zero_le v0
  obtain ⟨m,rfl⟩:=Int.eq_ofNat_of_zero_le (show 0≤k by omega)
  rcases hc with rfl | rfl
  · exact is_fin 0 ⟨m,by omega⟩ ⟨n,by omega⟩ (by show 1≤m; omega)
  · exact is_fin 1 ⟨m,by omega⟩ ⟨n,by omega⟩ (by show 1≤m; omega)
theorem N157_is {p:Pos} (hp:PosIn p) {c k:Int} (hc:c=0∨c=1) (k1:1≤k) (k6:k≤6) {s:Nat} (hs:s < 64):ok157 p s c k=true∧N157 p s c k=tOf c k (p.board.getD s 0):=by
  obtain ⟨b0,b1⟩:=bd_in hp s
  have hsc:(scale 1 (s:Int)).toNat=s:=by unfold scale; simp
  rw [is' hc k1 k6 b0 b1]
  unfold ok157 N157
  rw [hsc]
  constructor
  · refine a_true (by simp; omega) fun _=>c_true (fun _ => ?_) fun _=>rfl
    simp
    omega
  · cases N106 (p.board.getD s 0)==k <;> rfl
theorem N131_eq {p:Pos} (hp:PosIn p) {c k:Int} (hc:c=0∨c=1) (k1:1≤k) (k6:k≤6):ok131 p c k=true∧N131 p c k=N99 p c k:=by
  have hl:∃ r,lp131_1 c k p 0=some r∧(match r with
      | .inl i => ∃ n:Nat,n < 64∧i=n∧tOf c k (p.board.getD n 0)=true∧∀ j,j < n→tOf c k (p.board.getD j 0)=false
      | .inr _ => ∀ j:Nat,j < 64→tOf c k (p.board.getD j 0)=false):=by
    refine lp_many (I:=fun x => ∃ n:Nat,n≤64∧x=(n:Int)∧∀ j,j < n→tOf c k (p.board.getD j 0)=false) (μ:=fun x=>(64 - x).toNat) ?_ _ ⟨0,by omega,rfl,fun j hj=>by omega⟩ (by simp)
    rintro _ ⟨n,hn,rfl,h⟩
    unfold okL131_1 st131_1
    rw [show (Pos.mk p.variant p.board p.promoted p.pockets p.turn p.rooks p.passing p.checks p.half p.full)=p from rfl]
    by_cases hc64:n < 64
    · obtain ⟨e1,e2⟩:=N157_is hp hc k1 k6 hc64
      rw [e1,e2,wi64 (n:=(n:Int)+1) (by omega) (by omega)]
      refine ⟨c_true (fun _=>rfl) fun _=>rfl,c_ind (fun _=>c_ind (fun ht => ?_) fun ht => ?_) fun h'=>absurd h' (by simp; omega)⟩
      · exact ⟨n,hc64,rfl,ht,h⟩
      · refine ⟨⟨n+1,by omega,rfl,fun j hj => ?_⟩,by show (64 - ((n:Int)+1)).toNat < (64 - (n:Int)).toNat; omega⟩
        by_cases e:j=n
        · rw [e]; exact ht
        · exact h j (by omega)
    · have e:n=64:=by omega
      subst e
      exact ⟨rfl,h⟩
  have h2:=of_some hl
  constructor
  · exact a_true h2.1 fun _=>c_true (fun _=>rfl) fun _=>rfl
  · unfold N131
    rw [show (Pos.mk p.variant p.board p.promoted p.pockets p.turn p.rooks p.passing p.checks p.half p.full)=p from rfl]
    have h3:=h2.2
    generalize (lp131_1 c k p 0).getD default=r at h3
    rcases N99_cases p c k with ⟨a1,a2⟩ | ⟨j,a0,a1,a2,a3⟩
    · cases r with
      | inl i =>
        obtain ⟨n,h64,_,ht,_⟩:=h3
        rw [a2 n h64] at ht
        cases ht
      | inr x=>rw [a1]; rfl
    · cases r with
      | inl i =>
        obtain ⟨n,h64,rfl,ht,hm⟩:=h3
        rw [a1]
        show (n:Int)=j
        rcases Nat.lt_trichotomy n j with h | h | h
        · rw [a3 n h] at ht; cases ht
        · rw [h]
        · rw [hm j h] at a2; cases a2
      | inr x =>
        rw [h3 j a0] at a2
        cases a2
theorem sym_fin:∀ a b:Fin 64,(N198 a.val).getLsbD b.val=(N198 b.val).getLsbD a.val∧(N149 a.val).getLsbD b.val=(N149 b.val).getLsbD a.val∧strB a.val b.val=strB b.val a.val∧acrB a.val b.val=acrB b.val a.val:=by decide +kernel
theorem pawn_sym:∀ (c:Fin 2) (s t:Fin 64),(N100 (1 - c.val) t.val).getLsbD s.val=hitsF 1 c.val s.val t.val false:=by decide +kernel
theorem there_fin:∀ t:Fin 64,N207 t.val=true:=by decide +kernel
theorem occ59 {p:Pos} (hp:PosIn p) {s:Nat} (hs:s < 64):(N143 p).getLsbD s=false ↔ N106 (p.board.getD s 0)=0:=by
  obtain ⟨b0,b1⟩:=bd_in hp s
  rw [N143_bit _ hs]
  have:N144 (p.board.getD s 0)=!(N106 (p.board.getD s 0)==0):=by
    obtain ⟨n,hn⟩:=Int.eq_ofNat_of_zero_le b0
    rw [hn]
    have h:∀ v:Fin 256,N144 v.val=!(N106 v.val==0):=by decide +kernel
    exact h ⟨n,by omega⟩
  rw [this]
  simp
theorem N190_bit {p:Pos} (hp:PosIn p) {t:Nat} (h64:t < 64) {c:Int} (hc:c=0∨c=1) {s:Nat} (hs:s < 64):(N190 p t c).getLsbD s=byR p t c s:=by
  have hocc:=fun s hs=>occ59 hp (s:=s) hs
  obtain ⟨b0,b1⟩:=bd_in hp s
  obtain ⟨y2,y6,ystr,yacr⟩:=sym_fin ⟨s,hs⟩ ⟨t,h64⟩
  obtain ⟨f2,f6,f4,f4',f3,f3',f5,f5'⟩:=hits_fin ⟨s,hs⟩ ⟨t,h64⟩
  simp only at f2 f6 f4 f4' f3 f3' f5 f5' y2 y6 ystr yacr
  have hr:=rook_bit hocc h64 hs
  have hbi:=bishop_bit hocc h64 hs
  have hqu:=queen_bit hocc h64 hs
  have cs:strB s t=true∨acrB s t=true→N192 p s t=N192 p t s:=fun h=>N192_sym p hocc hs h
  have tk:=fun (k:Int) (k1:1≤k) (k6:k≤6)=>(N101_bit p c k hs).trans (is' hc k1 k6 b0 b1)
  have hpawn:(N217 (wr .u8 (1 - c)) t (N143 p)).getLsbD s=hitsF 1 c s t false:=by
    unfold N217
    rw [wu8 (by omega) (by omega)]
    rcases hc with rfl | rfl
    · exact pawn_sym 0 ⟨s,hs⟩ ⟨t,h64⟩
    · exact pawn_sym 1 ⟨s,hs⟩ ⟨t,h64⟩
  have e:N190 p t c=0|||N217 (wr .u8 (1 - c)) t (N143 p)&&&N101 p c 1|||N198 t&&&N101 p c 2|||N199 t (N143 p)&&&N101 p c 3|||N200 t (N143 p)&&&N101 p c 4|||N201 t (N143 p)&&&N101 p c 5|||N149 t&&&N101 p c 6:=by
    unfold N190
    rw [there_fin ⟨t,h64⟩,show decide (c > 1)=false by simp; omega]
    rfl
  rw [e]
  simp only [BitVec.getLsbD_or,BitVec.getLsbD_and]
  rw [tk 1 (by omega) (by omega),tk 2 (by omega) (by omega),tk 3 (by omega) (by omega),tk 4 (by omega) (by omega),tk 5 (by omega) (by omega),tk 6 (by omega) (by omega),hr,hbi,hqu,hpawn,← y2,← y6,← ystr,← yacr]
  unfold byR
  rw [N159_eq,show (scale 1 (s:Int)).toNat=s by unfold scale; simp]
  have km:N106 (p.board.getD s 0)=0∨N106 (p.board.getD s 0)=1∨N106 (p.board.getD s 0)=2∨N106 (p.board.getD s 0)=3∨N106 (p.board.getD s 0)=4∨N106 (p.board.getD s 0)=5∨N106 (p.board.getD s 0)=6:=by
    have:=(men' b0 b1).2.2.2.2
    omega
  generalize N106 (p.board.getD s 0)=k at *
  generalize N107 (p.board.getD s 0)=col at *
  cases hcol:col==c with
  | false=>simp
  | true =>
    have hcol:col=c:=by simpa using hcol
    subst hcol
    rcases km with rfl | rfl | rfl | rfl | rfl | rfl | rfl
    · simp
    · have:hitsF 1 col s t (N192 p s t)=hitsF 1 col s t false:=rfl
      rw [this]
      simp
    · rw [col_free (k:=2) rfl,show hitsF 2 0 s t (N192 p s t)=(N198 s).getLsbD t from f2 ▸ rfl]
      simp
    · rw [col_free (k:=3) rfl]
      have:hitsF 3 0 s t (N192 p s t)=(acrB s t&&N192 p t s):=by
        cases ha:acrB s t with
        | true =>
          rw [cs (.inr ha)]
          cases N192 p t s
          · rw [f3']; rfl
          · rw [f3,ha]; rfl
        | false =>
          cases N192 p s t
          · rw [f3']; rfl
          · rw [f3,ha]; rfl
      rw [this]
      simp
    · rw [col_free (k:=4) rfl]
      have:hitsF 4 0 s t (N192 p s t)=(strB s t&&N192 p t s):=by
        cases ha:strB s t with
        | true =>
          rw [cs (.inl ha)]
          cases N192 p t s
          · rw [f4']; rfl
          · rw [f4,ha]; rfl
        | false =>
          cases N192 p s t
          · rw [f4']; rfl
          · rw [f4,ha]; rfl
      rw [this]
      simp
    · rw [col_free (k:=5) rfl]
      have:hitsF 5 0 s t (N192 p s t)=((strB s t || acrB s t)&&N192 p t s):=by
        cases ha:(strB s t || acrB s t) with
        | true =>
          rw [cs (by simpa using ha)]
          cases N192 p t s
          · rw [f5']; rfl
          · rw [f5,ha]; rfl
        | false =>
          cases N192 p s t
          · rw [f5']; rfl
          · rw [f5,ha]; rfl
      rw [this]
      simp
    · rw [col_free (k:=6) rfl,show hitsF 6 0 s t (N192 p s t)=(N149 s).getLsbD t from f6 ▸ rfl]
      simp
end Kz
end
section
namespace Kz
open Go Go.RowKit Go.Proofs
set_option maxRecDepth 100000
set_option maxHeartbeats 4000000
noncomputable def K77:List (Nat×Nat×List (Nat×List Nat)):=[(77,23,[(0,(0::1::8::9::12::13::(rn 16 6 []))),(1,[4])])]
noncomputable def B77:Base:=baseOf Pz (fun f i=>lkC f i K77) [] [] []
theorem hB77:BOk B77:=base_ok named_z trivial trivial trivial
noncomputable def N77 (a:Int) (b:Int):Bool:=(bif decide (a < 9) then (bif decide (b < 2) then (bif a != 4 then (bif a != 7 then (true) else (b==1)) else (false)) else (false)) else (false))
noncomputable def ok77 (a:Int) (b:Int):Bool:=true
theorem P77 (a:Int) (b:Int) (h:ok77 a b=true):PS Pz 77 [.int .u8 a,.int .u8 b] (dB.res (N77 a b)):=ps_sum (n:=14) hB77 (by kernel_rfl) (by kernel_rfl) (by kernel_rfl) h
noncomputable def G77:List AV→Tr AV:=g2 (dI .u8) (dI .u8) (fun a b=>.ret (dB.res (N77 a b)))
theorem s77:Sound Pz 77 G77:=sound2 fun a b=>at_rt (P77 a b rfl)
noncomputable def K104:List (Nat×Nat×List (Nat×List Nat)):=[(104,39,[(0,[1,2,16,17,22,23,24,34,35,36]),(1,[1,2,5,16,17,22,23,24,34,35,36]),(2,[1,2,5,18,22,23,24,34,35,36]),(3,[4]),(4,[1,2,5,6,22,23,24,34,35,36]),(5,(1::2::5::6::(rn 22 4 [34,35,36]))),(6,[1,2,5,6,22,23,24,34,35,36]),(7,(1::2::5::6::22::23::24::(rn 34 4 []))),(8,[4]),(9,[4])])]
noncomputable def B104_1:Base:=baseOf Pz (fun f i=>lkC f i K104) [(77,G77),(131,G131),(157,G157),(158,G158)] [] []
theorem hB104_1:BOk B104_1:=base_ok named_z ⟨s77,s131,s157,s158,trivial⟩ trivial trivial
noncomputable def S104_1 (p1:Int) (p2:Int) (p3:Pos) (x:(Int)):St:=St.mk (AV.any::AV.int .u8 p1::AV.ptr 0 0::AV.any::AV.any::AV.int .i64 p2::AV.int .i64 x::(an 32 [])) (Hp.mk [(pc p3 [])] [] [] 0 0 0)
noncomputable def O104_1 (p1:Int) (p2:Int) (p3:Pos):Unit ⊕ (Int×Bool)→Out
  | (.inl (y))=>.ret (St.mk (an 4 (AV.cint .i64 (-1)::(an 34 []))) (Hp.mk [(pc p3 [])] [] [] 0 0 0))
  | (.inr (y))=>.exit 0 (St.mk (AV.any::AV.int .u8 p1::AV.ptr 0 0::AV.any::AV.any::AV.int .i64 p2::AV.int .i64 y.fst::(an 18 (AV.bool y.snd::(an 13 [])))) (Hp.mk [(pc p3 [])] [] [] 0 0 0))
noncomputable def st104_1 (p1:Int) (p2:Int) (p3:Pos) (x:(Int)):Stp (Int) (Unit ⊕ (Int×Bool)):=(bif decide (x < 64) then (bif p3.variant==3 then (bif N157 (Pos.mk p3.variant p3.board p3.promoted p3.pockets p3.turn p3.rooks p3.passing p3.checks p3.half p3.full) x (wr .u8 (1 - p1)) 6 then (bif N158 x p2 then (Stp.out (.inl (()))) else (Stp.go (wr .i64 (x+1)))) else (Stp.go (wr .i64 (x+1)))) else (Stp.out (.inr ((x,p3.variant==3))))) else (Stp.out (.inr ((x,false)))))
noncomputable def okL104_1 (p1:Int) (p2:Int) (p3:Pos) (x:(Int)):Bool:=(bif decide (x < 64) then (bif p3.variant==3 then (ok157 (Pos.mk p3.variant p3.board p3.promoted p3.pockets p3.turn p3.rooks p3.passing p3.checks p3.half p3.full) (x) (wr .u8 (1 - p1)) (6)&&true) else true) else true)
noncomputable def lp104_1 (p1:Int) (p2:Int) (p3:Pos) (x:(Int)):Option (Unit ⊕ (Int×Bool)):=itl (fun x=>bif okL104_1 p1 p2 p3 x then st104_1 p1 p2 p3 x else .bad) many x
abbrev D104_1 {α:Type} (k:Int→Int→Pos→(Int)→α) (s:St):α:=wP s 0 fun q0=>k (tI (tT s 1)) (tI (tT s 5)) q0 ((tI (tT s 6)))
theorem L104_1 (p1:Int) (p2:Int) (p3:Pos) (x:(Int)) (r:Unit ⊕ (Int×Bool)) (h:lp104_1 p1 p2 p3 x=some r):LSpec Pz (bodL Pz 104 5) (S104_1 p1 p2 p3 x) (O104_1 p1 p2 p3 r):=LSpec.smd (m:=12) (fn:=104) hB104_1 (D104_1 fun _ _ _ x=>some x) (fun o=>match o with | .ret s=>some (.inl ()) | .exit 0 s=>some (.inr ((tI (tT s 6)),(tB (tT s 25)))) | _=>none) (fun r=>by cases r <;> rfl) (fun _=>by kernel_rfl) (fun _=>by kernel_rfl) (fun _=>by kernel_rfl) (fun _=>by kernel_rfl) many x r h
noncomputable def F104_1 (b:Code) (s:St):Tr Out:=D104_1 (fun p1 p2 p3 x=>lk2 b (bodL Pz 104 5) s (S104_1 p1 p2 p3 x) (lp104_1 p1 p2 p3 x) (O104_1 p1 p2 p3)) s
theorem sF104_1:∀ b,LSound Pz b (F104_1 b):=fun _ _ _ h=>lk2_ok (L104_1 _ _ _ _) h
noncomputable def B104:Base:=baseOf Pz (fun f i=>lkC f i K104) [(77,G77),(131,G131),(157,G157),(158,G158)] [(104,5,F104_1)] []
theorem hB104:BOk B104:=base_ok named_z ⟨s77,s131,s157,s158,trivial⟩ ⟨sF104_1,trivial⟩ trivial
noncomputable def N104 (a:Pos) (b:Int):Int:=(bif !N77 a.variant b then (-1) else (bif decide (N131 (Pos.mk a.variant a.board a.promoted a.pockets a.turn a.rooks a.passing a.checks a.half a.full) b 6 < 0) then (-1) else (bif isL ((lp104_1 b (N131 (Pos.mk a.variant a.board a.promoted a.pockets a.turn a.rooks a.passing a.checks a.half a.full) b 6) (Pos.mk a.variant a.board a.promoted a.pockets a.turn a.rooks a.passing a.checks a.half a.full) 0).getD default) then (-1) else (N131 (Pos.mk a.variant a.board a.promoted a.pockets a.turn a.rooks a.passing a.checks a.half a.full) b 6))))
noncomputable def ok104 (a:Pos) (b:Int):Bool:=(ok131 (Pos.mk a.variant a.board a.promoted a.pockets a.turn a.rooks a.passing a.checks a.half a.full) (b) (6)&&(bif !N77 a.variant b then true else (bif decide (N131 (Pos.mk a.variant a.board a.promoted a.pockets a.turn a.rooks a.passing a.checks a.half a.full) b 6 < 0) then true else ((lp104_1 b (N131 (Pos.mk a.variant a.board a.promoted a.pockets a.turn a.rooks a.passing a.checks a.half a.full) b 6) (Pos.mk a.variant a.board a.promoted a.pockets a.turn a.rooks a.passing a.checks a.half a.full) 0).isSome&&bif isL ((lp104_1 b (N131 (Pos.mk a.variant a.board a.promoted a.pockets a.turn a.rooks a.passing a.checks a.half a.full) b 6) (Pos.mk a.variant a.board a.promoted a.pockets a.turn a.rooks a.passing a.checks a.half a.full) 0).getD default) then true else true))))
theorem P104 (a:Pos) (b:Int) (h:ok104 a b=true):PS Pz 104 [Pos.av a,.int .u8 b] ((dI .i64).res (N104 a b)):=ps_sum (n:=14) hB104 (by kernel_rfl) (by kernel_rfl) (by kernel_rfl) h
noncomputable def G104:List AV→Tr AV:=g2 dPos (dI .u8) (fun a b=>gdv (ok104 a b) ((dI .i64).res (N104 a b)))
theorem s104:Sound Pz 104 G104:=sound2 fun a b=>at_gd (P104 a b)
noncomputable def K47:List (Nat×Nat×List (Nat×List Nat)):=[(47,21,[(0,(1::2::(rn 14 6 []))),(1,(1::2::7::(rn 14 6 []))),(2,[4]),(3,(1::2::5::(rn 14 6 []))),(4,[4])])]
noncomputable def B47:Base:=baseOf Pz (fun f i=>lkC f i K47) [(104,G104),(105,G105)] [] []
theorem hB47:BOk B47:=base_ok named_z ⟨s104,s105,trivial⟩ trivial trivial
noncomputable def N47 (a:Pos) (b:Int):Bool:=(bif decide (b > 1) then (false) else (bif decide (N104 a b ≥ 0) then (N105 a (N104 a b) (wr .u8 (1 - b)) != 0#64) else (false)))
noncomputable def ok47 (a:Pos) (b:Int):Bool:=(bif decide (b > 1) then true else (ok104 (a) (b)&&(bif decide (N104 a b ≥ 0) then (ok105 (a) (N104 a b) (wr .u8 (1 - b))&&true) else true)))
theorem P47 (a:Pos) (b:Int) (h:ok47 a b=true):PS Pz 47 [Pos.av a,.int .u8 b] (dB.res (N47 a b)):=ps_sum (n:=14) hB47 (by kernel_rfl) (by kernel_rfl) (by kernel_rfl) h
noncomputable def G47:List AV→Tr AV:=g2 dPos (dI .u8) (fun a b=>gdv (ok47 a b) (dB.res (N47 a b)))
theorem s47:Sound Pz 47 G47:=sound2 fun a b=>at_gd (P47 a b)
end Kz
end
section
namespace Kz
open Go Go.RowKit
set_option maxRecDepth 100000
set_option maxHeartbeats 1000000
set_option linter.unusedSectionVars false
theorem N105_eq {p:Pos} (hp:PosIn p) (ht:p.turn=0∨p.turn=1) {t:Nat} (h64:t < 64) {c:Int} (hc:c=0∨c=1):ok105 p t c=true∧N105 p t c=N190 p t c:=by
  obtain ⟨h1,h2⟩:=N105_bit hp ht h64 c
  refine ⟨h1,BitVec.eq_of_getLsbD_eq fun s hs => ?_⟩
  rw [h2 s hs,N190_bit hp h64 hc hs]
theorem lp104 {p:Pos} (hp:PosIn p) {b:Int} (hb:b=0∨b=1) {k:Nat} (hk:k < 64):∃ r,lp104_1 b k p 0=some r∧isL r=(p.variant==3&&(N149 k&&&N101 p (wr .u8 (1 - b)) 6 != 0#64)):=by
  have w1:wr .u8 (1 - b)=1 - b:=wu8 (by omega) (by omega)
  rw [w1]
  have kings:∀ n:Nat,n < 64→(N149 k&&&N101 p (1 - b) 6).getLsbD n=(N158 n k&&tOf (1 - b) 6 (p.board.getD n 0)):=fun n hn=>by
    obtain ⟨_,f6,_⟩:=hits_fin ⟨n,hn⟩ ⟨k,hk⟩
    obtain ⟨_,y6,_⟩:=sym_fin ⟨n,hn⟩ ⟨k,hk⟩
    simp only at f6 y6
    rw [BitVec.getLsbD_and,N101_bit _ _ _ hn,← y6,← f6]
    have:hitsF 6 0 n k false=N158 n k:=by
      have h:∀ a b:Fin 64,hitsF 6 0 a.val b.val false=N158 a.val b.val:=by decide +kernel
      exact h ⟨n,hn⟩ ⟨k,hk⟩
    rw [this]
  cases hv:p.variant==3 with
  | false =>
    have e:itl (fun x=>bif okL104_1 b k p x then st104_1 b k p x else .bad) 1 0=some (.inr (0,false)):=by
      rw [itl]
      have:(bif okL104_1 b k p 0 then st104_1 b k p 0 else .bad)=.out (.inr (0,false)):=by
        unfold okL104_1 st104_1
        rw [hv]
        rfl
      rw [this]
    exact ⟨_,itl_more _ many _ _ (by unfold many; omega) e,rfl⟩
  | true =>
    rw [Bool.true_and]
    refine lp_many (I:=fun x => ∃ n:Nat,n≤64∧x=(n:Int)∧∀ j,j < n→(N149 k&&&N101 p (1 - b) 6).getLsbD j=false) (μ:=fun x=>(64 - x).toNat) ?_ _ ⟨0,by omega,rfl,fun j hj=>by omega⟩ (by simp)
    rintro _ ⟨n,hn,rfl,h⟩
    unfold okL104_1 st104_1
    rw [show (Pos.mk p.variant p.board p.promoted p.pockets p.turn p.rooks p.passing p.checks p.half p.full)=p from rfl,hv,w1]
    by_cases hc64:n < 64
    · obtain ⟨e1,e2⟩:=N157_is hp (c:=1 - b) (k:=6) (by omega) (by omega) (by omega) hc64
      have hbit:=kings n hc64
      rw [e1,e2,wi64 (n:=(n:Int)+1) (by omega) (by omega)]
      have keep:(N149 k&&&N101 p (1 - b) 6).getLsbD n=false→Nxt (fun x:Int => ∃ n:Nat,n≤64∧x=(n:Int)∧∀ j,j < n→(N149 k&&&N101 p (1 - b) 6).getLsbD j=false) (fun r:Unit ⊕ (Int×Bool)=>isL r=(N149 k&&&N101 p (1 - b) 6 != 0#64)) (fun x=>(64 - x).toNat) (64 - (n:Int)).toNat (.go ((n:Int)+1)):=fun hf=>by
        refine ⟨⟨n+1,by omega,rfl,fun j hj => ?_⟩,by show (64 - ((n:Int)+1)).toNat < (64 - (n:Int)).toNat; omega⟩
        by_cases e:j=n
        · rw [e]; exact hf
        · exact h j (by omega)
      constructor
      · repeat' (first | with_reducible rfl | refine a_true ?_ (fun _ => ?_) | refine c_true (fun _ => ?_) (fun _ => ?_))
      · refine c_ind (fun _ => ?_) fun h'=>absurd h' (by simp; omega)
        rw [cond_true]
        refine c_ind (fun h1=>c_ind (fun h2 => ?_) fun h2 => ?_) fun h1 => ?_
        · show true=_
          rw [h2,h1] at hbit
          have:N149 k&&&N101 p (1 - b) 6≠0#64:=fun e=>by rw [e] at hbit; simp at hbit
          simpa using this
        · exact keep (by rw [hbit,h2]; rfl)
        · exact keep (by rw [hbit,h1,Bool.and_false])
    · have e:n=64:=by omega
      subst e
      refine ⟨c_true (fun h'=>absurd h' (by simp)) fun _=>rfl,c_ind (fun h'=>absurd h' (by simp)) fun _ => ?_⟩
      show false=_
      have:N149 k&&&N101 p (1 - b) 6=0#64:=BitVec.eq_of_getLsbD_eq fun j hj=>by rw [h j hj]; simp
      rw [this]
      rfl
theorem royal_fin:∀ (v:Fin 9) (b:Fin 2),N77 v.val b.val=N61 v.val b.val:=by decide +kernel
theorem royal_eq {v b:Int} (v0:0≤v) (hb:b=0∨b=1):N77 v b=N61 v b:=by
  obtain ⟨n,rfl⟩:=Int.eq_ofNat_of_zero_le v0
  by_cases h9:n < 9
  · rcases hb with rfl | rfl
    · exact royal_fin ⟨n,h9⟩ 0
    · exact royal_fin ⟨n,h9⟩ 1
  · unfold N77 N61
    rw [show decide ((n:Int) < 9)=false by simp; omega,show decide ((n:Int) ≥ 9)=true by simp; omega]
    rcases hb with rfl | rfl <;> rfl
theorem N47_eq {p:Pos} (hp:PosIn p) (ht:p.turn=0∨p.turn=1) {b:Int} (hb:b=0∨b=1):ok47 p b=true∧N47 p b=N103 p b:=by
  obtain ⟨f1,f2⟩:=N131_eq hp (c:=b) (k:=6) hb (by omega) (by omega)
  have w1:wr .u8 (1 - b)=1 - b:=wu8 (by omega) (by omega)
  have hroy:=royal_eq (b:=b) hp.v0 hb
  have pe:(Pos.mk p.variant p.board p.promoted p.pockets p.turn p.rooks p.passing p.checks p.half p.full)=p:=rfl
  unfold ok47 N47 ok104 N104 N103 N155 N156
  rw [pe,f1,f2,hroy,show decide (b > 1)=false by simp; omega]
  rcases N99_cases p b 6 with ⟨a1,_⟩ | ⟨k,hk,a1,_⟩
  · rw [a1]
    cases N61 p.variant b
    · exact ⟨rfl,rfl⟩
    · exact ⟨rfl,rfl⟩
  · rw [a1]
    obtain ⟨l1,l2⟩:=of_some (lp104 hp hb hk)
    obtain ⟨o1,o2⟩:=N105_eq hp ht hk (c:=1 - b) (by omega)
    rw [l1,l2,w1,show decide ((k:Int) < 0)=false by simp]
    cases N61 p.variant b
    · exact ⟨rfl,rfl⟩
    · cases p.variant==3
      · simp only [Bool.false_and,cond_false,Bool.not_true,cond_true,Bool.true_and,Bool.and_true]
        rw [show decide ((k:Int) ≥ 0)=true by simp,o1,o2]
        exact ⟨rfl,rfl⟩
      · cases (N149 k&&&N101 p (1 - b) 6 != 0#64)
        · simp only [Bool.true_and,cond_false,Bool.not_true,cond_true,Bool.and_true]
          rw [show decide ((k:Int) ≥ 0)=true by simp,o1,o2]
          exact ⟨rfl,rfl⟩
        · exact ⟨rfl,rfl⟩
theorem range_flat {α:Type} (g:Nat→List α) (n:Nat):(List.range (n+1)).flatMap g=(List.range n).flatMap g++g n:=by
  rw [List.range_succ,List.flatMap_append]
  simp
theorem flat_range_le {α:Type} (g:Nat→List α) (c:Nat) (h:∀ i,(g i).length≤c):∀ n,((List.range n).flatMap g).length≤c * n
  | 0=>by simp
  | n+1=>by
    rw [range_flat,List.length_append]
    have:=flat_range_le g c h n
    have:=h n
    rw [Nat.mul_succ]
    omega
section
variable {p:Pos} (hp:PosIn p) (ht:p.turn=0∨p.turn=1)
include hp ht
theorem lp113b {a:Nat} (ha:a < 64) (p3:Nat) (out:List Mv) (ho:out.length≤100000):∃ r,lp113_5 a p p3 (out,0)=some r∧r.1=out++(List.range 64).flatMap (mvsR p a):=by
  refine lp_many (I:=fun x => ∃ n:Nat,n≤64∧x=(out++(List.range n).flatMap (mvsR p a),(n:Int))) (μ:=fun x=>(64 - x.2).toNat) ?_ _ ⟨0,by omega,by simp⟩ (by simp)
  rintro _ ⟨n,hn,rfl⟩
  have hsc:(scale 1 (a:Int)).toNat=a:=by unfold scale; simp
  have hlen:=flat_range_le (mvsR p a) 5 (mvsR_len p a) n
  unfold okL113_5 st113_5
  dsimp only
  rw [hsc]
  by_cases hc:n < 64
  · have k175:=t160 hp ht ha hc
    have wa:wr IntKind.i8 (a:Int)=a:=wi8 (by omega) (by omega)
    have wn:wr IntKind.i8 (n:Int)=n:=wi8 (by omega) (by omega)
    have kl:(decide (0≤(a:Int))&&decide ((a:Int) < Int.ofNat 64))=true:=by simp; omega
    have kap:((out++(List.range n).flatMap (mvsR p a)).length==(out++(List.range n).flatMap (mvsR p a)).length&&decide ((out++(List.range n).flatMap (mvsR p a)).length+1≤1073741824)&&true)=true:=by
      have:(out++(List.range n).flatMap (mvsR p a)).length≤1000000:=by rw [List.length_append]; omega
      generalize (out++(List.range n).flatMap (mvsR p a)).length=k at this
      simp
      omega
    have h177:(N162 p.variant).length≤5:=by
      unfold N162
      exact c_ind (P:=fun l:List Int=>l.length≤5) (fun _=>by simp) fun _=>c_ind (P:=fun l:List Int=>l.length≤5) (fun _=>by simp) fun _=>by simp
    have hl:=of_some (lp113a (N162 p.variant) a n p.turn (N161 p.turn n) (N161 p.turn n != 7) p p3 ⟨a,n,0,0,false⟩ (out++(List.range n).flatMap (mvsR p a)) h177 (by rw [List.length_append]; omega))
    rw [wa,wn,wi64 (n:=(n:Int)+1) (by omega) (by omega)]
    constructor
    · refine c_true (fun _=>a_true k175 fun _=>c_true (fun _=>rfl) fun _=>a_true kl fun _=>c_true (fun _=>kap) fun _=>c_true (fun _=>kap) fun _=>a_true hl.1 fun _=>rfl) fun _=>rfl
    · have go:∀ l:List Mv,l=out++(List.range n).flatMap (mvsR p a)++mvsR p a n→Nxt (fun x:List Mv×Int => ∃ n:Nat,n≤64∧x=(out++(List.range n).flatMap (mvsR p a),(n:Int))) (fun r:List Mv×Int×Bool=>r.1=out++(List.range 64).flatMap (mvsR p a)) (fun x=>(64 - x.2).toNat) (64 - (n:Int)).toNat (.go (l,(n:Int)+1)):=by
        rintro _ rfl
        exact ⟨⟨n+1,by omega,by rw [range_flat,List.append_assoc]; rfl⟩,by show (64 - ((n:Int)+1)).toNat < _; omega⟩
      refine c_ind (fun _=>c_ind (fun h1 => ?_) fun h1=>c_ind (fun h2 => ?_) fun h2=>c_ind (fun h3 => ?_) fun h3 => ?_) fun h=>absurd h (by simp; omega)
      · exact go _ (by unfold mvsR; rw [h1]; simp)
      · exact go _ (by unfold mvsR; rw [h1,h2]; rfl)
      · exact go _ (by unfold mvsR; rw [h1,h2,h3]; rfl)
      · exact go _ (by rw [hl.2]; unfold mvsR; rw [h1,h2,h3]; rfl)
  · have e:n=64:=by omega
    subst e
    exact ⟨rfl,rfl⟩
theorem lp113c (p3:Nat):∃ r,lp113_6 p p3 ([],0)=some r∧r.1=(List.range 64).flatMap fun a=>(List.range 64).flatMap (mvsR p a):=by
  refine lp_many (I:=fun x => ∃ n:Nat,n≤64∧x=((List.range n).flatMap (fun a=>(List.range 64).flatMap (mvsR p a)),(n:Int))) (μ:=fun x=>(64 - x.2).toNat) ?_ _ ⟨0,by omega,by simp⟩ (by simp)
  rintro _ ⟨n,hn,rfl⟩
  have hlen:=flat_range_le (fun a=>(List.range 64).flatMap (mvsR p a)) 320 (fun a=>flat_range_le (mvsR p a) 5 (mvsR_len p a) 64) n
  unfold okL113_6 st113_6
  dsimp only
  by_cases hc:n < 64
  · have hl:=of_some (lp113b hp ht hc p3 ((List.range n).flatMap (fun a=>(List.range 64).flatMap (mvsR p a))) (by omega))
    rw [wi64 (n:=(n:Int)+1) (by omega) (by omega)]
    constructor
    · exact c_true (fun _=>a_true hl.1 fun _=>rfl) fun _=>rfl
    · refine c_ind (fun _ => ?_) fun h=>absurd h (by simp; omega)
      rw [hl.2]
      exact ⟨⟨n+1,by omega,by rw [range_flat (fun a=>(List.range 64).flatMap (mvsR p a)) n]; rfl⟩,by show (64 - ((n:Int)+1)).toNat < _; omega⟩
  · have e:n=64:=by omega
    subst e
    exact ⟨rfl,rfl⟩
end
theorem filter_flat {α β:Type} (q:α→Bool) (g:α→List β):∀ l:List α,(l.filter q).flatMap g=l.flatMap fun a=>bif q a then g a else []
  | []=>rfl
  | a::l=>by
    rw [List.flatMap_cons,← filter_flat q g l]
    cases h:q a with
    | true=>rw [List.filter_cons_of_pos h]; rfl
    | false=>rw [List.filter_cons_of_neg (by simp [h])]; rfl
theorem map_flat {α β γ:Type} (f:α→β) (g:β→List γ):∀ l:List α,(l.map f).flatMap g=l.flatMap fun a=>g (f a)
  | []=>rfl
  | a::l=>by rw [List.map_cons,List.flatMap_cons,List.flatMap_cons,map_flat f g l]
theorem flat_congr {α β:Type} {g h:α→List β}:∀ {l:List α},(∀ a ∈ l,g a=h a)→l.flatMap g=l.flatMap h
  | [],_=>rfl
  | a::l,e=>by rw [List.flatMap_cons,List.flatMap_cons,e a (by simp),flat_congr fun b hb=>e b (by simp [hb])]
section
variable {p:Pos} (hp:PosIn p) (ht:there p)
include hp ht
theorem mvsR_eq {a b:Nat} (ha:a < 64) (hb:b < 64):mvsR p a b=bif (own p).getLsbD a then (bif (N177 (p,own p,oth p) a).getLsbD b then mvs p a b else []) else []:=by
  have t0:=hp.t0
  have htt:p.turn=0∨p.turn=1:=by have:=ht.1; omega
  cases ho:(own p).getLsbD a with
  | false =>
    have e1:=N132_bit hp htt htt ha
    rw [show N101 p p.turn 0=own p from rfl,ho] at e1
    have:N160 p a b=false:=by
      unfold N160
      rw [e1]
      cases (a:Int)==(b:Int) <;> rfl
    unfold mvsR
    rw [this]
    rfl
  | true =>
    have hm:N160 p a b=(N177 (p,own p,oth p) a).getLsbD b:=by
      by_cases hk:N106 (p.board.getD a 0)=1
      · exact pawn_may hp htt ha hb ho hk
      · exact may_bit hp htt ha hb ho hk
    obtain ⟨b0,b1⟩:=bd_in hp a
    have m91:=(men' b0 b1).1
    unfold mvsR mvs
    rw [hm,show ((a:Int)).toNat=a by omega,m91]
    obtain ⟨c,hc⟩:∃ c:Fin 2,p.turn=c.val:=by
      rcases htt with h | h
      · exact ⟨0,h⟩
      · exact ⟨1,h⟩
    have r1:=(rank_fin c ⟨b,hb⟩).1
    simp only at r1
    rw [← hc] at r1
    rw [r1]
    have hpr:(N162 p.variant).map (fun k=>(⟨a,b,k,0,false⟩:Mv))=(proms p.variant).flatMap fun k=>[⟨a,b,k,0,false⟩]:=by
      have v0:=hp.v0
      have v9:=ht.2
      have e:N162 p.variant=proms p.variant:=by
        unfold N162 proms
        by_cases h4:p.variant=4
        · rw [h4]; rfl
        · rw [show (p.variant==4)=false by simpa using h4,cond_false]
          by_cases h8:p.variant < 8
          · rw [decide_eq_true h8,cond_true,if_pos ⟨v0,by omega⟩,if_neg h4]
          · rw [decide_eq_false h8,cond_false,if_neg (by omega)]
      rw [e]
      induction proms p.variant with
      | nil=>rfl
      | cons k l ih=>rw [List.map_cons,List.flatMap_cons,ih]; rfl
    rw [hpr]
    cases (N177 (p,own p,oth p) a).getLsbD b <;> rfl
theorem N113_eq:ok113 p=true∧N113 p=N85 p:=by
  have t0:=hp.t0
  have htt:p.turn=0∨p.turn=1:=by have:=ht.1; omega
  have h34:N19 p=true:=by
    unfold N19
    rw [decide_eq_true ht.2,decide_eq_true (show p.turn < 2 by have:=ht.1; omega)]
    rfl
  have hl:=of_some (lp113c hp htt 0)
  constructor
  · unfold ok113
    rw [h34]
    exact a_true hl.1 fun _=>rfl
  · unfold N113
    rw [h34,N85_there hp.v0 ht]
    show (_:List Mv)=_
    rw [show (bif !true then ([]:List Mv) else ((lp113_6 p 0 ([],0)).getD default).1)=((lp113_6 p 0 ([],0)).getD default).1 from rfl,hl.2]
    unfold sqs
    rw [map_flat,filter_flat]
    refine flat_congr fun a ha => ?_
    have ha:a < 64:=List.mem_range.1 ha
    unfold froms sqs
    rw [map_flat,filter_flat]
    have e:(List.range 64).flatMap (mvsR p a)=(List.range 64).flatMap fun b=>bif (own p).getLsbD a then (bif (N177 (p,own p,oth p) a).getLsbD b then mvs p a b else []) else [] :=
      flat_congr fun b hb=>mvsR_eq hp ht ha (List.mem_range.1 hb)
    rw [e]
    cases (own p).getLsbD a with
    | true=>rfl
    | false =>
      show (List.range 64).flatMap (fun _=>([]:List Mv))=[]
      induction List.range 64 with
      | nil=>rfl
      | cons x l ih=>rw [List.flatMap_cons,ih]; rfl
end
end Kz
end
section
namespace Kz
open Go Go.RowKit Go.Proofs
set_option maxRecDepth 100000
set_option maxHeartbeats 4000000
noncomputable def K115:List (Nat×Nat×List (Nat×List Nat)):=[(115,61,[(0,(1::10::11::12::(rn 22 8 (rn 40 10 [])))),(1,(1::3::10::11::12::(rn 22 8 (rn 40 10 [])))),(2,(1::3::13::(rn 22 8 (rn 40 10 [])))),(3,[2]),(4,(1::3::4::(rn 22 8 (rn 40 10 [])))),(5,(1::3::4::16::(rn 22 8 (rn 40 10 [])))),(6,(1::3::4::(rn 22 8 (rn 40 10 [])))),(7,(1::3::4::5::(rn 22 8 (rn 40 10 [])))),(8,(1::3::4::5::(rn 22 9 (rn 40 10 [])))),(9,(1::3::4::5::(rn 22 8 (rn 40 10 [])))),(10,(1::3::4::5::(rn 22 8 (rn 40 11 [])))),(11,(1::3::4::5::(rn 22 8 (rn 40 10 [])))),(12,[2])])]
noncomputable def B115_2:Base:=baseOf Pz (fun f i=>lkC f i K115) [(106,G106)] [] []
theorem hB115_2:BOk B115_2:=base_ok named_z ⟨s106,trivial⟩ trivial trivial
noncomputable def S115_2 (p1:Int) (p2:Pos) (p3:Nat) (x:((List Mv)×Int)):St:=St.mk (AV.any::AV.ptr 0 0::AV.any::AV.list ET.mv x.fst (Tk.own 1)::AV.int .u8 p1::AV.int .i64 x.snd::(an 55 [])) (Hp.mk [(pc p2 [])] [p3,x.fst.length] [] 0 0 0)
noncomputable def O115_2 (p1:Int) (p2:Pos) (p3:Nat):((List Mv)×Int×Bool)→Out:=fun y=>.exit 2 (St.mk (AV.any::AV.ptr 0 0::AV.any::AV.list ET.mv y.fst (Tk.own 1)::AV.int .u8 p1::AV.int .i64 y.snd.fst::(an 24 (AV.bool y.snd.snd::(an 30 [])))) (Hp.mk [(pc p2 [])] [p3,y.fst.length] [] 0 0 0))
noncomputable def st115_2 (p1:Int) (p2:Pos) (p3:Nat) (x:((List Mv)×Int)):Stp ((List Mv)×Int) (((List Mv)×Int×Bool)):=(bif decide (x.snd < 64) then (bif decide (p2.pockets.getD (scale 6 p2.turn+scale 1 p1).toNat 0 > 0) then (bif N106 (p2.board.getD (scale 1 x.snd).toNat 0) != 0 then (Stp.go (x.fst,wr .i64 (x.snd+1))) else (bif p1==1 then (bif decide (x.snd < 8) then (Stp.go (x.fst,wr .i64 (x.snd+1))) else (bif decide (x.snd > 55) then (Stp.go (x.fst,wr .i64 (x.snd+1))) else (Stp.go (x.fst++[Mv.mk (wr .i8 x.snd) (wr .i8 x.snd) 0 p1 false],wr .i64 (x.snd+1))))) else (Stp.go (x.fst++[Mv.mk (wr .i8 x.snd) (wr .i8 x.snd) 0 p1 false],wr .i64 (x.snd+1))))) else (Stp.out ((x.fst,x.snd,decide (p2.pockets.getD (scale 6 p2.turn+scale 1 p1).toNat 0 > 0))))) else (Stp.out ((x.fst,x.snd,false))))
noncomputable def okL115_2 (p1:Int) (p2:Pos) (p3:Nat) (x:((List Mv)×Int)):Bool:=(bif decide (x.snd < 64) then (decide (0≤p2.turn)&&decide (p2.turn < Int.ofNat 2)&&(decide (0≤p1)&&decide (p1 < Int.ofNat 6)&&(bif decide (p2.pockets.getD (scale 6 p2.turn+scale 1 p1).toNat 0 > 0) then (decide (0≤x.snd)&&decide (x.snd < Int.ofNat 64)&&(bif N106 (p2.board.getD (scale 1 x.snd).toNat 0) != 0 then true else (bif p1==1 then (bif decide (x.snd < 8) then true else (bif decide (x.snd > 55) then true else (x.fst.length==x.fst.length&&decide (x.fst.length+1≤1073741824)&&true))) else (x.fst.length==x.fst.length&&decide (x.fst.length+1≤1073741824)&&true)))) else true))) else true)
noncomputable def lp115_2 (p1:Int) (p2:Pos) (p3:Nat) (x:((List Mv)×Int)):Option (((List Mv)×Int×Bool)):=itl (fun x=>bif okL115_2 p1 p2 p3 x then st115_2 p1 p2 p3 x else .bad) many x
abbrev D115_2 {α:Type} (k:Int→Pos→Nat→((List Mv)×Int)→α) (s:St):α:=wP s 0 fun q0=>k (tI (tT s 4)) q0 (tK s 0) ((tL (ET.mv) (tT s 3)),(tI (tT s 5)))
theorem L115_2 (p1:Int) (p2:Pos) (p3:Nat) (x:((List Mv)×Int)) (r:((List Mv)×Int×Bool)) (h:lp115_2 p1 p2 p3 x=some r):LSpec Pz (bodL Pz 115 8) (S115_2 p1 p2 p3 x) (O115_2 p1 p2 p3 r):=LSpec.smd (m:=12) (fn:=115) hB115_2 (D115_2 fun _ _ _ x=>some x) (fun o=>match o with | .exit 2 s=>some ((tL ET.mv (tT s 3)),(tI (tT s 5)),(tB (tT s 30))) | _=>none) (fun _=>rfl) (fun _=>by kernel_rfl) (fun _=>by kernel_rfl) (fun _=>by kernel_rfl) (fun _=>by kernel_rfl) many x r h
noncomputable def F115_2 (b:Code) (s:St):Tr Out:=D115_2 (fun p1 p2 p3 x=>lk1 b (bodL Pz 115 8) s (S115_2 p1 p2 p3 x) (lp115_2 p1 p2 p3 x) (O115_2 p1 p2 p3)) s
theorem sF115_2:∀ b,LSound Pz b (F115_2 b):=fun _ _ _ h=>lk1_ok (L115_2 _ _ _ _) h
noncomputable def B115_3:Base:=baseOf Pz (fun f i=>lkC f i K115) [(106,G106)] [(115,8,F115_2)] []
theorem hB115_3:BOk B115_3:=base_ok named_z ⟨s106,trivial⟩ ⟨sF115_2,trivial⟩ trivial
noncomputable def S115_3 (p1:Pos) (p2:Nat) (x:((List Mv)×Int)):St:=St.mk (AV.any::AV.ptr 0 0::AV.any::AV.list ET.mv x.fst (Tk.own 1)::AV.int .u8 x.snd::(an 56 [])) (Hp.mk [(pc p1 [])] [p2,x.fst.length] [] 0 0 0)
noncomputable def O115_3 (p1:Pos) (p2:Nat):((List Mv)×Int×Bool)→Out:=fun y=>.exit 0 (St.mk (AV.any::AV.ptr 0 0::AV.any::AV.list ET.mv y.fst (Tk.own 1)::AV.int .u8 y.snd.fst::(an 11 (AV.bool y.snd.snd::(an 44 [])))) (Hp.mk [(pc p1 [])] [p2,y.fst.length] [] 0 0 0))
noncomputable def st115_3 (p1:Pos) (p2:Nat) (x:((List Mv)×Int)):Stp ((List Mv)×Int) (((List Mv)×Int×Bool)):=(bif decide (x.snd≤5) then (Stp.go (((lp115_2 x.snd p1 p2 (x.fst,0)).getD default).fst,wr .u8 (x.snd+1))) else (Stp.out ((x.fst,x.snd,decide (x.snd≤5)))))
noncomputable def okL115_3 (p1:Pos) (p2:Nat) (x:((List Mv)×Int)):Bool:=(bif decide (x.snd≤5) then ((lp115_2 x.snd p1 p2 (x.fst,0)).isSome&&true) else true)
noncomputable def lp115_3 (p1:Pos) (p2:Nat) (x:((List Mv)×Int)):Option (((List Mv)×Int×Bool)):=itl (fun x=>bif okL115_3 p1 p2 x then st115_3 p1 p2 x else .bad) many x
abbrev D115_3 {α:Type} (k:Pos→Nat→((List Mv)×Int)→α) (s:St):α:=wP s 0 fun q0=>k q0 (tK s 0) ((tL (ET.mv) (tT s 3)),(tI (tT s 4)))
theorem L115_3 (p1:Pos) (p2:Nat) (x:((List Mv)×Int)) (r:((List Mv)×Int×Bool)) (h:lp115_3 p1 p2 x=some r):LSpec Pz (bodL Pz 115 5) (S115_3 p1 p2 x) (O115_3 p1 p2 r):=LSpec.smd (m:=12) (fn:=115) hB115_3 (D115_3 fun _ _ x=>some x) (fun o=>match o with | .exit 0 s=>some ((tL ET.mv (tT s 3)),(tI (tT s 4)),(tB (tT s 16))) | _=>none) (fun _=>rfl) (fun _=>by kernel_rfl) (fun _=>by kernel_rfl) (fun _=>by kernel_rfl) (fun _=>by kernel_rfl) many x r h
noncomputable def F115_3 (b:Code) (s:St):Tr Out:=D115_3 (fun p1 p2 x=>lk1 b (bodL Pz 115 5) s (S115_3 p1 p2 x) (lp115_3 p1 p2 x) (O115_3 p1 p2)) s
theorem sF115_3:∀ b,LSound Pz b (F115_3 b):=fun _ _ _ h=>lk1_ok (L115_3 _ _ _) h
noncomputable def B115:Base:=baseOf Pz (fun f i=>lkC f i K115) [(106,G106)] [(115,8,F115_2),(115,5,F115_3)] []
theorem hB115:BOk B115:=base_ok named_z ⟨s106,trivial⟩ ⟨sF115_2,sF115_3,trivial⟩ trivial
noncomputable def N115 (a:Pos):List Mv:=(bif decide (a.turn > 1) then ([]) else (bif a.variant != 2 then ([]) else (((lp115_3 a 0 ([],1)).getD default).fst)))
noncomputable def ok115 (a:Pos):Bool:=(bif decide (a.turn > 1) then true else (bif a.variant != 2 then true else ((lp115_3 a 0 ([],1)).isSome&&true)))
theorem P115 (a:Pos) (h:ok115 a=true):PS Pz 115 [Pos.av a] ((dL .mv).res (N115 a)):=ps_sum (n:=14) hB115 (by kernel_rfl) (by kernel_rfl) (by kernel_rfl) h
noncomputable def G115:List AV→Tr AV:=g1 dPos (fun a=>gdv (ok115 a) ((dL .mv).res (N115 a)))
theorem s115:Sound Pz 115 G115:=sound1 fun a=>at_gd (P115 a)
end Kz
end
section
namespace Kz
open Go Go.RowKit
set_option maxRecDepth 100000
set_option maxHeartbeats 1000000
set_option linter.unusedSectionVars false
def backRank (s:Nat):Bool:=decide (s < 8) || decide (s > 55)
noncomputable def dropR (p:Pos) (k:Int) (s:Nat):List Mv:=bif N106 (p.board.getD s 0) != 0 then [] else bif k==1 then (bif backRank s then [] else [⟨s,s,0,k,false⟩]) else [⟨s,s,0,k,false⟩]
noncomputable def dropsR (p:Pos) (k:Int):List Mv:=bif decide (p.pockets.getD (scale 6 p.turn+scale 1 k).toNat 0 > 0) then (List.range 64).flatMap (dropR p k) else []
theorem dropR_len (p:Pos) (k:Int) (s:Nat):(dropR p k s).length≤1:=by
  unfold dropR
  exact c_ind (P:=fun l:List Mv=>l.length≤1) (fun _=>by simp) fun _=>c_ind (P:=fun l:List Mv=>l.length≤1) (fun _=>c_ind (P:=fun l:List Mv=>l.length≤1) (fun _=>by simp) fun _=>by simp) fun _=>by simp
section
variable {p:Pos} (hp:PosIn p) (ht:p.turn≤1)
include hp ht
theorem lp115a {k:Int} (k0:0≤k) (k1:k≤5) (p3:Nat) (out:List Mv) (ho:out.length≤100000):∃ r,lp115_2 k p p3 (out,0)=some r∧r.1=out++dropsR p k:=by
  have t0:=hp.t0
  unfold dropsR
  cases hpk:decide (p.pockets.getD (scale 6 p.turn+scale 1 k).toNat 0 > 0) with
  | false =>
    have e:itl (fun x=>bif okL115_2 k p p3 x then st115_2 k p p3 x else .bad) 1 (out,0)=some (out,0,false):=by
      rw [itl]
      have:(bif okL115_2 k p p3 (out,0) then st115_2 k p p3 (out,0) else .bad)=.out (out,0,false):=by
        unfold okL115_2 st115_2
        dsimp only
        rw [hpk,show (decide (0≤p.turn)&&decide (p.turn < Int.ofNat 2))=true by simp; omega,show (decide (0≤k)&&decide (k < Int.ofNat 6))=true by simp; omega]
        rfl
      rw [this]
    exact ⟨_,itl_more _ many _ _ (by unfold many; omega) e,by simp⟩
  | true =>
    rw [cond_true]
    refine lp_many (I:=fun x => ∃ n:Nat,n≤64∧x=(out++(List.range n).flatMap (dropR p k),(n:Int))) (μ:=fun x=>(64 - x.2).toNat) ?_ _ ⟨0,by omega,by simp⟩ (by simp)
    rintro _ ⟨n,hn,rfl⟩
    have hsc:(scale 1 (n:Int)).toNat=n:=by unfold scale; simp
    have hlen:=flat_range_le (dropR p k) 1 (dropR_len p k) n
    unfold okL115_2 st115_2
    dsimp only
    rw [hsc,hpk]
    by_cases hc:n < 64
    · have wn:wr IntKind.i8 (n:Int)=n:=wi8 (by omega) (by omega)
      have kt:(decide (0≤p.turn)&&decide (p.turn < Int.ofNat 2))=true:=by simp; omega
      have kk:(decide (0≤k)&&decide (k < Int.ofNat 6))=true:=by simp; omega
      have kn:(decide (0≤(n:Int))&&decide ((n:Int) < Int.ofNat 64))=true:=by simp; omega
      have kap:((out++(List.range n).flatMap (dropR p k)).length==(out++(List.range n).flatMap (dropR p k)).length&&decide ((out++(List.range n).flatMap (dropR p k)).length+1≤1073741824)&&true)=true:=by
        have:(out++(List.range n).flatMap (dropR p k)).length≤1000000:=by rw [List.length_append]; omega
        generalize (out++(List.range n).flatMap (dropR p k)).length=q at this
        simp
        omega
      rw [wn,wi64 (n:=(n:Int)+1) (by omega) (by omega),show decide ((n:Int) < 8)=decide (n < 8) by rw [decide_eq_decide]; omega,show decide ((n:Int) > 55)=decide (n > 55) by rw [decide_eq_decide]; omega]
      constructor
      · refine c_true (fun _=>a_true kt fun _=>a_true kk fun _=>c_true (fun _=>a_true kn fun _=>c_true (fun _=>rfl) fun _=>c_true (fun _=>c_true (fun _=>rfl) fun _=>c_true (fun _=>rfl) fun _=>kap) fun _=>kap) fun _=>rfl) fun _=>rfl
      · have go:∀ l:List Mv,l=out++(List.range n).flatMap (dropR p k)++dropR p k n→Nxt (fun x:List Mv×Int => ∃ n:Nat,n≤64∧x=(out++(List.range n).flatMap (dropR p k),(n:Int))) (fun r:List Mv×Int×Bool=>r.1=out++(List.range 64).flatMap (dropR p k)) (fun x=>(64 - x.2).toNat) (64 - (n:Int)).toNat (.go (l,(n:Int)+1)):=by
          rintro _ rfl
          exact ⟨⟨n+1,by omega,by rw [range_flat (dropR p k) n,List.append_assoc]; rfl⟩,by show (64 - ((n:Int)+1)).toNat < _; omega⟩
        refine c_ind (fun _ => ?_) fun h=>absurd h (by simp; omega)
        rw [cond_true]
        refine c_ind (fun h1 => ?_) fun h1=>c_ind (fun h2=>c_ind (fun h3 => ?_) fun h3=>c_ind (fun h4 => ?_) fun h4 => ?_) fun h2 => ?_
        · exact go _ (by unfold dropR; rw [h1]; simp)
        · exact go _ (by unfold dropR backRank; rw [h1,h2,h3]; simp)
        · exact go _ (by unfold dropR backRank; rw [h1,h2,h3,h4]; simp)
        · exact go _ (by unfold dropR backRank; rw [h1,h2,h3,h4]; rfl)
        · exact go _ (by unfold dropR; rw [h1,h2]; rfl)
    · have e:n=64:=by omega
      subst e
      exact ⟨rfl,rfl⟩
theorem dropsR_len (k:Int):(dropsR p k).length≤64:=by
  unfold dropsR
  refine c_ind (P:=fun l:List Mv=>l.length≤64) (fun _ => ?_) fun _=>by simp
  have:=flat_range_le (dropR p k) 1 (dropR_len p k) 64
  omega
theorem lp115b:∃ r,lp115_3 p 0 ([],1)=some r∧r.1=[1,2,3,4,5].flatMap (dropsR p):=by
  refine lp_many (I:=fun x => ∃ n:Nat,n≤5∧x=(([1,2,3,4,5].take n).flatMap (dropsR p),(n:Int)+1)) (μ:=fun x=>(6 - x.2).toNat) ?_ _ ⟨0,by omega,rfl⟩ (by simp)
  rintro _ ⟨n,hn,rfl⟩
  have hlen:=flat_le (([1,2,3,4,5]:List Int).take n) (dropsR p) 64 fun k _=>dropsR_len hp ht k
  have htl:(([1,2,3,4,5]:List Int).take n).length≤5:=by rw [List.length_take]; simp; omega
  unfold okL115_3 st115_3
  dsimp only
  by_cases hc:n < 5
  · have hl:=of_some (lp115a hp ht (k:=(n:Int)+1) (by omega) (by omega) 0 ((([1,2,3,4,5]:List Int).take n).flatMap (dropsR p)) (by omega))
    rw [wu8 (n:=(n:Int)+1+1) (by omega) (by omega)]
    constructor
    · exact c_true (fun _=>a_true hl.1 fun _=>rfl) fun _=>rfl
    · refine c_ind (fun _ => ?_) fun h=>absurd h (by simp; omega)
      rw [hl.2]
      refine ⟨⟨n+1,by omega,?_⟩,by show (6 - ((n:Int)+1+1)).toNat < (6 - ((n:Int)+1)).toNat; omega⟩
      have:(([1,2,3,4,5]:List Int).take (n+1)).flatMap (dropsR p)=(([1,2,3,4,5]:List Int).take n).flatMap (dropsR p)++dropsR p ((n:Int)+1):=by
        have h5:n=0∨n=1∨n=2∨n=3∨n=4:=by omega
        rcases h5 with rfl | rfl | rfl | rfl | rfl <;> simp
      rw [this]
      rfl
  · have e:n=5:=by omega
    subst e
    exact ⟨rfl,rfl⟩
end
theorem men146:∀ v:Fin 256,N144 v.val=!(N106 v.val==0):=by decide +kernel
theorem kinds28b {v:Int} (h0:0≤v) (h1:v≤255):N144 v=!(N106 v==0):=by
  obtain ⟨n,rfl⟩:=Int.eq_ofNat_of_zero_le h0
  exact men146 ⟨n,by omega⟩
theorem mask_fin:∀ s:Fin 64,(72057594037927680#64).getLsbD s.val=!backRank s.val:=by decide +kernel
theorem drops_same {p:Pos} (hp:PosIn p) (k:Int):dropsR p k=drops p k:=by
  have hk:0≤p.pockets.getD (scale 6 p.turn+scale 1 k).toNat 0:=(getD_in hp.k0 (by omega) _).1
  have bit:∀ s,s < 64→(~~~N143 p).getLsbD s=(N106 (p.board.getD s 0)==0):=fun s hs=>by
    obtain ⟨b0,b1⟩:=bd_in hp s
    rw [BitVec.getLsbD_not,N143_bit _ hs,(kinds28b b0 b1)]
    simp [hs]
  unfold dropsR drops
  generalize p.pockets.getD (scale 6 p.turn+scale 1 k).toNat 0=v at hk
  by_cases h0:v=0
  · rw [h0]; rfl
  · rw [show decide (v > 0)=true by simp; omega,show (v==0)=false by simpa using h0,cond_true,cond_false]
    unfold sqs
    rw [map_flat,filter_flat,map_flat,filter_flat]
    by_cases h1:(k==1)=true
    · rw [h1,cond_true]
      refine flat_congr fun s hs => ?_
      have hs:s < 64:=List.mem_range.1 hs
      rw [BitVec.getLsbD_and,bit s hs,mask_fin ⟨s,hs⟩]
      unfold dropR
      rw [h1]
      cases hz:N106 (p.board.getD s 0)==0
      · rw [show (N106 (p.board.getD s 0) != 0)=true by simpa using hz]; rfl
      · rw [show (N106 (p.board.getD s 0) != 0)=false by simpa using hz]
        cases backRank s <;> rfl
    · rw [show (k==1)=false by simpa using h1,cond_false]
      refine flat_congr fun s hs => ?_
      have hs:s < 64:=List.mem_range.1 hs
      rw [bit s hs]
      unfold dropR
      rw [show (k==1)=false by simpa using h1]
      cases hz:N106 (p.board.getD s 0)==0
      · rw [show (N106 (p.board.getD s 0) != 0)=true by simpa using hz]; rfl
      · rw [show (N106 (p.board.getD s 0) != 0)=false by simpa using hz]; rfl
theorem N115_eq {p:Pos} (hp:PosIn p):ok115 p=true∧N115 p=N87 p:=by
  rw [N87_eq hp.t0]
  unfold ok115 N115
  by_cases ht:p.turn≤1
  · rw [show decide (p.turn > 1)=false by simp; omega]
    have hl:=of_some (lp115b hp ht)
    have h112:N142 p.variant=(p.variant==2):=by
      have v0:=hp.v0
      unfold N142
      by_cases h2:p.variant=2
      · rw [h2]; rfl
      · rw [show (p.variant==2)=false by simpa using h2]
        cases decide (p.variant ≥ 9) <;> cases p.variant==0 <;> cases p.variant==1 <;> cases p.variant==3 <;> cases p.variant==4 <;> cases p.variant==5 <;> cases p.variant==6 <;> cases p.variant==7 <;> rfl
    rw [h112]
    by_cases h2:p.variant=2
    · rw [show (p.variant != 2)=false by simp [h2],show (p.variant==2)=true by simp [h2]]
      refine ⟨a_true hl.1 fun _=>rfl,?_⟩
      show ((lp115_3 p 0 ([],1)).getD default).1=[1,2,3,4,5].flatMap (drops p)
      rw [hl.2,show dropsR p=drops p from funext fun k=>drops_same hp k]
    · rw [show (p.variant != 2)=true by simpa using h2,show (p.variant==2)=false by simpa using h2]
      exact ⟨rfl,rfl⟩
  · rw [show decide (p.turn > 1)=true by simp; omega]
    exact ⟨rfl,rfl⟩
end Kz
end
section
namespace Kz
open Go Go.RowKit Go.Proofs
set_option maxRecDepth 100000
set_option maxHeartbeats 4000000
noncomputable def K165:List (Nat×Nat×List (Nat×List Nat)):=[(165,6,[(0,[0]),(1,[5]),(2,[2,3]),(3,[2,3])])]
noncomputable def B165:Base:=baseOf Pz (fun f i=>lkC f i K165) [] [] []
theorem hB165:BOk B165:=base_ok named_z trivial trivial trivial
noncomputable def N165 (a:Int):(Int×Int):=(bif a==0 then ((6),(5)) else ((2),(3)))
noncomputable def ok165 (a:Int):Bool:=true
theorem P165 (a:Int) (h:ok165 a=true):PS Pz 165 [.int .i64 a] ((d2 (dI .i64) (dI .i64)).res (N165 a)):=ps_sum (n:=14) hB165 (by kernel_rfl) (by kernel_rfl) (by kernel_rfl) h
noncomputable def G165:List AV→Tr AV:=g1 (dI .i64) (fun a=>.ret ((d2 (dI .i64) (dI .i64)).res (N165 a)))
theorem s165:Sound Pz 165 G165:=sound1 fun a=>at_rt (P165 a rfl)
noncomputable def K194:List (Nat×Nat×List (Nat×List Nat)):=[(194,13,[(0,[0,6,7,10,11]),(1,[2])])]
noncomputable def B194:Base:=baseOf Pz (fun f i=>lkC f i K194) [] [] []
theorem hB194:BOk B194:=base_ok named_z trivial trivial trivial
noncomputable def N194 (a:Int):Bool:=(bif decide (a < 9) then (bif a != 4 then (a != 8) else (false)) else (false))
noncomputable def ok194 (a:Int):Bool:=true
theorem P194 (a:Int) (h:ok194 a=true):PS Pz 194 [.int .u8 a] (dB.res (N194 a)):=ps_sum (n:=14) hB194 (by kernel_rfl) (by kernel_rfl) (by kernel_rfl) h
noncomputable def G194:List AV→Tr AV:=g1 (dI .u8) (fun a=>.ret (dB.res (N194 a)))
theorem s194:Sound Pz 194 G194:=sound1 fun a=>at_rt (P194 a rfl)
noncomputable def K195:List (Nat×Nat×List (Nat×List Nat)):=[(195,25,[(0,(0::1::2::11::12::13::(rn 16 8 []))),(1,[6])])]
noncomputable def B195:Base:=baseOf Pz (fun f i=>lkC f i K195) [] [] []
theorem hB195:BOk B195:=base_ok named_z trivial trivial trivial
noncomputable def N195 (a:Int) (b:Int) (c:Int):Bool:=(bif decide (a ≥ b) then (bif decide (a≤c) then (true) else (bif decide (a ≥ c) then (decide (a≤b)) else (false))) else (bif decide (a ≥ c) then (decide (a≤b)) else (false)))
noncomputable def ok195 (a:Int) (b:Int) (c:Int):Bool:=true
theorem P195 (a:Int) (b:Int) (c:Int) (h:ok195 a b c=true):PS Pz 195 [.int .i64 a,.int .i64 b,.int .i64 c] (dB.res (N195 a b c)):=ps_sum (n:=14) hB195 (by kernel_rfl) (by kernel_rfl) (by kernel_rfl) h
noncomputable def G195:List AV→Tr AV:=g3 (dI .i64) (dI .i64) (dI .i64) (fun a b c=>.ret (dB.res (N195 a b c)))
theorem s195:Sound Pz 195 G195:=sound3 fun a b c=>at_rt (P195 a b c rfl)
noncomputable def K196:List (Nat×Nat×List (Nat×List Nat)):=[(196,33,[(0,[1,2,9,10,11,22,23,24]),(1,[1,2,5,9,10,11,22,23,24]),(2,(1::2::5::(rn 9 4 [22,23,24]))),(3,[1,2,5,9,10,11,22,23,24]),(4,(1::2::5::9::10::11::(rn 22 4 []))),(5,[4]),(6,[4])])]
noncomputable def B196_1:Base:=baseOf Pz (fun f i=>lkC f i K196) [(105,G105),(157,G157),(158,G158)] [] []
theorem hB196_1:BOk B196_1:=base_ok named_z ⟨s105,s157,s158,trivial⟩ trivial trivial
noncomputable def S196_1 (p1:Int) (p2:Pos) (x:(Int)):St:=St.mk (AV.any::AV.int .i64 p1::AV.ptr 0 0::AV.any::AV.any::AV.int .i64 x::(an 27 [])) (Hp.mk [(pc p2 [])] [] [] 0 0 0)
noncomputable def O196_1 (p1:Int) (p2:Pos):Unit ⊕ (Int×Bool)→Out
  | (.inl (y))=>.ret (St.mk (an 4 (AV.cbool true::(an 28 []))) (Hp.mk [(pc p2 [])] [] [] 0 0 0))
  | (.inr (y))=>.exit 0 (St.mk (AV.any::AV.int .i64 p1::AV.ptr 0 0::AV.any::AV.any::AV.int .i64 y.fst::(an 6 (AV.bool y.snd::(an 20 [])))) (Hp.mk [(pc p2 [])] [] [] 0 0 0))
noncomputable def st196_1 (p1:Int) (p2:Pos) (x:(Int)):Stp (Int) (Unit ⊕ (Int×Bool)):=(bif decide (x < 64) then (bif p2.variant==3 then (bif N157 p2 x (wr .u8 (1 - p2.turn)) 6 then (bif N158 x p1 then (Stp.out (.inl (()))) else (Stp.go (wr .i64 (x+1)))) else (Stp.go (wr .i64 (x+1)))) else (Stp.out (.inr ((x,p2.variant==3))))) else (Stp.out (.inr ((x,false)))))
noncomputable def okL196_1 (p1:Int) (p2:Pos) (x:(Int)):Bool:=(bif decide (x < 64) then (bif p2.variant==3 then (ok157 (p2) (x) (wr .u8 (1 - p2.turn)) (6)&&true) else true) else true)
noncomputable def lp196_1 (p1:Int) (p2:Pos) (x:(Int)):Option (Unit ⊕ (Int×Bool)):=itl (fun x=>bif okL196_1 p1 p2 x then st196_1 p1 p2 x else .bad) many x
abbrev D196_1 {α:Type} (k:Int→Pos→(Int)→α) (s:St):α:=wP s 0 fun q0=>k (tI (tT s 1)) q0 ((tI (tT s 5)))
theorem L196_1 (p1:Int) (p2:Pos) (x:(Int)) (r:Unit ⊕ (Int×Bool)) (h:lp196_1 p1 p2 x=some r):LSpec Pz (bodL Pz 196 2) (S196_1 p1 p2 x) (O196_1 p1 p2 r):=LSpec.smd (m:=12) (fn:=196) hB196_1 (D196_1 fun _ _ x=>some x) (fun o=>match o with | .ret s=>some (.inl ()) | .exit 0 s=>some (.inr ((tI (tT s 5)),(tB (tT s 12)))) | _=>none) (fun r=>by cases r <;> rfl) (fun _=>by kernel_rfl) (fun _=>by kernel_rfl) (fun _=>by kernel_rfl) (fun _=>by kernel_rfl) many x r h
noncomputable def F196_1 (b:Code) (s:St):Tr Out:=D196_1 (fun p1 p2 x=>lk2 b (bodL Pz 196 2) s (S196_1 p1 p2 x) (lp196_1 p1 p2 x) (O196_1 p1 p2)) s
theorem sF196_1:∀ b,LSound Pz b (F196_1 b):=fun _ _ _ h=>lk2_ok (L196_1 _ _ _) h
noncomputable def B196:Base:=baseOf Pz (fun f i=>lkC f i K196) [(105,G105),(157,G157),(158,G158)] [(196,2,F196_1)] []
theorem hB196:BOk B196:=base_ok named_z ⟨s105,s157,s158,trivial⟩ ⟨sF196_1,trivial⟩ trivial
noncomputable def N196 (a:Pos) (b:Int):Bool:=(bif isL ((lp196_1 b a 0).getD default) then (true) else (N105 a b (wr .u8 (1 - a.turn))==0#64))
noncomputable def ok196 (a:Pos) (b:Int):Bool:=((lp196_1 b a 0).isSome&&bif isL ((lp196_1 b a 0).getD default) then true else (ok105 (a) (b) (wr .u8 (1 - a.turn))&&true))
theorem P196 (a:Pos) (b:Int) (h:ok196 a b=true):PS Pz 196 [Pos.av a,.int .i64 b] (dB.res (N196 a b)):=ps_sum (n:=14) hB196 (by kernel_rfl) (by kernel_rfl) (by kernel_rfl) h
noncomputable def G196:List AV→Tr AV:=g2 dPos (dI .i64) (fun a b=>gdv (ok196 a b) (dB.res (N196 a b)))
theorem s196:Sound Pz 196 G196:=sound2 fun a b=>at_gd (P196 a b)
noncomputable def K163:List (Nat×Nat×List (Nat×List Nat)):=[(163,138,[(0,(1::2::(rn 20 4 (rn 45 4 (51::52::55::56::(rn 68 7 (rn 77 7 (rn 112 6 (rn 120 6 (rn 128 7 [])))))))))),(1,(1::2::24::(rn 45 4 (51::52::55::56::(rn 68 7 (rn 77 7 (rn 112 6 (rn 120 6 (rn 128 7 []))))))))),(2,[4,5,6]),(3,(1::2::7::(rn 45 4 (51::52::55::56::(rn 68 7 (rn 77 7 (rn 112 6 (rn 120 6 (rn 128 7 []))))))))),(4,(1::2::7::8::(rn 45 4 (51::52::55::56::(rn 68 7 (rn 77 7 (rn 112 6 (rn 120 6 (rn 128 7 []))))))))),(5,(1::2::7::8::9::(rn 45 4 (51::52::55::56::(rn 68 7 (rn 77 7 (rn 112 6 (rn 120 6 (rn 128 7 []))))))))),(6,(1::2::7::8::9::57::(rn 68 7 (rn 77 7 (rn 112 6 (rn 120 6 (rn 128 7 []))))))),(7,[4,5,6]),(8,(1::2::7::8::10::(rn 68 7 (rn 77 7 (rn 112 6 (rn 120 6 (rn 128 7 []))))))),(9,(1::2::7::8::10::84::(rn 112 6 (rn 120 6 (rn 128 7 []))))),(10,[4,5,6]),(11,(2::7::8::10::11::12::(rn 112 6 (rn 120 6 (rn 128 7 []))))),(12,(7::8::(rn 10 4 (rn 112 6 (rn 120 6 (rn 128 7 [])))))),(13,(7::8::(rn 10 4 (rn 112 6 (rn 120 6 (rn 128 7 [])))))),(14,(7::8::(rn 10 4 (rn 112 6 (rn 120 6 (rn 128 7 [])))))),(15,(7::8::(rn 10 5 (rn 112 6 (rn 120 6 (rn 128 7 [])))))),(16,(7::8::(rn 10 5 (101::(rn 112 6 (rn 120 6 (rn 128 7 []))))))),(17,(7::8::(rn 10 5 (rn 112 6 (rn 120 6 (rn 128 7 [])))))),(18,(7::8::(rn 10 6 (rn 112 6 (rn 120 6 (rn 128 7 [])))))),(19,(7::8::(rn 10 5 (rn 112 6 (rn 120 6 (rn 128 8 [])))))),(20,[4,5,6]),(21,[4,5,6])])]
noncomputable def B163_1:Base:=baseOf Pz (fun f i=>lkC f i K163) [(106,G106),(131,G131),(157,G157),(165,G165),(194,G194),(195,G195),(196,G196)] [] []
theorem hB163_1:BOk B163_1:=base_ok named_z ⟨s106,s131,s157,s165,s194,s195,s196,trivial⟩ trivial trivial
noncomputable def S163_1 (p1:Int) (p2:Int) (p3:Int) (p4:Int) (p5:Int) (p6:Pos) (p7:Pos) (x:(Int)):St:=St.mk (an 7 (AV.int .i64 p1::AV.int .i64 p2::AV.any::AV.int .i64 p3::AV.int .i64 p4::AV.int .i64 p5::AV.ptr 1 0::AV.int .i64 x::(an 123 []))) (Hp.mk [(pc p6 []),(pc p7 [])] [] [] 0 0 0)
noncomputable def O163_1 (p1:Int) (p2:Int) (p3:Int) (p4:Int) (p5:Int) (p6:Pos) (p7:Pos):Unit ⊕ (Int×Bool)→Out
  | (.inl (y))=>.ret (St.mk (an 4 (AV.cint .i64 0::AV.cint .i64 0::AV.cbool false::(an 131 []))) (Hp.mk [(pc p6 []),(pc p7 [])] [] [] 0 0 0))
  | (.inr (y))=>.exit 0 (St.mk (an 7 (AV.int .i64 p1::AV.int .i64 p2::AV.any::AV.int .i64 p3::AV.int .i64 p4::AV.int .i64 p5::AV.ptr 1 0::AV.int .i64 y.fst::(an 86 (AV.bool y.snd::(an 36 []))))) (Hp.mk [(pc p6 []),(pc p7 [])] [] [] 0 0 0))
noncomputable def st163_1 (p1:Int) (p2:Int) (p3:Int) (p4:Int) (p5:Int) (p6:Pos) (p7:Pos) (x:(Int)):Stp (Int) (Unit ⊕ (Int×Bool)):=(bif decide (x < wr .i64 (p1+8)) then (bif N195 x p2 (wr .i64 (p1+p4)) then (bif N106 (p7.board.getD (scale 1 x).toNat 0) != 0 then (Stp.out (.inl (()))) else (bif N195 x p2 (wr .i64 (p1+p4)) then (bif !N196 p7 x then (Stp.out (.inl (()))) else (Stp.go (wr .i64 (x+1)))) else (Stp.go (wr .i64 (x+1))))) else (bif N195 x p3 (wr .i64 (p1+p5)) then (bif N106 (p7.board.getD (scale 1 x).toNat 0) != 0 then (Stp.out (.inl (()))) else (bif N195 x p2 (wr .i64 (p1+p4)) then (bif !N196 p7 x then (Stp.out (.inl (()))) else (Stp.go (wr .i64 (x+1)))) else (Stp.go (wr .i64 (x+1))))) else (bif N195 x p2 (wr .i64 (p1+p4)) then (bif !N196 p7 x then (Stp.out (.inl (()))) else (Stp.go (wr .i64 (x+1)))) else (Stp.go (wr .i64 (x+1)))))) else (Stp.out (.inr ((x,decide (x < wr .i64 (p1+8)))))))
noncomputable def okL163_1 (p1:Int) (p2:Int) (p3:Int) (p4:Int) (p5:Int) (p6:Pos) (p7:Pos) (x:(Int)):Bool:=(bif decide (x < wr .i64 (p1+8)) then (bif N195 x p2 (wr .i64 (p1+p4)) then (decide (0≤x)&&decide (x < Int.ofNat 64)&&(bif N106 (p7.board.getD (scale 1 x).toNat 0) != 0 then true else (bif N195 x p2 (wr .i64 (p1+p4)) then (ok196 (p7) (x)&&true) else true))) else (bif N195 x p3 (wr .i64 (p1+p5)) then (decide (0≤x)&&decide (x < Int.ofNat 64)&&(bif N106 (p7.board.getD (scale 1 x).toNat 0) != 0 then true else (bif N195 x p2 (wr .i64 (p1+p4)) then (ok196 (p7) (x)&&true) else true))) else (bif N195 x p2 (wr .i64 (p1+p4)) then (ok196 (p7) (x)&&true) else true))) else true)
noncomputable def lp163_1 (p1:Int) (p2:Int) (p3:Int) (p4:Int) (p5:Int) (p6:Pos) (p7:Pos) (x:(Int)):Option (Unit ⊕ (Int×Bool)):=itl (fun x=>bif okL163_1 p1 p2 p3 p4 p5 p6 p7 x then st163_1 p1 p2 p3 p4 p5 p6 p7 x else .bad) many x
abbrev D163_1 {α:Type} (k:Int→Int→Int→Int→Int→Pos→Pos→(Int)→α) (s:St):α:=wP s 0 fun q0=>wP s 1 fun q1=>k (tI (tT s 7)) (tI (tT s 8)) (tI (tT s 10)) (tI (tT s 11)) (tI (tT s 12)) q0 q1 ((tI (tT s 14)))
theorem L163_1 (p1:Int) (p2:Int) (p3:Int) (p4:Int) (p5:Int) (p6:Pos) (p7:Pos) (x:(Int)) (r:Unit ⊕ (Int×Bool)) (h:lp163_1 p1 p2 p3 p4 p5 p6 p7 x=some r):LSpec Pz (bodL Pz 163 16) (S163_1 p1 p2 p3 p4 p5 p6 p7 x) (O163_1 p1 p2 p3 p4 p5 p6 p7 r):=LSpec.smd (m:=12) (fn:=163) hB163_1 (D163_1 fun _ _ _ _ _ _ _ x=>some x) (fun o=>match o with | .ret s=>some (.inl ()) | .exit 0 s=>some (.inr ((tI (tT s 14)),(tB (tT s 101)))) | _=>none) (fun r=>by cases r <;> rfl) (fun _=>by kernel_rfl) (fun _=>by kernel_rfl) (fun _=>by kernel_rfl) (fun _=>by kernel_rfl) many x r h
noncomputable def F163_1 (b:Code) (s:St):Tr Out:=D163_1 (fun p1 p2 p3 p4 p5 p6 p7 x=>lk2 b (bodL Pz 163 16) s (S163_1 p1 p2 p3 p4 p5 p6 p7 x) (lp163_1 p1 p2 p3 p4 p5 p6 p7 x) (O163_1 p1 p2 p3 p4 p5 p6 p7)) s
theorem sF163_1:∀ b,LSound Pz b (F163_1 b):=fun _ _ _ h=>lk2_ok (L163_1 _ _ _ _ _ _ _ _) h
noncomputable def B163:Base:=baseOf Pz (fun f i=>lkC f i K163) [(106,G106),(131,G131),(157,G157),(165,G165),(194,G194),(195,G195),(196,G196)] [(163,16,F163_1)] []
theorem hB163:BOk B163:=base_ok named_z ⟨s106,s131,s157,s165,s194,s195,s196,trivial⟩ ⟨sF163_1,trivial⟩ trivial
noncomputable def N163 (a:Pos) (b:Int):(Int×Int×Bool):=(bif decide (a.turn > 1) then ((0),(0),(false)) else (bif !N194 a.variant then ((0),(0),(false)) else (bif decide (N131 a a.turn 6 < wr .i64 (56 * wr .i64 a.turn)) then ((0),(0),(false)) else (bif decide (N131 a a.turn 6 > wr .i64 (wr .i64 (56 * wr .i64 a.turn)+7)) then ((0),(0),(false)) else (bif decide (wr .i64 (a.rooks.getD (scale 2 a.turn+scale 1 b).toNat 0) < 0) then ((0),(0),(false)) else (bif decide (wr .i64 (a.rooks.getD (scale 2 a.turn+scale 1 b).toNat 0) > 7) then ((0),(0),(false)) else (bif !N157 a (wr .i64 (wr .i64 (56 * wr .i64 a.turn)+wr .i64 (a.rooks.getD (scale 2 a.turn+scale 1 b).toNat 0))) a.turn 4 then ((0),(0),(false)) else (bif b==0 then (bif decide (wr .i64 (wr .i64 (56 * wr .i64 a.turn)+wr .i64 (a.rooks.getD (scale 2 a.turn+scale 1 b).toNat 0)) < N131 a a.turn 6) then ((0),(0),(false)) else (bif b==1 then (bif decide (wr .i64 (wr .i64 (56 * wr .i64 a.turn)+wr .i64 (a.rooks.getD (scale 2 a.turn+scale 1 b).toNat 0)) > N131 a a.turn 6) then ((0),(0),(false)) else (bif isL ((lp163_1 (wr .i64 (56 * wr .i64 a.turn)) (N131 a a.turn 6) (wr .i64 (wr .i64 (56 * wr .i64 a.turn)+wr .i64 (a.rooks.getD (scale 2 a.turn+scale 1 b).toNat 0))) (N165 b).fst (N165 b).snd a (Pos.mk a.variant ((a.board.set (scale 1 (N131 a a.turn 6)).toNat 0).set (scale 1 (wr .i64 (wr .i64 (56 * wr .i64 a.turn)+wr .i64 (a.rooks.getD (scale 2 a.turn+scale 1 b).toNat 0)))).toNat 0) a.promoted a.pockets a.turn a.rooks a.passing a.checks a.half a.full) (wr .i64 (56 * wr .i64 a.turn))).getD default) then ((0),(0),(false)) else ((N131 a a.turn 6),(wr .i64 (wr .i64 (56 * wr .i64 a.turn)+wr .i64 (a.rooks.getD (scale 2 a.turn+scale 1 b).toNat 0))),(true)))) else (bif isL ((lp163_1 (wr .i64 (56 * wr .i64 a.turn)) (N131 a a.turn 6) (wr .i64 (wr .i64 (56 * wr .i64 a.turn)+wr .i64 (a.rooks.getD (scale 2 a.turn+scale 1 b).toNat 0))) (N165 b).fst (N165 b).snd a (Pos.mk a.variant ((a.board.set (scale 1 (N131 a a.turn 6)).toNat 0).set (scale 1 (wr .i64 (wr .i64 (56 * wr .i64 a.turn)+wr .i64 (a.rooks.getD (scale 2 a.turn+scale 1 b).toNat 0)))).toNat 0) a.promoted a.pockets a.turn a.rooks a.passing a.checks a.half a.full) (wr .i64 (56 * wr .i64 a.turn))).getD default) then ((0),(0),(false)) else ((N131 a a.turn 6),(wr .i64 (wr .i64 (56 * wr .i64 a.turn)+wr .i64 (a.rooks.getD (scale 2 a.turn+scale 1 b).toNat 0))),(true))))) else (bif b==1 then (bif decide (wr .i64 (wr .i64 (56 * wr .i64 a.turn)+wr .i64 (a.rooks.getD (scale 2 a.turn+scale 1 b).toNat 0)) > N131 a a.turn 6) then ((0),(0),(false)) else (bif isL ((lp163_1 (wr .i64 (56 * wr .i64 a.turn)) (N131 a a.turn 6) (wr .i64 (wr .i64 (56 * wr .i64 a.turn)+wr .i64 (a.rooks.getD (scale 2 a.turn+scale 1 b).toNat 0))) (N165 b).fst (N165 b).snd a (Pos.mk a.variant ((a.board.set (scale 1 (N131 a a.turn 6)).toNat 0).set (scale 1 (wr .i64 (wr .i64 (56 * wr .i64 a.turn)+wr .i64 (a.rooks.getD (scale 2 a.turn+scale 1 b).toNat 0)))).toNat 0) a.promoted a.pockets a.turn a.rooks a.passing a.checks a.half a.full) (wr .i64 (56 * wr .i64 a.turn))).getD default) then ((0),(0),(false)) else ((N131 a a.turn 6),(wr .i64 (wr .i64 (56 * wr .i64 a.turn)+wr .i64 (a.rooks.getD (scale 2 a.turn+scale 1 b).toNat 0))),(true)))) else (bif isL ((lp163_1 (wr .i64 (56 * wr .i64 a.turn)) (N131 a a.turn 6) (wr .i64 (wr .i64 (56 * wr .i64 a.turn)+wr .i64 (a.rooks.getD (scale 2 a.turn+scale 1 b).toNat 0))) (N165 b).fst (N165 b).snd a (Pos.mk a.variant ((a.board.set (scale 1 (N131 a a.turn 6)).toNat 0).set (scale 1 (wr .i64 (wr .i64 (56 * wr .i64 a.turn)+wr .i64 (a.rooks.getD (scale 2 a.turn+scale 1 b).toNat 0)))).toNat 0) a.promoted a.pockets a.turn a.rooks a.passing a.checks a.half a.full) (wr .i64 (56 * wr .i64 a.turn))).getD default) then ((0),(0),(false)) else ((N131 a a.turn 6),(wr .i64 (wr .i64 (56 * wr .i64 a.turn)+wr .i64 (a.rooks.getD (scale 2 a.turn+scale 1 b).toNat 0))),(true))))))))))))
noncomputable def ok163 (a:Pos) (b:Int):Bool:=(bif decide (a.turn > 1) then true else (bif !N194 a.variant then true else (ok131 (a) (a.turn) (6)&&(decide (0≤a.turn)&&decide (a.turn < Int.ofNat 2)&&(decide (0≤b)&&decide (b < Int.ofNat 2)&&(bif decide (N131 a a.turn 6 < wr .i64 (56 * wr .i64 a.turn)) then true else (bif decide (N131 a a.turn 6 > wr .i64 (wr .i64 (56 * wr .i64 a.turn)+7)) then true else (bif decide (wr .i64 (a.rooks.getD (scale 2 a.turn+scale 1 b).toNat 0) < 0) then true else (bif decide (wr .i64 (a.rooks.getD (scale 2 a.turn+scale 1 b).toNat 0) > 7) then true else (ok157 (a) (wr .i64 (wr .i64 (56 * wr .i64 a.turn)+wr .i64 (a.rooks.getD (scale 2 a.turn+scale 1 b).toNat 0))) (a.turn) (4)&&(bif !N157 a (wr .i64 (wr .i64 (56 * wr .i64 a.turn)+wr .i64 (a.rooks.getD (scale 2 a.turn+scale 1 b).toNat 0))) a.turn 4 then true else (bif b==0 then (bif decide (wr .i64 (wr .i64 (56 * wr .i64 a.turn)+wr .i64 (a.rooks.getD (scale 2 a.turn+scale 1 b).toNat 0)) < N131 a a.turn 6) then true else (bif b==1 then (bif decide (wr .i64 (wr .i64 (56 * wr .i64 a.turn)+wr .i64 (a.rooks.getD (scale 2 a.turn+scale 1 b).toNat 0)) > N131 a a.turn 6) then true else (decide (0≤N131 a a.turn 6)&&decide (N131 a a.turn 6 < Int.ofNat 64)&&(decide (0≤wr .i64 (wr .i64 (56 * wr .i64 a.turn)+wr .i64 (a.rooks.getD (scale 2 a.turn+scale 1 b).toNat 0)))&&decide (wr .i64 (wr .i64 (56 * wr .i64 a.turn)+wr .i64 (a.rooks.getD (scale 2 a.turn+scale 1 b).toNat 0)) < Int.ofNat 64)&&((lp163_1 (wr .i64 (56 * wr .i64 a.turn)) (N131 a a.turn 6) (wr .i64 (wr .i64 (56 * wr .i64 a.turn)+wr .i64 (a.rooks.getD (scale 2 a.turn+scale 1 b).toNat 0))) (N165 b).fst (N165 b).snd a (Pos.mk a.variant ((a.board.set (scale 1 (N131 a a.turn 6)).toNat 0).set (scale 1 (wr .i64 (wr .i64 (56 * wr .i64 a.turn)+wr .i64 (a.rooks.getD (scale 2 a.turn+scale 1 b).toNat 0)))).toNat 0) a.promoted a.pockets a.turn a.rooks a.passing a.checks a.half a.full) (wr .i64 (56 * wr .i64 a.turn))).isSome&&bif isL ((lp163_1 (wr .i64 (56 * wr .i64 a.turn)) (N131 a a.turn 6) (wr .i64 (wr .i64 (56 * wr .i64 a.turn)+wr .i64 (a.rooks.getD (scale 2 a.turn+scale 1 b).toNat 0))) (N165 b).fst (N165 b).snd a (Pos.mk a.variant ((a.board.set (scale 1 (N131 a a.turn 6)).toNat 0).set (scale 1 (wr .i64 (wr .i64 (56 * wr .i64 a.turn)+wr .i64 (a.rooks.getD (scale 2 a.turn+scale 1 b).toNat 0)))).toNat 0) a.promoted a.pockets a.turn a.rooks a.passing a.checks a.half a.full) (wr .i64 (56 * wr .i64 a.turn))).getD default) then true else true)))) else (decide (0≤N131 a a.turn 6)&&decide (N131 a a.turn 6 < Int.ofNat 64)&&(decide (0≤wr .i64 (wr .i64 (56 * wr .i64 a.turn)+wr .i64 (a.rooks.getD (scale 2 a.turn+scale 1 b).toNat 0)))&&decide (wr .i64 (wr .i64 (56 * wr .i64 a.turn)+wr .i64 (a.rooks.getD (scale 2 a.turn+scale 1 b).toNat 0)) < Int.ofNat 64)&&((lp163_1 (wr .i64 (56 * wr .i64 a.turn)) (N131 a a.turn 6) (wr .i64 (wr .i64 (56 * wr .i64 a.turn)+wr .i64 (a.rooks.getD (scale 2 a.turn+scale 1 b).toNat 0))) (N165 b).fst (N165 b).snd a (Pos.mk a.variant ((a.board.set (scale 1 (N131 a a.turn 6)).toNat 0).set (scale 1 (wr .i64 (wr .i64 (56 * wr .i64 a.turn)+wr .i64 (a.rooks.getD (scale 2 a.turn+scale 1 b).toNat 0)))).toNat 0) a.promoted a.pockets a.turn a.rooks a.passing a.checks a.half a.full) (wr .i64 (56 * wr .i64 a.turn))).isSome&&bif isL ((lp163_1 (wr .i64 (56 * wr .i64 a.turn)) (N131 a a.turn 6) (wr .i64 (wr .i64 (56 * wr .i64 a.turn)+wr .i64 (a.rooks.getD (scale 2 a.turn+scale 1 b).toNat 0))) (N165 b).fst (N165 b).snd a (Pos.mk a.variant ((a.board.set (scale 1 (N131 a a.turn 6)).toNat 0).set (scale 1 (wr .i64 (wr .i64 (56 * wr .i64 a.turn)+wr .i64 (a.rooks.getD (scale 2 a.turn+scale 1 b).toNat 0)))).toNat 0) a.promoted a.pockets a.turn a.rooks a.passing a.checks a.half a.full) (wr .i64 (56 * wr .i64 a.turn))).getD default) then true else true))))) else (bif b==1 then (bif decide (wr .i64 (wr .i64 (56 * wr .i64 a.turn)+wr .i64 (a.rooks.getD (scale 2 a.turn+scale 1 b).toNat 0)) > N131 a a.turn 6) then true else (decide (0≤N131 a a.turn 6)&&decide (N131 a a.turn 6 < Int.ofNat 64)&&(decide (0≤wr .i64 (wr .i64 (56 * wr .i64 a.turn)+wr .i64 (a.rooks.getD (scale 2 a.turn+scale 1 b).toNat 0)))&&decide (wr .i64 (wr .i64 (56 * wr .i64 a.turn)+wr .i64 (a.rooks.getD (scale 2 a.turn+scale 1 b).toNat 0)) < Int.ofNat 64)&&((lp163_1 (wr .i64 (56 * wr .i64 a.turn)) (N131 a a.turn 6) (wr .i64 (wr .i64 (56 * wr .i64 a.turn)+wr .i64 (a.rooks.getD (scale 2 a.turn+scale 1 b).toNat 0))) (N165 b).fst (N165 b).snd a (Pos.mk a.variant ((a.board.set (scale 1 (N131 a a.turn 6)).toNat 0).set (scale 1 (wr .i64 (wr .i64 (56 * wr .i64 a.turn)+wr .i64 (a.rooks.getD (scale 2 a.turn+scale 1 b).toNat 0)))).toNat 0) a.promoted a.pockets a.turn a.rooks a.passing a.checks a.half a.full) (wr .i64 (56 * wr .i64 a.turn))).isSome&&bif isL ((lp163_1 (wr .i64 (56 * wr .i64 a.turn)) (N131 a a.turn 6) (wr .i64 (wr .i64 (56 * wr .i64 a.turn)+wr .i64 (a.rooks.getD (scale 2 a.turn+scale 1 b).toNat 0))) (N165 b).fst (N165 b).snd a (Pos.mk a.variant ((a.board.set (scale 1 (N131 a a.turn 6)).toNat 0).set (scale 1 (wr .i64 (wr .i64 (56 * wr .i64 a.turn)+wr .i64 (a.rooks.getD (scale 2 a.turn+scale 1 b).toNat 0)))).toNat 0) a.promoted a.pockets a.turn a.rooks a.passing a.checks a.half a.full) (wr .i64 (56 * wr .i64 a.turn))).getD default) then true else true)))) else (decide (0≤N131 a a.turn 6)&&decide (N131 a a.turn 6 < Int.ofNat 64)&&(decide (0≤wr .i64 (wr .i64 (56 * wr .i64 a.turn)+wr .i64 (a.rooks.getD (scale 2 a.turn+scale 1 b).toNat 0)))&&decide (wr .i64 (wr .i64 (56 * wr .i64 a.turn)+wr .i64 (a.rooks.getD (scale 2 a.turn+scale 1 b).toNat 0)) < Int.ofNat 64)&&((lp163_1 (wr .i64 (56 * wr .i64 a.turn)) (N131 a a.turn 6) (wr .i64 (wr .i64 (56 * wr .i64 a.turn)+wr .i64 (a.rooks.getD (scale 2 a.turn+scale 1 b).toNat 0))) (N165 b).fst (N165 b).snd a (Pos.mk a.variant ((a.board.set (scale 1 (N131 a a.turn 6)).toNat 0).set (scale 1 (wr .i64 (wr .i64 (56 * wr .i64 a.turn)+wr .i64 (a.rooks.getD (scale 2 a.turn+scale 1 b).toNat 0)))).toNat 0) a.promoted a.pockets a.turn a.rooks a.passing a.checks a.half a.full) (wr .i64 (56 * wr .i64 a.turn))).isSome&&bif isL ((lp163_1 (wr .i64 (56 * wr .i64 a.turn)) (N131 a a.turn 6) (wr .i64 (wr .i64 (56 * wr .i64 a.turn)+wr .i64 (a.rooks.getD (scale 2 a.turn+scale 1 b).toNat 0))) (N165 b).fst (N165 b).snd a (Pos.mk a.variant ((a.board.set (scale 1 (N131 a a.turn 6)).toNat 0).set (scale 1 (wr .i64 (wr .i64 (56 * wr .i64 a.turn)+wr .i64 (a.rooks.getD (scale 2 a.turn+scale 1 b).toNat 0)))).toNat 0) a.promoted a.pockets a.turn a.rooks a.passing a.checks a.half a.full) (wr .i64 (56 * wr .i64 a.turn))).getD default) then true else true))))))))))))))))
theorem P163 (a:Pos) (b:Int) (h:ok163 a b=true):PS Pz 163 [Pos.av a,.int .i64 b] ((d3 (dI .i64) (dI .i64) dB).res (N163 a b)):=ps_sum (n:=14) hB163 (by kernel_rfl) (by kernel_rfl) (by kernel_rfl) h
noncomputable def G163:List AV→Tr AV:=g2 dPos (dI .i64) (fun a b=>gdv (ok163 a b) ((d3 (dI .i64) (dI .i64) dB).res (N163 a b)))
theorem s163:Sound Pz 163 G163:=sound2 fun a b=>at_gd (P163 a b)
noncomputable def K114:List (Nat×Nat×List (Nat×List Nat)):=[(114,29,[(0,[1]),(1,[1,3]),(2,[1,3,4]),(3,[1,3,4,9]),(4,[1,3,4]),(5,(1::(rn 3 5 []))),(6,(1::(rn 3 4 [19]))),(7,[1,3,4]),(8,[2])])]
noncomputable def B114_1:Base:=baseOf Pz (fun f i=>lkC f i K114) [(163,G163)] [] []
theorem hB114_1:BOk B114_1:=base_ok named_z ⟨s163,trivial⟩ trivial trivial
noncomputable def S114_1 (p1:Pos) (p2:Nat) (x:((List Mv)×Int)):St:=St.mk (AV.any::AV.ptr 0 0::AV.any::AV.list ET.mv x.fst (Tk.own 1)::AV.int .i64 x.snd::(an 24 [])) (Hp.mk [(pc p1 [])] [p2,x.fst.length] [] 0 0 0)
noncomputable def O114_1 (p1:Pos) (p2:Nat):((List Mv)×Int×Bool)→Out:=fun y=>.exit 0 (St.mk (AV.any::AV.ptr 0 0::AV.any::AV.list ET.mv y.fst (Tk.own 1)::AV.int .i64 y.snd.fst::(an 4 (AV.bool y.snd.snd::(an 19 [])))) (Hp.mk [(pc p1 [])] [p2,y.fst.length] [] 0 0 0))
noncomputable def st114_1 (p1:Pos) (p2:Nat) (x:((List Mv)×Int)):Stp ((List Mv)×Int) (((List Mv)×Int×Bool)):=(bif decide (x.snd ≥ 0) then (bif (N163 p1 x.snd).snd.snd then (Stp.go (x.fst++[Mv.mk (wr .i8 (N163 p1 x.snd).fst) (wr .i8 (N163 p1 x.snd).snd.fst) 0 0 true],wr .i64 (x.snd - 1))) else (Stp.go (x.fst,wr .i64 (x.snd - 1)))) else (Stp.out ((x.fst,x.snd,decide (x.snd ≥ 0)))))
noncomputable def okL114_1 (p1:Pos) (p2:Nat) (x:((List Mv)×Int)):Bool:=(bif decide (x.snd ≥ 0) then (ok163 (p1) (x.snd)&&(bif (N163 p1 x.snd).snd.snd then (x.fst.length==x.fst.length&&decide (x.fst.length+1≤1073741824)&&true) else true)) else true)
noncomputable def lp114_1 (p1:Pos) (p2:Nat) (x:((List Mv)×Int)):Option (((List Mv)×Int×Bool)):=itl (fun x=>bif okL114_1 p1 p2 x then st114_1 p1 p2 x else .bad) many x
abbrev D114_1 {α:Type} (k:Pos→Nat→((List Mv)×Int)→α) (s:St):α:=wP s 0 fun q0=>k q0 (tK s 0) ((tL (ET.mv) (tT s 3)),(tI (tT s 4)))
theorem L114_1 (p1:Pos) (p2:Nat) (x:((List Mv)×Int)) (r:((List Mv)×Int×Bool)) (h:lp114_1 p1 p2 x=some r):LSpec Pz (bodL Pz 114 3) (S114_1 p1 p2 x) (O114_1 p1 p2 r):=LSpec.smd (m:=12) (fn:=114) hB114_1 (D114_1 fun _ _ x=>some x) (fun o=>match o with | .exit 0 s=>some ((tL ET.mv (tT s 3)),(tI (tT s 4)),(tB (tT s 9))) | _=>none) (fun _=>rfl) (fun _=>by kernel_rfl) (fun _=>by kernel_rfl) (fun _=>by kernel_rfl) (fun _=>by kernel_rfl) many x r h
noncomputable def F114_1 (b:Code) (s:St):Tr Out:=D114_1 (fun p1 p2 x=>lk1 b (bodL Pz 114 3) s (S114_1 p1 p2 x) (lp114_1 p1 p2 x) (O114_1 p1 p2)) s
theorem sF114_1:∀ b,LSound Pz b (F114_1 b):=fun _ _ _ h=>lk1_ok (L114_1 _ _ _) h
noncomputable def B114:Base:=baseOf Pz (fun f i=>lkC f i K114) [(163,G163)] [(114,3,F114_1)] []
theorem hB114:BOk B114:=base_ok named_z ⟨s163,trivial⟩ ⟨sF114_1,trivial⟩ trivial
noncomputable def N114 (a:Pos):List Mv:=(((lp114_1 a 0 ([],1)).getD default).fst)
noncomputable def ok114 (a:Pos):Bool:=((lp114_1 a 0 ([],1)).isSome&&true)
theorem P114 (a:Pos) (h:ok114 a=true):PS Pz 114 [Pos.av a] ((dL .mv).res (N114 a)):=ps_sum (n:=14) hB114 (by kernel_rfl) (by kernel_rfl) (by kernel_rfl) h
noncomputable def G114:List AV→Tr AV:=g1 dPos (fun a=>gdv (ok114 a) ((dL .mv).res (N114 a)))
theorem s114:Sound Pz 114 G114:=sound1 fun a=>at_gd (P114 a)
end Kz
end
